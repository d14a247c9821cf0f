/- FuP, laid together. -/
import Derived.Test.YteihmbaimbogaaaGreatJ24
namespace Go.Proofs.YteihmbaimbogaaaGreat
open Go.RowKit
set_option linter.unusedVariables false
set_option linter.unusedSimpArgs false
def unlinkP (S:VS) (dir:Nat) (name:List UInt8) (n:Nat):VS:=
 let S1:=leaveP S dir name
 let y:VI:= {inoP S1.cur n with links:=(inoP S1.cur n).links-1}
 if y.links=0 then dropP (S1.keep n y) n else S1.keep n y
def chmodP (S:VS) (n mode:Nat):VS:=S.keep n {inoP S.cur n with mode:=mode}
def renameP (S:VS) (dir:Nat) (name:List UInt8) (tz:Nat) (name2:List UInt8) (n:Nat):Option VS:=enterP (leaveP S dir name) tz name2 n
def linkP (S:VS) (n tz:Nat) (name:List UInt8):Option VS:=enterP (S.keep n {inoP S.cur n with links:=(inoP S.cur n).links+1}) tz name n
def zeroI :Array Value:=#[.int .i64 0,.int .i64 0,.int .i64 0,.int .i64 0,.slice none 0 0]
section
variable {w0 w:World} {R:List Asn} {f q p:Nat} {S:VS} {a:VA}
theorem Sep.zero_info {As:List Asn} {b:Nat} (i:Nat) (h:Sep w0 w As) (hi:As[i]? =some (.box b 118 zeroI)) (x:VI) (v:Value):
  w.frozen? ⟨b,0,none⟩=false∧w.frozen? ⟨b,1,none⟩=false∧w.frozen? ⟨b,2,none⟩=false∧w.frozen? ⟨b,3,none⟩=false∧w.frozen? ⟨b,4,none⟩=false∧
  w.cell? ⟨b,0,none⟩=some (.int .i64 0)∧w.cell? ⟨b,1,none⟩=some (.int .i64 0)∧w.cell? ⟨b,2,none⟩=some (.int .i64 0)∧w.cell? ⟨b,3,none⟩=some (.int .i64 0)∧w.cell? ⟨b,4,none⟩=some (.slice none 0 0)∧
  Sep w0 (((((w.setCell ⟨b,0,none⟩ (.int .i64 (x.kind:Nat))).setCell ⟨b,1,none⟩ (.int .i64 (x.mode:Nat))).setCell ⟨b,2,none⟩ (.int .i64 (x.links:Nat))).setCell ⟨b,3,none⟩ (.int .i64 (x.size:Nat))).setCell ⟨b,4,none⟩ v) (As.set i (.box b 118 (infoC x v))):=by
 have z:=fun j=>h.bF i hi j
 have y:=fun j=>h.bC i hi j
 have hlt:=(gF.1 hi).1;have hs:∀(l:List Asn) (A:Asn),l.length=As.length→(l.set i A)[i]? =some A:=fun l A hl=>List.getElem?_set_self (by omega)
 have h1:=h.bS i hi 0 (.int .i64 (x.kind:Nat));have h2:=h1.bS i (hs _ _ rfl) 1 (.int .i64 (x.mode:Nat));have h3:=h2.bS i (hs _ _ (by simp)) 2 (.int .i64 (x.links:Nat));have h4:=h3.bS i (hs _ _ (by simp)) 3 (.int .i64 (x.size:Nat));have h5:=h4.bS i (hs _ _ (by simp)) 4 v;simp only[List.set_set]at h5;exact⟨z 0,z 1,z 2,z 3,z 4,y 0,y 1,y 2,y 3,y 4,h5⟩
theorem inode_no {n:Nat} (hC:VC S a) (hF:VF S) (hn:InoOk S n) (h:Sep w0 w (volR f q p S a::R)):
  Calls Tryz.prog 64 #[.pointer (some ⟨f,0,none⟩),.int .i64 n] w fun e w'=>∃A c a2,e= .returned (.agg #[.int .i64 ((inoP S.cur n).kind:Nat),.int .i64 ((inoP S.cur n).mode:Nat),.int .i64 ((inoP S.cur n).links:Nat),.int .i64 ((inoP S.cur n).size:Nat),.slice A (inoP S.cur n).spots.length c])∧VC S a2∧Sep w0 w' (volR f q p S a2::intsR (.slice A (inoP S.cur n).spots.length c) (spI (inoP S.cur n).spots)::R):=by
 refine(inode_any hC hF hn.lt hn.few h).mono ?_;rintro e w' ⟨v,a2,rfl,hR,h9⟩;obtain⟨A,c,e9⟩:=h9.sl_shape 0 rfl;have hll:(spI (inoP S.cur n).spots).length=(inoP S.cur n).spots.length:=by unfold spI;rw[List.length_map]
 rw[hll]at e9;subst e9;exact⟨A,c,a2,rfl,hR.ok,h9.perm (List.Perm.swap _ _ _)⟩
theorem keep_no {n:Nat} {y:VI} {v:Value} (hC:VC S a) (hF:VF S) (hn:InoOk S n) (hy:y.ok) (hW:SmallW S) (i:Nat) (hv:R[i]? =some (intsR v (spI y.spots))) (h:Sep w0 w (volR f q p S a::R)):
  Calls Tryz.prog 90 #[.pointer (some ⟨f,0,none⟩),.int .i64 n,infoV y v] w fun e w'=>e= .returned (.tuple #[])∧∃a',VC (S.keep n y) a'∧Sep w0 w' (volR f q p (S.keep n y) a'::R):=
 keep_any hC hF hn.lt hy hn.few hW (intsT_part i hv) h
set_option maxRecDepth 100000 in
set_option maxHeartbeats 4000000 in
theorem chmod1_any {bf bi bn n mode:Nat} (hR0:∀W Y,Sep w0 W (Y++R)→W.cell? ⟨bf,0,none⟩=some (.pointer (some ⟨f,0,none⟩))∧W.cell? ⟨bn,0,none⟩=some (.int .i64 n)∧W.cell? ⟨bi,3,none⟩=some (.int .i64 mode))
  (hC:VC S a) (hF:VF S) (hn:InoOk S n) (hs:SmallW S) (hmode:mode≤511) (h:Sep w0 w (volR f q p S a::R)):
  Calls Tryz.prog 107 #[.pointer (some ⟨bf,0,none⟩),.pointer (some ⟨bn,0,none⟩),.pointer (some ⟨bi,0,none⟩)] w (opOut f q p S (some (chmodP S n mode)) w0 R):=by
 have hR:=Lh hR0;obtain⟨SX,hSX⟩:∃SX,SX=S:=⟨_,rfl⟩;obtain⟨aX,haX⟩:∃aX,aX=a:=⟨_,rfl⟩;obtain⟨xX,hxX⟩:∃xX,xX=inoP SX.cur n:=⟨_,rfl⟩;have hX:Hid (Sep w0 w (volR f q p SX aX::R)):=by rw[hSX,haX];exact Lh h
 have hV:Hid (VC SX aX):=by rw[hSX,haX];exact Lh hC
 have hin:Hid (∀W Y a1,VC SX a1→Sep w0 W (volR f q p SX a1::(Y++R))→Calls Tryz.prog 64 #[.pointer (some ⟨f,0,none⟩),.int .i64 n] W fun e w'=>∃A c a2,e= .returned (.agg #[.int .i64 (xX.kind:Nat),.int .i64 (xX.mode:Nat),.int .i64 (xX.links:Nat),.int .i64 (xX.size:Nat),.slice A xX.spots.length c])∧VC SX a2∧Sep w0 w' (volR f q p SX a2::intsR (.slice A xX.spots.length c) (spI xX.spots)::(Y++R))):=Lh fun W Y a1 h1 h2=>by rw[hxX];exact inode_no h1 (by rw[hSX];exact hF) (by rw[hSX];exact hn) h2
 have hyo:({xX with mode:=mode}:VI).ok:=by(have h1:xX.ok:=by rw[hxX,hSX];exact viD_ok (by have:=hn.few;unfold inoP at this;exact this));exact⟨h1.kind,by show mode<65536;omega,h1.links,h1.size,h1.few,h1.spot⟩
 have hkp:Hid (∀W bx A c a1,VC SX a1→Sep w0 W (volR f q p SX a1:: .box bx 118 (infoC {xX with mode:=mode} (.slice A xX.spots.length c))::intsR (.slice A xX.spots.length c) (spI xX.spots)::R)→Calls Tryz.prog 90 #[.pointer (some ⟨f,0,none⟩),.int .i64 n,.agg #[.int .i64 (xX.kind:Nat),.int .i64 mode,.int .i64 (xX.links:Nat),.int .i64 (xX.size:Nat),.slice A xX.spots.length c]] W fun e w'=>e= .returned (.tuple #[])∧(w'.cell? ⟨bf,0,none⟩=some (.pointer (some ⟨f,0,none⟩))∧w'.cell? ⟨bn,0,none⟩=some (.int .i64 n)∧w'.cell? ⟨bi,3,none⟩=some (.int .i64 mode)∧w'.cell? ⟨bx,0,none⟩=some (.int .i64 (xX.kind:Nat))∧w'.cell? ⟨bx,1,none⟩=some (.int .i64 mode)∧w'.cell? ⟨bx,2,none⟩=some (.int .i64 (xX.links:Nat))∧w'.cell? ⟨bx,3,none⟩=some (.int .i64 (xX.size:Nat))∧w'.cell? ⟨bx,4,none⟩=some (.slice A xX.spots.length c))∧opOut f q p S (some (chmodP S n mode)) w0 R (.returned (.tuple #[])) w'):=Lh fun W bx A c a1 h1 h2=>by
  refine(keep_no (y:= {xX with mode:=mode}) h1 (by rw[hSX];exact hF) (by rw[hSX];exact hn) hyo (by rw[hSX];exact hs) 1 rfl h2).mono ?_;rintro e w' ⟨rfl,a',h3,h4⟩;have h5:=hR0 w' [_,_,_] h4;have h6:=h4.info_cells 1 rfl;refine⟨rfl,⟨h5.1,h5.2.1,h5.2.2,h6.1,h6.2.1,h6.2.2.1,h6.2.2.2.1,h6.2.2.2.2⟩,rfl,a',?_,?_⟩
  ·unfold chmodP;rw[hSX]at hxX h3;rw[hxX]at h3;exact h3
  have h7:Sep w0 w' (.box bx 118 (infoC {xX with mode:=mode} (.slice A xX.spots.length c))::intsR (.slice A xX.spots.length c) (spI xX.spots)::volR f q p (SX.keep n {xX with mode:=mode}) a'::R):=Sep.sel [1,2,0] h4 (by decide) (by simp);unfold chmodP;rw[hSX]at hxX h7;rw[hxX]at h7;exact h7.drop 2
 clear hR0 hC hF hn hs h hyo hSX haX hxX;go_enter Tryz.func107,Tryz.ntmps107;go_wp2_with fail;refine wp_region_Ew (S:=fun w'=>w'.cell? ⟨bf,0,none⟩=some (.pointer (some ⟨f,0,none⟩))∧w'.cell? ⟨bn,0,none⟩=some (.int .i64 n)∧w'.cell? ⟨bi,3,none⟩=some (.int .i64 mode)) 7 (by kernel_rfl) ?_;intro wq hwq;have hX2:Hid (Sep w0 wq (volR f q p SX aX::R)):=by rw[hwq];exact Lh hX.out.drew
 clear hwq hX;have hc:=hR.out wq [_] hX2.out;simp only[List.size_toArray,List.length_cons,List.length_nil,Nat.reduceAdd];refine wpE_tk (i:=0) (v:=?_) hc rfl ?_ ?_;rotate_left
 ·rintro w ⟨e1,e2,e3⟩;go_simp;try with_reducible rfl
 simp only[Act.put,gD];refine wpE_tk (i:=1) (v:=?_) hc rfl ?_ ?_;rotate_left
 ·rintro w ⟨e1,e2,e3⟩;go_simp;try with_reducible rfl
 simp only[Act.put,gD];refine wpE_tk (i:=2) (v:=?_) hc rfl ?_ ?_;rotate_left
 ·rintro w ⟨e1,e2,e3⟩;go_simp;try with_reducible rfl
 simp only[Act.put,gD];refine wpE_tk (i:=3) (v:=?_) hc rfl ?_ ?_;rotate_left
 ·rintro w ⟨e1,e2,e3⟩;go_simp;try with_reducible rfl
 simp only[Act.put,gD];refine wpE_tk (i:=4) (v:=?_) hc rfl ?_ ?_;rotate_left
 ·rintro w ⟨e1,e2,e3⟩;go_simp;try with_reducible rfl
 simp only[Act.put,gD];refine wpE_two8 (i:=5) (j:=6) (by kernel_rfl) rfl rfl (fun K hK=>?_) (fun K hK=>?_)
 focus
  go_simp
  go_at_call 64
  refine(hin.out _ [] _ hV.out hX2.out).mono ?_
  rintro e w9 ⟨A9,c9,a9,rfl,hC9,h9⟩
  have hc9:=hR.out w9 [_,_] h9
  have h8:=Lh (h9.bN 118 zeroI)
  have hc8:=hR.out _ [_,_,_] h8.out
  clear hc hX2
  dsimp only
  refine hK _ _ (fun _=>hc9) ?_
  clear hK K
  try simp only[Act.put,gD]
  refine wpE_one (i:=6) (by kernel_rfl) rfl (fun K hK=>?_)
  go_simp
  unfold zeroI at hc8
  try dsimp only
  refine hK _ _ (fun _=>hc8) ?_
  clear hK K
  try simp only[Act.put,gD]
  obtain⟨bx,hbx⟩:∃bx,bx=w9.heap.size:=⟨_,rfl⟩
  obtain⟨w8,hw8⟩:∃x,x=w9.alloc (.cells #[.int .i64 0,.int .i64 0,.int .i64 0,.int .i64 0,.slice none 0 0] 118):=⟨_,rfl⟩
  have hB:Hid (Sep w0 w8 (.box bx 118 zeroI::volR f q p SX a9::intsR (.slice A9 xX.spots.length c9) (spI xX.spots)::R)):=by rw[hw8,hbx];exact h8
  rw[←hw8,←hbx]
  clear hw8 hbx h8 hc8 hc9 h9
  have hC9':=Lh hC9
  clear hC9
 rotate_left
 focus
  go_simp
  have h9:=Lh (hX2.out.bN 118 zeroI)
  have hc9:=hR.out _ [_,_] h9.out
  clear hc
  unfold zeroI at hc9
  try dsimp only
  refine hK _ _ (fun _=>hc9) ?_
  clear hK K
  try simp only[Act.put,gD]
  obtain⟨bx,hbx⟩:∃bx,bx=wq.heap.size:=⟨_,rfl⟩
  obtain⟨w9,hw9⟩:∃x,x=wq.alloc (.cells #[.int .i64 0,.int .i64 0,.int .i64 0,.int .i64 0,.slice none 0 0] 118):=⟨_,rfl⟩
  have h8:Hid (Sep w0 w9 (volR f q p SX aX::([.box bx 118 zeroI]++R))):=by rw[hw9,hbx];exact Lh (h9.out.perm (List.Perm.swap _ _ _))
  rw[←hw9,←hbx]
  clear hw9 hbx h9 hc9 hX2
  refine wpE_one (i:=5) (by kernel_rfl) rfl (fun K hK=>?_)
  go_simp
  go_at_call 64
  refine(hin.out _ _ _ hV.out h8.out).mono ?_
  rintro e w8 ⟨A9,c9,a9,rfl,hC9,h7⟩
  have hB:Hid (Sep w0 w8 (.box bx 118 zeroI::volR f q p SX a9::intsR (.slice A9 xX.spots.length c9) (spI xX.spots)::R)):=Lh (Sep.sel [2,0,1] h7 (by decide) (by simp))
  have hc9:=hR.out w8 [_,_,_] hB.out
  clear h8 h7
  dsimp only
  refine hK _ _ (fun _=>hc9) ?_
  clear hK K
  try simp only[Act.put,gD]
  clear hc9
  have hC9':=Lh hC9
  clear hC9
 all_goals
  obtain⟨z0,z1,z2,z3,z4,y0,y1,y2,y3,y4,hfin⟩:=hB.out.zero_info 0 rfl xX (.slice A9 xX.spots.length c9)
  replace hfin:=Lh hfin
  clear hB hV
  refine wpE_one (i:=7) (by kernel_rfl) rfl (fun K hK=>?_)
  go_simp
  refine hK _ _ (fun h=>absurd rfl h) ?_
  clear hK K
  try simp only[Act.put,gD]
  refine wpE_done (by kernel_rfl) ?_ _
  clear z0 z1 z2 z3 z4 y0 y1 y2 y3 y4
  obtain⟨w7,hw7⟩:∃w7,w7=(((((w8.setCell ⟨bx,0,none⟩ (.int .i64 (xX.kind:Nat))).setCell ⟨bx,1,none⟩ (.int .i64 (xX.mode:Nat))).setCell ⟨bx,2,none⟩ (.int .i64 (xX.links:Nat))).setCell ⟨bx,3,none⟩ (.int .i64 (xX.size:Nat))).setCell ⟨bx,4,none⟩ (.slice A9 xX.spots.length c9)):=⟨_,rfl⟩
  rw[←hw7]at hfin ⊢
  clear hw7
  have hm3:=(hR.out w7 [_,_,_] hfin.out).2.2
  have d1:=(hfin.out.info_cells 0 rfl).2.1
  have f1:=hfin.out.bF 0 rfl 1
  have h6:Hid (Sep w0 (w7.setCell ⟨bx,1,none⟩ (.int .i64 mode)) (.box bx 118 (infoC {xX with mode:=mode} (.slice A9 xX.spots.length c9))::volR f q p SX a9::intsR (.slice A9 xX.spots.length c9) (spI xX.spots)::R)):=Lh (hfin.out.bS 0 rfl 1 (.int .i64 mode))
  clear hfin
  go_wp2_with fail
  obtain⟨w6,hw6⟩:∃w6,w6=w7.setCell ⟨bx,1,none⟩ (.int .i64 mode):=⟨_,rfl⟩
  rw[←hw6]at h6 ⊢
  clear hw6 hm3 d1 f1
  have k1:=hR.out w6.drew [_,_,_] h6.out.drew
  have k2:=h6.out.drew.info_cells 0 rfl
  have hE:w6.drew.cell? ⟨bf,0,none⟩=some (.pointer (some ⟨f,0,none⟩))∧w6.drew.cell? ⟨bn,0,none⟩=some (.int .i64 n)∧w6.drew.cell? ⟨bi,3,none⟩=some (.int .i64 mode)∧w6.drew.cell? ⟨bx,0,none⟩=some (.int .i64 (xX.kind:Nat))∧w6.drew.cell? ⟨bx,1,none⟩=some (.int .i64 mode)∧w6.drew.cell? ⟨bx,2,none⟩=some (.int .i64 (xX.links:Nat))∧w6.drew.cell? ⟨bx,3,none⟩=some (.int .i64 (xX.size:Nat))∧w6.drew.cell? ⟨bx,4,none⟩=some (.slice A9 xX.spots.length c9):=⟨k1.1,k1.2.1,k1.2.2,k2.1,k2.2.1,k2.2.2.1,k2.2.2.2.1,k2.2.2.2.2⟩
  have hkp2:=hkp.out _ _ _ _ _ hC9'.out (Sep.sel [1,0,2] h6.out.drew (by decide) (by simp))
  clear k1 k2 h6
  refine wp_region_E (S:=fun w'=>w'.cell? ⟨bf,0,none⟩=some (.pointer (some ⟨f,0,none⟩))∧w'.cell? ⟨bn,0,none⟩=some (.int .i64 n)∧w'.cell? ⟨bi,3,none⟩=some (.int .i64 mode)∧w'.cell? ⟨bx,0,none⟩=some (.int .i64 (xX.kind:Nat))∧w'.cell? ⟨bx,1,none⟩=some (.int .i64 mode)∧w'.cell? ⟨bx,2,none⟩=some (.int .i64 (xX.links:Nat))∧w'.cell? ⟨bx,3,none⟩=some (.int .i64 (xX.size:Nat))∧w'.cell? ⟨bx,4,none⟩=some (.slice A9 xX.spots.length c9)) 7 (by kernel_rfl) ?_
  simp only[List.size_toArray,List.length_cons,List.length_nil,Nat.reduceAdd]
  refine wpE_tk (i:=0) (v:=?_) hE rfl ?_ ?_
  rotate_left
  ·rintro w ⟨e1,e2,e3,e4,e5,e6,e7,e8⟩;go_simp;try with_reducible rfl
  simp only[Act.put,gD]
  refine wpE_tk (i:=1) (v:=?_) hE rfl ?_ ?_
  rotate_left
  ·rintro w ⟨e1,e2,e3,e4,e5,e6,e7,e8⟩;go_simp;try with_reducible rfl
  simp only[Act.put,gD]
  refine wpE_tk (i:=2) (v:=?_) hE rfl ?_ ?_
  rotate_left
  ·rintro w ⟨e1,e2,e3,e4,e5,e6,e7,e8⟩;go_simp;try with_reducible rfl
  simp only[Act.put,gD]
  refine wpE_tk (i:=3) (v:=?_) hE rfl ?_ ?_
  rotate_left
  ·rintro w ⟨e1,e2,e3,e4,e5,e6,e7,e8⟩;go_simp;try with_reducible rfl
  simp only[Act.put,gD]
  refine wpE_tk (i:=4) (v:=?_) hE rfl ?_ ?_
  rotate_left
  ·rintro w ⟨e1,e2,e3,e4,e5,e6,e7,e8⟩;go_simp;try with_reducible rfl
  simp only[Act.put,gD]
  refine wpE_tk (i:=5) (v:=?_) hE rfl ?_ ?_
  rotate_left
  ·rintro w ⟨e1,e2,e3,e4,e5,e6,e7,e8⟩;go_simp;try with_reducible rfl
  simp only[Act.put,gD]
  refine wpE_one (i:=6) (by kernel_rfl) rfl (fun K hK=>?_)
  go_simp
  go_at_call 90
  refine hkp2.mono ?_
  rintro e w5 ⟨rfl,hE5,hend⟩
  replace hend:=Lh hend
  clear hkp2 hE
  dsimp only
  refine hK _ _ (fun _=>by simpa[and_assoc]using hE5) ?_
  clear hK K
  try simp only[Act.put,gD]
  refine wpE_done (by kernel_rfl) ?_ _
  go_end0
  exact hend.out
set_option maxRecDepth 100000 in
set_option maxHeartbeats 4000000 in
theorem rename1_any {bf bd bi bt bn dir tz n:Nat} {path path2:List UInt8} (hR0:∀W Y,Sep w0 W (Y++R)→W.cell? ⟨bf,0,none⟩=some (.pointer (some ⟨f,0,none⟩))∧W.cell? ⟨bd,0,none⟩=some (.int .i64 dir)∧W.cell? ⟨bi,1,none⟩=some (strV path)∧W.cell? ⟨bi,2,none⟩=some (strV path2)∧W.cell? ⟨bt,0,none⟩=some (.int .i64 tz)∧W.cell? ⟨bn,0,none⟩=some (.int .i64 n))
  (hC:VC S a) (hF:VF S) (hv:validL path=true) (hp:path.length≤1048576) (hv2:validL path2=true) (hp2:path2.length≤1048576) (hl:LeaveOk S dir (baseP path)) (hs:SmallV S) (he:EnterOk (leaveP S dir (baseP path)) tz n (baseP path2)) (hs2:SmallV (leaveP S dir (baseP path))) (h:Sep w0 w (volR f q p S a::R)):
  Calls Tryz.prog 103 #[.pointer (some ⟨bf,0,none⟩),.pointer (some ⟨bd,0,none⟩),.pointer (some ⟨bi,0,none⟩),.pointer (some ⟨bt,0,none⟩),.pointer (some ⟨bn,0,none⟩)] w (opOut f q p S (renameP S dir (baseP path) tz (baseP path2) n) w0 R):=by
 have hR:=Lh hR0;obtain⟨SX,hSX⟩:∃SX,SX=leaveP S dir (baseP path):=⟨_,rfl⟩;have hlike:Hid (Like S SX):=by rw[hSX];exact Lh (leaveP_like _ _ _)
 have hba:Hid (∀W,Calls Tryz.prog 101 #[strV path] W fun e w'=>e= .returned (strV (baseP path))∧Below W.heap.size W w'):=Lh fun W=>base_any hv hp W
 have hlv:Hid (∀W a1,VC S a1→Sep w0 W (volR f q p S a1::R)→Calls Tryz.prog 100 #[.pointer (some ⟨f,0,none⟩),.int .i64 dir,strV (baseP path)] W fun e w'=>e= .returned (.tuple #[])∧∃a',VC SX a'∧Sep w0 w' (volR f q p SX a'::R)):=Lh fun W a1 h1 h2=>by rw[hSX];exact leave_no h1 hF hl hs h2
 have hba2:Hid (∀W,Calls Tryz.prog 101 #[strV path2] W fun e w'=>e= .returned (strV (baseP path2))∧Below W.heap.size W w'):=Lh fun W=>base_any hv2 hp2 W
 obtain⟨rX,hrX⟩:∃rX,rX=renameP S dir (baseP path) tz (baseP path2) n:=⟨_,rfl⟩;have hen:Hid (∀W a1,VC SX a1→Sep w0 W (volR f q p SX a1::R)→Calls Tryz.prog 104 #[.pointer (some ⟨f,0,none⟩),.int .i64 tz,strV (baseP path2),.int .i64 n] W (opOut f q p SX rX w0 R)):=Lh fun W a1 h1 h2=>by rw[hrX];unfold renameP;rw[←hSX];exact enter_no h1 (hlike.out.vf hF) (by rw[hSX];exact he) (by rw[hSX];exact hs2) h2
 obtain⟨b1,hb1⟩:∃b,b=baseP path:=⟨_,rfl⟩;obtain⟨b2,hb2⟩:∃b,b=baseP path2:=⟨_,rfl⟩;rw[←hrX];rw[←hb1]at hba hlv;rw[←hb2]at hba2 hen;have hX0:=Lh h;have hV0:=Lh hC;clear hR0 hC hF hv hp hv2 hp2 hl hs he hs2 h hSX hrX hb1 hb2;unfold strV at*;go_enter Tryz.func103,Tryz.ntmps103;go_wp2_with fail;have hc:=hR.out w.drew [_] hX0.out.drew;refine wp_region_E (S:=fun w'=>w'.cell? ⟨bf,0,none⟩=some (.pointer (some ⟨f,0,none⟩))∧w'.cell? ⟨bd,0,none⟩=some (.int .i64 dir)∧w'.cell? ⟨bi,1,none⟩=some (.string ⟨path.toArray⟩)∧w'.cell? ⟨bi,2,none⟩=some (.string ⟨path2.toArray⟩)∧w'.cell? ⟨bt,0,none⟩=some (.int .i64 tz)∧w'.cell? ⟨bn,0,none⟩=some (.int .i64 n)) 8 (by kernel_rfl) ?_;simp only[List.size_toArray,List.length_cons,List.length_nil,Nat.reduceAdd];refine wpE_tk (i:=0) (v:=?_) hc rfl ?_ ?_;rotate_left
 ·rintro w ⟨e1,e2,e3,e4,e5,e6⟩;go_simp;try with_reducible rfl
 simp only[Act.put,gD];refine wpE_tk (i:=1) (v:=?_) hc rfl ?_ ?_;rotate_left
 ·rintro w ⟨e1,e2,e3,e4,e5,e6⟩;go_simp;try with_reducible rfl
 simp only[Act.put,gD];refine wpE_tk (i:=2) (v:=?_) hc rfl ?_ ?_;rotate_left
 ·rintro w ⟨e1,e2,e3,e4,e5,e6⟩;go_simp;try with_reducible rfl
 simp only[Act.put,gD];refine wpE_tk (i:=3) (v:=?_) hc rfl ?_ ?_;rotate_left
 ·rintro w ⟨e1,e2,e3,e4,e5,e6⟩;go_simp;try with_reducible rfl
 simp only[Act.put,gD];refine wpE_tk (i:=4) (v:=?_) hc rfl ?_ ?_;rotate_left
 ·rintro w ⟨e1,e2,e3,e4,e5,e6⟩;go_simp;try with_reducible rfl
 simp only[Act.put,gD];refine wpE_tk (i:=5) (v:=?_) hc rfl ?_ ?_;rotate_left
 ·rintro w ⟨e1,e2,e3,e4,e5,e6⟩;go_simp;try with_reducible rfl
 simp only[Act.put,gD];refine wpE_one (i:=6) (by kernel_rfl) rfl (fun K hK=>?_);go_simp;go_at_call 101;refine(hba.out _).mono ?_;rintro e w9 ⟨rfl,hb9⟩;replace hX0:=Lh (hX0.out.drew.pure hb9);have hc9:=hR.out w9 [_] hX0.out;clear hc hb9;dsimp only;refine hK _ _ (fun _=>hc9) ?_;clear hK K;try simp only[Act.put,gD]
 refine wpE_one (i:=7) (by kernel_rfl) rfl (fun K hK=>?_);go_simp;go_at_call 100;refine(hlv.out _ _ hV0.out hX0.out).mono ?_;rintro e w8 ⟨rfl,aX,hC8,h8⟩;have hc8:=hR.out w8 [_] h8;have hV:=Lh hC8;have hX:=Lh h8;clear hC8 h8 hX0 hV0 hc9 hlv hba;dsimp only;refine hK _ _ (fun _=>hc8) ?_;clear hK K;try simp only[Act.put,gD]
 refine wpE_done (by kernel_rfl) ?_ _;clear hc8;go_wp2_with fail;have hc:=hR.out w8.drew [_] hX.out.drew;refine wp_region_E (S:=fun w'=>w'.cell? ⟨bf,0,none⟩=some (.pointer (some ⟨f,0,none⟩))∧w'.cell? ⟨bd,0,none⟩=some (.int .i64 dir)∧w'.cell? ⟨bi,1,none⟩=some (.string ⟨path.toArray⟩)∧w'.cell? ⟨bi,2,none⟩=some (.string ⟨path2.toArray⟩)∧w'.cell? ⟨bt,0,none⟩=some (.int .i64 tz)∧w'.cell? ⟨bn,0,none⟩=some (.int .i64 n)) 9 (by kernel_rfl) ?_;simp only[List.size_toArray,List.length_cons,List.length_nil,Nat.reduceAdd];refine wpE_tk (i:=0) (v:=?_) hc rfl ?_ ?_;rotate_left
 ·rintro w ⟨e1,e2,e3,e4,e5,e6⟩;go_simp;try with_reducible rfl
 simp only[Act.put,gD];refine wpE_tk (i:=1) (v:=?_) hc rfl ?_ ?_;rotate_left
 ·rintro w ⟨e1,e2,e3,e4,e5,e6⟩;go_simp;try with_reducible rfl
 simp only[Act.put,gD];refine wpE_tk (i:=2) (v:=?_) hc rfl ?_ ?_;rotate_left
 ·rintro w ⟨e1,e2,e3,e4,e5,e6⟩;go_simp;try with_reducible rfl
 simp only[Act.put,gD];refine wpE_tk (i:=3) (v:=?_) hc rfl ?_ ?_;rotate_left
 ·rintro w ⟨e1,e2,e3,e4,e5,e6⟩;go_simp;try with_reducible rfl
 simp only[Act.put,gD];refine wpE_tk (i:=4) (v:=?_) hc rfl ?_ ?_;rotate_left
 ·rintro w ⟨e1,e2,e3,e4,e5,e6⟩;go_simp;try with_reducible rfl
 simp only[Act.put,gD];refine wpE_tk (i:=5) (v:=?_) hc rfl ?_ ?_;rotate_left
 ·rintro w ⟨e1,e2,e3,e4,e5,e6⟩;go_simp;try with_reducible rfl
 simp only[Act.put,gD];refine wpE_tk (i:=7) (v:=?_) hc rfl ?_ ?_;rotate_left
 ·rintro w ⟨e1,e2,e3,e4,e5,e6⟩;go_simp;try with_reducible rfl
 simp only[Act.put,gD];refine wpE_one (i:=6) (by kernel_rfl) rfl (fun K hK=>?_);go_simp;go_at_call 101;refine(hba2.out _).mono ?_;rintro e v9 ⟨rfl,hb9⟩;replace hX:=Lh (hX.out.drew.pure hb9);have hc9:=hR.out v9 [_] hX.out;clear hc hb9;dsimp only;refine hK _ _ (fun _=>hc9) ?_;clear hK K;try simp only[Act.put,gD]
 refine wpE_one (i:=8) (by kernel_rfl) rfl (fun K hK=>?_);go_simp;go_at_call 104;refine(hen.out _ _ hV.out hX.out).mono ?_;intro e v8 ho;cases rX with
 |none=>unfold opOut at ho;obtain⟨rfl,T,aT,hLT,hCT,hT⟩:=ho;unfold opOut;exact⟨rfl,rfl,T,aT,hlike.out.trans hLT,hCT,hT⟩
 |some T=>
  unfold opOut at ho;obtain⟨rfl,aT,hCT,hT⟩:=ho;have hc8:=hR.out v8 [_] hT;dsimp only;refine hK _ _ (fun _=>hc8) ?_;clear hK K;(try simp only[Act.put,gD]);refine wpE_done (by kernel_rfl) ?_ _
  go_end0
  unfold opOut;exact⟨rfl,aT,hCT,hT⟩
set_option maxRecDepth 100000 in
set_option maxHeartbeats 4000000 in
theorem unlink1_any {bf bd bi bn dir n:Nat} {path:List UInt8} (hR0:∀W Y,Sep w0 W (Y++R)→W.cell? ⟨bf,0,none⟩=some (.pointer (some ⟨f,0,none⟩))∧W.cell? ⟨bd,0,none⟩=some (.int .i64 dir)∧W.cell? ⟨bi,1,none⟩=some (strV path)∧W.cell? ⟨bn,0,none⟩=some (.int .i64 n))
  (hC:VC S a) (hF:VF S) (hv:validL path=true) (hp:path.length≤1048576) (hl:LeaveOk S dir (baseP path)) (hs:SmallV S) (hn:InoOk (leaveP S dir (baseP path)) n) (hlk:1≤(inoP (leaveP S dir (baseP path)).cur n).links) (hs3:SmallW (leaveP S dir (baseP path)))
  (hnd:InoOk ((leaveP S dir (baseP path)).keep n {inoP (leaveP S dir (baseP path)).cur n with links:=(inoP (leaveP S dir (baseP path)).cur n).links-1}) n) (hs4:SmallW ((leaveP S dir (baseP path)).keep n {inoP (leaveP S dir (baseP path)).cur n with links:=(inoP (leaveP S dir (baseP path)).cur n).links-1})) (h:Sep w0 w (volR f q p S a::R)):
  Calls Tryz.prog 106 #[.pointer (some ⟨bf,0,none⟩),.pointer (some ⟨bd,0,none⟩),.pointer (some ⟨bi,0,none⟩),.pointer (some ⟨bn,0,none⟩)] w (opOut f q p S (some (unlinkP S dir (baseP path) n)) w0 R):=by
 have hR:=Lh hR0;obtain⟨SX,hSX⟩:∃SX,SX=leaveP S dir (baseP path):=⟨_,rfl⟩;have hlike:Hid (Like S SX):=by rw[hSX];exact Lh (leaveP_like _ _ _)
 have hba:Hid (∀W,Calls Tryz.prog 101 #[strV path] W fun e w'=>e= .returned (strV (baseP path))∧Below W.heap.size W w'):=Lh fun W=>base_any hv hp W
 have hlv:Hid (∀W a1,VC S a1→Sep w0 W (volR f q p S a1::R)→Calls Tryz.prog 100 #[.pointer (some ⟨f,0,none⟩),.int .i64 dir,strV (baseP path)] W fun e w'=>e= .returned (.tuple #[])∧∃a',VC SX a'∧Sep w0 w' (volR f q p SX a'::R)):=Lh fun W a1 h1 h2=>by rw[hSX];exact leave_no h1 hF hl hs h2
 obtain⟨xX,hxX⟩:∃xX,xX=inoP SX.cur n:=⟨_,rfl⟩;rw[←hSX,←hxX]at hlk hnd hs4;obtain⟨kl,hkl⟩:∃kl,xX.links=kl+1:=⟨xX.links-1,by omega⟩;rw[hkl,Nat.add_sub_cancel]at hnd hs4;have hin:Hid (∀W Y a1,VC SX a1→Sep w0 W (volR f q p SX a1::(Y++R))→Calls Tryz.prog 64 #[.pointer (some ⟨f,0,none⟩),.int .i64 n] W fun e w'=>∃A c a2,e= .returned (.agg #[.int .i64 (xX.kind:Nat),.int .i64 (xX.mode:Nat),.int .i64 (xX.links:Nat),.int .i64 (xX.size:Nat),.slice A xX.spots.length c])∧VC SX a2∧Sep w0 w' (volR f q p SX a2::intsR (.slice A xX.spots.length c) (spI xX.spots)::(Y++R))):=Lh fun W Y a1 h1 h2=>by rw[hxX];exact inode_no h1 (hlike.out.vf hF) (by rw[hSX];exact hn) h2
 have hxo:xX.ok:=by rw[hxX,hSX];exact viD_ok (by have:=hn.few;unfold inoP at this;exact this)
 have hyo:({xX with links:=kl}:VI).ok:=⟨hxo.kind,hxo.mode,by show kl<65536;have:=hxo.links;omega,hxo.size,hxo.few,hxo.spot⟩;have hkl5:(kl:Int)<65536:=by have:=hxo.links;omega
 obtain⟨SK,hSK⟩:∃SK,SK=SX.keep n {xX with links:=kl}:=⟨_,rfl⟩;rw[←hSK]at hnd hs4;have hlikeK:Hid (Like S SK):=by rw[hSK];exact Lh (hlike.out.keep _ _)
 have hkp:Hid (∀W bx A c a1,VC SX a1→Sep w0 W (volR f q p SX a1:: .box bx 118 (infoC {xX with links:=kl} (.slice A xX.spots.length c))::intsR (.slice A xX.spots.length c) (spI xX.spots)::R)→Calls Tryz.prog 90 #[.pointer (some ⟨f,0,none⟩),.int .i64 n,.agg #[.int .i64 (xX.kind:Nat),.int .i64 (xX.mode:Nat),.int .i64 ((kl:Nat)),.int .i64 (xX.size:Nat),.slice A xX.spots.length c]] W fun e w'=>e= .returned (.tuple #[])∧∃a',VC SK a'∧Sep w0 w' (volR f q p SK a':: .box bx 118 (infoC {xX with links:=kl} (.slice A xX.spots.length c))::intsR (.slice A xX.spots.length c) (spI xX.spots)::R)):=Lh fun W bx A c a1 h1 h2=>by have:=keep_no (n:=n) (y:= {xX with links:=kl}) (v:=.slice A xX.spots.length c) h1 (hlike.out.vf hF) (by rw[hSX];exact hn) hyo (by rw[hSX];exact hs3) 1 rfl h2;rw[hSK];unfold infoV infoC at this;exact this
 have hdr:Hid (∀W a1 Y,VC SK a1→Sep w0 W (volR f q p SK a1::(Y++R))→Calls Tryz.prog 102 #[.pointer (some ⟨f,0,none⟩),.int .i64 n] W fun e w'=>e= .returned (.tuple #[])∧∃a',VC (dropP SK n) a'∧Sep w0 w' (volR f q p (dropP SK n) a'::(Y++R))):=Lh fun W a1 Y h1 h2=>drop_no h1 (hlikeK.out.vf hF) hnd hs4 h2
 have hres:Hid (unlinkP S dir (baseP path) n=if kl=0 then dropP SK n else SK):=Lh (by unfold unlinkP;simp only[←hSX,←hxX];rw[hkl,Nat.add_sub_cancel,←hSK]);obtain⟨b1,hb1⟩:∃b,b=baseP path:=⟨_,rfl⟩;obtain⟨rX,hrX⟩:∃rX,rX=unlinkP S dir (baseP path) n:=⟨_,rfl⟩;rw[←hrX]at hres ⊢;rw[←hb1]at hba hlv;have hX0:=Lh h;have hV0:=Lh hC;have hklc:Hid (((xX.links:Nat):Int)=(kl:Int)+1):=Lh (by omega);clear hR0 hC hF hv hp hl hs hn hlk hs3 hnd hs4 h hSX hb1 hrX hxX hxo hyo hSK hkl hlike hlikeK;unfold strV at*;go_enter Tryz.func106,Tryz.ntmps106;go_wp2_with fail;have hc:=hR.out w.drew [_] hX0.out.drew;refine wp_region_E (S:=fun w'=>w'.cell? ⟨bf,0,none⟩=some (.pointer (some ⟨f,0,none⟩))∧w'.cell? ⟨bd,0,none⟩=some (.int .i64 dir)∧w'.cell? ⟨bi,1,none⟩=some (.string ⟨path.toArray⟩)∧w'.cell? ⟨bn,0,none⟩=some (.int .i64 n)) 8 (by kernel_rfl) ?_;simp only[List.size_toArray,List.length_cons,List.length_nil,Nat.reduceAdd];refine wpE_tk (i:=0) (v:=?_) hc rfl ?_ ?_;rotate_left
 ·rintro w ⟨e1,e2,e3,e4⟩;go_simp;try with_reducible rfl
 simp only[Act.put,gD];refine wpE_tk (i:=1) (v:=?_) hc rfl ?_ ?_;rotate_left
 ·rintro w ⟨e1,e2,e3,e4⟩;go_simp;try with_reducible rfl
 simp only[Act.put,gD];refine wpE_tk (i:=2) (v:=?_) hc rfl ?_ ?_;rotate_left
 ·rintro w ⟨e1,e2,e3,e4⟩;go_simp;try with_reducible rfl
 simp only[Act.put,gD];refine wpE_tk (i:=3) (v:=?_) hc rfl ?_ ?_;rotate_left
 ·rintro w ⟨e1,e2,e3,e4⟩;go_simp;try with_reducible rfl
 simp only[Act.put,gD];refine wpE_tk (i:=4) (v:=?_) hc rfl ?_ ?_;rotate_left
 ·rintro w ⟨e1,e2,e3,e4⟩;go_simp;try with_reducible rfl
 simp only[Act.put,gD];refine wpE_tk (i:=5) (v:=?_) hc rfl ?_ ?_;rotate_left
 ·rintro w ⟨e1,e2,e3,e4⟩;go_simp;try with_reducible rfl
 simp only[Act.put,gD];refine wpE_one (i:=6) (by kernel_rfl) rfl (fun K hK=>?_);go_simp;go_at_call 101;refine(hba.out _).mono ?_;rintro e w9 ⟨rfl,hb9⟩;replace hX0:=Lh (hX0.out.drew.pure hb9);have hc9:=hR.out w9 [_] hX0.out;clear hc hb9;dsimp only;refine hK _ _ (fun _=>hc9) ?_;clear hK K;try simp only[Act.put,gD]
 refine wpE_one (i:=7) (by kernel_rfl) rfl (fun K hK=>?_);go_simp;go_at_call 100;refine(hlv.out _ _ hV0.out hX0.out).mono ?_;rintro e w8 ⟨rfl,aX,hC8,h8⟩;have hc8:=hR.out w8 [_] h8;have hV:=Lh hC8;have hX:=Lh h8;clear hC8 h8 hX0 hV0 hc9 hlv hba;dsimp only;refine hK _ _ (fun _=>hc8) ?_;clear hK K;try simp only[Act.put,gD]
 refine wpE_done (by kernel_rfl) ?_ _;clear hc8;go_wp2_with fail;refine wp_region_Ew (S:=fun w'=>w'.cell? ⟨bf,0,none⟩=some (.pointer (some ⟨f,0,none⟩))∧w'.cell? ⟨bd,0,none⟩=some (.int .i64 dir)∧w'.cell? ⟨bi,1,none⟩=some (.string ⟨path.toArray⟩)∧w'.cell? ⟨bn,0,none⟩=some (.int .i64 n)) 7 (by kernel_rfl) ?_;intro wq hwq;have hX2:Hid (Sep w0 wq (volR f q p SX aX::R)):=by rw[hwq];exact Lh hX.out.drew
 clear hwq hX;have hc:=hR.out wq [_] hX2.out;simp only[List.size_toArray,List.length_cons,List.length_nil,Nat.reduceAdd];refine wpE_tk (i:=0) (v:=?_) hc rfl ?_ ?_;rotate_left
 ·rintro w ⟨e1,e2,e3,e4⟩;go_simp;try with_reducible rfl
 simp only[Act.put,gD];refine wpE_tk (i:=1) (v:=?_) hc rfl ?_ ?_;rotate_left
 ·rintro w ⟨e1,e2,e3,e4⟩;go_simp;try with_reducible rfl
 simp only[Act.put,gD];refine wpE_tk (i:=2) (v:=?_) hc rfl ?_ ?_;rotate_left
 ·rintro w ⟨e1,e2,e3,e4⟩;go_simp;try with_reducible rfl
 simp only[Act.put,gD];refine wpE_tk (i:=3) (v:=?_) hc rfl ?_ ?_;rotate_left
 ·rintro w ⟨e1,e2,e3,e4⟩;go_simp;try with_reducible rfl
 simp only[Act.put,gD];refine wpE_tk (i:=4) (v:=?_) hc rfl ?_ ?_;rotate_left
 ·rintro w ⟨e1,e2,e3,e4⟩;go_simp;try with_reducible rfl
 simp only[Act.put,gD];refine wpE_two8 (i:=5) (j:=6) (by kernel_rfl) rfl rfl (fun K hK=>?_) (fun K hK=>?_)
 focus
  go_simp
  go_at_call 64
  refine(hin.out _ [] _ hV.out hX2.out).mono ?_
  rintro e w9 ⟨A9,c9,a9,rfl,hC9,h9⟩
  have hc9:=hR.out w9 [_,_] h9
  have h8:=Lh (h9.bN 118 zeroI)
  have hc8:=hR.out _ [_,_,_] h8.out
  clear hc hX2
  dsimp only
  refine hK _ _ (fun _=>hc9) ?_
  clear hK K
  try simp only[Act.put,gD]
  refine wpE_one (i:=6) (by kernel_rfl) rfl (fun K hK=>?_)
  go_simp
  unfold zeroI at hc8
  try dsimp only
  refine hK _ _ (fun _=>hc8) ?_
  clear hK K
  try simp only[Act.put,gD]
  obtain⟨bx,hbx⟩:∃bx,bx=w9.heap.size:=⟨_,rfl⟩
  obtain⟨w8,hw8⟩:∃x,x=w9.alloc (.cells #[.int .i64 0,.int .i64 0,.int .i64 0,.int .i64 0,.slice none 0 0] 118):=⟨_,rfl⟩
  have hB:Hid (Sep w0 w8 (.box bx 118 zeroI::volR f q p SX a9::intsR (.slice A9 xX.spots.length c9) (spI xX.spots)::R)):=by rw[hw8,hbx];exact h8
  rw[←hw8,←hbx]
  clear hw8 hbx h8 hc8 hc9 h9
  have hC9':=Lh hC9
  clear hC9
 rotate_left
 focus
  go_simp
  have h9:=Lh (hX2.out.bN 118 zeroI)
  have hc9:=hR.out _ [_,_] h9.out
  clear hc
  unfold zeroI at hc9
  try dsimp only
  refine hK _ _ (fun _=>hc9) ?_
  clear hK K
  try simp only[Act.put,gD]
  obtain⟨bx,hbx⟩:∃bx,bx=wq.heap.size:=⟨_,rfl⟩
  obtain⟨w9,hw9⟩:∃x,x=wq.alloc (.cells #[.int .i64 0,.int .i64 0,.int .i64 0,.int .i64 0,.slice none 0 0] 118):=⟨_,rfl⟩
  have h8:Hid (Sep w0 w9 (volR f q p SX aX::([.box bx 118 zeroI]++R))):=by rw[hw9,hbx];exact Lh (h9.out.perm (List.Perm.swap _ _ _))
  rw[←hw9,←hbx]
  clear hw9 hbx h9 hc9 hX2
  refine wpE_one (i:=5) (by kernel_rfl) rfl (fun K hK=>?_)
  go_simp
  go_at_call 64
  refine(hin.out _ _ _ hV.out h8.out).mono ?_
  rintro e w8 ⟨A9,c9,a9,rfl,hC9,h7⟩
  have hB:Hid (Sep w0 w8 (.box bx 118 zeroI::volR f q p SX a9::intsR (.slice A9 xX.spots.length c9) (spI xX.spots)::R)):=Lh (Sep.sel [2,0,1] h7 (by decide) (by simp))
  have hc9:=hR.out w8 [_,_,_] hB.out
  clear h8 h7
  dsimp only
  refine hK _ _ (fun _=>hc9) ?_
  clear hK K
  try simp only[Act.put,gD]
  clear hc9
  have hC9':=Lh hC9
  clear hC9
 all_goals
  obtain⟨z0,z1,z2,z3,z4,y0,y1,y2,y3,y4,hfin⟩:=hB.out.zero_info 0 rfl xX (.slice A9 xX.spots.length c9)
  replace hfin:=Lh hfin
  clear hB hV
  refine wpE_one (i:=7) (by kernel_rfl) rfl (fun K hK=>?_)
  go_simp
  refine hK _ _ (fun h=>absurd rfl h) ?_
  clear hK K
  try simp only[Act.put,gD]
  refine wpE_done (by kernel_rfl) ?_ _
  clear z0 z1 z2 z3 z4 y0 y1 y2 y3 y4
  obtain⟨w7,hw7⟩:∃w7,w7=(((((w8.setCell ⟨bx,0,none⟩ (.int .i64 (xX.kind:Nat))).setCell ⟨bx,1,none⟩ (.int .i64 (xX.mode:Nat))).setCell ⟨bx,2,none⟩ (.int .i64 (xX.links:Nat))).setCell ⟨bx,3,none⟩ (.int .i64 (xX.size:Nat))).setCell ⟨bx,4,none⟩ (.slice A9 xX.spots.length c9)):=⟨_,rfl⟩
  rw[←hw7]at hfin ⊢
  clear hw7
  have d2:=(hfin.out.info_cells 0 rfl).2.2.1
  have f2:=hfin.out.bF 0 rfl 2
  have h6:Hid (Sep w0 (w7.setCell ⟨bx,2,none⟩ (.int .i64 (kl:Nat))) (.box bx 118 (infoC {xX with links:=kl} (.slice A9 xX.spots.length c9))::volR f q p SX a9::intsR (.slice A9 xX.spots.length c9) (spI xX.spots)::R)):=Lh (hfin.out.bS 0 rfl 2 (.int .i64 (kl:Nat)))
  rw[hklc.out]at d2
  clear hklc
  clear hfin
  go_wp2_with fail
  obtain⟨w6,hw6⟩:∃w6,w6=w7.setCell ⟨bx,2,none⟩ (.int .i64 (kl:Nat)):=⟨_,rfl⟩
  rw[←hw6]at h6 ⊢
  clear hw6 d2 f2
  have k1:=hR.out w6.drew [_,_,_] h6.out.drew
  have k2:=h6.out.drew.info_cells 0 rfl
  have hE:w6.drew.cell? ⟨bf,0,none⟩=some (.pointer (some ⟨f,0,none⟩))∧w6.drew.cell? ⟨bd,0,none⟩=some (.int .i64 dir)∧w6.drew.cell? ⟨bi,1,none⟩=some (.string ⟨path.toArray⟩)∧w6.drew.cell? ⟨bn,0,none⟩=some (.int .i64 n)∧w6.drew.cell? ⟨bx,0,none⟩=some (.int .i64 (xX.kind:Nat))∧w6.drew.cell? ⟨bx,1,none⟩=some (.int .i64 (xX.mode:Nat))∧w6.drew.cell? ⟨bx,2,none⟩=some (.int .i64 (kl:Nat))∧w6.drew.cell? ⟨bx,3,none⟩=some (.int .i64 (xX.size:Nat))∧w6.drew.cell? ⟨bx,4,none⟩=some (.slice A9 xX.spots.length c9):=⟨k1.1,k1.2.1,k1.2.2.1,k1.2.2.2,k2.1,k2.2.1,k2.2.2.1,k2.2.2.2.1,k2.2.2.2.2⟩
  have hkp2:=hkp.out _ _ _ _ _ hC9'.out (Sep.sel [1,0,2] h6.out.drew (by decide) (by simp))
  clear k1 k2 h6
  refine wp_region_E (S:=fun w'=>w'.cell? ⟨bf,0,none⟩=some (.pointer (some ⟨f,0,none⟩))∧w'.cell? ⟨bd,0,none⟩=some (.int .i64 dir)∧w'.cell? ⟨bi,1,none⟩=some (.string ⟨path.toArray⟩)∧w'.cell? ⟨bn,0,none⟩=some (.int .i64 n)∧w'.cell? ⟨bx,0,none⟩=some (.int .i64 (xX.kind:Nat))∧w'.cell? ⟨bx,1,none⟩=some (.int .i64 (xX.mode:Nat))∧w'.cell? ⟨bx,2,none⟩=some (.int .i64 (kl:Nat))∧w'.cell? ⟨bx,3,none⟩=some (.int .i64 (xX.size:Nat))∧w'.cell? ⟨bx,4,none⟩=some (.slice A9 xX.spots.length c9)) 7 (by kernel_rfl) ?_
  simp only[List.size_toArray,List.length_cons,List.length_nil,Nat.reduceAdd]
  refine wpE_tk (i:=0) (v:=?_) hE rfl ?_ ?_
  rotate_left
  ·rintro w ⟨e1,e2,e3,e4,e5,e6,e7,e8,e9⟩;go_simp;try with_reducible rfl
  simp only[Act.put,gD]
  refine wpE_tk (i:=1) (v:=?_) hE rfl ?_ ?_
  rotate_left
  ·rintro w ⟨e1,e2,e3,e4,e5,e6,e7,e8,e9⟩;go_simp;try with_reducible rfl
  simp only[Act.put,gD]
  refine wpE_tk (i:=2) (v:=?_) hE rfl ?_ ?_
  rotate_left
  ·rintro w ⟨e1,e2,e3,e4,e5,e6,e7,e8,e9⟩;go_simp;try with_reducible rfl
  simp only[Act.put,gD]
  refine wpE_tk (i:=3) (v:=?_) hE rfl ?_ ?_
  rotate_left
  ·rintro w ⟨e1,e2,e3,e4,e5,e6,e7,e8,e9⟩;go_simp;try with_reducible rfl
  simp only[Act.put,gD]
  refine wpE_tk (i:=4) (v:=?_) hE rfl ?_ ?_
  rotate_left
  ·rintro w ⟨e1,e2,e3,e4,e5,e6,e7,e8,e9⟩;go_simp;try with_reducible rfl
  simp only[Act.put,gD]
  refine wpE_tk (i:=5) (v:=?_) hE rfl ?_ ?_
  rotate_left
  ·rintro w ⟨e1,e2,e3,e4,e5,e6,e7,e8,e9⟩;go_simp;try with_reducible rfl
  simp only[Act.put,gD]
  refine wpE_one (i:=6) (by kernel_rfl) rfl (fun K hK=>?_)
  go_simp
  go_at_call 90
  refine hkp2.mono ?_
  rintro e w5 ⟨rfl,a5,hC5,h5⟩
  have k5:=hR.out w5 [_,_,_] h5
  have k6:=h5.info_cells 1 rfl
  have d2:=k6.2.2.1
  replace h5:=Lh h5
  replace hC5:=Lh hC5
  clear hkp2 hE
  dsimp only
  refine hK _ _ (fun _=>⟨k5.1,k5.2.1,k5.2.2.1,k5.2.2.2,k6.1,k6.2.1,k6.2.2.1,k6.2.2.2.1,k6.2.2.2.2⟩) ?_
  clear hK K
  try simp only[Act.put,gD]
  refine wpE_done (by kernel_rfl) ?_ _
  clear k5 k6
  by_cases hk0:kl=0
  ·have hrr:=hres.out;rw[if_pos hk0]at hrr;(have hk1:((kl:Int)==0)=true:=by rw[beq_iff_eq];omega);replace hrr:=Lh hrr;clear hk0;go_wp2_with fail;have hc:=hR.out w5.drew [_,_,_] h5.out.drew;have hd2:=hdr.out _ _ [_,_] hC5.out h5.out.drew;refine wp_region_E (S:=fun w'=>w'.cell? ⟨bf,0,none⟩=some (.pointer (some ⟨f,0,none⟩))∧w'.cell? ⟨bd,0,none⟩=some (.int .i64 dir)∧w'.cell? ⟨bi,1,none⟩=some (.string ⟨path.toArray⟩)∧w'.cell? ⟨bn,0,none⟩=some (.int .i64 n)) 6 (by kernel_rfl) ?_;simp only[List.size_toArray,List.length_cons,List.length_nil,Nat.reduceAdd];refine wpE_tk (i:=0) (v:=?_) hc rfl ?_ ?_;rotate_left
   ·rintro w ⟨e1,e2,e3,e4⟩;go_simp;try with_reducible rfl
   simp only[Act.put,gD];refine wpE_tk (i:=1) (v:=?_) hc rfl ?_ ?_;rotate_left
   ·rintro w ⟨e1,e2,e3,e4⟩;go_simp;try with_reducible rfl
   simp only[Act.put,gD];refine wpE_tk (i:=2) (v:=?_) hc rfl ?_ ?_;rotate_left
   ·rintro w ⟨e1,e2,e3,e4⟩;go_simp;try with_reducible rfl
   simp only[Act.put,gD];refine wpE_tk (i:=3) (v:=?_) hc rfl ?_ ?_;rotate_left
   ·rintro w ⟨e1,e2,e3,e4⟩;go_simp;try with_reducible rfl
   simp only[Act.put,gD];refine wpE_tk (i:=4) (v:=?_) hc rfl ?_ ?_;rotate_left
   ·rintro w ⟨e1,e2,e3,e4⟩;go_simp;try with_reducible rfl
   simp only[Act.put,gD];refine wpE_one (i:=5) (by kernel_rfl) rfl (fun K hK=>?_);go_simp;go_at_call 102;refine hd2.mono ?_;rintro e w4 ⟨rfl,a4,hC4,h4⟩;have hc4:=hR.out w4 [_,_,_] h4;replace h4:=Lh h4;replace hC4:=Lh hC4;clear hd2 hc;dsimp only;refine hK _ _ (fun _=>hc4) ?_;clear hK K;(try simp only[Act.put,gD]);refine wpE_done (by kernel_rfl) ?_ _
   go_end0
   unfold opOut;rw[hrr.out];exact⟨rfl,a4,hC4.out,(Sep.sel [1,2,0] h4.out (by decide) (by simp)).drop 2⟩
  ·have hrr:=hres.out;rw[if_neg hk0]at hrr;(have hk1:((kl:Int)==0)=false:=by rw[beq_eq_false_iff_ne];omega);replace hrr:=Lh hrr;clear hk0;go_wp2_with fail
   go_end0
   unfold opOut;rw[hrr.out];exact⟨rfl,a5,hC5.out,(Sep.sel [1,2,0] h5.out (by decide) (by simp)).drop 2⟩
set_option maxRecDepth 100000 in
set_option maxHeartbeats 4000000 in
theorem link1_any {bf bi bt bn tz n:Nat} {path2:List UInt8} (hR0:∀W Y,Sep w0 W (Y++R)→W.cell? ⟨bf,0,none⟩=some (.pointer (some ⟨f,0,none⟩))∧W.cell? ⟨bn,0,none⟩=some (.int .i64 n)∧W.cell? ⟨bt,0,none⟩=some (.int .i64 tz)∧W.cell? ⟨bi,2,none⟩=some (strV path2))
  (hC:VC S a) (hF:VF S) (hv2:validL path2=true) (hp2:path2.length≤1048576) (hn:InoOk S n) (hlk:(inoP S.cur n).links<65535) (hs3:SmallW S)
  (he:EnterOk (S.keep n {inoP S.cur n with links:=(inoP S.cur n).links+1}) tz n (baseP path2)) (hs2:SmallV (S.keep n {inoP S.cur n with links:=(inoP S.cur n).links+1})) (h:Sep w0 w (volR f q p S a::R)):
  Calls Tryz.prog 105 #[.pointer (some ⟨bf,0,none⟩),.pointer (some ⟨bn,0,none⟩),.pointer (some ⟨bt,0,none⟩),.pointer (some ⟨bi,0,none⟩)] w (opOut f q p S (linkP S n tz (baseP path2)) w0 R):=by
 have hR:=Lh hR0;obtain⟨SX,hSX⟩:∃SX,SX=S:=⟨_,rfl⟩;obtain⟨aX,haX⟩:∃aX,aX=a:=⟨_,rfl⟩;have hlike0:Hid (Like S SX):=by rw[hSX];exact Lh (.refl _)
 obtain⟨xX,hxX⟩:∃xX,xX=inoP SX.cur n:=⟨_,rfl⟩;rw[←hSX,←hxX]at hlk he hs2;have hin:Hid (∀W Y a1,VC SX a1→Sep w0 W (volR f q p SX a1::(Y++R))→Calls Tryz.prog 64 #[.pointer (some ⟨f,0,none⟩),.int .i64 n] W fun e w'=>∃A c a2,e= .returned (.agg #[.int .i64 (xX.kind:Nat),.int .i64 (xX.mode:Nat),.int .i64 (xX.links:Nat),.int .i64 (xX.size:Nat),.slice A xX.spots.length c])∧VC SX a2∧Sep w0 w' (volR f q p SX a2::intsR (.slice A xX.spots.length c) (spI xX.spots)::(Y++R))):=Lh fun W Y a1 h1 h2=>by rw[hxX];exact inode_no h1 (hlike0.out.vf hF) (by rw[hSX];exact hn) h2
 have hxo:xX.ok:=by rw[hxX,hSX];exact viD_ok (by have:=hn.few;unfold inoP at this;exact this)
 have hyo:({xX with links:=xX.links+1}:VI).ok:=⟨hxo.kind,hxo.mode,by show xX.links+1<65536;omega,hxo.size,hxo.few,hxo.spot⟩;have hkl5:(xX.links:Int)<65535:=by omega
 obtain⟨SK,hSK⟩:∃SK,SK=SX.keep n {xX with links:=xX.links+1}:=⟨_,rfl⟩;rw[←hSK]at he hs2;have hlike:Hid (Like S SK):=by rw[hSK];exact Lh (hlike0.out.keep _ _)
 have hkp:Hid (∀W bx A c a1,VC SX a1→Sep w0 W (volR f q p SX a1:: .box bx 118 (infoC {xX with links:=xX.links+1} (.slice A xX.spots.length c))::intsR (.slice A xX.spots.length c) (spI xX.spots)::R)→Calls Tryz.prog 90 #[.pointer (some ⟨f,0,none⟩),.int .i64 n,.agg #[.int .i64 (xX.kind:Nat),.int .i64 (xX.mode:Nat),.int .i64 ((xX.links:Int)+1),.int .i64 (xX.size:Nat),.slice A xX.spots.length c]] W fun e w'=>e= .returned (.tuple #[])∧∃a',VC SK a'∧Sep w0 w' (volR f q p SK a':: .box bx 118 (infoC {xX with links:=xX.links+1} (.slice A xX.spots.length c))::intsR (.slice A xX.spots.length c) (spI xX.spots)::R)):=Lh fun W bx A c a1 h1 h2=>by have:=keep_no (n:=n) (y:= {xX with links:=xX.links+1}) (v:=.slice A xX.spots.length c) h1 (hlike0.out.vf hF) (by rw[hSX];exact hn) hyo (by rw[hSX];exact hs3) 1 rfl h2;rw[hSK];unfold infoV infoC at this;exact this
 have hba2:Hid (∀W,Calls Tryz.prog 101 #[strV path2] W fun e w'=>e= .returned (strV (baseP path2))∧Below W.heap.size W w'):=Lh fun W=>base_any hv2 hp2 W
 obtain⟨rX,hrX⟩:∃rX,rX=linkP S n tz (baseP path2):=⟨_,rfl⟩;have hen:Hid (∀W a1,VC SK a1→Sep w0 W (volR f q p SK a1::R)→Calls Tryz.prog 104 #[.pointer (some ⟨f,0,none⟩),.int .i64 tz,strV (baseP path2),.int .i64 n] W (opOut f q p SK rX w0 R)):=Lh fun W a1 h1 h2=>by rw[hrX];unfold linkP;rw[←hSX,←hxX,←hSK];exact enter_no h1 (hlike.out.vf hF) he hs2 h2
 obtain⟨b2,hb2⟩:∃b,b=baseP path2:=⟨_,rfl⟩;rw[←hrX];rw[←hb2]at hba2 hen;have hX:Hid (Sep w0 w (volR f q p SX aX::R)):=by rw[hSX,haX];exact Lh h
 have hV:Hid (VC SX aX):=by rw[hSX,haX];exact Lh hC
 clear hR0 hC hF hv2 hp2 hn hlk hs3 he hs2 h hSX haX hrX hb2 hxX hxo hyo hSK hlike0;unfold strV at*;go_enter Tryz.func105,Tryz.ntmps105;go_wp2_with fail;refine wp_region_Ew (S:=fun w'=>w'.cell? ⟨bf,0,none⟩=some (.pointer (some ⟨f,0,none⟩))∧w'.cell? ⟨bn,0,none⟩=some (.int .i64 n)∧w'.cell? ⟨bt,0,none⟩=some (.int .i64 tz)∧w'.cell? ⟨bi,2,none⟩=some (.string ⟨path2.toArray⟩)) 7 (by kernel_rfl) ?_;intro wq hwq;have hX2:Hid (Sep w0 wq (volR f q p SX aX::R)):=by rw[hwq];exact Lh hX.out.drew
 clear hwq hX;have hc:=hR.out wq [_] hX2.out;simp only[List.size_toArray,List.length_cons,List.length_nil,Nat.reduceAdd];refine wpE_tk (i:=0) (v:=?_) hc rfl ?_ ?_;rotate_left
 ·rintro w ⟨e1,e2,e3,e4⟩;go_simp;try with_reducible rfl
 simp only[Act.put,gD];refine wpE_tk (i:=1) (v:=?_) hc rfl ?_ ?_;rotate_left
 ·rintro w ⟨e1,e2,e3,e4⟩;go_simp;try with_reducible rfl
 simp only[Act.put,gD];refine wpE_tk (i:=2) (v:=?_) hc rfl ?_ ?_;rotate_left
 ·rintro w ⟨e1,e2,e3,e4⟩;go_simp;try with_reducible rfl
 simp only[Act.put,gD];refine wpE_tk (i:=3) (v:=?_) hc rfl ?_ ?_;rotate_left
 ·rintro w ⟨e1,e2,e3,e4⟩;go_simp;try with_reducible rfl
 simp only[Act.put,gD];refine wpE_tk (i:=4) (v:=?_) hc rfl ?_ ?_;rotate_left
 ·rintro w ⟨e1,e2,e3,e4⟩;go_simp;try with_reducible rfl
 simp only[Act.put,gD];refine wpE_two8 (i:=5) (j:=6) (by kernel_rfl) rfl rfl (fun K hK=>?_) (fun K hK=>?_)
 focus
  go_simp
  go_at_call 64
  refine(hin.out _ [] _ hV.out hX2.out).mono ?_
  rintro e w9 ⟨A9,c9,a9,rfl,hC9,h9⟩
  have hc9:=hR.out w9 [_,_] h9
  have h8:=Lh (h9.bN 118 zeroI)
  have hc8:=hR.out _ [_,_,_] h8.out
  clear hc hX2
  dsimp only
  refine hK _ _ (fun _=>hc9) ?_
  clear hK K
  try simp only[Act.put,gD]
  refine wpE_one (i:=6) (by kernel_rfl) rfl (fun K hK=>?_)
  go_simp
  unfold zeroI at hc8
  try dsimp only
  refine hK _ _ (fun _=>hc8) ?_
  clear hK K
  try simp only[Act.put,gD]
  obtain⟨bx,hbx⟩:∃bx,bx=w9.heap.size:=⟨_,rfl⟩
  obtain⟨w8,hw8⟩:∃x,x=w9.alloc (.cells #[.int .i64 0,.int .i64 0,.int .i64 0,.int .i64 0,.slice none 0 0] 118):=⟨_,rfl⟩
  have hB:Hid (Sep w0 w8 (.box bx 118 zeroI::volR f q p SX a9::intsR (.slice A9 xX.spots.length c9) (spI xX.spots)::R)):=by rw[hw8,hbx];exact h8
  rw[←hw8,←hbx]
  clear hw8 hbx h8 hc8 hc9 h9
  have hC9':=Lh hC9
  clear hC9
 rotate_left
 focus
  go_simp
  have h9:=Lh (hX2.out.bN 118 zeroI)
  have hc9:=hR.out _ [_,_] h9.out
  clear hc
  unfold zeroI at hc9
  try dsimp only
  refine hK _ _ (fun _=>hc9) ?_
  clear hK K
  try simp only[Act.put,gD]
  obtain⟨bx,hbx⟩:∃bx,bx=wq.heap.size:=⟨_,rfl⟩
  obtain⟨w9,hw9⟩:∃x,x=wq.alloc (.cells #[.int .i64 0,.int .i64 0,.int .i64 0,.int .i64 0,.slice none 0 0] 118):=⟨_,rfl⟩
  have h8:Hid (Sep w0 w9 (volR f q p SX aX::([.box bx 118 zeroI]++R))):=by rw[hw9,hbx];exact Lh (h9.out.perm (List.Perm.swap _ _ _))
  rw[←hw9,←hbx]
  clear hw9 hbx h9 hc9 hX2
  refine wpE_one (i:=5) (by kernel_rfl) rfl (fun K hK=>?_)
  go_simp
  go_at_call 64
  refine(hin.out _ _ _ hV.out h8.out).mono ?_
  rintro e w8 ⟨A9,c9,a9,rfl,hC9,h7⟩
  have hB:Hid (Sep w0 w8 (.box bx 118 zeroI::volR f q p SX a9::intsR (.slice A9 xX.spots.length c9) (spI xX.spots)::R)):=Lh (Sep.sel [2,0,1] h7 (by decide) (by simp))
  have hc9:=hR.out w8 [_,_,_] hB.out
  clear h8 h7
  dsimp only
  refine hK _ _ (fun _=>hc9) ?_
  clear hK K
  try simp only[Act.put,gD]
  clear hc9
  have hC9':=Lh hC9
  clear hC9
 all_goals
  obtain⟨z0,z1,z2,z3,z4,y0,y1,y2,y3,y4,hfin⟩:=hB.out.zero_info 0 rfl xX (.slice A9 xX.spots.length c9)
  replace hfin:=Lh hfin
  clear hB hV
  refine wpE_one (i:=7) (by kernel_rfl) rfl (fun K hK=>?_)
  go_simp
  refine hK _ _ (fun h=>absurd rfl h) ?_
  clear hK K
  try simp only[Act.put,gD]
  refine wpE_done (by kernel_rfl) ?_ _
  clear z0 z1 z2 z3 z4 y0 y1 y2 y3 y4
  obtain⟨w7,hw7⟩:∃w7,w7=(((((w8.setCell ⟨bx,0,none⟩ (.int .i64 (xX.kind:Nat))).setCell ⟨bx,1,none⟩ (.int .i64 (xX.mode:Nat))).setCell ⟨bx,2,none⟩ (.int .i64 (xX.links:Nat))).setCell ⟨bx,3,none⟩ (.int .i64 (xX.size:Nat))).setCell ⟨bx,4,none⟩ (.slice A9 xX.spots.length c9)):=⟨_,rfl⟩
  rw[←hw7]at hfin ⊢
  clear hw7
  have d2:=(hfin.out.info_cells 0 rfl).2.2.1
  have f2:=hfin.out.bF 0 rfl 2
  have h6:Hid (Sep w0 (w7.setCell ⟨bx,2,none⟩ (.int .i64 ((xX.links:Int)+1))) (.box bx 118 (infoC {xX with links:=xX.links+1} (.slice A9 xX.spots.length c9))::volR f q p SX a9::intsR (.slice A9 xX.spots.length c9) (spI xX.spots)::R)):=Lh (hfin.out.bS 0 rfl 2 (.int .i64 ((xX.links:Int)+1)))
  clear hfin
  go_wp2_with fail
  obtain⟨w6,hw6⟩:∃w6,w6=w7.setCell ⟨bx,2,none⟩ (.int .i64 ((xX.links:Int)+1)):=⟨_,rfl⟩
  rw[←hw6]at h6 ⊢
  clear hw6 d2 f2
  have k1:=hR.out w6.drew [_,_,_] h6.out.drew
  have k2:=h6.out.drew.info_cells 0 rfl
  have hE:w6.drew.cell? ⟨bf,0,none⟩=some (.pointer (some ⟨f,0,none⟩))∧w6.drew.cell? ⟨bn,0,none⟩=some (.int .i64 n)∧w6.drew.cell? ⟨bt,0,none⟩=some (.int .i64 tz)∧w6.drew.cell? ⟨bi,2,none⟩=some (.string ⟨path2.toArray⟩)∧w6.drew.cell? ⟨bx,0,none⟩=some (.int .i64 (xX.kind:Nat))∧w6.drew.cell? ⟨bx,1,none⟩=some (.int .i64 (xX.mode:Nat))∧w6.drew.cell? ⟨bx,2,none⟩=some (.int .i64 ((xX.links:Int)+1))∧w6.drew.cell? ⟨bx,3,none⟩=some (.int .i64 (xX.size:Nat))∧w6.drew.cell? ⟨bx,4,none⟩=some (.slice A9 xX.spots.length c9):=⟨k1.1,k1.2.1,k1.2.2.1,k1.2.2.2,k2.1,k2.2.1,k2.2.2.1,k2.2.2.2.1,k2.2.2.2.2⟩
  have hkp2:=hkp.out _ _ _ _ _ hC9'.out (Sep.sel [1,0,2] h6.out.drew (by decide) (by simp))
  clear k1 k2 h6
  refine wp_region_E (S:=fun w'=>w'.cell? ⟨bf,0,none⟩=some (.pointer (some ⟨f,0,none⟩))∧w'.cell? ⟨bn,0,none⟩=some (.int .i64 n)∧w'.cell? ⟨bt,0,none⟩=some (.int .i64 tz)∧w'.cell? ⟨bi,2,none⟩=some (.string ⟨path2.toArray⟩)∧w'.cell? ⟨bx,0,none⟩=some (.int .i64 (xX.kind:Nat))∧w'.cell? ⟨bx,1,none⟩=some (.int .i64 (xX.mode:Nat))∧w'.cell? ⟨bx,2,none⟩=some (.int .i64 ((xX.links:Int)+1))∧w'.cell? ⟨bx,3,none⟩=some (.int .i64 (xX.size:Nat))∧w'.cell? ⟨bx,4,none⟩=some (.slice A9 xX.spots.length c9)) 7 (by kernel_rfl) ?_
  simp only[List.size_toArray,List.length_cons,List.length_nil,Nat.reduceAdd]
  refine wpE_tk (i:=0) (v:=?_) hE rfl ?_ ?_
  rotate_left
  ·rintro w ⟨e1,e2,e3,e4,e5,e6,e7,e8,e9⟩;go_simp;try with_reducible rfl
  simp only[Act.put,gD]
  refine wpE_tk (i:=1) (v:=?_) hE rfl ?_ ?_
  rotate_left
  ·rintro w ⟨e1,e2,e3,e4,e5,e6,e7,e8,e9⟩;go_simp;try with_reducible rfl
  simp only[Act.put,gD]
  refine wpE_tk (i:=2) (v:=?_) hE rfl ?_ ?_
  rotate_left
  ·rintro w ⟨e1,e2,e3,e4,e5,e6,e7,e8,e9⟩;go_simp;try with_reducible rfl
  simp only[Act.put,gD]
  refine wpE_tk (i:=3) (v:=?_) hE rfl ?_ ?_
  rotate_left
  ·rintro w ⟨e1,e2,e3,e4,e5,e6,e7,e8,e9⟩;go_simp;try with_reducible rfl
  simp only[Act.put,gD]
  refine wpE_tk (i:=4) (v:=?_) hE rfl ?_ ?_
  rotate_left
  ·rintro w ⟨e1,e2,e3,e4,e5,e6,e7,e8,e9⟩;go_simp;try with_reducible rfl
  simp only[Act.put,gD]
  refine wpE_tk (i:=5) (v:=?_) hE rfl ?_ ?_
  rotate_left
  ·rintro w ⟨e1,e2,e3,e4,e5,e6,e7,e8,e9⟩;go_simp;try with_reducible rfl
  simp only[Act.put,gD]
  refine wpE_one (i:=6) (by kernel_rfl) rfl (fun K hK=>?_)
  go_simp
  go_at_call 90
  refine hkp2.mono ?_
  rintro e w5 ⟨rfl,aY,hC5,h5⟩
  have k5:=hR.out w5 [_,_,_] h5
  have k6:=h5.info_cells 1 rfl
  have hX:Hid (Sep w0 w5 (volR f q p SK aY::R)):=Lh ((Sep.sel [1,2,0] h5 (by decide) (by simp)).drop 2)
  have hV:=Lh hC5
  clear hkp2 hE hC5 h5
  dsimp only
  refine hK _ _ (fun _=>⟨k5.1,k5.2.1,k5.2.2.1,k5.2.2.2,k6.1,k6.2.1,k6.2.2.1,k6.2.2.2.1,k6.2.2.2.2⟩) ?_
  clear hK K
  try simp only[Act.put,gD]
  refine wpE_done (by kernel_rfl) ?_ _
  clear k5 k6
  go_wp2_with fail
  have hc:=hR.out w5.drew [_] hX.out.drew
  refine wp_region_E (S:=fun w'=>w'.cell? ⟨bf,0,none⟩=some (.pointer (some ⟨f,0,none⟩))∧w'.cell? ⟨bn,0,none⟩=some (.int .i64 n)∧w'.cell? ⟨bt,0,none⟩=some (.int .i64 tz)∧w'.cell? ⟨bi,2,none⟩=some (.string ⟨path2.toArray⟩)) 9 (by kernel_rfl) ?_
  simp only[List.size_toArray,List.length_cons,List.length_nil,Nat.reduceAdd]
  refine wpE_tk (i:=0) (v:=?_) hc rfl ?_ ?_
  rotate_left
  ·rintro w ⟨e1,e2,e3,e4⟩;go_simp;try with_reducible rfl
  simp only[Act.put,gD]
  refine wpE_tk (i:=1) (v:=?_) hc rfl ?_ ?_
  rotate_left
  ·rintro w ⟨e1,e2,e3,e4⟩;go_simp;try with_reducible rfl
  simp only[Act.put,gD]
  refine wpE_tk (i:=2) (v:=?_) hc rfl ?_ ?_
  rotate_left
  ·rintro w ⟨e1,e2,e3,e4⟩;go_simp;try with_reducible rfl
  simp only[Act.put,gD]
  refine wpE_tk (i:=3) (v:=?_) hc rfl ?_ ?_
  rotate_left
  ·rintro w ⟨e1,e2,e3,e4⟩;go_simp;try with_reducible rfl
  simp only[Act.put,gD]
  refine wpE_tk (i:=4) (v:=?_) hc rfl ?_ ?_
  rotate_left
  ·rintro w ⟨e1,e2,e3,e4⟩;go_simp;try with_reducible rfl
  simp only[Act.put,gD]
  refine wpE_tk (i:=5) (v:=?_) hc rfl ?_ ?_
  rotate_left
  ·rintro w ⟨e1,e2,e3,e4⟩;go_simp;try with_reducible rfl
  simp only[Act.put,gD]
  refine wpE_tk (i:=7) (v:=?_) hc rfl ?_ ?_
  rotate_left
  ·rintro w ⟨e1,e2,e3,e4⟩;go_simp;try with_reducible rfl
  simp only[Act.put,gD]
  refine wpE_one (i:=6) (by kernel_rfl) rfl (fun K hK=>?_)
  go_simp
  go_at_call 101
  refine(hba2.out _).mono ?_
  rintro e v9 ⟨rfl,hb9⟩
  replace hX:=Lh (hX.out.drew.pure hb9)
  have hc9:=hR.out v9 [_] hX.out
  clear hc hb9
  dsimp only
  refine hK _ _ (fun _=>hc9) ?_
  clear hK K
  try simp only[Act.put,gD]
  refine wpE_one (i:=8) (by kernel_rfl) rfl (fun K hK=>?_)
  go_simp
  go_at_call 104
  refine(hen.out _ _ hV.out hX.out).mono ?_
  intro e v8 ho
  cases rX with
  |none=>unfold opOut at ho;obtain⟨rfl,T,aT,hLT,hCT,hT⟩:=ho;unfold opOut;exact⟨rfl,rfl,T,aT,hlike.out.trans hLT,hCT,hT⟩
  |some T=>
   unfold opOut at ho;obtain⟨rfl,aT,hCT,hT⟩:=ho;have hc8:=hR.out v8 [_] hT;dsimp only;refine hK _ _ (fun _=>hc8) ?_;clear hK K;(try simp only[Act.put,gD]);refine wpE_done (by kernel_rfl) ?_ _
   go_end0
   unfold opOut;exact⟨rfl,aT,hCT,hT⟩
end
end Go.Proofs.YteihmbaimbogaaaGreat
