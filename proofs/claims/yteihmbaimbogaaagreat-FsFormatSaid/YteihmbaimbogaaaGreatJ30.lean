/- FuV, FuW, laid together. -/
import Derived.Test.YteihmbaimbogaaaGreatJ29
namespace Go.Proofs.YteihmbaimbogaaaGreat
open Go.RowKit
set_option linter.unusedVariables false
set_option linter.unusedSimpArgs false
section
variable {w0 w:World} {R:List Asn} {f q p:Nat} {S:VS} {a:VA}
def rmdirE (S:VS) (path:List UInt8):Except Int (Option VS):=
 match somethingE (lookP S.cur S.data 0 0 (splitB path))with
 |some k=>.error k
 |none=>
  if(inoP S.cur (lookP S.cur S.data 0 0 (splitB path)).2.1.toNat).kind≠1 then .error 22
  else if 0<(inoP S.cur (lookP S.cur S.data 0 0 (splitB path)).2.1.toNat).size then .error 25
  else .ok (some (dropP (leaveP S (lookP S.cur S.data 0 0 (splitB path)).1.toNat (baseP path)) (lookP S.cur S.data 0 0 (splitB path)).2.1.toNat))
structure RmdirOk (S:VS) (dir:Nat) (path:List UInt8) (n:Nat):Prop where
 lv:LeaveOk S dir (baseP path)
 sm:SmallV S
 ino:InoOk (leaveP S dir (baseP path)) n
 w:SmallW (leaveP S dir (baseP path))
 chg:ChangeOk S (dropP (leaveP S dir (baseP path)) n)
set_option maxRecDepth 100000 in
set_option maxHeartbeats 4000000 in
theorem rmdir_any {vs:Value} {op mode kk:Int} {path tz:List UInt8} (hC:VC S a) (hV:VW S) (hb:S.D.back=[]) (hv:validL path=true) (hp:path.length≤1048576)
  (hch:∀d m:Nat,m<S.names→lookP S.cur S.data 0 0 (splitB path)=((d:Int),(m:Int),0)→(inoP S.cur m).kind=1→(inoP S.cur m).size=0→RmdirOk S d path m) (h:Sep w0 w (volR f q p S a::R)):
  Calls Tryz.prog 46 #[.pointer (some ⟨f,0,none⟩),.agg #[.int .i64 op,strV path,strV tz,.int .i64 mode,.int .i64 kk],vs] w (doOut f q p S (rmdirE S path) w0 R):=by
 have hno:Hid (∀W bi bf,Sep w0 W (.box bi 38 #[.int .i64 op,strV path,strV tz,.int .i64 mode,.int .i64 kk]:: .box bf 24 #[.pointer (some ⟨f,0,none⟩)]::volR f q p S a::R)→W.cell? ⟨bf,0,none⟩=some (.pointer (some ⟨f,0,none⟩))∧W.cell? ⟨bi,1,none⟩=some (strV path)∧Calls Tryz.prog 68 #[.pointer (some ⟨f,0,none⟩),strV path] W fun e w'=>e=somethingP (lookP S.cur S.data 0 0 (splitB path))∧∃a',VC S a'∧Sep w0 w' (volR f q p S a':: .box bi 38 #[.int .i64 op,strV path,strV tz,.int .i64 mode,.int .i64 kk]:: .box bf 24 #[.pointer (some ⟨f,0,none⟩)]::R)):=Lh fun W bi bf hW=>
  ⟨hW.bC 1 rfl 0,hW.bC 0 rfl 1,(something_any hC hV hv hp (Sep.sel [2,0,1] hW (by decide) (by simp))).mono fun e w' ⟨h1,a',h2,h3⟩=>⟨h1,a',h2.ok,h3⟩⟩
 have hcg:Hid (∀d m:Nat,m<S.names→lookP S.cur S.data 0 0 (splitB path)=((d:Int),(m:Int),0)→(inoP S.cur m).kind=1→(inoP S.cur m).size=0→∀W bn bd bi bf a1,VC S a1→Sep w0 W (volR f q p S a1:: .box bn 3 #[.int .i64 m]:: .box bd 3 #[.int .i64 d]:: .box bi 38 #[.int .i64 op,strV path,strV tz,.int .i64 mode,.int .i64 kk]:: .box bf 24 #[.pointer (some ⟨f,0,none⟩)]::R)→Calls Tryz.prog 65 #[.pointer (some ⟨f,0,none⟩),.func (.func 99) #[] #[.pointer (some ⟨bf,0,none⟩),.pointer (some ⟨bd,0,none⟩),.pointer (some ⟨bi,0,none⟩),.pointer (some ⟨bn,0,none⟩)]] W (changeOut f q p S (some (dropP (leaveP S d (baseP path)) m)) w0 R)):=Lh fun d m hm hl hk hsz W bn bd bi bf a1 hC1 h1=>by have ho:=hch d m hm hl hk hsz;(refine(change_any (R':=.box bn 3 #[.int .i64 m]:: .box bd 3 #[.int .i64 d]:: .box bi 38 #[.int .i64 op,strV path,strV tz,.int .i64 mode,.int .i64 kk]:: .box bf 24 #[.pointer (some ⟨f,0,none⟩)]::R) enters_rmdir1 hC1 hb (fun S1 e=>by cases e;exact ho.chg) (fun W2 X hX=>?_) h1).mono fun e w' ho=>changeOut_drop (Y:=[_,_,_,_]) ho);exact rmdir1_any (fun W3 Y hY=>by(have hY2:Sep w0 W3 ((Y++X)++(.box bn 3 #[.int .i64 m]:: .box bd 3 #[.int .i64 d]:: .box bi 38 #[.int .i64 op,strV path,strV tz,.int .i64 mode,.int .i64 kk]:: .box bf 24 #[.pointer (some ⟨f,0,none⟩)]::R)):=by rw[List.append_assoc];exact hY);exact⟨hY2.box_in 3 rfl 0,hY2.box_in 1 rfl 0,hY2.box_in 2 rfl 1,hY2.box_in 0 rfl 0⟩) hC1 hV.vf hv hp ho.lv ho.sm ho.ino ho.w hX
 have hln:=look_nat hV (path:=path);have hX0:Hid (Sep w0 ((w.alloc (.cells #[.pointer (some ⟨f,0,none⟩)] 24)).alloc (.cells #[.int .i64 op,strV path,strV tz,.int .i64 mode,.int .i64 kk] 38)) (.box (w.heap.size+1) 38 #[.int .i64 op,strV path,strV tz,.int .i64 mode,.int .i64 kk]:: .box w.heap.size 24 #[.pointer (some ⟨f,0,none⟩)]::volR f q p S a::R)):=Lh (by have h1:=(h.bN 24 #[.pointer (some ⟨f,0,none⟩)]).bN 38 #[.int .i64 op,strV path,strV tz,.int .i64 mode,.int .i64 kk];rw[size_al]at h1;exact h1);obtain⟨d0,d1,hno2⟩:=hno.out _ _ _ hX0.out;have hV':=Lh hV;obtain⟨r,hr⟩:∃r,r=lookP S.cur S.data 0 0 (splitB path):=⟨_,rfl⟩;unfold rmdirE;rw[←hr]at hno2 hcg hln ⊢;clear hC hV hb hv hp hch h hno hr hX0;rw[somethingE_is]at hno2;cases hn:somethingE r with
 |some k=>rw[hn]at hno2;clear hcg hln hn;unfold strV at*;simp only at hno2;go_enter Tryz.func46,Tryz.ntmps46;go_wp2_with(go_at_call 68;refine hno2.mono ?_;rintro e w9 ⟨rfl,a9,hC9,h9⟩;have hend:=Lh (And.intro hC9 h9);clear hC9 h9 hno2);unfold doOut;exact⟨rfl,rfl,_,hend.out.1,(Sep.sel [1,2,0] hend.out.2 (by decide) (by simp)).drop 2⟩
 |none=>
  rw[hn]at hno2;obtain⟨hr0,hr1⟩:=somethingE_ok hn;obtain⟨d,m,hdl,hml,hre⟩:=hln hr0 hr1;have hcg2:=hcg.out d m hml hre;rw[hre]at hno2 ⊢;simp only[Int.toNat_natCast]at hno2 ⊢;obtain⟨SX,hSX⟩:∃SX,SX=S:=⟨_,rfl⟩;obtain⟨xX,hxX⟩:∃xX,xX=inoP SX.cur m:=⟨_,rfl⟩;obtain⟨rX,hrX⟩:∃rX,rX=some (dropP (leaveP S d (baseP path)) m):=⟨_,rfl⟩;(have hin0:Hid (∀RB W Y a1,VC SX a1→Sep w0 W (volR f q p SX a1::(Y++RB))→Calls Tryz.prog 64 #[.pointer (some ⟨f,0,none⟩),.int .i64 m] W fun e w'=>∃A c a2,e= .returned (.agg #[.int .i64 (xX.kind:Nat),.int .i64 (xX.mode:Nat),.int .i64 (xX.links:Nat),.int .i64 (xX.size:Nat),.slice A xX.spots.length c])∧VC SX a2∧Sep w0 w' (volR f q p SX a2::intsR (.slice A xX.spots.length c) (spI xX.spots)::(Y++RB))):=Lh fun RB W Y a1 h1 h2=>by rw[hxX];rw[hSX]at h1 h2 ⊢;exact inode_no h1 hV'.out.vf ⟨hml,hV'.out.few m hml,hV'.out.lt m hml⟩ h2);rw[←hrX]at hcg2 ⊢;rw[←hSX,←hxX]at hcg2 ⊢;rw[←hSX]at hno2;replace hcg2:=Lh hcg2;clear hcg hln hn hr0 hr1 hdl hml hre hrX hV' hSX hxX;(have hRB:Hid (∀W (bn bd bi bf:Nat) Y,Sep w0 W (Y++(.box bn 3 #[.int .i64 m]:: .box bd 3 #[.int .i64 d]:: .box bi 38 #[.int .i64 op,strV path,strV tz,.int .i64 mode,.int .i64 kk]:: .box bf 24 #[.pointer (some ⟨f,0,none⟩)]::R))→W.cell? ⟨bf,0,none⟩=some (.pointer (some ⟨f,0,none⟩))∧W.cell? ⟨bn,0,none⟩=some (.int .i64 m)):=Lh fun W bn bd bi bf Y hW=>⟨hW.box_in 3 rfl 0,hW.box_in 0 rfl 0⟩);(have hcgB:Hid (∀(bn bd bi bf:Nat) RB,RB=(.box bn 3 #[.int .i64 m]:: .box bd 3 #[.int .i64 d]:: .box bi 38 #[.int .i64 op,strV path,strV tz,.int .i64 mode,.int .i64 kk]:: .box bf 24 #[.pointer (some ⟨f,0,none⟩)]::R)→(xX.kind=1→xX.size=0→∀W a1,VC SX a1→Sep w0 W (volR f q p SX a1::RB)→Calls Tryz.prog 65 #[.pointer (some ⟨f,0,none⟩),.func (.func 99) #[] #[.pointer (some ⟨bf,0,none⟩),.pointer (some ⟨bd,0,none⟩),.pointer (some ⟨bi,0,none⟩),.pointer (some ⟨bn,0,none⟩)]] W (changeOut f q p SX rX w0 R))∧∀W a1,Sep w0 W (volR f q p SX a1::RB)→Sep w0 W (volR f q p SX a1::R)):=Lh fun bn bd bi bf RB hRB=>by subst hRB;exact⟨fun h1 h2 W a1 h3 h4=>hcg2.out h1 h2 W bn bd bi bf a1 h3 h4,fun W a1 h4=>(Sep.sel [1,2,3,4,0] h4 (by decide) (by simp)).drop 4⟩);clear hcg2;by_cases hk:xX.kind=1
  ·rw[if_neg (by simp[hk])];have kk1:Hid (((xX.kind:Nat):Int)=1):=Lh (by omega);by_cases hs0:0<xX.size
   ·rw[if_pos hs0];have q1:Hid ((0:Int)<xX.size):=Lh (by omega);replace hk:=Lh hk;clear hs0;unfold strV at*;go_enter Tryz.func46,Tryz.ntmps46;go_wp2_with(go_at_call 68;refine hno2.mono ?_;rintro e w6 ⟨rfl,aX,hC9,h9⟩;have h8:=(h9.bN 3 #[.int .i64 d]).bN 3 #[.int .i64 m];rw[size_al]at h8;have hX1:=Lh h8;have hV:=Lh hC9;have hc:=hRB.out _ _ _ _ _ [_] (Sep.sel [2,0,1] h8 (by decide) (by simp));clear h8 hC9 h9 hno2 d0 d1);obtain⟨wB,hwB⟩:∃x,x=(w6.alloc (.cells #[.int .i64 d] 3)).alloc (.cells #[.int .i64 m] 3):=⟨_,rfl⟩;obtain⟨bd,hbd⟩:∃x,x=w6.heap.size:=⟨_,rfl⟩;obtain⟨bn,hbn⟩:∃x,x=bd+1:=⟨_,rfl⟩;obtain⟨bf,hbf⟩:∃x,x=w.heap.size:=⟨_,rfl⟩;obtain⟨bi,hbi⟩:∃x,x=bf+1:=⟨_,rfl⟩;clear hc;rw[←hwB,←hbd,←hbf]at hX1 ⊢;rw[←hbn,←hbi]at hX1 ⊢;clear hwB hbd hbn hbf hbi;obtain⟨RB,hRBe⟩:∃RB,RB=(.box bn 3 #[.int .i64 m]:: .box bd 3 #[.int .i64 d]:: .box bi 38 #[.int .i64 op,strV path,strV tz,.int .i64 mode,.int .i64 kk]:: .box bf 24 #[.pointer (some ⟨f,0,none⟩)]::R):=⟨_,rfl⟩;(have hR:Hid (∀W Y,Sep w0 W (Y++RB)→W.cell? ⟨bf,0,none⟩=some (.pointer (some ⟨f,0,none⟩))∧W.cell? ⟨bn,0,none⟩=some (.int .i64 m)):=by rw[hRBe];exact Lh fun W Y hW=>hRB.out W bn bd bi bf Y hW);have hcB:=Lh (hcgB.out bn bd bi bf RB hRBe);have hin:Hid (∀W Y a1,VC SX a1→Sep w0 W (volR f q p SX a1::(Y++RB))→Calls Tryz.prog 64 #[.pointer (some ⟨f,0,none⟩),.int .i64 m] W fun e w'=>∃A c a2,e= .returned (.agg #[.int .i64 (xX.kind:Nat),.int .i64 (xX.mode:Nat),.int .i64 (xX.links:Nat),.int .i64 (xX.size:Nat),.slice A xX.spots.length c])∧VC SX a2∧Sep w0 w' (volR f q p SX a2::intsR (.slice A xX.spots.length c) (spI xX.spots)::(Y++RB))):=Lh (hin0.out RB);(have hX:Hid (Sep w0 wB (volR f q p SX aX::RB)):=by rw[hRBe];exact Lh (Sep.sel [2,0,1] hX1.out (by decide) (by simp)));clear hX1 hRBe hRB hcgB hin0;refine wp_region_Ew (S:=fun w'=>w'.cell? ⟨bf,0,none⟩=some (.pointer (some ⟨f,0,none⟩))∧w'.cell? ⟨bn,0,none⟩=some (.int .i64 m)) 7 (by kernel_rfl) ?_;intro wq hwq;(have hX2:Hid (Sep w0 wq (volR f q p SX aX::RB)):=by rw[hwq];exact Lh hX.out.drew);clear hwq hX;have hc:=hR.out wq [_] hX2.out;simp only[List.size_toArray,List.length_cons,List.length_nil,Nat.reduceAdd];refine wpE_tk (i:=0) (v:=?_) hc rfl ?_ ?_;rotate_left
    ·rintro w ⟨e1,e2⟩;go_simp;try with_reducible rfl
    simp only[Act.put,gD];refine wpE_tk (i:=1) (v:=?_) hc rfl ?_ ?_;rotate_left
    ·rintro w ⟨e1,e2⟩;go_simp;try with_reducible rfl
    simp only[Act.put,gD];refine wpE_tk (i:=2) (v:=?_) hc rfl ?_ ?_;rotate_left
    ·rintro w ⟨e1,e2⟩;go_simp;try with_reducible rfl
    simp only[Act.put,gD];refine wpE_tk (i:=3) (v:=?_) hc rfl ?_ ?_;rotate_left
    ·rintro w ⟨e1,e2⟩;go_simp;try with_reducible rfl
    simp only[Act.put,gD];refine wpE_tk (i:=4) (v:=?_) hc rfl ?_ ?_;rotate_left
    ·rintro w ⟨e1,e2⟩;go_simp;try with_reducible rfl
    simp only[Act.put,gD];refine wpE_two8 (i:=5) (j:=6) (by kernel_rfl) rfl rfl (fun K hK=>?_) (fun K hK=>?_)
    focus
     go_simp
     go_at_call 64
     refine(hin.out _ [] _ hV.out hX2.out).mono ?_
     rintro e w9 ⟨A9,c9,a9,rfl,hC9,h9⟩
     have hc9:=hR.out w9 [_,_] h9
     have h8:=Lh (h9.bN 118 zeroI)
     have hc8:=hR.out _ [_,_,_] h8.out
     clear hc hX2
     dsimp only
     refine hK _ _ (fun _=>hc9) ?_
     clear hK K
     try simp only[Act.put,gD]
     refine wpE_one (i:=6) (by kernel_rfl) rfl (fun K hK=>?_)
     go_simp
     unfold zeroI at hc8
     try dsimp only
     refine hK _ _ (fun _=>hc8) ?_
     clear hK K
     try simp only[Act.put,gD]
     obtain⟨bx,hbx⟩:∃bx,bx=w9.heap.size:=⟨_,rfl⟩
     obtain⟨w8,hw8⟩:∃x,x=w9.alloc (.cells #[.int .i64 0,.int .i64 0,.int .i64 0,.int .i64 0,.slice none 0 0] 118):=⟨_,rfl⟩
     have hB:Hid (Sep w0 w8 (.box bx 118 zeroI::volR f q p SX a9::intsR (.slice A9 xX.spots.length c9) (spI xX.spots)::RB)):=by rw[hw8,hbx];exact h8
     rw[←hw8,←hbx]
     clear hw8 hbx h8 hc8 hc9 h9
     have hC9':=Lh hC9
     clear hC9
    rotate_left
    focus
     go_simp
     have h9:=Lh (hX2.out.bN 118 zeroI)
     have hc9:=hR.out _ [_,_] h9.out
     clear hc
     unfold zeroI at hc9
     try dsimp only
     refine hK _ _ (fun _=>hc9) ?_
     clear hK K
     try simp only[Act.put,gD]
     obtain⟨bx,hbx⟩:∃bx,bx=wq.heap.size:=⟨_,rfl⟩
     obtain⟨w9,hw9⟩:∃x,x=wq.alloc (.cells #[.int .i64 0,.int .i64 0,.int .i64 0,.int .i64 0,.slice none 0 0] 118):=⟨_,rfl⟩
     have h8:Hid (Sep w0 w9 (volR f q p SX aX::([.box bx 118 zeroI]++RB))):=by rw[hw9,hbx];exact Lh (h9.out.perm (List.Perm.swap _ _ _))
     rw[←hw9,←hbx]
     clear hw9 hbx h9 hc9 hX2
     refine wpE_one (i:=5) (by kernel_rfl) rfl (fun K hK=>?_)
     go_simp
     go_at_call 64
     refine(hin.out _ _ _ hV.out h8.out).mono ?_
     rintro e w8 ⟨A9,c9,a9,rfl,hC9,h7⟩
     have hB:Hid (Sep w0 w8 (.box bx 118 zeroI::volR f q p SX a9::intsR (.slice A9 xX.spots.length c9) (spI xX.spots)::RB)):=Lh (Sep.sel [2,0,1] h7 (by decide) (by simp))
     have hc9:=hR.out w8 [_,_,_] hB.out
     clear h8 h7
     dsimp only
     refine hK _ _ (fun _=>hc9) ?_
     clear hK K
     try simp only[Act.put,gD]
     clear hc9
     have hC9':=Lh hC9
     clear hC9
    all_goals
     obtain⟨z0,z1,z2,z3,z4,y0,y1,y2,y3,y4,hfin⟩:=hB.out.zero_info 0 rfl xX (.slice A9 xX.spots.length c9)
     replace hfin:=Lh hfin
     clear hB hV
     refine wpE_one (i:=7) (by kernel_rfl) rfl (fun K hK=>?_)
     go_simp
     refine hK _ _ (fun h=>absurd rfl h) ?_
     clear hK K
     try simp only[Act.put,gD]
     refine wpE_done (by kernel_rfl) ?_ _
     clear z0 z1 z2 z3 z4 y0 y1 y2 y3 y4
     obtain⟨w7,hw7⟩:∃w7,w7=(((((w8.setCell ⟨bx,0,none⟩ (.int .i64 (xX.kind:Nat))).setCell ⟨bx,1,none⟩ (.int .i64 (xX.mode:Nat))).setCell ⟨bx,2,none⟩ (.int .i64 (xX.links:Nat))).setCell ⟨bx,3,none⟩ (.int .i64 (xX.size:Nat))).setCell ⟨bx,4,none⟩ (.slice A9 xX.spots.length c9)):=⟨_,rfl⟩
     rw[←hw7]at hfin ⊢
     clear hw7
     have d0:=(hfin.out.info_cells 0 rfl).1
     have d3:=(hfin.out.info_cells 0 rfl).2.2.2.1
     have dF:=(hR.out w7 [_,_,_] hfin.out).1
     have hfe:Hid (Sep w0 w7 (volR f q p SX a9::RB)):=Lh ((Sep.sel [0,2,1] hfin.out (by decide) (by simp)).drop 2)
     clear hfin
     rw[kk1.out]at d0
     have q1':=q1.out
     go_wp2_with(go_at_call 43;refine(smust_any _ _).mono ?_;rintro e w5 ⟨rfl,h5⟩;obtain rfl:=h5.symm)
     unfold doOut
     exact⟨rfl,rfl,_,hC9'.out,hcB.out.2 _ _ hfe.out⟩
   rw[if_neg hs0];have q1:Hid (((xX.size:Nat):Int)=0):=Lh (by omega);have hs:Hid (xX.size=0):=Lh (by omega);replace hk:=Lh hk;clear hs0;unfold strV at*;unfold doOut;go_enter Tryz.func46,Tryz.ntmps46;go_wp2_with(go_at_call 68;refine hno2.mono ?_;rintro e w6 ⟨rfl,aX,hC9,h9⟩;have h8:=(h9.bN 3 #[.int .i64 d]).bN 3 #[.int .i64 m];rw[size_al]at h8;have hX1:=Lh h8;have hV:=Lh hC9;have hc:=hRB.out _ _ _ _ _ [_] (Sep.sel [2,0,1] h8 (by decide) (by simp));clear h8 hC9 h9 hno2 d0 d1);obtain⟨wB,hwB⟩:∃x,x=(w6.alloc (.cells #[.int .i64 d] 3)).alloc (.cells #[.int .i64 m] 3):=⟨_,rfl⟩;obtain⟨bd,hbd⟩:∃x,x=w6.heap.size:=⟨_,rfl⟩;obtain⟨bn,hbn⟩:∃x,x=bd+1:=⟨_,rfl⟩;obtain⟨bf,hbf⟩:∃x,x=w.heap.size:=⟨_,rfl⟩;obtain⟨bi,hbi⟩:∃x,x=bf+1:=⟨_,rfl⟩;clear hc;rw[←hwB,←hbd,←hbf]at hX1 ⊢;rw[←hbn,←hbi]at hX1 ⊢;clear hwB hbd hbn hbf hbi;obtain⟨RB,hRBe⟩:∃RB,RB=(.box bn 3 #[.int .i64 m]:: .box bd 3 #[.int .i64 d]:: .box bi 38 #[.int .i64 op,strV path,strV tz,.int .i64 mode,.int .i64 kk]:: .box bf 24 #[.pointer (some ⟨f,0,none⟩)]::R):=⟨_,rfl⟩;(have hR:Hid (∀W Y,Sep w0 W (Y++RB)→W.cell? ⟨bf,0,none⟩=some (.pointer (some ⟨f,0,none⟩))∧W.cell? ⟨bn,0,none⟩=some (.int .i64 m)):=by rw[hRBe];exact Lh fun W Y hW=>hRB.out W bn bd bi bf Y hW);have hcB:=Lh (hcgB.out bn bd bi bf RB hRBe);have hin:Hid (∀W Y a1,VC SX a1→Sep w0 W (volR f q p SX a1::(Y++RB))→Calls Tryz.prog 64 #[.pointer (some ⟨f,0,none⟩),.int .i64 m] W fun e w'=>∃A c a2,e= .returned (.agg #[.int .i64 (xX.kind:Nat),.int .i64 (xX.mode:Nat),.int .i64 (xX.links:Nat),.int .i64 (xX.size:Nat),.slice A xX.spots.length c])∧VC SX a2∧Sep w0 w' (volR f q p SX a2::intsR (.slice A xX.spots.length c) (spI xX.spots)::(Y++RB))):=Lh (hin0.out RB);(have hX:Hid (Sep w0 wB (volR f q p SX aX::RB)):=by rw[hRBe];exact Lh (Sep.sel [2,0,1] hX1.out (by decide) (by simp)));clear hX1 hRBe hRB hcgB hin0;refine wp_region_Ew (S:=fun w'=>w'.cell? ⟨bf,0,none⟩=some (.pointer (some ⟨f,0,none⟩))∧w'.cell? ⟨bn,0,none⟩=some (.int .i64 m)) 7 (by kernel_rfl) ?_;intro wq hwq;(have hX2:Hid (Sep w0 wq (volR f q p SX aX::RB)):=by rw[hwq];exact Lh hX.out.drew);clear hwq hX;have hc:=hR.out wq [_] hX2.out;simp only[List.size_toArray,List.length_cons,List.length_nil,Nat.reduceAdd];refine wpE_tk (i:=0) (v:=?_) hc rfl ?_ ?_;rotate_left
   ·rintro w ⟨e1,e2⟩;go_simp;try with_reducible rfl
   simp only[Act.put,gD];refine wpE_tk (i:=1) (v:=?_) hc rfl ?_ ?_;rotate_left
   ·rintro w ⟨e1,e2⟩;go_simp;try with_reducible rfl
   simp only[Act.put,gD];refine wpE_tk (i:=2) (v:=?_) hc rfl ?_ ?_;rotate_left
   ·rintro w ⟨e1,e2⟩;go_simp;try with_reducible rfl
   simp only[Act.put,gD];refine wpE_tk (i:=3) (v:=?_) hc rfl ?_ ?_;rotate_left
   ·rintro w ⟨e1,e2⟩;go_simp;try with_reducible rfl
   simp only[Act.put,gD];refine wpE_tk (i:=4) (v:=?_) hc rfl ?_ ?_;rotate_left
   ·rintro w ⟨e1,e2⟩;go_simp;try with_reducible rfl
   simp only[Act.put,gD];refine wpE_two8 (i:=5) (j:=6) (by kernel_rfl) rfl rfl (fun K hK=>?_) (fun K hK=>?_)
   focus
    go_simp
    go_at_call 64
    refine(hin.out _ [] _ hV.out hX2.out).mono ?_
    rintro e w9 ⟨A9,c9,a9,rfl,hC9,h9⟩
    have hc9:=hR.out w9 [_,_] h9
    have h8:=Lh (h9.bN 118 zeroI)
    have hc8:=hR.out _ [_,_,_] h8.out
    clear hc hX2
    dsimp only
    refine hK _ _ (fun _=>hc9) ?_
    clear hK K
    try simp only[Act.put,gD]
    refine wpE_one (i:=6) (by kernel_rfl) rfl (fun K hK=>?_)
    go_simp
    unfold zeroI at hc8
    try dsimp only
    refine hK _ _ (fun _=>hc8) ?_
    clear hK K
    try simp only[Act.put,gD]
    obtain⟨bx,hbx⟩:∃bx,bx=w9.heap.size:=⟨_,rfl⟩
    obtain⟨w8,hw8⟩:∃x,x=w9.alloc (.cells #[.int .i64 0,.int .i64 0,.int .i64 0,.int .i64 0,.slice none 0 0] 118):=⟨_,rfl⟩
    have hB:Hid (Sep w0 w8 (.box bx 118 zeroI::volR f q p SX a9::intsR (.slice A9 xX.spots.length c9) (spI xX.spots)::RB)):=by rw[hw8,hbx];exact h8
    rw[←hw8,←hbx]
    clear hw8 hbx h8 hc8 hc9 h9
    have hC9':=Lh hC9
    clear hC9
   rotate_left
   focus
    go_simp
    have h9:=Lh (hX2.out.bN 118 zeroI)
    have hc9:=hR.out _ [_,_] h9.out
    clear hc
    unfold zeroI at hc9
    try dsimp only
    refine hK _ _ (fun _=>hc9) ?_
    clear hK K
    try simp only[Act.put,gD]
    obtain⟨bx,hbx⟩:∃bx,bx=wq.heap.size:=⟨_,rfl⟩
    obtain⟨w9,hw9⟩:∃x,x=wq.alloc (.cells #[.int .i64 0,.int .i64 0,.int .i64 0,.int .i64 0,.slice none 0 0] 118):=⟨_,rfl⟩
    have h8:Hid (Sep w0 w9 (volR f q p SX aX::([.box bx 118 zeroI]++RB))):=by rw[hw9,hbx];exact Lh (h9.out.perm (List.Perm.swap _ _ _))
    rw[←hw9,←hbx]
    clear hw9 hbx h9 hc9 hX2
    refine wpE_one (i:=5) (by kernel_rfl) rfl (fun K hK=>?_)
    go_simp
    go_at_call 64
    refine(hin.out _ _ _ hV.out h8.out).mono ?_
    rintro e w8 ⟨A9,c9,a9,rfl,hC9,h7⟩
    have hB:Hid (Sep w0 w8 (.box bx 118 zeroI::volR f q p SX a9::intsR (.slice A9 xX.spots.length c9) (spI xX.spots)::RB)):=Lh (Sep.sel [2,0,1] h7 (by decide) (by simp))
    have hc9:=hR.out w8 [_,_,_] hB.out
    clear h8 h7
    dsimp only
    refine hK _ _ (fun _=>hc9) ?_
    clear hK K
    try simp only[Act.put,gD]
    clear hc9
    have hC9':=Lh hC9
    clear hC9
   all_goals
    obtain⟨z0,z1,z2,z3,z4,y0,y1,y2,y3,y4,hfin⟩:=hB.out.zero_info 0 rfl xX (.slice A9 xX.spots.length c9)
    replace hfin:=Lh hfin
    clear hB hV
    refine wpE_one (i:=7) (by kernel_rfl) rfl (fun K hK=>?_)
    go_simp
    refine hK _ _ (fun h=>absurd rfl h) ?_
    clear hK K
    try simp only[Act.put,gD]
    refine wpE_done (by kernel_rfl) ?_ _
    clear z0 z1 z2 z3 z4 y0 y1 y2 y3 y4
    obtain⟨w7,hw7⟩:∃w7,w7=(((((w8.setCell ⟨bx,0,none⟩ (.int .i64 (xX.kind:Nat))).setCell ⟨bx,1,none⟩ (.int .i64 (xX.mode:Nat))).setCell ⟨bx,2,none⟩ (.int .i64 (xX.links:Nat))).setCell ⟨bx,3,none⟩ (.int .i64 (xX.size:Nat))).setCell ⟨bx,4,none⟩ (.slice A9 xX.spots.length c9)):=⟨_,rfl⟩
    rw[←hw7]at hfin ⊢
    clear hw7
    have d0:=(hfin.out.info_cells 0 rfl).1
    have d3:=(hfin.out.info_cells 0 rfl).2.2.2.1
    have dF:=(hR.out w7 [_,_,_] hfin.out).1
    have hfe:Hid (Sep w0 w7 (volR f q p SX a9::RB)):=Lh ((Sep.sel [0,2,1] hfin.out (by decide) (by simp)).drop 2)
    clear hfin
    rw[kk1.out]at d0
    rw[q1.out]at d3
    have hch:=hcB.out.1 hk.out hs.out _ _ hC9'.out hfe.out
    go_wp2_with(go_at_call 65;refine hch.mono ?_;intro e w5 ho;rcases change_ends ho with rfl|⟨k,rfl⟩)
    ·go_end0
     exact ho
    ·exact⟨rfl,ho⟩
  rw[if_pos hk];have kk1:Hid (¬((xX.kind:Nat):Int)=1):=Lh (by omega);replace hk:=Lh hk;unfold strV at*;go_enter Tryz.func46,Tryz.ntmps46;go_wp2_with(go_at_call 68;refine hno2.mono ?_;rintro e w6 ⟨rfl,aX,hC9,h9⟩;have h8:=(h9.bN 3 #[.int .i64 d]).bN 3 #[.int .i64 m];rw[size_al]at h8;have hX1:=Lh h8;have hV:=Lh hC9;have hc:=hRB.out _ _ _ _ _ [_] (Sep.sel [2,0,1] h8 (by decide) (by simp));clear h8 hC9 h9 hno2 d0 d1);obtain⟨wB,hwB⟩:∃x,x=(w6.alloc (.cells #[.int .i64 d] 3)).alloc (.cells #[.int .i64 m] 3):=⟨_,rfl⟩;obtain⟨bd,hbd⟩:∃x,x=w6.heap.size:=⟨_,rfl⟩;obtain⟨bn,hbn⟩:∃x,x=bd+1:=⟨_,rfl⟩;obtain⟨bf,hbf⟩:∃x,x=w.heap.size:=⟨_,rfl⟩;obtain⟨bi,hbi⟩:∃x,x=bf+1:=⟨_,rfl⟩;clear hc;rw[←hwB,←hbd,←hbf]at hX1 ⊢;rw[←hbn,←hbi]at hX1 ⊢;clear hwB hbd hbn hbf hbi;obtain⟨RB,hRBe⟩:∃RB,RB=(.box bn 3 #[.int .i64 m]:: .box bd 3 #[.int .i64 d]:: .box bi 38 #[.int .i64 op,strV path,strV tz,.int .i64 mode,.int .i64 kk]:: .box bf 24 #[.pointer (some ⟨f,0,none⟩)]::R):=⟨_,rfl⟩;(have hR:Hid (∀W Y,Sep w0 W (Y++RB)→W.cell? ⟨bf,0,none⟩=some (.pointer (some ⟨f,0,none⟩))∧W.cell? ⟨bn,0,none⟩=some (.int .i64 m)):=by rw[hRBe];exact Lh fun W Y hW=>hRB.out W bn bd bi bf Y hW);have hcB:=Lh (hcgB.out bn bd bi bf RB hRBe);have hin:Hid (∀W Y a1,VC SX a1→Sep w0 W (volR f q p SX a1::(Y++RB))→Calls Tryz.prog 64 #[.pointer (some ⟨f,0,none⟩),.int .i64 m] W fun e w'=>∃A c a2,e= .returned (.agg #[.int .i64 (xX.kind:Nat),.int .i64 (xX.mode:Nat),.int .i64 (xX.links:Nat),.int .i64 (xX.size:Nat),.slice A xX.spots.length c])∧VC SX a2∧Sep w0 w' (volR f q p SX a2::intsR (.slice A xX.spots.length c) (spI xX.spots)::(Y++RB))):=Lh (hin0.out RB);(have hX:Hid (Sep w0 wB (volR f q p SX aX::RB)):=by rw[hRBe];exact Lh (Sep.sel [2,0,1] hX1.out (by decide) (by simp)));clear hX1 hRBe hRB hcgB hin0;refine wp_region_Ew (S:=fun w'=>w'.cell? ⟨bf,0,none⟩=some (.pointer (some ⟨f,0,none⟩))∧w'.cell? ⟨bn,0,none⟩=some (.int .i64 m)) 7 (by kernel_rfl) ?_;intro wq hwq;(have hX2:Hid (Sep w0 wq (volR f q p SX aX::RB)):=by rw[hwq];exact Lh hX.out.drew);clear hwq hX;have hc:=hR.out wq [_] hX2.out;simp only[List.size_toArray,List.length_cons,List.length_nil,Nat.reduceAdd];refine wpE_tk (i:=0) (v:=?_) hc rfl ?_ ?_;rotate_left
  ·rintro w ⟨e1,e2⟩;go_simp;try with_reducible rfl
  simp only[Act.put,gD];refine wpE_tk (i:=1) (v:=?_) hc rfl ?_ ?_;rotate_left
  ·rintro w ⟨e1,e2⟩;go_simp;try with_reducible rfl
  simp only[Act.put,gD];refine wpE_tk (i:=2) (v:=?_) hc rfl ?_ ?_;rotate_left
  ·rintro w ⟨e1,e2⟩;go_simp;try with_reducible rfl
  simp only[Act.put,gD];refine wpE_tk (i:=3) (v:=?_) hc rfl ?_ ?_;rotate_left
  ·rintro w ⟨e1,e2⟩;go_simp;try with_reducible rfl
  simp only[Act.put,gD];refine wpE_tk (i:=4) (v:=?_) hc rfl ?_ ?_;rotate_left
  ·rintro w ⟨e1,e2⟩;go_simp;try with_reducible rfl
  simp only[Act.put,gD];refine wpE_two8 (i:=5) (j:=6) (by kernel_rfl) rfl rfl (fun K hK=>?_) (fun K hK=>?_)
  focus
   go_simp
   go_at_call 64
   refine(hin.out _ [] _ hV.out hX2.out).mono ?_
   rintro e w9 ⟨A9,c9,a9,rfl,hC9,h9⟩
   have hc9:=hR.out w9 [_,_] h9
   have h8:=Lh (h9.bN 118 zeroI)
   have hc8:=hR.out _ [_,_,_] h8.out
   clear hc hX2
   dsimp only
   refine hK _ _ (fun _=>hc9) ?_
   clear hK K
   try simp only[Act.put,gD]
   refine wpE_one (i:=6) (by kernel_rfl) rfl (fun K hK=>?_)
   go_simp
   unfold zeroI at hc8
   try dsimp only
   refine hK _ _ (fun _=>hc8) ?_
   clear hK K
   try simp only[Act.put,gD]
   obtain⟨bx,hbx⟩:∃bx,bx=w9.heap.size:=⟨_,rfl⟩
   obtain⟨w8,hw8⟩:∃x,x=w9.alloc (.cells #[.int .i64 0,.int .i64 0,.int .i64 0,.int .i64 0,.slice none 0 0] 118):=⟨_,rfl⟩
   have hB:Hid (Sep w0 w8 (.box bx 118 zeroI::volR f q p SX a9::intsR (.slice A9 xX.spots.length c9) (spI xX.spots)::RB)):=by rw[hw8,hbx];exact h8
   rw[←hw8,←hbx]
   clear hw8 hbx h8 hc8 hc9 h9
   have hC9':=Lh hC9
   clear hC9
  rotate_left
  focus
   go_simp
   have h9:=Lh (hX2.out.bN 118 zeroI)
   have hc9:=hR.out _ [_,_] h9.out
   clear hc
   unfold zeroI at hc9
   try dsimp only
   refine hK _ _ (fun _=>hc9) ?_
   clear hK K
   try simp only[Act.put,gD]
   obtain⟨bx,hbx⟩:∃bx,bx=wq.heap.size:=⟨_,rfl⟩
   obtain⟨w9,hw9⟩:∃x,x=wq.alloc (.cells #[.int .i64 0,.int .i64 0,.int .i64 0,.int .i64 0,.slice none 0 0] 118):=⟨_,rfl⟩
   have h8:Hid (Sep w0 w9 (volR f q p SX aX::([.box bx 118 zeroI]++RB))):=by rw[hw9,hbx];exact Lh (h9.out.perm (List.Perm.swap _ _ _))
   rw[←hw9,←hbx]
   clear hw9 hbx h9 hc9 hX2
   refine wpE_one (i:=5) (by kernel_rfl) rfl (fun K hK=>?_)
   go_simp
   go_at_call 64
   refine(hin.out _ _ _ hV.out h8.out).mono ?_
   rintro e w8 ⟨A9,c9,a9,rfl,hC9,h7⟩
   have hB:Hid (Sep w0 w8 (.box bx 118 zeroI::volR f q p SX a9::intsR (.slice A9 xX.spots.length c9) (spI xX.spots)::RB)):=Lh (Sep.sel [2,0,1] h7 (by decide) (by simp))
   have hc9:=hR.out w8 [_,_,_] hB.out
   clear h8 h7
   dsimp only
   refine hK _ _ (fun _=>hc9) ?_
   clear hK K
   try simp only[Act.put,gD]
   clear hc9
   have hC9':=Lh hC9
   clear hC9
  all_goals
   obtain⟨z0,z1,z2,z3,z4,y0,y1,y2,y3,y4,hfin⟩:=hB.out.zero_info 0 rfl xX (.slice A9 xX.spots.length c9)
   replace hfin:=Lh hfin
   clear hB hV
   refine wpE_one (i:=7) (by kernel_rfl) rfl (fun K hK=>?_)
   go_simp
   refine hK _ _ (fun h=>absurd rfl h) ?_
   clear hK K
   try simp only[Act.put,gD]
   refine wpE_done (by kernel_rfl) ?_ _
   clear z0 z1 z2 z3 z4 y0 y1 y2 y3 y4
   obtain⟨w7,hw7⟩:∃w7,w7=(((((w8.setCell ⟨bx,0,none⟩ (.int .i64 (xX.kind:Nat))).setCell ⟨bx,1,none⟩ (.int .i64 (xX.mode:Nat))).setCell ⟨bx,2,none⟩ (.int .i64 (xX.links:Nat))).setCell ⟨bx,3,none⟩ (.int .i64 (xX.size:Nat))).setCell ⟨bx,4,none⟩ (.slice A9 xX.spots.length c9)):=⟨_,rfl⟩
   rw[←hw7]at hfin ⊢
   clear hw7
   have d0:=(hfin.out.info_cells 0 rfl).1
   have d3:=(hfin.out.info_cells 0 rfl).2.2.2.1
   have dF:=(hR.out w7 [_,_,_] hfin.out).1
   have hfe:Hid (Sep w0 w7 (volR f q p SX a9::RB)):=Lh ((Sep.sel [0,2,1] hfin.out (by decide) (by simp)).drop 2)
   clear hfin
   have q1':=kk1.out
   go_wp2_with(go_at_call 43;refine(smust_any _ _).mono ?_;rintro e w5 ⟨rfl,h5⟩;obtain rfl:=h5.symm)
   unfold doOut
   exact⟨rfl,rfl,_,hC9'.out,hcB.out.2 _ _ hfe.out⟩
end
def fieldsP (op:Int):Bool×Bool×Bool:=
 if(op==3||op==4)=true then(true,false,true)else if(op==7)=true then(true,true,true)else if(op==1||op==6||op==8)=true then(false,true,true)
 else if(op==2||op==5||op==9)=true then(false,false,true)else(false,false,false)
set_option maxRecDepth 100000 in
set_option maxHeartbeats 1000000 in
theorem fields_any (op:Int) (w:World):
  Calls Tryz.prog 96 #[.int .i64 op] w fun e w'=>e= .returned (.tuple #[.bool (fieldsP op).1,.bool (fieldsP op).2.1,.bool (fieldsP op).2.2])∧w'=w:=by
 cases h3:(op==3)with
 |true=>
  (have hf:fieldsP op=(true,false,true):=by simp[fieldsP,h3]);rw[hf];clear hf;go_enter Tryz.func96,Tryz.ntmps96;go_wp2_with fail
  go_ret3
  exact⟨rfl,rfl⟩
 |false=>
  cases h4:(op==4)with
  |true=>
   (have hf:fieldsP op=(true,false,true):=by simp[fieldsP,h3,h4]);rw[hf];clear hf;go_enter Tryz.func96,Tryz.ntmps96;go_wp2_with fail
   go_ret3
   exact⟨rfl,rfl⟩
  |false=>
   cases h7:(op==7)with
   |true=>
    (have hf:fieldsP op=(true,true,true):=by simp[fieldsP,h3,h4,h7]);rw[hf];clear hf;go_enter Tryz.func96,Tryz.ntmps96;go_wp2_with fail
    go_ret3
    exact⟨rfl,rfl⟩
   |false=>
    cases h1:(op==1)with
    |true=>
     (have hf:fieldsP op=(false,true,true):=by simp[fieldsP,h3,h4,h7,h1]);rw[hf];clear hf;go_enter Tryz.func96,Tryz.ntmps96;go_wp2_with fail
     go_ret3
     exact⟨rfl,rfl⟩
    |false=>
     cases h6:(op==6)with
     |true=>
      (have hf:fieldsP op=(false,true,true):=by simp[fieldsP,h3,h4,h7,h1,h6]);rw[hf];clear hf;go_enter Tryz.func96,Tryz.ntmps96;go_wp2_with fail
      go_ret3
      exact⟨rfl,rfl⟩
     |false=>
      cases h8:(op==8)with
      |true=>
       (have hf:fieldsP op=(false,true,true):=by simp[fieldsP,h3,h4,h7,h1,h6,h8]);rw[hf];clear hf;go_enter Tryz.func96,Tryz.ntmps96;go_wp2_with fail
       go_ret3
       exact⟨rfl,rfl⟩
      |false=>
       cases h2:(op==2)with
       |true=>
        (have hf:fieldsP op=(false,false,true):=by simp[fieldsP,h3,h4,h7,h1,h6,h8,h2]);rw[hf];clear hf;go_enter Tryz.func96,Tryz.ntmps96;go_wp2_with fail
        go_ret3
        exact⟨rfl,rfl⟩
       |false=>
        cases h5:(op==5)with
        |true=>
         (have hf:fieldsP op=(false,false,true):=by simp[fieldsP,h3,h4,h7,h1,h6,h8,h2,h5]);rw[hf];clear hf;go_enter Tryz.func96,Tryz.ntmps96;go_wp2_with fail
         go_ret3
         exact⟨rfl,rfl⟩
        |false=>
         cases h9:(op==9)with
         |true=>
          (have hf:fieldsP op=(false,false,true):=by simp[fieldsP,h3,h4,h7,h1,h6,h8,h2,h5,h9]);rw[hf];clear hf;go_enter Tryz.func96,Tryz.ntmps96;go_wp2_with fail
          go_ret3
          exact⟨rfl,rfl⟩
         |false=>
          (have hf:fieldsP op=(false,false,false):=by simp[fieldsP,h3,h4,h7,h1,h6,h8,h2,h5,h9]);rw[hf];clear hf;go_enter Tryz.func96,Tryz.ntmps96;go_wp2_with fail
          go_ret3
          exact⟨rfl,rfl⟩
end Go.Proofs.YteihmbaimbogaaaGreat
