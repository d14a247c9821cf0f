/- FuU, laid together. -/
import Derived.Test.YteihmbaimbogaaaGreatJ28
namespace Go.Proofs.YteihmbaimbogaaaGreat
open Go.RowKit
set_option linter.unusedVariables false
set_option linter.unusedSimpArgs false
section
variable {w0 w:World} {R:List Asn} {f q p:Nat} {S:VS} {a:VA}
set_option maxRecDepth 100000 in
set_option maxHeartbeats 1000000 in
theorem sync_any {vs:Value} {op mode kk:Int} {path tz:List UInt8} (hC:VC S a) (h:Sep w0 w (volR f q p S a::R)):
  Calls Tryz.prog 53 #[.pointer (some ⟨f,0,none⟩),.agg #[.int .i64 op,strV path,strV tz,.int .i64 mode,.int .i64 kk],vs] w fun e w'=>e= .returned (.tuple #[])∧Sep w0 w' (volR f q p S a::R):=by
 have h0:Sep w0 (w.alloc (.cells #[.int .i64 op,strV path,strV tz,.int .i64 mode,.int .i64 kk] 38)) (volR f q p S a:: .box w.heap.size 38 #[.int .i64 op,strV path,strV tz,.int .i64 mode,.int .i64 kk]::R):=(h.bN _ _).perm (List.Perm.swap _ _ _);have c0:(w.alloc (.cells #[.int .i64 op,strV path,strV tz,.int .i64 mode,.int .i64 kk] 38)).cell? ⟨f,0,none⟩=some (.pointer (some ⟨q,0,none⟩)):=by have h1:=h0.starL_open;have h2:Sep w0 _ (fsB f q S a.sb (.map (some a.fb)) false::ledgerR q p false::diskR p S.D::seenR a.sb a.SM::blkM a.fb a.FM:: .box w.heap.size 38 #[.int .i64 op,strV path,strV tz,.int .i64 mode,.int .i64 kk]::R):=h1;exact h2.bC 0 rfl 0
 have hsy:Calls Tryz.prog 76 #[.pointer (some ⟨q,0,none⟩)] (w.alloc (.cells #[.int .i64 op,strV path,strV tz,.int .i64 mode,.int .i64 kk] 38)) fun e w'=>e= .returned (.int .i64 0)∧Sep w0 w' (volR f q p S a::R):=by have h1:=h0.starL_open;have h2:Sep w0 (w.alloc (.cells #[.int .i64 op,strV path,strV tz,.int .i64 mode,.int .i64 kk] 38)) (ledgerR q p false::diskR p S.D::fsB f q S a.sb (.map (some a.fb)) false::seenR a.sb a.SM::blkM a.fb a.FM:: .box w.heap.size 38 #[.int .i64 op,strV path,strV tz,.int .i64 mode,.int .i64 kk]::R):=Sep.sel [1,2,0] h1 (by decide) (by simp[volP]);refine(lsync_any hC.dok h2).mono ?_;rintro e w' ⟨rfl,h3⟩;rw[hC.on]at h3;refine⟨by rw[hC.on];rfl,?_⟩;have h4:Sep w0 w' (.box w.heap.size 38 #[.int .i64 op,strV path,strV tz,.int .i64 mode,.int .i64 kk]::(volP f q p S a++R)):=Sep.sel [5,2,0,1,3,4] h3 (by decide) (by simp[volP]);exact(h4.drop 1).starL_shut
 clear h h0 hC;unfold strV at*;go_enter Tryz.func53,Tryz.ntmps53;go_wp2_with(first |(go_at_call 76;refine hsy.mono ?_;rintro e w9 ⟨rfl,h9⟩;replace h9:=Lh h9;clear hsy)|(go_at_call 43;refine(smust_any _ _).mono ?_;rintro e w8 ⟨rfl,h8⟩;obtain rfl:=h8.symm))
 go_end0
 exact⟨rfl,h9.out⟩
def dupE (S:VS) (path path2:List UInt8) (mode:Nat):Except Int (Option VS):=
 match fileE S.cur (lookP S.cur S.data 0 0 (splitB path))with
 |some k=>.error k
 |none=>match nothingE (lookP S.cur S.data 0 0 (splitB path2))with
  |some k=>.error k
  |none=>if S.nodes<256 then .ok (madeP S (⟨2,mode,1,0,[]⟩:VI) (contentP S.cur S.data (inoP S.cur (lookP S.cur S.data 0 0 (splitB path)).2.1.toNat)) (lookP S.cur S.data 0 0 (splitB path2)).1.toNat (baseP path2))else .error 31
set_option maxRecDepth 100000 in
set_option maxHeartbeats 4000000 in
theorem duplicate_any {vs:Value} {op kk:Int} {mode:Nat} {path path2:List UInt8} (hC:VC S a) (hV:VW S) (hb:S.D.back=[]) (hv:validL path=true) (hp:path.length≤1048576) (hv2:validL path2=true) (hp2:path2.length≤1048576)
  (hch:∀d m d2:Nat,m<S.names→lookP S.cur S.data 0 0 (splitB path)=((d:Int),(m:Int),0)→¬(inoP S.cur m).kind=1→(lookP S.cur S.data 0 0 (splitB path2))=((d2:Int), -1,0)→S.nodes<256→(inoP S.cur m).size≤512*(inoP S.cur m).spots.length∧MadeOk S (⟨2,mode,1,0,[]⟩:VI) (contentP S.cur S.data (inoP S.cur m)) d2 path2) (h:Sep w0 w (volR f q p S a::R)):
  Calls Tryz.prog 51 #[.pointer (some ⟨f,0,none⟩),.agg #[.int .i64 op,strV path,strV path2,.int .i64 mode,.int .i64 kk],vs] w (doOut f q p S (dupE S path path2 mode) w0 R):=by
 have hno:Hid (∀W bi,Sep w0 W (volR f q p S a:: .box bi 38 #[.int .i64 op,strV path,strV path2,.int .i64 mode,.int .i64 kk]::R)→W.cell? ⟨bi,1,none⟩=some (strV path)∧W.cell? ⟨bi,2,none⟩=some (strV path2)∧Calls Tryz.prog 71 #[.pointer (some ⟨f,0,none⟩),strV path] W fun e w'=>e=fileP S.cur (lookP S.cur S.data 0 0 (splitB path))∧∃a',VC S a'∧Sep w0 w' (volR f q p S a':: .box bi 38 #[.int .i64 op,strV path,strV path2,.int .i64 mode,.int .i64 kk]::R)):=Lh fun W bi hW=>
  ⟨hW.bC 1 rfl 1,hW.bC 1 rfl 2,(file_any hC hV hv hp hW).mono fun e w' ⟨h1,a',h2,h3⟩=>⟨h1,a',h2.ok,h3⟩⟩
 have hnt:Hid (∀W bi a1,VC S a1→Sep w0 W (volR f q p S a1:: .box bi 38 #[.int .i64 op,strV path,strV path2,.int .i64 mode,.int .i64 kk]::R)→W.cell? ⟨bi,2,none⟩=some (strV path2)∧Calls Tryz.prog 98 #[.pointer (some ⟨f,0,none⟩),strV path2] W fun e w'=>e=nothingP (lookP S.cur S.data 0 0 (splitB path2))∧∃a',VC S a'∧Sep w0 w' (volR f q p S a':: .box bi 38 #[.int .i64 op,strV path,strV path2,.int .i64 mode,.int .i64 kk]::R)):=Lh fun W bi a1 hC1 hW=>
  ⟨hW.bC 1 rfl 2,(nothing_any hC1 hV hv2 hp2 hW).mono fun e w' ⟨h1,a',h2,h3⟩=>⟨h1,a',h2.ok,h3⟩⟩
 have hon:Hid (∀W bi a1,Sep w0 W (volR f q p S a1:: .box bi 38 #[.int .i64 op,strV path,strV path2,.int .i64 mode,.int .i64 kk]::R)→Calls Tryz.prog 62 #[.pointer (some ⟨f,0,none⟩)] W fun e w'=>e=(if S.nodes<256 then .returned (.tuple #[])else .panicked (stopF 31))∧w'=W):=Lh fun W bi a1 hW=>one_any hW
 have hct:Hid (∀d m d2:Nat,m<S.names→lookP S.cur S.data 0 0 (splitB path)=((d:Int),(m:Int),0)→¬(inoP S.cur m).kind=1→(lookP S.cur S.data 0 0 (splitB path2))=((d2:Int), -1,0)→S.nodes<256→∀W bi a1,VC S a1→Sep w0 W (volR f q p S a1:: .box bi 38 #[.int .i64 op,strV path,strV path2,.int .i64 mode,.int .i64 kk]::R)→
   (W.cell? ⟨bi,2,none⟩=some (strV path2)∧W.cell? ⟨bi,3,none⟩=some (.int .i64 mode))∧Calls Tryz.prog 72 #[.pointer (some ⟨f,0,none⟩),.int .i64 m] W fun e w'=>∃v,e= .returned v∧(w'.cell? ⟨bi,2,none⟩=some (strV path2)∧w'.cell? ⟨bi,3,none⟩=some (.int .i64 mode))∧
    Calls Tryz.prog 63 #[.pointer (some ⟨f,0,none⟩),.int .i64 d2,strV path2,.agg #[.int .i64 2,.int .i64 mode,.int .i64 1,.int .i64 0,.slice none 0 0],v] w' fun e w2=>changeOut f q p S (madeP S (⟨2,mode,1,0,[]⟩:VI) (contentP S.cur S.data (inoP S.cur m)) d2 (baseP path2)) w0 R e w2∧(w2.cell? ⟨bi,2,none⟩=some (strV path2)∧w2.cell? ⟨bi,3,none⟩=some (.int .i64 mode))):=Lh fun d m d2 hm hl hk hl2 hnn W bi a1 hC1 hW=>by
  obtain⟨hsz,hok⟩:=hch d m d2 hm hl hk hl2 hnn
  refine⟨⟨hW.bC 1 rfl 2,hW.bC 1 rfl 3⟩,(content_any hC1 hV.vf hm (hV.few m hm) (hV.lt m hm) hsz hW).mono ?_⟩
  rintro e w' ⟨v,a2,rfl,hR2,h2⟩
  refine⟨v,rfl,⟨h2.bC 2 rfl 2,h2.bC 2 rfl 3⟩,?_⟩
  refine(made_any (x:=(⟨2,mode,1,0,[]⟩:VI)) hR2.ok hV.vf hb hok (Tells.part 0 rfl) (h2.perm (List.Perm.swap _ _ _))).mono fun e w2 ho=>?_
  obtain⟨Y,hY⟩:=change_in ho
  exact⟨changeOut_drop (Y:=[_,_]) ho,hY.box_in 1 rfl 2,hY.box_in 1 rfl 3⟩
 have hln:=look_nat hV (path:=path);have hok:=lookP_ok hV (splitB path2) 0 0 hV.n0 hV.n0;have hX0:Hid (Sep w0 (w.alloc (.cells #[.int .i64 op,strV path,strV path2,.int .i64 mode,.int .i64 kk] 38)) (volR f q p S a:: .box w.heap.size 38 #[.int .i64 op,strV path,strV path2,.int .i64 mode,.int .i64 kk]::R)):=Lh ((h.bN _ _).perm (List.Perm.swap _ _ _));obtain⟨d0,d1,hno2⟩:=hno.out _ _ hX0.out;obtain⟨r,hr⟩:∃r,r=lookP S.cur S.data 0 0 (splitB path):=⟨_,rfl⟩;obtain⟨r2,hr2⟩:∃r,r=(lookP S.cur S.data 0 0 (splitB path2)):=⟨_,rfl⟩;unfold dupE;rw[←hr]at hno2 hct hln ⊢;rw[←hr2]at hnt hct hok ⊢;obtain⟨b2,hb2⟩:∃b,b=baseP path2:=⟨_,rfl⟩;rw[←hb2]at hct ⊢;clear hC hV hb hv hp hv2 hp2 hch h hno hr hr2 hX0 hb2;rw[fileE_is]at hno2;cases hn:fileE S.cur r with
 |some k=>rw[hn]at hno2;clear hct hln hn hnt hok hon;unfold strV at*;simp only at hno2;go_enter Tryz.func51,Tryz.ntmps51;go_wp2_with(go_at_call 71;refine hno2.mono ?_;rintro e w9 ⟨rfl,a9,hC9,h9⟩;have hend:=Lh (And.intro hC9 h9);clear hC9 h9 hno2);unfold doOut;exact⟨rfl,rfl,_,hend.out.1,(hend.out.2.perm (List.Perm.swap _ _ _)).drop 1⟩
 |none=>
  rw[hn]at hno2;obtain⟨hr0,hr1,hr3⟩:=fileE_ok hn;obtain⟨d,m,hdl,hml,hre⟩:=hln hr0 hr1;rw[hre]at hr3;(have hct2:=fun d2=>hct.out d m d2 hml hre hr3);rw[hre]at hno2 ⊢;simp only[Int.toNat_natCast]at hno2 ⊢;clear hct hln hn hr0 hr1 hr3 hdl hml hre;rw[nothingE_is]at hnt;cases hn2:nothingE r2 with
  |some k=>rw[hn2]at hnt;clear hct2 hn2 hok hon;unfold strV at*;go_enter Tryz.func51,Tryz.ntmps51;go_wp2_with(first |(go_at_call 71;refine hno2.mono ?_;rintro e w9 ⟨rfl,a9,hC9,h9⟩;obtain⟨d4,hcall⟩:=hnt.out _ _ _ hC9 h9;clear hC9 h9 hno2 d0 d1 hnt)|(go_at_call 98;refine hcall.mono ?_;rintro e w8 ⟨rfl,a8,hC8,h8⟩;have hend:=Lh (And.intro hC8 h8);clear hC8 h8 hcall));unfold doOut;exact⟨rfl,rfl,_,hend.out.1,(hend.out.2.perm (List.Perm.swap _ _ _)).drop 1⟩
  |none=>
   rw[hn2]at hnt;obtain⟨hr0,hr1⟩:=nothingE_ok hn2;obtain⟨⟨d2,_,hd⟩,hd2⟩:=hok hr0;have hd3:r2.2.1= -1:=by
    rcases hd2 with hd2|⟨m,_,hd2⟩
    ·exact hd2
    omega
   (have hre:r2=((d2:Int), -1,0):=by obtain⟨r1,r2,r3⟩:=r2;simp only at hd hd3 hr0;rw[hd,hd3,hr0]);have hct3:=hct2 d2 hre;rw[hre]at hnt ⊢;simp only[Int.toNat_natCast]at hnt ⊢;obtain⟨rX,hrX⟩:∃rX,rX=madeP S (⟨2,mode,1,0,[]⟩:VI) (contentP S.cur S.data (inoP S.cur m)) d2 b2:=⟨_,rfl⟩;rw[←hrX]at hct3 ⊢;clear hct2 hok hn2 hr0 hr1 hd hd2 hd3 hre hrX;by_cases hnn:S.nodes<256
   ·replace hct3:=Lh (hct3 hnn);rw[if_pos hnn]at hon ⊢;clear hnn;unfold strV at*;unfold doOut;go_enter Tryz.func51,Tryz.ntmps51;go_wp2_with(first |(go_at_call 71;refine hno2.mono ?_;rintro e w9 ⟨rfl,a9,hC9,h9⟩;obtain⟨d4,hcall⟩:=hnt.out _ _ _ hC9 h9;clear hC9 h9 hno2 d0 d1 hnt)|(go_at_call 98;refine hcall.mono ?_;rintro e w8 ⟨rfl,a8,hC8,h8⟩;obtain⟨hE,hct4⟩:=hct3.out _ _ _ hC8 h8.drew;have hca3:=hon.out _ _ _ h8;clear hC8 h8 hcall hct3 hon d4)|(go_at_call 62;refine hca3.mono ?_;rintro e w7 ⟨rfl,h7⟩;obtain rfl:=h7.symm;clear hca3));refine wp_region_E (S:=fun w'=>w'.cell? ⟨w.heap.size,2,none⟩=some (.string ⟨path2.toArray⟩)∧w'.cell? ⟨w.heap.size,3,none⟩=some (.int .i64 mode)) 14 (by kernel_rfl) ?_;simp only[List.size_toArray,List.length_cons,List.length_nil,Nat.reduceAdd];refine wpE_tk (i:=0) (v:=?_) hE rfl ?_ ?_;rotate_left
    ·rintro w ⟨e1,e2⟩;go_simp;try with_reducible rfl
    simp only[Act.put,gD];refine wpE_tk (i:=1) (v:=?_) hE rfl ?_ ?_;rotate_left
    ·rintro w ⟨e1,e2⟩;go_simp;try with_reducible rfl
    simp only[Act.put,gD];refine wpE_tk (i:=2) (v:=?_) hE rfl ?_ ?_;rotate_left
    ·rintro w ⟨e1,e2⟩;go_simp;try with_reducible rfl
    simp only[Act.put,gD];refine wpE_tk (i:=3) (v:=?_) hE rfl ?_ ?_;rotate_left
    ·rintro w ⟨e1,e2⟩;go_simp;try with_reducible rfl
    simp only[Act.put,gD];refine wpE_tk (i:=4) (v:=?_) hE rfl ?_ ?_;rotate_left
    ·rintro w ⟨e1,e2⟩;go_simp;try with_reducible rfl
    simp only[Act.put,gD];refine wpE_tk (i:=5) (v:=?_) hE rfl ?_ ?_;rotate_left
    ·rintro w ⟨e1,e2⟩;go_simp;try with_reducible rfl
    simp only[Act.put,gD];refine wpE_tk (i:=6) (v:=?_) hE rfl ?_ ?_;rotate_left
    ·rintro w ⟨e1,e2⟩;go_simp;try with_reducible rfl
    simp only[Act.put,gD];refine wpE_tk (i:=7) (v:=?_) hE rfl ?_ ?_;rotate_left
    ·rintro w ⟨e1,e2⟩;go_simp;try with_reducible rfl
    simp only[Act.put,gD];refine wpE_tk (i:=8) (v:=?_) hE rfl ?_ ?_;rotate_left
    ·rintro w ⟨e1,e2⟩;go_simp;try with_reducible rfl
    simp only[Act.put,gD];refine wpE_tk (i:=9) (v:=?_) hE rfl ?_ ?_;rotate_left
    ·rintro w ⟨e1,e2⟩;go_simp;try with_reducible rfl
    simp only[Act.put,gD];refine wpE_tk (i:=10) (v:=?_) hE rfl ?_ ?_;rotate_left
    ·rintro w ⟨e1,e2⟩;go_simp;try with_reducible rfl
    simp only[Act.put,gD];refine wpE_tk (i:=11) (v:=?_) hE rfl ?_ ?_;rotate_left
    ·rintro w ⟨e1,e2⟩;go_simp;try with_reducible rfl
    simp only[Act.put,gD];refine wpE_one (i:=12) (by kernel_rfl) rfl (fun K hK=>?_);go_simp;go_at_call 72;refine hct4.mono ?_;rintro e w6 ⟨v,rfl,hE6,hmd⟩;clear hE hct4;dsimp only;refine hK _ _ (fun _=>hE6) ?_;clear hK K;(try simp only[Act.put,gD]);refine wpE_one (i:=13) (by kernel_rfl) rfl (fun K hK=>?_);go_simp;go_at_call 63;refine hmd.mono ?_;rintro e w5 ⟨ho,hE5⟩;rcases change_ends ho with rfl|⟨k,rfl⟩
    ·dsimp only;refine hK _ _ (fun _=>hE5) ?_;clear hK K;(try simp only[Act.put,gD]);refine wpE_done (by kernel_rfl) ?_ _
     go_end0
     exact ho
    exact⟨rfl,ho⟩
   rw[if_neg hnn]at hon ⊢;clear hnn hct3;unfold strV at*;go_enter Tryz.func51,Tryz.ntmps51;go_wp2_with(first |(go_at_call 71;refine hno2.mono ?_;rintro e w9 ⟨rfl,a9,hC9,h9⟩;obtain⟨d4,hcall⟩:=hnt.out _ _ _ hC9 h9;clear hC9 h9 hno2 d0 d1 hnt)|(go_at_call 98;refine hcall.mono ?_;rintro e w8 ⟨rfl,a8,hC8,h8⟩;have hca3:=hon.out _ _ _ h8;have hend:=Lh (And.intro hC8 h8);clear hC8 h8 hcall hon d4)|(go_at_call 62;refine hca3.mono ?_;rintro e w7 ⟨rfl,h7⟩;obtain rfl:=h7.symm;clear hca3));unfold doOut;exact⟨rfl,rfl,_,hend.out.1,(hend.out.2.perm (List.Perm.swap _ _ _)).drop 1⟩
end
end Go.Proofs.YteihmbaimbogaaaGreat
