/- FuS, laid together. -/
import Derived.Test.YteihmbaimbogaaaGreatJ29
namespace Go.Proofs.YteihmbaimbogaaaGreat
open Go.RowKit
set_option linter.unusedVariables false
set_option linter.unusedSimpArgs false
theorem changeOut_drop {f q p:Nat} {S:VS} {r:Option VS} {w0:World} {Y R:List Asn} {e:Ending} {w':World} (h:changeOut f q p S r w0 (Y++R) e w'):changeOut f q p S r w0 R e w':=by
 have hd:∀(A:Asn),Sep w0 w' (A::(Y++R))→Sep w0 w' (A::R):=fun A hA=>by have h1:Sep w0 w' (Y++(A::R)):=hA.perm List.perm_middle.symm;have h2:=h1.drop Y.length;rw[List.drop_left]at h2;exact h2
 unfold changeOut at*;cases r with
 |none=>exact⟨h.1,hd _ h.2⟩
 |some S1=>
  simp only at h ⊢;split
  ·rename_i h1;rw[if_pos h1]at h;split
   ·rename_i h2;rw[if_pos h2]at h;exact⟨h.1,hd _ h.2⟩
   rename_i h2;rw[if_neg h2]at h;refine⟨h.1,?_⟩;have h1:Sep w0 w' (Y++(goneR f q p false::diskR p S1.commit.1::R)):=h.2.perm ((List.perm_middle (l₁:=Y) (a:=diskR p S1.commit.1) (l₂:=R)).symm.cons _|>.trans List.perm_middle.symm);have h2:=h1.drop Y.length;rw[List.drop_left]at h2;exact h2
  rename_i h1;rw[if_neg h1]at h;exact⟨h.1,hd _ h.2⟩
theorem change_in {f q p:Nat} {S:VS} {r:Option VS} {w0:World} {R:List Asn} {e:Ending} {w':World} (h:changeOut f q p S r w0 R e w'):∃Y,Sep w0 w' (Y++R):=by
 unfold changeOut at h;cases r with
 |none=>exact⟨[_],h.2⟩
 |some S1=>
  simp only at h;split at h
  ·split at h
   ·exact⟨[_],h.2⟩
   exact⟨[_,_],h.2⟩
  exact⟨[_],h.2⟩
def doOut (f q p:Nat) (S:VS) (r:Except Int (Option VS)) (w0:World) (R:List Asn) (e:Ending) (w':World):Prop:=
 match r with
 | .error k=>e= .panicked (stopF k)∧∃a',VC S a'∧Sep w0 w' (volR f q p S a'::R)
 | .ok r=>changeOut f q p S r w0 R e w'
def nothingE (r:Int×Int×Int):Option Int:=if r.2.2=0 then(if r.2.1<0 then none else some 23)else some r.2.2
theorem nothingE_is (r:Int×Int×Int):nothingP r=match nothingE r with|some k=>.panicked (stopF k)|none=>.returned (.int .i64 r.1):=by
 unfold nothingP nothingE;by_cases h1:r.2.2=0
 ·rw[if_pos h1,if_pos h1];by_cases h2:r.2.1<0
  ·rw[if_pos h2,if_pos h2]
  rw[if_neg h2,if_neg h2]
 rw[if_neg h1,if_neg h1]
theorem nothingE_ok {r:Int×Int×Int} (h:nothingE r=none):r.2.2=0∧r.2.1<0:=by
 unfold nothingE at h;by_cases h1:r.2.2=0
 ·rw[if_pos h1]at h;by_cases h2:r.2.1<0
  ·exact⟨h1,h2⟩
  rw[if_neg h2]at h;cases h
 rw[if_neg h1]at h;cases h
def newP (S:VS) (path:List UInt8) (x:VI) (bs:List UInt8):Except Int (Option VS):=
 match nothingE (lookP S.cur S.data 0 0 (splitB path))with
 |some k=>.error k
 |none=>if S.nodes<256 then .ok (madeP S x bs (lookP S.cur S.data 0 0 (splitB path)).1.toNat (baseP path))else .error 31
section
variable {w0 w:World} {R:List Asn} {f q p:Nat} {S:VS} {a:VA}
theorem tells_nil {w0:World} {R:List Asn}:Tells w0 R (.slice none 0 0) []:=fun w' X h=>(h.sl_nil 5 1).rd 0 rfl
set_option maxRecDepth 100000 in
set_option maxHeartbeats 4000000 in
theorem mkdir_any {vs:Value} {op kk:Int} {mode:Nat} {path tz:List UInt8} (hC:VC S a) (hV:VW S) (hb:S.D.back=[]) (hv:validL path=true) (hp:path.length≤1048576)
  (hm:∀d:Nat,lookP S.cur S.data 0 0 (splitB path)=((d:Int), -1,0)→S.nodes<256→MadeOk S (⟨1,mode,1,0,[]⟩:VI) [] d path) (h:Sep w0 w (volR f q p S a::R)):
  Calls Tryz.prog 45 #[.pointer (some ⟨f,0,none⟩),.agg #[.int .i64 op,strV path,strV tz,.int .i64 mode,.int .i64 kk],vs] w (doOut f q p S (newP S path (⟨1,mode,1,0,[]⟩:VI) []) w0 R):=by
 have hno:Hid (∀W b,Sep w0 W (volR f q p S a:: .box b 38 #[.int .i64 op,strV path,strV tz,.int .i64 mode,.int .i64 kk]::R)→Calls Tryz.prog 98 #[.pointer (some ⟨f,0,none⟩),strV path] W fun e w'=>e=nothingP (lookP S.cur S.data 0 0 (splitB path))∧∃a',VC S a'∧Sep w0 w' (volR f q p S a':: .box b 38 #[.int .i64 op,strV path,strV tz,.int .i64 mode,.int .i64 kk]::R)):=Lh fun W b hW=>
  (nothing_any hC hV hv hp hW).mono fun e w' ⟨h1,a',h2,h3⟩=>⟨h1,a',h2.ok,h3⟩
 have hon:Hid (∀W b a1,Sep w0 W (volR f q p S a1:: .box b 38 #[.int .i64 op,strV path,strV tz,.int .i64 mode,.int .i64 kk]::R)→Calls Tryz.prog 62 #[.pointer (some ⟨f,0,none⟩)] W fun e w'=>e=(if S.nodes<256 then .returned (.tuple #[])else .panicked (stopF 31))∧w'=W):=Lh fun W b a1 hW=>one_any hW
 have hmd:Hid (∀d:Nat,lookP S.cur S.data 0 0 (splitB path)=((d:Int), -1,0)→S.nodes<256→∀W b a1,VC S a1→Sep w0 W (volR f q p S a1:: .box b 38 #[.int .i64 op,strV path,strV tz,.int .i64 mode,.int .i64 kk]::R)→Calls Tryz.prog 63 #[.pointer (some ⟨f,0,none⟩),.int .i64 d,strV path,.agg #[.int .i64 1,.int .i64 mode,.int .i64 1,.int .i64 0,.slice none 0 0],.slice none 0 0] W fun e w'=>changeOut f q p S (madeP S (⟨1,mode,1,0,[]⟩:VI) [] d (baseP path)) w0 R e w'):=Lh fun d h1 h2 W b a1 h3 hW=>
  (made_any (x:=(⟨1,mode,1,0,[]⟩:VI)) h3 hV.vf hb (hm d h1 h2) (tells_nil) hW).mono fun e w' ho=>changeOut_drop (Y:=[_]) ho
 have hok:=lookP_ok hV (splitB path) 0 0 hV.n0 hV.n0;have hcs:Hid (∀W b Y,Sep w0 W (Y++(.box b 38 #[.int .i64 op,strV path,strV tz,.int .i64 mode,.int .i64 kk]::R))→W.cell? ⟨b,1,none⟩=some (strV path)∧W.cell? ⟨b,3,none⟩=some (.int .i64 mode)):=Lh fun W b Y hW=>⟨hW.box_in 0 rfl 1,hW.box_in 0 rfl 3⟩
 have hX:Hid (Sep w0 (w.alloc (.cells #[.int .i64 op,strV path,strV tz,.int .i64 mode,.int .i64 kk] 38)) (volR f q p S a:: .box w.heap.size 38 #[.int .i64 op,strV path,strV tz,.int .i64 mode,.int .i64 kk]::R)):=Lh ((h.bN _ _).perm (List.Perm.swap _ _ _));have hno2:=hno.out _ _ hX.out;have hc:=hcs.out _ _ [_] hX.out;obtain⟨b,hbb⟩:∃b,b=w.heap.size:=⟨_,rfl⟩;rw[←hbb]at hno2 hc;have hbb':=Lh hbb;obtain⟨r,hr⟩:∃r,r=lookP S.cur S.data 0 0 (splitB path):=⟨_,rfl⟩;unfold newP;rw[←hr]at hno2 hmd hok ⊢;obtain⟨nb,hnb⟩:∃x,x=baseP path:=⟨_,rfl⟩;rw[←hnb]at hmd ⊢;clear hC hV hb hv hp hm h hno hr hnb hX;rw[nothingE_is]at hno2;cases hn:nothingE r with
 |some k=>rw[hn]at hno2;clear hok hmd hn hon;unfold strV at*;simp only at hno2;rw[hbb]at hno2 hc;go_enter Tryz.func45,Tryz.ntmps45;go_wp2_with(go_at_call 98;refine hno2.mono ?_;rintro e w9 ⟨rfl,a9,hC9,h9⟩;have hend:=Lh (And.intro hC9 h9);clear hC9 h9 hno2);unfold doOut;exact⟨rfl,rfl,_,hend.out.1,(hend.out.2.perm (List.Perm.swap _ _ _)).drop 1⟩
 |none=>
  rw[hn]at hno2;obtain⟨hr0,hr1⟩:=nothingE_ok hn;obtain⟨⟨d,hdl,hd⟩,hd2⟩:=hok hr0;have hd3:r.2.1= -1:=by
   rcases hd2 with hd2|⟨m,_,hd2⟩
   ·exact hd2
   omega
  (have hre:r=((d:Int), -1,0):=by obtain⟨r1,r2,r3⟩:=r;simp only at hd hd3 hr0;rw[hd,hd3,hr0]);subst hre;simp only[Int.toNat_natCast]at*;clear hok hn hr0 hr1 hd hd2 hd3 hdl;by_cases hnn:S.nodes<256
  ·rw[if_pos hnn]at hon ⊢;have hmd2:=Lh (hmd.out d rfl hnn);obtain⟨rX,hrX⟩:∃rX,rX=madeP S (⟨1,mode,1,0,[]⟩:VI) [] d nb:=⟨_,rfl⟩;rw[←hrX]at hmd2 ⊢;clear hmd hnn hrX;unfold strV at*;rw[hbb]at hno2 hc;go_enter Tryz.func45,Tryz.ntmps45;go_wp2_with(first |(go_at_call 98;refine hno2.mono ?_;rintro e w9 ⟨rfl,a9,hC9,h9⟩;clear hc;rw[←hbb]at h9 ⊢;have hc:=hcs.out _ _ [_] h9;have hX:=Lh h9;have hVC:=Lh hC9;have hon2:=hon.out _ _ _ h9;clear hC9 h9 hno2 hbb)|(go_at_call 62;refine hon2.mono ?_;rintro e w8 ⟨rfl,h8⟩;obtain rfl:=h8.symm;clear hon2;have hmd3:=hmd2.out _ _ _ hVC.out hX.out;clear hX hVC hmd2)|(go_at_call 63;refine hmd3.mono ?_;intro e w7 ho;rcases change_ends ho with rfl|⟨k,rfl⟩))
   ·go_end0
    exact ho
   exact⟨rfl,ho⟩
  rw[if_neg hnn]at hon ⊢;clear hmd hnn;unfold strV at*;rw[hbb]at hno2 hc;go_enter Tryz.func45,Tryz.ntmps45;go_wp2_with(first |(go_at_call 98;refine hno2.mono ?_;rintro e w9 ⟨rfl,a9,hC9,h9⟩;have hon2:=hon.out _ _ _ h9;have hend:=Lh (And.intro hC9 h9);clear hC9 h9 hno2)|(go_at_call 62;refine hon2.mono ?_;rintro e w8 ⟨rfl,h8⟩;obtain rfl:=h8.symm;clear hon2));unfold doOut;exact⟨rfl,rfl,_,hend.out.1,(hend.out.2.perm (List.Perm.swap _ _ _)).drop 1⟩
set_option maxRecDepth 100000 in
set_option maxHeartbeats 4000000 in
theorem write_any {sa:Addr} {nn cc kk:Nat} {v:Value} {bs:List UInt8} {op:Int} {mode:Nat} {path tz:List UInt8} (hC:VC S a) (hV:VW S) (hb:S.D.back=[]) (hv:validL path=true) (hp:path.length≤1048576) (hst:∀W Y,Sep w0 W (Y++R)→W.cell? (sa.add kk)=some v) (hkk:kk<nn) (hnn:nn<9223372036854775808) (hbv:Tells w0 R v bs)
  (hm:∀d:Nat,lookP S.cur S.data 0 0 (splitB path)=((d:Int), -1,0)→S.nodes<256→MadeOk S (⟨2,mode,1,0,[]⟩:VI) bs d path) (h:Sep w0 w (volR f q p S a::R)):
  Calls Tryz.prog 50 #[.pointer (some ⟨f,0,none⟩),.agg #[.int .i64 op,strV path,strV tz,.int .i64 mode,.int .i64 kk],.slice (some sa) nn cc] w (doOut f q p S (newP S path (⟨2,mode,1,0,[]⟩:VI) bs) w0 R):=by
 have hno:Hid (∀W b,Sep w0 W (volR f q p S a:: .box b 38 #[.int .i64 op,strV path,strV tz,.int .i64 mode,.int .i64 kk]::R)→Calls Tryz.prog 98 #[.pointer (some ⟨f,0,none⟩),strV path] W fun e w'=>e=nothingP (lookP S.cur S.data 0 0 (splitB path))∧∃a',VC S a'∧Sep w0 w' (volR f q p S a':: .box b 38 #[.int .i64 op,strV path,strV tz,.int .i64 mode,.int .i64 kk]::R)):=Lh fun W b hW=>
  (nothing_any hC hV hv hp hW).mono fun e w' ⟨h1,a',h2,h3⟩=>⟨h1,a',h2.ok,h3⟩
 have hon:Hid (∀W b a1,Sep w0 W (volR f q p S a1:: .box b 38 #[.int .i64 op,strV path,strV tz,.int .i64 mode,.int .i64 kk]::R)→Calls Tryz.prog 62 #[.pointer (some ⟨f,0,none⟩)] W fun e w'=>e=(if S.nodes<256 then .returned (.tuple #[])else .panicked (stopF 31))∧w'=W):=Lh fun W b a1 hW=>one_any hW
 have hmd:Hid (∀d:Nat,lookP S.cur S.data 0 0 (splitB path)=((d:Int), -1,0)→S.nodes<256→∀W b a1,VC S a1→Sep w0 W (volR f q p S a1:: .box b 38 #[.int .i64 op,strV path,strV tz,.int .i64 mode,.int .i64 kk]::R)→Calls Tryz.prog 63 #[.pointer (some ⟨f,0,none⟩),.int .i64 d,strV path,.agg #[.int .i64 2,.int .i64 mode,.int .i64 1,.int .i64 0,.slice none 0 0],v] W fun e w'=>changeOut f q p S (madeP S (⟨2,mode,1,0,[]⟩:VI) bs d (baseP path)) w0 R e w'∧∃Y,Sep w0 w' (Y++(.box b 38 #[.int .i64 op,strV path,strV tz,.int .i64 mode,.int .i64 kk]::R))):=Lh fun d h1 h2 W b a1 h3 hW=>
  (made_any (x:=(⟨2,mode,1,0,[]⟩:VI)) h3 hV.vf hb (hm d h1 h2) (hbv.cons) hW).mono fun e w' ho=>⟨changeOut_drop (Y:=[_]) ho,change_in ho⟩
 have hok:=lookP_ok hV (splitB path) 0 0 hV.n0 hV.n0;have hcs:Hid (∀W b Y,Sep w0 W (Y++(.box b 38 #[.int .i64 op,strV path,strV tz,.int .i64 mode,.int .i64 kk]::R))→W.cell? ⟨b,1,none⟩=some (strV path)∧W.cell? ⟨b,3,none⟩=some (.int .i64 mode)∧W.cell? ⟨b,4,none⟩=some (.int .i64 kk)∧W.cell? (sa.add kk)=some v):=Lh fun W b Y hW=>⟨hW.box_in 0 rfl 1,hW.box_in 0 rfl 3,hW.box_in 0 rfl 4,hst W (Y++[_]) (by rw[List.append_assoc];exact hW)⟩
 have hX:Hid (Sep w0 (w.alloc (.cells #[.int .i64 op,strV path,strV tz,.int .i64 mode,.int .i64 kk] 38)) (volR f q p S a:: .box w.heap.size 38 #[.int .i64 op,strV path,strV tz,.int .i64 mode,.int .i64 kk]::R)):=Lh ((h.bN _ _).perm (List.Perm.swap _ _ _));have hno2:=hno.out _ _ hX.out;have hc:=hcs.out _ _ [_] hX.out;obtain⟨b,hbb⟩:∃b,b=w.heap.size:=⟨_,rfl⟩;rw[←hbb]at hno2 hc;have hbb':=Lh hbb;obtain⟨r,hr⟩:∃r,r=lookP S.cur S.data 0 0 (splitB path):=⟨_,rfl⟩;unfold newP;rw[←hr]at hno2 hmd hok ⊢;obtain⟨nb,hnb⟩:∃x,x=baseP path:=⟨_,rfl⟩;rw[←hnb]at hmd ⊢;obtain⟨A9,L9,c9,hv9⟩:∃A L c,v= .slice A L c:=by obtain⟨_,A,c,e,_⟩:=hbv w [_] h;exact⟨A,_,c,e⟩
 subst hv9;have q0:(0:Int)≤kk:=by omega
 have q1:(kk:Int)<nn:=by omega
 clear hC hV hb hv hp hm h hno hr hnb hX hst hbv;rw[nothingE_is]at hno2;cases hn:nothingE r with
 |some k=>rw[hn]at hno2;clear hok hmd hn hon;unfold strV at*;simp only at hno2;rw[hbb]at hno2 hc;go_enter Tryz.func50,Tryz.ntmps50;go_wp2_with(go_at_call 98;refine hno2.mono ?_;rintro e w9 ⟨rfl,a9,hC9,h9⟩;have hend:=Lh (And.intro hC9 h9);clear hC9 h9 hno2);unfold doOut;exact⟨rfl,rfl,_,hend.out.1,(hend.out.2.perm (List.Perm.swap _ _ _)).drop 1⟩
 |none=>
  rw[hn]at hno2;obtain⟨hr0,hr1⟩:=nothingE_ok hn;obtain⟨⟨d,hdl,hd⟩,hd2⟩:=hok hr0;have hd3:r.2.1= -1:=by
   rcases hd2 with hd2|⟨m,_,hd2⟩
   ·exact hd2
   omega
  (have hre:r=((d:Int), -1,0):=by obtain⟨r1,r2,r3⟩:=r;simp only at hd hd3 hr0;rw[hd,hd3,hr0]);subst hre;simp only[Int.toNat_natCast]at*;clear hok hn hr0 hr1 hd hd2 hd3 hdl;by_cases hnn:S.nodes<256
  ·rw[if_pos hnn]at hon ⊢;have hmd2:=Lh (hmd.out d rfl hnn);obtain⟨rX,hrX⟩:∃rX,rX=madeP S (⟨2,mode,1,0,[]⟩:VI) bs d nb:=⟨_,rfl⟩;rw[←hrX]at hmd2 ⊢;clear hmd hnn hrX;unfold strV at*;rw[hbb]at hno2 hc;go_enter Tryz.func50,Tryz.ntmps50;go_wp2_with(first |(go_at_call 98;refine hno2.mono ?_;rintro e w9 ⟨rfl,a9,hC9,h9⟩;clear hc;rw[←hbb]at h9 ⊢;have hc:=hcs.out _ _ [_] h9;have hX:=Lh h9;have hVC:=Lh hC9;have hon2:=hon.out _ _ _ h9;clear hC9 h9 hno2 hbb)|(go_at_call 62;refine hon2.mono ?_;rintro e w8 ⟨rfl,h8⟩;obtain rfl:=h8.symm;clear hon2)|(go_at_call 63;refine hmd3.mono ?_;intro e w7 ho;rcases change_ends ho with rfl|⟨k,rfl⟩));have hc2:w9.drew.cell? ⟨b,1,none⟩=some (.string ⟨path.toArray⟩)∧w9.drew.cell? ⟨b,3,none⟩=some (.int .i64 mode)∧w9.drew.cell? ⟨b,4,none⟩=some (.int .i64 kk)∧w9.drew.cell? (sa.add kk)=some (.slice A9 L9 c9):=hc;have hmd3:=hmd2.out _ _ _ hVC.out hX.out.drew;clear hc hX hVC hmd2;refine wp_region_E (S:=fun w'=>w'.cell? ⟨b,1,none⟩=some (.string ⟨path.toArray⟩)∧w'.cell? ⟨b,3,none⟩=some (.int .i64 mode)∧w'.cell? ⟨b,4,none⟩=some (.int .i64 kk)∧w'.cell? (sa.add kk)=some (.slice A9 L9 c9)) 13 (by kernel_rfl) ?_;simp only[List.size_toArray,List.length_cons,List.length_nil,Nat.reduceAdd];refine wpE_tk (i:=0) (v:=?_) hc2 rfl ?_ ?_;rotate_left
   ·rintro w ⟨e1,e2,e3,e4⟩;go_simp;try with_reducible rfl
   simp only[Act.put,gD];refine wpE_tk (i:=1) (v:=?_) hc2 rfl ?_ ?_;rotate_left
   ·rintro w ⟨e1,e2,e3,e4⟩;go_simp;try with_reducible rfl
   simp only[Act.put,gD];refine wpE_tk (i:=2) (v:=?_) hc2 rfl ?_ ?_;rotate_left
   ·rintro w ⟨e1,e2,e3,e4⟩;go_simp;try with_reducible rfl
   simp only[Act.put,gD];refine wpE_tk (i:=3) (v:=?_) hc2 rfl ?_ ?_;rotate_left
   ·rintro w ⟨e1,e2,e3,e4⟩;go_simp;try with_reducible rfl
   simp only[Act.put,gD];refine wpE_tk (i:=4) (v:=?_) hc2 rfl ?_ ?_;rotate_left
   ·rintro w ⟨e1,e2,e3,e4⟩;go_simp;try with_reducible rfl
   simp only[Act.put,gD];refine wpE_tk (i:=5) (v:=?_) hc2 rfl ?_ ?_;rotate_left
   ·rintro w ⟨e1,e2,e3,e4⟩;go_simp;try with_reducible rfl
   simp only[Act.put,gD];refine wpE_tk (i:=6) (v:=?_) hc2 rfl ?_ ?_;rotate_left
   ·rintro w ⟨e1,e2,e3,e4⟩;go_simp;try with_reducible rfl
   simp only[Act.put,gD];refine wpE_tk (i:=7) (v:=?_) hc2 rfl ?_ ?_;rotate_left
   ·rintro w ⟨e1,e2,e3,e4⟩;go_simp;try with_reducible rfl
   simp only[Act.put,gD];refine wpE_tk (i:=8) (v:=?_) hc2 rfl ?_ ?_;rotate_left
   ·rintro w ⟨e1,e2,e3,e4⟩;go_simp;try with_reducible rfl
   simp only[Act.put,gD];refine wpE_tk (i:=9) (v:=?_) hc2 rfl ?_ ?_;rotate_left
   ·rintro w ⟨e1,e2,e3,e4⟩;go_simp;try with_reducible rfl
   simp only[Act.put,gD];refine wpE_tk (i:=10) (v:=?_) hc2 rfl ?_ ?_;rotate_left
   ·rintro w ⟨e1,e2,e3,e4⟩;go_simp;try with_reducible rfl
   simp only[Act.put,gD];refine wpE_tk (i:=11) (v:=?_) hc2 rfl ?_ ?_;rotate_left
   ·rintro w ⟨e1,e2,e3,e4⟩;go_simp;try with_reducible rfl
   simp only[Act.put,gD];refine wpE_one (i:=12) (by kernel_rfl) rfl (fun K hK=>?_);go_simp;go_at_call 63;refine hmd3.mono ?_;rintro e w7 ⟨ho,Y,hY⟩;have hc3:=hcs.out _ _ _ hY;rcases change_ends ho with rfl|⟨k,rfl⟩
   ·dsimp only;refine hK _ _ (fun _=>hc3) ?_;clear hK K;(try simp only[Act.put,gD]);refine wpE_done (by kernel_rfl) ?_ _
    go_end0
    exact ho
   exact⟨rfl,ho⟩
  rw[if_neg hnn]at hon ⊢;clear hmd hnn;unfold strV at*;rw[hbb]at hno2 hc;go_enter Tryz.func50,Tryz.ntmps50;go_wp2_with(first |(go_at_call 98;refine hno2.mono ?_;rintro e w9 ⟨rfl,a9,hC9,h9⟩;have hon2:=hon.out _ _ _ h9;have hend:=Lh (And.intro hC9 h9);clear hC9 h9 hno2)|(go_at_call 62;refine hon2.mono ?_;rintro e w8 ⟨rfl,h8⟩;obtain rfl:=h8.symm;clear hon2));unfold doOut;exact⟨rfl,rfl,_,hend.out.1,(hend.out.2.perm (List.Perm.swap _ _ _)).drop 1⟩
end
end Go.Proofs.YteihmbaimbogaaaGreat
