/- FuR, FuS, laid together. -/
import Derived.Test.YteihmbaimbogaaaGreatJ26
namespace Go.Proofs.YteihmbaimbogaaaGreat
open Go.RowKit
set_option linter.unusedVariables false
set_option linter.unusedSimpArgs false
structure MadeOk (S:VS) (x:VI) (bs:List UInt8) (dir:Nat) (path:List UInt8):Prop where
 tab:TabOk S.cur S.names
 w:SmallW S
 valid:validL path=true
 len:path.length≤1048576
 kind:x.kind=1∨x.kind=2
 spots:x.spots=[]
 ok:x.ok
 few:bs.length≤8192
 file:∀n,freeI S.cur S.names=some n→x.kind=2→InoOk (S.keep n x) n∧SmallW (S.keep n x)∧∀S2,fillP (S.keep n x) n bs=some S2→Like S S2∧EnterOk S2 dir n (baseP path)∧SmallV S2
 dr:∀n j,freeI S.cur S.names=some n→freeL (bk S.cur 1) S.count=some j→x.kind=1→({x with spots:=[j]}:VI).ok∧InoOk (madeBlkP S j) n∧SmallW (madeBlkP S j)∧EnterOk (madeDirP S n x j) dir n (baseP path)∧SmallV (madeDirP S n x j)
 chg:∀S1,madeP S x bs dir (baseP path)=some S1→ChangeOk S S1
theorem Sep.box_in {w0 W:World} {Y R:List Asn} {b:Nat} {t:TypeId} {cs:Array Value} (i:Nat) (h:Sep w0 W (Y++R)) (hi:R[i]? =some (.box b t cs)) (j:Nat):W.cell? ⟨b,j,none⟩=cs[j]? :=
 h.bC (Y.length+i) ((List.getElem?_append_right (by omega)).trans (by rw[Nat.add_sub_cancel_left];exact hi)) j
theorem opOut_drop {f q p:Nat} {S:VS} {r:Option VS} {w0:World} {Y R:List Asn} {e:Ending} {w':World} (h:opOut f q p S r w0 (Y++R) e w'):opOut f q p S r w0 R e w':=by
 have hd:∀(A:Asn),Sep w0 w' (A::(Y++R))→Sep w0 w' (A::R):=fun A hA=>by have h1:Sep w0 w' (Y++(A::R)):=hA.perm List.perm_middle.symm;have h2:=h1.drop Y.length;rw[List.drop_left]at h2;exact h2
 unfold opOut at*;cases r with
 |none=>obtain⟨h1,S1,a1,h2,h3,h4⟩:=h;exact⟨h1,S1,a1,h2,h3,hd _ h4⟩
 |some S1=>obtain⟨h1,a1,h2,h3⟩:=h;exact⟨h1,a1,h2,hd _ h3⟩
section
variable {w0 w:World} {R:List Asn} {f q p:Nat} {S:VS} {a:VA}
theorem made1_any {bf bd bp bx bb dir L c0:Nat} {A0:Option Addr} {x:VI} {bs path:List UInt8} (hC:VC S a) (hF:VF S) (hm:MadeOk S x bs dir path) (hv:Tells w0 R (.slice A0 L c0) bs)
  (h:Sep w0 w (volR f q p S a:: .box bx 118 (infoC x (.slice none 0 0))::intsR (.slice none 0 0) []:: .box bf 24 #[.pointer (some ⟨f,0,none⟩)]:: .box bd 3 #[.int .i64 dir]:: .box bp 9 #[strV path]:: .box bb 35 #[.slice A0 L c0]::R)):
  Calls Tryz.prog 118 #[.pointer (some ⟨bf,0,none⟩),.pointer (some ⟨bx,0,none⟩),.pointer (some ⟨bb,0,none⟩),.pointer (some ⟨bd,0,none⟩),.pointer (some ⟨bp,0,none⟩)] w (opOut f q p S (madeP S x bs dir (baseP path)) w0 R):=by
 unfold madeP;cases hfr:freeI S.cur S.names with
 |none=>exact(made1_full (fun W Y hW=>hW.box_in 2 rfl 0) hC hF hm.tab hfr h).mono fun e w' ho=>opOut_drop (Y:=[_,_,_,_,_,_]) ho
 |some n=>
  rcases hm.kind with hk|hk
  ·simp only[hk,if_true];cases hfl:freeL (bk S.cur 1) S.count with
   |none=>exact(made1_dir0 (fun W Y hW=>hW.box_in 0 rfl 0) hC hF hm.tab hk hm.spots hfr hfl h).mono fun e w' ho=>opOut_drop (Y:=[_,_,_,_]) ho
   |some j=>obtain⟨h1,h2,h3,h4,h5⟩:=hm.dr n j hfr hfl hk;exact(made1_dir (fun W Y hW=>⟨hW.box_in 0 rfl 0,hW.box_in 1 rfl 0,hW.box_in 2 rfl 0⟩) hC hF hm.tab h1 hk hm.spots hm.valid hm.len hfr hfl h2 h3 h4 h5 h).mono fun e w' ho=>opOut_drop (Y:=[_,_,_,_]) ho
  (have hk1:¬x.kind=1:=by rw[hk];decide);simp only[if_neg hk1];obtain⟨h1,h2,h3⟩:=hm.file n hfr hk;(refine(made1_file (x:=x) (fun W Y hW=>?_) hC hF hm.tab hm.ok hk hm.spots hm.few (hv.more (Y:=[_,_,_,_,_,_])) hm.valid hm.len hm.w (intsT_part 1 rfl) hfr h1 h2 h3 h).mono fun e w' ho=>opOut_drop (Y:=[_,_,_,_,_,_]) ho);have k0:W.cell? ⟨bx,0,none⟩=some (.int .i64 (x.kind:Nat)):=hW.box_in 0 rfl 0;rw[hk]at k0;exact⟨hW.box_in 2 rfl 0,hW.box_in 5 rfl 0,hW.box_in 3 rfl 0,hW.box_in 4 rfl 0,k0,hW.box_in 0 rfl 1,hW.box_in 0 rfl 2,hW.box_in 0 rfl 3,hW.box_in 0 rfl 4⟩
theorem size_al (w:World) (o:Obj):(w.alloc o).heap.size=w.heap.size+1:=by simp
theorem change_ends {f q p:Nat} {S:VS} {r:Option VS} {w0:World} {R:List Asn} {e:Ending} {w':World} (h:changeOut f q p S r w0 R e w'):e= .returned (.tuple #[])∨∃k,e= .panicked (stopF k):=by
 unfold changeOut at h;cases r with
 |none=>exact .inr ⟨_,h.1⟩
 |some S1=>
  simp only at h;split at h
  ·split at h
   ·exact .inl h.1
   exact .inr ⟨_,h.1⟩
  exact .inr ⟨_,h.1⟩
theorem enters_made1 :∀args w,(callFunc 118 args).run Tryz.prog w= .ok (.enter 118 args) w:=Go.Proofs.enters_of Tryz.func118 (by kernel_rfl) rfl
set_option maxRecDepth 100000 in
set_option maxHeartbeats 1000000 in
theorem made_any {dir:Nat} {v:Value} {x:VI} {bs path:List UInt8} (hC:VC S a) (hF:VF S) (hb:S.D.back=[]) (hm:MadeOk S x bs dir path) (hv:Tells w0 R v bs) (h:Sep w0 w (volR f q p S a::R)):
  Calls Tryz.prog 63 #[.pointer (some ⟨f,0,none⟩),.int .i64 dir,strV path,.agg #[.int .i64 (x.kind:Nat),.int .i64 (x.mode:Nat),.int .i64 (x.links:Nat),.int .i64 (x.size:Nat),.slice none 0 0],v] w (changeOut f q p S (madeP S x bs dir (baseP path)) w0 R):=by
 obtain⟨L,A0,c0,hv0⟩:∃L A c,v= .slice A L c:=by obtain⟨_,A,c,e,_⟩:=hv w [_] h;exact⟨_,A,c,e⟩
 subst hv0;have hch:Hid (∀W bf bd bp bx bb,Sep w0 W (.box bb 35 #[.slice A0 L c0]:: .box bx 118 (infoC x (.slice none 0 0)):: .box bp 9 #[strV path]:: .box bd 3 #[.int .i64 dir]:: .box bf 24 #[.pointer (some ⟨f,0,none⟩)]::volR f q p S a::R)→
   W.cell? ⟨bf,0,none⟩=some (.pointer (some ⟨f,0,none⟩))∧Calls Tryz.prog 65 #[.pointer (some ⟨f,0,none⟩),.func (.func 118) #[] #[.pointer (some ⟨bf,0,none⟩),.pointer (some ⟨bx,0,none⟩),.pointer (some ⟨bb,0,none⟩),.pointer (some ⟨bd,0,none⟩),.pointer (some ⟨bp,0,none⟩)]] W (changeOut f q p S (madeP S x bs dir (baseP path)) w0 R)):=Lh fun W bf bd bp bx bb hW=>by
  refine⟨hW.bC 4 rfl 0,?_⟩;have h1:Sep w0 W (volR f q p S a:: .box bx 118 (infoC x (.slice none 0 0))::intsR (.slice none 0 0) []:: .box bf 24 #[.pointer (some ⟨f,0,none⟩)]:: .box bd 3 #[.int .i64 dir]:: .box bp 9 #[strV path]:: .box bb 35 #[.slice A0 L c0]::R):=Sep.sel [6,2,0,5,4,3,1] (hW.sl_nil 3 1) (by decide) (by simp);refine change_any enters_made1 hC hb hm.chg (fun W2 X hX=>?_) h1;(have h2:Sep w0 W2 (volR f q p S a::(.box bx 118 (infoC x (.slice none 0 0))::intsR (.slice none 0 0) []:: .box bf 24 #[.pointer (some ⟨f,0,none⟩)]:: .box bd 3 #[.int .i64 dir]:: .box bp 9 #[strV path]:: .box bb 35 #[.slice A0 L c0]::(X++R))):=by refine hX.perm (List.Perm.cons _ ?_);have e:=List.perm_append_comm_assoc X [.box bx 118 (infoC x (.slice none 0 0)),intsR (.slice none 0 0) [],.box bf 24 #[.pointer (some ⟨f,0,none⟩)],.box bd 3 #[.int .i64 dir],.box bp 9 #[strV path],.box bb 35 #[.slice A0 L c0]] R;exact e);exact made1_any hC hF hm hv.more h2
 have hs:=((((h.bN 24 #[.pointer (some ⟨f,0,none⟩)]).bN 3 #[.int .i64 dir]).bN 9 #[strV path]).bN 118 (infoC x (.slice none 0 0))).bN 35 #[.slice A0 L c0];have hc:=hch.out _ _ _ _ _ _ hs;simp only[size_al]at hc;obtain⟨c0',hcall⟩:=hc;clear hch hs h hC hF hb hm hv;unfold infoC strV at*;go_enter Tryz.func63,Tryz.ntmps63;go_wp2_with(go_at_call 65;refine hcall.mono ?_;intro e w9 ho;rcases change_ends ho with rfl|⟨k,rfl⟩)
 ·go_end0
  exact ho
 exact⟨rfl,ho⟩
end
theorem changeOut_drop {f q p:Nat} {S:VS} {r:Option VS} {w0:World} {Y R:List Asn} {e:Ending} {w':World} (h:changeOut f q p S r w0 (Y++R) e w'):changeOut f q p S r w0 R e w':=by
 have hd:∀(A:Asn),Sep w0 w' (A::(Y++R))→Sep w0 w' (A::R):=fun A hA=>by have h1:Sep w0 w' (Y++(A::R)):=hA.perm List.perm_middle.symm;have h2:=h1.drop Y.length;rw[List.drop_left]at h2;exact h2
 unfold changeOut at*;cases r with
 |none=>exact⟨h.1,hd _ h.2⟩
 |some S1=>
  simp only at h ⊢;split
  ·rename_i h1;rw[if_pos h1]at h;split
   ·rename_i h2;rw[if_pos h2]at h;exact⟨h.1,hd _ h.2⟩
   rename_i h2;rw[if_neg h2]at h;refine⟨h.1,?_⟩;have h1:Sep w0 w' (Y++(goneR f q p false::diskR p S1.commit.1::R)):=h.2.perm ((List.perm_middle (l₁:=Y) (a:=diskR p S1.commit.1) (l₂:=R)).symm.cons _|>.trans List.perm_middle.symm);have h2:=h1.drop Y.length;rw[List.drop_left]at h2;exact h2
  rename_i h1;rw[if_neg h1]at h;exact⟨h.1,hd _ h.2⟩
theorem change_in {f q p:Nat} {S:VS} {r:Option VS} {w0:World} {R:List Asn} {e:Ending} {w':World} (h:changeOut f q p S r w0 R e w'):∃Y,Sep w0 w' (Y++R):=by
 unfold changeOut at h;cases r with
 |none=>exact⟨[_],h.2⟩
 |some S1=>
  simp only at h;split at h
  ·split at h
   ·exact⟨[_],h.2⟩
   exact⟨[_,_],h.2⟩
  exact⟨[_],h.2⟩
def doOut (f q p:Nat) (S:VS) (r:Except Int (Option VS)) (w0:World) (R:List Asn) (e:Ending) (w':World):Prop:=
 match r with
 | .error k=>e= .panicked (stopF k)∧∃a',VC S a'∧Sep w0 w' (volR f q p S a'::R)
 | .ok r=>changeOut f q p S r w0 R e w'
def nothingE (r:Int×Int×Int):Option Int:=if r.2.2=0 then(if r.2.1<0 then none else some 23)else some r.2.2
theorem nothingE_is (r:Int×Int×Int):nothingP r=match nothingE r with|some k=>.panicked (stopF k)|none=>.returned (.int .i64 r.1):=by
 unfold nothingP nothingE;by_cases h1:r.2.2=0
 ·rw[if_pos h1,if_pos h1];by_cases h2:r.2.1<0
  ·rw[if_pos h2,if_pos h2]
  rw[if_neg h2,if_neg h2]
 rw[if_neg h1,if_neg h1]
theorem nothingE_ok {r:Int×Int×Int} (h:nothingE r=none):r.2.2=0∧r.2.1<0:=by
 unfold nothingE at h;by_cases h1:r.2.2=0
 ·rw[if_pos h1]at h;by_cases h2:r.2.1<0
  ·exact⟨h1,h2⟩
  rw[if_neg h2]at h;cases h
 rw[if_neg h1]at h;cases h
def newP (S:VS) (path:List UInt8) (x:VI) (bs:List UInt8):Except Int (Option VS):=
 match nothingE (lookP S.cur S.data 0 0 (splitB path))with
 |some k=>.error k
 |none=>if S.nodes<256 then .ok (madeP S x bs (lookP S.cur S.data 0 0 (splitB path)).1.toNat (baseP path))else .error 31
section
variable {w0 w:World} {R:List Asn} {f q p:Nat} {S:VS} {a:VA}
theorem tells_nil {w0:World} {R:List Asn}:Tells w0 R (.slice none 0 0) []:=fun w' X h=>(h.sl_nil 5 1).rd 0 rfl
set_option maxRecDepth 100000 in
set_option maxHeartbeats 4000000 in
theorem mkdir_any {vs:Value} {op kk:Int} {mode:Nat} {path tz:List UInt8} (hC:VC S a) (hV:VW S) (hb:S.D.back=[]) (hv:validL path=true) (hp:path.length≤1048576)
  (hm:∀d:Nat,lookP S.cur S.data 0 0 (splitB path)=((d:Int), -1,0)→S.nodes<256→MadeOk S (⟨1,mode,1,0,[]⟩:VI) [] d path) (h:Sep w0 w (volR f q p S a::R)):
  Calls Tryz.prog 45 #[.pointer (some ⟨f,0,none⟩),.agg #[.int .i64 op,strV path,strV tz,.int .i64 mode,.int .i64 kk],vs] w (doOut f q p S (newP S path (⟨1,mode,1,0,[]⟩:VI) []) w0 R):=by
 have hno:Hid (∀W b,Sep w0 W (volR f q p S a:: .box b 38 #[.int .i64 op,strV path,strV tz,.int .i64 mode,.int .i64 kk]::R)→Calls Tryz.prog 98 #[.pointer (some ⟨f,0,none⟩),strV path] W fun e w'=>e=nothingP (lookP S.cur S.data 0 0 (splitB path))∧∃a',VC S a'∧Sep w0 w' (volR f q p S a':: .box b 38 #[.int .i64 op,strV path,strV tz,.int .i64 mode,.int .i64 kk]::R)):=Lh fun W b hW=>
  (nothing_any hC hV hv hp hW).mono fun e w' ⟨h1,a',h2,h3⟩=>⟨h1,a',h2.ok,h3⟩
 have hon:Hid (∀W b a1,Sep w0 W (volR f q p S a1:: .box b 38 #[.int .i64 op,strV path,strV tz,.int .i64 mode,.int .i64 kk]::R)→Calls Tryz.prog 62 #[.pointer (some ⟨f,0,none⟩)] W fun e w'=>e=(if S.nodes<256 then .returned (.tuple #[])else .panicked (stopF 31))∧w'=W):=Lh fun W b a1 hW=>one_any hW
 have hmd:Hid (∀d:Nat,lookP S.cur S.data 0 0 (splitB path)=((d:Int), -1,0)→S.nodes<256→∀W b a1,VC S a1→Sep w0 W (volR f q p S a1:: .box b 38 #[.int .i64 op,strV path,strV tz,.int .i64 mode,.int .i64 kk]::R)→Calls Tryz.prog 63 #[.pointer (some ⟨f,0,none⟩),.int .i64 d,strV path,.agg #[.int .i64 1,.int .i64 mode,.int .i64 1,.int .i64 0,.slice none 0 0],.slice none 0 0] W fun e w'=>changeOut f q p S (madeP S (⟨1,mode,1,0,[]⟩:VI) [] d (baseP path)) w0 R e w'):=Lh fun d h1 h2 W b a1 h3 hW=>
  (made_any (x:=(⟨1,mode,1,0,[]⟩:VI)) h3 hV.vf hb (hm d h1 h2) (tells_nil) hW).mono fun e w' ho=>changeOut_drop (Y:=[_]) ho
 have hok:=lookP_ok hV (splitB path) 0 0 hV.n0 hV.n0;have hcs:Hid (∀W b Y,Sep w0 W (Y++(.box b 38 #[.int .i64 op,strV path,strV tz,.int .i64 mode,.int .i64 kk]::R))→W.cell? ⟨b,1,none⟩=some (strV path)∧W.cell? ⟨b,3,none⟩=some (.int .i64 mode)):=Lh fun W b Y hW=>⟨hW.box_in 0 rfl 1,hW.box_in 0 rfl 3⟩
 have hX:Hid (Sep w0 (w.alloc (.cells #[.int .i64 op,strV path,strV tz,.int .i64 mode,.int .i64 kk] 38)) (volR f q p S a:: .box w.heap.size 38 #[.int .i64 op,strV path,strV tz,.int .i64 mode,.int .i64 kk]::R)):=Lh ((h.bN _ _).perm (List.Perm.swap _ _ _));have hno2:=hno.out _ _ hX.out;have hc:=hcs.out _ _ [_] hX.out;obtain⟨b,hbb⟩:∃b,b=w.heap.size:=⟨_,rfl⟩;rw[←hbb]at hno2 hc;have hbb':=Lh hbb;obtain⟨r,hr⟩:∃r,r=lookP S.cur S.data 0 0 (splitB path):=⟨_,rfl⟩;unfold newP;rw[←hr]at hno2 hmd hok ⊢;obtain⟨nb,hnb⟩:∃x,x=baseP path:=⟨_,rfl⟩;rw[←hnb]at hmd ⊢;clear hC hV hb hv hp hm h hno hr hnb hX;rw[nothingE_is]at hno2;cases hn:nothingE r with
 |some k=>rw[hn]at hno2;clear hok hmd hn hon;unfold strV at*;simp only at hno2;rw[hbb]at hno2 hc;go_enter Tryz.func45,Tryz.ntmps45;go_wp2_with(go_at_call 98;refine hno2.mono ?_;rintro e w9 ⟨rfl,a9,hC9,h9⟩;have hend:=Lh (And.intro hC9 h9);clear hC9 h9 hno2);unfold doOut;exact⟨rfl,rfl,_,hend.out.1,(hend.out.2.perm (List.Perm.swap _ _ _)).drop 1⟩
 |none=>
  rw[hn]at hno2;obtain⟨hr0,hr1⟩:=nothingE_ok hn;obtain⟨⟨d,hdl,hd⟩,hd2⟩:=hok hr0;have hd3:r.2.1= -1:=by
   rcases hd2 with hd2|⟨m,_,hd2⟩
   ·exact hd2
   omega
  (have hre:r=((d:Int), -1,0):=by obtain⟨r1,r2,r3⟩:=r;simp only at hd hd3 hr0;rw[hd,hd3,hr0]);subst hre;simp only[Int.toNat_natCast]at*;clear hok hn hr0 hr1 hd hd2 hd3 hdl;by_cases hnn:S.nodes<256
  ·rw[if_pos hnn]at hon ⊢;have hmd2:=Lh (hmd.out d rfl hnn);obtain⟨rX,hrX⟩:∃rX,rX=madeP S (⟨1,mode,1,0,[]⟩:VI) [] d nb:=⟨_,rfl⟩;rw[←hrX]at hmd2 ⊢;clear hmd hnn hrX;unfold strV at*;rw[hbb]at hno2 hc;go_enter Tryz.func45,Tryz.ntmps45;go_wp2_with(first |(go_at_call 98;refine hno2.mono ?_;rintro e w9 ⟨rfl,a9,hC9,h9⟩;clear hc;rw[←hbb]at h9 ⊢;have hc:=hcs.out _ _ [_] h9;have hX:=Lh h9;have hVC:=Lh hC9;have hon2:=hon.out _ _ _ h9;clear hC9 h9 hno2 hbb)|(go_at_call 62;refine hon2.mono ?_;rintro e w8 ⟨rfl,h8⟩;obtain rfl:=h8.symm;clear hon2;have hmd3:=hmd2.out _ _ _ hVC.out hX.out;clear hX hVC hmd2)|(go_at_call 63;refine hmd3.mono ?_;intro e w7 ho;rcases change_ends ho with rfl|⟨k,rfl⟩))
   ·go_end0
    exact ho
   exact⟨rfl,ho⟩
  rw[if_neg hnn]at hon ⊢;clear hmd hnn;unfold strV at*;rw[hbb]at hno2 hc;go_enter Tryz.func45,Tryz.ntmps45;go_wp2_with(first |(go_at_call 98;refine hno2.mono ?_;rintro e w9 ⟨rfl,a9,hC9,h9⟩;have hon2:=hon.out _ _ _ h9;have hend:=Lh (And.intro hC9 h9);clear hC9 h9 hno2)|(go_at_call 62;refine hon2.mono ?_;rintro e w8 ⟨rfl,h8⟩;obtain rfl:=h8.symm;clear hon2));unfold doOut;exact⟨rfl,rfl,_,hend.out.1,(hend.out.2.perm (List.Perm.swap _ _ _)).drop 1⟩
set_option maxRecDepth 100000 in
set_option maxHeartbeats 4000000 in
theorem write_any {sa:Addr} {nn cc kk:Nat} {v:Value} {bs:List UInt8} {op:Int} {mode:Nat} {path tz:List UInt8} (hC:VC S a) (hV:VW S) (hb:S.D.back=[]) (hv:validL path=true) (hp:path.length≤1048576) (hst:∀W Y,Sep w0 W (Y++R)→W.cell? (sa.add kk)=some v) (hkk:kk<nn) (hnn:nn<9223372036854775808) (hbv:Tells w0 R v bs)
  (hm:∀d:Nat,lookP S.cur S.data 0 0 (splitB path)=((d:Int), -1,0)→S.nodes<256→MadeOk S (⟨2,mode,1,0,[]⟩:VI) bs d path) (h:Sep w0 w (volR f q p S a::R)):
  Calls Tryz.prog 50 #[.pointer (some ⟨f,0,none⟩),.agg #[.int .i64 op,strV path,strV tz,.int .i64 mode,.int .i64 kk],.slice (some sa) nn cc] w (doOut f q p S (newP S path (⟨2,mode,1,0,[]⟩:VI) bs) w0 R):=by
 have hno:Hid (∀W b,Sep w0 W (volR f q p S a:: .box b 38 #[.int .i64 op,strV path,strV tz,.int .i64 mode,.int .i64 kk]::R)→Calls Tryz.prog 98 #[.pointer (some ⟨f,0,none⟩),strV path] W fun e w'=>e=nothingP (lookP S.cur S.data 0 0 (splitB path))∧∃a',VC S a'∧Sep w0 w' (volR f q p S a':: .box b 38 #[.int .i64 op,strV path,strV tz,.int .i64 mode,.int .i64 kk]::R)):=Lh fun W b hW=>
  (nothing_any hC hV hv hp hW).mono fun e w' ⟨h1,a',h2,h3⟩=>⟨h1,a',h2.ok,h3⟩
 have hon:Hid (∀W b a1,Sep w0 W (volR f q p S a1:: .box b 38 #[.int .i64 op,strV path,strV tz,.int .i64 mode,.int .i64 kk]::R)→Calls Tryz.prog 62 #[.pointer (some ⟨f,0,none⟩)] W fun e w'=>e=(if S.nodes<256 then .returned (.tuple #[])else .panicked (stopF 31))∧w'=W):=Lh fun W b a1 hW=>one_any hW
 have hmd:Hid (∀d:Nat,lookP S.cur S.data 0 0 (splitB path)=((d:Int), -1,0)→S.nodes<256→∀W b a1,VC S a1→Sep w0 W (volR f q p S a1:: .box b 38 #[.int .i64 op,strV path,strV tz,.int .i64 mode,.int .i64 kk]::R)→Calls Tryz.prog 63 #[.pointer (some ⟨f,0,none⟩),.int .i64 d,strV path,.agg #[.int .i64 2,.int .i64 mode,.int .i64 1,.int .i64 0,.slice none 0 0],v] W fun e w'=>changeOut f q p S (madeP S (⟨2,mode,1,0,[]⟩:VI) bs d (baseP path)) w0 R e w'∧∃Y,Sep w0 w' (Y++(.box b 38 #[.int .i64 op,strV path,strV tz,.int .i64 mode,.int .i64 kk]::R))):=Lh fun d h1 h2 W b a1 h3 hW=>
  (made_any (x:=(⟨2,mode,1,0,[]⟩:VI)) h3 hV.vf hb (hm d h1 h2) (hbv.cons) hW).mono fun e w' ho=>⟨changeOut_drop (Y:=[_]) ho,change_in ho⟩
 have hok:=lookP_ok hV (splitB path) 0 0 hV.n0 hV.n0;have hcs:Hid (∀W b Y,Sep w0 W (Y++(.box b 38 #[.int .i64 op,strV path,strV tz,.int .i64 mode,.int .i64 kk]::R))→W.cell? ⟨b,1,none⟩=some (strV path)∧W.cell? ⟨b,3,none⟩=some (.int .i64 mode)∧W.cell? ⟨b,4,none⟩=some (.int .i64 kk)∧W.cell? (sa.add kk)=some v):=Lh fun W b Y hW=>⟨hW.box_in 0 rfl 1,hW.box_in 0 rfl 3,hW.box_in 0 rfl 4,hst W (Y++[_]) (by rw[List.append_assoc];exact hW)⟩
 have hX:Hid (Sep w0 (w.alloc (.cells #[.int .i64 op,strV path,strV tz,.int .i64 mode,.int .i64 kk] 38)) (volR f q p S a:: .box w.heap.size 38 #[.int .i64 op,strV path,strV tz,.int .i64 mode,.int .i64 kk]::R)):=Lh ((h.bN _ _).perm (List.Perm.swap _ _ _));have hno2:=hno.out _ _ hX.out;have hc:=hcs.out _ _ [_] hX.out;obtain⟨b,hbb⟩:∃b,b=w.heap.size:=⟨_,rfl⟩;rw[←hbb]at hno2 hc;have hbb':=Lh hbb;obtain⟨r,hr⟩:∃r,r=lookP S.cur S.data 0 0 (splitB path):=⟨_,rfl⟩;unfold newP;rw[←hr]at hno2 hmd hok ⊢;obtain⟨nb,hnb⟩:∃x,x=baseP path:=⟨_,rfl⟩;rw[←hnb]at hmd ⊢;obtain⟨A9,L9,c9,hv9⟩:∃A L c,v= .slice A L c:=by obtain⟨_,A,c,e,_⟩:=hbv w [_] h;exact⟨A,_,c,e⟩
 subst hv9;have q0:(0:Int)≤kk:=by omega
 have q1:(kk:Int)<nn:=by omega
 clear hC hV hb hv hp hm h hno hr hnb hX hst hbv;rw[nothingE_is]at hno2;cases hn:nothingE r with
 |some k=>rw[hn]at hno2;clear hok hmd hn hon;unfold strV at*;simp only at hno2;rw[hbb]at hno2 hc;go_enter Tryz.func50,Tryz.ntmps50;go_wp2_with(go_at_call 98;refine hno2.mono ?_;rintro e w9 ⟨rfl,a9,hC9,h9⟩;have hend:=Lh (And.intro hC9 h9);clear hC9 h9 hno2);unfold doOut;exact⟨rfl,rfl,_,hend.out.1,(hend.out.2.perm (List.Perm.swap _ _ _)).drop 1⟩
 |none=>
  rw[hn]at hno2;obtain⟨hr0,hr1⟩:=nothingE_ok hn;obtain⟨⟨d,hdl,hd⟩,hd2⟩:=hok hr0;have hd3:r.2.1= -1:=by
   rcases hd2 with hd2|⟨m,_,hd2⟩
   ·exact hd2
   omega
  (have hre:r=((d:Int), -1,0):=by obtain⟨r1,r2,r3⟩:=r;simp only at hd hd3 hr0;rw[hd,hd3,hr0]);subst hre;simp only[Int.toNat_natCast]at*;clear hok hn hr0 hr1 hd hd2 hd3 hdl;by_cases hnn:S.nodes<256
  ·rw[if_pos hnn]at hon ⊢;have hmd2:=Lh (hmd.out d rfl hnn);obtain⟨rX,hrX⟩:∃rX,rX=madeP S (⟨2,mode,1,0,[]⟩:VI) bs d nb:=⟨_,rfl⟩;rw[←hrX]at hmd2 ⊢;clear hmd hnn hrX;unfold strV at*;rw[hbb]at hno2 hc;go_enter Tryz.func50,Tryz.ntmps50;go_wp2_with(first |(go_at_call 98;refine hno2.mono ?_;rintro e w9 ⟨rfl,a9,hC9,h9⟩;clear hc;rw[←hbb]at h9 ⊢;have hc:=hcs.out _ _ [_] h9;have hX:=Lh h9;have hVC:=Lh hC9;have hon2:=hon.out _ _ _ h9;clear hC9 h9 hno2 hbb)|(go_at_call 62;refine hon2.mono ?_;rintro e w8 ⟨rfl,h8⟩;obtain rfl:=h8.symm;clear hon2)|(go_at_call 63;refine hmd3.mono ?_;intro e w7 ho;rcases change_ends ho with rfl|⟨k,rfl⟩));have hc2:w9.drew.cell? ⟨b,1,none⟩=some (.string ⟨path.toArray⟩)∧w9.drew.cell? ⟨b,3,none⟩=some (.int .i64 mode)∧w9.drew.cell? ⟨b,4,none⟩=some (.int .i64 kk)∧w9.drew.cell? (sa.add kk)=some (.slice A9 L9 c9):=hc;have hmd3:=hmd2.out _ _ _ hVC.out hX.out.drew;clear hc hX hVC hmd2;refine wp_region_E (S:=fun w'=>w'.cell? ⟨b,1,none⟩=some (.string ⟨path.toArray⟩)∧w'.cell? ⟨b,3,none⟩=some (.int .i64 mode)∧w'.cell? ⟨b,4,none⟩=some (.int .i64 kk)∧w'.cell? (sa.add kk)=some (.slice A9 L9 c9)) 13 (by kernel_rfl) ?_;simp only[List.size_toArray,List.length_cons,List.length_nil,Nat.reduceAdd];refine wpE_tk (i:=0) (v:=?_) hc2 rfl ?_ ?_;rotate_left
   ·rintro w ⟨e1,e2,e3,e4⟩;go_simp;try with_reducible rfl
   simp only[Act.put,gD];refine wpE_tk (i:=1) (v:=?_) hc2 rfl ?_ ?_;rotate_left
   ·rintro w ⟨e1,e2,e3,e4⟩;go_simp;try with_reducible rfl
   simp only[Act.put,gD];refine wpE_tk (i:=2) (v:=?_) hc2 rfl ?_ ?_;rotate_left
   ·rintro w ⟨e1,e2,e3,e4⟩;go_simp;try with_reducible rfl
   simp only[Act.put,gD];refine wpE_tk (i:=3) (v:=?_) hc2 rfl ?_ ?_;rotate_left
   ·rintro w ⟨e1,e2,e3,e4⟩;go_simp;try with_reducible rfl
   simp only[Act.put,gD];refine wpE_tk (i:=4) (v:=?_) hc2 rfl ?_ ?_;rotate_left
   ·rintro w ⟨e1,e2,e3,e4⟩;go_simp;try with_reducible rfl
   simp only[Act.put,gD];refine wpE_tk (i:=5) (v:=?_) hc2 rfl ?_ ?_;rotate_left
   ·rintro w ⟨e1,e2,e3,e4⟩;go_simp;try with_reducible rfl
   simp only[Act.put,gD];refine wpE_tk (i:=6) (v:=?_) hc2 rfl ?_ ?_;rotate_left
   ·rintro w ⟨e1,e2,e3,e4⟩;go_simp;try with_reducible rfl
   simp only[Act.put,gD];refine wpE_tk (i:=7) (v:=?_) hc2 rfl ?_ ?_;rotate_left
   ·rintro w ⟨e1,e2,e3,e4⟩;go_simp;try with_reducible rfl
   simp only[Act.put,gD];refine wpE_tk (i:=8) (v:=?_) hc2 rfl ?_ ?_;rotate_left
   ·rintro w ⟨e1,e2,e3,e4⟩;go_simp;try with_reducible rfl
   simp only[Act.put,gD];refine wpE_tk (i:=9) (v:=?_) hc2 rfl ?_ ?_;rotate_left
   ·rintro w ⟨e1,e2,e3,e4⟩;go_simp;try with_reducible rfl
   simp only[Act.put,gD];refine wpE_tk (i:=10) (v:=?_) hc2 rfl ?_ ?_;rotate_left
   ·rintro w ⟨e1,e2,e3,e4⟩;go_simp;try with_reducible rfl
   simp only[Act.put,gD];refine wpE_tk (i:=11) (v:=?_) hc2 rfl ?_ ?_;rotate_left
   ·rintro w ⟨e1,e2,e3,e4⟩;go_simp;try with_reducible rfl
   simp only[Act.put,gD];refine wpE_one (i:=12) (by kernel_rfl) rfl (fun K hK=>?_);go_simp;go_at_call 63;refine hmd3.mono ?_;rintro e w7 ⟨ho,Y,hY⟩;have hc3:=hcs.out _ _ _ hY;rcases change_ends ho with rfl|⟨k,rfl⟩
   ·dsimp only;refine hK _ _ (fun _=>hc3) ?_;clear hK K;(try simp only[Act.put,gD]);refine wpE_done (by kernel_rfl) ?_ _
    go_end0
    exact ho
   exact⟨rfl,ho⟩
  rw[if_neg hnn]at hon ⊢;clear hmd hnn;unfold strV at*;rw[hbb]at hno2 hc;go_enter Tryz.func50,Tryz.ntmps50;go_wp2_with(first |(go_at_call 98;refine hno2.mono ?_;rintro e w9 ⟨rfl,a9,hC9,h9⟩;have hon2:=hon.out _ _ _ h9;have hend:=Lh (And.intro hC9 h9);clear hC9 h9 hno2)|(go_at_call 62;refine hon2.mono ?_;rintro e w8 ⟨rfl,h8⟩;obtain rfl:=h8.symm;clear hon2));unfold doOut;exact⟨rfl,rfl,_,hend.out.1,(hend.out.2.perm (List.Perm.swap _ _ _)).drop 1⟩
end
end Go.Proofs.YteihmbaimbogaaaGreat
