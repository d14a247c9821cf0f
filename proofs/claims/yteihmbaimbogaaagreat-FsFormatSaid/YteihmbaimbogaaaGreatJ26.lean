/- FuQ, laid together. -/
import Derived.Test.YteihmbaimbogaaaGreatJ25
namespace Go.Proofs.YteihmbaimbogaaaGreat
open Go.RowKit
set_option linter.unusedVariables false
set_option linter.unusedSimpArgs false
def madeFileP (S:VS) (n:Nat) (x:VI) (bs:List UInt8) (dir:Nat) (name:List UInt8):Option VS:=
 match fillP (S.keep n x) n bs with
 |none=>none
 |some S2=>enterP S2 dir name n
def madeBlkP (S:VS) (j:Nat):VS:=(S.put 1 (setB (bk S.cur 1) j)).put ((S.put 1 (setB (bk S.cur 1) j)).data+j) zeroB
def madeDirP (S:VS) (n:Nat) (x:VI) (j:Nat):VS:=(madeBlkP S j).keep n {x with spots:=[j]}
def madeP (S:VS) (x:VI) (bs:List UInt8) (dir:Nat) (name:List UInt8):Option VS:=
 match freeI S.cur S.names with
 |none=>none
 |some n=>if x.kind=1 then
   match freeL (bk S.cur 1) S.count with
   |none=>none
   |some j=>enterP (madeDirP S n x j) dir name n
  else madeFileP S n x bs dir name
theorem freeI_lt {c:Blks} {names n:Nat} (h:freeI c names=some n):n<names:=by have:=List.mem_of_find?_eq_some h;exact List.mem_range.1 this
theorem freeL_lt2 {bs:List UInt8} {m j:Nat} (h:freeL bs m=some j):j<m:=by have:=List.mem_of_find?_eq_some h;exact List.mem_range.1 this
section
variable {w0 w:World} {R:List Asn} {f q p:Nat} {S:VS} {a:VA}
set_option maxRecDepth 100000 in
theorem made1_full {bf bx bb bd bp:Nat} (hbf:∀W Y,Sep w0 W (Y++R)→W.cell? ⟨bf,0,none⟩=some (.pointer (some ⟨f,0,none⟩)))
  (hC:VC S a) (hF:VF S) (hT:TabOk S.cur S.names) (hfr:freeI S.cur S.names=none) (h:Sep w0 w (volR f q p S a::R)):
  Calls Tryz.prog 118 #[.pointer (some ⟨bf,0,none⟩),.pointer (some ⟨bx,0,none⟩),.pointer (some ⟨bb,0,none⟩),.pointer (some ⟨bd,0,none⟩),.pointer (some ⟨bp,0,none⟩)] w (opOut f q p S none w0 R):=by
 have hc:w.cell? ⟨bf,0,none⟩=some (.pointer (some ⟨f,0,none⟩)):=hbf w [_] h;have hun:Calls Tryz.prog 119 #[.pointer (some ⟨f,0,none⟩)] w (opOut f q p S none w0 R):=by refine(unused_any hC hF hT h).mono ?_;intro e w' ho;unfold unusedOut at ho;rw[hfr]at ho;obtain⟨rfl,a',h1,h2⟩:=ho;unfold opOut;exact⟨rfl,S,a',.refl _,h1.ok,h2⟩
 clear hbf hC hF hT hfr h;unfold opOut at*;go_enter Tryz.func118,Tryz.ntmps118;go_wp2_with(go_at_call 119;refine hun.mono ?_;rintro e w9 ⟨rfl,hend⟩;replace hend:=Lh hend;clear hun);exact⟨rfl,rfl,hend.out⟩
set_option maxRecDepth 100000 in
set_option maxHeartbeats 4000000 in
theorem made1_file {bf bx bb bd bp n dir L c0:Nat} {A0:Option Addr} {x:VI} {bs path:List UInt8} (hR0:∀W Y,Sep w0 W (Y++R)→W.cell? ⟨bf,0,none⟩=some (.pointer (some ⟨f,0,none⟩))∧W.cell? ⟨bb,0,none⟩=some (.slice A0 L c0)∧W.cell? ⟨bd,0,none⟩=some (.int .i64 dir)∧W.cell? ⟨bp,0,none⟩=some (strV path)∧W.cell? ⟨bx,0,none⟩=some (.int .i64 2)∧W.cell? ⟨bx,1,none⟩=some (.int .i64 (x.mode:Nat))∧W.cell? ⟨bx,2,none⟩=some (.int .i64 (x.links:Nat))∧W.cell? ⟨bx,3,none⟩=some (.int .i64 (x.size:Nat))∧W.cell? ⟨bx,4,none⟩=some (.slice none 0 0))
  (hC:VC S a) (hF:VF S) (hT:TabOk S.cur S.names) (hx:x.ok) (hk:x.kind=2) (hx0:x.spots=[]) (hbs:bs.length≤8192) (hv:Tells w0 R (.slice A0 L c0) bs) (hv2:validL path=true) (hp2:path.length≤1048576) (hs:SmallW S) (h0:intsT w0 R (.slice none 0 0) [])
  (hfr:freeI S.cur S.names=some n) (hn2:InoOk (S.keep n x) n) (hs2:SmallW (S.keep n x)) (hen0:∀S2,fillP (S.keep n x) n bs=some S2→Like S S2∧EnterOk S2 dir n (baseP path)∧SmallV S2) (h:Sep w0 w (volR f q p S a::R)):
  Calls Tryz.prog 118 #[.pointer (some ⟨bf,0,none⟩),.pointer (some ⟨bx,0,none⟩),.pointer (some ⟨bb,0,none⟩),.pointer (some ⟨bd,0,none⟩),.pointer (some ⟨bp,0,none⟩)] w (opOut f q p S (madeFileP S n x bs dir (baseP path)) w0 R):=by
 have hR:=Lh hR0;obtain⟨SK,hSK⟩:∃SK,SK=S.keep n x:=⟨_,rfl⟩;have hlikeK:Hid (Like S SK):=by rw[hSK];exact Lh ((Like.refl S).keep _ _)
 have hun:Hid (Calls Tryz.prog 119 #[.pointer (some ⟨f,0,none⟩)] w fun e w'=>e= .returned (.int .i64 n)∧∃a',VC S a'∧Sep w0 w' (volR f q p S a'::R)):=Lh (by refine(unused_any hC hF hT h).mono ?_;intro e w' ho;unfold unusedOut at ho;rw[hfr]at ho;obtain⟨rfl,a',h1,h2⟩:=ho;exact⟨rfl,a',h1.ok,h2⟩);have hkp:Hid (∀W a1,VC S a1→Sep w0 W (volR f q p S a1::R)→Calls Tryz.prog 90 #[.pointer (some ⟨f,0,none⟩),.int .i64 n,.agg #[.int .i64 2,.int .i64 (x.mode:Nat),.int .i64 (x.links:Nat),.int .i64 (x.size:Nat),.slice none 0 0]] W fun e w'=>e= .returned (.tuple #[])∧∃a',VC SK a'∧Sep w0 w' (volR f q p SK a'::R)):=Lh fun W a1 h1 h2=>by rw[hSK];have h3:=keep_any (x:=x) (v:=.slice none 0 0) h1 hF (freeI_lt hfr) hx (hT n (freeI_lt hfr)) hs (by rw[hx0];exact h0) h2;unfold infoV infoC at h3;rw[hk]at h3;exact h3
 rw[←hSK]at hn2 hs2 hen0;have hba2:Hid (∀W,Calls Tryz.prog 101 #[strV path] W fun e w'=>e= .returned (strV (baseP path))∧Below W.heap.size W w'):=Lh fun W=>base_any hv2 hp2 W
 have hfi:Hid (∀W a1,VC SK a1→Sep w0 W (volR f q p SK a1::R)→Calls Tryz.prog 67 #[.pointer (some ⟨f,0,none⟩),.int .i64 n,.slice A0 L c0] W (opOut f q p SK (fillP SK n bs) w0 R)):=Lh fun W a1 h1 h2=>
  fill_any h1 (hlikeK.out.vf hF) hn2.lt hn2.few hn2.sp hs2 hbs hv h2
 have hX0:=Lh h;have hF':=Lh hF;have hres:Hid (madeFileP S n x bs dir (baseP path)=match fillP SK n bs with|none=>none|some S2=>enterP S2 dir (baseP path) n):=Lh (by unfold madeFileP;rw[←hSK]);obtain⟨rA,hrA⟩:∃r,r=madeFileP S n x bs dir (baseP path):=⟨_,rfl⟩;rw[←hrA]at hres ⊢;obtain⟨b2,hb2⟩:∃b,b=baseP path:=⟨_,rfl⟩;rw[←hb2]at hba2 hen0 hres;clear hR0 hC hF hT hx hx0 hbs hv hv2 hp2 hs h0 hfr hn2 hs2 h hSK hrA hb2 hk;cases hfp:fillP SK n bs with
 |none=>
  rw[hfp]at hfi hres;have hrr:rA=none:=hres.out;subst hrr;clear hen0 hres hba2 hF' hfp;unfold opOut at hfi;unfold strV at*;go_enter Tryz.func118,Tryz.ntmps118;have hc:=hR.out w [_] hX0.out;go_wp2_with(go_at_call 119;refine hun.out.mono ?_;rintro e w9 ⟨rfl,a9,hC9,h9⟩;clear hc;have hc:=hR.out w9 [_] h9;have hV:=Lh hC9;have hX:=Lh h9;clear hC9 h9 hun hX0);have hc9:=hR.out w9.drew [_] hX.out.drew;clear hc;refine wp_region_E (S:=fun w'=>w'.cell? ⟨bf,0,none⟩=some (.pointer (some ⟨f,0,none⟩))∧w'.cell? ⟨bb,0,none⟩=some (.slice A0 L c0)∧w'.cell? ⟨bd,0,none⟩=some (.int .i64 dir)∧w'.cell? ⟨bp,0,none⟩=some (.string ⟨path.toArray⟩)∧w'.cell? ⟨bx,0,none⟩=some (.int .i64 2)∧w'.cell? ⟨bx,1,none⟩=some (.int .i64 (x.mode:Nat))∧w'.cell? ⟨bx,2,none⟩=some (.int .i64 (x.links:Nat))∧w'.cell? ⟨bx,3,none⟩=some (.int .i64 (x.size:Nat))∧w'.cell? ⟨bx,4,none⟩=some (.slice none 0 0)) 7 (by kernel_rfl) ?_;simp only[List.size_toArray,List.length_cons,List.length_nil,Nat.reduceAdd];refine wpE_tk (i:=0) (v:=?_) hc9 rfl ?_ ?_;rotate_left
  ·rintro w ⟨e1,e2,e3,e4,e5,e6,e7,e8,e9⟩;go_simp;try with_reducible rfl
  simp only[Act.put,gD];refine wpE_tk (i:=1) (v:=?_) hc9 rfl ?_ ?_;rotate_left
  ·rintro w ⟨e1,e2,e3,e4,e5,e6,e7,e8,e9⟩;go_simp;try with_reducible rfl
  simp only[Act.put,gD];refine wpE_tk (i:=2) (v:=?_) hc9 rfl ?_ ?_;rotate_left
  ·rintro w ⟨e1,e2,e3,e4,e5,e6,e7,e8,e9⟩;go_simp;try with_reducible rfl
  simp only[Act.put,gD];refine wpE_tk (i:=3) (v:=?_) hc9 rfl ?_ ?_;rotate_left
  ·rintro w ⟨e1,e2,e3,e4,e5,e6,e7,e8,e9⟩;go_simp;try with_reducible rfl
  simp only[Act.put,gD];refine wpE_tk (i:=4) (v:=?_) hc9 rfl ?_ ?_;rotate_left
  ·rintro w ⟨e1,e2,e3,e4,e5,e6,e7,e8,e9⟩;go_simp;try with_reducible rfl
  simp only[Act.put,gD];refine wpE_tk (i:=5) (v:=?_) hc9 rfl ?_ ?_;rotate_left
  ·rintro w ⟨e1,e2,e3,e4,e5,e6,e7,e8,e9⟩;go_simp;try with_reducible rfl
  simp only[Act.put,gD];refine wpE_one (i:=6) (by kernel_rfl) rfl (fun K hK=>?_);go_simp;go_at_call 90;refine(hkp.out _ _ hV.out hX.out.drew).mono ?_;rintro e w8 ⟨rfl,aK,hCK,h8⟩;clear hc9;have hc8:=hR.out w8 [_] h8;replace hX:=Lh h8;replace hV:=Lh hCK;clear hCK h8 hkp;dsimp only;refine hK _ _ (fun _=>hc8) ?_;clear hK K;(try simp only[Act.put,gD]);refine wpE_done (by kernel_rfl) ?_ _;go_wp2_with fail;clear hc8;have hc9:=hR.out w8.drew [_] hX.out.drew;refine wp_region_E (S:=fun w'=>w'.cell? ⟨bf,0,none⟩=some (.pointer (some ⟨f,0,none⟩))∧w'.cell? ⟨bb,0,none⟩=some (.slice A0 L c0)∧w'.cell? ⟨bd,0,none⟩=some (.int .i64 dir)∧w'.cell? ⟨bp,0,none⟩=some (.string ⟨path.toArray⟩)∧w'.cell? ⟨bx,0,none⟩=some (.int .i64 2)∧w'.cell? ⟨bx,1,none⟩=some (.int .i64 (x.mode:Nat))∧w'.cell? ⟨bx,2,none⟩=some (.int .i64 (x.links:Nat))∧w'.cell? ⟨bx,3,none⟩=some (.int .i64 (x.size:Nat))∧w'.cell? ⟨bx,4,none⟩=some (.slice none 0 0)) 7 (by kernel_rfl) ?_;simp only[List.size_toArray,List.length_cons,List.length_nil,Nat.reduceAdd];refine wpE_tk (i:=0) (v:=?_) hc9 rfl ?_ ?_;rotate_left
  ·rintro w ⟨e1,e2,e3,e4,e5,e6,e7,e8,e9⟩;go_simp;try with_reducible rfl
  simp only[Act.put,gD];refine wpE_tk (i:=1) (v:=?_) hc9 rfl ?_ ?_;rotate_left
  ·rintro w ⟨e1,e2,e3,e4,e5,e6,e7,e8,e9⟩;go_simp;try with_reducible rfl
  simp only[Act.put,gD];refine wpE_tk (i:=2) (v:=?_) hc9 rfl ?_ ?_;rotate_left
  ·rintro w ⟨e1,e2,e3,e4,e5,e6,e7,e8,e9⟩;go_simp;try with_reducible rfl
  simp only[Act.put,gD];refine wpE_tk (i:=3) (v:=?_) hc9 rfl ?_ ?_;rotate_left
  ·rintro w ⟨e1,e2,e3,e4,e5,e6,e7,e8,e9⟩;go_simp;try with_reducible rfl
  simp only[Act.put,gD];refine wpE_tk (i:=4) (v:=?_) hc9 rfl ?_ ?_;rotate_left
  ·rintro w ⟨e1,e2,e3,e4,e5,e6,e7,e8,e9⟩;go_simp;try with_reducible rfl
  simp only[Act.put,gD];refine wpE_tk (i:=5) (v:=?_) hc9 rfl ?_ ?_;rotate_left
  ·rintro w ⟨e1,e2,e3,e4,e5,e6,e7,e8,e9⟩;go_simp;try with_reducible rfl
  simp only[Act.put,gD];refine wpE_one (i:=6) (by kernel_rfl) rfl (fun K hK=>?_);go_simp;go_at_call 67;refine(hfi.out _ _ hV.out hX.out.drew).mono ?_;rintro e w7 ⟨rfl,T,aT,hLT,hCT,hT⟩;unfold opOut;exact⟨rfl,rfl,T,aT,hlikeK.out.trans hLT,hCT,hT⟩
 |some S2=>
  obtain⟨hl2,he2,hs2⟩:=hen0 S2 hfp;rw[hfp]at hfi hres;obtain⟨rX,hrX⟩:∃r,r=enterP S2 dir b2 n:=⟨_,rfl⟩;(have hrr:rA=rX:=by rw[hrX];exact hres.out);subst hrr;(have hen:Hid (∀W a1,VC S2 a1→Sep w0 W (volR f q p S2 a1::R)→Calls Tryz.prog 104 #[.pointer (some ⟨f,0,none⟩),.int .i64 dir,strV b2,.int .i64 n] W (opOut f q p S2 rA w0 R)):=Lh fun W a1 h1 h2=>by rw[hrX];exact enter_no h1 (hl2.vf hF'.out) he2 hs2 h2);replace hl2:=Lh hl2;clear hen0 hres hF' hfp he2 hs2 hrX;unfold opOut at hfi;unfold strV at*;obtain⟨rX,hrX⟩:∃r,r=rA:=⟨_,rfl⟩;subst hrX;go_enter Tryz.func118,Tryz.ntmps118;have hc:=hR.out w [_] hX0.out;go_wp2_with(go_at_call 119;refine hun.out.mono ?_;rintro e w9 ⟨rfl,a9,hC9,h9⟩;clear hc;have hc:=hR.out w9 [_] h9;have hV:=Lh hC9;have hX:=Lh h9;clear hC9 h9 hun hX0);have hc9:=hR.out w9.drew [_] hX.out.drew;clear hc;refine wp_region_E (S:=fun w'=>w'.cell? ⟨bf,0,none⟩=some (.pointer (some ⟨f,0,none⟩))∧w'.cell? ⟨bb,0,none⟩=some (.slice A0 L c0)∧w'.cell? ⟨bd,0,none⟩=some (.int .i64 dir)∧w'.cell? ⟨bp,0,none⟩=some (.string ⟨path.toArray⟩)∧w'.cell? ⟨bx,0,none⟩=some (.int .i64 2)∧w'.cell? ⟨bx,1,none⟩=some (.int .i64 (x.mode:Nat))∧w'.cell? ⟨bx,2,none⟩=some (.int .i64 (x.links:Nat))∧w'.cell? ⟨bx,3,none⟩=some (.int .i64 (x.size:Nat))∧w'.cell? ⟨bx,4,none⟩=some (.slice none 0 0)) 7 (by kernel_rfl) ?_;simp only[List.size_toArray,List.length_cons,List.length_nil,Nat.reduceAdd];refine wpE_tk (i:=0) (v:=?_) hc9 rfl ?_ ?_;rotate_left
  ·rintro w ⟨e1,e2,e3,e4,e5,e6,e7,e8,e9⟩;go_simp;try with_reducible rfl
  simp only[Act.put,gD];refine wpE_tk (i:=1) (v:=?_) hc9 rfl ?_ ?_;rotate_left
  ·rintro w ⟨e1,e2,e3,e4,e5,e6,e7,e8,e9⟩;go_simp;try with_reducible rfl
  simp only[Act.put,gD];refine wpE_tk (i:=2) (v:=?_) hc9 rfl ?_ ?_;rotate_left
  ·rintro w ⟨e1,e2,e3,e4,e5,e6,e7,e8,e9⟩;go_simp;try with_reducible rfl
  simp only[Act.put,gD];refine wpE_tk (i:=3) (v:=?_) hc9 rfl ?_ ?_;rotate_left
  ·rintro w ⟨e1,e2,e3,e4,e5,e6,e7,e8,e9⟩;go_simp;try with_reducible rfl
  simp only[Act.put,gD];refine wpE_tk (i:=4) (v:=?_) hc9 rfl ?_ ?_;rotate_left
  ·rintro w ⟨e1,e2,e3,e4,e5,e6,e7,e8,e9⟩;go_simp;try with_reducible rfl
  simp only[Act.put,gD];refine wpE_tk (i:=5) (v:=?_) hc9 rfl ?_ ?_;rotate_left
  ·rintro w ⟨e1,e2,e3,e4,e5,e6,e7,e8,e9⟩;go_simp;try with_reducible rfl
  simp only[Act.put,gD];refine wpE_one (i:=6) (by kernel_rfl) rfl (fun K hK=>?_);go_simp;go_at_call 90;refine(hkp.out _ _ hV.out hX.out.drew).mono ?_;rintro e w8 ⟨rfl,aK,hCK,h8⟩;clear hc9;have hc8:=hR.out w8 [_] h8;replace hX:=Lh h8;replace hV:=Lh hCK;clear hCK h8 hkp;dsimp only;refine hK _ _ (fun _=>hc8) ?_;clear hK K;(try simp only[Act.put,gD]);refine wpE_done (by kernel_rfl) ?_ _;go_wp2_with fail;clear hc8;have hc9:=hR.out w8.drew [_] hX.out.drew;refine wp_region_E (S:=fun w'=>w'.cell? ⟨bf,0,none⟩=some (.pointer (some ⟨f,0,none⟩))∧w'.cell? ⟨bb,0,none⟩=some (.slice A0 L c0)∧w'.cell? ⟨bd,0,none⟩=some (.int .i64 dir)∧w'.cell? ⟨bp,0,none⟩=some (.string ⟨path.toArray⟩)∧w'.cell? ⟨bx,0,none⟩=some (.int .i64 2)∧w'.cell? ⟨bx,1,none⟩=some (.int .i64 (x.mode:Nat))∧w'.cell? ⟨bx,2,none⟩=some (.int .i64 (x.links:Nat))∧w'.cell? ⟨bx,3,none⟩=some (.int .i64 (x.size:Nat))∧w'.cell? ⟨bx,4,none⟩=some (.slice none 0 0)) 7 (by kernel_rfl) ?_;simp only[List.size_toArray,List.length_cons,List.length_nil,Nat.reduceAdd];refine wpE_tk (i:=0) (v:=?_) hc9 rfl ?_ ?_;rotate_left
  ·rintro w ⟨e1,e2,e3,e4,e5,e6,e7,e8,e9⟩;go_simp;try with_reducible rfl
  simp only[Act.put,gD];refine wpE_tk (i:=1) (v:=?_) hc9 rfl ?_ ?_;rotate_left
  ·rintro w ⟨e1,e2,e3,e4,e5,e6,e7,e8,e9⟩;go_simp;try with_reducible rfl
  simp only[Act.put,gD];refine wpE_tk (i:=2) (v:=?_) hc9 rfl ?_ ?_;rotate_left
  ·rintro w ⟨e1,e2,e3,e4,e5,e6,e7,e8,e9⟩;go_simp;try with_reducible rfl
  simp only[Act.put,gD];refine wpE_tk (i:=3) (v:=?_) hc9 rfl ?_ ?_;rotate_left
  ·rintro w ⟨e1,e2,e3,e4,e5,e6,e7,e8,e9⟩;go_simp;try with_reducible rfl
  simp only[Act.put,gD];refine wpE_tk (i:=4) (v:=?_) hc9 rfl ?_ ?_;rotate_left
  ·rintro w ⟨e1,e2,e3,e4,e5,e6,e7,e8,e9⟩;go_simp;try with_reducible rfl
  simp only[Act.put,gD];refine wpE_tk (i:=5) (v:=?_) hc9 rfl ?_ ?_;rotate_left
  ·rintro w ⟨e1,e2,e3,e4,e5,e6,e7,e8,e9⟩;go_simp;try with_reducible rfl
  simp only[Act.put,gD];refine wpE_one (i:=6) (by kernel_rfl) rfl (fun K hK=>?_);go_simp;go_at_call 67;refine(hfi.out _ _ hV.out hX.out.drew).mono ?_;rintro e w7 ⟨rfl,aT,hCT,hT⟩;have hc7:=hR.out w7 [_] hT;replace hX:=Lh hT;replace hV:=Lh hCT;clear hT hCT hfi hc9;dsimp only;refine hK _ _ (fun _=>hc7) ?_;clear hK K;(try simp only[Act.put,gD]);refine wpE_done (by kernel_rfl) ?_ _;clear hc7;go_wp2_with fail;have hc:=hR.out w7.drew [_] hX.out.drew;refine wp_region_E (S:=fun w'=>w'.cell? ⟨bf,0,none⟩=some (.pointer (some ⟨f,0,none⟩))∧w'.cell? ⟨bb,0,none⟩=some (.slice A0 L c0)∧w'.cell? ⟨bd,0,none⟩=some (.int .i64 dir)∧w'.cell? ⟨bp,0,none⟩=some (.string ⟨path.toArray⟩)∧w'.cell? ⟨bx,0,none⟩=some (.int .i64 2)∧w'.cell? ⟨bx,1,none⟩=some (.int .i64 (x.mode:Nat))∧w'.cell? ⟨bx,2,none⟩=some (.int .i64 (x.links:Nat))∧w'.cell? ⟨bx,3,none⟩=some (.int .i64 (x.size:Nat))∧w'.cell? ⟨bx,4,none⟩=some (.slice none 0 0)) 8 (by kernel_rfl) ?_;simp only[List.size_toArray,List.length_cons,List.length_nil,Nat.reduceAdd];refine wpE_tk (i:=0) (v:=?_) hc rfl ?_ ?_;rotate_left
  ·rintro w ⟨e1,e2,e3,e4,e5,e6,e7,e8,e9⟩;go_simp;try with_reducible rfl
  simp only[Act.put,gD];refine wpE_tk (i:=1) (v:=?_) hc rfl ?_ ?_;rotate_left
  ·rintro w ⟨e1,e2,e3,e4,e5,e6,e7,e8,e9⟩;go_simp;try with_reducible rfl
  simp only[Act.put,gD];refine wpE_tk (i:=2) (v:=?_) hc rfl ?_ ?_;rotate_left
  ·rintro w ⟨e1,e2,e3,e4,e5,e6,e7,e8,e9⟩;go_simp;try with_reducible rfl
  simp only[Act.put,gD];refine wpE_tk (i:=3) (v:=?_) hc rfl ?_ ?_;rotate_left
  ·rintro w ⟨e1,e2,e3,e4,e5,e6,e7,e8,e9⟩;go_simp;try with_reducible rfl
  simp only[Act.put,gD];refine wpE_tk (i:=4) (v:=?_) hc rfl ?_ ?_;rotate_left
  ·rintro w ⟨e1,e2,e3,e4,e5,e6,e7,e8,e9⟩;go_simp;try with_reducible rfl
  simp only[Act.put,gD];refine wpE_tk (i:=6) (v:=?_) hc rfl ?_ ?_;rotate_left
  ·rintro w ⟨e1,e2,e3,e4,e5,e6,e7,e8,e9⟩;go_simp;try with_reducible rfl
  simp only[Act.put,gD];refine wpE_one (i:=5) (by kernel_rfl) rfl (fun K hK=>?_);go_simp;go_at_call 101;refine(hba2.out _).mono ?_;rintro e v9 ⟨rfl,hb9⟩;replace hX:=Lh (hX.out.drew.pure hb9);have hc9:=hR.out v9 [_] hX.out;clear hc hb9;dsimp only;refine hK _ _ (fun _=>hc9) ?_;clear hK K;(try simp only[Act.put,gD]);refine wpE_one (i:=7) (by kernel_rfl) rfl (fun K hK=>?_);go_simp;go_at_call 104;refine(hen.out _ _ hV.out hX.out).mono ?_;intro e v8 ho;cases rX with
  |none=>unfold opOut at ho;obtain⟨rfl,T,aT,hLT,hCT,hT⟩:=ho;unfold opOut;exact⟨rfl,rfl,T,aT,hl2.out.trans hLT,hCT,hT⟩
  |some T=>
   unfold opOut at ho;obtain⟨rfl,aT,hCT,hT⟩:=ho;have hc8:=hR.out v8 [_] hT;dsimp only;refine hK _ _ (fun _=>hc8) ?_;clear hK K;(try simp only[Act.put,gD]);refine wpE_done (by kernel_rfl) ?_ _
   go_end0
   unfold opOut;exact⟨rfl,aT,hCT,hT⟩
theorem fitP_one {S:VS}:fitP S [] 1=match freeL (bk S.cur 1) S.count with|none=>none|some j=>some (S.put 1 (setB (bk S.cur 1) j),[j]):=by
 unfold fitP;simp only[List.length_nil,downP,Nat.zero_sub,Nat.sub_zero];show upP 1 S []=_
 unfold upP;cases freeL (bk S.cur 1) S.count<;>rfl
set_option maxRecDepth 100000 in
set_option maxHeartbeats 4000000 in
theorem made1_dir0 {bf bx bb bd bp n:Nat} {x:VI} (hR0:∀W Y,Sep w0 W (Y++R)→W.cell? ⟨bf,0,none⟩=some (.pointer (some ⟨f,0,none⟩)))
  (hC:VC S a) (hF:VF S) (hT:TabOk S.cur S.names) (hk:x.kind=1) (hx0:x.spots=[])
  (hfr:freeI S.cur S.names=some n) (hfl:freeL (bk S.cur 1) S.count=none) (h:Sep w0 w (volR f q p S a:: .box bx 118 (infoC x (.slice none 0 0))::intsR (.slice none 0 0) []::R)):
  Calls Tryz.prog 118 #[.pointer (some ⟨bf,0,none⟩),.pointer (some ⟨bx,0,none⟩),.pointer (some ⟨bb,0,none⟩),.pointer (some ⟨bd,0,none⟩),.pointer (some ⟨bp,0,none⟩)] w (opOut f q p S none w0 R):=by
 have hR:=Lh hR0;have hun:Hid (Calls Tryz.prog 119 #[.pointer (some ⟨f,0,none⟩)] w fun e w'=>e= .returned (.int .i64 n)∧∃a',VC S a'∧Sep w0 w' (volR f q p S a':: .box bx 118 (infoC x (.slice none 0 0))::intsR (.slice none 0 0) []::R)):=Lh (by refine(unused_any hC hF hT h).mono ?_;intro e w' ho;unfold unusedOut at ho;rw[hfr]at ho;obtain⟨rfl,a',h1,h2⟩:=ho;exact⟨rfl,a',h1.ok,h2⟩);have hft:Hid (∀W a1,VC S a1→Sep w0 W (volR f q p S a1:: .box bx 118 (infoC x (.slice none 0 0))::intsR (.slice none 0 0) []::R)→Calls Tryz.prog 89 #[.pointer (some ⟨f,0,none⟩),.pointer (some ⟨bx,0,none⟩),.int .i64 1] W (opOut f q p S none w0 R)):=Lh fun W a1 h1 h2=>by have h3:=fit_any (n:=1) (x:=x) h1 hF (by rw[hx0];decide) (by decide) (by rw[hx0];intro s hs;cases hs) (by rw[hx0];exact h2);refine h3.mono ?_;intro e w' ho;unfold fitOut at ho;rw[hx0,fitP_one,hfl]at ho;unfold opOut;exact ho
 have hck:Hid (∀W Y,Sep w0 W (Y++(.box bx 118 (infoC x (.slice none 0 0))::intsR (.slice none 0 0) []::R))→W.cell? ⟨bf,0,none⟩=some (.pointer (some ⟨f,0,none⟩))∧W.cell? ⟨bx,0,none⟩=some (.int .i64 1)):=Lh fun W Y hW=>by refine⟨hR0 W (Y++[_,_]) (by rw[List.append_assoc];exact hW),?_⟩;have h3:=hW.bC Y.length (by rw[List.getElem?_append_right (Nat.le_refl _),Nat.sub_self];rfl) 0;rw[h3];unfold infoC;rw[hk];rfl
 have hX0:=Lh h;clear hR0 hC hF hT hk hx0 hfr hfl h hR;have hc:=hck.out w [_] hX0.out;unfold opOut at*;go_enter Tryz.func118,Tryz.ntmps118;go_wp2_with(first |(go_at_call 119;refine hun.out.mono ?_;rintro e w9 ⟨rfl,a9,hC9,h9⟩;clear hc;have hc:=hck.out w9 [_] h9;have hft2:=hft.out _ _ hC9 h9;clear hC9 h9 hun hX0)|(go_at_call 89;refine hft2.mono ?_;rintro e w8 ⟨rfl,hend⟩;replace hend:=Lh hend));exact⟨rfl,rfl,hend.out⟩
set_option maxRecDepth 100000 in
set_option maxHeartbeats 4000000 in
theorem made1_dir {bf bx bb bd bp n dir j:Nat} {x:VI} {path:List UInt8} (hR0:∀W Y,Sep w0 W (Y++R)→W.cell? ⟨bf,0,none⟩=some (.pointer (some ⟨f,0,none⟩))∧W.cell? ⟨bd,0,none⟩=some (.int .i64 dir)∧W.cell? ⟨bp,0,none⟩=some (strV path))
  (hC:VC S a) (hF:VF S) (hT:TabOk S.cur S.names) (hx:({x with spots:=[j]}:VI).ok) (hk:x.kind=1) (hx0:x.spots=[]) (hv2:validL path=true) (hp2:path.length≤1048576)
  (hfr:freeI S.cur S.names=some n) (hfl:freeL (bk S.cur 1) S.count=some j) (hn2:InoOk (madeBlkP S j) n) (hs2:SmallW (madeBlkP S j)) (he:EnterOk (madeDirP S n x j) dir n (baseP path)) (hs3:SmallV (madeDirP S n x j)) (h:Sep w0 w (volR f q p S a:: .box bx 118 (infoC x (.slice none 0 0))::intsR (.slice none 0 0) []::R)):
  Calls Tryz.prog 118 #[.pointer (some ⟨bf,0,none⟩),.pointer (some ⟨bx,0,none⟩),.pointer (some ⟨bb,0,none⟩),.pointer (some ⟨bd,0,none⟩),.pointer (some ⟨bp,0,none⟩)] w (opOut f q p S (enterP (madeDirP S n x j) dir (baseP path) n) w0 R):=by
 have hR:=Lh hR0;obtain⟨S1,hS1⟩:∃S1,S1=S.put 1 (setB (bk S.cur 1) j):=⟨_,rfl⟩;have hlike1:Like S S1:=by rw[hS1];exact(Like.refl S).put _ _
 obtain⟨SB,hSB⟩:∃SB,SB=madeBlkP S j:=⟨_,rfl⟩;have hSB1:SB=S1.put (S1.data+j) zeroB:=by rw[hSB,hS1];rfl
 have hlikeB:Like S SB:=by rw[hSB1];exact hlike1.put _ _
 obtain⟨SD,hSD⟩:∃SD,SD=madeDirP S n x j:=⟨_,rfl⟩;have hSD1:SD=SB.keep n {x with spots:=[j]}:=by rw[hSD,hSB];rfl
 have hlike:Hid (Like S SD):=by rw[hSD1];exact Lh (hlikeB.keep _ _)
 have hun:Hid (Calls Tryz.prog 119 #[.pointer (some ⟨f,0,none⟩)] w fun e w'=>e= .returned (.int .i64 n)∧∃a',VC S a'∧Sep w0 w' (volR f q p S a':: .box bx 118 (infoC x (.slice none 0 0))::intsR (.slice none 0 0) []::R)):=Lh (by refine(unused_any hC hF hT h).mono ?_;intro e w' ho;unfold unusedOut at ho;rw[hfr]at ho;obtain⟨rfl,a',h1,h2⟩:=ho;exact⟨rfl,a',h1.ok,h2⟩);have hft:Hid (∀W a1,VC S a1→Sep w0 W (volR f q p S a1:: .box bx 118 (infoC x (.slice none 0 0))::intsR (.slice none 0 0) []::R)→Calls Tryz.prog 89 #[.pointer (some ⟨f,0,none⟩),.pointer (some ⟨bx,0,none⟩),.int .i64 1] W fun e w'=>e= .returned (.tuple #[])∧∃a2 ad c9,VC S1 a2∧Sep w0 w' (volR f q p S1 a2::Asn.box bx 118 (infoC {x with spots:=[j]} (.slice (some ad) 1 c9))::intsR (.slice (some ad) 1 c9) [(j:Int)]::R)):=Lh fun W a1 h1 h2=>by have h3:=fit_any (n:=1) (x:=x) h1 hF (by rw[hx0];decide) (by decide) (by rw[hx0];intro s hs;cases hs) (by rw[hx0];exact h2);refine h3.mono ?_;intro e w' ho;unfold fitOut at ho;rw[hx0,fitP_one,hfl]at ho;obtain⟨rfl,a2,v2,_,h4,h5⟩:=ho;obtain⟨ad,c9,u9,e9,_,_⟩:=Rd.at_ (h5.rd 2 rfl) (k:=0) (by show 0<1;decide);rw[←hS1]at h4 h5;have e8:v2= .slice (some ad) 1 c9:=e9;rw[e8]at h5;exact⟨rfl,a2,ad,c9,h4,h5⟩
 have hjc:=freeL_lt2 hfl;have hda:Hid (∀W a1 Y,VC S1 a1→Sep w0 W (Y++(volR f q p S1 a1::R))→Calls Tryz.prog 120 #[.pointer (some ⟨f,0,none⟩)] W fun e w'=>e= .returned (.int .i64 (S1.data:Nat))∧w'=W):=Lh fun W a1 Y h1 h2=>by have h3:Sep w0 W (volR f q p S1 a1::(Y++R)):=h2.perm List.perm_middle;exact data_any h1 (hlike1.vf hF) h3.fs_cells.c3
 have hpu:Hid (∀W a1 ad c9 g,VC S1 a1→Sep w0 W (bytesR (.slice (some ⟨g,0,none⟩) 512 512) zeroB::volR f q p S1 a1::Asn.box bx 118 (infoC {x with spots:=[j]} (.slice (some ad) 1 c9))::intsR (.slice (some ad) 1 c9) [(j:Int)]::R)→Calls Tryz.prog 88 #[.pointer (some ⟨f,0,none⟩),.int .i64 ((S1.data:Int)+j),.slice (some ⟨g,0,none⟩) 512 512] W fun e w'=>e= .returned (.tuple #[])∧∃a2,VC SB a2∧Sep w0 w' (volR f q p SB a2::Asn.box bx 118 (infoC {x with spots:=[j]} (.slice (some ad) 1 c9))::intsR (.slice (some ad) 1 c9) [(j:Int)]::R)):=Lh fun W a1 ad c9 g h1 h2=>by(have hbound:S1.data+j<S1.nb-96:=by rw[←hlike1.count]at hjc;unfold VS.count at hjc;omega);have h3:Sep w0 W (volR f q p S1 a1::bytesR (.slice (some ⟨g,0,none⟩) 512 512) zeroB::Asn.box bx 118 (infoC {x with spots:=[j]} (.slice (some ad) 1 c9))::intsR (.slice (some ad) 1 c9) [(j:Int)]::R):=h2.perm (List.Perm.swap _ _ _);have h4:=put_blk (v:=.slice (some ⟨g,0,none⟩) 512 512) (bs:=zeroB) h1 hbound ((h3.vol_cut h1 (S1.data+j)).perm (List.Perm.swap _ _ _));rw[show((S1.data+j:Nat):Int)=(S1.data:Int)+j by omega]at h4;refine h4.mono ?_;rintro e w' ⟨rfl,h5⟩;rw[hSB1];exact⟨rfl,_,h1.put _ hbound zeroB_len,h5⟩
 have hd5:(S1.data:Int)+j<1000000:=by have h1:=hC.dok.few;rw[←hlike1.count]at hjc;unfold VS.count at hjc;have:=hlike1.nb;omega
 have hkp:Hid (∀W a1 ad c9,VC SB a1→Sep w0 W (volR f q p SB a1::Asn.box bx 118 (infoC {x with spots:=[j]} (.slice (some ad) 1 c9))::intsR (.slice (some ad) 1 c9) [(j:Int)]::R)→Calls Tryz.prog 90 #[.pointer (some ⟨f,0,none⟩),.int .i64 n,.agg #[.int .i64 1,.int .i64 (x.mode:Nat),.int .i64 (x.links:Nat),.int .i64 (x.size:Nat),.slice (some ad) 1 c9]] W fun e w'=>e= .returned (.tuple #[])∧∃a',VC SD a'∧Sep w0 w' (volR f q p SD a'::Asn.box bx 118 (infoC {x with spots:=[j]} (.slice (some ad) 1 c9))::intsR (.slice (some ad) 1 c9) [(j:Int)]::R)):=Lh fun W a1 ad c9 h1 h2=>by have h3:=keep_no (n:=n) (y:= {x with spots:=[j]}) (v:=.slice (some ad) 1 c9) h1 (hlikeB.vf hF) (by rw[hSB];exact hn2) hx (by rw[hSB];exact hs2) 1 rfl h2;rw[←hSD1]at h3;unfold infoV infoC at h3;simp only at h3;rw[hk]at h3;unfold infoC;simp only;rw[hk];exact h3
 have hba2:Hid (∀W,Calls Tryz.prog 101 #[strV path] W fun e w'=>e= .returned (strV (baseP path))∧Below W.heap.size W w'):=Lh fun W=>base_any hv2 hp2 W
 obtain⟨rX,hrX⟩:∃rX,rX=enterP (madeDirP S n x j) dir (baseP path) n:=⟨_,rfl⟩;have hen:Hid (∀W a1,VC SD a1→Sep w0 W (volR f q p SD a1::R)→Calls Tryz.prog 104 #[.pointer (some ⟨f,0,none⟩),.int .i64 dir,strV (baseP path),.int .i64 n] W (opOut f q p SD rX w0 R)):=Lh fun W a1 h1 h2=>by rw[hrX,←hSD];exact enter_no h1 (hlike.out.vf hF) (by rw[hSD];exact he) (by rw[hSD];exact hs3) h2
 obtain⟨b2,hb2⟩:∃b,b=baseP path:=⟨_,rfl⟩;rw[←hrX];rw[←hb2]at hba2 hen;have hck:Hid (∀W Y,Sep w0 W (Y++(.box bx 118 (infoC x (.slice none 0 0))::intsR (.slice none 0 0) []::R))→W.cell? ⟨bf,0,none⟩=some (.pointer (some ⟨f,0,none⟩))∧W.cell? ⟨bx,0,none⟩=some (.int .i64 1)):=Lh fun W Y hW=>by refine⟨(hR0 W (Y++[_,_]) (by rw[List.append_assoc];exact hW)).1,?_⟩;have h3:=hW.bC Y.length (by rw[List.getElem?_append_right (Nat.le_refl _),Nat.sub_self];rfl) 0;rw[h3];unfold infoC;rw[hk];rfl
 have hcd:Hid (∀W a1 SS ad c9,Sep w0 W (volR f q p SS a1::Asn.box bx 118 (infoC {x with spots:=[j]} (.slice (some ad) 1 c9))::intsR (.slice (some ad) 1 c9) [(j:Int)]::R)→W.cell? ⟨bf,0,none⟩=some (.pointer (some ⟨f,0,none⟩))∧W.cell? ⟨bd,0,none⟩=some (.int .i64 dir)∧W.cell? ⟨bp,0,none⟩=some (.string ⟨path.toArray⟩)∧W.cell? ⟨bx,0,none⟩=some (.int .i64 1)∧W.cell? ⟨bx,1,none⟩=some (.int .i64 (x.mode:Nat))∧W.cell? ⟨bx,2,none⟩=some (.int .i64 (x.links:Nat))∧W.cell? ⟨bx,3,none⟩=some (.int .i64 (x.size:Nat))∧W.cell? ⟨bx,4,none⟩=some (.slice (some ad) 1 c9)):=Lh fun W a1 SS ad c9 hW=>by have k1:=hR0 W [_,_,_] hW;have k2:=hW.info_cells 1 rfl;simp only at k2;rw[hk]at k2;exact⟨k1.1,k1.2.1,k1.2.2,k2.1,k2.2.1,k2.2.2.1,k2.2.2.2.1,k2.2.2.2.2⟩
 have hat:Hid (∀W a1 ad c9,Sep w0 W (volR f q p S1 a1::Asn.box bx 118 (infoC {x with spots:=[j]} (.slice (some ad) 1 c9))::intsR (.slice (some ad) 1 c9) [(j:Int)]::R)→W.cell? (ad.add 0)=some (.int .i64 j)):=Lh fun W a1 ad c9 hW=>by obtain⟨ad2,c8,u9,e9,h1,h2⟩:=Rd.at_ (hW.rd 2 rfl) (k:=0) (by show 0<1;decide);cases e9;cases h1;exact h2
 obtain⟨k0,hknf,hk0,hk1,hk2⟩:=info_of info_byte;have hX0:=Lh h;obtain⟨d,hd⟩:∃d,d=S1.data:=⟨_,rfl⟩;rw[←hd]at hda hpu hd5;have q3:IntKind.i64.wrap ((d:Int)+j)=d+j:=IntWalk.i64_in _ (by omega);have hc:=hck.out w [_] hX0.out;clear hR0 hC hF hT hx hk hx0 hv2 hp2 hfr hfl hn2 hs2 he hs3 h hS1 hlike1 hSB hSB1 hlikeB hSD hSD1 hjc hrX hb2 hd hd5;unfold strV at*;go_enter Tryz.func118,Tryz.ntmps118;go_wp2_with(first |(go_at_call 119;refine hun.out.mono ?_;rintro e w9 ⟨rfl,a9,hC9,h9⟩;clear hc;have hc:=hck.out w9 [_] h9;have hft2:=hft.out _ _ hC9 h9;clear hC9 h9 hun hX0 hft)|(go_at_call 89;refine hft2.mono ?_;rintro e w8 ⟨rfl,a8,ad,c9,hC8,h8⟩;clear hc;have hc:=(hcd.out _ _ _ _ _ h8).2.2.2.2.2.2.2;have hV:=Lh hC8;have hX:=Lh h8;clear hC8 h8 hft2 hck));have hI0:Hid (∃a8,VC S1 a8∧Sep w0 w8 (volR f q p S1 a8::Asn.box bx 118 (infoC {x with spots:=[j]} (.slice (some ad) 1 c9))::intsR (.slice (some ad) 1 c9) [(j:Int)]::R)):=Lh ⟨_,hV.out,hX.out⟩;clear hV hX hc;go_loopw[24] (fun i wr=>∃k:Nat,k≤1∧i= .int .i64 k∧Hid (k=0→∃a8,VC S1 a8∧Sep w0 wr (volR f q p S1 a8::Asn.box bx 118 (infoC {x with spots:=[j]} (.slice (some ad) 1 c9))::intsR (.slice (some ad) 1 c9) [(j:Int)]::R))∧Hid (k=1→∃a8,VC SB a8∧Sep w0 wr (volR f q p SB a8::Asn.box bx 118 (infoC {x with spots:=[j]} (.slice (some ad) 1 c9))::intsR (.slice (some ad) 1 c9) [(j:Int)]::R))) (fun i _=>1-(intOf i).toNat)
 case atStart=>exact⟨0,Nat.zero_le _,rfl,Lh fun _=>hI0.out,Lh fun h=>absurd h (by decide)⟩
 obtain⟨k,hk,rfl,hI,hJ⟩:=hrel;clear hI0;by_cases hlt:k<1
 ·(have hk0':k=0:=by omega);obtain⟨a8,hC8,h8⟩:=hI.out hk0';have hcj:=hat.out _ _ _ _ h8;rw[←hk0']at hcj;(have q1:(k:Int)<1:=by omega);(have q0:(0:Int)≤k:=by omega);replace hk0':=Lh hk0';have hV:=Lh hC8;have hX:=Lh h8;clear hC8 h8 hI hJ;go_wp2_with fail;refine wp_region_Ew (S:=fun w'=>w'.cell? ⟨bf,0,none⟩=some (.pointer (some ⟨f,0,none⟩))) 15 (by kernel_rfl) ?_;intro wq hwq;(have hX2:Hid (Sep w0 wq (volR f q p S1 a8::Asn.box bx 118 (infoC {x with spots:=[j]} (.slice (some ad) 1 c9))::intsR (.slice (some ad) 1 c9) [(j:Int)]::R)):=by rw[hwq];exact Lh hX.out.drew);clear hwq hX hcj;have hc:=(hcd.out _ _ _ _ _ hX2.out).1;simp only[List.size_toArray,List.length_cons,List.length_nil,Nat.reduceAdd];refine wpE_tk (i:=0) (v:=?_) hc rfl ?_ ?_;rotate_left
  ·rintro w e1;go_simp;try with_reducible rfl
  simp only[Act.put,gD];refine wpE_tk (i:=1) (v:=?_) hc rfl ?_ ?_;rotate_left
  ·rintro w e1;go_simp;try with_reducible rfl
  simp only[Act.put,gD];refine wpE_tk (i:=2) (v:=?_) hc rfl ?_ ?_;rotate_left
  ·rintro w e1;go_simp;try with_reducible rfl
  simp only[Act.put,gD];refine wpE_tk (i:=3) (v:=?_) hc rfl ?_ ?_;rotate_left
  ·rintro w e1;go_simp;try with_reducible rfl
  simp only[Act.put,gD];refine wpE_tk (i:=4) (v:=?_) hc rfl ?_ ?_;rotate_left
  ·rintro w e1;go_simp;try with_reducible rfl
  simp only[Act.put,gD];refine wpE_tk (i:=5) (v:=?_) hc rfl ?_ ?_;rotate_left
  ·rintro w e1;go_simp;try with_reducible rfl
  simp only[Act.put,gD];refine wpE_tk (i:=6) (v:=?_) hc rfl ?_ ?_;rotate_left
  ·rintro w e1;go_simp;try with_reducible rfl
  simp only[Act.put,gD];refine wpE_tk (i:=7) (v:=?_) hc rfl ?_ ?_;rotate_left
  ·rintro w e1;go_simp;try with_reducible rfl
  simp only[Act.put,gD];refine wpE_tk (i:=8) (v:=?_) hc rfl ?_ ?_;rotate_left
  ·rintro w e1;go_simp;try with_reducible rfl
  simp only[Act.put,gD];refine wpE_tk (i:=9) (v:=?_) hc rfl ?_ ?_;rotate_left
  ·rintro w e1;go_simp;try with_reducible rfl
  simp only[Act.put,gD];refine wpE_tk (i:=11) (v:=?_) hc rfl ?_ ?_;rotate_left
  ·rintro w e1;go_simp;try with_reducible rfl
  simp only[Act.put,gD];have hmk:(Instr.makeSlice 35 (.int .i64 512) (.int .i64 512)).run Tryz.prog wq= .ok (.slice (some ⟨wq.heap.size,0,none⟩) 512 512) (wq.alloc (.cells (madeCells #[.int .u8 0] 512) 5)):=run_make_n (P:=Tryz.prog) 35 5 k0 (.int .u8 0) 1 Tryz.underlying35 hknf hk0 hk1 hk2 rfl .i64 .i64 512 (by omega) (by unfold maxLen;omega) wq;have hS1:=hX2.out.made 5 (.int .u8 0) 512 (by unfold maxLen;omega);have h9:Hid (Sep w0 (wq.alloc (.cells (madeCells #[.int .u8 0] 512) 5)) (bytesR (.slice (some ⟨wq.heap.size,0,none⟩) 512 512) zeroB::volR f q p S1 a8::Asn.box bx 118 (infoC {x with spots:=[j]} (.slice (some ad) 1 c9))::intsR (.slice (some ad) 1 c9) [(j:Int)]::R)):=Lh (by rw[bytesR_of zeroB_len,zeroB_map];exact hS1);clear hS1;refine wpE_two8 (i:=10) (j:=13) (by kernel_rfl) rfl rfl (fun K hK=>?_) (fun K hK=>?_)
  focus
   go_simp
   go_at_call 120
   refine(hda.out wq a8 [] hV.out ((hX2.out.sel [1,2,0] (by decide) (by simp)).drop 2)).mono ?_
   rintro e w6 ⟨rfl,h6⟩
   obtain rfl:=h6.symm
   dsimp only
   refine hK _ _ (fun _=>hc) ?_
   clear hK K
   try simp only[Act.put,gD]
   refine wpE_tk (i:=12) (v:=?_) hc rfl ?_ ?_
   rotate_left
   ·rintro w e1;go_simp;try with_reducible rfl
   simp only[Act.put,gD]
   refine wpE_one (i:=13) (by kernel_rfl) rfl (fun K hK=>?_)
   go_simp
   have hc8:=(hcd.out _ _ _ _ _ (h9.out.drop 1)).1
   try dsimp only
   refine hK _ _ (fun _=>hc8) ?_
   clear hK K
   try simp only[Act.put,gD]
   clear hmk hc hc8
  rotate_left
  focus
   go_simp
   have hc8:=(hcd.out _ _ _ _ _ (h9.out.drop 1)).1
   try dsimp only
   refine hK _ _ (fun _=>hc8) ?_
   clear hK K
   try simp only[Act.put,gD]
   clear hmk hc
   refine wpE_one (i:=10) (by kernel_rfl) rfl (fun K hK=>?_)
   go_simp
   go_at_call 120
   refine(hda.out _ a8 [] hV.out ((h9.out.sel [0,2,3,1] (by decide) (by simp)).drop 3)).mono ?_
   rintro e w6 ⟨rfl,h6⟩
   obtain rfl:=h6.symm
   dsimp only
   refine hK _ _ (fun _=>hc8) ?_
   clear hK K
   try simp only[Act.put,gD]
   refine wpE_tk (i:=12) (v:=?_) hc8 rfl ?_ ?_
   rotate_left
   ·rintro w e1;go_simp;try with_reducible rfl
   simp only[Act.put,gD]
   clear hc8
  all_goals
   obtain⟨g,hg⟩:∃g,g=wq.heap.size:=⟨_,rfl⟩
   obtain⟨w7,hw7⟩:∃w7,w7=wq.alloc (.cells (madeCells #[.int .u8 0] 512) 5):=⟨_,rfl⟩
   rw[←hw7,←hg]at h9 ⊢
   clear hw7 hg hX2
   refine wpE_one (i:=14) (by kernel_rfl) rfl (fun K hK=>?_)
   go_simp
   go_at_call 88
   refine(hpu.out _ _ _ _ _ hV.out h9.out).mono ?_
   rintro e w5 ⟨rfl,a5,hC5,h5⟩
   have hc5:=(hcd.out _ _ _ _ _ h5).1
   replace hC5:=Lh hC5
   replace h5:=Lh h5
   dsimp only
   refine hK _ _ (fun _=>hc5) ?_
   clear hK K
   try simp only[Act.put,gD]
   refine wpE_done (by kernel_rfl) ?_ _
   clear h9 hV hc5
   go_wp2_with fail
   exact⟨⟨k+1,by omega,rfl,Lh fun h=>absurd h (by omega),Lh fun _=>⟨_,hC5.out,h5.out⟩⟩,by simp[intOf];omega⟩
 obtain rfl:k=1:=by omega
 obtain⟨a8,hC8,h8⟩:=hJ.out rfl;have hc:=hcd.out _ _ _ _ _ h8.drew;have hkp2:=hkp.out _ _ _ _ hC8 h8.drew;clear hC8 h8 hI hJ;go_wp2_with fail;refine wp_region_E (S:=fun w'=>w'.cell? ⟨bf,0,none⟩=some (.pointer (some ⟨f,0,none⟩))∧w'.cell? ⟨bd,0,none⟩=some (.int .i64 dir)∧w'.cell? ⟨bp,0,none⟩=some (.string ⟨path.toArray⟩)∧w'.cell? ⟨bx,0,none⟩=some (.int .i64 1)∧w'.cell? ⟨bx,1,none⟩=some (.int .i64 (x.mode:Nat))∧w'.cell? ⟨bx,2,none⟩=some (.int .i64 (x.links:Nat))∧w'.cell? ⟨bx,3,none⟩=some (.int .i64 (x.size:Nat))∧w'.cell? ⟨bx,4,none⟩=some (.slice (some ad) 1 c9)) 7 (by kernel_rfl) ?_;simp only[List.size_toArray,List.length_cons,List.length_nil,Nat.reduceAdd];refine wpE_tk (i:=0) (v:=?_) hc rfl ?_ ?_;rotate_left
 ·rintro w ⟨e1,e2,e3,e4,e5,e6,e7,e8⟩;go_simp;try with_reducible rfl
 simp only[Act.put,gD];refine wpE_tk (i:=1) (v:=?_) hc rfl ?_ ?_;rotate_left
 ·rintro w ⟨e1,e2,e3,e4,e5,e6,e7,e8⟩;go_simp;try with_reducible rfl
 simp only[Act.put,gD];refine wpE_tk (i:=2) (v:=?_) hc rfl ?_ ?_;rotate_left
 ·rintro w ⟨e1,e2,e3,e4,e5,e6,e7,e8⟩;go_simp;try with_reducible rfl
 simp only[Act.put,gD];refine wpE_tk (i:=3) (v:=?_) hc rfl ?_ ?_;rotate_left
 ·rintro w ⟨e1,e2,e3,e4,e5,e6,e7,e8⟩;go_simp;try with_reducible rfl
 simp only[Act.put,gD];refine wpE_tk (i:=4) (v:=?_) hc rfl ?_ ?_;rotate_left
 ·rintro w ⟨e1,e2,e3,e4,e5,e6,e7,e8⟩;go_simp;try with_reducible rfl
 simp only[Act.put,gD];refine wpE_tk (i:=5) (v:=?_) hc rfl ?_ ?_;rotate_left
 ·rintro w ⟨e1,e2,e3,e4,e5,e6,e7,e8⟩;go_simp;try with_reducible rfl
 simp only[Act.put,gD];refine wpE_one (i:=6) (by kernel_rfl) rfl (fun K hK=>?_);go_simp;go_at_call 90;refine hkp2.mono ?_;rintro e w7 ⟨rfl,aK,hCK,h7⟩;clear hc hkp2;have hc7:=hcd.out _ _ _ _ _ h7;have hV:=Lh hCK;have hX:Hid (Sep w0 w7 (volR f q p SD aK::R)):=Lh ((h7.sel [1,2,0] (by decide) (by simp)).drop 2);clear hCK h7;dsimp only;refine hK _ _ (fun _=>hc7) ?_;clear hK K;try simp only[Act.put,gD]
 refine wpE_done (by kernel_rfl) ?_ _;have hc0:=hc7.2.2.2.1;clear hc7;go_wp2_with fail;clear hc0;have hc:=hR.out w7.drew [_] hX.out.drew;refine wp_region_E (S:=fun w'=>w'.cell? ⟨bf,0,none⟩=some (.pointer (some ⟨f,0,none⟩))∧w'.cell? ⟨bd,0,none⟩=some (.int .i64 dir)∧w'.cell? ⟨bp,0,none⟩=some (.string ⟨path.toArray⟩)) 8 (by kernel_rfl) ?_;simp only[List.size_toArray,List.length_cons,List.length_nil,Nat.reduceAdd];refine wpE_tk (i:=0) (v:=?_) hc rfl ?_ ?_;rotate_left
 ·rintro w ⟨e1,e2,e3⟩;go_simp;try with_reducible rfl
 simp only[Act.put,gD];refine wpE_tk (i:=1) (v:=?_) hc rfl ?_ ?_;rotate_left
 ·rintro w ⟨e1,e2,e3⟩;go_simp;try with_reducible rfl
 simp only[Act.put,gD];refine wpE_tk (i:=2) (v:=?_) hc rfl ?_ ?_;rotate_left
 ·rintro w ⟨e1,e2,e3⟩;go_simp;try with_reducible rfl
 simp only[Act.put,gD];refine wpE_tk (i:=3) (v:=?_) hc rfl ?_ ?_;rotate_left
 ·rintro w ⟨e1,e2,e3⟩;go_simp;try with_reducible rfl
 simp only[Act.put,gD];refine wpE_tk (i:=4) (v:=?_) hc rfl ?_ ?_;rotate_left
 ·rintro w ⟨e1,e2,e3⟩;go_simp;try with_reducible rfl
 simp only[Act.put,gD];refine wpE_tk (i:=6) (v:=?_) hc rfl ?_ ?_;rotate_left
 ·rintro w ⟨e1,e2,e3⟩;go_simp;try with_reducible rfl
 simp only[Act.put,gD];refine wpE_one (i:=5) (by kernel_rfl) rfl (fun K hK=>?_);go_simp;go_at_call 101;refine(hba2.out _).mono ?_;rintro e v9 ⟨rfl,hb9⟩;replace hX:=Lh (hX.out.drew.pure hb9);have hc9:=hR.out v9 [_] hX.out;clear hc hb9;dsimp only;refine hK _ _ (fun _=>hc9) ?_;clear hK K;try simp only[Act.put,gD]
 refine wpE_one (i:=7) (by kernel_rfl) rfl (fun K hK=>?_);go_simp;go_at_call 104;refine(hen.out _ _ hV.out hX.out).mono ?_;intro e v8 ho;cases rX with
 |none=>unfold opOut at ho;obtain⟨rfl,T,aT,hLT,hCT,hT⟩:=ho;unfold opOut;exact⟨rfl,rfl,T,aT,hlike.out.trans hLT,hCT,hT⟩
 |some T=>
  unfold opOut at ho;obtain⟨rfl,aT,hCT,hT⟩:=ho;have hc8:=hR.out v8 [_] hT;dsimp only;refine hK _ _ (fun _=>hc8) ?_;clear hK K;(try simp only[Act.put,gD]);refine wpE_done (by kernel_rfl) ?_ _
  go_end0
  unfold opOut;exact⟨rfl,aT,hCT,hT⟩
end
end Go.Proofs.YteihmbaimbogaaaGreat
