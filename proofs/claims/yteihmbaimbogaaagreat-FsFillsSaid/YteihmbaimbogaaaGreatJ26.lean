/- FuQ, laid together. -/
import Derived.Test.YteihmbaimbogaaaGreatJ25
namespace Go.Proofs.YteihmbaimbogaaaGreat
open Go.RowKit
set_option linter.unusedVariables false
set_option linter.unusedSimpArgs false
def jW (S:VS) (n:Nat) (x:VI) (bs:List UInt8) (dir:Nat) (name:List UInt8):Option VS:=
 match j5 (S.keep n x) n bs with
 |none=>none
 |some S2=>fF S2 dir name n
def eP (S:VS) (j:Nat):VS:=(S.put 1 (jB (bk S.cur 1) j)).put ((S.put 1 (jB (bk S.cur 1) j)).data+j) bB
def iU (S:VS) (n:Nat) (x:VI) (j:Nat):VS:=(eP S j).keep n {x with aB:=[j]}
def j6 (S:VS) (x:VI) (bs:List UInt8) (dir:Nat) (name:List UInt8):Option VS:=
 match jQ S.cur S.names with
 |none=>none
 |some n=>if x.kind=1 then
   match iC (bk S.cur 1) S.count with
   |none=>none
   |some j=>fF (iU S n x j) dir name n
  else jW S n x bs dir name
theorem IK {c:dW} {names n:Nat} (h:jQ c names=some n):n<names:=by have:=List.mem_of_find?_eq_some h;exact List.mem_range.1 this
theorem MN {bs:List UInt8} {m j:Nat} (h:iC bs m=some j):j<m:=by have:=List.mem_of_find?_eq_some h;exact List.mem_range.1 this
section
variable {w0 w:World} {R:List aU} {f q p:Nat} {S:VS} {a:VA}
set_option maxRecDepth 100000 in
theorem V5 {bf bx bb bd bp:Nat} (hbf:∀W Y,Sep w0 W (Y++R)→W.cell? ⟨bf,0,none⟩=some (.pointer (some ⟨f,0,none⟩)))
  (hC:VC S a) (hF:VF S) (hT:GA S.cur S.names) (hfr:jQ S.cur S.names=none) (h:Sep w0 w (aG f q p S a::R)):
  Calls Tryz.prog 118 #[.pointer (some ⟨bf,0,none⟩),.pointer (some ⟨bx,0,none⟩),.pointer (some ⟨bb,0,none⟩),.pointer (some ⟨bd,0,none⟩),.pointer (some ⟨bp,0,none⟩)] w (fA f q p S none w0 R):=by
 have hc:w.cell? ⟨bf,0,none⟩=some (.pointer (some ⟨f,0,none⟩)):=hbf w [_] h;have hun:Calls Tryz.prog 119 #[.pointer (some ⟨f,0,none⟩)] w (fA f q p S none w0 R):=by refine(sZ hC hF hT h).mono ?_;intro e w' ho;unfold kL at ho;rw[hfr]at ho;obtain⟨rfl,a',h1,h2⟩:=ho;unfold fA;exact⟨rfl,S,a',.refl _,h1.ok,h2⟩
 clear hbf hC hF hT hfr h;unfold fA at*;go_enter Tryz.func118,Tryz.ntmps118;go_wp2_with(go_at_call 119;refine hun.mono ?_;rintro e w9 ⟨rfl,hend⟩;replace hend:=Lh hend;clear hun);exact⟨rfl,rfl,hend.out⟩
set_option maxRecDepth 100000 in
set_option maxHeartbeats 4000000 in
theorem V6 {bf bx bb bd bp n dir L c0:Nat} {A0:Option Addr} {x:VI} {bs path:List UInt8} (hR0:∀W Y,Sep w0 W (Y++R)→W.cell? ⟨bf,0,none⟩=some (.pointer (some ⟨f,0,none⟩))∧W.cell? ⟨bb,0,none⟩=some (.slice A0 L c0)∧W.cell? ⟨bd,0,none⟩=some (.int .i64 dir)∧W.cell? ⟨bp,0,none⟩=some (aM path)∧W.cell? ⟨bx,0,none⟩=some (.int .i64 2)∧W.cell? ⟨bx,1,none⟩=some (.int .i64 (x.mode:Nat))∧W.cell? ⟨bx,2,none⟩=some (.int .i64 (x.links:Nat))∧W.cell? ⟨bx,3,none⟩=some (.int .i64 (x.size:Nat))∧W.cell? ⟨bx,4,none⟩=some (.slice none 0 0))
  (hC:VC S a) (hF:VF S) (hT:GA S.cur S.names) (hx:x.ok) (hk:x.kind=2) (hx0:x.aB=[]) (hbs:bs.length≤8192) (hv:iB w0 R (.slice A0 L c0) bs) (hv2:aP path=true) (hp2:path.length≤1048576) (hs:fD S) (h0:uJ w0 R (.slice none 0 0) [])
  (hfr:jQ S.cur S.names=some n) (hn2:oF (S.keep n x) n) (hs2:fD (S.keep n x)) (ae3:∀S2,j5 (S.keep n x) n bs=some S2→dY S S2∧nL S2 dir n (aR path)∧lJ S2) (h:Sep w0 w (aG f q p S a::R)):
  Calls Tryz.prog 118 #[.pointer (some ⟨bf,0,none⟩),.pointer (some ⟨bx,0,none⟩),.pointer (some ⟨bb,0,none⟩),.pointer (some ⟨bd,0,none⟩),.pointer (some ⟨bp,0,none⟩)] w (fA f q p S (jW S n x bs dir (aR path)) w0 R):=by
 have hR:=Lh hR0;obtain⟨SK,hSK⟩:∃SK,SK=S.keep n x:=⟨_,rfl⟩;have IJ:Hid (dY S SK):=by rw[hSK];exact Lh ((dY.refl S).keep _ _)
 have hun:Hid (Calls Tryz.prog 119 #[.pointer (some ⟨f,0,none⟩)] w fun e w'=>e= .returned (.int .i64 n)∧∃a',VC S a'∧Sep w0 w' (aG f q p S a'::R)):=Lh (by refine(sZ hC hF hT h).mono ?_;intro e w' ho;unfold kL at ho;rw[hfr]at ho;obtain⟨rfl,a',h1,h2⟩:=ho;exact⟨rfl,a',h1.ok,h2⟩);have hkp:Hid (∀W a1,VC S a1→Sep w0 W (aG f q p S a1::R)→Calls Tryz.prog 90 #[.pointer (some ⟨f,0,none⟩),.int .i64 n,.agg #[.int .i64 2,.int .i64 (x.mode:Nat),.int .i64 (x.links:Nat),.int .i64 (x.size:Nat),.slice none 0 0]] W fun e w'=>e= .returned (.tuple #[])∧∃a',VC SK a'∧Sep w0 w' (aG f q p SK a'::R)):=Lh fun W a1 h1 h2=>by rw[hSK];have h3:=o9 (x:=x) (v:=.slice none 0 0) h1 hF (IK hfr) hx (hT n (IK hfr)) hs (by rw[hx0];exact h0) h2;unfold dZ aL at h3;rw[hk]at h3;exact h3
 rw[←hSK]at hn2 hs2 ae3;have aaS:Hid (∀W,Calls Tryz.prog 101 #[aM path] W fun e w'=>e= .returned (aM (aR path))∧Below W.heap.size W w'):=Lh fun W=>H8 hv2 hp2 W
 have hfi:Hid (∀W a1,VC SK a1→Sep w0 W (aG f q p SK a1::R)→Calls Tryz.prog 67 #[.pointer (some ⟨f,0,none⟩),.int .i64 n,.slice A0 L c0] W (fA f q p SK (j5 SK n bs) w0 R)):=Lh fun W a1 h1 h2=>
  ad8 h1 (IJ.out.vf hF) hn2.lt hn2.few hn2.sp hs2 hbs hv h2
 have hX0:=Lh h;have hF':=Lh hF;have hres:Hid (jW S n x bs dir (aR path)=match j5 SK n bs with|none=>none|some S2=>fF S2 dir (aR path) n):=Lh (by unfold jW;rw[←hSK]);obtain⟨rA,hrA⟩:∃r,r=jW S n x bs dir (aR path):=⟨_,rfl⟩;rw[←hrA]at hres ⊢;obtain⟨b2,hb2⟩:∃b,b=aR path:=⟨_,rfl⟩;rw[←hb2]at aaS ae3 hres;clear hR0 hC hF hT hx hx0 hbs hv hv2 hp2 hs h0 hfr hn2 hs2 h hSK hrA hb2 hk;cases hfp:j5 SK n bs with
 |none=>
  rw[hfp]at hfi hres;have hrr:rA=none:=hres.out;subst hrr;clear ae3 hres aaS hF' hfp;unfold fA at hfi;unfold aM at*;go_enter Tryz.func118,Tryz.ntmps118;have hc:=hR.out w [_] hX0.out;go_wp2_with(go_at_call 119;refine hun.out.mono ?_;rintro e w9 ⟨rfl,a9,kE,h9⟩;clear hc;have hc:=hR.out w9 [_] h9;have hV:=Lh kE;have hX:=Lh h9;clear kE h9 hun hX0);have lT:=hR.out w9.drew [_] hX.out.drew;clear hc;refine aN (S:=fun w'=>w'.cell? ⟨bf,0,none⟩=some (.pointer (some ⟨f,0,none⟩))∧w'.cell? ⟨bb,0,none⟩=some (.slice A0 L c0)∧w'.cell? ⟨bd,0,none⟩=some (.int .i64 dir)∧w'.cell? ⟨bp,0,none⟩=some (.string ⟨path.toArray⟩)∧w'.cell? ⟨bx,0,none⟩=some (.int .i64 2)∧w'.cell? ⟨bx,1,none⟩=some (.int .i64 (x.mode:Nat))∧w'.cell? ⟨bx,2,none⟩=some (.int .i64 (x.links:Nat))∧w'.cell? ⟨bx,3,none⟩=some (.int .i64 (x.size:Nat))∧w'.cell? ⟨bx,4,none⟩=some (.slice none 0 0)) 7 (by kernel_rfl) ?_;simp only[List.size_toArray,List.length_cons,List.length_nil,Nat.reduceAdd];refine aA (i:=0) (v:=?_) lT rfl ?_ ?_;rotate_left
  ·rintro w ⟨e1,e2,e3,e4,e5,e6,e7,e8,e9⟩;go_simp;try with_reducible rfl
  simp only[Act.put,gD];refine aA (i:=1) (v:=?_) lT rfl ?_ ?_;rotate_left
  ·rintro w ⟨e1,e2,e3,e4,e5,e6,e7,e8,e9⟩;go_simp;try with_reducible rfl
  simp only[Act.put,gD];refine aA (i:=2) (v:=?_) lT rfl ?_ ?_;rotate_left
  ·rintro w ⟨e1,e2,e3,e4,e5,e6,e7,e8,e9⟩;go_simp;try with_reducible rfl
  simp only[Act.put,gD];refine aA (i:=3) (v:=?_) lT rfl ?_ ?_;rotate_left
  ·rintro w ⟨e1,e2,e3,e4,e5,e6,e7,e8,e9⟩;go_simp;try with_reducible rfl
  simp only[Act.put,gD];refine aA (i:=4) (v:=?_) lT rfl ?_ ?_;rotate_left
  ·rintro w ⟨e1,e2,e3,e4,e5,e6,e7,e8,e9⟩;go_simp;try with_reducible rfl
  simp only[Act.put,gD];refine aA (i:=5) (v:=?_) lT rfl ?_ ?_;rotate_left
  ·rintro w ⟨e1,e2,e3,e4,e5,e6,e7,e8,e9⟩;go_simp;try with_reducible rfl
  simp only[Act.put,gD];refine aC (i:=6) (by kernel_rfl) rfl (fun K hK=>?_);go_simp;go_at_call 90;refine(hkp.out _ _ hV.out hX.out.drew).mono ?_;rintro e w8 ⟨rfl,aK,hCK,h8⟩;clear lT;have hc8:=hR.out w8 [_] h8;replace hX:=Lh h8;replace hV:=Lh hCK;clear hCK h8 hkp;dsimp only;refine hK _ _ (fun _=>hc8) ?_;clear hK K;(try simp only[Act.put,gD]);refine aO (by kernel_rfl) ?_ _;go_wp2_with fail;clear hc8;have lT:=hR.out w8.drew [_] hX.out.drew;refine aN (S:=fun w'=>w'.cell? ⟨bf,0,none⟩=some (.pointer (some ⟨f,0,none⟩))∧w'.cell? ⟨bb,0,none⟩=some (.slice A0 L c0)∧w'.cell? ⟨bd,0,none⟩=some (.int .i64 dir)∧w'.cell? ⟨bp,0,none⟩=some (.string ⟨path.toArray⟩)∧w'.cell? ⟨bx,0,none⟩=some (.int .i64 2)∧w'.cell? ⟨bx,1,none⟩=some (.int .i64 (x.mode:Nat))∧w'.cell? ⟨bx,2,none⟩=some (.int .i64 (x.links:Nat))∧w'.cell? ⟨bx,3,none⟩=some (.int .i64 (x.size:Nat))∧w'.cell? ⟨bx,4,none⟩=some (.slice none 0 0)) 7 (by kernel_rfl) ?_;simp only[List.size_toArray,List.length_cons,List.length_nil,Nat.reduceAdd];refine aA (i:=0) (v:=?_) lT rfl ?_ ?_;rotate_left
  ·rintro w ⟨e1,e2,e3,e4,e5,e6,e7,e8,e9⟩;go_simp;try with_reducible rfl
  simp only[Act.put,gD];refine aA (i:=1) (v:=?_) lT rfl ?_ ?_;rotate_left
  ·rintro w ⟨e1,e2,e3,e4,e5,e6,e7,e8,e9⟩;go_simp;try with_reducible rfl
  simp only[Act.put,gD];refine aA (i:=2) (v:=?_) lT rfl ?_ ?_;rotate_left
  ·rintro w ⟨e1,e2,e3,e4,e5,e6,e7,e8,e9⟩;go_simp;try with_reducible rfl
  simp only[Act.put,gD];refine aA (i:=3) (v:=?_) lT rfl ?_ ?_;rotate_left
  ·rintro w ⟨e1,e2,e3,e4,e5,e6,e7,e8,e9⟩;go_simp;try with_reducible rfl
  simp only[Act.put,gD];refine aA (i:=4) (v:=?_) lT rfl ?_ ?_;rotate_left
  ·rintro w ⟨e1,e2,e3,e4,e5,e6,e7,e8,e9⟩;go_simp;try with_reducible rfl
  simp only[Act.put,gD];refine aA (i:=5) (v:=?_) lT rfl ?_ ?_;rotate_left
  ·rintro w ⟨e1,e2,e3,e4,e5,e6,e7,e8,e9⟩;go_simp;try with_reducible rfl
  simp only[Act.put,gD];refine aC (i:=6) (by kernel_rfl) rfl (fun K hK=>?_);go_simp;go_at_call 67;refine(hfi.out _ _ hV.out hX.out.drew).mono ?_;rintro e w7 ⟨rfl,T,aT,hLT,hCT,hT⟩;unfold fA;exact⟨rfl,rfl,T,aT,IJ.out.trans hLT,hCT,hT⟩
 |some S2=>
  obtain⟨hl2,he2,hs2⟩:=ae3 S2 hfp;rw[hfp]at hfi hres;obtain⟨rX,KS⟩:∃r,r=fF S2 dir b2 n:=⟨_,rfl⟩;(have hrr:rA=rX:=by rw[KS];exact hres.out);subst hrr;(have hen:Hid (∀W a1,VC S2 a1→Sep w0 W (aG f q p S2 a1::R)→Calls Tryz.prog 104 #[.pointer (some ⟨f,0,none⟩),.int .i64 dir,aM b2,.int .i64 n] W (fA f q p S2 rA w0 R)):=Lh fun W a1 h1 h2=>by rw[KS];exact RJ h1 (hl2.vf hF'.out) he2 hs2 h2);replace hl2:=Lh hl2;clear ae3 hres hF' hfp he2 hs2 KS;unfold fA at hfi;unfold aM at*;obtain⟨rX,KS⟩:∃r,r=rA:=⟨_,rfl⟩;subst KS;go_enter Tryz.func118,Tryz.ntmps118;have hc:=hR.out w [_] hX0.out;go_wp2_with(go_at_call 119;refine hun.out.mono ?_;rintro e w9 ⟨rfl,a9,kE,h9⟩;clear hc;have hc:=hR.out w9 [_] h9;have hV:=Lh kE;have hX:=Lh h9;clear kE h9 hun hX0);have lT:=hR.out w9.drew [_] hX.out.drew;clear hc;refine aN (S:=fun w'=>w'.cell? ⟨bf,0,none⟩=some (.pointer (some ⟨f,0,none⟩))∧w'.cell? ⟨bb,0,none⟩=some (.slice A0 L c0)∧w'.cell? ⟨bd,0,none⟩=some (.int .i64 dir)∧w'.cell? ⟨bp,0,none⟩=some (.string ⟨path.toArray⟩)∧w'.cell? ⟨bx,0,none⟩=some (.int .i64 2)∧w'.cell? ⟨bx,1,none⟩=some (.int .i64 (x.mode:Nat))∧w'.cell? ⟨bx,2,none⟩=some (.int .i64 (x.links:Nat))∧w'.cell? ⟨bx,3,none⟩=some (.int .i64 (x.size:Nat))∧w'.cell? ⟨bx,4,none⟩=some (.slice none 0 0)) 7 (by kernel_rfl) ?_;simp only[List.size_toArray,List.length_cons,List.length_nil,Nat.reduceAdd];refine aA (i:=0) (v:=?_) lT rfl ?_ ?_;rotate_left
  ·rintro w ⟨e1,e2,e3,e4,e5,e6,e7,e8,e9⟩;go_simp;try with_reducible rfl
  simp only[Act.put,gD];refine aA (i:=1) (v:=?_) lT rfl ?_ ?_;rotate_left
  ·rintro w ⟨e1,e2,e3,e4,e5,e6,e7,e8,e9⟩;go_simp;try with_reducible rfl
  simp only[Act.put,gD];refine aA (i:=2) (v:=?_) lT rfl ?_ ?_;rotate_left
  ·rintro w ⟨e1,e2,e3,e4,e5,e6,e7,e8,e9⟩;go_simp;try with_reducible rfl
  simp only[Act.put,gD];refine aA (i:=3) (v:=?_) lT rfl ?_ ?_;rotate_left
  ·rintro w ⟨e1,e2,e3,e4,e5,e6,e7,e8,e9⟩;go_simp;try with_reducible rfl
  simp only[Act.put,gD];refine aA (i:=4) (v:=?_) lT rfl ?_ ?_;rotate_left
  ·rintro w ⟨e1,e2,e3,e4,e5,e6,e7,e8,e9⟩;go_simp;try with_reducible rfl
  simp only[Act.put,gD];refine aA (i:=5) (v:=?_) lT rfl ?_ ?_;rotate_left
  ·rintro w ⟨e1,e2,e3,e4,e5,e6,e7,e8,e9⟩;go_simp;try with_reducible rfl
  simp only[Act.put,gD];refine aC (i:=6) (by kernel_rfl) rfl (fun K hK=>?_);go_simp;go_at_call 90;refine(hkp.out _ _ hV.out hX.out.drew).mono ?_;rintro e w8 ⟨rfl,aK,hCK,h8⟩;clear lT;have hc8:=hR.out w8 [_] h8;replace hX:=Lh h8;replace hV:=Lh hCK;clear hCK h8 hkp;dsimp only;refine hK _ _ (fun _=>hc8) ?_;clear hK K;(try simp only[Act.put,gD]);refine aO (by kernel_rfl) ?_ _;go_wp2_with fail;clear hc8;have lT:=hR.out w8.drew [_] hX.out.drew;refine aN (S:=fun w'=>w'.cell? ⟨bf,0,none⟩=some (.pointer (some ⟨f,0,none⟩))∧w'.cell? ⟨bb,0,none⟩=some (.slice A0 L c0)∧w'.cell? ⟨bd,0,none⟩=some (.int .i64 dir)∧w'.cell? ⟨bp,0,none⟩=some (.string ⟨path.toArray⟩)∧w'.cell? ⟨bx,0,none⟩=some (.int .i64 2)∧w'.cell? ⟨bx,1,none⟩=some (.int .i64 (x.mode:Nat))∧w'.cell? ⟨bx,2,none⟩=some (.int .i64 (x.links:Nat))∧w'.cell? ⟨bx,3,none⟩=some (.int .i64 (x.size:Nat))∧w'.cell? ⟨bx,4,none⟩=some (.slice none 0 0)) 7 (by kernel_rfl) ?_;simp only[List.size_toArray,List.length_cons,List.length_nil,Nat.reduceAdd];refine aA (i:=0) (v:=?_) lT rfl ?_ ?_;rotate_left
  ·rintro w ⟨e1,e2,e3,e4,e5,e6,e7,e8,e9⟩;go_simp;try with_reducible rfl
  simp only[Act.put,gD];refine aA (i:=1) (v:=?_) lT rfl ?_ ?_;rotate_left
  ·rintro w ⟨e1,e2,e3,e4,e5,e6,e7,e8,e9⟩;go_simp;try with_reducible rfl
  simp only[Act.put,gD];refine aA (i:=2) (v:=?_) lT rfl ?_ ?_;rotate_left
  ·rintro w ⟨e1,e2,e3,e4,e5,e6,e7,e8,e9⟩;go_simp;try with_reducible rfl
  simp only[Act.put,gD];refine aA (i:=3) (v:=?_) lT rfl ?_ ?_;rotate_left
  ·rintro w ⟨e1,e2,e3,e4,e5,e6,e7,e8,e9⟩;go_simp;try with_reducible rfl
  simp only[Act.put,gD];refine aA (i:=4) (v:=?_) lT rfl ?_ ?_;rotate_left
  ·rintro w ⟨e1,e2,e3,e4,e5,e6,e7,e8,e9⟩;go_simp;try with_reducible rfl
  simp only[Act.put,gD];refine aA (i:=5) (v:=?_) lT rfl ?_ ?_;rotate_left
  ·rintro w ⟨e1,e2,e3,e4,e5,e6,e7,e8,e9⟩;go_simp;try with_reducible rfl
  simp only[Act.put,gD];refine aC (i:=6) (by kernel_rfl) rfl (fun K hK=>?_);go_simp;go_at_call 67;refine(hfi.out _ _ hV.out hX.out.drew).mono ?_;rintro e w7 ⟨rfl,aT,hCT,hT⟩;have hc7:=hR.out w7 [_] hT;replace hX:=Lh hT;replace hV:=Lh hCT;clear hT hCT hfi lT;dsimp only;refine hK _ _ (fun _=>hc7) ?_;clear hK K;(try simp only[Act.put,gD]);refine aO (by kernel_rfl) ?_ _;clear hc7;go_wp2_with fail;have hc:=hR.out w7.drew [_] hX.out.drew;refine aN (S:=fun w'=>w'.cell? ⟨bf,0,none⟩=some (.pointer (some ⟨f,0,none⟩))∧w'.cell? ⟨bb,0,none⟩=some (.slice A0 L c0)∧w'.cell? ⟨bd,0,none⟩=some (.int .i64 dir)∧w'.cell? ⟨bp,0,none⟩=some (.string ⟨path.toArray⟩)∧w'.cell? ⟨bx,0,none⟩=some (.int .i64 2)∧w'.cell? ⟨bx,1,none⟩=some (.int .i64 (x.mode:Nat))∧w'.cell? ⟨bx,2,none⟩=some (.int .i64 (x.links:Nat))∧w'.cell? ⟨bx,3,none⟩=some (.int .i64 (x.size:Nat))∧w'.cell? ⟨bx,4,none⟩=some (.slice none 0 0)) 8 (by kernel_rfl) ?_;simp only[List.size_toArray,List.length_cons,List.length_nil,Nat.reduceAdd];refine aA (i:=0) (v:=?_) hc rfl ?_ ?_;rotate_left
  ·rintro w ⟨e1,e2,e3,e4,e5,e6,e7,e8,e9⟩;go_simp;try with_reducible rfl
  simp only[Act.put,gD];refine aA (i:=1) (v:=?_) hc rfl ?_ ?_;rotate_left
  ·rintro w ⟨e1,e2,e3,e4,e5,e6,e7,e8,e9⟩;go_simp;try with_reducible rfl
  simp only[Act.put,gD];refine aA (i:=2) (v:=?_) hc rfl ?_ ?_;rotate_left
  ·rintro w ⟨e1,e2,e3,e4,e5,e6,e7,e8,e9⟩;go_simp;try with_reducible rfl
  simp only[Act.put,gD];refine aA (i:=3) (v:=?_) hc rfl ?_ ?_;rotate_left
  ·rintro w ⟨e1,e2,e3,e4,e5,e6,e7,e8,e9⟩;go_simp;try with_reducible rfl
  simp only[Act.put,gD];refine aA (i:=4) (v:=?_) hc rfl ?_ ?_;rotate_left
  ·rintro w ⟨e1,e2,e3,e4,e5,e6,e7,e8,e9⟩;go_simp;try with_reducible rfl
  simp only[Act.put,gD];refine aA (i:=6) (v:=?_) hc rfl ?_ ?_;rotate_left
  ·rintro w ⟨e1,e2,e3,e4,e5,e6,e7,e8,e9⟩;go_simp;try with_reducible rfl
  simp only[Act.put,gD];refine aC (i:=5) (by kernel_rfl) rfl (fun K hK=>?_);go_simp;go_at_call 101;refine(aaS.out _).mono ?_;rintro e v9 ⟨rfl,VK⟩;replace hX:=Lh (hX.out.drew.pure VK);have lT:=hR.out v9 [_] hX.out;clear hc VK;dsimp only;refine hK _ _ (fun _=>lT) ?_;clear hK K;(try simp only[Act.put,gD]);refine aC (i:=7) (by kernel_rfl) rfl (fun K hK=>?_);go_simp;go_at_call 104;refine(hen.out _ _ hV.out hX.out).mono ?_;intro e v8 ho;cases rX with
  |none=>unfold fA at ho;obtain⟨rfl,T,aT,hLT,hCT,hT⟩:=ho;unfold fA;exact⟨rfl,rfl,T,aT,hl2.out.trans hLT,hCT,hT⟩
  |some T=>
   unfold fA at ho;obtain⟨rfl,aT,hCT,hT⟩:=ho;have hc8:=hR.out v8 [_] hT;dsimp only;refine hK _ _ (fun _=>hc8) ?_;clear hK K;(try simp only[Act.put,gD]);refine aO (by kernel_rfl) ?_ _
   go_end0
   unfold fA;exact⟨rfl,aT,hCT,hT⟩
theorem IL {S:VS}:iD S [] 1=match iC (bk S.cur 1) S.count with|none=>none|some j=>some (S.put 1 (jB (bk S.cur 1) j),[j]):=by
 unfold iD;simp only[List.length_nil,kQ,Nat.zero_sub,Nat.sub_zero];show FI 1 S []=_
 unfold FI;cases iC (bk S.cur 1) S.count<;>rfl
set_option maxRecDepth 100000 in
set_option maxHeartbeats 4000000 in
theorem V7 {bf bx bb bd bp n:Nat} {x:VI} (hR0:∀W Y,Sep w0 W (Y++R)→W.cell? ⟨bf,0,none⟩=some (.pointer (some ⟨f,0,none⟩)))
  (hC:VC S a) (hF:VF S) (hT:GA S.cur S.names) (hk:x.kind=1) (hx0:x.aB=[])
  (hfr:jQ S.cur S.names=some n) (hfl:iC (bk S.cur 1) S.count=none) (h:Sep w0 w (aG f q p S a:: .box bx 118 (aL x (.slice none 0 0))::aQ (.slice none 0 0) []::R)):
  Calls Tryz.prog 118 #[.pointer (some ⟨bf,0,none⟩),.pointer (some ⟨bx,0,none⟩),.pointer (some ⟨bb,0,none⟩),.pointer (some ⟨bd,0,none⟩),.pointer (some ⟨bp,0,none⟩)] w (fA f q p S none w0 R):=by
 have hR:=Lh hR0;have hun:Hid (Calls Tryz.prog 119 #[.pointer (some ⟨f,0,none⟩)] w fun e w'=>e= .returned (.int .i64 n)∧∃a',VC S a'∧Sep w0 w' (aG f q p S a':: .box bx 118 (aL x (.slice none 0 0))::aQ (.slice none 0 0) []::R)):=Lh (by refine(sZ hC hF hT h).mono ?_;intro e w' ho;unfold kL at ho;rw[hfr]at ho;obtain⟨rfl,a',h1,h2⟩:=ho;exact⟨rfl,a',h1.ok,h2⟩);have hft:Hid (∀W a1,VC S a1→Sep w0 W (aG f q p S a1:: .box bx 118 (aL x (.slice none 0 0))::aQ (.slice none 0 0) []::R)→Calls Tryz.prog 89 #[.pointer (some ⟨f,0,none⟩),.pointer (some ⟨bx,0,none⟩),.int .i64 1] W (fA f q p S none w0 R)):=Lh fun W a1 h1 h2=>by have h3:=tC (n:=1) (x:=x) h1 hF (by rw[hx0];decide) (by decide) (by rw[hx0];intro s hs;cases hs) (by rw[hx0];exact h2);refine h3.mono ?_;intro e w' ho;unfold mD at ho;rw[hx0,IL,hfl]at ho;unfold fA;exact ho
 have hck:Hid (∀W Y,Sep w0 W (Y++(.box bx 118 (aL x (.slice none 0 0))::aQ (.slice none 0 0) []::R))→W.cell? ⟨bf,0,none⟩=some (.pointer (some ⟨f,0,none⟩))∧W.cell? ⟨bx,0,none⟩=some (.int .i64 1)):=Lh fun W Y hW=>by refine⟨hR0 W (Y++[_,_]) (by rw[List.append_assoc];exact hW),?_⟩;have h3:=hW.bC Y.length (by rw[List.getElem?_append_right (Nat.le_refl _),Nat.sub_self];rfl) 0;rw[h3];unfold aL;rw[hk];rfl
 have hX0:=Lh h;clear hR0 hC hF hT hk hx0 hfr hfl h hR;have hc:=hck.out w [_] hX0.out;unfold fA at*;go_enter Tryz.func118,Tryz.ntmps118;go_wp2_with(first |(go_at_call 119;refine hun.out.mono ?_;rintro e w9 ⟨rfl,a9,kE,h9⟩;clear hc;have hc:=hck.out w9 [_] h9;have yI:=hft.out _ _ kE h9;clear kE h9 hun hX0)|(go_at_call 89;refine yI.mono ?_;rintro e w8 ⟨rfl,hend⟩;replace hend:=Lh hend));exact⟨rfl,rfl,hend.out⟩
set_option maxRecDepth 100000 in
set_option maxHeartbeats 4000000 in
theorem aaT {bf bx bb bd bp n dir j:Nat} {x:VI} {path:List UInt8} (hR0:∀W Y,Sep w0 W (Y++R)→W.cell? ⟨bf,0,none⟩=some (.pointer (some ⟨f,0,none⟩))∧W.cell? ⟨bd,0,none⟩=some (.int .i64 dir)∧W.cell? ⟨bp,0,none⟩=some (aM path))
  (hC:VC S a) (hF:VF S) (hT:GA S.cur S.names) (hx:({x with aB:=[j]}:VI).ok) (hk:x.kind=1) (hx0:x.aB=[]) (hv2:aP path=true) (hp2:path.length≤1048576)
  (hfr:jQ S.cur S.names=some n) (hfl:iC (bk S.cur 1) S.count=some j) (hn2:oF (eP S j) n) (hs2:fD (eP S j)) (he:nL (iU S n x j) dir n (aR path)) (hs3:lJ (iU S n x j)) (h:Sep w0 w (aG f q p S a:: .box bx 118 (aL x (.slice none 0 0))::aQ (.slice none 0 0) []::R)):
  Calls Tryz.prog 118 #[.pointer (some ⟨bf,0,none⟩),.pointer (some ⟨bx,0,none⟩),.pointer (some ⟨bb,0,none⟩),.pointer (some ⟨bd,0,none⟩),.pointer (some ⟨bp,0,none⟩)] w (fA f q p S (fF (iU S n x j) dir (aR path) n) w0 R):=by
 have hR:=Lh hR0;obtain⟨S1,hS1⟩:∃S1,S1=S.put 1 (jB (bk S.cur 1) j):=⟨_,rfl⟩;have CJ:dY S S1:=by rw[hS1];exact(dY.refl S).put _ _
 obtain⟨SB,hSB⟩:∃SB,SB=eP S j:=⟨_,rfl⟩;have anA:SB=S1.put (S1.data+j) bB:=by rw[hSB,hS1];rfl
 have V8:dY S SB:=by rw[anA];exact CJ.put _ _
 obtain⟨SD,hSD⟩:∃SD,SD=iU S n x j:=⟨_,rfl⟩;have anB:SD=SB.keep n {x with aB:=[j]}:=by rw[hSD,hSB];rfl
 have II:Hid (dY S SD):=by rw[anB];exact Lh (V8.keep _ _)
 have hun:Hid (Calls Tryz.prog 119 #[.pointer (some ⟨f,0,none⟩)] w fun e w'=>e= .returned (.int .i64 n)∧∃a',VC S a'∧Sep w0 w' (aG f q p S a':: .box bx 118 (aL x (.slice none 0 0))::aQ (.slice none 0 0) []::R)):=Lh (by refine(sZ hC hF hT h).mono ?_;intro e w' ho;unfold kL at ho;rw[hfr]at ho;obtain⟨rfl,a',h1,h2⟩:=ho;exact⟨rfl,a',h1.ok,h2⟩);have hft:Hid (∀W a1,VC S a1→Sep w0 W (aG f q p S a1:: .box bx 118 (aL x (.slice none 0 0))::aQ (.slice none 0 0) []::R)→Calls Tryz.prog 89 #[.pointer (some ⟨f,0,none⟩),.pointer (some ⟨bx,0,none⟩),.int .i64 1] W fun e w'=>e= .returned (.tuple #[])∧∃a2 ad c9,VC S1 a2∧Sep w0 w' (aG f q p S1 a2::aU.box bx 118 (aL {x with aB:=[j]} (.slice (some ad) 1 c9))::aQ (.slice (some ad) 1 c9) [(j:Int)]::R)):=Lh fun W a1 h1 h2=>by have h3:=tC (n:=1) (x:=x) h1 hF (by rw[hx0];decide) (by decide) (by rw[hx0];intro s hs;cases hs) (by rw[hx0];exact h2);refine h3.mono ?_;intro e w' ho;unfold mD at ho;rw[hx0,IL,hfl]at ho;obtain⟨rfl,a2,v2,_,h4,h5⟩:=ho;obtain⟨ad,c9,u9,e9,_,_⟩:=Rd.at_ (h5.rd 2 rfl) (k:=0) (by show 0<1;decide);rw[←hS1]at h4 h5;have e8:v2= .slice (some ad) 1 c9:=e9;rw[e8]at h5;exact⟨rfl,a2,ad,c9,h4,h5⟩
 have hjc:=MN hfl;have QP:Hid (∀W a1 Y,VC S1 a1→Sep w0 W (Y++(aG f q p S1 a1::R))→Calls Tryz.prog 120 #[.pointer (some ⟨f,0,none⟩)] W fun e w'=>e= .returned (.int .i64 (S1.data:Nat))∧w'=W):=Lh fun W a1 Y h1 h2=>by have h3:Sep w0 W (aG f q p S1 a1::(Y++R)):=h2.perm List.perm_middle;exact zL h1 (CJ.vf hF) h3.dK.c3
 have QK:Hid (∀W a1 ad c9 g,VC S1 a1→Sep w0 W (aH (.slice (some ⟨g,0,none⟩) 512 512) bB::aG f q p S1 a1::aU.box bx 118 (aL {x with aB:=[j]} (.slice (some ad) 1 c9))::aQ (.slice (some ad) 1 c9) [(j:Int)]::R)→Calls Tryz.prog 88 #[.pointer (some ⟨f,0,none⟩),.int .i64 ((S1.data:Int)+j),.slice (some ⟨g,0,none⟩) 512 512] W fun e w'=>e= .returned (.tuple #[])∧∃a2,VC SB a2∧Sep w0 w' (aG f q p SB a2::aU.box bx 118 (aL {x with aB:=[j]} (.slice (some ad) 1 c9))::aQ (.slice (some ad) 1 c9) [(j:Int)]::R)):=Lh fun W a1 ad c9 g h1 h2=>by(have hbound:S1.data+j<S1.nb-96:=by rw[←CJ.count]at hjc;unfold VS.count at hjc;omega);have h3:Sep w0 W (aG f q p S1 a1::aH (.slice (some ⟨g,0,none⟩) 512 512) bB::aU.box bx 118 (aL {x with aB:=[j]} (.slice (some ad) 1 c9))::aQ (.slice (some ad) 1 c9) [(j:Int)]::R):=h2.perm (List.Perm.swap _ _ _);have h4:=sV (v:=.slice (some ⟨g,0,none⟩) 512 512) (bs:=bB) h1 hbound ((h3.OJ h1 (S1.data+j)).perm (List.Perm.swap _ _ _));rw[show((S1.data+j:Nat):Int)=(S1.data:Int)+j by omega]at h4;refine h4.mono ?_;rintro e w' ⟨rfl,h5⟩;rw[anA];exact⟨rfl,_,h1.put _ hbound dP,h5⟩
 have hd5:(S1.data:Int)+j<1000000:=by have h1:=hC.l8.few;rw[←CJ.count]at hjc;unfold VS.count at hjc;have:=CJ.nb;omega
 have hkp:Hid (∀W a1 ad c9,VC SB a1→Sep w0 W (aG f q p SB a1::aU.box bx 118 (aL {x with aB:=[j]} (.slice (some ad) 1 c9))::aQ (.slice (some ad) 1 c9) [(j:Int)]::R)→Calls Tryz.prog 90 #[.pointer (some ⟨f,0,none⟩),.int .i64 n,.agg #[.int .i64 1,.int .i64 (x.mode:Nat),.int .i64 (x.links:Nat),.int .i64 (x.size:Nat),.slice (some ad) 1 c9]] W fun e w'=>e= .returned (.tuple #[])∧∃a',VC SD a'∧Sep w0 w' (aG f q p SD a'::aU.box bx 118 (aL {x with aB:=[j]} (.slice (some ad) 1 c9))::aQ (.slice (some ad) 1 c9) [(j:Int)]::R)):=Lh fun W a1 ad c9 h1 h2=>by have h3:=YP (n:=n) (y:= {x with aB:=[j]}) (v:=.slice (some ad) 1 c9) h1 (V8.vf hF) (by rw[hSB];exact hn2) hx (by rw[hSB];exact hs2) 1 rfl h2;rw[←anB]at h3;unfold dZ aL at h3;simp only at h3;rw[hk]at h3;unfold aL;simp only;rw[hk];exact h3
 have aaS:Hid (∀W,Calls Tryz.prog 101 #[aM path] W fun e w'=>e= .returned (aM (aR path))∧Below W.heap.size W w'):=Lh fun W=>H8 hv2 hp2 W
 obtain⟨rX,KS⟩:∃rX,rX=fF (iU S n x j) dir (aR path) n:=⟨_,rfl⟩;have hen:Hid (∀W a1,VC SD a1→Sep w0 W (aG f q p SD a1::R)→Calls Tryz.prog 104 #[.pointer (some ⟨f,0,none⟩),.int .i64 dir,aM (aR path),.int .i64 n] W (fA f q p SD rX w0 R)):=Lh fun W a1 h1 h2=>by rw[KS,←hSD];exact RJ h1 (II.out.vf hF) (by rw[hSD];exact he) (by rw[hSD];exact hs3) h2
 obtain⟨b2,hb2⟩:∃b,b=aR path:=⟨_,rfl⟩;rw[←KS];rw[←hb2]at aaS hen;have hck:Hid (∀W Y,Sep w0 W (Y++(.box bx 118 (aL x (.slice none 0 0))::aQ (.slice none 0 0) []::R))→W.cell? ⟨bf,0,none⟩=some (.pointer (some ⟨f,0,none⟩))∧W.cell? ⟨bx,0,none⟩=some (.int .i64 1)):=Lh fun W Y hW=>by refine⟨(hR0 W (Y++[_,_]) (by rw[List.append_assoc];exact hW)).1,?_⟩;have h3:=hW.bC Y.length (by rw[List.getElem?_append_right (Nat.le_refl _),Nat.sub_self];rfl) 0;rw[h3];unfold aL;rw[hk];rfl
 have hcd:Hid (∀W a1 SS ad c9,Sep w0 W (aG f q p SS a1::aU.box bx 118 (aL {x with aB:=[j]} (.slice (some ad) 1 c9))::aQ (.slice (some ad) 1 c9) [(j:Int)]::R)→W.cell? ⟨bf,0,none⟩=some (.pointer (some ⟨f,0,none⟩))∧W.cell? ⟨bd,0,none⟩=some (.int .i64 dir)∧W.cell? ⟨bp,0,none⟩=some (.string ⟨path.toArray⟩)∧W.cell? ⟨bx,0,none⟩=some (.int .i64 1)∧W.cell? ⟨bx,1,none⟩=some (.int .i64 (x.mode:Nat))∧W.cell? ⟨bx,2,none⟩=some (.int .i64 (x.links:Nat))∧W.cell? ⟨bx,3,none⟩=some (.int .i64 (x.size:Nat))∧W.cell? ⟨bx,4,none⟩=some (.slice (some ad) 1 c9)):=Lh fun W a1 SS ad c9 hW=>by have k1:=hR0 W [_,_,_] hW;have k2:=hW.gP 1 rfl;simp only at k2;rw[hk]at k2;exact⟨k1.1,k1.2.1,k1.2.2,k2.1,k2.2.1,k2.2.2.1,k2.2.2.2.1,k2.2.2.2.2⟩
 have hat:Hid (∀W a1 ad c9,Sep w0 W (aG f q p S1 a1::aU.box bx 118 (aL {x with aB:=[j]} (.slice (some ad) 1 c9))::aQ (.slice (some ad) 1 c9) [(j:Int)]::R)→W.cell? (ad.add 0)=some (.int .i64 j)):=Lh fun W a1 ad c9 hW=>by obtain⟨ad2,c8,u9,e9,h1,h2⟩:=Rd.at_ (hW.rd 2 rfl) (k:=0) (by show 0<1;decide);cases e9;cases h1;exact h2
 obtain⟨k0,iM,hk0,hk1,hk2⟩:=iQ jV;have hX0:=Lh h;obtain⟨d,hd⟩:∃d,d=S1.data:=⟨_,rfl⟩;rw[←hd]at QP QK hd5;have q3:IntKind.i64.wrap ((d:Int)+j)=d+j:=IntWalk.i64_in _ (by omega);have hc:=hck.out w [_] hX0.out;clear hR0 hC hF hT hx hk hx0 hv2 hp2 hfr hfl hn2 hs2 he hs3 h hS1 CJ hSB anA V8 hSD anB hjc KS hb2 hd hd5;unfold aM at*;go_enter Tryz.func118,Tryz.ntmps118;go_wp2_with(first |(go_at_call 119;refine hun.out.mono ?_;rintro e w9 ⟨rfl,a9,kE,h9⟩;clear hc;have hc:=hck.out w9 [_] h9;have yI:=hft.out _ _ kE h9;clear kE h9 hun hX0 hft)|(go_at_call 89;refine yI.mono ?_;rintro e w8 ⟨rfl,a8,ad,c9,hC8,h8⟩;clear hc;have hc:=(hcd.out _ _ _ _ _ h8).2.2.2.2.2.2.2;have hV:=Lh hC8;have hX:=Lh h8;clear hC8 h8 yI hck));have hI0:Hid (∃a8,VC S1 a8∧Sep w0 w8 (aG f q p S1 a8::aU.box bx 118 (aL {x with aB:=[j]} (.slice (some ad) 1 c9))::aQ (.slice (some ad) 1 c9) [(j:Int)]::R)):=Lh ⟨_,hV.out,hX.out⟩;clear hV hX hc;go_loopw[24] (fun i wr=>∃k:Nat,k≤1∧i= .int .i64 k∧Hid (k=0→∃a8,VC S1 a8∧Sep w0 wr (aG f q p S1 a8::aU.box bx 118 (aL {x with aB:=[j]} (.slice (some ad) 1 c9))::aQ (.slice (some ad) 1 c9) [(j:Int)]::R))∧Hid (k=1→∃a8,VC SB a8∧Sep w0 wr (aG f q p SB a8::aU.box bx 118 (aL {x with aB:=[j]} (.slice (some ad) 1 c9))::aQ (.slice (some ad) 1 c9) [(j:Int)]::R))) (fun i _=>1-(intOf i).toNat)
 case atStart=>exact⟨0,Nat.zero_le _,rfl,Lh fun _=>hI0.out,Lh fun h=>absurd h (by decide)⟩
 obtain⟨k,hk,rfl,hI,hJ⟩:=hrel;clear hI0;by_cases hlt:k<1
 ·(have hk0':k=0:=by omega);obtain⟨a8,hC8,h8⟩:=hI.out hk0';have hcj:=hat.out _ _ _ _ h8;rw[←hk0']at hcj;(have q1:(k:Int)<1:=by omega);(have q0:(0:Int)≤k:=by omega);replace hk0':=Lh hk0';have hV:=Lh hC8;have hX:=Lh h8;clear hC8 h8 hI hJ;go_wp2_with fail;refine fZ (S:=fun w'=>w'.cell? ⟨bf,0,none⟩=some (.pointer (some ⟨f,0,none⟩))) 15 (by kernel_rfl) ?_;intro wq hwq;(have hX2:Hid (Sep w0 wq (aG f q p S1 a8::aU.box bx 118 (aL {x with aB:=[j]} (.slice (some ad) 1 c9))::aQ (.slice (some ad) 1 c9) [(j:Int)]::R)):=by rw[hwq];exact Lh hX.out.drew);clear hwq hX hcj;have hc:=(hcd.out _ _ _ _ _ hX2.out).1;simp only[List.size_toArray,List.length_cons,List.length_nil,Nat.reduceAdd];refine aA (i:=0) (v:=?_) hc rfl ?_ ?_;rotate_left
  ·rintro w e1;go_simp;try with_reducible rfl
  simp only[Act.put,gD];refine aA (i:=1) (v:=?_) hc rfl ?_ ?_;rotate_left
  ·rintro w e1;go_simp;try with_reducible rfl
  simp only[Act.put,gD];refine aA (i:=2) (v:=?_) hc rfl ?_ ?_;rotate_left
  ·rintro w e1;go_simp;try with_reducible rfl
  simp only[Act.put,gD];refine aA (i:=3) (v:=?_) hc rfl ?_ ?_;rotate_left
  ·rintro w e1;go_simp;try with_reducible rfl
  simp only[Act.put,gD];refine aA (i:=4) (v:=?_) hc rfl ?_ ?_;rotate_left
  ·rintro w e1;go_simp;try with_reducible rfl
  simp only[Act.put,gD];refine aA (i:=5) (v:=?_) hc rfl ?_ ?_;rotate_left
  ·rintro w e1;go_simp;try with_reducible rfl
  simp only[Act.put,gD];refine aA (i:=6) (v:=?_) hc rfl ?_ ?_;rotate_left
  ·rintro w e1;go_simp;try with_reducible rfl
  simp only[Act.put,gD];refine aA (i:=7) (v:=?_) hc rfl ?_ ?_;rotate_left
  ·rintro w e1;go_simp;try with_reducible rfl
  simp only[Act.put,gD];refine aA (i:=8) (v:=?_) hc rfl ?_ ?_;rotate_left
  ·rintro w e1;go_simp;try with_reducible rfl
  simp only[Act.put,gD];refine aA (i:=9) (v:=?_) hc rfl ?_ ?_;rotate_left
  ·rintro w e1;go_simp;try with_reducible rfl
  simp only[Act.put,gD];refine aA (i:=11) (v:=?_) hc rfl ?_ ?_;rotate_left
  ·rintro w e1;go_simp;try with_reducible rfl
  simp only[Act.put,gD];have hmk:(Instr.makeSlice 35 (.int .i64 512) (.int .i64 512)).run Tryz.prog wq= .ok (.slice (some ⟨wq.heap.size,0,none⟩) 512 512) (wq.alloc (.cells (madeCells #[.int .u8 0] 512) 5)):=kF (P:=Tryz.prog) 35 5 k0 (.int .u8 0) 1 Tryz.underlying35 iM hk0 hk1 hk2 rfl .i64 .i64 512 (by omega) (by unfold maxLen;omega) wq;have hS1:=hX2.out.made 5 (.int .u8 0) 512 (by unfold maxLen;omega);have h9:Hid (Sep w0 (wq.alloc (.cells (madeCells #[.int .u8 0] 512) 5)) (aH (.slice (some ⟨wq.heap.size,0,none⟩) 512 512) bB::aG f q p S1 a8::aU.box bx 118 (aL {x with aB:=[j]} (.slice (some ad) 1 c9))::aQ (.slice (some ad) 1 c9) [(j:Int)]::R)):=Lh (by rw[bE dP,wS];exact hS1);clear hS1;refine l9 (i:=10) (j:=13) (by kernel_rfl) rfl rfl (fun K hK=>?_) (fun K hK=>?_)
  focus
   go_simp
   go_at_call 120
   refine(QP.out wq a8 [] hV.out ((hX2.out.bZ [1,2,0] (by decide) (by simp)).drop 2)).mono ?_
   rintro e w6 ⟨rfl,h6⟩
   obtain rfl:=h6.symm
   dsimp only
   refine hK _ _ (fun _=>hc) ?_
   clear hK K
   try simp only[Act.put,gD]
   refine aA (i:=12) (v:=?_) hc rfl ?_ ?_
   rotate_left
   ·rintro w e1;go_simp;try with_reducible rfl
   simp only[Act.put,gD]
   refine aC (i:=13) (by kernel_rfl) rfl (fun K hK=>?_)
   go_simp
   have hc8:=(hcd.out _ _ _ _ _ (h9.out.drop 1)).1
   try dsimp only
   refine hK _ _ (fun _=>hc8) ?_
   clear hK K
   try simp only[Act.put,gD]
   clear hmk hc hc8
  rotate_left
  focus
   go_simp
   have hc8:=(hcd.out _ _ _ _ _ (h9.out.drop 1)).1
   try dsimp only
   refine hK _ _ (fun _=>hc8) ?_
   clear hK K
   try simp only[Act.put,gD]
   clear hmk hc
   refine aC (i:=10) (by kernel_rfl) rfl (fun K hK=>?_)
   go_simp
   go_at_call 120
   refine(QP.out _ a8 [] hV.out ((h9.out.bZ [0,2,3,1] (by decide) (by simp)).drop 3)).mono ?_
   rintro e w6 ⟨rfl,h6⟩
   obtain rfl:=h6.symm
   dsimp only
   refine hK _ _ (fun _=>hc8) ?_
   clear hK K
   try simp only[Act.put,gD]
   refine aA (i:=12) (v:=?_) hc8 rfl ?_ ?_
   rotate_left
   ·rintro w e1;go_simp;try with_reducible rfl
   simp only[Act.put,gD]
   clear hc8
  all_goals
   obtain⟨g,hg⟩:∃g,g=wq.heap.size:=⟨_,rfl⟩
   obtain⟨w7,hw7⟩:∃w7,w7=wq.alloc (.cells (madeCells #[.int .u8 0] 512) 5):=⟨_,rfl⟩
   rw[←hw7,←hg]at h9 ⊢
   clear hw7 hg hX2
   refine aC (i:=14) (by kernel_rfl) rfl (fun K hK=>?_)
   go_simp
   go_at_call 88
   refine(QK.out _ _ _ _ _ hV.out h9.out).mono ?_
   rintro e w5 ⟨rfl,a5,VL,h5⟩
   have YA:=(hcd.out _ _ _ _ _ h5).1
   replace VL:=Lh VL
   replace h5:=Lh h5
   dsimp only
   refine hK _ _ (fun _=>YA) ?_
   clear hK K
   try simp only[Act.put,gD]
   refine aO (by kernel_rfl) ?_ _
   clear h9 hV YA
   go_wp2_with fail
   exact⟨⟨k+1,by omega,rfl,Lh fun h=>absurd h (by omega),Lh fun _=>⟨_,VL.out,h5.out⟩⟩,by simp[intOf];omega⟩
 obtain rfl:k=1:=by omega
 obtain⟨a8,hC8,h8⟩:=hJ.out rfl;have hc:=hcd.out _ _ _ _ _ h8.drew;have tH:=hkp.out _ _ _ _ hC8 h8.drew;clear hC8 h8 hI hJ;go_wp2_with fail;refine aN (S:=fun w'=>w'.cell? ⟨bf,0,none⟩=some (.pointer (some ⟨f,0,none⟩))∧w'.cell? ⟨bd,0,none⟩=some (.int .i64 dir)∧w'.cell? ⟨bp,0,none⟩=some (.string ⟨path.toArray⟩)∧w'.cell? ⟨bx,0,none⟩=some (.int .i64 1)∧w'.cell? ⟨bx,1,none⟩=some (.int .i64 (x.mode:Nat))∧w'.cell? ⟨bx,2,none⟩=some (.int .i64 (x.links:Nat))∧w'.cell? ⟨bx,3,none⟩=some (.int .i64 (x.size:Nat))∧w'.cell? ⟨bx,4,none⟩=some (.slice (some ad) 1 c9)) 7 (by kernel_rfl) ?_;simp only[List.size_toArray,List.length_cons,List.length_nil,Nat.reduceAdd];refine aA (i:=0) (v:=?_) hc rfl ?_ ?_;rotate_left
 ·rintro w ⟨e1,e2,e3,e4,e5,e6,e7,e8⟩;go_simp;try with_reducible rfl
 simp only[Act.put,gD];refine aA (i:=1) (v:=?_) hc rfl ?_ ?_;rotate_left
 ·rintro w ⟨e1,e2,e3,e4,e5,e6,e7,e8⟩;go_simp;try with_reducible rfl
 simp only[Act.put,gD];refine aA (i:=2) (v:=?_) hc rfl ?_ ?_;rotate_left
 ·rintro w ⟨e1,e2,e3,e4,e5,e6,e7,e8⟩;go_simp;try with_reducible rfl
 simp only[Act.put,gD];refine aA (i:=3) (v:=?_) hc rfl ?_ ?_;rotate_left
 ·rintro w ⟨e1,e2,e3,e4,e5,e6,e7,e8⟩;go_simp;try with_reducible rfl
 simp only[Act.put,gD];refine aA (i:=4) (v:=?_) hc rfl ?_ ?_;rotate_left
 ·rintro w ⟨e1,e2,e3,e4,e5,e6,e7,e8⟩;go_simp;try with_reducible rfl
 simp only[Act.put,gD];refine aA (i:=5) (v:=?_) hc rfl ?_ ?_;rotate_left
 ·rintro w ⟨e1,e2,e3,e4,e5,e6,e7,e8⟩;go_simp;try with_reducible rfl
 simp only[Act.put,gD];refine aC (i:=6) (by kernel_rfl) rfl (fun K hK=>?_);go_simp;go_at_call 90;refine tH.mono ?_;rintro e w7 ⟨rfl,aK,hCK,h7⟩;clear hc tH;have hc7:=hcd.out _ _ _ _ _ h7;have hV:=Lh hCK;have hX:Hid (Sep w0 w7 (aG f q p SD aK::R)):=Lh ((h7.bZ [1,2,0] (by decide) (by simp)).drop 2);clear hCK h7;dsimp only;refine hK _ _ (fun _=>hc7) ?_;clear hK K;try simp only[Act.put,gD]
 refine aO (by kernel_rfl) ?_ _;have hc0:=hc7.2.2.2.1;clear hc7;go_wp2_with fail;clear hc0;have hc:=hR.out w7.drew [_] hX.out.drew;refine aN (S:=fun w'=>w'.cell? ⟨bf,0,none⟩=some (.pointer (some ⟨f,0,none⟩))∧w'.cell? ⟨bd,0,none⟩=some (.int .i64 dir)∧w'.cell? ⟨bp,0,none⟩=some (.string ⟨path.toArray⟩)) 8 (by kernel_rfl) ?_;simp only[List.size_toArray,List.length_cons,List.length_nil,Nat.reduceAdd];refine aA (i:=0) (v:=?_) hc rfl ?_ ?_;rotate_left
 ·rintro w ⟨e1,e2,e3⟩;go_simp;try with_reducible rfl
 simp only[Act.put,gD];refine aA (i:=1) (v:=?_) hc rfl ?_ ?_;rotate_left
 ·rintro w ⟨e1,e2,e3⟩;go_simp;try with_reducible rfl
 simp only[Act.put,gD];refine aA (i:=2) (v:=?_) hc rfl ?_ ?_;rotate_left
 ·rintro w ⟨e1,e2,e3⟩;go_simp;try with_reducible rfl
 simp only[Act.put,gD];refine aA (i:=3) (v:=?_) hc rfl ?_ ?_;rotate_left
 ·rintro w ⟨e1,e2,e3⟩;go_simp;try with_reducible rfl
 simp only[Act.put,gD];refine aA (i:=4) (v:=?_) hc rfl ?_ ?_;rotate_left
 ·rintro w ⟨e1,e2,e3⟩;go_simp;try with_reducible rfl
 simp only[Act.put,gD];refine aA (i:=6) (v:=?_) hc rfl ?_ ?_;rotate_left
 ·rintro w ⟨e1,e2,e3⟩;go_simp;try with_reducible rfl
 simp only[Act.put,gD];refine aC (i:=5) (by kernel_rfl) rfl (fun K hK=>?_);go_simp;go_at_call 101;refine(aaS.out _).mono ?_;rintro e v9 ⟨rfl,VK⟩;replace hX:=Lh (hX.out.drew.pure VK);have lT:=hR.out v9 [_] hX.out;clear hc VK;dsimp only;refine hK _ _ (fun _=>lT) ?_;clear hK K;try simp only[Act.put,gD]
 refine aC (i:=7) (by kernel_rfl) rfl (fun K hK=>?_);go_simp;go_at_call 104;refine(hen.out _ _ hV.out hX.out).mono ?_;intro e v8 ho;cases rX with
 |none=>unfold fA at ho;obtain⟨rfl,T,aT,hLT,hCT,hT⟩:=ho;unfold fA;exact⟨rfl,rfl,T,aT,II.out.trans hLT,hCT,hT⟩
 |some T=>
  unfold fA at ho;obtain⟨rfl,aT,hCT,hT⟩:=ho;have hc8:=hR.out v8 [_] hT;dsimp only;refine hK _ _ (fun _=>hc8) ?_;clear hK K;(try simp only[Act.put,gD]);refine aO (by kernel_rfl) ?_ _
  go_end0
  unfold fA;exact⟨rfl,aT,hCT,hT⟩
end
end Go.Proofs.YteihmbaimbogaaaGreat
