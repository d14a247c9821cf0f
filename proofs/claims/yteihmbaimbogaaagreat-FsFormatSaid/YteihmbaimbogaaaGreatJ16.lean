/- FyA, FtM, FtN, laid together. -/
import Derived.Test.YteihmbaimbogaaaGreatJ15
namespace Go.Proofs.YteihmbaimbogaaaGreat
open Go.RowKit
set_option linter.unusedVariables false
set_option linter.unusedSimpArgs false
section
variable {P:Program} {ops:Array Oper} {Q:Exit→Act→World→Prop} {S:World→Prop} {z:Nat} {md:Region.Mode}
theorem wpE_sk {i:Nat} {oi:Oper} {f:Nat} {l:Array Bool} {a:Act} {w:World} (hS:S w) (hi:ops[i]? =some oi)
  (h:wpE P md ops Q S z f (l.setIfInBounds i true) (a.put oi.dst undef) w) (hz:lastB md ops z i=true:=by kernel_rfl) (hs:Region.noSelect ops=true:=by kernel_rfl) (hf:Region.free md ops l i=true:=by kernel_rfl) (hr:(Region.ready md ops l).contains i=true:=by kernel_rfl)
  (hw:Region.wanted oi (yielded ops a.tmps)=false:=by kernel_rfl) (hQ:∀c a w,Q (.panic c) (a.put oi.dst undef) w→Q (.panic c) a w:=by exact fun _ _ _ h=>h):wpE P md ops Q S z (f+1) l a w:=
 wpE_take hi hz hs hf hr hQ (Or.inr ⟨hw,rfl⟩) hS h
end
def wayN (bs:List UInt8) (n:Nat):List Int:=(List.range n).map fun i=>(getB bs (22+2*i) 2:Int)
def wayP (bs:List UInt8):Option (List Int):=
 if bs.take 16=markL∧(getB bs 16 4:Int)=crcI (bs.drop 20)then(if 40<getB bs 20 2 then none else some (wayN bs (getB bs 20 2)))else none
theorem wayN_len (bs:List UInt8) (n:Nat):(wayN bs n).length=n:=by simp[wayN]
section
variable {w0 w:World} {R:List Asn}
def wayOut (v:Value) (bs:List UInt8) (w0:World) (R:List Asn) (e:Ending) (w':World):Prop:=match wayP bs with
 |none=>e= .returned (.tuple #[.slice none 0 0,.bool false])∧Sep w0 w' (bytesR v bs::R)
 |some l=>∃u,e= .returned (.tuple #[u,.bool true])∧Sep w0 w' (intsR u l::bytesR v bs::R)
set_option maxRecDepth 100000 in
set_option maxHeartbeats 8000000 in
theorem way_any {v:Value} {bs:List UInt8} (hl:bs.length=512) (h:Sep w0 w (bytesR v bs::R)):Calls Tryz.prog 132 #[v] w (wayOut v bs w0 R):=by
 obtain⟨g,cap,rfl,_,_,hc,hcm⟩:=h.sl_form 0 rfl (by rw[hl];decide);rw[hl]at hc;have hby:∀W,Sep w0 W (bytesR (.slice (some ⟨g,0,none⟩) bs.length cap) bs::R)→BytesAt W (.slice (some ⟨g,0,none⟩) 512 cap) bs:=fun W hW=>by have:=hW.rd 0 rfl;rw[←hl];exact this
 have hby2:∀W,Sep w0 W (bytesR (.slice (some ⟨g,0,none⟩) bs.length cap) bs::R)→(convert 35 9 (.slice (some ⟨g,0,none⟩) 16 cap)).run Tryz.prog W= .ok (.string ⟨(bs.take 16).toArray⟩) W:=fun W hW=>by have:=conv_bytesV ((hby W hW).sub (o:=0) (m:=16) (by omega));exact this
 have hcr:Hid (∀W,Sep w0 W (bytesR (.slice (some ⟨g,0,none⟩) bs.length cap) bs::R)→Calls Tryz.prog 171 #[.slice (some ⟨g,20,none⟩) 492 (cap-20)] W fun e w'=>e= .returned (.int .i64 (crcI (bs.drop 20)))∧Sep w0 w' (bytesR (.slice (some ⟨g,0,none⟩) bs.length cap) bs::R)):=Lh fun W hW=>by have h1:=(hby W hW).sub (o:=20) (m:=492) (by omega);rw[List.take_of_length_le (by rw[List.length_drop];omega)]at h1;exact(crc_any h1 (by rw[List.length_drop];omega)).mono fun e w' ⟨h2,h3⟩=>⟨h2,hW.pure h3⟩
 have hge:Hid (∀(i k:Nat) W,i+k≤512→k≤7→Sep w0 W (bytesR (.slice (some ⟨g,0,none⟩) bs.length cap) bs::R)→Calls Tryz.prog 170 #[.slice (some ⟨g,0,none⟩) 512 cap,.int .i64 i,.int .i64 k] W fun e w'=>e= .returned (.int .i64 (getB bs i k))∧w'=W):=Lh fun i k W hi hk hW=>
  get_any (hby W hW) (by omega) hk (by omega)
 have p16:(16:Int)≤(cap:Int):=by omega
 have h1:=Lh h;have hX:=h.drew;have hcv:=hby2 _ hX;have hX':=Lh hX;obtain⟨X,hXe⟩:∃X,X=bytesR (.slice (some ⟨g,0,none⟩) bs.length cap) bs::R:=⟨_,rfl⟩;unfold wayOut wayP;rw[hl]at*;by_cases hm:bs.take 16=markL
 case neg=>
  rw[if_neg (fun e=>hm e.1)];(have e2:(bs.take 16==[115,104,117,110,116,45,108,101,100,103,101,114,45,49,33,10])=false:=by rw[Bool.eq_false_iff];intro e;exact hm (eq_of_beq e));clear hm hX hge hcr hby hby2 h;go_enter Tryz.func132,Tryz.ntmps132;go_wp2_with fail;refine wp_noPanic ?_;refine wp_region_E (S:=fun W=>(convert 35 9 (.slice (some ⟨g,0,none⟩) 16 cap)).run Tryz.prog W= .ok (.string ⟨(bs.take 16).toArray⟩) W) 12 (by kernel_rfl) ?_;simp only[List.size_toArray,List.length_cons,List.length_nil,Nat.reduceAdd];refine wpE_tk (i:=0) (v:=?_) hcv rfl ?_ ?_;rotate_left
  ·rintro w e1;go_simp;try with_reducible rfl
  simp only[Act.put,gD];refine wpE_tk (i:=1) (v:=?_) hcv rfl ?_ ?_;rotate_left
  ·rintro w e1;go_simp;try with_reducible rfl
  simp only[Act.put,gD];refine wpE_tk (i:=2) (v:=?_) hcv rfl ?_ ?_;rotate_left
  ·rintro w e1;go_simp;try with_reducible rfl
  simp only[Act.put,gD];refine wpE_tk (i:=3) (v:=?_) hcv rfl ?_ ?_;rotate_left
  ·rintro w e1;go_simp;try with_reducible rfl
  simp only[Act.put,gD];refine wpE_tk (i:=4) (v:=?_) hcv rfl ?_ ?_;rotate_left
  ·rintro w e1;go_simp;try with_reducible rfl
  simp only[Act.put,gD];refine wpE_sk (i:=5) hcv rfl ?_;simp only[Act.put,gD];refine wpE_sk (i:=6) hcv rfl ?_;simp only[Act.put,gD];refine wpE_sk (i:=7) hcv rfl ?_;simp only[Act.put,gD];refine wpE_sk (i:=8) hcv rfl ?_;simp only[Act.put,gD];refine wpE_sk (i:=9) hcv rfl ?_;simp only[Act.put,gD];refine wpE_sk (i:=10) hcv rfl ?_;simp only[Act.put,gD];refine wpE_one (i:=11) (by kernel_rfl) rfl (fun K hK=>?_);go_simp;refine hK _ _ (fun _=>hcv) ?_;clear hK K;(try simp only[Act.put,gD]);refine wpE_done (by kernel_rfl) ?_ _;simp only[noPanic];go_wp2_with fail
  go_ret2
  exact⟨rfl,h1.out.drew⟩
 have hmL:bs.take 16=[115,104,117,110,116,45,108,101,100,103,101,114,45,49,33,10]:=hm;obtain⟨G,hG⟩:∃G,G=getB bs 16 4:=⟨_,rfl⟩;obtain⟨C,hC⟩:∃C,C=crcI (bs.drop 20):=⟨_,rfl⟩;obtain⟨N,hN⟩:∃N,N=getB bs 20 2:=⟨_,rfl⟩;have hNlt:N<65536:=by rw[hN];exact getB_lt bs 20 2
 have hg1:=hge.out 16 4 _ (by decide) (by decide) hX;have hg2:Hid (∀W,Sep w0 W (bytesR (.slice (some ⟨g,0,none⟩) 512 cap) bs::R)→Calls Tryz.prog 170 #[.slice (some ⟨g,0,none⟩) 512 cap,.int .i64 20,.int .i64 2] W fun e w'=>e= .returned (.int .i64 N)∧w'=W):=Lh fun W hW=>by have:=hge.out 20 2 W (by decide) (by decide) hW;rw[←hN]at this;exact this
 have hg3:Hid (∀W (k:Nat),k<240→Sep w0 W (bytesR (.slice (some ⟨g,0,none⟩) 512 cap) bs::R)→Calls Tryz.prog 170 #[.slice (some ⟨g,0,none⟩) 512 cap,.int .i64 (22+2*(k:Int)),.int .i64 2] W fun e w'=>e= .returned (.int .i64 (getB bs (22+2*k) 2))∧w'=W):=Lh fun W k hk hW=>by have:=hge.out (22+2*k) 2 W (by omega) (by decide) hW;(have e:((22+2*k:Nat):Int)=22+2*(k:Int):=by omega);rw[e]at this;exact this
 rw[←hG,←hC,←hN];rw[←hG]at hg1;simp only[←hC]at hcr;rw[hmL]at hcv hby2;have hby2':=Lh hby2;have hm':=Lh hm;clear hX hge hby hby2 h hm hmL hG hC hN;have p20:¬cap=20:=by omega
 by_cases hq:(G:Int)=C
 case neg=>
  rw[if_neg (fun e=>hq e.2)];(have hq2:((G:Int)==C)=false:=by simpa using hq);clear hg2 hg3;go_enter Tryz.func132,Tryz.ntmps132;go_wp2_with fail;refine wp_noPanic ?_;refine wp_region_E (S:=fun W=>(convert 35 9 (.slice (some ⟨g,0,none⟩) 16 cap)).run Tryz.prog W= .ok (.string ⟨#[115,104,117,110,116,45,108,101,100,103,101,114,45,49,33,10]⟩) W) 12 (by kernel_rfl) ?_;simp only[List.size_toArray,List.length_cons,List.length_nil,Nat.reduceAdd];refine wpE_tk (i:=0) (v:=?_) hcv rfl ?_ ?_;rotate_left
  ·rintro w e1;go_simp;try with_reducible rfl
  simp only[Act.put,gD];refine wpE_tk (i:=1) (v:=?_) hcv rfl ?_ ?_;rotate_left
  ·rintro w e1;go_simp;try with_reducible rfl
  simp only[Act.put,gD];refine wpE_tk (i:=2) (v:=?_) hcv rfl ?_ ?_;rotate_left
  ·rintro w e1;go_simp;try with_reducible rfl
  simp only[Act.put,gD];refine wpE_tk (i:=3) (v:=?_) hcv rfl ?_ ?_;rotate_left
  ·rintro w e1;go_simp;try with_reducible rfl
  simp only[Act.put,gD];refine wpE_tk (i:=4) (v:=?_) hcv rfl ?_ ?_;rotate_left
  ·rintro w e1;go_simp;try with_reducible rfl
  simp only[Act.put,gD];refine wpE_tk (i:=5) (v:=?_) hcv rfl ?_ ?_;rotate_left
  ·rintro w e1;go_simp;try with_reducible rfl
  simp only[Act.put,gD];refine wpE_tk (i:=7) (v:=?_) hcv rfl ?_ ?_;rotate_left
  ·rintro w e1;go_simp;try with_reducible rfl
  simp only[Act.put,gD];refine wpE_tk (i:=8) (v:=?_) hcv rfl ?_ ?_;rotate_left
  ·rintro w e1;go_simp;try with_reducible rfl
  simp only[Act.put,gD];refine wpE_one (i:=6) (by kernel_rfl) rfl (fun K hK=>?_);go_simp;go_at_call 170;refine hg1.mono ?_;rintro e w9 ⟨rfl,rfl⟩;refine hK _ _ (fun _=>hcv) ?_;clear hK K;(try simp only[Act.put,gD]);refine wpE_one (i:=9) (by kernel_rfl) rfl (fun K hK=>?_);go_simp;go_at_call 171;refine(hcr.out _ hX'.out).mono ?_;rintro e w9 ⟨rfl,hS9⟩;have hcv9:=hby2'.out _ hS9;have h9:=Lh hS9;clear hS9 hcv;refine hK _ _ (fun _=>hcv9) ?_;clear hK K;(try simp only[Act.put,gD]);refine wpE_one (i:=10) (by kernel_rfl) rfl (fun K hK=>?_);go_simp;refine hK _ _ (fun _=>hcv9) ?_;clear hK K;(try simp only[Act.put,gD]);refine wpE_one (i:=11) (by kernel_rfl) rfl (fun K hK=>?_);go_simp;refine hK _ _ (fun _=>hcv9) ?_;clear hK K;(try simp only[Act.put,gD]);refine wpE_done (by kernel_rfl) ?_ _;simp only[noPanic];clear hcv9 hby2' hcr hX' hg1;go_wp2_with fail
  go_ret2
  exact⟨rfl,h9.out⟩
 rw[if_pos ⟨hm'.out,hq⟩];have hq2:((G:Int)==C)=true:=by simpa using hq
 clear hq;by_cases h40:40<N
 case pos=>
  rw[if_pos h40];(have h40':(40:Int)<N:=by omega);go_enter Tryz.func132,Tryz.ntmps132;go_wp2_with fail;refine wp_noPanic ?_;refine wp_region_E (S:=fun W=>(convert 35 9 (.slice (some ⟨g,0,none⟩) 16 cap)).run Tryz.prog W= .ok (.string ⟨#[115,104,117,110,116,45,108,101,100,103,101,114,45,49,33,10]⟩) W) 12 (by kernel_rfl) ?_;simp only[List.size_toArray,List.length_cons,List.length_nil,Nat.reduceAdd];refine wpE_tk (i:=0) (v:=?_) hcv rfl ?_ ?_;rotate_left
  ·rintro w e1;go_simp;try with_reducible rfl
  simp only[Act.put,gD];refine wpE_tk (i:=1) (v:=?_) hcv rfl ?_ ?_;rotate_left
  ·rintro w e1;go_simp;try with_reducible rfl
  simp only[Act.put,gD];refine wpE_tk (i:=2) (v:=?_) hcv rfl ?_ ?_;rotate_left
  ·rintro w e1;go_simp;try with_reducible rfl
  simp only[Act.put,gD];refine wpE_tk (i:=3) (v:=?_) hcv rfl ?_ ?_;rotate_left
  ·rintro w e1;go_simp;try with_reducible rfl
  simp only[Act.put,gD];refine wpE_tk (i:=4) (v:=?_) hcv rfl ?_ ?_;rotate_left
  ·rintro w e1;go_simp;try with_reducible rfl
  simp only[Act.put,gD];refine wpE_tk (i:=5) (v:=?_) hcv rfl ?_ ?_;rotate_left
  ·rintro w e1;go_simp;try with_reducible rfl
  simp only[Act.put,gD];refine wpE_tk (i:=7) (v:=?_) hcv rfl ?_ ?_;rotate_left
  ·rintro w e1;go_simp;try with_reducible rfl
  simp only[Act.put,gD];refine wpE_tk (i:=8) (v:=?_) hcv rfl ?_ ?_;rotate_left
  ·rintro w e1;go_simp;try with_reducible rfl
  simp only[Act.put,gD];refine wpE_one (i:=6) (by kernel_rfl) rfl (fun K hK=>?_);go_simp;go_at_call 170;refine hg1.mono ?_;rintro e w9 ⟨rfl,rfl⟩;refine hK _ _ (fun _=>hcv) ?_;clear hK K;(try simp only[Act.put,gD]);refine wpE_one (i:=9) (by kernel_rfl) rfl (fun K hK=>?_);go_simp;go_at_call 171;refine(hcr.out _ hX'.out).mono ?_;rintro e w9 ⟨rfl,hS9⟩;have hcv9:=hby2'.out _ hS9;have h9:=Lh hS9;clear hS9 hcv;refine hK _ _ (fun _=>hcv9) ?_;clear hK K;(try simp only[Act.put,gD]);refine wpE_one (i:=10) (by kernel_rfl) rfl (fun K hK=>?_);go_simp;refine hK _ _ (fun _=>hcv9) ?_;clear hK K;(try simp only[Act.put,gD]);refine wpE_one (i:=11) (by kernel_rfl) rfl (fun K hK=>?_);go_simp;refine hK _ _ (fun _=>hcv9) ?_;clear hK K;(try simp only[Act.put,gD]);refine wpE_done (by kernel_rfl) ?_ _;simp only[noPanic];clear hcv9 hby2' hcr hX' hg1;go_wp2_with(first |(go_at_call 170;refine(hg2.out _ h9.out).mono ?_;rintro e w8 ⟨rfl,rfl⟩))
  go_ret2
  exact⟨rfl,h9.out⟩
 rw[if_neg h40];have h40':¬(40:Int)<N:=by omega
 go_enter Tryz.func132,Tryz.ntmps132;go_wp2_with fail;refine wp_noPanic ?_;refine wp_region_E (S:=fun W=>(convert 35 9 (.slice (some ⟨g,0,none⟩) 16 cap)).run Tryz.prog W= .ok (.string ⟨#[115,104,117,110,116,45,108,101,100,103,101,114,45,49,33,10]⟩) W) 12 (by kernel_rfl) ?_;simp only[List.size_toArray,List.length_cons,List.length_nil,Nat.reduceAdd];refine wpE_tk (i:=0) (v:=?_) hcv rfl ?_ ?_;rotate_left
 ·rintro w e1;go_simp;try with_reducible rfl
 simp only[Act.put,gD];refine wpE_tk (i:=1) (v:=?_) hcv rfl ?_ ?_;rotate_left
 ·rintro w e1;go_simp;try with_reducible rfl
 simp only[Act.put,gD];refine wpE_tk (i:=2) (v:=?_) hcv rfl ?_ ?_;rotate_left
 ·rintro w e1;go_simp;try with_reducible rfl
 simp only[Act.put,gD];refine wpE_tk (i:=3) (v:=?_) hcv rfl ?_ ?_;rotate_left
 ·rintro w e1;go_simp;try with_reducible rfl
 simp only[Act.put,gD];refine wpE_tk (i:=4) (v:=?_) hcv rfl ?_ ?_;rotate_left
 ·rintro w e1;go_simp;try with_reducible rfl
 simp only[Act.put,gD];refine wpE_tk (i:=5) (v:=?_) hcv rfl ?_ ?_;rotate_left
 ·rintro w e1;go_simp;try with_reducible rfl
 simp only[Act.put,gD];refine wpE_tk (i:=7) (v:=?_) hcv rfl ?_ ?_;rotate_left
 ·rintro w e1;go_simp;try with_reducible rfl
 simp only[Act.put,gD];refine wpE_tk (i:=8) (v:=?_) hcv rfl ?_ ?_;rotate_left
 ·rintro w e1;go_simp;try with_reducible rfl
 simp only[Act.put,gD];refine wpE_one (i:=6) (by kernel_rfl) rfl (fun K hK=>?_);go_simp;go_at_call 170;refine hg1.mono ?_;rintro e w9 ⟨rfl,rfl⟩;refine hK _ _ (fun _=>hcv) ?_;clear hK K;try simp only[Act.put,gD]
 refine wpE_one (i:=9) (by kernel_rfl) rfl (fun K hK=>?_);go_simp;go_at_call 171;refine(hcr.out _ hX'.out).mono ?_;rintro e w9 ⟨rfl,hS9⟩;have hcv9:=hby2'.out _ hS9;have h9:=Lh hS9;clear hS9 hcv;refine hK _ _ (fun _=>hcv9) ?_;clear hK K;try simp only[Act.put,gD]
 refine wpE_one (i:=10) (by kernel_rfl) rfl (fun K hK=>?_);go_simp;refine hK _ _ (fun _=>hcv9) ?_;clear hK K;try simp only[Act.put,gD]
 refine wpE_one (i:=11) (by kernel_rfl) rfl (fun K hK=>?_);go_simp;refine hK _ _ (fun _=>hcv9) ?_;clear hK K;try simp only[Act.put,gD]
 refine wpE_done (by kernel_rfl) ?_ _;simp only[noPanic];clear hcv9 hby2' hcr hX' hg1;go_wp2_with(first |(go_at_call 170;refine(hg2.out _ h9.out).mono ?_;rintro e w8 ⟨rfl,rfl⟩));go_loopw[24,4] (fun iv x wr=>∃(k:Nat),k≤N∧iv= .int .i64 k∧Hid (Sep w0 wr (intsR x (wayN bs k)::bytesR (.slice (some ⟨g,0,none⟩) 512 cap) bs::R))) (fun iv _ _=>N-(intOf iv).toNat)
 case atStart=>exact⟨0,Nat.zero_le _,rfl,Lh (intsR_nil h9.out)⟩
 clear h9;obtain⟨k,hk,rfl,hS⟩:=hrel;by_cases hlt:k<N
 ·(have q1:(k:Int)<N:=by omega);(have q0:(0:Int)≤k:=by omega);have hg3':=hg3.out wr k (by omega) (Sep.drop 1 hS.out);obtain⟨G2,hG2⟩:∃G2,G2=getB bs (22+2*k) 2:=⟨_,rfl⟩;have hG2':=Lh hG2;rw[←hG2]at hg3';have w1:IntKind.i64.wrap (2*(k:Int))=2*(k:Int):=IntWalk.i64_in _ (by omega);have w2:IntKind.i64.wrap (22+2*(k:Int))=22+2*(k:Int):=IntWalk.i64_in _ (by omega);have hfl:(Tryz.prog.info? 3).map (fun i=>(i.zero,i.size,i.bytes))=some (some (.int .i64 0),1,8):=info_int;obtain⟨k0,hknf,hk0,hk1,hk2⟩:=info_of hfl;have hSB:Hid (Sep w0 (wr.alloc (.cells #[.int .i64 (G2:Nat)] 3)) (.sl 3 1 u4 k ((wayN bs k).map (.int .i64))::bytesR (.slice (some ⟨g,0,none⟩) 512 cap) bs::R)):=Lh (by have:=hS.out.alloc (.cells #[.int .i64 (G2:Nat)] 3);unfold intsR at this;rw[wayN_len]at this;exact this);have hrd:Hid (Rd (wr.alloc (.cells #[.int .i64 (G2:Nat)] 3)) 1 (.slice (some ⟨wr.heap.size,0,none⟩) 1 1) 1 [.int .i64 (G2:Nat)]):=Lh ⟨rfl,_,_,rfl,Nat.le_refl _,by unfold maxLen;omega,fun _=>⟨_,rfl,by simp,cells_new wr #[.int .i64 (G2:Nat)] _ _ rfl⟩⟩;clear hS hG2 hg3 hfl hg2;go_wp2_with(first |(go_at_call 170;refine hg3'.mono ?_;rintro e w8 ⟨rfl,rfl⟩)|(at_builtin;refine wpList_append_any_sep 0 rfl _ _ 61 rfl 3 k0 (.int .i64 0) 1 8 Tryz.underlying61 hknf hk0 hk1 hk2 rfl (by decide) hSB.out u4 k _ rfl rfl (.slice (some ⟨w8.heap.size,0,none⟩) 1 1) 1 [.int .i64 (G2:Nat)] rfl hrd.out (by simp[Value.oneCell']) (by unfold maxLen;omega) (by omega) ?_;intro v3 w3 hS3 hz3));refine⟨⟨k+1,by omega,by go_num,Lh ?_⟩,?_⟩
  ·(have e9:wayN bs (k+1)=wayN bs k++[(G2:Int)]:=by unfold wayN;rw[List.range_succ,List.map_append,hG2'.out];rfl);rw[e9];unfold intsR;rw[List.length_append,wayN_len,List.map_append];exact hS3
  (show N-((k:Int)+1).toNat<N-((k:Int)).toNat);omega
 obtain rfl:N=k:=by omega
 have q1:¬(N:Int)<(N:Int):=by omega
 clear hg2 hg3;go_wp2_with fail
 go_ret2
 exact⟨_,rfl,hS.out⟩
end
def entE (name:List UInt8) (n:Nat):List UInt8:=layB (layB ((List.replicate 32 (0:UInt8)).set 0 (UInt8.ofNat name.length)) 1 name) 16 (w2 n)
theorem entE_len {name:List UInt8} {n:Nat} (h:name.length≤15):(entE name n).length=32:=by
 unfold entE;have h1:(layB ((List.replicate 32 (0:UInt8)).set 0 (UInt8.ofNat name.length)) 1 name).length=32:=by
  rw[layB_len]
  ·simp
  simp;omega
 rw[layB_len (by rw[h1,w2_len];omega),h1]
def VS.setE (S:VS) (s i:Nat) (name:List UInt8) (n:Nat):VS:=S.put (S.data+s) (layB (bk S.cur (S.data+s)) (i%16*32) (entE name n))
section
variable {w0 w:World} {R:List Asn} {f q p:Nat} {S:VS} {a:VA}
set_option maxRecDepth 100000 in
set_option maxHeartbeats 2000000 in
theorem set_any {x:VI} {v:Value} {i s n:Nat} {name:List UInt8} (hC:VC S a) (hF:VF S) (hv:intsT w0 R v x.spots) (hi:x.spots[i/16]? =some s) (hs:s<S.count) (hx:x.spots.length≤28) (hname:name.length≤15) (hn:n≤65535) (h:Sep w0 w (volR f q p S a::R)):
  Calls Tryz.prog 151 #[.pointer (some ⟨f,0,none⟩),infoV x v,.int .i64 i,strV name,.int .i64 n] w fun e w'=>e= .returned (.tuple #[])∧∃a',VC (S.setE s i name n) a'∧Sep w0 w' (volR f q p (S.setE s i name n) a'::R):=by
 have hd4:S.data+s<S.nb-96:=by unfold VS.count at hs;omega
 have hlen:=bk_len hC.cur hd4;obtain⟨k,hk⟩:∃k,k=S.data+s:=⟨_,rfl⟩;obtain⟨b,hb⟩:∃b,b=bk S.cur k:=⟨_,rfl⟩;obtain⟨o,ho⟩:∃o,o=i%16*32:=⟨_,rfl⟩;have ho4:o+32≤512:=by omega
 have hset:S.setE s i name n=S.put k (layB b o (entE name n)):=by unfold VS.setE;rw[hb,hk,ho]
 rw[hset];rw[←hk]at hd4 hlen;rw[←hb]at hlen;have k4:k≤4096:=by have:=hC.dok.few;omega
 obtain⟨A0,c0,hv0⟩:∃A c,v= .slice A x.spots.length c:=by obtain⟨_,A,c,e,_⟩:=hv w [_] h;exact⟨A,c,e⟩
 have h0:Sep w0 (w.alloc (.cells (infoC x v) 118)) (volR f q p S a:: .box w.heap.size 118 (infoC x v)::R):=(h.bN _ _).perm (List.Perm.swap _ _ _);have hsp:=spot_any hC hF (hv.cons (A:=.box w.heap.size 118 (infoC x v))) hi hs hx h0;rw[←hk,←ho]at hsp;obtain⟨m,hm⟩:∃m,m=name.length:=⟨_,rfl⟩;have hyl:∀ys:List UInt8,ys.length=32→(layB b o ys).length=512:=fun ys hy=>by rw[layB_len (by rw[hlen,hy];omega)];exact hlen
 have hgt:Hid (∀W,Below (w.alloc (.cells (infoC x v) 118)).heap.size (w.alloc (.cells (infoC x v) 118)) W→Calls Tryz.prog 79 #[.pointer (some ⟨f,0,none⟩),.int .i64 k] W fun e w'=>∃g c a',e= .returned (.slice (some ⟨g,0,none⟩) 512 c)∧512≤c∧VC S a'∧
   ∃w1,(Builtin.clear_ #[35] 0 #[.slice (some ⟨g,o,none⟩) 32 (c-o)]).run Tryz.prog w'= .ok (.tuple #[]) w1∧w1.cell? ⟨g,o,none⟩=some (.int .u8 0)∧w1.frozen? ⟨g,o,none⟩=false∧
   ∃w2,(Builtin.copy_ #[35,9] 3 #[.slice (some ⟨g,o+1,none⟩) (511-o) (c-(o+1)),strV name]).run Tryz.prog (w1.setCell ⟨g,o,none⟩ (.int .u8 ((m:Nat):Int)))= .ok (goInt (m:Nat)) w2∧
   Calls Tryz.prog 87 #[.slice (some ⟨g,0,none⟩) 512 c,.int .i64 (o+16:Nat),.int .i64 n] w2 fun e w3=>e= .returned (.tuple #[])∧
    Calls Tryz.prog 88 #[.pointer (some ⟨f,0,none⟩),.int .i64 k,.slice (some ⟨g,0,none⟩) 512 c] w3 fun e w4=>e= .returned (.tuple #[])∧∃a',VC (S.put k (layB b o (entE name n))) a'∧Sep w0 w4 (volR f q p (S.put k (layB b o (entE name n))) a'::R)):=Lh fun W hW=>by
  refine(get_blk hC hd4 (h0.pure hW)).mono ?_
  rintro e w' ⟨u,a',rfl,hR,hG⟩
  obtain⟨g,c,rfl,hc,hS⟩:=hG.out.blk_form (by rw[←hb];exact hlen)
  rw[←hb]at hS
  refine⟨g,c,a',rfl,hc.1,hR.ok,?_⟩
  obtain⟨w1,hcl,h1,_⟩:=hS.clear_run (P:=Tryz.prog) 0 rfl 35 0 (.int .u8 0) Tryz.underlying35 (fun w=>by kernel_rfl) (by rfl) (by rfl) o 32 (c-o) (by omega)
  have e1:(layB b o (List.replicate 32 0)).map byt=layC (b.map byt) o (List.replicate 32 (.int .u8 0)):=by unfold layB layC;simp only[List.map_append,List.map_take,List.map_drop,List.map_replicate,List.length_replicate];rfl
  have h1':Sep w0 w1 (.sl 5 1 (.slice (some ⟨g,0,none⟩) 512 c) 512 ((layB b o (List.replicate 32 0)).map byt)::volO f q p S a' k:: .box w.heap.size 118 (infoC x v)::R):=by rw[e1];exact h1
  have hc1:=h1'.blk_byte (R:=[]) 0 rfl (hyl _ (by simp)) o (by omega)
  have hz:((layB b o (List.replicate 32 0)).getD o 0).toNat=0:=by rw[gH,layB_get (by rw[hlen,List.length_replicate];omega),if_pos ⟨by omega,by rw[List.length_replicate];omega⟩,Nat.sub_self];rfl
  rw[hz]at hc1
  refine⟨w1,hcl,hc1,h1'.frozenAt 0 rfl _,?_⟩
  have h2:=h1'.stored 0 rfl o (.int .u8 ((m:Nat):Int))
  have e2:((layB b o (List.replicate 32 0)).map byt).set o (.int .u8 ((m:Nat):Int))=(layB b o ((List.replicate 32 (0:UInt8)).set 0 (UInt8.ofNat m))).map byt:=by(have e:layB b o ((List.replicate 32 (0:UInt8)).set 0 (UInt8.ofNat m))=(layB b o (List.replicate 32 0)).set o (UInt8.ofNat m):=by rw[set_layB (b:=layB b o (List.replicate 32 0)) (by rw[hyl _ (by simp)];omega),set_layB (b:=List.replicate 32 0) (by simp)];have:=layB_layB (b:=b) (ys:=List.replicate 32 0) (zs:=[UInt8.ofNat m]) (o:=o) (i:=0) (by rw[hlen];omega) (by simp);rw[←this,Nat.add_zero]);rw[e,List.map_set,byt_of,Int.emod_eq_of_lt (by omega) (by omega)]
  have h2':Sep w0 (w1.setCell ⟨g,o,none⟩ (.int .u8 ((m:Nat):Int))) (.sl 5 1 (.slice (some ⟨g,0,none⟩) 512 c) 512 ((layB b o ((List.replicate 32 (0:UInt8)).set 0 (UInt8.ofNat m))).map byt)::volO f q p S a' k:: .box w.heap.size 118 (infoC x v)::R):=by rw[←e2];exact h2
  obtain⟨w2,hcp,h3,_⟩:=h2'.copystr_run (P:=Tryz.prog) 0 rfl 35 9 3 Tryz.underlying35 size_byte (o+1) (511-o) (c-(o+1)) ⟨name.toArray⟩ (by rw[strV_size];omega) (by rw[strV_size];omega)
  rw[strV_size,←hm]at hcp
  refine⟨w2,hcp,?_⟩
  have e3:layC ((layB b o ((List.replicate 32 (0:UInt8)).set 0 (UInt8.ofNat m))).map byt) (o+1) ((strL ⟨name.toArray⟩).map byt)=(layB b o (layB ((List.replicate 32 (0:UInt8)).set 0 (UInt8.ofNat m)) 1 name)).map byt:=by rw[←layC_map];congr 1;have:=layB_layB (b:=b) (ys:=(List.replicate 32 (0:UInt8)).set 0 (UInt8.ofNat m)) (zs:=name) (o:=o) (i:=1) (by rw[hlen];omega) (by simp;omega);exact this
  have hl3:(layB ((List.replicate 32 (0:UInt8)).set 0 (UInt8.ofNat m)) 1 name).length=32:=by rw[layB_len (by simp;omega)];simp
  have h3':Sep w0 w2 (bytesR (.slice (some ⟨g,0,none⟩) 512 c) (layB b o (layB ((List.replicate 32 (0:UInt8)).set 0 (UInt8.ofNat m)) 1 name))::volO f q p S a' k:: .box w.heap.size 118 (infoC x v)::R):=by rw[bytesR_of (hyl _ hl3),←e3];exact h3
  refine(write2_any (o:=0) (m:=512) (cap:=c) (i:=o+16) (n:=n) h3' (hyl _ hl3) (by omega) (by omega) (by omega)).mono ?_
  rintro e w3 ⟨rfl,h4⟩
  refine⟨rfl,?_⟩
  rw[Nat.zero_add,layB_layB (by rw[hlen];omega) (by rw[hl3,w2_len];omega)]at h4
  have h5:Sep w0 w3 (bytesR (.slice (some ⟨g,0,none⟩) 512 c) (layB b o (entE name n))::volO f q p S a' k::R):=by unfold entE;rw[←hm];exact(Sep.sel [2,0,1] h4 (by decide) (by simp)).drop 1
  refine(put_blk hR.ok hd4 h5).mono ?_
  rintro e w4 ⟨rfl,h6⟩
  exact⟨rfl,_,hR.ok.put _ hd4 (hyl _ (entE_len hname)),h6⟩
 have m15:(m:Int)≤15:=by omega
 have m0:(0:Int)≤m:=by omega
 have o1:(o:Int)+32≤512:=by omega
 have o0:(0:Int)≤o:=by omega
 have e32:o+32-o=32:=by omega
 have hsz:(⟨name.toArray⟩:ByteArray).size=m:=by rw[strV_size,hm]
 clear hC hF hv hi hs hx h h0 hd4 hlen hk hb ho hyl hset hname hm hn;subst hv0;unfold strV at*;unfold infoV infoC at*;go_enter Tryz.func151,Tryz.ntmps151;go_wp2_with(first |(go_at_call 124;refine hsp.mono ?_;rintro e w9 ⟨rfl,hb9⟩;have hgt2:=hgt.out _ hb9;clear hb9 hsp hgt)|(go_at_call 79;refine hgt2.mono ?_;rintro e w8 ⟨g,c,a',rfl,hc,hC2,w1,hcl,k1,f1,w2,hcp,hw⟩;replace hC2:=Lh hC2;clear hgt2)|(go_at_call 87;refine hw.mono ?_;rintro e w7 ⟨rfl,hp⟩)|(go_at_call 88;refine hp.mono ?_;rintro e w6 ⟨rfl,h6⟩;replace h6:=Lh h6))
 trace_state
 go_end0
 exact⟨rfl,h6.out⟩
end
def entAt (c:Blks) (d:Nat) (x:VI) (i:Nat):List UInt8:=entB (bk c (d+x.spots.getD (i/16) 0)) i
abbrev Ents :=List (List UInt8×Nat)
def dirL (c:Blks) (d:Nat) (x:VI):Ents:=(List.range x.size).map fun i=>(enN (entAt c d x i),enI (entAt c d x i))
structure DirOk (S:VS) (x:VI):Prop where
 few:x.spots.length≤28
 room:x.size≤16*x.spots.length
 lt:∀s∈x.spots,s<S.count
 len:∀i<x.size,((entAt S.cur S.data x i).getD 0 0).toNat≤31
def lookE (L:Ents) (name:List UInt8):Int×Nat:=
 match L.findIdx? fun e=>e.1==name with
 |some i=>(i,(L.getD i ([],0)).2)
 |none=>(-1,0)
def eat (L:Ents) (i:Nat):List UInt8×Nat:=L.getD i ([],0)
theorem eat_of {L:Ents} {i:Nat} (h:i<L.length):L[i]=eat L i:=by unfold eat;rw[gH,gE h];rfl
theorem lookE_is {L:Ents} {name:List UInt8} {i:Nat} (h1:i<L.length) (h2:(eat L i).1=name) (h3:∀j<i,(eat L j).1≠name):lookE L name=((i:Int),(eat L i).2):=by
 unfold lookE;have:(L.findIdx? fun e=>e.1==name)=some i:=by rw[List.findIdx?_eq_some_iff_getElem];exact⟨h1,by rw[eat_of];simp[h2],fun j hj=>by rw[eat_of];simpa using h3 j hj⟩
 rw[this];rfl
theorem lookE_no {L:Ents} {name:List UInt8} (h:∀j<L.length,(eat L j).1≠name):lookE L name=(-1,0):=by
 unfold lookE;have:(L.findIdx? fun e=>e.1==name)=none:=by rw[List.findIdx?_eq_none_iff];intro e he;obtain⟨j,hj,rfl⟩:=List.getElem_of_mem he;rw[eat_of];simpa using h j hj
 rw[this]
theorem dirL_len (c:Blks) (d:Nat) (x:VI):(dirL c d x).length=x.size:=by unfold dirL;simp
theorem dirL_at {c:Blks} {d:Nat} {x:VI} {i:Nat} (h:i<x.size):eat (dirL c d x) i=(enN (entAt c d x i),enI (entAt c d x i)):=by unfold dirL eat;rw[gH,List.getElem?_map,List.getElem?_range h];rfl
theorem DirOk.spot {S:VS} {x:VI} (h:DirOk S x) {i:Nat} (hi:i<x.size):∃s,x.spots[i/16]? =some s∧s<S.count∧x.spots.getD (i/16) 0=s:=by
 have h1:i/16<x.spots.length:=by have:=h.room;omega
 refine⟨x.spots[i/16],gE h1,h.lt _ (List.getElem_mem h1),?_⟩;rw[gH,gE h1];rfl
section
variable {w0 w:World} {R:List Asn} {f q p:Nat} {S:VS} {a:VA}
theorem entry_dir {x:VI} {v:Value} {i:Nat} (hC:VC S a) (hF:VF S) (hv:intsT w0 R v x.spots) (hD:DirOk S x) (hi:i<x.size) (h:Sep w0 w (volR f q p S a::R)):
  Calls Tryz.prog 69 #[.pointer (some ⟨f,0,none⟩),infoV x v,.int .i64 i] w fun e w'=>e= .returned (.tuple #[strV (enN (entAt S.cur S.data x i)),.int .i64 (enI (entAt S.cur S.data x i):Nat)])∧∃a',Reads S a a'∧Sep w0 w' (volR f q p S a'::R):=by
 obtain⟨s,h1,h2,h3⟩:=hD.spot hi;have hl:=hD.len i hi;unfold entAt at hl ⊢;rw[h3]at hl ⊢;exact entry_any hC hF hv h1 h2 hD.few hl h
set_option maxRecDepth 100000 in
set_option maxHeartbeats 2000000 in
theorem find_any {x:VI} {v:Value} {name:List UInt8} (hC:VC S a) (hF:VF S) (hv:intsT w0 R v x.spots) (hD:DirOk S x) (h:Sep w0 w (volR f q p S a::R)):
  Calls Tryz.prog 117 #[.pointer (some ⟨f,0,none⟩),infoV x v,strV name] w fun e w'=>e= .returned (.tuple #[.int .i64 (lookE (dirL S.cur S.data x) name).1,.int .i64 ((lookE (dirL S.cur S.data x) name).2:Nat)])∧∃a',Reads S a a'∧Sep w0 w' (volR f q p S a'::R):=by
 obtain⟨A0,c0,hv0⟩:∃A c,v= .slice A x.spots.length c:=by obtain⟨_,A,c,e,_⟩:=hv w [_] h;exact⟨A,c,e⟩
 have h0:Sep w0 (w.alloc (.cells (infoC x v) 118)) (volR f q p S a:: .box w.heap.size 118 (infoC x v)::R):=(h.bN _ _).perm (List.Perm.swap _ _ _);obtain⟨bx,hbx⟩:∃bx,bx=w.heap.size:=⟨_,rfl⟩;obtain⟨N,hN⟩:∃N,N=x.size:=⟨_,rfl⟩;have hN5:N≤448:=by have:=hD.room;have:=hD.few;omega
 have N1:(N:Int)≤448:=by omega
 obtain⟨L,hL⟩:∃L,L=dirL S.cur S.data x:=⟨_,rfl⟩;have hLn:L.length=N:=by rw[hL,dirL_len,hN]
 have hen:Hid (∀W k a1,k<N→VC S a1→Sep w0 W (volR f q p S a1:: .box bx 118 (infoC x v)::R)→Calls Tryz.prog 69 #[.pointer (some ⟨f,0,none⟩),infoV x v,.int .i64 (k:Nat)] W fun e w'=>e= .returned (.tuple #[strV (eat L k).1,.int .i64 ((eat L k).2:Nat)])∧∃a',Reads S a1 a'∧Sep w0 w' (volR f q p S a':: .box bx 118 (infoC x v)::R)):=Lh fun W k a1 hk hC1 hS=>by have:=entry_dir (i:=k) hC1 hF (hv.cons (A:=.box bx 118 (infoC x v))) hD (by omega) hS;rw[hL,dirL_at (by rw[←hN];exact hk)];exact this
 rw[←hL];rw[←hbx]at h0;have hcs:Hid (∀W a1,Sep w0 W (volR f q p S a1:: .box bx 118 (infoC x v)::R)→W.cell? ⟨bx,0,none⟩=some (.int .i64 (x.kind:Nat))∧W.cell? ⟨bx,1,none⟩=some (.int .i64 (x.mode:Nat))∧W.cell? ⟨bx,2,none⟩=some (.int .i64 (x.links:Nat))∧W.cell? ⟨bx,3,none⟩=some (.int .i64 (N:Nat))∧W.cell? ⟨bx,4,none⟩=some v):=Lh fun W a1 hS=>by(have z:=fun j=>hS.bC 1 rfl j);rw[hN];exact⟨z 0,z 1,z 2,z 3,z 4⟩
 have hLn':=Lh hLn;have hI0:Hid (Reads S a a∧Sep w0 (w.alloc (.cells (infoC x v) 118)) (volR f q p S a:: .box bx 118 (infoC x v)::R)):=Lh ⟨.refl hC,h0⟩;obtain⟨r,hr⟩:∃r,r=lookE L name:=⟨_,rfl⟩;rw[←hr];have hr':=Lh hr;clear hC hF hD h h0 hv hLn hL hN5 hr;subst hv0;unfold strV at*;unfold infoV infoC at*;rw[←hN]at hcs hI0 hen ⊢;clear hN;go_enter Tryz.func117,Tryz.ntmps117;go_wp2_with fail;try rw[←hbx]
 clear hbx;go_loopw[13] (fun i wr=>∃k:Nat,k≤N∧i= .int .i64 k∧Hid (∀j<k,(eat L j).1≠name)∧Hid (∃a1,Reads S a a1∧Sep w0 wr (volR f q p S a1:: .box bx 118 #[.int .i64 (x.kind:Nat),.int .i64 (x.mode:Nat),.int .i64 (x.links:Nat),.int .i64 (N:Nat),.slice A0 x.spots.length c0]::R))) (fun i _=>N-(intOf i).toNat)
 case atStart=>exact⟨0,Nat.zero_le _,rfl,Lh fun j hj=>by omega,Lh ⟨a,hI0.out.1,hI0.out.2⟩⟩
 obtain⟨k,hk,rfl,hno,hS⟩:=hrel;clear hI0;obtain⟨a1,hR1,hS1⟩:=hS.out;clear hS;by_cases hlt:k<N
 ·obtain⟨k0,k1,k2,k3,k4⟩:=hcs.out _ _ hS1;have hc:=hen.out _ k a1 hlt hR1.ok hS1;(have q1:(k:Int)<N:=by omega);(have q0:(0:Int)≤k:=by omega);obtain⟨u,hu⟩:∃u,u=(eat L k).1:=⟨_,rfl⟩;obtain⟨z,hz⟩:∃z,z=(eat L k).2:=⟨_,rfl⟩;rw[←hu,←hz]at hc;have hu':=Lh hu;have hz':=Lh hz;have hR1':=Lh hR1;clear hS1 hR1 hu hz;by_cases hname:u=name
  ·(have e1:(u==name)=true:=by simpa using hname);(have e2:(u.toArray==name.toArray)=true:=by rw[hname];simp);have hname':=Lh hname;clear hname;go_wp2_with(go_at_call 69;refine hc.mono ?_;rintro e w9 ⟨rfl,a2,hR2,h9⟩;replace h9:=Lh h9;replace hR2:=Lh hR2)
   go_ret2
   refine⟨?_,a2,hR1'.out.trans hR2.out,(Sep.sel [1,0] h9.out (by decide) (by simp)).drop 1⟩;rw[hr'.out,lookE_is (i:=k) (by rw[hLn'.out];exact hlt) (by rw[←hu'.out];exact hname'.out) hno.out,←hz'.out];rfl
  (have e1:(u==name)=false:=by simpa using hname);(have e2:(u.toArray==name.toArray)=false:=by simpa using hname);have hname':=Lh hname;clear hname;go_wp2_with(go_at_call 69;refine hc.mono ?_;rintro e w9 ⟨rfl,a2,hR2,h9⟩;replace h9:=Lh h9;replace hR2:=Lh hR2);refine⟨⟨k+1,by omega,rfl,Lh fun j hj=>?_,Lh ⟨a2,hR1'.out.trans hR2.out,h9.out⟩⟩,by simp[intOf];omega⟩;by_cases e:j=k
  ·rw[e,←hu'.out];exact hname'.out
  exact hno.out j (by omega)
 obtain rfl:k=N:=by omega
 go_wp2_with fail
 go_ret2
 refine⟨?_,a1,hR1,(Sep.sel [1,0] hS1 (by decide) (by simp)).drop 1⟩;rw[hr'.out,lookE_no fun j hj=>hno.out j (by rw[hLn'.out]at hj;exact hj)];rfl
end
end Go.Proofs.YteihmbaimbogaaaGreat
