/- FwL, FvS, laid together. -/
import Derived.Test.YteihmbaimbogaaaGreatJ43
namespace Go.Proofs.YteihmbaimbogaaaGreat
open Go.RowKit
set_option linter.unusedVariables false
set_option linter.unusedSimpArgs false
section
variable {w0 w:World} {R:List Asn}
def rawF :Array Value:=#[.pointer none,.map none,.map none,.int .i64 0,.bool false,.complex .f64 0 0,.int .i64 0,.complex .f64 0 0]
set_option maxRecDepth 100000 in
set_option maxHeartbeats 4000000 in
theorem format_any {p n names:Nat} (h0:98+(names+7)/8<n) (h1:n≤4096) (h2:2≤names) (h3:names≤1024) (h:Sep w0 w (diskR p (DK.fresh n)::R)):
  Calls Tryz.prog 34 #[.pointer (some ⟨p,0,none⟩),.int .i64 names] w fun e w'=>∃f q,e= .returned (.tuple #[.pointer (some ⟨f,0,none⟩),.int .i64 0])∧Sep w0 w' (restR f q p (VS.new n names)::R):=by
 obtain⟨bf,hbf⟩:∃b,b=w.heap.size:=⟨_,rfl⟩;have hok:(DK.fresh n).ok n:=DK.fresh_ok (by omega) h1;have hS0:Hid (Sep w0 (((w.alloc (.cells #[.pointer (some ⟨bf+1+1,0,none⟩)] 24)).alloc (.cells #[.int .i64 0] 39)).alloc (.cells rawF 106)) (diskR p (DK.fresh n):: .box (bf+1+1) 106 rawF::errBox (bf+1) 0:: .box bf 24 #[.pointer (some ⟨bf+1+1,0,none⟩)]::R)):=Lh (by have:=((h.bN 24 #[.pointer (some ⟨bf+1+1,0,none⟩)]).bN 39 #[.int .i64 0]).bN 106 rawF;simp only[World.size_alloc,←hbf]at this;exact Sep.sel [3,0,1,2] this (by decide) (by simp[errBox]));have hon:=on_any hS0.out;have hbs:=meth_dblocks 0 hok hS0.out rfl;have hlf:=lformat_any (by omega) h1 hS0.out;have q1:(n:Int)≤4096:=by omega
 have q2:(2:Int)≤names:=by omega
 have q3:(names:Int)≤1024:=by omega
 have e0:Int.tdiv ((names:Int)+7) 8=((names+7)/8:Nat):=by rw[Int.tdiv_eq_ediv_of_nonneg (by omega)];omega
 have hpt:=fun W=>parts_fs (n:=names) (by':=8) (by omega) (by omega) (by omega) W
 have e1:((names+8-1)/8:Nat)=(names+7)/8:=by omega
 rw[e1]at hpt;obtain⟨P,hP⟩:∃P,P=(names+7)/8:=⟨_,rfl⟩;rw[←hP]at hpt h0;have hP1:(P:Int)≤128:=by omega
 have h0':98+(P:Int)<n:=by omega
 clear e0;have hdf:(DK.fresh n).off=false:=rfl;rw[hdf]at hon;have hmf:∀(fn:Fn) (first cap:Array Value) (w:World),(Instr.makeFunc fn first cap).run Tryz.prog w= .ok (.func fn first cap) w:=fun _ _ _ _=>rfl
 have hcl:Hid (∀W Y,Sep w0 W (Y++ .box bf 24 #[.pointer (some ⟨bf+1+1,0,none⟩)]::R)→W.cell? ⟨bf,0,none⟩=some (.pointer (some ⟨bf+1+1,0,none⟩))):=Lh fun W Y hW=>by(have hi:(Y++ .box bf 24 #[.pointer (some ⟨bf+1+1,0,none⟩)]::R)[Y.length]? =some (.box bf 24 #[.pointer (some ⟨bf+1+1,0,none⟩)]):=by simp);exact hW.bC _ hi 0
 have hc0:=hcl.out _ [_,_,_] hS0.out;clear h hok;unfold rawF at*;rw[hbf]at*
 go_enter_defers Tryz.func34,Tryz.ntmps34
 go_wp2_with(first |(go_at_call 39;refine hon.mono ?_;rintro e w9 ⟨rfl,h9⟩;obtain rfl:=h9.symm;clear hon)|(go_at_call 84;refine hbs.mono ?_;rintro e w9 ⟨rfl,h9⟩;obtain rfl:=h9.symm;clear hbs)|(go_at_call 85;refine(hpt _).mono ?_;rintro e w9 ⟨rfl,h9⟩;obtain rfl:=h9.symm)|(go_at_call 86;refine hlf.mono ?_;rintro e w9 ⟨q,rfl,h9⟩;(have k0:=h9.bC 3 rfl 0);(have k1:=h9.bF 3 rfl 0);(have h8:=h9.bS 3 rfl 0 (.int .i64 0));(have k2:=h8.bC 3 rfl 0);(have k3:=hcl.out _ [_,_,_,_] h8);simp only[gA,gB]at k0;clear hlf h9;replace h8:=Lh h8)|(go_at_call 43;refine(smust_any _ _).mono ?_;rintro e w7 ⟨rfl,h7⟩;obtain rfl:=h7.symm));rename_i K1 hK1;refine wp_noPanic ?_;apply wp_via (fun W=>Hid (Sep w0 W (volR (w.heap.size+1+1) q p (VS.raw n names) ⟨none,[],w9.heap.size,[]⟩::errBox (w.heap.size+1) 0:: .box w.heap.size 24 #[.pointer (some ⟨w.heap.size+1+1,0,none⟩)]::R)))
 ·refine wp_region_Ew (S:=fun w'=>w'.cell? ⟨w.heap.size,0,none⟩=some (.pointer (some ⟨w.heap.size+1+1,0,none⟩))) 24 (by kernel_rfl) ?_;intro wq hwq;(have hX:Hid (Sep w0 wq (ledgerR q p false::diskR p (DK.made n):: .box (w.heap.size+1+1) 106 #[.pointer none,.map none,.map none,.int .i64 0,.bool false,.complex .f64 0 0,.int .i64 0,.complex .f64 0 0]::errBox (w.heap.size+1) 0:: .box w.heap.size 24 #[.pointer (some ⟨w.heap.size+1+1,0,none⟩)]::R)):=by rw[hwq];exact Lh h8.out.drew);(have hsz0:wq.heap.size=w9.heap.size:=by rw[hwq];simp);have hfin:Hid (∀W,Sep w0 W (blkM w9.heap.size []::ledgerR q p false::diskR p (DK.made n):: .box (w.heap.size+1+1) 106 #[.pointer (some ⟨q,0,none⟩),.map none,.map (some w9.heap.size),.int .i64 names,.bool false,.complex .f64 0 0,.int .i64 0,.complex .f64 0 0]::errBox (w.heap.size+1) 0:: .box w.heap.size 24 #[.pointer (some ⟨w.heap.size+1+1,0,none⟩)]::R)→
    Sep w0 W (volR (w.heap.size+1+1) q p (VS.raw n names) ⟨none,[],w9.heap.size,[]⟩::errBox (w.heap.size+1) 0:: .box w.heap.size 24 #[.pointer (some ⟨w.heap.size+1+1,0,none⟩)]::R)):=Lh fun W hW=>by
   (have h5:Sep w0 W (.emp::blkM w9.heap.size []::ledgerR q p false::diskR p (DK.made n)::fsB (w.heap.size+1+1) q (VS.raw n names) none (.map (some w9.heap.size)) false::errBox (w.heap.size+1) 0:: .box w.heap.size 24 #[.pointer (some ⟨w.heap.size+1+1,0,none⟩)]::R):=by unfold fsB VS.raw cplx;simp only[fI_zero];exact hW.emp_shut);have h6:Sep w0 W (volP (w.heap.size+1+1) q p (VS.raw n names) ⟨none,[],w9.heap.size,[]⟩++(errBox (w.heap.size+1) 0:: .box w.heap.size 24 #[.pointer (some ⟨w.heap.size+1+1,0,none⟩)]::R)):=Sep.sel [4,2,3,0,1] h5 (by decide) (by simp);exact h6.starL_shut
  clear hwq;have hc:=hcl.out _ [_,_,_,_] hX.out;have hmm:= @run_makeMap Tryz.prog;simp only[List.size_toArray,List.length_cons,List.length_nil,Nat.reduceAdd];refine wpE_tk (i:=0) (v:=?_) hc rfl ?_ ?_;rotate_left
  ·rintro w e1;go_simp;try with_reducible rfl
  simp only[Act.put,gD];refine wpE_tk (i:=1) (v:=?_) hc rfl ?_ ?_;rotate_left
  ·rintro w e1;go_simp;try with_reducible rfl
  simp only[Act.put,gD];refine wpE_tk (i:=2) (v:=?_) hc rfl ?_ ?_;rotate_left
  ·rintro w e1;go_simp;try with_reducible rfl
  simp only[Act.put,gD];refine wpE_tk (i:=3) (v:=?_) hc rfl ?_ ?_;rotate_left
  ·rintro w e1;go_simp;try with_reducible rfl
  simp only[Act.put,gD];refine wpE_tk (i:=4) (v:=?_) hc rfl ?_ ?_;rotate_left
  ·rintro w e1;go_simp;try with_reducible rfl
  simp only[Act.put,gD];refine wpE_tk (i:=6) (v:=?_) hc rfl ?_ ?_;rotate_left
  ·rintro w e1;go_simp;try with_reducible rfl
  simp only[Act.put,gD];refine wpE_tk (i:=7) (v:=?_) hc rfl ?_ ?_;rotate_left
  ·rintro w e1;go_simp;try with_reducible rfl
  simp only[Act.put,gD];refine wpE_tk (i:=8) (v:=?_) hc rfl ?_ ?_;rotate_left
  ·rintro w e1;go_simp;try with_reducible rfl
  simp only[Act.put,gD];refine wpE_tk (i:=9) (v:=?_) hc rfl ?_ ?_;rotate_left
  ·rintro w e1;go_simp;try with_reducible rfl
  simp only[Act.put,gD];refine wpE_tk (i:=10) (v:=?_) hc rfl ?_ ?_;rotate_left
  ·rintro w e1;go_simp;try with_reducible rfl
  simp only[Act.put,gD]
  -- <<ways
  refine wpE_two8 (i:=5) (j:=11) (by kernel_rfl) rfl rfl (fun K hK=>?_) (fun K hK=>?_)
  focus
   go_simp
   have g1:=hX.out.blk_new
   obtain⟨wx1,hw1⟩:∃x,x=wq.alloc (.map #[] 0):=⟨_,rfl⟩
   rw[hsz0]at g1
   try rw[hsz0]
   have hsz1:wx1.heap.size=w9.heap.size+1:=by rw[hw1];simp[hsz0]
   rw[←hw1]at g1 ⊢
   replace g1:Hid (Sep w0 wx1 (blkM w9.heap.size []::ledgerR q p false::diskR p (DK.made n):: .box (w.heap.size+1+1) 106 #[.pointer none,.map none,.map none,.int .i64 0,.bool false,.complex .f64 0 0,.int .i64 0,.complex .f64 0 0]::errBox (w.heap.size+1) 0:: .box w.heap.size 24 #[.pointer (some ⟨w.heap.size+1+1,0,none⟩)]::R)):=Lh g1
   have k1:=hcl.out _ [_,_,_,_,_] g1.out
   clear hw1
   try dsimp only
   refine hK _ _ (fun _=>k1) ?_
   clear hK K
   try simp only[Act.put,gD]
   refine wpE_one (i:=11) (by kernel_rfl) rfl (fun K hK=>?_)
   have y2:=g1.out.bC 3 rfl 0
   have z2:=g1.out.bF 3 rfl 0
   have g2:=g1.out.bS 3 rfl 0 (.pointer (some ⟨q,0,none⟩))
   try simp only[gA,gB,gC]at y2
   go_simp
   obtain⟨wx2,hw2⟩:∃x,x=wx1.setCell ⟨w.heap.size+1+1,0,none⟩ (.pointer (some ⟨q,0,none⟩)):=⟨_,rfl⟩
   have hsz2:wx2.heap.size=w9.heap.size+1:=by rw[hw2];simp[hsz1]
   rw[←hw2]at g2 ⊢
   replace g2:Hid (Sep w0 wx2 (blkM w9.heap.size []::ledgerR q p false::diskR p (DK.made n):: .box (w.heap.size+1+1) 106 #[.pointer (some ⟨q,0,none⟩),.map none,.map none,.int .i64 0,.bool false,.complex .f64 0 0,.int .i64 0,.complex .f64 0 0]::errBox (w.heap.size+1) 0:: .box w.heap.size 24 #[.pointer (some ⟨w.heap.size+1+1,0,none⟩)]::R)):=Lh g2
   have k2:=hcl.out _ [_,_,_,_,_] g2.out
   clear hw2
   try dsimp only
   refine hK _ _ (fun _=>k2) ?_
   clear hK K
   try simp only[Act.put,gD]
   refine wpE_tk (i:=12) (v:=?_) k2 rfl ?_ ?_
   rotate_left
   ·rintro w e1;go_simp;try with_reducible rfl
   simp only[Act.put,gD]
   refine wpE_tk (i:=13) (v:=?_) k2 rfl ?_ ?_
   rotate_left
   ·rintro w e1;go_simp;try with_reducible rfl
   simp only[Act.put,gD]
   refine wpE_tk (i:=14) (v:=?_) k2 rfl ?_ ?_
   rotate_left
   ·rintro w e1;go_simp;try with_reducible rfl
   simp only[Act.put,gD]
   refine wpE_tk (i:=15) (v:=?_) k2 rfl ?_ ?_
   rotate_left
   ·rintro w e1;go_simp;try with_reducible rfl
   simp only[Act.put,gD]
   refine wpE_tk (i:=16) (v:=?_) k2 rfl ?_ ?_
   rotate_left
   ·rintro w e1;go_simp;try with_reducible rfl
   simp only[Act.put,gD]
   refine wpE_one (i:=17) (by kernel_rfl) rfl (fun K hK=>?_)
   have y3:=g2.out.bC 3 rfl 3
   have z3:=g2.out.bF 3 rfl 3
   have g3:=g2.out.bS 3 rfl 3 (.int .i64 names)
   try simp only[gA,gB,gC]at y3
   go_simp
   obtain⟨wx3,hw3⟩:∃x,x=wx2.setCell ⟨w.heap.size+1+1,3,none⟩ (.int .i64 names):=⟨_,rfl⟩
   have hsz3:wx3.heap.size=w9.heap.size+1:=by rw[hw3];simp[hsz2]
   rw[←hw3]at g3 ⊢
   replace g3:Hid (Sep w0 wx3 (blkM w9.heap.size []::ledgerR q p false::diskR p (DK.made n):: .box (w.heap.size+1+1) 106 #[.pointer (some ⟨q,0,none⟩),.map none,.map none,.int .i64 names,.bool false,.complex .f64 0 0,.int .i64 0,.complex .f64 0 0]::errBox (w.heap.size+1) 0:: .box w.heap.size 24 #[.pointer (some ⟨w.heap.size+1+1,0,none⟩)]::R)):=Lh g3
   have k3:=hcl.out _ [_,_,_,_,_] g3.out
   clear hw3
   try dsimp only
   refine hK _ _ (fun _=>k3) ?_
   clear hK K
   try simp only[Act.put,gD]
   refine wpE_tk (i:=18) (v:=?_) k3 rfl ?_ ?_
   rotate_left
   ·rintro w e1;go_simp;try with_reducible rfl
   simp only[Act.put,gD]
   refine wpE_tk (i:=19) (v:=?_) k3 rfl ?_ ?_
   rotate_left
   ·rintro w e1;go_simp;try with_reducible rfl
   simp only[Act.put,gD]
   refine wpE_tk (i:=20) (v:=?_) k3 rfl ?_ ?_
   rotate_left
   ·rintro w e1;go_simp;try with_reducible rfl
   simp only[Act.put,gD]
   refine wpE_tk (i:=21) (v:=?_) k3 rfl ?_ ?_
   rotate_left
   ·rintro w e1;go_simp;try with_reducible rfl
   simp only[Act.put,gD]
   refine wpE_tk (i:=22) (v:=?_) k3 rfl ?_ ?_
   rotate_left
   ·rintro w e1;go_simp;try with_reducible rfl
   simp only[Act.put,gD]
   refine wpE_one (i:=23) (by kernel_rfl) rfl (fun K hK=>?_)
   have y4:=g3.out.bC 3 rfl 2
   have z4:=g3.out.bF 3 rfl 2
   have g4:=g3.out.bS 3 rfl 2 (.map (some w9.heap.size))
   try simp only[gA,gB,gC]at y4
   go_simp
   obtain⟨wx4,hw4⟩:∃x,x=wx3.setCell ⟨w.heap.size+1+1,2,none⟩ (.map (some w9.heap.size)):=⟨_,rfl⟩
   have hsz4:wx4.heap.size=w9.heap.size+1:=by rw[hw4];simp[hsz3]
   rw[←hw4]at g4 ⊢
   replace g4:Hid (Sep w0 wx4 (blkM w9.heap.size []::ledgerR q p false::diskR p (DK.made n):: .box (w.heap.size+1+1) 106 #[.pointer (some ⟨q,0,none⟩),.map none,.map (some w9.heap.size),.int .i64 names,.bool false,.complex .f64 0 0,.int .i64 0,.complex .f64 0 0]::errBox (w.heap.size+1) 0:: .box w.heap.size 24 #[.pointer (some ⟨w.heap.size+1+1,0,none⟩)]::R)):=Lh g4
   have k4:=hcl.out _ [_,_,_,_,_] g4.out
   clear hw4
   try dsimp only
   refine hK _ _ (fun _=>k4) ?_
   clear hK K
   try simp only[Act.put,gD]
   refine wpE_done (by kernel_rfl) ?_ _
   refine⟨rfl,Lh (hfin.out _ g4.out)⟩
  focus
   have y1:=hX.out.bC 2 rfl 0
   have z1:=hX.out.bF 2 rfl 0
   have g1:=hX.out.bS 2 rfl 0 (.pointer (some ⟨q,0,none⟩))
   try simp only[gA,gB,gC]at y1
   go_simp
   obtain⟨wx1,hw1⟩:∃x,x=wq.setCell ⟨w.heap.size+1+1,0,none⟩ (.pointer (some ⟨q,0,none⟩)):=⟨_,rfl⟩
   have hsz1:wx1.heap.size=w9.heap.size:=by rw[hw1];simp[hsz0]
   rw[←hw1]at g1 ⊢
   replace g1:Hid (Sep w0 wx1 (ledgerR q p false::diskR p (DK.made n):: .box (w.heap.size+1+1) 106 #[.pointer (some ⟨q,0,none⟩),.map none,.map none,.int .i64 0,.bool false,.complex .f64 0 0,.int .i64 0,.complex .f64 0 0]::errBox (w.heap.size+1) 0:: .box w.heap.size 24 #[.pointer (some ⟨w.heap.size+1+1,0,none⟩)]::R)):=Lh g1
   have k1:=hcl.out _ [_,_,_,_] g1.out
   clear hw1
   try dsimp only
   refine hK _ _ (fun _=>k1) ?_
   clear hK K
   try simp only[Act.put,gD]
   refine wpE_tk (i:=12) (v:=?_) k1 rfl ?_ ?_
   rotate_left
   ·rintro w e1;go_simp;try with_reducible rfl
   simp only[Act.put,gD]
   refine wpE_tk (i:=13) (v:=?_) k1 rfl ?_ ?_
   rotate_left
   ·rintro w e1;go_simp;try with_reducible rfl
   simp only[Act.put,gD]
   refine wpE_tk (i:=14) (v:=?_) k1 rfl ?_ ?_
   rotate_left
   ·rintro w e1;go_simp;try with_reducible rfl
   simp only[Act.put,gD]
   refine wpE_tk (i:=15) (v:=?_) k1 rfl ?_ ?_
   rotate_left
   ·rintro w e1;go_simp;try with_reducible rfl
   simp only[Act.put,gD]
   refine wpE_tk (i:=16) (v:=?_) k1 rfl ?_ ?_
   rotate_left
   ·rintro w e1;go_simp;try with_reducible rfl
   simp only[Act.put,gD]
   refine wpE_two8 (i:=5) (j:=17) (by kernel_rfl) rfl rfl (fun K hK=>?_) (fun K hK=>?_)
   focus
    go_simp
    have g2:=g1.out.blk_new
    obtain⟨wx2,hw2⟩:∃x,x=wx1.alloc (.map #[] 0):=⟨_,rfl⟩
    rw[hsz1]at g2
    try rw[hsz1]
    have hsz2:wx2.heap.size=w9.heap.size+1:=by rw[hw2];simp[hsz1]
    rw[←hw2]at g2 ⊢
    replace g2:Hid (Sep w0 wx2 (blkM w9.heap.size []::ledgerR q p false::diskR p (DK.made n):: .box (w.heap.size+1+1) 106 #[.pointer (some ⟨q,0,none⟩),.map none,.map none,.int .i64 0,.bool false,.complex .f64 0 0,.int .i64 0,.complex .f64 0 0]::errBox (w.heap.size+1) 0:: .box w.heap.size 24 #[.pointer (some ⟨w.heap.size+1+1,0,none⟩)]::R)):=Lh g2
    have k2:=hcl.out _ [_,_,_,_,_] g2.out
    clear hw2
    try dsimp only
    refine hK _ _ (fun _=>k2) ?_
    clear hK K
    try simp only[Act.put,gD]
    refine wpE_one (i:=17) (by kernel_rfl) rfl (fun K hK=>?_)
    have y3:=g2.out.bC 3 rfl 3
    have z3:=g2.out.bF 3 rfl 3
    have g3:=g2.out.bS 3 rfl 3 (.int .i64 names)
    try simp only[gA,gB,gC]at y3
    go_simp
    obtain⟨wx3,hw3⟩:∃x,x=wx2.setCell ⟨w.heap.size+1+1,3,none⟩ (.int .i64 names):=⟨_,rfl⟩
    have hsz3:wx3.heap.size=w9.heap.size+1:=by rw[hw3];simp[hsz2]
    rw[←hw3]at g3 ⊢
    replace g3:Hid (Sep w0 wx3 (blkM w9.heap.size []::ledgerR q p false::diskR p (DK.made n):: .box (w.heap.size+1+1) 106 #[.pointer (some ⟨q,0,none⟩),.map none,.map none,.int .i64 names,.bool false,.complex .f64 0 0,.int .i64 0,.complex .f64 0 0]::errBox (w.heap.size+1) 0:: .box w.heap.size 24 #[.pointer (some ⟨w.heap.size+1+1,0,none⟩)]::R)):=Lh g3
    have k3:=hcl.out _ [_,_,_,_,_] g3.out
    clear hw3
    try dsimp only
    refine hK _ _ (fun _=>k3) ?_
    clear hK K
    try simp only[Act.put,gD]
    refine wpE_tk (i:=18) (v:=?_) k3 rfl ?_ ?_
    rotate_left
    ·rintro w e1;go_simp;try with_reducible rfl
    simp only[Act.put,gD]
    refine wpE_tk (i:=19) (v:=?_) k3 rfl ?_ ?_
    rotate_left
    ·rintro w e1;go_simp;try with_reducible rfl
    simp only[Act.put,gD]
    refine wpE_tk (i:=20) (v:=?_) k3 rfl ?_ ?_
    rotate_left
    ·rintro w e1;go_simp;try with_reducible rfl
    simp only[Act.put,gD]
    refine wpE_tk (i:=21) (v:=?_) k3 rfl ?_ ?_
    rotate_left
    ·rintro w e1;go_simp;try with_reducible rfl
    simp only[Act.put,gD]
    refine wpE_tk (i:=22) (v:=?_) k3 rfl ?_ ?_
    rotate_left
    ·rintro w e1;go_simp;try with_reducible rfl
    simp only[Act.put,gD]
    refine wpE_one (i:=23) (by kernel_rfl) rfl (fun K hK=>?_)
    have y4:=g3.out.bC 3 rfl 2
    have z4:=g3.out.bF 3 rfl 2
    have g4:=g3.out.bS 3 rfl 2 (.map (some w9.heap.size))
    try simp only[gA,gB,gC]at y4
    go_simp
    obtain⟨wx4,hw4⟩:∃x,x=wx3.setCell ⟨w.heap.size+1+1,2,none⟩ (.map (some w9.heap.size)):=⟨_,rfl⟩
    have hsz4:wx4.heap.size=w9.heap.size+1:=by rw[hw4];simp[hsz3]
    rw[←hw4]at g4 ⊢
    replace g4:Hid (Sep w0 wx4 (blkM w9.heap.size []::ledgerR q p false::diskR p (DK.made n):: .box (w.heap.size+1+1) 106 #[.pointer (some ⟨q,0,none⟩),.map none,.map (some w9.heap.size),.int .i64 names,.bool false,.complex .f64 0 0,.int .i64 0,.complex .f64 0 0]::errBox (w.heap.size+1) 0:: .box w.heap.size 24 #[.pointer (some ⟨w.heap.size+1+1,0,none⟩)]::R)):=Lh g4
    have k4:=hcl.out _ [_,_,_,_,_] g4.out
    clear hw4
    try dsimp only
    refine hK _ _ (fun _=>k4) ?_
    clear hK K
    try simp only[Act.put,gD]
    refine wpE_done (by kernel_rfl) ?_ _
    refine⟨rfl,Lh (hfin.out _ g4.out)⟩
   focus
    have y2:=g1.out.bC 2 rfl 3
    have z2:=g1.out.bF 2 rfl 3
    have g2:=g1.out.bS 2 rfl 3 (.int .i64 names)
    try simp only[gA,gB,gC]at y2
    go_simp
    obtain⟨wx2,hw2⟩:∃x,x=wx1.setCell ⟨w.heap.size+1+1,3,none⟩ (.int .i64 names):=⟨_,rfl⟩
    have hsz2:wx2.heap.size=w9.heap.size:=by rw[hw2];simp[hsz1]
    rw[←hw2]at g2 ⊢
    replace g2:Hid (Sep w0 wx2 (ledgerR q p false::diskR p (DK.made n):: .box (w.heap.size+1+1) 106 #[.pointer (some ⟨q,0,none⟩),.map none,.map none,.int .i64 names,.bool false,.complex .f64 0 0,.int .i64 0,.complex .f64 0 0]::errBox (w.heap.size+1) 0:: .box w.heap.size 24 #[.pointer (some ⟨w.heap.size+1+1,0,none⟩)]::R)):=Lh g2
    have k2:=hcl.out _ [_,_,_,_] g2.out
    clear hw2
    try dsimp only
    refine hK _ _ (fun _=>k2) ?_
    clear hK K
    try simp only[Act.put,gD]
    refine wpE_one (i:=5) (by kernel_rfl) rfl (fun K hK=>?_)
    go_simp
    have g3:=g2.out.blk_new
    obtain⟨wx3,hw3⟩:∃x,x=wx2.alloc (.map #[] 0):=⟨_,rfl⟩
    rw[hsz2]at g3
    try rw[hsz2]
    have hsz3:wx3.heap.size=w9.heap.size+1:=by rw[hw3];simp[hsz2]
    rw[←hw3]at g3 ⊢
    replace g3:Hid (Sep w0 wx3 (blkM w9.heap.size []::ledgerR q p false::diskR p (DK.made n):: .box (w.heap.size+1+1) 106 #[.pointer (some ⟨q,0,none⟩),.map none,.map none,.int .i64 names,.bool false,.complex .f64 0 0,.int .i64 0,.complex .f64 0 0]::errBox (w.heap.size+1) 0:: .box w.heap.size 24 #[.pointer (some ⟨w.heap.size+1+1,0,none⟩)]::R)):=Lh g3
    have k3:=hcl.out _ [_,_,_,_,_] g3.out
    clear hw3
    try dsimp only
    refine hK _ _ (fun _=>k3) ?_
    clear hK K
    try simp only[Act.put,gD]
    refine wpE_tk (i:=18) (v:=?_) k3 rfl ?_ ?_
    rotate_left
    ·rintro w e1;go_simp;try with_reducible rfl
    simp only[Act.put,gD]
    refine wpE_tk (i:=19) (v:=?_) k3 rfl ?_ ?_
    rotate_left
    ·rintro w e1;go_simp;try with_reducible rfl
    simp only[Act.put,gD]
    refine wpE_tk (i:=20) (v:=?_) k3 rfl ?_ ?_
    rotate_left
    ·rintro w e1;go_simp;try with_reducible rfl
    simp only[Act.put,gD]
    refine wpE_tk (i:=21) (v:=?_) k3 rfl ?_ ?_
    rotate_left
    ·rintro w e1;go_simp;try with_reducible rfl
    simp only[Act.put,gD]
    refine wpE_tk (i:=22) (v:=?_) k3 rfl ?_ ?_
    rotate_left
    ·rintro w e1;go_simp;try with_reducible rfl
    simp only[Act.put,gD]
    refine wpE_one (i:=23) (by kernel_rfl) rfl (fun K hK=>?_)
    have y4:=g3.out.bC 3 rfl 2
    have z4:=g3.out.bF 3 rfl 2
    have g4:=g3.out.bS 3 rfl 2 (.map (some w9.heap.size))
    try simp only[gA,gB,gC]at y4
    go_simp
    obtain⟨wx4,hw4⟩:∃x,x=wx3.setCell ⟨w.heap.size+1+1,2,none⟩ (.map (some w9.heap.size)):=⟨_,rfl⟩
    have hsz4:wx4.heap.size=w9.heap.size+1:=by rw[hw4];simp[hsz3]
    rw[←hw4]at g4 ⊢
    replace g4:Hid (Sep w0 wx4 (blkM w9.heap.size []::ledgerR q p false::diskR p (DK.made n):: .box (w.heap.size+1+1) 106 #[.pointer (some ⟨q,0,none⟩),.map none,.map (some w9.heap.size),.int .i64 names,.bool false,.complex .f64 0 0,.int .i64 0,.complex .f64 0 0]::errBox (w.heap.size+1) 0:: .box w.heap.size 24 #[.pointer (some ⟨w.heap.size+1+1,0,none⟩)]::R)):=Lh g4
    have k4:=hcl.out _ [_,_,_,_,_] g4.out
    clear hw4
    try dsimp only
    refine hK _ _ (fun _=>k4) ?_
    clear hK K
    try simp only[Act.put,gD]
    refine wpE_done (by kernel_rfl) ?_ _
    refine⟨rfl,Lh (hfin.out _ g4.out)⟩
  --ways>>
 intro W hW0;have hlt0:98+(names+7)/8<n:=by omega
 simp only[noPanic];exact hK1 _ _ (format_tail hlt0 h1 h2 h3 hW0.out)
end
def roomB (nb names:Nat):Nat:=nb-96-(2+(names+7)/8)
def fitsT (nb names:Nat) (ns:List TN) (fs:List FT):Bool:=decide (treeB ns fs≤roomB nb names)&&decide (treeI ns≤names)
structure VolT (S:VS) (ns:List TN) (fs:List FT) (nb names:Nat):Prop where
 nm:S.names=names
 nbe:S.nb=nb
 vt:∃g dn φ,Vt S.base ns fs g dn φ
section
variable {w0 w:World} {R:List Asn} {f q p:Nat} {S:VS} {ns:List TN} {fs:List FT} {nb names:Nat}
theorem VolT.base (h:VolT S ns fs nb names):VolT S.base ns fs nb names:=⟨h.nm,h.nbe,h.vt⟩
theorem rest_big (h:Sep w0 w (restR f q p S::R)):96<S.nb:=by obtain⟨_,_,_,hR,_⟩:=h.rest_open;exact hR.big
theorem VolT.ends {r:Except Int (Option VS)} {ns':List TN} {fs':List FT} {x:Int} (hL:VolT S ns fs nb names) (hok:S.D.ok S.nb) (h96:96<S.nb) (hD:DoneT S.base r ns' fs') (h:endS f q p S.base r w0 w R x):
  if fitsT nb names ns' fs'=true then
   (x=0∧∃S',VolT S' ns' fs' nb names∧(S.D.off=false→S.D.left<0→S'.D.off=false∧S'.D.left=S.D.left)∧Sep w0 w (restR f q p S'::R))∨
   (x=11∧¬(S.D.off=false∧S.D.left<0)∧∃S1:VS,S1.nb=nb∧S1.D=S.D∧BlksOk (nb-96) S1.cur∧(putsP S1).length≤40∧S1.commit.2=false∧Sep w0 w (goneR f q p true::diskR p S1.commit.1::R))
  else x=27∧Sep w0 w (restR f q p S.base::R):=by
 obtain⟨g,dn,φ,hV⟩:=hL.vt;obtain⟨y,rfl,hno,hyes⟩:=hD;have hrB:(S.base.rB:Int)=roomB nb names:=by rw[hV.vol.rB];(show((S.nb-96-(2+(S.names+7)/8):Nat):Int)=_);rw[hL.nm,hL.nbe];rfl
 have hrI:(S.base.rI:Int)=names:=by rw[hV.vol.rI];(show(S.names:Int)=_);rw[hL.nm]
 unfold endS at h;cases y with
 |none=>
  have h1:=hno rfl;rw[hrB,hrI]at h1;rw[if_neg]
  ·exact h
  unfold fitsT;rw[Bool.and_eq_true,decide_eq_true_eq,decide_eq_true_eq];omega
 |some S1=>
  obtain⟨hfew,hlen,g',dn',φ',hC,hR⟩:=hyes S1 rfl;have hnm:S1.names=S.base.names:=hC.like.names;(have hwB:S1.wB=treeB ns' fs':=by rw[hC.ph.wB,hnm];exact hR.wB (by rw[←hnm];exact hC.ph.fair));(have hwI:S1.wI=treeI ns':=by rw[hC.ph.wI,hnm];exact hR.wI (by rw[←hnm];exact hC.ph.fair));have hrB1:S1.rB=roomB nb names:=hC.like.rB.trans hrB;have hrI1:S1.rI=names:=hC.like.rI.trans hrI;(have hfits:fitsP S1=fitsT nb names ns' fs':=by unfold fitsP fitsT;rw[hwB,hwI,hrB1,hrI1]);simp only[hfits]at h;have hDe:S1.D=S.D:=hC.like.D;(have hD1:S1.D.ok S1.nb:=by rw[hDe,show S1.nb=S.nb from hC.like.nb];exact hok);(have h961:96<S1.nb:=by rw[show S1.nb=S.nb from hC.like.nb];exact h96);(have hfew1:Few (S1.D.now.drop 96) S1:=by rw[hDe];exact hfew);by_cases hf:fitsT nb names ns' fs'=true
  ·rw[if_pos hf]at h ⊢;by_cases hc:S1.commit.2=true
   ·rw[if_pos hc]at h;refine .inl ⟨h.1,S1.settled,⟨?_,?_,g',dn',φ',?_⟩,fun ho hl=>?_,h.2⟩
    ·(show S1.names=names);rw[hnm];exact hL.nm
    ·(show S1.nb=nb);rw[show S1.nb=S.nb from hC.like.nb];exact hL.nbe
    ·refine Vt.of (hC.ph.settled hD1 h961 hfew1 hC.m hc) hR hnm hlen ?_ ?_ rfl
     ·(show S1.rB=((S1.nb-96-(2+(S1.names+7)/8):Nat):Int));rw[hrB1,show S1.nb=nb from(hC.like.nb).trans hL.nbe,hnm,show S.base.names=names from hL.nm];rfl
     (show S1.rI=(S1.names:Int));rw[hrI1,hnm,show S.base.names=names from hL.nm]
    have:=commit_live (S:=S1) (by rw[hDe];exact ho) (by rw[hDe];exact hl);exact⟨this.2.1,by rw[show S1.settled.D.left=S1.commit.1.left from rfl,this.2.2,hDe]⟩
   rw[if_neg hc]at h;refine .inr ⟨h.1,fun⟨ho,hl⟩=>hc (commit_live (S:=S1) (by rw[hDe];exact ho) (by rw[hDe];exact hl)).1,S1,(hC.like.nb).trans hL.nbe,hDe,?_,Nat.le_trans hfew1.puts hC.m,by simpa using hc,h.2⟩;have:=hC.ph.use.cur;rw[show S1.nb=nb from(hC.like.nb).trans hL.nbe]at this;exact this
  rw[if_neg hf]at h ⊢;exact h
theorem fill_m2 {S S1:VS} {n:Nat} {bs:List UInt8} (hf:fillP S n bs=some S1) (h0:S.m=0) (h1:(inoP S.cur n).spots.length≤16) (h2:bs.length≤8192):S1.m≤40:=by
 unfold fillP at hf;split at hf
 ·cases hf
 rename_i S2 l h3;cases hf;have h4:=(fitP_used h3);have h5:=(laysP_laid bs l 0 S2).m;show(laysP bs l 0 S2).m+1≤_
 rw[h5,h4.1.m,h4.2];omega
theorem Vt.write {g:LT} {dn:Key→Nat} {φ:Int→Nat} (h:Vt S ns fs g dn φ) {n:TN} (hn:n∈ns) (hf:n.file≠ -1) {bs:List UInt8} (hbs:bs.length≤8192):
  DoneT S (.ok (fillP S (φ n.file) bs)) ns (fs.set n.file.toNat ⟨(g (φ n.file)).mode,bs⟩)∧InoOk S (φ n.file)∧SmallW S∧∀S1,fillP S (φ n.file) bs=some S1→ChangeOk S S1:=by
 obtain⟨h1,h2,h3,h4,h5⟩:=h.rep.file n hn hf;have hF:=h.vol.ph.fill (n:=φ n.file) (bs:=bs) h2 h3 hbs;have hR:=h.rep.setFile hn hf (mode:=(g (φ n.file)).mode) (bs:=bs);have e:({g (φ n.file)with mode:=(g (φ n.file)).mode,data:=bs}:LI)= {g (φ n.file)with data:=bs}:=rfl;rw[e]at hR;have hfair:∀j<S.names,(updT g (φ n.file) {g (φ n.file)with data:=bs} j).fair:=fun j hj=>by
  by_cases e1:j=φ n.file
  ·rw[e1,updT_same];have:=h.vol.ph.fair _ h2;exact⟨this.kind,this.ents,fun hk=>absurd h3 hk,this.few,hbs,this.mode,this.links,this.names⟩
  rw[updT_ne _ _ e1];exact h.vol.ph.fair j hj
 have hch:∀S1,fillP S (φ n.file) bs=some S1→Chg S (updT g (φ n.file) {g (φ n.file)with data:=bs}) S1:=fun S1 hS1=>
  ⟨hF.1 S1 hS1,fillP_like hS1,fill_m2 hS1 h.m (by rw[h.vol.ph.len _ h2];have:=(h.vol.ph.fair _ h2).short;unfold LI.need;rw[if_neg (by omega),if_pos h3];omega) hbs⟩
 refine⟨⟨_,rfl,fun hx=>.inl ?_,fun S1 hS1=>⟨(Few.refl S).fillP hS1,?_,_,dn,φ,hch S1 hS1,hR⟩⟩,h.vol.ph.inoOk h2,h.vol.ph.sw,fun S1 hS1=>?_⟩
 ·have h6:=hF.2 hx;have h7:=needN_wgh hfair;rw[hR.wB hfair]at h7;rw[h.vol.rB];omega
 ·have:=h.nodes;have:=h.vol.few;omega
 have:=hch S1 hS1;exact Phys.changeOk ⟨h.vol.rB,h.vol.rI⟩ h.vol.ph.use this.like this.ph this.m
def putT (ns:List TN) (path:List UInt8) (len:Nat):Int:=
 if plainE path=0 then
  if 8192<len then 2
  else match atT ns (splitB path)with
   | .error e=>e
   | .ok (some n)=>if n.file= -1 then 24 else 0
   | .ok none=>if ns.length<256 then 0 else 31
 else plainE path
def putNs (ns:List TN) (fs:List FT) (path:List UInt8):List TN:=match nodeK ns (splitB path)with
 |some n=>ns
 |none=>newNs ns fs 2 384 path
def modeF (fs:List FT) (k:Int):Int:=((fs[k.toNat]?).map (·.mode)).getD 0
def putFs (ns:List TN) (fs:List FT) (path bs:List UInt8):List FT:=match nodeK ns (splitB path)with
 |some n=>fs.set n.file.toNat ⟨modeF fs n.file,bs⟩
 |none=>newFs fs 2 384 bs
theorem Vt.put {g:LT} {dn:Key→Nat} {φ:Int→Nat} (h:Vt S ns fs g dn φ) {path bs:List UInt8} (hp:path.length≤1048576):
  (plainE path=0→¬8192<bs.length→PutOk S path bs)∧
  ((putT ns path bs.length≠0∧putR S path bs= .error (putT ns path bs.length))∨(putT ns path bs.length=0∧DoneT S (putR S path bs) (putNs ns fs path) (putFs ns fs path bs))):=by
 unfold putT putR;by_cases hE:plainE path=0
 ·have hv:=plainE_ok hE;simp only[if_pos hE];by_cases hb:8192<bs.length
  ·simp only[if_pos hb];exact⟨fun _ hn=>absurd hb hn,.inl ⟨by decide,trivial⟩⟩
  simp only[if_neg hb];have hL:=h.look path;have hN:=h.new (kind:=2) (mode:=384) (p:=path) (bs:=bs) (.inr rfl) hv hp (by decide) (by omega);cases ha:atT ns (splitB path)with
  |error e=>
   have he:=atT_err ha;rw[ha]at hL;simp only at hL;simp only[hL];refine⟨fun _ _=>⟨fun d hd=>?_,fun d m _ hd=>?_⟩,.inl ⟨by omega,?_⟩⟩
   ·rw[hL]at hd;have e1:(0:Int)= -1:=congrArg (fun x:Int×Int×Int=>x.2.1) hd;exact absurd e1 (by decide)
   ·rw[hL]at hd;have e1:e=0:=congrArg (fun x:Int×Int×Int=>x.2.2) hd;omega
   rw[if_neg (by omega)]
  |ok y=>
   obtain⟨hP,hno,_⟩:=atT_dir (S:=S) h.rep ha;cases y with
   |none=>
    rw[ha]at hL;simp only at hL;unfold newT newP at hN;rw[ha,hL]at hN;have e0:nothingE ((dn (splitB path).dropLast:Int),(-1:Int),(0:Int))=none:=rfl;simp only[e0]at hN;simp only[hL];rw[if_pos trivial,if_pos (show(-1:Int)<0 by decide)];refine⟨fun _ _=>⟨fun d hd=>?_,fun d m _ hd=>?_⟩,?_⟩
    ·rw[hL]at hd;exact hN.1 d hd
    ·rw[hL]at hd;have e1:(-1:Int)=m:=congrArg (fun x:Int×Int×Int=>x.2.1) hd;omega
    unfold putNs putFs;rw[←hno];exact hN.2
   |some n=>
    rw[ha]at hL;simp only at hL;have hn:n∈ns∧keyN n=splitB path:=nodeK_some hno.symm;obtain⟨hk1,hk2⟩:=h.rep.kindN hn.1;simp only[hL];rw[if_pos trivial,if_neg (show ¬(inoN dn φ n:Int)<0 by omega),Int.toNat_natCast];have hkind:(inoP S.cur (inoN dn φ n)).kind=(g (inoN dn φ n)).kind:=h.vol.ph.kind hk1;by_cases hf:n.file= -1
    ·have h1:(inoP S.cur (inoN dn φ n)).kind=1:=by
      rw[hkind];rcases hk2 with h2|h2
      ·exact h2.2
      exact absurd hf h2.1
     rw[if_pos h1,if_pos hf];refine⟨fun _ _=>⟨fun d hd=>?_,fun d m _ hd hkm=>?_⟩,.inl ⟨by decide,rfl⟩⟩
     ·rw[hL]at hd;have e1:(inoN dn φ n:Int)= -1:=congrArg (fun x:Int×Int×Int=>x.2.1) hd;omega
     rw[hL]at hd;have e1:(inoN dn φ n:Int)=m:=congrArg (fun x:Int×Int×Int=>x.2.1) hd;(have e2:inoN dn φ n=m:=by omega);rw[←e2]at hkm;exact absurd h1 hkm
    have hW:=h.write hn.1 hf (bs:=bs) (by omega);(have hi:inoN dn φ n=φ n.file:=by unfold inoN;rw[if_neg hf]);have h1:(inoP S.cur (inoN dn φ n)).kind≠1:=by
     rw[hkind];rcases hk2 with h2|h2
     ·exact absurd h2.1 hf
     rw[h2.2];decide
    rw[if_neg h1,if_neg hf];refine⟨fun _ _=>⟨fun d hd=>?_,fun d m _ hd hkm=>?_⟩,.inr ⟨rfl,?_⟩⟩
    ·rw[hL]at hd;have e1:(inoN dn φ n:Int)= -1:=congrArg (fun x:Int×Int×Int=>x.2.1) hd;omega
    ·rw[hL]at hd;have e1:(inoN dn φ n:Int)=m:=congrArg (fun x:Int×Int×Int=>x.2.1) hd;(have e2:φ n.file=m:=by omega);rw[←e2];exact hW.2
    unfold putNs putFs;rw[←hno,hi];(have hm:modeF fs n.file=(g (φ n.file)).mode:=by obtain⟨_,_,_,⟨fl,h4,h5,_⟩,_⟩:=h.rep.file n hn.1 hf;unfold modeF;rw[h4];exact h5.symm);simp only[hm];exact hW.1
 simp only[if_neg hE];exact⟨fun e=>absurd e hE,.inl ⟨hE,trivial⟩⟩
end
end Go.Proofs.YteihmbaimbogaaaGreat
