/- FwL, FyC, FvA, laid together. -/
import Derived.Test.YteihmbaimbogaaaGreatJ37
namespace Go.Proofs.YteihmbaimbogaaaGreat
open Go.RowKit
set_option linter.unusedVariables false
set_option linter.unusedSimpArgs false
section
variable {w0 w:World} {R:List Asn}
def rawF :Array Value:=#[.pointer none,.map none,.map none,.int .i64 0,.bool false,.complex .f64 0 0,.int .i64 0,.complex .f64 0 0]
set_option maxRecDepth 100000 in
set_option maxHeartbeats 4000000 in
theorem format_any {p n names:Nat} (h0:98+(names+7)/8<n) (h1:n≤4096) (h2:2≤names) (h3:names≤1024) (h:Sep w0 w (diskR p (DK.fresh n)::R)):
  Calls Tryz.prog 34 #[.pointer (some ⟨p,0,none⟩),.int .i64 names] w fun e w'=>∃f q,e= .returned (.tuple #[.pointer (some ⟨f,0,none⟩),.int .i64 0])∧Sep w0 w' (restR f q p (VS.new n names)::R):=by
 obtain⟨bf,hbf⟩:∃b,b=w.heap.size:=⟨_,rfl⟩;have hok:(DK.fresh n).ok n:=DK.fresh_ok (by omega) h1;have hS0:Hid (Sep w0 (((w.alloc (.cells #[.pointer (some ⟨bf+1+1,0,none⟩)] 24)).alloc (.cells #[.int .i64 0] 39)).alloc (.cells rawF 106)) (diskR p (DK.fresh n):: .box (bf+1+1) 106 rawF::errBox (bf+1) 0:: .box bf 24 #[.pointer (some ⟨bf+1+1,0,none⟩)]::R)):=Lh (by have:=((h.bN 24 #[.pointer (some ⟨bf+1+1,0,none⟩)]).bN 39 #[.int .i64 0]).bN 106 rawF;simp only[World.size_alloc,←hbf]at this;exact Sep.sel [3,0,1,2] this (by decide) (by simp[errBox]));have hon:=on_any hS0.out;have hbs:=meth_dblocks 0 hok hS0.out rfl;have hlf:=lformat_any (by omega) h1 hS0.out;have q1:(n:Int)≤4096:=by omega
 have q2:(2:Int)≤names:=by omega
 have q3:(names:Int)≤1024:=by omega
 have e0:Int.tdiv ((names:Int)+7) 8=((names+7)/8:Nat):=by rw[Int.tdiv_eq_ediv_of_nonneg (by omega)];omega
 have hpt:=fun W=>parts_fs (n:=names) (by':=8) (by omega) (by omega) (by omega) W
 have e1:((names+8-1)/8:Nat)=(names+7)/8:=by omega
 rw[e1]at hpt;obtain⟨P,hP⟩:∃P,P=(names+7)/8:=⟨_,rfl⟩;rw[←hP]at hpt h0;have hP1:(P:Int)≤128:=by omega
 have h0':98+(P:Int)<n:=by omega
 clear e0;have hdf:(DK.fresh n).off=false:=rfl;rw[hdf]at hon;have hmf:∀(fn:Fn) (first cap:Array Value) (w:World),(Instr.makeFunc fn first cap).run Tryz.prog w= .ok (.func fn first cap) w:=fun _ _ _ _=>rfl
 have hcl:Hid (∀W Y,Sep w0 W (Y++ .box bf 24 #[.pointer (some ⟨bf+1+1,0,none⟩)]::R)→W.cell? ⟨bf,0,none⟩=some (.pointer (some ⟨bf+1+1,0,none⟩))):=Lh fun W Y hW=>by(have hi:(Y++ .box bf 24 #[.pointer (some ⟨bf+1+1,0,none⟩)]::R)[Y.length]? =some (.box bf 24 #[.pointer (some ⟨bf+1+1,0,none⟩)]):=by simp);exact hW.bC _ hi 0
 have hc0:=hcl.out _ [_,_,_] hS0.out;clear h hok;unfold rawF at*;rw[hbf]at*
 go_enter_defers Tryz.func34,Tryz.ntmps34
 go_wp2_with(first |(go_at_call 39;refine hon.mono ?_;rintro e w9 ⟨rfl,h9⟩;obtain rfl:=h9.symm;clear hon)|(go_at_call 84;refine hbs.mono ?_;rintro e w9 ⟨rfl,h9⟩;obtain rfl:=h9.symm;clear hbs)|(go_at_call 85;refine(hpt _).mono ?_;rintro e w9 ⟨rfl,h9⟩;obtain rfl:=h9.symm)|(go_at_call 86;refine hlf.mono ?_;rintro e w9 ⟨q,rfl,h9⟩;(have k0:=h9.bC 3 rfl 0);(have k1:=h9.bF 3 rfl 0);(have h8:=h9.bS 3 rfl 0 (.int .i64 0));(have k2:=h8.bC 3 rfl 0);(have k3:=hcl.out _ [_,_,_,_] h8);simp only[gA,gB]at k0;clear hlf h9;replace h8:=Lh h8)|(go_at_call 43;refine(smust_any _ _).mono ?_;rintro e w7 ⟨rfl,h7⟩;obtain rfl:=h7.symm));rename_i K1 hK1;refine wp_noPanic ?_;apply wp_via (fun W=>Hid (Sep w0 W (volR (w.heap.size+1+1) q p (VS.raw n names) ⟨none,[],w9.heap.size,[]⟩::errBox (w.heap.size+1) 0:: .box w.heap.size 24 #[.pointer (some ⟨w.heap.size+1+1,0,none⟩)]::R)))
 ·refine wp_region_Ew (S:=fun w'=>w'.cell? ⟨w.heap.size,0,none⟩=some (.pointer (some ⟨w.heap.size+1+1,0,none⟩))) 24 (by kernel_rfl) ?_;intro wq hwq;(have hX:Hid (Sep w0 wq (ledgerR q p false::diskR p (DK.made n):: .box (w.heap.size+1+1) 106 #[.pointer none,.map none,.map none,.int .i64 0,.bool false,.complex .f64 0 0,.int .i64 0,.complex .f64 0 0]::errBox (w.heap.size+1) 0:: .box w.heap.size 24 #[.pointer (some ⟨w.heap.size+1+1,0,none⟩)]::R)):=by rw[hwq];exact Lh h8.out.drew);(have hsz0:wq.heap.size=w9.heap.size:=by rw[hwq];simp);have hfin:Hid (∀W,Sep w0 W (blkM w9.heap.size []::ledgerR q p false::diskR p (DK.made n):: .box (w.heap.size+1+1) 106 #[.pointer (some ⟨q,0,none⟩),.map none,.map (some w9.heap.size),.int .i64 names,.bool false,.complex .f64 0 0,.int .i64 0,.complex .f64 0 0]::errBox (w.heap.size+1) 0:: .box w.heap.size 24 #[.pointer (some ⟨w.heap.size+1+1,0,none⟩)]::R)→
    Sep w0 W (volR (w.heap.size+1+1) q p (VS.raw n names) ⟨none,[],w9.heap.size,[]⟩::errBox (w.heap.size+1) 0:: .box w.heap.size 24 #[.pointer (some ⟨w.heap.size+1+1,0,none⟩)]::R)):=Lh fun W hW=>by
   (have h5:Sep w0 W (.emp::blkM w9.heap.size []::ledgerR q p false::diskR p (DK.made n)::fsB (w.heap.size+1+1) q (VS.raw n names) none (.map (some w9.heap.size)) false::errBox (w.heap.size+1) 0:: .box w.heap.size 24 #[.pointer (some ⟨w.heap.size+1+1,0,none⟩)]::R):=by unfold fsB VS.raw cplx;simp only[fI_zero];exact hW.emp_shut);have h6:Sep w0 W (volP (w.heap.size+1+1) q p (VS.raw n names) ⟨none,[],w9.heap.size,[]⟩++(errBox (w.heap.size+1) 0:: .box w.heap.size 24 #[.pointer (some ⟨w.heap.size+1+1,0,none⟩)]::R)):=Sep.sel [4,2,3,0,1] h5 (by decide) (by simp);exact h6.starL_shut
  clear hwq;have hc:=hcl.out _ [_,_,_,_] hX.out;have hmm:= @run_makeMap Tryz.prog;simp only[List.size_toArray,List.length_cons,List.length_nil,Nat.reduceAdd];refine wpE_tk (i:=0) (v:=?_) hc rfl ?_ ?_;rotate_left
  ·rintro w e1;go_simp;try with_reducible rfl
  simp only[Act.put,gD];refine wpE_tk (i:=1) (v:=?_) hc rfl ?_ ?_;rotate_left
  ·rintro w e1;go_simp;try with_reducible rfl
  simp only[Act.put,gD];refine wpE_tk (i:=2) (v:=?_) hc rfl ?_ ?_;rotate_left
  ·rintro w e1;go_simp;try with_reducible rfl
  simp only[Act.put,gD];refine wpE_tk (i:=3) (v:=?_) hc rfl ?_ ?_;rotate_left
  ·rintro w e1;go_simp;try with_reducible rfl
  simp only[Act.put,gD];refine wpE_tk (i:=4) (v:=?_) hc rfl ?_ ?_;rotate_left
  ·rintro w e1;go_simp;try with_reducible rfl
  simp only[Act.put,gD];refine wpE_tk (i:=6) (v:=?_) hc rfl ?_ ?_;rotate_left
  ·rintro w e1;go_simp;try with_reducible rfl
  simp only[Act.put,gD];refine wpE_tk (i:=7) (v:=?_) hc rfl ?_ ?_;rotate_left
  ·rintro w e1;go_simp;try with_reducible rfl
  simp only[Act.put,gD];refine wpE_tk (i:=8) (v:=?_) hc rfl ?_ ?_;rotate_left
  ·rintro w e1;go_simp;try with_reducible rfl
  simp only[Act.put,gD];refine wpE_tk (i:=9) (v:=?_) hc rfl ?_ ?_;rotate_left
  ·rintro w e1;go_simp;try with_reducible rfl
  simp only[Act.put,gD];refine wpE_tk (i:=10) (v:=?_) hc rfl ?_ ?_;rotate_left
  ·rintro w e1;go_simp;try with_reducible rfl
  simp only[Act.put,gD]
  -- <<ways
  refine wpE_two8 (i:=5) (j:=11) (by kernel_rfl) rfl rfl (fun K hK=>?_) (fun K hK=>?_)
  focus
   go_simp
   have g1:=hX.out.blk_new
   obtain⟨wx1,hw1⟩:∃x,x=wq.alloc (.map #[] 0):=⟨_,rfl⟩
   rw[hsz0]at g1
   try rw[hsz0]
   have hsz1:wx1.heap.size=w9.heap.size+1:=by rw[hw1];simp[hsz0]
   rw[←hw1]at g1 ⊢
   replace g1:Hid (Sep w0 wx1 (blkM w9.heap.size []::ledgerR q p false::diskR p (DK.made n):: .box (w.heap.size+1+1) 106 #[.pointer none,.map none,.map none,.int .i64 0,.bool false,.complex .f64 0 0,.int .i64 0,.complex .f64 0 0]::errBox (w.heap.size+1) 0:: .box w.heap.size 24 #[.pointer (some ⟨w.heap.size+1+1,0,none⟩)]::R)):=Lh g1
   have k1:=hcl.out _ [_,_,_,_,_] g1.out
   clear hw1
   try dsimp only
   refine hK _ _ (fun _=>k1) ?_
   clear hK K
   try simp only[Act.put,gD]
   refine wpE_one (i:=11) (by kernel_rfl) rfl (fun K hK=>?_)
   have y2:=g1.out.bC 3 rfl 0
   have z2:=g1.out.bF 3 rfl 0
   have g2:=g1.out.bS 3 rfl 0 (.pointer (some ⟨q,0,none⟩))
   try simp only[gA,gB,gC]at y2
   go_simp
   obtain⟨wx2,hw2⟩:∃x,x=wx1.setCell ⟨w.heap.size+1+1,0,none⟩ (.pointer (some ⟨q,0,none⟩)):=⟨_,rfl⟩
   have hsz2:wx2.heap.size=w9.heap.size+1:=by rw[hw2];simp[hsz1]
   rw[←hw2]at g2 ⊢
   replace g2:Hid (Sep w0 wx2 (blkM w9.heap.size []::ledgerR q p false::diskR p (DK.made n):: .box (w.heap.size+1+1) 106 #[.pointer (some ⟨q,0,none⟩),.map none,.map none,.int .i64 0,.bool false,.complex .f64 0 0,.int .i64 0,.complex .f64 0 0]::errBox (w.heap.size+1) 0:: .box w.heap.size 24 #[.pointer (some ⟨w.heap.size+1+1,0,none⟩)]::R)):=Lh g2
   have k2:=hcl.out _ [_,_,_,_,_] g2.out
   clear hw2
   try dsimp only
   refine hK _ _ (fun _=>k2) ?_
   clear hK K
   try simp only[Act.put,gD]
   refine wpE_tk (i:=12) (v:=?_) k2 rfl ?_ ?_
   rotate_left
   ·rintro w e1;go_simp;try with_reducible rfl
   simp only[Act.put,gD]
   refine wpE_tk (i:=13) (v:=?_) k2 rfl ?_ ?_
   rotate_left
   ·rintro w e1;go_simp;try with_reducible rfl
   simp only[Act.put,gD]
   refine wpE_tk (i:=14) (v:=?_) k2 rfl ?_ ?_
   rotate_left
   ·rintro w e1;go_simp;try with_reducible rfl
   simp only[Act.put,gD]
   refine wpE_tk (i:=15) (v:=?_) k2 rfl ?_ ?_
   rotate_left
   ·rintro w e1;go_simp;try with_reducible rfl
   simp only[Act.put,gD]
   refine wpE_tk (i:=16) (v:=?_) k2 rfl ?_ ?_
   rotate_left
   ·rintro w e1;go_simp;try with_reducible rfl
   simp only[Act.put,gD]
   refine wpE_one (i:=17) (by kernel_rfl) rfl (fun K hK=>?_)
   have y3:=g2.out.bC 3 rfl 3
   have z3:=g2.out.bF 3 rfl 3
   have g3:=g2.out.bS 3 rfl 3 (.int .i64 names)
   try simp only[gA,gB,gC]at y3
   go_simp
   obtain⟨wx3,hw3⟩:∃x,x=wx2.setCell ⟨w.heap.size+1+1,3,none⟩ (.int .i64 names):=⟨_,rfl⟩
   have hsz3:wx3.heap.size=w9.heap.size+1:=by rw[hw3];simp[hsz2]
   rw[←hw3]at g3 ⊢
   replace g3:Hid (Sep w0 wx3 (blkM w9.heap.size []::ledgerR q p false::diskR p (DK.made n):: .box (w.heap.size+1+1) 106 #[.pointer (some ⟨q,0,none⟩),.map none,.map none,.int .i64 names,.bool false,.complex .f64 0 0,.int .i64 0,.complex .f64 0 0]::errBox (w.heap.size+1) 0:: .box w.heap.size 24 #[.pointer (some ⟨w.heap.size+1+1,0,none⟩)]::R)):=Lh g3
   have k3:=hcl.out _ [_,_,_,_,_] g3.out
   clear hw3
   try dsimp only
   refine hK _ _ (fun _=>k3) ?_
   clear hK K
   try simp only[Act.put,gD]
   refine wpE_tk (i:=18) (v:=?_) k3 rfl ?_ ?_
   rotate_left
   ·rintro w e1;go_simp;try with_reducible rfl
   simp only[Act.put,gD]
   refine wpE_tk (i:=19) (v:=?_) k3 rfl ?_ ?_
   rotate_left
   ·rintro w e1;go_simp;try with_reducible rfl
   simp only[Act.put,gD]
   refine wpE_tk (i:=20) (v:=?_) k3 rfl ?_ ?_
   rotate_left
   ·rintro w e1;go_simp;try with_reducible rfl
   simp only[Act.put,gD]
   refine wpE_tk (i:=21) (v:=?_) k3 rfl ?_ ?_
   rotate_left
   ·rintro w e1;go_simp;try with_reducible rfl
   simp only[Act.put,gD]
   refine wpE_tk (i:=22) (v:=?_) k3 rfl ?_ ?_
   rotate_left
   ·rintro w e1;go_simp;try with_reducible rfl
   simp only[Act.put,gD]
   refine wpE_one (i:=23) (by kernel_rfl) rfl (fun K hK=>?_)
   have y4:=g3.out.bC 3 rfl 2
   have z4:=g3.out.bF 3 rfl 2
   have g4:=g3.out.bS 3 rfl 2 (.map (some w9.heap.size))
   try simp only[gA,gB,gC]at y4
   go_simp
   obtain⟨wx4,hw4⟩:∃x,x=wx3.setCell ⟨w.heap.size+1+1,2,none⟩ (.map (some w9.heap.size)):=⟨_,rfl⟩
   have hsz4:wx4.heap.size=w9.heap.size+1:=by rw[hw4];simp[hsz3]
   rw[←hw4]at g4 ⊢
   replace g4:Hid (Sep w0 wx4 (blkM w9.heap.size []::ledgerR q p false::diskR p (DK.made n):: .box (w.heap.size+1+1) 106 #[.pointer (some ⟨q,0,none⟩),.map none,.map (some w9.heap.size),.int .i64 names,.bool false,.complex .f64 0 0,.int .i64 0,.complex .f64 0 0]::errBox (w.heap.size+1) 0:: .box w.heap.size 24 #[.pointer (some ⟨w.heap.size+1+1,0,none⟩)]::R)):=Lh g4
   have k4:=hcl.out _ [_,_,_,_,_] g4.out
   clear hw4
   try dsimp only
   refine hK _ _ (fun _=>k4) ?_
   clear hK K
   try simp only[Act.put,gD]
   refine wpE_done (by kernel_rfl) ?_ _
   refine⟨rfl,Lh (hfin.out _ g4.out)⟩
  focus
   have y1:=hX.out.bC 2 rfl 0
   have z1:=hX.out.bF 2 rfl 0
   have g1:=hX.out.bS 2 rfl 0 (.pointer (some ⟨q,0,none⟩))
   try simp only[gA,gB,gC]at y1
   go_simp
   obtain⟨wx1,hw1⟩:∃x,x=wq.setCell ⟨w.heap.size+1+1,0,none⟩ (.pointer (some ⟨q,0,none⟩)):=⟨_,rfl⟩
   have hsz1:wx1.heap.size=w9.heap.size:=by rw[hw1];simp[hsz0]
   rw[←hw1]at g1 ⊢
   replace g1:Hid (Sep w0 wx1 (ledgerR q p false::diskR p (DK.made n):: .box (w.heap.size+1+1) 106 #[.pointer (some ⟨q,0,none⟩),.map none,.map none,.int .i64 0,.bool false,.complex .f64 0 0,.int .i64 0,.complex .f64 0 0]::errBox (w.heap.size+1) 0:: .box w.heap.size 24 #[.pointer (some ⟨w.heap.size+1+1,0,none⟩)]::R)):=Lh g1
   have k1:=hcl.out _ [_,_,_,_] g1.out
   clear hw1
   try dsimp only
   refine hK _ _ (fun _=>k1) ?_
   clear hK K
   try simp only[Act.put,gD]
   refine wpE_tk (i:=12) (v:=?_) k1 rfl ?_ ?_
   rotate_left
   ·rintro w e1;go_simp;try with_reducible rfl
   simp only[Act.put,gD]
   refine wpE_tk (i:=13) (v:=?_) k1 rfl ?_ ?_
   rotate_left
   ·rintro w e1;go_simp;try with_reducible rfl
   simp only[Act.put,gD]
   refine wpE_tk (i:=14) (v:=?_) k1 rfl ?_ ?_
   rotate_left
   ·rintro w e1;go_simp;try with_reducible rfl
   simp only[Act.put,gD]
   refine wpE_tk (i:=15) (v:=?_) k1 rfl ?_ ?_
   rotate_left
   ·rintro w e1;go_simp;try with_reducible rfl
   simp only[Act.put,gD]
   refine wpE_tk (i:=16) (v:=?_) k1 rfl ?_ ?_
   rotate_left
   ·rintro w e1;go_simp;try with_reducible rfl
   simp only[Act.put,gD]
   refine wpE_two8 (i:=5) (j:=17) (by kernel_rfl) rfl rfl (fun K hK=>?_) (fun K hK=>?_)
   focus
    go_simp
    have g2:=g1.out.blk_new
    obtain⟨wx2,hw2⟩:∃x,x=wx1.alloc (.map #[] 0):=⟨_,rfl⟩
    rw[hsz1]at g2
    try rw[hsz1]
    have hsz2:wx2.heap.size=w9.heap.size+1:=by rw[hw2];simp[hsz1]
    rw[←hw2]at g2 ⊢
    replace g2:Hid (Sep w0 wx2 (blkM w9.heap.size []::ledgerR q p false::diskR p (DK.made n):: .box (w.heap.size+1+1) 106 #[.pointer (some ⟨q,0,none⟩),.map none,.map none,.int .i64 0,.bool false,.complex .f64 0 0,.int .i64 0,.complex .f64 0 0]::errBox (w.heap.size+1) 0:: .box w.heap.size 24 #[.pointer (some ⟨w.heap.size+1+1,0,none⟩)]::R)):=Lh g2
    have k2:=hcl.out _ [_,_,_,_,_] g2.out
    clear hw2
    try dsimp only
    refine hK _ _ (fun _=>k2) ?_
    clear hK K
    try simp only[Act.put,gD]
    refine wpE_one (i:=17) (by kernel_rfl) rfl (fun K hK=>?_)
    have y3:=g2.out.bC 3 rfl 3
    have z3:=g2.out.bF 3 rfl 3
    have g3:=g2.out.bS 3 rfl 3 (.int .i64 names)
    try simp only[gA,gB,gC]at y3
    go_simp
    obtain⟨wx3,hw3⟩:∃x,x=wx2.setCell ⟨w.heap.size+1+1,3,none⟩ (.int .i64 names):=⟨_,rfl⟩
    have hsz3:wx3.heap.size=w9.heap.size+1:=by rw[hw3];simp[hsz2]
    rw[←hw3]at g3 ⊢
    replace g3:Hid (Sep w0 wx3 (blkM w9.heap.size []::ledgerR q p false::diskR p (DK.made n):: .box (w.heap.size+1+1) 106 #[.pointer (some ⟨q,0,none⟩),.map none,.map none,.int .i64 names,.bool false,.complex .f64 0 0,.int .i64 0,.complex .f64 0 0]::errBox (w.heap.size+1) 0:: .box w.heap.size 24 #[.pointer (some ⟨w.heap.size+1+1,0,none⟩)]::R)):=Lh g3
    have k3:=hcl.out _ [_,_,_,_,_] g3.out
    clear hw3
    try dsimp only
    refine hK _ _ (fun _=>k3) ?_
    clear hK K
    try simp only[Act.put,gD]
    refine wpE_tk (i:=18) (v:=?_) k3 rfl ?_ ?_
    rotate_left
    ·rintro w e1;go_simp;try with_reducible rfl
    simp only[Act.put,gD]
    refine wpE_tk (i:=19) (v:=?_) k3 rfl ?_ ?_
    rotate_left
    ·rintro w e1;go_simp;try with_reducible rfl
    simp only[Act.put,gD]
    refine wpE_tk (i:=20) (v:=?_) k3 rfl ?_ ?_
    rotate_left
    ·rintro w e1;go_simp;try with_reducible rfl
    simp only[Act.put,gD]
    refine wpE_tk (i:=21) (v:=?_) k3 rfl ?_ ?_
    rotate_left
    ·rintro w e1;go_simp;try with_reducible rfl
    simp only[Act.put,gD]
    refine wpE_tk (i:=22) (v:=?_) k3 rfl ?_ ?_
    rotate_left
    ·rintro w e1;go_simp;try with_reducible rfl
    simp only[Act.put,gD]
    refine wpE_one (i:=23) (by kernel_rfl) rfl (fun K hK=>?_)
    have y4:=g3.out.bC 3 rfl 2
    have z4:=g3.out.bF 3 rfl 2
    have g4:=g3.out.bS 3 rfl 2 (.map (some w9.heap.size))
    try simp only[gA,gB,gC]at y4
    go_simp
    obtain⟨wx4,hw4⟩:∃x,x=wx3.setCell ⟨w.heap.size+1+1,2,none⟩ (.map (some w9.heap.size)):=⟨_,rfl⟩
    have hsz4:wx4.heap.size=w9.heap.size+1:=by rw[hw4];simp[hsz3]
    rw[←hw4]at g4 ⊢
    replace g4:Hid (Sep w0 wx4 (blkM w9.heap.size []::ledgerR q p false::diskR p (DK.made n):: .box (w.heap.size+1+1) 106 #[.pointer (some ⟨q,0,none⟩),.map none,.map (some w9.heap.size),.int .i64 names,.bool false,.complex .f64 0 0,.int .i64 0,.complex .f64 0 0]::errBox (w.heap.size+1) 0:: .box w.heap.size 24 #[.pointer (some ⟨w.heap.size+1+1,0,none⟩)]::R)):=Lh g4
    have k4:=hcl.out _ [_,_,_,_,_] g4.out
    clear hw4
    try dsimp only
    refine hK _ _ (fun _=>k4) ?_
    clear hK K
    try simp only[Act.put,gD]
    refine wpE_done (by kernel_rfl) ?_ _
    refine⟨rfl,Lh (hfin.out _ g4.out)⟩
   focus
    have y2:=g1.out.bC 2 rfl 3
    have z2:=g1.out.bF 2 rfl 3
    have g2:=g1.out.bS 2 rfl 3 (.int .i64 names)
    try simp only[gA,gB,gC]at y2
    go_simp
    obtain⟨wx2,hw2⟩:∃x,x=wx1.setCell ⟨w.heap.size+1+1,3,none⟩ (.int .i64 names):=⟨_,rfl⟩
    have hsz2:wx2.heap.size=w9.heap.size:=by rw[hw2];simp[hsz1]
    rw[←hw2]at g2 ⊢
    replace g2:Hid (Sep w0 wx2 (ledgerR q p false::diskR p (DK.made n):: .box (w.heap.size+1+1) 106 #[.pointer (some ⟨q,0,none⟩),.map none,.map none,.int .i64 names,.bool false,.complex .f64 0 0,.int .i64 0,.complex .f64 0 0]::errBox (w.heap.size+1) 0:: .box w.heap.size 24 #[.pointer (some ⟨w.heap.size+1+1,0,none⟩)]::R)):=Lh g2
    have k2:=hcl.out _ [_,_,_,_] g2.out
    clear hw2
    try dsimp only
    refine hK _ _ (fun _=>k2) ?_
    clear hK K
    try simp only[Act.put,gD]
    refine wpE_one (i:=5) (by kernel_rfl) rfl (fun K hK=>?_)
    go_simp
    have g3:=g2.out.blk_new
    obtain⟨wx3,hw3⟩:∃x,x=wx2.alloc (.map #[] 0):=⟨_,rfl⟩
    rw[hsz2]at g3
    try rw[hsz2]
    have hsz3:wx3.heap.size=w9.heap.size+1:=by rw[hw3];simp[hsz2]
    rw[←hw3]at g3 ⊢
    replace g3:Hid (Sep w0 wx3 (blkM w9.heap.size []::ledgerR q p false::diskR p (DK.made n):: .box (w.heap.size+1+1) 106 #[.pointer (some ⟨q,0,none⟩),.map none,.map none,.int .i64 names,.bool false,.complex .f64 0 0,.int .i64 0,.complex .f64 0 0]::errBox (w.heap.size+1) 0:: .box w.heap.size 24 #[.pointer (some ⟨w.heap.size+1+1,0,none⟩)]::R)):=Lh g3
    have k3:=hcl.out _ [_,_,_,_,_] g3.out
    clear hw3
    try dsimp only
    refine hK _ _ (fun _=>k3) ?_
    clear hK K
    try simp only[Act.put,gD]
    refine wpE_tk (i:=18) (v:=?_) k3 rfl ?_ ?_
    rotate_left
    ·rintro w e1;go_simp;try with_reducible rfl
    simp only[Act.put,gD]
    refine wpE_tk (i:=19) (v:=?_) k3 rfl ?_ ?_
    rotate_left
    ·rintro w e1;go_simp;try with_reducible rfl
    simp only[Act.put,gD]
    refine wpE_tk (i:=20) (v:=?_) k3 rfl ?_ ?_
    rotate_left
    ·rintro w e1;go_simp;try with_reducible rfl
    simp only[Act.put,gD]
    refine wpE_tk (i:=21) (v:=?_) k3 rfl ?_ ?_
    rotate_left
    ·rintro w e1;go_simp;try with_reducible rfl
    simp only[Act.put,gD]
    refine wpE_tk (i:=22) (v:=?_) k3 rfl ?_ ?_
    rotate_left
    ·rintro w e1;go_simp;try with_reducible rfl
    simp only[Act.put,gD]
    refine wpE_one (i:=23) (by kernel_rfl) rfl (fun K hK=>?_)
    have y4:=g3.out.bC 3 rfl 2
    have z4:=g3.out.bF 3 rfl 2
    have g4:=g3.out.bS 3 rfl 2 (.map (some w9.heap.size))
    try simp only[gA,gB,gC]at y4
    go_simp
    obtain⟨wx4,hw4⟩:∃x,x=wx3.setCell ⟨w.heap.size+1+1,2,none⟩ (.map (some w9.heap.size)):=⟨_,rfl⟩
    have hsz4:wx4.heap.size=w9.heap.size+1:=by rw[hw4];simp[hsz3]
    rw[←hw4]at g4 ⊢
    replace g4:Hid (Sep w0 wx4 (blkM w9.heap.size []::ledgerR q p false::diskR p (DK.made n):: .box (w.heap.size+1+1) 106 #[.pointer (some ⟨q,0,none⟩),.map none,.map (some w9.heap.size),.int .i64 names,.bool false,.complex .f64 0 0,.int .i64 0,.complex .f64 0 0]::errBox (w.heap.size+1) 0:: .box w.heap.size 24 #[.pointer (some ⟨w.heap.size+1+1,0,none⟩)]::R)):=Lh g4
    have k4:=hcl.out _ [_,_,_,_,_] g4.out
    clear hw4
    try dsimp only
    refine hK _ _ (fun _=>k4) ?_
    clear hK K
    try simp only[Act.put,gD]
    refine wpE_done (by kernel_rfl) ?_ _
    refine⟨rfl,Lh (hfin.out _ g4.out)⟩
  --ways>>
 intro W hW0;have hlt0:98+(names+7)/8<n:=by omega
 simp only[noPanic];exact hK1 _ _ (format_tail hlt0 h1 h2 h3 hW0.out)
end
theorem enters_fmnt :∀args w,(callFunc 77 args).run Tryz.prog w= .ok (.enter 77 args) w:=Go.Proofs.enters_of Tryz.func77 (by kernel_rfl) rfl
theorem fmnt_done {w:World} {be bl:Nat} {u:FrameMode} (hc:w.cell? ⟨be,0,none⟩=some (.int .i64 0)):
  CallsD Tryz.prog 77 #[.pointer (some ⟨be,0,none⟩),.pointer (some ⟨bl,0,none⟩)] u w fun e u' w'=>u'=u∧e= .returned (.tuple #[])∧w'=w:=by
 refine(callsD_of_wp (R:=fun e w'=>e= .returned (.tuple #[])∧w'=w) Tryz.func77 rfl ?_).mono ?_
 ·simp only[Tryz.ntmps77,List.size_toArray,List.length_cons,List.length_nil,Nat.reduceAdd,Nat.reduceSub,Array.replicate_succ,Array.replicate_zero,List.push_toArray,List.append_toArray,List.nil_append,List.cons_append];go_wp2_with fail
  go_end0
  exact⟨rfl,rfl⟩
 rintro e u' w' ⟨h1,h2,h3⟩;exact⟨h1,h2,h3⟩
theorem fmnt_nil {w:World} {be bl:Nat} {x:Int} {v:Value} {u:FrameMode} (hx:x≠0) (hc:w.cell? ⟨be,0,none⟩=some (.int .i64 x)) (hv:w.cell? ⟨bl,0,none⟩=some v) (hp:∃a,v= .pointer a) (hf:w.frozen? ⟨bl,0,none⟩=false):
  CallsD Tryz.prog 77 #[.pointer (some ⟨be,0,none⟩),.pointer (some ⟨bl,0,none⟩)] u w fun e u' w'=>u'=u∧e= .returned (.tuple #[])∧w'=w.setCell ⟨bl,0,none⟩ (.pointer none):=by
 obtain⟨a,rfl⟩:=hp;have hx1:(x==0)=false:=by simpa using hx
 have hx2:(x !=0)=true:=by simpa using hx
 refine(callsD_of_wp (R:=fun e w'=>e= .returned (.tuple #[])∧w'=w.setCell ⟨bl,0,none⟩ (.pointer none)) Tryz.func77 rfl ?_).mono ?_
 ·simp only[Tryz.ntmps77,List.size_toArray,List.length_cons,List.length_nil,Nat.reduceAdd,Nat.reduceSub,Array.replicate_succ,Array.replicate_zero,List.push_toArray,List.append_toArray,List.nil_append,List.cons_append];go_wp2_with fail
  go_end0
  exact⟨rfl,rfl⟩
 rintro e u' w' ⟨h1,h2,h3⟩;exact⟨h1,h2,h3⟩
section
variable {w0 w:World} {R:List Asn}
set_option maxRecDepth 100000 in
set_option maxHeartbeats 1000000 in
theorem told_light {be:Nat} {a:Value} {x y:Int} {older:List PanicEntry} (hx:x≠11) (h:Sep w0 w (errBox be y::R)):
  CallsD Tryz.prog 41 #[a,.pointer (some ⟨be,0,none⟩)] (.panicking ({v:=.iface 153 (.agg #[.int .i64 x]),recovered:=false}::older)) w fun e u' w'=>
   e= .returned (.tuple #[])∧u'= .panicking ({v:=.iface 153 (.agg #[.int .i64 x]),recovered:=true}::older)∧Sep w0 w' (errBox be x::R):=by
 refine callsD_of_wpS Tryz.func41 rfl fun c₀ cs hu=>?_
 apply wpS_seq
 apply wpS_region
 simp[wpOpsS,go_sem,recoverD,hu,Tryz.ntmps41,Exit.thenS]
 refine wpS_of_wp ?_
 simp only[List.size_toArray,List.length_cons,List.length_nil,Nat.reduceAdd,Nat.reduceSub,Array.replicate_succ,Array.replicate_zero,List.push_toArray,List.append_toArray,List.nil_append,List.cons_append,gD,List.set_cons_succ,List.set_cons_zero]
 have hta:=assert_stopF x w
 have hA:=h.alloc (.cells #[.int .i64 x] 153)
 have e0:=hA.bC 0 rfl 0
 have ef:=hA.bF 0 rfl 0
 have hA2:=hA.bS 0 rfl 0 (.int .i64 x)
 simp only[gA,gB,gC]at e0
 have hx2:(x==11)=false:=beq_eq_false_iff_ne.2 hx
 go_wp2_with fail
 refine⟨rfl,_,rfl,.tuple #[],?_,rfl,rfl,hA2⟩
 simp[results,Tryz.results41]
theorem told_door_light {be:Nat} {a:Value} {x y:Int} {fn:Func} {tmps:Array Value} {Post:Ending→World→Prop} {ds:List Deferred} (hx:x≠11) (h:Sep w0 w (errBox be y::R))
  (hK:∀w',Sep w0 w' (errBox be x::R)→Leaves Tryz.prog fn tmps Post ds .returning w'):
  Leaves Tryz.prog fn tmps Post ({target:=.fn (.func 41) #[],args:=#[a,.pointer (some ⟨be,0,none⟩)]}::ds) (.panicking (stopF x)) w:=by
 refine leaves_cons (f:=41) (args:=#[a,.pointer (some ⟨be,0,none⟩)]) (by simp) (by simp[go_sem]) ?_;refine(told_light hx h).mono ?_;rintro e u' w' ⟨rfl,rfl,hS⟩;exact hK w' hS
set_option maxRecDepth 100000 in
set_option maxHeartbeats 4000000 in
theorem mount_raw {p nb:Nat} {D:DK} (hD:D.ok nb) (ho:D.off=false) (hraw:nb≤96∨(96<nb∧wayP (bk D.now 0)=none)) (h:Sep w0 w (diskR p D::R)):
  Calls Tryz.prog 33 #[.pointer (some ⟨p,0,none⟩)] w fun e w'=>e= .returned (.tuple #[.pointer none,.int .i64 12])∧Sep w0 w' (diskR p D::R):=by
 obtain⟨bf,hbf⟩:∃b,b=w.heap.size:=⟨_,rfl⟩;have hS0:Hid (Sep w0 (((w.alloc (.cells #[.pointer (some ⟨bf+1+1,0,none⟩)] 24)).alloc (.cells #[.int .i64 0] 39)).alloc (.cells rawF 106)) (diskR p D:: .box (bf+1+1) 106 rawF::errBox (bf+1) 0:: .box bf 24 #[.pointer (some ⟨bf+1+1,0,none⟩)]::R)):=Lh (by have:=((h.bN 24 #[.pointer (some ⟨bf+1+1,0,none⟩)]).bN 39 #[.int .i64 0]).bN 106 rawF;simp only[World.size_alloc,←hbf]at this;exact Sep.sel [3,0,1,2] this (by decide) (by simp[errBox]));have hop:=open_raw hD ho hraw hS0.out;have hmf:∀(fn:Fn) (first cap:Array Value) (w:World),(Instr.makeFunc fn first cap).run Tryz.prog w= .ok (.func fn first cap) w:=fun _ _ _ _=>rfl
 have hc0:=hS0.out.bC 3 rfl 0;simp only[gA,gB]at hc0;clear h hD ho hraw;unfold rawF at*;rw[hbf]at*
 go_enter_defers Tryz.func33,Tryz.ntmps33
 go_wp2_with(first |(go_at_call 78;refine hop.mono ?_;rintro e w9 ⟨rfl,h9⟩;(have k0:=h9.bC 2 rfl 0);(have k1:=h9.bF 2 rfl 0);(have h8:=h9.bS 2 rfl 0 (.int .i64 12));(have k2:=h8.bC 2 rfl 0);replace h8:=Lh h8;clear h9 hop;try simp only[gA,gB]at k0 k2)|(go_at_call 43;refine(smust_any _ _).mono ?_;rintro e w7 ⟨rfl,h7⟩;obtain rfl:=h7.symm));refine told_door_light (x:=12) (y:=12) (R:=diskR p D::_:: .box w.heap.size 24 #[.pointer (some ⟨w.heap.size+1+1,0,none⟩)]::R) (by decide) (Sep.sel [2,0,1,3] h8.out (by decide) (by simp[errBox])) fun w2 h2=>?_
 have ec:=h2.bC 0 rfl 0;have el:=h2.bC 3 rfl 0;have ef:=h2.bF 3 rfl 0;have h3:=h2.bS 3 rfl 0 (.pointer none);try simp only[gA,gB]at ec el
 refine leaves_cons (u:=.returning) (by simp) (enter_args _ _ enters_fmnt) ?_;refine(fmnt_nil (x:=12) (by decide) ec el ⟨_,rfl⟩ ef).mono ?_;rintro e u' w' ⟨rfl,rfl,rfl⟩;have ec3:=h3.bC 0 rfl 0;have el3:=h3.bC 3 rfl 0;try simp only[gA,gB]at ec3 el3
 refine⟨.tuple #[.pointer none,.int .i64 12],by simp[results,Tryz.results33,go_sem,ec3,el3],rfl,?_⟩;exact(Sep.sel [0,2,3,1] h3 (by decide) (by simp):Sep w0 _ (_::_::_::diskR p D::R)).drop 3
end
end Go.Proofs.YteihmbaimbogaaaGreat
namespace Go.Proofs.YteihmbaimbogaaaGreat
set_option linter.unusedVariables false
set_option linter.unusedSimpArgs false
def VS.bit (S:VS) (j:Nat):Bool:=bitB (bk S.cur 1) j
structure UseOk (S:VS):Prop where
 cur:BlksOk (S.nb-96) S.cur
 vf:VF S
 nb:S.nb≤4096
theorem UseOk.len1 {S:VS} (h:UseOk S):1<S.cur.length:=by have:=h.vf.room;unfold VS.data at this;rw[h.cur.len];omega
theorem UseOk.in1 {S:VS} (h:UseOk S) {j:Nat} (hj:j<S.count):j/8<(bk S.cur 1).length:=by have h1:=h.len1;rw[h.cur.len]at h1;rw[bk_len h.cur h1];have:=h.nb;unfold VS.count at hj;omega
theorem UseOk.put {S:VS} (h:UseOk S) (k:Nat) {u:List UInt8} (hu:u.length=512):UseOk (S.put k u):=⟨h.cur.set _ hu,⟨h.vf.names,h.vf.room⟩,h.nb⟩
theorem UseOk.one {S:VS} (h:UseOk S):(bk S.cur 1).length=512:=bk_len h.cur (by have:=h.len1;rw[h.cur.len]at this;exact this)
theorem UseOk.set {S:VS} (h:UseOk S) (j:Nat):UseOk (S.put 1 (setB (bk S.cur 1) j)):=h.put 1 (by rw[setB_len];exact h.one)
theorem UseOk.clr {S:VS} (h:UseOk S) (j:Nat):UseOk (S.put 1 (clrB (bk S.cur 1) j)):=h.put 1 (by rw[clrB_len];exact h.one)
theorem set_bit {S:VS} (h:UseOk S) {j:Nat} (hj:j<S.count) (i:Nat):(S.put 1 (setB (bk S.cur 1) j)).bit i=(decide (i=j)||S.bit i):=by
 show bitB (bk (S.cur.set 1 _) 1) i=_
 rw[bk_set _ _ _ _ h.len1,if_pos rfl,bit_set (h.in1 hj)];rfl
theorem clr_bit {S:VS} (h:UseOk S) {j:Nat} (hj:j<S.count) (i:Nat):(S.put 1 (clrB (bk S.cur 1) j)).bit i=(!decide (i=j)&&S.bit i):=by
 show bitB (bk (S.cur.set 1 _) 1) i=_
 rw[bk_set _ _ _ _ h.len1,if_pos rfl,bit_clr (h.in1 hj)];rfl
theorem downP_bits :∀(k:Nat) (S:VS) (l:List Nat),UseOk S→k≤l.length→(∀s∈l,s<S.count)→UseOk (downP k S l).1∧∀i,(downP k S l).1.bit i=(S.bit i&& !decide (i∈l.drop (l.length-k)))
 |0,S,l,h,_,_=>⟨h,fun i=>by(show S.bit i=_);rw[Nat.sub_zero,List.drop_length];simp⟩
 |k+1,S,l,h,hk,hl=>by
  rcases List.eq_nil_or_concat l with e|⟨l',z,e⟩
  ·subst e;simp at hk
  rw[List.concat_eq_append]at e;subst e;have hz:z<S.count:=hl z (by simp);(have e1:(l'++[z]).getLastD 0=z:=by simp);(have e2:(l'++[z]).dropLast=l':=by simp);(show UseOk (downP k (S.put 1 (clrB (bk S.cur 1) ((l'++[z]).getLastD 0))) (l'++[z]).dropLast).1∧∀i,(downP k (S.put 1 (clrB (bk S.cur 1) ((l'++[z]).getLastD 0))) (l'++[z]).dropLast).1.bit i=_);rw[e1,e2];rw[List.length_append,List.length_singleton]at hk;(obtain⟨h1,h2⟩:=downP_bits k _ l' (h.clr z) (by omega) fun s hs=>hl s (List.mem_append_left _ hs));refine⟨h1,fun i=>?_⟩;rw[h2,clr_bit h hz];(have e3:(l'++[z]).drop ((l'++[z]).length-(k+1))=l'.drop (l'.length-k)++[z]:=by rw[List.length_append,List.length_singleton,show l'.length+1-(k+1)=l'.length-k by omega,List.drop_append_of_le_length (by omega)]);rw[e3];by_cases ei:i=z
  ·simp[ei]
  simp[ei]
theorem upP_bits :∀(k:Nat) (S:VS) (l:List Nat),UseOk S→
  (∀S1 l1,upP k S l=some (S1,l1)→UseOk S1∧∃t,l1=l++t∧t.length=k∧t.Nodup∧(∀j∈t,j<S.count∧S.bit j=false)∧∀i,S1.bit i=(S.bit i||decide (i∈t)))∧
  (upP k S l=none→∃t:List Nat,t.length<k∧∀j<S.count,S.bit j=true∨j∈t)
 |0,S,l,h=>⟨fun S1 l1 e=>by cases e;exact⟨h,[],by simp,rfl,.nil,fun j hj=>(List.not_mem_nil hj).elim,fun i=>by simp⟩,fun e=>by cases e⟩
 |k+1,S,l,h=>by
  cases hf:freeL (bk S.cur 1) S.count with
  |none=>(have e:upP (k+1) S l=none:=by unfold upP;rw[hf]);refine⟨fun S1 l1 e1=>(by rw[e]at e1;cases e1),fun _=>⟨[],by simp,fun j hj=>.inl (freeL_none hf j hj)⟩⟩
  |some j=>
   have e:upP (k+1) S l=upP k (S.put 1 (setB (bk S.cur 1) j)) (l++[j]):=by
    conv=>lhs;unfold upP
    rw[hf]
   obtain⟨hj,hbj,_⟩:=freeL_some hf;obtain⟨h1,h2⟩:=upP_bits k (S.put 1 (setB (bk S.cur 1) j)) (l++[j]) (h.set j);rw[e];constructor
   ·intro S1 l1 e1;obtain⟨h3,t,h4,h5,h6,h7,h8⟩:=h1 S1 l1 e1;(have hjt:j∉t:=fun hm=>by have:=(h7 j hm).2;rw[set_bit h hj]at this;simp at this);refine⟨h3,j::t,by rw[h4,List.append_assoc];rfl,by rw[List.length_cons,h5],List.nodup_cons.2 ⟨hjt,h6⟩,fun i hi=>?_,fun i=>?_⟩
    ·rcases List.mem_cons.1 hi with rfl|hi
     ·exact⟨hj,hbj⟩
     have:=h7 i hi;rw[set_bit h hj]at this;simp at this;exact⟨this.1,this.2.2⟩
    rw[h8,set_bit h hj];by_cases ei:i=j
    ·simp[ei]
    simp[ei]
   intro e1;obtain⟨t,h3,h4⟩:=h2 e1;refine⟨j::t,by rw[List.length_cons];omega,fun i hi=>?_⟩;rcases h4 i hi with h5|h5
   ·rw[set_bit h hj]at h5;by_cases ei:i=j
    ·exact .inr (by rw[ei];exact List.mem_cons_self ..)
    simp[ei]at h5;exact .inl h5
   exact .inr (List.mem_cons_of_mem _ h5)
theorem fit_more {S:VS} {l:List Nat} {n:Nat} (h:UseOk S) (hn:l.length≤n):
  (∀S1 l1,fitP S l n=some (S1,l1)→UseOk S1∧∃t,l1=l++t∧t.length=n-l.length∧t.Nodup∧(∀j∈t,j<S.count∧S.bit j=false)∧∀i,S1.bit i=(S.bit i||decide (i∈t)))∧
  (fitP S l n=none→∃t:List Nat,t.length<n-l.length∧∀j<S.count,S.bit j=true∨j∈t):=by
 have e:fitP S l n=upP (n-l.length) S l:=by unfold fitP;rw[Nat.sub_eq_zero_of_le hn];rfl
 rw[e];exact upP_bits _ _ _ h
theorem fit_less {S:VS} {l:List Nat} {n:Nat} (h:UseOk S) (hn:n≤l.length) (hl:∀s∈l,s<S.count):
  ∃S1,fitP S l n=some (S1,l.take n)∧UseOk S1∧∀i,S1.bit i=(S.bit i&& !decide (i∈l.drop n)):=by
 obtain⟨h1,h2⟩:=downP_bits (l.length-n) S l h (by omega) hl;have h3:=downP_list (l.length-n) S l;rw[show l.length-(l.length-n)=n by omega]at h2 h3;refine⟨(downP (l.length-n) S l).1,?_,h1,h2⟩;unfold fitP;rw[h3,List.length_take,show n-min n l.length=0 by omega];rfl
def sumN (f:Nat→Int) (n:Nat):Int:=((List.range n).map f).sum
theorem sumN_succ (f:Nat→Int) (n:Nat):sumN f (n+1)=sumN f n+f n:=by unfold sumN;rw[List.range_succ,List.map_append,List.sum_append];simp
theorem sumN_congr {f g:Nat→Int} {n:Nat} (h:∀i<n,f i=g i):sumN f n=sumN g n:=by
 induction n with
 |zero=>rfl
 |succ n ih=>rw[sumN_succ,sumN_succ,ih fun i hi=>h i (by omega),h n (by omega)]
theorem sumN_upd {f g:Nat→Int} {n k:Nat} (hk:k<n) (h:∀i<n,i≠k→g i=f i):sumN g n=sumN f n-f k+g k:=by
 induction n with
 |zero=>omega
 |succ n ih=>
  rw[sumN_succ,sumN_succ];by_cases e:k=n
  ·subst e;rw[sumN_congr fun i hi=>h i (by omega) (by omega)];omega
  rw[ih (by omega) fun i hi=>h i (by omega),h n (by omega) (fun e2=>e e2.symm)];omega
end Go.Proofs.YteihmbaimbogaaaGreat
