/- FwL, FvS, FvY, FvZ, laid together. -/
import Derived.Test.YteihmbaimbogaaaGreatJ36
namespace Go.Proofs.YteihmbaimbogaaaGreat
open Go.RowKit
set_option linter.unusedVariables false
set_option linter.unusedSimpArgs false
section
variable {w0 w:World} {R:List aU}
def aj6 :Array Value:=#[.pointer none,.map none,.map none,.int .i64 0,.bool false,.complex .f64 0 0,.int .i64 0,.complex .f64 0 0]
set_option maxRecDepth 100000 in
set_option maxHeartbeats 4000000 in
theorem WT {p n names:Nat} (h0:98+(names+7)/8<n) (h1:n≤4096) (h2:2≤names) (h3:names≤1024) (h:Sep w0 w (aJ p (DK.fresh n)::R)):
  Calls Tryz.prog 34 #[.pointer (some ⟨p,0,none⟩),.int .i64 names] w fun e w'=>∃f q,e= .returned (.tuple #[.pointer (some ⟨f,0,none⟩),.int .i64 0])∧Sep w0 w' (bJ f q p (VS.new n names)::R):=by
 obtain⟨bf,hbf⟩:∃b,b=w.heap.size:=⟨_,rfl⟩;have hok:(DK.fresh n).ok n:=DK.TH (by omega) h1;have hS0:Hid (Sep w0 (((w.alloc (.cells #[.pointer (some ⟨bf+1+1,0,none⟩)] 24)).alloc (.cells #[.int .i64 0] 39)).alloc (.cells aj6 106)) (aJ p (DK.fresh n):: .box (bf+1+1) 106 aj6::aI (bf+1) 0:: .box bf 24 #[.pointer (some ⟨bf+1+1,0,none⟩)]::R)):=Lh (by have:=((h.bN 24 #[.pointer (some ⟨bf+1+1,0,none⟩)]).bN 39 #[.int .i64 0]).bN 106 aj6;simp only[World.size_alloc,←hbf]at this;exact Sep.bZ [3,0,1,2] this (by decide) (by simp[aI]));have hon:=afU hS0.out;have hbs:=AY 0 hok hS0.out rfl;have hlf:=TL (by omega) h1 hS0.out;have q1:(n:Int)≤4096:=by omega
 have q2:(2:Int)≤names:=by omega
 have q3:(names:Int)≤1024:=by omega
 have e0:Int.tdiv ((names:Int)+7) 8=((names+7)/8:Nat):=by rw[Int.tdiv_eq_ediv_of_nonneg (by omega)];omega
 have hpt:=fun W=>rM (n:=names) (by':=8) (by omega) (by omega) (by omega) W
 have e1:((names+8-1)/8:Nat)=(names+7)/8:=by omega
 rw[e1]at hpt;obtain⟨P,hP⟩:∃P,P=(names+7)/8:=⟨_,rfl⟩;rw[←hP]at hpt h0;have hP1:(P:Int)≤128:=by omega
 have h0':98+(P:Int)<n:=by omega
 clear e0;have hdf:(DK.fresh n).off=false:=rfl;rw[hdf]at hon;have QA:∀(fn:Fn) (first cap:Array Value) (w:World),(Instr.makeFunc fn first cap).run Tryz.prog w= .ok (.func fn first cap) w:=fun _ _ _ _=>rfl
 have hcl:Hid (∀W Y,Sep w0 W (Y++ .box bf 24 #[.pointer (some ⟨bf+1+1,0,none⟩)]::R)→W.cell? ⟨bf,0,none⟩=some (.pointer (some ⟨bf+1+1,0,none⟩))):=Lh fun W Y hW=>by(have hi:(Y++ .box bf 24 #[.pointer (some ⟨bf+1+1,0,none⟩)]::R)[Y.length]? =some (.box bf 24 #[.pointer (some ⟨bf+1+1,0,none⟩)]):=by simp);exact hW.bC _ hi 0
 have hc0:=hcl.out _ [_,_,_] hS0.out;clear h hok;unfold aj6 at*;rw[hbf]at*
 go_enter_defers Tryz.func34,Tryz.ntmps34
 go_wp2_with(first |(go_at_call 39;refine hon.mono ?_;rintro e w9 ⟨rfl,h9⟩;obtain rfl:=h9.symm;clear hon)|(go_at_call 84;refine hbs.mono ?_;rintro e w9 ⟨rfl,h9⟩;obtain rfl:=h9.symm;clear hbs)|(go_at_call 85;refine(hpt _).mono ?_;rintro e w9 ⟨rfl,h9⟩;obtain rfl:=h9.symm)|(go_at_call 86;refine hlf.mono ?_;rintro e w9 ⟨q,rfl,h9⟩;(have k0:=h9.bC 3 rfl 0);(have k1:=h9.bF 3 rfl 0);(have h8:=h9.bS 3 rfl 0 (.int .i64 0));(have k2:=h8.bC 3 rfl 0);(have k3:=hcl.out _ [_,_,_,_] h8);simp only[gA,gB]at k0;clear hlf h9;replace h8:=Lh h8)|(go_at_call 43;refine(dI _ _).mono ?_;rintro e w7 ⟨rfl,h7⟩;obtain rfl:=h7.symm));rename_i K1 hK1;refine jM ?_;apply adT (fun W=>Hid (Sep w0 W (aG (w.heap.size+1+1) q p (VS.raw n names) ⟨none,[],w9.heap.size,[]⟩::aI (w.heap.size+1) 0:: .box w.heap.size 24 #[.pointer (some ⟨w.heap.size+1+1,0,none⟩)]::R)))
 ·refine fZ (S:=fun w'=>w'.cell? ⟨w.heap.size,0,none⟩=some (.pointer (some ⟨w.heap.size+1+1,0,none⟩))) 24 (by kernel_rfl) ?_;intro wq hwq;(have hX:Hid (Sep w0 wq (aD q p false::aJ p (DK.made n):: .box (w.heap.size+1+1) 106 #[.pointer none,.map none,.map none,.int .i64 0,.bool false,.complex .f64 0 0,.int .i64 0,.complex .f64 0 0]::aI (w.heap.size+1) 0:: .box w.heap.size 24 #[.pointer (some ⟨w.heap.size+1+1,0,none⟩)]::R)):=by rw[hwq];exact Lh h8.out.drew);(have hsz0:wq.heap.size=w9.heap.size:=by rw[hwq];simp);have hfin:Hid (∀W,Sep w0 W (iI w9.heap.size []::aD q p false::aJ p (DK.made n):: .box (w.heap.size+1+1) 106 #[.pointer (some ⟨q,0,none⟩),.map none,.map (some w9.heap.size),.int .i64 names,.bool false,.complex .f64 0 0,.int .i64 0,.complex .f64 0 0]::aI (w.heap.size+1) 0:: .box w.heap.size 24 #[.pointer (some ⟨w.heap.size+1+1,0,none⟩)]::R)→
    Sep w0 W (aG (w.heap.size+1+1) q p (VS.raw n names) ⟨none,[],w9.heap.size,[]⟩::aI (w.heap.size+1) 0:: .box w.heap.size 24 #[.pointer (some ⟨w.heap.size+1+1,0,none⟩)]::R)):=Lh fun W hW=>by
   (have h5:Sep w0 W (.emp::iI w9.heap.size []::aD q p false::aJ p (DK.made n)::jG (w.heap.size+1+1) q (VS.raw n names) none (.map (some w9.heap.size)) false::aI (w.heap.size+1) 0:: .box w.heap.size 24 #[.pointer (some ⟨w.heap.size+1+1,0,none⟩)]::R):=by unfold jG VS.raw fP;simp only[N9];exact hW.rH);have h6:Sep w0 W (oH (w.heap.size+1+1) q p (VS.raw n names) ⟨none,[],w9.heap.size,[]⟩++(aI (w.heap.size+1) 0:: .box w.heap.size 24 #[.pointer (some ⟨w.heap.size+1+1,0,none⟩)]::R)):=Sep.bZ [4,2,3,0,1] h5 (by decide) (by simp);exact h6.bM
  clear hwq;have hc:=hcl.out _ [_,_,_,_] hX.out;have hmm:= @run_makeMap Tryz.prog;simp only[List.size_toArray,List.length_cons,List.length_nil,Nat.reduceAdd];refine aA (i:=0) (v:=?_) hc rfl ?_ ?_;rotate_left
  ·rintro w e1;go_simp;try with_reducible rfl
  simp only[Act.put,gD];refine aA (i:=1) (v:=?_) hc rfl ?_ ?_;rotate_left
  ·rintro w e1;go_simp;try with_reducible rfl
  simp only[Act.put,gD];refine aA (i:=2) (v:=?_) hc rfl ?_ ?_;rotate_left
  ·rintro w e1;go_simp;try with_reducible rfl
  simp only[Act.put,gD];refine aA (i:=3) (v:=?_) hc rfl ?_ ?_;rotate_left
  ·rintro w e1;go_simp;try with_reducible rfl
  simp only[Act.put,gD];refine aA (i:=4) (v:=?_) hc rfl ?_ ?_;rotate_left
  ·rintro w e1;go_simp;try with_reducible rfl
  simp only[Act.put,gD];refine aA (i:=6) (v:=?_) hc rfl ?_ ?_;rotate_left
  ·rintro w e1;go_simp;try with_reducible rfl
  simp only[Act.put,gD];refine aA (i:=7) (v:=?_) hc rfl ?_ ?_;rotate_left
  ·rintro w e1;go_simp;try with_reducible rfl
  simp only[Act.put,gD];refine aA (i:=8) (v:=?_) hc rfl ?_ ?_;rotate_left
  ·rintro w e1;go_simp;try with_reducible rfl
  simp only[Act.put,gD];refine aA (i:=9) (v:=?_) hc rfl ?_ ?_;rotate_left
  ·rintro w e1;go_simp;try with_reducible rfl
  simp only[Act.put,gD];refine aA (i:=10) (v:=?_) hc rfl ?_ ?_;rotate_left
  ·rintro w e1;go_simp;try with_reducible rfl
  simp only[Act.put,gD]
  -- <<ways
  refine l9 (i:=5) (j:=11) (by kernel_rfl) rfl rfl (fun K hK=>?_) (fun K hK=>?_)
  focus
   go_simp
   have g1:=hX.out.sS
   obtain⟨wx1,hw1⟩:∃x,x=wq.alloc (.map #[] 0):=⟨_,rfl⟩
   rw[hsz0]at g1
   try rw[hsz0]
   have hsz1:wx1.heap.size=w9.heap.size+1:=by rw[hw1];simp[hsz0]
   rw[←hw1]at g1 ⊢
   replace g1:Hid (Sep w0 wx1 (iI w9.heap.size []::aD q p false::aJ p (DK.made n):: .box (w.heap.size+1+1) 106 #[.pointer none,.map none,.map none,.int .i64 0,.bool false,.complex .f64 0 0,.int .i64 0,.complex .f64 0 0]::aI (w.heap.size+1) 0:: .box w.heap.size 24 #[.pointer (some ⟨w.heap.size+1+1,0,none⟩)]::R)):=Lh g1
   have k1:=hcl.out _ [_,_,_,_,_] g1.out
   clear hw1
   try dsimp only
   refine hK _ _ (fun _=>k1) ?_
   clear hK K
   try simp only[Act.put,gD]
   refine aC (i:=11) (by kernel_rfl) rfl (fun K hK=>?_)
   have y2:=g1.out.bC 3 rfl 0
   have z2:=g1.out.bF 3 rfl 0
   have g2:=g1.out.bS 3 rfl 0 (.pointer (some ⟨q,0,none⟩))
   try simp only[gA,gB,gC]at y2
   go_simp
   obtain⟨wx2,hw2⟩:∃x,x=wx1.setCell ⟨w.heap.size+1+1,0,none⟩ (.pointer (some ⟨q,0,none⟩)):=⟨_,rfl⟩
   have hsz2:wx2.heap.size=w9.heap.size+1:=by rw[hw2];simp[hsz1]
   rw[←hw2]at g2 ⊢
   replace g2:Hid (Sep w0 wx2 (iI w9.heap.size []::aD q p false::aJ p (DK.made n):: .box (w.heap.size+1+1) 106 #[.pointer (some ⟨q,0,none⟩),.map none,.map none,.int .i64 0,.bool false,.complex .f64 0 0,.int .i64 0,.complex .f64 0 0]::aI (w.heap.size+1) 0:: .box w.heap.size 24 #[.pointer (some ⟨w.heap.size+1+1,0,none⟩)]::R)):=Lh g2
   have k2:=hcl.out _ [_,_,_,_,_] g2.out
   clear hw2
   try dsimp only
   refine hK _ _ (fun _=>k2) ?_
   clear hK K
   try simp only[Act.put,gD]
   refine aA (i:=12) (v:=?_) k2 rfl ?_ ?_
   rotate_left
   ·rintro w e1;go_simp;try with_reducible rfl
   simp only[Act.put,gD]
   refine aA (i:=13) (v:=?_) k2 rfl ?_ ?_
   rotate_left
   ·rintro w e1;go_simp;try with_reducible rfl
   simp only[Act.put,gD]
   refine aA (i:=14) (v:=?_) k2 rfl ?_ ?_
   rotate_left
   ·rintro w e1;go_simp;try with_reducible rfl
   simp only[Act.put,gD]
   refine aA (i:=15) (v:=?_) k2 rfl ?_ ?_
   rotate_left
   ·rintro w e1;go_simp;try with_reducible rfl
   simp only[Act.put,gD]
   refine aA (i:=16) (v:=?_) k2 rfl ?_ ?_
   rotate_left
   ·rintro w e1;go_simp;try with_reducible rfl
   simp only[Act.put,gD]
   refine aC (i:=17) (by kernel_rfl) rfl (fun K hK=>?_)
   have y3:=g2.out.bC 3 rfl 3
   have z3:=g2.out.bF 3 rfl 3
   have g3:=g2.out.bS 3 rfl 3 (.int .i64 names)
   try simp only[gA,gB,gC]at y3
   go_simp
   obtain⟨wx3,hw3⟩:∃x,x=wx2.setCell ⟨w.heap.size+1+1,3,none⟩ (.int .i64 names):=⟨_,rfl⟩
   have agB:wx3.heap.size=w9.heap.size+1:=by rw[hw3];simp[hsz2]
   rw[←hw3]at g3 ⊢
   replace g3:Hid (Sep w0 wx3 (iI w9.heap.size []::aD q p false::aJ p (DK.made n):: .box (w.heap.size+1+1) 106 #[.pointer (some ⟨q,0,none⟩),.map none,.map none,.int .i64 names,.bool false,.complex .f64 0 0,.int .i64 0,.complex .f64 0 0]::aI (w.heap.size+1) 0:: .box w.heap.size 24 #[.pointer (some ⟨w.heap.size+1+1,0,none⟩)]::R)):=Lh g3
   have k3:=hcl.out _ [_,_,_,_,_] g3.out
   clear hw3
   try dsimp only
   refine hK _ _ (fun _=>k3) ?_
   clear hK K
   try simp only[Act.put,gD]
   refine aA (i:=18) (v:=?_) k3 rfl ?_ ?_
   rotate_left
   ·rintro w e1;go_simp;try with_reducible rfl
   simp only[Act.put,gD]
   refine aA (i:=19) (v:=?_) k3 rfl ?_ ?_
   rotate_left
   ·rintro w e1;go_simp;try with_reducible rfl
   simp only[Act.put,gD]
   refine aA (i:=20) (v:=?_) k3 rfl ?_ ?_
   rotate_left
   ·rintro w e1;go_simp;try with_reducible rfl
   simp only[Act.put,gD]
   refine aA (i:=21) (v:=?_) k3 rfl ?_ ?_
   rotate_left
   ·rintro w e1;go_simp;try with_reducible rfl
   simp only[Act.put,gD]
   refine aA (i:=22) (v:=?_) k3 rfl ?_ ?_
   rotate_left
   ·rintro w e1;go_simp;try with_reducible rfl
   simp only[Act.put,gD]
   refine aC (i:=23) (by kernel_rfl) rfl (fun K hK=>?_)
   have y4:=g3.out.bC 3 rfl 2
   have z4:=g3.out.bF 3 rfl 2
   have g4:=g3.out.bS 3 rfl 2 (.map (some w9.heap.size))
   try simp only[gA,gB,gC]at y4
   go_simp
   obtain⟨wx4,hw4⟩:∃x,x=wx3.setCell ⟨w.heap.size+1+1,2,none⟩ (.map (some w9.heap.size)):=⟨_,rfl⟩
   have asF:wx4.heap.size=w9.heap.size+1:=by rw[hw4];simp[agB]
   rw[←hw4]at g4 ⊢
   replace g4:Hid (Sep w0 wx4 (iI w9.heap.size []::aD q p false::aJ p (DK.made n):: .box (w.heap.size+1+1) 106 #[.pointer (some ⟨q,0,none⟩),.map none,.map (some w9.heap.size),.int .i64 names,.bool false,.complex .f64 0 0,.int .i64 0,.complex .f64 0 0]::aI (w.heap.size+1) 0:: .box w.heap.size 24 #[.pointer (some ⟨w.heap.size+1+1,0,none⟩)]::R)):=Lh g4
   have k4:=hcl.out _ [_,_,_,_,_] g4.out
   clear hw4
   try dsimp only
   refine hK _ _ (fun _=>k4) ?_
   clear hK K
   try simp only[Act.put,gD]
   refine aO (by kernel_rfl) ?_ _
   refine⟨rfl,Lh (hfin.out _ g4.out)⟩
  focus
   have y1:=hX.out.bC 2 rfl 0
   have z1:=hX.out.bF 2 rfl 0
   have g1:=hX.out.bS 2 rfl 0 (.pointer (some ⟨q,0,none⟩))
   try simp only[gA,gB,gC]at y1
   go_simp
   obtain⟨wx1,hw1⟩:∃x,x=wq.setCell ⟨w.heap.size+1+1,0,none⟩ (.pointer (some ⟨q,0,none⟩)):=⟨_,rfl⟩
   have hsz1:wx1.heap.size=w9.heap.size:=by rw[hw1];simp[hsz0]
   rw[←hw1]at g1 ⊢
   replace g1:Hid (Sep w0 wx1 (aD q p false::aJ p (DK.made n):: .box (w.heap.size+1+1) 106 #[.pointer (some ⟨q,0,none⟩),.map none,.map none,.int .i64 0,.bool false,.complex .f64 0 0,.int .i64 0,.complex .f64 0 0]::aI (w.heap.size+1) 0:: .box w.heap.size 24 #[.pointer (some ⟨w.heap.size+1+1,0,none⟩)]::R)):=Lh g1
   have k1:=hcl.out _ [_,_,_,_] g1.out
   clear hw1
   try dsimp only
   refine hK _ _ (fun _=>k1) ?_
   clear hK K
   try simp only[Act.put,gD]
   refine aA (i:=12) (v:=?_) k1 rfl ?_ ?_
   rotate_left
   ·rintro w e1;go_simp;try with_reducible rfl
   simp only[Act.put,gD]
   refine aA (i:=13) (v:=?_) k1 rfl ?_ ?_
   rotate_left
   ·rintro w e1;go_simp;try with_reducible rfl
   simp only[Act.put,gD]
   refine aA (i:=14) (v:=?_) k1 rfl ?_ ?_
   rotate_left
   ·rintro w e1;go_simp;try with_reducible rfl
   simp only[Act.put,gD]
   refine aA (i:=15) (v:=?_) k1 rfl ?_ ?_
   rotate_left
   ·rintro w e1;go_simp;try with_reducible rfl
   simp only[Act.put,gD]
   refine aA (i:=16) (v:=?_) k1 rfl ?_ ?_
   rotate_left
   ·rintro w e1;go_simp;try with_reducible rfl
   simp only[Act.put,gD]
   refine l9 (i:=5) (j:=17) (by kernel_rfl) rfl rfl (fun K hK=>?_) (fun K hK=>?_)
   focus
    go_simp
    have g2:=g1.out.sS
    obtain⟨wx2,hw2⟩:∃x,x=wx1.alloc (.map #[] 0):=⟨_,rfl⟩
    rw[hsz1]at g2
    try rw[hsz1]
    have hsz2:wx2.heap.size=w9.heap.size+1:=by rw[hw2];simp[hsz1]
    rw[←hw2]at g2 ⊢
    replace g2:Hid (Sep w0 wx2 (iI w9.heap.size []::aD q p false::aJ p (DK.made n):: .box (w.heap.size+1+1) 106 #[.pointer (some ⟨q,0,none⟩),.map none,.map none,.int .i64 0,.bool false,.complex .f64 0 0,.int .i64 0,.complex .f64 0 0]::aI (w.heap.size+1) 0:: .box w.heap.size 24 #[.pointer (some ⟨w.heap.size+1+1,0,none⟩)]::R)):=Lh g2
    have k2:=hcl.out _ [_,_,_,_,_] g2.out
    clear hw2
    try dsimp only
    refine hK _ _ (fun _=>k2) ?_
    clear hK K
    try simp only[Act.put,gD]
    refine aC (i:=17) (by kernel_rfl) rfl (fun K hK=>?_)
    have y3:=g2.out.bC 3 rfl 3
    have z3:=g2.out.bF 3 rfl 3
    have g3:=g2.out.bS 3 rfl 3 (.int .i64 names)
    try simp only[gA,gB,gC]at y3
    go_simp
    obtain⟨wx3,hw3⟩:∃x,x=wx2.setCell ⟨w.heap.size+1+1,3,none⟩ (.int .i64 names):=⟨_,rfl⟩
    have agB:wx3.heap.size=w9.heap.size+1:=by rw[hw3];simp[hsz2]
    rw[←hw3]at g3 ⊢
    replace g3:Hid (Sep w0 wx3 (iI w9.heap.size []::aD q p false::aJ p (DK.made n):: .box (w.heap.size+1+1) 106 #[.pointer (some ⟨q,0,none⟩),.map none,.map none,.int .i64 names,.bool false,.complex .f64 0 0,.int .i64 0,.complex .f64 0 0]::aI (w.heap.size+1) 0:: .box w.heap.size 24 #[.pointer (some ⟨w.heap.size+1+1,0,none⟩)]::R)):=Lh g3
    have k3:=hcl.out _ [_,_,_,_,_] g3.out
    clear hw3
    try dsimp only
    refine hK _ _ (fun _=>k3) ?_
    clear hK K
    try simp only[Act.put,gD]
    refine aA (i:=18) (v:=?_) k3 rfl ?_ ?_
    rotate_left
    ·rintro w e1;go_simp;try with_reducible rfl
    simp only[Act.put,gD]
    refine aA (i:=19) (v:=?_) k3 rfl ?_ ?_
    rotate_left
    ·rintro w e1;go_simp;try with_reducible rfl
    simp only[Act.put,gD]
    refine aA (i:=20) (v:=?_) k3 rfl ?_ ?_
    rotate_left
    ·rintro w e1;go_simp;try with_reducible rfl
    simp only[Act.put,gD]
    refine aA (i:=21) (v:=?_) k3 rfl ?_ ?_
    rotate_left
    ·rintro w e1;go_simp;try with_reducible rfl
    simp only[Act.put,gD]
    refine aA (i:=22) (v:=?_) k3 rfl ?_ ?_
    rotate_left
    ·rintro w e1;go_simp;try with_reducible rfl
    simp only[Act.put,gD]
    refine aC (i:=23) (by kernel_rfl) rfl (fun K hK=>?_)
    have y4:=g3.out.bC 3 rfl 2
    have z4:=g3.out.bF 3 rfl 2
    have g4:=g3.out.bS 3 rfl 2 (.map (some w9.heap.size))
    try simp only[gA,gB,gC]at y4
    go_simp
    obtain⟨wx4,hw4⟩:∃x,x=wx3.setCell ⟨w.heap.size+1+1,2,none⟩ (.map (some w9.heap.size)):=⟨_,rfl⟩
    have asF:wx4.heap.size=w9.heap.size+1:=by rw[hw4];simp[agB]
    rw[←hw4]at g4 ⊢
    replace g4:Hid (Sep w0 wx4 (iI w9.heap.size []::aD q p false::aJ p (DK.made n):: .box (w.heap.size+1+1) 106 #[.pointer (some ⟨q,0,none⟩),.map none,.map (some w9.heap.size),.int .i64 names,.bool false,.complex .f64 0 0,.int .i64 0,.complex .f64 0 0]::aI (w.heap.size+1) 0:: .box w.heap.size 24 #[.pointer (some ⟨w.heap.size+1+1,0,none⟩)]::R)):=Lh g4
    have k4:=hcl.out _ [_,_,_,_,_] g4.out
    clear hw4
    try dsimp only
    refine hK _ _ (fun _=>k4) ?_
    clear hK K
    try simp only[Act.put,gD]
    refine aO (by kernel_rfl) ?_ _
    refine⟨rfl,Lh (hfin.out _ g4.out)⟩
   focus
    have y2:=g1.out.bC 2 rfl 3
    have z2:=g1.out.bF 2 rfl 3
    have g2:=g1.out.bS 2 rfl 3 (.int .i64 names)
    try simp only[gA,gB,gC]at y2
    go_simp
    obtain⟨wx2,hw2⟩:∃x,x=wx1.setCell ⟨w.heap.size+1+1,3,none⟩ (.int .i64 names):=⟨_,rfl⟩
    have hsz2:wx2.heap.size=w9.heap.size:=by rw[hw2];simp[hsz1]
    rw[←hw2]at g2 ⊢
    replace g2:Hid (Sep w0 wx2 (aD q p false::aJ p (DK.made n):: .box (w.heap.size+1+1) 106 #[.pointer (some ⟨q,0,none⟩),.map none,.map none,.int .i64 names,.bool false,.complex .f64 0 0,.int .i64 0,.complex .f64 0 0]::aI (w.heap.size+1) 0:: .box w.heap.size 24 #[.pointer (some ⟨w.heap.size+1+1,0,none⟩)]::R)):=Lh g2
    have k2:=hcl.out _ [_,_,_,_] g2.out
    clear hw2
    try dsimp only
    refine hK _ _ (fun _=>k2) ?_
    clear hK K
    try simp only[Act.put,gD]
    refine aC (i:=5) (by kernel_rfl) rfl (fun K hK=>?_)
    go_simp
    have g3:=g2.out.sS
    obtain⟨wx3,hw3⟩:∃x,x=wx2.alloc (.map #[] 0):=⟨_,rfl⟩
    rw[hsz2]at g3
    try rw[hsz2]
    have agB:wx3.heap.size=w9.heap.size+1:=by rw[hw3];simp[hsz2]
    rw[←hw3]at g3 ⊢
    replace g3:Hid (Sep w0 wx3 (iI w9.heap.size []::aD q p false::aJ p (DK.made n):: .box (w.heap.size+1+1) 106 #[.pointer (some ⟨q,0,none⟩),.map none,.map none,.int .i64 names,.bool false,.complex .f64 0 0,.int .i64 0,.complex .f64 0 0]::aI (w.heap.size+1) 0:: .box w.heap.size 24 #[.pointer (some ⟨w.heap.size+1+1,0,none⟩)]::R)):=Lh g3
    have k3:=hcl.out _ [_,_,_,_,_] g3.out
    clear hw3
    try dsimp only
    refine hK _ _ (fun _=>k3) ?_
    clear hK K
    try simp only[Act.put,gD]
    refine aA (i:=18) (v:=?_) k3 rfl ?_ ?_
    rotate_left
    ·rintro w e1;go_simp;try with_reducible rfl
    simp only[Act.put,gD]
    refine aA (i:=19) (v:=?_) k3 rfl ?_ ?_
    rotate_left
    ·rintro w e1;go_simp;try with_reducible rfl
    simp only[Act.put,gD]
    refine aA (i:=20) (v:=?_) k3 rfl ?_ ?_
    rotate_left
    ·rintro w e1;go_simp;try with_reducible rfl
    simp only[Act.put,gD]
    refine aA (i:=21) (v:=?_) k3 rfl ?_ ?_
    rotate_left
    ·rintro w e1;go_simp;try with_reducible rfl
    simp only[Act.put,gD]
    refine aA (i:=22) (v:=?_) k3 rfl ?_ ?_
    rotate_left
    ·rintro w e1;go_simp;try with_reducible rfl
    simp only[Act.put,gD]
    refine aC (i:=23) (by kernel_rfl) rfl (fun K hK=>?_)
    have y4:=g3.out.bC 3 rfl 2
    have z4:=g3.out.bF 3 rfl 2
    have g4:=g3.out.bS 3 rfl 2 (.map (some w9.heap.size))
    try simp only[gA,gB,gC]at y4
    go_simp
    obtain⟨wx4,hw4⟩:∃x,x=wx3.setCell ⟨w.heap.size+1+1,2,none⟩ (.map (some w9.heap.size)):=⟨_,rfl⟩
    have asF:wx4.heap.size=w9.heap.size+1:=by rw[hw4];simp[agB]
    rw[←hw4]at g4 ⊢
    replace g4:Hid (Sep w0 wx4 (iI w9.heap.size []::aD q p false::aJ p (DK.made n):: .box (w.heap.size+1+1) 106 #[.pointer (some ⟨q,0,none⟩),.map none,.map (some w9.heap.size),.int .i64 names,.bool false,.complex .f64 0 0,.int .i64 0,.complex .f64 0 0]::aI (w.heap.size+1) 0:: .box w.heap.size 24 #[.pointer (some ⟨w.heap.size+1+1,0,none⟩)]::R)):=Lh g4
    have k4:=hcl.out _ [_,_,_,_,_] g4.out
    clear hw4
    try dsimp only
    refine hK _ _ (fun _=>k4) ?_
    clear hK K
    try simp only[Act.put,gD]
    refine aO (by kernel_rfl) ?_ _
    refine⟨rfl,Lh (hfin.out _ g4.out)⟩
  --ways>>
 intro W hW0;have af3:98+(names+7)/8<n:=by omega
 simp only[mF];exact hK1 _ _ (TQ af3 h1 h2 h3 hW0.out)
end
def lC (nb names:Nat):Nat:=nb-96-(2+(names+7)/8)
def pY (nb names:Nat) (ns:List TN) (fs:List FT):Bool:=decide (mJ ns fs≤lC nb names)&&decide (kD ns≤names)
structure WU (S:VS) (ns:List TN) (fs:List FT) (nb names:Nat):Prop where
 nm:S.names=names
 nbe:S.nb=nb
 vt:∃g dn φ,Vt S.base ns fs g dn φ
def Next (S S':VS):Prop:=S'=S.base∨∃S1:VS,S'=S1.settled∧S1.D=S.D∧S1.nb=S.nb∧S1.aV.2=true∧bk S'.D.now 96=bk S.D.now 96
def agC (S S':VS) (ns':List TN) (fs':List FT) (φ:Int→Nat) (m:Nat):Prop:=Next S S'∧∃g' WO φ',Vt S'.base ns' fs' g' WO φ'∧Agr m φ φ'
section
variable {w0 w:World} {R:List aU} {f q p:Nat} {S:VS} {ns:List TN} {fs:List FT} {nb names:Nat}
theorem WU.base (h:WU S ns fs nb names):WU S.base ns fs nb names:=⟨h.nm,h.nbe,h.vt⟩
theorem TS (h:Sep w0 w (bJ f q p S::R)):96<S.nb:=by obtain⟨_,_,_,hR,_⟩:=h.mZ;exact hR.big
theorem WU.ends {r:Except Int (Option VS)} {ns':List TN} {fs':List FT} {x:Int} {g:LT} {dn:Key→Nat} {φ:Int→Nat} (hL:WU S ns fs nb names) (hV:Vt S.base ns fs g dn φ) (hok:S.D.ok S.nb) (KR:96<S.nb) (hD:TG φ fs.length S.base r ns' fs') (h:rD f q p S.base r w0 w R x):
  if pY nb names ns' fs'=true then
   (x=0∧∃S',WU S' ns' fs' nb names∧agC S S' ns' fs' φ fs.length∧(S.D.off=false→S.D.left<0→S'.D.off=false∧S'.D.left=S.D.left)∧Sep w0 w (bJ f q p S'::R))∨
   (x=11∧¬(S.D.off=false∧S.D.left<0)∧∃S1:VS,S1.nb=nb∧S1.D=S.D∧iX (nb-96) S1.cur∧(gT S1).length≤40∧S1.aV.2=false∧Sep w0 w (DN f q p true::aJ p S1.aV.1::R))
  else x=27∧Sep w0 w (bJ f q p S.base::R):=by
 obtain⟨y,rfl,hno,ad9⟩:=hD;have hrB:(S.base.rB:Int)=lC nb names:=by rw[hV.kS.rB];(show((S.nb-96-(2+(S.names+7)/8):Nat):Int)=_);rw[hL.nm,hL.nbe];rfl
 have hrI:(S.base.rI:Int)=names:=by rw[hV.kS.rI];(show(S.names:Int)=_);rw[hL.nm]
 unfold rD at h;cases y with
 |none=>
  have h1:=hno rfl;rw[hrB,hrI]at h1;rw[if_neg]
  ·exact h
  unfold pY;rw[Bool.and_eq_true,decide_eq_true_eq,decide_eq_true_eq];omega
 |some S1=>
  obtain⟨mE,hlen,g',WO,φ',hC,hR,hAg⟩:=ad9 S1 rfl;have hnm:S1.names=S.base.names:=hC.like.names;(have hwB:S1.wB=mJ ns' fs':=by rw[hC.ph.wB,hnm];exact hR.wB (by rw[←hnm];exact hC.ph.fair));(have hwI:S1.wI=kD ns':=by rw[hC.ph.wI,hnm];exact hR.wI (by rw[←hnm];exact hC.ph.fair));have asG:S1.rB=lC nb names:=hC.like.rB.trans hrB;have asH:S1.rI=names:=hC.like.rI.trans hrI;(have hfits:uK S1=pY nb names ns' fs':=by unfold uK pY;rw[hwB,hwI,asG,asH]);simp only[hfits]at h;have hDe:S1.D=S.D:=hC.like.D;(have hD1:S1.D.ok S1.nb:=by rw[hDe,show S1.nb=S.nb from hC.like.nb];exact hok);(have asI:96<S1.nb:=by rw[show S1.nb=S.nb from hC.like.nb];exact KR);(have Y0:oU (S1.D.now.drop 96) S1:=by rw[hDe];exact mE);by_cases hf:pY nb names ns' fs'=true
  ·rw[if_pos hf]at h ⊢;by_cases hc:S1.aV.2=true
   ·rw[if_pos hc]at h;have hVt:Vt S1.settled.base ns' fs' g' WO φ':=by
     refine Vt.of (hC.ph.settled hD1 asI Y0.1 hC.m hc) hR hnm hlen ?_ ?_ rfl
     ·(show S1.rB=((S1.nb-96-(2+(S1.names+7)/8):Nat):Int));rw[asG,show S1.nb=nb from(hC.like.nb).trans hL.nbe,hnm,show S.base.names=names from hL.nm];rfl
     (show S1.rI=(S1.names:Int));rw[asH,hnm,show S.base.names=names from hL.nm]
    (have axI:bk S1.settled.D.now 96=bk S.D.now 96:=by have e1:=vT hD1 asI hC.ph.use.cur Y0.1 hC.m hc;have e2:bk (S1.settled.D.now.drop 96) 0=bk S1.cur 0:=congrArg (fun c=>bk c 0) e1;rw[wU,Y0.2,wU,hDe]at e2;exact e2);refine .inl ⟨h.1,S1.settled,⟨?_,?_,g',WO,φ',hVt⟩,⟨.inr ⟨S1,rfl,hDe,hC.like.nb,hc,axI⟩,g',WO,φ',hVt,hAg⟩,fun ho hl=>?_,h.2⟩
    ·(show S1.names=names);rw[hnm];exact hL.nm
    ·(show S1.nb=nb);rw[show S1.nb=S.nb from hC.like.nb];exact hL.nbe
    have:=qV (S:=S1) (by rw[hDe];exact ho) (by rw[hDe];exact hl);exact⟨this.2.1,by rw[show S1.settled.D.left=S1.aV.1.left from rfl,this.2.2,hDe]⟩
   rw[if_neg hc]at h;refine .inr ⟨h.1,fun⟨ho,hl⟩=>hc (qV (S:=S1) (by rw[hDe];exact ho) (by rw[hDe];exact hl)).1,S1,(hC.like.nb).trans hL.nbe,hDe,?_,Nat.le_trans Y0.1.puts hC.m,by simpa using hc,h.2⟩;have:=hC.ph.use.cur;rw[show S1.nb=nb from(hC.like.nb).trans hL.nbe]at this;exact this
  rw[if_neg hf]at h ⊢;exact h
end
end Go.Proofs.YteihmbaimbogaaaGreat
namespace Go.Proofs.YteihmbaimbogaaaGreat
set_option linter.unusedVariables false
set_option linter.unusedSimpArgs false
def kU (ns:List TN) (K:Key):List TN:=ns.filter fun m=> !(bK m==K)
theorem CR :∀ {ns:List TN} {n:TN},(ns.map bK).Nodup→n∈ns→ns.Perm (n::kU ns (bK n))
 |a::t,n,hu,hn=>by
  rw[List.map_cons,List.nodup_cons]at hu;unfold kU;rw[List.filter_cons];rcases List.mem_cons.1 hn with e|hn
  ·subst e;rw[if_neg (by simp)];(have e2:t.filter (fun m=> !(bK m==bK n))=t:=by rw[List.filter_eq_self];intro m hm;(have:bK m≠bK n:=fun e=>hu.1 (List.mem_map.2 ⟨m,hm,e⟩));simp[this]);rw[e2]
  (have hne:bK a≠bK n:=fun e=>hu.1 (List.mem_map.2 ⟨n,hn,e.symm⟩));rw[if_pos (by simp[hne])];exact((CR hu.2 hn).cons a).trans (List.Perm.swap _ _ _)
theorem WV (g:LT) (n:Nat) (x y:LI):dO (dO g n x) n y=dO g n y:=by funext i;unfold dO;split<;>rfl
section
variable {S:VS} {g:LT} {ns:List TN} {fs:List FT} {dn:Key→Nat} {φ:Int→Nat}
theorem Vt.entry (h:Vt S ns fs g dn φ) {p:List UInt8} {n:TN} (hn:gW ns (splitB p)=some n) (hP:fH ns (splitB p).dropLast):
  ∃i,i<(g (dn (splitB p).dropLast)).aY.length∧(iR (g (dn (splitB p).dropLast)).aY (aR p)).1=i∧pI (g (dn (splitB p).dropLast)).aY i=(aR p,dJ dn φ n):=by
 have hf:=h.rep.find hP (aR p);rw[←pX,hn]at hf;rcases vS (g (dn (splitB p).dropLast)).aY (aR p)with⟨i,h1,h2,h3,h4⟩|⟨_,h4⟩
 ·refine⟨i,h1,h3,?_⟩;rw[hf]at h4;have e1:dJ dn φ n=(iR (g (dn (splitB p).dropLast)).aY (aR p)).2:=Option.some.inj h4;rw[h2,e1]
 rw[hf]at h4;cases h4
theorem mI.abP {nm:Nat} (h:mI g nm ns fs dn φ) {n:TN} (hn:n∈ns) (hf:n.file≠ -1):fU ns (bK n)=[]:=by
 unfold fU;rw[List.filter_eq_nil_iff];intro m hm hk;have e:(bK m).dropLast=bK n:=by simpa using hk
 rcases h.up m hm with h1|⟨a,ha,h1,h2⟩
 ·exact O4 n (by rw[←e,h1])
 have:a=n:=TC h.uniq ha hn (by rw[h1,e]);rw[this]at h2;exact hf h2
theorem abQ {n:TN} {K:Key} (h:fU ns K=[]):fU (kU ns (bK n)) K=[]:=by unfold fU kU at*;rw[List.filter_eq_nil_iff]at h ⊢;intro m hm;exact h m (List.mem_filter.1 hm).1
theorem Vt.agD (h:Vt S ns fs g dn φ) {p:List UInt8} {n:TN} (hv:aP p=true) (hn:gW ns (splitB p)=some n) (hP:fH ns (splitB p).dropLast) (hf:n.file≠ -1):
  TG φ fs.length S (.ok (some (lG S (dn (splitB p).dropLast) (aR p) (φ n.file)))) (kU ns (splitB p)) fs∧IV S (dn (splitB p).dropLast) p (φ n.file):=by
 obtain⟨hnm,hnk⟩:=nG hn;obtain⟨ix,hi,hl,he⟩:=h.entry hn hP;have hbase:(aR p).length≤15:=by have:=JB hv;omega
 obtain⟨hd1,hd2⟩:=h.rep.SV hP;obtain⟨_,hj1,hj2,_,hj3⟩:=h.rep.file n hnm hf;have qJ:dJ dn φ n=φ n.file:=by unfold dJ;rw[if_neg hf]
 rw[qJ]at he;obtain⟨d,hd⟩:∃d,d=dn (splitB p).dropLast:=⟨_,rfl⟩;obtain⟨j,hj⟩:∃j,j=φ n.file:=⟨_,rfl⟩;rw[←hd]at hi hl he hd1 hd2;rw[←hj]at he hj1 hj2 hj3;rw[←hd,←hj];have hjd:j≠d:=fun e=>by rw[e,hd2]at hj2;cases hj2
 --the tree
 have hperm:=CR h.rep.uniq hnm;have hR0:=h.rep.perm hperm;rw[hnk]at hperm hR0;have hkey:bK n=splitB p:=hnk;have hlast:(bK n).getLastD []=aR p:=by rw[hkey];rfl
 have Y1:fU (kU ns (splitB p)) (bK n)=[]:=by have:=abQ (n:=n) (h.rep.abP hnm hf);rw[hnk]at this ⊢;exact this
 have Y3:=fun(x:LI) hx=>hR0.aw0 (x:=x) (ix:=ix) Y1 hx (by rw[hkey,←hd];exact hi) (by rw[hkey,←hd,qJ,←hj];exact he.trans (by rw[←hkey,hlast]))
 rw[hkey,←hd,qJ,←hj]at Y3;have hcnt:(g j).links=1+(kU ns (splitB p)).countP fun m=>decide (m.file=n.file):=by rw[hj3,hperm.countP_eq,List.countP_cons,if_pos (by simp)];omega
 --the blocks
 have hL:=h.kS.ph.leave hd1 hd2 hi hl;have hlv:=h.kS.ph.ajX hd1 hd2 hbase hi hl;obtain⟨S1,hS1⟩:∃S1,S1=bY S d (aR p):=⟨_,rfl⟩;have hL1:dY S S1:=by rw[hS1];exact D5 _ _ _
 have hm1:S1.m≤4:=by rw[hS1];have:=h.kS.ph.ajY (name:=aR p) hd1 hd2;rw[h.m]at this;omega
 have hF1:oU S.cur S1:=by rw[hS1];exact(oU.refl S).bY _ _
 rw[←hS1]at hL;obtain⟨g1,hg1⟩:∃g1,g1=dO g d ((g d).less ix):=⟨_,rfl⟩;rw[←hg1]at hL Y3;have abR:j<S1.names:=by rw[hL1.names];exact hj1
 have gj:g1 j=g j:=by rw[hg1,eU _ _ hjd]
 have hfair:=hL.fair j abR;obtain⟨x,hx⟩:∃x:LI,x= {g1 j with links:=(g1 j).links-1}:=⟨_,rfl⟩;have hxf:x.fair:=by rw[hx];exact⟨hfair.kind,hfair.aY,hfair.data,hfair.few,hfair.short,hfair.mode,by show(g1 j).links-1<65536;have:=hfair.links;omega,hfair.names⟩
 have hM:=hL.meta abR (x:=x) hxf (by rw[hx]) (by rw[hx]) (by rw[hx]);have hy:({aF S1.cur j with links:=(aF S1.cur j).links-1}:VI)=x.vi (aF S1.cur j).aB:=by
  have:=hL.head j abR;rw[hx]
  conv=>lhs;rw[this]
  rfl
 have hyl:(aF S1.cur j).links=(g j).links:=by rw[hL.head j abR,gj];rfl
 have hsm:(aF S1.cur j).aB.length≤16:=by rw[hL.len j abR,gj];have:=(h.kS.ph.fair j hj1).short;unfold LI.need;rw[if_neg (by omega),if_pos hj2];omega
 rw[←hy]at hM;obtain⟨S2,hS2⟩:∃S2,S2=S1.keep j {aF S1.cur j with links:=(aF S1.cur j).links-1}:=⟨_,rfl⟩;rw[←hS2]at hM;have hL2:dY S S2:=by rw[hS2];exact hL1.keep _ _
 have hm2:S2.m≤5:=by rw[hS2];show S1.m+1≤5;omega
 have hF2:oU S.cur S2:=by rw[hS2];exact hF1.keep _ _
 have aDB:(aF S2.cur j).aB.length≤16:=by rw[hM.len j (by rw[hL2.names];exact hj1),dQ,hx,gj];have:=(h.kS.ph.fair j hj1).short;unfold LI.need;rw[if_neg (by show ¬(g j).kind=1;omega),if_pos (by exact hj2)];(show((g j).data.length+511)/512≤16);omega
 have hun:lG S d (aR p) j=if(g j).links-1=0 then nO S2 j else S2:=by unfold lG;simp only;rw[←hS1,←hS2,hyl]
 have hlen:(kU ns (splitB p)).length≤256:=by have h1:=hperm.length_eq;rw[List.length_cons]at h1;have:=h.nodes;have:=h.kS.few;omega
 have axJ:∃g',Chg S g' (lG S d (aR p) j)∧mI g' S.names (kU ns (splitB p)) fs dn φ:=by
  rw[hun];by_cases h0:(g j).links-1=0
  ·rw[if_pos h0];(have hc0:(kU ns (splitB p)).countP (fun m=>decide (m.file=n.file))=0:=by omega);have hno:∀m∈kU ns (splitB p),dJ dn φ m≠j:=fun m hm e=>by
    have hmn:m∈ns:=(List.mem_filter.1 hm).1;(have hne:m.file≠n.file:=by simpa using List.countP_eq_zero.1 hc0 m hm);rcases h.rep.inj m hmn n hnm (by rw[e,qJ,hj])with h8|h8
    ·exact hne (by rw[h8])
    exact hne h8.2
   have hDr:=hM.drop (n:=j) (by rw[hL2.names];exact hj1) (by rw[dQ,hx,gj];exact(h.kS.ph.fair j hj1).aY (by omega));rw[WV]at hDr;refine⟨_,⟨hDr,hL2.trans (V3 _ _),?_⟩,Y3 LI0 (.inr ⟨rfl,hno⟩)⟩;have:=anL S2 j;omega
  rw[if_neg h0];(have hex:∃m∈kU ns (splitB p),m.file=n.file:=by(have:0<(kU ns (splitB p)).countP fun m=>decide (m.file=n.file):=by omega);obtain⟨m,hm,e⟩:=List.countP_pos_iff.1 this;exact⟨m,hm,by simpa using e⟩);have hl2:=Y3 x (.inl ⟨hf,by rw[hx,gj],hex⟩);exact⟨_,⟨hM,hL2,by omega⟩,hl2⟩
 obtain⟨g',hC,hR⟩:=axJ;refine⟨⟨_,rfl,fun e=>(by cases e),fun T hT=>?_⟩,?_⟩
 ·cases hT;refine⟨?_,hlen,g',dn,φ,hC,hR,fun _ _=>rfl⟩;rw[hun];split
  ·exact hF2.nO _
  exact hF2
 refine⟨hlv,h.kS.ph.sv,?_,?_,?_,?_,?_,?_⟩
 ·rw[←hS1];exact hL.YU abR
 ·rw[←hS1,hyl];omega
 ·rw[←hS1];exact hL.sw
 ·rw[←hS1,←hS2];exact hM.YU (by rw[hL2.names];exact hj1)
 ·rw[←hS1,←hS2];exact hM.sw
 exact bI.SQ ⟨h.kS.rB,h.kS.rI⟩ h.kS.ph.use hC.like hC.ph hC.m
end
end Go.Proofs.YteihmbaimbogaaaGreat
