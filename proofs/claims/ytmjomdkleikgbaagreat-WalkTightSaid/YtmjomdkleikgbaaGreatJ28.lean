/- Parts. -/
import Derived.Test.YtmjomdkleikgbaaGreatJ27
set_option linter.unusedVariables false
set_option linter.unusedSimpArgs false
set_option maxRecDepth 100000
set_option maxHeartbeats 20000000
namespace Go.Proofs.YtmjomdkleikgbaaGreat
open Go.RowKit
section
variable {w0 w:World} {R:List aZ}
def avZ :Array Value:=#[.pointer none,.map none,.map none,iV 0,.bool false,.complex .f64 0 0,iV 0,.complex .f64 0 0]
theorem ag3 {p n names:Nat} (h0:98+(names+7)/8<n) (h1:n<=4096) (h2:2<=names) (h3:names<=1024) (h:Sep w0 w (aO p (DK.fresh n)::R)):
  Calls Tryz.prog 38 #[pV p,iV names] w fun e w'=>∃f q,e= .returned (.tuple #[pV f,iV 0])/\Sep w0 w' (bH f q p (VS.new n names)::R):=by
 obtain⟨bf,hbf⟩:∃b,b=w.heap.size:=⟨_,rfl⟩;have hok:(DK.fresh n).ok n:=DK.ac5 aD h1;have hS0:Hid (Sep w0 (((w.alloc (.cells #[pV (bf+1+1)] 37)).alloc (.cells #[iV 0] 40)).alloc (.cells avZ 119)) (aO p (DK.fresh n):: .box (bf+1+1) 119 avZ::aJ (bf+1) 0:: .box bf 37 #[pV (bf+1+1)]::R)):=Lh (by have:=((h.bN 37 #[pV (bf+1+1)]).bN 40 #[iV 0]).bN 119 avZ;simp only[World.size_alloc,<-hbf]at this;exact Sep.dE [3,0,1,2] this aV (by simp[aJ]));have hon:=aqT hS0.out;have hbs:=IY 0 hok hS0.out rfl;have hlf:=ac9 aD h1 hS0.out;have q1:(n:Int)<=4096:=by omega
 have q2:(2:Int)<=names:=by omega
 have q3:(names:Int)<=1024:=by omega
 have e0:Int.tdiv ((names:Int)+7) 8=((names+7)/8:Nat):=by rw[aaU aD];omega
 have hpt:=fun W=>xA (n:=names) (by':=8) aD aD aD W
 have e1:((names+8-1)/8:Nat)=(names+7)/8:=by omega
 rw[e1]at hpt;obtain⟨P,hP⟩:∃P,P=(names+7)/8:=⟨_,rfl⟩;rw[<-hP]at hpt h0;have hP1:(P:Int)<=128:=by omega
 have h0':98+(P:Int)<n:=by omega
 clear e0;have hdf:(DK.fresh n).off=false:=rfl;rw[hdf]at hon;have hmf:∀(fn:Fn) (first cap:Array Value) (w:World),(Instr.makeFunc fn first cap).run Tryz.prog w= .ok (.func fn first cap) w:=fun _ _ _ _=>rfl
 have hcl:Hid (∀W Y,Sep w0 W (Y++ .box bf 37 #[pV (bf+1+1)]::R)->W.cell? ⟨bf,0,none⟩=some (pV (bf+1+1))):=Lh fun W Y hW=>by(have hi:(Y++ .box bf 37 #[pV (bf+1+1)]::R)[Y.length]? =some (.box bf 37 #[pV (bf+1+1)]):=by simp);exact hW.bC _ hi 0
 have hc0:=hcl.out _ [_,_,_] hS0.out;clear h hok;unfold avZ at*;rw[hbf]at*
 go_enter_defers Tryz.func38,Tryz.ntmps38
 go_wp2_with(first |(go_at_call 93;refine hon.mono ?_;rintro e w9 ⟨rfl,h9⟩;obtain rfl:=h9.symm;clear hon)|(go_at_call 94;refine hbs.mono ?_;rintro e w9 ⟨rfl,h9⟩;obtain rfl:=h9.symm;clear hbs)|(go_at_call 95;refine(hpt _).mono ?_;rintro e w9 ⟨rfl,h9⟩;obtain rfl:=h9.symm)|(go_at_call 96;refine hlf.mono ?_;rintro e w9 ⟨q,rfl,h9⟩;(have k0:=h9.bC 3 rfl 0);(have k1:=h9.bF 3 rfl 0);(have h8:=h9.bS 3 rfl 0 (.int .i64 0));(have k2:=h8.bC 3 rfl 0);(have k3:=hcl.out _ [_,_,_,_] h8);simp only[gA,gB]at k0;clear hlf h9;replace h8:=Lh h8)|(go_at_call 54;refine(fB _ _).mono ?_;rintro e w7 ⟨rfl,h7⟩;obtain rfl:=h7.symm));rename_i K1 hK1;refine mX ?_;apply aq5 (fun W=>Hid (Sep w0 W (aF (w.heap.size+1+1) q p (VS.raw n names) ⟨none,[],w9.heap.size,[]⟩::aJ (w.heap.size+1) 0:: .box w.heap.size 37 #[pV (w.heap.size+1+1)]::R)))
 ·refine eO (S:=fun w'=>w'.cell? ⟨w.heap.size,0,none⟩=some (pV (w.heap.size+1+1))) 24 fH ?_;intro wq hwq;(have hX:Hid (Sep w0 wq (aH q p false::aO p (DK.made n):: .box (w.heap.size+1+1) 119 #[.pointer none,.map none,.map none,iV 0,.bool false,.complex .f64 0 0,iV 0,.complex .f64 0 0]::aJ (w.heap.size+1) 0:: .box w.heap.size 37 #[pV (w.heap.size+1+1)]::R)):=by rw[hwq];exact Lh h8.out.drew);(have hsz0:wq.heap.size=w9.heap.size:=by rw[hwq];simp);have hfin:Hid (∀W,Sep w0 W (jI w9.heap.size []::aH q p false::aO p (DK.made n):: .box (w.heap.size+1+1) 119 #[pV q,.map none,.map (some w9.heap.size),iV names,.bool false,.complex .f64 0 0,iV 0,.complex .f64 0 0]::aJ (w.heap.size+1) 0:: .box w.heap.size 37 #[pV (w.heap.size+1+1)]::R)->
    Sep w0 W (aF (w.heap.size+1+1) q p (VS.raw n names) ⟨none,[],w9.heap.size,[]⟩::aJ (w.heap.size+1) 0:: .box w.heap.size 37 #[pV (w.heap.size+1+1)]::R)):=Lh fun W hW=>by
   (have h5:Sep w0 W (.emp::jI w9.heap.size []::aH q p false::aO p (DK.made n)::kX (w.heap.size+1+1) q (VS.raw n names) none (.map (some w9.heap.size)) false::aJ (w.heap.size+1) 0:: .box w.heap.size 37 #[pV (w.heap.size+1+1)]::R):=by unfold kX VS.raw iK;simp only[DT];exact hW.wW);have h6:Sep w0 W (pQ (w.heap.size+1+1) q p (VS.raw n names) ⟨none,[],w9.heap.size,[]⟩++(aJ (w.heap.size+1) 0:: .box w.heap.size 37 #[pV (w.heap.size+1+1)]::R)):=Sep.dE [4,2,3,0,1] h5 aV bL;exact h6.dB
  clear hwq;have hc:=hcl.out _ [_,_,_,_] hX.out;have hmm:= @run_makeMap Tryz.prog;simp only[kE,kR,rT,Nat.reduceAdd];refine aA 0 hc ?_;refine aA 1 hc ?_;refine aA 2 hc ?_;refine aA 3 hc ?_;refine aA 4 hc ?_;refine aA 6 hc ?_;refine aA 7 hc ?_;refine aA 8 hc ?_;refine aA 9 hc ?_;refine aA 10 hc ?_
  -- <<ways
  refine iX (i:=5) (j:=11) fH rfl rfl (fun K hK=>?_) (fun K hK=>?_)
  focus
   go_simp
   have g1:=hX.out.yF
   obtain⟨wx1,hw1⟩:∃x,x=wq.alloc (.map #[] 0):=⟨_,rfl⟩
   rw[hsz0]at g1
   try rw[hsz0]
   have hsz1:wx1.heap.size=w9.heap.size+1:=by rw[hw1];simp[hsz0]
   rw[<-hw1]at g1 ⊢
   replace g1:Hid (Sep w0 wx1 (jI w9.heap.size []::aH q p false::aO p (DK.made n):: .box (w.heap.size+1+1) 119 #[.pointer none,.map none,.map none,iV 0,.bool false,.complex .f64 0 0,iV 0,.complex .f64 0 0]::aJ (w.heap.size+1) 0:: .box w.heap.size 37 #[pV (w.heap.size+1+1)]::R)):=Lh g1
   have k1:=hcl.out _ [_,_,_,_,_] g1.out
   clear hw1
   try dsimp only
   refine hK _ _ (fun _=>k1) ?_
   clear hK K
   try simp only[Act.put,gD]
   refine bI 11 fun K hK=>?_
   have y2:=g1.out.bC 3 rfl 0
   have z2:=g1.out.bF 3 rfl 0
   have g2:=g1.out.bS 3 rfl 0 (pV q)
   try simp only[gA,gB,gC]at y2
   go_simp
   obtain⟨wx2,hw2⟩:∃x,x=wx1.setCell ⟨w.heap.size+1+1,0,none⟩ (pV q):=⟨_,rfl⟩
   have hsz2:wx2.heap.size=w9.heap.size+1:=by rw[hw2];simp[hsz1]
   rw[<-hw2]at g2 ⊢
   replace g2:Hid (Sep w0 wx2 (jI w9.heap.size []::aH q p false::aO p (DK.made n):: .box (w.heap.size+1+1) 119 #[pV q,.map none,.map none,iV 0,.bool false,.complex .f64 0 0,iV 0,.complex .f64 0 0]::aJ (w.heap.size+1) 0:: .box w.heap.size 37 #[pV (w.heap.size+1+1)]::R)):=Lh g2
   have k2:=hcl.out _ [_,_,_,_,_] g2.out
   clear hw2
   try dsimp only
   refine hK _ _ (fun _=>k2) ?_
   clear hK K
   try simp only[Act.put,gD]
   refine aA 12 k2 ?_
   refine aA 13 k2 ?_
   refine aA 14 k2 ?_
   refine aA 15 k2 ?_
   refine aA 16 k2 ?_
   refine bI 17 fun K hK=>?_
   have y3:=g2.out.bC 3 rfl 3
   have z3:=g2.out.bF 3 rfl 3
   have g3:=g2.out.bS 3 rfl 3 (.int .i64 names)
   try simp only[gA,gB,gC]at y3
   go_simp
   obtain⟨wx3,hw3⟩:∃x,x=wx2.setCell ⟨w.heap.size+1+1,3,none⟩ (.int .i64 names):=⟨_,rfl⟩
   have ag4:wx3.heap.size=w9.heap.size+1:=by rw[hw3];simp[hsz2]
   rw[<-hw3]at g3 ⊢
   replace g3:Hid (Sep w0 wx3 (jI w9.heap.size []::aH q p false::aO p (DK.made n):: .box (w.heap.size+1+1) 119 #[pV q,.map none,.map none,iV names,.bool false,.complex .f64 0 0,iV 0,.complex .f64 0 0]::aJ (w.heap.size+1) 0:: .box w.heap.size 37 #[pV (w.heap.size+1+1)]::R)):=Lh g3
   have k3:=hcl.out _ [_,_,_,_,_] g3.out
   clear hw3
   try dsimp only
   refine hK _ _ (fun _=>k3) ?_
   clear hK K
   try simp only[Act.put,gD]
   refine aA 18 k3 ?_
   refine aA 19 k3 ?_
   refine aA 20 k3 ?_
   refine aA 21 k3 ?_
   refine aA 22 k3 ?_
   refine bI 23 fun K hK=>?_
   have y4:=g3.out.bC 3 rfl 2
   have z4:=g3.out.bF 3 rfl 2
   have g4:=g3.out.bS 3 rfl 2 (.map (some w9.heap.size))
   try simp only[gA,gB,gC]at y4
   go_simp
   obtain⟨wx4,hw4⟩:∃x,x=wx3.setCell ⟨w.heap.size+1+1,2,none⟩ (.map (some w9.heap.size)):=⟨_,rfl⟩
   have KN:wx4.heap.size=w9.heap.size+1:=by rw[hw4];simp[ag4]
   rw[<-hw4]at g4 ⊢
   replace g4:Hid (Sep w0 wx4 (jI w9.heap.size []::aH q p false::aO p (DK.made n):: .box (w.heap.size+1+1) 119 #[pV q,.map none,.map (some w9.heap.size),iV names,.bool false,.complex .f64 0 0,iV 0,.complex .f64 0 0]::aJ (w.heap.size+1) 0:: .box w.heap.size 37 #[pV (w.heap.size+1+1)]::R)):=Lh g4
   have k4:=hcl.out _ [_,_,_,_,_] g4.out
   clear hw4
   try dsimp only
   refine hK _ _ (fun _=>k4) ?_
   clear hK K
   try simp only[Act.put,gD]
   refine aQ fH ?_ _
   refine⟨rfl,Lh (hfin.out _ g4.out)⟩
  focus
   have y1:=hX.out.bC 2 rfl 0
   have z1:=hX.out.bF 2 rfl 0
   have g1:=hX.out.bS 2 rfl 0 (pV q)
   try simp only[gA,gB,gC]at y1
   go_simp
   obtain⟨wx1,hw1⟩:∃x,x=wq.setCell ⟨w.heap.size+1+1,0,none⟩ (pV q):=⟨_,rfl⟩
   have hsz1:wx1.heap.size=w9.heap.size:=by rw[hw1];simp[hsz0]
   rw[<-hw1]at g1 ⊢
   replace g1:Hid (Sep w0 wx1 (aH q p false::aO p (DK.made n):: .box (w.heap.size+1+1) 119 #[pV q,.map none,.map none,iV 0,.bool false,.complex .f64 0 0,iV 0,.complex .f64 0 0]::aJ (w.heap.size+1) 0:: .box w.heap.size 37 #[pV (w.heap.size+1+1)]::R)):=Lh g1
   have k1:=hcl.out _ [_,_,_,_] g1.out
   clear hw1
   try dsimp only
   refine hK _ _ (fun _=>k1) ?_
   clear hK K
   try simp only[Act.put,gD]
   refine aA 12 k1 ?_
   refine aA 13 k1 ?_
   refine aA 14 k1 ?_
   refine aA 15 k1 ?_
   refine aA 16 k1 ?_
   refine iX (i:=5) (j:=17) fH rfl rfl (fun K hK=>?_) (fun K hK=>?_)
   focus
    go_simp
    have g2:=g1.out.yF
    obtain⟨wx2,hw2⟩:∃x,x=wx1.alloc (.map #[] 0):=⟨_,rfl⟩
    rw[hsz1]at g2
    try rw[hsz1]
    have hsz2:wx2.heap.size=w9.heap.size+1:=by rw[hw2];simp[hsz1]
    rw[<-hw2]at g2 ⊢
    replace g2:Hid (Sep w0 wx2 (jI w9.heap.size []::aH q p false::aO p (DK.made n):: .box (w.heap.size+1+1) 119 #[pV q,.map none,.map none,iV 0,.bool false,.complex .f64 0 0,iV 0,.complex .f64 0 0]::aJ (w.heap.size+1) 0:: .box w.heap.size 37 #[pV (w.heap.size+1+1)]::R)):=Lh g2
    have k2:=hcl.out _ [_,_,_,_,_] g2.out
    clear hw2
    try dsimp only
    refine hK _ _ (fun _=>k2) ?_
    clear hK K
    try simp only[Act.put,gD]
    refine bI 17 fun K hK=>?_
    have y3:=g2.out.bC 3 rfl 3
    have z3:=g2.out.bF 3 rfl 3
    have g3:=g2.out.bS 3 rfl 3 (.int .i64 names)
    try simp only[gA,gB,gC]at y3
    go_simp
    obtain⟨wx3,hw3⟩:∃x,x=wx2.setCell ⟨w.heap.size+1+1,3,none⟩ (.int .i64 names):=⟨_,rfl⟩
    have ag4:wx3.heap.size=w9.heap.size+1:=by rw[hw3];simp[hsz2]
    rw[<-hw3]at g3 ⊢
    replace g3:Hid (Sep w0 wx3 (jI w9.heap.size []::aH q p false::aO p (DK.made n):: .box (w.heap.size+1+1) 119 #[pV q,.map none,.map none,iV names,.bool false,.complex .f64 0 0,iV 0,.complex .f64 0 0]::aJ (w.heap.size+1) 0:: .box w.heap.size 37 #[pV (w.heap.size+1+1)]::R)):=Lh g3
    have k3:=hcl.out _ [_,_,_,_,_] g3.out
    clear hw3
    try dsimp only
    refine hK _ _ (fun _=>k3) ?_
    clear hK K
    try simp only[Act.put,gD]
    refine aA 18 k3 ?_
    refine aA 19 k3 ?_
    refine aA 20 k3 ?_
    refine aA 21 k3 ?_
    refine aA 22 k3 ?_
    refine bI 23 fun K hK=>?_
    have y4:=g3.out.bC 3 rfl 2
    have z4:=g3.out.bF 3 rfl 2
    have g4:=g3.out.bS 3 rfl 2 (.map (some w9.heap.size))
    try simp only[gA,gB,gC]at y4
    go_simp
    obtain⟨wx4,hw4⟩:∃x,x=wx3.setCell ⟨w.heap.size+1+1,2,none⟩ (.map (some w9.heap.size)):=⟨_,rfl⟩
    have KN:wx4.heap.size=w9.heap.size+1:=by rw[hw4];simp[ag4]
    rw[<-hw4]at g4 ⊢
    replace g4:Hid (Sep w0 wx4 (jI w9.heap.size []::aH q p false::aO p (DK.made n):: .box (w.heap.size+1+1) 119 #[pV q,.map none,.map (some w9.heap.size),iV names,.bool false,.complex .f64 0 0,iV 0,.complex .f64 0 0]::aJ (w.heap.size+1) 0:: .box w.heap.size 37 #[pV (w.heap.size+1+1)]::R)):=Lh g4
    have k4:=hcl.out _ [_,_,_,_,_] g4.out
    clear hw4
    try dsimp only
    refine hK _ _ (fun _=>k4) ?_
    clear hK K
    try simp only[Act.put,gD]
    refine aQ fH ?_ _
    refine⟨rfl,Lh (hfin.out _ g4.out)⟩
   focus
    have y2:=g1.out.bC 2 rfl 3
    have z2:=g1.out.bF 2 rfl 3
    have g2:=g1.out.bS 2 rfl 3 (.int .i64 names)
    try simp only[gA,gB,gC]at y2
    go_simp
    obtain⟨wx2,hw2⟩:∃x,x=wx1.setCell ⟨w.heap.size+1+1,3,none⟩ (.int .i64 names):=⟨_,rfl⟩
    have hsz2:wx2.heap.size=w9.heap.size:=by rw[hw2];simp[hsz1]
    rw[<-hw2]at g2 ⊢
    replace g2:Hid (Sep w0 wx2 (aH q p false::aO p (DK.made n):: .box (w.heap.size+1+1) 119 #[pV q,.map none,.map none,iV names,.bool false,.complex .f64 0 0,iV 0,.complex .f64 0 0]::aJ (w.heap.size+1) 0:: .box w.heap.size 37 #[pV (w.heap.size+1+1)]::R)):=Lh g2
    have k2:=hcl.out _ [_,_,_,_] g2.out
    clear hw2
    try dsimp only
    refine hK _ _ (fun _=>k2) ?_
    clear hK K
    try simp only[Act.put,gD]
    refine bI 5 fun K hK=>?_
    go_simp
    have g3:=g2.out.yF
    obtain⟨wx3,hw3⟩:∃x,x=wx2.alloc (.map #[] 0):=⟨_,rfl⟩
    rw[hsz2]at g3
    try rw[hsz2]
    have ag4:wx3.heap.size=w9.heap.size+1:=by rw[hw3];simp[hsz2]
    rw[<-hw3]at g3 ⊢
    replace g3:Hid (Sep w0 wx3 (jI w9.heap.size []::aH q p false::aO p (DK.made n):: .box (w.heap.size+1+1) 119 #[pV q,.map none,.map none,iV names,.bool false,.complex .f64 0 0,iV 0,.complex .f64 0 0]::aJ (w.heap.size+1) 0:: .box w.heap.size 37 #[pV (w.heap.size+1+1)]::R)):=Lh g3
    have k3:=hcl.out _ [_,_,_,_,_] g3.out
    clear hw3
    try dsimp only
    refine hK _ _ (fun _=>k3) ?_
    clear hK K
    try simp only[Act.put,gD]
    refine aA 18 k3 ?_
    refine aA 19 k3 ?_
    refine aA 20 k3 ?_
    refine aA 21 k3 ?_
    refine aA 22 k3 ?_
    refine bI 23 fun K hK=>?_
    have y4:=g3.out.bC 3 rfl 2
    have z4:=g3.out.bF 3 rfl 2
    have g4:=g3.out.bS 3 rfl 2 (.map (some w9.heap.size))
    try simp only[gA,gB,gC]at y4
    go_simp
    obtain⟨wx4,hw4⟩:∃x,x=wx3.setCell ⟨w.heap.size+1+1,2,none⟩ (.map (some w9.heap.size)):=⟨_,rfl⟩
    have KN:wx4.heap.size=w9.heap.size+1:=by rw[hw4];simp[ag4]
    rw[<-hw4]at g4 ⊢
    replace g4:Hid (Sep w0 wx4 (jI w9.heap.size []::aH q p false::aO p (DK.made n):: .box (w.heap.size+1+1) 119 #[pV q,.map none,.map (some w9.heap.size),iV names,.bool false,.complex .f64 0 0,iV 0,.complex .f64 0 0]::aJ (w.heap.size+1) 0:: .box w.heap.size 37 #[pV (w.heap.size+1+1)]::R)):=Lh g4
    have k4:=hcl.out _ [_,_,_,_,_] g4.out
    clear hw4
    try dsimp only
    refine hK _ _ (fun _=>k4) ?_
    clear hK K
    try simp only[Act.put,gD]
    refine aQ fH ?_ _
    refine⟨rfl,Lh (hfin.out _ g4.out)⟩
  --ways>>
 intro W hW0;have hlt0:98+(names+7)/8<n:=by omega
 simp only[rO];exact hK1 _ _ (adC hlt0 h1 h2 h3 hW0.out)
end
def mY (nb names:Nat):Nat:=nb-96-(2+(names+7)/8)
def sI (nb names:Nat) (ns:List TN) (fs:List FT):Bool:=decide (lJ ns fs<=mY nb names)&&decide (jY ns<=names)
structure ag5 (S:VS) (ns:List TN) (fs:List FT) (nb names:Nat):Prop where
 nm:S.names=names
 nbe:S.nb=nb
 vt:∃g dn φ,Vt S.base ns fs g dn φ
def Next (S S':VS):Prop:=S'=S.base\/∃S1:VS,S'=S1.settled/\S1.D=S.D/\S1.nb=S.nb/\S1.bJ.2=true/\bk S'.D.now 96=bk S.D.now 96
def aq8 (S S':VS) (ns':List TN) (fs':List FT) (φ:Int->Nat) (m:Nat):Prop:=Next S S'/\∃g' dn' φ',Vt S'.base ns' fs' g' dn' φ'/\Agr m φ φ'
section
variable {w0 w:World} {R:List aZ} {f q p:Nat} {S:VS} {ns:List TN} {fs:List FT} {nb names:Nat}
theorem ag5.base (h:ag5 S ns fs nb names):ag5 S.base ns fs nb names:=⟨h.nm,h.nbe,h.vt⟩
theorem aq9 (h:Sep w0 w (bH f q p S::R)):96<S.nb:=by obtain⟨_,_,_,hR,_⟩:=h.qU;exact hR.big
theorem ag5.ends {r:Except Int (Option VS)} {ns':List TN} {fs':List FT} {x:Int} {g:LT} {dn:Key->Nat} {φ:Int->Nat} (hL:ag5 S ns fs nb names) (hV:Vt S.base ns fs g dn φ) (hok:S.D.ok S.nb) (YO:96<S.nb) (hD:EP φ fs.length S.base r ns' fs') (h:wQ f q p S.base r w0 w R x):
  if sI nb names ns' fs'=true then
   (x=0/\∃S',ag5 S' ns' fs' nb names/\aq8 S S' ns' fs' φ fs.length/\(S.D.off=false->S.D.left<0->S'.D.off=false/\S'.D.left=S.D.left)/\Sep w0 w (bH f q p S'::R))\/
   (x=11/\¬(S.D.off=false/\S.D.left<0)/\∃S1:VS,S1.nb=nb/\S1.D=S.D/\kP (nb-96) S1.cur/\(jH S1).length<=40/\S1.bJ.2=false/\Sep w0 w (LV f q p true::aO p S1.bJ.1::R))
  else x=27/\Sep w0 w (bH f q p S.base::R):=by
 obtain⟨y,rfl,hno,EA⟩:=hD;have hrB:(S.base.rB:Int)=mY nb names:=by rw[hV.iT.rB];(show((S.nb-96-(2+(S.names+7)/8):Nat):Int)=_);rw[hL.nm,hL.nbe];rfl
 have hrI:(S.base.rI:Int)=names:=by rw[hV.iT.rI];(show(S.names:Int)=_);rw[hL.nm]
 unfold wQ at h;cases y with
 |none=>
  have h1:=hno rfl;rw[hrB,hrI]at h1;rw[if_neg]
  ·exact h
  unfold sI;rw[sJ,tX,tX];omega
 |some S1=>
  obtain⟨l5,hlen,g',dn',φ',hC,hR,hAg⟩:=EA S1 rfl;have hnm:S1.names=S.base.names:=hC.like.names;(have hwB:S1.wB=lJ ns' fs':=by rw[hC.ph.wB,hnm];exact hR.wB (by rw[<-hnm];exact hC.ph.fair));(have hwI:S1.wI=jY ns':=by rw[hC.ph.wI,hnm];exact hR.wI (by rw[<-hnm];exact hC.ph.fair));have aEC:S1.rB=mY nb names:=hC.like.rB.trans hrB;have aED:S1.rI=names:=hC.like.rI.trans hrI;(have hfits:y7 S1=sI nb names ns' fs':=by unfold y7 sI;rw[hwB,hwI,aEC,aED]);simp only[hfits]at h;have hDe:S1.D=S.D:=hC.like.D;(have hD1:S1.D.ok S1.nb:=by rw[hDe,show S1.nb=S.nb from hC.like.nb];exact hok);(have aEE:96<S1.nb:=by rw[show S1.nb=S.nb from hC.like.nb];exact YO);(have aj7:qN (S1.D.now.drop 96) S1:=by rw[hDe];exact l5);by_cases hf:sI nb names ns' fs'=true
  ·rw[if_pos hf]at h ⊢;by_cases hc:S1.bJ.2=true
   ·rw[if_pos hc]at h;have hVt:Vt S1.settled.base ns' fs' g' dn' φ':=by
     refine Vt.of (hC.ph.settled hD1 aEE aj7.1 hC.m hc) hR hnm hlen ?_ ?_ rfl
     ·(show S1.rB=((S1.nb-96-(2+(S1.names+7)/8):Nat):Int));rw[aEC,show S1.nb=nb from(hC.like.nb).trans hL.nbe,hnm,show S.base.names=names from hL.nm];rfl
     (show S1.rI=(S1.names:Int));rw[aED,hnm,show S.base.names=names from hL.nm]
    (have aJL:bk S1.settled.D.now 96=bk S.D.now 96:=by have e1:=BN hD1 aEE hC.ph.use.cur aj7.1 hC.m hc;have e2:bk (S1.settled.D.now.drop 96) 0=bk S1.cur 0:=congrArg (fun c=>bk c 0) e1;rw[CZ,aj7.2,CZ,hDe]at e2;exact e2);refine .inl ⟨h.1,S1.settled,⟨?_,?_,g',dn',φ',hVt⟩,⟨.inr ⟨S1,rfl,hDe,hC.like.nb,hc,aJL⟩,g',dn',φ',hVt,hAg⟩,fun ho hl=>?_,h.2⟩
    ·(show S1.names=names);rw[hnm];exact hL.nm
    ·(show S1.nb=nb);rw[show S1.nb=S.nb from hC.like.nb];exact hL.nbe
    have:=wH (S:=S1) (by rw[hDe];exact ho) (by rw[hDe];exact hl);exact⟨this.2.1,by rw[show S1.settled.D.left=S1.bJ.1.left from rfl,this.2.2,hDe]⟩
   rw[if_neg hc]at h;refine .inr ⟨h.1,fun⟨ho,hl⟩=>hc (wH (S:=S1) (by rw[hDe];exact ho) (by rw[hDe];exact hl)).1,S1,(hC.like.nb).trans hL.nbe,hDe,?_,z8 aj7.1.puts hC.m,by simpa using hc,h.2⟩;have:=hC.ph.use.cur;rw[show S1.nb=nb from(hC.like.nb).trans hL.nbe]at this;exact this
  rw[if_neg hf]at h ⊢;exact h
end
end Go.Proofs.YtmjomdkleikgbaaGreat
namespace Go.Proofs.YtmjomdkleikgbaaGreat
def qA (ns:List TN) (K:Key):List TN:=ns.filter fun m=> !(bD m==K)
theorem uE :∀ {ns:List TN} {n:TN},(ns.map bD).Nodup->n∈ns->ns.Perm (n::qA ns (bD n))
 |a::t,n,hu,hn=>by
  rw[jS,wV]at hu;unfold qA;rw[xY];rcases kC.1 hn with e|hn
  ·subst e;rw[if_neg bL];(have e2:t.filter (fun m=> !(bD m==bD n))=t:=by rw[EM];intro m hm;(have:bD m≠bD n:=fun e=>hu.1 (List.mem_map.2 ⟨m,hm,e⟩));simp[this]);rw[e2]
  (have hne:bD a≠bD n:=fun e=>hu.1 (List.mem_map.2 ⟨n,hn,e.symm⟩));rw[if_pos (by simp[hne])];exact((uE hu.2 hn).cons a).trans (List.Perm.swap _ _ _)
theorem ag6 (g:LT) (n:Nat) (x y:LI):dO (dO g n x) n y=dO g n y:=by funext i;unfold dO;split<;>rfl
section
variable {S:VS} {g:LT} {ns:List TN} {fs:List FT} {dn:Key->Nat} {φ:Int->Nat}
theorem Vt.entry (h:Vt S ns fs g dn φ) {p:List UInt8} {n:TN} (hn:kK ns (splitB p)=some n) (hP:dI ns (splitB p).dropLast):
  ∃i,i<(g (dn (splitB p).dropLast)).bG.length/\(kG (g (dn (splitB p).dropLast)).bG (aL p)).1=i/\sQ (g (dn (splitB p).dropLast)).bG i=(aL p,dD dn φ n):=by
 have hf:=h.rep.find hP (aL p);rw[<-yM,hn]at hf;rcases BK (g (dn (splitB p).dropLast)).bG (aL p)with⟨i,h1,h2,h3,h4⟩|⟨_,h4⟩
 ·refine⟨i,h1,h3,?_⟩;rw[hf]at h4;have e1:dD dn φ n=(kG (g (dn (splitB p).dropLast)).bG (aL p)).2:=Option.some.inj h4;rw[h2,e1]
 rw[hf]at h4;cases h4
theorem lY.WG {nm:Nat} (h:lY g nm ns fs dn φ) {n:TN} (hn:n∈ns) (hf:n.file≠ -1):eX ns (bD n)=[]:=by
 unfold eX;rw[ai3];intro m hm hk;have e:(bD m).dropLast=bD n:=by simpa using hk
 rcases h.up m hm with h1|⟨a,ha,h1,h2⟩
 ·exact ZH n (by rw[<-e,h1])
 have:a=n:=QR h.uniq ha hn (by rw[h1,e]);rw[this]at h2;exact hf h2
theorem KO {n:TN} {K:Key} (h:eX ns K=[]):eX (qA ns (bD n)) K=[]:=by unfold eX qA at*;rw[ai3]at h ⊢;intro m hm;exact h m (List.mem_filter.1 hm).1
theorem Z43 {P:Prop} (h:P:=by rw[hS1];have:=h.iT.ph.avQ (name:=aL p) hd1 hd2;rw[h.m]at this;omega):P:=h
theorem Vt.arA (h:Vt S ns fs g dn φ) {p:List UInt8} {n:TN} (hv:aU p=true) (hn:kK ns (splitB p)=some n) (hP:dI ns (splitB p).dropLast) (hf:n.file≠ -1):
  EP φ fs.length S (.ok (some (oG S (dn (splitB p).dropLast) (aL p) (φ n.file)))) (qA ns (splitB p)) fs/\QI S (dn (splitB p).dropLast) p (φ n.file):=by
 obtain⟨hnm,hnk⟩:=eQ hn;obtain⟨ix,hi,hl,he⟩:=h.entry hn hP;have hbase:(aL p).length<=15:=by have:=rD hv;omega
 obtain⟨hd1,hd2⟩:=h.rep.zU hP;obtain⟨_,hj1,hj2,_,hj3⟩:=h.rep.file n hnm hf;have nR:dD dn φ n=φ n.file:=by unfold dD;rw[if_neg hf]
 rw[nR]at he;obtain⟨d,hd⟩:∃d,d=dn (splitB p).dropLast:=⟨_,rfl⟩;obtain⟨j,hj⟩:∃j,j=φ n.file:=⟨_,rfl⟩;rw[<-hd]at hi hl he hd1 hd2;rw[<-hj]at he hj1 hj2 hj3;rw[<-hd,<-hj];have hjd:j≠d:=fun e=>by rw[e,hd2]at hj2;cases hj2
 --the tree
 have hperm:=uE h.rep.uniq hnm;have hR0:=h.rep.perm hperm;rw[hnk]at hperm hR0;have hkey:bD n=splitB p:=hnk;have hlast:(bD n).getLastD []=aL p:=by rw[hkey];rfl
 have MJ:eX (qA ns (splitB p)) (bD n)=[]:=by have:=KO (n:=n) (h.rep.WG hnm hf);rw[hnk]at this ⊢;exact this
 have Q5:=fun(x:LI) hx=>hR0.azV (x:=x) (ix:=ix) MJ hx (by rw[hkey,<-hd];exact hi) (by rw[hkey,<-hd,nR,<-hj];exact he.trans (by rw[<-hkey,hlast]))
 rw[hkey,<-hd,nR,<-hj]at Q5;have hcnt:(g j).links=1+(qA ns (splitB p)).countP fun m=>decide (m.file=n.file):=by rw[hj3,hperm.countP_eq,LB,if_pos bL];omega
 --the blocks
 have hL:=h.iT.ph.leave hd1 hd2 hi hl;have hlv:=h.iT.ph.ZG hd1 hd2 hbase hi hl;obtain⟨S1,hS1⟩:∃S1,S1=cO S d (aL p):=⟨_,rfl⟩;have hL1:eZ S S1:=by rw[hS1];exact oQ _ _ _
 have hm1:S1.m<=4:=by exact Z43
 have hF1:qN S.cur S1:=by rw[hS1];exact(qN.refl S).cO _ _
 rw[<-hS1]at hL;obtain⟨g1,hg1⟩:∃g1,g1=dO g d ((g d).less ix):=⟨_,rfl⟩;rw[<-hg1]at hL Q5;have UG:j<S1.names:=by rw[hL1.names];exact hj1
 have gj:g1 j=g j:=by rw[hg1,bT _ _ hjd]
 have hfair:=hL.fair j UG;obtain⟨x,hx⟩:∃x:LI,x= {g1 j with links:=(g1 j).links-1}:=⟨_,rfl⟩;have hxf:x.fair:=by rw[hx];exact⟨hfair.kind,hfair.bG,hfair.data,hfair.few,hfair.short,hfair.mode,by show(g1 j).links-1<65536;have:=hfair.links;omega,hfair.names⟩
 have hM:=hL.meta UG (x:=x) hxf (by rw[hx]) (by rw[hx]) (by rw[hx]);have hy:({aG S1.cur j with links:=(aG S1.cur j).links-1}:VI)=x.vi (aG S1.cur j).aB:=by
  have:=hL.head j UG;rw[hx]
  conv=>lhs;rw[this]
  rfl
 have hyl:(aG S1.cur j).links=(g j).links:=by rw[hL.head j UG,gj];rfl
 have hsm:(aG S1.cur j).aB.length<=16:=by rw[hL.len j UG,gj];have:=(h.iT.ph.fair j hj1).short;unfold LI.need;rw[if_neg aD,if_pos hj2];omega
 rw[<-hy]at hM;obtain⟨S2,hS2⟩:∃S2,S2=S1.keep j {aG S1.cur j with links:=(aG S1.cur j).links-1}:=⟨_,rfl⟩;rw[<-hS2]at hM;have hL2:eZ S S2:=by rw[hS2];exact hL1.keep _ _
 have hm2:S2.m<=5:=by rw[hS2];show S1.m+1<=5;omega
 have hF2:qN S.cur S2:=by rw[hS2];exact hF1.keep _ _
 have aQG:(aG S2.cur j).aB.length<=16:=by rw[hM.len j (by rw[hL2.names];exact hj1),bM,hx,gj];have:=(h.iT.ph.fair j hj1).short;unfold LI.need;rw[if_neg (by show ¬(g j).kind=1;omega),if_pos (by exact hj2)];(show((g j).data.length+511)/512<=16);omega
 have hun:oG S d (aL p) j=if(g j).links-1=0 then mP S2 j else S2:=by unfold oG;simp only;rw[<-hS1,<-hS2,hyl]
 have hlen:(qA ns (splitB p)).length<=256:=by have h1:=hperm.length_eq;rw[kR]at h1;have:=h.nodes;have:=h.iT.few;omega
 have aJN:∃g',Chg S g' (oG S d (aL p) j)/\lY g' S.names (qA ns (splitB p)) fs dn φ:=by
  rw[hun];by_cases h0:(g j).links-1=0
  ·rw[if_pos h0];(have hc0:(qA ns (splitB p)).countP (fun m=>decide (m.file=n.file))=0:=by omega);have hno:∀m∈qA ns (splitB p),dD dn φ m≠j:=fun m hm e=>by
    have hmn:m∈ns:=(List.mem_filter.1 hm).1;(have hne:m.file≠n.file:=by simpa using List.countP_eq_zero.1 hc0 m hm);rcases h.rep.inj m hmn n hnm (by rw[e,nR,hj])with h8|h8
    ·exact hne (by rw[h8])
    exact hne h8.2
   have hDr:=hM.drop (n:=j) (by rw[hL2.names];exact hj1) (by rw[bM,hx,gj];exact(h.iT.ph.fair j hj1).bG aD);rw[ag6]at hDr;refine⟨_,⟨hDr,hL2.trans (PN _ _),?_⟩,Q5 LI0 (.inr ⟨rfl,hno⟩)⟩;have:=aqM S2 j;omega
  rw[if_neg h0];(have hex:∃m∈qA ns (splitB p),m.file=n.file:=by(have:0<(qA ns (splitB p)).countP fun m=>decide (m.file=n.file):=by omega);obtain⟨m,hm,e⟩:=List.countP_pos_iff.1 this;exact⟨m,hm,by simpa using e⟩);have hl2:=Q5 x (.inl ⟨hf,by rw[hx,gj],hex⟩);exact⟨_,⟨hM,hL2,by omega⟩,hl2⟩
 obtain⟨g',hC,hR⟩:=aJN;refine⟨⟨_,rfl,fun e=>(by cases e),fun T hT=>?_⟩,?_⟩
 ·cases hT;refine⟨?_,hlen,g',dn,φ,hC,hR,fun _ _=>rfl⟩;rw[hun];split
  ·exact hF2.mP _
  exact hF2
 refine⟨hlv,h.iT.ph.sv,?_,?_,?_,?_,?_,?_⟩
 ·rw[<-hS1];exact hL.acX UG
 ·rw[<-hS1,hyl];omega
 ·rw[<-hS1];exact hL.sw
 ·rw[<-hS1,<-hS2];exact hM.acX (by rw[hL2.names];exact hj1)
 ·rw[<-hS1,<-hS2];exact hM.sw
 exact dC.IL ⟨h.iT.rB,h.iT.rI⟩ h.iT.ph.use hC.like hC.ph hC.m
theorem Vt.rmdir (h:Vt S ns fs g dn φ) {p:List UInt8} {n:TN} (hv:aU p=true) (hn:kK ns (splitB p)=some n) (hP:dI ns (splitB p).dropLast) (hf:n.file= -1) (hk:eX ns (splitB p)=[]):
  EP φ fs.length S (.ok (some (mP (cO S (dn (splitB p).dropLast) (aL p)) (dn (splitB p))))) (qA ns (splitB p)) fs/\Y7 S (dn (splitB p).dropLast) p (dn (splitB p)):=by
 obtain⟨hnm,hnk⟩:=eQ hn;obtain⟨ix,hi,hl,he⟩:=h.entry hn hP;have hbase:(aL p).length<=15:=by have:=rD hv;omega
 obtain⟨hd1,hd2⟩:=h.rep.zU hP;have hkey:bD n=splitB p:=hnk;obtain⟨hj1,hj2,_,_⟩:=h.rep.dir n hnm hf;have nR:dD dn φ n=dn (splitB p):=by unfold dD;rw[if_pos hf,hkey]
 have hne0:=h.rep.ne0 n hnm;rw[nR]at he hne0;rw[hkey]at hj1 hj2;have hsplit:splitB p≠[]:=gK p;have hDp:dI ns (splitB p):=.inr ⟨n,hnm,hkey,hf⟩;have hjd:dn (splitB p)≠dn (splitB p).dropLast:=fun e=>BL hsplit (h.rep.ZI hDp hP e).symm
 have hsz:=h.rep.dM hDp;have hsz0:(g (dn (splitB p))).bG.length=0:=by rw[hsz];unfold dM;rw[hk];rfl
 obtain⟨d,hd⟩:∃d,d=dn (splitB p).dropLast:=⟨_,rfl⟩;obtain⟨j,hj⟩:∃j,j=dn (splitB p):=⟨_,rfl⟩;rw[<-hd]at hi hl he hd1 hd2 hjd;rw[<-hj]at he hj1 hj2 hne0 hjd hsz0;rw[<-hd,<-hj];have hperm:=uE h.rep.uniq hnm;have hR0:=h.rep.perm hperm;rw[hnk]at hperm hR0;have hlast:(bD n).getLastD []=aL p:=by rw[hkey];rfl
 have MJ:eX (qA ns (splitB p)) (bD n)=[]:=by have:=KO (n:=n) (K:=splitB p) hk;rw[hnk]at this;rw[hkey];exact this
 have hno:∀m∈qA ns (splitB p),dD dn φ m≠j:=fun m hm e=>by
  have hmn:m∈ns:=(List.mem_filter.1 hm).1;rcases h.rep.inj m hmn n hnm (by rw[e,nR,hj])with h8|h8
  ·have:=(List.mem_filter.1 hm).2;rw[h8,hkey]at this;simp at this
  exact h8.1 (by rw[h8.2,hf])
 have Q5:=hR0.azV (x:=LI0) (ix:=ix) MJ (.inr ⟨rfl,fun m hm=>by rw[nR,<-hj];exact hno m hm⟩) (by rw[hkey,<-hd];exact hi) (by rw[hkey,<-hd,nR,<-hj];exact he.trans (by rw[<-hkey,hlast]));rw[hkey,<-hd,nR,<-hj]at Q5;have hL:=h.iT.ph.leave hd1 hd2 hi hl;have hlv:=h.iT.ph.ZG hd1 hd2 hbase hi hl;obtain⟨S1,hS1⟩:∃S1,S1=cO S d (aL p):=⟨_,rfl⟩;have hL1:eZ S S1:=by rw[hS1];exact oQ _ _ _
 have hm1:S1.m<=4:=by exact Z43
 have hF1:qN S.cur S1:=by rw[hS1];exact(qN.refl S).cO _ _
 rw[<-hS1]at hL;rw[<-hS1];have gj:dO g d ((g d).less ix) j=g j:=bT _ _ hjd;have UG:j<S1.names:=by rw[hL1.names];exact hj1
 have acI:(g j).bG=[]:=vL hsz0;have hDr:=hL.drop (n:=j) UG (by rw[gj];exact acI);have hsm:(aG S1.cur j).aB.length<=1:=by rw[hL.len j UG,gj,kY hj2,hsz0];decide
 have hlen:(qA ns (splitB p)).length<=256:=by have h1:=hperm.length_eq;rw[kR]at h1;have:=h.nodes;have:=h.iT.few;omega
 have hC:Chg S (dO (dO g d ((g d).less ix)) j LI0) (mP S1 j):=⟨hDr,hL1.trans (PN _ _),by have:=aqM S1 j;omega⟩;refine⟨⟨_,rfl,fun e=>(by cases e),fun T hT=>?_⟩,hlv,h.iT.ph.sv,?_,?_,?_⟩
 ·cases hT;exact⟨hF1.mP _,hlen,_,dn,φ,hC,Q5,fun _ _=>rfl⟩
 ·rw[<-hS1];exact hL.acX UG
 ·rw[<-hS1];exact hL.sw
 rw[<-hS1];exact dC.IL ⟨h.iT.rB,h.iT.rI⟩ h.iT.ph.use hC.like hC.ph hC.m
theorem Q6 {L:uL} {z:List UInt8×Nat} {i:Nat} (h:i<L.length):sQ (L++[z]) i=sQ L i:=by unfold sQ;rw[gH,gH,D6 h]
theorem ZN {L:uL} {z:List UInt8×Nat} {i:Nat} (h:i<L.length):(j6 L i++[z]).Perm (j6 (L++[z]) i):=by have h1:=tL h;have h2:=tL (L:=L++[z]) (i:=i) (by rw[jL];omega);rw[Q6 h]at h2;have h3:(L++[z]).Perm (sQ L i::(j6 L i++[z])):=h1.append_right [z];exact(h3.symm.trans h2).cons_inv
theorem WH {n0:TN} {K:Key} (h:bD n0≠K):qA (ns++[n0]) K=qA ns K++[n0]:=by unfold qA;rw[E9];congr 1;rw[xY,if_pos (by simp[h])];rfl
theorem Z64 {P:Prop} (h:P:=by exact dC.IL ⟨h.iT.rB,h.iT.rI⟩ h.iT.ph.use this.like this.ph this.m):P:=h
theorem Vt.rename (h:Vt S ns fs g dn φ) {p q:List UInt8} {n:TN} (hv:aU p=true) (hvq:aU q=true) (hn:kK ns (splitB p)=some n) (hP:dI ns (splitB p).dropLast) (hf:n.file≠ -1)
  (hQ:dI ns (splitB q).dropLast) (hno:kK ns (splitB q)=none):
  EP φ fs.length S (.ok (oH S (dn (splitB p).dropLast) (aL p) (dn (splitB q).dropLast) (aL q) (φ n.file))) (qA ns (splitB p)++[⟨q,n.file,0⟩]) fs/\QJ S (dn (splitB p).dropLast) (dn (splitB q).dropLast) p q (φ n.file):=by
 obtain⟨hnm,hnk⟩:=eQ hn;obtain⟨ix,hi,hl,he⟩:=h.entry hn hP;have hbase:(aL p).length<=15:=by have:=rD hv;omega
 have FR:(aL q).length<=15:=by have:=rD hvq;omega
 obtain⟨hd1,hd2⟩:=h.rep.zU hP;obtain⟨he1,he2⟩:=h.rep.zU hQ;obtain⟨_,hj1,hj2,_,hj3⟩:=h.rep.file n hnm hf;have nR:dD dn φ n=φ n.file:=by unfold dD;rw[if_neg hf]
 have CS:=h.rep.aj3 hnm hf hQ hno;rw[nR]at he;obtain⟨d,hd⟩:∃d,d=dn (splitB p).dropLast:=⟨_,rfl⟩;obtain⟨d2,hdd⟩:∃d,d=dn (splitB q).dropLast:=⟨_,rfl⟩;obtain⟨j,hj⟩:∃j,j=φ n.file:=⟨_,rfl⟩;rw[<-hd]at hi hl he hd1 hd2;rw[<-hdd]at he1 he2;rw[<-hj]at he hj1 hj2 hj3;rw[<-hdd,<-hj]at CS;rw[<-hd,<-hdd,<-hj];have hjd:j≠d:=fun e=>by rw[e,hd2]at hj2;cases hj2
 have av0:j≠d2:=fun e=>by rw[e,he2]at hj2;cases hj2
 have hkey:bD n=splitB p:=hnk;have hlast:(bD n).getLastD []=aL p:=by rw[hkey];rfl
 obtain⟨n0,hn0⟩:∃n0:TN,n0=⟨q,n.file,0⟩:=⟨_,rfl⟩;have hk0:bD n0=splitB q:=by rw[hn0];rfl
 rw[<-hn0]at CS ⊢;have hpq:bD n0≠splitB p:=fun e=>uY hno n hnm (by rw[hkey,<-e,hk0])
 obtain⟨ngA,hgA⟩:∃ngA,ngA=dO (dO g j {g j with links:=(g j).links+1}) d2 ((g d2).more (aL q) j):=⟨_,rfl⟩;rw[<-hgA]at CS;have hmem:n∈ns++[n0]:=vN _ hnm;have hR2:=CS.perm (uE CS.uniq hmem);rw[hnk,WH hpq]at hR2;have MJ:eX (qA ns (splitB p)++[n0]) (bD n)=[]:=by have:=KO (n:=n) (CS.WG hmem hf);rw[hnk,WH hpq]at this;rw[hkey];exact this
 have gAd:(ngA d).bG=if d=d2 then(g d).bG++[(aL q,j)]else(g d).bG:=by
  by_cases e:d=d2
  ·rw[if_pos e,hgA,e,bM];rfl
  rw[if_neg e,hgA,bT _ _ e,bT _ _ (fun e2=>hjd e2.symm)]
 have hiA:ix<(ngA d).bG.length:=by
  rw[gAd];split
  ·rw[jL];omega
  exact hi
 have heA:sQ (ngA d).bG ix=((bD n).getLastD [],j):=by
  rw[gAd,hlast];split
  ·rw[Q6 hi,he]
  exact he
 have gAj:ngA j= {g j with links:=(g j).links+1}:=by rw[hgA,bT _ _ av0,bM]
 have hl3:=hR2.azV (x:= {ngA j with links:=(ngA j).links-1}) (ix:=ix) MJ (.inl ⟨hf,by rw[nR,<-hj],n0,by simp,by rw[hn0]⟩) (by rw[hkey,<-hd];exact hiA) (by rw[hkey,<-hd,nR,<-hj,<-hkey];exact heA);rw[hkey,<-hd,nR,<-hj]at hl3
 --the blocks
 obtain⟨g1,hg1⟩:∃g1,g1=dO g d ((g d).less ix):=⟨_,rfl⟩;have hR:lY (dO g1 d2 ((g1 d2).more (aL q) j)) S.names (qA ns (splitB p)++[n0]) fs dn φ:=by
  (refine hl3.congr fun m=>?_);by_cases m1:m=j
  ·subst m1;rw[bM,bT _ _ av0,hg1,bT _ _ hjd,gAj];exact⟨rfl,rfl,rfl,rfl,EJ _⟩
  rw[bT _ _ m1];by_cases m2:m=d
  ·subst m2;rw[bM];by_cases e:m=d2
   ·subst e;rw[bM,hg1,bM];(have e9:(ngA m).bG=(g m).bG++[(aL q,j)]:=by rw[gAd,if_pos rfl]);(have e8:ngA m=(g m).more (aL q) j:=by rw[hgA,bM]);refine⟨by rw[e8];rfl,by rw[e8];rfl,by rw[e8];rfl,by rw[e8];rfl,?_⟩;(show(j6 (g m).bG ix++[(aL q,j)]).Perm (j6 (ngA m).bG ix));rw[e9];exact ZN hi
   rw[bT _ _ e,hg1,bM];(have e8:ngA m=g m:=by rw[hgA,bT _ _ e,bT _ _ m1]);rw[e8];exact⟨rfl,rfl,rfl,rfl,EJ _⟩
  rw[bT _ _ m2];by_cases e:m=d2
  ·subst e;(have e8:ngA m=(g m).more (aL q) j:=by rw[hgA,bM]);rw[bM,hg1,bT _ _ m2,e8];exact⟨rfl,rfl,rfl,rfl,EJ _⟩
  (have e8:ngA m=g m:=by rw[hgA,bT _ _ e,bT _ _ m1]);rw[bT _ _ e,hg1,bT _ _ m2,e8];exact⟨rfl,rfl,rfl,rfl,EJ _⟩
 have hL:=h.iT.ph.leave hd1 hd2 hi hl;have hlv:=h.iT.ph.ZG hd1 hd2 hbase hi hl;rw[<-hg1]at hL;obtain⟨S1,hS1⟩:∃S1,S1=cO S d (aL p):=⟨_,rfl⟩;have hL1:eZ S S1:=by rw[hS1];exact oQ _ _ _
 have hm1:S1.m<=4:=by exact Z43
 have hF1:qN S.cur S1:=by rw[hS1];exact(qN.refl S).cO _ _
 rw[<-hS1]at hL;have adD:d2<S1.names:=by rw[hL1.names];exact he1
 have hk1:(g1 d2).kind=1:=by
  rw[hg1];by_cases e:d2=d
  ·rw[e,bM];exact hd2
  rw[bT _ _ e];exact he2
 have hsz:(g1 d2).bG.length<448:=by
  have h1:=h.iT.ph.ZF he1;have h2:=h.iT.few;have h3:(g1 d2).bG.length<=(g d2).bG.length:=by
   rw[hg1];by_cases e:d2=d
   ·rw[e,bM];(show(j6 (g d).bG ix).length<=_);rw[oW];omega
   rw[bT _ _ e];exact iB _
  omega
 have ag7:j<=65535:=by have:=h.iT.ph.nW;omega
 have hE:=hL.enter (dir:=d2) (n:=j) (name:=aL q) adD hk1 hsz FR ag7;have hlen:(qA ns (splitB p)++[n0]).length<=256:=by have h1:=(uE h.rep.uniq hnm).length_eq;rw[hnk,kR]at h1;rw[jL,oK];have:=h.nodes;have:=h.iT.few;omega
 have hfair:∀k<S.names,(dO g1 d2 ((g1 d2).more (aL q) j) k).fair:=fun k hk=>by
  by_cases e:k=d2
  ·rw[e,bM];exact LI.C9 (hL.fair d2 adD) hk1 hsz FR ag7
  rw[bT _ _ e];exact hL.fair k (by rw[hL1.names];exact hk)
 have hch:∀T,oH S d (aL p) d2 (aL q) j=some T->Chg S (dO g1 d2 ((g1 d2).more (aL q) j)) T:=fun T hT=>by unfold oH at hT;rw[<-hS1]at hT;refine⟨hE.1 T hT,hL1.trans (vX hT),?_⟩;have:=hL.NK adD hk1 hT;omega
 refine⟨⟨_,rfl,fun hx=>.inl ?_,fun T hT=>⟨?_,hlen,_,dn,φ,hch T hT,hR,fun _ _=>rfl⟩⟩,hlv,h.iT.ph.sv,?_,?_,fun T hT=>?_⟩
 ·unfold oH at hx;rw[<-hS1]at hx;have h1:=hE.2 hx;rw[hL1.count,hL1.names]at h1;have h2:=DR hfair;rw[hR.wB hfair]at h2;rw[h.iT.rB];omega
 ·unfold oH at hT;rw[<-hS1]at hT;exact hF1.gV hT
 ·rw[<-hS1];exact hL.NJ adD hk1 hsz FR ag7
 ·rw[<-hS1];exact hL.sv
 have:=hch T hT;exact Z64
theorem Vt.link (h:Vt S ns fs g dn φ) {q:List UInt8} {n:TN} (hvq:aU q=true) (hnm:n∈ns) (hf:n.file≠ -1) (hQ:dI ns (splitB q).dropLast) (hno:kK ns (splitB q)=none) (hroom:ns.length<256):
  EP φ fs.length S (.ok (y9 S (φ n.file) (dn (splitB q).dropLast) (aL q))) (ns++[⟨q,n.file,0⟩]) fs/\agN S (dn (splitB q).dropLast) q (φ n.file):=by
 have FR:(aL q).length<=15:=by have:=rD hvq;omega
 obtain⟨he1,he2⟩:=h.rep.zU hQ;obtain⟨_,hj1,hj2,_,hj3⟩:=h.rep.file n hnm hf;have CS:=h.rep.aj3 hnm hf hQ hno;obtain⟨d2,hdd⟩:∃d,d=dn (splitB q).dropLast:=⟨_,rfl⟩;obtain⟨j,hj⟩:∃j,j=φ n.file:=⟨_,rfl⟩;rw[<-hdd]at he1 he2;rw[<-hj]at hj1 hj2 hj3;rw[<-hdd,<-hj]at CS;rw[<-hdd,<-hj];have av0:d2≠j:=fun e=>by rw[<-e,he2]at hj2;cases hj2
 have hfj:=h.iT.ph.fair j hj1;have hlk:(g j).links<=256:=by rw[hj3];have:=List.countP_le_length (p:=fun m:TN=>decide (m.file=n.file)) (l:=ns);omega
 obtain⟨x,hx⟩:∃x:LI,x= {g j with links:=(g j).links+1}:=⟨_,rfl⟩;have hxf:x.fair:=by rw[hx];exact⟨hfj.kind,hfj.bG,hfj.data,hfj.few,hfj.short,hfj.mode,by show(g j).links+1<65536;omega,hfj.names⟩
 have hM:=h.iT.ph.meta hj1 (x:=x) hxf (by rw[hx]) (by rw[hx]) (by rw[hx]);have hhead:=h.iT.ph.head j hj1;have hy:({aG S.cur j with links:=(aG S.cur j).links+1}:VI)=x.vi (aG S.cur j).aB:=by
  rw[hx]
  conv=>lhs;rw[hhead]
  rfl
 have hyl:(aG S.cur j).links=(g j).links:=by rw[hhead];rfl
 rw[<-hy]at hM;obtain⟨S1,hS1⟩:∃S1,S1=S.keep j {aG S.cur j with links:=(aG S.cur j).links+1}:=⟨_,rfl⟩;rw[<-hS1]at hM;rw[hx]at hM;have hL1:eZ S S1:=by rw[hS1];exact(eZ.refl S).keep _ _
 have hm1:S1.m=1:=by rw[hS1];show S.m+1=1;rw[h.m]
 have hF1:qN S.cur S1:=by rw[hS1];exact(qN.refl S).keep _ _
 have adD:d2<S1.names:=by rw[hL1.names];exact he1
 have gd:dO g j {g j with links:=(g j).links+1} d2=g d2:=bT _ _ av0;have hsz:(g d2).bG.length<448:=by have h1:=h.iT.ph.ZF he1;have h2:=h.iT.few;omega
 have ag7:j<=65535:=by have:=h.iT.ph.nW;omega
 have hE:=hM.enter (dir:=d2) (n:=j) (name:=aL q) adD (by rw[gd];exact he2) (by rw[gd];exact hsz) FR ag7;rw[gd]at hE;have hfair:∀k<S.names,(dO (dO g j {g j with links:=(g j).links+1}) d2 ((g d2).more (aL q) j) k).fair:=fun k hk=>by
  by_cases e:k=d2
  ·rw[e,bM];exact LI.C9 (h.iT.ph.fair d2 he1) he2 hsz FR ag7
  rw[bT _ _ e];exact hM.fair k (by rw[hL1.names];exact hk)
 have hch:∀T,y9 S j d2 (aL q)=some T->Chg S (dO (dO g j {g j with links:=(g j).links+1}) d2 ((g d2).more (aL q) j)) T:=fun T hT=>by unfold y9 at hT;rw[<-hS1]at hT;refine⟨hE.1 T hT,hL1.trans (vX hT),?_⟩;have:=hM.NK adD (by rw[gd];exact he2) hT;omega
 refine⟨⟨_,rfl,fun hx2=>.inl ?_,fun T hT=>⟨?_,by rw[jL,oK];omega,_,dn,φ,hch T hT,CS,fun _ _=>rfl⟩⟩,by rw[hyl];omega,h.iT.ph.sw,?_,?_,fun T hT=>?_⟩
 ·unfold y9 at hx2;rw[<-hS1]at hx2;have h1:=hE.2 hx2;rw[hL1.count,hL1.names]at h1;have h2:=DR hfair;rw[CS.wB hfair]at h2;rw[h.iT.rB];omega
 ·unfold y9 at hT;rw[<-hS1]at hT;exact hF1.gV hT
 ·rw[<-hS1];exact hM.NJ adD (by rw[gd];exact he2) (by rw[gd];exact hsz) FR ag7
 ·rw[<-hS1];exact hM.sv
 have:=hch T hT;exact Z64
theorem Vt.ag8 (h:Vt S ns fs g dn φ) {j mode:Nat} (hj:j<S.names) (hm:mode<=511):Chg S (dO g j {g j with mode:=mode}) (sO S j mode):=by
 have hfj:=h.iT.ph.fair j hj;have hhead:=h.iT.ph.head j hj;have hxf:({g j with mode:=mode}:LI).fair:=⟨hfj.kind,hfj.bG,hfj.data,hfj.few,hfj.short,by show mode<65536;omega,hfj.links,hfj.names⟩;have hM:=h.iT.ph.meta hj (x:= {g j with mode:=mode}) hxf rfl rfl rfl;have hy:({aG S.cur j with mode:=mode}:VI)=({g j with mode:=mode}:LI).vi (aG S.cur j).aB:=by
  conv=>lhs;rw[hhead]
  rfl
 rw[<-hy]at hM;exact⟨hM,(eZ.refl S).keep _ _,by show S.m+1<=40;rw[h.m];decide⟩
theorem Vt.arB (h:Vt S ns fs g dn φ) {n:TN} {mode:Nat} (hnm:n∈ns) (hf:n.file= -1) (hm:mode<=511):EP φ fs.length S (.ok (some (sO S (dn (bD n)) mode))) (⟨n.path, -1,mode⟩::qA ns (bD n)) fs:=by obtain⟨hj1,_⟩:=h.rep.dir n hnm hf;have hC:=h.ag8 hj1 hm;have hperm:=uE h.rep.uniq hnm;have hR:=(h.rep.perm hperm).azW hf (mode:=mode);refine⟨_,rfl,fun e=>(by cases e),fun T hT=>?_⟩;cases hT;refine⟨(qN.refl S).keep _ _,?_,_,dn,φ,hC,hR,fun _ _=>rfl⟩;have h1:=hperm.length_eq;rw[kR]at h1 ⊢;have:=h.nodes;have:=h.iT.few;omega
theorem Vt.amV (h:Vt S ns fs g dn φ) {n:TN} {mode:Nat} (hnm:n∈ns) (hf:n.file≠ -1) (hm:mode<=511):EP φ fs.length S (.ok (some (sO S (φ n.file) mode))) ns (fs.set n.file.toNat ⟨mode,(g (φ n.file)).data⟩):=by obtain⟨_,hj1,_⟩:=h.rep.file n hnm hf;have hC:=h.ag8 hj1 hm;have hR:=h.rep.avU hnm hf (mode:=mode) (bs:=(g (φ n.file)).data);refine⟨_,rfl,fun e=>(by cases e),fun T hT=>?_⟩;cases hT;refine⟨(qN.refl S).keep _ _,?_,_,dn,φ,hC,hR,fun _ _=>rfl⟩;have:=h.nodes;have:=h.iT.few;omega
end
end Go.Proofs.YtmjomdkleikgbaaGreat
