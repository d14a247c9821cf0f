/- FyF, FvB, FvC, laid together. -/
import Derived.Test.YteihmbaimbogaaaGreatJ39
namespace Go.Proofs.YteihmbaimbogaaaGreat
open Go.RowKit
set_option linter.unusedVariables false
set_option linter.unusedSimpArgs false
section
variable {w0 w:World} {R:List Asn}
set_option maxRecDepth 100000 in
set_option maxHeartbeats 4000000 in
theorem mount_any {p nb N:Nat} {D:DK} (hD:D.ok nb) (ho:D.off=false) (hway:wayP (bk D.now 0)=some []) (hM:MntOk nb N D.fl) (h:Sep w0 w (diskR p D::R)):
  Calls Tryz.prog 33 #[.pointer (some ⟨p,0,none⟩)] w fun e w'=>∃f q,e= .returned (.tuple #[.pointer (some ⟨f,0,none⟩),.int .i64 0])∧Sep w0 w' (restR f q p (VS.mnt nb N D.fl N)::R):=by
 obtain⟨bf,hbf⟩:∃b,b=w.heap.size:=⟨_,rfl⟩;have hS0:Hid (Sep w0 (((w.alloc (.cells #[.pointer (some ⟨bf+1+1,0,none⟩)] 24)).alloc (.cells #[.int .i64 0] 39)).alloc (.cells rawF 106)) (diskR p D:: .box (bf+1+1) 106 rawF::errBox (bf+1) 0:: .box bf 24 #[.pointer (some ⟨bf+1+1,0,none⟩)]::R)):=Lh (by have:=((h.bN 24 #[.pointer (some ⟨bf+1+1,0,none⟩)]).bN 39 #[.int .i64 0]).bN 106 rawF;simp only[World.size_alloc,←hbf]at this;exact Sep.sel [3,0,1,2] this (by decide) (by simp[errBox]));have hop:=open_idle hD (by have:=hM.room;omega) ho hway hS0.out;have hmf:∀(fn:Fn) (first cap:Array Value) (w:World),(Instr.makeFunc fn first cap).run Tryz.prog w= .ok (.func fn first cap) w:=fun _ _ _ _=>rfl
 have hcl:Hid (∀W Y,Sep w0 W (Y++ .box bf 24 #[.pointer (some ⟨bf+1+1,0,none⟩)]::R)→W.cell? ⟨bf,0,none⟩=some (.pointer (some ⟨bf+1+1,0,none⟩))):=Lh fun W Y hW=>by(have hi:(Y++ .box bf 24 #[.pointer (some ⟨bf+1+1,0,none⟩)]::R)[Y.length]? =some (.box bf 24 #[.pointer (some ⟨bf+1+1,0,none⟩)]):=by simp);exact hW.bC _ hi 0
 have hc0:=hcl.out _ [_,_,_] hS0.out;have hM':=Lh hM;clear h hD ho hway hM;unfold rawF at*;rw[hbf]at*
 go_enter_defers Tryz.func33,Tryz.ntmps33
 go_wp2_with(first |(go_at_call 78;refine hop.mono ?_;rintro e w9 ⟨q,rfl,h9⟩;(have k0:=h9.bC 3 rfl 0);(have k1:=h9.bF 3 rfl 0);(have h8:=h9.bS 3 rfl 0 (.int .i64 0));(have k2:=h8.bC 3 rfl 0);replace h8:=Lh h8;clear h9 hop;try simp only[gA,gB]at k0 k2)|(go_at_call 43;refine(smust_any _ _).mono ?_;rintro e w7 ⟨rfl,h7⟩;obtain rfl:=h7.symm));rename_i K1 hK1;obtain⟨w8,hw8⟩:∃w8,w8=w9.setCell ⟨w.heap.size+1,0,none⟩ (.int .i64 0):=⟨_,rfl⟩;rw[←hw8]at h8;try rw[←hw8]
 obtain⟨fb,hfb⟩:∃fb,fb=w8.heap.size:=⟨_,rfl⟩;have hfb':=Lh hfb;clear k0 k1 k2 hw8 hS0 hc0 hfb;refine wp_noPanic ?_;apply wp_via (fun W=>Hid (Sep w0 W (volR (w.heap.size+1+1) q p (VS.bare nb D.fl) ⟨none,[],fb,[]⟩::errBox (w.heap.size+1) 0:: .box w.heap.size 24 #[.pointer (some ⟨w.heap.size+1+1,0,none⟩)]::R)))
 ·refine wp_region_Ew (S:=fun w'=>w'.cell? ⟨w.heap.size,0,none⟩=some (.pointer (some ⟨w.heap.size+1+1,0,none⟩))) 16 (by kernel_rfl) ?_;intro wq hwq;(have hX:Hid (Sep w0 wq (ledgerR q p false::diskR p D.fl:: .box (w.heap.size+1+1) 106 #[.pointer none,.map none,.map none,.int .i64 0,.bool false,.complex .f64 0 0,.int .i64 0,.complex .f64 0 0]::errBox (w.heap.size+1) 0:: .box w.heap.size 24 #[.pointer (some ⟨w.heap.size+1+1,0,none⟩)]::R)):=by rw[hwq];exact Lh (Sep.sel [0,1,2,3,4] h8.out.drew (by decide) (by simp)));(have hszq:wq.heap.size=fb:=by rw[hwq,hfb'.out];simp);(have hfin:Hid (∀W,Sep w0 W (blkM fb []::ledgerR q p false::diskR p D.fl:: .box (w.heap.size+1+1) 106 #[.pointer (some ⟨q,0,none⟩),.map none,.map (some fb),.int .i64 0,.bool false,.complex .f64 0 0,.int .i64 0,.complex .f64 0 0]::errBox (w.heap.size+1) 0:: .box w.heap.size 24 #[.pointer (some ⟨w.heap.size+1+1,0,none⟩)]::R)→Sep w0 W (volR (w.heap.size+1+1) q p (VS.bare nb D.fl) ⟨none,[],fb,[]⟩::errBox (w.heap.size+1) 0:: .box w.heap.size 24 #[.pointer (some ⟨w.heap.size+1+1,0,none⟩)]::R)):=Lh fun W hW=>by(have h5:Sep w0 W (.emp::blkM fb []::ledgerR q p false::diskR p D.fl::fsB (w.heap.size+1+1) q (VS.bare nb D.fl) none (.map (some fb)) false::errBox (w.heap.size+1) 0:: .box w.heap.size 24 #[.pointer (some ⟨w.heap.size+1+1,0,none⟩)]::R):=by unfold fsB VS.bare cplx;simp only[fI_zero];exact hW.emp_shut);have h6:Sep w0 W (volP (w.heap.size+1+1) q p (VS.bare nb D.fl) ⟨none,[],fb,[]⟩++(errBox (w.heap.size+1) 0:: .box w.heap.size 24 #[.pointer (some ⟨w.heap.size+1+1,0,none⟩)]::R)):=Sep.sel [4,2,3,0,1] h5 (by decide) (by simp[volP,seenR]);exact h6.starL_shut);clear hwq;have hc:=hcl.out _ [_,_,_,_] hX.out;have hmm:= @run_makeMap Tryz.prog;simp only[List.size_toArray,List.length_cons,List.length_nil,Nat.reduceAdd];refine wpE_tk (i:=0) (v:=?_) hc rfl ?_ ?_;rotate_left
  ·rintro w e1;go_simp;try with_reducible rfl
  simp only[Act.put,gD];refine wpE_tk (i:=1) (v:=?_) hc rfl ?_ ?_;rotate_left
  ·rintro w e1;go_simp;try with_reducible rfl
  simp only[Act.put,gD];refine wpE_tk (i:=2) (v:=?_) hc rfl ?_ ?_;rotate_left
  ·rintro w e1;go_simp;try with_reducible rfl
  simp only[Act.put,gD];refine wpE_tk (i:=4) (v:=?_) hc rfl ?_ ?_;rotate_left
  ·rintro w e1;go_simp;try with_reducible rfl
  simp only[Act.put,gD];refine wpE_tk (i:=5) (v:=?_) hc rfl ?_ ?_;rotate_left
  ·rintro w e1;go_simp;try with_reducible rfl
  simp only[Act.put,gD];refine wpE_tk (i:=6) (v:=?_) hc rfl ?_ ?_;rotate_left
  ·rintro w e1;go_simp;try with_reducible rfl
  simp only[Act.put,gD];refine wpE_tk (i:=7) (v:=?_) hc rfl ?_ ?_;rotate_left
  ·rintro w e1;go_simp;try with_reducible rfl
  simp only[Act.put,gD];refine wpE_tk (i:=8) (v:=?_) hc rfl ?_ ?_;rotate_left
  ·rintro w e1;go_simp;try with_reducible rfl
  simp only[Act.put,gD];refine wpE_two8 (i:=3) (j:=9) (by kernel_rfl) rfl rfl (fun K hK=>?_) (fun K hK=>?_)
  focus
   go_simp
   have g1:=hX.out.blk_new
   obtain⟨wx1,hw1⟩:∃x,x=wq.alloc (.map #[] 0):=⟨_,rfl⟩
   rw[hszq]at g1
   try rw[hszq]
   have hsz1:wx1.heap.size=fb+1:=by rw[hw1];simp[hszq]
   rw[←hw1]at g1 ⊢
   replace g1:Hid (Sep w0 wx1 (blkM fb []::ledgerR q p false::diskR p D.fl:: .box (w.heap.size+1+1) 106 #[.pointer none,.map none,.map none,.int .i64 0,.bool false,.complex .f64 0 0,.int .i64 0,.complex .f64 0 0]::errBox (w.heap.size+1) 0:: .box w.heap.size 24 #[.pointer (some ⟨w.heap.size+1+1,0,none⟩)]::R)):=Lh g1
   have k1:=hcl.out _ [_,_,_,_,_] g1.out
   clear hw1
   try dsimp only
   refine hK _ _ (fun _=>k1) ?_
   clear hK K
   try simp only[Act.put,gD]
   refine wpE_one (i:=9) (by kernel_rfl) rfl (fun K hK=>?_)
   have y2:=g1.out.bC 3 rfl 0
   have z2:=g1.out.bF 3 rfl 0
   have g2:=g1.out.bS 3 rfl 0 (.pointer (some ⟨q,0,none⟩))
   try simp only[gA,gB,gC]at y2
   go_simp
   obtain⟨wx2,hw2⟩:∃x,x=wx1.setCell ⟨w.heap.size+1+1,0,none⟩ (.pointer (some ⟨q,0,none⟩)):=⟨_,rfl⟩
   have hsz2:wx2.heap.size=fb+1:=by rw[hw2];simp[hsz1]
   rw[←hw2]at g2 ⊢
   replace g2:Hid (Sep w0 wx2 (blkM fb []::ledgerR q p false::diskR p D.fl:: .box (w.heap.size+1+1) 106 #[.pointer (some ⟨q,0,none⟩),.map none,.map none,.int .i64 0,.bool false,.complex .f64 0 0,.int .i64 0,.complex .f64 0 0]::errBox (w.heap.size+1) 0:: .box w.heap.size 24 #[.pointer (some ⟨w.heap.size+1+1,0,none⟩)]::R)):=Lh g2
   have k2:=hcl.out _ [_,_,_,_,_] g2.out
   clear hw2
   try dsimp only
   refine hK _ _ (fun _=>k2) ?_
   clear hK K
   try simp only[Act.put,gD]
   refine wpE_tk (i:=10) (v:=?_) k2 rfl ?_ ?_
   rotate_left
   ·rintro w e1;go_simp;try with_reducible rfl
   simp only[Act.put,gD]
   refine wpE_tk (i:=11) (v:=?_) k2 rfl ?_ ?_
   rotate_left
   ·rintro w e1;go_simp;try with_reducible rfl
   simp only[Act.put,gD]
   refine wpE_tk (i:=12) (v:=?_) k2 rfl ?_ ?_
   rotate_left
   ·rintro w e1;go_simp;try with_reducible rfl
   simp only[Act.put,gD]
   refine wpE_tk (i:=13) (v:=?_) k2 rfl ?_ ?_
   rotate_left
   ·rintro w e1;go_simp;try with_reducible rfl
   simp only[Act.put,gD]
   refine wpE_tk (i:=14) (v:=?_) k2 rfl ?_ ?_
   rotate_left
   ·rintro w e1;go_simp;try with_reducible rfl
   simp only[Act.put,gD]
   refine wpE_one (i:=15) (by kernel_rfl) rfl (fun K hK=>?_)
   have y3:=g2.out.bC 3 rfl 2
   have z3:=g2.out.bF 3 rfl 2
   have g3:=g2.out.bS 3 rfl 2 (.map (some fb))
   try simp only[gA,gB,gC]at y3
   go_simp
   obtain⟨wx3,hw3⟩:∃x,x=wx2.setCell ⟨w.heap.size+1+1,2,none⟩ (.map (some fb)):=⟨_,rfl⟩
   have hsz3:wx3.heap.size=fb+1:=by rw[hw3];simp[hsz2]
   rw[←hw3]at g3 ⊢
   replace g3:Hid (Sep w0 wx3 (blkM fb []::ledgerR q p false::diskR p D.fl:: .box (w.heap.size+1+1) 106 #[.pointer (some ⟨q,0,none⟩),.map none,.map (some fb),.int .i64 0,.bool false,.complex .f64 0 0,.int .i64 0,.complex .f64 0 0]::errBox (w.heap.size+1) 0:: .box w.heap.size 24 #[.pointer (some ⟨w.heap.size+1+1,0,none⟩)]::R)):=Lh g3
   have k3:=hcl.out _ [_,_,_,_,_] g3.out
   clear hw3
   try dsimp only
   refine hK _ _ (fun _=>k3) ?_
   clear hK K
   try simp only[Act.put,gD]
   refine wpE_done (by kernel_rfl) ?_ _
   exact⟨rfl,Lh (hfin.out _ g3.out)⟩
  focus
   have y1:=hX.out.bC 2 rfl 0
   have z1:=hX.out.bF 2 rfl 0
   have g1:=hX.out.bS 2 rfl 0 (.pointer (some ⟨q,0,none⟩))
   try simp only[gA,gB,gC]at y1
   go_simp
   obtain⟨wx1,hw1⟩:∃x,x=wq.setCell ⟨w.heap.size+1+1,0,none⟩ (.pointer (some ⟨q,0,none⟩)):=⟨_,rfl⟩
   have hsz1:wx1.heap.size=fb:=by rw[hw1];simp[hszq]
   rw[←hw1]at g1 ⊢
   replace g1:Hid (Sep w0 wx1 (ledgerR q p false::diskR p D.fl:: .box (w.heap.size+1+1) 106 #[.pointer (some ⟨q,0,none⟩),.map none,.map none,.int .i64 0,.bool false,.complex .f64 0 0,.int .i64 0,.complex .f64 0 0]::errBox (w.heap.size+1) 0:: .box w.heap.size 24 #[.pointer (some ⟨w.heap.size+1+1,0,none⟩)]::R)):=Lh g1
   have k1:=hcl.out _ [_,_,_,_] g1.out
   clear hw1
   try dsimp only
   refine hK _ _ (fun _=>k1) ?_
   clear hK K
   try simp only[Act.put,gD]
   refine wpE_one (i:=3) (by kernel_rfl) rfl (fun K hK=>?_)
   go_simp
   have g2:=g1.out.blk_new
   obtain⟨wx2,hw2⟩:∃x,x=wx1.alloc (.map #[] 0):=⟨_,rfl⟩
   rw[hsz1]at g2
   try rw[hsz1]
   have hsz2:wx2.heap.size=fb+1:=by rw[hw2];simp[hsz1]
   rw[←hw2]at g2 ⊢
   replace g2:Hid (Sep w0 wx2 (blkM fb []::ledgerR q p false::diskR p D.fl:: .box (w.heap.size+1+1) 106 #[.pointer (some ⟨q,0,none⟩),.map none,.map none,.int .i64 0,.bool false,.complex .f64 0 0,.int .i64 0,.complex .f64 0 0]::errBox (w.heap.size+1) 0:: .box w.heap.size 24 #[.pointer (some ⟨w.heap.size+1+1,0,none⟩)]::R)):=Lh g2
   have k2:=hcl.out _ [_,_,_,_,_] g2.out
   clear hw2
   try dsimp only
   refine hK _ _ (fun _=>k2) ?_
   clear hK K
   try simp only[Act.put,gD]
   refine wpE_tk (i:=10) (v:=?_) k2 rfl ?_ ?_
   rotate_left
   ·rintro w e1;go_simp;try with_reducible rfl
   simp only[Act.put,gD]
   refine wpE_tk (i:=11) (v:=?_) k2 rfl ?_ ?_
   rotate_left
   ·rintro w e1;go_simp;try with_reducible rfl
   simp only[Act.put,gD]
   refine wpE_tk (i:=12) (v:=?_) k2 rfl ?_ ?_
   rotate_left
   ·rintro w e1;go_simp;try with_reducible rfl
   simp only[Act.put,gD]
   refine wpE_tk (i:=13) (v:=?_) k2 rfl ?_ ?_
   rotate_left
   ·rintro w e1;go_simp;try with_reducible rfl
   simp only[Act.put,gD]
   refine wpE_tk (i:=14) (v:=?_) k2 rfl ?_ ?_
   rotate_left
   ·rintro w e1;go_simp;try with_reducible rfl
   simp only[Act.put,gD]
   refine wpE_one (i:=15) (by kernel_rfl) rfl (fun K hK=>?_)
   have y3:=g2.out.bC 3 rfl 2
   have z3:=g2.out.bF 3 rfl 2
   have g3:=g2.out.bS 3 rfl 2 (.map (some fb))
   try simp only[gA,gB,gC]at y3
   go_simp
   obtain⟨wx3,hw3⟩:∃x,x=wx2.setCell ⟨w.heap.size+1+1,2,none⟩ (.map (some fb)):=⟨_,rfl⟩
   have hsz3:wx3.heap.size=fb+1:=by rw[hw3];simp[hsz2]
   rw[←hw3]at g3 ⊢
   replace g3:Hid (Sep w0 wx3 (blkM fb []::ledgerR q p false::diskR p D.fl:: .box (w.heap.size+1+1) 106 #[.pointer (some ⟨q,0,none⟩),.map none,.map (some fb),.int .i64 0,.bool false,.complex .f64 0 0,.int .i64 0,.complex .f64 0 0]::errBox (w.heap.size+1) 0:: .box w.heap.size 24 #[.pointer (some ⟨w.heap.size+1+1,0,none⟩)]::R)):=Lh g3
   have k3:=hcl.out _ [_,_,_,_,_] g3.out
   clear hw3
   try dsimp only
   refine hK _ _ (fun _=>k3) ?_
   clear hK K
   try simp only[Act.put,gD]
   refine wpE_done (by kernel_rfl) ?_ _
   exact⟨rfl,Lh (hfin.out _ g3.out)⟩
 intro W hW0;simp only[noPanic];exact hK1 _ _ (mount_tail hM'.out hW0.out)
end
end Go.Proofs.YteihmbaimbogaaaGreat
namespace Go.Proofs.YteihmbaimbogaaaGreat
set_option linter.unusedVariables false
set_option linter.unusedSimpArgs false
structure LI where
 kind:Nat
 mode:Nat
 links:Nat
 ents:Ents
 data:List UInt8
def LI.size (x:LI):Nat:=if x.kind=1 then x.ents.length else x.data.length
def LI.need (x:LI):Nat:=if x.kind=1 then max 1 ((x.ents.length+15)/16)else if x.kind=2 then(x.data.length+511)/512 else 0
def LI0 :LI:=⟨0,0,0,[],[]⟩
abbrev LT :=Nat→LI
def updT (g:LT) (n:Nat) (x:LI):LT:=fun i=>if i=n then x else g i
theorem updT_same (g:LT) (n:Nat) (x:LI):updT g n x n=x:=if_pos rfl
theorem updT_ne (g:LT) {n i:Nat} (x:LI) (h:i≠n):updT g n x i=g i:=if_neg h
structure LI.fair (x:LI):Prop where
 kind:x.kind≤2
 ents:x.kind≠1→x.ents=[]
 data:x.kind≠2→x.data=[]
 few:x.ents.length≤448
 short:x.data.length≤8192
 mode:x.mode<65536
 links:x.links<65536
 names:∀e∈x.ents,e.1.length≤15∧e.2≤65535
def LI.vi (x:LI) (l:List Nat):VI:=⟨x.kind,x.mode,x.links,x.size,l⟩
theorem LI.need_le {x:LI} (h:x.fair):x.need≤28:=by
 unfold LI.need;have:=h.few;have:=h.short;split
 ·omega
 split<;>omega
theorem LI.size_le {x:LI} (h:x.fair):x.size≤8192:=by unfold LI.size;have:=h.few;have:=h.short;split<;>omega
structure Phys (S:VS) (g:LT):Prop where
 use:UseOk S
 n0:0<S.names
 fair:∀n<S.names,(g n).fair
 head:∀n<S.names,inoP S.cur n=(g n).vi (inoP S.cur n).spots
 len:∀n<S.names,(inoP S.cur n).spots.length=(g n).need
 lt:∀n<S.names,∀s∈(inoP S.cur n).spots,s<S.count
 nodup:∀n<S.names,(inoP S.cur n).spots.Nodup
 dis:∀n<S.names,∀m<S.names,n≠m→∀s∈(inoP S.cur n).spots,s∉(inoP S.cur m).spots
 bits:∀j<S.count,S.bit j=true↔∃n<S.names,j∈(inoP S.cur n).spots
 ents:∀n<S.names,(g n).kind=1→dirL S.cur S.data (inoP S.cur n)=(g n).ents
 data:∀n<S.names,(g n).kind=2→contentP S.cur S.data (inoP S.cur n)=(g n).data
 wB:S.wB=sumN (fun n=>wghB (g n).kind (g n).size) S.names
 wI:S.wI=sumN (fun n=>wghI (g n).kind) S.names
 nodes:S.nodes=sumN (fun n=>((g n).ents.length:Int)) S.names
theorem flatP_congr {c c':Blks} {d:Nat} {l:List Nat} (h:∀s∈l,bk c' (d+s)=bk c (d+s)):flatP c' d l=flatP c d l:=by
 unfold flatP
 induction l with
 |nil=>rfl
 |cons s l ih=>rw[List.flatMap_cons,List.flatMap_cons,h s (List.mem_cons_self ..),ih fun t ht=>h t (List.mem_cons_of_mem _ ht)]
theorem content_congr {c c':Blks} {d:Nat} {x:VI} (h:∀s∈x.spots,bk c' (d+s)=bk c (d+s)):contentP c' d x=contentP c d x:=by unfold contentP;rw[flatP_congr h]
theorem entAt_congr {c c':Blks} {d:Nat} {x:VI} {i:Nat} (hi:i<16*x.spots.length) (h:∀s∈x.spots,bk c' (d+s)=bk c (d+s)):entAt c' d x i=entAt c d x i:=by
 unfold entAt;have hk:i/16<x.spots.length:=by omega
 rw[h _ (by rw[gH,gE hk];exact List.getElem_mem hk)]
theorem dirL_congr {c c':Blks} {d:Nat} {x:VI} (hs:x.size≤16*x.spots.length) (h:∀s∈x.spots,bk c' (d+s)=bk c (d+s)):dirL c' d x=dirL c d x:=by
 unfold dirL;refine List.map_congr_left fun i hi=>?_
 rw[entAt_congr (by have:=List.mem_range.1 hi;omega) h]
theorem Phys.few {S:VS} {g:LT} (h:Phys S g) {n:Nat} (hn:n<S.names):(inoP S.cur n).spots.length≤28:=by rw[h.len n hn];exact LI.need_le (h.fair n hn)
theorem Phys.size {S:VS} {g:LT} (h:Phys S g) {n:Nat} (hn:n<S.names):(inoP S.cur n).size=(g n).size:=by rw[h.head n hn];rfl
theorem Phys.kind {S:VS} {g:LT} (h:Phys S g) {n:Nat} (hn:n<S.names):(inoP S.cur n).kind=(g n).kind:=by rw[h.head n hn];rfl
theorem Phys.dirRoom {S:VS} {g:LT} (h:Phys S g) {n:Nat} (hn:n<S.names) (hk:(g n).kind=1):(inoP S.cur n).size≤16*(inoP S.cur n).spots.length:=by rw[h.size hn,h.len n hn];unfold LI.size LI.need;rw[if_pos hk,if_pos hk];omega
structure Step (S S':VS) (g:LT) (n:Nat) (x:LI) (l:List Nat):Prop where
 use:UseOk S'
 names:S'.names=S.names
 nb:S'.nb=S.nb
 ino:∀m<S.names,inoP S'.cur m=if m=n then x.vi l else inoP S.cur m
 fair:x.fair
 len:l.length=x.need
 lt:∀s∈l,s<S.count
 nodup:l.Nodup
 dis:∀m<S.names,m≠n→∀s∈(inoP S.cur m).spots,s∉l
 bits:∀j<S.count,S'.bit j=true↔j∈l∨∃m<S.names,m≠n∧j∈(inoP S.cur m).spots
 blk:∀m<S.names,m≠n→∀s∈(inoP S.cur m).spots,bk S'.cur (S.data+s)=bk S.cur (S.data+s)
 ents:x.kind=1→dirL S'.cur S.data (x.vi l)=x.ents
 data:x.kind=2→contentP S'.cur S.data (x.vi l)=x.data
 wB:S'.wB=S.wB-wghB (g n).kind (g n).size+wghB x.kind x.size
 wI:S'.wI=S.wI-wghI (g n).kind+wghI x.kind
 nodes:S'.nodes=S.nodes-(g n).ents.length+x.ents.length
theorem Phys.step {S S':VS} {g:LT} {n:Nat} {x:LI} {l:List Nat} (h:Phys S g) (hn:n<S.names) (st:Step S S' g n x l):Phys S' (updT g n x):=by
 have hd:S'.data=S.data:=by unfold VS.data;rw[st.names]
 have hc:S'.count=S.count:=by unfold VS.count;rw[hd,st.nb]
 have hin:inoP S'.cur n=x.vi l:=by rw[st.ino n hn,if_pos rfl]
 have hino:∀m,m<S.names→m≠n→inoP S'.cur m=inoP S.cur m:=fun m hm e=>by rw[st.ino m hm,if_neg e]
 refine⟨st.use,by rw[st.names];exact h.n0,?_,?_,?_,?_,?_,?_,?_,?_,?_,?_,?_,?_⟩<;>rw[st.names]at*
 ·intro m hm;by_cases e:m=n
  ·rw[e,updT_same];exact st.fair
  rw[updT_ne _ _ e];exact h.fair m hm
 ·intro m hm;by_cases e:m=n
  ·rw[e,updT_same,hin];rfl
  rw[updT_ne _ _ e,hino m hm e];exact h.head m hm
 ·intro m hm;by_cases e:m=n
  ·rw[e,updT_same,hin];exact st.len
  rw[updT_ne _ _ e,hino m hm e];exact h.len m hm
 ·intro m hm;rw[hc];by_cases e:m=n
  ·rw[e,hin];exact st.lt
  rw[hino m hm e];exact h.lt m hm
 ·intro m hm;by_cases e:m=n
  ·rw[e,hin];exact st.nodup
  rw[hino m hm e];exact h.nodup m hm
 ·intro m hm k hk hmk;by_cases e:m=n
  ·subst e;rw[hin,hino k hk (fun e=>hmk e.symm)];intro s hs hs2;exact st.dis k hk (fun e=>hmk e.symm) s hs2 hs
  rw[hino m hm e];by_cases e2:k=n
  ·subst e2;rw[hin];exact st.dis m hm e
  rw[hino k hk e2];exact h.dis m hm k hk hmk
 ·intro j hj;rw[hc]at hj;rw[st.bits j hj];constructor
  ·rintro(h1|⟨m,hm,e,h1⟩)
   ·exact⟨n,hn,by rw[hin];exact h1⟩
   exact⟨m,hm,by rw[hino m hm e];exact h1⟩
  rintro⟨m,hm,h1⟩;by_cases e:m=n
  ·subst e;rw[hin]at h1;exact .inl h1
  rw[hino m hm e]at h1;exact .inr ⟨m,hm,e,h1⟩
 ·intro m hm hk;rw[hd];by_cases e:m=n
  ·subst e;rw[updT_same]at hk ⊢;rw[hin];exact st.ents hk
  rw[updT_ne _ _ e]at hk ⊢;rw[hino m hm e,dirL_congr (h.dirRoom hm hk) (st.blk m hm e)];exact h.ents m hm hk
 ·intro m hm hk;rw[hd];by_cases e:m=n
  ·subst e;rw[updT_same]at hk ⊢;rw[hin];exact st.data hk
  rw[updT_ne _ _ e]at hk ⊢;rw[hino m hm e,content_congr (st.blk m hm e)];exact h.data m hm hk
 ·rw[st.wB,h.wB,sumN_upd (f:=fun n=>wghB (g n).kind (g n).size) (g:=fun i=>wghB (updT g n x i).kind (updT g n x i).size) hn fun i _ e=>by rw[updT_ne _ _ e]];simp only[updT_same]
 ·rw[st.wI,h.wI,sumN_upd (f:=fun n=>wghI (g n).kind) (g:=fun i=>wghI (updT g n x i).kind) hn fun i _ e=>by rw[updT_ne _ _ e]];simp only[updT_same]
 rw[st.nodes,h.nodes,sumN_upd (f:=fun n=>((g n).ents.length:Int)) (g:=fun i=>((updT g n x i).ents.length:Int)) hn fun i _ e=>by rw[updT_ne _ _ e]];simp only[updT_same]
theorem UseOk.tab {S:VS} (h:UseOk S) {n:Nat} (hn:n<S.names):2+n/8<S.nb-96:=by have:=h.vf.room;unfold VS.data at this;omega
theorem UseOk.keep {S:VS} (h:UseOk S) {n:Nat} (hn:n<S.names) {x:VI} (hx:x.spots.length≤28):UseOk (S.keep n x):=
 ⟨keepP_ok h.cur (h.tab hn) hx,⟨h.vf.names,h.vf.room⟩,h.nb⟩
theorem keep_blk (c:Blks) {n k:Nat} (x:VI) (h:k≠2+n/8):bk (keepP c n x) k=bk c k:=bk_set_ne c _ h
theorem keep_bit (S:VS) (n:Nat) (x:VI) (j:Nat):(S.keep n x).bit j=S.bit j:=by
 show bitB (bk (keepP S.cur n x) 1) j=_
 rw[keep_blk _ _ (by omega)];rfl
theorem keep_data {S:VS} {n:Nat} (hn:n<S.names) (x:VI) (s:Nat):bk (S.keep n x).cur (S.data+s)=bk S.cur (S.data+s):=
 keep_blk _ _ (by unfold VS.data;omega)
theorem keep_ino {S:VS} (h:UseOk S) {n:Nat} (hn:n<S.names) {x:VI} (hx:x.ok) (m:Nat):inoP (S.keep n x).cur m=if m=n then x else inoP S.cur m:=
 inoP_keep h.cur (h.tab hn) hx m
theorem LI.vi_ok {x:LI} (h:x.fair) {l:List Nat} (hl:l.length≤28) (h2:∀s∈l,s<65536):(x.vi l).ok:=
 ⟨by have:=h.kind;unfold LI.vi;simp only;omega,h.mode,h.links,by have:=LI.size_le h;unfold LI.vi;simp only;omega,hl,h2⟩
theorem Phys.spot_small {S:VS} {g:LT} (h:Phys S g) {s:Nat} (hs:s<S.count):s<65536:=by have:=h.use.nb;unfold VS.count at hs;omega
theorem entE_get {name:List UInt8} {n:Nat} (h:name.length≤15) (k:Nat):(entE name n)[k]? =if 16≤k∧k<18 then(w2 n)[k-16]? else if 1≤k∧k<1+name.length then name[k-1]? else((List.replicate 32 (0:UInt8)).set 0 (UInt8.ofNat name.length))[k]? :=by
 unfold entE;rw[layB_get (by rw[layB_len (by simp;omega)];simp[w2_len]),w2_len];by_cases h1:16≤k∧k<16+2
 ·rw[if_pos h1,if_pos (by omega)]
 rw[if_neg h1,if_neg (by omega),layB_get (by simp;omega)]
theorem entE_len0 {name:List UInt8} {n:Nat} (h:name.length≤15):((entE name n).getD 0 0).toNat=name.length:=by rw[gH,entE_get h,if_neg (by omega),if_neg (by omega),List.getElem?_set_self (by simp),Option.getD_some,u8_of];omega
theorem enN_entE {name:List UInt8} {n:Nat} (h:name.length≤15):enN (entE name n)=name:=by
 unfold enN;rw[entE_len0 h];apply List.ext_getElem?;intro k;rw[List.getElem?_take];by_cases hk:k<name.length
 ·rw[if_pos hk,List.getElem?_drop,entE_get h,if_neg (by omega),if_pos (by omega),Nat.add_sub_cancel_left]
 rw[if_neg hk,List.getElem?_eq_none (by omega)]
theorem enI_entE {name:List UInt8} {n:Nat} (h:name.length≤15) (hn:n≤65535):enI (entE name n)=n:=by
 unfold enI r2;rw[gH,gH,entE_get h,entE_get h,if_pos (by omega),if_pos (by omega)];show(UInt8.ofNat n).toNat+256*(UInt8.ofNat (n/256)).toNat=n
 rw[u8_of,u8_of];omega
theorem entB_lay {b e:List UInt8} {i k:Nat} (hb:b.length=512) (he:e.length=32):entB (layB b (i%16*32) e) k=if k%16=i%16 then e else entB b k:=by
 have hr:i%16*32+e.length≤b.length:=by omega
 unfold entB;by_cases hk:k%16=i%16
 ·rw[if_pos hk,hk];have:=layB_same hr;rw[he]at this;exact this
 rw[if_neg hk];apply List.ext_getElem?;intro t;rw[List.getElem?_take,List.getElem?_take];by_cases ht:t<32
 ·rw[if_pos ht,if_pos ht,List.getElem?_drop,List.getElem?_drop,layB_get hr,he,if_neg (by omega)]
 rw[if_neg ht,if_neg ht]
theorem UseOk.room {S:VS} (h:UseOk S) {s:Nat} (hs:s<S.count):S.data+s<S.nb-96:=by unfold VS.count at hs;omega
theorem UseOk.setE {S:VS} (h:UseOk S) {s:Nat} (hs:s<S.count) (i:Nat) {name:List UInt8} (n:Nat) (hn:name.length≤15):UseOk (S.setE s i name n):=
 h.put _ (by have hl:=bk_len h.cur (h.room hs);rw[layB_len (by rw[hl,entE_len hn];omega),hl])
theorem setE_bit {S:VS} (h:UseOk S) (s i:Nat) (name:List UInt8) (n j:Nat):(S.setE s i name n).bit j=S.bit j:=by
 show bitB (bk (S.cur.set (S.data+s) _) 1) j=_
 rw[bk_set_ne _ _ (by unfold VS.data;omega)];rfl
theorem setE_blk (S:VS) {s t:Nat} (i:Nat) (name:List UInt8) (n:Nat) (h:t≠s):bk (S.setE s i name n).cur (S.data+t)=bk S.cur (S.data+t):=bk_set_ne _ _ (by omega)
theorem getD_inj {l:List Nat} (h:l.Nodup) {a b:Nat} (ha:a<l.length) (hb:b<l.length) (e:l.getD a 0=l.getD b 0):a=b:=by
 rw[gH,gH,gE ha,gE hb]at e;simp only[Option.getD_some]at e;have hp:=List.pairwise_iff_getElem.1 h;rcases Nat.lt_trichotomy a b with h1|h1|h1
 ·exact absurd e (hp a b ha hb h1)
 ·exact h1
 exact absurd e.symm (hp b a hb ha h1)
theorem getD_mem {l:List Nat} {a:Nat} (ha:a<l.length):l.getD a 0∈l:=by rw[gH,gE ha];exact List.getElem_mem ha
theorem setE_ent {S:VS} (h:UseOk S) {x:VI} (hx:x.spots.Nodup) {i k n:Nat} {name:List UInt8} (hi:i<16*x.spots.length) (hk:k<16*x.spots.length) (hlt:∀s∈x.spots,s<S.count) (hn:name.length≤15):
  entAt (S.setE (x.spots.getD (i/16) 0) i name n).cur S.data x k=if k=i then entE name n else entAt S.cur S.data x k:=by
 have hi2:i/16<x.spots.length:=by omega
 have hk2:k/16<x.spots.length:=by omega
 have hs:=hlt _ (getD_mem hi2);have hl:=bk_len h.cur (h.room hs);unfold entAt;by_cases e:k/16=i/16
 ·rw[e];(show entB (bk (S.cur.set _ _) _) k=_);rw[bk_set _ _ _ _ (by rw[h.cur.len];exact h.room hs),if_pos rfl,entB_lay hl (entE_len hn)];by_cases e2:k%16=i%16
  ·rw[if_pos e2,if_pos (by omega)]
  rw[if_neg e2,if_neg (by omega)]
 rw[setE_blk _ _ _ _ (fun e2=>e (getD_inj hx hk2 hi2 e2)),if_neg (by omega)]
theorem keep_setE (S:VS) {n:Nat} (hn:n<S.names) (y:VI) (s i:Nat) (name:List UInt8) (k:Nat):(S.keep n y).setE s i name k=(S.setE s i name k).keep n y:=by
 have hne:2+n/8≠S.data+s:=by unfold VS.data;omega
 have e1:bk (keepP S.cur n y) (S.data+s)=bk S.cur (S.data+s):=keep_blk _ _ (fun e=>hne e.symm);have e2:inoP (S.setE s i name k).cur n=inoP S.cur n:=(Laid.setE S s i name k).ino hn;have e3:bk (S.setE s i name k).cur (2+n/8)=bk S.cur (2+n/8):=(Laid.setE S s i name k).blk _ (by unfold VS.data;omega);have h1:((S.keep n y).setE s i name k).cur=((S.setE s i name k).keep n y).cur:=by(show(keepP S.cur n y).set (S.data+s) (layB (bk (keepP S.cur n y) (S.data+s)) _ _)=keepP (S.setE s i name k).cur n y);rw[e1];unfold keepP;rw[e3];exact List.set_comm _ _ hne
 have h2:((S.keep n y).setE s i name k).wB=((S.setE s i name k).keep n y).wB:=by(show S.wB-wghB (inoP S.cur n).kind (inoP S.cur n).size+wghB y.kind y.size=S.wB-wghB (inoP (S.setE s i name k).cur n).kind (inoP (S.setE s i name k).cur n).size+wghB y.kind y.size);rw[e2]
 have h3:((S.keep n y).setE s i name k).wI=((S.setE s i name k).keep n y).wI:=by(show S.wI-wghI (inoP S.cur n).kind+wghI y.kind=S.wI-wghI (inoP (S.setE s i name k).cur n).kind+wghI y.kind);rw[e2]
 have:∀(a b:VS),a.nb=b.nb→a.names=b.names→a.D=b.D→a.cur=b.cur→a.wB=b.wB→a.wI=b.wI→a.nodes=b.nodes→a.rB=b.rB→a.rI=b.rI→a.m=b.m→a=b:=fun a b=>by cases a;cases b;simp only[VS.mk.injEq];intros;simp_all
 exact this _ _ rfl rfl rfl h1 h2 h3 rfl rfl rfl rfl
structure Mid (S S1:VS):Prop where
 use:UseOk S1
 names:S1.names=S.names
 nb:S1.nb=S.nb
 ino:∀m<S.names,inoP S1.cur m=inoP S.cur m
 wB:S1.wB=S.wB
 wI:S1.wI=S.wI
theorem Mid.data {S S1:VS} (h:Mid S S1):S1.data=S.data:=by unfold VS.data;rw[h.names]
theorem Mid.count {S S1:VS} (h:Mid S S1):S1.count=S.count:=by unfold VS.count;rw[h.data,h.nb]
theorem Mid.used {S S1:VS} {k:Nat} (h:Used S S1 k) (hu:UseOk S1):Mid S S1:=⟨hu,h.names,h.nb,fun m _=>h.ino m,h.wB,h.wI⟩
theorem Mid.laid {S S1:VS} {k:Nat} (h:Laid S S1 k) (hu:UseOk S1):Mid S S1:=⟨hu,h.like.names,h.like.nb,fun m hm=>h.ino hm,h.wB,h.wI⟩
theorem Mid.trans {S T U:VS} (h:Mid S T) (g:Mid T U):Mid S U:=⟨g.use,g.names.trans h.names,g.nb.trans h.nb,fun m hm=>(g.ino m (by rw[h.names];exact hm)).trans (h.ino m hm),g.wB.trans h.wB,g.wI.trans h.wI⟩
theorem Mid.refl {S:VS} (h:UseOk S):Mid S S:=⟨h,rfl,rfl,fun _ _=>rfl,rfl,rfl⟩
theorem Mid.node {S:VS} (h:UseOk S) (z:Int):Mid S (S.node z):=⟨⟨h.cur,⟨h.vf.names,h.vf.room⟩,h.nb⟩,rfl,rfl,fun _ _=>rfl,rfl,rfl⟩
theorem Step.keep {S S1:VS} {g:LT} {n:Nat} {x:LI} {l:List Nat} (h:Phys S g) (hn:n<S.names) (hm:Mid S S1) (fair:x.fair) (len:l.length=x.need) (lt:∀s∈l,s<S.count) (nodup:l.Nodup)
  (dis:∀m<S.names,m≠n→∀s∈(inoP S.cur m).spots,s∉l) (bits:∀j<S.count,S1.bit j=true↔j∈l∨∃m<S.names,m≠n∧j∈(inoP S.cur m).spots)
  (blk:∀m<S.names,m≠n→∀s∈(inoP S.cur m).spots,bk S1.cur (S.data+s)=bk S.cur (S.data+s))
  (ents:x.kind=1→dirL S1.cur S.data (x.vi l)=x.ents) (data:x.kind=2→contentP S1.cur S.data (x.vi l)=x.data) (nodes:S1.nodes=S.nodes-(g n).ents.length+x.ents.length):
  Step S (S1.keep n (x.vi l)) g n x l:=by
 have hn1:n<S1.names:=by rw[hm.names];exact hn
 have hl28:l.length≤28:=by rw[len];exact LI.need_le fair
 have hok:(x.vi l).ok:=LI.vi_ok fair hl28 fun s hs=>h.spot_small (lt s hs)
 have hkd:∀s,bk (S1.keep n (x.vi l)).cur (S.data+s)=bk S1.cur (S.data+s):=fun s=>by have:=keep_data hn1 (x.vi l) s;rw[hm.data]at this;exact this
 refine⟨hm.use.keep hn1 hl28,hm.names,hm.nb,fun m hmm=>?_,fair,len,lt,nodup,dis,fun j hj=>?_,fun m hmm e s hs=>?_,fun hk=>?_,fun hk=>?_,?_,?_,nodes⟩
 ·rw[keep_ino hm.use hn1 hok,hm.ino m hmm]
 ·rw[keep_bit];exact bits j hj
 ·rw[hkd];exact blk m hmm e s hs
 ·rw[←ents hk];(refine dirL_congr ?_ fun s _=>hkd s);(show x.size≤16*l.length);rw[len];unfold LI.size LI.need;rw[if_pos hk,if_pos hk];omega
 ·rw[←data hk];exact content_congr fun s _=>hkd s
 ·(show S1.wB-wghB (inoP S1.cur n).kind (inoP S1.cur n).size+wghB x.kind x.size=_);rw[hm.ino n hn,hm.wB,h.kind hn,h.size hn]
 show S1.wI-wghI (inoP S1.cur n).kind+wghI x.kind=_
 rw[hm.ino n hn,hm.wI,h.kind hn]
theorem Phys.others {S:VS} {g:LT} (h:Phys S g) {n:Nat} (hn:n<S.names):∀m<S.names,m≠n→∀s∈(inoP S.cur m).spots,s∉(inoP S.cur n).spots:=fun m hm e=>h.dis m hm n hn e
theorem Phys.bits2 {S:VS} {g:LT} (h:Phys S g) {n:Nat} (hn:n<S.names) {j:Nat} (hj:j<S.count):S.bit j=true↔j∈(inoP S.cur n).spots∨∃m<S.names,m≠n∧j∈(inoP S.cur m).spots:=by
 rw[h.bits j hj];constructor
 ·rintro⟨m,hm,h1⟩;by_cases e:m=n
  ·subst e;exact .inl h1
  exact .inr ⟨m,hm,e,h1⟩
 rintro(h1|⟨m,hm,_,h1⟩)
 ·exact⟨n,hn,h1⟩
 exact⟨m,hm,h1⟩
theorem Phys.newFile {S:VS} {g:LT} (h:Phys S g) {n:Nat} (hn:n<S.names) (h0:(g n).kind=0) {mode links:Nat} (hm:mode<65536) (hl:links<65536):
  (inoP S.cur n).spots=[]∧Phys (S.keep n ⟨2,mode,links,0,[]⟩) (updT g n ⟨2,mode,links,[],[]⟩):=by
 have hz:(inoP S.cur n).spots=[]:=List.eq_nil_of_length_eq_zero (by rw[h.len n hn];unfold LI.need;rw[if_neg (by omega),if_neg (by omega)]);have he:(g n).ents=[]:=(h.fair n hn).ents (by omega);have hf:(⟨2,mode,links,[],[]⟩:LI).fair:=⟨Nat.le_refl 2,fun _=>rfl,fun e=>absurd rfl e,Nat.zero_le _,Nat.zero_le _,hm,hl,fun e he=>by cases he⟩;refine⟨hz,h.step (x:=⟨2,mode,links,[],[]⟩) (l:=[]) hn (Step.keep (x:=⟨2,mode,links,[],[]⟩) (l:=[]) h hn (Mid.refl h.use) hf (by simp[LI.need]) (fun s hs=>by cases hs) .nil (fun _ _ _ s _ hs=>by cases hs) (fun j hj=>?_) (fun _ _ _ _ _=>rfl) (fun k1=>by cases k1) (fun _=>rfl) (by rw[he];simp))⟩;rw[h.bits2 hn hj,hz]
end Go.Proofs.YteihmbaimbogaaaGreat
