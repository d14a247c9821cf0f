/- FwH, FwI, laid together. -/
import Derived.Test.YteihmbaimbogaaaGreatJ34
namespace Go.Proofs.YteihmbaimbogaaaGreat
open Go.RowKit
set_option linter.unusedVariables false
set_option linter.unusedSimpArgs false
def DK.fresh (n:Nat):DK:=⟨List.replicate n bB,List.replicate n bB,[],false, -1⟩
theorem tV (n:Nat):iX n (List.replicate n bB):=⟨List.length_replicate,fun b hb=>by rw[(List.mem_replicate.1 hb).2];exact dP⟩
theorem DK.TH {n:Nat} (h0:1≤n) (h1:n≤4096):(DK.fresh n).ok n:=⟨tV n,tV n,h1,h0,fun x hx=>absurd hx List.not_mem_nil,by show(-1:Int)≤ -1∧(-1:Int)≤9223372036854775807;omega⟩
theorem afT (n:Nat):(List.replicate n bB).flatten=List.replicate (n*512) 0:=by
 unfold bB
 induction n with
 |zero=>rfl
 |succ n ih=>rw[List.replicate_succ,List.flatten_cons,ih,List.replicate_append_replicate,Nat.succ_mul,Nat.add_comm]
section
variable {w0 w:World} {R:List aU} {p nb:Nat} {D:DK}
theorem afU (h:Sep w0 w (aJ p D::R)):Calls Tryz.prog 39 #[.pointer (some ⟨p,0,none⟩)] w fun e w'=>e= .returned (.bool (!D.off))∧w'=w:=by
 obtain⟨vn,vf,vb,h1⟩:=h.rZ;have c3:=h1.bC 0 rfl 3;simp only[gA,gB,gC]at c3;clear h h1;cases hd:D.off<;>rw[hd]at c3
 ·go_enter Tryz.func39,Tryz.ntmps39;go_wp2_with fail;go_ret;exact⟨rfl,rfl⟩
 go_enter Tryz.func39,Tryz.ntmps39;go_wp2_with fail;go_ret;exact⟨rfl,rfl⟩
theorem Sep.afV (h:Sep w0 w R):Sep w0 w (xV (.slice none 0 0) []::R):=Sep.CK (us:=[]) rfl (h.fO 137 3)
set_option maxRecDepth 100000 in
set_option maxHeartbeats 2000000 in
theorem aj2 {n:Nat} (h0:1≤n) (h1:n≤4096) (h:Sep w0 w R):
  Calls Tryz.prog 32 #[.int .i64 n] w fun e w'=>∃p,e= .returned (.tuple #[.pointer (some ⟨p,0,none⟩),.int .i64 0])∧Sep w0 w' (aJ p (DK.fresh n)::R):=by
 obtain⟨k0,iM,hk0,hk1,hk2⟩:=iQ jV;have hmk:∀W,(Instr.makeSlice 35 (.int .i64 ((n:Int)*512)) (.int .i64 ((n:Int)*512))).run Tryz.prog W= .ok (.slice (some ⟨W.heap.size,0,none⟩) (n*512) (n*512)) (W.alloc (.cells (madeCells #[.int .u8 0] (n*512)) 5)):=fun W=>by have:=kF (P:=Tryz.prog) 35 5 k0 (.int .u8 0) 1 Tryz.underlying35 iM hk0 hk1 hk2 rfl .i64 .i64 (n*512) (by omega) (by unfold maxLen;omega) W;rw[Int.natCast_mul]at this;exact this
 have q0:(1:Int)≤n:=by omega
 have q1:(n:Int)≤4096:=by omega
 have hwr:IntKind.i64.wrap ((n:Int)*512)=(n:Int)*512:=IntWalk.i64_in _ (by omega);have hmd:Hid (∀(As:List aU) (W:World),Sep w0 W As→Sep w0 (W.alloc (.cells (madeCells #[.int .u8 0] (n*512)) 5)) (aH (.slice (some ⟨W.heap.size,0,none⟩) (n*512) (n*512)) (List.replicate n bB).flatten::As)):=Lh fun As W hW=>by have:=hW.made 5 (.int .u8 0) (n*512) (by unfold maxLen;omega);rw[afT,bE List.length_replicate,List.map_replicate];exact this
 have hend:Hid (∀W A B cA cB,Sep w0 W (aH (.slice A (n*512) cA) (List.replicate n bB).flatten::aH (.slice B (n*512) cB) (List.replicate n bB).flatten::R)→
   Sep w0 (W.alloc (.cells #[.slice A (n*512) cA,.slice B (n*512) cB,.slice none 0 0,.bool false,.int .i64 (-1)] 130)) (aJ W.heap.size (DK.fresh n)::R)):=Lh fun W A B cA cB hW=>by
  have h2:=hW.bN 130 #[.slice A (n*512) cA,.slice B (n*512) cB,.slice none 0 0,.bool false,.int .i64 (-1)];have h3:=h2.afV;exact Sep.sD (D:=DK.fresh n) (vn:=.slice A (n*512) cA) (vf:=.slice B (n*512) cB) (vb:=.slice none 0 0) (Sep.bZ [1,2,3,0] h3 (by decide) (by simp[fG,DK.fresh]))
 replace h:=Lh h;clear h0 h1 hk2 hk1 hk0 iM;go_enter Tryz.func32,Tryz.ntmps32;go_wp2_with fail;refine fZ (S:=fun w'=>True) 10 (by kernel_rfl) ?_;intro wq hwq;have hX:Hid (Sep w0 wq R):=by rw[hwq];exact Lh h.out.drew
 clear hwq h;simp only[List.size_toArray,List.length_cons,List.length_nil,Nat.reduceAdd];have hc:True:=trivial;refine aA (i:=0) (v:=?_) hc rfl ?_ ?_;rotate_left
 ·rintro w e1;go_simp;try with_reducible rfl
 simp only[Act.put,gD];refine aA (i:=1) (v:=?_) hc rfl ?_ ?_;rotate_left
 ·rintro w e1;go_simp;try with_reducible rfl
 simp only[Act.put,gD];refine aA (i:=3) (v:=?_) hc rfl ?_ ?_;rotate_left
 ·rintro w e1;go_simp;try with_reducible rfl
 simp only[Act.put,gD];refine aA (i:=4) (v:=?_) hc rfl ?_ ?_;rotate_left
 ·rintro w e1;go_simp;try with_reducible rfl
 simp only[Act.put,gD];refine l9 (i:=2) (j:=5) (by kernel_rfl) rfl rfl (fun K hK=>?_) (fun K hK=>?_)
 focus
  go_simp
  have h1:=Lh (hmd.out _ _ hX.out)
  try dsimp only
  refine hK _ _ (fun _=>trivial) ?_
  clear hK K
  try simp only[Act.put,gD]
  obtain⟨g2,hg2⟩:∃g,g=wq.heap.size:=⟨_,rfl⟩
  obtain⟨w2,hw2⟩:∃w2,w2=wq.alloc (.cells (madeCells #[.int .u8 0] (n*512)) 5):=⟨_,rfl⟩
  rw[←hw2]at h1 ⊢
  rw[←hg2]at h1 ⊢
  clear hw2 hg2 hX
  refine aC (i:=5) (by kernel_rfl) rfl (fun K hK=>?_)
  go_simp
  have h2:=Lh (hmd.out _ _ h1.out)
  try dsimp only
  refine hK _ _ (fun _=>trivial) ?_
  clear hK K
  try simp only[Act.put,gD]
  obtain⟨g3,hg3⟩:∃g,g=w2.heap.size:=⟨_,rfl⟩
  obtain⟨w3,hw3⟩:∃w3,w3=w2.alloc (.cells (madeCells #[.int .u8 0] (n*512)) 5):=⟨_,rfl⟩
  rw[←hw3]at h2 ⊢
  rw[←hg3]at h2 ⊢
  clear hw3 hg3 h1
  refine aC (i:=6) (by kernel_rfl) rfl (fun K hK=>?_)
  go_simp
  try dsimp only
  refine hK _ _ (fun _=>trivial) ?_
  clear hK K
  try simp only[Act.put,gD]
  refine aC (i:=7) (by kernel_rfl) rfl (fun K hK=>?_)
  go_simp
  have h3:=Lh (hend.out w3 _ _ _ _ (h2.out.perm (List.Perm.swap _ _ _)))
  try dsimp only
  refine hK _ _ (fun _=>trivial) ?_
  clear hK K
  try simp only[Act.put,gD]
  refine aC (i:=8) (by kernel_rfl) rfl (fun K hK=>?_)
  go_simp
  try dsimp only
  refine hK _ _ (fun _=>trivial) ?_
  clear hK K
  try simp only[Act.put,gD]
  refine aC (i:=9) (by kernel_rfl) rfl (fun K hK=>?_)
  go_simp
  try dsimp only
  refine hK _ _ (fun _=>trivial) ?_
  clear hK K
  try simp only[Act.put,gD]
  refine aO (by kernel_rfl) ?_ _
  go_wp2_with fail
  go_ret2
  exact⟨_,rfl,h3.out⟩
 focus
  go_simp
  have h1:=Lh (hmd.out _ _ hX.out)
  try dsimp only
  refine hK _ _ (fun _=>trivial) ?_
  clear hK K
  try simp only[Act.put,gD]
  obtain⟨g2,hg2⟩:∃g,g=wq.heap.size:=⟨_,rfl⟩
  obtain⟨w2,hw2⟩:∃w2,w2=wq.alloc (.cells (madeCells #[.int .u8 0] (n*512)) 5):=⟨_,rfl⟩
  rw[←hw2]at h1 ⊢
  rw[←hg2]at h1 ⊢
  clear hw2 hg2 hX
  refine aC (i:=2) (by kernel_rfl) rfl (fun K hK=>?_)
  go_simp
  have h2:=Lh (hmd.out _ _ h1.out)
  try dsimp only
  refine hK _ _ (fun _=>trivial) ?_
  clear hK K
  try simp only[Act.put,gD]
  obtain⟨g3,hg3⟩:∃g,g=w2.heap.size:=⟨_,rfl⟩
  obtain⟨w3,hw3⟩:∃w3,w3=w2.alloc (.cells (madeCells #[.int .u8 0] (n*512)) 5):=⟨_,rfl⟩
  rw[←hw3]at h2 ⊢
  rw[←hg3]at h2 ⊢
  clear hw3 hg3 h1
  refine aC (i:=6) (by kernel_rfl) rfl (fun K hK=>?_)
  go_simp
  try dsimp only
  refine hK _ _ (fun _=>trivial) ?_
  clear hK K
  try simp only[Act.put,gD]
  refine aC (i:=7) (by kernel_rfl) rfl (fun K hK=>?_)
  go_simp
  have h3:=Lh (hend.out w3 _ _ _ _ h2.out)
  try dsimp only
  refine hK _ _ (fun _=>trivial) ?_
  clear hK K
  try simp only[Act.put,gD]
  refine aC (i:=8) (by kernel_rfl) rfl (fun K hK=>?_)
  go_simp
  try dsimp only
  refine hK _ _ (fun _=>trivial) ?_
  clear hK K
  try simp only[Act.put,gD]
  refine aC (i:=9) (by kernel_rfl) rfl (fun K hK=>?_)
  go_simp
  try dsimp only
  refine hK _ _ (fun _=>trivial) ?_
  clear hK K
  try simp only[Act.put,gD]
  refine aO (by kernel_rfl) ?_ _
  go_wp2_with fail
  go_ret2
  exact⟨_,rfl,h3.out⟩
end
def DK.made (n:Nat):DK:=⟨(List.replicate n bB).set 0 (dM []),(List.replicate n bB).set 0 (dM []),[],false, -1⟩
theorem YY (n:Nat):(List.replicate n bB).set 0 bB=List.replicate n bB:=by
 cases n with
 |zero=>rfl
 |succ n=>rfl
theorem TI (n:Nat):(DK.fresh n).wr 0 bB=⟨List.replicate n bB,List.replicate n bB,[(0,bB)],false, -1⟩:=by unfold DK.wr DK.step DK.fresh;simp only;rw[if_neg (by decide),YY];rfl
theorem afW (n:Nat):((DK.fresh n).wr 0 bB).fl=DK.fresh n:=by rw[TI];unfold DK.fl DK.step jE DK.fresh;simp only[List.foldl_cons,List.foldl_nil];rw[if_neg (by decide),YY]
theorem abL (n:Nat):(DK.fresh n).fl=DK.fresh n:=by unfold DK.fl DK.step jE DK.fresh;simp only[List.foldl_nil];rw[if_neg (by decide)]
theorem MZ (n:Nat):(DK.fresh n).wr 0 (dM [])=⟨(List.replicate n bB).set 0 (dM []),List.replicate n bB,[(0,dM [])],false, -1⟩:=by unfold DK.wr DK.step DK.fresh;simp only;rw[if_neg (by decide)];rfl
theorem WR (n:Nat):((DK.fresh n).wr 0 (dM [])).fl=DK.made n:=by rw[MZ];unfold DK.fl DK.step jE DK.made;simp only[List.foldl_cons,List.foldl_nil];rw[if_neg (by decide)]
theorem afX {n i:Nat} (h:i<n):bk (List.replicate n bB) i=bB:=by unfold bk;rw[gH,List.getElem?_replicate,if_pos h];rfl
theorem AY {w0 w:World} {As:List aU} {p nb:Nat} {D:DK} (i:Nat) (hD:D.ok nb) (h:Sep w0 w As) (hi:As[i]? =some (aJ p D)):
  Calls Tryz.prog 84 #[.pointer (some ⟨p,0,none⟩)] w fun e w'=>e= .returned (.int .i64 nb)∧w'=w:=by
 obtain⟨A,c,hn⟩:=h.TJ i hD hi;exact IX hn rfl hD.few
theorem TK :∀args w,(callFunc 137 args).run Tryz.prog w= .ok (.enter 137 args) w:=Go.Proofs.enters_of Tryz.func137 (by kernel_rfl) rfl
theorem abM {w:World} {be bl:Nat} {u:FrameMode} (hc:w.cell? ⟨be,0,none⟩=some (.int .i64 0)):
  CallsD Tryz.prog 137 #[.pointer (some ⟨be,0,none⟩),.pointer (some ⟨bl,0,none⟩)] u w fun e u' w'=>u'=u∧e= .returned (.tuple #[])∧w'=w:=by
 refine(callsD_of_wp (R:=fun e w'=>e= .returned (.tuple #[])∧w'=w) Tryz.func137 rfl ?_).mono ?_
 ·simp only[Tryz.ntmps137,List.size_toArray,List.length_cons,List.length_nil,Nat.reduceAdd,Nat.reduceSub,Array.replicate_succ,Array.replicate_zero,List.push_toArray,List.append_toArray,List.nil_append,List.cons_append];go_wp2_with fail
  go_end0
  exact⟨rfl,rfl⟩
 rintro e u' w' ⟨h1,h2,h3⟩;exact⟨h1,h2,h3⟩
section
variable {w0 w:World} {R:List aU}
set_option maxRecDepth 100000 in
set_option maxHeartbeats 4000000 in
theorem TL {p n:Nat} (h0:96<n) (h1:n≤4096) (h:Sep w0 w (aJ p (DK.fresh n)::R)):
  Calls Tryz.prog 86 #[.pointer (some ⟨p,0,none⟩)] w fun e w'=>∃q,e= .returned (.tuple #[.pointer (some ⟨q,0,none⟩),.int .i64 0])∧Sep w0 w' (aD q p false::aJ p (DK.made n)::R):=by
 obtain⟨bl,hbl⟩:∃b,b=w.heap.size:=⟨_,rfl⟩;obtain⟨D,hD⟩:∃D,D=DK.fresh n:=⟨_,rfl⟩;have hok:D.ok n:=by rw[hD];exact DK.TH (by omega) h1
 have hoff:D.off=false:=by rw[hD];rfl
 have hbk:D.back=[]:=by rw[hD];rfl
 have aaC:∀i,i<n→bk D.now i=bB:=fun i hi=>by rw[hD];exact afX hi
 obtain⟨D1,hD1⟩:∃D1,D1=D.wr 0 bB:=⟨_,rfl⟩;have hok1:D1.ok n:=by rw[hD1];exact DK.YR hok (by omega) dP
 have amC:D1.off=false:=by rw[hD1,hD,TI]
 have ar2:D1.fl=D:=by rw[hD1,hD,afW]
 have yT:D.fl=D:=by rw[hD,abL]
 obtain⟨D2,hD2⟩:∃D2,D2=D.wr 0 (dM []):=⟨_,rfl⟩;have hok2:D2.ok n:=by rw[hD2];exact DK.YR hok (by omega) (lM (ps:=[]) (by decide))
 have JG:D2.off=false:=by rw[hD2,hD,MZ]
 have anQ:D2.fl=DK.made n:=by rw[hD2,hD,WR]
 obtain⟨D3,hD3⟩:∃D3,D3=DK.made n:=⟨_,rfl⟩;rw[←hD3]at anQ ⊢;rw[←hD]at h;have hS2:Hid (Sep w0 (((w.alloc (.cells #[.pointer (some ⟨bl+1+1,0,none⟩)] 97)).alloc (.cells #[.int .i64 0] 39)).alloc (.cells #[.iface 23 (.pointer (some ⟨p,0,none⟩)),.bool false] 180)) (aD (bl+1+1) p false::aJ p D::aI (bl+1) 0:: .box bl 97 #[.pointer (some ⟨bl+1+1,0,none⟩)]::R)):=Lh (by have:=((h.bN 97 #[.pointer (some ⟨bl+1+1,0,none⟩)]).bN 39 #[.int .i64 0]).bN 180 #[.iface 23 (.pointer (some ⟨p,0,none⟩)),.bool false];simp only[World.size_alloc,←hbl]at this;exact Sep.bZ [0,3,1,2] this (by decide) (by simp[aD,aI]));obtain⟨k0,iM,hk0,hk1,hk2⟩:=iQ jV;have hmk:∀W,(Instr.makeSlice 35 (.int .i64 512) (.int .i64 512)).run Tryz.prog W= .ok (.slice (some ⟨W.heap.size,0,none⟩) 512 512) (W.alloc (.cells (madeCells #[.int .u8 0] 512) 5)):=fun W=>kF (P:=Tryz.prog) 35 5 k0 (.int .u8 0) 1 Tryz.underlying35 iM hk0 hk1 hk2 rfl .i64 .i64 512 (by omega) (by unfold maxLen;omega) W
 have QA:∀(fn:Fn) (first cap:Array Value) (w:World),(Instr.makeFunc fn first cap).run Tryz.prog w= .ok (.func fn first cap) w:=fun _ _ _ _=>rfl
 have hon:Hid (∀W (As:List aU),Sep w0 W (aJ p D::As)→Calls Tryz.prog 39 #[.pointer (some ⟨p,0,none⟩)] W fun e w'=>e= .returned (.bool true)∧w'=W):=Lh fun W As hW=>by have:=afU hW;rw[hoff]at this;exact this
 have hbs:Hid (∀W (As:List aU),Sep w0 W (aJ p D::As)→Calls Tryz.prog 84 #[.pointer (some ⟨p,0,none⟩)] W fun e w'=>e= .returned (.int .i64 n)∧w'=W):=Lh fun W As hW=>AY 0 hok hW rfl
 have q1:(n:Int)≤4096:=by omega
 have q0:(96:Int)<n:=by omega
 --the state while the blocks are read
 have hemp:Hid (∀W (As:List aU),Sep w0 W As→Sep w0 (W.alloc (.cells (madeCells #[.int .u8 0] 512) 5)) (aH (.slice (some ⟨W.heap.size,0,none⟩) 512 512) bB::As)):=Lh fun W As hW=>by have:=hW.made 5 (.int .u8 0) 512 (by unfold maxLen;omega);rw[bE dP,wS];exact this
 have hw1:Hid (∀W v,Sep w0 W (aD (bl+1+1) p false::aJ p D::aH v bB::aI (bl+1) 0:: .box bl 97 #[.pointer (some ⟨bl+1+1,0,none⟩)]::R)→
   Calls Tryz.prog 138 #[.pointer (some ⟨bl+1+1,0,none⟩),.int .i64 0,v] W fun e w'=>e= .returned (.tuple #[])∧Sep w0 w' (aD (bl+1+1) p false::aJ p D1::aH v bB::aI (bl+1) 0:: .box bl 97 #[.pointer (some ⟨bl+1+1,0,none⟩)]::R)):=Lh fun W v hW=>by
  have:=oV (i:=0) (bs:=bB) hok (by omega) dP (by rw[hbk];decide) (iB.part 0 rfl) hoff hW;rw[←hD1]at this;exact this
 have hf1:Hid (∀W v,Sep w0 W (aD (bl+1+1) p false::aJ p D1::aH v bB::aI (bl+1) 0:: .box bl 97 #[.pointer (some ⟨bl+1+1,0,none⟩)]::R)→
   Calls Tryz.prog 134 #[.pointer (some ⟨bl+1+1,0,none⟩)] W fun e w'=>e= .returned (.tuple #[])∧Sep w0 w' (aD (bl+1+1) p false::aJ p D::aH v bB::aI (bl+1) 0:: .box bl 97 #[.pointer (some ⟨bl+1+1,0,none⟩)]::R)):=Lh fun W v hW=>by
  have:=nH hok1 amC hW;rw[ar2]at this;exact this
 have hrd:Hid (∀W v (i:Nat),i<n→Sep w0 W (aD (bl+1+1) p false::aJ p D::aH v bB::aI (bl+1) 0:: .box bl 97 #[.pointer (some ⟨bl+1+1,0,none⟩)]::R)→
   Calls Tryz.prog 130 #[.pointer (some ⟨bl+1+1,0,none⟩),.int .i64 i] W fun e w'=>∃A c,e= .returned (.slice A 512 c)∧BytesAt w' (.slice A 512 c) bB∧BytesAt w' v bB∧Sep w0 w' (aD (bl+1+1) p false::aJ p D::aH v bB::aI (bl+1) 0:: .box bl 97 #[.pointer (some ⟨bl+1+1,0,none⟩)]::R)):=Lh fun W v i hi hW=>by
  refine(JH hok hi hoff hW).mono ?_;rintro e w' ⟨u,rfl,h9⟩;rw[aaC i hi]at h9;obtain⟨A,c,e9⟩:=h9.dA 0 rfl;rw[dP]at e9;subst e9;exact⟨A,c,rfl,h9.rd 0 rfl,h9.rd 3 rfl,h9.drop 1⟩
 have hf2:Hid (∀W v,Sep w0 W (aD (bl+1+1) p false::aJ p D::aH v bB::aI (bl+1) 0:: .box bl 97 #[.pointer (some ⟨bl+1+1,0,none⟩)]::R)→
   Calls Tryz.prog 134 #[.pointer (some ⟨bl+1+1,0,none⟩)] W fun e w'=>e= .returned (.tuple #[])∧Sep w0 w' (aD (bl+1+1) p false::aJ p D::aI (bl+1) 0:: .box bl 97 #[.pointer (some ⟨bl+1+1,0,none⟩)]::R)):=Lh fun W v hW=>by
  refine(nH hok hoff hW).mono ?_;rw[yT];rintro e w' ⟨rfl,h9⟩;exact⟨rfl,(Sep.bZ [2,0,1,3,4] h9 (by decide) (by simp)).drop 1⟩
 have hhd:Hid (∀W,Sep w0 W (aD (bl+1+1) p false::aJ p D::aI (bl+1) 0:: .box bl 97 #[.pointer (some ⟨bl+1+1,0,none⟩)]::R)→Calls Tryz.prog 139 #[.slice none 0 0] W fun e w'=>∃u,e= .returned u∧Sep w0 w' (aD (bl+1+1) p false::aJ p D::aH u (dM [])::aI (bl+1) 0:: .box bl 97 #[.pointer (some ⟨bl+1+1,0,none⟩)]::R)):=Lh fun W hW=>by refine(JI (w:=W) (v:=.slice none 0 0) (ps:=[]) ⟨rfl,none,0,rfl,Nat.le_refl _,by unfold maxLen;omega,fun h=>absurd h (by decide)⟩ (by decide) (fun p hp=>by cases hp)).mono ?_;rintro e w' ⟨u,rfl,hS⟩;exact⟨u,rfl,Sep.bZ [1,2,0,3,4] (hW.join hS) (by decide) (by simp)⟩
 have hw2:Hid (∀W v,Sep w0 W (aD (bl+1+1) p false::aJ p D::aH v (dM [])::aI (bl+1) 0:: .box bl 97 #[.pointer (some ⟨bl+1+1,0,none⟩)]::R)→
   Calls Tryz.prog 138 #[.pointer (some ⟨bl+1+1,0,none⟩),.int .i64 0,v] W fun e w'=>e= .returned (.tuple #[])∧Sep w0 w' (aD (bl+1+1) p false::aJ p D2::aH v (dM [])::aI (bl+1) 0:: .box bl 97 #[.pointer (some ⟨bl+1+1,0,none⟩)]::R)):=Lh fun W v hW=>by
  have:=oV (i:=0) (bs:=dM []) hok (by omega) (lM (ps:=[]) (by decide)) (by rw[hbk];decide) (iB.part 0 rfl) hoff hW;rw[←hD2]at this;exact this
 have hf3:Hid (∀W v,Sep w0 W (aD (bl+1+1) p false::aJ p D2::aH v (dM [])::aI (bl+1) 0:: .box bl 97 #[.pointer (some ⟨bl+1+1,0,none⟩)]::R)→
   Calls Tryz.prog 134 #[.pointer (some ⟨bl+1+1,0,none⟩)] W fun e w'=>e= .returned (.tuple #[])∧Sep w0 w' (aD (bl+1+1) p false::aJ p D3::aH v (dM [])::aI (bl+1) 0:: .box bl 97 #[.pointer (some ⟨bl+1+1,0,none⟩)]::R)):=Lh fun W v hW=>by
  have:=nH hok2 JG hW;rw[anQ]at this;exact this
 have hcl:Hid (∀W Y,Sep w0 W (Y++ .box bl 97 #[.pointer (some ⟨bl+1+1,0,none⟩)]::R)→W.cell? ⟨bl,0,none⟩=some (.pointer (some ⟨bl+1+1,0,none⟩))):=Lh fun W Y hW=>by(have hi:(Y++ .box bl 97 #[.pointer (some ⟨bl+1+1,0,none⟩)]::R)[Y.length]? =some (.box bl 97 #[.pointer (some ⟨bl+1+1,0,none⟩)]):=by simp);exact hW.bC _ hi 0
 have hc2:=hcl.out _ [_,_,_] hS2.out;have zY:=hon.out _ _ (Sep.bZ [1,0,2,3] hS2.out (by decide) (by simp));have ar3:=hbs.out _ _ (Sep.bZ [1,0,2,3] hS2.out (by decide) (by simp));have hE2:=hemp.out _ _ hS2.out;simp only[World.size_alloc]at hE2;have bG:Hid (Sep w0 _ (aD (bl+1+1) p false::aJ p D::aH _ bB::aI (bl+1) 0:: .box bl 97 #[.pointer (some ⟨bl+1+1,0,none⟩)]::R)):=Lh (Sep.bZ [1,2,0,3,4] hE2 (by decide) (by simp));have ar4:=hw1.out _ _ bG.out;have hc3:=hcl.out _ [_,_,_,_] bG.out;clear hE2 hemp hw1 hok hok1 hok2 hoff amC JG hbk aaC ar2 yT anQ hD hD1 hD2 hD3 h h0 h1 bG;rw[hbl]at*
 go_enter_defers Tryz.func86,Tryz.ntmps86
 go_wp2_with(first |(go_at_call 39;refine zY.mono ?_;rintro e w9 ⟨rfl,h9⟩;obtain rfl:=h9.symm;clear zY)|(go_at_call 84;refine ar3.mono ?_;rintro e w9 ⟨rfl,h9⟩;obtain rfl:=h9.symm;clear ar3)|(go_at_call 138;refine ar4.mono ?_;rintro e w8 ⟨rfl,h8⟩;(have c8:=hcl.out _ [_,_,_,_] h8);(have vU:=hf1.out _ _ h8);clear ar4 h8)|(go_at_call 134;refine vU.mono ?_;rintro e w7 ⟨rfl,h7⟩;replace h7:=Lh h7;clear vU c8));go_loopw[5] (fun iv wr=>∃k:Nat,96≤k∧k≤n∧iv= .int .i64 k∧Hid (Sep w0 wr (aD (w.heap.size+1+1) p false::aJ p D::aH (.slice (some ⟨w.heap.size+1+1+1,0,none⟩) 512 512) bB::aI (w.heap.size+1) 0:: .box w.heap.size 97 #[.pointer (some ⟨w.heap.size+1+1,0,none⟩)]::R))) (fun iv _=>n-(intOf iv).toNat)
 case atStart=>exact⟨96,Nat.le_refl _,by omega,rfl,h7⟩
 obtain⟨k,aCE,hk,rfl,hS⟩:=hrel;clear h7;have hbk:=hbs.out _ _ (Sep.bZ [1,0,2,3,4] hS.out (by decide) (by simp));by_cases hlt:k<n
 ·have hck:=hcl.out _ [_,_,_,_] hS.out.drew;have hrk:=hrd.out _ _ k hlt hS.out.drew;have hcv:(convert 35 9 (.slice (some ⟨w.heap.size+1+1+1,0,none⟩) 512 512)).run Tryz.prog wr.drew= .ok (.string ⟨bB.toArray⟩) wr.drew:=gV (hS.out.drew.rd 2 rfl);(have j1:(k:Int)<n:=by omega);(have j0:(96:Int)≤k:=by omega);clear hS;go_wp2_with(go_at_call 84;refine hbk.mono ?_;rintro e w9 ⟨rfl,h9⟩;obtain rfl:=h9.symm;clear hbk);rename_i K1 hK1;refine jM ?_;refine aN (S:=fun w'=>w'.cell? ⟨w.heap.size,0,none⟩=some (.pointer (some ⟨w.heap.size+1+1,0,none⟩))∧(convert 35 9 (.slice (some ⟨w.heap.size+1+1+1,0,none⟩) 512 512)).run Tryz.prog w'= .ok (.string ⟨bB.toArray⟩) w') 7 (by kernel_rfl) ?_;simp only[List.size_toArray,List.length_cons,List.length_nil,Nat.reduceAdd];have hE:=And.intro hck hcv;refine aA (i:=0) (v:=?_) hE rfl ?_ ?_;rotate_left
  ·rintro w ⟨e1,e2⟩;go_simp;try with_reducible rfl
  simp only[Act.put,gD];refine aA (i:=1) (v:=?_) hE rfl ?_ ?_;rotate_left
  ·rintro w ⟨e1,e2⟩;go_simp;try with_reducible rfl
  simp only[Act.put,gD];refine aA (i:=4) (v:=?_) hE rfl ?_ ?_;rotate_left
  ·rintro w ⟨e1,e2⟩;go_simp;try with_reducible rfl
  simp only[Act.put,gD];refine aA (i:=5) (v:=?_) hE rfl ?_ ?_;rotate_left
  ·rintro w ⟨e1,e2⟩;go_simp;try with_reducible rfl
  simp only[Act.put,gD];refine aC (i:=2) (by kernel_rfl) rfl (fun K hK=>?_);go_simp;go_at_call 130;refine hrk.mono ?_;rintro e w5 ⟨A5,c5,rfl,hb5,hv5,h5⟩;have aCF:(convert 35 9 (.slice A5 512 c5)).run Tryz.prog w5= .ok (.string ⟨bB.toArray⟩) w5:=gV hb5;have aw2:(convert 35 9 (.slice (some ⟨w.heap.size+1+1+1,0,none⟩) 512 512)).run Tryz.prog w5= .ok (.string ⟨bB.toArray⟩) w5:=gV hv5;have uZ:=And.intro (hcl.out _ [_,_,_,_] h5) aw2;replace h5:=Lh h5;clear hE hck hcv hrk hb5 hv5;dsimp only;refine hK _ _ (fun _=>uZ) ?_;clear hK K;(try simp only[Act.put,gD]);refine aC (i:=3) (by kernel_rfl) rfl (fun K hK=>?_);go_simp;refine hK _ _ (fun _=>uZ) ?_;clear hK K;(try simp only[Act.put,gD]);refine aC (i:=6) (by kernel_rfl) rfl (fun K hK=>?_);go_simp;refine hK _ _ (fun _=>uZ) ?_;clear hK K;(try simp only[Act.put,gD]);refine aO (by kernel_rfl) ?_ _;simp only[mF,Exit.then];apply hK1;(have hz:(bB.toArray==bB.toArray)=true:=by simp);(have hz2:(bB.toArray !=bB.toArray)=false:=by simp);go_wp2_with fail;go_roundw
  case rel=>exact⟨k+1,by omega,by omega,by go_num,h5⟩
  case measure=>(simp[intOf];omega)
 obtain rfl:k=n:=by omega
 have ar5:=hf2.out _ _ hS.out;have hc0:=hcl.out _ [_,_,_,_] hS.out;clear hS;go_wp2_with(first |(go_at_call 84;refine hbk.mono ?_;rintro e w9 ⟨rfl,h9⟩;obtain rfl:=h9.symm;clear hbk)|(go_at_call 134;refine ar5.mono ?_;rintro e w5 ⟨rfl,h5⟩;(have YA:=hcl.out _ [_,_,_] h5.drew);replace h5:=Lh h5;clear ar5));refine jM ?_;refine aN (S:=fun w'=>w'.cell? ⟨w.heap.size,0,none⟩=some (.pointer (some ⟨w.heap.size+1+1,0,none⟩))) 3 (by kernel_rfl) ?_;simp only[List.size_toArray,List.length_cons,List.length_nil,Nat.reduceAdd];refine aA (i:=0) (v:=?_) YA rfl ?_ ?_;rotate_left
 ·rintro w e1;go_simp;try with_reducible rfl
 simp only[Act.put,gD];refine aC (i:=1) (by kernel_rfl) rfl (fun K hK=>?_);go_simp;go_at_call 139;refine(hhd.out _ h5.out.drew).mono ?_;rintro e w6 ⟨u,rfl,h6⟩;have hc6:=hcl.out _ [_,_,_,_] h6;have ar6:=hw2.out _ _ h6;clear h5 YA h6;dsimp only;refine hK _ _ (fun _=>hc6) ?_;clear hK K;try simp only[Act.put,gD]
 refine aC (i:=2) (by kernel_rfl) rfl (fun K hK=>?_);go_simp;go_at_call 138;refine ar6.mono ?_;rintro e w8 ⟨rfl,h8⟩;have hc8:=hcl.out _ [_,_,_,_] h8;have ar7:=hf3.out _ _ h8;clear hc6 ar6 h8;dsimp only;refine hK _ _ (fun _=>hc8) ?_;clear hK K;try simp only[Act.put,gD]
 refine aO (by kernel_rfl) ?_ _;simp only[mF];go_wp2_with(go_at_call 134;refine ar7.mono ?_;rintro e w4 ⟨rfl,h4⟩;(have x1:=hcl.out _ [_,_,_,_] h4);(have x2:=h4.bF 4 rfl 0);(have h3:=h4.bS 4 rfl 0 (.pointer (some ⟨w.heap.size+1+1,0,none⟩)));(have x3:=h3.bC 3 rfl 0);(have x4:=h3.bF 3 rfl 0);(have h2:=h3.bS 3 rfl 0 (.int .i64 0));replace h2:=Lh h2;clear ar7 h3 h4);refine lI ?_;have ec:=h2.out.bC 3 rfl 0;have el:=h2.out.bC 4 rfl 0;try simp only[gA,gB]at ec el
 refine leaves_cons (u:=.returning) (by simp) (pK _ _ TK) ?_;refine(abM ec).mono ?_;rintro e u' w' ⟨rfl,rfl,rfl⟩;refine⟨.tuple #[.pointer (some ⟨w.heap.size+1+1,0,none⟩),.int .i64 0],by simp[results,Tryz.results86,go_sem,ec,el],_,rfl,?_⟩;exact(Sep.bZ [2,3,4,0,1] h2.out (by decide) (by simp):Sep w0 _ (_::_::_::aD (w.heap.size+1+1) p false::aJ p D3::R)).drop 3
end
end Go.Proofs.YteihmbaimbogaaaGreat
