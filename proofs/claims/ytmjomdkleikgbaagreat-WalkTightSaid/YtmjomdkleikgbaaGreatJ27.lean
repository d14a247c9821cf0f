/- Parts. -/
import Derived.Test.YtmjomdkleikgbaaGreatJ26
set_option linter.unusedVariables false
set_option linter.unusedSimpArgs false
set_option maxRecDepth 100000
set_option maxHeartbeats 20000000
namespace Go.Proofs.YtmjomdkleikgbaaGreat
open Go.RowKit
def DK.fresh (n:Nat):DK:=⟨List.replicate n bX,List.replicate n bX,[],false, -1⟩
theorem yN (n:Nat):kP n (List.replicate n bX):=⟨E8,fun b hb=>by rw[(List.mem_replicate.1 hb).2];exact fV⟩
theorem DK.ac5 {n:Nat} (h0:1<=n) (h1:n<=4096):(DK.fresh n).ok n:=⟨yN n,yN n,h1,h0,fun x hx=>absurd hx D8,by show(-1:Int)<= -1/\(-1:Int)<=9223372036854775807;omega⟩
theorem aqS (n:Nat):(List.replicate n bX).flatten=List.replicate (n*512) 0:=by
 unfold bX
 induction n with
 |zero=>rfl
 |succ n ih=>rw[List.replicate_succ,vP,ih,List.replicate_append_replicate,U9,Nat.add_comm]
section
variable {w0 w:World} {R:List aZ} {p nb:Nat} {D:DK}
theorem aqT (h:Sep w0 w (aO p D::R)):Calls Tryz.prog 93 #[pV p] w fun e w'=>e= .returned (.bool (!D.off))/\w'=w:=by
 obtain⟨vn,vf,vb,h1⟩:=h.xG;have c3:=h1.bC 0 rfl 3;simp only[gA,gB,gC]at c3;clear h h1;cases hd:D.off<;>rw[hd]at c3
 ·go_enter Tryz.func93,Tryz.ntmps93;go_wp2_with fail;go_ret;exact⟨rfl,rfl⟩
 go_enter Tryz.func93,Tryz.ntmps93;go_wp2_with fail;go_ret;exact⟨rfl,rfl⟩
theorem Sep.aqU (h:Sep w0 w R):Sep w0 w (EO (.slice none 0 0) []::R):=Sep.KI (us:=[]) rfl (h.iO 143 3)
theorem avV {n:Nat} (h0:1<=n) (h1:n<=4096) (h:Sep w0 w R):
  Calls Tryz.prog 37 #[iV n] w fun e w'=>∃p,e= .returned (.tuple #[pV p,iV 0])/\Sep w0 w' (aO p (DK.fresh n)::R):=by
 obtain⟨k0,pO,hk0,hk1,hk2⟩:=iU l8;have hmk:∀W,(Instr.makeSlice 69 (.int .i64 ((n:Int)*512)) (.int .i64 ((n:Int)*512))).run Tryz.prog W= .ok (sV W.heap.size (n*512) (n*512)) (W.alloc (.cells (madeCells #[.int .u8 0] (n*512)) 5)):=fun W=>by have:=qP (P:=Tryz.prog) 69 5 k0 (.int .u8 0) 1 Tryz.underlying69 pO hk0 hk1 hk2 rfl .i64 .i64 (n*512) aD vQ W;rw[Int.natCast_mul]at this;exact this
 have q0:(1:Int)<=n:=by omega
 have q1:(n:Int)<=4096:=by omega
 have hwr:IntKind.i64.wrap ((n:Int)*512)=(n:Int)*512:=IntWalk.i64_in _ aD;have hmd:Hid (∀(As:List aZ) (W:World),Sep w0 W As->Sep w0 (W.alloc (.cells (madeCells #[.int .u8 0] (n*512)) 5)) (aI (sV W.heap.size (n*512) (n*512)) (List.replicate n bX).flatten::As)):=Lh fun As W hW=>by have:=hW.made 5 (.int .u8 0) (n*512) vQ;rw[aqS,bW E8,List.map_replicate];exact this
 have hend:Hid (∀W A B cA cB,Sep w0 W (aI (.slice A (n*512) cA) (List.replicate n bX).flatten::aI (.slice B (n*512) cB) (List.replicate n bX).flatten::R)->
   Sep w0 (W.alloc (.cells #[.slice A (n*512) cA,.slice B (n*512) cB,.slice none 0 0,.bool false,iV (-1)] 122)) (aO W.heap.size (DK.fresh n)::R)):=Lh fun W A B cA cB hW=>by
  have h2:=hW.bN 122 #[.slice A (n*512) cA,.slice B (n*512) cB,.slice none 0 0,.bool false,iV (-1)];have h3:=h2.aqU;exact Sep.xH (D:=DK.fresh n) (vn:=.slice A (n*512) cA) (vf:=.slice B (n*512) cB) (vb:=.slice none 0 0) (Sep.dE [1,2,3,0] h3 aV (by simp[iD,DK.fresh]))
 replace h:=Lh h;clear h0 h1 hk2 hk1 hk0 pO;go_enter Tryz.func37,Tryz.ntmps37;go_wp2_with fail;refine eO (S:=fun w'=>True) 10 fH ?_;intro wq hwq;have hX:Hid (Sep w0 wq R):=by rw[hwq];exact Lh h.out.drew
 clear hwq h;simp only[kE,kR,rT,Nat.reduceAdd];have hc:True:=trivial;refine aA 0 hc ?_;refine aA 1 hc ?_;refine aA 3 hc ?_;refine aA 4 hc ?_;refine iX (i:=2) (j:=5) fH rfl rfl (fun K hK=>?_) (fun K hK=>?_)
 focus
  go_simp
  have h1:=Lh (hmd.out _ _ hX.out)
  try dsimp only
  refine hK _ _ (fun _=>trivial) ?_
  clear hK K
  try simp only[Act.put,gD]
  obtain⟨g2,hg2⟩:∃g,g=wq.heap.size:=⟨_,rfl⟩
  obtain⟨w2,hw2⟩:∃w2,w2=wq.alloc (.cells (madeCells #[.int .u8 0] (n*512)) 5):=⟨_,rfl⟩
  rw[<-hw2]at h1 ⊢
  rw[<-hg2]at h1 ⊢
  clear hw2 hg2 hX
  have h2:=Lh (hmd.out _ _ h1.out)
  refine bB 5 (fun _=>trivial) ?_
  obtain⟨g3,hg3⟩:∃g,g=w2.heap.size:=⟨_,rfl⟩
  obtain⟨w3,hw3⟩:∃w3,w3=w2.alloc (.cells (madeCells #[.int .u8 0] (n*512)) 5):=⟨_,rfl⟩
  rw[<-hw3]at h2 ⊢
  rw[<-hg3]at h2 ⊢
  clear hw3 hg3 h1
  refine bB 6 (fun _=>trivial) ?_
  have h3:=Lh (hend.out w3 _ _ _ _ (h2.out.perm (List.Perm.swap _ _ _)))
  refine bB 7 (fun _=>trivial) ?_
  refine bB 8 (fun _=>trivial) ?_
  refine bB 9 (fun _=>trivial) ?_
  refine aQ fH ?_ _
  go_wp2_with fail
  go_ret2
  exact⟨_,rfl,h3.out⟩
 focus
  go_simp
  have h1:=Lh (hmd.out _ _ hX.out)
  try dsimp only
  refine hK _ _ (fun _=>trivial) ?_
  clear hK K
  try simp only[Act.put,gD]
  obtain⟨g2,hg2⟩:∃g,g=wq.heap.size:=⟨_,rfl⟩
  obtain⟨w2,hw2⟩:∃w2,w2=wq.alloc (.cells (madeCells #[.int .u8 0] (n*512)) 5):=⟨_,rfl⟩
  rw[<-hw2]at h1 ⊢
  rw[<-hg2]at h1 ⊢
  clear hw2 hg2 hX
  have h2:=Lh (hmd.out _ _ h1.out)
  refine bB 2 (fun _=>trivial) ?_
  obtain⟨g3,hg3⟩:∃g,g=w2.heap.size:=⟨_,rfl⟩
  obtain⟨w3,hw3⟩:∃w3,w3=w2.alloc (.cells (madeCells #[.int .u8 0] (n*512)) 5):=⟨_,rfl⟩
  rw[<-hw3]at h2 ⊢
  rw[<-hg3]at h2 ⊢
  clear hw3 hg3 h1
  refine bB 6 (fun _=>trivial) ?_
  have h3:=Lh (hend.out w3 _ _ _ _ h2.out)
  refine bB 7 (fun _=>trivial) ?_
  refine bB 8 (fun _=>trivial) ?_
  refine bB 9 (fun _=>trivial) ?_
  refine aQ fH ?_ _
  go_wp2_with fail
  go_ret2
  exact⟨_,rfl,h3.out⟩
end
def DK.made (n:Nat):DK:=⟨(List.replicate n bX).set 0 (fQ []),(List.replicate n bX).set 0 (fQ []),[],false, -1⟩
theorem aj5 (n:Nat):(List.replicate n bX).set 0 bX=List.replicate n bX:=by
 cases n with
 |zero=>rfl
 |succ n=>rfl
theorem ac6 (n:Nat):(DK.fresh n).wr 0 bX=⟨List.replicate n bX,List.replicate n bX,[(0,bX)],false, -1⟩:=by unfold DK.wr DK.step DK.fresh;simp only;rw[if_neg aV,aj5];rfl
theorem aqV (n:Nat):((DK.fresh n).wr 0 bX).fl=DK.fresh n:=by rw[ac6];unfold DK.fl DK.step kZ DK.fresh;simp only[List.foldl_cons,List.foldl_nil];rw[if_neg aV,aj5]
theorem amR (n:Nat):(DK.fresh n).fl=DK.fresh n:=by unfold DK.fl DK.step kZ DK.fresh;simp only[List.foldl_nil];rw[if_neg aV]
theorem WB (n:Nat):(DK.fresh n).wr 0 (fQ [])=⟨(List.replicate n bX).set 0 (fQ []),List.replicate n bX,[(0,fQ [])],false, -1⟩:=by unfold DK.wr DK.step DK.fresh;simp only;rw[if_neg aV];rfl
theorem ag1 (n:Nat):((DK.fresh n).wr 0 (fQ [])).fl=DK.made n:=by rw[WB];unfold DK.fl DK.step kZ DK.made;simp only[List.foldl_cons,List.foldl_nil];rw[if_neg aV]
theorem aqW {n i:Nat} (h:i<n):bk (List.replicate n bX) i=bX:=by unfold bk;rw[gH,List.getElem?_replicate,if_pos h];rfl
theorem IY {w0 w:World} {As:List aZ} {p nb:Nat} {D:DK} (i:Nat) (hD:D.ok nb) (h:Sep w0 w As) (hi:As[i]? =some (aO p D)):
  Calls Tryz.prog 94 #[pV p] w fun e w'=>e= .returned (iV nb)/\w'=w:=by
 obtain⟨A,c,hn⟩:=h.ac7 i hD hi;exact QD hn rfl hD.few
theorem ac8 :∀args w,(callFunc 160 args).run Tryz.prog w= .ok (.enter 160 args) w:=Go.Proofs.enters_of Tryz.func160 fH rfl
theorem amS {w:World} {be bl:Nat} {u:FrameMode} (hc:w.cell? ⟨be,0,none⟩=some (iV 0)):
  CallsD Tryz.prog 160 #[pV be,pV bl] u w fun e u' w'=>u'=u/\e= .returned (.tuple #[])/\w'=w:=by
 refine(callsD_of_wp (R:=fun e w'=>e= .returned (.tuple #[])/\w'=w) Tryz.func160 rfl ?_).mono ?_
 ·simp only[Tryz.ntmps160,kE,kR,rT,Nat.reduceAdd,Nat.reduceSub,zL,zM,zO,zN,nG,kW];go_wp2_with fail
  go_end0
  exact⟨rfl,rfl⟩
 rintro e u' w' ⟨h1,h2,h3⟩;exact⟨h1,h2,h3⟩
section
variable {w0 w:World} {R:List aZ}
theorem ac9 {p n:Nat} (h0:96<n) (h1:n<=4096) (h:Sep w0 w (aO p (DK.fresh n)::R)):
  Calls Tryz.prog 96 #[pV p] w fun e w'=>∃q,e= .returned (.tuple #[pV q,iV 0])/\Sep w0 w' (aH q p false::aO p (DK.made n)::R):=by
 obtain⟨bl,hbl⟩:∃b,b=w.heap.size:=⟨_,rfl⟩;obtain⟨D,hD⟩:∃D,D=DK.fresh n:=⟨_,rfl⟩;have hok:D.ok n:=by rw[hD];exact DK.ac5 aD h1
 have hoff:D.off=false:=by rw[hD];rfl
 have hbk:D.back=[]:=by rw[hD];rfl
 have alK:∀i,i<n->bk D.now i=bX:=fun i hi=>by rw[hD];exact aqW hi
 obtain⟨D1,hD1⟩:∃D1,D1=D.wr 0 bX:=⟨_,rfl⟩;have hok1:D1.ok n:=by rw[hD1];exact DK.ajW hok aD fV
 have ayP:D1.off=false:=by rw[hD1,hD,ac6]
 have aD0:D1.fl=D:=by rw[hD1,hD,aqV]
 have oN:D.fl=D:=by rw[hD,amR]
 obtain⟨D2,hD2⟩:∃D2,D2=D.wr 0 (fQ []):=⟨_,rfl⟩;have hok2:D2.ok n:=by rw[hD2];exact DK.ajW hok aD (oO (ps:=[]) aV)
 have QX:D2.off=false:=by rw[hD2,hD,WB]
 have azY:D2.fl=DK.made n:=by rw[hD2,hD,ag1]
 obtain⟨D3,hD3⟩:∃D3,D3=DK.made n:=⟨_,rfl⟩;rw[<-hD3]at azY ⊢;rw[<-hD]at h;have hS2:Hid (Sep w0 (((w.alloc (.cells #[pV (bl+1+1)] 110)).alloc (.cells #[iV 0] 40)).alloc (.cells #[.iface 36 (pV p),.bool false] 197)) (aH (bl+1+1) p false::aO p D::aJ (bl+1) 0:: .box bl 110 #[pV (bl+1+1)]::R)):=Lh (by have:=((h.bN 110 #[pV (bl+1+1)]).bN 40 #[iV 0]).bN 197 #[.iface 36 (pV p),.bool false];simp only[World.size_alloc,<-hbl]at this;exact Sep.dE [0,3,1,2] this aV (by simp[aH,aJ]));obtain⟨k0,pO,hk0,hk1,hk2⟩:=iU l8;have hmk:∀W,(Instr.makeSlice 69 (.int .i64 512) (.int .i64 512)).run Tryz.prog W= .ok (sV W.heap.size 512 512) (W.alloc (.cells (madeCells #[.int .u8 0] 512) 5)):=fun W=>qP (P:=Tryz.prog) 69 5 k0 (.int .u8 0) 1 Tryz.underlying69 pO hk0 hk1 hk2 rfl .i64 .i64 512 aD vQ W
 have hmf:∀(fn:Fn) (first cap:Array Value) (w:World),(Instr.makeFunc fn first cap).run Tryz.prog w= .ok (.func fn first cap) w:=fun _ _ _ _=>rfl
 have hon:Hid (∀W (As:List aZ),Sep w0 W (aO p D::As)->Calls Tryz.prog 93 #[pV p] W fun e w'=>e= .returned (.bool true)/\w'=W):=Lh fun W As hW=>by have:=aqT hW;rw[hoff]at this;exact this
 have hbs:Hid (∀W (As:List aZ),Sep w0 W (aO p D::As)->Calls Tryz.prog 94 #[pV p] W fun e w'=>e= .returned (iV n)/\w'=W):=Lh fun W As hW=>IY 0 hok hW rfl
 have q1:(n:Int)<=4096:=by omega
 have q0:(96:Int)<n:=by omega
 --the state while the blocks are read
 have hemp:Hid (∀W (As:List aZ),Sep w0 W As->Sep w0 (W.alloc (.cells (madeCells #[.int .u8 0] 512) 5)) (aI (sV W.heap.size 512 512) bX::As)):=Lh fun W As hW=>by have:=hW.made 5 (.int .u8 0) 512 vQ;rw[bW fV,CW];exact this
 have hw1:Hid (∀W v,Sep w0 W (aH (bl+1+1) p false::aO p D::aI v bX::aJ (bl+1) 0:: .box bl 110 #[pV (bl+1+1)]::R)->
   Calls Tryz.prog 161 #[pV (bl+1+1),iV 0,v] W fun e w'=>e= .returned (.tuple #[])/\Sep w0 w' (aH (bl+1+1) p false::aO p D1::aI v bX::aJ (bl+1) 0:: .box bl 110 #[pV (bl+1+1)]::R)):=Lh fun W v hW=>by
  have:=uD (i:=0) (bs:=bX) hok aD fV (by rw[hbk];decide) (jG.part 0 rfl) hoff hW;rw[<-hD1]at this;exact this
 have hf1:Hid (∀W v,Sep w0 W (aH (bl+1+1) p false::aO p D1::aI v bX::aJ (bl+1) 0:: .box bl 110 #[pV (bl+1+1)]::R)->
   Calls Tryz.prog 155 #[pV (bl+1+1)] W fun e w'=>e= .returned (.tuple #[])/\Sep w0 w' (aH (bl+1+1) p false::aO p D::aI v bX::aJ (bl+1) 0:: .box bl 110 #[pV (bl+1+1)]::R)):=Lh fun W v hW=>by
  have:=rE hok1 ayP hW;rw[aD0]at this;exact this
 have hrd:Hid (∀W v (i:Nat),i<n->Sep w0 W (aH (bl+1+1) p false::aO p D::aI v bX::aJ (bl+1) 0:: .box bl 110 #[pV (bl+1+1)]::R)->
   Calls Tryz.prog 153 #[pV (bl+1+1),iV i] W fun e w'=>∃A c,e= .returned (.slice A 512 c)/\BytesAt w' (.slice A 512 c) bX/\BytesAt w' v bX/\Sep w0 w' (aH (bl+1+1) p false::aO p D::aI v bX::aJ (bl+1) 0:: .box bl 110 #[pV (bl+1+1)]::R)):=Lh fun W v i hi hW=>by
  refine(QY hok hi hoff hW).mono ?_;rintro e w' ⟨u,rfl,h9⟩;rw[alK i hi]at h9;obtain⟨A,c,e9⟩:=h9.dS 0 rfl;rw[fV]at e9;subst e9;exact⟨A,c,rfl,h9.rd 0 rfl,h9.rd 3 rfl,h9.drop 1⟩
 have hf2:Hid (∀W v,Sep w0 W (aH (bl+1+1) p false::aO p D::aI v bX::aJ (bl+1) 0:: .box bl 110 #[pV (bl+1+1)]::R)->
   Calls Tryz.prog 155 #[pV (bl+1+1)] W fun e w'=>e= .returned (.tuple #[])/\Sep w0 w' (aH (bl+1+1) p false::aO p D::aJ (bl+1) 0:: .box bl 110 #[pV (bl+1+1)]::R)):=Lh fun W v hW=>by
  refine(rE hok hoff hW).mono ?_;rw[oN];rintro e w' ⟨rfl,h9⟩;exact⟨rfl,(Sep.dE [2,0,1,3,4] h9 aV bL).drop 1⟩
 have hhd:Hid (∀W,Sep w0 W (aH (bl+1+1) p false::aO p D::aJ (bl+1) 0:: .box bl 110 #[pV (bl+1+1)]::R)->Calls Tryz.prog 162 #[.slice none 0 0] W fun e w'=>∃u,e= .returned u/\Sep w0 w' (aH (bl+1+1) p false::aO p D::aI u (fQ [])::aJ (bl+1) 0:: .box bl 110 #[pV (bl+1+1)]::R)):=Lh fun W hW=>by refine(QZ (w:=W) (v:=.slice none 0 0) (ps:=[]) ⟨rfl,none,0,rfl,iB _,by unfold maxLen;omega,fun h=>absurd h aV⟩ aV (fun p hp=>by cases hp)).mono ?_;rintro e w' ⟨u,rfl,hS⟩;exact⟨u,rfl,Sep.dE [1,2,0,3,4] (hW.join hS) aV bL⟩
 have hw2:Hid (∀W v,Sep w0 W (aH (bl+1+1) p false::aO p D::aI v (fQ [])::aJ (bl+1) 0:: .box bl 110 #[pV (bl+1+1)]::R)->
   Calls Tryz.prog 161 #[pV (bl+1+1),iV 0,v] W fun e w'=>e= .returned (.tuple #[])/\Sep w0 w' (aH (bl+1+1) p false::aO p D2::aI v (fQ [])::aJ (bl+1) 0:: .box bl 110 #[pV (bl+1+1)]::R)):=Lh fun W v hW=>by
  have:=uD (i:=0) (bs:=fQ []) hok aD (oO (ps:=[]) aV) (by rw[hbk];decide) (jG.part 0 rfl) hoff hW;rw[<-hD2]at this;exact this
 have hf3:Hid (∀W v,Sep w0 W (aH (bl+1+1) p false::aO p D2::aI v (fQ [])::aJ (bl+1) 0:: .box bl 110 #[pV (bl+1+1)]::R)->
   Calls Tryz.prog 155 #[pV (bl+1+1)] W fun e w'=>e= .returned (.tuple #[])/\Sep w0 w' (aH (bl+1+1) p false::aO p D3::aI v (fQ [])::aJ (bl+1) 0:: .box bl 110 #[pV (bl+1+1)]::R)):=Lh fun W v hW=>by
  have:=rE hok2 QX hW;rw[azY]at this;exact this
 have hcl:Hid (∀W Y,Sep w0 W (Y++ .box bl 110 #[pV (bl+1+1)]::R)->W.cell? ⟨bl,0,none⟩=some (pV (bl+1+1))):=Lh fun W Y hW=>by(have hi:(Y++ .box bl 110 #[pV (bl+1+1)]::R)[Y.length]? =some (.box bl 110 #[pV (bl+1+1)]):=by simp);exact hW.bC _ hi 0
 have hc2:=hcl.out _ [_,_,_] hS2.out;have vR:=hon.out _ _ (Sep.dE [1,0,2,3] hS2.out aV bL);have aD1:=hbs.out _ _ (Sep.dE [1,0,2,3] hS2.out aV bL);have hE2:=hemp.out _ _ hS2.out;simp only[World.size_alloc]at hE2;have dX:Hid (Sep w0 _ (aH (bl+1+1) p false::aO p D::aI _ bX::aJ (bl+1) 0:: .box bl 110 #[pV (bl+1+1)]::R)):=Lh (Sep.dE [1,2,0,3,4] hE2 aV bL);have aD2:=hw1.out _ _ dX.out;have hc3:=hcl.out _ [_,_,_,_] dX.out;clear hE2 hemp hw1 hok hok1 hok2 hoff ayP QX hbk alK aD0 oN azY hD hD1 hD2 hD3 h h0 h1 dX;rw[hbl]at*
 go_enter_defers Tryz.func96,Tryz.ntmps96
 go_wp2_with(first |(go_at_call 93;refine vR.mono ?_;rintro e w9 ⟨rfl,h9⟩;obtain rfl:=h9.symm;clear vR)|(go_at_call 94;refine aD1.mono ?_;rintro e w9 ⟨rfl,h9⟩;obtain rfl:=h9.symm;clear aD1)|(go_at_call 161;refine aD2.mono ?_;rintro e w8 ⟨rfl,h8⟩;(have c8:=hcl.out _ [_,_,_,_] h8);(have BJ:=hf1.out _ _ h8);clear aD2 h8)|(go_at_call 155;refine BJ.mono ?_;rintro e w7 ⟨rfl,h7⟩;replace h7:=Lh h7;clear BJ c8));go_loopw[5] (fun iv wr=>∃k:Nat,96<=k/\k<=n/\iv=iV k/\Hid (Sep w0 wr (aH (w.heap.size+1+1) p false::aO p D::aI (sV (w.heap.size+1+1+1) 512 512) bX::aJ (w.heap.size+1) 0:: .box w.heap.size 110 #[pV (w.heap.size+1+1)]::R))) (fun iv _=>n-(intOf iv).toNat)
 case atStart=>exact⟨96,iB _,by omega,rfl,h7⟩
 obtain⟨k,aPK,hk,rfl,hS⟩:=hrel;clear h7;have hbk:=hbs.out _ _ (Sep.dE [1,0,2,3,4] hS.out aV bL);by_cases hlt:k<n
 ·have hck:=hcl.out _ [_,_,_,_] hS.out.drew;have hrk:=hrd.out _ _ k hlt hS.out.drew;have hcv:(convert 69 9 (.slice (some ⟨w.heap.size+1+1+1,0,none⟩) 512 512)).run Tryz.prog wr.drew= .ok (.string ⟨bX.toArray⟩) wr.drew:=gW (hS.out.drew.rd 2 rfl);(have j1:(k:Int)<n:=by omega);(have j0:(96:Int)<=k:=by omega);clear hS;go_wp2_with(go_at_call 94;refine hbk.mono ?_;rintro e w9 ⟨rfl,h9⟩;obtain rfl:=h9.symm;clear hbk);rename_i K1 hK1;refine mX ?_;refine aP (S:=fun w'=>w'.cell? ⟨w.heap.size,0,none⟩=some (pV (w.heap.size+1+1))/\(convert 69 9 (sV (w.heap.size+1+1+1) 512 512)).run Tryz.prog w'= .ok (.string ⟨bX.toArray⟩) w') 7 ?_;have hE:=And.intro hck hcv;refine aA 0 hE ?_;refine aA 1 hE ?_;refine aA 4 hE ?_;refine aA 5 hE ?_;(refine bI 2 fun K hK=>?_);go_simp;go_at_call 153;refine hrk.mono ?_;rintro e w5 ⟨A5,c5,rfl,hb5,hv5,h5⟩;have aPL:(convert 69 9 (.slice A5 512 c5)).run Tryz.prog w5= .ok (.string ⟨bX.toArray⟩) w5:=gW hb5;have aI6:(convert 69 9 (.slice (some ⟨w.heap.size+1+1+1,0,none⟩) 512 512)).run Tryz.prog w5= .ok (.string ⟨bX.toArray⟩) w5:=gW hv5;have rP:=And.intro (hcl.out _ [_,_,_,_] h5) aI6;replace h5:=Lh h5;clear hE hck hcv hrk hb5 hv5;dsimp only;refine hK _ _ (fun _=>rP) ?_;clear hK K;(try simp only[Act.put,gD]);refine bB 3 (fun _=>rP) ?_;refine bB 6 (fun _=>rP) ?_;refine aQ fH ?_ _;simp only[rO,Exit.then];apply hK1;(have hz:(bX.toArray==bX.toArray)=true:=by simp);(have hz2:(bX.toArray !=bX.toArray)=false:=by simp);go_wp2_with fail;go_roundw
  case rel=>exact⟨k+1,by omega,by omega,by go_num,h5⟩
  case measure=>(simp[intOf];omega)
 obtain rfl:k=n:=by omega
 have aD3:=hf2.out _ _ hS.out;have hc0:=hcl.out _ [_,_,_,_] hS.out;clear hS;go_wp2_with(first |(go_at_call 94;refine hbk.mono ?_;rintro e w9 ⟨rfl,h9⟩;obtain rfl:=h9.symm;clear hbk)|(go_at_call 155;refine aD3.mono ?_;rintro e w5 ⟨rfl,h5⟩;(have hc5:=hcl.out _ [_,_,_] h5.drew);replace h5:=Lh h5;clear aD3));refine mX ?_;refine aP (S:=fun w'=>w'.cell? ⟨w.heap.size,0,none⟩=some (pV (w.heap.size+1+1))) 3 ?_;refine aA 0 hc5 ?_;refine bI 1 fun K hK=>?_
 go_simp;go_at_call 162;refine(hhd.out _ h5.out.drew).mono ?_;rintro e w6 ⟨u,rfl,h6⟩;have hc6:=hcl.out _ [_,_,_,_] h6;have aD4:=hw2.out _ _ h6;clear h5 hc5 h6;dsimp only;refine hK _ _ (fun _=>hc6) ?_;clear hK K;try simp only[Act.put,gD]
 refine bI 2 fun K hK=>?_
 go_simp;go_at_call 161;refine aD4.mono ?_;rintro e w8 ⟨rfl,h8⟩;have hc8:=hcl.out _ [_,_,_,_] h8;have aD5:=hf3.out _ _ h8;clear hc6 aD4 h8;dsimp only;refine hK _ _ (fun _=>hc8) ?_;clear hK K;try simp only[Act.put,gD]
 refine aQ fH ?_ _;simp only[rO];go_wp2_with(go_at_call 155;refine aD5.mono ?_;rintro e w4 ⟨rfl,h4⟩;(have x1:=hcl.out _ [_,_,_,_] h4);(have x2:=h4.bF 4 rfl 0);(have h3:=h4.bS 4 rfl 0 (pV (w.heap.size+1+1)));(have x3:=h3.bC 3 rfl 0);(have x4:=h3.bF 3 rfl 0);(have h2:=h3.bS 3 rfl 0 (.int .i64 0));replace h2:=Lh h2;clear aD5 h3 h4);refine oI ?_;have ec:=h2.out.bC 3 rfl 0;have el:=h2.out.bC 4 rfl 0;try simp only[gA,gB]at ec el
 refine leaves_cons (u:=.returning) bL (uR _ _ ac8) ?_;refine(amS ec).mono ?_;rintro e u' w' ⟨rfl,rfl,rfl⟩;refine⟨.tuple #[pV (w.heap.size+1+1),iV 0],by simp[results,Tryz.results96,go_sem,ec,el],_,rfl,?_⟩;exact(Sep.dE [2,3,4,0,1] h2.out aV bL:Sep w0 _ (_::_::_::aH (w.heap.size+1+1) p false::aO p D3::R)).drop 3
end
def NL :List UInt8:=[115,104,117,110,116,45,118,111,108,117,109,101,45,49,33,10]
def mF (names:Nat):List UInt8:=dP (dP bX 0 NL) 16 (w2 names)
theorem Q0 (names:Nat):(mF names).length=512:=by
 unfold mF;have h:(dP bX 0 NL).length=512:=by rw[fM]<;>rw[fV];decide
 rw[fM (by rw[h,sM];decide),h]
def VS.raw (n names:Nat):VS:=⟨n,names,DK.made n,(DK.made n).now.drop 96,0,0,0,0,0,0⟩
def VS.laid (n names:Nat):VS:=(((VS.raw n names).put 0 (mF names)).put 1 (kU (bk ((VS.raw n names).put 0 (mF names)).cur 1) 0)).keep 0 ⟨1,0,0,0,[0]⟩
def VS.new (n names:Nat):VS:= {(VS.laid n names).settled with rB:=(VS.laid n names).count,rI:=names}
theorem adA :∀args w,(callFunc 92 args).run Tryz.prog w= .ok (.enter 92 args) w:=Go.Proofs.enters_of Tryz.func92 fH rfl
theorem amT {w:World} {be bl:Nat} {u:FrameMode} (hc:w.cell? ⟨be,0,none⟩=some (iV 0)):
  CallsD Tryz.prog 92 #[pV be,pV bl] u w fun e u' w'=>u'=u/\e= .returned (.tuple #[])/\w'=w:=by
 refine(callsD_of_wp (R:=fun e w'=>e= .returned (.tuple #[])/\w'=w) Tryz.func92 rfl ?_).mono ?_
 ·simp only[Tryz.ntmps92,kE,kR,rT,Nat.reduceAdd,Nat.reduceSub,zL,zM,zO,zN,nG,kW];go_wp2_with fail
  go_end0
  exact⟨rfl,rfl⟩
 rintro e u' w' ⟨h1,h2,h3⟩;exact⟨h1,h2,h3⟩
theorem ZM {n:Nat} (h0:1<=n) (h1:n<=4096):(DK.made n).ok n:=
 ⟨(yN n).set 0 (oO (ps:=[]) aV),(yN n).set 0 (oO (ps:=[]) aV),h1,h0,fun x hx=>absurd hx D8,by show(-1:Int)<= -1/\(-1:Int)<=9223372036854775807;omega⟩
theorem avW {n i:Nat} (h:i<n) (h0:0<i):bk (DK.made n).now i=bX:=by unfold DK.made;simp only;rw[dJ _ _ aD,aqW h]
theorem aqX {n names fb:Nat} (h0:98+(names+7)/8<n) (h1:n<=4096):VC (VS.raw n names) ⟨none,[],fb,[]⟩:=
 ⟨ZM (n:=n) aD h1,by show 96<n;omega,rfl,(ZM (n:=n) aD h1).now.drop 96,fun x hx=>absurd hx D8,fun x hx=>absurd hx D8,fun k _ _=>CZ _ _ _,iB _,fun _=>rfl⟩
theorem aqY {n names:Nat} (h0:98+(names+7)/8<n) (h3:names<=1024):VF (VS.raw n names):=⟨h3,by show 96+(2+(names+7)/8)<n;omega⟩
theorem Z50 {P:Prop} (h:P:=by
 show(DK.step _).off=_/\(DK.step _).left=_
 unfold DK.step;rw[if_neg (by simp only;omega)];exact⟨ho,rfl⟩):P:=h
theorem aqZ {D:DK} (x:tJ) (ho:D.off=false) (hl:D.left<0):(D.act x).off=false/\(D.act x).left=D.left:=by
 cases x with
 |none=>exact Z50
 |some x=>exact Z50
theorem WC :∀(l:List tJ) {D:DK},D.off=false->D.left<0->(kN l D).2=true/\(kN l D).1.off=false/\(kN l D).1.left=D.left
 |[],D,ho,_=>⟨rfl,ho,rfl⟩
 |x::l,D,ho,hl=>by obtain⟨h1,h2⟩:=aqZ x ho hl;rw[kN,if_neg (by rw[ho];decide)];obtain⟨h3,h4,h5⟩:=WC l h1 (by rw[h2];exact hl);exact⟨h3,h4,h5.trans h2⟩
theorem wH {S:VS} (ho:S.D.off=false) (hl:S.D.left<0):S.bJ.2=true/\S.bJ.1.off=false/\S.bJ.1.left=S.D.left:=by
 unfold VS.bJ;split
 ·exact⟨rfl,ho,rfl⟩
 exact WC _ ho hl
theorem WE {n:Nat} (h:0<n):jX bX n=some 0:=by unfold jX;rw[ai2];exact⟨by decide,List.mem_range.2 h,fun i hi=>absurd hi (GK _)⟩
theorem KJ {n names k:Nat} (h:96+k<n):bk (VS.raw n names).cur k=bX:=by
 show bk ((DK.made n).now.drop 96) k=_
 rw[CZ,avW h aD]
theorem adB {c:fZ} {n:Nat} (h:bk c (2+n/8)=bX):aG c n=⟨0,0,0,0,[]⟩:=by
 unfold aG;rw[h];have e:(bX.drop (n%8*64)).take 64=List.replicate 64 0:=by unfold bX;rw[List.drop_replicate,List.take_replicate,show min 64 (512-n%8*64)=64 by omega]
 rw[e];rfl
section
variable {w0 W:World} {R:List aZ}
noncomputable def Q3 (k:Nat):Code:=(Tryz.f38.body.bind (ajP k)).getD .skip
theorem adC {p n names F bf be q fb:Nat} {u2 u3 u7 u8 u9 u10 u11 u12 u13 u14 u15 u16 u17 u18 u19 u20 u21 u22 u23 u24 u25 u26 u27 u28 u29 u30 u31 u32 u33 u34 u35 u36 u37 u38 u39 u40 u41 u42 u43 u44 u45 u46 u47 u48 u49 u50 u51 u52 u53 u54 u55 u56 u57 u58 u59 u60 u61 u62 u63 u64 u65 u66 u67 u68 u69 u70 u71 u72 u73 u74 u75 u76 u77 u78 u79 u80 u81 u82 u83 u84 u85 u86 u87 u88 u89 u90 u91 u92 u93 u94 u95 u96 u97 u98 u99 aI7 aI8 aI9 aJA aJB u105 aJC aJD aJE aJF aJG aJH aJI:Value} (h0:98+(names+7)/8<n) (h1:n<=4096) (h2:2<=names) (h3:names<=1024) (hW:Sep w0 W (aF F q p (VS.raw n names) ⟨none,[],fb,[]⟩::aJ be 0:: .box bf 37 #[pV F]::R)):
  (Q3 13).wp Tryz.prog (bodyPostD Tryz.prog Tryz.f38 (fun e w'=>∃f q,e= .returned (.tuple #[pV f,iV 0])/\Sep w0 w' (bH f q p (VS.new n names)::R))) {tmps:=#[pV p,iV names,u2,u3,pV bf,pV be,pV q,u7,u8,u9,u10,u11,u12,u13,u14,u15,u16,u17,u18,u19,u20,u21,u22,u23,u24,u25,u26,u27,u28,u29,u30,u31,u32,u33,u34,u35,u36,u37,u38,u39,u40,u41,u42,u43,u44,u45,u46,u47,u48,u49,u50,u51,u52,u53,u54,u55,u56,u57,u58,u59,u60,u61,u62,u63,u64,u65,u66,u67,u68,u69,u70,u71,u72,u73,u74,u75,u76,u77,u78,u79,u80,u81,u82,u83,u84,u85,u86,u87,u88,u89,u90,u91,u92,u93,u94,u95,u96,u97,u98,u99,aI7,aI8,aI9,aJA,aJB,u105,aJC,aJD,aJE,aJF,aJG,aJH,aJI],defers:=[{target:=.fn (.func 52) #[],args:=#[pV F,pV be]},{target:=.fn (.func 92) #[pV be,pV bf],args:=#[]}]} W:=by
 obtain⟨h1,h2,h3⟩:(n<=4096)/\2<=names/\names<=1024:=⟨h1,h2,h3⟩;obtain⟨k0,pO,hk0,hk1,hk2⟩:=iU l8;have hmk:∀W,(Instr.makeSlice 69 (.int .i64 512) (.int .i64 512)).run Tryz.prog W= .ok (sV W.heap.size 512 512) (W.alloc (.cells (madeCells #[.int .u8 0] 512) 5)):=fun W=>qP (P:=Tryz.prog) 69 5 k0 (.int .u8 0) 1 Tryz.underlying69 pO hk0 hk1 hk2 rfl .i64 .i64 512 aD vQ W
 obtain⟨Z,hZ⟩:∃Z,Z=aJ be 0:: .box bf 37 #[pV F]::R:=⟨_,rfl⟩;have hcz:Hid (∀W Y,Sep w0 W (Y++Z)->W.cell? ⟨bf,0,none⟩=some (pV F)/\W.cell? ⟨be,0,none⟩=some (iV 0)):=Lh fun W Y hW=>by rw[hZ]at hW;exact⟨hW.dQ 1 rfl 0,hW.dQ 0 rfl 0⟩
 rw[<-hZ]at hW;have hE:=hW.made 5 (.int .u8 0) 512 vQ;obtain⟨w1,hcp,hS1,_⟩:=hE.AJ (P:=Tryz.prog) 0 rfl 69 9 3 Tryz.underlying69 fH 0 512 512 ⟨#[115,104,117,110,116,45,118,111,108,117,109,101,45,49,33,10]⟩ aV aV;have hS2:Sep w0 w1 (aI (sV W.heap.size 512 512) (dP bX 0 NL)::aF F q p (VS.raw n names) ⟨none,[],fb,[]⟩::Z):=by rw[bW (by rw[fM,fV];rw[fV];decide)];exact hS1
 have hw2:=FC (g:=W.heap.size) (c:=512) (o:=0) (m:=512) (cap:=512) (i:=16) (n:=names) hS2 (by rw[fM,fV];rw[fV];decide) aV aV aD;rw[show dP (dP bX 0 NL) (0+16) (w2 names)=mF names from rfl]at hw2;have hlt0:98+(names+7)/8<n:=by omega
 have aq0:VC (VS.raw n names) ⟨none,[],fb,[]⟩:=aqX hlt0 h1;have azZ:=aqY hlt0 h3;have aD6:Hid (∀W2,Sep w0 W2 (aI (sV W.heap.size 512 512) (mF names)::aF F q p (VS.raw n names) ⟨none,[],fb,[]⟩::Z)->Calls Tryz.prog 98 #[pV F,iV 0,sV W.heap.size 512 512] W2 fun e w'=>e= .returned (.tuple #[])/\∃a1,VC ((VS.raw n names).put 0 (mF names)) a1/\Sep w0 w' (aF F q p ((VS.raw n names).put 0 (mF names)) a1::Z)):=Lh fun W2 hW2=>by have h5:=((hW2.perm (List.Perm.swap _ _ _)).YK aq0 0).perm (List.Perm.swap _ _ _);refine(yB (i:=0) aq0 (by show 0<n-96;omega) h5).mono ?_;rintro e w' ⟨rfl,h6⟩;exact⟨rfl,_,aq0.put _ (by show 0<n-96;omega) (Q0 names),h6⟩
 obtain⟨S1,FQ⟩:∃S1,S1=(VS.raw n names).put 0 (mF names):=⟨_,rfl⟩;rw[<-FQ]at aD6;have avX:VF S1:=by rw[FQ];exact⟨azZ.names,azZ.room⟩
 have hb1:bk S1.cur 1=bX:=by rw[FQ];(show bk ((VS.raw n names).cur.set 0 _) 1=_);rw[dJ _ _ aV,KJ aD]
 have hcn:0<S1.count:=by rw[FQ];show 0<n-96-(2+(names+7)/8);omega
 have az0:jV S1 [] 1=some (S1.put 1 (kU (bk S1.cur 1) 0),[0]):=by rw[P9,hb1,WE hcn]
 obtain⟨S2,KL⟩:∃S2,S2=S1.put 1 (kU (bk S1.cur 1) 0):=⟨_,rfl⟩;rw[<-KL]at az0;have avY:VF S2:=by rw[KL];exact⟨avX.names,avX.room⟩
 obtain⟨S3,UF⟩:∃S3,S3=S2.keep 0 ⟨1,0,0,0,[0]⟩:=⟨_,rfl⟩;have hnew:VS.new n names= {S3.settled with rB:=S3.count,rI:=names}:=by rw[UF,KL,FQ];rfl
 have hi2:aG S2.cur 0=⟨0,0,0,0,[]⟩:=by refine adB ?_;rw[KL];(show bk (S1.cur.set 1 _) 2=_);rw[dJ _ _ aV,FQ];(show bk ((VS.raw n names).cur.set 0 _) 2=_);rw[dJ _ _ aV,KJ aD]
 have aD7:gL S2:=by rw[KL,FQ];exact⟨by show(-1000000:Int)<=0;decide,by show(0:Int)<=1000000;decide,by show(-1000000:Int)<=0;decide,by show(0:Int)<=1000000;decide⟩
 have FD:Hid (∀W2 a1 bx,VC S1 a1->Sep w0 W2 (.box bx 129 #[iV 1,iV 0,iV 0,iV 0,.slice none 0 0]::aF F q p S1 a1::Z)->Calls Tryz.prog 99 #[pV F,pV bx,iV 1] W2 fun e w'=>e= .returned (.tuple #[])/\∃a2 A c,VC S2 a2/\Sep w0 w' (aF F q p S2 a2:: .box bx 129 #[iV 1,iV 0,iV 0,iV 0,.slice A 1 c]::aR (.slice A 1 c) (dZ [0])::Z)):=Lh fun W2 a1 bx hC hW2=>by have h5:Sep w0 W2 (aF F q p S1 a1:: .box bx 129 (aN ⟨1,0,0,0,[]⟩ (.slice none 0 0))::aR (.slice none 0 0) (dZ [])::Z):=Sep.dE [2,1,0] (hW2.iO 3 1) aV bL;refine(yE (x:=⟨1,0,0,0,[]⟩) (n:=1) hC avX aV aV (fun s hs=>by cases hs) h5).mono ?_;intro e w' ho;unfold pR at ho;simp only[az0]at ho;obtain⟨rfl,a2,v,_,hC2,h6⟩:=ho;obtain⟨A,c,e9⟩:=h6.dS 2 rfl;have e10:(dZ [0]).length=1:=rfl;rw[e10]at e9;subst e9;exact⟨rfl,a2,A,c,hC2,h6⟩
 have sN:Hid (∀W2 a2 bx A c,VC S2 a2->Sep w0 W2 (aF F q p S2 a2:: .box bx 129 #[iV 1,iV 0,iV 0,iV 0,.slice A 1 c]::aR (.slice A 1 c) (dZ [0])::Z)->Calls Tryz.prog 100 #[pV F,iV 0,.agg #[iV 1,iV 0,iV 0,iV 0,.slice A 1 c]] W2 fun e w'=>e= .returned (.tuple #[])/\∃a3,VC S3 a3/\Sep w0 w' (aF F q p S3 a3:: .box bx 129 #[iV 1,iV 0,iV 0,iV 0,.slice A 1 c]::aR (.slice A 1 c) (dZ [0])::Z)):=Lh fun W2 a2 bx A c hC hW2=>by refine(uO (n:=0) (x:=⟨1,0,0,0,[0]⟩) (v:=.slice A 1 c) hC avY (by rw[KL,FQ];show 0<names;omega) ⟨by decide,by decide,by decide,by decide,by decide,fun k hk=>by simp at hk;omega⟩ (by rw[hi2];decide) aD7 (jD 1 rfl) hW2).mono ?_;rintro e w' ⟨rfl,a3,YM,h6⟩;rw[<-UF]at YM h6;exact⟨rfl,a3,YM,h6⟩
 have hlive:=wH (S:=S3) (by rw[UF,KL,FQ];rfl) (by rw[UF,KL,FQ];show(-1:Int)<0;decide);have ayQ:Hid (∀W2 a3,VC S3 a3->Sep w0 W2 (aF F q p S3 a3::Z)->Calls Tryz.prog 101 #[pV F] W2 fun e w'=>e= .returned (.tuple #[])/\∃a4,VC S3.settled a4/\Sep w0 w' (aF F q p S3.settled a4::Z)):=Lh fun W2 a3 hC hW2=>by refine(O7 hC (by rw[UF,KL,FQ];show(0+1+1+1:Nat)<=40;decide) (by rw[UF,KL,FQ];show(0:Nat)<=60000;decide) hW2).mono ?_;intro e w' ho;unfold nH at ho;rw[if_pos hlive.1]at ho;obtain⟨rfl,a4,hV4,h6⟩:=ho;exact⟨rfl,a4,hV4.on hlive.2.1,h6⟩
 have aD8:VF S3.settled:=by rw[UF];exact⟨avY.names,avY.room⟩
 have hsy2:Hid (∀W2 a4,VC S3.settled a4->Sep w0 W2 (aF F q p S3.settled a4::Z)->Calls Tryz.prog 102 #[pV q] W2 fun e w'=>e= .returned (iV 0)/\Sep w0 w' (aF F q p S3.settled a4::Z)):=Lh fun W2 a4 hC hW2=>by have h5:=hW2.bE;have hoff:S3.settled.D.off=false:=hlive.2.1;have:=C8 (q:=q) (p:=p) (dead:=false) hC.pF (Sep.dE [1,2,0,3,4] h5 aV (by simp[pQ]):Sep w0 W2 (aH q p false::aO p S3.settled.D::kX F q S3.settled a4.sb (.map (some a4.fb)) false::eU a4.sb a4.SM::jI a4.fb a4.FM::Z));rw[hoff]at this;refine this.mono ?_;rintro e w' ⟨rfl,h9⟩;refine⟨rfl,?_⟩;have h6:Sep w0 w' (pQ F q p S3.settled a4++Z):=Sep.dE [2,0,1,3,4] h9 aV bL;exact h6.dB
 have IE:Hid (∀W2 a4,VC S3.settled a4->Sep w0 W2 (aF F q p S3.settled a4::Z)->Calls Tryz.prog 86 #[pV F] W2 fun e w'=>e= .returned (iV S3.count)/\w'=W2):=Lh fun W2 a4 hC hW2=>KM (S:=S3.settled) hC aD8 hW2
 have hrm:Hid (∀W2 a4,VC S3.settled a4->Sep w0 W2 (aF F q p S3.settled a4::Z)->W2.frozen? ⟨F,7,none⟩=false/\W2.cell? ⟨F,7,none⟩=some (.complex .f64 (fI S3.rB) (fI S3.rI))/\Sep w0 (W2.setCell ⟨F,7,none⟩ (.complex .f64 (fI (S3.count:Int)) (fI (names:Int)))) (bH F q p (VS.new n names)::Z)):=Lh fun W2 a4 hC hW2=>by have h5:=hW2.bE;refine⟨h5.bF 0 rfl 7,h5.bC 0 rfl 7,?_⟩;have h6:=h5.bS 0 rfl 7 (.complex .f64 (fI (S3.count:Int)) (fI (names:Int)));(have h7:Sep w0 (W2.setCell ⟨F,7,none⟩ (.complex .f64 (fI (S3.count:Int)) (fI (names:Int)))) (pQ F q p (VS.new n names) a4++Z):=by rw[hnew];exact h6);(have eP:VC (VS.new n names) a4:=by rw[hnew];exact⟨hC.pF,hC.big,hC.on,hC.cur,hC.seen,hC.fresh,hC.rest,hC.few,hC.none⟩);refine qZ eP ?_ h7.dB;rw[hnew];exact LW hlive.1 (by rw[UF,KL,FQ];rfl)
 have hcount:(S3.count:Int)<=4096:=by rw[UF,KL,FQ];show((n-96-(2+(names+7)/8):Nat):Int)<=4096;omega
 have aD9:=Lh aq0;clear aq0 aD9 azZ avX avY hb1 hcn az0 hi2 aD7 hlive aD8 hS1 hE hW FQ KL UF hlt0 hnew;unfold Q3
 conv=>arg 2;whnf
 go_wp2_with(first |(go_at_call 97;refine hw2.mono ?_;rintro e w2 ⟨rfl,h2⟩;(obtain⟨y0,y1⟩:=hcz.out _ [_,_] h2);(have hp2:=aD6.out _ h2);clear hw2 h2)|(go_at_call 98;refine hp2.mono ?_;rintro e w3 ⟨rfl,a1,kH,h3⟩;(have h4:=h3.bN 129 #[iV 1,iV 0,iV 0,iV 0,.slice none 0 0]);(obtain⟨x0,x1⟩:=hcz.out _ [_,_] h4);(have hf4:=FD.out _ _ _ kH h4);clear hp2 h3 h4 y0 y1 kH)|(go_at_call 99;refine hf4.mono ?_;rintro e w5 ⟨rfl,a2,A5,c5,hC2,h5⟩;replace h5:=Lh h5;replace hC2:=Lh hC2;clear hf4 x0 x1));obtain⟨bx,hbx⟩:∃bx,bx=w3.heap.size:=⟨_,rfl⟩;rw[<-hbx]at h5 ⊢;clear hbx;have hE:=h5.out.drew;have hc19:=hcz.out _ [_,_,_] hE;have ag2:=And.intro hc19.1 (And.intro (hE.bC 1 rfl 0) (And.intro (hE.bC 1 rfl 1) (And.intro (hE.bC 1 rfl 2) (And.intro (hE.bC 1 rfl 3) (hE.bC 1 rfl 4)))));simp only[gA,gB,gC]at ag2;have hk5:=sN.out _ _ _ _ _ hC2.out hE;clear hE hc19 h5 hC2 sN;refine mX ?_;refine aP (S:=fun w'=>w'.cell? ⟨bf,0,none⟩=some (pV F)/\w'.cell? ⟨bx,0,none⟩=some (iV 1)/\w'.cell? ⟨bx,1,none⟩=some (iV 0)/\w'.cell? ⟨bx,2,none⟩=some (iV 0)/\w'.cell? ⟨bx,3,none⟩=some (iV 0)/\w'.cell? ⟨bx,4,none⟩=some (.slice A5 1 c5)) 6 ?_;refine aA 0 ag2 ?_;refine aA 1 ag2 ?_;refine aA 2 ag2 ?_;refine aA 3 ag2 ?_;refine aA 4 ag2 ?_;refine bI 5 fun K hK=>?_
 go_simp;go_at_call 100;refine hk5.mono ?_;rintro e w6 ⟨rfl,a3,YM,h6⟩;obtain⟨y0,y1⟩:=hcz.out _ [_,_,_] h6;have hs6:=ayQ.out _ _ YM ((Sep.dE [1,2,0] h6 aV bL).drop 2);have hE6:=And.intro y0 (And.intro (h6.bC 1 rfl 0) (And.intro (h6.bC 1 rfl 1) (And.intro (h6.bC 1 rfl 2) (And.intro (h6.bC 1 rfl 3) (h6.bC 1 rfl 4)))));simp only[gA,gB,gC]at hE6;clear ag2 hk5 h6 YM ayQ;dsimp only;refine hK _ _ (fun _=>hE6) ?_;clear hK K;try simp only[Act.put,gD]
 refine aQ fH ?_ _;simp only[rO];go_wp2_with(first |(go_at_call 101;refine hs6.mono ?_;rintro e w7 ⟨rfl,a4,TH,h7⟩;(have hy7:=hsy2.out _ _ TH h7);replace TH:=Lh TH;clear hs6 h7 y0 y1)|(go_at_call 102;refine hy7.mono ?_;rintro e w8 ⟨rfl,h8⟩;(have aJJ:=(hcz.out _ [_] h8.drew).1);replace h8:=Lh h8;clear hy7)|(go_at_call 54;refine(fB _ _).mono ?_;rintro e w9 ⟨rfl,h9⟩;obtain rfl:=h9.symm));refine mX ?_;refine eO (S:=fun w'=>w'.cell? ⟨bf,0,none⟩=some (pV F)) 14 fH ?_;intro wq hwq;have h9:Hid (Sep w0 wq (aF F q p S3.settled a4::Z)):=by rw[hwq];exact Lh h8.out.drew
 clear hwq h8 aJJ;have gZ:=(hcz.out _ [_] h9.out).1;have az1:=IE.out _ _ TH.out h9.out;obtain⟨f7,c7,hR7⟩:=hrm.out _ _ TH.out h9.out;have hst:=fun x y=>xD x y c7 f7
 have aEA:=(hcz.out _ [_] hR7).1;simp only[kE,kR,rT,Nat.reduceAdd];obtain⟨M,hM⟩:∃M,M=S3.count:=⟨_,rfl⟩;rw[<-hM]at az1 hR7 hcount aEA;have hend:Hid (Sep w0 (wq.setCell ⟨F,7,none⟩ (.complex .f64 (fI (M:Int)) (fI (names:Int)))) (bH F q p (VS.new n names)::Z)):=Lh hR7;clear hR7 hM h9 IE hrm TH;refine aA 0 gZ ?_;refine aA 1 gZ ?_;refine aA 2 gZ ?_;refine aA 3 gZ ?_;refine aA 4 gZ ?_;refine aA 5 gZ ?_;refine aA 8 gZ ?_;refine aA 9 gZ ?_;refine bI 6 fun K hK=>?_
 go_simp;go_at_call 86;refine az1.mono ?_;rintro e w7 ⟨rfl,h7⟩;obtain rfl:=h7.symm;dsimp only;refine hK _ _ (fun _=>gZ) ?_;clear hK K;try simp only[Act.put,gD]
 refine bB 7 (fun _=>gZ) ?_;refine bB 10 (fun _=>gZ) ?_;refine bB 11 (fun _=>gZ) ?_;refine bB 12 (fun _=>gZ) ?_;refine bI 13 fun K hK=>?_
 go_simp;have hfo:∀z:Int,floatOfInt FloatKind.f64 z=fI z:=fun _=>rfl
 rw[hfo,hfo];refine hK _ _ (fun _=>aEA) ?_;clear hK K;try simp only[Act.put,gD]
 refine aQ fH ?_ _;simp only[rO];have hE:=hend.out;rw[hZ]at hE;have d1:=hE.bF 2 rfl 0;have hE2:=hE.bS 2 rfl 0 (pV F);have d2:=hE2.bC 1 rfl 0;have d3:=hE2.bF 1 rfl 0;have NF:=Lh (hE2.bS 1 rfl 0 (.int .i64 0));clear hE hE2 hend hst c7 f7 gZ az1 hcz;go_wp2_with fail;refine kQ ?_;have ec:=NF.out.bC 1 rfl 0;have el:=NF.out.bC 2 rfl 0;try simp only[gA,gB]at ec el
 refine leaves_cons (u:=.returning) bL (uR _ _ adA) ?_;refine(amT ec).mono ?_;rintro e u' w' ⟨rfl,rfl,rfl⟩;refine⟨.tuple #[pV F,iV 0],by simp[results,Tryz.results38,go_sem,ec,el],F,rfl,q,?_⟩;exact(Sep.dE [1,2,0] NF.out aV bL:Sep w0 _ (_::_::bH F q p (VS.new n names)::R)).drop 2
end
end Go.Proofs.YtmjomdkleikgbaaGreat
namespace Go.Proofs.YtmjomdkleikgbaaGreat
theorem dC.same {S T:VS} {g:LT} (h:dC S g) (h1:T.nb=S.nb) (h2:T.names=S.names) (h3:T.cur=S.cur) (h4:T.wB=S.wB) (h5:T.wI=S.wI) (h6:T.nodes=S.nodes):dC T g:=by obtain⟨nb,names,D,cur,wB,wI,nodes,rB,rI,m⟩:=S;obtain⟨nb',names',D',cur',wB',wI',nodes',rB',rI',m'⟩:=T;simp only at h1 h2 h3 h4 h5 h6;subst h1 h2 h3 h4 h5 h6;exact⟨⟨h.use.cur,⟨h.use.vf.names,h.use.vf.room⟩,h.use.nb⟩,h.n0,h.fair,h.head,h.len,h.lt,h.nodup,h.dis,h.bits,h.bG,h.data,h.wB,h.wI,h.nodes⟩
theorem dC.first {S:VS} {g:LT} (h:dC S g) {b:List UInt8} (hb:b.length=512):dC (S.put 0 b) g:=by
 have hne:∀k,k≠0->bk (S.put 0 b).cur k=bk S.cur k:=fun k hk=>dJ _ _ hk
 have hin:∀n,aG (S.put 0 b).cur n=aG S.cur n:=fun n=>by unfold aG;rw[hne _ aD]
 have hbit:∀j,(S.put 0 b).bit j=S.bit j:=fun j=>by(show pG (bk (S.put 0 b).cur 1) j=pG (bk S.cur 1) j);rw[hne _ aD]
 have hdat:∀s,bk (S.put 0 b).cur (S.data+s)=bk S.cur (S.data+s):=fun s=>hne _ (by unfold VS.data;omega)
 refine⟨h.use.put 0 hb,h.n0,h.fair,fun n hn=>?_,fun n hn=>?_,fun n hn=>?_,fun n hn=>?_,fun n hn m hm e=>?_,fun j hj=>?_,fun n hn hk=>?_,fun n hn hk=>?_,h.wB,h.wI,h.nodes⟩
 ·rw[hin];exact h.head n hn
 ·rw[hin];exact h.len n hn
 ·rw[hin];exact h.lt n hn
 ·rw[hin];exact h.nodup n hn
 ·rw[hin,hin];exact h.dis n hn m hm e
 ·rw[hbit];refine(h.bits j hj).trans ⟨fun⟨n,hn,e⟩=>⟨n,hn,by rw[hin];exact e⟩,fun⟨n,hn,e⟩=>⟨n,hn,by rw[hin]at e;exact e⟩⟩
 ·rw[hin];(have e:=FI (c:=S.cur) (c':=(S.put 0 b).cur) (d:=S.data) (x:=aG S.cur n) (h.YV hn hk) fun s _=>hdat s);exact e.trans (h.bG n hn hk)
 rw[hin];have e:=wN (c:=S.cur) (c':=(S.put 0 b).cur) (d:=S.data) (x:=aG S.cur n) fun s _=>hdat s
 exact e.trans (h.data n hn hk)
section
variable {n names:Nat}
theorem aq1 (j:Nat):pG bX j=false:=by
 unfold pG bX;by_cases h:j/8<512
 ·rw[gH,List.getElem?_replicate,if_pos h];simp
 rw[gH,EZ (by rw[E8];omega)];simp
theorem aq2 (h0:98+(names+7)/8<n) (h1:n<=4096) (h2:2<=names) (h3:names<=1024):dC (VS.raw n names) fun _=>LI0:=by
 have hin:∀i<names,aG (VS.raw n names).cur i=⟨0,0,0,0,[]⟩:=fun i hi=>adB (KJ aD)
 have hz:∀i<names,(aG (VS.raw n names).cur i).aB=[]:=fun i hi=>by rw[hin i hi]
 refine⟨⟨(aqX (fb:=0) h0 h1).cur,aqY h0 h3,h1⟩,by show 0<names;omega,fun _ _=>acJ,fun i hi=>?_,fun i hi=>?_,fun i hi s hs=>?_,fun i hi=>?_,fun i hi m hm _ s hs=>?_,fun j hj=>?_,fun i hi hk=>?_,fun i hi hk=>?_,?_,?_,?_⟩
 ·rw[hin i hi];rfl
 ·rw[hz i hi];rfl
 ·rw[hz i hi]at hs;cases hs
 ·rw[hz i hi];exact OG
 ·rw[hz i hi]at hs;cases hs
 ·(have e:(VS.raw n names).bit j=false:=by(show pG (bk (VS.raw n names).cur 1) j=false);rw[KJ aD,aq1]);rw[e];constructor
  ·intro e2;cases e2
  rintro⟨i,hi,e2⟩;rw[hz i hi]at e2;cases e2
 ·cases hk
 ·cases hk
 ·exact(DL fun i _=>rfl).symm
 ·exact(DL fun i _=>rfl).symm
 exact(DL fun i _=>rfl).symm
def aj6 :LT:=dO (fun _=>LI0) 0 ⟨1,0,0,[],[]⟩
theorem aq3 :∀ {c:fZ} {i:Nat},i<c.length->c.set i (bk c i)=c:=fun {c i} h=>by
 refine U3 (JR ..) fun k h1 h2=>?_
 rw[List.getElem_set];split
 ·rename_i e;subst e;unfold bk;rw[gH,gE h2];rfl
 rfl
theorem amU (h0:98+(names+7)/8<n) (h1:n<=4096) (h2:2<=names) (h3:names<=1024):dC (VS.laid n names) aj6:=by
 have hp:=aq2 h0 h1 h2 h3;have hp1:=hp.first (Q0 names);obtain⟨S,hS⟩:∃S,S=(VS.raw n names).put 0 (mF names):=⟨_,rfl⟩;rw[<-hS]at hp1;have hcnt:0<S.count:=by rw[hS];show 0<n-96-(2+(names+7)/8);omega
 have hb1:bk S.cur 1=bX:=by rw[hS];(show bk ((VS.raw n names).cur.set 0 _) 1=_);rw[dJ _ _ aV,KJ aD]
 have hfree:jX (bk S.cur 1) S.count=some 0:=by rw[hb1];exact WE hcnt
 have hN:=(hp1.ap9 (n:=0) (mode:=0) (links:=0) (by rw[hS];show 0<names;omega) rfl aV aV).1 0 hfree;have hdata:bk (S.put 1 (kU (bk S.cur 1) 0)).cur (S.data+0)=bX:=by(show bk (S.cur.set 1 _) (S.data+0)=_);rw[dJ _ _ (by unfold VS.data;omega),hS];(show bk ((VS.raw n names).cur.set 0 _) (2+(names+7)/8+0)=_);rw[dJ _ _ aD,KJ aD]
 have hlen:S.data+0<(S.put 1 (kU (bk S.cur 1) 0)).cur.length:=by have:=(hp1.use.cur).len;(show S.data+0<(S.cur.set 1 _).length);rw[JR,this,hS];(show 2+(names+7)/8+0<n-96);omega
 have aEB:(gN S 0).cur=(S.put 1 (kU (bk S.cur 1) 0)).cur:=by(show(S.put 1 (kU (bk S.cur 1) 0)).cur.set (S.data+0) bX=_);have:=aq3 hlen;rw[hdata]at this;exact this
 have nR:aG (gN S 0).cur 0=aG (S.put 1 (kU (bk S.cur 1) 0)).cur 0:=by rw[aEB]
 refine hN.same ?_ ?_ ?_ ?_ ?_ ?_
 ·rw[hS];rfl
 ·rw[hS];rfl
 ·(show uU ((VS.raw n names).put 0 (mF names)|>.put 1 (kU (bk ((VS.raw n names).put 0 (mF names)).cur 1) 0)).cur 0 ⟨1,0,0,0,[0]⟩=uU (gN S 0).cur 0 ⟨1,0,0,0,[0]⟩);rw[aEB,hS]
 ·(show(VS.raw n names).wB-eD (aG (((VS.raw n names).put 0 (mF names)).put 1 (kU (bk ((VS.raw n names).put 0 (mF names)).cur 1) 0)).cur 0).kind (aG (((VS.raw n names).put 0 (mF names)).put 1 (kU (bk ((VS.raw n names).put 0 (mF names)).cur 1) 0)).cur 0).size+eD 1 0=S.wB-eD (aG (gN S 0).cur 0).kind (aG (gN S 0).cur 0).size+eD 1 0);rw[nR,hS];rfl
 ·(show(VS.raw n names).wI-nQ (aG (((VS.raw n names).put 0 (mF names)).put 1 (kU (bk ((VS.raw n names).put 0 (mF names)).cur 1) 0)).cur 0).kind+nQ 1=S.wI-nQ (aG (gN S 0).cur 0).kind+nQ 1);rw[nR,hS];rfl
 rw[hS];rfl
theorem aq4 (h2:0<names):lY aj6 names [] [] (fun _=>0) (fun _=>0) where
 n0:=h2
 root:=rfl
 rk:=rfl
 uniq:=OG
 up n hn:=by cases hn
 dir n hn:=by cases hn
 file n hn:=by cases hn
 ne0 n hn:=by cases hn
 inj n hn:=by cases hn
 cover i hi hk:=by
  by_cases e:i=0
  ·exact .inl e
  unfold aj6 at hk;rw[bT _ _ e]at hk;exact absurd rfl hk
 bG K hK:=EJ _
theorem Q4 (n names:Nat):(VS.laid n names).bJ.2=true/\(VS.new n names).D.off=false/\(VS.new n names).D.left= -1:=by have h:=wH (S:=VS.laid n names) rfl (show(-1:Int)<0 by decide);exact⟨h.1,h.2.1,h.2.2⟩
theorem az2 (h0:98+(names+7)/8<n) (h1:n<=4096) (h2:2<=names) (h3:names<=1024):Vt (VS.new n names).base [] [] aj6 (fun _=>0) (fun _=>0):=by
 have hp:=amU h0 h1 h2 h3;have hD:(VS.laid n names).D.ok (VS.laid n names).nb:=ZM (n:=n) aD h1;have YO:96<(VS.laid n names).nb:=by show 96<n;omega
 have l5:EE ((VS.laid n names).D.now.drop 96) (VS.laid n names):=(((EE.refl (VS.raw n names)).put _ _).put _ _).keep _ _;have hc:=(Q4 n names).1;have e:=BN hD YO hp.use.cur l5 (show 0+1+1+1<=40 by decide) hc;refine Vt.of (hp.same rfl rfl e rfl rfl rfl) (aq4 (names:=names) aD) rfl aV rfl rfl rfl
end
end Go.Proofs.YtmjomdkleikgbaaGreat
