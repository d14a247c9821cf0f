/- Parts. -/
import Derived.Test.YtmjomdkleikgbaaGreatK26
set_option linter.unusedVariables false
set_option linter.unusedSimpArgs false
set_option maxRecDepth 100000
set_option maxHeartbeats 20000000
namespace Go.Proofs.YtmjomdkleikgbaaGreat
open Go.RowKit
def DK.fresh (n:Nat):DK:=⟨List.replicate n bX,List.replicate n bX,[],false, -1⟩
theorem y9 (n:Nat):kU n (List.replicate n bX):=⟨FL,fun b hb=>by rw[(List.mem_replicate.1 hb).2];exact fV⟩
theorem DK.adU {n:Nat} (h0:1<=n) (h1:n<=4096):(DK.fresh n).ok n:=⟨y9 n,y9 n,h1,h0,fun x hx=>absurd hx EK,by show(-1:Int)<= -1/\(-1:Int)<=9223372036854775807;omega⟩
theorem arN (n:Nat):(List.replicate n bX).flatten=List.replicate (n*512) 0:=by
 unfold bX
 induction n with
 |zero=>rfl
 |succ n ih=>rw[List.replicate_succ,vW,ih,List.replicate_append_replicate,VY,Nat.add_comm]
def DK.RL (D:DK) (n:Int):DK:=if n< -1 then D else if D.off=true then D else {D with left:=n,off:=decide (n=0)}
def DK.azM (D:DK) (n:Int):Int:=if n< -1 then 1 else if D.off=true then 11 else 0
theorem DK.akY {nb:Nat} {D:DK} (h:D.ok nb) {n:Int} (hn:n<=9223372036854775807):(D.RL n).ok nb:=by
 unfold DK.RL;split
 ·exact h
 split
 ·exact h
 exact⟨h.now,h.fast,h.few,h.some,h.back,by simp only;omega⟩
section
variable {w0 w:World} {R:List aW} {p nb:Nat} {D:DK}
theorem arO (h:Sep w0 w (aO p D::R)):Calls Tryz.prog 93 #[pV p] w fun e w'=>e= .returned (.bool (!D.off))/\w'=w:=by
 obtain⟨vn,vf,vb,h1⟩:=h.uH;have c3:=h1.bC 0 rfl 3;simp only[gA,gB,gC]at c3;clear h h1;cases hd:D.off<;>rw[hd]at c3
 ·go_enter Tryz.func93,Tryz.ntmps93;go_wp2_with fail;go_ret;exact⟨rfl,rfl⟩
 go_enter Tryz.func93,Tryz.ntmps93;go_wp2_with fail;go_ret;exact⟨rfl,rfl⟩
theorem adV (hD:D.ok nb) (n:Int) (h:Sep w0 w (aO p D::R)):Calls Tryz.prog 23 #[pV p,iV n] w fun e w'=>e= .returned (iV (D.azM n))/\Sep w0 w' (aO p (D.RL n)::R):=by
 obtain⟨vn,vf,vb,h1⟩:=h.uH;have c3:=h1.bC 0 rfl 3;have c4:=h1.bC 0 rfl 4;have f4:=h1.bF 0 rfl 4;have h2:=h1.bS 0 rfl 4 (.int .i64 n);have d3:=h2.bC 0 rfl 3;have g3:=h2.bF 0 rfl 3;have h3:=h2.bS 0 rfl 3 (.bool (decide (n=0)));simp only[gA,gB,gC]at c3 c4;try simp only[gA,gB,gC,gD,M6,GU]at d3
 unfold DK.azM DK.RL;by_cases hn:n< -1
 ·rw[if_pos hn,if_pos hn];clear h1 h2 h3 hD c4 f4 d3 g3;go_enter Tryz.func23,Tryz.ntmps23;go_wp2_with fail;go_ret;exact⟨rfl,h⟩
 rw[if_neg hn,if_neg hn];have hn':(-1:Int)<=n:=by omega
 cases hd:D.off with
 |true=>rw[if_pos rfl,if_pos rfl];rw[hd]at c3;clear h1 h2 h3 hD c4 f4 d3 g3 hn;go_enter Tryz.func23,Tryz.ntmps23;go_wp2_with fail;go_ret;exact⟨rfl,h⟩
 |false=>
  rw[if_neg aR,if_neg aR];rw[hd]at c3 d3;replace h3:=Lh h3;clear h h1 h2 hD hn;go_enter Tryz.func23,Tryz.ntmps23;go_wp2_with fail;go_ret;refine⟨rfl,?_⟩;have h5:=h3.out;refine Sep.uI (D:= {D with left:=n,off:=decide (n=0)}) (vn:=vn) (vf:=vf) (vb:=vb) ?_;first
   |exact h5
   |(have e:(n==0)=decide (n=0):=by by_cases e0:n=0<;>simp[e0]
     rw[e];exact h5)
theorem Sep.arP (h:Sep w0 w R):Sep w0 w (FB (.slice none 0 0) []::R):=Sep.KX (us:=[]) rfl (h.gZ 143 3)
theorem awY {n:Nat} (h0:1<=n) (h1:n<=4096) (h:Sep w0 w R):
  Calls Tryz.prog 37 #[iV n] w fun e w'=>∃p,e= .returned (.tuple #[pV p,iV 0])/\Sep w0 w' (aO p (DK.fresh n)::R):=by
 obtain⟨k0,pR,hk0,hk1,hk2⟩:=iR mE;have hmk:∀W,(Instr.makeSlice 69 (.int .i64 ((n:Int)*512)) (.int .i64 ((n:Int)*512))).run Tryz.prog W= .ok (sV W.heap.size (n*512) (n*512)) (W.alloc (.cells (madeCells #[.int .u8 0] (n*512)) 5)):=fun W=>by have:=qX (P:=Tryz.prog) 69 5 k0 (.int .u8 0) 1 Tryz.underlying69 pR hk0 hk1 hk2 rfl .i64 .i64 (n*512) aD vX W;rw[Int.natCast_mul]at this;exact this
 have q0:(1:Int)<=n:=by omega
 have q1:(n:Int)<=4096:=by omega
 have hwr:IntKind.i64.wrap ((n:Int)*512)=(n:Int)*512:=IntWalk.i64_in _ aD;have hmd:Hid (∀(As:List aW) (W:World),Sep w0 W As->Sep w0 (W.alloc (.cells (madeCells #[.int .u8 0] (n*512)) 5)) (aI (sV W.heap.size (n*512) (n*512)) (List.replicate n bX).flatten::As)):=Lh fun As W hW=>by have:=hW.made 5 (.int .u8 0) (n*512) vX;rw[arN,bV FL,List.map_replicate];exact this
 have hend:Hid (∀W A B cA cB,Sep w0 W (aI (.slice A (n*512) cA) (List.replicate n bX).flatten::aI (.slice B (n*512) cB) (List.replicate n bX).flatten::R)->
   Sep w0 (W.alloc (.cells #[.slice A (n*512) cA,.slice B (n*512) cB,.slice none 0 0,.bool false,iV (-1)] 122)) (aO W.heap.size (DK.fresh n)::R)):=Lh fun W A B cA cB hW=>by
  have h2:=hW.bN 122 #[.slice A (n*512) cA,.slice B (n*512) cB,.slice none 0 0,.bool false,iV (-1)];have h3:=h2.arP;exact Sep.uI (D:=DK.fresh n) (vn:=.slice A (n*512) cA) (vf:=.slice B (n*512) cB) (vb:=.slice none 0 0) (Sep.dB [1,2,3,0] h3 aR (by simp[iE,DK.fresh]))
 replace h:=Lh h;clear h0 h1 hk2 hk1 hk0 pR;go_enter Tryz.func37,Tryz.ntmps37;go_wp2_with fail;refine eU (S:=fun w'=>True) 10 fE ?_;intro wq hwq;have hX:Hid (Sep w0 wq R):=by rw[hwq];exact Lh h.out.drew
 clear hwq h;simp only[uB,kH,qQ,Nat.reduceAdd];have hc:True:=trivial;refine aA 0 hc ?_;refine aA 1 hc ?_;refine aA 3 hc ?_;refine aA 4 hc ?_;refine iX (i:=2) (j:=5) fE rfl rfl (fun K hK=>?_) (fun K hK=>?_)
 focus
  go_simp
  have h1:=Lh (hmd.out _ _ hX.out)
  try dsimp only
  refine hK _ _ (fun _=>trivial) ?_
  clear hK K
  try simp only[Act.put,gD]
  obtain⟨g2,hg2⟩:∃g,g=wq.heap.size:=⟨_,rfl⟩
  obtain⟨w2,hw2⟩:∃w2,w2=wq.alloc (.cells (madeCells #[.int .u8 0] (n*512)) 5):=⟨_,rfl⟩
  rw[<-hw2]at h1 ⊢
  rw[<-hg2]at h1 ⊢
  clear hw2 hg2 hX
  have h2:=Lh (hmd.out _ _ h1.out)
  refine bA 5 (fun _=>trivial) ?_
  obtain⟨g3,hg3⟩:∃g,g=w2.heap.size:=⟨_,rfl⟩
  obtain⟨w3,hw3⟩:∃w3,w3=w2.alloc (.cells (madeCells #[.int .u8 0] (n*512)) 5):=⟨_,rfl⟩
  rw[<-hw3]at h2 ⊢
  rw[<-hg3]at h2 ⊢
  clear hw3 hg3 h1
  refine bA 6 (fun _=>trivial) ?_
  have h3:=Lh (hend.out w3 _ _ _ _ (h2.out.perm (List.Perm.swap _ _ _)))
  refine bA 7 (fun _=>trivial) ?_
  refine bA 8 (fun _=>trivial) ?_
  refine bA 9 (fun _=>trivial) ?_
  refine aQ fE ?_ _
  go_wp2_with fail
  go_ret2
  exact⟨_,rfl,h3.out⟩
 focus
  go_simp
  have h1:=Lh (hmd.out _ _ hX.out)
  try dsimp only
  refine hK _ _ (fun _=>trivial) ?_
  clear hK K
  try simp only[Act.put,gD]
  obtain⟨g2,hg2⟩:∃g,g=wq.heap.size:=⟨_,rfl⟩
  obtain⟨w2,hw2⟩:∃w2,w2=wq.alloc (.cells (madeCells #[.int .u8 0] (n*512)) 5):=⟨_,rfl⟩
  rw[<-hw2]at h1 ⊢
  rw[<-hg2]at h1 ⊢
  clear hw2 hg2 hX
  have h2:=Lh (hmd.out _ _ h1.out)
  refine bA 2 (fun _=>trivial) ?_
  obtain⟨g3,hg3⟩:∃g,g=w2.heap.size:=⟨_,rfl⟩
  obtain⟨w3,hw3⟩:∃w3,w3=w2.alloc (.cells (madeCells #[.int .u8 0] (n*512)) 5):=⟨_,rfl⟩
  rw[<-hw3]at h2 ⊢
  rw[<-hg3]at h2 ⊢
  clear hw3 hg3 h1
  refine bA 6 (fun _=>trivial) ?_
  have h3:=Lh (hend.out w3 _ _ _ _ h2.out)
  refine bA 7 (fun _=>trivial) ?_
  refine bA 8 (fun _=>trivial) ?_
  refine bA 9 (fun _=>trivial) ?_
  refine aQ fE ?_ _
  go_wp2_with fail
  go_ret2
  exact⟨_,rfl,h3.out⟩
end
def DK.made (n:Nat):DK:=⟨(List.replicate n bX).set 0 (fT []),(List.replicate n bX).set 0 (fT []),[],false, -1⟩
theorem akZ (n:Nat):(List.replicate n bX).set 0 bX=List.replicate n bX:=by
 cases n with
 |zero=>rfl
 |succ n=>rfl
theorem adW (n:Nat):(DK.fresh n).wr 0 bX=⟨List.replicate n bX,List.replicate n bX,[(0,bX)],false, -1⟩:=by unfold DK.wr DK.step DK.fresh;simp only;rw[if_neg aR,akZ];rfl
theorem arQ (n:Nat):((DK.fresh n).wr 0 bX).fl=DK.fresh n:=by rw[adW];unfold DK.fl DK.step lG DK.fresh;simp only[List.foldl_cons,List.foldl_nil];rw[if_neg aR,akZ]
theorem anJ (n:Nat):(DK.fresh n).fl=DK.fresh n:=by unfold DK.fl DK.step lG DK.fresh;simp only[List.foldl_nil];rw[if_neg aR]
theorem WU (n:Nat):(DK.fresh n).wr 0 (fT [])=⟨(List.replicate n bX).set 0 (fT []),List.replicate n bX,[(0,fT [])],false, -1⟩:=by unfold DK.wr DK.step DK.fresh;simp only;rw[if_neg aR];rfl
theorem ahU (n:Nat):((DK.fresh n).wr 0 (fT [])).fl=DK.made n:=by rw[WU];unfold DK.fl DK.step lG DK.made;simp only[List.foldl_cons,List.foldl_nil];rw[if_neg aR]
theorem arR {n i:Nat} (h:i<n):bk (List.replicate n bX) i=bX:=by unfold bk;rw[gH,List.getElem?_replicate,if_pos h];rfl
theorem JD {w0 w:World} {As:List aW} {p nb:Nat} {D:DK} (i:Nat) (hD:D.ok nb) (h:Sep w0 w As) (hi:As[i]? =some (aO p D)):
  Calls Tryz.prog 94 #[pV p] w fun e w'=>e= .returned (iV nb)/\w'=w:=by
 obtain⟨A,c,hn⟩:=h.adX i hD hi;exact QT hn rfl hD.few
theorem adY :∀args w,(callFunc 160 args).run Tryz.prog w= .ok (.enter 160 args) w:=Go.Proofs.enters_of Tryz.func160 fE rfl
theorem anK {w:World} {be bl:Nat} {u:FrameMode} (hc:w.cell? ⟨be,0,none⟩=some (iV 0)):
  CallsD Tryz.prog 160 #[pV be,pV bl] u w fun e u' w'=>u'=u/\e= .returned (.tuple #[])/\w'=w:=by
 refine(callsD_of_wp (R:=fun e w'=>e= .returned (.tuple #[])/\w'=w) Tryz.func160 rfl ?_).mono ?_
 ·simp only[Tryz.ntmps160,uB,kH,qQ,Nat.reduceAdd,Nat.reduceSub,xD,xE,xH,xG,mI,kI];go_wp2_with fail
  go_end0
  exact⟨rfl,rfl⟩
 rintro e u' w' ⟨h1,h2,h3⟩;exact⟨h1,h2,h3⟩
section
variable {w0 w:World} {R:List aW}
theorem adZ {p n:Nat} (h0:96<n) (h1:n<=4096) (h:Sep w0 w (aO p (DK.fresh n)::R)):
  Calls Tryz.prog 96 #[pV p] w fun e w'=>∃q,e= .returned (.tuple #[pV q,iV 0])/\Sep w0 w' (aG q p false::aO p (DK.made n)::R):=by
 obtain⟨bl,hbl⟩:∃b,b=w.heap.size:=⟨_,rfl⟩;obtain⟨D,hD⟩:∃D,D=DK.fresh n:=⟨_,rfl⟩;have hok:D.ok n:=by rw[hD];exact DK.adU aD h1
 have hoff:D.off=false:=by rw[hD];rfl
 have hbk:D.back=[]:=by rw[hD];rfl
 have UQ:∀i,i<n->bk D.now i=bX:=fun i hi=>by rw[hD];exact arR hi
 obtain⟨D1,hD1⟩:∃D1,D1=D.wr 0 bX:=⟨_,rfl⟩;have hok1:D1.ok n:=by rw[hD1];exact DK.akN hok aD fV
 have azN:D1.off=false:=by rw[hD1,hD,adW]
 have aET:D1.fl=D:=by rw[hD1,hD,arQ]
 have oO:D.fl=D:=by rw[hD,anJ]
 obtain⟨D2,hD2⟩:∃D2,D2=D.wr 0 (fT []):=⟨_,rfl⟩;have hok2:D2.ok n:=by rw[hD2];exact DK.akN hok aD (oQ (ps:=[]) aR)
 have RN:D2.off=false:=by rw[hD2,hD,WU]
 have aAP:D2.fl=DK.made n:=by rw[hD2,hD,ahU]
 obtain⟨D3,hD3⟩:∃D3,D3=DK.made n:=⟨_,rfl⟩;rw[<-hD3]at aAP ⊢;rw[<-hD]at h;have hS2:Hid (Sep w0 (((w.alloc (.cells #[pV (bl+1+1)] 110)).alloc (.cells #[iV 0] 40)).alloc (.cells #[.iface 36 (pV p),.bool false] 197)) (aG (bl+1+1) p false::aO p D::aJ (bl+1) 0:: .box bl 110 #[pV (bl+1+1)]::R)):=Lh (by have:=((h.bN 110 #[pV (bl+1+1)]).bN 40 #[iV 0]).bN 197 #[.iface 36 (pV p),.bool false];simp only[World.size_alloc,<-hbl]at this;exact Sep.dB [0,3,1,2] this aR (by simp[aG,aJ]));obtain⟨k0,pR,hk0,hk1,hk2⟩:=iR mE;have hmk:∀W,(Instr.makeSlice 69 (.int .i64 512) (.int .i64 512)).run Tryz.prog W= .ok (sV W.heap.size 512 512) (W.alloc (.cells (madeCells #[.int .u8 0] 512) 5)):=fun W=>qX (P:=Tryz.prog) 69 5 k0 (.int .u8 0) 1 Tryz.underlying69 pR hk0 hk1 hk2 rfl .i64 .i64 512 aD vX W
 have hmf:∀(fn:Fn) (first cap:Array Value) (w:World),(Instr.makeFunc fn first cap).run Tryz.prog w= .ok (.func fn first cap) w:=fun _ _ _ _=>rfl
 have hon:Hid (∀W (As:List aW),Sep w0 W (aO p D::As)->Calls Tryz.prog 93 #[pV p] W fun e w'=>e= .returned (.bool true)/\w'=W):=Lh fun W As hW=>by have:=arO hW;rw[hoff]at this;exact this
 have hbs:Hid (∀W (As:List aW),Sep w0 W (aO p D::As)->Calls Tryz.prog 94 #[pV p] W fun e w'=>e= .returned (iV n)/\w'=W):=Lh fun W As hW=>JD 0 hok hW rfl
 have q1:(n:Int)<=4096:=by omega
 have q0:(96:Int)<n:=by omega
 --the state while the blocks are read
 have hemp:Hid (∀W (As:List aW),Sep w0 W As->Sep w0 (W.alloc (.cells (madeCells #[.int .u8 0] 512) 5)) (aI (sV W.heap.size 512 512) bX::As)):=Lh fun W As hW=>by have:=hW.made 5 (.int .u8 0) 512 vX;rw[bV fV,DN];exact this
 have hw1:Hid (∀W v,Sep w0 W (aG (bl+1+1) p false::aO p D::aI v bX::aJ (bl+1) 0:: .box bl 110 #[pV (bl+1+1)]::R)->
   Calls Tryz.prog 161 #[pV (bl+1+1),iV 0,v] W fun e w'=>e= .returned (.tuple #[])/\Sep w0 w' (aG (bl+1+1) p false::aO p D1::aI v bX::aJ (bl+1) 0:: .box bl 110 #[pV (bl+1+1)]::R)):=Lh fun W v hW=>by
  have:=uJ (i:=0) (bs:=bX) hok aD fV (by rw[hbk];decide) (jI.part 0 rfl) hoff hW;rw[<-hD1]at this;exact this
 have hf1:Hid (∀W v,Sep w0 W (aG (bl+1+1) p false::aO p D1::aI v bX::aJ (bl+1) 0:: .box bl 110 #[pV (bl+1+1)]::R)->
   Calls Tryz.prog 155 #[pV (bl+1+1)] W fun e w'=>e= .returned (.tuple #[])/\Sep w0 w' (aG (bl+1+1) p false::aO p D::aI v bX::aJ (bl+1) 0:: .box bl 110 #[pV (bl+1+1)]::R)):=Lh fun W v hW=>by
  have:=rM hok1 azN hW;rw[aET]at this;exact this
 have hrd:Hid (∀W v (i:Nat),i<n->Sep w0 W (aG (bl+1+1) p false::aO p D::aI v bX::aJ (bl+1) 0:: .box bl 110 #[pV (bl+1+1)]::R)->
   Calls Tryz.prog 153 #[pV (bl+1+1),iV i] W fun e w'=>∃A c,e= .returned (.slice A 512 c)/\BytesAt w' (.slice A 512 c) bX/\BytesAt w' v bX/\Sep w0 w' (aG (bl+1+1) p false::aO p D::aI v bX::aJ (bl+1) 0:: .box bl 110 #[pV (bl+1+1)]::R)):=Lh fun W v i hi hW=>by
  refine(RO hok hi hoff hW).mono ?_;rintro e w' ⟨u,rfl,h9⟩;rw[UQ i hi]at h9;obtain⟨A,c,e9⟩:=h9.dV 0 rfl;rw[fV]at e9;subst e9;exact⟨A,c,rfl,h9.rd 0 rfl,h9.rd 3 rfl,h9.drop 1⟩
 have hf2:Hid (∀W v,Sep w0 W (aG (bl+1+1) p false::aO p D::aI v bX::aJ (bl+1) 0:: .box bl 110 #[pV (bl+1+1)]::R)->
   Calls Tryz.prog 155 #[pV (bl+1+1)] W fun e w'=>e= .returned (.tuple #[])/\Sep w0 w' (aG (bl+1+1) p false::aO p D::aJ (bl+1) 0:: .box bl 110 #[pV (bl+1+1)]::R)):=Lh fun W v hW=>by
  refine(rM hok hoff hW).mono ?_;rw[oO];rintro e w' ⟨rfl,h9⟩;exact⟨rfl,(Sep.dB [2,0,1,3,4] h9 aR bK).drop 1⟩
 have hhd:Hid (∀W,Sep w0 W (aG (bl+1+1) p false::aO p D::aJ (bl+1) 0:: .box bl 110 #[pV (bl+1+1)]::R)->Calls Tryz.prog 162 #[.slice none 0 0] W fun e w'=>∃u,e= .returned u/\Sep w0 w' (aG (bl+1+1) p false::aO p D::aI u (fT [])::aJ (bl+1) 0:: .box bl 110 #[pV (bl+1+1)]::R)):=Lh fun W hW=>by refine(RP (w:=W) (v:=.slice none 0 0) (ps:=[]) ⟨rfl,none,0,rfl,iC _,by unfold maxLen;omega,fun h=>absurd h aR⟩ aR (fun p hp=>by cases hp)).mono ?_;rintro e w' ⟨u,rfl,hS⟩;exact⟨u,rfl,Sep.dB [1,2,0,3,4] (hW.join hS) aR bK⟩
 have hw2:Hid (∀W v,Sep w0 W (aG (bl+1+1) p false::aO p D::aI v (fT [])::aJ (bl+1) 0:: .box bl 110 #[pV (bl+1+1)]::R)->
   Calls Tryz.prog 161 #[pV (bl+1+1),iV 0,v] W fun e w'=>e= .returned (.tuple #[])/\Sep w0 w' (aG (bl+1+1) p false::aO p D2::aI v (fT [])::aJ (bl+1) 0:: .box bl 110 #[pV (bl+1+1)]::R)):=Lh fun W v hW=>by
  have:=uJ (i:=0) (bs:=fT []) hok aD (oQ (ps:=[]) aR) (by rw[hbk];decide) (jI.part 0 rfl) hoff hW;rw[<-hD2]at this;exact this
 have hf3:Hid (∀W v,Sep w0 W (aG (bl+1+1) p false::aO p D2::aI v (fT [])::aJ (bl+1) 0:: .box bl 110 #[pV (bl+1+1)]::R)->
   Calls Tryz.prog 155 #[pV (bl+1+1)] W fun e w'=>e= .returned (.tuple #[])/\Sep w0 w' (aG (bl+1+1) p false::aO p D3::aI v (fT [])::aJ (bl+1) 0:: .box bl 110 #[pV (bl+1+1)]::R)):=Lh fun W v hW=>by
  have:=rM hok2 RN hW;rw[aAP]at this;exact this
 have hcl:Hid (∀W Y,Sep w0 W (Y++ .box bl 110 #[pV (bl+1+1)]::R)->W.cell? ⟨bl,0,none⟩=some (pV (bl+1+1))):=Lh fun W Y hW=>by(have hi:(Y++ .box bl 110 #[pV (bl+1+1)]::R)[Y.length]? =some (.box bl 110 #[pV (bl+1+1)]):=by simp);exact hW.bC _ hi 0
 have hc2:=hcl.out _ [_,_,_] hS2.out;have vZ:=hon.out _ _ (Sep.dB [1,0,2,3] hS2.out aR bK);have aEU:=hbs.out _ _ (Sep.dB [1,0,2,3] hS2.out aR bK);have hE2:=hemp.out _ _ hS2.out;simp only[World.size_alloc]at hE2;have dQ:Hid (Sep w0 _ (aG (bl+1+1) p false::aO p D::aI _ bX::aJ (bl+1) 0:: .box bl 110 #[pV (bl+1+1)]::R)):=Lh (Sep.dB [1,2,0,3,4] hE2 aR bK);have aEV:=hw1.out _ _ dQ.out;have hc3:=hcl.out _ [_,_,_,_] dQ.out;clear hE2 hemp hw1 hok hok1 hok2 hoff azN RN hbk UQ aET oO aAP hD hD1 hD2 hD3 h h0 h1 dQ;rw[hbl]at*
 go_enter_defers Tryz.func96,Tryz.ntmps96
 go_wp2_with(first |(go_at_call 93;refine vZ.mono ?_;rintro e w9 ⟨rfl,h9⟩;obtain rfl:=h9.symm;clear vZ)|(go_at_call 94;refine aEU.mono ?_;rintro e w9 ⟨rfl,h9⟩;obtain rfl:=h9.symm;clear aEU)|(go_at_call 161;refine aEV.mono ?_;rintro e w8 ⟨rfl,h8⟩;(have c8:=hcl.out _ [_,_,_,_] h8);(have BZ:=hf1.out _ _ h8);clear aEV h8)|(go_at_call 155;refine BZ.mono ?_;rintro e w7 ⟨rfl,h7⟩;replace h7:=Lh h7;clear BZ c8));go_loopw[5] (fun iv wr=>∃k:Nat,96<=k/\k<=n/\iv=iV k/\Hid (Sep w0 wr (aG (w.heap.size+1+1) p false::aO p D::aI (sV (w.heap.size+1+1+1) 512 512) bX::aJ (w.heap.size+1) 0:: .box w.heap.size 110 #[pV (w.heap.size+1+1)]::R))) (fun iv _=>n-(intOf iv).toNat)
 case atStart=>exact⟨96,iC _,by omega,rfl,h7⟩
 obtain⟨k,aQR,hk,rfl,hS⟩:=hrel;clear h7;have hbk:=hbs.out _ _ (Sep.dB [1,0,2,3,4] hS.out aR bK);by_cases hlt:k<n
 ·have hck:=hcl.out _ [_,_,_,_] hS.out.drew;have hrk:=hrd.out _ _ k hlt hS.out.drew;have hcv:(convert 69 9 (.slice (some ⟨w.heap.size+1+1+1,0,none⟩) 512 512)).run Tryz.prog wr.drew= .ok (.string ⟨bX.toArray⟩) wr.drew:=gX (hS.out.drew.rd 2 rfl);(have j1:(k:Int)<n:=by omega);(have j0:(96:Int)<=k:=by omega);clear hS;go_wp2_with(go_at_call 94;refine hbk.mono ?_;rintro e w9 ⟨rfl,h9⟩;obtain rfl:=h9.symm;clear hbk);rename_i K1 hK1;refine lT ?_;refine aP (S:=fun w'=>w'.cell? ⟨w.heap.size,0,none⟩=some (pV (w.heap.size+1+1))/\(convert 69 9 (sV (w.heap.size+1+1+1) 512 512)).run Tryz.prog w'= .ok (.string ⟨bX.toArray⟩) w') 7 ?_;have hE:=And.intro hck hcv;refine aA 0 hE ?_;refine aA 1 hE ?_;refine aA 4 hE ?_;refine aA 5 hE ?_;(refine bI 2 fun K hK=>?_);go_simp;go_at_call 153;refine hrk.mono ?_;rintro e w5 ⟨A5,c5,rfl,hb5,hv5,h5⟩;have aQS:(convert 69 9 (.slice A5 512 c5)).run Tryz.prog w5= .ok (.string ⟨bX.toArray⟩) w5:=gX hb5;have aJ2:(convert 69 9 (.slice (some ⟨w.heap.size+1+1+1,0,none⟩) 512 512)).run Tryz.prog w5= .ok (.string ⟨bX.toArray⟩) w5:=gX hv5;have rV:=And.intro (hcl.out _ [_,_,_,_] h5) aJ2;replace h5:=Lh h5;clear hE hck hcv hrk hb5 hv5;dsimp only;refine hK _ _ (fun _=>rV) ?_;clear hK K;(try simp only[Act.put,gD]);refine bA 3 (fun _=>rV) ?_;refine bA 6 (fun _=>rV) ?_;refine aQ fE ?_ _;simp only[pX,Exit.then];apply hK1;(have hz:(bX.toArray==bX.toArray)=true:=by simp);(have hz2:(bX.toArray !=bX.toArray)=false:=by simp);go_wp2_with fail;go_roundw
  case rel=>exact⟨k+1,by omega,by omega,by go_num,h5⟩
  case measure=>(simp[intOf];omega)
 obtain rfl:k=n:=by omega
 have aEW:=hf2.out _ _ hS.out;have hc0:=hcl.out _ [_,_,_,_] hS.out;clear hS;go_wp2_with(first |(go_at_call 94;refine hbk.mono ?_;rintro e w9 ⟨rfl,h9⟩;obtain rfl:=h9.symm;clear hbk)|(go_at_call 155;refine aEW.mono ?_;rintro e w5 ⟨rfl,h5⟩;(have hc5:=hcl.out _ [_,_,_] h5.drew);replace h5:=Lh h5;clear aEW));refine lT ?_;refine aP (S:=fun w'=>w'.cell? ⟨w.heap.size,0,none⟩=some (pV (w.heap.size+1+1))) 3 ?_;refine aA 0 hc5 ?_;refine bI 1 fun K hK=>?_
 go_simp;go_at_call 162;refine(hhd.out _ h5.out.drew).mono ?_;rintro e w6 ⟨u,rfl,h6⟩;have hc6:=hcl.out _ [_,_,_,_] h6;have aEX:=hw2.out _ _ h6;clear h5 hc5 h6;dsimp only;refine hK _ _ (fun _=>hc6) ?_;clear hK K;try simp only[Act.put,gD]
 refine bI 2 fun K hK=>?_
 go_simp;go_at_call 161;refine aEX.mono ?_;rintro e w8 ⟨rfl,h8⟩;have hc8:=hcl.out _ [_,_,_,_] h8;have aEY:=hf3.out _ _ h8;clear hc6 aEX h8;dsimp only;refine hK _ _ (fun _=>hc8) ?_;clear hK K;try simp only[Act.put,gD]
 refine aQ fE ?_ _;simp only[pX];go_wp2_with(go_at_call 155;refine aEY.mono ?_;rintro e w4 ⟨rfl,h4⟩;(have x1:=hcl.out _ [_,_,_,_] h4);(have x2:=h4.bF 4 rfl 0);(have h3:=h4.bS 4 rfl 0 (pV (w.heap.size+1+1)));(have x3:=h3.bC 3 rfl 0);(have x4:=h3.bF 3 rfl 0);(have h2:=h3.bS 3 rfl 0 (.int .i64 0));replace h2:=Lh h2;clear aEY h3 h4);refine oJ ?_;have ec:=h2.out.bC 3 rfl 0;have el:=h2.out.bC 4 rfl 0;try simp only[gA,gB]at ec el
 refine leaves_cons (u:=.returning) bK (uY _ _ adY) ?_;refine(anK ec).mono ?_;rintro e u' w' ⟨rfl,rfl,rfl⟩;refine⟨.tuple #[pV (w.heap.size+1+1),iV 0],by simp[results,Tryz.results96,go_sem,ec,el],_,rfl,?_⟩;exact(Sep.dB [2,3,4,0,1] h2.out aR bK:Sep w0 _ (_::_::_::aG (w.heap.size+1+1) p false::aO p D3::R)).drop 3
end
def OA :List UInt8:=[115,104,117,110,116,45,118,111,108,117,109,101,45,49,33,10]
def mJ (names:Nat):List UInt8:=dR (dR bX 0 OA) 16 (w2 names)
theorem RQ (names:Nat):(mJ names).length=512:=by
 unfold mJ;have h:(dR bX 0 OA).length=512:=by rw[fP]<;>rw[fV];decide
 rw[fP (by rw[h,sQ];decide),h]
def VS.raw (n names:Nat):VS:=⟨n,names,DK.made n,(DK.made n).now.drop 96,0,0,0,0,0,0⟩
def VS.laid (n names:Nat):VS:=(((VS.raw n names).put 0 (mJ names)).put 1 (kZ (bk ((VS.raw n names).put 0 (mJ names)).cur 1) 0)).keep 0 ⟨1,0,0,0,[0]⟩
def VS.new (n names:Nat):VS:= {(VS.laid n names).settled with rB:=(VS.laid n names).count,rI:=names}
theorem ad1 :∀args w,(callFunc 92 args).run Tryz.prog w= .ok (.enter 92 args) w:=Go.Proofs.enters_of Tryz.func92 fE rfl
theorem anL {w:World} {be bl:Nat} {u:FrameMode} (hc:w.cell? ⟨be,0,none⟩=some (iV 0)):
  CallsD Tryz.prog 92 #[pV be,pV bl] u w fun e u' w'=>u'=u/\e= .returned (.tuple #[])/\w'=w:=by
 refine(callsD_of_wp (R:=fun e w'=>e= .returned (.tuple #[])/\w'=w) Tryz.func92 rfl ?_).mono ?_
 ·simp only[Tryz.ntmps92,uB,kH,qQ,Nat.reduceAdd,Nat.reduceSub,xD,xE,xH,xG,mI,kI];go_wp2_with fail
  go_end0
  exact⟨rfl,rfl⟩
 rintro e u' w' ⟨h1,h2,h3⟩;exact⟨h1,h2,h3⟩
theorem aaK {n:Nat} (h0:1<=n) (h1:n<=4096):(DK.made n).ok n:=
 ⟨(y9 n).set 0 (oQ (ps:=[]) aR),(y9 n).set 0 (oQ (ps:=[]) aR),h1,h0,fun x hx=>absurd hx EK,by show(-1:Int)<= -1/\(-1:Int)<=9223372036854775807;omega⟩
theorem awZ {n i:Nat} (h:i<n) (h0:0<i):bk (DK.made n).now i=bX:=by unfold DK.made;simp only;rw[dK _ _ aD,arR h]
theorem arS {n names fb:Nat} (h0:98+(names+7)/8<n) (h1:n<=4096):VC (VS.raw n names) ⟨none,[],fb,[]⟩:=
 ⟨aaK (n:=n) aD h1,by show 96<n;omega,rfl,(aaK (n:=n) aD h1).now.drop 96,fun x hx=>absurd hx EK,fun x hx=>absurd hx EK,fun k _ _=>DU _ _ _,iC _,fun _=>rfl⟩
theorem arT {n names:Nat} (h0:98+(names+7)/8<n) (h3:names<=1024):VF (VS.raw n names):=⟨h3,by show 96+(2+(names+7)/8)<n;omega⟩
theorem Z54 {P:Prop} (h:P:=by
 show(DK.step _).off=_/\(DK.step _).left=_
 unfold DK.step;rw[if_neg (by simp only;omega)];exact⟨ho,rfl⟩):P:=h
theorem arU {D:DK} (x:tO) (ho:D.off=false) (hl:D.left<0):(D.act x).off=false/\(D.act x).left=D.left:=by
 cases x with
 |none=>exact Z54
 |some x=>exact Z54
theorem WV :∀(l:List tO) {D:DK},D.off=false->D.left<0->(kT l D).2=true/\(kT l D).1.off=false/\(kT l D).1.left=D.left
 |[],D,ho,_=>⟨rfl,ho,rfl⟩
 |x::l,D,ho,hl=>by obtain⟨h1,h2⟩:=arU x ho hl;rw[kT,if_neg (by rw[ho];decide)];obtain⟨h3,h4,h5⟩:=WV l h1 (by rw[h2];exact hl);exact⟨h3,h4,h5.trans h2⟩
theorem wR {S:VS} (ho:S.D.off=false) (hl:S.D.left<0):S.bJ.2=true/\S.bJ.1.off=false/\S.bJ.1.left=S.D.left:=by
 unfold VS.bJ;split
 ·exact⟨rfl,ho,rfl⟩
 exact WV _ ho hl
theorem WW {n:Nat} (h:0<n):j5 bX n=some 0:=by unfold j5;rw[ajT];exact⟨by decide,List.mem_range.2 h,fun i hi=>absurd hi (FO _)⟩
theorem KY {n names k:Nat} (h:96+k<n):bk (VS.raw n names).cur k=bX:=by
 show bk ((DK.made n).now.drop 96) k=_
 rw[DU,awZ h aD]
theorem ad3 {c:gI} {n:Nat} (h:bk c (2+n/8)=bX):aH c n=⟨0,0,0,0,[]⟩:=by
 unfold aH;rw[h];have e:(bX.drop (n%8*64)).take 64=List.replicate 64 0:=by unfold bX;rw[List.drop_replicate,List.take_replicate,show min 64 (512-n%8*64)=64 by omega]
 rw[e];rfl
section
variable {w0 W:World} {R:List aW}
noncomputable def RS (k:Nat):Code:=(Tryz.f38.body.bind (akG k)).getD .skip
theorem ad4 {p n names F bf be q fb:Nat} {u2 u3 u7 u8 u9 u10 u11 u12 u13 u14 u15 u16 u17 u18 u19 u20 u21 u22 u23 u24 u25 u26 u27 u28 u29 u30 u31 u32 u33 u34 u35 u36 u37 u38 u39 u40 u41 u42 u43 u44 u45 u46 u47 u48 u49 u50 u51 u52 u53 u54 u55 u56 u57 u58 u59 u60 u61 u62 u63 u64 u65 u66 u67 u68 u69 u70 u71 u72 u73 u74 u75 u76 u77 u78 u79 u80 u81 u82 u83 u84 u85 u86 u87 u88 u89 u90 u91 u92 u93 u94 u95 u96 u97 u98 u99 aJ3 aJ4 aJ5 aJ6 aJ7 u105 aJ8 aJ9 aKA aKB aKC aKD aKE:Value} (h0:98+(names+7)/8<n) (h1:n<=4096) (h2:2<=names) (h3:names<=1024) (hW:Sep w0 W (aF F q p (VS.raw n names) ⟨none,[],fb,[]⟩::aJ be 0:: .box bf 37 #[pV F]::R)):
  (RS 13).wp Tryz.prog (bodyPostD Tryz.prog Tryz.f38 (fun e w'=>∃f q,e= .returned (.tuple #[pV f,iV 0])/\Sep w0 w' (bB f q p (VS.new n names)::R))) {tmps:=#[pV p,iV names,u2,u3,pV bf,pV be,pV q,u7,u8,u9,u10,u11,u12,u13,u14,u15,u16,u17,u18,u19,u20,u21,u22,u23,u24,u25,u26,u27,u28,u29,u30,u31,u32,u33,u34,u35,u36,u37,u38,u39,u40,u41,u42,u43,u44,u45,u46,u47,u48,u49,u50,u51,u52,u53,u54,u55,u56,u57,u58,u59,u60,u61,u62,u63,u64,u65,u66,u67,u68,u69,u70,u71,u72,u73,u74,u75,u76,u77,u78,u79,u80,u81,u82,u83,u84,u85,u86,u87,u88,u89,u90,u91,u92,u93,u94,u95,u96,u97,u98,u99,aJ3,aJ4,aJ5,aJ6,aJ7,u105,aJ8,aJ9,aKA,aKB,aKC,aKD,aKE],defers:=[{target:=.fn (.func 52) #[],args:=#[pV F,pV be]},{target:=.fn (.func 92) #[pV be,pV bf],args:=#[]}]} W:=by
 obtain⟨h1,h2,h3⟩:(n<=4096)/\2<=names/\names<=1024:=⟨h1,h2,h3⟩;obtain⟨k0,pR,hk0,hk1,hk2⟩:=iR mE;have hmk:∀W,(Instr.makeSlice 69 (.int .i64 512) (.int .i64 512)).run Tryz.prog W= .ok (sV W.heap.size 512 512) (W.alloc (.cells (madeCells #[.int .u8 0] 512) 5)):=fun W=>qX (P:=Tryz.prog) 69 5 k0 (.int .u8 0) 1 Tryz.underlying69 pR hk0 hk1 hk2 rfl .i64 .i64 512 aD vX W
 obtain⟨Z,hZ⟩:∃Z,Z=aJ be 0:: .box bf 37 #[pV F]::R:=⟨_,rfl⟩;have hcz:Hid (∀W Y,Sep w0 W (Y++Z)->W.cell? ⟨bf,0,none⟩=some (pV F)/\W.cell? ⟨be,0,none⟩=some (iV 0)):=Lh fun W Y hW=>by rw[hZ]at hW;exact⟨hW.dS 1 rfl 0,hW.dS 0 rfl 0⟩
 rw[<-hZ]at hW;have hE:=hW.made 5 (.int .u8 0) 512 vX;obtain⟨w1,hcp,hS1,_⟩:=hE.BB (P:=Tryz.prog) 0 rfl 69 9 3 Tryz.underlying69 fE 0 512 512 ⟨#[115,104,117,110,116,45,118,111,108,117,109,101,45,49,33,10]⟩ aR aR;have hS2:Sep w0 w1 (aI (sV W.heap.size 512 512) (dR bX 0 OA)::aF F q p (VS.raw n names) ⟨none,[],fb,[]⟩::Z):=by rw[bV (by rw[fP,fV];rw[fV];decide)];exact hS1
 have hw2:=FQ (g:=W.heap.size) (c:=512) (o:=0) (m:=512) (cap:=512) (i:=16) (n:=names) hS2 (by rw[fP,fV];rw[fV];decide) aR aR aD;rw[show dR (dR bX 0 OA) (0+16) (w2 names)=mJ names from rfl]at hw2;have hlt0:98+(names+7)/8<n:=by omega
 have arV:VC (VS.raw n names) ⟨none,[],fb,[]⟩:=arS hlt0 h1;have aAQ:=arT hlt0 h3;have aEZ:Hid (∀W2,Sep w0 W2 (aI (sV W.heap.size 512 512) (mJ names)::aF F q p (VS.raw n names) ⟨none,[],fb,[]⟩::Z)->Calls Tryz.prog 98 #[pV F,iV 0,sV W.heap.size 512 512] W2 fun e w'=>e= .returned (.tuple #[])/\∃a1,VC ((VS.raw n names).put 0 (mJ names)) a1/\Sep w0 w' (aF F q p ((VS.raw n names).put 0 (mJ names)) a1::Z)):=Lh fun W2 hW2=>by have h5:=((hW2.perm (List.Perm.swap _ _ _)).Y9 arV 0).perm (List.Perm.swap _ _ _);refine(yP (i:=0) arV (by show 0<n-96;omega) h5).mono ?_;rintro e w' ⟨rfl,h6⟩;exact⟨rfl,_,arV.put _ (by show 0<n-96;omega) (RQ names),h6⟩
 obtain⟨S1,F6⟩:∃S1,S1=(VS.raw n names).put 0 (mJ names):=⟨_,rfl⟩;rw[<-F6]at aEZ;have aw0:VF S1:=by rw[F6];exact⟨aAQ.names,aAQ.room⟩
 have hb1:bk S1.cur 1=bX:=by rw[F6];(show bk ((VS.raw n names).cur.set 0 _) 1=_);rw[dK _ _ aR,KY aD]
 have hcn:0<S1.count:=by rw[F6];show 0<n-96-(2+(names+7)/8);omega
 have aAR:jY S1 [] 1=some (S1.put 1 (kZ (bk S1.cur 1) 0),[0]):=by rw[QP,hb1,WW hcn]
 obtain⟨S2,KZ⟩:∃S2,S2=S1.put 1 (kZ (bk S1.cur 1) 0):=⟨_,rfl⟩;rw[<-KZ]at aAR;have aw1:VF S2:=by rw[KZ];exact⟨aw0.names,aw0.room⟩
 obtain⟨S3,U2⟩:∃S3,S3=S2.keep 0 ⟨1,0,0,0,[0]⟩:=⟨_,rfl⟩;have hnew:VS.new n names= {S3.settled with rB:=S3.count,rI:=names}:=by rw[U2,KZ,F6];rfl
 have hi2:aH S2.cur 0=⟨0,0,0,0,[]⟩:=by refine ad3 ?_;rw[KZ];(show bk (S1.cur.set 1 _) 2=_);rw[dK _ _ aR,F6];(show bk ((VS.raw n names).cur.set 0 _) 2=_);rw[dK _ _ aR,KY aD]
 have aE0:gK S2:=by rw[KZ,F6];exact⟨by show(-1000000:Int)<=0;decide,by show(0:Int)<=1000000;decide,by show(-1000000:Int)<=0;decide,by show(0:Int)<=1000000;decide⟩
 have FR:Hid (∀W2 a1 bx,VC S1 a1->Sep w0 W2 (.box bx 129 #[iV 1,iV 0,iV 0,iV 0,.slice none 0 0]::aF F q p S1 a1::Z)->Calls Tryz.prog 99 #[pV F,pV bx,iV 1] W2 fun e w'=>e= .returned (.tuple #[])/\∃a2 A c,VC S2 a2/\Sep w0 w' (aF F q p S2 a2:: .box bx 129 #[iV 1,iV 0,iV 0,iV 0,.slice A 1 c]::aS (.slice A 1 c) (eB [0])::Z)):=Lh fun W2 a1 bx hC hW2=>by have h5:Sep w0 W2 (aF F q p S1 a1:: .box bx 129 (aN ⟨1,0,0,0,[]⟩ (.slice none 0 0))::aS (.slice none 0 0) (eB [])::Z):=Sep.dB [2,1,0] (hW2.gZ 3 1) aR bK;refine(yS (x:=⟨1,0,0,0,[]⟩) (n:=1) hC aw0 aR aR (fun s hs=>by cases hs) h5).mono ?_;intro e w' ho;unfold pW at ho;simp only[aAR]at ho;obtain⟨rfl,a2,v,_,hC2,h6⟩:=ho;obtain⟨A,c,e9⟩:=h6.dV 2 rfl;have e10:(eB [0]).length=1:=rfl;rw[e10]at e9;subst e9;exact⟨rfl,a2,A,c,hC2,h6⟩
 have sS:Hid (∀W2 a2 bx A c,VC S2 a2->Sep w0 W2 (aF F q p S2 a2:: .box bx 129 #[iV 1,iV 0,iV 0,iV 0,.slice A 1 c]::aS (.slice A 1 c) (eB [0])::Z)->Calls Tryz.prog 100 #[pV F,iV 0,.agg #[iV 1,iV 0,iV 0,iV 0,.slice A 1 c]] W2 fun e w'=>e= .returned (.tuple #[])/\∃a3,VC S3 a3/\Sep w0 w' (aF F q p S3 a3:: .box bx 129 #[iV 1,iV 0,iV 0,iV 0,.slice A 1 c]::aS (.slice A 1 c) (eB [0])::Z)):=Lh fun W2 a2 bx A c hC hW2=>by refine(uV (n:=0) (x:=⟨1,0,0,0,[0]⟩) (v:=.slice A 1 c) hC aw1 (by rw[KZ,F6];show 0<names;omega) ⟨by decide,by decide,by decide,by decide,by decide,fun k hk=>by simp at hk;omega⟩ (by rw[hi2];decide) aE0 (jF 1 rfl) hW2).mono ?_;rintro e w' ⟨rfl,a3,ZB,h6⟩;rw[<-U2]at ZB h6;exact⟨rfl,a3,ZB,h6⟩
 have hlive:=wR (S:=S3) (by rw[U2,KZ,F6];rfl) (by rw[U2,KZ,F6];show(-1:Int)<0;decide);have azO:Hid (∀W2 a3,VC S3 a3->Sep w0 W2 (aF F q p S3 a3::Z)->Calls Tryz.prog 101 #[pV F] W2 fun e w'=>e= .returned (.tuple #[])/\∃a4,VC S3.settled a4/\Sep w0 w' (aF F q p S3.settled a4::Z)):=Lh fun W2 a3 hC hW2=>by refine(PT hC (by rw[U2,KZ,F6];show(0+1+1+1:Nat)<=40;decide) (by rw[U2,KZ,F6];show(0:Nat)<=60000;decide) hW2).mono ?_;intro e w' ho;unfold nJ at ho;rw[if_pos hlive.1]at ho;obtain⟨rfl,a4,hV4,h6⟩:=ho;exact⟨rfl,a4,hV4.on hlive.2.1,h6⟩
 have aE1:VF S3.settled:=by rw[U2];exact⟨aw1.names,aw1.room⟩
 have hsy2:Hid (∀W2 a4,VC S3.settled a4->Sep w0 W2 (aF F q p S3.settled a4::Z)->Calls Tryz.prog 102 #[pV q] W2 fun e w'=>e= .returned (iV 0)/\Sep w0 w' (aF F q p S3.settled a4::Z)):=Lh fun W2 a4 hC hW2=>by have h5:=hW2.bG;have hoff:S3.settled.D.off=false:=hlive.2.1;have:=xS (q:=q) (p:=p) (dead:=false) hC.nV (Sep.dB [1,2,0,3,4] h5 aR (by simp[pU]):Sep w0 W2 (aG q p false::aO p S3.settled.D::kF F q S3.settled a4.sb (.map (some a4.fb)) false::dY a4.sb a4.SM::jK a4.fb a4.FM::Z));rw[hoff]at this;refine this.mono ?_;rintro e w' ⟨rfl,h9⟩;refine⟨rfl,?_⟩;have h6:Sep w0 w' (pU F q p S3.settled a4++Z):=Sep.dB [2,0,1,3,4] h9 aR bK;exact h6.dC
 have IU:Hid (∀W2 a4,VC S3.settled a4->Sep w0 W2 (aF F q p S3.settled a4::Z)->Calls Tryz.prog 86 #[pV F] W2 fun e w'=>e= .returned (iV S3.count)/\w'=W2):=Lh fun W2 a4 hC hW2=>K3 (S:=S3.settled) hC aE1 hW2
 have hrm:Hid (∀W2 a4,VC S3.settled a4->Sep w0 W2 (aF F q p S3.settled a4::Z)->W2.frozen? ⟨F,7,none⟩=false/\W2.cell? ⟨F,7,none⟩=some (.complex .f64 (fI S3.rB) (fI S3.rI))/\Sep w0 (W2.setCell ⟨F,7,none⟩ (.complex .f64 (fI (S3.count:Int)) (fI (names:Int)))) (bB F q p (VS.new n names)::Z)):=Lh fun W2 a4 hC hW2=>by have h5:=hW2.bG;refine⟨h5.bF 0 rfl 7,h5.bC 0 rfl 7,?_⟩;have h6:=h5.bS 0 rfl 7 (.complex .f64 (fI (S3.count:Int)) (fI (names:Int)));(have h7:Sep w0 (W2.setCell ⟨F,7,none⟩ (.complex .f64 (fI (S3.count:Int)) (fI (names:Int)))) (pU F q p (VS.new n names) a4++Z):=by rw[hnew];exact h6);(have eX:VC (VS.new n names) a4:=by rw[hnew];exact⟨hC.nV,hC.big,hC.on,hC.cur,hC.seen,hC.fresh,hC.rest,hC.few,hC.none⟩);refine rG eX ?_ h7.dC;rw[hnew];exact MK hlive.1 (by rw[U2,KZ,F6];rfl)
 have hcount:(S3.count:Int)<=4096:=by rw[U2,KZ,F6];show((n-96-(2+(names+7)/8):Nat):Int)<=4096;omega
 have aE2:=Lh arV;clear arV aE2 aAQ aw0 aw1 hb1 hcn aAR hi2 aE0 hlive aE1 hS1 hE hW F6 KZ U2 hlt0 hnew;unfold RS
 conv=>arg 2;whnf
 go_wp2_with(first |(go_at_call 97;refine hw2.mono ?_;rintro e w2 ⟨rfl,h2⟩;(obtain⟨y0,y1⟩:=hcz.out _ [_,_] h2);(have hp2:=aEZ.out _ h2);clear hw2 h2)|(go_at_call 98;refine hp2.mono ?_;rintro e w3 ⟨rfl,a1,kK,h3⟩;(have h4:=h3.bN 129 #[iV 1,iV 0,iV 0,iV 0,.slice none 0 0]);(obtain⟨x0,x1⟩:=hcz.out _ [_,_] h4);(have hf4:=FR.out _ _ _ kK h4);clear hp2 h3 h4 y0 y1 kK)|(go_at_call 99;refine hf4.mono ?_;rintro e w5 ⟨rfl,a2,A5,c5,hC2,h5⟩;replace h5:=Lh h5;replace hC2:=Lh hC2;clear hf4 x0 x1));obtain⟨bx,hbx⟩:∃bx,bx=w3.heap.size:=⟨_,rfl⟩;rw[<-hbx]at h5 ⊢;clear hbx;have hE:=h5.out.drew;have hc19:=hcz.out _ [_,_,_] hE;have ahV:=And.intro hc19.1 (And.intro (hE.bC 1 rfl 0) (And.intro (hE.bC 1 rfl 1) (And.intro (hE.bC 1 rfl 2) (And.intro (hE.bC 1 rfl 3) (hE.bC 1 rfl 4)))));simp only[gA,gB,gC]at ahV;have hk5:=sS.out _ _ _ _ _ hC2.out hE;clear hE hc19 h5 hC2 sS;refine lT ?_;refine aP (S:=fun w'=>w'.cell? ⟨bf,0,none⟩=some (pV F)/\w'.cell? ⟨bx,0,none⟩=some (iV 1)/\w'.cell? ⟨bx,1,none⟩=some (iV 0)/\w'.cell? ⟨bx,2,none⟩=some (iV 0)/\w'.cell? ⟨bx,3,none⟩=some (iV 0)/\w'.cell? ⟨bx,4,none⟩=some (.slice A5 1 c5)) 6 ?_;refine aA 0 ahV ?_;refine aA 1 ahV ?_;refine aA 2 ahV ?_;refine aA 3 ahV ?_;refine aA 4 ahV ?_;refine bI 5 fun K hK=>?_
 go_simp;go_at_call 100;refine hk5.mono ?_;rintro e w6 ⟨rfl,a3,ZB,h6⟩;obtain⟨y0,y1⟩:=hcz.out _ [_,_,_] h6;have hs6:=azO.out _ _ ZB ((Sep.dB [1,2,0] h6 aR bK).drop 2);have hE6:=And.intro y0 (And.intro (h6.bC 1 rfl 0) (And.intro (h6.bC 1 rfl 1) (And.intro (h6.bC 1 rfl 2) (And.intro (h6.bC 1 rfl 3) (h6.bC 1 rfl 4)))));simp only[gA,gB,gC]at hE6;clear ahV hk5 h6 ZB azO;dsimp only;refine hK _ _ (fun _=>hE6) ?_;clear hK K;try simp only[Act.put,gD]
 refine aQ fE ?_ _;simp only[pX];go_wp2_with(first |(go_at_call 101;refine hs6.mono ?_;rintro e w7 ⟨rfl,a4,UG,h7⟩;(have hy7:=hsy2.out _ _ UG h7);replace UG:=Lh UG;clear hs6 h7 y0 y1)|(go_at_call 102;refine hy7.mono ?_;rintro e w8 ⟨rfl,h8⟩;(have aKF:=(hcz.out _ [_] h8.drew).1);replace h8:=Lh h8;clear hy7)|(go_at_call 54;refine(eQ _ _).mono ?_;rintro e w9 ⟨rfl,h9⟩;obtain rfl:=h9.symm));refine lT ?_;refine eU (S:=fun w'=>w'.cell? ⟨bf,0,none⟩=some (pV F)) 14 fE ?_;intro wq hwq;have h9:Hid (Sep w0 wq (aF F q p S3.settled a4::Z)):=by rw[hwq];exact Lh h8.out.drew
 clear hwq h8 aKF;have iA:=(hcz.out _ [_] h9.out).1;have aAS:=IU.out _ _ UG.out h9.out;obtain⟨f7,c7,hR7⟩:=hrm.out _ _ UG.out h9.out;have hst:=fun x y=>xU x y c7 f7
 have aE3:=(hcz.out _ [_] hR7).1;simp only[uB,kH,qQ,Nat.reduceAdd];obtain⟨M,hM⟩:∃M,M=S3.count:=⟨_,rfl⟩;rw[<-hM]at aAS hR7 hcount aE3;have hend:Hid (Sep w0 (wq.setCell ⟨F,7,none⟩ (.complex .f64 (fI (M:Int)) (fI (names:Int)))) (bB F q p (VS.new n names)::Z)):=Lh hR7;clear hR7 hM h9 IU hrm UG;refine aA 0 iA ?_;refine aA 1 iA ?_;refine aA 2 iA ?_;refine aA 3 iA ?_;refine aA 4 iA ?_;refine aA 5 iA ?_;refine aA 8 iA ?_;refine aA 9 iA ?_;refine bI 6 fun K hK=>?_
 go_simp;go_at_call 86;refine aAS.mono ?_;rintro e w7 ⟨rfl,h7⟩;obtain rfl:=h7.symm;dsimp only;refine hK _ _ (fun _=>iA) ?_;clear hK K;try simp only[Act.put,gD]
 refine bA 7 (fun _=>iA) ?_;refine bA 10 (fun _=>iA) ?_;refine bA 11 (fun _=>iA) ?_;refine bA 12 (fun _=>iA) ?_;refine bI 13 fun K hK=>?_
 go_simp;have hfo:∀z:Int,floatOfInt FloatKind.f64 z=fI z:=fun _=>rfl
 rw[hfo,hfo];refine hK _ _ (fun _=>aE3) ?_;clear hK K;try simp only[Act.put,gD]
 refine aQ fE ?_ _;simp only[pX];have hE:=hend.out;rw[hZ]at hE;have d1:=hE.bF 2 rfl 0;have hE2:=hE.bS 2 rfl 0 (pV F);have d2:=hE2.bC 1 rfl 0;have d3:=hE2.bF 1 rfl 0;have E9:=Lh (hE2.bS 1 rfl 0 (.int .i64 0));clear hE hE2 hend hst c7 f7 iA aAS hcz;go_wp2_with fail;refine kV ?_;have ec:=E9.out.bC 1 rfl 0;have el:=E9.out.bC 2 rfl 0;try simp only[gA,gB]at ec el
 refine leaves_cons (u:=.returning) bK (uY _ _ ad1) ?_;refine(anL ec).mono ?_;rintro e u' w' ⟨rfl,rfl,rfl⟩;refine⟨.tuple #[pV F,iV 0],by simp[results,Tryz.results38,go_sem,ec,el],F,rfl,q,?_⟩;exact(Sep.dB [1,2,0] E9.out aR bK:Sep w0 _ (_::_::bB F q p (VS.new n names)::R)).drop 2
end
end Go.Proofs.YtmjomdkleikgbaaGreat
