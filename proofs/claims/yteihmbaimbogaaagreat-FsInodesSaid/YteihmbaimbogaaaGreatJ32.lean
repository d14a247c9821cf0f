/- Parts. -/
import Derived.Test.YteihmbaimbogaaaGreatJ30
import Derived.Test.YteihmbaimbogaaaGreatJ31
set_option linter.unusedVariables false
set_option linter.unusedSimpArgs false
set_option maxRecDepth 100000
set_option maxHeartbeats 20000000
namespace Go.Proofs.YteihmbaimbogaaaGreat
open Go.RowKit
section
variable {w0 w:World} {R:List bK}
theorem apY {p nb N:Nat} {D:DK} (hD:D.ok nb) (ho:D.off=false) (auV:apU (bk D.now 0)=some []) (hM:ZV nb N D.fl) (h:Sep w0 w (aN p D::R)):
  Calls Tryz.prog 33 #[pV p] w fun e w'=>∃f q,e= .returned (.tuple #[pV f,iV 0])/\Sep w0 w' (bI f q p (VS.O4 nb N D.fl N)::R):=by
 obtain⟨bf,hbf⟩:∃b,b=w.heap.size:=⟨_,rfl⟩;have hS0:Hid (Sep w0 (((w.alloc (.cells #[pV (bf+1+1)] 24)).alloc (.cells #[iV 0] 39)).alloc (.cells akD 106)) (aN p D:: .box (bf+1+1) 106 akD::aI (bf+1) 0:: .box bf 24 #[pV (bf+1+1)]::R)):=Lh (by exact Z38);have hop:=apV hD (by have:=hM.room;omega) ho auV hS0.out;have MN:∀(fn:Fn) (first cap:Array Value) (w:World),(Instr.makeFunc fn first cap).run Tryz.prog w= .ok (.func fn first cap) w:=fun _ _ _ _=>rfl
 have hcl:Hid (∀W Y,Sep w0 W (Y++ .box bf 24 #[pV (bf+1+1)]::R)->W.cell? ⟨bf,0,none⟩=some (pV (bf+1+1))):=Lh fun W Y hW=>by exact Z78
 have hc0:=hcl.out _ [_,_,_] hS0.out;have hM':=Lh hM;clear h hD ho auV hM;unfold akD at*;rw[hbf]at*
 go_enter_defers Tryz.func33,Tryz.ntmps33
 go_wp2_with(first |(go_at_call 78;refine hop.mono ?_;rintro e w9 ⟨q,rfl,h9⟩;(have k0:=h9.bC 3 rfl 0);(have k1:=h9.bF 3 rfl 0);(have h8:=h9.bS 3 rfl 0 (.int .i64 0));(have k2:=h8.bC 3 rfl 0);replace h8:=Lh h8;clear h9 hop;try simp only[gA,gB]at k0 k2)|(go_at_call 43;refine(dU _ _).mono ?_;rintro e w7 ⟨rfl,h7⟩;obtain rfl:=h7.symm));rename_i K1 hK1;obtain⟨w8,hw8⟩:∃w8,w8=w9.setCell ⟨w.heap.size+1,0,none⟩ (.int .i64 0):=⟨_,rfl⟩;rw[<-hw8]at h8;try rw[<-hw8]
 obtain⟨fb,hfb⟩:∃fb,fb=w8.heap.size:=⟨_,rfl⟩;have ay0:=Lh hfb;clear k0 k1 k2 hw8 hS0 hc0 hfb;refine fP ?_;apply akF (fun W=>Hid (Sep w0 W (aF (w.heap.size+1+1) q p (VS.bare nb D.fl) ⟨none,[],fb,[]⟩::aI (w.heap.size+1) 0:: .box w.heap.size 24 #[pV (w.heap.size+1+1)]::R)))
 ·refine eU (S:=fun w'=>w'.cell? ⟨w.heap.size,0,none⟩=some (pV (w.heap.size+1+1))) 16 fZ ?_;intro wq hwq;(have hX:Hid (Sep w0 wq (aG q p false::aN p D.fl:: .box (w.heap.size+1+1) 106 #[.pointer none,.map none,.map none,iV 0,.bool false,.complex .f64 0 0,iV 0,.complex .f64 0 0]::aI (w.heap.size+1) 0:: .box w.heap.size 24 #[pV (w.heap.size+1+1)]::R)):=by rw[hwq];exact Lh (Sep.dE [0,1,2,3,4] h8.out.drew aQ bM));(have ay1:wq.heap.size=fb:=by rw[hwq,ay0.out];simp);(have hfin:Hid (∀W,Sep w0 W (jJ fb []::aG q p false::aN p D.fl:: .box (w.heap.size+1+1) 106 #[pV q,.map none,.map (some fb),iV 0,.bool false,.complex .f64 0 0,iV 0,.complex .f64 0 0]::aI (w.heap.size+1) 0:: .box w.heap.size 24 #[pV (w.heap.size+1+1)]::R)->Sep w0 W (aF (w.heap.size+1+1) q p (VS.bare nb D.fl) ⟨none,[],fb,[]⟩::aI (w.heap.size+1) 0:: .box w.heap.size 24 #[pV (w.heap.size+1+1)]::R)):=Lh fun W hW=>by(have h5:Sep w0 W (.emp::jJ fb []::aG q p false::aN p D.fl::l7 (w.heap.size+1+1) q (VS.bare nb D.fl) none (.map (some fb)) false::aI (w.heap.size+1) 0:: .box w.heap.size 24 #[pV (w.heap.size+1+1)]::R):=by unfold l7 VS.bare iH;simp only[QL];exact hW.wK);have h6:Sep w0 W (pK (w.heap.size+1+1) q p (VS.bare nb D.fl) ⟨none,[],fb,[]⟩++(aI (w.heap.size+1) 0:: .box w.heap.size 24 #[pV (w.heap.size+1+1)]::R)):=Sep.dE [4,2,3,0,1] h5 aQ (by simp[pK,fH]);exact h6.dG);clear hwq;have hc:=hcl.out _ [_,_,_,_] hX.out;have hmm:= @run_makeMap Tryz.prog;simp only[mK,nV,kW,Nat.reduceAdd];refine aA 0 hc ?_;refine aA 1 hc ?_;refine aA 2 hc ?_;refine aA 4 hc ?_;refine aA 5 hc ?_;refine aA 6 hc ?_;refine aA 7 hc ?_;refine aA 8 hc ?_;refine kP (i:=3) (j:=9) fZ rfl rfl (fun K hK=>?_) (fun K hK=>?_)
  focus
   go_simp
   have g1:=hX.out.vK
   obtain⟨wx1,hw1⟩:∃x,x=wq.alloc (.map #[] 0):=⟨_,rfl⟩
   rw[ay1]at g1
   try rw[ay1]
   have hsz1:wx1.heap.size=fb+1:=by rw[hw1];simp[ay1]
   rw[<-hw1]at g1 ⊢
   replace g1:Hid (Sep w0 wx1 (jJ fb []::aG q p false::aN p D.fl:: .box (w.heap.size+1+1) 106 #[.pointer none,.map none,.map none,iV 0,.bool false,.complex .f64 0 0,iV 0,.complex .f64 0 0]::aI (w.heap.size+1) 0:: .box w.heap.size 24 #[pV (w.heap.size+1+1)]::R)):=Lh g1
   have k1:=hcl.out _ [_,_,_,_,_] g1.out
   clear hw1
   try dsimp only
   refine hK _ _ (fun _=>k1) ?_
   clear hK K
   try simp only[Act.put,gD]
   refine bG 9 fun K hK=>?_
   have y2:=g1.out.bC 3 rfl 0
   have z2:=g1.out.bF 3 rfl 0
   have g2:=g1.out.bS 3 rfl 0 (pV q)
   try simp only[gA,gB,gC]at y2
   go_simp
   obtain⟨wx2,hw2⟩:∃x,x=wx1.setCell ⟨w.heap.size+1+1,0,none⟩ (pV q):=⟨_,rfl⟩
   have hsz2:wx2.heap.size=fb+1:=by rw[hw2];simp[hsz1]
   rw[<-hw2]at g2 ⊢
   replace g2:Hid (Sep w0 wx2 (jJ fb []::aG q p false::aN p D.fl:: .box (w.heap.size+1+1) 106 #[pV q,.map none,.map none,iV 0,.bool false,.complex .f64 0 0,iV 0,.complex .f64 0 0]::aI (w.heap.size+1) 0:: .box w.heap.size 24 #[pV (w.heap.size+1+1)]::R)):=Lh g2
   have k2:=hcl.out _ [_,_,_,_,_] g2.out
   clear hw2
   try dsimp only
   refine hK _ _ (fun _=>k2) ?_
   clear hK K
   try simp only[Act.put,gD]
   refine aA 10 k2 ?_
   refine aA 11 k2 ?_
   refine aA 12 k2 ?_
   refine aA 13 k2 ?_
   refine aA 14 k2 ?_
   refine bG 15 fun K hK=>?_
   have y3:=g2.out.bC 3 rfl 2
   have z3:=g2.out.bF 3 rfl 2
   have g3:=g2.out.bS 3 rfl 2 (.map (some fb))
   try simp only[gA,gB,gC]at y3
   go_simp
   obtain⟨wx3,hw3⟩:∃x,x=wx2.setCell ⟨w.heap.size+1+1,2,none⟩ (.map (some fb)):=⟨_,rfl⟩
   have akG:wx3.heap.size=fb+1:=by rw[hw3];simp[hsz2]
   rw[<-hw3]at g3 ⊢
   replace g3:Hid (Sep w0 wx3 (jJ fb []::aG q p false::aN p D.fl:: .box (w.heap.size+1+1) 106 #[pV q,.map none,.map (some fb),iV 0,.bool false,.complex .f64 0 0,iV 0,.complex .f64 0 0]::aI (w.heap.size+1) 0:: .box w.heap.size 24 #[pV (w.heap.size+1+1)]::R)):=Lh g3
   have k3:=hcl.out _ [_,_,_,_,_] g3.out
   clear hw3
   try dsimp only
   refine hK _ _ (fun _=>k3) ?_
   clear hK K
   try simp only[Act.put,gD]
   refine aR fZ ?_ _
   exact⟨rfl,Lh (hfin.out _ g3.out)⟩
  focus
   have y1:=hX.out.bC 2 rfl 0
   have z1:=hX.out.bF 2 rfl 0
   have g1:=hX.out.bS 2 rfl 0 (pV q)
   try simp only[gA,gB,gC]at y1
   go_simp
   obtain⟨wx1,hw1⟩:∃x,x=wq.setCell ⟨w.heap.size+1+1,0,none⟩ (pV q):=⟨_,rfl⟩
   have hsz1:wx1.heap.size=fb:=by rw[hw1];simp[ay1]
   rw[<-hw1]at g1 ⊢
   replace g1:Hid (Sep w0 wx1 (aG q p false::aN p D.fl:: .box (w.heap.size+1+1) 106 #[pV q,.map none,.map none,iV 0,.bool false,.complex .f64 0 0,iV 0,.complex .f64 0 0]::aI (w.heap.size+1) 0:: .box w.heap.size 24 #[pV (w.heap.size+1+1)]::R)):=Lh g1
   have k1:=hcl.out _ [_,_,_,_] g1.out
   clear hw1
   try dsimp only
   refine hK _ _ (fun _=>k1) ?_
   clear hK K
   try simp only[Act.put,gD]
   refine bG 3 fun K hK=>?_
   go_simp
   have g2:=g1.out.vK
   obtain⟨wx2,hw2⟩:∃x,x=wx1.alloc (.map #[] 0):=⟨_,rfl⟩
   rw[hsz1]at g2
   try rw[hsz1]
   have hsz2:wx2.heap.size=fb+1:=by rw[hw2];simp[hsz1]
   rw[<-hw2]at g2 ⊢
   replace g2:Hid (Sep w0 wx2 (jJ fb []::aG q p false::aN p D.fl:: .box (w.heap.size+1+1) 106 #[pV q,.map none,.map none,iV 0,.bool false,.complex .f64 0 0,iV 0,.complex .f64 0 0]::aI (w.heap.size+1) 0:: .box w.heap.size 24 #[pV (w.heap.size+1+1)]::R)):=Lh g2
   have k2:=hcl.out _ [_,_,_,_,_] g2.out
   clear hw2
   try dsimp only
   refine hK _ _ (fun _=>k2) ?_
   clear hK K
   try simp only[Act.put,gD]
   refine aA 10 k2 ?_
   refine aA 11 k2 ?_
   refine aA 12 k2 ?_
   refine aA 13 k2 ?_
   refine aA 14 k2 ?_
   refine bG 15 fun K hK=>?_
   have y3:=g2.out.bC 3 rfl 2
   have z3:=g2.out.bF 3 rfl 2
   have g3:=g2.out.bS 3 rfl 2 (.map (some fb))
   try simp only[gA,gB,gC]at y3
   go_simp
   obtain⟨wx3,hw3⟩:∃x,x=wx2.setCell ⟨w.heap.size+1+1,2,none⟩ (.map (some fb)):=⟨_,rfl⟩
   have akG:wx3.heap.size=fb+1:=by rw[hw3];simp[hsz2]
   rw[<-hw3]at g3 ⊢
   replace g3:Hid (Sep w0 wx3 (jJ fb []::aG q p false::aN p D.fl:: .box (w.heap.size+1+1) 106 #[pV q,.map none,.map (some fb),iV 0,.bool false,.complex .f64 0 0,iV 0,.complex .f64 0 0]::aI (w.heap.size+1) 0:: .box w.heap.size 24 #[pV (w.heap.size+1+1)]::R)):=Lh g3
   have k3:=hcl.out _ [_,_,_,_,_] g3.out
   clear hw3
   try dsimp only
   refine hK _ _ (fun _=>k3) ?_
   clear hK K
   try simp only[Act.put,gD]
   refine aR fZ ?_ _
   exact⟨rfl,Lh (hfin.out _ g3.out)⟩
 intro W hW0;simp only[jT];exact hK1 _ _ (akQ hM'.out hW0.out)
end
end Go.Proofs.YteihmbaimbogaaaGreat
namespace Go.Proofs.YteihmbaimbogaaaGreat
open Go.RowKit Go.Shelf
attribute [local go_sem] Oper.semAt_some
def DK.acJ (D:DK):DK:=⟨D.fast,D.fast,[],false, -1⟩
end Go.Proofs.YteihmbaimbogaaaGreat
namespace Go.Proofs.YteihmbaimbogaaaGreat
open Go.RowKit
theorem auX {n:Nat} (h:n<4294967296) (b:List UInt8) (i:Nat) (hb:∀j<4,b.getD (i+j) 0=UInt8.ofNat (n/2 ^ (8*j))):xD b i 4=n:=by rw[wE,wE,wE,wE];have e0:xD b i 0=0:=rfl;rw[e0,hb 0 aQ,hb 1 aQ,hb 2 aQ,hb 3 aQ];simp only[UInt8.toNat_ofNat'];omega
theorem auY :apU (eQ [])=some []:=by
 obtain⟨L,hL⟩:∃L,L=o8 [] 0:=⟨_,rfl⟩;have hlen:L.length=512:=by rw[hL];exact AB [] 0 aQ
 have h16:L.take 16=LW:=by rw[hL];decide+kernel
 have h20:xD L 20 2=0:=by rw[hL];decide+kernel
 have hcr:=anB (L.drop 20);obtain⟨n,hn⟩:∃n,n=(IB (L.drop 20)).toNat:=⟨_,rfl⟩;have hn4:n<4294967296:=by rw[hn];omega
 have e:eQ []=dQ L 16 (leB n 4):=by rw[hn,hL];rfl
 have hl4:(leB n 4).length=4:=by simp[leB]
 have hlt:16+(leB n 4).length<=L.length:=by omega
 have htk:(dQ L 16 (leB n 4)).take 16=LW:=by
  rw[<-h16];apply DN;intro k;rw[vI,vI];split
  ·rw[lC hlt,if_neg aD]
  rfl
 have hdr:(dQ L 16 (leB n 4)).drop 20=L.drop 20:=by apply DN;intro k;rw[zD,zD,lC hlt,if_neg aD]
 have hg4:xD (dQ L 16 (leB n 4)) 16 4=n:=by(refine auX hn4 _ _ fun j hj=>?_);rw[gH,lC hlt,if_pos ⟨by omega,by omega⟩,show 16+j-16=j by omega];unfold leB;rw[lQ,adX hj];rfl
 have hg2:xD (dQ L 16 (leB n 4)) 20 2=0:=by rw[<-h20];unfold xD;congr 1;(refine BA fun j hj=>?_);rw[gH,gH,lC hlt,if_neg aD]
 unfold apU;rw[e,htk,hdr,hg4,hg2,if_pos ⟨rfl,by rw[hn];omega⟩,if_neg aQ];rfl
def DK.sync (D:DK):Prop:=D.now=lI D.fast D.back
theorem DK.ZX {D:DK} (h:D.sync):D.step.sync:=by unfold DK.sync at*;rw[DK.EE,DK.NJ,DK.AA];exact h
theorem DK.auZ {D:DK} (h:D.sync) (x:uA):(D.act x).sync:=by
 cases x with
 |none=>refine DK.ZX ?_;unfold DK.sync at*;simp only;rw[h];rfl
 |some x=>refine DK.ZX ?_;unfold DK.sync at*;simp only;rw[h];unfold lI;rw[QZ];rfl
theorem ZY :∀(l:List uA) {D:DK},D.sync->(lF l D).1.sync
 |[],_,h=>h
 |x::l,D,h=>by
  rw[lF];split
  ·exact h
  exact ZY l (DK.auZ h x)
theorem O5 {S:VS} (h:S.D.sync):S.bL.1.sync:=by
 unfold VS.bL;split
 ·exact h
 exact ZY _ h
theorem ZZ {D:DK} (h:D.sync) (hb:D.back=[]):D.fast=D.now:=by unfold DK.sync at h;rw[hb]at h;exact h.symm
theorem agR {D:DK} (h:D.sync) (hb:D.back=[]):D.acJ=⟨D.now,D.now,[],false, -1⟩/\D.acJ.fl=⟨D.now,D.now,[],false, -1⟩:=by
 have e:D.acJ=⟨D.now,D.now,[],false, -1⟩:=by unfold DK.acJ;rw[ZZ h hb]
 refine⟨e,?_⟩;rw[e];unfold DK.fl DK.step lI;simp only[List.foldl_nil];rw[if_neg aQ]
theorem akR {ps:List (Nat×List UInt8)} {c:fO} (h:0<c.length):bk (wQ (bT ps) c) 0=eQ []:=by
 unfold bT;rw[xW];show bk (wQ (gU ps++[none,some (0,eQ []),none]) _) 0=_
 rw[xW];show bk ((wQ (gU ps) _).set 0 (eQ [])) 0=_
 rw[wR _ _ _ _ (by rw[EF,uR,EF];exact h),if_pos rfl]
theorem LY {S:VS} (h0:0<S.D.now.length) (h:S.bL.2=true) (hf:bk S.D.now 0=eQ []):bk S.bL.1.now 0=eQ []:=by
 unfold VS.bL at h ⊢;by_cases e:jR S=[]
 ·rw[if_pos e];exact hf
 rw[if_neg e]at h ⊢;have h1:lF (bT (jR S)) S.D=((lF (bT (jR S)) S.D).1,true):=by rw[<-h]
 rw[KO h1,akR h0]
theorem agS {c:fO} {g:LT} {N:Nat} (h1:∀n<N,(aH c n).kind=(g n).kind/\(aH c n).size=(g n).size) (h2:∀n<N,(g n).fair):∀k,k<=N->(PY c k:Int)=uD (fun n=>((g n).bJ.length:Int)) k
 |0,_=>rfl
 |k+1,hk=>by
  have ih:=agS h1 h2 k aD;obtain⟨e1,e2⟩:=h1 k aD;unfold PY;rw[kZ,<-ih,e1,e2];by_cases hkd:(g k).kind=1
  ·rw[if_pos hkd];unfold LI.size;rw[if_pos hkd];omega
  rw[if_neg hkd,(h2 k aD).bJ hkd];simp
theorem agT {S:VS} {g:LT} (h:dK S g) {D:DK} (hc:D.now.drop 96=S.cur):dK (VS.O4 S.nb S.names D S.names) g:=by
 have hh:∀n<S.names,(aH S.cur n).kind=(g n).kind/\(aH S.cur n).size=(g n).size:=fun n hn=>by have:=h.head n hn;rw[this];exact⟨rfl,rfl⟩
 refine h.same rfl rfl hc ?_ ?_ ?_
 ·rw[h.wB];(show NK (D.now.drop 96) S.names=_);rw[hc];unfold NK;exact BP fun i hi=>by rw[(hh i hi).1,(hh i hi).2]
 ·rw[h.wI];(show NL (D.now.drop 96) S.names=_);rw[hc];unfold NL;exact BP fun i hi=>by rw[(hh i hi).1]
 rw[h.nodes];show((PY (D.now.drop 96) S.names:Nat):Int)=_
 rw[hc];exact agS hh h.fair S.names (jL _)
theorem au0 {S:VS} {ns:List TN} {fs:List FT} {g:LT} {dn:Key->Nat} {φ:Int->Nat} (h:Vt S ns fs g dn φ) {D:DK} (hc:D.now.drop 96=S.cur):Vt (VS.O4 S.nb S.names D S.names) ns fs g dn φ:=
 ⟨⟨agT h.iJ.ph hc,h.iJ.ent,h.iJ.root,by have h1:=(agT h.iJ.ph hc).nodes;have h2:=h.iJ.ph.nodes;have h3:=h.iJ.few;rw[h1];rw[h2]at h3;exact h3,rfl,rfl⟩,h.rep,rfl⟩
theorem au1 {S:VS} {ns:List TN} {fs:List FT} {nb names:Nat} (hL:ab8 S ns fs nb names) {D:DK} (hc:D.now.drop 96=S.D.now.drop 96) (ho:D.off=false) (hl:D.left= -1):kH (VS.O4 nb names D names) ns fs nb names:=by obtain⟨g,dn,φ,hV⟩:=hL.vt;have h1:=au0 hV (D:=D) hc;have e1:S.base.nb=nb:=hL.nbe;have e2:S.base.names=names:=hL.nm;rw[e1,e2]at h1;exact⟨⟨rfl,rfl,g,dn,φ,h1⟩,ho,hl⟩
theorem aDZ {S:VS} {ns:List TN} {fs:List FT} {nb names:Nat} (hL:ab8 S ns fs nb names) {D:DK} (hD:D.ok nb) (hc:D.now.drop 96=S.D.now.drop 96) (ho:D.off=false) (hb:D.back=[])
  (hm:(bk D.now 96).take 16=vR) (hn:r2 (bk D.now 96) 16=names):ZV nb names D:=by
 obtain⟨g,dn,φ,hV⟩:=hL.vt;have e1:S.base.nb=nb:=hL.nbe;have e2:S.base.names=names:=hL.nm;have hp:=hV.iJ.ph;have hvf:=hp.use.vf;have aeY:S.base.cur=D.now.drop 96:=hc.symm;have hnm:=hvf.names;have hrm:=hvf.room;unfold VS.data at hrm;rw[e1,e2]at hrm;rw[e2]at hnm;have hh:∀n<names,aH (D.now.drop 96) n=(g n).vi (aH (D.now.drop 96) n).aB:=fun n hn=>by have:=hp.head n (by rw[e2];exact hn);rw[aeY]at this;exact this
 refine⟨hD,ho,hb,hnm,by omega,hm,hn,fun n hn=>?_,fun n hn=>?_,fun n hn=>?_⟩
 ·have:=hp.few (n:=n) (by rw[e2];exact hn);rw[aeY]at this;exact this
 ·rw[hh n hn];have:=LI.size_le (hp.fair n (by rw[e2];exact hn));(show(g n).size<=65535);omega
 rw[hh n hn];have:=(hp.fair n (by rw[e2];exact hn)).kind;show(g n).kind<=255
 omega
theorem au2 {n names:Nat} (h0:98+(names+7)/8<n) (h1:n<=4096) (h2:2<=names) (h3:names<=1024):
  (VS.new n names).D.back=[]/\(VS.new n names).D.sync/\bk (VS.new n names).D.now 0=eQ []/\(bk (VS.new n names).D.now 96).take 16=vR/\r2 (bk (VS.new n names).D.now 96) 16=names:=by
 have hp:=ZL h0 h1 h2 h3;have hD:(VS.laid n names).D.ok (VS.laid n names).nb:=QK (n:=n) aD h1;have J9:96<(VS.laid n names).nb:=by show 96<n;omega
 have qJ:DX ((VS.laid n names).D.now.drop 96) (VS.laid n names):=(((DX.refl (VS.raw n names)).put _ _).put _ _).keep _ _;have hc:=(LU n names).1;have e:=yH hD J9 hp.use.cur qJ (show 0+1+1+1<=40 by decide) hc;have e2:(VS.new n names).D.now.drop 96=(VS.laid n names).cur:=e;have e3:bk (VS.new n names).D.now 96=lV names:=by(have:bk ((VS.new n names).D.now.drop 96) 0=bk (VS.laid n names).cur 0:=by rw[e2]);rw[vM]at this;rw[this];unfold VS.laid VS.keep vE;(show bk (List.set _ 2 _) 0=_);rw[dN _ _ aQ];(show bk (List.set _ 1 _) 0=_);rw[dN _ _ aQ];(show bk (List.set _ 0 (lV names)) 0=_);have hraw:=akA (n:=n) (names:=names) (fb:=0) h0 h1;have hlen:(VS.raw n names).cur.length=n-96:=hraw.cur.len;rw[wR _ _ _ _ (by rw[hlen];omega),if_pos rfl]
 refine⟨EG hc rfl,O5 (show(DK.made n).sync from rfl),LY (show 0<(VS.laid n names).D.now.length by have:=hD.now.len;show 0<(DK.made n).now.length;have e:(DK.made n).now.length=n:=this;omega) hc ?_,?_,?_⟩
 ·(show bk ((List.replicate n cZ).set 0 (eQ [])) 0=eQ []);rw[wR _ _ _ _ (by rw[DJ];omega),if_pos rfl]
 ·rw[e3];apply DN;intro k;unfold lV;rw[vI];split
  ·rw[lC (by rw[fK,eT];rw[pJ];decide;rw[eT];decide),if_neg aD,lC (by rw[eT];decide),if_pos ⟨by omega,by show k<0+16;omega⟩];rfl
  rw[D7 (by show 16<=k;omega)]
 rw[e3];unfold r2 lV;have hlt:16+(w2 names).length<=(dQ cZ 0 vR).length:=by rw[fK,eT];rw[pJ];decide;rw[eT];decide
 rw[gH,gH,lC hlt,lC hlt,if_pos ⟨by omega,by rw[pJ];omega⟩,if_pos ⟨by omega,by rw[pJ];omega⟩];show(UInt8.ofNat names).toNat+256*(UInt8.ofNat (names/256)).toNat=names
 rw[UInt8.toNat_ofNat',UInt8.toNat_ofNat'];omega
end Go.Proofs.YteihmbaimbogaaaGreat
namespace Go.Proofs.YteihmbaimbogaaaGreat
open Go.RowKit
theorem add_zero' (a:Addr):a.add 0=a:=by simp[Addr.add]
end Go.Proofs.YteihmbaimbogaaaGreat
namespace Go.Proofs.YteihmbaimbogaaaGreat
open Go.RowKit Go.Shelf
theorem aaA {α:Type} (f:α->List Value) (m:Nat) (hf:∀x,(f x).length=m) (xs:List α):(xs.flatMap f).length=xs.length*m:=by exact Z46
theorem agU {α:Type} (f:α->List Value) (m:Nat) (hf:∀x,(f x).length=m) {xs:List α} {i:Nat} {x:α} (h:xs[i]? =some x) (j:Nat) (hj:j<m):(xs.flatMap f)[i*m+j]? =(f x)[j]? :=by exact Z22
theorem akS {w:World} {ad:Addr} {u:Value} (h:w.cell? ad=some u):ad.spot=none:=by exact Z39
theorem Rd.place {w:World} {sz n:Nat} {v:Value} {cs:List Value} (h:Rd w sz v n cs) (h0:0<n) (hsz:0<sz):
  ∃g o c,v= .slice (some ⟨g,o,none⟩) n c/\n<=c/\c<=maxLen/\g<w.heap.size/\∀w',Below w.heap.size w w'->∀j,j<n*sz->w'.cell? ⟨g,o+j,none⟩=cs[j]? :=by
 obtain⟨hl,A,c,rfl,h1,h2,h3⟩:=h;obtain⟨ad,rfl,hb,hc⟩:=h3 h0;have hpos:0<cs.length:=by rw[hl];exact Q6 h0 hsz
 have hsp:ad.spot=none:=by have h4:=hc 0 _ (gE hpos);rw[add_zero']at h4;exact akS h4
 exact Z26
def aPQ (cs:List Value) (bs:List UInt8):Prop:=(∀u∈cs,u.oneCell'=true)/\cs=bs.map mR
def qM (w:World) (v:Value) (n:Nat) (bs:List UInt8):Prop:=∃cs,Rd w 1 v n cs/\aPQ cs bs
theorem qM.below {w w':World} {v:Value} {n:Nat} {bs:List UInt8} (h:qM w v n bs) (hb:Below w.heap.size w w'):qM w' v n bs:=by obtain⟨cs,h1,h2⟩:=h;exact⟨cs,h1.below hb,h2⟩
theorem qM.shape {w:World} {v:Value} {n:Nat} {bs:List UInt8} (h:qM w v n bs):∃A c,v= .slice A n c/\n<=maxLen:=by obtain⟨cs,h1,_⟩:=h;exact h1.shape
structure TF where
 mode:Int
 bs:List UInt8
deriving DecidableEq
def TF.size (f:TF):Nat:=f.bs.length
def KA (n:TN):List Value:=[aC n.path,.int .i64 n.file,.int .i64 n.mode]
def aV (ns:List TN):List Value:=ns.flatMap KA
def tfC (x:TF×Value):List Value:=[.int .i64 x.1.mode,x.2]
def dM (fs:List TF) (vs:List Value):List Value:=(fs.zip vs).flatMap tfC
theorem yL (ns:List TN):(aV ns).length=ns.length*3:=by rw[aV,aaA KA 3 (fun _=>rfl)]
theorem eP {ns:List TN} {i:Nat} {n:TN} (h:ns[i]? =some n) (j:Nat) (hj:j<3):(aV ns)[i*3+j]? =(KA n)[j]? :=
 agU KA 3 (fun _=>rfl) h j hj
theorem EX {fs:List TF} {vs:List Value} (h:vs.length=fs.length):(dM fs vs).length=fs.length*2:=by rw[dM,aaA tfC 2 (fun _=>rfl),List.length_zip,h,Nat.min_self]
theorem jP {fs:List TF} {vs:List Value} {i:Nat} {f:TF} {u:Value} (h:fs[i]? =some f) (hu:vs[i]? =some u) (j:Nat) (hj:j<2):(dM fs vs)[i*2+j]? =(tfC (f,u))[j]? :=
 agU tfC 2 (fun _=>rfl) (by rw[arZ];exact⟨h,hu⟩) j hj
structure bY (w:World) (nv fv:Value) (ns:List TN) (fs:List TF) (vs:List Value):Prop where
 len:vs.length=fs.length
 nodes:Rd w 3 nv ns.length (aV ns)
 files:Rd w 2 fv fs.length (dM fs vs)
 data:∀(k:Nat) u f,vs[k]? =some u->fs[k]? =some f->qM w u f.size f.bs
theorem bY.below {w w':World} {nv fv:Value} {ns:List TN} {fs:List TF} {vs:List Value} (h:bY w nv fv ns fs vs) (hb:Below w.heap.size w w'):bY w' nv fv ns fs vs:=
 ⟨h.len,h.nodes.below hb,h.files.below hb,fun k u e hu he=>(h.data k u e hu he).below hb⟩
structure gY (ns:List TN) (fs:List TF):Prop where
 few:ns.length<=300
 oQ:fs.length<=300
 short:∀n∈ns,n.path.length<=40000
 size:∀f∈fs,f.size<=1048576
def sG (p:List UInt8):Nat:=(max 0 (Lib.lastIndexByte ⟨p.toArray⟩ 47)).toNat
def eY (p:List UInt8):List UInt8:=if aU p=true then p.take (sG p)else []
theorem acK (p:List UInt8) (n:Nat):(⟨p.toArray⟩:ByteArray).extract 0 n=⟨(p.take n).toArray⟩:=by
 have e:((⟨p.toArray⟩:ByteArray).extract 0 n).data.toList=p.take n:=by rw[Lib.extract_data];simp
 generalize(⟨p.toArray⟩:ByteArray).extract 0 n=t at e;obtain⟨⟨l⟩⟩:=t;simp at e;rw[e]
def acL (f:TF):Bool:=decide (8192<f.size)
def l9 (ns:List TN) (fs:List TF):Bool:=(decide (256<ns.length)||decide (256<fs.length))||fs.any acL
end Go.Proofs.YteihmbaimbogaaaGreat
namespace Go.Proofs.YteihmbaimbogaaaGreat
open Go.RowKit
theorem oU (p:List UInt8):Op.bytesLess p p=false:=by
 induction p with
 |nil=>rfl
 |cons a p ih=>simp[Op.bytesLess,ih]
theorem agV :∀ {p q:List UInt8},Op.bytesLess p q=true->Op.bytesLess q p=false
 |[],[],h=>by simp[Op.bytesLess]at h
 |[],_::_,_=>rfl
 |_::_,[],h=>by simp[Op.bytesLess]at h
 |a::p,b::q,h=>by
  unfold Op.bytesLess at h ⊢;rw[PR,tJ,rJ,uP]at h;rcases h with h|⟨rfl,h⟩
  ·(have h1:¬b<a:=fun h2=>by have:=UInt8.lt_iff_toNat_lt.1 h;have:=UInt8.lt_iff_toNat_lt.1 h2;omega);(have h2:b≠a:=fun e=>by subst e;exact absurd h bM);simp[h1,h2]
  simp[agV h]
def fQ (m:Int):Bool:=decide (0<=m)&&decide (m<=511)
def EY (pre:List TN) (p:List UInt8):Int:=pre.foldl (fun k m=>if m.path=p then(if m.file= -1 then 1 else 2)else k) (if p=[]then 1 else 0)
theorem UY (pre:List TN) (n:TN) (p:List UInt8):EY (pre++[n]) p=if n.path=p then(if n.file= -1 then 1 else 2)else EY pre p:=by unfold EY;rw[QZ];rfl
def qZ (ns:List TN):Nat->List UInt8
 |0=>[]
 |i+1=>((ns[i]?).map (·.path)).getD []
def akT (p q:List UInt8):Bool:=Op.bytesLess p q||p==q
def yY (pre:List TN) (last:List UInt8) (k:Nat) (n:TN):Bool:=
 ((((aU n.path&& !akT n.path last)&&decide (EY pre (eY n.path)=1))&&decide (-1<=n.file))&&decide (n.file<=(k:Int)))&&(if n.file= -1 then fQ n.mode else decide (n.mode=0))
def mG (k:Nat) (n:TN):Nat:=if n.file=(k:Int)then k+1 else k
def runK (ns:List TN):Nat->Option Nat
 |0=>some 0
 |i+1=>match runK ns i with
  |none=>none
  |some k=>match ns[i]? with
   |none=>some k
   |some n=>if yY (ns.take i) (qZ ns i) k n=true then some (mG k n)else none
def NN (ns:List TN) (fs:List TF):Int:=if l9 ns fs=true then 31 else if runK ns ns.length=some fs.length/\fs.all (fun f=>fQ f.mode)=true then 0 else 30
theorem GR {ns:List TN} {i k:Nat} {n:TN} (h:runK ns i=some k) (hn:ns[i]? =some n):runK ns (i+1)=if yY (ns.take i) (qZ ns i) k n=true then some (mG k n)else none:=by
 show(match runK ns i with
  |none=>none
  |some k=>match ns[i]? with
   |none=>some k
   |some n=>if yY (ns.take i) (qZ ns i) k n=true then some (mG k n)else none)=_
 rw[h];simp only;rw[hn]
theorem apZ {ns:List TN} {i:Nat} (h:runK ns i=none):∀j,runK ns (i+j)=none:=by
 intro j
 induction j with
 |zero=>exact h
 |succ j ih=>
  show(match runK ns (i+j)with
   |none=>none
   |some k=>match ns[i+j]? with
    |none=>some k
    |some n=>if yY (ns.take (i+j)) (qZ ns (i+j)) k n=true then some (mG k n)else none)=none
  rw[ih]
theorem ay2 {ns:List TN} {fs:List TF} (hb:l9 ns fs=false) (h:runK ns ns.length=some fs.length) (h2:fs.all (fun f=>fQ f.mode)=true):NN ns fs=0:=by unfold NN;rw[hb,if_neg aQ,if_pos ⟨h,h2⟩]
theorem akU :∀ {p q:List UInt8},Op.bytesLess p q=false->p≠q->Op.bytesLess q p=true
 |[],[],_,h=>absurd rfl h
 |[],_::_,h,_=>by simp[Op.bytesLess]at h
 |_::_,[],_,_=>by simp[Op.bytesLess]
 |a::p,b::q,h,hne=>by
  unfold Op.bytesLess at h ⊢;rw[MQ,Bool.and_eq_false_iff,QS]at h;obtain⟨h1,h2⟩:=h;by_cases e:a=b
  ·subst e;have h3:Op.bytesLess p q=false:=by
    rcases h2 with h2|h2
    ·simp at h2
    exact h2
   have:=akU h3 (fun e=>hne (by rw[e]));simp[this]
  (have h4:b<a:=by rw[UInt8.lt_iff_toNat_lt]at h1 ⊢;(have:a.toNat≠b.toNat:=fun h=>e (UInt8.toNat_inj.1 h));omega);simp[h4]
theorem ap0 {p q:List UInt8} (h:akT p q=false):Op.bytesLess q p=true:=by unfold akT at h;rw[MQ]at h;exact akU h.1 (by simpa using h.2)
theorem xE :∀ {p q r:List UInt8},Op.bytesLess p q=true->Op.bytesLess q r=true->Op.bytesLess p r=true
 |_,_,[],_,h=>by cases ‹List UInt8› <;>simp[Op.bytesLess]at h
 |[],_,_::_,_,_=>by simp[Op.bytesLess]
 |_::_,[],_::_,h,_=>by simp[Op.bytesLess]at h
 |a::p,b::q,c::r,h1,h2=>by
  unfold Op.bytesLess at h1 h2 ⊢;rw[PR,tJ,rJ,uP]at h1 h2 ⊢;rcases h1 with h1|⟨rfl,h1⟩
  ·rcases h2 with h2|⟨rfl,h2⟩
   ·exact Or.inl (by rw[UInt8.lt_iff_toNat_lt]at*;omega)
   exact Or.inl h1
  rcases h2 with h2|⟨rfl,h2⟩
  ·exact Or.inl h2
  exact Or.inr ⟨rfl,xE h1 h2⟩
structure fT (ns:List TN) (fs:List TF):Prop where
 few:ns.length<=256
 oQ:fs.length<=256
 size:∀f∈fs,f.size<=8192
 aI9:∀f∈fs,fQ f.mode=true
 run:runK ns ns.length=some fs.length
theorem agW {ns:List TN} {fs:List TF} (h:fT ns fs):NN ns fs=0:=by refine ay2 ?_ h.run (List.all_eq_true.2 h.aI9);unfold l9;rw[MQ,MQ,QS,QS,aeA];refine⟨⟨by have:=h.few;omega,by have:=h.oQ;omega⟩,fun f hf=>?_⟩;have:=h.size f hf;unfold acL;rw[uP];omega
theorem agX (k:Nat) (n:TN):k<=mG k n:=by unfold mG;split<;>omega
theorem au3 {ns:List TN}:∀ {j m:Nat},runK ns j=some m->∀i,i<j->∀n,ns[i]? =some n->∃k,runK ns i=some k/\yY (ns.take i) (qZ ns i) k n=true/\mG k n<=m:=by
 intro j
 induction j with
 |zero=>intro m _ i hi;omega
 |succ j ih=>
  intro m h i hi n hn;cases hr:runK ns j with
  |none=>rw[apZ hr 1]at h;cases h
  |some k=>
   cases hj:ns[j]? with
   |none=>
    have hlt:=(gF.1 hn).1;have:ns.length<=j:=List.getElem?_eq_none_iff.1 hj;have h2:runK ns (j+1)=some k:=by
     show(match runK ns j with
      |none=>none
      |some k=>match ns[j]? with
       |none=>some k
       |some n=>if yY (ns.take j) (qZ ns j) k n=true then some (mG k n)else none)=_
     rw[hr,hj]
    rw[h2]at h;cases h;exact ih hr i aD n hn
   |some nj=>
    rw[GR hr hj]at h;split at h
    ·rename_i ho;cases h;by_cases hij:i=j
     ·subst hij;rw[hj]at hn;cases hn;exact⟨k,hr,ho,jL _⟩
     obtain⟨k2,h1,h2,h3⟩:=ih hr i aD n hn;exact⟨k2,h1,h2,by have:=agX k nj;omega⟩
    cases h
theorem LZ {pre:List TN} {last:List UInt8} {k:Nat} {n:TN} (h:yY pre last k n=true):
  aU n.path=true/\Op.bytesLess last n.path=true/\EY pre (eY n.path)=1/\ -1<=n.file/\n.file<=(k:Int)/\(n.file= -1->fQ n.mode=true)/\(n.file≠ -1->n.mode=0):=by
 unfold yY at h;simp only[tJ,uP,aa4]at h;obtain⟨⟨⟨⟨⟨h1,h2⟩,h3⟩,h4⟩,h5⟩,h6⟩:=h;refine⟨h1,ap0 h2,h3,h4,h5,fun e=>?_,fun e=>?_⟩
 ·rw[if_pos e]at h6;exact h6
 rw[if_neg e]at h6;simpa using h6
theorem fT.at_ {ns:List TN} {fs:List TF} (h:fT ns fs) {i:Nat} {n:TN} (hn:ns[i]? =some n):
  aU n.path=true/\Op.bytesLess (qZ ns i) n.path=true/\EY (ns.take i) (eY n.path)=1/\ -1<=n.file/\n.file<(fs.length:Int)/\(n.file= -1->fQ n.mode=true)/\(n.file≠ -1->n.mode=0):=by
 obtain⟨k,h1,h2,h3⟩:=au3 h.run i (gF.1 hn).1 n hn;obtain⟨a,b,c,d,e,f,g⟩:=LZ h2;refine⟨a,b,c,d,?_,f,g⟩;unfold mG at h3;split at h3<;>omega
theorem fT.mem {ns:List TN} {fs:List TF} (h:fT ns fs) {n:TN} (hn:n∈ns):
  aU n.path=true/\ -1<=n.file/\n.file<(fs.length:Int)/\(n.file= -1->fQ n.mode=true)/\(n.file≠ -1->n.mode=0):=by
 obtain⟨i,hi⟩:=List.mem_iff_getElem?.1 hn;obtain⟨a,b,c,d,e,f,g⟩:=h.at_ hi;exact⟨a,d,e,f,g⟩
theorem fT.up {ns:List TN} {fs:List TF} (h:fT ns fs):ns.Pairwise fun a b=>Op.bytesLess a.path b.path=true:=by
 rw[IK];intro i j hi hj hij;obtain⟨d,rfl⟩:∃d,j=i+1+d:=⟨j-i-1,by omega⟩;clear hij
 induction d with
 |zero=>have:=(h.at_ (gE hj)).2.1;(have e:qZ ns (i+1)=ns[i].path:=by(show((ns[i]?).map (·.path)).getD []=_);rw[gE hi];rfl);change Op.bytesLess (qZ ns (i+1)) _=true at this;rw[e]at this;exact this
 |succ d ih=>have h1:=ih aD;have h2:=(h.at_ (gE hj)).2.1;(have e:qZ ns (i+1+(d+1))=(ns[i+1+d]'aD).path:=by(show((ns[i+1+d]?).map (·.path)).getD []=_);rw[gE aD];rfl);rw[e]at h2;exact xE h1 h2
theorem fT.ne {ns:List TN} {fs:List TF} (h:fT ns fs):ns.Pairwise fun a b=>a.path≠b.path:=
 h.up.imp fun {a b} hl e=>by rw[e,oU]at hl;cases hl
def mD (ns:List TN) (p:List UInt8):Nat:=ns.countP fun n=>decide (eY n.path=p)
theorem agY {l:List UInt8} (h:l.length<1):j5 l=false:=by
 have:¬0<l.length:=by omega
 unfold j5;simp only[this,decide_false,Q4]
theorem akV {l:List UInt8} (h:14<l.length):j5 l=false:=by
 have:¬l.length<=14:=by omega
 unfold j5;simp only[this,decide_false,Bool.and_false,Q4]
theorem akW {l:List UInt8} (h:dots l=true):j5 l=false:=by unfold j5;simp only[h,Bool.not_true,Bool.and_false,Q4]
theorem ap1 {l:List UInt8} (h0:1<=l.length) (h1:l.length<=14) (hd:dots l=false):j5 l=l.all fun c=>nD c.toNat:=by have h0':0<l.length:=h0;unfold j5;simp only[h0',h1,hd,decide_true,Bool.not_false,Bool.and_true,Bool.true_and]
theorem ay3 {l:List UInt8} (h:dots l=false):(l==[46])=false/\(l==[46,46])=false:=by unfold dots at h;exact MQ.1 h
theorem au4 {D:List UInt8} {q:UInt8->Bool} {i:Nat} (hi:i<D.length) (h:(D.take i).all q=true) (hq:q D[i]=true):(D.take (i+1)).all q=true:=by rw[BC,gE hi,List.all_append,h];simp[hq]
theorem ay4 {D:List UInt8} {q:UInt8->Bool} {i:Nat} (hi:i<D.length) (hq:q D[i]=false):D.all q=false:=by
 cases h:D.all q with
 |false=>rfl
 |true=>rw[List.all_eq_true.1 h _ (tK hi)]at hq;cases hq
theorem akX (x:Int):x=46\/x=45\/(x<48/\x≠46/\x≠45)\/(48<=x/\x<=57)\/x=95\/(57<x/\x<97/\x≠95)\/(97<=x/\x<=122)\/122<x:=by omega
theorem akY {x:Nat} (h:(97<=(x:Int)/\(x:Int)<=122)\/(48<=(x:Int)/\(x:Int)<=57)\/(x:Int)=46\/(x:Int)=95\/(x:Int)=45):nD x=true:=by unfold nD;simp only[PR,tJ,uP,rJ];omega
theorem ap2 {x:Nat} (h:¬((97<=(x:Int)/\(x:Int)<=122)\/(48<=(x:Int)/\(x:Int)<=57)\/(x:Int)=46\/(x:Int)=95\/(x:Int)=45)):nD x=false:=by
 cases e:nD x with
 |false=>rfl
 |true=>unfold nD at e;simp only[PR,tJ,uP,rJ]at e;omega
theorem Z33 {P:Prop} (h:P:=by go_enter Tryz.func148,Tryz.ntmps148;go_wp2_with fail;go_ret;exact⟨rfl,rfl⟩):P:=h
theorem agZ (s:ByteArray) (w:World) (hs:s.size<=4611686018427387904):
  Calls Tryz.prog 148 #[.string s] w fun e w'=>e= .returned (.bool (j5 s.data.toList))/\w'=w:=by
 have hsz:s.size=s.data.toList.length:=Lib.size_eq s;have htl:s.toList=s.data.toList:=Lib.toList_data s;by_cases h0:s.size<1
 case pos=>(have b1:(s.size:Int)<1:=by omega);have hr:=agY (hsz▸h0);rw[hr];clear hsz htl;exact Z33
 by_cases h1:14<s.size
 case pos=>(have b1:¬(s.size:Int)<1:=by omega);(have b2:(14:Int)<(s.size:Int):=by omega);have hr:=akV (hsz▸h1);rw[hr];clear hsz htl;exact Z33
 have b1:¬(s.size:Int)<1:=by omega
 have b2:¬(14:Int)<(s.size:Int):=by omega
 by_cases hd:dots s.data.toList=true
 case pos=>
  have hr:=akW hd;rw[hr];unfold dots at hd;rw[<-htl,PR]at hd;clear hsz htl;have hd:(s.toList==[46])=true\/((s.toList==[46])=false/\(s.toList==[46,46])=true):=by
   cases h:s.toList==[46]with
   |true=>exact .inl rfl
   |false=>rw[h]at hd;exact .inr ⟨rfl,by simpa using hd⟩
  rcases hd with hd|⟨hd,hd3⟩
  ·exact Z33
  exact Z33
 have hd':dots s.data.toList=false:=by simpa using hd
 obtain⟨hd1,hd2⟩:=ay3 hd';have hr:=ap1 aD aD hd';rw[<-htl]at hd1 hd2;rw[hr];obtain⟨R,hR⟩:∃R,R=s.data.toList.all fun c=>nD c.toNat:=⟨_,rfl⟩
 rw[<-hR];have hR':=Lh hR;have hsz':=Lh hsz;clear hsz htl hd hr hd' hR;go_enter Tryz.func148,Tryz.ntmps148;go_wp2_with fail;go_loopg[3] s.size (fun g ii wr=>∃i:Nat,i<=s.size/\Hid (g=s.size-i)/\ii=iV i/\wr=w/\Hid (((s.data.toList.take i).all fun c=>nD c.toNat)=true))
 case atStart=>exact⟨0,by omega,rfl,rfl,rfl,rfl⟩
 obtain⟨i,hi,hm,rfl,rfl,hal⟩:=hrel;by_cases hlt:i<s.size
 case pos=>
  (have c1:(0:Int)<=(i:Int):=by omega);(have c2:(i:Int)<(s.size:Int):=by omega);have hil:=Lh (hsz'.out▸hlt);(have hnext:Hid (nD s[i].toNat=true->((s.data.toList.take (i+1)).all fun c=>nD c.toNat)=true):=fun h=>au4 (D:=s.data.toList) hil.out hal.out h);(have hbad:Hid (nD s[i].toNat=false->R=false):=fun h=>hR'.out.trans (ay4 (D:=s.data.toList) hil.out h));clear hal;(rcases akX (s[i].toNat:Int)with h|h|h|h|h|h|h|h);all_goals
   first |(have b46:((s[i].toNat:Int)==46)=true:=rJ.2 aD)|(have b46:((s[i].toNat:Int)==46)=false:=mM.2 aD)
   first |(have b45:((s[i].toNat:Int)==45)=true:=rJ.2 aD)|(have b45:((s[i].toNat:Int)==45)=false:=mM.2 aD)
   first |(have b95:((s[i].toNat:Int)==95)=true:=rJ.2 aD)|(have b95:((s[i].toNat:Int)==95)=false:=mM.2 aD)
   first |(have b97:97<=(s[i].toNat:Int):=by omega)|(have b97:(s[i].toNat:Int)<97:=by omega)
   first |(have b48:48<=(s[i].toNat:Int):=by omega)|(have b48:(s[i].toNat:Int)<48:=by omega)
   first |(have aPR:(s[i].toNat:Int)<=122:=by omega)|(have aPR:122<(s[i].toNat:Int):=by omega)
   first |(have b57:(s[i].toNat:Int)<=57:=by omega)|(have b57:57<(s[i].toNat:Int):=by omega)
   have h':=Lh h
   clear h
   go_wp2_with fail
   all_goals first
    |(go_roundg (s.size-(i+1))
      case measure=>rw[hm.out];omega
      case rel=>exact⟨i+1,by omega,rfl,by go_num,rfl,hnext.out (akY (by have:=h'.out;omega))⟩)
    |(go_ret
      refine⟨?_,rfl⟩
      rw[hbad.out (ap2 (by have:=h'.out;omega))]
      rfl)
    |(exfalso
      simp_all
      done)
    |(exfalso
      simp_all
      omega)
 have e:i=s.size:=by omega
 have hfin:Hid (R=true):=by have h:=hal.out;rw[e,hsz'.out,aeC]at h;exact hR'.out.trans h
 have c2:¬(i:Int)<(s.size:Int):=by omega
 clear hal;go_wp2_with fail;go_ret;refine⟨?_,rfl⟩;rw[hfin.out];rfl
theorem aaB :(Tryz.prog.info? 9).map (fun i=>(i.zero,i.size,i.bytes))=some (some (.string ⟨#[]⟩),1,16):=by kernel_rfl
def XX (v:Value) (L:List ByteArray):bK:=.sl 9 1 v L.length (L.map .string)
def iE (b:ByteArray):List UInt8:=b.data.toList
theorem akZ {D:List UInt8} {f i:Nat} (hf:f<=i) (hi:i<D.length) (h47:D[i]=47) (hno:∀k (hk:k<D.length),f<=k->k<i->D[k]≠47):
  splitB (D.drop f)=(D.drop f).take (i-f)::splitB (D.drop (i+1)):=by
 have e:D.drop f=(D.drop f).take (i-f)++47::D.drop (i+1):=by
  conv=>lhs;rw[<-DL (i-f) (D.drop f)]
  rw[OC,show f+(i-f)=i by omega,WX hi,h47]
 conv=>lhs;rw[e]
 refine OM fun hm=>?_
 obtain⟨k,hk,ek⟩:=List.mem_iff_getElem.1 hm;rw[List.getElem_take,ad9]at ek;rw[tF,pU]at hk;exact hno (f+k) aD aD aD ek
theorem ap3 {D:List UInt8} {f:Nat} (hno:∀k (hk:k<D.length),f<=k->D[k]≠47):splitB (D.drop f)=[D.drop f]:=by
 refine qQ fun hm=>?_
 obtain⟨k,hk,ek⟩:=List.mem_iff_getElem.1 hm;rw[ad9]at ek;rw[pU]at hk;exact hno (f+k) aD aD ek
theorem L6 (p:List UInt8):(splitB p).length<=p.length+1:=by
 induction p with
 |nil=>exact jL _
 |cons c l ih=>obtain⟨h,t,e⟩:=uI l;rw[iQ,e];rw[e]at ih;split<;>simp only[nV]at ih ⊢ <;>omega
theorem L8 (p:ByteArray) (w:World) (hp:p.size<=100):
  Calls Tryz.prog 147 #[.string p] w fun e w'=>∃v L,e= .returned v/\L.map iE=splitB p.data.toList/\Sep w w' [XX v L]:=by
 have hsz:=Lh (Lib.size_eq p);obtain⟨i0,hif,hz0,hz1,hz2⟩:=info_parts aaB;go_enter Tryz.func147,Tryz.ntmps147;go_wp2_with fail;go_loopw[3,4,5] (fun vo vf vi wr=>∃(L:List ByteArray) (f i:Nat),f<=i/\i<=p.size/\vf=iV f/\vi=iV i/\L.length<=i/\Hid (splitB p.data.toList=L.map iE++splitB (p.data.toList.drop f))/\Hid (∀k (hk:k<p.data.toList.length),f<=k->k<i->p.data.toList[k]≠47)/\Sep w wr [XX vo L]) (fun _ _ vi _=>p.size-(intOf vi).toNat)
 case atStart=>exact⟨[],0,0,by omega,by omega,rfl,rfl,by simp,by simp[Hid],(fun k hk h1 h2=>absurd h2 aD),(Sep.nil w).dX _ _⟩
 obtain⟨L,f,i,hfi,hi,rfl,rfl,hLi,hsp,hno,hS⟩:=hrel;by_cases hlt:i<p.size
 case pos=>
  (have c1:(0:Int)<=(i:Int):=by omega);(have c2:(i:Int)<(p.size:Int):=by omega);(have c3:(0:Int)<=(f:Int):=by omega);(have c4:(f:Int)<=(i:Int):=by omega);(have c5:(i:Int)<=(p.size:Int):=by omega);by_cases h47:p[i]=47
  case pos=>
   (have b47:((p[i].toNat:Int)==47)=true:=by rw[h47];rfl);have hS1:=hS.alloc (.cells #[.string (p.extract f i)] 9);go_wp2_with(at_builtin;refine iZ 0 rfl _ _ 52 rfl 9 i0 (.string ⟨#[]⟩) 1 16 Tryz.underlying52 hif hz0 hz1 hz2 rfl aQ hS1 _ _ _ rfl rfl ⟨wr.heap.size,0,none⟩ 1 1 [.string (p.extract f i)] rfl rfl (cell_one_new _ _ _) Q8 aQ oH aD ?_);intro g c w2 hS2 hz;(have dJ:Sep w w2 [XX (sV g (L.length+1) c) (L++[p.extract f i])]:=by unfold XX;rw[kT,kN];exact hS2);have nJ:=Lh dJ;have hl:=hsz.out;(have hex:iE (p.extract f i)=(p.data.toList.drop f).take (i-f):=by(show(p.extract f i).data.toList=_);rw[Lib.extract_data]);(have hsp2:Hid (splitB p.data.toList=(L++[p.extract f i]).map iE++splitB (p.data.toList.drop (i+1))):=by have h:=hsp.out;rw[akZ hfi aD h47 hno.out]at h;(show _=_);rw[h,kT,uN,mH,KD,hex];rfl);(have dC:Hid (∀k (hk:k<p.data.toList.length),i+1<=k->k<i+1->p.data.toList[k]≠47):=fun k hk h1 h2=>absurd h2 aD);clear hS hS1 hS2 hz dJ hl hex hsp hno;go_wp2_with fail;go_roundw
   ·exact⟨_,i+1,i+1,by omega,by omega,by go_num,by go_num,by rw[kN,xL];omega,hsp2,dC,nJ.out⟩
   simp[intOf];omega
  (have b47:((p[i].toNat:Int)==47)=false:=by rw[mM];intro h;exact h47 (UInt8.toNat_inj.1 (by show p[i].toNat=47;omega)));have dC:Hid (∀k (hk:k<p.data.toList.length),f<=k->k<i+1->p.data.toList[k]≠47):=fun k hk h1 h2=>by
   by_cases e:k=i
   ·subst e;exact h47
   exact hno.out k hk h1 aD
  have hS':=Lh hS;clear hS hno;go_wp2_with fail;go_roundw
  ·exact⟨L,f,i+1,by omega,by omega,rfl,by go_num,by omega,hsp,dC,hS'.out⟩
  simp[intOf];omega
 have c2:¬(i:Int)<(p.size:Int):=by omega
 have c3:(0:Int)<=(f:Int):=by omega
 have c4:(f:Int)<=(p.size:Int):=by omega
 have hl:=hsz.out;have hex:iE (p.extract f p.size)=p.data.toList.drop f:=by(show(p.extract f p.size).data.toList=_);rw[Lib.extract_data,tH (by rw[pU];omega)]
 have hfin:Hid ((L++[p.extract f p.size]).map iE=splitB p.data.toList):=by have h:=hsp.out;rw[ap3 (fun k hk h1=>hno.out k hk h1 aD)]at h;(show _=_);rw[h,kT,mH,KD,hex]
 have hS1:=hS.alloc (.cells #[.string (p.extract f p.size)] 9);clear hex hl hsp hno;go_wp2_with(at_builtin;refine iZ 0 rfl _ _ 52 rfl 9 i0 (.string ⟨#[]⟩) 1 16 Tryz.underlying52 hif hz0 hz1 hz2 rfl aQ hS1 _ _ _ rfl rfl ⟨wr.heap.size,0,none⟩ 1 1 [.string (p.extract f p.size)] rfl rfl (cell_one_new _ _ _) Q8 aQ oH aD ?_);intro g c w2 hS2 hz;have dJ:Sep w w2 [XX (sV g (L.length+1) c) (L++[p.extract f p.size])]:=by unfold XX;rw[kT,kN];exact hS2
 have nJ:=Lh dJ;clear hS hS1 hS2 hz dJ;go_wp2_with fail;go_ret;exact⟨_,_,rfl,hfin.out,nJ.out⟩
end Go.Proofs.YteihmbaimbogaaaGreat
