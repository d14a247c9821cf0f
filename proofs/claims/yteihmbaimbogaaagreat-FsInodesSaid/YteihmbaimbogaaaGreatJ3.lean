/- Parts. -/
import Derived.Test.YteihmbaimbogaaaGreatJ2
import Derived.RangeFuncNested
import Derived.RangeFuncBound
import Derived.RangeFuncCalls
import Derived.RangeFuncLeaves
import Derived.RangeFuncBox
import Derived.Shelf.Abstract
import Derived.OwnWalkIn
import Derived.TacticsInMore
import Derived.LoopNIn
import Derived.LoopIn
set_option linter.unusedVariables false
set_option linter.unusedSimpArgs false
set_option maxRecDepth 100000
set_option maxHeartbeats 20000000
namespace Go.Proofs.YteihmbaimbogaaaGreat
open Go.RowKit
theorem apS :(Tryz.prog.info? 137).map (fun i=>(i.zero,i.size,i.bytes))=some (some (.agg #[iV 0,.slice none 0 0,iV 0]),3,40):=by kernel_rfl
theorem Sep.ZP {w0 w:World} {R:List bK} {v:Value} {l:List (Nat×List UInt8)} (h:Sep w0 w (IQ v l::R)):∃us:List Value,us.length=l.length/\Sep w0 w (.sl 137 3 v l.length (fM l us)::(List.zipWith (fun u (x:Nat×List UInt8)=>aL u x.2) us l++R)):=by obtain⟨us,h⟩:=h.P8;obtain⟨hl,h⟩:=h.kX.YQ;have h2:=h.kX;exact⟨us,hl,(h2.perm (List.Perm.swap _ _ _)).bE.perm rF⟩
theorem Sep.NF {w0 w:World} {R:List bK} {v:Value} {l:List (Nat×List UInt8)} {us:List Value} (hl:us.length=l.length) (h:Sep w0 w (.sl 137 3 v l.length (fM l us)::(List.zipWith (fun u (x:Nat×List UInt8)=>aL u x.2) us l++R))):Sep w0 w (IQ v l::R):=by have h1:=h.perm rF.symm;have h2:=(h1.dG.perm (List.Perm.swap _ _ _)).nW;exact Sep.P9 us (Sep.nW (h2.YR hl))
theorem Sep.eF {w0 w:World} {As:List bK} {e:TypeId} {sz n:Nat} {v:Value} {cs:List Value} (i:Nat) (h:Sep w0 w As) (hi:As[i]? =some (.sl e sz v n cs)):∃A c,v= .slice A n c:=by obtain⟨A,cap,e,_⟩:=h.yR i hi;exact⟨A,cap,e⟩
theorem auM {α:Type} (X R:List α) (a b c:α):(X++a::b::c::R).Perm (a::b::c::(X++R)):=
 rF.trans (List.Perm.cons _ (rF.trans (List.Perm.cons _ rF)))
theorem aBX {α:Type} (X R:List α) (a b c d:α):(X++a::b::c::d::R).Perm (a::b::c::d::(X++R)):=
 rF.trans (List.Perm.cons _ (auM X R b c d))
theorem DK.EE (D:DK):D.step.now=D.now:=by unfold DK.step;split<;>rfl
theorem DK.NJ (D:DK):D.step.fast=D.fast:=by unfold DK.step;split<;>rfl
theorem DK.AA (D:DK):D.step.back=D.back:=by unfold DK.step;split<;>rfl
theorem DK.agI (D:DK):D.step.off=if 0<D.left then decide (D.left=1)else D.off:=by unfold DK.step;split<;>rfl
theorem DK.ZQ (D:DK):D.step.left=if 0<D.left then D.left-1 else D.left:=by unfold DK.step;split<;>rfl
theorem UX {l:List (Nat×List UInt8)} {us:List Value} (hl:us.length=l.length) (x:Nat×List UInt8) (u:Value):fM (l++[x]) (us++[u])=fM l us++EP (x,u) l.length:=by unfold fM;rw[List.zip_append hl.symm,List.zipIdx_append,adY];simp[hl]
theorem akJ {w0 w:World} {R:List bK} {p nb i:Nat} {D:DK} {v:Value} {bs:List UInt8} (hD:D.ok nb) (hi:i<nb) (hbs:bs.length=512) (qJ:D.back.length<65536) (hv:jB w0 R v bs) (h:Sep w0 w (aN p D::R)):
  Calls Tryz.prog 219 #[pV p,iV i,v] w fun e w'=>
   e= .returned (iV (if D.off=true then 11 else 0))/\Sep w0 w' (aN p (if D.off=true then D else D.wr i bs)::R):=by
 obtain⟨k0,gN,hk0,hk1,hk2⟩:=lM nX
 obtain⟨j0,uX,hj0,hj1,hj2⟩:=lM apS
 have h00:=Lh h
 obtain⟨vn,vf,vb,h⟩:=h.zP
 have hfl:=mV hD.now.size
 have hlen:=hD.now.len
 have hnb:=hD.few
 obtain⟨g,n,c,rfl,hnl,hc,hm⟩:=h.BQ 1 rfl (by have:=hD.some;omega)
 have hn:n=512*nb:=by rw[hnl.out,hfl,hlen]
 have hC:=Lh (h.yF 0 rfl)
 have hth:=amU hC.out hn hnb hi
 have Y8:=fun W=>TL (g:=g) (c:=c) (n:=n) (i:=i) aD hc hm aD W
 have hvb:BytesAt w v bs:=hv.now (X:=[_,_,_,_]) h
 obtain⟨A,cv,rfl,_⟩:=hvb.shape
 obtain⟨m,hm⟩:∃m,bs.length=m:=⟨_,rfl⟩
 rw[hm]at hbs
 subst hbs
 rw[hm]at hv hvb ⊢
 --the list of writes
 have hp0:Sep w0 w (IQ vb D.back::jD p (sV g n c) vf vb D.off D.left::aL (sV g n c) D.now.flatten::aL vf D.fast.flatten::R):=Sep.dE [3,0,1,2] h aQ bM
 obtain⟨us,QD,hp1⟩:=Sep.ZP hp0
 have hp:Sep w0 w (.sl 137 3 vb D.back.length (fM D.back us)::jD p (sV g n c) vf vb D.off D.left::aL (sV g n c) D.now.flatten::aL vf D.fast.flatten::(List.zipWith (fun u (x:Nat×List UInt8)=>aL u x.2) us D.back++R)):=hp1.perm (List.Perm.cons _ (auM _ _ _ _ _))
 obtain⟨Z,hZ⟩:∃Z,Z=List.zipWith (fun u (x:Nat×List UInt8)=>aL u x.2) us D.back++R:=⟨_,rfl⟩
 rw[<-hZ]at hp
 have hvZ:jB w0 Z (.slice A 512 cv) bs:=hZ▸hv.more
 replace hZ:=Lh hZ
 clear hp1
 obtain⟨Ab,cb,aDJ,hbc,hbm,_⟩:=hp.yR 0 rfl
 subst aDJ
 obtain⟨L,hL⟩:∃L,D.back.length=L:=⟨_,rfl⟩
 rw[hL]at hp
 have c2:=hC.out.c2
 rw[hL]at c2
 have q1:decide ((65536:Int)<=(L:Int))=false:=decide_eq_false aD
 have hLs:=Lh (show L<65536 by omega)
 have hlen':=Lh hlen
 have JA:=Lh hfl
 have hn':=Lh hn
 have hp':=Lh hp
 have hm':=Lh hm
 have aOZ:=Lh hvb
 have hL':=Lh hL
 have auN:=Lh QD
 clear hlen hfl hn hp hm hvb hp0 h hL QD qJ
 cases hoff:D.off with
 |true=>simp only[hoff,if_true,I8,if_false]at hth;clear Y8 hC;go_enter Tryz.func219,Tryz.ntmps219;clear q1;go_wp2_with(go_at_call 220;refine hth.mono ?_;rintro e w9 ⟨rfl,h9⟩;obtain rfl:=h9.symm);go_ret;exact⟨rfl,h00.out⟩
 |false=>
  simp only[hoff,if_true,I8,if_false]at hth;have c0:=hC.out.c0;have hS5:=Lh (hp'.out.drew.dX 5 1);have e2:w.drew.cell? ⟨p,2,none⟩=some (.slice Ab L cb):=c2;clear hC;go_enter Tryz.func219,Tryz.ntmps219;go_wp2_with(go_at_call 220;refine hth.mono ?_;rintro e w9 ⟨rfl,h9⟩;obtain rfl:=h9.symm);clear hth q1;refine aJ (S:=fun w'=>w'.cell? ⟨p,2,none⟩=some (.slice Ab L cb)) 19 ?_;refine aA 0 e2 ?_;refine aA 1 e2 ?_;refine aA 2 e2 ?_;refine aA 3 e2 ?_;refine aA 4 e2 ?_;refine aA 5 e2 ?_;refine aA 6 e2 ?_;refine aA 9 e2 ?_;refine aA 10 e2 ?_;refine aA 11 e2 ?_;refine aA 12 e2 ?_;refine aA 13 e2 ?_;(refine bG 7 fun K hK=>?_);refine cO 0 kC _ _ 35 kC 5 k0 (.int .u8 0) 1 1 Tryz.underlying35 gN hk0 hk1 hk2 rfl aQ hS5.out (.slice none 0 0) 0 [] kC P7 (.slice A 512 cv) 512 (bs.map mR) P7 (by have:=aOZ.out;unfold BytesAt at this;rw[hm'.out]at this;exact this) vJ oH aD ?_;intro v3 w3 dJ hz3;(try simp only[yQ,BF,pG]at dJ);have nJ:=Lh dJ;have e3:=(dJ.yF 2 rfl).c2;have hf3:=dJ.eF 0 rfl;clear hz3 dJ hS5 e2;obtain⟨A3,c3,hv3⟩:=hf3;subst hv3;refine hK _ _ (fun _=>e3) ?_;clear hK K;(try simp only[Act.put,gD]);refine aW 8 (fun _=>e3) ?_;refine aW 14 (fun _=>e3) ?_;have fC:=nJ.out.alloc (.cells #[iV i,.slice A3 512 c3,iV L] 137);have e4:=(fC.yF 2 rfl).c2;refine aW 15 (fun _=>e4) ?_;(refine bG 16 fun K hK=>?_);refine cO 1 kC _ _ 128 kC 137 j0 _ 3 40 Tryz.underlying128 uX hj0 hj1 hj2 rfl aQ fC (.slice Ab L cb) L (fM D.back us) kC kC (sV w3.heap.size 1 1) 1 [.int .i64 i,.slice A3 512 c3,.int .i64 L] kC
   ⟨rfl,_,_,rfl,jL _,by unfold maxLen;omega,fun _=>⟨_,rfl,by rw[World.size_alloc];exact YI _,iA w3 #[iV i,.slice A3 512 c3,iV L] 137 _ rfl⟩⟩ Q8 (by have:=hLs.out;unfold maxLen;omega) (by have:=hLs.out;omega) ?_
  intro v5 w5 hS5 hz5;simp only[W9,yQ]at hS5;have akK:=Lh hS5;have hf5:=hS5.eF 1 rfl;have J8:=hS5.yF 2 rfl;have e5:=J8.c2;have f5:=J8.fz 2;clear hz5 hS5 fC e4 J8 e3;obtain⟨A5,c5,hv5⟩:=hf5;subst hv5;refine hK _ _ (fun _=>e5) ?_;clear hK K;(try simp only[Act.put,gD]);refine aW 17 (fun _=>e5) ?_;refine aW 18 (fun _=>e5) ?_;refine aW 19 (fun h=>absurd rfl h) ?_;refine aR fZ ?_ _;(have jS:Hid (Sep w0 (w5.setCell ⟨p,2,none⟩ (.slice A5 (L+1) c5)) (.sl 5 1 (.slice A3 512 c3) 512 (bs.map mR):: .sl 137 3 (.slice A5 (L+1) c5) (L+1) (fM D.back us++EP ((i,bs),.slice A3 512 c3) L)::jD p (sV g n c) vf (.slice A5 (L+1) c5) D.off D.left:: .sl 5 1 (sV g n c) n (D.now.flatten.map mR)::aL vf D.fast.flatten::Z)):=by rw[<-dB hnl.out.symm];exact akK.out.bS 2 rfl 2 (.slice A5 (L+1) c5));have d0:=(jS.out.yF 2 rfl).c0;have hs6:Hid (BytesAt (w5.setCell ⟨p,2,none⟩ (.slice A5 (L+1) c5)) (.slice A 512 cv) bs):=hvZ.now (X:=[_,_,_,_,_]) jS.out;obtain⟨w7,hcp,mJ,hz7⟩:=jS.out.aeP (P:=Tryz.prog) 3 rfl 35 35 3 Tryz.underlying35 zL (512*i) 512 512 (.slice A 512 cv) 512 (bs.map mR) (by have:=hs6.out;unfold BytesAt at this;rw[hm'.out]at this;exact this) vJ (by have:=hn'.out;omega);(have vD:Hid (Sep w0 w7 (jD p (sV g n c) vf (.slice A5 (L+1) c5) D.off D.left:: .sl 5 1 (.slice A3 512 c3) 512 (bs.map mR):: .sl 137 3 (.slice A5 (L+1) c5) (L+1) (fM D.back us++EP ((i,bs),.slice A3 512 c3) L):: .sl 5 1 (sV g n c) n (qH (D.now.flatten.map mR) (512*i) (bs.map mR))::aL vf D.fast.flatten::Z)):=by have e9:(bs.map mR).take (min 512 512)=bs.map mR:=tH (by rw[kV,hm'.out];exact jL _);rw[e9]at mJ;exact Sep.dE [2,0,1] mJ aQ bM);have hst:=as9 vD.out hD.left;have aIO:(Builtin.copy_ #[35,35] 3 #[.slice (some ⟨g,512*i,none⟩) 512 512,.slice A 512 cv]).run Tryz.prog (w5.setCell ⟨p,2,none⟩ (.slice A5 (L+1) c5))= .ok (.int .i64 512) w7:=hcp;clear akK nJ f5 e5 hcp mJ hz7;go_wp2_with(first |(go_at_call 74;refine(Y8 _).mono ?_;rintro e w9 ⟨rfl,h9⟩;obtain rfl:=h9.symm)|(go_at_call 75;refine hst.mono ?_;rintro e w8 ⟨rfl,nM⟩));(all_goals go_ret);all_goals
   refine⟨rfl,?_⟩
   refine Sep.zQ (D:=D.wr i bs) (vn:=sV g n c) (vf:=vf) (vb:=.slice A5 (L+1) c5) ?_
   have x1:qH (D.now.flatten.map mR) (512*i) (bs.map mR)=((D.now.set i bs).flatten).map mR:=by rw[<-EA,EO hD.now.size hm'.out (by rw[hD.now.len];exact hi)]
   have x2:(D.now.set i bs).flatten.length=n:=by rw[mV (hD.now.set i hm'.out).size,(hD.now.set i hm'.out).len,hn'.out]
   have x3:aL (sV g n c) (D.wr i bs).now.flatten= .sl 5 1 (sV g n c) n (qH (D.now.flatten.map mR) (512*i) (bs.map mR)):=by rw[x1];unfold DK.wr;rw[DK.EE];exact dB x2
   rw[x3]
   unfold DK.wr
   rw[DK.NJ,DK.AA,DK.agI,DK.ZQ]
   have y1:Sep w0 w8 (.sl 137 3 (.slice A5 (L+1) c5) (D.back++[(i,bs)]).length (fM (D.back++[(i,bs)]) (us++[.slice A3 512 c3]))::(List.zipWith (fun u (x:Nat×List UInt8)=>aL u x.2) (us++[.slice A3 512 c3]) (D.back++[(i,bs)])++(jD p (sV g n c) vf (.slice A5 (L+1) c5) (if 0<D.left then decide (D.left=1)else D.off) (if 0<D.left then D.left-1 else D.left):: .sl 5 1 (sV g n c) n (qH (D.now.flatten.map mR) (512*i) (bs.map mR))::aL vf D.fast.flatten::R))):=by rw[UX auN.out,kN,xL,hL'.out,List.zipWith_append auN.out,uN];rw[hZ.out]at nM;have y0:Sep w0 w8 (.sl 137 3 (.slice A5 (L+1) c5) (L+1) (fM D.back us++EP ((i,bs),.slice A3 512 c3) L):: .sl 5 1 (.slice A3 512 c3) 512 (bs.map mR)::jD p (sV g n c) vf (.slice A5 (L+1) c5) (if 0<D.left then decide (D.left=1)else D.off) (if 0<D.left then D.left-1 else D.left):: .sl 5 1 (sV g n c) n (qH (D.now.flatten.map mR) (512*i) (bs.map mR))::aL vf D.fast.flatten::(List.zipWith (fun u (x:Nat×List UInt8)=>aL u x.2) us D.back++R)):=Sep.dE [2,1,0,3,4] nM aQ bM;(have e:List.zipWith (fun u (x:Nat×List UInt8)=>aL u x.2) [.slice A3 512 c3] [(i,bs)]=[.sl 5 1 (.slice A3 512 c3) 512 (bs.map mR)]:=by(show [aL (.slice A3 512 c3) bs]=_);rw[dB hm'.out]);rw[e];exact y0.perm (List.Perm.cons _ (aBX _ _ _ _ _ _).symm)
   have y2:=Sep.NF (by rw[kN,kN,auN.out];rfl) y1
   exact Sep.dE [1,2,3,0] y2 aQ bM
end Go.Proofs.YteihmbaimbogaaaGreat
namespace Go.Proofs.YteihmbaimbogaaaGreat
open Go.RowKit Go.Shelf
attribute [local go_sem] Oper.semAt_some
structure zA (n₀:Nat) (F:List Nat) (W W':World):Prop where
 os:W'.os=W.os
 tape:W'.tape=W.tape
 output:W'.output=W.output
 size:W.heap.size<=W'.heap.size
 block:∀k,k<n₀->k∉F->W'.heap[k]? =W.heap[k]?
theorem zA.refl (n₀:Nat) (F:List Nat) (W:World):zA n₀ F W W:=⟨rfl,rfl,rfl,jL _,fun _ _ _=>rfl⟩
theorem zA.trans {n₀:Nat} {F:List Nat} {A B C:World} (h:zA n₀ F A B) (k:zA n₀ F B C):zA n₀ F A C:=
 ⟨k.os.trans h.os,k.tape.trans h.tape,k.output.trans h.output,PS h.size k.size,fun i hi hn=>(k.block i hi hn).trans (h.block i hi hn)⟩
theorem zA.putObj {n₀:Nat} {F:List Nat} {w:World} (hn:n₀<=w.heap.size) (W:World) (l:Nat) (o o':Obj) (hl:w.heap.size<=l) (h:W.heap[l]? =some o) (_:o.isCells=false) (_:o.isWalk=false):zA n₀ F W (W.putObj l o'):=by have hg:=grownBy_putObj' W l o';exact⟨hg.os,hg.tape,hg.output,hg.size,fun k hk _=>hg.block k (by have:=(Array.getElem?_eq_some_iff.1 h).1;omega) (fun e=>by cases e;omega)⟩
theorem zA.below {n₀:Nat} {F:List Nat} {W W':World} (h:Below n₀ W W'):zA n₀ F W W':=⟨h.os,h.tape,h.output,h.size,fun k hk _=>h.block k hk⟩
theorem zA.cell {n₀:Nat} {F:List Nat} {W W':World} (h:zA n₀ F W W') {a:Addr} (ha:a.block<n₀) (hf:a.block∉F):W'.cell? a=W.cell? a:=World.cell?_of_block (h.block _ ha hf)
def CB (n₀:Nat) (F:List Nat) (W:World) (A:Option Addr) (cs:List Value):Prop:=∀j u,cs[j]? =some u->∃g,A=some ⟨g,0,none⟩/\g<n₀/\g∉F/\W.cell? ⟨g,j,none⟩=some u
theorem CB.kept {n₀:Nat} {F:List Nat} {W W':World} {A:Option Addr} {cs:List Value} (h:CB n₀ F W A cs) (hk:zA n₀ F W W'):CB n₀ F W' A cs:=fun j u hj=>by obtain⟨g,e,h1,h2,h3⟩:=h j u hj;exact⟨g,e,h1,h2,(hk.cell (a:=⟨g,j,none⟩) h1 h2).trans h3⟩
theorem acB {l:List (Nat×List UInt8)} {us:List Value} (hl:us.length=l.length) {k:Nat} (hk:k<l.length) (j:Nat) (hj:j<3):(fM l us)[k*3+j]? =(EP (l[k],us[k]'aD) k)[j]? :=by
 unfold fM;have h1:((l.zip us).zipIdx)[k]? =some ((l[k],us[k]'aD),k):=by rw[List.getElem?_zipIdx];(have:(l.zip us)[k]? =some (l[k],us[k]'aD):=by rw[arZ];exact⟨gE hk,gE aD⟩);rw[this];simp
 have gen:∀(xs:List (((Nat×List UInt8)×Value)×Nat)) (i:Nat) (x:((Nat×List UInt8)×Value)×Nat),xs[i]? =some x->(xs.flatMap fun x=>EP x.1 x.2)[i*3+j]? =(EP x.1 x.2)[j]? :=by
  intro xs
  induction xs with
  |nil=>intro i x h;simp at h
  |cons y ys ih=>
   intro i x h;cases i with
   |zero=>simp at h;subst h;rw[zF,Nat.zero_mul,BF,G8 (by simpa[EP]using hj)]
   |succ i=>rw[zF,D6 (by simp[EP];omega)];have:=ih i x (by simpa using h);rw[<-this];congr 1;simp[EP];omega
 exact gen _ k _ h1
def IU (l:List (Nat×List UInt8)) (us:List Value) (i:Fin l.length):Value:=.agg #[iV (l[i].1:Int),us.getD i undef,iV ((i.1:Nat):Int)]
theorem akL (F:Fence) (n:Nat) (h7:F.fn 127) (hro:F.round=none) (hn:1<=n) (ll Bs p n₀ c:Nat) (G:List Nat) (A:Option Addr) (l:List (Nat×List UInt8)) (us:List Value) (hl:us.length=l.length) (hsh:∀u∈us,∃A c,u= .slice A 512 c) (hc:l.length<=c) (hm:c<=maxLen) (J Jx:List (Fin l.length)->World->Prop)
  (W:World) (hJ:AbidesFrom W.heap.size J)
  (hY:∀pre x W,J pre W->pre.length<l.length->YieldAt F (n-1) Tryz.prog ll #[IU l us x] W fun e W'=>
   (e= .returned (.bool true)/\J (pre++[x]) W'/\zA n₀ G W W')\/(e= .returned (.bool false)/\Jx (pre++[x]) W'))
  (hn0:n₀<=W.heap.size) (hBs:W.cell? ⟨Bs,0,none⟩=some (pV p)) (hp:W.cell? ⟨p,2,none⟩=some (.slice A l.length c)) (hr:CB n₀ G W A (fM l us)) (h0:J [] W):
  CallsIn F n Tryz.prog 127 #[.func (.yield ll) #[] #[],pV Bs] W fun e W'=>(∃v,e= .returned v)/\
   ((∃ys:List (Fin l.length),ys.map (·.1)=List.range l.length/\J ys W')\/(∃pre:List (Fin l.length),True/\Jx pre W')):=by
 have hm':(l.length:Int)<=9223372036854775807:=by unfold maxLen at hm;omega
 refine callsIn_of_wp Tryz.func127 rfl h7 ?_ hro
 simp only[Tryz.ntmps127,mK,nV,kW,Nat.reduceAdd,Nat.reduceSub,HV,HY,H6,HZ,pG,pF]
 obtain⟨N,hN⟩:∃N,l.length=N:=⟨_,rfl⟩
 simp only[hN]at hm' hp hc
 gi_wp2
 gi_loopw [10] (fun i wr=>∃(k:Nat) (pre:List (Fin l.length)),k<=N/\i=iV k/\pre.map (·.1)=List.range k/\J pre wr/\zA n₀ G W wr)
  (fun i _=>N-(intOf i).toNat)
 case atStart=>exact⟨0,[],iF _,rfl,rfl,h0,zA.refl _ _ _⟩
 case round=>
  obtain⟨k,pre,hk,rfl,hpre,hJs,hnx⟩:=hrel;by_cases hlt:k<N
  ·(have hk':k<l.length:=by omega);have hrow:=hr.kept hnx;(have hat:=fun j hj=>acB hl hk' j hj);obtain⟨g,hA,_,_,c0⟩:=hrow (k*3) _ (hat 0 aD);obtain⟨g1,hA1,_,_,c1⟩:=hrow (k*3+1) _ (hat 1 aD);obtain⟨g2,hA2,_,_,c2⟩:=hrow (k*3+2) _ (hat 2 aD);subst hA;cases hA1;cases hA2;(have hb1:(0:Int)<=(k:Int):=by omega);(have hb2:(k:Int)<(N:Int):=by omega);obtain⟨Au,cu,hu⟩:=hsh (us[k]'aD) (tK _);(have hval:IU l us ⟨k,hk'⟩= .agg #[iV ((l[k].1:Nat):Int),.slice Au 512 cu,iV (k:Int)]:=by unfold IU;simp only[gH,gE (show k<us.length by omega),PO,hu];rfl);rw[hu]at c1;obtain⟨x0,hx0⟩:∃x0,l[k].1=x0:=⟨_,rfl⟩;rw[hx0]at c0 hval;obtain⟨W2,hW2⟩:∃W2,W2=wr.alloc (.cells #[iV (x0:Int),.slice Au 512 cu,iV (k:Int)] 137):=⟨_,rfl⟩;(have hB:Below wr.heap.size wr W2:=by rw[hW2];exact(Below.refl _ wr).alloc (jL _) _);have hJ2:J pre W2:=hJ pre wr W2 none hJs ⟨hB.os,hB.tape,hB.output,hB.size,fun k hk _=>hB.block k hk⟩ (fun r e=>by cases e);obtain⟨fn,tmps,assign,body,hy,hR⟩:=hY pre ⟨k,hk'⟩ W2 hJ2 (by have:=congrArg List.length hpre;simp at this;omega);rw[hval,hW2]at hy;rw[hW2]at hR;have hB':=Lh hB;have hrow':=Lh hrow;have hr':=Lh hr;clear hB hrow hr hat hval hsh hu hJ2 hY hJ;have hsz:n₀<=wr.heap.size:=PS hn0 hnx.size;clear hW2
   gi_wp2
   refine hR.mono ?_;rintro e W3 (⟨rfl,hJ3,hk3⟩|⟨rfl,hJx3⟩)
   ·gi_wp2
    go_roundw
    case rel=>refine⟨k+1,pre++[⟨k,hk'⟩],by omega,by simp,?_,hJ3,(hnx.trans (zA.below ((Below.refl _ wr).alloc (jL _) _|>.mono hsz))).trans hk3⟩;rw[kT,hpre,OA];rfl
    case measure=>simp[intOf];omega
   gi_wp2
   refine bodyPost_ret (results_none rfl _ _ _) rfl ?_;exact⟨⟨_,rfl⟩,.inr ⟨_,trivial,hJx3⟩⟩
  obtain rfl:k=N:=by omega
  gi_wp2
  go_end0
  exact⟨⟨_,rfl⟩,.inl ⟨_,hpre.trans (by rw[hN]),hJs⟩⟩
theorem acC (F:Fence) (n:Nat) (h7:F.fn 127) (hro:F.round=none) (hn:1<=n) (Bs p n₀ c:Nat) (G:List Nat) (A:Option Addr) (l:List (Nat×List UInt8)) (us:List Value) (hl:us.length=l.length) (hsh:∀u∈us,∃A c,u= .slice A 512 c) (hc:l.length<=c) (hm:c<=maxLen)
  (w:World) (hn0:n₀=w.heap.size) (hBs:w.cell? ⟨Bs,0,none⟩=some (pV p)) (hp:w.cell? ⟨p,2,none⟩=some (.slice A l.length c)) (hr:CB n₀ G w A (fM l us)):
  SeqStopsK F n Tryz.prog 127 #[pV Bs] (fun x:Fin l.length=>#[IU l us x]) (zA n₀ G) (fun ys=>ys.map (·.1)=List.range l.length) (fun _=>True) l.length w:=fun ll J Jx W hW hJ _ hY h0=>by
 have b1:=World.block_lt_of_cell? w _ hBs;have b2:=World.block_lt_of_cell? w _ hp;exact akL F n h7 hro hn ll Bs p n₀ c G A l us hl hsh hc hm J Jx W hJ hY (by rw[hn0];exact hW.size) ((hW.cell b1).trans hBs) ((hW.cell b2).trans hp) (hr.kept (zA.below (by rw[hn0];exact hW))) h0
theorem apT (F:Fence) (n:Nat) (h41:F.fn 73) (hro:F.round=none) (p:Nat) (w:World):
  CallsIn F n Tryz.prog 73 #[pV p] w fun e w'=>e= .returned (.func (.func 127) #[] #[pV w.heap.size])/\w'=w.alloc (.cells #[pV p] 23):=by
 refine callsIn_of_wp Tryz.func73 rfl h41 ?_ hro;simp only[Tryz.ntmps73,mK,nV,kW,Nat.reduceAdd,Nat.reduceSub,HV,HY,H6,HZ,pG,pF]
 gi_wp2
 go_ret;exact⟨rfl,rfl⟩
end Go.Proofs.YteihmbaimbogaaaGreat
namespace Go.Proofs.YteihmbaimbogaaaGreat
open Go.RowKit Go.Shelf
attribute [local go_sem] Oper.semAt_some
theorem acD {P:Program} {w:World} {e:TypeId} {g n c:Nat} {cs:List Value} (h:w.ownsRow 0 e 1 (sV g n c) n cs) (dT sT ty:TypeId) (hu:P.underlying dT=some (.slice e)) (hs:(P.info? e).map (·.size)=some 1)
  (o dLen dCap:Nat) (a:Addr) (m sc:Nat) (src:List Value) (hl:src.length=m) (hr:∀j u,src[j]? =some u->w.cell? (a.add j)=some u) (h1:∀u∈src,u.oneCell'=true) (hfit:o+m<=n) (hd:dLen=m):
  ∃w',(Builtin.copy_ #[dT,sT] ty #[.slice (some ⟨g,o,none⟩) dLen dCap,.slice (some a) m sc]).run P w= .ok (goInt (m:Nat)) w'/\w'.ownsRow 0 e 1 (sV g n c) n (qH cs o src)/\oD w w' [g]/\KeepsOthers w w':=by
 subst hd;obtain⟨hlen,ho⟩:=h;rcases ho with⟨h',_⟩|⟨g',cap',cur,h',hb,hg,hc,hm,hs',ht⟩
 ·simp at h'
 simp only[Value.slice.injEq,YG,Addr.mk.injEq,and_true,true_and]at h';obtain⟨rfl,rfl⟩:=h';rw[KC]at hs' ht hlen;have hcl:cur.toList.length=c:=by simpa using hs'
 have hrun:=run_copy_row P w dT sT ty e g o dLen dCap a dLen sc cur e src hu hs hg (by rw[hl];exact(Nat.min_self _).symm) hr aD h1;refine⟨_,by rw[hrun,hl],⟨?_,.inr ⟨g,c,_,rfl,hb,setRow_heap w g cur _ e _ hg,hc,hm,?_,?_⟩⟩,?_,?_⟩
 ·rw[afN aD,hlen,KC]
 ·simp only[mK,kN,tF,pU,hcl];omega
 ·rw[<-ht];unfold qH;simp only[KC];apply DN;intro k;simp only[vI,List.getElem?_append,kN,tF,zD,hcl];by_cases k1:k<o
  ·(have a1:k<min o c:=by omega);(have a2:k<min o (min n c):=by omega);(have a3:k<n:=by omega);(have a4:k<min o c+src.length:=by omega);(have a5:k<min o (min n c)+src.length:=by omega);simp[a1,a2,a3,a4,a5,k1]
  by_cases k2:k<o+src.length
  ·(have a1:¬k<min o c:=by omega);(have a2:¬k<min o (min n c):=by omega);(have a3:k<n:=by omega);(have a4:k<min o c+src.length:=by omega);(have a5:k<min o (min n c)+src.length:=by omega);(have a6:min o c=min o (min n c):=by omega);simp[a2,a3,a5,a6]
  (have a4:¬k<min o c+src.length:=by omega);(have a5:¬k<min o (min n c)+src.length:=by omega);(have a6:o+src.length+(k-(min o c+src.length))=k:=by omega);(have a7:o+src.length+(k-(min o (min n c)+src.length))=k:=by omega);(have a8:o+dLen+(k-(min o c+src.length))=k:=by omega);simp[a4,a5,a6,a7,a8]
 ·exact⟨rfl,rfl,rfl,by simp[World.setRow],fun k _ hn=>setRow_other w g k _ (by simpa[eq_comm]using hn)⟩
 refine⟨by simp[World.setRow],fun k o hk ho=>?_⟩;by_cases e:k=g
 ·subst e;rw[hg]at hk;cases hk;cases ho
 rw[setRow_other w g k _ e];exact hk
def FlI (w1:World) (gf n c:Nat) (fast:fO) (l:List (Nat×List UInt8)) (pre:List (Fin l.length)) (W:World):Prop:=
 zA w1.heap.size [gf] w1 W/\W.ownsRow 0 5 1 (sV gf n c) n ((lI fast (pre.map fun i=>l[i])).flatten.map mR)
theorem FlI.own {w1:World} {gf n c:Nat} {fast:fO} {l:List (Nat×List UInt8)} (hg:gf<w1.heap.size):OwnFrom w1.heap.size (FlI w1 gf n c fast l):=fun s W W' row hs hgr hr=>by
 have hblk:∀k,k<w1.heap.size->W'.heap[k]? =W.heap[k]? :=fun k hk=>hgr.block k (YE hk hs.1.size) (fun e=>by have:=(hr k e.symm).1;omega)
 refine⟨hs.1.trans ⟨hgr.os,hgr.tape,hgr.output,hgr.size,fun k hk _=>hblk k hk⟩,hs.2.1,?_⟩;rcases hs.2.2 with h|⟨g,cap,cur,hv,hb,hh,r⟩
 ·exact .inl h
 refine .inr ⟨g,cap,cur,hv,hb,?_,r⟩;cases hv;rw[hblk _ hg];exact hh
def bK.obj (b:Nat) (o:Obj):bK:=
 ⟨fun w F=>w.heap[b]? =some o/\F=[b],
  fun w w' F h hk=>⟨by rw[hk b (by rw[h.2];simp)];exact h.1,h.2⟩,
  fun w F h=>by rw[h.2];exact⟨by simp,fun b' hb=>by simp at hb;subst hb;exact lt_of_heap h.1⟩⟩
theorem Sep.aBY {w0 w:World} {As:List bK} {b:Nat} {o:Obj} (i:Nat) (h:Sep w0 w As) (hi:As[i]? =some (.obj b o)):w.heap[b]? =some o:=by obtain⟨F,⟨ho,_⟩,_⟩:=h.get i hi;exact ho
theorem Sep.putObj {w0 w:World} {As:List bK} {b:Nat} {o:Obj} (i:Nat) (o':Obj) (h:Sep w0 w As) (hi:As[i]? =some (.obj b o)):Sep w0 (w.putObj b o') (As.set i (.obj b o')):=by
 refine h.step i hi fun F ⟨ho,hF⟩ _=>⟨F,⟨?_,hF⟩,fun x hx=>.inl hx,?_⟩
 ·have hlt:=lt_of_heap ho;simp[World.putObj,hlt]
 have hg:=grownBy_putObj' w b o';rw[hF];exact oD.wJ hg
def QM (ops:Array Oper):Bool:=ops.toList.all fun o=>match o.op with| .defer _=>false|_=>true
theorem acE {ops:Array Oper} (h:QM ops=true) {i:Nat} {o:Oper} (ho:ops[i]? =some o):∀c,o.op≠ .defer c:=by
 intro c e;have h1:o∈ops.toList:=by obtain⟨hi,rfl⟩:=Array.getElem?_eq_some_iff.1 ho;exact Array.mem_def.1 (Array.getElem_mem hi)
 have h2:=(List.all_eq_true.1 h) o h1;rw[e]at h2;cases h2
theorem acF {l n:Nat} {P:Program} {row:String} {args:Array Value} {w:World} {R:Value->World->Prop} (h:Rows P row args w R):RowsIn (Fence.wide.inRound l) n P row args w R:=
 fun c cs _=>let ⟨v,w',r,s⟩:=h c cs;⟨v,w',r,stepsIn_wide.2 s⟩
theorem acG {l n:Nat} {P:Program} {ops:Array Oper} {Q:Exit->Act->World->Prop} (hd:QM ops=true) (hlo:¬LetsOut Q) {i:Nat} {K K':Act->World->Prop} {a:Act} {w:World} (hK:∀a w,K a w->K' a w) (h:wpOp P ops Q i K a w):wpOpIn (Fence.wide.inRound l) n P ops Q i K' a w:=by
 unfold wpOp at h;unfold wpOpIn;split at h
 ·rename_i ho;simp only[ho];exact hK _ _ h
 rename_i o ho;simp only[ho];split at h
 ·rename_i hw;simp only[hw,if_true];refine⟨fun _ _=>trivial,?_⟩;rw[Oper.semAt_eq _ _ _ (acE hd ho)];replace h:=h.resolve_right (fun h=>hlo h.2);unfold Oper.wp at h;generalize(execOp a.eval o).run P w=r at*;cases r with
  |ok x w'=>
   cases x<;>simp only[Oper.upon,Oper.uponIn]at h ⊢ <;>first
    |exact hK _ _ h
    |exact⟨fun h=>by simp[Fence.wide]at h,CallsIn.inRound l (callsIn_wide.2 (h.mono fun e w'' he=>by cases e<;>first |exact hK _ _ he|exact he))⟩
    |exact⟨fun h=>by simp[Fence.wide]at h,RowsIn.mono (acF h) fun _ _ he=>hK _ _ he⟩
    |exact h.elim
  |halt x w'=>cases x<;>simp only[Oper.upon,Oper.uponIn]at h ⊢ <;>first |exact h|exact h.elim
 rename_i hw;simp only[hw,I8,if_false];exact⟨fun _ _=>trivial,hK _ _ h⟩
theorem IV {l n:Nat} {P:Program} {md:Region.Mode} {ops:Array Oper} {Q:Exit->Act->World->Prop} (hd:QM ops=true) (hlo:¬LetsOut Q):∀(f:Nat) (ls:Array Bool) (a:Act) (w:World),wpAny P md ops Q f ls a w->wpAnyIn (Fence.wide.inRound l) n P md ops Q f ls a w
 |0,_,_,_,h=>h
 |f+1,ls,a,w,h=>⟨h.1,fun i hi=>acG hd hlo (fun a w h=>IV hd hlo f _ a w h) (h.2 i hi)⟩
theorem XV {l n:Nat} {P:Program} {ops:Array Oper} {Q:Exit->Act->World->Prop} {S:World->Prop} {id:Nat} {a:Act} {w:World} (z:Nat) (hm:P.follows .mixedOrders=true) (hd:QM ops=true) (hlo:¬LetsOut Q)
  (h:OU P .any ops Q S z ops.size (Array.replicate ops.size false) a w.drew):(Code.region id ops true).wpIn (Fence.wide.inRound l) n P Q a w:=
 wpIn_region_any hm (IV hd hlo _ _ _ _ (JH _ _ _ _ h))
theorem CB.mono {n₀ n₁:Nat} {F:List Nat} {W:World} {A:Option Addr} {cs:List Value} (h:CB n₀ F W A cs) (hn:n₀<=n₁):CB n₁ F W A cs:=fun j u hj=>by obtain⟨g,e,h1,h2,h3⟩:=h j u hj;exact⟨g,e,by omega,h2,h3⟩
theorem Z59 {P:Prop} (h:P:=by rw[hu]at hidx;have h3:=hp;rw[dB hnl.out.symm]at h3 hidx;exact(h3.aAS 3 (4+i) aD rfl hidx).symm):P:=h
theorem akM {w0 w:World} {R:List bK} {p nb:Nat} {D:DK} (hD:D.ok nb) (h:Sep w0 w (aN p D::R)):
  Calls Tryz.prog 27 #[pV p] w fun e w'=>
   e= .returned (iV (if D.off=true then 11 else 0))/\Sep w0 w' (aN p (if D.off=true then D else D.fl)::R):=by
 have h00:=Lh h
 obtain⟨vn,vf,vb,h⟩:=h.zP
 have hfl:=mV hD.fast.size
 have hlen:=hD.fast.len
 have hnb:=hD.few
 obtain⟨g,n,c,rfl,hnl,hc,hm⟩:=h.BQ 2 rfl (by have:=hD.some;omega)
 have hn:n=512*nb:=by rw[hnl.out,hfl,hlen]
 have hp0:Sep w0 w (IQ vb D.back::jD p vn (sV g n c) vb D.off D.left::aL vn D.now.flatten::aL (sV g n c) D.fast.flatten::R):=Sep.dE [3,0,1,2] h aQ bM
 obtain⟨us,QD,hp1⟩:=Sep.ZP hp0
 have hp:Sep w0 w (.sl 137 3 vb D.back.length (fM D.back us)::jD p vn (sV g n c) vb D.off D.left::aL vn D.now.flatten::aL (sV g n c) D.fast.flatten::(List.zipWith (fun u (x:Nat×List UInt8)=>aL u x.2) us D.back++R)):=hp1.perm (List.Perm.cons _ (auM _ _ _ _ _))
 obtain⟨Ab,cb,aDJ,hbc,hbm,_⟩:=hp.yR 0 rfl
 subst aDJ
 --what stands in the list of writes
 have hel:∀i (hi:i<D.back.length),∃gu cu,us[i]? =some (sV gu 512 cu)/\gu<w.heap.size/\gu≠g/\(∀W,zA w.heap.size [g] w W->∀j u,(D.back[i].2.map mR)[j]? =some u->W.cell? ⟨gu,j,none⟩=some u):=by
  intro i hi;have aBZ:=(hD.back _ (tK hi)).2;(have hz:((List.zipWith (fun u (x:Nat×List UInt8)=>aL u x.2) us D.back)++R)[i]? =some (aL (us[i]'aD) D.back[i].2):=by rw[G8 (by simp[QD,hi]),List.getElem?_zipWith,gE aD,gE hi]);rw[dB aBZ]at hz;(have hidx:(.sl 137 3 (.slice Ab D.back.length cb) D.back.length (fM D.back us)::jD p vn (sV g n c) (.slice Ab D.back.length cb) D.off D.left::aL vn D.now.flatten::aL (sV g n c) D.fast.flatten::(List.zipWith (fun u (x:Nat×List UInt8)=>aL u x.2) us D.back++R))[4+i]? =some (.sl 5 1 (us[i]'aD) 512 (D.back[i].2.map mR)):=by rw[Nat.add_comm];exact hz);obtain⟨gu,cu,hu,_,hlt,_,_⟩:=hp.iU (4+i) hidx aQ;refine⟨gu,cu,by rw[gE aD,hu],hlt,?_,fun W hW j u hj=>?_⟩
  ·exact Z59
  (have hne:gu≠g:=by exact Z59);rw[hu]at hidx;rw[hW.cell (a:=⟨gu,j,none⟩) hlt (by simpa using hne),hp.cellAt (4+i) hidx j (by have:=(gF.1 hj).1;rw[kV,aBZ]at this;omega)];exact hj
 have hRL:CB w.heap.size [g] w Ab (fM D.back us):=by
  intro j u hj;have hjl:=(gF.1 hj).1;have hpos:0<D.back.length:=by
   rcases H5 D.back.length with h0|h0
   ·have:D.back=[]:=zC h0;rw[this]at hjl;simp[fM]at hjl
   exact h0
  obtain⟨gb,cb',e,_,hlt,_,_⟩:=hp.iU 0 rfl hpos;cases e;have h3:=hp;rw[dB hnl.out.symm]at h3;have hne:=h3.aAS 0 3 aD rfl rfl;(have hcl:(fM D.back us).length=D.back.length*3:=by obtain⟨_,_,_,_,_,e⟩:=hp.yR 0 rfl;exact e);refine⟨gb,rfl,hlt,by simpa using hne,?_⟩;rw[hp.cellAt 0 rfl j (by rw[<-hcl];exact hjl)];exact hj
 have hC:=hp.yF 1 rfl
 have c3:=hC.c3
 have c2:=hC.c2
 have c1:=hC.c1
 have hsh:∀u∈us,∃A c,u= .slice A 512 c:=fun u hu=>by obtain⟨i,hi,e⟩:=QV hu;obtain⟨gu,cu,h1,_⟩:=hel i aD;rw[gE hi,e]at h1;cases h1;exact⟨_,_,rfl⟩
 have hg1:g<w.heap.size:=by obtain⟨g',c',e,_,hlt,_⟩:=hp.iU 3 rfl (by rw[<-hnl.out];have:=hD.some;omega);cases e;exact hlt
 have hown0:w.ownsRow 0 5 1 (sV g n c) n ((lI D.fast []).flatten.map mR):=by have h3:=hp;rw[dB hnl.out.symm]at h3;obtain⟨F,⟨ho,_⟩,_⟩:=h3.get 3 rfl;exact ho
 have aIP:p≠g:=by obtain⟨F,G,⟨_,rfl⟩,⟨_,rfl⟩,hne⟩:=hp.apart 1 3 aD rfl rfl;intro e;exact hne p bM (by simp[Value.ownBlock,e])
 have hp':=Lh hp
 have aIQ:=Lh hel
 have aO0:=Lh hRL
 have hsh':=Lh hsh
 have hown':=Lh hown0
 have hn':=Lh hn
 have hlen':=Lh hlen
 have JA:=Lh hfl
 have aO1:=Lh hbm
 have aO2:=Lh hbc
 have auN:=Lh QD
 have hC':=Lh hC
 obtain⟨L,hL⟩:∃L,L=D.back.length:=⟨_,rfl⟩
 rw[<-hL]at c2
 have hL':=Lh hL
 have MN:∀(fn:Fn) (first cap:Array Value) (w:World),(Instr.makeFunc fn first cap).run Tryz.prog w= .ok (.func fn first cap) w:=fun _ _ _ _=>rfl
 clear hp hel hRL hsh hown0 hn hlen hfl hbm hbc QD hp0 hp1 h hm hc hnb hC hL
 have hB1:Below w.heap.size w (w.alloc (.cells #[pV p] 23)):=(Below.refl _ w).alloc (jL _) _
 have hB2:Below w.heap.size w ((w.alloc (.cells #[pV p] 23)).alloc (.cells #[pV p] 23)):=hB1.alloc bM _
 have hS1:=hp'.out.pure hB1
 have hS2:=hp'.out.pure hB2
 have a3:=(hS1.yF 1 rfl).c3
 have b2:=(hS2.yF 1 rfl).c2
 have b0:((w.alloc (.cells #[pV p] 23)).alloc (.cells #[pV p] 23)).cell? ⟨w.heap.size,0,none⟩=some (pV p):=by simp[go_sem]
 have b9:((w.alloc (.cells #[pV p] 23)).alloc (.cells #[pV p] 23)).cell? ⟨w.heap.size+1,0,none⟩=some (pV p):=by simp[go_sem]
 have b1:=(hS2.yF 1 rfl).c1
 have auO:=Lh hS2
 have hB2':=Lh hB2
 clear hS1 hB1 hS2 hB2
 refine(callsIn_wide (n:=4)).1 ?_
 refine callsIn_of_wp_marks Tryz.func27 rfl trivial ?_ rfl
 simp only[Tryz.ntmps27,mK,nV,kW,Nat.reduceAdd,Nat.reduceSub,HV,HY,H6,HZ,pG,pF]
 rw[wpIn_wide]
 cases hoff:D.off with
 |true=>
  rw[hoff]at a3;go_wp2_with fail;refine⟨.int .i64 11,?_,?_⟩
  ·simp[results,Tryz.f27,go_sem]
  exact⟨rfl,h00.out.pure ((Below.refl _ w).alloc (jL _) _)⟩
 |false=>
  rw[hoff]at a3;go_wp2_with(go_at_call 73;refine(callsIn_wide.1 (apT Fence.wide 1 trivial rfl p _)).mono ?_;rintro e w9 ⟨rfl,rfl⟩);obtain⟨w1,hw1⟩:∃w1,(w.alloc (.cells #[pV p] 23)).alloc (.cells #[pV p] 23)=w1:=⟨_,rfl⟩;rw[hw1]at auO hB2' b0 b1 b2 b9 ⊢;(have hs1:w.heap.size+1+1=w1.heap.size:=by rw[<-hw1];simp);have hK1:zA w.heap.size [g] w w1:=zA.below hB2'.out;have hst:=acC Fence.wide 3 trivial rfl aQ (w.heap.size+1) p w1.heap.size cb [g] Ab D.back us auN.out hsh'.out aO2.out aO1.out w1 rfl b9 (hL'.out▸b2) ((aO0.out.kept hK1).mono aD);(have hown1:w1.ownsRow 0 5 1 (sV g n c) n ((lI D.fast []).flatten.map mR):=by have h3:=auO.out;rw[dB hnl.out.symm]at h3;obtain⟨F,⟨ho,_⟩,_⟩:=h3.get 3 rfl;exact ho);refine wpIn_wide.1 (wpIn_rangeFunc_ownH (F:=Fence.wide) (n:=4) rfl aQ (gf:=127) (lb:=#[pV (w.heap.size+1)]) rfl trivial (enters_of Tryz.func127 fZ rfl) hst zA.trans (zA.putObj (jL _)) (Below.refl _ _) (fun _=>rfl)
   (FlI w1 g n c D.fast D.back) (fun _ _ _=>False) (FlI.own aD) (fun _ _ _ _ _ h=>h.elim) ⟨zA.refl _ _ _,hown1⟩
   (fun x a' W=>∃(bw:Nat) (cs:Array Value),IU D.back us x= .agg cs/\w1.heap.size<=bw/\W.heap[bw]? =some (.cells cs 137 (0,0))/\a'= {tmps:=#[pV p,pV w.heap.size,iV 0,pV bw,pV p,pV p,.pointer (some ⟨p,3,none⟩),.bool false,pV p,.func (.func 127) #[] #[pV (w.heap.size+1)],IU D.back us x,undef,undef,undef,undef,undef,undef,undef,undef,undef,undef,undef,undef,undef,undef,undef,undef,undef],defers:=[]})
   ?hax ?assign ?body ?done ?stop)
  case hax=>
   rintro x a' s W W' row ⟨bw,cs,h1,h2,h3,h4⟩ hg hr;refine⟨bw,cs,h1,h2,?_,h4⟩;rw[hg.block bw (lt_of_heap h3) (fun e=>?_)]
   ·exact h3
   obtain⟨_,o,ho,hc⟩:=hr bw e.symm;rw[h3]at ho;cases ho;cases hc
  case assign=>
   intro l pre x W K hI hK;obtain⟨gu,cu,hu,_⟩:=aIQ.out x.1 x.2;(have hv:IU D.back us x= .agg #[iV (D.back[x].1:Int),sV gu 512 cu,iV ((x.1:Nat):Int)]:=by unfold IU;rw[gH,hu];rfl);rw[hv];have hI2:=(FlI.own (w1:=w1) (gf:=g) (n:=n) (c:=c) (fast:=D.fast) (l:=D.back) aD).alloc (.cells #[iV (D.back[x].1:Int),sV gu 512 cu,iV ((x.1:Nat):Int)] 137) hI;have hK':=hK _ _ ((KeepsOthers.alloc W (.cells #[iV (D.back[x].1:Int),sV gu 512 cu,iV ((x.1:Nat):Int)] 137)).from _) (zA.below ((Below.refl _ W).alloc (hI.1.size) _)) hI2 ⟨W.heap.size,_,hv,hI.1.size,heap_alloc_new W _,rfl⟩;rw[hv]at hK';clear hK hI2 hI
   gi_wp2
   exact hK'
  case body=>
   rintro l pre x a' W hl _ hI ⟨bw,cs,h1,h2,h3,rfl⟩ hpl;obtain⟨gu,cu,hu,aV3,aV4,hsrc⟩:=aIQ.out x.1 x.2;have hx:=hD.back D.back[x] (tK x.2);(have hv:IU D.back us x= .agg #[iV (D.back[x].1:Int),sV gu 512 cu,iV ((x.1:Nat):Int)]:=by unfold IU;rw[gH,hu];rfl);(have hcs:cs=#[iV (D.back[x].1:Int),sV gu 512 cu,iV ((x.1:Nat):Int)]:=by rw[hv]at h1;cases h1;rfl);subst hcs;obtain⟨xa,hxa⟩:∃xa,D.back[x].1=xa:=⟨_,rfl⟩;obtain⟨xb,hxb⟩:∃xb,D.back[x].2=xb:=⟨_,rfl⟩;rw[hxa]at h3 hv hx;rw[hxb]at hx;have d0:=cell_of_row W bw 0 _ _ _ h3;have d1:=cell_of_row W bw 1 _ _ _ h3;simp only[gA,gB,gC]at d0 d1;have e0:=(hI.1.cell (a:=⟨w.heap.size,0,none⟩) IL IL).trans b0;have e1:=(hI.1.cell (a:=⟨p,1,none⟩) (World.block_lt_of_cell? w1 _ b1) (by simpa using aIP)).trans b1;(have hfit:512*xa+512<=n:=by have:=hn'.out;omega);obtain⟨w7,hcp,aIR,hk7,aO3⟩:=acD (P:=Tryz.prog) (w:=W.drew) hI.2 35 35 3 Tryz.underlying35 zL (512*xa) 512 512 ⟨gu,0,none⟩ 512 cu (xb.map mR) (by rw[kV];exact hx.2) (fun j u hj=>by rw[Addr.add_lit,BF];exact hsrc W.drew ((hK1.trans ⟨hI.1.os,hI.1.tape,hI.1.output,hI.1.size,fun k hk hn=>hI.1.block k aD hn⟩)) j u (by rw[<-hxb]at hj;exact hj)) vJ hfit rfl;(have Y8:∀m W,CallsIn (Fence.wide.inRound l) m Tryz.prog 74 #[sV g n c,iV xa] W fun e w'=>e= .returned (.slice (some ⟨g,512*xa,none⟩) 512 512)/\w'=W:=fun m W=>CallsIn.inRound l (callsIn_wide.2 (TL aD (by have:=auO.out;rw[dB hnl.out.symm]at this;exact(Y7 3 this rfl).1) (by have:=auO.out;rw[dB hnl.out.symm]at this;exact(Y7 3 this rfl).2) (by have:=hn'.out;have:=hD.few;omega) W)));rw[hv];(have hpost:ownPostG w1.heap.size (zA w1.heap.size [g]) (FlI w1 g n c D.fast D.back) (fun _ _ _=>False) (pre++[x]) W .normal=fun(a:Act) W'=>KeepsFrom w1.heap.size W W'/\zA w1.heap.size [g] W W'/\FlI w1 g n c D.fast D.back (pre++[x]) W':=rfl);clear hpost;have hI':=Lh hI;have hsrc':=Lh hsrc;clear hI hsrc hst hown1 h1 h3;have e0':W.drew.cell? ⟨w.heap.size,0,none⟩=some (pV p):=e0;have e1':W.drew.cell? ⟨p,1,none⟩=some (sV g n c):=e1;have d0':W.drew.cell? ⟨bw,0,none⟩=some (iV (xa:Int)):=d0;have d1':W.drew.cell? ⟨bw,1,none⟩=some (sV gu 512 cu):=d1;(have aO5:=fun W=>callsIn_wide.1 (CallsIn.outOfRound (Y8 0 W)));clear Y8 e0 e1 d0 d1;refine wpIn_block ?_;have hS0:(W.drew.cell? ⟨w.heap.size,0,none⟩=some (pV p)/\W.drew.cell? ⟨p,1,none⟩=some (sV g n c)/\W.drew.cell? ⟨bw,0,none⟩=some (iV (xa:Int))/\W.drew.cell? ⟨bw,1,none⟩=some (sV gu 512 cu)):=⟨e0',e1',d0',d1'⟩;(have mJ:(w7.cell? ⟨w.heap.size,0,none⟩=some (pV p)/\w7.cell? ⟨p,1,none⟩=some (sV g n c)/\w7.cell? ⟨bw,0,none⟩=some (iV (xa:Int))/\w7.cell? ⟨bw,1,none⟩=some (sV gu 512 cu)):=by(have hc:∀a:Addr,a.block≠g->∀u,W.drew.cell? a=some u->w7.cell? a=some u:=fun a ha u hu=>(World.cell?_of_block (hk7.block _ (World.block_lt_of_cell? _ _ hu) (by simpa using ha))).trans hu);exact⟨hc _ IL _ e0',hc _ (by simpa using aIP) _ e1',hc _ IL _ d0',hc _ IL _ d1'⟩);clear e0' e1' d0' d1';refine XV (S:=fun w'=>w'.cell? ⟨w.heap.size,0,none⟩=some (pV p)/\w'.cell? ⟨p,1,none⟩=some (sV g n c)/\w'.cell? ⟨bw,0,none⟩=some (iV (xa:Int))/\w'.cell? ⟨bw,1,none⟩=some (sV gu 512 cu)) 12 fZ fZ (fun⟨_,_,h⟩=>h) ?_;simp only[mK,nV,kW,Nat.reduceAdd];refine aA 0 hS0 ?_;refine aA 1 hS0 ?_;refine aA 2 hS0 ?_;refine aA 3 hS0 ?_;refine aA 4 hS0 ?_;refine aA 5 hS0 ?_;refine aA 6 hS0 ?_;refine aA 8 hS0 ?_;refine aA 9 hS0 ?_;refine aA 10 hS0 ?_;(refine bG 7 fun K hK=>?_);go_simp;go_at_call 74;refine(aO5 _).mono ?_;rintro e w9 ⟨rfl,h9⟩;obtain rfl:=h9.symm;refine hK _ _ (fun _=>hS0) ?_;clear hK K;(try simp only[Act.put,gD]);refine aW 11 (fun _=>mJ) ?_;refine aR fZ ?_ _;refine⟨?_,?_,?_⟩
   ·exact(KeepsOthers.trans (KeepsOthers.drew W) aO3).from _
   ·exact⟨hk7.os,hk7.tape,hk7.output,hk7.size,fun k hk hn=>hk7.block k (YE hk hI'.out.1.size) hn⟩
   refine⟨hI'.out.1.trans ⟨hk7.os,hk7.tape,hk7.output,hk7.size,fun k hk hn=>hk7.block k (YE hk hI'.out.1.size) hn⟩,?_⟩;(have aO6:lI D.fast ((pre++[x]).map fun i=>D.back[i])=(lI D.fast (pre.map fun i=>D.back[i])).set xa xb:=by rw[kT,mH,KD];unfold lI;rw[QZ,<-hxa,<-hxb];rfl);have hok:=F9 (nb:=nb) hD.fast (l:=pre.map fun i=>D.back[i]) (fun y hy=>by obtain⟨i,_,rfl⟩:=List.mem_map.1 hy;exact hD.back _ (tK i.2));rw[aO6,<-EO hok.size hx.2 (by rw[hok.len];exact hx.1),EA];exact aIR
  case done=>
   intro D' xs W hD' hxs hI hdef;have hxl:lI D.fast (xs.map fun i=>D.back[i])=lI D.fast D.back:=by
    congr 1;apply DN;intro k;have hk:=congrArg (fun l:List Nat=>l[k]?) hxs;simp only[lQ]at hk;rw[lQ];by_cases hkl:k<D.back.length
    ·rw[adX hkl]at hk;obtain⟨i,hi,e⟩:=QW.1 hk;rw[hi,gE hkl];subst e;rfl
    have hk2:(List.range D.back.length)[k]? =none:=D7 (by rw[QY];omega);rw[hk2]at hk;rw[adW.1 hk,D7 aD];rfl
   have hok:=F9 (nb:=nb) hD.fast (l:=D.back) hD.back;(have aIT:(lI D.fast D.back).flatten.length=n:=by rw[mV hok.size,hok.len,hn'.out]);have h3:=auO.out;rw[dB hnl.out.symm]at h3;have hK:oD w1 W [g]:=⟨hI.1.os,hI.1.tape,hI.1.output,hI.1.size,hI.1.block⟩;have hSW:=h3.step (A':=.star (aL (sV g n c) (lI D.fast D.back).flatten) (.obj D' (.deferred (some [])))) 3 rfl (w':=W) fun F ⟨ho,hF⟩ hFb=>by
    refine⟨F++[D'],⟨?_,F,[D'],rfl,⟨?_,hF⟩,hdef,rfl⟩,fun b hb=>?_,by rw[hF];exact hK⟩
    ·rw[hF];simp[Value.ownBlock];omega
    ·rw[aIT,<-hxl];exact hI.2
    rcases gX.1 hb with hb|hb
    ·exact .inl hb
    rw[BB]at hb;subst hb;exact .inr hD'
   (have fC:Sep w0 W (jD p vn (sV g n c) (.slice Ab D.back.length cb) D.off D.left::aL (sV g n c) (lI D.fast D.back).flatten:: .obj D' (.deferred (some []))::aL vn D.now.flatten::(List.zipWith (fun u (x:Nat×List UInt8)=>aL u x.2) us D.back++R)):=by have hz:Sep w0 W (bK.star (aL (sV g n c) (lI D.fast D.back).flatten) (.obj D' (.deferred (some [])))::jD p vn (sV g n c) (.slice Ab D.back.length cb) D.off D.left::aL vn D.now.flatten::(List.zipWith (fun u (x:Nat×List UInt8)=>aL u x.2) us D.back++R)):=Sep.drop 1 (Sep.dE [0,3,1,2] hSW aQ bM);exact Sep.dE [2,0,1,3] hz.kX aQ bM);have hS5:Sep w0 (W.setCell ⟨p,2,none⟩ (.slice none 0 0)) (jD p vn (sV g n c) (.slice none 0 0) D.off D.left::aL (sV g n c) (lI D.fast D.back).flatten:: .obj D' (.deferred (some []))::aL vn D.now.flatten::(List.zipWith (fun u (x:Nat×List UInt8)=>aL u x.2) us D.back++R)):=fC.bS 0 rfl 2 (.slice none 0 0);have hstep:=as9 hS5 hD.left;have WH:=fC.yF 0 rfl;have g2:=WH.c2;have gf:=WH.fz 2;have g0:=(hI.1.cell (a:=⟨w.heap.size,0,none⟩) IL IL).trans b0;(have g0':(W.setCell ⟨p,2,none⟩ (.slice none 0 0)).cell? ⟨w.heap.size,0,none⟩=some (pV p):=by have hpl:=World.block_lt_of_cell? w _ c1;rw[World.cell?_setCell_other _ _ _ _ (by intro e;have h9:=congrArg Addr.block e;simp only at h9 hpl;omega)];exact g0);clear WH hst hown1 b0 b1 b2 b9;go_wp2_with(go_at_call 75;refine hstep.mono ?_;rintro e w8 ⟨rfl,vD⟩);refine⟨by simp,.inl ⟨_,_,rfl,run_takeDeferred (vD.aBY 2 rfl),?_⟩⟩;have nM:=vD.putObj 2 (.deferred none) rfl;refine⟨.int .i64 0,?_,rfl,?_⟩
   ·simp[results,Tryz.f27,go_sem]
   (try simp only[I8,if_false]);refine Sep.zQ (D:=D.fl) (vn:=vn) (vf:=sV g n c) (vb:=.slice none 0 0) ?_;unfold DK.fl;rw[DK.EE,DK.NJ,DK.AA,DK.agI,DK.ZQ];(have aO7:Sep w0 (w8.putObj D' (.deferred none)) (jD p vn (sV g n c) (.slice none 0 0) (if 0<D.left then decide (D.left=1)else D.off) (if 0<D.left then D.left-1 else D.left)::aL (sV g n c) (lI D.fast D.back).flatten::aL vn D.now.flatten::R):=by have h1:=nM;have h2:Sep w0 (w8.putObj D' (.deferred none)) ((List.zipWith (fun u (x:Nat×List UInt8)=>aL u x.2) us D.back)++(jD p vn (sV g n c) (.slice none 0 0) (if 0<D.left then decide (D.left=1)else D.off) (if 0<D.left then D.left-1 else D.left)::aL (sV g n c) (lI D.fast D.back).flatten:: .obj D' (.deferred none)::aL vn D.now.flatten::R)):=h1.perm (aBX _ _ _ _ _ _).symm;exact Sep.drop 1 (Sep.dE [2,0,1,3] h2.snd aQ bM));have hnil:=Sep.NF (l:=[]) (us:=[]) rfl (by simpa[fM]using aO7.dX 137 3);exact Sep.dE [1,3,2,0] hnil aQ bM
  intro D' c' pre W hD' _ h;exact h.elim
end Go.Proofs.YteihmbaimbogaaaGreat
