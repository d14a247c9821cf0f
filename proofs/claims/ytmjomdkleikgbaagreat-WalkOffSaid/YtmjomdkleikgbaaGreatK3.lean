/- Parts. -/
import Derived.Test.YtmjomdkleikgbaaGreatK2
import Derived.RangeFuncNested
import Derived.RangeFuncBound
import Derived.RangeFuncCalls
import Derived.RangeFuncLeaves
import Derived.RangeFuncBox
import Derived.Shelf.Abstract
import Derived.OwnWalkIn
import Derived.TacticsInMore
import Derived.LoopNIn
import Derived.LoopIn
set_option linter.unusedVariables false
set_option linter.unusedSimpArgs false
set_option maxRecDepth 100000
set_option maxHeartbeats 20000000
namespace Go.Proofs.YtmjomdkleikgbaaGreat
open Go.RowKit
theorem anP :(Tryz.prog.info? 143).map (fun i=>(i.zero,i.size,i.bytes))=some (some (.agg #[iV 0,.slice none 0 0,iV 0]),3,40):=by kernel_rfl
theorem Sep.XB {w0 w:World} {R:List aW} {v:Value} {l:List (Nat×List UInt8)} (h:Sep w0 w (FB v l::R)):∃us:List Value,us.length=l.length/\Sep w0 w (.sl 143 3 v l.length (eT l us)::(List.zipWith (fun u (x:Nat×List UInt8)=>aI u x.2) us l++R)):=by obtain⟨us,h⟩:=h.NP;obtain⟨hl,h⟩:=h.jO.V5;have h2:=h.jO;exact⟨us,hl,(h2.perm (List.Perm.swap _ _ _)).bG.perm lD⟩
theorem Sep.KX {w0 w:World} {R:List aW} {v:Value} {l:List (Nat×List UInt8)} {us:List Value} (hl:us.length=l.length) (h:Sep w0 w (.sl 143 3 v l.length (eT l us)::(List.zipWith (fun u (x:Nat×List UInt8)=>aI u x.2) us l++R))):Sep w0 w (FB v l::R):=by have h1:=h.perm lD.symm;have h2:=(h1.dC.perm (List.Perm.swap _ _ _)).mD;exact Sep.NQ us (Sep.mD (h2.V6 hl))
theorem Sep.dV {w0 w:World} {As:List aW} {e:TypeId} {sz n:Nat} {v:Value} {cs:List Value} (i:Nat) (h:Sep w0 w As) (hi:As[i]? =some (.sl e sz v n cs)):∃A c,v= .slice A n c:=by obtain⟨A,cap,e,_⟩:=h.gL i hi;exact⟨A,cap,e⟩
theorem ar9 {α:Type} (X R:List α) (a b c:α):(X++a::b::c::R).Perm (a::b::c::(X++R)):=
 lD.trans (List.Perm.cons _ (lD.trans (List.Perm.cons _ lD)))
theorem azS {α:Type} (X R:List α) (a b c d:α):(X++a::b::c::d::R).Perm (a::b::c::d::(X++R)):=
 lD.trans (List.Perm.cons _ (ar9 X R b c d))
theorem DK.H8 (D:DK):D.step.now=D.now:=by unfold DK.step;split<;>rfl
theorem DK.XC (D:DK):D.step.fast=D.fast:=by unfold DK.step;split<;>rfl
theorem DK.EB (D:DK):D.step.back=D.back:=by unfold DK.step;split<;>rfl
theorem DK.aeC (D:DK):D.step.off=if 0<D.left then decide (D.left=1)else D.off:=by unfold DK.step;split<;>rfl
theorem DK.XD (D:DK):D.step.left=if 0<D.left then D.left-1 else D.left:=by unfold DK.step;split<;>rfl
theorem RZ {l:List (Nat×List UInt8)} {us:List Value} (hl:us.length=l.length) (x:Nat×List UInt8) (u:Value):eT (l++[x]) (us++[u])=eT l us++BS (x,u) l.length:=by unfold eT;rw[List.zip_append hl.symm,ajZ,Y3];simp[hl]
theorem ah1 {w0 w:World} {R:List aW} {p nb i:Nat} {D:DK} {v:Value} {bs:List UInt8} (hD:D.ok nb) (hi:i<nb) (hbs:bs.length=512) (l7:D.back.length<65536) (hv:jI w0 R v bs) (h:Sep w0 w (aO p D::R)):
  Calls Tryz.prog 256 #[pV p,iV i,v] w fun e w'=>
   e= .returned (iV (if D.off=true then 11 else 0))/\Sep w0 w' (aO p (if D.off=true then D else D.wr i bs)::R):=by
 obtain⟨k0,pR,hk0,hk1,hk2⟩:=iR mE
 obtain⟨j0,aAV,hj0,hj1,hj2⟩:=iR anP
 have h00:=Lh h
 obtain⟨vn,vf,vb,h⟩:=h.uH
 have hfl:=lL hD.now.size
 have hlen:=hD.now.len
 have hnb:=hD.few
 obtain⟨g,n,c,rfl,hnl,hc,hm⟩:=h.yX 1 rfl (by have:=hD.some;omega)
 have hn:n=512*nb:=by rw[hnl.out,hfl,hlen]
 have hC:=Lh (h.wO 0 rfl)
 have hth:=akO hC.out hn hnb hi
 have KP:=fun W=>QS (g:=g) (c:=c) (n:=n) (i:=i) aD hc hm aD W
 have hvb:BytesAt w v bs:=hv.now (X:=[_,_,_,_]) h
 obtain⟨A,cv,rfl,_⟩:=hvb.shape
 obtain⟨m,hm⟩:∃m,bs.length=m:=⟨_,rfl⟩
 rw[hm]at hbs
 subst hbs
 rw[hm]at hv hvb ⊢
 --the list of writes
 have hp0:Sep w0 w (FB vb D.back::iE p (sV g n c) vf vb D.off D.left::aI (sV g n c) D.now.flatten::aI vf D.fast.flatten::R):=Sep.dB [3,0,1,2] h aR bK
 obtain⟨us,NW,hp1⟩:=Sep.XB hp0
 have hp:Sep w0 w (.sl 143 3 vb D.back.length (eT D.back us)::iE p (sV g n c) vf vb D.off D.left::aI (sV g n c) D.now.flatten::aI vf D.fast.flatten::(List.zipWith (fun u (x:Nat×List UInt8)=>aI u x.2) us D.back++R)):=hp1.perm (List.Perm.cons _ (ar9 _ _ _ _ _))
 obtain⟨Z,hZ⟩:∃Z,Z=List.zipWith (fun u (x:Nat×List UInt8)=>aI u x.2) us D.back++R:=⟨_,rfl⟩
 rw[<-hZ]at hp
 have hvZ:jI w0 Z (.slice A 512 cv) bs:=hZ▸hv.more
 replace hZ:=Lh hZ
 clear hp1
 obtain⟨Ab,cb,aAW,hbc,hbm,_⟩:=hp.gL 0 rfl
 subst aAW
 obtain⟨L,hL⟩:∃L,D.back.length=L:=⟨_,rfl⟩
 rw[hL]at hp
 have c2:=hC.out.c2
 rw[hL]at c2
 have q1:decide ((65536:Int)<=(L:Int))=false:=decide_eq_false aD
 have hLs:=Lh (show L<65536 by omega)
 have hlen':=Lh hlen
 have al1:=Lh hfl
 have hn':=Lh hn
 have hp':=Lh hp
 have hm':=Lh hm
 have aKM:=Lh hvb
 have hL':=Lh hL
 have asA:=Lh NW
 clear hlen hfl hn hp hm hvb hp0 h hL NW l7
 cases hoff:D.off with
 |true=>simp only[hoff,if_true,J4,if_false]at hth;clear KP hC;go_enter Tryz.func256,Tryz.ntmps256;clear q1;go_wp2_with(go_at_call 258;refine hth.mono ?_;rintro e w9 ⟨rfl,h9⟩;obtain rfl:=h9.symm);go_ret;exact⟨rfl,h00.out⟩
 |false=>
  simp only[hoff,if_true,J4,if_false]at hth;have c0:=hC.out.c0;have hS5:=Lh (hp'.out.drew.gZ 5 1);have e2:w.drew.cell? ⟨p,2,none⟩=some (.slice Ab L cb):=c2;clear hC;go_enter Tryz.func256,Tryz.ntmps256;go_wp2_with(go_at_call 258;refine hth.mono ?_;rintro e w9 ⟨rfl,h9⟩;obtain rfl:=h9.symm);clear hth q1;refine aP (S:=fun w'=>w'.cell? ⟨p,2,none⟩=some (.slice Ab L cb)) 19 ?_;refine aA 0 e2 ?_;refine aA 1 e2 ?_;refine aA 2 e2 ?_;refine aA 3 e2 ?_;refine aA 4 e2 ?_;refine aA 5 e2 ?_;refine aA 6 e2 ?_;refine aA 9 e2 ?_;refine aA 10 e2 ?_;refine aA 11 e2 ?_;refine aA 12 e2 ?_;refine aA 13 e2 ?_;(refine bI 7 fun K hK=>?_);refine jH 0 EL _ _ 69 EL 5 k0 (.int .u8 0) 1 1 Tryz.underlying69 pR hk0 hk1 hk2 rfl aR hS5.out (.slice none 0 0) 0 [] EL aEv (.slice A 512 cv) 512 (bs.map kY) aEv (by have:=aKM.out;unfold BytesAt at this;rw[hm'.out]at this;exact this) rT vX aD ?_;intro v3 w3 dQ hz3;(try simp only[GU,GZ,mI]at dQ);have vI:=Lh dQ;have e3:=(dQ.wO 2 rfl).c2;have hf3:=dQ.dV 0 rfl;clear hz3 dQ hS5 e2;obtain⟨A3,c3,hv3⟩:=hf3;subst hv3;refine hK _ _ (fun _=>e3) ?_;clear hK K;(try simp only[Act.put,gD]);refine bA 8 (fun _=>e3) ?_;refine bA 14 (fun _=>e3) ?_;have jT:=vI.out.alloc (.cells #[iV i,.slice A3 512 c3,iV L] 143);have e4:=(jT.wO 2 rfl).c2;refine bA 15 (fun _=>e4) ?_;(refine bI 16 fun K hK=>?_);refine jH 1 EL _ _ 120 EL 143 j0 _ 3 40 Tryz.underlying120 aAV hj0 hj1 hj2 rfl aR jT (.slice Ab L cb) L (eT D.back us) EL EL (sV w3.heap.size 1 1) 1 [.int .i64 i,.slice A3 512 c3,.int .i64 L] EL
   ⟨rfl,_,_,rfl,iC _,by unfold maxLen;omega,fun _=>⟨_,rfl,by rw[World.size_alloc];exact J5 _,jP w3 #[iV i,.slice A3 512 c3,iV L] 143 _ rfl⟩⟩ oCl (by have:=hLs.out;unfold maxLen;omega) (by have:=hLs.out;omega) ?_
  intro v5 w5 hS5 hz5;simp only[M6,GU]at hS5;have R4:=Lh hS5;have hf5:=hS5.dV 1 rfl;have hC5:=hS5.wO 2 rfl;have e5:=hC5.c2;have f5:=hC5.fz 2;clear hz5 hS5 jT e4 hC5 e3;obtain⟨A5,c5,hv5⟩:=hf5;subst hv5;refine hK _ _ (fun _=>e5) ?_;clear hK K;(try simp only[Act.put,gD]);refine bA 17 (fun _=>e5) ?_;refine bA 18 (fun _=>e5) ?_;refine bA 19 (fun h=>absurd rfl h) ?_;refine aQ fE ?_ _;(have kM:Hid (Sep w0 (w5.setCell ⟨p,2,none⟩ (.slice A5 (L+1) c5)) (.sl 5 1 (.slice A3 512 c3) 512 (bs.map kY):: .sl 143 3 (.slice A5 (L+1) c5) (L+1) (eT D.back us++BS ((i,bs),.slice A3 512 c3) L)::iE p (sV g n c) vf (.slice A5 (L+1) c5) D.off D.left:: .sl 5 1 (sV g n c) n (D.now.flatten.map kY)::aI vf D.fast.flatten::Z)):=by rw[<-bV hnl.out.symm];exact R4.out.bS 2 rfl 2 (.slice A5 (L+1) c5));have d0:=(kM.out.wO 2 rfl).c0;have hs6:Hid (BytesAt (w5.setCell ⟨p,2,none⟩ (.slice A5 (L+1) c5)) (.slice A 512 cv) bs):=hvZ.now (X:=[_,_,_,_,_]) kM.out;obtain⟨w7,hcp,nI,hz7⟩:=kM.out.acD (P:=Tryz.prog) 3 rfl 69 69 3 Tryz.underlying69 xO (512*i) 512 512 (.slice A 512 cv) 512 (bs.map kY) (by have:=hs6.out;unfold BytesAt at this;rw[hm'.out]at this;exact this) rT (by have:=hn'.out;omega);(have vY:Hid (Sep w0 w7 (iE p (sV g n c) vf (.slice A5 (L+1) c5) D.off D.left:: .sl 5 1 (.slice A3 512 c3) 512 (bs.map kY):: .sl 143 3 (.slice A5 (L+1) c5) (L+1) (eT D.back us++BS ((i,bs),.slice A3 512 c3) L):: .sl 5 1 (sV g n c) n (oM (D.now.flatten.map kY) (512*i) (bs.map kY))::aI vf D.fast.flatten::Z)):=by have e9:(bs.map kY).take (min 512 512)=bs.map kY:=pM (by rw[iJ,hm'.out];exact iC _);rw[e9]at nI;exact Sep.dB [2,0,1] nI aR bK);have hst:=aq4 vY.out hD.left;have aRW:(Builtin.copy_ #[69,69] 3 #[.slice (some ⟨g,512*i,none⟩) 512 512,.slice A 512 cv]).run Tryz.prog (w5.setCell ⟨p,2,none⟩ (.slice A5 (L+1) c5))= .ok (.int .i64 512) w7:=hcp;clear R4 vI f5 e5 hcp nI hz7;go_wp2_with(first |(go_at_call 81;refine(KP _).mono ?_;rintro e w9 ⟨rfl,h9⟩;obtain rfl:=h9.symm)|(go_at_call 257;refine hst.mono ?_;rintro e w8 ⟨rfl,zX⟩));(all_goals go_ret);all_goals
   refine⟨rfl,?_⟩
   refine Sep.uI (D:=D.wr i bs) (vn:=sV g n c) (vf:=vf) (vb:=.slice A5 (L+1) c5) ?_
   have x1:oM (D.now.flatten.map kY) (512*i) (bs.map kY)=((D.now.set i bs).flatten).map kY:=by rw[<-BC,BR hD.now.size hm'.out (by rw[hD.now.len];exact hi)]
   have x2:(D.now.set i bs).flatten.length=n:=by rw[lL (hD.now.set i hm'.out).size,(hD.now.set i hm'.out).len,hn'.out]
   have x3:aI (sV g n c) (D.wr i bs).now.flatten= .sl 5 1 (sV g n c) n (oM (D.now.flatten.map kY) (512*i) (bs.map kY)):=by rw[x1];unfold DK.wr;rw[DK.H8];exact bV x2
   rw[x3]
   unfold DK.wr
   rw[DK.XC,DK.EB,DK.aeC,DK.XD]
   have y1:Sep w0 w8 (.sl 143 3 (.slice A5 (L+1) c5) (D.back++[(i,bs)]).length (eT (D.back++[(i,bs)]) (us++[.slice A3 512 c3]))::(List.zipWith (fun u (x:Nat×List UInt8)=>aI u x.2) (us++[.slice A3 512 c3]) (D.back++[(i,bs)])++(iE p (sV g n c) vf (.slice A5 (L+1) c5) (if 0<D.left then decide (D.left=1)else D.off) (if 0<D.left then D.left-1 else D.left):: .sl 5 1 (sV g n c) n (oM (D.now.flatten.map kY) (512*i) (bs.map kY))::aI vf D.fast.flatten::R))):=by rw[RZ asA.out,jM,oL,hL'.out,List.zipWith_append asA.out,pG];rw[hZ.out]at zX;have y0:Sep w0 w8 (.sl 143 3 (.slice A5 (L+1) c5) (L+1) (eT D.back us++BS ((i,bs),.slice A3 512 c3) L):: .sl 5 1 (.slice A3 512 c3) 512 (bs.map kY)::iE p (sV g n c) vf (.slice A5 (L+1) c5) (if 0<D.left then decide (D.left=1)else D.off) (if 0<D.left then D.left-1 else D.left):: .sl 5 1 (sV g n c) n (oM (D.now.flatten.map kY) (512*i) (bs.map kY))::aI vf D.fast.flatten::(List.zipWith (fun u (x:Nat×List UInt8)=>aI u x.2) us D.back++R)):=Sep.dB [2,1,0,3,4] zX aR bK;(have e:List.zipWith (fun u (x:Nat×List UInt8)=>aI u x.2) [.slice A3 512 c3] [(i,bs)]=[.sl 5 1 (.slice A3 512 c3) 512 (bs.map kY)]:=by(show [aI (.slice A3 512 c3) bs]=_);rw[bV hm'.out]);rw[e];exact y0.perm (List.Perm.cons _ (azS _ _ _ _ _ _).symm)
   have y2:=Sep.KX (by rw[jM,jM,asA.out];rfl) y1
   exact Sep.dB [1,2,3,0] y2 aR bK
end Go.Proofs.YtmjomdkleikgbaaGreat
namespace Go.Proofs.YtmjomdkleikgbaaGreat
open Go.RowKit Go.Shelf
attribute [local go_sem] Oper.semAt_some
structure xC (n₀:Nat) (F:List Nat) (W W':World):Prop where
 os:W'.os=W.os
 tape:W'.tape=W.tape
 output:W'.output=W.output
 size:W.heap.size<=W'.heap.size
 block:∀k,k<n₀->k∉F->W'.heap[k]? =W.heap[k]?
theorem xC.refl (n₀:Nat) (F:List Nat) (W:World):xC n₀ F W W:=⟨rfl,rfl,rfl,iC _,fun _ _ _=>rfl⟩
theorem xC.trans {n₀:Nat} {F:List Nat} {A B C:World} (h:xC n₀ F A B) (k:xC n₀ F B C):xC n₀ F A C:=
 ⟨k.os.trans h.os,k.tape.trans h.tape,k.output.trans h.output,AY h.size k.size,fun i hi hn=>(k.block i hi hn).trans (h.block i hi hn)⟩
theorem xC.putObj {n₀:Nat} {F:List Nat} {w:World} (hn:n₀<=w.heap.size) (W:World) (l:Nat) (o o':Obj) (hl:w.heap.size<=l) (h:W.heap[l]? =some o) (_:o.isCells=false) (_:o.isWalk=false):xC n₀ F W (W.putObj l o'):=by have hg:=grownBy_putObj' W l o';exact⟨hg.os,hg.tape,hg.output,hg.size,fun k hk _=>hg.block k (by have:=(Array.getElem?_eq_some_iff.1 h).1;omega) (fun e=>by cases e;omega)⟩
theorem xC.below {n₀:Nat} {F:List Nat} {W W':World} (h:Below n₀ W W'):xC n₀ F W W':=⟨h.os,h.tape,h.output,h.size,fun k hk _=>h.block k hk⟩
theorem xC.cell {n₀:Nat} {F:List Nat} {W W':World} (h:xC n₀ F W W') {a:Addr} (ha:a.block<n₀) (hf:a.block∉F):W'.cell? a=W.cell? a:=World.cell?_of_block (h.block _ ha hf)
def zA (n₀:Nat) (F:List Nat) (W:World) (A:Option Addr) (cs:List Value):Prop:=∀j u,cs[j]? =some u->∃g,A=some ⟨g,0,none⟩/\g<n₀/\g∉F/\W.cell? ⟨g,j,none⟩=some u
theorem zA.kept {n₀:Nat} {F:List Nat} {W W':World} {A:Option Addr} {cs:List Value} (h:zA n₀ F W A cs) (hk:xC n₀ F W W'):zA n₀ F W' A cs:=fun j u hj=>by obtain⟨g,e,h1,h2,h3⟩:=h j u hj;exact⟨g,e,h1,h2,(hk.cell (a:=⟨g,j,none⟩) h1 h2).trans h3⟩
theorem aaN {l:List (Nat×List UInt8)} {us:List Value} (hl:us.length=l.length) {k:Nat} (hk:k<l.length) (j:Nat) (hj:j<3):(eT l us)[k*3+j]? =(BS (l[k],us[k]'aD) k)[j]? :=by
 unfold eT;have h1:((l.zip us).zipIdx)[k]? =some ((l[k],us[k]'aD),k):=by rw[List.getElem?_zipIdx];(have:(l.zip us)[k]? =some (l[k],us[k]'aD):=by rw[List.getElem?_zip_eq_some];exact⟨gE hk,gE aD⟩);rw[this];simp
 have gen:∀(xs:List (((Nat×List UInt8)×Value)×Nat)) (i:Nat) (x:((Nat×List UInt8)×Value)×Nat),xs[i]? =some x->(xs.flatMap fun x=>BS x.1 x.2)[i*3+j]? =(BS x.1 x.2)[j]? :=by
  intro xs
  induction xs with
  |nil=>intro i x h;simp at h
  |cons y ys ih=>
   intro i x h;cases i with
   |zero=>simp at h;subst h;rw[xI,L8,GZ,EI (by simpa[BS]using hj)]
   |succ i=>rw[xI,vT (by simp[BS];omega)];have:=ih i x (by simpa using h);rw[<-this];congr 1;simp[BS];omega
 exact gen _ k _ h1
def FD (l:List (Nat×List UInt8)) (us:List Value) (i:Fin l.length):Value:=.agg #[iV (l[i].1:Int),us.getD i undef,iV ((i.1:Nat):Int)]
theorem ah2 (F:Fence) (n:Nat) (h7:F.fn 149) (hro:F.round=none) (hn:1<=n) (ll Bs p n₀ c:Nat) (G:List Nat) (A:Option Addr) (l:List (Nat×List UInt8)) (us:List Value) (hl:us.length=l.length) (hsh:∀u∈us,∃A c,u= .slice A 512 c) (hc:l.length<=c) (hm:c<=maxLen) (J Jx:List (Fin l.length)->World->Prop)
  (W:World) (hJ:AbidesFrom W.heap.size J)
  (hY:∀pre x W,J pre W->pre.length<l.length->YieldAt F (n-1) Tryz.prog ll #[FD l us x] W fun e W'=>
   (e= .returned (.bool true)/\J (pre++[x]) W'/\xC n₀ G W W')\/(e= .returned (.bool false)/\Jx (pre++[x]) W'))
  (hn0:n₀<=W.heap.size) (hBs:W.cell? ⟨Bs,0,none⟩=some (pV p)) (hp:W.cell? ⟨p,2,none⟩=some (.slice A l.length c)) (hr:zA n₀ G W A (eT l us)) (h0:J [] W):
  CallsIn F n Tryz.prog 149 #[.func (.yield ll) #[] #[],pV Bs] W fun e W'=>(∃v,e= .returned v)/\
   ((∃ys:List (Fin l.length),ys.map (·.1)=List.range l.length/\J ys W')\/(∃pre:List (Fin l.length),True/\Jx pre W')):=by
 have hm':(l.length:Int)<=9223372036854775807:=by unfold maxLen at hm;omega
 refine callsIn_of_wp Tryz.func149 rfl h7 ?_ hro
 simp only[Tryz.ntmps149,uB,kH,qQ,Nat.reduceAdd,Nat.reduceSub,xD,xE,xH,xG,mI,kI]
 obtain⟨N,hN⟩:∃N,l.length=N:=⟨_,rfl⟩
 simp only[hN]at hm' hp hc
 gi_wp2
 gi_loopw [10] (fun i wr=>∃(k:Nat) (pre:List (Fin l.length)),k<=N/\i=iV k/\pre.map (·.1)=List.range k/\J pre wr/\xC n₀ G W wr)
  (fun i _=>N-(intOf i).toNat)
 case atStart=>exact⟨0,[],fZ _,rfl,rfl,h0,xC.refl _ _ _⟩
 case round=>
  obtain⟨k,pre,hk,rfl,hpre,hJs,hnx⟩:=hrel;by_cases hlt:k<N
  ·(have hk':k<l.length:=by omega);have hrow:=hr.kept hnx;(have hat:=fun j hj=>aaN hl hk' j hj);obtain⟨g,hA,_,_,c0⟩:=hrow (k*3) _ (hat 0 aD);obtain⟨g1,hA1,_,_,c1⟩:=hrow (k*3+1) _ (hat 1 aD);obtain⟨g2,hA2,_,_,c2⟩:=hrow (k*3+2) _ (hat 2 aD);subst hA;cases hA1;cases hA2;(have hb1:(0:Int)<=(k:Int):=by omega);(have hb2:(k:Int)<(N:Int):=by omega);obtain⟨Au,cu,hu⟩:=hsh (us[k]'aD) (nW _);(have hval:FD l us ⟨k,hk'⟩= .agg #[iV ((l[k].1:Nat):Int),.slice Au 512 cu,iV (k:Int)]:=by unfold FD;simp only[gH,gE (show k<us.length by omega),GX,hu];rfl);rw[hu]at c1;obtain⟨x0,hx0⟩:∃x0,l[k].1=x0:=⟨_,rfl⟩;rw[hx0]at c0 hval;obtain⟨W2,hW2⟩:∃W2,W2=wr.alloc (.cells #[iV (x0:Int),.slice Au 512 cu,iV (k:Int)] 143):=⟨_,rfl⟩;(have hB:Below wr.heap.size wr W2:=by rw[hW2];exact(Below.refl _ wr).alloc (iC _) _);have hJ2:J pre W2:=hJ pre wr W2 none hJs ⟨hB.os,hB.tape,hB.output,hB.size,fun k hk _=>hB.block k hk⟩ (fun r e=>by cases e);obtain⟨fn,tmps,assign,body,hy,hR⟩:=hY pre ⟨k,hk'⟩ W2 hJ2 (by have:=congrArg List.length hpre;simp at this;omega);rw[hval,hW2]at hy;rw[hW2]at hR;have hB':=Lh hB;have hrow':=Lh hrow;have hr':=Lh hr;clear hB hrow hr hat hval hsh hu hJ2 hY hJ;have hsz:n₀<=wr.heap.size:=AY hn0 hnx.size;clear hW2
   gi_wp2
   refine hR.mono ?_;rintro e W3 (⟨rfl,hJ3,hk3⟩|⟨rfl,hJx3⟩)
   ·gi_wp2
    go_roundw
    case rel=>refine⟨k+1,pre++[⟨k,hk'⟩],by omega,by simp,?_,hJ3,(hnx.trans (xC.below ((Below.refl _ wr).alloc (iC _) _|>.mono hsz))).trans hk3⟩;rw[mZ,hpre,OX];rfl
    case measure=>simp[intOf];omega
   gi_wp2
   refine bodyPost_ret (results_none rfl _ _ _) rfl ?_;exact⟨⟨_,rfl⟩,.inr ⟨_,trivial,hJx3⟩⟩
  obtain rfl:k=N:=by omega
  gi_wp2
  go_end0
  exact⟨⟨_,rfl⟩,.inl ⟨_,hpre.trans (by rw[hN]),hJs⟩⟩
theorem aaO (F:Fence) (n:Nat) (h7:F.fn 149) (hro:F.round=none) (hn:1<=n) (Bs p n₀ c:Nat) (G:List Nat) (A:Option Addr) (l:List (Nat×List UInt8)) (us:List Value) (hl:us.length=l.length) (hsh:∀u∈us,∃A c,u= .slice A 512 c) (hc:l.length<=c) (hm:c<=maxLen)
  (w:World) (hn0:n₀=w.heap.size) (hBs:w.cell? ⟨Bs,0,none⟩=some (pV p)) (hp:w.cell? ⟨p,2,none⟩=some (.slice A l.length c)) (hr:zA n₀ G w A (eT l us)):
  SeqStopsK F n Tryz.prog 149 #[pV Bs] (fun x:Fin l.length=>#[FD l us x]) (xC n₀ G) (fun ys=>ys.map (·.1)=List.range l.length) (fun _=>True) l.length w:=fun ll J Jx W hW hJ _ hY h0=>by
 have b1:=World.block_lt_of_cell? w _ hBs;have b2:=World.block_lt_of_cell? w _ hp;exact ah2 F n h7 hro hn ll Bs p n₀ c G A l us hl hsh hc hm J Jx W hJ hY (by rw[hn0];exact hW.size) ((hW.cell b1).trans hBs) ((hW.cell b2).trans hp) (hr.kept (xC.below (by rw[hn0];exact hW))) h0
theorem anQ (F:Fence) (n:Nat) (h41:F.fn 80) (hro:F.round=none) (p:Nat) (w:World):
  CallsIn F n Tryz.prog 80 #[pV p] w fun e w'=>e= .returned (.func (.func 149) #[] #[pV w.heap.size])/\w'=w.alloc (.cells #[pV p] 36):=by
 refine callsIn_of_wp Tryz.func80 rfl h41 ?_ hro;simp only[Tryz.ntmps80,uB,kH,qQ,Nat.reduceAdd,Nat.reduceSub,xD,xE,xH,xG,mI,kI]
 gi_wp2
 go_ret;exact⟨rfl,rfl⟩
end Go.Proofs.YtmjomdkleikgbaaGreat
namespace Go.Proofs.YtmjomdkleikgbaaGreat
open Go.RowKit Go.Shelf
attribute [local go_sem] Oper.semAt_some
theorem aaP {P:Program} {w:World} {e:TypeId} {g n c:Nat} {cs:List Value} (h:w.ownsRow 0 e 1 (sV g n c) n cs) (dT sT ty:TypeId) (hu:P.underlying dT=some (.slice e)) (hs:(P.info? e).map (·.size)=some 1)
  (o dLen dCap:Nat) (a:Addr) (m sc:Nat) (src:List Value) (hl:src.length=m) (hr:∀j u,src[j]? =some u->w.cell? (a.add j)=some u) (h1:∀u∈src,u.oneCell'=true) (hfit:o+m<=n) (hd:dLen=m):
  ∃w',(Builtin.copy_ #[dT,sT] ty #[.slice (some ⟨g,o,none⟩) dLen dCap,.slice (some a) m sc]).run P w= .ok (goInt (m:Nat)) w'/\w'.ownsRow 0 e 1 (sV g n c) n (oM cs o src)/\mP w w' [g]/\KeepsOthers w w':=by
 subst hd;obtain⟨hlen,ho⟩:=h;rcases ho with⟨h',_⟩|⟨g',cap',cur,h',hb,hg,hc,hm,hs',ht⟩
 ·simp at h'
 simp only[Value.slice.injEq,VQ,Addr.mk.injEq,and_true,true_and]at h';obtain⟨rfl,rfl⟩:=h';rw[zM]at hs' ht hlen;have hcl:cur.toList.length=c:=by simpa using hs'
 have hrun:=run_copy_row P w dT sT ty e g o dLen dCap a dLen sc cur e src hu hs hg (by rw[hl];exact(Nat.min_self _).symm) hr aD h1;refine⟨_,by rw[hrun,hl],⟨?_,.inr ⟨g,c,_,rfl,hb,setRow_heap w g cur _ e _ hg,hc,hm,?_,?_⟩⟩,?_,?_⟩
 ·rw[adB aD,hlen,zM]
 ·simp only[uB,jM,qP,rZ,hcl];omega
 ·rw[<-ht];unfold oM;simp only[zM];apply GV;intro k;simp only[vV,List.getElem?_append,jM,qP,AV,hcl];by_cases k1:k<o
  ·(have a1:k<min o c:=by omega);(have a2:k<min o (min n c):=by omega);(have a3:k<n:=by omega);(have a4:k<min o c+src.length:=by omega);(have a5:k<min o (min n c)+src.length:=by omega);simp[a1,a2,a3,a4,a5,k1]
  by_cases k2:k<o+src.length
  ·(have a1:¬k<min o c:=by omega);(have a2:¬k<min o (min n c):=by omega);(have a3:k<n:=by omega);(have a4:k<min o c+src.length:=by omega);(have a5:k<min o (min n c)+src.length:=by omega);(have a6:min o c=min o (min n c):=by omega);simp[a2,a3,a5,a6]
  (have a4:¬k<min o c+src.length:=by omega);(have a5:¬k<min o (min n c)+src.length:=by omega);(have a6:o+src.length+(k-(min o c+src.length))=k:=by omega);(have a7:o+src.length+(k-(min o (min n c)+src.length))=k:=by omega);(have a8:o+dLen+(k-(min o c+src.length))=k:=by omega);simp[a4,a5,a6,a7,a8]
 ·exact⟨rfl,rfl,rfl,by simp[World.setRow],fun k _ hn=>setRow_other w g k _ (by simpa[eq_comm]using hn)⟩
 refine⟨by simp[World.setRow],fun k o hk ho=>?_⟩;by_cases e:k=g
 ·subst e;rw[hg]at hk;cases hk;cases ho
 rw[setRow_other w g k _ e];exact hk
def FlI (w1:World) (gf n c:Nat) (fast:gI) (l:List (Nat×List UInt8)) (pre:List (Fin l.length)) (W:World):Prop:=
 xC w1.heap.size [gf] w1 W/\W.ownsRow 0 5 1 (sV gf n c) n ((lG fast (pre.map fun i=>l[i])).flatten.map kY)
theorem FlI.own {w1:World} {gf n c:Nat} {fast:gI} {l:List (Nat×List UInt8)} (hg:gf<w1.heap.size):OwnFrom w1.heap.size (FlI w1 gf n c fast l):=fun s W W' row hs hgr hr=>by
 have hblk:∀k,k<w1.heap.size->W'.heap[k]? =W.heap[k]? :=fun k hk=>hgr.block k (VP hk hs.1.size) (fun e=>by have:=(hr k e.symm).1;omega)
 refine⟨hs.1.trans ⟨hgr.os,hgr.tape,hgr.output,hgr.size,fun k hk _=>hblk k hk⟩,hs.2.1,?_⟩;rcases hs.2.2 with h|⟨g,cap,cur,hv,hb,hh,r⟩
 ·exact .inl h
 refine .inr ⟨g,cap,cur,hv,hb,?_,r⟩;cases hv;rw[hblk _ hg];exact hh
def aW.obj (b:Nat) (o:Obj):aW:=
 ⟨fun w F=>w.heap[b]? =some o/\F=[b],
  fun w w' F h hk=>⟨by rw[hk b (by rw[h.2];simp)];exact h.1,h.2⟩,
  fun w F h=>by rw[h.2];exact⟨by simp,fun b' hb=>by simp at hb;subst hb;exact lt_of_heap h.1⟩⟩
theorem Sep.XE {w0 w:World} {As:List aW} {b:Nat} {o:Obj} (i:Nat) (h:Sep w0 w As) (hi:As[i]? =some (.obj b o)):w.heap[b]? =some o:=by obtain⟨F,⟨ho,_⟩,_⟩:=h.get i hi;exact ho
theorem Sep.putObj {w0 w:World} {As:List aW} {b:Nat} {o:Obj} (i:Nat) (o':Obj) (h:Sep w0 w As) (hi:As[i]? =some (.obj b o)):Sep w0 (w.putObj b o') (As.set i (.obj b o')):=by
 refine h.step i hi fun F ⟨ho,hF⟩ _=>⟨F,⟨?_,hF⟩,fun x hx=>.inl hx,?_⟩
 ·have hlt:=lt_of_heap ho;simp[World.putObj,hlt]
 have hg:=grownBy_putObj' w b o';rw[hF];exact mP.uP hg
def OB (ops:Array Oper):Bool:=ops.toList.all fun o=>match o.op with| .defer _=>false|_=>true
theorem aaQ {ops:Array Oper} (h:OB ops=true) {i:Nat} {o:Oper} (ho:ops[i]? =some o):∀c,o.op≠ .defer c:=by
 intro c e;have h1:o∈ops.toList:=by obtain⟨hi,rfl⟩:=Array.getElem?_eq_some_iff.1 ho;exact Array.mem_def.1 (Array.getElem_mem hi)
 have h2:=(List.all_eq_true.1 h) o h1;rw[e]at h2;cases h2
theorem JG {l n:Nat} {P:Program} {row:String} {args:Array Value} {w:World} {R:Value->World->Prop} (h:Rows P row args w R):RowsIn (Fence.wide.inRound l) n P row args w R:=
 fun c cs _=>let ⟨v,w',r,s⟩:=h c cs;⟨v,w',r,stepsIn_wide.2 s⟩
theorem aaR {l n:Nat} {P:Program} {ops:Array Oper} {Q:Exit->Act->World->Prop} (hd:OB ops=true) (hlo:¬LetsOut Q) {i:Nat} {K K':Act->World->Prop} {a:Act} {w:World} (hK:∀a w,K a w->K' a w) (h:wpOp P ops Q i K a w):wpOpIn (Fence.wide.inRound l) n P ops Q i K' a w:=by
 unfold wpOp at h;unfold wpOpIn;split at h
 ·rename_i ho;simp only[ho];exact hK _ _ h
 rename_i o ho;simp only[ho];split at h
 ·rename_i hw;simp only[hw,if_true];refine⟨fun _ _=>trivial,?_⟩;rw[Oper.semAt_eq _ _ _ (aaQ hd ho)];replace h:=h.resolve_right (fun h=>hlo h.2);unfold Oper.wp at h;generalize(execOp a.eval o).run P w=r at*;cases r with
  |ok x w'=>
   cases x<;>simp only[Oper.upon,Oper.uponIn]at h ⊢ <;>first
    |exact hK _ _ h
    |exact⟨fun h=>by simp[Fence.wide]at h,CallsIn.inRound l (callsIn_wide.2 (h.mono fun e w'' he=>by cases e<;>first |exact hK _ _ he|exact he))⟩
    |exact⟨fun h=>by simp[Fence.wide]at h,RowsIn.mono (JG h) fun _ _ he=>hK _ _ he⟩
    |exact h.elim
  |halt x w'=>cases x<;>simp only[Oper.upon,Oper.uponIn]at h ⊢ <;>first |exact h|exact h.elim
 rename_i hw;simp only[hw,J4,if_false];exact⟨fun _ _=>trivial,hK _ _ h⟩
theorem FE {l n:Nat} {P:Program} {md:Region.Mode} {ops:Array Oper} {Q:Exit->Act->World->Prop} (hd:OB ops=true) (hlo:¬LetsOut Q):∀(f:Nat) (ls:Array Bool) (a:Act) (w:World),wpAny P md ops Q f ls a w->wpAnyIn (Fence.wide.inRound l) n P md ops Q f ls a w
 |0,_,_,_,h=>h
 |f+1,ls,a,w,h=>⟨h.1,fun i hi=>aaR hd hlo (fun a w h=>FE hd hlo f _ a w h) (h.2 i hi)⟩
theorem U5 {l n:Nat} {P:Program} {ops:Array Oper} {Q:Exit->Act->World->Prop} {S:World->Prop} {id:Nat} {a:Act} {w:World} (z:Nat) (hm:P.follows .mixedOrders=true) (hd:OB ops=true) (hlo:¬LetsOut Q)
  (h:KO P .any ops Q S z ops.size (Array.replicate ops.size false) a w.drew):(Code.region id ops true).wpIn (Fence.wide.inRound l) n P Q a w:=
 wpIn_region_any hm (FE hd hlo _ _ _ _ (FX _ _ _ _ h))
theorem zA.mono {n₀ n₁:Nat} {F:List Nat} {W:World} {A:Option Addr} {cs:List Value} (h:zA n₀ F W A cs) (hn:n₀<=n₁):zA n₁ F W A cs:=fun j u hj=>by obtain⟨g,e,h1,h2,h3⟩:=h j u hj;exact⟨g,e,by omega,h2,h3⟩
theorem Z55 {P:Prop} (h:P:=by rw[hu]at hidx;have h3:=hp;rw[bV hnl.out.symm]at h3 hidx;exact(h3.ay0 3 (4+i) aD rfl hidx).symm):P:=h
theorem ah3 {w0 w:World} {R:List aW} {p nb:Nat} {D:DK} (hD:D.ok nb) (h:Sep w0 w (aO p D::R)):
  Calls Tryz.prog 254 #[pV p] w fun e w'=>
   e= .returned (iV (if D.off=true then 11 else 0))/\Sep w0 w' (aO p (if D.off=true then D else D.fl)::R):=by
 have h00:=Lh h
 obtain⟨vn,vf,vb,h⟩:=h.uH
 have hfl:=lL hD.fast.size
 have hlen:=hD.fast.len
 have hnb:=hD.few
 obtain⟨g,n,c,rfl,hnl,hc,hm⟩:=h.yX 2 rfl (by have:=hD.some;omega)
 have hn:n=512*nb:=by rw[hnl.out,hfl,hlen]
 have hp0:Sep w0 w (FB vb D.back::iE p vn (sV g n c) vb D.off D.left::aI vn D.now.flatten::aI (sV g n c) D.fast.flatten::R):=Sep.dB [3,0,1,2] h aR bK
 obtain⟨us,NW,hp1⟩:=Sep.XB hp0
 have hp:Sep w0 w (.sl 143 3 vb D.back.length (eT D.back us)::iE p vn (sV g n c) vb D.off D.left::aI vn D.now.flatten::aI (sV g n c) D.fast.flatten::(List.zipWith (fun u (x:Nat×List UInt8)=>aI u x.2) us D.back++R)):=hp1.perm (List.Perm.cons _ (ar9 _ _ _ _ _))
 obtain⟨Ab,cb,aAW,hbc,hbm,_⟩:=hp.gL 0 rfl
 subst aAW
 --what stands in the list of writes
 have hel:∀i (hi:i<D.back.length),∃gu cu,us[i]? =some (sV gu 512 cu)/\gu<w.heap.size/\gu≠g/\(∀W,xC w.heap.size [g] w W->∀j u,(D.back[i].2.map kY)[j]? =some u->W.cell? ⟨gu,j,none⟩=some u):=by
  intro i hi;have azT:=(hD.back _ (nW hi)).2;(have hz:((List.zipWith (fun u (x:Nat×List UInt8)=>aI u x.2) us D.back)++R)[i]? =some (aI (us[i]'aD) D.back[i].2):=by rw[EI (by simp[NW,hi]),List.getElem?_zipWith,gE aD,gE hi]);rw[bV azT]at hz;(have hidx:(.sl 143 3 (.slice Ab D.back.length cb) D.back.length (eT D.back us)::iE p vn (sV g n c) (.slice Ab D.back.length cb) D.off D.left::aI vn D.now.flatten::aI (sV g n c) D.fast.flatten::(List.zipWith (fun u (x:Nat×List UInt8)=>aI u x.2) us D.back++R))[4+i]? =some (.sl 5 1 (us[i]'aD) 512 (D.back[i].2.map kY)):=by rw[Nat.add_comm];exact hz);obtain⟨gu,cu,hu,_,hlt,_,_⟩:=hp.kC (4+i) hidx aR;refine⟨gu,cu,by rw[gE aD,hu],hlt,?_,fun W hW j u hj=>?_⟩
  ·exact Z55
  (have hne:gu≠g:=by exact Z55);rw[hu]at hidx;rw[hW.cell (a:=⟨gu,j,none⟩) hlt (by simpa using hne),hp.cellAt (4+i) hidx j (by have:=(gF.1 hj).1;rw[iJ,azT]at this;omega)];exact hj
 have hRL:zA w.heap.size [g] w Ab (eT D.back us):=by
  intro j u hj;have hjl:=(gF.1 hj).1;have hpos:0<D.back.length:=by
   rcases yL D.back.length with h0|h0
   ·have:D.back=[]:=vS h0;rw[this]at hjl;simp[eT]at hjl
   exact h0
  obtain⟨gb,cb',e,_,hlt,_,_⟩:=hp.kC 0 rfl hpos;cases e;have h3:=hp;rw[bV hnl.out.symm]at h3;have hne:=h3.ay0 0 3 aD rfl rfl;(have hcl:(eT D.back us).length=D.back.length*3:=by obtain⟨_,_,_,_,_,e⟩:=hp.gL 0 rfl;exact e);refine⟨gb,rfl,hlt,by simpa using hne,?_⟩;rw[hp.cellAt 0 rfl j (by rw[<-hcl];exact hjl)];exact hj
 have hC:=hp.wO 1 rfl
 have c3:=hC.c3
 have c2:=hC.c2
 have c1:=hC.c1
 have hsh:∀u∈us,∃A c,u= .slice A 512 c:=fun u hu=>by obtain⟨i,hi,e⟩:=OQ hu;obtain⟨gu,cu,h1,_⟩:=hel i aD;rw[gE hi,e]at h1;cases h1;exact⟨_,_,rfl⟩
 have hg1:g<w.heap.size:=by obtain⟨g',c',e,_,hlt,_⟩:=hp.kC 3 rfl (by rw[<-hnl.out];have:=hD.some;omega);cases e;exact hlt
 have hown0:w.ownsRow 0 5 1 (sV g n c) n ((lG D.fast []).flatten.map kY):=by have h3:=hp;rw[bV hnl.out.symm]at h3;obtain⟨F,⟨ho,_⟩,_⟩:=h3.get 3 rfl;exact ho
 have aFC:p≠g:=by obtain⟨F,G,⟨_,rfl⟩,⟨_,rfl⟩,hne⟩:=hp.apart 1 3 aD rfl rfl;intro e;exact hne p bK (by simp[Value.ownBlock,e])
 have hp':=Lh hp
 have aFD:=Lh hel
 have aKN:=Lh hRL
 have hsh':=Lh hsh
 have hown':=Lh hown0
 have hn':=Lh hn
 have hlen':=Lh hlen
 have al1:=Lh hfl
 have aKO:=Lh hbm
 have aKP:=Lh hbc
 have asA:=Lh NW
 have hC':=Lh hC
 obtain⟨L,hL⟩:∃L,L=D.back.length:=⟨_,rfl⟩
 rw[<-hL]at c2
 have hL':=Lh hL
 have hmf:∀(fn:Fn) (first cap:Array Value) (w:World),(Instr.makeFunc fn first cap).run Tryz.prog w= .ok (.func fn first cap) w:=fun _ _ _ _=>rfl
 clear hp hel hRL hsh hown0 hn hlen hfl hbm hbc NW hp0 hp1 h hm hc hnb hC hL
 have hB1:Below w.heap.size w (w.alloc (.cells #[pV p] 36)):=(Below.refl _ w).alloc (iC _) _
 have hB2:Below w.heap.size w ((w.alloc (.cells #[pV p] 36)).alloc (.cells #[pV p] 36)):=hB1.alloc bK _
 have hS1:=hp'.out.pure hB1
 have hS2:=hp'.out.pure hB2
 have a3:=(hS1.wO 1 rfl).c3
 have b2:=(hS2.wO 1 rfl).c2
 have b0:((w.alloc (.cells #[pV p] 36)).alloc (.cells #[pV p] 36)).cell? ⟨w.heap.size,0,none⟩=some (pV p):=by simp[go_sem]
 have b9:((w.alloc (.cells #[pV p] 36)).alloc (.cells #[pV p] 36)).cell? ⟨w.heap.size+1,0,none⟩=some (pV p):=by simp[go_sem]
 have b1:=(hS2.wO 1 rfl).c1
 have aeD:=Lh hS2
 have hB2':=Lh hB2
 clear hS1 hB1 hS2 hB2
 refine(callsIn_wide (n:=4)).1 ?_
 refine callsIn_of_wp_marks Tryz.func254 rfl trivial ?_ rfl
 simp only[Tryz.ntmps254,uB,kH,qQ,Nat.reduceAdd,Nat.reduceSub,xD,xE,xH,xG,mI,kI]
 rw[wpIn_wide]
 cases hoff:D.off with
 |true=>
  rw[hoff]at a3;go_wp2_with fail;refine⟨.int .i64 11,?_,?_⟩
  ·simp[results,Tryz.f254,go_sem]
  exact⟨rfl,h00.out.pure ((Below.refl _ w).alloc (iC _) _)⟩
 |false=>
  rw[hoff]at a3;go_wp2_with(go_at_call 80;refine(callsIn_wide.1 (anQ Fence.wide 1 trivial rfl p _)).mono ?_;rintro e w9 ⟨rfl,rfl⟩);obtain⟨w1,hw1⟩:∃w1,(w.alloc (.cells #[pV p] 36)).alloc (.cells #[pV p] 36)=w1:=⟨_,rfl⟩;rw[hw1]at aeD hB2' b0 b1 b2 b9 ⊢;(have hs1:w.heap.size+1+1=w1.heap.size:=by rw[<-hw1];simp);have hK1:xC w.heap.size [g] w w1:=xC.below hB2'.out;have hst:=aaO Fence.wide 3 trivial rfl aR (w.heap.size+1) p w1.heap.size cb [g] Ab D.back us asA.out hsh'.out aKP.out aKO.out w1 rfl b9 (hL'.out▸b2) ((aKN.out.kept hK1).mono aD);(have hown1:w1.ownsRow 0 5 1 (sV g n c) n ((lG D.fast []).flatten.map kY):=by have h3:=aeD.out;rw[bV hnl.out.symm]at h3;obtain⟨F,⟨ho,_⟩,_⟩:=h3.get 3 rfl;exact ho);refine wpIn_wide.1 (wpIn_rangeFunc_ownH (F:=Fence.wide) (n:=4) rfl aR (gf:=149) (lb:=#[pV (w.heap.size+1)]) rfl trivial (enters_of Tryz.func149 fE rfl) hst xC.trans (xC.putObj (iC _)) (Below.refl _ _) (fun _=>rfl)
   (FlI w1 g n c D.fast D.back) (fun _ _ _=>False) (FlI.own aD) (fun _ _ _ _ _ h=>h.elim) ⟨xC.refl _ _ _,hown1⟩
   (fun x a' W=>∃(bw:Nat) (cs:Array Value),FD D.back us x= .agg cs/\w1.heap.size<=bw/\W.heap[bw]? =some (.cells cs 143 (0,0))/\a'= {tmps:=#[pV p,pV w.heap.size,iV 0,pV bw,pV p,pV p,.pointer (some ⟨p,3,none⟩),.bool false,pV p,.func (.func 149) #[] #[pV (w.heap.size+1)],FD D.back us x,undef,undef,undef,undef,undef,undef,undef,undef,undef,undef,undef,undef,undef,undef,undef,undef,undef],defers:=[]})
   ?hax ?assign ?body ?done ?stop)
  case hax=>
   rintro x a' s W W' row ⟨bw,cs,h1,h2,h3,h4⟩ hg hr;refine⟨bw,cs,h1,h2,?_,h4⟩;rw[hg.block bw (lt_of_heap h3) (fun e=>?_)]
   ·exact h3
   obtain⟨_,o,ho,hc⟩:=hr bw e.symm;rw[h3]at ho;cases ho;cases hc
  case assign=>
   intro l pre x W K hI hK;obtain⟨gu,cu,hu,_⟩:=aFD.out x.1 x.2;(have hv:FD D.back us x= .agg #[iV (D.back[x].1:Int),sV gu 512 cu,iV ((x.1:Nat):Int)]:=by unfold FD;rw[gH,hu];rfl);rw[hv];have hI2:=(FlI.own (w1:=w1) (gf:=g) (n:=n) (c:=c) (fast:=D.fast) (l:=D.back) aD).alloc (.cells #[iV (D.back[x].1:Int),sV gu 512 cu,iV ((x.1:Nat):Int)] 143) hI;have hK':=hK _ _ ((KeepsOthers.alloc W (.cells #[iV (D.back[x].1:Int),sV gu 512 cu,iV ((x.1:Nat):Int)] 143)).from _) (xC.below ((Below.refl _ W).alloc (hI.1.size) _)) hI2 ⟨W.heap.size,_,hv,hI.1.size,heap_alloc_new W _,rfl⟩;rw[hv]at hK';clear hK hI2 hI
   gi_wp2
   exact hK'
  case body=>
   rintro l pre x a' W hl _ hI ⟨bw,cs,h1,h2,h3,rfl⟩ hpl;obtain⟨gu,cu,hu,aRX,aRY,hsrc⟩:=aFD.out x.1 x.2;have hx:=hD.back D.back[x] (nW x.2);(have hv:FD D.back us x= .agg #[iV (D.back[x].1:Int),sV gu 512 cu,iV ((x.1:Nat):Int)]:=by unfold FD;rw[gH,hu];rfl);(have hcs:cs=#[iV (D.back[x].1:Int),sV gu 512 cu,iV ((x.1:Nat):Int)]:=by rw[hv]at h1;cases h1;rfl);subst hcs;obtain⟨xa,hxa⟩:∃xa,D.back[x].1=xa:=⟨_,rfl⟩;obtain⟨xb,hxb⟩:∃xb,D.back[x].2=xb:=⟨_,rfl⟩;rw[hxa]at h3 hv hx;rw[hxb]at hx;have d0:=cell_of_row W bw 0 _ _ _ h3;have d1:=cell_of_row W bw 1 _ _ _ h3;simp only[gA,gB,gC]at d0 d1;have e0:=(hI.1.cell (a:=⟨w.heap.size,0,none⟩) E8 E8).trans b0;have e1:=(hI.1.cell (a:=⟨p,1,none⟩) (World.block_lt_of_cell? w1 _ b1) (by simpa using aFC)).trans b1;(have hfit:512*xa+512<=n:=by have:=hn'.out;omega);obtain⟨w7,hcp,aFE,hk7,aKQ⟩:=aaP (P:=Tryz.prog) (w:=W.drew) hI.2 69 69 3 Tryz.underlying69 xO (512*xa) 512 512 ⟨gu,0,none⟩ 512 cu (xb.map kY) (by rw[iJ];exact hx.2) (fun j u hj=>by rw[Addr.add_lit,GZ];exact hsrc W.drew ((hK1.trans ⟨hI.1.os,hI.1.tape,hI.1.output,hI.1.size,fun k hk hn=>hI.1.block k aD hn⟩)) j u (by rw[<-hxb]at hj;exact hj)) rT hfit rfl;(have KP:∀m W,CallsIn (Fence.wide.inRound l) m Tryz.prog 81 #[sV g n c,iV xa] W fun e w'=>e= .returned (.slice (some ⟨g,512*xa,none⟩) 512 512)/\w'=W:=fun m W=>CallsIn.inRound l (callsIn_wide.2 (QS aD (by have:=aeD.out;rw[bV hnl.out.symm]at this;exact(WM 3 this rfl).1) (by have:=aeD.out;rw[bV hnl.out.symm]at this;exact(WM 3 this rfl).2) (by have:=hn'.out;have:=hD.few;omega) W)));rw[hv];(have hpost:ownPostG w1.heap.size (xC w1.heap.size [g]) (FlI w1 g n c D.fast D.back) (fun _ _ _=>False) (pre++[x]) W .normal=fun(a:Act) W'=>KeepsFrom w1.heap.size W W'/\xC w1.heap.size [g] W W'/\FlI w1 g n c D.fast D.back (pre++[x]) W':=rfl);clear hpost;have hI':=Lh hI;have hsrc':=Lh hsrc;clear hI hsrc hst hown1 h1 h3;have e0':W.drew.cell? ⟨w.heap.size,0,none⟩=some (pV p):=e0;have e1':W.drew.cell? ⟨p,1,none⟩=some (sV g n c):=e1;have d0':W.drew.cell? ⟨bw,0,none⟩=some (iV (xa:Int)):=d0;have d1':W.drew.cell? ⟨bw,1,none⟩=some (sV gu 512 cu):=d1;(have aKS:=fun W=>callsIn_wide.1 (CallsIn.outOfRound (KP 0 W)));clear KP e0 e1 d0 d1;refine wpIn_block ?_;have hS0:(W.drew.cell? ⟨w.heap.size,0,none⟩=some (pV p)/\W.drew.cell? ⟨p,1,none⟩=some (sV g n c)/\W.drew.cell? ⟨bw,0,none⟩=some (iV (xa:Int))/\W.drew.cell? ⟨bw,1,none⟩=some (sV gu 512 cu)):=⟨e0',e1',d0',d1'⟩;(have nI:(w7.cell? ⟨w.heap.size,0,none⟩=some (pV p)/\w7.cell? ⟨p,1,none⟩=some (sV g n c)/\w7.cell? ⟨bw,0,none⟩=some (iV (xa:Int))/\w7.cell? ⟨bw,1,none⟩=some (sV gu 512 cu)):=by(have hc:∀a:Addr,a.block≠g->∀u,W.drew.cell? a=some u->w7.cell? a=some u:=fun a ha u hu=>(World.cell?_of_block (hk7.block _ (World.block_lt_of_cell? _ _ hu) (by simpa using ha))).trans hu);exact⟨hc _ E8 _ e0',hc _ (by simpa using aFC) _ e1',hc _ E8 _ d0',hc _ E8 _ d1'⟩);clear e0' e1' d0' d1';refine U5 (S:=fun w'=>w'.cell? ⟨w.heap.size,0,none⟩=some (pV p)/\w'.cell? ⟨p,1,none⟩=some (sV g n c)/\w'.cell? ⟨bw,0,none⟩=some (iV (xa:Int))/\w'.cell? ⟨bw,1,none⟩=some (sV gu 512 cu)) 12 fE fE (fun⟨_,_,h⟩=>h) ?_;simp only[uB,kH,qQ,Nat.reduceAdd];refine aA 0 hS0 ?_;refine aA 1 hS0 ?_;refine aA 2 hS0 ?_;refine aA 3 hS0 ?_;refine aA 4 hS0 ?_;refine aA 5 hS0 ?_;refine aA 6 hS0 ?_;refine aA 8 hS0 ?_;refine aA 9 hS0 ?_;refine aA 10 hS0 ?_;(refine bI 7 fun K hK=>?_);go_simp;go_at_call 81;refine(aKS _).mono ?_;rintro e w9 ⟨rfl,h9⟩;obtain rfl:=h9.symm;refine hK _ _ (fun _=>hS0) ?_;clear hK K;(try simp only[Act.put,gD]);refine bA 11 (fun _=>nI) ?_;refine aQ fE ?_ _;refine⟨?_,?_,?_⟩
   ·exact(KeepsOthers.trans (KeepsOthers.drew W) aKQ).from _
   ·exact⟨hk7.os,hk7.tape,hk7.output,hk7.size,fun k hk hn=>hk7.block k (VP hk hI'.out.1.size) hn⟩
   refine⟨hI'.out.1.trans ⟨hk7.os,hk7.tape,hk7.output,hk7.size,fun k hk hn=>hk7.block k (VP hk hI'.out.1.size) hn⟩,?_⟩;(have aKT:lG D.fast ((pre++[x]).map fun i=>D.back[i])=(lG D.fast (pre.map fun i=>D.back[i])).set xa xb:=by rw[mZ,jV,zL];unfold lG;rw[OW,<-hxa,<-hxb];rfl);have hok:=DX (nb:=nb) hD.fast (l:=pre.map fun i=>D.back[i]) (fun y hy=>by obtain⟨i,_,rfl⟩:=List.mem_map.1 hy;exact hD.back _ (nW i.2));rw[aKT,<-BR hok.size hx.2 (by rw[hok.len];exact hx.1),BC];exact aFE
  case done=>
   intro D' xs W hD' hxs hI hdef;have hxl:lG D.fast (xs.map fun i=>D.back[i])=lG D.fast D.back:=by
    congr 1;apply GV;intro k;have hk:=congrArg (fun l:List Nat=>l[k]?) hxs;simp only[lC]at hk;rw[lC];by_cases hkl:k<D.back.length
    ·rw[VN hkl]at hk;obtain⟨i,hi,e⟩:=OT.1 hk;rw[hi,gE hkl];subst e;rfl
    have hk2:(List.range D.back.length)[k]? =none:=FK (by rw[LW];omega);rw[hk2]at hk;rw[YZ.1 hk,FK aD];rfl
   have hok:=DX (nb:=nb) hD.fast (l:=D.back) hD.back;(have aFG:(lG D.fast D.back).flatten.length=n:=by rw[lL hok.size,hok.len,hn'.out]);have h3:=aeD.out;rw[bV hnl.out.symm]at h3;have hK:mP w1 W [g]:=⟨hI.1.os,hI.1.tape,hI.1.output,hI.1.size,hI.1.block⟩;have hSW:=h3.step (A':=.star (aI (sV g n c) (lG D.fast D.back).flatten) (.obj D' (.deferred (some [])))) 3 rfl (w':=W) fun F ⟨ho,hF⟩ hFb=>by
    refine⟨F++[D'],⟨?_,F,[D'],rfl,⟨?_,hF⟩,hdef,rfl⟩,fun b hb=>?_,by rw[hF];exact hK⟩
    ·rw[hF];simp[Value.ownBlock];omega
    ·rw[aFG,<-hxl];exact hI.2
    rcases iM.1 hb with hb|hb
    ·exact .inl hb
    rw[tJ]at hb;subst hb;exact .inr hD'
   (have jT:Sep w0 W (iE p vn (sV g n c) (.slice Ab D.back.length cb) D.off D.left::aI (sV g n c) (lG D.fast D.back).flatten:: .obj D' (.deferred (some []))::aI vn D.now.flatten::(List.zipWith (fun u (x:Nat×List UInt8)=>aI u x.2) us D.back++R)):=by have hz:Sep w0 W (aW.star (aI (sV g n c) (lG D.fast D.back).flatten) (.obj D' (.deferred (some [])))::iE p vn (sV g n c) (.slice Ab D.back.length cb) D.off D.left::aI vn D.now.flatten::(List.zipWith (fun u (x:Nat×List UInt8)=>aI u x.2) us D.back++R)):=Sep.drop 1 (Sep.dB [0,3,1,2] hSW aR bK);exact Sep.dB [2,0,1,3] hz.jO aR bK);have hS5:Sep w0 (W.setCell ⟨p,2,none⟩ (.slice none 0 0)) (iE p vn (sV g n c) (.slice none 0 0) D.off D.left::aI (sV g n c) (lG D.fast D.back).flatten:: .obj D' (.deferred (some []))::aI vn D.now.flatten::(List.zipWith (fun u (x:Nat×List UInt8)=>aI u x.2) us D.back++R)):=jT.bS 0 rfl 2 (.slice none 0 0);have hstep:=aq4 hS5 hD.left;have UG:=jT.wO 0 rfl;have g2:=UG.c2;have gf:=UG.fz 2;have g0:=(hI.1.cell (a:=⟨w.heap.size,0,none⟩) E8 E8).trans b0;(have g0':(W.setCell ⟨p,2,none⟩ (.slice none 0 0)).cell? ⟨w.heap.size,0,none⟩=some (pV p):=by have hpl:=World.block_lt_of_cell? w _ c1;rw[World.cell?_setCell_other _ _ _ _ (by intro e;have h9:=congrArg Addr.block e;simp only at h9 hpl;omega)];exact g0);clear UG hst hown1 b0 b1 b2 b9;go_wp2_with(go_at_call 257;refine hstep.mono ?_;rintro e w8 ⟨rfl,vY⟩);refine⟨by simp,.inl ⟨_,_,rfl,run_takeDeferred (vY.XE 2 rfl),?_⟩⟩;have zX:=vY.putObj 2 (.deferred none) rfl;refine⟨.int .i64 0,?_,rfl,?_⟩
   ·simp[results,Tryz.f254,go_sem]
   (try simp only[J4,if_false]);refine Sep.uI (D:=D.fl) (vn:=vn) (vf:=sV g n c) (vb:=.slice none 0 0) ?_;unfold DK.fl;rw[DK.H8,DK.XC,DK.EB,DK.aeC,DK.XD];(have R5:Sep w0 (w8.putObj D' (.deferred none)) (iE p vn (sV g n c) (.slice none 0 0) (if 0<D.left then decide (D.left=1)else D.off) (if 0<D.left then D.left-1 else D.left)::aI (sV g n c) (lG D.fast D.back).flatten::aI vn D.now.flatten::R):=by have h1:=zX;have h2:Sep w0 (w8.putObj D' (.deferred none)) ((List.zipWith (fun u (x:Nat×List UInt8)=>aI u x.2) us D.back)++(iE p vn (sV g n c) (.slice none 0 0) (if 0<D.left then decide (D.left=1)else D.off) (if 0<D.left then D.left-1 else D.left)::aI (sV g n c) (lG D.fast D.back).flatten:: .obj D' (.deferred none)::aI vn D.now.flatten::R)):=h1.perm (azS _ _ _ _ _ _).symm;exact Sep.drop 1 (Sep.dB [2,0,1,3] h2.snd aR bK));have hnil:=Sep.KX (l:=[]) (us:=[]) rfl (by simpa[eT]using R5.gZ 143 3);exact Sep.dB [1,3,2,0] hnil aR bK
  intro D' c' pre W hD' _ h;exact h.elim
end Go.Proofs.YtmjomdkleikgbaaGreat
