/- Parts. -/
import Derived.Test.YtmjomdkleikgbaaGreatJ26
set_option linter.unusedVariables false
set_option linter.unusedSimpArgs false
set_option maxRecDepth 100000
set_option maxHeartbeats 20000000
namespace Go.Proofs.YtmjomdkleikgbaaGreat
open Go.RowKit
def ah7 (S:VS) (path:List UInt8):Nat:=if path=[]then 0 else(aP S.cur S.data 0 0 (splitB path)).2.1.toNat
def kI (S:VS) (path:List UInt8):Int:=
 if path=[]then(if(aF S.cur 0).kind=1 then 0 else 22)
 else if cO path=0 then(match dU (aP S.cur S.data 0 0 (splitB path))with|some k=>k|none=>if(aF S.cur (aP S.cur S.data 0 0 (splitB path)).2.1.toNat).kind=1 then 0 else 22)
 else cO path
def mE (S:VS) (path:List UInt8):List (List UInt8):=if kI S path=0 then yV ((jL S.cur S.data (aF S.cur (ah7 S path))).map (·.1))else []
section
variable {w0 w:World} {R:List aV} {f q p:Nat} {S:VS} {a:VA}
theorem Z1 {P:Prop} (h:P:=by
 clear x0 x1 x2 x3 x4;obtain⟨bx,hbx⟩:∃bx,bx=w6.heap.size:=⟨_,rfl⟩;rw[<-hbx]at h5 ⊢;clear hbx;have hcs:Hid (∀W Y (Z:List aV),Sep w0 W (Y:: .box bx 129 #[iV ((1:Nat):Int),iV (xm:Nat),iV (xl:Nat),iV (N:Nat),.slice A6 lx c6]::Z)->W.cell? ⟨bx,0,none⟩=some (iV 1)/\W.cell? ⟨bx,1,none⟩=some (iV (xm:Nat))/\W.cell? ⟨bx,2,none⟩=some (iV (xl:Nat))/\W.cell? ⟨bx,3,none⟩=some (iV (N:Nat))/\W.cell? ⟨bx,4,none⟩=some (.slice A6 lx c6)):=Lh fun W Y Z hS=>⟨hS.bC 1 rfl 0,hS.bC 1 rfl 1,hS.bC 1 rfl 2,hS.bC 1 rfl 3,hS.bC 1 rfl 4⟩
 go_loopw[4,35] (fun ov iv wr=>∃k:Nat,k<=N/\iv=iV k/\Hid (∃a1,VC T a1/\Sep w0 wr (aD f q p T a1:: .box bx 129 #[iV ((1:Nat):Int),iV (xm:Nat),iV (xl:Nat),iV (N:Nat),.slice A6 lx c6]:: .sl 9 1 ov ((L.take k).map (fun e=>Value.string ⟨e.1.toArray⟩)).length ((L.take k).map (fun e=>Value.string ⟨e.1.toArray⟩))::aH w.heap.size 0::aQ (.slice A6 lx c6) (dX xs)::R))) (fun _ iv _=>N-(intOf iv).toNat)
 case atStart=>exact⟨0,fZ _,rfl,Lh ⟨a6,KN.out,Sep.dC [2,1,0,3,4] (h5.out.iO 9 1) aR (by simp[aH])⟩⟩
 obtain⟨k,hk,rfl,hS⟩:=hrel;obtain⟨a1,kE,hS1⟩:=hS.out;clear hS h5 KN;by_cases hlt:k<N
 ·have hy:=hcs.out _ _ _ hS1.drew;have hc:=tQ.out _ k a1 _ _ _ _ _ hlt kE hS1.drew;(have q1:(k:Int)<N:=by omega);(have q0:(0:Int)<=k:=by omega);obtain⟨u,hu⟩:∃u,u=(rT L k).1:=⟨_,rfl⟩;obtain⟨z,hz⟩:∃z,z=(rT L k).2:=⟨_,rfl⟩;rw[<-hu,<-hz]at hc;(have hst:(L.take (k+1)).map (fun e=>Value.string ⟨e.1.toArray⟩)=(L.take k).map (fun e=>Value.string ⟨e.1.toArray⟩)++[Value.string ⟨u.toArray⟩]:=by rw[pX,gE (by rw[hLn.out];exact hlt),tK,hu];simp);replace hst:=Lh hst;obtain⟨Lv,hLv⟩:∃Lv,Lv=(L.take k).map (fun e=>Value.string ⟨e.1.toArray⟩):=⟨_,rfl⟩;(have hLl:Lv.length<=448:=by rw[hLv,iT,qQ];omega);have hck:=hS1.dS 2 rfl;rw[<-hLv]at hc hck hst;obtain⟨Ao,co,rfl⟩:=hck;clear hS1 kE hu hz hLv;replace hc:=Lh hc;go_wp2_with fail;rename_i K1 hK1;refine kH ?_;refine aO (S:=fun w'=>w'.cell? ⟨bx,0,none⟩=some (iV 1)/\w'.cell? ⟨bx,1,none⟩=some (iV (xm:Nat))/\w'.cell? ⟨bx,2,none⟩=some (iV (xl:Nat))/\w'.cell? ⟨bx,3,none⟩=some (iV (N:Nat))/\w'.cell? ⟨bx,4,none⟩=some (.slice A6 lx c6)) 11 ?_;refine aA 0 hy ?_;refine aA 1 hy ?_;refine aA 2 hy ?_;refine aA 3 hy ?_;refine aA 4 hy ?_;(refine bH 5 fun K hK=>?_);go_simp;go_at_call 108;refine hc.out.mono ?_;rintro e w5 ⟨rfl,a2,hC2,h2⟩;have hy2:=hcs.out _ _ _ h2;clear hy;dsimp only;refine hK _ _ (fun _=>hy2) ?_;clear hK K;(try simp only[Act.put,gD]);refine bG 6 (fun _=>hy2) ?_;refine aA 7 hy2 ?_;refine aA 8 hy2 ?_;refine aA 9 hy2 ?_;refine aA 10 hy2 ?_;refine aS fT ?_ _;simp only[nU];have h3:Sep w0 (w5.alloc (.cells #[.string ⟨u.toArray⟩] 9)) (.sl 9 1 (.slice Ao Lv.length co) Lv.length Lv::aD f q p T a2:: .box bx 129 #[iV ((1:Nat):Int),iV (xm:Nat),iV (xl:Nat),iV (N:Nat),.slice A6 lx c6]::aH w.heap.size 0::aQ (.slice A6 lx c6) (dX xs)::R):=Sep.dC [2,0,1,3,4] (h2.alloc _) aR bK;clear h2 hy2 hc;replace hC2:=Lh hC2;simp only[Exit.then];apply hK1;go_wp2_with(at_builtin;refine oW 0 rfl _ _ 73 rfl 9 i0 (.string ⟨#[]⟩) 1 16 Tryz.underlying73 hif hz0 hz1 hz2 rfl aR h3 _ _ _ rfl rfl ⟨w5.heap.size,0,none⟩ 1 1 [.string ⟨u.toArray⟩] rfl rfl (cell_one_new _ _ _) oCl aR vE aI ?_);intro gg cc w3 lX hz4;have hS5:=Lh (Sep.dC [1,2,0,3,4] lX aR bK);clear lX hz4 h3;go_wp2_with fail;go_roundw
  case rel=>exact⟨k+1,by omega,by go_num,Lh ⟨a2,hC2.out,(by rw[hst.out,jJ];exact hS5.out)⟩⟩
  case measure=>(simp[intOf];omega)
 obtain rfl:k=N:=by omega
 have e1:(L.take k).map (fun e=>Value.string ⟨e.1.toArray⟩)=(L.map (·.1)).map aC:=by rw[rG (by rw[hLn.out];exact iU _),qU];rfl
 rw[e1]at hS1;have hS2:Sep w0 wr (rU u4 (L.map (·.1))::aD f q p T a1:: .box bx 129 #[iV ((1:Nat):Int),iV (xm:Nat),iV (xl:Nat),iV (k:Nat),.slice A6 lx c6]::aH w.heap.size 0::aQ (.slice A6 lx c6) (dX xs)::R):=by unfold rU;rw[iT]at hS1;exact Sep.dC [2,0,1,3,4] hS1 aR bK
 have hso:=XU 0 hS2 rfl (by rw[iT,hLn.out];omega);clear hS1 e1 hS2;replace kE:=Lh kE;go_wp2_with(go_at_call 109;refine hso.mono ?_;rintro e w5 ⟨rfl,h5⟩;(have k1:=h5.bC 3 rfl 0);(have k2:=h5.bF 3 rfl 0);simp only[gA,gB]at k1;clear hso;replace h5:=Lh h5);refine hd.out _ _ a1 [.box bx 129 #[iV ((1:Nat):Int),iV (xm:Nat),iV (xl:Nat),iV (k:Nat),.slice A6 lx c6],aQ (.slice A6 lx c6) (dX xs)] u4 kE.out ?_ rfl rfl;rw[XV.out];exact Sep.dC [0,1,3,2,4] h5.out aR (by simp[aH])):P:=h
theorem abL {path:List UInt8} (hp:path.length<=9223372036854775807) (ho:S.D.off=false) (hV:VW S.base) (hroot:(aF S.base.cur 0).kind=1) (h:Sep w0 w (bE f q p S::R)):
  Calls Tryz.prog 40 #[pV f,aC path] w fun e w'=>∃v,e= .returned (.tuple #[v,iV (kI S.base path)])/\Sep w0 w' (rU v (mE S.base path)::bE f q p S.base::R):=by
 have hb:=wY h;have h1:Sep w0 (w.alloc (.cells #[iV 0] 40)) (bE f q p S::aH w.heap.size 0::R):=Sep.dC [1,0] (h.bN 40 #[iV 0]) aR (by simp[aH]);have haw:=wS ho h1;obtain⟨T,hT⟩:∃T,T=S.base:=⟨_,rfl⟩;rw[<-hT]at hV hb haw hroot ⊢;clear ho hT;obtain⟨i0,hif,hz0,hz1,hz2⟩:=iN KW;have hres:Hid (∀(tm:Array Value) W x v Y,tm.getD 5 undef=pV w.heap.size->tm.getD 4 undef=v->Sep w0 W (Y++aH w.heap.size x::R)->(results Tryz.f40 tm).run Tryz.prog W= .ok (.tuple #[v,iV x]) W):=Lh fun tm W x v Y ht hv hW=>by(have hi:(Y++aH w.heap.size x::R)[Y.length]? =some (aH w.heap.size x):=by simp);have ec:=hW.bC _ hi 0;simp only[gA,gB]at ec;(have ht2:tm[5]?.getD undef=pV w.heap.size:=by simpa using ht);(have hv2:tm[4]?.getD undef=v:=by simpa using hv);simp[results,Tryz.results40,go_sem,ht2,hv2,asAddr,loadVar,ec]
 have hpl:Hid (∀W,Calls Tryz.prog 68 #[aC path] W fun e w'=>e=(if cO path=0 then .returned (.tuple #[])else .panicked (eQ (cO path)))/\Below W.heap.size W w'):=Lh fun W=>CP hp W
 have jP:Hid (∀(tm:Array Value) W a k,k=kI T path->k≠0->k≠11->VC T a->Sep w0 W (aD f q p T a::aH w.heap.size 0::R)->tm.getD 5 undef=pV w.heap.size->tm.getD 4 undef= .slice none 0 0->
   Leaves Tryz.prog Tryz.f40 tm (fun e w'=>∃v,e= .returned (.tuple #[v,iV (kI T path)])/\Sep w0 w' (rU v (mE T path)::bE f q p T::R)) [{target:=.fn (.func 52) #[],args:=#[pV f,pV w.heap.size]}] (.panicking (eQ k)) W):=Lh fun tm W a k hk h0 h11 hC hW ht ht4=>by
  (refine AU hC hb h11 hW fun w' hw=>?_);refine⟨_,hres.out tm w' k _ [bE f q p T] ht ht4 hw,.slice none 0 0,by rw[hk],?_⟩;have h5:Sep w0 w' (aH w.heap.size k::bE f q p T::R):=hw.perm (List.Perm.swap _ _ _);unfold mE;rw[<-hk,if_neg h0];exact(h5.drop 1).iO 9 1
 have hquit:Hid (∀(tm:Array Value) W a B,kI T path=22->VC T a->Sep w0 W (aD f q p T a::aH w.heap.size 0::(B++R))->tm.getD 5 undef=pV w.heap.size->tm.getD 4 undef= .slice none 0 0->
   Leaves Tryz.prog Tryz.f40 tm (fun e w'=>∃v,e= .returned (.tuple #[v,iV (kI T path)])/\Sep w0 w' (rU v (mE T path)::bE f q p T::R)) [{target:=.fn (.func 52) #[],args:=#[pV f,pV w.heap.size]}] .returning (W.setCell ⟨w.heap.size,0,none⟩ (.int .i64 22))):=Lh fun tm W a B hk hC hW ht ht4=>by
  refine gY ?_;have h2:Sep w0 _ (aD f q p T a::aH w.heap.size 22::(B++R)):=hW.bS 1 rfl 0 (.int .i64 22);have h3:Sep w0 _ (B++(aD f q p T a::aH w.heap.size 22::R)):=h2.perm (by refine(List.Perm.trans ?_ lN.symm);exact List.Perm.cons _ lN.symm);have h4:=h3.drop B.length;rw[DX]at h4;refine⟨_,hres.out tm _ 22 _ [aD f q p T a] ht ht4 h4,.slice none 0 0,by rw[hk],?_⟩;have h5:Sep w0 _ (aH w.heap.size 22::aD f q p T a::R):=h4.perm (List.Perm.swap _ _ _);unfold mE;rw[hk,if_neg aR];exact(oN hC hb (h5.drop 1)).iO 9 1
 have hdone:Hid (∀(tm:Array Value) W a B v,kI T path=0->VC T a->Sep w0 W (rU v (mE T path)::aD f q p T a::aH w.heap.size 0::(B++R))->tm.getD 5 undef=pV w.heap.size->tm.getD 4 undef=v->
   Leaves Tryz.prog Tryz.f40 tm (fun e w'=>∃v,e= .returned (.tuple #[v,iV (kI T path)])/\Sep w0 w' (rU v (mE T path)::bE f q p T::R)) [{target:=.fn (.func 52) #[],args:=#[pV f,pV w.heap.size]}] .returning (W.setCell ⟨w.heap.size,0,none⟩ (.int .i64 0))):=Lh fun tm W a B v hk hC hW ht ht4=>by
  refine gY ?_;have h2:Sep w0 _ (rU v (mE T path)::aD f q p T a::aH w.heap.size 0::(B++R)):=hW.bS 2 rfl 0 (.int .i64 0);have h3:Sep w0 _ (B++(rU v (mE T path)::aD f q p T a::aH w.heap.size 0::R)):=h2.perm (by refine(List.Perm.trans ?_ lN.symm);refine List.Perm.cons _ (List.Perm.trans ?_ lN.symm);exact List.Perm.cons _ lN.symm);have h4:=h3.drop B.length;rw[DX]at h4;refine⟨_,hres.out tm _ 0 _ [rU v (mE T path),aD f q p T a] ht ht4 h4,v,by rw[hk],?_⟩;have h5:Sep w0 _ (aH w.heap.size 0::aD f q p T a::rU v (mE T path)::R):=Sep.dC [2,1,0] h4 aR bK;exact(oN hC hb (h5.drop 1)).perm (List.Perm.swap _ _ _)
 have hfl:Hid (aU path=true->∀W a,VC T a->Sep w0 W (aD f q p T a::aH w.heap.size 0::R)->Calls Tryz.prog 107 #[pV f,aC path] W fun e w'=>e=lH (aP T.cur T.data 0 0 (splitB path))/\∃a',VC T a'/\Sep w0 w' (aD f q p T a'::aH w.heap.size 0::R)):=Lh fun hv W a hC hW=>
  (nL hC hV hv (dD hv) hW).mono fun e w' ⟨h1,a',h2,h3⟩=>⟨h1,a',h2.ok,h3⟩
 have hin:Hid (∀m:Nat,m<T.names->∀W a,VC T a->Sep w0 W (aD f q p T a::aH w.heap.size 0::R)->Calls Tryz.prog 72 #[pV f,iV m] W fun e w'=>∃A c a2,e= .returned (fB (aF T.cur m) (.slice A (aF T.cur m).aB.length c))/\VC T a2/\Sep w0 w' (aD f q p T a2::aH w.heap.size 0::aQ (.slice A (aF T.cur m).aB.length c) (dX (aF T.cur m).aB)::R)):=Lh fun m hm W a hC hW=>by refine(iW hC hV.vf hm (hV.few m hm) hW).mono ?_;rintro e w' ⟨v,a2,rfl,hR,h9⟩;obtain⟨A9,c9,e9⟩:=h9.dS 0 rfl;subst e9;(have e10:(dX (aF T.cur m).aB).length=(aF T.cur m).aB.length:=by unfold dX;rw[iT]);rw[e10]at h9 ⊢;exact⟨A9,c9,a2,rfl,hR.ok,Sep.dC [1,2,0] h9 aR bK⟩
 have hen:Hid (∀m:Nat,m<T.names->(aF T.cur m).kind=1->∀W k a1 A c bx Lv ov,k<(aF T.cur m).size->VC T a1->Sep w0 W (aD f q p T a1:: .box bx 129 (aM (aF T.cur m) (.slice A (aF T.cur m).aB.length c)):: .sl 9 1 ov Lv.length Lv::aH w.heap.size 0::aQ (.slice A (aF T.cur m).aB.length c) (dX (aF T.cur m).aB)::R)->
   Calls Tryz.prog 108 #[pV f,fB (aF T.cur m) (.slice A (aF T.cur m).aB.length c),iV (k:Nat)] W fun e w'=>e= .returned (.tuple #[aC (rT (jL T.cur T.data (aF T.cur m)) k).1,.int .i64 ((rT (jL T.cur T.data (aF T.cur m)) k).2:Nat)])/\∃a',VC T a'/\Sep w0 w' (aD f q p T a':: .box bx 129 (aM (aF T.cur m) (.slice A (aF T.cur m).aB.length c)):: .sl 9 1 ov Lv.length Lv::aH w.heap.size 0::aQ (.slice A (aF T.cur m).aB.length c) (dX (aF T.cur m).aB)::R)):=Lh fun m hm hk W k a1 A c bx Lv ov hks hC hW=>by
  have:=I7 (i:=k) hC hV.vf (jB 3 rfl) (hV.dir m hm hk) hks hW;rw[BS hks];exact this.mono fun e w' ⟨h1,a',h2,h3⟩=>⟨h1,a',h2.ok,h3⟩
 have hln:=nM hV (path:=path);have hpw:=uD path;have hfs:∀k,dU (aP T.cur T.data 0 0 (splitB path))=some k->k≠0/\k≠11:=fun k hk=>yT hk
 have hsz:∀m:Nat,m<T.names->(aF T.cur m).kind=1->(aF T.cur m).size<=448:=fun m hm hk=>by have:=(hV.dir m hm hk).room;have:=(hV.dir m hm hk).few;omega
 have hn0:=hV.n0;clear hV h h1 hp;by_cases h00:path=[]
 ·subst h00;(have hk1:kI T []=(if(aF T.cur 0).kind=1 then 0 else 22):=by unfold kI;rw[if_pos rfl]);(have XV:kI T []=0->mE T []=yV ((jL T.cur T.data (aF T.cur 0)).map (·.1)):=fun e=>by unfold mE;rw[if_pos e];rfl);have hin2:=hin.out 0 hn0;have tQ:=hen.out 0 hn0;(have XW:(aF T.cur 0).kind=1->(aF T.cur 0).size<=448:=fun hk=>hsz 0 hn0 hk);clear hfl hpl hln hpw hfs hsz hin hen hn0 hroot;obtain⟨x,hx⟩:∃x,x=aF T.cur 0:=⟨_,rfl⟩;rw[<-hx]at hin2 tQ XW hk1 XV;obtain⟨L,hL⟩:∃L,L=jL T.cur T.data x:=⟨_,rfl⟩;(have hLn:L.length=x.size:=by rw[hL,zT]);rw[<-hL]at tQ XV;replace hL:=Lh hL;clear hx;obtain⟨xk,xm,xl,N,xs⟩:=x;simp only[fB,aM]at hin2 tQ XW hk1 hLn XV;obtain⟨lx,hlx⟩:∃l,l=xs.length:=⟨_,rfl⟩;rw[<-hlx]at hin2 tQ;replace hlx:=Lh hlx;replace hLn:=Lh hLn;replace hin2:=Lh hin2;replace tQ:=Lh tQ;unfold aC at*;by_cases hkk:xk=1
  ·subst hkk;rw[if_pos rfl]at hk1;replace XW:=XW rfl;(have N1:(N:Int)<=448:=by omega);have hd:=Lh (fun tm W a B v=>hdone.out tm W a B v hk1);replace tQ:=Lh (tQ.out rfl);replace XV:=Lh (XV hk1);clear hdone hquit jP hk1
   go_enter_defers Tryz.func40,Tryz.ntmps40
   go_wp2_with(first |(go_at_call 53;refine haw.mono ?_;rintro e w9 ⟨rfl,a9,dQ,h9⟩;(have XM:=hin2.out _ _ dQ h9);clear dQ h9;clear haw)|(go_at_call 72;refine XM.mono ?_;rintro e w6 ⟨A6,c6,a6,rfl,KN,h6⟩;(have h5:=h6.bN 129 #[iV ((1:Nat):Int),iV (xm:Nat),iV (xl:Nat),iV (N:Nat),.slice A6 lx c6]);(have x0:=h5.bC 0 rfl 0);(have x1:=h5.bC 0 rfl 1);(have x2:=h5.bC 0 rfl 2);(have x3:=h5.bC 0 rfl 3);(have x4:=h5.bC 0 rfl 4);simp only[gA,gB,gC]at x0 x1 x2 x3 x4;clear XM h6;replace KN:=Lh KN;replace h5:=Lh h5));exact Z1
  rw[if_neg hkk]at hk1;(have hkx:((xk:Int)==1)=false:=by rw[kD];omega);(have hkn:((xk:Int) !=1)=true:=by rw[bne_iff_ne];omega);have hq:=Lh (fun tm W a B=>hquit.out tm W a B hk1);clear tQ XV hkk hL;clear hdone hquit jP hk1
  go_enter_defers Tryz.func40,Tryz.ntmps40
  go_wp2_with(first |(go_at_call 53;refine haw.mono ?_;rintro e w9 ⟨rfl,a9,dQ,h9⟩;(have XM:=hin2.out _ _ dQ h9);clear dQ h9;clear haw)|(go_at_call 72;refine XM.mono ?_;rintro e w6 ⟨A6,c6,a6,rfl,KN,h6⟩;(have h5:=h6.bN 129 #[iV (xk:Nat),iV (xm:Nat),iV (xl:Nat),iV (N:Nat),.slice A6 lx c6]);(have x0:=h5.bC 0 rfl 0);(have k1:=h5.bC 2 rfl 0);(have k2:=h5.bF 2 rfl 0);simp only[gA,gB,gC]at x0 k1;clear XM h6;replace KN:=Lh KN;replace h5:=Lh h5));exact hq.out _ _ a6 [_,_] KN.out (Sep.dC [1,2,0,3] h5.out aR (by simp[aH])) rfl rfl
 have hne:(path==[])=false:=by simpa using h00
 have hne2:(path.toArray==#[])=false:=by simpa using h00
 by_cases h0:cO path=0
 ·have hv:=wZ h0;have oG:=hfl.out hv;rw[h0,if_pos rfl]at hpl;(have hlx:kI T path=(match dU (aP T.cur T.data 0 0 (splitB path))with|some k=>k|none=>if(aF T.cur (aP T.cur T.data 0 0 (splitB path)).2.1.toNat).kind=1 then 0 else 22):=by unfold kI;rw[if_neg h00,if_pos h0]);(have XV:kI T path=0->mE T path=yV ((jL T.cur T.data (aF T.cur (aP T.cur T.data 0 0 (splitB path)).2.1.toNat)).map (·.1)):=fun e=>by unfold mE ah7;rw[if_pos e,if_neg h00]);clear hfl h0 hpw hv h00;rw[qN]at oG;obtain⟨fe,hfe⟩:∃fe,fe=dU (aP T.cur T.data 0 0 (splitB path)):=⟨_,rfl⟩;rw[<-hfe]at oG hfs hlx;cases fe with
  |some k=>
   obtain⟨hk0,abD⟩:=hfs k rfl;simp only at hlx oG;have hg:=Lh (fun tm W a=>jP.out tm W a k hlx.symm hk0 abD);replace oG:=Lh oG;clear hfs hfe hln hk0 abD jP hquit hdone hin hen XV hlx hsz hres;unfold aC at*
   go_enter_defers Tryz.func40,Tryz.ntmps40
   go_wp2_with(first |(go_at_call 53;refine haw.mono ?_;rintro e w9 ⟨rfl,a9,dQ,h9⟩;replace dQ:=Lh dQ;clear haw)|(go_at_call 68;go_loud (refine(hpl.out _).mono ?_;rintro e w8 ⟨rfl,rC⟩;have AV:=oG.out _ _ dQ.out (h9.pure rC);clear h9;clear rC hpl))|(go_at_call 107;refine AV.mono ?_;rintro e w7 ⟨rfl,a7,FD,h7⟩;clear AV));exact hg.out _ _ _ FD h7 rfl rfl
  |none=>
   obtain⟨hr0,hr1⟩:=qO hfe.symm;obtain⟨d,m,hdl,zH,hre⟩:=hln hr0 hr1;rw[hre]at hlx XV oG;simp only[lM]at hlx XV oG;have hk1:kI T path=(if(aF T.cur m).kind=1 then 0 else 22):=hlx;have hin2:=hin.out m zH;have tQ:=hen.out m zH;(have XW:(aF T.cur m).kind=1->(aF T.cur m).size<=448:=fun hk=>hsz m zH hk);replace oG:=Lh oG;clear hfs hfe hln hr0 hr1 zH hdl hre hin hen hsz hlx hroot hn0;obtain⟨x,hx⟩:∃x,x=aF T.cur m:=⟨_,rfl⟩;rw[<-hx]at hin2 tQ XW hk1 XV;obtain⟨L,hL⟩:∃L,L=jL T.cur T.data x:=⟨_,rfl⟩;(have hLn:L.length=x.size:=by rw[hL,zT]);rw[<-hL]at tQ XV;replace hL:=Lh hL;clear hx;obtain⟨xk,xm,xl,N,xs⟩:=x;simp only[fB,aM]at hin2 tQ XW hk1 hLn XV;obtain⟨lx,hlx⟩:∃l,l=xs.length:=⟨_,rfl⟩;rw[<-hlx]at hin2 tQ;replace hlx:=Lh hlx;replace hLn:=Lh hLn;replace hin2:=Lh hin2;replace tQ:=Lh tQ;unfold aC at*;by_cases hkk:xk=1
   ·subst hkk;rw[if_pos rfl]at hk1;replace XW:=XW rfl;(have N1:(N:Int)<=448:=by omega);have hd:=Lh (fun tm W a B v=>hdone.out tm W a B v hk1);replace tQ:=Lh (tQ.out rfl);replace XV:=Lh (XV hk1);clear hdone hquit jP hk1
    go_enter_defers Tryz.func40,Tryz.ntmps40
    go_wp2_with(first |(go_at_call 53;refine haw.mono ?_;rintro e w9 ⟨rfl,a9,dQ,h9⟩;replace dQ:=Lh dQ;clear haw)|(go_at_call 68;refine(hpl.out _).mono ?_;rintro e w8 ⟨rfl,rC⟩;have AV:=oG.out _ _ dQ.out (h9.pure rC);clear h9;clear rC hpl)|(go_at_call 107;refine AV.mono ?_;rintro e w7 ⟨rfl,a7,FD,h7⟩;have XM:=hin2.out _ _ FD h7;clear AV h7 FD)|(go_at_call 72;refine XM.mono ?_;rintro e w6 ⟨A6,c6,a6,rfl,KN,h6⟩;(have h5:=h6.bN 129 #[iV ((1:Nat):Int),iV (xm:Nat),iV (xl:Nat),iV (N:Nat),.slice A6 lx c6]);(have x0:=h5.bC 0 rfl 0);(have x1:=h5.bC 0 rfl 1);(have x2:=h5.bC 0 rfl 2);(have x3:=h5.bC 0 rfl 3);(have x4:=h5.bC 0 rfl 4);simp only[gA,gB,gC]at x0 x1 x2 x3 x4;clear XM h6;replace KN:=Lh KN;replace h5:=Lh h5));exact Z1
   rw[if_neg hkk]at hk1;(have hkx:((xk:Int)==1)=false:=by rw[kD];omega);(have hkn:((xk:Int) !=1)=true:=by rw[bne_iff_ne];omega);have hq:=Lh (fun tm W a B=>hquit.out tm W a B hk1);clear tQ XV hkk hL;clear hdone hquit jP hk1
   go_enter_defers Tryz.func40,Tryz.ntmps40
   go_wp2_with(first |(go_at_call 53;refine haw.mono ?_;rintro e w9 ⟨rfl,a9,dQ,h9⟩;replace dQ:=Lh dQ;clear haw)|(go_at_call 68;refine(hpl.out _).mono ?_;rintro e w8 ⟨rfl,rC⟩;have AV:=oG.out _ _ dQ.out (h9.pure rC);clear h9;clear rC hpl)|(go_at_call 107;refine AV.mono ?_;rintro e w7 ⟨rfl,a7,FD,h7⟩;have XM:=hin2.out _ _ FD h7;clear AV h7 FD)|(go_at_call 72;refine XM.mono ?_;rintro e w6 ⟨A6,c6,a6,rfl,KN,h6⟩;(have h5:=h6.bN 129 #[iV (xk:Nat),iV (xm:Nat),iV (xl:Nat),iV (N:Nat),.slice A6 lx c6]);(have x0:=h5.bC 0 rfl 0);(have k1:=h5.bC 2 rfl 0);(have k2:=h5.bF 2 rfl 0);simp only[gA,gB,gC]at x0 k1;clear XM h6;replace KN:=Lh KN;replace h5:=Lh h5));exact hq.out _ _ a6 [_,_] KN.out (Sep.dC [1,2,0,3] h5.out aR (by simp[aH])) rfl rfl
 have hlx:kI T path=cO path:=by unfold kI;rw[if_neg h00,if_neg h0]
 have hg:=Lh (fun tm W a=>jP.out tm W a (cO path) hlx.symm h0 hpw);rw[if_neg h0]at hpl;clear hfl hln jP hfs hpw hquit hdone hin hen hlx hsz hres h00;unfold aC at*
 go_enter_defers Tryz.func40,Tryz.ntmps40
 exact Z55
end
def DK.fresh (n:Nat):DK:=⟨List.replicate n bV,List.replicate n bV,[],false, -1⟩
theorem yD (n:Nat):kG n (List.replicate n bV):=⟨EF,fun b hb=>by rw[(List.mem_replicate.1 hb).2];exact fH⟩
theorem DK.abM {n:Nat} (h0:1<=n) (h1:n<=4096):(DK.fresh n).ok n:=⟨yD n,yD n,h1,h0,fun x hx=>absurd hx DF,by show(-1:Int)<= -1/\(-1:Int)<=9223372036854775807;omega⟩
theorem aoW (n:Nat):(List.replicate n bV).flatten=List.replicate (n*512) 0:=by
 unfold bV
 induction n with
 |zero=>rfl
 |succ n ih=>rw[List.replicate_succ,uV,ih,List.replicate_append_replicate,Nat.succ_mul,Nat.add_comm]
section
variable {w0 w:World} {R:List aV} {p nb:Nat} {D:DK}
theorem aoX (h:Sep w0 w (aN p D::R)):Calls Tryz.prog 93 #[pV p] w fun e w'=>e= .returned (.bool (!D.off))/\w'=w:=by
 obtain⟨vn,vf,vb,h1⟩:=h.wV;have c3:=h1.bC 0 rfl 3;simp only[gA,gB,gC]at c3;clear h h1;cases hd:D.off<;>rw[hd]at c3
 ·go_enter Tryz.func93,Tryz.ntmps93;go_wp2_with fail;go_ret;exact⟨rfl,rfl⟩
 go_enter Tryz.func93,Tryz.ntmps93;go_wp2_with fail;go_ret;exact⟨rfl,rfl⟩
theorem Sep.aoY (h:Sep w0 w R):Sep w0 w (D8 (.slice none 0 0) []::R):=Sep.JO (us:=[]) rfl (h.iO 143 3)
theorem atB {n:Nat} (h0:1<=n) (h1:n<=4096) (h:Sep w0 w R):
  Calls Tryz.prog 37 #[iV n] w fun e w'=>∃p,e= .returned (.tuple #[pV p,iV 0])/\Sep w0 w' (aN p (DK.fresh n)::R):=by
 obtain⟨k0,o7,hk0,hk1,hk2⟩:=iN lW;have hmk:∀W,(Instr.makeSlice 69 (.int .i64 ((n:Int)*512)) (.int .i64 ((n:Int)*512))).run Tryz.prog W= .ok (sV W.heap.size (n*512) (n*512)) (W.alloc (.cells (madeCells #[.int .u8 0] (n*512)) 5)):=fun W=>by have:=qB (P:=Tryz.prog) 69 5 k0 (.int .u8 0) 1 Tryz.underlying69 o7 hk0 hk1 hk2 rfl .i64 .i64 (n*512) aI vE W;rw[Int.natCast_mul]at this;exact this
 have q0:(1:Int)<=n:=by omega
 have q1:(n:Int)<=4096:=by omega
 have hwr:IntKind.i64.wrap ((n:Int)*512)=(n:Int)*512:=IntWalk.i64_in _ aI;have hmd:Hid (∀(As:List aV) (W:World),Sep w0 W As->Sep w0 (W.alloc (.cells (madeCells #[.int .u8 0] (n*512)) 5)) (aJ (sV W.heap.size (n*512) (n*512)) (List.replicate n bV).flatten::As)):=Lh fun As W hW=>by have:=hW.made 5 (.int .u8 0) (n*512) vE;rw[aoW,bT EF,List.map_replicate];exact this
 have hend:Hid (∀W A B cA cB,Sep w0 W (aJ (.slice A (n*512) cA) (List.replicate n bV).flatten::aJ (.slice B (n*512) cB) (List.replicate n bV).flatten::R)->
   Sep w0 (W.alloc (.cells #[.slice A (n*512) cA,.slice B (n*512) cB,.slice none 0 0,.bool false,iV (-1)] 122)) (aN W.heap.size (DK.fresh n)::R)):=Lh fun W A B cA cB hW=>by
  have h2:=hW.bN 122 #[.slice A (n*512) cA,.slice B (n*512) cB,.slice none 0 0,.bool false,iV (-1)];have h3:=h2.aoY;exact Sep.wW (D:=DK.fresh n) (vn:=.slice A (n*512) cA) (vf:=.slice B (n*512) cB) (vb:=.slice none 0 0) (Sep.dC [1,2,3,0] h3 aR (by simp[iA,DK.fresh]))
 replace h:=Lh h;clear h0 h1 hk2 hk1 hk0 o7;go_enter Tryz.func37,Tryz.ntmps37;go_wp2_with fail;refine eO (S:=fun w'=>True) 10 fT ?_;intro wq hwq;have hX:Hid (Sep w0 wq R):=by rw[hwq];exact Lh h.out.drew
 clear hwq h;simp only[kJ,kM,rF,Nat.reduceAdd];have hc:True:=trivial;refine aA 0 hc ?_;refine aA 1 hc ?_;refine aA 3 hc ?_;refine aA 4 hc ?_;refine j5 (i:=2) (j:=5) fT rfl rfl (fun K hK=>?_) (fun K hK=>?_)
 focus
  go_simp
  have h1:=Lh (hmd.out _ _ hX.out)
  try dsimp only
  refine hK _ _ (fun _=>trivial) ?_
  clear hK K
  try simp only[Act.put,gD]
  obtain⟨g2,hg2⟩:∃g,g=wq.heap.size:=⟨_,rfl⟩
  obtain⟨w2,hw2⟩:∃w2,w2=wq.alloc (.cells (madeCells #[.int .u8 0] (n*512)) 5):=⟨_,rfl⟩
  rw[<-hw2]at h1 ⊢
  rw[<-hg2]at h1 ⊢
  clear hw2 hg2 hX
  have h2:=Lh (hmd.out _ _ h1.out)
  refine bG 5 (fun _=>trivial) ?_
  obtain⟨g3,hg3⟩:∃g,g=w2.heap.size:=⟨_,rfl⟩
  obtain⟨w3,hw3⟩:∃w3,w3=w2.alloc (.cells (madeCells #[.int .u8 0] (n*512)) 5):=⟨_,rfl⟩
  rw[<-hw3]at h2 ⊢
  rw[<-hg3]at h2 ⊢
  clear hw3 hg3 h1
  refine bG 6 (fun _=>trivial) ?_
  have h3:=Lh (hend.out w3 _ _ _ _ (h2.out.perm (List.Perm.swap _ _ _)))
  refine bG 7 (fun _=>trivial) ?_
  refine bG 8 (fun _=>trivial) ?_
  refine bG 9 (fun _=>trivial) ?_
  refine aS fT ?_ _
  go_wp2_with fail
  go_ret2
  exact⟨_,rfl,h3.out⟩
 focus
  go_simp
  have h1:=Lh (hmd.out _ _ hX.out)
  try dsimp only
  refine hK _ _ (fun _=>trivial) ?_
  clear hK K
  try simp only[Act.put,gD]
  obtain⟨g2,hg2⟩:∃g,g=wq.heap.size:=⟨_,rfl⟩
  obtain⟨w2,hw2⟩:∃w2,w2=wq.alloc (.cells (madeCells #[.int .u8 0] (n*512)) 5):=⟨_,rfl⟩
  rw[<-hw2]at h1 ⊢
  rw[<-hg2]at h1 ⊢
  clear hw2 hg2 hX
  have h2:=Lh (hmd.out _ _ h1.out)
  refine bG 2 (fun _=>trivial) ?_
  obtain⟨g3,hg3⟩:∃g,g=w2.heap.size:=⟨_,rfl⟩
  obtain⟨w3,hw3⟩:∃w3,w3=w2.alloc (.cells (madeCells #[.int .u8 0] (n*512)) 5):=⟨_,rfl⟩
  rw[<-hw3]at h2 ⊢
  rw[<-hg3]at h2 ⊢
  clear hw3 hg3 h1
  refine bG 6 (fun _=>trivial) ?_
  have h3:=Lh (hend.out w3 _ _ _ _ h2.out)
  refine bG 7 (fun _=>trivial) ?_
  refine bG 8 (fun _=>trivial) ?_
  refine bG 9 (fun _=>trivial) ?_
  refine aS fT ?_ _
  go_wp2_with fail
  go_ret2
  exact⟨_,rfl,h3.out⟩
end
def DK.made (n:Nat):DK:=⟨(List.replicate n bV).set 0 (fE []),(List.replicate n bV).set 0 (fE []),[],false, -1⟩
theorem ah8 (n:Nat):(List.replicate n bV).set 0 bV=List.replicate n bV:=by
 cases n with
 |zero=>rfl
 |succ n=>rfl
theorem abN (n:Nat):(DK.fresh n).wr 0 bV=⟨List.replicate n bV,List.replicate n bV,[(0,bV)],false, -1⟩:=by unfold DK.wr DK.step DK.fresh;simp only;rw[if_neg aR,ah8];rfl
theorem aoZ (n:Nat):((DK.fresh n).wr 0 bV).fl=DK.fresh n:=by rw[abN];unfold DK.fl DK.step kR DK.fresh;simp only[List.foldl_cons,List.foldl_nil];rw[if_neg aR,ah8]
theorem akS (n:Nat):(DK.fresh n).fl=DK.fresh n:=by unfold DK.fl DK.step kR DK.fresh;simp only[List.foldl_nil];rw[if_neg aR]
theorem UT (n:Nat):(DK.fresh n).wr 0 (fE [])=⟨(List.replicate n bV).set 0 (fE []),List.replicate n bV,[(0,fE [])],false, -1⟩:=by unfold DK.wr DK.step DK.fresh;simp only;rw[if_neg aR];rfl
theorem ae5 (n:Nat):((DK.fresh n).wr 0 (fE [])).fl=DK.made n:=by rw[UT];unfold DK.fl DK.step kR DK.made;simp only[List.foldl_cons,List.foldl_nil];rw[if_neg aR]
theorem ao0 {n i:Nat} (h:i<n):bk (List.replicate n bV) i=bV:=by unfold bk;rw[gH,List.getElem?_replicate,if_pos h];rfl
theorem HV {w0 w:World} {As:List aV} {p nb:Nat} {D:DK} (i:Nat) (hD:D.ok nb) (h:Sep w0 w As) (hi:As[i]? =some (aN p D)):
  Calls Tryz.prog 94 #[pV p] w fun e w'=>e= .returned (iV nb)/\w'=w:=by
 obtain⟨A,c,hn⟩:=h.abO i hD hi;exact O5 hn rfl hD.few
theorem abP :∀args w,(callFunc 160 args).run Tryz.prog w= .ok (.enter 160 args) w:=Go.Proofs.enters_of Tryz.func160 fT rfl
theorem akT {w:World} {be bl:Nat} {u:FrameMode} (hc:w.cell? ⟨be,0,none⟩=some (iV 0)):
  CallsD Tryz.prog 160 #[pV be,pV bl] u w fun e u' w'=>u'=u/\e= .returned (.tuple #[])/\w'=w:=by
 refine(callsD_of_wp (R:=fun e w'=>e= .returned (.tuple #[])/\w'=w) Tryz.func160 rfl ?_).mono ?_
 ·simp only[Tryz.ntmps160,kJ,kM,rF,Nat.reduceAdd,Nat.reduceSub,yZ,y7,y9,y8,mP,kN];go_wp2_with fail
  go_end0
  exact⟨rfl,rfl⟩
 rintro e u' w' ⟨h1,h2,h3⟩;exact⟨h1,h2,h3⟩
section
variable {w0 w:World} {R:List aV}
theorem abQ {p n:Nat} (h0:96<n) (h1:n<=4096) (h:Sep w0 w (aN p (DK.fresh n)::R)):
  Calls Tryz.prog 96 #[pV p] w fun e w'=>∃q,e= .returned (.tuple #[pV q,iV 0])/\Sep w0 w' (aG q p false::aN p (DK.made n)::R):=by
 obtain⟨bl,hbl⟩:∃b,b=w.heap.size:=⟨_,rfl⟩;obtain⟨D,hD⟩:∃D,D=DK.fresh n:=⟨_,rfl⟩;have hok:D.ok n:=by rw[hD];exact DK.abM aI h1
 have hoff:D.off=false:=by rw[hD];rfl
 have hbk:D.back=[]:=by rw[hD];rfl
 have ajJ:∀i,i<n->bk D.now i=bV:=fun i hi=>by rw[hD];exact ao0 hi
 obtain⟨D1,hD1⟩:∃D1,D1=D.wr 0 bV:=⟨_,rfl⟩;have hok1:D1.ok n:=by rw[hD1];exact DK.ahY hok aI fH
 have avZ:D1.off=false:=by rw[hD1,hD,abN]
 have aAW:D1.fl=D:=by rw[hD1,hD,aoZ]
 have oG:D.fl=D:=by rw[hD,akS]
 obtain⟨D2,hD2⟩:∃D2,D2=D.wr 0 (fE []):=⟨_,rfl⟩;have hok2:D2.ok n:=by rw[hD2];exact DK.ahY hok aI (oH (ps:=[]) aR)
 have PW:D2.off=false:=by rw[hD2,hD,UT]
 have aw7:D2.fl=DK.made n:=by rw[hD2,hD,ae5]
 obtain⟨D3,hD3⟩:∃D3,D3=DK.made n:=⟨_,rfl⟩;rw[<-hD3]at aw7 ⊢;rw[<-hD]at h;have hS2:Hid (Sep w0 (((w.alloc (.cells #[pV (bl+1+1)] 110)).alloc (.cells #[iV 0] 40)).alloc (.cells #[.iface 36 (pV p),.bool false] 197)) (aG (bl+1+1) p false::aN p D::aH (bl+1) 0:: .box bl 110 #[pV (bl+1+1)]::R)):=Lh (by have:=((h.bN 110 #[pV (bl+1+1)]).bN 40 #[iV 0]).bN 197 #[.iface 36 (pV p),.bool false];simp only[World.size_alloc,<-hbl]at this;exact Sep.dC [0,3,1,2] this aR (by simp[aG,aH]));obtain⟨k0,o7,hk0,hk1,hk2⟩:=iN lW;have hmk:∀W,(Instr.makeSlice 69 (.int .i64 512) (.int .i64 512)).run Tryz.prog W= .ok (sV W.heap.size 512 512) (W.alloc (.cells (madeCells #[.int .u8 0] 512) 5)):=fun W=>qB (P:=Tryz.prog) 69 5 k0 (.int .u8 0) 1 Tryz.underlying69 o7 hk0 hk1 hk2 rfl .i64 .i64 512 aI vE W
 have hmf:∀(fn:Fn) (first cap:Array Value) (w:World),(Instr.makeFunc fn first cap).run Tryz.prog w= .ok (.func fn first cap) w:=fun _ _ _ _=>rfl
 have hon:Hid (∀W (As:List aV),Sep w0 W (aN p D::As)->Calls Tryz.prog 93 #[pV p] W fun e w'=>e= .returned (.bool true)/\w'=W):=Lh fun W As hW=>by have:=aoX hW;rw[hoff]at this;exact this
 have hbs:Hid (∀W (As:List aV),Sep w0 W (aN p D::As)->Calls Tryz.prog 94 #[pV p] W fun e w'=>e= .returned (iV n)/\w'=W):=Lh fun W As hW=>HV 0 hok hW rfl
 have q1:(n:Int)<=4096:=by omega
 have q0:(96:Int)<n:=by omega
 --the state while the blocks are read
 have hemp:Hid (∀W (As:List aV),Sep w0 W As->Sep w0 (W.alloc (.cells (madeCells #[.int .u8 0] 512) 5)) (aJ (sV W.heap.size 512 512) bV::As)):=Lh fun W As hW=>by have:=hW.made 5 (.int .u8 0) 512 vE;rw[bT fH,BZ];exact this
 have hw1:Hid (∀W v,Sep w0 W (aG (bl+1+1) p false::aN p D::aJ v bV::aH (bl+1) 0:: .box bl 110 #[pV (bl+1+1)]::R)->
   Calls Tryz.prog 161 #[pV (bl+1+1),iV 0,v] W fun e w'=>e= .returned (.tuple #[])/\Sep w0 w' (aG (bl+1+1) p false::aN p D1::aJ v bV::aH (bl+1) 0:: .box bl 110 #[pV (bl+1+1)]::R)):=Lh fun W v hW=>by
  have:=sS (i:=0) (bs:=bV) hok aI fH (by rw[hbk];decide) (iG.part 0 rfl) hoff hW;rw[<-hD1]at this;exact this
 have hf1:Hid (∀W v,Sep w0 W (aG (bl+1+1) p false::aN p D1::aJ v bV::aH (bl+1) 0:: .box bl 110 #[pV (bl+1+1)]::R)->
   Calls Tryz.prog 155 #[pV (bl+1+1)] W fun e w'=>e= .returned (.tuple #[])/\Sep w0 w' (aG (bl+1+1) p false::aN p D::aJ v bV::aH (bl+1) 0:: .box bl 110 #[pV (bl+1+1)]::R)):=Lh fun W v hW=>by
  have:=qJ hok1 avZ hW;rw[aAW]at this;exact this
 have hrd:Hid (∀W v (i:Nat),i<n->Sep w0 W (aG (bl+1+1) p false::aN p D::aJ v bV::aH (bl+1) 0:: .box bl 110 #[pV (bl+1+1)]::R)->
   Calls Tryz.prog 153 #[pV (bl+1+1),iV i] W fun e w'=>∃A c,e= .returned (.slice A 512 c)/\BytesAt w' (.slice A 512 c) bV/\BytesAt w' v bV/\Sep w0 w' (aG (bl+1+1) p false::aN p D::aJ v bV::aH (bl+1) 0:: .box bl 110 #[pV (bl+1+1)]::R)):=Lh fun W v i hi hW=>by
  refine(PX hok hi hoff hW).mono ?_;rintro e w' ⟨u,rfl,h9⟩;rw[ajJ i hi]at h9;obtain⟨A,c,e9⟩:=h9.dS 0 rfl;rw[fH]at e9;subst e9;exact⟨A,c,rfl,h9.rd 0 rfl,h9.rd 3 rfl,h9.drop 1⟩
 have hf2:Hid (∀W v,Sep w0 W (aG (bl+1+1) p false::aN p D::aJ v bV::aH (bl+1) 0:: .box bl 110 #[pV (bl+1+1)]::R)->
   Calls Tryz.prog 155 #[pV (bl+1+1)] W fun e w'=>e= .returned (.tuple #[])/\Sep w0 w' (aG (bl+1+1) p false::aN p D::aH (bl+1) 0:: .box bl 110 #[pV (bl+1+1)]::R)):=Lh fun W v hW=>by
  refine(qJ hok hoff hW).mono ?_;rw[oG];rintro e w' ⟨rfl,h9⟩;exact⟨rfl,(Sep.dC [2,0,1,3,4] h9 aR bK).drop 1⟩
 have hhd:Hid (∀W,Sep w0 W (aG (bl+1+1) p false::aN p D::aH (bl+1) 0:: .box bl 110 #[pV (bl+1+1)]::R)->Calls Tryz.prog 162 #[.slice none 0 0] W fun e w'=>∃u,e= .returned u/\Sep w0 w' (aG (bl+1+1) p false::aN p D::aJ u (fE [])::aH (bl+1) 0:: .box bl 110 #[pV (bl+1+1)]::R)):=Lh fun W hW=>by refine(PY (w:=W) (v:=.slice none 0 0) (ps:=[]) ⟨rfl,none,0,rfl,iU _,by unfold maxLen;omega,fun h=>absurd h aR⟩ aR (fun p hp=>by cases hp)).mono ?_;rintro e w' ⟨u,rfl,hS⟩;exact⟨u,rfl,Sep.dC [1,2,0,3,4] (hW.join hS) aR bK⟩
 have hw2:Hid (∀W v,Sep w0 W (aG (bl+1+1) p false::aN p D::aJ v (fE [])::aH (bl+1) 0:: .box bl 110 #[pV (bl+1+1)]::R)->
   Calls Tryz.prog 161 #[pV (bl+1+1),iV 0,v] W fun e w'=>e= .returned (.tuple #[])/\Sep w0 w' (aG (bl+1+1) p false::aN p D2::aJ v (fE [])::aH (bl+1) 0:: .box bl 110 #[pV (bl+1+1)]::R)):=Lh fun W v hW=>by
  have:=sS (i:=0) (bs:=fE []) hok aI (oH (ps:=[]) aR) (by rw[hbk];decide) (iG.part 0 rfl) hoff hW;rw[<-hD2]at this;exact this
 have hf3:Hid (∀W v,Sep w0 W (aG (bl+1+1) p false::aN p D2::aJ v (fE [])::aH (bl+1) 0:: .box bl 110 #[pV (bl+1+1)]::R)->
   Calls Tryz.prog 155 #[pV (bl+1+1)] W fun e w'=>e= .returned (.tuple #[])/\Sep w0 w' (aG (bl+1+1) p false::aN p D3::aJ v (fE [])::aH (bl+1) 0:: .box bl 110 #[pV (bl+1+1)]::R)):=Lh fun W v hW=>by
  have:=qJ hok2 PW hW;rw[aw7]at this;exact this
 have hcl:Hid (∀W Y,Sep w0 W (Y++ .box bl 110 #[pV (bl+1+1)]::R)->W.cell? ⟨bl,0,none⟩=some (pV (bl+1+1))):=Lh fun W Y hW=>by(have hi:(Y++ .box bl 110 #[pV (bl+1+1)]::R)[Y.length]? =some (.box bl 110 #[pV (bl+1+1)]):=by simp);exact hW.bC _ hi 0
 have hc2:=hcl.out _ [_,_,_] hS2.out;have uZ:=hon.out _ _ (Sep.dC [1,0,2,3] hS2.out aR bK);have aAX:=hbs.out _ _ (Sep.dC [1,0,2,3] hS2.out aR bK);have hE2:=hemp.out _ _ hS2.out;simp only[World.size_alloc]at hE2;have eZ:Hid (Sep w0 _ (aG (bl+1+1) p false::aN p D::aJ _ bV::aH (bl+1) 0:: .box bl 110 #[pV (bl+1+1)]::R)):=Lh (Sep.dC [1,2,0,3,4] hE2 aR bK);have aAY:=hw1.out _ _ eZ.out;have hc3:=hcl.out _ [_,_,_,_] eZ.out;clear hE2 hemp hw1 hok hok1 hok2 hoff avZ PW hbk ajJ aAW oG aw7 hD hD1 hD2 hD3 h h0 h1 eZ;rw[hbl]at*
 go_enter_defers Tryz.func96,Tryz.ntmps96
 go_wp2_with(first |(go_at_call 93;refine uZ.mono ?_;rintro e w9 ⟨rfl,h9⟩;obtain rfl:=h9.symm;clear uZ)|(go_at_call 94;refine aAX.mono ?_;rintro e w9 ⟨rfl,h9⟩;obtain rfl:=h9.symm;clear aAX)|(go_at_call 161;refine aAY.mono ?_;rintro e w8 ⟨rfl,h8⟩;(have c8:=hcl.out _ [_,_,_,_] h8);(have AV:=hf1.out _ _ h8);clear aAY h8)|(go_at_call 155;refine AV.mono ?_;rintro e w7 ⟨rfl,h7⟩;replace h7:=Lh h7;clear AV c8));go_loopw[5] (fun iv wr=>∃k:Nat,96<=k/\k<=n/\iv=iV k/\Hid (Sep w0 wr (aG (w.heap.size+1+1) p false::aN p D::aJ (sV (w.heap.size+1+1+1) 512 512) bV::aH (w.heap.size+1) 0:: .box w.heap.size 110 #[pV (w.heap.size+1+1)]::R))) (fun iv _=>n-(intOf iv).toNat)
 case atStart=>exact⟨96,iU _,by omega,rfl,h7⟩
 obtain⟨k,aL1,hk,rfl,hS⟩:=hrel;clear h7;have hbk:=hbs.out _ _ (Sep.dC [1,0,2,3,4] hS.out aR bK);by_cases hlt:k<n
 ·have hck:=hcl.out _ [_,_,_,_] hS.out.drew;have hrk:=hrd.out _ _ k hlt hS.out.drew;have hcv:(convert 69 9 (.slice (some ⟨w.heap.size+1+1+1,0,none⟩) 512 512)).run Tryz.prog wr.drew= .ok (.string ⟨bV.toArray⟩) wr.drew:=gM (hS.out.drew.rd 2 rfl);(have j1:(k:Int)<n:=by omega);(have j0:(96:Int)<=k:=by omega);clear hS;go_wp2_with(go_at_call 94;refine hbk.mono ?_;rintro e w9 ⟨rfl,h9⟩;obtain rfl:=h9.symm;clear hbk);rename_i K1 hK1;refine kH ?_;refine aO (S:=fun w'=>w'.cell? ⟨w.heap.size,0,none⟩=some (pV (w.heap.size+1+1))/\(convert 69 9 (sV (w.heap.size+1+1+1) 512 512)).run Tryz.prog w'= .ok (.string ⟨bV.toArray⟩) w') 7 ?_;have hE:=And.intro hck hcv;refine aA 0 hE ?_;refine aA 1 hE ?_;refine aA 4 hE ?_;refine aA 5 hE ?_;(refine bH 2 fun K hK=>?_);go_simp;go_at_call 153;refine hrk.mono ?_;rintro e w5 ⟨A5,c5,rfl,hb5,hv5,h5⟩;have aL2:(convert 69 9 (.slice A5 512 c5)).run Tryz.prog w5= .ok (.string ⟨bV.toArray⟩) w5:=gM hb5;have aFW:(convert 69 9 (.slice (some ⟨w.heap.size+1+1+1,0,none⟩) 512 512)).run Tryz.prog w5= .ok (.string ⟨bV.toArray⟩) w5:=gM hv5;have IP:=And.intro (hcl.out _ [_,_,_,_] h5) aFW;replace h5:=Lh h5;clear hE hck hcv hrk hb5 hv5;dsimp only;refine hK _ _ (fun _=>IP) ?_;clear hK K;(try simp only[Act.put,gD]);refine bG 3 (fun _=>IP) ?_;refine bG 6 (fun _=>IP) ?_;refine aS fT ?_ _;simp only[nU,Exit.then];apply hK1;(have hz:(bV.toArray==bV.toArray)=true:=by simp);(have hz2:(bV.toArray !=bV.toArray)=false:=by simp);go_wp2_with fail;go_roundw
  case rel=>exact⟨k+1,by omega,by omega,by go_num,h5⟩
  case measure=>(simp[intOf];omega)
 obtain rfl:k=n:=by omega
 have aAZ:=hf2.out _ _ hS.out;have hc0:=hcl.out _ [_,_,_,_] hS.out;clear hS;go_wp2_with(first |(go_at_call 94;refine hbk.mono ?_;rintro e w9 ⟨rfl,h9⟩;obtain rfl:=h9.symm;clear hbk)|(go_at_call 155;refine aAZ.mono ?_;rintro e w5 ⟨rfl,h5⟩;(have hc5:=hcl.out _ [_,_,_] h5.drew);replace h5:=Lh h5;clear aAZ));refine kH ?_;refine aO (S:=fun w'=>w'.cell? ⟨w.heap.size,0,none⟩=some (pV (w.heap.size+1+1))) 3 ?_;refine aA 0 hc5 ?_;refine bH 1 fun K hK=>?_
 go_simp;go_at_call 162;refine(hhd.out _ h5.out.drew).mono ?_;rintro e w6 ⟨u,rfl,h6⟩;have hc6:=hcl.out _ [_,_,_,_] h6;have aA0:=hw2.out _ _ h6;clear h5 hc5 h6;dsimp only;refine hK _ _ (fun _=>hc6) ?_;clear hK K;try simp only[Act.put,gD]
 refine bH 2 fun K hK=>?_
 go_simp;go_at_call 161;refine aA0.mono ?_;rintro e w8 ⟨rfl,h8⟩;have hc8:=hcl.out _ [_,_,_,_] h8;have aA1:=hf3.out _ _ h8;clear hc6 aA0 h8;dsimp only;refine hK _ _ (fun _=>hc8) ?_;clear hK K;try simp only[Act.put,gD]
 refine aS fT ?_ _;simp only[nU];go_wp2_with(go_at_call 155;refine aA1.mono ?_;rintro e w4 ⟨rfl,h4⟩;(have x1:=hcl.out _ [_,_,_,_] h4);(have x2:=h4.bF 4 rfl 0);(have h3:=h4.bS 4 rfl 0 (pV (w.heap.size+1+1)));(have x3:=h3.bC 3 rfl 0);(have x4:=h3.bF 3 rfl 0);(have h2:=h3.bS 3 rfl 0 (.int .i64 0));replace h2:=Lh h2;clear aA1 h3 h4);refine nY ?_;have ec:=h2.out.bC 3 rfl 0;have el:=h2.out.bC 4 rfl 0;try simp only[gA,gB]at ec el
 refine leaves_cons (u:=.returning) bK (tT _ _ abP) ?_;refine(akT ec).mono ?_;rintro e u' w' ⟨rfl,rfl,rfl⟩;refine⟨.tuple #[pV (w.heap.size+1+1),iV 0],by simp[results,Tryz.results96,go_sem,ec,el],_,rfl,?_⟩;exact(Sep.dC [2,3,4,0,1] h2.out aR bK:Sep w0 _ (_::_::_::aG (w.heap.size+1+1) p false::aN p D3::R)).drop 3
end
end Go.Proofs.YtmjomdkleikgbaaGreat
