/- Parts. -/
import Derived.Test.YtmjomdkleikgbaaGreatJ23
set_option linter.unusedVariables false
set_option linter.unusedSimpArgs false
set_option maxRecDepth 100000
set_option maxHeartbeats 20000000
namespace Go.Proofs.YtmjomdkleikgbaaGreat
open Go.RowKit
def xA (S:VS) (path:List UInt8):Int:=if cO path=0 then((dU (aP S.cur S.data 0 0 (splitB path))).getD 0)else cO path
def GV (k m l s i:Int):Value:=.agg #[iV k,iV m,iV l,iV s,iV i]
def statOf (S:VS) (path:List UInt8):Value:=
 if xA S path=0 then
  let n:=(aP S.cur S.data 0 0 (splitB path)).2.1.toNat
  GV (aF S.cur n).kind (aF S.cur n).mode (aF S.cur n).links (aF S.cur n).size (n+1:Nat)
 else GV 0 0 0 0 0
section
variable {w0 w:World} {R:List aV} {f q p:Nat} {S:VS} {a:VA}
theorem Sep.awZ {As:List aV} {b:Nat} {t:TypeId} {v0 v1 v2 v3 v4:Value} (u0 u1 u2 u3 u4:Value) (i:Nat) (h:Sep w0 w As) (hi:As[i]? =some (.box b t #[v0,v1,v2,v3,v4])):
  (w.frozen? ⟨b,0,none⟩=false/\w.cell? ⟨b,0,none⟩=some v0)/\
  ((w.setCell ⟨b,0,none⟩ u0).frozen? ⟨b,1,none⟩=false/\(w.setCell ⟨b,0,none⟩ u0).cell? ⟨b,1,none⟩=some v1)/\
  (((w.setCell ⟨b,0,none⟩ u0).setCell ⟨b,1,none⟩ u1).frozen? ⟨b,2,none⟩=false/\((w.setCell ⟨b,0,none⟩ u0).setCell ⟨b,1,none⟩ u1).cell? ⟨b,2,none⟩=some v2)/\
  ((((w.setCell ⟨b,0,none⟩ u0).setCell ⟨b,1,none⟩ u1).setCell ⟨b,2,none⟩ u2).frozen? ⟨b,3,none⟩=false/\(((w.setCell ⟨b,0,none⟩ u0).setCell ⟨b,1,none⟩ u1).setCell ⟨b,2,none⟩ u2).cell? ⟨b,3,none⟩=some v3)/\
  (((((w.setCell ⟨b,0,none⟩ u0).setCell ⟨b,1,none⟩ u1).setCell ⟨b,2,none⟩ u2).setCell ⟨b,3,none⟩ u3).frozen? ⟨b,4,none⟩=false/\((((w.setCell ⟨b,0,none⟩ u0).setCell ⟨b,1,none⟩ u1).setCell ⟨b,2,none⟩ u2).setCell ⟨b,3,none⟩ u3).cell? ⟨b,4,none⟩=some v4)/\
  Sep w0 (((((w.setCell ⟨b,0,none⟩ u0).setCell ⟨b,1,none⟩ u1).setCell ⟨b,2,none⟩ u2).setCell ⟨b,3,none⟩ u3).setCell ⟨b,4,none⟩ u4) (As.set i (.box b t #[u0,u1,u2,u3,u4])):=by
 have hlt:=(gF.1 hi).1;have h1:=h.bS i hi 0 u0;have e1:(As.set i (.box b t #[u0,v1,v2,v3,v4]))[i]? =some (.box b t #[u0,v1,v2,v3,v4]):=MU hlt;have h2:=h1.bS i e1 1 u1;rw[TQ]at h2;have e2:(As.set i (.box b t #[u0,u1,v2,v3,v4]))[i]? =some (.box b t #[u0,u1,v2,v3,v4]):=MU hlt;have h3:=h2.bS i e2 2 u2;rw[TQ]at h3;have e3:(As.set i (.box b t #[u0,u1,u2,v3,v4]))[i]? =some (.box b t #[u0,u1,u2,v3,v4]):=MU hlt;have h4:=h3.bS i e3 3 u3;rw[TQ]at h4;have e4:(As.set i (.box b t #[u0,u1,u2,u3,v4]))[i]? =some (.box b t #[u0,u1,u2,u3,v4]):=MU hlt;have h5:=h4.bS i e4 4 u4;rw[TQ]at h5;exact⟨⟨h.bF i hi 0,h.bC i hi 0⟩,⟨h1.bF i e1 1,h1.bC i e1 1⟩,⟨h2.bF i e2 2,h2.bC i e2 2⟩,⟨h3.bF i e3 3,h3.bC i e3 3⟩,⟨h4.bF i e4 4,h4.bC i e4 4⟩,h5⟩
theorem yT {S:VS} {path:List UInt8} {k:Int} (h:dU (aP S.cur S.data 0 0 (splitB path))=some k):k≠0/\k≠11:=by have:=uC h;unfold DR at this;omega
theorem aoK {path:List UInt8} (hp:path.length<=9223372036854775807) (ho:S.D.off=false) (hV:VW S.base) (h:Sep w0 w (bE f q p S::R)):
  Calls Tryz.prog 79 #[pV f,aC path] w fun e w'=>e= .returned (.tuple #[statOf S.base path,iV (xA S.base path)])/\Sep w0 w' (bE f q p S.base::R):=by
 have hb:=wY h;obtain⟨b,hbw⟩:∃b,b=w.heap.size:=⟨_,rfl⟩;have h1:Sep w0 ((w.alloc (.cells #[iV 0,iV 0,iV 0,iV 0,iV 0] 105)).alloc (.cells #[iV 0] 40)) (bE f q p S::aH (b+1) 0:: .box b 105 #[iV 0,iV 0,iV 0,iV 0,iV 0]::R):=by have:=(h.bN 105 #[iV 0,iV 0,iV 0,iV 0,iV 0]).bN 40 #[iV 0];rw[World.size_alloc,<-hbw]at this;exact Sep.dC [2,0,1] this aR (by simp[aH])
 have haw:=wS ho h1;obtain⟨T,hT⟩:∃T,T=S.base:=⟨_,rfl⟩;rw[<-hT]at hV hb haw ⊢;clear ho;obtain⟨Z,hZ⟩:∃Z:Array Value,Z=#[iV 0,iV 0,iV 0,iV 0,iV 0]:=⟨_,rfl⟩;have hres:Hid (∀(tm:Array Value) W x (k m l s i:Int) Y,tm.getD 5 undef=pV (b+1)->tm.getD 4 undef=pV b->Sep w0 W (Y++aH (b+1) x:: .box b 105 #[iV k,iV m,iV l,iV s,iV i]::R)->(results Tryz.f79 tm).run Tryz.prog W= .ok (.tuple #[GV k m l s i,iV x]) W):=Lh fun tm W x k m l s i Y ht hv hW=>by(have hi:(Y++aH (b+1) x:: .box b 105 #[iV k,iV m,iV l,iV s,iV i]::R)[Y.length]? =some (aH (b+1) x):=by simp);(have hi2:(Y++aH (b+1) x:: .box b 105 #[iV k,iV m,iV l,iV s,iV i]::R)[Y.length+1]? =some (.box b 105 #[iV k,iV m,iV l,iV s,iV i]):=by simp);have ec:=hW.bC _ hi 0;have z0:=hW.bC _ hi2 0;have z1:=hW.bC _ hi2 1;have z2:=hW.bC _ hi2 2;have z3:=hW.bC _ hi2 3;have z4:=hW.bC _ hi2 4;simp only[gA,gB,gC]at ec z0 z1 z2 z3 z4;(have ht2:tm[5]?.getD undef=pV (b+1):=by simpa using ht);(have hv2:tm[4]?.getD undef=pV b:=by simpa using hv);simp[results,Tryz.results79,go_sem,ht2,hv2,asAddr,loadVar,ec,z0,z1,z2,z3,z4,GV]
 have hpl:Hid (∀W,Calls Tryz.prog 68 #[aC path] W fun e w'=>e=(if cO path=0 then .returned (.tuple #[])else .panicked (eQ (cO path)))/\Below W.heap.size W w'):=Lh fun W=>CP hp W
 have jP:Hid (∀(tm:Array Value) W a k,k=xA T path->k≠0->k≠11->VC T a->Sep w0 W (aD f q p T a::aH (b+1) 0:: .box b 105 Z::R)->tm.getD 5 undef=pV (b+1)->tm.getD 4 undef=pV b->
   Leaves Tryz.prog Tryz.f79 tm (fun e w'=>e= .returned (.tuple #[statOf T path,iV (xA T path)])/\Sep w0 w' (bE f q p T::R)) [{target:=.fn (.func 52) #[],args:=#[pV f,pV (b+1)]}] (.panicking (eQ k)) W):=Lh fun tm W a k hk h0 h11 hC hW ht ht4=>by
  (refine AU hC hb h11 hW fun w' hw=>?_);rw[hZ]at hw;refine⟨_,hres.out tm w' k 0 0 0 0 0 [bE f q p T] ht ht4 hw,?_,?_⟩
  ·unfold statOf;rw[<-hk,if_neg h0]
  have h5:Sep w0 w' (aH (b+1) k:: .box b 105 #[iV 0,iV 0,iV 0,iV 0,iV 0]::bE f q p T::R):=Sep.dC [1,2,0] hw aR bK;exact h5.drop 2
 have hfl:Hid (aU path=true->∀W a,VC T a->Sep w0 W (aD f q p T a::aH (b+1) 0:: .box b 105 Z::R)->Calls Tryz.prog 107 #[pV f,aC path] W fun e w'=>e=lH (aP T.cur T.data 0 0 (splitB path))/\∃a',VC T a'/\Sep w0 w' (aD f q p T a'::aH (b+1) 0:: .box b 105 Z::R)):=Lh fun hv W a hC hW=>
  (nL hC hV hv (dD hv) hW).mono fun e w' ⟨h1,a',h2,h3⟩=>⟨h1,a',h2.ok,h3⟩
 have hct:Hid (∀m:Nat,m<T.names->∀W a,VC T a->Sep w0 W (aD f q p T a::aH (b+1) 0:: .box b 105 Z::R)->Calls Tryz.prog 72 #[pV f,iV m] W fun e w'=>∃A n c a2,e= .returned (fB (aF T.cur m) (.slice A n c))/\VC T a2/\Sep w0 w' (aD f q p T a2::aH (b+1) 0:: .box b 105 Z::R)):=Lh fun m hm W a hC hW=>by refine(iW hC hV.vf hm (hV.few m hm) hW).mono ?_;rintro e w' ⟨v,a2,rfl,hR,h9⟩;obtain⟨A9,c9,e9⟩:=h9.dS 0 rfl;subst e9;exact⟨A9,_,c9,a2,rfl,hR.ok,h9.drop 1⟩
 have hln:=nM hV (path:=path);have hpw:=uD path;have hfs:∀k,dU (aP T.cur T.data 0 0 (splitB path))=some k->k≠0/\k≠11:=fun k hk=>yT hk
 have hn4:=hV.vf.names;clear hV hT h h1;by_cases h0:cO path=0
 ·have hv:=wZ h0;rw[h0,if_pos rfl]at hpl;have oG:=Lh (hfl.out hv);(have hrx:xA T path=(dU (aP T.cur T.data 0 0 (splitB path))).getD 0:=by unfold xA;rw[if_pos h0]);replace hrx:=Lh hrx;clear hfl hp hv h0 hpw;rw[qN]at oG;obtain⟨fe,hfe⟩:∃fe,fe=dU (aP T.cur T.data 0 0 (splitB path)):=⟨_,rfl⟩;rw[<-hfe]at oG hfs hrx;cases fe with
  |some k=>
   obtain⟨hk0,abD⟩:=hfs k rfl;have hg:=Lh (fun tm W a=>jP.out tm W a k hrx.out.symm hk0 abD);clear hfs hfe hct hln hk0 abD jP hn4;simp only at oG;obtain⟨sv,hsv⟩:∃sv,sv=aC path:=⟨_,rfl⟩;unfold aC at*;rw[hbw]at*
   go_enter_defers Tryz.func79,Tryz.ntmps79
   go_wp2_with(first |(go_at_call 53;refine haw.mono ?_;rintro e w9 ⟨rfl,a9,dQ,h9⟩;rw[<-hZ]at h9;replace dQ:=Lh dQ;clear haw)|(go_at_call 68;refine(hpl.out _).mono ?_;rintro e w8 ⟨rfl,rC⟩;have AV:=oG.out _ _ dQ.out (h9.pure rC);clear h9 rC hpl)|(go_at_call 107;refine AV.mono ?_;rintro e w7 ⟨rfl,a7,FD,h7⟩;clear AV));exact hg.out _ _ _ FD h7 rfl rfl
  |none=>
   obtain⟨hr0,hr1⟩:=qO hfe.symm;obtain⟨d,m,hdl,zH,hre⟩:=hln hr0 hr1;(have hso:statOf T path=GV (aF T.cur m).kind (aF T.cur m).mode (aF T.cur m).links (aF T.cur m).size (m+1:Nat):=by unfold statOf;rw[hrx.out,hre];simp);have GN:=Lh (hct.out m zH);(have hm5:(m:Int)<5000:=by omega);replace hso:=Lh hso;rw[hre]at oG;clear hfs hfe hct hln hr0 hr1 jP zH hdl hre hn4;simp only[MW]at oG hrx;obtain⟨⟨ik,im,il,is,isp⟩,hin⟩:∃x,x=aF T.cur m:=⟨_,rfl⟩;rw[<-hin]at GN hso;simp only[fB,aM]at GN hso;clear hin;obtain⟨sv,hsv⟩:∃sv,sv=aC path:=⟨_,rfl⟩;unfold aC at*;rw[hbw]at*
   go_enter_defers Tryz.func79,Tryz.ntmps79
   go_wp2_with(first |(go_at_call 53;refine haw.mono ?_;rintro e w9 ⟨rfl,a9,dQ,h9⟩;rw[<-hZ]at h9;replace dQ:=Lh dQ;clear haw)|(go_at_call 68;refine(hpl.out _).mono ?_;rintro e w8 ⟨rfl,rC⟩;have AV:=oG.out _ _ dQ.out (h9.pure rC);clear h9 rC hpl)|(go_at_call 107;refine AV.mono ?_;rintro e w7 ⟨rfl,a7,FD,h7⟩;have hc7:=GN.out _ _ FD h7;clear AV h7 GN FD)|(go_at_call 72;refine hc7.mono ?_;rintro e w6 ⟨A6,n6,c6,a6,rfl,KN,h6⟩;(have h5:=h6.bN 129 #[iV (ik:Nat),iV (im:Nat),iV (il:Nat),iV (is:Nat),.slice A6 n6 c6]);(have x0:=h5.bC 0 rfl 0);(have x1:=h5.bC 0 rfl 1);(have x2:=h5.bC 0 rfl 2);(have x3:=h5.bC 0 rfl 3);rw[hZ]at h5;(obtain⟨⟨y0,z0⟩,⟨y1,z1⟩,⟨y2,z2⟩,⟨y3,z3⟩,⟨y4,z4⟩,h4⟩:=h5.awZ (.int .i64 (ik:Nat)) (.int .i64 (im:Nat)) (.int .i64 (il:Nat)) (.int .i64 (is:Nat)) (.int .i64 ((m:Int)+1)) 3 rfl);(have k1:=h4.bC 2 rfl 0);(have k2:=h4.bF 2 rfl 0);simp only[gA,gB,gC,MV,IU]at k1 x0 x1 x2 x3;clear hc7 h5 h6;replace KN:=Lh KN;replace h4:=Lh h4));refine gY ?_;have h10:=h4.out.bS 2 rfl 0 (.int .i64 0);refine⟨_,hres.out _ _ 0 _ _ _ _ _ [_,aD f q p T a6] rfl rfl h10,?_,?_⟩
   ·rw[hso.out,hrx.out];rfl
   have h11:Sep w0 _ ([_,aH (w.heap.size+1) 0,_]++(aD f q p T a6::R)):=Sep.dC [0,2,3,1] h10 aR (by simp[aH]);exact oN KN.out hb (h11.drop 3)
 have hrx:xA T path=cO path:=by unfold xA;rw[if_neg h0]
 have hg:=Lh (fun tm W a=>jP.out tm W a (cO path) hrx.symm h0 hpw);rw[if_neg h0]at hpl;clear hfl hct hln jP hfs hpw hn4;obtain⟨sv,hsv⟩:∃sv,sv=aC path:=⟨_,rfl⟩;unfold aC at*;rw[hbw]at*
 go_enter_defers Tryz.func79,Tryz.ntmps79
 go_wp2_with(first |(go_at_call 53;refine haw.mono ?_;rintro e w9 ⟨rfl,a9,dQ,h9⟩;rw[<-hZ]at h9;replace dQ:=Lh dQ;clear haw)|(go_at_call 68;refine(hpl.out _).mono ?_;rintro e w8 ⟨rfl,rC⟩;replace h9:=h9.pure rC;clear rC hpl));exact hg.out _ _ _ dQ.out h9 rfl rfl
end
def vB (S:VS) (path:List UInt8) (bs:List UInt8):Except Int (Option VS):=
 if cO path=0 then
  if 8192<bs.length then .error 2
  else
   let r:=aP S.cur S.data 0 0 (splitB path)
   if r.2.2=0 then
    if r.2.1<0 then(if S.nodes<256 then .ok (jV S (⟨2,384,1,0,[]⟩:VI) bs r.1.toNat (aL path))else .error 31)
    else if(aF S.cur r.2.1.toNat).kind=1 then .error 24 else .ok (iF S r.2.1.toNat bs)
   else .error r.2.2
 else .error (cO path)
structure avW (S:VS) (path:List UInt8) (bs:List UInt8):Prop where
 new:∀d:Nat,aP S.cur S.data 0 0 (splitB path)=((d:Int), -1,0)->S.nodes<256->uB S (⟨2,384,1,0,[]⟩:VI) bs d path
 old:∀d m:Nat,m<S.names->aP S.cur S.data 0 0 (splitB path)=((d:Int),(m:Int),0)->¬(aF S.cur m).kind=1->mZ S m/\fF S/\∀S1,iF S m bs=some S1->lT S S1
theorem aoL {S:VS} {path bs:List UInt8}:akF (vB S path bs):=fun k h=>by
 unfold vB at h;have h1:=uD path;have h2:=sQ S.cur S.data (splitB path) 0 0;simp only at h;split at h
 ·split at h
  ·cases h;decide
  split at h
  ·split at h
   ·split at h
    ·cases h
    cases h;decide
   split at h
   ·cases h;decide
   cases h
  cases h;omega
 cases h;exact h1
theorem abE :∀args w,(callFunc 74 args).run Tryz.prog w= .ok (.enter 74 args) w:=Go.Proofs.enters_of Tryz.func74 fT rfl
section
variable {w0 w:World} {R:List aV} {f q p:Nat} {S:VS} {a:VA}
theorem akJ {r:Except Int (Option VS)} {x:Int} {Y R:List aV} (h:nI f q p S r w0 w (Y++R) x):nI f q p S r w0 w R x:=GR h fun Z hZ=>by
 have h1:Sep w0 w (Y++(Z++R)):=hZ.perm (by rw[<-nT,<-nT];exact List.Perm.append_right _ NB);have h2:=h1.drop Y.length
 rwa [DX]at h2
theorem AX {r:Except Int (Option VS)} {x y z:Int} {b:Nat} (h:nI f q p S r w0 w (aH b y::R) x):nI f q p S r w0 (w.setCell ⟨b,0,none⟩ (.int .i64 z)) (aH b z::R) x:=GR h fun Z hZ=>by
 have hi2:(Z++aH b y::R)[Z.length]? =some (aH b y):=by simp
 have h5:=hZ.bS _ hi2 0 (.int .i64 z);rw[TC _ _ (iU _),DI]at h5;exact h5
theorem PK {r:Except Int (Option VS)} {x y:Int} {b:Nat} (h:nI f q p S r w0 w (aH b y::R) x):w.cell? ⟨b,0,none⟩=some (iV y)/\w.frozen? ⟨b,0,none⟩=false:=by
 obtain⟨Y,hY⟩:=CL h;have hi:(Y++aH b y::R)[Y.length]? =some (aH b y):=by simp
 have k1:=hY.bC _ hi 0;simp only[gA,gB]at k1;exact⟨k1,hY.bF _ hi 0⟩
theorem aoM {path bs:List UInt8} {A:Option Addr} {c:Nat} (hp:path.length<=9223372036854775807) (hlen:bs.length<=4611686018427387903) (ho:S.D.off=false) (hV:VW S.base) (hst:iG w0 R (.slice A bs.length c) bs) (RS:cO path=0->¬8192<bs.length->avW S.base path bs) (h:Sep w0 w (bE f q p S::R)):
  Calls Tryz.prog 24 #[pV f,aC path,.slice A bs.length c] w fun e w'=>∃x,e= .returned (iV x)/\nI f q p S.base (vB S.base path bs) w0 w' R x:=by
 have hb:=wY h;obtain⟨b,hbw⟩:∃b,b=w.heap.size:=⟨_,rfl⟩;have h1:Sep w0 (((w.alloc (.cells #[pV f] 37)).alloc (.cells #[.slice A bs.length c] 69)).alloc (.cells #[iV 0] 40)) (bE f q p S::aH (b+1+1) 0:: .box (b+1) 69 #[.slice A bs.length c]:: .box b 37 #[pV f]::R):=by have:=((h.bN 37 #[pV f]).bN 69 #[.slice A bs.length c]).bN 40 #[iV 0];simp only[World.size_alloc,<-hbw]at this;exact Sep.dC [3,0,1,2] this aR (by simp[aH])
 have haw:=wS ho h1;have g0:=h1.bC 3 rfl 0;simp only[gA,gB]at g0;obtain⟨T,hT⟩:∃T,T=S.base:=⟨_,rfl⟩;rw[<-hT]at hV hb haw RS ⊢;have aAL:akF (vB T path bs):=aoL;clear ho hT;have hcs:Hid (∀W Y,Sep w0 W (Y++ .box (b+1) 69 #[.slice A bs.length c]:: .box b 37 #[pV f]::R)->W.cell? ⟨b,0,none⟩=some (pV f)/\W.cell? ⟨b+1,0,none⟩=some (.slice A bs.length c)):=Lh fun W Y hW=>by(have hi:(Y++ .box (b+1) 69 #[.slice A bs.length c]:: .box b 37 #[pV f]::R)[Y.length]? =some (.box (b+1) 69 #[.slice A bs.length c]):=by simp);(have hi2:(Y++ .box (b+1) 69 #[.slice A bs.length c]:: .box b 37 #[pV f]::R)[Y.length+1]? =some (.box b 37 #[pV f]):=by simp);exact⟨hW.bC _ hi2 0,hW.bC _ hi 0⟩
 have hres:Hid (∀(tm:Array Value) W x,tm.getD 6 undef=pV (b+1+1)->W.cell? ⟨b+1+1,0,none⟩=some (iV x)->(results Tryz.f24 tm).run Tryz.prog W= .ok (.int .i64 x) W):=Lh fun tm W x ht ec=>by(have ht2:tm[6]?.getD undef=pV (b+1+1):=by simpa using ht);simp[results,Tryz.results24,go_sem,ht2,asAddr,loadVar,ec]
 have hpl:Hid (∀W,Calls Tryz.prog 68 #[aC path] W fun e w'=>e=(if cO path=0 then .returned (.tuple #[])else .panicked (eQ (cO path)))/\Below W.heap.size W w'):=Lh fun W=>CP hp W
 --the ways out
 have hout:Hid (∀(tm:Array Value) W x Y,tm.getD 6 undef=pV (b+1+1)->nI f q p T (vB T path bs) w0 W (aH (b+1+1) x::(Y++R)) x->Leaves Tryz.prog Tryz.f24 tm (fun e w'=>∃x,e= .returned (iV x)/\nI f q p T (vB T path bs) w0 w' R x) [] .returning W):=Lh fun tm W x Y ht hE=>
  ⟨_,hres.out tm W x ht (PK hE).1,x,rfl,akJ (Y:=aH (b+1+1) x::Y) hE⟩
 have hfin:Hid (∀(ps:List PanicEntry) W (tm:Array Value) Y,tm.getD 6 undef=pV (b+1+1)->opD f q p T (vB T path bs) w0 (aH (b+1+1) 0::(Y++R)) (.panicked ps) W->
   Leaves Tryz.prog Tryz.f24 tm (fun e w'=>∃x,e= .returned (iV x)/\nI f q p T (vB T path bs) w0 w' R x) [{target:=.fn (.func 52) #[],args:=#[pV f,pV (b+1+1)]}] (.panicking ps) W):=Lh fun ps W tm Y ht hD=>
  aa8 hb aAL hD fun w' x hE=>hout.out tm w' x Y ht hE
 have jP:Hid (∀(tm:Array Value) W a k y Y,vB T path bs= .error k->k≠11->VC T a->Sep w0 W (aD f q p T a::aH (b+1+1) y::(Y++R))->tm.getD 6 undef=pV (b+1+1)->
   Leaves Tryz.prog Tryz.f24 tm (fun e w'=>∃x,e= .returned (iV x)/\nI f q p T (vB T path bs) w0 w' R x) [{target:=.fn (.func 52) #[],args:=#[pV f,pV (b+1+1)]}] (.panicking (eQ k)) W):=Lh fun tm W a k y Y hk h11 hC hW ht=>by
  (refine AU hC hb h11 hW fun w' hw=>hout.out tm w' k Y ht ?_);rw[hk];exact⟨rfl,hw⟩
 have hquit:Hid (∀(tm:Array Value) W a k y Y,vB T path bs= .error k->VC T a->Sep w0 W (aD f q p T a::aH (b+1+1) y::(Y++R))->tm.getD 6 undef=pV (b+1+1)->
   Leaves Tryz.prog Tryz.f24 tm (fun e w'=>∃x,e= .returned (iV x)/\nI f q p T (vB T path bs) w0 w' R x) [{target:=.fn (.func 52) #[],args:=#[pV f,pV (b+1+1)]}] .returning (W.setCell ⟨b+1+1,0,none⟩ (.int .i64 k))):=Lh fun tm W a k y Y hk hC hW ht=>by
  refine gY (hout.out tm _ k Y ht ?_);have h2:nI f q p T (.error 0) w0 W (aH (b+1+1) y::(Y++R)) 0:=⟨rfl,oN hC hb hW⟩;have h3:=AX (z:=k) h2;rw[hk];exact⟨rfl,h3.2⟩
 have hpw:=uD path;have hlk:Hid (aU path=true->∀W a R',VC T a->Sep w0 W (aD f q p T a::R')->Calls Tryz.prog 69 #[pV f,aC path] W fun e w'=>e= .returned (.tuple #[iV (aP T.cur T.data 0 0 (splitB path)).1,iV (aP T.cur T.data 0 0 (splitB path)).2.1,iV (aP T.cur T.data 0 0 (splitB path)).2.2])/\∃a',VC T a'/\Sep w0 w' (aD f q p T a'::R')):=Lh fun hv W a R' hC hW=>
  (OE hC hV hv (dD hv) hW).mono fun e w' ⟨h1,a',h2,h3⟩=>⟨h1,a',h2.ok,h3⟩
 clear h h1;by_cases h0:cO path=0
 ·have hv:=wZ h0;rw[h0,if_pos rfl]at hpl;have hlk2:=Lh (hlk.out hv);replace RS:=Lh (RS h0);have hpr:vB T path bs=(if 8192<bs.length then .error 2 else
   if(aP T.cur T.data 0 0 (splitB path)).2.2=0 then
    if(aP T.cur T.data 0 0 (splitB path)).2.1<0 then(if T.nodes<256 then .ok (jV T (⟨2,384,1,0,[]⟩:VI) bs (aP T.cur T.data 0 0 (splitB path)).1.toNat (aL path))else .error 31)
    else if(aF T.cur (aP T.cur T.data 0 0 (splitB path)).2.1.toNat).kind=1 then .error 24 else .ok (iF T (aP T.cur T.data 0 0 (splitB path)).2.1.toNat bs)
   else .error (aP T.cur T.data 0 0 (splitB path)).2.2):=by unfold vB;rw[if_pos h0]
  clear hlk hp h0 hpw aAL hv;by_cases h8:8192<bs.length
  ·rw[if_pos h8]at hpr;have hq:=Lh (fun tm W a y Y=>hquit.out tm W a 2 y Y hpr);(have h8':(8192:Int)<(bs.length:Int):=by omega);clear RS hpr hlk2 hV hfin jP hquit hst hlen hout hres hb;obtain⟨sv,hsv⟩:∃sv,sv=aC path:=⟨_,rfl⟩;unfold aC at*;rw[hbw]at*
   go_enter_defers Tryz.func24,Tryz.ntmps24
   go_wp2_with(first |(go_at_call 53;refine haw.mono ?_;rintro e w9 ⟨rfl,a9,dQ,h9⟩;replace dQ:=Lh dQ;clear haw)|(go_at_call 68;refine(hpl.out _).mono ?_;rintro e w8 ⟨rfl,rC⟩;replace h9:=h9.pure rC;(obtain⟨y0,y1⟩:=hcs.out _ [_,_] h9);(have k1:=h9.bC 1 rfl 0);(have k2:=h9.bF 1 rfl 0);simp only[gA,gB]at k1;clear rC hpl));exact hq.out _ _ a9 0 [_,_] dQ.out h9 rfl
  rw[if_neg h8]at hpr;replace RS:=Lh (RS.out h8);(have h8':(bs.length:Int)<=8192:=by omega);have hln:=nM hV (path:=path);have hok:=pF hV (splitB path) 0 0 hV.n0 hV.n0;have hle:=sQ T.cur T.data (splitB path) 0 0;obtain⟨⟨r1,r2,r3⟩,hr⟩:∃r,r=aP T.cur T.data 0 0 (splitB path):=⟨_,rfl⟩;rw[<-hr]at hpr hlk2 hln hok hle;simp only at hpr hlk2 hln hok hle;replace hr:=Lh hr;clear h8;by_cases h3:r3=0
  ·subst h3;rw[if_pos rfl]at hpr;obtain⟨⟨d,hdl,rfl⟩,hm2⟩:=hok rfl;by_cases h2:r2<0
   ·rw[if_pos h2,lM]at hpr;have e2:r2= -1:=by
     rcases hm2 with e|⟨m,_,e⟩
     ·exact e
     omega
    subst e2;(have hnw:=fun hn=>RS.out.new d (by rw[<-hr.out]) hn);clear hm2 hln hle hok RS hr h2 hdl;have hmd:Hid (T.nodes<256->∀W a Y,VC T a->Sep w0 W (aD f q p T a::(Y++R))->Calls Tryz.prog 71 #[pV f,iV (d:Nat),aC path,.agg #[iV 2,iV 384,iV 1,iV 0,.slice none 0 0],.slice A bs.length c] W (dA f q p T (jV T (⟨2,384,1,0,[]⟩:VI) bs d (aL path)) w0 (Y++R))):=Lh fun hn W a Y hC hW=>
     GK (x:=(⟨2,384,1,0,[]⟩:VI)) hC hV.vf hb (hnw hn) (fun w' X hX=>hst w' (X++Y) (by rw[nT];exact hX)) hW
    (have hon:Hid (∀W a R',Sep w0 W (aD f q p T a::R')->Calls Tryz.prog 70 #[pV f] W fun e w'=>e=(if T.nodes<256 then .returned (.tuple #[])else .panicked (eQ 31))/\w'=W):=Lh fun W a R' hW=>F6 hW);by_cases hn:T.nodes<256
    ·rw[if_pos hn]at hpr;have RX:=Lh (hmd.out hn);(have hob:Hid (∀W e Y,dA f q p T (jV T (⟨2,384,1,0,[]⟩:VI) bs d (aL path)) w0 (aH (b+1+1) 0::(Y++R)) e W->opD f q p T (vB T path bs) w0 (aH (b+1+1) 0::(Y++R)) e W):=Lh fun W e Y hc=>by rw[hpr];exact hc);rw[if_pos hn]at hon;clear hn hmd hpr jP hquit hnw hst;replace hb:=Lh hb;obtain⟨sv,hsv⟩:∃sv,sv=aC path:=⟨_,rfl⟩;unfold aC at*;rw[hbw]at*
     go_enter_defers Tryz.func24,Tryz.ntmps24
     go_wp2_with(first |(go_at_call 53;refine haw.mono ?_;rintro e w9 ⟨rfl,a9,dQ,h9⟩;replace dQ:=Lh dQ;clear haw)|(go_at_call 68;refine(hpl.out _).mono ?_;rintro e w8 ⟨rfl,rC⟩;replace h9:=h9.pure rC;(obtain⟨y0,y1⟩:=hcs.out _ [_,_] h9);(have hl:=hlk2.out _ _ _ dQ.out h9);clear rC hpl h9)|(go_at_call 69;refine hl.mono ?_;rintro e w7 ⟨rfl,a7,FD,h7⟩;clear hl y0 y1;(have h6:=h7.bN 3 #[iV (-1)]);(have k1:=h6.bC 2 rfl 0);(have k2:=h6.bF 2 rfl 0);(have h5:=h6.bS 2 rfl 0 (.int .i64 0));(have k3:=h5.bC 2 rfl 0);(have k4:=h5.bC 0 rfl 0);(have k5:=h5.bF 2 rfl 0);(have h4:Sep w0 _ (aD f q p T a7::aH (w.heap.size+1+1) 0::([.box w7.heap.size 3 #[iV (-1)],.box (w.heap.size+1) 69 #[.slice A bs.length c],.box w.heap.size 37 #[pV f]]++R)):=Sep.dC [1,2,0,3,4] h5 aR (by simp[aH]));(obtain⟨y0,y1⟩:=hcs.out _ [_,_,_] h4);simp only[gA,gB]at k1 k3 k4;clear h6 h7 h5;(have ho7:=hon.out _ _ _ h4);(have hm7:=RX.out _ _ ([aH (w.heap.size+1+1) 0,.box w7.heap.size 3 #[iV (-1)],.box (w.heap.size+1) 69 #[.slice A bs.length c],.box w.heap.size 37 #[pV f]]) FD h4);clear h4)|(go_at_call 54;refine(dO _ _).mono ?_;rintro e w6 ⟨rfl,h6⟩;obtain rfl:=h6.symm)|(go_at_call 70;refine ho7.mono ?_;rintro e w5 ⟨rfl,h5⟩;obtain rfl:=h5.symm;clear ho7));go_at_call 71;refine hm7.mono ?_;intro e wz hz;have hz2:=hob.out _ _ [_,_,_] hz;clear hm7 k1 k2 k3 k4 k5 y0 y1 RX hon;rcases PH hz2 with rfl|⟨k,rfl⟩
     ·obtain⟨_,hE⟩:=XG hb.out hz2;obtain⟨k1,k2⟩:=PK hE;replace hE:=Lh hE;clear hz hz2;go_wp2_with fail;refine gY (hout.out _ _ 0 _ rfl (AX (z:=0) hE.out))
     exact hfin.out _ _ _ _ rfl hz2
    rw[if_neg hn]at hpr;have hg:=Lh (fun tm W a y Y=>jP.out tm W a 31 y Y hpr aR);rw[if_neg hn]at hon;clear hn hmd hpr jP hquit hnw hst hfin hb hV hout hres;obtain⟨sv,hsv⟩:∃sv,sv=aC path:=⟨_,rfl⟩;unfold aC at*;rw[hbw]at*
    go_enter_defers Tryz.func24,Tryz.ntmps24
    go_wp2_with(first |(go_at_call 53;refine haw.mono ?_;rintro e w9 ⟨rfl,a9,dQ,h9⟩;replace dQ:=Lh dQ;clear haw)|(go_at_call 68;refine(hpl.out _).mono ?_;rintro e w8 ⟨rfl,rC⟩;replace h9:=h9.pure rC;(obtain⟨y0,y1⟩:=hcs.out _ [_,_] h9);(have hl:=hlk2.out _ _ _ dQ.out h9);clear rC hpl h9)|(go_at_call 69;refine hl.mono ?_;rintro e w7 ⟨rfl,a7,FD,h7⟩;clear hl y0 y1;(have h6:=h7.bN 3 #[iV (-1)]);(have k1:=h6.bC 2 rfl 0);(have k2:=h6.bF 2 rfl 0);(have h5:=h6.bS 2 rfl 0 (.int .i64 0));(have k3:=h5.bC 2 rfl 0);(have k4:=h5.bC 0 rfl 0);(have k5:=h5.bF 2 rfl 0);(have h4:Sep w0 _ (aD f q p T a7::aH (w.heap.size+1+1) 0::([.box w7.heap.size 3 #[iV (-1)],.box (w.heap.size+1) 69 #[.slice A bs.length c],.box w.heap.size 37 #[pV f]]++R)):=Sep.dC [1,2,0,3,4] h5 aR (by simp[aH]));(obtain⟨y0,y1⟩:=hcs.out _ [_,_,_] h4);simp only[gA,gB]at k1 k3 k4;clear h6 h7 h5;(have ho7:=hon.out _ _ _ h4);replace h4:=Lh h4)|(go_at_call 54;refine(dO _ _).mono ?_;rintro e w6 ⟨rfl,h6⟩;obtain rfl:=h6.symm)|(go_at_call 70;refine ho7.mono ?_;rintro e w5 ⟨rfl,h5⟩;obtain rfl:=h5.symm;clear ho7));exact hg.out _ _ _ 0 _ FD h4.out rfl
   rw[if_neg h2]at hpr;obtain⟨m,zH,rfl⟩:∃m:Nat,m<T.names/\r2=(m:Int):=by
    rcases hm2 with e|⟨m,hm,e⟩
    ·omega
    exact⟨m,hm,e⟩
   rw[lM]at hpr;(have hold:=fun hk=>RS.out.old d m zH (by rw[<-hr.out]) hk);(have hin:Hid (∀W a R',VC T a->Sep w0 W (aD f q p T a::R')->Calls Tryz.prog 72 #[pV f,iV (m:Nat)] W fun e w'=>∃v a2,e= .returned (.agg #[iV ((aF T.cur m).kind:Nat),iV ((aF T.cur m).mode:Nat),iV ((aF T.cur m).links:Nat),iV ((aF T.cur m).size:Nat),v])/\VC T a2/\Sep w0 w' (aD f q p T a2::R')):=Lh fun W a R' hC hW=>by refine(iW hC hV.vf zH (hV.few m zH) hW).mono ?_;rintro e w' ⟨v,a2,rfl,hR,h9⟩;exact⟨v,a2,rfl,hR.ok,h9.drop 1⟩);have hfk:=EJ;have hvf:=Lh hV.vf;replace zH:=Lh zH;clear hm2 hln hle hok RS hr h2 hdl hV;by_cases hk:(aF T.cur m).kind=1
   ·rw[if_pos hk]at hpr;(have hk1:(((aF T.cur m).kind:Int)==1)=true:=by rw[sZ];omega);have hq:=Lh (fun tm W a y Y=>hquit.out tm W a 24 y Y hpr);clear hold hpr jP hquit hst hfin hb hout hres hk;obtain⟨sv,hsv⟩:∃sv,sv=aC path:=⟨_,rfl⟩;unfold aC at*;rw[hbw]at*
    go_enter_defers Tryz.func24,Tryz.ntmps24
    go_wp2_with(first |(go_at_call 53;refine haw.mono ?_;rintro e w9 ⟨rfl,a9,dQ,h9⟩;replace dQ:=Lh dQ;clear haw)|(go_at_call 68;refine(hpl.out _).mono ?_;rintro e w8 ⟨rfl,rC⟩;replace h9:=h9.pure rC;(obtain⟨y0,y1⟩:=hcs.out _ [_,_] h9);(have hl:=hlk2.out _ _ _ dQ.out h9);clear rC hpl h9)|(go_at_call 69;refine hl.mono ?_;rintro e w7 ⟨rfl,a7,FD,h7⟩;clear hl y0 y1;(have h6:=h7.bN 3 #[iV (m:Nat)]);(have k1:=h6.bC 2 rfl 0);(have k2:=h6.bF 2 rfl 0);(have h5:=h6.bS 2 rfl 0 (.int .i64 0));(have k3:=h5.bC 2 rfl 0);(have k4:=h5.bC 0 rfl 0);(have k5:=h5.bF 2 rfl 0);(have h4:Sep w0 _ (aD f q p T a7::aH (w.heap.size+1+1) 0::([.box w7.heap.size 3 #[iV (m:Nat)],.box (w.heap.size+1) 69 #[.slice A bs.length c],.box w.heap.size 37 #[pV f]]++R)):=Sep.dC [1,2,0,3,4] h5 aR (by simp[aH]));(obtain⟨y0,y1⟩:=hcs.out _ [_,_,_] h4);simp only[gA,gB]at k1 k3 k4;clear h6 h7 h5;(have XM:=hin.out _ _ _ FD h4.drew);(have hy:=Lh (hcs.out _ [_,_,_] h4.drew));(have hk4:=h4.drew.bC 2 rfl 0);simp only[gA,gB]at hk4;clear h4)|(go_at_call 54;refine(dO _ _).mono ?_;rintro e w6 ⟨rfl,h6⟩;obtain rfl:=h6.symm)|(go_at_call 72;refine XM.mono ?_;rintro e w5 ⟨v5,a5,rfl,LH,h5⟩;(have k6:=h5.bC 1 rfl 0);(have k7:=h5.bF 1 rfl 0);simp only[gA,gB]at k6;clear XM));refine kH ?_;refine aO (S:=fun w'=>w'.cell? ⟨w.heap.size,0,none⟩=some (pV f)/\w'.cell? ⟨w7.heap.size,0,none⟩=some (iV (m:Nat))) 8 ?_;have hE:=And.intro hy.out.1 hk4;refine aA 0 hE ?_;refine aA 1 hE ?_;refine aA 2 hE ?_;refine aA 3 hE ?_;refine aA 4 hE ?_;(refine bH 5 fun K hK=>?_);go_simp;go_at_call 72;refine XM.mono ?_;rintro e w5 ⟨v5,a5,rfl,LH,h5⟩;have k6:=h5.bC 1 rfl 0;have k7:=h5.bF 1 rfl 0;have IP:=And.intro (hcs.out _ [_,_,_] h5).1 (h5.bC 2 rfl 0);simp only[gA,gB]at k6 IP;clear hE;dsimp only;refine hK _ _ (fun _=>IP) ?_;clear hK K;(try simp only[Act.put,gD]);refine bG 6 (fun _=>IP) ?_;refine bG 7 (fun _=>IP) ?_;refine aS fT ?_ _;simp only[nU];go_wp2_with fail;exact hq.out _ _ a5 0 _ LH h5 rfl
   rw[if_neg hk]at hpr;(have hk1:(((aF T.cur m).kind:Int)==1)=false:=by rw[kD];omega);obtain⟨hio,hsw,hco⟩:=hold hk;have hch:Hid (bs.length<=8192->∀W a nb,VC T a->Sep w0 W (aD f q p T a::([aH (b+1+1) 0,.box nb 3 #[iV (m:Nat)],.box (b+1) 69 #[.slice A bs.length c],.box b 37 #[pV f]]++R))->
     Calls Tryz.prog 73 #[pV f,.func (.func 74) #[] #[pV b,pV nb,pV (b+1)]] W (fun e w'=>opD f q p T (vB T path bs) w0 (aH (b+1+1) 0::([.box nb 3 #[iV (m:Nat)],.box (b+1) 69 #[.slice A bs.length c],.box b 37 #[pV f]]++R)) e w')):=Lh fun h81 W a nb hC hW=>by
    (refine(oF (r:=iF T m bs) (R':=[aH (b+1+1) 0,.box nb 3 #[iV (m:Nat)],.box (b+1) 69 #[.slice A bs.length c],.box b 37 #[pV f]]++R) abE hC hb hco (fun W' X hX=>?_) hW).mono fun e w' hz=>by rw[hpr];exact hz);refine an0 (v:=.slice A bs.length c) (fun W2 Y hY=>?_) hC hvf.out hio hsw h81 (fun W2 Y hY=>hst W2 (Y++X++[aH (b+1+1) 0,.box nb 3 #[iV (m:Nat)],.box (b+1) 69 #[.slice A bs.length c],.box b 37 #[pV f]]) (by simpa using hY)) hX;(have hY2:Sep w0 W2 ((Y++X)++([aH (b+1+1) 0,.box nb 3 #[iV (m:Nat)],.box (b+1) 69 #[.slice A bs.length c],.box b 37 #[pV f]]++R)):=by rw[nT];exact hY);exact⟨hY2.dL 3 rfl 0,hY2.dL 1 rfl 0,hY2.dL 2 rfl 0⟩
   have aoD:=Lh (hch.out aI);clear hold hpr jP hquit hst hk hio hsw hco hch hvf;replace hb:=Lh hb;(have hmf:∀(fn:Fn) (first cap:Array Value) (w:World),(Instr.makeFunc fn first cap).run Tryz.prog w= .ok (.func fn first cap) w:=fun _ _ _ _=>rfl);obtain⟨sv,hsv⟩:∃sv,sv=aC path:=⟨_,rfl⟩;unfold aC at*;rw[hbw]at*
   go_enter_defers Tryz.func24,Tryz.ntmps24
   go_wp2_with(first |(go_at_call 53;refine haw.mono ?_;rintro e w9 ⟨rfl,a9,dQ,h9⟩;replace dQ:=Lh dQ;clear haw)|(go_at_call 68;refine(hpl.out _).mono ?_;rintro e w8 ⟨rfl,rC⟩;replace h9:=h9.pure rC;(obtain⟨y0,y1⟩:=hcs.out _ [_,_] h9);(have hl:=hlk2.out _ _ _ dQ.out h9);clear rC hpl h9)|(go_at_call 69;refine hl.mono ?_;rintro e w7 ⟨rfl,a7,FD,h7⟩;clear hl y0 y1;(have h6:=h7.bN 3 #[iV (m:Nat)]);(have k1:=h6.bC 2 rfl 0);(have k2:=h6.bF 2 rfl 0);(have h5:=h6.bS 2 rfl 0 (.int .i64 0));(have k3:=h5.bC 2 rfl 0);(have k4:=h5.bC 0 rfl 0);(have k5:=h5.bF 2 rfl 0);(have h4:Sep w0 _ (aD f q p T a7::aH (w.heap.size+1+1) 0::([.box w7.heap.size 3 #[iV (m:Nat)],.box (w.heap.size+1) 69 #[.slice A bs.length c],.box w.heap.size 37 #[pV f]]++R)):=Sep.dC [1,2,0,3,4] h5 aR (by simp[aH]));(obtain⟨y0,y1⟩:=hcs.out _ [_,_,_] h4);simp only[gA,gB]at k1 k3 k4;clear h6 h7 h5;(have XM:=hin.out _ _ _ FD h4.drew);(have hy:=Lh (hcs.out _ [_,_,_] h4.drew));(have hk4:=h4.drew.bC 2 rfl 0);simp only[gA,gB]at hk4;clear h4)|(go_at_call 54;refine(dO _ _).mono ?_;rintro e w6 ⟨rfl,h6⟩;obtain rfl:=h6.symm)|(go_at_call 72;refine XM.mono ?_;rintro e w5 ⟨v5,a5,rfl,LH,h5⟩;(have k6:=h5.bC 1 rfl 0);(have k7:=h5.bF 1 rfl 0);simp only[gA,gB]at k6;clear XM));refine kH ?_;refine aO (S:=fun w'=>w'.cell? ⟨w.heap.size,0,none⟩=some (pV f)/\w'.cell? ⟨w7.heap.size,0,none⟩=some (iV (m:Nat))) 8 ?_;have hE:=And.intro hy.out.1 hk4;refine aA 0 hE ?_;refine aA 1 hE ?_;refine aA 2 hE ?_;refine aA 3 hE ?_;refine aA 4 hE ?_;(refine bH 5 fun K hK=>?_);go_simp;go_at_call 72;refine XM.mono ?_;rintro e w5 ⟨v5,a5,rfl,LH,h5⟩;have k6:=h5.bC 1 rfl 0;have k7:=h5.bF 1 rfl 0;have IP:=And.intro (hcs.out _ [_,_,_] h5).1 (h5.bC 2 rfl 0);simp only[gA,gB]at k6 IP;clear hE;dsimp only;refine hK _ _ (fun _=>IP) ?_;clear hK K;(try simp only[Act.put,gD]);refine bG 6 (fun _=>IP) ?_;refine bG 7 (fun _=>IP) ?_;refine aS fT ?_ _;simp only[nU];have aAN:=aoD.out _ _ _ LH h5;have hE1:=IP.1;clear h5 LH k6 k7 aoD;go_wp2_with fail;go_at_call 73;refine aAN.mono ?_;intro e wz hz2;clear aAN hE1 IP y0 y1 k1 k2 k3 k4 k5 hin hy;rcases PH hz2 with rfl|⟨k,rfl⟩
   ·obtain⟨_,hE⟩:=XG hb.out hz2;obtain⟨k1,k2⟩:=PK hE;replace hE:=Lh hE;clear hz2;go_wp2_with fail;refine gY (hout.out _ _ 0 _ rfl (AX (z:=0) hE.out))
   exact hfin.out _ _ _ _ rfl hz2
  rw[if_neg h3]at hpr;(have h11:r3≠11:=by rcases hle with e|e|e<;>rw[e]<;>decide);have hg:=Lh (fun tm W a y Y=>jP.out tm W a r3 y Y hpr h11);clear RS hpr hV hfin jP hquit hst hlen hout hres hb hln hok hle hr;obtain⟨sv,hsv⟩:∃sv,sv=aC path:=⟨_,rfl⟩;unfold aC at*;rw[hbw]at*
  go_enter_defers Tryz.func24,Tryz.ntmps24
  go_wp2_with(first |(go_at_call 53;refine haw.mono ?_;rintro e w9 ⟨rfl,a9,dQ,h9⟩;replace dQ:=Lh dQ;clear haw)|(go_at_call 68;refine(hpl.out _).mono ?_;rintro e w8 ⟨rfl,rC⟩;replace h9:=h9.pure rC;(obtain⟨y0,y1⟩:=hcs.out _ [_,_] h9);(have hl:=hlk2.out _ _ _ dQ.out h9);clear rC hpl h9)|(go_at_call 69;refine hl.mono ?_;rintro e w7 ⟨rfl,a7,FD,h7⟩;clear hl y0 y1;(have h6:=h7.bN 3 #[iV r2]);(have k1:=h6.bC 2 rfl 0);(have k2:=h6.bF 2 rfl 0);(have h5:=h6.bS 2 rfl 0 (.int .i64 r3));(have k3:=h5.bC 2 rfl 0);simp only[gA,gB]at k1 k3;replace h5:=Lh h5;clear h6 h7)|(go_at_call 54;refine(dO _ _).mono ?_;rw[if_neg h3];rintro e w6 ⟨rfl,h6⟩;obtain rfl:=h6.symm));have h4:Sep w0 _ (aD f q p T a7::aH (w.heap.size+1+1) r3::([_,_,_]++R)):=Sep.dC [1,2,0,3,4] h5.out aR (by simp[aH]);exact hg.out _ _ _ r3 _ FD h4 rfl
 have hpr:vB T path bs= .error (cO path):=by unfold vB;rw[if_neg h0]
 have hg:=Lh (fun tm W a y Y=>jP.out tm W a (cO path) y Y hpr hpw);rw[if_neg h0]at hpl;clear RS hpr hlk hV hfin jP hquit hst hlen hout hres hb hcs;obtain⟨sv,hsv⟩:∃sv,sv=aC path:=⟨_,rfl⟩;unfold aC at*;rw[hbw]at*
 go_enter_defers Tryz.func24,Tryz.ntmps24
 go_wp2_with(first |(go_at_call 53;refine haw.mono ?_;rintro e w9 ⟨rfl,a9,dQ,h9⟩;replace dQ:=Lh dQ;clear haw)|(go_at_call 68;refine(hpl.out _).mono ?_;rintro e w8 ⟨rfl,rC⟩;replace h9:=h9.pure rC;clear rC hpl));exact hg.out _ _ a9 0 [_,_] dQ.out h9 rfl
end
end Go.Proofs.YtmjomdkleikgbaaGreat
namespace Go.Proofs.YtmjomdkleikgbaaGreat
theorem yB {f:Nat->Int} {n:Nat} {a b:Int} (h:∀i<n,a<=f i/\f i<=b):a*n<=tX f n/\tX f n<=b*n:=by
 induction n with
 |zero=>simp[tX]
 |succ n ih=>rw[oK];(have h1:=ih fun i hi=>h i aI);have h2:=h n aI;push_cast;rw[Int.mul_add,Int.mul_add];omega
theorem LI.aw0 {x:LI} (h:x.fair):0<=fJ x.kind x.size/\fJ x.kind x.size<=28:=by
 unfold fJ;have h1:=h.few;have h2:=h.short;by_cases k1:x.kind=1
 ·rw[if_pos k1,uA k1];omega
 rw[if_neg k1];by_cases k2:x.kind=2
 ·(have e:x.size=x.data.length:=by unfold LI.size;rw[if_neg k1]);rw[if_pos k2,e];split<;>omega
 rw[if_neg k2];omega
section
variable {S:VS} {g:LT}
theorem dB.pJ (h:dB S g):S.names<=1024:=h.use.vf.names
theorem dB.aoN (h:dB S g):0<=S.wB/\S.wB<=28*S.names/\0<=S.wI/\S.wI<=S.names:=by
 have h1:=yB (f:=fun n=>fJ (g n).kind (g n).size) (n:=S.names) (a:=0) (b:=28) fun i hi=>LI.aw0 (h.fair i hi)
 have h2:=yB (f:=fun n=>nG (g n).kind) (n:=S.names) (a:=0) (b:=1) fun i _=>XN
 rw[h.wB,h.wI];omega
theorem dB.sw (h:dB S g):fF S:=by have:=h.aoN;have:=h.pJ;exact⟨by omega,by omega,by omega,by omega⟩
theorem dB.aoO (h:dB S g):0<=S.nodes/\S.nodes<=448*S.names:=by
 have h1:=yB (f:=fun n=>((g n).bB.length:Int)) (n:=S.names) (a:=0) (b:=448) fun i hi=>⟨by omega,by have:=(h.fair i hi).few;omega⟩
 rw[h.nodes];omega
theorem dB.sv (h:dB S g):lI S:=by have:=h.aoO;have:=h.pJ;exact⟨h.sw,by omega,by omega⟩
theorem dB.UQ (h:dB S g) {n:Nat} (hn:n<S.names):mZ S n:=⟨hn,h.few hn,h.lt n hn⟩
theorem dB.aAO (h:dB S g):OY S.cur S.names:=fun n hn=>h.few hn
theorem abF {f:Nat->Int} {n:Nat} (h:∀i<n,0<=f i):0<=tX f n:=by
 induction n with
 |zero=>exact NF _
 |succ n ih=>rw[oK];(have h1:=ih fun i hi=>h i aI);have h2:=h n aI;omega
theorem R8 {g:LT} {n d:Nat} (hd:d<n):((g d).bB.length:Int)<=tX (fun i=>((g i).bB.length:Int)) n:=by
 have h1:=z8 (f:=fun i=>((g i).bB.length:Int)) (g:=fun i=>if i=d then 0 else((g i).bB.length:Int)) hd fun i _ e=>if_neg e
 have h2:=abF (f:=fun i=>if i=d then(0:Int)else((g i).bB.length:Int)) (n:=n) fun i hi=>by split<;>omega
 simp only[if_pos]at h1;omega
theorem dB.XO (h:dB S g) {d:Nat} (hd:d<S.names):((g d).bB.length:Int)<=S.nodes:=by rw[h.nodes];exact R8 hd
theorem akK (h:dB S g) {n i:Nat} (hn:n<S.names) (hi:i<16*(aF S.cur n).aB.length):(gJ S.cur S.data (aF S.cur n) i).length=32:=by unfold gJ zB;have hs:=h.lt n hn _ (tZ (l:=(aF S.cur n).aB) (a:=i/16) aI);have hl:=jK h.use.cur (h.use.room hs);rw[qQ,qR,hl];omega
theorem dB.avX (h:dB S g) {n:Nat} (hn:n<S.names) (hk:(g n).kind=1):FR S (aF S.cur n):=by
 have hroom:=h.WW hn hk;refine⟨h.few hn,hroom,h.lt n hn,fun i hi=>?_⟩;have he:=h.bB n hn hk;have hl:=akK h hn (i:=i) aI;have hm:rT (jL S.cur S.data (aF S.cur n)) i∈(g n).bB:=by rw[he];exact MJ (by rw[<-he,zT];exact hi)
 have h15:=((h.fair n hn).names _ hm).1;rw[BS hi]at h15;simp only[enN,qQ,qR,hl]at h15;omega
structure Vol (S:VS) (g:LT):Prop where
 ph:dB S g
 ent:∀n<S.names,∀e∈(g n).bB,e.2<S.names
 root:(g 0).kind=1
 few:S.nodes<=256
 rB:S.rB=S.count
 rI:S.rI=S.names
theorem Vol.vw (h:Vol S g):VW S:=
 ⟨h.ph.use.vf,h.ph.n0,fun n hn=>h.ph.few hn,fun n hn=>h.ph.lt n hn,fun n hn hk=>h.ph.avX hn (by rw[<-h.ph.kind hn];exact hk),fun n hn hk e he=>by(have hk1:(g n).kind=1:=by rw[<-h.ph.kind hn];exact hk);rw[h.ph.bB n hn hk1]at he;exact⟨h.ent n hn e he,((h.ph.fair n hn).names e he).1⟩⟩
theorem Vol.aoP (h:Vol S g):(aF S.cur 0).kind=1:=by rw[h.ph.kind h.ph.n0];exact h.root
theorem Vol.abG (h:Vol S g):∀m<S.names,(aF S.cur m).kind≠1->(aF S.cur m).size<=512*(aF S.cur m).aB.length:=fun m hm hk=>by
 rw[h.ph.size hm,h.ph.len m hm];rw[h.ph.kind hm]at hk;have hf:=h.ph.fair m hm;unfold LI.size LI.need;rw[if_neg hk,if_neg hk];by_cases k2:(g m).kind=2
 ·rw[if_pos k2];omega
 rw[hf.data k2];simp
theorem dB.XP (h:dB S g) {dir i:Nat} {name:List UInt8} (hd:dir<S.names) (hk:(g dir).kind=1) (hn:name.length<=15) (hi:i<(g dir).bB.length) (hf:(jY (g dir).bB name).1=i):vK S dir name:=by
 have he:=h.bB dir hd hk;have hsz:(aF S.cur dir).size=(g dir).bB.length:=by rw[h.size hd,uA hk]
 refine⟨hd,h.avX hd hk,hn,⟨i,by rw[hsz];exact hi,by rw[he];exact hf⟩,?_,?_⟩
 ·rw[he,hsz];exact((h.fair dir hd).names _ (MJ aI)).1
 rw[h.len dir hd,kQ hk,hsz]
theorem dB.ML (h:dB S g) {dir n:Nat} {name:List UInt8} (hd:dir<S.names) (hk:(g dir).kind=1) (hsz:(g dir).bB.length<448) (hn:name.length<=15) (hm:n<=65535):nV S dir n name:=
 ⟨h.UQ hd,by rw[h.size hd,uA hk];exact hsz,hn,hm⟩
theorem GX {z:Int} (h0: -10000000<=z) (h1:z<=10000000):bM z:=by unfold bM;omega
theorem dB.GY {S1:VS} {g1:LT} (hr:S.rB=S.count/\S.rI=S.names) (hu:dW S) (hL:eX S S1) (h1:dB S1 g1) (hm:S1.m<=40):lT S S1:=by
 have h2:=h1.aoN;have h3:=h1.pJ;have h4:=hu.nb;have h5:=hL.rB;have h6:=hL.rI;have h7:(S.count:Int)<=4096:=by unfold VS.count;omega
 have h8:=hu.vf.names;refine⟨hL,hm,GX aI aI,GX aI aI,GX ?_ ?_,GX ?_ ?_⟩
 ·rw[h5,hr.1];omega
 ·rw[h5,hr.1];omega
 ·rw[h6,hr.2];omega
 rw[h6,hr.2];omega
theorem dB.MM (h:dB S g) {dir n:Nat} {name:List UInt8} (hd:dir<S.names) (hk:(g dir).kind=1) {S1:VS} (he:gL S dir name n=some S1):S1.m<=S.m+3:=by
 unfold gL at he;have hsz:(aF S.cur dir).size=(g dir).bB.length:=by rw[h.size hd,uA hk]
 have hl:(aF S.cur dir).aB.length=max 1 (((g dir).bB.length+15)/16):=by rw[h.len dir hd,kQ hk]
 split at he
 ·cases he
 rename_i S2 l hf;cases he;have:=(iX hf).1.m;show S2.m+1+1<=_
 rw[this];show S.m+_+1+1<=_
 rw[hsz,hl];omega
theorem dB.as7 (h:dB S g) {dir:Nat} {name:List UInt8} (hd:dir<S.names) (hk:(g dir).kind=1):(bZ S dir name).m<=S.m+4:=by
 have hsz:(aF S.cur dir).size=(g dir).bB.length:=by rw[h.size hd,uA hk]
 have hl:(aF S.cur dir).aB.length=max 1 (((g dir).bB.length+15)/16):=by rw[h.len dir hd,kQ hk]
 unfold bZ;simp only;have h2:=(KM S (aF S.cur dir) name).m;split
 ·omega
 rename_i S4 l hf;have:=(iX hf).1.m;show S4.m+1<=_
 rw[this];show(EI S (aF S.cur dir) name).m+_+1<=_
 rw[h2,hsz,hl];omega
theorem aoQ (S:VS) (n:Nat):(l9 S n).m<=S.m+(aF S.cur n).aB.length+1:=by
 obtain⟨S1,h1,h2⟩:=zZ (S:=S) (n:=n);rw[h2];have:=(iX h1).1.m;show S1.m+1<=_
 omega
theorem aw1 {S1:VS} {n:Nat} {bs:List UInt8} (hf:iF S n bs=some S1):S1.m<=S.m+(aF S.cur n).aB.length+2*((bs.length+511)/512)+1:=by
 unfold iF at hf;split at hf
 ·cases hf
 rename_i S2 l h1;cases hf;have h2:=(iX h1);have h3:=(oD bs l 0 S2).m;show(lQ bs l 0 S2).m+1<=_
 rw[h3,h2.1.m,h2.2];omega
end
structure TN where
 path:List UInt8
 file:Int
 mode:Int
deriving DecidableEq
end Go.Proofs.YtmjomdkleikgbaaGreat
