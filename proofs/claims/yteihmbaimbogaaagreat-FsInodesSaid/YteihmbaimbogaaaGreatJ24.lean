/- Parts. -/
import Derived.Test.YteihmbaimbogaaaGreatJ23
set_option linter.unusedVariables false
set_option linter.unusedSimpArgs false
set_option maxRecDepth 100000
set_option maxHeartbeats 20000000
namespace Go.Proofs.YteihmbaimbogaaaGreat
open Go.RowKit
def zT (S:VS) (path:List UInt8):Int:=if dY path=0 then((eO (bB S.cur S.data 0 0 (splitB path))).getD 0)else dY path
def OY (k m l s i:Int):Value:=.agg #[iV k,iV m,iV l,iV s,iV i]
def statOf (S:VS) (path:List UInt8):Value:=
 if zT S path=0 then
  let n:=(bB S.cur S.data 0 0 (splitB path)).2.1.toNat
  OY (aH S.cur n).kind (aH S.cur n).mode (aH S.cur n).links (aH S.cur n).size (n+1:Nat)
 else OY 0 0 0 0 0
section
variable {w0 w:World} {R:List bK} {f q p:Nat} {S:VS} {a:VA}
theorem Sep.aCU {As:List bK} {b:Nat} {t:TypeId} {v0 v1 v2 v3 v4:Value} (u0 u1 u2 u3 u4:Value) (i:Nat) (h:Sep w0 w As) (hi:As[i]? =some (.box b t #[v0,v1,v2,v3,v4])):
  (w.frozen? ⟨b,0,none⟩=false/\w.cell? ⟨b,0,none⟩=some v0)/\
  ((w.setCell ⟨b,0,none⟩ u0).frozen? ⟨b,1,none⟩=false/\(w.setCell ⟨b,0,none⟩ u0).cell? ⟨b,1,none⟩=some v1)/\
  (((w.setCell ⟨b,0,none⟩ u0).setCell ⟨b,1,none⟩ u1).frozen? ⟨b,2,none⟩=false/\((w.setCell ⟨b,0,none⟩ u0).setCell ⟨b,1,none⟩ u1).cell? ⟨b,2,none⟩=some v2)/\
  ((((w.setCell ⟨b,0,none⟩ u0).setCell ⟨b,1,none⟩ u1).setCell ⟨b,2,none⟩ u2).frozen? ⟨b,3,none⟩=false/\(((w.setCell ⟨b,0,none⟩ u0).setCell ⟨b,1,none⟩ u1).setCell ⟨b,2,none⟩ u2).cell? ⟨b,3,none⟩=some v3)/\
  (((((w.setCell ⟨b,0,none⟩ u0).setCell ⟨b,1,none⟩ u1).setCell ⟨b,2,none⟩ u2).setCell ⟨b,3,none⟩ u3).frozen? ⟨b,4,none⟩=false/\((((w.setCell ⟨b,0,none⟩ u0).setCell ⟨b,1,none⟩ u1).setCell ⟨b,2,none⟩ u2).setCell ⟨b,3,none⟩ u3).cell? ⟨b,4,none⟩=some v4)/\
  Sep w0 (((((w.setCell ⟨b,0,none⟩ u0).setCell ⟨b,1,none⟩ u1).setCell ⟨b,2,none⟩ u2).setCell ⟨b,3,none⟩ u3).setCell ⟨b,4,none⟩ u4) (As.set i (.box b t #[u0,u1,u2,u3,u4])):=by
 have hlt:=(gF.1 hi).1;have h1:=h.bS i hi 0 u0;have e1:(As.set i (.box b t #[u0,v1,v2,v3,v4]))[i]? =some (.box b t #[u0,v1,v2,v3,v4]):=MO hlt;have h2:=h1.bS i e1 1 u1;rw[YN]at h2;have e2:(As.set i (.box b t #[u0,u1,v2,v3,v4]))[i]? =some (.box b t #[u0,u1,v2,v3,v4]):=MO hlt;have h3:=h2.bS i e2 2 u2;rw[YN]at h3;have e3:(As.set i (.box b t #[u0,u1,u2,v3,v4]))[i]? =some (.box b t #[u0,u1,u2,v3,v4]):=MO hlt;have h4:=h3.bS i e3 3 u3;rw[YN]at h4;have e4:(As.set i (.box b t #[u0,u1,u2,u3,v4]))[i]? =some (.box b t #[u0,u1,u2,u3,v4]):=MO hlt;have h5:=h4.bS i e4 4 u4;rw[YN]at h5;exact⟨⟨h.bF i hi 0,h.bC i hi 0⟩,⟨h1.bF i e1 1,h1.bC i e1 1⟩,⟨h2.bF i e2 2,h2.bC i e2 2⟩,⟨h3.bF i e3 3,h3.bC i e3 3⟩,⟨h4.bF i e4 4,h4.bC i e4 4⟩,h5⟩
theorem C9 {S:VS} {path:List UInt8} {k:Int} (h:eO (bB S.cur S.data 0 0 (splitB path))=some k):k≠0/\k≠11:=by have:=wZ h;unfold JJ at this;omega
theorem atI {path:List UInt8} (hp:path.length<=9223372036854775807) (ho:S.D.off=false) (hV:VW S.base) (h:Sep w0 w (bI f q p S::R)):
  Calls Tryz.prog 29 #[pV f,aC path] w fun e w'=>e= .returned (.tuple #[statOf S.base path,iV (zT S.base path)])/\Sep w0 w' (bI f q p S.base::R):=by
 have hb:=zR h;obtain⟨b,hbw⟩:∃b,b=w.heap.size:=⟨_,rfl⟩;have h1:Sep w0 ((w.alloc (.cells #[iV 0,iV 0,iV 0,iV 0,iV 0] 68)).alloc (.cells #[iV 0] 39)) (bI f q p S::aI (b+1) 0:: .box b 68 #[iV 0,iV 0,iV 0,iV 0,iV 0]::R):=by have:=(h.bN 68 #[iV 0,iV 0,iV 0,iV 0,iV 0]).bN 39 #[iV 0];rw[World.size_alloc,<-hbw]at this;exact Sep.dE [2,0,1] this aQ (by simp[aI])
 have haw:=EH ho h1;obtain⟨T,hT⟩:∃T,T=S.base:=⟨_,rfl⟩;rw[<-hT]at hV hb haw ⊢;clear ho;obtain⟨Z,hZ⟩:∃Z:Array Value,Z=#[iV 0,iV 0,iV 0,iV 0,iV 0]:=⟨_,rfl⟩;have hres:Hid (∀(tm:Array Value) W x (k m l s i:Int) Y,tm.getD 5 undef=pV (b+1)->tm.getD 4 undef=pV b->Sep w0 W (Y++aI (b+1) x:: .box b 68 #[iV k,iV m,iV l,iV s,iV i]::R)->(results Tryz.f29 tm).run Tryz.prog W= .ok (.tuple #[OY k m l s i,iV x]) W):=Lh fun tm W x k m l s i Y ht hv hW=>by(have hi:(Y++aI (b+1) x:: .box b 68 #[iV k,iV m,iV l,iV s,iV i]::R)[Y.length]? =some (aI (b+1) x):=by simp);(have hi2:(Y++aI (b+1) x:: .box b 68 #[iV k,iV m,iV l,iV s,iV i]::R)[Y.length+1]? =some (.box b 68 #[iV k,iV m,iV l,iV s,iV i]):=by simp);have ec:=hW.bC _ hi 0;have z0:=hW.bC _ hi2 0;have z1:=hW.bC _ hi2 1;have z2:=hW.bC _ hi2 2;have z3:=hW.bC _ hi2 3;have z4:=hW.bC _ hi2 4;simp only[gA,gB,gC]at ec z0 z1 z2 z3 z4;(have ht2:tm[5]?.getD undef=pV (b+1):=by simpa using ht);(have hv2:tm[4]?.getD undef=pV b:=by simpa using hv);simp[results,Tryz.results29,go_sem,ht2,hv2,asAddr,loadVar,ec,z0,z1,z2,z3,z4,OY]
 have hpl:Hid (∀W,Calls Tryz.prog 60 #[aC path] W fun e w'=>e=(if dY path=0 then .returned (.tuple #[])else .panicked (gJ (dY path)))/\Below W.heap.size W w'):=Lh fun W=>NC hp W
 have nR:Hid (∀(tm:Array Value) W a k,k=zT T path->k≠0->k≠11->VC T a->Sep w0 W (aF f q p T a::aI (b+1) 0:: .box b 68 Z::R)->tm.getD 5 undef=pV (b+1)->tm.getD 4 undef=pV b->
   Leaves Tryz.prog Tryz.f29 tm (fun e w'=>e= .returned (.tuple #[statOf T path,iV (zT T path)])/\Sep w0 w' (bI f q p T::R)) [{target:=.fn (.func 41) #[],args:=#[pV f,pV (b+1)]}] (.panicking (gJ k)) W):=Lh fun tm W a k hk h0 h11 hC hW ht ht4=>by
  (refine K8 hC hb h11 hW fun w' hw=>?_);rw[hZ]at hw;refine⟨_,hres.out tm w' k 0 0 0 0 0 [bI f q p T] ht ht4 hw,?_,?_⟩
  ·unfold statOf;rw[<-hk,if_neg h0]
  have h5:Sep w0 w' (aI (b+1) k:: .box b 68 #[iV 0,iV 0,iV 0,iV 0,iV 0]::bI f q p T::R):=Sep.dE [1,2,0] hw aQ bM;exact h5.drop 2
 have hfl:Hid (aU path=true->∀W a,VC T a->Sep w0 W (aF f q p T a::aI (b+1) 0:: .box b 68 Z::R)->Calls Tryz.prog 68 #[pV f,aC path] W fun e w'=>e=nE (bB T.cur T.data 0 0 (splitB path))/\∃a',VC T a'/\Sep w0 w' (aF f q p T a'::aI (b+1) 0:: .box b 68 Z::R)):=Lh fun hv W a hC hW=>
  (pW hC hV hv (eZ hv) hW).mono fun e w' ⟨h1,a',h2,h3⟩=>⟨h1,a',h2.ok,h3⟩
 have hct:Hid (∀m:Nat,m<T.names->∀W a,VC T a->Sep w0 W (aF f q p T a::aI (b+1) 0:: .box b 68 Z::R)->Calls Tryz.prog 64 #[pV f,iV m] W fun e w'=>∃A n c a2,e= .returned (gK (aH T.cur m) (.slice A n c))/\VC T a2/\Sep w0 w' (aF f q p T a2::aI (b+1) 0:: .box b 68 Z::R)):=Lh fun m hm W a hC hW=>by refine(jM hC hV.vf hm (hV.few m hm) hW).mono ?_;rintro e w' ⟨v,a2,rfl,hR,h9⟩;obtain⟨A9,c9,e9⟩:=h9.eF 0 rfl;subst e9;exact⟨A9,_,c9,a2,rfl,hR.ok,h9.drop 1⟩
 have hln:=rU hV (path:=path);have hpw:=BU path;have hfs:∀k,eO (bB T.cur T.data 0 0 (splitB path))=some k->k≠0/\k≠11:=fun k hk=>C9 hk
 have hn4:=hV.vf.names;clear hV hT h h1;by_cases h0:dY path=0
 ·have hv:=GI h0;rw[h0,if_pos rfl]at hpl;have rH:=Lh (hfl.out hv);(have hrx:zT T path=(eO (bB T.cur T.data 0 0 (splitB path))).getD 0:=by unfold zT;rw[if_pos h0]);replace hrx:=Lh hrx;clear hfl hp hv h0 hpw;rw[tV]at rH;obtain⟨fe,hfe⟩:∃fe,fe=eO (bB T.cur T.data 0 0 (splitB path)):=⟨_,rfl⟩;rw[<-hfe]at rH hfs hrx;cases fe with
  |some k=>
   obtain⟨hk0,atJ⟩:=hfs k rfl;have hg:=Lh (fun tm W a=>nR.out tm W a k hrx.out.symm hk0 atJ);clear hfs hfe hct hln hk0 atJ nR hn4;simp only at rH;obtain⟨sv,hsv⟩:∃sv,sv=aC path:=⟨_,rfl⟩;unfold aC at*;rw[hbw]at*
   go_enter_defers Tryz.func29,Tryz.ntmps29
   go_wp2_with(first |(go_at_call 42;refine haw.mono ?_;rintro e w9 ⟨rfl,a9,eG,h9⟩;rw[<-hZ]at h9;replace eG:=Lh eG;clear haw)|(go_at_call 60;refine(hpl.out _).mono ?_;rintro e w8 ⟨rfl,wY⟩;have pX:=rH.out _ _ eG.out (h9.pure wY);clear h9 wY hpl)|(go_at_call 68;refine pX.mono ?_;rintro e w7 ⟨rfl,a7,PT,h7⟩;clear pX));exact hg.out _ _ _ PT h7 rfl rfl
  |none=>
   obtain⟨hr0,hr1⟩:=tX hfe.symm;obtain⟨d,m,hdl,GA,hre⟩:=hln hr0 hr1;(have hso:statOf T path=OY (aH T.cur m).kind (aH T.cur m).mode (aH T.cur m).links (aH T.cur m).size (m+1:Nat):=by unfold statOf;rw[hrx.out,hre];simp);have TW:=Lh (hct.out m GA);(have hm5:(m:Int)<5000:=by omega);replace hso:=Lh hso;rw[hre]at rH;clear hfs hfe hct hln hr0 hr1 nR GA hdl hre hn4;simp only[aeB]at rH hrx;obtain⟨⟨ik,im,il,is,isp⟩,hin⟩:∃x,x=aH T.cur m:=⟨_,rfl⟩;rw[<-hin]at TW hso;simp only[gK,aO]at TW hso;clear hin;obtain⟨sv,hsv⟩:∃sv,sv=aC path:=⟨_,rfl⟩;unfold aC at*;rw[hbw]at*
   go_enter_defers Tryz.func29,Tryz.ntmps29
   go_wp2_with(first |(go_at_call 42;refine haw.mono ?_;rintro e w9 ⟨rfl,a9,eG,h9⟩;rw[<-hZ]at h9;replace eG:=Lh eG;clear haw)|(go_at_call 60;refine(hpl.out _).mono ?_;rintro e w8 ⟨rfl,wY⟩;have pX:=rH.out _ _ eG.out (h9.pure wY);clear h9 wY hpl)|(go_at_call 68;refine pX.mono ?_;rintro e w7 ⟨rfl,a7,PT,h7⟩;have hc7:=TW.out _ _ PT h7;clear pX h7 TW PT)|(go_at_call 64;refine hc7.mono ?_;rintro e w6 ⟨A6,n6,c6,a6,rfl,OI,h6⟩;(have h5:=h6.bN 118 #[iV (ik:Nat),iV (im:Nat),iV (il:Nat),iV (is:Nat),.slice A6 n6 c6]);(have x0:=h5.bC 0 rfl 0);(have x1:=h5.bC 0 rfl 1);(have x2:=h5.bC 0 rfl 2);(have x3:=h5.bC 0 rfl 3);rw[hZ]at h5;(obtain⟨⟨y0,z0⟩,⟨y1,z1⟩,⟨y2,z2⟩,⟨y3,z3⟩,⟨y4,z4⟩,h4⟩:=h5.aCU (.int .i64 (ik:Nat)) (.int .i64 (im:Nat)) (.int .i64 (il:Nat)) (.int .i64 (is:Nat)) (.int .i64 ((m:Int)+1)) 3 rfl);(have k1:=h4.bC 2 rfl 0);(have k2:=h4.bF 2 rfl 0);simp only[gA,gB,gC,W9,yQ]at k1 x0 x1 x2 x3;clear hc7 h5 h6;replace OI:=Lh OI;replace h4:=Lh h4));refine iY ?_;have h10:=h4.out.bS 2 rfl 0 (.int .i64 0);refine⟨_,hres.out _ _ 0 _ _ _ _ _ [_,aF f q p T a6] rfl rfl h10,?_,?_⟩
   ·rw[hso.out,hrx.out];rfl
   have h11:Sep w0 _ ([_,aI (w.heap.size+1) 0,_]++(aF f q p T a6::R)):=Sep.dE [0,2,3,1] h10 aQ (by simp[aI]);exact qW OI.out hb (h11.drop 3)
 have hrx:zT T path=dY path:=by unfold zT;rw[if_neg h0]
 have hg:=Lh (fun tm W a=>nR.out tm W a (dY path) hrx.symm h0 hpw);rw[if_neg h0]at hpl;clear hfl hct hln nR hfs hpw hn4;obtain⟨sv,hsv⟩:∃sv,sv=aC path:=⟨_,rfl⟩;unfold aC at*;rw[hbw]at*
 go_enter_defers Tryz.func29,Tryz.ntmps29
 go_wp2_with(first |(go_at_call 42;refine haw.mono ?_;rintro e w9 ⟨rfl,a9,eG,h9⟩;rw[<-hZ]at h9;replace eG:=Lh eG;clear haw)|(go_at_call 60;refine(hpl.out _).mono ?_;rintro e w8 ⟨rfl,wY⟩;replace h9:=h9.pure wY;clear wY hpl));exact hg.out _ _ _ eG.out h9 rfl rfl
end
def xO (S:VS) (path:List UInt8) (bs:List UInt8):Except Int (Option VS):=
 if dY path=0 then
  if 8192<bs.length then .error 2
  else
   let r:=bB S.cur S.data 0 0 (splitB path)
   if r.2.2=0 then
    if r.2.1<0 then(if S.nodes<256 then .ok (lT S (⟨2,384,1,0,[]⟩:VI) bs r.1.toNat (aM path))else .error 31)
    else if(aH S.cur r.2.1.toNat).kind=1 then .error 24 else .ok (jI S r.2.1.toNat bs)
   else .error r.2.2
 else .error (dY path)
structure aBR (S:VS) (path:List UInt8) (bs:List UInt8):Prop where
 new:∀d:Nat,bB S.cur S.data 0 0 (splitB path)=((d:Int), -1,0)->S.nodes<256->wX S (⟨2,384,1,0,[]⟩:VI) bs d path
 old:∀d m:Nat,m<S.names->bB S.cur S.data 0 0 (splitB path)=((d:Int),(m:Int),0)->¬(aH S.cur m).kind=1->o7 S m/\gM S/\∀S1,jI S m bs=some S1->nO S S1
theorem atK {S:VS} {path bs:List UInt8}:ao6 (xO S path bs):=fun k h=>by
 unfold xO at h;have h1:=BU path;have h2:=vZ S.cur S.data (splitB path) 0 0;simp only at h;split at h
 ·split at h
  ·cases h;decide
  split at h
  ·split at h
   ·split at h
    ·cases h
    cases h;decide
   split at h
   ·cases h;decide
   cases h
  cases h;omega
 cases h;exact h1
theorem afW :∀args w,(callFunc 66 args).run Tryz.prog w= .ok (.enter 66 args) w:=Go.Proofs.enters_of Tryz.func66 fZ rfl
section
variable {w0 w:World} {R:List bK} {f q p:Nat} {S:VS} {a:VA}
theorem apB {r:Except Int (Option VS)} {x:Int} {Y R:List bK} (h:oJ f q p S r w0 w (Y++R) x):oJ f q p S r w0 w R x:=K9 h fun Z hZ=>by
 have h1:Sep w0 w (Y++(Z++R)):=hZ.perm (by rw[<-uN,<-uN];exact List.Perm.append_right _ YK);have h2:=h1.drop Y.length
 rwa [XD]at h2
theorem ER {r:Except Int (Option VS)} {x y z:Int} {b:Nat} (h:oJ f q p S r w0 w (aI b y::R) x):oJ f q p S r w0 (w.setCell ⟨b,0,none⟩ (.int .i64 z)) (aI b z::R) x:=K9 h fun Z hZ=>by
 have hi2:(Z++aI b y::R)[Z.length]? =some (aI b y):=by simp
 have h5:=hZ.bS _ hi2 0 (.int .i64 z);rw[QT _ _ (jL _),oO]at h5;exact h5
theorem UC {r:Except Int (Option VS)} {x y:Int} {b:Nat} (h:oJ f q p S r w0 w (aI b y::R) x):w.cell? ⟨b,0,none⟩=some (iV y)/\w.frozen? ⟨b,0,none⟩=false:=by
 obtain⟨Y,hY⟩:=GD h;have hi:(Y++aI b y::R)[Y.length]? =some (aI b y):=by simp
 have k1:=hY.bC _ hi 0;simp only[gA,gB]at k1;exact⟨k1,hY.bF _ hi 0⟩
theorem atL {path bs:List UInt8} {A:Option Addr} {c:Nat} (hp:path.length<=9223372036854775807) (hlen:bs.length<=4611686018427387903) (ho:S.D.off=false) (hV:VW S.base) (hst:jB w0 R (.slice A bs.length c) bs) (R8:dY path=0->¬8192<bs.length->aBR S.base path bs) (h:Sep w0 w (bI f q p S::R)):
  Calls Tryz.prog 21 #[pV f,aC path,.slice A bs.length c] w fun e w'=>∃x,e= .returned (iV x)/\oJ f q p S.base (xO S.base path bs) w0 w' R x:=by
 have hb:=zR h;obtain⟨b,hbw⟩:∃b,b=w.heap.size:=⟨_,rfl⟩;have h1:Sep w0 (((w.alloc (.cells #[pV f] 24)).alloc (.cells #[.slice A bs.length c] 35)).alloc (.cells #[iV 0] 39)) (bI f q p S::aI (b+1+1) 0:: .box (b+1) 35 #[.slice A bs.length c]:: .box b 24 #[pV f]::R):=by have:=((h.bN 24 #[pV f]).bN 35 #[.slice A bs.length c]).bN 39 #[iV 0];simp only[World.size_alloc,<-hbw]at this;exact Sep.dE [3,0,1,2] this aQ (by simp[aI])
 have haw:=EH ho h1;have g0:=h1.bC 3 rfl 0;simp only[gA,gB]at g0;obtain⟨T,hT⟩:∃T,T=S.base:=⟨_,rfl⟩;rw[<-hT]at hV hb haw R8 ⊢;have aHT:ao6 (xO T path bs):=atK;clear ho hT;have hcs:Hid (∀W Y,Sep w0 W (Y++ .box (b+1) 35 #[.slice A bs.length c]:: .box b 24 #[pV f]::R)->W.cell? ⟨b,0,none⟩=some (pV f)/\W.cell? ⟨b+1,0,none⟩=some (.slice A bs.length c)):=Lh fun W Y hW=>by(have hi:(Y++ .box (b+1) 35 #[.slice A bs.length c]:: .box b 24 #[pV f]::R)[Y.length]? =some (.box (b+1) 35 #[.slice A bs.length c]):=by simp);(have hi2:(Y++ .box (b+1) 35 #[.slice A bs.length c]:: .box b 24 #[pV f]::R)[Y.length+1]? =some (.box b 24 #[pV f]):=by simp);exact⟨hW.bC _ hi2 0,hW.bC _ hi 0⟩
 have hres:Hid (∀(tm:Array Value) W x,tm.getD 6 undef=pV (b+1+1)->W.cell? ⟨b+1+1,0,none⟩=some (iV x)->(results Tryz.f21 tm).run Tryz.prog W= .ok (.int .i64 x) W):=Lh fun tm W x ht ec=>by(have ht2:tm[6]?.getD undef=pV (b+1+1):=by simpa using ht);simp[results,Tryz.results21,go_sem,ht2,asAddr,loadVar,ec]
 have hpl:Hid (∀W,Calls Tryz.prog 60 #[aC path] W fun e w'=>e=(if dY path=0 then .returned (.tuple #[])else .panicked (gJ (dY path)))/\Below W.heap.size W w'):=Lh fun W=>NC hp W
 --the ways out
 have hout:Hid (∀(tm:Array Value) W x Y,tm.getD 6 undef=pV (b+1+1)->oJ f q p T (xO T path bs) w0 W (aI (b+1+1) x::(Y++R)) x->Leaves Tryz.prog Tryz.f21 tm (fun e w'=>∃x,e= .returned (iV x)/\oJ f q p T (xO T path bs) w0 w' R x) [] .returning W):=Lh fun tm W x Y ht hE=>
  ⟨_,hres.out tm W x ht (UC hE).1,x,rfl,apB (Y:=aI (b+1+1) x::Y) hE⟩
 have hfin:Hid (∀(ps:List PanicEntry) W (tm:Array Value) Y,tm.getD 6 undef=pV (b+1+1)->opD f q p T (xO T path bs) w0 (aI (b+1+1) 0::(Y++R)) (.panicked ps) W->
   Leaves Tryz.prog Tryz.f21 tm (fun e w'=>∃x,e= .returned (iV x)/\oJ f q p T (xO T path bs) w0 w' R x) [{target:=.fn (.func 41) #[],args:=#[pV f,pV (b+1+1)]}] (.panicking ps) W):=Lh fun ps W tm Y ht hD=>
  afT hb aHT hD fun w' x hE=>hout.out tm w' x Y ht hE
 have nR:Hid (∀(tm:Array Value) W a k y Y,xO T path bs= .error k->k≠11->VC T a->Sep w0 W (aF f q p T a::aI (b+1+1) y::(Y++R))->tm.getD 6 undef=pV (b+1+1)->
   Leaves Tryz.prog Tryz.f21 tm (fun e w'=>∃x,e= .returned (iV x)/\oJ f q p T (xO T path bs) w0 w' R x) [{target:=.fn (.func 41) #[],args:=#[pV f,pV (b+1+1)]}] (.panicking (gJ k)) W):=Lh fun tm W a k y Y hk h11 hC hW ht=>by
  (refine K8 hC hb h11 hW fun w' hw=>hout.out tm w' k Y ht ?_);rw[hk];exact⟨rfl,hw⟩
 have hquit:Hid (∀(tm:Array Value) W a k y Y,xO T path bs= .error k->VC T a->Sep w0 W (aF f q p T a::aI (b+1+1) y::(Y++R))->tm.getD 6 undef=pV (b+1+1)->
   Leaves Tryz.prog Tryz.f21 tm (fun e w'=>∃x,e= .returned (iV x)/\oJ f q p T (xO T path bs) w0 w' R x) [{target:=.fn (.func 41) #[],args:=#[pV f,pV (b+1+1)]}] .returning (W.setCell ⟨b+1+1,0,none⟩ (.int .i64 k))):=Lh fun tm W a k y Y hk hC hW ht=>by
  refine iY (hout.out tm _ k Y ht ?_);have h2:oJ f q p T (.error 0) w0 W (aI (b+1+1) y::(Y++R)) 0:=⟨rfl,qW hC hb hW⟩;have h3:=ER (z:=k) h2;rw[hk];exact⟨rfl,h3.2⟩
 have hpw:=BU path;have hlk:Hid (aU path=true->∀W a R',VC T a->Sep w0 W (aF f q p T a::R')->Calls Tryz.prog 61 #[pV f,aC path] W fun e w'=>e= .returned (.tuple #[iV (bB T.cur T.data 0 0 (splitB path)).1,iV (bB T.cur T.data 0 0 (splitB path)).2.1,iV (bB T.cur T.data 0 0 (splitB path)).2.2])/\∃a',VC T a'/\Sep w0 w' (aF f q p T a'::R')):=Lh fun hv W a R' hC hW=>
  (SE hC hV hv (eZ hv) hW).mono fun e w' ⟨h1,a',h2,h3⟩=>⟨h1,a',h2.ok,h3⟩
 clear h h1;by_cases h0:dY path=0
 ·have hv:=GI h0;rw[h0,if_pos rfl]at hpl;have hlk2:=Lh (hlk.out hv);replace R8:=Lh (R8 h0);have hpr:xO T path bs=(if 8192<bs.length then .error 2 else
   if(bB T.cur T.data 0 0 (splitB path)).2.2=0 then
    if(bB T.cur T.data 0 0 (splitB path)).2.1<0 then(if T.nodes<256 then .ok (lT T (⟨2,384,1,0,[]⟩:VI) bs (bB T.cur T.data 0 0 (splitB path)).1.toNat (aM path))else .error 31)
    else if(aH T.cur (bB T.cur T.data 0 0 (splitB path)).2.1.toNat).kind=1 then .error 24 else .ok (jI T (bB T.cur T.data 0 0 (splitB path)).2.1.toNat bs)
   else .error (bB T.cur T.data 0 0 (splitB path)).2.2):=by unfold xO;rw[if_pos h0]
  clear hlk hp h0 hpw aHT hv;by_cases h8:8192<bs.length
  ·rw[if_pos h8]at hpr;have hq:=Lh (fun tm W a y Y=>hquit.out tm W a 2 y Y hpr);(have h8':(8192:Int)<(bs.length:Int):=by omega);clear R8 hpr hlk2 hV hfin nR hquit hst hlen hout hres hb;obtain⟨sv,hsv⟩:∃sv,sv=aC path:=⟨_,rfl⟩;unfold aC at*;rw[hbw]at*
   go_enter_defers Tryz.func21,Tryz.ntmps21
   go_wp2_with(first |(go_at_call 42;refine haw.mono ?_;rintro e w9 ⟨rfl,a9,eG,h9⟩;replace eG:=Lh eG;clear haw)|(go_at_call 60;refine(hpl.out _).mono ?_;rintro e w8 ⟨rfl,wY⟩;replace h9:=h9.pure wY;(obtain⟨y0,y1⟩:=hcs.out _ [_,_] h9);(have k1:=h9.bC 1 rfl 0);(have k2:=h9.bF 1 rfl 0);simp only[gA,gB]at k1;clear wY hpl));exact hq.out _ _ a9 0 [_,_] eG.out h9 rfl
  rw[if_neg h8]at hpr;replace R8:=Lh (R8.out h8);(have h8':(bs.length:Int)<=8192:=by omega);have hln:=rU hV (path:=path);have hok:=rR hV (splitB path) 0 0 hV.n0 hV.n0;have hle:=vZ T.cur T.data (splitB path) 0 0;obtain⟨⟨r1,r2,r3⟩,hr⟩:∃r,r=bB T.cur T.data 0 0 (splitB path):=⟨_,rfl⟩;rw[<-hr]at hpr hlk2 hln hok hle;simp only at hpr hlk2 hln hok hle;replace hr:=Lh hr;clear h8;by_cases h3:r3=0
  ·subst h3;rw[if_pos rfl]at hpr;obtain⟨⟨d,hdl,rfl⟩,hm2⟩:=hok rfl;by_cases h2:r2<0
   ·rw[if_pos h2,nA]at hpr;have e2:r2= -1:=by
     rcases hm2 with e|⟨m,_,e⟩
     ·exact e
     omega
    subst e2;(have hnw:=fun hn=>R8.out.new d (by rw[<-hr.out]) hn);clear hm2 hln hle hok R8 hr h2 hdl;have hmd:Hid (T.nodes<256->∀W a Y,VC T a->Sep w0 W (aF f q p T a::(Y++R))->Calls Tryz.prog 63 #[pV f,iV (d:Nat),aC path,.agg #[iV 2,iV 384,iV 1,iV 0,.slice none 0 0],.slice A bs.length c] W (dL f q p T (lT T (⟨2,384,1,0,[]⟩:VI) bs d (aM path)) w0 (Y++R))):=Lh fun hn W a Y hC hW=>
     KZ (x:=(⟨2,384,1,0,[]⟩:VI)) hC hV.vf hb (hnw hn) (fun w' X hX=>hst w' (X++Y) (by rw[uN];exact hX)) hW
    (have hon:Hid (∀W a R',Sep w0 W (aF f q p T a::R')->Calls Tryz.prog 62 #[pV f] W fun e w'=>e=(if T.nodes<256 then .returned (.tuple #[])else .panicked (gJ 31))/\w'=W):=Lh fun W a R' hW=>KR hW);by_cases hn:T.nodes<256
    ·rw[if_pos hn]at hpr;have XK:=Lh (hmd.out hn);(have hob:Hid (∀W e Y,dL f q p T (lT T (⟨2,384,1,0,[]⟩:VI) bs d (aM path)) w0 (aI (b+1+1) 0::(Y++R)) e W->opD f q p T (xO T path bs) w0 (aI (b+1+1) 0::(Y++R)) e W):=Lh fun W e Y hc=>by rw[hpr];exact hc);rw[if_pos hn]at hon;clear hn hmd hpr nR hquit hnw hst;replace hb:=Lh hb;obtain⟨sv,hsv⟩:∃sv,sv=aC path:=⟨_,rfl⟩;unfold aC at*;rw[hbw]at*
     go_enter_defers Tryz.func21,Tryz.ntmps21
     go_wp2_with(first |(go_at_call 42;refine haw.mono ?_;rintro e w9 ⟨rfl,a9,eG,h9⟩;replace eG:=Lh eG;clear haw)|(go_at_call 60;refine(hpl.out _).mono ?_;rintro e w8 ⟨rfl,wY⟩;replace h9:=h9.pure wY;(obtain⟨y0,y1⟩:=hcs.out _ [_,_] h9);(have hl:=hlk2.out _ _ _ eG.out h9);clear wY hpl h9)|(go_at_call 61;refine hl.mono ?_;rintro e w7 ⟨rfl,a7,PT,h7⟩;clear hl y0 y1;(have h6:=h7.bN 3 #[iV (-1)]);(have k1:=h6.bC 2 rfl 0);(have k2:=h6.bF 2 rfl 0);(have h5:=h6.bS 2 rfl 0 (.int .i64 0));(have k3:=h5.bC 2 rfl 0);(have k4:=h5.bC 0 rfl 0);(have k5:=h5.bF 2 rfl 0);(have h4:Sep w0 _ (aF f q p T a7::aI (w.heap.size+1+1) 0::([.box w7.heap.size 3 #[iV (-1)],.box (w.heap.size+1) 35 #[.slice A bs.length c],.box w.heap.size 24 #[pV f]]++R)):=Sep.dE [1,2,0,3,4] h5 aQ (by simp[aI]));(obtain⟨y0,y1⟩:=hcs.out _ [_,_,_] h4);simp only[gA,gB]at k1 k3 k4;clear h6 h7 h5;(have ho7:=hon.out _ _ _ h4);(have hm7:=XK.out _ _ ([aI (w.heap.size+1+1) 0,.box w7.heap.size 3 #[iV (-1)],.box (w.heap.size+1) 35 #[.slice A bs.length c],.box w.heap.size 24 #[pV f]]) PT h4);clear h4)|(go_at_call 43;refine(dU _ _).mono ?_;rintro e w6 ⟨rfl,h6⟩;obtain rfl:=h6.symm)|(go_at_call 62;refine ho7.mono ?_;rintro e w5 ⟨rfl,h5⟩;obtain rfl:=h5.symm;clear ho7));go_at_call 63;refine hm7.mono ?_;intro e wz hz;have hz2:=hob.out _ _ [_,_,_] hz;clear hm7 k1 k2 k3 k4 k5 y0 y1 XK hon;rcases TZ hz2 with rfl|⟨k,rfl⟩
     ·obtain⟨_,hE⟩:=abS hb.out hz2;obtain⟨k1,k2⟩:=UC hE;replace hE:=Lh hE;clear hz hz2;go_wp2_with fail;refine iY (hout.out _ _ 0 _ rfl (ER (z:=0) hE.out))
     exact hfin.out _ _ _ _ rfl hz2
    rw[if_neg hn]at hpr;have hg:=Lh (fun tm W a y Y=>nR.out tm W a 31 y Y hpr aQ);rw[if_neg hn]at hon;clear hn hmd hpr nR hquit hnw hst hfin hb hV hout hres;obtain⟨sv,hsv⟩:∃sv,sv=aC path:=⟨_,rfl⟩;unfold aC at*;rw[hbw]at*
    go_enter_defers Tryz.func21,Tryz.ntmps21
    go_wp2_with(first |(go_at_call 42;refine haw.mono ?_;rintro e w9 ⟨rfl,a9,eG,h9⟩;replace eG:=Lh eG;clear haw)|(go_at_call 60;refine(hpl.out _).mono ?_;rintro e w8 ⟨rfl,wY⟩;replace h9:=h9.pure wY;(obtain⟨y0,y1⟩:=hcs.out _ [_,_] h9);(have hl:=hlk2.out _ _ _ eG.out h9);clear wY hpl h9)|(go_at_call 61;refine hl.mono ?_;rintro e w7 ⟨rfl,a7,PT,h7⟩;clear hl y0 y1;(have h6:=h7.bN 3 #[iV (-1)]);(have k1:=h6.bC 2 rfl 0);(have k2:=h6.bF 2 rfl 0);(have h5:=h6.bS 2 rfl 0 (.int .i64 0));(have k3:=h5.bC 2 rfl 0);(have k4:=h5.bC 0 rfl 0);(have k5:=h5.bF 2 rfl 0);(have h4:Sep w0 _ (aF f q p T a7::aI (w.heap.size+1+1) 0::([.box w7.heap.size 3 #[iV (-1)],.box (w.heap.size+1) 35 #[.slice A bs.length c],.box w.heap.size 24 #[pV f]]++R)):=Sep.dE [1,2,0,3,4] h5 aQ (by simp[aI]));(obtain⟨y0,y1⟩:=hcs.out _ [_,_,_] h4);simp only[gA,gB]at k1 k3 k4;clear h6 h7 h5;(have ho7:=hon.out _ _ _ h4);replace h4:=Lh h4)|(go_at_call 43;refine(dU _ _).mono ?_;rintro e w6 ⟨rfl,h6⟩;obtain rfl:=h6.symm)|(go_at_call 62;refine ho7.mono ?_;rintro e w5 ⟨rfl,h5⟩;obtain rfl:=h5.symm;clear ho7));exact hg.out _ _ _ 0 _ PT h4.out rfl
   rw[if_neg h2]at hpr;obtain⟨m,GA,rfl⟩:∃m:Nat,m<T.names/\r2=(m:Int):=by
    rcases hm2 with e|⟨m,hm,e⟩
    ·omega
    exact⟨m,hm,e⟩
   rw[nA]at hpr;(have hold:=fun hk=>R8.out.old d m GA (by rw[<-hr.out]) hk);(have hin:Hid (∀W a R',VC T a->Sep w0 W (aF f q p T a::R')->Calls Tryz.prog 64 #[pV f,iV (m:Nat)] W fun e w'=>∃v a2,e= .returned (.agg #[iV ((aH T.cur m).kind:Nat),iV ((aH T.cur m).mode:Nat),iV ((aH T.cur m).links:Nat),iV ((aH T.cur m).size:Nat),v])/\VC T a2/\Sep w0 w' (aF f q p T a2::R')):=Lh fun W a R' hC hW=>by refine(jM hC hV.vf GA (hV.few m GA) hW).mono ?_;rintro e w' ⟨v,a2,rfl,hR,h9⟩;exact⟨v,a2,rfl,hR.ok,h9.drop 1⟩);have hfk:=JF;have hvf:=Lh hV.vf;replace GA:=Lh GA;clear hm2 hln hle hok R8 hr h2 hdl hV;by_cases hk:(aH T.cur m).kind=1
   ·rw[if_pos hk]at hpr;(have hk1:(((aH T.cur m).kind:Int)==1)=true:=by rw[rJ];omega);have hq:=Lh (fun tm W a y Y=>hquit.out tm W a 24 y Y hpr);clear hold hpr nR hquit hst hfin hb hout hres hk;obtain⟨sv,hsv⟩:∃sv,sv=aC path:=⟨_,rfl⟩;unfold aC at*;rw[hbw]at*
    go_enter_defers Tryz.func21,Tryz.ntmps21
    go_wp2_with(first |(go_at_call 42;refine haw.mono ?_;rintro e w9 ⟨rfl,a9,eG,h9⟩;replace eG:=Lh eG;clear haw)|(go_at_call 60;refine(hpl.out _).mono ?_;rintro e w8 ⟨rfl,wY⟩;replace h9:=h9.pure wY;(obtain⟨y0,y1⟩:=hcs.out _ [_,_] h9);(have hl:=hlk2.out _ _ _ eG.out h9);clear wY hpl h9)|(go_at_call 61;refine hl.mono ?_;rintro e w7 ⟨rfl,a7,PT,h7⟩;clear hl y0 y1;(have h6:=h7.bN 3 #[iV (m:Nat)]);(have k1:=h6.bC 2 rfl 0);(have k2:=h6.bF 2 rfl 0);(have h5:=h6.bS 2 rfl 0 (.int .i64 0));(have k3:=h5.bC 2 rfl 0);(have k4:=h5.bC 0 rfl 0);(have k5:=h5.bF 2 rfl 0);(have h4:Sep w0 _ (aF f q p T a7::aI (w.heap.size+1+1) 0::([.box w7.heap.size 3 #[iV (m:Nat)],.box (w.heap.size+1) 35 #[.slice A bs.length c],.box w.heap.size 24 #[pV f]]++R)):=Sep.dE [1,2,0,3,4] h5 aQ (by simp[aI]));(obtain⟨y0,y1⟩:=hcs.out _ [_,_,_] h4);simp only[gA,gB]at k1 k3 k4;clear h6 h7 h5;(have hi7:=hin.out _ _ _ PT h4.drew);(have hy:=Lh (hcs.out _ [_,_,_] h4.drew));(have hk4:=h4.drew.bC 2 rfl 0);simp only[gA,gB]at hk4;clear h4)|(go_at_call 43;refine(dU _ _).mono ?_;rintro e w6 ⟨rfl,h6⟩;obtain rfl:=h6.symm)|(go_at_call 64;refine hi7.mono ?_;rintro e w5 ⟨v5,a5,rfl,J8,h5⟩;(have k6:=h5.bC 1 rfl 0);(have k7:=h5.bF 1 rfl 0);simp only[gA,gB]at k6;clear hi7));refine fP ?_;refine aJ (S:=fun w'=>w'.cell? ⟨w.heap.size,0,none⟩=some (pV f)/\w'.cell? ⟨w7.heap.size,0,none⟩=some (iV (m:Nat))) 8 ?_;have hE:=And.intro hy.out.1 hk4;refine aA 0 hE ?_;refine aA 1 hE ?_;refine aA 2 hE ?_;refine aA 3 hE ?_;refine aA 4 hE ?_;(refine bG 5 fun K hK=>?_);go_simp;go_at_call 64;refine hi7.mono ?_;rintro e w5 ⟨v5,a5,rfl,J8,h5⟩;have k6:=h5.bC 1 rfl 0;have k7:=h5.bF 1 rfl 0;have yB:=And.intro (hcs.out _ [_,_,_] h5).1 (h5.bC 2 rfl 0);simp only[gA,gB]at k6 yB;clear hE;dsimp only;refine hK _ _ (fun _=>yB) ?_;clear hK K;(try simp only[Act.put,gD]);refine aW 6 (fun _=>yB) ?_;refine aW 7 (fun _=>yB) ?_;refine aR fZ ?_ _;simp only[jT];go_wp2_with fail;exact hq.out _ _ a5 0 _ J8 h5 rfl
   rw[if_neg hk]at hpr;(have hk1:(((aH T.cur m).kind:Int)==1)=false:=by rw[mM];omega);obtain⟨hio,hsw,hco⟩:=hold hk;have hch:Hid (bs.length<=8192->∀W a nb,VC T a->Sep w0 W (aF f q p T a::([aI (b+1+1) 0,.box nb 3 #[iV (m:Nat)],.box (b+1) 35 #[.slice A bs.length c],.box b 24 #[pV f]]++R))->
     Calls Tryz.prog 65 #[pV f,.func (.func 66) #[] #[pV b,pV nb,pV (b+1)]] W (fun e w'=>opD f q p T (xO T path bs) w0 (aI (b+1+1) 0::([.box nb 3 #[iV (m:Nat)],.box (b+1) 35 #[.slice A bs.length c],.box b 24 #[pV f]]++R)) e w')):=Lh fun h81 W a nb hC hW=>by
    (refine(qL (r:=jI T m bs) (R':=[aI (b+1+1) 0,.box nb 3 #[iV (m:Nat)],.box (b+1) 35 #[.slice A bs.length c],.box b 24 #[pV f]]++R) afW hC hb hco (fun W' X hX=>?_) hW).mono fun e w' hz=>by rw[hpr];exact hz);refine asX (v:=.slice A bs.length c) (fun W2 Y hY=>?_) hC hvf.out hio hsw h81 (fun W2 Y hY=>hst W2 (Y++X++[aI (b+1+1) 0,.box nb 3 #[iV (m:Nat)],.box (b+1) 35 #[.slice A bs.length c],.box b 24 #[pV f]]) (by simpa using hY)) hX;(have hY2:Sep w0 W2 ((Y++X)++([aI (b+1+1) 0,.box nb 3 #[iV (m:Nat)],.box (b+1) 35 #[.slice A bs.length c],.box b 24 #[pV f]]++R)):=by rw[uN];exact hY);exact⟨hY2.dO 3 rfl 0,hY2.dO 1 rfl 0,hY2.dO 2 rfl 0⟩
   have atA:=Lh (hch.out aD);clear hold hpr nR hquit hst hk hio hsw hco hch hvf;replace hb:=Lh hb;(have MN:∀(fn:Fn) (first cap:Array Value) (w:World),(Instr.makeFunc fn first cap).run Tryz.prog w= .ok (.func fn first cap) w:=fun _ _ _ _=>rfl);obtain⟨sv,hsv⟩:∃sv,sv=aC path:=⟨_,rfl⟩;unfold aC at*;rw[hbw]at*
   go_enter_defers Tryz.func21,Tryz.ntmps21
   go_wp2_with(first |(go_at_call 42;refine haw.mono ?_;rintro e w9 ⟨rfl,a9,eG,h9⟩;replace eG:=Lh eG;clear haw)|(go_at_call 60;refine(hpl.out _).mono ?_;rintro e w8 ⟨rfl,wY⟩;replace h9:=h9.pure wY;(obtain⟨y0,y1⟩:=hcs.out _ [_,_] h9);(have hl:=hlk2.out _ _ _ eG.out h9);clear wY hpl h9)|(go_at_call 61;refine hl.mono ?_;rintro e w7 ⟨rfl,a7,PT,h7⟩;clear hl y0 y1;(have h6:=h7.bN 3 #[iV (m:Nat)]);(have k1:=h6.bC 2 rfl 0);(have k2:=h6.bF 2 rfl 0);(have h5:=h6.bS 2 rfl 0 (.int .i64 0));(have k3:=h5.bC 2 rfl 0);(have k4:=h5.bC 0 rfl 0);(have k5:=h5.bF 2 rfl 0);(have h4:Sep w0 _ (aF f q p T a7::aI (w.heap.size+1+1) 0::([.box w7.heap.size 3 #[iV (m:Nat)],.box (w.heap.size+1) 35 #[.slice A bs.length c],.box w.heap.size 24 #[pV f]]++R)):=Sep.dE [1,2,0,3,4] h5 aQ (by simp[aI]));(obtain⟨y0,y1⟩:=hcs.out _ [_,_,_] h4);simp only[gA,gB]at k1 k3 k4;clear h6 h7 h5;(have hi7:=hin.out _ _ _ PT h4.drew);(have hy:=Lh (hcs.out _ [_,_,_] h4.drew));(have hk4:=h4.drew.bC 2 rfl 0);simp only[gA,gB]at hk4;clear h4)|(go_at_call 43;refine(dU _ _).mono ?_;rintro e w6 ⟨rfl,h6⟩;obtain rfl:=h6.symm)|(go_at_call 64;refine hi7.mono ?_;rintro e w5 ⟨v5,a5,rfl,J8,h5⟩;(have k6:=h5.bC 1 rfl 0);(have k7:=h5.bF 1 rfl 0);simp only[gA,gB]at k6;clear hi7));refine fP ?_;refine aJ (S:=fun w'=>w'.cell? ⟨w.heap.size,0,none⟩=some (pV f)/\w'.cell? ⟨w7.heap.size,0,none⟩=some (iV (m:Nat))) 8 ?_;have hE:=And.intro hy.out.1 hk4;refine aA 0 hE ?_;refine aA 1 hE ?_;refine aA 2 hE ?_;refine aA 3 hE ?_;refine aA 4 hE ?_;(refine bG 5 fun K hK=>?_);go_simp;go_at_call 64;refine hi7.mono ?_;rintro e w5 ⟨v5,a5,rfl,J8,h5⟩;have k6:=h5.bC 1 rfl 0;have k7:=h5.bF 1 rfl 0;have yB:=And.intro (hcs.out _ [_,_,_] h5).1 (h5.bC 2 rfl 0);simp only[gA,gB]at k6 yB;clear hE;dsimp only;refine hK _ _ (fun _=>yB) ?_;clear hK K;(try simp only[Act.put,gD]);refine aW 6 (fun _=>yB) ?_;refine aW 7 (fun _=>yB) ?_;refine aR fZ ?_ _;simp only[jT];have aHW:=atA.out _ _ _ J8 h5;have hE1:=yB.1;clear h5 J8 k6 k7 atA;go_wp2_with fail;go_at_call 65;refine aHW.mono ?_;intro e wz hz2;clear aHW hE1 yB y0 y1 k1 k2 k3 k4 k5 hin hy;rcases TZ hz2 with rfl|⟨k,rfl⟩
   ·obtain⟨_,hE⟩:=abS hb.out hz2;obtain⟨k1,k2⟩:=UC hE;replace hE:=Lh hE;clear hz2;go_wp2_with fail;refine iY (hout.out _ _ 0 _ rfl (ER (z:=0) hE.out))
   exact hfin.out _ _ _ _ rfl hz2
  rw[if_neg h3]at hpr;(have h11:r3≠11:=by rcases hle with e|e|e<;>rw[e]<;>decide);have hg:=Lh (fun tm W a y Y=>nR.out tm W a r3 y Y hpr h11);clear R8 hpr hV hfin nR hquit hst hlen hout hres hb hln hok hle hr;obtain⟨sv,hsv⟩:∃sv,sv=aC path:=⟨_,rfl⟩;unfold aC at*;rw[hbw]at*
  go_enter_defers Tryz.func21,Tryz.ntmps21
  go_wp2_with(first |(go_at_call 42;refine haw.mono ?_;rintro e w9 ⟨rfl,a9,eG,h9⟩;replace eG:=Lh eG;clear haw)|(go_at_call 60;refine(hpl.out _).mono ?_;rintro e w8 ⟨rfl,wY⟩;replace h9:=h9.pure wY;(obtain⟨y0,y1⟩:=hcs.out _ [_,_] h9);(have hl:=hlk2.out _ _ _ eG.out h9);clear wY hpl h9)|(go_at_call 61;refine hl.mono ?_;rintro e w7 ⟨rfl,a7,PT,h7⟩;clear hl y0 y1;(have h6:=h7.bN 3 #[iV r2]);(have k1:=h6.bC 2 rfl 0);(have k2:=h6.bF 2 rfl 0);(have h5:=h6.bS 2 rfl 0 (.int .i64 r3));(have k3:=h5.bC 2 rfl 0);simp only[gA,gB]at k1 k3;replace h5:=Lh h5;clear h6 h7)|(go_at_call 43;refine(dU _ _).mono ?_;rw[if_neg h3];rintro e w6 ⟨rfl,h6⟩;obtain rfl:=h6.symm));have h4:Sep w0 _ (aF f q p T a7::aI (w.heap.size+1+1) r3::([_,_,_]++R)):=Sep.dE [1,2,0,3,4] h5.out aQ (by simp[aI]);exact hg.out _ _ _ r3 _ PT h4 rfl
 have hpr:xO T path bs= .error (dY path):=by unfold xO;rw[if_neg h0]
 have hg:=Lh (fun tm W a y Y=>nR.out tm W a (dY path) y Y hpr hpw);rw[if_neg h0]at hpl;clear R8 hpr hlk hV hfin nR hquit hst hlen hout hres hb hcs;obtain⟨sv,hsv⟩:∃sv,sv=aC path:=⟨_,rfl⟩;unfold aC at*;rw[hbw]at*
 go_enter_defers Tryz.func21,Tryz.ntmps21
 go_wp2_with(first |(go_at_call 42;refine haw.mono ?_;rintro e w9 ⟨rfl,a9,eG,h9⟩;replace eG:=Lh eG;clear haw)|(go_at_call 60;refine(hpl.out _).mono ?_;rintro e w8 ⟨rfl,wY⟩;replace h9:=h9.pure wY;clear wY hpl));exact hg.out _ _ a9 0 [_,_] eG.out h9 rfl
end
end Go.Proofs.YteihmbaimbogaaaGreat
namespace Go.Proofs.YteihmbaimbogaaaGreat
theorem BV {f:Nat->Int} {n:Nat} {a b:Int} (h:∀i<n,a<=f i/\f i<=b):a*n<=uD f n/\uD f n<=b*n:=by
 induction n with
 |zero=>simp[uD]
 |succ n ih=>rw[kZ];(have h1:=ih fun i hi=>h i aD);have h2:=h n aD;push_cast;rw[Int.mul_add,Int.mul_add];omega
theorem LI.aCW {x:LI} (h:x.fair):0<=kD x.kind x.size/\kD x.kind x.size<=28:=by
 unfold kD;have h1:=h.few;have h2:=h.short;by_cases k1:x.kind=1
 ·rw[if_pos k1,wW k1];omega
 rw[if_neg k1];by_cases k2:x.kind=2
 ·(have e:x.size=x.data.length:=by unfold LI.size;rw[if_neg k1]);rw[if_pos k2,e];split<;>omega
 rw[if_neg k2];omega
section
variable {S:VS} {g:LT}
theorem dK.rZ (h:dK S g):S.names<=1024:=h.use.vf.names
theorem dK.aj0 (h:dK S g):0<=S.wB/\S.wB<=28*S.names/\0<=S.wI/\S.wI<=S.names:=by
 have h1:=BV (f:=fun n=>kD (g n).kind (g n).size) (n:=S.names) (a:=0) (b:=28) fun i hi=>LI.aCW (h.fair i hi)
 have h2:=BV (f:=fun n=>nP (g n).kind) (n:=S.names) (a:=0) (b:=1) fun i _=>LC
 rw[h.wB,h.wI];omega
theorem dK.sw (h:dK S g):gM S:=by have:=h.aj0;have:=h.rZ;exact⟨by omega,by omega,by omega,by omega⟩
theorem dK.atM (h:dK S g):0<=S.nodes/\S.nodes<=448*S.names:=by
 have h1:=BV (f:=fun n=>((g n).bJ.length:Int)) (n:=S.names) (a:=0) (b:=448) fun i hi=>⟨by omega,by have:=(h.fair i hi).few;omega⟩
 rw[h.nodes];omega
theorem dK.sv (h:dK S g):nG S:=by have:=h.atM;have:=h.rZ;exact⟨h.sw,by omega,by omega⟩
theorem dK.ZE (h:dK S g) {n:Nat} (hn:n<S.names):o7 S n:=⟨hn,h.few hn,h.lt n hn⟩
theorem dK.aHX (h:dK S g):TE S.cur S.names:=fun n hn=>h.few hn
theorem afX {f:Nat->Int} {n:Nat} (h:∀i<n,0<=f i):0<=uD f n:=by
 induction n with
 |zero=>exact Int.le_refl _
 |succ n ih=>rw[kZ];(have h1:=ih fun i hi=>h i aD);have h2:=h n aD;omega
theorem XQ {g:LT} {n d:Nat} (hd:d<n):((g d).bJ.length:Int)<=uD (fun i=>((g i).bJ.length:Int)) n:=by
 have h1:=EK (f:=fun i=>((g i).bJ.length:Int)) (g:=fun i=>if i=d then 0 else((g i).bJ.length:Int)) hd fun i _ e=>if_neg e
 have h2:=afX (f:=fun i=>if i=d then(0:Int)else((g i).bJ.length:Int)) (n:=n) fun i hi=>by split<;>omega
 simp only[if_pos]at h1;omega
theorem dK.abZ (h:dK S g) {d:Nat} (hd:d<S.names):((g d).bJ.length:Int)<=S.nodes:=by rw[h.nodes];exact XQ hd
theorem apC (h:dK S g) {n i:Nat} (hn:n<S.names) (hi:i<16*(aH S.cur n).aB.length):(iL S.cur S.data (aH S.cur n) i).length=32:=by unfold iL DT;have hs:=h.lt n hn _ (wV (l:=(aH S.cur n).aB) (a:=i/16) aD);have hl:=kJ h.use.cur (h.use.room hs);rw[tF,pU,hl];omega
theorem dK.aBS (h:dK S g) {n:Nat} (hn:n<S.names) (hk:(g n).kind=1):KI S (aH S.cur n):=by
 have hroom:=h.abI hn hk;refine⟨h.few hn,hroom,h.lt n hn,fun i hi=>?_⟩;have he:=h.bJ n hn hk;have hl:=apC h hn (i:=i) aD;have hm:vC (lS S.cur S.data (aH S.cur n)) i∈(g n).bJ:=by rw[he];exact QF (by rw[<-he,EB];exact hi)
 have h15:=((h.fair n hn).names _ hm).1;rw[FV hi]at h15;simp only[enN,tF,pU,hl]at h15;omega
structure Vol (S:VS) (g:LT):Prop where
 ph:dK S g
 ent:∀n<S.names,∀e∈(g n).bJ,e.2<S.names
 root:(g 0).kind=1
 few:S.nodes<=256
 rB:S.rB=S.count
 rI:S.rI=S.names
theorem Vol.vw (h:Vol S g):VW S:=
 ⟨h.ph.use.vf,h.ph.n0,fun n hn=>h.ph.few hn,fun n hn=>h.ph.lt n hn,fun n hn hk=>h.ph.aBS hn (by rw[<-h.ph.kind hn];exact hk),fun n hn hk e he=>by(have hk1:(g n).kind=1:=by rw[<-h.ph.kind hn];exact hk);rw[h.ph.bJ n hn hk1]at he;exact⟨h.ent n hn e he,((h.ph.fair n hn).names e he).1⟩⟩
theorem Vol.aHY (h:Vol S g):(aH S.cur 0).kind=1:=by rw[h.ph.kind h.ph.n0];exact h.root
theorem Vol.atN (h:Vol S g):∀m<S.names,(aH S.cur m).kind≠1->(aH S.cur m).size<=512*(aH S.cur m).aB.length:=fun m hm hk=>by
 rw[h.ph.size hm,h.ph.len m hm];rw[h.ph.kind hm]at hk;have hf:=h.ph.fair m hm;unfold LI.size LI.need;rw[if_neg hk,if_neg hk];by_cases k2:(g m).kind=2
 ·rw[if_pos k2];omega
 rw[hf.data k2];simp
theorem dK.ab0 (h:dK S g) {dir i:Nat} {name:List UInt8} (hd:dir<S.names) (hk:(g dir).kind=1) (hn:name.length<=15) (hi:i<(g dir).bJ.length) (hf:(lW (g dir).bJ name).1=i):yA S dir name:=by
 have he:=h.bJ dir hd hk;have hsz:(aH S.cur dir).size=(g dir).bJ.length:=by rw[h.size hd,wW hk]
 refine⟨hd,h.aBS hd hk,hn,⟨i,by rw[hsz];exact hi,by rw[he];exact hf⟩,?_,?_⟩
 ·rw[he,hsz];exact((h.fair dir hd).names _ (QF aD)).1
 rw[h.len dir hd,mP hk,hsz]
theorem dK.QG (h:dK S g) {dir n:Nat} {name:List UInt8} (hd:dir<S.names) (hk:(g dir).kind=1) (hsz:(g dir).bJ.length<448) (hn:name.length<=15) (hm:n<=65535):qD S dir n name:=
 ⟨h.ZE hd,by rw[h.size hd,wW hk];exact hsz,hn,hm⟩
theorem pY {z:Int} (h0: -10000000<=z) (h1:z<=10000000):eH z:=by unfold eH;omega
theorem dK.LD {S1:VS} {g1:LT} (hr:S.rB=S.count/\S.rI=S.names) (hu:fA S) (hL:gI S S1) (h1:dK S1 g1) (hm:S1.m<=40):nO S S1:=by
 have h2:=h1.aj0;have h3:=h1.rZ;have h4:=hu.nb;have h5:=hL.rB;have h6:=hL.rI;have h7:(S.count:Int)<=4096:=by unfold VS.count;omega
 have h8:=hu.vf.names;refine⟨hL,hm,pY aD aD,pY aD aD,pY ?_ ?_,pY ?_ ?_⟩
 ·rw[h5,hr.1];omega
 ·rw[h5,hr.1];omega
 ·rw[h6,hr.2];omega
 rw[h6,hr.2];omega
theorem dK.QH (h:dK S g) {dir n:Nat} {name:List UInt8} (hd:dir<S.names) (hk:(g dir).kind=1) {S1:VS} (he:iN S dir name n=some S1):S1.m<=S.m+3:=by
 unfold iN at he;have hsz:(aH S.cur dir).size=(g dir).bJ.length:=by rw[h.size hd,wW hk]
 have hl:(aH S.cur dir).aB.length=max 1 (((g dir).bJ.length+15)/16):=by rw[h.len dir hd,mP hk]
 split at he
 ·cases he
 rename_i S2 l hf;cases he;have:=(kF hf).1.m;show S2.m+1+1<=_
 rw[this];show S.m+_+1+1<=_
 rw[hsz,hl];omega
theorem dK.ayN (h:dK S g) {dir:Nat} {name:List UInt8} (hd:dir<S.names) (hk:(g dir).kind=1):(dH S dir name).m<=S.m+4:=by
 have hsz:(aH S.cur dir).size=(g dir).bJ.length:=by rw[h.size hd,wW hk]
 have hl:(aH S.cur dir).aB.length=max 1 (((g dir).bJ.length+15)/16):=by rw[h.len dir hd,mP hk]
 unfold dH;simp only;have h2:=(OH S (aH S.cur dir) name).m;split
 ·omega
 rename_i S4 l hf;have:=(kF hf).1.m;show S4.m+1<=_
 rw[this];show(JD S (aH S.cur dir) name).m+_+1<=_
 rw[h2,hsz,hl];omega
theorem atO (S:VS) (n:Nat):(oF S n).m<=S.m+(aH S.cur n).aB.length+1:=by
 obtain⟨S1,h1,h2⟩:=EJ (S:=S) (n:=n);rw[h2];have:=(kF h1).1.m;show S1.m+1<=_
 omega
theorem aCX {S1:VS} {n:Nat} {bs:List UInt8} (hf:jI S n bs=some S1):S1.m<=S.m+(aH S.cur n).aB.length+2*((bs.length+511)/512)+1:=by
 unfold jI at hf;split at hf
 ·cases hf
 rename_i S2 l h1;cases hf;have h2:=(kF h1);have h3:=(qI bs l 0 S2).m;show(nN bs l 0 S2).m+1<=_
 rw[h3,h2.1.m,h2.2];omega
end
structure TN where
 path:List UInt8
 file:Int
 mode:Int
deriving DecidableEq
end Go.Proofs.YteihmbaimbogaaaGreat
