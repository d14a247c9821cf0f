/- Parts. -/
import Derived.Test.YtmjomdkleikgbaaGreatK23
set_option linter.unusedVariables false
set_option linter.unusedSimpArgs false
set_option maxRecDepth 100000
set_option maxHeartbeats 20000000
namespace Go.Proofs.YtmjomdkleikgbaaGreat
open Go.RowKit
def xY (S:VS) (path:List UInt8):Int:=if dX path=0 then((dW (aU S.cur S.data 0 0 (splitB path))).getD 0)else dX path
def IZ (k m l s i:Int):Value:=.agg #[iV k,iV m,iV l,iV s,iV i]
def statOf (S:VS) (path:List UInt8):Value:=
 if xY S path=0 then
  let n:=(aU S.cur S.data 0 0 (splitB path)).2.1.toNat
  IZ (aH S.cur n).kind (aH S.cur n).mode (aH S.cur n).links (aH S.cur n).size (n+1:Nat)
 else IZ 0 0 0 0 0
section
variable {w0 w:World} {R:List aW} {f q p:Nat} {S:VS} {a:VA}
theorem Sep.aAI {As:List aW} {b:Nat} {t:TypeId} {v0 v1 v2 v3 v4:Value} (u0 u1 u2 u3 u4:Value) (i:Nat) (h:Sep w0 w As) (hi:As[i]? =some (.box b t #[v0,v1,v2,v3,v4])):
  (w.frozen? ⟨b,0,none⟩=false/\w.cell? ⟨b,0,none⟩=some v0)/\
  ((w.setCell ⟨b,0,none⟩ u0).frozen? ⟨b,1,none⟩=false/\(w.setCell ⟨b,0,none⟩ u0).cell? ⟨b,1,none⟩=some v1)/\
  (((w.setCell ⟨b,0,none⟩ u0).setCell ⟨b,1,none⟩ u1).frozen? ⟨b,2,none⟩=false/\((w.setCell ⟨b,0,none⟩ u0).setCell ⟨b,1,none⟩ u1).cell? ⟨b,2,none⟩=some v2)/\
  ((((w.setCell ⟨b,0,none⟩ u0).setCell ⟨b,1,none⟩ u1).setCell ⟨b,2,none⟩ u2).frozen? ⟨b,3,none⟩=false/\(((w.setCell ⟨b,0,none⟩ u0).setCell ⟨b,1,none⟩ u1).setCell ⟨b,2,none⟩ u2).cell? ⟨b,3,none⟩=some v3)/\
  (((((w.setCell ⟨b,0,none⟩ u0).setCell ⟨b,1,none⟩ u1).setCell ⟨b,2,none⟩ u2).setCell ⟨b,3,none⟩ u3).frozen? ⟨b,4,none⟩=false/\((((w.setCell ⟨b,0,none⟩ u0).setCell ⟨b,1,none⟩ u1).setCell ⟨b,2,none⟩ u2).setCell ⟨b,3,none⟩ u3).cell? ⟨b,4,none⟩=some v4)/\
  Sep w0 (((((w.setCell ⟨b,0,none⟩ u0).setCell ⟨b,1,none⟩ u1).setCell ⟨b,2,none⟩ u2).setCell ⟨b,3,none⟩ u3).setCell ⟨b,4,none⟩ u4) (As.set i (.box b t #[u0,u1,u2,u3,u4])):=by
 have hlt:=(gF.1 hi).1;have h1:=h.bS i hi 0 u0;have e1:(As.set i (.box b t #[u0,v1,v2,v3,v4]))[i]? =some (.box b t #[u0,v1,v2,v3,v4]):=OI hlt;have h2:=h1.bS i e1 1 u1;rw[VZ]at h2;have e2:(As.set i (.box b t #[u0,u1,v2,v3,v4]))[i]? =some (.box b t #[u0,u1,v2,v3,v4]):=OI hlt;have h3:=h2.bS i e2 2 u2;rw[VZ]at h3;have e3:(As.set i (.box b t #[u0,u1,u2,v3,v4]))[i]? =some (.box b t #[u0,u1,u2,v3,v4]):=OI hlt;have h4:=h3.bS i e3 3 u3;rw[VZ]at h4;have e4:(As.set i (.box b t #[u0,u1,u2,u3,v4]))[i]? =some (.box b t #[u0,u1,u2,u3,v4]):=OI hlt;have h5:=h4.bS i e4 4 u4;rw[VZ]at h5;exact⟨⟨h.bF i hi 0,h.bC i hi 0⟩,⟨h1.bF i e1 1,h1.bC i e1 1⟩,⟨h2.bF i e2 2,h2.bC i e2 2⟩,⟨h3.bF i e3 3,h3.bC i e3 3⟩,⟨h4.bF i e4 4,h4.bC i e4 4⟩,h5⟩
theorem zV {S:VS} {path:List UInt8} {k:Int} (h:dW (aU S.cur S.data 0 0 (splitB path))=some k):k≠0/\k≠11:=by have:=vF h;unfold EP at this;omega
theorem arE {path:List UInt8} (hp:path.length<=9223372036854775807) (ho:S.D.off=false) (hV:VW S.base) (h:Sep w0 w (bB f q p S::R)):
  Calls Tryz.prog 79 #[pV f,aC path] w fun e w'=>e= .returned (.tuple #[statOf S.base path,iV (xY S.base path)])/\Sep w0 w' (bB f q p S.base::R):=by
 have hb:=D5 h;obtain⟨b,hbw⟩:∃b,b=w.heap.size:=⟨_,rfl⟩;have h1:Sep w0 ((w.alloc (.cells #[iV 0,iV 0,iV 0,iV 0,iV 0] 105)).alloc (.cells #[iV 0] 40)) (bB f q p S::aJ (b+1) 0:: .box b 105 #[iV 0,iV 0,iV 0,iV 0,iV 0]::R):=by have:=(h.bN 105 #[iV 0,iV 0,iV 0,iV 0,iV 0]).bN 40 #[iV 0];rw[World.size_alloc,<-hbw]at this;exact Sep.dB [2,0,1] this aR (by simp[aJ])
 have haw:=BH ho h1;obtain⟨T,hT⟩:∃T,T=S.base:=⟨_,rfl⟩;rw[<-hT]at hV hb haw ⊢;clear ho;obtain⟨Z,hZ⟩:∃Z:Array Value,Z=#[iV 0,iV 0,iV 0,iV 0,iV 0]:=⟨_,rfl⟩;have hres:Hid (∀(tm:Array Value) W x (k m l s i:Int) Y,tm.getD 5 undef=pV (b+1)->tm.getD 4 undef=pV b->Sep w0 W (Y++aJ (b+1) x:: .box b 105 #[iV k,iV m,iV l,iV s,iV i]::R)->(results Tryz.f79 tm).run Tryz.prog W= .ok (.tuple #[IZ k m l s i,iV x]) W):=Lh fun tm W x k m l s i Y ht hv hW=>by(have hi:(Y++aJ (b+1) x:: .box b 105 #[iV k,iV m,iV l,iV s,iV i]::R)[Y.length]? =some (aJ (b+1) x):=by simp);(have hi2:(Y++aJ (b+1) x:: .box b 105 #[iV k,iV m,iV l,iV s,iV i]::R)[Y.length+1]? =some (.box b 105 #[iV k,iV m,iV l,iV s,iV i]):=by simp);have ec:=hW.bC _ hi 0;have z0:=hW.bC _ hi2 0;have z1:=hW.bC _ hi2 1;have z2:=hW.bC _ hi2 2;have z3:=hW.bC _ hi2 3;have z4:=hW.bC _ hi2 4;simp only[gA,gB,gC]at ec z0 z1 z2 z3 z4;(have ht2:tm[5]?.getD undef=pV (b+1):=by simpa using ht);(have hv2:tm[4]?.getD undef=pV b:=by simpa using hv);simp[results,Tryz.results79,go_sem,ht2,hv2,asAddr,loadVar,ec,z0,z1,z2,z3,z4,IZ]
 have hpl:Hid (∀W,Calls Tryz.prog 68 #[aC path] W fun e w'=>e=(if dX path=0 then .returned (.tuple #[])else .panicked (fA (dX path)))/\Below W.heap.size W w'):=Lh fun W=>KS hp W
 have o7:Hid (∀(tm:Array Value) W a k,k=xY T path->k≠0->k≠11->VC T a->Sep w0 W (aF f q p T a::aJ (b+1) 0:: .box b 105 Z::R)->tm.getD 5 undef=pV (b+1)->tm.getD 4 undef=pV b->
   Leaves Tryz.prog Tryz.f79 tm (fun e w'=>e= .returned (.tuple #[statOf T path,iV (xY T path)])/\Sep w0 w' (bB f q p T::R)) [{target:=.fn (.func 52) #[],args:=#[pV f,pV (b+1)]}] (.panicking (fA k)) W):=Lh fun tm W a k hk h0 h11 hC hW ht ht4=>by
  (refine IW hC hb h11 hW fun w' hw=>?_);rw[hZ]at hw;refine⟨_,hres.out tm w' k 0 0 0 0 0 [bB f q p T] ht ht4 hw,?_,?_⟩
  ·unfold statOf;rw[<-hk,if_neg h0]
  have h5:Sep w0 w' (aJ (b+1) k:: .box b 105 #[iV 0,iV 0,iV 0,iV 0,iV 0]::bB f q p T::R):=Sep.dB [1,2,0] hw aR bK;exact h5.drop 2
 have hfl:Hid (aV path=true->∀W a,VC T a->Sep w0 W (aF f q p T a::aJ (b+1) 0:: .box b 105 Z::R)->Calls Tryz.prog 107 #[pV f,aC path] W fun e w'=>e=lV (aU T.cur T.data 0 0 (splitB path))/\∃a',VC T a'/\Sep w0 w' (aF f q p T a'::aJ (b+1) 0:: .box b 105 Z::R)):=Lh fun hv W a hC hW=>
  (nY hC hV hv (dG hv) hW).mono fun e w' ⟨h1,a',h2,h3⟩=>⟨h1,a',h2.ok,h3⟩
 have hct:Hid (∀m:Nat,m<T.names->∀W a,VC T a->Sep w0 W (aF f q p T a::aJ (b+1) 0:: .box b 105 Z::R)->Calls Tryz.prog 72 #[pV f,iV m] W fun e w'=>∃A n c a2,e= .returned (fM (aH T.cur m) (.slice A n c))/\VC T a2/\Sep w0 w' (aF f q p T a2::aJ (b+1) 0:: .box b 105 Z::R)):=Lh fun m hm W a hC hW=>by refine(jQ hC hV.vf hm (hV.few m hm) hW).mono ?_;rintro e w' ⟨v,a2,rfl,hR,h9⟩;obtain⟨A9,c9,e9⟩:=h9.dV 0 rfl;subst e9;exact⟨A9,_,c9,a2,rfl,hR.ok,h9.drop 1⟩
 have hln:=qA hV (path:=path);have hpw:=F3 path;have hfs:∀k,dW (aU T.cur T.data 0 0 (splitB path))=some k->k≠0/\k≠11:=fun k hk=>zV hk
 have hn4:=hV.vf.names;clear hV hT h h1;by_cases h0:dX path=0
 ·have hv:=KU h0;rw[h0,if_pos rfl]at hpl;have oO:=Lh (hfl.out hv);(have hrx:xY T path=(dW (aU T.cur T.data 0 0 (splitB path))).getD 0:=by unfold xY;rw[if_pos h0]);replace hrx:=Lh hrx;clear hfl hp hv h0 hpw;rw[rW]at oO;obtain⟨fe,hfe⟩:∃fe,fe=dW (aU T.cur T.data 0 0 (splitB path)):=⟨_,rfl⟩;rw[<-hfe]at oO hfs hrx;cases fe with
  |some k=>
   obtain⟨hk0,adM⟩:=hfs k rfl;have hg:=Lh (fun tm W a=>o7.out tm W a k hrx.out.symm hk0 adM);clear hfs hfe hct hln hk0 adM o7 hn4;simp only at oO;obtain⟨sv,hsv⟩:∃sv,sv=aC path:=⟨_,rfl⟩;unfold aC at*;rw[hbw]at*
   go_enter_defers Tryz.func79,Tryz.ntmps79
   go_wp2_with(first |(go_at_call 53;refine haw.mono ?_;rintro e w9 ⟨rfl,a9,eX,h9⟩;rw[<-hZ]at h9;replace eX:=Lh eX;clear haw)|(go_at_call 68;refine(hpl.out _).mono ?_;rintro e w8 ⟨rfl,zT⟩;have BZ:=oO.out _ _ eX.out (h9.pure zT);clear h9 zT hpl)|(go_at_call 107;refine BZ.mono ?_;rintro e w7 ⟨rfl,a7,WA,h7⟩;clear BZ));exact hg.out _ _ _ WA h7 rfl rfl
  |none=>
   obtain⟨hr0,hr1⟩:=rY hfe.symm;obtain⟨d,m,hdl,FY,hre⟩:=hln hr0 hr1;(have hso:statOf T path=IZ (aH T.cur m).kind (aH T.cur m).mode (aH T.cur m).links (aH T.cur m).size (m+1:Nat):=by unfold statOf;rw[hrx.out,hre];simp);have IU:=Lh (hct.out m FY);(have hm5:(m:Int)<5000:=by omega);replace hso:=Lh hso;rw[hre]at oO;clear hfs hfe hct hln hr0 hr1 o7 FY hdl hre hn4;simp only[J6]at oO hrx;obtain⟨⟨ik,im,il,is,isp⟩,hin⟩:∃x,x=aH T.cur m:=⟨_,rfl⟩;rw[<-hin]at IU hso;simp only[fM,aN]at IU hso;clear hin;obtain⟨sv,hsv⟩:∃sv,sv=aC path:=⟨_,rfl⟩;unfold aC at*;rw[hbw]at*
   go_enter_defers Tryz.func79,Tryz.ntmps79
   go_wp2_with(first |(go_at_call 53;refine haw.mono ?_;rintro e w9 ⟨rfl,a9,eX,h9⟩;rw[<-hZ]at h9;replace eX:=Lh eX;clear haw)|(go_at_call 68;refine(hpl.out _).mono ?_;rintro e w8 ⟨rfl,zT⟩;have BZ:=oO.out _ _ eX.out (h9.pure zT);clear h9 zT hpl)|(go_at_call 107;refine BZ.mono ?_;rintro e w7 ⟨rfl,a7,WA,h7⟩;have hc7:=IU.out _ _ WA h7;clear BZ h7 IU WA)|(go_at_call 72;refine hc7.mono ?_;rintro e w6 ⟨A6,n6,c6,a6,rfl,MH,h6⟩;(have h5:=h6.bN 129 #[iV (ik:Nat),iV (im:Nat),iV (il:Nat),iV (is:Nat),.slice A6 n6 c6]);(have x0:=h5.bC 0 rfl 0);(have x1:=h5.bC 0 rfl 1);(have x2:=h5.bC 0 rfl 2);(have x3:=h5.bC 0 rfl 3);rw[hZ]at h5;(obtain⟨⟨y0,z0⟩,⟨y1,z1⟩,⟨y2,z2⟩,⟨y3,z3⟩,⟨y4,z4⟩,h4⟩:=h5.aAI (.int .i64 (ik:Nat)) (.int .i64 (im:Nat)) (.int .i64 (il:Nat)) (.int .i64 (is:Nat)) (.int .i64 ((m:Int)+1)) 3 rfl);(have k1:=h4.bC 2 rfl 0);(have k2:=h4.bF 2 rfl 0);simp only[gA,gB,gC,M6,GU]at k1 x0 x1 x2 x3;clear hc7 h5 h6;replace MH:=Lh MH;replace h4:=Lh h4));refine kV ?_;have h10:=h4.out.bS 2 rfl 0 (.int .i64 0);refine⟨_,hres.out _ _ 0 _ _ _ _ _ [_,aF f q p T a6] rfl rfl h10,?_,?_⟩
   ·rw[hso.out,hrx.out];rfl
   have h11:Sep w0 _ ([_,aJ (w.heap.size+1) 0,_]++(aF f q p T a6::R)):=Sep.dB [0,2,3,1] h10 aR (by simp[aJ]);exact rG MH.out hb (h11.drop 3)
 have hrx:xY T path=dX path:=by unfold xY;rw[if_neg h0]
 have hg:=Lh (fun tm W a=>o7.out tm W a (dX path) hrx.symm h0 hpw);rw[if_neg h0]at hpl;clear hfl hct hln o7 hfs hpw hn4;obtain⟨sv,hsv⟩:∃sv,sv=aC path:=⟨_,rfl⟩;unfold aC at*;rw[hbw]at*
 go_enter_defers Tryz.func79,Tryz.ntmps79
 go_wp2_with(first |(go_at_call 53;refine haw.mono ?_;rintro e w9 ⟨rfl,a9,eX,h9⟩;rw[<-hZ]at h9;replace eX:=Lh eX;clear haw)|(go_at_call 68;refine(hpl.out _).mono ?_;rintro e w8 ⟨rfl,zT⟩;replace h9:=h9.pure zT;clear zT hpl));exact hg.out _ _ _ eX.out h9 rfl rfl
end
end Go.Proofs.YtmjomdkleikgbaaGreat
namespace Go.Proofs.YtmjomdkleikgbaaGreat
theorem y7 {f:Nat->Int} {n:Nat} {a b:Int} (h:∀i<n,a<=f i/\f i<=b):a*n<=vB f n/\vB f n<=b*n:=by
 induction n with
 |zero=>simp[vB]
 |succ n ih=>rw[oW];(have h1:=ih fun i hi=>h i aD);have h2:=h n aD;push_cast;rw[Int.mul_add,Int.mul_add];omega
theorem LI.aAJ {x:LI} (h:x.fair):0<=eO x.kind x.size/\eO x.kind x.size<=28:=by
 unfold eO;have h1:=h.few;have h2:=h.short;by_cases k1:x.kind=1
 ·rw[if_pos k1,vE k1];omega
 rw[if_neg k1];by_cases k2:x.kind=2
 ·(have e:x.size=x.data.length:=by unfold LI.size;rw[if_neg k1]);rw[if_pos k2,e];split<;>omega
 rw[if_neg k2];omega
section
variable {S:VS} {g:LT}
theorem dD.qD (h:dD S g):S.names<=1024:=h.use.vf.names
theorem dD.arF (h:dD S g):0<=S.wB/\S.wB<=28*S.names/\0<=S.wI/\S.wI<=S.names:=by
 have h1:=y7 (f:=fun n=>eO (g n).kind (g n).size) (n:=S.names) (a:=0) (b:=28) fun i hi=>LI.aAJ (h.fair i hi)
 have h2:=y7 (f:=fun n=>nS (g n).kind) (n:=S.names) (a:=0) (b:=1) fun i _=>aaC
 rw[h.wB,h.wI];omega
theorem dD.sw (h:dD S g):gK S:=by have:=h.arF;have:=h.qD;exact⟨by omega,by omega,by omega,by omega⟩
theorem dD.arG (h:dD S g):0<=S.nodes/\S.nodes<=448*S.names:=by
 have h1:=y7 (f:=fun n=>((g n).bH.length:Int)) (n:=S.names) (a:=0) (b:=448) fun i hi=>⟨by omega,by have:=(h.fair i hi).few;omega⟩
 rw[h.nodes];omega
theorem dD.sv (h:dD S g):lW S:=by have:=h.arG;have:=h.qD;exact⟨h.sw,by omega,by omega⟩
theorem dD.adN (h:dD S g) {n:Nat} (hn:n<S.names):p8 S n:=⟨hn,h.few hn,h.lt n hn⟩
theorem dD.aEM (h:dD S g):QN S.cur S.names:=fun n hn=>h.few hn
theorem adO {f:Nat->Int} {n:Nat} (h:∀i<n,0<=f i):0<=vB f n:=by
 induction n with
 |zero=>exact O7 _
 |succ n ih=>rw[oW];(have h1:=ih fun i hi=>h i aD);have h2:=h n aD;omega
theorem U0 {g:LT} {n d:Nat} (hd:d<n):((g d).bH.length:Int)<=vB (fun i=>((g i).bH.length:Int)) n:=by
 have h1:=BN (f:=fun i=>((g i).bH.length:Int)) (g:=fun i=>if i=d then 0 else((g i).bH.length:Int)) hd fun i _ e=>if_neg e
 have h2:=adO (f:=fun i=>if i=d then(0:Int)else((g i).bH.length:Int)) (n:=n) fun i hi=>by split<;>omega
 simp only[if_pos]at h1;omega
theorem dD.aaD (h:dD S g) {d:Nat} (hd:d<S.names):((g d).bH.length:Int)<=S.nodes:=by rw[h.nodes];exact U0 hd
theorem anB (h:dD S g) {n i:Nat} (hn:n<S.names) (hi:i<16*(aH S.cur n).aB.length):(gT S.cur S.data (aH S.cur n) i).length=32:=by unfold gT AL;have hs:=h.lt n hn _ (vD (l:=(aH S.cur n).aB) (a:=i/16) aD);have hl:=jW h.use.cur (h.use.room hs);rw[qP,rZ,hl];omega
theorem dD.azJ (h:dD S g) {n:Nat} (hn:n<S.names) (hk:(g n).kind=1):HY S (aH S.cur n):=by
 have hroom:=h.ZL hn hk;refine⟨h.few hn,hroom,h.lt n hn,fun i hi=>?_⟩;have he:=h.bH n hn hk;have hl:=anB h hn (i:=i) aD;have hm:tC (jX S.cur S.data (aH S.cur n)) i∈(g n).bH:=by rw[he];exact NZ (by rw[<-he,BD];exact hi)
 have h15:=((h.fair n hn).names _ hm).1;rw[DF hi]at h15;simp only[enN,qP,rZ,hl]at h15;omega
structure Vol (S:VS) (g:LT):Prop where
 ph:dD S g
 ent:∀n<S.names,∀e∈(g n).bH,e.2<S.names
 root:(g 0).kind=1
 few:S.nodes<=256
 rB:S.rB=S.count
 rI:S.rI=S.names
theorem Vol.vw (h:Vol S g):VW S:=
 ⟨h.ph.use.vf,h.ph.n0,fun n hn=>h.ph.few hn,fun n hn=>h.ph.lt n hn,fun n hn hk=>h.ph.azJ hn (by rw[<-h.ph.kind hn];exact hk),fun n hn hk e he=>by(have hk1:(g n).kind=1:=by rw[<-h.ph.kind hn];exact hk);rw[h.ph.bH n hn hk1]at he;exact⟨h.ent n hn e he,((h.ph.fair n hn).names e he).1⟩⟩
theorem Vol.akT (h:Vol S g):(aH S.cur 0).kind=1:=by rw[h.ph.kind h.ph.n0];exact h.root
theorem Vol.adP (h:Vol S g):∀m<S.names,(aH S.cur m).kind≠1->(aH S.cur m).size<=512*(aH S.cur m).aB.length:=fun m hm hk=>by
 rw[h.ph.size hm,h.ph.len m hm];rw[h.ph.kind hm]at hk;have hf:=h.ph.fair m hm;unfold LI.size LI.need;rw[if_neg hk,if_neg hk];by_cases k2:(g m).kind=2
 ·rw[if_pos k2];omega
 rw[hf.data k2];simp
theorem dD.aaE (h:dD S g) {dir i:Nat} {name:List UInt8} (hd:dir<S.names) (hk:(g dir).kind=1) (hn:name.length<=15) (hi:i<(g dir).bH.length) (hf:(kJ (g dir).bH name).1=i):wK S dir name:=by
 have he:=h.bH dir hd hk;have hsz:(aH S.cur dir).size=(g dir).bH.length:=by rw[h.size hd,vE hk]
 refine⟨hd,h.azJ hd hk,hn,⟨i,by rw[hsz];exact hi,by rw[he];exact hf⟩,?_,?_⟩
 ·rw[he,hsz];exact((h.fair dir hd).names _ (NZ aD)).1
 rw[h.len dir hd,lF hk,hsz]
theorem dD.N8 (h:dD S g) {dir n:Nat} {name:List UInt8} (hd:dir<S.names) (hk:(g dir).kind=1) (hsz:(g dir).bH.length<448) (hn:name.length<=15) (hm:n<=65535):oG S dir n name:=
 ⟨h.adN hd,by rw[h.size hd,vE hk];exact hsz,hn,hm⟩
theorem I4 {z:Int} (h0: -10000000<=z) (h1:z<=10000000):bW z:=by unfold bW;omega
theorem dD.I5 {S1:VS} {g1:LT} (hr:S.rB=S.count/\S.rI=S.names) (hu:dZ S) (hL:fC S S1) (h1:dD S1 g1) (hm:S1.m<=40):nX S S1:=by
 have h2:=h1.arF;have h3:=h1.qD;have h4:=hu.nb;have h5:=hL.rB;have h6:=hL.rI;have h7:(S.count:Int)<=4096:=by unfold VS.count;omega
 have h8:=hu.vf.names;refine⟨hL,hm,I4 aD aD,I4 aD aD,I4 ?_ ?_,I4 ?_ ?_⟩
 ·rw[h5,hr.1];omega
 ·rw[h5,hr.1];omega
 ·rw[h6,hr.2];omega
 rw[h6,hr.2];omega
theorem dD.N9 (h:dD S g) {dir n:Nat} {name:List UInt8} (hd:dir<S.names) (hk:(g dir).kind=1) {S1:VS} (he:gV S dir name n=some S1):S1.m<=S.m+3:=by
 unfold gV at he;have hsz:(aH S.cur dir).size=(g dir).bH.length:=by rw[h.size hd,vE hk]
 have hl:(aH S.cur dir).aB.length=max 1 (((g dir).bH.length+15)/16):=by rw[h.len dir hd,lF hk]
 split at he
 ·cases he
 rename_i S2 l hf;cases he;have:=(jR hf).1.m;show S2.m+1+1<=_
 rw[this];show S.m+_+1+1<=_
 rw[hsz,hl];omega
theorem dD.awT (h:dD S g) {dir:Nat} {name:List UInt8} (hd:dir<S.names) (hk:(g dir).kind=1):(cO S dir name).m<=S.m+4:=by
 have hsz:(aH S.cur dir).size=(g dir).bH.length:=by rw[h.size hd,vE hk]
 have hl:(aH S.cur dir).aB.length=max 1 (((g dir).bH.length+15)/16):=by rw[h.len dir hd,lF hk]
 unfold cO;simp only;have h2:=(MG S (aH S.cur dir) name).m;split
 ·omega
 rename_i S4 l hf;have:=(jR hf).1.m;show S4.m+1<=_
 rw[this];show(FU S (aH S.cur dir) name).m+_+1<=_
 rw[h2,hsz,hl];omega
theorem arH (S:VS) (n:Nat):(mV S n).m<=S.m+(aH S.cur n).aB.length+1:=by
 obtain⟨S1,h1,h2⟩:=BL (S:=S) (n:=n);rw[h2];have:=(jR h1).1.m;show S1.m+1<=_
 omega
theorem aAK {S1:VS} {n:Nat} {bs:List UInt8} (hf:mU S n bs=some S1):S1.m<=S.m+(aH S.cur n).aB.length+2*((bs.length+511)/512)+1:=by
 unfold mU at hf;split at hf
 ·cases hf
 rename_i S2 l h1;cases hf;have h2:=(jR h1);have h3:=(qZ bs l 0 S2).m;show(mR bs l 0 S2).m+1<=_
 rw[h3,h2.1.m,h2.2];omega
end
structure TN where
 path:List UInt8
 file:Int
 mode:Int
deriving DecidableEq
abbrev Key :=List (List UInt8)
def qR (L:uS) (name:List UInt8):Option Nat:=(L.find? fun e=>e.1==name).map (·.2)
theorem CB (L:uS) (name:List UInt8):(∃i,i<L.length/\tC L i=(name,(kJ L name).2)/\(kJ L name).1=(i:Int)/\qR L name=some (kJ L name).2)\/(kJ L name=(-1,0)/\qR L name=none):=by
 unfold kJ qR;cases h:L.findIdx? fun e=>e.1==name with
 |none=>right;rw[abX]at h;refine⟨rfl,?_⟩;rw[YZ,wV];intro x hx;rw[Bool.not_eq_true];exact h x hx
 |some i=>
  left;dsimp only;rw[abO]at h;obtain⟨h1,h2,h3⟩:=h;(have e1:L.getD i ([],0)=L[i]:=by rw[gH,gE h1];rfl);(have e2:L[i].1=name:=by simpa using h2);refine⟨i,h1,?_,rfl,?_⟩
  ·unfold tC;rw[e1,<-e2]
  rw[OT];refine⟨L[i],?_,by rw[e1]⟩;rw[List.find?_eq_some_iff_getElem];exact⟨h2,i,h1,rfl,fun j hj=>by simpa using h3 j hj⟩
theorem Z49 {P:Prop} (h:P:=by have:=hp j i (by simpa using hj) (by simpa using hi) h5;simp only[G5,e1,e2]at this;exact absurd e.symm this):P:=h
theorem Z74 {P:Prop} (h:P:=by have:=hp i j (by simpa using hi) (by simpa using hj) h5;simp only[G5,e1,e2]at this;exact absurd e this):P:=h
theorem ahL {L M:uS} (h:L.Perm M) (hn:(M.map (·.1)).Nodup) (name:List UInt8):qR L name=qR M name:=by
 have hnL:(L.map (·.1)).Nodup:=(h.map _).nodup_iff.2 hn;have key:∀(A:uS),(A.map (·.1)).Nodup->∀c,qR A name=some c↔(name,c)∈A:=fun A hA c=>by
  unfold qR;rw[OT];constructor
  ·rintro⟨x,h1,h2⟩;have h3:=G6 h1;have h4:=UH h1;(have e:x.1=name:=by simpa using h3);rw[<-e,<-h2];exact h4
  intro hm;cases hf:A.find? fun e=>e.1==name with
  |none=>have:=wV.1 hf _ hm;simp at this
  |some x=>
   have h3:=G6 hf;have h4:=UH hf;(have e:x.1=name:=by simpa using h3);refine⟨x,rfl,?_⟩;obtain⟨i,hi,e1⟩:=List.mem_iff_getElem.1 h4;obtain⟨j,hj,e2⟩:=List.mem_iff_getElem.1 hm;have hp:=EX.1 hA;rcases UK i j with h5|h5|h5
   ·exact Z74
   ·subst h5;rw[e1]at e2;rw[e2]
   exact Z49
 cases hM:qR M name with
 |some c=>rw[key L hnL];exact h.mem_iff.2 ((key M hn c).1 hM)
 |none=>
  cases hL:qR L name with
  |none=>rfl
  |some c=>have:=(key M hn c).2 (h.mem_iff.1 ((key L hnL c).1 hL));rw[hM]at this;cases this
def I6 (g:LT):Nat->Key->Except Int Nat
 |n,[]=>.ok n
 |n,x::l=>if(g n).kind=1 then(match qR (g n).bH x with|some c=>I6 g c l|none=>.error 21)else .error 22
def stepG (g:LT) (x:List UInt8) (n:Nat):Except Int Nat:=if(g n).kind=1 then(match qR (g n).bH x with|some c=>.ok c|none=>.error 21)else .error 22
theorem Q7 (g:LT) (x:List UInt8):∀(l:Key) (n:Nat),I6 g n (l++[x])=(I6 g n l).bind (stepG g x)
 |[],n=>by
  (show I6 g n [x]=stepG g x n);unfold I6 stepG;split
  ·split<;>rfl
  rfl
 |y::l,n=>by
  rw[kI];unfold I6;split
  ·split
   ·exact Q7 g x l _
   rfl
  rfl
def arI (g:LT) (b:List UInt8):Except Int Nat->Int×Int×Int
 | .error e=>(0,0,e)
 | .ok m=>if(g m).kind=1 then(match qR (g m).bH b with|some c=>((m:Int),(c:Int),0)|none=>((m:Int), -1,0))else(0,0,22)
theorem Q8 {S:VS} {g:LT} (h:Vol S g) (b:List UInt8):∀(l:Key) (dir n:Nat),n<S.names->aU S.cur S.data dir n (l++[b])=arI g b (I6 g n l)
 |[],dir,n,hn=>by
  (show aU S.cur S.data dir n [b]=(if(g n).kind=1 then(match qR (g n).bH b with|some c=>((n:Int),(c:Int),(0:Int))|none=>((n:Int),(-1:Int),(0:Int)))else((0:Int),(0:Int),(22:Int))));unfold aU;rw[h.ph.kind hn];by_cases hk:(g n).kind=1
  ·rw[if_pos hk,if_pos hk,h.ph.bH n hn hk];rcases CB (g n).bH b with⟨i,_,_,h3,h4⟩|⟨h3,h4⟩
   ·rw[h3,h4,if_pos aD];rfl
   rw[h3,h4,if_neg aR];rfl
  rw[if_neg hk,if_neg hk]
 |x::l,dir,n,hn=>by
  rw[kI];unfold aU I6;rw[h.ph.kind hn];by_cases hk:(g n).kind=1
  ·rw[if_pos hk,if_pos hk,h.ph.bH n hn hk];rcases CB (g n).bH x with⟨i,h1,h2,h3,h4⟩|⟨h3,h4⟩
   ·rw[h3,h4,if_pos aD];refine Q8 h b l n _ ?_;have:=h.ent n hn _ (NZ h1);rw[h2]at this;exact this
   rw[h3,h4,if_neg aR,if_neg bK];rfl
  rw[if_neg hk,if_neg hk];rfl
theorem y8 (p:List UInt8):splitB p=(splitB p).dropLast++[aL p]:=by unfold aL;have h:=gJ p;rw[List.getLastD_eq_getLast?,List.getLast?_eq_some_getLast h];exact(List.dropLast_concat_getLast h).symm
structure FT where
 mode:Int
 bs:List UInt8
def bE (n:TN):Key:=splitB n.path
def dE (dn:Key->Nat) (φ:Int->Nat) (n:TN):Nat:=if n.file= -1 then dn (bE n)else φ n.file
def eP (ns:List TN) (K:Key):List TN:=ns.filter fun n=>(bE n).dropLast==K
def dJ (ns:List TN) (K:Key):Prop:=K=[]\/∃n∈ns,bE n=K/\n.file= -1
structure l6 (g:LT) (nm:Nat) (ns:List TN) (fs:List FT) (dn:Key->Nat) (φ:Int->Nat):Prop where
 n0:0<nm
 root:dn []=0
 rk:(g 0).kind=1
 uniq:(ns.map bE).Nodup
 up:∀n∈ns,dJ ns (bE n).dropLast
 dir:∀n∈ns,n.file= -1->dn (bE n)<nm/\(g (dn (bE n))).kind=1/\((g (dn (bE n))).mode:Int)=n.mode/\(g (dn (bE n))).links=1
 file:∀n∈ns,n.file≠ -1->0<=n.file/\φ n.file<nm/\(g (φ n.file)).kind=2/\(∃f,fs[n.file.toNat]? =some f/\((g (φ n.file)).mode:Int)=f.mode/\(g (φ n.file)).data=f.bs)/\(g (φ n.file)).links=ns.countP fun m=>decide (m.file=n.file)
 ne0:∀n∈ns,dE dn φ n≠0
 inj:∀n∈ns,∀m∈ns,dE dn φ n=dE dn φ m->n=m\/(n.file≠ -1/\n.file=m.file)
 cover:∀i<nm,(g i).kind≠0->i=0\/∃n∈ns,dE dn φ n=i
 bH:∀K,dJ ns K->(g (dn K)).bH.Perm ((eP ns K).map fun n=>((bE n).getLastD [],dE dn φ n))
def kP (ns:List TN) (K:Key):Option TN:=ns.find? fun n=>bE n==K
def lH :Option TN->Bool
 |none=>true
 |some n=>decide (n.file= -1)
def ahN (dn:Key->Nat) (φ:Int->Nat):Option TN->Nat
 |none=>0
 |some n=>dE dn φ n
def stepT (ns:List TN) (K:Key) (c:Option TN):Except Int (Option TN):=if lH c=true then(match kP ns K with|some n=>.ok (some n)|none=>.error 21)else .error 22
def nZ (ns:List TN):Nat->Key->Except Int (Option TN)
 |0,_=>.ok none
 |k+1,K=>(nZ ns k K.dropLast).bind (stepT ns K)
theorem eY {ns:List TN} {K:Key} {n:TN} (h:kP ns K=some n):n∈ns/\bE n=K:=
 ⟨UH h,by simpa using G6 h⟩
theorem key_inj {ns:List TN} (h:(ns.map bE).Nodup) {n m:TN} (hn:n∈ns) (hm:m∈ns) (e:bE n=bE m):n=m:=by
 obtain⟨i,hi,e1⟩:=List.mem_iff_getElem.1 hn;obtain⟨j,hj,e2⟩:=List.mem_iff_getElem.1 hm;have hp:=EX.1 h;rcases UK i j with h5|h5|h5
 ·exact Z74
 ·subst h5;rw[<-e1,<-e2]
 exact Z49
theorem D6 {ns:List TN} (h:(ns.map bE).Nodup) {n:TN} (hn:n∈ns):kP ns (bE n)=some n:=by
 cases hf:kP ns (bE n)with
 |none=>have:=wV.1 hf n hn;simp at this
 |some m=>obtain⟨h1,h2⟩:=eY hf;rw[key_inj h h1 hn h2]
theorem aaF (n:TN):bE n≠[]:=gJ _
theorem F4 (n:TN):bE n=(bE n).dropLast++[(bE n).getLastD []]:=y8 n.path
section
variable {g:LT} {nm:Nat} {ns:List TN} {fs:List FT} {dn:Key->Nat} {φ:Int->Nat}
theorem ahO (h:(ns.map bE).Nodup) (K:Key):(((eP ns K).map fun n=>((bE n).getLastD [],dE dn φ n)).map (·.1)).Nodup:=by
 rw[qO];have h1:((eP ns K).map bE).Nodup:=h.sublist (ab2 _ G8);have h2:∀n∈eP ns K,bE n=K++[(bE n).getLastD []]:=fun n hn=>by
  have:=(List.mem_filter.1 hn).2;have e:(bE n).dropLast=K:=by simpa using this
  conv=>lhs;rw[F4 n,e]
 rw[abW,GY]at h1 ⊢;refine apW (fun {a b} ha hb hab e=>hab ?_) h1;have e2:(bE a).getLastD []=(bE b).getLastD []:=e;rw[h2 a ha,h2 b hb,e2]
theorem l6.find (h:l6 g nm ns fs dn φ) {K:Key} (hK:dJ ns K) (b:List UInt8):qR (g (dn K)).bH b=(kP ns (K++[b])).map (dE dn φ):=by
 have hu:=ahO (dn:=dn) (φ:=φ) h.uniq K;rw[ahL (h.bH K hK) hu];cases hn:kP ns (K++[b])with
 |some n=>
  obtain⟨h1,h2⟩:=eY hn;have hk:n∈eP ns K:=List.mem_filter.2 ⟨h1,by rw[h2,UI];simp⟩;(have hm:(b,dE dn φ n)∈(eP ns K).map fun n=>((bE n).getLastD [],dE dn φ n):=List.mem_map.2 ⟨n,hk,by rw[h2];simp⟩);unfold qR;cases hf:((eP ns K).map fun n=>((bE n).getLastD [],dE dn φ n)).find? fun e=>e.1==b with
  |none=>have:=wV.1 hf _ hm;simp at this
  |some x=>have h3:=UH hf;(have h4:x.1=b:=by simpa using G6 hf);obtain⟨m,hm1,hm2⟩:=List.mem_map.1 h3;(have e1:(bE m).getLastD []=b:=by rw[<-h4,<-hm2]);(have e2:(bE m).dropLast=K:=by simpa using(List.mem_filter.1 hm1).2);(have e3:bE m=bE n:=by rw[h2,F4 m,e1,e2]);have:=key_inj h.uniq (List.mem_filter.1 hm1).1 h1 e3;rw[<-hm2,this];rfl
 |none=>unfold qR;rw[ab4,YZ,wV];intro x hx hb;obtain⟨m,hm1,hm2⟩:=List.mem_map.1 hx;(have e1:(bE m).getLastD []=b:=by rw[<-hm2]at hb;simpa using hb);(have e2:(bE m).dropLast=K:=by simpa using(List.mem_filter.1 hm1).2);(have e3:bE m=K++[b]:=by rw[F4 m,e1,e2]);have:=wV.1 hn m (List.mem_filter.1 hm1).1;simp[e3]at this
theorem xZ (h:l6 g nm ns fs dn φ) {K:Key} {c:Option TN} (hc:nZ ns K.length K= .ok c):(c=none/\K=[])\/∃n,c=some n/\n∈ns/\bE n=K:=by
 rcases abS K with e|⟨l,x,e⟩
 ·subst e;cases hc;exact .inl ⟨rfl,rfl⟩
 rw[abT]at e;subst e;rw[jM,oL]at hc;unfold nZ at hc;cases h1:nZ ns l.length (l++[x]).dropLast with
 |error e=>rw[h1]at hc;cases hc
 |ok d=>
  rw[h1]at hc;change stepT ns (l++[x]) d= .ok c at hc;unfold stepT at hc;split at hc
  ·split at hc
   ·rename_i n hn;cases hc;obtain⟨h2,h3⟩:=eY hn;exact .inr ⟨n,rfl,h2,h3⟩
   cases hc
  cases hc
theorem l6.walk (h:l6 g nm ns fs dn φ):∀(k:Nat) (K:Key),K.length=k->I6 g 0 K=(nZ ns k K).map (ahN dn φ)
 |0,K,hl=>by obtain rfl:K=[]:=vS hl;rfl
 |k+1,K,hl=>by
  rcases abS K with e|⟨l,x,e⟩
  ·subst e;cases hl
  rw[abT]at e;subst e;rw[jM,oL]at hl;(have hlk:l.length=k:=by omega);have ih:=l6.walk h k l hlk;rw[Q7,ih];(show _=Except.map (ahN dn φ) ((nZ ns k (l++[x]).dropLast).bind (stepT ns (l++[x]))));rw[UI];cases h1:nZ ns k l with
  |error e=>rfl
  |ok c=>
   (show stepG g x (ahN dn φ c)=(stepT ns (l++[x]) c).map (ahN dn φ));rw[<-hlk]at h1;rcases xZ h h1 with⟨rfl,rfl⟩|⟨n,rfl,hn1,hn2⟩
   ·unfold stepG stepT;have hf:=h.find (K:=[]) (.inl rfl) x;rw[h.root]at hf;(show(if(g 0).kind=1 then _ else _)=_);rw[if_pos h.rk,if_pos (show lH none=true from rfl)];(show(match qR (g 0).bH x with|some c=>_|none=>_)=_);rw[hf];cases kP ns ([]++[x])<;>rfl
   unfold stepG stepT;(show(if(g (dE dn φ n)).kind=1 then _ else _)=_);by_cases hd:n.file= -1
   ·(have e1:dE dn φ n=dn l:=by unfold dE;rw[if_pos hd,hn2]);have hf:=h.find (K:=l) (.inr ⟨n,hn1,hn2,hd⟩) x;have hk:=(h.dir n hn1 hd).2.1;rw[hn2]at hk;rw[e1,if_pos hk,if_pos (by unfold lH;simp[hd])];(show(match qR (g (dE dn φ n)).bH x with|some c=>_|none=>_)=_);rw[e1,hf];cases kP ns (l++[x])<;>rfl
   (have e1:dE dn φ n=φ n.file:=by unfold dE;rw[if_neg hd]);have hk:=(h.file n hn1 hd).2.2.1;rw[e1,if_neg (by rw[hk];decide),if_neg (by unfold lH;simp[hd])];rfl
theorem KW (n:TN) (K:Key):eP (ns++[n]) K=eP ns K++(if(bE n).dropLast=K then [n]else []):=by
 unfold eP;rw[FN];congr 1;by_cases e:(bE n).dropLast=K
 ·rw[if_pos e];simp[e]
 rw[if_neg e];simp[e]
theorem dJ.snoc {K:Key} (h:dJ ns K) (n:TN):dJ (ns++[n]) K:=by
 rcases h with h|⟨m,hm,h⟩
 ·exact .inl h
 exact .inr ⟨m,vU _ hm,h⟩
theorem l6.AR (h:l6 g nm ns fs dn φ) {K:Key} (hK:dJ ns K):dn K<nm/\(g (dn K)).kind=1:=by
 rcases hK with e|⟨n,hn,e,hf⟩
 ·rw[e,h.root];exact⟨h.n0,h.rk⟩
 have:=h.dir n hn hf;rw[e]at this;exact⟨this.1,this.2.1⟩
theorem l6.aaG (h:l6 g nm ns fs dn φ) {K L:Key} (hK:dJ ns K) (hL:dJ ns L) (e:dn K=dn L):K=L:=by
 have key:∀n∈ns,n.file= -1->dE dn φ n=dn (bE n):=fun n _ hf=>by unfold dE;rw[if_pos hf]
 rcases hK with e1|⟨n,hn,e1,hf1⟩
 ·rcases hL with e2|⟨m,hm,e2,hf2⟩
  ·rw[e1,e2]
  have:=h.ne0 m hm;rw[key m hm hf2,e2,<-e,e1,h.root]at this;exact absurd rfl this
 rcases hL with e2|⟨m,hm,e2,hf2⟩
 ·have:=h.ne0 n hn;rw[key n hn hf1,e1,e,e2,h.root]at this;exact absurd rfl this
 rcases h.inj n hn m hm (by rw[key n hn hf1,key m hm hf2,e1,e2,e])with h1|h1
 ·rw[<-e1,<-e2,h1]
 exact absurd hf1 h1.1
theorem l6.MV (h:l6 g nm ns fs dn φ) {n:TN} (hn:n∈ns):dE dn φ n<nm/\((n.file= -1/\(g (dE dn φ n)).kind=1)\/(n.file≠ -1/\(g (dE dn φ n)).kind=2)):=by
 unfold dE;by_cases hf:n.file= -1
 ·rw[if_pos hf];exact⟨(h.dir n hn hf).1,.inl ⟨hf,(h.dir n hn hf).2.1⟩⟩
 rw[if_neg hf];exact⟨(h.file n hn hf).2.1,.inr ⟨hf,(h.file n hn hf).2.2.1⟩⟩
theorem l6.akU (h:l6 g nm ns fs dn φ) {n:TN} (hn:n∈ns) (hf:n.file≠ -1):0<=n.file/\n.file<fs.length:=by obtain⟨h1,_,_,⟨f,h2,_⟩,_⟩:=h.file n hn hf;have:=(gF.1 h2).1;omega
theorem vG {K:Key} (h:kP ns K=none):∀n∈ns,bE n≠K:=fun n hn e=>by have:=wV.1 h n hn;simp[e]at this
theorem l6.awU (h:l6 g nm ns fs dn φ) {K:Key} (hK:K≠[]) (hno:kP ns K=none):eP ns K=[]:=by
 unfold eP;rw[ajU];intro n hn hk;have e:(bE n).dropLast=K:=by simpa using hk
 rcases h.up n hn with h1|⟨m,hm,h1,_⟩
 ·exact hK (by rw[<-e,h1])
 exact vG hno m hm (by rw[h1,e])
theorem CE {K:Key} (hK:K≠[]):K.dropLast≠K:=fun e=>by have:=congrArg List.length e;rw[abN]at this;have:0<K.length:=List.length_pos_iff.2 hK;omega
theorem Z7 {P:Prop} (h:P:=by
 by_cases e:P=K
 ·subst e;rw[if_pos (by rw[hk0];exact hPe.symm),<-hd,gd];(show((g d).bH++[(aL p,i)]).Perm _);rw[<-hd]at hE;refine hE.append ?_;rw[M5,i0,hk0];exact EW _
 rw[if_neg (by rw[hk0,<-hPe];exact e),zL,yX46,go _ (fun e2=>e ?_) (dni K hK')]
 ·exact hE
 exact(h.aaG hK' hP (by rw[e2,hd])).symm):P:=h
theorem Z60 {P:Prop} (h:P:=by
 intro n hn m hm e;rcases mem n hn with hn|en
 ·rcases mem m hm with hm|em
  ·rw[io n hn,io m hm]at e;exact h.inj n hn m hm e
  (try rw[em]at hf);(try rw[em]at e);(try rw[em]);rw[io n hn,i0]at e;exact absurd e (ni n hn)
 try rw[en]at hf
 try rw[en]at e
 try rw[en]
 rcases mem m hm with hm|em
 ·rw[io m hm,i0]at e;exact absurd e.symm (ni m hm)
 try rw[em]at hf
 try rw[em]at e
 try rw[em]
 exact .inl rfl):P:=h
theorem Z77 {P:Prop} (h:P:=by rw[mZ,M5,tK];refine⟨h.uniq,by simp,fun a ha b hb e=>?_⟩;obtain⟨n,hn,e1⟩:=List.mem_map.1 ha;rw[tJ]at hb;exact anC n hn (by rw[e1,e,hb,hk0])):P:=h
theorem Z89 {P:Prop} (h:P:=by
 intro m hm hk;by_cases e:m=i
 ·exact .inr ⟨n0,by simp,by rw[i0,e]⟩
 rw[(gk m e).1]at hk;rcases h.cover m hm hk with h1|⟨n,hn,h1⟩
 ·exact .inl h1
 exact .inr ⟨n,vU _ hn,by rw[io n hn,h1]⟩):P:=h
theorem Z92 {P:Prop} (h:P:=by
 by_cases h1:m=d
 ·rw[h1,gd];exact⟨rfl,rfl,rfl,rfl⟩
 rw[go m h1 h2];exact⟨rfl,rfl,rfl,rfl⟩):P:=h
theorem Z95 {P:Prop} (h:P:=by
 rcases hK with e|⟨n,hn,e,hf⟩
 ·exact .inl e
 rcases iM.1 hn with hn|hn
 ·exact .inr ⟨n,hn,e,hf⟩
 rw[tJ]at hn;rw[hn]at hf;exact absurd hf hne1):P:=h
theorem Z97 {P:Prop} (h:P:=by
 intro n hn;rcases mem n hn with hn|en
 ·exact(h.up n hn).snoc _
 try rw[en]at hf
 try rw[en]at e
 try rw[en]
 rw[hk0,<-hPe];exact hP.snoc _):P:=h
theorem Z98 {P:Prop} (h:P:=by
 intro n hn;rcases mem n hn with hn|en
 ·rw[io n hn];exact h.ne0 n hn
 try rw[en]at hf
 try rw[en]at e
 try rw[en]
 rw[i0];exact hi0):P:=h
theorem l6.awV (h:l6 g nm ns fs dn φ) {p:List UInt8} {i mode:Nat} {bs:List UInt8} (hi:i<nm) (h0:(g i).kind=0) (hP:dJ ns (splitB p).dropLast) (hno:kP ns (splitB p)=none):
  l6 (dP (dP g i ⟨2,mode,1,[],bs⟩) (dn (splitB p).dropLast) ((g (dn (splitB p).dropLast)).more (aL p) i)) nm (ns++[⟨p,fs.length,0⟩]) (fs++[⟨mode,bs⟩]) dn (fun k:Int=>if k=(fs.length:Int)then i else φ k):=by
 obtain⟨P,hPe⟩:∃P,P=(splitB p).dropLast:=⟨_,rfl⟩;rw[<-hPe]at hP ⊢;obtain⟨hd1,hd2⟩:=h.AR hP;obtain⟨d,hd⟩:∃d,d=dn P:=⟨_,rfl⟩;rw[<-hd]at hd1 hd2 ⊢;obtain⟨n0,hn0⟩:∃n0:TN,n0=⟨p,fs.length,0⟩:=⟨_,rfl⟩;have hk0:bE n0=splitB p:=by rw[hn0];rfl
 have hf0:n0.file=fs.length:=by rw[hn0]
 have hne1:n0.file≠ -1:=by rw[hf0];omega
 rw[<-hn0];obtain⟨ψ,hψ⟩:∃ψ:Int->Nat,ψ=fun k:Int=>if k=(fs.length:Int)then i else φ k:=⟨_,rfl⟩
 rw[<-hψ];obtain⟨g',hg'⟩:∃g',g'=dP (dP g i ⟨2,mode,1,[],bs⟩) d ((g d).more (aL p) i):=⟨_,rfl⟩;rw[<-hg'];have hid:i≠d:=fun e=>by rw[e,hd2]at h0;cases h0
 have hi0:i≠0:=fun e=>by rw[e,h.rk]at h0;cases h0
 have gd:g' d=(g d).more (aL p) i:=by rw[hg',bM]
 have gi:g' i=⟨2,mode,1,[],bs⟩:=by rw[hg',bR _ _ hid,bM]
 have go:∀m,m≠d->m≠i->g' m=g m:=fun m h1 h2=>by rw[hg',bR _ _ h1,bR _ _ h2]
 have gk:∀m,m≠i->(g' m).kind=(g m).kind/\(g' m).mode=(g m).mode/\(g' m).links=(g m).links/\(g' m).data=(g m).data:=fun m h2=>by exact Z92
 have ψo:∀n∈ns,n.file≠ -1->ψ n.file=φ n.file:=fun n hn hf=>by rw[hψ];exact if_neg (by have:=(h.akU hn hf).2;omega)
 have io:∀n∈ns,dE dn ψ n=dE dn φ n:=fun n hn=>by
  unfold dE;by_cases hf:n.file= -1
  ·rw[if_pos hf,if_pos hf]
  rw[if_neg hf,if_neg hf,ψo n hn hf]
 have i0:dE dn ψ n0=i:=by unfold dE;rw[if_neg hne1,hψ];exact if_pos hf0
 have ni:∀n∈ns,dE dn φ n≠i:=fun n hn e=>by rcases(h.MV hn).2 with⟨_,h1⟩|⟨_,h1⟩<;>rw[e,h0]at h1<;>cases h1
 have dni:∀K,dJ ns K->dn K≠i:=fun K hK e=>by have:=(h.AR hK).2;rw[e,h0]at this;cases this
 have anC:=vG hno;have U1:∀K,dJ (ns++[n0]) K->dJ ns K:=fun K hK=>by exact Z95
 have mem:∀n∈ns++[n0],n∈ns\/n=n0:=fun n hn=>by simpa using hn
 have hnot:∀n∈ns,n.file≠n0.file:=fun n hn e=>by
  by_cases hf:n.file= -1
  ·rw[hf]at e;exact hne1 e.symm
  have:=(h.akU hn hf).2;omega
 refine⟨h.n0,h.root,?_,?_,?_,?_,?_,?_,?_,?_,?_⟩
 ·rw[(gk 0 (fun e=>hi0 e.symm)).1];exact h.rk
 ·exact Z77
 ·exact Z97
 ·intro n hn hf;rcases mem n hn with hn|en
  ·have h1:=h.dir n hn hf;have h2:=gk (dn (bE n)) (dni _ (.inr ⟨n,hn,rfl,hf⟩));rw[h2.1,h2.2.1,h2.2.2.1];exact h1
  (try rw[en]at hf);(try rw[en]at e);(try rw[en]);exact absurd hf hne1
 ·intro n hn hf;rcases mem n hn with hn|en
  ·obtain⟨h1,h2,h3,⟨f,h4,h5,h6⟩,h7⟩:=h.file n hn hf;have h8:=gk (φ n.file) (fun e=>by rw[e,h0]at h3;cases h3);rw[ψo n hn hf,h8.1,h8.2.1,h8.2.2.1,h8.2.2.2];refine⟨h1,h2,h3,⟨f,?_,h5,h6⟩,?_⟩
   ·rw[EI (gF.1 h4).1];exact h4
   rw[h7,ajX];(have e1:[n0].countP (fun m=>decide (m.file=n.file))=0:=by rw[LY,List.countP_nil];simp only[jN,if_neg (fun e:n0.file=n.file=>hnot n hn e.symm)]);rw[e1];rfl
  (try rw[en]at hf);(try rw[en]at e);(try rw[en]);(have e1:ψ n0.file=i:=by rw[hψ];exact if_pos hf0);rw[e1,gi];refine⟨by rw[hf0];omega,hi,rfl,⟨⟨mode,bs⟩,?_,rfl,rfl⟩,?_⟩
  ·rw[hf0,nA,vT (iC _),FP];rfl
  rw[ajX];(have e2:ns.countP (fun m=>decide (m.file=n0.file))=0:=by rw[List.countP_eq_zero];intro m hm;simp[hnot m hm]);rw[e2,LY,List.countP_nil];simp
 ·exact Z98
 ·exact Z60
 ·exact Z89
 intro K hK;have hK':=U1 K hK;rw[KW,mZ];have e1:(eP ns K).map (fun n=>((bE n).getLastD [],dE dn ψ n))=(eP ns K).map fun n=>((bE n).getLastD [],dE dn φ n):=
  uO fun n hn=>by rw[io n (List.mem_filter.1 hn).1]
 rw[e1];have hE:=h.bH K hK';exact Z7
theorem l6.aAL (h:l6 g nm ns fs dn φ) {p:List UInt8} {i mode:Nat} (hi:i<nm) (h0:(g i).kind=0) (hP:dJ ns (splitB p).dropLast) (hno:kP ns (splitB p)=none):
  l6 (dP (dP g i ⟨1,mode,1,[],[]⟩) (dn (splitB p).dropLast) ((g (dn (splitB p).dropLast)).more (aL p) i)) nm (ns++[⟨p, -1,mode⟩]) fs (fun K=>if K=splitB p then i else dn K) φ:=by
 have hpn:splitB p≠[]:=gJ p;obtain⟨P,hPe⟩:∃P,P=(splitB p).dropLast:=⟨_,rfl⟩;rw[<-hPe]at hP ⊢;obtain⟨hd1,hd2⟩:=h.AR hP;obtain⟨d,hd⟩:∃d,d=dn P:=⟨_,rfl⟩;rw[<-hd]at hd1 hd2 ⊢;obtain⟨n0,hn0⟩:∃n0:TN,n0=⟨p, -1,mode⟩:=⟨_,rfl⟩;have hk0:bE n0=splitB p:=by rw[hn0];rfl
 have hf0:n0.file= -1:=by rw[hn0]
 rw[<-hn0];obtain⟨dm,hdm⟩:∃dm:Key->Nat,dm=fun K=>if K=splitB p then i else dn K:=⟨_,rfl⟩
 rw[<-hdm];obtain⟨g',hg'⟩:∃g',g'=dP (dP g i ⟨1,mode,1,[],[]⟩) d ((g d).more (aL p) i):=⟨_,rfl⟩;rw[<-hg'];have hid:i≠d:=fun e=>by rw[e,hd2]at h0;cases h0
 have hi0:i≠0:=fun e=>by rw[e,h.rk]at h0;cases h0
 have gd:g' d=(g d).more (aL p) i:=by rw[hg',bM]
 have gi:g' i=⟨1,mode,1,[],[]⟩:=by rw[hg',bR _ _ hid,bM]
 have go:∀m,m≠d->m≠i->g' m=g m:=fun m h1 h2=>by rw[hg',bR _ _ h1,bR _ _ h2]
 have gk:∀m,m≠i->(g' m).kind=(g m).kind/\(g' m).mode=(g m).mode/\(g' m).links=(g m).links/\(g' m).data=(g m).data:=fun m h2=>by exact Z92
 have anC:=vG hno;have dmo:∀K,K≠splitB p->dm K=dn K:=fun K hK=>by rw[hdm];exact if_neg hK
 have dm0:dm (splitB p)=i:=by rw[hdm];exact if_pos rfl
 have aJU:∀K,dJ ns K->K≠splitB p:=fun K hK e=>by
  rcases hK with e1|⟨n,hn,e1,_⟩
  ·exact hpn (by rw[<-e,e1])
  exact anC n hn (by rw[e1,e])
 have io:∀n∈ns,dE dm φ n=dE dn φ n:=fun n hn=>by unfold dE;rw[dmo _ (anC n hn)]
 have i0:dE dm φ n0=i:=by unfold dE;rw[if_pos hf0,hk0,dm0]
 have ni:∀n∈ns,dE dn φ n≠i:=fun n hn e=>by rcases(h.MV hn).2 with⟨_,h1⟩|⟨_,h1⟩<;>rw[e,h0]at h1<;>cases h1
 have dni:∀K,dJ ns K->dn K≠i:=fun K hK e=>by have:=(h.AR hK).2;rw[e,h0]at this;cases this
 have U1:∀K,dJ (ns++[n0]) K->dJ ns K\/K=splitB p:=fun K hK=>by
  rcases hK with e|⟨n,hn,e,hf⟩
  ·exact .inl (.inl e)
  rcases iM.1 hn with hn|hn
  ·exact .inl (.inr ⟨n,hn,e,hf⟩)
  rw[tJ]at hn;rw[hn,hk0]at e;exact .inr e.symm
 have mem:∀n∈ns++[n0],n∈ns\/n=n0:=fun n hn=>by simpa using hn
 refine⟨h.n0,by rw[dmo _ (fun e=>hpn e.symm)];exact h.root,?_,?_,?_,?_,?_,?_,?_,?_,?_⟩
 ·rw[(gk 0 (fun e=>hi0 e.symm)).1];exact h.rk
 ·exact Z77
 ·exact Z97
 ·intro n hn hf;rcases mem n hn with hn|en
  ·have h1:=h.dir n hn hf;have h2:=gk (dn (bE n)) (dni _ (.inr ⟨n,hn,rfl,hf⟩));rw[dmo _ (anC n hn),h2.1,h2.2.1,h2.2.2.1];exact h1
  (try rw[en]at hf);(try rw[en]at e);(try rw[en]);rw[hk0,dm0,gi];exact⟨hi,rfl,by rw[hn0],rfl⟩
 ·intro n hn hf;rcases mem n hn with hn|en
  ·obtain⟨h1,h2,h3,h4,h7⟩:=h.file n hn hf;have h8:=gk (φ n.file) (fun e=>by rw[e,h0]at h3;cases h3);rw[h8.1,h8.2.1,h8.2.2.1,h8.2.2.2];refine⟨h1,h2,h3,h4,?_⟩;rw[h7,ajX];(have e1:[n0].countP (fun m=>decide (m.file=n.file))=0:=by rw[LY,List.countP_nil];simp only[jN,if_neg (fun e:n0.file=n.file=>hf (by rw[<-e,hf0]))]);rw[e1];rfl
  (try rw[en]at hf);(try rw[en]at e);(try rw[en]);exact absurd hf0 hf
 ·exact Z98
 ·exact Z60
 ·exact Z89
 intro K hK;rw[KW,mZ];have e1:(eP ns K).map (fun n=>((bE n).getLastD [],dE dm φ n))=(eP ns K).map fun n=>((bE n).getLastD [],dE dn φ n):=
  uO fun n hn=>by rw[io n (List.mem_filter.1 hn).1]
 rw[e1];rcases U1 K hK with hK'|hK'
 ·have hE:=h.bH K hK';rw[dmo K (aJU K hK')];exact Z7
 rw[hK',dm0,gi,h.awU hpn hno,if_neg (by rw[hk0];exact CE hpn)];exact List.Perm.nil
end
end Go.Proofs.YtmjomdkleikgbaaGreat
