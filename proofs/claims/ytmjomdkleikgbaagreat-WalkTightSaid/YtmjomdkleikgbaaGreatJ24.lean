/- Parts. -/
import Derived.Test.YtmjomdkleikgbaaGreatJ23
set_option linter.unusedVariables false
set_option linter.unusedSimpArgs false
set_option maxRecDepth 100000
set_option maxHeartbeats 20000000
namespace Go.Proofs.YtmjomdkleikgbaaGreat
open Go.RowKit
def xJ (S:VS) (path:List UInt8):Int:=if dV path=0 then((dU (aS S.cur S.data 0 0 (splitB path))).getD 0)else dV path
def IK (k m l s i:Int):Value:=.agg #[iV k,iV m,iV l,iV s,iV i]
def statOf (S:VS) (path:List UInt8):Value:=
 if xJ S path=0 then
  let n:=(aS S.cur S.data 0 0 (splitB path)).2.1.toNat
  IK (aG S.cur n).kind (aG S.cur n).mode (aG S.cur n).links (aG S.cur n).size (n+1:Nat)
 else IK 0 0 0 0 0
section
variable {w0 w:World} {R:List aZ} {f q p:Nat} {S:VS} {a:VA}
theorem Sep.azR {As:List aZ} {b:Nat} {t:TypeId} {v0 v1 v2 v3 v4:Value} (u0 u1 u2 u3 u4:Value) (i:Nat) (h:Sep w0 w As) (hi:As[i]? =some (.box b t #[v0,v1,v2,v3,v4])):
  (w.frozen? ⟨b,0,none⟩=false/\w.cell? ⟨b,0,none⟩=some v0)/\
  ((w.setCell ⟨b,0,none⟩ u0).frozen? ⟨b,1,none⟩=false/\(w.setCell ⟨b,0,none⟩ u0).cell? ⟨b,1,none⟩=some v1)/\
  (((w.setCell ⟨b,0,none⟩ u0).setCell ⟨b,1,none⟩ u1).frozen? ⟨b,2,none⟩=false/\((w.setCell ⟨b,0,none⟩ u0).setCell ⟨b,1,none⟩ u1).cell? ⟨b,2,none⟩=some v2)/\
  ((((w.setCell ⟨b,0,none⟩ u0).setCell ⟨b,1,none⟩ u1).setCell ⟨b,2,none⟩ u2).frozen? ⟨b,3,none⟩=false/\(((w.setCell ⟨b,0,none⟩ u0).setCell ⟨b,1,none⟩ u1).setCell ⟨b,2,none⟩ u2).cell? ⟨b,3,none⟩=some v3)/\
  (((((w.setCell ⟨b,0,none⟩ u0).setCell ⟨b,1,none⟩ u1).setCell ⟨b,2,none⟩ u2).setCell ⟨b,3,none⟩ u3).frozen? ⟨b,4,none⟩=false/\((((w.setCell ⟨b,0,none⟩ u0).setCell ⟨b,1,none⟩ u1).setCell ⟨b,2,none⟩ u2).setCell ⟨b,3,none⟩ u3).cell? ⟨b,4,none⟩=some v4)/\
  Sep w0 (((((w.setCell ⟨b,0,none⟩ u0).setCell ⟨b,1,none⟩ u1).setCell ⟨b,2,none⟩ u2).setCell ⟨b,3,none⟩ u3).setCell ⟨b,4,none⟩ u4) (As.set i (.box b t #[u0,u1,u2,u3,u4])):=by
 have hlt:=(gF.1 hi).1;have h1:=h.bS i hi 0 u0;have e1:(As.set i (.box b t #[u0,v1,v2,v3,v4]))[i]? =some (.box b t #[u0,v1,v2,v3,v4]):=NU hlt;have h2:=h1.bS i e1 1 u1;rw[VB]at h2;have e2:(As.set i (.box b t #[u0,u1,v2,v3,v4]))[i]? =some (.box b t #[u0,u1,v2,v3,v4]):=NU hlt;have h3:=h2.bS i e2 2 u2;rw[VB]at h3;have e3:(As.set i (.box b t #[u0,u1,u2,v3,v4]))[i]? =some (.box b t #[u0,u1,u2,v3,v4]):=NU hlt;have h4:=h3.bS i e3 3 u3;rw[VB]at h4;have e4:(As.set i (.box b t #[u0,u1,u2,u3,v4]))[i]? =some (.box b t #[u0,u1,u2,u3,v4]):=NU hlt;have h5:=h4.bS i e4 4 u4;rw[VB]at h5;exact⟨⟨h.bF i hi 0,h.bC i hi 0⟩,⟨h1.bF i e1 1,h1.bC i e1 1⟩,⟨h2.bF i e2 2,h2.bC i e2 2⟩,⟨h3.bF i e3 3,h3.bC i e3 3⟩,⟨h4.bF i e4 4,h4.bC i e4 4⟩,h5⟩
theorem zD {S:VS} {path:List UInt8} {k:Int} (h:dU (aS S.cur S.data 0 0 (splitB path))=some k):k≠0/\k≠11:=by have:=uX h;unfold ED at this;omega
theorem aqJ {path:List UInt8} (hp:path.length<=9223372036854775807) (ho:S.D.off=false) (hV:VW S.base) (h:Sep w0 w (bH f q p S::R)):
  Calls Tryz.prog 79 #[pV f,aC path] w fun e w'=>e= .returned (.tuple #[statOf S.base path,iV (xJ S.base path)])/\Sep w0 w' (bH f q p S.base::R):=by
 have hb:=DI h;obtain⟨b,hbw⟩:∃b,b=w.heap.size:=⟨_,rfl⟩;have h1:Sep w0 ((w.alloc (.cells #[iV 0,iV 0,iV 0,iV 0,iV 0] 105)).alloc (.cells #[iV 0] 40)) (bH f q p S::aJ (b+1) 0:: .box b 105 #[iV 0,iV 0,iV 0,iV 0,iV 0]::R):=by have:=(h.bN 105 #[iV 0,iV 0,iV 0,iV 0,iV 0]).bN 40 #[iV 0];rw[World.size_alloc,<-hbw]at this;exact Sep.dE [2,0,1] this aV (by simp[aJ])
 have haw:=AR ho h1;obtain⟨T,hT⟩:∃T,T=S.base:=⟨_,rfl⟩;rw[<-hT]at hV hb haw ⊢;clear ho;obtain⟨Z,hZ⟩:∃Z:Array Value,Z=#[iV 0,iV 0,iV 0,iV 0,iV 0]:=⟨_,rfl⟩;have hres:Hid (∀(tm:Array Value) W x (k m l s i:Int) Y,tm.getD 5 undef=pV (b+1)->tm.getD 4 undef=pV b->Sep w0 W (Y++aJ (b+1) x:: .box b 105 #[iV k,iV m,iV l,iV s,iV i]::R)->(results Tryz.f79 tm).run Tryz.prog W= .ok (.tuple #[IK k m l s i,iV x]) W):=Lh fun tm W x k m l s i Y ht hv hW=>by(have hi:(Y++aJ (b+1) x:: .box b 105 #[iV k,iV m,iV l,iV s,iV i]::R)[Y.length]? =some (aJ (b+1) x):=by simp);(have hi2:(Y++aJ (b+1) x:: .box b 105 #[iV k,iV m,iV l,iV s,iV i]::R)[Y.length+1]? =some (.box b 105 #[iV k,iV m,iV l,iV s,iV i]):=by simp);have ec:=hW.bC _ hi 0;have z0:=hW.bC _ hi2 0;have z1:=hW.bC _ hi2 1;have z2:=hW.bC _ hi2 2;have z3:=hW.bC _ hi2 3;have z4:=hW.bC _ hi2 4;simp only[gA,gB,gC]at ec z0 z1 z2 z3 z4;(have ht2:tm[5]?.getD undef=pV (b+1):=by simpa using ht);(have hv2:tm[4]?.getD undef=pV b:=by simpa using hv);simp[results,Tryz.results79,go_sem,ht2,hv2,asAddr,loadVar,ec,z0,z1,z2,z3,z4,IK]
 have hpl:Hid (∀W,Calls Tryz.prog 68 #[aC path] W fun e w'=>e=(if dV path=0 then .returned (.tuple #[])else .panicked (fP (dV path)))/\Below W.heap.size W w'):=Lh fun W=>KE hp W
 have oZ:Hid (∀(tm:Array Value) W a k,k=xJ T path->k≠0->k≠11->VC T a->Sep w0 W (aF f q p T a::aJ (b+1) 0:: .box b 105 Z::R)->tm.getD 5 undef=pV (b+1)->tm.getD 4 undef=pV b->
   Leaves Tryz.prog Tryz.f79 tm (fun e w'=>e= .returned (.tuple #[statOf T path,iV (xJ T path)])/\Sep w0 w' (bH f q p T::R)) [{target:=.fn (.func 52) #[],args:=#[pV f,pV (b+1)]}] (.panicking (fP k)) W):=Lh fun tm W a k hk h0 h11 hC hW ht ht4=>by
  (refine II hC hb h11 hW fun w' hw=>?_);rw[hZ]at hw;refine⟨_,hres.out tm w' k 0 0 0 0 0 [bH f q p T] ht ht4 hw,?_,?_⟩
  ·unfold statOf;rw[<-hk,if_neg h0]
  have h5:Sep w0 w' (aJ (b+1) k:: .box b 105 #[iV 0,iV 0,iV 0,iV 0,iV 0]::bH f q p T::R):=Sep.dE [1,2,0] hw aV bL;exact h5.drop 2
 have hfl:Hid (aU path=true->∀W a,VC T a->Sep w0 W (aF f q p T a::aJ (b+1) 0:: .box b 105 Z::R)->Calls Tryz.prog 107 #[pV f,aC path] W fun e w'=>e=lS (aS T.cur T.data 0 0 (splitB path))/\∃a',VC T a'/\Sep w0 w' (aF f q p T a'::aJ (b+1) 0:: .box b 105 Z::R)):=Lh fun hv W a hC hW=>
  (nV hC hV hv (dL hv) hW).mono fun e w' ⟨h1,a',h2,h3⟩=>⟨h1,a',h2.ok,h3⟩
 have hct:Hid (∀m:Nat,m<T.names->∀W a,VC T a->Sep w0 W (aF f q p T a::aJ (b+1) 0:: .box b 105 Z::R)->Calls Tryz.prog 72 #[pV f,iV m] W fun e w'=>∃A n c a2,e= .returned (fJ (aG T.cur m) (.slice A n c))/\VC T a2/\Sep w0 w' (aF f q p T a2::aJ (b+1) 0:: .box b 105 Z::R)):=Lh fun m hm W a hC hW=>by refine(jP hC hV.vf hm (hV.few m hm) hW).mono ?_;rintro e w' ⟨v,a2,rfl,hR,h9⟩;obtain⟨A9,c9,e9⟩:=h9.dS 0 rfl;subst e9;exact⟨A9,_,c9,a2,rfl,hR.ok,h9.drop 1⟩
 have hln:=pY hV (path:=path);have hpw:=FN path;have hfs:∀k,dU (aS T.cur T.data 0 0 (splitB path))=some k->k≠0/\k≠11:=fun k hk=>zD hk
 have hn4:=hV.vf.names;clear hV hT h h1;by_cases h0:dV path=0
 ·have hv:=KF h0;rw[h0,if_pos rfl]at hpl;have oN:=Lh (hfl.out hv);(have hrx:xJ T path=(dU (aS T.cur T.data 0 0 (splitB path))).getD 0:=by unfold xJ;rw[if_pos h0]);replace hrx:=Lh hrx;clear hfl hp hv h0 hpw;rw[rQ]at oN;obtain⟨fe,hfe⟩:∃fe,fe=dU (aS T.cur T.data 0 0 (splitB path)):=⟨_,rfl⟩;rw[<-hfe]at oN hfs hrx;cases fe with
  |some k=>
   obtain⟨hk0,acW⟩:=hfs k rfl;have hg:=Lh (fun tm W a=>oZ.out tm W a k hrx.out.symm hk0 acW);clear hfs hfe hct hln hk0 acW oZ hn4;simp only at oN;obtain⟨sv,hsv⟩:∃sv,sv=aC path:=⟨_,rfl⟩;unfold aC at*;rw[hbw]at*
   go_enter_defers Tryz.func79,Tryz.ntmps79
   go_wp2_with(first |(go_at_call 53;refine haw.mono ?_;rintro e w9 ⟨rfl,a9,eP,h9⟩;rw[<-hZ]at h9;replace eP:=Lh eP;clear haw)|(go_at_call 68;refine(hpl.out _).mono ?_;rintro e w8 ⟨rfl,BI⟩;have BJ:=oN.out _ _ eP.out (h9.pure BI);clear h9 BI hpl)|(go_at_call 107;refine BJ.mono ?_;rintro e w7 ⟨rfl,a7,VM,h7⟩;clear BJ));exact hg.out _ _ _ VM h7 rfl rfl
  |none=>
   obtain⟨hr0,hr1⟩:=rR hfe.symm;obtain⟨d,m,hdl,FK,hre⟩:=hln hr0 hr1;(have hso:statOf T path=IK (aG T.cur m).kind (aG T.cur m).mode (aG T.cur m).links (aG T.cur m).size (m+1:Nat):=by unfold statOf;rw[hrx.out,hre];simp);have IE:=Lh (hct.out m FK);(have hm5:(m:Int)<5000:=by omega);replace hso:=Lh hso;rw[hre]at oN;clear hfs hfe hct hln hr0 hr1 oZ FK hdl hre hn4;simp only[NZ]at oN hrx;obtain⟨⟨ik,im,il,is,isp⟩,hin⟩:∃x,x=aG T.cur m:=⟨_,rfl⟩;rw[<-hin]at IE hso;simp only[fJ,aN]at IE hso;clear hin;obtain⟨sv,hsv⟩:∃sv,sv=aC path:=⟨_,rfl⟩;unfold aC at*;rw[hbw]at*
   go_enter_defers Tryz.func79,Tryz.ntmps79
   go_wp2_with(first |(go_at_call 53;refine haw.mono ?_;rintro e w9 ⟨rfl,a9,eP,h9⟩;rw[<-hZ]at h9;replace eP:=Lh eP;clear haw)|(go_at_call 68;refine(hpl.out _).mono ?_;rintro e w8 ⟨rfl,BI⟩;have BJ:=oN.out _ _ eP.out (h9.pure BI);clear h9 BI hpl)|(go_at_call 107;refine BJ.mono ?_;rintro e w7 ⟨rfl,a7,VM,h7⟩;have hc7:=IE.out _ _ VM h7;clear BJ h7 IE VM)|(go_at_call 72;refine hc7.mono ?_;rintro e w6 ⟨A6,n6,c6,a6,rfl,LP,h6⟩;(have h5:=h6.bN 129 #[iV (ik:Nat),iV (im:Nat),iV (il:Nat),iV (is:Nat),.slice A6 n6 c6]);(have x0:=h5.bC 0 rfl 0);(have x1:=h5.bC 0 rfl 1);(have x2:=h5.bC 0 rfl 2);(have x3:=h5.bC 0 rfl 3);rw[hZ]at h5;(obtain⟨⟨y0,z0⟩,⟨y1,z1⟩,⟨y2,z2⟩,⟨y3,z3⟩,⟨y4,z4⟩,h4⟩:=h5.azR (.int .i64 (ik:Nat)) (.int .i64 (im:Nat)) (.int .i64 (il:Nat)) (.int .i64 (is:Nat)) (.int .i64 ((m:Int)+1)) 3 rfl);(have k1:=h4.bC 2 rfl 0);(have k2:=h4.bF 2 rfl 0);simp only[gA,gB,gC,NW,JN]at k1 x0 x1 x2 x3;clear hc7 h5 h6;replace LP:=Lh LP;replace h4:=Lh h4));refine kQ ?_;have h10:=h4.out.bS 2 rfl 0 (.int .i64 0);refine⟨_,hres.out _ _ 0 _ _ _ _ _ [_,aF f q p T a6] rfl rfl h10,?_,?_⟩
   ·rw[hso.out,hrx.out];rfl
   have h11:Sep w0 _ ([_,aJ (w.heap.size+1) 0,_]++(aF f q p T a6::R)):=Sep.dE [0,2,3,1] h10 aV (by simp[aJ]);exact qZ LP.out hb (h11.drop 3)
 have hrx:xJ T path=dV path:=by unfold xJ;rw[if_neg h0]
 have hg:=Lh (fun tm W a=>oZ.out tm W a (dV path) hrx.symm h0 hpw);rw[if_neg h0]at hpl;clear hfl hct hln oZ hfs hpw hn4;obtain⟨sv,hsv⟩:∃sv,sv=aC path:=⟨_,rfl⟩;unfold aC at*;rw[hbw]at*
 go_enter_defers Tryz.func79,Tryz.ntmps79
 go_wp2_with(first |(go_at_call 53;refine haw.mono ?_;rintro e w9 ⟨rfl,a9,eP,h9⟩;rw[<-hZ]at h9;replace eP:=Lh eP;clear haw)|(go_at_call 68;refine(hpl.out _).mono ?_;rintro e w8 ⟨rfl,BI⟩;replace h9:=h9.pure BI;clear BI hpl));exact hg.out _ _ _ eP.out h9 rfl rfl
end
end Go.Proofs.YtmjomdkleikgbaaGreat
namespace Go.Proofs.YtmjomdkleikgbaaGreat
theorem yL {f:Nat->Int} {n:Nat} {a b:Int} (h:∀i<n,a<=f i/\f i<=b):a*n<=uT f n/\uT f n<=b*n:=by
 induction n with
 |zero=>simp[uT]
 |succ n ih=>rw[oU];(have h1:=ih fun i hi=>h i aD);have h2:=h n aD;push_cast;rw[Int.mul_add,Int.mul_add];omega
theorem LI.azS {x:LI} (h:x.fair):0<=eD x.kind x.size/\eD x.kind x.size<=28:=by
 unfold eD;have h1:=h.few;have h2:=h.short;by_cases k1:x.kind=1
 ·rw[if_pos k1,uW k1];omega
 rw[if_neg k1];by_cases k2:x.kind=2
 ·(have e:x.size=x.data.length:=by unfold LI.size;rw[if_neg k1]);rw[if_pos k2,e];split<;>omega
 rw[if_neg k2];omega
section
variable {S:VS} {g:LT}
theorem dC.nW (h:dC S g):S.names<=1024:=h.use.vf.names
theorem dC.agR (h:dC S g):0<=S.wB/\S.wB<=28*S.names/\0<=S.wI/\S.wI<=S.names:=by
 have h1:=yL (f:=fun n=>eD (g n).kind (g n).size) (n:=S.names) (a:=0) (b:=28) fun i hi=>LI.azS (h.fair i hi)
 have h2:=yL (f:=fun n=>nQ (g n).kind) (n:=S.names) (a:=0) (b:=1) fun i _=>ZE
 rw[h.wB,h.wI];omega
theorem dC.sw (h:dC S g):gL S:=by have:=h.agR;have:=h.nW;exact⟨by omega,by omega,by omega,by omega⟩
theorem dC.aqK (h:dC S g):0<=S.nodes/\S.nodes<=448*S.names:=by
 have h1:=yL (f:=fun n=>((g n).bG.length:Int)) (n:=S.names) (a:=0) (b:=448) fun i hi=>⟨by omega,by have:=(h.fair i hi).few;omega⟩
 rw[h.nodes];omega
theorem dC.sv (h:dC S g):lT S:=by have:=h.aqK;have:=h.nW;exact⟨h.sw,by omega,by omega⟩
theorem dC.acX (h:dC S g) {n:Nat} (hn:n<S.names):pW S n:=⟨hn,h.few hn,h.lt n hn⟩
theorem dC.aDT (h:dC S g):P7 S.cur S.names:=fun n hn=>h.few hn
theorem acY {f:Nat->Int} {n:Nat} (h:∀i<n,0<=f i):0<=uT f n:=by
 induction n with
 |zero=>exact OO _
 |succ n ih=>rw[oU];(have h1:=ih fun i hi=>h i aD);have h2:=h n aD;omega
theorem UD {g:LT} {n d:Nat} (hd:d<n):((g d).bG.length:Int)<=uT (fun i=>((g i).bG.length:Int)) n:=by
 have h1:=AZ (f:=fun i=>((g i).bG.length:Int)) (g:=fun i=>if i=d then 0 else((g i).bG.length:Int)) hd fun i _ e=>if_neg e
 have h2:=acY (f:=fun i=>if i=d then(0:Int)else((g i).bG.length:Int)) (n:=n) fun i hi=>by split<;>omega
 simp only[if_pos]at h1;omega
theorem dC.ZF (h:dC S g) {d:Nat} (hd:d<S.names):((g d).bG.length:Int)<=S.nodes:=by rw[h.nodes];exact UD hd
theorem amJ (h:dC S g) {n i:Nat} (hn:n<S.names) (hi:i<16*(aG S.cur n).aB.length):(gT S.cur S.data (aG S.cur n) i).length=32:=by unfold gT zP;have hs:=h.lt n hn _ (uV (l:=(aG S.cur n).aB) (a:=i/16) aD);have hl:=jT h.use.cur (h.use.room hs);rw[qL,rU,hl];omega
theorem dC.ayM (h:dC S g) {n:Nat} (hn:n<S.names) (hk:(g n).kind=1):GX S (aG S.cur n):=by
 have hroom:=h.YV hn hk;refine⟨h.few hn,hroom,h.lt n hn,fun i hi=>?_⟩;have he:=h.bG n hn hk;have hl:=amJ h hn (i:=i) aD;have hm:sQ (jU S.cur S.data (aG S.cur n)) i∈(g n).bG:=by rw[he];exact NI (by rw[<-he,AO];exact hi)
 have h15:=((h.fair n hn).names _ hm).1;rw[CR hi]at h15;simp only[enN,qL,rU,hl]at h15;omega
structure Vol (S:VS) (g:LT):Prop where
 ph:dC S g
 ent:∀n<S.names,∀e∈(g n).bG,e.2<S.names
 root:(g 0).kind=1
 few:S.nodes<=256
 rB:S.rB=S.count
 rI:S.rI=S.names
theorem Vol.vw (h:Vol S g):VW S:=
 ⟨h.ph.use.vf,h.ph.n0,fun n hn=>h.ph.few hn,fun n hn=>h.ph.lt n hn,fun n hn hk=>h.ph.ayM hn (by rw[<-h.ph.kind hn];exact hk),fun n hn hk e he=>by(have hk1:(g n).kind=1:=by rw[<-h.ph.kind hn];exact hk);rw[h.ph.bG n hn hk1]at he;exact⟨h.ent n hn e he,((h.ph.fair n hn).names e he).1⟩⟩
theorem Vol.aqL (h:Vol S g):(aG S.cur 0).kind=1:=by rw[h.ph.kind h.ph.n0];exact h.root
theorem Vol.acZ (h:Vol S g):∀m<S.names,(aG S.cur m).kind≠1->(aG S.cur m).size<=512*(aG S.cur m).aB.length:=fun m hm hk=>by
 rw[h.ph.size hm,h.ph.len m hm];rw[h.ph.kind hm]at hk;have hf:=h.ph.fair m hm;unfold LI.size LI.need;rw[if_neg hk,if_neg hk];by_cases k2:(g m).kind=2
 ·rw[if_pos k2];omega
 rw[hf.data k2];simp
theorem dC.ZG (h:dC S g) {dir i:Nat} {name:List UInt8} (hd:dir<S.names) (hk:(g dir).kind=1) (hn:name.length<=15) (hi:i<(g dir).bG.length) (hf:(kG (g dir).bG name).1=i):vY S dir name:=by
 have he:=h.bG dir hd hk;have hsz:(aG S.cur dir).size=(g dir).bG.length:=by rw[h.size hd,uW hk]
 refine⟨hd,h.ayM hd hk,hn,⟨i,by rw[hsz];exact hi,by rw[he];exact hf⟩,?_,?_⟩
 ·rw[he,hsz];exact((h.fair dir hd).names _ (NI aD)).1
 rw[h.len dir hd,kY hk,hsz]
theorem dC.NJ (h:dC S g) {dir n:Nat} {name:List UInt8} (hd:dir<S.names) (hk:(g dir).kind=1) (hsz:(g dir).bG.length<448) (hn:name.length<=15) (hm:n<=65535):oF S dir n name:=
 ⟨h.acX hd,by rw[h.size hd,uW hk];exact hsz,hn,hm⟩
theorem nX {z:Int} (h0: -10000000<=z) (h1:z<=10000000):bK z:=by unfold bK;omega
theorem dC.IL {S1:VS} {g1:LT} (hr:S.rB=S.count/\S.rI=S.names) (hu:dY S) (hL:eZ S S1) (h1:dC S1 g1) (hm:S1.m<=40):nU S S1:=by
 have h2:=h1.agR;have h3:=h1.nW;have h4:=hu.nb;have h5:=hL.rB;have h6:=hL.rI;have h7:(S.count:Int)<=4096:=by unfold VS.count;omega
 have h8:=hu.vf.names;refine⟨hL,hm,nX aD aD,nX aD aD,nX ?_ ?_,nX ?_ ?_⟩
 ·rw[h5,hr.1];omega
 ·rw[h5,hr.1];omega
 ·rw[h6,hr.2];omega
 rw[h6,hr.2];omega
theorem dC.NK (h:dC S g) {dir n:Nat} {name:List UInt8} (hd:dir<S.names) (hk:(g dir).kind=1) {S1:VS} (he:gV S dir name n=some S1):S1.m<=S.m+3:=by
 unfold gV at he;have hsz:(aG S.cur dir).size=(g dir).bG.length:=by rw[h.size hd,uW hk]
 have hl:(aG S.cur dir).aB.length=max 1 (((g dir).bG.length+15)/16):=by rw[h.len dir hd,kY hk]
 split at he
 ·cases he
 rename_i S2 l hf;cases he;have:=(jQ hf).1.m;show S2.m+1+1<=_
 rw[this];show S.m+_+1+1<=_
 rw[hsz,hl];omega
theorem dC.avQ (h:dC S g) {dir:Nat} {name:List UInt8} (hd:dir<S.names) (hk:(g dir).kind=1):(cO S dir name).m<=S.m+4:=by
 have hsz:(aG S.cur dir).size=(g dir).bG.length:=by rw[h.size hd,uW hk]
 have hl:(aG S.cur dir).aB.length=max 1 (((g dir).bG.length+15)/16):=by rw[h.len dir hd,kY hk]
 unfold cO;simp only;have h2:=(LM S (aG S.cur dir) name).m;split
 ·omega
 rename_i S4 l hf;have:=(jQ hf).1.m;show S4.m+1<=_
 rw[this];show(FE S (aG S.cur dir) name).m+_+1<=_
 rw[h2,hsz,hl];omega
theorem aqM (S:VS) (n:Nat):(mP S n).m<=S.m+(aG S.cur n).aB.length+1:=by
 obtain⟨S1,h1,h2⟩:=AY (S:=S) (n:=n);rw[h2];have:=(jQ h1).1.m;show S1.m+1<=_
 omega
theorem azT {S1:VS} {n:Nat} {bs:List UInt8} (hf:mM S n bs=some S1):S1.m<=S.m+(aG S.cur n).aB.length+2*((bs.length+511)/512)+1:=by
 unfold mM at hf;split at hf
 ·cases hf
 rename_i S2 l h1;cases hf;have h2:=(jQ h1);have h3:=(qR bs l 0 S2).m;show(mK bs l 0 S2).m+1<=_
 rw[h3,h2.1.m,h2.2];omega
end
structure TN where
 path:List UInt8
 file:Int
 mode:Int
deriving DecidableEq
abbrev Key :=List (List UInt8)
def qM (L:uL) (name:List UInt8):Option Nat:=(L.find? fun e=>e.1==name).map (·.2)
theorem BK (L:uL) (name:List UInt8):(∃i,i<L.length/\sQ L i=(name,(kG L name).2)/\(kG L name).1=(i:Int)/\qM L name=some (kG L name).2)\/(kG L name=(-1,0)/\qM L name=none):=by
 unfold kG qM;cases h:L.findIdx? fun e=>e.1==name with
 |none=>right;rw[aa7]at h;refine⟨rfl,?_⟩;rw[YD,wL];intro x hx;rw[Bool.not_eq_true];exact h x hx
 |some i=>
  left;dsimp only;rw[aaY]at h;obtain⟨h1,h2,h3⟩:=h;(have e1:L.getD i ([],0)=L[i]:=by rw[gH,gE h1];rfl);(have e2:L[i].1=name:=by simpa using h2);refine⟨i,h1,?_,rfl,?_⟩
  ·unfold sQ;rw[e1,<-e2]
  rw[OA];refine⟨L[i],?_,by rw[e1]⟩;rw[List.find?_eq_some_iff_getElem];exact⟨h2,i,h1,rfl,fun j hj=>by simpa using h3 j hj⟩
theorem Z47 {P:Prop} (h:P:=by have:=hp j i (by simpa using hj) (by simpa using hi) h5;simp only[GM,e1,e2]at this;exact absurd e.symm this):P:=h
theorem Z68 {P:Prop} (h:P:=by have:=hp i j (by simpa using hi) (by simpa using hj) h5;simp only[GM,e1,e2]at this;exact absurd e this):P:=h
theorem agS {L M:uL} (h:L.Perm M) (hn:(M.map (·.1)).Nodup) (name:List UInt8):qM L name=qM M name:=by
 have hnL:(L.map (·.1)).Nodup:=(h.map _).nodup_iff.2 hn;have key:∀(A:uL),(A.map (·.1)).Nodup->∀c,qM A name=some c↔(name,c)∈A:=fun A hA c=>by
  unfold qM;rw[OA];constructor
  ·rintro⟨x,h1,h2⟩;have h3:=GN h1;have h4:=TJ h1;(have e:x.1=name:=by simpa using h3);rw[<-e,<-h2];exact h4
  intro hm;cases hf:A.find? fun e=>e.1==name with
  |none=>have:=wL.1 hf _ hm;simp at this
  |some x=>
   have h3:=GN hf;have h4:=TJ hf;(have e:x.1=name:=by simpa using h3);refine⟨x,rfl,?_⟩;obtain⟨i,hi,e1⟩:=List.mem_iff_getElem.1 h4;obtain⟨j,hj,e2⟩:=List.mem_iff_getElem.1 hm;have hp:=EK.1 hA;rcases TM i j with h5|h5|h5
   ·exact Z68
   ·subst h5;rw[e1]at e2;rw[e2]
   exact Z47
 cases hM:qM M name with
 |some c=>rw[key L hnL];exact h.mem_iff.2 ((key M hn c).1 hM)
 |none=>
  cases hL:qM L name with
  |none=>rfl
  |some c=>have:=(key M hn c).2 (h.mem_iff.1 ((key L hnL c).1 hL));rw[hM]at this;cases this
def IM (g:LT):Nat->Key->Except Int Nat
 |n,[]=>.ok n
 |n,x::l=>if(g n).kind=1 then(match qM (g n).bG x with|some c=>IM g c l|none=>.error 21)else .error 22
def stepG (g:LT) (x:List UInt8) (n:Nat):Except Int Nat:=if(g n).kind=1 then(match qM (g n).bG x with|some c=>.ok c|none=>.error 21)else .error 22
theorem QO (g:LT) (x:List UInt8):∀(l:Key) (n:Nat),IM g n (l++[x])=(IM g n l).bind (stepG g x)
 |[],n=>by
  (show IM g n [x]=stepG g x n);unfold IM stepG;split
  ·split<;>rfl
  rfl
 |y::l,n=>by
  rw[kW];unfold IM;split
  ·split
   ·exact QO g x l _
   rfl
  rfl
def aqN (g:LT) (b:List UInt8):Except Int Nat->Int×Int×Int
 | .error e=>(0,0,e)
 | .ok m=>if(g m).kind=1 then(match qM (g m).bG b with|some c=>((m:Int),(c:Int),0)|none=>((m:Int), -1,0))else(0,0,22)
theorem QP {S:VS} {g:LT} (h:Vol S g) (b:List UInt8):∀(l:Key) (dir n:Nat),n<S.names->aS S.cur S.data dir n (l++[b])=aqN g b (IM g n l)
 |[],dir,n,hn=>by
  (show aS S.cur S.data dir n [b]=(if(g n).kind=1 then(match qM (g n).bG b with|some c=>((n:Int),(c:Int),(0:Int))|none=>((n:Int),(-1:Int),(0:Int)))else((0:Int),(0:Int),(22:Int))));unfold aS;rw[h.ph.kind hn];by_cases hk:(g n).kind=1
  ·rw[if_pos hk,if_pos hk,h.ph.bG n hn hk];rcases BK (g n).bG b with⟨i,_,_,h3,h4⟩|⟨h3,h4⟩
   ·rw[h3,h4,if_pos aD];rfl
   rw[h3,h4,if_neg aV];rfl
  rw[if_neg hk,if_neg hk]
 |x::l,dir,n,hn=>by
  rw[kW];unfold aS IM;rw[h.ph.kind hn];by_cases hk:(g n).kind=1
  ·rw[if_pos hk,if_pos hk,h.ph.bG n hn hk];rcases BK (g n).bG x with⟨i,h1,h2,h3,h4⟩|⟨h3,h4⟩
   ·rw[h3,h4,if_pos aD];refine QP h b l n _ ?_;have:=h.ent n hn _ (NI h1);rw[h2]at this;exact this
   rw[h3,h4,if_neg aV,if_neg bL];rfl
  rw[if_neg hk,if_neg hk];rfl
theorem yM (p:List UInt8):splitB p=(splitB p).dropLast++[aL p]:=by unfold aL;have h:=gK p;rw[List.getLastD_eq_getLast?,List.getLast?_eq_some_getLast h];exact(List.dropLast_concat_getLast h).symm
structure FT where
 mode:Int
 bs:List UInt8
def bD (n:TN):Key:=splitB n.path
def dD (dn:Key->Nat) (φ:Int->Nat) (n:TN):Nat:=if n.file= -1 then dn (bD n)else φ n.file
def eX (ns:List TN) (K:Key):List TN:=ns.filter fun n=>(bD n).dropLast==K
def dI (ns:List TN) (K:Key):Prop:=K=[]\/∃n∈ns,bD n=K/\n.file= -1
structure lY (g:LT) (nm:Nat) (ns:List TN) (fs:List FT) (dn:Key->Nat) (φ:Int->Nat):Prop where
 n0:0<nm
 root:dn []=0
 rk:(g 0).kind=1
 uniq:(ns.map bD).Nodup
 up:∀n∈ns,dI ns (bD n).dropLast
 dir:∀n∈ns,n.file= -1->dn (bD n)<nm/\(g (dn (bD n))).kind=1/\((g (dn (bD n))).mode:Int)=n.mode/\(g (dn (bD n))).links=1
 file:∀n∈ns,n.file≠ -1->0<=n.file/\φ n.file<nm/\(g (φ n.file)).kind=2/\(∃f,fs[n.file.toNat]? =some f/\((g (φ n.file)).mode:Int)=f.mode/\(g (φ n.file)).data=f.bs)/\(g (φ n.file)).links=ns.countP fun m=>decide (m.file=n.file)
 ne0:∀n∈ns,dD dn φ n≠0
 inj:∀n∈ns,∀m∈ns,dD dn φ n=dD dn φ m->n=m\/(n.file≠ -1/\n.file=m.file)
 cover:∀i<nm,(g i).kind≠0->i=0\/∃n∈ns,dD dn φ n=i
 bG:∀K,dI ns K->(g (dn K)).bG.Perm ((eX ns K).map fun n=>((bD n).getLastD [],dD dn φ n))
def kK (ns:List TN) (K:Key):Option TN:=ns.find? fun n=>bD n==K
def lC :Option TN->Bool
 |none=>true
 |some n=>decide (n.file= -1)
def agU (dn:Key->Nat) (φ:Int->Nat):Option TN->Nat
 |none=>0
 |some n=>dD dn φ n
def stepT (ns:List TN) (K:Key) (c:Option TN):Except Int (Option TN):=if lC c=true then(match kK ns K with|some n=>.ok (some n)|none=>.error 21)else .error 22
def nY (ns:List TN):Nat->Key->Except Int (Option TN)
 |0,_=>.ok none
 |k+1,K=>(nY ns k K.dropLast).bind (stepT ns K)
theorem eQ {ns:List TN} {K:Key} {n:TN} (h:kK ns K=some n):n∈ns/\bD n=K:=
 ⟨TJ h,by simpa using GN h⟩
theorem key_inj {ns:List TN} (h:(ns.map bD).Nodup) {n m:TN} (hn:n∈ns) (hm:m∈ns) (e:bD n=bD m):n=m:=by
 obtain⟨i,hi,e1⟩:=List.mem_iff_getElem.1 hn;obtain⟨j,hj,e2⟩:=List.mem_iff_getElem.1 hm;have hp:=EK.1 h;rcases TM i j with h5|h5|h5
 ·exact Z68
 ·subst h5;rw[<-e1,<-e2]
 exact Z47
theorem DJ {ns:List TN} (h:(ns.map bD).Nodup) {n:TN} (hn:n∈ns):kK ns (bD n)=some n:=by
 cases hf:kK ns (bD n)with
 |none=>have:=wL.1 hf n hn;simp at this
 |some m=>obtain⟨h1,h2⟩:=eQ hf;rw[key_inj h h1 hn h2]
theorem ZH (n:TN):bD n≠[]:=gK _
theorem FO (n:TN):bD n=(bD n).dropLast++[(bD n).getLastD []]:=yM n.path
section
variable {g:LT} {nm:Nat} {ns:List TN} {fs:List FT} {dn:Key->Nat} {φ:Int->Nat}
theorem agV (h:(ns.map bD).Nodup) (K:Key):(((eX ns K).map fun n=>((bD n).getLastD [],dD dn φ n)).map (·.1)).Nodup:=by
 rw[qJ];have h1:((eX ns K).map bD).Nodup:=h.sublist (abC _ GR);have h2:∀n∈eX ns K,bD n=K++[(bD n).getLastD []]:=fun n hn=>by
  have:=(List.mem_filter.1 hn).2;have e:(bD n).dropLast=K:=by simpa using this
  conv=>lhs;rw[FO n,e]
 rw[aa6,GJ]at h1 ⊢;refine ao4 (fun {a b} ha hb hab e=>hab ?_) h1;have e2:(bD a).getLastD []=(bD b).getLastD []:=e;rw[h2 a ha,h2 b hb,e2]
theorem lY.find (h:lY g nm ns fs dn φ) {K:Key} (hK:dI ns K) (b:List UInt8):qM (g (dn K)).bG b=(kK ns (K++[b])).map (dD dn φ):=by
 have hu:=agV (dn:=dn) (φ:=φ) h.uniq K;rw[agS (h.bG K hK) hu];cases hn:kK ns (K++[b])with
 |some n=>
  obtain⟨h1,h2⟩:=eQ hn;have hk:n∈eX ns K:=List.mem_filter.2 ⟨h1,by rw[h2,TK];simp⟩;(have hm:(b,dD dn φ n)∈(eX ns K).map fun n=>((bD n).getLastD [],dD dn φ n):=List.mem_map.2 ⟨n,hk,by rw[h2];simp⟩);unfold qM;cases hf:((eX ns K).map fun n=>((bD n).getLastD [],dD dn φ n)).find? fun e=>e.1==b with
  |none=>have:=wL.1 hf _ hm;simp at this
  |some x=>have h3:=TJ hf;(have h4:x.1=b:=by simpa using GN hf);obtain⟨m,hm1,hm2⟩:=List.mem_map.1 h3;(have e1:(bD m).getLastD []=b:=by rw[<-h4,<-hm2]);(have e2:(bD m).dropLast=K:=by simpa using(List.mem_filter.1 hm1).2);(have e3:bD m=bD n:=by rw[h2,FO m,e1,e2]);have:=key_inj h.uniq (List.mem_filter.1 hm1).1 h1 e3;rw[<-hm2,this];rfl
 |none=>unfold qM;rw[abD,YD,wL];intro x hx hb;obtain⟨m,hm1,hm2⟩:=List.mem_map.1 hx;(have e1:(bD m).getLastD []=b:=by rw[<-hm2]at hb;simpa using hb);(have e2:(bD m).dropLast=K:=by simpa using(List.mem_filter.1 hm1).2);(have e3:bD m=K++[b]:=by rw[FO m,e1,e2]);have:=wL.1 hn m (List.mem_filter.1 hm1).1;simp[e3]at this
theorem xK (h:lY g nm ns fs dn φ) {K:Key} {c:Option TN} (hc:nY ns K.length K= .ok c):(c=none/\K=[])\/∃n,c=some n/\n∈ns/\bD n=K:=by
 rcases aa2 K with e|⟨l,x,e⟩
 ·subst e;cases hc;exact .inl ⟨rfl,rfl⟩
 rw[aa3]at e;subst e;rw[jL,oK]at hc;unfold nY at hc;cases h1:nY ns l.length (l++[x]).dropLast with
 |error e=>rw[h1]at hc;cases hc
 |ok d=>
  rw[h1]at hc;change stepT ns (l++[x]) d= .ok c at hc;unfold stepT at hc;split at hc
  ·split at hc
   ·rename_i n hn;cases hc;obtain⟨h2,h3⟩:=eQ hn;exact .inr ⟨n,rfl,h2,h3⟩
   cases hc
  cases hc
theorem lY.walk (h:lY g nm ns fs dn φ):∀(k:Nat) (K:Key),K.length=k->IM g 0 K=(nY ns k K).map (agU dn φ)
 |0,K,hl=>by obtain rfl:K=[]:=vL hl;rfl
 |k+1,K,hl=>by
  rcases aa2 K with e|⟨l,x,e⟩
  ·subst e;cases hl
  rw[aa3]at e;subst e;rw[jL,oK]at hl;(have hlk:l.length=k:=by omega);have ih:=lY.walk h k l hlk;rw[QO,ih];(show _=Except.map (agU dn φ) ((nY ns k (l++[x]).dropLast).bind (stepT ns (l++[x]))));rw[TK];cases h1:nY ns k l with
  |error e=>rfl
  |ok c=>
   (show stepG g x (agU dn φ c)=(stepT ns (l++[x]) c).map (agU dn φ));rw[<-hlk]at h1;rcases xK h h1 with⟨rfl,rfl⟩|⟨n,rfl,hn1,hn2⟩
   ·unfold stepG stepT;have hf:=h.find (K:=[]) (.inl rfl) x;rw[h.root]at hf;(show(if(g 0).kind=1 then _ else _)=_);rw[if_pos h.rk,if_pos (show lC none=true from rfl)];(show(match qM (g 0).bG x with|some c=>_|none=>_)=_);rw[hf];cases kK ns ([]++[x])<;>rfl
   unfold stepG stepT;(show(if(g (dD dn φ n)).kind=1 then _ else _)=_);by_cases hd:n.file= -1
   ·(have e1:dD dn φ n=dn l:=by unfold dD;rw[if_pos hd,hn2]);have hf:=h.find (K:=l) (.inr ⟨n,hn1,hn2,hd⟩) x;have hk:=(h.dir n hn1 hd).2.1;rw[hn2]at hk;rw[e1,if_pos hk,if_pos (by unfold lC;simp[hd])];(show(match qM (g (dD dn φ n)).bG x with|some c=>_|none=>_)=_);rw[e1,hf];cases kK ns (l++[x])<;>rfl
   (have e1:dD dn φ n=φ n.file:=by unfold dD;rw[if_neg hd]);have hk:=(h.file n hn1 hd).2.2.1;rw[e1,if_neg (by rw[hk];decide),if_neg (by unfold lC;simp[hd])];rfl
theorem KH (n:TN) (K:Key):eX (ns++[n]) K=eX ns K++(if(bD n).dropLast=K then [n]else []):=by
 unfold eX;rw[E9];congr 1;by_cases e:(bD n).dropLast=K
 ·rw[if_pos e];simp[e]
 rw[if_neg e];simp[e]
theorem dI.snoc {K:Key} (h:dI ns K) (n:TN):dI (ns++[n]) K:=by
 rcases h with h|⟨m,hm,h⟩
 ·exact .inl h
 exact .inr ⟨m,vN _ hm,h⟩
theorem lY.zU (h:lY g nm ns fs dn φ) {K:Key} (hK:dI ns K):dn K<nm/\(g (dn K)).kind=1:=by
 rcases hK with e|⟨n,hn,e,hf⟩
 ·rw[e,h.root];exact⟨h.n0,h.rk⟩
 have:=h.dir n hn hf;rw[e]at this;exact⟨this.1,this.2.1⟩
theorem lY.ZI (h:lY g nm ns fs dn φ) {K L:Key} (hK:dI ns K) (hL:dI ns L) (e:dn K=dn L):K=L:=by
 have key:∀n∈ns,n.file= -1->dD dn φ n=dn (bD n):=fun n _ hf=>by unfold dD;rw[if_pos hf]
 rcases hK with e1|⟨n,hn,e1,hf1⟩
 ·rcases hL with e2|⟨m,hm,e2,hf2⟩
  ·rw[e1,e2]
  have:=h.ne0 m hm;rw[key m hm hf2,e2,<-e,e1,h.root]at this;exact absurd rfl this
 rcases hL with e2|⟨m,hm,e2,hf2⟩
 ·have:=h.ne0 n hn;rw[key n hn hf1,e1,e,e2,h.root]at this;exact absurd rfl this
 rcases h.inj n hn m hm (by rw[key n hn hf1,key m hm hf2,e1,e2,e])with h1|h1
 ·rw[<-e1,<-e2,h1]
 exact absurd hf1 h1.1
theorem lY.MG (h:lY g nm ns fs dn φ) {n:TN} (hn:n∈ns):dD dn φ n<nm/\((n.file= -1/\(g (dD dn φ n)).kind=1)\/(n.file≠ -1/\(g (dD dn φ n)).kind=2)):=by
 unfold dD;by_cases hf:n.file= -1
 ·rw[if_pos hf];exact⟨(h.dir n hn hf).1,.inl ⟨hf,(h.dir n hn hf).2.1⟩⟩
 rw[if_neg hf];exact⟨(h.file n hn hf).2.1,.inr ⟨hf,(h.file n hn hf).2.2.1⟩⟩
theorem lY.aj1 (h:lY g nm ns fs dn φ) {n:TN} (hn:n∈ns) (hf:n.file≠ -1):0<=n.file/\n.file<fs.length:=by obtain⟨h1,_,_,⟨f,h2,_⟩,_⟩:=h.file n hn hf;have:=(gF.1 h2).1;omega
theorem uY {K:Key} (h:kK ns K=none):∀n∈ns,bD n≠K:=fun n hn e=>by have:=wL.1 h n hn;simp[e]at this
theorem lY.avR (h:lY g nm ns fs dn φ) {K:Key} (hK:K≠[]) (hno:kK ns K=none):eX ns K=[]:=by
 unfold eX;rw[ai3];intro n hn hk;have e:(bD n).dropLast=K:=by simpa using hk
 rcases h.up n hn with h1|⟨m,hm,h1,_⟩
 ·exact hK (by rw[<-e,h1])
 exact uY hno m hm (by rw[h1,e])
theorem BL {K:Key} (hK:K≠[]):K.dropLast≠K:=fun e=>by have:=congrArg List.length e;rw[aaW]at this;have:0<K.length:=List.length_pos_iff.2 hK;omega
theorem Z6 {P:Prop} (h:P:=by
 by_cases e:P=K
 ·subst e;rw[if_pos (by rw[hk0];exact hPe.symm),<-hd,gd];(show((g d).bG++[(aL p,i)]).Perm _);rw[<-hd]at hE;refine hE.append ?_;rw[MN,i0,hk0];exact EJ _
 rw[if_neg (by rw[hk0,<-hPe];exact e),yX,yX44,go _ (fun e2=>e ?_) (dni K hK')]
 ·exact hE
 exact(h.ZI hK' hP (by rw[e2,hd])).symm):P:=h
theorem Z55 {P:Prop} (h:P:=by
 intro n hn m hm e;rcases mem n hn with hn|en
 ·rcases mem m hm with hm|em
  ·rw[io n hn,io m hm]at e;exact h.inj n hn m hm e
  (try rw[em]at hf);(try rw[em]at e);(try rw[em]);rw[io n hn,i0]at e;exact absurd e (ni n hn)
 try rw[en]at hf
 try rw[en]at e
 try rw[en]
 rcases mem m hm with hm|em
 ·rw[io m hm,i0]at e;exact absurd e.symm (ni m hm)
 try rw[em]at hf
 try rw[em]at e
 try rw[em]
 exact .inl rfl):P:=h
theorem Z71 {P:Prop} (h:P:=by rw[mV,MN,sZ];refine⟨h.uniq,by simp,fun a ha b hb e=>?_⟩;obtain⟨n,hn,e1⟩:=List.mem_map.1 ha;rw[sW]at hb;exact amK n hn (by rw[e1,e,hb,hk0])):P:=h
theorem Z79 {P:Prop} (h:P:=by
 intro m hm hk;by_cases e:m=i
 ·exact .inr ⟨n0,by simp,by rw[i0,e]⟩
 rw[(gk m e).1]at hk;rcases h.cover m hm hk with h1|⟨n,hn,h1⟩
 ·exact .inl h1
 exact .inr ⟨n,vN _ hn,by rw[io n hn,h1]⟩):P:=h
theorem Z82 {P:Prop} (h:P:=by
 by_cases h1:m=d
 ·rw[h1,gd];exact⟨rfl,rfl,rfl,rfl⟩
 rw[go m h1 h2];exact⟨rfl,rfl,rfl,rfl⟩):P:=h
theorem Z84 {P:Prop} (h:P:=by
 rcases hK with e|⟨n,hn,e,hf⟩
 ·exact .inl e
 rcases iN.1 hn with hn|hn
 ·exact .inr ⟨n,hn,e,hf⟩
 rw[sW]at hn;rw[hn]at hf;exact absurd hf hne1):P:=h
theorem Z86 {P:Prop} (h:P:=by
 intro n hn;rcases mem n hn with hn|en
 ·exact(h.up n hn).snoc _
 try rw[en]at hf
 try rw[en]at e
 try rw[en]
 rw[hk0,<-hPe];exact hP.snoc _):P:=h
theorem Z87 {P:Prop} (h:P:=by
 intro n hn;rcases mem n hn with hn|en
 ·rw[io n hn];exact h.ne0 n hn
 try rw[en]at hf
 try rw[en]at e
 try rw[en]
 rw[i0];exact hi0):P:=h
theorem lY.avS (h:lY g nm ns fs dn φ) {p:List UInt8} {i mode:Nat} {bs:List UInt8} (hi:i<nm) (h0:(g i).kind=0) (hP:dI ns (splitB p).dropLast) (hno:kK ns (splitB p)=none):
  lY (dO (dO g i ⟨2,mode,1,[],bs⟩) (dn (splitB p).dropLast) ((g (dn (splitB p).dropLast)).more (aL p) i)) nm (ns++[⟨p,fs.length,0⟩]) (fs++[⟨mode,bs⟩]) dn (fun k:Int=>if k=(fs.length:Int)then i else φ k):=by
 obtain⟨P,hPe⟩:∃P,P=(splitB p).dropLast:=⟨_,rfl⟩;rw[<-hPe]at hP ⊢;obtain⟨hd1,hd2⟩:=h.zU hP;obtain⟨d,hd⟩:∃d,d=dn P:=⟨_,rfl⟩;rw[<-hd]at hd1 hd2 ⊢;obtain⟨n0,hn0⟩:∃n0:TN,n0=⟨p,fs.length,0⟩:=⟨_,rfl⟩;have hk0:bD n0=splitB p:=by rw[hn0];rfl
 have hf0:n0.file=fs.length:=by rw[hn0]
 have hne1:n0.file≠ -1:=by rw[hf0];omega
 rw[<-hn0];obtain⟨ψ,hψ⟩:∃ψ:Int->Nat,ψ=fun k:Int=>if k=(fs.length:Int)then i else φ k:=⟨_,rfl⟩
 rw[<-hψ];obtain⟨g',hg'⟩:∃g',g'=dO (dO g i ⟨2,mode,1,[],bs⟩) d ((g d).more (aL p) i):=⟨_,rfl⟩;rw[<-hg'];have hid:i≠d:=fun e=>by rw[e,hd2]at h0;cases h0
 have hi0:i≠0:=fun e=>by rw[e,h.rk]at h0;cases h0
 have gd:g' d=(g d).more (aL p) i:=by rw[hg',bM]
 have gi:g' i=⟨2,mode,1,[],bs⟩:=by rw[hg',bT _ _ hid,bM]
 have go:∀m,m≠d->m≠i->g' m=g m:=fun m h1 h2=>by rw[hg',bT _ _ h1,bT _ _ h2]
 have gk:∀m,m≠i->(g' m).kind=(g m).kind/\(g' m).mode=(g m).mode/\(g' m).links=(g m).links/\(g' m).data=(g m).data:=fun m h2=>by exact Z82
 have ψo:∀n∈ns,n.file≠ -1->ψ n.file=φ n.file:=fun n hn hf=>by rw[hψ];exact if_neg (by have:=(h.aj1 hn hf).2;omega)
 have io:∀n∈ns,dD dn ψ n=dD dn φ n:=fun n hn=>by
  unfold dD;by_cases hf:n.file= -1
  ·rw[if_pos hf,if_pos hf]
  rw[if_neg hf,if_neg hf,ψo n hn hf]
 have i0:dD dn ψ n0=i:=by unfold dD;rw[if_neg hne1,hψ];exact if_pos hf0
 have ni:∀n∈ns,dD dn φ n≠i:=fun n hn e=>by rcases(h.MG hn).2 with⟨_,h1⟩|⟨_,h1⟩<;>rw[e,h0]at h1<;>cases h1
 have dni:∀K,dI ns K->dn K≠i:=fun K hK e=>by have:=(h.zU hK).2;rw[e,h0]at this;cases this
 have amK:=uY hno;have UE:∀K,dI (ns++[n0]) K->dI ns K:=fun K hK=>by exact Z84
 have mem:∀n∈ns++[n0],n∈ns\/n=n0:=fun n hn=>by simpa using hn
 have hnot:∀n∈ns,n.file≠n0.file:=fun n hn e=>by
  by_cases hf:n.file= -1
  ·rw[hf]at e;exact hne1 e.symm
  have:=(h.aj1 hn hf).2;omega
 refine⟨h.n0,h.root,?_,?_,?_,?_,?_,?_,?_,?_,?_⟩
 ·rw[(gk 0 (fun e=>hi0 e.symm)).1];exact h.rk
 ·exact Z71
 ·exact Z86
 ·intro n hn hf;rcases mem n hn with hn|en
  ·have h1:=h.dir n hn hf;have h2:=gk (dn (bD n)) (dni _ (.inr ⟨n,hn,rfl,hf⟩));rw[h2.1,h2.2.1,h2.2.2.1];exact h1
  (try rw[en]at hf);(try rw[en]at e);(try rw[en]);exact absurd hf hne1
 ·intro n hn hf;rcases mem n hn with hn|en
  ·obtain⟨h1,h2,h3,⟨f,h4,h5,h6⟩,h7⟩:=h.file n hn hf;have h8:=gk (φ n.file) (fun e=>by rw[e,h0]at h3;cases h3);rw[ψo n hn hf,h8.1,h8.2.1,h8.2.2.1,h8.2.2.2];refine⟨h1,h2,h3,⟨f,?_,h5,h6⟩,?_⟩
   ·rw[D6 (gF.1 h4).1];exact h4
   rw[h7,ajA];(have e1:[n0].countP (fun m=>decide (m.file=n.file))=0:=by rw[LB,List.countP_nil];simp only[tX,if_neg (fun e:n0.file=n.file=>hnot n hn e.symm)]);rw[e1];rfl
  (try rw[en]at hf);(try rw[en]at e);(try rw[en]);(have e1:ψ n0.file=i:=by rw[hψ];exact if_pos hf0);rw[e1,gi];refine⟨by rw[hf0];omega,hi,rfl,⟨⟨mode,bs⟩,?_,rfl,rfl⟩,?_⟩
  ·rw[hf0,mW,vM (iB _),FB];rfl
  rw[ajA];(have e2:ns.countP (fun m=>decide (m.file=n0.file))=0:=by rw[List.countP_eq_zero];intro m hm;simp[hnot m hm]);rw[e2,LB,List.countP_nil];simp
 ·exact Z87
 ·exact Z55
 ·exact Z79
 intro K hK;have hK':=UE K hK;rw[KH,mV];have e1:(eX ns K).map (fun n=>((bD n).getLastD [],dD dn ψ n))=(eX ns K).map fun n=>((bD n).getLastD [],dD dn φ n):=
  uH fun n hn=>by rw[io n (List.mem_filter.1 hn).1]
 rw[e1];have hE:=h.bG K hK';exact Z6
theorem lY.azU (h:lY g nm ns fs dn φ) {p:List UInt8} {i mode:Nat} (hi:i<nm) (h0:(g i).kind=0) (hP:dI ns (splitB p).dropLast) (hno:kK ns (splitB p)=none):
  lY (dO (dO g i ⟨1,mode,1,[],[]⟩) (dn (splitB p).dropLast) ((g (dn (splitB p).dropLast)).more (aL p) i)) nm (ns++[⟨p, -1,mode⟩]) fs (fun K=>if K=splitB p then i else dn K) φ:=by
 have hpn:splitB p≠[]:=gK p;obtain⟨P,hPe⟩:∃P,P=(splitB p).dropLast:=⟨_,rfl⟩;rw[<-hPe]at hP ⊢;obtain⟨hd1,hd2⟩:=h.zU hP;obtain⟨d,hd⟩:∃d,d=dn P:=⟨_,rfl⟩;rw[<-hd]at hd1 hd2 ⊢;obtain⟨n0,hn0⟩:∃n0:TN,n0=⟨p, -1,mode⟩:=⟨_,rfl⟩;have hk0:bD n0=splitB p:=by rw[hn0];rfl
 have hf0:n0.file= -1:=by rw[hn0]
 rw[<-hn0];obtain⟨dm,hdm⟩:∃dm:Key->Nat,dm=fun K=>if K=splitB p then i else dn K:=⟨_,rfl⟩
 rw[<-hdm];obtain⟨g',hg'⟩:∃g',g'=dO (dO g i ⟨1,mode,1,[],[]⟩) d ((g d).more (aL p) i):=⟨_,rfl⟩;rw[<-hg'];have hid:i≠d:=fun e=>by rw[e,hd2]at h0;cases h0
 have hi0:i≠0:=fun e=>by rw[e,h.rk]at h0;cases h0
 have gd:g' d=(g d).more (aL p) i:=by rw[hg',bM]
 have gi:g' i=⟨1,mode,1,[],[]⟩:=by rw[hg',bT _ _ hid,bM]
 have go:∀m,m≠d->m≠i->g' m=g m:=fun m h1 h2=>by rw[hg',bT _ _ h1,bT _ _ h2]
 have gk:∀m,m≠i->(g' m).kind=(g m).kind/\(g' m).mode=(g m).mode/\(g' m).links=(g m).links/\(g' m).data=(g m).data:=fun m h2=>by exact Z82
 have amK:=uY hno;have dmo:∀K,K≠splitB p->dm K=dn K:=fun K hK=>by rw[hdm];exact if_neg hK
 have dm0:dm (splitB p)=i:=by rw[hdm];exact if_pos rfl
 have aIY:∀K,dI ns K->K≠splitB p:=fun K hK e=>by
  rcases hK with e1|⟨n,hn,e1,_⟩
  ·exact hpn (by rw[<-e,e1])
  exact amK n hn (by rw[e1,e])
 have io:∀n∈ns,dD dm φ n=dD dn φ n:=fun n hn=>by unfold dD;rw[dmo _ (amK n hn)]
 have i0:dD dm φ n0=i:=by unfold dD;rw[if_pos hf0,hk0,dm0]
 have ni:∀n∈ns,dD dn φ n≠i:=fun n hn e=>by rcases(h.MG hn).2 with⟨_,h1⟩|⟨_,h1⟩<;>rw[e,h0]at h1<;>cases h1
 have dni:∀K,dI ns K->dn K≠i:=fun K hK e=>by have:=(h.zU hK).2;rw[e,h0]at this;cases this
 have UE:∀K,dI (ns++[n0]) K->dI ns K\/K=splitB p:=fun K hK=>by
  rcases hK with e|⟨n,hn,e,hf⟩
  ·exact .inl (.inl e)
  rcases iN.1 hn with hn|hn
  ·exact .inl (.inr ⟨n,hn,e,hf⟩)
  rw[sW]at hn;rw[hn,hk0]at e;exact .inr e.symm
 have mem:∀n∈ns++[n0],n∈ns\/n=n0:=fun n hn=>by simpa using hn
 refine⟨h.n0,by rw[dmo _ (fun e=>hpn e.symm)];exact h.root,?_,?_,?_,?_,?_,?_,?_,?_,?_⟩
 ·rw[(gk 0 (fun e=>hi0 e.symm)).1];exact h.rk
 ·exact Z71
 ·exact Z86
 ·intro n hn hf;rcases mem n hn with hn|en
  ·have h1:=h.dir n hn hf;have h2:=gk (dn (bD n)) (dni _ (.inr ⟨n,hn,rfl,hf⟩));rw[dmo _ (amK n hn),h2.1,h2.2.1,h2.2.2.1];exact h1
  (try rw[en]at hf);(try rw[en]at e);(try rw[en]);rw[hk0,dm0,gi];exact⟨hi,rfl,by rw[hn0],rfl⟩
 ·intro n hn hf;rcases mem n hn with hn|en
  ·obtain⟨h1,h2,h3,h4,h7⟩:=h.file n hn hf;have h8:=gk (φ n.file) (fun e=>by rw[e,h0]at h3;cases h3);rw[h8.1,h8.2.1,h8.2.2.1,h8.2.2.2];refine⟨h1,h2,h3,h4,?_⟩;rw[h7,ajA];(have e1:[n0].countP (fun m=>decide (m.file=n.file))=0:=by rw[LB,List.countP_nil];simp only[tX,if_neg (fun e:n0.file=n.file=>hf (by rw[<-e,hf0]))]);rw[e1];rfl
  (try rw[en]at hf);(try rw[en]at e);(try rw[en]);exact absurd hf0 hf
 ·exact Z87
 ·exact Z55
 ·exact Z79
 intro K hK;rw[KH,mV];have e1:(eX ns K).map (fun n=>((bD n).getLastD [],dD dm φ n))=(eX ns K).map fun n=>((bD n).getLastD [],dD dn φ n):=
  uH fun n hn=>by rw[io n (List.mem_filter.1 hn).1]
 rw[e1];rcases UE K hK with hK'|hK'
 ·have hE:=h.bG K hK';rw[dmo K (aIY K hK')];exact Z6
 rw[hK',dm0,gi,h.avR hpn hno,if_neg (by rw[hk0];exact BL hpn)];exact List.Perm.nil
end
end Go.Proofs.YtmjomdkleikgbaaGreat
