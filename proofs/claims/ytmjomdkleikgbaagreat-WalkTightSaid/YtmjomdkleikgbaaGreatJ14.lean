/- Parts. -/
import Derived.Test.YtmjomdkleikgbaaGreatJ13
set_option linter.unusedVariables false
set_option linter.unusedSimpArgs false
set_option maxRecDepth 100000
set_option maxHeartbeats 20000000
namespace Go.Proofs.YtmjomdkleikgbaaGreat
open Go.RowKit
theorem O6 {w0 w:World} {R:List aZ} {f q p:Nat} {S:VS} {a:VA} {r:Nat} {v:Value} {Ms V:BM} {P:List xB} {b:VA} (h:MR f q p S a r w0 w R v Ms V P b) (hm:a.FM.length<=4000):P.length<=4000:=by
 have h1:(P.map (·.1)).length=((V.filter (vU S)).map fun x=>(x.1,x.2.1)).length:=by rw[h.puts]
 rw[iM,iM]at h1;have h2:=NV (vU S) V;have h3:=h.perm.length_eq;rw[jL]at h3;omega
section
variable {w0 w:World} {R:List aZ} {f q p:Nat} {S:VS} {a:VA}
def nH (f q p:Nat) (S:VS) (a:VA) (w0:World) (R:List aZ) (e:Ending) (w':World):Prop:=
 if S.bJ.2=true then e= .returned (.tuple #[])/\∃a',VCw S.settled a'/\Sep w0 w' (aF f q p S.settled a'::R)
 else e= .panicked (fP 11)/\∃sb,Sep w0 w' (kX f q S sb (.map (some a.fb)) false::aH q p true::aO p S.bJ.1::R)
theorem Sep.aH0 {b:VA} {r:Nat} {v:Value} {V:BM} {P:List xB} (hI:MR f q p S a r w0 w R v [] V P b):
  Sep w0 w (.sl 208 2 v P.length (P.flatMap tH)::mO 3 a.fb (iJ a.FM):: .dR (eB a.FM)::kX f q S b.sb (.map (some a.fb)) false::aH q p false::aO p S.D::eU b.sb b.SM::R):=by
 have h1:=(hI.sep.af0).apQ 0 rfl;rw[hI.reads.fb]at h1;exact Sep.dE [6,0,1,2,3,4,5] h1 aV bL
theorem Z5 {P:Prop} (h:P:=by
 replace hcc:=hcc.out;go_loopg[] a.FM.length (fun g wr2=>Hid (∃Ms V,af5 f q p S a b S.bJ.1 W8.heap.size w0 wr2 R Ms V/\g=Ms.length))
 case atStart=>exact Lh ⟨a.FM,[],hL.out,rfl⟩
 clear hL hrg;obtain⟨Ms,V2,hJ,rfl⟩:=hrel.out;clear hrel;rcases hJ.sep.abR 0 with⟨rfl,hnx2⟩|⟨x,w6,hx,hnx2,lG,uQ⟩
 ·obtain⟨f2,d2,hfin⟩:=ajK.out _ _ _ hcc hJ;replace hfin:=Lh hfin;clear hJ YQ ajK ajL;go_wp2_with fail
  go_end0
  exact hfin.out
 obtain⟨sb,W3,d1,hmu,hJ2,hlt⟩:=YQ.out _ _ _ _ _ _ hJ hx lG;have hx2:∃A c,x.2.1= .slice A 512 c:=by have hxF:x∈a.FM:=hJ.perm.subset (aa1 _ hx);have hb1:=hJ.sep.YP 3 rfl hxF;have hxc:=hC'.out.fresh x hxF;obtain⟨_,A,c,e,_⟩:=hb1;rw[hxc.2,jT hC'.out.cur hxc.1]at e;exact⟨A,c,e⟩
 obtain⟨A6,c6,e6⟩:=hx2;rw[e6]at hnx2 uQ hmu;obtain⟨i,hi⟩:∃i,i=x.1:=⟨_,rfl⟩;rw[<-hi]at hnx2 uQ hmu;obtain⟨Ms2,aCZ⟩:∃Ms2,Ms2=gX Ms x.1:=⟨_,rfl⟩;rw[<-aCZ]at hJ2 hlt;replace hJ2:=Lh hJ2;replace hlt:=Lh hlt;clear hJ lG YQ ajK ajL e6 hx hi aCZ;go_wp2_with fail;go_roundg Ms2.length
 case measure=>exact hlt.out
 case rel=>exact Lh ⟨Ms2,_,hJ2.out,rfl⟩):P:=h
theorem O7 (hC:VC S a) (hm:S.m<=40) (hback:S.D.back.length<=60000) (h:Sep w0 w (aF f q p S a::R)):
  Calls Tryz.prog 101 #[pV f] w (nH f q p S a w0 R):=by
 have h1:=h.bE;have hkey:Sep w0 w (mO 3 a.fb (iJ a.FM):: .dR (eB a.FM)::kX f q S a.sb (.map (some a.fb)) false::aH q p false::aO p S.D::eU a.sb a.SM::R):=Sep.jN (Sep.dE [4,0,1,2,3] h1 aV (by simp[pQ]));have hnd:(a.FM.map (·.1)).Nodup:=by have h1:=(hkey.tK 0 rfl).ne;exact Z57
 have hshort:=hC.apS hnd;obtain⟨w1,hrg,hS1,hsz1⟩:=hkey.O8 0 rfl dW Tryz.underlying111;have hI0:Hid (∃Ms V P b,MR f q p S a w.heap.size w0 w1 R (.slice none 0 0) Ms V P b/\a.FM.length=Ms.length):=Lh ⟨a.FM,[],[],a,⟨.refl hC,by simp,rfl,fun h=>absurd rfl h,by have h3:Sep w0 w1 (TT a.fb w.heap.size a.FM a.FM:: .dR (eB a.FM)::kX f q S a.sb (.map (some a.fb)) false::aH q p false::aO p S.D::eU a.sb a.SM::R):=hS1;have h4:Sep w0 w1 (TT a.fb w.heap.size a.FM a.FM:: .dR (eB a.FM)::kX f q S a.sb (.map (some a.fb)) false::aH q p false::aO p S.D::eU a.sb a.SM:: .sl 208 2 (.slice none 0 0) 0 []::R):=Sep.dE [1,2,3,4,5,6,0] (h3.iO 208 2) aV bL;exact h4.ax5⟩,rfl⟩;have c2:=h.fK.c2;obtain⟨i0,pO,hz0,hz1,hz2⟩:=iU apL;have hC':=Lh hC;have hnd':=Lh hnd;have hshort':=Lh hshort;have hm':=Lh hm;have af6:=Lh hback;obtain⟨rb,hrb⟩:∃rb,rb=w.heap.size:=⟨_,rfl⟩;rw[<-hrb]at hI0 hrg;clear hC hm hback h h1 hkey hnd hS1 hsz1 hrb hshort;go_enter Tryz.func101,Tryz.ntmps101;go_wp2_with fail;go_loopg[2] a.FM.length (fun g u wr=>Hid (∃Ms V P b,MR f q p S a rb w0 wr R u Ms V P b/\g=Ms.length))
 case atStart=>exact hI0
 clear hI0 c2 hrg;obtain⟨Ms,V,P,b,hI,rfl⟩:=hrel.out;clear hrel;rcases(hI.sep.af0).abR 0 with⟨rfl,hnx⟩|⟨x,w3,hx,hnx,dX,hen⟩
 ·have hS:=Sep.aH0 hI;(have hVp:V.Perm a.FM:=by have:=hI.perm;rw[yX44]at this;exact this);have hsort:=alG hS (by have:=O6 hI hshort'.out;omega);obtain⟨n,hn⟩:∃n,n=P.length:=⟨_,rfl⟩;(have aH1:n<=40:=by have h1:=congrArg List.length hI.puts;rw[iM,iM]at h1;have h2:=NV (vU S) V;have h3:=hVp.length_eq;have h4:=hC'.out.few;have h5:=hm'.out;omega);(have hu2:∃A c,u2= .slice A n c:=by obtain⟨A,c,e⟩:=hI.sep.dS 0 rfl;exact⟨A,c,by rw[e,hn]⟩);obtain⟨Au,cu,hu2⟩:=hu2;subst hu2
  --what the ledger answers
  have O9:Hid (∀W P',P.Perm P'->P'.Pairwise (fun x y:xB=>x.1.1<=y.1.1)->Sep w0 W (.sl 208 2 (.slice Au n cu) n (P'.flatMap tH)::mO 3 a.fb (iJ a.FM):: .dR (eB a.FM)::kX f q S b.sb (.map (some a.fb)) false::aH q p false::aO p S.D::eU b.sb b.SM::R)->
    W.cell? ⟨f,0,none⟩=some (pV q)/\
    ((n=0/\S.bJ=(S.D,true))\/(1<=n/\Calls Tryz.prog 167 #[pV q,.slice Au n cu] W fun e w'=>e= .returned (iV (alL S.bJ.2))/\Sep w0 w' (aH q p (!S.bJ.2)::aO p S.bJ.1::mO 3 a.fb (iJ a.FM):: .dR (eB a.FM)::kX f q S b.sb (.map (some a.fb)) false::eU b.sb b.SM::R)))):=Lh fun W P' hp hs hW=>by
   have hps:=abW hC'.out hnd'.out hVp hI.puts hp hs;(have hPn:P'.length=n:=by rw[hn];exact hp.length_eq.symm);refine⟨hW.bC 3 rfl 0,?_⟩;rcases xW n with h0|hpos
   ·refine .inl ⟨h0,?_⟩;(have:jH S=[]:=by rw[<-hps,vL (hPn.trans h0)];rfl);unfold VS.bJ;rw[if_pos this]
   refine .inr ⟨hpos,?_⟩;(have hne:¬jH S=[]:=by intro e;rw[<-hps]at e;have:=List.map_eq_nil_iff.1 e;rw[this]at hPn;simp at hPn;omega);obtain⟨g,c,e,_,_,hc1,hc2⟩:=hW.j5 0 rfl hpos;cases e;have hW2:Sep w0 W (aH q p false::aO p S.D:: .sl 208 2 (sV g n cu) n (P'.flatMap tH)::mO 3 a.fb (iJ a.FM):: .dR (eB a.FM)::kX f q S b.sb (.map (some a.fb)) false::eU b.sb b.SM::R):=Sep.dE [4,5,0,1,2,3,6] hW aV bL;have hin:=au2 (w0:=w0) (w:=W) (R':=.sl 208 2 (sV g n cu) n (P'.flatMap tH)::mO 3 a.fb (iJ a.FM):: .dR (eB a.FM)::kX f q S b.sb (.map (some a.fb)) false::eU b.sb b.SM::R) hC'.out hVp hI.puts hp hPn (hW2.drop 2) 0 2 rfl rfl;have hcm:=af7 hC'.out.pF hC'.out.big (au3 (V:=V) (P:=P) hC'.out hps aD aD) hin hc1 hc2 af6.out hW2;(have hce:S.bJ=kN (bY (jH S)) S.D:=by unfold VS.bJ;rw[if_neg hne]);rw[hce];rw[hps]at hcm;refine hcm.mono ?_;rintro e w' ⟨rfl,h9⟩;exact⟨rfl,(Sep.dE [2,0,1] h9 aV bL).drop 1⟩
  --what the second loop begins with
  (have hne:a.FM≠[]->b.SM≠[]:=fun h1=>hI.read fun h2=>h1 (by rw[h2]at hVp;exact List.Perm.eq_nil hVp.symm));have hloop:Hid (∀W,S.bJ.2=true->Sep w0 W (aH q p false::aO p S.bJ.1::mO 3 a.fb (iJ a.FM):: .dR (eB a.FM)::kX f q S b.sb (.map (some a.fb)) false::eU b.sb b.SM::R)->
    W.cell? ⟨f,2,none⟩=some (.map (some a.fb))/\∃W2,(Instr.range 111 (.map (some a.fb))).run Tryz.prog W= .ok (pV W.heap.size) W2/\af5 f q p S a b S.bJ.1 W.heap.size w0 W2 R a.FM []):=Lh fun W hc hW=>by
   refine⟨hW.bC 4 rfl 2,?_⟩;have h1:Sep w0 W (eU b.sb b.SM::mO 3 a.fb (iJ a.FM):: .dR (eB a.FM)::kX f q S b.sb (.map (some a.fb)) false::aH q p false::aO p S.bJ.1::R):=Sep.dE [5,2,3,4,0,1] hW aV bL;have h2:=h1.af3 hI.reads.ok.none;have h3:Sep w0 W (mO 3 a.fb (iJ a.FM)::VT b.sb b.SM:: .dR (eB b.SM):: .dR (eB a.FM)::kX f q S b.sb (.map (some a.fb)) false::aH q p false::aO p S.bJ.1::R):=Sep.dE [2,0,1,3,4,5,6] h2 aV bL;obtain⟨W2,hrun,h4,_⟩:=h3.O8 0 rfl dW Tryz.underlying111;exact⟨W2,hrun,by simp,h4⟩
  have ajK:Hid (∀W V2 r2,S.bJ.2=true->af5 f q p S a b S.bJ.1 r2 w0 W R [] V2->(W.alloc (.map #[] 0)).frozen? ⟨f,2,none⟩=false/\(W.alloc (.map #[] 0)).cell? ⟨f,2,none⟩=some (.map (some a.fb))/\nH f q p S a w0 R (.returned (.tuple #[])) ((W.alloc (.map #[] 0)).setCell ⟨f,2,none⟩ (.map (some W.heap.size)))):=Lh fun W V2 r2 hc hW=>by
   (have hV2:V2.Perm a.FM:=by have:=hW.perm;rw[yX44]at this;exact this);have h1:=(hW.sep.apQ 0 rfl).drop 1;have h2:Sep w0 W (VT b.sb (jW b.SM V2):: .dR (eB b.SM):: .dR (eB a.FM)::kX f q S b.sb (.map (some a.fb)) false::aH q p false::aO p S.bJ.1::R):=h1;have hsn:b.sb=none->b.SM=[]/\V2=[]:=fun hs=>by
    have h3:=hI.reads.ok.none hs;refine⟨h3,?_⟩;by_cases e:a.FM=[]
    ·rw[e]at hV2;exact List.Perm.eq_nil hV2
    exact absurd h3 (hne e)
   have h3:=(h2.alJ hV2 hsn).yF;have h4:=h3.bS 2 rfl 2 (.map (some W.heap.size));refine⟨h3.bF 2 rfl 2,h3.bC 2 rfl 2,?_⟩;unfold nH;rw[if_pos hc];refine⟨rfl,_,af4 hC'.out hI.reads hV2 hm'.out hc hne W.heap.size,?_⟩;have h5:Sep w0 ((W.alloc (.map #[] 0)).setCell ⟨f,2,none⟩ (.map (some W.heap.size))) (pQ f q p S.settled ⟨b.sb,jW b.SM V2,W.heap.size,[]⟩++R):=Sep.dE [2,3,4,1,0] h4 aV bL;exact h5.dB
  (have ajL:Hid (∀W,S.bJ.2=false->Sep w0 W (aH q p true::aO p S.bJ.1::mO 3 a.fb (iJ a.FM):: .dR (eB a.FM)::kX f q S b.sb (.map (some a.fb)) false::eU b.sb b.SM::R)->nH f q p S a w0 R (.panicked (fP 11)) W):=Lh fun W hc hW=>by unfold nH;rw[if_neg (by rw[hc];decide)];have h5:Sep w0 W (mO 3 a.fb (iJ a.FM):: .dR (eB a.FM)::eU b.sb b.SM::kX f q S b.sb (.map (some a.fb)) false::aH q p true::aO p S.bJ.1::R):=Sep.dE [2,3,5,4,0,1] hW aV bL;exact⟨rfl,_,h5.drop 3⟩);have YQ:Hid (∀W Ms V2 r2 x W',af5 f q p S a b S.bJ.1 r2 w0 W R Ms V2->x∈Ms->Sep w0 W' (TT a.fb r2 a.FM (gX Ms x.1)::VT b.sb (jW b.SM V2):: .dR (eB b.SM):: .dR (eB a.FM)::kX f q S b.sb (.map (some a.fb)) false::aH q p false::aO p S.bJ.1::R)->
    ∃sb W3,W'.cell? ⟨f,1,none⟩=some (.map (some sb))/\(Instr.mapUpdate 111 (.map (some sb)) (.int .i64 (x.1:Nat)) x.2.1).run Tryz.prog W'= .ok () W3/\af5 f q p S a b S.bJ.1 r2 w0 W3 R (gX Ms x.1) (V2++[x])/\(gX Ms x.1).length<Ms.length):=Lh fun W Ms V2 r2 x W' hW hx hW'=>by
   have hxF:x∈a.FM:=hW.perm.subset (aa1 _ hx);obtain⟨sb,hsb⟩:∃sb,b.sb=some sb:=by
    cases hs:b.sb with
    |some sb=>exact⟨sb,rfl⟩
    |none=>exact absurd (hI.reads.ok.none hs) (hne (fun e=>by rw[e]at hxF;cases hxF))
   have c1:=hW'.bC 4 rfl 1;have h2:=hW';rw[hsb]at h2 c1;have hkb:((V2++Ms).map (·.1)).Nodup:=(hW.perm.map (·.1)).nodup_iff.2 hnd'.out;have hxc:=hC'.out.fresh x hxF;(have hnk:((jW b.SM V2).map (·.1)).Nodup:=by have h1:=(h2.tK (L:=iJ (jW b.SM V2)) 1 rfl).ne;exact Z57);have hlen:(jW b.SM V2).length<=4096:=by
    have h1:((jW b.SM V2).map (·.1)).length<=(List.range (S.nb-96)).length:=ak1 hnk fun k hk=>by
     obtain⟨y,hy,rfl⟩:=List.mem_map.1 hk;rcases VQ hy with h3|⟨h3,_⟩
     ·exact List.mem_range.2 (hC'.out.fresh y (hW.perm.subset (vN _ h3))).1
     exact List.mem_range.2 (hI.reads.ok.seen y h3).1
    have h2:=hC'.out.pF.few;rw[iM,K9]at h1;omega
   obtain⟨W3,hrun,h3⟩:=h2.mE (L:=iJ (jW b.SM V2)) (v:=x.2.1) 1 rfl dW Tryz.underlying111 (by unfold iJ;rw[iM];unfold maxLen;omega) (jR x.1 (by have:=hC'.out.pF.few;omega));rw[PD _ x.1 x.2.1 x.2.2]at h3;rw[mV,sZ]at hkb;have h4:=VN hkb.2.1 hx;refine⟨sb,W3,c1,hrun,⟨?_,?_⟩,?_⟩
   ·rw[pJ];exact((afT V2 h4).symm).trans hW.perm
   ·rw[af1,hsb];exact h3
   have:=h4.length_eq;rw[kR]at this;omega
  rw[<-hn]at hsort;have hmm:= @run_makeMap Tryz.prog;obtain⟨cb,hcb⟩:∃cb,cb=S.bJ.2:=⟨_,rfl⟩;have aOY:=Lh hcb;(have hn1:(n:Int)<=40:=by omega);(have hn0:(0:Int)<=n:=by omega);clear hI hS hVp hn aH1 hne hcb;rcases xW n with h0|hpos
  ·subst h0;have hA:Hid (∀W P',P.Perm P'->P'.Pairwise (fun x y:xB=>x.1.1<=y.1.1)->Sep w0 W (.sl 208 2 (.slice Au 0 cu) 0 (P'.flatMap tH)::mO 3 a.fb (iJ a.FM):: .dR (eB a.FM)::kX f q S b.sb (.map (some a.fb)) false::aH q p false::aO p S.D::eU b.sb b.SM::R)->S.bJ.2=true/\W.cell? ⟨f,2,none⟩=some (.map (some a.fb))/\∃W2,(Instr.range 111 (.map (some a.fb))).run Tryz.prog W= .ok (pV W.heap.size) W2/\af5 f q p S a b S.bJ.1 W.heap.size w0 W2 R a.FM []):=Lh fun W P' hp hs hW=>by
    obtain⟨_,h1|⟨h1,_⟩⟩:=O9.out _ _ hp hs hW
    ·(have hc:S.bJ.2=true:=by rw[h1.2]);refine⟨hc,?_⟩;(have e:S.bJ.1=S.D:=by rw[h1.2]);refine hloop.out W hc ?_;rw[e];exact(Sep.dE [4,5,1,2,3,6,0] hW aV bL).perm (by simp only[kR,rT];exact EJ _)|>.dE [6,0,1,2,3,4,5] aV bL|>.drop 1
    exact absurd h1 aV
   clear O9 hloop;go_wp2_with(go_at_call 165;refine hsort.mono ?_;rintro e W8 ⟨rfl,P',hp,hs,h9⟩;obtain⟨hcc,c2,w7,hrg,hL⟩:=hA.out _ _ hp hs h9;replace hL:=Lh hL;replace hcc:=Lh hcc;clear hsort hA hp hs h9 hnx);exact Z5
  have hB:Hid (∀W P',P.Perm P'->P'.Pairwise (fun x y:xB=>x.1.1<=y.1.1)->Sep w0 W (.sl 208 2 (.slice Au n cu) n (P'.flatMap tH)::mO 3 a.fb (iJ a.FM):: .dR (eB a.FM)::kX f q S b.sb (.map (some a.fb)) false::aH q p false::aO p S.D::eU b.sb b.SM::R)->W.cell? ⟨f,0,none⟩=some (pV q)/\
   Calls Tryz.prog 167 #[pV q,.slice Au n cu] W fun e w'=>e= .returned (iV (alL S.bJ.2))/\Sep w0 w' (aH q p (!S.bJ.2)::aO p S.bJ.1::mO 3 a.fb (iJ a.FM):: .dR (eB a.FM)::kX f q S b.sb (.map (some a.fb)) false::eU b.sb b.SM::R)):=Lh fun W P' hp hs hW=>by
   obtain⟨c0,h1|⟨_,h1⟩⟩:=O9.out _ _ hp hs hW
   ·exact absurd h1.1 aD
   ·exact⟨c0,h1⟩
  (have hn2:(0:Int)<n:=by omega);cases hcv:S.bJ.2 with
  |true=>(have hD:Hid (∀W,Sep w0 W (aH q p (!S.bJ.2)::aO p S.bJ.1::mO 3 a.fb (iJ a.FM):: .dR (eB a.FM)::kX f q S b.sb (.map (some a.fb)) false::eU b.sb b.SM::R)->W.cell? ⟨f,2,none⟩=some (.map (some a.fb))/\∃W2,(Instr.range 111 (.map (some a.fb))).run Tryz.prog W= .ok (pV W.heap.size) W2/\af5 f q p S a b S.bJ.1 W.heap.size w0 W2 R a.FM []):=Lh fun W hW=>by rw[hcv]at hW;exact hloop.out W hcv hW);(have hE:alL S.bJ.2=0:=by rw[hcv];rfl);rw[hE]at hB;have hcc:=Lh hcv;clear O9 hloop hcv hE;go_wp2_with(first |(go_at_call 165;refine hsort.mono ?_;rintro e w9 ⟨rfl,P',hp,hs,h9⟩;obtain⟨c0,hcm⟩:=hB.out _ _ hp hs h9;clear hsort hB hp hs h9 hnx)|(go_at_call 167;refine hcm.mono ?_;rintro e W8 ⟨rfl,h8⟩;obtain⟨c2,w7,hrg,hL⟩:=hD.out _ h8;replace hL:=Lh hL;clear hcm hD h8)|(go_at_call 54;refine(fB _ _).mono ?_;rintro e w5 ⟨rfl,h5⟩;obtain rfl:=h5.symm));exact Z5
  |false=>(have hD:Hid (∀W,Sep w0 W (aH q p (!S.bJ.2)::aO p S.bJ.1::mO 3 a.fb (iJ a.FM):: .dR (eB a.FM)::kX f q S b.sb (.map (some a.fb)) false::eU b.sb b.SM::R)->nH f q p S a w0 R (.panicked (fP 11)) W):=Lh fun W hW=>by rw[hcv]at hW;exact ajL.out W hcv hW);(have hE:alL S.bJ.2=11:=by rw[hcv];rfl);rw[hE]at hB;clear O9 hloop hcv hE ajK YQ ajL;go_wp2_with(first |(go_at_call 165;refine hsort.mono ?_;rintro e w9 ⟨rfl,P',hp,hs,h9⟩;obtain⟨c0,hcm⟩:=hB.out _ _ hp hs h9;clear hsort hB hp hs h9 hnx)|(go_at_call 167;refine hcm.mono ?_;rintro e W8 ⟨rfl,h8⟩;have hend:=Lh (hD.out _ h8);clear hcm hD h8)|(go_at_call 54;refine(fB _ _).mono ?_;rintro e w5 ⟨rfl,h5⟩;obtain rfl:=h5.symm));exact⟨rfl,hend.out⟩
 have hxF:x∈a.FM:=hI.perm.subset (aa1 _ hx);have hxc:=hC'.out.fresh x hxF;have hlen:x.2.2.length=512:=by rw[hxc.2];exact jT hC'.out.cur hxc.1
 have ax6:(bk S.D.now (96+x.1)).length=512:=hC'.out.ajM hxc.1;have hby:Hid (∀W b' A C,Sep w0 W (C::AP f q p S b' (.star A (.dR (eB a.FM)))::R)->BytesAt W x.2.1 x.2.2):=Lh fun W b' A C hS=>((hS.af0).perm (List.Perm.swap _ _ _)).ajI hxF
 obtain⟨i,hi⟩:∃i,i=x.1:=⟨_,rfl⟩;obtain⟨bx,hbx⟩:∃bx,bx=x.2.2:=⟨_,rfl⟩;obtain⟨bd,hbd⟩:∃bd,bd=bk S.D.now (96+x.1):=⟨_,rfl⟩;have kD:=dX.ax5;have hb1:=hby.out _ _ _ _ kD;obtain⟨Ax,cx,hvx⟩:∃A c,x.2.1= .slice A 512 c:=by obtain⟨_,A,c,e,_⟩:=hb1;rw[hlen]at e;exact⟨A,c,e⟩
 rw[hvx]at hnx hen hby hb1;rw[<-hbx]at hb1 hby;rw[<-hi]at hnx hen;have hold:=apJ (i:=i) hI.reads.ok (by rw[hi];exact hxc.1) ((kD.perm (List.Perm.swap _ _ _)).drew);have hcv:=gW hb1;have alM:(convert 69 9 (.slice Ax 512 cx)).run Tryz.prog w3.drew= .ok (aC bx) w3.drew:=gW (hb1.below ((Below.refl _ _).drew));have i4:(i:Int)<=4096:=by have:=hC'.out.pF.few;omega
 have i0':(0:Int)<=i:=by omega
 have hI':=Lh hI;have au4:=Lh kD;replace hold:=Lh hold;have hi':=Lh hi;have aC0:=Lh hbx;have YR:=Lh hbd;have aH3:=Lh hvx;have hx':=Lh hx;have aOZ:=Lh hxF;have aC1:=Lh (And.intro hlen ax6);clear hI dX kD hb1 hi hbx hbd hvx hx hxF hxc hlen ax6 hcv;unfold aC at alM;obtain⟨N,hN⟩:∃N,N=P.length:=⟨_,rfl⟩;have hu2:∃A c,u2= .slice A N c:=by obtain⟨A,c,e⟩:=hI'.out.sep.dS 0 rfl;exact⟨A,c,by rw[e,hN]⟩
 obtain⟨Au,cu,hu2⟩:=hu2;subst hu2;have hN4:N<=4000:=by rw[hN];exact O6 hI'.out hshort'.out
 have hN':=Lh hN;have aC2:=Lh hN4;clear hN hN4;go_wp2_with fail;refine aP (S:=fun w'=>(convert 69 9 (.slice Ax 512 cx)).run Tryz.prog w'= .ok (.string ⟨bx.toArray⟩) w') 7 ?_;refine aA 0 alM ?_;refine aA 1 alM ?_;refine aA 4 alM ?_;refine aA 5 alM ?_;refine bI 2 fun K hK=>?_
 go_simp;go_at_call 157;refine hold.out.mono ?_;rintro e w9 ⟨v9,b2,rfl,hR2,hf2,h9⟩;have aC3:=hby.out _ _ _ _ (h9.perm (List.Perm.swap _ _ _));have hbo:=h9.au1 hf2 hR2.ok.none;rw[hi'.out,<-YR.out]at hbo;obtain⟨A9,c9,e9⟩:∃A c,v9= .slice A 512 c:=by obtain⟨_,A,c,e,_⟩:=hbo;rw[YR.out,aC1.out.2]at e;exact⟨A,c,e⟩
 subst e9;have au5:(convert 69 9 (.slice Ax 512 cx)).run Tryz.prog w9= .ok (.string ⟨bx.toArray⟩) w9:=gW aC3;have aO0:(convert 69 9 (.slice A9 512 c9)).run Tryz.prog w9= .ok (.string ⟨bd.toArray⟩) w9:=gW hbo;have h9':=Lh (h9.perm (List.Perm.swap _ _ _));have ak7:=Lh hR2;have au6:=Lh hf2;clear aC3 hbo h9 hold alM hR2 hf2;dsimp only;refine hK _ _ (fun _=>au5) ?_;clear hK K;try simp only[Act.put,gD]
 refine bB 3 (fun _=>au5) ?_;have zS:Hid (Sep w0 w9 (.sl 208 2 (.slice Au N cu) N (P.flatMap tH)::AP f q p S b2 (.star (TT a.fb rb a.FM (gX Ms x.1)) (.dR (eB a.FM)))::R)):=by rw[hN'.out];have:=h9'.out;rw[hN'.out]at this;exact Lh this
 by_cases hd:bd=bx
 ·(have e1:(bd==bx)=true:=by simpa using hd);(have e2:(bd.toArray==bx.toArray)=true:=by rw[hd];simp);have hd':=Lh hd;clear hd;refine bB 6 (fun _=>au5) ?_;refine aQ fH ?_ _;go_wp2_with fail;go_roundg (gX Ms x.1).length
  case measure=>exact(hI'.out.CY hnd'.out hx'.out).2
  refine Lh ⟨_,V++[x],P,b2,hI'.out.alH hnd'.out hx'.out ?_ ak7.out (abT au6.out) ?_,rfl⟩
  ·unfold vU;rw[<-aC0.out,<-YR.out,hd'.out];simp
  rw[<-hN'.out];exact zS.out
 have e1:(bd==bx)=false:=by simpa using hd
 have e2:(bd.toArray==bx.toArray)=false:=by simpa using hd
 have hd':=Lh hd;clear hd;refine bB 6 (fun _=>au5) ?_;refine aQ fH ?_ _;go_wp2_with(at_builtin;refine dH 0 rfl _ _ 206 rfl 208 i0 _ 2 32 Tryz.underlying206 pO hz0 hz1 hz2 rfl aV (zS.out.alloc (.cells #[iV (i:Nat),.slice Ax 512 cx] 208)) (.slice Au N cu) N (P.flatMap tH) rfl rfl (sV w9.heap.size 1 1) 1 [.int .i64 (i:Nat),.slice Ax 512 cx] rfl ⟨rfl,_,_,rfl,iB _,by unfold maxLen;omega,fun _=>⟨_,rfl,by rw[World.size_alloc];exact JQ _,jO w9 #[iV (i:Nat),.slice Ax 512 cx] 208 _ rfl⟩⟩ oCl (by have:=aC2.out;unfold maxLen;omega) (by have:=aC2.out;omega) ?_;intro v5 w5 hS5 hz5;replace hS5:=Lh hS5);go_roundg (gX Ms x.1).length
 case measure=>exact(hI'.out.CY hnd'.out hx'.out).2
 refine Lh ⟨_,V++[x],P++[⟨(i,.slice Ax 512 cx),by omega,Ax,512,cx,rfl⟩],b2,hI'.out.alI hnd'.out hx'.out ?_ ?_ ak7.out (abT au6.out) ?_,rfl⟩
 ·unfold vU;rw[<-aC0.out,<-YR.out];have:=hd'.out;simp;exact fun e=>this e.symm
 ·(show(i,Value.slice Ax 512 cx)=(x.1,x.2.1));rw[hi'.out,aH3.out]
 rw[<-hN'.out];exact hS5.out
end
structure VR (S:VS) (sb:Option Nat) (SM:BM):Prop where
 pF:S.D.ok S.nb
 big:96<S.nb
 seen:∀x∈SM,x.1<S.nb-96/\x.2.2=bk S.D.now (96+x.1)
 none:sb=none->SM=[]
 back:S.D.back=[]
def ax7 (f q p:Nat) (S:VS) (sb:Option Nat) (SM:BM) (fo:Option Nat):List aZ:=[kX f q S sb (.map fo) false,aH q p false,aO p S.D,eU sb SM]
def bH (f q p:Nat) (S:VS):aZ:=.ex fun t:Option Nat×BM×Option Nat=>.star (.pure (VR S t.1 t.2.1)) (.dR (ax7 f q p S t.1 t.2.1 t.2.2))
def LV (f q p:Nat) (dead:Bool):aZ:=.ex fun t:VS×Option Nat×Option Nat=>.dR [kX f q t.1 t.2.1 (.map t.2.2) dead,aH q p true]
def VS.base (S:VS):VS:= {S with cur:=S.D.now.drop 96,m:=0}
theorem CZ (c:fZ) (i k:Nat):bk (c.drop i) k=bk c (i+k):=by unfold bk;rw[gH,gH,zY]
theorem kP.drop {n:Nat} {c:fZ} (h:kP n c) (i:Nat):kP (n-i) (c.drop i):=
 ⟨by rw[rU,h.len],fun b hb=>h.size b (List.mem_of_mem_drop hb)⟩
theorem VU :∀ {l:List tJ} {D D':DK},kN (l++[none]) D=(D',true)->D'.back=[]
 |[],D,D',h=>by
  rw[nG,kN]at h;split at h
  ·cases h
  cases h;exact DK.ajO D
 |x::l,D,D',h=>by
  rw[kW,kN]at h;split at h
  ·cases h
  exact VU h
theorem LW {S:VS} (h:S.bJ.2=true) (hb:S.D.back=[]):S.bJ.1.back=[]:=by
 unfold VS.bJ at h ⊢;split
 ·exact hb
 rename_i hne;rw[if_neg hne]at h;have h1:kN (bY (jH S)) S.D=((kN (bY (jH S)) S.D).1,true):=by rw[<-h]
 have e:bY (jH S)=(kI (jH S)++(none::some (0,fQ ((jH S).map (·.1)))::none::(gQ (jH S)++[none,some (0,fQ [])])))++[none]:=by unfold bY;simp
 rw[e]at h1;have:=VU h1;rw[e];exact this
section
variable {w0 w:World} {R:List aZ} {f q p:Nat} {S:VS} {a:VA}
theorem Sep.qU (h:Sep w0 w (bH f q p S::R)):∃sb SM fo,VR S sb SM/\Sep w0 w (kX f q S sb (.map fo) false::aH q p false::aO p S.D::eU sb SM::R):=by obtain⟨t,h1⟩:=h.M8;obtain⟨h2,h3⟩:=h1.jN.VG;exact⟨t.1,t.2.1,t.2.2,h2,h3.bE⟩
theorem Sep.J4 {sb:Option Nat} {SM:BM} {fo:Option Nat} (hR:VR S sb SM) (h:Sep w0 w (kX f q S sb (.map fo) false::aH q p false::aO p S.D::eU sb SM::R)):Sep w0 w (bH f q p S::R):=by have h1:Sep w0 w (ax7 f q p S sb SM fo++R):=h;exact Sep.M9 (sb,SM,fo) (Sep.VH hR h1.dB).l7
theorem Sep.VV {S:VS} {sb fo:Option Nat} {dead:Bool} (h:Sep w0 w (kX f q S sb (.map fo) dead::aH q p true::R)):Sep w0 w (LV f q p dead::R):=
 Sep.M9 (S,sb,fo) (Sep.dB (As:=[kX f q S sb (.map fo) dead,aH q p true]) h)
theorem Sep.alN {dead:Bool} (h:Sep w0 w (LV f q p dead::R)):∃S sb fo,Sep w0 w (kX f q S sb (.map fo) dead::aH q p true::R):=by obtain⟨t,h1⟩:=h.M8;exact⟨t.1,t.2.1,t.2.2,h1.bE⟩
theorem YS {a:VA} (h:VCw S a) (hb:S.D.back=[]) (hS:Sep w0 w (aF f q p S a::R)):Sep w0 w (bH f q p S::R):=by have h1:=hS.bE;have h2:Sep w0 w (jI a.fb a.FM::kX f q S a.sb (.map (some a.fb)) false::aH q p false::aO p S.D::eU a.sb a.SM::R):=Sep.dE [4,0,1,2,3] h1 aV (by simp[pQ]);exact Sep.J4 ⟨⟨h.pF.now,h.pF.fast,h.pF.few,h.pF.some,h.pF.back,h.pF.left⟩,h.big,h.seen,h.none,hb⟩ (h2.drop 1)
theorem LX {S1:VS} {a:VA} {fo:Option Nat} (hL:eZ S S1) (h:VC S1 a) (hb:S.D.back=[]) (hS:Sep w0 w (kX f q S a.sb (.map fo) false::aH q p false::aO p S1.D::eU a.sb a.SM::R)):Sep w0 w (bH f q p S::R):=by rw[hL.D]at hS;exact Sep.J4 ⟨by have:=h.pF;rw[hL.D,hL.nb]at this;exact this,by have:=h.big;rw[hL.nb]at this;exact this,fun x hx=>by have:=h.seen x hx;rw[hL.D,hL.nb]at this;exact this,h.none,hb⟩ hS
theorem au7 {sb:Option Nat} {SM:BM} (h:VR S sb SM) (ho:S.D.off=false) (fb:Nat):VC S.base ⟨sb,SM,fb,[]⟩:=
 ⟨h.pF,h.big,ho,h.pF.now.drop 96,h.seen,fun x hx=>absurd hx D8,fun k hk _=>CZ _ _ _,gI _,h.none⟩
theorem YT (x:Int) (w:World):(Instr.typeAssert (.iface 171 (.agg #[iV x])) 20 171 true).run Tryz.prog w= .ok (.tuple #[.agg #[iV x],.bool true]) w:=by kernel_rfl
theorem PE {be:Nat} {sb:Option Nat} {fv:Value} {dead:Bool} {x y:Int} {older:List PanicEntry} (h:Sep w0 w (kX f q S sb fv dead::aJ be y::R)):
  CallsD Tryz.prog 52 #[pV f,pV be] (.panicking ({v:=.iface 171 (.agg #[iV x]),recovered:=false}::older)) w fun e u' w'=>
   e= .returned (.tuple #[])/\u'= .panicking ({v:=.iface 171 (.agg #[iV x]),recovered:=true}::older)/\Sep w0 w' (kX f q S sb fv (decide (x=11)||dead)::aJ be x::R):=by
 refine callsD_of_wpS Tryz.func52 rfl fun c₀ cs hu=>?_
 apply wpS_seq
 apply wpS_region
 simp[wpOpsS,go_sem,recoverD,hu,Tryz.ntmps52,Exit.thenS]
 refine wpS_of_wp ?_
 simp only[kE,kR,rT,Nat.reduceAdd,Nat.reduceSub,zL,zM,zO,zN,nG,kW,gD,NW,JN]
 have hta:=YT x w
 have hA:=h.alloc (.cells #[iV x] 171)
 have c1:=hA.bC 0 rfl 4
 have f1:=hA.bF 0 rfl 4
 have e0:=hA.bC 1 rfl 0
 have ef:=hA.bF 1 rfl 0
 have hB:=hA.bS 0 rfl 4 (.bool true)
 have b0:=hB.bC 1 rfl 0
 have bf:=hB.bF 1 rfl 0
 have hB2:=hB.bS 1 rfl 0 (.int .i64 x)
 have hA2:=hA.bS 1 rfl 0 (.int .i64 x)
 simp only[gA,gB,gC]at c1 e0 b0
 by_cases hx:x=11
 ·subst hx;go_wp2_with fail;refine⟨rfl,_,rfl,.tuple #[],?_,rfl,rfl,hB2⟩;simp[results,Tryz.results52]
 ·have hx2:(x==11)=false:=jM.2 hx;rw[decide_eq_false hx,zZ];go_wp2_with fail;refine⟨rfl,_,rfl,.tuple #[],?_,rfl,rfl,hA2⟩;simp[results,Tryz.results52]
theorem PG (a b:Value) (w:World):
  CallsD Tryz.prog 52 #[a,b] .returning w fun e u' w'=>e= .returned (.tuple #[])/\u'= .returning/\w'=w:=by
 refine callsD_of_wpS Tryz.func52 rfl fun c₀ cs hu=>?_
 apply wpS_seq;apply wpS_region;simp[wpOpsS,go_sem,recoverD,hu,Tryz.ntmps52,Exit.thenS];refine wpS_of_wp ?_;simp only[kE,kR,rT,Nat.reduceAdd,Nat.reduceSub,zL,zM,zO,zN,nG,kW,gD,NW,JN];go_wp2_with fail;refine⟨rfl,.returning,?_,.tuple #[],?_,rfl,rfl,rfl⟩
 ·cases c₀;simp at hu;subst hu;rfl
 simp[results,Tryz.results52]
theorem J5 {be:Nat} {sb:Option Nat} {fv:Value} {dead:Bool} {x y:Int} {fn:Func} {tmps:Array Value} {Post:Ending->World->Prop} {ds:List Deferred} (h:Sep w0 w (kX f q S sb fv dead::aJ be y::R))
  (hK:∀w',Sep w0 w' (kX f q S sb fv (decide (x=11)||dead)::aJ be x::R)->Leaves Tryz.prog fn tmps Post ds .returning w'):
  Leaves Tryz.prog fn tmps Post ({target:=.fn (.func 52) #[],args:=#[pV f,pV be]}::ds) (.panicking (fP x)) w:=by
 refine leaves_cons (f:=52) (args:=#[pV f,pV be]) bL (by simp[go_sem]) ?_;refine(PE h).mono ?_;rintro e u' w' ⟨rfl,rfl,hS⟩;exact hK w' hS
theorem kQ {a b:Value} {fn:Func} {tmps:Array Value} {Post:Ending->World->Prop} {ds:List Deferred} (hK:Leaves Tryz.prog fn tmps Post ds .returning w):
  Leaves Tryz.prog fn tmps Post ({target:=.fn (.func 52) #[],args:=#[a,b]}::ds) .returning w:=by
 refine leaves_cons (f:=52) (args:=#[a,b]) bL (by simp[go_sem]) ?_;refine(PG a b w).mono ?_;rintro e u' w' ⟨rfl,rfl,rfl⟩;exact hK
theorem AR (ho:S.D.off=false) (h:Sep w0 w (bH f q p S::R)):
  Calls Tryz.prog 53 #[pV f] w fun e w'=>e= .returned (.tuple #[])/\∃a',VC S.base a'/\Sep w0 w' (aF f q p S.base a'::R):=by
 obtain⟨sb,SM,fo,hR,h1⟩:=h.qU;have c0:=h1.bC 0 rfl 0;have c4:=h1.bC 0 rfl 4;simp only[gA,gB,gC]at c0 c4;have hsy:=C8 (q:=q) (p:=p) (dead:=false) (R:=kX f q S sb (.map fo) false::eU sb SM::R) hR.pF (Sep.dE [1,2,0,3] h1 aV bL);rw[ho]at hsy;simp only[Bool.or_false,JO,if_false]at hsy;have hend:Hid (∀W,Sep w0 W (aH q p false::aO p S.D::kX f q S sb (.map fo) false::eU sb SM::R)->(W.alloc (.map #[] 0)).frozen? ⟨f,2,none⟩=false/\(W.alloc (.map #[] 0)).cell? ⟨f,2,none⟩=some (.map fo)/\∃a',VC S.base a'/\Sep w0 ((W.alloc (.map #[] 0)).setCell ⟨f,2,none⟩ (.map (some W.heap.size))) (aF f q p S.base a'::R)):=Lh fun W hW=>by have h3:=hW.yF;have h4:=h3.bS 3 rfl 2 (.map (some W.heap.size));refine⟨h3.bF 3 rfl 2,h3.bC 3 rfl 2,_,au7 hR ho W.heap.size,?_⟩;have h5:Sep w0 ((W.alloc (.map #[] 0)).setCell ⟨f,2,none⟩ (.map (some W.heap.size))) (pQ f q p S.base ⟨sb,SM,W.heap.size,[]⟩++R):=Sep.dE [3,1,2,4,0] h4 aV bL;exact h5.dB
 have hmm:= @run_makeMap Tryz.prog;clear h h1 hR ho;go_enter Tryz.func53,Tryz.ntmps53;go_wp2_with(first |(go_at_call 102;refine hsy.mono ?_;rintro e w9 ⟨rfl,h9⟩;obtain⟨f2,k2,he⟩:=hend.out _ h9;replace he:=Lh he;clear hsy hend h9)|(go_at_call 54;refine(fB _ _).mono ?_;rintro e w8 ⟨rfl,h8⟩;obtain rfl:=h8.symm))
 go_end0
 exact⟨rfl,he.out⟩
theorem uR {LY:FuncId} (abX:Array Value) (w:World) (h:∀args w,(callFunc LY args).run Tryz.prog w= .ok (.enter LY args) w):(invoke (.fn (.func LY) abX) #[]).run Tryz.prog w= .ok (.enter LY abX) w:=by simp[invoke,go_sem,h]
theorem abY {S1:VS} {bf bw bn bd:Nat} {sb:Option Nat} {fo:Option Nat} {dead:Bool} {u:FrameMode} (hn:S1.names=S.names) (hb:S1.rB=S.rB) (hi:S1.rI=S.rI)
  (h:Sep w0 w (kX f q S1 sb (.map fo) dead:: .box bf 37 #[pV f]:: .box bw 53 #[iK S.wB S.wI]:: .box bn 3 #[iV S.nodes]:: .box bd 4 #[.bool false]::R)):
  CallsD Tryz.prog 145 #[pV bd,pV bw,pV bn,pV bf] u w fun e u' w'=>
   u'=u/\e= .returned (.tuple #[])/\Sep w0 w' (kX f q S sb (.map none) dead::R):=by
 have k0:=h.bC 1 rfl 0
 have k1:=h.bC 2 rfl 0
 have k2:=h.bC 3 rfl 0
 have k3:=h.bC 4 rfl 0
 have c5:=h.bC 0 rfl 5
 have f5:=h.bF 0 rfl 5
 have h1:=h.bS 0 rfl 5 (iK S.wB S.wI)
 have c6:=h1.bC 0 rfl 6
 have f6:=h1.bF 0 rfl 6
 have h2:=h1.bS 0 rfl 6 (.int .i64 S.nodes)
 have c2:=h2.bC 0 rfl 2
 have f2:=h2.bF 0 rfl 2
 have h3:=h2.bS 0 rfl 2 (.map none)
 unfold iK at k1 c5 c6 c2 h3 f6 f2
 simp only[gA,gB,gC]at k0 k1 k2 k3 c5
 have hst:=fun x y=>xD x y c5 f5
 have hend:Hid (Sep w0 (((w.setCell ⟨f,5,none⟩ (.complex .f64 (fI S.wB) (fI S.wI))).setCell ⟨f,6,none⟩ (.int .i64 S.nodes)).setCell ⟨f,2,none⟩ (.map none)) (kX f q S sb (.map none) dead::R)):=Lh (by(have h4:Sep w0 (((w.setCell ⟨f,5,none⟩ (.complex .f64 (fI S.wB) (fI S.wI))).setCell ⟨f,6,none⟩ (.int .i64 S.nodes)).setCell ⟨f,2,none⟩ (.map none)) (kX f q S sb (.map none) dead:: .box bf 37 #[pV f]:: .box bw 53 #[.complex .f64 (fI S.wB) (fI S.wI)]:: .box bn 3 #[iV S.nodes]:: .box bd 4 #[.bool false]::R):=by unfold kX at h3 ⊢;rw[hn,hb,hi]at h3;exact h3);exact(Sep.dE [1,2,3,4,0] h4 aV bL).drop 4)
 clear h h1 h2 h3 hn hb hi
 refine(callsD_of_wp (R:=fun e w'=>e= .returned (.tuple #[])/\Sep w0 w' (kX f q S sb (.map none) dead::R)) Tryz.func145 rfl ?_).mono ?_
 ·simp only[Tryz.ntmps145,kE,kR,rT,Nat.reduceAdd,Nat.reduceSub,zL,zM,zO,zN,nG,kW];go_wp2_with fail
  go_end0
  exact⟨rfl,hend.out⟩
 ·rintro e u' w' ⟨h1,h2,h3⟩;exact⟨h1,h2,h3⟩
theorem alO {bf bw bn bd:Nat} {u:FrameMode} (hc:w.cell? ⟨bd,0,none⟩=some (.bool true)):
  CallsD Tryz.prog 145 #[pV bd,pV bw,pV bn,pV bf] u w fun e u' w'=>
   u'=u/\e= .returned (.tuple #[])/\w'=w:=by
 refine(callsD_of_wp (R:=fun e w'=>e= .returned (.tuple #[])/\w'=w) Tryz.func145 rfl ?_).mono ?_
 ·simp only[Tryz.ntmps145,kE,kR,rT,Nat.reduceAdd,Nat.reduceSub,zL,zM,zO,zN,nG,kW];go_wp2_with fail
  go_end0
  exact⟨rfl,rfl⟩
 ·rintro e u' w' ⟨h1,h2,h3⟩;exact⟨h1,h2,h3⟩
theorem AU :∀args w,(callFunc 145 args).run Tryz.prog w= .ok (.enter 145 args) w:=Go.Proofs.enters_of Tryz.func145 fH rfl
end
def ajP (k:Nat):Code->Option Code
 | .seq (.region i o d) c=>if i=k then some (.seq (.region i o d) c)else ajP k c
 | .seq _ c=>ajP k c
 |_=>none
noncomputable def PH (k:Nat):Code:=(Tryz.f73.body.bind (ajP k)).getD .skip
def y7 (S1:VS):Bool:=decide (S1.wB<=S1.rB)&&decide (S1.wI<=S1.rI)
def dG (f q p:Nat) (S:VS) (r:Option VS) (w0:World) (R:List aZ) (e:Ending) (w':World):Prop:=
 match r with
 |none=>e= .panicked (fP 27)/\Sep w0 w' (bH f q p S::R)
 |some S1=>
  if y7 S1=true then
   if S1.bJ.2=true then e= .returned (.tuple #[])/\Sep w0 w' (bH f q p S1.settled::R)
   else e= .panicked (fP 11)/\Sep w0 w' (LV f q p false::aO p S1.bJ.1::R)
  else e= .panicked (fP 27)/\Sep w0 w' (bH f q p S::R)
structure nU (S S1:VS):Prop where
 like:eZ S S1
 m:S1.m<=40
 wB:bK S1.wB
 wI:bK S1.wI
 rB:bK S1.rB
 rI:bK S1.rI
theorem VX {a b:Int} (ha:bK a) (hb:bK b):(FloatKind.f64.format.order (fI a) (fI b)==some .gt)= !decide (a<=b):=by
 have h:FloatKind.f64.format.order (fI a) (fI b)=some (compare a b):=AV ha hb;rw[h];rcases Int.lt_trichotomy a b with h2|h2|h2
 ·rw[Int.compare_eq_lt.2 h2,decide_eq_true (Int.le_of_lt h2)];rfl
 ·rw[Int.compare_eq_eq.2 h2,decide_eq_true (Int.le_of_eq h2)];rfl
 rw[Int.compare_eq_gt.2 h2,decide_eq_false aD];rfl
section
variable {w0 w:World} {R:List aZ} {f q p:Nat} {S:VS} {a:VA}
theorem PI {S1:VS} {a1:VA} {bf bw bn bd:Nat} {tmps:Array Value} {Post:Ending->World->Prop} {x:Int} (hL:eZ S S1) (kH:VC S1 a1) (hb:S.D.back=[])
  (h:Sep w0 w (aF f q p S1 a1:: .box bd 4 #[.bool false]:: .box bf 37 #[pV f]:: .box bw 53 #[iK S.wB S.wI]:: .box bn 3 #[iV S.nodes]::R))
  (hp:∀w',Sep w0 w' (bH f q p S::R)->Post (.panicked (fP x)) w'):
  Leaves Tryz.prog Tryz.f73 tmps Post [{target:=.fn (.func 145) #[pV bd,pV bw,pV bn,pV bf],args:=#[]}] (.panicking (fP x)) w:=by
 have h1:=h.bE;have h2:Sep w0 w (jI a1.fb a1.FM::kX f q S1 a1.sb (.map (some a1.fb)) false:: .box bf 37 #[pV f]:: .box bw 53 #[iK S.wB S.wI]:: .box bn 3 #[iV S.nodes]:: .box bd 4 #[.bool false]::aH q p false::aO p S1.D::eU a1.sb a1.SM::R):=Sep.dE [4,0,6,7,8,5,1,2,3] h1 aV (by simp[pQ]);refine leaves_cons bL (uR _ _ AU) ?_;refine(abY (S:=S) hL.names hL.rB hL.rI (h2.drop 1)).mono ?_;rintro e u' w' ⟨rfl,rfl,h3⟩;exact hp w' (LX (fo:=none) hL kH hb h3)
theorem Z12 {P:Prop} (h:P:=by
 go_wp2_with(refine hd.mono ?_;rintro e w9 ⟨rfl,a1,kH,h9⟩;(have c5:=h9.fK.c5);(have c7:=h9.fK.c7);(have k0:=h9.bC 2 rfl 0);unfold iK at c5 c7;simp only[gA,gB]at k0;replace h9:=Lh h9;replace kH:=Lh kH;clear hd);go_quiet (fail);go_wp2_with fail;refine PI af8.out.like kH.out hL'.out.2.1 (h9.out.drewN nq) fun w' h5=>?_
 unfold dG;simp only;rw[if_neg (by rw[hfit.out];decide)];exact⟨trivial,h5⟩):P:=h
theorem abZ {R':List aZ} {LY:FuncId} {abX:Array Value} {r:Option VS} {bf bw bn:Nat} {u0 u3 u6 u7 u8 u9 u10 u11 u12 u13 u14 u15 u16 u17 u18 u19 u20 u21 u22 u23 u24 u25 u26 u27 u28 u29 u30 u31 u32 u33 u34 u35 u36 u37 u38 u39 u40 u41 u42 u43 u44 u45 u46 u47 u48 u49 u50 u51 u52 u53 u54 u55 u56 u57:Value} (hent:∀args w,(callFunc LY args).run Tryz.prog w= .ok (.enter LY args) w) (hC:VC S a) (hb:S.D.back=[]) (hr:∀S1,r=some S1->nU S S1)
  (hdo:∀W X,Sep w0 W (aF f q p S a::(X++R))->Calls Tryz.prog LY abX W (fO f q p S r w0 (X++R')))
  (h:Sep w0 w (aF f q p S a:: .box bf 37 #[pV f]:: .box bw 53 #[iK S.wB S.wI]:: .box bn 3 #[iV S.nodes]::R)):
  (PH 2).wp Tryz.prog (bodyPostD Tryz.prog Tryz.f73 (dG f q p S r w0 R')) {tmps:=#[u0,.func (.func LY) #[] abX,pV bf,u3,pV bw,pV bn,u6,u7,u8,u9,u10,u11,u12,u13,u14,u15,u16,u17,u18,u19,u20,u21,u22,u23,u24,u25,u26,u27,u28,u29,u30,u31,u32,u33,u34,u35,u36,u37,u38,u39,u40,u41,u42,u43,u44,u45,u46,u47,u48,u49,u50,u51,u52,u53,u54,u55,u56,u57],defers:=[]} w:=by
 have hmf:∀(fn:Fn) (first cap:Array Value) (w:World),(Instr.makeFunc fn first cap).run Tryz.prog w= .ok (.func fn first cap) w:=fun _ _ _ _=>rfl
 have h1:Sep w0 (w.alloc (.cells #[.bool false] 4)) (aF f q p S a::([.box w.heap.size 4 #[.bool false],.box bf 37 #[pV f],.box bw 53 #[iK S.wB S.wI],.box bn 3 #[iV S.nodes]]++R)):=Sep.dE [1,0,2,3,4] (h.bN 4 #[.bool false]) aV bL;have hd:=hdo _ _ h1;have ax8:=Lh hent;have hL':=Lh (And.intro hC (And.intro hb hr));clear h h1 hdo hC hb hr;unfold PH
 conv=>arg 2;whnf
 cases r with
 |none=>unfold fO at hd;simp only at hd;have hent:=ax8.out;go_wp2_with(refine hd.mono ?_;rintro e w9 ⟨rfl,S1,a1,hL,kH,h9⟩);(refine PI hL kH hL'.out.2.1 h9 fun w' h5=>?_);exact⟨rfl,h5⟩
 |some S1=>
  unfold fO at hd;simp only at hd;have hOk:=hL'.out.2.2 S1 rfl;have g1:=VX hOk.wB hOk.rB;have g2:=VX hOk.wI hOk.rI;have af8:=Lh hOk;clear hOk;have hent:=ax8.out;by_cases hB:S1.wB<=S1.rB
  ·rw[decide_eq_true hB]at g1;simp only[abF]at g1;by_cases hI:S1.wI<=S1.rI
   ·rw[decide_eq_true hI]at g2;simp only[abF]at g2;(have hfit:y7 S1=true:=by unfold y7;rw[decide_eq_true hB,decide_eq_true hI];rfl);replace hfit:=Lh hfit;clear hB hI;go_wp2_with(refine hd.mono ?_;rintro e w9 ⟨rfl,a1,kH,h9⟩;(have c5:=h9.fK.c5);(have c7:=h9.fK.c7);(have k0:=h9.bC 2 rfl 0);unfold iK at c5 c7;simp only[gA,gB]at k0;replace h9:=Lh h9;replace kH:=Lh kH;clear hd);go_quiet (fail);have hse:=O7 kH.out af8.out.m (by rw[af8.out.like.D,hL'.out.2.1];decide) (h9.out.drewN nq);clear c5 c7 g1 g2;cases hcm:S1.bJ.2 with
    |true=>(have alD:Calls Tryz.prog 101 #[pV f] (w9.drewN nq) fun e w'=>e= .returned (.tuple #[])/\(∃u,w'.cell? ⟨w.heap.size,0,none⟩=some (.bool u))/\w'.frozen? ⟨w.heap.size,0,none⟩=false/\(w'.setCell ⟨w.heap.size,0,none⟩ (.bool true)).cell? ⟨w.heap.size,0,none⟩=some (.bool true)/\dG f q p S (some S1) w0 R' (.returned (.tuple #[])) (w'.setCell ⟨w.heap.size,0,none⟩ (.bool true)):=by refine hse.mono ?_;intro e w' ho;unfold nH at ho;rw[if_pos hcm]at ho;obtain⟨rfl,a2,hV,h8⟩:=ho;have h7:=h8.bS 1 rfl 0 (.bool true);refine⟨rfl,⟨_,h8.bC 1 rfl 0⟩,h8.bF 1 rfl 0,h7.bC 1 rfl 0,?_⟩;unfold dG;simp only;rw[if_pos hfit.out,if_pos hcm];refine⟨trivial,YS hV (LW hcm (by rw[af8.out.like.D];exact hL'.out.2.1)) ?_⟩;have h6:Sep w0 _ (.box w.heap.size 4 #[.bool true]:: .box bf 37 #[pV f]:: .box bw 53 #[iK S.wB S.wI]:: .box bn 3 #[iV S.nodes]::aF f q p S1.settled a2::R'):=Sep.dE [1,2,3,4,0] h7 aV bL;exact h6.drop 4);clear hse h9 kH hcm;go_wp2_with(go_at_call 101;refine alD.mono ?_;rintro e w8 ⟨rfl,⟨u,k1⟩,f1,k2,hend⟩;replace hend:=Lh hend;replace k2:=Lh k2);refine leaves_cons (u:=.returning) bL (uR _ _ AU) ?_;refine(alO k2.out).mono ?_;rintro e u' w' ⟨rfl,rfl,rfl⟩;exact⟨.tuple #[],by simp[results,Tryz.results73],hend.out⟩
    |false=>(have alD:Calls Tryz.prog 101 #[pV f] (w9.drewN nq) fun e w'=>e= .panicked (fP 11)/\∃sb fo,Sep w0 w' (kX f q S1 sb (.map fo) false:: .box bf 37 #[pV f]:: .box bw 53 #[iK S.wB S.wI]:: .box bn 3 #[iV S.nodes]:: .box w.heap.size 4 #[.bool false]::aH q p true::aO p S1.bJ.1::R'):=by refine hse.mono ?_;intro e w' ho;unfold nH at ho;rw[if_neg (by rw[hcm];decide)]at ho;obtain⟨rfl,sb,h8⟩:=ho;exact⟨rfl,sb,_,Sep.dE [0,4,5,6,3,1,2] h8 aV bL⟩);have hcm':=Lh hcm;clear hse h9 kH hcm;go_wp2_with(go_at_call 101;refine alD.mono ?_;rintro e w8 ⟨rfl,sb,fo,h8⟩;replace h8:=Lh h8);refine leaves_cons (u:=.panicking (fP 11)) (by simp[fP]) (uR _ _ AU) ?_;refine(abY (S:=S) af8.out.like.names af8.out.like.rB af8.out.like.rI h8.out).mono ?_;rintro e u' w' ⟨rfl,rfl,h7⟩;(show dG f q p S (some S1) w0 R' (.panicked (fP 11)) w');unfold dG;simp only;rw[if_pos hfit.out,if_neg (by rw[hcm'.out];decide)];exact⟨trivial,h7.VV⟩
   rw[decide_eq_false hI]at g2;simp only[U7]at g2;(have hfit:y7 S1=false:=by unfold y7;rw[decide_eq_false hI,Bool.and_false]);replace hfit:=Lh hfit;clear hB hI;exact Z12
  rw[decide_eq_false hB]at g1;simp only[U7]at g1;(have hfit:y7 S1=false:=by unfold y7;rw[decide_eq_false hB,OH]);replace hfit:=Lh hfit;clear hB g2;exact Z12
end
end Go.Proofs.YtmjomdkleikgbaaGreat
