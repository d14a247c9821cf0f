/- Parts. -/
import Derived.Test.YtmjomdkleikgbaaGreatK13
set_option linter.unusedVariables false
set_option linter.unusedSimpArgs false
set_option maxRecDepth 100000
set_option maxHeartbeats 20000000
namespace Go.Proofs.YtmjomdkleikgbaaGreat
open Go.RowKit
theorem PS {w0 w:World} {R:List aW} {f q p:Nat} {S:VS} {a:VA} {r:Nat} {v:Value} {Ms V:BM} {P:List xQ} {b:VA} (h:NB f q p S a r w0 w R v Ms V P b) (hm:a.FM.length<=4000):P.length<=4000:=by
 have h1:(P.map (·.1)).length=((V.filter (wF S)).map fun x=>(x.1,x.2.1)).length:=by rw[h.puts]
 rw[iJ,iJ]at h1;have h2:=OJ (wF S) V;have h3:=h.perm.length_eq;rw[jM]at h3;omega
section
variable {w0 w:World} {R:List aW} {f q p:Nat} {S:VS} {a:VA}
def nJ (f q p:Nat) (S:VS) (a:VA) (w0:World) (R:List aW) (e:Ending) (w':World):Prop:=
 if S.bJ.2=true then e= .returned (.tuple #[])/\∃a',VCw S.settled a'/\Sep w0 w' (aF f q p S.settled a'::R)
 else e= .panicked (fA 11)/\∃sb,Sep w0 w' (kF f q S sb (.map (some a.fb)) false::aG q p true::aO p S.bJ.1::R)
theorem Sep.aIX {b:VA} {r:Nat} {v:Value} {V:BM} {P:List xQ} (hI:NB f q p S a r w0 w R v [] V P b):
  Sep w0 w (.sl 208 2 v P.length (P.flatMap tN)::lJ 3 a.fb (iK a.FM):: .dU (eG a.FM)::kF f q S b.sb (.map (some a.fb)) false::aG q p false::aO p S.D::dY b.sb b.SM::R):=by
 have h1:=(hI.sep.agS).aqI 0 rfl;rw[hI.reads.fb]at h1;exact Sep.dB [6,0,1,2,3,4,5] h1 aR bK
theorem Z5 {P:Prop} (h:P:=by
 replace hcc:=hcc.out;go_loopg[] a.FM.length (fun g wr2=>Hid (∃Ms V,agX f q p S a b S.bJ.1 W8.heap.size w0 wr2 R Ms V/\g=Ms.length))
 case atStart=>exact Lh ⟨a.FM,[],hL.out,rfl⟩
 clear hL hrg;obtain⟨Ms,V2,hJ,rfl⟩:=hrel.out;clear hrel;rcases hJ.sep.acH 0 with⟨rfl,hnx2⟩|⟨x,w6,hx,hnx2,kM,uX⟩
 ·obtain⟨f2,d2,hfin⟩:=akB.out _ _ _ hcc hJ;replace hfin:=Lh hfin;clear hJ ZF akB akC;go_wp2_with fail
  go_end0
  exact hfin.out
 obtain⟨sb,W3,d1,hmu,hJ2,hlt⟩:=ZF.out _ _ _ _ _ _ hJ hx kM;have hx2:∃A c,x.2.1= .slice A 512 c:=by have hxF:x∈a.FM:=hJ.perm.subset (abR _ hx);have hb1:=hJ.sep.ZE 3 rfl hxF;have hxc:=hC'.out.fresh x hxF;obtain⟨_,A,c,e,_⟩:=hb1;rw[hxc.2,jW hC'.out.cur hxc.1]at e;exact⟨A,c,e⟩
 obtain⟨A6,c6,e6⟩:=hx2;rw[e6]at hnx2 uX hmu;obtain⟨i,hi⟩:∃i,i=x.1:=⟨_,rfl⟩;rw[<-hi]at hnx2 uX hmu;obtain⟨Ms2,aDR⟩:∃Ms2,Ms2=gY Ms x.1:=⟨_,rfl⟩;rw[<-aDR]at hJ2 hlt;replace hJ2:=Lh hJ2;replace hlt:=Lh hlt;clear hJ kM ZF akB akC e6 hx hi aDR;go_wp2_with fail;go_roundg Ms2.length
 case measure=>exact hlt.out
 case rel=>exact Lh ⟨Ms2,_,hJ2.out,rfl⟩):P:=h
theorem PT (hC:VC S a) (hm:S.m<=40) (hback:S.D.back.length<=60000) (h:Sep w0 w (aF f q p S a::R)):
  Calls Tryz.prog 101 #[pV f] w (nJ f q p S a w0 R):=by
 have h1:=h.bG;have hkey:Sep w0 w (lJ 3 a.fb (iK a.FM):: .dU (eG a.FM)::kF f q S a.sb (.map (some a.fb)) false::aG q p false::aO p S.D::dY a.sb a.SM::R):=Sep.jO (Sep.dB [4,0,1,2,3] h1 aR (by simp[pU]));have hnd:(a.FM.map (·.1)).Nodup:=by have h1:=(hkey.rU 0 rfl).ne;exact Z62
 have hshort:=hC.aqK hnd;obtain⟨w1,hrg,hS1,hsz1⟩:=hkey.PU 0 rfl dN Tryz.underlying111;have hI0:Hid (∃Ms V P b,NB f q p S a w.heap.size w0 w1 R (.slice none 0 0) Ms V P b/\a.FM.length=Ms.length):=Lh ⟨a.FM,[],[],a,⟨.refl hC,by simp,rfl,fun h=>absurd rfl h,by have h3:Sep w0 w1 (UN a.fb w.heap.size a.FM a.FM:: .dU (eG a.FM)::kF f q S a.sb (.map (some a.fb)) false::aG q p false::aO p S.D::dY a.sb a.SM::R):=hS1;have h4:Sep w0 w1 (UN a.fb w.heap.size a.FM a.FM:: .dU (eG a.FM)::kF f q S a.sb (.map (some a.fb)) false::aG q p false::aO p S.D::dY a.sb a.SM:: .sl 208 2 (.slice none 0 0) 0 []::R):=Sep.dB [1,2,3,4,5,6,0] (h3.gZ 208 2) aR bK;exact h4.ay2⟩,rfl⟩;have c2:=h.fO.c2;obtain⟨i0,pR,hz0,hz1,hz2⟩:=iR aqD;have hC':=Lh hC;have hnd':=Lh hnd;have hshort':=Lh hshort;have hm':=Lh hm;have agY:=Lh hback;obtain⟨rb,hrb⟩:∃rb,rb=w.heap.size:=⟨_,rfl⟩;rw[<-hrb]at hI0 hrg;clear hC hm hback h h1 hkey hnd hS1 hsz1 hrb hshort;go_enter Tryz.func101,Tryz.ntmps101;go_wp2_with fail;go_loopg[2] a.FM.length (fun g u wr=>Hid (∃Ms V P b,NB f q p S a rb w0 wr R u Ms V P b/\g=Ms.length))
 case atStart=>exact hI0
 clear hI0 c2 hrg;obtain⟨Ms,V,P,b,hI,rfl⟩:=hrel.out;clear hrel;rcases(hI.sep.agS).acH 0 with⟨rfl,hnx⟩|⟨x,w3,hx,hnx,dQ,hen⟩
 ·have hS:=Sep.aIX hI;(have hVp:V.Perm a.FM:=by have:=hI.perm;rw[yX46]at this;exact this);have hsort:=amB hS (by have:=PS hI hshort'.out;omega);obtain⟨n,hn⟩:∃n,n=P.length:=⟨_,rfl⟩;(have aIY:n<=40:=by have h1:=congrArg List.length hI.puts;rw[iJ,iJ]at h1;have h2:=OJ (wF S) V;have h3:=hVp.length_eq;have h4:=hC'.out.few;have h5:=hm'.out;omega);(have hu2:∃A c,u2= .slice A n c:=by obtain⟨A,c,e⟩:=hI.sep.dV 0 rfl;exact⟨A,c,by rw[e,hn]⟩);obtain⟨Au,cu,hu2⟩:=hu2;subst hu2
  --what the ledger answers
  have PV:Hid (∀W P',P.Perm P'->P'.Pairwise (fun x y:xQ=>x.1.1<=y.1.1)->Sep w0 W (.sl 208 2 (.slice Au n cu) n (P'.flatMap tN)::lJ 3 a.fb (iK a.FM):: .dU (eG a.FM)::kF f q S b.sb (.map (some a.fb)) false::aG q p false::aO p S.D::dY b.sb b.SM::R)->
    W.cell? ⟨f,0,none⟩=some (pV q)/\
    ((n=0/\S.bJ=(S.D,true))\/(1<=n/\Calls Tryz.prog 167 #[pV q,.slice Au n cu] W fun e w'=>e= .returned (iV (amF S.bJ.2))/\Sep w0 w' (aG q p (!S.bJ.2)::aO p S.bJ.1::lJ 3 a.fb (iK a.FM):: .dU (eG a.FM)::kF f q S b.sb (.map (some a.fb)) false::dY b.sb b.SM::R)))):=Lh fun W P' hp hs hW=>by
   have hps:=acM hC'.out hnd'.out hVp hI.puts hp hs;(have hPn:P'.length=n:=by rw[hn];exact hp.length_eq.symm);refine⟨hW.bC 3 rfl 0,?_⟩;rcases yL n with h0|hpos
   ·refine .inl ⟨h0,?_⟩;(have:jJ S=[]:=by rw[<-hps,vS (hPn.trans h0)];rfl);unfold VS.bJ;rw[if_pos this]
   refine .inr ⟨hpos,?_⟩;(have hne:¬jJ S=[]:=by intro e;rw[<-hps]at e;have:=List.map_eq_nil_iff.1 e;rw[this]at hPn;simp at hPn;omega);obtain⟨g,c,e,_,_,hc1,hc2⟩:=hW.kC 0 rfl hpos;cases e;have hW2:Sep w0 W (aG q p false::aO p S.D:: .sl 208 2 (sV g n cu) n (P'.flatMap tN)::lJ 3 a.fb (iK a.FM):: .dU (eG a.FM)::kF f q S b.sb (.map (some a.fb)) false::dY b.sb b.SM::R):=Sep.dB [4,5,0,1,2,3,6] hW aR bK;have hin:=av5 (w0:=w0) (w:=W) (R':=.sl 208 2 (sV g n cu) n (P'.flatMap tN)::lJ 3 a.fb (iK a.FM):: .dU (eG a.FM)::kF f q S b.sb (.map (some a.fb)) false::dY b.sb b.SM::R) hC'.out hVp hI.puts hp hPn (hW2.drop 2) 0 2 rfl rfl;have hcm:=agZ hC'.out.nV hC'.out.big (av6 (V:=V) (P:=P) hC'.out hps aD aD) hin hc1 hc2 agY.out hW2;(have hce:S.bJ=kT (bY (jJ S)) S.D:=by unfold VS.bJ;rw[if_neg hne]);rw[hce];rw[hps]at hcm;refine hcm.mono ?_;rintro e w' ⟨rfl,h9⟩;exact⟨rfl,(Sep.dB [2,0,1] h9 aR bK).drop 1⟩
  --what the second loop begins with
  (have hne:a.FM≠[]->b.SM≠[]:=fun h1=>hI.read fun h2=>h1 (by rw[h2]at hVp;exact List.Perm.eq_nil hVp.symm));have hloop:Hid (∀W,S.bJ.2=true->Sep w0 W (aG q p false::aO p S.bJ.1::lJ 3 a.fb (iK a.FM):: .dU (eG a.FM)::kF f q S b.sb (.map (some a.fb)) false::dY b.sb b.SM::R)->
    W.cell? ⟨f,2,none⟩=some (.map (some a.fb))/\∃W2,(Instr.range 111 (.map (some a.fb))).run Tryz.prog W= .ok (pV W.heap.size) W2/\agX f q p S a b S.bJ.1 W.heap.size w0 W2 R a.FM []):=Lh fun W hc hW=>by
   refine⟨hW.bC 4 rfl 2,?_⟩;have h1:Sep w0 W (dY b.sb b.SM::lJ 3 a.fb (iK a.FM):: .dU (eG a.FM)::kF f q S b.sb (.map (some a.fb)) false::aG q p false::aO p S.bJ.1::R):=Sep.dB [5,2,3,4,0,1] hW aR bK;have h2:=h1.agV hI.reads.ok.none;have h3:Sep w0 W (lJ 3 a.fb (iK a.FM)::WG b.sb b.SM:: .dU (eG b.SM):: .dU (eG a.FM)::kF f q S b.sb (.map (some a.fb)) false::aG q p false::aO p S.bJ.1::R):=Sep.dB [2,0,1,3,4,5,6] h2 aR bK;obtain⟨W2,hrun,h4,_⟩:=h3.PU 0 rfl dN Tryz.underlying111;exact⟨W2,hrun,by simp,h4⟩
  have akB:Hid (∀W V2 r2,S.bJ.2=true->agX f q p S a b S.bJ.1 r2 w0 W R [] V2->(W.alloc (.map #[] 0)).frozen? ⟨f,2,none⟩=false/\(W.alloc (.map #[] 0)).cell? ⟨f,2,none⟩=some (.map (some a.fb))/\nJ f q p S a w0 R (.returned (.tuple #[])) ((W.alloc (.map #[] 0)).setCell ⟨f,2,none⟩ (.map (some W.heap.size)))):=Lh fun W V2 r2 hc hW=>by
   (have hV2:V2.Perm a.FM:=by have:=hW.perm;rw[yX46]at this;exact this);have h1:=(hW.sep.aqI 0 rfl).drop 1;have h2:Sep w0 W (WG b.sb (jZ b.SM V2):: .dU (eG b.SM):: .dU (eG a.FM)::kF f q S b.sb (.map (some a.fb)) false::aG q p false::aO p S.bJ.1::R):=h1;have hsn:b.sb=none->b.SM=[]/\V2=[]:=fun hs=>by
    have h3:=hI.reads.ok.none hs;refine⟨h3,?_⟩;by_cases e:a.FM=[]
    ·rw[e]at hV2;exact List.Perm.eq_nil hV2
    exact absurd h3 (hne e)
   have h3:=(h2.amE hV2 hsn).yT;have h4:=h3.bS 2 rfl 2 (.map (some W.heap.size));refine⟨h3.bF 2 rfl 2,h3.bC 2 rfl 2,?_⟩;unfold nJ;rw[if_pos hc];refine⟨rfl,_,agW hC'.out hI.reads hV2 hm'.out hc hne W.heap.size,?_⟩;have h5:Sep w0 ((W.alloc (.map #[] 0)).setCell ⟨f,2,none⟩ (.map (some W.heap.size))) (pU f q p S.settled ⟨b.sb,jZ b.SM V2,W.heap.size,[]⟩++R):=Sep.dB [2,3,4,1,0] h4 aR bK;exact h5.dC
  (have akC:Hid (∀W,S.bJ.2=false->Sep w0 W (aG q p true::aO p S.bJ.1::lJ 3 a.fb (iK a.FM):: .dU (eG a.FM)::kF f q S b.sb (.map (some a.fb)) false::dY b.sb b.SM::R)->nJ f q p S a w0 R (.panicked (fA 11)) W):=Lh fun W hc hW=>by unfold nJ;rw[if_neg (by rw[hc];decide)];have h5:Sep w0 W (lJ 3 a.fb (iK a.FM):: .dU (eG a.FM)::dY b.sb b.SM::kF f q S b.sb (.map (some a.fb)) false::aG q p true::aO p S.bJ.1::R):=Sep.dB [2,3,5,4,0,1] hW aR bK;exact⟨rfl,_,h5.drop 3⟩);have ZF:Hid (∀W Ms V2 r2 x W',agX f q p S a b S.bJ.1 r2 w0 W R Ms V2->x∈Ms->Sep w0 W' (UN a.fb r2 a.FM (gY Ms x.1)::WG b.sb (jZ b.SM V2):: .dU (eG b.SM):: .dU (eG a.FM)::kF f q S b.sb (.map (some a.fb)) false::aG q p false::aO p S.bJ.1::R)->
    ∃sb W3,W'.cell? ⟨f,1,none⟩=some (.map (some sb))/\(Instr.mapUpdate 111 (.map (some sb)) (.int .i64 (x.1:Nat)) x.2.1).run Tryz.prog W'= .ok () W3/\agX f q p S a b S.bJ.1 r2 w0 W3 R (gY Ms x.1) (V2++[x])/\(gY Ms x.1).length<Ms.length):=Lh fun W Ms V2 r2 x W' hW hx hW'=>by
   have hxF:x∈a.FM:=hW.perm.subset (abR _ hx);obtain⟨sb,hsb⟩:∃sb,b.sb=some sb:=by
    cases hs:b.sb with
    |some sb=>exact⟨sb,rfl⟩
    |none=>exact absurd (hI.reads.ok.none hs) (hne (fun e=>by rw[e]at hxF;cases hxF))
   have c1:=hW'.bC 4 rfl 1;have h2:=hW';rw[hsb]at h2 c1;have hkb:((V2++Ms).map (·.1)).Nodup:=(hW.perm.map (·.1)).nodup_iff.2 hnd'.out;have hxc:=hC'.out.fresh x hxF;(have hnk:((jZ b.SM V2).map (·.1)).Nodup:=by have h1:=(h2.rU (L:=iK (jZ b.SM V2)) 1 rfl).ne;exact Z62);have hlen:(jZ b.SM V2).length<=4096:=by
    have h1:((jZ b.SM V2).map (·.1)).length<=(List.range (S.nb-96)).length:=alW hnk fun k hk=>by
     obtain⟨y,hy,rfl⟩:=List.mem_map.1 hk;rcases WE hy with h3|⟨h3,_⟩
     ·exact List.mem_range.2 (hC'.out.fresh y (hW.perm.subset (vU _ h3))).1
     exact List.mem_range.2 (hI.reads.ok.seen y h3).1
    have h2:=hC'.out.nV.few;rw[iJ,LW]at h1;omega
   obtain⟨W3,hrun,h3⟩:=h2.lS (L:=iK (jZ b.SM V2)) (v:=x.2.1) 1 rfl dN Tryz.underlying111 (by unfold iK;rw[iJ];unfold maxLen;omega) (jS x.1 (by have:=hC'.out.nV.few;omega));rw[PW _ x.1 x.2.1 x.2.2]at h3;rw[mZ,tK]at hkb;have h4:=WB hkb.2.1 hx;refine⟨sb,W3,c1,hrun,⟨?_,?_⟩,?_⟩
   ·rw[pG];exact((abM V2 h4).symm).trans hW.perm
   ·rw[agT,hsb];exact h3
   have:=h4.length_eq;rw[kH]at this;omega
  rw[<-hn]at hsort;have hmm:= @run_makeMap Tryz.prog;obtain⟨cb,hcb⟩:∃cb,cb=S.bJ.2:=⟨_,rfl⟩;have aP5:=Lh hcb;(have hn1:(n:Int)<=40:=by omega);(have hn0:(0:Int)<=n:=by omega);clear hI hS hVp hn aIY hne hcb;rcases yL n with h0|hpos
  ·subst h0;have hA:Hid (∀W P',P.Perm P'->P'.Pairwise (fun x y:xQ=>x.1.1<=y.1.1)->Sep w0 W (.sl 208 2 (.slice Au 0 cu) 0 (P'.flatMap tN)::lJ 3 a.fb (iK a.FM):: .dU (eG a.FM)::kF f q S b.sb (.map (some a.fb)) false::aG q p false::aO p S.D::dY b.sb b.SM::R)->S.bJ.2=true/\W.cell? ⟨f,2,none⟩=some (.map (some a.fb))/\∃W2,(Instr.range 111 (.map (some a.fb))).run Tryz.prog W= .ok (pV W.heap.size) W2/\agX f q p S a b S.bJ.1 W.heap.size w0 W2 R a.FM []):=Lh fun W P' hp hs hW=>by
    obtain⟨_,h1|⟨h1,_⟩⟩:=PV.out _ _ hp hs hW
    ·(have hc:S.bJ.2=true:=by rw[h1.2]);refine⟨hc,?_⟩;(have e:S.bJ.1=S.D:=by rw[h1.2]);refine hloop.out W hc ?_;rw[e];exact(Sep.dB [4,5,1,2,3,6,0] hW aR bK).perm (by simp only[kH,qQ];exact EW _)|>.dB [6,0,1,2,3,4,5] aR bK|>.drop 1
    exact absurd h1 aR
   clear PV hloop;go_wp2_with(go_at_call 165;refine hsort.mono ?_;rintro e W8 ⟨rfl,P',hp,hs,h9⟩;obtain⟨hcc,c2,w7,hrg,hL⟩:=hA.out _ _ hp hs h9;replace hL:=Lh hL;replace hcc:=Lh hcc;clear hsort hA hp hs h9 hnx);exact Z5
  have hB:Hid (∀W P',P.Perm P'->P'.Pairwise (fun x y:xQ=>x.1.1<=y.1.1)->Sep w0 W (.sl 208 2 (.slice Au n cu) n (P'.flatMap tN)::lJ 3 a.fb (iK a.FM):: .dU (eG a.FM)::kF f q S b.sb (.map (some a.fb)) false::aG q p false::aO p S.D::dY b.sb b.SM::R)->W.cell? ⟨f,0,none⟩=some (pV q)/\
   Calls Tryz.prog 167 #[pV q,.slice Au n cu] W fun e w'=>e= .returned (iV (amF S.bJ.2))/\Sep w0 w' (aG q p (!S.bJ.2)::aO p S.bJ.1::lJ 3 a.fb (iK a.FM):: .dU (eG a.FM)::kF f q S b.sb (.map (some a.fb)) false::dY b.sb b.SM::R)):=Lh fun W P' hp hs hW=>by
   obtain⟨c0,h1|⟨_,h1⟩⟩:=PV.out _ _ hp hs hW
   ·exact absurd h1.1 aD
   ·exact⟨c0,h1⟩
  (have hn2:(0:Int)<n:=by omega);cases hcv:S.bJ.2 with
  |true=>(have hD:Hid (∀W,Sep w0 W (aG q p (!S.bJ.2)::aO p S.bJ.1::lJ 3 a.fb (iK a.FM):: .dU (eG a.FM)::kF f q S b.sb (.map (some a.fb)) false::dY b.sb b.SM::R)->W.cell? ⟨f,2,none⟩=some (.map (some a.fb))/\∃W2,(Instr.range 111 (.map (some a.fb))).run Tryz.prog W= .ok (pV W.heap.size) W2/\agX f q p S a b S.bJ.1 W.heap.size w0 W2 R a.FM []):=Lh fun W hW=>by rw[hcv]at hW;exact hloop.out W hcv hW);(have hE:amF S.bJ.2=0:=by rw[hcv];rfl);rw[hE]at hB;have hcc:=Lh hcv;clear PV hloop hcv hE;go_wp2_with(first |(go_at_call 165;refine hsort.mono ?_;rintro e w9 ⟨rfl,P',hp,hs,h9⟩;obtain⟨c0,hcm⟩:=hB.out _ _ hp hs h9;clear hsort hB hp hs h9 hnx)|(go_at_call 167;refine hcm.mono ?_;rintro e W8 ⟨rfl,h8⟩;obtain⟨c2,w7,hrg,hL⟩:=hD.out _ h8;replace hL:=Lh hL;clear hcm hD h8)|(go_at_call 54;refine(eQ _ _).mono ?_;rintro e w5 ⟨rfl,h5⟩;obtain rfl:=h5.symm));exact Z5
  |false=>(have hD:Hid (∀W,Sep w0 W (aG q p (!S.bJ.2)::aO p S.bJ.1::lJ 3 a.fb (iK a.FM):: .dU (eG a.FM)::kF f q S b.sb (.map (some a.fb)) false::dY b.sb b.SM::R)->nJ f q p S a w0 R (.panicked (fA 11)) W):=Lh fun W hW=>by rw[hcv]at hW;exact akC.out W hcv hW);(have hE:amF S.bJ.2=11:=by rw[hcv];rfl);rw[hE]at hB;clear PV hloop hcv hE akB ZF akC;go_wp2_with(first |(go_at_call 165;refine hsort.mono ?_;rintro e w9 ⟨rfl,P',hp,hs,h9⟩;obtain⟨c0,hcm⟩:=hB.out _ _ hp hs h9;clear hsort hB hp hs h9 hnx)|(go_at_call 167;refine hcm.mono ?_;rintro e W8 ⟨rfl,h8⟩;have hend:=Lh (hD.out _ h8);clear hcm hD h8)|(go_at_call 54;refine(eQ _ _).mono ?_;rintro e w5 ⟨rfl,h5⟩;obtain rfl:=h5.symm));exact⟨rfl,hend.out⟩
 have hxF:x∈a.FM:=hI.perm.subset (abR _ hx);have hxc:=hC'.out.fresh x hxF;have hlen:x.2.2.length=512:=by rw[hxc.2];exact jW hC'.out.cur hxc.1
 have ay3:(bk S.D.now (96+x.1)).length=512:=hC'.out.akD hxc.1;have hby:Hid (∀W b' A C,Sep w0 W (C::BF f q p S b' (.star A (.dU (eG a.FM)))::R)->BytesAt W x.2.1 x.2.2):=Lh fun W b' A C hS=>((hS.agS).perm (List.Perm.swap _ _ _)).aj9 hxF
 obtain⟨i,hi⟩:∃i,i=x.1:=⟨_,rfl⟩;obtain⟨bx,hbx⟩:∃bx,bx=x.2.2:=⟨_,rfl⟩;obtain⟨bd,hbd⟩:∃bd,bd=bk S.D.now (96+x.1):=⟨_,rfl⟩;have jT:=dQ.ay2;have hb1:=hby.out _ _ _ _ jT;obtain⟨Ax,cx,hvx⟩:∃A c,x.2.1= .slice A 512 c:=by obtain⟨_,A,c,e,_⟩:=hb1;rw[hlen]at e;exact⟨A,c,e⟩
 rw[hvx]at hnx hen hby hb1;rw[<-hbx]at hb1 hby;rw[<-hi]at hnx hen;have hold:=aqB (i:=i) hI.reads.ok (by rw[hi];exact hxc.1) ((jT.perm (List.Perm.swap _ _ _)).drew);have hcv:=gX hb1;have amG:(convert 69 9 (.slice Ax 512 cx)).run Tryz.prog w3.drew= .ok (aC bx) w3.drew:=gX (hb1.below ((Below.refl _ _).drew));have i4:(i:Int)<=4096:=by have:=hC'.out.nV.few;omega
 have i0':(0:Int)<=i:=by omega
 have hI':=Lh hI;have ZG:=Lh jT;replace hold:=Lh hold;have hi':=Lh hi;have aDS:=Lh hbx;have ZH:=Lh hbd;have aI0:=Lh hvx;have hx':=Lh hx;have aP6:=Lh hxF;have aDT:=Lh (And.intro hlen ay3);clear hI dQ jT hb1 hi hbx hbd hvx hx hxF hxc hlen ay3 hcv;unfold aC at amG;obtain⟨N,hN⟩:∃N,N=P.length:=⟨_,rfl⟩;have hu2:∃A c,u2= .slice A N c:=by obtain⟨A,c,e⟩:=hI'.out.sep.dV 0 rfl;exact⟨A,c,by rw[e,hN]⟩
 obtain⟨Au,cu,hu2⟩:=hu2;subst hu2;have hN4:N<=4000:=by rw[hN];exact PS hI'.out hshort'.out
 have hN':=Lh hN;have aDU:=Lh hN4;clear hN hN4;go_wp2_with fail;refine aP (S:=fun w'=>(convert 69 9 (.slice Ax 512 cx)).run Tryz.prog w'= .ok (.string ⟨bx.toArray⟩) w') 7 ?_;refine aA 0 amG ?_;refine aA 1 amG ?_;refine aA 4 amG ?_;refine aA 5 amG ?_;refine bI 2 fun K hK=>?_
 go_simp;go_at_call 157;refine hold.out.mono ?_;rintro e w9 ⟨v9,b2,rfl,hR2,hf2,h9⟩;have aDV:=hby.out _ _ _ _ (h9.perm (List.Perm.swap _ _ _));have hbo:=h9.av4 hf2 hR2.ok.none;rw[hi'.out,<-ZH.out]at hbo;obtain⟨A9,c9,e9⟩:∃A c,v9= .slice A 512 c:=by obtain⟨_,A,c,e,_⟩:=hbo;rw[ZH.out,aDT.out.2]at e;exact⟨A,c,e⟩
 subst e9;have av7:(convert 69 9 (.slice Ax 512 cx)).run Tryz.prog w9= .ok (.string ⟨bx.toArray⟩) w9:=gX aDV;have aP7:(convert 69 9 (.slice A9 512 c9)).run Tryz.prog w9= .ok (.string ⟨bd.toArray⟩) w9:=gX hbo;have h9':=Lh (h9.perm (List.Perm.swap _ _ _));have al2:=Lh hR2;have aqL:=Lh hf2;clear aDV hbo h9 hold amG hR2 hf2;dsimp only;refine hK _ _ (fun _=>av7) ?_;clear hK K;try simp only[Act.put,gD]
 refine bA 3 (fun _=>av7) ?_;have vY:Hid (Sep w0 w9 (.sl 208 2 (.slice Au N cu) N (P.flatMap tN)::BF f q p S b2 (.star (UN a.fb rb a.FM (gY Ms x.1)) (.dU (eG a.FM)))::R)):=by rw[hN'.out];have:=h9'.out;rw[hN'.out]at this;exact Lh this
 by_cases hd:bd=bx
 ·(have e1:(bd==bx)=true:=by simpa using hd);(have e2:(bd.toArray==bx.toArray)=true:=by rw[hd];simp);have hd':=Lh hd;clear hd;refine bA 6 (fun _=>av7) ?_;refine aQ fE ?_ _;go_wp2_with fail;go_roundg (gY Ms x.1).length
  case measure=>exact(hI'.out.DT hnd'.out hx'.out).2
  refine Lh ⟨_,V++[x],P,b2,hI'.out.amC hnd'.out hx'.out ?_ al2.out (acJ aqL.out) ?_,rfl⟩
  ·unfold wF;rw[<-aDS.out,<-ZH.out,hd'.out];simp
  rw[<-hN'.out];exact vY.out
 have e1:(bd==bx)=false:=by simpa using hd
 have e2:(bd.toArray==bx.toArray)=false:=by simpa using hd
 have hd':=Lh hd;clear hd;refine bA 6 (fun _=>av7) ?_;refine aQ fE ?_ _;go_wp2_with(at_builtin;refine dI 0 rfl _ _ 206 rfl 208 i0 _ 2 32 Tryz.underlying206 pR hz0 hz1 hz2 rfl aR (vY.out.alloc (.cells #[iV (i:Nat),.slice Ax 512 cx] 208)) (.slice Au N cu) N (P.flatMap tN) rfl rfl (sV w9.heap.size 1 1) 1 [.int .i64 (i:Nat),.slice Ax 512 cx] rfl ⟨rfl,_,_,rfl,iC _,by unfold maxLen;omega,fun _=>⟨_,rfl,by rw[World.size_alloc];exact J5 _,jP w9 #[iV (i:Nat),.slice Ax 512 cx] 208 _ rfl⟩⟩ oCl (by have:=aDU.out;unfold maxLen;omega) (by have:=aDU.out;omega) ?_;intro v5 w5 hS5 hz5;replace hS5:=Lh hS5);go_roundg (gY Ms x.1).length
 case measure=>exact(hI'.out.DT hnd'.out hx'.out).2
 refine Lh ⟨_,V++[x],P++[⟨(i,.slice Ax 512 cx),by omega,Ax,512,cx,rfl⟩],b2,hI'.out.amD hnd'.out hx'.out ?_ ?_ al2.out (acJ aqL.out) ?_,rfl⟩
 ·unfold wF;rw[<-aDS.out,<-ZH.out];have:=hd'.out;simp;exact fun e=>this e.symm
 ·(show(i,Value.slice Ax 512 cx)=(x.1,x.2.1));rw[hi'.out,aI0.out]
 rw[<-hN'.out];exact hS5.out
end
structure VR (S:VS) (sb:Option Nat) (SM:BM):Prop where
 nV:S.D.ok S.nb
 big:96<S.nb
 seen:∀x∈SM,x.1<S.nb-96/\x.2.2=bk S.D.now (96+x.1)
 none:sb=none->SM=[]
 back:S.D.back=[]
def ay4 (f q p:Nat) (S:VS) (sb:Option Nat) (SM:BM) (fo:Option Nat):List aW:=[kF f q S sb (.map fo) false,aG q p false,aO p S.D,dY sb SM]
def bB (f q p:Nat) (S:VS):aW:=.ex fun t:Option Nat×BM×Option Nat=>.star (.pure (VR S t.1 t.2.1)) (.dU (ay4 f q p S t.1 t.2.1 t.2.2))
def iU (f q p:Nat) (dead:Bool):aW:=.ex fun t:VS×Option Nat×Option Nat=>.dU [kF f q t.1 t.2.1 (.map t.2.2) dead,aG q p true]
def VS.base (S:VS):VS:= {S with cur:=S.D.now.drop 96,m:=0}
theorem DU (c:gI) (i k:Nat):bk (c.drop i) k=bk c (i+k):=by unfold bk;rw[gH,gH,AV]
theorem kU.drop {n:Nat} {c:gI} (h:kU n c) (i:Nat):kU (n-i) (c.drop i):=
 ⟨by rw[rZ,h.len],fun b hb=>h.size b (List.mem_of_mem_drop hb)⟩
theorem WH :∀ {l:List tO} {D D':DK},kT (l++[none]) D=(D',true)->D'.back=[]
 |[],D,D',h=>by
  rw[mI,kT]at h;split at h
  ·cases h
  cases h;exact DK.akF D
 |x::l,D,D',h=>by
  rw[kI,kT]at h;split at h
  ·cases h
  exact WH h
theorem MK {S:VS} (h:S.bJ.2=true) (hb:S.D.back=[]):S.bJ.1.back=[]:=by
 unfold VS.bJ at h ⊢;split
 ·exact hb
 rename_i hne;rw[if_neg hne]at h;have h1:kT (bY (jJ S)) S.D=((kT (bY (jJ S)) S.D).1,true):=by rw[<-h]
 have e:bY (jJ S)=(kL (jJ S)++(none::some (0,fT ((jJ S).map (·.1)))::none::(gQ (jJ S)++[none,some (0,fT [])])))++[none]:=by unfold bY;simp
 rw[e]at h1;have:=WH h1;rw[e];exact this
section
variable {w0 w:World} {R:List aW} {f q p:Nat} {S:VS} {a:VA}
theorem Sep.mF (h:Sep w0 w (bB f q p S::R)):∃sb SM fo,VR S sb SM/\Sep w0 w (kF f q S sb (.map fo) false::aG q p false::aO p S.D::dY sb SM::R):=by obtain⟨t,h1⟩:=h.NP;obtain⟨h2,h3⟩:=h1.jO.V5;exact⟨t.1,t.2.1,t.2.2,h2,h3.bG⟩
theorem Sep.DV {sb:Option Nat} {SM:BM} {fo:Option Nat} (hR:VR S sb SM) (h:Sep w0 w (kF f q S sb (.map fo) false::aG q p false::aO p S.D::dY sb SM::R)):Sep w0 w (bB f q p S::R):=by have h1:Sep w0 w (ay4 f q p S sb SM fo++R):=h;exact Sep.NQ (sb,SM,fo) (Sep.V6 hR h1.dC).mD
theorem Sep.KJ {S:VS} {sb fo:Option Nat} {dead:Bool} (h:Sep w0 w (kF f q S sb (.map fo) dead::aG q p true::R)):Sep w0 w (iU f q p dead::R):=
 Sep.NQ (S,sb,fo) (Sep.dC (As:=[kF f q S sb (.map fo) dead,aG q p true]) h)
theorem Sep.WI {dead:Bool} (h:Sep w0 w (iU f q p dead::R)):∃S sb fo,Sep w0 w (kF f q S sb (.map fo) dead::aG q p true::R):=by obtain⟨t,h1⟩:=h.NP;exact⟨t.1,t.2.1,t.2.2,h1.bG⟩
theorem ZI {a:VA} (h:VCw S a) (hb:S.D.back=[]) (hS:Sep w0 w (aF f q p S a::R)):Sep w0 w (bB f q p S::R):=by have h1:=hS.bG;have h2:Sep w0 w (jK a.fb a.FM::kF f q S a.sb (.map (some a.fb)) false::aG q p false::aO p S.D::dY a.sb a.SM::R):=Sep.dB [4,0,1,2,3] h1 aR (by simp[pU]);exact Sep.DV ⟨⟨h.nV.now,h.nV.fast,h.nV.few,h.nV.some,h.nV.back,h.nV.left⟩,h.big,h.seen,h.none,hb⟩ (h2.drop 1)
theorem ML {S1:VS} {a:VA} {fo:Option Nat} (hL:fC S S1) (h:VC S1 a) (hb:S.D.back=[]) (hS:Sep w0 w (kF f q S a.sb (.map fo) false::aG q p false::aO p S1.D::dY a.sb a.SM::R)):Sep w0 w (bB f q p S::R):=by rw[hL.D]at hS;exact Sep.DV ⟨by have:=h.nV;rw[hL.D,hL.nb]at this;exact this,by have:=h.big;rw[hL.nb]at this;exact this,fun x hx=>by have:=h.seen x hx;rw[hL.D,hL.nb]at this;exact this,h.none,hb⟩ hS
theorem av8 {sb:Option Nat} {SM:BM} (h:VR S sb SM) (ho:S.D.off=false) (fb:Nat):VC S.base ⟨sb,SM,fb,[]⟩:=
 ⟨h.nV,h.big,ho,h.nV.now.drop 96,h.seen,fun x hx=>absurd hx EK,fun k hk _=>DU _ _ _,fZ _,h.none⟩
theorem ZJ (x:Int) (w:World):(Instr.typeAssert (.iface 171 (.agg #[iV x])) 20 171 true).run Tryz.prog w= .ok (.tuple #[.agg #[iV x],.bool true]) w:=by kernel_rfl
theorem PX {be:Nat} {sb:Option Nat} {fv:Value} {dead:Bool} {x y:Int} {older:List PanicEntry} (h:Sep w0 w (kF f q S sb fv dead::aJ be y::R)):
  CallsD Tryz.prog 52 #[pV f,pV be] (.panicking ({v:=.iface 171 (.agg #[iV x]),recovered:=false}::older)) w fun e u' w'=>
   e= .returned (.tuple #[])/\u'= .panicking ({v:=.iface 171 (.agg #[iV x]),recovered:=true}::older)/\Sep w0 w' (kF f q S sb fv (decide (x=11)||dead)::aJ be x::R):=by
 refine callsD_of_wpS Tryz.func52 rfl fun c₀ cs hu=>?_
 apply wpS_seq
 apply wpS_region
 simp[wpOpsS,go_sem,recoverD,hu,Tryz.ntmps52,Exit.thenS]
 refine wpS_of_wp ?_
 simp only[uB,kH,qQ,Nat.reduceAdd,Nat.reduceSub,xD,xE,xH,xG,mI,kI,gD,M6,GU]
 have hta:=ZJ x w
 have hA:=h.alloc (.cells #[iV x] 171)
 have c1:=hA.bC 0 rfl 4
 have f1:=hA.bF 0 rfl 4
 have e0:=hA.bC 1 rfl 0
 have ef:=hA.bF 1 rfl 0
 have hB:=hA.bS 0 rfl 4 (.bool true)
 have b0:=hB.bC 1 rfl 0
 have bf:=hB.bF 1 rfl 0
 have hB2:=hB.bS 1 rfl 0 (.int .i64 x)
 have hA2:=hA.bS 1 rfl 0 (.int .i64 x)
 simp only[gA,gB,gC]at c1 e0 b0
 by_cases hx:x=11
 ·subst hx;go_wp2_with fail;refine⟨rfl,_,rfl,.tuple #[],?_,rfl,rfl,hB2⟩;simp[results,Tryz.results52]
 ·have hx2:(x==11)=false:=jU.2 hx;rw[decide_eq_false hx,AX];go_wp2_with fail;refine⟨rfl,_,rfl,.tuple #[],?_,rfl,rfl,hA2⟩;simp[results,Tryz.results52]
theorem PY (a b:Value) (w:World):
  CallsD Tryz.prog 52 #[a,b] .returning w fun e u' w'=>e= .returned (.tuple #[])/\u'= .returning/\w'=w:=by
 refine callsD_of_wpS Tryz.func52 rfl fun c₀ cs hu=>?_
 apply wpS_seq;apply wpS_region;simp[wpOpsS,go_sem,recoverD,hu,Tryz.ntmps52,Exit.thenS];refine wpS_of_wp ?_;simp only[uB,kH,qQ,Nat.reduceAdd,Nat.reduceSub,xD,xE,xH,xG,mI,kI,gD,M6,GU];go_wp2_with fail;refine⟨rfl,.returning,?_,.tuple #[],?_,rfl,rfl,rfl⟩
 ·cases c₀;simp at hu;subst hu;rfl
 simp[results,Tryz.results52]
theorem KL {be:Nat} {sb:Option Nat} {fv:Value} {dead:Bool} {x y:Int} {fn:Func} {tmps:Array Value} {Post:Ending->World->Prop} {ds:List Deferred} (h:Sep w0 w (kF f q S sb fv dead::aJ be y::R))
  (hK:∀w',Sep w0 w' (kF f q S sb fv (decide (x=11)||dead)::aJ be x::R)->Leaves Tryz.prog fn tmps Post ds .returning w'):
  Leaves Tryz.prog fn tmps Post ({target:=.fn (.func 52) #[],args:=#[pV f,pV be]}::ds) (.panicking (fA x)) w:=by
 refine leaves_cons (f:=52) (args:=#[pV f,pV be]) bK (by simp[go_sem]) ?_;refine(PX h).mono ?_;rintro e u' w' ⟨rfl,rfl,hS⟩;exact hK w' hS
theorem kV {a b:Value} {fn:Func} {tmps:Array Value} {Post:Ending->World->Prop} {ds:List Deferred} (hK:Leaves Tryz.prog fn tmps Post ds .returning w):
  Leaves Tryz.prog fn tmps Post ({target:=.fn (.func 52) #[],args:=#[a,b]}::ds) .returning w:=by
 refine leaves_cons (f:=52) (args:=#[a,b]) bK (by simp[go_sem]) ?_;refine(PY a b w).mono ?_;rintro e u' w' ⟨rfl,rfl,rfl⟩;exact hK
theorem BH (ho:S.D.off=false) (h:Sep w0 w (bB f q p S::R)):
  Calls Tryz.prog 53 #[pV f] w fun e w'=>e= .returned (.tuple #[])/\∃a',VC S.base a'/\Sep w0 w' (aF f q p S.base a'::R):=by
 obtain⟨sb,SM,fo,hR,h1⟩:=h.mF;have c0:=h1.bC 0 rfl 0;have c4:=h1.bC 0 rfl 4;simp only[gA,gB,gC]at c0 c4;have hsy:=xS (q:=q) (p:=p) (dead:=false) (R:=kF f q S sb (.map fo) false::dY sb SM::R) hR.nV (Sep.dB [1,2,0,3] h1 aR bK);rw[ho]at hsy;simp only[Bool.or_false,J4,if_false]at hsy;have hend:Hid (∀W,Sep w0 W (aG q p false::aO p S.D::kF f q S sb (.map fo) false::dY sb SM::R)->(W.alloc (.map #[] 0)).frozen? ⟨f,2,none⟩=false/\(W.alloc (.map #[] 0)).cell? ⟨f,2,none⟩=some (.map fo)/\∃a',VC S.base a'/\Sep w0 ((W.alloc (.map #[] 0)).setCell ⟨f,2,none⟩ (.map (some W.heap.size))) (aF f q p S.base a'::R)):=Lh fun W hW=>by have h3:=hW.yT;have h4:=h3.bS 3 rfl 2 (.map (some W.heap.size));refine⟨h3.bF 3 rfl 2,h3.bC 3 rfl 2,_,av8 hR ho W.heap.size,?_⟩;have h5:Sep w0 ((W.alloc (.map #[] 0)).setCell ⟨f,2,none⟩ (.map (some W.heap.size))) (pU f q p S.base ⟨sb,SM,W.heap.size,[]⟩++R):=Sep.dB [3,1,2,4,0] h4 aR bK;exact h5.dC
 have hmm:= @run_makeMap Tryz.prog;clear h h1 hR ho;go_enter Tryz.func53,Tryz.ntmps53;go_wp2_with(first |(go_at_call 102;refine hsy.mono ?_;rintro e w9 ⟨rfl,h9⟩;obtain⟨f2,k2,he⟩:=hend.out _ h9;replace he:=Lh he;clear hsy hend h9)|(go_at_call 54;refine(eQ _ _).mono ?_;rintro e w8 ⟨rfl,h8⟩;obtain rfl:=h8.symm))
 go_end0
 exact⟨rfl,he.out⟩
theorem amH (ho:S.D.off=true) (h:Sep w0 w (bB f q p S::R)):
  Calls Tryz.prog 53 #[pV f] w fun e w'=>e= .panicked (fA 11)/\Sep w0 w' (iU f q p false::aO p S.D::R):=by
 obtain⟨sb,SM,fo,hR,h1⟩:=h.mF;have c0:=h1.bC 0 rfl 0;have c4:=h1.bC 0 rfl 4;simp only[gA,gB,gC]at c0 c4;have hsy:=xS (q:=q) (p:=p) (dead:=false) (R:=kF f q S sb (.map fo) false::dY sb SM::R) hR.nV (Sep.dB [1,2,0,3] h1 aR bK);rw[ho]at hsy;simp only[Bool.or_true,if_true]at hsy;have hend:Hid (∀W,Sep w0 W (aG q p true::aO p S.D::kF f q S sb (.map fo) false::dY sb SM::R)->Sep w0 W (iU f q p false::aO p S.D::R)):=Lh fun W hW=>by have h2:Sep w0 W (dY sb SM::kF f q S sb (.map fo) false::aG q p true::aO p S.D::R):=Sep.dB [3,2,0,1] hW aR bK;exact(h2.drop 1).KJ
 clear h h1 hR ho;go_enter Tryz.func53,Tryz.ntmps53;go_wp2_with(first |(go_at_call 102;refine hsy.mono ?_;rintro e w9 ⟨rfl,h9⟩;have he:=Lh (hend.out _ h9);clear hsy hend h9)|(go_at_call 54;refine(eQ _ _).mono ?_;rintro e w8 ⟨rfl,h8⟩;obtain rfl:=h8.symm));exact⟨rfl,rfl,he.out⟩
theorem ag0 (h:Sep w0 w (iU f q p true::R)):
  Calls Tryz.prog 53 #[pV f] w fun e w'=>e= .panicked (fA 11)/\w'=w:=by
 obtain⟨S,sb,fo,h1⟩:=h.WI;have c4:=h1.bC 0 rfl 4;simp only[gA,gB,gC]at c4;clear h h1;go_enter Tryz.func53,Tryz.ntmps53;go_wp2_with fail;exact⟨rfl,rfl,rfl⟩
theorem uY {MM:FuncId} (acN:Array Value) (w:World) (h:∀args w,(callFunc MM args).run Tryz.prog w= .ok (.enter MM args) w):(invoke (.fn (.func MM) acN) #[]).run Tryz.prog w= .ok (.enter MM acN) w:=by simp[invoke,go_sem,h]
theorem acO {S1:VS} {bf bw bn bd:Nat} {sb:Option Nat} {fo:Option Nat} {dead:Bool} {u:FrameMode} (hn:S1.names=S.names) (hb:S1.rB=S.rB) (hi:S1.rI=S.rI)
  (h:Sep w0 w (kF f q S1 sb (.map fo) dead:: .box bf 37 #[pV f]:: .box bw 53 #[iW S.wB S.wI]:: .box bn 3 #[iV S.nodes]:: .box bd 4 #[.bool false]::R)):
  CallsD Tryz.prog 145 #[pV bd,pV bw,pV bn,pV bf] u w fun e u' w'=>
   u'=u/\e= .returned (.tuple #[])/\Sep w0 w' (kF f q S sb (.map none) dead::R):=by
 have k0:=h.bC 1 rfl 0
 have k1:=h.bC 2 rfl 0
 have k2:=h.bC 3 rfl 0
 have k3:=h.bC 4 rfl 0
 have c5:=h.bC 0 rfl 5
 have f5:=h.bF 0 rfl 5
 have h1:=h.bS 0 rfl 5 (iW S.wB S.wI)
 have c6:=h1.bC 0 rfl 6
 have f6:=h1.bF 0 rfl 6
 have h2:=h1.bS 0 rfl 6 (.int .i64 S.nodes)
 have c2:=h2.bC 0 rfl 2
 have f2:=h2.bF 0 rfl 2
 have h3:=h2.bS 0 rfl 2 (.map none)
 unfold iW at k1 c5 c6 c2 h3 f6 f2
 simp only[gA,gB,gC]at k0 k1 k2 k3 c5
 have hst:=fun x y=>xU x y c5 f5
 have hend:Hid (Sep w0 (((w.setCell ⟨f,5,none⟩ (.complex .f64 (fI S.wB) (fI S.wI))).setCell ⟨f,6,none⟩ (.int .i64 S.nodes)).setCell ⟨f,2,none⟩ (.map none)) (kF f q S sb (.map none) dead::R)):=Lh (by(have h4:Sep w0 (((w.setCell ⟨f,5,none⟩ (.complex .f64 (fI S.wB) (fI S.wI))).setCell ⟨f,6,none⟩ (.int .i64 S.nodes)).setCell ⟨f,2,none⟩ (.map none)) (kF f q S sb (.map none) dead:: .box bf 37 #[pV f]:: .box bw 53 #[.complex .f64 (fI S.wB) (fI S.wI)]:: .box bn 3 #[iV S.nodes]:: .box bd 4 #[.bool false]::R):=by unfold kF at h3 ⊢;rw[hn,hb,hi]at h3;exact h3);exact(Sep.dB [1,2,3,4,0] h4 aR bK).drop 4)
 clear h h1 h2 h3 hn hb hi
 refine(callsD_of_wp (R:=fun e w'=>e= .returned (.tuple #[])/\Sep w0 w' (kF f q S sb (.map none) dead::R)) Tryz.func145 rfl ?_).mono ?_
 ·simp only[Tryz.ntmps145,uB,kH,qQ,Nat.reduceAdd,Nat.reduceSub,xD,xE,xH,xG,mI,kI];go_wp2_with fail
  go_end0
  exact⟨rfl,hend.out⟩
 ·rintro e u' w' ⟨h1,h2,h3⟩;exact⟨h1,h2,h3⟩
theorem amI {bf bw bn bd:Nat} {u:FrameMode} (hc:w.cell? ⟨bd,0,none⟩=some (.bool true)):
  CallsD Tryz.prog 145 #[pV bd,pV bw,pV bn,pV bf] u w fun e u' w'=>
   u'=u/\e= .returned (.tuple #[])/\w'=w:=by
 refine(callsD_of_wp (R:=fun e w'=>e= .returned (.tuple #[])/\w'=w) Tryz.func145 rfl ?_).mono ?_
 ·simp only[Tryz.ntmps145,uB,kH,qQ,Nat.reduceAdd,Nat.reduceSub,xD,xE,xH,xG,mI,kI];go_wp2_with fail
  go_end0
  exact⟨rfl,rfl⟩
 ·rintro e u' w' ⟨h1,h2,h3⟩;exact⟨h1,h2,h3⟩
theorem BI :∀args w,(callFunc 145 args).run Tryz.prog w= .ok (.enter 145 args) w:=Go.Proofs.enters_of Tryz.func145 fE rfl
end
def akG (k:Nat):Code->Option Code
 | .seq (.region i o d) c=>if i=k then some (.seq (.region i o d) c)else akG k c
 | .seq _ c=>akG k c
 |_=>none
noncomputable def PZ (k:Nat):Code:=(Tryz.f73.body.bind (akG k)).getD .skip
def zO (S1:VS):Bool:=decide (S1.wB<=S1.rB)&&decide (S1.wI<=S1.rI)
def dH (f q p:Nat) (S:VS) (r:Option VS) (w0:World) (R:List aW) (e:Ending) (w':World):Prop:=
 match r with
 |none=>e= .panicked (fA 27)/\Sep w0 w' (bB f q p S::R)
 |some S1=>
  if zO S1=true then
   if S1.bJ.2=true then e= .returned (.tuple #[])/\Sep w0 w' (bB f q p S1.settled::R)
   else e= .panicked (fA 11)/\Sep w0 w' (iU f q p false::aO p S1.bJ.1::R)
  else e= .panicked (fA 27)/\Sep w0 w' (bB f q p S::R)
structure nX (S S1:VS):Prop where
 like:fC S S1
 m:S1.m<=40
 wB:bW S1.wB
 wI:bW S1.wI
 rB:bW S1.rB
 rI:bW S1.rI
theorem aqM {a b:Int} (ha:bW a) (hb:bW b):(FloatKind.f64.format.order (fI a) (fI b)==some .gt)= !decide (a<=b):=by
 have h:FloatKind.f64.format.order (fI a) (fI b)=some (compare a b):=BJ ha hb;rw[h];rcases Int.lt_trichotomy a b with h2|h2|h2
 ·rw[Int.compare_eq_lt.2 h2,decide_eq_true (Int.le_of_lt h2)];rfl
 ·rw[Int.compare_eq_eq.2 h2,decide_eq_true (Int.le_of_eq h2)];rfl
 rw[Int.compare_eq_gt.2 h2,decide_eq_false aD];rfl
section
variable {w0 w:World} {R:List aW} {f q p:Nat} {S:VS} {a:VA}
theorem P5 {S1:VS} {a1:VA} {bf bw bn bd:Nat} {tmps:Array Value} {Post:Ending->World->Prop} {x:Int} (hL:fC S S1) (kK:VC S1 a1) (hb:S.D.back=[])
  (h:Sep w0 w (aF f q p S1 a1:: .box bd 4 #[.bool false]:: .box bf 37 #[pV f]:: .box bw 53 #[iW S.wB S.wI]:: .box bn 3 #[iV S.nodes]::R))
  (hp:∀w',Sep w0 w' (bB f q p S::R)->Post (.panicked (fA x)) w'):
  Leaves Tryz.prog Tryz.f73 tmps Post [{target:=.fn (.func 145) #[pV bd,pV bw,pV bn,pV bf],args:=#[]}] (.panicking (fA x)) w:=by
 have h1:=h.bG;have h2:Sep w0 w (jK a1.fb a1.FM::kF f q S1 a1.sb (.map (some a1.fb)) false:: .box bf 37 #[pV f]:: .box bw 53 #[iW S.wB S.wI]:: .box bn 3 #[iV S.nodes]:: .box bd 4 #[.bool false]::aG q p false::aO p S1.D::dY a1.sb a1.SM::R):=Sep.dB [4,0,6,7,8,5,1,2,3] h1 aR (by simp[pU]);refine leaves_cons bK (uY _ _ BI) ?_;refine(acO (S:=S) hL.names hL.rB hL.rI (h2.drop 1)).mono ?_;rintro e u' w' ⟨rfl,rfl,h3⟩;exact hp w' (ML (fo:=none) hL kK hb h3)
theorem Z14 {P:Prop} (h:P:=by
 go_wp2_with(refine hd.mono ?_;rintro e w9 ⟨rfl,a1,kK,h9⟩;(have c5:=h9.fO.c5);(have c7:=h9.fO.c7);(have k0:=h9.bC 2 rfl 0);unfold iW at c5 c7;simp only[gA,gB]at k0;replace h9:=Lh h9;replace kK:=Lh kK;clear hd);go_quiet (fail);go_wp2_with fail;refine P5 ag1.out.like kK.out hL'.out.2.1 (h9.out.drewN nq) fun w' h5=>?_
 unfold dH;simp only;rw[if_neg (by rw[hfit.out];decide)];exact⟨trivial,h5⟩):P:=h
theorem acP {R':List aW} {MM:FuncId} {acN:Array Value} {r:Option VS} {bf bw bn:Nat} {u0 u3 u6 u7 u8 u9 u10 u11 u12 u13 u14 u15 u16 u17 u18 u19 u20 u21 u22 u23 u24 u25 u26 u27 u28 u29 u30 u31 u32 u33 u34 u35 u36 u37 u38 u39 u40 u41 u42 u43 u44 u45 u46 u47 u48 u49 u50 u51 u52 u53 u54 u55 u56 u57:Value} (hent:∀args w,(callFunc MM args).run Tryz.prog w= .ok (.enter MM args) w) (hC:VC S a) (hb:S.D.back=[]) (hr:∀S1,r=some S1->nX S S1)
  (hdo:∀W X,Sep w0 W (aF f q p S a::(X++R))->Calls Tryz.prog MM acN W (fQ f q p S r w0 (X++R')))
  (h:Sep w0 w (aF f q p S a:: .box bf 37 #[pV f]:: .box bw 53 #[iW S.wB S.wI]:: .box bn 3 #[iV S.nodes]::R)):
  (PZ 2).wp Tryz.prog (bodyPostD Tryz.prog Tryz.f73 (dH f q p S r w0 R')) {tmps:=#[u0,.func (.func MM) #[] acN,pV bf,u3,pV bw,pV bn,u6,u7,u8,u9,u10,u11,u12,u13,u14,u15,u16,u17,u18,u19,u20,u21,u22,u23,u24,u25,u26,u27,u28,u29,u30,u31,u32,u33,u34,u35,u36,u37,u38,u39,u40,u41,u42,u43,u44,u45,u46,u47,u48,u49,u50,u51,u52,u53,u54,u55,u56,u57],defers:=[]} w:=by
 have hmf:∀(fn:Fn) (first cap:Array Value) (w:World),(Instr.makeFunc fn first cap).run Tryz.prog w= .ok (.func fn first cap) w:=fun _ _ _ _=>rfl
 have h1:Sep w0 (w.alloc (.cells #[.bool false] 4)) (aF f q p S a::([.box w.heap.size 4 #[.bool false],.box bf 37 #[pV f],.box bw 53 #[iW S.wB S.wI],.box bn 3 #[iV S.nodes]]++R)):=Sep.dB [1,0,2,3,4] (h.bN 4 #[.bool false]) aR bK;have hd:=hdo _ _ h1;have ay5:=Lh hent;have hL':=Lh (And.intro hC (And.intro hb hr));clear h h1 hdo hC hb hr;unfold PZ
 conv=>arg 2;whnf
 cases r with
 |none=>unfold fQ at hd;simp only at hd;have hent:=ay5.out;go_wp2_with(refine hd.mono ?_;rintro e w9 ⟨rfl,S1,a1,hL,kK,h9⟩);(refine P5 hL kK hL'.out.2.1 h9 fun w' h5=>?_);exact⟨rfl,h5⟩
 |some S1=>
  unfold fQ at hd;simp only at hd;have hOk:=hL'.out.2.2 S1 rfl;have g1:=aqM hOk.wB hOk.rB;have g2:=aqM hOk.wI hOk.rI;have ag1:=Lh hOk;clear hOk;have hent:=ay5.out;by_cases hB:S1.wB<=S1.rB
  ·rw[decide_eq_true hB]at g1;simp only[Bool.not_true]at g1;by_cases hI:S1.wI<=S1.rI
   ·rw[decide_eq_true hI]at g2;simp only[Bool.not_true]at g2;(have hfit:zO S1=true:=by unfold zO;rw[decide_eq_true hB,decide_eq_true hI];rfl);replace hfit:=Lh hfit;clear hB hI;go_wp2_with(refine hd.mono ?_;rintro e w9 ⟨rfl,a1,kK,h9⟩;(have c5:=h9.fO.c5);(have c7:=h9.fO.c7);(have k0:=h9.bC 2 rfl 0);unfold iW at c5 c7;simp only[gA,gB]at k0;replace h9:=Lh h9;replace kK:=Lh kK;clear hd);go_quiet (fail);have hse:=PT kK.out ag1.out.m (by rw[ag1.out.like.D,hL'.out.2.1];decide) (h9.out.drewN nq);clear c5 c7 g1 g2;cases hcm:S1.bJ.2 with
    |true=>(have al8:Calls Tryz.prog 101 #[pV f] (w9.drewN nq) fun e w'=>e= .returned (.tuple #[])/\(∃u,w'.cell? ⟨w.heap.size,0,none⟩=some (.bool u))/\w'.frozen? ⟨w.heap.size,0,none⟩=false/\(w'.setCell ⟨w.heap.size,0,none⟩ (.bool true)).cell? ⟨w.heap.size,0,none⟩=some (.bool true)/\dH f q p S (some S1) w0 R' (.returned (.tuple #[])) (w'.setCell ⟨w.heap.size,0,none⟩ (.bool true)):=by refine hse.mono ?_;intro e w' ho;unfold nJ at ho;rw[if_pos hcm]at ho;obtain⟨rfl,a2,hV,h8⟩:=ho;have h7:=h8.bS 1 rfl 0 (.bool true);refine⟨rfl,⟨_,h8.bC 1 rfl 0⟩,h8.bF 1 rfl 0,h7.bC 1 rfl 0,?_⟩;unfold dH;simp only;rw[if_pos hfit.out,if_pos hcm];refine⟨trivial,ZI hV (MK hcm (by rw[ag1.out.like.D];exact hL'.out.2.1)) ?_⟩;have h6:Sep w0 _ (.box w.heap.size 4 #[.bool true]:: .box bf 37 #[pV f]:: .box bw 53 #[iW S.wB S.wI]:: .box bn 3 #[iV S.nodes]::aF f q p S1.settled a2::R'):=Sep.dB [1,2,3,4,0] h7 aR bK;exact h6.drop 4);clear hse h9 kK hcm;go_wp2_with(go_at_call 101;refine al8.mono ?_;rintro e w8 ⟨rfl,⟨u,k1⟩,f1,k2,hend⟩;replace hend:=Lh hend;replace k2:=Lh k2);refine leaves_cons (u:=.returning) bK (uY _ _ BI) ?_;refine(amI k2.out).mono ?_;rintro e u' w' ⟨rfl,rfl,rfl⟩;exact⟨.tuple #[],by simp[results,Tryz.results73],hend.out⟩
    |false=>(have al8:Calls Tryz.prog 101 #[pV f] (w9.drewN nq) fun e w'=>e= .panicked (fA 11)/\∃sb fo,Sep w0 w' (kF f q S1 sb (.map fo) false:: .box bf 37 #[pV f]:: .box bw 53 #[iW S.wB S.wI]:: .box bn 3 #[iV S.nodes]:: .box w.heap.size 4 #[.bool false]::aG q p true::aO p S1.bJ.1::R'):=by refine hse.mono ?_;intro e w' ho;unfold nJ at ho;rw[if_neg (by rw[hcm];decide)]at ho;obtain⟨rfl,sb,h8⟩:=ho;exact⟨rfl,sb,_,Sep.dB [0,4,5,6,3,1,2] h8 aR bK⟩);have hcm':=Lh hcm;clear hse h9 kK hcm;go_wp2_with(go_at_call 101;refine al8.mono ?_;rintro e w8 ⟨rfl,sb,fo,h8⟩;replace h8:=Lh h8);refine leaves_cons (u:=.panicking (fA 11)) (by simp[fA]) (uY _ _ BI) ?_;refine(acO (S:=S) ag1.out.like.names ag1.out.like.rB ag1.out.like.rI h8.out).mono ?_;rintro e u' w' ⟨rfl,rfl,h7⟩;(show dH f q p S (some S1) w0 R' (.panicked (fA 11)) w');unfold dH;simp only;rw[if_pos hfit.out,if_neg (by rw[hcm'.out];decide)];exact⟨trivial,h7.KJ⟩
   rw[decide_eq_false hI]at g2;simp only[Bool.not_false]at g2;(have hfit:zO S1=false:=by unfold zO;rw[decide_eq_false hI,Bool.and_false]);replace hfit:=Lh hfit;clear hB hI;exact Z14
  rw[decide_eq_false hB]at g1;simp only[Bool.not_false]at g1;(have hfit:zO S1=false:=by unfold zO;rw[decide_eq_false hB,O1]);replace hfit:=Lh hfit;clear hB g2;exact Z14
end
end Go.Proofs.YtmjomdkleikgbaaGreat
