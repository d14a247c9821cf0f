/- Parts. -/
import Derived.Test.YteihmbaimbogaaaGreatJ13
set_option linter.unusedVariables false
set_option linter.unusedSimpArgs false
set_option maxRecDepth 100000
set_option maxHeartbeats 20000000
namespace Go.Proofs.YteihmbaimbogaaaGreat
open Go.RowKit
theorem RX {w0 w:World} {R:List bK} {f q p:Nat} {S:VS} {a:VA} {r:Nat} {v:Value} {Ms V:BM} {P:List zN} {b:VA} (h:PU f q p S a r w0 w R v Ms V P b) (hm:a.FM.length<=4000):P.length<=4000:=by
 have h1:(P.map (·.1)).length=((V.filter (xV S)).map fun x=>(x.1,x.2.1)).length:=by rw[h.puts]
 rw[kV,kV]at h1;have h2:=al5 (xV S) V;have h3:=h.perm.length_eq;rw[kN]at h3;omega
section
variable {w0 w:World} {R:List bK} {f q p:Nat} {S:VS} {a:VA}
def oP (f q p:Nat) (S:VS) (a:VA) (w0:World) (R:List bK) (e:Ending) (w':World):Prop:=
 if S.bL.2=true then e= .returned (.tuple #[])/\∃a',VCw S.settled a'/\Sep w0 w' (aF f q p S.settled a'::R)
 else e= .panicked (gJ 11)/\∃sb,Sep w0 w' (l7 f q S sb (.map (some a.fb)) false::aG q p true::aN p S.bL.1::R)
theorem Sep.aMT {b:VA} {r:Nat} {v:Value} {V:BM} {P:List zN} (hI:PU f q p S a r w0 w R v [] V P b):
  Sep w0 w (.sl 190 2 v P.length (P.flatMap vL)::rP 3 a.fb (jK a.FM):: .dZ (fG a.FM)::l7 f q S b.sb (.map (some a.fb)) false::aG q p false::aN p S.D::fH b.sb b.SM::R):=by
 have h1:=(hI.sep.ajA).asM 0 rfl;rw[hI.reads.fb]at h1;exact Sep.dE [6,0,1,2,3,4,5] h1 aQ bM
theorem Z9 {P:Prop} (h:P:=by
 replace hcc:=hcc.out;go_loopg[] a.FM.length (fun g wr2=>Hid (∃Ms V,ajF f q p S a b S.bL.1 W8.heap.size w0 wr2 R Ms V/\g=Ms.length))
 case atStart=>exact Lh ⟨a.FM,[],hL.out,rfl⟩
 clear hL hrg;obtain⟨Ms,V2,hJ,rfl⟩:=hrel.out;clear hrel;rcases hJ.sep.aeT 0 with⟨rfl,hnx2⟩|⟨x,w6,hx,hnx2,jS,wT⟩
 ·obtain⟨f2,d2,hfin⟩:=amJ.out _ _ _ hcc hJ;replace hfin:=Lh hfin;clear hJ abE amJ amK;go_wp2_with fail
  go_end0
  exact hfin.out
 obtain⟨sb,W3,d1,hmu,hJ2,hlt⟩:=abE.out _ _ _ _ _ _ hJ hx jS;have hx2:∃A c,x.2.1= .slice A 512 c:=by have hxF:x∈a.FM:=hJ.perm.subset (al2 _ hx);have hb1:=hJ.sep.abD 3 rfl hxF;have hxc:=hC'.out.fresh x hxF;obtain⟨_,A,c,e,_⟩:=hb1;rw[hxc.2,kJ hC'.out.cur hxc.1]at e;exact⟨A,c,e⟩
 obtain⟨A6,c6,e6⟩:=hx2;rw[e6]at hnx2 wT hmu;obtain⟨i,hi⟩:∃i,i=x.1:=⟨_,rfl⟩;rw[<-hi]at hnx2 wT hmu;obtain⟨Ms2,aGY⟩:∃Ms2,Ms2=iP Ms x.1:=⟨_,rfl⟩;rw[<-aGY]at hJ2 hlt;replace hJ2:=Lh hJ2;replace hlt:=Lh hlt;clear hJ jS abE amJ amK e6 hx hi aGY;go_wp2_with fail;go_roundg Ms2.length
 case measure=>exact hlt.out
 case rel=>exact Lh ⟨Ms2,_,hJ2.out,rfl⟩):P:=h
theorem RY (hC:VC S a) (hm:S.m<=40) (hback:S.D.back.length<=60000) (h:Sep w0 w (aF f q p S a::R)):
  Calls Tryz.prog 91 #[pV f] w (oP f q p S a w0 R):=by
 have h1:=h.bE;have hkey:Sep w0 w (rP 3 a.fb (jK a.FM):: .dZ (fG a.FM)::l7 f q S a.sb (.map (some a.fb)) false::aG q p false::aN p S.D::fH a.sb a.SM::R):=Sep.kX (Sep.dE [4,0,1,2,3] h1 aQ (by simp[pK]));have hnd:(a.FM.map (·.1)).Nodup:=by have h1:=(hkey.QC 0 rfl).ne;exact Z69
 have hshort:=hC.asO hnd;obtain⟨w1,hrg,hS1,hsz1⟩:=hkey.ae0 0 rfl gT Tryz.underlying98;have hI0:Hid (∃Ms V P b,PU f q p S a w.heap.size w0 w1 R (.slice none 0 0) Ms V P b/\a.FM.length=Ms.length):=Lh ⟨a.FM,[],[],a,⟨.refl hC,by simp,rfl,fun h=>absurd rfl h,by have h3:Sep w0 w1 (XG a.fb w.heap.size a.FM a.FM:: .dZ (fG a.FM)::l7 f q S a.sb (.map (some a.fb)) false::aG q p false::aN p S.D::fH a.sb a.SM::R):=hS1;have h4:Sep w0 w1 (XG a.fb w.heap.size a.FM a.FM:: .dZ (fG a.FM)::l7 f q S a.sb (.map (some a.fb)) false::aG q p false::aN p S.D::fH a.sb a.SM:: .sl 190 2 (.slice none 0 0) 0 []::R):=Sep.dE [1,2,3,4,5,6,0] (h3.dX 190 2) aQ bM;exact h4.aAU⟩,rfl⟩;have c2:=h.gL.c2;obtain⟨i0,gN,hz0,hz1,hz2⟩:=lM asI;have hC':=Lh hC;have hnd':=Lh hnd;have hshort':=Lh hshort;have hm':=Lh hm;have ajG:=Lh hback;obtain⟨rb,hrb⟩:∃rb,rb=w.heap.size:=⟨_,rfl⟩;rw[<-hrb]at hI0 hrg;clear hC hm hback h h1 hkey hnd hS1 hsz1 hrb hshort;go_enter Tryz.func91,Tryz.ntmps91;go_wp2_with fail;go_loopg[2] a.FM.length (fun g u wr=>Hid (∃Ms V P b,PU f q p S a rb w0 wr R u Ms V P b/\g=Ms.length))
 case atStart=>exact hI0
 clear hI0 c2 hrg;obtain⟨Ms,V,P,b,hI,rfl⟩:=hrel.out;clear hrel;rcases(hI.sep.ajA).aeT 0 with⟨rfl,hnx⟩|⟨x,w3,hx,hnx,dJ,hen⟩
 ·have hS:=Sep.aMT hI;(have hVp:V.Perm a.FM:=by have:=hI.perm;rw[yX56]at this;exact this);have hsort:=an8 hS (by have:=RX hI hshort'.out;omega);obtain⟨n,hn⟩:∃n,n=P.length:=⟨_,rfl⟩;(have aMU:n<=40:=by have h1:=congrArg List.length hI.puts;rw[kV,kV]at h1;have h2:=al5 (xV S) V;have h3:=hVp.length_eq;have h4:=hC'.out.few;have h5:=hm'.out;omega);(have hu2:∃A c,u2= .slice A n c:=by obtain⟨A,c,e⟩:=hI.sep.eF 0 rfl;exact⟨A,c,by rw[e,hn]⟩);obtain⟨Au,cu,hu2⟩:=hu2;subst hu2
  --what the ledger answers
  have RZ:Hid (∀W P',P.Perm P'->P'.Pairwise (fun x y:zN=>x.1.1<=y.1.1)->Sep w0 W (.sl 190 2 (.slice Au n cu) n (P'.flatMap vL)::rP 3 a.fb (jK a.FM):: .dZ (fG a.FM)::l7 f q S b.sb (.map (some a.fb)) false::aG q p false::aN p S.D::fH b.sb b.SM::R)->
    W.cell? ⟨f,0,none⟩=some (pV q)/\
    ((n=0/\S.bL=(S.D,true))\/(1<=n/\Calls Tryz.prog 144 #[pV q,.slice Au n cu] W fun e w'=>e= .returned (iV (aoD S.bL.2))/\Sep w0 w' (aG q p (!S.bL.2)::aN p S.bL.1::rP 3 a.fb (jK a.FM):: .dZ (fG a.FM)::l7 f q S b.sb (.map (some a.fb)) false::fH b.sb b.SM::R)))):=Lh fun W P' hp hs hW=>by
   have hps:=aeZ hC'.out hnd'.out hVp hI.puts hp hs;(have hPn:P'.length=n:=by rw[hn];exact hp.length_eq.symm);refine⟨hW.bC 3 rfl 0,?_⟩;rcases H5 n with h0|hpos
   ·refine .inl ⟨h0,?_⟩;(have:jR S=[]:=by rw[<-hps,zC (hPn.trans h0)];rfl);unfold VS.bL;rw[if_pos this]
   refine .inr ⟨hpos,?_⟩;(have hne:¬jR S=[]:=by intro e;rw[<-hps]at e;have:=List.map_eq_nil_iff.1 e;rw[this]at hPn;simp at hPn;omega);obtain⟨g,c,e,_,_,hc1,hc2⟩:=hW.iU 0 rfl hpos;cases e;have hW2:Sep w0 W (aG q p false::aN p S.D:: .sl 190 2 (sV g n cu) n (P'.flatMap vL)::rP 3 a.fb (jK a.FM):: .dZ (fG a.FM)::l7 f q S b.sb (.map (some a.fb)) false::fH b.sb b.SM::R):=Sep.dE [4,5,0,1,2,3,6] hW aQ bM;have hin:=ax0 (w0:=w0) (w:=W) (R':=.sl 190 2 (sV g n cu) n (P'.flatMap vL)::rP 3 a.fb (jK a.FM):: .dZ (fG a.FM)::l7 f q S b.sb (.map (some a.fb)) false::fH b.sb b.SM::R) hC'.out hVp hI.puts hp hPn (hW2.drop 2) 0 2 rfl rfl;have hcm:=ajH hC'.out.pI hC'.out.big (ax1 (V:=V) (P:=P) hC'.out hps aD aD) hin hc1 hc2 ajG.out hW2;(have hce:S.bL=lF (bT (jR S)) S.D:=by unfold VS.bL;rw[if_neg hne]);rw[hce];rw[hps]at hcm;refine hcm.mono ?_;rintro e w' ⟨rfl,h9⟩;exact⟨rfl,(Sep.dE [2,0,1] h9 aQ bM).drop 1⟩
  --what the second loop begins with
  (have hne:a.FM≠[]->b.SM≠[]:=fun h1=>hI.read fun h2=>h1 (by rw[h2]at hVp;exact List.Perm.eq_nil hVp.symm));have hloop:Hid (∀W,S.bL.2=true->Sep w0 W (aG q p false::aN p S.bL.1::rP 3 a.fb (jK a.FM):: .dZ (fG a.FM)::l7 f q S b.sb (.map (some a.fb)) false::fH b.sb b.SM::R)->
    W.cell? ⟨f,2,none⟩=some (.map (some a.fb))/\∃W2,(Instr.range 98 (.map (some a.fb))).run Tryz.prog W= .ok (pV W.heap.size) W2/\ajF f q p S a b S.bL.1 W.heap.size w0 W2 R a.FM []):=Lh fun W hc hW=>by
   refine⟨hW.bC 4 rfl 2,?_⟩;have h1:Sep w0 W (fH b.sb b.SM::rP 3 a.fb (jK a.FM):: .dZ (fG a.FM)::l7 f q S b.sb (.map (some a.fb)) false::aG q p false::aN p S.bL.1::R):=Sep.dE [5,2,3,4,0,1] hW aQ bM;have h2:=h1.ajD hI.reads.ok.none;have h3:Sep w0 W (rP 3 a.fb (jK a.FM)::YZ b.sb b.SM:: .dZ (fG b.SM):: .dZ (fG a.FM)::l7 f q S b.sb (.map (some a.fb)) false::aG q p false::aN p S.bL.1::R):=Sep.dE [2,0,1,3,4,5,6] h2 aQ bM;obtain⟨W2,hrun,h4,_⟩:=h3.ae0 0 rfl gT Tryz.underlying98;exact⟨W2,hrun,by simp,h4⟩
  have amJ:Hid (∀W V2 r2,S.bL.2=true->ajF f q p S a b S.bL.1 r2 w0 W R [] V2->(W.alloc (.map #[] 0)).frozen? ⟨f,2,none⟩=false/\(W.alloc (.map #[] 0)).cell? ⟨f,2,none⟩=some (.map (some a.fb))/\oP f q p S a w0 R (.returned (.tuple #[])) ((W.alloc (.map #[] 0)).setCell ⟨f,2,none⟩ (.map (some W.heap.size)))):=Lh fun W V2 r2 hc hW=>by
   (have hV2:V2.Perm a.FM:=by have:=hW.perm;rw[yX56]at this;exact this);have h1:=(hW.sep.asM 0 rfl).drop 1;have h2:Sep w0 W (YZ b.sb (lG b.SM V2):: .dZ (fG b.SM):: .dZ (fG a.FM)::l7 f q S b.sb (.map (some a.fb)) false::aG q p false::aN p S.bL.1::R):=h1;have hsn:b.sb=none->b.SM=[]/\V2=[]:=fun hs=>by
    have h3:=hI.reads.ok.none hs;refine⟨h3,?_⟩;by_cases e:a.FM=[]
    ·rw[e]at hV2;exact List.Perm.eq_nil hV2
    exact absurd h3 (hne e)
   have h3:=(h2.aoB hV2 hsn).vK;have h4:=h3.bS 2 rfl 2 (.map (some W.heap.size));refine⟨h3.bF 2 rfl 2,h3.bC 2 rfl 2,?_⟩;unfold oP;rw[if_pos hc];refine⟨rfl,_,ajE hC'.out hI.reads hV2 hm'.out hc hne W.heap.size,?_⟩;have h5:Sep w0 ((W.alloc (.map #[] 0)).setCell ⟨f,2,none⟩ (.map (some W.heap.size))) (pK f q p S.settled ⟨b.sb,lG b.SM V2,W.heap.size,[]⟩++R):=Sep.dE [2,3,4,1,0] h4 aQ bM;exact h5.dG
  (have amK:Hid (∀W,S.bL.2=false->Sep w0 W (aG q p true::aN p S.bL.1::rP 3 a.fb (jK a.FM):: .dZ (fG a.FM)::l7 f q S b.sb (.map (some a.fb)) false::fH b.sb b.SM::R)->oP f q p S a w0 R (.panicked (gJ 11)) W):=Lh fun W hc hW=>by unfold oP;rw[if_neg (by rw[hc];decide)];have h5:Sep w0 W (rP 3 a.fb (jK a.FM):: .dZ (fG a.FM)::fH b.sb b.SM::l7 f q S b.sb (.map (some a.fb)) false::aG q p true::aN p S.bL.1::R):=Sep.dE [2,3,5,4,0,1] hW aQ bM;exact⟨rfl,_,h5.drop 3⟩);have abE:Hid (∀W Ms V2 r2 x W',ajF f q p S a b S.bL.1 r2 w0 W R Ms V2->x∈Ms->Sep w0 W' (XG a.fb r2 a.FM (iP Ms x.1)::YZ b.sb (lG b.SM V2):: .dZ (fG b.SM):: .dZ (fG a.FM)::l7 f q S b.sb (.map (some a.fb)) false::aG q p false::aN p S.bL.1::R)->
    ∃sb W3,W'.cell? ⟨f,1,none⟩=some (.map (some sb))/\(Instr.mapUpdate 98 (.map (some sb)) (.int .i64 (x.1:Nat)) x.2.1).run Tryz.prog W'= .ok () W3/\ajF f q p S a b S.bL.1 r2 w0 W3 R (iP Ms x.1) (V2++[x])/\(iP Ms x.1).length<Ms.length):=Lh fun W Ms V2 r2 x W' hW hx hW'=>by
   have hxF:x∈a.FM:=hW.perm.subset (al2 _ hx);obtain⟨sb,hsb⟩:∃sb,b.sb=some sb:=by
    cases hs:b.sb with
    |some sb=>exact⟨sb,rfl⟩
    |none=>exact absurd (hI.reads.ok.none hs) (hne (fun e=>by rw[e]at hxF;cases hxF))
   have c1:=hW'.bC 4 rfl 1;have h2:=hW';rw[hsb]at h2 c1;have hkb:((V2++Ms).map (·.1)).Nodup:=(hW.perm.map (·.1)).nodup_iff.2 hnd'.out;have hxc:=hC'.out.fresh x hxF;(have hnk:((lG b.SM V2).map (·.1)).Nodup:=by have h1:=(h2.QC (L:=jK (lG b.SM V2)) 1 rfl).ne;exact Z69);have hlen:(lG b.SM V2).length<=4096:=by
    have h1:((lG b.SM V2).map (·.1)).length<=(List.range (S.nb-96)).length:=anW hnk fun k hk=>by
     obtain⟨y,hy,rfl⟩:=List.mem_map.1 hk;rcases YY hy with h3|⟨h3,_⟩
     ·exact List.mem_range.2 (hC'.out.fresh y (hW.perm.subset (G9 _ h3))).1
     exact List.mem_range.2 (hI.reads.ok.seen y h3).1
    have h2:=hC'.out.pI.few;rw[kV,QY]at h1;omega
   obtain⟨W3,hrun,h3⟩:=h2.uU (L:=jK (lG b.SM V2)) (v:=x.2.1) 1 rfl gT Tryz.underlying98 (by unfold jK;rw[kV];unfold maxLen;omega) (kY x.1 (by have:=hC'.out.pI.few;omega));rw[R3 _ x.1 x.2.1 x.2.2]at h3;rw[kT,xM]at hkb;have h4:=YV hkb.2.1 hx;refine⟨sb,W3,c1,hrun,⟨?_,?_⟩,?_⟩
   ·rw[uN];exact((YD V2 h4).symm).trans hW.perm
   ·rw[ajB,hsb];exact h3
   have:=h4.length_eq;rw[nV]at this;omega
  rw[<-hn]at hsort;have hmm:= @run_makeMap Tryz.prog;obtain⟨cb,hcb⟩:∃cb,cb=S.bL.2:=⟨_,rfl⟩;have aVB:=Lh hcb;(have hn1:(n:Int)<=40:=by omega);(have hn0:(0:Int)<=n:=by omega);clear hI hS hVp hn aMU hne hcb;rcases H5 n with h0|hpos
  ·subst h0;have hA:Hid (∀W P',P.Perm P'->P'.Pairwise (fun x y:zN=>x.1.1<=y.1.1)->Sep w0 W (.sl 190 2 (.slice Au 0 cu) 0 (P'.flatMap vL)::rP 3 a.fb (jK a.FM):: .dZ (fG a.FM)::l7 f q S b.sb (.map (some a.fb)) false::aG q p false::aN p S.D::fH b.sb b.SM::R)->S.bL.2=true/\W.cell? ⟨f,2,none⟩=some (.map (some a.fb))/\∃W2,(Instr.range 98 (.map (some a.fb))).run Tryz.prog W= .ok (pV W.heap.size) W2/\ajF f q p S a b S.bL.1 W.heap.size w0 W2 R a.FM []):=Lh fun W P' hp hs hW=>by
    obtain⟨_,h1|⟨h1,_⟩⟩:=RZ.out _ _ hp hs hW
    ·(have hc:S.bL.2=true:=by rw[h1.2]);refine⟨hc,?_⟩;(have e:S.bL.1=S.D:=by rw[h1.2]);refine hloop.out W hc ?_;rw[e];exact(Sep.dE [4,5,1,2,3,6,0] hW aQ bM).perm (by simp only[nV,kW];exact XC _)|>.dE [6,0,1,2,3,4,5] aQ bM|>.drop 1
    exact absurd h1 aQ
   clear RZ hloop;go_wp2_with(go_at_call 142;refine hsort.mono ?_;rintro e W8 ⟨rfl,P',hp,hs,h9⟩;obtain⟨hcc,c2,w7,hrg,hL⟩:=hA.out _ _ hp hs h9;replace hL:=Lh hL;replace hcc:=Lh hcc;clear hsort hA hp hs h9 hnx);exact Z9
  have hB:Hid (∀W P',P.Perm P'->P'.Pairwise (fun x y:zN=>x.1.1<=y.1.1)->Sep w0 W (.sl 190 2 (.slice Au n cu) n (P'.flatMap vL)::rP 3 a.fb (jK a.FM):: .dZ (fG a.FM)::l7 f q S b.sb (.map (some a.fb)) false::aG q p false::aN p S.D::fH b.sb b.SM::R)->W.cell? ⟨f,0,none⟩=some (pV q)/\
   Calls Tryz.prog 144 #[pV q,.slice Au n cu] W fun e w'=>e= .returned (iV (aoD S.bL.2))/\Sep w0 w' (aG q p (!S.bL.2)::aN p S.bL.1::rP 3 a.fb (jK a.FM):: .dZ (fG a.FM)::l7 f q S b.sb (.map (some a.fb)) false::fH b.sb b.SM::R)):=Lh fun W P' hp hs hW=>by
   obtain⟨c0,h1|⟨_,h1⟩⟩:=RZ.out _ _ hp hs hW
   ·exact absurd h1.1 aD
   ·exact⟨c0,h1⟩
  (have hn2:(0:Int)<n:=by omega);cases hcv:S.bL.2 with
  |true=>(have hD:Hid (∀W,Sep w0 W (aG q p (!S.bL.2)::aN p S.bL.1::rP 3 a.fb (jK a.FM):: .dZ (fG a.FM)::l7 f q S b.sb (.map (some a.fb)) false::fH b.sb b.SM::R)->W.cell? ⟨f,2,none⟩=some (.map (some a.fb))/\∃W2,(Instr.range 98 (.map (some a.fb))).run Tryz.prog W= .ok (pV W.heap.size) W2/\ajF f q p S a b S.bL.1 W.heap.size w0 W2 R a.FM []):=Lh fun W hW=>by rw[hcv]at hW;exact hloop.out W hcv hW);(have hE:aoD S.bL.2=0:=by rw[hcv];rfl);rw[hE]at hB;have hcc:=Lh hcv;clear RZ hloop hcv hE;go_wp2_with(first |(go_at_call 142;refine hsort.mono ?_;rintro e w9 ⟨rfl,P',hp,hs,h9⟩;obtain⟨c0,hcm⟩:=hB.out _ _ hp hs h9;clear hsort hB hp hs h9 hnx)|(go_at_call 144;refine hcm.mono ?_;rintro e W8 ⟨rfl,h8⟩;obtain⟨c2,w7,hrg,hL⟩:=hD.out _ h8;replace hL:=Lh hL;clear hcm hD h8)|(go_at_call 43;refine(dU _ _).mono ?_;rintro e w5 ⟨rfl,h5⟩;obtain rfl:=h5.symm));exact Z9
  |false=>(have hD:Hid (∀W,Sep w0 W (aG q p (!S.bL.2)::aN p S.bL.1::rP 3 a.fb (jK a.FM):: .dZ (fG a.FM)::l7 f q S b.sb (.map (some a.fb)) false::fH b.sb b.SM::R)->oP f q p S a w0 R (.panicked (gJ 11)) W):=Lh fun W hW=>by rw[hcv]at hW;exact amK.out W hcv hW);(have hE:aoD S.bL.2=11:=by rw[hcv];rfl);rw[hE]at hB;clear RZ hloop hcv hE amJ abE amK;go_wp2_with(first |(go_at_call 142;refine hsort.mono ?_;rintro e w9 ⟨rfl,P',hp,hs,h9⟩;obtain⟨c0,hcm⟩:=hB.out _ _ hp hs h9;clear hsort hB hp hs h9 hnx)|(go_at_call 144;refine hcm.mono ?_;rintro e W8 ⟨rfl,h8⟩;have hend:=Lh (hD.out _ h8);clear hcm hD h8)|(go_at_call 43;refine(dU _ _).mono ?_;rintro e w5 ⟨rfl,h5⟩;obtain rfl:=h5.symm));exact⟨rfl,hend.out⟩
 have hxF:x∈a.FM:=hI.perm.subset (al2 _ hx);have hxc:=hC'.out.fresh x hxF;have hlen:x.2.2.length=512:=by rw[hxc.2];exact kJ hC'.out.cur hxc.1
 have aAV:(bk S.D.now (96+x.1)).length=512:=hC'.out.amL hxc.1;have hby:Hid (∀W b' A C,Sep w0 W (C::ED f q p S b' (.star A (.dZ (fG a.FM)))::R)->BytesAt W x.2.1 x.2.2):=Lh fun W b' A C hS=>((hS.ajA).perm (List.Perm.swap _ _ _)).amH hxF
 obtain⟨i,hi⟩:∃i,i=x.1:=⟨_,rfl⟩;obtain⟨bx,hbx⟩:∃bx,bx=x.2.2:=⟨_,rfl⟩;obtain⟨bd,hbd⟩:∃bd,bd=bk S.D.now (96+x.1):=⟨_,rfl⟩;have fC:=dJ.aAU;have hb1:=hby.out _ _ _ _ fC;obtain⟨Ax,cx,hvx⟩:∃A c,x.2.1= .slice A 512 c:=by obtain⟨_,A,c,e,_⟩:=hb1;rw[hlen]at e;exact⟨A,c,e⟩
 rw[hvx]at hnx hen hby hb1;rw[<-hbx]at hb1 hby;rw[<-hi]at hnx hen;have hold:=asG (i:=i) hI.reads.ok (by rw[hi];exact hxc.1) ((fC.perm (List.Perm.swap _ _ _)).drew);have hcv:=jX hb1;have aoE:(convert 35 9 (.slice Ax 512 cx)).run Tryz.prog w3.drew= .ok (aC bx) w3.drew:=jX (hb1.below ((Below.refl _ _).drew));have i4:(i:Int)<=4096:=by have:=hC'.out.pI.few;omega
 have i0':(0:Int)<=i:=by omega
 have hI':=Lh hI;have xN:=Lh fC;replace hold:=Lh hold;have hi':=Lh hi;have aGZ:=Lh hbx;have ax2:=Lh hbd;have aMW:=Lh hvx;have hx':=Lh hx;have aVC:=Lh hxF;have aG0:=Lh (And.intro hlen aAV);clear hI dJ fC hb1 hi hbx hbd hvx hx hxF hxc hlen aAV hcv;unfold aC at aoE;obtain⟨N,hN⟩:∃N,N=P.length:=⟨_,rfl⟩;have hu2:∃A c,u2= .slice A N c:=by obtain⟨A,c,e⟩:=hI'.out.sep.eF 0 rfl;exact⟨A,c,by rw[e,hN]⟩
 obtain⟨Au,cu,hu2⟩:=hu2;subst hu2;have hN4:N<=4000:=by rw[hN];exact RX hI'.out hshort'.out
 have hN':=Lh hN;have aG1:=Lh hN4;clear hN hN4;go_wp2_with fail;refine aJ (S:=fun w'=>(convert 35 9 (.slice Ax 512 cx)).run Tryz.prog w'= .ok (.string ⟨bx.toArray⟩) w') 7 ?_;refine aA 0 aoE ?_;refine aA 1 aoE ?_;refine aA 4 aoE ?_;refine aA 5 aoE ?_;refine bG 2 fun K hK=>?_
 go_simp;go_at_call 136;refine hold.out.mono ?_;rintro e w9 ⟨v9,b2,rfl,hR2,hf2,h9⟩;have aG2:=hby.out _ _ _ _ (h9.perm (List.Perm.swap _ _ _));have hbo:=h9.axZ hf2 hR2.ok.none;rw[hi'.out,<-ax2.out]at hbo;obtain⟨A9,c9,e9⟩:∃A c,v9= .slice A 512 c:=by obtain⟨_,A,c,e,_⟩:=hbo;rw[ax2.out,aG0.out.2]at e;exact⟨A,c,e⟩
 subst e9;have BN:(convert 35 9 (.slice Ax 512 cx)).run Tryz.prog w9= .ok (.string ⟨bx.toArray⟩) w9:=jX aG2;have aVD:(convert 35 9 (.slice A9 512 c9)).run Tryz.prog w9= .ok (.string ⟨bd.toArray⟩) w9:=jX hbo;have h9':=Lh (h9.perm (List.Perm.swap _ _ _));have anZ:=Lh hR2;have aG4:=Lh hf2;clear aG2 hbo h9 hold aoE hR2 hf2;dsimp only;refine hK _ _ (fun _=>BN) ?_;clear hK K;try simp only[Act.put,gD]
 refine aW 3 (fun _=>BN) ?_;have vD:Hid (Sep w0 w9 (.sl 190 2 (.slice Au N cu) N (P.flatMap vL)::ED f q p S b2 (.star (XG a.fb rb a.FM (iP Ms x.1)) (.dZ (fG a.FM)))::R)):=by rw[hN'.out];have:=h9'.out;rw[hN'.out]at this;exact Lh this
 by_cases hd:bd=bx
 ·(have e1:(bd==bx)=true:=by simpa using hd);(have e2:(bd.toArray==bx.toArray)=true:=by rw[hd];simp);have hd':=Lh hd;clear hd;refine aW 6 (fun _=>BN) ?_;refine aR fZ ?_ _;go_wp2_with fail;go_roundg (iP Ms x.1).length
  case measure=>exact(hI'.out.F5 hnd'.out hx'.out).2
  refine Lh ⟨_,V++[x],P,b2,hI'.out.an9 hnd'.out hx'.out ?_ anZ.out (aeW aG4.out) ?_,rfl⟩
  ·unfold xV;rw[<-aGZ.out,<-ax2.out,hd'.out];simp
  rw[<-hN'.out];exact vD.out
 have e1:(bd==bx)=false:=by simpa using hd
 have e2:(bd.toArray==bx.toArray)=false:=by simpa using hd
 have hd':=Lh hd;clear hd;refine aW 6 (fun _=>BN) ?_;refine aR fZ ?_ _;go_wp2_with(at_builtin;refine aS 0 rfl _ _ 188 rfl 190 i0 _ 2 32 Tryz.underlying188 gN hz0 hz1 hz2 rfl aQ (vD.out.alloc (.cells #[iV (i:Nat),.slice Ax 512 cx] 190)) (.slice Au N cu) N (P.flatMap vL) rfl rfl (sV w9.heap.size 1 1) 1 [.int .i64 (i:Nat),.slice Ax 512 cx] rfl ⟨rfl,_,_,rfl,jL _,by unfold maxLen;omega,fun _=>⟨_,rfl,by rw[World.size_alloc];exact YI _,iA w9 #[iV (i:Nat),.slice Ax 512 cx] 190 _ rfl⟩⟩ Q8 (by have:=aG1.out;unfold maxLen;omega) (by have:=aG1.out;omega) ?_;intro v5 w5 hS5 hz5;replace hS5:=Lh hS5);go_roundg (iP Ms x.1).length
 case measure=>exact(hI'.out.F5 hnd'.out hx'.out).2
 refine Lh ⟨_,V++[x],P++[⟨(i,.slice Ax 512 cx),by omega,Ax,512,cx,rfl⟩],b2,hI'.out.aoA hnd'.out hx'.out ?_ ?_ anZ.out (aeW aG4.out) ?_,rfl⟩
 ·unfold xV;rw[<-aGZ.out,<-ax2.out];have:=hd'.out;simp;exact fun e=>this e.symm
 ·(show(i,Value.slice Ax 512 cx)=(x.1,x.2.1));rw[hi'.out,aMW.out]
 rw[<-hN'.out];exact hS5.out
end
structure VR (S:VS) (sb:Option Nat) (SM:BM):Prop where
 pI:S.D.ok S.nb
 big:96<S.nb
 seen:∀x∈SM,x.1<S.nb-96/\x.2.2=bk S.D.now (96+x.1)
 none:sb=none->SM=[]
 back:S.D.back=[]
def aAW (f q p:Nat) (S:VS) (sb:Option Nat) (SM:BM) (fo:Option Nat):List bK:=[l7 f q S sb (.map fo) false,aG q p false,aN p S.D,fH sb SM]
def bI (f q p:Nat) (S:VS):bK:=.ex fun t:Option Nat×BM×Option Nat=>.star (.pure (VR S t.1 t.2.1)) (.dZ (aAW f q p S t.1 t.2.1 t.2.2))
def OJ (f q p:Nat) (dead:Bool):bK:=.ex fun t:VS×Option Nat×Option Nat=>.dZ [l7 f q t.1 t.2.1 (.map t.2.2) dead,aG q p true]
def VS.base (S:VS):VS:= {S with cur:=S.D.now.drop 96,m:=0}
theorem vM (c:fO) (i k:Nat):bk (c.drop i) k=bk c (i+k):=by unfold bk;rw[gH,gH,zD]
theorem l8.drop {n:Nat} {c:fO} (h:l8 n c) (i:Nat):l8 (n-i) (c.drop i):=
 ⟨by rw[pU,h.len],fun b hb=>h.size b (List.mem_of_mem_drop hb)⟩
theorem Y0 :∀ {l:List uA} {D D':DK},lF (l++[none]) D=(D',true)->D'.back=[]
 |[],D,D',h=>by
  rw[pG,lF]at h;split at h
  ·cases h
  cases h;exact DK.amM D
 |x::l,D,D',h=>by
  rw[pF,lF]at h;split at h
  ·cases h
  exact Y0 h
theorem EG {S:VS} (h:S.bL.2=true) (hb:S.D.back=[]):S.bL.1.back=[]:=by
 unfold VS.bL at h ⊢;split
 ·exact hb
 rename_i hne;rw[if_neg hne]at h;have h1:lF (bT (jR S)) S.D=((lF (bT (jR S)) S.D).1,true):=by rw[<-h]
 have e:bT (jR S)=(lX (jR S)++(none::some (0,eQ ((jR S).map (·.1)))::none::(gU (jR S)++[none,some (0,eQ [])])))++[none]:=by unfold bT;simp
 rw[e]at h1;have:=Y0 h1;rw[e];exact this
section
variable {w0 w:World} {R:List bK} {f q p:Nat} {S:VS} {a:VA}
theorem Sep.qP (h:Sep w0 w (bI f q p S::R)):∃sb SM fo,VR S sb SM/\Sep w0 w (l7 f q S sb (.map fo) false::aG q p false::aN p S.D::fH sb SM::R):=by obtain⟨t,h1⟩:=h.P8;obtain⟨h2,h3⟩:=h1.kX.YQ;exact⟨t.1,t.2.1,t.2.2,h2,h3.bE⟩
theorem Sep.M4 {sb:Option Nat} {SM:BM} {fo:Option Nat} (hR:VR S sb SM) (h:Sep w0 w (l7 f q S sb (.map fo) false::aG q p false::aN p S.D::fH sb SM::R)):Sep w0 w (bI f q p S::R):=by have h1:Sep w0 w (aAW f q p S sb SM fo++R):=h;exact Sep.P9 (sb,SM,fo) (Sep.YR hR h1.dG).nW
theorem Sep.Y1 {S:VS} {sb fo:Option Nat} {dead:Bool} (h:Sep w0 w (l7 f q S sb (.map fo) dead::aG q p true::R)):Sep w0 w (OJ f q p dead::R):=
 Sep.P9 (S,sb,fo) (Sep.dG (As:=[l7 f q S sb (.map fo) dead,aG q p true]) h)
theorem Sep.aoF {dead:Bool} (h:Sep w0 w (OJ f q p dead::R)):∃S sb fo,Sep w0 w (l7 f q S sb (.map fo) dead::aG q p true::R):=by obtain⟨t,h1⟩:=h.P8;exact⟨t.1,t.2.1,t.2.2,h1.bE⟩
theorem abF {a:VA} (h:VCw S a) (hb:S.D.back=[]) (hS:Sep w0 w (aF f q p S a::R)):Sep w0 w (bI f q p S::R):=by have h1:=hS.bE;have h2:Sep w0 w (jJ a.fb a.FM::l7 f q S a.sb (.map (some a.fb)) false::aG q p false::aN p S.D::fH a.sb a.SM::R):=Sep.dE [4,0,1,2,3] h1 aQ (by simp[pK]);exact Sep.M4 ⟨⟨h.pI.now,h.pI.fast,h.pI.few,h.pI.some,h.pI.back,h.pI.left⟩,h.big,h.seen,h.none,hb⟩ (h2.drop 1)
theorem OL {S1:VS} {a:VA} {fo:Option Nat} (hL:gI S S1) (h:VC S1 a) (hb:S.D.back=[]) (hS:Sep w0 w (l7 f q S a.sb (.map fo) false::aG q p false::aN p S1.D::fH a.sb a.SM::R)):Sep w0 w (bI f q p S::R):=by rw[hL.D]at hS;exact Sep.M4 ⟨by have:=h.pI;rw[hL.D,hL.nb]at this;exact this,by have:=h.big;rw[hL.nb]at this;exact this,fun x hx=>by have:=h.seen x hx;rw[hL.D,hL.nb]at this;exact this,h.none,hb⟩ hS
theorem ax3 {sb:Option Nat} {SM:BM} (h:VR S sb SM) (ho:S.D.off=false) (fb:Nat):VC S.base ⟨sb,SM,fb,[]⟩:=
 ⟨h.pI,h.big,ho,h.pI.now.drop 96,h.seen,fun x hx=>absurd hx MR,fun k hk _=>vM _ _ _,iF _,h.none⟩
theorem abG (x:Int) (w:World):(Instr.typeAssert (.iface 153 (.agg #[iV x])) 20 153 true).run Tryz.prog w= .ok (.tuple #[.agg #[iV x],.bool true]) w:=by kernel_rfl
theorem R4 {be:Nat} {sb:Option Nat} {fv:Value} {dead:Bool} {x y:Int} {older:List PanicEntry} (h:Sep w0 w (l7 f q S sb fv dead::aI be y::R)):
  CallsD Tryz.prog 41 #[pV f,pV be] (.panicking ({v:=.iface 153 (.agg #[iV x]),recovered:=false}::older)) w fun e u' w'=>
   e= .returned (.tuple #[])/\u'= .panicking ({v:=.iface 153 (.agg #[iV x]),recovered:=true}::older)/\Sep w0 w' (l7 f q S sb fv (decide (x=11)||dead)::aI be x::R):=by
 refine callsD_of_wpS Tryz.func41 rfl fun c₀ cs hu=>?_
 apply wpS_seq
 apply wpS_region
 simp[wpOpsS,go_sem,recoverD,hu,Tryz.ntmps41,Exit.thenS]
 refine wpS_of_wp ?_
 simp only[mK,nV,kW,Nat.reduceAdd,Nat.reduceSub,HV,HY,H6,HZ,pG,pF,gD,W9,yQ]
 have hta:=abG x w
 have hA:=h.alloc (.cells #[iV x] 153)
 have c1:=hA.bC 0 rfl 4
 have f1:=hA.bF 0 rfl 4
 have e0:=hA.bC 1 rfl 0
 have ef:=hA.bF 1 rfl 0
 have hB:=hA.bS 0 rfl 4 (.bool true)
 have b0:=hB.bC 1 rfl 0
 have bf:=hB.bF 1 rfl 0
 have hB2:=hB.bS 1 rfl 0 (.int .i64 x)
 have hA2:=hA.bS 1 rfl 0 (.int .i64 x)
 simp only[gA,gB,gC]at c1 e0 b0
 by_cases hx:x=11
 ·subst hx;go_wp2_with fail;refine⟨rfl,_,rfl,.tuple #[],?_,rfl,rfl,hB2⟩;simp[results,Tryz.results41]
 ·have hx2:(x==11)=false:=mM.2 hx;rw[decide_eq_false hx,IG];go_wp2_with fail;refine⟨rfl,_,rfl,.tuple #[],?_,rfl,rfl,hA2⟩;simp[results,Tryz.results41]
theorem R5 (a b:Value) (w:World):
  CallsD Tryz.prog 41 #[a,b] .returning w fun e u' w'=>e= .returned (.tuple #[])/\u'= .returning/\w'=w:=by
 refine callsD_of_wpS Tryz.func41 rfl fun c₀ cs hu=>?_
 apply wpS_seq;apply wpS_region;simp[wpOpsS,go_sem,recoverD,hu,Tryz.ntmps41,Exit.thenS];refine wpS_of_wp ?_;simp only[mK,nV,kW,Nat.reduceAdd,Nat.reduceSub,HV,HY,H6,HZ,pG,pF,gD,W9,yQ];go_wp2_with fail;refine⟨rfl,.returning,?_,.tuple #[],?_,rfl,rfl,rfl⟩
 ·cases c₀;simp at hu;subst hu;rfl
 simp[results,Tryz.results41]
theorem M5 {be:Nat} {sb:Option Nat} {fv:Value} {dead:Bool} {x y:Int} {fn:Func} {tmps:Array Value} {Post:Ending->World->Prop} {ds:List Deferred} (h:Sep w0 w (l7 f q S sb fv dead::aI be y::R))
  (hK:∀w',Sep w0 w' (l7 f q S sb fv (decide (x=11)||dead)::aI be x::R)->Leaves Tryz.prog fn tmps Post ds .returning w'):
  Leaves Tryz.prog fn tmps Post ({target:=.fn (.func 41) #[],args:=#[pV f,pV be]}::ds) (.panicking (gJ x)) w:=by
 refine leaves_cons (f:=41) (args:=#[pV f,pV be]) bM (by simp[go_sem]) ?_;refine(R4 h).mono ?_;rintro e u' w' ⟨rfl,rfl,hS⟩;exact hK w' hS
theorem iY {a b:Value} {fn:Func} {tmps:Array Value} {Post:Ending->World->Prop} {ds:List Deferred} (hK:Leaves Tryz.prog fn tmps Post ds .returning w):
  Leaves Tryz.prog fn tmps Post ({target:=.fn (.func 41) #[],args:=#[a,b]}::ds) .returning w:=by
 refine leaves_cons (f:=41) (args:=#[a,b]) bM (by simp[go_sem]) ?_;refine(R5 a b w).mono ?_;rintro e u' w' ⟨rfl,rfl,rfl⟩;exact hK
theorem EH (ho:S.D.off=false) (h:Sep w0 w (bI f q p S::R)):
  Calls Tryz.prog 42 #[pV f] w fun e w'=>e= .returned (.tuple #[])/\∃a',VC S.base a'/\Sep w0 w' (aF f q p S.base a'::R):=by
 obtain⟨sb,SM,fo,hR,h1⟩:=h.qP;have c0:=h1.bC 0 rfl 0;have c4:=h1.bC 0 rfl 4;simp only[gA,gB,gC]at c0 c4;have hsy:=F6 (q:=q) (p:=p) (dead:=false) (R:=l7 f q S sb (.map fo) false::fH sb SM::R) hR.pI (Sep.dE [1,2,0,3] h1 aQ bM);rw[ho]at hsy;simp only[Bool.or_false,I8,if_false]at hsy;have hend:Hid (∀W,Sep w0 W (aG q p false::aN p S.D::l7 f q S sb (.map fo) false::fH sb SM::R)->(W.alloc (.map #[] 0)).frozen? ⟨f,2,none⟩=false/\(W.alloc (.map #[] 0)).cell? ⟨f,2,none⟩=some (.map fo)/\∃a',VC S.base a'/\Sep w0 ((W.alloc (.map #[] 0)).setCell ⟨f,2,none⟩ (.map (some W.heap.size))) (aF f q p S.base a'::R)):=Lh fun W hW=>by have h3:=hW.vK;have h4:=h3.bS 3 rfl 2 (.map (some W.heap.size));refine⟨h3.bF 3 rfl 2,h3.bC 3 rfl 2,_,ax3 hR ho W.heap.size,?_⟩;have h5:Sep w0 ((W.alloc (.map #[] 0)).setCell ⟨f,2,none⟩ (.map (some W.heap.size))) (pK f q p S.base ⟨sb,SM,W.heap.size,[]⟩++R):=Sep.dE [3,1,2,4,0] h4 aQ bM;exact h5.dG
 have hmm:= @run_makeMap Tryz.prog;clear h h1 hR ho;go_enter Tryz.func42,Tryz.ntmps42;go_wp2_with(first |(go_at_call 76;refine hsy.mono ?_;rintro e w9 ⟨rfl,h9⟩;obtain⟨f2,k2,he⟩:=hend.out _ h9;replace he:=Lh he;clear hsy hend h9)|(go_at_call 43;refine(dU _ _).mono ?_;rintro e w8 ⟨rfl,h8⟩;obtain rfl:=h8.symm))
 go_end0
 exact⟨rfl,he.out⟩
theorem qK {IP:FuncId} (ae1:Array Value) (w:World) (h:∀args w,(callFunc IP args).run Tryz.prog w= .ok (.enter IP args) w):(invoke (.fn (.func IP) ae1) #[]).run Tryz.prog w= .ok (.enter IP ae1) w:=by simp[invoke,go_sem,h]
theorem ae2 {S1:VS} {bf bw bn bd:Nat} {sb:Option Nat} {fo:Option Nat} {dead:Bool} {u:FrameMode} (hn:S1.names=S.names) (hb:S1.rB=S.rB) (hi:S1.rI=S.rI)
  (h:Sep w0 w (l7 f q S1 sb (.map fo) dead:: .box bf 24 #[pV f]:: .box bw 44 #[iH S.wB S.wI]:: .box bn 3 #[iV S.nodes]:: .box bd 4 #[.bool false]::R)):
  CallsD Tryz.prog 123 #[pV bd,pV bw,pV bn,pV bf] u w fun e u' w'=>
   u'=u/\e= .returned (.tuple #[])/\Sep w0 w' (l7 f q S sb (.map none) dead::R):=by
 have k0:=h.bC 1 rfl 0
 have k1:=h.bC 2 rfl 0
 have k2:=h.bC 3 rfl 0
 have k3:=h.bC 4 rfl 0
 have c5:=h.bC 0 rfl 5
 have f5:=h.bF 0 rfl 5
 have h1:=h.bS 0 rfl 5 (iH S.wB S.wI)
 have c6:=h1.bC 0 rfl 6
 have f6:=h1.bF 0 rfl 6
 have h2:=h1.bS 0 rfl 6 (.int .i64 S.nodes)
 have c2:=h2.bC 0 rfl 2
 have f2:=h2.bF 0 rfl 2
 have h3:=h2.bS 0 rfl 2 (.map none)
 unfold iH at k1 c5 c6 c2 h3 f6 f2
 simp only[gA,gB,gC]at k0 k1 k2 k3 c5
 have hst:=fun x y=>uB x y c5 f5
 have hend:Hid (Sep w0 (((w.setCell ⟨f,5,none⟩ (.complex .f64 (fI S.wB) (fI S.wI))).setCell ⟨f,6,none⟩ (.int .i64 S.nodes)).setCell ⟨f,2,none⟩ (.map none)) (l7 f q S sb (.map none) dead::R)):=Lh (by(have h4:Sep w0 (((w.setCell ⟨f,5,none⟩ (.complex .f64 (fI S.wB) (fI S.wI))).setCell ⟨f,6,none⟩ (.int .i64 S.nodes)).setCell ⟨f,2,none⟩ (.map none)) (l7 f q S sb (.map none) dead:: .box bf 24 #[pV f]:: .box bw 44 #[.complex .f64 (fI S.wB) (fI S.wI)]:: .box bn 3 #[iV S.nodes]:: .box bd 4 #[.bool false]::R):=by unfold l7 at h3 ⊢;rw[hn,hb,hi]at h3;exact h3);exact(Sep.dE [1,2,3,4,0] h4 aQ bM).drop 4)
 clear h h1 h2 h3 hn hb hi
 refine(callsD_of_wp (R:=fun e w'=>e= .returned (.tuple #[])/\Sep w0 w' (l7 f q S sb (.map none) dead::R)) Tryz.func123 rfl ?_).mono ?_
 ·simp only[Tryz.ntmps123,mK,nV,kW,Nat.reduceAdd,Nat.reduceSub,HV,HY,H6,HZ,pG,pF];go_wp2_with fail
  go_end0
  exact⟨rfl,hend.out⟩
 ·rintro e u' w' ⟨h1,h2,h3⟩;exact⟨h1,h2,h3⟩
theorem aoG {bf bw bn bd:Nat} {u:FrameMode} (hc:w.cell? ⟨bd,0,none⟩=some (.bool true)):
  CallsD Tryz.prog 123 #[pV bd,pV bw,pV bn,pV bf] u w fun e u' w'=>
   u'=u/\e= .returned (.tuple #[])/\w'=w:=by
 refine(callsD_of_wp (R:=fun e w'=>e= .returned (.tuple #[])/\w'=w) Tryz.func123 rfl ?_).mono ?_
 ·simp only[Tryz.ntmps123,mK,nV,kW,Nat.reduceAdd,Nat.reduceSub,HV,HY,H6,HZ,pG,pF];go_wp2_with fail
  go_end0
  exact⟨rfl,rfl⟩
 ·rintro e u' w' ⟨h1,h2,h3⟩;exact⟨h1,h2,h3⟩
theorem EI :∀args w,(callFunc 123 args).run Tryz.prog w= .ok (.enter 123 args) w:=Go.Proofs.enters_of Tryz.func123 fZ rfl
end
def ae3 (k:Nat):Code->Option Code
 | .seq (.region i o d) c=>if i=k then some (.seq (.region i o d) c)else ae3 k c
 | .seq _ c=>ae3 k c
 |_=>none
noncomputable def R6 (k:Nat):Code:=(Tryz.f65.body.bind (ae3 k)).getD .skip
def CX (S1:VS):Bool:=decide (S1.wB<=S1.rB)&&decide (S1.wI<=S1.rI)
def dL (f q p:Nat) (S:VS) (r:Option VS) (w0:World) (R:List bK) (e:Ending) (w':World):Prop:=
 match r with
 |none=>e= .panicked (gJ 27)/\Sep w0 w' (bI f q p S::R)
 |some S1=>
  if CX S1=true then
   if S1.bL.2=true then e= .returned (.tuple #[])/\Sep w0 w' (bI f q p S1.settled::R)
   else e= .panicked (gJ 11)/\Sep w0 w' (OJ f q p false::aN p S1.bL.1::R)
  else e= .panicked (gJ 27)/\Sep w0 w' (bI f q p S::R)
structure nO (S S1:VS):Prop where
 like:gI S S1
 m:S1.m<=40
 wB:eH S1.wB
 wI:eH S1.wI
 rB:eH S1.rB
 rI:eH S1.rI
theorem aAX {a b:Int} (ha:eH a) (hb:eH b):(FloatKind.f64.format.order (fI a) (fI b)==some .gt)= !decide (a<=b):=by
 have h:FloatKind.f64.format.order (fI a) (fI b)=some (compare a b):=asP ha hb;rw[h];rcases Int.lt_trichotomy a b with h2|h2|h2
 ·rw[Int.compare_eq_lt.2 h2,decide_eq_true (Int.le_of_lt h2)];rfl
 ·rw[Int.compare_eq_eq.2 h2,decide_eq_true (Int.le_of_eq h2)];rfl
 rw[Int.compare_eq_gt.2 h2,decide_eq_false aD];rfl
section
variable {w0 w:World} {R:List bK} {f q p:Nat} {S:VS} {a:VA}
theorem R7 {S1:VS} {a1:VA} {bf bw bn bd:Nat} {tmps:Array Value} {Post:Ending->World->Prop} {x:Int} (hL:gI S S1) (lU:VC S1 a1) (hb:S.D.back=[])
  (h:Sep w0 w (aF f q p S1 a1:: .box bd 4 #[.bool false]:: .box bf 24 #[pV f]:: .box bw 44 #[iH S.wB S.wI]:: .box bn 3 #[iV S.nodes]::R))
  (hp:∀w',Sep w0 w' (bI f q p S::R)->Post (.panicked (gJ x)) w'):
  Leaves Tryz.prog Tryz.f65 tmps Post [{target:=.fn (.func 123) #[pV bd,pV bw,pV bn,pV bf],args:=#[]}] (.panicking (gJ x)) w:=by
 have h1:=h.bE;have h2:Sep w0 w (jJ a1.fb a1.FM::l7 f q S1 a1.sb (.map (some a1.fb)) false:: .box bf 24 #[pV f]:: .box bw 44 #[iH S.wB S.wI]:: .box bn 3 #[iV S.nodes]:: .box bd 4 #[.bool false]::aG q p false::aN p S1.D::fH a1.sb a1.SM::R):=Sep.dE [4,0,6,7,8,5,1,2,3] h1 aQ (by simp[pK]);refine leaves_cons bM (qK _ _ EI) ?_;refine(ae2 (S:=S) hL.names hL.rB hL.rI (h2.drop 1)).mono ?_;rintro e u' w' ⟨rfl,rfl,h3⟩;exact hp w' (OL (fo:=none) hL lU hb h3)
theorem Z18 {P:Prop} (h:P:=by
 go_wp2_with(refine hd.mono ?_;rintro e w9 ⟨rfl,a1,lU,h9⟩;(have c5:=h9.gL.c5);(have c7:=h9.gL.c7);(have k0:=h9.bC 2 rfl 0);unfold iH at c5 c7;simp only[gA,gB]at k0;replace h9:=Lh h9;replace lU:=Lh lU;clear hd);go_quiet (fail);go_wp2_with fail;refine R7 ajI.out.like lU.out hL'.out.2.1 (h9.out.drewN nq) fun w' h5=>?_
 unfold dL;simp only;rw[if_neg (by rw[hfit.out];decide)];exact⟨trivial,h5⟩):P:=h
theorem ae4 {R':List bK} {IP:FuncId} {ae1:Array Value} {r:Option VS} {bf bw bn:Nat} {u0 u3 u6 u7 u8 u9 u10 u11 u12 u13 u14 u15 u16 u17 u18 u19 u20 u21 u22 u23 u24 u25 u26 u27 u28 u29 u30 u31 u32 u33 u34 u35 u36 u37 u38 u39 u40 u41 u42 u43 u44 u45 u46 u47 u48 u49 u50 u51 u52 u53 u54 u55 u56 u57:Value} (hent:∀args w,(callFunc IP args).run Tryz.prog w= .ok (.enter IP args) w) (hC:VC S a) (hb:S.D.back=[]) (hr:∀S1,r=some S1->nO S S1)
  (hdo:∀W X,Sep w0 W (aF f q p S a::(X++R))->Calls Tryz.prog IP ae1 W (fD f q p S r w0 (X++R')))
  (h:Sep w0 w (aF f q p S a:: .box bf 24 #[pV f]:: .box bw 44 #[iH S.wB S.wI]:: .box bn 3 #[iV S.nodes]::R)):
  (R6 2).wp Tryz.prog (bodyPostD Tryz.prog Tryz.f65 (dL f q p S r w0 R')) {tmps:=#[u0,.func (.func IP) #[] ae1,pV bf,u3,pV bw,pV bn,u6,u7,u8,u9,u10,u11,u12,u13,u14,u15,u16,u17,u18,u19,u20,u21,u22,u23,u24,u25,u26,u27,u28,u29,u30,u31,u32,u33,u34,u35,u36,u37,u38,u39,u40,u41,u42,u43,u44,u45,u46,u47,u48,u49,u50,u51,u52,u53,u54,u55,u56,u57],defers:=[]} w:=by
 have MN:∀(fn:Fn) (first cap:Array Value) (w:World),(Instr.makeFunc fn first cap).run Tryz.prog w= .ok (.func fn first cap) w:=fun _ _ _ _=>rfl
 have h1:Sep w0 (w.alloc (.cells #[.bool false] 4)) (aF f q p S a::([.box w.heap.size 4 #[.bool false],.box bf 24 #[pV f],.box bw 44 #[iH S.wB S.wI],.box bn 3 #[iV S.nodes]]++R)):=Sep.dE [1,0,2,3,4] (h.bN 4 #[.bool false]) aQ bM;have hd:=hdo _ _ h1;have aBG:=Lh hent;have hL':=Lh (And.intro hC (And.intro hb hr));clear h h1 hdo hC hb hr;unfold R6
 conv=>arg 2;whnf
 cases r with
 |none=>unfold fD at hd;simp only at hd;have hent:=aBG.out;go_wp2_with(refine hd.mono ?_;rintro e w9 ⟨rfl,S1,a1,hL,lU,h9⟩);(refine R7 hL lU hL'.out.2.1 h9 fun w' h5=>?_);exact⟨rfl,h5⟩
 |some S1=>
  unfold fD at hd;simp only at hd;have R8:=hL'.out.2.2 S1 rfl;have g1:=aAX R8.wB R8.rB;have g2:=aAX R8.wI R8.rI;have ajI:=Lh R8;clear R8;have hent:=aBG.out;by_cases hB:S1.wB<=S1.rB
  ·rw[decide_eq_true hB]at g1;simp only[Bool.not_true]at g1;by_cases hI:S1.wI<=S1.rI
   ·rw[decide_eq_true hI]at g2;simp only[Bool.not_true]at g2;(have hfit:CX S1=true:=by unfold CX;rw[decide_eq_true hB,decide_eq_true hI];rfl);replace hfit:=Lh hfit;clear hB hI;go_wp2_with(refine hd.mono ?_;rintro e w9 ⟨rfl,a1,lU,h9⟩;(have c5:=h9.gL.c5);(have c7:=h9.gL.c7);(have k0:=h9.bC 2 rfl 0);unfold iH at c5 c7;simp only[gA,gB]at k0;replace h9:=Lh h9;replace lU:=Lh lU;clear hd);go_quiet (fail);have hse:=RY lU.out ajI.out.m (by rw[ajI.out.like.D,hL'.out.2.1];decide) (h9.out.drewN nq);clear c5 c7 g1 g2;cases hcm:S1.bL.2 with
    |true=>(have an4:Calls Tryz.prog 91 #[pV f] (w9.drewN nq) fun e w'=>e= .returned (.tuple #[])/\(∃u,w'.cell? ⟨w.heap.size,0,none⟩=some (.bool u))/\w'.frozen? ⟨w.heap.size,0,none⟩=false/\(w'.setCell ⟨w.heap.size,0,none⟩ (.bool true)).cell? ⟨w.heap.size,0,none⟩=some (.bool true)/\dL f q p S (some S1) w0 R' (.returned (.tuple #[])) (w'.setCell ⟨w.heap.size,0,none⟩ (.bool true)):=by refine hse.mono ?_;intro e w' ho;unfold oP at ho;rw[if_pos hcm]at ho;obtain⟨rfl,a2,hV,h8⟩:=ho;have h7:=h8.bS 1 rfl 0 (.bool true);refine⟨rfl,⟨_,h8.bC 1 rfl 0⟩,h8.bF 1 rfl 0,h7.bC 1 rfl 0,?_⟩;unfold dL;simp only;rw[if_pos hfit.out,if_pos hcm];refine⟨trivial,abF hV (EG hcm (by rw[ajI.out.like.D];exact hL'.out.2.1)) ?_⟩;have h6:Sep w0 _ (.box w.heap.size 4 #[.bool true]:: .box bf 24 #[pV f]:: .box bw 44 #[iH S.wB S.wI]:: .box bn 3 #[iV S.nodes]::aF f q p S1.settled a2::R'):=Sep.dE [1,2,3,4,0] h7 aQ bM;exact h6.drop 4);clear hse h9 lU hcm;go_wp2_with(go_at_call 91;refine an4.mono ?_;rintro e w8 ⟨rfl,⟨u,k1⟩,f1,k2,hend⟩;replace hend:=Lh hend;replace k2:=Lh k2);refine leaves_cons (u:=.returning) bM (qK _ _ EI) ?_;refine(aoG k2.out).mono ?_;rintro e u' w' ⟨rfl,rfl,rfl⟩;exact⟨.tuple #[],by simp[results,Tryz.results65],hend.out⟩
    |false=>(have an4:Calls Tryz.prog 91 #[pV f] (w9.drewN nq) fun e w'=>e= .panicked (gJ 11)/\∃sb fo,Sep w0 w' (l7 f q S1 sb (.map fo) false:: .box bf 24 #[pV f]:: .box bw 44 #[iH S.wB S.wI]:: .box bn 3 #[iV S.nodes]:: .box w.heap.size 4 #[.bool false]::aG q p true::aN p S1.bL.1::R'):=by refine hse.mono ?_;intro e w' ho;unfold oP at ho;rw[if_neg (by rw[hcm];decide)]at ho;obtain⟨rfl,sb,h8⟩:=ho;exact⟨rfl,sb,_,Sep.dE [0,4,5,6,3,1,2] h8 aQ bM⟩);have hcm':=Lh hcm;clear hse h9 lU hcm;go_wp2_with(go_at_call 91;refine an4.mono ?_;rintro e w8 ⟨rfl,sb,fo,h8⟩;replace h8:=Lh h8);refine leaves_cons (u:=.panicking (gJ 11)) (by simp[gJ]) (qK _ _ EI) ?_;refine(ae2 (S:=S) ajI.out.like.names ajI.out.like.rB ajI.out.like.rI h8.out).mono ?_;rintro e u' w' ⟨rfl,rfl,h7⟩;(show dL f q p S (some S1) w0 R' (.panicked (gJ 11)) w');unfold dL;simp only;rw[if_pos hfit.out,if_neg (by rw[hcm'.out];decide)];exact⟨trivial,h7.Y1⟩
   rw[decide_eq_false hI]at g2;simp only[Bool.not_false]at g2;(have hfit:CX S1=false:=by unfold CX;rw[decide_eq_false hI,Bool.and_false]);replace hfit:=Lh hfit;clear hB hI;exact Z18
  rw[decide_eq_false hB]at g1;simp only[Bool.not_false]at g1;(have hfit:CX S1=false:=by unfold CX;rw[decide_eq_false hB,Q4]);replace hfit:=Lh hfit;clear hB g2;exact Z18
end
end Go.Proofs.YteihmbaimbogaaaGreat
