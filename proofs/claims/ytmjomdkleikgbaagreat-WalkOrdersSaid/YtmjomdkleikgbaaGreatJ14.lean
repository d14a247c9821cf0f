/- Parts. -/
import Derived.Test.YtmjomdkleikgbaaGreatJ13
set_option linter.unusedVariables false
set_option linter.unusedSimpArgs false
set_option maxRecDepth 100000
set_option maxHeartbeats 20000000
namespace Go.Proofs.YtmjomdkleikgbaaGreat
open Go.RowKit
theorem NV {w0 w:World} {R:List aV} {f q p:Nat} {S:VS} {a:VA} {r:Nat} {v:Value} {Ms V:BM} {P:List wQ} {b:VA} (h:LJ f q p S a r w0 w R v Ms V P b) (hm:a.FM.length<=4000):P.length<=4000:=by
 have h1:(P.map (·.1)).length=((V.filter (vG S)).map fun x=>(x.1,x.2.1)).length:=by rw[h.puts]
 rw[iT,iT]at h1;have h2:=RG (vG S) V;have h3:=h.perm.length_eq;rw[jJ]at h3;omega
section
variable {w0 w:World} {R:List aV} {f q p:Nat} {S:VS} {a:VA}
def mQ (f q p:Nat) (S:VS) (a:VA) (w0:World) (R:List aV) (e:Ending) (w':World):Prop:=
 if S.bI.2=true then e= .returned (.tuple #[])/\∃a',VCw S.settled a'/\Sep w0 w' (aD f q p S.settled a'::R)
 else e= .panicked (eQ 11)/\∃sb,Sep w0 w' (kP f q S sb (.map (some a.fb)) false::aG q p true::aN p S.bI.1::R)
theorem Sep.aEO {b:VA} {r:Nat} {v:Value} {V:BM} {P:List wQ} (hI:LJ f q p S a r w0 w R v [] V P b):
  Sep w0 w (.sl 208 2 v P.length (P.flatMap rY)::l8 3 a.fb (iH a.FM):: .dR (eG a.FM)::kP f q S b.sb (.map (some a.fb)) false::aG q p false::aN p S.D::eT b.sb b.SM::R):=by
 have h1:=(hI.sep.ad6).anQ 0 rfl;rw[hI.reads.fb]at h1;exact Sep.dC [6,0,1,2,3,4,5] h1 aR bK
theorem Z5 {P:Prop} (h:P:=by
 replace hcc:=hcc.out;go_loopg[] a.FM.length (fun g wr2=>Hid (∃Ms V,aeB f q p S a b S.bI.1 W8.heap.size w0 wr2 R Ms V/\g=Ms.length))
 case atStart=>exact Lh ⟨a.FM,[],hL.out,rfl⟩
 clear hL hrg;obtain⟨Ms,V2,hJ,rfl⟩:=hrel.out;clear hrel;rcases hJ.sep.ZZ 0 with⟨rfl,hnx2⟩|⟨x,w6,hx,hnx2,mG,tQ⟩
 ·obtain⟨f2,d2,hfin⟩:=ahK.out _ _ _ hcc hJ;replace hfin:=Lh hfin;clear hJ WR ahK ahL;go_wp2_with fail
  go_end0
  exact hfin.out
 obtain⟨sb,W3,d1,hmu,hJ2,hlt⟩:=WR.out _ _ _ _ _ _ hJ hx mG;have hx2:∃A c,x.2.1= .slice A 512 c:=by have hxF:x∈a.FM:=hJ.perm.subset (Y7 _ hx);have hb1:=hJ.sep.WQ 3 rfl hxF;have hxc:=hC'.out.fresh x hxF;obtain⟨_,A,c,e,_⟩:=hb1;rw[hxc.2,jK hC'.out.cur hxc.1]at e;exact⟨A,c,e⟩
 obtain⟨A6,c6,e6⟩:=hx2;rw[e6]at hnx2 tQ hmu;obtain⟨i,hi⟩:∃i,i=x.1:=⟨_,rfl⟩;rw[<-hi]at hnx2 tQ hmu;obtain⟨Ms2,azR⟩:∃Ms2,Ms2=gN Ms x.1:=⟨_,rfl⟩;rw[<-azR]at hJ2 hlt;replace hJ2:=Lh hJ2;replace hlt:=Lh hlt;clear hJ mG WR ahK ahL e6 hx hi azR;go_wp2_with fail;go_roundg Ms2.length
 case measure=>exact hlt.out
 case rel=>exact Lh ⟨Ms2,_,hJ2.out,rfl⟩):P:=h
theorem NW (hC:VC S a) (hm:S.m<=40) (hback:S.D.back.length<=60000) (h:Sep w0 w (aD f q p S a::R)):
  Calls Tryz.prog 101 #[pV f] w (mQ f q p S a w0 R):=by
 have h1:=h.bD;have hkey:Sep w0 w (l8 3 a.fb (iH a.FM):: .dR (eG a.FM)::kP f q S a.sb (.map (some a.fb)) false::aG q p false::aN p S.D::eT a.sb a.SM::R):=Sep.jG (Sep.dC [4,0,1,2,3] h1 aR (by simp[o8]));have hnd:(a.FM.map (·.1)).Nodup:=by have h1:=(hkey.sD 0 rfl).ne;exact Z53
 have hshort:=hC.anS hnd;obtain⟨w1,hrg,hS1,hsz1⟩:=hkey.NY 0 rfl dV Tryz.underlying111;have hI0:Hid (∃Ms V P b,LJ f q p S a w.heap.size w0 w1 R (.slice none 0 0) Ms V P b/\a.FM.length=Ms.length):=Lh ⟨a.FM,[],[],a,⟨.refl hC,by simp,rfl,fun h=>absurd rfl h,by have h3:Sep w0 w1 (RO a.fb w.heap.size a.FM a.FM:: .dR (eG a.FM)::kP f q S a.sb (.map (some a.fb)) false::aG q p false::aN p S.D::eT a.sb a.SM::R):=hS1;have h4:Sep w0 w1 (RO a.fb w.heap.size a.FM a.FM:: .dR (eG a.FM)::kP f q S a.sb (.map (some a.fb)) false::aG q p false::aN p S.D::eT a.sb a.SM:: .sl 208 2 (.slice none 0 0) 0 []::R):=Sep.dC [1,2,3,4,5,6,0] (h3.iO 208 2) aR bK;exact h4.avG⟩,rfl⟩;have c2:=h.fC.c2;obtain⟨i0,o7,hz0,hz1,hz2⟩:=iN anL;have hC':=Lh hC;have hnd':=Lh hnd;have hshort':=Lh hshort;have hm':=Lh hm;have aeC:=Lh hback;obtain⟨rb,hrb⟩:∃rb,rb=w.heap.size:=⟨_,rfl⟩;rw[<-hrb]at hI0 hrg;clear hC hm hback h h1 hkey hnd hS1 hsz1 hrb hshort;go_enter Tryz.func101,Tryz.ntmps101;go_wp2_with fail;go_loopg[2] a.FM.length (fun g u wr=>Hid (∃Ms V P b,LJ f q p S a rb w0 wr R u Ms V P b/\g=Ms.length))
 case atStart=>exact hI0
 clear hI0 c2 hrg;obtain⟨Ms,V,P,b,hI,rfl⟩:=hrel.out;clear hrel;rcases(hI.sep.ad6).ZZ 0 with⟨rfl,hnx⟩|⟨x,w3,hx,hnx,eZ,hen⟩
 ·have hS:=Sep.aEO hI;(have hVp:V.Perm a.FM:=by have:=hI.perm;rw[yX42]at this;exact this);have hsort:=ajF hS (by have:=NV hI hshort'.out;omega);obtain⟨n,hn⟩:∃n,n=P.length:=⟨_,rfl⟩;(have aEP:n<=40:=by have h1:=congrArg List.length hI.puts;rw[iT,iT]at h1;have h2:=RG (vG S) V;have h3:=hVp.length_eq;have h4:=hC'.out.few;have h5:=hm'.out;omega);(have hu2:∃A c,u2= .slice A n c:=by obtain⟨A,c,e⟩:=hI.sep.dS 0 rfl;exact⟨A,c,by rw[e,hn]⟩);obtain⟨Au,cu,hu2⟩:=hu2;subst hu2
  --what the ledger answers
  have NZ:Hid (∀W P',P.Perm P'->P'.Pairwise (fun x y:wQ=>x.1.1<=y.1.1)->Sep w0 W (.sl 208 2 (.slice Au n cu) n (P'.flatMap rY)::l8 3 a.fb (iH a.FM):: .dR (eG a.FM)::kP f q S b.sb (.map (some a.fb)) false::aG q p false::aN p S.D::eT b.sb b.SM::R)->
    W.cell? ⟨f,0,none⟩=some (pV q)/\
    ((n=0/\S.bI=(S.D,true))\/(1<=n/\Calls Tryz.prog 167 #[pV q,.slice Au n cu] W fun e w'=>e= .returned (iV (ajK S.bI.2))/\Sep w0 w' (aG q p (!S.bI.2)::aN p S.bI.1::l8 3 a.fb (iH a.FM):: .dR (eG a.FM)::kP f q S b.sb (.map (some a.fb)) false::eT b.sb b.SM::R)))):=Lh fun W P' hp hs hW=>by
   have hps:=aaE hC'.out hnd'.out hVp hI.puts hp hs;(have hPn:P'.length=n:=by rw[hn];exact hp.length_eq.symm);refine⟨hW.bC 3 rfl 0,?_⟩;rcases xN n with h0|hpos
   ·refine .inl ⟨h0,?_⟩;(have:jE S=[]:=by rw[<-hps,uR (hPn.trans h0)];rfl);unfold VS.bI;rw[if_pos this]
   refine .inr ⟨hpos,?_⟩;(have hne:¬jE S=[]:=by intro e;rw[<-hps]at e;have:=List.map_eq_nil_iff.1 e;rw[this]at hPn;simp at hPn;omega);obtain⟨g,c,e,_,_,hc1,hc2⟩:=hW.jX 0 rfl hpos;cases e;have hW2:Sep w0 W (aG q p false::aN p S.D:: .sl 208 2 (sV g n cu) n (P'.flatMap rY)::l8 3 a.fb (iH a.FM):: .dR (eG a.FM)::kP f q S b.sb (.map (some a.fb)) false::eT b.sb b.SM::R):=Sep.dC [4,5,0,1,2,3,6] hW aR bK;have hin:=asL (w0:=w0) (w:=W) (R':=.sl 208 2 (sV g n cu) n (P'.flatMap rY)::l8 3 a.fb (iH a.FM):: .dR (eG a.FM)::kP f q S b.sb (.map (some a.fb)) false::eT b.sb b.SM::R) hC'.out hVp hI.puts hp hPn (hW2.drop 2) 0 2 rfl rfl;have hcm:=aeD hC'.out.oU hC'.out.big (asM (V:=V) (P:=P) hC'.out hps aI aI) hin hc1 hc2 aeC.out hW2;(have hce:S.bI=kF (bW (jE S)) S.D:=by unfold VS.bI;rw[if_neg hne]);rw[hce];rw[hps]at hcm;refine hcm.mono ?_;rintro e w' ⟨rfl,h9⟩;exact⟨rfl,(Sep.dC [2,0,1] h9 aR bK).drop 1⟩
  --what the second loop begins with
  (have hne:a.FM≠[]->b.SM≠[]:=fun h1=>hI.read fun h2=>h1 (by rw[h2]at hVp;exact List.Perm.eq_nil hVp.symm));have hloop:Hid (∀W,S.bI.2=true->Sep w0 W (aG q p false::aN p S.bI.1::l8 3 a.fb (iH a.FM):: .dR (eG a.FM)::kP f q S b.sb (.map (some a.fb)) false::eT b.sb b.SM::R)->
    W.cell? ⟨f,2,none⟩=some (.map (some a.fb))/\∃W2,(Instr.range 111 (.map (some a.fb))).run Tryz.prog W= .ok (pV W.heap.size) W2/\aeB f q p S a b S.bI.1 W.heap.size w0 W2 R a.FM []):=Lh fun W hc hW=>by
   refine⟨hW.bC 4 rfl 2,?_⟩;have h1:Sep w0 W (eT b.sb b.SM::l8 3 a.fb (iH a.FM):: .dR (eG a.FM)::kP f q S b.sb (.map (some a.fb)) false::aG q p false::aN p S.bI.1::R):=Sep.dC [5,2,3,4,0,1] hW aR bK;have h2:=h1.ad9 hI.reads.ok.none;have h3:Sep w0 W (l8 3 a.fb (iH a.FM)::UD b.sb b.SM:: .dR (eG b.SM):: .dR (eG a.FM)::kP f q S b.sb (.map (some a.fb)) false::aG q p false::aN p S.bI.1::R):=Sep.dC [2,0,1,3,4,5,6] h2 aR bK;obtain⟨W2,hrun,h4,_⟩:=h3.NY 0 rfl dV Tryz.underlying111;exact⟨W2,hrun,by simp,h4⟩
  have ahK:Hid (∀W V2 r2,S.bI.2=true->aeB f q p S a b S.bI.1 r2 w0 W R [] V2->(W.alloc (.map #[] 0)).frozen? ⟨f,2,none⟩=false/\(W.alloc (.map #[] 0)).cell? ⟨f,2,none⟩=some (.map (some a.fb))/\mQ f q p S a w0 R (.returned (.tuple #[])) ((W.alloc (.map #[] 0)).setCell ⟨f,2,none⟩ (.map (some W.heap.size)))):=Lh fun W V2 r2 hc hW=>by
   (have hV2:V2.Perm a.FM:=by have:=hW.perm;rw[yX42]at this;exact this);have h1:=(hW.sep.anQ 0 rfl).drop 1;have h2:Sep w0 W (UD b.sb (jN b.SM V2):: .dR (eG b.SM):: .dR (eG a.FM)::kP f q S b.sb (.map (some a.fb)) false::aG q p false::aN p S.bI.1::R):=h1;have hsn:b.sb=none->b.SM=[]/\V2=[]:=fun hs=>by
    have h3:=hI.reads.ok.none hs;refine⟨h3,?_⟩;by_cases e:a.FM=[]
    ·rw[e]at hV2;exact List.Perm.eq_nil hV2
    exact absurd h3 (hne e)
   have h3:=(h2.ajI hV2 hsn).xU;have h4:=h3.bS 2 rfl 2 (.map (some W.heap.size));refine⟨h3.bF 2 rfl 2,h3.bC 2 rfl 2,?_⟩;unfold mQ;rw[if_pos hc];refine⟨rfl,_,aeA hC'.out hI.reads hV2 hm'.out hc hne W.heap.size,?_⟩;have h5:Sep w0 ((W.alloc (.map #[] 0)).setCell ⟨f,2,none⟩ (.map (some W.heap.size))) (o8 f q p S.settled ⟨b.sb,jN b.SM V2,W.heap.size,[]⟩++R):=Sep.dC [2,3,4,1,0] h4 aR bK;exact h5.cZ
  (have ahL:Hid (∀W,S.bI.2=false->Sep w0 W (aG q p true::aN p S.bI.1::l8 3 a.fb (iH a.FM):: .dR (eG a.FM)::kP f q S b.sb (.map (some a.fb)) false::eT b.sb b.SM::R)->mQ f q p S a w0 R (.panicked (eQ 11)) W):=Lh fun W hc hW=>by unfold mQ;rw[if_neg (by rw[hc];decide)];have h5:Sep w0 W (l8 3 a.fb (iH a.FM):: .dR (eG a.FM)::eT b.sb b.SM::kP f q S b.sb (.map (some a.fb)) false::aG q p true::aN p S.bI.1::R):=Sep.dC [2,3,5,4,0,1] hW aR bK;exact⟨rfl,_,h5.drop 3⟩);have WR:Hid (∀W Ms V2 r2 x W',aeB f q p S a b S.bI.1 r2 w0 W R Ms V2->x∈Ms->Sep w0 W' (RO a.fb r2 a.FM (gN Ms x.1)::UD b.sb (jN b.SM V2):: .dR (eG b.SM):: .dR (eG a.FM)::kP f q S b.sb (.map (some a.fb)) false::aG q p false::aN p S.bI.1::R)->
    ∃sb W3,W'.cell? ⟨f,1,none⟩=some (.map (some sb))/\(Instr.mapUpdate 111 (.map (some sb)) (.int .i64 (x.1:Nat)) x.2.1).run Tryz.prog W'= .ok () W3/\aeB f q p S a b S.bI.1 r2 w0 W3 R (gN Ms x.1) (V2++[x])/\(gN Ms x.1).length<Ms.length):=Lh fun W Ms V2 r2 x W' hW hx hW'=>by
   have hxF:x∈a.FM:=hW.perm.subset (Y7 _ hx);obtain⟨sb,hsb⟩:∃sb,b.sb=some sb:=by
    cases hs:b.sb with
    |some sb=>exact⟨sb,rfl⟩
    |none=>exact absurd (hI.reads.ok.none hs) (hne (fun e=>by rw[e]at hxF;cases hxF))
   have c1:=hW'.bC 4 rfl 1;have h2:=hW';rw[hsb]at h2 c1;have hkb:((V2++Ms).map (·.1)).Nodup:=(hW.perm.map (·.1)).nodup_iff.2 hnd'.out;have hxc:=hC'.out.fresh x hxF;(have hnk:((jN b.SM V2).map (·.1)).Nodup:=by have h1:=(h2.sD (L:=iH (jN b.SM V2)) 1 rfl).ne;exact Z53);have hlen:(jN b.SM V2).length<=4096:=by
    have h1:((jN b.SM V2).map (·.1)).length<=(List.range (S.nb-96)).length:=aiZ hnk fun k hk=>by
     obtain⟨y,hy,rfl⟩:=List.mem_map.1 hk;rcases UC hy with h3|⟨h3,_⟩
     ·exact List.mem_range.2 (hC'.out.fresh y (hW.perm.subset (uT _ h3))).1
     exact List.mem_range.2 (hI.reads.ok.seen y h3).1
    have h2:=hC'.out.oU.few;rw[iT,KD]at h1;omega
   obtain⟨W3,hrun,h3⟩:=h2.l5 (L:=iH (jN b.SM V2)) (v:=x.2.1) 1 rfl dV Tryz.underlying111 (by unfold iH;rw[iT];unfold maxLen;omega) (jI x.1 (by have:=hC'.out.oU.few;omega));rw[N7 _ x.1 x.2.1 x.2.2]at h3;rw[mM,uW]at hkb;have h4:=T9 hkb.2.1 hx;refine⟨sb,W3,c1,hrun,⟨?_,?_⟩,?_⟩
   ·rw[nT];exact((adY V2 h4).symm).trans hW.perm
   ·rw[ad7,hsb];exact h3
   have:=h4.length_eq;rw[kM]at this;omega
  rw[<-hn]at hsort;have hmm:= @run_makeMap Tryz.prog;obtain⟨cb,hcb⟩:∃cb,cb=S.bI.2:=⟨_,rfl⟩;have aLD:=Lh hcb;(have hn1:(n:Int)<=40:=by omega);(have hn0:(0:Int)<=n:=by omega);clear hI hS hVp hn aEP hne hcb;rcases xN n with h0|hpos
  ·subst h0;have hA:Hid (∀W P',P.Perm P'->P'.Pairwise (fun x y:wQ=>x.1.1<=y.1.1)->Sep w0 W (.sl 208 2 (.slice Au 0 cu) 0 (P'.flatMap rY)::l8 3 a.fb (iH a.FM):: .dR (eG a.FM)::kP f q S b.sb (.map (some a.fb)) false::aG q p false::aN p S.D::eT b.sb b.SM::R)->S.bI.2=true/\W.cell? ⟨f,2,none⟩=some (.map (some a.fb))/\∃W2,(Instr.range 111 (.map (some a.fb))).run Tryz.prog W= .ok (pV W.heap.size) W2/\aeB f q p S a b S.bI.1 W.heap.size w0 W2 R a.FM []):=Lh fun W P' hp hs hW=>by
    obtain⟨_,h1|⟨h1,_⟩⟩:=NZ.out _ _ hp hs hW
    ·(have hc:S.bI.2=true:=by rw[h1.2]);refine⟨hc,?_⟩;(have e:S.bI.1=S.D:=by rw[h1.2]);refine hloop.out W hc ?_;rw[e];exact(Sep.dC [4,5,1,2,3,6,0] hW aR bK).perm (by simp only[kM,rF];exact FN _)|>.dC [6,0,1,2,3,4,5] aR bK|>.drop 1
    exact absurd h1 aR
   clear NZ hloop;go_wp2_with(go_at_call 165;refine hsort.mono ?_;rintro e W8 ⟨rfl,P',hp,hs,h9⟩;obtain⟨hcc,c2,w7,hrg,hL⟩:=hA.out _ _ hp hs h9;replace hL:=Lh hL;replace hcc:=Lh hcc;clear hsort hA hp hs h9 hnx);exact Z5
  have hB:Hid (∀W P',P.Perm P'->P'.Pairwise (fun x y:wQ=>x.1.1<=y.1.1)->Sep w0 W (.sl 208 2 (.slice Au n cu) n (P'.flatMap rY)::l8 3 a.fb (iH a.FM):: .dR (eG a.FM)::kP f q S b.sb (.map (some a.fb)) false::aG q p false::aN p S.D::eT b.sb b.SM::R)->W.cell? ⟨f,0,none⟩=some (pV q)/\
   Calls Tryz.prog 167 #[pV q,.slice Au n cu] W fun e w'=>e= .returned (iV (ajK S.bI.2))/\Sep w0 w' (aG q p (!S.bI.2)::aN p S.bI.1::l8 3 a.fb (iH a.FM):: .dR (eG a.FM)::kP f q S b.sb (.map (some a.fb)) false::eT b.sb b.SM::R)):=Lh fun W P' hp hs hW=>by
   obtain⟨c0,h1|⟨_,h1⟩⟩:=NZ.out _ _ hp hs hW
   ·exact absurd h1.1 aI
   ·exact⟨c0,h1⟩
  (have hn2:(0:Int)<n:=by omega);cases hcv:S.bI.2 with
  |true=>(have hD:Hid (∀W,Sep w0 W (aG q p (!S.bI.2)::aN p S.bI.1::l8 3 a.fb (iH a.FM):: .dR (eG a.FM)::kP f q S b.sb (.map (some a.fb)) false::eT b.sb b.SM::R)->W.cell? ⟨f,2,none⟩=some (.map (some a.fb))/\∃W2,(Instr.range 111 (.map (some a.fb))).run Tryz.prog W= .ok (pV W.heap.size) W2/\aeB f q p S a b S.bI.1 W.heap.size w0 W2 R a.FM []):=Lh fun W hW=>by rw[hcv]at hW;exact hloop.out W hcv hW);(have hE:ajK S.bI.2=0:=by rw[hcv];rfl);rw[hE]at hB;have hcc:=Lh hcv;clear NZ hloop hcv hE;go_wp2_with(first |(go_at_call 165;refine hsort.mono ?_;rintro e w9 ⟨rfl,P',hp,hs,h9⟩;obtain⟨c0,hcm⟩:=hB.out _ _ hp hs h9;clear hsort hB hp hs h9 hnx)|(go_at_call 167;refine hcm.mono ?_;rintro e W8 ⟨rfl,h8⟩;obtain⟨c2,w7,hrg,hL⟩:=hD.out _ h8;replace hL:=Lh hL;clear hcm hD h8)|(go_at_call 54;refine(dO _ _).mono ?_;rintro e w5 ⟨rfl,h5⟩;obtain rfl:=h5.symm));exact Z5
  |false=>(have hD:Hid (∀W,Sep w0 W (aG q p (!S.bI.2)::aN p S.bI.1::l8 3 a.fb (iH a.FM):: .dR (eG a.FM)::kP f q S b.sb (.map (some a.fb)) false::eT b.sb b.SM::R)->mQ f q p S a w0 R (.panicked (eQ 11)) W):=Lh fun W hW=>by rw[hcv]at hW;exact ahL.out W hcv hW);(have hE:ajK S.bI.2=11:=by rw[hcv];rfl);rw[hE]at hB;clear NZ hloop hcv hE ahK WR ahL;go_wp2_with(first |(go_at_call 165;refine hsort.mono ?_;rintro e w9 ⟨rfl,P',hp,hs,h9⟩;obtain⟨c0,hcm⟩:=hB.out _ _ hp hs h9;clear hsort hB hp hs h9 hnx)|(go_at_call 167;refine hcm.mono ?_;rintro e W8 ⟨rfl,h8⟩;have hend:=Lh (hD.out _ h8);clear hcm hD h8)|(go_at_call 54;refine(dO _ _).mono ?_;rintro e w5 ⟨rfl,h5⟩;obtain rfl:=h5.symm));exact⟨rfl,hend.out⟩
 have hxF:x∈a.FM:=hI.perm.subset (Y7 _ hx);have hxc:=hC'.out.fresh x hxF;have hlen:x.2.2.length=512:=by rw[hxc.2];exact jK hC'.out.cur hxc.1
 have avH:(bk S.D.now (96+x.1)).length=512:=hC'.out.ahM hxc.1;have hby:Hid (∀W b' A C,Sep w0 W (C::zU f q p S b' (.star A (.dR (eG a.FM)))::R)->BytesAt W x.2.1 x.2.2):=Lh fun W b' A C hS=>((hS.ad6).perm (List.Perm.swap _ _ _)).ahI hxF
 obtain⟨i,hi⟩:∃i,i=x.1:=⟨_,rfl⟩;obtain⟨bx,hbx⟩:∃bx,bx=x.2.2:=⟨_,rfl⟩;obtain⟨bd,hbd⟩:∃bd,bd=bk S.D.now (96+x.1):=⟨_,rfl⟩;have lX:=eZ.avG;have hb1:=hby.out _ _ _ _ lX;obtain⟨Ax,cx,hvx⟩:∃A c,x.2.1= .slice A 512 c:=by obtain⟨_,A,c,e,_⟩:=hb1;rw[hlen]at e;exact⟨A,c,e⟩
 rw[hvx]at hnx hen hby hb1;rw[<-hbx]at hb1 hby;rw[<-hi]at hnx hen;have hold:=anJ (i:=i) hI.reads.ok (by rw[hi];exact hxc.1) ((lX.perm (List.Perm.swap _ _ _)).drew);have hcv:=gM hb1;have ajL:(convert 69 9 (.slice Ax 512 cx)).run Tryz.prog w3.drew= .ok (aC bx) w3.drew:=gM (hb1.below ((Below.refl _ _).drew));have i4:(i:Int)<=4096:=by have:=hC'.out.oU.few;omega
 have i0':(0:Int)<=i:=by omega
 have hI':=Lh hI;have azS:=Lh lX;replace hold:=Lh hold;have hi':=Lh hi;have azT:=Lh hbx;have WS:=Lh hbd;have aER:=Lh hvx;have hx':=Lh hx;have aLE:=Lh hxF;have azU:=Lh (And.intro hlen avH);clear hI eZ lX hb1 hi hbx hbd hvx hx hxF hxc hlen avH hcv;unfold aC at ajL;obtain⟨N,hN⟩:∃N,N=P.length:=⟨_,rfl⟩;have hu2:∃A c,u2= .slice A N c:=by obtain⟨A,c,e⟩:=hI'.out.sep.dS 0 rfl;exact⟨A,c,by rw[e,hN]⟩
 obtain⟨Au,cu,hu2⟩:=hu2;subst hu2;have hN4:N<=4000:=by rw[hN];exact NV hI'.out hshort'.out
 have hN':=Lh hN;have azV:=Lh hN4;clear hN hN4;go_wp2_with fail;refine aO (S:=fun w'=>(convert 69 9 (.slice Ax 512 cx)).run Tryz.prog w'= .ok (.string ⟨bx.toArray⟩) w') 7 ?_;refine aA 0 ajL ?_;refine aA 1 ajL ?_;refine aA 4 ajL ?_;refine aA 5 ajL ?_;refine bH 2 fun K hK=>?_
 go_simp;go_at_call 157;refine hold.out.mono ?_;rintro e w9 ⟨v9,b2,rfl,hR2,hf2,h9⟩;have azW:=hby.out _ _ _ _ (h9.perm (List.Perm.swap _ _ _));have hbo:=h9.asK hf2 hR2.ok.none;rw[hi'.out,<-WS.out]at hbo;obtain⟨A9,c9,e9⟩:∃A c,v9= .slice A 512 c:=by obtain⟨_,A,c,e,_⟩:=hbo;rw[WS.out,azU.out.2]at e;exact⟨A,c,e⟩
 subst e9;have asN:(convert 69 9 (.slice Ax 512 cx)).run Tryz.prog w9= .ok (.string ⟨bx.toArray⟩) w9:=gM azW;have aLF:(convert 69 9 (.slice A9 512 c9)).run Tryz.prog w9= .ok (.string ⟨bd.toArray⟩) w9:=gM hbo;have h9':=Lh (h9.perm (List.Perm.swap _ _ _));have ai6:=Lh hR2;have asO:=Lh hf2;clear azW hbo h9 hold ajL hR2 hf2;dsimp only;refine hK _ _ (fun _=>asN) ?_;clear hK K;try simp only[Act.put,gD]
 refine bG 3 (fun _=>asN) ?_;have zG:Hid (Sep w0 w9 (.sl 208 2 (.slice Au N cu) N (P.flatMap rY)::zU f q p S b2 (.star (RO a.fb rb a.FM (gN Ms x.1)) (.dR (eG a.FM)))::R)):=by rw[hN'.out];have:=h9'.out;rw[hN'.out]at this;exact Lh this
 by_cases hd:bd=bx
 ·(have e1:(bd==bx)=true:=by simpa using hd);(have e2:(bd.toArray==bx.toArray)=true:=by rw[hd];simp);have hd':=Lh hd;clear hd;refine bG 6 (fun _=>asN) ?_;refine aS fT ?_ _;go_wp2_with fail;go_roundg (gN Ms x.1).length
  case measure=>exact(hI'.out.CE hnd'.out hx'.out).2
  refine Lh ⟨_,V++[x],P,b2,hI'.out.ajG hnd'.out hx'.out ?_ ai6.out (aaB asO.out) ?_,rfl⟩
  ·unfold vG;rw[<-azT.out,<-WS.out,hd'.out];simp
  rw[<-hN'.out];exact zG.out
 have e1:(bd==bx)=false:=by simpa using hd
 have e2:(bd.toArray==bx.toArray)=false:=by simpa using hd
 have hd':=Lh hd;clear hd;refine bG 6 (fun _=>asN) ?_;refine aS fT ?_ _;go_wp2_with(at_builtin;refine dH 0 rfl _ _ 206 rfl 208 i0 _ 2 32 Tryz.underlying206 o7 hz0 hz1 hz2 rfl aR (zG.out.alloc (.cells #[iV (i:Nat),.slice Ax 512 cx] 208)) (.slice Au N cu) N (P.flatMap rY) rfl rfl (sV w9.heap.size 1 1) 1 [.int .i64 (i:Nat),.slice Ax 512 cx] rfl ⟨rfl,_,_,rfl,iU _,by unfold maxLen;omega,fun _=>⟨_,rfl,by rw[World.size_alloc];exact IX _,jH w9 #[iV (i:Nat),.slice Ax 512 cx] 208 _ rfl⟩⟩ oCl (by have:=azV.out;unfold maxLen;omega) (by have:=azV.out;omega) ?_;intro v5 w5 hS5 hz5;replace hS5:=Lh hS5);go_roundg (gN Ms x.1).length
 case measure=>exact(hI'.out.CE hnd'.out hx'.out).2
 refine Lh ⟨_,V++[x],P++[⟨(i,.slice Ax 512 cx),by omega,Ax,512,cx,rfl⟩],b2,hI'.out.ajH hnd'.out hx'.out ?_ ?_ ai6.out (aaB asO.out) ?_,rfl⟩
 ·unfold vG;rw[<-azT.out,<-WS.out];have:=hd'.out;simp;exact fun e=>this e.symm
 ·(show(i,Value.slice Ax 512 cx)=(x.1,x.2.1));rw[hi'.out,aER.out]
 rw[<-hN'.out];exact hS5.out
end
structure VR (S:VS) (sb:Option Nat) (SM:BM):Prop where
 oU:S.D.ok S.nb
 big:96<S.nb
 seen:∀x∈SM,x.1<S.nb-96/\x.2.2=bk S.D.now (96+x.1)
 none:sb=none->SM=[]
 back:S.D.back=[]
def avI (f q p:Nat) (S:VS) (sb:Option Nat) (SM:BM) (fo:Option Nat):List aV:=[kP f q S sb (.map fo) false,aG q p false,aN p S.D,eT sb SM]
def bE (f q p:Nat) (S:VS):aV:=.ex fun t:Option Nat×BM×Option Nat=>.star (.pure (VR S t.1 t.2.1)) (.dR (avI f q p S t.1 t.2.1 t.2.2))
def KQ (f q p:Nat) (dead:Bool):aV:=.ex fun t:VS×Option Nat×Option Nat=>.dR [kP f q t.1 t.2.1 (.map t.2.2) dead,aG q p true]
def VS.base (S:VS):VS:= {S with cur:=S.D.now.drop 96,m:=0}
theorem CF (c:fK) (i k:Nat):bk (c.drop i) k=bk c (i+k):=by unfold bk;rw[gH,gH,zP]
theorem kG.drop {n:Nat} {c:fK} (h:kG n c) (i:Nat):kG (n-i) (c.drop i):=
 ⟨by rw[qR,h.len],fun b hb=>h.size b (List.mem_of_mem_drop hb)⟩
theorem UE :∀ {l:List rZ} {D D':DK},kF (l++[none]) D=(D',true)->D'.back=[]
 |[],D,D',h=>by
  rw[mP,kF]at h;split at h
  ·cases h
  cases h;exact DK.ahO D
 |x::l,D,D',h=>by
  rw[kN,kF]at h;split at h
  ·cases h
  exact UE h
theorem KR {S:VS} (h:S.bI.2=true) (hb:S.D.back=[]):S.bI.1.back=[]:=by
 unfold VS.bI at h ⊢;split
 ·exact hb
 rename_i hne;rw[if_neg hne]at h;have h1:kF (bW (jE S)) S.D=((kF (bW (jE S)) S.D).1,true):=by rw[<-h]
 have e:bW (jE S)=(jZ (jE S)++(none::some (0,fE ((jE S).map (·.1)))::none::(gI (jE S)++[none,some (0,fE [])])))++[none]:=by unfold bW;simp
 rw[e]at h1;have:=UE h1;rw[e];exact this
section
variable {w0 w:World} {R:List aV} {f q p:Nat} {S:VS} {a:VA}
theorem Sep.qD (h:Sep w0 w (bE f q p S::R)):∃sb SM fo,VR S sb SM/\Sep w0 w (kP f q S sb (.map fo) false::aG q p false::aN p S.D::eT sb SM::R):=by obtain⟨t,h1⟩:=h.MB;obtain⟨h2,h3⟩:=h1.jG.TU;exact⟨t.1,t.2.1,t.2.2,h2,h3.bD⟩
theorem Sep.JE {sb:Option Nat} {SM:BM} {fo:Option Nat} (hR:VR S sb SM) (h:Sep w0 w (kP f q S sb (.map fo) false::aG q p false::aN p S.D::eT sb SM::R)):Sep w0 w (bE f q p S::R):=by have h1:Sep w0 w (avI f q p S sb SM fo++R):=h;exact Sep.MC (sb,SM,fo) (Sep.TV hR h1.cZ).lV
theorem Sep.UF {S:VS} {sb fo:Option Nat} {dead:Bool} (h:Sep w0 w (kP f q S sb (.map fo) dead::aG q p true::R)):Sep w0 w (KQ f q p dead::R):=
 Sep.MC (S,sb,fo) (Sep.cZ (As:=[kP f q S sb (.map fo) dead,aG q p true]) h)
theorem Sep.ajM {dead:Bool} (h:Sep w0 w (KQ f q p dead::R)):∃S sb fo,Sep w0 w (kP f q S sb (.map fo) dead::aG q p true::R):=by obtain⟨t,h1⟩:=h.MB;exact⟨t.1,t.2.1,t.2.2,h1.bD⟩
theorem WT {a:VA} (h:VCw S a) (hb:S.D.back=[]) (hS:Sep w0 w (aD f q p S a::R)):Sep w0 w (bE f q p S::R):=by have h1:=hS.bD;have h2:Sep w0 w (jF a.fb a.FM::kP f q S a.sb (.map (some a.fb)) false::aG q p false::aN p S.D::eT a.sb a.SM::R):=Sep.dC [4,0,1,2,3] h1 aR (by simp[o8]);exact Sep.JE ⟨⟨h.oU.now,h.oU.fast,h.oU.few,h.oU.some,h.oU.back,h.oU.left⟩,h.big,h.seen,h.none,hb⟩ (h2.drop 1)
theorem KS {S1:VS} {a:VA} {fo:Option Nat} (hL:eX S S1) (h:VC S1 a) (hb:S.D.back=[]) (hS:Sep w0 w (kP f q S a.sb (.map fo) false::aG q p false::aN p S1.D::eT a.sb a.SM::R)):Sep w0 w (bE f q p S::R):=by rw[hL.D]at hS;exact Sep.JE ⟨by have:=h.oU;rw[hL.D,hL.nb]at this;exact this,by have:=h.big;rw[hL.nb]at this;exact this,fun x hx=>by have:=h.seen x hx;rw[hL.D,hL.nb]at this;exact this,h.none,hb⟩ hS
theorem asP {sb:Option Nat} {SM:BM} (h:VR S sb SM) (ho:S.D.off=false) (fb:Nat):VC S.base ⟨sb,SM,fb,[]⟩:=
 ⟨h.oU,h.big,ho,h.oU.now.drop 96,h.seen,fun x hx=>absurd hx DF,fun k hk _=>CF _ _ _,fZ _,h.none⟩
theorem WU (x:Int) (w:World):(Instr.typeAssert (.iface 171 (.agg #[iV x])) 20 171 true).run Tryz.prog w= .ok (.tuple #[.agg #[iV x],.bool true]) w:=by kernel_rfl
theorem N8 {be:Nat} {sb:Option Nat} {fv:Value} {dead:Bool} {x y:Int} {older:List PanicEntry} (h:Sep w0 w (kP f q S sb fv dead::aH be y::R)):
  CallsD Tryz.prog 52 #[pV f,pV be] (.panicking ({v:=.iface 171 (.agg #[iV x]),recovered:=false}::older)) w fun e u' w'=>
   e= .returned (.tuple #[])/\u'= .panicking ({v:=.iface 171 (.agg #[iV x]),recovered:=true}::older)/\Sep w0 w' (kP f q S sb fv (decide (x=11)||dead)::aH be x::R):=by
 refine callsD_of_wpS Tryz.func52 rfl fun c₀ cs hu=>?_
 apply wpS_seq
 apply wpS_region
 simp[wpOpsS,go_sem,recoverD,hu,Tryz.ntmps52,Exit.thenS]
 refine wpS_of_wp ?_
 simp only[kJ,kM,rF,Nat.reduceAdd,Nat.reduceSub,yZ,y7,y9,y8,mP,kN,gD,MV,IU]
 have hta:=WU x w
 have hA:=h.alloc (.cells #[iV x] 171)
 have c1:=hA.bC 0 rfl 4
 have f1:=hA.bF 0 rfl 4
 have e0:=hA.bC 1 rfl 0
 have ef:=hA.bF 1 rfl 0
 have hB:=hA.bS 0 rfl 4 (.bool true)
 have b0:=hB.bC 1 rfl 0
 have bf:=hB.bF 1 rfl 0
 have hB2:=hB.bS 1 rfl 0 (.int .i64 x)
 have hA2:=hA.bS 1 rfl 0 (.int .i64 x)
 simp only[gA,gB,gC]at c1 e0 b0
 by_cases hx:x=11
 ·subst hx;go_wp2_with fail;refine⟨rfl,_,rfl,.tuple #[],?_,rfl,rfl,hB2⟩;simp[results,Tryz.results52]
 ·have hx2:(x==11)=false:=kD.2 hx;rw[decide_eq_false hx,MZ];go_wp2_with fail;refine⟨rfl,_,rfl,.tuple #[],?_,rfl,rfl,hA2⟩;simp[results,Tryz.results52]
theorem N9 (a b:Value) (w:World):
  CallsD Tryz.prog 52 #[a,b] .returning w fun e u' w'=>e= .returned (.tuple #[])/\u'= .returning/\w'=w:=by
 refine callsD_of_wpS Tryz.func52 rfl fun c₀ cs hu=>?_
 apply wpS_seq;apply wpS_region;simp[wpOpsS,go_sem,recoverD,hu,Tryz.ntmps52,Exit.thenS];refine wpS_of_wp ?_;simp only[kJ,kM,rF,Nat.reduceAdd,Nat.reduceSub,yZ,y7,y9,y8,mP,kN,gD,MV,IU];go_wp2_with fail;refine⟨rfl,.returning,?_,.tuple #[],?_,rfl,rfl,rfl⟩
 ·cases c₀;simp at hu;subst hu;rfl
 simp[results,Tryz.results52]
theorem JF {be:Nat} {sb:Option Nat} {fv:Value} {dead:Bool} {x y:Int} {fn:Func} {tmps:Array Value} {Post:Ending->World->Prop} {ds:List Deferred} (h:Sep w0 w (kP f q S sb fv dead::aH be y::R))
  (hK:∀w',Sep w0 w' (kP f q S sb fv (decide (x=11)||dead)::aH be x::R)->Leaves Tryz.prog fn tmps Post ds .returning w'):
  Leaves Tryz.prog fn tmps Post ({target:=.fn (.func 52) #[],args:=#[pV f,pV be]}::ds) (.panicking (eQ x)) w:=by
 refine leaves_cons (f:=52) (args:=#[pV f,pV be]) bK (by simp[go_sem]) ?_;refine(N8 h).mono ?_;rintro e u' w' ⟨rfl,rfl,hS⟩;exact hK w' hS
theorem gY {a b:Value} {fn:Func} {tmps:Array Value} {Post:Ending->World->Prop} {ds:List Deferred} (hK:Leaves Tryz.prog fn tmps Post ds .returning w):
  Leaves Tryz.prog fn tmps Post ({target:=.fn (.func 52) #[],args:=#[a,b]}::ds) .returning w:=by
 refine leaves_cons (f:=52) (args:=#[a,b]) bK (by simp[go_sem]) ?_;refine(N9 a b w).mono ?_;rintro e u' w' ⟨rfl,rfl,rfl⟩;exact hK
theorem wS (ho:S.D.off=false) (h:Sep w0 w (bE f q p S::R)):
  Calls Tryz.prog 53 #[pV f] w fun e w'=>e= .returned (.tuple #[])/\∃a',VC S.base a'/\Sep w0 w' (aD f q p S.base a'::R):=by
 obtain⟨sb,SM,fo,hR,h1⟩:=h.qD;have c0:=h1.bC 0 rfl 0;have c4:=h1.bC 0 rfl 4;simp only[gA,gB,gC]at c0 c4;have hsy:=CG (q:=q) (p:=p) (dead:=false) (R:=kP f q S sb (.map fo) false::eT sb SM::R) hR.oU (Sep.dC [1,2,0,3] h1 aR bK);rw[ho]at hsy;simp only[Bool.or_false,IV,if_false]at hsy;have hend:Hid (∀W,Sep w0 W (aG q p false::aN p S.D::kP f q S sb (.map fo) false::eT sb SM::R)->(W.alloc (.map #[] 0)).frozen? ⟨f,2,none⟩=false/\(W.alloc (.map #[] 0)).cell? ⟨f,2,none⟩=some (.map fo)/\∃a',VC S.base a'/\Sep w0 ((W.alloc (.map #[] 0)).setCell ⟨f,2,none⟩ (.map (some W.heap.size))) (aD f q p S.base a'::R)):=Lh fun W hW=>by have h3:=hW.xU;have h4:=h3.bS 3 rfl 2 (.map (some W.heap.size));refine⟨h3.bF 3 rfl 2,h3.bC 3 rfl 2,_,asP hR ho W.heap.size,?_⟩;have h5:Sep w0 ((W.alloc (.map #[] 0)).setCell ⟨f,2,none⟩ (.map (some W.heap.size))) (o8 f q p S.base ⟨sb,SM,W.heap.size,[]⟩++R):=Sep.dC [3,1,2,4,0] h4 aR bK;exact h5.cZ
 have hmm:= @run_makeMap Tryz.prog;clear h h1 hR ho;go_enter Tryz.func53,Tryz.ntmps53;go_wp2_with(first |(go_at_call 102;refine hsy.mono ?_;rintro e w9 ⟨rfl,h9⟩;obtain⟨f2,k2,he⟩:=hend.out _ h9;replace he:=Lh he;clear hsy hend h9)|(go_at_call 54;refine(dO _ _).mono ?_;rintro e w8 ⟨rfl,h8⟩;obtain rfl:=h8.symm))
 go_end0
 exact⟨rfl,he.out⟩
theorem tT {KT:FuncId} (aaF:Array Value) (w:World) (h:∀args w,(callFunc KT args).run Tryz.prog w= .ok (.enter KT args) w):(invoke (.fn (.func KT) aaF) #[]).run Tryz.prog w= .ok (.enter KT aaF) w:=by simp[invoke,go_sem,h]
theorem aaG {S1:VS} {bf bw bn bd:Nat} {sb:Option Nat} {fo:Option Nat} {dead:Bool} {u:FrameMode} (hn:S1.names=S.names) (hb:S1.rB=S.rB) (hi:S1.rI=S.rI)
  (h:Sep w0 w (kP f q S1 sb (.map fo) dead:: .box bf 37 #[pV f]:: .box bw 53 #[jC S.wB S.wI]:: .box bn 3 #[iV S.nodes]:: .box bd 4 #[.bool false]::R)):
  CallsD Tryz.prog 145 #[pV bd,pV bw,pV bn,pV bf] u w fun e u' w'=>
   u'=u/\e= .returned (.tuple #[])/\Sep w0 w' (kP f q S sb (.map none) dead::R):=by
 have k0:=h.bC 1 rfl 0
 have k1:=h.bC 2 rfl 0
 have k2:=h.bC 3 rfl 0
 have k3:=h.bC 4 rfl 0
 have c5:=h.bC 0 rfl 5
 have f5:=h.bF 0 rfl 5
 have h1:=h.bS 0 rfl 5 (jC S.wB S.wI)
 have c6:=h1.bC 0 rfl 6
 have f6:=h1.bF 0 rfl 6
 have h2:=h1.bS 0 rfl 6 (.int .i64 S.nodes)
 have c2:=h2.bC 0 rfl 2
 have f2:=h2.bF 0 rfl 2
 have h3:=h2.bS 0 rfl 2 (.map none)
 unfold jC at k1 c5 c6 c2 h3 f6 f2
 simp only[gA,gB,gC]at k0 k1 k2 k3 c5
 have hst:=fun x y=>wT x y c5 f5
 have hend:Hid (Sep w0 (((w.setCell ⟨f,5,none⟩ (.complex .f64 (fI S.wB) (fI S.wI))).setCell ⟨f,6,none⟩ (.int .i64 S.nodes)).setCell ⟨f,2,none⟩ (.map none)) (kP f q S sb (.map none) dead::R)):=Lh (by(have h4:Sep w0 (((w.setCell ⟨f,5,none⟩ (.complex .f64 (fI S.wB) (fI S.wI))).setCell ⟨f,6,none⟩ (.int .i64 S.nodes)).setCell ⟨f,2,none⟩ (.map none)) (kP f q S sb (.map none) dead:: .box bf 37 #[pV f]:: .box bw 53 #[.complex .f64 (fI S.wB) (fI S.wI)]:: .box bn 3 #[iV S.nodes]:: .box bd 4 #[.bool false]::R):=by unfold kP at h3 ⊢;rw[hn,hb,hi]at h3;exact h3);exact(Sep.dC [1,2,3,4,0] h4 aR bK).drop 4)
 clear h h1 h2 h3 hn hb hi
 refine(callsD_of_wp (R:=fun e w'=>e= .returned (.tuple #[])/\Sep w0 w' (kP f q S sb (.map none) dead::R)) Tryz.func145 rfl ?_).mono ?_
 ·simp only[Tryz.ntmps145,kJ,kM,rF,Nat.reduceAdd,Nat.reduceSub,yZ,y7,y9,y8,mP,kN];go_wp2_with fail
  go_end0
  exact⟨rfl,hend.out⟩
 ·rintro e u' w' ⟨h1,h2,h3⟩;exact⟨h1,h2,h3⟩
theorem ajN {bf bw bn bd:Nat} {u:FrameMode} (hc:w.cell? ⟨bd,0,none⟩=some (.bool true)):
  CallsD Tryz.prog 145 #[pV bd,pV bw,pV bn,pV bf] u w fun e u' w'=>
   u'=u/\e= .returned (.tuple #[])/\w'=w:=by
 refine(callsD_of_wp (R:=fun e w'=>e= .returned (.tuple #[])/\w'=w) Tryz.func145 rfl ?_).mono ?_
 ·simp only[Tryz.ntmps145,kJ,kM,rF,Nat.reduceAdd,Nat.reduceSub,yZ,y7,y9,y8,mP,kN];go_wp2_with fail
  go_end0
  exact⟨rfl,rfl⟩
 ·rintro e u' w' ⟨h1,h2,h3⟩;exact⟨h1,h2,h3⟩
theorem zW :∀args w,(callFunc 145 args).run Tryz.prog w= .ok (.enter 145 args) w:=Go.Proofs.enters_of Tryz.func145 fT rfl
end
def ahP (k:Nat):Code->Option Code
 | .seq (.region i o d) c=>if i=k then some (.seq (.region i o d) c)else ahP k c
 | .seq _ c=>ahP k c
 |_=>none
noncomputable def OA (k:Nat):Code:=(Tryz.f73.body.bind (ahP k)).getD .skip
def yN (S1:VS):Bool:=decide (S1.wB<=S1.rB)&&decide (S1.wI<=S1.rI)
def dA (f q p:Nat) (S:VS) (r:Option VS) (w0:World) (R:List aV) (e:Ending) (w':World):Prop:=
 match r with
 |none=>e= .panicked (eQ 27)/\Sep w0 w' (bE f q p S::R)
 |some S1=>
  if yN S1=true then
   if S1.bI.2=true then e= .returned (.tuple #[])/\Sep w0 w' (bE f q p S1.settled::R)
   else e= .panicked (eQ 11)/\Sep w0 w' (KQ f q p false::aN p S1.bI.1::R)
  else e= .panicked (eQ 27)/\Sep w0 w' (bE f q p S::R)
structure lT (S S1:VS):Prop where
 like:eX S S1
 m:S1.m<=40
 wB:bM S1.wB
 wI:bM S1.wI
 rB:bM S1.rB
 rI:bM S1.rI
theorem ahQ {a b:Int} (ha:bM a) (hb:bM b):(FloatKind.f64.format.order (fI a) (fI b)==some .gt)= !decide (a<=b):=by
 have h:FloatKind.f64.format.order (fI a) (fI b)=some (compare a b):=zX ha hb;rw[h];rcases Int.lt_trichotomy a b with h2|h2|h2
 ·rw[Int.compare_eq_lt.2 h2,decide_eq_true (Int.le_of_lt h2)];rfl
 ·rw[Int.compare_eq_eq.2 h2,decide_eq_true (Int.le_of_eq h2)];rfl
 rw[Int.compare_eq_gt.2 h2,decide_eq_false aI];rfl
section
variable {w0 w:World} {R:List aV} {f q p:Nat} {S:VS} {a:VA}
theorem OB {S1:VS} {a1:VA} {bf bw bn bd:Nat} {tmps:Array Value} {Post:Ending->World->Prop} {x:Int} (hL:eX S S1) (kE:VC S1 a1) (hb:S.D.back=[])
  (h:Sep w0 w (aD f q p S1 a1:: .box bd 4 #[.bool false]:: .box bf 37 #[pV f]:: .box bw 53 #[jC S.wB S.wI]:: .box bn 3 #[iV S.nodes]::R))
  (hp:∀w',Sep w0 w' (bE f q p S::R)->Post (.panicked (eQ x)) w'):
  Leaves Tryz.prog Tryz.f73 tmps Post [{target:=.fn (.func 145) #[pV bd,pV bw,pV bn,pV bf],args:=#[]}] (.panicking (eQ x)) w:=by
 have h1:=h.bD;have h2:Sep w0 w (jF a1.fb a1.FM::kP f q S1 a1.sb (.map (some a1.fb)) false:: .box bf 37 #[pV f]:: .box bw 53 #[jC S.wB S.wI]:: .box bn 3 #[iV S.nodes]:: .box bd 4 #[.bool false]::aG q p false::aN p S1.D::eT a1.sb a1.SM::R):=Sep.dC [4,0,6,7,8,5,1,2,3] h1 aR (by simp[o8]);refine leaves_cons bK (tT _ _ zW) ?_;refine(aaG (S:=S) hL.names hL.rB hL.rI (h2.drop 1)).mono ?_;rintro e u' w' ⟨rfl,rfl,h3⟩;exact hp w' (KS (fo:=none) hL kE hb h3)
theorem Z10 {P:Prop} (h:P:=by
 go_wp2_with(refine hd.mono ?_;rintro e w9 ⟨rfl,a1,kE,h9⟩;(have c5:=h9.fC.c5);(have c7:=h9.fC.c7);(have k0:=h9.bC 2 rfl 0);unfold jC at c5 c7;simp only[gA,gB]at k0;replace h9:=Lh h9;replace kE:=Lh kE;clear hd);go_quiet (fail);go_wp2_with fail;refine OB aeE.out.like kE.out hL'.out.2.1 (h9.out.drewN nq) fun w' h5=>?_
 unfold dA;simp only;rw[if_neg (by rw[hfit.out];decide)];exact⟨trivial,h5⟩):P:=h
theorem aaH {R':List aV} {KT:FuncId} {aaF:Array Value} {r:Option VS} {bf bw bn:Nat} {u0 u3 u6 u7 u8 u9 u10 u11 u12 u13 u14 u15 u16 u17 u18 u19 u20 u21 u22 u23 u24 u25 u26 u27 u28 u29 u30 u31 u32 u33 u34 u35 u36 u37 u38 u39 u40 u41 u42 u43 u44 u45 u46 u47 u48 u49 u50 u51 u52 u53 u54 u55 u56 u57:Value} (hent:∀args w,(callFunc KT args).run Tryz.prog w= .ok (.enter KT args) w) (hC:VC S a) (hb:S.D.back=[]) (hr:∀S1,r=some S1->lT S S1)
  (hdo:∀W X,Sep w0 W (aD f q p S a::(X++R))->Calls Tryz.prog KT aaF W (dY f q p S r w0 (X++R')))
  (h:Sep w0 w (aD f q p S a:: .box bf 37 #[pV f]:: .box bw 53 #[jC S.wB S.wI]:: .box bn 3 #[iV S.nodes]::R)):
  (OA 2).wp Tryz.prog (bodyPostD Tryz.prog Tryz.f73 (dA f q p S r w0 R')) {tmps:=#[u0,.func (.func KT) #[] aaF,pV bf,u3,pV bw,pV bn,u6,u7,u8,u9,u10,u11,u12,u13,u14,u15,u16,u17,u18,u19,u20,u21,u22,u23,u24,u25,u26,u27,u28,u29,u30,u31,u32,u33,u34,u35,u36,u37,u38,u39,u40,u41,u42,u43,u44,u45,u46,u47,u48,u49,u50,u51,u52,u53,u54,u55,u56,u57],defers:=[]} w:=by
 have hmf:∀(fn:Fn) (first cap:Array Value) (w:World),(Instr.makeFunc fn first cap).run Tryz.prog w= .ok (.func fn first cap) w:=fun _ _ _ _=>rfl
 have h1:Sep w0 (w.alloc (.cells #[.bool false] 4)) (aD f q p S a::([.box w.heap.size 4 #[.bool false],.box bf 37 #[pV f],.box bw 53 #[jC S.wB S.wI],.box bn 3 #[iV S.nodes]]++R)):=Sep.dC [1,0,2,3,4] (h.bN 4 #[.bool false]) aR bK;have hd:=hdo _ _ h1;have avJ:=Lh hent;have hL':=Lh (And.intro hC (And.intro hb hr));clear h h1 hdo hC hb hr;unfold OA
 conv=>arg 2;whnf
 cases r with
 |none=>unfold dY at hd;simp only at hd;have hent:=avJ.out;go_wp2_with(refine hd.mono ?_;rintro e w9 ⟨rfl,S1,a1,hL,kE,h9⟩);(refine OB hL kE hL'.out.2.1 h9 fun w' h5=>?_);exact⟨rfl,h5⟩
 |some S1=>
  unfold dY at hd;simp only at hd;have RS:=hL'.out.2.2 S1 rfl;have g1:=ahQ RS.wB RS.rB;have g2:=ahQ RS.wI RS.rI;have aeE:=Lh RS;clear RS;have hent:=avJ.out;by_cases hB:S1.wB<=S1.rB
  ·rw[decide_eq_true hB]at g1;simp only[Bool.not_true]at g1;by_cases hI:S1.wI<=S1.rI
   ·rw[decide_eq_true hI]at g2;simp only[Bool.not_true]at g2;(have hfit:yN S1=true:=by unfold yN;rw[decide_eq_true hB,decide_eq_true hI];rfl);replace hfit:=Lh hfit;clear hB hI;go_wp2_with(refine hd.mono ?_;rintro e w9 ⟨rfl,a1,kE,h9⟩;(have c5:=h9.fC.c5);(have c7:=h9.fC.c7);(have k0:=h9.bC 2 rfl 0);unfold jC at c5 c7;simp only[gA,gB]at k0;replace h9:=Lh h9;replace kE:=Lh kE;clear hd);go_quiet (fail);have hse:=NW kE.out aeE.out.m (by rw[aeE.out.like.D,hL'.out.2.1];decide) (h9.out.drewN nq);clear c5 c7 g1 g2;cases hcm:S1.bI.2 with
    |true=>(have ajC:Calls Tryz.prog 101 #[pV f] (w9.drewN nq) fun e w'=>e= .returned (.tuple #[])/\(∃u,w'.cell? ⟨w.heap.size,0,none⟩=some (.bool u))/\w'.frozen? ⟨w.heap.size,0,none⟩=false/\(w'.setCell ⟨w.heap.size,0,none⟩ (.bool true)).cell? ⟨w.heap.size,0,none⟩=some (.bool true)/\dA f q p S (some S1) w0 R' (.returned (.tuple #[])) (w'.setCell ⟨w.heap.size,0,none⟩ (.bool true)):=by refine hse.mono ?_;intro e w' ho;unfold mQ at ho;rw[if_pos hcm]at ho;obtain⟨rfl,a2,hV,h8⟩:=ho;have h7:=h8.bS 1 rfl 0 (.bool true);refine⟨rfl,⟨_,h8.bC 1 rfl 0⟩,h8.bF 1 rfl 0,h7.bC 1 rfl 0,?_⟩;unfold dA;simp only;rw[if_pos hfit.out,if_pos hcm];refine⟨trivial,WT hV (KR hcm (by rw[aeE.out.like.D];exact hL'.out.2.1)) ?_⟩;have h6:Sep w0 _ (.box w.heap.size 4 #[.bool true]:: .box bf 37 #[pV f]:: .box bw 53 #[jC S.wB S.wI]:: .box bn 3 #[iV S.nodes]::aD f q p S1.settled a2::R'):=Sep.dC [1,2,3,4,0] h7 aR bK;exact h6.drop 4);clear hse h9 kE hcm;go_wp2_with(go_at_call 101;refine ajC.mono ?_;rintro e w8 ⟨rfl,⟨u,k1⟩,f1,k2,hend⟩;replace hend:=Lh hend;replace k2:=Lh k2);refine leaves_cons (u:=.returning) bK (tT _ _ zW) ?_;refine(ajN k2.out).mono ?_;rintro e u' w' ⟨rfl,rfl,rfl⟩;exact⟨.tuple #[],by simp[results,Tryz.results73],hend.out⟩
    |false=>(have ajC:Calls Tryz.prog 101 #[pV f] (w9.drewN nq) fun e w'=>e= .panicked (eQ 11)/\∃sb fo,Sep w0 w' (kP f q S1 sb (.map fo) false:: .box bf 37 #[pV f]:: .box bw 53 #[jC S.wB S.wI]:: .box bn 3 #[iV S.nodes]:: .box w.heap.size 4 #[.bool false]::aG q p true::aN p S1.bI.1::R'):=by refine hse.mono ?_;intro e w' ho;unfold mQ at ho;rw[if_neg (by rw[hcm];decide)]at ho;obtain⟨rfl,sb,h8⟩:=ho;exact⟨rfl,sb,_,Sep.dC [0,4,5,6,3,1,2] h8 aR bK⟩);have hcm':=Lh hcm;clear hse h9 kE hcm;go_wp2_with(go_at_call 101;refine ajC.mono ?_;rintro e w8 ⟨rfl,sb,fo,h8⟩;replace h8:=Lh h8);refine leaves_cons (u:=.panicking (eQ 11)) (by simp[eQ]) (tT _ _ zW) ?_;refine(aaG (S:=S) aeE.out.like.names aeE.out.like.rB aeE.out.like.rI h8.out).mono ?_;rintro e u' w' ⟨rfl,rfl,h7⟩;(show dA f q p S (some S1) w0 R' (.panicked (eQ 11)) w');unfold dA;simp only;rw[if_pos hfit.out,if_neg (by rw[hcm'.out];decide)];exact⟨trivial,h7.UF⟩
   rw[decide_eq_false hI]at g2;simp only[Bool.not_false]at g2;(have hfit:yN S1=false:=by unfold yN;rw[decide_eq_false hI,Bool.and_false]);replace hfit:=Lh hfit;clear hB hI;exact Z10
  rw[decide_eq_false hB]at g1;simp only[Bool.not_false]at g1;(have hfit:yN S1=false:=by unfold yN;rw[decide_eq_false hB,NA]);replace hfit:=Lh hfit;clear hB g2;exact Z10
end
end Go.Proofs.YtmjomdkleikgbaaGreat
