/- FuE, FuG, FuH, laid together. -/
import Derived.Test.YteihmbaimbogaaaGreatJ19
namespace Go.Proofs.YteihmbaimbogaaaGreat
open Go.RowKit
set_option linter.unusedVariables false
set_option linter.unusedSimpArgs false
theorem G5 {w0 w:World} {R:List aU} {f q p:Nat} {S:VS} {a:VA} {r:Nat} {v:Value} {Ms V:BM} {P:List rT} {b:VA} (h:ER f q p S a r w0 w R v Ms V P b) (hm:a.FM.length≤4000):P.length≤4000:=by
 have h1:(P.map (·.1)).length=((V.filter (qN S)).map fun x=>(x.1,x.2.1)).length:=by rw[h.puts]
 rw[List.length_map,List.length_map]at h1;have h2:=List.length_filter_le (qN S) V;have h3:=h.perm.length_eq;rw[List.length_append]at h3;omega
section
variable {w0 w:World} {R:List aU} {f q p:Nat} {S:VS} {a:VA}
def kM (f q p:Nat) (S:VS) (a:VA) (w0:World) (R:List aU) (e:Ending) (w':World):Prop:=
 if S.aV.2=true then e= .returned (.tuple #[])∧∃a',VCw S.settled a'∧Sep w0 w' (aG f q p S.settled a'::R)
 else e= .panicked (eH 11)∧∃sb,Sep w0 w' (jG f q S sb (.map (some a.fb)) false::aD q p true::aJ p S.aV.1::R)
theorem Sep.avX {b:VA} {r:Nat} {v:Value} {V:BM} {P:List rT} (hI:ER f q p S a r w0 w R v [] V P b):
  Sep w0 w (.sl 190 2 v P.length (P.flatMap oI)::l7 3 a.fb (fC a.FM):: .bX (dC a.FM)::jG f q S b.sb (.map (some a.fb)) false::aD q p false::aJ p S.D::dH b.sb b.SM::R):=by
 have h1:=(hI.sep.VN).aeN 0 rfl;rw[hI.reads.fb]at h1;exact Sep.bZ [6,0,1,2,3,4,5] h1 (by decide) (by simp)
set_option maxRecDepth 100000 in
set_option maxHeartbeats 4000000 in
theorem G6 (hC:VC S a) (hm:S.m≤40) (hback:S.D.back.length≤60000) (h:Sep w0 w (aG f q p S a::R)):
  Calls Tryz.prog 91 #[.pointer (some ⟨f,0,none⟩)] w (kM f q p S a w0 R):=by
 have h1:=h.aS;have hkey:Sep w0 w (l7 3 a.fb (fC a.FM):: .bX (dC a.FM)::jG f q S a.sb (.map (some a.fb)) false::aD q p false::aJ p S.D::dH a.sb a.SM::R):=Sep.gX (Sep.bZ [4,0,1,2,3] h1 (by decide) (by simp[oH]));have hnd:(a.FM.map (·.1)).Nodup:=by have h1:=(hkey.FE 0 rfl).ne;unfold fC at h1;rw[List.pairwise_map]at h1;rw[List.nodup_iff_pairwise_ne,List.pairwise_map];(refine h1.imp fun h e=>h ?_);simp only[e]
 have hshort:=hC.adI hnd;obtain⟨w1,hrg,hS1,hsz1⟩:=hkey.Q5 0 rfl dX Tryz.underlying98;have hI0:Hid (∃Ms V P b,ER f q p S a w.heap.size w0 w1 R (.slice none 0 0) Ms V P b∧a.FM.length=Ms.length):=Lh ⟨a.FM,[],[],a,⟨.refl hC,by simp,rfl,fun h=>absurd rfl h,by have h3:Sep w0 w1 (KP a.fb w.heap.size a.FM a.FM:: .bX (dC a.FM)::jG f q S a.sb (.map (some a.fb)) false::aD q p false::aJ p S.D::dH a.sb a.SM::R):=hS1;have h4:Sep w0 w1 (KP a.fb w.heap.size a.FM a.FM:: .bX (dC a.FM)::jG f q S a.sb (.map (some a.fb)) false::aD q p false::aJ p S.D::dH a.sb a.SM:: .sl 190 2 (.slice none 0 0) 0 []::R):=Sep.bZ [1,2,3,4,5,6,0] (h3.fO 190 2) (by decide) (by simp);exact h4.alT⟩,rfl⟩;have c2:=h.dK.c2;obtain⟨i0,iM,hz0,hz1,hz2⟩:=iQ aeF;have hC':=Lh hC;have hnd':=Lh hnd;have hshort':=Lh hshort;have hm':=Lh hm;have VX:=Lh hback;obtain⟨rb,hrb⟩:∃rb,rb=w.heap.size:=⟨_,rfl⟩;rw[←hrb]at hI0 hrg;clear hC hm hback h h1 hkey hnd hS1 hsz1 hrb hshort;go_enter Tryz.func91,Tryz.ntmps91;go_wp2_with fail;go_loopg[2] a.FM.length (fun g u wr=>Hid (∃Ms V P b,ER f q p S a rb w0 wr R u Ms V P b∧g=Ms.length))
 case atStart=>exact hI0
 clear hI0 c2 hrg;obtain⟨Ms,V,P,b,hI,rfl⟩:=hrel.out;clear hrel;rcases(hI.sep.VN).GQ 0 with⟨rfl,hnx⟩|⟨x,w3,hx,hnx,bG,hen⟩
 ·have hS:=Sep.avX hI;(have hVp:V.Perm a.FM:=by have:=hI.perm;rw[List.append_nil]at this;exact this);have hsort:=Z8 hS (by have:=G5 hI hshort'.out;omega);obtain⟨n,hn⟩:∃n,n=P.length:=⟨_,rfl⟩;(have avY:n≤40:=by have h1:=congrArg List.length hI.puts;rw[List.length_map,List.length_map]at h1;have h2:=List.length_filter_le (qN S) V;have h3:=hVp.length_eq;have h4:=hC'.out.few;have h5:=hm'.out;omega);(have hu2:∃A c,u2= .slice A n c:=by obtain⟨A,c,e⟩:=hI.sep.dA 0 rfl;exact⟨A,c,by rw[e,hn]⟩);obtain⟨Au,cu,hu2⟩:=hu2;subst hu2
  --what the ledger answers
  have G7:Hid (∀W P',P.Perm P'→P'.Pairwise (fun x y:rT=>x.1.1≤y.1.1)→Sep w0 W (.sl 190 2 (.slice Au n cu) n (P'.flatMap oI)::l7 3 a.fb (fC a.FM):: .bX (dC a.FM)::jG f q S b.sb (.map (some a.fb)) false::aD q p false::aJ p S.D::dH b.sb b.SM::R)→
    W.cell? ⟨f,0,none⟩=some (.pointer (some ⟨q,0,none⟩))∧
    ((n=0∧S.aV=(S.D,true))∨(1≤n∧Calls Tryz.prog 144 #[.pointer (some ⟨q,0,none⟩),.slice Au n cu] W fun e w'=>e= .returned (.int .i64 (aaG S.aV.2))∧Sep w0 w' (aD q p (!S.aV.2)::aJ p S.aV.1::l7 3 a.fb (fC a.FM):: .bX (dC a.FM)::jG f q S b.sb (.map (some a.fb)) false::dH b.sb b.SM::R)))):=Lh fun W P' hp hs hW=>by
   have hps:=QZ hC'.out hnd'.out hVp hI.puts hp hs;(have hPn:P'.length=n:=by rw[hn];exact hp.length_eq.symm);refine⟨hW.bC 3 rfl 0,?_⟩;rcases Nat.eq_zero_or_pos n with h0|hpos
   ·refine .inl ⟨h0,?_⟩;(have:gT S=[]:=by rw[←hps,List.eq_nil_of_length_eq_zero (hPn.trans h0)];rfl);unfold VS.aV;rw[if_pos this]
   refine .inr ⟨hpos,?_⟩;(have hne:¬gT S=[]:=by intro e;rw[←hps]at e;have:=List.map_eq_nil_iff.1 e;rw[this]at hPn;simp at hPn;omega);obtain⟨g,c,e,_,_,hc1,hc2⟩:=hW.iP 0 rfl hpos;cases e;have hW2:Sep w0 W (aD q p false::aJ p S.D:: .sl 190 2 (.slice (some ⟨g,0,none⟩) n cu) n (P'.flatMap oI)::l7 3 a.fb (fC a.FM):: .bX (dC a.FM)::jG f q S b.sb (.map (some a.fb)) false::dH b.sb b.SM::R):=Sep.bZ [4,5,0,1,2,3,6] hW (by decide) (by simp);have hin:=ai8 (w0:=w0) (w:=W) (R':=.sl 190 2 (.slice (some ⟨g,0,none⟩) n cu) n (P'.flatMap oI)::l7 3 a.fb (fC a.FM):: .bX (dC a.FM)::jG f q S b.sb (.map (some a.fb)) false::dH b.sb b.SM::R) hC'.out hVp hI.puts hp hPn (hW2.drop 2) 0 2 rfl rfl;have hcm:=VY hC'.out.l8 hC'.out.big (ai9 (V:=V) (P:=P) hC'.out hps (by omega) (by omega)) hin hc1 hc2 VX.out hW2;(have hce:S.aV=iY (bD (gT S)) S.D:=by unfold VS.aV;rw[if_neg hne]);rw[hce];rw[hps]at hcm;refine hcm.mono ?_;rintro e w' ⟨rfl,h9⟩;exact⟨rfl,(Sep.bZ [2,0,1] h9 (by decide) (by simp)).drop 1⟩
  --what the second loop begins with
  (have hne:a.FM≠[]→b.SM≠[]:=fun h1=>hI.read fun h2=>h1 (by rw[h2]at hVp;exact List.Perm.eq_nil hVp.symm));have hloop:Hid (∀W,S.aV.2=true→Sep w0 W (aD q p false::aJ p S.aV.1::l7 3 a.fb (fC a.FM):: .bX (dC a.FM)::jG f q S b.sb (.map (some a.fb)) false::dH b.sb b.SM::R)→
    W.cell? ⟨f,2,none⟩=some (.map (some a.fb))∧∃W2,(Instr.range 98 (.map (some a.fb))).run Tryz.prog W= .ok (.pointer (some ⟨W.heap.size,0,none⟩)) W2∧Q0 f q p S a b S.aV.1 W.heap.size w0 W2 R a.FM []):=Lh fun W hc hW=>by
   refine⟨hW.bC 4 rfl 2,?_⟩;have h1:Sep w0 W (dH b.sb b.SM::l7 3 a.fb (fC a.FM):: .bX (dC a.FM)::jG f q S b.sb (.map (some a.fb)) false::aD q p false::aJ p S.aV.1::R):=Sep.bZ [5,2,3,4,0,1] hW (by decide) (by simp);have h2:=h1.VQ hI.reads.ok.none;have h3:Sep w0 W (l7 3 a.fb (fC a.FM)::MC b.sb b.SM:: .bX (dC b.SM):: .bX (dC a.FM)::jG f q S b.sb (.map (some a.fb)) false::aD q p false::aJ p S.aV.1::R):=Sep.bZ [2,0,1,3,4,5,6] h2 (by decide) (by simp);obtain⟨W2,hrun,h4,_⟩:=h3.Q5 0 rfl dX Tryz.underlying98;exact⟨W2,hrun,by simp,h4⟩
  have G8:Hid (∀W V2 r2,S.aV.2=true→Q0 f q p S a b S.aV.1 r2 w0 W R [] V2→(W.alloc (.map #[] 0)).frozen? ⟨f,2,none⟩=false∧(W.alloc (.map #[] 0)).cell? ⟨f,2,none⟩=some (.map (some a.fb))∧kM f q p S a w0 R (.returned (.tuple #[])) ((W.alloc (.map #[] 0)).setCell ⟨f,2,none⟩ (.map (some W.heap.size)))):=Lh fun W V2 r2 hc hW=>by
   (have hV2:V2.Perm a.FM:=by have:=hW.perm;rw[List.append_nil]at this;exact this);have h1:=(hW.sep.aeN 0 rfl).drop 1;have h2:Sep w0 W (MC b.sb (iE b.SM V2):: .bX (dC b.SM):: .bX (dC a.FM)::jG f q S b.sb (.map (some a.fb)) false::aD q p false::aJ p S.aV.1::R):=h1;have hsn:b.sb=none→b.SM=[]∧V2=[]:=fun hs=>by
    have h3:=hI.reads.ok.none hs;refine⟨h3,?_⟩;by_cases e:a.FM=[]
    ·rw[e]at hV2;exact List.Perm.eq_nil hV2
    exact absurd h3 (hne e)
   have h3:=(h2.aaB hV2 hsn).sS;have h4:=h3.bS 2 rfl 2 (.map (some W.heap.size));refine⟨h3.bF 2 rfl 2,h3.bC 2 rfl 2,?_⟩;unfold kM;rw[if_pos hc];refine⟨rfl,_,VT hC'.out hI.reads hV2 hm'.out hc hne W.heap.size,?_⟩;have h5:Sep w0 ((W.alloc (.map #[] 0)).setCell ⟨f,2,none⟩ (.map (some W.heap.size))) (oH f q p S.settled ⟨b.sb,iE b.SM V2,W.heap.size,[]⟩++R):=Sep.bZ [2,3,4,1,0] h4 (by decide) (by simp);exact h5.bM
  (have MH:Hid (∀W,S.aV.2=false→Sep w0 W (aD q p true::aJ p S.aV.1::l7 3 a.fb (fC a.FM):: .bX (dC a.FM)::jG f q S b.sb (.map (some a.fb)) false::dH b.sb b.SM::R)→kM f q p S a w0 R (.panicked (eH 11)) W):=Lh fun W hc hW=>by unfold kM;rw[if_neg (by rw[hc];decide)];have h5:Sep w0 W (l7 3 a.fb (fC a.FM):: .bX (dC a.FM)::dH b.sb b.SM::jG f q S b.sb (.map (some a.fb)) false::aD q p true::aJ p S.aV.1::R):=Sep.bZ [2,3,5,4,0,1] hW (by decide) (by simp);exact⟨rfl,_,h5.drop 3⟩);have yL:Hid (∀W Ms V2 r2 x W',Q0 f q p S a b S.aV.1 r2 w0 W R Ms V2→x∈Ms→Sep w0 W' (KP a.fb r2 a.FM (eY Ms x.1)::MC b.sb (iE b.SM V2):: .bX (dC b.SM):: .bX (dC a.FM)::jG f q S b.sb (.map (some a.fb)) false::aD q p false::aJ p S.aV.1::R)→
    ∃sb W3,W'.cell? ⟨f,1,none⟩=some (.map (some sb))∧(Instr.mapUpdate 98 (.map (some sb)) (.int .i64 (x.1:Nat)) x.2.1).run Tryz.prog W'= .ok () W3∧Q0 f q p S a b S.aV.1 r2 w0 W3 R (eY Ms x.1) (V2++[x])∧(eY Ms x.1).length<Ms.length):=Lh fun W Ms V2 r2 x W' hW hx hW'=>by
   have YI:x∈a.FM:=hW.perm.subset (List.mem_append_right _ hx);obtain⟨sb,hsb⟩:∃sb,b.sb=some sb:=by
    cases hs:b.sb with
    |some sb=>exact⟨sb,rfl⟩
    |none=>exact absurd (hI.reads.ok.none hs) (hne (fun e=>by rw[e]at YI;cases YI))
   have c1:=hW'.bC 4 rfl 1;have h2:=hW';rw[hsb]at h2 c1;have hkb:((V2++Ms).map (·.1)).Nodup:=(hW.perm.map (·.1)).nodup_iff.2 hnd'.out;have P9:=hC'.out.fresh x YI;(have hnk:((iE b.SM V2).map (·.1)).Nodup:=by have h1:=(h2.FE (L:=fC (iE b.SM V2)) 1 rfl).ne;unfold fC at h1;rw[List.pairwise_map]at h1;rw[List.nodup_iff_pairwise_ne,List.pairwise_map];(refine h1.imp fun h e=>h ?_);simp only[e]);have hlen:(iE b.SM V2).length≤4096:=by
    have h1:((iE b.SM V2).map (·.1)).length≤(List.range (S.nb-96)).length:=List.Nodup.length_le_of_subset hnk fun k hk=>by
     obtain⟨y,hy,rfl⟩:=List.mem_map.1 hk;rcases MB hy with h3|⟨h3,_⟩
     ·exact List.mem_range.2 (hC'.out.fresh y (hW.perm.subset (List.mem_append_left _ h3))).1
     exact List.mem_range.2 (hI.reads.ok.seen y h3).1
    have h2:=hC'.out.l8.few;rw[List.length_map,List.length_range]at h1;omega
   obtain⟨W3,hrun,h3⟩:=h2.nU (L:=fC (iE b.SM V2)) (v:=x.2.1) 1 rfl dX Tryz.underlying98 (by unfold fC;rw[List.length_map];unfold maxLen;omega) (gY x.1 (by have:=hC'.out.l8.few;omega));rw[FW _ x.1 x.2.1 x.2.2]at h3;rw[List.map_append,List.nodup_append]at hkb;have h4:=LZ hkb.2.1 hx;refine⟨sb,W3,c1,hrun,⟨?_,?_⟩,?_⟩
   ·rw[List.append_assoc];exact((List.Perm.append_left V2 h4).symm).trans hW.perm
   ·rw[VO,hsb];exact h3
   have:=h4.length_eq;rw[List.length_cons]at this;omega
  rw[←hn]at hsort;have hmm:= @run_makeMap Tryz.prog;obtain⟨cb,hcb⟩:∃cb,cb=S.aV.2:=⟨_,rfl⟩;have aBT:=Lh hcb;(have hn1:(n:Int)≤40:=by omega);(have hn0:(0:Int)≤n:=by omega);clear hI hS hVp hn avY hne hcb;rcases Nat.eq_zero_or_pos n with h0|hpos
  ·subst h0;have hA:Hid (∀W P',P.Perm P'→P'.Pairwise (fun x y:rT=>x.1.1≤y.1.1)→Sep w0 W (.sl 190 2 (.slice Au 0 cu) 0 (P'.flatMap oI)::l7 3 a.fb (fC a.FM):: .bX (dC a.FM)::jG f q S b.sb (.map (some a.fb)) false::aD q p false::aJ p S.D::dH b.sb b.SM::R)→S.aV.2=true∧W.cell? ⟨f,2,none⟩=some (.map (some a.fb))∧∃W2,(Instr.range 98 (.map (some a.fb))).run Tryz.prog W= .ok (.pointer (some ⟨W.heap.size,0,none⟩)) W2∧Q0 f q p S a b S.aV.1 W.heap.size w0 W2 R a.FM []):=Lh fun W P' hp hs hW=>by
    obtain⟨_,h1|⟨h1,_⟩⟩:=G7.out _ _ hp hs hW
    ·(have hc:S.aV.2=true:=by rw[h1.2]);refine⟨hc,?_⟩;(have e:S.aV.1=S.D:=by rw[h1.2]);refine hloop.out W hc ?_;rw[e];exact(Sep.bZ [4,5,1,2,3,6,0] hW (by decide) (by simp)).perm (by simp only[List.length_cons,List.length_nil];exact List.Perm.refl _)|>.bZ [6,0,1,2,3,4,5] (by decide) (by simp)|>.drop 1
    exact absurd h1 (by decide)
   clear G7 hloop;go_wp2_with(go_at_call 142;refine hsort.mono ?_;rintro e W8 ⟨rfl,P',hp,hs,h9⟩;obtain⟨hcc,c2,w7,hrg,hL⟩:=hA.out _ _ hp hs h9;replace hL:=Lh hL;replace hcc:=Lh hcc;clear hsort hA hp hs h9 hnx);replace hcc:=hcc.out;go_loopg[] a.FM.length (fun g wr2=>Hid (∃Ms V,Q0 f q p S a b S.aV.1 W8.heap.size w0 wr2 R Ms V∧g=Ms.length))
   case atStart=>exact Lh ⟨a.FM,[],hL.out,rfl⟩
   clear hL hrg;obtain⟨Ms,V2,hJ,rfl⟩:=hrel.out;clear hrel;rcases hJ.sep.GQ 0 with⟨rfl,hnx2⟩|⟨x,w6,hx,hnx2,kW,mY⟩
   ·obtain⟨f2,d2,hfin⟩:=G8.out _ _ _ hcc hJ;replace hfin:=Lh hfin;clear hJ yL G8 MH;go_wp2_with fail
    go_end0
    exact hfin.out
   obtain⟨sb,W3,d1,hmu,hJ2,hlt⟩:=yL.out _ _ _ _ _ _ hJ hx kW;(have hx2:∃A c,x.2.1= .slice A 512 c:=by have YI:x∈a.FM:=hJ.perm.subset (List.mem_append_right _ hx);have hb1:=hJ.sep.FJ 3 rfl YI;have P9:=hC'.out.fresh x YI;obtain⟨_,A,c,e,_⟩:=hb1;rw[P9.2,iL hC'.out.cur P9.1]at e;exact⟨A,c,e⟩);obtain⟨A6,c6,e6⟩:=hx2;rw[e6]at hnx2 mY hmu;obtain⟨i,hi⟩:∃i,i=x.1:=⟨_,rfl⟩;rw[←hi]at hnx2 mY hmu;obtain⟨Ms2,aeO⟩:∃Ms2,Ms2=eY Ms x.1:=⟨_,rfl⟩;rw[←aeO]at hJ2 hlt;replace hJ2:=Lh hJ2;replace hlt:=Lh hlt;clear hJ kW yL G8 MH e6 hx hi aeO;go_wp2_with fail;go_roundg Ms2.length
   case measure=>exact hlt.out
   case rel=>exact Lh ⟨Ms2,_,hJ2.out,rfl⟩
  have hB:Hid (∀W P',P.Perm P'→P'.Pairwise (fun x y:rT=>x.1.1≤y.1.1)→Sep w0 W (.sl 190 2 (.slice Au n cu) n (P'.flatMap oI)::l7 3 a.fb (fC a.FM):: .bX (dC a.FM)::jG f q S b.sb (.map (some a.fb)) false::aD q p false::aJ p S.D::dH b.sb b.SM::R)→W.cell? ⟨f,0,none⟩=some (.pointer (some ⟨q,0,none⟩))∧
   Calls Tryz.prog 144 #[.pointer (some ⟨q,0,none⟩),.slice Au n cu] W fun e w'=>e= .returned (.int .i64 (aaG S.aV.2))∧Sep w0 w' (aD q p (!S.aV.2)::aJ p S.aV.1::l7 3 a.fb (fC a.FM):: .bX (dC a.FM)::jG f q S b.sb (.map (some a.fb)) false::dH b.sb b.SM::R)):=Lh fun W P' hp hs hW=>by
   obtain⟨c0,h1|⟨_,h1⟩⟩:=G7.out _ _ hp hs hW
   ·exact absurd h1.1 (by omega)
   ·exact⟨c0,h1⟩
  (have hn2:(0:Int)<n:=by omega);cases hcv:S.aV.2 with
  |true=>
   (have hD:Hid (∀W,Sep w0 W (aD q p (!S.aV.2)::aJ p S.aV.1::l7 3 a.fb (fC a.FM):: .bX (dC a.FM)::jG f q S b.sb (.map (some a.fb)) false::dH b.sb b.SM::R)→W.cell? ⟨f,2,none⟩=some (.map (some a.fb))∧∃W2,(Instr.range 98 (.map (some a.fb))).run Tryz.prog W= .ok (.pointer (some ⟨W.heap.size,0,none⟩)) W2∧Q0 f q p S a b S.aV.1 W.heap.size w0 W2 R a.FM []):=Lh fun W hW=>by rw[hcv]at hW;exact hloop.out W hcv hW);(have hE:aaG S.aV.2=0:=by rw[hcv];rfl);rw[hE]at hB;have hcc:=Lh hcv;clear G7 hloop hcv hE;go_wp2_with(first |(go_at_call 142;refine hsort.mono ?_;rintro e w9 ⟨rfl,P',hp,hs,h9⟩;obtain⟨c0,hcm⟩:=hB.out _ _ hp hs h9;clear hsort hB hp hs h9 hnx)|(go_at_call 144;refine hcm.mono ?_;rintro e W8 ⟨rfl,h8⟩;obtain⟨c2,w7,hrg,hL⟩:=hD.out _ h8;replace hL:=Lh hL;clear hcm hD h8)|(go_at_call 43;refine(dI _ _).mono ?_;rintro e w5 ⟨rfl,h5⟩;obtain rfl:=h5.symm));replace hcc:=hcc.out;go_loopg[] a.FM.length (fun g wr2=>Hid (∃Ms V,Q0 f q p S a b S.aV.1 W8.heap.size w0 wr2 R Ms V∧g=Ms.length))
   case atStart=>exact Lh ⟨a.FM,[],hL.out,rfl⟩
   clear hL hrg;obtain⟨Ms,V2,hJ,rfl⟩:=hrel.out;clear hrel;rcases hJ.sep.GQ 0 with⟨rfl,hnx2⟩|⟨x,w6,hx,hnx2,kW,mY⟩
   ·obtain⟨f2,d2,hfin⟩:=G8.out _ _ _ hcc hJ;replace hfin:=Lh hfin;clear hJ yL G8 MH;go_wp2_with fail
    go_end0
    exact hfin.out
   obtain⟨sb,W3,d1,hmu,hJ2,hlt⟩:=yL.out _ _ _ _ _ _ hJ hx kW;(have hx2:∃A c,x.2.1= .slice A 512 c:=by have YI:x∈a.FM:=hJ.perm.subset (List.mem_append_right _ hx);have hb1:=hJ.sep.FJ 3 rfl YI;have P9:=hC'.out.fresh x YI;obtain⟨_,A,c,e,_⟩:=hb1;rw[P9.2,iL hC'.out.cur P9.1]at e;exact⟨A,c,e⟩);obtain⟨A6,c6,e6⟩:=hx2;rw[e6]at hnx2 mY hmu;obtain⟨i,hi⟩:∃i,i=x.1:=⟨_,rfl⟩;rw[←hi]at hnx2 mY hmu;obtain⟨Ms2,aeO⟩:∃Ms2,Ms2=eY Ms x.1:=⟨_,rfl⟩;rw[←aeO]at hJ2 hlt;replace hJ2:=Lh hJ2;replace hlt:=Lh hlt;clear hJ kW yL G8 MH e6 hx hi aeO;go_wp2_with fail;go_roundg Ms2.length
   case measure=>exact hlt.out
   case rel=>exact Lh ⟨Ms2,_,hJ2.out,rfl⟩
  |false=>(have hD:Hid (∀W,Sep w0 W (aD q p (!S.aV.2)::aJ p S.aV.1::l7 3 a.fb (fC a.FM):: .bX (dC a.FM)::jG f q S b.sb (.map (some a.fb)) false::dH b.sb b.SM::R)→kM f q p S a w0 R (.panicked (eH 11)) W):=Lh fun W hW=>by rw[hcv]at hW;exact MH.out W hcv hW);(have hE:aaG S.aV.2=11:=by rw[hcv];rfl);rw[hE]at hB;clear G7 hloop hcv hE G8 yL MH;go_wp2_with(first |(go_at_call 142;refine hsort.mono ?_;rintro e w9 ⟨rfl,P',hp,hs,h9⟩;obtain⟨c0,hcm⟩:=hB.out _ _ hp hs h9;clear hsort hB hp hs h9 hnx)|(go_at_call 144;refine hcm.mono ?_;rintro e W8 ⟨rfl,h8⟩;have hend:=Lh (hD.out _ h8);clear hcm hD h8)|(go_at_call 43;refine(dI _ _).mono ?_;rintro e w5 ⟨rfl,h5⟩;obtain rfl:=h5.symm));exact⟨rfl,hend.out⟩
 have YI:x∈a.FM:=hI.perm.subset (List.mem_append_right _ hx);have P9:=hC'.out.fresh x YI;have hlen:x.2.2.length=512:=by rw[P9.2];exact iL hC'.out.cur P9.1
 have alU:(bk S.D.now (96+x.1)).length=512:=hC'.out.X5 P9.1;have hby:Hid (∀W b' A C,Sep w0 W (C::vI f q p S b' (.star A (.bX (dC a.FM)))::R)→BytesAt W x.2.1 x.2.2):=Lh fun W b' A C hS=>((hS.VN).perm (List.Perm.swap _ _ _)).YE YI
 obtain⟨i,hi⟩:∃i,i=x.1:=⟨_,rfl⟩;obtain⟨bx,hbx⟩:∃bx,bx=x.2.2:=⟨_,rfl⟩;obtain⟨bd,hbd⟩:∃bd,bd=bk S.D.now (96+x.1):=⟨_,rfl⟩;have iW:=bG.alT;have hb1:=hby.out _ _ _ _ iW;obtain⟨Ax,cx,hvx⟩:∃A c,x.2.1= .slice A 512 c:=by obtain⟨_,A,c,e,_⟩:=hb1;rw[hlen]at e;exact⟨A,c,e⟩
 rw[hvx]at hnx hen hby hb1;rw[←hbx]at hb1 hby;rw[←hi]at hnx hen;have hold:=aeD (i:=i) hI.reads.ok (by rw[hi];exact P9.1) ((iW.perm (List.Perm.swap _ _ _)).drew);have hcv:=gV hb1;have aaH:(convert 35 9 (.slice Ax 512 cx)).run Tryz.prog w3.drew= .ok (aM bx) w3.drew:=gV (hb1.below ((Below.refl _ _).drew));have i4:(i:Int)≤4096:=by have:=hC'.out.l8.few;omega
 have i0':(0:Int)≤i:=by omega
 have hI':=Lh hI;have uR:=Lh iW;replace hold:=Lh hold;have hi':=Lh hi;have aqV:=Lh hbx;have ajE:=Lh hbd;have av0:=Lh hvx;have hx':=Lh hx;have aBU:=Lh YI;have aqW:=Lh (And.intro hlen alU);clear hI bG iW hb1 hi hbx hbd hvx hx YI P9 hlen alU hcv;unfold aM at aaH;obtain⟨N,hN⟩:∃N,N=P.length:=⟨_,rfl⟩;have hu2:∃A c,u2= .slice A N c:=by obtain⟨A,c,e⟩:=hI'.out.sep.dA 0 rfl;exact⟨A,c,by rw[e,hN]⟩
 obtain⟨Au,cu,hu2⟩:=hu2;subst hu2;have hN4:N≤4000:=by rw[hN];exact G5 hI'.out hshort'.out
 have hN':=Lh hN;have aqX:=Lh hN4;clear hN hN4;go_wp2_with fail;refine aN (S:=fun w'=>(convert 35 9 (.slice Ax 512 cx)).run Tryz.prog w'= .ok (.string ⟨bx.toArray⟩) w') 7 (by kernel_rfl) ?_;simp only[List.size_toArray,List.length_cons,List.length_nil,Nat.reduceAdd];refine aA (i:=0) (v:=?_) aaH rfl ?_ ?_;rotate_left
 ·rintro w e1;go_simp;try with_reducible rfl
 simp only[Act.put,gD];refine aA (i:=1) (v:=?_) aaH rfl ?_ ?_;rotate_left
 ·rintro w e1;go_simp;try with_reducible rfl
 simp only[Act.put,gD];refine aA (i:=4) (v:=?_) aaH rfl ?_ ?_;rotate_left
 ·rintro w e1;go_simp;try with_reducible rfl
 simp only[Act.put,gD];refine aA (i:=5) (v:=?_) aaH rfl ?_ ?_;rotate_left
 ·rintro w e1;go_simp;try with_reducible rfl
 simp only[Act.put,gD];refine aC (i:=2) (by kernel_rfl) rfl (fun K hK=>?_);go_simp;go_at_call 136;refine hold.out.mono ?_;rintro e w9 ⟨v9,b2,rfl,hR2,hf2,h9⟩;have aqY:=hby.out _ _ _ _ (h9.perm (List.Perm.swap _ _ _));have hbo:=h9.ai7 hf2 hR2.ok.none;rw[hi'.out,←ajE.out]at hbo;obtain⟨A9,c9,e9⟩:∃A c,v9= .slice A 512 c:=by obtain⟨_,A,c,e,_⟩:=hbo;rw[ajE.out,aqW.out.2]at e;exact⟨A,c,e⟩
 subst e9;have ajF:(convert 35 9 (.slice Ax 512 cx)).run Tryz.prog w9= .ok (.string ⟨bx.toArray⟩) w9:=gV aqY;have aBV:(convert 35 9 (.slice A9 512 c9)).run Tryz.prog w9= .ok (.string ⟨bd.toArray⟩) w9:=gV hbo;have h9':=Lh (h9.perm (List.Perm.swap _ _ _));have aq0:=Lh hR2;have aq1:=Lh hf2;clear aqY hbo h9 hold aaH hR2 hf2;dsimp only;refine hK _ _ (fun _=>ajF) ?_;clear hK K;try simp only[Act.put,gD]
 refine aC (i:=3) (by kernel_rfl) rfl (fun K hK=>?_);go_simp;refine hK _ _ (fun _=>ajF) ?_;clear hK K;try simp only[Act.put,gD]
 have BZ:Hid (Sep w0 w9 (.sl 190 2 (.slice Au N cu) N (P.flatMap oI)::vI f q p S b2 (.star (KP a.fb rb a.FM (eY Ms x.1)) (.bX (dC a.FM)))::R)):=by rw[hN'.out];have:=h9'.out;rw[hN'.out]at this;exact Lh this
 by_cases hd:bd=bx
 ·(have e1:(bd==bx)=true:=by simpa using hd);(have e2:(bd.toArray==bx.toArray)=true:=by rw[hd];simp);have hd':=Lh hd;clear hd;refine aC (i:=6) (by kernel_rfl) rfl (fun K hK=>?_);go_simp;refine hK _ _ (fun _=>ajF) ?_;clear hK K;(try simp only[Act.put,gD]);refine aO (by kernel_rfl) ?_ _;go_wp2_with fail;go_roundg (eY Ms x.1).length
  case measure=>exact(hI'.out.wT hnd'.out hx'.out).2
  refine Lh ⟨_,V++[x],P,b2,hI'.out.Z9 hnd'.out hx'.out ?_ aq0.out (QW aq1.out) ?_,rfl⟩
  ·unfold qN;rw[←aqV.out,←ajE.out,hd'.out];simp
  rw[←hN'.out];exact BZ.out
 have e1:(bd==bx)=false:=by simpa using hd
 have e2:(bd.toArray==bx.toArray)=false:=by simpa using hd
 have hd':=Lh hd;clear hd;refine aC (i:=6) (by kernel_rfl) rfl (fun K hK=>?_);go_simp;refine hK _ _ (fun _=>ajF) ?_;clear hK K;try simp only[Act.put,gD]
 refine aO (by kernel_rfl) ?_ _;go_wp2_with(at_builtin;refine bL 0 rfl _ _ 188 rfl 190 i0 _ 2 32 Tryz.underlying188 iM hz0 hz1 hz2 rfl (by decide) (BZ.out.alloc (.cells #[.int .i64 (i:Nat),.slice Ax 512 cx] 190)) (.slice Au N cu) N (P.flatMap oI) rfl rfl (.slice (some ⟨w9.heap.size,0,none⟩) 1 1) 1 [.int .i64 (i:Nat),.slice Ax 512 cx] rfl ⟨rfl,_,_,rfl,Nat.le_refl _,by unfold maxLen;omega,fun _=>⟨_,rfl,by rw[World.size_alloc];exact Nat.lt_succ_self _,iN w9 #[.int .i64 (i:Nat),.slice Ax 512 cx] 190 _ rfl⟩⟩ (by simp[Value.oneCell']) (by have:=aqX.out;unfold maxLen;omega) (by have:=aqX.out;omega) ?_;intro v5 w5 hS5 hz5;replace hS5:=Lh hS5);go_roundg (eY Ms x.1).length
 case measure=>exact(hI'.out.wT hnd'.out hx'.out).2
 refine Lh ⟨_,V++[x],P++[⟨(i,.slice Ax 512 cx),by omega,Ax,512,cx,rfl⟩],b2,hI'.out.aaA hnd'.out hx'.out ?_ ?_ aq0.out (QW aq1.out) ?_,rfl⟩
 ·unfold qN;rw[←aqV.out,←ajE.out];have:=hd'.out;simp;exact fun e=>this e.symm
 ·(show(i,Value.slice Ax 512 cx)=(x.1,x.2.1));rw[hi'.out,av0.out]
 rw[←hN'.out];exact hS5.out
end
structure VR (S:VS) (sb:Option Nat) (SM:BM):Prop where
 l8:S.D.ok S.nb
 big:96<S.nb
 seen:∀x∈SM,x.1<S.nb-96∧x.2.2=bk S.D.now (96+x.1)
 none:sb=none→SM=[]
 back:S.D.back=[]
def alV (f q p:Nat) (S:VS) (sb:Option Nat) (SM:BM) (fo:Option Nat):List aU:=[jG f q S sb (.map fo) false,aD q p false,aJ p S.D,dH sb SM]
def bJ (f q p:Nat) (S:VS):aU:=.ex fun t:Option Nat×BM×Option Nat=>.star (.pure (VR S t.1 t.2.1)) (.bX (alV f q p S t.1 t.2.1 t.2.2))
def DN (f q p:Nat) (dead:Bool):aU:=.ex fun t:VS×Option Nat×Option Nat=>.bX [jG f q t.1 t.2.1 (.map t.2.2) dead,aD q p true]
def VS.base (S:VS):VS:= {S with cur:=S.D.now.drop 96,m:=0}
theorem wU (c:dW) (i k:Nat):bk (c.drop i) k=bk c (i+k):=by unfold bk;rw[gH,gH,List.getElem?_drop]
theorem iX.drop {n:Nat} {c:dW} (h:iX n c) (i:Nat):iX (n-i) (c.drop i):=
 ⟨by rw[List.length_drop,h.len],fun b hb=>h.size b (List.mem_of_mem_drop hb)⟩
theorem MI :∀ {l:List oJ} {D D':DK},iY (l++[none]) D=(D',true)→D'.back=[]
 |[],D,D',h=>by
  rw[List.nil_append,iY]at h;split at h
  ·cases h
  cases h;exact DK.YJ D
 |x::l,D,D',h=>by
  rw[List.cons_append,iY]at h;split at h
  ·cases h
  exact MI h
theorem DR {S:VS} (h:S.aV.2=true) (hb:S.D.back=[]):S.aV.1.back=[]:=by
 unfold VS.aV at h ⊢;split
 ·exact hb
 rename_i hne;rw[if_neg hne]at h;have h1:iY (bD (gT S)) S.D=((iY (bD (gT S)) S.D).1,true):=by rw[←h]
 have e:bD (gT S)=(iT (gT S)++(none::some (0,dM ((gT S).map (·.1)))::none::(eT (gT S)++[none,some (0,dM [])])))++[none]:=by unfold bD;simp
 rw[e]at h1;have:=MI h1;rw[e];exact this
section
variable {w0 w:World} {R:List aU} {f q p:Nat} {S:VS} {a:VA}
theorem Sep.mZ (h:Sep w0 w (bJ f q p S::R)):∃sb SM fo,VR S sb SM∧Sep w0 w (jG f q S sb (.map fo) false::aD q p false::aJ p S.D::dH sb SM::R):=by obtain⟨t,h1⟩:=h.FB;obtain⟨h2,h3⟩:=h1.gX.LG;exact⟨t.1,t.2.1,t.2.2,h2,h3.aS⟩
theorem Sep.CE {sb:Option Nat} {SM:BM} {fo:Option Nat} (hR:VR S sb SM) (h:Sep w0 w (jG f q S sb (.map fo) false::aD q p false::aJ p S.D::dH sb SM::R)):Sep w0 w (bJ f q p S::R):=by have h1:Sep w0 w (alV f q p S sb SM fo++R):=h;exact Sep.FC (sb,SM,fo) (Sep.LH hR h1.bM).jU
theorem Sep.MJ {S:VS} {sb fo:Option Nat} {dead:Bool} (h:Sep w0 w (jG f q S sb (.map fo) dead::aD q p true::R)):Sep w0 w (DN f q p dead::R):=
 Sep.FC (S,sb,fo) (Sep.bM (As:=[jG f q S sb (.map fo) dead,aD q p true]) h)
theorem Sep.aaI {dead:Bool} (h:Sep w0 w (DN f q p dead::R)):∃S sb fo,Sep w0 w (jG f q S sb (.map fo) dead::aD q p true::R):=by obtain⟨t,h1⟩:=h.FB;exact⟨t.1,t.2.1,t.2.2,h1.aS⟩
theorem OM {a:VA} (h:VCw S a) (hb:S.D.back=[]) (hS:Sep w0 w (aG f q p S a::R)):Sep w0 w (bJ f q p S::R):=by have h1:=hS.aS;have h2:Sep w0 w (iI a.fb a.FM::jG f q S a.sb (.map (some a.fb)) false::aD q p false::aJ p S.D::dH a.sb a.SM::R):=Sep.bZ [4,0,1,2,3] h1 (by decide) (by simp[oH]);exact Sep.CE ⟨⟨h.l8.now,h.l8.fast,h.l8.few,h.l8.some,h.l8.back,h.l8.left⟩,h.big,h.seen,h.none,hb⟩ (h2.drop 1)
theorem DT {S1:VS} {a:VA} {fo:Option Nat} (hL:dY S S1) (h:VC S1 a) (hb:S.D.back=[]) (hS:Sep w0 w (jG f q S a.sb (.map fo) false::aD q p false::aJ p S1.D::dH a.sb a.SM::R)):Sep w0 w (bJ f q p S::R):=by rw[hL.D]at hS;exact Sep.CE ⟨by have:=h.l8;rw[hL.D,hL.nb]at this;exact this,by have:=h.big;rw[hL.nb]at this;exact this,fun x hx=>by have:=h.seen x hx;rw[hL.D,hL.nb]at this;exact this,h.none,hb⟩ hS
theorem ajG {sb:Option Nat} {SM:BM} (h:VR S sb SM) (ho:S.D.off=false) (fb:Nat):VC S.base ⟨sb,SM,fb,[]⟩:=
 ⟨h.l8,h.big,ho,h.l8.now.drop 96,h.seen,fun x hx=>absurd hx List.not_mem_nil,fun k hk _=>wU _ _ _,Nat.zero_le _,h.none⟩
theorem OO (x:Int) (w:World):(Instr.typeAssert (.iface 153 (.agg #[.int .i64 x])) 20 153 true).run Tryz.prog w= .ok (.tuple #[.agg #[.int .i64 x],.bool true]) w:=by kernel_rfl
set_option maxRecDepth 100000 in
set_option maxHeartbeats 1000000 in
theorem G9 {be:Nat} {sb:Option Nat} {fv:Value} {dead:Bool} {x y:Int} {older:List PanicEntry} (h:Sep w0 w (jG f q S sb fv dead::aI be y::R)):
  CallsD Tryz.prog 41 #[.pointer (some ⟨f,0,none⟩),.pointer (some ⟨be,0,none⟩)] (.panicking ({v:=.iface 153 (.agg #[.int .i64 x]),recovered:=false}::older)) w fun e u' w'=>
   e= .returned (.tuple #[])∧u'= .panicking ({v:=.iface 153 (.agg #[.int .i64 x]),recovered:=true}::older)∧Sep w0 w' (jG f q S sb fv (decide (x=11)||dead)::aI be x::R):=by
 refine callsD_of_wpS Tryz.func41 rfl fun c₀ cs hu=>?_
 apply wpS_seq
 apply wpS_region
 simp[wpOpsS,go_sem,recoverD,hu,Tryz.ntmps41,Exit.thenS]
 refine wpS_of_wp ?_
 simp only[List.size_toArray,List.length_cons,List.length_nil,Nat.reduceAdd,Nat.reduceSub,Array.replicate_succ,Array.replicate_zero,List.push_toArray,List.append_toArray,List.nil_append,List.cons_append,gD,List.set_cons_succ,List.set_cons_zero]
 have hta:=OO x w
 have hA:=h.alloc (.cells #[.int .i64 x] 153)
 have c1:=hA.bC 0 rfl 4
 have f1:=hA.bF 0 rfl 4
 have e0:=hA.bC 1 rfl 0
 have ef:=hA.bF 1 rfl 0
 have hB:=hA.bS 0 rfl 4 (.bool true)
 have b0:=hB.bC 1 rfl 0
 have bf:=hB.bF 1 rfl 0
 have hB2:=hB.bS 1 rfl 0 (.int .i64 x)
 have hA2:=hA.bS 1 rfl 0 (.int .i64 x)
 simp only[gA,gB,gC]at c1 e0 b0
 by_cases hx:x=11
 ·subst hx;go_wp2_with fail;refine⟨rfl,_,rfl,.tuple #[],?_,rfl,rfl,hB2⟩;simp[results,Tryz.results41]
 ·have hx2:(x==11)=false:=beq_eq_false_iff_ne.2 hx;rw[decide_eq_false hx,Bool.false_or];go_wp2_with fail;refine⟨rfl,_,rfl,.tuple #[],?_,rfl,rfl,hA2⟩;simp[results,Tryz.results41]
theorem HV (a b:Value) (w:World):
  CallsD Tryz.prog 41 #[a,b] .returning w fun e u' w'=>e= .returned (.tuple #[])∧u'= .returning∧w'=w:=by
 refine callsD_of_wpS Tryz.func41 rfl fun c₀ cs hu=>?_
 apply wpS_seq;apply wpS_region;simp[wpOpsS,go_sem,recoverD,hu,Tryz.ntmps41,Exit.thenS];refine wpS_of_wp ?_;simp only[List.size_toArray,List.length_cons,List.length_nil,Nat.reduceAdd,Nat.reduceSub,Array.replicate_succ,Array.replicate_zero,List.push_toArray,List.append_toArray,List.nil_append,List.cons_append,gD,List.set_cons_succ,List.set_cons_zero];go_wp2_with fail;refine⟨rfl,.returning,?_,.tuple #[],?_,rfl,rfl,rfl⟩
 ·cases c₀;simp at hu;subst hu;rfl
 simp[results,Tryz.results41]
theorem CF {be:Nat} {sb:Option Nat} {fv:Value} {dead:Bool} {x y:Int} {fn:Func} {tmps:Array Value} {Post:Ending→World→Prop} {ds:List Deferred} (h:Sep w0 w (jG f q S sb fv dead::aI be y::R))
  (hK:∀w',Sep w0 w' (jG f q S sb fv (decide (x=11)||dead)::aI be x::R)→Leaves Tryz.prog fn tmps Post ds .returning w'):
  Leaves Tryz.prog fn tmps Post ({target:=.fn (.func 41) #[],args:=#[.pointer (some ⟨f,0,none⟩),.pointer (some ⟨be,0,none⟩)]}::ds) (.panicking (eH x)) w:=by
 refine leaves_cons (f:=41) (args:=#[.pointer (some ⟨f,0,none⟩),.pointer (some ⟨be,0,none⟩)]) (by simp) (by simp[go_sem]) ?_;refine(G9 h).mono ?_;rintro e u' w' ⟨rfl,rfl,hS⟩;exact hK w' hS
theorem nK {a b:Value} {fn:Func} {tmps:Array Value} {Post:Ending→World→Prop} {ds:List Deferred} (hK:Leaves Tryz.prog fn tmps Post ds .returning w):
  Leaves Tryz.prog fn tmps Post ({target:=.fn (.func 41) #[],args:=#[a,b]}::ds) .returning w:=by
 refine leaves_cons (f:=41) (args:=#[a,b]) (by simp) (by simp[go_sem]) ?_;refine(HV a b w).mono ?_;rintro e u' w' ⟨rfl,rfl,rfl⟩;exact hK
end
section
variable {w0 w:World} {R:List aU} {f q p:Nat} {S:VS} {a:VA}
set_option maxRecDepth 100000 in
set_option maxHeartbeats 1000000 in
theorem Q6 (ho:S.D.off=false) (h:Sep w0 w (bJ f q p S::R)):
  Calls Tryz.prog 42 #[.pointer (some ⟨f,0,none⟩)] w fun e w'=>e= .returned (.tuple #[])∧∃a',VC S.base a'∧Sep w0 w' (aG f q p S.base a'::R):=by
 obtain⟨sb,SM,fo,hR,h1⟩:=h.mZ;have c0:=h1.bC 0 rfl 0;have c4:=h1.bC 0 rfl 4;simp only[gA,gB,gC]at c0 c4;have hsy:=MK (q:=q) (p:=p) (dead:=false) (R:=jG f q S sb (.map fo) false::dH sb SM::R) hR.l8 (Sep.bZ [1,2,0,3] h1 (by decide) (by simp));rw[ho]at hsy;simp only[Bool.or_false,Bool.false_eq_true,if_false]at hsy;have hend:Hid (∀W,Sep w0 W (aD q p false::aJ p S.D::jG f q S sb (.map fo) false::dH sb SM::R)→(W.alloc (.map #[] 0)).frozen? ⟨f,2,none⟩=false∧(W.alloc (.map #[] 0)).cell? ⟨f,2,none⟩=some (.map fo)∧∃a',VC S.base a'∧Sep w0 ((W.alloc (.map #[] 0)).setCell ⟨f,2,none⟩ (.map (some W.heap.size))) (aG f q p S.base a'::R)):=Lh fun W hW=>by have h3:=hW.sS;have h4:=h3.bS 3 rfl 2 (.map (some W.heap.size));refine⟨h3.bF 3 rfl 2,h3.bC 3 rfl 2,_,ajG hR ho W.heap.size,?_⟩;have h5:Sep w0 ((W.alloc (.map #[] 0)).setCell ⟨f,2,none⟩ (.map (some W.heap.size))) (oH f q p S.base ⟨sb,SM,W.heap.size,[]⟩++R):=Sep.bZ [3,1,2,4,0] h4 (by decide) (by simp);exact h5.bM
 have hmm:= @run_makeMap Tryz.prog;clear h h1 hR ho;go_enter Tryz.func42,Tryz.ntmps42;go_wp2_with(first |(go_at_call 76;refine hsy.mono ?_;rintro e w9 ⟨rfl,h9⟩;obtain⟨f2,k2,he⟩:=hend.out _ h9;replace he:=Lh he;clear hsy hend h9)|(go_at_call 43;refine(dI _ _).mono ?_;rintro e w8 ⟨rfl,h8⟩;obtain rfl:=h8.symm))
 go_end0
 exact⟨rfl,he.out⟩
end
end Go.Proofs.YteihmbaimbogaaaGreat
