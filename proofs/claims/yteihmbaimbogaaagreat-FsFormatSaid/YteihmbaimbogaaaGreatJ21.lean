/- FuE, FuG, FuH, laid together. -/
import Derived.Test.YteihmbaimbogaaaGreatJ20
namespace Go.Proofs.YteihmbaimbogaaaGreat
open Go.RowKit
set_option linter.unusedVariables false
set_option linter.unusedSimpArgs false
theorem short_puts {w0 w:World} {R:List Asn} {f q p:Nat} {S:VS} {a:VA} {r:Nat} {v:Value} {Ms V:BM} {P:List PutX} {b:VA} (h:Set1 f q p S a r w0 w R v Ms V P b) (hm:a.FM.length≤4000):P.length≤4000:=by
 have h1:(P.map (·.1)).length=((V.filter (diffB S)).map fun x=>(x.1,x.2.1)).length:=by rw[h.puts]
 rw[List.length_map,List.length_map]at h1;have h2:=List.length_filter_le (diffB S) V;have h3:=h.perm.length_eq;rw[List.length_append]at h3;omega
section
variable {w0 w:World} {R:List Asn} {f q p:Nat} {S:VS} {a:VA}
def settleOut (f q p:Nat) (S:VS) (a:VA) (w0:World) (R:List Asn) (e:Ending) (w':World):Prop:=
 if S.commit.2=true then e= .returned (.tuple #[])∧∃a',VCw S.settled a'∧Sep w0 w' (volR f q p S.settled a'::R)
 else e= .panicked (stopF 11)∧∃sb,Sep w0 w' (fsB f q S sb (.map (some a.fb)) false::ledgerR q p true::diskR p S.commit.1::R)
theorem Sep.out1 {b:VA} {r:Nat} {v:Value} {V:BM} {P:List PutX} (hI:Set1 f q p S a r w0 w R v [] V P b):
  Sep w0 w (.sl 190 2 v P.length (P.flatMap putC)::gmR 3 a.fb (blkL a.FM):: .starL (blkP a.FM)::fsB f q S b.sb (.map (some a.fb)) false::ledgerR q p false::diskR p S.D::seenR b.sb b.SM::R):=by
 have h1:=(hI.sep.vm_out).gm_end 0 rfl;rw[hI.reads.fb]at h1;exact Sep.sel [6,0,1,2,3,4,5] h1 (by decide) (by simp)
set_option maxRecDepth 100000 in
set_option maxHeartbeats 4000000 in
theorem settle_any (hC:VC S a) (hm:S.m≤40) (hback:S.D.back.length≤60000) (h:Sep w0 w (volR f q p S a::R)):
  Calls Tryz.prog 91 #[.pointer (some ⟨f,0,none⟩)] w (settleOut f q p S a w0 R):=by
 have h1:=h.starL_open;have hkey:Sep w0 w (gmR 3 a.fb (blkL a.FM):: .starL (blkP a.FM)::fsB f q S a.sb (.map (some a.fb)) false::ledgerR q p false::diskR p S.D::seenR a.sb a.SM::R):=Sep.star_open (Sep.sel [4,0,1,2,3] h1 (by decide) (by simp[volP]));have hnd:(a.FM.map (·.1)).Nodup:=by have h1:=(hkey.gm_keys 0 rfl).ne;unfold blkL at h1;rw[List.pairwise_map]at h1;rw[List.nodup_iff_pairwise_ne,List.pairwise_map];(refine h1.imp fun h e=>h ?_);simp only[e]
 have hshort:=hC.shortF hnd;obtain⟨w1,hrg,hS1,hsz1⟩:=hkey.gm_range 0 rfl keyed_int Tryz.underlying98;have hI0:Hid (∃Ms V P b,Set1 f q p S a w.heap.size w0 w1 R (.slice none 0 0) Ms V P b∧a.FM.length=Ms.length):=Lh ⟨a.FM,[],[],a,⟨.refl hC,by simp,rfl,fun h=>absurd rfl h,by have h3:Sep w0 w1 (rngA a.fb w.heap.size a.FM a.FM:: .starL (blkP a.FM)::fsB f q S a.sb (.map (some a.fb)) false::ledgerR q p false::diskR p S.D::seenR a.sb a.SM::R):=hS1;have h4:Sep w0 w1 (rngA a.fb w.heap.size a.FM a.FM:: .starL (blkP a.FM)::fsB f q S a.sb (.map (some a.fb)) false::ledgerR q p false::diskR p S.D::seenR a.sb a.SM:: .sl 190 2 (.slice none 0 0) 0 []::R):=Sep.sel [1,2,3,4,5,6,0] (h3.sl_nil 190 2) (by decide) (by simp);exact h4.vm_in⟩,rfl⟩;have c2:=h.fs_cells.c2;obtain⟨i0,hknf,hz0,hz1,hz2⟩:=info_of info_put;have hC':=Lh hC;have hnd':=Lh hnd;have hshort':=Lh hshort;have hm':=Lh hm;have hback':=Lh hback;obtain⟨rb,hrb⟩:∃rb,rb=w.heap.size:=⟨_,rfl⟩;rw[←hrb]at hI0 hrg;clear hC hm hback h h1 hkey hnd hS1 hsz1 hrb hshort;go_enter Tryz.func91,Tryz.ntmps91;go_wp2_with fail;go_loopg[2] a.FM.length (fun g u wr=>Hid (∃Ms V P b,Set1 f q p S a rb w0 wr R u Ms V P b∧g=Ms.length))
 case atStart=>exact hI0
 clear hI0 c2 hrg;obtain⟨Ms,V,P,b,hI,rfl⟩:=hrel.out;clear hrel;rcases(hI.sep.vm_out).rng_next 0 with⟨rfl,hnx⟩|⟨x,w3,hx,hnx,hS3,hen⟩
 ·have hS:=Sep.out1 hI;(have hVp:V.Perm a.FM:=by have:=hI.perm;rw[List.append_nil]at this;exact this);have hsort:=sortp_any hS (by have:=short_puts hI hshort'.out;omega);obtain⟨n,hn⟩:∃n,n=P.length:=⟨_,rfl⟩;(have hn40:n≤40:=by have h1:=congrArg List.length hI.puts;rw[List.length_map,List.length_map]at h1;have h2:=List.length_filter_le (diffB S) V;have h3:=hVp.length_eq;have h4:=hC'.out.few;have h5:=hm'.out;omega);(have hu2:∃A c,u2= .slice A n c:=by obtain⟨A,c,e⟩:=hI.sep.sl_shape 0 rfl;exact⟨A,c,by rw[e,hn]⟩);obtain⟨Au,cu,hu2⟩:=hu2;subst hu2
  --what the ledger answers
  have hlater:Hid (∀W P',P.Perm P'→P'.Pairwise (fun x y:PutX=>x.1.1≤y.1.1)→Sep w0 W (.sl 190 2 (.slice Au n cu) n (P'.flatMap putC)::gmR 3 a.fb (blkL a.FM):: .starL (blkP a.FM)::fsB f q S b.sb (.map (some a.fb)) false::ledgerR q p false::diskR p S.D::seenR b.sb b.SM::R)→
    W.cell? ⟨f,0,none⟩=some (.pointer (some ⟨q,0,none⟩))∧
    ((n=0∧S.commit=(S.D,true))∨(1≤n∧Calls Tryz.prog 144 #[.pointer (some ⟨q,0,none⟩),.slice Au n cu] W fun e w'=>e= .returned (.int .i64 (errC S.commit.2))∧Sep w0 w' (ledgerR q p (!S.commit.2)::diskR p S.commit.1::gmR 3 a.fb (blkL a.FM):: .starL (blkP a.FM)::fsB f q S b.sb (.map (some a.fb)) false::seenR b.sb b.SM::R)))):=Lh fun W P' hp hs hW=>by
   have hps:=puts_sorted hC'.out hnd'.out hVp hI.puts hp hs;(have hPn:P'.length=n:=by rw[hn];exact hp.length_eq.symm);refine⟨hW.bC 3 rfl 0,?_⟩;rcases Nat.eq_zero_or_pos n with h0|hpos
   ·refine .inl ⟨h0,?_⟩;(have:putsP S=[]:=by rw[←hps,List.eq_nil_of_length_eq_zero (hPn.trans h0)];rfl);unfold VS.commit;rw[if_pos this]
   refine .inr ⟨hpos,?_⟩;(have hne:¬putsP S=[]:=by intro e;rw[←hps]at e;have:=List.map_eq_nil_iff.1 e;rw[this]at hPn;simp at hPn;omega);obtain⟨g,c,e,_,_,hc1,hc2⟩:=hW.sl_form 0 rfl hpos;cases e;have hW2:Sep w0 W (ledgerR q p false::diskR p S.D:: .sl 190 2 (.slice (some ⟨g,0,none⟩) n cu) n (P'.flatMap putC)::gmR 3 a.fb (blkL a.FM):: .starL (blkP a.FM)::fsB f q S b.sb (.map (some a.fb)) false::seenR b.sb b.SM::R):=Sep.sel [4,5,0,1,2,3,6] hW (by decide) (by simp);have hin:=puts_in (w0:=w0) (w:=W) (R':=.sl 190 2 (.slice (some ⟨g,0,none⟩) n cu) n (P'.flatMap putC)::gmR 3 a.fb (blkL a.FM):: .starL (blkP a.FM)::fsB f q S b.sb (.map (some a.fb)) false::seenR b.sb b.SM::R) hC'.out hVp hI.puts hp hPn (hW2.drop 2) 0 2 rfl rfl;have hcm:=commit_any hC'.out.dok hC'.out.big (puts_ok (V:=V) (P:=P) hC'.out hps (by omega) (by omega)) hin hc1 hc2 hback'.out hW2;(have hce:S.commit=runD (commitActs (putsP S)) S.D:=by unfold VS.commit;rw[if_neg hne]);rw[hce];rw[hps]at hcm;refine hcm.mono ?_;rintro e w' ⟨rfl,h9⟩;exact⟨rfl,(Sep.sel [2,0,1] h9 (by decide) (by simp)).drop 1⟩
  --what the second loop begins with
  (have hne:a.FM≠[]→b.SM≠[]:=fun h1=>hI.read fun h2=>h1 (by rw[h2]at hVp;exact List.Perm.eq_nil hVp.symm));have hloop:Hid (∀W,S.commit.2=true→Sep w0 W (ledgerR q p false::diskR p S.commit.1::gmR 3 a.fb (blkL a.FM):: .starL (blkP a.FM)::fsB f q S b.sb (.map (some a.fb)) false::seenR b.sb b.SM::R)→
    W.cell? ⟨f,2,none⟩=some (.map (some a.fb))∧∃W2,(Instr.range 98 (.map (some a.fb))).run Tryz.prog W= .ok (.pointer (some ⟨W.heap.size,0,none⟩)) W2∧Set2 f q p S a b S.commit.1 W.heap.size w0 W2 R a.FM []):=Lh fun W hc hW=>by
   refine⟨hW.bC 4 rfl 2,?_⟩;have h1:Sep w0 W (seenR b.sb b.SM::gmR 3 a.fb (blkL a.FM):: .starL (blkP a.FM)::fsB f q S b.sb (.map (some a.fb)) false::ledgerR q p false::diskR p S.commit.1::R):=Sep.sel [5,2,3,4,0,1] hW (by decide) (by simp);have h2:=h1.seen_split hI.reads.ok.none;have h3:Sep w0 W (gmR 3 a.fb (blkL a.FM)::seenG b.sb b.SM:: .starL (blkP b.SM):: .starL (blkP a.FM)::fsB f q S b.sb (.map (some a.fb)) false::ledgerR q p false::diskR p S.commit.1::R):=Sep.sel [2,0,1,3,4,5,6] h2 (by decide) (by simp);obtain⟨W2,hrun,h4,_⟩:=h3.gm_range 0 rfl keyed_int Tryz.underlying98;exact⟨W2,hrun,by simp,h4⟩
  have hend2:Hid (∀W V2 r2,S.commit.2=true→Set2 f q p S a b S.commit.1 r2 w0 W R [] V2→(W.alloc (.map #[] 0)).frozen? ⟨f,2,none⟩=false∧(W.alloc (.map #[] 0)).cell? ⟨f,2,none⟩=some (.map (some a.fb))∧settleOut f q p S a w0 R (.returned (.tuple #[])) ((W.alloc (.map #[] 0)).setCell ⟨f,2,none⟩ (.map (some W.heap.size)))):=Lh fun W V2 r2 hc hW=>by
   (have hV2:V2.Perm a.FM:=by have:=hW.perm;rw[List.append_nil]at this;exact this);have h1:=(hW.sep.gm_end 0 rfl).drop 1;have h2:Sep w0 W (seenG b.sb (putsB b.SM V2):: .starL (blkP b.SM):: .starL (blkP a.FM)::fsB f q S b.sb (.map (some a.fb)) false::ledgerR q p false::diskR p S.commit.1::R):=h1;have hsn:b.sb=none→b.SM=[]∧V2=[]:=fun hs=>by
    have h3:=hI.reads.ok.none hs;refine⟨h3,?_⟩;by_cases e:a.FM=[]
    ·rw[e]at hV2;exact List.Perm.eq_nil hV2
    exact absurd h3 (hne e)
   have h3:=(h2.seen_join hV2 hsn).blk_new;have h4:=h3.bS 2 rfl 2 (.map (some W.heap.size));refine⟨h3.bF 2 rfl 2,h3.bC 2 rfl 2,?_⟩;unfold settleOut;rw[if_pos hc];refine⟨rfl,_,settled_vc hC'.out hI.reads hV2 hm'.out hc hne W.heap.size,?_⟩;have h5:Sep w0 ((W.alloc (.map #[] 0)).setCell ⟨f,2,none⟩ (.map (some W.heap.size))) (volP f q p S.settled ⟨b.sb,putsB b.SM V2,W.heap.size,[]⟩++R):=Sep.sel [2,3,4,1,0] h4 (by decide) (by simp);exact h5.starL_shut
  (have hfail:Hid (∀W,S.commit.2=false→Sep w0 W (ledgerR q p true::diskR p S.commit.1::gmR 3 a.fb (blkL a.FM):: .starL (blkP a.FM)::fsB f q S b.sb (.map (some a.fb)) false::seenR b.sb b.SM::R)→settleOut f q p S a w0 R (.panicked (stopF 11)) W):=Lh fun W hc hW=>by unfold settleOut;rw[if_neg (by rw[hc];decide)];have h5:Sep w0 W (gmR 3 a.fb (blkL a.FM):: .starL (blkP a.FM)::seenR b.sb b.SM::fsB f q S b.sb (.map (some a.fb)) false::ledgerR q p true::diskR p S.commit.1::R):=Sep.sel [2,3,5,4,0,1] hW (by decide) (by simp);exact⟨rfl,_,h5.drop 3⟩);have hround:Hid (∀W Ms V2 r2 x W',Set2 f q p S a b S.commit.1 r2 w0 W R Ms V2→x∈Ms→Sep w0 W' (rngA a.fb r2 a.FM (delB Ms x.1)::seenG b.sb (putsB b.SM V2):: .starL (blkP b.SM):: .starL (blkP a.FM)::fsB f q S b.sb (.map (some a.fb)) false::ledgerR q p false::diskR p S.commit.1::R)→
    ∃sb W3,W'.cell? ⟨f,1,none⟩=some (.map (some sb))∧(Instr.mapUpdate 98 (.map (some sb)) (.int .i64 (x.1:Nat)) x.2.1).run Tryz.prog W'= .ok () W3∧Set2 f q p S a b S.commit.1 r2 w0 W3 R (delB Ms x.1) (V2++[x])∧(delB Ms x.1).length<Ms.length):=Lh fun W Ms V2 r2 x W' hW hx hW'=>by
   have hxF:x∈a.FM:=hW.perm.subset (List.mem_append_right _ hx);obtain⟨sb,hsb⟩:∃sb,b.sb=some sb:=by
    cases hs:b.sb with
    |some sb=>exact⟨sb,rfl⟩
    |none=>exact absurd (hI.reads.ok.none hs) (hne (fun e=>by rw[e]at hxF;cases hxF))
   have c1:=hW'.bC 4 rfl 1;have h2:=hW';rw[hsb]at h2 c1;have hkb:((V2++Ms).map (·.1)).Nodup:=(hW.perm.map (·.1)).nodup_iff.2 hnd'.out;have hxc:=hC'.out.fresh x hxF;(have hnk:((putsB b.SM V2).map (·.1)).Nodup:=by have h1:=(h2.gm_keys (L:=blkL (putsB b.SM V2)) 1 rfl).ne;unfold blkL at h1;rw[List.pairwise_map]at h1;rw[List.nodup_iff_pairwise_ne,List.pairwise_map];(refine h1.imp fun h e=>h ?_);simp only[e]);have hlen:(putsB b.SM V2).length≤4096:=by
    have h1:((putsB b.SM V2).map (·.1)).length≤(List.range (S.nb-96)).length:=List.Nodup.length_le_of_subset hnk fun k hk=>by
     obtain⟨y,hy,rfl⟩:=List.mem_map.1 hk;rcases putsB_mem hy with h3|⟨h3,_⟩
     ·exact List.mem_range.2 (hC'.out.fresh y (hW.perm.subset (List.mem_append_left _ h3))).1
     exact List.mem_range.2 (hI.reads.ok.seen y h3).1
    have h2:=hC'.out.dok.few;rw[List.length_map,List.length_range]at h1;omega
   obtain⟨W3,hrun,h3⟩:=h2.gm_put (L:=blkL (putsB b.SM V2)) (v:=x.2.1) 1 rfl keyed_int Tryz.underlying98 (by unfold blkL;rw[List.length_map];unfold maxLen;omega) (keyOf_blk x.1 (by have:=hC'.out.dok.few;omega));rw[putM_blk _ x.1 x.2.1 x.2.2]at h3;rw[List.map_append,List.nodup_append]at hkb;have h4:=delB_perm hkb.2.1 hx;refine⟨sb,W3,c1,hrun,⟨?_,?_⟩,?_⟩
   ·rw[List.append_assoc];exact((List.Perm.append_left V2 h4).symm).trans hW.perm
   ·rw[putsB_snoc,hsb];exact h3
   have:=h4.length_eq;rw[List.length_cons]at this;omega
  rw[←hn]at hsort;have hmm:= @run_makeMap Tryz.prog;obtain⟨cb,hcb⟩:∃cb,cb=S.commit.2:=⟨_,rfl⟩;have hcb':=Lh hcb;(have hn1:(n:Int)≤40:=by omega);(have hn0:(0:Int)≤n:=by omega);clear hI hS hVp hn hn40 hne hcb;rcases Nat.eq_zero_or_pos n with h0|hpos
  ·subst h0;have hA:Hid (∀W P',P.Perm P'→P'.Pairwise (fun x y:PutX=>x.1.1≤y.1.1)→Sep w0 W (.sl 190 2 (.slice Au 0 cu) 0 (P'.flatMap putC)::gmR 3 a.fb (blkL a.FM):: .starL (blkP a.FM)::fsB f q S b.sb (.map (some a.fb)) false::ledgerR q p false::diskR p S.D::seenR b.sb b.SM::R)→S.commit.2=true∧W.cell? ⟨f,2,none⟩=some (.map (some a.fb))∧∃W2,(Instr.range 98 (.map (some a.fb))).run Tryz.prog W= .ok (.pointer (some ⟨W.heap.size,0,none⟩)) W2∧Set2 f q p S a b S.commit.1 W.heap.size w0 W2 R a.FM []):=Lh fun W P' hp hs hW=>by
    obtain⟨_,h1|⟨h1,_⟩⟩:=hlater.out _ _ hp hs hW
    ·(have hc:S.commit.2=true:=by rw[h1.2]);refine⟨hc,?_⟩;(have e:S.commit.1=S.D:=by rw[h1.2]);refine hloop.out W hc ?_;rw[e];exact(Sep.sel [4,5,1,2,3,6,0] hW (by decide) (by simp)).perm (by simp only[List.length_cons,List.length_nil];exact List.Perm.refl _)|>.sel [6,0,1,2,3,4,5] (by decide) (by simp)|>.drop 1
    exact absurd h1 (by decide)
   clear hlater hloop;go_wp2_with(go_at_call 142;refine hsort.mono ?_;rintro e W8 ⟨rfl,P',hp,hs,h9⟩;obtain⟨hcc,c2,w7,hrg,hL⟩:=hA.out _ _ hp hs h9;replace hL:=Lh hL;replace hcc:=Lh hcc;clear hsort hA hp hs h9 hnx);replace hcc:=hcc.out;go_loopg[] a.FM.length (fun g wr2=>Hid (∃Ms V,Set2 f q p S a b S.commit.1 W8.heap.size w0 wr2 R Ms V∧g=Ms.length))
   case atStart=>exact Lh ⟨a.FM,[],hL.out,rfl⟩
   clear hL hrg;obtain⟨Ms,V2,hJ,rfl⟩:=hrel.out;clear hrel;rcases hJ.sep.rng_next 0 with⟨rfl,hnx2⟩|⟨x,w6,hx,hnx2,hS6,hen2⟩
   ·obtain⟨f2,d2,hfin⟩:=hend2.out _ _ _ hcc hJ;replace hfin:=Lh hfin;clear hJ hround hend2 hfail;go_wp2_with fail
    go_end0
    exact hfin.out
   obtain⟨sb,W3,d1,hmu,hJ2,hlt⟩:=hround.out _ _ _ _ _ _ hJ hx hS6;(have hx2:∃A c,x.2.1= .slice A 512 c:=by have hxF:x∈a.FM:=hJ.perm.subset (List.mem_append_right _ hx);have hb1:=hJ.sep.blkP_at 3 rfl hxF;have hxc:=hC'.out.fresh x hxF;obtain⟨_,A,c,e,_⟩:=hb1;rw[hxc.2,bk_len hC'.out.cur hxc.1]at e;exact⟨A,c,e⟩);obtain⟨A6,c6,e6⟩:=hx2;rw[e6]at hnx2 hen2 hmu;obtain⟨i,hi⟩:∃i,i=x.1:=⟨_,rfl⟩;rw[←hi]at hnx2 hen2 hmu;obtain⟨Ms2,hMs2⟩:∃Ms2,Ms2=delB Ms x.1:=⟨_,rfl⟩;rw[←hMs2]at hJ2 hlt;replace hJ2:=Lh hJ2;replace hlt:=Lh hlt;clear hJ hS6 hround hend2 hfail e6 hx hi hMs2;go_wp2_with fail;go_roundg Ms2.length
   case measure=>exact hlt.out
   case rel=>exact Lh ⟨Ms2,_,hJ2.out,rfl⟩
  have hB:Hid (∀W P',P.Perm P'→P'.Pairwise (fun x y:PutX=>x.1.1≤y.1.1)→Sep w0 W (.sl 190 2 (.slice Au n cu) n (P'.flatMap putC)::gmR 3 a.fb (blkL a.FM):: .starL (blkP a.FM)::fsB f q S b.sb (.map (some a.fb)) false::ledgerR q p false::diskR p S.D::seenR b.sb b.SM::R)→W.cell? ⟨f,0,none⟩=some (.pointer (some ⟨q,0,none⟩))∧
   Calls Tryz.prog 144 #[.pointer (some ⟨q,0,none⟩),.slice Au n cu] W fun e w'=>e= .returned (.int .i64 (errC S.commit.2))∧Sep w0 w' (ledgerR q p (!S.commit.2)::diskR p S.commit.1::gmR 3 a.fb (blkL a.FM):: .starL (blkP a.FM)::fsB f q S b.sb (.map (some a.fb)) false::seenR b.sb b.SM::R)):=Lh fun W P' hp hs hW=>by
   obtain⟨c0,h1|⟨_,h1⟩⟩:=hlater.out _ _ hp hs hW
   ·exact absurd h1.1 (by omega)
   ·exact⟨c0,h1⟩
  (have hn2:(0:Int)<n:=by omega);cases hcv:S.commit.2 with
  |true=>
   (have hD:Hid (∀W,Sep w0 W (ledgerR q p (!S.commit.2)::diskR p S.commit.1::gmR 3 a.fb (blkL a.FM):: .starL (blkP a.FM)::fsB f q S b.sb (.map (some a.fb)) false::seenR b.sb b.SM::R)→W.cell? ⟨f,2,none⟩=some (.map (some a.fb))∧∃W2,(Instr.range 98 (.map (some a.fb))).run Tryz.prog W= .ok (.pointer (some ⟨W.heap.size,0,none⟩)) W2∧Set2 f q p S a b S.commit.1 W.heap.size w0 W2 R a.FM []):=Lh fun W hW=>by rw[hcv]at hW;exact hloop.out W hcv hW);(have hE:errC S.commit.2=0:=by rw[hcv];rfl);rw[hE]at hB;have hcc:=Lh hcv;clear hlater hloop hcv hE;go_wp2_with(first |(go_at_call 142;refine hsort.mono ?_;rintro e w9 ⟨rfl,P',hp,hs,h9⟩;obtain⟨c0,hcm⟩:=hB.out _ _ hp hs h9;clear hsort hB hp hs h9 hnx)|(go_at_call 144;refine hcm.mono ?_;rintro e W8 ⟨rfl,h8⟩;obtain⟨c2,w7,hrg,hL⟩:=hD.out _ h8;replace hL:=Lh hL;clear hcm hD h8)|(go_at_call 43;refine(smust_any _ _).mono ?_;rintro e w5 ⟨rfl,h5⟩;obtain rfl:=h5.symm));replace hcc:=hcc.out;go_loopg[] a.FM.length (fun g wr2=>Hid (∃Ms V,Set2 f q p S a b S.commit.1 W8.heap.size w0 wr2 R Ms V∧g=Ms.length))
   case atStart=>exact Lh ⟨a.FM,[],hL.out,rfl⟩
   clear hL hrg;obtain⟨Ms,V2,hJ,rfl⟩:=hrel.out;clear hrel;rcases hJ.sep.rng_next 0 with⟨rfl,hnx2⟩|⟨x,w6,hx,hnx2,hS6,hen2⟩
   ·obtain⟨f2,d2,hfin⟩:=hend2.out _ _ _ hcc hJ;replace hfin:=Lh hfin;clear hJ hround hend2 hfail;go_wp2_with fail
    go_end0
    exact hfin.out
   obtain⟨sb,W3,d1,hmu,hJ2,hlt⟩:=hround.out _ _ _ _ _ _ hJ hx hS6;(have hx2:∃A c,x.2.1= .slice A 512 c:=by have hxF:x∈a.FM:=hJ.perm.subset (List.mem_append_right _ hx);have hb1:=hJ.sep.blkP_at 3 rfl hxF;have hxc:=hC'.out.fresh x hxF;obtain⟨_,A,c,e,_⟩:=hb1;rw[hxc.2,bk_len hC'.out.cur hxc.1]at e;exact⟨A,c,e⟩);obtain⟨A6,c6,e6⟩:=hx2;rw[e6]at hnx2 hen2 hmu;obtain⟨i,hi⟩:∃i,i=x.1:=⟨_,rfl⟩;rw[←hi]at hnx2 hen2 hmu;obtain⟨Ms2,hMs2⟩:∃Ms2,Ms2=delB Ms x.1:=⟨_,rfl⟩;rw[←hMs2]at hJ2 hlt;replace hJ2:=Lh hJ2;replace hlt:=Lh hlt;clear hJ hS6 hround hend2 hfail e6 hx hi hMs2;go_wp2_with fail;go_roundg Ms2.length
   case measure=>exact hlt.out
   case rel=>exact Lh ⟨Ms2,_,hJ2.out,rfl⟩
  |false=>(have hD:Hid (∀W,Sep w0 W (ledgerR q p (!S.commit.2)::diskR p S.commit.1::gmR 3 a.fb (blkL a.FM):: .starL (blkP a.FM)::fsB f q S b.sb (.map (some a.fb)) false::seenR b.sb b.SM::R)→settleOut f q p S a w0 R (.panicked (stopF 11)) W):=Lh fun W hW=>by rw[hcv]at hW;exact hfail.out W hcv hW);(have hE:errC S.commit.2=11:=by rw[hcv];rfl);rw[hE]at hB;clear hlater hloop hcv hE hend2 hround hfail;go_wp2_with(first |(go_at_call 142;refine hsort.mono ?_;rintro e w9 ⟨rfl,P',hp,hs,h9⟩;obtain⟨c0,hcm⟩:=hB.out _ _ hp hs h9;clear hsort hB hp hs h9 hnx)|(go_at_call 144;refine hcm.mono ?_;rintro e W8 ⟨rfl,h8⟩;have hend:=Lh (hD.out _ h8);clear hcm hD h8)|(go_at_call 43;refine(smust_any _ _).mono ?_;rintro e w5 ⟨rfl,h5⟩;obtain rfl:=h5.symm));exact⟨rfl,hend.out⟩
 have hxF:x∈a.FM:=hI.perm.subset (List.mem_append_right _ hx);have hxc:=hC'.out.fresh x hxF;have hlen:x.2.2.length=512:=by rw[hxc.2];exact bk_len hC'.out.cur hxc.1
 have hlenD:(bk S.D.now (96+x.1)).length=512:=hC'.out.now_len hxc.1;have hby:Hid (∀W b' A C,Sep w0 W (C::volM f q p S b' (.star A (.starL (blkP a.FM)))::R)→BytesAt W x.2.1 x.2.2):=Lh fun W b' A C hS=>((hS.vm_out).perm (List.Perm.swap _ _ _)).blkP_rd hxF
 obtain⟨i,hi⟩:∃i,i=x.1:=⟨_,rfl⟩;obtain⟨bx,hbx⟩:∃bx,bx=x.2.2:=⟨_,rfl⟩;obtain⟨bd,hbd⟩:∃bd,bd=bk S.D.now (96+x.1):=⟨_,rfl⟩;have hS4:=hS3.vm_in;have hb1:=hby.out _ _ _ _ hS4;obtain⟨Ax,cx,hvx⟩:∃A c,x.2.1= .slice A 512 c:=by obtain⟨_,A,c,e,_⟩:=hb1;rw[hlen]at e;exact⟨A,c,e⟩
 rw[hvx]at hnx hen hby hb1;rw[←hbx]at hb1 hby;rw[←hi]at hnx hen;have hold:=oldM_any (i:=i) hI.reads.ok (by rw[hi];exact hxc.1) ((hS4.perm (List.Perm.swap _ _ _)).drew);have hcv:=conv_bytesV hb1;have hcv':(convert 35 9 (.slice Ax 512 cx)).run Tryz.prog w3.drew= .ok (strV bx) w3.drew:=conv_bytesV (hb1.below ((Below.refl _ _).drew));have i4:(i:Int)≤4096:=by have:=hC'.out.dok.few;omega
 have i0':(0:Int)≤i:=by omega
 have hI':=Lh hI;have hS4':=Lh hS4;replace hold:=Lh hold;have hi':=Lh hi;have hbx':=Lh hbx;have hbd':=Lh hbd;have hvx':=Lh hvx;have hx':=Lh hx;have hxF':=Lh hxF;have hlens:=Lh (And.intro hlen hlenD);clear hI hS3 hS4 hb1 hi hbx hbd hvx hx hxF hxc hlen hlenD hcv;unfold strV at hcv';obtain⟨N,hN⟩:∃N,N=P.length:=⟨_,rfl⟩;have hu2:∃A c,u2= .slice A N c:=by obtain⟨A,c,e⟩:=hI'.out.sep.sl_shape 0 rfl;exact⟨A,c,by rw[e,hN]⟩
 obtain⟨Au,cu,hu2⟩:=hu2;subst hu2;have hN4:N≤4000:=by rw[hN];exact short_puts hI'.out hshort'.out
 have hN':=Lh hN;have hN4':=Lh hN4;clear hN hN4;go_wp2_with fail;refine wp_region_E (S:=fun w'=>(convert 35 9 (.slice Ax 512 cx)).run Tryz.prog w'= .ok (.string ⟨bx.toArray⟩) w') 7 (by kernel_rfl) ?_;simp only[List.size_toArray,List.length_cons,List.length_nil,Nat.reduceAdd];refine wpE_tk (i:=0) (v:=?_) hcv' rfl ?_ ?_;rotate_left
 ·rintro w e1;go_simp;try with_reducible rfl
 simp only[Act.put,gD];refine wpE_tk (i:=1) (v:=?_) hcv' rfl ?_ ?_;rotate_left
 ·rintro w e1;go_simp;try with_reducible rfl
 simp only[Act.put,gD];refine wpE_tk (i:=4) (v:=?_) hcv' rfl ?_ ?_;rotate_left
 ·rintro w e1;go_simp;try with_reducible rfl
 simp only[Act.put,gD];refine wpE_tk (i:=5) (v:=?_) hcv' rfl ?_ ?_;rotate_left
 ·rintro w e1;go_simp;try with_reducible rfl
 simp only[Act.put,gD];refine wpE_one (i:=2) (by kernel_rfl) rfl (fun K hK=>?_);go_simp;go_at_call 136;refine hold.out.mono ?_;rintro e w9 ⟨v9,b2,rfl,hR2,hf2,h9⟩;have hby9:=hby.out _ _ _ _ (h9.perm (List.Perm.swap _ _ _));have hbo:=h9.seen_at hf2 hR2.ok.none;rw[hi'.out,←hbd'.out]at hbo;obtain⟨A9,c9,e9⟩:∃A c,v9= .slice A 512 c:=by obtain⟨_,A,c,e,_⟩:=hbo;rw[hbd'.out,hlens.out.2]at e;exact⟨A,c,e⟩
 subst e9;have hcv9:(convert 35 9 (.slice Ax 512 cx)).run Tryz.prog w9= .ok (.string ⟨bx.toArray⟩) w9:=conv_bytesV hby9;have hco9:(convert 35 9 (.slice A9 512 c9)).run Tryz.prog w9= .ok (.string ⟨bd.toArray⟩) w9:=conv_bytesV hbo;have h9':=Lh (h9.perm (List.Perm.swap _ _ _));have hR2':=Lh hR2;have hf2':=Lh hf2;clear hby9 hbo h9 hold hcv' hR2 hf2;dsimp only;refine hK _ _ (fun _=>hcv9) ?_;clear hK K;try simp only[Act.put,gD]
 refine wpE_one (i:=3) (by kernel_rfl) rfl (fun K hK=>?_);go_simp;refine hK _ _ (fun _=>hcv9) ?_;clear hK K;try simp only[Act.put,gD]
 have hS8:Hid (Sep w0 w9 (.sl 190 2 (.slice Au N cu) N (P.flatMap putC)::volM f q p S b2 (.star (rngA a.fb rb a.FM (delB Ms x.1)) (.starL (blkP a.FM)))::R)):=by rw[hN'.out];have:=h9'.out;rw[hN'.out]at this;exact Lh this
 by_cases hd:bd=bx
 ·(have e1:(bd==bx)=true:=by simpa using hd);(have e2:(bd.toArray==bx.toArray)=true:=by rw[hd];simp);have hd':=Lh hd;clear hd;refine wpE_one (i:=6) (by kernel_rfl) rfl (fun K hK=>?_);go_simp;refine hK _ _ (fun _=>hcv9) ?_;clear hK K;(try simp only[Act.put,gD]);refine wpE_done (by kernel_rfl) ?_ _;go_wp2_with fail;go_roundg (delB Ms x.1).length
  case measure=>exact(hI'.out.perm_next hnd'.out hx'.out).2
  refine Lh ⟨_,V++[x],P,b2,hI'.out.next_same hnd'.out hx'.out ?_ hR2'.out (findB_ne hf2'.out) ?_,rfl⟩
  ·unfold diffB;rw[←hbx'.out,←hbd'.out,hd'.out];simp
  rw[←hN'.out];exact hS8.out
 have e1:(bd==bx)=false:=by simpa using hd
 have e2:(bd.toArray==bx.toArray)=false:=by simpa using hd
 have hd':=Lh hd;clear hd;refine wpE_one (i:=6) (by kernel_rfl) rfl (fun K hK=>?_);go_simp;refine hK _ _ (fun _=>hcv9) ?_;clear hK K;try simp only[Act.put,gD]
 refine wpE_done (by kernel_rfl) ?_ _;go_wp2_with(at_builtin;refine wpList_append_any_sep 0 rfl _ _ 188 rfl 190 i0 _ 2 32 Tryz.underlying188 hknf hz0 hz1 hz2 rfl (by decide) (hS8.out.alloc (.cells #[.int .i64 (i:Nat),.slice Ax 512 cx] 190)) (.slice Au N cu) N (P.flatMap putC) rfl rfl (.slice (some ⟨w9.heap.size,0,none⟩) 1 1) 1 [.int .i64 (i:Nat),.slice Ax 512 cx] rfl ⟨rfl,_,_,rfl,Nat.le_refl _,by unfold maxLen;omega,fun _=>⟨_,rfl,by rw[World.size_alloc];exact Nat.lt_succ_self _,cells_new w9 #[.int .i64 (i:Nat),.slice Ax 512 cx] 190 _ rfl⟩⟩ (by simp[Value.oneCell']) (by have:=hN4'.out;unfold maxLen;omega) (by have:=hN4'.out;omega) ?_;intro v5 w5 hS5 hz5;replace hS5:=Lh hS5);go_roundg (delB Ms x.1).length
 case measure=>exact(hI'.out.perm_next hnd'.out hx'.out).2
 refine Lh ⟨_,V++[x],P++[⟨(i,.slice Ax 512 cx),by omega,Ax,512,cx,rfl⟩],b2,hI'.out.next_diff hnd'.out hx'.out ?_ ?_ hR2'.out (findB_ne hf2'.out) ?_,rfl⟩
 ·unfold diffB;rw[←hbx'.out,←hbd'.out];have:=hd'.out;simp;exact fun e=>this e.symm
 ·(show(i,Value.slice Ax 512 cx)=(x.1,x.2.1));rw[hi'.out,hvx'.out]
 rw[←hN'.out];exact hS5.out
end
structure VR (S:VS) (sb:Option Nat) (SM:BM):Prop where
 dok:S.D.ok S.nb
 big:96<S.nb
 seen:∀x∈SM,x.1<S.nb-96∧x.2.2=bk S.D.now (96+x.1)
 none:sb=none→SM=[]
 back:S.D.back=[]
def restP (f q p:Nat) (S:VS) (sb:Option Nat) (SM:BM) (fo:Option Nat):List Asn:=[fsB f q S sb (.map fo) false,ledgerR q p false,diskR p S.D,seenR sb SM]
def restR (f q p:Nat) (S:VS):Asn:=.ex fun t:Option Nat×BM×Option Nat=>.star (.pure (VR S t.1 t.2.1)) (.starL (restP f q p S t.1 t.2.1 t.2.2))
def goneR (f q p:Nat) (dead:Bool):Asn:=.ex fun t:VS×Option Nat×Option Nat=>.starL [fsB f q t.1 t.2.1 (.map t.2.2) dead,ledgerR q p true]
def VS.base (S:VS):VS:= {S with cur:=S.D.now.drop 96,m:=0}
theorem bk_drop (c:Blks) (i k:Nat):bk (c.drop i) k=bk c (i+k):=by unfold bk;rw[gH,gH,List.getElem?_drop]
theorem BlksOk.drop {n:Nat} {c:Blks} (h:BlksOk n c) (i:Nat):BlksOk (n-i) (c.drop i):=
 ⟨by rw[List.length_drop,h.len],fun b hb=>h.size b (List.mem_of_mem_drop hb)⟩
theorem runD_back :∀ {l:List DAct} {D D':DK},runD (l++[none]) D=(D',true)→D'.back=[]
 |[],D,D',h=>by
  rw[List.nil_append,runD]at h;split at h
  ·cases h
  cases h;exact DK.fl_back D
 |x::l,D,D',h=>by
  rw[List.cons_append,runD]at h;split at h
  ·cases h
  exact runD_back h
theorem commit_back {S:VS} (h:S.commit.2=true) (hb:S.D.back=[]):S.commit.1.back=[]:=by
 unfold VS.commit at h ⊢;split
 ·exact hb
 rename_i hne;rw[if_neg hne]at h;have h1:runD (commitActs (putsP S)) S.D=((runD (commitActs (putsP S)) S.D).1,true):=by rw[←h]
 have e:commitActs (putsP S)=(logActs (putsP S)++(none::some (0,headB ((putsP S).map (·.1)))::none::(putActs (putsP S)++[none,some (0,headB [])])))++[none]:=by unfold commitActs;simp
 rw[e]at h1;have:=runD_back h1;rw[e];exact this
section
variable {w0 w:World} {R:List Asn} {f q p:Nat} {S:VS} {a:VA}
theorem Sep.rest_open (h:Sep w0 w (restR f q p S::R)):∃sb SM fo,VR S sb SM∧Sep w0 w (fsB f q S sb (.map fo) false::ledgerR q p false::diskR p S.D::seenR sb SM::R):=by obtain⟨t,h1⟩:=h.ex_open;obtain⟨h2,h3⟩:=h1.star_open.pure_open;exact⟨t.1,t.2.1,t.2.2,h2,h3.starL_open⟩
theorem Sep.rest_shut {sb:Option Nat} {SM:BM} {fo:Option Nat} (hR:VR S sb SM) (h:Sep w0 w (fsB f q S sb (.map fo) false::ledgerR q p false::diskR p S.D::seenR sb SM::R)):Sep w0 w (restR f q p S::R):=by have h1:Sep w0 w (restP f q p S sb SM fo++R):=h;exact Sep.ex_shut (sb,SM,fo) (Sep.pure_shut hR h1.starL_shut).star_shut
theorem Sep.gone_shut {S:VS} {sb fo:Option Nat} {dead:Bool} (h:Sep w0 w (fsB f q S sb (.map fo) dead::ledgerR q p true::R)):Sep w0 w (goneR f q p dead::R):=
 Sep.ex_shut (S,sb,fo) (Sep.starL_shut (As:=[fsB f q S sb (.map fo) dead,ledgerR q p true]) h)
theorem Sep.gone_open {dead:Bool} (h:Sep w0 w (goneR f q p dead::R)):∃S sb fo,Sep w0 w (fsB f q S sb (.map fo) dead::ledgerR q p true::R):=by obtain⟨t,h1⟩:=h.ex_open;exact⟨t.1,t.2.1,t.2.2,h1.starL_open⟩
theorem settled_rest {a:VA} (h:VCw S a) (hb:S.D.back=[]) (hS:Sep w0 w (volR f q p S a::R)):Sep w0 w (restR f q p S::R):=by have h1:=hS.starL_open;have h2:Sep w0 w (blkM a.fb a.FM::fsB f q S a.sb (.map (some a.fb)) false::ledgerR q p false::diskR p S.D::seenR a.sb a.SM::R):=Sep.sel [4,0,1,2,3] h1 (by decide) (by simp[volP]);exact Sep.rest_shut ⟨⟨h.dok.now,h.dok.fast,h.dok.few,h.dok.some,h.dok.back,h.dok.left⟩,h.big,h.seen,h.none,hb⟩ (h2.drop 1)
theorem undone_rest {S1:VS} {a:VA} {fo:Option Nat} (hL:Like S S1) (h:VC S1 a) (hb:S.D.back=[]) (hS:Sep w0 w (fsB f q S a.sb (.map fo) false::ledgerR q p false::diskR p S1.D::seenR a.sb a.SM::R)):Sep w0 w (restR f q p S::R):=by rw[hL.D]at hS;exact Sep.rest_shut ⟨by have:=h.dok;rw[hL.D,hL.nb]at this;exact this,by have:=h.big;rw[hL.nb]at this;exact this,fun x hx=>by have:=h.seen x hx;rw[hL.D,hL.nb]at this;exact this,h.none,hb⟩ hS
theorem base_vc {sb:Option Nat} {SM:BM} (h:VR S sb SM) (ho:S.D.off=false) (fb:Nat):VC S.base ⟨sb,SM,fb,[]⟩:=
 ⟨h.dok,h.big,ho,h.dok.now.drop 96,h.seen,fun x hx=>absurd hx List.not_mem_nil,fun k hk _=>bk_drop _ _ _,Nat.zero_le _,h.none⟩
theorem assert_stopF (x:Int) (w:World):(Instr.typeAssert (.iface 153 (.agg #[.int .i64 x])) 20 153 true).run Tryz.prog w= .ok (.tuple #[.agg #[.int .i64 x],.bool true]) w:=by kernel_rfl
set_option maxRecDepth 100000 in
set_option maxHeartbeats 1000000 in
theorem told_panicking {be:Nat} {sb:Option Nat} {fv:Value} {dead:Bool} {x y:Int} {older:List PanicEntry} (h:Sep w0 w (fsB f q S sb fv dead::errBox be y::R)):
  CallsD Tryz.prog 41 #[.pointer (some ⟨f,0,none⟩),.pointer (some ⟨be,0,none⟩)] (.panicking ({v:=.iface 153 (.agg #[.int .i64 x]),recovered:=false}::older)) w fun e u' w'=>
   e= .returned (.tuple #[])∧u'= .panicking ({v:=.iface 153 (.agg #[.int .i64 x]),recovered:=true}::older)∧Sep w0 w' (fsB f q S sb fv (decide (x=11)||dead)::errBox be x::R):=by
 refine callsD_of_wpS Tryz.func41 rfl fun c₀ cs hu=>?_
 apply wpS_seq
 apply wpS_region
 simp[wpOpsS,go_sem,recoverD,hu,Tryz.ntmps41,Exit.thenS]
 refine wpS_of_wp ?_
 simp only[List.size_toArray,List.length_cons,List.length_nil,Nat.reduceAdd,Nat.reduceSub,Array.replicate_succ,Array.replicate_zero,List.push_toArray,List.append_toArray,List.nil_append,List.cons_append,gD,List.set_cons_succ,List.set_cons_zero]
 have hta:=assert_stopF x w
 have hA:=h.alloc (.cells #[.int .i64 x] 153)
 have c1:=hA.bC 0 rfl 4
 have f1:=hA.bF 0 rfl 4
 have e0:=hA.bC 1 rfl 0
 have ef:=hA.bF 1 rfl 0
 have hB:=hA.bS 0 rfl 4 (.bool true)
 have b0:=hB.bC 1 rfl 0
 have bf:=hB.bF 1 rfl 0
 have hB2:=hB.bS 1 rfl 0 (.int .i64 x)
 have hA2:=hA.bS 1 rfl 0 (.int .i64 x)
 simp only[gA,gB,gC]at c1 e0 b0
 by_cases hx:x=11
 ·subst hx;go_wp2_with fail;refine⟨rfl,_,rfl,.tuple #[],?_,rfl,rfl,hB2⟩;simp[results,Tryz.results41]
 ·have hx2:(x==11)=false:=beq_eq_false_iff_ne.2 hx;rw[decide_eq_false hx,Bool.false_or];go_wp2_with fail;refine⟨rfl,_,rfl,.tuple #[],?_,rfl,rfl,hA2⟩;simp[results,Tryz.results41]
theorem told_returning (a b:Value) (w:World):
  CallsD Tryz.prog 41 #[a,b] .returning w fun e u' w'=>e= .returned (.tuple #[])∧u'= .returning∧w'=w:=by
 refine callsD_of_wpS Tryz.func41 rfl fun c₀ cs hu=>?_
 apply wpS_seq;apply wpS_region;simp[wpOpsS,go_sem,recoverD,hu,Tryz.ntmps41,Exit.thenS];refine wpS_of_wp ?_;simp only[List.size_toArray,List.length_cons,List.length_nil,Nat.reduceAdd,Nat.reduceSub,Array.replicate_succ,Array.replicate_zero,List.push_toArray,List.append_toArray,List.nil_append,List.cons_append,gD,List.set_cons_succ,List.set_cons_zero];go_wp2_with fail;refine⟨rfl,.returning,?_,.tuple #[],?_,rfl,rfl,rfl⟩
 ·cases c₀;simp at hu;subst hu;rfl
 simp[results,Tryz.results41]
theorem told_door {be:Nat} {sb:Option Nat} {fv:Value} {dead:Bool} {x y:Int} {fn:Func} {tmps:Array Value} {Post:Ending→World→Prop} {ds:List Deferred} (h:Sep w0 w (fsB f q S sb fv dead::errBox be y::R))
  (hK:∀w',Sep w0 w' (fsB f q S sb fv (decide (x=11)||dead)::errBox be x::R)→Leaves Tryz.prog fn tmps Post ds .returning w'):
  Leaves Tryz.prog fn tmps Post ({target:=.fn (.func 41) #[],args:=#[.pointer (some ⟨f,0,none⟩),.pointer (some ⟨be,0,none⟩)]}::ds) (.panicking (stopF x)) w:=by
 refine leaves_cons (f:=41) (args:=#[.pointer (some ⟨f,0,none⟩),.pointer (some ⟨be,0,none⟩)]) (by simp) (by simp[go_sem]) ?_;refine(told_panicking h).mono ?_;rintro e u' w' ⟨rfl,rfl,hS⟩;exact hK w' hS
theorem told_door_ret {a b:Value} {fn:Func} {tmps:Array Value} {Post:Ending→World→Prop} {ds:List Deferred} (hK:Leaves Tryz.prog fn tmps Post ds .returning w):
  Leaves Tryz.prog fn tmps Post ({target:=.fn (.func 41) #[],args:=#[a,b]}::ds) .returning w:=by
 refine leaves_cons (f:=41) (args:=#[a,b]) (by simp) (by simp[go_sem]) ?_;refine(told_returning a b w).mono ?_;rintro e u' w' ⟨rfl,rfl,rfl⟩;exact hK
end
section
variable {w0 w:World} {R:List Asn} {f q p:Nat} {S:VS} {a:VA}
set_option maxRecDepth 100000 in
set_option maxHeartbeats 1000000 in
theorem awake_on (ho:S.D.off=false) (h:Sep w0 w (restR f q p S::R)):
  Calls Tryz.prog 42 #[.pointer (some ⟨f,0,none⟩)] w fun e w'=>e= .returned (.tuple #[])∧∃a',VC S.base a'∧Sep w0 w' (volR f q p S.base a'::R):=by
 obtain⟨sb,SM,fo,hR,h1⟩:=h.rest_open;have c0:=h1.bC 0 rfl 0;have c4:=h1.bC 0 rfl 4;simp only[gA,gB,gC]at c0 c4;have hsy:=lsync_any (q:=q) (p:=p) (dead:=false) (R:=fsB f q S sb (.map fo) false::seenR sb SM::R) hR.dok (Sep.sel [1,2,0,3] h1 (by decide) (by simp));rw[ho]at hsy;simp only[Bool.or_false,Bool.false_eq_true,if_false]at hsy;have hend:Hid (∀W,Sep w0 W (ledgerR q p false::diskR p S.D::fsB f q S sb (.map fo) false::seenR sb SM::R)→(W.alloc (.map #[] 0)).frozen? ⟨f,2,none⟩=false∧(W.alloc (.map #[] 0)).cell? ⟨f,2,none⟩=some (.map fo)∧∃a',VC S.base a'∧Sep w0 ((W.alloc (.map #[] 0)).setCell ⟨f,2,none⟩ (.map (some W.heap.size))) (volR f q p S.base a'::R)):=Lh fun W hW=>by have h3:=hW.blk_new;have h4:=h3.bS 3 rfl 2 (.map (some W.heap.size));refine⟨h3.bF 3 rfl 2,h3.bC 3 rfl 2,_,base_vc hR ho W.heap.size,?_⟩;have h5:Sep w0 ((W.alloc (.map #[] 0)).setCell ⟨f,2,none⟩ (.map (some W.heap.size))) (volP f q p S.base ⟨sb,SM,W.heap.size,[]⟩++R):=Sep.sel [3,1,2,4,0] h4 (by decide) (by simp);exact h5.starL_shut
 have hmm:= @run_makeMap Tryz.prog;clear h h1 hR ho;go_enter Tryz.func42,Tryz.ntmps42;go_wp2_with(first |(go_at_call 76;refine hsy.mono ?_;rintro e w9 ⟨rfl,h9⟩;obtain⟨f2,k2,he⟩:=hend.out _ h9;replace he:=Lh he;clear hsy hend h9)|(go_at_call 43;refine(smust_any _ _).mono ?_;rintro e w8 ⟨rfl,h8⟩;obtain rfl:=h8.symm))
 go_end0
 exact⟨rfl,he.out⟩
end
end Go.Proofs.YteihmbaimbogaaaGreat
