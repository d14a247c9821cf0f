/- LooseW, Held, ModelW, laid together. -/
import Derived.Test.YtimkjnbihlgbiaaGreatJ10
import Derived.IntWalk
namespace Go.Proofs.YtimkjnbihlgbiaaGreat
open Go.RowKit
set_option linter.unusedVariables false
set_option maxRecDepth 100000 in
set_option maxHeartbeats 4000000 in
theorem loose_any {w:World} {nv fv:Value} {ns:List TN} {fs:List TF} {vs:List Value} (h:TreeAt w nv fv ns fs vs) (hm:TreeSm ns fs):
  Calls Tryz.prog 18 #[.agg #[nv,fv]] w fun e w'=>e= .returned (.int .i64 (looseP ns fs))∧Below w.heap.size w w':=by
 have hS0:=(Sep.nil w).bN 25 #[nv,fv];have hbo:=Lh (bound_any (h.below hS0.below) hm);obtain⟨A1,c1,rfl,hm1⟩:=h.nodes.shape;obtain⟨A2,c2,rfl,hm2⟩:=h.files.shape;have hS0':=Lh hS0;have h':=Lh h;have hm':=Lh hm;have hf:=hm.few;have hf2:=hm.few2;have b0:(ns.length:Int)≤300:=by omega
 have b00:(fs.length:Int)≤300:=by omega
 have hmm:= @run_makeMap Tryz.prog;clear h hm hS0;cases hbd:boundP ns fs with
 |true=>rw[hbd]at hbo;(have e0:looseP ns fs=31:=by unfold looseP;rw[hbd];rfl);rw[e0];clear e0 hbd;go_enter Tryz.func18,Tryz.ntmps18;go_wp2_with fail;refine wp_scope_labels (fun _=>.skip) (fun _ _ _ _=>False) (fun _ _ _ _ h=>h.elim) ?_ (fun _ _ _ _ h=>h.elim);go_wp2_with(go_at_call 37;refine hbo.out.mono ?_;rintro e w1 ⟨rfl,hb1⟩;(have hS1:=Lh (hS0'.out.pure hb1));clear hb1);simp only[Jumps];go_ret;exact⟨rfl,hS1.out.below⟩
 |false=>
  rw[hbd]at hbo;have hbd':=Lh hbd;clear hbd;go_enter Tryz.func18,Tryz.ntmps18;go_wp2_with fail;refine wp_scope_labels (fun _=>?rest) (fun _ l a w'=>l=0∧Fm 94 a []∧looseP ns fs=30∧Below w.heap.size w w') ?hf ?first ?pass
  case hf=>rintro m l a w' ⟨rfl,_⟩;rfl
  case pass=>rintro m l a w' ⟨rfl,hF,hL,hB⟩;have hL':=Lh hL;clear hL;obtain⟨f,rfl⟩:=hF.lit (m:=94) rfl;simp only[lits,Nat.reduceAdd,List.nil_append];go_wp2_with fail;simp only[Jumps];go_ret;exact⟨by rw[hL'.out];rfl,hB⟩
  go_wp2_with(go_at_call 37;refine hbo.out.mono ?_;rintro e w1 ⟨rfl,hb1⟩;(have hS1:=(hS0'.out.pure hb1).gmap_new 9);obtain⟨w2,hmu,hS2⟩:=hS1.gmap_put 0 rfl keyed_str Tryz.underlying86 (by unfold maxLen;omega) (v:=.int .i64 1) (keyOf_strV [] (by simp));(have d0:w2.cell? ⟨w.heap.size,0,none⟩=some (.slice A1 ns.length c1):=by rw[hS2.bC 1 rfl 0];rfl);(have d1:w2.cell? ⟨w.heap.size,1,none⟩=some (.slice A2 fs.length c2):=by rw[hS2.bC 1 rfl 1];rfl);simp only[strV]at hmu;(have hS2':=Lh hS2);clear hS1 hS2 hb1);generalize hb9:w1.heap.size=b at hS2' ⊢;clear hb9 hmu hbo hmm;go_loopw[4,5,17] (fun fl la iv wr=>∃(i k m:Nat) (L:List (Lit×Value)),i≤ns.length∧iv= .int .i64 i∧fl= .int .i64 k∧la=strV (lastQ ns i)∧m≤2*i+1∧Hid (runK ns i=some k)∧Hid (KindsOk L (ns.take i))∧Sep w wr [gmapR 9 b m L,.box w.heap.size 25 #[.slice A1 ns.length c1,.slice A2 fs.length c2]]) (fun _ _ iv _=>ns.length-(intOf iv).toNat)
  case atStart=>exact⟨0,0,1,_,Nat.zero_le _,rfl,rfl,rfl,by omega,Lh rfl,Lh kinds_start,hS2'.out⟩
  obtain⟨i,k,m,L,hi,rfl,rfl,rfl,hm,hrun,hkk,hS⟩:=hrel;(have q1:(0:Int)≤(i:Int):=by omega);have hki:k≤i:=runK_le _ _ hrun.out;by_cases hlt:i<ns.length
  ·(have q2:(i:Int)<(ns.length:Int):=by omega);obtain⟨g,o,c,e,hc,hcm,hg,hcell⟩:=h'.out.nodes.place (by omega) (by decide);simp only[Value.slice.injEq]at e;obtain⟨rfl,_,rfl⟩:=e;obtain⟨n,he⟩:∃n,ns[i]? =some n:=⟨_,gE hlt⟩;have x0:=(hcell wr hS.below (i*3) (by omega)).trans (tnCells_at he 0 (by omega));have x1:=(hcell wr hS.below (i*3+1) (by omega)).trans (tnCells_at he 1 (by omega));have x2:=(hcell wr hS.below (i*3+2) (by omega)).trans (tnCells_at he 2 (by omega));simp only[tnC,strV,gB,gC,←Nat.add_assoc]at x0 x1 x2;have hX:=Lh (hS.bN 51 #[strV n.path,.int .i64 n.file,.int .i64 n.mode]);have hlen:=hm'.out.short n (gG he);(have hva:=fun W=>valid_any ⟨n.path.toArray⟩ W (by rw[strV_size];omega));simp only at hva;(have hpa:=fun W=>parent_any (p:=n.path) (by omega) W);(have hsh:n.path.length≤maxLen:=by unfold maxLen;omega);(have hshp:(parentL n.path).length≤maxLen:=by have:=parentL_len n.path;omega);have hpa':=Lh hpa;(have h30:Hid (nodeOk (ns.take i) (lastQ ns i) k n=false→looseP ns fs=30):=fun ho=>loose_30 hbd'.out hrun.out he ho);(have hnx:Hid (nodeOk (ns.take i) (lastQ ns i) k n=true→runK ns (i+1)=some (nextK k n)):=fun ho=>by rw[runK_succ hrun.out he,ho,if_pos rfl]);(have hlast:Hid (lastQ ns (i+1)=n.path):=by show((ns[i]?).map (·.path)).getD []=_;rw[he];rfl);(have htk:Hid (ns.take (i+1)=ns.take i++[n]):=by show _=_;rw[List.take_add_one,he];rfl);have hkd:=Lh (hkk.out (parentL n.path));clear hS hcell hpa he;unfold strV at*;cases hval:validL n.path with
   |false=>rw[hval]at hva;have hva':=Lh hva;(have hno:nodeOk (ns.take i) (lastQ ns i) k n=false:=by unfold nodeOk;rw[hval];rfl);clear hva hval;go_wp2_with(go_at_call 38;refine(hva'.out _).mono ?_;rintro e3 w3 ⟨rfl,hb3⟩;(have hX3:=hX.out.pure hb3);(have y0:=hX3.bC 0 rfl 0);(have y1:=hX3.bC 0 rfl 1);simp only[gA,gB,gC]at y0 y1;(have hX3':=Lh hX3);clear hX3 hb3);refine wp_goto ?_;exact⟨0,rfl,⟨rfl,rfl,rfl⟩,h30.out hno,hX3'.out.below⟩
   |true=>
    rw[hval]at hva;have hva':=Lh hva;have hval':=Lh hval;clear hva hval;cases hle:leB n.path (lastQ ns i)with
    |true=>have hle2:(Op.bytesLess n.path (lastQ ns i)||n.path==lastQ ns i)=true:=hle;(have hno:nodeOk (ns.take i) (lastQ ns i) k n=false:=by unfold nodeOk;rw[hval'.out,hle];rfl);clear hle;go_wp2_with(go_at_call 38;refine(hva'.out _).mono ?_;rintro e3 w3 ⟨rfl,hb3⟩;(have hX3:=hX.out.pure hb3);(have y0:=hX3.bC 0 rfl 0);(have y1:=hX3.bC 0 rfl 1);simp only[gA,gB,gC]at y0 y1;(have hX3':=Lh hX3);clear hX3 hb3);refine wp_goto ?_;exact⟨0,rfl,⟨rfl,rfl,rfl⟩,h30.out hno,hX3'.out.below⟩
    |false=>
     have hle2:(Op.bytesLess n.path (lastQ ns i)||n.path==lastQ ns i)=false:=hle;have hle':=Lh hle;clear hle;by_cases hk1:kindP (ns.take i) (parentL n.path)=1
     case neg=>(have hk2:(kindP (ns.take i) (parentL n.path)==1)=false:=by simpa using hk1);(have hk3:decide (kindP (ns.take i) (parentL n.path)=1)=false:=by simpa using hk1);(have hno:nodeOk (ns.take i) (lastQ ns i) k n=false:=by unfold nodeOk;rw[hval'.out,hle'.out,hk3];rfl);clear hk3;go_wp2_with(first |(go_at_call 38;refine(hva'.out _).mono ?_;rintro e3 w3 ⟨rfl,hb3⟩;(have hX3:=hX.out.pure hb3);(have y0:=hX3.bC 0 rfl 0);(have y1:=hX3.bC 0 rfl 1);simp only[gA,gB,gC]at y0 y1;(have hX3':=Lh hX3);clear hX3 hb3)|(go_at_call 39;refine(hpa'.out _).mono ?_;rintro e4 w4 ⟨rfl,hb4⟩;(have hX4:=hX3'.out.pure hb4);(have z0:=hX4.bC 0 rfl 0);(have z1:=hX4.bC 0 rfl 1);(have z2:=hX4.bC 0 rfl 2);(have hlk:=hX4.gmap_look 1 rfl keyed_str Tryz.underlying86 (zero_int' _) (keyOf_strV (parentL n.path) hshp));rw[hkd.out]at hlk;skip;simp only[gA,gB,gC,strV]at z0 z1 z2 hlk;(have hX4':=Lh hX4);clear hX4 hb4 y0 y1));refine wp_goto ?_;exact⟨0,rfl,⟨rfl,rfl,rfl⟩,h30.out hno,hX4'.out.below⟩
     rw[hk1]at hkd;by_cases hf1:n.file< -1
     case pos=>(have hf2:decide (-1≤n.file)=false:=by simp;omega);(have hno:nodeOk (ns.take i) (lastQ ns i) k n=false:=by unfold nodeOk;rw[hval'.out,hle'.out,hk1,hf2];rfl);clear hf2 hk1;go_wp2_with(first |(go_at_call 38;refine(hva'.out _).mono ?_;rintro e3 w3 ⟨rfl,hb3⟩;(have hX3:=hX.out.pure hb3);(have y0:=hX3.bC 0 rfl 0);(have y1:=hX3.bC 0 rfl 1);simp only[gA,gB,gC]at y0 y1;(have hX3':=Lh hX3);clear hX3 hb3)|(go_at_call 39;refine(hpa'.out _).mono ?_;rintro e4 w4 ⟨rfl,hb4⟩;(have hX4:=hX3'.out.pure hb4);(have z0:=hX4.bC 0 rfl 0);(have z1:=hX4.bC 0 rfl 1);(have z2:=hX4.bC 0 rfl 2);(have hlk:=hX4.gmap_look 1 rfl keyed_str Tryz.underlying86 (zero_int' _) (keyOf_strV (parentL n.path) hshp));rw[hkd.out]at hlk;skip;simp only[gA,gB,gC,strV]at z0 z1 z2 hlk;(have hX4':=Lh hX4);clear hX4 hb4 y0 y1));refine wp_goto ?_;exact⟨0,rfl,⟨rfl,rfl,rfl⟩,h30.out hno,hX4'.out.below⟩
     by_cases hf3:(k:Int)<n.file
     case pos=>(have hf2:decide (n.file≤(k:Int))=false:=by simp;omega);(have hno:nodeOk (ns.take i) (lastQ ns i) k n=false:=by unfold nodeOk;rw[hval'.out,hle'.out,hk1,hf2];simp);clear hf2 hk1;go_wp2_with(first |(go_at_call 38;refine(hva'.out _).mono ?_;rintro e3 w3 ⟨rfl,hb3⟩;(have hX3:=hX.out.pure hb3);(have y0:=hX3.bC 0 rfl 0);(have y1:=hX3.bC 0 rfl 1);simp only[gA,gB,gC]at y0 y1;(have hX3':=Lh hX3);clear hX3 hb3)|(go_at_call 39;refine(hpa'.out _).mono ?_;rintro e4 w4 ⟨rfl,hb4⟩;(have hX4:=hX3'.out.pure hb4);(have z0:=hX4.bC 0 rfl 0);(have z1:=hX4.bC 0 rfl 1);(have z2:=hX4.bC 0 rfl 2);(have hlk:=hX4.gmap_look 1 rfl keyed_str Tryz.underlying86 (zero_int' _) (keyOf_strV (parentL n.path) hshp));rw[hkd.out]at hlk;skip;simp only[gA,gB,gC,strV]at z0 z1 z2 hlk;(have hX4':=Lh hX4);clear hX4 hb4 y0 y1));refine wp_goto ?_;exact⟨0,rfl,⟨rfl,rfl,rfl⟩,h30.out hno,hX4'.out.below⟩
     (have hhead:Hid (nodeOk (ns.take i) (lastQ ns i) k n=if n.file= -1 then modeOk n.mode else decide (n.mode=0)):=by(show _=_);unfold nodeOk;rw[hval'.out,hle'.out,hk1,show decide (-1≤n.file)=true by simp;omega,show decide (n.file≤(k:Int))=true by simp;omega];simp);clear hk1;by_cases hd:n.file= -1
     ·(have hmd:=fun W=>mode_any n.mode W);have hmo:(decide (0≤n.mode)&&decide (n.mode≤511))=modeOk n.mode:=rfl;simp only[hmo]at hmd;have hd':=Lh hd;(have hd2:(n.file== -1)=true:=by simpa using hd);clear hd;have hd:=hd';cases hmv:modeOk n.mode with
      |false=>rw[hmv]at hmd;have hmd':=Lh hmd;(have hno:nodeOk (ns.take i) (lastQ ns i) k n=false:=by rw[hhead.out,if_pos hd.out,hmv]);clear hmd hmv hmo;go_wp2_with(first |(go_at_call 38;refine(hva'.out _).mono ?_;rintro e3 w3 ⟨rfl,hb3⟩;(have hX3:=hX.out.pure hb3);(have y0:=hX3.bC 0 rfl 0);(have y1:=hX3.bC 0 rfl 1);simp only[gA,gB,gC]at y0 y1;(have hX3':=Lh hX3);clear hX3 hb3)|(go_at_call 39;refine(hpa'.out _).mono ?_;rintro e4 w4 ⟨rfl,hb4⟩;(have hX4:=hX3'.out.pure hb4);(have z0:=hX4.bC 0 rfl 0);(have z1:=hX4.bC 0 rfl 1);(have z2:=hX4.bC 0 rfl 2);(have hlk:=hX4.gmap_look 1 rfl keyed_str Tryz.underlying86 (zero_int' _) (keyOf_strV (parentL n.path) hshp));rw[hkd.out]at hlk;obtain⟨w5,hup,hX5⟩:=hX4.gmap_put 1 rfl keyed_str Tryz.underlying86 (by unfold maxLen;omega) (v:=.int .i64 2) (keyOf_strV n.path hsh);(have u0:=hX5.bC 0 rfl 0);(have u1:=hX5.bC 0 rfl 1);(have u2:=hX5.bC 0 rfl 2);obtain⟨w6,hup2,hX6⟩:=hX5.gmap_put 1 rfl keyed_str Tryz.underlying86 (by unfold maxLen;omega) (v:=.int .i64 1) (keyOf_strV n.path hsh);(have r0:=hX6.bC 0 rfl 0);(have r1:=hX6.bC 0 rfl 1);(have r2:=hX6.bC 0 rfl 2);(have hX6':=Lh hX6);clear hX5 hX6;simp only[gA,gB,gC,strV]at z0 z1 z2 u0 u1 u2 r0 r1 r2 hlk hup hup2;(have hX4':=Lh hX4);clear hX4 hb4 y0 y1)|(go_at_call 40;refine(hmd'.out _).mono ?_;rintro e7 w7 ⟨rfl,hw7⟩;subst hw7));refine wp_goto ?_;exact⟨0,rfl,⟨rfl,rfl,rfl⟩,h30.out hno,hX6'.out.below⟩
      |true=>
       rw[hmv]at hmd;have hmd':=Lh hmd;have hyes:=hnx.out (by rw[hhead.out,if_pos hd.out,hmv]);(have hnk:nextK k n=k:=by unfold nextK;rw[if_neg (by have:=hd.out;omega)]);rw[hnk]at hyes;have hyes':=Lh hyes;clear hmd hmv hmo hyes hnk;go_wp2_with(first |(go_at_call 38;refine(hva'.out _).mono ?_;rintro e3 w3 ⟨rfl,hb3⟩;(have hX3:=hX.out.pure hb3);(have y0:=hX3.bC 0 rfl 0);(have y1:=hX3.bC 0 rfl 1);simp only[gA,gB,gC]at y0 y1;(have hX3':=Lh hX3);clear hX3 hb3)|(go_at_call 39;refine(hpa'.out _).mono ?_;rintro e4 w4 ⟨rfl,hb4⟩;(have hX4:=hX3'.out.pure hb4);(have z0:=hX4.bC 0 rfl 0);(have z1:=hX4.bC 0 rfl 1);(have z2:=hX4.bC 0 rfl 2);(have hlk:=hX4.gmap_look 1 rfl keyed_str Tryz.underlying86 (zero_int' _) (keyOf_strV (parentL n.path) hshp));rw[hkd.out]at hlk;obtain⟨w5,hup,hX5⟩:=hX4.gmap_put 1 rfl keyed_str Tryz.underlying86 (by unfold maxLen;omega) (v:=.int .i64 2) (keyOf_strV n.path hsh);(have u0:=hX5.bC 0 rfl 0);(have u1:=hX5.bC 0 rfl 1);(have u2:=hX5.bC 0 rfl 2);obtain⟨w6,hup2,hX6⟩:=hX5.gmap_put 1 rfl keyed_str Tryz.underlying86 (by unfold maxLen;omega) (v:=.int .i64 1) (keyOf_strV n.path hsh);(have r0:=hX6.bC 0 rfl 0);(have r1:=hX6.bC 0 rfl 1);(have r2:=hX6.bC 0 rfl 2);(have hX6':=Lh hX6);clear hX5 hX6;simp only[gA,gB,gC,strV]at z0 z1 z2 u0 u1 u2 r0 r1 r2 hlk hup hup2;(have hX4':=Lh hX4);clear hX4 hb4 y0 y1)|(go_at_call 40;refine(hmd'.out _).mono ?_;rintro e7 w7 ⟨rfl,hw7⟩;subst hw7));go_roundw
       case rel=>exact⟨i+1,k,m+2,_,by omega,by go_num,rfl,by rw[hlast.out],by omega,hyes',by show KindsOk _ _;rw[htk.out];exact kinds_dir hkk.out hd.out,Sep.drop 1 hX6'.out⟩
       case measure=>simp[intOf];omega
     have hd':=Lh hd;(have hd2:(n.file== -1)=false:=by simpa using hd);by_cases hm0:n.mode=0
     case neg=>(have hno:nodeOk (ns.take i) (lastQ ns i) k n=false:=by rw[hhead.out,if_neg hd];simpa using hm0);(have hm2:(n.mode !=0)=true:=by simpa using hm0);go_wp2_with(first |(go_at_call 38;refine(hva'.out _).mono ?_;rintro e3 w3 ⟨rfl,hb3⟩;(have hX3:=hX.out.pure hb3);(have y0:=hX3.bC 0 rfl 0);(have y1:=hX3.bC 0 rfl 1);simp only[gA,gB,gC]at y0 y1;(have hX3':=Lh hX3);clear hX3 hb3)|(go_at_call 39;refine(hpa'.out _).mono ?_;rintro e4 w4 ⟨rfl,hb4⟩;(have hX4:=hX3'.out.pure hb4);(have z0:=hX4.bC 0 rfl 0);(have z1:=hX4.bC 0 rfl 1);(have z2:=hX4.bC 0 rfl 2);(have hlk:=hX4.gmap_look 1 rfl keyed_str Tryz.underlying86 (zero_int' _) (keyOf_strV (parentL n.path) hshp));rw[hkd.out]at hlk;obtain⟨w5,hup,hX5⟩:=hX4.gmap_put 1 rfl keyed_str Tryz.underlying86 (by unfold maxLen;omega) (v:=.int .i64 2) (keyOf_strV n.path hsh);(have u0:=hX5.bC 0 rfl 0);(have u1:=hX5.bC 0 rfl 1);(have u2:=hX5.bC 0 rfl 2);(have hX5':=Lh hX5);clear hX5;simp only[gA,gB,gC,strV]at z0 z1 z2 u0 u1 u2 hlk hup;(have hX4':=Lh hX4);clear hX4 hb4 y0 y1));refine wp_goto ?_;exact⟨0,rfl,⟨rfl,rfl,rfl⟩,h30.out hno,hX5'.out.below⟩
     (have hm2:(n.mode !=0)=false:=by simp[hm0]);have hyes:=hnx.out (by rw[hhead.out,if_neg hd];simpa using hm0);clear hm0;by_cases hfk:n.file=(k:Int)
     ·(have hnk:nextK k n=k+1:=by unfold nextK;rw[if_pos hfk]);(have hfk2:(n.file==(k:Int))=true:=by simpa using hfk);clear hfk;rw[hnk]at hyes;have hyes':=Lh hyes;have hw1:IntKind.i64.wrap ((k:Int)+1)=(k:Int)+1:=IntWalk.i64_in _ (by omega);clear hyes hnk;go_wp2_with(first |(go_at_call 38;refine(hva'.out _).mono ?_;rintro e3 w3 ⟨rfl,hb3⟩;(have hX3:=hX.out.pure hb3);(have y0:=hX3.bC 0 rfl 0);(have y1:=hX3.bC 0 rfl 1);simp only[gA,gB,gC]at y0 y1;(have hX3':=Lh hX3);clear hX3 hb3)|(go_at_call 39;refine(hpa'.out _).mono ?_;rintro e4 w4 ⟨rfl,hb4⟩;(have hX4:=hX3'.out.pure hb4);(have z0:=hX4.bC 0 rfl 0);(have z1:=hX4.bC 0 rfl 1);(have z2:=hX4.bC 0 rfl 2);(have hlk:=hX4.gmap_look 1 rfl keyed_str Tryz.underlying86 (zero_int' _) (keyOf_strV (parentL n.path) hshp));rw[hkd.out]at hlk;obtain⟨w5,hup,hX5⟩:=hX4.gmap_put 1 rfl keyed_str Tryz.underlying86 (by unfold maxLen;omega) (v:=.int .i64 2) (keyOf_strV n.path hsh);(have u0:=hX5.bC 0 rfl 0);(have u1:=hX5.bC 0 rfl 1);(have u2:=hX5.bC 0 rfl 2);(have hX5':=Lh hX5);clear hX5;simp only[gA,gB,gC,strV]at z0 z1 z2 u0 u1 u2 hlk hup;(have hX4':=Lh hX4);clear hX4 hb4 y0 y1));go_roundw
      case rel=>exact⟨i+1,k+1,m+1,_,by omega,by go_num,by go_num,by rw[hlast.out],by omega,hyes',by show KindsOk _ _;rw[htk.out];exact kinds_file hkk.out hd'.out,Sep.drop 1 hX5'.out⟩
      case measure=>simp[intOf];omega
     (have hnk:nextK k n=k:=by unfold nextK;rw[if_neg hfk]);rw[hnk]at hyes;have hyes':=Lh hyes;(have hfk2:(n.file==(k:Int))=false:=by simpa using hfk);clear hyes hnk;go_wp2_with(first |(go_at_call 38;refine(hva'.out _).mono ?_;rintro e3 w3 ⟨rfl,hb3⟩;(have hX3:=hX.out.pure hb3);(have y0:=hX3.bC 0 rfl 0);(have y1:=hX3.bC 0 rfl 1);simp only[gA,gB,gC]at y0 y1;(have hX3':=Lh hX3);clear hX3 hb3)|(go_at_call 39;refine(hpa'.out _).mono ?_;rintro e4 w4 ⟨rfl,hb4⟩;(have hX4:=hX3'.out.pure hb4);(have z0:=hX4.bC 0 rfl 0);(have z1:=hX4.bC 0 rfl 1);(have z2:=hX4.bC 0 rfl 2);(have hlk:=hX4.gmap_look 1 rfl keyed_str Tryz.underlying86 (zero_int' _) (keyOf_strV (parentL n.path) hshp));rw[hkd.out]at hlk;obtain⟨w5,hup,hX5⟩:=hX4.gmap_put 1 rfl keyed_str Tryz.underlying86 (by unfold maxLen;omega) (v:=.int .i64 2) (keyOf_strV n.path hsh);(have u0:=hX5.bC 0 rfl 0);(have u1:=hX5.bC 0 rfl 1);(have u2:=hX5.bC 0 rfl 2);(have hX5':=Lh hX5);clear hX5;simp only[gA,gB,gC,strV]at z0 z1 z2 u0 u1 u2 hlk hup;(have hX4':=Lh hX4);clear hX4 hb4 y0 y1));go_roundw
     case rel=>exact⟨i+1,k,m+1,_,by omega,by go_num,rfl,by rw[hlast.out],by omega,hyes',by show KindsOk _ _;rw[htk.out];exact kinds_file hkk.out hd'.out,Sep.drop 1 hX5'.out⟩
     case measure=>simp[intOf];omega
  (obtain rfl:i=ns.length:=by omega);have t0:=hS.bC 1 rfl 1;simp only[gA,gB,gC]at t0;have hS9:=Lh hS;unfold strV at*;clear hS;by_cases hkf:k=fs.length
  case neg=>have hno:=loose_30' hbd'.out (fun h=>hkf (by have h1:=hrun.out.symm.trans h.1;cases h1;rfl));have hno':=Lh hno;(have hk2:((k:Int) !=(fs.length:Int))=true:=by simp;omega);clear hno;go_wp2_with fail;refine wp_goto ?_;exact⟨0,rfl,⟨rfl,rfl,rfl⟩,hno'.out,hS9.out.below⟩
  (have hk2:((k:Int) !=(fs.length:Int))=false:=by simp[hkf]);rw[hkf]at hrun;clear hkf;go_wp2_with fail;go_loopw[85] (fun iv wr2=>∃j:Nat,j≤fs.length∧iv= .int .i64 j∧Hid (∀f∈fs.take j,modeOk f.mode=true)∧Below w.heap.size w wr2) (fun iv _=>fs.length-(intOf iv).toNat)
  case atStart=>exact⟨0,Nat.zero_le _,rfl,(fun f hf=>by simp at hf),hS9.out.below⟩
  obtain⟨j,hj,rfl,hmo,hb⟩:=hrel;(have q1:(0:Int)≤(j:Int):=by omega);have hb':=Lh hb;by_cases hlt:j<fs.length
  ·(have q2:(j:Int)<(fs.length:Int):=by omega);obtain⟨g,o,c,e,hc,hcm,hg,hcell⟩:=h'.out.files.place (by omega) (by decide);simp only[Value.slice.injEq]at e;obtain⟨rfl,_,rfl⟩:=e;obtain⟨f,he⟩:∃f,fs[j]? =some f:=⟨_,gE hlt⟩;obtain⟨u,hu⟩:∃u,vs[j]? =some u:=⟨_,gE (by rw[h'.out.len];exact hlt)⟩;have c0:=(hcell _ hb (j*2) (by omega)).trans (tfCells_at he hu 0 (by omega));have c1':=(hcell _ hb (j*2+1) (by omega)).trans (tfCells_at he hu 1 (by omega));simp only[tfC,gB,gC,←Nat.add_assoc]at c0 c1';obtain⟨A,c9,rfl,_⟩:=(h'.out.data j u f hu he).shape;(have hmd:=fun W=>mode_any f.mode W);have hmo2:(decide (0≤f.mode)&&decide (f.mode≤511))=modeOk f.mode:=rfl;simp only[hmo2]at hmd;have he':=Lh he;clear hcell he hu hb hmo2;cases hmv:modeOk f.mode with
   |false=>rw[hmv]at hmd;have hmd':=Lh hmd;have hno':=Lh (loose_30' hbd'.out (fun h=>by have:=List.all_eq_true.1 h.2 f (gG he'.out);rw[hmv]at this;cases this));clear hmd hmv;go_wp2_with(go_at_call 40;refine(hmd'.out _).mono ?_;rintro e3 w3 ⟨rfl,hw3⟩;subst hw3);refine wp_goto ?_;exact⟨0,rfl,⟨rfl,rfl,rfl⟩,hno'.out,hb'.out.alloc hb'.out.size _⟩
   |true=>
    rw[hmv]at hmd;have hmd':=Lh hmd;have hmo3:Hid (∀g∈fs.take (j+1),modeOk g.mode=true):=fun g hg=>by
     rw[List.take_add_one,he'.out]at hg;rcases List.mem_append.1 hg with hg|hg
     ·exact hmo.out g hg
     (have:g=f:=by simpa using hg);rw[this];exact hmv
    clear hmd hmv hmo;go_wp2_with(go_at_call 40;refine(hmd'.out _).mono ?_;rintro e3 w3 ⟨rfl,hw3⟩;subst hw3);exact⟨⟨j+1,by omega,by go_num,hmo3,hb'.out.alloc hb'.out.size _⟩,by simp[intOf];omega⟩
  (obtain rfl:j=fs.length:=by omega);have h00:=Lh (loose_0 hbd'.out hrun.out (List.all_eq_true.2 fun f hf=>hmo.out f (by rw[List.take_length];exact hf)));clear hb hmo;go_wp2_with fail;simp only[Jumps];go_ret;exact⟨by rw[h00.out];rfl,hb'.out⟩
end Go.Proofs.YtimkjnbihlgbiaaGreat
namespace Go.Proofs.YtimkjnbihlgbiaaGreat
open Go
section
variable {P:Program} {ops:Array Oper} {Q:Exit→Act→World→Prop} {md:Region.Mode} {S:World→Prop} {z:Nat}
def wpE (P:Program) (md:Region.Mode) (ops:Array Oper) (Q:Exit→Act→World→Prop) (S:World→Prop) (z:Nat):Nat→Array Bool→Act→World→Prop
 |0,l,a,w=>Region.ready md ops l=[]∧Q .normal a w
 |f+1,l,a,w=>
  (Region.ready md ops l=[]→Q .normal a w)∧
  ∀i∈Region.ready md ops l,wpOp P ops Q i (fun a' w'=>(i≠z→S w')∧wpE P md ops Q S z f (l.setIfInBounds i true) a' w') a w
theorem wpAny_of_E :∀(f:Nat) (l:Array Bool) (a:Act) (w:World),wpE P md ops Q S z f l a w→wpAny P md ops Q f l a w
 |0,_,_,_,h=>h
 |f+1,_,_,_,h=>⟨h.1,fun i hi=>wpOp_mono (fun a' w' h'=>wpAny_of_E f _ a' w' h'.2) (h.2 i hi)⟩
def lastB (md:Region.Mode) (ops:Array Oper) (z i:Nat):Bool:=
 match ops[z]? with
 |none=>false
 |some o=>o.after.toList.any fun e=>Region.binds md e&&e.on==i
theorem last_waits {l:Array Bool} {i:Nat} (hz:lastB md ops z i=true) (hi:i∈Region.ready md ops l):z∉Region.ready md ops l:=fun h=>by
 obtain⟨_,oz,hoz,hall⟩:=mem_ready.1 h;unfold lastB at hz;rw[hoz]at hz;obtain⟨x,hx,hb⟩:=List.any_eq_true.1 hz;simp only[Bool.and_eq_true,beq_iff_eq]at hb;have h1:=hall x (by simpa using hx) hb.1;have h0:=(mem_ready.1 hi).1;rw[hb.2]at h1;rcases Nat.lt_or_ge i l.size with h'|h'
 ·simp[h']at h0 h1;rw[h0]at h1;cases h1
 simp[Array.getElem?_eq_none h']at h1
theorem wpE_first {i:Nat} {oi:Oper} {v:Value} (hi:ops[i]? =some oi) (hz:lastB md ops z i=true) (hsel:∀(j:Nat) (o:Oper) cs b,ops[j]? =some o→o.op≠ .select cs b)
  (hQ:∀c a w,Q (.panic c) (a.put oi.dst v) w→Q (.panic c) a w):
  ∀(f:Nat) (l:Array Bool) (a:Act) (w:World),
   (∀j oj,ops[j]? =some oj→j≠i→l.getD j true=false→(∀e∈oj.after,Region.binds md e=true→e.on≠i)→oi.apart ops oj=true)→
   i∈Region.ready md ops l→YieldsIf P ops S oi v a→S w→
   wpE P md ops Q S z f (l.setIfInBounds i true) (a.put oi.dst v) w→wpE P md ops Q S z (f+1) l a w:=by
 intro f
 induction f with
 |zero=>
  intro l a w _ hr hy hS H;refine⟨fun h=>(by rw[h]at hr;cases hr),fun j hj=>?_⟩;by_cases e:j=i
  ·subst e;exact hy.wpOp hi hS ⟨fun _=>hS,H⟩
  have:=ready_mono hj e;rw[H.1]at this;cases this
 |succ f ih=>
  intro l a w hfree hr hy hS H;refine⟨fun h=>(by rw[h]at hr;cases hr),fun j hj=>?_⟩;by_cases e:j=i
  ·subst e;exact hy.wpOp hi hS ⟨fun _=>hS,H⟩
  have h1:=H.2 j (ready_mono hj e);obtain⟨hjun,oj,hoj,hall⟩:=mem_ready.1 hj;have hnot:∀x∈oj.after,Region.binds md x=true→x.on≠i:=fun x hx hb heq=>by
   have h1:=hall x hx hb;have h0:=(mem_ready.1 hr).1;rw[heq]at h1;rcases Nat.lt_or_ge i l.size with h'|h'
   ·simp[h']at h0 h1;rw[h0]at h1;cases h1
   simp[Array.getElem?_eq_none h']at h1
  have h2:=wpOp_putIf hoj (hfree j oj hoj e hjun hnot) (fun cs b=>hsel i oi cs b hi) (fun cs b=>hsel j oj cs b hoj) hQ hy h1;have hstill:=ready_mono hr (Ne.symm e);have hi':i∈Region.ready md ops ((l.setIfInBounds j true)):=hstill;have hfree':∀k ok,ops[k]? =some ok→k≠i→(l.setIfInBounds j true).getD k true=false→
    (∀x∈ok.after,Region.binds md x=true→x.on≠i)→oi.apart ops ok=true:=fun k ok hk hki hun hno=>by
   refine hfree k ok hk hki ?_ hno;by_cases hjk:j=k
   ·subst hjk;exact hjun
   rw[getD_set_ne true hjk]at hun;exact hun
  (have hjz:j≠z:=fun e'=>by subst e';exact last_waits hz hr hj);refine wpOp_mono (fun a' w' h3=>⟨fun _=>h3.2.1 hjz,ih (l.setIfInBounds j true) a' w' hfree' hi' h3.1 (h3.2.1 hjz) ?_⟩) h2;rw[Array.setIfInBounds_comm _ _ e];exact h3.2.2
theorem wpE_take {i:Nat} {oi:Oper} {v:Value} {f:Nat} {l:Array Bool} {a:Act} {w:World} (hi:ops[i]? =some oi) (hz:lastB md ops z i=true)
  (hs:Region.noSelect ops=true) (hf:Region.free md ops l i=true) (hr:(Region.ready md ops l).contains i=true)
  (hQ:∀c a w,Q (.panic c) (a.put oi.dst v) w→Q (.panic c) a w) (hy:YieldsIf P ops S oi v a) (hS:S w)
  (h:wpE P md ops Q S z f (l.setIfInBounds i true) (a.put oi.dst v) w):wpE P md ops Q S z (f+1) l a w:=
 wpE_first hi hz (Region.noSelect_spec hs) hQ f l a w (Region.free_spec hi hf) (by simpa using hr) hy hS h
theorem wpE_tk {i:Nat} {oi:Oper} {v:Value} {f:Nat} {l:Array Bool} {a:Act} {w:World} (hS:S w) (hi:ops[i]? =some oi) (hy:∀w,S w→(execOp a.eval oi).run P w= .ok (.value v) w)
  (h:wpE P md ops Q S z f (l.setIfInBounds i true) (a.put oi.dst v) w) (hz:lastB md ops z i=true:=by kernel_rfl) (hs:Region.noSelect ops=true:=by kernel_rfl) (hf:Region.free md ops l i=true:=by kernel_rfl) (hr:(Region.ready md ops l).contains i=true:=by kernel_rfl)
  (hw:Region.wanted oi (yielded ops a.tmps)=true:=by rfl) (hQ:∀c a w,Q (.panic c) (a.put oi.dst v) w→Q (.panic c) a w:=by exact fun _ _ _ h=>h):wpE P md ops Q S z (f+1) l a w:=
 wpE_take hi hz hs hf hr hQ (Or.inl ⟨hw,hy⟩) hS h
theorem wpE_one {i:Nat} {o:Oper} {f:Nat} {l:Array Bool} {a:Act} {w:World} (hr:Region.ready md ops l=[i]) (ho:ops[i]? =some o)
  (h:∀K':Act→World→Prop,(∀a w,(i≠z→S w)→wpE P md ops Q S z f (l.setIfInBounds i true) a w→K' a w)→if Region.wanted o (yielded ops a.tmps)=true then Oper.wp P o a w K' Q else K' (a.put o.dst undef) w):wpE P md ops Q S z (f+1) l a w:=
 ⟨fun h0=>(by rw[hr]at h0;cases h0),fun j hj=>by rw[hr]at hj;(obtain rfl:j=i:=by simpa using hj);exact wpOp_step ho fun K' hK=>h K' fun a w h1 h2=>hK a w ⟨h1,h2⟩⟩
theorem wpE_done {l:Array Bool} {a:Act} {w:World} (hr:Region.ready md ops l=[]) (h:Q .normal a w):∀f,wpE P md ops Q S z f l a w
 |0=>⟨hr,h⟩
 |_+1=>⟨fun _=>h,by rw[hr];simp⟩
theorem wp_region_E {id:Nat} {a:Act} {w:World} (z:Nat) (hm:P.follows .mixedOrders=true)
  (h:wpE P .any ops Q S z ops.size (Array.replicate ops.size false) a w.drew):(Code.region id ops true).wp P Q a w:=
 wp_region_any hm (wpAny_of_E _ _ _ _ h)
end
end Go.Proofs.YtimkjnbihlgbiaaGreat
namespace Go.Proofs.YtimkjnbihlgbiaaGreat
open Go.RowKit
set_option linter.unusedVariables false
set_option linter.unusedSimpArgs false
structure FEnt where
 id:Nat
 ptr:Nat
 mode:Int
 names:Int
 dv:Value
def fileBox (f:FEnt):Asn:=.box f.ptr 140 #[.int .i64 f.mode,.int .i64 f.names,f.dv]
def filesL (Fs:List FEnt):List (Lit×Value):=Fs.map fun f=>(.int .i64 f.id,.pointer (some ⟨f.ptr,0,none⟩))
def worldCells (bn bf bk next:Nat):Array Value:=#[.map (some bn),.map (some bf),.map (some bk),.int .i64 next]
theorem zero_node (w:World):(zeroValue 137).run Tryz.prog w= .ok (.agg #[.int .i64 0,.int .i64 0]) w:=by kernel_rfl
theorem zero_pfile (w:World):(zeroValue 138).run Tryz.prog w= .ok (.pointer none) w:=by kernel_rfl
theorem keyOf_id (n:Nat) (h:n≤100000):keyOf Tryz.prog 3 (.int .i64 n)=some (.int .i64 n):=Maps.keyOf_int_mk Tryz.underlying3 (wf_i64 (by omega) (by omega))
theorem parts_any (n by_:Int) (h0:0≤n) (h1:n≤1000000) (h2:0<by_) (h3:by_≤1000000) (w:World):Calls Tryz.prog 84 #[.int .i64 n,.int .i64 by_] w fun e w'=>e= .returned (.int .i64 ((n+by_-1)/by_))∧w'=w:=by
 have q:(by_==0)=false:=by simp;omega
 go_enter Tryz.func84,Tryz.ntmps84;go_wp2_with fail;go_ret;exact⟨rfl,rfl⟩
theorem List.set_getElem_self' {α:Type} {l:List α} {i:Nat} {x:α} (h:l[i]? =some x):l.set i x=l:=by obtain⟨hlt,rfl⟩:=gF.1 h;exact List.set_getElem_self hlt
end Go.Proofs.YtimkjnbihlgbiaaGreat
