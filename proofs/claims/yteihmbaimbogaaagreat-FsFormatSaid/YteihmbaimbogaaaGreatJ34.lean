/- FwE, FwF, SortP, StrSort, laid together. -/
import Derived.Test.YteihmbaimbogaaaGreatJ33
import Derived.Shelf.SortM.Plain
import Derived.Shelf.SortM.SortNone
import Derived.Sort.EncStr
namespace Go.Proofs.YteihmbaimbogaaaGreat
open Go.RowKit
set_option linter.unusedVariables false
set_option linter.unusedSimpArgs false
def statX (S:VS) (path:List UInt8):Int:=if plainE path=0 then((somethingE (lookP S.cur S.data 0 0 (splitB path))).getD 0)else plainE path
def statV (k m l s i:Int):Value:=.agg #[.int .i64 k,.int .i64 m,.int .i64 l,.int .i64 s,.int .i64 i]
def statOf (S:VS) (path:List UInt8):Value:=
 if statX S path=0 then
  let n:=(lookP S.cur S.data 0 0 (splitB path)).2.1.toNat
  statV (inoP S.cur n).kind (inoP S.cur n).mode (inoP S.cur n).links (inoP S.cur n).size (n+1:Nat)
 else statV 0 0 0 0 0
section
variable {w0 w:World} {R:List Asn} {f q p:Nat} {S:VS} {a:VA}
theorem Sep.store5 {As:List Asn} {b:Nat} {t:TypeId} {v0 v1 v2 v3 v4:Value} (u0 u1 u2 u3 u4:Value) (i:Nat) (h:Sep w0 w As) (hi:As[i]? =some (.box b t #[v0,v1,v2,v3,v4])):
  (w.frozen? ⟨b,0,none⟩=false∧w.cell? ⟨b,0,none⟩=some v0)∧
  ((w.setCell ⟨b,0,none⟩ u0).frozen? ⟨b,1,none⟩=false∧(w.setCell ⟨b,0,none⟩ u0).cell? ⟨b,1,none⟩=some v1)∧
  (((w.setCell ⟨b,0,none⟩ u0).setCell ⟨b,1,none⟩ u1).frozen? ⟨b,2,none⟩=false∧((w.setCell ⟨b,0,none⟩ u0).setCell ⟨b,1,none⟩ u1).cell? ⟨b,2,none⟩=some v2)∧
  ((((w.setCell ⟨b,0,none⟩ u0).setCell ⟨b,1,none⟩ u1).setCell ⟨b,2,none⟩ u2).frozen? ⟨b,3,none⟩=false∧(((w.setCell ⟨b,0,none⟩ u0).setCell ⟨b,1,none⟩ u1).setCell ⟨b,2,none⟩ u2).cell? ⟨b,3,none⟩=some v3)∧
  (((((w.setCell ⟨b,0,none⟩ u0).setCell ⟨b,1,none⟩ u1).setCell ⟨b,2,none⟩ u2).setCell ⟨b,3,none⟩ u3).frozen? ⟨b,4,none⟩=false∧((((w.setCell ⟨b,0,none⟩ u0).setCell ⟨b,1,none⟩ u1).setCell ⟨b,2,none⟩ u2).setCell ⟨b,3,none⟩ u3).cell? ⟨b,4,none⟩=some v4)∧
  Sep w0 (((((w.setCell ⟨b,0,none⟩ u0).setCell ⟨b,1,none⟩ u1).setCell ⟨b,2,none⟩ u2).setCell ⟨b,3,none⟩ u3).setCell ⟨b,4,none⟩ u4) (As.set i (.box b t #[u0,u1,u2,u3,u4])):=by
 have hlt:=(gF.1 hi).1;have h1:=h.bS i hi 0 u0;have e1:(As.set i (.box b t #[u0,v1,v2,v3,v4]))[i]? =some (.box b t #[u0,v1,v2,v3,v4]):=List.getElem?_set_self hlt;have h2:=h1.bS i e1 1 u1;rw[List.set_set]at h2;have e2:(As.set i (.box b t #[u0,u1,v2,v3,v4]))[i]? =some (.box b t #[u0,u1,v2,v3,v4]):=List.getElem?_set_self hlt;have h3:=h2.bS i e2 2 u2;rw[List.set_set]at h3;have e3:(As.set i (.box b t #[u0,u1,u2,v3,v4]))[i]? =some (.box b t #[u0,u1,u2,v3,v4]):=List.getElem?_set_self hlt;have h4:=h3.bS i e3 3 u3;rw[List.set_set]at h4;have e4:(As.set i (.box b t #[u0,u1,u2,u3,v4]))[i]? =some (.box b t #[u0,u1,u2,u3,v4]):=List.getElem?_set_self hlt;have h5:=h4.bS i e4 4 u4;rw[List.set_set]at h5;exact⟨⟨h.bF i hi 0,h.bC i hi 0⟩,⟨h1.bF i e1 1,h1.bC i e1 1⟩,⟨h2.bF i e2 2,h2.bC i e2 2⟩,⟨h3.bF i e3 3,h3.bC i e3 3⟩,⟨h4.bF i e4 4,h4.bC i e4 4⟩,h5⟩
theorem somethingE_some {S:VS} {path:List UInt8} {k:Int} (h:somethingE (lookP S.cur S.data 0 0 (splitB path))=some k):k≠0∧k≠11:=by have:=somethingE_err h;unfold errP at this;omega
set_option maxRecDepth 100000 in
set_option maxHeartbeats 8000000 in
theorem stat_any {path:List UInt8} (hp:path.length≤1048576) (ho:S.D.off=false) (hV:VW S.base) (h:Sep w0 w (restR f q p S::R)):
  Calls Tryz.prog 29 #[.pointer (some ⟨f,0,none⟩),strV path] w fun e w'=>e= .returned (.tuple #[statOf S.base path,.int .i64 (statX S.base path)])∧Sep w0 w' (restR f q p S.base::R):=by
 have hb:=rest_back h;obtain⟨b,hbw⟩:∃b,b=w.heap.size:=⟨_,rfl⟩;have h1:Sep w0 ((w.alloc (.cells #[.int .i64 0,.int .i64 0,.int .i64 0,.int .i64 0,.int .i64 0] 68)).alloc (.cells #[.int .i64 0] 39)) (restR f q p S::errBox (b+1) 0:: .box b 68 #[.int .i64 0,.int .i64 0,.int .i64 0,.int .i64 0,.int .i64 0]::R):=by have:=(h.bN 68 #[.int .i64 0,.int .i64 0,.int .i64 0,.int .i64 0,.int .i64 0]).bN 39 #[.int .i64 0];rw[World.size_alloc,←hbw]at this;exact Sep.sel [2,0,1] this (by decide) (by simp[errBox])
 have haw:=awake_on ho h1;obtain⟨T,hT⟩:∃T,T=S.base:=⟨_,rfl⟩;rw[←hT]at hV hb haw ⊢;clear ho;obtain⟨Z,hZ⟩:∃Z:Array Value,Z=#[.int .i64 0,.int .i64 0,.int .i64 0,.int .i64 0,.int .i64 0]:=⟨_,rfl⟩;have hres:Hid (∀(tm:Array Value) W x (k m l s i:Int) Y,tm.getD 5 undef= .pointer (some ⟨b+1,0,none⟩)→tm.getD 4 undef= .pointer (some ⟨b,0,none⟩)→Sep w0 W (Y++errBox (b+1) x:: .box b 68 #[.int .i64 k,.int .i64 m,.int .i64 l,.int .i64 s,.int .i64 i]::R)→(results Tryz.f29 tm).run Tryz.prog W= .ok (.tuple #[statV k m l s i,.int .i64 x]) W):=Lh fun tm W x k m l s i Y ht hv hW=>by(have hi:(Y++errBox (b+1) x:: .box b 68 #[.int .i64 k,.int .i64 m,.int .i64 l,.int .i64 s,.int .i64 i]::R)[Y.length]? =some (errBox (b+1) x):=by simp);(have hi2:(Y++errBox (b+1) x:: .box b 68 #[.int .i64 k,.int .i64 m,.int .i64 l,.int .i64 s,.int .i64 i]::R)[Y.length+1]? =some (.box b 68 #[.int .i64 k,.int .i64 m,.int .i64 l,.int .i64 s,.int .i64 i]):=by simp);have ec:=hW.bC _ hi 0;have z0:=hW.bC _ hi2 0;have z1:=hW.bC _ hi2 1;have z2:=hW.bC _ hi2 2;have z3:=hW.bC _ hi2 3;have z4:=hW.bC _ hi2 4;simp only[gA,gB,gC]at ec z0 z1 z2 z3 z4;(have ht2:tm[5]?.getD undef= .pointer (some ⟨b+1,0,none⟩):=by simpa using ht);(have hv2:tm[4]?.getD undef= .pointer (some ⟨b,0,none⟩):=by simpa using hv);simp[results,Tryz.results29,go_sem,ht2,hv2,asAddr,loadVar,ec,z0,z1,z2,z3,z4,statV]
 have hpl:Hid (∀W,Calls Tryz.prog 60 #[strV path] W fun e w'=>e=(if plainE path=0 then .returned (.tuple #[])else .panicked (stopF (plainE path)))∧Below W.heap.size W w'):=Lh fun W=>plain_any hp W
 have hgive:Hid (∀(tm:Array Value) W a k,k=statX T path→k≠0→k≠11→VC T a→Sep w0 W (volR f q p T a::errBox (b+1) 0:: .box b 68 Z::R)→tm.getD 5 undef= .pointer (some ⟨b+1,0,none⟩)→tm.getD 4 undef= .pointer (some ⟨b,0,none⟩)→
   Leaves Tryz.prog Tryz.f29 tm (fun e w'=>e= .returned (.tuple #[statOf T path,.int .i64 (statX T path)])∧Sep w0 w' (restR f q p T::R)) [{target:=.fn (.func 41) #[],args:=#[.pointer (some ⟨f,0,none⟩),.pointer (some ⟨b+1,0,none⟩)]}] (.panicking (stopF k)) W):=Lh fun tm W a k hk h0 h11 hC hW ht ht4=>by
  (refine told_vol hC hb h11 hW fun w' hw=>?_);rw[hZ]at hw;refine⟨_,hres.out tm w' k 0 0 0 0 0 [restR f q p T] ht ht4 hw,?_,?_⟩
  ·unfold statOf;rw[←hk,if_neg h0]
  have h5:Sep w0 w' (errBox (b+1) k:: .box b 68 #[.int .i64 0,.int .i64 0,.int .i64 0,.int .i64 0,.int .i64 0]::restR f q p T::R):=Sep.sel [1,2,0] hw (by decide) (by simp);exact h5.drop 2
 have hfl:Hid (validL path=true→∀W a,VC T a→Sep w0 W (volR f q p T a::errBox (b+1) 0:: .box b 68 Z::R)→Calls Tryz.prog 68 #[.pointer (some ⟨f,0,none⟩),strV path] W fun e w'=>e=somethingP (lookP T.cur T.data 0 0 (splitB path))∧∃a',VC T a'∧Sep w0 w' (volR f q p T a'::errBox (b+1) 0:: .box b 68 Z::R)):=Lh fun hv W a hC hW=>
  (something_any hC hV hv hp hW).mono fun e w' ⟨h1,a',h2,h3⟩=>⟨h1,a',h2.ok,h3⟩
 have hct:Hid (∀m:Nat,m<T.names→∀W a,VC T a→Sep w0 W (volR f q p T a::errBox (b+1) 0:: .box b 68 Z::R)→Calls Tryz.prog 64 #[.pointer (some ⟨f,0,none⟩),.int .i64 m] W fun e w'=>∃A n c a2,e= .returned (infoV (inoP T.cur m) (.slice A n c))∧VC T a2∧Sep w0 w' (volR f q p T a2::errBox (b+1) 0:: .box b 68 Z::R)):=Lh fun m hm W a hC hW=>by refine(inode_any hC hV.vf hm (hV.few m hm) hW).mono ?_;rintro e w' ⟨v,a2,rfl,hR,h9⟩;obtain⟨A9,c9,e9⟩:=h9.sl_shape 0 rfl;subst e9;exact⟨A9,_,c9,a2,rfl,hR.ok,h9.drop 1⟩
 have hln:=look_nat hV (path:=path);have hpw:=plainE_pow path;have hfs:∀k,somethingE (lookP T.cur T.data 0 0 (splitB path))=some k→k≠0∧k≠11:=fun k hk=>somethingE_some hk
 have hn4:=hV.vf.names;clear hV hT h h1;by_cases h0:plainE path=0
 ·have hv:=plainE_ok h0;rw[h0,if_pos rfl]at hpl;have hfl2:=Lh (hfl.out hv);(have hrx:statX T path=(somethingE (lookP T.cur T.data 0 0 (splitB path))).getD 0:=by unfold statX;rw[if_pos h0]);replace hrx:=Lh hrx;clear hfl hp hv h0 hpw;rw[somethingE_is]at hfl2;obtain⟨fe,hfe⟩:∃fe,fe=somethingE (lookP T.cur T.data 0 0 (splitB path)):=⟨_,rfl⟩;rw[←hfe]at hfl2 hfs hrx;cases fe with
  |some k=>
   obtain⟨hk0,hk11⟩:=hfs k rfl;have hg:=Lh (fun tm W a=>hgive.out tm W a k hrx.out.symm hk0 hk11);clear hfs hfe hct hln hk0 hk11 hgive hn4;simp only at hfl2;obtain⟨sv,hsv⟩:∃sv,sv=strV path:=⟨_,rfl⟩;unfold strV at*;rw[hbw]at*
   go_enter_defers Tryz.func29,Tryz.ntmps29
   go_wp2_with(first |(go_at_call 42;refine haw.mono ?_;rintro e w9 ⟨rfl,a9,hC9,h9⟩;rw[←hZ]at h9;replace hC9:=Lh hC9;clear haw)|(go_at_call 60;refine(hpl.out _).mono ?_;rintro e w8 ⟨rfl,hb8⟩;have hf8:=hfl2.out _ _ hC9.out (h9.pure hb8);clear h9 hb8 hpl)|(go_at_call 68;refine hf8.mono ?_;rintro e w7 ⟨rfl,a7,hC7,h7⟩;clear hf8));exact hg.out _ _ _ hC7 h7 rfl rfl
  |none=>
   obtain⟨hr0,hr1⟩:=somethingE_ok hfe.symm;obtain⟨d,m,hdl,hml,hre⟩:=hln hr0 hr1;(have hso:statOf T path=statV (inoP T.cur m).kind (inoP T.cur m).mode (inoP T.cur m).links (inoP T.cur m).size (m+1:Nat):=by unfold statOf;rw[hrx.out,hre];simp);have hct2:=Lh (hct.out m hml);(have hm5:(m:Int)<5000:=by omega);replace hso:=Lh hso;rw[hre]at hfl2;clear hfs hfe hct hln hr0 hr1 hgive hml hdl hre hn4;simp only[Option.getD_none]at hfl2 hrx;obtain⟨⟨ik,im,il,is,isp⟩,hin⟩:∃x,x=inoP T.cur m:=⟨_,rfl⟩;rw[←hin]at hct2 hso;simp only[infoV,infoC]at hct2 hso;clear hin;obtain⟨sv,hsv⟩:∃sv,sv=strV path:=⟨_,rfl⟩;unfold strV at*;rw[hbw]at*
   go_enter_defers Tryz.func29,Tryz.ntmps29
   go_wp2_with(first |(go_at_call 42;refine haw.mono ?_;rintro e w9 ⟨rfl,a9,hC9,h9⟩;rw[←hZ]at h9;replace hC9:=Lh hC9;clear haw)|(go_at_call 60;refine(hpl.out _).mono ?_;rintro e w8 ⟨rfl,hb8⟩;have hf8:=hfl2.out _ _ hC9.out (h9.pure hb8);clear h9 hb8 hpl)|(go_at_call 68;refine hf8.mono ?_;rintro e w7 ⟨rfl,a7,hC7,h7⟩;have hc7:=hct2.out _ _ hC7 h7;clear hf8 h7 hct2 hC7)|(go_at_call 64;refine hc7.mono ?_;rintro e w6 ⟨A6,n6,c6,a6,rfl,hC6,h6⟩;(have h5:=h6.bN 118 #[.int .i64 (ik:Nat),.int .i64 (im:Nat),.int .i64 (il:Nat),.int .i64 (is:Nat),.slice A6 n6 c6]);(have x0:=h5.bC 0 rfl 0);(have x1:=h5.bC 0 rfl 1);(have x2:=h5.bC 0 rfl 2);(have x3:=h5.bC 0 rfl 3);rw[hZ]at h5;(obtain⟨⟨y0,z0⟩,⟨y1,z1⟩,⟨y2,z2⟩,⟨y3,z3⟩,⟨y4,z4⟩,h4⟩:=h5.store5 (.int .i64 (ik:Nat)) (.int .i64 (im:Nat)) (.int .i64 (il:Nat)) (.int .i64 (is:Nat)) (.int .i64 ((m:Int)+1)) 3 rfl);(have k1:=h4.bC 2 rfl 0);(have k2:=h4.bF 2 rfl 0);simp only[gA,gB,gC,List.set_cons_succ,List.set_cons_zero]at k1 x0 x1 x2 x3;clear hc7 h5 h6;replace hC6:=Lh hC6;replace h4:=Lh h4));refine told_door_ret ?_;have h10:=h4.out.bS 2 rfl 0 (.int .i64 0);refine⟨_,hres.out _ _ 0 _ _ _ _ _ [_,volR f q p T a6] rfl rfl h10,?_,?_⟩
   ·rw[hso.out,hrx.out];rfl
   have h11:Sep w0 _ ([_,errBox (w.heap.size+1) 0,_]++(volR f q p T a6::R)):=Sep.sel [0,2,3,1] h10 (by decide) (by simp[errBox]);exact vol_rest0 hC6.out hb (h11.drop 3)
 have hrx:statX T path=plainE path:=by unfold statX;rw[if_neg h0]
 have hg:=Lh (fun tm W a=>hgive.out tm W a (plainE path) hrx.symm h0 hpw);rw[if_neg h0]at hpl;clear hfl hct hln hgive hfs hpw hn4;obtain⟨sv,hsv⟩:∃sv,sv=strV path:=⟨_,rfl⟩;unfold strV at*;rw[hbw]at*
 go_enter_defers Tryz.func29,Tryz.ntmps29
 go_wp2_with(first |(go_at_call 42;refine haw.mono ?_;rintro e w9 ⟨rfl,a9,hC9,h9⟩;rw[←hZ]at h9;replace hC9:=Lh hC9;clear haw)|(go_at_call 60;refine(hpl.out _).mono ?_;rintro e w8 ⟨rfl,hb8⟩;replace h9:=h9.pure hb8;clear hb8 hpl));exact hg.out _ _ _ hC9.out h9 rfl rfl
end
end Go.Proofs.YteihmbaimbogaaaGreat
namespace Go.Proofs.YteihmbaimbogaaaGreat
open Go.RowKit
set_option linter.unusedVariables false
theorem heap_sorted {α:Type} [Inhabited α] (enc:α→Value) (w:World) (g n:Nat) (d:Array α) (os:Array Obj) (b:Nat) (hb:b<w.heap.size):
  (Go.Proofs.sortWorld enc w g 0 n d os).heap[b]? =if g=b then w.heap[b]?.map (Go.Sort.onCells (Go.Sort.putCells enc 0 d))else w.heap[b]? :=by
 unfold Go.Proofs.sortWorld Go.Sort.grow Go.Sort.putRow Go.Sort.mapBlock Go.Sort.ahead;simp only;rw[Array.getElem?_append_left (by simpa using hb),Array.getElem?_modify]
theorem Sep.sorted {α:Type} [Inhabited α] (enc:α→Value) {w0 w:World} {As:List Asn} {e:TypeId} {g m cap:Nat} {cs:List Value} (k:Nat) (h:Sep w0 w As)
  (hi:As[k]? =some (.sl e 1 (.slice (some ⟨g,0,none⟩) m cap) m cs)) (n:Nat) (d:Array α) (hd:d.size=m) (os:Array Obj):
  Sep w0 (Go.Proofs.sortWorld enc w g 0 n d os) (As.set k (.sl e 1 (.slice (some ⟨g,0,none⟩) m cap) m (d.toList.map enc))):=by
 refine h.step k hi fun F ⟨ho,hF⟩ _=>⟨F,⟨⟨by simp[hd],?_⟩,hF⟩,fun b hb=>.inl hb,?_⟩
 ·rcases ho.2 with⟨h',_⟩|⟨g',cap',cur,h',hb,hg,hc,hm,hs,ht⟩
  ·simp at h'
  simp only[Value.slice.injEq,Option.some.injEq,Addr.mk.injEq,and_true,true_and]at h';obtain⟨rfl,rfl⟩:=h';refine .inr ⟨g,cap,Go.Sort.putCells enc 0 d cur,rfl,hb,?_,hc,hm,by simpa[Go.Sort.putCells]using hs,?_⟩
  ·rw[heap_sorted enc w g n d os g (lt_of_heap hg),if_pos rfl,hg];rfl
  apply List.ext_getElem?;intro i;by_cases hi:i<m
  ·(have hc2:i<cur.size:=by omega);simp[Go.Sort.putCells,hd,hi,hc2]
  rw[List.getElem?_eq_none (by simp;omega),List.getElem?_eq_none (by simp;omega)]
 refine⟨rfl,rfl,rfl,by simp[Go.Proofs.sortWorld,Go.Sort.grow,Go.Sort.putRow,Go.Sort.mapBlock,Go.Sort.ahead],fun b hb hn=>?_⟩;rw[heap_sorted enc w g n d os b hb,if_neg];intro e;subst e;exact hn (by rw[hF];simp[Value.ownBlock])
def strsR (v:Value) (ps:List (List UInt8)):Asn:=.sl 9 1 v ps.length (ps.map strV)
def sortS (ps:List (List UInt8)):List (List UInt8):=ps.mergeSort fun x y=>decide (x≤y)
theorem sortS_perm (ps:List (List UInt8)):(sortS ps).Perm ps:=List.mergeSort_perm _ _
theorem sortS_le (ps:List (List UInt8)):(sortS ps).Pairwise fun x y=>x≤y:=by have h:=List.pairwise_mergeSort (le:=fun(x y:List UInt8)=>decide (x≤y)) (fun a b c h1 h2=>by simp only[decide_eq_true_eq]at h1 h2 ⊢;exact List.le_trans h1 h2) (fun a b=>by simp only[Bool.or_eq_true,decide_eq_true_eq];exact List.le_total a b) ps;exact h.imp fun h=>by simpa using h
theorem strs_holds {w0 w:World} {As:List Asn} {g n c:Nat} {ps:List (List UInt8)} (k:Nat) (h:Sep w0 w As) (hk:As[k]? =some (.sl 9 1 (.slice (some ⟨g,0,none⟩) n c) n (ps.map strV))) (hn:ps.length=n):Go.Sort.Holds Go.Proofs.encStr w g 0 ps.toArray:=fun j hj=>by
 have hj':j<ps.length:=by simpa using hj
 rw[Nat.zero_add];refine⟨?_,h.frozenAt k hk j⟩;rw[h.cellAt k hk j (by omega),getElem!_pos _ j hj];simp[hj'];rfl
theorem sortstrs_any {w0 w:World} {As:List Asn} {v:Value} {ps:List (List UInt8)} (k:Nat) (h:Sep w0 w As) (hk:As[k]? =some (strsR v ps)) (hl:ps.length≤1048576):
  Calls Tryz.prog 70 #[v] w fun e w'=>e= .returned (.tuple #[])∧Sep w0 w' (As.set k (strsR v (sortS ps))):=by
 have hlen:(sortS ps).length=ps.length:=(sortS_perm ps).length_eq;rcases Nat.eq_zero_or_pos ps.length with h0|hpos
 ·obtain rfl:ps=[]:=List.eq_nil_of_length_eq_zero h0;obtain⟨A,c,rfl,_⟩:=(h.rd k hk).shape;have hcon:=Go.Proofs.AnyM.slices_Sort_string_none Go.Proofs.Tryz.sortStrings A c w;change Calls Tryz.prog 70 _ _ _ at hcon;refine hcon.mono ?_;rintro e w' ⟨rfl,rfl⟩;refine⟨rfl,?_⟩;obtain⟨hlt,e⟩:=gF.1 hk;have e2:sortS []=[]:=List.eq_nil_of_length_eq_zero (by rw[hlen];rfl);rw[e2,←e,List.set_getElem_self];exact h
 obtain⟨g,c,rfl,_,hg,_⟩:=h.sl_form k hk hpos;have hH:=strs_holds k h hk rfl;have hcon:=Go.Proofs.AnyM.slices_Sort_string Go.Proofs.Tryz.sortStrings g 0 c ps w hH hg (by omega);change Calls Tryz.prog 70 _ _ _ at hcon;refine hcon.mono ?_;rintro e w' ⟨rfl,n,os,rfl⟩;refine⟨rfl,?_⟩;have hS:=h.sorted (α:=List UInt8) Go.Proofs.encStr k hk n (sortS ps).toArray (by simpa using hlen) os;have e1:strsR (.slice (some ⟨g,0,none⟩) ps.length c) (sortS ps)= .sl 9 1 (.slice (some ⟨g,0,none⟩) ps.length c) ps.length ((sortS ps).toArray.toList.map Go.Proofs.encStr):=by unfold strsR;rw[hlen];rfl
 rw[e1];exact hS
end Go.Proofs.YteihmbaimbogaaaGreat
