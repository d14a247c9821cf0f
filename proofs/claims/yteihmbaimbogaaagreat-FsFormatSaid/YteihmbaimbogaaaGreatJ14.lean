/- FtF, FtG, FtH, laid together. -/
import Derived.Test.YteihmbaimbogaaaGreatJ13
import Derived.Deep.LoopGhost
namespace Go.Proofs.YteihmbaimbogaaaGreat
open Go.RowKit
set_option linter.unusedVariables false
set_option linter.unusedSimpArgs false
def downP :Nat→VS→List Nat→VS×List Nat
 |0,S,l=>(S,l)
 |k+1,S,l=>downP k (S.put 1 (clrB (bk S.cur 1) (l.getLastD 0))) l.dropLast
def upP :Nat→VS→List Nat→Option (VS×List Nat)
 |0,S,l=>some (S,l)
 |k+1,S,l=>match freeL (bk S.cur 1) S.count with
  |none=>none
  |some j=>upP k (S.put 1 (setB (bk S.cur 1) j)) (l++[j])
def fitP (S:VS) (l:List Nat) (n:Nat):Option (VS×List Nat):=
 upP (n-(downP (l.length-n) S l).2.length) (downP (l.length-n) S l).1 (downP (l.length-n) S l).2
structure Like (S S':VS):Prop where
 nb:S'.nb=S.nb
 names:S'.names=S.names
 D:S'.D=S.D
 rB:S'.rB=S.rB
 rI:S'.rI=S.rI
theorem Like.refl (S:VS):Like S S:=⟨rfl,rfl,rfl,rfl,rfl⟩
theorem Like.trans {S T U:VS} (h:Like S T) (g:Like T U):Like S U:=⟨g.nb.trans h.nb,g.names.trans h.names,g.D.trans h.D,g.rB.trans h.rB,g.rI.trans h.rI⟩
theorem Like.put {S T:VS} (h:Like S T) (k:Nat) (bs:List UInt8):Like S (T.put k bs):=h.trans ⟨rfl,rfl,rfl,rfl,rfl⟩
theorem Like.count {S T:VS} (h:Like S T):T.count=S.count:=by unfold VS.count VS.data;rw[h.nb,h.names]
theorem Like.vf {S T:VS} (h:Like S T) (hF:VF S):VF T:=⟨by rw[h.names];exact hF.names,by unfold VS.data;rw[h.nb,h.names];exact hF.room⟩
structure DownI (f q p:Nat) (S:VS) (x:VI) (n bx:Nat) (w0 wr:World) (R:List Asn) (S1:VS) (l:List Nat) (a1:VA) (v:Value):Prop where
 eq:downP (l.length-n) S1 l=downP (x.spots.length-n) S x.spots
 like:Like S S1
 lt:∀s∈l,s<S.count
 few:l.length≤28
 ok:VC S1 a1
 sep:Sep w0 wr (volR f q p S1 a1:: .box bx 118 (infoC x v)::intsR v (spI l)::R)
structure UpI (f q p:Nat) (S:VS) (x:VI) (n bx:Nat) (w0 wr:World) (R:List Asn) (S1:VS) (l:List Nat) (a1:VA) (v:Value):Prop where
 eq:upP (n-l.length) S1 l=fitP S x.spots n
 like:Like S S1
 lt:∀s∈l,s<S.count
 few:l.length≤n
 ok:VC S1 a1
 sep:Sep w0 wr (volR f q p S1 a1:: .box bx 118 (infoC x v)::intsR v (spI l)::R)
theorem last_of {l:List Nat} {m:Nat} (h:l.length=m+1):∃s,l=l.dropLast++[s]∧l.getLastD 0=s∧l[m]? =some s∧l.dropLast.length=m:=by
 have hne:l≠[]:=by intro e;rw[e]at h;cases h
 refine⟨l.getLast hne,(List.dropLast_concat_getLast hne).symm,?_,?_,by rw[List.length_dropLast,h];rfl⟩
 ·rw[List.getLastD_eq_getLast?,List.getLast?_eq_some_getLast hne];rfl
 have:=List.getLast_eq_getElem hne;rw[this,gE (by omega)];simp[h]
section
variable {w0 w:World} {R:List Asn} {f q p:Nat} {S:VS} {a:VA}
def fitOut (f q p:Nat) (S:VS) (x:VI) (n bx:Nat) (w0:World) (R:List Asn) (e:Ending) (w':World):Prop:=
 match fitP S x.spots n with
 |some (S1,l)=>e= .returned (.tuple #[])∧∃a1 v,Like S S1∧VC S1 a1∧Sep w0 w' (volR f q p S1 a1:: .box bx 118 (infoC x v)::intsR v (spI l)::R)
 |none=>e= .panicked (stopF 27)∧∃S1 a1,Like S S1∧VC S1 a1∧Sep w0 w' (volR f q p S1 a1::R)
set_option maxRecDepth 100000 in
set_option maxHeartbeats 2000000 in
theorem fit_any {n bx:Nat} {x:VI} {v:Value} (hC:VC S a) (hF:VF S) (hx:x.spots.length≤28) (hn:n≤28) (hsp:∀s∈x.spots,s<S.count) (h:Sep w0 w (volR f q p S a:: .box bx 118 (infoC x v)::intsR v (spI x.spots)::R)):
  Calls Tryz.prog 89 #[.pointer (some ⟨f,0,none⟩),.pointer (some ⟨bx,0,none⟩),.int .i64 n] w (fitOut f q p S x n bx w0 R):=by
 have hI:Hid (∃S1 l a1 v,DownI f q p S x n bx w0 w R S1 l a1 v∧x.spots.length=l.length):=Lh ⟨S,x.spots,a,v,⟨rfl,.refl S,hsp,hx,hC,h⟩,rfl⟩;have hF':=Lh hF;have n28:(n:Int)≤28:=by omega
 have n0:(0:Int)≤n:=by omega
 clear hC hF hsp h;go_enter Tryz.func89,Tryz.ntmps89;go_wp2_with fail;go_loopg[12] x.spots.length (fun g u wr=>Hid (∃S1 l a1 v,DownI f q p S x n bx w0 wr R S1 l a1 v∧g=l.length))
 case atStart=>exact hI
 obtain⟨S1,l,a1,v1,hD,rfl⟩:=hrel.out;obtain⟨m,hm⟩:∃m,m=l.length:=⟨_,rfl⟩;have hll:(spI l).length=l.length:=by unfold spI;exact List.length_map ..
 obtain⟨A1,c1,e1⟩:=hD.sep.sl_shape 2 rfl;rw[hll,←hm]at e1;subst e1;have d4:wr.cell? ⟨bx,4,none⟩=some (.slice A1 m c1):=by rw[hD.sep.bC 1 rfl 4];rfl
 have m28:(m:Int)≤28:=by have:=hD.few;omega
 have hD':=Lh hD;have hm':=Lh hm;clear hD hrel hI hll hm;by_cases hgt:n<m
 case neg=>
  (have q1:(m:Int)≤n:=by omega);have hU0:Hid (∃S2 l2 a2 v2,UpI f q p S x n bx w0 wr R S2 l2 a2 v2∧n-m=n-l2.length):=Lh ⟨S1,l,a1,_,⟨by have e1:=hD'.out.eq;rw[←hm'.out,show m-n=0 by omega]at e1;have e2:(S1,l)=downP (x.spots.length-n) S x.spots:=e1;unfold fitP;rw[←e2],hD'.out.like,hD'.out.lt,by rw[←hm'.out];omega,hD'.out.ok,hD'.out.sep⟩,by rw[hm'.out]⟩;clear hD';go_wp2_with fail;clear d4;go_loopg[49] (n-m) (fun g u wr=>Hid (∃S2 l2 a2 v2,UpI f q p S x n bx w0 wr R S2 l2 a2 v2∧g=n-l2.length))
  case atStart=>exact hU0
  clear hU0 hm' q1 m28;obtain⟨S2,l2,a2,v2,hU,rfl⟩:=hrel.out;obtain⟨k,hk⟩:∃k,k=l2.length:=⟨_,rfl⟩;(have hll:(spI l2).length=l2.length:=by unfold spI;exact List.length_map ..);obtain⟨A2,c2,e2⟩:=hU.sep.sl_shape 2 rfl;rw[hll,←hk]at e2;subst e2;(have d5:wr.cell? ⟨bx,4,none⟩=some (.slice A2 k c2):=by rw[hU.sep.bC 1 rfl 4];rfl);have hU':=Lh hU;have hk':=Lh hk;(have kn:(k:Int)≤n:=by have:=hU.few;omega);(have k0:(0:Int)≤k:=by omega);clear hU hrel hll hk;by_cases hlt:k<n
  case neg=>
   (have q1:(n:Int)≤k:=by omega);have hfit:Hid (fitP S x.spots n=some (S2,l2)):=Lh (by have e1:=hU'.out.eq;rw[←hk'.out,show n-k=0 by omega]at e1;exact e1.symm);go_wp2_with fail
   go_end0
   unfold fitOut;rw[hfit.out];exact⟨rfl,a2,_,hU'.out.like,hU'.out.ok,hU'.out.sep⟩
  (have q1:(k:Int)<n:=by omega);(have htk:=fun W (hW:Sep w0 W (volR f q p S2 a2:: .box bx 118 (infoC x (.slice A2 k c2))::intsR (.slice A2 k c2) (spI l2)::R))=>take_any hU'.out.ok (hU'.out.like.vf hF'.out) hW);unfold takeOut at htk;rw[hU'.out.like.count]at htk;have hE:wr.drew.cell? ⟨bx,4,none⟩=some (.slice A2 k c2):=d5;cases hfr:freeL (bk S2.cur 1) S.count with
  |none=>
   rw[hfr]at htk;have hfit:Hid (fitP S x.spots n=none):=Lh (by have e1:=hU'.out.eq;rw[←hk'.out,show n-k=(n-k-1)+1 by omega]at e1;rw[←e1];unfold upP;rw[hU'.out.like.count,hfr]);replace htk:=Lh htk;clear hfr;go_wp2_with fail;refine wp_region_E (S:=fun w'=>w'.cell? ⟨bx,4,none⟩=some (.slice A2 k c2)) 13 (by kernel_rfl) ?_;simp only[List.size_toArray,List.length_cons,List.length_nil,Nat.reduceAdd];refine wpE_tk (i:=0) (v:=?_) hE rfl ?_ ?_;rotate_left
   ·rintro w e1;go_simp;try with_reducible rfl
   simp only[Act.put,gD];refine wpE_tk (i:=1) (v:=?_) hE rfl ?_ ?_;rotate_left
   ·rintro w e1;go_simp;try with_reducible rfl
   simp only[Act.put,gD];refine wpE_tk (i:=2) (v:=?_) hE rfl ?_ ?_;rotate_left
   ·rintro w e1;go_simp;try with_reducible rfl
   simp only[Act.put,gD];refine wpE_tk (i:=3) (v:=?_) hE rfl ?_ ?_;rotate_left
   ·rintro w e1;go_simp;try with_reducible rfl
   simp only[Act.put,gD];refine wpE_tk (i:=4) (v:=?_) hE rfl ?_ ?_;rotate_left
   ·rintro w e1;go_simp;try with_reducible rfl
   simp only[Act.put,gD];refine wpE_tk (i:=5) (v:=?_) hE rfl ?_ ?_;rotate_left
   ·rintro w e1;go_simp;try with_reducible rfl
   simp only[Act.put,gD];refine wpE_tk (i:=6) (v:=?_) hE rfl ?_ ?_;rotate_left
   ·rintro w e1;go_simp;try with_reducible rfl
   simp only[Act.put,gD];refine wpE_tk (i:=7) (v:=?_) hE rfl ?_ ?_;rotate_left
   ·rintro w e1;go_simp;try with_reducible rfl
   simp only[Act.put,gD];refine wpE_one (i:=8) (by kernel_rfl) rfl (fun K hK=>?_);go_simp;go_at_call 141;refine(htk.out _ hU'.out.sep.drew).mono ?_;rintro e w3 ⟨rfl,a3,hC3,h3⟩;refine⟨rfl,?_⟩;unfold fitOut;rw[hfit.out];have h5:Sep w0 w3 (.box bx 118 (infoC x (.slice A2 k c2))::intsR (.slice A2 k c2) (spI l2)::volR f q p S2 a3::R):=Sep.sel [1,2,0] h3 (by decide) (by simp);exact⟨rfl,S2,a3,hU'.out.like,hC3,h5.drop 2⟩
  |some j=>
   rw[hfr]at htk;have hjc:=(freeL_some hfr).1;have heq:Hid (upP (n-(k+1)) (S2.put 1 (setB (bk S2.cur 1) j)) (l2++[j])=fitP S x.spots n):=Lh (by
    have e1:=hU'.out.eq;rw[←hk'.out,show n-k=(n-(k+1))+1 by omega]at e1;rw[←e1]
    conv=>rhs;unfold upP
    rw[hU'.out.like.count,hfr])
   obtain⟨i0,hknf,hz0,hz1,hz2⟩:=info_of (show(Tryz.prog.info? 3).map (fun i=>(i.zero,i.size,i.bytes))=some (some (.int .i64 0),1,8)from info_int);(have hll:(spI l2).length=k:=by unfold spI;rw[List.length_map];exact hk'.out.symm);replace htk:=Lh htk;have hjc':=Lh hjc;have hll':=Lh hll;clear hfr hjc hll;go_wp2_with fail;refine wp_region_E (S:=fun w'=>w'.cell? ⟨bx,4,none⟩=some (.slice A2 k c2)) 13 (by kernel_rfl) ?_;simp only[List.size_toArray,List.length_cons,List.length_nil,Nat.reduceAdd];refine wpE_tk (i:=0) (v:=?_) hE rfl ?_ ?_;rotate_left
   ·rintro w e1;go_simp;try with_reducible rfl
   simp only[Act.put,gD];refine wpE_tk (i:=1) (v:=?_) hE rfl ?_ ?_;rotate_left
   ·rintro w e1;go_simp;try with_reducible rfl
   simp only[Act.put,gD];refine wpE_tk (i:=2) (v:=?_) hE rfl ?_ ?_;rotate_left
   ·rintro w e1;go_simp;try with_reducible rfl
   simp only[Act.put,gD];refine wpE_tk (i:=3) (v:=?_) hE rfl ?_ ?_;rotate_left
   ·rintro w e1;go_simp;try with_reducible rfl
   simp only[Act.put,gD];refine wpE_tk (i:=4) (v:=?_) hE rfl ?_ ?_;rotate_left
   ·rintro w e1;go_simp;try with_reducible rfl
   simp only[Act.put,gD];refine wpE_tk (i:=5) (v:=?_) hE rfl ?_ ?_;rotate_left
   ·rintro w e1;go_simp;try with_reducible rfl
   simp only[Act.put,gD];refine wpE_tk (i:=6) (v:=?_) hE rfl ?_ ?_;rotate_left
   ·rintro w e1;go_simp;try with_reducible rfl
   simp only[Act.put,gD];refine wpE_tk (i:=7) (v:=?_) hE rfl ?_ ?_;rotate_left
   ·rintro w e1;go_simp;try with_reducible rfl
   simp only[Act.put,gD];refine wpE_one (i:=8) (by kernel_rfl) rfl (fun K hK=>?_);go_simp;go_at_call 141;refine(htk.out _ hU'.out.sep.drew).mono ?_;rintro e w3 ⟨rfl,a3,hC3,h3⟩;(have d6:w3.cell? ⟨bx,4,none⟩=some (.slice A2 k c2):=by rw[h3.bC 1 rfl 4];rfl);have h4:=h3.alloc (.cells #[.int .i64 (j:Nat)] 3);(have d7:(w3.alloc (.cells #[.int .i64 (j:Nat)] 3)).cell? ⟨bx,4,none⟩=some (.slice A2 k c2):=by rw[h4.bC 1 rfl 4];rfl);have hY:Hid (Sep w0 (w3.alloc (.cells #[.int .i64 (j:Nat)] 3)) (.sl 3 1 (.slice A2 k c2) k ((spI l2).map (.int .i64))::volR f q p (S2.put 1 (setB (bk S2.cur 1) j)) a3:: .box bx 118 (infoC x (.slice A2 k c2))::R)):=Lh (by have h5:Sep w0 (w3.alloc (.cells #[.int .i64 (j:Nat)] 3)) (intsR (.slice A2 k c2) (spI l2)::volR f q p (S2.put 1 (setB (bk S2.cur 1) j)) a3:: .box bx 118 (infoC x (.slice A2 k c2))::R):=Sep.sel [2,0,1] h4 (by decide) (by simp);unfold intsR at h5;rw[hll'.out]at h5;exact h5);have hrd:=cells_new w3 #[.int .i64 (j:Nat)] 3;have hrd3:Hid (Rd (w3.alloc (.cells #[.int .i64 (j:Nat)] 3)) 1 (.slice (some ⟨w3.heap.size,0,none⟩) 1 1) 1 [.int .i64 (j:Nat)]):=Lh ⟨rfl,_,_,rfl,Nat.le_refl _,by unfold maxLen;omega,fun _=>⟨_,rfl,by simp,hrd _ rfl⟩⟩;have hC3':=Lh hC3;clear h3 h4 hrd htk hE hC3 d5;dsimp only;refine hK _ _ (fun _=>d6) ?_;clear hK K;(try simp only[Act.put,gD]);refine wpE_one (i:=9) (by kernel_rfl) rfl (fun K hK=>?_);go_simp;refine hK _ _ (fun _=>d7) ?_;clear hK K;(try simp only[Act.put,gD]);refine wpE_one (i:=10) (by kernel_rfl) rfl (fun K hK=>?_);refine step_append_any_sep 0 (by rfl) _ _ 61 (by rfl) 3 i0 (.int .i64 0) 1 8 Tryz.underlying61 hknf hz0 hz1 hz2 rfl (by decide) hY.out (.slice A2 k c2) k _ (by rfl) (by rfl) (.slice (some ⟨w3.heap.size,0,none⟩) 1 1) 1 [.int .i64 (j:Nat)] (by rfl) hrd3.out (by simp[Value.oneCell']) (by unfold maxLen;omega) (by omega) ?_;intro v4 w4 hS4 hz4;(have d8:w4.cell? ⟨bx,4,none⟩=some (.slice A2 k c2):=by rw[hS4.bC 2 rfl 4];rfl);have f8:w4.frozen? ⟨bx,4,none⟩=false:=hS4.bF 2 rfl 4;obtain⟨A4,c4,e4⟩:=hS4.sl_shape 0 rfl;subst e4;have hS5:=Lh (hS4.bS 2 rfl 4 (.slice A4 (k+1) c4));clear hS4 hY hrd3 d6 d7;refine hK _ _ (fun _=>d8) ?_;clear hK K;(try simp only[Act.put,gD]);refine wpE_one (i:=11) (by kernel_rfl) rfl (fun K hK=>?_);go_simp;refine hK _ _ (fun _=>d8) ?_;clear hK K;(try simp only[Act.put,gD]);refine wpE_one (i:=12) (by kernel_rfl) rfl (fun K hK=>?_);go_simp;refine hK _ _ (fun _=>d8) ?_;clear hK K;(try simp only[Act.put,gD]);refine wpE_one (i:=13) (by kernel_rfl) rfl (fun K hK=>?_);go_simp;refine hK _ _ (fun h=>absurd rfl h) ?_;clear hK K;(try simp only[Act.put,gD]);refine wpE_done (by kernel_rfl) ?_ _;go_wp2_with fail;go_roundg (n-(k+1))
   case measure=>rw[←hk'.out];omega
   (have h6:Sep w0 (w4.setCell ⟨bx,4,none⟩ (.slice A4 (k+1) c4)) (volR f q p (S2.put 1 (setB (bk S2.cur 1) j)) a3:: .box bx 118 (infoC x (.slice A4 (k+1) c4))::intsR (.slice A4 (k+1) c4) (spI (l2++[j]))::R):=by have h7:Sep w0 _ _:=Sep.sel [1,2,0] hS5.out (by decide) (by simp);(have e9:spI (l2++[j])=spI l2++[((j:Nat):Int)]:=by unfold spI;rw[List.map_append];rfl);rw[e9];unfold intsR;rw[List.length_append,hll'.out,List.map_append];exact h7);(have hl9:(l2++[j]).length=k+1:=by rw[List.length_append,←hk'.out];rfl);exact Lh ⟨S2.put 1 (setB (bk S2.cur 1) j),l2++[j],a3,.slice A4 (k+1) c4,⟨by rw[hl9];exact heq.out,hU'.out.like.put _ _,fun t ht=>by
    rcases List.mem_append.1 ht with h|h
    ·exact hU'.out.lt t h
    rw[List.mem_singleton]at h;rw[h];exact hjc'.out,by rw[hl9];omega,hC3'.out,by first |exact h6|exact h6.drew⟩,by rw[hl9]⟩
 obtain⟨k,hk⟩:∃k,m=k+1:=⟨m-1,by omega⟩;obtain⟨s,hl1,hl2,hl3,hl4⟩:=last_of (l:=l) (m:=k) (by rw[←hm'.out];exact hk);have hll:(spI l).length=m:=by unfold spI;rw[List.length_map];exact hm'.out.symm
 obtain⟨g,cap,e,hg,_,hcap,hmax⟩:=hD'.out.sep.sl_form 2 rfl (by rw[hll];omega);rw[hll]at e;cases e;have hS0:Sep w0 wr (volR f q p S1 a1:: .box bx 118 (infoC x (.slice (some ⟨g,0,none⟩) m c1)):: .sl 3 1 (.slice (some ⟨g,0,none⟩) m c1) m ((spI l).map (.int .i64))::R):=by have:=hD'.out.sep;unfold intsR at this;rw[hll]at this;exact this
 have ck:wr.cell? ⟨g,k,none⟩=some (.int .i64 (s:Nat)):=by rw[hS0.cellAt 2 rfl k (by omega)];unfold spI;rw[List.getElem?_map,List.getElem?_map,hl3];rfl
 have hcut:=hS0.sl_cut 2 rfl k (by omega);have hgv:=fun W (hW:Sep w0 W (volR f q p S1 a1:: .box bx 118 (infoC x (.slice (some ⟨g,0,none⟩) m c1)):: .sl 3 1 (.slice (some ⟨g,0,none⟩) m c1) m ((spI l).map (.int .i64))::R))=>give_any (i:=s) hD'.out.ok (hD'.out.like.vf hF'.out) (by rw[hD'.out.like.count];exact hD'.out.lt s (by rw[hl1];simp)) hW
 have hgv':=Lh hgv;have hS0':=Lh hS0;have q1:(n:Int)<m:=by omega
 have q2:(m:Int)-1=k:=by omega
 have q3:IntKind.i64.wrap (k:Int)=k:=IntWalk.i64_in _ (by omega);have q4:(0:Int)≤k:=by omega
 have q5:(k:Int)<m:=by omega
 have q6:(m:Int)≤c1:=by omega
 have q7:(k:Int)≤c1:=by omega
 have q8:k≤c1:=by omega
 have hl':=Lh (And.intro hl1 (And.intro hl2 (And.intro hl3 hl4)));have hk':=Lh hk;have hE:wr.drew.cell? ⟨bx,4,none⟩=some (.slice (some ⟨g,0,none⟩) m c1)∧wr.drew.cell? ⟨g,k,none⟩=some (.int .i64 (s:Nat)):=⟨d4,ck⟩;clear hgv hS0 hl1 hl2 hl3 hl4 hk hcut hll hg hmax;go_wp2_with fail;refine wp_region_E (S:=fun w'=>w'.cell? ⟨bx,4,none⟩=some (.slice (some ⟨g,0,none⟩) m c1)∧w'.cell? ⟨g,k,none⟩=some (.int .i64 (s:Nat))) 16 (by kernel_rfl) ?_;simp only[List.size_toArray,List.length_cons,List.length_nil,Nat.reduceAdd];refine wpE_tk (i:=0) (v:=?_) hE rfl ?_ ?_;rotate_left
 ·rintro w ⟨e1,e2⟩;go_simp;try with_reducible rfl
 simp only[Act.put,gD];refine wpE_tk (i:=1) (v:=?_) hE rfl ?_ ?_;rotate_left
 ·rintro w ⟨e1,e2⟩;go_simp;try with_reducible rfl
 simp only[Act.put,gD];refine wpE_tk (i:=2) (v:=?_) hE rfl ?_ ?_;rotate_left
 ·rintro w ⟨e1,e2⟩;go_simp;try with_reducible rfl
 simp only[Act.put,gD];refine wpE_tk (i:=3) (v:=?_) hE rfl ?_ ?_;rotate_left
 ·rintro w ⟨e1,e2⟩;go_simp;try with_reducible rfl
 simp only[Act.put,gD];refine wpE_tk (i:=4) (v:=?_) hE rfl ?_ ?_;rotate_left
 ·rintro w ⟨e1,e2⟩;go_simp;try with_reducible rfl
 simp only[Act.put,gD];refine wpE_tk (i:=5) (v:=?_) hE rfl ?_ ?_;rotate_left
 ·rintro w ⟨e1,e2⟩;go_simp;try with_reducible rfl
 simp only[Act.put,gD];refine wpE_tk (i:=6) (v:=?_) hE rfl ?_ ?_;rotate_left
 ·rintro w ⟨e1,e2⟩;go_simp;try with_reducible rfl
 simp only[Act.put,gD];refine wpE_tk (i:=7) (v:=?_) hE rfl ?_ ?_;rotate_left
 ·rintro w ⟨e1,e2⟩;go_simp;try with_reducible rfl
 simp only[Act.put,gD];refine wpE_tk (i:=8) (v:=?_) hE rfl ?_ ?_;rotate_left
 ·rintro w ⟨e1,e2⟩;go_simp;try with_reducible rfl
 simp only[Act.put,gD];refine wpE_tk (i:=9) (v:=?_) hE rfl ?_ ?_;rotate_left
 ·rintro w ⟨e1,e2⟩;go_simp;try with_reducible rfl
 simp only[Act.put,gD];refine wpE_tk (i:=10) (v:=?_) hE rfl ?_ ?_;rotate_left
 ·rintro w ⟨e1,e2⟩;go_simp;try with_reducible rfl
 simp only[Act.put,gD];refine wpE_tk (i:=11) (v:=?_) hE rfl ?_ ?_;rotate_left
 ·rintro w ⟨e1,e2⟩;go_simp;try with_reducible rfl
 simp only[Act.put,gD];refine wpE_tk (i:=12) (v:=?_) hE rfl ?_ ?_;rotate_left
 ·rintro w ⟨e1,e2⟩;go_simp;try with_reducible rfl
 simp only[Act.put,gD];refine wpE_tk (i:=13) (v:=?_) hE rfl ?_ ?_;rotate_left
 ·rintro w ⟨e1,e2⟩;go_simp;try with_reducible rfl
 simp only[Act.put,gD];refine wpE_tk (i:=14) (v:=?_) hE rfl ?_ ?_;rotate_left
 ·rintro w ⟨e1,e2⟩;go_simp;try with_reducible rfl
 simp only[Act.put,gD];refine wpE_one (i:=15) (by kernel_rfl) rfl (fun K hK=>?_);go_simp;go_at_call 140;refine(hgv'.out _ hS0'.out.drew).mono ?_;rintro e w3 ⟨rfl,a2,hC2,h3⟩;have d5:w3.drew.cell? ⟨bx,4,none⟩=some (.slice (some ⟨g,0,none⟩) m c1):=by rw[h3.drew.bC 1 rfl 4];rfl
 have f5:=h3.drew.bF 1 rfl 4;have d6:w3.cell? ⟨bx,4,none⟩=some (.slice (some ⟨g,0,none⟩) m c1)∧w3.cell? ⟨g,k,none⟩=some (.int .i64 (s:Nat)):=⟨d5,by rw[h3.cellAt 2 rfl k (by omega)];unfold spI;rw[List.getElem?_map,List.getElem?_map,hl'.out.2.2.1];rfl⟩;have hS3:=Lh h3;replace hC2:=Lh hC2;clear h3 hgv' hS0' hE ck d4;dsimp only;refine hK _ _ (fun _=>d6) ?_;clear hK K;try simp only[Act.put,gD]
 refine wpE_done (by kernel_rfl) ?_ _;clear d6;go_wp2_with fail;refine wp_region_E (S:=fun w'=>w'.cell? ⟨bx,4,none⟩=some (.slice (some ⟨g,0,none⟩) m c1)) 14 (by kernel_rfl) ?_;simp only[List.size_toArray,List.length_cons,List.length_nil,Nat.reduceAdd];refine wpE_tk (i:=0) (v:=?_) d5 rfl ?_ ?_;rotate_left
 ·rintro w e1;go_simp;try with_reducible rfl
 simp only[Act.put,gD];refine wpE_tk (i:=1) (v:=?_) d5 rfl ?_ ?_;rotate_left
 ·rintro w e1;go_simp;try with_reducible rfl
 simp only[Act.put,gD];refine wpE_tk (i:=2) (v:=?_) d5 rfl ?_ ?_;rotate_left
 ·rintro w e1;go_simp;try with_reducible rfl
 simp only[Act.put,gD];refine wpE_tk (i:=3) (v:=?_) d5 rfl ?_ ?_;rotate_left
 ·rintro w e1;go_simp;try with_reducible rfl
 simp only[Act.put,gD];refine wpE_tk (i:=4) (v:=?_) d5 rfl ?_ ?_;rotate_left
 ·rintro w e1;go_simp;try with_reducible rfl
 simp only[Act.put,gD];refine wpE_tk (i:=5) (v:=?_) d5 rfl ?_ ?_;rotate_left
 ·rintro w e1;go_simp;try with_reducible rfl
 simp only[Act.put,gD];refine wpE_tk (i:=6) (v:=?_) d5 rfl ?_ ?_;rotate_left
 ·rintro w e1;go_simp;try with_reducible rfl
 simp only[Act.put,gD];refine wpE_tk (i:=7) (v:=?_) d5 rfl ?_ ?_;rotate_left
 ·rintro w e1;go_simp;try with_reducible rfl
 simp only[Act.put,gD];refine wpE_tk (i:=8) (v:=?_) d5 rfl ?_ ?_;rotate_left
 ·rintro w e1;go_simp;try with_reducible rfl
 simp only[Act.put,gD];refine wpE_tk (i:=9) (v:=?_) d5 rfl ?_ ?_;rotate_left
 ·rintro w e1;go_simp;try with_reducible rfl
 simp only[Act.put,gD];refine wpE_tk (i:=10) (v:=?_) d5 rfl ?_ ?_;rotate_left
 ·rintro w e1;go_simp;try with_reducible rfl
 simp only[Act.put,gD];refine wpE_tk (i:=11) (v:=?_) d5 rfl ?_ ?_;rotate_left
 ·rintro w e1;go_simp;try with_reducible rfl
 simp only[Act.put,gD];refine wpE_one (i:=12) (by kernel_rfl) rfl (fun K hK=>?_);go_simp;refine hK _ _ (fun _=>d5) ?_;clear hK K;try simp only[Act.put,gD]
 refine wpE_one (i:=13) (by kernel_rfl) rfl (fun K hK=>?_);go_simp;refine hK _ _ (fun _=>d5) ?_;clear hK K;try simp only[Act.put,gD]
 refine wpE_one (i:=14) (by kernel_rfl) rfl (fun K hK=>?_);go_simp;refine hK _ _ (fun h=>absurd rfl h) ?_;clear hK K;try simp only[Act.put,gD]
 refine wpE_done (by kernel_rfl) ?_ _;have h4:Sep w0 (w3.setCell ⟨bx,4,none⟩ (.slice (some ⟨g,0,none⟩) k c1)) (volR f q p (S1.put 1 (clrB (bk S1.cur 1) s)) a2:: .box bx 118 (infoC x (.slice (some ⟨g,0,none⟩) k c1))::intsR (.slice (some ⟨g,0,none⟩) k c1) (spI l.dropLast)::R):=by have h5:=(hS3.out.bS 1 rfl 4 (.slice (some ⟨g,0,none⟩) k c1)).sl_cut 2 rfl k (by omega);(have hl5:(spI l.dropLast).length=k:=by unfold spI;rw[List.length_map];exact hl'.out.2.2.2);(have e5:((spI l).map (Value.int .i64)).take (k*1)=(spI l.dropLast).map (Value.int .i64):=by rw[Nat.mul_one,←List.map_take];congr 1;unfold spI;rw[←List.map_take];congr 1;rw[hl'.out.1,List.take_append_of_le_length (by rw[hl'.out.2.2.2];exact Nat.le_refl _),List.take_of_length_le (by rw[hl'.out.2.2.2];exact Nat.le_refl _),←hl'.out.1]);rw[e5]at h5;unfold intsR;rw[hl5];exact h5
 have h4':=Lh h4;clear h4 hS3;go_wp2_with fail;go_roundg k
 case measure=>rw[←hm'.out,hk'.out];exact Nat.lt_succ_self k
 refine Lh ⟨S1.put 1 (clrB (bk S1.cur 1) s),l.dropLast,a2,.slice (some ⟨g,0,none⟩) k c1,⟨?_,hD'.out.like.put _ _,fun t ht=>hD'.out.lt t (by rw[hl'.out.1];exact List.mem_append_left _ ht),by rw[hl'.out.2.2.2];omega,hC2.out,h4'.out.drew⟩,hl'.out.2.2.2.symm⟩;have e1:=hD'.out.eq;rw[←hm'.out,hk'.out,show k+1-n=(k-n)+1 by omega]at e1;rw[←e1,hl'.out.2.2.2];show _=downP (k-n) (S1.put 1 (clrB (bk S1.cur 1) (l.getLastD 0))) l.dropLast
 rw[hl'.out.2.1]
end
theorem bk_set_ne (c:Blks) {i j:Nat} (x:List UInt8) (h:j≠i):bk (c.set i x) j=bk c j:=by unfold bk;rw[gH,List.getElem?_set_ne (fun e=>h e.symm),←gH]
structure Used (S S':VS) (k:Nat):Prop where
 wB:S'.wB=S.wB
 wI:S'.wI=S.wI
 nodes:S'.nodes=S.nodes
 names:S'.names=S.names
 nb:S'.nb=S.nb
 blk:∀j,j≠1→bk S'.cur j=bk S.cur j
 m:S'.m=S.m+k
theorem Used.refl (S:VS):Used S S 0:=⟨rfl,rfl,rfl,rfl,rfl,fun _ _=>rfl,rfl⟩
theorem Used.put {S T:VS} {k:Nat} (u:List UInt8) (h:Used (S.put 1 u) T k):Used S T (k+1):=
 ⟨h.wB,h.wI,h.nodes,h.names,h.nb,fun j hj=>(h.blk j hj).trans (bk_set_ne _ _ hj),by rw[h.m];show S.m+1+k=_;omega⟩
theorem downP_used :∀(k:Nat) (S:VS) (l:List Nat),Used S (downP k S l).1 k
 |0,S,l=>.refl S
 |k+1,S,l=>(downP_used k _ _).put _
theorem downP_list :∀(k:Nat) (S:VS) (l:List Nat),(downP k S l).2=l.take (l.length-k)
 |0,S,l=>by(show l=_);rw[Nat.sub_zero,List.take_length]
 |k+1,S,l=>by(show(downP k _ l.dropLast).2=_);rw[downP_list k,List.length_dropLast,List.dropLast_eq_take,List.take_take];congr 1;omega
theorem upP_used :∀(k:Nat) (S:VS) (l:List Nat) {S1:VS} {l1:List Nat},upP k S l=some (S1,l1)→Used S S1 k∧l1.length=l.length+k∧l<+:l1
 |0,S,l,S1,l1,h=>by cases h;exact⟨.refl S,rfl,List.prefix_refl _⟩
 |k+1,S,l,S1,l1,h=>by
  unfold upP at h;split at h
  ·cases h
  rename_i j hj;obtain⟨h1,h2,h3⟩:=upP_used k _ _ h;exact⟨h1.put _,by rw[h2,List.length_append];simp;omega,(List.prefix_append l [j]).trans h3⟩
theorem Used.trans {S T U:VS} {i j:Nat} (h:Used S T i) (g:Used T U j):Used S U (i+j):=
 ⟨g.wB.trans h.wB,g.wI.trans h.wI,g.nodes.trans h.nodes,g.names.trans h.names,g.nb.trans h.nb,fun k hk=>(g.blk k hk).trans (h.blk k hk),by rw[g.m,h.m];omega⟩
theorem fitP_used {S S1:VS} {l l1:List Nat} {n:Nat} (h:fitP S l n=some (S1,l1)):Used S S1 ((l.length-n)+(n-l.length))∧l1.length=n:=by
 unfold fitP at h;have h1:=downP_used (l.length-n) S l;have h2:=downP_list (l.length-n) S l;have h3:(downP (l.length-n) S l).2.length=l.length-(l.length-n):=by rw[h2,List.length_take];omega
 obtain⟨h4,h5,_⟩:=upP_used _ _ _ h;rw[h3]at h4 h5;refine⟨?_,by rw[h5];omega⟩;have h6:=h1.trans h4;rw[show l.length-n+(n-(l.length-(l.length-n)))=(l.length-n)+(n-l.length)by omega]at h6;exact h6
theorem fitP_down {S:VS} {l:List Nat} {n:Nat} (h:n≤l.length):∃S1,fitP S l n=some (S1,l.take n):=by
 unfold fitP;have h2:=downP_list (l.length-n) S l;rw[show l.length-(l.length-n)=n by omega]at h2;have h3:(downP (l.length-n) S l).2.length=n:=by rw[h2,List.length_take];omega
 rw[h3,Nat.sub_self,h2];exact⟨_,rfl⟩
theorem Used.ino {S T:VS} {k:Nat} (h:Used S T k) (n:Nat):inoP T.cur n=inoP S.cur n:=by unfold inoP;rw[h.blk _ (by omega)]
def VI0 :VI:=⟨0,0,0,0,[]⟩
theorem VI0_ok :VI0.ok:=⟨by decide,by decide,by decide,by decide,by decide,fun k hk=>by cases hk⟩
section
variable {w0 w:World} {R:List Asn} {f q p:Nat} {S:VS} {a:VA}
set_option maxRecDepth 100000 in
set_option maxHeartbeats 2000000 in
theorem drop_any {n:Nat} {S1:VS} (hC:VC S a) (hF:VF S) (hn:n<S.names) (hok:(inoP S.cur n).spots.length≤28) (hsp:∀s∈(inoP S.cur n).spots,s<S.count) (hW:SmallW S) (hfit:fitP S (inoP S.cur n).spots 0=some (S1,[])) (h:Sep w0 w (volR f q p S a::R)):
  Calls Tryz.prog 102 #[.pointer (some ⟨f,0,none⟩),.int .i64 n] w fun e w'=>e= .returned (.tuple #[])∧∃a',VC (S1.keep n VI0) a'∧Sep w0 w' (volR f q p (S1.keep n VI0) a'::R):=by
 have hin:=inode_any hC hF hn hok h;have hU:=(fitP_used hfit).1;have hft:Hid (∀W bx v a1,VC S a1→Sep w0 W (volR f q p S a1:: .box bx 118 (infoC (inoP S.cur n) v)::intsR v (spI (inoP S.cur n).spots)::R)→
   Calls Tryz.prog 89 #[.pointer (some ⟨f,0,none⟩),.pointer (some ⟨bx,0,none⟩),.int .i64 0] W fun e w'=>e= .returned (.tuple #[])∧∃a2,VC S1 a2∧Sep w0 w' (volR f q p S1 a2::R)):=Lh fun W bx v a1 hC1 hS=>by
  refine(fit_any (n:=0) hC1 hF hok (by omega) hsp hS).mono ?_;intro e w' ho;unfold fitOut at ho;rw[hfit]at ho;obtain⟨rfl,a2,v2,hL,hC2,h9⟩:=ho;have h5:Sep w0 w' (.box bx 118 (infoC (inoP S.cur n) v2)::intsR v2 (spI [])::volR f q p S1 a2::R):=Sep.sel [1,2,0] h9 (by decide) (by simp);exact⟨rfl,a2,hC2,h5.drop 2⟩
 have hkp:Hid (∀W a2,VC S1 a2→Sep w0 W (volR f q p S1 a2::R)→Calls Tryz.prog 90 #[.pointer (some ⟨f,0,none⟩),.int .i64 (n:Nat),.agg #[.int .i64 0,.int .i64 0,.int .i64 0,.int .i64 0,.slice none 0 0]] W fun e w'=>e= .returned (.tuple #[])∧∃a',VC (S1.keep n VI0) a'∧Sep w0 w' (volR f q p (S1.keep n VI0) a'::R)):=Lh fun W a2 hC2 hS=>
  keep_any (x:=VI0) (v:=.slice none 0 0) hC2 ⟨by rw[hU.names];exact hF.names,by unfold VS.data;rw[hU.names,hU.nb];exact hF.room⟩ (by rw[hU.names];exact hn) VI0_ok (by rw[hU.ino];exact hok) ⟨by rw[hU.wB];exact hW.b0,by rw[hU.wB];exact hW.b1,by rw[hU.wI];exact hW.i0,by rw[hU.wI];exact hW.i1⟩ (fun w' X _=>⟨rfl,none,0,rfl,Nat.le_refl _,by unfold maxLen;omega,fun h=>absurd h (by decide)⟩) hS
 clear hC hF hn hok hsp hW hfit h hU;unfold infoV at hin;go_enter Tryz.func102,Tryz.ntmps102;go_wp2_with(first |(go_at_call 64;refine hin.mono ?_;rintro e w9 ⟨v,a1,rfl,hR,h9⟩;obtain⟨A9,c9,e9⟩:=h9.sl_shape 0 rfl;subst e9;have hs:=h9.bN 118 (infoC (inoP S.cur n) (.slice A9 (spI (inoP S.cur n).spots).length c9));have hft2:=hft.out _ _ _ _ hR.ok (Sep.sel [2,0,1] hs (by decide) (by simp));clear hs h9 hR hin;unfold infoC at*)|(go_at_call 89;refine hft2.mono ?_;rintro e w8 ⟨rfl,a2,hC2,h8⟩;have hkp2:=hkp.out _ _ hC2 h8;clear hC2 h8 hft2)|(go_at_call 90;refine hkp2.mono ?_;rintro e w7 ⟨rfl,h7⟩;replace h7:=Lh h7;clear hkp2))
 go_end0
 exact⟨rfl,h7.out⟩
end
end Go.Proofs.YteihmbaimbogaaaGreat
