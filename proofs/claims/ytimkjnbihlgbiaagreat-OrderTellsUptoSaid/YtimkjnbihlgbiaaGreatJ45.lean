/- OrderGW, laid together. -/
import Derived.Test.YtimkjnbihlgbiaaGreatJ41
namespace Go.Proofs.YtimkjnbihlgbiaaGreat
open Go.RowKit
set_option linter.unusedVariables false
set_option linter.unusedSimpArgs false
section
variable {w0 w:World} {q gw gu m:Nat} {vr:Value} {ready wait:List Int} {us:List Value} {users:List (List Int)} {R:List Asn}
theorem zw_len (h:us.length=users.length):(List.zipWith intsR us users).length=us.length:=by rw[List.length_zipWith,h,Nat.min_self]
theorem ord_R (h:us.length=users.length) (k:Nat):(ordAs q gw gu m vr ready wait us users R)[us.length+k+4]? =R[k]? :=by
 show(List.zipWith intsR us users++R)[us.length+k]? =_
 rw[List.getElem?_append_right (by rw[zw_len h];omega),zw_len h,Nat.add_sub_cancel_left]
theorem ord_setR (h:us.length=users.length) (k:Nat) (X:Asn):(ordAs q gw gu m vr ready wait us users R).set (us.length+k+4) X=ordAs q gw gu m vr ready wait us users (R.set k X):=by
 show _::_::_::_::((List.zipWith intsR us users++R).set (us.length+k) X)=_
 rw[List.set_append_right _ _ (by rw[zw_len h];omega),zw_len h,Nat.add_sub_cancel_left];rfl
end
theorem ints_push (g n c:Nat) (out:List Int) (x:Int) (hn:out.length=n):(Asn.sl 3 1 (.slice (some ⟨g,0,none⟩) (n+1) c) (n+1) (out.map (.int .i64)++[.int .i64 x]))=intsR (.slice (some ⟨g,0,none⟩) (n+1) c) (out++[x]):=by subst hn;unfold intsR;rw[List.map_append,List.length_append];rfl
def ordR (b:Nat) (ov:Value) (out:List Int) (KT:Asn) (nv fv av sv:Value):List Asn:=[intsR ov out,KT,.box b 25 #[nv,fv],.box (b+1) 26 #[av],.box (b+1+1) 28 #[sv]]
section
variable {w0 w:World} {q gw gu m b:Nat} {vr ov nv fv av sv:Value} {ready wait out:List Int} {us:List Value} {users:List (List Int)} {KT X Y:Asn}
theorem ord_box0 (hue:us.length=users.length) (u:Value) (h:Sep w0 w (X::Y::ordAs q gw gu m vr ready wait us users (ordR b ov out KT nv fv av sv))):Sep w0 (w.setCell ⟨b,0,none⟩ u) (X::Y::ordAs q gw gu m vr ready wait us users (ordR b ov out KT u fv av sv)):=by have hi:(X::Y::ordAs q gw gu m vr ready wait us users (ordR b ov out KT nv fv av sv))[us.length+2+4+2]? =some (.box b 25 #[nv,fv]):=(ord_R (q:=q) (gw:=gw) (gu:=gu) (m:=m) (vr:=vr) (ready:=ready) (wait:=wait) hue 2).trans rfl;have h1:Sep w0 (w.setCell ⟨b,0,none⟩ u) (X::Y::(ordAs q gw gu m vr ready wait us users (ordR b ov out KT nv fv av sv)).set (us.length+2+4) (.box b 25 (#[nv,fv].setIfInBounds 0 u))):=h.bS (us.length+2+4+2) hi 0 u;rw[ord_setR hue 2]at h1;exact h1
theorem ord_box1 (hue:us.length=users.length) (u:Value) (h:Sep w0 w (X::Y::ordAs q gw gu m vr ready wait us users (ordR b ov out KT nv fv av sv))):Sep w0 (w.setCell ⟨b,1,none⟩ u) (X::Y::ordAs q gw gu m vr ready wait us users (ordR b ov out KT nv u av sv)):=by have hi:(X::Y::ordAs q gw gu m vr ready wait us users (ordR b ov out KT nv fv av sv))[us.length+2+4+2]? =some (.box b 25 #[nv,fv]):=(ord_R (q:=q) (gw:=gw) (gu:=gu) (m:=m) (vr:=vr) (ready:=ready) (wait:=wait) hue 2).trans rfl;have h1:Sep w0 (w.setCell ⟨b,1,none⟩ u) (X::Y::(ordAs q gw gu m vr ready wait us users (ordR b ov out KT nv fv av sv)).set (us.length+2+4) (.box b 25 (#[nv,fv].setIfInBounds 1 u))):=h.bS (us.length+2+4+2) hi 1 u;rw[ord_setR hue 2]at h1;exact h1
theorem ord_keep (hue:us.length=users.length) (h:Sep w0 w (Y::X::ordAs q gw gu m vr ready wait us users (ordR b ov out KT nv fv av sv))):Sep w0 w (ordAs q gw gu m vr ready wait us users (ordR b ov out X nv fv av sv)):=by have h1:=Sep.inplaceG (us.length+1+4) (Sep.drop 1 h) ((ord_R hue 1).trans rfl);rw[ord_setR hue 1]at h1;exact h1
end
theorem ord_startG {w0 W:World} {q gw gu m b:Nat} {xss:List (List Int)} {nv fv av sv:Value} (hm:xss.length=m)
  (h0:Sep w0 W [.box q 61 (queueCells (.slice none 0 0)),.sl 3 1 (.slice none 0 0) 0 [],.sl 36 1 (.slice (some ⟨gu,0,none⟩) m m) m (List.replicate m (.slice none 0 0)),.sl 3 1 (.slice (some ⟨gw,0,none⟩) m m) m (List.replicate m (.int .i64 0)),.box (b+1+1) 28 #[sv],.box (b+1) 26 #[av],.box b 25 #[nv,fv]]):
  Sep w0 W (ordAs q gw gu m (.slice none 0 0) (readyQ xss 0) (waitQ xss 0) (List.replicate m (.slice none 0 0)) (usersQ xss 0) (ordR b (.slice none 0 0) [] .emp nv fv av sv)):=by
 have h1:Sep w0 W ([.box q 61 (queueCells (.slice none 0 0)),.sl 3 1 (.slice none 0 0) 0 [],.sl 3 1 (.slice (some ⟨gw,0,none⟩) m m) m (List.replicate m (.int .i64 0)),.sl 36 1 (.slice (some ⟨gu,0,none⟩) m m) m (List.replicate m (.slice none 0 0))]++ordR b (.slice none 0 0) [] .emp nv fv av sv):=
  Sep.sel [2,3,5,4,0,1,8,7,6] (h0.emp_shut.sl_nil 3 1) (by decide) (by simp)
 have h2:=h1.nils m;rw[List.append_assoc]at h2;have h:=h2.perm (List.Perm.append_left _ List.perm_append_comm);unfold ordAs;have e1:(waitQ xss 0).map (Value.int .i64)=List.replicate m (.int .i64 0):=by
  apply List.ext_getElem
  ·simp[waitQ,hm]
  intro j h1 h2;simp[waitQ]
 rw[e1];unfold usersQ;rw[hm];exact h
set_option maxRecDepth 100000 in
set_option maxHeartbeats 8000000 in
theorem order_g (thr:Bool) {xss:List (List Int)} {w:World} {vn:Value} {m:Nat} (hn:RowsAt w vn xss) (hm:xss.length=m) (hm9:m≤1000) (hx:refused xss=0) (hr:roundRows xss=[]) {nv fv av sv:Value} {T0:TR} {vs:List Value} (h:TreeAt w nv fv T0.1 T0.2 vs) {xs:List Ins} (hxl:xs.length=m) (ha:InsAt w av xs) {cs:List Value} (hsv:StockAt w sv cs) {gr:TR→Int→Int×Int} {nx:TR→Int→TR} {Inv:TR→Prop} (hI:StepsG xs cs gr nx Inv) (hi:Inv T0) {TT:List Int} (hT:orderG thr gr nx xss T0=some TT):
  Calls Tryz.prog 11 #[.agg #[nv,fv],av,vn,sv,.bool thr] w fun e w'=>∃v,e= .returned (.tuple #[v,.int .i64 0])∧Sep w w' [intsR v TT]:=by
 obtain⟨hTs,hLo⟩:=hI.loose _ hi;have hlo:=fun W (hW:Below w.heap.size w W)=>loose_any (h.below hW) hTs
 rw[ok_loose hLo]at hlo;have hro:=fun W (hW:Below w.heap.size w W)=>round_any (hn.below hW)
 rw[hx,hr]at hro;obtain⟨An,cn,rfl,hmn⟩:=hn.shape;obtain⟨A1,c1,rfl,hm1⟩:=h.nodes.shape;obtain⟨A2,c2,rfl,hm2⟩:=h.files.shape;obtain⟨Aa,ca,rfl,hma⟩:=ha.shape;obtain⟨Ak,ck,rfl,hmk⟩:=hsv.1.shape;rw[hxl]at hma;have ha2:InsAt w (.slice Aa m ca) xs:=by rw[hxl]at ha;exact ha
 have e3:(Value.slice Aa xs.length ca)= .slice Aa m ca:=by rw[hxl]
 rw[e3];clear ha e3;have hro':=Lh hro;have hlo':=Lh hlo;obtain⟨i0,hif,hz0,hz1,hz2⟩:=info_parts info_int;obtain⟨i1,hj,hy0,hy1,hy2⟩:=info_parts info_rowsQ;have hmk1:=fun W:World=>run_make_n (P:=Tryz.prog) 36 3 i0 (.int .i64 0) 8 Tryz.underlying36 hif hz0 hz1 hz2 rfl .i64 .i64 m (by omega) (by unfold maxLen;omega) W
 have hmk2:=fun W:World=>run_make_n (P:=Tryz.prog) 27 36 i1 (.slice none 0 0) 24 Tryz.underlying27 hj hy0 hy1 hy2 rfl .i64 .i64 m (by omega) (by unfold maxLen;omega) W
 have hS0:=(((Sep.nil w).bN 25 #[.slice A1 T0.1.length c1,.slice A2 T0.2.length c2]).bN 26 #[.slice Aa m ca]).bN 28 #[.slice Ak cs.length ck];simp only[World.size_alloc]at hS0;have hS0':=Lh hS0;have hB0':=Lh hS0.below;have hn':=Lh hn;have hx':=Lh hx;have hT':=Lh hT;have h':=Lh h;have ha':=Lh ha2;have hsv':=Lh hsv;have hI':=Lh hI;have hi':=Lh hi;have hxl':=Lh hxl;have hmeq:=Lh hm;have b1:((xss.length:Int) !=(m:Int))=false:=by simp;omega
 clear hro hlo hn hS0 hx hr h ha2 hI hi hsv hT hxl hTs hLo;rw[hm]at b1 ⊢;clear hm;go_enter Tryz.func11,Tryz.ntmps11;go_wp2_with(first |(go_at_call 18;refine(hlo'.out _ hB0'.out).mono ?_;rintro e w1 ⟨rfl,hb1⟩;have hS1:=Lh (hS0'.out.pure hb1);have hb1':=Lh hS1.out.below;clear hb1)|(go_at_call 19;refine(hmeq.out▸hro'.out _ hb1'.out).mono ?_;rintro e w2 ⟨v,rfl,hR⟩;obtain⟨A9,c9,rfl⟩:=hR.len0;have hS2:=hS1.out.pure hR.below;(have d6:w2.cell? ⟨w.heap.size+1,0,none⟩=some (.slice Aa m ca):=by rw[hS2.bC 1 rfl 0];rfl);have hS3:=hS2.made 3 (.int .i64 0) m (by unfold maxLen;omega);(have d7:(w2.alloc (.cells (madeCells #[.int .i64 0] m) 3)).cell? ⟨w.heap.size+1,0,none⟩=some (.slice Aa m ca):=by rw[hS3.bC 2 rfl 0];rfl);have hS3':=Lh hS3;clear hR hS2 hS3));have hS5:=((hS3'.out.made 36 (.slice none 0 0) m (by unfold maxLen;omega)).sl_nil 3 1).bN 61 (queueCells (.slice none 0 0));simp only[World.size_alloc]at hS5;have hS8:=ord_startG hmeq.out hS5;generalize w2.heap.size+1+1=q at hS8 ⊢;generalize w2.heap.size+1=gu at hS8 ⊢;generalize w2.heap.size=gw at hS8 ⊢;obtain⟨RR,hRR⟩:∃RR,ordR w.heap.size (.slice none 0 0) [] .emp (.slice A1 T0.1.length c1) (.slice A2 T0.2.length c2) (.slice Aa m ca) (.slice Ak cs.length ck)=RR:=⟨_,rfl⟩;rw[hRR]at hS8;have hRR':=Lh hRR;clear hRR;have hS9:=Lh hS8;clear hS5 hS8 d6 d7 hmk1 hmk2 hS3' hS1 hS0' hlo' hro' hb1' hB0';go_loopw[68] (fun iv wr=>∃(i:Nat) (vr:Value) (us:List Value),i≤m∧iv= .int .i64 i∧us.length=m∧Sep w wr (ordAs q gw gu m vr (readyQ xss i) (waitQ xss i) us (usersQ xss i) RR)) (fun iv _=>m-(intOf iv).toNat)
 case atStart=>exact⟨0,_,List.replicate m (.slice none 0 0),Nat.zero_le _,rfl,by simp,hS9.out⟩
 obtain⟨i,vr,us,hi,rfl,hul,hS⟩:=hrel;by_cases hlt:i<m
 ·(have q1:(0:Int)≤(i:Int):=by omega);(have q2:(i:Int)<(m:Int):=by omega);obtain⟨ad,c',ur,e,h3,h4⟩:=(hn'.out.below hS.below).at_ (k:=i) (by rw[hmeq.out];exact hlt);rw[hmeq.out]at e;cases e;obtain⟨Ar,cr,rfl,hmr⟩:=h4.shape;have hrl:(xss[i]'(by rw[hmeq.out];exact hlt)).length≤1024:=(refused_zero hx'.out).2.1 i _;(have hgood:∀y∈xss[i]'(by rw[hmeq.out];exact hlt),0≤y∧y<(m:Int):=by intro y hy;obtain⟨a2,h2,rfl⟩:=List.mem_iff_getElem.1 hy;have:=(refused_zero hx'.out).2.2 i (by rw[hmeq.out];exact hlt) a2 h2;have e:=hmeq.out;omega);(have hgd:xss.getD i []=xss[i]'(by rw[hmeq.out];exact hlt):=by rw[gH,gE];rfl);generalize xss[i]'(by rw[hmeq.out];exact hlt)=xs at h3 h4 hrl hgood hgd hmr;(have hso:=fun W (hb:Below wr.heap.size wr W)=>sorted_any (w:=W.alloc (.cells #[.slice Ar xs.length cr] 36)) (Bs:=W.heap.size) (cap:=cr) (A:=Ar) (xs:=xs) (by omega) (by simp) (Boxed.new W 36 (.slice Ar xs.length cr)).cell (h4.below (hb.trans ((Below.new W _).mono hb.size))));have hso':=Lh (hso wr (Below.refl _ _));have hS':=Lh hS;have hgd':=Lh hgd;have hgood':=Lh hgood;have hul':=Lh hul;clear hso hS hgd hgood hul h4;go_wp2_with(first |(go_at_call 23;refine(values_any Ar xs.length cr _).mono ?_;rintro e w4 ⟨rfl,rfl⟩)|(go_at_call 22;refine hso'.out.mono ?_;rintro e w5 ⟨v5,rfl,hS5⟩;(have hO5:=(hS'.out.alloc (.cells #[.slice Ar xs.length cr] 36)).join hS5);(have hco5:=Lh (compact_any 0 hO5 rfl (by rw[(sortL_perm xs).length_eq];omega)));clear hS5 hO5)|(go_at_call 21;refine hco5.out.mono ?_;rintro e w6 ⟨v6,rfl,hO6⟩;obtain⟨A6,c6,rfl,_⟩:=(hO6.ints 0 rfl).shape;have hO6':=Lh hO6;clear hO6));obtain⟨L,hL⟩:∃L,L=normL xs:=⟨_,rfl⟩;(have hLg:∀y∈L,0≤y∧y<(m:Int):=fun y hy=>hgood'.out y ((normL_mem xs y).1 (by rw[←hL];exact hy)));(have hLl:L.length≤1024:=by rw[hL];have:=normL_len xs;omega);(have hO7:Sep w w6 (intsR (.slice A6 L.length c6) L::ordAs q gw gu m vr (readyQ xss i) (waitQ xss i) us (usersQ xss i) RR):=by rw[hL];exact hO6'.out);(have e0:Lib.compact (sortL xs)=L:=by rw[hL];rfl);rw[e0];have hO7':=Lh hO7;have hL':=Lh hL;have hLg':=Lh hLg;clear hO6' hO7 hL hLg e0 hco5 hso' hS';go_loopw[79] (fun jv wr2=>∃(j:Nat) (us2:List Value),j≤L.length∧jv= .int .i64 j∧us2.length=m∧Sep w wr2 (intsR (.slice A6 L.length c6) L::ordAs q gw gu m vr (readyQ xss i) (waitQ xss i) us2 (addU i (L.take j) (usersQ xss i)) RR)) (fun jv _=>L.length-(intOf jv).toNat)
  case atStart=>exact⟨0,us,Nat.zero_le _,rfl,hul'.out,by rw[List.take_zero];exact hO7'.out⟩
  obtain⟨j,us2,hj2,rfl,hul2,hS2⟩:=hrel;by_cases hjl:j<L.length
  ·obtain⟨k,hk⟩:∃k:Nat,L[j]=(k:Int):=⟨(L[j]).toNat,by have:=(hLg'.out _ (List.getElem_mem hjl)).1;omega⟩;(have hkm:k<m:=by have:=(hLg'.out _ (List.getElem_mem hjl)).2;omega);obtain⟨g6,c6',e,_⟩:=hS2.sl_form 0 rfl (by omega);cases e;(have d0:wr.cell? ⟨g6,j,none⟩=some (.int .i64 k):=by rw[hS2.cellAt 0 rfl j (by omega),List.getElem?_map,gE hjl,hk];rfl);(have hulen:(addU i (L.take j) (usersQ xss i)).length=m:=by rw[addU_len,usersQ_len,hmeq.out]);(have hrows:∀l∈addU i (L.take j) (usersQ xss i),l.length≤2000000:=by intro l hl;have h1:=addU_rows _ _ _ (usersQ_rows (fun l hl=>by obtain⟨a,ha,rfl⟩:=List.mem_iff_getElem.1 hl;exact(refused_zero hx'.out).2.1 a ha) i) l hl;rw[List.length_take]at h1;omega);have hsnoc:=addU_snoc i (L[j]) (L.take j) (usersQ xss i);(have htk:L.take (j+1)=L.take j++[L[j]]:=by rw[List.take_add_one,gE hjl];rfl);rw[←htk,hk,Int.toNat_natCast]at hsnoc;obtain⟨users,husers⟩:∃u,u=addU i (L.take j) (usersQ xss i):=⟨_,rfl⟩;rw[←husers]at hS2 hulen hrows hsnoc;obtain⟨l0,hl0⟩:∃l,users[k]? =some l:=⟨_,gE (by omega)⟩;obtain⟨u0,hu0⟩:∃u,us2[k]? =some u:=⟨_,gE (by omega)⟩;have hl0':=hrows l0 (gG hl0);rw[gH,hl0,Option.getD_some]at hsnoc;have hrow:=ord_at (A0:=intsR (.slice (some ⟨g6,0,none⟩) L.length c6) L) (q:=q) (gw:=gw) (gu:=gu) (m:=m) (vr:=vr) (ready:=readyQ xss i) (wait:=waitQ xss i) (R:=RR) hu0 hl0;obtain⟨A0,k0,rfl,_⟩:=(hS2.ints (k+5) hrow).shape;have d1:wr.cell? ⟨gu,k,none⟩=some (.slice A0 l0.length k0):=(hS2.cellAt 4 rfl k (by omega)).trans hu0;have hSa:=Lh (hS2.alloc (.cells #[.int .i64 i] 3));(have q3:(0:Int)≤(j:Int):=by omega);(have q4:(j:Int)<(L.length:Int):=by omega);(have q5:(0:Int)≤(k:Int):=by omega);(have q6:(k:Int)<(m:Int):=by omega);have hrow':=Lh hrow;have hsnoc':=Lh hsnoc;have hul2':=Lh hul2;have hulen':=Lh hulen;have hu0':=Lh hu0;clear hS2 hrow hsnoc hul2 hulen hu0 hl0 hrows husers htk hk;go_wp2_with(at_builtin;refine wpList_append_sep (k+5) rfl _ _ 36 rfl 3 i0 (.int .i64 0) 1 8 Tryz.underlying36 hif hz0 hz1 hz2 rfl (by decide) hSa.out _ l0.length (l0.map (.int .i64)) hrow'.out rfl ⟨wr.heap.size,0,none⟩ 1 1 [.int .i64 i] rfl rfl (cell_one_new _ _ _) (by simp[Value.oneCell']) (by decide) (by unfold maxLen;omega) (by omega) ?_);intro g9 c9 w9 hS9 hz9;(have e9:(.sl 3 1 (.slice (some ⟨g9,0,none⟩) (l0.length+1) c9) (l0.length+1) (l0.map (.int .i64)++[.int .i64 i]):Asn)=intsR (.slice (some ⟨g9,0,none⟩) (l0.length+1) c9) (l0++[(i:Int)]):=by unfold intsR;rw[List.map_append,List.length_append];rfl);rw[e9]at hS9;have hfin:=ord_user (by rw[hul2'.out];exact hkm) (by rw[hulen'.out];exact hkm) hS9;rw[←hsnoc'.out]at hfin;(have f0:w9.cell? ⟨gu,k,none⟩=some (.slice A0 l0.length k0):=by have hi4:((intsR (.slice (some ⟨g6,0,none⟩) L.length c6) L::ordAs q gw gu m vr (readyQ xss i) (waitQ xss i) us2 users RR).set (k+5) (intsR (.slice (some ⟨g9,0,none⟩) (l0.length+1) c9) (l0++[(i:Int)])))[4]? =some (.sl 36 1 (.slice (some ⟨gu,0,none⟩) m m) m us2):=rfl;exact(hS9.cellAt 4 hi4 k (by omega)).trans hu0'.out);have f1:w9.frozen? ⟨gu,k,none⟩=false:=hS9.frozenAt 4 rfl k;have hfin':=Lh hfin;clear hS9 hz9 hfin e9 hSa;go_wp2_with fail;exact⟨⟨j+1,us2.set k (.slice (some ⟨g9,0,none⟩) (l0.length+1) c9),by omega,by go_num,by rw[List.length_set];exact hul2'.out,hfin'.out⟩,by simp[intOf];omega⟩
  (obtain rfl:j=L.length:=by omega);rw[List.take_length]at hS2;(have hun:addU i L (usersQ xss i)=usersQ xss (i+1):=by rw[hL'.out,←hgd'.out];rfl);rw[hun]at hS2;have hS3:=Sep.drop 1 hS2;have hS4:=hS3.stored 2 rfl i (.int .i64 (L.length:Int));have hwt:=waitQ_set (xss:=xss) (i:=i) (by rw[hmeq.out];exact hlt);rw[hgd'.out,←hL'.out]at hwt;(have hS5:Sep w (wr.setCell ⟨gw,i,none⟩ (.int .i64 (L.length:Int))) (ordAs q gw gu m vr (readyQ xss i) (waitQ xss (i+1)) us2 (usersQ xss (i+1)) RR):=by rw[←hwt];unfold ordAs;rw[List.map_set];exact hS4);(have d0:(wr.setCell ⟨gw,i,none⟩ (.int .i64 (L.length:Int))).cell? ⟨gw,i,none⟩=some (.int .i64 (L.length:Int)):=by rw[hS5.cellAt 2 rfl i (by omega),←hwt,List.map_set,List.getElem?_set_self (by rw[List.length_map,waitQ_len,hmeq.out];exact hlt)]);have d1:wr.frozen? ⟨gw,i,none⟩=false:=hS3.frozenAt 2 rfl i;(have d2:wr.cell? ⟨gw,i,none⟩=some (((waitQ xss i).map (Value.int .i64))[i]'(by rw[List.length_map,waitQ_len,hmeq.out];exact hlt)):=by rw[hS3.cellAt 2 rfl i (by omega)];exact gE _);generalize((waitQ xss i).map (Value.int .i64))[i]'(by rw[List.length_map,waitQ_len,hmeq.out];exact hlt)=wv at d2;(have hrq:readyQ xss (i+1)=if L.length=0 then readyQ xss i++[(i:Int)]else readyQ xss i:=by rw[hL'.out,←hgd'.out];rfl);have hlen1:=readyQ_len xss i;have hrlt:=readyQ_lt xss i;by_cases h0:L.length=0
  ·rw[if_pos h0]at hrq;(have b0:((L.length:Int)==0)=true:=by rw[h0];rfl);have hpu:=put_any hS5 (i:Int) (by omega) hrlt (by omega);have hpu':=Lh hpu;have hrq':=Lh hrq;have hul2':=Lh hul2;clear hS2 hS3 hS4 hS5 hpu hrq hwt hun h0 hul2;go_wp2_with(go_at_call 24;refine hpu'.out.mono ?_;rintro e w9 ⟨rfl,v9,hP⟩;have hP':=Lh hP;clear hP);exact⟨⟨i+1,v9,us2,by omega,by go_num,hul2'.out,by rw[hrq'.out];exact hP'.out⟩,by simp[intOf];omega⟩
  rw[if_neg h0]at hrq;(have b0:((L.length:Int)==0)=false:=by rw[beq_eq_false_iff_ne];omega);have hS5':=Lh hS5;have hrq':=Lh hrq;have hul2':=Lh hul2;clear hS2 hS3 hS4 hS5 hrq hwt hun h0 hul2;go_wp2_with fail;exact⟨⟨i+1,vr,us2,by omega,by go_num,hul2'.out,by rw[hrq'.out];exact hS5'.out⟩,by simp[intOf];omega⟩
 obtain rfl:i=m:=by omega
 have hS':=Lh hS;have hul':=Lh hul;clear hS hul;go_wp2_with fail;have hst:Sep w wr (ordAs q gw gu i vr (readyQ xss i) (waitQ xss i) us (usersQ xss i) (ordR w.heap.size (.slice none 0 0) [] .emp (.slice A1 T0.1.length c1) (.slice A2 T0.2.length c2) (.slice Aa i ca) (.slice Ak cs.length ck))):=by rw[hRR'.out];exact hS'.out
 have hrun:runG thr gr nx i (usersQ xss i) T0 (waitQ xss i) (readyQ xss i) []=some TT:=by
  have:=hT'.out;unfold orderG at this
  rwa [hmeq.out]at this
 have hue:us.length=(usersQ xss i).length:=by rw[hul'.out,usersQ_len,hmeq.out]
 have hw1:(waitQ xss i).length=i:=by rw[waitQ_len,hmeq.out]
 have hul2:us.length=i:=hul'.out;generalize usersQ xss i=users at hst hrun hue;have hst':=Lh hst;have hrun':=Lh hrun;have hue':=Lh hue;have hw1':=Lh hw1;have hul2':=Lh hul2;clear hst hrun hue hw1 hul2 hS' hRR' hT' hul';go_loopg[23] i (fun g ov wr3=>∃(f:Nat) (vr:Value) (ready wait out:List Int) (T:TR) (nv fv:Value) (KT:Asn),Hid (g=f)∧Hid (runG thr gr nx f users T wait ready out=some TT)∧Hid (wait.length=i)∧Hid (Inv T)∧Hid (∀(w':World) (As:List Asn) (k:Nat),Sep w w' As→As[k]? =some KT→∃vs,TreeAt w' nv fv T.1 T.2 vs)∧Sep w wr3 (ordAs q gw gu i vr ready wait us users (ordR w.heap.size ov out KT nv fv (.slice Aa i ca) (.slice Ak cs.length ck))))
 case atStart=>exact⟨i,vr,readyQ xss i,waitQ xss i,[],T0,_,_,.emp,rfl,hrun'.out,hw1'.out,hi'.out,fun w' As k hs _=>⟨vs,h'.out.below hs.below⟩,hst'.out⟩
 clear hst' h' hi' hrun' hw1';obtain⟨f,vr,ready,wait,out,T,nv,fv,KT,hg,hrun,hwl,hinv,hkt,hS⟩:=hrel;cases ready with
 |nil=>
  (have hout:TT=out:=by have h:=hrun.out;cases f<;>(unfold runG at h;exact(Option.some.inj h).symm));obtain⟨Av,cv,rfl,_⟩:=(hS.ints 1 rfl).shape;(have d0:wr.cell? ⟨q,0,none⟩=some (.slice Av 0 cv):=by rw[hS.bC 0 rfl 0];rfl);have hS':=Lh hS;have hout':=Lh hout;clear hS hout;go_wp2_with fail
  go_ret2
  refine⟨_,rfl,?_⟩;rw[hout'.out];exact hS'.out.last (n:=us.length+0+4) ((ord_R hue'.out 0).trans rfl)
 |cons a r=>
  obtain⟨f,rfl⟩:∃f',f=f'+1:=by
   cases f with
   |zero=>have h:=hrun.out;unfold runG at h;cases h
   |succ f=>exact⟨f,rfl⟩
  have h:=hrun.out;unfold runG at h;split at h
  case isFalse=>cases h
  rename_i hgd;(have hrlen:0<(a::r).length:=by simp);obtain⟨rl,hrl⟩:∃rl,a::r=rl:=⟨_,rfl⟩;rw[hrl]at h hgd hS hrlen;clear hrl hrun;have hpl:=pickG_lt thr gr T hrlen;obtain⟨b,hb⟩:∃b,pickG thr gr T rl=b:=⟨_,rfl⟩;rw[hb]at h hgd hpl;obtain⟨g1,g2,g3,g4,g5,g6⟩:=hgd;obtain⟨k,hk⟩:∃k:Nat,rl.getD b 0=(k:Int):=⟨(rl.getD b 0).toNat,by omega⟩;rw[hk]at h g1 g2 g3;rw[Int.toNat_natCast]at g2 g3 h;(have hki:k<i:=by rw[←hul2'.out,hue'.out];exact g2);obtain⟨L,hL⟩:∃L,users[k]? =some L:=⟨_,gE g2⟩;rw[gH,hL,Option.getD_some]at g3 h;cases hd:decG L wait (rl.take b++rl.drop (b+1))with
  |none=>rw[hd]at h;cases h
  |some sr=>
  rw[hd]at h;simp only at h;obtain⟨u0,hu0⟩:∃u,us[k]? =some u:=⟨_,gE (by rw[hul2'.out];exact hki)⟩;obtain⟨gv,cv,rfl,_⟩:=hS.sl_form 1 rfl hrlen;(have d0:wr.cell? ⟨q,0,none⟩=some (.slice (some ⟨gv,0,none⟩) rl.length cv):=by rw[hS.bC 0 rfl 0];rfl);(have hpos:(0:Int)<(rl.length:Int):=by omega);(have hk2:rl[b]? =some (k:Int):=by rw[←hk,gH,gE hpl];rfl);have hrun2:=Lh h;have hd':=Lh hd;have hL':=Lh hL;have hu0':=Lh hu0;have hb':=Lh hb;have hS':=Lh hS;(have g6':Hid (∀y∈rl,0≤y∧y.toNat<i):=fun y hy=>by have:=g6 y hy;rw[←hul2'.out,hue'.out];exact this);(have q1:(0:Int)≤(k:Int):=by omega);(have q2:(k:Int)<(i:Int):=by omega);clear hS h hd hL hu0 hb g1 g2 g6;have hls:Hid (out.length≤1000∧rl.length≤1000∧L.length≤1048576):=⟨g4,g5,g3⟩;cases thr
  focus
   have hb0:b=0:=by rw[←hb'.out];rfl
   subst hb0
   have hta:=takeAt_any hk2 hS'.out (by omega)
   obtain⟨rq,hrq⟩:∃rq,rl.take 0++rl.drop (0+1)=rq:=⟨_,rfl⟩
   rw[hrq]at hta hd'
   replace hta:=Lh hta
   clear hrq
   have hinv2:Hid (Inv (stepG false nx T k)):=hinv.out
   have hkt2:Hid (∀(w':World) (As:List Asn) (j:Nat),Sep w w' As→As[j]? =some KT→∃vs,TreeAt w' nv fv (stepG false nx T k).1 (stepG false nx T k).2 vs):=hkt.out
   clear hk2 hS' hinv hkt
   go_wp2_with(first |(go_at_call 28;refine hta.out.mono ?_;rintro e w3 ⟨rfl,v3,hP⟩;(have hS3:Hid (Sep w _ (ordAs q gw gu i v3 rq wait us users (ordR w.heap.size u23 out KT nv fv (.slice Aa i ca) (.slice Ak cs.length ck)))):=hP.alloc (.cells #[.int .i64 k] 3));clear hP hta)|(at_builtin;refine wpList_append_sep (us.length+0+4) rfl _ _ 36 rfl 3 i0 (.int .i64 0) 1 8 Tryz.underlying36 hif hz0 hz1 hz2 rfl (by decide) hS3.out _ out.length (out.map (.int .i64)) ((ord_R hue'.out 0).trans rfl) rfl ⟨w3.heap.size,0,none⟩ 1 1 [.int .i64 k] rfl rfl (cell_one_new _ _ _) (by simp[Value.oneCell']) (by decide) (by unfold maxLen;omega) (by omega) ?_))
   intro g9 c9 w9 hS9 hz9
   replace hS9:=Lh hS9
   clear hS3 hz9
   obtain⟨KT2,hKT2⟩:∃vt,vt=KT:=⟨_,rfl⟩
   obtain⟨nv2,hnv2⟩:∃vt,vt=nv:=⟨_,rfl⟩
   obtain⟨fv2,hfv2⟩:∃vt,vt=fv:=⟨_,rfl⟩
   obtain⟨av2,hav0⟩:∃vt,vt=Value.slice Aa i ca:=⟨_,rfl⟩
   rw[←hKT2,←hnv2,←hfv2]at hkt2
   rw[←hKT2,←hnv2,←hfv2,←hav0]at hS9
   have hav2:=Lh hav0
   clear hKT2 hnv2 hfv2 hav0
  rotate_left 1
  focus
   have hbb:bestI (gr T) rl rl.length=b:=hb'.out
   have hbest:Hid (∀t,0<t→bestI (gr T) rl t<t):=bestI_lt (gr T) rl
   obtain⟨hTs,hLo⟩:=hI'.out.loose _ hinv.out
   have hbb':=Lh hbb
   have hTL:=Lh (And.intro hTs hLo)
   clear hbb hTs hLo
   go_wp2_with fail
   go_loopw[24,25,121] (fun bv lv kv wr4=>∃t:Nat,t≤rl.length∧kv= .int .i64 t∧bv= .int .i64 (bestI (gr T) rl t:Nat)∧lv=(if t=0 then Value.complex .f64 0 0 else cplx (gr T (rl.getD (bestI (gr T) rl t) 0)).1 (gr T (rl.getD (bestI (gr T) rl t) 0)).2)∧Hid (t≠0→SmallI (gr T (rl.getD (bestI (gr T) rl t) 0)).1∧SmallI (gr T (rl.getD (bestI (gr T) rl t) 0)).2)∧Sep w wr4 (ordAs q gw gu i (.slice (some ⟨gv,0,none⟩) rl.length cv) rl wait us users (ordR w.heap.size u23 out KT nv fv (.slice Aa i ca) (.slice Ak cs.length ck)))) (fun _ _ kv _=>rl.length-(intOf kv).toNat)
   case atStart=>exact⟨0,Nat.zero_le _,rfl,rfl,rfl,Lh (fun h=>absurd rfl h),hS'.out⟩
   clear hS'
   obtain⟨t,ht,rfl,rfl,rfl,hsm0,hS4⟩:=hrel
   by_cases hlt:t<rl.length
   focus
    have q1:(0:Int)≤(t:Int):=by omega
    have q2:(t:Int)<(rl.length:Int):=by omega
    obtain⟨hy1,hy2⟩:=g6'.out _ (List.getElem_mem hlt)
    obtain⟨n,hn2⟩:∃n:Nat,rl[t]=(n:Int):=⟨(rl[t]).toNat,by omega⟩
    have hni:n<i:=by rw[hn2,Int.toNat_natCast]at hy2;exact hy2
    have hk3:rl.getD t 0=(n:Int):=by rw[gH,gE hlt,←hn2];rfl
    have c0:=hS4.cellAt 1 rfl t (by omega)
    rw[List.getElem?_map,gE hlt,hn2]at c0
    simp only[Option.map_some]at c0
    obtain⟨x,hx⟩:∃x,xs[n]? =some x:=⟨_,gE (by rw[hxl'.out];exact hni)⟩
    obtain⟨p,tz,hxp,hxt,⟨o1,o2⟩,hp9,ht9,hact⟩:=hI'.out.act n x hx
    obtain⟨vs2,hTA⟩:=hkt.out _ _ (us.length+1+4) hS4 ((ord_R hue'.out 1).trans rfl)
    obtain⟨a1,a2,_,_⟩:=hact T hinv.out vs2 hTA.len hTA.sizes
    have hG:GrowIn wr w.heap.size (w.heap.size+1) (w.heap.size+1+1) nv fv (.slice Aa i ca) (.slice Ak cs.length ck):=⟨by rw[hS4.bC (us.length+2+4) ((ord_R hue'.out 2).trans rfl) 0];rfl,by rw[hS4.bC (us.length+2+4) ((ord_R hue'.out 2).trans rfl) 1];rfl,by rw[hS4.bC (us.length+3+4) ((ord_R hue'.out 3).trans rfl) 0];rfl,by rw[hS4.bC (us.length+4+4) ((ord_R hue'.out 4).trans rfl) 0];rfl⟩
    have hgw:=growth_g hG hTA hTL.out.1 hTL.out.2 (hsv'.out.below hS4.below) (ha'.out.below hS4.below) hx hxp hxt o1 o2 hp9 ht9 rfl
    rw[←a1,←a2]at hgw
    replace hgw:=Lh hgw
    have hS4':=Lh hS4
    have hpure:Hid (∀W,Below wr.heap.size wr W→Sep w W (ordAs q gw gu i (.slice (some ⟨gv,0,none⟩) rl.length cv) rl wait us users (ordR w.heap.size u23 out KT nv fv (.slice Aa i ca) (.slice Ak cs.length ck)))):=fun W hW=>hS4'.out.pure hW
    clear hS4 hact hTA a1 a2 hG hx hxp hxt o1 o2 hp9 ht9 hy1 hy2 hn2
    generalize hgk:gr T (n:Int)=G at hgw
    have hgk':Hid (gr T (rl.getD t 0)=G):=by rw[hk3];exact hgk
    clear hgk hk3
    by_cases hk0:t=0
    ·subst hk0;have hb1:bestI (gr T) rl 1=0:=rfl;rw[if_pos rfl];go_wp2_with(go_at_call 25;refine hgw.out.mono ?_;rintro e w5 ⟨rfl,hsm,hb5⟩;replace hb5:=Lh hb5;replace hsm:=Lh hsm;clear hgw);go_roundw
     case rel=>exact⟨1,by omega,by go_num,by rw[hb1];rfl,by rw[if_neg (by decide),hb1,hgk'.out],Lh (fun _=>by rw[hb1,hgk'.out];exact hsm.out),hpure.out _ hb5.out⟩
     case measure=>simp[intOf];omega
    ·have hkb:=hbest.out t (by omega);have hsm2:=hsm0.out hk0;generalize hgb:gr T (rl.getD (bestI (gr T) rl t) 0)=Gb at hsm2 ⊢;have hgb':=Lh hgb;rw[if_neg hk0];have hbs:bestI (gr T) rl (t+1)=if lessG G Gb=true then t else bestI (gr T) rl t:=by
      (show(if t=0∨lessG (gr T (rl.getD t 0)) (gr T (rl.getD (bestI (gr T) rl t) 0))=true then t else bestI (gr T) rl t)=_);rw[hgk'.out,hgb'.out];by_cases hl:lessG G Gb=true
      ·rw[if_pos (Or.inr hl),if_pos hl]
      rw[if_neg (fun h0=>h0.elim hk0 hl),if_neg hl]
     have hbs':=Lh hbs;obtain⟨bb,hbb⟩:∃bb,bestI (gr T) rl t=bb:=⟨_,rfl⟩;rw[hbb]at hkb hbs' hgb' ⊢;(have hk1:((t:Int)==0)=false:=by rw[beq_eq_false_iff_ne];omega);obtain⟨lb,hlb⟩:∃lb,lessG G Gb=lb:=⟨_,rfl⟩;have hlb2:(decide (G.1<Gb.1)||(decide (G.1=Gb.1)&&decide (G.2<Gb.2)))=lb:=hlb;rw[hlb]at hbs';(have hls':Hid (SmallI G.1→SmallI G.2→∀W,Calls Tryz.prog 27 #[cplx G.1 G.2,cplx Gb.1 Gb.2] W fun e w'=>e= .returned (.bool lb)∧W=w'):=fun s1 s2 W=>by have h:=cless_any G.1 G.2 Gb.1 Gb.2 s1 s2 hsm2.1 hsm2.2 W;rw[hlb2]at h;exact h);have hsm2':=Lh hsm2;clear hlb hlb2 hgb hbs hbb hsm2 hsm0;cases lb with
     |true=>
      go_wp2_with(first |(go_at_call 25;refine hgw.out.mono ?_;rintro e w5 ⟨rfl,hsm,hb5⟩;(have hls:=Lh (hls'.out hsm.1 hsm.2));replace hb5:=Lh hb5;replace hsm:=Lh hsm;clear hgw)|(go_at_call 27;refine(hls.out _).mono ?_;rintro e w6 ⟨rfl,rfl⟩));go_roundw
      case rel=>exact⟨t+1,by omega,by go_num,by rw[hbs'.out];rfl,by rw[if_neg (by omega),hbs'.out];show cplx G.1 G.2=cplx (gr T (rl.getD t 0)).1 (gr T (rl.getD t 0)).2;rw[hgk'.out],Lh (fun _=>by rw[hbs'.out,if_pos (by trivial),hgk'.out];exact hsm.out),hpure.out _ hb5.out⟩
      case measure=>simp[intOf];omega
     |false=>
      go_wp2_with(first |(go_at_call 25;refine hgw.out.mono ?_;rintro e w5 ⟨rfl,hsm,hb5⟩;(have hls:=Lh (hls'.out hsm.1 hsm.2));replace hb5:=Lh hb5;replace hsm:=Lh hsm;clear hgw)|(go_at_call 27;refine(hls.out _).mono ?_;rintro e w6 ⟨rfl,rfl⟩));go_roundw
      case rel=>exact⟨t+1,by omega,by go_num,by rw[hbs'.out];rfl,by rw[if_neg (by omega),hbs'.out,if_neg (by decide),hgb'.out],Lh (fun _=>by rw[hbs'.out,if_neg (by decide),hgb'.out];exact hsm2'.out),hpure.out _ hb5.out⟩
      case measure=>simp[intOf];omega
   obtain rfl:t=rl.length:=by omega
   rw[if_neg (by omega:¬rl.length=0),hbb'.out]
   have hta:=takeAt_any hk2 hS4 (by omega)
   obtain⟨rq,hrq⟩:∃rq,rl.take b++rl.drop (b+1)=rq:=⟨_,rfl⟩
   rw[hrq]at hta hd'
   replace hta:=Lh hta
   clear hrq hS4 hsm0 hbest hk2
   go_wp2_with(go_at_call 28;refine hta.out.mono ?_;rintro e w3 ⟨rfl,v3,hP0⟩;(have hP:Hid (Sep w w3 (ordAs q gw gu i v3 rq wait us users (ordR w.heap.size u23 out KT nv fv (.slice Aa i ca) (.slice Ak cs.length ck)))):=hP0);clear hP0 hta)
   obtain⟨x,hx⟩:∃x,xs[k]? =some x:=⟨_,gE (by rw[hxl'.out];exact hki)⟩
   obtain⟨p,tz,hxp,hxt,⟨o1,o2⟩,hp9,ht9,hact⟩:=hI'.out.act k x hx
   obtain⟨vs2,hTA⟩:=hkt.out _ _ (us.length+1+4) hP.out ((ord_R hue'.out 1).trans rfl)
   obtain⟨_,_,a3,a4⟩:=hact T hinv.out vs2 hTA.len hTA.sizes
   obtain⟨st,hst⟩:∃st,doA x.op p tz x.mode x.ref cs ⟨0,T.1,cs0 T.2 vs2,T.2.length⟩=st:=⟨_,rfl⟩
   rw[hst]at a3 a4
   have a34:=Lh (And.intro a3 a4)
   have hdo:=Lh (fun(W:World) (hW:Below w3.heap.size w3 W)=>Do_g (hTA.below hW) hTL.out.1 hTL.out.2 o1 o2 hp9 ht9 ((hsv'.out.below hP.out.below).below hW) hst (fun hz=>(a4 hz).2))
   obtain⟨ga,oa,ca',e,_,_,hga,hcell⟩:=Rd.place (ha'.out.below hP.out.below) (by rw[hxl'.out];omega) (by decide)
   rw[hxl'.out]at e
   simp only[Value.slice.injEq]at e
   obtain⟨rfl,_,rfl⟩:=e
   have m1:∀w':World,Below w3.heap.size w3 w'→w'.cell? ⟨w.heap.size,0,none⟩=some nv∧w'.cell? ⟨w.heap.size,1,none⟩=some fv∧w'.cell? ⟨w.heap.size+1,0,none⟩=some (.slice (some ⟨ga,oa,none⟩) i ca)∧w'.cell? ⟨w.heap.size+1+1,0,none⟩=some (.slice Ak cs.length ck)∧w'.cell? ⟨ga,oa+k*5,none⟩=some (.int .i64 x.op)∧w'.cell? ⟨ga,oa+k*5+1,none⟩=some (.string ⟨p.toArray⟩)∧w'.cell? ⟨ga,oa+k*5+2,none⟩=some (.string ⟨tz.toArray⟩)∧w'.cell? ⟨ga,oa+k*5+3,none⟩=some (.int .i64 x.mode)∧w'.cell? ⟨ga,oa+k*5+4,none⟩=some (.int .i64 x.ref):=by intro w' hw;have hP4:=hP.out.pure hw;(have s0:w'.cell? ⟨w.heap.size,0,none⟩=some nv:=by rw[hP4.bC (us.length+2+4) ((ord_R hue'.out 2).trans rfl) 0];rfl);(have s1:w'.cell? ⟨w.heap.size,1,none⟩=some fv:=by rw[hP4.bC (us.length+2+4) ((ord_R hue'.out 2).trans rfl) 1];rfl);(have s2:w'.cell? ⟨w.heap.size+1,0,none⟩=some (.slice (some ⟨ga,oa,none⟩) i ca):=by rw[hP4.bC (us.length+3+4) ((ord_R hue'.out 3).trans rfl) 0];rfl);(have s3:w'.cell? ⟨w.heap.size+1+1,0,none⟩=some (.slice Ak cs.length ck):=by rw[hP4.bC (us.length+4+4) ((ord_R hue'.out 4).trans rfl) 0];rfl);(have hic:=fun(f:Nat) (hf:f<5)=>(hcell w' hw (k*5+f) (by have:=hxl'.out;omega)).trans (insCells_at hx f hf));have e0:=hic 0 (by omega);have e1:=hic 1 (by omega);have e2:=hic 2 (by omega);have e3:=hic 3 (by omega);have e4:=hic 4 (by omega);simp only[Ins.cells,hxp,hxt,Nat.add_zero,←Nat.add_assoc,gB,gC]at e0 e1 e2 e3 e4;exact⟨s0,s1,s2,s3,e0,e1,e2,e3,e4⟩
   have hE0:=m1 _ (Below.refl _ _).drew
   have m1':=Lh m1
   obtain⟨An9,cn9,rfl,_⟩:=hTA.nodes.shape
   obtain⟨Af9,cf9,rfl,_⟩:=hTA.files.shape
   unfold insV strV at hdo
   clear m1 hcell hga hact hTA a3 a4 hxp hxt hx o1 o2 hp9 ht9
   refine wp_region_E (S:=fun w'=>w'.cell? ⟨w.heap.size,0,none⟩=some (.slice An9 T.1.length cn9)∧w'.cell? ⟨w.heap.size,1,none⟩=some (.slice Af9 T.2.length cf9)∧w'.cell? ⟨w.heap.size+1,0,none⟩=some (.slice (some ⟨ga,oa,none⟩) i ca)∧w'.cell? ⟨w.heap.size+1+1,0,none⟩=some (.slice Ak cs.length ck)∧w'.cell? ⟨ga,oa+k*5,none⟩=some (.int .i64 x.op)∧w'.cell? ⟨ga,oa+k*5+1,none⟩=some (.string ⟨p.toArray⟩)∧w'.cell? ⟨ga,oa+k*5+2,none⟩=some (.string ⟨tz.toArray⟩)∧w'.cell? ⟨ga,oa+k*5+3,none⟩=some (.int .i64 x.mode)∧w'.cell? ⟨ga,oa+k*5+4,none⟩=some (.int .i64 x.ref)) 12 (by kernel_rfl) ?_
   simp only[List.size_toArray,List.length_cons,List.length_nil,Nat.reduceAdd]
   refine wpE_tk (i:=0) (v:=?_) hE0 rfl ?_ ?_
   rotate_left
   ·rintro w ⟨e1,e2,e3,e4,e5,e6,e7,e8,e9⟩;go_simp;try with_reducible rfl
   simp only[Act.put,gD]
   refine wpE_tk (i:=1) (v:=?_) hE0 rfl ?_ ?_
   rotate_left
   ·rintro w ⟨e1,e2,e3,e4,e5,e6,e7,e8,e9⟩;go_simp;try with_reducible rfl
   simp only[Act.put,gD]
   refine wpE_tk (i:=2) (v:=?_) hE0 rfl ?_ ?_
   rotate_left
   ·rintro w ⟨e1,e2,e3,e4,e5,e6,e7,e8,e9⟩;go_simp;try with_reducible rfl
   simp only[Act.put,gD]
   refine wpE_tk (i:=3) (v:=?_) hE0 rfl ?_ ?_
   rotate_left
   ·rintro w ⟨e1,e2,e3,e4,e5,e6,e7,e8,e9⟩;go_simp;try with_reducible rfl
   simp only[Act.put,gD]
   refine wpE_tk (i:=4) (v:=?_) hE0 rfl ?_ ?_
   rotate_left
   ·rintro w ⟨e1,e2,e3,e4,e5,e6,e7,e8,e9⟩;go_simp;try with_reducible rfl
   simp only[Act.put,gD]
   refine wpE_tk (i:=5) (v:=?_) hE0 rfl ?_ ?_
   rotate_left
   ·rintro w ⟨e1,e2,e3,e4,e5,e6,e7,e8,e9⟩;go_simp;try with_reducible rfl
   simp only[Act.put,gD]
   refine wpE_two (i:=6) (j:=10) (by kernel_rfl) rfl rfl (fun K hK=>?_) (fun K hK=>?_)
   focus
    have hB0:Below w3.heap.size w3 w3.drew:=(Below.refl _ _).drew
    go_simp
    go_at_call 29
    refine(hdo.out _ hB0).mono ?_
    rintro e w4 ⟨A3,n3,c3,A4,n4,c4,rfl,hs4⟩
    have hB4:Below w3.heap.size w3 w4:=hB0.trans (hs4.below.mono (Nat.le_refl _))
    have hE4:=m1'.out _ hB4
    have hSb:Sep w w4 (.keep (fun W=>st.e=0→∃vs',TreeAt W (.slice A3 n3 c3) (.slice A4 n4 c4) (canNs st.Ns) (canCs st.Ns st.Cs) vs')::ordAs q gw gu i v3 rq wait us users (ordR w.heap.size u23 out KT (.slice An9 T.1.length cn9) (.slice Af9 T.2.length cf9) (.slice (some ⟨ga,oa,none⟩) i ca) (.slice Ak cs.length ck))):=hP.out.drew.join hs4
    have hS40:=hSb.bN 25 #[.slice none 0 0,.slice none 0 0]
    have hSF:Hid (Sep w (w4.alloc (.cells #[.slice A3 n3 c3,.slice A4 n4 c4] 25)) (.box w4.heap.size 25 #[.slice A3 n3 c3,.slice A4 n4 c4]:: .keep (fun W=>st.e=0→∃vs',TreeAt W (.slice A3 n3 c3) (.slice A4 n4 c4) (canNs st.Ns) (canCs st.Ns st.Cs) vs')::ordAs q gw gu i v3 rq wait us users (ordR w.heap.size u23 out KT (.slice An9 T.1.length cn9) (.slice Af9 T.2.length cf9) (.slice (some ⟨ga,oa,none⟩) i ca) (.slice Ak cs.length ck)))):=hSb.bN 25 #[.slice A3 n3 c3,.slice A4 n4 c4]
    have hB5:Below w3.heap.size w3 (w4.alloc (.cells #[.slice none 0 0,.slice none 0 0] 25)):=hB4.alloc hB4.size _
    have hE5:=m1'.out _ hB5
    have z0:=hS40.bF 0 rfl 0
    have z1:=hS40.bF 0 rfl 1
    dsimp only
    refine hK _ _ (fun _=>hE4) ?_
    clear hK K
    try simp only[Act.put,gD]
    clear hS40 hs4 hSb
    refine wpE_tk (i:=7) (v:=?_) hE4 rfl ?_ ?_
    rotate_left
    ·rintro w ⟨e1,e2,e3,e4,e5,e6,e7,e8,e9⟩;go_simp;try with_reducible rfl
    simp only[Act.put,gD]
    refine wpE_tk (i:=8) (v:=?_) hE4 rfl ?_ ?_
    rotate_left
    ·rintro w ⟨e1,e2,e3,e4,e5,e6,e7,e8,e9⟩;go_simp;try with_reducible rfl
    simp only[Act.put,gD]
    refine wpE_tk (i:=9) (v:=?_) hE4 rfl ?_ ?_
    rotate_left
    ·rintro w ⟨e1,e2,e3,e4,e5,e6,e7,e8,e9⟩;go_simp;try with_reducible rfl
    simp only[Act.put,gD]
    refine wpE_one (i:=10) (by kernel_rfl) rfl (fun K hK=>?_)
    go_simp
    refine hK _ _ (fun _=>hE5) ?_
    clear hK K
    try simp only[Act.put,gD]
    have hB6:Below w3.heap.size w3 (w4.alloc (.cells #[.slice A3 n3 c3,.slice A4 n4 c4] 25)):=hB4.alloc hB4.size _
    have hE6:=m1'.out _ hB6
    refine wpE_one (i:=11) (by kernel_rfl) rfl (fun K hK=>?_)
    go_simp
    refine hK _ _ (fun _=>hE6) ?_
    clear hK K
    try simp only[Act.put,gD]
    refine wpE_one (i:=12) (by kernel_rfl) rfl (fun K hK=>?_)
    go_simp
    refine hK _ _ (fun h=>absurd rfl h) ?_
    clear hK K
    try simp only[Act.put,gD]
    refine wpE_done (by kernel_rfl) ?_ _
    clear hE0 hE4 hE5 hE6 hB0 hB4 hB5 hB6 z0 z1 m1' hdo
    generalize w4.alloc (.cells #[.slice A3 n3 c3,.slice A4 n4 c4] 25)=w5 at hSF ⊢
    generalize w4.heap.size=bt at hSF ⊢
   rotate_left 1
   focus
    have hSz:Sep w w3.drew (ordAs q gw gu i v3 rq wait us users (ordR w.heap.size u23 out KT (.slice An9 T.1.length cn9) (.slice Af9 T.2.length cf9) (.slice (some ⟨ga,oa,none⟩) i ca) (.slice Ak cs.length ck))):=hP.out.drew
    have hSz2:Sep w (w3.alloc (.cells #[.slice none 0 0,.slice none 0 0] 25)).drew _:=hSz.bN 25 #[.slice none 0 0,.slice none 0 0]
    have hBz:Below w3.heap.size w3 (w3.alloc (.cells #[.slice none 0 0,.slice none 0 0] 25)).drew:=((Below.refl _ _).alloc (Nat.le_refl _) _).drew
    have hEz:=m1'.out _ hBz
    go_simp
    refine hK _ _ (fun _=>hEz) ?_
    clear hK K
    try simp only[Act.put,gD]
    refine wpE_one (i:=6) (by kernel_rfl) rfl (fun K hK=>?_)
    go_simp
    go_at_call 29
    refine(hdo.out _ hBz).mono ?_
    rintro e w4 ⟨A3,n3,c3,A4,n4,c4,rfl,hs4⟩
    have hB4:Below w3.heap.size w3 w4:=hBz.trans (hs4.below.mono hBz.size)
    have hS5:=hSz2.join hs4
    have hE4:=m1'.out _ hB4
    have y0:=hS5.bC 1 rfl 0
    have y1:=hS5.bC 1 rfl 1
    have z0:=hS5.bF 1 rfl 0
    have z1:=hS5.bF 1 rfl 1
    simp only[World.size_drew,gA,gB,gC]at y0 y1 z0 z1
    have hS6:=(hS5.bS 1 rfl 0 (.slice A3 n3 c3)).bS 1 rfl 1 (.slice A4 n4 c4)
    have hSF:Hid (Sep w ((w4.setCell ⟨w3.heap.size,0,none⟩ (.slice A3 n3 c3)).setCell ⟨w3.heap.size,1,none⟩ (.slice A4 n4 c4)) (.box w3.heap.size 25 #[.slice A3 n3 c3,.slice A4 n4 c4]:: .keep (fun W=>st.e=0→∃vs',TreeAt W (.slice A3 n3 c3) (.slice A4 n4 c4) (canNs st.Ns) (canCs st.Ns st.Cs) vs')::ordAs q gw gu i v3 rq wait us users (ordR w.heap.size u23 out KT (.slice An9 T.1.length cn9) (.slice Af9 T.2.length cf9) (.slice (some ⟨ga,oa,none⟩) i ca) (.slice Ak cs.length ck)))):=Sep.perm hS6 (List.Perm.swap _ _ _)
    dsimp only
    refine hK _ _ (fun _=>hE4) ?_
    clear hK K
    try simp only[Act.put,gD]
    clear hS5 hS6 hSz hSz2 hs4
    refine wpE_one (i:=7) (by kernel_rfl) rfl (fun K hK=>?_)
    go_simp
    refine hK _ _ (fun _=>hE4) ?_
    clear hK K
    try simp only[Act.put,gD]
    refine wpE_tk (i:=8) (v:=?_) hE4 rfl ?_ ?_
    rotate_left
    ·rintro w ⟨e1,e2,e3,e4,e5,e6,e7,e8,e9⟩;go_simp;try with_reducible rfl
    simp only[Act.put,gD]
    refine wpE_tk (i:=9) (v:=?_) hE4 rfl ?_ ?_
    rotate_left
    ·rintro w ⟨e1,e2,e3,e4,e5,e6,e7,e8,e9⟩;go_simp;try with_reducible rfl
    simp only[Act.put,gD]
    refine wpE_one (i:=11) (by kernel_rfl) rfl (fun K hK=>?_)
    go_simp
    refine hK _ _ (fun _=>m1'.out _ ((hB4.setCell (by simp) _).setCell (by simp) _)) ?_
    clear hK K
    try simp only[Act.put,gD]
    refine wpE_one (i:=12) (by kernel_rfl) rfl (fun K hK=>?_)
    go_simp
    refine hK _ _ (fun h=>absurd rfl h) ?_
    clear hK K
    try simp only[Act.put,gD]
    refine wpE_done (by kernel_rfl) ?_ _
    clear hE0 hE4 hEz hBz hB4 y0 y1 z0 z1 m1' hdo
    generalize(w4.setCell ⟨w3.heap.size,0,none⟩ (.slice A3 n3 c3)).setCell ⟨w3.heap.size,1,none⟩ (.slice A4 n4 c4)=w5 at hSF ⊢
    generalize w3.heap.size=bt at hSF ⊢
   all_goals
    have r0:=hSF.out.bC 0 rfl 0
    have r1:=hSF.out.bC 0 rfl 1
    have hSt:=Sep.drop 2 hSF.out
    have s0:w5.cell? ⟨w.heap.size,0,none⟩=some (.slice An9 T.1.length cn9):=by rw[hSt.bC (us.length+2+4) ((ord_R hue'.out 2).trans rfl) 0];rfl
    have s1:w5.cell? ⟨w.heap.size,1,none⟩=some (.slice Af9 T.2.length cf9):=by rw[hSt.bC (us.length+2+4) ((ord_R hue'.out 2).trans rfl) 1];rfl
    have y0:w5.frozen? ⟨w.heap.size,0,none⟩=false:=hSt.bF (us.length+2+4) ((ord_R hue'.out 2).trans rfl) 0
    have y1:w5.frozen? ⟨w.heap.size,1,none⟩=false:=hSt.bF (us.length+2+4) ((ord_R hue'.out 2).trans rfl) 1
    simp only[gA,gB,gC]at r0 r1
    clear hSt hP
    by_cases hz:st.e=0
    focus
     have hq:(st.e==0)=true:=by simpa using hz
     have hS7:=Lh ((ord_keep hue'.out (ord_box1 hue'.out (.slice A4 n4 c4) (ord_box0 hue'.out (.slice A3 n3 c3) hSF.out))).alloc (.cells #[.int .i64 k] 3))
     have hinv2:Hid (Inv (stepG true nx T k)):=hI'.out.next _ hinv.out _
     have hkt2:Hid (∀(w':World) (As:List Asn) (j:Nat),Sep w w' As→As[j]? =some (.keep (fun W=>st.e=0→∃vs',TreeAt W (.slice A3 n3 c3) (.slice A4 n4 c4) (canNs st.Ns) (canCs st.Ns st.Cs) vs'))→∃vs,TreeAt w' (.slice A3 n3 c3) (.slice A4 n4 c4) (stepG true nx T k).1 (stepG true nx T k).2 vs):=fun w' As j hs hj=>by have e:stepG true nx T k=(canNs st.Ns,canCs st.Ns st.Cs):=(a34.out.2 hz).1;rw[e];exact hs.kept j hj hz
     clear hSF hz a34
     go_wp2_with(at_builtin;refine wpList_append_sep (us.length+0+4) rfl _ _ 36 rfl 3 i0 (.int .i64 0) 1 8 Tryz.underlying36 hif hz0 hz1 hz2 rfl (by decide) hS7.out _ out.length (out.map (.int .i64)) ((ord_R hue'.out 0).trans rfl) rfl ⟨w5.heap.size,0,none⟩ 1 1 [.int .i64 k] rfl rfl (by have h:=cell_one_new ((w5.setCell ⟨w.heap.size,0,none⟩ (.slice A3 n3 c3)).setCell ⟨w.heap.size,1,none⟩ (.slice A4 n4 c4)) (.int .i64 k) 3;simpa using h) (by simp[Value.oneCell']) (by decide) (by unfold maxLen;omega) (by omega) ?_)
     intro g9 c9 w9 hS9 hz9
     replace hS9:=Lh hS9
     clear hS7 hz9
     generalize Asn.keep (fun W=>st.e=0→∃vs',TreeAt W (.slice A3 n3 c3) (.slice A4 n4 c4) (canNs st.Ns) (canCs st.Ns st.Cs) vs')=KT2 at hS9 hkt2
     generalize Value.slice A3 n3 c3=nv2 at hS9 hkt2 ⊢
     generalize Value.slice A4 n4 c4=fv2 at hS9 hkt2 ⊢
     obtain⟨av2,hav0⟩:∃vt,vt=Value.slice (some ⟨ga,oa,none⟩) i ca:=⟨_,rfl⟩
     rw[←hav0]at hS9
     have hav2:=Lh hav0
     clear hav0
    rotate_left 1
    focus
     have hq:(st.e==0)=false:=by simpa using hz
     have hS7:=Lh ((Sep.drop 2 hSF.out).alloc (.cells #[.int .i64 k] 3))
     have hinv2:Hid (Inv (stepG true nx T k)):=hI'.out.next _ hinv.out _
     have hkt2:Hid (∀(w':World) (As:List Asn) (j:Nat),Sep w w' As→As[j]? =some KT→∃vs,TreeAt w' (.slice An9 T.1.length cn9) (.slice Af9 T.2.length cf9) (stepG true nx T k).1 (stepG true nx T k).2 vs):=by have e:stepG true nx T k=T:=a34.out.1 hz;rw[e];exact hkt.out
     clear hSF hz a34
     go_wp2_with(at_builtin;refine wpList_append_sep (us.length+0+4) rfl _ _ 36 rfl 3 i0 (.int .i64 0) 1 8 Tryz.underlying36 hif hz0 hz1 hz2 rfl (by decide) hS7.out _ out.length (out.map (.int .i64)) ((ord_R hue'.out 0).trans rfl) rfl ⟨w5.heap.size,0,none⟩ 1 1 [.int .i64 k] rfl rfl (cell_one_new _ _ _) (by simp[Value.oneCell']) (by decide) (by unfold maxLen;omega) (by omega) ?_)
     intro g9 c9 w9 hS9 hz9
     replace hS9:=Lh hS9
     clear hS7 hz9
     obtain⟨KT2,hKT2⟩:∃vt,vt=KT:=⟨_,rfl⟩
     obtain⟨nv2,hnv2⟩:∃vt,vt=Value.slice An9 T.1.length cn9:=⟨_,rfl⟩
     obtain⟨fv2,hfv2⟩:∃vt,vt=Value.slice Af9 T.2.length cf9:=⟨_,rfl⟩
     obtain⟨av2,hav0⟩:∃vt,vt=Value.slice (some ⟨ga,oa,none⟩) i ca:=⟨_,rfl⟩
     rw[←hKT2,←hnv2,←hfv2]at hkt2
     rw[←hKT2,←hnv2,←hfv2,←hav0]at hS9
     have hav2:=Lh hav0
     clear hKT2 hnv2 hfv2 hav0
  all_goals
   have hS10:Hid (Sep w w9 (ordAs q gw gu i v3 rq wait us users (ordR w.heap.size (.slice (some ⟨g9,0,none⟩) (out.length+1) c9) (out++[(k:Int)]) KT2 nv2 fv2 av2 (.slice Ak cs.length ck)))):=by have h:=hS9.out;rw[ord_setR hue'.out 0,ints_push _ _ _ _ _ rfl]at h;exact h
   clear hS9
   obtain⟨Au,cu,rfl,hml⟩:=(hS10.out.ints (k+4) (ord_at0 hu0'.out hL'.out)).shape
   have d1:w9.cell? ⟨gu,k,none⟩=some (.slice Au L.length cu):=(hS10.out.cellAt 3 rfl k (by omega)).trans hu0'.out
   go_wp2_with fail
   clear d1
   go_loopw[165] (fun jv wr5=>∃(j:Nat) (vr5:Value) (ready5 wait5:List Int),j≤L.length∧jv= .int .i64 j∧Hid (decG (L.drop j) wait5 ready5=some sr)∧Hid (wait5.length=i)∧Sep w wr5 (ordAs q gw gu i vr5 ready5 wait5 us users (ordR w.heap.size (.slice (some ⟨g9,0,none⟩) (out.length+1) c9) (out++[(k:Int)]) KT2 nv2 fv2 av2 (.slice Ak cs.length ck)))) (fun jv _=>L.length-(intOf jv).toNat)
   case atStart=>exact⟨0,v3,rq,wait,Nat.zero_le _,rfl,hd'.out,hwl.out,hS10.out⟩
   case round=>
    clear hS10;obtain⟨j,vr5,ready5,wait5,hj5,rfl,hdq,hwl5,hS5⟩:=hrel;by_cases hjl:j<L.length
    ·have h5:=hdq.out;rw[List.drop_eq_getElem_cons hjl]at h5;unfold decG at h5;split at h5
     case isFalse=>cases h5
     rename_i hgd;obtain⟨y1,y2,y3,y4,y5⟩:=hgd;obtain⟨gl,cl,e,_⟩:=hS5.sl_form (k+4) (ord_at0 hu0'.out hL'.out) (by omega);cases e;(have d0:wr.cell? ⟨gl,j,none⟩=some (.int .i64 L[j]):=by rw[hS5.cellAt (k+4) (ord_at0 hu0'.out hL'.out) j (by omega),List.getElem?_map,gE hjl];rfl);obtain⟨y,hy⟩:∃y:Nat,L[j]=(y:Int):=⟨(L[j]).toNat,by omega⟩;rw[hy]at d0 h5 y1 y2 y3 y4 y5;rw[Int.toNat_natCast]at y2 y3 y4 h5;rw[hwl5.out]at y2;obtain⟨wv,hwv⟩:∃v,wait5[y]? =some v:=⟨_,gE (by rw[hwl5.out];exact y2)⟩;rw[gH,hwv,Option.getD_some]at y3 y4 h5;(have d1:wr.cell? ⟨gw,y,none⟩=some (.int .i64 wv):=by rw[hS5.cellAt 2 rfl y (by omega),List.getElem?_map,hwv];rfl);have d2:wr.frozen? ⟨gw,y,none⟩=false:=hS5.frozenAt 2 rfl y;have hS6:=ord_wait (x:=wv-1) hS5 (k:=y);(have d3:(wr.setCell ⟨gw,y,none⟩ (.int .i64 (wv-1))).cell? ⟨gw,y,none⟩=some (.int .i64 (wv-1)):=by rw[hS6.cellAt 2 rfl y (by omega),List.getElem?_map,List.getElem?_set_self (by rw[hwl5.out];exact y2)];rfl);(have z1:(0:Int)≤(j:Int):=by omega);(have z2:(j:Int)<(L.length:Int):=by omega);(have z3:(y:Int)<(i:Int):=by omega);(have hwl6:(wait5.set y (wv-1)).length=i:=by rw[List.length_set];exact hwl5.out);have hwl6':=Lh hwl6;have hy':=Lh hy;by_cases h1:wv=1
     ·subst h1;rw[if_pos rfl]at h5;split at h5
      case isFalse=>cases h5
      rename_i hrd;have b0:(((1:Int)-1)==0)=true:=rfl;have hsp:=posI_spec hrd.1 hrd.2.1;have hpu:=put_g hS6 (y:Int) (by omega) hrd.2.2.1 (posI_le _ _) hsp.1 hsp.2 (by omega);have hpu':=Lh hpu;have h5':=Lh h5;clear hS5 hS6 hpu h5 hwv hy hrd hwl6 hsp;go_wp2_with(go_at_call 24;refine hpu'.out.mono ?_;rintro e w7 ⟨rfl,v7,hP7⟩;have hP7':=Lh hP7;clear hP7);exact⟨⟨j+1,v7,insAt ready5 (posI ready5 y) (y:Int),wait5.set y 0,by omega,by go_num,h5'.out,hwl6'.out,hP7'.out⟩,by simp[intOf];omega⟩
     rw[if_neg h1]at h5;(have b0:((wv-1)==0)=false:=by rw[beq_eq_false_iff_ne];omega);have h5':=Lh h5;have hS6':=Lh hS6;clear hS5 hS6 h5 hwv hy hwl6;go_wp2_with fail;exact⟨⟨j+1,vr5,ready5,wait5.set y (wv-1),by omega,by go_num,h5'.out,hwl6'.out,hS6'.out⟩,by simp[intOf];omega⟩
    (obtain rfl:j=L.length:=by omega);have h5:=hdq.out;rw[List.drop_length]at h5;simp only[decG,Option.some.injEq]at h5;subst h5;have hS5':=Lh hS5;clear hS5;go_wp2_with fail;go_roundg f
    case measure=>rw[hg.out];omega
    case rel=>exact⟨f,vr5,ready5,wait5,out++[(k:Int)],_,nv2,fv2,KT2,rfl,hrun2.out,hwl5.out,hinv2.out,hkt2.out,by have h:=hS5'.out;rw[hav2.out]at h;exact h⟩
end Go.Proofs.YtimkjnbihlgbiaaGreat
