/- OrderW, OrderT, ModelHG, ShelfI, laid together. -/
import Derived.Test.YtimkjnbihlgbiaaGreatJ39
namespace Go.Proofs.YtimkjnbihlgbiaaGreat
open Go.RowKit
set_option linter.unusedVariables false
theorem info_rowsQ :(Tryz.prog.info? 36).map (fun i=>(i.zero,i.size,i.bytes))=some (some (.slice none 0 0),1,24):=by kernel_rfl
def ordAs (q gw gu m:Nat) (vr:Value) (ready wait:List Int) (us:List Value) (users:List (List Int)) (R:List Asn):List Asn:=
 .box q 61 (queueCells vr)::intsR vr ready:: .sl 3 1 (.slice (some ⟨gw,0,none⟩) m m) m (wait.map (.int .i64)):: .sl 36 1 (.slice (some ⟨gu,0,none⟩) m m) m us::(List.zipWith intsR us users++R)
section
variable {w0 w w':World} {A0:Asn} {q gw gu m:Nat} {vr:Value} {ready wait:List Int} {us:List Value} {users:List (List Int)} {R:List Asn}
theorem ord_at {k:Nat} {u:Value} {l:List Int} (hu:us[k]? =some u) (hl:users[k]? =some l):(A0::ordAs q gw gu m vr ready wait us users R)[k+5]? =some (intsR u l):=by
 show(List.zipWith intsR us users++R)[k]? =some _
 have h1:=(gF.1 hu).1;have h2:=(gF.1 hl).1;rw[List.getElem?_append_left (by rw[List.length_zipWith];omega)];exact zip_some hu hl
theorem ord_user {k:Nat} {u:Value} {l:List Int} (hk:k<us.length) (hk2:k<users.length) (h:Sep w0 w ((A0::ordAs q gw gu m vr ready wait us users R).set (k+5) (intsR u l))):
  Sep w0 (w.setCell ⟨gu,k,none⟩ u) (A0::ordAs q gw gu m vr ready wait (us.set k u) (users.set k l) R):=by
 have h1:Sep w0 w (A0:: .box q 61 (queueCells vr)::intsR vr ready:: .sl 3 1 (.slice (some ⟨gw,0,none⟩) m m) m (wait.map (.int .i64)):: .sl 36 1 (.slice (some ⟨gu,0,none⟩) m m) m us::((List.zipWith intsR us users++R).set k (intsR u l))):=h;rw[List.set_append_left _ _ (by rw[List.length_zipWith];omega),←zip_set]at h1;exact h1.stored 4 rfl k u
end
theorem ord_at0 {q gw gu m:Nat} {vr:Value} {ready wait:List Int} {us:List Value} {users:List (List Int)} {R:List Asn} {k:Nat} {u:Value} {l:List Int} (hu:us[k]? =some u) (hl:users[k]? =some l):(ordAs q gw gu m vr ready wait us users R)[k+4]? =some (intsR u l):=by
 show(List.zipWith intsR us users++R)[k]? =some _
 have h1:=(gF.1 hu).1;have h2:=(gF.1 hl).1;rw[List.getElem?_append_left (by rw[List.length_zipWith];omega)];exact zip_some hu hl
theorem ord_wait {w0 w:World} {q gw gu m:Nat} {vr:Value} {ready wait:List Int} {us:List Value} {users:List (List Int)} {R:List Asn} {x:Int} {k:Nat} (h:Sep w0 w (ordAs q gw gu m vr ready wait us users R)):Sep w0 (w.setCell ⟨gw,k,none⟩ (.int .i64 x)) (ordAs q gw gu m vr ready (wait.set k x) us users R):=by have h1:=h.stored 2 rfl k (.int .i64 x);unfold ordAs;rw[List.map_set];exact h1
theorem Sep.last {w0 w:World} {As:List Asn} {X:Asn} {n:Nat} (h:Sep w0 w As) (hn:As[n]? =some X):Sep w0 w [X]:=by
 obtain⟨e1,_⟩:=split_at hn;rw[e1]at h;have h1:=(h.perm List.perm_middle).perm (List.perm_append_singleton _ _).symm;have h2:=Sep.drop (As.take n++As.drop (n+1)).length h1
 rwa [List.drop_left]at h2
theorem addU_snoc (i k:Int) (ks:List Int) (us:List (List Int)):addU i (ks++[k]) us=(addU i ks us).set k.toNat ((addU i ks us).getD k.toNat []++[i]):=by
 induction ks generalizing us with
 |nil=>rfl
 |cons a ks ih=>rw[List.cons_append];unfold addU;exact ih _
theorem addU_rows (i:Int) {B:Nat} (ks:List Int):∀(us:List (List Int)),(∀l∈us,l.length≤B)→∀l∈addU i ks us,l.length≤B+ks.length:=by
 induction ks generalizing B with
 |nil=>intro us h l hl;exact Nat.le_trans (h l hl) (by simp)
 |cons k ks ih=>
  intro us h l hl;unfold addU at hl;have:=ih (B:=B+1) _ (fun l' hl'=>?_) l hl
  ·simp only[List.length_cons];omega
  rcases List.mem_or_eq_of_mem_set hl' with hl'|rfl
  ·have:=h l' hl';omega
  rw[List.length_append];have:(us.getD k.toNat []).length≤B:=by
   rw[gH];cases hx:us[k.toNat]? with
   |none=>simp
   |some y=>exact h y (gG hx)
  rw[List.length_singleton];omega
theorem usersQ_rows {xss:List (List Int)} (h:∀l∈xss,l.length≤1024) (i:Nat):∀l∈usersQ xss i,l.length≤i*1024:=by
 induction i with
 |zero=>intro l hl;simp[usersQ]at hl;simp[hl.2]
 |succ i ih=>
  intro l hl;unfold usersQ at hl;have h1:=addU_rows _ _ _ ih l hl;have h2:=normL_len (xss.getD i []);have h3:(xss.getD i []).length≤1024:=by
   rw[gH];cases hx:xss[i]? with
   |none=>simp
   |some y=>exact h y (gG hx)
  omega
set_option linter.unusedSimpArgs false
set_option maxRecDepth 100000 in
theorem takeAt_any {w0 w:World} {R:List Asn} {b:Nat} {v:Value} {y:Int} {xs:List Int} {i:Nat} (hy:xs[i]? =some y) (hS:Sep w0 w (.box b 61 (queueCells v)::intsR v xs::R)) (hl:xs.length≤1000):
  Calls Tryz.prog 28 #[.pointer (some ⟨b,0,none⟩),.int .i64 i] w fun e w'=>e= .returned (.int .i64 y)∧∃v',Sep w0 w' (.box b 61 (queueCells v')::intsR v' (xs.take i++xs.drop (i+1))::R):=by
 have hi:=(gF.1 hy).1;obtain⟨g,c,rfl,_⟩:=hS.sl_form 1 rfl (by omega);have d0:w.cell? ⟨b,0,none⟩=some (.slice (some ⟨g,0,none⟩) xs.length c):=by rw[hS.bC 0 rfl 0];rfl
 have d1:w.cell? ⟨g,i,none⟩=some (.int .i64 y):=by rw[hS.cellAt 1 rfl i (by omega),List.getElem?_map,hy];rfl
 have hde:=delete_any 1 i hS rfl hi;have q1:(0:Int)≤(i:Int):=by omega
 have q2:(i:Int)<(xs.length:Int):=by omega
 have hw1:IntKind.i64.wrap ((i:Int)+1)=(i:Int)+1:=IntWalk.i64_in _ (by omega);rw[show((i+1:Nat):Int)=(i:Int)+1 by omega]at hde;generalize hys:xs.take i++xs.drop (i+1)=ys at hde ⊢;generalize xs.length=n at d0 q2 hde;have hde':=Lh hde;clear hde hS;go_enter Tryz.func28,Tryz.ntmps28;go_wp2_with(go_at_call 53;refine hde'.out.mono ?_;rintro e w2 ⟨v2,rfl,hT⟩;obtain⟨A2,c2,rfl,_⟩:=(hT.ints 1 rfl).shape;have f0:=hT.bC 0 rfl 0;have f1:=hT.bF 0 rfl 0;have hT':=Lh hT;clear hT);go_ret;exact⟨rfl,_,hT'.out.bS 0 rfl 0 (.slice A2 ys.length c2)⟩
def lessG (a b:Int×Int):Bool:=decide (a.1<b.1)||(decide (a.1=b.1)&&decide (a.2<b.2))
def bestI (gr:Int→Int×Int) (r:List Int):Nat→Nat
 |0=>0
 |k+1=>if k=0∨lessG (gr (r.getD k 0)) (gr (r.getD (bestI gr r k) 0))=true then k else bestI gr r k
theorem wpE_two {P:Program} {md:Region.Mode} {ops:Array Oper} {Q:Exit→Act→World→Prop} {S:World→Prop} {z f:Nat} {l:Array Bool} {a:Act} {w:World} {i j:Nat} {o o2:Oper} (hr:Region.ready md ops l=[i,j]) (ho:ops[i]? =some o) (ho2:ops[j]? =some o2)
  (h:∀K':Act→World→Prop,(∀a w,(i≠z→S w)→wpE P md ops Q S z f (l.setIfInBounds i true) a w→K' a w)→if Region.wanted o (yielded ops a.tmps)=true then Oper.wp P o a w K' Q else K' (a.put o.dst undef) w)
  (h2:∀K':Act→World→Prop,(∀a w,(j≠z→S w)→wpE P md ops Q S z f (l.setIfInBounds j true) a w→K' a w)→if Region.wanted o2 (yielded ops a.tmps)=true then Oper.wp P o2 a w K' Q else K' (a.put o2.dst undef) w):wpE P md ops Q S z (f+1) l a w:=
 ⟨fun h0=>(by rw[hr]at h0;cases h0),fun k hk=>by
  rw[hr]at hk;rcases List.mem_cons.1 hk with rfl|hk
  ·exact wpOp_step ho fun K' hK=>h K' fun a w h1 h2=>hK a w ⟨h1,h2⟩
  (obtain rfl:k=j:=by simpa using hk);exact wpOp_step ho2 fun K' hK=>h2 K' fun a w h1 h2=>hK a w ⟨h1,h2⟩⟩
def growB (ns:List TN) (Cs:List (Nat×Int×Value)) (st:WSt):Int:=if st.e=0 then wgtB st.Ns st.Cs-wgtB ns Cs else 0
def growI (ns:List TN) (Cs:List (Nat×Int×Value)) (st:WSt):Int:=if st.e=0 then wgtI st.Ns st.Cs-wgtI ns Cs else 0
set_option maxRecDepth 100000 in
set_option maxHeartbeats 2000000 in
theorem growth_g {w:World} {bs ba bk:Nat} {nv fv av sv:Value} (hG:GrowIn w bs ba bk nv fv av sv) {ns:List TN} {fs:List TF} {vs:List Value} (h:TreeAt w nv fv ns fs vs) (hm:TreeSm ns fs) (ho:LooseOk ns fs) {cs:List Value} (hsv:StockAt w sv cs) {xs:List Ins} (hx:InsAt w av xs) {i:Nat} {x:Ins} (hi:xs[i]? =some x) {p tz:List UInt8} (hxp:x.path=⟨p.toArray⟩) (hxt:x.tz=⟨tz.toArray⟩) (o1: -9223372036854775808≤x.op) (o2:x.op≤9223372036854775807) (hp9:p.length≤1048576) (ht9:tz.length≤1048576) {st:WSt} (hst9:doA x.op p tz x.mode x.ref cs ⟨0,ns,cs0 fs vs,fs.length⟩=st):
  Calls Tryz.prog 25 #[.int .i64 i,.pointer (some ⟨bs,0,none⟩),.pointer (some ⟨ba,0,none⟩),.pointer (some ⟨bk,0,none⟩)] w fun e w'=>e= .returned (cplx (growB ns (cs0 fs vs) st) (growI ns (cs0 fs vs) st))∧(SmallI (growB ns (cs0 fs vs) st)∧SmallI (growI ns (cs0 fs vs) st))∧Below w.heap.size w w':=by
 have hlt:=(gF.1 hi).1;obtain⟨g,o,ca,rfl,_,_,hgl,hcell⟩:=Rd.place hx (by omega) (by decide);have q1:(0:Int)≤(i:Int):=by omega
 have q2:(i:Int)<(xs.length:Int):=by omega
 have hic:=fun(W:World) (hW:Below w.heap.size w W) (f:Nat) (hf:f<5)=>(hcell W hW (i*5+f) (by omega)).trans (insCells_at hi f hf)
 obtain⟨A1,c1,rfl,hm1⟩:=h.nodes.shape;obtain⟨A2,c2,rfl,hm2⟩:=h.files.shape;obtain⟨As9,cp9,rfl,_⟩:=hsv.1.shape;have m1:∀w':World,Below w.heap.size w w'→w'.cell? ⟨bs,0,none⟩=some (.slice A1 ns.length c1)∧w'.cell? ⟨bs,1,none⟩=some (.slice A2 fs.length c2)∧w'.cell? ⟨ba,0,none⟩=some (.slice (some ⟨g,o,none⟩) xs.length ca)∧w'.cell? ⟨bk,0,none⟩=some (.slice As9 cs.length cp9)∧w'.cell? ⟨g,o+i*5,none⟩=some (.int .i64 x.op)∧w'.cell? ⟨g,o+i*5+1,none⟩=some (.string ⟨p.toArray⟩)∧w'.cell? ⟨g,o+i*5+2,none⟩=some (.string ⟨tz.toArray⟩)∧w'.cell? ⟨g,o+i*5+3,none⟩=some (.int .i64 x.mode)∧w'.cell? ⟨g,o+i*5+4,none⟩=some (.int .i64 x.ref):=by intro w' hw;obtain⟨s0,s1,a0,k0⟩:=hG.below hw;have e0:=hic _ hw 0 (by omega);have e1:=hic _ hw 1 (by omega);have e2:=hic _ hw 2 (by omega);have e3:=hic _ hw 3 (by omega);have e4:=hic _ hw 4 (by omega);simp only[Ins.cells,hxp,hxt,Nat.add_zero,←Nat.add_assoc,gB,gC]at e0 e1 e2 e3 e4;exact⟨s0,s1,a0,k0,e0,e1,e2,e3,e4⟩
 have hE0:=m1 _ (Below.refl _ _).drew;have hB1:Below w.heap.size w (w.alloc (.cells (insC x.op p tz x.mode x.ref) 49)).drew:=((Below.refl _ _).alloc (Nat.le_refl _) _).drew;have hE1:=m1 _ hB1;have hcu:=Lh (curve_g (h.below hB1) hm ho (hsv.below hB1) o1 o2 hp9 ht9 hst9 (lv:=.slice (some ⟨w.heap.size,0,none⟩) 1 1) (by have:=rd_lit w.drew (insC x.op p tz x.mode x.ref) 49 5 rfl;exact this));have m1':=Lh m1;have hB1':=Lh hB1;unfold insC strV at*;clear m1 hic hcell hG h hsv hst9 hx hi hB1 hm1 hm2;generalize cs0 fs vs=Cs at hcu ⊢;by_cases hz:st.e=0
 ·have eL:curveL ns Cs st=[cplx (wgtB ns Cs) (wgtI ns Cs),cplx (wgtB st.Ns st.Cs) (wgtI st.Ns st.Cs)]:=if_pos hz;have eB:growB ns Cs st=wgtB st.Ns st.Cs-wgtB ns Cs:=if_pos hz;have eI:growI ns Cs st=wgtI st.Ns st.Cs-wgtI ns Cs:=if_pos hz;rw[eB,eI];rw[eL,hz]at hcu;clear eL eB eI hz;obtain⟨B2,g1⟩:∃n,wgtB st.Ns st.Cs=n:=⟨_,rfl⟩;obtain⟨I2,g2⟩:∃n,wgtI st.Ns st.Cs=n:=⟨_,rfl⟩;obtain⟨B1,g3⟩:∃n,wgtB ns Cs=n:=⟨_,rfl⟩;obtain⟨I1,g4⟩:∃n,wgtI ns Cs=n:=⟨_,rfl⟩;rw[g1,g2,g3,g4]at hcu ⊢;have hg:=Lh (And.intro (And.intro g1 g2) (And.intro g3 g4));clear g1 g2 g3 g4;go_enter Tryz.func25,Tryz.ntmps25;go_wp2_with fail;refine wp_region_E (S:=fun w'=>w'.cell? ⟨bs,0,none⟩=some (.slice A1 ns.length c1)∧w'.cell? ⟨bs,1,none⟩=some (.slice A2 fs.length c2)∧w'.cell? ⟨ba,0,none⟩=some (.slice (some ⟨g,o,none⟩) xs.length ca)∧w'.cell? ⟨bk,0,none⟩=some (.slice As9 cs.length cp9)∧w'.cell? ⟨g,o+i*5,none⟩=some (.int .i64 x.op)∧w'.cell? ⟨g,o+i*5+1,none⟩=some (.string ⟨p.toArray⟩)∧w'.cell? ⟨g,o+i*5+2,none⟩=some (.string ⟨tz.toArray⟩)∧w'.cell? ⟨g,o+i*5+3,none⟩=some (.int .i64 x.mode)∧w'.cell? ⟨g,o+i*5+4,none⟩=some (.int .i64 x.ref)) 14 (by kernel_rfl) ?_;simp only[List.size_toArray,List.length_cons,List.length_nil,Nat.reduceAdd];refine wpE_tk (i:=0) (v:=?_) hE0 rfl ?_ ?_;rotate_left
  ·rintro w ⟨e1,e2,e3,e4,e5,e6,e7,e8,e9⟩;go_simp;try with_reducible rfl
  simp only[Act.put,gD];refine wpE_tk (i:=1) (v:=?_) hE0 rfl ?_ ?_;rotate_left
  ·rintro w ⟨e1,e2,e3,e4,e5,e6,e7,e8,e9⟩;go_simp;try with_reducible rfl
  simp only[Act.put,gD];refine wpE_tk (i:=2) (v:=?_) hE0 rfl ?_ ?_;rotate_left
  ·rintro w ⟨e1,e2,e3,e4,e5,e6,e7,e8,e9⟩;go_simp;try with_reducible rfl
  simp only[Act.put,gD];refine wpE_tk (i:=3) (v:=?_) hE0 rfl ?_ ?_;rotate_left
  ·rintro w ⟨e1,e2,e3,e4,e5,e6,e7,e8,e9⟩;go_simp;try with_reducible rfl
  simp only[Act.put,gD];refine wpE_tk (i:=4) (v:=?_) hE0 rfl ?_ ?_;rotate_left
  ·rintro w ⟨e1,e2,e3,e4,e5,e6,e7,e8,e9⟩;go_simp;try with_reducible rfl
  simp only[Act.put,gD];refine wpE_tk (i:=6) (v:=?_) hE0 rfl ?_ ?_;rotate_left
  ·rintro w ⟨e1,e2,e3,e4,e5,e6,e7,e8,e9⟩;go_simp;try with_reducible rfl
  simp only[Act.put,gD];refine wpE_one (i:=5) (by kernel_rfl) rfl (fun K hK=>?_);go_simp;refine hK _ _ (fun _=>hE1) ?_;clear hK K;(try simp only[Act.put,gD]);refine wpE_one (i:=7) (by kernel_rfl) rfl (fun K hK=>?_);go_simp;go_at_call 26;refine hcu.out.mono ?_;rintro e w3 ⟨lv,kk,rfl,hw1,hw2,hS3⟩;have hs1:=hw1.small;have hs2:=hw2.small;obtain⟨gl,cl,rfl,_⟩:=hS3.sl_form 0 rfl (by simp);have hB3:=hB1'.out.trans (hS3.below.mono hB1'.out.size);have hE3:=m1'.out w3 hB3;have l0:=hS3.cellAt 0 rfl 0 (by simp);have l1:=hS3.cellAt 0 rfl 1 (by simp);simp only[gB,gC]at l0 l1;dsimp only;refine hK _ _ (fun _=>hE3) ?_;clear hK K;(try simp only[Act.put,gD]);refine wpE_tk (i:=8) (v:=?_) hE3 rfl ?_ ?_;rotate_left
  ·rintro w ⟨e1,e2,e3,e4,e5,e6,e7,e8,e9⟩;go_simp;try with_reducible rfl
  simp only[Act.put,gD];refine wpE_tk (i:=9) (v:=?_) hE3 rfl ?_ ?_;rotate_left
  ·rintro w ⟨e1,e2,e3,e4,e5,e6,e7,e8,e9⟩;go_simp;try with_reducible rfl
  simp only[Act.put,gD];refine wpE_tk (i:=10) (v:=?_) hE3 rfl ?_ ?_;rotate_left
  ·rintro w ⟨e1,e2,e3,e4,e5,e6,e7,e8,e9⟩;go_simp;try with_reducible rfl
  simp only[Act.put,gD];refine wpE_tk (i:=11) (v:=?_) hE3 rfl ?_ ?_;rotate_left
  ·rintro w ⟨e1,e2,e3,e4,e5,e6,e7,e8,e9⟩;go_simp;try with_reducible rfl
  simp only[Act.put,gD];refine wpE_tk (i:=12) (v:=?_) hE3 rfl ?_ ?_;rotate_left
  ·rintro w ⟨e1,e2,e3,e4,e5,e6,e7,e8,e9⟩;go_simp;try with_reducible rfl
  simp only[Act.put,gD];refine wpE_tk (i:=13) (v:=?_) hE3 rfl ?_ ?_;rotate_left
  ·rintro w ⟨e1,e2,e3,e4,e5,e6,e7,e8,e9⟩;go_simp;try with_reducible rfl
  simp only[Act.put,gD];refine wpE_one (i:=14) (by kernel_rfl) rfl (fun K hK=>?_);go_simp;refine hK _ _ (fun h=>absurd rfl h) ?_;clear hK K;(try simp only[Act.put,gD]);refine wpE_done (by kernel_rfl) ?_ _;have hB3':=Lh hB3;rw[hg.out.1.1,hg.out.1.2]at hs2;rw[hg.out.2.1,hg.out.2.2]at hs1;(have hsm:Hid (SmallI (B2-B1)∧SmallI (I2-I1)):=by constructor<;>(unfold SmallI;omega));(have hcs:=fun W=>run_csub 68 B2 I2 B1 I1 (by unfold SmallI;omega) (by unfold SmallI;omega) (by unfold SmallI;omega) (by unfold SmallI;omega) hsm.out.1 hsm.out.2 W);clear hB3 hS3 hE3 hE1 hE0 hcu hs1 hs2 hw1 hw2;unfold cplx at hcs l0 l1;go_wp2_with fail;go_quiet (fail);go_wp2_with fail;go_ret;exact⟨rfl,hsm.out,(((Sep.nil w).pure hB3'.out).drewN nq).below⟩
 have eL:curveL ns Cs st=[cplx (wgtB ns Cs) (wgtI ns Cs)]:=if_neg hz;have eB:growB ns Cs st=0:=if_neg hz;have eI:growI ns Cs st=0:=if_neg hz;rw[eB,eI];rw[eL]at hcu;have hq:(st.e !=0)=true:=by simpa using hz
 obtain⟨er,her⟩:∃er,st.e=er:=⟨_,rfl⟩;rw[her]at hcu hq;clear eL eB eI hz her;go_enter Tryz.func25,Tryz.ntmps25;go_wp2_with fail;refine wp_region_E (S:=fun w'=>w'.cell? ⟨bs,0,none⟩=some (.slice A1 ns.length c1)∧w'.cell? ⟨bs,1,none⟩=some (.slice A2 fs.length c2)∧w'.cell? ⟨ba,0,none⟩=some (.slice (some ⟨g,o,none⟩) xs.length ca)∧w'.cell? ⟨bk,0,none⟩=some (.slice As9 cs.length cp9)∧w'.cell? ⟨g,o+i*5,none⟩=some (.int .i64 x.op)∧w'.cell? ⟨g,o+i*5+1,none⟩=some (.string ⟨p.toArray⟩)∧w'.cell? ⟨g,o+i*5+2,none⟩=some (.string ⟨tz.toArray⟩)∧w'.cell? ⟨g,o+i*5+3,none⟩=some (.int .i64 x.mode)∧w'.cell? ⟨g,o+i*5+4,none⟩=some (.int .i64 x.ref)) 14 (by kernel_rfl) ?_;simp only[List.size_toArray,List.length_cons,List.length_nil,Nat.reduceAdd];refine wpE_tk (i:=0) (v:=?_) hE0 rfl ?_ ?_;rotate_left
 ·rintro w ⟨e1,e2,e3,e4,e5,e6,e7,e8,e9⟩;go_simp;try with_reducible rfl
 simp only[Act.put,gD];refine wpE_tk (i:=1) (v:=?_) hE0 rfl ?_ ?_;rotate_left
 ·rintro w ⟨e1,e2,e3,e4,e5,e6,e7,e8,e9⟩;go_simp;try with_reducible rfl
 simp only[Act.put,gD];refine wpE_tk (i:=2) (v:=?_) hE0 rfl ?_ ?_;rotate_left
 ·rintro w ⟨e1,e2,e3,e4,e5,e6,e7,e8,e9⟩;go_simp;try with_reducible rfl
 simp only[Act.put,gD];refine wpE_tk (i:=3) (v:=?_) hE0 rfl ?_ ?_;rotate_left
 ·rintro w ⟨e1,e2,e3,e4,e5,e6,e7,e8,e9⟩;go_simp;try with_reducible rfl
 simp only[Act.put,gD];refine wpE_tk (i:=4) (v:=?_) hE0 rfl ?_ ?_;rotate_left
 ·rintro w ⟨e1,e2,e3,e4,e5,e6,e7,e8,e9⟩;go_simp;try with_reducible rfl
 simp only[Act.put,gD];refine wpE_tk (i:=6) (v:=?_) hE0 rfl ?_ ?_;rotate_left
 ·rintro w ⟨e1,e2,e3,e4,e5,e6,e7,e8,e9⟩;go_simp;try with_reducible rfl
 simp only[Act.put,gD];refine wpE_one (i:=5) (by kernel_rfl) rfl (fun K hK=>?_);go_simp;refine hK _ _ (fun _=>hE1) ?_;clear hK K;try simp only[Act.put,gD]
 refine wpE_one (i:=7) (by kernel_rfl) rfl (fun K hK=>?_);go_simp;go_at_call 26;refine hcu.out.mono ?_;rintro e w3 ⟨lv,kk,rfl,hw1,hw2,hS3⟩;obtain⟨gl,cl,rfl,_⟩:=hS3.sl_form 0 rfl (by simp);have hB3:=hB1'.out.trans (hS3.below.mono hB1'.out.size);have hE3:=m1'.out w3 hB3;dsimp only;refine hK _ _ (fun _=>hE3) ?_;clear hK K;try simp only[Act.put,gD]
 refine wpE_tk (i:=8) (v:=?_) hE3 rfl ?_ ?_;rotate_left
 ·rintro w ⟨e1,e2,e3,e4,e5,e6,e7,e8,e9⟩;go_simp;try with_reducible rfl
 simp only[Act.put,gD];refine wpE_tk (i:=9) (v:=?_) hE3 rfl ?_ ?_;rotate_left
 ·rintro w ⟨e1,e2,e3,e4,e5,e6,e7,e8,e9⟩;go_simp;try with_reducible rfl
 simp only[Act.put,gD];refine wpE_tk (i:=10) (v:=?_) hE3 rfl ?_ ?_;rotate_left
 ·rintro w ⟨e1,e2,e3,e4,e5,e6,e7,e8,e9⟩;go_simp;try with_reducible rfl
 simp only[Act.put,gD];refine wpE_tk (i:=11) (v:=?_) hE3 rfl ?_ ?_;rotate_left
 ·rintro w ⟨e1,e2,e3,e4,e5,e6,e7,e8,e9⟩;go_simp;try with_reducible rfl
 simp only[Act.put,gD];refine wpE_tk (i:=12) (v:=?_) hE3 rfl ?_ ?_;rotate_left
 ·rintro w ⟨e1,e2,e3,e4,e5,e6,e7,e8,e9⟩;go_simp;try with_reducible rfl
 simp only[Act.put,gD];refine wpE_tk (i:=13) (v:=?_) hE3 rfl ?_ ?_;rotate_left
 ·rintro w ⟨e1,e2,e3,e4,e5,e6,e7,e8,e9⟩;go_simp;try with_reducible rfl
 simp only[Act.put,gD];refine wpE_one (i:=14) (by kernel_rfl) rfl (fun K hK=>?_);go_simp;refine hK _ _ (fun h=>absurd rfl h) ?_;clear hK K;try simp only[Act.put,gD]
 refine wpE_done (by kernel_rfl) ?_ _;have hB3':=Lh hB3;clear hB3 hS3 hE3 hE1 hE0 hcu hw1 hw2;go_wp2_with fail;go_ret;exact⟨rfl,⟨by unfold SmallI;decide,by unfold SmallI;decide⟩,hB3'.out⟩
end Go.Proofs.YtimkjnbihlgbiaaGreat
namespace Go.Proofs
open Go.Shelf
def Tryz.insertInts_ren :Go.Shelf.Ren:=⟨fun|21=>49|27=>82|28=>83|35=>127|39=>153|n=>n,fun|22=>36|3=>3|4=>4|0=>0|n=>n,fun|n=>n⟩
theorem Tryz.insertInts :Go.Proofs.Lays2.n21 Tryz.prog Tryz.insertInts_ren:= {
 mixed:=by kernel_rfl
 f21:=Tryz.func49.trans (congrArg some (by kernel_rfl))
 f27:=Tryz.func82.trans (congrArg some (by kernel_rfl))
 f28:=Tryz.func83.trans (congrArg some (by kernel_rfl))
 f35:=Tryz.func127.trans (congrArg some (by kernel_rfl))
 f39:=Tryz.func153.trans (congrArg some (by kernel_rfl))
 t0:=Tryz.underlying0
 a0:=Tryz.isAgg0
 z0:=Tryz.sizeOf0
 v0:=Tryz.zeroValue0
 t3:=Tryz.underlying3
 a3:=Tryz.isAgg3
 z3:=Tryz.sizeOf3
 v3:=Tryz.zeroValue3
 t4:=Tryz.underlying4
 a4:=Tryz.isAgg4
 z4:=Tryz.sizeOf4
 v4:=Tryz.zeroValue4
 t22:=Tryz.underlying36
 a22:=Tryz.isAgg36
 z22:=Tryz.sizeOf36
 v22:=Tryz.zeroValue36
 i3:=by kernel_rfl}
end Go.Proofs
