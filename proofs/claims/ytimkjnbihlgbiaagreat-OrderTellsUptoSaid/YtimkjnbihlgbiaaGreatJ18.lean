/- ModelTake, ModelTG, ModelMade, ModelMG, laid together. -/
import Derived.Test.YtimkjnbihlgbiaaGreatJ15
namespace Go.Proofs.YtimkjnbihlgbiaaGreat
open Go.RowKit
set_option linter.unusedVariables false
set_option linter.unusedSimpArgs false
def delF (Fs:List FEnt) (id:Nat):List FEnt:=Fs.filter fun g=> !(decide (g.id=id))
theorem Sep.sublist {w0 w:World} {As Bs:List Asn} (h:Sep w0 w As) (hs:Bs.Sublist As):Sep w0 w Bs:=by
 refine h.same fun Fs hf hn=>?_
 have key:∃Gs,Foots w Bs Gs∧Gs.Sublist Fs:=by
  clear hn h
  induction hs generalizing Fs with
  |slnil=>exact⟨Fs,hf,List.Sublist.refl _⟩
  |cons a _ ih=>obtain⟨F,Gs,rfl,h1,h2⟩:=hf;obtain⟨Hs,g1,g2⟩:=ih Gs h2;exact⟨Hs,g1,g2.cons _⟩
  |cons_cons a _ ih=>obtain⟨F,Gs,rfl,h1,h2⟩:=hf;obtain⟨Hs,g1,g2⟩:=ih Gs h2;exact⟨F::Hs,⟨F,Hs,rfl,h1,g1⟩,g2.cons_cons _⟩
 obtain⟨Gs,g1,g2⟩:=key;have g3:Gs.flatten.Sublist Fs.flatten:=by
  clear hn hf g1
  induction g2 with
  |slnil=>exact List.Sublist.refl _
  |cons a _ ih=>rw[List.flatten_cons];exact ih.trans (List.sublist_append_right _ _)
  |cons_cons a _ ih=>rw[List.flatten_cons,List.flatten_cons];exact(List.Sublist.refl _).append ih
 exact⟨Gs,g1,hn.sublist g3,fun b hb=>g3.subset hb⟩
theorem delF_set {Fs:List FEnt} {j:Nat} {f:FEnt} (hf:Fs[j]? =some f) (n:Int):delF (Fs.set j {f with names:=n}) f.id=delF Fs f.id:=by
 unfold delF
 induction Fs generalizing j with
 |nil=>rfl
 |cons g Fs ih=>
  cases j with
  |zero=>simp at hf;subst hf;rw[List.set_cons_zero,List.filter_cons,List.filter_cons];simp
  |succ j=>rw[List.set_cons_succ,List.filter_cons,List.filter_cons,ih (by simpa using hf)]
def delG (Ns:List TN) (p:List UInt8):List TN:=Ns.filter fun n=> !(n.path==p)
theorem nodesG_delG (Ns:List TN) (p:List UInt8):delM (nodesG Ns) (.string p)=nodesG (delG Ns p):=by unfold delM nodesG delG;rw[List.filter_map];rfl
set_option maxRecDepth 100000 in
theorem gtake1_any {w0 w:World} {W bn bf bk next:Nat} {Ns:List TN} {Fs:List FEnt} {Lk:List (Lit×Value)} {R:List Asn} (hS:Sep w0 w (gAs W bn bf bk next Ns Fs Lk R)) {p:List UInt8} (hp:p.length≤1048576) {md:Int} {j:Nat} {f:FEnt} (hf:Fs[j]? =some f) (hid:f.id≤10000) (hn:f.names=1) (hnd:nodeV (nodeOr Ns p)= .agg #[.int .i64 f.id,.int .i64 md]) {k:Nat} (hk:(getM Lk (.string (parentL p))).getD (.int .i64 0)= .int .i64 k) (hk1:1≤k) (hk9:k≤10000) (hNs:Ns.length≤10000) (hLk:Lk.length≤10000):
  Calls Tryz.prog 155 #[.pointer (some ⟨W,0,none⟩),strV p] w fun e w'=>e= .returned (.tuple #[])∧Sep w0 w' (gAs W bn bf bk next (delG Ns p) (delF Fs f.id) (putM Lk (.string (parentL p)) (.int .i64 ((k:Int)-1))) R):=by
 have hsh:p.length≤maxLen:=by unfold maxLen;omega
 have hshp:(parentL p).length≤maxLen:=by have:=parentL_len p;omega
 have u0:=hS.bC 0 rfl 0;simp only[worldCells,gA,gB]at u0;have hl0:=hS.gm_look 1 rfl keyed_str Tryz.underlying132 (zero_node _) (keyOf_strV p hsh);rw[look_getM,hnd]at hl0;have hX:=hS.bN 137 #[.int .i64 f.id,.int .i64 md];have u1:=hX.bC 1 rfl 0;simp only[worldCells,gA,gB]at u1;obtain⟨w2,hdl,hX2⟩:=hX.gm_del 2 rfl keyed_str Tryz.underlying132 (keyOf_strV p hsh) 0;have hX2':=Lh hX2;have hpa:=Lh (fun W=>parent_any (p:=p) (by omega) W);have q0:(0:Int)≤(f.id:Int):=by omega
 unfold strV at*;clear hX hX2 hS;go_enter Tryz.func155,Tryz.ntmps155;go_wp2_with fail;have hX3:=hX2'.out.drew;have hE3:w2.drew.cell? ⟨W,2,none⟩=some (.map (some bk)):=by rw[hX3.bC 1 rfl 2];rfl
 have hw1:IntKind.i64.wrap ((k:Int)-1)=(k:Int)-1:=IntWalk.i64_in _ (by omega);refine wp_region_E (S:=fun w'=>w'.cell? ⟨W,2,none⟩=some (.map (some bk))) 8 (by kernel_rfl) ?_;simp only[List.size_toArray,List.length_cons,List.length_nil,Nat.reduceAdd];refine wpE_tk (i:=0) (v:=?_) hE3 rfl ?_ ?_;rotate_left
 ·rintro w e1;go_simp;try with_reducible rfl
 simp only[Act.put,gD];refine wpE_tk (i:=1) (v:=?_) hE3 rfl ?_ ?_;rotate_left
 ·rintro w e1;go_simp;try with_reducible rfl
 simp only[Act.put,gD];refine wpE_tk (i:=2) (v:=?_) hE3 rfl ?_ ?_;rotate_left
 ·rintro w e1;go_simp;try with_reducible rfl
 simp only[Act.put,gD];refine wpE_tk (i:=3) (v:=?_) hE3 rfl ?_ ?_;rotate_left
 ·rintro w e1;go_simp;try with_reducible rfl
 simp only[Act.put,gD];refine wpE_tk (i:=4) (v:=?_) hE3 rfl ?_ ?_;rotate_left
 ·rintro w e1;go_simp;try with_reducible rfl
 simp only[Act.put,gD];refine wpE_one (i:=5) (by kernel_rfl) rfl (fun K hK=>?_);go_simp;go_at_call 39;refine(hpa.out _).mono ?_;rintro e w3 ⟨rfl,hb3⟩;have hX4:=hX3.pure hb3;have s4:w3.cell? ⟨W,2,none⟩=some (.map (some bk)):=by rw[hX4.bC 1 rfl 2];rfl
 have hlk:=hX4.gm_look 4 rfl keyed_str Tryz.underlying86 (zero_int' _) (keyOf_strV (parentL p) hshp);rw[hk]at hlk;obtain⟨w5,hup2,hX5⟩:=hX4.gm_put 4 rfl keyed_str Tryz.underlying86 (by unfold maxLen;omega) (v:=.int .i64 ((k:Int)-1)) (keyOf_strV (parentL p) hshp);unfold strV at hlk hup2;have hX5':=Lh hX5;clear hX5 hX4 hX3 hb3;dsimp only;refine hK _ _ (fun _=>s4) ?_;clear hK K;try simp only[Act.put,gD]
 refine wpE_one (i:=6) (by kernel_rfl) rfl (fun K hK=>?_);go_simp;refine hK _ _ (fun _=>s4) ?_;clear hK K;try simp only[Act.put,gD]
 refine wpE_one (i:=7) (by kernel_rfl) rfl (fun K hK=>?_);go_simp;refine hK _ _ (fun _=>s4) ?_;clear hK K;try simp only[Act.put,gD]
 refine wpE_one (i:=8) (by kernel_rfl) rfl (fun K hK=>?_);go_simp;refine hK _ _ (fun h=>absurd rfl h) ?_;clear hK K;try simp only[Act.put,gD]
 refine wpE_done (by kernel_rfl) ?_ _;have hfi:(gAs W bn bf bk next (delG Ns p) Fs (putM Lk (.string (parentL p)) (.int .i64 ((k:Int)-1))) R)[j+4]? =some (fileBox f):=by(show(Fs.map fileBox++R)[j]? =_);have hj:=(gF.1 hf).1;rw[List.getElem?_append_left (by simpa using hj),List.getElem?_map,hf];rfl
 have hX6:Sep w0 w5.drew (.box w.heap.size 137 #[.int .i64 f.id,.int .i64 md]::gAs W bn bf bk next (delG Ns p) Fs (putM Lk (.string (parentL p)) (.int .i64 ((k:Int)-1))) R):=by have h9:=hX5'.out.drew;rw[nodesG_delG]at h9;exact h9
 have n5:w5.cell? ⟨w.heap.size,0,none⟩=some (.int .i64 f.id):=by rw[hX5'.out.bC 0 rfl 0];rfl
 go_wp2_with fail;have hlf:=hX6.gm_look 3 rfl keyed_int' Tryz.underlying133 (zero_pfile _) (keyOf_id f.id (by omega));rw[getM_mem (hX6.gm_keys 3 rfl) (v:=.pointer (some ⟨f.ptr,0,none⟩)) (List.mem_map.2 ⟨f,gG hf,rfl⟩),Option.getD_some]at hlf;have hE5:w5.drew.cell? ⟨W,1,none⟩=some (.map (some bf))∧w5.drew.cell? ⟨w.heap.size,0,none⟩=some (.int .i64 f.id)∧w5.drew.cell? ⟨f.ptr,1,none⟩=some (.int .i64 1)∧(Instr.lookup 133 (.map (some bf)) (.int .i64 f.id) false).run Tryz.prog w5.drew= .ok (.pointer (some ⟨f.ptr,0,none⟩)) w5.drew:=
  ⟨by rw[hX6.bC 1 rfl 1];rfl,by rw[hX6.bC 0 rfl 0];rfl,by rw[hX6.bC (j+5) hfi 1];show some (Value.int .i64 f.names)=_;rw[hn],hlf⟩
 have hfz:=hX6.bF (j+5) hfi 1;have hX6':=Lh hX6;have hfi':=Lh hfi;clear hX6 hX5' hlf hfi;refine wp_region_E (S:=fun w'=>w'.cell? ⟨W,1,none⟩=some (.map (some bf))∧w'.cell? ⟨w.heap.size,0,none⟩=some (.int .i64 f.id)∧w'.cell? ⟨f.ptr,1,none⟩=some (.int .i64 1)∧(Instr.lookup 133 (.map (some bf)) (.int .i64 f.id) false).run Tryz.prog w'= .ok (.pointer (some ⟨f.ptr,0,none⟩)) w') 13 (by kernel_rfl) ?_;simp only[List.size_toArray,List.length_cons,List.length_nil,Nat.reduceAdd];refine wpE_tk (i:=0) (v:=?_) hE5 rfl ?_ ?_;rotate_left
 ·rintro w ⟨e1,e2,e3,e4⟩;go_simp;try with_reducible rfl
 simp only[Act.put,gD];refine wpE_tk (i:=1) (v:=?_) hE5 rfl ?_ ?_;rotate_left
 ·rintro w ⟨e1,e2,e3,e4⟩;go_simp;try with_reducible rfl
 simp only[Act.put,gD];refine wpE_tk (i:=2) (v:=?_) hE5 rfl ?_ ?_;rotate_left
 ·rintro w ⟨e1,e2,e3,e4⟩;go_simp;try with_reducible rfl
 simp only[Act.put,gD];refine wpE_tk (i:=3) (v:=?_) hE5 rfl ?_ ?_;rotate_left
 ·rintro w ⟨e1,e2,e3,e4⟩;go_simp;try with_reducible rfl
 simp only[Act.put,gD];refine wpE_tk (i:=4) (v:=?_) hE5 rfl ?_ ?_;rotate_left
 ·rintro w ⟨e1,e2,e3,e4⟩;go_simp;try with_reducible rfl
 simp only[Act.put,gD];refine wpE_tk (i:=5) (v:=?_) hE5 rfl ?_ ?_;rotate_left
 ·rintro w ⟨e1,e2,e3,e4⟩;go_simp;try with_reducible rfl
 simp only[Act.put,gD];obtain⟨x1,x2,x3,x4⟩:=id hE5;refine wpE_one (i:=6) (by kernel_rfl) rfl (fun K hK=>?_);go_simp;refine hK _ _ (fun _=>hE5) ?_;clear hK K;try simp only[Act.put,gD]
 refine wpE_tk (i:=7) (v:=?_) hE5 rfl ?_ ?_;rotate_left
 ·rintro w ⟨e1,e2,e3,e4⟩;go_simp;try with_reducible rfl
 simp only[Act.put,gD];refine wpE_tk (i:=8) (v:=?_) hE5 rfl ?_ ?_;rotate_left
 ·rintro w ⟨e1,e2,e3,e4⟩;go_simp;try with_reducible rfl
 simp only[Act.put,gD];refine wpE_tk (i:=9) (v:=?_) hE5 rfl ?_ ?_;rotate_left
 ·rintro w ⟨e1,e2,e3,e4⟩;go_simp;try with_reducible rfl
 simp only[Act.put,gD];refine wpE_tk (i:=10) (v:=?_) hE5 rfl ?_ ?_;rotate_left
 ·rintro w ⟨e1,e2,e3,e4⟩;go_simp;try with_reducible rfl
 simp only[Act.put,gD];refine wpE_one (i:=11) (by kernel_rfl) rfl (fun K hK=>?_);go_simp;refine hK _ _ (fun _=>hE5) ?_;clear hK K;try simp only[Act.put,gD]
 refine wpE_one (i:=12) (by kernel_rfl) rfl (fun K hK=>?_);go_simp;refine hK _ _ (fun _=>hE5) ?_;clear hK K;try simp only[Act.put,gD]
 refine wpE_one (i:=13) (by kernel_rfl) rfl (fun K hK=>?_);go_simp;refine hK _ _ (fun h=>absurd rfl h) ?_;clear hK K;try simp only[Act.put,gD]
 refine wpE_done (by kernel_rfl) ?_ _;obtain⟨w6,hw6⟩:∃w6,(w5.setCell ⟨f.ptr,1,none⟩ (.int .i64 (IntKind.i64.wrap 0))).drew=w6:=⟨_,rfl⟩;have hY:Sep w0 w6 (.box w.heap.size 137 #[.int .i64 f.id,.int .i64 md]::gAs W bn bf bk next (delG Ns p) (Fs.set j {f with names:=0}) (putM Lk (.string (parentL p)) (.int .i64 ((k:Int)-1))) R):=by have h1:=hX6'.out.bS (j+5) hfi'.out 1 (.int .i64 (IntKind.i64.wrap 0));(have h2:w5.drew.setCell ⟨f.ptr,1,none⟩ (.int .i64 (IntKind.i64.wrap 0))=w6:=by rw[←hw6];rfl);rw[h2]at h1;have hj:=(gF.1 hf).1;(have e1:(Fs.set j {f with names:=0}).map fileBox=(Fs.map fileBox).set j (.box f.ptr 140 #[.int .i64 f.mode,.int .i64 0,f.dv]):=by rw[List.map_set];rfl);(have e2:filesL (Fs.set j {f with names:=0})=filesL Fs:=by unfold filesL;rw[List.map_set];exact List.set_getElem_self' (by rw[List.getElem?_map,hf];rfl));unfold gAs;rw[e2,e1,←List.set_append_left _ _ (by simpa using hj)];exact h1
 rw[hw6];have hfj:(Fs.set j {f with names:=0})[j]? =some {f with names:=0}:=List.getElem?_set_self (gF.1 hf).1;generalize hFs2:Fs.set j {f with names:=0}=Fs2 at hY hfj;have hfi2:(gAs W bn bf bk next (delG Ns p) Fs2 (putM Lk (.string (parentL p)) (.int .i64 ((k:Int)-1))) R)[j+4]? =some (fileBox {f with names:=0}):=by(show(Fs2.map fileBox++R)[j]? =_);have hj:=(gF.1 hfj).1;rw[List.getElem?_append_left (by simpa using hj),List.getElem?_map,hfj];rfl
 have hlq:∀q,(Instr.lookup 133 (.map (some bf)) (.int .i64 f.id) false).run Tryz.prog (w6.drewN q)= .ok (.pointer (some ⟨f.ptr,0,none⟩)) (w6.drewN q):=fun q=>by
  have hYd:=hY.drewN q;have hlf:=hYd.gm_look 3 rfl keyed_int' Tryz.underlying133 (zero_pfile _) (keyOf_id f.id (by omega))
  rwa [getM_mem (hYd.gm_keys 3 rfl) (v:=.pointer (some ⟨f.ptr,0,none⟩)) (List.mem_map.2 ⟨_,gG hfj,rfl⟩),Option.getD_some]at hlf
 have g0:=hY.bC 1 rfl 1;have g1:=hY.bC 0 rfl 0;have g2:=hY.bC (j+5) hfi2 1;simp only[worldCells,gA,gB,gC]at g0 g1 g2;have hY':=Lh hY;have hFs2':=Lh hFs2;clear hX6' hY hfi2 hfj hFs2 hw6 hE5 x1 x2 x3 x4 hfi' hfz n5;go_wp2_with fail;go_quiet (fail);go_wp2_with fail;refine wp_quiet_tail 6 (by kernel_rfl) (by kernel_rfl) ?_;simp only[List.take_succ_cons,List.take_zero,List.drop_succ_cons,List.drop_zero];repeat(go_big_quiet_step (fail))
 refine wpQuiet_nil ?_;rintro _ ⟨n3,rfl⟩;obtain⟨w7,hd7,hX7⟩:=(hY'.out.drewN (nq+n3)).gm_del 3 rfl keyed_int' Tryz.underlying133 (keyOf_id f.id (by omega)) 0;have hX7':=Lh hX7;clear hX7;go_wp2_with fail
 go_end0
 refine⟨rfl,?_⟩;have h9:=Sep.drop 1 hX7'.out;have e9:delM (filesL Fs2) (.int .i64 f.id)=filesL (delF Fs f.id):=by rw[filesL_del,←delF_set hf 0,hFs2'.out];rfl
 rw[e9]at h9;have hsub:(delF Fs f.id).Sublist Fs2:=by rw[←delF_set hf 0,hFs2'.out];exact List.filter_sublist
 unfold gAs;exact h9.sublist ((((((hsub.map fileBox).append (List.Sublist.refl R)).cons_cons _).cons_cons _).cons_cons _).cons_cons _)
set_option maxRecDepth 100000 in
theorem gtakeM_any {w0 w:World} {W bn bf bk next:Nat} {Ns:List TN} {Fs:List FEnt} {Lk:List (Lit×Value)} {R:List Asn} (hS:Sep w0 w (gAs W bn bf bk next Ns Fs Lk R)) {p:List UInt8} (hp:p.length≤1048576) {md:Int} {j:Nat} {f:FEnt} (hf:Fs[j]? =some f) (hid:f.id≤10000) (hn:2≤f.names∧f.names≤10000) (hnd:nodeV (nodeOr Ns p)= .agg #[.int .i64 f.id,.int .i64 md]) {k:Nat} (hk:(getM Lk (.string (parentL p))).getD (.int .i64 0)= .int .i64 k) (hk1:1≤k) (hk9:k≤10000) (hNs:Ns.length≤10000) (hLk:Lk.length≤10000):
  Calls Tryz.prog 155 #[.pointer (some ⟨W,0,none⟩),strV p] w fun e w'=>e= .returned (.tuple #[])∧Sep w0 w' (gAs W bn bf bk next (delG Ns p) (Fs.set j {f with names:=f.names-1}) (putM Lk (.string (parentL p)) (.int .i64 ((k:Int)-1))) R):=by
 have hsh:p.length≤maxLen:=by unfold maxLen;omega
 have hshp:(parentL p).length≤maxLen:=by have:=parentL_len p;omega
 have u0:=hS.bC 0 rfl 0;simp only[worldCells,gA,gB]at u0;have hl0:=hS.gm_look 1 rfl keyed_str Tryz.underlying132 (zero_node _) (keyOf_strV p hsh);rw[look_getM,hnd]at hl0;have hX:=hS.bN 137 #[.int .i64 f.id,.int .i64 md];have u1:=hX.bC 1 rfl 0;simp only[worldCells,gA,gB]at u1;obtain⟨w2,hdl,hX2⟩:=hX.gm_del 2 rfl keyed_str Tryz.underlying132 (keyOf_strV p hsh) 0;have hX2':=Lh hX2;have hpa:=Lh (fun W=>parent_any (p:=p) (by omega) W);have q0:(0:Int)≤(f.id:Int):=by omega
 unfold strV at*;clear hX hX2 hS;go_enter Tryz.func155,Tryz.ntmps155;go_wp2_with fail;have hX3:=hX2'.out.drew;have hE3:w2.drew.cell? ⟨W,2,none⟩=some (.map (some bk)):=by rw[hX3.bC 1 rfl 2];rfl
 have hw1:IntKind.i64.wrap ((k:Int)-1)=(k:Int)-1:=IntWalk.i64_in _ (by omega);refine wp_region_E (S:=fun w'=>w'.cell? ⟨W,2,none⟩=some (.map (some bk))) 8 (by kernel_rfl) ?_;simp only[List.size_toArray,List.length_cons,List.length_nil,Nat.reduceAdd];refine wpE_tk (i:=0) (v:=?_) hE3 rfl ?_ ?_;rotate_left
 ·rintro w e1;go_simp;try with_reducible rfl
 simp only[Act.put,gD];refine wpE_tk (i:=1) (v:=?_) hE3 rfl ?_ ?_;rotate_left
 ·rintro w e1;go_simp;try with_reducible rfl
 simp only[Act.put,gD];refine wpE_tk (i:=2) (v:=?_) hE3 rfl ?_ ?_;rotate_left
 ·rintro w e1;go_simp;try with_reducible rfl
 simp only[Act.put,gD];refine wpE_tk (i:=3) (v:=?_) hE3 rfl ?_ ?_;rotate_left
 ·rintro w e1;go_simp;try with_reducible rfl
 simp only[Act.put,gD];refine wpE_tk (i:=4) (v:=?_) hE3 rfl ?_ ?_;rotate_left
 ·rintro w e1;go_simp;try with_reducible rfl
 simp only[Act.put,gD];refine wpE_one (i:=5) (by kernel_rfl) rfl (fun K hK=>?_);go_simp;go_at_call 39;refine(hpa.out _).mono ?_;rintro e w3 ⟨rfl,hb3⟩;have hX4:=hX3.pure hb3;have s4:w3.cell? ⟨W,2,none⟩=some (.map (some bk)):=by rw[hX4.bC 1 rfl 2];rfl
 have hlk:=hX4.gm_look 4 rfl keyed_str Tryz.underlying86 (zero_int' _) (keyOf_strV (parentL p) hshp);rw[hk]at hlk;obtain⟨w5,hup2,hX5⟩:=hX4.gm_put 4 rfl keyed_str Tryz.underlying86 (by unfold maxLen;omega) (v:=.int .i64 ((k:Int)-1)) (keyOf_strV (parentL p) hshp);unfold strV at hlk hup2;have hX5':=Lh hX5;clear hX5 hX4 hX3 hb3;dsimp only;refine hK _ _ (fun _=>s4) ?_;clear hK K;try simp only[Act.put,gD]
 refine wpE_one (i:=6) (by kernel_rfl) rfl (fun K hK=>?_);go_simp;refine hK _ _ (fun _=>s4) ?_;clear hK K;try simp only[Act.put,gD]
 refine wpE_one (i:=7) (by kernel_rfl) rfl (fun K hK=>?_);go_simp;refine hK _ _ (fun _=>s4) ?_;clear hK K;try simp only[Act.put,gD]
 refine wpE_one (i:=8) (by kernel_rfl) rfl (fun K hK=>?_);go_simp;refine hK _ _ (fun h=>absurd rfl h) ?_;clear hK K;try simp only[Act.put,gD]
 refine wpE_done (by kernel_rfl) ?_ _;have hfi:(gAs W bn bf bk next (delG Ns p) Fs (putM Lk (.string (parentL p)) (.int .i64 ((k:Int)-1))) R)[j+4]? =some (fileBox f):=by(show(Fs.map fileBox++R)[j]? =_);have hj:=(gF.1 hf).1;rw[List.getElem?_append_left (by simpa using hj),List.getElem?_map,hf];rfl
 have hX6:Sep w0 w5.drew (.box w.heap.size 137 #[.int .i64 f.id,.int .i64 md]::gAs W bn bf bk next (delG Ns p) Fs (putM Lk (.string (parentL p)) (.int .i64 ((k:Int)-1))) R):=by have h9:=hX5'.out.drew;rw[nodesG_delG]at h9;exact h9
 have n5:w5.cell? ⟨w.heap.size,0,none⟩=some (.int .i64 f.id):=by rw[hX5'.out.bC 0 rfl 0];rfl
 go_wp2_with fail;have hlf:=hX6.gm_look 3 rfl keyed_int' Tryz.underlying133 (zero_pfile _) (keyOf_id f.id (by omega));rw[getM_mem (hX6.gm_keys 3 rfl) (v:=.pointer (some ⟨f.ptr,0,none⟩)) (List.mem_map.2 ⟨f,gG hf,rfl⟩),Option.getD_some]at hlf;have hE5:w5.drew.cell? ⟨W,1,none⟩=some (.map (some bf))∧w5.drew.cell? ⟨w.heap.size,0,none⟩=some (.int .i64 f.id)∧w5.drew.cell? ⟨f.ptr,1,none⟩=some (.int .i64 f.names)∧(Instr.lookup 133 (.map (some bf)) (.int .i64 f.id) false).run Tryz.prog w5.drew= .ok (.pointer (some ⟨f.ptr,0,none⟩)) w5.drew:=
  ⟨by rw[hX6.bC 1 rfl 1];rfl,by rw[hX6.bC 0 rfl 0];rfl,by rw[hX6.bC (j+5) hfi 1];rfl,hlf⟩
 have hfz:=hX6.bF (j+5) hfi 1;have hX6':=Lh hX6;have hfi':=Lh hfi;clear hX6 hX5' hlf hfi;refine wp_region_E (S:=fun w'=>w'.cell? ⟨W,1,none⟩=some (.map (some bf))∧w'.cell? ⟨w.heap.size,0,none⟩=some (.int .i64 f.id)∧w'.cell? ⟨f.ptr,1,none⟩=some (.int .i64 f.names)∧(Instr.lookup 133 (.map (some bf)) (.int .i64 f.id) false).run Tryz.prog w'= .ok (.pointer (some ⟨f.ptr,0,none⟩)) w') 13 (by kernel_rfl) ?_;simp only[List.size_toArray,List.length_cons,List.length_nil,Nat.reduceAdd];refine wpE_tk (i:=0) (v:=?_) hE5 rfl ?_ ?_;rotate_left
 ·rintro w ⟨e1,e2,e3,e4⟩;go_simp;try with_reducible rfl
 simp only[Act.put,gD];refine wpE_tk (i:=1) (v:=?_) hE5 rfl ?_ ?_;rotate_left
 ·rintro w ⟨e1,e2,e3,e4⟩;go_simp;try with_reducible rfl
 simp only[Act.put,gD];refine wpE_tk (i:=2) (v:=?_) hE5 rfl ?_ ?_;rotate_left
 ·rintro w ⟨e1,e2,e3,e4⟩;go_simp;try with_reducible rfl
 simp only[Act.put,gD];refine wpE_tk (i:=3) (v:=?_) hE5 rfl ?_ ?_;rotate_left
 ·rintro w ⟨e1,e2,e3,e4⟩;go_simp;try with_reducible rfl
 simp only[Act.put,gD];refine wpE_tk (i:=4) (v:=?_) hE5 rfl ?_ ?_;rotate_left
 ·rintro w ⟨e1,e2,e3,e4⟩;go_simp;try with_reducible rfl
 simp only[Act.put,gD];refine wpE_tk (i:=5) (v:=?_) hE5 rfl ?_ ?_;rotate_left
 ·rintro w ⟨e1,e2,e3,e4⟩;go_simp;try with_reducible rfl
 simp only[Act.put,gD];obtain⟨x1,x2,x3,x4⟩:=id hE5;refine wpE_one (i:=6) (by kernel_rfl) rfl (fun K hK=>?_);go_simp;refine hK _ _ (fun _=>hE5) ?_;clear hK K;try simp only[Act.put,gD]
 refine wpE_tk (i:=7) (v:=?_) hE5 rfl ?_ ?_;rotate_left
 ·rintro w ⟨e1,e2,e3,e4⟩;go_simp;try with_reducible rfl
 simp only[Act.put,gD];refine wpE_tk (i:=8) (v:=?_) hE5 rfl ?_ ?_;rotate_left
 ·rintro w ⟨e1,e2,e3,e4⟩;go_simp;try with_reducible rfl
 simp only[Act.put,gD];refine wpE_tk (i:=9) (v:=?_) hE5 rfl ?_ ?_;rotate_left
 ·rintro w ⟨e1,e2,e3,e4⟩;go_simp;try with_reducible rfl
 simp only[Act.put,gD];refine wpE_tk (i:=10) (v:=?_) hE5 rfl ?_ ?_;rotate_left
 ·rintro w ⟨e1,e2,e3,e4⟩;go_simp;try with_reducible rfl
 simp only[Act.put,gD];refine wpE_one (i:=11) (by kernel_rfl) rfl (fun K hK=>?_);go_simp;refine hK _ _ (fun _=>hE5) ?_;clear hK K;try simp only[Act.put,gD]
 refine wpE_one (i:=12) (by kernel_rfl) rfl (fun K hK=>?_);go_simp;refine hK _ _ (fun _=>hE5) ?_;clear hK K;try simp only[Act.put,gD]
 refine wpE_one (i:=13) (by kernel_rfl) rfl (fun K hK=>?_);go_simp;refine hK _ _ (fun h=>absurd rfl h) ?_;clear hK K;try simp only[Act.put,gD]
 refine wpE_done (by kernel_rfl) ?_ _;have hwr:IntKind.i64.wrap (f.names-1)=f.names-1:=IntWalk.i64_in _ (by omega);have hY:Sep w0 (w5.drew.setCell ⟨f.ptr,1,none⟩ (.int .i64 (f.names-1))) (.box w.heap.size 137 #[.int .i64 f.id,.int .i64 md]::gAs W bn bf bk next (delG Ns p) (Fs.set j {f with names:=f.names-1}) (putM Lk (.string (parentL p)) (.int .i64 ((k:Int)-1))) R):=by have h1:=hX6'.out.bS (j+5) hfi'.out 1 (.int .i64 (f.names-1));have hj:=(gF.1 hf).1;(have e1:(Fs.set j {f with names:=f.names-1}).map fileBox=(Fs.map fileBox).set j (.box f.ptr 140 #[.int .i64 f.mode,.int .i64 (f.names-1),f.dv]):=by rw[List.map_set];rfl);(have e2:filesL (Fs.set j {f with names:=f.names-1})=filesL Fs:=by unfold filesL;rw[List.map_set];exact List.set_getElem_self' (by rw[List.getElem?_map,hf];rfl));unfold gAs;rw[e2,e1,←List.set_append_left _ _ (by simpa using hj)];exact h1
 obtain⟨w6,hw6⟩:∃w6,(w5.setCell ⟨f.ptr,1,none⟩ (.int .i64 (f.names-1))).drew=w6:=⟨_,rfl⟩;have hw6':w5.drew.setCell ⟨f.ptr,1,none⟩ (.int .i64 (f.names-1))=w6:=by rw[←hw6];rfl
 rw[hw6']at hY;have hfj:(Fs.set j {f with names:=f.names-1})[j]? =some {f with names:=f.names-1}:=List.getElem?_set_self (gF.1 hf).1;generalize hFs2:Fs.set j {f with names:=f.names-1}=Fs2 at hY hfj;have hfi2:(gAs W bn bf bk next (delG Ns p) Fs2 (putM Lk (.string (parentL p)) (.int .i64 ((k:Int)-1))) R)[j+4]? =some (fileBox {f with names:=f.names-1}):=by(show(Fs2.map fileBox++R)[j]? =_);have hj:=(gF.1 hfj).1;rw[List.getElem?_append_left (by simpa using hj),List.getElem?_map,hfj];rfl
 have hlq:∀q,(Instr.lookup 133 (.map (some bf)) (.int .i64 f.id) false).run Tryz.prog (w6.drewN q)= .ok (.pointer (some ⟨f.ptr,0,none⟩)) (w6.drewN q):=fun q=>by
  have hYd:=hY.drewN q;have hlf:=hYd.gm_look 3 rfl keyed_int' Tryz.underlying133 (zero_pfile _) (keyOf_id f.id (by omega))
  rwa [getM_mem (hYd.gm_keys 3 rfl) (v:=.pointer (some ⟨f.ptr,0,none⟩)) (List.mem_map.2 ⟨_,gG hfj,rfl⟩),Option.getD_some]at hlf
 have g0:=hY.bC 1 rfl 1;have g1:=hY.bC 0 rfl 0;have g2:=hY.bC (j+5) hfi2 1;simp only[worldCells,gA,gB,gC]at g0 g1 g2;have hY':=Lh hY;have hFs2':=Lh hFs2;have hz1:(f.names-1==0)=false:=by simp;omega
 rw[hwr,hw6];clear hX6' hY hfi2 hfj hFs2 hw6 hw6' hE5 x1 x2 x3 x4 hfi' hfz n5 hwr;go_wp2_with fail;go_quiet (fail);go_wp2_with fail
 go_end0
 refine⟨rfl,?_⟩;rw[hFs2'.out];exact Sep.drop 1 (hY'.out.drewN _)
set_option maxRecDepth 100000 in
theorem gtaked_any {w0 w:World} {W bn bf bk next:Nat} {Ns:List TN} {Fs:List FEnt} {Lk:List (Lit×Value)} {R:List Asn} (hS:Sep w0 w (gAs W bn bf bk next Ns Fs Lk R)) {p:List UInt8} (hp:p.length≤1048576) {md:Int} {fi:Int} (hfi:fi<0) (hnd:nodeV (nodeOr Ns p)= .agg #[.int .i64 fi,.int .i64 md]) {k:Nat} (hk:(getM Lk (.string (parentL p))).getD (.int .i64 0)= .int .i64 k) (hk1:1≤k) (hk9:k≤10000) (hNs:Ns.length≤10000) (hLk:Lk.length≤10000):
  Calls Tryz.prog 155 #[.pointer (some ⟨W,0,none⟩),strV p] w fun e w'=>e= .returned (.tuple #[])∧Sep w0 w' (gAs W bn bf bk next (delG Ns p) Fs (putM Lk (.string (parentL p)) (.int .i64 ((k:Int)-1))) R):=by
 have hsh:p.length≤maxLen:=by unfold maxLen;omega
 have hshp:(parentL p).length≤maxLen:=by have:=parentL_len p;omega
 have u0:=hS.bC 0 rfl 0;simp only[worldCells,gA,gB]at u0;have hl0:=hS.gm_look 1 rfl keyed_str Tryz.underlying132 (zero_node _) (keyOf_strV p hsh);rw[look_getM,hnd]at hl0;have hX:=hS.bN 137 #[.int .i64 fi,.int .i64 md];have u1:=hX.bC 1 rfl 0;simp only[worldCells,gA,gB]at u1;obtain⟨w2,hdl,hX2⟩:=hX.gm_del 2 rfl keyed_str Tryz.underlying132 (keyOf_strV p hsh) 0;have hX2':=Lh hX2;have hpa:=Lh (fun W=>parent_any (p:=p) (by omega) W);unfold strV at*;clear hX hX2 hS;go_enter Tryz.func155,Tryz.ntmps155;go_wp2_with fail;have hX3:=hX2'.out.drew;have hE3:w2.drew.cell? ⟨W,2,none⟩=some (.map (some bk)):=by rw[hX3.bC 1 rfl 2];rfl
 have hw1:IntKind.i64.wrap ((k:Int)-1)=(k:Int)-1:=IntWalk.i64_in _ (by omega);refine wp_region_E (S:=fun w'=>w'.cell? ⟨W,2,none⟩=some (.map (some bk))) 8 (by kernel_rfl) ?_;simp only[List.size_toArray,List.length_cons,List.length_nil,Nat.reduceAdd];refine wpE_tk (i:=0) (v:=?_) hE3 rfl ?_ ?_;rotate_left
 ·rintro w e1;go_simp;try with_reducible rfl
 simp only[Act.put,gD];refine wpE_tk (i:=1) (v:=?_) hE3 rfl ?_ ?_;rotate_left
 ·rintro w e1;go_simp;try with_reducible rfl
 simp only[Act.put,gD];refine wpE_tk (i:=2) (v:=?_) hE3 rfl ?_ ?_;rotate_left
 ·rintro w e1;go_simp;try with_reducible rfl
 simp only[Act.put,gD];refine wpE_tk (i:=3) (v:=?_) hE3 rfl ?_ ?_;rotate_left
 ·rintro w e1;go_simp;try with_reducible rfl
 simp only[Act.put,gD];refine wpE_tk (i:=4) (v:=?_) hE3 rfl ?_ ?_;rotate_left
 ·rintro w e1;go_simp;try with_reducible rfl
 simp only[Act.put,gD];refine wpE_one (i:=5) (by kernel_rfl) rfl (fun K hK=>?_);go_simp;go_at_call 39;refine(hpa.out _).mono ?_;rintro e w3 ⟨rfl,hb3⟩;have hX4:=hX3.pure hb3;have s4:w3.cell? ⟨W,2,none⟩=some (.map (some bk)):=by rw[hX4.bC 1 rfl 2];rfl
 have hlk:=hX4.gm_look 4 rfl keyed_str Tryz.underlying86 (zero_int' _) (keyOf_strV (parentL p) hshp);rw[hk]at hlk;obtain⟨w5,hup2,hX5⟩:=hX4.gm_put 4 rfl keyed_str Tryz.underlying86 (by unfold maxLen;omega) (v:=.int .i64 ((k:Int)-1)) (keyOf_strV (parentL p) hshp);unfold strV at hlk hup2;have hX5':=Lh hX5;clear hX5 hX4 hX3 hb3;dsimp only;refine hK _ _ (fun _=>s4) ?_;clear hK K;try simp only[Act.put,gD]
 refine wpE_one (i:=6) (by kernel_rfl) rfl (fun K hK=>?_);go_simp;refine hK _ _ (fun _=>s4) ?_;clear hK K;try simp only[Act.put,gD]
 refine wpE_one (i:=7) (by kernel_rfl) rfl (fun K hK=>?_);go_simp;refine hK _ _ (fun _=>s4) ?_;clear hK K;try simp only[Act.put,gD]
 refine wpE_one (i:=8) (by kernel_rfl) rfl (fun K hK=>?_);go_simp;refine hK _ _ (fun h=>absurd rfl h) ?_;clear hK K;try simp only[Act.put,gD]
 refine wpE_done (by kernel_rfl) ?_ _;have hX6:Sep w0 w5 (.box w.heap.size 137 #[.int .i64 fi,.int .i64 md]::gAs W bn bf bk next (delG Ns p) Fs (putM Lk (.string (parentL p)) (.int .i64 ((k:Int)-1))) R):=by have h9:=hX5'.out;rw[nodesG_delG]at h9;exact h9
 have n5:w5.cell? ⟨w.heap.size,0,none⟩=some (.int .i64 fi):=by rw[hX5'.out.bC 0 rfl 0];rfl
 have hX6':=Lh hX6;clear hX6 hX5';go_wp2_with fail;(try simp only[Exit.inBlock,Exit.then]);refine bodyPost_ret (results_none rfl _ _ _) rfl ?_;exact⟨rfl,Sep.drop 1 hX6'.out⟩
set_option maxRecDepth 100000 in
theorem made_g {w0 w:World} {W bn bf bk next:Nat} {Ns:List TN} {Fs:List FEnt} {Lk:List (Lit×Value)} {R:List Asn} (hS:Sep w0 w (gAs W bn bf bk next Ns Fs Lk R)) {p:List UInt8} (hp:p.length≤1048576) (mode:Int) (A:Option Addr) (n c:Nat) (hnx:next≤10000) (hfr:∀g∈Fs,g.id≠next) (hFl:Fs.length≤10000) {k:Nat} (hk:(getM Lk (.string (parentL p))).getD (.int .i64 0)= .int .i64 k) (hk9:k≤10000) (hNs:Ns.length≤10000) (hLk:Lk.length≤10000):
  Calls Tryz.prog 157 #[.pointer (some ⟨W,0,none⟩),strV p,.int .i64 mode,.slice A n c] w fun e w'=>e= .returned (.tuple #[])∧∃ptr,Sep w0 w' (gAs W bn bf bk (next+1) (putG Ns ⟨p,next,0⟩) (Fs++[⟨next,ptr,mode,1,.slice A n c⟩]) (putM Lk (.string (parentL p)) (.int .i64 ((k:Int)+1))) R):=by
 have hE:w.drew.cell? ⟨W,1,none⟩=some (.map (some bf))∧w.drew.cell? ⟨W,3,none⟩=some (.int .i64 next):=⟨by rw[hS.drew.bC 0 rfl 1];rfl,by rw[hS.drew.bC 0 rfl 3];rfl⟩;have hXb:=(hS.bN 140 #[.int .i64 mode,.int .i64 0,.slice A n c]).drew;have hEb:(w.alloc (.cells #[.int .i64 mode,.int .i64 0,.slice A n c] 140)).drew.cell? ⟨W,1,none⟩=some (.map (some bf))∧(w.alloc (.cells #[.int .i64 mode,.int .i64 0,.slice A n c] 140)).drew.cell? ⟨W,3,none⟩=some (.int .i64 next):=⟨by rw[hXb.bC 1 rfl 1];rfl,by rw[hXb.bC 1 rfl 3];rfl⟩;obtain⟨w2,hup,hX2⟩:=hXb.gm_put 3 rfl keyed_int' Tryz.underlying133 (by simp[filesL];unfold maxLen;omega) (v:=.pointer (some ⟨w.heap.size,0,none⟩)) (keyOf_id next (by omega));have hX3:=gAs_file (X:=.emp) (f:=⟨next,w.heap.size,mode,0,.slice A n c⟩) hfr ((hX2.emp_shut).sel [1,0,2,3,4,5] (by decide) (by simp[gAs]));have hX3':=Lh hX3;have hp':=Lh hp;have hw1:IntKind.i64.wrap ((next:Int)+1)=(next:Int)+1:=IntWalk.i64_in _ (by omega);have hw2:IntKind.i64.wrap ((next:Int)+1-1)=(next:Int):=by rw[Int.add_sub_cancel];exact IntWalk.i64_in _ (by omega)
 unfold strV at*;clear hX3 hX2 hXb hS hp;go_enter Tryz.func157,Tryz.ntmps157;go_wp2_with fail;refine wp_region_E (S:=fun w'=>w'.cell? ⟨W,1,none⟩=some (.map (some bf))∧w'.cell? ⟨W,3,none⟩=some (.int .i64 next)) 12 (by kernel_rfl) ?_;simp only[List.size_toArray,List.length_cons,List.length_nil,Nat.reduceAdd];refine wpE_tk (i:=0) (v:=?_) hE rfl ?_ ?_;rotate_left
 ·rintro w ⟨e1,e2⟩;go_simp;try with_reducible rfl
 simp only[Act.put,gD];refine wpE_tk (i:=1) (v:=?_) hE rfl ?_ ?_;rotate_left
 ·rintro w ⟨e1,e2⟩;go_simp;try with_reducible rfl
 simp only[Act.put,gD];refine wpE_tk (i:=2) (v:=?_) hE rfl ?_ ?_;rotate_left
 ·rintro w ⟨e1,e2⟩;go_simp;try with_reducible rfl
 simp only[Act.put,gD];refine wpE_tk (i:=3) (v:=?_) hE rfl ?_ ?_;rotate_left
 ·rintro w ⟨e1,e2⟩;go_simp;try with_reducible rfl
 simp only[Act.put,gD];refine wpE_tk (i:=4) (v:=?_) hE rfl ?_ ?_;rotate_left
 ·rintro w ⟨e1,e2⟩;go_simp;try with_reducible rfl
 simp only[Act.put,gD];refine wpE_tk (i:=5) (v:=?_) hE rfl ?_ ?_;rotate_left
 ·rintro w ⟨e1,e2⟩;go_simp;try with_reducible rfl
 simp only[Act.put,gD];refine wpE_tk (i:=6) (v:=?_) hE rfl ?_ ?_;rotate_left
 ·rintro w ⟨e1,e2⟩;go_simp;try with_reducible rfl
 simp only[Act.put,gD];refine wpE_tk (i:=7) (v:=?_) hE rfl ?_ ?_;rotate_left
 ·rintro w ⟨e1,e2⟩;go_simp;try with_reducible rfl
 simp only[Act.put,gD];refine wpE_tk (i:=8) (v:=?_) hE rfl ?_ ?_;rotate_left
 ·rintro w ⟨e1,e2⟩;go_simp;try with_reducible rfl
 simp only[Act.put,gD];refine wpE_tk (i:=9) (v:=?_) hE rfl ?_ ?_;rotate_left
 ·rintro w ⟨e1,e2⟩;go_simp;try with_reducible rfl
 simp only[Act.put,gD];refine wpE_tk (i:=10) (v:=?_) hE rfl ?_ ?_;rotate_left
 ·rintro w ⟨e1,e2⟩;go_simp;try with_reducible rfl
 simp only[Act.put,gD];refine wpE_one (i:=11) (by kernel_rfl) rfl (fun K hK=>?_);go_simp;refine hK _ _ (fun _=>hEb) ?_;clear hK K;try simp only[Act.put,gD]
 refine wpE_one (i:=12) (by kernel_rfl) rfl (fun K hK=>?_);go_simp;refine hK _ _ (fun h=>absurd rfl h) ?_;clear hK K;try simp only[Act.put,gD]
 refine wpE_done (by kernel_rfl) ?_ _;have n3:=hX3'.out.bC 0 rfl 3;simp only[worldCells,gA,gB,gC]at n3;have z3:=hX3'.out.bF 0 rfl 3;go_wp2_with fail;have hX4:Sep w0 (w2.setCell ⟨W,3,none⟩ (.int .i64 ((next:Int)+1))) (gAs W bn bf bk (next+1) Ns (Fs++[⟨next,w.heap.size,mode,0,.slice A n c⟩]) Lk R):=by have h:=hX3'.out.bS 0 rfl 3 (.int .i64 ((next:Int)+1));exact h
 have hput:=gputf_any hX4 hp'.out 0 (j:=Fs.length) (f:=⟨next,w.heap.size,mode,0,.slice A n c⟩) (by simp) (by show next≤10000;omega) ⟨by show(0:Int)≤10000;decide,by show(0:Int)≤0;decide⟩ hk hk9 hNs hLk;go_at_call 85;unfold strV at hput;refine hput.mono ?_;rintro e w4 ⟨rfl,hS4⟩;dsimp only;have hS4':=Lh hS4;clear hS4 hput hX4;go_wp2_with fail
 go_end0
 refine⟨rfl,w.heap.size,?_⟩;have h:=hS4'.out;rw[List.set_append_right _ _ (Nat.le_refl _),Nat.sub_self]at h;exact h
end Go.Proofs.YtimkjnbihlgbiaaGreat
