/- FsDx, FsE, laid together. -/
import Derived.Test.YteihmbaimbogaaaGreatJ4
import Derived.RangeFuncNested
import Derived.RangeFuncBound
import Derived.RangeFuncCalls
import Derived.RangeFuncLeaves
import Derived.RangeFuncBox
import Derived.Shelf.Abstract
import Derived.OwnWalkIn
import Derived.TacticsInMore
import Derived.LoopNIn
import Derived.LoopIn
namespace Go.Proofs.YteihmbaimbogaaaGreat
open Go.RowKit
set_option linter.unusedVariables false
set_option linter.unusedSimpArgs false
theorem info_held :(Tryz.prog.info? 137).map (fun i=>(i.zero,i.size,i.bytes))=some (some (.agg #[.int .i64 0,.slice none 0 0,.int .i64 0]),3,40):=by kernel_rfl
theorem Sep.back_open {w0 w:World} {R:List Asn} {v:Value} {l:List (Nat×List UInt8)} (h:Sep w0 w (backR v l::R)):∃us:List Value,us.length=l.length∧Sep w0 w (.sl 137 3 v l.length (heldCells l us)::(List.zipWith (fun u (x:Nat×List UInt8)=>bytesR u x.2) us l++R)):=by obtain⟨us,h⟩:=h.ex_open;obtain⟨hl,h⟩:=h.star_open.pure_open;have h2:=h.star_open;exact⟨us,hl,(h2.perm (List.Perm.swap _ _ _)).starL_open.perm List.perm_middle⟩
theorem Sep.back_shut {w0 w:World} {R:List Asn} {v:Value} {l:List (Nat×List UInt8)} {us:List Value} (hl:us.length=l.length) (h:Sep w0 w (.sl 137 3 v l.length (heldCells l us)::(List.zipWith (fun u (x:Nat×List UInt8)=>bytesR u x.2) us l++R))):Sep w0 w (backR v l::R):=by have h1:=h.perm List.perm_middle.symm;have h2:=(h1.starL_shut.perm (List.Perm.swap _ _ _)).star_shut;exact Sep.ex_shut us (Sep.star_shut (h2.pure_shut hl))
theorem Sep.sl_shape {w0 w:World} {As:List Asn} {e:TypeId} {sz n:Nat} {v:Value} {cs:List Value} (i:Nat) (h:Sep w0 w As) (hi:As[i]? =some (.sl e sz v n cs)):∃A c,v= .slice A n c:=by obtain⟨A,cap,e,_⟩:=h.sl_any i hi;exact⟨A,cap,e⟩
theorem perm3 {α:Type} (X R:List α) (a b c:α):(X++a::b::c::R).Perm (a::b::c::(X++R)):=
 List.perm_middle.trans (List.Perm.cons _ (List.perm_middle.trans (List.Perm.cons _ List.perm_middle)))
theorem perm4 {α:Type} (X R:List α) (a b c d:α):(X++a::b::c::d::R).Perm (a::b::c::d::(X++R)):=
 List.perm_middle.trans (List.Perm.cons _ (perm3 X R b c d))
theorem DK.step_now (D:DK):D.step.now=D.now:=by unfold DK.step;split<;>rfl
theorem DK.step_fast (D:DK):D.step.fast=D.fast:=by unfold DK.step;split<;>rfl
theorem DK.step_back (D:DK):D.step.back=D.back:=by unfold DK.step;split<;>rfl
theorem DK.step_off (D:DK):D.step.off=if 0<D.left then decide (D.left=1)else D.off:=by unfold DK.step;split<;>rfl
theorem DK.step_left (D:DK):D.step.left=if 0<D.left then D.left-1 else D.left:=by unfold DK.step;split<;>rfl
theorem heldCells_snoc {l:List (Nat×List UInt8)} {us:List Value} (hl:us.length=l.length) (x:Nat×List UInt8) (u:Value):heldCells (l++[x]) (us++[u])=heldCells l us++heldC (x,u) l.length:=by unfold heldCells;rw[List.zip_append hl.symm,List.zipIdx_append,List.flatMap_append];simp[hl]
set_option maxRecDepth 100000 in
set_option maxHeartbeats 2000000 in
theorem dwrite_any {w0 w:World} {R:List Asn} {p nb i:Nat} {D:DK} {v:Value} {bs:List UInt8} (hD:D.ok nb) (hi:i<nb) (hbs:bs.length=512) (hfew:D.back.length<65536) (hv:Tells w0 R v bs) (h:Sep w0 w (diskR p D::R)):
  Calls Tryz.prog 219 #[.pointer (some ⟨p,0,none⟩),.int .i64 i,v] w fun e w'=>
   e= .returned (.int .i64 (if D.off=true then 11 else 0))∧Sep w0 w' (diskR p (if D.off=true then D else D.wr i bs)::R):=by
 obtain⟨k0,hknf,hk0,hk1,hk2⟩:=info_of info_byte
 obtain⟨j0,hjnf,hj0,hj1,hj2⟩:=info_of info_held
 have h00:=Lh h
 obtain⟨vn,vf,vb,h⟩:=h.disk_open
 have hfl:=flat_len512 hD.now.size
 have hlen:=hD.now.len
 have hnb:=hD.few
 obtain⟨g,n,c,rfl,hnl,hc,hm⟩:=h.bytes_form 1 rfl (by have:=hD.some;omega)
 have hn:n=512*nb:=by rw[hnl.out,hfl,hlen]
 have hC:=Lh (h.diskC 0 rfl)
 have hth:=there_d hC.out hn hnb hi
 have hpa:=fun W=>part_any (g:=g) (c:=c) (n:=n) (i:=i) (by omega) hc hm (by omega) W
 have hvb:BytesAt w v bs:=hv.now (X:=[_,_,_,_]) h
 obtain⟨A,cv,rfl,_⟩:=hvb.shape
 obtain⟨m,hm⟩:∃m,bs.length=m:=⟨_,rfl⟩
 rw[hm]at hbs
 subst hbs
 rw[hm]at hv hvb ⊢
 --the list of writes
 have hp0:Sep w0 w (backR vb D.back::diskBox p (.slice (some ⟨g,0,none⟩) n c) vf vb D.off D.left::bytesR (.slice (some ⟨g,0,none⟩) n c) D.now.flatten::bytesR vf D.fast.flatten::R):=Sep.sel [3,0,1,2] h (by decide) (by simp)
 obtain⟨us,hus,hp1⟩:=Sep.back_open hp0
 have hp:Sep w0 w (.sl 137 3 vb D.back.length (heldCells D.back us)::diskBox p (.slice (some ⟨g,0,none⟩) n c) vf vb D.off D.left::bytesR (.slice (some ⟨g,0,none⟩) n c) D.now.flatten::bytesR vf D.fast.flatten::(List.zipWith (fun u (x:Nat×List UInt8)=>bytesR u x.2) us D.back++R)):=hp1.perm (List.Perm.cons _ (perm3 _ _ _ _ _))
 obtain⟨Z,hZ⟩:∃Z,Z=List.zipWith (fun u (x:Nat×List UInt8)=>bytesR u x.2) us D.back++R:=⟨_,rfl⟩
 rw[←hZ]at hp
 have hvZ:Tells w0 Z (.slice A 512 cv) bs:=hZ▸hv.more
 replace hZ:=Lh hZ
 clear hp1
 obtain⟨Ab,cb,hvbf,hbc,hbm,_⟩:=hp.sl_any 0 rfl
 subst hvbf
 obtain⟨L,hL⟩:∃L,D.back.length=L:=⟨_,rfl⟩
 rw[hL]at hp
 have c2:=hC.out.c2
 rw[hL]at c2
 have q1:decide ((65536:Int)≤(L:Int))=false:=decide_eq_false (by omega)
 have hLs:=Lh (show L<65536 by omega)
 have hlen':=Lh hlen
 have hfl':=Lh hfl
 have hn':=Lh hn
 have hp':=Lh hp
 have hm':=Lh hm
 have hvb':=Lh hvb
 have hL':=Lh hL
 have hus':=Lh hus
 clear hlen hfl hn hp hm hvb hp0 h hL hus hfew
 cases hoff:D.off with
 |true=>simp only[hoff,if_true,Bool.false_eq_true,if_false]at hth;clear hpa hC;go_enter Tryz.func219,Tryz.ntmps219;clear q1;go_wp2_with(go_at_call 220;refine hth.mono ?_;rintro e w9 ⟨rfl,h9⟩;obtain rfl:=h9.symm);go_ret;exact⟨rfl,h00.out⟩
 |false=>
  simp only[hoff,if_true,Bool.false_eq_true,if_false]at hth;have c0:=hC.out.c0;have hS5:=Lh (hp'.out.drew.sl_nil 5 1);have e2:w.drew.cell? ⟨p,2,none⟩=some (.slice Ab L cb):=c2;clear hC;go_enter Tryz.func219,Tryz.ntmps219;go_wp2_with(go_at_call 220;refine hth.mono ?_;rintro e w9 ⟨rfl,h9⟩;obtain rfl:=h9.symm);clear hth q1;refine wp_region_E (S:=fun w'=>w'.cell? ⟨p,2,none⟩=some (.slice Ab L cb)) 19 (by kernel_rfl) ?_;simp only[List.size_toArray,List.length_cons,List.length_nil,Nat.reduceAdd];refine wpE_tk (i:=0) (v:=?_) e2 rfl ?_ ?_;rotate_left
  ·rintro w e1;go_simp;try with_reducible rfl
  simp only[Act.put,gD];refine wpE_tk (i:=1) (v:=?_) e2 rfl ?_ ?_;rotate_left
  ·rintro w e1;go_simp;try with_reducible rfl
  simp only[Act.put,gD];refine wpE_tk (i:=2) (v:=?_) e2 rfl ?_ ?_;rotate_left
  ·rintro w e1;go_simp;try with_reducible rfl
  simp only[Act.put,gD];refine wpE_tk (i:=3) (v:=?_) e2 rfl ?_ ?_;rotate_left
  ·rintro w e1;go_simp;try with_reducible rfl
  simp only[Act.put,gD];refine wpE_tk (i:=4) (v:=?_) e2 rfl ?_ ?_;rotate_left
  ·rintro w e1;go_simp;try with_reducible rfl
  simp only[Act.put,gD];refine wpE_tk (i:=5) (v:=?_) e2 rfl ?_ ?_;rotate_left
  ·rintro w e1;go_simp;try with_reducible rfl
  simp only[Act.put,gD];refine wpE_tk (i:=6) (v:=?_) e2 rfl ?_ ?_;rotate_left
  ·rintro w e1;go_simp;try with_reducible rfl
  simp only[Act.put,gD];refine wpE_tk (i:=9) (v:=?_) e2 rfl ?_ ?_;rotate_left
  ·rintro w e1;go_simp;try with_reducible rfl
  simp only[Act.put,gD];refine wpE_tk (i:=10) (v:=?_) e2 rfl ?_ ?_;rotate_left
  ·rintro w e1;go_simp;try with_reducible rfl
  simp only[Act.put,gD];refine wpE_tk (i:=11) (v:=?_) e2 rfl ?_ ?_;rotate_left
  ·rintro w e1;go_simp;try with_reducible rfl
  simp only[Act.put,gD];refine wpE_tk (i:=12) (v:=?_) e2 rfl ?_ ?_;rotate_left
  ·rintro w e1;go_simp;try with_reducible rfl
  simp only[Act.put,gD];refine wpE_tk (i:=13) (v:=?_) e2 rfl ?_ ?_;rotate_left
  ·rintro w e1;go_simp;try with_reducible rfl
  simp only[Act.put,gD];refine wpE_one (i:=7) (by kernel_rfl) rfl (fun K hK=>?_);refine step_append_any_sep 0 (by rfl) _ _ 35 (by rfl) 5 k0 (.int .u8 0) 1 1 Tryz.underlying35 hknf hk0 hk1 hk2 rfl (by decide) hS5.out (.slice none 0 0) 0 [] (by rfl) (by simp[Act.eval]) (.slice A 512 cv) 512 (bs.map byt) (by simp[Act.eval]) (by have:=hvb'.out;unfold BytesAt at this;rw[hm'.out]at this;exact this) byt_one (by unfold maxLen;omega) (by omega) ?_;intro v3 w3 hS3 hz3;(try simp only[List.set_cons_zero,Nat.zero_add,List.nil_append]at hS3);have hS3':=Lh hS3;have e3:=(hS3.diskC 2 rfl).c2;have hf3:=hS3.sl_shape 0 rfl;clear hz3 hS3 hS5 e2;obtain⟨A3,c3,hv3⟩:=hf3;subst hv3;refine hK _ _ (fun _=>e3) ?_;clear hK K;(try simp only[Act.put,gD]);refine wpE_one (i:=8) (by kernel_rfl) rfl (fun K hK=>?_);go_simp;refine hK _ _ (fun _=>e3) ?_;clear hK K;(try simp only[Act.put,gD]);refine wpE_one (i:=14) (by kernel_rfl) rfl (fun K hK=>?_);go_simp;refine hK _ _ (fun _=>e3) ?_;clear hK K;(try simp only[Act.put,gD]);refine wpE_one (i:=15) (by kernel_rfl) rfl (fun K hK=>?_);go_simp;have hS4:=hS3'.out.alloc (.cells #[.int .i64 i,.slice A3 512 c3,.int .i64 L] 137);have e4:=(hS4.diskC 2 rfl).c2;refine hK _ _ (fun _=>e4) ?_;clear hK K;(try simp only[Act.put,gD]);refine wpE_one (i:=16) (by kernel_rfl) rfl (fun K hK=>?_);refine step_append_any_sep 1 (by rfl) _ _ 128 (by rfl) 137 j0 _ 3 40 Tryz.underlying128 hjnf hj0 hj1 hj2 rfl (by decide) hS4 (.slice Ab L cb) L (heldCells D.back us) (by rfl) (by rfl) (.slice (some ⟨w3.heap.size,0,none⟩) 1 1) 1 [.int .i64 i,.slice A3 512 c3,.int .i64 L] (by rfl)
   ⟨rfl,_,_,rfl,Nat.le_refl _,by unfold maxLen;omega,fun _=>⟨_,rfl,by rw[World.size_alloc];exact Nat.lt_succ_self _,cells_new w3 #[.int .i64 i,.slice A3 512 c3,.int .i64 L] 137 _ rfl⟩⟩ (by simp[Value.oneCell']) (by have:=hLs.out;unfold maxLen;omega) (by have:=hLs.out;omega) ?_
  intro v5 w5 hS5 hz5;simp only[List.set_cons_succ,List.set_cons_zero]at hS5;have hS5':=Lh hS5;have hf5:=hS5.sl_shape 1 rfl;have hC5:=hS5.diskC 2 rfl;have e5:=hC5.c2;have f5:=hC5.fz 2;clear hz5 hS5 hS4 e4 hC5 e3;obtain⟨A5,c5,hv5⟩:=hf5;subst hv5;refine hK _ _ (fun _=>e5) ?_;clear hK K;(try simp only[Act.put,gD]);refine wpE_one (i:=17) (by kernel_rfl) rfl (fun K hK=>?_);go_simp;refine hK _ _ (fun _=>e5) ?_;clear hK K;(try simp only[Act.put,gD]);refine wpE_one (i:=18) (by kernel_rfl) rfl (fun K hK=>?_);go_simp;refine hK _ _ (fun _=>e5) ?_;clear hK K;(try simp only[Act.put,gD]);refine wpE_one (i:=19) (by kernel_rfl) rfl (fun K hK=>?_);go_simp;refine hK _ _ (fun h=>absurd rfl h) ?_;clear hK K;(try simp only[Act.put,gD]);refine wpE_done (by kernel_rfl) ?_ _;(have hS6:Hid (Sep w0 (w5.setCell ⟨p,2,none⟩ (.slice A5 (L+1) c5)) (.sl 5 1 (.slice A3 512 c3) 512 (bs.map byt):: .sl 137 3 (.slice A5 (L+1) c5) (L+1) (heldCells D.back us++heldC ((i,bs),.slice A3 512 c3) L)::diskBox p (.slice (some ⟨g,0,none⟩) n c) vf (.slice A5 (L+1) c5) D.off D.left:: .sl 5 1 (.slice (some ⟨g,0,none⟩) n c) n (D.now.flatten.map byt)::bytesR vf D.fast.flatten::Z)):=by rw[←bytesR_of hnl.out.symm];exact hS5'.out.bS 2 rfl 2 (.slice A5 (L+1) c5));have d0:=(hS6.out.diskC 2 rfl).c0;have hs6:Hid (BytesAt (w5.setCell ⟨p,2,none⟩ (.slice A5 (L+1) c5)) (.slice A 512 cv) bs):=hvZ.now (X:=[_,_,_,_,_]) hS6.out;obtain⟨w7,hcp,hS7,hz7⟩:=hS6.out.copy_run (P:=Tryz.prog) 3 rfl 35 35 3 Tryz.underlying35 size_byte (512*i) 512 512 (.slice A 512 cv) 512 (bs.map byt) (by have:=hs6.out;unfold BytesAt at this;rw[hm'.out]at this;exact this) byt_one (by have:=hn'.out;omega);(have hS8:Hid (Sep w0 w7 (diskBox p (.slice (some ⟨g,0,none⟩) n c) vf (.slice A5 (L+1) c5) D.off D.left:: .sl 5 1 (.slice A3 512 c3) 512 (bs.map byt):: .sl 137 3 (.slice A5 (L+1) c5) (L+1) (heldCells D.back us++heldC ((i,bs),.slice A3 512 c3) L):: .sl 5 1 (.slice (some ⟨g,0,none⟩) n c) n (layC (D.now.flatten.map byt) (512*i) (bs.map byt))::bytesR vf D.fast.flatten::Z)):=by have e9:(bs.map byt).take (min 512 512)=bs.map byt:=List.take_of_length_le (by rw[List.length_map,hm'.out];exact Nat.le_refl _);rw[e9]at hS7;exact Sep.sel [2,0,1] hS7 (by decide) (by simp));have hst:=step_d hS8.out hD.left;have hcp':(Builtin.copy_ #[35,35] 3 #[.slice (some ⟨g,512*i,none⟩) 512 512,.slice A 512 cv]).run Tryz.prog (w5.setCell ⟨p,2,none⟩ (.slice A5 (L+1) c5))= .ok (.int .i64 512) w7:=hcp;clear hS5' hS3' f5 e5 hcp hS7 hz7;go_wp2_with(first |(go_at_call 74;refine(hpa _).mono ?_;rintro e w9 ⟨rfl,h9⟩;obtain rfl:=h9.symm)|(go_at_call 75;refine hst.mono ?_;rintro e w8 ⟨rfl,hS9⟩));(all_goals go_ret);all_goals
   refine⟨rfl,?_⟩
   refine Sep.disk_shut (D:=D.wr i bs) (vn:=.slice (some ⟨g,0,none⟩) n c) (vf:=vf) (vb:=.slice A5 (L+1) c5) ?_
   have x1:layC (D.now.flatten.map byt) (512*i) (bs.map byt)=((D.now.set i bs).flatten).map byt:=by rw[←layC_map,flat_set512 hD.now.size hm'.out (by rw[hD.now.len];exact hi)]
   have x2:(D.now.set i bs).flatten.length=n:=by rw[flat_len512 (hD.now.set i hm'.out).size,(hD.now.set i hm'.out).len,hn'.out]
   have x3:bytesR (.slice (some ⟨g,0,none⟩) n c) (D.wr i bs).now.flatten= .sl 5 1 (.slice (some ⟨g,0,none⟩) n c) n (layC (D.now.flatten.map byt) (512*i) (bs.map byt)):=by rw[x1];unfold DK.wr;rw[DK.step_now];exact bytesR_of x2
   rw[x3]
   unfold DK.wr
   rw[DK.step_fast,DK.step_back,DK.step_off,DK.step_left]
   have y1:Sep w0 w8 (.sl 137 3 (.slice A5 (L+1) c5) (D.back++[(i,bs)]).length (heldCells (D.back++[(i,bs)]) (us++[.slice A3 512 c3]))::(List.zipWith (fun u (x:Nat×List UInt8)=>bytesR u x.2) (us++[.slice A3 512 c3]) (D.back++[(i,bs)])++(diskBox p (.slice (some ⟨g,0,none⟩) n c) vf (.slice A5 (L+1) c5) (if 0<D.left then decide (D.left=1)else D.off) (if 0<D.left then D.left-1 else D.left):: .sl 5 1 (.slice (some ⟨g,0,none⟩) n c) n (layC (D.now.flatten.map byt) (512*i) (bs.map byt))::bytesR vf D.fast.flatten::R))):=by rw[heldCells_snoc hus'.out,List.length_append,List.length_singleton,hL'.out,List.zipWith_append hus'.out,List.append_assoc];rw[hZ.out]at hS9;have y0:Sep w0 w8 (.sl 137 3 (.slice A5 (L+1) c5) (L+1) (heldCells D.back us++heldC ((i,bs),.slice A3 512 c3) L):: .sl 5 1 (.slice A3 512 c3) 512 (bs.map byt)::diskBox p (.slice (some ⟨g,0,none⟩) n c) vf (.slice A5 (L+1) c5) (if 0<D.left then decide (D.left=1)else D.off) (if 0<D.left then D.left-1 else D.left):: .sl 5 1 (.slice (some ⟨g,0,none⟩) n c) n (layC (D.now.flatten.map byt) (512*i) (bs.map byt))::bytesR vf D.fast.flatten::(List.zipWith (fun u (x:Nat×List UInt8)=>bytesR u x.2) us D.back++R)):=Sep.sel [2,1,0,3,4] hS9 (by decide) (by simp);(have e:List.zipWith (fun u (x:Nat×List UInt8)=>bytesR u x.2) [.slice A3 512 c3] [(i,bs)]=[.sl 5 1 (.slice A3 512 c3) 512 (bs.map byt)]:=by(show [bytesR (.slice A3 512 c3) bs]=_);rw[bytesR_of hm'.out]);rw[e];exact y0.perm (List.Perm.cons _ (perm4 _ _ _ _ _ _).symm)
   have y2:=Sep.back_shut (by rw[List.length_append,List.length_append,hus'.out];rfl) y1
   exact Sep.sel [1,2,3,0] y2 (by decide) (by simp)
end Go.Proofs.YteihmbaimbogaaaGreat
namespace Go.Proofs.YteihmbaimbogaaaGreat
open Go.RowKit Go.Shelf
set_option linter.unusedVariables false
set_option linter.unusedSimpArgs false
attribute [local go_sem] Oper.semAt_some
structure KpF (n₀:Nat) (F:List Nat) (W W':World):Prop where
 os:W'.os=W.os
 tape:W'.tape=W.tape
 output:W'.output=W.output
 size:W.heap.size≤W'.heap.size
 block:∀k,k<n₀→k∉F→W'.heap[k]? =W.heap[k]?
theorem KpF.refl (n₀:Nat) (F:List Nat) (W:World):KpF n₀ F W W:=⟨rfl,rfl,rfl,Nat.le_refl _,fun _ _ _=>rfl⟩
theorem KpF.trans {n₀:Nat} {F:List Nat} {A B C:World} (h:KpF n₀ F A B) (k:KpF n₀ F B C):KpF n₀ F A C:=
 ⟨k.os.trans h.os,k.tape.trans h.tape,k.output.trans h.output,Nat.le_trans h.size k.size,fun i hi hn=>(k.block i hi hn).trans (h.block i hi hn)⟩
theorem KpF.putObj {n₀:Nat} {F:List Nat} {w:World} (hn:n₀≤w.heap.size) (W:World) (l:Nat) (o o':Obj) (hl:w.heap.size≤l) (h:W.heap[l]? =some o) (_:o.isCells=false) (_:o.isWalk=false):KpF n₀ F W (W.putObj l o'):=by have hg:=grownBy_putObj' W l o';exact⟨hg.os,hg.tape,hg.output,hg.size,fun k hk _=>hg.block k (by have:=(Array.getElem?_eq_some_iff.1 h).1;omega) (fun e=>by cases e;omega)⟩
theorem KpF.below {n₀:Nat} {F:List Nat} {W W':World} (h:Below n₀ W W'):KpF n₀ F W W':=⟨h.os,h.tape,h.output,h.size,fun k hk _=>h.block k hk⟩
theorem KpF.cell {n₀:Nat} {F:List Nat} {W W':World} (h:KpF n₀ F W W') {a:Addr} (ha:a.block<n₀) (hf:a.block∉F):W'.cell? a=W.cell? a:=World.cell?_of_block (h.block _ ha hf)
def RowLow (n₀:Nat) (F:List Nat) (W:World) (A:Option Addr) (cs:List Value):Prop:=∀j u,cs[j]? =some u→∃g,A=some ⟨g,0,none⟩∧g<n₀∧g∉F∧W.cell? ⟨g,j,none⟩=some u
theorem RowLow.kept {n₀:Nat} {F:List Nat} {W W':World} {A:Option Addr} {cs:List Value} (h:RowLow n₀ F W A cs) (hk:KpF n₀ F W W'):RowLow n₀ F W' A cs:=fun j u hj=>by obtain⟨g,e,h1,h2,h3⟩:=h j u hj;exact⟨g,e,h1,h2,(hk.cell (a:=⟨g,j,none⟩) h1 h2).trans h3⟩
theorem heldCells_at {l:List (Nat×List UInt8)} {us:List Value} (hl:us.length=l.length) {k:Nat} (hk:k<l.length) (j:Nat) (hj:j<3):(heldCells l us)[k*3+j]? =(heldC (l[k],us[k]'(by omega)) k)[j]? :=by
 unfold heldCells;have h1:((l.zip us).zipIdx)[k]? =some ((l[k],us[k]'(by omega)),k):=by rw[List.getElem?_zipIdx];(have:(l.zip us)[k]? =some (l[k],us[k]'(by omega)):=by rw[List.getElem?_zip_eq_some];exact⟨gE hk,gE (by omega)⟩);rw[this];simp
 have gen:∀(xs:List (((Nat×List UInt8)×Value)×Nat)) (i:Nat) (x:((Nat×List UInt8)×Value)×Nat),xs[i]? =some x→(xs.flatMap fun x=>heldC x.1 x.2)[i*3+j]? =(heldC x.1 x.2)[j]? :=by
  intro xs
  induction xs with
  |nil=>intro i x h;simp at h
  |cons y ys ih=>
   intro i x h;cases i with
   |zero=>simp at h;subst h;rw[List.flatMap_cons,Nat.zero_mul,Nat.zero_add,List.getElem?_append_left (by simpa[heldC]using hj)]
   |succ i=>rw[List.flatMap_cons,List.getElem?_append_right (by simp[heldC];omega)];have:=ih i x (by simpa using h);rw[←this];congr 1;simp[heldC];omega
 exact gen _ k _ h1
def heldV (l:List (Nat×List UInt8)) (us:List Value) (i:Fin l.length):Value:=.agg #[.int .i64 (l[i].1:Int),us.getD i undef,.int .i64 ((i.1:Nat):Int)]
set_option maxRecDepth 100000 in
set_option maxHeartbeats 2000000 in
theorem writes1_in (F:Fence) (n:Nat) (h7:F.fn 127) (hro:F.round=none) (hn:1≤n) (ll Bs p n₀ c:Nat) (G:List Nat) (A:Option Addr) (l:List (Nat×List UInt8)) (us:List Value) (hl:us.length=l.length) (hsh:∀u∈us,∃A c,u= .slice A 512 c) (hc:l.length≤c) (hm:c≤maxLen) (J Jx:List (Fin l.length)→World→Prop)
  (W:World) (hJ:AbidesFrom W.heap.size J)
  (hY:∀pre x W,J pre W→pre.length<l.length→YieldAt F (n-1) Tryz.prog ll #[heldV l us x] W fun e W'=>
   (e= .returned (.bool true)∧J (pre++[x]) W'∧KpF n₀ G W W')∨(e= .returned (.bool false)∧Jx (pre++[x]) W'))
  (hn0:n₀≤W.heap.size) (hBs:W.cell? ⟨Bs,0,none⟩=some (.pointer (some ⟨p,0,none⟩))) (hp:W.cell? ⟨p,2,none⟩=some (.slice A l.length c)) (hr:RowLow n₀ G W A (heldCells l us)) (h0:J [] W):
  CallsIn F n Tryz.prog 127 #[.func (.yield ll) #[] #[],.pointer (some ⟨Bs,0,none⟩)] W fun e W'=>(∃v,e= .returned v)∧
   ((∃ys:List (Fin l.length),ys.map (·.1)=List.range l.length∧J ys W')∨(∃pre:List (Fin l.length),True∧Jx pre W')):=by
 have hm':(l.length:Int)≤9223372036854775807:=by unfold maxLen at hm;omega
 refine callsIn_of_wp Tryz.func127 rfl h7 ?_ hro
 simp only[Tryz.ntmps127,List.size_toArray,List.length_cons,List.length_nil,Nat.reduceAdd,Nat.reduceSub,Array.replicate_succ,Array.replicate_zero,List.push_toArray,List.append_toArray,List.nil_append,List.cons_append]
 obtain⟨N,hN⟩:∃N,l.length=N:=⟨_,rfl⟩
 simp only[hN]at hm' hp hc
 gi_wp2
 gi_loopw [10] (fun i wr=>∃(k:Nat) (pre:List (Fin l.length)),k≤N∧i= .int .i64 k∧pre.map (·.1)=List.range k∧J pre wr∧KpF n₀ G W wr)
  (fun i _=>N-(intOf i).toNat)
 case atStart=>exact⟨0,[],Nat.zero_le _,rfl,rfl,h0,KpF.refl _ _ _⟩
 case round=>
  obtain⟨k,pre,hk,rfl,hpre,hJs,hnx⟩:=hrel;by_cases hlt:k<N
  ·(have hk':k<l.length:=by omega);have hrow:=hr.kept hnx;(have hat:=fun j hj=>heldCells_at hl hk' j hj);obtain⟨g,hA,_,_,c0⟩:=hrow (k*3) _ (hat 0 (by omega));obtain⟨g1,hA1,_,_,c1⟩:=hrow (k*3+1) _ (hat 1 (by omega));obtain⟨g2,hA2,_,_,c2⟩:=hrow (k*3+2) _ (hat 2 (by omega));subst hA;cases hA1;cases hA2;(have hb1:(0:Int)≤(k:Int):=by omega);(have hb2:(k:Int)<(N:Int):=by omega);obtain⟨Au,cu,hu⟩:=hsh (us[k]'(by omega)) (List.getElem_mem _);(have hval:heldV l us ⟨k,hk'⟩= .agg #[.int .i64 ((l[k].1:Nat):Int),.slice Au 512 cu,.int .i64 (k:Int)]:=by unfold heldV;simp only[gH,gE (show k<us.length by omega),Option.getD_some,hu];rfl);rw[hu]at c1;obtain⟨x0,hx0⟩:∃x0,l[k].1=x0:=⟨_,rfl⟩;rw[hx0]at c0 hval;obtain⟨W2,hW2⟩:∃W2,W2=wr.alloc (.cells #[.int .i64 (x0:Int),.slice Au 512 cu,.int .i64 (k:Int)] 137):=⟨_,rfl⟩;(have hB:Below wr.heap.size wr W2:=by rw[hW2];exact(Below.refl _ wr).alloc (Nat.le_refl _) _);have hJ2:J pre W2:=hJ pre wr W2 none hJs ⟨hB.os,hB.tape,hB.output,hB.size,fun k hk _=>hB.block k hk⟩ (fun r e=>by cases e);obtain⟨fn,tmps,assign,body,hy,hR⟩:=hY pre ⟨k,hk'⟩ W2 hJ2 (by have:=congrArg List.length hpre;simp at this;omega);rw[hval,hW2]at hy;rw[hW2]at hR;have hB':=Lh hB;have hrow':=Lh hrow;have hr':=Lh hr;clear hB hrow hr hat hval hsh hu hJ2 hY hJ;have hsz:n₀≤wr.heap.size:=Nat.le_trans hn0 hnx.size;clear hW2
   gi_wp2
   refine hR.mono ?_;rintro e W3 (⟨rfl,hJ3,hk3⟩|⟨rfl,hJx3⟩)
   ·gi_wp2
    go_roundw
    case rel=>refine⟨k+1,pre++[⟨k,hk'⟩],by omega,by simp,?_,hJ3,(hnx.trans (KpF.below ((Below.refl _ wr).alloc (Nat.le_refl _) _|>.mono hsz))).trans hk3⟩;rw[List.map_append,hpre,List.range_succ];rfl
    case measure=>simp[intOf];omega
   gi_wp2
   refine bodyPost_ret (results_none rfl _ _ _) rfl ?_;exact⟨⟨_,rfl⟩,.inr ⟨_,trivial,hJx3⟩⟩
  obtain rfl:k=N:=by omega
  gi_wp2
  go_end0
  exact⟨⟨_,rfl⟩,.inl ⟨_,hpre.trans (by rw[hN]),hJs⟩⟩
theorem writes_stops (F:Fence) (n:Nat) (h7:F.fn 127) (hro:F.round=none) (hn:1≤n) (Bs p n₀ c:Nat) (G:List Nat) (A:Option Addr) (l:List (Nat×List UInt8)) (us:List Value) (hl:us.length=l.length) (hsh:∀u∈us,∃A c,u= .slice A 512 c) (hc:l.length≤c) (hm:c≤maxLen)
  (w:World) (hn0:n₀=w.heap.size) (hBs:w.cell? ⟨Bs,0,none⟩=some (.pointer (some ⟨p,0,none⟩))) (hp:w.cell? ⟨p,2,none⟩=some (.slice A l.length c)) (hr:RowLow n₀ G w A (heldCells l us)):
  SeqStopsK F n Tryz.prog 127 #[.pointer (some ⟨Bs,0,none⟩)] (fun x:Fin l.length=>#[heldV l us x]) (KpF n₀ G) (fun ys=>ys.map (·.1)=List.range l.length) (fun _=>True) l.length w:=fun ll J Jx W hW hJ _ hY h0=>by
 have b1:=World.block_lt_of_cell? w _ hBs;have b2:=World.block_lt_of_cell? w _ hp;exact writes1_in F n h7 hro hn ll Bs p n₀ c G A l us hl hsh hc hm J Jx W hJ hY (by rw[hn0];exact hW.size) ((hW.cell b1).trans hBs) ((hW.cell b2).trans hp) (hr.kept (KpF.below (by rw[hn0];exact hW))) h0
theorem writes_in (F:Fence) (n:Nat) (h41:F.fn 73) (hro:F.round=none) (p:Nat) (w:World):
  CallsIn F n Tryz.prog 73 #[.pointer (some ⟨p,0,none⟩)] w fun e w'=>e= .returned (.func (.func 127) #[] #[.pointer (some ⟨w.heap.size,0,none⟩)])∧w'=w.alloc (.cells #[.pointer (some ⟨p,0,none⟩)] 23):=by
 refine callsIn_of_wp Tryz.func73 rfl h41 ?_ hro;simp only[Tryz.ntmps73,List.size_toArray,List.length_cons,List.length_nil,Nat.reduceAdd,Nat.reduceSub,Array.replicate_succ,Array.replicate_zero,List.push_toArray,List.append_toArray,List.nil_append,List.cons_append]
 gi_wp2
 go_ret;exact⟨rfl,rfl⟩
end Go.Proofs.YteihmbaimbogaaaGreat
