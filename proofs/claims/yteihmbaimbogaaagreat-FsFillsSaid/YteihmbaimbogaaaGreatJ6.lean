/- FsL, FsM, FsC, FsB, laid together. -/
import Derived.Test.YteihmbaimbogaaaGreatJ5
import Derived.Defers
import Derived.Recover
import Derived.LoopTactic
import Derived.Laws.Closers25b
import Derived.Lib.EndianBits
namespace Go.Proofs.YteihmbaimbogaaaGreat
open Go.RowKit
set_option linter.unusedVariables false
set_option linter.unusedSimpArgs false
def sO (x:Int):Value:=.iface 182 (.agg #[.int .i64 x])
def aD (q p:Nat) (dead:Bool):aU:=.box q 180 #[.iface 23 (.pointer (some ⟨p,0,none⟩)),.bool dead]
theorem ac1 (p:Nat) (w:World):(method 359 23 (.pointer (some ⟨p,0,none⟩)) "Read").run Tryz.prog w= .ok (218,.pointer (some ⟨p,0,none⟩)) w:=by kernel_rfl
theorem XV (p:Nat) (w:World):(method 359 23 (.pointer (some ⟨p,0,none⟩)) "Write").run Tryz.prog w= .ok (219,.pointer (some ⟨p,0,none⟩)) w:=by kernel_rfl
theorem XW (p:Nat) (w:World):(method 359 23 (.pointer (some ⟨p,0,none⟩)) "Flush").run Tryz.prog w= .ok (27,.pointer (some ⟨p,0,none⟩)) w:=by kernel_rfl
theorem U1 (p:Nat) (w:World):(method 359 23 (.pointer (some ⟨p,0,none⟩)) "Blocks").run Tryz.prog w= .ok (84,.pointer (some ⟨p,0,none⟩)) w:=by kernel_rfl
theorem wJ (x:Int) (w:World):Calls Tryz.prog 169 #[.int .i64 x] w fun e w'=>e=(if x=0 then .returned (.tuple #[])else .panicked [{v:=sO x,recovered:=false}])∧w'=w:=by
 by_cases hx:x=0
 ·subst hx;go_enter Tryz.func169,Tryz.ntmps169;go_wp2_with fail
  go_end0
  exact⟨rfl,rfl⟩
 rw[if_neg hx];go_enter Tryz.func169,Tryz.ntmps169;go_wp2_with fail;exact⟨rfl,rfl,rfl⟩
set_option maxRecDepth 100000 in
set_option maxHeartbeats 1000000 in
theorem NQ {w0 w:World} {R:List aU} {q p nb i:Nat} {D:DK} {dead:Bool} (hD:D.ok nb) (hi:i<nb) (h:Sep w0 w (aD q p dead::aJ p D::R)):
  Calls Tryz.prog 130 #[.pointer (some ⟨q,0,none⟩),.int .i64 i] w fun e w'=>
   (D.off=true∧e= .panicked [{v:=sO 11,recovered:=false}]∧Sep w0 w' (aD q p dead::aJ p D::R))∨
   (D.off=false∧∃v,e= .returned v∧Sep w0 w' (aH v (bk D.now i)::aD q p dead::aJ p D::R)):=by
 have c0:=h.bC 0 rfl 0
 simp only[gA,gB,gC]at c0
 have hrd:=aa3 hD hi (Sep.bZ [1,0] h (by decide) (by simp))
 have hm:=ac1 p
 go_enter Tryz.func130,Tryz.ntmps130
 go_wp2_with(first |(go_at_call 218;refine hrd.mono ?_;rintro e w9 (⟨ho,rfl,h9⟩|⟨ho,v,rfl,h9⟩))|(go_at_call 169;refine(wJ _ _).mono ?_;rintro e w8 ⟨rfl,h8⟩;obtain rfl:=h8.symm))
 ·exact⟨rfl,.inl ⟨ho,rfl,Sep.bZ [1,0] h9 (by decide) (by simp)⟩⟩
 ·go_ret;exact .inr ⟨ho,_,rfl,Sep.bZ [0,2,1] h9 (by decide) (by simp)⟩
set_option maxRecDepth 100000 in
set_option maxHeartbeats 1000000 in
theorem KD {w0 w:World} {R:List aU} {q p nb i:Nat} {D:DK} {dead:Bool} {v:Value} {bs:List UInt8} (hD:D.ok nb) (hi:i<nb) (hbs:bs.length=512) (mE:D.back.length<65536) (hv:iB w0 R v bs) (h:Sep w0 w (aD q p dead::aJ p D::R)):
  Calls Tryz.prog 138 #[.pointer (some ⟨q,0,none⟩),.int .i64 i,v] w fun e w'=>
   (D.off=true∧e= .panicked [{v:=sO 11,recovered:=false}]∧Sep w0 w' (aD q p dead::aJ p D::R))∨
   (D.off=false∧e= .returned (.tuple #[])∧Sep w0 w' (aD q p dead::aJ p (D.wr i bs)::R)):=by
 have c0:=h.bC 0 rfl 0
 simp only[gA,gB,gC]at c0
 have hwr:=WC hD hi hbs mE hv.cons (Sep.bZ [1,0] h (by decide) (by simp))
 have hm:=XV p
 clear mE hbs
 cases hoff:D.off with
 |true=>simp only[hoff,if_true]at hwr;go_enter Tryz.func138,Tryz.ntmps138;go_wp2_with(first |(go_at_call 219;refine hwr.mono ?_;rintro e w9 ⟨rfl,h9⟩)|(go_at_call 169;refine(wJ _ _).mono ?_;rintro e w8 ⟨rfl,h8⟩;obtain rfl:=h8.symm));exact⟨rfl,.inl ⟨trivial,rfl,Sep.bZ [1,0] h9 (by decide) (by simp)⟩⟩
 |false=>
  simp only[hoff,Bool.false_eq_true,if_false]at hwr;go_enter Tryz.func138,Tryz.ntmps138;go_wp2_with(first |(go_at_call 219;refine hwr.mono ?_;rintro e w9 ⟨rfl,h9⟩)|(go_at_call 169;refine(wJ _ _).mono ?_;rintro e w8 ⟨rfl,h8⟩;obtain rfl:=h8.symm))
  go_end0
  exact .inr ⟨trivial,rfl,Sep.bZ [1,0] h9 (by decide) (by simp)⟩
set_option maxRecDepth 100000 in
set_option maxHeartbeats 1000000 in
theorem KE {w0 w:World} {R:List aU} {q p nb:Nat} {D:DK} {dead:Bool} (hD:D.ok nb) (h:Sep w0 w (aD q p dead::aJ p D::R)):
  Calls Tryz.prog 134 #[.pointer (some ⟨q,0,none⟩)] w fun e w'=>
   (D.off=true∧e= .panicked [{v:=sO 11,recovered:=false}]∧Sep w0 w' (aD q p dead::aJ p D::R))∨
   (D.off=false∧e= .returned (.tuple #[])∧Sep w0 w' (aD q p dead::aJ p D.fl::R)):=by
 have c0:=h.bC 0 rfl 0
 simp only[gA,gB,gC]at c0
 have hfl:=XU hD (Sep.bZ [1,0] h (by decide) (by simp))
 have hm:=XW p
 cases hoff:D.off with
 |true=>simp only[hoff,if_true]at hfl;go_enter Tryz.func134,Tryz.ntmps134;go_wp2_with(first |(go_at_call 27;refine hfl.mono ?_;rintro e w9 ⟨rfl,h9⟩)|(go_at_call 169;refine(wJ _ _).mono ?_;rintro e w8 ⟨rfl,h8⟩;obtain rfl:=h8.symm));exact⟨rfl,.inl ⟨trivial,rfl,Sep.bZ [1,0] h9 (by decide) (by simp)⟩⟩
 |false=>
  simp only[hoff,Bool.false_eq_true,if_false]at hfl;go_enter Tryz.func134,Tryz.ntmps134;go_wp2_with(first |(go_at_call 27;refine hfl.mono ?_;rintro e w9 ⟨rfl,h9⟩)|(go_at_call 169;refine(wJ _ _).mono ?_;rintro e w8 ⟨rfl,h8⟩;obtain rfl:=h8.symm))
  go_end0
  exact .inr ⟨trivial,rfl,Sep.bZ [1,0] h9 (by decide) (by simp)⟩
theorem zC {w0 w:World} {R:List aU} {q p:Nat} {dead:Bool} (h:Sep w0 w (aD q p dead::R)):
  Calls Tryz.prog 129 #[.pointer (some ⟨q,0,none⟩)] w fun e w'=>e=(if dead=true then .panicked [{v:=sO 11,recovered:=false}]else .returned (.tuple #[]))∧w'=w:=by
 have c1:=h.bC 0 rfl 1;simp only[gA,gB,gC]at c1;cases dead with
 |true=>go_enter Tryz.func129,Tryz.ntmps129;go_wp2_with fail;exact⟨rfl,rfl,rfl⟩
 |false=>
  go_enter Tryz.func129,Tryz.ntmps129;go_wp2_with fail
  go_end0
  exact⟨rfl,rfl⟩
theorem Sep.TJ {w0 w:World} {As:List aU} {p nb:Nat} {D:DK} (i:Nat) (hD:D.ok nb) (h:Sep w0 w As) (hi:As[i]? =some (aJ p D)):∃A c,w.cell? ⟨p,0,none⟩=some (.slice A (512*nb) c):=by
 have hp:Sep w0 w (aJ p D::(As.take i++As.drop (i+1))):=by have e:=(nM hi).1;rw[e]at h;exact h.perm List.perm_middle
 obtain⟨vn,vf,vb,h1⟩:=hp.rZ;obtain⟨g,n,c,rfl,hnl,_,_⟩:=h1.tQ 1 rfl (by rw[jH hD.now.size,hD.now.len];have:=hD.some;omega);have:=(h1.qU 0 rfl).c0;rw[hnl.out,jH hD.now.size,hD.now.len]at this;exact⟨_,_,this⟩
theorem vD {w0 w:World} {R:List aU} {q p nb:Nat} {D:DK} {dead:Bool} (hD:D.ok nb) (KR:96≤nb) (h:Sep w0 w (aD q p dead::aJ p D::R)):
  Calls Tryz.prog 133 #[.pointer (some ⟨q,0,none⟩)] w fun e w'=>e= .returned (.int .i64 ((nb-96:Nat):Int))∧w'=w:=by
 have c0:=h.bC 0 rfl 0;simp only[gA,gB,gC]at c0;obtain⟨A,c,hn⟩:=h.TJ 1 hD rfl;have hbl:=IX hn rfl hD.few;have hm:=U1 p;have mE:=hD.few;have e:((nb-96:Nat):Int)=(nb:Int)-96:=by omega
 have b1:(nb:Int)≤4096:=by omega
 have b2:(96:Int)≤nb:=by omega
 have hw:IntKind.i64.wrap ((nb:Int)-96)=(nb:Int)-96:=IntWalk.i64_in _ (by omega);rw[e];go_enter Tryz.func133,Tryz.ntmps133;go_wp2_with(go_at_call 84;refine hbl.mono ?_;rintro e w9 ⟨rfl,h9⟩;obtain rfl:=h9.symm);go_ret;exact⟨rfl,rfl⟩
section
variable {w0 w:World} {R:List aU} {q p nb i:Nat} {D:DK} {dead:Bool}
theorem JH (hD:D.ok nb) (hi:i<nb) (ho:D.off=false) (h:Sep w0 w (aD q p dead::aJ p D::R)):
  Calls Tryz.prog 130 #[.pointer (some ⟨q,0,none⟩),.int .i64 i] w fun e w'=>∃v,e= .returned v∧Sep w0 w' (aH v (bk D.now i)::aD q p dead::aJ p D::R):=
 (NQ hD hi h).mono fun e w' h=>by
  rcases h with⟨h,_⟩|⟨_,h⟩
  ·rw[ho]at h;cases h
  exact h
theorem ac2 (hD:D.ok nb) (hi:i<nb) (ho:D.off=true) (h:Sep w0 w (aD q p dead::aJ p D::R)):
  Calls Tryz.prog 130 #[.pointer (some ⟨q,0,none⟩),.int .i64 i] w fun e w'=>e= .panicked [{v:=sO 11,recovered:=false}]∧Sep w0 w' (aD q p dead::aJ p D::R):=
 (NQ hD hi h).mono fun e w' h=>by
  rcases h with⟨_,h⟩|⟨h,_⟩
  ·exact h
  rw[ho]at h;cases h
theorem oV {v:Value} {bs:List UInt8} (hD:D.ok nb) (hi:i<nb) (hbs:bs.length=512) (mE:D.back.length<65536) (hv:iB w0 R v bs) (ho:D.off=false) (h:Sep w0 w (aD q p dead::aJ p D::R)):
  Calls Tryz.prog 138 #[.pointer (some ⟨q,0,none⟩),.int .i64 i,v] w fun e w'=>e= .returned (.tuple #[])∧Sep w0 w' (aD q p dead::aJ p (D.wr i bs)::R):=
 (KD hD hi hbs mE hv h).mono fun e w' h=>by
  rcases h with⟨h,_⟩|⟨_,h⟩
  ·rw[ho]at h;cases h
  exact h
theorem uH {v:Value} {bs:List UInt8} (hD:D.ok nb) (hi:i<nb) (hbs:bs.length=512) (mE:D.back.length<65536) (hv:iB w0 R v bs) (ho:D.off=true) (h:Sep w0 w (aD q p dead::aJ p D::R)):
  Calls Tryz.prog 138 #[.pointer (some ⟨q,0,none⟩),.int .i64 i,v] w fun e w'=>e= .panicked [{v:=sO 11,recovered:=false}]∧Sep w0 w' (aD q p dead::aJ p D::R):=
 (KD hD hi hbs mE hv h).mono fun e w' h=>by
  rcases h with⟨_,h⟩|⟨h,_⟩
  ·exact h
  rw[ho]at h;cases h
theorem nH (hD:D.ok nb) (ho:D.off=false) (h:Sep w0 w (aD q p dead::aJ p D::R)):
  Calls Tryz.prog 134 #[.pointer (some ⟨q,0,none⟩)] w fun e w'=>e= .returned (.tuple #[])∧Sep w0 w' (aD q p dead::aJ p D.fl::R):=
 (KE hD h).mono fun e w' h=>by
  rcases h with⟨h,_⟩|⟨_,h⟩
  ·rw[ho]at h;cases h
  exact h
theorem uI (hD:D.ok nb) (ho:D.off=true) (h:Sep w0 w (aD q p dead::aJ p D::R)):
  Calls Tryz.prog 134 #[.pointer (some ⟨q,0,none⟩)] w fun e w'=>e= .panicked [{v:=sO 11,recovered:=false}]∧Sep w0 w' (aD q p dead::aJ p D::R):=
 (KE hD h).mono fun e w' h=>by
  rcases h with⟨_,h⟩|⟨h,_⟩
  ·exact h
  rw[ho]at h;cases h
end
def aI (b:Nat) (x:Int):aU:=.box b 39 #[.int .i64 x]
theorem P6 (x:Int) (w:World):(Instr.typeAssert (.iface 182 (.agg #[.int .i64 x])) 20 182 true).run Tryz.prog w= .ok (.tuple #[.agg #[.int .i64 x],.bool true]) w:=by kernel_rfl
set_option maxRecDepth 100000 in
set_option maxHeartbeats 1000000 in
theorem C9 {w0 w:World} {R:List aU} {q p be:Nat} {dead:Bool} {x y:Int} {older:List PanicEntry} (h:Sep w0 w (aD q p dead::aI be y::R)):
  CallsD Tryz.prog 128 #[.pointer (some ⟨q,0,none⟩),.pointer (some ⟨be,0,none⟩)] (.panicking ({v:=sO x,recovered:=false}::older)) w fun e u' w'=>
   e= .returned (.tuple #[])∧u'= .panicking ({v:=sO x,recovered:=true}::older)∧Sep w0 w' (aD q p (decide (x=11)||dead)::aI be x::R):=by
 refine callsD_of_wpS Tryz.func128 rfl fun c₀ cs hu=>?_
 apply wpS_seq
 apply wpS_region
 simp[wpOpsS,go_sem,recoverD,hu,Tryz.ntmps128,Exit.thenS]
 refine wpS_of_wp ?_
 unfold sO
 simp only[List.size_toArray,List.length_cons,List.length_nil,Nat.reduceAdd,Nat.reduceSub,Array.replicate_succ,Array.replicate_zero,List.push_toArray,List.append_toArray,List.nil_append,List.cons_append,gD,List.set_cons_succ,List.set_cons_zero]
 have hta:=P6 x w
 have hA:=h.alloc (.cells #[.int .i64 x] 182)
 have c1:=hA.bC 0 rfl 1
 have f1:=hA.bF 0 rfl 1
 have e0:=hA.bC 1 rfl 0
 have ef:=hA.bF 1 rfl 0
 have hB:=hA.bS 0 rfl 1 (.bool true)
 have b0:=hB.bC 1 rfl 0
 have bf:=hB.bF 1 rfl 0
 have hB2:=hB.bS 1 rfl 0 (.int .i64 x)
 have hA2:=hA.bS 1 rfl 0 (.int .i64 x)
 simp only[gA,gB,gC]at c1 e0 b0
 by_cases hx:x=11
 ·subst hx;go_wp2_with fail;refine⟨rfl,_,rfl,.tuple #[],?_,rfl,rfl,hB2⟩;simp[results,Tryz.results128]
 ·have hx2:(x==11)=false:=beq_eq_false_iff_ne.2 hx;rw[decide_eq_false hx,Bool.false_or];go_wp2_with fail;refine⟨rfl,_,rfl,.tuple #[],?_,rfl,rfl,hA2⟩;simp[results,Tryz.results128]
theorem DC (a b:Value) (w:World):
  CallsD Tryz.prog 128 #[a,b] .returning w fun e u' w'=>e= .returned (.tuple #[])∧u'= .returning∧w'=w:=by
 refine callsD_of_wpS Tryz.func128 rfl fun c₀ cs hu=>?_
 apply wpS_seq;apply wpS_region;simp[wpOpsS,go_sem,recoverD,hu,Tryz.ntmps128,Exit.thenS];refine wpS_of_wp ?_;simp only[List.size_toArray,List.length_cons,List.length_nil,Nat.reduceAdd,Nat.reduceSub,Array.replicate_succ,Array.replicate_zero,List.push_toArray,List.append_toArray,List.nil_append,List.cons_append,gD,List.set_cons_succ,List.set_cons_zero];go_wp2_with fail;refine⟨rfl,.returning,?_,.tuple #[],?_,rfl,rfl,rfl⟩
 ·cases c₀;simp at hu;subst hu;rfl
 simp[results,Tryz.results128]
theorem wK {w0 w:World} {R:List aU} {q p be:Nat} {dead:Bool} {x y:Int} {fn:Func} {tmps:Array Value} {Post:Ending→World→Prop} {ds:List Deferred} (h:Sep w0 w (aD q p dead::aI be y::R))
  (hK:∀w',Sep w0 w' (aD q p (decide (x=11)||dead)::aI be x::R)→Leaves Tryz.prog fn tmps Post ds .returning w'):
  Leaves Tryz.prog fn tmps Post ({target:=.fn (.func 128) #[],args:=#[.pointer (some ⟨q,0,none⟩),.pointer (some ⟨be,0,none⟩)]}::ds) (.panicking [{v:=sO x,recovered:=false}]) w:=by
 refine leaves_cons (f:=128) (args:=#[.pointer (some ⟨q,0,none⟩),.pointer (some ⟨be,0,none⟩)]) (by simp) (by simp[go_sem]) ?_;refine(C9 h).mono ?_;rintro e u' w' ⟨rfl,rfl,hS⟩;exact hK w' hS
theorem lI {w:World} {a b:Value} {fn:Func} {tmps:Array Value} {Post:Ending→World→Prop} {ds:List Deferred} (hK:Leaves Tryz.prog fn tmps Post ds .returning w):
  Leaves Tryz.prog fn tmps Post ({target:=.fn (.func 128) #[],args:=#[a,b]}::ds) .returning w:=by
 refine leaves_cons (f:=128) (args:=#[a,b]) (by simp) (by simp[go_sem]) ?_;refine(DC a b w).mono ?_;rintro e u' w' ⟨rfl,rfl,rfl⟩;exact hK
set_option maxRecDepth 100000 in
set_option maxHeartbeats 1000000 in
theorem MK {w0 w:World} {R:List aU} {q p nb:Nat} {D:DK} {dead:Bool} (hD:D.ok nb) (h:Sep w0 w (aD q p dead::aJ p D::R)):
  Calls Tryz.prog 76 #[.pointer (some ⟨q,0,none⟩)] w fun e w'=>
   e= .returned (.int .i64 (if(dead||D.off)=true then 11 else 0))∧Sep w0 w' (aD q p (dead||D.off)::aJ p D::R):=by
 have h1:Sep w0 (w.alloc (.cells #[.int .i64 0] 39)) (aD q p dead::aJ p D::aI w.heap.size 0::R):=Sep.bZ [1,2,0] (h.bN 39 #[.int .i64 0]) (by decide) (by simp)
 have haw:=zC h1
 have h0:0<nb:=by have:=hD.some;omega
 have hend:∀(s3 s4 s5 s6 s7:Value) W d x,Sep w0 W (aD q p d::aI w.heap.size x::aJ p D::R)→∃v,(results Tryz.f76 #[.pointer (some ⟨q,0,none⟩),undef,.pointer (some ⟨w.heap.size,0,none⟩),s3,s4,s5,s6,s7]).run Tryz.prog W= .ok v W∧v= .int .i64 x∧Sep w0 W (aD q p d::aJ p D::R):=fun s3 s4 s5 s6 s7 W d x hS=>by have ec:=hS.bC 1 rfl 0;simp only[gA,gB]at ec;exact⟨.int .i64 x,by simp[results,Tryz.results76,go_sem,ec],rfl,Sep.drop 1 (Sep.bZ [1,0] hS (by decide) (by simp))⟩
 cases dead with
 |true=>
  simp only[if_true]at haw
  go_enter_defers Tryz.func76,Tryz.ntmps76
  go_wp2_with(first |(go_at_call 129;refine haw.mono ?_;rintro e w9 ⟨rfl,h9⟩;obtain rfl:=h9.symm));(refine wK (y:=0) (R:=aJ p D::R) (Sep.bZ [0,2,1] h1 (by decide) (by simp)) fun w' hS=>?_);obtain⟨v,h2,rfl,h3⟩:=hend _ _ _ _ _ _ _ _ hS;exact⟨_,h2,rfl,h3⟩
 |false=>
  simp only[Bool.false_eq_true,if_false]at haw;cases hoff:D.off with
  |true=>
   have hrd:=ac2 hD h0 hoff h1
   go_enter_defers Tryz.func76,Tryz.ntmps76
   go_wp2_with(first |(go_at_call 129;refine haw.mono ?_;rintro e w9 ⟨rfl,h9⟩;obtain rfl:=h9.symm)|(go_at_call 130;refine hrd.mono ?_;rintro e w9 ⟨rfl,h9⟩));(refine wK (y:=0) (R:=aJ p D::R) (Sep.bZ [0,2,1] h9 (by decide) (by simp)) fun w' hS=>?_);obtain⟨v,h2,rfl,h3⟩:=hend _ _ _ _ _ _ _ _ hS;exact⟨_,h2,rfl,h3⟩
  |false=>
   have hrd:=JH hD h0 hoff h1
   go_enter_defers Tryz.func76,Tryz.ntmps76
   go_wp2_with(first |(go_at_call 129;refine haw.mono ?_;rintro e w9 ⟨rfl,h9⟩;obtain rfl:=h9.symm)|(go_at_call 130;refine hrd.mono ?_;rintro e w9 ⟨v,rfl,h9⟩;have k1:=h9.bC 3 rfl 0;have k2:=h9.bF 3 rfl 0;simp only[gA,gB]at k1));refine lI ?_;have h10:Sep w0 _ (aH v (bk D.now 0)::aD q p false::aJ p D::aI w.heap.size 0::R):=h9.bS 3 rfl 0 (.int .i64 0);obtain⟨v,h2,rfl,h3⟩:=hend _ _ _ _ _ _ false 0 (Sep.bZ [0,2,1] (Sep.drop 1 h10) (by decide) (by simp));exact⟨_,h2,rfl,h3⟩
def ah1 :List Int:=[0,498536548,997073096,651767980,1994146192,1802195444,1303535960,1342533948,3988292384,4027552580,3604390888,3412177804,2607071920,2262029012,2685067896,3183342108]
def NR (c:Int):Int:=ah1.getD (c%16).toNat 0
theorem ah2 {c:Int} (h0:0≤c) (h1:c≤4294967295) (w:World):Calls Tryz.prog 197 #[.int .u32 c] w fun e w'=>e= .returned (.int .u32 (NR c))∧Below w.heap.size w w':=by
 have hm:bits .and .u32 c 15=c%16:=bits_mask .u32 32 (by decide) wraps_u32 4 (by decide) c h0 (by omega);have q0:0≤c%16:=by omega
 have q1:c%16<16:=by omega
 obtain⟨k,hk⟩:∃k:Fin 16,c%16=(k.1:Int):=⟨⟨(c%16).toNat,by omega⟩,by simp;omega⟩;have hv:NR c=ah1.getD k.1 0:=by unfold NR;rw[hk];simp
 rw[hv];rw[hk]at hm;clear q0 q1 hk hv;obtain⟨k,hk⟩:=k;simp only at hm ⊢;have q0:(0:Int)≤(k:Int):=by omega
 have q1:(k:Int)<16:=by omega
 go_enter Tryz.func197,Tryz.ntmps197;go_wp2_with fail;go_ret;refine⟨?_,(Below.refl _ w).alloc (Nat.le_refl _) _⟩;have:∀k:Fin 16,∀u:Value,[Value.int IntKind.u32 0,.int .u32 498536548,.int .u32 997073096,.int .u32 651767980,.int .u32 1994146192,.int .u32 1802195444,.int .u32 1303535960,.int .u32 1342533948,.int .u32 3988292384,.int .u32 4027552580,.int .u32 3604390888,.int .u32 3412177804,.int .u32 2607071920,.int .u32 2262029012,.int .u32 2685067896,.int .u32 3183342108].getD k.1 u= .int .u32 (ah1.getD k.1 0):=by intro k u;obtain⟨k,hk⟩:=k;(have:k=0∨k=1∨k=2∨k=3∨k=4∨k=5∨k=6∨k=7∨k=8∨k=9∨k=10∨k=11∨k=12∨k=13∨k=14∨k=15:=by omega);rcases this with rfl|rfl|rfl|rfl|rfl|rfl|rfl|rfl|rfl|rfl|rfl|rfl|rfl|rfl|rfl|rfl<;>rfl
 rw[←this ⟨k,hk⟩ undef];simp[gH,hk]
def auF (x:Int) (y:UInt8):Int:=
 bits BinOp.xor IntKind.u32 (NR (bits BinOp.xor IntKind.u32 (NR (bits BinOp.xor IntKind.u32 x (y.toNat:Int))) (bits BinOp.xor IntKind.u32 x (y.toNat:Int)/16))) (bits BinOp.xor IntKind.u32 (NR (bits BinOp.xor IntKind.u32 x (y.toNat:Int))) (bits BinOp.xor IntKind.u32 x (y.toNat:Int)/16)/16)
def auG :Int:=bits BinOp.xor IntKind.u32 IntKind.u32.max 0
def E9 (bs:List UInt8):Int:=bits BinOp.xor IntKind.u32 IntKind.u32.max (bs.foldl auF auG)
theorem alC (bs:List UInt8):0≤E9 bs∧E9 bs≤4294967295:=⟨bits_lo_u32 _ _ _,bits_hi_u32 _ _ _⟩
set_option maxRecDepth 100000 in
set_option maxHeartbeats 1000000 in
theorem ah3 {v:Value} {bs:List UInt8} {w:World} (hv:BytesAt w v bs) (hlen:bs.length≤1048576):Calls Tryz.prog 186 #[.int .i64 0,v] w fun e w'=>e= .returned (.int .i64 (E9 bs))∧Below w.heap.size w w':=by
 obtain⟨A,cap,rfl,hm⟩:=hv.shape;obtain⟨n,hn⟩:∃n,bs.length=n:=⟨_,rfl⟩;rw[hn]at hlen hm;have b1:(n:Int)≤1048576:=by omega
 have hv':=Lh hv;rw[hn];clear hv hm;go_enter Tryz.func186,Tryz.ntmps186;go_wp2_with fail;go_loopw[5,13] (fun c i wr=>∃(k:Nat) (x:Int),k≤n∧i= .int .i64 k∧c= .int .u32 x∧Hid (x=(bs.take k).foldl auF auG)∧Below w.heap.size w wr) (fun c i _=>n-(intOf i).toNat)
 case atStart=>exact⟨0,_,Nat.zero_le _,rfl,rfl,rfl,Below.refl _ _⟩
 obtain⟨k,x,hk,rfl,rfl,hxk,hB⟩:=hrel;by_cases hlt:k<n
 ·(have hx:∃ad,A=some ad∧wr.cell? (ad.add k)=some (.int .u8 ((bs[k]'(by omega)).toNat:Int)):=by obtain⟨ad,c,u,e,h1,h2⟩:=Rd.at_ (Rd.below hv'.out hB) (k:=k) (by omega);cases e;rw[List.getElem?_map,gE (by omega)]at h1;cases h1;exact⟨_,rfl,h2⟩);obtain⟨ad,rfl,hc⟩:=hx;obtain⟨y,hy⟩:∃y:Nat,y=(bs[k]'(by omega)).toNat:=⟨_,rfl⟩;rw[←hy]at hc;(have hy2:y<256:=by rw[hy];exact UInt8.toNat_lt _);replace hy:=Lh hy;(have q1:(k:Int)<n:=by omega);(have q2:(y:Int)<256:=by omega);have q3:IntKind.u32.wrap (y:Int)=y:=wraps_u32 _ (by omega) (by omega);clear hv';go_wp2_with(first |(go_at_call 197;refine(ah2 (bits_lo_u32 _ _ _) (bits_hi_u32 _ _ _) _).mono ?_;rintro e w9 ⟨rfl,hB9⟩;replace hB:=hB.trans (hB9.mono hB.size);clear hB9));refine⟨⟨k+1,_,by omega,rfl,rfl,?_,hB⟩,by simp[intOf];omega⟩;refine Lh ?_;rw[List.take_add_one,gE (by omega),List.foldl_append,←hxk.out,hy.out];rfl
 obtain rfl:k=n:=by omega
 have hcv:IntKind.i64.wrap (bits BinOp.xor IntKind.u32 IntKind.u32.max x)=bits BinOp.xor IntKind.u32 IntKind.u32.max x:=IntWalk.i64_in _ (by have:=bits_lo_u32 BinOp.xor IntKind.u32.max x;have:=bits_hi_u32 BinOp.xor IntKind.u32.max x;omega);go_wp2_with fail;go_ret;refine⟨?_,hB⟩;have e:E9 bs=bits BinOp.xor IntKind.u32 IntKind.u32.max x:=by unfold E9;rw[hxk.out,List.take_of_length_le (by omega)]
 rw[e];rfl
theorem alD {v:Value} {bs:List UInt8} {w:World} (hv:BytesAt w v bs) (hlen:bs.length≤1048576):Calls Tryz.prog 171 #[v] w fun e w'=>e= .returned (.int .i64 (E9 bs))∧Below w.heap.size w w':=by have h:=ah3 hv hlen;clear hv hlen;go_enter Tryz.func171,Tryz.ntmps171;go_wp2_with(go_at_call 186;refine h.mono ?_;rintro e w9 ⟨rfl,hB9⟩);go_ret;exact⟨rfl,hB9⟩
def leB (n k:Nat):List UInt8:=(List.range k).map fun i=>UInt8.ofNat (n/2 ^ (8*i))
theorem wP {b xs:List UInt8} {i:Nat} (h:i+xs.length<b.length) (y:UInt8):(bW b i xs).set (i+xs.length) y=bW b i (xs++[y]):=by
 apply List.ext_getElem?;intro k;rw[List.getElem?_set,dL (by omega),pG (by omega),pG (by simp;omega)];by_cases e:i+xs.length=k
 ·subst e;rw[if_pos rfl,if_pos h,if_pos ⟨by omega,by simp⟩,Nat.add_sub_cancel_left];simp
 rw[if_neg e];by_cases e2:i≤k∧k<i+xs.length
 ·rw[if_pos e2,if_pos ⟨e2.1,by simp;omega⟩,List.getElem?_append_left (by omega)]
 rw[if_neg e2,if_neg (by simp;omega)]
theorem ah4 (n m:Nat):leB n (m+1)=leB n m++[UInt8.ofNat (n/2 ^ (8*m))]:=by unfold leB;rw[List.range_succ,List.map_append];rfl
theorem F8 (n:Nat):jP (UInt8.ofNat n)= .int .u8 ((n:Int)%256):=by unfold jP;rw[qQ];rfl
set_option maxRecDepth 100000 in
set_option maxHeartbeats 1000000 in
theorem P7 {w0 w:World} {R:List aU} {v:Value} {bs:List UInt8} {at' n k:Nat} (h:Sep w0 w (aH v bs::R)) (hk:at'+k≤bs.length) (hk8:k≤7) (hlen:bs.length≤1048576) (hn:n<4611686018427387904):
  Calls Tryz.prog 173 #[v,.int .i64 at',.int .i64 n,.int .i64 k] w fun e w'=>e= .returned (.tuple #[])∧Sep w0 w' (aH v (bW bs at' (leB n k))::R):=by
 obtain⟨A,cap,hv⟩:=h.dA 0 rfl;subst hv;obtain⟨L,hL⟩:∃L,bs.length=L:=⟨_,rfl⟩;have h':=Lh h;rw[hL]at hk hlen;rw[hL];have b1:(L:Int)≤1048576:=by omega
 have b2:(at':Int)+k≤L:=by omega
 have b3:(k:Int)≤7:=by omega
 have b4:(n:Int)<4611686018427387904:=by omega
 clear h;go_enter Tryz.func173,Tryz.ntmps173;go_wp2_with fail;go_loopw[10] (fun i wr=>∃m:Nat,m≤k∧i= .int .i64 m∧Hid (Sep w0 wr (aH (.slice A L cap) (bW bs at' (leB n m))::R))) (fun i _=>k-(intOf i).toNat)
 case atStart=>exact⟨0,Nat.zero_le _,rfl,by rw[hL]at h';simpa[bW,leB]using h'⟩
 obtain⟨m,hm,rfl,hS⟩:=hrel;have hll:(leB n m).length=m:=by simp[leB]
 have hlb:(bW bs at' (leB n m)).length=L:=by rw[dL (by omega),hL]
 by_cases hlt:m<k
 ·obtain⟨g,c,e,_,_,_,_⟩:=hS.out.iP 0 rfl (by omega);rw[hlb]at e;cases e;(have hS2:Sep w0 wr (.sl 5 1 (.slice (some ⟨g,0,none⟩) L cap) L ((bW bs at' (leB n m)).map jP)::R):=by have:=hS.out;rw[bE hlb]at this;exact this);have hc0:=hS2.cellAt 0 rfl (at'+m) (by omega);have hf:=hS2.frozenAt 0 rfl (at'+m);(have hc:∃z:Int,wr.cell? ⟨g,at'+m,none⟩=some (.int .u8 z):=by rw[List.getElem?_map,gE (by omega)]at hc0;exact⟨_,hc0⟩);obtain⟨u0,hc⟩:=hc;clear hc0;(have hst:=fun u=>hS2.stored 0 rfl (at'+m) u);(have q1:(m:Int)<k:=by omega);(have q2:(0:Int)≤(m:Int):=by omega);(have q3:((at':Int)+m).toNat=at'+m:=by omega);replace hst:=Lh hst;clear hS hS2 hll hlb hn hlen b4;go_wp2_with fail;refine⟨⟨m+1,by omega,rfl,Lh ?_⟩,by simp[intOf];omega⟩;have h9:=hst.out (.int .u8 ((n:Int)/2 ^ (8*m)%256));(have hll:(leB n m).length=m:=by simp[leB]);(have hlb:(bW bs at' (leB n (m+1))).length=L:=by rw[dL (by simp[leB];omega),hL]);rw[bE hlb,ah4,←wP (by rw[hll,hL];omega),hll,List.map_set,F8];(have e:((n/2 ^ (8*m):Nat):Int)=(n:Int)/2 ^ (8*m):=by simp);rw[e];exact h9
 obtain rfl:m=k:=by omega
 go_wp2_with fail
 go_end0
 exact⟨rfl,hS.out⟩
theorem join_step {G z m:Nat} (hG:G<2 ^ (8*m)) (hz:z<256) (hm:m≤6):bits BinOp.or IntKind.i64 (G:Int) (wrap64 ((z:Int)*2 ^ (8*m)))=((G+z*2 ^ (8*m):Nat):Int):=by
 have hp:(2:Nat) ^ (8*m)≤2 ^ 48:=Nat.pow_le_pow_right (by decide) (by omega);have hzp:z*2 ^ (8*m)≤255*2 ^ 48:=Nat.mul_le_mul (by omega) hp;have e2:(z:Int)*2 ^ (8*m)=((z*2 ^ (8*m):Nat):Int):=by simp
 have hmod:z*2 ^ (8*m)%2 ^ (8*m)=0:=Nat.mul_mod_left _ _;rw[e2];generalize z*2 ^ (8*m)=q at hzp hmod;have c1:(255*2 ^ 48:Nat)=71776119061217280:=by decide
 have c2:(2:Nat) ^ 48=281474976710656:=by decide
 rw[c1]at hzp;rw[c2]at hp;have e3:wrap64 (q:Int)=(q:Int):=IntWalk.wrap64_in _ (by omega);have c3:(2:Int) ^ 63=9223372036854775808:=by decide
 rw[e3];refine bits_join_low .i64 63 (by decide) (fun n h0 h1=>IntWalk.i64_in n ?_) (8*m) (G:Int) (q:Int) ?_ ?_ ?_ ?_ ?_ ?_
 ·rw[c3]at h1;omega
 ·omega
 ·exact_mod_cast hG
 ·rw[c3];omega
 ·omega
 ·exact_mod_cast hmod
 rw[c3];omega
end Go.Proofs.YteihmbaimbogaaaGreat
