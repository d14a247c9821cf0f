/- FsE, laid together. -/
import Derived.Test.YteihmbaimbogaaaGreatJ3
import Derived.RangeFuncNested
import Derived.RangeFuncBound
import Derived.RangeFuncCalls
import Derived.RangeFuncLeaves
import Derived.RangeFuncBox
import Derived.Shelf.Abstract
import Derived.OwnWalkIn
import Derived.TacticsInMore
import Derived.LoopNIn
import Derived.LoopIn
namespace Go.Proofs.YteihmbaimbogaaaGreat
open Go.RowKit Go.Shelf
set_option linter.unusedVariables false
set_option linter.unusedSimpArgs false
attribute [local go_sem] Oper.semAt_some
structure rF (n₀:Nat) (F:List Nat) (W W':World):Prop where
 os:W'.os=W.os
 tape:W'.tape=W.tape
 output:W'.output=W.output
 size:W.heap.size≤W'.heap.size
 block:∀k,k<n₀→k∉F→W'.heap[k]? =W.heap[k]?
theorem rF.refl (n₀:Nat) (F:List Nat) (W:World):rF n₀ F W W:=⟨rfl,rfl,rfl,Nat.le_refl _,fun _ _ _=>rfl⟩
theorem rF.trans {n₀:Nat} {F:List Nat} {A B C:World} (h:rF n₀ F A B) (k:rF n₀ F B C):rF n₀ F A C:=
 ⟨k.os.trans h.os,k.tape.trans h.tape,k.output.trans h.output,Nat.le_trans h.size k.size,fun i hi hn=>(k.block i hi hn).trans (h.block i hi hn)⟩
theorem rF.putObj {n₀:Nat} {F:List Nat} {w:World} (hn:n₀≤w.heap.size) (W:World) (l:Nat) (o o':Obj) (hl:w.heap.size≤l) (h:W.heap[l]? =some o) (_:o.isCells=false) (_:o.isWalk=false):rF n₀ F W (W.putObj l o'):=by have hg:=grownBy_putObj' W l o';exact⟨hg.os,hg.tape,hg.output,hg.size,fun k hk _=>hg.block k (by have:=(Array.getElem?_eq_some_iff.1 h).1;omega) (fun e=>by cases e;omega)⟩
theorem rF.below {n₀:Nat} {F:List Nat} {W W':World} (h:Below n₀ W W'):rF n₀ F W W':=⟨h.os,h.tape,h.output,h.size,fun k hk _=>h.block k hk⟩
theorem rF.cell {n₀:Nat} {F:List Nat} {W W':World} (h:rF n₀ F W W') {a:Addr} (ha:a.block<n₀) (hf:a.block∉F):W'.cell? a=W.cell? a:=World.cell?_of_block (h.block _ ha hf)
def tX (n₀:Nat) (F:List Nat) (W:World) (A:Option Addr) (cs:List Value):Prop:=∀j u,cs[j]? =some u→∃g,A=some ⟨g,0,none⟩∧g<n₀∧g∉F∧W.cell? ⟨g,j,none⟩=some u
theorem tX.kept {n₀:Nat} {F:List Nat} {W W':World} {A:Option Addr} {cs:List Value} (h:tX n₀ F W A cs) (hk:rF n₀ F W W'):tX n₀ F W' A cs:=fun j u hj=>by obtain⟨g,e,h1,h2,h3⟩:=h j u hj;exact⟨g,e,h1,h2,(hk.cell (a:=⟨g,j,none⟩) h1 h2).trans h3⟩
theorem PG {l:List (Nat×List UInt8)} {us:List Value} (hl:us.length=l.length) {k:Nat} (hk:k<l.length) (j:Nat) (hj:j<3):(dG l us)[k*3+j]? =(vQ (l[k],us[k]'(by omega)) k)[j]? :=by
 unfold dG;have h1:((l.zip us).zipIdx)[k]? =some ((l[k],us[k]'(by omega)),k):=by rw[List.getElem?_zipIdx];(have:(l.zip us)[k]? =some (l[k],us[k]'(by omega)):=by rw[List.getElem?_zip_eq_some];exact⟨gE hk,gE (by omega)⟩);rw[this];simp
 have gen:∀(xs:List (((Nat×List UInt8)×Value)×Nat)) (i:Nat) (x:((Nat×List UInt8)×Value)×Nat),xs[i]? =some x→(xs.flatMap fun x=>vQ x.1 x.2)[i*3+j]? =(vQ x.1 x.2)[j]? :=by
  intro xs
  induction xs with
  |nil=>intro i x h;simp at h
  |cons y ys ih=>
   intro i x h;cases i with
   |zero=>simp at h;subst h;rw[List.flatMap_cons,Nat.zero_mul,Nat.zero_add,List.getElem?_append_left (by simpa[vQ]using hj)]
   |succ i=>rw[List.flatMap_cons,List.getElem?_append_right (by simp[vQ];omega)];have:=ih i x (by simpa using h);rw[←this];congr 1;simp[vQ];omega
 exact gen _ k _ h1
def xZ (l:List (Nat×List UInt8)) (us:List Value) (i:Fin l.length):Value:=.agg #[.int .i64 (l[i].1:Int),us.getD i undef,.int .i64 ((i.1:Nat):Int)]
set_option maxRecDepth 100000 in
set_option maxHeartbeats 2000000 in
theorem XD (F:Fence) (n:Nat) (h7:F.fn 127) (hro:F.round=none) (hn:1≤n) (ll Bs p n₀ c:Nat) (G:List Nat) (A:Option Addr) (l:List (Nat×List UInt8)) (us:List Value) (hl:us.length=l.length) (hsh:∀u∈us,∃A c,u= .slice A 512 c) (hc:l.length≤c) (hm:c≤maxLen) (J Jx:List (Fin l.length)→World→Prop)
  (W:World) (hJ:AbidesFrom W.heap.size J)
  (hY:∀pre x W,J pre W→pre.length<l.length→YieldAt F (n-1) Tryz.prog ll #[xZ l us x] W fun e W'=>
   (e= .returned (.bool true)∧J (pre++[x]) W'∧rF n₀ G W W')∨(e= .returned (.bool false)∧Jx (pre++[x]) W'))
  (hn0:n₀≤W.heap.size) (hBs:W.cell? ⟨Bs,0,none⟩=some (.pointer (some ⟨p,0,none⟩))) (hp:W.cell? ⟨p,2,none⟩=some (.slice A l.length c)) (hr:tX n₀ G W A (dG l us)) (h0:J [] W):
  CallsIn F n Tryz.prog 127 #[.func (.yield ll) #[] #[],.pointer (some ⟨Bs,0,none⟩)] W fun e W'=>(∃v,e= .returned v)∧
   ((∃ys:List (Fin l.length),ys.map (·.1)=List.range l.length∧J ys W')∨(∃pre:List (Fin l.length),True∧Jx pre W')):=by
 have hm':(l.length:Int)≤9223372036854775807:=by unfold maxLen at hm;omega
 refine callsIn_of_wp Tryz.func127 rfl h7 ?_ hro
 simp only[Tryz.ntmps127,List.size_toArray,List.length_cons,List.length_nil,Nat.reduceAdd,Nat.reduceSub,Array.replicate_succ,Array.replicate_zero,List.push_toArray,List.append_toArray,List.nil_append,List.cons_append]
 obtain⟨N,hN⟩:∃N,l.length=N:=⟨_,rfl⟩
 simp only[hN]at hm' hp hc
 gi_wp2
 gi_loopw [10] (fun i wr=>∃(k:Nat) (pre:List (Fin l.length)),k≤N∧i= .int .i64 k∧pre.map (·.1)=List.range k∧J pre wr∧rF n₀ G W wr)
  (fun i _=>N-(intOf i).toNat)
 case atStart=>exact⟨0,[],Nat.zero_le _,rfl,rfl,h0,rF.refl _ _ _⟩
 case round=>
  obtain⟨k,pre,hk,rfl,hpre,hJs,hnx⟩:=hrel;by_cases hlt:k<N
  ·(have hk':k<l.length:=by omega);have hrow:=hr.kept hnx;(have hat:=fun j hj=>PG hl hk' j hj);obtain⟨g,hA,_,_,c0⟩:=hrow (k*3) _ (hat 0 (by omega));obtain⟨g1,hA1,_,_,c1⟩:=hrow (k*3+1) _ (hat 1 (by omega));obtain⟨g2,hA2,_,_,c2⟩:=hrow (k*3+2) _ (hat 2 (by omega));subst hA;cases hA1;cases hA2;(have hb1:(0:Int)≤(k:Int):=by omega);(have hb2:(k:Int)<(N:Int):=by omega);obtain⟨Au,cu,hu⟩:=hsh (us[k]'(by omega)) (List.getElem_mem _);(have hval:xZ l us ⟨k,hk'⟩= .agg #[.int .i64 ((l[k].1:Nat):Int),.slice Au 512 cu,.int .i64 (k:Int)]:=by unfold xZ;simp only[gH,gE (show k<us.length by omega),Option.getD_some,hu];rfl);rw[hu]at c1;obtain⟨x0,hx0⟩:∃x0,l[k].1=x0:=⟨_,rfl⟩;rw[hx0]at c0 hval;obtain⟨W2,hW2⟩:∃W2,W2=wr.alloc (.cells #[.int .i64 (x0:Int),.slice Au 512 cu,.int .i64 (k:Int)] 137):=⟨_,rfl⟩;(have hB:Below wr.heap.size wr W2:=by rw[hW2];exact(Below.refl _ wr).alloc (Nat.le_refl _) _);have hJ2:J pre W2:=hJ pre wr W2 none hJs ⟨hB.os,hB.tape,hB.output,hB.size,fun k hk _=>hB.block k hk⟩ (fun r e=>by cases e);obtain⟨fn,tmps,assign,body,hy,hR⟩:=hY pre ⟨k,hk'⟩ W2 hJ2 (by have:=congrArg List.length hpre;simp at this;omega);rw[hval,hW2]at hy;rw[hW2]at hR;have hB':=Lh hB;have hrow':=Lh hrow;have hr':=Lh hr;clear hB hrow hr hat hval hsh hu hJ2 hY hJ;have hsz:n₀≤wr.heap.size:=Nat.le_trans hn0 hnx.size;clear hW2
   gi_wp2
   refine hR.mono ?_;rintro e W3 (⟨rfl,hJ3,hk3⟩|⟨rfl,hJx3⟩)
   ·gi_wp2
    go_roundw
    case rel=>refine⟨k+1,pre++[⟨k,hk'⟩],by omega,by simp,?_,hJ3,(hnx.trans (rF.below ((Below.refl _ wr).alloc (Nat.le_refl _) _|>.mono hsz))).trans hk3⟩;rw[List.map_append,hpre,List.range_succ];rfl
    case measure=>simp[intOf];omega
   gi_wp2
   refine bodyPost_ret (results_none rfl _ _ _) rfl ?_;exact⟨⟨_,rfl⟩,.inr ⟨_,trivial,hJx3⟩⟩
  obtain rfl:k=N:=by omega
  gi_wp2
  go_end0
  exact⟨⟨_,rfl⟩,.inl ⟨_,hpre.trans (by rw[hN]),hJs⟩⟩
theorem PH (F:Fence) (n:Nat) (h7:F.fn 127) (hro:F.round=none) (hn:1≤n) (Bs p n₀ c:Nat) (G:List Nat) (A:Option Addr) (l:List (Nat×List UInt8)) (us:List Value) (hl:us.length=l.length) (hsh:∀u∈us,∃A c,u= .slice A 512 c) (hc:l.length≤c) (hm:c≤maxLen)
  (w:World) (hn0:n₀=w.heap.size) (hBs:w.cell? ⟨Bs,0,none⟩=some (.pointer (some ⟨p,0,none⟩))) (hp:w.cell? ⟨p,2,none⟩=some (.slice A l.length c)) (hr:tX n₀ G w A (dG l us)):
  SeqStopsK F n Tryz.prog 127 #[.pointer (some ⟨Bs,0,none⟩)] (fun x:Fin l.length=>#[xZ l us x]) (rF n₀ G) (fun ys=>ys.map (·.1)=List.range l.length) (fun _=>True) l.length w:=fun ll J Jx W hW hJ _ hY h0=>by
 have b1:=World.block_lt_of_cell? w _ hBs;have b2:=World.block_lt_of_cell? w _ hp;exact XD F n h7 hro hn ll Bs p n₀ c G A l us hl hsh hc hm J Jx W hJ hY (by rw[hn0];exact hW.size) ((hW.cell b1).trans hBs) ((hW.cell b2).trans hp) (hr.kept (rF.below (by rw[hn0];exact hW))) h0
theorem ab5 (F:Fence) (n:Nat) (h41:F.fn 73) (hro:F.round=none) (p:Nat) (w:World):
  CallsIn F n Tryz.prog 73 #[.pointer (some ⟨p,0,none⟩)] w fun e w'=>e= .returned (.func (.func 127) #[] #[.pointer (some ⟨w.heap.size,0,none⟩)])∧w'=w.alloc (.cells #[.pointer (some ⟨p,0,none⟩)] 23):=by
 refine callsIn_of_wp Tryz.func73 rfl h41 ?_ hro;simp only[Tryz.ntmps73,List.size_toArray,List.length_cons,List.length_nil,Nat.reduceAdd,Nat.reduceSub,Array.replicate_succ,Array.replicate_zero,List.push_toArray,List.append_toArray,List.nil_append,List.cons_append]
 gi_wp2
 go_ret;exact⟨rfl,rfl⟩
end Go.Proofs.YteihmbaimbogaaaGreat
