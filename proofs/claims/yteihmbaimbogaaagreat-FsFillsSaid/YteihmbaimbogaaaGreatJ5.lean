/- FsF, laid together. -/
import Derived.Test.YteihmbaimbogaaaGreatJ4
namespace Go.Proofs.YteihmbaimbogaaaGreat
open Go.RowKit Go.Shelf
set_option linter.unusedVariables false
set_option linter.unusedSimpArgs false
attribute [local go_sem] Oper.semAt_some
theorem PX {P:Program} {w:World} {e:TypeId} {g n c:Nat} {cs:List Value} (h:w.ownsRow 0 e 1 (.slice (some ⟨g,0,none⟩) n c) n cs) (dT sT ty:TypeId) (hu:P.underlying dT=some (.slice e)) (hs:(P.info? e).map (·.size)=some 1)
  (o dLen dCap:Nat) (a:Addr) (m sc:Nat) (src:List Value) (hl:src.length=m) (hr:∀j u,src[j]? =some u→w.cell? (a.add j)=some u) (h1:∀u∈src,u.oneCell'=true) (hfit:o+m≤n) (hd:dLen=m):
  ∃w',(Builtin.copy_ #[dT,sT] ty #[.slice (some ⟨g,o,none⟩) dLen dCap,.slice (some a) m sc]).run P w= .ok (goInt (m:Nat)) w'∧w'.ownsRow 0 e 1 (.slice (some ⟨g,0,none⟩) n c) n (kV cs o src)∧j3 w w' [g]∧KeepsOthers w w':=by
 subst hd;obtain⟨hlen,ho⟩:=h;rcases ho with⟨h',_⟩|⟨g',cap',cur,h',hb,hg,hc,hm,hs',ht⟩
 ·simp at h'
 simp only[Value.slice.injEq,Option.some.injEq,Addr.mk.injEq,and_true,true_and]at h';obtain⟨rfl,rfl⟩:=h';rw[Nat.mul_one]at hs' ht hlen;have hcl:cur.toList.length=c:=by simpa using hs'
 have hrun:=run_copy_row P w dT sT ty e g o dLen dCap a dLen sc cur e src hu hs hg (by rw[hl];exact(Nat.min_self _).symm) hr (by omega) h1;refine⟨_,by rw[hrun,hl],⟨?_,.inr ⟨g,c,_,rfl,hb,setRow_heap w g cur _ e _ hg,hc,hm,?_,?_⟩⟩,?_,?_⟩
 ·rw[Q4 (by omega),hlen,Nat.mul_one]
 ·simp only[List.size_toArray,List.length_append,List.length_take,List.length_drop,hcl];omega
 ·rw[←ht];unfold kV;simp only[Nat.mul_one];apply List.ext_getElem?;intro k;simp only[List.getElem?_take,List.getElem?_append,List.length_append,List.length_take,List.getElem?_drop,hcl];by_cases k1:k<o
  ·(have a1:k<min o c:=by omega);(have a2:k<min o (min n c):=by omega);(have a3:k<n:=by omega);(have a4:k<min o c+src.length:=by omega);(have a5:k<min o (min n c)+src.length:=by omega);simp[a1,a2,a3,a4,a5,k1]
  by_cases k2:k<o+src.length
  ·(have a1:¬k<min o c:=by omega);(have a2:¬k<min o (min n c):=by omega);(have a3:k<n:=by omega);(have a4:k<min o c+src.length:=by omega);(have a5:k<min o (min n c)+src.length:=by omega);(have a6:min o c=min o (min n c):=by omega);simp[a2,a3,a5,a6]
  (have a4:¬k<min o c+src.length:=by omega);(have a5:¬k<min o (min n c)+src.length:=by omega);(have a6:o+src.length+(k-(min o c+src.length))=k:=by omega);(have a7:o+src.length+(k-(min o (min n c)+src.length))=k:=by omega);(have a8:o+dLen+(k-(min o c+src.length))=k:=by omega);simp[a4,a5,a6,a7,a8]
 ·exact⟨rfl,rfl,rfl,by simp[World.setRow],fun k _ hn=>setRow_other w g k _ (by simpa[eq_comm]using hn)⟩
 refine⟨by simp[World.setRow],fun k o hk ho=>?_⟩;by_cases e:k=g
 ·subst e;rw[hg]at hk;cases hk;cases ho
 rw[setRow_other w g k _ e];exact hk
def FlI (w1:World) (gf n c:Nat) (fast:dW) (l:List (Nat×List UInt8)) (pre:List (Fin l.length)) (W:World):Prop:=
 rF w1.heap.size [gf] w1 W∧W.ownsRow 0 5 1 (.slice (some ⟨gf,0,none⟩) n c) n ((jE fast (pre.map fun i=>l[i])).flatten.map jP)
theorem FlI.own {w1:World} {gf n c:Nat} {fast:dW} {l:List (Nat×List UInt8)} (hg:gf<w1.heap.size):OwnFrom w1.heap.size (FlI w1 gf n c fast l):=fun s W W' row hs hgr hr=>by
 have hblk:∀k,k<w1.heap.size→W'.heap[k]? =W.heap[k]? :=fun k hk=>hgr.block k (Nat.lt_of_lt_of_le hk hs.1.size) (fun e=>by have:=(hr k e.symm).1;omega)
 refine⟨hs.1.trans ⟨hgr.os,hgr.tape,hgr.output,hgr.size,fun k hk _=>hblk k hk⟩,hs.2.1,?_⟩;rcases hs.2.2 with h|⟨g,cap,cur,hv,hb,hh,r⟩
 ·exact .inl h
 refine .inr ⟨g,cap,cur,hv,hb,?_,r⟩;cases hv;rw[hblk _ hg];exact hh
def aU.obj (b:Nat) (o:Obj):aU:=
 ⟨fun w F=>w.heap[b]? =some o∧F=[b],
  fun w w' F h hk=>⟨by rw[hk b (by rw[h.2];simp)];exact h.1,h.2⟩,
  fun w F h=>by rw[h.2];exact⟨by simp,fun b' hb=>by simp at hb;subst hb;exact lt_of_heap h.1⟩⟩
theorem Sep.auA {w0 w:World} {As:List aU} {b:Nat} {o:Obj} (i:Nat) (h:Sep w0 w As) (hi:As[i]? =some (.obj b o)):w.heap[b]? =some o:=by obtain⟨F,⟨ho,_⟩,_⟩:=h.get i hi;exact ho
theorem Sep.putObj {w0 w:World} {As:List aU} {b:Nat} {o:Obj} (i:Nat) (o':Obj) (h:Sep w0 w As) (hi:As[i]? =some (.obj b o)):Sep w0 (w.putObj b o') (As.set i (.obj b o')):=by
 refine h.step i hi fun F ⟨ho,hF⟩ _=>⟨F,⟨?_,hF⟩,fun x hx=>.inl hx,?_⟩
 ·have hlt:=lt_of_heap ho;simp[World.putObj,hlt]
 have hg:=grownBy_putObj' w b o';rw[hF];exact j3.o7 hg
def FR (ops:Array Oper):Bool:=ops.toList.all fun o=>match o.op with| .defer _=>false|_=>true
theorem PY {ops:Array Oper} (h:FR ops=true) {i:Nat} {o:Oper} (ho:ops[i]? =some o):∀c,o.op≠ .defer c:=by
 intro c e;have h1:o∈ops.toList:=by obtain⟨hi,rfl⟩:=Array.getElem?_eq_some_iff.1 ho;exact Array.mem_def.1 (Array.getElem_mem hi)
 have h2:=(List.all_eq_true.1 h) o h1;rw[e]at h2;cases h2
theorem PZ {l n:Nat} {P:Program} {row:String} {args:Array Value} {w:World} {R:Value→World→Prop} (h:Rows P row args w R):RowsIn (Fence.wide.inRound l) n P row args w R:=
 fun c cs _=>let ⟨v,w',r,s⟩:=h c cs;⟨v,w',r,stepsIn_wide.2 s⟩
theorem P5 {l n:Nat} {P:Program} {ops:Array Oper} {Q:Exit→Act→World→Prop} (hd:FR ops=true) (hlo:¬LetsOut Q) {i:Nat} {K K':Act→World→Prop} {a:Act} {w:World} (hK:∀a w,K a w→K' a w) (h:wpOp P ops Q i K a w):wpOpIn (Fence.wide.inRound l) n P ops Q i K' a w:=by
 unfold wpOp at h;unfold wpOpIn;split at h
 ·rename_i ho;simp only[ho];exact hK _ _ h
 rename_i o ho;simp only[ho];split at h
 ·rename_i hw;simp only[hw,if_true];refine⟨fun _ _=>trivial,?_⟩;rw[Oper.semAt_eq _ _ _ (PY hd ho)];replace h:=h.resolve_right (fun h=>hlo h.2);unfold Oper.wp at h;generalize(execOp a.eval o).run P w=r at*;cases r with
  |ok x w'=>
   cases x<;>simp only[Oper.upon,Oper.uponIn]at h ⊢ <;>first
    |exact hK _ _ h
    |exact⟨fun h=>by simp[Fence.wide]at h,CallsIn.inRound l (callsIn_wide.2 (h.mono fun e w'' he=>by cases e<;>first |exact hK _ _ he|exact he))⟩
    |exact⟨fun h=>by simp[Fence.wide]at h,RowsIn.mono (PZ h) fun _ _ he=>hK _ _ he⟩
    |exact h.elim
  |halt x w'=>cases x<;>simp only[Oper.upon,Oper.uponIn]at h ⊢ <;>first |exact h|exact h.elim
 rename_i hw;simp only[hw,Bool.false_eq_true,if_false];exact⟨fun _ _=>trivial,hK _ _ h⟩
theorem yE {l n:Nat} {P:Program} {md:Region.Mode} {ops:Array Oper} {Q:Exit→Act→World→Prop} (hd:FR ops=true) (hlo:¬LetsOut Q):∀(f:Nat) (ls:Array Bool) (a:Act) (w:World),wpAny P md ops Q f ls a w→wpAnyIn (Fence.wide.inRound l) n P md ops Q f ls a w
 |0,_,_,_,h=>h
 |f+1,ls,a,w,h=>⟨h.1,fun i hi=>P5 hd hlo (fun a w h=>yE hd hlo f _ a w h) (h.2 i hi)⟩
theorem LF {l n:Nat} {P:Program} {ops:Array Oper} {Q:Exit→Act→World→Prop} {S:World→Prop} {id:Nat} {a:Act} {w:World} (z:Nat) (hm:P.follows .mixedOrders=true) (hd:FR ops=true) (hlo:¬LetsOut Q)
  (h:OA P .any ops Q S z ops.size (Array.replicate ops.size false) a w.drew):(Code.region id ops true).wpIn (Fence.wide.inRound l) n P Q a w:=
 wpIn_region_any hm (yE hd hlo _ _ _ _ (yK _ _ _ _ h))
theorem tX.mono {n₀ n₁:Nat} {F:List Nat} {W:World} {A:Option Addr} {cs:List Value} (h:tX n₀ F W A cs) (hn:n₀≤n₁):tX n₁ F W A cs:=fun j u hj=>by obtain⟨g,e,h1,h2,h3⟩:=h j u hj;exact⟨g,e,by omega,h2,h3⟩
set_option maxRecDepth 100000 in
set_option maxHeartbeats 2000000 in
theorem XU {w0 w:World} {R:List aU} {p nb:Nat} {D:DK} (hD:D.ok nb) (h:Sep w0 w (aJ p D::R)):
  Calls Tryz.prog 27 #[.pointer (some ⟨p,0,none⟩)] w fun e w'=>
   e= .returned (.int .i64 (if D.off=true then 11 else 0))∧Sep w0 w' (aJ p (if D.off=true then D else D.fl)::R):=by
 have h00:=Lh h
 obtain⟨vn,vf,vb,h⟩:=h.rZ
 have hfl:=jH hD.fast.size
 have hlen:=hD.fast.len
 have hnb:=hD.few
 obtain⟨g,n,c,rfl,hnl,hc,hm⟩:=h.tQ 2 rfl (by have:=hD.some;omega)
 have hn:n=512*nb:=by rw[hnl.out,hfl,hlen]
 have hp0:Sep w0 w (xV vb D.back::fG p vn (.slice (some ⟨g,0,none⟩) n c) vb D.off D.left::aH vn D.now.flatten::aH (.slice (some ⟨g,0,none⟩) n c) D.fast.flatten::R):=Sep.bZ [3,0,1,2] h (by decide) (by simp)
 obtain⟨us,FK,hp1⟩:=Sep.MR hp0
 have hp:Sep w0 w (.sl 137 3 vb D.back.length (dG D.back us)::fG p vn (.slice (some ⟨g,0,none⟩) n c) vb D.off D.left::aH vn D.now.flatten::aH (.slice (some ⟨g,0,none⟩) n c) D.fast.flatten::(List.zipWith (fun u (x:Nat×List UInt8)=>aH u x.2) us D.back++R)):=hp1.perm (List.Perm.cons _ (afF _ _ _ _ _))
 obtain⟨Ab,cb,anF,hbc,hbm,_⟩:=hp.vB 0 rfl
 subst anF
 --what stands in the list of writes
 have hel:∀i (hi:i<D.back.length),∃gu cu,us[i]? =some (.slice (some ⟨gu,0,none⟩) 512 cu)∧gu<w.heap.size∧gu≠g∧(∀W,rF w.heap.size [g] w W→∀j u,(D.back[i].2.map jP)[j]? =some u→W.cell? ⟨gu,j,none⟩=some u):=by
  intro i hi;have amW:=(hD.back _ (List.getElem_mem hi)).2;(have hz:((List.zipWith (fun u (x:Nat×List UInt8)=>aH u x.2) us D.back)++R)[i]? =some (aH (us[i]'(by omega)) D.back[i].2):=by rw[List.getElem?_append_left (by simp[FK,hi]),List.getElem?_zipWith,gE (by omega),gE hi]);rw[bE amW]at hz;(have hidx:(.sl 137 3 (.slice Ab D.back.length cb) D.back.length (dG D.back us)::fG p vn (.slice (some ⟨g,0,none⟩) n c) (.slice Ab D.back.length cb) D.off D.left::aH vn D.now.flatten::aH (.slice (some ⟨g,0,none⟩) n c) D.fast.flatten::(List.zipWith (fun u (x:Nat×List UInt8)=>aH u x.2) us D.back++R))[4+i]? =some (.sl 5 1 (us[i]'(by omega)) 512 (D.back[i].2.map jP)):=by rw[Nat.add_comm];exact hz);obtain⟨gu,cu,hu,_,hlt,_,_⟩:=hp.iP (4+i) hidx (by decide);refine⟨gu,cu,by rw[gE (by omega),hu],hlt,?_,fun W hW j u hj=>?_⟩
  ·rw[hu]at hidx;have h3:=hp;rw[bE hnl.out.symm]at h3 hidx;exact(h3.adE 3 (4+i) (by omega) rfl hidx).symm
  (have hne:gu≠g:=by rw[hu]at hidx;have h3:=hp;rw[bE hnl.out.symm]at h3 hidx;exact(h3.adE 3 (4+i) (by omega) rfl hidx).symm);rw[hu]at hidx;rw[hW.cell (a:=⟨gu,j,none⟩) hlt (by simpa using hne),hp.cellAt (4+i) hidx j (by have:=(gF.1 hj).1;rw[List.length_map,amW]at this;omega)];exact hj
 have hRL:tX w.heap.size [g] w Ab (dG D.back us):=by
  intro j u hj;have hjl:=(gF.1 hj).1;have hpos:0<D.back.length:=by
   rcases Nat.eq_zero_or_pos D.back.length with h0|h0
   ·have:D.back=[]:=List.eq_nil_of_length_eq_zero h0;rw[this]at hjl;simp[dG]at hjl
   exact h0
  obtain⟨gb,cb',e,_,hlt,_,_⟩:=hp.iP 0 rfl hpos;cases e;have h3:=hp;rw[bE hnl.out.symm]at h3;have hne:=h3.adE 0 3 (by omega) rfl rfl;(have hcl:(dG D.back us).length=D.back.length*3:=by obtain⟨_,_,_,_,_,e⟩:=hp.vB 0 rfl;exact e);refine⟨gb,rfl,hlt,by simpa using hne,?_⟩;rw[hp.cellAt 0 rfl j (by rw[←hcl];exact hjl)];exact hj
 have hC:=hp.qU 1 rfl
 have c3:=hC.c3
 have c2:=hC.c2
 have c1:=hC.c1
 have hsh:∀u∈us,∃A c,u= .slice A 512 c:=fun u hu=>by obtain⟨i,hi,e⟩:=List.getElem_of_mem hu;obtain⟨gu,cu,h1,_⟩:=hel i (by omega);rw[gE hi,e]at h1;cases h1;exact⟨_,_,rfl⟩
 have hg1:g<w.heap.size:=by obtain⟨g',c',e,_,hlt,_⟩:=hp.iP 3 rfl (by rw[←hnl.out];have:=hD.some;omega);cases e;exact hlt
 have hown0:w.ownsRow 0 5 1 (.slice (some ⟨g,0,none⟩) n c) n ((jE D.fast []).flatten.map jP):=by have h3:=hp;rw[bE hnl.out.symm]at h3;obtain⟨F,⟨ho,_⟩,_⟩:=h3.get 3 rfl;exact ho
 have auB:p≠g:=by obtain⟨F,G,⟨_,rfl⟩,⟨_,rfl⟩,hne⟩:=hp.apart 1 3 (by omega) rfl rfl;intro e;exact hne p (by simp) (by simp[Value.ownBlock,e])
 have hp':=Lh hp
 have auC:=Lh hel
 have ay6:=Lh hRL
 have hsh':=Lh hsh
 have hown':=Lh hown0
 have hn':=Lh hn
 have hlen':=Lh hlen
 have awH:=Lh hfl
 have ay7:=Lh hbm
 have ay8:=Lh hbc
 have afG:=Lh FK
 have hC':=Lh hC
 obtain⟨L,hL⟩:∃L,L=D.back.length:=⟨_,rfl⟩
 rw[←hL]at c2
 have hL':=Lh hL
 have QA:∀(fn:Fn) (first cap:Array Value) (w:World),(Instr.makeFunc fn first cap).run Tryz.prog w= .ok (.func fn first cap) w:=fun _ _ _ _=>rfl
 clear hp hel hRL hsh hown0 hn hlen hfl hbm hbc FK hp0 hp1 h hm hc hnb hC hL
 have hB1:Below w.heap.size w (w.alloc (.cells #[.pointer (some ⟨p,0,none⟩)] 23)):=(Below.refl _ w).alloc (Nat.le_refl _) _
 have hB2:Below w.heap.size w ((w.alloc (.cells #[.pointer (some ⟨p,0,none⟩)] 23)).alloc (.cells #[.pointer (some ⟨p,0,none⟩)] 23)):=hB1.alloc (by simp) _
 have hS1:=hp'.out.pure hB1
 have hS2:=hp'.out.pure hB2
 have a3:=(hS1.qU 1 rfl).c3
 have b2:=(hS2.qU 1 rfl).c2
 have b0:((w.alloc (.cells #[.pointer (some ⟨p,0,none⟩)] 23)).alloc (.cells #[.pointer (some ⟨p,0,none⟩)] 23)).cell? ⟨w.heap.size,0,none⟩=some (.pointer (some ⟨p,0,none⟩)):=by simp[go_sem]
 have b9:((w.alloc (.cells #[.pointer (some ⟨p,0,none⟩)] 23)).alloc (.cells #[.pointer (some ⟨p,0,none⟩)] 23)).cell? ⟨w.heap.size+1,0,none⟩=some (.pointer (some ⟨p,0,none⟩)):=by simp[go_sem]
 have b1:=(hS2.qU 1 rfl).c1
 have ahZ:=Lh hS2
 have hB2':=Lh hB2
 clear hS1 hB1 hS2 hB2
 refine(callsIn_wide (n:=4)).1 ?_
 refine callsIn_of_wp_marks Tryz.func27 rfl trivial ?_ rfl
 simp only[Tryz.ntmps27,List.size_toArray,List.length_cons,List.length_nil,Nat.reduceAdd,Nat.reduceSub,Array.replicate_succ,Array.replicate_zero,List.push_toArray,List.append_toArray,List.nil_append,List.cons_append]
 rw[wpIn_wide]
 cases hoff:D.off with
 |true=>
  rw[hoff]at a3;go_wp2_with fail;refine⟨.int .i64 11,?_,?_⟩
  ·simp[results,Tryz.f27,go_sem]
  exact⟨rfl,h00.out.pure ((Below.refl _ w).alloc (Nat.le_refl _) _)⟩
 |false=>
  rw[hoff]at a3;go_wp2_with(go_at_call 73;refine(callsIn_wide.1 (ab5 Fence.wide 1 trivial rfl p _)).mono ?_;rintro e w9 ⟨rfl,rfl⟩);obtain⟨w1,hw1⟩:∃w1,(w.alloc (.cells #[.pointer (some ⟨p,0,none⟩)] 23)).alloc (.cells #[.pointer (some ⟨p,0,none⟩)] 23)=w1:=⟨_,rfl⟩;rw[hw1]at ahZ hB2' b0 b1 b2 b9 ⊢;(have hs1:w.heap.size+1+1=w1.heap.size:=by rw[←hw1];simp);have hK1:rF w.heap.size [g] w w1:=rF.below hB2'.out;have hst:=PH Fence.wide 3 trivial rfl (by decide) (w.heap.size+1) p w1.heap.size cb [g] Ab D.back us afG.out hsh'.out ay8.out ay7.out w1 rfl b9 (hL'.out▸b2) ((ay6.out.kept hK1).mono (by omega));(have hown1:w1.ownsRow 0 5 1 (.slice (some ⟨g,0,none⟩) n c) n ((jE D.fast []).flatten.map jP):=by have h3:=ahZ.out;rw[bE hnl.out.symm]at h3;obtain⟨F,⟨ho,_⟩,_⟩:=h3.get 3 rfl;exact ho);refine wpIn_wide.1 (wpIn_rangeFunc_ownH (F:=Fence.wide) (n:=4) rfl (by decide) (gf:=127) (lb:=#[.pointer (some ⟨w.heap.size+1,0,none⟩)]) rfl trivial (enters_of Tryz.func127 (by kernel_rfl) rfl) hst rF.trans (rF.putObj (Nat.le_refl _)) (Below.refl _ _) (fun _=>rfl)
   (FlI w1 g n c D.fast D.back) (fun _ _ _=>False) (FlI.own (by omega)) (fun _ _ _ _ _ h=>h.elim) ⟨rF.refl _ _ _,hown1⟩
   (fun x a' W=>∃(bw:Nat) (cs:Array Value),xZ D.back us x= .agg cs∧w1.heap.size≤bw∧W.heap[bw]? =some (.cells cs 137 (0,0))∧a'= {tmps:=#[.pointer (some ⟨p,0,none⟩),.pointer (some ⟨w.heap.size,0,none⟩),.int .i64 0,.pointer (some ⟨bw,0,none⟩),.pointer (some ⟨p,0,none⟩),.pointer (some ⟨p,0,none⟩),.pointer (some ⟨p,3,none⟩),.bool false,.pointer (some ⟨p,0,none⟩),.func (.func 127) #[] #[.pointer (some ⟨w.heap.size+1,0,none⟩)],xZ D.back us x,undef,undef,undef,undef,undef,undef,undef,undef,undef,undef,undef,undef,undef,undef,undef,undef,undef],defers:=[]})
   ?hax ?assign ?body ?done ?stop)
  case hax=>
   rintro x a' s W W' row ⟨bw,cs,h1,h2,h3,h4⟩ hg hr;refine⟨bw,cs,h1,h2,?_,h4⟩;rw[hg.block bw (lt_of_heap h3) (fun e=>?_)]
   ·exact h3
   obtain⟨_,o,ho,hc⟩:=hr bw e.symm;rw[h3]at ho;cases ho;cases hc
  case assign=>
   intro l pre x W K hI hK;obtain⟨gu,cu,hu,_⟩:=auC.out x.1 x.2;(have hv:xZ D.back us x= .agg #[.int .i64 (D.back[x].1:Int),.slice (some ⟨gu,0,none⟩) 512 cu,.int .i64 ((x.1:Nat):Int)]:=by unfold xZ;rw[gH,hu];rfl);rw[hv];have hI2:=(FlI.own (w1:=w1) (gf:=g) (n:=n) (c:=c) (fast:=D.fast) (l:=D.back) (by omega)).alloc (.cells #[.int .i64 (D.back[x].1:Int),.slice (some ⟨gu,0,none⟩) 512 cu,.int .i64 ((x.1:Nat):Int)] 137) hI;have hK':=hK _ _ ((KeepsOthers.alloc W (.cells #[.int .i64 (D.back[x].1:Int),.slice (some ⟨gu,0,none⟩) 512 cu,.int .i64 ((x.1:Nat):Int)] 137)).from _) (rF.below ((Below.refl _ W).alloc (hI.1.size) _)) hI2 ⟨W.heap.size,_,hv,hI.1.size,heap_alloc_new W _,rfl⟩;rw[hv]at hK';clear hK hI2 hI
   gi_wp2
   exact hK'
  case body=>
   rintro l pre x a' W hl _ hI ⟨bw,cs,h1,h2,h3,rfl⟩ hpl;obtain⟨gu,cu,hu,aES,aET,hsrc⟩:=auC.out x.1 x.2;have hx:=hD.back D.back[x] (List.getElem_mem x.2);(have hv:xZ D.back us x= .agg #[.int .i64 (D.back[x].1:Int),.slice (some ⟨gu,0,none⟩) 512 cu,.int .i64 ((x.1:Nat):Int)]:=by unfold xZ;rw[gH,hu];rfl);(have hcs:cs=#[.int .i64 (D.back[x].1:Int),.slice (some ⟨gu,0,none⟩) 512 cu,.int .i64 ((x.1:Nat):Int)]:=by rw[hv]at h1;cases h1;rfl);subst hcs;obtain⟨xa,hxa⟩:∃xa,D.back[x].1=xa:=⟨_,rfl⟩;obtain⟨xb,hxb⟩:∃xb,D.back[x].2=xb:=⟨_,rfl⟩;rw[hxa]at h3 hv hx;rw[hxb]at hx;have d0:=cell_of_row W bw 0 _ _ _ h3;have d1:=cell_of_row W bw 1 _ _ _ h3;simp only[gA,gB,gC]at d0 d1;have e0:=(hI.1.cell (a:=⟨w.heap.size,0,none⟩) (by simp;omega) (by simp;omega)).trans b0;have e1:=(hI.1.cell (a:=⟨p,1,none⟩) (World.block_lt_of_cell? w1 _ b1) (by simpa using auB)).trans b1;(have hfit:512*xa+512≤n:=by have:=hn'.out;omega);obtain⟨w7,hcp,auD,hk7,ay9⟩:=PX (P:=Tryz.prog) (w:=W.drew) hI.2 35 35 3 Tryz.underlying35 rQ (512*xa) 512 512 ⟨gu,0,none⟩ 512 cu (xb.map jP) (by rw[List.length_map];exact hx.2) (fun j u hj=>by rw[Addr.add_lit,Nat.zero_add];exact hsrc W.drew ((hK1.trans ⟨hI.1.os,hI.1.tape,hI.1.output,hI.1.size,fun k hk hn=>hI.1.block k (by omega) hn⟩)) j u (by rw[←hxb]at hj;exact hj)) sU hfit rfl;(have MQ:∀m W,CallsIn (Fence.wide.inRound l) m Tryz.prog 74 #[.slice (some ⟨g,0,none⟩) n c,.int .i64 xa] W fun e w'=>e= .returned (.slice (some ⟨g,512*xa,none⟩) 512 512)∧w'=W:=fun m W=>CallsIn.inRound l (callsIn_wide.2 (IW (by omega) (by have:=ahZ.out;rw[bE hnl.out.symm]at this;exact(MP 3 this rfl).1) (by have:=ahZ.out;rw[bE hnl.out.symm]at this;exact(MP 3 this rfl).2) (by have:=hn'.out;have:=hD.few;omega) W)));rw[hv];(have hpost:ownPostG w1.heap.size (rF w1.heap.size [g]) (FlI w1 g n c D.fast D.back) (fun _ _ _=>False) (pre++[x]) W .normal=fun(a:Act) W'=>KeepsFrom w1.heap.size W W'∧rF w1.heap.size [g] W W'∧FlI w1 g n c D.fast D.back (pre++[x]) W':=rfl);clear hpost;have hI':=Lh hI;have hsrc':=Lh hsrc;clear hI hsrc hst hown1 h1 h3;have e0':W.drew.cell? ⟨w.heap.size,0,none⟩=some (.pointer (some ⟨p,0,none⟩)):=e0;have e1':W.drew.cell? ⟨p,1,none⟩=some (.slice (some ⟨g,0,none⟩) n c):=e1;have d0':W.drew.cell? ⟨bw,0,none⟩=some (.int .i64 (xa:Int)):=d0;have d1':W.drew.cell? ⟨bw,1,none⟩=some (.slice (some ⟨gu,0,none⟩) 512 cu):=d1;(have azB:=fun W=>callsIn_wide.1 (CallsIn.outOfRound (MQ 0 W)));clear MQ e0 e1 d0 d1;refine wpIn_block ?_;have hS0:(W.drew.cell? ⟨w.heap.size,0,none⟩=some (.pointer (some ⟨p,0,none⟩))∧W.drew.cell? ⟨p,1,none⟩=some (.slice (some ⟨g,0,none⟩) n c)∧W.drew.cell? ⟨bw,0,none⟩=some (.int .i64 (xa:Int))∧W.drew.cell? ⟨bw,1,none⟩=some (.slice (some ⟨gu,0,none⟩) 512 cu)):=⟨e0',e1',d0',d1'⟩;(have rR:(w7.cell? ⟨w.heap.size,0,none⟩=some (.pointer (some ⟨p,0,none⟩))∧w7.cell? ⟨p,1,none⟩=some (.slice (some ⟨g,0,none⟩) n c)∧w7.cell? ⟨bw,0,none⟩=some (.int .i64 (xa:Int))∧w7.cell? ⟨bw,1,none⟩=some (.slice (some ⟨gu,0,none⟩) 512 cu)):=by(have hc:∀a:Addr,a.block≠g→∀u,W.drew.cell? a=some u→w7.cell? a=some u:=fun a ha u hu=>(World.cell?_of_block (hk7.block _ (World.block_lt_of_cell? _ _ hu) (by simpa using ha))).trans hu);exact⟨hc _ (by simp;omega) _ e0',hc _ (by simpa using auB) _ e1',hc _ (by simp;omega) _ d0',hc _ (by simp;omega) _ d1'⟩);clear e0' e1' d0' d1';refine LF (S:=fun w'=>w'.cell? ⟨w.heap.size,0,none⟩=some (.pointer (some ⟨p,0,none⟩))∧w'.cell? ⟨p,1,none⟩=some (.slice (some ⟨g,0,none⟩) n c)∧w'.cell? ⟨bw,0,none⟩=some (.int .i64 (xa:Int))∧w'.cell? ⟨bw,1,none⟩=some (.slice (some ⟨gu,0,none⟩) 512 cu)) 12 (by kernel_rfl) (by kernel_rfl) (fun⟨_,_,h⟩=>h) ?_;simp only[List.size_toArray,List.length_cons,List.length_nil,Nat.reduceAdd];refine aA (i:=0) (v:=?_) hS0 rfl ?_ ?_;rotate_left
   ·rintro w ⟨e1,e2,e3,e4⟩;go_simp;try with_reducible rfl
   simp only[Act.put,gD];refine aA (i:=1) (v:=?_) hS0 rfl ?_ ?_;rotate_left
   ·rintro w ⟨e1,e2,e3,e4⟩;go_simp;try with_reducible rfl
   simp only[Act.put,gD];refine aA (i:=2) (v:=?_) hS0 rfl ?_ ?_;rotate_left
   ·rintro w ⟨e1,e2,e3,e4⟩;go_simp;try with_reducible rfl
   simp only[Act.put,gD];refine aA (i:=3) (v:=?_) hS0 rfl ?_ ?_;rotate_left
   ·rintro w ⟨e1,e2,e3,e4⟩;go_simp;try with_reducible rfl
   simp only[Act.put,gD];refine aA (i:=4) (v:=?_) hS0 rfl ?_ ?_;rotate_left
   ·rintro w ⟨e1,e2,e3,e4⟩;go_simp;try with_reducible rfl
   simp only[Act.put,gD];refine aA (i:=5) (v:=?_) hS0 rfl ?_ ?_;rotate_left
   ·rintro w ⟨e1,e2,e3,e4⟩;go_simp;try with_reducible rfl
   simp only[Act.put,gD];refine aA (i:=6) (v:=?_) hS0 rfl ?_ ?_;rotate_left
   ·rintro w ⟨e1,e2,e3,e4⟩;go_simp;try with_reducible rfl
   simp only[Act.put,gD];refine aA (i:=8) (v:=?_) hS0 rfl ?_ ?_;rotate_left
   ·rintro w ⟨e1,e2,e3,e4⟩;go_simp;try with_reducible rfl
   simp only[Act.put,gD];refine aA (i:=9) (v:=?_) hS0 rfl ?_ ?_;rotate_left
   ·rintro w ⟨e1,e2,e3,e4⟩;go_simp;try with_reducible rfl
   simp only[Act.put,gD];refine aA (i:=10) (v:=?_) hS0 rfl ?_ ?_;rotate_left
   ·rintro w ⟨e1,e2,e3,e4⟩;go_simp;try with_reducible rfl
   simp only[Act.put,gD];refine aC (i:=7) (by kernel_rfl) rfl (fun K hK=>?_);go_simp;go_at_call 74;refine(azB _).mono ?_;rintro e w9 ⟨rfl,h9⟩;obtain rfl:=h9.symm;refine hK _ _ (fun _=>hS0) ?_;clear hK K;(try simp only[Act.put,gD]);refine aC (i:=11) (by kernel_rfl) rfl (fun K hK=>?_);go_simp;refine hK _ _ (fun _=>rR) ?_;clear hK K;(try simp only[Act.put,gD]);refine aO (by kernel_rfl) ?_ _;refine⟨?_,?_,?_⟩
   ·exact(KeepsOthers.trans (KeepsOthers.drew W) ay9).from _
   ·exact⟨hk7.os,hk7.tape,hk7.output,hk7.size,fun k hk hn=>hk7.block k (Nat.lt_of_lt_of_le hk hI'.out.1.size) hn⟩
   refine⟨hI'.out.1.trans ⟨hk7.os,hk7.tape,hk7.output,hk7.size,fun k hk hn=>hk7.block k (Nat.lt_of_lt_of_le hk hI'.out.1.size) hn⟩,?_⟩;(have azC:jE D.fast ((pre++[x]).map fun i=>D.back[i])=(jE D.fast (pre.map fun i=>D.back[i])).set xa xb:=by rw[List.map_append,List.map_cons,List.map_nil];unfold jE;rw[List.foldl_append,←hxa,←hxb];rfl);have hok:=wW (nb:=nb) hD.fast (l:=pre.map fun i=>D.back[i]) (fun y hy=>by obtain⟨i,_,rfl⟩:=List.mem_map.1 hy;exact hD.back _ (List.getElem_mem i.2));rw[azC,←vP hok.size hx.2 (by rw[hok.len];exact hx.1),vG];exact auD
  case done=>
   intro D' xs W hD' hxs hI hdef;have hxl:jE D.fast (xs.map fun i=>D.back[i])=jE D.fast D.back:=by
    congr 1;apply List.ext_getElem?;intro k;have hk:=congrArg (fun l:List Nat=>l[k]?) hxs;simp only[List.getElem?_map]at hk;rw[List.getElem?_map];by_cases hkl:k<D.back.length
    ·rw[List.getElem?_range hkl]at hk;obtain⟨i,hi,e⟩:=Option.map_eq_some_iff.1 hk;rw[hi,gE hkl];subst e;rfl
    have hk2:(List.range D.back.length)[k]? =none:=List.getElem?_eq_none (by rw[List.length_range];omega);rw[hk2]at hk;rw[Option.map_eq_none_iff.1 hk,List.getElem?_eq_none (by omega)];rfl
   have hok:=wW (nb:=nb) hD.fast (l:=D.back) hD.back;(have auE:(jE D.fast D.back).flatten.length=n:=by rw[jH hok.size,hok.len,hn'.out]);have h3:=ahZ.out;rw[bE hnl.out.symm]at h3;have hK:j3 w1 W [g]:=⟨hI.1.os,hI.1.tape,hI.1.output,hI.1.size,hI.1.block⟩;have hSW:=h3.step (A':=.star (aH (.slice (some ⟨g,0,none⟩) n c) (jE D.fast D.back).flatten) (.obj D' (.deferred (some [])))) 3 rfl (w':=W) fun F ⟨ho,hF⟩ hFb=>by
    refine⟨F++[D'],⟨?_,F,[D'],rfl,⟨?_,hF⟩,hdef,rfl⟩,fun b hb=>?_,by rw[hF];exact hK⟩
    ·rw[hF];simp[Value.ownBlock];omega
    ·rw[auE,←hxl];exact hI.2
    rcases List.mem_append.1 hb with hb|hb
    ·exact .inl hb
    rw[List.mem_singleton]at hb;subst hb;exact .inr hD'
   (have iW:Sep w0 W (fG p vn (.slice (some ⟨g,0,none⟩) n c) (.slice Ab D.back.length cb) D.off D.left::aH (.slice (some ⟨g,0,none⟩) n c) (jE D.fast D.back).flatten:: .obj D' (.deferred (some []))::aH vn D.now.flatten::(List.zipWith (fun u (x:Nat×List UInt8)=>aH u x.2) us D.back++R)):=by have hz:Sep w0 W (aU.star (aH (.slice (some ⟨g,0,none⟩) n c) (jE D.fast D.back).flatten) (.obj D' (.deferred (some [])))::fG p vn (.slice (some ⟨g,0,none⟩) n c) (.slice Ab D.back.length cb) D.off D.left::aH vn D.now.flatten::(List.zipWith (fun u (x:Nat×List UInt8)=>aH u x.2) us D.back++R)):=Sep.drop 1 (Sep.bZ [0,3,1,2] hSW (by decide) (by simp));exact Sep.bZ [2,0,1,3] hz.gX (by decide) (by simp));have hS5:Sep w0 (W.setCell ⟨p,2,none⟩ (.slice none 0 0)) (fG p vn (.slice (some ⟨g,0,none⟩) n c) (.slice none 0 0) D.off D.left::aH (.slice (some ⟨g,0,none⟩) n c) (jE D.fast D.back).flatten:: .obj D' (.deferred (some []))::aH vn D.now.flatten::(List.zipWith (fun u (x:Nat×List UInt8)=>aH u x.2) us D.back++R)):=iW.bS 0 rfl 2 (.slice none 0 0);have hstep:=afE hS5 hD.left;have KH:=iW.qU 0 rfl;have g2:=KH.c2;have gf:=KH.fz 2;have g0:=(hI.1.cell (a:=⟨w.heap.size,0,none⟩) (by simp;omega) (by simp;omega)).trans b0;(have g0':(W.setCell ⟨p,2,none⟩ (.slice none 0 0)).cell? ⟨w.heap.size,0,none⟩=some (.pointer (some ⟨p,0,none⟩)):=by have hpl:=World.block_lt_of_cell? w _ c1;rw[World.cell?_setCell_other _ _ _ _ (by intro e;have h9:=congrArg Addr.block e;simp only at h9 hpl;omega)];exact g0);clear KH hst hown1 b0 b1 b2 b9;go_wp2_with(go_at_call 75;refine hstep.mono ?_;rintro e w8 ⟨rfl,BZ⟩);refine⟨by simp,.inl ⟨_,_,rfl,run_takeDeferred (BZ.auA 2 rfl),?_⟩⟩;have DF:=BZ.putObj 2 (.deferred none) rfl;refine⟨.int .i64 0,?_,rfl,?_⟩
   ·simp[results,Tryz.f27,go_sem]
   (try simp only[Bool.false_eq_true,if_false]);refine Sep.sD (D:=D.fl) (vn:=vn) (vf:=.slice (some ⟨g,0,none⟩) n c) (vb:=.slice none 0 0) ?_;unfold DK.fl;rw[DK.zR,DK.MS,DK.wX,DK.R9,DK.MU];(have azD:Sep w0 (w8.putObj D' (.deferred none)) (fG p vn (.slice (some ⟨g,0,none⟩) n c) (.slice none 0 0) (if 0<D.left then decide (D.left=1)else D.off) (if 0<D.left then D.left-1 else D.left)::aH (.slice (some ⟨g,0,none⟩) n c) (jE D.fast D.back).flatten::aH vn D.now.flatten::R):=by have h1:=DF;have h2:Sep w0 (w8.putObj D' (.deferred none)) ((List.zipWith (fun u (x:Nat×List UInt8)=>aH u x.2) us D.back)++(fG p vn (.slice (some ⟨g,0,none⟩) n c) (.slice none 0 0) (if 0<D.left then decide (D.left=1)else D.off) (if 0<D.left then D.left-1 else D.left)::aH (.slice (some ⟨g,0,none⟩) n c) (jE D.fast D.back).flatten:: .obj D' (.deferred none)::aH vn D.now.flatten::R)):=h1.perm (al9 _ _ _ _ _ _).symm;exact Sep.drop 1 (Sep.bZ [2,0,1,3] h2.snd (by decide) (by simp)));have hnil:=Sep.CK (l:=[]) (us:=[]) rfl (by simpa[dG]using azD.fO 137 3);exact Sep.bZ [1,3,2,0] hnil (by decide) (by simp)
  intro D' c' pre W hD' _ h;exact h.elim
end Go.Proofs.YteihmbaimbogaaaGreat
