/- FyE, FyF, FvV, FvW, FyG, FyD, FyH, FxF, FxG, FvX, FxH, FxJ, FyI, FzG, FzH, ArgF, FxM, FxN, FzJ, FzR, laid together. -/
import Derived.Test.YteihmbaimbogaaaGreatJ47
import Derived.Lib.SlBytesConst
namespace Go.Proofs.YteihmbaimbogaaaGreat
open Go.RowKit
set_option linter.unusedVariables false
set_option linter.unusedSimpArgs false
end Go.Proofs.YteihmbaimbogaaaGreat
namespace Go.Proofs.YteihmbaimbogaaaGreat
open Go.RowKit Go.Shelf
set_option linter.unusedVariables false
set_option linter.unusedSimpArgs false
attribute [local go_sem] Oper.semAt_some
end Go.Proofs.YteihmbaimbogaaaGreat
namespace Go.Proofs.YteihmbaimbogaaaGreat
open Go.RowKit
set_option linter.unusedVariables false
set_option linter.unusedSimpArgs false
section
variable {w0 w:World} {R:List aU}
set_option maxRecDepth 100000 in
theorem acR (b i:Int) (w:World):Calls Tryz.prog 18 #[.agg #[.int .i64 b,.int .i64 i]] w fun e w'=>e= .returned (fP b i)∧Below w.heap.size w w':=by
 have hfo:∀z:Int,floatOfInt FloatKind.f64 z=fI z:=fun _=>rfl
 have hb:=(Below.refl w.heap.size w).alloc (Nat.le_refl _) (.cells #[.int .i64 b,.int .i64 i] 28);go_enter Tryz.func18,Tryz.ntmps18;go_wp2;go_ret;exact⟨by unfold fP;rw[←hfo,←hfo];rfl,hb⟩
theorem PT {fn:Func} {p:Tmp} (h:fn.results=#[.cell p 28]) {tmps:Array Value} {w:World} {b:Nat} {v0 v1:Value} (hp:tmps.getD p undef= .pointer (some ⟨b,0,none⟩)) (h0:w.cell? ⟨b,0,none⟩=some v0) (h1:w.cell? ⟨b,1,none⟩=some v1):
  (results fn tmps).run Tryz.prog w= .ok (.agg #[v0,v1]) w:=by
 have hp2:tmps[p]?.getD undef= .pointer (some ⟨b,0,none⟩):=by simpa using hp
 have hl:(loadVar 28 ⟨b,0,none⟩).run Tryz.prog w= .ok (.agg #[v0,v1]) w:=by simp[loadVar,go_sem,h0,h1]
 simp only[results,h];simp[Result.andThen,hp2,asAddr,hl]
set_option maxRecDepth 100000 in
theorem acS {a b c d:Int} (h1: -1000000≤a∧a≤1000000) (h2: -1000000≤b∧b≤1000000) (h3: -1000000≤c∧c≤1000000) (h4: -1000000≤d∧d≤1000000) (w:World):
  Calls Tryz.prog 19 #[.agg #[.int .i64 a,.int .i64 b],.agg #[.int .i64 c,.int .i64 d]] w fun e w'=>e= .returned (.agg #[.int .i64 (a-c),.int .i64 (b-d)])∧Below w.heap.size w w':=by
 obtain⟨a1,a2⟩:=h1;obtain⟨b1,b2⟩:=h2;obtain⟨c1,c2⟩:=h3;obtain⟨d1,d2⟩:=h4;have hS:=(((Sep.nil w).bN 28 #[.int .i64 a,.int .i64 b]).bN 28 #[.int .i64 c,.int .i64 d]).bN 28 #[.int .i64 (a-c),.int .i64 (b-d)];simp only[World.size_alloc]at hS;go_enter Tryz.func19,Tryz.ntmps19;go_wp2;refine bodyPost_ret (PT rfl rfl (hS.bC 0 rfl 0) (hS.bC 0 rfl 1)) rfl ?_;exact⟨rfl,hS.below⟩
end
end Go.Proofs.YteihmbaimbogaaaGreat
namespace Go.Proofs.YteihmbaimbogaaaGreat
set_option linter.unusedVariables false
set_option linter.unusedSimpArgs false
open Go.RowKit
section
variable {w0 w:World} {R:List aU}
theorem Sep.acT (h:Sep w0 w R) (bs:List UInt8) (hl:bs.length≤maxLen):Sep w0 (w.alloc (.cells (bs.map jP).toArray 5)) (aH (.slice (some ⟨w.heap.size,0,none⟩) bs.length bs.length) bs::R):=by have hown:=World.ownsRow_lit (base:=0) (e:=5) (size:=1) w (bs.map jP).toArray bs.length (Nat.zero_le _) hl (by simp);exact h.new (F:=[w.heap.size]) ((Below.refl _ _).alloc (Nat.le_refl _) _) ⟨hown,rfl⟩ (by simp)
end
theorem acU {a b:Int} (ha:cO a) (hb:cO b) (W:World):(binOp .eql 44 (fP a b) (fP a b)).run Tryz.prog W= .ok (.bool true) W:=by have e1:FloatKind.f64.format.order (fI a) (fI a)=some (compare a a):=HZ ha ha;have e2:FloatKind.f64.format.order (fI b) (fI b)=some (compare b b):=HZ hb hb;have e3:compare a a= .eq:=Int.compare_eq_eq.2 rfl;have e4:compare b b= .eq:=Int.compare_eq_eq.2 rfl;rw[e3]at e1;rw[e4]at e2;unfold fP;simp[binOp,go_sem,Op.complexOp,Op.Complex.cmp,Op.floatCmp,asBool,e1,e2]
theorem UX {a b:Int} (x y:Operand) (W:World):(eqGuard .eql 44 x y (fP a b) (fP a b)).run Tryz.prog W= .ok () W:=by
 unfold fP
 kernel_rfl
theorem ahS (a b c d:Int) (w:World):Calls Tryz.prog 55 #[.agg #[.int .i64 a,.int .i64 b],.agg #[.int .i64 c,.int .i64 d]] w fun e w'=>e= .returned (.bool (decide (a≤c∧b≤d)))∧Below w.heap.size w w':=by
 have hb:=((Below.refl w.heap.size w).alloc (Nat.le_refl _) (.cells #[.int .i64 a,.int .i64 b] 28)).alloc (by rw[World.size_alloc];omega) (.cells #[.int .i64 c,.int .i64 d] 28);have hS:=((Sep.nil w).bN 28 #[.int .i64 a,.int .i64 b]).bN 28 #[.int .i64 c,.int .i64 d];simp only[World.size_alloc]at hS;have z0:=hS.bC 1 rfl 0;have z1:=hS.bC 1 rfl 1;have z2:=hS.bC 0 rfl 0;have z3:=hS.bC 0 rfl 1;simp only[gA,gB,gC]at z0 z1 z2 z3;clear hS;obtain⟨r,hr⟩:∃r,r=decide (a≤c∧b≤d):=⟨_,rfl⟩;rw[←hr];by_cases h1:a≤c
 ·(have hr2:r=decide (b≤d):=by rw[hr];simp[h1]);clear hr;go_enter Tryz.func55,Tryz.ntmps55;go_wp2_with fail;all_goals first |omega|(go_ret;subst hr2;exact⟨rfl,hb⟩)
 have hr2:r=false:=by rw[hr];simp[h1]
 clear hr;go_enter Tryz.func55,Tryz.ntmps55;go_wp2_with fail;all_goals first |omega|(go_ret;subst hr2;exact⟨rfl,hb⟩)
def uO (nv fv:Value) (T:TR):aU:=.keep fun W=>∃vs,dS W nv fv T.1 T.2 vs
def PU (nv fv:Value) (B I:Int):Array Value:=#[nv,fv,.int .i64 B,.int .i64 I]
def PV (b:Nat) (nv fv:Value) (B I:Int) (op:Int) (p tz:List UInt8) (mode ref:Int) (x y:Value):List aU:=[.box (b+1+1) 32 #[x,y],.box (b+1) 38 (K6 op p tz mode ref),.box b 34 (PU nv fv B I)]
section
variable {w:World} {nv fv:Value} {T:TR} {vs:List Value} {op:Int} {p tz:List UInt8} {mode ref:Int} {sv:Value} {cs:List Value} {B I:Int}
theorem ahT (w:World) (nv fv:Value) (B I:Int) (op:Int) (p tz:List UInt8) (mode ref:Int):Sep w (((w.alloc (.cells (PU nv fv B I) 34)).alloc (.cells (K6 op p tz mode ref) 38)).alloc (.cells #[.slice none 0 0,.slice none 0 0] 32)) (PV w.heap.size nv fv B I op p tz mode ref (.slice none 0 0) (.slice none 0 0)):=by have h:=(((Sep.nil w).bN 34 (PU nv fv B I)).bN 38 (K6 op p tz mode ref)).bN 32 #[.slice none 0 0,.slice none 0 0];simp only[World.size_alloc]at h;exact h
structure ak7 (b:Nat) (W:World) (nv fv:Value) (B I:Int) (op:Int) (p tz:List UInt8) (mode ref:Int) (x y:Value):Prop where
 t0:W.cell? ⟨b,0,none⟩=some nv
 t1:W.cell? ⟨b,1,none⟩=some fv
 t2:W.cell? ⟨b,2,none⟩=some (.int .i64 B)
 t3:W.cell? ⟨b,3,none⟩=some (.int .i64 I)
 i0:W.cell? ⟨b+1,0,none⟩=some (.int .i64 op)
 i1:W.cell? ⟨b+1,1,none⟩=some (.string ⟨p.toArray⟩)
 i2:W.cell? ⟨b+1,2,none⟩=some (.string ⟨tz.toArray⟩)
 i3:W.cell? ⟨b+1,3,none⟩=some (.int .i64 mode)
 i4:W.cell? ⟨b+1,4,none⟩=some (.int .i64 ref)
 r0:W.cell? ⟨b+1+1,0,none⟩=some x
 r1:W.cell? ⟨b+1+1,1,none⟩=some y
 f0:W.frozen? ⟨b+1+1,0,none⟩=false
 f1:W.frozen? ⟨b+1+1,1,none⟩=false
theorem nT {w W:World} {b:Nat} {x y:Value} (P:List aU) (h:Sep w W (P++PV b nv fv B I op p tz mode ref x y)):ak7 b W nv fv B I op p tz mode ref x y:=by
 have g:∀k,(P++PV b nv fv B I op p tz mode ref x y)[P.length+k]? =(PV b nv fv B I op p tz mode ref x y)[k]? :=fun k=>by rw[List.getElem?_append_right (by omega),Nat.add_sub_cancel_left]
 have g0:=(g 0).trans rfl;have g1:=(g 1).trans rfl;have g2:=(g 2).trans rfl;exact⟨h.bC _ g2 0,h.bC _ g2 1,h.bC _ g2 2,h.bC _ g2 3,h.bC _ g1 0,h.bC _ g1 1,h.bC _ g1 2,h.bC _ g1 3,h.bC _ g1 4,h.bC _ g0 0,h.bC _ g0 1,h.bF _ g0 0,h.bF _ g0 1⟩
theorem J9 {w W:World} {b:Nat} {x y:Value} (P:List aU) (u v:Value) (h:Sep w W (P++PV b nv fv B I op p tz mode ref x y)):Sep w ((W.setCell ⟨b+1+1,0,none⟩ u).setCell ⟨b+1+1,1,none⟩ v) (P++PV b nv fv B I op p tz mode ref u v):=by
 have g0:(P++PV b nv fv B I op p tz mode ref x y)[P.length]? =some (.box (b+1+1) 32 #[x,y]):=by rw[List.getElem?_append_right (Nat.le_refl _),Nat.sub_self];rfl
 have h1:=h.bS _ g0 0 u;rw[List.set_append_right _ _ (Nat.le_refl _),Nat.sub_self]at h1;have g1:(P++(PV b nv fv B I op p tz mode ref x y).set 0 (.box (b+1+1) 32 (#[x,y].setIfInBounds 0 u)))[P.length]? =some (.box (b+1+1) 32 (#[x,y].setIfInBounds 0 u)):=by rw[List.getElem?_append_right (Nat.le_refl _),Nat.sub_self];rfl
 have h2:=h1.bS _ g1 1 v;rw[List.set_append_right _ _ (Nat.le_refl _),Nat.sub_self]at h2;exact h2
end
theorem ahU {N:List TN} {F:List TF} (h:qF N F=0):fM (qE N) (oZ N F):=by
 unfold qF at h;cases hb:iZ N F with
 |true=>rw[hb]at h;cases h
 |false=>
  rw[hb,if_neg (by decide)]at h;(have hf:jJ (qE N) (oZ N F)=true:=by(refine Decidable.byContradiction fun hno=>?_);rw[if_neg hno]at h;cases h);unfold iZ at hb;rw[Bool.or_eq_false_iff,Bool.or_eq_false_iff,decide_eq_false_iff_not,decide_eq_false_iff_not,List.any_eq_false]at hb;obtain⟨⟨h1,h2⟩,h3⟩:=hb;(have l1:(qE N).length=N.length:=by unfold qE;rw[List.length_map,sJ]);(have l2:(oZ N F).length≤N.length:=by unfold oZ;rw[List.length_map];have:=BH (dF N);rw[sJ]at this;exact this);have l3:∀f∈oZ N F,f.size≤8192:=fun f hf=>by
   unfold oZ at hf;obtain⟨id,_,rfl⟩:=List.mem_map.1 hf;unfold iV;rw[gH];cases hk:F[id.toNat]? with
   |none=>exact Nat.zero_le _
   |some x=>have:=h3 x (gG hk);unfold PE at this;rw[decide_eq_true_eq]at this;(show x.size≤8192);omega
  (have hbd:iZ (qE N) (oZ N F)=false:=by unfold iZ;rw[Bool.or_eq_false_iff,Bool.or_eq_false_iff,decide_eq_false_iff_not,decide_eq_false_iff_not,List.any_eq_false];refine⟨⟨by omega,by omega⟩,fun f hf=>?_⟩;have:=l3 f hf;unfold PE;rw[decide_eq_true_eq];omega);have hl:=y9 (qE N) (oZ N F);unfold CV at hl;rw[hbd,if_neg (by decide),hf,if_pos rfl,if_neg (by decide)]at hl;by_cases hr:runK (qE N) (qE N).length=some (oZ N F).length∧(oZ N F).all (fun f=>eG f.mode)=true
  ·exact⟨by omega,by omega,l3,List.all_eq_true.1 hr.2,hr.1⟩
  rw[if_neg hr]at hl;cases hl
theorem acV {op:Int} {p tz:List UInt8} {mode ref:Int} {cs:List Value} {b:List UInt8} {T:TR} (h9:op≠9) (h:xR op p tz mode ref cs b T=0):fM (wH op p tz mode b T).1 (wH op p tz mode b T).2:=by
 unfold wH;rw[if_neg h9];unfold xR at h;by_cases hr:op<1∨9<op
 ·rw[if_pos hr]at h;cases h
 rw[if_neg hr,if_neg h9]at h;unfold doE at h;by_cases h1:lL op p tz mode ref cs=0
 ·rw[if_pos h1]at h;by_cases h2:zB op p tz T.1=0
  ·rw[if_pos h2]at h;by_cases h3:qF (E8 op p tz mode T) (LC op p tz mode b T)=0
   ·exact ahU h3
   rw[if_neg h3]at h;cases h
  rw[if_neg h2]at h;exact absurd h h2
 rw[if_neg h1]at h;exact absurd h h1
theorem fM.sm {ns:List TN} {fs:List TF} (ho:fM ns fs):nI ns fs:=⟨by have:=ho.few;omega,by have:=ho.O9;omega,fun n hn=>by have:=sG (ho.mem hn).1;omega,fun f hf=>by have:=ho.size f hf;omega⟩
section
variable {w:World} {nv fv:Value} {T:TR} {vs:List Value} {op:Int} {p tz:List UInt8} {mode ref:Int} {sv:Value} {cs:List Value} {b:List UInt8} {B I:Int}
def amS (w:World) (nv fv:Value) (T:TR) (op:Int) (p tz:List UInt8) (mode ref:Int) (cs:List Value) (b:List UInt8) (B I:Int) (e:Ending) (w':World):Prop:=
 (∃xQ fv',e= .returned (.tuple #[.agg #[xQ,fv'],.int .i64 0])∧op≠9∧uG B I op p tz mode ref cs b T=0∧Sep w w' [uO xQ fv' (wH op p tz mode b T)])∨
 (e= .returned (.tuple #[.agg #[nv,fv],.int .i64 (uG B I op p tz mode ref cs b T)])∧¬(op≠9∧uG B I op p tz mode ref cs b T=0)∧Below w.heap.size w w')
def ZE (E:Int) (nv fv:Value) (T:TR):aU:=.keep fun W=>E=0→∃vs,dS W nv fv T.1 T.2 vs
theorem ak8 {W:World} {X:aU} {As:List aU} {nv fv:Value} {T2:TR} (h:Sep w W (X::ZE 0 nv fv T2::As)):Sep w W [uO nv fv T2]:=by
 have h2:Sep w W ([ZE 0 nv fv T2]++As):=h.drop 1;have h3:=Sep.keep (P:=fun W=>∃vs,dS W nv fv T2.1 T2.2 vs) h2 fun _ W hW=>(Sep.kept (P:=fun W=>(0:Int)=0→∃vs',dS W nv fv T2.1 T2.2 vs') 0 hW rfl) rfl
 exact Sep.fst (X:=[_]) h3
theorem ak9 {W:World} {X:aU} {As:List aU} {nv fv:Value} {T2:TR} (h:Sep w W (X::ZE 0 nv fv T2::As)):∃vs,dS W nv fv T2.1 T2.2 vs:=
 (Sep.kept (P:=fun W=>(0:Int)=0→∃vs',dS W nv fv T2.1 T2.2 vs') 1 h rfl) rfl
def UY (nv fv sv:Value) (T:TR) (op:Int) (p tz:List UInt8) (mode ref:Int) (cs:List Value) (b:List UInt8) (W:World):Prop:=
 Calls Tryz.prog 54 #[.agg #[nv,fv],JV op p tz mode ref,sv] W fun e w'=>∃A3 n3 c3 A4 n4 c4,e= .returned (.tuple #[.agg #[.slice A3 n3 c3,.slice A4 n4 c4],.int .i64 (xR op p tz mode ref cs b T)])∧Sep W w' [.keep fun W=>xR op p tz mode ref cs b T=0→∃vs',dS W (.slice A3 n3 c3) (.slice A4 n4 c4) (wH op p tz mode b T).1 (wH op p tz mode b T).2 vs']
set_option maxRecDepth 100000 in
set_option maxHeartbeats 8000000 in
theorem XP (h:dS w nv fv T.1 T.2 vs) (ho:fM T.1 T.2) (hrd:∀W,Below w.heap.size w W→UY nv fv sv T op p tz mode ref cs b W):
  Calls Tryz.prog 15 #[.agg #[nv,fv,.int .i64 B,.int .i64 I],JV op p tz mode ref,sv] w (amS w nv fv T op p tz mode ref cs b B I):=by
 have hS0:=ahT w nv fv B I op p tz mode ref;unfold UY at hrd;have hdo:=Lh hrd;have hlo:=Lh fun(h9:op≠9) (h0:xR op p tz mode ref cs b T=0)=>acV h9 h0
 obtain⟨A1,sQ,rfl,hm1⟩:=h.nodes.shape;obtain⟨A2,rG,rfl,hm2⟩:=h.files.shape;generalize T.1.length=n1 at*;generalize T.2.length=n2 at*;obtain⟨P,hP⟩:∃P,P=amS w (.slice A1 n1 sQ) (.slice A2 n2 rG) T op p tz mode ref cs b B I:=⟨_,rfl⟩;rw[←hP];have hP':=Lh hP;obtain⟨E,hE⟩:∃E,E=xR op p tz mode ref cs b T:=⟨_,rfl⟩;obtain⟨T2,YB⟩:∃T2,T2=wH op p tz mode b T:=⟨_,rfl⟩;rw[←hE,←YB]at hdo hlo;have hWE:Hid (op≠9→uG B I op p tz mode ref cs b T=if E=0 then(if wdB T2.1 T2.2≤B∧wdI T2.1 T2.2≤I then 0 else 27)else E):=Lh fun h9=>by unfold uG;rw[if_neg h9,hE,YB]
 have QM:=Lh YB;have gZ:=Lh hS0;have z:=nT [] hS0;obtain⟨zt0,zt1,zt2,zt3,zi0,zi1,zi2,zi3,zi4,zr0,zr1,zf0,zf1⟩:=z;clear hS0 hE YB h hm1 hm2 hP ho;unfold JV K6 PU aM at*;by_cases h9:op=9
 ·subst h9;have hb0:=(((Sep.nil w).bN 34 #[.slice A1 n1 sQ,.slice A2 n2 rG,.int .i64 B,.int .i64 I]).bN 38 #[.int .i64 9,.string ⟨p.toArray⟩,.string ⟨tz.toArray⟩,.int .i64 mode,.int .i64 ref]).bN 32 #[.slice A1 n1 sQ,.slice A2 n2 rG];simp only[World.size_alloc]at hb0;have aoG:=Lh hb0;clear hb0;go_enter Tryz.func15,Tryz.ntmps15;go_wp2_with fail;have e0:=aoG.out.bC 0 rfl 0;have e1:=aoG.out.bC 0 rfl 1;refine bodyPost_ret (dV rfl rfl e0 e1) rfl ?_;rw[hP'.out];exact .inr ⟨by unfold uG;rfl,fun h=>h.1 rfl,aoG.out.below⟩
 have VK:(op==9)=false:=by simpa using h9
 have h9':=Lh h9;have hwt:Hid (∀(W:World) (nv fv:Value) vs',dS W nv fv T2.1 T2.2 vs'→E=0→Calls Tryz.prog 20 #[.agg #[nv,fv]] W fun e w'=>e= .returned (qX (wdB T2.1 T2.2) (wdI T2.1 T2.2))∧Below W.heap.size W w'):=Lh fun W nv fv vs' hT h0=>yC hT (hlo.out h9 h0).sm
 clear h9 hlo;go_enter Tryz.func15,Tryz.ntmps15;go_wp2_with(first |(go_at_call 54;refine(hdo.out _ gZ.out.below).mono ?_;rintro e w2 ⟨A3,n3,c3,A4,n4,c4,rfl,hs⟩;(have hS2:=gZ.out.join hs);obtain⟨at0,at1,at2,at3,ai0,ai1,ai2,ai3,ai4,ar0,ar1,af0,af1⟩:=nT [_] hS2;replace hS2:=Lh hS2;clear hs zt0 zt1 zt2 zt3 zi0 zi1 zi2 zi3 zi4 zr0 zr1 zf0 zf1 gZ));obtain⟨As,hAs⟩:∃As,As=(.box w2.heap.size 32 #[.slice A3 n3 c3,.slice A4 n4 c4]:aU)::([ZE E (.slice A3 n3 c3) (.slice A4 n4 c4) T2]++PV w.heap.size (.slice A1 n1 sQ) (.slice A2 n2 rG) B I op p tz mode ref (.slice none 0 0) (.slice none 0 0)):=⟨_,rfl⟩;have hd:Hid (Sep w (w2.alloc (.cells #[.slice A3 n3 c3,.slice A4 n4 c4] 32)).drew As):=Lh (by rw[hAs];exact(hS2.out.bN 32 #[.slice A3 n3 c3,.slice A4 n4 c4]).drew);have hC:Hid (∀W,Sep w W As→W.cell? ⟨w2.heap.size,0,none⟩=some (.slice A3 n3 c3)∧W.cell? ⟨w2.heap.size,1,none⟩=some (.slice A4 n4 c4)∧W.cell? ⟨w.heap.size,2,none⟩=some (.int .i64 B)∧W.cell? ⟨w.heap.size,3,none⟩=some (.int .i64 I)):=Lh fun W hW=>by rw[hAs]at hW;have z:=nT [_,_] hW;exact⟨hW.bC 0 rfl 0,hW.bC 0 rfl 1,z.t2,z.t3⟩
 have aoH:=Lh hAs;have hE1:=hC.out _ hd.out;clear hS2 hAs at0 at1 at2 at3 ai0 ai1 ai2 ai3 ai4 ar0 ar1 af0 af1;refine aN (S:=fun W=>W.cell? ⟨w2.heap.size,0,none⟩=some (.slice A3 n3 c3)∧W.cell? ⟨w2.heap.size,1,none⟩=some (.slice A4 n4 c4)∧W.cell? ⟨w.heap.size,2,none⟩=some (.int .i64 B)∧W.cell? ⟨w.heap.size,3,none⟩=some (.int .i64 I)) 10 (by kernel_rfl) ?_;simp only[List.size_toArray,List.length_cons,List.length_nil,Nat.reduceAdd];obtain⟨w3,hw3⟩:∃x,x=(w2.alloc (.cells #[.slice A3 n3 c3,.slice A4 n4 c4] 32)).drew:=⟨_,rfl⟩;rw[←hw3]at hd hE1 ⊢;clear hw3;by_cases hE0:E=0
 ·have hw0:=hWE.out h9'.out;rw[if_pos hE0]at hw0;replace hw0:=Lh hw0;clear hWE;subst hE0;refine aA (i:=0) (v:=?_) hE1 rfl ?_ ?_;rotate_left
  ·rintro w ⟨e1,e2,e3,e4⟩;go_simp;try with_reducible rfl
  simp only[Act.put,gD];refine aA (i:=1) (v:=?_) hE1 rfl ?_ ?_;rotate_left
  ·rintro w ⟨e1,e2,e3,e4⟩;go_simp;try with_reducible rfl
  simp only[Act.put,gD];refine aA (i:=2) (v:=?_) hE1 rfl ?_ ?_;rotate_left
  ·rintro w ⟨e1,e2,e3,e4⟩;go_simp;try with_reducible rfl
  simp only[Act.put,gD];refine aA (i:=5) (v:=?_) hE1 rfl ?_ ?_;rotate_left
  ·rintro w ⟨e1,e2,e3,e4⟩;go_simp;try with_reducible rfl
  simp only[Act.put,gD];refine aA (i:=6) (v:=?_) hE1 rfl ?_ ?_;rotate_left
  ·rintro w ⟨e1,e2,e3,e4⟩;go_simp;try with_reducible rfl
  simp only[Act.put,gD];refine aA (i:=3) (v:=?_) hE1 rfl ?_ ?_;rotate_left
  ·rintro w ⟨e1,e2,e3,e4⟩;go_simp;try with_reducible rfl
  simp only[Act.put,gD];refine aC (i:=4) (by kernel_rfl) rfl (fun K hK=>?_);go_simp;go_at_call 20;have hk3:Sep w w3 As:=hd.out;rw[aoH.out]at hk3;obtain⟨vs2,hT3⟩:=ak9 hk3;clear hk3;refine(hwt.out _ _ _ _ hT3 rfl).mono ?_;clear hT3;rintro e w4 ⟨rfl,hb4⟩;have h4:=Lh (hd.out.pure hb4);have BK:=hC.out _ h4.out;clear hb4 hd hE1;refine hK _ _ (fun _=>BK) ?_;clear hK K;(try simp only[Act.put,gD]);unfold qX;refine aC (i:=7) (by kernel_rfl) rfl (fun K hK=>?_);go_simp;go_at_call 55;obtain⟨fb,hfb⟩:∃fb,fb=decide (wdB T2.1 T2.2≤B∧wdI T2.1 T2.2≤I):=⟨_,rfl⟩;refine(ahS _ _ _ _ _).mono ?_;rw[←hfb];have atW:=Lh hfb;clear hfb;rintro e w5 ⟨rfl,hb5⟩;have h5:=Lh (h4.out.pure hb5);have uZ:=hC.out _ h5.out;clear hb5 h4 BK;refine hK _ _ (fun _=>uZ) ?_;clear hK K;(try simp only[Act.put,gD]);refine aC (i:=8) (by kernel_rfl) rfl (fun K hK=>?_);go_simp;refine hK _ _ (fun _=>uZ) ?_;clear hK K;(try simp only[Act.put,gD]);refine aC (i:=9) (by kernel_rfl) rfl (fun K hK=>?_);go_simp;refine hK _ _ (fun _=>uZ) ?_;clear hK K;(try simp only[Act.put,gD]);refine aO (by kernel_rfl) ?_ _;obtain⟨e0,e1,e2,e3⟩:=uZ;have h6:Sep w w5 As:=h5.out;rw[aoH.out]at h6;replace h6:=Lh h6;obtain⟨at0,at1,at2,at3,ai0,ai1,ai2,ai3,ai4,ar0,ar1,af0,af1⟩:=nT [_,_] h6.out;cases fb with
  |true=>
   have hcond:wdB T2.1 T2.2≤B∧wdI T2.1 T2.2≤I:=of_decide_eq_true atW.out.symm;go_wp2_with fail;have DF:=J9 [_,_] (.slice A3 n3 c3) (.slice A4 n4 c4) h6.out;have z:=nT [_,_] DF;refine bodyPost_ret (dV rfl rfl z.r0 z.r1) rfl ?_;rw[hP'.out];refine .inl ⟨.slice A3 n3 c3,.slice A4 n4 c4,rfl,h9'.out,?_,?_⟩
   ·rw[hw0.out,if_pos hcond]
   rw[←QM.out];exact ak8 DF
  |false=>have hcond:¬(wdB T2.1 T2.2≤B∧wdI T2.1 T2.2≤I):=of_decide_eq_false atW.out.symm;have h27:=hw0.out;rw[if_neg hcond]at h27;have h27':=Lh h27;clear h27;go_wp2_with fail;have DF:=J9 [_,_] (.slice A1 n1 sQ) (.slice A2 n2 rG) h6.out;have z:=nT [_,_] DF;refine bodyPost_ret (dV rfl rfl z.r0 z.r1) rfl ?_;rw[hP'.out];refine .inr ⟨by rw[h27'.out];rfl,fun h=>absurd h.2 (by rw[h27'.out];decide),DF.below⟩
 have hb0:(E==0)=false:=by simpa using hE0
 have hbn:(E !=0)=true:=by simpa using hE0
 have atX:=Lh hE0;clear hE0;refine aA (i:=0) (v:=?_) hE1 rfl ?_ ?_;rotate_left
 ·rintro w ⟨e1,e2,e3,e4⟩;go_simp;try with_reducible rfl
 simp only[Act.put,gD];refine aA (i:=1) (v:=?_) hE1 rfl ?_ ?_;rotate_left
 ·rintro w ⟨e1,e2,e3,e4⟩;go_simp;try with_reducible rfl
 simp only[Act.put,gD];refine aA (i:=2) (v:=?_) hE1 rfl ?_ ?_;rotate_left
 ·rintro w ⟨e1,e2,e3,e4⟩;go_simp;try with_reducible rfl
 simp only[Act.put,gD];refine C8 (i:=3) hE1 rfl ?_;simp only[Act.put,gD];refine C8 (i:=4) hE1 rfl ?_;simp only[Act.put,gD];refine C8 (i:=5) hE1 rfl ?_;simp only[Act.put,gD];refine C8 (i:=6) hE1 rfl ?_;simp only[Act.put,gD];refine C8 (i:=7) hE1 rfl ?_;simp only[Act.put,gD];refine C8 (i:=8) hE1 rfl ?_;simp only[Act.put,gD];refine aC (i:=9) (by kernel_rfl) rfl (fun K hK=>?_);go_simp;refine hK _ _ (fun _=>hE1) ?_;clear hK K;try simp only[Act.put,gD]
 refine aO (by kernel_rfl) ?_ _;obtain⟨e0,e1,e2,e3⟩:=hE1;have h6:Sep w w3 As:=hd.out;rw[aoH.out]at h6;replace h6:=Lh h6;obtain⟨at0,at1,at2,at3,ai0,ai1,ai2,ai3,ai4,ar0,ar1,af0,af1⟩:=nT [_,_] h6.out;have hEE:=hWE.out h9'.out;rw[if_neg atX.out]at hEE;have atZ:=Lh hEE;clear hEE;go_wp2_with fail;have DF:=J9 [_,_] (.slice A1 n1 sQ) (.slice A2 n2 rG) h6.out;have z:=nT [_,_] DF;refine bodyPost_ret (dV rfl rfl z.r0 z.r1) rfl ?_;rw[hP'.out];refine .inr ⟨by rw[atZ.out];rfl,fun h=>absurd h.2 (by rw[atZ.out];exact atX.out),DF.below⟩
end
end Go.Proofs.YteihmbaimbogaaaGreat
namespace Go.Proofs.YteihmbaimbogaaaGreat
open Go.ChangeShapes Go.WideShapes Go.ChangeAt Go.RowKit Go.Deep
set_option linter.unusedVariables false
end Go.Proofs.YteihmbaimbogaaaGreat
namespace Go.Proofs.YteihmbaimbogaaaGreat
open Go.RowKit
set_option linter.unusedVariables false
set_option linter.unusedSimpArgs false
section
variable {w0 w:World} {R:List aU}
theorem KA {T:TR} {ns:List TN} {fs:List FT} {nv fv sv:Value} {cs:List Value} {nb names:Nat} {op:Int} {p tz:List UInt8} {mode ref:Int} {bs:List UInt8} (hS:qH T ns fs) (hlen:op=6→0≤ref→ref<cs.length→BD (cs.getD ref.toNat (.slice none 0 0))=bs.length)
  (hact:1≤op∧op≤8→aP p=true→(op=3∨op=4∨op=7→aP tz=true)→(op=1∨op=6∨op=7∨op=8→0≤mode∧mode≤511)→(op=6→bs.length≤8192∧BD (cs.getD ref.toNat (.slice none 0 0))=bs.length)→oN (zB op p tz T.1) (E8 op p tz mode T) (LC op p tz mode bs T) (CU ns fs op p tz mode.toNat bs))
  (hrd:∀vs,dS w nv fv T.1 T.2 vs→∀W,Below w.heap.size w W→UY nv fv sv T op p tz mode ref cs bs W) (h:Sep w0 w (uO nv fv T::R)):
  Calls Tryz.prog 15 #[.agg #[nv,fv,.int .i64 (lC nb names:Nat),.int .i64 (names:Nat)],.agg #[.int .i64 op,aM p,aM tz,.int .i64 mode,.int .i64 ref],sv] w fun e w'=>
   ∃xQ fv' T',e= .returned (.tuple #[.agg #[xQ,fv'],.int .i64 (xY nb names ns fs op p tz mode ref cs.length bs).e])∧qH T' (xY nb names ns fs op p tz mode ref cs.length bs).ns (xY nb names ns fs op p tz mode ref cs.length bs).fs∧Sep w0 w' (uO xQ fv' T'::R):=by
 obtain⟨h1,h2⟩:=LD hS nb names (op:=op) (p:=p) (q:=tz) (mode:=mode) (ref:=ref) (cs:=cs) (bs:=bs) hlen hact
 obtain⟨vs,hT⟩:=Sep.kept (P:=fun W=>∃vs,dS W nv fv T.1 T.2 vs) 0 h rfl
 refine(XP (B:=(lC nb names:Nat)) (I:=(names:Nat)) hT hS.loose (hrd vs hT)).mono ?_
 rintro e w' (⟨xQ,fv',rfl,h9,h0,hs⟩|⟨rfl,hno,hb2⟩)
 ·refine⟨xQ,fv',wH op p tz mode bs T,by rw[←h1,h0],?_,?_⟩
  ·unfold worldT at h2;rw[if_pos ⟨h9,h0⟩]at h2;exact h2
  have:=(h.join hs).perm (List.Perm.swap _ _ _);exact this.drop 1
 ·refine⟨nv,fv,T,by rw[h1],?_,h.pure hb2⟩;unfold worldT at h2;rw[if_neg hno]at h2;exact h2
theorem ZF (w:World) (sz:Nat):Rd w sz (.slice none 0 0) 0 []:=⟨by simp,none,0,rfl,Nat.le_refl _,Nat.zero_le _,fun h=>absurd h (by decide)⟩
theorem ahV :qH ([],[]) [] []:=⟨⟨⟨List.Pairwise.nil,fun n hn=>(by cases hn),fun n hn=>(by cases hn),fun n hn=>(by cases hn)⟩,by decide,fun n hn=>(by cases hn)⟩,rfl⟩
theorem ahW (h:Sep w0 w R):Sep w0 w (uO (.slice none 0 0) (.slice none 0 0) ([],[])::R):=
 Sep.keep (X:=[]) (Y:=R) h fun _ W _=>⟨[],rfl,ZF _ 3,ZF _ 2,fun k u f hu _=>absurd hu (by simp)⟩
def qI (sv u:Value) (bs:List UInt8):List aU:=[.sl 35 1 sv 1 [u],aH u bs]
theorem acX {B:Option Addr} {cc:Nat} {a:Addr} {c:Nat} {bs:List UInt8} (X:List aU):AA w0 (qI (.slice (some a) 1 c) (.slice B bs.length cc) bs++X) (some a) 1 0 bs:=by
 intro k hk hk1;obtain rfl:k=0:=by omega
 refine⟨a,B,cc,rfl,fun W Y hW=>?_,iB.part 1 rfl⟩;have h:=hW.rd Y.length (by rw[List.getElem?_append_right (Nat.le_refl _),Nat.sub_self];rfl);obtain⟨ad,c2,u,e,h1,h2⟩:=h.at_ (k:=0) (by decide);simp only[Value.slice.injEq,Option.some.injEq]at e;obtain⟨rfl,_,_⟩:=e;rw[h2];exact h1.symm
theorem KC {sv u:Value} {bs:List UInt8} {X:List aU} (h:Sep w0 w (qI sv u bs++X)):lK w u bs.length bs:=⟨bs.map jP,h.rd 1 rfl,fun y hy=>by obtain⟨b,_,rfl⟩:=List.mem_map.1 hy;rfl,rfl⟩
theorem UZ {sv u:Value} {bs:List UInt8} {X:List aU} (hl:bs.length≤9223372036854775807) (h:Sep w0 w (qI sv u bs++X)):mO w sv [u]:=by
 refine⟨h.rd 0 rfl,fun x hx=>?_⟩;have e:x=u:=by simpa using hx
 subst e;exact⟨bs.length,bs,KC h,hl⟩
end
section
variable {w0 w:World} {R:List aU}
theorem XQ {nv fv:Value} {T:TR} {vs:List Value} (h:dS w nv fv T.1 T.2 vs) (ho:fM T.1 T.2) {p tz:List UInt8} (hp9:p.length≤9223372036854775807) (ht9:tz.length≤9223372036854775807) (mode ref:Int) {sv:Value} {cs:List Value} (hsv:mO w sv cs) {b:List UInt8} (hbb:0≤ref→ref<(cs.length:Int)→lK w (cs.getD ref.toNat (.slice none 0 0)) b.length b∧b.length≤9223372036854775807):UY nv fv sv T 6 p tz mode ref cs b w:=by
 have e1:xR 6 p tz mode ref cs b T=doE (lL 6 p tz mode ref cs) (zB 6 p tz T.1) (E8 6 p tz mode T) (LC 6 p tz mode b T):=by unfold xR;rw[if_neg (by omega),if_neg (by decide)]
 have e2:wH 6 p tz mode b T=(qE (E8 6 p tz mode T),oZ (E8 6 p tz mode T) (LC 6 p tz mode b T)):=by unfold wH;rw[if_neg (by decide)]
 unfold UY;rw[e1,e2];exact ak5 h ho hp9 ht9 mode ref hsv hbb
theorem PW {T:TR} {ns:List TN} {fs:List FT} {nv fv sv:Value} {cs:List Value} {nb names:Nat} {p tz:List UInt8} {mode ref:Int} {bs:List UInt8} (hS:qH T ns fs) (hp9:p.length≤9223372036854775807) (ht9:tz.length≤9223372036854775807) (hsv:mO w sv cs)
  (hb:0≤ref→ref<(cs.length:Int)→lK w (cs.getD ref.toNat (.slice none 0 0)) bs.length bs∧bs.length≤9223372036854775807) (h:Sep w0 w (uO nv fv T::R)):
  Calls Tryz.prog 15 #[.agg #[nv,fv,.int .i64 (lC nb names:Nat),.int .i64 (names:Nat)],.agg #[.int .i64 6,aM p,aM tz,.int .i64 mode,.int .i64 ref],sv] w fun e w'=>
   ∃xQ fv' T',e= .returned (.tuple #[.agg #[xQ,fv'],.int .i64 (xY nb names ns fs 6 p tz mode ref cs.length bs).e])∧qH T' (xY nb names ns fs 6 p tz mode ref cs.length bs).ns (xY nb names ns fs 6 p tz mode ref cs.length bs).fs∧Sep w0 w' (uO xQ fv' T'::R):=by
 refine KA hS (fun _ a2 a3=>by obtain⟨A,c,e,_⟩:=(hb a2 a3).1.shape;rw[e];rfl) (fun _ hv _ hm hb6=>?_)
  (fun vs hT W hW=>XQ (hT.below hW) hS.loose hp9 ht9 mode ref (hsv.below hW) (fun a2 a3=>⟨(hb a2 a3).1.below hW,(hb a2 a3).2⟩)) h
 have hM:eG mode=true:=by unfold eG;rw[Bool.and_eq_true,decide_eq_true_eq,decide_eq_true_eq];exact hm (by omega)
 have e:LC 6 p tz mode bs T=T.2++[⟨mode,bs⟩]:=rfl
 rw[e]
 exact aoC hS.good hS.alike hS.loose.le hS.loose.size hv hM (hb6 rfl).1
end
end Go.Proofs.YteihmbaimbogaaaGreat
