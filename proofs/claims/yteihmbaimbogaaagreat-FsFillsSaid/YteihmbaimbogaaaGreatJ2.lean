/- App, Parts, Held, Tail, FsK, FsP, laid together. -/
import Derived.Test.YteihmbaimbogaaaGreatJ1
import Derived.Deep.RegionHeld3
import Derived.StillTail
import Derived.Deep.Quiet
import Derived.Test.YteihmbaimbogaaaGreatProg
import Derived.Laws.CopyOwn
import Derived.Lib.SliceRun
namespace Go.Proofs.YteihmbaimbogaaaGreat
open Go.RowKit
set_option linter.unusedVariables false
theorem Sep.aeK {w0 w w':World} {As:List aU} {e:TypeId} {sz n m:Nat} {v v':Value} {cs cs':List Value} (i:Nat) (h:Sep w0 w As) (hi:As[i]? =some (.sl e sz v n cs))
  (hown:w'.ownsRow 0 e sz v' m cs') (hgrow:w.grownBy w' v.ownBlock) (hat:v'.ownBlock=v.ownBlock∨v'.ownBlock=some w.heap.size):
  Sep w0 w' (As.set i (.sl e sz v' m cs')):=by
 refine h.step i hi fun F ⟨ho,hF⟩ _=>⟨v'.ownBlock.toList,⟨hown,rfl⟩,fun b hb=>?_,?_⟩
 ·rcases hat with hat|hat
  ·left;rw[hF,←hat];exact hb
  right;rw[hat]at hb;simp at hb;omega
 rw[hF];exact j3.o7 hgrow
theorem GY {P:Program} {w0 w:World} {As:List aU} (k:Nat) (t ty e:TypeId) (i:TypeInfo) (z:Value) (size bytes:Nat) (ht:P.underlying t=some (.slice e)) (hi:P.info? e=some i) (hz:i.zero=some z)
  (hsize:i.size=size) (hby:i.bytes=bytes) (hzs:z.cells.size=size) (hsz:0<size)
  (hS:Sep w0 w As) (v:Value) (n:Nat) (cs:List Value) (hk:As[k]? =some (.sl e size v n cs))
  (xv:Value) (m:Nat) (news:List Value) (hr:Rd w size xv m news) (h1:∀u∈news,u.oneCell'=true) (h63:n+m≤maxLen) (hbytes:(n+m)*bytes≤140737488355328):
  ∃v' w',(Builtin.append_ #[t,t] ty #[v,xv]).run P w= .ok v' w'∧Sep w0 w' (As.set k (.sl e size v' (n+m) (cs++news)))∧w.heap.size≤w'.heap.size:=by
 obtain⟨F,⟨hown,hF⟩,_⟩:=hS.get k hk;obtain⟨hl,A,c,rfl,h2,h3,h4⟩:=hr;rcases A with _|ad
 ·have hm:m=0:=by
   rcases Nat.eq_zero_or_pos m with h0|h0
   ·exact h0
   obtain⟨ad,h,_⟩:=h4 h0;cases h
  subst hm;have hn:news=[]:=List.eq_nil_of_length_eq_zero (by simpa using hl);subst hn;have hrun:(Builtin.append_ #[t,t] ty #[v,.slice none 0 c]).run P w= .ok v w:=by
   rcases hown.2 with⟨rfl,rfl⟩|⟨g,cap,cur,rfl,_,_,hnc,_⟩
   ·simp[Builtin.append_,run_underlying ht,sizeOf,typeInfo,hi,Builtin.lenOf,Builtin.firstCells]
   simp[Builtin.append_,run_underlying ht,sizeOf,typeInfo,hi,Builtin.lenOf,Builtin.firstCells,hnc,storeCells]
  refine⟨v,w,hrun,?_,Nat.le_refl _⟩;rw[Nat.add_zero,List.append_nil];obtain⟨hlt,e'⟩:=gF.1 hk;rw[←e',List.set_getElem_self];exact hS
 have hcells:∀j u,news[j]? =some u→w.cell? (ad.add j)=some u:=by
  intro j u hu;rcases Nat.eq_zero_or_pos m with h0|h0
  ·subst h0;have hn:news=[]:=List.eq_nil_of_length_eq_zero (by simpa using hl);subst hn;simp at hu
  obtain⟨ad',h,_,hc⟩:=h4 h0;injection h with h;subst h;exact hc j u hu
 obtain⟨v',w',hrun,h5,h6,_,h7⟩:=run_append_own_at (P:=P) w 0 t ty e i z size bytes ht hi hz hsize hby hzs hsz v n cs hown ad m c news hl hcells h1 h63 hbytes (Nat.zero_le _);exact⟨v',w',hrun,hS.aeK k hk h5 h6 h7,h6.size⟩
section
variable {P:Program} {w0 w:World} {As:List aU} {ops:Array Oper} {rest:List Oper} {o:Oper} {a:Act} {Q:Exit→Act→World→Prop}
theorem qP {K:Act→World→Prop} (k:Nat) (s x:Operand) (t:TypeId)
  (ho:o.op= .call {callee:=.builtin .append,args:=#[s,x],argTypes:=#[t,t]})
  (e:TypeId) (i:TypeInfo) (z:Value) (size bytes:Nat) (ht:P.underlying t=some (.slice e)) (hi:P.info? e=some i) (hz:i.zero=some z)
  (hsize:i.size=size) (hby:i.bytes=bytes) (hzs:z.cells.size=size) (hsz:0<size)
  (hS:Sep w0 w As) (v:Value) (n:Nat) (cs:List Value) (hk:As[k]? =some (.sl e size v n cs)) (hs:a.eval s=v)
  (xv:Value) (m:Nat) (news:List Value) (hx:a.eval x=xv) (hr:Rd w size xv m news) (h1:∀u∈news,u.oneCell'=true)
  (h63:n+m≤maxLen) (hbytes:(n+m)*bytes≤140737488355328)
  (h:∀v' w',Sep w0 w' (As.set k (.sl e size v' (n+m) (cs++news)))→w.heap.size≤w'.heap.size→K (a.put o.dst v') w'):
  o.wp P a w K Q:=by
 obtain⟨v',w',hrun,h2,h3⟩:=GY (P:=P) k t o.type e i z size bytes ht hi hz hsize hby hzs hsz hS v n cs hk xv m news hr h1 h63 hbytes;unfold Oper.wp execOp;simp only[ho,resolve,invoke,builtin,Sem.run_bind,Sem.run_pure,Result.andThen_ok,List.map_toArray,List.map_cons,List.map_nil,hs,hx,hrun];exact h v' w' h2 h3
theorem bL (k:Nat) (hgd:o.guard=none) (s x:Operand) (t:TypeId)
  (ho:o.op= .call {callee:=.builtin .append,args:=#[s,x],argTypes:=#[t,t]})
  (e:TypeId) (i:TypeInfo) (z:Value) (size bytes:Nat) (ht:P.underlying t=some (.slice e)) (hi:P.info? e=some i) (hz:i.zero=some z)
  (hsize:i.size=size) (hby:i.bytes=bytes) (hzs:z.cells.size=size) (hsz:0<size)
  (hS:Sep w0 w As) (v:Value) (n:Nat) (cs:List Value) (hk:As[k]? =some (.sl e size v n cs)) (hs:a.eval s=v)
  (xv:Value) (m:Nat) (news:List Value) (hx:a.eval x=xv) (hr:Rd w size xv m news) (h1:∀u∈news,u.oneCell'=true)
  (h63:n+m≤maxLen) (hbytes:(n+m)*bytes≤140737488355328)
  (h:∀v' w',Sep w0 w' (As.set k (.sl e size v' (n+m) (cs++news)))→w.heap.size≤w'.heap.size→wpList P ops Q rest (a.put o.dst v') w'):
  wpList P ops Q (o::rest) a w:=
 wpList_plain hgd fun _ hK=>qP k s x t ho e i z size bytes ht hi hz hsize hby hzs hsz hS v n cs hk hs xv m news hx hr h1 h63 hbytes fun v' w' h2 h3=>hK _ _ (h v' w' h2 h3)
theorem dD {K:Act→World→Prop} {E:Prop} (k:Nat) (hgd:o.guard=none) (s x:Operand) (t:TypeId)
  (ho:o.op= .call {callee:=.builtin .append,args:=#[s,x],argTypes:=#[t,t]})
  (e:TypeId) (i:TypeInfo) (z:Value) (size bytes:Nat) (ht:P.underlying t=some (.slice e)) (hi:P.info? e=some i) (hz:i.zero=some z)
  (hsize:i.size=size) (hby:i.bytes=bytes) (hzs:z.cells.size=size) (hsz:0<size)
  (hS:Sep w0 w As) (v:Value) (n:Nat) (cs:List Value) (hk:As[k]? =some (.sl e size v n cs)) (hs:a.eval s=v)
  (xv:Value) (m:Nat) (news:List Value) (hx:a.eval x=xv) (hr:Rd w size xv m news) (h1:∀u∈news,u.oneCell'=true)
  (h63:n+m≤maxLen) (hbytes:(n+m)*bytes≤140737488355328)
  (h:∀v' w',Sep w0 w' (As.set k (.sl e size v' (n+m) (cs++news)))→w.heap.size≤w'.heap.size→K (a.put o.dst v') w'):
  if Region.wanted o (yielded ops a.tmps)=true then Oper.wp P o a w K Q else E:=by
 have hw:Region.wanted o (yielded ops a.tmps)=true:=by simp[Region.wanted,hgd]
 rw[if_pos hw];exact qP k s x t ho e i z size bytes ht hi hz hsize hby hzs hsz hS v n cs hk hs xv m news hx hr h1 h63 hbytes h
end
end Go.Proofs.YteihmbaimbogaaaGreat
namespace Go.Proofs.YteihmbaimbogaaaGreat
open Go.RowKit
def aQ (v:Value) (xs:List Int):aU:=.sl 3 1 v xs.length (xs.map (.int .i64))
section
variable {w0 w w':World} {As R:List aU} {α:Type} {e:TypeId} {One:Value→α→aU} {v:Value} {xs:List α}
theorem aqT {w:World} {F:List Nat} {e:TypeId} {sz n:Nat} {v:Value} {cs:List Value} (h:(aU.sl e sz v n cs).on w F):Rd w sz v n cs:=by
 obtain⟨ho,_⟩:=h;refine⟨ho.1,?_⟩;rcases ho.2 with⟨rfl,rfl⟩|⟨g,cap,cur,rfl,_,hg,hc,hm,_⟩
 ·exact⟨none,0,rfl,Nat.le_refl _,by simp[maxLen],fun h=>absurd h (Nat.lt_irrefl _)⟩
 exact⟨_,cap,rfl,hc,hm,fun _=>⟨_,rfl,lt_of_heap hg,ho.cells (g:=g) rfl⟩⟩
theorem aeL {w:World} {F:List Nat} {v:Value} {xs:List Int} (h:(aQ v xs).on w F):FU w v xs:=aqT h
theorem Sep.ints (i:Nat) {v:Value} {xs:List Int} (h:Sep w0 w As) (hi:As[i]? =some (aQ v xs)):FU w v xs:=by obtain⟨F,ho,_⟩:=h.get i hi;exact aeL ho
theorem aaD (h:Sep w0 w R):Sep w0 w (aQ (.slice none 0 0) []::R):=h.fO _ _
end
end Go.Proofs.YteihmbaimbogaaaGreat
namespace Go.Proofs.YteihmbaimbogaaaGreat
open Go
section
variable {P:Program} {ops:Array Oper} {Q:Exit→Act→World→Prop} {md:Region.Mode} {S:World→Prop} {z:Nat}
def OA (P:Program) (md:Region.Mode) (ops:Array Oper) (Q:Exit→Act→World→Prop) (S:World→Prop) (z:Nat):Nat→Array Bool→Act→World→Prop
 |0,l,a,w=>Region.ready md ops l=[]∧Q .normal a w
 |f+1,l,a,w=>
  (Region.ready md ops l=[]→Q .normal a w)∧
  ∀i∈Region.ready md ops l,wpOp P ops Q i (fun a' w'=>(i≠z→S w')∧OA P md ops Q S z f (l.setIfInBounds i true) a' w') a w
theorem yK :∀(f:Nat) (l:Array Bool) (a:Act) (w:World),OA P md ops Q S z f l a w→wpAny P md ops Q f l a w
 |0,_,_,_,h=>h
 |f+1,_,_,_,h=>⟨h.1,fun i hi=>wpOp_mono (fun a' w' h'=>yK f _ a' w' h'.2) (h.2 i hi)⟩
def lastB (md:Region.Mode) (ops:Array Oper) (z i:Nat):Bool:=
 match ops[z]? with
 |none=>true
 |some o=>o.after.toList.any fun e=>Region.binds md e&&e.on==i
theorem VU {l:Array Bool} {i:Nat} (hz:lastB md ops z i=true) (hi:i∈Region.ready md ops l):z∉Region.ready md ops l:=fun h=>by
 obtain⟨_,oz,hoz,hall⟩:=mem_ready.1 h;unfold lastB at hz;rw[hoz]at hz;obtain⟨x,hx,hb⟩:=List.any_eq_true.1 hz;simp only[Bool.and_eq_true,beq_iff_eq]at hb;have h1:=hall x (by simpa using hx) hb.1;have h0:=(mem_ready.1 hi).1;rw[hb.2]at h1;rcases Nat.lt_or_ge i l.size with h'|h'
 ·simp[h']at h0 h1;rw[h0]at h1;cases h1
 simp[Array.getElem?_eq_none h']at h1
theorem aaE {i:Nat} {oi:Oper} {v:Value} (hi:ops[i]? =some oi) (hz:lastB md ops z i=true) (hsel:∀(j:Nat) (o:Oper) cs b,ops[j]? =some o→o.op≠ .select cs b)
  (hQ:∀c a w,Q (.panic c) (a.put oi.dst v) w→Q (.panic c) a w):
  ∀(f:Nat) (l:Array Bool) (a:Act) (w:World),
   (∀j oj,ops[j]? =some oj→j≠i→l.getD j true=false→(∀e∈oj.after,Region.binds md e=true→e.on≠i)→oi.apart ops oj=true)→
   i∈Region.ready md ops l→YieldsIf P ops S oi v a→S w→
   OA P md ops Q S z f (l.setIfInBounds i true) (a.put oi.dst v) w→OA P md ops Q S z (f+1) l a w:=by
 intro f
 induction f with
 |zero=>
  intro l a w _ hr hy hS H;refine⟨fun h=>(by rw[h]at hr;cases hr),fun j hj=>?_⟩;by_cases e:j=i
  ·subst e;exact hy.wpOp hi hS ⟨fun _=>hS,H⟩
  have:=ready_mono hj e;rw[H.1]at this;cases this
 |succ f ih=>
  intro l a w hfree hr hy hS H;refine⟨fun h=>(by rw[h]at hr;cases hr),fun j hj=>?_⟩;by_cases e:j=i
  ·subst e;exact hy.wpOp hi hS ⟨fun _=>hS,H⟩
  have h1:=H.2 j (ready_mono hj e);obtain⟨hjun,oj,hoj,hall⟩:=mem_ready.1 hj;have hnot:∀x∈oj.after,Region.binds md x=true→x.on≠i:=fun x hx hb heq=>by
   have h1:=hall x hx hb;have h0:=(mem_ready.1 hr).1;rw[heq]at h1;rcases Nat.lt_or_ge i l.size with h'|h'
   ·simp[h']at h0 h1;rw[h0]at h1;cases h1
   simp[Array.getElem?_eq_none h']at h1
  have h2:=wpOp_putIf hoj (hfree j oj hoj e hjun hnot) (fun cs b=>hsel i oi cs b hi) (fun cs b=>hsel j oj cs b hoj) hQ hy h1;have hstill:=ready_mono hr (Ne.symm e);have hi':i∈Region.ready md ops ((l.setIfInBounds j true)):=hstill;have hfree':∀k ok,ops[k]? =some ok→k≠i→(l.setIfInBounds j true).getD k true=false→
    (∀x∈ok.after,Region.binds md x=true→x.on≠i)→oi.apart ops ok=true:=fun k ok hk hki hun hno=>by
   refine hfree k ok hk hki ?_ hno;by_cases hjk:j=k
   ·subst hjk;exact hjun
   rw[getD_set_ne true hjk]at hun;exact hun
  (have hjz:j≠z:=fun e'=>by subst e';exact VU hz hr hj);refine wpOp_mono (fun a' w' h3=>⟨fun _=>h3.2.1 hjz,ih (l.setIfInBounds j true) a' w' hfree' hi' h3.1 (h3.2.1 hjz) ?_⟩) h2;rw[Array.setIfInBounds_comm _ _ e];exact h3.2.2
theorem Q3 {i:Nat} {oi:Oper} {v:Value} {f:Nat} {l:Array Bool} {a:Act} {w:World} (hi:ops[i]? =some oi) (hz:lastB md ops z i=true)
  (hs:Region.noSelect ops=true) (hf:Region.free md ops l i=true) (hr:(Region.ready md ops l).contains i=true)
  (hQ:∀c a w,Q (.panic c) (a.put oi.dst v) w→Q (.panic c) a w) (hy:YieldsIf P ops S oi v a) (hS:S w)
  (h:OA P md ops Q S z f (l.setIfInBounds i true) (a.put oi.dst v) w):OA P md ops Q S z (f+1) l a w:=
 aaE hi hz (Region.noSelect_spec hs) hQ f l a w (Region.free_spec hi hf) (by simpa using hr) hy hS h
theorem aA {i:Nat} {oi:Oper} {v:Value} {f:Nat} {l:Array Bool} {a:Act} {w:World} (hS:S w) (hi:ops[i]? =some oi) (hy:∀w,S w→(execOp a.eval oi).run P w= .ok (.value v) w)
  (h:OA P md ops Q S z f (l.setIfInBounds i true) (a.put oi.dst v) w) (hz:lastB md ops z i=true:=by kernel_rfl) (hs:Region.noSelect ops=true:=by kernel_rfl) (hf:Region.free md ops l i=true:=by kernel_rfl) (hr:(Region.ready md ops l).contains i=true:=by kernel_rfl)
  (hw:Region.wanted oi (yielded ops a.tmps)=true:=by rfl) (hQ:∀c a w,Q (.panic c) (a.put oi.dst v) w→Q (.panic c) a w:=by exact fun _ _ _ h=>h):OA P md ops Q S z (f+1) l a w:=
 Q3 hi hz hs hf hr hQ (Or.inl ⟨hw,hy⟩) hS h
theorem aC {i:Nat} {o:Oper} {f:Nat} {l:Array Bool} {a:Act} {w:World} (hr:Region.ready md ops l=[i]) (ho:ops[i]? =some o)
  (h:∀K':Act→World→Prop,(∀a w,(i≠z→S w)→OA P md ops Q S z f (l.setIfInBounds i true) a w→K' a w)→if Region.wanted o (yielded ops a.tmps)=true then Oper.wp P o a w K' Q else K' (a.put o.dst undef) w):OA P md ops Q S z (f+1) l a w:=
 ⟨fun h0=>(by rw[hr]at h0;cases h0),fun j hj=>by rw[hr]at hj;(obtain rfl:j=i:=by simpa using hj);exact wpOp_step ho fun K' hK=>h K' fun a w h1 h2=>hK a w ⟨h1,h2⟩⟩
theorem aO {l:Array Bool} {a:Act} {w:World} (hr:Region.ready md ops l=[]) (h:Q .normal a w):∀f,OA P md ops Q S z f l a w
 |0=>⟨hr,h⟩
 |_+1=>⟨fun _=>h,by rw[hr];simp⟩
theorem aN {id:Nat} {a:Act} {w:World} (z:Nat) (hm:P.follows .mixedOrders=true)
  (h:OA P .any ops Q S z ops.size (Array.replicate ops.size false) a w.drew):(Code.region id ops true).wp P Q a w:=
 wp_region_any hm (yK _ _ _ _ h)
def mF (Q:Exit→Act→World→Prop):Exit→Act→World→Prop
 | .panic _,_,_=>False
 |e,a,w=>Q e a w
theorem jM {c:Code} {a:Act} {w:World} (h:c.wp P (mF Q) a w):c.wp P Q a w:=
 wp_mono h fun e a w h=>by cases e<;>first |exact h|exact h.elim
end
end Go.Proofs.YteihmbaimbogaaaGreat
namespace Go.Proofs.YteihmbaimbogaaaGreat
open Go.RowKit
set_option linter.unusedVariables false
def jP (b:UInt8):Value:=.int .u8 b.toNat
def BytesAt (w:World) (v:Value) (bs:List UInt8):Prop:=Rd w 1 v bs.length (bs.map jP)
theorem BytesAt.below {w w':World} {v:Value} {bs:List UInt8} (h:BytesAt w v bs) (hb:Below w.heap.size w w'):BytesAt w' v bs:=Rd.below h hb
def aH (v:Value) (bs:List UInt8):aU:=.sl 5 1 v bs.length (bs.map jP)
theorem sU {bs:List UInt8}:∀u∈bs.map jP,u.oneCell'=true:=fun u hu=>by obtain⟨b,_,rfl⟩:=List.mem_map.1 hu;rfl
theorem jV :(Tryz.prog.info? 5).map (fun i=>(i.zero,i.size,i.bytes))=some (some (.int .u8 0),1,1):=by kernel_rfl
theorem rQ :(Tryz.prog.info? 5).map (·.size)=some 1:=by kernel_rfl
theorem iQ {e:TypeId} {z:Value} {n b:Nat} (h:(Tryz.prog.info? e).map (fun i=>(i.zero,i.size,i.bytes))=some (some z,n,b)):∃i,Tryz.prog.info? e=some i∧i.zero=some z∧i.size=n∧i.bytes=b:=by
 cases hi:Tryz.prog.info? e with
 |none=>rw[hi]at h;simp at h
 |some i=>rw[hi]at h;simp at h;exact⟨i,rfl,h.1,h.2.1,h.2.2⟩
theorem KO (a:Addr) (n:Nat):(a.add n).block=a.block:=zH a n
def iB (w0:World) (As:List aU) (v:Value) (bs:List UInt8):Prop:=∀w' X,Sep w0 w' (X++As)→BytesAt w' v bs
theorem iB.now {w0 w:World} {As X:List aU} {v:Value} {bs:List UInt8} (h:iB w0 As v bs) (hS:Sep w0 w (X++As)):BytesAt w v bs:=h w X hS
theorem iB.cons {w0:World} {As:List aU} {A:aU} {v:Value} {bs:List UInt8} (h:iB w0 As v bs):iB w0 (A::As) v bs:=fun w' X hS=>h w' (X++[A]) (by simpa using hS)
theorem iB.more {w0:World} {As Y:List aU} {v:Value} {bs:List UInt8} (h:iB w0 As v bs):iB w0 (Y++As) v bs:=fun w' X hS=>h w' (X++Y) (by simpa using hS)
theorem iB.part {w0:World} {As:List aU} {v:Value} {bs:List UInt8} (i:Nat) (h:As[i]? =some (aH v bs)):iB w0 As v bs:=fun w' X hS=>hS.rd (X.length+i) ((List.getElem?_append_right (by omega)).trans (by rw[Nat.add_sub_cancel_left];exact h))
def kV {α:Type} (l:List α) (o:Nat) (xs:List α):List α:=l.take o++xs++l.drop (o+xs.length)
theorem Q4 {α:Type} {l xs:List α} {o:Nat} (h:o+xs.length≤l.length):(kV l o xs).length=l.length:=by unfold kV;simp only[List.length_append,List.length_take,List.length_drop];omega
theorem vG {α β:Type} (f:α→β) (l xs:List α) (o:Nat):(kV l o xs).map f=kV (l.map f) o (xs.map f):=by unfold kV;simp
section
variable {w0 w w':World} {As:List aU} {e:TypeId} {n:Nat} {v:Value} {cs:List Value}
theorem Sep.laid {g cap:Nat} (i:Nat) (h:Sep w0 w As) (hi:As[i]? =some (.sl e 1 (.slice (some ⟨g,0,none⟩) n cap) n cs)) (o:Nat) (news:List Value) (hfit:o+news.length≤n):
  ∃cur,w.heap[g]? =some (.cells cur e (0,0))∧o+news.length≤cur.size∧Sep w0 (w.setRow g (cur.toList.take o++news++cur.toList.drop (o+news.length)).toArray) (As.set i (.sl e 1 (.slice (some ⟨g,0,none⟩) n cap) n (kV cs o news))):=by
 obtain⟨F,⟨⟨hl,ho⟩,hF⟩,_⟩:=h.get i hi;rcases ho with⟨h',_⟩|⟨g',cap',cur,h',hb,hg,hc,hm,hs,ht⟩
 ·simp at h'
 simp only[Value.slice.injEq,Option.some.injEq,Addr.mk.injEq,and_true,true_and]at h';obtain⟨rfl,rfl⟩:=h';rw[Nat.mul_one]at hs ht hl;have hcl:cur.toList.length=cap:=by simpa using hs
 refine⟨cur,hg,by omega,h.step i hi fun F' ⟨_,hF'⟩ _=>⟨F',⟨⟨?_,.inr ⟨g,cap,_,rfl,hb,setRow_heap w g cur _ e _ hg,hc,hm,?_,?_⟩⟩,hF'⟩,fun b hb=>.inl hb,?_⟩⟩
 ·rw[Q4 (by omega),hl,Nat.mul_one]
 ·simp only[List.size_toArray,List.length_append,List.length_take,List.length_drop,hcl];omega
 ·rw[←ht];unfold kV;simp only[Nat.mul_one];apply List.ext_getElem?;intro k;simp only[List.getElem?_take,List.getElem?_append,List.length_append,List.length_take,List.getElem?_drop,hcl];by_cases k1:k<o
  ·(have a1:k<min o cap:=by omega);(have a2:k<min o (min n cap):=by omega);(have a3:k<n:=by omega);(have a4:k<min o cap+news.length:=by omega);(have a5:k<min o (min n cap)+news.length:=by omega);simp[a1,a2,a3,a4,a5,k1]
  by_cases k2:k<o+news.length
  ·(have a1:¬k<min o cap:=by omega);(have a2:¬k<min o (min n cap):=by omega);(have a3:k<n:=by omega);(have a4:k<min o cap+news.length:=by omega);(have a5:k<min o (min n cap)+news.length:=by omega);(have a6:min o cap=min o (min n cap):=by omega);simp[a2,a3,a5,a6]
  (have a4:¬k<min o cap+news.length:=by omega);(have a5:¬k<min o (min n cap)+news.length:=by omega);(have a6:o+news.length+(k-(min o cap+news.length))=k:=by omega);(have a7:o+news.length+(k-(min o (min n cap)+news.length))=k:=by omega);simp[a4,a5,a6,a7]
 rw[hF'];exact⟨rfl,rfl,rfl,by simp[World.setRow],fun k _ hn=>setRow_other w g k _ (by simpa[Value.ownBlock,eq_comm]using hn)⟩
theorem Sep.QS {P:Program} {g cap:Nat} (i:Nat) (h:Sep w0 w As) (hi:As[i]? =some (.sl e 1 (.slice (some ⟨g,0,none⟩) n cap) n cs)) (dT sT ty:TypeId) (hu:P.underlying dT=some (.slice e)) (hs:(P.info? e).map (·.size)=some 1)
  (o dLen dCap:Nat) (sv:Value) (m:Nat) (src:List Value) (hr:Rd w 1 sv m src) (h1:∀u∈src,u.oneCell'=true) (hfit:o+min m dLen≤n):
  ∃w',(Builtin.copy_ #[dT,sT] ty #[.slice (some ⟨g,o,none⟩) dLen dCap,sv]).run P w= .ok (goInt (min m dLen:Nat)) w'∧Sep w0 w' (As.set i (.sl e 1 (.slice (some ⟨g,0,none⟩) n cap) n (kV cs o (src.take (min m dLen)))))∧w'.heap.size=w.heap.size:=by
 obtain⟨hl,A,c,rfl,h2,h3,h4⟩:=hr;rw[Nat.mul_one]at hl;have hlen:(src.take (min m dLen)).length=min m dLen:=by rw[List.length_take];omega
 obtain⟨cur,hg,hsz,hS⟩:=h.laid i hi o (src.take (min m dLen)) (by rw[hlen];exact hfit);rcases Nat.eq_zero_or_pos (min m dLen)with h0|h0
 ·have hrun:=run_copy_none (P:=P) w dT sT ty e (some ⟨g,o,none⟩) A dLen dCap m c hu hs (by rw[←h0]);refine⟨w,?_,?_,rfl⟩
  ·rw[hrun,h0];rfl
  (have e0:kV cs o (src.take (min m dLen))=cs:=by rw[h0];simp[kV]);rw[e0];obtain⟨hlt,e'⟩:=gF.1 hi;rw[←e',List.set_getElem_self];exact h
 obtain⟨ad,rfl,_,hc⟩:=h4 (by omega);have hrun:=run_copy_row P w dT sT ty e g o dLen dCap ad m c cur e (src.take (min m dLen)) hu hs hg (by rw[hlen]) (fun j u hj=>by
  rw[List.getElem?_take]at hj;split at hj
  ·exact hc j u hj
  cases hj) hsz (fun u hu=>h1 u (List.mem_of_mem_take hu))
 refine⟨_,by rw[hrun,hlen],hS,by simp[World.setRow]⟩
theorem Sep.LX {P:Program} {g cap:Nat} (i:Nat) (h:Sep w0 w As) (hi:As[i]? =some (.sl e 1 (.slice (some ⟨g,0,none⟩) n cap) n cs)) (t ty:TypeId) (z:Value) (hu:P.underlying t=some (.slice e)) (hz:∀w,(zeroValue e).run P w= .ok z w) (hz1:z.cells=#[z]) (hz2:z.oneCell'=true)
  (o m c:Nat) (hfit:o+m≤n):
  ∃w',(Builtin.clear_ #[t] ty #[.slice (some ⟨g,o,none⟩) m c]).run P w= .ok (.tuple #[]) w'∧Sep w0 w' (As.set i (.sl e 1 (.slice (some ⟨g,0,none⟩) n cap) n (kV cs o (List.replicate m z))))∧w'.heap.size=w.heap.size:=by
 obtain⟨cur,hg,hsz,hS⟩:=h.laid i hi o (List.replicate m z) (by rw[List.length_replicate];exact hfit);rcases Nat.eq_zero_or_pos m with h0|h0
 ·subst h0;refine⟨w,?_,?_,rfl⟩
  ·simp[Builtin.clear_,run_underlying hu]
  (have e0:kV cs o (List.replicate 0 z)=cs:=by simp[kV]);rw[e0];obtain⟨hlt,e'⟩:=gF.1 hi;rw[←e',List.set_getElem_self];exact h
 have hzc:(Builtin.zeroCells z.cells m).toList=List.replicate m z:=by
  rw[hz1];simp[Builtin.zeroCells];apply List.ext_getElem
  ·simp
  intro i h1 h2;simp[Nat.mod_one]
 have hst:=run_storeCells_at P g o e (List.replicate m z) 0 cur w hg (by simpa using hsz) (by intro v hv';rw[List.eq_of_mem_replicate hv'];exact hz2);rw[Nat.add_zero]at hst;refine⟨_,?_,hS,by simp[World.setRow]⟩;obtain⟨k,rfl⟩:∃k,m=k+1:=⟨m-1,by omega⟩;simp[Builtin.clear_,run_underlying hu,hz,hzc,hst]
end
end Go.Proofs.YteihmbaimbogaaaGreat
namespace Go.Proofs.YteihmbaimbogaaaGreat
def r2 (b:List UInt8) (i:Nat):Nat:=(b.getD i 0).toNat+256*(b.getD (i+1) 0).toNat
def w2 (n:Nat):List UInt8:=[UInt8.ofNat n,UInt8.ofNat (n/256)]
def bW (b:List UInt8) (i:Nat) (xs:List UInt8):List UInt8:=b.take i++xs++b.drop (i+xs.length)
structure VI where
 kind:Nat
 mode:Nat
 links:Nat
 size:Nat
 aB:List Nat
def wQ (b:List UInt8):VI where
 kind:=(b.getD 0 0).toNat
 mode:=r2 b 1
 links:=r2 b 3
 size:=r2 b 5
 aB:=(List.range (b.getD 7 0).toNat).map fun k=>r2 b (8+2*k)
def VH (x:VI):List UInt8:=
 UInt8.ofNat x.kind::(w2 x.mode++w2 x.links++w2 x.size++(UInt8.ofNat x.aB.length::(x.aB.flatMap w2++List.replicate (56-2*x.aB.length) 0)))
structure VI.ok (x:VI):Prop where
 kind:x.kind<256
 mode:x.mode<65536
 links:x.links<65536
 size:x.size<65536
 few:x.aB.length≤28
 spot:∀k∈x.aB,k<65536
theorem nV (n:Nat):(w2 n).length=2:=rfl
theorem qQ (n:Nat):(UInt8.ofNat n).toNat=n%256:=UInt8.toNat_ofNat'
theorem aqU {n:Nat} (h:n<65536) (r:List UInt8):r2 (w2 n++r) 0=n:=by
 show(UInt8.ofNat n).toNat+256*(UInt8.ofNat (n/256)).toNat=n
 rw[qQ,qQ];omega
theorem LW (b:List UInt8) (i:Nat):r2 b i<65536:=by unfold r2;have h1:=(b.getD i 0).toNat_lt;have h2:=(b.getD (i+1) 0).toNat_lt;omega
theorem vE (l:List Nat):(l.flatMap w2).length=2*l.length:=by
 induction l with
 |nil=>rfl
 |cons x r ih=>simp only[List.flatMap_cons,List.length_append,nV,List.length_cons,ih];omega
theorem OD {x:VI} (h:x.aB.length≤28):(VH x).length=64:=by unfold VH;simp only[List.length_cons,List.length_append,nV,vE,List.length_replicate];omega
theorem YG (b:List UInt8) (i j:Nat):r2 (b.drop i) j=r2 b (i+j):=by unfold r2;simp only[gH,List.getElem?_drop];congr 2
theorem YH :∀(l:List Nat) (r:List UInt8) (k:Nat),k<l.length→(∀y∈l,y<65536)→r2 (l.flatMap w2++r) (2*k)=l.getD k 0
 |[],_,_,h,_=>absurd h (Nat.not_lt_zero _)
 |x::l,r,0,_,hl=>by rw[List.flatMap_cons,List.append_assoc,Nat.mul_zero,aqU (hl x (List.mem_cons_self ..))];rfl
 |x::l,r,k+1,h,hl=>by(have h1:=YH l r k (by simpa using h) fun y hy=>hl y (List.mem_cons_of_mem _ hy));(have h2:(l.flatMap w2++r)=((x::l).flatMap w2++r).drop 2:=by rw[List.flatMap_cons,List.append_assoc];rfl);rw[h2,YG]at h1;rw[show 2*(k+1)=2+2*k by omega,h1];rfl
theorem ajA {x:VI} (h:x.ok):wQ (VH x)=x:=by
 obtain⟨h0,h1,h2,h3,h4,h5⟩:=h;have e7:((VH x).getD 7 0).toNat=x.aB.length:=by(show(UInt8.ofNat x.aB.length).toNat=_);rw[qQ];omega
 have hs:∀k,k<x.aB.length→r2 (VH x) (8+2*k)=x.aB.getD k 0:=fun k hk=>by have:=YH x.aB (List.replicate (56-2*x.aB.length) 0) k hk h5;rw[←this,←YG];rfl
 obtain⟨kind,mode,links,size,aB⟩:=x;simp only at h0 h1 h2 h3 h4 h5 e7 hs;unfold wQ;rw[e7];have m1:r2 (VH ⟨kind,mode,links,size,aB⟩) 1=mode:=by show(UInt8.ofNat mode).toNat+256*(UInt8.ofNat (mode/256)).toNat=mode;rw[qQ,qQ];omega
 have m2:r2 (VH ⟨kind,mode,links,size,aB⟩) 3=links:=by show(UInt8.ofNat links).toNat+256*(UInt8.ofNat (links/256)).toNat=links;rw[qQ,qQ];omega
 have m3:r2 (VH ⟨kind,mode,links,size,aB⟩) 5=size:=by show(UInt8.ofNat size).toNat+256*(UInt8.ofNat (size/256)).toNat=size;rw[qQ,qQ];omega
 have m0:((VH ⟨kind,mode,links,size,aB⟩).getD 0 0).toNat=kind:=by show(UInt8.ofNat kind).toNat=kind;rw[qQ];omega
 rw[m0,m1,m2,m3];congr 1;refine List.ext_getElem (by simp) fun k hk hk2=>?_
 rw[List.getElem_map,List.getElem_range,hs k hk2,gH,gE hk2];rfl
def l6 (u:List UInt8) (j:Nat):Bool:=(u.getD (j/8) 0).toNat/2 ^ (j%8)%2==1
def iC (u:List UInt8) (n:Nat):Option Nat:=(List.range n).find? fun j=> !l6 u j
def orB (x:UInt8) (k:Nat):UInt8:=if x.toNat/2 ^ k%2=1 then x else UInt8.ofNat (x.toNat+2 ^ k)
def clB (x:UInt8) (k:Nat):UInt8:=if x.toNat/2 ^ k%2=1 then UInt8.ofNat (x.toNat-2 ^ k)else x
def jB (u:List UInt8) (j:Nat):List UInt8:=u.set (j/8) (orB (u.getD (j/8) 0) (j%8))
def sW (u:List UInt8) (j:Nat):List UInt8:=u.set (j/8) (clB (u.getD (j/8) 0) (j%8))
theorem VV :∀(x:Fin 256) (k i:Fin 8),((orB (UInt8.ofNat x.1) k.1).toNat/2 ^ i.1%2==1)=(decide (i.1=k.1)||(x.1/2 ^ i.1%2==1))∧
  ((clB (UInt8.ofNat x.1) k.1).toNat/2 ^ i.1%2==1)=(!decide (i.1=k.1)&&(x.1/2 ^ i.1%2==1)):=by
 decide+kernel
theorem MF (x:UInt8) (k:Nat) (hk:k<8) (i:Nat) (hi:i<8):((orB x k).toNat/2 ^ i%2==1)=(decide (i=k)||(x.toNat/2 ^ i%2==1))∧
  ((clB x k).toNat/2 ^ i%2==1)=(!decide (i=k)&&(x.toNat/2 ^ i%2==1)):=by
 have:=VV ⟨x.toNat,x.toNat_lt⟩ ⟨k,hk⟩ ⟨i,hi⟩;simpa using this
theorem ajB {u:List UInt8} {j i:Nat} (hj:j/8<u.length):l6 (jB u j) i=(decide (i=j)||l6 u i):=by
 unfold jB l6;by_cases e:i/8=j/8
 ·rw[e,gH,List.getElem?_set_self hj,Option.getD_some,(MF _ (j%8) (Nat.mod_lt _ (by decide)) (i%8) (Nat.mod_lt _ (by decide))).1];congr 1;rw[decide_eq_decide];omega
 rw[gH,List.getElem?_set_ne (by omega),←gH];have:decide (i=j)=false:=decide_eq_false (by intro h;exact e (by rw[h]));rw[this,Bool.false_or]
theorem ajC {u:List UInt8} {j i:Nat} (hj:j/8<u.length):l6 (sW u j) i=(!decide (i=j)&&l6 u i):=by
 unfold sW l6;by_cases e:i/8=j/8
 ·rw[e,gH,List.getElem?_set_self hj,Option.getD_some,(MF _ (j%8) (Nat.mod_lt _ (by decide)) (i%8) (Nat.mod_lt _ (by decide))).2];congr 2;rw[decide_eq_decide];omega
 rw[gH,List.getElem?_set_ne (by omega),←gH];have:decide (i=j)=false:=decide_eq_false (by intro h;exact e (by rw[h]));rw[this];rfl
theorem F7 (u:List UInt8) (j:Nat):(jB u j).length=u.length:=List.length_set ..
theorem F5 (u:List UInt8) (j:Nat):(sW u j).length=u.length:=List.length_set ..
theorem tF {u:List UInt8} {n j:Nat} (h:iC u n=some j):j<n∧l6 u j=false∧∀i<j,l6 u i=true:=by unfold iC at h;rw[List.find?_range_eq_some]at h;obtain⟨h1,h2,h3⟩:=h;refine⟨List.mem_range.1 h2,by simpa using h1,fun i hi=>by simpa using h3 i hi⟩
theorem GZ {u:List UInt8} {n:Nat} (h:iC u n=none):∀i<n,l6 u i=true:=by unfold iC at h;intro i hi;have:=List.find?_eq_none.1 h i (List.mem_range.2 hi);simpa using this
abbrev dW :=List (List UInt8)
def bk (c:dW) (i:Nat):List UInt8:=c.getD i []
structure iX (n:Nat) (c:dW):Prop where
 len:c.length=n
 size:∀b∈c,b.length=512
theorem iL {n:Nat} {c:dW} (h:iX n c) {i:Nat} (hi:i<n):(bk c i).length=512:=by
 unfold bk;have hi':i<c.length:=by rw[h.len];exact hi
 rw[gH,gE hi'];exact h.size _ (List.getElem_mem hi')
theorem vC (c:dW) (i j:Nat) (x:List UInt8) (hi:i<c.length):bk (c.set i x) j=if j=i then x else bk c j:=by
 unfold bk;by_cases e:j=i
 ·subst e;rw[if_pos rfl,gH,List.getElem?_set_self hi];rfl
 rw[if_neg e,gH,List.getElem?_set_ne (fun h=>e h.symm),←gH]
theorem iX.set {n:Nat} {c:dW} (h:iX n c) (i:Nat) {x:List UInt8} (hx:x.length=512):iX n (c.set i x):=
 ⟨by rw[List.length_set];exact h.len,fun b hb=>by
  rcases List.mem_or_eq_of_mem_set hb with h1|h1
  ·exact h.size b h1
  rw[h1];exact hx⟩
def aF (c:dW) (n:Nat):VI:=wQ (((bk c (2+n/8)).drop (n%8*64)).take 64)
def o8 (c:dW) (n:Nat) (x:VI):dW:=c.set (2+n/8) (bW (bk c (2+n/8)) (n%8*64) (VH x))
theorem dL {b xs:List UInt8} {i:Nat} (h:i+xs.length≤b.length):(bW b i xs).length=b.length:=by unfold bW;simp only[List.length_append,List.length_take,List.length_drop];omega
theorem MG {b xs:List UInt8} {i:Nat} (h:i+xs.length≤b.length):((bW b i xs).drop i).take xs.length=xs:=by unfold bW;rw[List.append_assoc,List.drop_append_of_le_length (by rw[List.length_take];omega),List.drop_eq_nil_of_le (by rw[List.length_take];omega),List.nil_append];exact List.take_left
theorem pG {b xs:List UInt8} {i:Nat} (h:i+xs.length≤b.length) (k:Nat):(bW b i xs)[k]? =if i≤k∧k<i+xs.length then xs[k-i]? else b[k]? :=by
 unfold bW;by_cases h1:k<i
 ·rw[if_neg (by omega),List.append_assoc,List.getElem?_append_left (by rw[List.length_take];omega),List.getElem?_take,if_pos h1]
 by_cases h2:k<i+xs.length
 ·rw[if_pos ⟨by omega,h2⟩,List.getElem?_append_left (by rw[List.length_append,List.length_take];omega),List.getElem?_append_right (by rw[List.length_take];omega),List.length_take,Nat.min_eq_left (by omega)]
 rw[if_neg (by omega),List.getElem?_append_right (by rw[List.length_append,List.length_take];omega),List.length_append,List.length_take,Nat.min_eq_left (by omega),List.getElem?_drop];congr 1;omega
theorem aaF {nb:Nat} {c:dW} (hc:iX nb c) {n:Nat} (hn:2+n/8<nb) {x:VI} (hx:x.ok) (m:Nat):aF (o8 c n x) m=if m=n then x else aF c m:=by
 have hl:=iL hc hn;have hv:=OD hx.few;have hr:n%8*64+(VH x).length≤(bk c (2+n/8)).length:=by rw[hl,hv];omega
 unfold aF o8;rw[vC _ _ _ _ (by rw[hc.len];exact hn)];by_cases e:m=n
 ·subst e;rw[if_pos rfl,if_pos rfl];have:=MG hr;rw[hv]at this;rw[this,ajA hx]
 rw[if_neg e];by_cases e2:2+m/8=2+n/8
 ·rw[if_pos e2];congr 1;apply List.ext_getElem?;intro k;rw[List.getElem?_take,List.getElem?_take];by_cases hk:k<64
  ·rw[if_pos hk,if_pos hk,List.getElem?_drop,List.getElem?_drop,pG hr,hv,if_neg (by omega),e2]
  rw[if_neg hk,if_neg hk]
 rw[if_neg e2]
theorem aeM {nb:Nat} {c:dW} (hc:iX nb c) {n:Nat} (hn:2+n/8<nb) {x:VI} (hx:x.aB.length≤28):iX nb (o8 c n x):=by have hl:=iL hc hn;have hv:=OD hx;exact hc.set _ (by rw[dL (by rw[hl,hv];omega),hl])
end Go.Proofs.YteihmbaimbogaaaGreat
