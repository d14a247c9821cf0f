/- Parts. -/
import Derived.Test.YtmjomdkleikgbaaGreatK1
import Derived.Deep.RegionHeld3
import Derived.StillTail
import Derived.Deep.Quiet
import Derived.Test.YtmjomdkleikgbaaGreatProg
import Derived.Laws.CopyOwn
import Derived.Lib.SliceRun
set_option linter.unusedVariables false
set_option linter.unusedSimpArgs false
set_option maxRecDepth 100000
set_option maxHeartbeats 20000000
namespace Go.Proofs.YtmjomdkleikgbaaGreat
open Go
section
variable {P:Program} {ops:Array Oper} {Q:Exit->Act->World->Prop} {md:Region.Mode} {S:World->Prop} {z:Nat}
def KO (P:Program) (md:Region.Mode) (ops:Array Oper) (Q:Exit->Act->World->Prop) (S:World->Prop) (z:Nat):Nat->Array Bool->Act->World->Prop
 |0,l,a,w=>Region.ready md ops l=[]/\Q .normal a w
 |f+1,l,a,w=>
  (Region.ready md ops l=[]->Q .normal a w)/\
  ∀i∈Region.ready md ops l,wpOp P ops Q i (fun a' w'=>(i≠z->S w')/\KO P md ops Q S z f (l.setIfInBounds i true) a' w') a w
theorem FX :∀(f:Nat) (l:Array Bool) (a:Act) (w:World),KO P md ops Q S z f l a w->wpAny P md ops Q f l a w
 |0,_,_,_,h=>h
 |f+1,_,_,_,h=>⟨h.1,fun i hi=>wpOp_mono (fun a' w' h'=>FX f _ a' w' h'.2) (h.2 i hi)⟩
def lastB (md:Region.Mode) (ops:Array Oper) (z i:Nat):Bool:=
 match ops[z]? with
 |none=>true
 |some o=>o.after.toList.any fun e=>Region.binds md e&&e.on==i
theorem ahA {l:Array Bool} {i:Nat} (hz:lastB md ops z i=true) (hi:i∈Region.ready md ops l):z∉Region.ready md ops l:=fun h=>by
 obtain⟨_,oz,hoz,hall⟩:=mem_ready.1 h;unfold lastB at hz;rw[hoz]at hz;obtain⟨x,hx,hb⟩:=List.any_eq_true.1 hz;simp only[sP,tL]at hb;have h1:=hall x (by simpa using hx) hb.1;have h0:=(mem_ready.1 hi).1;rw[hb.2]at h1;rcases AZ i l.size with h'|h'
 ·simp[h']at h0 h1;rw[h0]at h1;cases h1
 simp[Array.getElem?_eq_none h']at h1
theorem amW {i:Nat} {oi:Oper} {v:Value} (hi:ops[i]? =some oi) (hz:lastB md ops z i=true) (hsel:∀(j:Nat) (o:Oper) cs b,ops[j]? =some o->o.op≠ .select cs b)
  (hQ:∀c a w,Q (.panic c) (a.put oi.dst v) w->Q (.panic c) a w):
  ∀(f:Nat) (l:Array Bool) (a:Act) (w:World),
   (∀j oj,ops[j]? =some oj->j≠i->l.getD j true=false->(∀e∈oj.after,Region.binds md e=true->e.on≠i)->oi.apart ops oj=true)->
   i∈Region.ready md ops l->YieldsIf P ops S oi v a->S w->
   KO P md ops Q S z f (l.setIfInBounds i true) (a.put oi.dst v) w->KO P md ops Q S z (f+1) l a w:=by
 intro f
 induction f with
 |zero=>
  intro l a w _ hr hy hS H;refine⟨fun h=>(by rw[h]at hr;cases hr),fun j hj=>?_⟩;by_cases e:j=i
  ·subst e;exact hy.wpOp hi hS ⟨fun _=>hS,H⟩
  have:=ready_mono hj e;rw[H.1]at this;cases this
 |succ f ih=>
  intro l a w hfree hr hy hS H;refine⟨fun h=>(by rw[h]at hr;cases hr),fun j hj=>?_⟩;by_cases e:j=i
  ·subst e;exact hy.wpOp hi hS ⟨fun _=>hS,H⟩
  have h1:=H.2 j (ready_mono hj e);obtain⟨hjun,oj,hoj,hall⟩:=mem_ready.1 hj;have hnot:∀x∈oj.after,Region.binds md x=true->x.on≠i:=fun x hx hb heq=>by
   have h1:=hall x hx hb;have h0:=(mem_ready.1 hr).1;rw[heq]at h1;rcases AZ i l.size with h'|h'
   ·simp[h']at h0 h1;rw[h0]at h1;cases h1
   simp[Array.getElem?_eq_none h']at h1
  have h2:=wpOp_putIf hoj (hfree j oj hoj e hjun hnot) (fun cs b=>hsel i oi cs b hi) (fun cs b=>hsel j oj cs b hoj) hQ hy h1;have hstill:=ready_mono hr (Ne.symm e);have hi':i∈Region.ready md ops ((l.setIfInBounds j true)):=hstill;have hfree':∀k ok,ops[k]? =some ok->k≠i->(l.setIfInBounds j true).getD k true=false->
    (∀x∈ok.after,Region.binds md x=true->x.on≠i)->oi.apart ops ok=true:=fun k ok hk hki hun hno=>by
   refine hfree k ok hk hki ?_ hno;by_cases hjk:j=k
   ·subst hjk;exact hjun
   rw[getD_set_ne true hjk]at hun;exact hun
  (have hjz:j≠z:=fun e'=>by subst e';exact ahA hz hr hj);refine wpOp_mono (fun a' w' h3=>⟨fun _=>h3.2.1 hjz,ih (l.setIfInBounds j true) a' w' hfree' hi' h3.1 (h3.2.1 hjz) ?_⟩) h2;rw[Array.setIfInBounds_comm _ _ e];exact h3.2.2
theorem adA {i:Nat} {oi:Oper} {v:Value} {f:Nat} {l:Array Bool} {a:Act} {w:World} (hi:ops[i]? =some oi) (hz:lastB md ops z i=true)
  (hs:Region.noSelect ops=true) (hf:Region.free md ops l i=true) (hr:(Region.ready md ops l).contains i=true)
  (hQ:∀c a w,Q (.panic c) (a.put oi.dst v) w->Q (.panic c) a w) (hy:YieldsIf P ops S oi v a) (hS:S w)
  (h:KO P md ops Q S z f (l.setIfInBounds i true) (a.put oi.dst v) w):KO P md ops Q S z (f+1) l a w:=
 amW hi hz (Region.noSelect_spec hs) hQ f l a w (Region.free_spec hi hf) (by simpa using hr) hy hS h
theorem oN {i:Nat} {oi:Oper} {v:Value} {f:Nat} {l:Array Bool} {a:Act} {w:World} (hS:S w) (hi:ops[i]? =some oi) (hy:∀w,S w->(execOp a.eval oi).run P w= .ok (.value v) w)
  (h:KO P md ops Q S z f (l.setIfInBounds i true) (a.put oi.dst v) w) (hz:lastB md ops z i=true:=by kernel_rfl) (hs:Region.noSelect ops=true:=by kernel_rfl) (hf:Region.free md ops l i=true:=by kernel_rfl) (hr:(Region.ready md ops l).contains i=true:=by kernel_rfl)
  (hw:Region.wanted oi (yielded ops a.tmps)=true:=by rfl) (hQ:∀c a w,Q (.panic c) (a.put oi.dst v) w->Q (.panic c) a w:=by exact fun _ _ _ h=>h):KO P md ops Q S z (f+1) l a w:=
 adA hi hz hs hf hr hQ (Or.inl ⟨hw,hy⟩) hS h
theorem p9 {i:Nat} {o:Oper} {f:Nat} {l:Array Bool} {a:Act} {w:World} (hr:Region.ready md ops l=[i]) (ho:ops[i]? =some o)
  (h:∀K':Act->World->Prop,(∀a w,(i≠z->S w)->KO P md ops Q S z f (l.setIfInBounds i true) a w->K' a w)->if Region.wanted o (yielded ops a.tmps)=true then Oper.wp P o a w K' Q else K' (a.put o.dst undef) w):KO P md ops Q S z (f+1) l a w:=
 ⟨fun h0=>(by rw[hr]at h0;cases h0),fun j hj=>by rw[hr]at hj;(obtain rfl:j=i:=by simpa using hj);exact wpOp_step ho fun K' hK=>h K' fun a w h1 h2=>hK a w ⟨h1,h2⟩⟩
theorem aQ {l:Array Bool} {a:Act} {w:World} (hr:Region.ready md ops l=[]) (h:Q .normal a w):∀f,KO P md ops Q S z f l a w
 |0=>⟨hr,h⟩
 |_+1=>⟨fun _=>h,by rw[hr];simp⟩
theorem sJ {id:Nat} {a:Act} {w:World} (z:Nat) (hm:P.follows .mixedOrders=true)
  (h:KO P .any ops Q S z ops.size (Array.replicate ops.size false) a w.drew):(Code.region id ops true).wp P Q a w:=
 wp_region_any hm (FX _ _ _ _ h)
theorem aA (i:Nat) {P:Program} {md:Region.Mode} {ops:Array Oper} {Q:Exit->Act->World->Prop} {S:World->Prop} {z:Nat} {oi:Oper} {v:Value} {f:Nat} {l l':Array Bool} {a a':Act} {w:World} (hS:S w) (h:KO P md ops Q S z f l' a' w) (hi:ops[i]? =some oi:=by rfl)
  (hy:∀w,S w->(execOp a.eval oi).run P w= .ok (.value v) w:=by intro w e;(repeat(have e':=And.left e;replace e:=And.right e));go_simp;try with_reducible rfl)
  (hl:l.setIfInBounds i true=l':=by first |(simp only[gD];rfl)|rfl) (ha:a.put oi.dst v=a':=by simp only[Act.put,gD];rfl)
  (hz:lastB md ops z i=true:=by kernel_rfl) (hs:Region.noSelect ops=true:=by kernel_rfl) (hf:Region.free md ops l i=true:=by kernel_rfl) (hr:(Region.ready md ops l).contains i=true:=by kernel_rfl)
  (hw:Region.wanted oi (yielded ops a.tmps)=true:=by rfl) (hQ:∀c a w,Q (.panic c) (a.put oi.dst v) w->Q (.panic c) a w:=by exact fun _ _ _ h=>h):KO P md ops Q S z (f+1) l a w:=by
 subst hl ha;exact adA hi hz hs hf hr hQ (Or.inl ⟨hw,hy⟩) hS h
theorem bI (i:Nat) {P:Program} {md:Region.Mode} {ops:Array Oper} {Q:Exit->Act->World->Prop} {S:World->Prop} {z:Nat} {o:Oper} {f:Nat} {l:Array Bool} {a:Act} {w:World}
 (h:∀K':Act->World->Prop,(∀a w,(i≠z->S w)->KO P md ops Q S z f (l.setIfInBounds i true) a w->K' a w)->if Region.wanted o (yielded ops a.tmps)=true then Oper.wp P o a w K' Q else K' (a.put o.dst undef) w) (ho:ops[i]? =some o:=by rfl) (hr:Region.ready md ops l=[i]:=by kernel_rfl):KO P md ops Q S z (f+1) l a w:=p9 hr ho h
theorem aP {P:Program} {ops:Array Oper} {Q:Exit->Act->World->Prop} {S:World->Prop} {id:Nat} {a:Act} {w:World} {n:Nat} (z:Nat) (h:KO P .any ops Q S z n (Array.replicate n false) a w.drew) (hn:ops.size=n:=by first |(simp only[uB,kH,qQ,Nat.reduceAdd];done)|(simp only[uB,kH,qQ,Nat.reduceAdd];rfl)) (hm:P.follows .mixedOrders=true:=by kernel_rfl):(Code.region id ops true).wp P Q a w:=by subst hn;exact sJ z hm h
theorem bA (i:Nat) {P:Program} {md:Region.Mode} {ops:Array Oper} {Q:Exit->Act->World->Prop} {S:World->Prop} {z:Nat} {o:Oper} {f:Nat} {l l':Array Bool} {a a' a2:Act} {w w':World} (hS:i≠z->S w') (h:KO P md ops Q S z f l' a2 w') (ho:ops[i]? =some o:=by rfl) (hr:Region.ready md ops l=[i]:=by kernel_rfl)
  (hstep:∀K:Act->World->Prop,K a' w'->(if Region.wanted o (yielded ops a.tmps)=true then Oper.wp P o a w K Q else K (a.put o.dst undef) w):=by intro K hK;go_simp;(try dsimp only);exact hK)
  (hl:l.setIfInBounds i true=l':=by first |(simp only[gD];rfl)|rfl) (ha:a'=a2:=by first |(simp only[Act.put,gD];rfl)|rfl):KO P md ops Q S z (f+1) l a w:=by
 subst hl ha;exact p9 hr ho fun K' hK=>hstep K' (hK _ _ hS h)
def pX (Q:Exit->Act->World->Prop):Exit->Act->World->Prop
 | .panic _,_,_=>False
 |e,a,w=>Q e a w
theorem lT {c:Code} {a:Act} {w:World} (h:c.wp P (pX Q) a w):c.wp P Q a w:=
 wp_mono h fun e a w h=>by cases e<;>first |exact h|exact h.elim
end
end Go.Proofs.YtmjomdkleikgbaaGreat
namespace Go.Proofs.YtmjomdkleikgbaaGreat
open Go.RowKit
def kY (b:UInt8):Value:=.int .u8 b.toNat
def BytesAt (w:World) (v:Value) (bs:List UInt8):Prop:=Rd w 1 v bs.length (bs.map kY)
theorem BytesAt.below {w w':World} {v:Value} {bs:List UInt8} (h:BytesAt w v bs) (hb:Below w.heap.size w w'):BytesAt w' v bs:=Rd.below h hb
def aI (v:Value) (bs:List UInt8):aW:=.sl 5 1 v bs.length (bs.map kY)
theorem rT {bs:List UInt8}:∀u∈bs.map kY,u.oneCell'=true:=fun u hu=>by obtain⟨b,_,rfl⟩:=List.mem_map.1 hu;rfl
theorem mE :(Tryz.prog.info? 5).map (fun i=>(i.zero,i.size,i.bytes))=some (some (.int .u8 0),1,1):=by kernel_rfl
theorem xO :(Tryz.prog.info? 5).map (·.size)=some 1:=by kernel_rfl
theorem iR {e:TypeId} {z:Value} {n b:Nat} (h:(Tryz.prog.info? e).map (fun i=>(i.zero,i.size,i.bytes))=some (some z,n,b)):∃i,Tryz.prog.info? e=some i/\i.zero=some z/\i.size=n/\i.bytes=b:=by
 cases hi:Tryz.prog.info? e with
 |none=>rw[hi]at h;simp at h
 |some i=>rw[hi]at h;simp at h;exact⟨i,rfl,h.1,h.2.1,h.2.2⟩
theorem UT (a:Addr) (n:Nat):(a.add n).block=a.block:=yO a n
def jI (w0:World) (As:List aW) (v:Value) (bs:List UInt8):Prop:=∀w' X,Sep w0 w' (X++As)->BytesAt w' v bs
theorem jI.now {w0 w:World} {As X:List aW} {v:Value} {bs:List UInt8} (h:jI w0 As v bs) (hS:Sep w0 w (X++As)):BytesAt w v bs:=h w X hS
theorem jI.cons {w0:World} {As:List aW} {A:aW} {v:Value} {bs:List UInt8} (h:jI w0 As v bs):jI w0 (A::As) v bs:=fun w' X hS=>h w' (X++[A]) (by simpa using hS)
theorem jI.more {w0:World} {As Y:List aW} {v:Value} {bs:List UInt8} (h:jI w0 As v bs):jI w0 (Y++As) v bs:=fun w' X hS=>h w' (X++Y) (by simpa using hS)
theorem jI.part {w0:World} {As:List aW} {v:Value} {bs:List UInt8} (i:Nat) (h:As[i]? =some (aI v bs)):jI w0 As v bs:=fun w' X hS=>hS.rd (X.length+i) ((vT aD).trans (by rw[J2];exact h))
def oM {α:Type} (l:List α) (o:Nat) (xs:List α):List α:=l.take o++xs++l.drop (o+xs.length)
theorem adB {α:Type} {l xs:List α} {o:Nat} (h:o+xs.length<=l.length):(oM l o xs).length=l.length:=by unfold oM;simp only[jM,qP,rZ];omega
theorem BC {α β:Type} (f:α->β) (l xs:List α) (o:Nat):(oM l o xs).map f=oM (l.map f) o (xs.map f):=by unfold oM;simp
section
variable {w0 w w':World} {As:List aW} {e:TypeId} {n:Nat} {v:Value} {cs:List Value}
theorem Sep.laid {g cap:Nat} (i:Nat) (h:Sep w0 w As) (hi:As[i]? =some (.sl e 1 (sV g n cap) n cs)) (o:Nat) (news:List Value) (hfit:o+news.length<=n):
  ∃cur,w.heap[g]? =some (.cells cur e (0,0))/\o+news.length<=cur.size/\Sep w0 (w.setRow g (cur.toList.take o++news++cur.toList.drop (o+news.length)).toArray) (As.set i (.sl e 1 (sV g n cap) n (oM cs o news))):=by
 obtain⟨F,⟨⟨hl,ho⟩,hF⟩,_⟩:=h.get i hi;rcases ho with⟨h',_⟩|⟨g',cap',cur,h',hb,hg,hc,hm,hs,ht⟩
 ·simp at h'
 simp only[Value.slice.injEq,VQ,Addr.mk.injEq,and_true,true_and]at h';obtain⟨rfl,rfl⟩:=h';rw[zM]at hs ht hl;have hcl:cur.toList.length=cap:=by simpa using hs
 refine⟨cur,hg,by omega,h.step i hi fun F' ⟨_,hF'⟩ _=>⟨F',⟨⟨?_,.inr ⟨g,cap,_,rfl,hb,setRow_heap w g cur _ e _ hg,hc,hm,?_,?_⟩⟩,hF'⟩,fun b hb=>.inl hb,?_⟩⟩
 ·rw[adB aD,hl,zM]
 ·simp only[uB,jM,qP,rZ,hcl];omega
 ·rw[<-ht];unfold oM;simp only[zM];apply GV;intro k;simp only[vV,List.getElem?_append,jM,qP,AV,hcl];by_cases k1:k<o
  ·(have a1:k<min o cap:=by omega);(have a2:k<min o (min n cap):=by omega);(have a3:k<n:=by omega);(have a4:k<min o cap+news.length:=by omega);(have a5:k<min o (min n cap)+news.length:=by omega);simp[a1,a2,a3,a4,a5,k1]
  by_cases k2:k<o+news.length
  ·(have a1:¬k<min o cap:=by omega);(have a2:¬k<min o (min n cap):=by omega);(have a3:k<n:=by omega);(have a4:k<min o cap+news.length:=by omega);(have a5:k<min o (min n cap)+news.length:=by omega);(have a6:min o cap=min o (min n cap):=by omega);simp[a2,a3,a5,a6]
  (have a4:¬k<min o cap+news.length:=by omega);(have a5:¬k<min o (min n cap)+news.length:=by omega);(have a6:o+news.length+(k-(min o cap+news.length))=k:=by omega);(have a7:o+news.length+(k-(min o (min n cap)+news.length))=k:=by omega);simp[a4,a5,a6,a7]
 rw[hF'];exact⟨rfl,rfl,rfl,by simp[World.setRow],fun k _ hn=>setRow_other w g k _ (by simpa[Value.ownBlock,eq_comm]using hn)⟩
theorem Sep.acD {P:Program} {g cap:Nat} (i:Nat) (h:Sep w0 w As) (hi:As[i]? =some (.sl e 1 (sV g n cap) n cs)) (dT sT ty:TypeId) (hu:P.underlying dT=some (.slice e)) (hs:(P.info? e).map (·.size)=some 1)
  (o dLen dCap:Nat) (sv:Value) (m:Nat) (src:List Value) (hr:Rd w 1 sv m src) (h1:∀u∈src,u.oneCell'=true) (hfit:o+min m dLen<=n):
  ∃w',(Builtin.copy_ #[dT,sT] ty #[.slice (some ⟨g,o,none⟩) dLen dCap,sv]).run P w= .ok (goInt (min m dLen:Nat)) w'/\Sep w0 w' (As.set i (.sl e 1 (sV g n cap) n (oM cs o (src.take (min m dLen)))))/\w'.heap.size=w.heap.size:=by
 obtain⟨hl,A,c,rfl,h2,h3,h4⟩:=hr;rw[zM]at hl;have hlen:(src.take (min m dLen)).length=min m dLen:=by rw[qP];omega
 obtain⟨cur,hg,hsz,hS⟩:=h.laid i hi o (src.take (min m dLen)) (by rw[hlen];exact hfit);rcases yL (min m dLen)with h0|h0
 ·have hrun:=run_copy_none (P:=P) w dT sT ty e (some ⟨g,o,none⟩) A dLen dCap m c hu hs (by rw[<-h0]);refine⟨w,?_,?_,rfl⟩
  ·rw[hrun,h0];rfl
  (have e0:oM cs o (src.take (min m dLen))=cs:=by rw[h0];simp[oM]);rw[e0];obtain⟨hlt,e'⟩:=gF.1 hi;rw[<-e',abV];exact h
 obtain⟨ad,rfl,_,hc⟩:=h4 aD;have hrun:=run_copy_row P w dT sT ty e g o dLen dCap ad m c cur e (src.take (min m dLen)) hu hs hg (by rw[hlen]) (fun j u hj=>by
  rw[vV]at hj;split at hj
  ·exact hc j u hj
  cases hj) hsz (fun u hu=>h1 u (AJ hu))
 refine⟨_,by rw[hrun,hlen],hS,by simp[World.setRow]⟩
theorem Sep.V8 {P:Program} {g cap:Nat} (i:Nat) (h:Sep w0 w As) (hi:As[i]? =some (.sl e 1 (sV g n cap) n cs)) (t ty:TypeId) (z:Value) (hu:P.underlying t=some (.slice e)) (hz:∀w,(zeroValue e).run P w= .ok z w) (hz1:z.cells=#[z]) (hz2:z.oneCell'=true)
  (o m c:Nat) (hfit:o+m<=n):
  ∃w',(Builtin.clear_ #[t] ty #[.slice (some ⟨g,o,none⟩) m c]).run P w= .ok (.tuple #[]) w'/\Sep w0 w' (As.set i (.sl e 1 (sV g n cap) n (oM cs o (List.replicate m z))))/\w'.heap.size=w.heap.size:=by
 obtain⟨cur,hg,hsz,hS⟩:=h.laid i hi o (List.replicate m z) (by rw[FL];exact hfit);rcases yL m with h0|h0
 ·subst h0;refine⟨w,?_,?_,rfl⟩
  ·simp[Builtin.clear_,run_underlying hu]
  (have e0:oM cs o (List.replicate 0 z)=cs:=by simp[oM]);rw[e0];obtain⟨hlt,e'⟩:=gF.1 hi;rw[<-e',abV];exact h
 have hzc:(Builtin.zeroCells z.cells m).toList=List.replicate m z:=by
  rw[hz1];simp[Builtin.zeroCells];apply VT
  ·simp
  intro i h1 h2;simp[Nat.mod_one]
 have hst:=run_storeCells_at P g o e (List.replicate m z) 0 cur w hg (by simpa using hsz) (by intro v hv';rw[List.eq_of_mem_replicate hv'];exact hz2);rw[sF]at hst;refine⟨_,?_,hS,by simp[World.setRow]⟩;obtain⟨k,rfl⟩:∃k,m=k+1:=⟨m-1,by omega⟩;simp[Builtin.clear_,run_underlying hu,hz,hzc,hst]
end
end Go.Proofs.YtmjomdkleikgbaaGreat
namespace Go.Proofs.YtmjomdkleikgbaaGreat
def r2 (b:List UInt8) (i:Nat):Nat:=(b.getD i 0).toNat+256*(b.getD (i+1) 0).toNat
def w2 (n:Nat):List UInt8:=[UInt8.ofNat n,UInt8.ofNat (n/256)]
def dR (b:List UInt8) (i:Nat) (xs:List UInt8):List UInt8:=b.take i++xs++b.drop (i+xs.length)
structure VI where
 kind:Nat
 mode:Nat
 links:Nat
 size:Nat
 aB:List Nat
def DJ (b:List UInt8):VI where
 kind:=(b.getD 0 0).toNat
 mode:=r2 b 1
 links:=r2 b 3
 size:=r2 b 5
 aB:=(List.range (b.getD 7 0).toNat).map fun k=>r2 b (8+2*k)
def viE (x:VI):List UInt8:=
 UInt8.ofNat x.kind::(w2 x.mode++w2 x.links++w2 x.size++(UInt8.ofNat x.aB.length::(x.aB.flatMap w2++List.replicate (56-2*x.aB.length) 0)))
structure VI.ok (x:VI):Prop where
 kind:x.kind<256
 mode:x.mode<65536
 links:x.links<65536
 size:x.size<65536
 few:x.aB.length<=28
 spot:∀k∈x.aB,k<65536
theorem sQ (n:Nat):(w2 n).length=2:=rfl
theorem wL (n:Nat):(UInt8.ofNat n).toNat=n%256:=UInt8.toNat_ofNat'
theorem aEE {n:Nat} (h:n<65536) (r:List UInt8):r2 (w2 n++r) 0=n:=by
 show(UInt8.ofNat n).toNat+256*(UInt8.ofNat (n/256)).toNat=n
 rw[wL,wL];omega
theorem V9 (b:List UInt8) (i:Nat):r2 b i<65536:=by unfold r2;have h1:=(b.getD i 0).toNat_lt;have h2:=(b.getD (i+1) 0).toNat_lt;omega
theorem BQ (l:List Nat):(l.flatMap w2).length=2*l.length:=by
 induction l with
 |nil=>rfl
 |cons x r ih=>simp only[xI,jM,sQ,kH,ih];omega
theorem ZQ {x:VI} (h:x.aB.length<=28):(viE x).length=64:=by unfold viE;simp only[kH,jM,sQ,BQ,FL];omega
theorem akL (b:List UInt8) (i j:Nat):r2 (b.drop i) j=r2 b (i+j):=by unfold r2;simp only[gH,AV];congr 2
theorem akM :∀(l:List Nat) (r:List UInt8) (k:Nat),k<l.length->(∀y∈l,y<65536)->r2 (l.flatMap w2++r) (2*k)=l.getD k 0
 |[],_,_,h,_=>absurd h (FO _)
 |x::l,r,0,_,hl=>by rw[xI,pG,Nat.mul_zero,aEE (hl x (nH ..))];rfl
 |x::l,r,k+1,h,hl=>by(have h1:=akM l r k (by simpa using h) fun y hy=>hl y (vR _ hy));(have h2:(l.flatMap w2++r)=((x::l).flatMap w2++r).drop 2:=by rw[xI,pG];rfl);rw[h2,akL]at h1;rw[show 2*(k+1)=2+2*k by omega,h1];rfl
theorem awJ {x:VI} (h:x.ok):DJ (viE x)=x:=by
 obtain⟨h0,h1,h2,h3,h4,h5⟩:=h;have e7:((viE x).getD 7 0).toNat=x.aB.length:=by(show(UInt8.ofNat x.aB.length).toNat=_);rw[wL];omega
 have hs:∀k,k<x.aB.length->r2 (viE x) (8+2*k)=x.aB.getD k 0:=fun k hk=>by have:=akM x.aB (List.replicate (56-2*x.aB.length) 0) k hk h5;rw[<-this,<-akL];rfl
 obtain⟨kind,mode,links,size,aB⟩:=x;simp only at h0 h1 h2 h3 h4 h5 e7 hs;unfold DJ;rw[e7];have m1:r2 (viE ⟨kind,mode,links,size,aB⟩) 1=mode:=by show(UInt8.ofNat mode).toNat+256*(UInt8.ofNat (mode/256)).toNat=mode;rw[wL,wL];omega
 have m2:r2 (viE ⟨kind,mode,links,size,aB⟩) 3=links:=by show(UInt8.ofNat links).toNat+256*(UInt8.ofNat (links/256)).toNat=links;rw[wL,wL];omega
 have m3:r2 (viE ⟨kind,mode,links,size,aB⟩) 5=size:=by show(UInt8.ofNat size).toNat+256*(UInt8.ofNat (size/256)).toNat=size;rw[wL,wL];omega
 have m0:((viE ⟨kind,mode,links,size,aB⟩).getD 0 0).toNat=kind:=by show(UInt8.ofNat kind).toNat=kind;rw[wL];omega
 rw[m0,m1,m2,m3];congr 1;refine VT bK fun k hk hk2=>?_
 rw[G5,aj0,hs k hk2,gH,gE hk2];rfl
def pJ (u:List UInt8) (j:Nat):Bool:=(u.getD (j/8) 0).toNat/2 ^ (j%8)%2==1
def j5 (u:List UInt8) (n:Nat):Option Nat:=(List.range n).find? fun j=> !pJ u j
def orB (x:UInt8) (k:Nat):UInt8:=if x.toNat/2 ^ k%2=1 then x else UInt8.ofNat (x.toNat+2 ^ k)
def clB (x:UInt8) (k:Nat):UInt8:=if x.toNat/2 ^ k%2=1 then UInt8.ofNat (x.toNat-2 ^ k)else x
def kZ (u:List UInt8) (j:Nat):List UInt8:=u.set (j/8) (orB (u.getD (j/8) 0) (j%8))
def yV (u:List UInt8) (j:Nat):List UInt8:=u.set (j/8) (clB (u.getD (j/8) 0) (j%8))
theorem ahC :∀(x:Fin 256) (k i:Fin 8),((orB (UInt8.ofNat x.1) k.1).toNat/2 ^ i.1%2==1)=(decide (i.1=k.1)||(x.1/2 ^ i.1%2==1))/\
  ((clB (UInt8.ofNat x.1) k.1).toNat/2 ^ i.1%2==1)=(!decide (i.1=k.1)&&(x.1/2 ^ i.1%2==1)):=by
 decide+kernel
theorem WL (x:UInt8) (k:Nat) (hk:k<8) (i:Nat) (hi:i<8):((orB x k).toNat/2 ^ i%2==1)=(decide (i=k)||(x.toNat/2 ^ i%2==1))/\
  ((clB x k).toNat/2 ^ i%2==1)=(!decide (i=k)&&(x.toNat/2 ^ i%2==1)):=by
 have:=ahC ⟨x.toNat,x.toNat_lt⟩ ⟨k,hk⟩ ⟨i,hi⟩;simpa using this
theorem awE {u:List UInt8} {j i:Nat} (hj:j/8<u.length):pJ (kZ u j) i=(decide (i=j)||pJ u i):=by
 unfold kZ pJ;by_cases e:i/8=j/8
 ·rw[e,gH,OI hj,GX,(WL _ (j%8) (Nat.mod_lt _ aR) (i%8) (Nat.mod_lt _ aR)).1];congr 1;rw[decide_eq_decide];omega
 rw[gH,abY aD,<-gH];have:decide (i=j)=false:=decide_eq_false (by intro h;exact e (by rw[h]));rw[this,AX]
theorem awG {u:List UInt8} {j i:Nat} (hj:j/8<u.length):pJ (yV u j) i=(!decide (i=j)&&pJ u i):=by
 unfold yV pJ;by_cases e:i/8=j/8
 ·rw[e,gH,OI hj,GX,(WL _ (j%8) (Nat.mod_lt _ aR) (i%8) (Nat.mod_lt _ aR)).2];congr 2;rw[decide_eq_decide];omega
 rw[gH,abY aD,<-gH];have:decide (i=j)=false:=decide_eq_false (by intro h;exact e (by rw[h]));rw[this];rfl
theorem QB (u:List UInt8) (j:Nat):(kZ u j).length=u.length:=J7 ..
theorem QC (u:List UInt8) (j:Nat):(yV u j).length=u.length:=J7 ..
theorem yQ {u:List UInt8} {n j:Nat} (h:j5 u n=some j):j<n/\pJ u j=false/\∀i<j,pJ u i=true:=by unfold j5 at h;rw[ajT]at h;obtain⟨h1,h2,h3⟩:=h;refine⟨List.mem_range.1 h2,by simpa using h1,fun i hi=>by simpa using h3 i hi⟩
theorem QE {u:List UInt8} {n:Nat} (h:j5 u n=none):∀i<n,pJ u i=true:=by unfold j5 at h;intro i hi;have:=wV.1 h i (List.mem_range.2 hi);simpa using this
abbrev gI :=List (List UInt8)
def bk (c:gI) (i:Nat):List UInt8:=c.getD i []
structure kU (n:Nat) (c:gI):Prop where
 len:c.length=n
 size:∀b∈c,b.length=512
theorem jW {n:Nat} {c:gI} (h:kU n c) {i:Nat} (hi:i<n):(bk c i).length=512:=by
 unfold bk;have hi':i<c.length:=by rw[h.len];exact hi
 rw[gH,gE hi'];exact h.size _ (nW hi')
theorem BG (c:gI) (i j:Nat) (x:List UInt8) (hi:i<c.length):bk (c.set i x) j=if j=i then x else bk c j:=by
 unfold bk;by_cases e:j=i
 ·subst e;rw[if_pos rfl,gH,OI hi];rfl
 rw[if_neg e,gH,abY (fun h=>e h.symm),<-gH]
theorem kU.set {n:Nat} {c:gI} (h:kU n c) (i:Nat) {x:List UInt8} (hx:x.length=512):kU n (c.set i x):=
 ⟨by rw[J7];exact h.len,fun b hb=>by
  rcases List.mem_or_eq_of_mem_set hb with h1|h1
  ·exact h.size b h1
  rw[h1];exact hx⟩
def aH (c:gI) (n:Nat):VI:=DJ (((bk c (2+n/8)).drop (n%8*64)).take 64)
def vC (c:gI) (n:Nat) (x:VI):gI:=c.set (2+n/8) (dR (bk c (2+n/8)) (n%8*64) (viE x))
theorem fP {b xs:List UInt8} {i:Nat} (h:i+xs.length<=b.length):(dR b i xs).length=b.length:=by unfold dR;simp only[jM,qP,rZ];omega
theorem WJ {b xs:List UInt8} {i:Nat} (h:i+xs.length<=b.length):((dR b i xs).drop i).take xs.length=xs:=by unfold dR;rw[pG,apS (by rw[qP];omega),abQ (by rw[qP];omega),mI];exact List.take_left
theorem uR {b xs:List UInt8} {i:Nat} (h:i+xs.length<=b.length) (k:Nat):(dR b i xs)[k]? =if i<=k/\k<i+xs.length then xs[k-i]? else b[k]? :=by
 unfold dR;by_cases h1:k<i
 ·rw[if_neg aD,pG,EI (by rw[qP];omega),vV,if_pos h1]
 by_cases h2:k<i+xs.length
 ·rw[if_pos ⟨by omega,h2⟩,EI (by rw[jM,qP];omega),vT (by rw[qP];omega),qP,yN aD]
 rw[if_neg aD,vT (by rw[jM,qP];omega),jM,qP,yN aD,AV];congr 1;omega
theorem amO {nb:Nat} {c:gI} (hc:kU nb c) {n:Nat} (hn:2+n/8<nb) {x:VI} (hx:x.ok) (m:Nat):aH (vC c n x) m=if m=n then x else aH c m:=by
 have hl:=jW hc hn;have hv:=ZQ hx.few;have hr:n%8*64+(viE x).length<=(bk c (2+n/8)).length:=by rw[hl,hv];omega
 unfold aH vC;rw[BG _ _ _ _ (by rw[hc.len];exact hn)];by_cases e:m=n
 ·subst e;rw[if_pos rfl,if_pos rfl];have:=WJ hr;rw[hv]at this;rw[this,awJ hx]
 rw[if_neg e];by_cases e2:2+m/8=2+n/8
 ·rw[if_pos e2];congr 1;apply GV;intro k;rw[vV,vV];by_cases hk:k<64
  ·rw[if_pos hk,if_pos hk,AV,AV,uR hr,hv,if_neg aD,e2]
  rw[if_neg hk,if_neg hk]
 rw[if_neg e2]
theorem aqU {nb:Nat} {c:gI} (hc:kU nb c) {n:Nat} (hn:2+n/8<nb) {x:VI} (hx:x.aB.length<=28):kU nb (vC c n x):=by have hl:=jW hc hn;have hv:=ZQ hx;exact hc.set _ (by rw[fP (by rw[hl,hv];omega),hl])
open Go.RowKit
theorem lL {c:gI} (h:∀b∈c,b.length=512):c.flatten.length=512*c.length:=by
 induction c with
 |nil=>rfl
 |cons b r ih=>rw[vW,jM,ih fun x hx=>h x (vR _ hx),h b (nH ..),kH];omega
theorem IM :∀ {c:gI} {i:Nat},(∀b∈c,b.length=512)->i<c.length->(c.flatten.drop (512*i)).take 512=bk c i
 |[],_,_,hi=>absurd hi (FO _)
 |b::r,0,h,_=>by rw[vW,Nat.mul_zero,ab5,<-h b (nH ..),List.take_left];rfl
 |b::r,i+1,h,hi=>by have:=IM (c:=r) (i:=i) (fun x hx=>h x (vR _ hx)) (by simpa using hi);rw[vW,show 512*(i+1)=b.length+512*i by rw[h b (nH ..)];omega,<-L6,G7,this];rfl
theorem BR :∀ {c:gI} {i:Nat} {x:List UInt8},(∀b∈c,b.length=512)->x.length=512->i<c.length->oM c.flatten (512*i) x=(c.set i x).flatten
 |[],_,_,_,_,hi=>absurd hi (FO _)
 |b::r,0,x,h,hx,_=>by rw[vW,GU,vW];unfold oM;rw[Nat.mul_zero,OO,mI,GZ,hx,<-h b (nH ..),G7]
 |b::r,i+1,x,h,hx,hi=>by have:=BR (c:=r) (i:=i) (x:=x) (fun y hy=>h y (vR _ hy)) hx (by simpa using hi);rw[vW,M6,vW,<-this];unfold oM;(have e:512*(i+1)=b.length+512*i:=by rw[h b (nH ..)];omega);(have e2:512*(i+1)+x.length=b.length+(512*i+x.length):=by rw[e,sD]);rw[e2,e,List.take_append,pM aD,J2,<-L6,G7,pG,pG,pG]
theorem adC {c:gI} {i j:Nat} (h:∀b∈c,b.length=512) (hi:i<c.length) (hj:j<512):c.flatten[512*i+j]? =(bk c i)[j]? :=by have:=congrArg (fun l:List UInt8=>l[j]?) (IM h hi);simp only[vV,if_pos hj,AV]at this;exact this
structure DK where
 now:gI
 fast:gI
 back:List (Nat×List UInt8)
 off:Bool
 left:Int
structure DK.ok (nb:Nat) (D:DK):Prop where
 now:kU nb D.now
 fast:kU nb D.fast
 few:nb<=4096
 some:1<=nb
 back:∀x∈D.back,x.1<nb/\x.2.length=512
 left: -1<=D.left/\D.left<=9223372036854775807
def DK.step (D:DK):DK:=if 0<D.left then {D with left:=D.left-1,off:=decide (D.left=1)} else D
def DK.wr (D:DK) (i:Nat) (b:List UInt8):DK:=DK.step {D with now:=D.now.set i b,back:=D.back++[(i,b)]}
def lG (c:gI) (l:List (Nat×List UInt8)):gI:=l.foldl (fun c x=>c.set x.1 x.2) c
def DK.fl (D:DK):DK:=DK.step {D with fast:=lG D.fast D.back,back:=[]}
abbrev tO :=Option (Nat×List UInt8)
def DK.act (D:DK):tO->DK
 |some x=>D.wr x.1 x.2
 |none=>D.fl
def kT :List tO->DK->DK×Bool
 |[],D=>(D,true)
 |a::l,D=>if D.off=true then(D,false)else kT l (D.act a)
theorem MR (xs ys:List tO) (D:DK):kT (xs++ys) D=if(kT xs D).2=true then kT ys (kT xs D).1 else kT xs D:=by
 induction xs generalizing D with
 |nil=>rfl
 |cons a xs ih=>
  rw[kI,kT,kT];by_cases h:D.off=true
  ·rw[if_pos h,if_pos h];rfl
  rw[if_neg h,if_neg h];exact ih _
theorem DK.step_ok {nb:Nat} {D:DK} (h:D.ok nb):D.step.ok nb:=by
 unfold DK.step;split
 ·rename_i hl;obtain⟨a,b,c,d,e,f⟩:=h;exact⟨a,b,c,d,e,by simp only;omega⟩
 exact h
theorem DX {nb:Nat}:∀ {l:List (Nat×List UInt8)} {c:gI},kU nb c->(∀x∈l,x.1<nb/\x.2.length=512)->kU nb (lG c l)
 |[],_,h,_=>h
 |x::l,c,h,hl=>DX (l:=l) (h.set x.1 (hl x (nH ..)).2) fun y hy=>hl y (vR _ hy)
theorem DK.akN {nb:Nat} {D:DK} (h:D.ok nb) {i:Nat} {b:List UInt8} (hi:i<nb) (hb:b.length=512):(D.wr i b).ok nb:=by
 obtain⟨h1,h2,h3,h4,h5,h6⟩:=h;refine DK.step_ok ⟨h1.set _ hb,h2,h3,h4,fun x hx=>?_,h6⟩;rcases iM.1 hx with hx|hx
 ·exact h5 x hx
 rw[tJ]at hx;subst hx;exact⟨hi,hb⟩
theorem DK.azF {nb:Nat} {D:DK} (h:D.ok nb):D.fl.ok nb:=by obtain⟨h1,h2,h3,h4,h5,h6⟩:=h;exact DK.step_ok ⟨h1,DX h2 h5,h3,h4,fun x hx=>(EK hx).elim,h6⟩
theorem akA {nb:Nat}:∀ {l:List tO} {D:DK},D.ok nb->(∀x∈l,∀i b,x=some (i,b)->i<nb/\b.length=512)->(kT l D).1.ok nb
 |[],_,h,_=>h
 |a::l,D,h,hl=>by
  rw[kT];split
  ·exact h
  (refine akA ?_ fun x hx=>hl x (vR _ hx));cases a with
  |none=>exact DK.azF h
  |some x=>have:=hl (some x) (nH ..) x.1 x.2 rfl;exact DK.akN h this.1 this.2
def BS (x:(Nat×List UInt8)×Value) (i:Nat):List Value:=[.int .i64 (x.1.1:Int),x.2,.int .i64 (i:Int)]
def eT (l:List (Nat×List UInt8)) (us:List Value):List Value:=(l.zip us).zipIdx.flatMap fun x=>BS x.1 x.2
def FB (v:Value) (l:List (Nat×List UInt8)):aW:=
 .ex fun us:List Value=>.star (.pure (us.length=l.length)) (.star (.sl 143 3 v l.length (eT l us)) (.dU (List.zipWith (fun u (x:Nat×List UInt8)=>aI u x.2) us l)))
def iE (p:Nat) (vn vf vb:Value) (off:Bool) (left:Int):aW:=.box p 122 #[vn,vf,vb,.bool off,iV left]
def aO (p:Nat) (D:DK):aW:=
 .ex fun vs:Value×Value×Value=>.dU [iE p vs.1 vs.2.1 vs.2.2 D.off D.left,aI vs.1 D.now.flatten,aI vs.2.1 D.fast.flatten,FB vs.2.2 D.back]
section
variable {w0 w w':World} {As R:List aW}
theorem Sep.uH {p:Nat} {D:DK} (h:Sep w0 w (aO p D::R)):∃vn vf vb,Sep w0 w (iE p vn vf vb D.off D.left::aI vn D.now.flatten::aI vf D.fast.flatten::FB vb D.back::R):=by obtain⟨vs,h⟩:=h.NP;exact⟨vs.1,vs.2.1,vs.2.2,h.bG⟩
theorem Sep.uI {p:Nat} {D:DK} {vn vf vb:Value} (h:Sep w0 w (iE p vn vf vb D.off D.left::aI vn D.now.flatten::aI vf D.fast.flatten::FB vb D.back::R)):Sep w0 w (aO p D::R):=
 Sep.NQ (vn,vf,vb) (Sep.dC (As:=[iE p vn vf vb D.off D.left,aI vn D.now.flatten,aI vf D.fast.flatten,FB vb D.back]) h)
end
structure azG (w:World) (p:Nat) (vn vf vb:Value) (off:Bool) (left:Int):Prop where
 c0:w.cell? ⟨p,0,none⟩=some vn
 c1:w.cell? ⟨p,1,none⟩=some vf
 c2:w.cell? ⟨p,2,none⟩=some vb
 c3:w.cell? ⟨p,3,none⟩=some (.bool off)
 c4:w.cell? ⟨p,4,none⟩=some (iV left)
 fz:∀j,w.frozen? ⟨p,j,none⟩=false
theorem Sep.wO {w0 w:World} {As:List aW} {p:Nat} {vn vf vb:Value} {off:Bool} {left:Int} (i:Nat) (h:Sep w0 w As) (hi:As[i]? =some (iE p vn vf vb off left)):azG w p vn vf vb off left:=
 ⟨h.bC i hi 0,h.bC i hi 1,h.bC i hi 2,h.bC i hi 3,h.bC i hi 4,fun j=>h.bF i hi j⟩
theorem QS {g c n i:Nat} (hn:512*(i+1)<=n) (hc:n<=c) (hm:c<=maxLen) (hn4:n<=4194304) (w:World):
  Calls Tryz.prog 81 #[sV g n c,iV i] w fun e w'=>e= .returned (.slice (some ⟨g,512*i,none⟩) 512 512)/\w'=w:=by
 have b0:(0:Int)<=i:=by omega
 have b1:(i:Int)*512+512<=n:=by omega
 have b2:(n:Int)<=c:=by omega
 have b3:(c:Int)<=9223372036854775807:=by unfold maxLen at hm;omega
 have b8:(n:Int)<=4194304:=by omega
 have b4:(0:Int)<=(i:Int)*512:=by omega
 have b5:(i:Int)*512<=((i:Int)+1)*512:=by omega
 have b6:((i:Int)+1)*512<=c:=by omega
 have b7:(0:Int)<=((i:Int)+1)*512:=by omega
 go_enter Tryz.func81,Tryz.ntmps81;go_wp2_with fail;all_goals go_ret
 all_goals
  refine⟨?_,rfl⟩
  rw[show(i+1)*512-i*512=512 by omega,show i*512=512*i by omega]
  rfl
theorem QT {w:World} {p:Nat} {A:Option Addr} {n c nb:Nat} (hc:w.cell? ⟨p,0,none⟩=some (.slice A n c)) (hn:n=512*nb) (hb:nb<=4096):
  Calls Tryz.prog 94 #[pV p] w fun e w'=>e= .returned (iV nb)/\w'=w:=by
 have b0:(n:Int)=512*nb:=by omega
 have b1:(nb:Int)<=4096:=by omega
 have e0:Int.tdiv (n:Int) 512=nb:=by rw[abK aD];omega
 have b2:(0:Int)<=nb:=by omega
 go_enter Tryz.func94,Tryz.ntmps94;go_wp2_with fail;go_ret;exact⟨rfl,rfl⟩
theorem akO {w:World} {p:Nat} {A:Option Addr} {n c nb i:Nat} {vf vb:Value} {off:Bool} {left:Int} (hC:azG w p (.slice A n c) vf vb off left) (hn:n=512*nb) (hb:nb<=4096) (hi:i<nb):
  Calls Tryz.prog 258 #[pV p,iV i] w fun e w'=>e= .returned (iV (if off=true then 11 else 0))/\w'=w:=by
 have b0:(0:Int)<=i:=by omega
 have b1:(i:Int)<nb:=by omega
 have hbl:=QT hC.c0 hn hb;have h3:=hC.c3;clear hC;go_enter Tryz.func258,Tryz.ntmps258;cases off;all_goals
  go_wp2_with(go_at_call 94;refine hbl.mono ?_;rintro e w' ⟨rfl,rfl⟩)
  go_ret
  exact⟨rfl,rfl⟩
theorem aq4 {w0 w:World} {R:List aW} {p:Nat} {vn vf vb:Value} {off:Bool} {left:Int} (h:Sep w0 w (iE p vn vf vb off left::R)) (hl: -1<=left/\left<=9223372036854775807):
  Calls Tryz.prog 257 #[pV p] w fun e w'=>e= .returned (iV 0)/\Sep w0 w' (iE p vn vf vb (if 0<left then decide (left=1)else off) (if 0<left then left-1 else left)::R):=by
 have hC:=h.wO 0 rfl;have c4:=hC.c4;have f3:=hC.fz 3;have f4:=hC.fz 4;have c3:=hC.c3;have h1:=h.bS 0 rfl 4 (.int .i64 (left-1));have h1C:=Sep.wO (vn:=vn) (vf:=vf) (vb:=vb) (off:=off) (left:=left-1) 0 h1 rfl;have d4:=h1C.c4;have d3:=h1C.c3;have g3:=h1C.fz 3;have h2:=h1.bS 0 rfl 3 (.bool (decide (left=1)));clear hC h1C;by_cases hp:0<left
 ·have hp1:IntKind.i64.wrap (left-1)=left-1:=IntWalk.i64_in _ aD;have hp2:decide (left-1=0)=decide (left=1):=decide_eq_decide.2 aD;have hp3:(left-1==0)=decide (left=1):=by
   by_cases e:left=1
   ·subst e;rfl
   rw[decide_eq_false e];exact jU.2 aD
  rw[if_pos hp,if_pos hp];go_enter Tryz.func257,Tryz.ntmps257;go_wp2_with fail;(all_goals go_ret);all_goals exact⟨rfl,h2⟩
 rw[if_neg hp,if_neg hp];go_enter Tryz.func257,Tryz.ntmps257;go_wp2_with fail;all_goals go_ret
 exact⟨rfl,h⟩
theorem awM {w:World} {g n c i nb:Nat} {l:gI} (h:BytesAt w (sV g n c) l.flatten) (hl:kU nb l) (hi:i<nb):Rd w 1 (.slice (some ⟨g,512*i,none⟩) 512 512) 512 ((bk l i).map kY):=by
 have hb:=jW hl hi;have hfl:=lL hl.size;have hil:i<l.length:=by rw[hl.len];exact hi
 obtain⟨hll,A,c',e,h1,h2,h3⟩:=h;cases e;obtain⟨ad,e,hbk,hc⟩:=h3 (by rw[hfl];omega);cases e;refine⟨by rw[iJ,hb],_,_,rfl,iC _,by simp[maxLen],fun _=>⟨_,rfl,hbk,fun j u hj=>?_⟩⟩;have hj5:j<512:=by have:=(gF.1 hj).1;rw[iJ,hb]at this;exact this
 rw[Addr.add_lit];rw[lC,<-adC hl.size hil hj5,<-lC]at hj;have:=hc _ _ hj;rw[Addr.add_lit]at this;simpa using this
theorem Sep.yX {w0 w:World} {As:List aW} {v:Value} {bs:List UInt8} (i:Nat) (h:Sep w0 w As) (hi:As[i]? =some (aI v bs)) (hn:0<bs.length):∃g n cap,v=sV g n cap/\Hid (n=bs.length)/\n<=cap/\cap<=maxLen:=by obtain⟨g,cap,e,_,_,h1,h2⟩:=h.kC i hi hn;exact⟨g,_,cap,e,Lh rfl,h1,h2⟩
theorem bV {v:Value} {bs:List UInt8} {n:Nat} (h:bs.length=n):aI v bs= .sl 5 1 v n (bs.map kY):=by unfold aI;rw[h]
theorem WM {w0 w:World} {As:List aW} {g n c:Nat} {e:TypeId} {sz:Nat} {cs:List Value} (i:Nat) (h:Sep w0 w As) (hi:As[i]? =some (.sl e sz (sV g n c) n cs)):n<=c/\c<=maxLen:=by obtain⟨A,cap,e,h1,h2,_⟩:=h.gL i hi;cases e;exact⟨h1,h2⟩
theorem amX {w0 w:World} {R:List aW} {p nb i:Nat} {D:DK} (hD:D.ok nb) (hi:i<nb) (h:Sep w0 w (aO p D::R)):
  Calls Tryz.prog 255 #[pV p,iV i] w fun e w'=>
   (D.off=true/\e= .returned (.tuple #[.slice none 0 0,iV 11])/\Sep w0 w' (aO p D::R))\/
   (D.off=false/\∃v,e= .returned (.tuple #[v,iV 0])/\Sep w0 w' (aI v (bk D.now i)::aO p D::R)):=by
 obtain⟨k0,pR,hk0,hk1,hk2⟩:=iR mE
 obtain⟨vn,vf,vb,h⟩:=h.uH
 have hfl:=lL hD.now.size
 have hlen:=hD.now.len
 have l7:=hD.few
 have hb:=jW hD.now hi
 obtain⟨g,n,c,rfl,hnl,hc,hm⟩:=h.yX 1 rfl aD
 have hn:n=512*nb:=by rw[hnl.out,hfl,hlen]
 have hC:=Lh (h.wO 0 rfl)
 have hth:=akO hC.out hn l7 hi
 have KP:=fun W=>QS (g:=g) (c:=c) (n:=n) (i:=i) aD hc hm aD W
 have hrd:=Lh (awM (h.rd 1 rfl) hD.now hi)
 have c0:=hC.out.c0
 have hS:=Lh (h.gZ 5 1)
 have h':=Lh h
 clear hfl hlen hn
 cases hoff:D.off with
 |true=>
  rw[hoff]at hth;clear KP hrd hS hC h;go_enter Tryz.func255,Tryz.ntmps255;go_wp2_with(go_at_call 258;refine hth.mono ?_;rintro e w' ⟨rfl,rfl⟩)
  go_ret2
  exact .inl ⟨trivial,rfl,h'.out.uI⟩
 |false=>
  rw[hoff]at hth;clear hC h;go_enter Tryz.func255,Tryz.ntmps255;go_wp2_with(first |(go_at_call 258;refine hth.mono ?_;rintro e w' ⟨rfl,rfl⟩)|(go_at_call 81;refine(KP _).mono ?_;rintro e w' ⟨rfl,rfl⟩;clear KP hth)|(at_builtin;refine dI 0 rfl _ _ 69 rfl 5 k0 (.int .u8 0) 1 1 Tryz.underlying69 pR hk0 hk1 hk2 rfl aR hS.out _ 0 [] rfl rfl (.slice (some ⟨g,512*i,none⟩) 512 512) 512 ((bk D.now i).map kY) rfl hrd.out rT vX aD ?_;intro v3 w3 dQ hz3))
  go_ret2
  refine .inr ⟨trivial,v3,rfl,?_⟩;(have h9:Sep w0 w3 (aI v3 (bk D.now i)::iE p (sV g n c) vf vb D.off D.left::aI (sV g n c) D.now.flatten::aI vf D.fast.flatten::FB vb D.back::R):=by rw[bV hb];exact dQ);have h10:=Sep.uI (Sep.dB [1,2,3,4,0] h9 aR bK);exact Sep.dB [1,0] h10 aR bK
end Go.Proofs.YtmjomdkleikgbaaGreat
