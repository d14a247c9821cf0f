/- Parted, laid together. -/
import Derived.Test.YtimkjnbihlgbiaaGreatJ4
import Derived.Deep.LoopGhost
import Derived.Deep.Cut
namespace Go.Proofs.YtimkjnbihlgbiaaGreat
open Go.RowKit
set_option linter.unusedVariables false
open Tarjan (St Inv upd)
def arr (g n:Nat) (f:Nat→Int):Asn:=.sl 3 1 (.slice (some ⟨g,0,none⟩) n n) n ((List.range n).map fun v=>Value.int .i64 (f v))
theorem map_range_set {α:Type} (n:Nat) (f:Nat→α) (k:Nat) (x:α):((List.range n).map f).set k x=(List.range n).map (fun v=>if v=k then x else f v):=by
 apply List.ext_getElem?;intro i;rw[List.getElem?_set];by_cases hi:i<n
 ·by_cases e:k=i
  ·subst e;simp[hi]
  simp[hi,e,Ne.symm e]
 by_cases e:k=i
 ·subst e;simp[hi]
 simp[hi,e]
theorem arr_set (g n:Nat) (f:Nat→Int) (k:Nat) (x:Int):Asn.sl 3 1 (.slice (some ⟨g,0,none⟩) n n) n (((List.range n).map fun v=>Value.int .i64 (f v)).set k (.int .i64 x))=arr g n (upd f k x):=by rw[map_range_set,arr];congr 1;apply List.map_congr_left;intro v _;simp only[upd];split<;>rfl
def fl (D:List (Nat×Nat)):List (Int×Int):=D.reverse.map fun p=>((p.1:Int),(p.2:Int))
def ol (O:List Nat):List Int:=O.reverse.map fun(v:Nat)=>(v:Int)
theorem fl_cons (p:Nat×Nat) (D:List (Nat×Nat)):fl (p::D)=fl D++[((p.1:Int),(p.2:Int))]:=by simp[fl]
theorem ol_cons (k:Nat) (O:List Nat):ol (k::O)=ol O++[(k:Int)]:=by simp[ol]
theorem fl_length (D:List (Nat×Nat)):(fl D).length=D.length:=by simp[fl]
theorem ol_length (O:List Nat):(ol O).length=O.length:=by simp[ol]
def PS (w0 w:World) (n:Nat) (s:St) (O:List Nat) (D:List (Nat×Nat)) (gs gl go bd bo:Nat):Prop:=
 ∃dv ov,Sep w0 w [arr gs n (fun v=>(s.seen v:Int)),arr gl n (fun v=>(s.low v:Int)),arr go n s.of,.box bd 160 #[dv],framesR dv (fl D),.box bo 162 #[ov],intsR ov (ol O)]
theorem field_frame (x y:Int) (w:World):(Instr.field 166 (.agg #[.int .i64 x,.int .i64 y]) 0).run Tryz.prog w= .ok (.int .i64 x) w:=by kernel_rfl
theorem PS.popped {w0 w:World} {n:Nat} {s:St} {O:List Nat} {r:List (Nat×Nat)} {gs gl go bd bo:Nat} {dv ov:Value}
  (h:Sep w0 w [.box bd 160 #[dv],framesR dv (fl r),arr gs n (fun v=>(s.seen v:Int)),arr gl n (fun v=>(s.low v:Int)),arr go n s.of,.box bo 162 #[ov],intsR ov (ol O)]):PS w0 w n s O r gs gl go bd bo:=
 ⟨dv,ov,h.sel [2,3,4,0,1,5,6] (by decide) (by simp)⟩
def ksP (nv i8 fv kv:Value) (n count now:Nat) (root:Int) (gs gl go bd bo:Nat):List Value:=
 [nv,undef,.slice none 0 0,.int .i64 0,.int .i64 n,.slice (some ⟨gs,0,none⟩) n n,.slice (some ⟨gl,0,none⟩) n n,.slice (some ⟨go,0,none⟩) n n,i8,.pointer (some ⟨bd,0,none⟩),.pointer (some ⟨bo,0,none⟩),.int .i64 count,.int .i64 now,.int .i64 root,fv,kv]
def scopeOf :Option Code→Code
 |some (.seq _ (.scope c))=>c
 |_=>.skip
noncomputable def partedScope :Code:=scopeOf Tryz.f76.body
def stripSkip :Code→Code
 | .seq .skip c=>c
 |c=>c
noncomputable def partedAt (l:Nat):Code:=stripSkip ((findLabel partedScope l).getD .skip)
def JP (xss:List (List Int)) (w0:World) (nv:Value) (gs gl go bd bo:Nat) (m l:Nat) (a:Act) (w:World):Prop:=
 ∃(s:St) (O:List Nat) (D:List (Nat×Nat)) (act:Bool) (root:Int) (i8 fv kv:Value),
  Fm 175 a (ksP nv i8 fv kv xss.length s.count s.now root gs gl go bd bo)∧PS w0 w xss.length s O D gs gl go bd bo∧Inv (adjOf xss) xss.length s O D act∧
  m=Tarjan.work (adjOf xss) xss.length s.seen D+((xss.length:Int)-1-root).toNat∧
  ((l=0∧D=[]∧ -1≤root∧root<xss.length∧∀v:Nat,(v:Int)≤root→0<s.seen v)∨
   (l=1∧0≤root∧root<xss.length∧(∃k:Nat,kv= .int .i64 k∧k<xss.length∧s.seen k=0∧(D=[]∨(act=true∧∀d a r,D=(d,a)::r→(adjOf xss d)[a-1]? =some k))∧∀v:Nat,(v:Int)≤root→v≠k→0<s.seen v))∨
   (l=2∧D≠[]∧act=false∧0≤root∧root<xss.length∧∀v:Nat,(v:Int)≤root→0<s.seen v))
theorem arr_at {w0 w:World} {As:List Asn} {g n:Nat} {f:Nat→Int} (i:Nat) (h:Sep w0 w As) (hi:As[i]? =some (arr g n f)) (k:Nat) (hk:k<n):w.cell? ⟨g,k,none⟩=some (.int .i64 (f k)):=by rw[h.cellAt i hi k (by omega)];simp[hk]
def PT (w0 w:World) (n:Nat) (s:St) (O:List Nat) (r:List (Nat×Nat)) (gs gl go bd bo gd cap:Nat) (ov:Value) (d a:Nat):Prop:=
 Sep w0 w [arr gs n (fun v=>(s.seen v:Int)),arr gl n (fun v=>(s.low v:Int)),arr go n s.of,.box bd 160 #[.slice (some ⟨gd,0,none⟩) (r.length+1) cap],
  .sl 166 2 (.slice (some ⟨gd,0,none⟩) (r.length+1) cap) (r.length+1) (fcells (fl r)++[.int .i64 d,.int .i64 a]),.box bo 162 #[ov],intsR ov (ol O)]
theorem PS.top {w0 w:World} {n:Nat} {s:St} {O:List Nat} {d a:Nat} {r:List (Nat×Nat)} {gs gl go bd bo:Nat} (h:PS w0 w n s O ((d,a)::r) gs gl go bd bo):
  ∃gd cap ov,PT w0 w n s O r gs gl go bd bo gd cap ov d a:=by
 obtain⟨dv,ov,hS⟩:=h;rw[fl_cons]at hS;obtain⟨gd,cap,rfl,_,_,_,_⟩:=hS.sl_form 4 rfl (by simp);refine⟨gd,cap,ov,?_⟩;simpa[PT,framesR,fcells_append,fcells,fl_length]using hS
theorem PT.back {w0 w:World} {n:Nat} {s:St} {O:List Nat} {d a:Nat} {r:List (Nat×Nat)} {gs gl go bd bo gd cap:Nat} {ov:Value} (h:PT w0 w n s O r gs gl go bd bo gd cap ov d a):
  PS w0 w n s O ((d,a)::r) gs gl go bd bo:=
 ⟨.slice (some ⟨gd,0,none⟩) (r.length+1) cap,ov,by rw[fl_cons];simpa[PT,framesR,fcells_append,fcells,fl_length]using h⟩
section
variable {w0 w:World} {n:Nat} {s:St} {O:List Nat} {d a:Nat} {r:List (Nat×Nat)} {gs gl go bd bo gd cap:Nat} {ov:Value}
theorem PT.flen (r:List (Nat×Nat)):(fcells (fl r)).length=r.length*2:=by rw[fcells_length,fl_length]
theorem PT.cell0 (h:PT w0 w n s O r gs gl go bd bo gd cap ov d a):w.cell? ⟨gd,r.length*2,none⟩=some (.int .i64 d):=by rw[h.cellAt 4 rfl _ (by omega),List.getElem?_append_right (by rw[PT.flen];omega),PT.flen,Nat.sub_self];rfl
theorem PT.cell1 (h:PT w0 w n s O r gs gl go bd bo gd cap ov d a):w.cell? ⟨gd,r.length*2+1,none⟩=some (.int .i64 a):=by rw[h.cellAt 4 rfl _ (by omega),List.getElem?_append_right (by rw[PT.flen];omega),PT.flen,show r.length*2+1-r.length*2=1 by omega];rfl
theorem PT.free1 (h:PT w0 w n s O r gs gl go bd bo gd cap ov d a):w.frozen? ⟨gd,r.length*2+1,none⟩=false:=h.frozenAt 4 rfl _
theorem PT.bump (h:PT w0 w n s O r gs gl go bd bo gd cap ov d a):PT w0 (w.setCell ⟨gd,r.length*2+1,none⟩ (.int .i64 ((a:Int)+1))) n s O r gs gl go bd bo gd cap ov d (a+1):=by have h1:=h.stored 4 rfl (r.length*2+1) (.int .i64 ((a:Int)+1));rw[List.set_append_right _ _ (by rw[PT.flen];omega),PT.flen,show r.length*2+1-r.length*2=1 by omega]at h1;exact h1
theorem arr_upd (g n:Nat) (f:Nat→Nat) (k x:Nat):arr g n (upd (fun v=>(f v:Int)) k x)=arr g n (fun v=>((upd f k x v:Nat):Int)):=by congr 1;funext v;simp only[upd];split<;>rfl
theorem PT.setLow (h:PT w0 w n s O r gs gl go bd bo gd cap ov d a) (j x:Nat):PT w0 (w.setCell ⟨gl,j,none⟩ (.int .i64 x)) n {s with low:=upd s.low j x} O r gs gl go bd bo gd cap ov d a:=by have h1:=h.stored 1 rfl j (.int .i64 x);simp only[List.set_cons_succ,List.set_cons_zero]at h1;rw[arr_set,arr_upd]at h1;exact h1
theorem PT.setOf (h:PT w0 w n s O r gs gl go bd bo gd cap ov d a) (j:Nat) (x:Int):PT w0 (w.setCell ⟨go,j,none⟩ (.int .i64 x)) n {s with of:=upd s.of j x} O r gs gl go bd bo gd cap ov d a:=by have h1:=h.stored 2 rfl j (.int .i64 x);simp only[List.set_cons_succ,List.set_cons_zero]at h1;rw[arr_set]at h1;exact h1
theorem PT.drewN (h:PT w0 w n s O r gs gl go bd bo gd cap ov d a) (q:Nat):PT w0 (w.drewN q) n s O r gs gl go bd bo gd cap ov d a:=Sep.drewN h q
end
set_option maxRecDepth 100000 in
set_option maxHeartbeats 400000 in
theorem look_new {xss:List (List Int)} {w0 w:World} {nv:Value} {gs gl go bd bo:Nat} {s:St} {O:List Nat} {d a:Nat} {r:List (Nat×Nat)} {root:Int} {Q:Exit→Act→World→Prop} {ac:Act} {i8 fv kv:Value}
  (hl:xss.length≤1024) (hn:RowsAt w nv xss) (hf:Fm 175 ac (ksP nv i8 fv kv xss.length s.count s.now root gs gl go bd bo)) (hP:PS w0 w xss.length s O ((d,a)::r) gs gl go bd bo)
  (hd:d<xss.length) (ha:a<(xss[d]).length) (hlr:(xss[d]).length≤1024) (k:Nat) (hk:xss[d][a]=(k:Int)) (hkn:k<xss.length) (h0:s.seen k=0) (hr:r.length≤100000)
  (hQ:∀ac' w' fv',Fm 175 ac' (ksP nv i8 fv' (.int .i64 k) xss.length s.count s.now root gs gl go bd bo)→PS w0 w' xss.length s O ((d,a+1)::r) gs gl go bd bo→Q (.goto 1) ac' w'):
  (partedAt 2).wp Tryz.prog Q ac w:=by
 obtain⟨f,rfl⟩:=hf.lit (m:=159) rfl;obtain⟨gd,cap,ov,hS⟩:=hP.top;obtain⟨ad,c',u,rfl,h3,h4⟩:=hn.at_ hd;obtain⟨ad',c'',rfl,h5⟩:=h4.at_ ha;have ht:=top_frame bd gd cap (r.length+1) (by omega) (by omega) (Sep.sel [3,0,1,2] hS (by decide) (by simp));rw[Nat.add_sub_cancel]at ht;have c0:=hS.cell0;have c1:=hS.cell1;have fz:=hS.free1;have hsk:∀q,((w.drewN q).setCell ⟨gd,r.length*2+1,none⟩ (.int .i64 ((a:Int)+1))).cell? ⟨gs,k,none⟩=some (.int .i64 0):=fun q=>by rw[arr_at 0 (hS.drewN q).bump rfl k hkn,h0];rfl
 rw[hk]at h5;have b1:(0:Int)≤(d:Int):=by omega
 have b2:(d:Int)<(xss.length:Int):=by omega
 have b3:(0:Int)≤(a:Int):=by omega
 have b4:(a:Int)<((xss[d]).length:Int):=by omega
 have b5:(k:Int)<(xss.length:Int):=by omega
 have hQ':=Lh hQ;clear hQ hf hk h0;simp only[ksP,lits,Nat.reduceAdd,List.cons_append,List.nil_append]
 conv=>arg 2;whnf
 go_wp2_with(go_at_call 105;refine ht.mono ?_;rintro e w' ⟨rfl,n1,rfl⟩);go_quiet (fail);go_wp2_with fail;go_quiet (fail);go_wp2_with fail;refine wp_goto ?_;show Q (.goto 1) _ _
 exact hQ'.out _ _ _ ⟨rfl,rfl,rfl⟩ (hS.drewN _).bump.back
set_option maxRecDepth 100000 in
set_option maxHeartbeats 400000 in
theorem look_old {xss:List (List Int)} {w0 w:World} {nv:Value} {gs gl go bd bo:Nat} {s:St} {O:List Nat} {d a:Nat} {r:List (Nat×Nat)} {root:Int} {Q:Exit→Act→World→Prop} {ac:Act} {i8 fv kv:Value}
  (hl:xss.length≤1024) (hn:RowsAt w nv xss) (hf:Fm 175 ac (ksP nv i8 fv kv xss.length s.count s.now root gs gl go bd bo)) (hP:PS w0 w xss.length s O ((d,a)::r) gs gl go bd bo)
  (hd:d<xss.length) (ha:a<(xss[d]).length) (hlr:(xss[d]).length≤1024) (k:Nat) (hk:xss[d][a]=(k:Int)) (hkn:k<xss.length) (h0:0<s.seen k) (hof:0≤s.of k) (hr:r.length≤100000)
  (hQ:∀ac' w' fv' kv',Fm 175 ac' (ksP nv i8 fv' kv' xss.length s.count s.now root gs gl go bd bo)→PS w0 w' xss.length s O ((d,a+1)::r) gs gl go bd bo→Q (.goto 2) ac' w'):
  (partedAt 2).wp Tryz.prog Q ac w:=by
 obtain⟨f,rfl⟩:=hf.lit (m:=159) rfl;obtain⟨gd,cap,ov,hS⟩:=hP.top;obtain⟨ad,c',u,rfl,h3,h4⟩:=hn.at_ hd;obtain⟨ad',c'',rfl,h5⟩:=h4.at_ ha;have ht:=top_frame bd gd cap (r.length+1) (by omega) (by omega) (Sep.sel [3,0,1,2] hS (by decide) (by simp));rw[Nat.add_sub_cancel]at ht;have c0:=hS.cell0;have c1:=hS.cell1;have fz:=hS.free1;have hsk:∀q,((w.drewN q).setCell ⟨gd,r.length*2+1,none⟩ (.int .i64 ((a:Int)+1))).cell? ⟨gs,k,none⟩=some (.int .i64 (s.seen k)):=fun q=>arr_at 0 (hS.drewN q).bump rfl k hkn
 have hok:∀q,((w.drewN q).setCell ⟨gd,r.length*2+1,none⟩ (.int .i64 ((a:Int)+1))).cell? ⟨go,k,none⟩=some (.int .i64 (s.of k)):=fun q=>arr_at 2 (hS.drewN q).bump rfl k hkn
 rw[hk]at h5;have b0:(((s.seen k:Nat):Int)==0)=false:=by rw[beq_eq_false_iff_ne];omega
 have b1:(0:Int)≤(d:Int):=by omega
 have b2:(d:Int)<(xss.length:Int):=by omega
 have b3:(0:Int)≤(a:Int):=by omega
 have b4:(a:Int)<((xss[d]).length:Int):=by omega
 have b5:(k:Int)<(xss.length:Int):=by omega
 have hQ':=Lh hQ;clear hQ hf hk;simp only[ksP,lits,Nat.reduceAdd,List.cons_append,List.nil_append]
 conv=>arg 2;whnf
 go_wp2_with(go_at_call 105;refine ht.mono ?_;rintro e w' ⟨rfl,n1,rfl⟩);go_quiet (fail);go_wp2_with fail;go_quiet (fail);go_wp2_with fail;refine wp_goto ?_;show Q (.goto 2) _ _
 exact hQ'.out _ _ _ _ ⟨rfl,rfl,rfl⟩ (hS.drewN _).bump.back
set_option maxRecDepth 100000 in
set_option maxHeartbeats 400000 in
theorem look_live {xss:List (List Int)} {w0 w:World} {nv:Value} {gs gl go bd bo:Nat} {s:St} {O:List Nat} {d a:Nat} {r:List (Nat×Nat)} {root:Int} {Q:Exit→Act→World→Prop} {ac:Act} {i8 fv kv:Value}
  (hl:xss.length≤1024) (hn:RowsAt w nv xss) (hf:Fm 175 ac (ksP nv i8 fv kv xss.length s.count s.now root gs gl go bd bo)) (hP:PS w0 w xss.length s O ((d,a)::r) gs gl go bd bo)
  (hd:d<xss.length) (ha:a<(xss[d]).length) (hlr:(xss[d]).length≤1024) (k:Nat) (hk:xss[d][a]=(k:Int)) (hkn:k<xss.length) (h0:0<s.seen k) (hof:s.of k<0) (hr:r.length≤100000)
  (hQ:∀ac' w' fv' kv',Fm 175 ac' (ksP nv i8 fv' kv' xss.length s.count s.now root gs gl go bd bo)→PS w0 w' xss.length {s with low:=upd s.low d (min (s.low d) (s.seen k))} O ((d,a+1)::r) gs gl go bd bo→Q (.goto 2) ac' w'):
  (partedAt 2).wp Tryz.prog Q ac w:=by
 obtain⟨f,rfl⟩:=hf.lit (m:=159) rfl;obtain⟨gd,cap,ov,hS⟩:=hP.top;obtain⟨ad,c',u,rfl,h3,h4⟩:=hn.at_ hd;obtain⟨ad',c'',rfl,h5⟩:=h4.at_ ha;have ht:=top_frame bd gd cap (r.length+1) (by omega) (by omega) (Sep.sel [3,0,1,2] hS (by decide) (by simp));rw[Nat.add_sub_cancel]at ht;have c0:=hS.cell0;have c1:=hS.cell1;have fz:=hS.free1;have hsk:∀q,((w.drewN q).setCell ⟨gd,r.length*2+1,none⟩ (.int .i64 ((a:Int)+1))).cell? ⟨gs,k,none⟩=some (.int .i64 (s.seen k)):=fun q=>arr_at 0 (hS.drewN q).bump rfl k hkn
 have hok:∀q,((w.drewN q).setCell ⟨gd,r.length*2+1,none⟩ (.int .i64 ((a:Int)+1))).cell? ⟨go,k,none⟩=some (.int .i64 (s.of k)):=fun q=>arr_at 2 (hS.drewN q).bump rfl k hkn
 have hlk:∀q,((w.drewN q).setCell ⟨gd,r.length*2+1,none⟩ (.int .i64 ((a:Int)+1))).cell? ⟨gl,d,none⟩=some (.int .i64 (s.low d)):=fun q=>arr_at 1 (hS.drewN q).bump rfl d hd
 have hlf:∀q,((w.drewN q).setCell ⟨gd,r.length*2+1,none⟩ (.int .i64 ((a:Int)+1))).frozen? ⟨gl,d,none⟩=false:=fun q=>Sep.frozenAt 1 (hS.drewN q).bump rfl d
 have hdk:∀q,((w.drewN q).setCell ⟨gd,r.length*2+1,none⟩ (.int .i64 ((a:Int)+1))).cell? ⟨gd,r.length*2,none⟩=some (.int .i64 d):=fun q=>(hS.drewN q).bump.cell0
 rw[hk]at h5;have b0:(((s.seen k:Nat):Int)==0)=false:=by rw[beq_eq_false_iff_ne];omega
 have b1:(0:Int)≤(d:Int):=by omega
 have b2:(d:Int)<(xss.length:Int):=by omega
 have b3:(0:Int)≤(a:Int):=by omega
 have b4:(a:Int)<((xss[d]).length:Int):=by omega
 have b5:(k:Int)<(xss.length:Int):=by omega
 have hQ':=Lh hQ;clear hQ hf hk;simp only[ksP,lits,Nat.reduceAdd,List.cons_append,List.nil_append]
 conv=>arg 2;whnf
 go_wp2_with(go_at_call 105;refine ht.mono ?_;rintro e w' ⟨rfl,n1,rfl⟩);go_quiet (fail);go_wp2_with fail;go_quiet (fail);go_wp2_with fail;refine wp_quiet_tail 18 (by kernel_rfl) (by kernel_rfl) ?_;simp only[List.take_succ_cons,List.take_zero,List.drop_succ_cons,List.drop_zero];repeat(go_big_quiet_step (fail))
 refine wpQuiet_nil ?_;rintro _ ⟨n3,rfl⟩;go_wp2_with fail;all_goals
  refine wp_goto ?_
  show Q (.goto 2) _ _
 ·refine hQ'.out _ _ _ _ ⟨rfl,rfl,rfl⟩ ?_;rw[Nat.min_eq_right (by omega)];exact((hS.drewN _).bump.drewN _).setLow d _|>.back
 refine hQ'.out _ _ _ _ ⟨rfl,rfl,rfl⟩ ?_;rw[Nat.min_eq_left (by omega)];exact((hS.drewN _).bump.drewN _).setLow d _|>.back
set_option maxRecDepth 100000 in
set_option maxHeartbeats 400000 in
theorem look_up {xss:List (List Int)} {w0 w:World} {nv:Value} {gs gl go bd bo:Nat} {s:St} {O:List Nat} {d a d' a':Nat} {r':List (Nat×Nat)} {root:Int} {Q:Exit→Act→World→Prop} {ac:Act} {i8 fv kv:Value}
  (hl:xss.length≤1024) (hn:RowsAt w nv xss) (hf:Fm 175 ac (ksP nv i8 fv kv xss.length s.count s.now root gs gl go bd bo)) (hP:PS w0 w xss.length s O ((d,a)::(d',a')::r') gs gl go bd bo)
  (hd:d<xss.length) (hd':d'<xss.length) (ha:a=(xss[d]).length) (hlr:(xss[d]).length≤1024) (hne:s.low d≠s.seen d) (hr:r'.length≤10000)
  (hQ:∀ac' w' fv' kv',Fm 175 ac' (ksP nv i8 fv' kv' xss.length s.count s.now root gs gl go bd bo)→PS w0 w' xss.length {s with low:=upd s.low d' (min (s.low d') (s.low d))} O ((d',a')::r') gs gl go bd bo→Q (.goto 2) ac' w'):
  (partedAt 2).wp Tryz.prog Q ac w:=by
 obtain⟨f,rfl⟩:=hf.lit (m:=159) rfl;obtain⟨dv0,ov0,hS0⟩:=hP;have hpop:=fun(q:Nat)=>pop_frame bd dv0 (fl ((d',a')::r')) (d:Int) (a:Int) (by rw[fl_length];simp;omega) ((by rw[←fl_cons (d,a)];exact Sep.sel [3,4,0,1,2] (hS0.drewN q) (by decide) (by simp)))
 obtain⟨gd,cap,ov,hS⟩:=PS.top ⟨dv0,ov0,hS0⟩;obtain⟨ad,c',u,rfl,h3,h4⟩:=hn.at_ hd;obtain⟨A',c'',rfl,hmax⟩:=h4.shape;have ht:=top_frame bd gd cap (((d',a')::r').length+1) (by omega) (by simp;omega) (Sep.sel [3,0,1,2] hS (by decide) (by simp));rw[Nat.add_sub_cancel]at ht;have c0:=hS.cell0;have c1:=hS.cell1;simp only[List.length_cons]at ht c0 c1;have hsd:=arr_at 0 hS rfl d hd;have hld:=arr_at 1 hS rfl d hd;have b0:(((s.low d:Nat):Int)==((s.seen d:Nat):Int))=false:=by rw[beq_eq_false_iff_ne];omega
 have b1:(0:Int)≤(d:Int):=by omega
 have b2:(d:Int)<(xss.length:Int):=by omega
 have b3:(0:Int)≤(a:Int):=by omega
 have b4:((xss[d]).length:Int)≤(a:Int):=by omega
 have b4n:decide (a<(xss[d]).length)=false:=by simp;omega
 have b5:(d':Int)<(xss.length:Int):=by omega
 have b6:(0:Int)≤(d':Int):=by omega
 have hQ':=Lh hQ;have hpop':=Lh hpop;clear hQ hf hne ha hpop hmax;simp only[ksP,lits,Nat.reduceAdd,List.cons_append,List.nil_append]
 conv=>arg 2;whnf
 go_wp2_with(go_at_call 105;refine ht.mono ?_;rintro e w' ⟨rfl,n1,rfl⟩);go_quiet (fail);go_wp2_with fail;go_quiet (fail);go_wp2_with fail;refine(hpop'.out _).mono ?_;rintro e w1 ⟨v',rfl,hS1⟩;have hP1:PS w0 w1 xss.length s O ((d',a')::r') gs gl go bd bo:=PS.popped hS1;clear hS1 hpop' ht c0 c1 hsd hld h3 h4 hn hS hS0 b4;obtain⟨gd1,cap1,ov1,hS1⟩:=hP1.top;have ht:=fun(q:Nat)=>top_frame bd gd1 cap1 (r'.length+1) (by omega) (by omega) (Sep.sel [3,0,1,2] (hS1.drewN q) (by decide) (by simp))
 simp only[Nat.add_sub_cancel]at ht;have ht':=Lh ht;clear ht;have c2:=hS1.cell0;have hld:=arr_at 1 hS1 rfl d hd;have hld':=arr_at 1 hS1 rfl d' hd';have hlf:=Sep.frozenAt 1 hS1 rfl d';have hbx:w1.cell? ⟨bd,0,none⟩=some (.slice (some ⟨gd1,0,none⟩) (r'.length+1) cap1):=by rw[Sep.bC 3 hS1 rfl 0];rfl
 have b7:((r'.length:Int)+1==0)=false:=by rw[beq_eq_false_iff_ne];omega
 have hfd:=field_frame;go_wp2_with fail;refine wp_quiet_tail 18 (by kernel_rfl) (by kernel_rfl) ?_;simp only[List.take_succ_cons,List.take_zero,List.drop_succ_cons,List.drop_zero];repeat(go_big_quiet_step ((go_at_call 105;exact Calls.quiet_of (ht'.out _))))
 refine wpQuiet_nil ?_;rintro _ ⟨n3,rfl⟩;go_wp2_with fail;all_goals
  refine wp_goto ?_
  show Q (.goto 2) _ _
 ·refine hQ'.out _ _ _ _ ⟨rfl,rfl,rfl⟩ ?_;rw[Nat.min_eq_right (by omega)];exact(hS1.drewN _).setLow d' _|>.back
 refine hQ'.out _ _ _ _ ⟨rfl,rfl,rfl⟩ ?_;rw[Nat.min_eq_left (by omega)];exact(hS1.drewN _).setLow d' _|>.back
def ofS (of:Nat→Int) (S:List Nat) (c:Int):Nat→Int:=fun v=>if v∈S then c else of v
theorem ofS_nil (of:Nat→Int) (c:Int):ofS of [] c=of:=by funext v;simp[ofS]
theorem ofS_snoc (of:Nat→Int) (S:List Nat) (c:Int) (x:Nat):upd (ofS of S c) x c=ofS of (S++[x]) c:=by
 funext v;simp only[upd,ofS,List.mem_append,List.mem_singleton];by_cases h:v=x
 ·simp[h]
 simp[h]
theorem ofS_last (of:Nat→Int) (S:List Nat) (c:Int) (d:Nat):upd (ofS of S c) d c=fun v=>if v∈S∨v=d then c else of v:=by rw[ofS_snoc];funext v;simp[ofS]
theorem upd_id {α:Type} (f:Nat→α) (k:Nat):upd f k (f k)=f:=by
 funext v;simp only[upd];split
 ·subst_vars;rfl
 rfl
set_option maxRecDepth 100000 in
set_option maxHeartbeats 800000 in
theorem look_close {xss:List (List Int)} {w0 w:World} {nv:Value} {gs gl go bd bo:Nat} {s:St} {S O':List Nat} {d a:Nat} {r:List (Nat×Nat)} {root:Int} {Q:Exit→Act→World→Prop} {ac:Act} {i8 fv kv:Value}
  (hl:xss.length≤1024) (hn:RowsAt w nv xss) (hf:Fm 175 ac (ksP nv i8 fv kv xss.length s.count s.now root gs gl go bd bo)) (hP:PS w0 w xss.length s (S++d::O') ((d,a)::r) gs gl go bd bo)
  (hd:d<xss.length) (ha:a=(xss[d]).length) (hlr:(xss[d]).length≤1024) (heq:s.low d=s.seen d) (hr:r.length≤10000) (hcnt:s.count≤10000) (hO:(S++d::O').length≤10000)
  (hSn:∀v,v∈S→v<xss.length) (hSd:d∉S) (hrn:∀d' a' r',r=(d',a')::r'→d'<xss.length∧s.low d'≤s.low d)
  (hQ0:∀ac' w' fv' kv',r=[]→Fm 175 ac' (ksP nv i8 fv' kv' xss.length (s.count+1) s.now root gs gl go bd bo)→PS w0 w' xss.length {s with of:=fun v=>if v∈S∨v=d then(s.count:Int)else s.of v,count:=s.count+1} O' r gs gl go bd bo→Q (.goto 0) ac' w')
  (hQ2:∀ac' w' fv' kv',r≠[]→Fm 175 ac' (ksP nv i8 fv' kv' xss.length (s.count+1) s.now root gs gl go bd bo)→PS w0 w' xss.length {s with of:=fun v=>if v∈S∨v=d then(s.count:Int)else s.of v,count:=s.count+1} O' r gs gl go bd bo→Q (.goto 2) ac' w'):
  (partedAt 2).wp Tryz.prog Q ac w:=by
 obtain⟨f,rfl⟩:=hf.lit (m:=159) rfl;obtain⟨gd,cap,ov,hS⟩:=hP.top;obtain⟨ad,c',u,rfl,h3,h4⟩:=hn.at_ hd;obtain⟨A',c'',rfl,hmax⟩:=h4.shape;have ht:=top_frame bd gd cap (r.length+1) (by omega) (by omega) (Sep.sel [3,0,1,2] hS (by decide) (by simp));rw[Nat.add_sub_cancel]at ht;have c0:=hS.cell0;have c1:=hS.cell1;have hsd:=arr_at 0 hS rfl d hd;have hld:=arr_at 1 hS rfl d hd;have b0:(((s.low d:Nat):Int)==((s.seen d:Nat):Int))=true:=by rw[beq_iff_eq];omega
 have b1:(0:Int)≤(d:Int):=by omega
 have b2:(d:Int)<(xss.length:Int):=by omega
 have b3:(0:Int)≤(a:Int):=by omega
 have b4:((xss[d]).length:Int)≤(a:Int):=by omega
 have b4n:decide (a<(xss[d]).length)=false:=by simp;omega
 have b5:(s.count:Int)≤10000:=by omega
 have hQ0':=Lh hQ0;have hQ2':=Lh hQ2;have hSn':=Lh hSn;have hSd':=Lh hSd;have hrn':=Lh hrn;clear hQ0 hQ2 hf ha hmax hSn hSd hrn;simp only[ksP,lits,Nat.reduceAdd,List.cons_append,List.nil_append]
 conv=>arg 2;whnf
 go_wp2_with(go_at_call 105;refine ht.mono ?_;rintro e w' ⟨rfl,n1,rfl⟩);go_quiet (fail);go_wp2_with fail;go_quiet (fail);go_wp2_with fail;go_loopg[15] (S.length) (fun m k wr=>∃S1 S2 ov1,Hid (S=S1++S2)∧Hid (m=S2.length)∧PT w0 wr xss.length {s with of:=ofS s.of S1 s.count} (S2++d::O') r gs gl go bd bo gd cap ov1 d a)
 case atStart=>refine⟨[],S,ov,rfl,rfl,?_⟩;rw[ofS_nil];exact((hS.drewN _).drewN _).drewN _
 obtain⟨S1,S2,ov1,hsp,hm,hT⟩:=hrel;cases S2 with
 |nil=>
  have hpop:=pop_int bo ov1 (ol O') (d:Int) (by rw[ol_length];have:=hO;rw[hsp.out]at this;simp at this;omega) ((by rw[←ol_cons];exact Sep.sel [5,6,0,1,2,3,4] hT (by decide) (by simp)));(have hS1:S1=S:=by rw[hsp.out];simp);subst hS1;have hpop':=Lh hpop;clear hpop hsp hm hT hsd hld c0 c1 ht h3 h4 b4;go_wp2_with fail;refine hpop'.out.mono ?_;rintro e w1 ⟨v',rfl,hS1⟩;have hT1:PT w0 w1 xss.length {s with of:=ofS s.of S1 s.count} O' r gs gl go bd bo gd cap v' d a:=Sep.sel [2,3,4,5,6,0,1] hS1 (by decide) (by simp);clear hS1 hpop';have hT2:=hT1.setOf d s.count;rw[ofS_last]at hT2;have q0:=arr_at 2 hT1 rfl d hd;have q1:=Sep.frozenAt 2 hT1 rfl d;have q2:=hT2.cell0;obtain⟨dv2,ov2,hS2⟩:=hT2.back;have hpop2:=pop_frame bd dv2 (fl r) (d:Int) (a:Int) (by rw[fl_length];omega) ((by rw[←fl_cons (d,a)];exact Sep.sel [3,4,0,1,2] hS2 (by decide) (by simp)));have hpop2':=Lh hpop2;clear hpop2;go_wp2_with fail;refine hpop2'.out.mono ?_;rintro e w2 ⟨v2,rfl,hS3⟩;have hP2:PS w0 w2 xss.length {s with of:=fun v=>if v∈S1∨v=d then(s.count:Int)else s.of v} O' r gs gl go bd bo:=PS.popped hS3;clear hpop2' hS2 q0 q1 q2 hT1 hT2;have hfd:=field_frame;cases r with
  |nil=>obtain⟨A2,c2,rfl,_,_,_⟩:=hS3.sl_any 1 rfl;(have hbx:w2.cell? ⟨bd,0,none⟩=some (.slice A2 (fl []).length c2):=by rw[Sep.bC 0 hS3 rfl 0];rfl);have hl0:(fl []).length=0:=rfl;rw[hl0]at hbx;clear hS3;go_wp2_with fail;refine wp_goto ?_;(show Q (.goto 0) _ _);exact hQ0'.out _ _ _ _ (by trivial) ⟨rfl,rfl,rfl⟩ hP2
  |cons p r'=>obtain⟨d',a'⟩:=p;obtain⟨hd',hle⟩:=hrn'.out d' a' r' rfl;clear hS3;obtain⟨gd1,cap1,ov3,hS4⟩:=hP2.top;(have ht:=fun(q:Nat)=>top_frame bd gd1 cap1 (r'.length+1) (by omega) (by simp at hr;omega) (Sep.sel [3,0,1,2] (hS4.drewN q) (by decide) (by simp)));simp only[Nat.add_sub_cancel]at ht;have ht':=Lh ht;clear ht;have c2:=hS4.cell0;have hld:=arr_at 1 hS4 rfl d hd;have hld':=arr_at 1 hS4 rfl d' hd';have hlf:=Sep.frozenAt 1 hS4 rfl d';(have hbx:w2.cell? ⟨bd,0,none⟩=some (.slice (some ⟨gd1,0,none⟩) (r'.length+1) cap1):=by rw[Sep.bC 3 hS4 rfl 0];rfl);(have b7:((r'.length:Int)+1==0)=false:=by rw[beq_eq_false_iff_ne];omega);(have b8:(d':Int)<(xss.length:Int):=by omega);(have b9:(0:Int)≤(d':Int):=by omega);(have b10:¬s.low d<s.low d':=by omega);go_wp2_with fail;refine wp_quiet_tail 18 (by kernel_rfl) (by kernel_rfl) ?_;simp only[List.take_succ_cons,List.take_zero,List.drop_succ_cons,List.drop_zero];(repeat(go_big_quiet_step ((go_at_call 105;exact Calls.quiet_of (ht'.out _)))));refine wpQuiet_nil ?_;rintro _ ⟨n3,rfl⟩;go_wp2_with fail;refine wp_goto ?_;(show Q (.goto 2) _ _);refine hQ2'.out _ _ _ _ (by simp) ⟨rfl,rfl,rfl⟩ ?_;have hF:=(hS4.drewN n3).setLow d' (s.low d');rw[show upd s.low d' (s.low d')=s.low from upd_id _ _]at hF;exact hF.back
 |cons x S3=>
  (have hxS:x∈S:=by rw[hsp.out];simp);have hxn:=hSn'.out x hxS;(have hxd:x≠d:=fun e=>hSd'.out (e▸hxS));have hpop:=pop_int bo ov1 (ol (S3++d::O')) (x:Int) (by rw[ol_length];have:=hO;rw[hsp.out]at this;simp at this ⊢;omega) ((by rw[←ol_cons];exact Sep.sel [5,6,0,1,2,3,4] hT (by decide) (by simp)));(have b6:((x:Int)==(d:Int))=false:=by rw[beq_eq_false_iff_ne];omega);(have b7:(0:Int)≤(x:Int):=by omega);(have b8:(x:Int)<(xss.length:Int):=by omega);have hpop':=Lh hpop;clear hpop hxd hxS;go_wp2_with fail;refine hpop'.out.mono ?_;rintro e w1 ⟨v',rfl,hS1⟩;have hT1:PT w0 w1 xss.length {s with of:=ofS s.of S1 s.count} (S3++d::O') r gs gl go bd bo gd cap v' d a:=Sep.sel [2,3,4,5,6,0,1] hS1 (by decide) (by simp);clear hS1 hpop';have hT2:=hT1.setOf x s.count;have q0:=arr_at 2 hT1 rfl x hxn;have q1:=Sep.frozenAt 2 hT1 rfl x;have q2:=hT2.cell0;go_wp2_with fail;go_roundg S3.length
  case measure=>rw[hm.out];simp
  refine⟨S1++[x],S3,v',(by rw[Hid,hsp.out];simp),rfl,?_⟩;rw[←ofS_snoc];exact hT2
theorem PS.enter2 {w0 w:World} {n:Nat} {s:St} {O:List Nat} {D:List (Nat×Nat)} {gs gl go bd bo:Nat} {dv ov:Value} (k:Nat) (x:Nat)
  (h:Sep w0 w [arr gs n (fun v=>(s.seen v:Int)),arr gl n (fun v=>(s.low v:Int)),arr go n s.of,.box bd 160 #[dv],framesR dv (fl D),.box bo 162 #[ov],intsR ov (ol O)]):
  Sep w0 ((w.setCell ⟨gs,k,none⟩ (.int .i64 x)).setCell ⟨gl,k,none⟩ (.int .i64 x))
   [arr gs n (fun v=>((upd s.seen k x v:Nat):Int)),arr gl n (fun v=>((upd s.low k x v:Nat):Int)),arr go n s.of,.box bd 160 #[dv],framesR dv (fl D),.box bo 162 #[ov],intsR ov (ol O)]:=by
 have h1:=(h.stored 0 rfl k (.int .i64 x)).stored 1 rfl k (.int .i64 x)
 simp only[List.set_cons_succ,List.set_cons_zero]at h1
 rw[arr_set,arr_upd,arr_set,arr_upd]at h1
 exact h1
set_option maxRecDepth 100000 in
set_option maxHeartbeats 400000 in
theorem enter_any {xss:List (List Int)} {w0 w:World} {nv:Value} {gs gl go bd bo:Nat} {s:St} {O:List Nat} {D:List (Nat×Nat)} {root:Int} {Q:Exit→Act→World→Prop} {ac:Act} {i8 fv:Value}
  (hl:xss.length≤1024) (k:Nat) (hf:Fm 175 ac (ksP nv i8 fv (.int .i64 k) xss.length s.count s.now root gs gl go bd bo)) (hP:PS w0 w xss.length s O D gs gl go bd bo)
  (hkn:k<xss.length) (hnow:s.now≤1024) (hD:D.length≤10000) (hO:O.length≤10000)
  (hQ:∀ac' w',Fm 175 ac' (ksP nv i8 fv (.int .i64 k) xss.length s.count (s.now+1) root gs gl go bd bo)→PS w0 w' xss.length {s with seen:=upd s.seen k (s.now+1),low:=upd s.low k (s.now+1),now:=s.now+1} (k::O) ((k,0)::D) gs gl go bd bo→(partedAt 2).wp Tryz.prog Q ac' w'):
  (partedAt 1).wp Tryz.prog Q ac w:=by
 obtain⟨f,rfl⟩:=hf.lit (m:=159) rfl;obtain⟨dv,ov,hS⟩:=hP;have hS2:=PS.enter2 k (s.now+1) hS;rw[show((s.now+1:Nat):Int)=(s.now:Int)+1 from rfl]at hS2;have hS1:=hS.stored 0 rfl k (.int .i64 ((s.now:Int)+1));have a0:=arr_at 0 hS rfl k hkn;have a1:=Sep.frozenAt 0 hS rfl k;have a2:=arr_at 1 hS1 rfl k hkn;have a3:=Sep.frozenAt 1 hS1 rfl k;have b0:(s.now:Int)≤1024:=by omega
 have b1:(0:Int)≤(k:Int):=by omega
 have b2:(k:Int)<(xss.length:Int):=by omega
 have hp:=push_int bo ov (ol O) (k:Int) (by rw[ol_length];omega) (Sep.sel [5,6,0,1,2,3,4] hS2 (by decide) (by simp));have hp':=Lh hp;have hQ':=Lh hQ;clear hQ hf hp hS1 hS;simp only[ksP,lits,Nat.reduceAdd,List.cons_append,List.nil_append]
 conv=>arg 2;whnf
 go_wp2_with(go_at_call 103;refine hp'.out.mono ?_;rintro e w1 ⟨v1,rfl,hS3⟩);have hS4:Sep w0 w1 [arr gs xss.length (fun v=>((upd s.seen k (s.now+1) v:Nat):Int)),arr gl xss.length (fun v=>((upd s.low k (s.now+1) v:Nat):Int)),arr go xss.length s.of,.box bd 160 #[dv],framesR dv (fl D),.box bo 162 #[v1],intsR v1 (ol (k::O))]:=by rw[ol_cons];exact Sep.sel [2,3,4,5,6,0,1] hS3 (by decide) (by simp)
 have hp2:=push_frame bd dv (fl D) (k:Int) 0 (by rw[fl_length];omega) (Sep.sel [3,4,0,1,2] hS4 (by decide) (by simp));have hp2':=Lh hp2;clear hp2 hS3 hp' hS2 a0 a1 a2 a3;go_wp2_with fail;refine hp2'.out.mono ?_;rintro e w2 ⟨v2,rfl,hS5⟩;have hP2:PS w0 w2 xss.length {s with seen:=upd s.seen k (s.now+1),low:=upd s.low k (s.now+1),now:=s.now+1} (k::O) ((k,0)::D) gs gl go bd bo:=
  ⟨v2,v1,by rw[fl_cons];exact Sep.sel [2,3,4,0,1,5,6] hS5 (by decide) (by simp)⟩
 clear hp2' hS5 hS4;simp only[]
 go_step
 go_step
 go_step
 go_step
 refine wp_seq (wp_label ?_);exact hQ'.out _ _ ⟨rfl,rfl,rfl⟩ hP2
def ksR (nv i8 fv kv:Value) (n count now:Nat) (root:Int) (gs gl go bd bo:Nat):List Value:=
 [nv,undef,.slice (some ⟨go,0,none⟩) n n,.int .i64 count,.int .i64 n,.slice (some ⟨gs,0,none⟩) n n,.slice (some ⟨gl,0,none⟩) n n,.slice (some ⟨go,0,none⟩) n n,i8,.pointer (some ⟨bd,0,none⟩),.pointer (some ⟨bo,0,none⟩),.int .i64 count,.int .i64 now,.int .i64 root,fv,kv]
set_option maxRecDepth 100000 in
set_option maxHeartbeats 400000 in
theorem next_end {n:Nat} {w0 w:World} {nv:Value} {gs gl go bd bo:Nat} {s:St} {root:Int} {Q:Exit→Act→World→Prop} {ac:Act} {i8 fv kv:Value}
  (hl:n≤1024) (hf:Fm 175 ac (ksP nv i8 fv kv n s.count s.now root gs gl go bd bo)) (h1:root+1=n)
  (hQ:∀ac',Fm 175 ac' (ksR nv i8 fv kv n s.count s.now n gs gl go bd bo)→Q .ret ac' w):
  (partedAt 0).wp Tryz.prog Q ac w:=by
 obtain⟨f,rfl⟩:=hf.lit (m:=159) rfl;obtain rfl:root=(n:Int)-1:=by omega
 have b0:(n:Int)≤1024:=by omega
 have e1:(n:Int)-1+1=(n:Int):=by omega
 have hQ':=Lh hQ;clear hQ hf h1;simp only[ksP,lits,Nat.reduceAdd,List.cons_append,List.nil_append]
 conv=>arg 2;whnf
 go_wp2_with fail;exact hQ'.out _ ⟨rfl,rfl,rfl⟩
set_option maxRecDepth 100000 in
set_option maxHeartbeats 400000 in
theorem next_seen {n:Nat} {w0 w:World} {nv:Value} {gs gl go bd bo:Nat} {s:St} {O:List Nat} {D:List (Nat×Nat)} {r:Nat} {Q:Exit→Act→World→Prop} {ac:Act} {i8 fv kv:Value}
  (hl:n≤1024) (hf:Fm 175 ac (ksP nv i8 fv kv n s.count s.now ((r:Int)-1) gs gl go bd bo)) (hP:PS w0 w n s O D gs gl go bd bo) (h1:r<n) (h2:0<s.seen r)
  (hQ:∀ac',Fm 175 ac' (ksP nv i8 fv kv n s.count s.now r gs gl go bd bo)→Q (.goto 0) ac' w):
  (partedAt 0).wp Tryz.prog Q ac w:=by
 obtain⟨f,rfl⟩:=hf.lit (m:=159) rfl;obtain⟨dv,ov,hS⟩:=hP;have a0:=arr_at 0 hS rfl r h1;have b0:(n:Int)≤1024:=by omega
 have b1:(r:Int)<(n:Int):=by omega
 have b2:(0:Int)≤(r:Int):=by omega
 have b3:((r:Int)==(n:Int))=false:=by rw[beq_eq_false_iff_ne];omega
 have b4:(0:Int)<(s.seen r:Int):=by omega
 have b5:decide (0<s.seen r)=true:=by simpa using h2
 have hQ':=Lh hQ;have hS':=Lh hS;clear hQ hf h1 hS;simp only[ksP,lits,Nat.reduceAdd,List.cons_append,List.nil_append]
 conv=>arg 2;whnf
 go_wp2_with fail;refine wp_goto ?_;show Q (.goto 0) _ _
 exact hQ'.out _ ⟨rfl,rfl,rfl⟩
set_option maxRecDepth 100000 in
set_option maxHeartbeats 400000 in
theorem next_new {n:Nat} {w0 w:World} {nv:Value} {gs gl go bd bo:Nat} {s:St} {O:List Nat} {D:List (Nat×Nat)} {r:Nat} {Q:Exit→Act→World→Prop} {ac:Act} {i8 fv kv:Value}
  (hl:n≤1024) (hf:Fm 175 ac (ksP nv i8 fv kv n s.count s.now ((r:Int)-1) gs gl go bd bo)) (hP:PS w0 w n s O D gs gl go bd bo) (h1:r<n) (h2:s.seen r=0)
  (hQ:∀ac',Fm 175 ac' (ksP nv i8 fv (.int .i64 r) n s.count s.now r gs gl go bd bo)→(partedAt 1).wp Tryz.prog Q ac' w):
  (partedAt 0).wp Tryz.prog Q ac w:=by
 obtain⟨f,rfl⟩:=hf.lit (m:=159) rfl;obtain⟨dv,ov,hS⟩:=hP;have a0:=arr_at 0 hS rfl r h1;rw[h2]at a0;have b0:(n:Int)≤1024:=by omega
 have b1:(r:Int)<(n:Int):=by omega
 have b2:(0:Int)≤(r:Int):=by omega
 have b3:((r:Int)==(n:Int))=false:=by rw[beq_eq_false_iff_ne];omega
 have hQ':=Lh hQ;have hS':=Lh hS;clear hQ hf h1 hS h2;simp only[ksP,lits,Nat.reduceAdd,List.cons_append,List.nil_append]
 conv=>arg 2;whnf
 go_upto_region 18 with(fail);iterate 10 go_step
 refine wp_seq (wp_label ?_);exact hQ'.out _ ⟨rfl,rfl,rfl⟩
theorem Jumps.mono {J J':Nat→Act→World→Prop} {Q:Exit→Act→World→Prop} (h:∀l a w,J l a w→J' l a w):∀e a w,Jumps J Q e a w→Jumps J' Q e a w:=by
 intro e a w hq;cases e with
 |goto l=>exact h l a w hq
 |_=>exact hq
section
variable {xss:List (List Int)} {w0:World} {nv:Value} {gs gl go bd bo:Nat} {Q:Exit→Act→World→Prop}
open Tarjan
theorem Tarjan.Inv.bounds {adj:Nat→List Nat} {n:Nat} {s:St} {O:List Nat} {D:List (Nat×Nat)} {act:Bool} (h:Inv adj n s O D act):s.now≤n∧D.length≤n∧O.length≤n∧s.count≤n:=by have h1:=h.rest;have h2:=h.num;have h3:=h.olen;omega
theorem look_pass (hx:refused xss=0) (hn:RowsAt w0 nv xss) {m:Nat} {ac:Act} {w:World} {s:St} {O:List Nat} {D:List (Nat×Nat)} {root:Int} {i8 fv kv:Value}
  (hf:Fm 175 ac (ksP nv i8 fv kv xss.length s.count s.now root gs gl go bd bo)) (hP:PS w0 w xss.length s O D gs gl go bd bo) (hI:Inv (adjOf xss) xss.length s O D false) (hD:D≠[])
  (hm:m=Tarjan.work (adjOf xss) xss.length s.seen D+((xss.length:Int)-1-root).toNat) (hr0:0≤root) (hr1:root<xss.length) (hvis:∀v:Nat,(v:Int)≤root→0<s.seen v):
  (partedAt 2).wp Tryz.prog (Jumps (fun l' a' w'=>∃m',m'<m∧JP xss w0 nv gs gl go bd bo m' l' a' w') Q) ac w:=by
 obtain⟨hl,hrow,hgood⟩:=refused_zero hx;obtain⟨b1,b2,b3,b4⟩:=hI.bounds
 match D,hD with
 |(d,a)::r,_=>
  have hfr:=hI.seg.1;have hd:=hI.dom d hfr.live.1;have hadj:=adjOf_at hd;(have hlen:(adjOf xss d).length=(xss[d]).length:=by rw[hadj,List.length_map]);(have hn':RowsAt w nv xss:=by obtain⟨_,_,hS⟩:=hP;exact hn.below hS.below);simp only[List.length_cons]at b2;rcases Nat.lt_or_ge a (xss[d]).length with ha|ha
  ·have hg:=hgood d hd a ha;(have hk:xss[d][a]=((xss[d][a].toNat:Nat):Int):=by omega);(have hka:(adjOf xss d)[a]? =some (xss[d][a].toNat):=by rw[hadj,List.getElem?_map,gE ha];rfl);have hw:=Tarjan.work_edge (adj:=adjOf xss) (n:=xss.length) (d:=d) (a:=a) (r:=r) (f:=s.seen) (by rw[hlen];exact ha);by_cases h0:s.seen (xss[d][a].toNat)=0
   ·(refine look_new hl hn' hf hP hd ha (hrow d hd) _ hk (by omega) h0 (by omega) fun ac' w' fv' hf' hP'=>?_);exact⟨_,by omega,s,O,(d,a+1)::r,true,root,i8,fv',_,hf',hP',hI.edge_new (by rw[hlen];exact ha),rfl,
     .inr (.inl ⟨rfl,hr0,hr1,_,rfl,by omega,h0,.inr ⟨rfl,fun d1 a1 r1 e=>by cases e;exact hka⟩,fun v hv _=>hvis v hv⟩)⟩
   (have h0':0<s.seen (xss[d][a].toNat):=by omega);rcases Int.lt_or_le (s.of (xss[d][a].toNat)) 0 with hof|hof
   ·(refine look_live hl hn' hf hP hd ha (hrow d hd) _ hk (by omega) h0' hof (by omega) fun ac' w' fv' kv' hf' hP'=>?_);exact⟨_,by dsimp only;omega,{s with low:=upd s.low d (min (s.low d) (s.seen (xss[d][a].toNat)))},O,(d,a+1)::r,false,root,i8,fv',kv',hf',hP',hI.edge_live hka h0' hof,rfl,.inr (.inr ⟨rfl,by simp,rfl,hr0,hr1,hvis⟩)⟩
   (refine look_old hl hn' hf hP hd ha (hrow d hd) _ hk (by omega) h0' hof (by omega) fun ac' w' fv' kv' hf' hP'=>?_);exact⟨_,by omega,s,O,(d,a+1)::r,false,root,i8,fv',kv',hf',hP',hI.edge_old hka h0' hof,rfl,.inr (.inr ⟨rfl,by simp,rfl,hr0,hr1,hvis⟩)⟩
  have hle:=hfr.len;(have hae:a=(xss[d]).length:=by omega);have hw:=Tarjan.work_pop (adj:=adjOf xss) (n:=xss.length) (d:=d) (a:=a) (r:=r) (f:=s.seen);by_cases heq:s.low d=s.seen d
  ·obtain⟨S,O',hO⟩:=List.append_of_mem ((hI.mem d).2 hfr.live);have hsort:=hI.sorted;(have hS:d∉S:=fun hd'=>by rw[hO,List.pairwise_append]at hsort;exact Nat.lt_irrefl _ (hsort.2.2 d hd' d (by simp)));(have hSn:∀v,v∈S→v<xss.length:=fun v hv=>hI.dom v ((hI.mem v).1 (by rw[hO];simp[hv])).1);obtain⟨hI',hlow⟩:=hI.close (by omega) heq hO hS;subst hO;refine look_close hl hn' hf hP hd hae (hrow d hd) heq (by omega) (by omega) (by omega) hSn hS (fun d' a' r' e=>⟨?_,hlow d' a' r' e⟩) (fun ac' w' fv' kv' hr hf' hP'=>?_) (fun ac' w' fv' kv' hr hf' hP'=>?_)
   ·subst e;exact hI.dom d' hI.seg.2.1.live.1
   ·exact⟨_,by dsimp only;omega,_,O',r,false,root,i8,fv',kv',hf',hP',hI',rfl,.inl ⟨rfl,hr,by omega,hr1,hvis⟩⟩
   exact⟨_,by dsimp only;omega,_,O',r,false,root,i8,fv',kv',hf',hP',hI',rfl,.inr (.inr ⟨rfl,hr,rfl,hr0,hr1,hvis⟩)⟩
  obtain⟨d',a',r',rfl,hI'⟩:=hI.up (by omega) heq;simp only[List.length_cons]at b2;refine look_up hl hn' hf hP hd (hI.dom d' hI.seg.2.1.live.1) hae (hrow d hd) heq (by omega) (fun ac' w' fv' kv' hf' hP'=>?_);exact⟨_,by dsimp only;omega,{s with low:=upd s.low d' (min (s.low d') (s.low d))},O,(d',a')::r',false,root,i8,fv',kv',hf',hP',hI',rfl,.inr (.inr ⟨rfl,by simp,rfl,hr0,hr1,hvis⟩)⟩
theorem enter_pass (hx:refused xss=0) (hn:RowsAt w0 nv xss) {m:Nat} {ac:Act} {w:World} {s:St} {O:List Nat} {D:List (Nat×Nat)} {act:Bool} {root:Int} {i8 fv:Value} {k:Nat}
  (hf:Fm 175 ac (ksP nv i8 fv (.int .i64 k) xss.length s.count s.now root gs gl go bd bo)) (hP:PS w0 w xss.length s O D gs gl go bd bo) (hI:Inv (adjOf xss) xss.length s O D act)
  (hm:m=Tarjan.work (adjOf xss) xss.length s.seen D+((xss.length:Int)-1-root).toNat) (hr0:0≤root) (hr1:root<xss.length) (hk:k<xss.length) (h0:s.seen k=0)
  (hD:D=[]∨(act=true∧∀d a r,D=(d,a)::r→(adjOf xss d)[a-1]? =some k)) (hvis:∀v:Nat,(v:Int)≤root→v≠k→0<s.seen v):
  (partedAt 1).wp Tryz.prog (Jumps (fun l' a' w'=>∃m',m'<m∧JP xss w0 nv gs gl go bd bo m' l' a' w') Q) ac w:=by
 obtain⟨hl,_,_⟩:=refused_zero hx;obtain⟨b1,b2,b3,b4⟩:=hI.bounds;have hw:=Tarjan.work_enter (adj:=adjOf xss) (D:=D) hk h0 (show 0<s.now+1 by omega);refine enter_any hl k hf hP hk (by omega) (by omega) (by omega) fun ac' w' hf' hP'=>?_
 refine wp_mono (look_pass hx hn hf' hP' (hI.enter hk h0 hD) (by simp) rfl hr0 hr1 fun v hv=>?_) (Jumps.mono fun l a w ⟨m',h1,h2⟩=>⟨m',by dsimp only at h1;omega,h2⟩);simp only[upd];by_cases e:v=k
 ·simp[e]
 simpa[e]using hvis v hv e
theorem next_pass (hx:refused xss=0) (hn:RowsAt w0 nv xss) {m:Nat} {ac:Act} {w:World} {s:St} {O:List Nat} {act:Bool} {root:Int} {i8 fv kv:Value}
  (hf:Fm 175 ac (ksP nv i8 fv kv xss.length s.count s.now root gs gl go bd bo)) (hP:PS w0 w xss.length s O [] gs gl go bd bo) (hI:Inv (adjOf xss) xss.length s O [] act)
  (hm:m=Tarjan.work (adjOf xss) xss.length s.seen []+((xss.length:Int)-1-root).toNat) (hr0: -1≤root) (hr1:root<xss.length) (hvis:∀v:Nat,(v:Int)≤root→0<s.seen v)
  (hQ:∀ac' w' s' i8' fv' kv' act',Fm 175 ac' (ksR nv i8' fv' kv' xss.length s'.count s'.now xss.length gs gl go bd bo)→PS w0 w' xss.length s' [] [] gs gl go bd bo→Inv (adjOf xss) xss.length s' [] [] act'→(∀v,v<xss.length→0<s'.seen v)→Q .ret ac' w'):
  (partedAt 0).wp Tryz.prog (Jumps (fun l' a' w'=>∃m',m'<m∧JP xss w0 nv gs gl go bd bo m' l' a' w') Q) ac w:=by
 obtain⟨hl,_,_⟩:=refused_zero hx;obtain rfl:=hI.nil_open;by_cases hend:root+1=xss.length
 ·(refine next_end (w0:=w0) hl hf hend fun ac' hf'=>?_);exact hQ ac' w s i8 fv kv act hf' hP hI fun v hv=>hvis v (by omega)
 obtain⟨r,rfl⟩:∃r:Nat,root=(r:Int)-1:=⟨(root+1).toNat,by omega⟩;have hrn:r<xss.length:=by omega
 by_cases h0:s.seen r=0
 ·(refine next_new hl hf hP hrn h0 fun ac' hf'=>?_);refine wp_mono (enter_pass hx hn hf' hP hI rfl (by omega) (by omega) hrn h0 (.inl rfl) fun v hv hne=>hvis v (by omega)) (Jumps.mono fun l a w ⟨m',h1,h2⟩=>⟨m',by omega,h2⟩)
 refine next_seen hl hf hP hrn (by omega) fun ac' hf'=>?_
 exact⟨_,by omega,s,[],[],act,r,i8,fv,kv,hf',hP,hI,rfl,.inl ⟨rfl,rfl,by omega,by omega,fun v hv=>by
  by_cases e:v=r
  ·subst e;omega
  exact hvis v (by omega)⟩⟩
end
end Go.Proofs.YtimkjnbihlgbiaaGreat
