/- FyB, FwK, laid together. -/
import Derived.Test.YteihmbaimbogaaaGreatJ36
import Derived.Scope
namespace Go.Proofs.YteihmbaimbogaaaGreat
open Go.RowKit
set_option linter.unusedVariables false
set_option linter.unusedSimpArgs false
theorem enters_lopen :∀args w,(callFunc 131 args).run Tryz.prog w= .ok (.enter 131 args) w:=Go.Proofs.enters_of Tryz.func131 (by kernel_rfl) rfl
theorem lopen_done {w:World} {be bl:Nat} {u:FrameMode} (hc:w.cell? ⟨be,0,none⟩=some (.int .i64 0)):
  CallsD Tryz.prog 131 #[.pointer (some ⟨be,0,none⟩),.pointer (some ⟨bl,0,none⟩)] u w fun e u' w'=>u'=u∧e= .returned (.tuple #[])∧w'=w:=by
 refine(callsD_of_wp (R:=fun e w'=>e= .returned (.tuple #[])∧w'=w) Tryz.func131 rfl ?_).mono ?_
 ·simp only[Tryz.ntmps131,List.size_toArray,List.length_cons,List.length_nil,Nat.reduceAdd,Nat.reduceSub,Array.replicate_succ,Array.replicate_zero,List.push_toArray,List.append_toArray,List.nil_append,List.cons_append];go_wp2_with fail
  go_end0
  exact⟨rfl,rfl⟩
 rintro e u' w' ⟨h1,h2,h3⟩;exact⟨h1,h2,h3⟩
theorem lopen_none {w:World} {be bl:Nat} {x:Int} {u:FrameMode} (hx:(x==0)=false) (hc:w.cell? ⟨be,0,none⟩=some (.int .i64 x)) (hf:w.frozen? ⟨bl,0,none⟩=false) {z:Value} (hl:w.cell? ⟨bl,0,none⟩=some z):
  CallsD Tryz.prog 131 #[.pointer (some ⟨be,0,none⟩),.pointer (some ⟨bl,0,none⟩)] u w fun e u' w'=>u'=u∧e= .returned (.tuple #[])∧w'=w.setCell ⟨bl,0,none⟩ (.pointer none):=by
 refine(callsD_of_wp (R:=fun e w'=>e= .returned (.tuple #[])∧w'=w.setCell ⟨bl,0,none⟩ (.pointer none)) Tryz.func131 rfl ?_).mono ?_
 ·simp only[Tryz.ntmps131,List.size_toArray,List.length_cons,List.length_nil,Nat.reduceAdd,Nat.reduceSub,Array.replicate_succ,Array.replicate_zero,List.push_toArray,List.append_toArray,List.nil_append,List.cons_append];go_wp2_with fail
  go_end0
  exact⟨rfl,rfl⟩
 rintro e u' w' ⟨h1,h2,h3⟩;exact⟨h1,h2,h3⟩
theorem frame_lit {n m:Nat} {a:Act} {ks:List Value} {ds:List Deferred} (h:a.defers=ds∧a.tmps.size=n∧a.tmps.toList.take ks.length=ks) (hm:n=ks.length+m):∃f:Nat→Value,a=⟨(ks++lits f 0 m).toArray,ds⟩:=by
 obtain⟨h1,h2,h3⟩:=h;obtain⟨⟨l⟩,d⟩:=a;simp only at h1 h2 h3;subst h1;have hl:(l.drop ks.length).length=m:=by simp at h2 ⊢;omega
 refine⟨fun i=>(l.drop ks.length).getD i undef,?_⟩;have h4:=lits_of (l.drop ks.length) 0 [] rfl;rw[hl]at h4;simp only[List.nil_append]at h4;rw[←h4]
 conv=>lhs;rw[←List.take_append_drop ks.length l]
 rw[show List.take ks.length l=ks from h3]
section
variable {w0 w:World} {R:List Asn}
set_option maxRecDepth 100000 in
set_option maxHeartbeats 4000000 in
theorem open_idle {p nb:Nat} {D:DK} (hD:D.ok nb) (h96:96<nb) (ho:D.off=false) (hway:wayP (bk D.now 0)=some []) (h:Sep w0 w (diskR p D::R)):
  Calls Tryz.prog 78 #[.pointer (some ⟨p,0,none⟩)] w fun e w'=>∃q,e= .returned (.tuple #[.pointer (some ⟨q,0,none⟩),.int .i64 0])∧Sep w0 w' (ledgerR q p false::diskR p D.fl::R):=by
 obtain⟨bl,hbl⟩:∃b,b=w.heap.size:=⟨_,rfl⟩;have hS2:Hid (Sep w0 (((w.alloc (.cells #[.pointer (some ⟨bl+1+1,0,none⟩)] 97)).alloc (.cells #[.int .i64 0] 39)).alloc (.cells #[.iface 23 (.pointer (some ⟨p,0,none⟩)),.bool false] 180)) (ledgerR (bl+1+1) p false::diskR p D::errBox (bl+1) 0:: .box bl 97 #[.pointer (some ⟨bl+1+1,0,none⟩)]::R)):=Lh (by have:=((h.bN 97 #[.pointer (some ⟨bl+1+1,0,none⟩)]).bN 39 #[.int .i64 0]).bN 180 #[.iface 23 (.pointer (some ⟨p,0,none⟩)),.bool false];simp only[World.size_alloc,←hbl]at this;exact Sep.sel [0,3,1,2] this (by decide) (by simp[ledgerR,errBox]));have hmf:∀(fn:Fn) (first cap:Array Value) (w:World),(Instr.makeFunc fn first cap).run Tryz.prog w= .ok (.func fn first cap) w:=fun _ _ _ _=>rfl
 have hon2:=on_any (Sep.sel [1,0,2,3] hS2.out (by decide) (by simp));rw[ho]at hon2;have hbs2:=meth_dblocks (nb:=nb) 1 hD hS2.out rfl;have hc2:=hS2.out.bC 3 rfl 0;simp only[gA,gB]at hc2;have hrd:=lread_on (i:=0) hD (by omega) ho hS2.out;have hwy:Hid (∀W v,Sep w0 W (bytesR v (bk D.now 0)::ledgerR (bl+1+1) p false::diskR p D::errBox (bl+1) 0:: .box bl 97 #[.pointer (some ⟨bl+1+1,0,none⟩)]::R)→Calls Tryz.prog 132 #[v] W fun e w'=>∃A c,e= .returned (.tuple #[.slice A 0 c,.bool true])∧Sep w0 w' (ledgerR (bl+1+1) p false::diskR p D::errBox (bl+1) 0:: .box bl 97 #[.pointer (some ⟨bl+1+1,0,none⟩)]::R)):=Lh fun W v hW=>by refine(way_any (bk_len hD.now (by omega)) hW).mono ?_;intro e w' hO;unfold wayOut at hO;rw[hway]at hO;obtain⟨u,rfl,hS⟩:=hO;obtain⟨A,c,rfl,_⟩:=hS.sl_any 0 rfl;exact⟨A,c,rfl,hS.drop 2⟩
 have hfl:Hid (∀W,Sep w0 W (ledgerR (bl+1+1) p false::diskR p D::errBox (bl+1) 0:: .box bl 97 #[.pointer (some ⟨bl+1+1,0,none⟩)]::R)→Calls Tryz.prog 134 #[.pointer (some ⟨bl+1+1,0,none⟩)] W fun e w'=>e= .returned (.tuple #[])∧Sep w0 w' (ledgerR (bl+1+1) p false::diskR p D.fl::errBox (bl+1) 0:: .box bl 97 #[.pointer (some ⟨bl+1+1,0,none⟩)]::R)):=Lh fun W hW=>lflush_on hD ho hW
 have q0:¬(nb:Int)≤96:=by omega
 clear hD h96 ho hway h;rw[hbl]at*
 go_enter_defers Tryz.func78,Tryz.ntmps78
 go_wp2_with fail;refine wp_scope_straight ?_;go_wp2_with(first |(go_at_call 39;refine hon2.mono ?_;rintro e w9 ⟨rfl,h9⟩;obtain rfl:=h9.symm;clear hon2)|(go_at_call 84;refine hbs2.mono ?_;rintro e w9 ⟨rfl,h9⟩;obtain rfl:=h9.symm;clear hbs2)|(go_at_call 130;refine hrd.mono ?_;rintro e w9 ⟨u,rfl,h9⟩;have hw9:=hwy.out _ _ h9;clear hrd h9 hwy)|(go_at_call 132;refine hw9.mono ?_;rintro e w8 ⟨A,c,rfl,h8⟩;have h8':=Lh h8;have hc8:=h8.bC 3 rfl 0;simp only[gA,gB]at hc8;clear h8 hw9));go_loopw[32] (fun iv wr=>iv= .int .i64 0∧wr=w8) (fun _ _=>0)
 case atStart=>exact⟨rfl,rfl⟩
 obtain⟨rfl,rfl⟩:=hrel;go_wp2_with(first |(go_at_call 134;refine(hfl.out _ h8'.out).mono ?_;rintro e w4 ⟨rfl,h4⟩;(have x1:=h4.bC 3 rfl 0);(have x2:=h4.bF 3 rfl 0);(have h3:=h4.bS 3 rfl 0 (.pointer (some ⟨w.heap.size+1+1,0,none⟩)));(have x3:=h3.bC 2 rfl 0);(have x4:=h3.bF 2 rfl 0);(have h2:=h3.bS 2 rfl 0 (.int .i64 0));replace h2:=Lh h2;clear h3 h4 h8' hc8 hfl;try simp only[gA,gB]at x1 x3));refine caught_door_ret ?_;have ec:=h2.out.bC 2 rfl 0;have el:=h2.out.bC 3 rfl 0;try simp only[gA,gB]at ec el
 refine leaves_cons (u:=.returning) (by simp) (enter_args _ _ enters_lopen) ?_;refine(lopen_done ec).mono ?_;rintro e u' w' ⟨rfl,rfl,rfl⟩;refine⟨.tuple #[.pointer (some ⟨w.heap.size+1+1,0,none⟩),.int .i64 0],by simp[results,Tryz.results78,go_sem,ec,el],_,rfl,?_⟩;exact(Sep.sel [2,3,0,1] h2.out (by decide) (by simp):Sep w0 _ (_::_::ledgerR (w.heap.size+1+1) p false::diskR p D.fl::R)).drop 2
set_option maxRecDepth 100000 in
set_option maxHeartbeats 4000000 in
theorem open_raw {p nb:Nat} {D:DK} (hD:D.ok nb) (ho:D.off=false) (hraw:nb≤96∨(96<nb∧wayP (bk D.now 0)=none)) (h:Sep w0 w (diskR p D::R)):
  Calls Tryz.prog 78 #[.pointer (some ⟨p,0,none⟩)] w fun e w'=>e= .returned (.tuple #[.pointer none,.int .i64 12])∧Sep w0 w' (diskR p D::R):=by
 obtain⟨bl,hbl⟩:∃b,b=w.heap.size:=⟨_,rfl⟩;have hS2:Hid (Sep w0 (((w.alloc (.cells #[.pointer (some ⟨bl+1+1,0,none⟩)] 97)).alloc (.cells #[.int .i64 0] 39)).alloc (.cells #[.iface 23 (.pointer (some ⟨p,0,none⟩)),.bool false] 180)) (ledgerR (bl+1+1) p false::diskR p D::errBox (bl+1) 0:: .box bl 97 #[.pointer (some ⟨bl+1+1,0,none⟩)]::R)):=Lh (by have:=((h.bN 97 #[.pointer (some ⟨bl+1+1,0,none⟩)]).bN 39 #[.int .i64 0]).bN 180 #[.iface 23 (.pointer (some ⟨p,0,none⟩)),.bool false];simp only[World.size_alloc,←hbl]at this;exact Sep.sel [0,3,1,2] this (by decide) (by simp[ledgerR,errBox]));have hmf:∀(fn:Fn) (first cap:Array Value) (w:World),(Instr.makeFunc fn first cap).run Tryz.prog w= .ok (.func fn first cap) w:=fun _ _ _ _=>rfl
 have hon2:=on_any (Sep.sel [1,0,2,3] hS2.out (by decide) (by simp));rw[ho]at hon2;have hbs2:=meth_dblocks (nb:=nb) 1 hD hS2.out rfl;have hc2:=hS2.out.bC 3 rfl 0;simp only[gA,gB]at hc2;have h0:0<nb:=by have:=hD.some;omega
 have hrd:=lread_on (i:=0) hD h0 ho hS2.out;have hwy:Hid (96<nb→∀W v,Sep w0 W (bytesR v (bk D.now 0)::ledgerR (bl+1+1) p false::diskR p D::errBox (bl+1) 0:: .box bl 97 #[.pointer (some ⟨bl+1+1,0,none⟩)]::R)→Calls Tryz.prog 132 #[v] W fun e w'=>e= .returned (.tuple #[.slice none 0 0,.bool false])∧Sep w0 w' (ledgerR (bl+1+1) p false::diskR p D::errBox (bl+1) 0:: .box bl 97 #[.pointer (some ⟨bl+1+1,0,none⟩)]::R)):=Lh fun h96 W v hW=>by refine(way_any (bk_len hD.now h0) hW).mono ?_;intro e w' hO;unfold wayOut at hO;rw[(hraw.resolve_left (by omega)).2]at hO;exact⟨hO.1,hO.2.drop 1⟩
 clear hD ho hraw h;rw[hbl]at*
 go_enter_defers Tryz.func78,Tryz.ntmps78
 go_wp2_with fail;refine wp_scope_jumps 0 (fun a' w'=>(a'.defers=[{target:=.fn (.func 128) #[],args:=#[.pointer (some ⟨w.heap.size+1+1,0,none⟩),.pointer (some ⟨w.heap.size+1,0,none⟩)]},{target:=.fn (.func 131) #[.pointer (some ⟨w.heap.size+1,0,none⟩),.pointer (some ⟨w.heap.size,0,none⟩)],args:=#[]}]∧a'.tmps.size=56∧a'.tmps.toList.take 4=[.pointer (some ⟨p,0,none⟩),undef,.pointer (some ⟨w.heap.size,0,none⟩),.pointer (some ⟨w.heap.size+1,0,none⟩)])∧
  Hid (Sep w0 w' (ledgerR (w.heap.size+1+1) p false::diskR p D::errBox (w.heap.size+1) 0:: .box w.heap.size 97 #[.pointer (some ⟨w.heap.size+1+1,0,none⟩)]::R))) (fun _ _=>0) rfl ?_ ?_
 ·by_cases h96:96<nb
  ·(have q0:¬(nb:Int)≤96:=by omega);have hwy':=hwy.out h96;go_wp2_with(first |(go_at_call 39;refine hon2.mono ?_;rintro e w9 ⟨rfl,h9⟩;obtain rfl:=h9.symm;clear hon2)|(go_at_call 84;refine hbs2.mono ?_;rintro e w9 ⟨rfl,h9⟩;obtain rfl:=h9.symm;clear hbs2)|(go_at_call 130;refine hrd.mono ?_;rintro e w9 ⟨u,rfl,h9⟩;have hw9:=hwy' _ _ h9;clear hrd h9 hwy hwy')|(go_at_call 132;refine hw9.mono ?_;rintro e w8 ⟨rfl,h8⟩;have h8':=Lh h8;clear h8 hw9))
   go_step3
   exact⟨rfl,⟨rfl,rfl,rfl⟩,h8'⟩
  (have q0:(nb:Int)≤96:=by omega);go_wp2_with(first |(go_at_call 39;refine hon2.mono ?_;rintro e w9 ⟨rfl,h9⟩;obtain rfl:=h9.symm;clear hon2)|(go_at_call 84;refine hbs2.mono ?_;rintro e w9 ⟨rfl,h9⟩;obtain rfl:=h9.symm;clear hbs2))
  go_step3
  exact⟨rfl,⟨rfl,rfl,rfl⟩,hS2⟩
 rintro a' w' ⟨hF,hS⟩;obtain⟨f,rfl⟩:=frame_lit (ks:=[_,_,_,_]) (m:=52) hF rfl;clear hF hon2 hbs2 hrd hwy hc2 hS2;simp only[lits,Nat.reduceAdd,List.cons_append,List.nil_append];go_wp2_with fail;simp only[Exit.jump];refine caught_door (x:=12) (y:=0) (R:=diskR p D:: .box w.heap.size 97 #[.pointer (some ⟨w.heap.size+1+1,0,none⟩)]::R) (Sep.sel [0,2,1,3] hS.out (by decide) (by simp)) fun w2 h2=>?_
 have ec:=h2.bC 1 rfl 0;have el:=h2.bC 3 rfl 0;have ef:=h2.bF 3 rfl 0;try simp only[gA,gB]at ec el
 have h3:=h2.bS 3 rfl 0 (.pointer none);refine leaves_cons (u:=.returning) (by simp) (enter_args _ _ enters_lopen) ?_;refine(lopen_none (by decide) ec ef el).mono ?_;rintro e u' w' ⟨rfl,rfl,rfl⟩;have ec3:=h3.bC 1 rfl 0;have el3:=h3.bC 3 rfl 0;try simp only[gA,gB]at ec3 el3
 refine⟨.tuple #[.pointer none,.int .i64 12],by simp[results,Tryz.results78,go_sem,ec3,el3],rfl,?_⟩;exact(Sep.sel [0,1,3,2] h3 (by decide) (by simp):Sep w0 _ (_::_::_::diskR p D::R)).drop 3
end
def volMark :List UInt8:=[115,104,117,110,116,45,118,111,108,117,109,101,45,49,33,10]
def firstB (names:Nat):List UInt8:=layB (layB zeroB 0 volMark) 16 (w2 names)
theorem firstB_len (names:Nat):(firstB names).length=512:=by
 unfold firstB;have h:(layB zeroB 0 volMark).length=512:=by rw[layB_len]<;>rw[zeroB_len];decide
 rw[layB_len (by rw[h,w2_len];decide),h]
def VS.raw (n names:Nat):VS:=⟨n,names,DK.made n,(DK.made n).now.drop 96,0,0,0,0,0,0⟩
def VS.laid (n names:Nat):VS:=(((VS.raw n names).put 0 (firstB names)).put 1 (setB (bk ((VS.raw n names).put 0 (firstB names)).cur 1) 0)).keep 0 ⟨1,0,0,0,[0]⟩
def VS.new (n names:Nat):VS:= {(VS.laid n names).settled with rB:=(VS.laid n names).count,rI:=names}
theorem enters_ffmt :∀args w,(callFunc 83 args).run Tryz.prog w= .ok (.enter 83 args) w:=Go.Proofs.enters_of Tryz.func83 (by kernel_rfl) rfl
theorem ffmt_done {w:World} {be bl:Nat} {u:FrameMode} (hc:w.cell? ⟨be,0,none⟩=some (.int .i64 0)):
  CallsD Tryz.prog 83 #[.pointer (some ⟨be,0,none⟩),.pointer (some ⟨bl,0,none⟩)] u w fun e u' w'=>u'=u∧e= .returned (.tuple #[])∧w'=w:=by
 refine(callsD_of_wp (R:=fun e w'=>e= .returned (.tuple #[])∧w'=w) Tryz.func83 rfl ?_).mono ?_
 ·simp only[Tryz.ntmps83,List.size_toArray,List.length_cons,List.length_nil,Nat.reduceAdd,Nat.reduceSub,Array.replicate_succ,Array.replicate_zero,List.push_toArray,List.append_toArray,List.nil_append,List.cons_append];go_wp2_with fail
  go_end0
  exact⟨rfl,rfl⟩
 rintro e u' w' ⟨h1,h2,h3⟩;exact⟨h1,h2,h3⟩
theorem ffmt_nil {w:World} {be bl:Nat} {x:Int} {v:Value} {u:FrameMode} (hx:x≠0) (hc:w.cell? ⟨be,0,none⟩=some (.int .i64 x)) (hv:w.cell? ⟨bl,0,none⟩=some v) (hp:∃a,v= .pointer a) (hf:w.frozen? ⟨bl,0,none⟩=false):
  CallsD Tryz.prog 83 #[.pointer (some ⟨be,0,none⟩),.pointer (some ⟨bl,0,none⟩)] u w fun e u' w'=>u'=u∧e= .returned (.tuple #[])∧w'=w.setCell ⟨bl,0,none⟩ (.pointer none):=by
 obtain⟨a,rfl⟩:=hp;have hx1:(x==0)=false:=by simpa using hx
 have hx2:(x !=0)=true:=by simpa using hx
 refine(callsD_of_wp (R:=fun e w'=>e= .returned (.tuple #[])∧w'=w.setCell ⟨bl,0,none⟩ (.pointer none)) Tryz.func83 rfl ?_).mono ?_
 ·simp only[Tryz.ntmps83,List.size_toArray,List.length_cons,List.length_nil,Nat.reduceAdd,Nat.reduceSub,Array.replicate_succ,Array.replicate_zero,List.push_toArray,List.append_toArray,List.nil_append,List.cons_append];go_wp2_with fail
  go_end0
  exact⟨rfl,rfl⟩
 rintro e u' w' ⟨h1,h2,h3⟩;exact⟨h1,h2,h3⟩
theorem made_ok {n:Nat} (h0:1≤n) (h1:n≤4096):(DK.made n).ok n:=
 ⟨(fresh_blks n).set 0 (headB_len (ps:=[]) (by decide)),(fresh_blks n).set 0 (headB_len (ps:=[]) (by decide)),h1,h0,fun x hx=>absurd hx List.not_mem_nil,by show(-1:Int)≤ -1∧(-1:Int)≤9223372036854775807;omega⟩
theorem made_bk {n i:Nat} (h:i<n) (h0:0<i):bk (DK.made n).now i=zeroB:=by unfold DK.made;simp only;rw[bk_set_ne _ _ (by omega),bk_rep h]
theorem raw_vc {n names fb:Nat} (h0:98+(names+7)/8<n) (h1:n≤4096):VC (VS.raw n names) ⟨none,[],fb,[]⟩:=
 ⟨made_ok (n:=n) (by omega) h1,by show 96<n;omega,rfl,(made_ok (n:=n) (by omega) h1).now.drop 96,fun x hx=>absurd hx List.not_mem_nil,fun x hx=>absurd hx List.not_mem_nil,fun k _ _=>bk_drop _ _ _,Nat.le_refl _,fun _=>rfl⟩
theorem raw_vf {n names:Nat} (h0:98+(names+7)/8<n) (h3:names≤1024):VF (VS.raw n names):=⟨h3,by show 96+(2+(names+7)/8)<n;omega⟩
theorem act_live {D:DK} (x:DAct) (ho:D.off=false) (hl:D.left<0):(D.act x).off=false∧(D.act x).left=D.left:=by
 cases x with
 |none=>(show(DK.step _).off=_∧(DK.step _).left=_);unfold DK.step;rw[if_neg (by simp only;omega)];exact⟨ho,rfl⟩
 |some x=>(show(DK.step _).off=_∧(DK.step _).left=_);unfold DK.step;rw[if_neg (by simp only;omega)];exact⟨ho,rfl⟩
theorem runD_live :∀(l:List DAct) {D:DK},D.off=false→D.left<0→(runD l D).2=true∧(runD l D).1.off=false∧(runD l D).1.left=D.left
 |[],D,ho,_=>⟨rfl,ho,rfl⟩
 |x::l,D,ho,hl=>by obtain⟨h1,h2⟩:=act_live x ho hl;rw[runD,if_neg (by rw[ho];decide)];obtain⟨h3,h4,h5⟩:=runD_live l h1 (by rw[h2];exact hl);exact⟨h3,h4,h5.trans h2⟩
theorem commit_live {S:VS} (ho:S.D.off=false) (hl:S.D.left<0):S.commit.2=true∧S.commit.1.off=false∧S.commit.1.left=S.D.left:=by
 unfold VS.commit;split
 ·exact⟨rfl,ho,rfl⟩
 exact runD_live _ ho hl
theorem free_zero {n:Nat} (h:0<n):freeL zeroB n=some 0:=by unfold freeL;rw[List.find?_range_eq_some];exact⟨by decide,List.mem_range.2 h,fun i hi=>absurd hi (Nat.not_lt_zero _)⟩
theorem raw_bk {n names k:Nat} (h:96+k<n):bk (VS.raw n names).cur k=zeroB:=by
 show bk ((DK.made n).now.drop 96) k=_
 rw[bk_drop,made_bk h (by omega)]
theorem zero_ino {c:Blks} {n:Nat} (h:bk c (2+n/8)=zeroB):inoP c n=⟨0,0,0,0,[]⟩:=by
 unfold inoP;rw[h];have e:(zeroB.drop (n%8*64)).take 64=List.replicate 64 0:=by unfold zeroB;rw[List.drop_replicate,List.take_replicate,show min 64 (512-n%8*64)=64 by omega]
 rw[e];rfl
section
variable {w0 W:World} {R:List Asn}
noncomputable def formatFrom (k:Nat):Code:=(Tryz.f34.body.bind (fromR k)).getD .skip
set_option maxRecDepth 100000 in
set_option maxHeartbeats 4000000 in
theorem format_tail {p n names F bf be q fb:Nat} {u2 u3 u7 u8 u9 u10 u11 u12 u13 u14 u15 u16 u17 u18 u19 u20 u21 u22 u23 u24 u25 u26 u27 u28 u29 u30 u31 u32 u33 u34 u35 u36 u37 u38 u39 u40 u41 u42 u43 u44 u45 u46 u47 u48 u49 u50 u51 u52 u53 u54 u55 u56 u57 u58 u59 u60 u61 u62 u63 u64 u65 u66 u67 u68 u69 u70 u71 u72 u73 u74 u75 u76 u77 u78 u79 u80 u81 u82 u83 u84 u85 u86 u87 u88 u89 u90 u91 u92 u93 u94 u95 u96 u97 u98 u99 u100 u101 u102 u103 u104 u105 u106 u107 u108 u109 u110 u111 u112:Value} (h0:98+(names+7)/8<n) (h1:n≤4096) (h2:2≤names) (h3:names≤1024) (hW:Sep w0 W (volR F q p (VS.raw n names) ⟨none,[],fb,[]⟩::errBox be 0:: .box bf 24 #[.pointer (some ⟨F,0,none⟩)]::R)):
  (formatFrom 13).wp Tryz.prog (bodyPostD Tryz.prog Tryz.f34 (fun e w'=>∃f q,e= .returned (.tuple #[.pointer (some ⟨f,0,none⟩),.int .i64 0])∧Sep w0 w' (restR f q p (VS.new n names)::R))) {tmps:=#[.pointer (some ⟨p,0,none⟩),.int .i64 names,u2,u3,.pointer (some ⟨bf,0,none⟩),.pointer (some ⟨be,0,none⟩),.pointer (some ⟨q,0,none⟩),u7,u8,u9,u10,u11,u12,u13,u14,u15,u16,u17,u18,u19,u20,u21,u22,u23,u24,u25,u26,u27,u28,u29,u30,u31,u32,u33,u34,u35,u36,u37,u38,u39,u40,u41,u42,u43,u44,u45,u46,u47,u48,u49,u50,u51,u52,u53,u54,u55,u56,u57,u58,u59,u60,u61,u62,u63,u64,u65,u66,u67,u68,u69,u70,u71,u72,u73,u74,u75,u76,u77,u78,u79,u80,u81,u82,u83,u84,u85,u86,u87,u88,u89,u90,u91,u92,u93,u94,u95,u96,u97,u98,u99,u100,u101,u102,u103,u104,u105,u106,u107,u108,u109,u110,u111,u112],defers:=[{target:=.fn (.func 41) #[],args:=#[.pointer (some ⟨F,0,none⟩),.pointer (some ⟨be,0,none⟩)]},{target:=.fn (.func 83) #[.pointer (some ⟨be,0,none⟩),.pointer (some ⟨bf,0,none⟩)],args:=#[]}]} W:=by
 obtain⟨h1,h2,h3⟩:(n≤4096)∧2≤names∧names≤1024:=⟨h1,h2,h3⟩;obtain⟨k0,hknf,hk0,hk1,hk2⟩:=info_of info_byte;have hmk:∀W,(Instr.makeSlice 35 (.int .i64 512) (.int .i64 512)).run Tryz.prog W= .ok (.slice (some ⟨W.heap.size,0,none⟩) 512 512) (W.alloc (.cells (madeCells #[.int .u8 0] 512) 5)):=fun W=>run_make_n (P:=Tryz.prog) 35 5 k0 (.int .u8 0) 1 Tryz.underlying35 hknf hk0 hk1 hk2 rfl .i64 .i64 512 (by omega) (by unfold maxLen;omega) W
 obtain⟨Z,hZ⟩:∃Z,Z=errBox be 0:: .box bf 24 #[.pointer (some ⟨F,0,none⟩)]::R:=⟨_,rfl⟩;have hcz:Hid (∀W Y,Sep w0 W (Y++Z)→W.cell? ⟨bf,0,none⟩=some (.pointer (some ⟨F,0,none⟩))∧W.cell? ⟨be,0,none⟩=some (.int .i64 0)):=Lh fun W Y hW=>by rw[hZ]at hW;exact⟨hW.box_in 1 rfl 0,hW.box_in 0 rfl 0⟩
 rw[←hZ]at hW;have hE:=hW.made 5 (.int .u8 0) 512 (by unfold maxLen;omega);obtain⟨w1,hcp,hS1,_⟩:=hE.copystr_run (P:=Tryz.prog) 0 rfl 35 9 3 Tryz.underlying35 (by kernel_rfl) 0 512 512 ⟨#[115,104,117,110,116,45,118,111,108,117,109,101,45,49,33,10]⟩ (by decide) (by decide);have hS2:Sep w0 w1 (bytesR (.slice (some ⟨W.heap.size,0,none⟩) 512 512) (layB zeroB 0 volMark)::volR F q p (VS.raw n names) ⟨none,[],fb,[]⟩::Z):=by rw[bytesR_of (by rw[layB_len,zeroB_len];rw[zeroB_len];decide)];exact hS1
 have hw2:=write2_any (g:=W.heap.size) (c:=512) (o:=0) (m:=512) (cap:=512) (i:=16) (n:=names) hS2 (by rw[layB_len,zeroB_len];rw[zeroB_len];decide) (by decide) (by decide) (by omega);rw[show layB (layB zeroB 0 volMark) (0+16) (w2 names)=firstB names from rfl]at hw2;have hlt0:98+(names+7)/8<n:=by omega
 have hVC0:VC (VS.raw n names) ⟨none,[],fb,[]⟩:=raw_vc hlt0 h1;have hVF0:=raw_vf hlt0 h3;have hpt2:Hid (∀W2,Sep w0 W2 (bytesR (.slice (some ⟨W.heap.size,0,none⟩) 512 512) (firstB names)::volR F q p (VS.raw n names) ⟨none,[],fb,[]⟩::Z)→Calls Tryz.prog 88 #[.pointer (some ⟨F,0,none⟩),.int .i64 0,.slice (some ⟨W.heap.size,0,none⟩) 512 512] W2 fun e w'=>e= .returned (.tuple #[])∧∃a1,VC ((VS.raw n names).put 0 (firstB names)) a1∧Sep w0 w' (volR F q p ((VS.raw n names).put 0 (firstB names)) a1::Z)):=Lh fun W2 hW2=>by have h5:=((hW2.perm (List.Perm.swap _ _ _)).vol_cut hVC0 0).perm (List.Perm.swap _ _ _);refine(put_blk (i:=0) hVC0 (by show 0<n-96;omega) h5).mono ?_;rintro e w' ⟨rfl,h6⟩;exact⟨rfl,_,hVC0.put _ (by show 0<n-96;omega) (firstB_len names),h6⟩
 obtain⟨S1,hS1d⟩:∃S1,S1=(VS.raw n names).put 0 (firstB names):=⟨_,rfl⟩;rw[←hS1d]at hpt2;have hVF1:VF S1:=by rw[hS1d];exact⟨hVF0.names,hVF0.room⟩
 have hb1:bk S1.cur 1=zeroB:=by rw[hS1d];(show bk ((VS.raw n names).cur.set 0 _) 1=_);rw[bk_set_ne _ _ (by decide),raw_bk (by omega)]
 have hcn:0<S1.count:=by rw[hS1d];show 0<n-96-(2+(names+7)/8);omega
 have hft1:fitP S1 [] 1=some (S1.put 1 (setB (bk S1.cur 1) 0),[0]):=by rw[fitP_one,hb1,free_zero hcn]
 obtain⟨S2,hS2d⟩:∃S2,S2=S1.put 1 (setB (bk S1.cur 1) 0):=⟨_,rfl⟩;rw[←hS2d]at hft1;have hVF2:VF S2:=by rw[hS2d];exact⟨hVF1.names,hVF1.room⟩
 obtain⟨S3,hS3d⟩:∃S3,S3=S2.keep 0 ⟨1,0,0,0,[0]⟩:=⟨_,rfl⟩;have hnew:VS.new n names= {S3.settled with rB:=S3.count,rI:=names}:=by rw[hS3d,hS2d,hS1d];rfl
 have hi2:inoP S2.cur 0=⟨0,0,0,0,[]⟩:=by refine zero_ino ?_;rw[hS2d];(show bk (S1.cur.set 1 _) 2=_);rw[bk_set_ne _ _ (by decide),hS1d];(show bk ((VS.raw n names).cur.set 0 _) 2=_);rw[bk_set_ne _ _ (by decide),raw_bk (by omega)]
 have hsw2:SmallW S2:=by rw[hS2d,hS1d];exact⟨by show(-1000000:Int)≤0;decide,by show(0:Int)≤1000000;decide,by show(-1000000:Int)≤0;decide,by show(0:Int)≤1000000;decide⟩
 have hft2:Hid (∀W2 a1 bx,VC S1 a1→Sep w0 W2 (.box bx 118 #[.int .i64 1,.int .i64 0,.int .i64 0,.int .i64 0,.slice none 0 0]::volR F q p S1 a1::Z)→Calls Tryz.prog 89 #[.pointer (some ⟨F,0,none⟩),.pointer (some ⟨bx,0,none⟩),.int .i64 1] W2 fun e w'=>e= .returned (.tuple #[])∧∃a2 A c,VC S2 a2∧Sep w0 w' (volR F q p S2 a2:: .box bx 118 #[.int .i64 1,.int .i64 0,.int .i64 0,.int .i64 0,.slice A 1 c]::intsR (.slice A 1 c) (spI [0])::Z)):=Lh fun W2 a1 bx hC hW2=>by have h5:Sep w0 W2 (volR F q p S1 a1:: .box bx 118 (infoC ⟨1,0,0,0,[]⟩ (.slice none 0 0))::intsR (.slice none 0 0) (spI [])::Z):=Sep.sel [2,1,0] (hW2.sl_nil 3 1) (by decide) (by simp);refine(fit_any (x:=⟨1,0,0,0,[]⟩) (n:=1) hC hVF1 (by decide) (by decide) (fun s hs=>by cases hs) h5).mono ?_;intro e w' ho;unfold fitOut at ho;simp only[hft1]at ho;obtain⟨rfl,a2,v,_,hC2,h6⟩:=ho;obtain⟨A,c,e9⟩:=h6.sl_shape 2 rfl;have e10:(spI [0]).length=1:=rfl;rw[e10]at e9;subst e9;exact⟨rfl,a2,A,c,hC2,h6⟩
 have hkp2:Hid (∀W2 a2 bx A c,VC S2 a2→Sep w0 W2 (volR F q p S2 a2:: .box bx 118 #[.int .i64 1,.int .i64 0,.int .i64 0,.int .i64 0,.slice A 1 c]::intsR (.slice A 1 c) (spI [0])::Z)→Calls Tryz.prog 90 #[.pointer (some ⟨F,0,none⟩),.int .i64 0,.agg #[.int .i64 1,.int .i64 0,.int .i64 0,.int .i64 0,.slice A 1 c]] W2 fun e w'=>e= .returned (.tuple #[])∧∃a3,VC S3 a3∧Sep w0 w' (volR F q p S3 a3:: .box bx 118 #[.int .i64 1,.int .i64 0,.int .i64 0,.int .i64 0,.slice A 1 c]::intsR (.slice A 1 c) (spI [0])::Z)):=Lh fun W2 a2 bx A c hC hW2=>by refine(keep_any (n:=0) (x:=⟨1,0,0,0,[0]⟩) (v:=.slice A 1 c) hC hVF2 (by rw[hS2d,hS1d];show 0<names;omega) ⟨by decide,by decide,by decide,by decide,by decide,fun k hk=>by simp at hk;omega⟩ (by rw[hi2];decide) hsw2 (intsT_part 1 rfl) hW2).mono ?_;rintro e w' ⟨rfl,a3,hC3,h6⟩;rw[←hS3d]at hC3 h6;exact⟨rfl,a3,hC3,h6⟩
 have hlive:=commit_live (S:=S3) (by rw[hS3d,hS2d,hS1d];rfl) (by rw[hS3d,hS2d,hS1d];show(-1:Int)<0;decide);have hset2:Hid (∀W2 a3,VC S3 a3→Sep w0 W2 (volR F q p S3 a3::Z)→Calls Tryz.prog 91 #[.pointer (some ⟨F,0,none⟩)] W2 fun e w'=>e= .returned (.tuple #[])∧∃a4,VC S3.settled a4∧Sep w0 w' (volR F q p S3.settled a4::Z)):=Lh fun W2 a3 hC hW2=>by refine(settle_any hC (by rw[hS3d,hS2d,hS1d];show(0+1+1+1:Nat)≤40;decide) (by rw[hS3d,hS2d,hS1d];show(0:Nat)≤60000;decide) hW2).mono ?_;intro e w' ho;unfold settleOut at ho;rw[if_pos hlive.1]at ho;obtain⟨rfl,a4,hV4,h6⟩:=ho;exact⟨rfl,a4,hV4.on hlive.2.1,h6⟩
 have hVFs:VF S3.settled:=by rw[hS3d];exact⟨hVF2.names,hVF2.room⟩
 have hsy2:Hid (∀W2 a4,VC S3.settled a4→Sep w0 W2 (volR F q p S3.settled a4::Z)→Calls Tryz.prog 76 #[.pointer (some ⟨q,0,none⟩)] W2 fun e w'=>e= .returned (.int .i64 0)∧Sep w0 w' (volR F q p S3.settled a4::Z)):=Lh fun W2 a4 hC hW2=>by have h5:=hW2.starL_open;have hoff:S3.settled.D.off=false:=hlive.2.1;have:=lsync_any (q:=q) (p:=p) (dead:=false) hC.dok (Sep.sel [1,2,0,3,4] h5 (by decide) (by simp[volP]):Sep w0 W2 (ledgerR q p false::diskR p S3.settled.D::fsB F q S3.settled a4.sb (.map (some a4.fb)) false::seenR a4.sb a4.SM::blkM a4.fb a4.FM::Z));rw[hoff]at this;refine this.mono ?_;rintro e w' ⟨rfl,h9⟩;refine⟨rfl,?_⟩;have h6:Sep w0 w' (volP F q p S3.settled a4++Z):=Sep.sel [2,0,1,3,4] h9 (by decide) (by simp);exact h6.starL_shut
 have hct2:Hid (∀W2 a4,VC S3.settled a4→Sep w0 W2 (volR F q p S3.settled a4::Z)→Calls Tryz.prog 81 #[.pointer (some ⟨F,0,none⟩)] W2 fun e w'=>e= .returned (.int .i64 S3.count)∧w'=W2):=Lh fun W2 a4 hC hW2=>count_any (S:=S3.settled) hC hVFs hW2
 have hrm:Hid (∀W2 a4,VC S3.settled a4→Sep w0 W2 (volR F q p S3.settled a4::Z)→W2.frozen? ⟨F,7,none⟩=false∧W2.cell? ⟨F,7,none⟩=some (.complex .f64 (fI S3.rB) (fI S3.rI))∧Sep w0 (W2.setCell ⟨F,7,none⟩ (.complex .f64 (fI (S3.count:Int)) (fI (names:Int)))) (restR F q p (VS.new n names)::Z)):=Lh fun W2 a4 hC hW2=>by have h5:=hW2.starL_open;refine⟨h5.bF 0 rfl 7,h5.bC 0 rfl 7,?_⟩;have h6:=h5.bS 0 rfl 7 (.complex .f64 (fI (S3.count:Int)) (fI (names:Int)));(have h7:Sep w0 (W2.setCell ⟨F,7,none⟩ (.complex .f64 (fI (S3.count:Int)) (fI (names:Int)))) (volP F q p (VS.new n names) a4++Z):=by rw[hnew];exact h6);(have hC9:VC (VS.new n names) a4:=by rw[hnew];exact⟨hC.dok,hC.big,hC.on,hC.cur,hC.seen,hC.fresh,hC.rest,hC.few,hC.none⟩);refine vol_rest0 hC9 ?_ h7.starL_shut;rw[hnew];exact commit_back hlive.1 (by rw[hS3d,hS2d,hS1d];rfl)
 have hcount:(S3.count:Int)≤4096:=by rw[hS3d,hS2d,hS1d];show((n-96-(2+(names+7)/8):Nat):Int)≤4096;omega
 have hVC0':=Lh hVC0;clear hVC0 hVC0' hVF0 hVF1 hVF2 hb1 hcn hft1 hi2 hsw2 hlive hVFs hS1 hE hW hS1d hS2d hS3d hlt0 hnew;unfold formatFrom
 conv=>arg 2;whnf
 go_wp2_with(first |(go_at_call 87;refine hw2.mono ?_;rintro e w2 ⟨rfl,h2⟩;(obtain⟨y0,y1⟩:=hcz.out _ [_,_] h2);(have hp2:=hpt2.out _ h2);clear hw2 h2)|(go_at_call 88;refine hp2.mono ?_;rintro e w3 ⟨rfl,a1,hC1,h3⟩;(have h4:=h3.bN 118 #[.int .i64 1,.int .i64 0,.int .i64 0,.int .i64 0,.slice none 0 0]);(obtain⟨x0,x1⟩:=hcz.out _ [_,_] h4);(have hf4:=hft2.out _ _ _ hC1 h4);clear hp2 h3 h4 y0 y1 hC1)|(go_at_call 89;refine hf4.mono ?_;rintro e w5 ⟨rfl,a2,A5,c5,hC2,h5⟩;replace h5:=Lh h5;replace hC2:=Lh hC2;clear hf4 x0 x1));obtain⟨bx,hbx⟩:∃bx,bx=w3.heap.size:=⟨_,rfl⟩;rw[←hbx]at h5 ⊢;clear hbx;have hE:=h5.out.drew;have hc19:=hcz.out _ [_,_,_] hE;have hE19:=And.intro hc19.1 (And.intro (hE.bC 1 rfl 0) (And.intro (hE.bC 1 rfl 1) (And.intro (hE.bC 1 rfl 2) (And.intro (hE.bC 1 rfl 3) (hE.bC 1 rfl 4)))));simp only[gA,gB,gC]at hE19;have hk5:=hkp2.out _ _ _ _ _ hC2.out hE;clear hE hc19 h5 hC2 hkp2;refine wp_noPanic ?_;refine wp_region_E (S:=fun w'=>w'.cell? ⟨bf,0,none⟩=some (.pointer (some ⟨F,0,none⟩))∧w'.cell? ⟨bx,0,none⟩=some (.int .i64 1)∧w'.cell? ⟨bx,1,none⟩=some (.int .i64 0)∧w'.cell? ⟨bx,2,none⟩=some (.int .i64 0)∧w'.cell? ⟨bx,3,none⟩=some (.int .i64 0)∧w'.cell? ⟨bx,4,none⟩=some (.slice A5 1 c5)) 6 (by kernel_rfl) ?_;simp only[List.size_toArray,List.length_cons,List.length_nil,Nat.reduceAdd];refine wpE_tk (i:=0) (v:=?_) hE19 rfl ?_ ?_;rotate_left
 ·rintro w ⟨e1,e2,e3,e4,e5,e6⟩;go_simp;try with_reducible rfl
 simp only[Act.put,gD];refine wpE_tk (i:=1) (v:=?_) hE19 rfl ?_ ?_;rotate_left
 ·rintro w ⟨e1,e2,e3,e4,e5,e6⟩;go_simp;try with_reducible rfl
 simp only[Act.put,gD];refine wpE_tk (i:=2) (v:=?_) hE19 rfl ?_ ?_;rotate_left
 ·rintro w ⟨e1,e2,e3,e4,e5,e6⟩;go_simp;try with_reducible rfl
 simp only[Act.put,gD];refine wpE_tk (i:=3) (v:=?_) hE19 rfl ?_ ?_;rotate_left
 ·rintro w ⟨e1,e2,e3,e4,e5,e6⟩;go_simp;try with_reducible rfl
 simp only[Act.put,gD];refine wpE_tk (i:=4) (v:=?_) hE19 rfl ?_ ?_;rotate_left
 ·rintro w ⟨e1,e2,e3,e4,e5,e6⟩;go_simp;try with_reducible rfl
 simp only[Act.put,gD];refine wpE_one (i:=5) (by kernel_rfl) rfl (fun K hK=>?_);go_simp;go_at_call 90;refine hk5.mono ?_;rintro e w6 ⟨rfl,a3,hC3,h6⟩;obtain⟨y0,y1⟩:=hcz.out _ [_,_,_] h6;have hs6:=hset2.out _ _ hC3 ((Sep.sel [1,2,0] h6 (by decide) (by simp)).drop 2);have hE6:=And.intro y0 (And.intro (h6.bC 1 rfl 0) (And.intro (h6.bC 1 rfl 1) (And.intro (h6.bC 1 rfl 2) (And.intro (h6.bC 1 rfl 3) (h6.bC 1 rfl 4)))));simp only[gA,gB,gC]at hE6;clear hE19 hk5 h6 hC3 hset2;dsimp only;refine hK _ _ (fun _=>hE6) ?_;clear hK K;try simp only[Act.put,gD]
 refine wpE_done (by kernel_rfl) ?_ _;simp only[noPanic];go_wp2_with(first |(go_at_call 91;refine hs6.mono ?_;rintro e w7 ⟨rfl,a4,hC4,h7⟩;(have hy7:=hsy2.out _ _ hC4 h7);replace hC4:=Lh hC4;clear hs6 h7 y0 y1)|(go_at_call 76;refine hy7.mono ?_;rintro e w8 ⟨rfl,h8⟩;(have hcz8:=(hcz.out _ [_] h8.drew).1);replace h8:=Lh h8;clear hy7)|(go_at_call 43;refine(smust_any _ _).mono ?_;rintro e w9 ⟨rfl,h9⟩;obtain rfl:=h9.symm));refine wp_noPanic ?_;refine wp_region_Ew (S:=fun w'=>w'.cell? ⟨bf,0,none⟩=some (.pointer (some ⟨F,0,none⟩))) 14 (by kernel_rfl) ?_;intro wq hwq;have h9:Hid (Sep w0 wq (volR F q p S3.settled a4::Z)):=by rw[hwq];exact Lh h8.out.drew
 clear hwq h8 hcz8;have hc9:=(hcz.out _ [_] h9.out).1;have hct9:=hct2.out _ _ hC4.out h9.out;obtain⟨f7,c7,hR7⟩:=hrm.out _ _ hC4.out h9.out;have hst:=fun x y=>store_cx x y c7 f7
 have hc10:=(hcz.out _ [_] hR7).1;simp only[List.size_toArray,List.length_cons,List.length_nil,Nat.reduceAdd];obtain⟨M,hM⟩:∃M,M=S3.count:=⟨_,rfl⟩;rw[←hM]at hct9 hR7 hcount hc10;have hend:Hid (Sep w0 (wq.setCell ⟨F,7,none⟩ (.complex .f64 (fI (M:Int)) (fI (names:Int)))) (restR F q p (VS.new n names)::Z)):=Lh hR7;clear hR7 hM h9 hct2 hrm hC4;refine wpE_tk (i:=0) (v:=?_) hc9 rfl ?_ ?_;rotate_left
 ·rintro w e1;go_simp;try with_reducible rfl
 simp only[Act.put,gD];refine wpE_tk (i:=1) (v:=?_) hc9 rfl ?_ ?_;rotate_left
 ·rintro w e1;go_simp;try with_reducible rfl
 simp only[Act.put,gD];refine wpE_tk (i:=2) (v:=?_) hc9 rfl ?_ ?_;rotate_left
 ·rintro w e1;go_simp;try with_reducible rfl
 simp only[Act.put,gD];refine wpE_tk (i:=3) (v:=?_) hc9 rfl ?_ ?_;rotate_left
 ·rintro w e1;go_simp;try with_reducible rfl
 simp only[Act.put,gD];refine wpE_tk (i:=4) (v:=?_) hc9 rfl ?_ ?_;rotate_left
 ·rintro w e1;go_simp;try with_reducible rfl
 simp only[Act.put,gD];refine wpE_tk (i:=5) (v:=?_) hc9 rfl ?_ ?_;rotate_left
 ·rintro w e1;go_simp;try with_reducible rfl
 simp only[Act.put,gD];refine wpE_tk (i:=8) (v:=?_) hc9 rfl ?_ ?_;rotate_left
 ·rintro w e1;go_simp;try with_reducible rfl
 simp only[Act.put,gD];refine wpE_tk (i:=9) (v:=?_) hc9 rfl ?_ ?_;rotate_left
 ·rintro w e1;go_simp;try with_reducible rfl
 simp only[Act.put,gD];refine wpE_one (i:=6) (by kernel_rfl) rfl (fun K hK=>?_);go_simp;go_at_call 81;refine hct9.mono ?_;rintro e w7 ⟨rfl,h7⟩;obtain rfl:=h7.symm;dsimp only;refine hK _ _ (fun _=>hc9) ?_;clear hK K;try simp only[Act.put,gD]
 refine wpE_one (i:=7) (by kernel_rfl) rfl (fun K hK=>?_);go_simp;try dsimp only
 refine hK _ _ (fun _=>hc9) ?_;clear hK K;try simp only[Act.put,gD]
 refine wpE_one (i:=10) (by kernel_rfl) rfl (fun K hK=>?_);go_simp;try dsimp only
 refine hK _ _ (fun _=>hc9) ?_;clear hK K;try simp only[Act.put,gD]
 refine wpE_one (i:=11) (by kernel_rfl) rfl (fun K hK=>?_);go_simp;try dsimp only
 refine hK _ _ (fun _=>hc9) ?_;clear hK K;try simp only[Act.put,gD]
 refine wpE_one (i:=12) (by kernel_rfl) rfl (fun K hK=>?_);go_simp;try dsimp only
 refine hK _ _ (fun _=>hc9) ?_;clear hK K;try simp only[Act.put,gD]
 refine wpE_one (i:=13) (by kernel_rfl) rfl (fun K hK=>?_);go_simp;have hfo:∀z:Int,floatOfInt FloatKind.f64 z=fI z:=fun _=>rfl
 rw[hfo,hfo];refine hK _ _ (fun _=>hc10) ?_;clear hK K;try simp only[Act.put,gD]
 refine wpE_done (by kernel_rfl) ?_ _;simp only[noPanic];have hE:=hend.out;rw[hZ]at hE;have d1:=hE.bF 2 rfl 0;have hE2:=hE.bS 2 rfl 0 (.pointer (some ⟨F,0,none⟩));have d2:=hE2.bC 1 rfl 0;have d3:=hE2.bF 1 rfl 0;have hE3:=Lh (hE2.bS 1 rfl 0 (.int .i64 0));clear hE hE2 hend hst c7 f7 hc9 hct9 hcz;go_wp2_with fail;refine told_door_ret ?_;have ec:=hE3.out.bC 1 rfl 0;have el:=hE3.out.bC 2 rfl 0;try simp only[gA,gB]at ec el
 refine leaves_cons (u:=.returning) (by simp) (enter_args _ _ enters_ffmt) ?_;refine(ffmt_done ec).mono ?_;rintro e u' w' ⟨rfl,rfl,rfl⟩;refine⟨.tuple #[.pointer (some ⟨F,0,none⟩),.int .i64 0],by simp[results,Tryz.results34,go_sem,ec,el],F,rfl,q,?_⟩;exact(Sep.sel [1,2,0] hE3.out (by decide) (by simp):Sep w0 _ (_::_::restR F q p (VS.new n names)::R)).drop 2
end
end Go.Proofs.YteihmbaimbogaaaGreat
