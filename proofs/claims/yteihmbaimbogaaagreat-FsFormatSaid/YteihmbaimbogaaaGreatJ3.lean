/- FsD, FsDw, FsDx, laid together. -/
import Derived.Test.YteihmbaimbogaaaGreatJ2
namespace Go.Proofs.YteihmbaimbogaaaGreat
open Go.RowKit
set_option linter.unusedVariables false
theorem flat_len512 {c:Blks} (h:∀b∈c,b.length=512):c.flatten.length=512*c.length:=by
 induction c with
 |nil=>rfl
 |cons b r ih=>rw[List.flatten_cons,List.length_append,ih fun x hx=>h x (List.mem_cons_of_mem _ hx),h b (List.mem_cons_self ..),List.length_cons];omega
theorem flat_take512 :∀ {c:Blks} {i:Nat},(∀b∈c,b.length=512)→i<c.length→(c.flatten.drop (512*i)).take 512=bk c i
 |[],_,_,hi=>absurd hi (Nat.not_lt_zero _)
 |b::r,0,h,_=>by rw[List.flatten_cons,Nat.mul_zero,List.drop_zero,←h b (List.mem_cons_self ..),List.take_left];rfl
 |b::r,i+1,h,hi=>by have:=flat_take512 (c:=r) (i:=i) (fun x hx=>h x (List.mem_cons_of_mem _ hx)) (by simpa using hi);rw[List.flatten_cons,show 512*(i+1)=b.length+512*i by rw[h b (List.mem_cons_self ..)];omega,←List.drop_drop,List.drop_left,this];rfl
theorem flat_set512 :∀ {c:Blks} {i:Nat} {x:List UInt8},(∀b∈c,b.length=512)→x.length=512→i<c.length→layC c.flatten (512*i) x=(c.set i x).flatten
 |[],_,_,_,_,hi=>absurd hi (Nat.not_lt_zero _)
 |b::r,0,x,h,hx,_=>by rw[List.flatten_cons,List.set_cons_zero,List.flatten_cons];unfold layC;rw[Nat.mul_zero,List.take_zero,List.nil_append,Nat.zero_add,hx,←h b (List.mem_cons_self ..),List.drop_left]
 |b::r,i+1,x,h,hx,hi=>by have:=flat_set512 (c:=r) (i:=i) (x:=x) (fun y hy=>h y (List.mem_cons_of_mem _ hy)) hx (by simpa using hi);rw[List.flatten_cons,List.set_cons_succ,List.flatten_cons,←this];unfold layC;(have e:512*(i+1)=b.length+512*i:=by rw[h b (List.mem_cons_self ..)];omega);(have e2:512*(i+1)+x.length=b.length+(512*i+x.length):=by rw[e,Nat.add_assoc]);rw[e2,e,List.take_append,List.take_of_length_le (by omega),Nat.add_sub_cancel_left,←List.drop_drop,List.drop_left,List.append_assoc,List.append_assoc,List.append_assoc]
theorem flat_get512 {c:Blks} {i j:Nat} (h:∀b∈c,b.length=512) (hi:i<c.length) (hj:j<512):c.flatten[512*i+j]? =(bk c i)[j]? :=by have:=congrArg (fun l:List UInt8=>l[j]?) (flat_take512 h hi);simp only[List.getElem?_take,if_pos hj,List.getElem?_drop]at this;exact this
structure DK where
 now:Blks
 fast:Blks
 back:List (Nat×List UInt8)
 off:Bool
 left:Int
structure DK.ok (nb:Nat) (D:DK):Prop where
 now:BlksOk nb D.now
 fast:BlksOk nb D.fast
 few:nb≤4096
 some:1≤nb
 back:∀x∈D.back,x.1<nb∧x.2.length=512
 left: -1≤D.left∧D.left≤9223372036854775807
def DK.step (D:DK):DK:=if 0<D.left then {D with left:=D.left-1,off:=decide (D.left=1)} else D
def DK.wr (D:DK) (i:Nat) (b:List UInt8):DK:=DK.step {D with now:=D.now.set i b,back:=D.back++[(i,b)]}
def applyB (c:Blks) (l:List (Nat×List UInt8)):Blks:=l.foldl (fun c x=>c.set x.1 x.2) c
def DK.fl (D:DK):DK:=DK.step {D with fast:=applyB D.fast D.back,back:=[]}
abbrev DAct :=Option (Nat×List UInt8)
def DK.act (D:DK):DAct→DK
 |some x=>D.wr x.1 x.2
 |none=>D.fl
def runD :List DAct→DK→DK×Bool
 |[],D=>(D,true)
 |a::l,D=>if D.off=true then(D,false)else runD l (D.act a)
theorem runD_append (xs ys:List DAct) (D:DK):runD (xs++ys) D=if(runD xs D).2=true then runD ys (runD xs D).1 else runD xs D:=by
 induction xs generalizing D with
 |nil=>rfl
 |cons a xs ih=>
  rw[List.cons_append,runD,runD];by_cases h:D.off=true
  ·rw[if_pos h,if_pos h];rfl
  rw[if_neg h,if_neg h];exact ih _
theorem DK.step_ok {nb:Nat} {D:DK} (h:D.ok nb):D.step.ok nb:=by
 unfold DK.step;split
 ·rename_i hl;obtain⟨a,b,c,d,e,f⟩:=h;exact⟨a,b,c,d,e,by simp only;omega⟩
 exact h
theorem applyB_ok {nb:Nat}:∀ {l:List (Nat×List UInt8)} {c:Blks},BlksOk nb c→(∀x∈l,x.1<nb∧x.2.length=512)→BlksOk nb (applyB c l)
 |[],_,h,_=>h
 |x::l,c,h,hl=>applyB_ok (l:=l) (h.set x.1 (hl x (List.mem_cons_self ..)).2) fun y hy=>hl y (List.mem_cons_of_mem _ hy)
theorem DK.wr_ok {nb:Nat} {D:DK} (h:D.ok nb) {i:Nat} {b:List UInt8} (hi:i<nb) (hb:b.length=512):(D.wr i b).ok nb:=by
 obtain⟨h1,h2,h3,h4,h5,h6⟩:=h;refine DK.step_ok ⟨h1.set _ hb,h2,h3,h4,fun x hx=>?_,h6⟩;rcases List.mem_append.1 hx with hx|hx
 ·exact h5 x hx
 rw[List.mem_singleton]at hx;subst hx;exact⟨hi,hb⟩
theorem DK.fl_ok {nb:Nat} {D:DK} (h:D.ok nb):D.fl.ok nb:=by obtain⟨h1,h2,h3,h4,h5,h6⟩:=h;exact DK.step_ok ⟨h1,applyB_ok h2 h5,h3,h4,fun x hx=>(List.not_mem_nil hx).elim,h6⟩
theorem runD_ok {nb:Nat}:∀ {l:List DAct} {D:DK},D.ok nb→(∀x∈l,∀i b,x=some (i,b)→i<nb∧b.length=512)→(runD l D).1.ok nb
 |[],_,h,_=>h
 |a::l,D,h,hl=>by
  rw[runD];split
  ·exact h
  (refine runD_ok ?_ fun x hx=>hl x (List.mem_cons_of_mem _ hx));cases a with
  |none=>exact DK.fl_ok h
  |some x=>have:=hl (some x) (List.mem_cons_self ..) x.1 x.2 rfl;exact DK.wr_ok h this.1 this.2
def heldC (x:(Nat×List UInt8)×Value) (i:Nat):List Value:=[.int .i64 (x.1.1:Int),x.2,.int .i64 (i:Int)]
def heldCells (l:List (Nat×List UInt8)) (us:List Value):List Value:=(l.zip us).zipIdx.flatMap fun x=>heldC x.1 x.2
def backR (v:Value) (l:List (Nat×List UInt8)):Asn:=
 .ex fun us:List Value=>.star (.pure (us.length=l.length)) (.star (.sl 137 3 v l.length (heldCells l us)) (.starL (List.zipWith (fun u (x:Nat×List UInt8)=>bytesR u x.2) us l)))
def diskBox (p:Nat) (vn vf vb:Value) (off:Bool) (left:Int):Asn:=.box p 130 #[vn,vf,vb,.bool off,.int .i64 left]
def diskR (p:Nat) (D:DK):Asn:=
 .ex fun vs:Value×Value×Value=>.starL [diskBox p vs.1 vs.2.1 vs.2.2 D.off D.left,bytesR vs.1 D.now.flatten,bytesR vs.2.1 D.fast.flatten,backR vs.2.2 D.back]
section
variable {w0 w w':World} {As R:List Asn}
theorem Sep.disk_open {p:Nat} {D:DK} (h:Sep w0 w (diskR p D::R)):∃vn vf vb,Sep w0 w (diskBox p vn vf vb D.off D.left::bytesR vn D.now.flatten::bytesR vf D.fast.flatten::backR vb D.back::R):=by obtain⟨vs,h⟩:=h.ex_open;exact⟨vs.1,vs.2.1,vs.2.2,h.starL_open⟩
theorem Sep.disk_shut {p:Nat} {D:DK} {vn vf vb:Value} (h:Sep w0 w (diskBox p vn vf vb D.off D.left::bytesR vn D.now.flatten::bytesR vf D.fast.flatten::backR vb D.back::R)):Sep w0 w (diskR p D::R):=
 Sep.ex_shut (vn,vf,vb) (Sep.starL_shut (As:=[diskBox p vn vf vb D.off D.left,bytesR vn D.now.flatten,bytesR vf D.fast.flatten,backR vb D.back]) h)
end
set_option linter.unusedSimpArgs false
structure DiskC (w:World) (p:Nat) (vn vf vb:Value) (off:Bool) (left:Int):Prop where
 c0:w.cell? ⟨p,0,none⟩=some vn
 c1:w.cell? ⟨p,1,none⟩=some vf
 c2:w.cell? ⟨p,2,none⟩=some vb
 c3:w.cell? ⟨p,3,none⟩=some (.bool off)
 c4:w.cell? ⟨p,4,none⟩=some (.int .i64 left)
 fz:∀j,w.frozen? ⟨p,j,none⟩=false
theorem Sep.diskC {w0 w:World} {As:List Asn} {p:Nat} {vn vf vb:Value} {off:Bool} {left:Int} (i:Nat) (h:Sep w0 w As) (hi:As[i]? =some (diskBox p vn vf vb off left)):DiskC w p vn vf vb off left:=
 ⟨h.bC i hi 0,h.bC i hi 1,h.bC i hi 2,h.bC i hi 3,h.bC i hi 4,fun j=>h.bF i hi j⟩
theorem part_any {g c n i:Nat} (hn:512*(i+1)≤n) (hc:n≤c) (hm:c≤maxLen) (hn4:n≤4194304) (w:World):
  Calls Tryz.prog 74 #[.slice (some ⟨g,0,none⟩) n c,.int .i64 i] w fun e w'=>e= .returned (.slice (some ⟨g,512*i,none⟩) 512 512)∧w'=w:=by
 have b0:(0:Int)≤i:=by omega
 have b1:(i:Int)*512+512≤n:=by omega
 have b2:(n:Int)≤c:=by omega
 have b3:(c:Int)≤9223372036854775807:=by unfold maxLen at hm;omega
 have b8:(n:Int)≤4194304:=by omega
 have b4:(0:Int)≤(i:Int)*512:=by omega
 have b5:(i:Int)*512≤((i:Int)+1)*512:=by omega
 have b6:((i:Int)+1)*512≤c:=by omega
 have b7:(0:Int)≤((i:Int)+1)*512:=by omega
 go_enter Tryz.func74,Tryz.ntmps74;go_wp2_with fail;all_goals go_ret
 all_goals
  refine⟨?_,rfl⟩
  rw[show(i+1)*512-i*512=512 by omega,show i*512=512*i by omega]
  rfl
theorem blocks_d {w:World} {p:Nat} {A:Option Addr} {n c nb:Nat} (hc:w.cell? ⟨p,0,none⟩=some (.slice A n c)) (hn:n=512*nb) (hb:nb≤4096):
  Calls Tryz.prog 84 #[.pointer (some ⟨p,0,none⟩)] w fun e w'=>e= .returned (.int .i64 nb)∧w'=w:=by
 have b0:(n:Int)=512*nb:=by omega
 have b1:(nb:Int)≤4096:=by omega
 have e0:Int.tdiv (n:Int) 512=nb:=by rw[Int.tdiv_eq_ediv_of_nonneg (by omega)];omega
 have b2:(0:Int)≤nb:=by omega
 go_enter Tryz.func84,Tryz.ntmps84;go_wp2_with fail;go_ret;exact⟨rfl,rfl⟩
theorem there_d {w:World} {p:Nat} {A:Option Addr} {n c nb i:Nat} {vf vb:Value} {off:Bool} {left:Int} (hC:DiskC w p (.slice A n c) vf vb off left) (hn:n=512*nb) (hb:nb≤4096) (hi:i<nb):
  Calls Tryz.prog 220 #[.pointer (some ⟨p,0,none⟩),.int .i64 i] w fun e w'=>e= .returned (.int .i64 (if off=true then 11 else 0))∧w'=w:=by
 have b0:(0:Int)≤i:=by omega
 have b1:(i:Int)<nb:=by omega
 have hbl:=blocks_d hC.c0 hn hb;have h3:=hC.c3;clear hC;go_enter Tryz.func220,Tryz.ntmps220;cases off;all_goals
  go_wp2_with(go_at_call 84;refine hbl.mono ?_;rintro e w' ⟨rfl,rfl⟩)
  go_ret
  exact⟨rfl,rfl⟩
theorem step_d {w0 w:World} {R:List Asn} {p:Nat} {vn vf vb:Value} {off:Bool} {left:Int} (h:Sep w0 w (diskBox p vn vf vb off left::R)) (hl: -1≤left∧left≤9223372036854775807):
  Calls Tryz.prog 75 #[.pointer (some ⟨p,0,none⟩)] w fun e w'=>e= .returned (.int .i64 0)∧Sep w0 w' (diskBox p vn vf vb (if 0<left then decide (left=1)else off) (if 0<left then left-1 else left)::R):=by
 have hC:=h.diskC 0 rfl;have c4:=hC.c4;have f3:=hC.fz 3;have f4:=hC.fz 4;have c3:=hC.c3;have h1:=h.bS 0 rfl 4 (.int .i64 (left-1));have h1C:=Sep.diskC (vn:=vn) (vf:=vf) (vb:=vb) (off:=off) (left:=left-1) 0 h1 rfl;have d4:=h1C.c4;have d3:=h1C.c3;have g3:=h1C.fz 3;have h2:=h1.bS 0 rfl 3 (.bool (decide (left=1)));clear hC h1C;by_cases hp:0<left
 ·have hp1:IntKind.i64.wrap (left-1)=left-1:=IntWalk.i64_in _ (by omega);have hp2:decide (left-1=0)=decide (left=1):=decide_eq_decide.2 (by omega);have hp3:(left-1==0)=decide (left=1):=by
   by_cases e:left=1
   ·subst e;rfl
   rw[decide_eq_false e];exact beq_eq_false_iff_ne.2 (by omega)
  rw[if_pos hp,if_pos hp];go_enter Tryz.func75,Tryz.ntmps75;go_wp2_with fail;(all_goals go_ret);all_goals exact⟨rfl,h2⟩
 rw[if_neg hp,if_neg hp];go_enter Tryz.func75,Tryz.ntmps75;go_wp2_with fail;all_goals go_ret
 exact⟨rfl,h⟩
theorem part_rd {w:World} {g n c i nb:Nat} {l:Blks} (h:BytesAt w (.slice (some ⟨g,0,none⟩) n c) l.flatten) (hl:BlksOk nb l) (hi:i<nb):Rd w 1 (.slice (some ⟨g,512*i,none⟩) 512 512) 512 ((bk l i).map byt):=by
 have hb:=bk_len hl hi;have hfl:=flat_len512 hl.size;have hil:i<l.length:=by rw[hl.len];exact hi
 obtain⟨hll,A,c',e,h1,h2,h3⟩:=h;cases e;obtain⟨ad,e,hbk,hc⟩:=h3 (by rw[hfl];omega);cases e;refine⟨by rw[List.length_map,hb],_,_,rfl,Nat.le_refl _,by simp[maxLen],fun _=>⟨_,rfl,hbk,fun j u hj=>?_⟩⟩;have hj5:j<512:=by have:=(gF.1 hj).1;rw[List.length_map,hb]at this;exact this
 rw[Addr.add_lit];rw[List.getElem?_map,←flat_get512 hl.size hil hj5,←List.getElem?_map]at hj;have:=hc _ _ hj;rw[Addr.add_lit]at this;simpa using this
theorem Sep.bytes_form {w0 w:World} {As:List Asn} {v:Value} {bs:List UInt8} (i:Nat) (h:Sep w0 w As) (hi:As[i]? =some (bytesR v bs)) (hn:0<bs.length):∃g n cap,v= .slice (some ⟨g,0,none⟩) n cap∧Hid (n=bs.length)∧n≤cap∧cap≤maxLen:=by obtain⟨g,cap,e,_,_,h1,h2⟩:=h.sl_form i hi hn;exact⟨g,_,cap,e,Lh rfl,h1,h2⟩
theorem bytesR_of {v:Value} {bs:List UInt8} {n:Nat} (h:bs.length=n):bytesR v bs= .sl 5 1 v n (bs.map byt):=by unfold bytesR;rw[h]
theorem form_caps {w0 w:World} {As:List Asn} {g n c:Nat} {e:TypeId} {sz:Nat} {cs:List Value} (i:Nat) (h:Sep w0 w As) (hi:As[i]? =some (.sl e sz (.slice (some ⟨g,0,none⟩) n c) n cs)):n≤c∧c≤maxLen:=by obtain⟨A,cap,e,h1,h2,_⟩:=h.sl_any i hi;cases e;exact⟨h1,h2⟩
set_option maxRecDepth 100000 in
set_option maxHeartbeats 1000000 in
theorem dread_any {w0 w:World} {R:List Asn} {p nb i:Nat} {D:DK} (hD:D.ok nb) (hi:i<nb) (h:Sep w0 w (diskR p D::R)):
  Calls Tryz.prog 218 #[.pointer (some ⟨p,0,none⟩),.int .i64 i] w fun e w'=>
   (D.off=true∧e= .returned (.tuple #[.slice none 0 0,.int .i64 11])∧Sep w0 w' (diskR p D::R))∨
   (D.off=false∧∃v,e= .returned (.tuple #[v,.int .i64 0])∧Sep w0 w' (bytesR v (bk D.now i)::diskR p D::R)):=by
 obtain⟨k0,hknf,hk0,hk1,hk2⟩:=info_of info_byte
 obtain⟨vn,vf,vb,h⟩:=h.disk_open
 have hfl:=flat_len512 hD.now.size
 have hlen:=hD.now.len
 have hfew:=hD.few
 have hb:=bk_len hD.now hi
 obtain⟨g,n,c,rfl,hnl,hc,hm⟩:=h.bytes_form 1 rfl (by omega)
 have hn:n=512*nb:=by rw[hnl.out,hfl,hlen]
 have hC:=Lh (h.diskC 0 rfl)
 have hth:=there_d hC.out hn hfew hi
 have hpa:=fun W=>part_any (g:=g) (c:=c) (n:=n) (i:=i) (by omega) hc hm (by omega) W
 have hrd:=Lh (part_rd (h.rd 1 rfl) hD.now hi)
 have c0:=hC.out.c0
 have hS:=Lh (h.sl_nil 5 1)
 have h':=Lh h
 clear hfl hlen hn
 cases hoff:D.off with
 |true=>
  rw[hoff]at hth;clear hpa hrd hS hC h;go_enter Tryz.func218,Tryz.ntmps218;go_wp2_with(go_at_call 220;refine hth.mono ?_;rintro e w' ⟨rfl,rfl⟩)
  go_ret2
  exact .inl ⟨trivial,rfl,h'.out.disk_shut⟩
 |false=>
  rw[hoff]at hth;clear hC h;go_enter Tryz.func218,Tryz.ntmps218;go_wp2_with(first |(go_at_call 220;refine hth.mono ?_;rintro e w' ⟨rfl,rfl⟩)|(go_at_call 74;refine(hpa _).mono ?_;rintro e w' ⟨rfl,rfl⟩;clear hpa hth)|(at_builtin;refine wpList_append_any_sep 0 rfl _ _ 35 rfl 5 k0 (.int .u8 0) 1 1 Tryz.underlying35 hknf hk0 hk1 hk2 rfl (by decide) hS.out _ 0 [] rfl rfl (.slice (some ⟨g,512*i,none⟩) 512 512) 512 ((bk D.now i).map byt) rfl hrd.out byt_one (by unfold maxLen;omega) (by omega) ?_;intro v3 w3 hS3 hz3))
  go_ret2
  refine .inr ⟨trivial,v3,rfl,?_⟩;(have h9:Sep w0 w3 (bytesR v3 (bk D.now i)::diskBox p (.slice (some ⟨g,0,none⟩) n c) vf vb D.off D.left::bytesR (.slice (some ⟨g,0,none⟩) n c) D.now.flatten::bytesR vf D.fast.flatten::backR vb D.back::R):=by rw[bytesR_of hb];exact hS3);have h10:=Sep.disk_shut (Sep.sel [1,2,3,4,0] h9 (by decide) (by simp));exact Sep.sel [1,0] h10 (by decide) (by simp)
theorem info_held :(Tryz.prog.info? 137).map (fun i=>(i.zero,i.size,i.bytes))=some (some (.agg #[.int .i64 0,.slice none 0 0,.int .i64 0]),3,40):=by kernel_rfl
theorem Sep.back_open {w0 w:World} {R:List Asn} {v:Value} {l:List (Nat×List UInt8)} (h:Sep w0 w (backR v l::R)):∃us:List Value,us.length=l.length∧Sep w0 w (.sl 137 3 v l.length (heldCells l us)::(List.zipWith (fun u (x:Nat×List UInt8)=>bytesR u x.2) us l++R)):=by obtain⟨us,h⟩:=h.ex_open;obtain⟨hl,h⟩:=h.star_open.pure_open;have h2:=h.star_open;exact⟨us,hl,(h2.perm (List.Perm.swap _ _ _)).starL_open.perm List.perm_middle⟩
theorem Sep.back_shut {w0 w:World} {R:List Asn} {v:Value} {l:List (Nat×List UInt8)} {us:List Value} (hl:us.length=l.length) (h:Sep w0 w (.sl 137 3 v l.length (heldCells l us)::(List.zipWith (fun u (x:Nat×List UInt8)=>bytesR u x.2) us l++R))):Sep w0 w (backR v l::R):=by have h1:=h.perm List.perm_middle.symm;have h2:=(h1.starL_shut.perm (List.Perm.swap _ _ _)).star_shut;exact Sep.ex_shut us (Sep.star_shut (h2.pure_shut hl))
theorem Sep.sl_shape {w0 w:World} {As:List Asn} {e:TypeId} {sz n:Nat} {v:Value} {cs:List Value} (i:Nat) (h:Sep w0 w As) (hi:As[i]? =some (.sl e sz v n cs)):∃A c,v= .slice A n c:=by obtain⟨A,cap,e,_⟩:=h.sl_any i hi;exact⟨A,cap,e⟩
theorem perm3 {α:Type} (X R:List α) (a b c:α):(X++a::b::c::R).Perm (a::b::c::(X++R)):=
 List.perm_middle.trans (List.Perm.cons _ (List.perm_middle.trans (List.Perm.cons _ List.perm_middle)))
theorem perm4 {α:Type} (X R:List α) (a b c d:α):(X++a::b::c::d::R).Perm (a::b::c::d::(X++R)):=
 List.perm_middle.trans (List.Perm.cons _ (perm3 X R b c d))
theorem DK.step_now (D:DK):D.step.now=D.now:=by unfold DK.step;split<;>rfl
theorem DK.step_fast (D:DK):D.step.fast=D.fast:=by unfold DK.step;split<;>rfl
theorem DK.step_back (D:DK):D.step.back=D.back:=by unfold DK.step;split<;>rfl
theorem DK.step_off (D:DK):D.step.off=if 0<D.left then decide (D.left=1)else D.off:=by unfold DK.step;split<;>rfl
theorem DK.step_left (D:DK):D.step.left=if 0<D.left then D.left-1 else D.left:=by unfold DK.step;split<;>rfl
theorem heldCells_snoc {l:List (Nat×List UInt8)} {us:List Value} (hl:us.length=l.length) (x:Nat×List UInt8) (u:Value):heldCells (l++[x]) (us++[u])=heldCells l us++heldC (x,u) l.length:=by unfold heldCells;rw[List.zip_append hl.symm,List.zipIdx_append,List.flatMap_append];simp[hl]
set_option maxRecDepth 100000 in
set_option maxHeartbeats 2000000 in
theorem dwrite_any {w0 w:World} {R:List Asn} {p nb i:Nat} {D:DK} {v:Value} {bs:List UInt8} (hD:D.ok nb) (hi:i<nb) (hbs:bs.length=512) (hfew:D.back.length<65536) (hv:Tells w0 R v bs) (h:Sep w0 w (diskR p D::R)):
  Calls Tryz.prog 219 #[.pointer (some ⟨p,0,none⟩),.int .i64 i,v] w fun e w'=>
   e= .returned (.int .i64 (if D.off=true then 11 else 0))∧Sep w0 w' (diskR p (if D.off=true then D else D.wr i bs)::R):=by
 obtain⟨k0,hknf,hk0,hk1,hk2⟩:=info_of info_byte
 obtain⟨j0,hjnf,hj0,hj1,hj2⟩:=info_of info_held
 have h00:=Lh h
 obtain⟨vn,vf,vb,h⟩:=h.disk_open
 have hfl:=flat_len512 hD.now.size
 have hlen:=hD.now.len
 have hnb:=hD.few
 obtain⟨g,n,c,rfl,hnl,hc,hm⟩:=h.bytes_form 1 rfl (by have:=hD.some;omega)
 have hn:n=512*nb:=by rw[hnl.out,hfl,hlen]
 have hC:=Lh (h.diskC 0 rfl)
 have hth:=there_d hC.out hn hnb hi
 have hpa:=fun W=>part_any (g:=g) (c:=c) (n:=n) (i:=i) (by omega) hc hm (by omega) W
 have hvb:BytesAt w v bs:=hv.now (X:=[_,_,_,_]) h
 obtain⟨A,cv,rfl,_⟩:=hvb.shape
 obtain⟨m,hm⟩:∃m,bs.length=m:=⟨_,rfl⟩
 rw[hm]at hbs
 subst hbs
 rw[hm]at hv hvb ⊢
 --the list of writes
 have hp0:Sep w0 w (backR vb D.back::diskBox p (.slice (some ⟨g,0,none⟩) n c) vf vb D.off D.left::bytesR (.slice (some ⟨g,0,none⟩) n c) D.now.flatten::bytesR vf D.fast.flatten::R):=Sep.sel [3,0,1,2] h (by decide) (by simp)
 obtain⟨us,hus,hp1⟩:=Sep.back_open hp0
 have hp:Sep w0 w (.sl 137 3 vb D.back.length (heldCells D.back us)::diskBox p (.slice (some ⟨g,0,none⟩) n c) vf vb D.off D.left::bytesR (.slice (some ⟨g,0,none⟩) n c) D.now.flatten::bytesR vf D.fast.flatten::(List.zipWith (fun u (x:Nat×List UInt8)=>bytesR u x.2) us D.back++R)):=hp1.perm (List.Perm.cons _ (perm3 _ _ _ _ _))
 obtain⟨Z,hZ⟩:∃Z,Z=List.zipWith (fun u (x:Nat×List UInt8)=>bytesR u x.2) us D.back++R:=⟨_,rfl⟩
 rw[←hZ]at hp
 have hvZ:Tells w0 Z (.slice A 512 cv) bs:=hZ▸hv.more
 replace hZ:=Lh hZ
 clear hp1
 obtain⟨Ab,cb,hvbf,hbc,hbm,_⟩:=hp.sl_any 0 rfl
 subst hvbf
 obtain⟨L,hL⟩:∃L,D.back.length=L:=⟨_,rfl⟩
 rw[hL]at hp
 have c2:=hC.out.c2
 rw[hL]at c2
 have q1:decide ((65536:Int)≤(L:Int))=false:=decide_eq_false (by omega)
 have hLs:=Lh (show L<65536 by omega)
 have hlen':=Lh hlen
 have hfl':=Lh hfl
 have hn':=Lh hn
 have hp':=Lh hp
 have hm':=Lh hm
 have hvb':=Lh hvb
 have hL':=Lh hL
 have hus':=Lh hus
 clear hlen hfl hn hp hm hvb hp0 h hL hus hfew
 cases hoff:D.off with
 |true=>simp only[hoff,if_true,Bool.false_eq_true,if_false]at hth;clear hpa hC;go_enter Tryz.func219,Tryz.ntmps219;clear q1;go_wp2_with(go_at_call 220;refine hth.mono ?_;rintro e w9 ⟨rfl,h9⟩;obtain rfl:=h9.symm);go_ret;exact⟨rfl,h00.out⟩
 |false=>
  simp only[hoff,if_true,Bool.false_eq_true,if_false]at hth;have c0:=hC.out.c0;have hS5:=Lh (hp'.out.drew.sl_nil 5 1);have e2:w.drew.cell? ⟨p,2,none⟩=some (.slice Ab L cb):=c2;clear hC;go_enter Tryz.func219,Tryz.ntmps219;go_wp2_with(go_at_call 220;refine hth.mono ?_;rintro e w9 ⟨rfl,h9⟩;obtain rfl:=h9.symm);clear hth q1;refine wp_region_E (S:=fun w'=>w'.cell? ⟨p,2,none⟩=some (.slice Ab L cb)) 19 (by kernel_rfl) ?_;simp only[List.size_toArray,List.length_cons,List.length_nil,Nat.reduceAdd];refine wpE_tk (i:=0) (v:=?_) e2 rfl ?_ ?_;rotate_left
  ·rintro w e1;go_simp;try with_reducible rfl
  simp only[Act.put,gD];refine wpE_tk (i:=1) (v:=?_) e2 rfl ?_ ?_;rotate_left
  ·rintro w e1;go_simp;try with_reducible rfl
  simp only[Act.put,gD];refine wpE_tk (i:=2) (v:=?_) e2 rfl ?_ ?_;rotate_left
  ·rintro w e1;go_simp;try with_reducible rfl
  simp only[Act.put,gD];refine wpE_tk (i:=3) (v:=?_) e2 rfl ?_ ?_;rotate_left
  ·rintro w e1;go_simp;try with_reducible rfl
  simp only[Act.put,gD];refine wpE_tk (i:=4) (v:=?_) e2 rfl ?_ ?_;rotate_left
  ·rintro w e1;go_simp;try with_reducible rfl
  simp only[Act.put,gD];refine wpE_tk (i:=5) (v:=?_) e2 rfl ?_ ?_;rotate_left
  ·rintro w e1;go_simp;try with_reducible rfl
  simp only[Act.put,gD];refine wpE_tk (i:=6) (v:=?_) e2 rfl ?_ ?_;rotate_left
  ·rintro w e1;go_simp;try with_reducible rfl
  simp only[Act.put,gD];refine wpE_tk (i:=9) (v:=?_) e2 rfl ?_ ?_;rotate_left
  ·rintro w e1;go_simp;try with_reducible rfl
  simp only[Act.put,gD];refine wpE_tk (i:=10) (v:=?_) e2 rfl ?_ ?_;rotate_left
  ·rintro w e1;go_simp;try with_reducible rfl
  simp only[Act.put,gD];refine wpE_tk (i:=11) (v:=?_) e2 rfl ?_ ?_;rotate_left
  ·rintro w e1;go_simp;try with_reducible rfl
  simp only[Act.put,gD];refine wpE_tk (i:=12) (v:=?_) e2 rfl ?_ ?_;rotate_left
  ·rintro w e1;go_simp;try with_reducible rfl
  simp only[Act.put,gD];refine wpE_tk (i:=13) (v:=?_) e2 rfl ?_ ?_;rotate_left
  ·rintro w e1;go_simp;try with_reducible rfl
  simp only[Act.put,gD];refine wpE_one (i:=7) (by kernel_rfl) rfl (fun K hK=>?_);refine step_append_any_sep 0 (by rfl) _ _ 35 (by rfl) 5 k0 (.int .u8 0) 1 1 Tryz.underlying35 hknf hk0 hk1 hk2 rfl (by decide) hS5.out (.slice none 0 0) 0 [] (by rfl) (by simp[Act.eval]) (.slice A 512 cv) 512 (bs.map byt) (by simp[Act.eval]) (by have:=hvb'.out;unfold BytesAt at this;rw[hm'.out]at this;exact this) byt_one (by unfold maxLen;omega) (by omega) ?_;intro v3 w3 hS3 hz3;(try simp only[List.set_cons_zero,Nat.zero_add,List.nil_append]at hS3);have hS3':=Lh hS3;have e3:=(hS3.diskC 2 rfl).c2;have hf3:=hS3.sl_shape 0 rfl;clear hz3 hS3 hS5 e2;obtain⟨A3,c3,hv3⟩:=hf3;subst hv3;refine hK _ _ (fun _=>e3) ?_;clear hK K;(try simp only[Act.put,gD]);refine wpE_one (i:=8) (by kernel_rfl) rfl (fun K hK=>?_);go_simp;refine hK _ _ (fun _=>e3) ?_;clear hK K;(try simp only[Act.put,gD]);refine wpE_one (i:=14) (by kernel_rfl) rfl (fun K hK=>?_);go_simp;refine hK _ _ (fun _=>e3) ?_;clear hK K;(try simp only[Act.put,gD]);refine wpE_one (i:=15) (by kernel_rfl) rfl (fun K hK=>?_);go_simp;have hS4:=hS3'.out.alloc (.cells #[.int .i64 i,.slice A3 512 c3,.int .i64 L] 137);have e4:=(hS4.diskC 2 rfl).c2;refine hK _ _ (fun _=>e4) ?_;clear hK K;(try simp only[Act.put,gD]);refine wpE_one (i:=16) (by kernel_rfl) rfl (fun K hK=>?_);refine step_append_any_sep 1 (by rfl) _ _ 128 (by rfl) 137 j0 _ 3 40 Tryz.underlying128 hjnf hj0 hj1 hj2 rfl (by decide) hS4 (.slice Ab L cb) L (heldCells D.back us) (by rfl) (by rfl) (.slice (some ⟨w3.heap.size,0,none⟩) 1 1) 1 [.int .i64 i,.slice A3 512 c3,.int .i64 L] (by rfl)
   ⟨rfl,_,_,rfl,Nat.le_refl _,by unfold maxLen;omega,fun _=>⟨_,rfl,by rw[World.size_alloc];exact Nat.lt_succ_self _,cells_new w3 #[.int .i64 i,.slice A3 512 c3,.int .i64 L] 137 _ rfl⟩⟩ (by simp[Value.oneCell']) (by have:=hLs.out;unfold maxLen;omega) (by have:=hLs.out;omega) ?_
  intro v5 w5 hS5 hz5;simp only[List.set_cons_succ,List.set_cons_zero]at hS5;have hS5':=Lh hS5;have hf5:=hS5.sl_shape 1 rfl;have hC5:=hS5.diskC 2 rfl;have e5:=hC5.c2;have f5:=hC5.fz 2;clear hz5 hS5 hS4 e4 hC5 e3;obtain⟨A5,c5,hv5⟩:=hf5;subst hv5;refine hK _ _ (fun _=>e5) ?_;clear hK K;(try simp only[Act.put,gD]);refine wpE_one (i:=17) (by kernel_rfl) rfl (fun K hK=>?_);go_simp;refine hK _ _ (fun _=>e5) ?_;clear hK K;(try simp only[Act.put,gD]);refine wpE_one (i:=18) (by kernel_rfl) rfl (fun K hK=>?_);go_simp;refine hK _ _ (fun _=>e5) ?_;clear hK K;(try simp only[Act.put,gD]);refine wpE_one (i:=19) (by kernel_rfl) rfl (fun K hK=>?_);go_simp;refine hK _ _ (fun h=>absurd rfl h) ?_;clear hK K;(try simp only[Act.put,gD]);refine wpE_done (by kernel_rfl) ?_ _;(have hS6:Hid (Sep w0 (w5.setCell ⟨p,2,none⟩ (.slice A5 (L+1) c5)) (.sl 5 1 (.slice A3 512 c3) 512 (bs.map byt):: .sl 137 3 (.slice A5 (L+1) c5) (L+1) (heldCells D.back us++heldC ((i,bs),.slice A3 512 c3) L)::diskBox p (.slice (some ⟨g,0,none⟩) n c) vf (.slice A5 (L+1) c5) D.off D.left:: .sl 5 1 (.slice (some ⟨g,0,none⟩) n c) n (D.now.flatten.map byt)::bytesR vf D.fast.flatten::Z)):=by rw[←bytesR_of hnl.out.symm];exact hS5'.out.bS 2 rfl 2 (.slice A5 (L+1) c5));have d0:=(hS6.out.diskC 2 rfl).c0;have hs6:Hid (BytesAt (w5.setCell ⟨p,2,none⟩ (.slice A5 (L+1) c5)) (.slice A 512 cv) bs):=hvZ.now (X:=[_,_,_,_,_]) hS6.out;obtain⟨w7,hcp,hS7,hz7⟩:=hS6.out.copy_run (P:=Tryz.prog) 3 rfl 35 35 3 Tryz.underlying35 size_byte (512*i) 512 512 (.slice A 512 cv) 512 (bs.map byt) (by have:=hs6.out;unfold BytesAt at this;rw[hm'.out]at this;exact this) byt_one (by have:=hn'.out;omega);(have hS8:Hid (Sep w0 w7 (diskBox p (.slice (some ⟨g,0,none⟩) n c) vf (.slice A5 (L+1) c5) D.off D.left:: .sl 5 1 (.slice A3 512 c3) 512 (bs.map byt):: .sl 137 3 (.slice A5 (L+1) c5) (L+1) (heldCells D.back us++heldC ((i,bs),.slice A3 512 c3) L):: .sl 5 1 (.slice (some ⟨g,0,none⟩) n c) n (layC (D.now.flatten.map byt) (512*i) (bs.map byt))::bytesR vf D.fast.flatten::Z)):=by have e9:(bs.map byt).take (min 512 512)=bs.map byt:=List.take_of_length_le (by rw[List.length_map,hm'.out];exact Nat.le_refl _);rw[e9]at hS7;exact Sep.sel [2,0,1] hS7 (by decide) (by simp));have hst:=step_d hS8.out hD.left;have hcp':(Builtin.copy_ #[35,35] 3 #[.slice (some ⟨g,512*i,none⟩) 512 512,.slice A 512 cv]).run Tryz.prog (w5.setCell ⟨p,2,none⟩ (.slice A5 (L+1) c5))= .ok (.int .i64 512) w7:=hcp;clear hS5' hS3' f5 e5 hcp hS7 hz7;go_wp2_with(first |(go_at_call 74;refine(hpa _).mono ?_;rintro e w9 ⟨rfl,h9⟩;obtain rfl:=h9.symm)|(go_at_call 75;refine hst.mono ?_;rintro e w8 ⟨rfl,hS9⟩));(all_goals go_ret);all_goals
   refine⟨rfl,?_⟩
   refine Sep.disk_shut (D:=D.wr i bs) (vn:=.slice (some ⟨g,0,none⟩) n c) (vf:=vf) (vb:=.slice A5 (L+1) c5) ?_
   have x1:layC (D.now.flatten.map byt) (512*i) (bs.map byt)=((D.now.set i bs).flatten).map byt:=by rw[←layC_map,flat_set512 hD.now.size hm'.out (by rw[hD.now.len];exact hi)]
   have x2:(D.now.set i bs).flatten.length=n:=by rw[flat_len512 (hD.now.set i hm'.out).size,(hD.now.set i hm'.out).len,hn'.out]
   have x3:bytesR (.slice (some ⟨g,0,none⟩) n c) (D.wr i bs).now.flatten= .sl 5 1 (.slice (some ⟨g,0,none⟩) n c) n (layC (D.now.flatten.map byt) (512*i) (bs.map byt)):=by rw[x1];unfold DK.wr;rw[DK.step_now];exact bytesR_of x2
   rw[x3]
   unfold DK.wr
   rw[DK.step_fast,DK.step_back,DK.step_off,DK.step_left]
   have y1:Sep w0 w8 (.sl 137 3 (.slice A5 (L+1) c5) (D.back++[(i,bs)]).length (heldCells (D.back++[(i,bs)]) (us++[.slice A3 512 c3]))::(List.zipWith (fun u (x:Nat×List UInt8)=>bytesR u x.2) (us++[.slice A3 512 c3]) (D.back++[(i,bs)])++(diskBox p (.slice (some ⟨g,0,none⟩) n c) vf (.slice A5 (L+1) c5) (if 0<D.left then decide (D.left=1)else D.off) (if 0<D.left then D.left-1 else D.left):: .sl 5 1 (.slice (some ⟨g,0,none⟩) n c) n (layC (D.now.flatten.map byt) (512*i) (bs.map byt))::bytesR vf D.fast.flatten::R))):=by rw[heldCells_snoc hus'.out,List.length_append,List.length_singleton,hL'.out,List.zipWith_append hus'.out,List.append_assoc];rw[hZ.out]at hS9;have y0:Sep w0 w8 (.sl 137 3 (.slice A5 (L+1) c5) (L+1) (heldCells D.back us++heldC ((i,bs),.slice A3 512 c3) L):: .sl 5 1 (.slice A3 512 c3) 512 (bs.map byt)::diskBox p (.slice (some ⟨g,0,none⟩) n c) vf (.slice A5 (L+1) c5) (if 0<D.left then decide (D.left=1)else D.off) (if 0<D.left then D.left-1 else D.left):: .sl 5 1 (.slice (some ⟨g,0,none⟩) n c) n (layC (D.now.flatten.map byt) (512*i) (bs.map byt))::bytesR vf D.fast.flatten::(List.zipWith (fun u (x:Nat×List UInt8)=>bytesR u x.2) us D.back++R)):=Sep.sel [2,1,0,3,4] hS9 (by decide) (by simp);(have e:List.zipWith (fun u (x:Nat×List UInt8)=>bytesR u x.2) [.slice A3 512 c3] [(i,bs)]=[.sl 5 1 (.slice A3 512 c3) 512 (bs.map byt)]:=by(show [bytesR (.slice A3 512 c3) bs]=_);rw[bytesR_of hm'.out]);rw[e];exact y0.perm (List.Perm.cons _ (perm4 _ _ _ _ _ _).symm)
   have y2:=Sep.back_shut (by rw[List.length_append,List.length_append,hus'.out];rfl) y1
   exact Sep.sel [1,2,3,0] y2 (by decide) (by simp)
end Go.Proofs.YteihmbaimbogaaaGreat
