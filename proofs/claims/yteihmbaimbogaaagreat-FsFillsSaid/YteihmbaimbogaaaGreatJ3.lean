/- FsD, FsDw, FsDx, laid together. -/
import Derived.Test.YteihmbaimbogaaaGreatJ2
namespace Go.Proofs.YteihmbaimbogaaaGreat
open Go.RowKit
set_option linter.unusedVariables false
theorem jH {c:dW} (h:∀b∈c,b.length=512):c.flatten.length=512*c.length:=by
 induction c with
 |nil=>rfl
 |cons b r ih=>rw[List.flatten_cons,List.length_append,ih fun x hx=>h x (List.mem_cons_of_mem _ hx),h b (List.mem_cons_self ..),List.length_cons];omega
theorem z8 :∀ {c:dW} {i:Nat},(∀b∈c,b.length=512)→i<c.length→(c.flatten.drop (512*i)).take 512=bk c i
 |[],_,_,hi=>absurd hi (Nat.not_lt_zero _)
 |b::r,0,h,_=>by rw[List.flatten_cons,Nat.mul_zero,List.drop_zero,←h b (List.mem_cons_self ..),List.take_left];rfl
 |b::r,i+1,h,hi=>by have:=z8 (c:=r) (i:=i) (fun x hx=>h x (List.mem_cons_of_mem _ hx)) (by simpa using hi);rw[List.flatten_cons,show 512*(i+1)=b.length+512*i by rw[h b (List.mem_cons_self ..)];omega,←List.drop_drop,List.drop_left,this];rfl
theorem vP :∀ {c:dW} {i:Nat} {x:List UInt8},(∀b∈c,b.length=512)→x.length=512→i<c.length→kV c.flatten (512*i) x=(c.set i x).flatten
 |[],_,_,_,_,hi=>absurd hi (Nat.not_lt_zero _)
 |b::r,0,x,h,hx,_=>by rw[List.flatten_cons,List.set_cons_zero,List.flatten_cons];unfold kV;rw[Nat.mul_zero,List.take_zero,List.nil_append,Nat.zero_add,hx,←h b (List.mem_cons_self ..),List.drop_left]
 |b::r,i+1,x,h,hx,hi=>by have:=vP (c:=r) (i:=i) (x:=x) (fun y hy=>h y (List.mem_cons_of_mem _ hy)) hx (by simpa using hi);rw[List.flatten_cons,List.set_cons_succ,List.flatten_cons,←this];unfold kV;(have e:512*(i+1)=b.length+512*i:=by rw[h b (List.mem_cons_self ..)];omega);(have e2:512*(i+1)+x.length=b.length+(512*i+x.length):=by rw[e,Nat.add_assoc]);rw[e2,e,List.take_append,List.take_of_length_le (by omega),Nat.add_sub_cancel_left,←List.drop_drop,List.drop_left,List.append_assoc,List.append_assoc,List.append_assoc]
theorem R8 {c:dW} {i j:Nat} (h:∀b∈c,b.length=512) (hi:i<c.length) (hj:j<512):c.flatten[512*i+j]? =(bk c i)[j]? :=by have:=congrArg (fun l:List UInt8=>l[j]?) (z8 h hi);simp only[List.getElem?_take,if_pos hj,List.getElem?_drop]at this;exact this
structure DK where
 now:dW
 fast:dW
 back:List (Nat×List UInt8)
 off:Bool
 left:Int
structure DK.ok (nb:Nat) (D:DK):Prop where
 now:iX nb D.now
 fast:iX nb D.fast
 few:nb≤4096
 some:1≤nb
 back:∀x∈D.back,x.1<nb∧x.2.length=512
 left: -1≤D.left∧D.left≤9223372036854775807
def DK.step (D:DK):DK:=if 0<D.left then {D with left:=D.left-1,off:=decide (D.left=1)} else D
def DK.wr (D:DK) (i:Nat) (b:List UInt8):DK:=DK.step {D with now:=D.now.set i b,back:=D.back++[(i,b)]}
def jE (c:dW) (l:List (Nat×List UInt8)):dW:=l.foldl (fun c x=>c.set x.1 x.2) c
def DK.fl (D:DK):DK:=DK.step {D with fast:=jE D.fast D.back,back:=[]}
abbrev oJ :=Option (Nat×List UInt8)
def DK.act (D:DK):oJ→DK
 |some x=>D.wr x.1 x.2
 |none=>D.fl
def iY :List oJ→DK→DK×Bool
 |[],D=>(D,true)
 |a::l,D=>if D.off=true then(D,false)else iY l (D.act a)
theorem EB (xs ys:List oJ) (D:DK):iY (xs++ys) D=if(iY xs D).2=true then iY ys (iY xs D).1 else iY xs D:=by
 induction xs generalizing D with
 |nil=>rfl
 |cons a xs ih=>
  rw[List.cons_append,iY,iY];by_cases h:D.off=true
  ·rw[if_pos h,if_pos h];rfl
  rw[if_neg h,if_neg h];exact ih _
theorem DK.step_ok {nb:Nat} {D:DK} (h:D.ok nb):D.step.ok nb:=by
 unfold DK.step;split
 ·rename_i hl;obtain⟨a,b,c,d,e,f⟩:=h;exact⟨a,b,c,d,e,by simp only;omega⟩
 exact h
theorem wW {nb:Nat}:∀ {l:List (Nat×List UInt8)} {c:dW},iX nb c→(∀x∈l,x.1<nb∧x.2.length=512)→iX nb (jE c l)
 |[],_,h,_=>h
 |x::l,c,h,hl=>wW (l:=l) (h.set x.1 (hl x (List.mem_cons_self ..)).2) fun y hy=>hl y (List.mem_cons_of_mem _ hy)
theorem DK.YR {nb:Nat} {D:DK} (h:D.ok nb) {i:Nat} {b:List UInt8} (hi:i<nb) (hb:b.length=512):(D.wr i b).ok nb:=by
 obtain⟨h1,h2,h3,h4,h5,h6⟩:=h;refine DK.step_ok ⟨h1.set _ hb,h2,h3,h4,fun x hx=>?_,h6⟩;rcases List.mem_append.1 hx with hx|hx
 ·exact h5 x hx
 rw[List.mem_singleton]at hx;subst hx;exact⟨hi,hb⟩
theorem DK.al7 {nb:Nat} {D:DK} (h:D.ok nb):D.fl.ok nb:=by obtain⟨h1,h2,h3,h4,h5,h6⟩:=h;exact DK.step_ok ⟨h1,wW h2 h5,h3,h4,fun x hx=>(List.not_mem_nil hx).elim,h6⟩
theorem YF {nb:Nat}:∀ {l:List oJ} {D:DK},D.ok nb→(∀x∈l,∀i b,x=some (i,b)→i<nb∧b.length=512)→(iY l D).1.ok nb
 |[],_,h,_=>h
 |a::l,D,h,hl=>by
  rw[iY];split
  ·exact h
  (refine YF ?_ fun x hx=>hl x (List.mem_cons_of_mem _ hx));cases a with
  |none=>exact DK.al7 h
  |some x=>have:=hl (some x) (List.mem_cons_self ..) x.1 x.2 rfl;exact DK.YR h this.1 this.2
def vQ (x:(Nat×List UInt8)×Value) (i:Nat):List Value:=[.int .i64 (x.1.1:Int),x.2,.int .i64 (i:Int)]
def dG (l:List (Nat×List UInt8)) (us:List Value):List Value:=(l.zip us).zipIdx.flatMap fun x=>vQ x.1 x.2
def xV (v:Value) (l:List (Nat×List UInt8)):aU:=
 .ex fun us:List Value=>.star (.pure (us.length=l.length)) (.star (.sl 137 3 v l.length (dG l us)) (.bX (List.zipWith (fun u (x:Nat×List UInt8)=>aH u x.2) us l)))
def fG (p:Nat) (vn vf vb:Value) (off:Bool) (left:Int):aU:=.box p 130 #[vn,vf,vb,.bool off,.int .i64 left]
def aJ (p:Nat) (D:DK):aU:=
 .ex fun vs:Value×Value×Value=>.bX [fG p vs.1 vs.2.1 vs.2.2 D.off D.left,aH vs.1 D.now.flatten,aH vs.2.1 D.fast.flatten,xV vs.2.2 D.back]
section
variable {w0 w w':World} {As R:List aU}
theorem Sep.rZ {p:Nat} {D:DK} (h:Sep w0 w (aJ p D::R)):∃vn vf vb,Sep w0 w (fG p vn vf vb D.off D.left::aH vn D.now.flatten::aH vf D.fast.flatten::xV vb D.back::R):=by obtain⟨vs,h⟩:=h.FB;exact⟨vs.1,vs.2.1,vs.2.2,h.aS⟩
theorem Sep.sD {p:Nat} {D:DK} {vn vf vb:Value} (h:Sep w0 w (fG p vn vf vb D.off D.left::aH vn D.now.flatten::aH vf D.fast.flatten::xV vb D.back::R)):Sep w0 w (aJ p D::R):=
 Sep.FC (vn,vf,vb) (Sep.bM (As:=[fG p vn vf vb D.off D.left,aH vn D.now.flatten,aH vf D.fast.flatten,xV vb D.back]) h)
end
set_option linter.unusedSimpArgs false
structure al8 (w:World) (p:Nat) (vn vf vb:Value) (off:Bool) (left:Int):Prop where
 c0:w.cell? ⟨p,0,none⟩=some vn
 c1:w.cell? ⟨p,1,none⟩=some vf
 c2:w.cell? ⟨p,2,none⟩=some vb
 c3:w.cell? ⟨p,3,none⟩=some (.bool off)
 c4:w.cell? ⟨p,4,none⟩=some (.int .i64 left)
 fz:∀j,w.frozen? ⟨p,j,none⟩=false
theorem Sep.qU {w0 w:World} {As:List aU} {p:Nat} {vn vf vb:Value} {off:Bool} {left:Int} (i:Nat) (h:Sep w0 w As) (hi:As[i]? =some (fG p vn vf vb off left)):al8 w p vn vf vb off left:=
 ⟨h.bC i hi 0,h.bC i hi 1,h.bC i hi 2,h.bC i hi 3,h.bC i hi 4,fun j=>h.bF i hi j⟩
theorem IW {g c n i:Nat} (hn:512*(i+1)≤n) (hc:n≤c) (hm:c≤maxLen) (hn4:n≤4194304) (w:World):
  Calls Tryz.prog 74 #[.slice (some ⟨g,0,none⟩) n c,.int .i64 i] w fun e w'=>e= .returned (.slice (some ⟨g,512*i,none⟩) 512 512)∧w'=w:=by
 have b0:(0:Int)≤i:=by omega
 have b1:(i:Int)*512+512≤n:=by omega
 have b2:(n:Int)≤c:=by omega
 have b3:(c:Int)≤9223372036854775807:=by unfold maxLen at hm;omega
 have b8:(n:Int)≤4194304:=by omega
 have b4:(0:Int)≤(i:Int)*512:=by omega
 have b5:(i:Int)*512≤((i:Int)+1)*512:=by omega
 have b6:((i:Int)+1)*512≤c:=by omega
 have b7:(0:Int)≤((i:Int)+1)*512:=by omega
 go_enter Tryz.func74,Tryz.ntmps74;go_wp2_with fail;all_goals go_ret
 all_goals
  refine⟨?_,rfl⟩
  rw[show(i+1)*512-i*512=512 by omega,show i*512=512*i by omega]
  rfl
theorem IX {w:World} {p:Nat} {A:Option Addr} {n c nb:Nat} (hc:w.cell? ⟨p,0,none⟩=some (.slice A n c)) (hn:n=512*nb) (hb:nb≤4096):
  Calls Tryz.prog 84 #[.pointer (some ⟨p,0,none⟩)] w fun e w'=>e= .returned (.int .i64 nb)∧w'=w:=by
 have b0:(n:Int)=512*nb:=by omega
 have b1:(nb:Int)≤4096:=by omega
 have e0:Int.tdiv (n:Int) 512=nb:=by rw[Int.tdiv_eq_ediv_of_nonneg (by omega)];omega
 have b2:(0:Int)≤nb:=by omega
 go_enter Tryz.func84,Tryz.ntmps84;go_wp2_with fail;go_ret;exact⟨rfl,rfl⟩
theorem YS {w:World} {p:Nat} {A:Option Addr} {n c nb i:Nat} {vf vb:Value} {off:Bool} {left:Int} (hC:al8 w p (.slice A n c) vf vb off left) (hn:n=512*nb) (hb:nb≤4096) (hi:i<nb):
  Calls Tryz.prog 220 #[.pointer (some ⟨p,0,none⟩),.int .i64 i] w fun e w'=>e= .returned (.int .i64 (if off=true then 11 else 0))∧w'=w:=by
 have b0:(0:Int)≤i:=by omega
 have b1:(i:Int)<nb:=by omega
 have hbl:=IX hC.c0 hn hb;have h3:=hC.c3;clear hC;go_enter Tryz.func220,Tryz.ntmps220;cases off;all_goals
  go_wp2_with(go_at_call 84;refine hbl.mono ?_;rintro e w' ⟨rfl,rfl⟩)
  go_ret
  exact⟨rfl,rfl⟩
theorem afE {w0 w:World} {R:List aU} {p:Nat} {vn vf vb:Value} {off:Bool} {left:Int} (h:Sep w0 w (fG p vn vf vb off left::R)) (hl: -1≤left∧left≤9223372036854775807):
  Calls Tryz.prog 75 #[.pointer (some ⟨p,0,none⟩)] w fun e w'=>e= .returned (.int .i64 0)∧Sep w0 w' (fG p vn vf vb (if 0<left then decide (left=1)else off) (if 0<left then left-1 else left)::R):=by
 have hC:=h.qU 0 rfl;have c4:=hC.c4;have f3:=hC.fz 3;have f4:=hC.fz 4;have c3:=hC.c3;have h1:=h.bS 0 rfl 4 (.int .i64 (left-1));have h1C:=Sep.qU (vn:=vn) (vf:=vf) (vb:=vb) (off:=off) (left:=left-1) 0 h1 rfl;have d4:=h1C.c4;have d3:=h1C.c3;have g3:=h1C.fz 3;have h2:=h1.bS 0 rfl 3 (.bool (decide (left=1)));clear hC h1C;by_cases hp:0<left
 ·have hp1:IntKind.i64.wrap (left-1)=left-1:=IntWalk.i64_in _ (by omega);have hp2:decide (left-1=0)=decide (left=1):=decide_eq_decide.2 (by omega);have hp3:(left-1==0)=decide (left=1):=by
   by_cases e:left=1
   ·subst e;rfl
   rw[decide_eq_false e];exact beq_eq_false_iff_ne.2 (by omega)
  rw[if_pos hp,if_pos hp];go_enter Tryz.func75,Tryz.ntmps75;go_wp2_with fail;(all_goals go_ret);all_goals exact⟨rfl,h2⟩
 rw[if_neg hp,if_neg hp];go_enter Tryz.func75,Tryz.ntmps75;go_wp2_with fail;all_goals go_ret
 exact⟨rfl,h⟩
theorem ajR {w:World} {g n c i nb:Nat} {l:dW} (h:BytesAt w (.slice (some ⟨g,0,none⟩) n c) l.flatten) (hl:iX nb l) (hi:i<nb):Rd w 1 (.slice (some ⟨g,512*i,none⟩) 512 512) 512 ((bk l i).map jP):=by
 have hb:=iL hl hi;have hfl:=jH hl.size;have hil:i<l.length:=by rw[hl.len];exact hi
 obtain⟨hll,A,c',e,h1,h2,h3⟩:=h;cases e;obtain⟨ad,e,hbk,hc⟩:=h3 (by rw[hfl];omega);cases e;refine⟨by rw[List.length_map,hb],_,_,rfl,Nat.le_refl _,by simp[maxLen],fun _=>⟨_,rfl,hbk,fun j u hj=>?_⟩⟩;have hj5:j<512:=by have:=(gF.1 hj).1;rw[List.length_map,hb]at this;exact this
 rw[Addr.add_lit];rw[List.getElem?_map,←R8 hl.size hil hj5,←List.getElem?_map]at hj;have:=hc _ _ hj;rw[Addr.add_lit]at this;simpa using this
theorem Sep.tQ {w0 w:World} {As:List aU} {v:Value} {bs:List UInt8} (i:Nat) (h:Sep w0 w As) (hi:As[i]? =some (aH v bs)) (hn:0<bs.length):∃g n cap,v= .slice (some ⟨g,0,none⟩) n cap∧Hid (n=bs.length)∧n≤cap∧cap≤maxLen:=by obtain⟨g,cap,e,_,_,h1,h2⟩:=h.iP i hi hn;exact⟨g,_,cap,e,Lh rfl,h1,h2⟩
theorem bE {v:Value} {bs:List UInt8} {n:Nat} (h:bs.length=n):aH v bs= .sl 5 1 v n (bs.map jP):=by unfold aH;rw[h]
theorem MP {w0 w:World} {As:List aU} {g n c:Nat} {e:TypeId} {sz:Nat} {cs:List Value} (i:Nat) (h:Sep w0 w As) (hi:As[i]? =some (.sl e sz (.slice (some ⟨g,0,none⟩) n c) n cs)):n≤c∧c≤maxLen:=by obtain⟨A,cap,e,h1,h2,_⟩:=h.vB i hi;cases e;exact⟨h1,h2⟩
set_option maxRecDepth 100000 in
set_option maxHeartbeats 1000000 in
theorem aa3 {w0 w:World} {R:List aU} {p nb i:Nat} {D:DK} (hD:D.ok nb) (hi:i<nb) (h:Sep w0 w (aJ p D::R)):
  Calls Tryz.prog 218 #[.pointer (some ⟨p,0,none⟩),.int .i64 i] w fun e w'=>
   (D.off=true∧e= .returned (.tuple #[.slice none 0 0,.int .i64 11])∧Sep w0 w' (aJ p D::R))∨
   (D.off=false∧∃v,e= .returned (.tuple #[v,.int .i64 0])∧Sep w0 w' (aH v (bk D.now i)::aJ p D::R)):=by
 obtain⟨k0,iM,hk0,hk1,hk2⟩:=iQ jV
 obtain⟨vn,vf,vb,h⟩:=h.rZ
 have hfl:=jH hD.now.size
 have hlen:=hD.now.len
 have mE:=hD.few
 have hb:=iL hD.now hi
 obtain⟨g,n,c,rfl,hnl,hc,hm⟩:=h.tQ 1 rfl (by omega)
 have hn:n=512*nb:=by rw[hnl.out,hfl,hlen]
 have hC:=Lh (h.qU 0 rfl)
 have hth:=YS hC.out hn mE hi
 have MQ:=fun W=>IW (g:=g) (c:=c) (n:=n) (i:=i) (by omega) hc hm (by omega) W
 have hrd:=Lh (ajR (h.rd 1 rfl) hD.now hi)
 have c0:=hC.out.c0
 have hS:=Lh (h.fO 5 1)
 have h':=Lh h
 clear hfl hlen hn
 cases hoff:D.off with
 |true=>
  rw[hoff]at hth;clear MQ hrd hS hC h;go_enter Tryz.func218,Tryz.ntmps218;go_wp2_with(go_at_call 220;refine hth.mono ?_;rintro e w' ⟨rfl,rfl⟩)
  go_ret2
  exact .inl ⟨trivial,rfl,h'.out.sD⟩
 |false=>
  rw[hoff]at hth;clear hC h;go_enter Tryz.func218,Tryz.ntmps218;go_wp2_with(first |(go_at_call 220;refine hth.mono ?_;rintro e w' ⟨rfl,rfl⟩)|(go_at_call 74;refine(MQ _).mono ?_;rintro e w' ⟨rfl,rfl⟩;clear MQ hth)|(at_builtin;refine bL 0 rfl _ _ 35 rfl 5 k0 (.int .u8 0) 1 1 Tryz.underlying35 iM hk0 hk1 hk2 rfl (by decide) hS.out _ 0 [] rfl rfl (.slice (some ⟨g,512*i,none⟩) 512 512) 512 ((bk D.now i).map jP) rfl hrd.out sU (by unfold maxLen;omega) (by omega) ?_;intro v3 w3 bG hz3))
  go_ret2
  refine .inr ⟨trivial,v3,rfl,?_⟩;(have h9:Sep w0 w3 (aH v3 (bk D.now i)::fG p (.slice (some ⟨g,0,none⟩) n c) vf vb D.off D.left::aH (.slice (some ⟨g,0,none⟩) n c) D.now.flatten::aH vf D.fast.flatten::xV vb D.back::R):=by rw[bE hb];exact bG);have h10:=Sep.sD (Sep.bZ [1,2,3,4,0] h9 (by decide) (by simp));exact Sep.bZ [1,0] h10 (by decide) (by simp)
theorem aa4 :(Tryz.prog.info? 137).map (fun i=>(i.zero,i.size,i.bytes))=some (some (.agg #[.int .i64 0,.slice none 0 0,.int .i64 0]),3,40):=by kernel_rfl
theorem Sep.MR {w0 w:World} {R:List aU} {v:Value} {l:List (Nat×List UInt8)} (h:Sep w0 w (xV v l::R)):∃us:List Value,us.length=l.length∧Sep w0 w (.sl 137 3 v l.length (dG l us)::(List.zipWith (fun u (x:Nat×List UInt8)=>aH u x.2) us l++R)):=by obtain⟨us,h⟩:=h.FB;obtain⟨hl,h⟩:=h.gX.LG;have h2:=h.gX;exact⟨us,hl,(h2.perm (List.Perm.swap _ _ _)).aS.perm List.perm_middle⟩
theorem Sep.CK {w0 w:World} {R:List aU} {v:Value} {l:List (Nat×List UInt8)} {us:List Value} (hl:us.length=l.length) (h:Sep w0 w (.sl 137 3 v l.length (dG l us)::(List.zipWith (fun u (x:Nat×List UInt8)=>aH u x.2) us l++R))):Sep w0 w (xV v l::R):=by have h1:=h.perm List.perm_middle.symm;have h2:=(h1.bM.perm (List.Perm.swap _ _ _)).jU;exact Sep.FC us (Sep.jU (h2.LH hl))
theorem Sep.dA {w0 w:World} {As:List aU} {e:TypeId} {sz n:Nat} {v:Value} {cs:List Value} (i:Nat) (h:Sep w0 w As) (hi:As[i]? =some (.sl e sz v n cs)):∃A c,v= .slice A n c:=by obtain⟨A,cap,e,_⟩:=h.vB i hi;exact⟨A,cap,e⟩
theorem afF {α:Type} (X R:List α) (a b c:α):(X++a::b::c::R).Perm (a::b::c::(X++R)):=
 List.perm_middle.trans (List.Perm.cons _ (List.perm_middle.trans (List.Perm.cons _ List.perm_middle)))
theorem al9 {α:Type} (X R:List α) (a b c d:α):(X++a::b::c::d::R).Perm (a::b::c::d::(X++R)):=
 List.perm_middle.trans (List.Perm.cons _ (afF X R b c d))
theorem DK.zR (D:DK):D.step.now=D.now:=by unfold DK.step;split<;>rfl
theorem DK.MS (D:DK):D.step.fast=D.fast:=by unfold DK.step;split<;>rfl
theorem DK.wX (D:DK):D.step.back=D.back:=by unfold DK.step;split<;>rfl
theorem DK.R9 (D:DK):D.step.off=if 0<D.left then decide (D.left=1)else D.off:=by unfold DK.step;split<;>rfl
theorem DK.MU (D:DK):D.step.left=if 0<D.left then D.left-1 else D.left:=by unfold DK.step;split<;>rfl
theorem IY {l:List (Nat×List UInt8)} {us:List Value} (hl:us.length=l.length) (x:Nat×List UInt8) (u:Value):dG (l++[x]) (us++[u])=dG l us++vQ (x,u) l.length:=by unfold dG;rw[List.zip_append hl.symm,List.zipIdx_append,List.flatMap_append];simp[hl]
set_option maxRecDepth 100000 in
set_option maxHeartbeats 2000000 in
theorem WC {w0 w:World} {R:List aU} {p nb i:Nat} {D:DK} {v:Value} {bs:List UInt8} (hD:D.ok nb) (hi:i<nb) (hbs:bs.length=512) (mE:D.back.length<65536) (hv:iB w0 R v bs) (h:Sep w0 w (aJ p D::R)):
  Calls Tryz.prog 219 #[.pointer (some ⟨p,0,none⟩),.int .i64 i,v] w fun e w'=>
   e= .returned (.int .i64 (if D.off=true then 11 else 0))∧Sep w0 w' (aJ p (if D.off=true then D else D.wr i bs)::R):=by
 obtain⟨k0,iM,hk0,hk1,hk2⟩:=iQ jV
 obtain⟨j0,aa5,hj0,hj1,hj2⟩:=iQ aa4
 have h00:=Lh h
 obtain⟨vn,vf,vb,h⟩:=h.rZ
 have hfl:=jH hD.now.size
 have hlen:=hD.now.len
 have hnb:=hD.few
 obtain⟨g,n,c,rfl,hnl,hc,hm⟩:=h.tQ 1 rfl (by have:=hD.some;omega)
 have hn:n=512*nb:=by rw[hnl.out,hfl,hlen]
 have hC:=Lh (h.qU 0 rfl)
 have hth:=YS hC.out hn hnb hi
 have MQ:=fun W=>IW (g:=g) (c:=c) (n:=n) (i:=i) (by omega) hc hm (by omega) W
 have hvb:BytesAt w v bs:=hv.now (X:=[_,_,_,_]) h
 obtain⟨A,cv,rfl,_⟩:=hvb.shape
 obtain⟨m,hm⟩:∃m,bs.length=m:=⟨_,rfl⟩
 rw[hm]at hbs
 subst hbs
 rw[hm]at hv hvb ⊢
 --the list of writes
 have hp0:Sep w0 w (xV vb D.back::fG p (.slice (some ⟨g,0,none⟩) n c) vf vb D.off D.left::aH (.slice (some ⟨g,0,none⟩) n c) D.now.flatten::aH vf D.fast.flatten::R):=Sep.bZ [3,0,1,2] h (by decide) (by simp)
 obtain⟨us,FK,hp1⟩:=Sep.MR hp0
 have hp:Sep w0 w (.sl 137 3 vb D.back.length (dG D.back us)::fG p (.slice (some ⟨g,0,none⟩) n c) vf vb D.off D.left::aH (.slice (some ⟨g,0,none⟩) n c) D.now.flatten::aH vf D.fast.flatten::(List.zipWith (fun u (x:Nat×List UInt8)=>aH u x.2) us D.back++R)):=hp1.perm (List.Perm.cons _ (afF _ _ _ _ _))
 obtain⟨Z,hZ⟩:∃Z,Z=List.zipWith (fun u (x:Nat×List UInt8)=>aH u x.2) us D.back++R:=⟨_,rfl⟩
 rw[←hZ]at hp
 have hvZ:iB w0 Z (.slice A 512 cv) bs:=hZ▸hv.more
 replace hZ:=Lh hZ
 clear hp1
 obtain⟨Ab,cb,anF,hbc,hbm,_⟩:=hp.vB 0 rfl
 subst anF
 obtain⟨L,hL⟩:∃L,D.back.length=L:=⟨_,rfl⟩
 rw[hL]at hp
 have c2:=hC.out.c2
 rw[hL]at c2
 have q1:decide ((65536:Int)≤(L:Int))=false:=decide_eq_false (by omega)
 have hLs:=Lh (show L<65536 by omega)
 have hlen':=Lh hlen
 have awH:=Lh hfl
 have hn':=Lh hn
 have hp':=Lh hp
 have hm':=Lh hm
 have awI:=Lh hvb
 have hL':=Lh hL
 have afG:=Lh FK
 clear hlen hfl hn hp hm hvb hp0 h hL FK mE
 cases hoff:D.off with
 |true=>simp only[hoff,if_true,Bool.false_eq_true,if_false]at hth;clear MQ hC;go_enter Tryz.func219,Tryz.ntmps219;clear q1;go_wp2_with(go_at_call 220;refine hth.mono ?_;rintro e w9 ⟨rfl,h9⟩;obtain rfl:=h9.symm);go_ret;exact⟨rfl,h00.out⟩
 |false=>
  simp only[hoff,if_true,Bool.false_eq_true,if_false]at hth;have c0:=hC.out.c0;have hS5:=Lh (hp'.out.drew.fO 5 1);have e2:w.drew.cell? ⟨p,2,none⟩=some (.slice Ab L cb):=c2;clear hC;go_enter Tryz.func219,Tryz.ntmps219;go_wp2_with(go_at_call 220;refine hth.mono ?_;rintro e w9 ⟨rfl,h9⟩;obtain rfl:=h9.symm);clear hth q1;refine aN (S:=fun w'=>w'.cell? ⟨p,2,none⟩=some (.slice Ab L cb)) 19 (by kernel_rfl) ?_;simp only[List.size_toArray,List.length_cons,List.length_nil,Nat.reduceAdd];refine aA (i:=0) (v:=?_) e2 rfl ?_ ?_;rotate_left
  ·rintro w e1;go_simp;try with_reducible rfl
  simp only[Act.put,gD];refine aA (i:=1) (v:=?_) e2 rfl ?_ ?_;rotate_left
  ·rintro w e1;go_simp;try with_reducible rfl
  simp only[Act.put,gD];refine aA (i:=2) (v:=?_) e2 rfl ?_ ?_;rotate_left
  ·rintro w e1;go_simp;try with_reducible rfl
  simp only[Act.put,gD];refine aA (i:=3) (v:=?_) e2 rfl ?_ ?_;rotate_left
  ·rintro w e1;go_simp;try with_reducible rfl
  simp only[Act.put,gD];refine aA (i:=4) (v:=?_) e2 rfl ?_ ?_;rotate_left
  ·rintro w e1;go_simp;try with_reducible rfl
  simp only[Act.put,gD];refine aA (i:=5) (v:=?_) e2 rfl ?_ ?_;rotate_left
  ·rintro w e1;go_simp;try with_reducible rfl
  simp only[Act.put,gD];refine aA (i:=6) (v:=?_) e2 rfl ?_ ?_;rotate_left
  ·rintro w e1;go_simp;try with_reducible rfl
  simp only[Act.put,gD];refine aA (i:=9) (v:=?_) e2 rfl ?_ ?_;rotate_left
  ·rintro w e1;go_simp;try with_reducible rfl
  simp only[Act.put,gD];refine aA (i:=10) (v:=?_) e2 rfl ?_ ?_;rotate_left
  ·rintro w e1;go_simp;try with_reducible rfl
  simp only[Act.put,gD];refine aA (i:=11) (v:=?_) e2 rfl ?_ ?_;rotate_left
  ·rintro w e1;go_simp;try with_reducible rfl
  simp only[Act.put,gD];refine aA (i:=12) (v:=?_) e2 rfl ?_ ?_;rotate_left
  ·rintro w e1;go_simp;try with_reducible rfl
  simp only[Act.put,gD];refine aA (i:=13) (v:=?_) e2 rfl ?_ ?_;rotate_left
  ·rintro w e1;go_simp;try with_reducible rfl
  simp only[Act.put,gD];refine aC (i:=7) (by kernel_rfl) rfl (fun K hK=>?_);refine dD 0 (by rfl) _ _ 35 (by rfl) 5 k0 (.int .u8 0) 1 1 Tryz.underlying35 iM hk0 hk1 hk2 rfl (by decide) hS5.out (.slice none 0 0) 0 [] (by rfl) (by simp[Act.eval]) (.slice A 512 cv) 512 (bs.map jP) (by simp[Act.eval]) (by have:=awI.out;unfold BytesAt at this;rw[hm'.out]at this;exact this) sU (by unfold maxLen;omega) (by omega) ?_;intro v3 w3 bG hz3;(try simp only[List.set_cons_zero,Nat.zero_add,List.nil_append]at bG);have kX:=Lh bG;have e3:=(bG.qU 2 rfl).c2;have hf3:=bG.dA 0 rfl;clear hz3 bG hS5 e2;obtain⟨A3,c3,hv3⟩:=hf3;subst hv3;refine hK _ _ (fun _=>e3) ?_;clear hK K;(try simp only[Act.put,gD]);refine aC (i:=8) (by kernel_rfl) rfl (fun K hK=>?_);go_simp;refine hK _ _ (fun _=>e3) ?_;clear hK K;(try simp only[Act.put,gD]);refine aC (i:=14) (by kernel_rfl) rfl (fun K hK=>?_);go_simp;refine hK _ _ (fun _=>e3) ?_;clear hK K;(try simp only[Act.put,gD]);refine aC (i:=15) (by kernel_rfl) rfl (fun K hK=>?_);go_simp;have iW:=kX.out.alloc (.cells #[.int .i64 i,.slice A3 512 c3,.int .i64 L] 137);have e4:=(iW.qU 2 rfl).c2;refine hK _ _ (fun _=>e4) ?_;clear hK K;(try simp only[Act.put,gD]);refine aC (i:=16) (by kernel_rfl) rfl (fun K hK=>?_);refine dD 1 (by rfl) _ _ 128 (by rfl) 137 j0 _ 3 40 Tryz.underlying128 aa5 hj0 hj1 hj2 rfl (by decide) iW (.slice Ab L cb) L (dG D.back us) (by rfl) (by rfl) (.slice (some ⟨w3.heap.size,0,none⟩) 1 1) 1 [.int .i64 i,.slice A3 512 c3,.int .i64 L] (by rfl)
   ⟨rfl,_,_,rfl,Nat.le_refl _,by unfold maxLen;omega,fun _=>⟨_,rfl,by rw[World.size_alloc];exact Nat.lt_succ_self _,iN w3 #[.int .i64 i,.slice A3 512 c3,.int .i64 L] 137 _ rfl⟩⟩ (by simp[Value.oneCell']) (by have:=hLs.out;unfold maxLen;omega) (by have:=hLs.out;omega) ?_
  intro v5 w5 hS5 hz5;simp only[List.set_cons_succ,List.set_cons_zero]at hS5;have ajS:=Lh hS5;have hf5:=hS5.dA 1 rfl;have VL:=hS5.qU 2 rfl;have e5:=VL.c2;have f5:=VL.fz 2;clear hz5 hS5 iW e4 VL e3;obtain⟨A5,c5,hv5⟩:=hf5;subst hv5;refine hK _ _ (fun _=>e5) ?_;clear hK K;(try simp only[Act.put,gD]);refine aC (i:=17) (by kernel_rfl) rfl (fun K hK=>?_);go_simp;refine hK _ _ (fun _=>e5) ?_;clear hK K;(try simp only[Act.put,gD]);refine aC (i:=18) (by kernel_rfl) rfl (fun K hK=>?_);go_simp;refine hK _ _ (fun _=>e5) ?_;clear hK K;(try simp only[Act.put,gD]);refine aC (i:=19) (by kernel_rfl) rfl (fun K hK=>?_);go_simp;refine hK _ _ (fun h=>absurd rfl h) ?_;clear hK K;(try simp only[Act.put,gD]);refine aO (by kernel_rfl) ?_ _;(have kW:Hid (Sep w0 (w5.setCell ⟨p,2,none⟩ (.slice A5 (L+1) c5)) (.sl 5 1 (.slice A3 512 c3) 512 (bs.map jP):: .sl 137 3 (.slice A5 (L+1) c5) (L+1) (dG D.back us++vQ ((i,bs),.slice A3 512 c3) L)::fG p (.slice (some ⟨g,0,none⟩) n c) vf (.slice A5 (L+1) c5) D.off D.left:: .sl 5 1 (.slice (some ⟨g,0,none⟩) n c) n (D.now.flatten.map jP)::aH vf D.fast.flatten::Z)):=by rw[←bE hnl.out.symm];exact ajS.out.bS 2 rfl 2 (.slice A5 (L+1) c5));have d0:=(kW.out.qU 2 rfl).c0;have hs6:Hid (BytesAt (w5.setCell ⟨p,2,none⟩ (.slice A5 (L+1) c5)) (.slice A 512 cv) bs):=hvZ.now (X:=[_,_,_,_,_]) kW.out;obtain⟨w7,hcp,rR,ZX⟩:=kW.out.QS (P:=Tryz.prog) 3 rfl 35 35 3 Tryz.underlying35 rQ (512*i) 512 512 (.slice A 512 cv) 512 (bs.map jP) (by have:=hs6.out;unfold BytesAt at this;rw[hm'.out]at this;exact this) sU (by have:=hn'.out;omega);(have BZ:Hid (Sep w0 w7 (fG p (.slice (some ⟨g,0,none⟩) n c) vf (.slice A5 (L+1) c5) D.off D.left:: .sl 5 1 (.slice A3 512 c3) 512 (bs.map jP):: .sl 137 3 (.slice A5 (L+1) c5) (L+1) (dG D.back us++vQ ((i,bs),.slice A3 512 c3) L):: .sl 5 1 (.slice (some ⟨g,0,none⟩) n c) n (kV (D.now.flatten.map jP) (512*i) (bs.map jP))::aH vf D.fast.flatten::Z)):=by have e9:(bs.map jP).take (min 512 512)=bs.map jP:=List.take_of_length_le (by rw[List.length_map,hm'.out];exact Nat.le_refl _);rw[e9]at rR;exact Sep.bZ [2,0,1] rR (by decide) (by simp));have hst:=afE BZ.out hD.left;have aCA:(Builtin.copy_ #[35,35] 3 #[.slice (some ⟨g,512*i,none⟩) 512 512,.slice A 512 cv]).run Tryz.prog (w5.setCell ⟨p,2,none⟩ (.slice A5 (L+1) c5))= .ok (.int .i64 512) w7:=hcp;clear ajS kX f5 e5 hcp rR ZX;go_wp2_with(first |(go_at_call 74;refine(MQ _).mono ?_;rintro e w9 ⟨rfl,h9⟩;obtain rfl:=h9.symm)|(go_at_call 75;refine hst.mono ?_;rintro e w8 ⟨rfl,DF⟩));(all_goals go_ret);all_goals
   refine⟨rfl,?_⟩
   refine Sep.sD (D:=D.wr i bs) (vn:=.slice (some ⟨g,0,none⟩) n c) (vf:=vf) (vb:=.slice A5 (L+1) c5) ?_
   have x1:kV (D.now.flatten.map jP) (512*i) (bs.map jP)=((D.now.set i bs).flatten).map jP:=by rw[←vG,vP hD.now.size hm'.out (by rw[hD.now.len];exact hi)]
   have x2:(D.now.set i bs).flatten.length=n:=by rw[jH (hD.now.set i hm'.out).size,(hD.now.set i hm'.out).len,hn'.out]
   have x3:aH (.slice (some ⟨g,0,none⟩) n c) (D.wr i bs).now.flatten= .sl 5 1 (.slice (some ⟨g,0,none⟩) n c) n (kV (D.now.flatten.map jP) (512*i) (bs.map jP)):=by rw[x1];unfold DK.wr;rw[DK.zR];exact bE x2
   rw[x3]
   unfold DK.wr
   rw[DK.MS,DK.wX,DK.R9,DK.MU]
   have y1:Sep w0 w8 (.sl 137 3 (.slice A5 (L+1) c5) (D.back++[(i,bs)]).length (dG (D.back++[(i,bs)]) (us++[.slice A3 512 c3]))::(List.zipWith (fun u (x:Nat×List UInt8)=>aH u x.2) (us++[.slice A3 512 c3]) (D.back++[(i,bs)])++(fG p (.slice (some ⟨g,0,none⟩) n c) vf (.slice A5 (L+1) c5) (if 0<D.left then decide (D.left=1)else D.off) (if 0<D.left then D.left-1 else D.left):: .sl 5 1 (.slice (some ⟨g,0,none⟩) n c) n (kV (D.now.flatten.map jP) (512*i) (bs.map jP))::aH vf D.fast.flatten::R))):=by rw[IY afG.out,List.length_append,List.length_singleton,hL'.out,List.zipWith_append afG.out,List.append_assoc];rw[hZ.out]at DF;have y0:Sep w0 w8 (.sl 137 3 (.slice A5 (L+1) c5) (L+1) (dG D.back us++vQ ((i,bs),.slice A3 512 c3) L):: .sl 5 1 (.slice A3 512 c3) 512 (bs.map jP)::fG p (.slice (some ⟨g,0,none⟩) n c) vf (.slice A5 (L+1) c5) (if 0<D.left then decide (D.left=1)else D.off) (if 0<D.left then D.left-1 else D.left):: .sl 5 1 (.slice (some ⟨g,0,none⟩) n c) n (kV (D.now.flatten.map jP) (512*i) (bs.map jP))::aH vf D.fast.flatten::(List.zipWith (fun u (x:Nat×List UInt8)=>aH u x.2) us D.back++R)):=Sep.bZ [2,1,0,3,4] DF (by decide) (by simp);(have e:List.zipWith (fun u (x:Nat×List UInt8)=>aH u x.2) [.slice A3 512 c3] [(i,bs)]=[.sl 5 1 (.slice A3 512 c3) 512 (bs.map jP)]:=by(show [aH (.slice A3 512 c3) bs]=_);rw[bE hm'.out]);rw[e];exact y0.perm (List.Perm.cons _ (al9 _ _ _ _ _ _).symm)
   have y2:=Sep.CK (by rw[List.length_append,List.length_append,afG.out];rfl) y1
   exact Sep.bZ [1,2,3,0] y2 (by decide) (by simp)
end Go.Proofs.YteihmbaimbogaaaGreat
