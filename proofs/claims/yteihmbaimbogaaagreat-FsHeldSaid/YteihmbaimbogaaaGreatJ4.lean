/- FsP, FsD, FsDw, laid together. -/
import Derived.Test.YteihmbaimbogaaaGreatJ2
namespace Go.Proofs.YteihmbaimbogaaaGreat
def r2 (b:List UInt8) (i:Nat):Nat:=(b.getD i 0).toNat+256*(b.getD (i+1) 0).toNat
def w2 (n:Nat):List UInt8:=[UInt8.ofNat n,UInt8.ofNat (n/256)]
def layB (b:List UInt8) (i:Nat) (xs:List UInt8):List UInt8:=b.take i++xs++b.drop (i+xs.length)
structure VI where
 kind:Nat
 mode:Nat
 links:Nat
 size:Nat
 spots:List Nat
def viD (b:List UInt8):VI where
 kind:=(b.getD 0 0).toNat
 mode:=r2 b 1
 links:=r2 b 3
 size:=r2 b 5
 spots:=(List.range (b.getD 7 0).toNat).map fun k=>r2 b (8+2*k)
def viE (x:VI):List UInt8:=
 UInt8.ofNat x.kind::(w2 x.mode++w2 x.links++w2 x.size++(UInt8.ofNat x.spots.length::(x.spots.flatMap w2++List.replicate (56-2*x.spots.length) 0)))
structure VI.ok (x:VI):Prop where
 kind:x.kind<256
 mode:x.mode<65536
 links:x.links<65536
 size:x.size<65536
 few:x.spots.length≤28
 spot:∀k∈x.spots,k<65536
theorem w2_len (n:Nat):(w2 n).length=2:=rfl
theorem u8_of (n:Nat):(UInt8.ofNat n).toNat=n%256:=UInt8.toNat_ofNat'
theorem r2_w2 {n:Nat} (h:n<65536) (r:List UInt8):r2 (w2 n++r) 0=n:=by
 show(UInt8.ofNat n).toNat+256*(UInt8.ofNat (n/256)).toNat=n
 rw[u8_of,u8_of];omega
theorem r2_lt (b:List UInt8) (i:Nat):r2 b i<65536:=by unfold r2;have h1:=(b.getD i 0).toNat_lt;have h2:=(b.getD (i+1) 0).toNat_lt;omega
theorem flat_w2_len (l:List Nat):(l.flatMap w2).length=2*l.length:=by
 induction l with
 |nil=>rfl
 |cons x r ih=>simp only[List.flatMap_cons,List.length_append,w2_len,List.length_cons,ih];omega
theorem viE_len {x:VI} (h:x.spots.length≤28):(viE x).length=64:=by unfold viE;simp only[List.length_cons,List.length_append,w2_len,flat_w2_len,List.length_replicate];omega
theorem r2_drop (b:List UInt8) (i j:Nat):r2 (b.drop i) j=r2 b (i+j):=by unfold r2;simp only[gH,List.getElem?_drop];congr 2
theorem flat_at :∀(l:List Nat) (r:List UInt8) (k:Nat),k<l.length→(∀y∈l,y<65536)→r2 (l.flatMap w2++r) (2*k)=l.getD k 0
 |[],_,_,h,_=>absurd h (Nat.not_lt_zero _)
 |x::l,r,0,_,hl=>by rw[List.flatMap_cons,List.append_assoc,Nat.mul_zero,r2_w2 (hl x (List.mem_cons_self ..))];rfl
 |x::l,r,k+1,h,hl=>by(have h1:=flat_at l r k (by simpa using h) fun y hy=>hl y (List.mem_cons_of_mem _ hy));(have h2:(l.flatMap w2++r)=((x::l).flatMap w2++r).drop 2:=by rw[List.flatMap_cons,List.append_assoc];rfl);rw[h2,r2_drop]at h1;rw[show 2*(k+1)=2+2*k by omega,h1];rfl
theorem viD_viE {x:VI} (h:x.ok):viD (viE x)=x:=by
 obtain⟨h0,h1,h2,h3,h4,h5⟩:=h;have e7:((viE x).getD 7 0).toNat=x.spots.length:=by(show(UInt8.ofNat x.spots.length).toNat=_);rw[u8_of];omega
 have hs:∀k,k<x.spots.length→r2 (viE x) (8+2*k)=x.spots.getD k 0:=fun k hk=>by have:=flat_at x.spots (List.replicate (56-2*x.spots.length) 0) k hk h5;rw[←this,←r2_drop];rfl
 obtain⟨kind,mode,links,size,spots⟩:=x;simp only at h0 h1 h2 h3 h4 h5 e7 hs;unfold viD;rw[e7];have m1:r2 (viE ⟨kind,mode,links,size,spots⟩) 1=mode:=by show(UInt8.ofNat mode).toNat+256*(UInt8.ofNat (mode/256)).toNat=mode;rw[u8_of,u8_of];omega
 have m2:r2 (viE ⟨kind,mode,links,size,spots⟩) 3=links:=by show(UInt8.ofNat links).toNat+256*(UInt8.ofNat (links/256)).toNat=links;rw[u8_of,u8_of];omega
 have m3:r2 (viE ⟨kind,mode,links,size,spots⟩) 5=size:=by show(UInt8.ofNat size).toNat+256*(UInt8.ofNat (size/256)).toNat=size;rw[u8_of,u8_of];omega
 have m0:((viE ⟨kind,mode,links,size,spots⟩).getD 0 0).toNat=kind:=by show(UInt8.ofNat kind).toNat=kind;rw[u8_of];omega
 rw[m0,m1,m2,m3];congr 1;refine List.ext_getElem (by simp) fun k hk hk2=>?_
 rw[List.getElem_map,List.getElem_range,hs k hk2,gH,gE hk2];rfl
def bitB (u:List UInt8) (j:Nat):Bool:=(u.getD (j/8) 0).toNat/2 ^ (j%8)%2==1
def freeL (u:List UInt8) (n:Nat):Option Nat:=(List.range n).find? fun j=> !bitB u j
def orB (x:UInt8) (k:Nat):UInt8:=if x.toNat/2 ^ k%2=1 then x else UInt8.ofNat (x.toNat+2 ^ k)
def clB (x:UInt8) (k:Nat):UInt8:=if x.toNat/2 ^ k%2=1 then UInt8.ofNat (x.toNat-2 ^ k)else x
def setB (u:List UInt8) (j:Nat):List UInt8:=u.set (j/8) (orB (u.getD (j/8) 0) (j%8))
def clrB (u:List UInt8) (j:Nat):List UInt8:=u.set (j/8) (clB (u.getD (j/8) 0) (j%8))
theorem byte_bits0 :∀(x:Fin 256) (k i:Fin 8),((orB (UInt8.ofNat x.1) k.1).toNat/2 ^ i.1%2==1)=(decide (i.1=k.1)||(x.1/2 ^ i.1%2==1))∧
  ((clB (UInt8.ofNat x.1) k.1).toNat/2 ^ i.1%2==1)=(!decide (i.1=k.1)&&(x.1/2 ^ i.1%2==1)):=by
 decide+kernel
theorem byte_bits (x:UInt8) (k:Nat) (hk:k<8) (i:Nat) (hi:i<8):((orB x k).toNat/2 ^ i%2==1)=(decide (i=k)||(x.toNat/2 ^ i%2==1))∧
  ((clB x k).toNat/2 ^ i%2==1)=(!decide (i=k)&&(x.toNat/2 ^ i%2==1)):=by
 have:=byte_bits0 ⟨x.toNat,x.toNat_lt⟩ ⟨k,hk⟩ ⟨i,hi⟩;simpa using this
theorem bit_set {u:List UInt8} {j i:Nat} (hj:j/8<u.length):bitB (setB u j) i=(decide (i=j)||bitB u i):=by
 unfold setB bitB;by_cases e:i/8=j/8
 ·rw[e,gH,List.getElem?_set_self hj,Option.getD_some,(byte_bits _ (j%8) (Nat.mod_lt _ (by decide)) (i%8) (Nat.mod_lt _ (by decide))).1];congr 1;rw[decide_eq_decide];omega
 rw[gH,List.getElem?_set_ne (by omega),←gH];have:decide (i=j)=false:=decide_eq_false (by intro h;exact e (by rw[h]));rw[this,Bool.false_or]
theorem bit_clr {u:List UInt8} {j i:Nat} (hj:j/8<u.length):bitB (clrB u j) i=(!decide (i=j)&&bitB u i):=by
 unfold clrB bitB;by_cases e:i/8=j/8
 ·rw[e,gH,List.getElem?_set_self hj,Option.getD_some,(byte_bits _ (j%8) (Nat.mod_lt _ (by decide)) (i%8) (Nat.mod_lt _ (by decide))).2];congr 2;rw[decide_eq_decide];omega
 rw[gH,List.getElem?_set_ne (by omega),←gH];have:decide (i=j)=false:=decide_eq_false (by intro h;exact e (by rw[h]));rw[this];rfl
theorem setB_len (u:List UInt8) (j:Nat):(setB u j).length=u.length:=List.length_set ..
theorem clrB_len (u:List UInt8) (j:Nat):(clrB u j).length=u.length:=List.length_set ..
theorem freeL_some {u:List UInt8} {n j:Nat} (h:freeL u n=some j):j<n∧bitB u j=false∧∀i<j,bitB u i=true:=by unfold freeL at h;rw[List.find?_range_eq_some]at h;obtain⟨h1,h2,h3⟩:=h;refine⟨List.mem_range.1 h2,by simpa using h1,fun i hi=>by simpa using h3 i hi⟩
theorem freeL_none {u:List UInt8} {n:Nat} (h:freeL u n=none):∀i<n,bitB u i=true:=by unfold freeL at h;intro i hi;have:=List.find?_eq_none.1 h i (List.mem_range.2 hi);simpa using this
abbrev Blks :=List (List UInt8)
def bk (c:Blks) (i:Nat):List UInt8:=c.getD i []
structure BlksOk (n:Nat) (c:Blks):Prop where
 len:c.length=n
 size:∀b∈c,b.length=512
theorem bk_len {n:Nat} {c:Blks} (h:BlksOk n c) {i:Nat} (hi:i<n):(bk c i).length=512:=by
 unfold bk;have hi':i<c.length:=by rw[h.len];exact hi
 rw[gH,gE hi'];exact h.size _ (List.getElem_mem hi')
theorem bk_set (c:Blks) (i j:Nat) (x:List UInt8) (hi:i<c.length):bk (c.set i x) j=if j=i then x else bk c j:=by
 unfold bk;by_cases e:j=i
 ·subst e;rw[if_pos rfl,gH,List.getElem?_set_self hi];rfl
 rw[if_neg e,gH,List.getElem?_set_ne (fun h=>e h.symm),←gH]
theorem BlksOk.set {n:Nat} {c:Blks} (h:BlksOk n c) (i:Nat) {x:List UInt8} (hx:x.length=512):BlksOk n (c.set i x):=
 ⟨by rw[List.length_set];exact h.len,fun b hb=>by
  rcases List.mem_or_eq_of_mem_set hb with h1|h1
  ·exact h.size b h1
  rw[h1];exact hx⟩
def inoP (c:Blks) (n:Nat):VI:=viD (((bk c (2+n/8)).drop (n%8*64)).take 64)
def keepP (c:Blks) (n:Nat) (x:VI):Blks:=c.set (2+n/8) (layB (bk c (2+n/8)) (n%8*64) (viE x))
theorem layB_len {b xs:List UInt8} {i:Nat} (h:i+xs.length≤b.length):(layB b i xs).length=b.length:=by unfold layB;simp only[List.length_append,List.length_take,List.length_drop];omega
theorem layB_same {b xs:List UInt8} {i:Nat} (h:i+xs.length≤b.length):((layB b i xs).drop i).take xs.length=xs:=by unfold layB;rw[List.append_assoc,List.drop_append_of_le_length (by rw[List.length_take];omega),List.drop_eq_nil_of_le (by rw[List.length_take];omega),List.nil_append];exact List.take_left
theorem layB_get {b xs:List UInt8} {i:Nat} (h:i+xs.length≤b.length) (k:Nat):(layB b i xs)[k]? =if i≤k∧k<i+xs.length then xs[k-i]? else b[k]? :=by
 unfold layB;by_cases h1:k<i
 ·rw[if_neg (by omega),List.append_assoc,List.getElem?_append_left (by rw[List.length_take];omega),List.getElem?_take,if_pos h1]
 by_cases h2:k<i+xs.length
 ·rw[if_pos ⟨by omega,h2⟩,List.getElem?_append_left (by rw[List.length_append,List.length_take];omega),List.getElem?_append_right (by rw[List.length_take];omega),List.length_take,Nat.min_eq_left (by omega)]
 rw[if_neg (by omega),List.getElem?_append_right (by rw[List.length_append,List.length_take];omega),List.length_append,List.length_take,Nat.min_eq_left (by omega),List.getElem?_drop];congr 1;omega
theorem inoP_keep {nb:Nat} {c:Blks} (hc:BlksOk nb c) {n:Nat} (hn:2+n/8<nb) {x:VI} (hx:x.ok) (m:Nat):inoP (keepP c n x) m=if m=n then x else inoP c m:=by
 have hl:=bk_len hc hn;have hv:=viE_len hx.few;have hr:n%8*64+(viE x).length≤(bk c (2+n/8)).length:=by rw[hl,hv];omega
 unfold inoP keepP;rw[bk_set _ _ _ _ (by rw[hc.len];exact hn)];by_cases e:m=n
 ·subst e;rw[if_pos rfl,if_pos rfl];have:=layB_same hr;rw[hv]at this;rw[this,viD_viE hx]
 rw[if_neg e];by_cases e2:2+m/8=2+n/8
 ·rw[if_pos e2];congr 1;apply List.ext_getElem?;intro k;rw[List.getElem?_take,List.getElem?_take];by_cases hk:k<64
  ·rw[if_pos hk,if_pos hk,List.getElem?_drop,List.getElem?_drop,layB_get hr,hv,if_neg (by omega),e2]
  rw[if_neg hk,if_neg hk]
 rw[if_neg e2]
theorem keepP_ok {nb:Nat} {c:Blks} (hc:BlksOk nb c) {n:Nat} (hn:2+n/8<nb) {x:VI} (hx:x.spots.length≤28):BlksOk nb (keepP c n x):=by have hl:=bk_len hc hn;have hv:=viE_len hx;exact hc.set _ (by rw[layB_len (by rw[hl,hv];omega),hl])
open Go.RowKit
set_option linter.unusedVariables false
theorem flat_len512 {c:Blks} (h:∀b∈c,b.length=512):c.flatten.length=512*c.length:=by
 induction c with
 |nil=>rfl
 |cons b r ih=>rw[List.flatten_cons,List.length_append,ih fun x hx=>h x (List.mem_cons_of_mem _ hx),h b (List.mem_cons_self ..),List.length_cons];omega
theorem flat_take512 :∀ {c:Blks} {i:Nat},(∀b∈c,b.length=512)→i<c.length→(c.flatten.drop (512*i)).take 512=bk c i
 |[],_,_,hi=>absurd hi (Nat.not_lt_zero _)
 |b::r,0,h,_=>by rw[List.flatten_cons,Nat.mul_zero,List.drop_zero,←h b (List.mem_cons_self ..),List.take_left];rfl
 |b::r,i+1,h,hi=>by have:=flat_take512 (c:=r) (i:=i) (fun x hx=>h x (List.mem_cons_of_mem _ hx)) (by simpa using hi);rw[List.flatten_cons,show 512*(i+1)=b.length+512*i by rw[h b (List.mem_cons_self ..)];omega,←List.drop_drop,List.drop_left,this];rfl
theorem flat_set512 :∀ {c:Blks} {i:Nat} {x:List UInt8},(∀b∈c,b.length=512)→x.length=512→i<c.length→layC c.flatten (512*i) x=(c.set i x).flatten
 |[],_,_,_,_,hi=>absurd hi (Nat.not_lt_zero _)
 |b::r,0,x,h,hx,_=>by rw[List.flatten_cons,List.set_cons_zero,List.flatten_cons];unfold layC;rw[Nat.mul_zero,List.take_zero,List.nil_append,Nat.zero_add,hx,←h b (List.mem_cons_self ..),List.drop_left]
 |b::r,i+1,x,h,hx,hi=>by have:=flat_set512 (c:=r) (i:=i) (x:=x) (fun y hy=>h y (List.mem_cons_of_mem _ hy)) hx (by simpa using hi);rw[List.flatten_cons,List.set_cons_succ,List.flatten_cons,←this];unfold layC;(have e:512*(i+1)=b.length+512*i:=by rw[h b (List.mem_cons_self ..)];omega);(have e2:512*(i+1)+x.length=b.length+(512*i+x.length):=by rw[e,Nat.add_assoc]);rw[e2,e,List.take_append,List.take_of_length_le (by omega),Nat.add_sub_cancel_left,←List.drop_drop,List.drop_left,List.append_assoc,List.append_assoc,List.append_assoc]
theorem flat_get512 {c:Blks} {i j:Nat} (h:∀b∈c,b.length=512) (hi:i<c.length) (hj:j<512):c.flatten[512*i+j]? =(bk c i)[j]? :=by have:=congrArg (fun l:List UInt8=>l[j]?) (flat_take512 h hi);simp only[List.getElem?_take,if_pos hj,List.getElem?_drop]at this;exact this
structure DK where
 now:Blks
 fast:Blks
 back:List (Nat×List UInt8)
 off:Bool
 left:Int
structure DK.ok (nb:Nat) (D:DK):Prop where
 now:BlksOk nb D.now
 fast:BlksOk nb D.fast
 few:nb≤4096
 some:1≤nb
 back:∀x∈D.back,x.1<nb∧x.2.length=512
 left: -1≤D.left∧D.left≤9223372036854775807
def DK.step (D:DK):DK:=if 0<D.left then {D with left:=D.left-1,off:=decide (D.left=1)} else D
def DK.wr (D:DK) (i:Nat) (b:List UInt8):DK:=DK.step {D with now:=D.now.set i b,back:=D.back++[(i,b)]}
def applyB (c:Blks) (l:List (Nat×List UInt8)):Blks:=l.foldl (fun c x=>c.set x.1 x.2) c
def DK.fl (D:DK):DK:=DK.step {D with fast:=applyB D.fast D.back,back:=[]}
abbrev DAct :=Option (Nat×List UInt8)
def DK.act (D:DK):DAct→DK
 |some x=>D.wr x.1 x.2
 |none=>D.fl
def runD :List DAct→DK→DK×Bool
 |[],D=>(D,true)
 |a::l,D=>if D.off=true then(D,false)else runD l (D.act a)
theorem runD_append (xs ys:List DAct) (D:DK):runD (xs++ys) D=if(runD xs D).2=true then runD ys (runD xs D).1 else runD xs D:=by
 induction xs generalizing D with
 |nil=>rfl
 |cons a xs ih=>
  rw[List.cons_append,runD,runD];by_cases h:D.off=true
  ·rw[if_pos h,if_pos h];rfl
  rw[if_neg h,if_neg h];exact ih _
theorem DK.step_ok {nb:Nat} {D:DK} (h:D.ok nb):D.step.ok nb:=by
 unfold DK.step;split
 ·rename_i hl;obtain⟨a,b,c,d,e,f⟩:=h;exact⟨a,b,c,d,e,by simp only;omega⟩
 exact h
theorem applyB_ok {nb:Nat}:∀ {l:List (Nat×List UInt8)} {c:Blks},BlksOk nb c→(∀x∈l,x.1<nb∧x.2.length=512)→BlksOk nb (applyB c l)
 |[],_,h,_=>h
 |x::l,c,h,hl=>applyB_ok (l:=l) (h.set x.1 (hl x (List.mem_cons_self ..)).2) fun y hy=>hl y (List.mem_cons_of_mem _ hy)
theorem DK.wr_ok {nb:Nat} {D:DK} (h:D.ok nb) {i:Nat} {b:List UInt8} (hi:i<nb) (hb:b.length=512):(D.wr i b).ok nb:=by
 obtain⟨h1,h2,h3,h4,h5,h6⟩:=h;refine DK.step_ok ⟨h1.set _ hb,h2,h3,h4,fun x hx=>?_,h6⟩;rcases List.mem_append.1 hx with hx|hx
 ·exact h5 x hx
 rw[List.mem_singleton]at hx;subst hx;exact⟨hi,hb⟩
theorem DK.fl_ok {nb:Nat} {D:DK} (h:D.ok nb):D.fl.ok nb:=by obtain⟨h1,h2,h3,h4,h5,h6⟩:=h;exact DK.step_ok ⟨h1,applyB_ok h2 h5,h3,h4,fun x hx=>(List.not_mem_nil hx).elim,h6⟩
theorem runD_ok {nb:Nat}:∀ {l:List DAct} {D:DK},D.ok nb→(∀x∈l,∀i b,x=some (i,b)→i<nb∧b.length=512)→(runD l D).1.ok nb
 |[],_,h,_=>h
 |a::l,D,h,hl=>by
  rw[runD];split
  ·exact h
  (refine runD_ok ?_ fun x hx=>hl x (List.mem_cons_of_mem _ hx));cases a with
  |none=>exact DK.fl_ok h
  |some x=>have:=hl (some x) (List.mem_cons_self ..) x.1 x.2 rfl;exact DK.wr_ok h this.1 this.2
def heldC (x:(Nat×List UInt8)×Value) (i:Nat):List Value:=[.int .i64 (x.1.1:Int),x.2,.int .i64 (i:Int)]
def heldCells (l:List (Nat×List UInt8)) (us:List Value):List Value:=(l.zip us).zipIdx.flatMap fun x=>heldC x.1 x.2
def backR (v:Value) (l:List (Nat×List UInt8)):Asn:=
 .ex fun us:List Value=>.star (.pure (us.length=l.length)) (.star (.sl 137 3 v l.length (heldCells l us)) (.starL (List.zipWith (fun u (x:Nat×List UInt8)=>bytesR u x.2) us l)))
def diskBox (p:Nat) (vn vf vb:Value) (off:Bool) (left:Int):Asn:=.box p 130 #[vn,vf,vb,.bool off,.int .i64 left]
def diskR (p:Nat) (D:DK):Asn:=
 .ex fun vs:Value×Value×Value=>.starL [diskBox p vs.1 vs.2.1 vs.2.2 D.off D.left,bytesR vs.1 D.now.flatten,bytesR vs.2.1 D.fast.flatten,backR vs.2.2 D.back]
section
variable {w0 w w':World} {As R:List Asn}
theorem Sep.disk_open {p:Nat} {D:DK} (h:Sep w0 w (diskR p D::R)):∃vn vf vb,Sep w0 w (diskBox p vn vf vb D.off D.left::bytesR vn D.now.flatten::bytesR vf D.fast.flatten::backR vb D.back::R):=by obtain⟨vs,h⟩:=h.ex_open;exact⟨vs.1,vs.2.1,vs.2.2,h.starL_open⟩
theorem Sep.disk_shut {p:Nat} {D:DK} {vn vf vb:Value} (h:Sep w0 w (diskBox p vn vf vb D.off D.left::bytesR vn D.now.flatten::bytesR vf D.fast.flatten::backR vb D.back::R)):Sep w0 w (diskR p D::R):=
 Sep.ex_shut (vn,vf,vb) (Sep.starL_shut (As:=[diskBox p vn vf vb D.off D.left,bytesR vn D.now.flatten,bytesR vf D.fast.flatten,backR vb D.back]) h)
end
set_option linter.unusedSimpArgs false
structure DiskC (w:World) (p:Nat) (vn vf vb:Value) (off:Bool) (left:Int):Prop where
 c0:w.cell? ⟨p,0,none⟩=some vn
 c1:w.cell? ⟨p,1,none⟩=some vf
 c2:w.cell? ⟨p,2,none⟩=some vb
 c3:w.cell? ⟨p,3,none⟩=some (.bool off)
 c4:w.cell? ⟨p,4,none⟩=some (.int .i64 left)
 fz:∀j,w.frozen? ⟨p,j,none⟩=false
theorem Sep.diskC {w0 w:World} {As:List Asn} {p:Nat} {vn vf vb:Value} {off:Bool} {left:Int} (i:Nat) (h:Sep w0 w As) (hi:As[i]? =some (diskBox p vn vf vb off left)):DiskC w p vn vf vb off left:=
 ⟨h.bC i hi 0,h.bC i hi 1,h.bC i hi 2,h.bC i hi 3,h.bC i hi 4,fun j=>h.bF i hi j⟩
theorem part_any {g c n i:Nat} (hn:512*(i+1)≤n) (hc:n≤c) (hm:c≤maxLen) (hn4:n≤4194304) (w:World):
  Calls Tryz.prog 74 #[.slice (some ⟨g,0,none⟩) n c,.int .i64 i] w fun e w'=>e= .returned (.slice (some ⟨g,512*i,none⟩) 512 512)∧w'=w:=by
 have b0:(0:Int)≤i:=by omega
 have b1:(i:Int)*512+512≤n:=by omega
 have b2:(n:Int)≤c:=by omega
 have b3:(c:Int)≤9223372036854775807:=by unfold maxLen at hm;omega
 have b8:(n:Int)≤4194304:=by omega
 have b4:(0:Int)≤(i:Int)*512:=by omega
 have b5:(i:Int)*512≤((i:Int)+1)*512:=by omega
 have b6:((i:Int)+1)*512≤c:=by omega
 have b7:(0:Int)≤((i:Int)+1)*512:=by omega
 go_enter Tryz.func74,Tryz.ntmps74;go_wp2_with fail;all_goals go_ret
 all_goals
  refine⟨?_,rfl⟩
  rw[show(i+1)*512-i*512=512 by omega,show i*512=512*i by omega]
  rfl
theorem blocks_d {w:World} {p:Nat} {A:Option Addr} {n c nb:Nat} (hc:w.cell? ⟨p,0,none⟩=some (.slice A n c)) (hn:n=512*nb) (hb:nb≤4096):
  Calls Tryz.prog 84 #[.pointer (some ⟨p,0,none⟩)] w fun e w'=>e= .returned (.int .i64 nb)∧w'=w:=by
 have b0:(n:Int)=512*nb:=by omega
 have b1:(nb:Int)≤4096:=by omega
 have e0:Int.tdiv (n:Int) 512=nb:=by rw[Int.tdiv_eq_ediv_of_nonneg (by omega)];omega
 have b2:(0:Int)≤nb:=by omega
 go_enter Tryz.func84,Tryz.ntmps84;go_wp2_with fail;go_ret;exact⟨rfl,rfl⟩
theorem there_d {w:World} {p:Nat} {A:Option Addr} {n c nb i:Nat} {vf vb:Value} {off:Bool} {left:Int} (hC:DiskC w p (.slice A n c) vf vb off left) (hn:n=512*nb) (hb:nb≤4096) (hi:i<nb):
  Calls Tryz.prog 220 #[.pointer (some ⟨p,0,none⟩),.int .i64 i] w fun e w'=>e= .returned (.int .i64 (if off=true then 11 else 0))∧w'=w:=by
 have b0:(0:Int)≤i:=by omega
 have b1:(i:Int)<nb:=by omega
 have hbl:=blocks_d hC.c0 hn hb;have h3:=hC.c3;clear hC;go_enter Tryz.func220,Tryz.ntmps220;cases off;all_goals
  go_wp2_with(go_at_call 84;refine hbl.mono ?_;rintro e w' ⟨rfl,rfl⟩)
  go_ret
  exact⟨rfl,rfl⟩
theorem step_d {w0 w:World} {R:List Asn} {p:Nat} {vn vf vb:Value} {off:Bool} {left:Int} (h:Sep w0 w (diskBox p vn vf vb off left::R)) (hl: -1≤left∧left≤9223372036854775807):
  Calls Tryz.prog 75 #[.pointer (some ⟨p,0,none⟩)] w fun e w'=>e= .returned (.int .i64 0)∧Sep w0 w' (diskBox p vn vf vb (if 0<left then decide (left=1)else off) (if 0<left then left-1 else left)::R):=by
 have hC:=h.diskC 0 rfl;have c4:=hC.c4;have f3:=hC.fz 3;have f4:=hC.fz 4;have c3:=hC.c3;have h1:=h.bS 0 rfl 4 (.int .i64 (left-1));have h1C:=Sep.diskC (vn:=vn) (vf:=vf) (vb:=vb) (off:=off) (left:=left-1) 0 h1 rfl;have d4:=h1C.c4;have d3:=h1C.c3;have g3:=h1C.fz 3;have h2:=h1.bS 0 rfl 3 (.bool (decide (left=1)));clear hC h1C;by_cases hp:0<left
 ·have hp1:IntKind.i64.wrap (left-1)=left-1:=IntWalk.i64_in _ (by omega);have hp2:decide (left-1=0)=decide (left=1):=decide_eq_decide.2 (by omega);have hp3:(left-1==0)=decide (left=1):=by
   by_cases e:left=1
   ·subst e;rfl
   rw[decide_eq_false e];exact beq_eq_false_iff_ne.2 (by omega)
  rw[if_pos hp,if_pos hp];go_enter Tryz.func75,Tryz.ntmps75;go_wp2_with fail;(all_goals go_ret);all_goals exact⟨rfl,h2⟩
 rw[if_neg hp,if_neg hp];go_enter Tryz.func75,Tryz.ntmps75;go_wp2_with fail;all_goals go_ret
 exact⟨rfl,h⟩
theorem part_rd {w:World} {g n c i nb:Nat} {l:Blks} (h:BytesAt w (.slice (some ⟨g,0,none⟩) n c) l.flatten) (hl:BlksOk nb l) (hi:i<nb):Rd w 1 (.slice (some ⟨g,512*i,none⟩) 512 512) 512 ((bk l i).map byt):=by
 have hb:=bk_len hl hi;have hfl:=flat_len512 hl.size;have hil:i<l.length:=by rw[hl.len];exact hi
 obtain⟨hll,A,c',e,h1,h2,h3⟩:=h;cases e;obtain⟨ad,e,hbk,hc⟩:=h3 (by rw[hfl];omega);cases e;refine⟨by rw[List.length_map,hb],_,_,rfl,Nat.le_refl _,by simp[maxLen],fun _=>⟨_,rfl,hbk,fun j u hj=>?_⟩⟩;have hj5:j<512:=by have:=(gF.1 hj).1;rw[List.length_map,hb]at this;exact this
 rw[Addr.add_lit];rw[List.getElem?_map,←flat_get512 hl.size hil hj5,←List.getElem?_map]at hj;have:=hc _ _ hj;rw[Addr.add_lit]at this;simpa using this
theorem Sep.bytes_form {w0 w:World} {As:List Asn} {v:Value} {bs:List UInt8} (i:Nat) (h:Sep w0 w As) (hi:As[i]? =some (bytesR v bs)) (hn:0<bs.length):∃g n cap,v= .slice (some ⟨g,0,none⟩) n cap∧Hid (n=bs.length)∧n≤cap∧cap≤maxLen:=by obtain⟨g,cap,e,_,_,h1,h2⟩:=h.sl_form i hi hn;exact⟨g,_,cap,e,Lh rfl,h1,h2⟩
theorem bytesR_of {v:Value} {bs:List UInt8} {n:Nat} (h:bs.length=n):bytesR v bs= .sl 5 1 v n (bs.map byt):=by unfold bytesR;rw[h]
theorem form_caps {w0 w:World} {As:List Asn} {g n c:Nat} {e:TypeId} {sz:Nat} {cs:List Value} (i:Nat) (h:Sep w0 w As) (hi:As[i]? =some (.sl e sz (.slice (some ⟨g,0,none⟩) n c) n cs)):n≤c∧c≤maxLen:=by obtain⟨A,cap,e,h1,h2,_⟩:=h.sl_any i hi;cases e;exact⟨h1,h2⟩
set_option maxRecDepth 100000 in
set_option maxHeartbeats 1000000 in
theorem dread_any {w0 w:World} {R:List Asn} {p nb i:Nat} {D:DK} (hD:D.ok nb) (hi:i<nb) (h:Sep w0 w (diskR p D::R)):
  Calls Tryz.prog 218 #[.pointer (some ⟨p,0,none⟩),.int .i64 i] w fun e w'=>
   (D.off=true∧e= .returned (.tuple #[.slice none 0 0,.int .i64 11])∧Sep w0 w' (diskR p D::R))∨
   (D.off=false∧∃v,e= .returned (.tuple #[v,.int .i64 0])∧Sep w0 w' (bytesR v (bk D.now i)::diskR p D::R)):=by
 obtain⟨k0,hknf,hk0,hk1,hk2⟩:=info_of info_byte
 obtain⟨vn,vf,vb,h⟩:=h.disk_open
 have hfl:=flat_len512 hD.now.size
 have hlen:=hD.now.len
 have hfew:=hD.few
 have hb:=bk_len hD.now hi
 obtain⟨g,n,c,rfl,hnl,hc,hm⟩:=h.bytes_form 1 rfl (by omega)
 have hn:n=512*nb:=by rw[hnl.out,hfl,hlen]
 have hC:=Lh (h.diskC 0 rfl)
 have hth:=there_d hC.out hn hfew hi
 have hpa:=fun W=>part_any (g:=g) (c:=c) (n:=n) (i:=i) (by omega) hc hm (by omega) W
 have hrd:=Lh (part_rd (h.rd 1 rfl) hD.now hi)
 have c0:=hC.out.c0
 have hS:=Lh (h.sl_nil 5 1)
 have h':=Lh h
 clear hfl hlen hn
 cases hoff:D.off with
 |true=>
  rw[hoff]at hth;clear hpa hrd hS hC h;go_enter Tryz.func218,Tryz.ntmps218;go_wp2_with(go_at_call 220;refine hth.mono ?_;rintro e w' ⟨rfl,rfl⟩)
  go_ret2
  exact .inl ⟨trivial,rfl,h'.out.disk_shut⟩
 |false=>
  rw[hoff]at hth;clear hC h;go_enter Tryz.func218,Tryz.ntmps218;go_wp2_with(first |(go_at_call 220;refine hth.mono ?_;rintro e w' ⟨rfl,rfl⟩)|(go_at_call 74;refine(hpa _).mono ?_;rintro e w' ⟨rfl,rfl⟩;clear hpa hth)|(at_builtin;refine wpList_append_any_sep 0 rfl _ _ 35 rfl 5 k0 (.int .u8 0) 1 1 Tryz.underlying35 hknf hk0 hk1 hk2 rfl (by decide) hS.out _ 0 [] rfl rfl (.slice (some ⟨g,512*i,none⟩) 512 512) 512 ((bk D.now i).map byt) rfl hrd.out byt_one (by unfold maxLen;omega) (by omega) ?_;intro v3 w3 hS3 hz3))
  go_ret2
  refine .inr ⟨trivial,v3,rfl,?_⟩;(have h9:Sep w0 w3 (bytesR v3 (bk D.now i)::diskBox p (.slice (some ⟨g,0,none⟩) n c) vf vb D.off D.left::bytesR (.slice (some ⟨g,0,none⟩) n c) D.now.flatten::bytesR vf D.fast.flatten::backR vb D.back::R):=by rw[bytesR_of hb];exact hS3);have h10:=Sep.disk_shut (Sep.sel [1,2,3,4,0] h9 (by decide) (by simp));exact Sep.sel [1,0] h10 (by decide) (by simp)
end Go.Proofs.YteihmbaimbogaaaGreat
