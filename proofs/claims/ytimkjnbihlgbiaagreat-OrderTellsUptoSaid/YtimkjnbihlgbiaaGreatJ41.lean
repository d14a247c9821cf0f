/- QueueG, OrderGP, laid together. -/
import Derived.Test.YtimkjnbihlgbiaaGreatJ40
import Derived.Shelf.Spec.SlicesInsertGrow
namespace Go.Proofs.YtimkjnbihlgbiaaGreat
open Go.RowKit
set_option linter.unusedVariables false
set_option maxRecDepth 100000 in
set_option maxHeartbeats 1000000 in
theorem bsearch_g {xs:List Int} {w:World} {v:Value} (h:IntsAt w v xs) (x:Int) (hx:0≤x∧x≤1048576) (hr:∀y∈xs,0≤y∧y≤1048576) {i:Nat} (hi:i≤xs.length) (h1:∀(t:Nat) (ht:t<xs.length),t<i→xs[t]<x) (h2:∀(t:Nat) (ht:t<xs.length),i≤t→x<xs[t]) (hl:xs.length≤1048576):
  Calls Tryz.prog 48 #[v,.int .i64 x,.func (.func 20) #[] #[]] w fun e w'=>e= .returned (.tuple #[.int .i64 i,.bool false])∧w=w':=by
 obtain⟨A,c,rfl,hm⟩:=h.shape;unfold maxLen at hm;have h':=Lh h;have hh:=Lh (And.intro hr (And.intro h1 h2));clear h h1 h2 hr;go_enter Tryz.func48,Tryz.ntmps48;go_wp2_with fail;go_loopg[9,10] xs.length (fun g lv hv wr=>∃lo hi:Nat,lv= .int .i64 lo∧hv= .int .i64 hi∧lo≤i∧i≤hi∧hi≤xs.length∧Hid (g=hi-lo)∧w=wr)
 case atStart=>exact⟨0,xs.length,rfl,rfl,Nat.zero_le _,hi,Nat.le_refl _,Lh (by omega),rfl⟩
 obtain⟨lo,hq,rfl,rfl,hlo,hhi,hn,hg,rfl⟩:=hrel;by_cases hc:lo<hq
 ·(have hmid:(lo+hq)/2<xs.length:=by omega);obtain⟨ad,c',e,h3⟩:=h'.out.at_ hmid;cases e;have hy:=hh.out.1 _ (List.getElem_mem hmid);have hy1:=hh.out.2.1 _ hmid;have hy2:=hh.out.2.2 _ hmid;generalize xs[(lo+hq)/2]=y at h3 hy hy1 hy2;have hcmp:=minus_any y x w (by omega) hx;obtain⟨x1,x2⟩:=hx;(have q1:(0:Int)≤(lo:Int):=by omega);(have q2:(lo:Int)<(hq:Int):=by omega);(have q3:(xs.length:Int)≤1048576:=by omega);by_cases hm2:(lo+hq)/2<i
  ·(have q4:y-x<0:=by have:=hy1 hm2;omega);clear hy1 hy2;go_wp2_with(go_at_call 20;refine hcmp.mono ?_;rintro e w' ⟨rfl,rfl⟩);go_roundg (hq-((lo+hq)/2+1))
   case measure=>rw[hg.out];omega
   case rel=>exact⟨(lo+hq)/2+1,hq,by rw[show((lo:Int)+(hq:Int))/2+1=(((lo+hq)/2+1:Nat):Int)by omega],rfl,by omega,hhi,hn,rfl,rfl⟩
  (have q4:¬(y-x<0):=by have:=hy2 (by omega);omega);clear hy1 hy2;go_wp2_with(go_at_call 20;refine hcmp.mono ?_;rintro e w' ⟨rfl,rfl⟩);go_roundg ((lo+hq)/2-lo)
  case measure=>rw[hg.out];omega
  case rel=>exact⟨lo,(lo+hq)/2,rfl,by rw[show((lo:Int)+(hq:Int))/2=(((lo+hq)/2:Nat):Int)by omega],hlo,by omega,by omega,rfl,rfl⟩
 obtain rfl:lo=i:=by omega
 obtain rfl:hq=lo:=by omega
 by_cases hn2:hq<xs.length
 ·obtain⟨ad,c',e,h3⟩:=h'.out.at_ hn2;cases e;have hy:=hh.out.1 _ (List.getElem_mem hn2);have hy2:=hh.out.2.2 _ hn2 (Nat.le_refl _);generalize xs[hq]=y at h3 hy hy2;have hcmp:=minus_any y x w (by omega) hx;(have q1:(0:Int)≤(hq:Int):=by omega);(have q2:(hq:Int)<(xs.length:Int):=by omega);(have q5:(y-x==0)=false:=by rw[beq_eq_false_iff_ne];omega);go_wp2_with(go_at_call 20;refine hcmp.mono ?_;rintro e w' ⟨rfl,rfl⟩)
  go_ret2
  exact⟨rfl,rfl⟩
 have q1:¬((hq:Int)<(xs.length:Int)):=by omega
 go_wp2_with fail
 go_ret2
 exact⟨rfl,rfl⟩
theorem set_permG {α:Type}:∀(L:List α) (k:Nat) (X Y:α),L[k]? =some Y→(X::L).Perm (Y::L.set k X)
 |[],k,_,_,h=>by simp at h
 |y::L,0,X,Y,h=>by simp at h;subst h;exact List.Perm.swap _ _ _
 |y::L,k+1,X,Y,h=>by(have h':L[k]? =some Y:=by simpa using h);exact(List.Perm.swap _ _ _).trans (((set_permG L k X Y h').cons y).trans (List.Perm.swap _ _ _))
theorem Sep.inplaceG {w0 w:World} {L:List Asn} {X Y:Asn} (k:Nat) (h:Sep w0 w (X::L)) (hk:L[k]? =some Y):Sep w0 w (L.set k X):=
 Sep.drop 1 (h.perm (set_permG L k X Y hk))
def setL (cs:List Value):Nat→List Value→List Value
 |_,[]=>cs
 |o,v::r=>setL (cs.set o v) (o+1) r
theorem setL_len :∀(vs cs:List Value) (o:Nat),(setL cs o vs).length=cs.length
 |[],cs,o=>rfl
 |v::r,cs,o=>by unfold setL;rw[setL_len r,List.length_set]
theorem setL_eq :∀(vs cs:List Value) (o:Nat),o+vs.length≤cs.length→setL cs o vs=cs.take o++vs++cs.drop (o+vs.length)
 |[],cs,o,h=>by simp[setL]
 |v::r,cs,o,h=>by rw[List.length_cons]at h;unfold setL;rw[setL_eq r _ _ (by rw[List.length_set];omega),List.length_cons,List.drop_set_of_lt (by omega),List.take_set,List.take_succ_eq_append_getElem (by omega),List.set_append_right _ _ (by rw[List.length_take];omega)];rw[List.length_take,Nat.min_eq_left (by omega),Nat.sub_self,List.set_cons_zero];rw[show o+1+r.length=o+(r.length+1)by omega];simp
theorem Sep.storeds {w0:World} {As:List Asn} {e:TypeId} {sz n g cap i:Nat}:∀(vs:List Value) (w:World) (cs:List Value) (o:Nat),Sep w0 w (As.set i (.sl e sz (.slice (some ⟨g,0,none⟩) n cap) n cs))→i<As.length→Sep w0 (w.setCells g o vs) (As.set i (.sl e sz (.slice (some ⟨g,0,none⟩) n cap) n (setL cs o vs)))
 |[],w,cs,o,h,hi=>h
 |v::r,w,cs,o,h,hi=>by have h1:=h.stored i (by rw[List.getElem?_set_self hi]) o v;rw[List.set_set]at h1;exact Sep.storeds r _ _ _ h1 hi
theorem Sep.storeds0 {w0 w:World} {As:List Asn} {e:TypeId} {sz n g cap:Nat} {cs:List Value} (o:Nat) (vs:List Value) (h:Sep w0 w (.sl e sz (.slice (some ⟨g,0,none⟩) n cap) n cs::As)):Sep w0 (w.setCells g o vs) (.sl e sz (.slice (some ⟨g,0,none⟩) n cap) n (setL cs o vs)::As):=
 Sep.storeds (As:=.emp::As) (i:=0) vs w cs o h (by simp)
theorem Sep.sl_ext {w0 w:World} {As:List Asn} {e:TypeId} {n g cap:Nat} {cs:List Value} (i:Nat) (h:Sep w0 w As) (hi:As[i]? =some (.sl e 1 (.slice (some ⟨g,0,none⟩) n cap) n cs)) (m:Nat) (h1:n≤m) (h2:m≤cap):
  ∃t,t.length=m-n∧Sep w0 w (As.set i (.sl e 1 (.slice (some ⟨g,0,none⟩) m cap) m (cs++t))):=by
 obtain⟨F,⟨ho,hF⟩,_⟩:=h.get i hi;rcases ho.2 with⟨h',_⟩|⟨g',cap',cur,h',hb,hg,hc,hm,hs,ht⟩
 ·simp at h'
 simp only[Value.slice.injEq,Option.some.injEq,Addr.mk.injEq,and_true,true_and]at h';obtain⟨rfl,rfl⟩:=h';rw[Nat.mul_one]at hs ht;have hl:cs.length=n:=by have:=ho.1;omega
 refine⟨(cur.toList.take m).drop n,by rw[List.length_drop,List.length_take,Array.length_toList];omega,?_⟩;have e2:cs++(cur.toList.take m).drop n=cur.toList.take m:=by
  conv=>rhs;rw[←List.take_append_drop n (cur.toList.take m)]
  rw[List.take_take,Nat.min_eq_left h1,ht]
 rw[e2];refine h.step i hi fun F2 ⟨ho2,hF2⟩ _=>⟨F2,⟨⟨by rw[List.length_take,Array.length_toList];omega,.inr ⟨g,cap,cur,rfl,hb,hg,h2,hm,by rw[Nat.mul_one];exact hs,by rw[Nat.mul_one]⟩⟩,by rw[hF2];rfl⟩,fun b hb=>.inl hb,Keeps.refl _ _⟩
theorem Sep.row_new {w0 w:World} {As:List Asn} (h:Sep w0 w As) (e:TypeId) (cur:Array Value) (n:Nat) (hn:n≤cur.size) (hm:cur.size≤maxLen):Sep w0 (w.alloc (.cells cur e)) (.sl e 1 (.slice (some ⟨w.heap.size,0,none⟩) n cur.size) n (cur.toList.take n)::As):=by refine h.new (F:=[w.heap.size]) ((Below.refl _ _).alloc (Nat.le_refl _) _) ⟨⟨by rw[List.length_take,Array.length_toList];omega,.inr ⟨w.heap.size,cur.size,cur,rfl,Nat.zero_le _,heap_alloc_new w _,hn,hm,by omega,by rw[Nat.mul_one]⟩⟩,rfl⟩ (by simp)
theorem Sep.sl_heap {w0 w:World} {As:List Asn} {e:TypeId} {n g cap sz:Nat} {cs:List Value} (i:Nat) (h:Sep w0 w As) (hi:As[i]? =some (.sl e sz (.slice (some ⟨g,0,none⟩) n cap) n cs)):
  ∃cur,w.heap[g]? =some (.cells cur e (0,0))∧cur.size=cap*sz∧cap≤maxLen:=by
 obtain⟨F,⟨ho,hF⟩,_⟩:=h.get i hi;rcases ho.2 with⟨h',_⟩|⟨g',cap',cur,h',hb,hg,hc,hm,hs,ht⟩
 ·simp at h'
 simp only[Value.slice.injEq,Option.some.injEq,Addr.mk.injEq,and_true,true_and]at h';obtain⟨rfl,rfl⟩:=h';exact⟨cur,hg,hs,hm⟩
theorem shape_of {w:World} {g:Nat} {cur:Array Value} {e:TypeId} {fz:Nat×Nat} (h:w.heap[g]? =some (.cells cur e fz)):w.shape? g=some (e,cur.size):=by unfold World.shape?;rw[h]
def insAt (xs:List Int) (i:Nat) (x:Int):List Int:=xs.take i++x::xs.drop i
theorem insAt_len {xs:List Int} {i:Nat} (hi:i≤xs.length) (x:Int):(insAt xs i x).length=xs.length+1:=by unfold insAt;rw[List.length_append,List.length_take,List.length_cons,List.length_drop];omega
theorem insAt_map {xs:List Int} {i:Nat} (x:Int):(insAt xs i x).map (Value.int .i64)=(xs.map (Value.int .i64)).take i++[Value.int .i64 x]++(xs.map (Value.int .i64)).drop i:=by unfold insAt;rw[List.map_append,List.map_cons,List.map_take,List.map_drop];simp
theorem zero_cells (n:Nat):Builtin.zeroCells (Value.int .i64 0).cells n=(List.replicate n (Value.int .i64 0)).toArray:=by
 unfold Builtin.zeroCells Value.cells;apply Array.ext';simp only[List.size_toArray,List.length_singleton,Nat.mul_one,Nat.mod_one];apply List.ext_getElem
 ·simp
 intro i h1 h2;simp
set_option maxRecDepth 100000 in
theorem insert_g {w0 w1:World} {As:List Asn} {v:Value} {xs:List Int} (k:Nat) (hS:Sep w0 w1 As) (hk:As[k]? =some (intsR v xs)) (x:Int) (hl:xs.length≤1048576) {i:Nat} (hi:i≤xs.length):
  Calls Tryz.prog 49 #[v,.int .i64 i,.slice (some ⟨w1.heap.size,0,none⟩) 1 1] (w1.alloc (.cells #[.int .i64 x] 3)) fun e w'=>∃v',e= .returned v'∧Sep w0 w' (As.set k (intsR v' (insAt xs i x))):=by
 have hSa:=hS.alloc (.cells #[.int .i64 x] 3);by_cases he:i=xs.length
 ·subst he;have h:=insert_end k hSa hk x w1.heap.size (cell_one_new _ _ _ 0 _ rfl) hl;(have e:insAt xs xs.length x=xs++[x]:=by unfold insAt;rw[List.take_length,List.drop_length]);rw[e];exact h
 have hlt:i<xs.length:=by omega
 obtain⟨g,c,rfl,_,hg,hc,hmax⟩:=hSa.sl_form k hk (by omega);have hglt:=(hS.sl_form k hk (by omega));obtain⟨g',c',e',_,hg',_,_⟩:=hglt;simp only[Value.slice.injEq,Option.some.injEq,Addr.mk.injEq,and_true,true_and]at e';obtain⟨rfl,rfl⟩:=e';have hk2:As[k]? =some (.sl 3 1 (.slice (some ⟨g,0,none⟩) xs.length c) xs.length (xs.map (.int .i64))):=hk;obtain⟨cur,hcur,hcs9,_⟩:=hSa.sl_heap k hk2;have hnew:=heap_alloc_new w1 (.cells #[.int .i64 x] 3);have hkl:k<As.length:=(gF.1 hk).1;have hcs:∀j u,(xs.map (Value.int .i64))[j]? =some u→(w1.alloc (.cells #[.int .i64 x] 3)).cell? ⟨g,0+j,none⟩=some u:=fun j u hj=>by have hj2:=(gF.1 hj).1;rw[List.length_map]at hj2;rw[Nat.zero_add,hSa.cellAt k hk2 j (by omega)];exact hj
 have hvs:∀j u,[Value.int .i64 x][j]? =some u→(w1.alloc (.cells #[.int .i64 x] 3)).cell? ⟨w1.heap.size,0+j,none⟩=some u:=fun j u hj=>by have h:=cells_new w1 #[.int .i64 x] 3 w1.heap.size rfl j u hj;rw[Addr.add_lit]at h;exact h
 have h1c:∀u∈xs.map (Value.int .i64),u.oneCell'=true:=fun u hu=>by obtain⟨y,_,rfl⟩:=List.mem_map.1 hu;rfl
 have h1v:∀u∈[Value.int .i64 x],u.oneCell'=true:=fun u hu=>by(obtain rfl:u=_:=by simpa using hu);rfl
 have hIs:∀(n m c:Nat) (g:Nat) (L:List Value),n=m→L=(insAt xs i x).map (.int .i64)→n=(insAt xs i x).length→Asn.sl 3 1 (.slice (some ⟨g,0,none⟩) n c) m L=intsR (.slice (some ⟨g,0,none⟩) n c) (insAt xs i x):=fun n m c g L h1 h2 h3=>by subst h1;subst h2;unfold intsR;rw[←h3]
 by_cases hroom:xs.length+1≤c
 ·obtain⟨t,ht,hS2⟩:=hSa.sl_ext k hk2 (xs.length+1) (by omega) hroom;have hk3:(As.set k (.sl 3 1 (.slice (some ⟨g,0,none⟩) (xs.length+1) c) (xs.length+1) (xs.map (.int .i64)++t)))[k]? =some _:=List.getElem?_set_self hkl;have hcon:=Go.Proofs.Any2.slices_Insert_int_shift Go.Proofs.Tryz.insertInts g 0 xs.length c i w1.heap.size 0 1 1 (xs.map (.int .i64)) [.int .i64 x] (w1.alloc (.cells #[.int .i64 x] 3)) hlt (by decide) hroom (by unfold maxLen at hmax;omega) (by omega) (by simp) rfl hcs
   (fun j hj=>by rw[Nat.zero_add,hS2.cellAt k hk3 j (by omega),gE (by rw[List.length_append,List.length_map,ht];omega)];rfl)
   (fun j hj=>hS2.frozenAt k hk3 (0+j)) hvs h1c h1v 3 3 1 cur.size (shape_of hnew) (shape_of hcur) (by rw[hcs9];omega) (frozen_of_row _ _ _ _ _ hnew) (frozen_of_row _ _ _ _ _ hnew)
  change Calls Tryz.prog 49 _ _ _ at hcon;refine hcon.mono ?_;rintro e w' ⟨rfl,rfl⟩;refine⟨_,rfl,?_⟩;have h3:=Sep.storeds [.int .i64 x] _ _ (0+i) (Sep.storeds ((xs.map (.int .i64)).drop i) _ _ (0+(i+1)) hS2.drew hkl) hkl;rw[hIs _ _ c g _ rfl ?_ (insAt_len hi x).symm]at h3
  ·exact h3
  rw[insAt_map,Nat.zero_add,Nat.zero_add];have hml:(xs.map (Value.int .i64)).length=xs.length:=List.length_map ..;generalize xs.map (Value.int .i64)=C at*;rw[setL_eq (C.drop i) (C++t) (i+1) (by rw[List.length_drop,List.length_append];omega),setL_eq [.int .i64 x] _ i (by simp;omega)];have e1:(C++t).take (i+1)=C.take (i+1):=List.take_append_of_le_length (by omega);(have e2:(C++t).drop (i+1+(C.drop i).length)=[]:=by apply List.drop_eq_nil_of_le;rw[List.length_append,List.length_drop];omega);rw[e1,e2,List.append_nil];congr 1
  ·congr 1;rw[List.take_append_of_le_length (by rw[List.length_take];omega),List.take_take,Nat.min_eq_left (by omega)]
  rw[List.length_singleton,List.drop_append_of_le_length (by rw[List.length_take];omega),List.drop_eq_nil_of_le (by rw[List.length_take];omega),List.nil_append]
 have hcon:=Go.Proofs.Any2.slices_Insert_int_grow Go.Proofs.Tryz.insertInts g 0 xs.length c i w1.heap.size 0 1 1 (xs.map (.int .i64)) [.int .i64 x] (w1.alloc (.cells #[.int .i64 x] 3)) hlt (by decide) hc (by omega) (by omega) (by simp) rfl hcs hvs h1c h1v;change Calls Tryz.prog 49 _ _ _ at hcon;refine hcon.mono ?_;rintro e w' ⟨rfl,rfl⟩;refine⟨_,rfl,?_⟩;have hge:=grownCap_ge (w1.alloc (.cells #[.int .i64 x] 3)) (xs.length+1) c (Tryz.insertInts_ren.t 3);have hle:=grownCap_le_maxLen (w1.alloc (.cells #[.int .i64 x] 3)) (xs.length+1) c (Tryz.insertInts_ren.t 3) (by unfold maxLen;omega);generalize grownCap (w1.alloc (.cells #[.int .i64 x] 3)) (xs.length+1) c (Tryz.insertInts_ren.t 3)=G at hge hle ⊢;have hml:(xs.map (Value.int .i64)).length=xs.length:=List.length_map ..;have hrow:∃r:Array Value,((xs.map (Value.int .i64)).take i).toArray++Builtin.zeroCells (Value.int .i64 0).cells (xs.length+1-i)++Builtin.zeroCells (Value.int .i64 0).cells (G-(xs.length+1))=r∧r.size=G∧r.toList.take i=(xs.map (Value.int .i64)).take i:=by
  refine⟨_,rfl,?_,?_⟩
  ·rw[zero_cells,zero_cells];simp only[Array.size_append,List.size_toArray,List.length_take,List.length_replicate,hml];omega
  rw[zero_cells,zero_cells];simp only[Array.toList_append,List.append_assoc];rw[List.take_append_of_le_length (by rw[List.length_take];omega),List.take_take,Nat.min_self]
 obtain⟨r,hr,hrs,hrt⟩:=hrow;rw[hr];have h1:=hSa.row_new 3 r (xs.length+1) (by omega) (by omega);rw[hrs]at h1;have h3:=(h1.drew.storeds0 i [.int .i64 x]).drew.storeds0 (i+1) ((xs.map (.int .i64)).drop i);rw[hIs _ _ G _ _ rfl ?_ (insAt_len hi x).symm]at h3
 ·exact Sep.inplaceG k h3 hk
 rw[insAt_map];generalize xs.map (Value.int .i64)=C at*;have hrl:(r.toList.take (xs.length+1)).length=xs.length+1:=by have hrz:r.toList.length=r.size:=Array.length_toList;rw[List.length_take];omega
 rw[setL_eq (C.drop i) _ (i+1) (by rw[setL_len,hrl,List.length_drop];omega),setL_eq [Value.int .i64 x] _ i (by rw[hrl,List.length_singleton];omega)];have e2:((r.toList.take (xs.length+1)).take i++[Value.int .i64 x]++(r.toList.take (xs.length+1)).drop (i+[Value.int .i64 x].length)).drop (i+1+(C.drop i).length)=[]:=by apply List.drop_eq_nil_of_le;simp;omega
 rw[e2,List.append_nil];congr 1;have h4:(((r.toList.take (xs.length+1)).take i++[Value.int .i64 x]):List Value).length=i+1:=by rw[List.length_append,List.length_take,hrl,List.length_singleton];omega
 rw[List.take_append_of_le_length (by omega),List.take_of_length_le (by omega),List.take_take,Nat.min_eq_left (by omega),hrt]
set_option maxRecDepth 100000 in
set_option maxHeartbeats 1000000 in
theorem put_g {w0 w:World} {R:List Asn} {b:Nat} {v:Value} {xs:List Int} (hS:Sep w0 w (.box b 61 (queueCells v)::intsR v xs::R)) (x:Int) (hx:0≤x∧x≤1048576) (hr:∀y∈xs,0≤y∧y≤1048576) {i:Nat} (hi:i≤xs.length) (h1:∀(t:Nat) (ht:t<xs.length),t<i→xs[t]<x) (h2:∀(t:Nat) (ht:t<xs.length),i≤t→x<xs[t]) (hl:xs.length≤1048576):
  Calls Tryz.prog 24 #[.pointer (some ⟨b,0,none⟩),.int .i64 x] w fun e w'=>e= .returned (.tuple #[])∧∃v',Sep w0 w' (.box b 61 (queueCells v')::intsR v' (insAt xs i x)::R):=by
 have d0:w.cell? ⟨b,0,none⟩=some v:=by rw[hS.bC 0 rfl 0];rfl
 have d1:w.cell? ⟨b,1,none⟩=some (.func (.func 20) #[] #[]):=by rw[hS.bC 0 rfl 1];rfl
 have hbs:∀W,Below w.heap.size w W→Calls Tryz.prog 48 #[v,.int .i64 x,.func (.func 20) #[] #[]] W fun e w'=>e= .returned (.tuple #[.int .i64 i,.bool false])∧w'=W:=
  fun W hW=>(bsearch_g ((hS.ints 1 rfl).below hW) x hx hr hi h1 h2 hl).mono fun e w' h=>⟨h.1,h.2.symm⟩
 obtain⟨A,c,rfl,_⟩:=(hS.ints 1 rfl).shape;have hbs':=Lh hbs;have hS':=Lh hS;have hi':=Lh hi;have hbq:∀n,Below w.heap.size w (w.drewN n):=fun n=>⟨rfl,rfl,rfl,Nat.le_refl _,fun _ _=>rfl⟩
 have hbq':=Lh hbq;clear hbs hS hbq h1 h2 hr;go_enter Tryz.func24,Tryz.ntmps24;go_wp2_with fail;go_quiet ((go_at_call 48;exact Calls.quiet_of_same (hbs'.out _ (hbq'.out _))));have hSq:=hS'.out.drewN nq;generalize w.drewN nq=w1 at hSq ⊢;have e0:w1.cell? ⟨b,0,none⟩=some (.slice A xs.length c):=by rw[hSq.bC 0 rfl 0];rfl
 have hSa:=hSq.alloc (.cells #[.int .i64 x] 3);have e1:(w1.alloc (.cells #[.int .i64 x] 3)).cell? ⟨b,0,none⟩=some (.slice A xs.length c):=by rw[hSa.bC 0 rfl 0];rfl
 have hin:=insert_g 1 hSq rfl x hl hi'.out;have hin':=Lh hin;clear hin hSa hSq d0 d1;go_wp2_with(go_at_call 49;refine hin'.out.mono ?_;rintro e w2 ⟨v2,rfl,hT⟩;obtain⟨A2,c2,rfl,_⟩:=(hT.ints 1 rfl).shape;have f0:=hT.bC 0 rfl 0;have f1:=hT.bF 0 rfl 0;have hT':=Lh hT;clear hT)
 go_end0
 exact⟨rfl,.slice A2 (insAt xs i x).length c2,hT'.out.bS 0 rfl 0 (.slice A2 (insAt xs i x).length c2)⟩
def posI (xs:List Int) (x:Int):Nat:=xs.countP fun y=>decide (y<x)
theorem posI_le (xs:List Int) (x:Int):posI xs x≤xs.length:=List.countP_le_length
theorem posI_spec {xs:List Int} {x:Int} (hs:xs.Pairwise (· < ·)) (hx:x∉xs):(∀(t:Nat) (ht:t<xs.length),t<posI xs x→xs[t]<x)∧∀(t:Nat) (ht:t<xs.length),posI xs x≤t→x<xs[t]:=by
 induction xs with
 |nil=>exact⟨fun t ht=>absurd ht (Nat.not_lt_zero _),fun t ht=>absurd ht (Nat.not_lt_zero _)⟩
 |cons a xs ih=>
  obtain⟨h1,h2⟩:=List.pairwise_cons.1 hs;(have hne:a≠x:=fun e=>hx (by rw[e];simp));obtain⟨i1,i2⟩:=ih h2 (fun h=>hx (List.mem_cons_of_mem _ h));unfold posI;by_cases ha:a<x
  ·rw[List.countP_cons_of_pos (by simpa using ha)];refine⟨fun t ht htp=>?_,fun t ht htp=>?_⟩
   ·cases t with
    |zero=>exact ha
    |succ t=>exact i1 t (by simpa using ht) (by unfold posI;omega)
   cases t with
   |zero=>omega
   |succ t=>exact i2 t (by simpa using ht) (by unfold posI;omega)
  (have h0:xs.countP (fun y=>decide (y<x))=0:=by rw[List.countP_eq_zero];intro y hy;have:=h1 y hy;simp;omega);rw[List.countP_cons_of_neg (by simpa using ha),h0];refine⟨fun t ht htp=>absurd htp (Nat.not_lt_zero _),fun t ht _=>?_⟩;cases t with
  |zero=>simp only[List.getElem_cons_zero];omega
  |succ t=>(have ht':t<xs.length:=by simpa using ht);have:=h1 _ (List.getElem_mem ht');simp only[List.getElem_cons_succ];omega
def decG :List Int→List Int→List Int→Option (List Int×List Int)
 |[],w,r=>some (w,r)
 |k::ks,w,r=>
  if 0≤k∧k.toNat<w.length∧1≤w.getD k.toNat 0∧w.getD k.toNat 0≤1048576∧k≤1048576 then
   if w.getD k.toNat 0=1 then(if r.Pairwise (· < ·)∧k∉r∧(∀y∈r,0≤y∧y≤1048576)∧r.length≤1000 then decG ks (w.set k.toNat 0) (insAt r (posI r k) k)else none)
   else decG ks (w.set k.toNat (w.getD k.toNat 0-1)) r
  else none
abbrev TR :=List TN×List TF
def pickG (thr:Bool) (gr:TR→Int→Int×Int) (T:TR) (r:List Int):Nat:=if thr=true then bestI (gr T) r r.length else 0
def stepG (thr:Bool) (nx:TR→Int→TR) (T:TR) (i:Int):TR:=if thr=true then nx T i else T
def runG (thr:Bool) (gr:TR→Int→Int×Int) (nx:TR→Int→TR):Nat→List (List Int)→TR→List Int→List Int→List Int→Option (List Int)
 |_,_,_,_,[],out=>some out
 |0,_,_,_,_::_,_=>none
 |f+1,us,T,w,a::r,out=>
  if 0≤(a::r).getD (pickG thr gr T (a::r)) 0∧((a::r).getD (pickG thr gr T (a::r)) 0).toNat<us.length∧(us.getD ((a::r).getD (pickG thr gr T (a::r)) 0).toNat []).length≤1048576∧out.length≤1000∧(a::r).length≤1000∧(∀y∈a::r,0≤y∧y.toNat<us.length)then
   match decG (us.getD ((a::r).getD (pickG thr gr T (a::r)) 0).toNat []) w ((a::r).take (pickG thr gr T (a::r))++(a::r).drop (pickG thr gr T (a::r)+1))with
   |none=>none
   |some s=>runG thr gr nx f us (stepG thr nx T ((a::r).getD (pickG thr gr T (a::r)) 0)) s.1 s.2 (out++[(a::r).getD (pickG thr gr T (a::r)) 0])
  else none
def orderG (thr:Bool) (gr:TR→Int→Int×Int) (nx:TR→Int→TR) (xss:List (List Int)) (T:TR):Option (List Int):=runG thr gr nx xss.length (usersQ xss xss.length) T (waitQ xss xss.length) (readyQ xss xss.length) []
theorem bestI_lt (gr:Int→Int×Int) (r:List Int):∀k,0<k→bestI gr r k<k:=fun k hk=>by
 induction k with
 |zero=>omega
 |succ k ih=>
  unfold bestI;split
  ·omega
  rename_i hn;have:0<k:=by
   rcases Nat.eq_zero_or_pos k with h0|h0
   ·exact absurd (Or.inl h0) hn
   exact h0
  have:=ih this;omega
theorem pickG_lt (thr:Bool) (gr:TR→Int→Int×Int) (T:TR) {r:List Int} (h:0<r.length):pickG thr gr T r<r.length:=by
 unfold pickG;split
 ·exact bestI_lt _ _ _ h
 exact h
structure StepsG (xs:List Ins) (cs:List Value) (gr:TR→Int→Int×Int) (nx:TR→Int→TR) (Inv:TR→Prop):Prop where
 loose:∀T,Inv T→TreeSm T.1 T.2∧LooseOk T.1 T.2
 act:∀(i:Nat) (x:Ins),xs[i]? =some x→∃p tz:List UInt8,x.path=⟨p.toArray⟩∧x.tz=⟨tz.toArray⟩∧(-9223372036854775808≤x.op∧x.op≤9223372036854775807)∧p.length≤1048576∧tz.length≤1048576∧
  ∀T,Inv T→∀vs:List Value,vs.length=T.2.length→(∀(k:Nat) (u:Value) (f:TF),vs[k]? =some u→T.2[k]? =some f→dvLen u=f.size)→
   (gr T i).1=growB T.1 (cs0 T.2 vs) (doA x.op p tz x.mode x.ref cs ⟨0,T.1,cs0 T.2 vs,T.2.length⟩)∧(gr T i).2=growI T.1 (cs0 T.2 vs) (doA x.op p tz x.mode x.ref cs ⟨0,T.1,cs0 T.2 vs,T.2.length⟩)∧
   ((doA x.op p tz x.mode x.ref cs ⟨0,T.1,cs0 T.2 vs,T.2.length⟩).e≠0→nx T i=T)∧
   ((doA x.op p tz x.mode x.ref cs ⟨0,T.1,cs0 T.2 vs,T.2.length⟩).e=0→nx T i=(canNs (doA x.op p tz x.mode x.ref cs ⟨0,T.1,cs0 T.2 vs,T.2.length⟩).Ns,canCs (doA x.op p tz x.mode x.ref cs ⟨0,T.1,cs0 T.2 vs,T.2.length⟩).Ns (doA x.op p tz x.mode x.ref cs ⟨0,T.1,cs0 T.2 vs,T.2.length⟩).Cs)∧∀n∈(doA x.op p tz x.mode x.ref cs ⟨0,T.1,cs0 T.2 vs,T.2.length⟩).Ns,n.path.length≤1048576)
 next:∀T,Inv T→∀i:Int,Inv (nx T i)
theorem TreeAt.sizes {w:World} {nv fv:Value} {ns:List TN} {fs:List TF} {vs:List Value} (h:TreeAt w nv fv ns fs vs):∀(k:Nat) (u:Value) (f:TF),vs[k]? =some u→fs[k]? =some f→dvLen u=f.size:=fun k u f hu hf=>by obtain⟨A,c,rfl,_⟩:=(h.data k u f hu hf).shape;rfl
theorem Do_g {w:World} {nv fv:Value} {ns:List TN} {fs:List TF} {vs:List Value} (h:TreeAt w nv fv ns fs vs) (hm:TreeSm ns fs) (ho:LooseOk ns fs) {op mode ref:Int} (o1: -9223372036854775808≤op) (o2:op≤9223372036854775807) {p tz:List UInt8} (hp9:p.length≤1048576) (ht9:tz.length≤1048576) {sv:Value} {cs:List Value} (hsv:StockAt w sv cs) {st:WSt} (hst9:doA op p tz mode ref cs ⟨0,ns,cs0 fs vs,fs.length⟩=st) (hsh:st.e=0→∀n∈st.Ns,n.path.length≤1048576):
  Calls Tryz.prog 29 #[.agg #[nv,fv],insV op p tz mode ref,sv] w fun e w'=>∃A3 n3 c3 A4 n4 c4,e= .returned (.tuple #[.agg #[.slice A3 n3 c3,.slice A4 n4 c4],.int .i64 st.e])∧Sep w w' [.keep fun W=>st.e=0→∃vs',TreeAt W (.slice A3 n3 c3) (.slice A4 n4 c4) (canNs st.Ns) (canCs st.Ns st.Cs) vs']:=by
 by_cases hz:st.e=0
 ·refine(Do_ok h hm ho o1 o2 hp9 ht9 hsv hst9 hz (hsh hz)).mono ?_;rintro e w' ⟨nv',fv',vs',rfl,hs⟩;have hT:=hs.kept 0 rfl;obtain⟨A3,c3,rfl,_⟩:=hT.nodes.shape;obtain⟨A4,c4,rfl,_⟩:=hT.files.shape;refine⟨A3,_,c3,A4,_,c4,by rw[hz],?_⟩;exact Sep.keep (X:=[_]) (Y:=[]) hs fun _ W hW _=>⟨vs',hW.kept 0 rfl⟩
 refine(by rw[←hst9]at hz ⊢;exact Do_err h hm ho o1 o2 hp9 ht9 hsv hz:Calls Tryz.prog 29 #[.agg #[nv,fv],insV op p tz mode ref,sv] w fun e w'=>e= .returned (.tuple #[.agg #[.slice none 0 0,.slice none 0 0],.int .i64 st.e])∧Below w.heap.size w w').mono ?_;rintro e w' ⟨rfl,hb⟩;exact⟨none,0,0,none,0,0,rfl,Sep.keep (X:=[]) (Y:=[]) ((Sep.nil w).pure hb) fun _ W _ h0=>absurd h0 hz⟩
end Go.Proofs.YtimkjnbihlgbiaaGreat
