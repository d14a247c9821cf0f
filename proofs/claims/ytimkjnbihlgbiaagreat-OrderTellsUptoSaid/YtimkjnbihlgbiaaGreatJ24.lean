/- Norm, Finds, Shelf, Sorted, Shelf15, SortC, SortS, laid together. -/
import Derived.Test.YtimkjnbihlgbiaaGreatJ20
import Derived.Lib.SlicesCompact
import Derived.Shelf.SlLaysF
import Derived.Ground.SlsfProg
import Derived.Shelf.SlSortCmp.NoneTotal
import Derived.Shelf.Lays2
import Derived.Ground.Names2Prog
import Derived.Shelf.SortM.Plain
import Derived.Shelf.SortM.SortNone
import Derived.Shelf.Slices.CompactI
import Derived.Sort.EncStr
namespace Go.Proofs.YtimkjnbihlgbiaaGreat
set_option linter.unusedVariables false
def sortL (zs:List Int):List Int:=zs.mergeSort fun x y=>decide (x≤y)
theorem sortL_perm (zs:List Int):(sortL zs).Perm zs:=List.mergeSort_perm _ _
theorem sortL_up (zs:List Int):(sortL zs).Pairwise (· ≤ ·):=by have h:=List.pairwise_mergeSort (le:=fun x y:Int=>decide (x≤y)) (fun a b c h1 h2=>by simp at*;omega) (fun a b=>by simp;omega) zs;exact h.imp fun h=>by simpa using h
def normL (zs:List Int):List Int:=Lib.compact (sortL zs)
theorem compact_mem (zs:List Int) (x:Int):x∈Lib.compact zs↔x∈zs:=by
 unfold Lib.compact Lib.compactUpTo;rw[List.mem_map];constructor
 ·rintro⟨j,hj,rfl⟩;rw[List.mem_filter,List.mem_range]at hj;rw[getElem!_pos _ j (by simpa using hj.1)];simp
 intro hx;obtain⟨m,hm,rfl⟩:=List.mem_iff_getElem.1 hx;have key:∀m,(hm:m<zs.length)→∃j,j∈(List.range zs.length).filter (Lib.keeps zs.toArray)∧zs.toArray[j]! =zs[m]:=by
  intro m
  induction m with
  |zero=>
   intro hm;refine⟨0,?_,?_⟩
   ·rw[List.mem_filter,List.mem_range];exact⟨hm,Lib.keeps_lt_one _ 0 (by omega)⟩
   rw[getElem!_pos _ 0 (by simpa using hm)];simp
  |succ m ih=>
   intro hm;(have e1:zs.toArray[m+1]! =zs[m+1]:=by rw[getElem!_pos _ _ (by simpa using hm)];simp);(have e2:zs.toArray[m]! =zs[m]:=by rw[getElem!_pos _ _ (by simpa using(show m<zs.length by omega))];simp);by_cases e:zs[m+1]=zs[m]
   ·obtain⟨j,h1,h2⟩:=ih (by omega);exact⟨j,h1,h2.trans e.symm⟩
   refine⟨m+1,?_,e1⟩;rw[List.mem_filter,List.mem_range];exact⟨hm,Lib.keeps_pos (by rw[e1,Nat.add_sub_cancel,e2];exact e)⟩
 exact key m hm
theorem compact_up {zs:List Int} (h:zs.Pairwise (· ≤ ·)):(Lib.compact zs).Pairwise (· < ·):=by
 unfold Lib.compact Lib.compactUpTo;rw[List.pairwise_map];have hr:((List.range zs.length).filter (Lib.keeps zs.toArray)).Pairwise (· < ·):=List.Pairwise.filter _ List.pairwise_lt_range;refine List.Pairwise.imp_of_mem (R:=(· < ·)) ?_ hr;intro i j hi hj hij;rw[List.mem_filter,List.mem_range]at hi hj;have hle:=List.pairwise_iff_getElem.1 h;have e:∀k (hk:k<zs.length),zs.toArray[k]! =zs[k]:=fun k hk=>by rw[getElem!_pos _ _ (by simpa using hk)];simp
 have hne:zs[j]'hj.1≠zs[j-1]'(by omega):=by intro heq;have:=Lib.keeps_neg (d:=zs.toArray) (m:=j) (by omega) (by rw[e j hj.1,e (j-1) (by omega)];exact heq);rw[this]at hj;exact absurd hj.2 (by decide)
 rw[e i hi.1,e j hj.1];have h1:zs[j-1]'(by omega)≤zs[j]'hj.1:=hle (j-1) j (by omega) hj.1 (by omega);by_cases hij2:i=j-1
 ·subst hij2;omega
 have h2:zs[i]'hi.1≤zs[j-1]'(by omega):=hle i (j-1) hi.1 (by omega) (by omega);omega
theorem compact_len (zs:List Int):(Lib.compact zs).length≤zs.length:=by unfold Lib.compact Lib.compactUpTo;rw[List.length_map];have:=List.length_filter_le (Lib.keeps zs.toArray) (List.range zs.length);simpa using this
theorem normL_up (zs:List Int):(normL zs).Pairwise (· < ·):=compact_up (sortL_up zs)
theorem normL_mem (zs:List Int) (x:Int):x∈normL zs↔x∈zs:=by unfold normL;rw[compact_mem];exact(sortL_perm zs).mem_iff
theorem normL_len (zs:List Int):(normL zs).length≤zs.length:=by have h1:=compact_len (sortL zs);have h2:=(sortL_perm zs).length_eq;unfold normL;omega
theorem up_unique {l m:List Int} (hl:l.Pairwise (· < ·)) (hm:m.Pairwise (· < ·)) (h:∀x,x∈l↔x∈m):l=m:=by
 have n1:l.Nodup:=hl.imp fun h=>by omega
 have n2:m.Nodup:=hm.imp fun h=>by omega
 exact List.Perm.eq_of_pairwise (le:=(· < ·)) (fun a b _ _ h1 h2=>by omega) hl hm ((List.perm_ext_iff_of_nodup n1 n2).2 h)
open Go.RowKit
def idxI (x:Int):List Int→Nat→Int
 |[],_=> -1
 |y::l,k=>if x=y then(k:Int)else idxI x l (k+1)
theorem idxI_nonneg (x:Int):∀(l:List Int) (k:Nat),(0≤idxI x l k)↔x∈l:=by
 intro l
 induction l with
 |nil=>intro k;simp[idxI]
 |cons y l ih=>
  intro k;by_cases e:x=y
  ·subst e;simp[idxI]
  simp[idxI,e,ih]
theorem index_any {xs:List Int} {w:World} {v:Value} (h:IntsAt w v xs) (x:Int):
  Calls Tryz.prog 77 #[v,.int .i64 x] w fun e w'=>e= .returned (.int .i64 (idxI x xs 0))∧w=w':=by
 obtain⟨A,c,rfl,hm⟩:=h.shape;unfold maxLen at hm;have hm':(xs.length:Int)≤9223372036854775807:=by omega
 go_enter Tryz.func77,Tryz.ntmps77;go_wp2_with fail;go_loop[8] (fun i=>∃(k:Nat),k≤xs.length∧i= .int .i64 k∧Hid (idxI x xs 0=idxI x (xs.drop k) k)) (fun i=>xs.length-(intOf i).toNat)
 case atStart=>exact⟨0,Nat.zero_le _,rfl,rfl⟩
 obtain⟨k,hk,rfl,hd⟩:=hrel;by_cases hlt:k<xs.length
 ·obtain⟨ad,c',e,h3⟩:=h.at_ hlt;cases e;(have b1:(k:Int)<(xs.length:Int):=by omega);(have b2:(0:Int)≤(k:Int):=by omega);have hd2:=hd.out;rw[List.drop_eq_getElem_cons hlt,idxI]at hd2;generalize xs[k]=y at h3 hd2;by_cases e:x=y
  ·subst e;rw[if_pos rfl]at hd2;have hd':=Lh hd2;clear hd hd2;(have b3:(x==x)=true:=by simp);go_wp2_with fail;go_ret;exact⟨by rw[hd'.out];rfl,rfl⟩
  rw[if_neg e]at hd2;have hd':=Lh hd2;clear hd hd2;(have b3:(x==y)=false:=by simpa using e);go_wp2_with fail;all_goals exact⟨⟨k+1,by omega,by go_num,hd'⟩,by simp[intOf];omega⟩
 obtain rfl:k=xs.length:=by omega
 have hd2:=hd.out;rw[List.drop_length,idxI]at hd2;have hd':=Lh hd2;clear hd hd2;go_wp2_with fail;go_ret;exact⟨by rw[hd'.out];rfl,rfl⟩
theorem contains_any {xs:List Int} {w:World} {v:Value} (h:IntsAt w v xs) (x:Int):
  Calls Tryz.prog 42 #[v,.int .i64 x] w fun e w'=>e= .returned (.bool (xs.contains x))∧w=w':=by
 have hi:=index_any h x;have e:decide (0≤idxI x xs 0)=xs.contains x:=by rw[Bool.eq_iff_iff];simp[idxI_nonneg]
 have e':=Lh e;clear e;go_enter Tryz.func42,Tryz.ntmps42;go_wp2_with(go_at_call 77;refine hi.mono ?_;rintro e w' ⟨rfl,rfl⟩);go_ret;exact⟨by rw[←e'.out];rfl,rfl⟩
theorem less_any {xs ys:List Int} {w:World} {v u:Value} (h1:IntsAt w v xs) (h2:IntsAt w u ys) (hx:0<xs.length) (hy:0<ys.length) (bx:0≤xs[0]∧xs[0]≤1024) (by':0≤ys[0]∧ys[0]≤1024):
  Calls Tryz.prog 44 #[v,u] w fun e w'=>e= .returned (.int .i64 (xs[0]-ys[0]))∧∃n,w'=w.drewN n:=by
 obtain⟨ad,c,rfl,a1⟩:=h1.at_ hx;obtain⟨ad',c',rfl,a2⟩:=h2.at_ hy;rw[add_zero']at a1 a2;have b1:(0:Int)<(xs.length:Int):=by omega
 have b2:(0:Int)<(ys.length:Int):=by omega
 generalize xs[0]=x at bx a1 ⊢;generalize ys[0]=y at by' a2 ⊢;obtain⟨c1,c2⟩:=bx;obtain⟨c3,c4⟩:=by';clear h1 h2;go_enter Tryz.func44,Tryz.ntmps44;go_wp2_with fail;go_quiet (fail);go_wp2_with fail;go_ret;exact⟨rfl,nq,rfl⟩
end Go.Proofs.YtimkjnbihlgbiaaGreat
namespace Go.Proofs
open Go.Shelf
def Tryz.sortRows_ren :Go.Shelf.Ren:=⟨fun|6=>43|15=>79|14=>78|28=>116|29=>117|20=>108|21=>109|22=>110|23=>111|24=>112|25=>113|26=>114|27=>115|46=>144|47=>145|48=>146|49=>147|50=>148|57=>168|n=>n,fun|22=>27|24=>36|25=>92|3=>3|39=>128|0=>0|53=>178|55=>180|4=>4|46=>172|45=>171|50=>94|5=>5|9=>9|66=>197|70=>195|76=>215|77=>111|n=>n,fun|n=>n⟩
theorem Tryz.sortRows :Go.Proofs.SlLaysF.n6 Tryz.prog Tryz.sortRows_ren:= {
 mixed:=by kernel_rfl
 f6:=⟨Tryz.f43.name,by decide,Tryz.func43.trans (congrArg some (by kernel_rfl))⟩
 f14:=⟨Tryz.f78.name,by decide,Tryz.func78.trans (congrArg some (by kernel_rfl))⟩
 f15:=Tryz.func79.trans (congrArg some (by kernel_rfl))
 f20:=⟨Tryz.f108.name,by decide,Tryz.func108.trans (congrArg some (by kernel_rfl))⟩
 f21:=⟨Tryz.f109.name,by decide,Tryz.func109.trans (congrArg some (by kernel_rfl))⟩
 f22:=⟨Tryz.f110.name,by decide,Tryz.func110.trans (congrArg some (by kernel_rfl))⟩
 f23:=⟨Tryz.f111.name,by decide,Tryz.func111.trans (congrArg some (by kernel_rfl))⟩
 f24:=⟨Tryz.f112.name,by decide,Tryz.func112.trans (congrArg some (by kernel_rfl))⟩
 f25:=⟨Tryz.f113.name,by decide,Tryz.func113.trans (congrArg some (by kernel_rfl))⟩
 f26:=⟨Tryz.f114.name,by decide,Tryz.func114.trans (congrArg some (by kernel_rfl))⟩
 f27:=⟨Tryz.f115.name,by decide,Tryz.func115.trans (congrArg some (by kernel_rfl))⟩
 f28:=Tryz.func116.trans (congrArg some (by kernel_rfl))
 f29:=Tryz.func117.trans (congrArg some (by kernel_rfl))
 f46:=⟨Tryz.f144.name,by decide,Tryz.func144.trans (congrArg some (by kernel_rfl))⟩
 f47:=Tryz.func145.trans (congrArg some (by kernel_rfl))
 f48:=Tryz.func146.trans (congrArg some (by kernel_rfl))
 f49:=⟨Tryz.f147.name,by decide,Tryz.func147.trans (congrArg some (by kernel_rfl))⟩
 f50:=⟨Tryz.f148.name,by decide,Tryz.func148.trans (congrArg some (by kernel_rfl))⟩
 f57:=⟨Tryz.f168.name,by decide,Tryz.func168.trans (congrArg some (by kernel_rfl))⟩
 t0:=Tryz.underlying0
 a0:=Tryz.isAgg0
 z0:=Tryz.sizeOf0
 v0:=Tryz.zeroValue0
 t3:=Tryz.underlying3
 a3:=Tryz.isAgg3
 z3:=Tryz.sizeOf3
 v3:=Tryz.zeroValue3
 t4:=Tryz.underlying4
 a4:=Tryz.isAgg4
 z4:=Tryz.sizeOf4
 v4:=Tryz.zeroValue4
 t5:=Tryz.underlying5
 a5:=Tryz.isAgg5
 z5:=Tryz.sizeOf5
 v5:=Tryz.zeroValue5
 t9:=Tryz.underlying9
 a9:=Tryz.isAgg9
 z9:=Tryz.sizeOf9
 v9:=Tryz.zeroValue9
 t22:=Tryz.underlying27
 a22:=Tryz.isAgg27
 z22:=Tryz.sizeOf27
 v22:=Tryz.zeroValue27
 a24:=Tryz.isAgg36
 z24:=Tryz.sizeOf36
 t25:=Tryz.underlying92
 a25:=Tryz.isAgg92
 z25:=Tryz.sizeOf92
 v25:=Tryz.zeroValue92
 t39:=Tryz.underlying128
 a39:=Tryz.isAgg128
 z39:=Tryz.sizeOf128
 v39:=Tryz.zeroValue128
 t45:=Tryz.underlying171
 a45:=Tryz.isAgg171
 z45:=Tryz.sizeOf171
 v45:=Tryz.zeroValue171
 t46:=Tryz.underlying172
 a46:=Tryz.isAgg172
 z46:=Tryz.sizeOf172
 v46:=Tryz.zeroValue172
 t50:=Tryz.underlying94
 a50:=Tryz.isAgg94
 z50:=Tryz.sizeOf94
 v50:=Tryz.zeroValue94
 t53:=Tryz.underlying178
 a53:=Tryz.isAgg178
 z53:=Tryz.sizeOf178
 v53:=Tryz.zeroValue178
 t55:=Tryz.underlying180
 a55:=Tryz.isAgg180
 z55:=Tryz.sizeOf180
 v55:=Tryz.zeroValue180
 t66:=Tryz.underlying197
 a66:=Tryz.isAgg197
 z66:=Tryz.sizeOf197
 v66:=Tryz.zeroValue197
 t70:=Tryz.underlying195
 a70:=Tryz.isAgg195
 z70:=Tryz.sizeOf195
 v70:=Tryz.zeroValue195
 t76:=Tryz.underlying215
 a76:=Tryz.isAgg215
 z76:=Tryz.sizeOf215
 v76:=Tryz.zeroValue215
 t77:=Tryz.underlying111
 a77:=Tryz.isAgg111
 z77:=Tryz.sizeOf111
 v77:=Tryz.zeroValue111}
end Go.Proofs
namespace Go.Proofs.YtimkjnbihlgbiaaGreat
open Go.RowKit
set_option linter.unusedVariables false
theorem heap_sorted {α:Type} [Inhabited α] (enc:α→Value) (w:World) (g n:Nat) (d:Array α) (os:Array Obj) (b:Nat) (hb:b<w.heap.size):
  (Go.Proofs.sortWorld enc w g 0 n d os).heap[b]? =if g=b then w.heap[b]?.map (Go.Sort.onCells (Go.Sort.putCells enc 0 d))else w.heap[b]? :=by
 unfold Go.Proofs.sortWorld Go.Sort.grow Go.Sort.putRow Go.Sort.mapBlock Go.Sort.ahead;simp only;rw[Array.getElem?_append_left (by simpa using hb),Array.getElem?_modify]
theorem Sep.sorted {α:Type} [Inhabited α] (enc:α→Value) {w0 w:World} {As:List Asn} {e:TypeId} {g m cap:Nat} {cs:List Value} (k:Nat) (h:Sep w0 w As)
  (hi:As[k]? =some (.sl e 1 (.slice (some ⟨g,0,none⟩) m cap) m cs)) (n:Nat) (d:Array α) (hd:d.size=m) (os:Array Obj):
  Sep w0 (Go.Proofs.sortWorld enc w g 0 n d os) (As.set k (.sl e 1 (.slice (some ⟨g,0,none⟩) m cap) m (d.toList.map enc))):=by
 refine h.step k hi fun F ⟨ho,hF⟩ _=>⟨F,⟨⟨by simp[hd],?_⟩,hF⟩,fun b hb=>.inl hb,?_⟩
 ·rcases ho.2 with⟨h',_⟩|⟨g',cap',cur,h',hb,hg,hc,hm,hs,ht⟩
  ·simp at h'
  simp only[Value.slice.injEq,Option.some.injEq,Addr.mk.injEq,and_true,true_and]at h';obtain⟨rfl,rfl⟩:=h';refine .inr ⟨g,cap,Go.Sort.putCells enc 0 d cur,rfl,hb,?_,hc,hm,by simpa[Go.Sort.putCells]using hs,?_⟩
  ·rw[heap_sorted enc w g n d os g (lt_of_heap hg),if_pos rfl,hg];rfl
  apply List.ext_getElem?;intro i;by_cases hi:i<m
  ·(have hc2:i<cur.size:=by omega);simp[Go.Sort.putCells,hd,hi,hc2]
  rw[List.getElem?_eq_none (by simp;omega),List.getElem?_eq_none (by simp;omega)]
 refine⟨rfl,rfl,rfl,by simp[Go.Proofs.sortWorld,Go.Sort.grow,Go.Sort.putRow,Go.Sort.mapBlock,Go.Sort.ahead],fun b hb hn=>?_⟩;rw[heap_sorted enc w g n d os b hb,if_neg];intro e;subst e;exact hn (by rw[hF];simp[Value.ownBlock])
def partsOf (enc:Nat→Value) (row:Nat→List Int) (L:List Nat):List Asn:=L.map fun i=>intsR (enc i) (row i)
theorem partsOf_at {enc:Nat→Value} {row:Nat→List Int} {L:List Nat} {x:Nat} (h:x∈L):∃k:Nat,(partsOf enc row L)[k]? =some (intsR (enc x) (row x)):=by obtain⟨k,hk⟩:=List.mem_iff_getElem?.1 h;exact⟨k,by simp[partsOf,hk]⟩
theorem sort_any {w0 w:World} {ov:Value} {L:List Nat} {enc:Nat→Value} {row:Nat→List Int} {R:List Asn}
  (hS:Sep w0 w (.sl 36 1 ov L.length (L.map enc)::(partsOf enc row L++R))) (hrow:∀i,i∈L→∃l,row i=(i:Int)::l) (hb:∀i,i∈L→i≤1024) (hL:L.length≤1024):
  Calls Tryz.prog 43 #[ov,.func (.func 44) #[] #[]] w fun e w'=>e= .returned (.tuple #[])∧
   ∃L',L.Perm L'∧L'.Pairwise (· ≤ ·)∧Sep w0 w' (rowsR ov (L'.map row)::R):=by
 have shut:∀ {w':World} {L':List Nat},L.Perm L'→Sep w0 w' (.sl 36 1 ov L.length (L'.map enc)::(partsOf enc row L++R))→Sep w0 w' (rowsR ov (L'.map row)::R):=by intro w' L' hp h;have h1:Sep w0 w' (.sl 36 1 ov L.length (L'.map enc)::(partsOf enc row L'++R)):=h.perm (.cons _ ((hp.map _).append_right _));refine Sep.list_shut (vs:=L'.map enc) (by simp) ?_;(have e:List.zipWith intsR (L'.map enc) (L'.map row)=partsOf enc row L':=by unfold partsOf;rw[List.zipWith_map,List.zipWith_self]);rw[e,List.length_map,←hp.length_eq];exact h1
 rcases Nat.eq_zero_or_pos L.length with h0|hpos
 ·obtain rfl:L=[]:=List.eq_nil_of_length_eq_zero h0;obtain⟨A,cap,rfl,_⟩:=hS.sl_any 0 rfl;have hcon:=Go.Proofs.AnyF.slices_SortFunc_none (P:=Tryz.prog) (ρ:=Go.Proofs.Tryz.sortRows_ren) {Go.Proofs.Tryz.sortRows with} A cap (.func (.func 44) #[] #[]) w;change Calls Tryz.prog 43 _ _ _ at hcon;refine hcon.mono ?_;rintro e w' ⟨rfl,rfl⟩;exact⟨rfl,[],.refl _,.nil,shut (.refl _) hS⟩
 obtain⟨g,cap,rfl,_,hg,_⟩:=hS.sl_form 0 rfl hpos
 have hne:L≠[]:=by intro e;rw[e]at hpos;exact Nat.lt_irrefl _ hpos
 haveI:Inhabited {x:Nat//x∈L}:=⟨⟨L.head hne,List.head_mem hne⟩⟩
 let enc': {x:Nat//x∈L}→Value:=fun x=>enc x.1
 let cf: {x:Nat//x∈L}→ {x:Nat//x∈L}→Int:=fun x y=>(x.1:Int)-(y.1:Int)
 have hlt:∀x y,Go.Proofs.ltOf cf x y=decide (x.1<y.1):=fun x y=>by unfold Go.Proofs.ltOf;rw[Bool.eq_iff_iff,decide_eq_true_eq,decide_eq_true_eq];(show(x.1:Int)-(y.1:Int)<0↔_);omega
 have hO:Go.Sort.SWO (Go.Proofs.ltOf cf):=⟨fun x=>by rw[hlt];simp,fun x y z h1 h2=>by rw[hlt]at*;simp at*;omega,fun x y z h1 h2=>by rw[hlt]at*;simp at*;omega⟩
 have hd:L.attach.toArray.size=L.length:=by simp
 have hmap:∀d:Array {x:Nat//x∈L},d.toList.map enc'=(d.toList.map (·.1)).map enc:=fun d=>by rw[List.map_map];rfl
 have hdl:L.attach.toArray.toList.map enc'=L.map enc:=by rw[hmap];simp
 have hpart:∀x: {x:Nat//x∈L},∃k:Nat,(partsOf enc row L++R)[k]? =some (intsR (enc x.1) (row x.1)):=fun x=>by obtain⟨k,hk⟩:=partsOf_at (enc:=enc) (row:=row) x.2;exact⟨k,by rw[List.getElem?_append_left (by rcases gF.1 hk with⟨h,_⟩;exact h)];exact hk⟩
 have h1:Go.Proofs.OneCell enc':=fun x=>by obtain⟨k,hk⟩:=hpart x;obtain⟨A,c,e,_⟩:=(hS.ints (k+1) hk).shape;(show(enc x.1).oneCell'=true);rw[e];rfl
 have hsort:∀(m:Nat) (os:Array Obj) (dk:Array {x:Nat//x∈L}),dk.size=L.length→Sep w0 (Go.Proofs.sortWorld enc' w g 0 m dk os) (.sl 36 1 (.slice (some ⟨g,0,none⟩) L.length cap) L.length (dk.toList.map enc')::(partsOf enc row L++R)):=
  fun m os dk hdk=>hS.sorted enc' 0 rfl m dk hdk os
 have hcmp:Go.Proofs.CmpReads Tryz.prog 44 #[] enc' cf g 0 L.attach.toArray.size w:=by intro m os dk hdk x y;have hT:=hsort m os dk (hdk.trans hd);obtain⟨kx,hkx⟩:=hpart x;obtain⟨ky,hky⟩:=hpart y;obtain⟨lx,ex⟩:=hrow x.1 x.2;obtain⟨ly,ey⟩:=hrow y.1 y.2;have hix:=hT.ints (kx+1) hkx;have hiy:=hT.ints (ky+1) hky;rw[ex]at hix;rw[ey]at hiy;have bx:=hb x.1 x.2;have by':=hb y.1 y.2;exact less_any hix hiy (by simp) (by simp) (by simp;omega) (by simp;omega)
 have hH:Go.Sort.Holds enc' w g 0 L.attach.toArray:=fun j hj=>by rw[Nat.zero_add];(have hj':j<L.length:=by rw[hd]at hj;exact hj);refine⟨?_,hS.frozenAt 0 rfl j⟩;rw[hS.cellAt 0 rfl j (by omega),getElem!_pos _ j hj];simp[hj',enc']
 have eg:∀args w,(callFunc 44 args).run Tryz.prog w= .ok (.enter 44 args) w:=Go.Proofs.enters_of Tryz.func44 (by kernel_rfl) rfl
 have hcon:=Go.Proofs.Any.slices_SortFunc Go.Proofs.Tryz.sortRows enc' h1 cf hO 44 #[] g 0 cap L.attach.toArray w eg hcmp.lays hH hg (by rw[hd];omega)
 change Calls Tryz.prog 43 _ _ _ at hcon
 rw[hd]at hcon
 refine hcon.mono ?_
 rintro e w' ⟨rfl,d',n,os,hp,hs,rfl⟩
 have hds:d'.size=L.length:=hp.1.trans hd
 have hperm:d'.toList.Perm L.attach:=by have h:=hp.2.2;(have e1:d'.extract 0 L.length=d':=by rw[←hds];exact Array.extract_size);(have e2:L.attach.toArray.extract 0 L.length=L.attach.toArray:=by have h3:=Array.extract_size (xs:=L.attach.toArray);rw[hd]at h3;exact h3);rw[e1,e2]at h;exact h
 have hpL:L.Perm (d'.toList.map (·.1)):=by have h:=(hperm.map (·.1)).symm;simpa using h
 refine⟨rfl,d'.toList.map (·.1),hpL,?_,shut hpL ?_⟩
 ·rw[List.pairwise_map,List.pairwise_iff_getElem];intro i j hi hj hij;(have hi':i<d'.size:=by simpa using hi);(have hj':j<d'.size:=by simpa using hj);have h:=hs i j (Nat.zero_le _) hij (by omega);rw[getElem!_pos d' j hj',getElem!_pos d' i hi',hlt]at h;simp at h ⊢;omega
 ·have h:=hsort n os d' hds;rw[hmap]at h;exact h
end Go.Proofs.YtimkjnbihlgbiaaGreat
namespace Go.Proofs
open Go.Shelf
def Tryz.sortInts_ren :Go.Shelf.Ren:=⟨fun|5=>46|8=>79|7=>81|19=>116|20=>117|10=>118|11=>119|12=>120|13=>121|14=>122|15=>123|16=>124|17=>125|18=>126|30=>149|31=>145|32=>146|33=>150|34=>151|35=>152|40=>169|n=>n,fun|23=>36|25=>3|3=>3|32=>128|22=>36|0=>0|44=>178|46=>180|4=>4|36=>172|35=>171|41=>94|5=>5|9=>9|53=>197|57=>195|63=>215|64=>111|n=>n,fun|n=>n⟩
theorem Tryz.sortInts :Go.Proofs.SlLaysM.n5 Tryz.prog Tryz.sortInts_ren:= {
 mixed:=by kernel_rfl
 f5:=⟨Tryz.f46.name,by decide,Tryz.func46.trans (congrArg some (by kernel_rfl))⟩
 f7:=⟨Tryz.f81.name,by decide,Tryz.func81.trans (congrArg some (by kernel_rfl))⟩
 f8:=Tryz.func79.trans (congrArg some (by kernel_rfl))
 f10:=⟨Tryz.f118.name,by decide,Tryz.func118.trans (congrArg some (by kernel_rfl))⟩
 f11:=⟨Tryz.f119.name,by decide,Tryz.func119.trans (congrArg some (by kernel_rfl))⟩
 f12:=⟨Tryz.f120.name,by decide,Tryz.func120.trans (congrArg some (by kernel_rfl))⟩
 f13:=⟨Tryz.f121.name,by decide,Tryz.func121.trans (congrArg some (by kernel_rfl))⟩
 f14:=⟨Tryz.f122.name,by decide,Tryz.func122.trans (congrArg some (by kernel_rfl))⟩
 f15:=⟨Tryz.f123.name,by decide,Tryz.func123.trans (congrArg some (by kernel_rfl))⟩
 f16:=⟨Tryz.f124.name,by decide,Tryz.func124.trans (congrArg some (by kernel_rfl))⟩
 f17:=⟨Tryz.f125.name,by decide,Tryz.func125.trans (congrArg some (by kernel_rfl))⟩
 f18:=⟨Tryz.f126.name,by decide,Tryz.func126.trans (congrArg some (by kernel_rfl))⟩
 f19:=Tryz.func116.trans (congrArg some (by kernel_rfl))
 f20:=Tryz.func117.trans (congrArg some (by kernel_rfl))
 f30:=⟨Tryz.f149.name,by decide,Tryz.func149.trans (congrArg some (by kernel_rfl))⟩
 f31:=Tryz.func145.trans (congrArg some (by kernel_rfl))
 f32:=Tryz.func146.trans (congrArg some (by kernel_rfl))
 f33:=⟨Tryz.f150.name,by decide,Tryz.func150.trans (congrArg some (by kernel_rfl))⟩
 f34:=⟨Tryz.f151.name,by decide,Tryz.func151.trans (congrArg some (by kernel_rfl))⟩
 f35:=⟨Tryz.f152.name,by decide,Tryz.func152.trans (congrArg some (by kernel_rfl))⟩
 f40:=⟨Tryz.f169.name,by decide,Tryz.func169.trans (congrArg some (by kernel_rfl))⟩
 t0:=Tryz.underlying0
 a0:=Tryz.isAgg0
 z0:=Tryz.sizeOf0
 v0:=Tryz.zeroValue0
 t3:=Tryz.underlying3
 a3:=Tryz.isAgg3
 z3:=Tryz.sizeOf3
 v3:=Tryz.zeroValue3
 t4:=Tryz.underlying4
 a4:=Tryz.isAgg4
 z4:=Tryz.sizeOf4
 v4:=Tryz.zeroValue4
 t5:=Tryz.underlying5
 a5:=Tryz.isAgg5
 z5:=Tryz.sizeOf5
 v5:=Tryz.zeroValue5
 t9:=Tryz.underlying9
 a9:=Tryz.isAgg9
 z9:=Tryz.sizeOf9
 v9:=Tryz.zeroValue9
 t22:=Tryz.underlying36
 a22:=Tryz.isAgg36
 z22:=Tryz.sizeOf36
 v22:=Tryz.zeroValue36
 t23:=Tryz.underlying36
 a23:=Tryz.isAgg36
 z23:=Tryz.sizeOf36
 v23:=Tryz.zeroValue36
 t25:=Tryz.underlying3
 a25:=Tryz.isAgg3
 z25:=Tryz.sizeOf3
 v25:=Tryz.zeroValue3
 t32:=Tryz.underlying128
 a32:=Tryz.isAgg128
 z32:=Tryz.sizeOf128
 v32:=Tryz.zeroValue128
 t35:=Tryz.underlying171
 a35:=Tryz.isAgg171
 z35:=Tryz.sizeOf171
 v35:=Tryz.zeroValue171
 t36:=Tryz.underlying172
 a36:=Tryz.isAgg172
 z36:=Tryz.sizeOf172
 v36:=Tryz.zeroValue172
 t41:=Tryz.underlying94
 a41:=Tryz.isAgg94
 z41:=Tryz.sizeOf94
 v41:=Tryz.zeroValue94
 t44:=Tryz.underlying178
 a44:=Tryz.isAgg178
 z44:=Tryz.sizeOf178
 v44:=Tryz.zeroValue178
 t46:=Tryz.underlying180
 a46:=Tryz.isAgg180
 z46:=Tryz.sizeOf180
 v46:=Tryz.zeroValue180
 t53:=Tryz.underlying197
 a53:=Tryz.isAgg197
 z53:=Tryz.sizeOf197
 v53:=Tryz.zeroValue197
 t57:=Tryz.underlying195
 a57:=Tryz.isAgg195
 z57:=Tryz.sizeOf195
 v57:=Tryz.zeroValue195
 t63:=Tryz.underlying215
 a63:=Tryz.isAgg215
 z63:=Tryz.sizeOf215
 v63:=Tryz.zeroValue215
 t64:=Tryz.underlying111
 a64:=Tryz.isAgg111
 z64:=Tryz.sizeOf111
 v64:=Tryz.zeroValue111}
def Tryz.compactInts_ren :Go.Shelf.Ren:=⟨fun|20=>21|n=>n,fun|22=>36|3=>3|4=>4|0=>0|n=>n,fun|n=>n⟩
theorem Tryz.compactInts :Go.Proofs.Lays2.n20 Tryz.prog Tryz.compactInts_ren:= {
 mixed:=by kernel_rfl
 f20:=Tryz.func21.trans (congrArg some (by kernel_rfl))
 t0:=Tryz.underlying0
 a0:=Tryz.isAgg0
 z0:=Tryz.sizeOf0
 v0:=Tryz.zeroValue0
 t3:=Tryz.underlying3
 a3:=Tryz.isAgg3
 z3:=Tryz.sizeOf3
 v3:=Tryz.zeroValue3
 t4:=Tryz.underlying4
 a4:=Tryz.isAgg4
 z4:=Tryz.sizeOf4
 v4:=Tryz.zeroValue4
 t22:=Tryz.underlying36
 a22:=Tryz.isAgg36
 z22:=Tryz.sizeOf36
 v22:=Tryz.zeroValue36
 i3:=by kernel_rfl}
end Go.Proofs
namespace Go.Proofs.YtimkjnbihlgbiaaGreat
open Go.RowKit
set_option linter.unusedVariables false
theorem ints_holds {w0 w:World} {As:List Asn} {g n c:Nat} {xs:List Int} (k:Nat) (h:Sep w0 w As) (hk:As[k]? =some (.sl 3 1 (.slice (some ⟨g,0,none⟩) n c) n (xs.map (.int .i64)))) (hn:xs.length=n):Go.Sort.Holds (Value.int .i64) w g 0 xs.toArray:=fun j hj=>by
 have hj':j<xs.length:=by simpa using hj
 rw[Nat.zero_add];refine⟨?_,h.frozenAt k hk j⟩;rw[h.cellAt k hk j (by omega),getElem!_pos _ j hj];simp[hj']
theorem sortints_any {w0 w:World} {As:List Asn} {v:Value} {xs:List Int} (k:Nat) (h:Sep w0 w As) (hk:As[k]? =some (intsR v xs)) (hl:xs.length≤1048576):
  Calls Tryz.prog 46 #[v] w fun e w'=>e= .returned (.tuple #[])∧Sep w0 w' (As.set k (intsR v (sortL xs))):=by
 have hlen:(sortL xs).length=xs.length:=(sortL_perm xs).length_eq;rcases Nat.eq_zero_or_pos xs.length with h0|hpos
 ·obtain rfl:xs=[]:=List.eq_nil_of_length_eq_zero h0;obtain⟨A,c,rfl,_⟩:=(h.ints k hk).shape;have hcon:=Go.Proofs.AnyM.slices_Sort_int_none Go.Proofs.Tryz.sortInts A c w;change Calls Tryz.prog 46 _ _ _ at hcon;refine hcon.mono ?_;rintro e w' ⟨rfl,rfl⟩;refine⟨rfl,?_⟩;obtain⟨hlt,e⟩:=gF.1 hk;have e2:sortL []=[]:=List.eq_nil_of_length_eq_zero (by rw[hlen];rfl);rw[e2,←e,List.set_getElem_self];exact h
 obtain⟨g,c,rfl,_,hg,_⟩:=h.sl_form k hk hpos;have hH:=ints_holds k h hk rfl;have hcon:=Go.Proofs.AnyM.slices_Sort_int Go.Proofs.Tryz.sortInts g 0 c xs w hH hg (by omega);change Calls Tryz.prog 46 _ _ _ at hcon;refine hcon.mono ?_;rintro e w' ⟨rfl,n,os,rfl⟩;refine⟨rfl,?_⟩;have hS:=h.sorted (α:=Int) (Value.int .i64) k hk n (sortL xs).toArray (by simpa using hlen) os;have e1:intsR (.slice (some ⟨g,0,none⟩) xs.length c) (sortL xs)= .sl 3 1 (.slice (some ⟨g,0,none⟩) xs.length c) xs.length ((sortL xs).toArray.toList.map (.int .i64)):=by unfold intsR;rw[hlen]
 rw[e1];exact hS
theorem compact_any {w0 w:World} {As:List Asn} {v:Value} {xs:List Int} (k:Nat) (h:Sep w0 w As) (hk:As[k]? =some (intsR v xs)) (hl:xs.length≤1048576):
  Calls Tryz.prog 21 #[v] w fun e w'=>∃v',e= .returned v'∧Sep w0 w' (As.set k (intsR v' (Lib.compact xs))):=by
 rcases Nat.eq_zero_or_pos xs.length with h0|hpos
 ·obtain rfl:xs=[]:=List.eq_nil_of_length_eq_zero h0;obtain⟨A,c,rfl,_⟩:=(h.ints k hk).shape;have hcon:=Go.Proofs.Any.slices_Compact_int_empty Go.Proofs.Tryz.compactInts A c w;change Calls Tryz.prog 21 _ _ _ at hcon;refine hcon.mono ?_;rintro e w' ⟨rfl,rfl⟩;refine⟨_,rfl,?_⟩;obtain⟨hlt,e⟩:=gF.1 hk;have e2:Lib.compact ([]:List Int)=[]:=List.eq_nil_of_length_eq_zero (by have:=compact_len [];simpa using this);have e3:As[k]=intsR (.slice A 0 c) []:=e;rw[e2,←e3,List.set_getElem_self];exact h
 obtain⟨g,c,rfl,_,hg,hc,_⟩:=h.sl_form k hk hpos;have hH:=ints_holds k h hk rfl;have hcon:=Go.Proofs.Any.slices_Compact_int Go.Proofs.Tryz.compactInts g 0 c xs w hH (by omega) hc;change Calls Tryz.prog 21 _ _ _ at hcon;refine hcon.mono ?_;have hcl:=compact_len xs;rintro e w' ⟨rfl,q,rfl⟩;refine⟨_,rfl,?_⟩;have hd:(Lib.compact xs++List.replicate (xs.length-(Lib.compact xs).length) 0).toArray.size=xs.length:=by simp;omega
 have hS:=h.sorted (α:=Int) (Value.int .i64) k hk q (Lib.compact xs++List.replicate (xs.length-(Lib.compact xs).length) 0).toArray hd #[];have hlt:k<As.length:=(gF.1 hk).1;have hS2:=hS.sl_cut k (List.getElem?_set_self hlt) (Lib.compact xs).length hcl;rw[List.set_set]at hS2;have e1:intsR (.slice (some ⟨g,0,none⟩) (Lib.compact xs).length c) (Lib.compact xs)= .sl 3 1 (.slice (some ⟨g,0,none⟩) (Lib.compact xs).length c) (Lib.compact xs).length (((Lib.compact xs++List.replicate (xs.length-(Lib.compact xs).length) 0).toArray.toList.map (Value.int .i64)).take ((Lib.compact xs).length*1)):=by unfold intsR;congr 1;rw[Nat.mul_one,List.toList_toArray,List.map_append,List.take_left' (by simp)]
 rw[e1];have e2:Go.Proofs.sortWorld (Value.int .i64) w g 0 q (Lib.compact xs++List.replicate (xs.length-(Lib.compact xs).length) 0).toArray #[]=Go.Sort.putRow (Value.int .i64) (Go.Sort.ahead w q) g 0 (Lib.compact xs++List.replicate (xs.length-(Lib.compact xs).length) 0).toArray:=by unfold Go.Proofs.sortWorld;rw[Go.Sort.grow_empty]
 rw[e2]at hS2;exact hS2
theorem collect_any {w:World} {Bs cap:Nat} {A:Option Addr} {xs:List Int} (hl:xs.length≤1048576) (hBs:Bs<w.heap.size) (hc:w.cell? ⟨Bs,0,none⟩=some (.slice A xs.length cap)) (hI:IntsAt w (.slice A xs.length cap) xs):
  Calls Tryz.prog 45 #[.func (.func 47) #[] #[.pointer (some ⟨Bs,0,none⟩)]] w fun e w'=>∃v,e= .returned v∧Sep w w' [intsR v xs]:=by
 have hlow:CellsLow w.heap.size w A xs:=fun k hk=>by obtain⟨hlen,A',c',e,_,_,h3⟩:=hI;cases e;obtain⟨ad,e,hb,hcell⟩:=h3 (by omega);exact⟨ad,e,hb,hcell k _ (by simp[hk])⟩
 have hap:=(callsIn_wide (n:=3)).1 (appendSeq_in Fence.wide 3 trivial trivial rfl (by omega) Bs cap A xs (by unfold maxLen;omega) (by omega) w hBs hc hlow);go_enter Tryz.func45,Tryz.ntmps45;go_wp2_with(go_at_call 80;refine hap.mono ?_;rintro e w' ⟨v,rfl,hown,hb⟩);go_ret;refine⟨v,rfl,(Sep.nil w).new hb (F:=v.ownBlock.toList) ⟨?_,rfl⟩ ?_⟩
 ·refine⟨hown.1,?_⟩;rcases hown.2 with h|⟨g,c,cur,h1,h2,h3⟩
  ·exact .inl h
  exact .inr ⟨g,c,cur,h1,Nat.zero_le _,h3⟩
 intro b hb';rcases hown.2 with⟨h,_⟩|⟨g,c,cur,h1,h2,h3⟩
 ·rw[h]at hb';simp[Value.ownBlock]at hb'
 rw[h1]at hb';simp[Value.ownBlock]at hb';omega
theorem sorted_any {w:World} {Bs cap:Nat} {A:Option Addr} {xs:List Int} (hl:xs.length≤1048576) (hBs:Bs<w.heap.size) (hc:w.cell? ⟨Bs,0,none⟩=some (.slice A xs.length cap)) (hI:IntsAt w (.slice A xs.length cap) xs):
  Calls Tryz.prog 22 #[.func (.func 47) #[] #[.pointer (some ⟨Bs,0,none⟩)]] w fun e w'=>∃v,e= .returned v∧Sep w w' [intsR v (sortL xs)]:=by
 have hco:=Lh (collect_any hl hBs hc hI);clear hc hI;go_enter Tryz.func22,Tryz.ntmps22;go_wp2_with(go_at_call 45;refine hco.out.mono ?_;rintro e w1 ⟨v,rfl,hS⟩;have hS1:=Lh hS;clear hS);have hso:=Lh (sortints_any 0 hS1.out rfl hl);go_wp2_with(go_at_call 46;refine hso.out.mono ?_;rintro e w2 ⟨rfl,hS⟩;have hS2:=Lh hS;clear hS);go_ret;exact⟨v,rfl,hS2.out⟩
theorem bl_lt :∀(x y:List UInt8),Op.bytesLess x y=true↔x<y
 |[],[]=>by simp[Op.bytesLess]
 |[],_::_=>by simp[Op.bytesLess]
 |_::_,[]=>by simp[Op.bytesLess]
 |a::x,b::y=>by unfold Op.bytesLess;rw[List.cons_lt_cons_iff,←bl_lt x y];simp
def strsR (v:Value) (ps:List (List UInt8)):Asn:=.sl 9 1 v ps.length (ps.map strV)
def sortS (ps:List (List UInt8)):List (List UInt8):=ps.mergeSort fun x y=>decide (x≤y)
theorem sortS_perm (ps:List (List UInt8)):(sortS ps).Perm ps:=List.mergeSort_perm _ _
theorem sortS_le (ps:List (List UInt8)):(sortS ps).Pairwise fun x y=>x≤y:=by have h:=List.pairwise_mergeSort (le:=fun(x y:List UInt8)=>decide (x≤y)) (fun a b c h1 h2=>by simp only[decide_eq_true_eq]at h1 h2 ⊢;exact List.le_trans h1 h2) (fun a b=>by simp only[Bool.or_eq_true,decide_eq_true_eq];exact List.le_total a b) ps;exact h.imp fun h=>by simpa using h
theorem sortS_less {ps:List (List UInt8)} (h:ps.Nodup):(sortS ps).Pairwise fun x y=>Op.bytesLess x y=true:=by
 have h1:=sortS_le ps;have h2:(sortS ps).Nodup:=(sortS_perm ps).nodup_iff.2 h;refine(h1.and h2).imp fun {a b} ⟨h3,h4⟩=>?_
 rw[bl_lt];rcases List.le_total b a with h5|h5
 ·exact absurd (List.le_antisymm h3 h5) h4
 rcases Classical.em (b≤a)with h6|h6
 ·exact absurd (List.le_antisymm h3 h6) h4
 exact List.not_le.1 h6
theorem strs_holds {w0 w:World} {As:List Asn} {g n c:Nat} {ps:List (List UInt8)} (k:Nat) (h:Sep w0 w As) (hk:As[k]? =some (.sl 9 1 (.slice (some ⟨g,0,none⟩) n c) n (ps.map strV))) (hn:ps.length=n):Go.Sort.Holds Go.Proofs.encStr w g 0 ps.toArray:=fun j hj=>by
 have hj':j<ps.length:=by simpa using hj
 rw[Nat.zero_add];refine⟨?_,h.frozenAt k hk j⟩;rw[h.cellAt k hk j (by omega),getElem!_pos _ j hj];simp[hj'];rfl
theorem sortstrs_any {w0 w:World} {As:List Asn} {v:Value} {ps:List (List UInt8)} (k:Nat) (h:Sep w0 w As) (hk:As[k]? =some (strsR v ps)) (hl:ps.length≤1048576):
  Calls Tryz.prog 89 #[v] w fun e w'=>e= .returned (.tuple #[])∧Sep w0 w' (As.set k (strsR v (sortS ps))):=by
 have hlen:(sortS ps).length=ps.length:=(sortS_perm ps).length_eq;rcases Nat.eq_zero_or_pos ps.length with h0|hpos
 ·obtain rfl:ps=[]:=List.eq_nil_of_length_eq_zero h0;obtain⟨A,c,rfl,_⟩:=(h.rd k hk).shape;have hcon:=Go.Proofs.AnyM.slices_Sort_string_none Go.Proofs.Tryz.sortStrings A c w;change Calls Tryz.prog 89 _ _ _ at hcon;refine hcon.mono ?_;rintro e w' ⟨rfl,rfl⟩;refine⟨rfl,?_⟩;obtain⟨hlt,e⟩:=gF.1 hk;have e2:sortS []=[]:=List.eq_nil_of_length_eq_zero (by rw[hlen];rfl);rw[e2,←e,List.set_getElem_self];exact h
 obtain⟨g,c,rfl,_,hg,_⟩:=h.sl_form k hk hpos;have hH:=strs_holds k h hk rfl;have hcon:=Go.Proofs.AnyM.slices_Sort_string Go.Proofs.Tryz.sortStrings g 0 c ps w hH hg (by omega);change Calls Tryz.prog 89 _ _ _ at hcon;refine hcon.mono ?_;rintro e w' ⟨rfl,n,os,rfl⟩;refine⟨rfl,?_⟩;have hS:=h.sorted (α:=List UInt8) Go.Proofs.encStr k hk n (sortS ps).toArray (by simpa using hlen) os;have e1:strsR (.slice (some ⟨g,0,none⟩) ps.length c) (sortS ps)= .sl 9 1 (.slice (some ⟨g,0,none⟩) ps.length c) ps.length ((sortS ps).toArray.toList.map Go.Proofs.encStr):=by unfold strsR;rw[hlen];rfl
 rw[e1];exact hS
def Asn.keep (P:World→Prop):Asn:=
 ⟨fun w F=>F.Nodup∧(∀b,b∈F→b<w.heap.size)∧∀w',(∀b,b∈F→w'.heap[b]? =w.heap[b]?)→P w',
  fun w w' F ⟨h1,h2,h3⟩ hk=>⟨h1,fun b hb=>by have h4:=hk b hb;rw[Array.getElem?_eq_getElem (h2 b hb)]at h4;exact(Array.getElem?_eq_some_iff.1 h4).1,fun w'' h4=>h3 w'' fun b hb=>(h4 b hb).trans (hk b hb)⟩,
  fun w F ⟨h1,h2,_⟩=>⟨h1,h2⟩⟩
section
variable {w0 w w':World} {As X Y:List Asn}
theorem Foots.sep {Fs:List (List Nat)} (h:Foots w As Fs) (hn:Fs.flatten.Nodup):Sep {w with heap:=#[]} w As:=
 ⟨⟨rfl,rfl,rfl,by simp,fun j hj=>by simp at hj⟩,Fs,h,hn,fun b hb=>by simp⟩
theorem Sep.keep {P:World→Prop} (h:Sep w0 w (X++Y)) (hP:∀w0' w',Sep w0' w' X→P w'):Sep w0 w (Asn.keep P::Y):=h.same fun Fs hf hn=>by obtain⟨Gs,Hs,rfl,h6,h7⟩:=Foots.append.1 hf;rw[List.flatten_append]at hn;refine⟨Gs.flatten::Hs,⟨Gs.flatten,Hs,rfl,⟨(List.nodup_append.1 hn).1,fun b hb=>Foots.lt h6 b hb,fun w' hw'=>hP _ w' ((Foots.loc h6 hw').sep (List.nodup_append.1 hn).1)⟩,h7⟩,by simpa using hn,fun b hb=>by simpa using hb⟩
theorem Sep.kept {P:World→Prop} (i:Nat) (h:Sep w0 w As) (hi:As[i]? =some (Asn.keep P)):P w:=by obtain⟨F,⟨_,_,h3⟩,_⟩:=h.get i hi;exact h3 w fun _ _=>rfl
end
theorem info_byte :(Tryz.prog.info? 5).map (fun i=>(i.zero,i.size,i.bytes))=some (some (.int .u8 0),1,1):=by kernel_rfl
set_option maxRecDepth 100000 in
theorem clone_bytes_any {w:World} {v:Value} {n:Nat} (h:DataAt w v n) (hl:n≤1048576):
  Calls Tryz.prog 90 #[v] w fun e w'=>∃A c,e= .returned (.slice A n c)∧Sep w w' [Asn.keep fun w=>DataAt w (.slice A n c) n]:=by
 obtain⟨i0,hinf,hz0,hz1,hz2⟩:=info_parts info_byte;obtain⟨cs,hr,h1⟩:=h;obtain⟨A,c,rfl,_⟩:=hr.shape;have h':=Lh hr;have h1':=Lh h1;have re:=fun(W:World) (a:Option Addr) (n c:Nat)=>Lib.run_eql_slice_nil (P:=Tryz.prog) W 52 5 a n c 0 0 Tryz.underlying52
 cases A with
 |none=>
  have h0:n=0:=by
   rcases Nat.eq_zero_or_pos n with h0|h0
   ·exact h0
   obtain⟨_,_,_,e,_⟩:=hr.place h0 (by decide);cases e
  clear hr h1;subst h0;go_enter Tryz.func90,Tryz.ntmps90;go_wp2_with fail;go_ret;exact⟨none,0,rfl,Sep.keep (X:=[.sl 5 1 (.slice none 0 0) 0 []]) ((Sep.nil w).sl_nil _ _) fun w0' w' h9=>⟨[],h9.rd 0 rfl,by simp⟩⟩
 |some ad=>clear hr h1;have hS:=Lh ((Sep.nil w).lit_empty 5 1);go_enter Tryz.func90,Tryz.ntmps90;go_wp2_with(at_builtin;refine wpList_append_any_sep 0 rfl _ _ 52 rfl 5 i0 (.int .u8 0) 1 1 Tryz.underlying52 hinf hz0 hz1 hz2 rfl (by decide) hS.out _ 0 [] rfl rfl (.slice (some ad) n c) n cs rfl (h'.out.below hS.out.below) h1'.out (by unfold maxLen;omega) (by omega) ?_);intro v' w' hS2 hsz;(have hS3:Sep w w' [.sl 5 1 v' n cs]:=by simpa using hS2);obtain⟨A2,c2,rfl,_⟩:=(hS3.rd 0 rfl).shape;have hS3':=Lh hS3;clear hS2 hS3 hS hsz;go_wp2_with fail;go_ret;exact⟨A2,c2,rfl,Sep.keep (X:=[.sl 5 1 (.slice A2 n c2) n cs]) hS3'.out fun w0' w' h9=>⟨cs,h9.rd 0 rfl,h1'.out⟩⟩
end Go.Proofs.YtimkjnbihlgbiaaGreat
