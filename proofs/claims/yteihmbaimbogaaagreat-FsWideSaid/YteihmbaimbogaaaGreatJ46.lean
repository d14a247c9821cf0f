/- FxF, FxG, FvV, FvW, FvX, FxH, FxJ, laid together. -/
import Derived.Test.YteihmbaimbogaaaGreatJ45
namespace Go.Proofs.YteihmbaimbogaaaGreat
set_option linter.unusedVariables false
set_option linter.unusedSimpArgs false
def nameW (i:Nat):List UInt8:=[102,UInt8.ofNat (48+i/100),UInt8.ofNat (48+i/10%10),UInt8.ofNat (48+i%10)]
def headW (deep:Bool):List UInt8:=if deep=true then [100,47]else []
def keyW (deep:Bool):Key:=if deep=true then [[100]]else []
def decW (l:List UInt8):Nat:=((l.getD 1 0).toNat-48)*100+((l.getD 2 0).toNat-48)*10+((l.getD 3 0).toNat-48)
set_option maxRecDepth 100000 in
theorem nameW_all :∀i,i<200→decW (nameW i)=i∧(∀deep,plainE (headW deep++nameW i)=0∧splitB (headW deep++nameW i)=keyW deep++[nameW i])∧nameW i≤nameW (i+1):=by decide+kernel
theorem nameW_inj {i j:Nat} (hi:i<200) (hj:j<200) (e:nameW i=nameW j):i=j:=by rw[←(nameW_all i hi).1,e,(nameW_all j hj).1]
def dirW0 (deep:Bool):List TN:=if deep=true then [⟨[100], -1,448⟩]else []
def wideL (deep:Bool) (n j:Nat):List TN:=(List.range (n-j)).map fun k=>⟨headW deep++nameW (n-1-k),k,0⟩
def wideN (deep:Bool) (n j:Nat):List TN:=dirW0 deep++wideL deep n j
theorem wideN_step (deep:Bool) {n j:Nat} (h:j<n):wideN deep n j=wideN deep n (j+1)++[⟨headW deep++nameW j,((n-(j+1):Nat):Int),0⟩]:=by
 unfold wideN wideL;have e:n-j=n-(j+1)+1:=by omega
 rw[e,List.range_succ,List.map_append,List.map_singleton,←List.append_assoc];have e2:n-1-(n-(j+1))=j:=by omega
 rw[e2]
theorem wideN_end (deep:Bool) (n:Nat):wideN deep n n=dirW0 deep:=by unfold wideN wideL;rw[Nat.sub_self];simp
theorem wideL_mem {deep:Bool} {n j:Nat} {m:TN} (h:m∈wideL deep n j):∃i,j≤i∧i<n∧m.path=headW deep++nameW i∧m.file=((n-1-i:Nat):Int):=by
 obtain⟨k,hk,e⟩:=List.mem_map.1 h;rw[List.mem_range]at hk;refine⟨n-1-k,by omega,by omega,by rw[←e],?_⟩;rw[←e];show(k:Int)=_
 omega
theorem keyW_ne (deep:Bool) (i:Nat):keyW deep++[nameW i]≠[[100]]:=by intro e;have:=congrArg (fun l:Key=>l.getLastD []) e;simp only[List.getLastD_concat]at this;have h2:=congrArg List.length this;simp[nameW]at h2
theorem dirW0_mem {deep:Bool} {m:TN} (h:m∈dirW0 deep):deep=true∧m=⟨[100], -1,448⟩:=by
 unfold dirW0 at h;split at h
 ·exact⟨by assumption,by simpa using h⟩
 cases h
section
variable {deep:Bool} {n j:Nat}
theorem keyN_wide (hn:n≤200) {m:TN} (h:m∈wideL deep n j):∃i,j≤i∧i<n∧keyN m=keyW deep++[nameW i]∧m.file=((n-1-i:Nat):Int):=by obtain⟨i,h1,h2,h3,h4⟩:=wideL_mem h;refine⟨i,h1,h2,?_,h4⟩;unfold keyN;rw[h3];exact((nameW_all i (by omega)).2.1 deep).2
theorem node_none (hn:n≤200) {i:Nat} (hi:i<j) (hj:i<n):nodeK (wideN deep n j) (keyW deep++[nameW i])=none:=by
 unfold nodeK;rw[List.find?_eq_none];intro m hm he;have he':keyN m=keyW deep++[nameW i]:=by simpa using he
 rcases List.mem_append.1 hm with hm|hm
 ·obtain⟨_,rfl⟩:=dirW0_mem hm;exact keyW_ne deep i (by rw[←he'];rfl)
 obtain⟨k,h1,h2,h3,_⟩:=keyN_wide hn hm;rw[h3]at he';have:=List.append_cancel_left he';have:=nameW_inj (i:=k) (j:=i) (by omega) (by omega) (by simpa using this);omega
theorem node_some (hn:n≤200) (hj:j<n):nodeK (wideN deep n j) (keyW deep++[nameW j])=some ⟨headW deep++nameW j,((n-(j+1):Nat):Int),0⟩:=by have h1:=node_none (deep:=deep) (j:=j+1) hn (i:=j) (by omega) hj;unfold nodeK at h1 ⊢;rw[wideN_step deep hj,List.find?_append,h1];simp only[Option.none_or,List.find?_cons,List.find?_nil];have:keyN ⟨headW deep++nameW j,((n-(j+1):Nat):Int),0⟩=keyW deep++[nameW j]:=((nameW_all j (by omega)).2.1 deep).2;rw[this];simp
theorem at_wide (i:Nat):atT (wideN deep n j) (keyW deep++[nameW i])= .ok (nodeK (wideN deep n j) (keyW deep++[nameW i])):=by
 unfold atT;rw[List.dropLast_concat];cases deep with
 |false=>rfl
 |true=>rfl
theorem del_wide (hn:n≤200) (hj:j<n):delT (wideN deep n j) (keyW deep++[nameW j])=wideN deep n (j+1):=by
 have h1:=node_none (deep:=deep) (j:=j+1) hn (i:=j) (by omega) hj;unfold delT;rw[wideN_step deep hj,List.filter_append];have e1:(wideN deep n (j+1)).filter (fun m=> !(keyN m==keyW deep++[nameW j]))=wideN deep n (j+1):=by rw[List.filter_eq_self];intro m hm;have:=List.find?_eq_none.1 h1 m hm;simpa using this
 have hk:keyN ⟨headW deep++nameW j,((n-(j+1):Nat):Int),0⟩=keyW deep++[nameW j]:=((nameW_all j (by omega)).2.1 deep).2;rw[e1,List.filter_cons,hk,if_neg (by simp)];simp
end
section
variable {deep:Bool} {n j:Nat}
theorem wide_mem {m:TN} (h:m∈wideN deep n j):(deep=true∧m=⟨[100], -1,448⟩)∨m∈wideL deep n j:=by
 rcases List.mem_append.1 h with h|h
 ·exact .inl (dirW0_mem h)
 exact .inr h
theorem wide_files :∀(k:Nat) {j:Nat},n-j=k→j≤n→filesN (wideN deep n j)=(List.range k).map fun i:Nat=>(i:Int)
 |0,j,h,hj=>by(have:j=n:=by omega);rw[this,wideN_end];cases deep<;>rfl
 |k+1,j,h,hj=>by
  (have hlt:j<n:=by omega);rw[wideN_step deep hlt,filesN_new (show((n-(j+1):Nat):Int)≠ -1 by omega) fun m hm e=>?_,wide_files k (j:=j+1) (by omega) (by omega),List.range_succ,List.map_append,List.map_singleton]
  ·(have e2:n-(j+1)=k:=by omega);rw[e2]
  have e':m.file=((n-(j+1):Nat):Int):=e;rcases wide_mem hm with⟨_,rfl⟩|hm
  ·have e3:(-1:Int)=((n-(j+1):Nat):Int):=e';omega
  obtain⟨i,h1,h2,_,h4⟩:=wideL_mem hm;rw[h4]at e';omega
theorem wide_dirs :dirsN (wideN deep n j)=dirW0 deep:=by
 unfold wideN dirsN;rw[List.filter_append];have e1:(wideL deep n j).filter (fun m=>decide (m.file= -1))=[]:=by rw[List.filter_eq_nil_iff];intro m hm;obtain⟨i,_,_,_,h4⟩:=wideL_mem hm;rw[h4];simp only[decide_eq_true_eq];omega
 have e2:(dirW0 deep).filter (fun m=>decide (m.file= -1))=dirW0 deep:=by cases deep<;>rfl
 rw[e1,e2,List.append_nil]
theorem wide_kids (hn:n≤200):kidsN (wideN deep n j) (keyW deep)=wideL deep n j:=by
 unfold wideN kidsN;rw[List.filter_append];have e1:(wideL deep n j).filter (fun m=>(keyN m).dropLast==keyW deep)=wideL deep n j:=by rw[List.filter_eq_self];intro m hm;obtain⟨i,_,_,h3,_⟩:=keyN_wide hn hm;rw[h3,List.dropLast_concat];simp
 have e2:(dirW0 deep).filter (fun m=>(keyN m).dropLast==keyW deep)=[]:=by cases deep<;>rfl
 rw[e1,e2,List.nil_append]
theorem wide_kids0 (hn:n≤200):kidsN (wideN true n j) []=dirW0 true:=by
 unfold wideN kidsN;rw[List.filter_append];have e1:(wideL true n j).filter (fun m=>(keyN m).dropLast==[])=[]:=by rw[List.filter_eq_nil_iff];intro m hm;obtain⟨i,_,_,h3,_⟩:=keyN_wide hn hm;rw[h3,List.dropLast_concat];decide
 have e2:(dirW0 true).filter (fun m=>(keyN m).dropLast==[])=dirW0 true:=rfl;rw[e1,e2,List.append_nil]
theorem wideL_len :(wideL deep n j).length=n-j:=by unfold wideL;rw[List.length_map,List.length_range]
theorem wide_len :(wideN deep n j).length=(if deep=true then 1 else 0)+(n-j):=by unfold wideN;rw[List.length_append,wideL_len];cases deep<;>rfl
def NoBytes (fs:List FT):Prop:=∀k,lenF fs k=0
theorem NoBytes.snoc {fs:List FT} (h:NoBytes fs) (m:Int):NoBytes (fs++[⟨m,[]⟩]):=fun k=>by
 have h1:=h k;unfold lenF at h1 ⊢;rw[List.getElem?_append];split
 ·exact h1
 cases hk:([⟨m,[]⟩]:List FT)[k.toNat-fs.length]? with
 |none=>rfl
 |some x=>have:=gG hk;rw[List.mem_singleton]at this;rw[this];rfl
theorem wide_B (hn:n≤200) (hj:j≤n) {fs:List FT} (hf:NoBytes fs):treeB (wideN deep n j) fs=(if deep=true then 1 else 0)+wghB 1 (n-j):=by
 unfold treeB;have e3:((filesN (wideN deep n j)).map fun k=>wghB 2 (lenF fs k)).sum=0:=sum_zero fun k _=>by rw[hf k];rfl
 rw[wide_dirs,e3];have hk:kidsLen (wideN deep n j) (keyW deep)=n-j:=by unfold kidsLen;rw[wide_kids hn,wideL_len]
 cases deep with
 |false=>have hk':kidsLen (wideN false n j) []=n-j:=hk;rw[hk'];simp[dirW0]
 |true=>(have hk0:kidsLen (wideN true n j) []=1:=by unfold kidsLen;rw[wide_kids0 hn];rfl);have hk':kidsLen (wideN true n j) [[100]]=n-j:=hk;rw[hk0];(show wghB 1 1+(wghB 1 (kidsLen (wideN true n j) [[100]])+0)+0=_);rw[hk'];(have:wghB 1 1=1:=by decide);rw[this];simp
theorem wide_I (hj:j≤n):treeI (wideN deep n j)=1+(if deep=true then 1 else 0)+(n-j:Nat):=by unfold treeI;rw[wide_dirs,wide_files _ rfl hj,List.length_map,List.length_range];cases deep<;>simp[dirW0]
theorem wide_fits (hn:n≤200) (hj:j≤n) {fs:List FT} (hf:NoBytes fs):fitsT 431 260 (wideN deep n j) fs=true:=by
 unfold fitsT;rw[wide_B hn hj hf,wide_I hj,Bool.and_eq_true,decide_eq_true_eq,decide_eq_true_eq];have h1:roomB 431 260=300:=by decide
 have h2:wghB 1 (n-j)=max 1 (((n-j+15)/16:Nat):Int):=rfl;rw[h1,h2];split<;>omega
theorem wide_put (hn:n≤200) (hj:j<n) {fs:List FT} (hf:NoBytes fs) (hl:fs.length=n-(j+1)):
  putX 431 260 (wideN deep n (j+1)) fs (headW deep++nameW j) []=⟨0,wideN deep n j,fs++[⟨384,[]⟩]⟩:=by
 obtain⟨h1,h2⟩:=(nameW_all j (by omega)).2.1 deep;have hno:=node_none (deep:=deep) (j:=j+1) hn (i:=j) (by omega) hj;have hT:putT (wideN deep n (j+1)) (headW deep++nameW j) ([]:List UInt8).length=0:=by unfold putT;rw[if_pos h1,if_neg (by decide),h2,at_wide,hno];simp only;rw[if_pos];rw[wide_len];split<;>omega
 have hN:putNs (wideN deep n (j+1)) fs (headW deep++nameW j)=wideN deep n j:=by unfold putNs;rw[h2,hno];simp only;unfold newNs;rw[if_neg (by decide),wideN_step deep hj,hl]
 have hF:putFs (wideN deep n (j+1)) fs (headW deep++nameW j) []=fs++[⟨384,[]⟩]:=by unfold putFs;rw[h2,hno];simp only;unfold newFs;rw[if_neg (by decide)];rfl
 unfold putX;rw[if_pos hT,hN,hF];unfold roomX;simp only;rw[if_pos (wide_fits hn (by omega) (hf.snoc 384))]
theorem wide_del (hn:n≤200) (hj:j<n) {fs:List FT} (hf:NoBytes fs):doX 431 260 (wideN deep n j) fs 5 (headW deep++nameW j) [] 0 0 0 []=⟨0,wideN deep n (j+1),fs⟩:=by
 obtain⟨h1,h2⟩:=(nameW_all j (by omega)).2.1 deep;have hv:=plainE_ok h1;have hne:headW deep++nameW j≠[]:=by simp[nameW]
 have hck:ckP 5 (headW deep++nameW j) [] 0 0 0 ([]:List UInt8).length=0:=by unfold ckP checkB;have e1:(fieldsP 5).2.2=true:=rfl;have e2:(fieldsP 5).1=false:=rfl;have e3:(fieldsP 5).2.1=false:=rfl;rw[e1,e2,e3,if_neg (by decide),if_neg (by decide),if_neg (by simp),if_neg (by simp[hne]),if_neg (by simp[hv]),if_pos (by decide)]
 have hA:actT (wideN deep n j) fs 5 (headW deep++nameW j) [] (0:Int).toNat []= .ok (wideN deep n (j+1),fs):=by(have hfil:filT (wideN deep n j) (splitB (headW deep++nameW j))= .ok ⟨headW deep++nameW j,((n-(j+1):Nat):Int),0⟩:=by unfold filT presT;rw[h2,at_wide,node_some hn hj];simp only;rw[if_neg (show ¬((n-(j+1):Nat):Int)= -1 by omega)]);unfold actT;rw[if_neg (by decide),if_neg (by decide),if_neg (by decide),if_neg (by decide),if_pos rfl,hfil];simp only;rw[h2,del_wide hn hj]
 unfold doX;rw[if_pos hck,if_neg (by decide),hA];unfold roomX;simp only;rw[if_pos (wide_fits hn (by omega) hf)]
theorem names_up :∀(k:Nat),k≤200→((List.range k).map nameW).Pairwise fun x y=>x≤y:=fun k hk=>by
 rw[List.pairwise_map];have key:∀(d i:Nat),i+d<200→nameW i≤nameW (i+d):=fun d=>by
  induction d with
  |zero=>exact fun i _=>List.le_refl _
  |succ d ih=>intro i h;exact List.le_trans (ih i (by omega)) (nameW_all (i+d) (by omega)).2.2
 refine List.Pairwise.imp_of_mem (fun {a b} ha hb hab=>?_) (List.pairwise_lt_range (n:=k));rw[List.mem_range]at ha hb;have:=key (b-a) a (by omega);rw[show a+(b-a)=b by omega]at this;exact this
theorem wide_list (hn:n≤200) {l:List (List UInt8)} (h1:l.Perm (lsN (wideN deep n 0) (keyW deep).flatten)) (h2:l.Pairwise fun x y=>x≤y):l=(List.range n).map nameW:=by
 have hX:lsX (wideN deep n 0) (keyW deep).flatten=0:=by cases deep<;>rfl
 have hK:lsK (keyW deep).flatten=keyW deep:=by cases deep<;>rfl
 have e1:lsN (wideN deep n 0) (keyW deep).flatten=(List.range n).map fun k=>nameW (n-1-k):=by unfold lsN;rw[if_pos hX,hK,wide_kids hn];unfold wideL;rw[List.map_map,Nat.sub_zero];(refine List.map_congr_left fun k hk=>?_);rw[List.mem_range]at hk;(show((splitB (headW deep++nameW (n-1-k))).getLastD [])=_);rw[((nameW_all (n-1-k) (by omega)).2.1 deep).2];simp
 have e2:((List.range n).map fun k=>nameW (n-1-k)).Perm ((List.range n).map nameW):=by(have:((List.range n).map fun k=>nameW (n-1-k))=((List.range n).map nameW).reverse:=by(refine List.ext_getElem (by simp) fun k g1 g2=>?_);simp only[List.getElem_map,List.getElem_range,List.getElem_reverse,List.length_map,List.length_range]);rw[this];exact List.reverse_perm _
 rw[e1]at h1;exact(h1.trans e2).eq_of_pairwise (fun a b _ _ h3 h4=>List.le_antisymm h3 h4) h2 (names_up n hn)
end
open Go.RowKit Go.Shelf
attribute [local go_sem] Oper.semAt_some
end Go.Proofs.YteihmbaimbogaaaGreat
namespace Go.Proofs.YteihmbaimbogaaaGreat
open Go.RowKit
set_option linter.unusedVariables false
set_option linter.unusedSimpArgs false
section
variable {w0 w:World} {R:List Asn}
theorem Sep.lit_bytes (h:Sep w0 w R) (bs:List UInt8) (hl:bs.length≤maxLen):Sep w0 (w.alloc (.cells (bs.map byt).toArray 5)) (bytesR (.slice (some ⟨w.heap.size,0,none⟩) bs.length bs.length) bs::R):=by have hown:=World.ownsRow_lit (base:=0) (e:=5) (size:=1) w (bs.map byt).toArray bs.length (Nat.zero_le _) hl (by simp);exact h.new (F:=[w.heap.size]) ((Below.refl _ _).alloc (Nat.le_refl _) _) ⟨hown,rfl⟩ (by simp)
set_option maxRecDepth 100000 in
set_option maxHeartbeats 2000000 in
theorem name8_any {i:Nat} (hi:i<200) (h:Sep w0 w R):Calls Tryz.prog 22 #[.int .i64 i] w fun e w'=>e= .returned (strV (nameW i))∧Sep w0 w' R:=by
 have hS:=h.lit_bytes (nameW i) (by show 4≤maxLen;decide);have hcv:=conv_bytesV (hS.rd 0 rfl:BytesAt _ _ _);have b1:(UInt8.ofNat (48+i/100)).toNat=48+i/100:=by rw[UInt8.toNat_ofNat'];omega
 have b2:(UInt8.ofNat (48+i/10%10)).toNat=48+i/10%10:=by rw[UInt8.toNat_ofNat'];omega
 have b3:(UInt8.ofNat (48+i%10)).toNat=48+i%10:=by rw[UInt8.toNat_ofNat'];omega
 obtain⟨x1,h1⟩:∃x:Nat,x=i/100:=⟨_,rfl⟩;obtain⟨x2,h2⟩:∃x:Nat,x=i/10%10:=⟨_,rfl⟩;obtain⟨x3,h3⟩:∃x:Nat,x=i%10:=⟨_,rfl⟩;have e1:((nameW i).map byt).toArray=#[.int .u8 102,.int .u8 (48+(x1:Int)),.int .u8 (48+(x2:Int)),.int .u8 (48+(x3:Int))]:=by unfold nameW byt;simp only[List.map_cons,List.map_nil,←h1,←h2,←h3];rw[←h1]at b1;rw[←h2]at b2;rw[←h3]at b3;rw[b1,b2,b3,Int.natCast_add,Int.natCast_add,Int.natCast_add];rfl
 have e2:(nameW i).length=4:=rfl;rw[e1,e2]at hcv hS;have q1:Int.tdiv (i:Int) 100=x1:=by rw[Int.tdiv_eq_ediv_of_nonneg (by omega)];omega
 have q2:Int.tdiv (i:Int) 10=(i/10:Nat):=by rw[Int.tdiv_eq_ediv_of_nonneg (by omega)];omega
 have q4:Int.tmod ((i/10:Nat):Int) 10=x2:=by rw[Int.tmod_eq_emod_of_nonneg (by omega)];omega
 have q3:Int.tmod (i:Int) 10=x3:=by rw[Int.tmod_eq_emod_of_nonneg (by omega)];omega
 obtain⟨y,hy⟩:∃y:Nat,y=i/10:=⟨_,rfl⟩;rw[←hy]at q2 q4;have r0:(i:Int)<200:=by omega
 have r1:(x1:Int)≤2:=by omega
 have r2:(x2:Int)≤9:=by omega
 have r3:(x3:Int)≤9:=by omega
 have r4:(y:Int)≤20:=by omega
 have hS':=Lh hS;clear b1 b2 b3 h1 h2 h3 hy e1 e2 hS h hi;go_enter Tryz.func22,Tryz.ntmps22;go_wp2_with fail;go_ret;exact⟨rfl,hS'.out.drop 1⟩
end
theorem run_cself {a b:Int} (ha:SmallI a) (hb:SmallI b) (W:World):(binOp .neq 44 (cplx a b) (cplx a b)).run Tryz.prog W= .ok (.bool false) W:=by have e1:FloatKind.f64.format.order (fI a) (fI a)=some (compare a a):=order_fI ha ha;have e2:FloatKind.f64.format.order (fI b) (fI b)=some (compare b b):=order_fI hb hb;have e3:compare a a= .eq:=Int.compare_eq_eq.2 rfl;have e4:compare b b= .eq:=Int.compare_eq_eq.2 rfl;rw[e3]at e1;rw[e4]at e2;unfold cplx;simp[binOp,go_sem,Op.complexOp,Op.Complex.cmp,Op.floatCmp,asBool,e1,e2]
theorem run_csame {a b:Int} (ha:SmallI a) (hb:SmallI b) (W:World):(binOp .eql 44 (cplx a b) (cplx a b)).run Tryz.prog W= .ok (.bool true) W:=by have e1:FloatKind.f64.format.order (fI a) (fI a)=some (compare a a):=order_fI ha ha;have e2:FloatKind.f64.format.order (fI b) (fI b)=some (compare b b):=order_fI hb hb;have e3:compare a a= .eq:=Int.compare_eq_eq.2 rfl;have e4:compare b b= .eq:=Int.compare_eq_eq.2 rfl;rw[e3]at e1;rw[e4]at e2;unfold cplx;simp[binOp,go_sem,Op.complexOp,Op.Complex.cmp,Op.floatCmp,asBool,e1,e2]
theorem run_cguard2 {a b:Int} (x y:Operand) (W:World):(eqGuard .eql 44 x y (cplx a b) (cplx a b)).run Tryz.prog W= .ok () W:=by
 unfold cplx
 kernel_rfl
theorem run_cguard {a b:Int} (x y:Operand) (W:World):(eqGuard .neq 44 x y (cplx a b) (cplx a b)).run Tryz.prog W= .ok () W:=by
 unfold cplx
 kernel_rfl
end Go.Proofs.YteihmbaimbogaaaGreat
