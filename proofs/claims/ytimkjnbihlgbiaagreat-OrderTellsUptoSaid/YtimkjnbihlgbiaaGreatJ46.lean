/- OrderDP, DocN, laid together. -/
import Derived.Test.YtimkjnbihlgbiaaGreatJ33
import Derived.Test.YtimkjnbihlgbiaaGreatJ34
import Derived.Test.YtimkjnbihlgbiaaGreatJ35
import Derived.Test.YtimkjnbihlgbiaaGreatJ36
import Derived.Test.YtimkjnbihlgbiaaGreatJ44
import Derived.Test.YtimkjnbihlgbiaaGreatJ45
namespace Go.Proofs.YtimkjnbihlgbiaaGreat
open Go.RowKit
set_option linter.unusedVariables false
set_option linter.unusedSimpArgs false
def rdyB (xss:List (List Int)) (out:List Int) (i:Nat):Bool:= !(decide ((i:Int)∈out))&&(xss.getD i []).all fun k=>decide (k∈out)
def rdyL (xss:List (List Int)) (out:List Int) (n:Nat):List Int:=((List.range n).filter (rdyB xss out)).map fun(v:Nat)=>(v:Int)
def docO (thr:Bool) (gr:TR→Int→Int×Int) (nx:TR→Int→TR) (xss:List (List Int)):Nat→TR→List Int→List Int
 |0,_,out=>out
 |f+1,T,out=>docO thr gr nx xss f (stepG thr nx T ((rdyL xss out xss.length).getD (pickG thr gr T (rdyL xss out xss.length)) 0)) (out++[(rdyL xss out xss.length).getD (pickG thr gr T (rdyL xss out xss.length)) 0])
theorem rdyB_iff {xss:List (List Int)} {out:List Int} {i:Nat}:rdyB xss out i=true↔(i:Int)∉out∧∀k∈xss.getD i [],k∈out:=by unfold rdyB;simp
theorem rdyL_mem {xss:List (List Int)} {out:List Int} {n:Nat} {x:Int}:x∈rdyL xss out n↔∃i:Nat,i<n∧x=(i:Int)∧(i:Int)∉out∧∀k∈xss.getD i [],k∈out:=by
 unfold rdyL;rw[List.mem_map];constructor
 ·rintro⟨i,hi,rfl⟩;rw[List.mem_filter,List.mem_range,rdyB_iff]at hi;exact⟨i,hi.1,rfl,hi.2⟩
 rintro⟨i,h1,rfl,h2⟩;exact⟨i,by rw[List.mem_filter,List.mem_range,rdyB_iff];exact⟨h1,h2⟩,rfl⟩
theorem rdyL_up (xss:List (List Int)) (out:List Int) (n:Nat):(rdyL xss out n).Pairwise (· < ·):=by unfold rdyL;rw[List.pairwise_map];exact(List.Pairwise.filter _ List.pairwise_lt_range).imp fun h=>by omega
theorem rdyL_len (xss:List (List Int)) (out:List Int) (n:Nat):(rdyL xss out n).length≤n:=by unfold rdyL;rw[List.length_map];have:=List.length_filter_le (rdyB xss out) (List.range n);rw[List.length_range]at this;exact this
theorem rdyL_succ (xss:List (List Int)) (out:List Int) (n:Nat):rdyL xss out (n+1)=rdyL xss out n++if rdyB xss out n=true then [(n:Int)]else []:=by unfold rdyL;rw[List.range_succ,List.filter_append,List.map_append];congr 1;rw[List.filter_cons];split<;>rfl
theorem countP_lt {α:Type} {p q:α→Bool}:∀ {l:List α},(∀x∈l,p x=true→q x=true)→(∃x∈l,q x=true∧p x=false)→l.countP p<l.countP q
 |[],_,h=>by obtain⟨x,hx,_⟩:=h;cases hx
 |a::l,h1,h2=>by
  (have hle:l.countP p≤l.countP q:=List.countP_mono_left fun x hx=>h1 x (List.mem_cons_of_mem _ hx));obtain⟨x,hx,hq,hp⟩:=h2;rw[List.countP_cons,List.countP_cons];rcases List.mem_cons.1 hx with rfl|hx
  ·rw[hq,hp];simp;omega
  have:=countP_lt (l:=l) (fun x hx=>h1 x (List.mem_cons_of_mem _ hx)) ⟨x,hx,hq,hp⟩;have ha:=h1 a (by simp);cases hpa:p a with
  |true=>rw[ha hpa];simp;omega
  |false=>cases q a<;>simp<;>omega
theorem no_round {xss:List (List Int)} (hx:refused xss=0) (hr:roundRows xss=[]) {v:Nat} (hv:v<xss.length):¬RP xss v v:=by
 rw[roundRows_ok hx,round_rows,List.map_eq_nil_iff]at hr;rintro⟨u,hu,hR⟩;have hp:=partsRep_isRep xss;obtain⟨h1,⟨h3,h4⟩,_⟩:=hp v hv;have:partsRep xss v∈roundL xss:=by
  refine roundL_iff.2 ⟨h1,hp.idem hv,?_⟩;generalize partsRep xss v=r at h3 h4;cases h3 with
  |refl=>exact⟨u,hu,hR⟩
  |step e h5=>exact⟨_,e,h5.trans h4⟩
 rw[hr]at this;cases this
open Classical in
noncomputable def reachN (xss:List (List Int)) (v:Nat):Nat:=(List.range xss.length).countP fun u=>decide (Tarjan.Reach (adjOf xss) v u)
open Classical in
theorem reachN_lt {xss:List (List Int)} (hx:refused xss=0) (hr:roundRows xss=[]) {v u:Nat} (hv:v<xss.length) (hu:u∈adjOf xss v):reachN xss u<reachN xss v:=by
 unfold reachN;refine countP_lt (fun x _ h=>?_) ⟨v,List.mem_range.2 hv,?_,?_⟩
 ·rw[decide_eq_true_iff]at h ⊢;exact .step hu h
 ·rw[decide_eq_true_iff];exact .refl _
 rw[decide_eq_false_iff_not];exact fun h=>no_round hx hr hv ⟨u,hu,h⟩
theorem rdyL_ne {xss:List (List Int)} (hx:refused xss=0) (hr:roundRows xss=[]) {out:List Int} (hl:out.length<xss.length):rdyL xss out xss.length≠[]:=by
 intro he;have hno:∀i,i<xss.length→(i:Int)∉out→∃u∈adjOf xss i,(u:Int)∉out:=by
  intro i hi hn;(refine Classical.byContradiction fun hc=>?_);have:(i:Int)∈rdyL xss out xss.length:=by
   refine rdyL_mem.2 ⟨i,hi,rfl,hn,fun k hk=>?_⟩;refine Classical.byContradiction fun hk2=>hc ⟨k.toNat,?_,?_⟩
   ·unfold adjOf;exact List.mem_map_of_mem hk
   (have hk0:0≤k:=by obtain⟨_,_,hg⟩:=refused_zero hx;(have e:xss.getD i []=xss[i]:=by rw[gH,gE hi];rfl);rw[e]at hk;obtain⟨j,hj,rfl⟩:=List.mem_iff_getElem.1 hk;exact(hg i hi j hj).1);rw[Int.toNat_of_nonneg hk0];exact hk2
  rw[he]at this;cases this
 have hall:∀n i,reachN xss i≤n→i<xss.length→(i:Int)∈out:=by
  intro n
  induction n with
  |zero=>intro i hi hil;(refine Classical.byContradiction fun hn=>?_);obtain⟨u,hu,_⟩:=hno i hil hn;have:=reachN_lt hx hr hil hu;omega
  |succ n ih=>intro i hi hil;(refine Classical.byContradiction fun hn=>?_);obtain⟨u,hu,hun⟩:=hno i hil hn;have:=reachN_lt hx hr hil hu;exact hun (ih u (by omega) (adj_lt hx hil hu))
 have hsub:(List.range xss.length).map (fun(v:Nat)=>(v:Int)) ⊆ out:=by intro x hx2;obtain⟨i,hi,rfl⟩:=List.mem_map.1 hx2;exact hall _ i (Nat.le_refl _) (List.mem_range.1 hi)
 have hnd:((List.range xss.length).map (fun(v:Nat)=>(v:Int))).Nodup:=by refine List.pairwise_map.2 (List.nodup_range.imp fun h=>?_);omega
 have:=hnd.length_le_of_subset hsub;rw[List.length_map,List.length_range]at this;omega
theorem addU_at (i:Int) {n:Nat}:∀(ks:List Int) (us:List (List Int)),us.length=n→ks.Nodup→(∀k∈ks,0≤k∧k.toNat<n)→∀a:Nat,a<n→(addU i ks us).getD a []=us.getD a []++if(a:Int)∈ks then [i]else []
 |[],us,_,_,_,a,_=>by simp[addU]
 |k::ks,us,hl,hn,hk,a,ha=>by
  obtain⟨h1,h2⟩:=List.nodup_cons.1 hn;obtain⟨k0,k1⟩:=hk k (by simp);unfold addU;rw[addU_at i ks _ (by rw[List.length_set];exact hl) h2 (fun x hx=>hk x (List.mem_cons_of_mem _ hx)) a ha];by_cases e:(a:Int)=k
  ·subst e;rw[if_neg h1,if_pos (by simp),List.append_nil,gH,Int.toNat_natCast,List.getElem?_set_self (by omega)];simp
  (have e2:k.toNat≠a:=by omega);(have e3:((a:Int)∈k::ks)↔(a:Int)∈ks:=by simp[e]);rw[gH,List.getElem?_set_ne e2,←gH];congr 1;by_cases h:(a:Int)∈ks
  ·rw[if_pos h,if_pos (e3.2 h)]
  rw[if_neg h,if_neg fun h9=>h (e3.1 h9)]
def useL (xss:List (List Int)) (a:Int) (i:Nat):List Int:=((List.range i).filter fun k=>decide (a∈normL (xss.getD k []))).map fun(v:Nat)=>(v:Int)
theorem usersQ_at {xss:List (List Int)} (hx:refused xss=0) {a:Nat} (ha:a<xss.length):∀i,i≤xss.length→(usersQ xss i).getD a []=useL xss a i
 |0,_=>by unfold usersQ useL;rw[gH,List.getElem?_replicate,if_pos ha];rfl
 |i+1,hi=>by
  unfold usersQ;have hgood:∀k∈normL (xss.getD i []),0≤k∧k.toNat<xss.length:=fun k hk=>by
   rw[normL_mem,gH,gE (by omega)]at hk;obtain⟨j,hj,rfl⟩:=List.mem_iff_getElem.1 hk;have h9:=(refused_zero hx).2.2 i (by omega) j hj;constructor
   ·exact h9.1
   have:=h9.2;(show(xss[i][j]).toNat<_);omega
  rw[addU_at (i:Int) _ _ (usersQ_len xss i) ((normL_up _).imp fun h=>by omega) hgood a ha,usersQ_at hx ha i (by omega)];unfold useL;rw[List.range_succ,List.filter_append,List.map_append];congr 1;rw[List.filter_cons];by_cases h:(a:Int)∈normL (xss.getD i [])
  ·rw[if_pos h,if_pos (by simpa using h)];rfl
  rw[if_neg h,if_neg (by simpa using h)];rfl
theorem useL_mem {xss:List (List Int)} {a x:Int} {i:Nat}:x∈useL xss a i↔∃k:Nat,k<i∧x=(k:Int)∧a∈normL (xss.getD k []):=by
 unfold useL;rw[List.mem_map];constructor
 ·rintro⟨k,hk,rfl⟩;rw[List.mem_filter,List.mem_range,decide_eq_true_iff]at hk;exact⟨k,hk.1,rfl,hk.2⟩
 rintro⟨k,h1,rfl,h2⟩;exact⟨k,by rw[List.mem_filter,List.mem_range,decide_eq_true_iff];exact⟨h1,h2⟩,rfl⟩
theorem useL_up (xss:List (List Int)) (a:Int) (i:Nat):(useL xss a i).Pairwise (· < ·):=by unfold useL;rw[List.pairwise_map];exact(List.Pairwise.filter _ List.pairwise_lt_range).imp fun h=>by omega
theorem useL_len (xss:List (List Int)) (a:Int) (i:Nat):(useL xss a i).length≤i:=by unfold useL;rw[List.length_map];have:=List.length_filter_le (fun k=>decide (a∈normL (xss.getD k []))) (List.range i);rw[List.length_range]at this;exact this
theorem insAt_mem {xs:List Int} {i:Nat} {x y:Int}:y∈insAt xs i x↔y=x∨y∈xs:=by
 unfold insAt
 conv=>rhs;rw[←List.take_append_drop i xs]
 simp only[List.mem_append,List.mem_cons];constructor
 ·rintro(h|h|h)
  ·exact .inr (.inl h)
  ·exact .inl h
  exact .inr (.inr h)
 rintro(h|h|h)
 ·exact .inr (.inl h)
 ·exact .inl h
 exact .inr (.inr h)
theorem insAt_up {r:List Int} {k:Int} (hs:r.Pairwise (· < ·)) (hk:k∉r):(insAt r (posI r k) k).Pairwise (· < ·):=by
 obtain⟨h1,h2⟩:=posI_spec hs hk;unfold insAt;have h3:=hs;rw[←List.take_append_drop (posI r k) r,List.pairwise_append]at h3;obtain⟨a,b,c⟩:=h3;rw[List.pairwise_append];refine⟨a,?_,fun x hx y hy=>?_⟩
 ·rw[List.pairwise_cons];refine⟨fun y hy=>?_,b⟩;obtain⟨j,hj,rfl⟩:=List.mem_iff_getElem.1 hy;rw[List.getElem_drop];exact h2 _ _ (by omega)
 rcases List.mem_cons.1 hy with rfl|hy
 ·obtain⟨j,hj,rfl⟩:=List.mem_iff_getElem.1 hx;rw[List.getElem_take];rw[List.length_take]at hj;exact h1 j (by omega) (by omega)
 exact c x hx y hy
theorem dec_ok :∀(ks w r:List Int),ks.Nodup→(∀k∈ks,0≤k∧k.toNat<w.length∧1≤w.getD k.toNat 0∧w.getD k.toNat 0≤1048576∧k≤1048576)→r.Pairwise (· < ·)→(∀k∈ks,k∉r)→(∀y∈r,0≤y∧y≤1048576)→r.length+ks.length≤1000→
  ∃w' r',decG ks w r=some (w',r')∧w'.length=w.length∧(∀j:Nat,j<w.length→w'.getD j 0=if(j:Int)∈ks then w.getD j 0-1 else w.getD j 0)∧r'.Pairwise (· < ·)∧∀x,x∈r'↔x∈r∨(x∈ks∧w.getD x.toNat 0=1)
 |[],w,r,_,_,hr,_,_,_=>⟨w,r,rfl,rfl,fun j _=>by simp,hr,fun x=>by simp⟩
 |k::ks,w,r,hn,hk,hr,hnr,hb,hl=>by
  obtain⟨n1,n2⟩:=List.nodup_cons.1 hn;have hk0:=hk k (by simp);rw[List.length_cons]at hl;unfold decG;rw[if_pos hk0];have hw:∀(v:Int) (x:Int),x∈ks→(w.set k.toNat v).getD x.toNat 0=w.getD x.toNat 0:=fun v x hx=>by
   have h9:=hk x (List.mem_cons_of_mem _ hx)
   have:k.toNat≠x.toNat:=fun e=>n1 (by have:k=x:=by omega
                                       rw[this];exact hx)
   rw[gH,List.getElem?_set_ne this,←gH]
  (have hks:∀(v:Int),∀x∈ks,0≤x∧x.toNat<(w.set k.toNat v).length∧1≤(w.set k.toNat v).getD x.toNat 0∧(w.set k.toNat v).getD x.toNat 0≤1048576∧x≤1048576:=fun v x hx=>by rw[hw v x hx,List.length_set];exact hk x (List.mem_cons_of_mem _ hx));have hwj:∀(v:Int) (w':List Int),v=w.getD k.toNat 0-1→(∀j:Nat,j<(w.set k.toNat v).length→w'.getD j 0=if(j:Int)∈ks then(w.set k.toNat v).getD j 0-1 else(w.set k.toNat v).getD j 0)→∀j:Nat,j<w.length→w'.getD j 0=if(j:Int)∈k::ks then w.getD j 0-1 else w.getD j 0:=by
   intro v w' hv h j hj;rw[h j (by rw[List.length_set];exact hj)];by_cases e:(j:Int)=k
   ·(have hkj:k.toNat=j:=by omega);rw[if_neg (by rw[e];exact n1),if_pos (by rw[e];simp),gH,hkj,List.getElem?_set_self hj,hv,hkj];rfl
   (have hkj:k.toNat≠j:=by omega);(have hm:((j:Int)∈k::ks)↔(j:Int)∈ks:=by simp[e]);rw[gH,List.getElem?_set_ne hkj,←gH];by_cases h2:(j:Int)∈ks
   ·rw[if_pos h2,if_pos (hm.2 h2)]
   rw[if_neg h2,if_neg fun h9=>h2 (hm.1 h9)]
  by_cases h1:w.getD k.toNat 0=1
  ·have hkr:=hnr k (by simp);rw[if_pos h1,if_pos ⟨hr,hkr,hb,by omega⟩];have hlen:(insAt r (posI r k) k).length=r.length+1:=insAt_len (posI_le r k) k;obtain⟨w',r',e1,e2,e3,e4,e5⟩:=dec_ok ks (w.set k.toNat 0) (insAt r (posI r k) k) n2 (hks 0) (insAt_up hr hkr) (fun x hx h=>by
    rcases insAt_mem.1 h with rfl|h
    ·exact n1 hx
    ·exact hnr x (List.mem_cons_of_mem _ hx) h) (fun y hy=>by
    rcases insAt_mem.1 hy with rfl|h
    ·exact⟨hk0.1,hk0.2.2.2.2⟩
    exact hb y h) (by omega)
   refine⟨w',r',e1,by rw[e2,List.length_set],hwj 0 w' (by omega) e3,e4,fun x=>?_⟩;rw[e5 x,insAt_mem];constructor
   ·rintro((rfl|h)|⟨h,h2⟩)
    ·exact .inr ⟨by simp,h1⟩
    ·exact .inl h
    exact .inr ⟨List.mem_cons_of_mem _ h,by rw[←hw 0 x h];exact h2⟩
   rintro(h|⟨h,h2⟩)
   ·exact .inl (.inr h)
   rcases List.mem_cons.1 h with rfl|h
   ·exact .inl (.inl rfl)
   exact .inr ⟨h,by rw[hw 0 x h];exact h2⟩
  rw[if_neg h1];obtain⟨w',r',e1,e2,e3,e4,e5⟩:=dec_ok ks (w.set k.toNat (w.getD k.toNat 0-1)) r n2 (hks _) hr (fun x hx=>hnr x (List.mem_cons_of_mem _ hx)) hb (by omega);refine⟨w',r',e1,by rw[e2,List.length_set],hwj _ w' rfl e3,e4,fun x=>?_⟩;rw[e5 x];constructor
  ·rintro(h|⟨h,h2⟩)
   ·exact .inl h
   exact .inr ⟨List.mem_cons_of_mem _ h,by rw[←hw _ x h];exact h2⟩
  rintro(h|⟨h,h2⟩)
  ·exact .inl h
  rcases List.mem_cons.1 h with rfl|h
  ·exact absurd h2 h1
  exact .inr ⟨h,by rw[hw _ x h];exact h2⟩
def lackN (xss:List (List Int)) (out:List Int) (j:Nat):Nat:=(normL (xss.getD j [])).countP fun k=> !decide (k∈out)
theorem lack_snoc {a:Int} {out:List Int} (ha:a∉out):∀ {L:List Int},L.Nodup→L.countP (fun k=> !decide (k∈out))=L.countP (fun k=> !decide (k∈out++[a]))+if a∈L then 1 else 0
 |[],_=>by simp
 |b::L,hn=>by
  obtain⟨h1,h2⟩:=List.nodup_cons.1 hn;have ih:=lack_snoc ha h2;rw[List.countP_cons,List.countP_cons,ih];by_cases e:a=b
  ·subst e;simp[ha,h1]
  (have e2:(a∈b::L)↔a∈L:=by simp[e]);(have e3:(b∈out++[a])↔b∈out:=by simp;intro h;exact absurd h.symm e);have e4:decide (b∈out++[a])=decide (b∈out):=by
   by_cases hb:b∈out
   ·rw[decide_eq_true hb,decide_eq_true (e3.2 hb)]
   rw[decide_eq_false hb,decide_eq_false fun h=>hb (e3.1 h)]
  rw[e4];by_cases h:a∈L
  ·rw[if_pos h,if_pos (e2.2 h)];omega
  rw[if_neg h,if_neg fun h9=>h (e2.1 h9)];omega
theorem lack_zero {xss:List (List Int)} {out:List Int} {j:Nat}:lackN xss out j=0↔∀k∈xss.getD j [],k∈out:=by
 unfold lackN;rw[List.countP_eq_zero];constructor
 ·intro h k hk;have:=h k ((normL_mem _ _).2 hk);simpa using this
 intro h k hk;have:=h k ((normL_mem _ _).1 hk);simpa using this
structure InvQ (xss:List (List Int)) (out w r:List Int):Prop where
 len:w.length=xss.length
 at_:∀j:Nat,j<xss.length→w.getD j 0=(lackN xss out j:Int)
 rdy:r=rdyL xss out xss.length
 nodup:out.Nodup
 sub:∀x∈out,∃i:Nat,i<xss.length∧x=(i:Int)∧∀k∈xss.getD i [],k∈out
theorem inv_zero (xss:List (List Int)):InvQ xss [] (waitQ xss xss.length) (readyQ xss xss.length):=by
 refine⟨waitQ_len _ _,fun j hj=>?_,?_,List.nodup_nil,fun x hx=>by cases hx⟩
 ·unfold waitQ lackN;rw[gH,List.getElem?_map,List.getElem?_range hj];simp[hj]
 have key:∀i,readyQ xss i=rdyL xss [] i:=by
  intro i
  induction i with
  |zero=>rfl
  |succ i ih=>
   rw[rdyL_succ];unfold readyQ;rw[ih];have e:rdyB xss [] i=true↔(normL (xss.getD i [])).length=0:=by
    rw[rdyB_iff,List.length_eq_zero_iff,List.eq_nil_iff_forall_not_mem];constructor
    ·intro h a ha;have:=h.2 a ((normL_mem _ _).1 ha);cases this
    intro h;exact⟨by simp,fun k hk=>absurd ((normL_mem _ _).2 hk) (h k)⟩
   by_cases h:(normL (xss.getD i [])).length=0
   ·rw[if_pos h,if_pos (e.2 h)]
   rw[if_neg h,if_neg fun h9=>h (e.1 h9),List.append_nil]
 exact key _
theorem sorted_remove {r:List Int} (h:r.Pairwise (· < ·)) {p:Nat} {a:Int} (hp:r[p]? =some a):(r.take p++r.drop (p+1)).Pairwise (· < ·)∧∀x,x∈r.take p++r.drop (p+1)↔x∈r∧x≠a:=by
 have hpl:=(gF.1 hp).1;have e:r=r.take p++a::r.drop (p+1):=by(have h1:r.drop p=a::r.drop (p+1):=by rw[List.drop_eq_getElem_cons hpl];congr 1;exact(gF.1 hp).2);rw[←h1,List.take_append_drop]
 have h2:=h;rw[e,List.pairwise_append,List.pairwise_cons]at h2;obtain⟨h3,⟨h4,h5⟩,h6⟩:=h2;constructor
 ·rw[List.pairwise_append];exact⟨h3,h5,fun x hx y hy=>h6 x hx y (List.mem_cons_of_mem _ hy)⟩
 intro x
 conv=>rhs;rw[e]
 simp only[List.mem_append,List.mem_cons];constructor
 ·rintro(hx|hx)
  ·have:=h6 x hx a (by simp);exact⟨.inl hx,by omega⟩
  have:=h4 x hx;exact⟨.inr (.inr hx),by omega⟩
 rintro⟨hx|rfl|hx,hne⟩
 ·exact .inl hx
 ·exact absurd rfl hne
 exact .inr hx
theorem inv_step {xss:List (List Int)} (hx:refused xss=0) (hm9:xss.length≤500) {out w r:List Int} (h:InvQ xss out w r) {p:Nat} {a:Int} (hp:r[p]? =some a):
  ∃w' r',decG (useL xss a xss.length) w (r.take p++r.drop (p+1))=some (w',r')∧InvQ xss (out++[a]) w' r':=by
 have har:a∈r:=gG hp;have har2:=har;rw[h.rdy]at har2;obtain⟨ia,hial,hia,hia2,hia3⟩:=rdyL_mem.1 har2;have hao:a∉out:=by rw[hia];exact hia2
 have hup:r.Pairwise (· < ·):=by rw[h.rdy];exact rdyL_up _ _ _
 obtain⟨s1,s2⟩:=sorted_remove hup hp;have hrl:r.length≤xss.length:=by rw[h.rdy];exact rdyL_len _ _ _
 have hul:=useL_len xss a xss.length;have hlk:∀j,lackN xss out j=lackN xss (out++[a]) j+if a∈normL (xss.getD j [])then 1 else 0:=fun j=>lack_snoc hao ((normL_up _).imp fun h=>by omega)
 have hlen9:∀j,lackN xss out j≤1024:=fun j=>by
  have h1:lackN xss out j≤(normL (xss.getD j [])).length:=List.countP_le_length;have h2:=normL_len (xss.getD j []);have h3:(xss.getD j []).length≤1024:=by
   rw[gH];by_cases hj:j<xss.length
   ·rw[gE hj];exact(refused_zero hx).2.1 j hj
   rw[List.getElem?_eq_none (by omega)];simp
  omega
 obtain⟨w',r',e1,e2,e3,e4,e5⟩:=dec_ok (useL xss a xss.length) w (r.take p++r.drop (p+1)) ((useL_up _ _ _).imp fun h=>by omega) (fun k hk=>by
  obtain⟨j,hj,rfl,hka⟩:=useL_mem.1 hk;have h1:=hlk j;rw[if_pos hka]at h1;have h2:=hlen9 j;rw[Int.toNat_natCast,h.at_ j hj,h.len];omega) s1 (fun k hk hkr=>by
  obtain⟨j,hj,rfl,hka⟩:=useL_mem.1 hk;have h1:=((s2 _).1 hkr).1;rw[h.rdy]at h1;obtain⟨i,hi,e,_,h3⟩:=rdyL_mem.1 h1;(have:i=j:=by omega);subst this;exact hao (h3 a ((normL_mem _ _).1 hka))) (fun y hy=>by
  have h1:=((s2 _).1 hy).1;rw[h.rdy]at h1;obtain⟨i,hi,rfl,_⟩:=rdyL_mem.1 h1;omega) (by rw[List.length_append,List.length_take,List.length_drop];omega)
 refine⟨w',r',e1,⟨by rw[e2,h.len],fun j hj=>?_,?_,?_,?_⟩⟩
 ·rw[e3 j (by rw[h.len];exact hj),h.at_ j hj,hlk j];have hm:((j:Int)∈useL xss a xss.length)↔a∈normL (xss.getD j []):=by
   rw[useL_mem];constructor
   ·rintro⟨k,_,e,h9⟩;(have:k=j:=by omega);subst this;exact h9
   intro h9;exact⟨j,hj,rfl,h9⟩
  by_cases h9:a∈normL (xss.getD j [])
  ·rw[if_pos (hm.2 h9),if_pos h9];omega
  rw[if_neg fun h8=>h9 (hm.1 h8),if_neg h9];omega
 ·(refine up_unique e4 (rdyL_up _ _ _) fun x=>?_);rw[e5 x,s2 x,rdyL_mem];constructor
  ·rintro(⟨h1,h2⟩|⟨h1,h2⟩)
   ·rw[h.rdy]at h1;obtain⟨i,hi,rfl,h3,h4⟩:=rdyL_mem.1 h1;exact⟨i,hi,rfl,by simp;exact⟨h3,h2⟩,fun k hk=>List.mem_append_left _ (h4 k hk)⟩
   obtain⟨j,hj,rfl,hja⟩:=useL_mem.1 h1;rw[Int.toNat_natCast,h.at_ j hj]at h2;have h3:=hlk j;rw[if_pos hja]at h3;refine⟨j,hj,rfl,?_,lack_zero.1 (by omega)⟩;intro hm;rw[List.mem_append,List.mem_singleton]at hm;rcases hm with hm|hm
   ·obtain⟨i,hi,e,h4⟩:=h.sub _ hm;(have:i=j:=by omega);subst this;exact hao (h4 a ((normL_mem _ _).1 hja))
   (have:ia=j:=by omega);subst this;exact hao (hia3 a ((normL_mem _ _).1 hja))
  rintro⟨i,hi,rfl,h3,h4⟩;rw[List.mem_append,List.mem_singleton,not_or]at h3;by_cases hja:a∈normL (xss.getD i [])
  ·right;refine⟨useL_mem.2 ⟨i,hi,rfl,hja⟩,?_⟩;rw[Int.toNat_natCast,h.at_ i hi,hlk i,if_pos hja,lack_zero.2 h4];rfl
  left;refine⟨?_,h3.2⟩;rw[h.rdy];refine rdyL_mem.2 ⟨i,hi,rfl,h3.1,fun k hk=>?_⟩;have h5:=h4 k hk;rw[List.mem_append,List.mem_singleton]at h5;rcases h5 with h5|rfl
  ·exact h5
  exact absurd ((normL_mem _ _).2 hk) hja
 ·rw[List.nodup_append];exact⟨h.nodup,by simp,fun x hx y hy=>by simp at hy;subst hy;exact fun e=>hao (e▸hx)⟩
 intro x hx2;rw[List.mem_append,List.mem_singleton]at hx2;rcases hx2 with hx2|rfl
 ·obtain⟨i,hi,e,h4⟩:=h.sub _ hx2;exact⟨i,hi,e,fun k hk=>List.mem_append_left _ (h4 k hk)⟩
 exact⟨ia,hial,hia,fun k hk=>List.mem_append_left _ (hia3 k hk)⟩
theorem run_doc (thr:Bool) (gr:TR→Int→Int×Int) (nx:TR→Int→TR) {xss:List (List Int)} (hx:refused xss=0) (hr:roundRows xss=[]) (hm9:xss.length≤500):∀(f:Nat) (T:TR) (w r out:List Int),InvQ xss out w r→out.length+f=xss.length→
  runG thr gr nx f (usersQ xss xss.length) T w r out=some (docO thr gr nx xss f T out)
 |0,T,w,r,out,h,hl=>by
  have hr0:r=[]:=by
   rw[List.eq_nil_iff_forall_not_mem];intro x hxr;rw[h.rdy]at hxr;obtain⟨i,hi,rfl,h3,_⟩:=rdyL_mem.1 hxr;have hnd:((i:Int)::out).Nodup:=List.nodup_cons.2 ⟨h3,h.nodup⟩;have hsub:((i:Int)::out) ⊆ (List.range xss.length).map (fun(v:Nat)=>(v:Int)):=by
    intro x hx2;rcases List.mem_cons.1 hx2 with rfl|hx2
    ·exact List.mem_map_of_mem (List.mem_range.2 hi)
    obtain⟨j,hj,rfl,_⟩:=h.sub x hx2;exact List.mem_map_of_mem (List.mem_range.2 hj)
   have:=hnd.length_le_of_subset hsub;rw[List.length_map,List.length_range,List.length_cons]at this;omega
  subst hr0;simp only[runG,docO]
 |f+1,T,w,r,out,h,hl=>by
  (have hne:r≠[]:=by rw[h.rdy];exact rdyL_ne hx hr (by omega));have hpos:0<r.length:=List.length_pos_iff.2 hne;have hpk:=pickG_lt thr gr T hpos;obtain⟨a,ha⟩:∃a,r[pickG thr gr T r]? =some a:=⟨_,gE hpk⟩;(have hga:r.getD (pickG thr gr T r) 0=a:=by rw[gH,ha];rfl);obtain⟨w',r',e1,hI⟩:=inv_step hx hm9 h ha;have ha2:=gG ha;rw[h.rdy]at ha2;obtain⟨ia,hial,hia,_⟩:=rdyL_mem.1 ha2;(have hu:(usersQ xss xss.length).getD a.toNat []=useL xss a xss.length:=by rw[hia,Int.toNat_natCast];exact usersQ_at hx hial _ (Nat.le_refl _));(have hin:∀y∈r,0≤y∧y.toNat<(usersQ xss xss.length).length:=fun y hy=>by rw[h.rdy]at hy;obtain⟨i,hi,rfl,_⟩:=rdyL_mem.1 hy;rw[usersQ_len];omega);(have hrl:r.length≤xss.length:=by rw[h.rdy];exact rdyL_len _ _ _);have hul:=useL_len xss a xss.length;have ih:=run_doc thr gr nx hx hr hm9 f (stepG thr nx T a) w' r' (out++[a]) hI (by rw[List.length_append,List.length_singleton];omega);(have hd:docO thr gr nx xss (f+1) T out=docO thr gr nx xss f (stepG thr nx T a) (out++[a]):=by(show docO thr gr nx xss f (stepG thr nx T ((rdyL xss out xss.length).getD (pickG thr gr T (rdyL xss out xss.length)) 0)) (out++[(rdyL xss out xss.length).getD (pickG thr gr T (rdyL xss out xss.length)) 0])=_);rw[←h.rdy,hga]);rw[hd,←ih];cases hrc:r with
  |nil=>exact absurd hrc hne
  |cons b l=>simp only[runG];rw[←hrc,hga,hu,if_pos ⟨(hin a (gG ha)).1,(hin a (gG ha)).2,by omega,by omega,by omega,hin⟩,e1]
theorem order_doc (thr:Bool) (gr:TR→Int→Int×Int) (nx:TR→Int→TR) {xss:List (List Int)} (hx:refused xss=0) (hr:roundRows xss=[]) (hm9:xss.length≤500) (T:TR):orderG thr gr nx xss T=some (docO thr gr nx xss xss.length T []):=
 run_doc thr gr nx hx hr hm9 _ _ _ _ _ (inv_zero xss) (by simp)
theorem refdo_any {w:World} {nv fv:Value} {T:TR} {vs:List Value} (h:TreeAt w nv fv T.1 T.2 vs) (ho:LooseOk T.1 T.2) (op:Int) {p tz:List UInt8} (hp9:p.length≤1048576) (ht9:tz.length≤1048576) (mode ref:Int) {sv:Value} {cs:List Value} (hsv:StockAt w sv cs):
  Calls Tryz.prog 33 #[.agg #[nv,fv],insV op p tz mode ref,sv] w fun e w'=>∃A3 n3 c3 A4 n4 c4,e= .returned (.tuple #[.agg #[.slice A3 n3 c3,.slice A4 n4 c4],.int .i64 (docE op p tz mode ref cs T)])∧Sep w w' [.keep fun W=>docE op p tz mode ref cs T=0→∃vs',TreeAt W (.slice A3 n3 c3) (.slice A4 n4 c4) (docT op p tz mode ref cs T).1 (docT op p tz mode ref cs T).2 vs']:=by
 by_cases hb:1≤op∧op≤9
 case neg=>refine(refdo_bad h ho hb hp9 ht9 mode ref hsv).mono ?_;rintro e w' ⟨rfl,hb2⟩;(have e1:docE op p tz mode ref cs T=34:=by unfold docE;rw[if_pos (by omega)]);rw[e1];exact⟨none,0,0,none,0,0,rfl,Sep.keep (X:=[]) (Y:=[]) ((Sep.nil w).pure hb2) fun _ W _ h0=>absurd h0 (by decide)⟩
 by_cases h9:op=9
 ·subst h9;refine(refdo_9 h ho hp9 ht9 mode ref hsv).mono ?_;rintro e w' ⟨A3,n3,c3,A4,n4,c4,vs',rfl,hs⟩;(have e1:docE 9 p tz mode ref cs T=0:=by unfold docE;rw[if_neg (by decide),if_pos rfl]);(have e2:docT 9 p tz mode ref cs T=T:=by unfold docT;rw[if_pos rfl]);rw[e1,e2];exact⟨A3,n3,c3,A4,n4,c4,rfl,Sep.keep (X:=[_]) (Y:=[]) hs fun _ W hW _=>⟨vs',hW.kept 0 rfl⟩⟩
 have e1:docE op p tz mode ref cs T=doE (firstD op p tz mode ref cs) (docErr op p tz T.1) (docN op p tz mode T) (docF op p tz mode ref cs T):=by unfold docE;rw[if_neg (by omega),if_neg h9]
 have e2:docT op p tz mode ref cs T=(dnT (docN op p tz mode T),dfT (docN op p tz mode T) (docF op p tz mode ref cs T)):=by unfold docT;rw[if_neg h9]
 rw[e1,e2];have h18:op=1∨op=2∨op=3∨op=4∨op=5∨op=6∨op=7∨op=8:=by omega
 clear e1 e2 hb h9;rcases h18 with rfl|rfl|rfl|rfl|rfl|rfl|rfl|rfl
 ·exact refdo_1 h ho hp9 ht9 mode ref hsv
 ·exact refdo_2 h ho hp9 ht9 mode ref hsv
 ·exact refdo_3 h ho hp9 ht9 mode ref hsv
 ·exact refdo_4 h ho hp9 ht9 mode ref hsv
 ·exact refdo_5 h ho hp9 ht9 mode ref hsv
 ·exact refdo_6 h ho hp9 ht9 mode ref hsv
 ·exact refdo_7 h ho hp9 ht9 mode ref hsv
 exact refdo_8 h ho hp9 ht9 mode ref hsv
def bestD (thr:Bool) (gr:TR→Int→Int×Int) (T:TR) (r:List Int):Int:=if r=[]then -1 else r.getD (pickG thr gr T r) 0
def leastD (thr:Bool) (gr:TR→Int→Int×Int) (T:TR) (r:List Int):Int×Int:=if r=[]then(0,0)else if thr=true then gr T (bestD thr gr T r)else(0,0)
def nextD (thr:Bool) (gr:TR→Int→Int×Int) (nx:TR→Int→TR) (T:TR) (r:List Int):TR:=if r=[]then T else stepG thr nx T (bestD thr gr T r)
theorem bestI_app (gr:Int→Int×Int) (r:List Int) (x:Int):∀k,k≤r.length→bestI gr (r++[x]) k=bestI gr r k
 |0,_=>rfl
 |k+1,hk=>by
  have ih:=bestI_app gr r x k (by omega);(have g:∀j,j<r.length→(r++[x]).getD j 0=r.getD j 0:=fun j hj=>by rw[gH,List.getElem?_append_left hj,←gH]);unfold bestI;rw[ih];by_cases h0:k=0
  ·rw[if_pos (.inl h0),if_pos (.inl h0)]
  have:=bestI_lt gr r k (by omega);rw[g k (by omega),g _ (by omega)]
theorem bestD_plain (gr:TR→Int→Int×Int) (T:TR) (r:List Int) (x:Int):bestD false gr T (r++[x])=if r=[]then x else bestD false gr T r:=by
 unfold bestD pickG;rw[if_neg (by simp),if_neg (by decide)];cases r with
 |nil=>rfl
 |cons a r=>rw[if_neg (by simp),if_neg (by simp)];rfl
theorem bestD_thr (gr:TR→Int→Int×Int) (T:TR) (r:List Int) (x:Int):bestD true gr T (r++[x])=if r=[]∨lessG (gr T x) (leastD true gr T r)=true then x else bestD true gr T r:=by
 have e0:bestD true gr T (r++[x])=(r++[x]).getD (bestI (gr T) (r++[x]) (r.length+1)) 0:=by unfold bestD pickG;rw[if_neg (by simp),if_pos rfl,List.length_append,List.length_singleton]
 have hx:(r++[x]).getD r.length 0=x:=by rw[gH,List.getElem?_append_right (Nat.le_refl _),Nat.sub_self];rfl
 have e3:bestI (gr T) (r++[x]) (r.length+1)=if r.length=0∨lessG (gr T x) (gr T ((r++[x]).getD (bestI (gr T) r r.length) 0))=true then r.length else bestI (gr T) r r.length:=by(show(if r.length=0∨lessG (gr T ((r++[x]).getD r.length 0)) (gr T ((r++[x]).getD (bestI (gr T) (r++[x]) r.length) 0))=true then r.length else bestI (gr T) (r++[x]) r.length)=_);rw[bestI_app _ _ _ _ (Nat.le_refl _),hx]
 rw[e0,e3];by_cases h0:r=[]
 ·subst h0;rw[if_pos (.inl rfl),if_pos (.inl rfl)];rfl
 have hpos:=List.length_pos_iff.2 h0;have hlt:=bestI_lt (gr T) r r.length hpos;have hg:(r++[x]).getD (bestI (gr T) r r.length) 0=r.getD (bestI (gr T) r r.length) 0:=by rw[gH,List.getElem?_append_left hlt,←gH]
 have e1:bestD true gr T r=r.getD (bestI (gr T) r r.length) 0:=by unfold bestD pickG;rw[if_neg h0,if_pos rfl]
 have e2:leastD true gr T r=gr T (r.getD (bestI (gr T) r r.length) 0):=by unfold leastD;rw[if_neg h0,if_pos rfl,e1]
 rw[hg,e2,e1];by_cases hl2:lessG (gr T x) (gr T (r.getD (bestI (gr T) r r.length) 0))=true
 ·rw[if_pos (.inr hl2),if_pos (.inr hl2),hx]
 rw[if_neg (fun h=>h.elim (by omega) hl2),if_neg (fun h=>h.elim h0 hl2),hg]
theorem bestD_mem {thr:Bool} {gr:TR→Int→Int×Int} {T:TR} {r:List Int} (h:r≠[]):bestD thr gr T r∈r:=by have hl:=pickG_lt thr gr T (List.length_pos_iff.2 h);unfold bestD;rw[if_neg h,gH,gE hl];exact List.getElem_mem _
theorem best_upd {thr:Bool} {gr:TR→Int→Int×Int} {nx:TR→Int→TR} {T:TR} {r:List Int} {x:Int} (h:bestD thr gr T (r++[x])=x):leastD thr gr T (r++[x])=(if thr=true then gr T x else(0,0))∧nextD thr gr nx T (r++[x])=stepG thr nx T x:=by
 have hn:¬(r++[x])=[]:=by simp
 unfold leastD nextD;rw[if_neg hn,if_neg hn,h];exact⟨rfl,rfl⟩
theorem best_keep {thr:Bool} {gr:TR→Int→Int×Int} {nx:TR→Int→TR} {T:TR} {r:List Int} {x:Int} (hr:r≠[]) (h:bestD thr gr T (r++[x])=bestD thr gr T r):leastD thr gr T (r++[x])=leastD thr gr T r∧nextD thr gr nx T (r++[x])=nextD thr gr nx T r:=by
 have hn:¬(r++[x])=[]:=by simp
 unfold leastD nextD;rw[if_neg hn,if_neg hn,h,if_neg hr,if_neg hr];exact⟨rfl,rfl⟩
theorem docO_succ (thr:Bool) (gr:TR→Int→Int×Int) (nx:TR→Int→TR) (xss:List (List Int)) (f:Nat) (T:TR) (out:List Int) (h:rdyL xss out xss.length≠[]):docO thr gr nx xss (f+1) T out=docO thr gr nx xss f (nextD thr gr nx T (rdyL xss out xss.length)) (out++[bestD thr gr T (rdyL xss out xss.length)]):=by unfold nextD bestD;rw[if_neg h,if_neg h];rfl
def doneV (m:Nat) (out:List Int):List Value:=(List.range m).map fun(i:Nat)=>.bool (decide ((i:Int)∈out))
theorem doneV_at {m i:Nat} (out:List Int) (h:i<m):(doneV m out)[i]? =some (.bool (decide ((i:Int)∈out))):=by unfold doneV;rw[List.getElem?_map,List.getElem?_range h];rfl
theorem doneV_nil (m:Nat):doneV m []=List.replicate m (.bool false):=by
 apply List.ext_getElem
 ·simp[doneV]
 intro j h1 h2;simp[doneV]
theorem doneV_set {m i:Nat} (out:List Int) (h:i<m):(doneV m out).set i (.bool true)=doneV m (out++[(i:Int)]):=by
 apply List.ext_getElem
 ·simp[doneV]
 intro j h1 h2;rw[List.getElem_set];by_cases e:i=j
 ·subst e;simp[doneV]
 have e2:¬(j:Int)=(i:Int):=by omega
 rw[if_neg e];simp[doneV,e2]
def rdyK (xs:List Int) (out:List Int) (i k:Nat):Bool:= !(decide ((i:Int)∈out))&&(xs.take k).all fun x=>decide (x∈out)
theorem rdyK_all {xss:List (List Int)} {out:List Int} {i:Nat} (h:i<xss.length):rdyK xss[i] out i xss[i].length=rdyB xss out i:=by unfold rdyK rdyB;rw[List.take_length,gH,gE h];rfl
theorem rdyK_succ {xs out:List Int} {i k:Nat} (h:k<xs.length):rdyK xs out i (k+1)=(rdyK xs out i k&&decide (xs[k]∈out)):=by
 have e:xs.take (k+1)=xs.take k++[xs[k]]:=by rw[List.take_add_one,gE h];rfl
 unfold rdyK;rw[e,List.all_append];simp only[List.all_cons,List.all_nil,Bool.and_true,Bool.and_assoc]
def Holds1 (w:World) (K:Asn) (nv fv:Value) (T:TR):Prop:=∀(w':World) (R:List Asn),Sep w w' (K::R)→∃vs,TreeAt w' nv fv T.1 T.2 vs
def Holds2 (w:World) (K L:Asn) (nv fv:Value) (T:TR):Prop:=∀(w':World) (R:List Asn),Sep w w' (K::L::R)→∃vs,TreeAt w' nv fv T.1 T.2 vs
theorem Holds1.two {w:World} {K L:Asn} {nv fv:Value} {T:TR} (h:Holds1 w K nv fv T):Holds2 w K L nv fv T:=fun w' R hS=>h w' (L::R) hS
theorem Holds2.one {w:World} {K L:Asn} {nv fv:Value} {T:TR} (h:Holds2 w K L nv fv T):Holds1 w (Asn.star K L) nv fv T:=fun w' R hS=>h w' R hS.star_open
theorem holds_keep {w:World} {K:Asn} {P:World→Prop} {nv fv:Value} {T:TR} (h:∀W,P W→∃vs,TreeAt W nv fv T.1 T.2 vs):Holds2 w K (Asn.keep P) nv fv T:=fun w' R hS=>h w' (hS.kept 1 rfl)
theorem wd_small {T:TR} (hm:TreeSm T.1 T.2):(0≤wdB T.1 T.2∧wdB T.1 T.2≤1000000)∧0≤wdI T.1 T.2∧wdI T.1 T.2≤1000000:=by
 have hK9:∀p,cntK T.1 p≤300:=fun p=>Nat.le_trans (cntK_le T.1 p) hm.few
 have h1:=dirB_le (cntK T.1 []);have h2:=hK9 [];have h3:=dnB_bound hK9 T.1;have h4:=dnI_bound T.1;have h5:=dfB_bound hm.size;have h6:=hm.few;have h7:=hm.few2;unfold wdB wdI;omega
end Go.Proofs.YtimkjnbihlgbiaaGreat
