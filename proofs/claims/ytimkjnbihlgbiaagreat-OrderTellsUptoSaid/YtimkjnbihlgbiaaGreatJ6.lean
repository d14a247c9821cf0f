/- Parted2, Comps, IntMap, Comp1, laid together. -/
import Derived.Test.YtimkjnbihlgbiaaGreatJ5
import Derived.Maps.Views
namespace Go.Proofs.YtimkjnbihlgbiaaGreat
open Go.RowKit
set_option linter.unusedVariables false
open Tarjan (St Inv upd)
theorem good_of {xss:List (List Int)} {s:St} {act:Bool} (h:Inv (adjOf xss) xss.length s [] [] act) (hall:∀v,v<xss.length→0<s.seen v):Good xss s.of s.count where
 lo:=h.done hall
 hi:=h.cnt
 needs:=fun v hv u hu=>(h.clos v (h.done hall v hv) u hu).2
 scc:=fun u v hu _ e=>h.scc u v (h.done hall u hu) e
 full:=fun c hc=>by obtain⟨v,hv⟩:=h.full c hc;exact⟨v,h.dom v (h.vis v (by omega)),hv⟩
 le:=h.bounds.2.2.2
def zeros (g n:Nat):Asn:=.sl 3 1 (.slice (some ⟨g,0,none⟩) n n) n (List.replicate n (.int .i64 0))
theorem zeros_arr (g n:Nat):zeros g n=arr g n (fun _=>0):=by rw[zeros,arr];congr 1;apply List.ext_getElem?;intro i;by_cases hi:i<n<;>simp[hi]
set_option maxRecDepth 100000 in
set_option maxHeartbeats 1000000 in
theorem parted_any {xss:List (List Int)} {w:World} {nv:Value} (hx:refused xss=0) (hn:RowsAt w nv xss):
  Calls Tryz.prog 76 #[nv] w fun e w'=>∃go of count,e= .returned (.tuple #[.slice (some ⟨go,0,none⟩) xss.length xss.length,.int .i64 (count:Nat)])∧Sep w w' [arr go xss.length of]∧Good xss of count:=by
 obtain⟨hl,hrow,hgood⟩:=refused_zero hx;obtain⟨i0,hi,hz0,hz1,hz2⟩:=info_parts info_int;obtain⟨A,c,rfl,hmax⟩:=hn.shape;clear hmax;have hmk:=fun W:World=>run_make_n (P:=Tryz.prog) 36 3 i0 (.int .i64 0) 8 Tryz.underlying36 hi hz0 hz1 hz2 rfl .i64 .i64 xss.length (by omega) (by unfold maxLen;omega) W
 go_enter Tryz.func76,Tryz.ntmps76;go_wp2_with fail;have hskip:∀(c:Code) (Q:Exit→Act→World→Prop) a w',c.wp Tryz.prog Q a w'→(Code.seq .skip c).wp Tryz.prog Q a w':=fun c Q a w' h=>wp_seq (wp_skip h)
 have hQ:∀gs gl go bd bo ac' w' s' i8' fv' kv' act',Fm 175 ac' (ksR (.slice A xss.length c) i8' fv' kv' xss.length s'.count s'.now xss.length gs gl go bd bo)→PS w w' xss.length s' [] [] gs gl go bd bo→Inv (adjOf xss) xss.length s' [] [] act'→(∀v,v<xss.length→0<s'.seen v)→bodyPost Tryz.prog Tryz.f76 (fun e w'=>∃go of count,e= .returned (.tuple #[.slice (some ⟨go,0,none⟩) xss.length xss.length,.int .i64 (count:Nat)])∧Sep w w' [arr go xss.length of]∧Good xss of count) .ret ac' w':=by
  intro gs gl go bd bo ac' w' s' i8' fv' kv' act' hf hP hI hall;obtain⟨f,rfl⟩:=hf.lit (m:=159) rfl;simp only[ksR,lits,Nat.reduceAdd,List.cons_append,List.nil_append]
  go_ret2
  obtain⟨dv,ov,hS⟩:=hP;exact⟨go,s'.of,s'.count,rfl,Sep.drop 6 (Sep.sel [0,1,3,4,5,6,2] hS (by decide) (by simp)),good_of hI hall⟩
 have hQ':=Lh hQ;clear hQ;refine wp_scope_labels (fun l=>.seq .skip (partedAt l)) (fun m l a w'=>∃gs gl go bd bo,JP xss w (.slice A xss.length c) gs gl go bd bo m l a w') ?_ ?_ ?_
 ·rintro m l a w' ⟨gs,gl,go,bd,bo,s,O,D,act,root,i8,fv,kv,_,_,_,_,h⟩;rcases h with⟨rfl,_⟩|⟨rfl,_⟩|⟨rfl,_⟩
  ·rfl
  ·rfl
  rfl
 ·go_wp2_with fail;rename_i K hK;have hmain:∀gs gl go a' w',Fm 175 a' [.slice A xss.length c,undef,.slice none 0 0,.int .i64 0,.int .i64 xss.length,.slice (some ⟨gs,0,none⟩) xss.length xss.length,.slice (some ⟨gl,0,none⟩) xss.length xss.length,.slice (some ⟨go,0,none⟩) xss.length xss.length]→
    Sep w w' [zeros gs xss.length,zeros gl xss.length,zeros go xss.length]→K a' w':=by
   intro gs gl go a' w' hf hS;apply hK;clear hK;obtain⟨f,rfl⟩:=hf.lit (m:=167) rfl;simp only[lits,Nat.reduceAdd,List.cons_append,List.nil_append];rw[zeros_arr,zeros_arr,zeros_arr]at hS;have hx':=Lh hx;have hn':=Lh hn;have hg':=Lh hgood;have hr':=Lh hrow;clear hx hn hgood hrow hf hskip hmk;go_wp2_with fail;go_loopg[8,26] xss.length (fun m i8 i wr=>∃k:Nat,k≤xss.length∧Hid (m=xss.length-k)∧i= .int .i64 k∧Sep w wr [arr gs xss.length (fun _=>0),arr gl xss.length (fun _=>0),arr go xss.length (fun v=>if v<k then -1 else 0)])
   case atStart=>exact⟨0,Nat.zero_le _,rfl,rfl,by simpa using hS⟩
   obtain⟨k,hk,hm,rfl,hT⟩:=hrel;by_cases hlt:k<xss.length
   ·have a0:=arr_at 2 hT rfl k hlt;have a1:=Sep.frozenAt 2 hT rfl k;have hT2:=hT.stored 2 rfl k (.int .i64 (-1));simp only[List.set_cons_succ,List.set_cons_zero]at hT2;rw[arr_set]at hT2;(have b1:(k:Int)<(xss.length:Int):=by omega);(have b2:(0:Int)≤(k:Int):=by omega);go_wp2_with fail;go_roundg (xss.length-(k+1))
    case measure=>rw[hm.out];omega
    refine⟨k+1,by omega,rfl,by go_num,?_⟩;have e:upd (fun v=>if v<k then(-1:Int)else 0) k (-1)=fun v=>if v<k+1 then(-1:Int)else 0:=by
     funext v;simp only[upd];by_cases h1:v=k
     ·subst h1;simp
     rw[if_neg h1];by_cases h2:v<k
     ·rw[if_pos h2,if_pos (by omega)]
     rw[if_neg h2,if_neg (by omega)]
    rw[e]at hT2;exact hT2
   (obtain rfl:k=xss.length:=by omega);go_upto_region 13 with(fail);(iterate 7 go_step);refine wp_seq (wp_label ?_);(have hP:PS w ((wr.alloc (.cells #[.slice none 0 0] 160)).alloc (.cells #[.slice none 0 0] 162)) xss.length ⟨fun _=>0,fun _=>0,fun _=> -1,0,0⟩ [] [] gs gl go wr.heap.size (wr.heap.size+1):=by(have e:arr go xss.length (fun v=>if v<xss.length then(-1:Int)else 0)=arr go xss.length (fun _=> -1):=by rw[arr,arr];congr 1;apply List.map_congr_left;intro v hv;rw[if_pos (List.mem_range.1 hv)]);rw[e]at hT;have h1:=((hT.bN 160 #[.slice none 0 0]).bN 162 #[.slice none 0 0]);have h2:=(h1.sl_nil 3 1).sl_nil 166 2;rw[show(wr.alloc (.cells #[.slice none 0 0] 160)).heap.size=wr.heap.size+1 by simp]at h2;exact⟨.slice none 0 0,.slice none 0 0,h2.sel [4,5,6,3,0,2,1] (by decide) (by simp)⟩);refine wp_mono (next_pass (root:= -1) hx'.out hn'.out (i8:=u8) (fv:=.pointer none) (kv:=.int .i64 0) ⟨rfl,rfl,rfl⟩ hP (Tarjan.inv_start _ _ _) rfl (by omega) (by omega) (fun v hv=>by omega) (hQ'.out gs gl go _ _)) (Jumps.mono fun l a w ⟨m',e1,e2⟩=>⟨m',gs,gl,go,_,_,e2⟩)
  (have hb:xss.length≤maxLen:=by unfold maxLen;omega);(have hT:Sep w ((((w.alloc (.cells (madeCells #[.int .i64 0] xss.length) 3)).alloc (.cells (madeCells #[.int .i64 0] xss.length) 3)).alloc (.cells (madeCells #[.int .i64 0] xss.length) 3)).drew) [zeros (w.heap.size+2) xss.length,zeros (w.heap.size+1) xss.length,zeros w.heap.size xss.length]:=by have h1:=((((Sep.nil w).made 3 (.int .i64 0) _ hb).made 3 (.int .i64 0) _ hb).made 3 (.int .i64 0) _ hb).drew;simp only[World.size_alloc]at h1;exact h1);have hT':=Lh hT;have hm':=Lh hmain;clear hT hmain hK
  go_region
  all_goals first
   |exact hm'.out _ _ _ _ _ ⟨rfl,rfl,rfl⟩ (Sep.sel [2,1,0] hT'.out (by decide) (by simp))
   |exact hm'.out _ _ _ _ _ ⟨rfl,rfl,rfl⟩ (Sep.sel [0,1,2] hT'.out (by decide) (by simp))
   |exact hm'.out _ _ _ _ _ ⟨rfl,rfl,rfl⟩ (Sep.sel [0,2,1] hT'.out (by decide) (by simp))
   |exact hm'.out _ _ _ _ _ ⟨rfl,rfl,rfl⟩ (Sep.sel [1,0,2] hT'.out (by decide) (by simp))
   |exact hm'.out _ _ _ _ _ ⟨rfl,rfl,rfl⟩ (Sep.sel [1,2,0] hT'.out (by decide) (by simp))
   |exact hm'.out _ _ _ _ _ ⟨rfl,rfl,rfl⟩ (Sep.sel [2,0,1] hT'.out (by decide) (by simp))
 rintro m l a w' ⟨gs,gl,go,bd,bo,s,O,D,act,root,i8,fv,kv,hf,hP,hI,hm,h⟩;refine hskip _ _ _ _ ?_;rcases h with⟨rfl,rfl,h1,h2,h3⟩|⟨rfl,h1,h2,k,rfl,h3,h4,h5,h6⟩|⟨rfl,h1,rfl,h2,h3,h4⟩
 ·exact wp_mono (next_pass hx hn hf hP hI hm h1 h2 h3 (hQ'.out gs gl go bd bo)) (Jumps.mono fun l a w ⟨m',e1,e2⟩=>⟨m',e1,gs,gl,go,bd,bo,e2⟩)
 ·exact wp_mono (enter_pass hx hn hf hP hI hm h1 h2 h3 h4 h5 h6) (Jumps.mono fun l a w ⟨m',e1,e2⟩=>⟨m',e1,gs,gl,go,bd,bo,e2⟩)
 exact wp_mono (look_pass hx hn hf hP hI h1 hm h2 h3 h4) (Jumps.mono fun l a w ⟨m',e1,e2⟩=>⟨m',e1,gs,gl,go,bd,bo,e2⟩)
end Go.Proofs.YtimkjnbihlgbiaaGreat
namespace Go.Proofs.YtimkjnbihlgbiaaGreat
set_option linter.unusedVariables false
def cls (n:Nat) (of:Nat→Int) (c:Nat):List Nat:=(List.range n).filter fun v=>of v==(c:Int)
def fst' (n:Nat) (of:Nat→Int) (c:Nat):Nat:=(cls n of c).headD 0
def alls (xss:List (List Int)) (of:Nat→Int) (c:Nat):List Nat:=(cls xss.length of c).flatMap fun v=>(adjOf xss v).map fun u=>(of u).toNat
def needB (xss:List (List Int)) (of:Nat→Int) (c d:Nat):Bool:=(alls xss of c).contains d&&d !=c
theorem cls_iff {n:Nat} {of:Nat→Int} {c v:Nat}:v∈cls n of c↔v<n∧of v=c:=by simp[cls]
theorem cls_sorted (n:Nat) (of:Nat→Int) (c:Nat):(cls n of c).Pairwise (· < ·):=List.Pairwise.filter _ List.pairwise_lt_range
section
variable {xss:List (List Int)} {of:Nat→Int} {count:Nat} {T:List Nat}
theorem Good.cls_ne (h:Good xss of count) {c:Nat} (hc:c<count):cls xss.length of c≠[]:=by obtain⟨v,hv,e⟩:=h.full c hc;exact List.ne_nil_of_mem (cls_iff.2 ⟨hv,e⟩)
theorem Good.fst_mem (h:Good xss of count) {c:Nat} (hc:c<count):fst' xss.length of c∈cls xss.length of c:=by
 unfold fst';have:=h.cls_ne hc;cases e:cls xss.length of c with
 |nil=>exact absurd e this
 |cons a l=>simp
theorem Good.fst_lt (h:Good xss of count) {c:Nat} (hc:c<count):fst' xss.length of c<xss.length∧of (fst' xss.length of c)=c:=cls_iff.1 (h.fst_mem hc)
theorem fst_le {n:Nat} {of:Nat→Int} {c v:Nat} (hv:v∈cls n of c):fst' n of c≤v:=by
 unfold fst';have hs:=cls_sorted n of c;cases e:cls n of c with
 |nil=>rw[e]at hv;cases hv
 |cons a l=>
  rw[e]at hv hs;rw[List.pairwise_cons]at hs;simp only[List.headD_cons];rcases List.mem_cons.1 hv with rfl|hv
  ·exact Nat.le_refl _
  exact Nat.le_of_lt (hs.1 v hv)
theorem Good.num (h:Good xss of count) {v:Nat} (hv:v<xss.length):∃c:Nat,c<count∧of v=c:=by have h1:=h.lo v hv;have h2:=h.hi v;exact⟨(of v).toNat,by omega,by omega⟩
theorem Good.fst_inj (h:Good xss of count) {c d:Nat} (hc:c<count) (hd:d<count) (e:fst' xss.length of c=fst' xss.length of d):c=d:=by have h1:=(h.fst_lt hc).2;have h2:=(h.fst_lt hd).2;rw[e]at h1;omega
theorem Good.reach_le (hx:refused xss=0) (h:Good xss of count) {u v:Nat} (hr:Tarjan.Reach (adjOf xss) u v):u<xss.length→of v≤of u:=by
 induction hr with
 |refl=>intro _;omega
 |step e _ ih=>intro hu;have h1:=h.needs _ hu _ e;have h2:=ih (adj_lt hx hu e);omega
theorem Good.mut_iff (hx:refused xss=0) (h:Good xss of count) {u v:Nat} (hu:u<xss.length) (hv:v<xss.length):Mut xss u v↔of u=of v:=by
 constructor
 ·rintro⟨h1,h2⟩;have:=h.reach_le hx h1 hu;have:=h.reach_le hx h2 hv;omega
 intro e;exact⟨h.scc u v hu hv e,h.scc v u hv hu e.symm⟩
def repOf (xss:List (List Int)) (of:Nat→Int) (v:Nat):Nat:=fst' xss.length of (of v).toNat
theorem Good.rep_at (h:Good xss of count) {v c:Nat} (e:of v=c):repOf xss of v=fst' xss.length of c:=by unfold repOf;rw[e];rfl
theorem Good.isRep (hx:refused xss=0) (h:Good xss of count):IsRep xss (repOf xss of):=by intro v hv;obtain⟨c,hc,e⟩:=h.num hv;rw[h.rep_at e];obtain⟨h1,h2⟩:=h.fst_lt hc;refine⟨h1,(h.mut_iff hx h1 hv).2 (by rw[h2,e]),fun u hu hm=>fst_le (cls_iff.2 ⟨hu,?_⟩)⟩;rw[(h.mut_iff hx hu hv).1 hm,e]
theorem needB_iff {c d:Nat}:needB xss of c d=true↔d≠c∧∃v,v∈cls xss.length of c∧∃u,u∈adjOf xss v∧(of u).toNat=d:=by
 simp only[needB,alls,Bool.and_eq_true,List.contains_iff_mem,List.mem_flatMap,List.mem_map,bne_iff_ne];constructor
 ·rintro⟨⟨v,h1,u,h2,h3⟩,h4⟩;exact⟨h4,v,h1,u,h2,h3⟩
 rintro⟨h4,v,h1,u,h2,h3⟩;exact⟨⟨v,h1,u,h2,h3⟩,h4⟩
theorem Good.tell (hx:refused xss=0) (h:Good xss of count) (hT:∀c,c∈T→c<count) (hp:Pre xss (repOf xss of) (T.map (fst' xss.length of))) {b:Nat} (hb:b<count) (hbT:b∉T)
  (hready:∀d,d<count→needB xss of b d=true→d∈T) (hmin:∀c,c<count→c∉T→(∀d,d<count→needB xss of c d=true→d∈T)→fst' xss.length of b≤fst' xss.length of c):
  Pre xss (repOf xss of) ((T++[b]).map (fst' xss.length of)):=by
 rw[List.map_append,List.map_cons,List.map_nil];obtain⟨f1,f2⟩:=h.fst_lt hb;have hcomp:∀ {v c:Nat},v<xss.length→c<count→repOf xss of v=fst' xss.length of c→of v=c:=by intro v c hv hc e;obtain⟨c',hc',e'⟩:=h.num hv;rw[h.rep_at e']at e;rw[e',h.fst_inj hc' hc e]
 refine .snoc hp f1 (h.rep_at f2) ?_ ?_ ?_
 ·intro hm;obtain⟨c,hc,e⟩:=List.mem_map.1 hm;exact hbT (h.fst_inj (hT c hc) hb e▸hc)
 ·intro v hv e u hu;have hvb:=hcomp hv hb e;have hu':=adj_lt hx hv hu;obtain⟨d,hd,ed⟩:=h.num hu';by_cases hdb:d=b
  ·left;rw[h.rep_at ed,hdb]
  right;rw[h.rep_at ed];exact List.mem_map_of_mem (hready d hd (needB_iff.2 ⟨hdb,v,cls_iff.2 ⟨hv,hvb⟩,u,hu,by rw[ed];rfl⟩))
 intro j hj hjr hjT hjready;have hjn:j<xss.length:=by omega
 obtain⟨c,hc,ec⟩:=h.num hjn;have hjc:fst' xss.length of c=j:=by rw[←h.rep_at ec];exact hjr
 have hcT:c∉T:=fun hm=>hjT (hjc▸List.mem_map_of_mem hm)
 have:=hmin c hc hcT fun d hd hn=>by
  obtain⟨hne,v,hv,u,hu,e⟩:=needB_iff.1 hn;obtain⟨hv1,hv2⟩:=cls_iff.1 hv;have hu':=adj_lt hx hv1 hu;obtain⟨d',hd',ed'⟩:=h.num hu';(have hdd:d'=d:=by rw[ed']at e;simpa using e);subst hdd;rcases hjready v hv1 (by rw[h.rep_at hv2,hjc]) u hu with h1|h1
  ·rw[h.rep_at ed']at h1;exact absurd (h.fst_inj hd hc (h1.trans hjc.symm)) hne
  rw[h.rep_at ed']at h1;obtain⟨t,ht,et⟩:=List.mem_map.1 h1;exact h.fst_inj (hT t ht) hd et▸ht
 omega
theorem Good.exists_ready (hx:refused xss=0) (h:Good xss of count) (hn:∃c,c<count∧c∉T):∃b,b<count∧b∉T∧∀d,d<count→needB xss of b d=true→d∈T:=by
 have key:∀m c,c≤m→c<count→c∉T→∃b,b<count∧b∉T∧∀d,d<count→needB xss of b d=true→d∈T:=by
  intro m
  induction m with
  |zero=>intro c h0 hc hcT;(obtain rfl:c=0:=by omega);refine⟨0,hc,hcT,fun d hd hnb=>?_⟩;obtain⟨hne,v,hv,u,hu,e⟩:=needB_iff.1 hnb;obtain⟨hv1,hv2⟩:=cls_iff.1 hv;have h1:=h.needs v hv1 u hu;have h2:=h.lo u (adj_lt hx hv1 hu);omega
  |succ m ih=>
   intro c hcm hc hcT;by_cases hall:∀d,d<count→needB xss of c d=true→d∈T
   ·exact⟨c,hc,hcT,hall⟩
   (have:∃d,d<count∧needB xss of c d=true∧d∉T:=by apply Classical.byContradiction;intro hno;exact hall fun d hd hnb=>Classical.byContradiction fun hdT=>hno ⟨d,hd,hnb,hdT⟩);obtain⟨d,hd,hnb,hdT⟩:=this;obtain⟨hne,v,hv,u,hu,e⟩:=needB_iff.1 hnb;obtain⟨hv1,hv2⟩:=cls_iff.1 hv;have h1:=h.needs v hv1 u hu;have h2:=h.lo u (adj_lt hx hv1 hu);exact ih d (by omega) hd hdT
 obtain⟨c,hc,hcT⟩:=hn;exact key c c (Nat.le_refl _) hc hcT
theorem full_of_nodup {T:List Nat} {count:Nat} (hn:T.Nodup) (hT:∀c,c∈T→c<count) (hl:T.length=count):∀c,c<count→c∈T:=by
 intro c hc;apply Classical.byContradiction;intro hcT;have h1:(c::T).length≤(List.range count).length:=by
  (refine List.Nodup.length_le_of_subset (List.nodup_cons.2 ⟨hcT,hn⟩) fun x hx=>?_);rcases List.mem_cons.1 hx with rfl|hx
  ·exact List.mem_range.2 hc
  exact List.mem_range.2 (hT x hx)
 simp only[List.length_cons,List.length_range]at h1;omega
theorem Good.told (h:Good xss of count) (hT:∀c,c∈T→c<count) (hp:Pre xss (repOf xss of) (T.map (fst' xss.length of))) (hfull:∀c,c<count→c∈T):Told xss (repOf xss of) (T.map (fst' xss.length of)):=
 ⟨hp,fun i hi e=>by obtain⟨c,hc,ec⟩:=h.num hi;rw[←e,h.rep_at ec];exact List.mem_map_of_mem (hfull c hc)⟩
theorem Good.mem_eq (h:Good xss of count) {c:Nat} (hc:c<count):mem xss.length (repOf xss of) (fst' xss.length of c)=cls xss.length of c:=by
 unfold mem cls;apply List.filter_congr;intro v hv;have hv':=List.mem_range.1 hv;obtain⟨d,hd,ed⟩:=h.num hv';rw[h.rep_at ed,ed];rw[Bool.eq_iff_iff,beq_iff_eq,beq_iff_eq];constructor
 ·intro e;rw[h.fst_inj hd hc e]
 intro e;have:d=c:=by omega
 rw[this]
end
def rowsTo (count k:Nat) (of:Nat→Int):List (List Int):=(List.range count).map fun c=>(cls k of c).map fun(v:Nat)=>(v:Int)
theorem rowsTo_zero (count:Nat) (of:Nat→Int):rowsTo count 0 of=List.replicate count []:=by apply List.ext_getElem?;intro i;by_cases hi:i<count<;>simp[rowsTo,cls,hi]
theorem cls_succ (k:Nat) (of:Nat→Int) (c:Nat):cls (k+1) of c=cls k of c++if of k=c then [k]else []:=by unfold cls;rw[List.range_succ,List.filter_append];congr 1;by_cases h:of k=(c:Int)<;>simp[h]
theorem rowsTo_some {count k c:Nat} {of:Nat→Int} (hc:c<count):(rowsTo count k of)[c]? =some ((cls k of c).map fun(v:Nat)=>(v:Int)):=by simp[rowsTo,hc]
theorem rowsTo_succ {count k c:Nat} {of:Nat→Int} (hc:c<count) (h:of k=c):rowsTo count (k+1) of=(rowsTo count k of).set c ((cls k of c).map (fun(v:Nat)=>(v:Int))++[(k:Int)]):=by
 apply List.ext_getElem?;intro i;rw[List.getElem?_set];by_cases hi:i<count
 ·by_cases e:c=i
  ·subst e;simp[rowsTo,hi,cls_succ,h]
  (have:¬(c:Int)=(i:Int):=by omega);simp[rowsTo,hi,cls_succ,h,e,this]
 have:c≠i:=by omega
 simp[rowsTo,hi,this]
def cntB (count:Nat) (h:Nat→Bool):Nat:=(List.range count).countP h
theorem cntB_le (count:Nat) (h:Nat→Bool):cntB count h≤count:=by have:=List.countP_le_length (p:=h) (l:=List.range count);simpa[cntB]using this
theorem cntB_false (count:Nat):cntB count (fun _=>false)=0:=by simp[cntB]
theorem cntB_congr {count:Nat} {h h':Nat→Bool} (e:∀d,d<count→h d=h' d):cntB count h=cntB count h':=
 List.countP_congr fun d hd=>by rw[e d (List.mem_range.1 hd)]
theorem cntB_add :∀(count:Nat) (h:Nat→Bool) (d:Nat),d<count→h d=false→cntB count (fun x=>h x||x==d)=cntB count h+1:=by
 intro count
 induction count with
 |zero=>intro h d hd;omega
 |succ m ih=>
  intro h d hd h0;simp only[cntB,List.range_succ,List.countP_append,List.countP_cons,List.countP_nil];by_cases e:d=m
  ·subst e;(have:(List.range d).countP (fun x=>h x||x==d)=(List.range d).countP h:=by apply List.countP_congr;intro v hv;(have:v≠d:=by have:=List.mem_range.1 hv;omega);simp[this]);rw[this];simp[h0]
  have h1:=ih h d (by omega) h0;simp only[cntB]at h1;rw[h1];(have:(m==d)=false:=by simp;omega);rw[this,Bool.or_false];omega
theorem cntB_zero {count:Nat} {h:Nat→Bool} (h0:cntB count h=0) {d:Nat} (hd:d<count):h d=false:=by
 cases e:h d with
 |false=>rfl
 |true=>have:0<(List.range count).countP h:=List.countP_pos_iff.2 ⟨d,List.mem_range.2 hd,e⟩;simp only[cntB]at h0;omega
section
variable {xss:List (List Int)} {of:Nat→Int} {count:Nat}
def hit (dn:List Nat) (c:Nat):Nat→Bool:=fun d=>dn.contains d&&d !=c
theorem hit_nil (c:Nat):hit [] c=fun _=>false:=by funext d;simp[hit]
theorem hit_same {dn:List Nat} {c d:Nat} (h:d=c∨hit dn c d=true):hit (dn++[d]) c=hit dn c:=by
 funext x;simp only[hit,List.contains_eq_mem,List.mem_append,List.mem_singleton]at h ⊢;by_cases e:x=d
 ·subst e;rcases h with rfl|h
  ·simp
  simp at h;simp[h]
 simp[e]
theorem hit_new {dn:List Nat} {c d:Nat} (h:d≠c):hit (dn++[d]) c=fun x=>hit dn c x||x==d:=by
 funext x;simp only[hit,List.contains_eq_mem,List.mem_append,List.mem_singleton];by_cases e:x=d
 ·subst e;simp[h]
 simp[e]
def waitTo (xss:List (List Int)) (of:Nat→Int) (count c:Nat) (h:Nat→Bool):Nat→Int:=fun x=>if x<c then(cntB count (needB xss of x):Int)else if x=c then(cntB count h:Int)else 0
def usersTo (xss:List (List Int)) (of:Nat→Int) (count c:Nat) (h:Nat→Bool):List (List Int):=
 (List.range count).map fun d=>((List.range c).filter fun x=>needB xss of x d).map (fun(v:Nat)=>(v:Int))++if h d then [(c:Int)]else []
def lastOf (h:Nat→Bool):Int→Int:=fun k=>if 0≤k∧h k.toNat=true then 1 else 0
theorem lastOf_false :lastOf (fun _=>false)=fun _=>0:=by funext k;simp[lastOf]
theorem lastOf_at (h:Nat→Bool) (d:Nat):lastOf h (d:Int)=if h d=true then 1 else 0:=by simp[lastOf]
theorem lastOf_put (h:Nat→Bool) (d:Nat):(fun x=>if x=(d:Int)then 1 else lastOf h x)=lastOf (fun x=>h x||x==d):=by
 funext x;simp only[lastOf];by_cases e:x=(d:Int)
 ·subst e;simp
 rw[if_neg e];by_cases h0:0≤x
 ·(have:(x.toNat==d)=false:=by simp;omega);simp[this]
 simp[h0]
theorem waitTo_add {c d:Nat} {h:Nat→Bool} (hd:d<count) (h0:h d=false):Tarjan.upd (waitTo xss of count c h) c ((cntB count h:Int)+1)=waitTo xss of count c (fun x=>h x||x==d):=by
 funext x;simp only[Tarjan.upd,waitTo];by_cases e:x=c
 ·subst e;rw[if_pos rfl,if_neg (by omega),if_pos rfl,cntB_add count h d hd h0];rfl
 rw[if_neg e,if_neg e,if_neg e]
theorem waitTo_at (c:Nat) (h:Nat→Bool):waitTo xss of count c h c=cntB count h:=by simp[waitTo]
theorem waitTo_next (c:Nat):waitTo xss of count c (needB xss of c)=waitTo xss of count (c+1) (fun _=>false):=by
 funext x;simp only[waitTo];by_cases h1:x<c
 ·rw[if_pos h1,if_pos (by omega)]
 rw[if_neg h1];by_cases h2:x=c
 ·subst h2;rw[if_pos rfl,if_pos (by omega)]
 rw[if_neg h2,if_neg (by omega),cntB_false];split<;>rfl
theorem usersTo_length (c:Nat) (h:Nat→Bool):(usersTo xss of count c h).length=count:=by simp[usersTo]
theorem usersTo_some {c d:Nat} {h:Nat→Bool} (hd:d<count):(usersTo xss of count c h)[d]? =some (((List.range c).filter fun x=>needB xss of x d).map (fun(v:Nat)=>(v:Int))++if h d then [(c:Int)]else []):=by simp[usersTo,hd]
theorem usersTo_add {c d:Nat} {h:Nat→Bool} (hd:d<count) (h0:h d=false):
  usersTo xss of count c (fun x=>h x||x==d)=(usersTo xss of count c h).set d (((List.range c).filter fun x=>needB xss of x d).map (fun(v:Nat)=>(v:Int))++[(c:Int)]):=by
 apply List.ext_getElem?;intro i;rw[List.getElem?_set];by_cases hi:i<count
 ·rw[usersTo_some hi];by_cases e:d=i
  ·subst e;simp[usersTo_length,hi]
  rw[if_neg e,usersTo_some hi];(have:(i==d)=false:=by simp;omega);rw[this,Bool.or_false]
 have:d≠i:=by omega
 simp[usersTo,hi,this]
theorem usersTo_next (c:Nat):usersTo xss of count c (needB xss of c)=usersTo xss of count (c+1) (fun _=>false):=by
 unfold usersTo;apply List.map_congr_left;intro d _;rw[List.range_succ,List.filter_append,List.map_append];by_cases h:needB xss of c d=true
 ·simp[h]
 simp[h]
theorem usersTo_zero :usersTo xss of count 0 (fun _=>false)=List.replicate count []:=by apply List.ext_getElem?;intro i;by_cases hi:i<count<;>simp[usersTo,hi]
theorem waitTo_zero :waitTo xss of count 0 (fun _=>false)=fun _=>0:=by
 funext x;simp only[waitTo,cntB_false];split
 ·omega
 split<;>rfl
def metTo (xss:List (List Int)) (of:Nat→Int) (c p:Nat):List Nat:=((cls xss.length of c).take p).flatMap fun v=>(adjOf xss v).map fun u=>(of u).toNat
theorem metTo_zero (c:Nat):metTo xss of c 0=[]:=by simp[metTo]
theorem metTo_all (c:Nat):metTo xss of c (cls xss.length of c).length=alls xss of c:=by simp[metTo,alls]
theorem metTo_succ {c p v:Nat} (h:(cls xss.length of c)[p]? =some v):metTo xss of c (p+1)=metTo xss of c p++(adjOf xss v).map fun u=>(of u).toNat:=by unfold metTo;rw[List.take_add_one,h,List.flatMap_append];simp
theorem hit_alls (c:Nat):hit (alls xss of c) c=needB xss of c:=rfl
end
open Go.RowKit
theorem keyed_int :Maps.Keyed Tryz.prog 3:=Maps.int_keyed Tryz.underlying3
theorem zero_int (w:World):(zeroValue 3).run Tryz.prog w= .ok (.int .i64 0) w:=by kernel_rfl
def imapOn (w:World) (b n:Nat) (f:Int→Int):Prop:=
 ∃D:DataW Unit,w.ownsMap Tryz.prog 3 (plainElem Tryz.prog 3) b n D∧Maps.IsMap D∧∀k:Int,(Lit.int .i64 k).wf=true→D.atKey (.int .i64 k) (.lit (.int .i64 0))= .lit (.int .i64 (f k))
def imapR (b n:Nat) (f:Int→Int):Asn:=
 ⟨fun w F=>imapOn w b n f∧F=[b],
  fun w w' F ⟨⟨D,⟨es,clock,hb,hr⟩,h2,h3⟩,hF⟩ hk=>⟨⟨D,⟨es,clock,by rw[hk b (by rw[hF];simp)];exact hb,hr⟩,h2,h3⟩,hF⟩,
  fun w F ⟨⟨D,h1,_⟩,hF⟩=>by rw[hF];exact⟨by simp,fun b' hb=>by simp at hb;subst hb;exact h1.lt⟩⟩
section
variable {w0 w w':World} {As:List Asn} {b n:Nat} {f:Int→Int}
theorem Sep.imap_new (h:Sep w0 w As):Sep w0 (w.alloc (.map #[] 0)) (imapR w.heap.size 0 (fun _=>0)::As):=
 h.new ((Below.refl _ _).alloc (Nat.le_refl _) _) (F:=[w.heap.size]) ⟨⟨.map [],World.ownsMap_made w _ _ _,⟨[],rfl⟩,fun k _=>rfl⟩,rfl⟩ (by simp)
set_option maxRecDepth 100000 in
theorem Sep.imap_look (i:Nat) (h:Sep w0 w As) (hi:As[i]? =some (imapR b n f)) (k:Int) (hk:(Lit.int .i64 k).wf=true):
  (Instr.lookup 124 (.map (some b)) (.int .i64 k) false).run Tryz.prog w= .ok (.int .i64 (f k)) w:=by
 obtain⟨F,⟨⟨D,h1,h2,h3⟩,_⟩,_⟩:=h.get i hi;obtain⟨c,hrun,hat,_⟩:=h1.lookup_int keyed_int Tryz.underlying124 Tryz.underlying3 (zero_int w) (Maps.keyOf_int_mk Tryz.underlying3 hk);have hc:f k=c:=by have e:=(h3 k hk).symm.trans hat;injection e with e;injection e
 rw[hrun,hc]
set_option maxRecDepth 100000 in
theorem Sep.imap_put (i:Nat) (h:Sep w0 w As) (hi:As[i]? =some (imapR b n f)) (hn:n<maxLen) (k v:Int) (hk:(Lit.int .i64 k).wf=true) (hv:(Lit.int .i64 v).wf=true):
  ∃w',(Instr.mapUpdate 124 (.map (some b)) (.int .i64 k) (.int .i64 v)).run Tryz.prog w= .ok () w'∧Sep w0 w' (As.set i (imapR b (n+1) (fun x=>if x=k then v else f x))):=by
 obtain⟨F,⟨⟨D,h1,h2,h3⟩,hF⟩,_⟩:=h.get i hi;obtain⟨w',hrun,hown,hgrow⟩:=h1.update keyed_int Tryz.underlying124 hn (Maps.keyOf_int_mk Tryz.underlying3 hk) (plainElem_int Tryz.underlying3 hv);refine⟨w',hrun,h.step i hi fun F' ⟨_,hF'⟩ _=>⟨[b],⟨⟨_,hown,h2.put _ _,fun x hx=>?_⟩,rfl⟩,fun x hx=>by rw[hF'];exact .inl hx,by rw[hF'];exact Keeps.of_grown hgrow⟩⟩;by_cases e:x=k
 ·subst e;(show _=DataW.lit (Lit.int IntKind.i64 (if x=x then v else f x)));rw[if_pos rfl];exact Maps.atKey_put_same h2 (by simp[WideAt.IsKeyLit]) _ _
 show _=DataW.lit (Lit.int IntKind.i64 (if x=k then v else f x))
 rw[if_neg e];rw[Maps.atKey_put_other (by intro e';injection e' with _ e';exact e e')];exact h3 x hx
theorem Sep.imap_clear (i:Nat) (h:Sep w0 w As) (hi:As[i]? =some (imapR b n f)) (ty:TypeId):
  ∃w',(Builtin.clear_ #[124] ty #[.map (some b)]).run Tryz.prog w= .ok (.tuple #[]) w'∧Sep w0 w' (As.set i (imapR b 0 (fun _=>0))):=by
 obtain⟨F,⟨⟨D,⟨es,clock,hb,hr⟩,h2,h3⟩,hF⟩,_⟩:=h.get i hi;refine⟨ChangeMaps.setBlock w b (.map #[] clock),?_,h.step i hi fun F' ⟨_,hF'⟩ _=>⟨[b],⟨⟨.map [],⟨#[],clock,ChangeMaps.heap_setBlock_same hb _,⟨by simp,MapKept.stamped_empty clock,by simp⟩,Nat.le_refl _,rfl⟩,⟨[],rfl⟩,fun k _=>rfl⟩,rfl⟩,fun x hx=>by rw[hF'];exact .inl hx,?_⟩⟩
 ·simp[Builtin.clear_,run_underlying Tryz.underlying124,MapKept.run_getObj_map hb,MapKept.run_setObj_map _ hb,Result.andThen,ChangeMaps.setBlock]
 rw[hF'];exact⟨rfl,rfl,rfl,by simp[ChangeMaps.setBlock],fun k _ hk=>ChangeMaps.heap_setBlock_other hb _ (by simpa using hk)⟩
end
theorem ret_int {k:IntKind} {a b:Int} (h:a=b):Ending.returned (.int k a)= .returned (.int k b):=by rw[h]
set_option maxHeartbeats 400000 in
theorem check_any (w:World) (v:Value) (xss:List (List Int)) (h:RowsAt w v xss):
  Calls Tryz.prog 75 #[v] w fun e w'=>e= .returned (.int .i64 (refused xss))∧w=w':=by
 obtain⟨A,c,rfl,hm⟩:=h.shape;unfold maxLen at hm;by_cases h0:xss.length≤1024
 case neg=>(have h1:1024<xss.length:=by omega);have hr:=Lh (refused_long h1);go_enter Tryz.func75,Tryz.ntmps75;go_wp2_with fail;go_ret;exact⟨ret_int hr.out.symm,rfl⟩
 go_enter Tryz.func75,Tryz.ntmps75;go_wp2_with fail;go_loop[2,14] (fun r i=>∃k:Nat,k≤xss.length∧i= .int .i64 k∧r= .int .i64 0∧Hid (∀j (hj:j<xss.length),j<k→xss[j].length≤1024)) (fun _ i=>xss.length-(intOf i).toNat)
 case atStart=>exact⟨0,Nat.zero_le _,rfl,rfl,fun j _ hj=>absurd hj (Nat.not_lt_zero _)⟩
 obtain⟨k,hk,rfl,rfl,hall⟩:=hrel;by_cases hlt:k<xss.length
 ·obtain⟨ad,c',u,hv,h3,h4⟩:=h.at_ hlt;obtain⟨A',c'',rfl,hm'⟩:=h4.shape;unfold maxLen at hm';(obtain⟨rfl,rfl⟩:A=some ad∧c=c':=by simpa using hv);by_cases hlong:xss[k].length≤1024
  ·go_wp2_with fail;go_round
   case rel=>exact⟨k+1,by omega,by go_num,rfl,fun j hj hj'=>by
    rcases Nat.lt_or_ge j k with h'|h'
    ·exact hall j hj h'
    (obtain rfl:j=k:=by omega);exact hlong⟩
   case measure=>simp[intOf];omega
  have hr:=Lh (refused_row hlt (by omega));go_wp2_with fail;go_ret;exact⟨ret_int hr.out.symm,rfl⟩
 have hall':Hid (∀j (hj:j<xss.length),xss[j].length≤1024):=fun j hj=>hall j hj (by omega)
 clear hall;go_wp2_with fail;go_loop[2,24] (fun r i=>∃k:Nat,k≤xss.length∧i= .int .i64 k∧r= .int .i64 0∧Hid (∀j (hj:j<xss.length) i (hi:i<xss[j].length),j<k→0≤xss[j][i]∧xss[j][i]<(xss.length:Int))) (fun _ i=>xss.length-(intOf i).toNat)
 case atStart=>exact⟨0,Nat.zero_le _,rfl,rfl,fun j _ _ _ hj=>absurd hj (Nat.not_lt_zero _)⟩
 obtain⟨k,hk,rfl,rfl,hgood⟩:=hrel;by_cases hlt:k<xss.length
 ·obtain⟨ad,c',u,hv,h3,h4⟩:=h.at_ hlt;obtain⟨A',c'',rfl,hm'⟩:=h4.shape;unfold maxLen at hm';(obtain⟨rfl,rfl⟩:A=some ad∧c=c':=by simpa using hv);go_wp2_with fail;go_loop[2,30] (fun r i=>∃p:Nat,p≤xss[k].length∧i= .int .i64 p∧r= .int .i64 0∧Hid (∀i (hi:i<xss[k].length),i<p→0≤xss[k][i]∧xss[k][i]<(xss.length:Int))) (fun _ i=>xss[k].length-(intOf i).toNat)
  case atStart=>exact⟨0,Nat.zero_le _,rfl,rfl,fun _ _ hj=>absurd hj (Nat.not_lt_zero _)⟩
  obtain⟨p,hp,rfl,rfl,hrow⟩:=hrel;by_cases hplt:p<xss[k].length
  ·obtain⟨ad',c3,hv',g3⟩:=h4.at_ hplt;(obtain⟨rfl,rfl⟩:A'=some ad'∧c''=c3:=by simpa using hv');by_cases hbad:xss[k][p]<0∨(xss.length:Int)≤xss[k][p]
   ·have hr:=Lh (refused_bad h0 hall'.out hlt hplt hbad);(rcases hbad with hbad|hbad);all_goals
     go_wp2_with fail
     go_ret
     exact⟨ret_int hr.out.symm,rfl⟩
   (have hb1:0≤xss[k][p]:=by omega);(have hb2:xss[k][p]<(xss.length:Int):=by omega);clear hbad;go_wp2_with fail;go_round
   case rel=>exact⟨p+1,by omega,by go_num,rfl,fun j hj hj'=>by
    rcases Nat.lt_or_ge j p with h'|h'
    ·exact hrow j hj h'
    (obtain rfl:j=p:=by omega);exact⟨hb1,hb2⟩⟩
   case measure=>simp[intOf];omega
  go_wp2_with fail;go_round
  case rel=>exact⟨k+1,by omega,by go_num,rfl,fun j hj i hi hj'=>by
   rcases Nat.lt_or_ge j k with h'|h'
   ·exact hgood j hj i hi h'
   (obtain rfl:j=k:=by omega);exact hrow i hi (by omega)⟩
  case measure=>simp[intOf];omega
 have hr:=Lh (refused_none h0 hall'.out (fun j hj i hi=>hgood j hj i hi (by omega)));go_wp2_with fail;go_ret;exact⟨ret_int hr.out.symm,rfl⟩
end Go.Proofs.YtimkjnbihlgbiaaGreat
