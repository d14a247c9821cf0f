/- ModelAG, ModelWG, DocB, laid together. -/
import Derived.Test.YtimkjnbihlgbiaaGreatJ11
import Derived.Test.YtimkjnbihlgbiaaGreatJ14
namespace Go.Proofs.YtimkjnbihlgbiaaGreat
open Go.RowKit
set_option linter.unusedVariables false
def absentE (Ns:List TN) (p:List UInt8):Int:=if lookE Ns p p.length=0 then(if hasG Ns p=true then 23 else 0)else lookE Ns p p.length
def presentE (Ns:List TN) (p:List UInt8):Int:=if lookE Ns p p.length=0 then(if hasG Ns p=true then 0 else 21)else lookE Ns p p.length
def nodeL (Ns:List TN) (p:List UInt8):TN:=if lookE Ns p p.length=0 then nodeOr Ns p else⟨[],0,0⟩
def fileE (Ns:List TN) (p:List UInt8):Int:=if presentE Ns p=0 then(if(nodeL Ns p).file<0 then 24 else 0)else presentE Ns p
def bothE (Ns:List TN) (p tz:List UInt8):Int:=if fileE Ns p=0 then absentE Ns tz else fileE Ns p
theorem lookV_L (Ns:List TN) (p:List UInt8):lookV Ns p (lookE Ns p p.length)=nodeV (nodeL Ns p):=by unfold lookV nodeL;split<;>rfl
section
variable {w0 w:World} {W bn bf bk next:Nat} {Ns:List TN} {Fs:List FEnt} {Lk:List (Lit×Value)} {R:List Asn}
theorem gAs_app (S:List Asn):gAs W bn bf bk next Ns Fs Lk (R++S)=gAs W bn bf bk next Ns Fs Lk R++S:=by simp[gAs]
theorem gAs_push {X:Asn} (h:Sep w0 w (X::gAs W bn bf bk next Ns Fs Lk R)):Sep w0 w (gAs W bn bf bk next Ns Fs Lk (R++[X])):=by rw[gAs_app];exact h.perm (List.perm_append_singleton _ _).symm
theorem gAs_pop {X:Asn} (h:Sep w0 w (gAs W bn bf bk next Ns Fs Lk (R++[X]))):Sep w0 w (X::gAs W bn bf bk next Ns Fs Lk R):=by rw[gAs_app]at h;exact h.perm (List.perm_append_singleton _ _)
theorem gAs_pops {S:List Asn} (h:Sep w0 w (gAs W bn bf bk next Ns Fs Lk (R++S))):Sep w0 w (S++gAs W bn bf bk next Ns Fs Lk R):=by rw[gAs_app]at h;exact h.perm List.perm_append_comm
theorem gAs_pushs {S:List Asn} (h:Sep w0 w (S++gAs W bn bf bk next Ns Fs Lk R)):Sep w0 w (gAs W bn bf bk next Ns Fs Lk (R++S)):=by rw[gAs_app];exact h.perm List.perm_append_comm
theorem absent_g (hS:Sep w0 w (gAs W bn bf bk next Ns Fs Lk R)) {p:List UInt8} (hp:p.length≤1048576) (ha:Ascii p):
  Calls Tryz.prog 137 #[.pointer (some ⟨W,0,none⟩),strV p] w fun e w'=>e= .returned (.int .i64 (absentE Ns p))∧Sep w0 w' (gAs W bn bf bk next Ns Fs Lk R):=by
 have hlk:=look_g hS hp ha;rw[lookV_L]at hlk;unfold nodeV at hlk;unfold absentE;have hB:lookB Ns p (lookE Ns p p.length)=(decide (lookE Ns p p.length=0)&&hasG Ns p):=rfl;rw[hB]at hlk;generalize lookE Ns p p.length=e at hlk ⊢;generalize(nodeL Ns p).file=fi at hlk;generalize(nodeL Ns p).mode=md at hlk;generalize hasG Ns p=hb at hlk ⊢;clear hS ha hB;by_cases h0:e=0
 ·subst h0;rw[if_pos rfl];cases hb with
  |true=>have hlk:=Lh hlk;unfold strV at*;go_enter Tryz.func137,Tryz.ntmps137;go_wp2_with(go_at_call 158;refine hlk.out.mono ?_;rintro e w1 ⟨rfl,hS1⟩;replace hS1:=Lh hS1);go_ret;exact⟨rfl,Sep.drop 1 (hS1.out.bN 137 #[.int .i64 fi,.int .i64 md])⟩
  |false=>have hlk:=Lh hlk;unfold strV at*;go_enter Tryz.func137,Tryz.ntmps137;go_wp2_with(go_at_call 158;refine hlk.out.mono ?_;rintro e w1 ⟨rfl,hS1⟩;replace hS1:=Lh hS1);go_ret;exact⟨rfl,Sep.drop 1 (hS1.out.bN 137 #[.int .i64 fi,.int .i64 md])⟩
 rw[if_neg h0];have hq:(e==0)=false:=by simpa using h0
 rw[decide_eq_false h0,Bool.false_and]at hlk;have hlk:=Lh hlk;clear h0;unfold strV at*;go_enter Tryz.func137,Tryz.ntmps137;go_wp2_with(go_at_call 158;refine hlk.out.mono ?_;rintro e w1 ⟨rfl,hS1⟩;replace hS1:=Lh hS1);go_ret;exact⟨rfl,Sep.drop 1 (hS1.out.bN 137 #[.int .i64 fi,.int .i64 md])⟩
theorem present_g (hS:Sep w0 w (gAs W bn bf bk next Ns Fs Lk R)) {p:List UInt8} (hp:p.length≤1048576) (ha:Ascii p):
  Calls Tryz.prog 154 #[.pointer (some ⟨W,0,none⟩),strV p] w fun e w'=>e= .returned (.tuple #[nodeV (nodeL Ns p),.int .i64 (presentE Ns p)])∧Sep w0 w' (gAs W bn bf bk next Ns Fs Lk R):=by
 have hS0:=hS.bN 137 #[.int .i64 0,.int .i64 0];have hlk:=look_g (R:=R++[.box w.heap.size 137 #[.int .i64 0,.int .i64 0]]) (gAs_push hS0) hp ha;rw[lookV_L]at hlk;unfold nodeV at hlk ⊢;unfold presentE;have hB:lookB Ns p (lookE Ns p p.length)=(decide (lookE Ns p p.length=0)&&hasG Ns p):=rfl;rw[hB]at hlk;generalize lookE Ns p p.length=e at hlk ⊢;generalize(nodeL Ns p).file=fi at hlk ⊢;generalize(nodeL Ns p).mode=md at hlk ⊢;generalize hasG Ns p=hb at hlk ⊢;clear hS ha hB hS0;by_cases h0:e=0
 ·subst h0;rw[if_pos rfl];cases hb with
  |true=>have hlk:=Lh hlk;unfold strV at*;go_enter Tryz.func154,Tryz.ntmps154;go_wp2_with(go_at_call 158;refine hlk.out.mono ?_;rintro e w1 ⟨rfl,hS1⟩;(have hS2:=(gAs_pop hS1).bN 137 #[.int .i64 fi,.int .i64 md]);(have c0:=hS2.bC 1 rfl 0);(have c1:=hS2.bC 1 rfl 1);(have z0:=hS2.bF 1 rfl 0);(have z1:=hS2.bF 1 rfl 1);simp only[gA,gB,gC]at c0 c1;replace hS2:=Lh hS2;clear hS1);have hS3:=(hS2.out.bS 1 rfl 0 (.int .i64 fi)).bS 1 rfl 1 (.int .i64 md);have y0:=hS3.bC 1 rfl 0;have y1:=hS3.bC 1 rfl 1;refine bodyPost_ret (node_results2 rfl rfl y0 y1) rfl ?_;exact⟨rfl,Sep.drop 2 hS3⟩
  |false=>have hlk:=Lh hlk;unfold strV at*;go_enter Tryz.func154,Tryz.ntmps154;go_wp2_with(go_at_call 158;refine hlk.out.mono ?_;rintro e w1 ⟨rfl,hS1⟩;(have hS2:=(gAs_pop hS1).bN 137 #[.int .i64 fi,.int .i64 md]);(have c0:=hS2.bC 1 rfl 0);(have c1:=hS2.bC 1 rfl 1);(have z0:=hS2.bF 1 rfl 0);(have z1:=hS2.bF 1 rfl 1);simp only[gA,gB,gC]at c0 c1;replace hS2:=Lh hS2;clear hS1);have hS3:=(hS2.out.bS 1 rfl 0 (.int .i64 fi)).bS 1 rfl 1 (.int .i64 md);have y0:=hS3.bC 1 rfl 0;have y1:=hS3.bC 1 rfl 1;refine bodyPost_ret (node_results2 rfl rfl y0 y1) rfl ?_;exact⟨rfl,Sep.drop 2 hS3⟩
 rw[if_neg h0];have hq:(e==0)=false:=by simpa using h0
 rw[decide_eq_false h0,Bool.false_and]at hlk;clear h0;have hlk:=Lh hlk;unfold strV at*;go_enter Tryz.func154,Tryz.ntmps154;go_wp2_with(go_at_call 158;refine hlk.out.mono ?_;rintro e w1 ⟨rfl,hS1⟩;(have hS2:=(gAs_pop hS1).bN 137 #[.int .i64 fi,.int .i64 md]);(have c0:=hS2.bC 1 rfl 0);(have c1:=hS2.bC 1 rfl 1);(have z0:=hS2.bF 1 rfl 0);(have z1:=hS2.bF 1 rfl 1);simp only[gA,gB,gC]at c0 c1;replace hS2:=Lh hS2;clear hS1);have hS3:=(hS2.out.bS 1 rfl 0 (.int .i64 fi)).bS 1 rfl 1 (.int .i64 md);have y0:=hS3.bC 1 rfl 0;have y1:=hS3.bC 1 rfl 1;refine bodyPost_ret (node_results2 rfl rfl y0 y1) rfl ?_;exact⟨rfl,Sep.drop 2 hS3⟩
theorem file_g (hS:Sep w0 w (gAs W bn bf bk next Ns Fs Lk R)) {p:List UInt8} (hp:p.length≤1048576) (ha:Ascii p):
  Calls Tryz.prog 136 #[.pointer (some ⟨W,0,none⟩),strV p] w fun e w'=>e= .returned (.tuple #[nodeV (nodeL Ns p),.int .i64 (fileE Ns p)])∧Sep w0 w' (gAs W bn bf bk next Ns Fs Lk R):=by
 have hS0:=hS.bN 137 #[.int .i64 0,.int .i64 0];have hlk:=present_g (R:=R++[.box w.heap.size 137 #[.int .i64 0,.int .i64 0]]) (gAs_push hS0) hp ha;unfold nodeV at hlk ⊢;unfold fileE;generalize presentE Ns p=e at hlk ⊢;generalize(nodeL Ns p).file=fi at hlk ⊢;generalize(nodeL Ns p).mode=md at hlk ⊢;clear hS ha hS0;by_cases h0:e=0
 ·subst h0;rw[if_pos rfl];by_cases hf:fi<0
  ·rw[if_pos hf];have hlk:=Lh hlk;unfold strV at*;go_enter Tryz.func136,Tryz.ntmps136;go_wp2_with(go_at_call 154;refine hlk.out.mono ?_;rintro e w1 ⟨rfl,hS1⟩;(have hS2:=(gAs_pop hS1).bN 137 #[.int .i64 fi,.int .i64 md]);(have c0:=hS2.bC 1 rfl 0);(have c1:=hS2.bC 1 rfl 1);(have z0:=hS2.bF 1 rfl 0);(have z1:=hS2.bF 1 rfl 1);simp only[gA,gB,gC]at c0 c1;replace hS2:=Lh hS2;clear hS1);have hS3:=(hS2.out.bS 1 rfl 0 (.int .i64 fi)).bS 1 rfl 1 (.int .i64 md);have y0:=hS3.bC 1 rfl 0;have y1:=hS3.bC 1 rfl 1;refine bodyPost_ret (node_results2 rfl rfl y0 y1) rfl ?_;exact⟨rfl,Sep.drop 2 hS3⟩
  rw[if_neg hf];have hlk:=Lh hlk;unfold strV at*;go_enter Tryz.func136,Tryz.ntmps136;go_wp2_with(go_at_call 154;refine hlk.out.mono ?_;rintro e w1 ⟨rfl,hS1⟩;(have hS2:=(gAs_pop hS1).bN 137 #[.int .i64 fi,.int .i64 md]);(have c0:=hS2.bC 1 rfl 0);(have c1:=hS2.bC 1 rfl 1);(have z0:=hS2.bF 1 rfl 0);(have z1:=hS2.bF 1 rfl 1);simp only[gA,gB,gC]at c0 c1;replace hS2:=Lh hS2;clear hS1);have hS3:=(hS2.out.bS 1 rfl 0 (.int .i64 fi)).bS 1 rfl 1 (.int .i64 md);have y0:=hS3.bC 1 rfl 0;have y1:=hS3.bC 1 rfl 1;refine bodyPost_ret (node_results2 rfl rfl y0 y1) rfl ?_;exact⟨rfl,Sep.drop 2 hS3⟩
 rw[if_neg h0];have hq:(e==0)=false:=by simpa using h0
 clear h0;have hlk:=Lh hlk;unfold strV at*;go_enter Tryz.func136,Tryz.ntmps136;go_wp2_with(go_at_call 154;refine hlk.out.mono ?_;rintro e w1 ⟨rfl,hS1⟩;(have hS2:=(gAs_pop hS1).bN 137 #[.int .i64 fi,.int .i64 md]);(have c0:=hS2.bC 1 rfl 0);(have c1:=hS2.bC 1 rfl 1);(have z0:=hS2.bF 1 rfl 0);(have z1:=hS2.bF 1 rfl 1);simp only[gA,gB,gC]at c0 c1;replace hS2:=Lh hS2;clear hS1);have hS3:=(hS2.out.bS 1 rfl 0 (.int .i64 fi)).bS 1 rfl 1 (.int .i64 md);have y0:=hS3.bC 1 rfl 0;have y1:=hS3.bC 1 rfl 1;refine bodyPost_ret (node_results2 rfl rfl y0 y1) rfl ?_;exact⟨rfl,Sep.drop 2 hS3⟩
set_option maxRecDepth 100000 in
theorem both_g (hS:Sep w0 w (gAs W bn bf bk next Ns Fs Lk R)) {p tz:List UInt8} (op mode ref:Int) (hp:p.length≤1048576) (ha:Ascii p) (hq:tz.length≤1048576) (hat:Ascii tz):
  Calls Tryz.prog 156 #[.pointer (some ⟨W,0,none⟩),.agg #[.int .i64 op,strV p,strV tz,.int .i64 mode,.int .i64 ref]] w fun e w'=>e= .returned (.tuple #[nodeV (nodeL Ns p),.int .i64 (bothE Ns p tz)])∧Sep w0 w' (gAs W bn bf bk next Ns Fs Lk R):=by
 have hS0:=(hS.bN 49 #[.int .i64 op,strV p,strV tz,.int .i64 mode,.int .i64 ref]).bN 137 #[.int .i64 0,.int .i64 0];simp only[World.size_alloc]at hS0;have d1:=hS0.bC 1 rfl 1;simp only[gA,gB,gC]at d1;have hS1:=hS0.perm (List.Perm.swap _ _ _);have hlk:=file_g (R:=R++[.box w.heap.size 49 #[.int .i64 op,strV p,strV tz,.int .i64 mode,.int .i64 ref],.box (w.heap.size+1) 137 #[.int .i64 0,.int .i64 0]]) (by rw[gAs_app];exact hS1.perm (List.perm_append_comm (l₁:=[_,_]))) hp ha;have hab:∀(W':World) (As:List Asn),Sep w0 W' (gAs W bn bf bk next Ns Fs Lk (R++As))→Calls Tryz.prog 137 #[.pointer (some ⟨W,0,none⟩),strV tz] W' fun e w'=>e= .returned (.int .i64 (absentE Ns tz))∧Sep w0 w' (gAs W bn bf bk next Ns Fs Lk (R++As)):=fun W' As h=>absent_g h hq hat
 unfold nodeV at hlk ⊢;unfold bothE;generalize fileE Ns p=e at hlk ⊢;generalize absentE Ns tz=e2 at hab ⊢;generalize(nodeL Ns p).file=fi at hlk ⊢;generalize(nodeL Ns p).mode=md at hlk ⊢;have hlk':=Lh hlk;have hab':=Lh hab;unfold strV at*;clear hS ha hat hS0 hS1 hlk hab;by_cases h0:e=0
 ·subst h0;rw[if_pos rfl];go_enter Tryz.func156,Tryz.ntmps156;go_wp2_with(first |(go_at_call 136;refine hlk'.out.mono ?_;rintro e w1 ⟨rfl,hS1⟩;(have hS2:=(gAs_pops hS1).bN 137 #[.int .i64 fi,.int .i64 md]);(have c2:=hS2.bC 1 rfl 2);simp only[gA,gB,gC]at c2;(have hab2:=Lh (hab'.out _ _ (gAs_pushs (S:=[_,_,_]) hS2)));clear hS1 hS2)|(go_at_call 137;refine hab2.out.mono ?_;rintro e w3 ⟨rfl,hS3⟩;(have hS4:=gAs_pops hS3);(have f0:=hS4.bC 0 rfl 0);(have f1:=hS4.bC 0 rfl 1);(have c0:=hS4.bC 2 rfl 0);(have c1:=hS4.bC 2 rfl 1);(have z0:=hS4.bF 2 rfl 0);(have z1:=hS4.bF 2 rfl 1);simp only[gA,gB,gC]at c0 c1 f0 f1;(have hS4':=Lh hS4);clear hS3 hS4));have hS5:=(hS4'.out.bS 2 rfl 0 (.int .i64 fi)).bS 2 rfl 1 (.int .i64 md);have y0:=hS5.bC 2 rfl 0;have y1:=hS5.bC 2 rfl 1;refine bodyPost_ret (node_results2 rfl rfl y0 y1) rfl ?_;exact⟨rfl,Sep.drop 3 hS5⟩
 rw[if_neg h0];have hq:(e==0)=false:=by simpa using h0
 clear h0 hab';go_enter Tryz.func156,Tryz.ntmps156;go_wp2_with(go_at_call 136;refine hlk'.out.mono ?_;rintro e w1 ⟨rfl,hS1⟩;(have hS4:=(gAs_pops hS1).bN 137 #[.int .i64 fi,.int .i64 md]);(have f0:=hS4.bC 0 rfl 0);(have f1:=hS4.bC 0 rfl 1);(have c0:=hS4.bC 2 rfl 0);(have c1:=hS4.bC 2 rfl 1);(have z0:=hS4.bF 2 rfl 0);(have z1:=hS4.bF 2 rfl 1);simp only[gA,gB,gC]at c0 c1 f0 f1;(have hS4':=Lh hS4);clear hS1 hS4);have hS5:=(hS4'.out.bS 2 rfl 0 (.int .i64 fi)).bS 2 rfl 1 (.int .i64 md);have y0:=hS5.bC 2 rfl 0;have y1:=hS5.bC 2 rfl 1;refine bodyPost_ret (node_results2 rfl rfl y0 y1) rfl ?_;exact⟨rfl,Sep.drop 3 hS5⟩
end
def dirW (n:Nat):Int:=max 1 (((n:Int)+16-1)/16)
def nB (K:List UInt8→Nat):List TN→Int
 |[]=>0
 |n::Ns=>(if n.file<0 then dirW (K n.path)else 0)+nB K Ns
def nI :List TN→Int
 |[]=>0
 |n::Ns=>(if n.file<0 then 1 else 0)+nI Ns
theorem dirW_le (n:Nat):1≤dirW n∧dirW n≤n+1:=by unfold dirW;omega
theorem nI_le (Ns:List TN):0≤nI Ns∧nI Ns≤Ns.length:=by
 induction Ns with
 |nil=>simp[nI]
 |cons n Ns ih=>unfold nI;rw[List.length_cons];split<;>omega
theorem nB_le {K:List UInt8→Nat} (hK:∀p,K p≤1000) (Ns:List TN):0≤nB K Ns∧nB K Ns≤1001*Ns.length:=by
 induction Ns with
 |nil=>simp[nB]
 |cons n Ns ih=>have h1:=dirW_le (K n.path);have h2:=hK n.path;unfold nB;rw[List.length_cons];split<;>omega
theorem nB_out {K:List UInt8→Nat} {Gs:List TN} (hk:Gs.Pairwise fun a b=>a.path≠b.path) {n:TN} (hn:n∈Gs):
  nB K Gs=(if n.file<0 then dirW (K n.path)else 0)+nB K (Gs.filter fun m=> !(m.path==n.path))∧nI Gs=(if n.file<0 then 1 else 0)+nI (Gs.filter fun m=> !(m.path==n.path))∧Gs.length=(Gs.filter fun m=> !(m.path==n.path)).length+1:=by
 induction Gs with
 |nil=>cases hn
 |cons g Gs ih=>
  obtain⟨h1,h2⟩:=List.pairwise_cons.1 hk;rcases List.mem_cons.1 hn with rfl|hm
  ·(have e:Gs.filter (fun m=> !(m.path==n.path))=Gs:=List.filter_eq_self.2 fun g hg=>by have:=h1 g hg;simpa using fun e=>this e.symm);rw[List.filter_cons];simp only[beq_self_eq_true,Bool.not_true,Bool.false_eq_true,if_false,e];exact⟨rfl,rfl,rfl⟩
  obtain⟨i1,i2,i3⟩:=ih h2 hm;(have hne:(g.path==n.path)=false:=by have:=h1 n hm;simpa using this);rw[List.filter_cons];simp only[hne,Bool.not_false,if_true];unfold nB nI;rw[i1,i2,List.length_cons,List.length_cons,i3];refine⟨by omega,by omega,rfl⟩
theorem nodesG_del (Gs:List TN) (p:List UInt8):delM (nodesG Gs) (.string p)=nodesG (Gs.filter fun m=> !(m.path==p)):=by unfold delM nodesG;rw[List.filter_map];rfl
theorem paths_ne {Ns:List TN} (h:KeysM (nodesG Ns)):Ns.Pairwise fun a b=>a.path≠b.path:=by
 have:=h.ne;unfold nodesG at this;rw[List.pairwise_map]at this;refine this.imp fun {a b} hab e=>hab ?_
 show Lit.string _=Lit.string _
 rw[e]
set_option maxRecDepth 100000 in
set_option maxHeartbeats 4000000 in
theorem weight_g {w0 w:World} {W bn bf bk next:Nat} {Ns:List TN} {Fs:List FEnt} {Lk:List (Lit×Value)} {R:List Asn} (hS:Sep w0 w (gAs W bn bf bk next Ns Fs Lk R)) (hd:DvOk Fs) (hl:Fs.length≤1000) (hNl:Ns.length≤1000) {K:List UInt8→Nat} (hK:∀p,(getM Lk (.string p)).getD (.int .i64 0)= .int .i64 (K p)) (hK9:∀p,K p≤1000):
  Calls Tryz.prog 52 #[.pointer (some ⟨W,0,none⟩)] w fun e w'=>e= .returned (cplx (dirW (K [])+nB K Ns+wB Fs) (1+nI Ns+Fs.length))∧Sep w0 w' (gAs W bn bf bk next Ns Fs Lk R):=by
 have d0:=hS.bC 0 rfl 0;have d2:=hS.bC 0 rfl 2;have hlk:=hS.gm_look 3 rfl keyed_str Tryz.underlying86 (zero_int' _) (keyOf_strV [] (by simp));rw[hK]at hlk;simp only[worldCells,gA,gB,gC,strV]at d0 d2 hlk;have hk9:=hK9 [];have hdr:=dirW_le (K []);have hpa:=fun W=>parts_any (K []:Int) 16 (by omega) (by omega) (by omega) (by omega) W
 have hmx:max (1:Int) (((K []:Int)+16-1)/16)=dirW (K []):=rfl;generalize hq0:((K []:Int)+16-1)/16=q0 at hpa hmx;generalize dirW (K [])=D0 at hmx hdr ⊢;generalize K []=k0 at hlk hq0 hdr hk9 hpa;have hpa':=Lh hpa;have hS':=Lh hS;have hd':=Lh hd;have hK':=Lh hK;have hK9':=Lh hK9;obtain⟨w1,hrg,hS1,hsz⟩:=hS.gm_range 1 rfl keyed_str Tryz.underlying132;have hS1':=Lh hS1;clear hS hS1 hpa hd hK hq0 hK9;go_enter Tryz.func52,Tryz.ntmps52;go_wp2_with(go_at_call 84;refine(hpa'.out _).mono ?_;rintro e w9 ⟨rfl,hw9⟩;subst hw9);have hf1:floatOfInt .f64 D0=fI D0:=rfl;go_loopg[3] (nodesG Ns).length (fun g i3 wr=>∃Gs:List TN,Hid (g=Gs.length)∧(∃B I:Int,i3=cplx B I∧0≤B∧0≤I∧B+nB K Gs=D0+nB K Ns∧I+nI Gs=1+nI Ns)∧Gs.Sublist Ns∧Sep w0 wr ((gAs W bn bf bk next Ns Fs Lk R).set 1 (grangeR 9 bn w9.heap.size (nodesG Ns).length (nodesG Ns) (nodesG Gs))))
 case atStart=>exact⟨Ns,Lh (by simp[nodesG]),⟨D0,1,by rw[hf1,cplx,fI_one],by omega,by omega,rfl,rfl⟩,List.Sublist.refl _,hS1'.out⟩
 clear hS1' hS';obtain⟨Gs,hg,⟨B,I,rfl,hB0,hI0,hB,hI⟩,hsub,hS⟩:=hrel;have hNB:=nB_le hK9'.out Ns;have hNI:=nI_le Ns;rcases hS.grange_next 1 rfl keyed_str 0 with⟨hnil,hnx⟩|⟨key,v,kl,w3,hkey,hmem,hnx,hS3,hsz3,hen⟩
 ·(have:Gs=[]:=by simpa[nodesG]using hnil);subst this;(have e1:B=D0+nB K Ns:=by simpa[nB]using hB);(have e2:I=1+nI Ns:=by simpa[nI]using hI);(have hTb:B≤2000000:=by omega);(have hJb:I≤2000000:=by omega);have hT':=Lh e1;have hJ':=Lh e2;have hSe:=hS.gm_end 1 rfl;have f1:=hSe.bC 0 rfl 1;simp only[worldCells,gA,gB,gC]at f1;obtain⟨w2,hrg2,hS2,hsz2⟩:=hSe.gm_range 2 rfl keyed_int' Tryz.underlying133;have hS2':=Lh hS2;clear hS hSe hS2 e1 e2 hB hI hNB hNI hg;generalize B=T at hB0 hTb hT' ⊢;generalize I=J at hI0 hJb hJ' ⊢;go_wp2_with fail;go_loopg[3] (filesL Fs).length (fun g i3 wr3=>∃Gs:List FEnt,Hid (g=Gs.length)∧(∃B I:Int,i3=cplx B I∧0≤B∧0≤I∧B+wB Gs=T+wB Fs∧I+Gs.length=J+Fs.length)∧Gs.Sublist Fs∧Sep w0 wr3 ((gAs W bn bf bk next Ns Fs Lk R).set 2 (grangeR 3 bf wr.heap.size (filesL Fs).length (filesL Fs) (filesL Gs))))
  case atStart=>exact⟨Fs,Lh (by simp[filesL]),⟨T,J,rfl,by omega,by omega,rfl,rfl⟩,List.Sublist.refl _,hS2'.out⟩
  clear hS2';obtain⟨Gs,hg,⟨B,I,rfl,hB0,hI0,hB,hI⟩,hsub,hS⟩:=hrel;rcases hS.grange_next 2 rfl keyed_int' 0 with⟨hnil,hnx⟩|⟨key,v,kl,w3,hkey,hmem,hnx,hS3,hsz3,hen⟩
  ·(have:Gs=[]:=by simpa[filesL]using hnil);subst this;have hSe:=hS.gm_end 2 rfl;have hSe':=Lh hSe;(have e1:B=T+wB Fs:=by simpa[wB]using hB);(have e2:I=J+(Fs.length:Int):=by simpa using hI);subst e1 e2;clear hS hSe;go_wp2_with fail;go_ret;exact⟨by rw[←hT'.out,←hJ'.out];rfl,hSe'.out⟩
  unfold filesL at hmem;obtain⟨f,hfm,hff⟩:=List.mem_map.1 hmem;cases hff;have hk2:=keyed_int'.key hkey;have hkm:=(hS.gm_end 2 rfl).gm_keys 2 rfl;have hids:=(ids_ne hkm).sublist hsub;obtain⟨ho1,ho2⟩:=wB_out hids hfm;rw[filesL_del]at hS3;obtain⟨A,n,c,hdv,hn⟩:=hd'.out f (hsub.subset hfm);obtain⟨j,hj⟩:=List.mem_iff_getElem?.1 (hsub.subset hfm);(have hfi:((gAs W bn bf bk next Ns Fs Lk R).set 2 (grangeR 3 bf wr.heap.size (filesL Fs).length (filesL Fs) (filesL (Gs.filter fun g=> !(decide (g.id=f.id))))))[j+4]? =some (fileBox f):=by(show(Fs.map fileBox++R)[j]? =_);have hj2:=(gF.1 hj).1;rw[List.getElem?_append_left (by simpa using hj2),List.getElem?_map,hj];rfl);have f2:=hS3.bC (j+4) hfi 2;simp only[gA,gB,gC]at f2;rw[hdv]at f2;have hd2:=fileB_le hn;obtain⟨hg1,hg2⟩:=wB_le (Fs:=Gs.filter fun g=> !(decide (g.id=f.id))) (fun g hg=>hd'.out g (hsub.subset (List.mem_filter.1 hg).1));have hpb:=Lh (fun W=>parts_any (n:Int) 512 (by omega) (by omega) (by omega) (by omega) W);obtain⟨q,hq⟩:∃q:Int,((n:Int)+512-1)/512=q:=⟨_,rfl⟩;(have hq0:0≤q∧q≤16:=by omega);rw[hq]at hpb;rw[hdv]at ho1;have hS3':=Lh hS3;have hfin:=Lh (And.intro hg ho2);have hwF:=wB_le hd'.out;clear hg hS hS3 hids hkm hd' hfi;by_cases h8:8<q
  ·(have hfb:fileB n=q+1:=by unfold fileB;rw[hq,if_pos h8]);simp only[dvLen]at ho1;rw[hfb]at ho1;have hcs:=run_csum 68 B I (q+1) 1 (by unfold SmallI;omega) (by unfold SmallI;omega) (by unfold SmallI;omega) (by unfold SmallI;omega) (by unfold SmallI;omega) (by unfold SmallI;omega) w3;have hq1:IntKind.i64.wrap (q+1)=q+1:=IntWalk.i64_in _ (by omega);unfold cplx at hcs ⊢;rw[fI_one,show fI (q+1)=floatOfInt .f64 (q+1)from rfl]at hcs;go_wp2_with(go_at_call 84;refine(hpb.out _).mono ?_;rintro e w7 ⟨rfl,hw7⟩;(have hw8:=hw7.symm);clear hw7;subst hw8);go_roundg ((Gs.filter fun g=> !(decide (g.id=f.id))).length)
   case rel=>exact⟨_,rfl,⟨B+(q+1),I+1,rfl,by omega,by omega,by omega,by have:=hfin.out.2;omega⟩,List.filter_sublist.trans hsub,hS3'.out⟩
   obtain⟨h1,h2⟩:=hfin.out;have h3:_=Gs.length:=h1.out;omega
  (have hfb:fileB n=q:=by unfold fileB;rw[hq,if_neg h8]);simp only[dvLen]at ho1;rw[hfb]at ho1;have hcs:=run_csum 68 B I (q) 1 (by unfold SmallI;omega) (by unfold SmallI;omega) (by unfold SmallI;omega) (by unfold SmallI;omega) (by unfold SmallI;omega) (by unfold SmallI;omega) w3;unfold cplx at hcs ⊢;rw[fI_one,show fI (q)=floatOfInt .f64 (q)from rfl]at hcs;go_wp2_with(go_at_call 84;refine(hpb.out _).mono ?_;rintro e w7 ⟨rfl,hw7⟩;(have hw8:=hw7.symm);clear hw7;subst hw8);go_roundg ((Gs.filter fun g=> !(decide (g.id=f.id))).length)
  case rel=>exact⟨_,rfl,⟨B+(q),I+1,rfl,by omega,by omega,by omega,by have:=hfin.out.2;omega⟩,List.filter_sublist.trans hsub,hS3'.out⟩
  obtain⟨h1,h2⟩:=hfin.out;have h3:_=Gs.length:=h1.out;omega
 unfold nodesG at hmem;obtain⟨nd,hnm,hnd⟩:=List.mem_map.1 hmem;cases hnd;unfold nodeV at hnx hen;have hkm:=(hS.gm_end 1 rfl).gm_keys 1 rfl;obtain⟨o1,o2,o3⟩:=nB_out (K:=K) ((paths_ne hkm).sublist hsub) hnm;rw[nodesG_del]at hS3;have hS4:=hS3.bN 137 #[.int .i64 nd.file,.int .i64 nd.mode];have hS4':=Lh hS4;have hfin:=Lh (And.intro hg o3);obtain⟨g1,g2⟩:=nB_le hK9'.out (Gs.filter fun m=> !(m.path==nd.path));obtain⟨g3,g4⟩:=nI_le (Gs.filter fun m=> !(m.path==nd.path));by_cases hf:nd.file<0
 ·rw[if_pos hf]at o1 o2;have hdw:=dirW_le (K nd.path);have hkn:=hK9'.out nd.path;have hlk2:=hS4.gm_look 4 rfl keyed_str Tryz.underlying86 (zero_int' _) hkey;rw[hK'.out]at hlk2;have dd2:=hS4.bC 1 rfl 2;simp only[worldCells,gA,gB,gC]at dd2;(have hpb:=fun W=>parts_any (K nd.path:Int) 16 (by omega) (by omega) (by omega) (by omega) W);have hmx2:max (1:Int) (((K nd.path:Int)+16-1)/16)=dirW (K nd.path):=rfl;generalize hq1:((K nd.path:Int)+16-1)/16=q1 at hpb hmx2;generalize dirW (K nd.path)=D1 at hmx2 hdw o1;generalize K nd.path=k1 at hlk2 hq1 hdw hkn hpb;have hpb':=Lh hpb;have hcs:=run_csum 68 B I D1 1 (by unfold SmallI;omega) (by unfold SmallI;omega) (by unfold SmallI;omega) (by unfold SmallI;omega) (by unfold SmallI;omega) (by unfold SmallI;omega);unfold cplx at hcs ⊢;rw[fI_one,show fI D1=floatOfInt .f64 D1 from rfl]at hcs;clear hS hS3 hS4 hg o3 hkm hpb hq1;go_wp2_with(go_at_call 84;refine(hpb'.out _).mono ?_;rintro e w7 ⟨rfl,hw7⟩;(have hw8:=hw7.symm);clear hw7;subst hw8);go_roundg ((Gs.filter fun m=> !(m.path==nd.path)).length)
  case rel=>exact⟨_,rfl,⟨B+D1,I+1,rfl,by omega,by omega,by omega,by omega⟩,List.filter_sublist.trans hsub,Sep.drop 1 hS4'.out⟩
  obtain⟨h1,h2⟩:=hfin.out;have h3:_=Gs.length:=h1.out;omega
 rw[if_neg hf]at o1 o2;clear hS hS3 hS4 hg o3 hkm;go_wp2_with fail;go_roundg ((Gs.filter fun m=> !(m.path==nd.path)).length)
 case rel=>exact⟨_,rfl,⟨B,I,rfl,by omega,by omega,by omega,by omega⟩,List.filter_sublist.trans hsub,Sep.drop 1 hS4'.out⟩
 obtain⟨h1,h2⟩:=hfin.out;have h3:_=Gs.length:=h1.out;omega
def findI (ns:List TN) (p:List UInt8):Int:=match ns.findIdx? (fun n=>n.path==p)with
 |some k=>(k:Int)
 |none=> -1
theorem findI_at {ns:List TN} {p:List UInt8} {k:Nat} {n:TN} (hn:ns[k]? =some n) (hp:n.path=p) (hno:∀(j:Nat) (m:TN),j<k→ns[j]? =some m→m.path≠p):findI ns p=k:=by
 obtain⟨hk,hk2⟩:=gF.1 hn;have:ns.findIdx? (fun n=>n.path==p)=some k:=by rw[List.findIdx?_eq_some_iff_getElem];refine⟨hk,by rw[hk2,hp];simp,fun j hj=>?_⟩;have:=hno j ns[j] hj (gE (by omega));simpa using this
 unfold findI;rw[this]
theorem findI_no {ns:List TN} {p:List UInt8} (hno:∀(j:Nat) (m:TN),ns[j]? =some m→m.path≠p):findI ns p= -1:=by
 have:ns.findIdx? (fun n=>n.path==p)=none:=by rw[List.findIdx?_eq_none_iff];intro m hm;obtain⟨j,hj⟩:=List.mem_iff_getElem?.1 hm;simpa using hno j m hj
 unfold findI;rw[this]
set_option maxRecDepth 100000 in
theorem reffind_any {w:World} {nv fv:Value} {ns:List TN} {fs:List TF} {vs:List Value} (h:TreeAt w nv fv ns fs vs) (hf:ns.length≤300) (p:List UInt8):
  Calls Tryz.prog 98 #[.agg #[nv,fv],strV p] w fun e w'=>e= .returned (.int .i64 (findI ns p))∧Below w.heap.size w w':=by
 have hS0:=(Sep.nil w).bN 25 #[nv,fv];obtain⟨A1,c1,rfl,hm1⟩:=h.nodes.shape;have hS0':=Lh hS0;have h':=Lh h;have b1:(ns.length:Int)≤300:=by omega
 have z0:=hS0.bC 0 rfl 0;simp only[gA,gB]at z0;obtain⟨R,hR⟩:∃R,R=findI ns p:=⟨_,rfl⟩;rw[←hR];have hR':=Lh hR;unfold strV at*;clear h hS0 hR;go_enter Tryz.func98,Tryz.ntmps98;go_wp2_with fail;go_loopw[5] (fun iv wr=>∃i:Nat,i≤ns.length∧iv= .int .i64 i∧wr=w.alloc (.cells #[.slice A1 ns.length c1,fv] 25)∧Hid (∀(j:Nat) (m:TN),j<i→ns[j]? =some m→m.path≠p)) (fun iv _=>ns.length-(intOf iv).toNat)
 case atStart=>exact⟨0,Nat.zero_le _,rfl,rfl,fun j m hj=>absurd hj (Nat.not_lt_zero _)⟩
 obtain⟨i,hi,rfl,rfl,hno⟩:=hrel;have c0:(0:Int)≤(i:Int):=by omega
 by_cases hlt:i<ns.length
 ·(have c2:(i:Int)<(ns.length:Int):=by omega);obtain⟨g,o,c,e,_,_,_,hcell⟩:=h'.out.nodes.place (by omega) (by decide);cases e;obtain⟨n,he⟩:∃n,ns[i]? =some n:=⟨_,gE hlt⟩;have x0:=(hcell _ hS0'.out.below (i*3) (by omega)).trans (tnCells_at he 0 (by omega));simp only[tnC,strV,gB]at x0;have he':=Lh he;clear hcell he;by_cases hp:n.path=p
  ·(have hp2:(n.path==p)=true:=by simpa using hp);have hp':=Lh hp;clear hp;go_wp2_with fail;go_ret;refine⟨?_,hS0'.out.below⟩;rw[hR'.out,findI_at he'.out hp'.out hno.out];rfl
  (have hp2:(n.path==p)=false:=by simpa using hp);have hp':=Lh hp;clear hp;go_wp2_with fail;go_roundw
  case rel=>
   refine⟨i+1,by omega,by go_num,by trivial,fun j m hj hm=>?_⟩;by_cases hji:j=i
   ·subst hji;have e1:=hm.symm.trans he'.out;cases e1;exact hp'.out
   exact hno.out j m (by omega) hm
  case measure=>simp[intOf];omega
 have c2:¬(i:Int)<(ns.length:Int):=by omega
 go_wp2_with fail;go_ret;refine⟨?_,hS0'.out.below⟩;rw[hR'.out,findI_no fun j m hm=>hno.out j m (by have:=(gF.1 hm).1;omega) hm];rfl
end Go.Proofs.YtimkjnbihlgbiaaGreat
