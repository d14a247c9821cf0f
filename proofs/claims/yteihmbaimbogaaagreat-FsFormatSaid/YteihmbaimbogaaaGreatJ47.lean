/- FyI, FyJ, laid together. -/
import Derived.Test.YteihmbaimbogaaaGreatJ46
namespace Go.Proofs.YteihmbaimbogaaaGreat
open Go.RowKit
set_option linter.unusedVariables false
set_option linter.unusedSimpArgs false
section
variable {w0 w:World} {R:List Asn} {f q p:Nat} {S:VS} {nb names:Nat}
theorem read_root (hL:LiveT S [] [] nb names) (h:Sep w0 w (restR f q p S::R)):
  Calls Tryz.prog 25 #[.pointer (some ⟨f,0,none⟩),.string ⟨#[]⟩] w fun e w'=>∃A c,e= .returned (.tuple #[.slice A 0 c,.int .i64 26])∧Sep w0 w' (restR f q p S.base::R):=by
 obtain⟨g,dn,φ,hV⟩:=hL.vol.vt;refine(read_any (path:=[]) (by decide) hL.off hV.vol.vw hV.vol.fileRoom h).mono ?_;rintro e w' ⟨v,rfl,hS⟩;have e1:readX S.base []=26:=by unfold readX;rw[if_neg (by decide)];rfl
 have e2:readB S.base []=[]:=by unfold readB;rw[e1,if_neg (by decide)]
 rw[e2]at hS;obtain⟨A,c,rfl,_⟩:=hS.sl_any 0 rfl;exact⟨A,c,by rw[e1];rfl,hS.drop 1⟩
theorem stat_root (hL:LiveT S [] [] nb names) (h:Sep w0 w (restR f q p S::R)):
  Calls Tryz.prog 29 #[.pointer (some ⟨f,0,none⟩),.string ⟨#[]⟩] w fun e w'=>e= .returned (.tuple #[.agg #[.int .i64 0,.int .i64 0,.int .i64 0,.int .i64 0,.int .i64 0],.int .i64 26])∧Sep w0 w' (restR f q p S.base::R):=by
 obtain⟨g,dn,φ,hV⟩:=hL.vol.vt;refine(stat_any (path:=[]) (by decide) hL.off hV.vol.vw h).mono ?_;rintro e w' ⟨rfl,hS⟩;have e1:statX S.base []=26:=by unfold statX;rw[if_neg (by decide)];rfl
 have e2:statOf S.base []= .agg #[.int .i64 0,.int .i64 0,.int .i64 0,.int .i64 0,.int .i64 0]:=by unfold statOf;rw[e1,if_neg (by decide)];rfl
 exact⟨by rw[e1,e2],hS⟩
theorem list_root (hL:LiveT S [] [] nb names) (h:Sep w0 w (restR f q p S::R)):
  Calls Tryz.prog 23 #[.pointer (some ⟨f,0,none⟩),.string ⟨#[]⟩] w fun e w'=>∃A c,e= .returned (.tuple #[.slice A 0 c,.int .i64 0])∧Sep w0 w' (restR f q p S.base::R):=by
 obtain⟨g,dn,φ,hV⟩:=hL.vol.vt;obtain⟨h1,h2,h3⟩:=hV.list [];refine(list_any (path:=[]) (by decide) hL.off hV.vol.vw hV.vol.rootI h).mono ?_;rintro e w' ⟨v,rfl,hS⟩;have e2:listN S.base []=[]:=by have:lsN ([]:List TN) []=[]:=rfl;rw[this]at h2;exact h2.eq_nil
 rw[e2]at hS;obtain⟨A,c,rfl,_⟩:=hS.sl_any 0 rfl;exact⟨A,c,by rw[h1];rfl,hS.drop 1⟩
set_option maxRecDepth 100000 in
set_option maxHeartbeats 8000000 in
theorem looks_empty {B I:Int} (hL:LiveT S [] [] nb names) (h:Sep w0 w (restR f q p S::R)):
  Calls Tryz.prog 92 #[.agg #[.slice none 0 0,.slice none 0 0,.int .i64 B,.int .i64 I],.pointer (some ⟨f,0,none⟩),.string ⟨#[]⟩] w fun e w'=>e= .returned (.bool true)∧Sep w0 w' (restR f q p S.base::R):=by
 have h0:Sep w0 (w.alloc (.cells #[.slice none 0 0,.slice none 0 0,.int .i64 B,.int .i64 I] 34)) (restR f q p S:: .box w.heap.size 34 #[.slice none 0 0,.slice none 0 0,.int .i64 B,.int .i64 I]::R):=(h.bN 34 #[.slice none 0 0,.slice none 0 0,.int .i64 B,.int .i64 I]).perm (List.Perm.swap _ _ _);have hb:S.base.base=S.base:=rfl;have h0':=Lh h0;have hrd:=Lh (fun W (R':List Asn) (hW:Sep w0 W (restR f q p S::R'))=>read_root hL hW);have hst:=Lh (fun W (R':List Asn) (hW:Sep w0 W (restR f q p S.base::R'))=>stat_root hL.base hW);have hls:=Lh (fun W (R':List Asn) (hW:Sep w0 W (restR f q p S.base::R'))=>list_root hL.base hW);rw[hb]at hst hls;clear h h0 hL hb;go_enter Tryz.func92,Tryz.ntmps92;go_wp2_with(first |(go_at_call 25;refine(hrd.out _ _ h0'.out).mono ?_;rintro e w1 ⟨A1,c1,rfl,hS⟩;have h1:=Lh hS;clear hS h0' hrd)|(go_at_call 29;refine(hst.out _ _ h1.out).mono ?_;rintro e w2 ⟨rfl,hS⟩;have h2:=Lh ((hS.bN 68 #[.int .i64 0,.int .i64 0,.int .i64 0,.int .i64 0,.int .i64 0]).perm (List.Perm.swap _ _ _));clear hS h1 hst)|(go_at_call 23;refine(hls.out _ _ h2.out).mono ?_;rintro e w3 ⟨A3,c3,rfl,hS⟩;have h3:=Lh hS;have k0:=hS.bC 1 rfl 0;have k1:=hS.bC 1 rfl 1;have k2:=hS.bC 1 rfl 2;have k3:=hS.bC 1 rfl 3;have k4:=hS.bC 1 rfl 4;have t0:=hS.bC 2 rfl 0;have t1:=hS.bC 2 rfl 1;clear hS h2 hls;simp only[gA,gB,gC]at k0 k1 k2 k3 k4 t0 t1)|(go_at_call 16;refine(num8_any _ _).mono ?_;rintro e w9 ⟨rfl,rfl⟩)|(go_at_call 57;refine(kids_none _ _).mono ?_;rintro e w4 ⟨rfl,hb4⟩;have h4:=Lh (h3.out.pure hb4);clear hb4 h3 k0 k1 k2 k3 k4 t0 t1)|(go_at_call 145;refine(bases_none _ _ _).mono ?_;rintro e w9 ⟨rfl,h9⟩;obtain rfl:=h9.symm));go_ret;exact⟨rfl,(Sep.sel [1,2,0] h4.out (by decide) (by simp):Sep w0 _ (_::_::restR f q p S.base::R)).drop 2⟩
set_option maxRecDepth 100000 in
set_option maxHeartbeats 8000000 in
theorem is_empty (hL:LiveT S [] [] nb names) (hn:nb≤4096) (hm:names≤1024) (h:Sep w0 w (restR f q p S::R)):
  Calls Tryz.prog 36 #[.agg #[.slice none 0 0,.slice none 0 0,.int .i64 (roomB nb names:Nat),.int .i64 (names:Nat)],.pointer (some ⟨f,0,none⟩)] w fun e w'=>e= .returned (.bool true)∧Sep w0 w' (restR f q p S.base::R):=by
 have hrm:(roomB nb names:Int)≤4096:=by unfold roomB;omega
 obtain⟨B,hB⟩:∃B:Int,B=(roomB nb names:Nat):=⟨_,rfl⟩;obtain⟨I,hI⟩:∃I:Int,I=(names:Nat):=⟨_,rfl⟩;have hB0:0≤B:=by omega
 have hB1:B≤4096:=by omega
 have hI0:0≤I:=by omega
 have hI1:I≤1024:=by omega
 have h0:Sep w0 (w.alloc (.cells #[.slice none 0 0,.slice none 0 0,.int .i64 B,.int .i64 I] 34)) (restR f q p S:: .box w.heap.size 34 #[.slice none 0 0,.slice none 0 0,.int .i64 B,.int .i64 I]::R):=(h.bN 34 #[.slice none 0 0,.slice none 0 0,.int .i64 B,.int .i64 I]).perm (List.Perm.swap _ _ _);have hrt:=Lh (fun W (R':List Asn) (hW:Sep w0 W (restR f q p S::R'))=>roomT hL hW);have hft:=Lh (fun W (R':List Asn) (hW:Sep w0 W (restR f q p S::R'))=>freeT hL hW);have hlk:=Lh (fun W (R':List Asn) (hW:Sep w0 W (restR f q p S::R'))=>looks_empty (B:=B) (I:=I) hL hW);have eB:treeB [] []=1:=rfl;have eI:treeI []=1:=rfl;rw[eB,eI,←hB,←hI]at hft;rw[←hB,←hI]at hrt ⊢;have heq1:∀W,(binOp .neq 44 (cplx B I) (cplx B I)).run Tryz.prog W= .ok (.bool false) W:=fun W=>run_cself (by unfold SmallI;omega) (by unfold SmallI;omega) W
 have heq2:∀W,(binOp .neq 44 (cplx (B-1) (I-1)) (cplx (B-1) (I-1))).run Tryz.prog W= .ok (.bool false) W:=fun W=>run_cself (by unfold SmallI;omega) (by unfold SmallI;omega) W
 have heg1:∀W,(eqGuard .neq 44 (.tmp 14) (.tmp 17) (cplx B I) (cplx B I)).run Tryz.prog W= .ok () W:=fun W=>run_cguard _ _ W
 have heg2:∀W,(eqGuard .neq 44 (.tmp 21) (.tmp 28) (cplx (B-1) (I-1)) (cplx (B-1) (I-1))).run Tryz.prog W= .ok () W:=fun W=>run_cguard _ _ W
 obtain⟨bw,hbw⟩:∃b,b=w.heap.size:=⟨_,rfl⟩;have hE:Hid (∀W,Sep w0 W (restR f q p S:: .box bw 34 #[.slice none 0 0,.slice none 0 0,.int .i64 B,.int .i64 I]::R)→W.cell? ⟨bw,0,none⟩=some (.slice none 0 0)∧W.cell? ⟨bw,1,none⟩=some (.slice none 0 0)∧W.cell? ⟨bw,2,none⟩=some (.int .i64 B)∧W.cell? ⟨bw,3,none⟩=some (.int .i64 I)):=Lh fun W hW=>
  ⟨hW.bC 1 rfl 0,hW.bC 1 rfl 1,hW.bC 1 rfl 2,hW.bC 1 rfl 3⟩
 obtain⟨C1,hC1⟩:∃C,C=cplx B I:=⟨_,rfl⟩;obtain⟨C2,hC2⟩:∃C,C=cplx (B-1) (I-1):=⟨_,rfl⟩;have htc1:Hid (∀W:World,Calls Tryz.prog 18 #[.agg #[.int .i64 B,.int .i64 I]] W fun e w'=>e= .returned C1∧Below W.heap.size W w'):=Lh fun W=>by rw[hC1];exact tollC_any _ _ W
 have htc2:Hid (∀W:World,Calls Tryz.prog 18 #[.agg #[.int .i64 (B-1),.int .i64 (I-1)]] W fun e w'=>e= .returned C2∧Below W.heap.size W w'):=Lh fun W=>by rw[hC2];exact tollC_any _ _ W
 have htm:Hid (∀W:World,Calls Tryz.prog 19 #[.agg #[.int .i64 B,.int .i64 I],.agg #[.int .i64 1,.int .i64 1]] W fun e w'=>e= .returned (.agg #[.int .i64 (B-1),.int .i64 (I-1)])∧Below W.heap.size W w'):=Lh fun W=>tollM_any ⟨by omega,by omega⟩ ⟨by omega,by omega⟩ ⟨by omega,by omega⟩ ⟨by omega,by omega⟩ W
 rw[←hC1]at heq1 heg1 hrt;rw[←hC2]at heq2 heg2 hft;rw[←hbw]at h0;have hd:=Lh h0.drew;have hE1:=hE.out _ hd.out;have hbw':=Lh hbw;clear h h0 hL hB hI eB eI hC1 hC2 hrm hB0 hB1 hI0 hI1 hn hm;go_enter Tryz.func36,Tryz.ntmps36;go_wp2_with fail;rw[←hbw];refine wp_region_E (S:=fun W=>W.cell? ⟨bw,0,none⟩=some (.slice none 0 0)∧W.cell? ⟨bw,1,none⟩=some (.slice none 0 0)∧W.cell? ⟨bw,2,none⟩=some (.int .i64 B)∧W.cell? ⟨bw,3,none⟩=some (.int .i64 I)) 18 (by kernel_rfl) ?_;simp only[List.size_toArray,List.length_cons,List.length_nil,Nat.reduceAdd];clear hbw;obtain⟨w1,hw1⟩:∃w1,w1=(w.alloc (.cells #[.slice none 0 0,.slice none 0 0,.int .i64 B,.int .i64 I] 34)).drew:=⟨_,rfl⟩;rw[←hw1]at hd hE1 ⊢;clear hw1;refine wpE_tk (i:=0) (v:=?_) hE1 rfl ?_ ?_;rotate_left
 ·rintro w ⟨e1,e2,e3,e4⟩;go_simp;try with_reducible rfl
 simp only[Act.put,gD];refine wpE_tk (i:=2) (v:=?_) hE1 rfl ?_ ?_;rotate_left
 ·rintro w ⟨e1,e2,e3,e4⟩;go_simp;try with_reducible rfl
 simp only[Act.put,gD];refine wpE_tk (i:=3) (v:=?_) hE1 rfl ?_ ?_;rotate_left
 ·rintro w ⟨e1,e2,e3,e4⟩;go_simp;try with_reducible rfl
 simp only[Act.put,gD];refine wpE_one (i:=1) (by kernel_rfl) rfl (fun K hK=>?_);go_simp;go_at_call 31;refine(hrt.out _ _ hd.out).mono ?_;rintro e w9 ⟨rfl,h9⟩;obtain rfl:=h9.symm;refine hK _ _ (fun _=>hE1) ?_;clear hK K;try simp only[Act.put,gD]
 refine wpE_one (i:=4) (by kernel_rfl) rfl (fun K hK=>?_);go_simp;go_at_call 18;refine(htc1.out _).mono ?_;rintro e w2 ⟨rfl,hb2⟩;have h2:=Lh (hd.out.pure hb2);have hE2:=hE.out _ h2.out;clear hb2 hd hE1 htc1 hrt;refine hK _ _ (fun _=>hE2) ?_;clear hK K;try simp only[Act.put,gD]
 refine wpE_one (i:=5) (by kernel_rfl) rfl (fun K hK=>?_);go_simp;refine hK _ _ (fun _=>hE2) ?_;clear hK K;try simp only[Act.put,gD]
 refine wpE_one (i:=6) (by kernel_rfl) rfl (fun K hK=>?_);go_simp;refine hK _ _ (fun _=>hE2) ?_;clear hK K;try simp only[Act.put,gD]
 refine wpE_tk (i:=7) (v:=?_) hE2 rfl ?_ ?_;rotate_left
 ·rintro w ⟨e1,e2,e3,e4⟩;go_simp;try with_reducible rfl
 simp only[Act.put,gD];refine wpE_tk (i:=9) (v:=?_) hE2 rfl ?_ ?_;rotate_left
 ·rintro w ⟨e1,e2,e3,e4⟩;go_simp;try with_reducible rfl
 simp only[Act.put,gD];refine wpE_tk (i:=10) (v:=?_) hE2 rfl ?_ ?_;rotate_left
 ·rintro w ⟨e1,e2,e3,e4⟩;go_simp;try with_reducible rfl
 simp only[Act.put,gD];refine wpE_tk (i:=11) (v:=?_) hE2 rfl ?_ ?_;rotate_left
 ·rintro w ⟨e1,e2,e3,e4⟩;go_simp;try with_reducible rfl
 simp only[Act.put,gD];refine wpE_tk (i:=12) (v:=?_) hE2 rfl ?_ ?_;rotate_left
 ·rintro w ⟨e1,e2,e3,e4⟩;go_simp;try with_reducible rfl
 simp only[Act.put,gD];refine wpE_one (i:=8) (by kernel_rfl) rfl (fun K hK=>?_);go_simp;go_at_call 17;refine(hft.out _ _ h2.out).mono ?_;rintro e w3 ⟨rfl,n3,rfl⟩;have h3:=Lh (h2.out.drewN n3);have hE3:=hE.out _ h3.out;clear h2 hE2 hft;refine hK _ _ (fun _=>hE3) ?_;clear hK K;try simp only[Act.put,gD]
 refine wpE_one (i:=13) (by kernel_rfl) rfl (fun K hK=>?_);go_simp;go_at_call 20;refine(weight_none _).mono ?_;rintro e w4 ⟨rfl,hb4⟩;have h4:=Lh (h3.out.pure hb4);have hE4:=hE.out _ h4.out;clear hb4 h3 hE3;refine hK _ _ (fun _=>hE4) ?_;clear hK K;try simp only[Act.put,gD]
 refine wpE_one (i:=14) (by kernel_rfl) rfl (fun K hK=>?_);go_simp;go_at_call 19;refine(htm.out _).mono ?_;rintro e w5 ⟨rfl,hb5⟩;have h5:=Lh (h4.out.pure hb5);have hE5:=hE.out _ h5.out;clear hb5 h4 hE4 htm;refine hK _ _ (fun _=>hE5) ?_;clear hK K;try simp only[Act.put,gD]
 refine wpE_one (i:=15) (by kernel_rfl) rfl (fun K hK=>?_);go_simp;go_at_call 18;refine(htc2.out _).mono ?_;rintro e w6 ⟨rfl,hb6⟩;have h6:=Lh (h5.out.pure hb6);have hE6:=hE.out _ h6.out;clear hb6 h5 hE5 htc2;refine hK _ _ (fun _=>hE6) ?_;clear hK K;try simp only[Act.put,gD]
 refine wpE_one (i:=16) (by kernel_rfl) rfl (fun K hK=>?_);go_simp;refine hK _ _ (fun _=>hE6) ?_;clear hK K;try simp only[Act.put,gD]
 refine wpE_one (i:=17) (by kernel_rfl) rfl (fun K hK=>?_);go_simp;refine hK _ _ (fun _=>hE6) ?_;clear hK K;try simp only[Act.put,gD]
 refine wpE_done (by kernel_rfl) ?_ _;obtain⟨e0,e1,e2,e3⟩:=hE6;go_wp2_with(first |(go_at_call 92;refine(hlk.out _ _ h6.out).mono ?_;rintro e w7 ⟨rfl,hS⟩;have h7:=Lh hS;have n0:=hS.bC 1 rfl 0;clear hS h6 e0 e1 e2 e3 hlk;simp only[gA,gB]at n0));go_loopw[7,6] (fun iv lv wr=>iv= .int .i64 0∧lv= .slice none 0 0∧wr=w7) (fun _ _ _=>0)
 case atStart=>exact⟨rfl,rfl,rfl⟩
 obtain⟨rfl,rfl,rfl⟩:=hrel;go_wp2;go_loopw[10] (fun iv wr2=>iv= .int .i64 0∧wr2=wr) (fun _ _=>0)
 case atStart=>exact⟨rfl,rfl⟩
 obtain⟨rfl,rfl⟩:=hrel;go_wp2;go_ret;exact⟨rfl,(Sep.sel [1,0] h7.out (by decide) (by simp):Sep w0 _ (_::restR f q p S.base::R)).drop 1⟩
end
section
variable {w0 w:World} {R:List Asn} {f q p:Nat} {S:VS}
set_option maxRecDepth 100000 in
theorem room8_arg {n:Nat} {i:Int} (hi:i<2∨1024<i) (w:World):Calls Tryz.prog 35 #[.int .i64 n,.int .i64 i] w fun e w'=>e= .returned (.tuple #[.agg #[.int .i64 0,.int .i64 0],.int .i64 1])∧Below w.heap.size w w':=by
 have hS:=(Sep.nil w).bN 28 #[.int .i64 0,.int .i64 0];rcases hi with hi|hi
 ·(have q1:¬(1024:Int)<i:=by omega);go_enter Tryz.func35,Tryz.ntmps35;go_wp2;refine bodyPost_ret (toll_results2 rfl rfl rfl (hS.bC 0 rfl 0) (hS.bC 0 rfl 1)) rfl ?_;exact⟨rfl,hS.below⟩
 have q1:¬i<(2:Int):=by omega
 go_enter Tryz.func35,Tryz.ntmps35;go_wp2;refine bodyPost_ret (toll_results2 rfl rfl rfl (hS.bC 0 rfl 0) (hS.bC 0 rfl 1)) rfl ?_;exact⟨rfl,hS.below⟩
set_option maxRecDepth 100000 in
theorem room8_space {n i:Nat} (h0:n≤98+(i+7)/8) (h1:n≤4096) (h2:2≤i) (h3:i≤1024) (w:World):Calls Tryz.prog 35 #[.int .i64 n,.int .i64 i] w fun e w'=>e= .returned (.tuple #[.agg #[.int .i64 0,.int .i64 0],.int .i64 27])∧Below w.heap.size w w':=by
 have hS:=(Sep.nil w).bN 28 #[.int .i64 0,.int .i64 0];have q0:(n:Int)≤4096:=by omega
 have q00:(0:Int)≤n:=by omega
 have q1:(2:Int)≤i:=by omega
 have q2:(i:Int)≤1024:=by omega
 have e0:Int.tdiv ((i:Int)+7) 8=((i+7)/8:Nat):=by rw[Int.tdiv_eq_ediv_of_nonneg (by omega)];omega
 obtain⟨P,hP⟩:∃P,P=(i+7)/8:=⟨_,rfl⟩;rw[←hP]at e0 h0;have q3:(P:Int)≤128:=by omega
 have q4:(n:Int)-96-2-P<1:=by omega
 clear hP h0 h1 h2 h3;go_enter Tryz.func35,Tryz.ntmps35;go_wp2;refine bodyPost_ret (toll_results2 rfl rfl rfl (hS.bC 0 rfl 0) (hS.bC 0 rfl 1)) rfl ?_;exact⟨rfl,hS.below⟩
set_option maxRecDepth 100000 in
theorem room8_ok {n i:Nat} (h0:98+(i+7)/8<n) (h1:n≤4096) (h2:2≤i) (h3:i≤1024) (w:World):Calls Tryz.prog 35 #[.int .i64 n,.int .i64 i] w fun e w'=>e= .returned (.tuple #[.agg #[.int .i64 (roomB n i:Nat),.int .i64 i],.int .i64 0])∧Below w.heap.size w w':=by
 have hS:=(Sep.nil w).bN 28 #[.int .i64 (roomB n i:Nat),.int .i64 i];have q0:(n:Int)≤4096:=by omega
 have q00:(0:Int)≤n:=by omega
 have q1:(2:Int)≤i:=by omega
 have q2:(i:Int)≤1024:=by omega
 have e0:Int.tdiv ((i:Int)+7) 8=((i+7)/8:Nat):=by rw[Int.tdiv_eq_ediv_of_nonneg (by omega)];omega
 have e1:(roomB n i:Int)=(n:Int)-96-2-((i+7)/8:Nat):=by unfold roomB;omega
 rw[e1]at hS ⊢;obtain⟨P,hP⟩:∃P,P=(i+7)/8:=⟨_,rfl⟩;rw[←hP]at e0 h0 hS ⊢;have q3:(P:Int)≤128:=by omega
 have q4:¬(n:Int)-96-2-P<1:=by omega
 clear hP h0 h1 h2 h3 e1;go_enter Tryz.func35,Tryz.ntmps35;go_wp2;refine bodyPost_ret (toll_results2 rfl rfl rfl (hS.bC 0 rfl 0) (hS.bC 0 rfl 1)) rfl ?_;exact⟨rfl,hS.below⟩
theorem rest_crash (hs:S.D.sync) (hb:S.D.back=[]) (h:Sep w0 w (restR f q p S::R)):
  Calls Tryz.prog 28 #[.pointer (some ⟨p,0,none⟩),.slice none 0 0] w fun e w'=>e= .returned (.tuple #[])∧Sep w0 w' (diskR p ⟨S.D.now,S.D.now,[],false, -1⟩::R):=by
 obtain⟨sb,SM,fo,hR,h1⟩:=h.rest_open;have h2:Sep w0 w (diskR p S.D::fsB f q S sb (.map fo) false::ledgerR q p false::seenR sb SM::R):=Sep.sel [2,0,1,3] h1 (by decide) (by simp[fsB]);refine(crash0_any hR.dok h2).mono ?_;rintro e w' ⟨rfl,h3⟩;rw[(crash_fl hs hb).1]at h3;exact⟨rfl,(Sep.sel [1,2,3,0] h3 (by decide) (by simp):Sep w0 w' (_::_::_::diskR p ⟨S.D.now,S.D.now,[],false, -1⟩::R)).drop 3⟩
theorem mount_again {ns:List TN} {fs:List FT} {nb names:Nat} (hL:LiveT S ns fs nb names) (hD:S.D.ok nb) (hf:bk S.D.now 0=headB []) (hm:(bk S.D.now 96).take 16=volMark) (hn:r2 (bk S.D.now 96) 16=names)
  (h:Sep w0 w (diskR p ⟨S.D.now,S.D.now,[],false, -1⟩::R)):
  Calls Tryz.prog 33 #[.pointer (some ⟨p,0,none⟩)] w fun e w'=>∃f' q' S',e= .returned (.tuple #[.pointer (some ⟨f',0,none⟩),.int .i64 0])∧LiveT S' ns fs nb names∧Sep w0 w' (restR f' q' p S'::R):=by
 have hD2:(⟨S.D.now,S.D.now,[],false, -1⟩:DK).ok nb:=⟨hD.now,hD.now,hD.few,hD.some,fun x hx=>absurd hx List.not_mem_nil,by show(-1:Int)≤ -1∧(-1:Int)≤9223372036854775807;omega⟩;have hfl:(⟨S.D.now,S.D.now,[],false, -1⟩:DK).fl=⟨S.D.now,S.D.now,[],false, -1⟩:=by unfold DK.fl DK.step applyB;simp only[List.foldl_nil];rw[if_neg (by decide)]
 have hM:MntOk nb names (⟨S.D.now,S.D.now,[],false, -1⟩:DK).fl:=by rw[hfl];exact mnt_ok hL.vol hD2 rfl rfl rfl hm hn
 refine(mount_any hD2 rfl (by show wayP (bk S.D.now 0)=some [];rw[hf];exact head_way) hM h).mono ?_;rintro e w' ⟨f',q',rfl,hS⟩;rw[hfl]at hS;exact⟨f',q',_,rfl,mnt_live (D:=⟨S.D.now,S.D.now,[],false, -1⟩) hL.vol rfl rfl rfl,hS⟩
set_option maxRecDepth 100000 in
set_option maxHeartbeats 8000000 in
theorem format8_any (b i:Int) (w:World):Calls Tryz.prog 7 #[.int .i64 b,.int .i64 i] w fun e w'=>e= .returned (.bool true)∧Below w.heap.size w w':=by
 have hal:=Lh (alive8_any (Sep.nil w));by_cases hb1:b<1
 ·go_enter Tryz.func7,Tryz.ntmps7;go_wp2_with(first |(go_at_call 12;refine hal.out.mono ?_;rintro e wn ⟨rfl,hS⟩;have h1:=Lh hS;clear hS hal));go_ret;exact⟨rfl,h1.out.below⟩
 by_cases hb4:400<b
 ·go_enter Tryz.func7,Tryz.ntmps7;go_wp2_with(first |(go_at_call 12;refine hal.out.mono ?_;rintro e wn ⟨rfl,hS⟩;have h1:=Lh hS;clear hS hal));go_ret;exact⟨rfl,h1.out.below⟩
 obtain⟨n,rfl⟩:∃n:Nat,b=n:=⟨b.toNat,by omega⟩;have hn1:1≤n:=by omega
 have hn4:n≤400:=by omega
 have hnw:Hid (∀W,Sep w W []→Calls Tryz.prog 32 #[.int .i64 n] W fun e w'=>∃p,e= .returned (.tuple #[.pointer (some ⟨p,0,none⟩),.int .i64 0])∧Sep w w' [diskR p (DK.fresh n)]):=Lh fun W hW=>new_any hn1 (by omega) hW
 have hfok:(DK.fresh n).ok n:=DK.fresh_ok hn1 (by omega);have hmr:Hid (∀W p,Sep w W [diskR p (DK.fresh n)]→Calls Tryz.prog 33 #[.pointer (some ⟨p,0,none⟩)] W fun e w'=>e= .returned (.tuple #[.pointer none,.int .i64 12])∧Sep w w' [diskR p (DK.fresh n)]):=Lh fun W p hW=>
  mount_raw hfok rfl (by
   by_cases h96:n≤96
   ·exact .inl h96
   refine .inr ⟨by omega,?_⟩;(show wayP (bk (List.replicate n zeroB) 0)=none);rw[bk_rep (by omega)];exact zero_way) hW
 have p1:¬((n:Int)<1):=by omega
 have p2:¬((400:Int)<n):=by omega
 by_cases hi:i<2∨1024<i
 ·(have hfm:Hid (∀W p,Sep w W [diskR p (DK.fresh n)]→Calls Tryz.prog 34 #[.pointer (some ⟨p,0,none⟩),.int .i64 i] W fun e w'=>e= .returned (.tuple #[.pointer none,.int .i64 1])∧Sep w w' [diskR p (DK.fresh n)]):=Lh fun W p hW=>format_arg (nb:=n) hi hW);have hrm:=Lh (fun W=>room8_arg (n:=n) hi W);clear hi hfok hb1 hb4 hn1 hn4;go_enter Tryz.func7,Tryz.ntmps7;go_wp2_with(first |(go_at_call 12;refine hal.out.mono ?_;rintro e wn ⟨rfl,hS⟩;have h1:=Lh hS;clear hS hal)|(go_at_call 32;refine(hnw.out _ h1.out).mono ?_;rintro e wn ⟨p,rfl,hS⟩;have h2:=Lh hS;clear hS h1 hnw)|(go_at_call 33;refine(hmr.out _ _ h2.out).mono ?_;rintro e wn ⟨rfl,hS⟩;have h3:=Lh hS;clear hS h2 hmr)|(go_at_call 34;refine(hfm.out _ _ h3.out).mono ?_;rintro e wn ⟨rfl,hS⟩;have h4:=Lh hS;clear hS h3 hfm)|(go_at_call 35;refine(hrm.out _).mono ?_;rintro e wn ⟨rfl,hb5⟩;have h5:=Lh (((h4.out.pure hb5).bN 28 #[.int .i64 0,.int .i64 0]));clear hb5 h4 hrm)|(go_at_call 16;refine(num8_any _ _).mono ?_;rintro e w2 ⟨rfl,rfl⟩));go_ret;exact⟨rfl,h5.out.below⟩
 obtain⟨m,rfl⟩:∃m:Nat,i=m:=⟨i.toNat,by omega⟩;have hm2:2≤m:=by omega
 have hm3:m≤1024:=by omega
 by_cases h98:n≤98+(m+7)/8
 ·(have hfm:Hid (∀W p,Sep w W [diskR p (DK.fresh n)]→Calls Tryz.prog 34 #[.pointer (some ⟨p,0,none⟩),.int .i64 m] W fun e w'=>e= .returned (.tuple #[.pointer none,.int .i64 27])∧Sep w w' [diskR p (DK.fresh n)]):=Lh fun W p hW=>format_space hfok rfl h98 hm2 hm3 hW);have hrm:=Lh (fun W=>room8_space h98 (by omega) hm2 hm3 W);clear hi hfok hb1 hb4 hn1 hn4 h98 hm2 hm3;go_enter Tryz.func7,Tryz.ntmps7;go_wp2_with(first |(go_at_call 12;refine hal.out.mono ?_;rintro e wn ⟨rfl,hS⟩;have h1:=Lh hS;clear hS hal)|(go_at_call 32;refine(hnw.out _ h1.out).mono ?_;rintro e wn ⟨p,rfl,hS⟩;have h2:=Lh hS;clear hS h1 hnw)|(go_at_call 33;refine(hmr.out _ _ h2.out).mono ?_;rintro e wn ⟨rfl,hS⟩;have h3:=Lh hS;clear hS h2 hmr)|(go_at_call 34;refine(hfm.out _ _ h3.out).mono ?_;rintro e wn ⟨rfl,hS⟩;have h4:=Lh hS;clear hS h3 hfm)|(go_at_call 35;refine(hrm.out _).mono ?_;rintro e wn ⟨rfl,hb5⟩;have h5:=Lh (((h4.out.pure hb5).bN 28 #[.int .i64 0,.int .i64 0]));clear hb5 h4 hrm)|(go_at_call 16;refine(num8_any _ _).mono ?_;rintro e w2 ⟨rfl,rfl⟩));go_ret;exact⟨rfl,h5.out.below⟩
 have h98':98+(m+7)/8<n:=by omega
 obtain⟨d1,d2,d3,d4,d5⟩:=new_disk (n:=n) (names:=m) h98' (by omega) hm2 hm3;have hL0:LiveT (VS.new n m) [] [] n m:=live_new h98' (by omega) hm2 hm3;obtain⟨S0,hS0⟩:∃S,S=VS.new n m:=⟨_,rfl⟩;have hfm:Hid (∀W p,Sep w W [diskR p (DK.fresh n)]→Calls Tryz.prog 34 #[.pointer (some ⟨p,0,none⟩),.int .i64 m] W fun e w'=>∃f q,e= .returned (.tuple #[.pointer (some ⟨f,0,none⟩),.int .i64 0])∧Sep w w' [restR f q p S0]):=Lh fun W p hW=>by rw[hS0];exact format_any h98' (by omega) hm2 hm3 hW
 rw[←hS0]at d1 d2 d3 d4 d5 hL0;have hrm:=Lh (fun W=>room8_ok h98' (by omega) hm2 hm3 W);have hn40:n≤4096:=by omega
 have his:Hid (∀W f q p S X,LiveT S [] [] n m→Sep w W (restR f q p S::X)→Calls Tryz.prog 36 #[.agg #[.slice none 0 0,.slice none 0 0,.int .i64 (roomB n m:Nat),.int .i64 (m:Nat)],.pointer (some ⟨f,0,none⟩)] W fun e w'=>e= .returned (.bool true)∧Sep w w' (restR f q p S.base::X)):=Lh fun W f q p S X hL hW=>is_empty hL hn40 hm3 hW
 have hcr:Hid (∀W f q p X,Sep w W (restR f q p S0.base::X)→Calls Tryz.prog 28 #[.pointer (some ⟨p,0,none⟩),.slice none 0 0] W fun e w'=>e= .returned (.tuple #[])∧S0.D.ok n∧Sep w w' (diskR p ⟨S0.D.now,S0.D.now,[],false, -1⟩::X)):=Lh fun W f q p X hW=>by have hok:=rest_dok hW;(have e1:S0.base.nb=n:=by rw[hS0];rfl);rw[e1]at hok;exact(rest_crash (S:=S0.base) d2 d1 hW).mono fun e w' ⟨h1,h2⟩=>⟨h1,hok,h2⟩
 have hmn:Hid (∀W p X,S0.D.ok n→Sep w W (diskR p ⟨S0.D.now,S0.D.now,[],false, -1⟩::X)→Calls Tryz.prog 33 #[.pointer (some ⟨p,0,none⟩)] W fun e w'=>∃f' q' S',e= .returned (.tuple #[.pointer (some ⟨f',0,none⟩),.int .i64 0])∧LiveT S' [] [] n m∧Sep w w' (restR f' q' p S'::X)):=Lh fun W p X hok hW=>mount_again hL0 hok d3 d4 d5 hW
 have hL0':=Lh hL0;obtain⟨B,hB⟩:∃B,B=roomB n m:=⟨_,rfl⟩;rw[←hB]at hrm his;clear hi hfok hb1 hb4 hn1 hn4 h98 h98' hm2 hm3 d1 d2 d3 d4 d5 hL0 hS0 hB hn40;go_enter Tryz.func7,Tryz.ntmps7;go_wp2_with(first |(go_at_call 12;refine hal.out.mono ?_;rintro e wn ⟨rfl,hS⟩;have h1:=Lh hS;clear hS hal)|(go_at_call 32;refine(hnw.out _ h1.out).mono ?_;rintro e wn ⟨p,rfl,hS⟩;have h2:=Lh hS;clear hS h1 hnw)|(go_at_call 33;refine(hmr.out _ _ h2.out).mono ?_;rintro e wn ⟨rfl,hS⟩;have h3:=Lh hS;clear hS h2 hmr)|(go_at_call 34;refine(hfm.out _ _ h3.out).mono ?_;rintro e wn ⟨f,q,rfl,hS⟩;have h4:=Lh hS;clear hS h3 hfm)|(go_at_call 35;refine(hrm.out _).mono ?_;rintro e wr ⟨rfl,hb5⟩;have h5:=Lh (((h4.out.pure hb5).bN 28 #[.int .i64 (B:Nat),.int .i64 (m:Nat)]));clear hb5 h4 hrm)|(go_at_call 16;refine(num8_any _ _).mono ?_;rintro e w2 ⟨rfl,rfl⟩));obtain⟨bt,hbt⟩:∃b,b=wr.heap.size:=⟨_,rfl⟩;have h6:Hid (Sep w ((wr.alloc (.cells #[.int .i64 (B:Nat),.int .i64 (m:Nat)] 28)).alloc (.cells #[.slice none 0 0,.slice none 0 0,.int .i64 (B:Nat),.int .i64 (m:Nat)] 34)) [restR f q p S0,.box (bt+1) 34 #[.slice none 0 0,.slice none 0 0,.int .i64 (B:Nat),.int .i64 (m:Nat)],.box bt 28 #[.int .i64 (B:Nat),.int .i64 (m:Nat)]]):=Lh (by have:=h5.out.bN 34 #[.slice none 0 0,.slice none 0 0,.int .i64 (B:Nat),.int .i64 (m:Nat)];simp only[World.size_alloc,←hbt]at this;exact Sep.sel [2,0,1] this (by decide) (by simp));rw[←hbt];clear h5 hbt;go_at_call 36;refine(his.out _ _ _ _ _ _ hL0'.out h6.out).mono ?_;rintro e w1 ⟨rfl,hS⟩;have h7:=Lh hS;clear hS h6;go_wp2_with(first |(go_at_call 28;refine(hcr.out _ _ _ _ _ h7.out).mono ?_;rintro e w2 ⟨rfl,hok,hS⟩;have hok':=Lh hok;have h8:=Lh hS;clear hS hok h7 hcr)|(go_at_call 33;refine(hmn.out _ _ _ hok'.out h8.out).mono ?_;rintro e w3 ⟨f',q',S',rfl,hL,hS⟩;have hL9:=Lh hL;have h9:=Lh hS;have t0:=hS.bC 1 rfl 0;have t1:=hS.bC 1 rfl 1;have t2:=hS.bC 1 rfl 2;have t3:=hS.bC 1 rfl 3;clear hS hL h8 hmn;simp only[gA,gB,gC]at t0 t1 t2 t3)|(go_at_call 36;refine(his.out _ _ _ _ _ _ hL9.out h9.out).mono ?_;rintro e w4 ⟨rfl,hS⟩;have h10:=Lh hS;clear hS h9)|(go_at_call 16;refine(num8_any _ _).mono ?_;rintro e w2 ⟨rfl,rfl⟩));go_ret;exact⟨rfl,h10.out.below⟩
end
end Go.Proofs.YteihmbaimbogaaaGreat
