/- DocC, laid together. -/
import Derived.Test.YtimkjnbihlgbiaaGreatJ15
namespace Go.Proofs.YtimkjnbihlgbiaaGreat
open Go.RowKit
set_option linter.unusedVariables false
theorem refmode_any (m:Int) (w:World):Calls Tryz.prog 139 #[.int .i64 m] w fun e w'=>e= .returned (.bool (modeOk m))∧w'=w:=by
 unfold modeOk;go_enter Tryz.func139,Tryz.ntmps139;go_wp2_with fail;all_goals go_ret
 all_goals refine⟨?_,rfl⟩
 all_goals(first |rfl|(congr 2;simp;done)|(congr 2;simp;omega)|(congr 1;show Value.bool _=Value.bool _;congr 1;simp_all;done)|(congr 1;show Value.bool _=Value.bool _;congr 1;rw[Bool.eq_iff_iff];simp;omega))
def hasModeB (op:Int):Bool:=decide (op=1)||(decide (op=6)||(decide (op=7)||decide (op=8)))
def hasToB (op:Int):Bool:=decide (op=3)||(decide (op=4)||decide (op=7))
theorem hasmode_any (op:Int) (w:World):Calls Tryz.prog 95 #[.int .i64 op] w fun e w'=>e= .returned (.bool (hasModeB op))∧w'=w:=by
 unfold hasModeB;go_enter Tryz.func95,Tryz.ntmps95;go_wp2_with fail;all_goals go_ret
 all_goals refine⟨?_,rfl⟩
 all_goals(first |rfl|(congr 2;simp;done)|(congr 2;simp;omega)|(congr 1;show Value.bool _=Value.bool _;congr 1;simp_all;done)|(congr 1;show Value.bool _=Value.bool _;congr 1;rw[Bool.eq_iff_iff];simp;omega))
theorem hasto_any (op:Int) (w:World):Calls Tryz.prog 62 #[.int .i64 op] w fun e w'=>e= .returned (.bool (hasToB op))∧w'=w:=by
 unfold hasToB;go_enter Tryz.func62,Tryz.ntmps62;go_wp2_with fail;all_goals go_ret
 all_goals refine⟨?_,rfl⟩
 all_goals(first |rfl|(congr 2;simp;done)|(congr 2;simp;omega)|(congr 1;show Value.bool _=Value.bool _;congr 1;simp_all;done)|(congr 1;show Value.bool _=Value.bool _;congr 1;rw[Bool.eq_iff_iff];simp;omega))
def tollV (B I:Int):Value:=.agg #[.int .i64 B,.int .i64 I]
theorem run_load_toll {w:World} {b:Nat} {x y:Value} (h0:w.cell? ⟨b,0,none⟩=some x) (h1:w.cell? ⟨b,1,none⟩=some y):(loadVar 80 ⟨b,0,none⟩).run Tryz.prog w= .ok (.agg #[x,y]) w:=by simp[loadVar,go_sem,h0,h1]
theorem toll_results1 {fn:Func} {p:Tmp} (h:fn.results=#[.cell p 80]) {tmps:Array Value} {w:World} {b:Nat} {x y:Value} (hp:tmps.getD p undef= .pointer (some ⟨b,0,none⟩)) (h0:w.cell? ⟨b,0,none⟩=some x) (h1:w.cell? ⟨b,1,none⟩=some y):
  (results fn tmps).run Tryz.prog w= .ok (.agg #[x,y]) w:=by
 have hp2:tmps[p]?.getD undef= .pointer (some ⟨b,0,none⟩):=by simpa using hp
 simp only[results,h];simp[hp2,asAddr,run_load_toll h0 h1]
def dirB (k:Nat):Int:=if k=0 then 1 else((k:Int)+15)/16
theorem dirB_dirW (k:Nat):dirB k=dirW k:=by unfold dirB dirW;split<;>omega
theorem refdir_any {k:Nat} (hk:k≤1000) (w:World):Calls Tryz.prog 69 #[.int .i64 k] w fun e w'=>e= .returned (tollV (dirB k) 1)∧Below w.heap.size w w':=by
 have hS0:=(Sep.nil w).bN 80 #[.int .i64 0,.int .i64 0];have c0:=hS0.bC 0 rfl 0;have c1:=hS0.bC 0 rfl 1;have z0:=hS0.bF 0 rfl 0;have z1:=hS0.bF 0 rfl 1;simp only[gA,gB,gC]at c0 c1;have hS0':=Lh hS0;clear hS0;have q0:(0:Int)≤(k:Int):=by omega
 have q1:(k:Int)≤1000:=by omega
 unfold dirB tollV;by_cases h0:k=0
 ·subst h0;rw[if_pos rfl];go_enter Tryz.func69,Tryz.ntmps69;go_wp2_with fail;have hS3:=(Sep.nil w).bN 80 #[.int .i64 1,.int .i64 1];have y0:=hS3.bC 0 rfl 0;have y1:=hS3.bC 0 rfl 1;refine bodyPost_ret (toll_results1 rfl rfl y0 y1) rfl ?_;exact⟨rfl,hS3.below⟩
 rw[if_neg h0];have b0:((k:Int)==0)=false:=by rw[beq_eq_false_iff_ne];omega
 have e0:Int.tdiv ((k:Int)+15) 16=((k:Int)+15)/16:=Int.tdiv_eq_ediv_of_nonneg (by omega);go_enter Tryz.func69,Tryz.ntmps69;go_wp2_with fail;have hS3:=(Sep.nil w).bN 80 #[.int .i64 (((k:Int)+15)/16),.int .i64 1];have y0:=hS3.bC 0 rfl 0;have y1:=hS3.bC 0 rfl 1;refine bodyPost_ret (toll_results1 rfl rfl y0 y1) rfl ?_;exact⟨rfl,hS3.below⟩
set_option maxRecDepth 100000 in
theorem reffile_any {n:Nat} (hn:n≤1048576) (w:World):Calls Tryz.prog 71 #[.int .i64 n] w fun e w'=>e= .returned (tollV (fileB n) 1)∧Below w.heap.size w w':=by
 have hS0:=(Sep.nil w).bN 80 #[.int .i64 0,.int .i64 0];have c0:=hS0.bC 0 rfl 0;have c1:=hS0.bC 0 rfl 1;have z0:=hS0.bF 0 rfl 0;have z1:=hS0.bF 0 rfl 1;simp only[gA,gB,gC]at c0 c1;have hS0':=Lh hS0;clear hS0;have e0:Int.tdiv ((n:Int)+511) 512=((n:Int)+511)/512:=Int.tdiv_eq_ediv_of_nonneg (by omega);have hf:fileB n=if 8<((n:Int)+511)/512 then((n:Int)+511)/512+1 else((n:Int)+511)/512:=by unfold fileB;(have e1:((n:Int)+512-1)=(n:Int)+511:=by omega);first |rfl|(rw[e1])
 have q0:(0:Int)≤(n:Int):=by omega
 have q1:(n:Int)≤1048576:=by omega
 have q2:0≤((n:Int)+511)/512∧((n:Int)+511)/512≤2049:=by omega
 rw[hf];obtain⟨b,hb⟩:∃b,((n:Int)+511)/512=b:=⟨_,rfl⟩;rw[hb]at e0 q2 ⊢;obtain⟨q3,q4⟩:=q2;clear hb hf;unfold tollV;by_cases h8:8<b
 ·rw[if_pos h8];go_enter Tryz.func71,Tryz.ntmps71;go_wp2_with fail;have hS3:=(Sep.nil w).bN 80 #[.int .i64 (b+1),.int .i64 1];have y0:=hS3.bC 0 rfl 0;have y1:=hS3.bC 0 rfl 1;refine bodyPost_ret (toll_results1 rfl rfl y0 y1) rfl ?_;exact⟨rfl,hS3.below⟩
 rw[if_neg h8];go_enter Tryz.func71,Tryz.ntmps71;go_wp2_with fail;have hS3:=(Sep.nil w).bN 80 #[.int .i64 b,.int .i64 1];have y0:=hS3.bC 0 rfl 0;have y1:=hS3.bC 0 rfl 1;refine bodyPost_ret (toll_results1 rfl rfl y0 y1) rfl ?_;exact⟨rfl,hS3.below⟩
theorem toll_two (w:World) (B I C J:Int):Hid (∃hS:Sep w (((w.alloc (.cells #[.int .i64 B,.int .i64 I] 80)).alloc (.cells #[.int .i64 C,.int .i64 J] 80)).alloc (.cells #[.int .i64 0,.int .i64 0] 80)) [.box (w.heap.size+1+1) 80 #[.int .i64 0,.int .i64 0],.box (w.heap.size+1) 80 #[.int .i64 C,.int .i64 J],.box w.heap.size 80 #[.int .i64 B,.int .i64 I]],True):=by refine Lh ⟨?_,trivial⟩;have h:=(((Sep.nil w).bN 80 #[.int .i64 B,.int .i64 I]).bN 80 #[.int .i64 C,.int .i64 J]).bN 80 #[.int .i64 0,.int .i64 0];simp only[World.size_alloc]at h;exact h
theorem tplus_any {B I C J:Int} (h1: -1000000≤B∧B≤1000000) (h2: -1000000≤I∧I≤1000000) (h3: -1000000≤C∧C≤1000000) (h4: -1000000≤J∧J≤1000000) (w:World):
  Calls Tryz.prog 70 #[tollV B I,tollV C J] w fun e w'=>e= .returned (tollV (B+C) (I+J))∧Below w.heap.size w w':=by
 obtain⟨hS0,_⟩:=(toll_two w B I C J).out;have c0:=hS0.bC 0 rfl 0;have c1:=hS0.bC 0 rfl 1;have c2:=hS0.bC 1 rfl 0;have c3:=hS0.bC 1 rfl 1;have c4:=hS0.bC 2 rfl 0;have c5:=hS0.bC 2 rfl 1;have z0:=hS0.bF 0 rfl 0;have z1:=hS0.bF 0 rfl 1;simp only[gA,gB,gC]at c0 c1 c2 c3 c4 c5;have hS0':=Lh hS0;clear hS0;obtain⟨a1,a2⟩:=h1;obtain⟨a3,a4⟩:=h2;obtain⟨a5,a6⟩:=h3;obtain⟨a7,a8⟩:=h4;unfold tollV;go_enter Tryz.func70,Tryz.ntmps70;go_wp2_with fail;have hS3:=(((Sep.nil w).bN 80 #[.int .i64 B,.int .i64 I]).bN 80 #[.int .i64 C,.int .i64 J]).bN 80 #[.int .i64 (B+C),.int .i64 (I+J)];simp only[World.size_alloc]at hS3;have y0:=hS3.bC 0 rfl 0;have y1:=hS3.bC 0 rfl 1;refine bodyPost_ret (toll_results1 rfl rfl y0 y1) rfl ?_;exact⟨rfl,hS3.below⟩
theorem tminus_any {B I C J:Int} (h1: -1000000≤B∧B≤1000000) (h2: -1000000≤I∧I≤1000000) (h3: -1000000≤C∧C≤1000000) (h4: -1000000≤J∧J≤1000000) (w:World):
  Calls Tryz.prog 34 #[tollV B I,tollV C J] w fun e w'=>e= .returned (tollV (B-C) (I-J))∧Below w.heap.size w w':=by
 obtain⟨hS0,_⟩:=(toll_two w B I C J).out;have c0:=hS0.bC 0 rfl 0;have c1:=hS0.bC 0 rfl 1;have c2:=hS0.bC 1 rfl 0;have c3:=hS0.bC 1 rfl 1;have c4:=hS0.bC 2 rfl 0;have c5:=hS0.bC 2 rfl 1;have z0:=hS0.bF 0 rfl 0;have z1:=hS0.bF 0 rfl 1;simp only[gA,gB,gC]at c0 c1 c2 c3 c4 c5;have hS0':=Lh hS0;clear hS0;obtain⟨a1,a2⟩:=h1;obtain⟨a3,a4⟩:=h2;obtain⟨a5,a6⟩:=h3;obtain⟨a7,a8⟩:=h4;unfold tollV;go_enter Tryz.func34,Tryz.ntmps34;go_wp2_with fail;have hS3:=(((Sep.nil w).bN 80 #[.int .i64 B,.int .i64 I]).bN 80 #[.int .i64 C,.int .i64 J]).bN 80 #[.int .i64 (B-C),.int .i64 (I-J)];simp only[World.size_alloc]at hS3;have y0:=hS3.bC 0 rfl 0;have y1:=hS3.bC 0 rfl 1;refine bodyPost_ret (toll_results1 rfl rfl y0 y1) rfl ?_;exact⟨rfl,hS3.below⟩
def lessB (a b:Int×Int):Bool:=decide (a.1<b.1)||(decide (a.1=b.1)&&decide (a.2<b.2))
theorem tless_any (B I C J:Int) (w:World):Calls Tryz.prog 36 #[tollV B I,tollV C J] w fun e w'=>e= .returned (.bool (lessB (B,I) (C,J)))∧Below w.heap.size w w':=by
 obtain⟨hS0,_⟩:=(toll_two w B I C J).out;have hS1:=((Sep.nil w).bN 80 #[.int .i64 B,.int .i64 I]).bN 80 #[.int .i64 C,.int .i64 J];simp only[World.size_alloc]at hS1;have c2:=hS1.bC 0 rfl 0;have c3:=hS1.bC 0 rfl 1;have c4:=hS1.bC 1 rfl 0;have c5:=hS1.bC 1 rfl 1;simp only[gA,gB,gC]at c2 c3 c4 c5;have hB9:∀B I C J:Int,Hid (Below w.heap.size w ((w.alloc (.cells #[.int .i64 B,.int .i64 I] 80)).alloc (.cells #[.int .i64 C,.int .i64 J] 80))):=fun B I C J=>Lh ((((Sep.nil w).bN 80 #[.int .i64 B,.int .i64 I]).bN 80 #[.int .i64 C,.int .i64 J]).below)
 clear hS0 hS1;unfold tollV lessB;go_enter Tryz.func36,Tryz.ntmps36;go_wp2_with fail;all_goals go_ret
 all_goals refine⟨?_,(hB9 _ _ _ _).out⟩
 all_goals(first |rfl|(congr 2;simp;done)|(congr 2;simp;omega)|(congr 1;show Value.bool _=Value.bool _;congr 1;simp_all;done)|(congr 1;show Value.bool _=Value.bool _;congr 1;rw[Bool.eq_iff_iff];simp;omega))
end Go.Proofs.YtimkjnbihlgbiaaGreat
