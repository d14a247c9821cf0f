/- DocK, DocG, DocL0, laid together. -/
import Derived.Test.YtimkjnbihlgbiaaGreatJ30
import Derived.Test.YtimkjnbihlgbiaaGreatJ31
namespace Go.Proofs.YtimkjnbihlgbiaaGreat
open Go.RowKit
set_option linter.unusedVariables false
set_option linter.unusedSimpArgs false
theorem Rd.head {w:World} {sz g o n c k:Nat} {cs:List Value} (h:Rd w sz (.slice (some ⟨g,o,none⟩) n c) n cs) (hn:0<n) (hk:k≤n):Rd w sz (.slice (some ⟨g,o,none⟩) k c) k (cs.take (k*sz)):=by
 obtain⟨hl,A,c',e,h1,h2,h3⟩:=h;cases e;refine⟨?_,_,_,rfl,by omega,h2,fun hp=>?_⟩
 ·rw[List.length_take,hl,Nat.min_eq_left (Nat.mul_le_mul_right _ hk)]
 obtain⟨ad,e,hb,hc⟩:=h3 hn;cases e;refine⟨_,rfl,hb,fun j u hu=>?_⟩;rw[List.getElem?_take]at hu;split at hu
 ·exact hc j u hu
 cases hu
set_option maxRecDepth 100000 in
set_option maxHeartbeats 2000000 in
theorem refwithout_any {w:World} {g n c k:Nat} {ns:List TN} (hr:Rd w 3 (.slice (some ⟨g,0,none⟩) n c) n (tnCells ns)) (hn:ns.length=n) (hk:k<n) (hn9:n≤1000) (hnc:n≤c):
  Calls Tryz.prog 67 #[.slice (some ⟨g,0,none⟩) n c,.int .i64 k] w fun e w'=>∃A c',e= .returned (.slice A (n-1) c')∧Sep w w' [.sl 51 3 (.slice A (n-1) c') (n-1) (tnCells (ns.take k++ns.drop (k+1)))]:=by
 obtain⟨k0,hknf,hk0,hk1,hk2⟩:=info_parts info_nodeT;have r1:=hr.head (k:=k) (by omega) (by omega);rw[tnCells_take ns k (by omega)]at r1;have hS:=(Sep.nil w).drew.sl_nil 51 3;have r1':=Lh r1;have hS':=Lh hS;have q0:(0:Int)≤(k:Int):=by omega
 have q1:(k:Int)<(n:Int):=by omega
 have q2:(k:Int)≤(c:Int):=by omega
 have q3:(k:Int)+1≤(n:Int):=by omega
 have q4:(n:Int)≤1000:=by omega
 have hwr:IntKind.i64.wrap ((k:Int)+1)=(k:Int)+1:=IntWalk.i64_in _ (by omega);have htn:((k:Int)+1).toNat=k+1:=by omega
 have q5:(0:Int)≤(k:Int)+1:=by omega
 have q6:k≤c:=by omega
 have q7:k+1≤n:=by omega
 have q8:(k:Int)≤(k:Int)+1:=by omega
 by_cases hck:c=k+1
 ·(have hnk:n=k+1:=by omega);subst hnk;subst hck;have r2:Rd w 3 (.slice (some ⟨g,0,none⟩) 0 0) 0 []:=⟨rfl,_,_,rfl,Nat.le_refl _,Nat.zero_le _,fun h=>absurd h (Nat.lt_irrefl _)⟩;have r2':=Lh r2;clear hr r1 r2 hS;go_enter Tryz.func67,Tryz.ntmps67;go_wp2_with fail;refine wp_region_E (S:=fun w'=>True) 9 (by kernel_rfl) ?_;simp only[List.size_toArray,List.length_cons,List.length_nil,Nat.reduceAdd];refine wpE_tk (i:=0) (v:=?_) True.intro rfl ?_ ?_;rotate_left
  ·rintro w e1;go_simp;try with_reducible rfl
  simp only[Act.put,gD];refine wpE_tk (i:=1) (v:=?_) True.intro rfl ?_ ?_;rotate_left
  ·rintro w e1;go_simp;try with_reducible rfl
  simp only[Act.put,gD];refine wpE_tk (i:=2) (v:=?_) True.intro rfl ?_ ?_;rotate_left
  ·rintro w e1;go_simp;try with_reducible rfl
  simp only[Act.put,gD];refine wpE_tk (i:=4) (v:=?_) True.intro rfl ?_ ?_;rotate_left
  ·rintro w e1;go_simp;try with_reducible rfl
  simp only[Act.put,gD];refine wpE_tk (i:=5) (v:=?_) True.intro rfl ?_ ?_;rotate_left
  ·rintro w e1;go_simp;try with_reducible rfl
  simp only[Act.put,gD];refine wpE_tk (i:=6) (v:=?_) True.intro rfl ?_ ?_;rotate_left
  ·rintro w e1;go_simp;try with_reducible rfl
  simp only[Act.put,gD];refine wpE_tk (i:=7) (v:=?_) True.intro rfl ?_ ?_;rotate_left
  ·rintro w e1;go_simp;try with_reducible rfl
  simp only[Act.put,gD];refine wpE_one (i:=3) (by kernel_rfl) rfl (fun K hK=>?_);refine step_append_any_sep 0 (by rfl) _ _ 22 (by rfl) 51 k0 _ 3 32 Tryz.underlying22 hknf hk0 hk1 hk2 rfl (by decide) hS'.out (.slice none 0 0) 0 [] (by rfl) (by simp[Act.eval]) (.slice (some ⟨g,0,none⟩) k (k+1)) k (tnCells (ns.take k)) (by simp[Act.eval]) (r1'.out.below hS'.out.below) (tnCells_oneCell _) (by unfold maxLen;omega) (by omega) ?_;intro v3 w3 hS3 hz3;(try simp only[List.set_cons_zero,Nat.zero_add,List.nil_append]at hS3);have hS3':=Lh hS3;clear hz3 hS3 hS';refine hK _ _ (fun _=>True.intro) ?_;clear hK K;(try simp only[Act.put,gD]);refine wpE_one (i:=8) (by kernel_rfl) rfl (fun K hK=>?_);refine step_append_any_sep 0 (by rfl) _ _ 22 (by rfl) 51 k0 _ 3 32 Tryz.underlying22 hknf hk0 hk1 hk2 rfl (by decide) hS3'.out v3 k (tnCells (ns.take k)) (by rfl) (by simp[Act.eval]) (.slice (some ⟨g,0,none⟩) 0 0) 0 [] (by simp[Act.eval]) (r2'.out.below hS3'.out.below) (by simp) (by unfold maxLen;omega) (by omega) ?_;intro v4 w4 hS4 hz4;(try simp only[List.set_cons_zero]at hS4);(have e9:k+0=k+1-1:=by omega);(have e8:tnCells (ns.take k)++[]=tnCells (ns.take k++ns.drop (k+1)):=by first |(rw[tnCells_app];done)|(rw[tnCells_app,List.drop_eq_nil_of_le (by omega)];rfl));rw[e9,e8]at hS4;have hr4:Rd w4 3 v4 (k+1-1) (tnCells (ns.take k++ns.drop (k+1))):=hS4.rd 0 rfl;have hsh4:=hr4.form;clear hr4 e9 e8 hz4 hS3';have hS4':=Lh hS4;clear hS4;refine hK _ _ (fun _=>True.intro) ?_;clear hK K;(try simp only[Act.put,gD]);refine wpE_one (i:=9) (by kernel_rfl) rfl (fun K hK=>?_);go_simp;refine hK _ _ (fun h=>absurd rfl h) ?_;clear hK K;(try simp only[Act.put,gD]);refine wpE_done (by kernel_rfl) ?_ _;go_wp2_with fail;go_ret;obtain⟨A4,c4,e4⟩:=hsh4;subst e4;exact⟨A4,c4,rfl,hS4'.out⟩
 have r2:Rd w 3 (.slice (some ⟨g,(k+1)*3,none⟩) (n-(k+1)) (c-(k+1))) (n-(k+1)) (tnCells (ns.drop (k+1))):=by have h:=hr.tail (k:=k+1) (by omega) (by omega);rw[tnCells_drop ns (k+1) (by omega)]at h;exact h
 have r2':=Lh r2;clear hr r1 r2 hS;go_enter Tryz.func67,Tryz.ntmps67;go_wp2_with fail;refine wp_region_E (S:=fun w'=>True) 9 (by kernel_rfl) ?_;simp only[List.size_toArray,List.length_cons,List.length_nil,Nat.reduceAdd];refine wpE_tk (i:=0) (v:=?_) True.intro rfl ?_ ?_;rotate_left
 ·rintro w e1;go_simp;try with_reducible rfl
 simp only[Act.put,gD];refine wpE_tk (i:=1) (v:=?_) True.intro rfl ?_ ?_;rotate_left
 ·rintro w e1;go_simp;try with_reducible rfl
 simp only[Act.put,gD];refine wpE_tk (i:=2) (v:=?_) True.intro rfl ?_ ?_;rotate_left
 ·rintro w e1;go_simp;try with_reducible rfl
 simp only[Act.put,gD];refine wpE_tk (i:=4) (v:=?_) True.intro rfl ?_ ?_;rotate_left
 ·rintro w e1;go_simp;try with_reducible rfl
 simp only[Act.put,gD];refine wpE_tk (i:=5) (v:=?_) True.intro rfl ?_ ?_;rotate_left
 ·rintro w e1;go_simp;try with_reducible rfl
 simp only[Act.put,gD];refine wpE_tk (i:=6) (v:=?_) True.intro rfl ?_ ?_;rotate_left
 ·rintro w e1;go_simp;try with_reducible rfl
 simp only[Act.put,gD];refine wpE_tk (i:=7) (v:=?_) True.intro rfl ?_ ?_;rotate_left
 ·rintro w e1;go_simp;try with_reducible rfl
 simp only[Act.put,gD];refine wpE_one (i:=3) (by kernel_rfl) rfl (fun K hK=>?_);refine step_append_any_sep 0 (by rfl) _ _ 22 (by rfl) 51 k0 _ 3 32 Tryz.underlying22 hknf hk0 hk1 hk2 rfl (by decide) hS'.out (.slice none 0 0) 0 [] (by rfl) (by simp[Act.eval]) (.slice (some ⟨g,0,none⟩) k c) k (tnCells (ns.take k)) (by simp[Act.eval]) (r1'.out.below hS'.out.below) (tnCells_oneCell _) (by unfold maxLen;omega) (by omega) ?_;intro v3 w3 hS3 hz3;try simp only[List.set_cons_zero,Nat.zero_add,List.nil_append]at hS3
 have hS3':=Lh hS3;clear hz3 hS3 hS';refine hK _ _ (fun _=>True.intro) ?_;clear hK K;try simp only[Act.put,gD]
 refine wpE_one (i:=8) (by kernel_rfl) rfl (fun K hK=>?_);refine step_append_any_sep 0 (by rfl) _ _ 22 (by rfl) 51 k0 _ 3 32 Tryz.underlying22 hknf hk0 hk1 hk2 rfl (by decide) hS3'.out v3 k (tnCells (ns.take k)) (by rfl) (by simp[Act.eval]) (.slice (some ⟨g,(k+1)*3,none⟩) (n-(k+1)) (c-(k+1))) (n-(k+1)) (tnCells (ns.drop (k+1))) (by simp[Act.eval]) (r2'.out.below hS3'.out.below) (tnCells_oneCell _) (by unfold maxLen;omega) (by omega) ?_;intro v4 w4 hS4 hz4;try simp only[List.set_cons_zero]at hS4
 have e9:k+(n-(k+1))=n-1:=by omega
 have e8:tnCells (ns.take k)++(tnCells (ns.drop (k+1)))=tnCells (ns.take k++ns.drop (k+1)):=by first |(rw[tnCells_app];done)|(rw[tnCells_app,List.drop_eq_nil_of_le (by omega)];rfl)
 rw[e9,e8]at hS4;have hr4:Rd w4 3 v4 (n-1) (tnCells (ns.take k++ns.drop (k+1))):=hS4.rd 0 rfl;have hsh4:=hr4.form;clear hr4 e9 e8 hz4 hS3';have hS4':=Lh hS4;clear hS4;refine hK _ _ (fun _=>True.intro) ?_;clear hK K;try simp only[Act.put,gD]
 refine wpE_one (i:=9) (by kernel_rfl) rfl (fun K hK=>?_);go_simp;refine hK _ _ (fun h=>absurd rfl h) ?_;clear hK K;try simp only[Act.put,gD]
 refine wpE_done (by kernel_rfl) ?_ _;go_wp2_with fail;go_ret;obtain⟨A4,c4,e4⟩:=hsh4;subst e4;exact⟨A4,c4,rfl,hS4'.out⟩
set_option maxRecDepth 100000 in
set_option maxHeartbeats 2000000 in
theorem refmade_any {w:World} {nv fv:Value} {ns:List TN} {fs:List TF} {vs:List Value} (h:TreeAt w nv fv ns fs vs) (hm:TreeSm ns fs) (hfr:∀n∈ns,n.file= -1∨(0≤n.file∧n.file<(fs.length:Int))):
  Calls Tryz.prog 68 #[nv,fv] w fun e w'=>∃A3 n3 c3 A4 n4 c4,e= .returned (.tuple #[.agg #[.slice A3 n3 c3,.slice A4 n4 c4],.int .i64 (if canD ns fs=0 then 0 else 31)])∧Sep w w' [.keep fun W=>canD ns fs=0→∃vs',TreeAt W (.slice A3 n3 c3) (.slice A4 n4 c4) (dnT ns) (dfT ns fs) vs']:=by
 have hS0:=(Sep.nil w).bN 25 #[.slice none 0 0,.slice none 0 0];have hcn:=refcanon_any (h.below hS0.below) hm hfr;obtain⟨A1,ca1,rfl,hm1⟩:=h.nodes.shape;obtain⟨A2,ca2,rfl,hm2⟩:=h.files.shape;have hS0':=Lh hS0;have hcn':=Lh hcn;clear hS0 hcn h hm hfr hm1 hm2;generalize hcd:canD ns fs=CD at hcn' ⊢;clear hcd;by_cases hz:CD=0
 ·subst hz;rw[if_pos rfl];go_enter Tryz.func68,Tryz.ntmps68;go_wp2_with(go_at_call 100;refine hcn'.out.mono ?_;rintro e w1 ⟨A3,n3,c3,A4,n4,c4,rfl,hS1⟩;(have hS2:=(hS0'.out.join hS1).bN 25 #[.slice A3 n3 c3,.slice A4 n4 c4]);(have s0:=hS2.bC 2 rfl 0);(have s1:=hS2.bC 2 rfl 1);(have sz0:=hS2.bF 2 rfl 0);(have sz1:=hS2.bF 2 rfl 1);(have s2:=hS2.bC 0 rfl 0);(have s3:=hS2.bC 0 rfl 1);simp only[gA,gB,gC]at s0 s1 s2 s3;replace hS2:=Lh hS2;clear hS1);have hS3:=(hS2.out.bS 2 rfl 0 (.slice A3 n3 c3)).bS 2 rfl 1 (.slice A4 n4 c4);have e0:=hS3.bC 2 rfl 0;have e1:=hS3.bC 2 rfl 1;refine bodyPost_ret (tree_results2 rfl rfl e0 e1) rfl ?_;exact⟨_,_,_,_,_,_,rfl,Sep.fst (X:=[_]) (Sep.drop 1 hS3)⟩
 rw[if_neg hz];have hzb:(CD !=0)=true:=by simpa using hz
 have hz':=Lh hz;clear hz;go_enter Tryz.func68,Tryz.ntmps68;go_wp2_with(go_at_call 100;refine hcn'.out.mono ?_;rintro e w1 ⟨A3,n3,c3,A4,n4,c4,rfl,hS1⟩;(have hS2:=(hS0'.out.join hS1).bN 25 #[.slice A3 n3 c3,.slice A4 n4 c4]);(have s0:=hS2.bC 2 rfl 0);(have s1:=hS2.bC 2 rfl 1);(have sz0:=hS2.bF 2 rfl 0);(have sz1:=hS2.bF 2 rfl 1);(have s2:=hS2.bC 0 rfl 0);(have s3:=hS2.bC 0 rfl 1);simp only[gA,gB,gC]at s0 s1 s2 s3;replace hS2:=Lh hS2;clear hS1);have hS3:=(hS2.out.bS 2 rfl 0 (.slice none 0 0)).bS 2 rfl 1 (.slice none 0 0);have e0:=hS3.bC 2 rfl 0;have e1:=hS3.bC 2 rfl 1;refine bodyPost_ret (tree_results2 rfl rfl e0 e1) rfl ?_;exact⟨none,0,0,none,0,0,rfl,Sep.keep (X:=[]) (Y:=[]) ((Sep.nil w).pure hS3.below) fun _ W _ h0=>absurd h0 hz'.out⟩
def firstD (op:Int) (p tz:List UInt8) (mode ref:Int) (cs:List Value):Int:=
 if op<1∨9<op then 34 else if op=9 then 0 else firstP (hasModeB op) (hasToB op) op p tz mode ref cs
set_option maxRecDepth 100000 in
set_option maxHeartbeats 20000000 in
theorem reffirst_any (op:Int) {p tz:List UInt8} (hp9:p.length≤1048576) (ht9:tz.length≤1048576) (mode ref:Int) {sv:Value} {cs:List Value} {w:World} (hsv:StockAt w sv cs):
  Calls Tryz.prog 60 #[insV op p tz mode ref,sv] w fun e w'=>e= .returned (.int .i64 (firstD op p tz mode ref cs))∧Below w.heap.size w w':=by
 have hS:=(Sep.nil w).bN 49 (insC op p tz mode ref);have hvp:=fun W=>refvalid_any ⟨p.toArray⟩ W (by rw[strV_size];omega)
 have hvt:=fun W=>refvalid_any ⟨tz.toArray⟩ W (by rw[strV_size];omega)
 rw[strV_data]at hvp hvt;have hcl:=fun(W:World) (hS:Sep w W [.box w.heap.size 49 (insC op p tz mode ref)])=>And.intro (hS.bC 0 rfl 0) (And.intro (hS.bC 0 rfl 1) (And.intro (hS.bC 0 rfl 2) (And.intro (hS.bC 0 rfl 3) (hS.bC 0 rfl 4))))
 simp only[insC,strV,gA,gB,gC]at hcl;have hS':=Lh hS;have hsv':=Lh hsv;obtain⟨As,cp,rfl,hcp⟩:=hsv.1.shape;obtain⟨FD,hFD⟩:∃x,firstD op p tz mode ref cs=x:=⟨_,rfl⟩;rw[hFD];have hhm:=hasmode_any op;have hht:=hasto_any op;unfold firstD at hFD;generalize hasModeB op=rm at hhm hFD;generalize hasToB op=rt at hht hFD;generalize hvpe:validL p=vp at hvp;generalize hvte:validL tz=vt at hvt;unfold firstP at hFD;rw[hvpe,hvte]at hFD;have hFD':=Lh hFD;have hvp':=Lh hvp;have hvt':=Lh hvt;have hcl':=Lh hcl;obtain⟨y0,y1,y2,y3,y4⟩:=hcl _ hS;unfold insV strV at*;clear hS hsv hvp hvt hcl hFD hvpe hvte;go_enter Tryz.func60,Tryz.ntmps60;by_cases hp0:p=[]
 ·subst hp0;go_wp2_with(first |(go_at_call 95;refine(hhm _).mono ?_;rintro e w4 ⟨rfl,hw4⟩;have hw5:=hw4.symm;clear hw4;subst hw5)|(go_at_call 62;refine(hht _).mono ?_;rintro e w4 ⟨rfl,hw4⟩;have hw5:=hw4.symm;clear hw4;subst hw5));all_goals
   have hbel:=Lh hS'.out.below
   clear y0 y1 y2 y3 y4 hhm hht hcl' hS' hvp' hvt' hsv'
   go_ret
   refine⟨?_,hbel.out⟩
   have hfd:=hFD'.out
   clear hFD' hbel
   show Ending.returned (Value.int .i64 _)=_
   congr 2
   rw[←hfd]
   clear hfd
   repeat' split
   all_goals first |rfl|(exfalso;omega)|(exfalso;simp_all;done)|(by_cases hq9:8192<n<;>first |(rw[if_pos hq9];done)|(rw[if_neg hq9];done)|(exfalso;omega))|(exfalso;simp_all;omega)
 have pe:p.isEmpty=false:=by cases p with|nil=>exact absurd rfl hp0|cons a l=>rfl
 have te:tz=[]∨tz.isEmpty=false:=by cases tz with|nil=>exact Or.inl rfl|cons a l=>exact Or.inr rfl
 by_cases hkey:op=6∧0≤ref∧ref<(cs.length:Int)
 ·obtain⟨h6,hr0,hr1⟩:=hkey;obtain⟨k,hk⟩:∃k:Nat,ref=(k:Int):=⟨ref.toNat,by omega⟩;subst hk;subst h6;obtain⟨A,n,c,hcs,hn⟩:=hsv'.out.at_ (k:=k) (by omega);obtain⟨g,o,c9,e,_,_,_,hcell⟩:=Rd.place hsv'.out.1 (by omega) (by decide);cases e;(have hcs':cs[k*1]? =some (.slice A n c):=by rw[Nat.mul_one];exact hcs);(have hx:=fun(W:World) (hW:Below w.heap.size w W)=>(hcell _ hW (k*1) (by omega)).trans hcs');rw[Nat.mul_one]at hx;have hx':=Lh hx;(have hgd:cs.getD (k:Int).toNat (.slice none 0 0)= .slice A n c:=by rw[Int.toNat_natCast,gH,hcs];rfl);have hFD2:=hFD'.out;rw[hgd]at hFD2;have hdl:dvLen (.slice A n c)=n:=rfl;rw[hdl]at hFD2;have hFD':=Lh hFD2;clear hFD2 hgd hx hcell hcs;rcases te with te|te
  ·subst te;go_wp2_with(first |(go_at_call 95;refine(hhm _).mono ?_;rintro e w4 ⟨rfl,hw4⟩;have hw5:=hw4.symm;clear hw4;subst hw5)|(go_at_call 62;refine(hht _).mono ?_;rintro e w4 ⟨rfl,hw4⟩;have hw5:=hw4.symm;clear hw4;subst hw5)|(go_at_call 96;refine(hvp'.out _).mono ?_;rintro e w1 ⟨rfl,hb1⟩;(have hS1:=hS'.out.pure hb1);obtain⟨a0,a1,a2,a3,a4⟩:=hcl'.out _ hS1;replace hS1:=Lh hS1;clear hb1 hvp')|(go_at_call 96;refine(hvt'.out _).mono ?_;rintro e w2 ⟨rfl,hb2⟩;(have hS2:=hS1.out.pure hb2);obtain⟨b0,b1,b2,b3,b4⟩:=hcl'.out _ hS2;(have x2:=hx'.out _ hS2.below);replace hS2:=Lh hS2;clear hb2));all_goals
    first
     |(have hbel:=Lh hS2.out.below)
     |(have hbel:=Lh hS'.out.below)
    clear y0 y1 y2 y3 y4 hhm hht
    try clear a0 a1 a2 a3 a4
    try clear b0 b1 b2 b3 b4
    try clear x2
    try clear hS2
    try clear hS1
    try clear hvp'
    clear hcl' hS' hvt' hsv'
    go_ret
    refine⟨?_,hbel.out⟩
    have hfd:=hFD'.out
    clear hFD' hbel
    show Ending.returned (Value.int .i64 _)=_
    congr 2
    rw[←hfd]
    clear hfd
    repeat' split
    all_goals first |rfl|(exfalso;omega)|(exfalso;simp_all;done)|(by_cases hq9:8192<n<;>first |(rw[if_pos hq9];done)|(rw[if_neg hq9];done)|(exfalso;omega))|(exfalso;simp_all;omega)
  (have t0:¬tz=[]:=fun h=>by rw[h]at te;cases te);go_wp2_with(first |(go_at_call 95;refine(hhm _).mono ?_;rintro e w4 ⟨rfl,hw4⟩;have hw5:=hw4.symm;clear hw4;subst hw5)|(go_at_call 62;refine(hht _).mono ?_;rintro e w4 ⟨rfl,hw4⟩;have hw5:=hw4.symm;clear hw4;subst hw5)|(go_at_call 96;refine(hvp'.out _).mono ?_;rintro e w1 ⟨rfl,hb1⟩;(have hS1:=hS'.out.pure hb1);obtain⟨a0,a1,a2,a3,a4⟩:=hcl'.out _ hS1;replace hS1:=Lh hS1;clear hb1 hvp')|(go_at_call 96;refine(hvt'.out _).mono ?_;rintro e w2 ⟨rfl,hb2⟩;(have hS2:=hS1.out.pure hb2);obtain⟨b0,b1,b2,b3,b4⟩:=hcl'.out _ hS2;(have x2:=hx'.out _ hS2.below);replace hS2:=Lh hS2;clear hb2));all_goals
   first
    |(have hbel:=Lh hS2.out.below)
    |(have hbel:=Lh hS'.out.below)
   clear y0 y1 y2 y3 y4 hhm hht
   try clear a0 a1 a2 a3 a4
   try clear b0 b1 b2 b3 b4
   try clear x2
   try clear hS2
   try clear hS1
   try clear hvp'
   clear hcl' hS' hvt' hsv'
   go_ret
   refine⟨?_,hbel.out⟩
   have hfd:=hFD'.out
   clear hFD' hbel
   show Ending.returned (Value.int .i64 _)=_
   congr 2
   rw[←hfd]
   clear hfd
   repeat' split
   all_goals first |rfl|(exfalso;omega)|(exfalso;simp_all;done)|(by_cases hq9:8192<n<;>first |(rw[if_pos hq9];done)|(rw[if_neg hq9];done)|(exfalso;omega))|(exfalso;simp_all;omega)
 have hnk:(¬op=6)∨(op=6∧ref<0)∨(op=6∧0≤ref∧(cs.length:Int)≤ref):=by omega
 rcases hnk with h6|⟨h6,hr0⟩|⟨h6,hr0,hr1⟩
 ·(have b6:(op==6)=false:=by simpa using h6);clear hkey;rcases te with te|te
  ·subst te;go_wp2_with(first |(go_at_call 95;refine(hhm _).mono ?_;rintro e w4 ⟨rfl,hw4⟩;have hw5:=hw4.symm;clear hw4;subst hw5)|(go_at_call 62;refine(hht _).mono ?_;rintro e w4 ⟨rfl,hw4⟩;have hw5:=hw4.symm;clear hw4;subst hw5)|(go_at_call 96;refine(hvp'.out _).mono ?_;rintro e w1 ⟨rfl,hb1⟩;(have hS1:=hS'.out.pure hb1);obtain⟨a0,a1,a2,a3,a4⟩:=hcl'.out _ hS1;replace hS1:=Lh hS1;clear hb1 hvp')|(go_at_call 96;refine(hvt'.out _).mono ?_;rintro e w2 ⟨rfl,hb2⟩;(have hS2:=hS1.out.pure hb2);obtain⟨b0,b1,b2,b3,b4⟩:=hcl'.out _ hS2;replace hS2:=Lh hS2;clear hb2));all_goals
    first
     |(have hbel:=Lh hS2.out.below)
     |(have hbel:=Lh hS'.out.below)
    clear y0 y1 y2 y3 y4 hhm hht
    try clear a0 a1 a2 a3 a4
    try clear b0 b1 b2 b3 b4
    try clear x2
    try clear hS2
    try clear hS1
    try clear hvp'
    clear hcl' hS' hvt' hsv'
    go_ret
    refine⟨?_,hbel.out⟩
    have hfd:=hFD'.out
    clear hFD' hbel
    show Ending.returned (Value.int .i64 _)=_
    congr 2
    rw[←hfd]
    clear hfd
    repeat' split
    all_goals first |rfl|(exfalso;omega)|(exfalso;simp_all;done)|(by_cases hq9:8192<n<;>first |(rw[if_pos hq9];done)|(rw[if_neg hq9];done)|(exfalso;omega))|(exfalso;simp_all;omega)
  (have t0:¬tz=[]:=fun h=>by rw[h]at te;cases te);go_wp2_with(first |(go_at_call 95;refine(hhm _).mono ?_;rintro e w4 ⟨rfl,hw4⟩;have hw5:=hw4.symm;clear hw4;subst hw5)|(go_at_call 62;refine(hht _).mono ?_;rintro e w4 ⟨rfl,hw4⟩;have hw5:=hw4.symm;clear hw4;subst hw5)|(go_at_call 96;refine(hvp'.out _).mono ?_;rintro e w1 ⟨rfl,hb1⟩;(have hS1:=hS'.out.pure hb1);obtain⟨a0,a1,a2,a3,a4⟩:=hcl'.out _ hS1;replace hS1:=Lh hS1;clear hb1 hvp')|(go_at_call 96;refine(hvt'.out _).mono ?_;rintro e w2 ⟨rfl,hb2⟩;(have hS2:=hS1.out.pure hb2);obtain⟨b0,b1,b2,b3,b4⟩:=hcl'.out _ hS2;replace hS2:=Lh hS2;clear hb2));all_goals
   first
    |(have hbel:=Lh hS2.out.below)
    |(have hbel:=Lh hS'.out.below)
   clear y0 y1 y2 y3 y4 hhm hht
   try clear a0 a1 a2 a3 a4
   try clear b0 b1 b2 b3 b4
   try clear x2
   try clear hS2
   try clear hS1
   try clear hvp'
   clear hcl' hS' hvt' hsv'
   go_ret
   refine⟨?_,hbel.out⟩
   have hfd:=hFD'.out
   clear hFD' hbel
   show Ending.returned (Value.int .i64 _)=_
   congr 2
   rw[←hfd]
   clear hfd
   repeat' split
   all_goals first |rfl|(exfalso;omega)|(exfalso;simp_all;done)|(by_cases hq9:8192<n<;>first |(rw[if_pos hq9];done)|(rw[if_neg hq9];done)|(exfalso;omega))|(exfalso;simp_all;omega)
 ·subst h6;clear hkey;rcases te with te|te
  ·subst te;go_wp2_with(first |(go_at_call 95;refine(hhm _).mono ?_;rintro e w4 ⟨rfl,hw4⟩;have hw5:=hw4.symm;clear hw4;subst hw5)|(go_at_call 62;refine(hht _).mono ?_;rintro e w4 ⟨rfl,hw4⟩;have hw5:=hw4.symm;clear hw4;subst hw5)|(go_at_call 96;refine(hvp'.out _).mono ?_;rintro e w1 ⟨rfl,hb1⟩;(have hS1:=hS'.out.pure hb1);obtain⟨a0,a1,a2,a3,a4⟩:=hcl'.out _ hS1;replace hS1:=Lh hS1;clear hb1 hvp')|(go_at_call 96;refine(hvt'.out _).mono ?_;rintro e w2 ⟨rfl,hb2⟩;(have hS2:=hS1.out.pure hb2);obtain⟨b0,b1,b2,b3,b4⟩:=hcl'.out _ hS2;replace hS2:=Lh hS2;clear hb2));all_goals
    first
     |(have hbel:=Lh hS2.out.below)
     |(have hbel:=Lh hS'.out.below)
    clear y0 y1 y2 y3 y4 hhm hht
    try clear a0 a1 a2 a3 a4
    try clear b0 b1 b2 b3 b4
    try clear x2
    try clear hS2
    try clear hS1
    try clear hvp'
    clear hcl' hS' hvt' hsv'
    go_ret
    refine⟨?_,hbel.out⟩
    have hfd:=hFD'.out
    clear hFD' hbel
    show Ending.returned (Value.int .i64 _)=_
    congr 2
    rw[←hfd]
    clear hfd
    repeat' split
    all_goals first |rfl|(exfalso;omega)|(exfalso;simp_all;done)|(by_cases hq9:8192<n<;>first |(rw[if_pos hq9];done)|(rw[if_neg hq9];done)|(exfalso;omega))|(exfalso;simp_all;omega)
  (have t0:¬tz=[]:=fun h=>by rw[h]at te;cases te);go_wp2_with(first |(go_at_call 95;refine(hhm _).mono ?_;rintro e w4 ⟨rfl,hw4⟩;have hw5:=hw4.symm;clear hw4;subst hw5)|(go_at_call 62;refine(hht _).mono ?_;rintro e w4 ⟨rfl,hw4⟩;have hw5:=hw4.symm;clear hw4;subst hw5)|(go_at_call 96;refine(hvp'.out _).mono ?_;rintro e w1 ⟨rfl,hb1⟩;(have hS1:=hS'.out.pure hb1);obtain⟨a0,a1,a2,a3,a4⟩:=hcl'.out _ hS1;replace hS1:=Lh hS1;clear hb1 hvp')|(go_at_call 96;refine(hvt'.out _).mono ?_;rintro e w2 ⟨rfl,hb2⟩;(have hS2:=hS1.out.pure hb2);obtain⟨b0,b1,b2,b3,b4⟩:=hcl'.out _ hS2;replace hS2:=Lh hS2;clear hb2));all_goals
   first
    |(have hbel:=Lh hS2.out.below)
    |(have hbel:=Lh hS'.out.below)
   clear y0 y1 y2 y3 y4 hhm hht
   try clear a0 a1 a2 a3 a4
   try clear b0 b1 b2 b3 b4
   try clear x2
   try clear hS2
   try clear hS1
   try clear hvp'
   clear hcl' hS' hvt' hsv'
   go_ret
   refine⟨?_,hbel.out⟩
   have hfd:=hFD'.out
   clear hFD' hbel
   show Ending.returned (Value.int .i64 _)=_
   congr 2
   rw[←hfd]
   clear hfd
   repeat' split
   all_goals first |rfl|(exfalso;omega)|(exfalso;simp_all;done)|(by_cases hq9:8192<n<;>first |(rw[if_pos hq9];done)|(rw[if_neg hq9];done)|(exfalso;omega))|(exfalso;simp_all;omega)
 subst h6;have hr2:¬ref<(cs.length:Int):=by omega
 clear hkey;rcases te with te|te
 ·subst te;go_wp2_with(first |(go_at_call 95;refine(hhm _).mono ?_;rintro e w4 ⟨rfl,hw4⟩;have hw5:=hw4.symm;clear hw4;subst hw5)|(go_at_call 62;refine(hht _).mono ?_;rintro e w4 ⟨rfl,hw4⟩;have hw5:=hw4.symm;clear hw4;subst hw5)|(go_at_call 96;refine(hvp'.out _).mono ?_;rintro e w1 ⟨rfl,hb1⟩;(have hS1:=hS'.out.pure hb1);obtain⟨a0,a1,a2,a3,a4⟩:=hcl'.out _ hS1;replace hS1:=Lh hS1;clear hb1 hvp')|(go_at_call 96;refine(hvt'.out _).mono ?_;rintro e w2 ⟨rfl,hb2⟩;(have hS2:=hS1.out.pure hb2);obtain⟨b0,b1,b2,b3,b4⟩:=hcl'.out _ hS2;replace hS2:=Lh hS2;clear hb2));all_goals
   first
    |(have hbel:=Lh hS2.out.below)
    |(have hbel:=Lh hS'.out.below)
   clear y0 y1 y2 y3 y4 hhm hht
   try clear a0 a1 a2 a3 a4
   try clear b0 b1 b2 b3 b4
   try clear x2
   try clear hS2
   try clear hS1
   try clear hvp'
   clear hcl' hS' hvt' hsv'
   go_ret
   refine⟨?_,hbel.out⟩
   have hfd:=hFD'.out
   clear hFD' hbel
   show Ending.returned (Value.int .i64 _)=_
   congr 2
   rw[←hfd]
   clear hfd
   repeat' split
   all_goals first |rfl|(exfalso;omega)|(exfalso;simp_all;done)|(by_cases hq9:8192<n<;>first |(rw[if_pos hq9];done)|(rw[if_neg hq9];done)|(exfalso;omega))|(exfalso;simp_all;omega)
 have t0:¬tz=[]:=fun h=>by rw[h]at te;cases te
 go_wp2_with(first |(go_at_call 95;refine(hhm _).mono ?_;rintro e w4 ⟨rfl,hw4⟩;have hw5:=hw4.symm;clear hw4;subst hw5)|(go_at_call 62;refine(hht _).mono ?_;rintro e w4 ⟨rfl,hw4⟩;have hw5:=hw4.symm;clear hw4;subst hw5)|(go_at_call 96;refine(hvp'.out _).mono ?_;rintro e w1 ⟨rfl,hb1⟩;(have hS1:=hS'.out.pure hb1);obtain⟨a0,a1,a2,a3,a4⟩:=hcl'.out _ hS1;replace hS1:=Lh hS1;clear hb1 hvp')|(go_at_call 96;refine(hvt'.out _).mono ?_;rintro e w2 ⟨rfl,hb2⟩;(have hS2:=hS1.out.pure hb2);obtain⟨b0,b1,b2,b3,b4⟩:=hcl'.out _ hS2;replace hS2:=Lh hS2;clear hb2));all_goals
  first
   |(have hbel:=Lh hS2.out.below)
   |(have hbel:=Lh hS'.out.below)
  clear y0 y1 y2 y3 y4 hhm hht
  try clear a0 a1 a2 a3 a4
  try clear b0 b1 b2 b3 b4
  try clear x2
  try clear hS2
  try clear hS1
  try clear hvp'
  clear hcl' hS' hvt' hsv'
  go_ret
  refine⟨?_,hbel.out⟩
  have hfd:=hFD'.out
  clear hFD' hbel
  show Ending.returned (Value.int .i64 _)=_
  congr 2
  rw[←hfd]
  clear hfd
  repeat' split
  all_goals first |rfl|(exfalso;omega)|(exfalso;simp_all;done)|(by_cases hq9:8192<n<;>first |(rw[if_pos hq9];done)|(rw[if_neg hq9];done)|(exfalso;omega))|(exfalso;simp_all;omega)
def doAs (w:World) (nv fv:Value) (op:Int) (p tz:List UInt8) (mode ref:Int):List Asn:=[.box (w.heap.size+1+1) 25 #[.slice none 0 0,.slice none 0 0],.box (w.heap.size+1) 49 (insC op p tz mode ref),.box w.heap.size 25 #[nv,fv]]
theorem do_start (w:World) (nv fv:Value) (op:Int) (p tz:List UInt8) (mode ref:Int):Sep w (((w.alloc (.cells #[nv,fv] 25)).alloc (.cells (insC op p tz mode ref) 49)).alloc (.cells #[.slice none 0 0,.slice none 0 0] 25)) (doAs w nv fv op p tz mode ref):=by have h:=(((Sep.nil w).bN 25 #[nv,fv]).bN 49 (insC op p tz mode ref)).bN 25 #[.slice none 0 0,.slice none 0 0];simp only[World.size_alloc]at h;exact h
structure DoCells (w W:World) (nv fv:Value) (op:Int) (p tz:List UInt8) (mode ref:Int):Prop where
 t0:W.cell? ⟨w.heap.size,0,none⟩=some nv
 t1:W.cell? ⟨w.heap.size,1,none⟩=some fv
 i0:W.cell? ⟨w.heap.size+1,0,none⟩=some (.int .i64 op)
 i1:W.cell? ⟨w.heap.size+1,1,none⟩=some (.string ⟨p.toArray⟩)
 i2:W.cell? ⟨w.heap.size+1,2,none⟩=some (.string ⟨tz.toArray⟩)
 i3:W.cell? ⟨w.heap.size+1,3,none⟩=some (.int .i64 mode)
 i4:W.cell? ⟨w.heap.size+1,4,none⟩=some (.int .i64 ref)
 r0:W.cell? ⟨w.heap.size+1+1,0,none⟩=some (.slice none 0 0)
 r1:W.cell? ⟨w.heap.size+1+1,1,none⟩=some (.slice none 0 0)
 f0:W.frozen? ⟨w.heap.size+1+1,0,none⟩=false
 f1:W.frozen? ⟨w.heap.size+1+1,1,none⟩=false
theorem do_cells {w W:World} {nv fv:Value} {op:Int} {p tz:List UInt8} {mode ref:Int} (P:List Asn) (h:Sep w W (P++doAs w nv fv op p tz mode ref)):DoCells w W nv fv op p tz mode ref:=by
 have g:∀k,(P++doAs w nv fv op p tz mode ref)[P.length+k]? =(doAs w nv fv op p tz mode ref)[k]? :=fun k=>by rw[List.getElem?_append_right (by omega),Nat.add_sub_cancel_left]
 have g0:=(g 0).trans rfl;have g1:=(g 1).trans rfl;have g2:=(g 2).trans rfl;exact⟨h.bC _ g2 0,h.bC _ g2 1,h.bC _ g1 0,h.bC _ g1 1,h.bC _ g1 2,h.bC _ g1 3,h.bC _ g1 4,h.bC _ g0 0,h.bC _ g0 1,h.bF _ g0 0,h.bF _ g0 1⟩
theorem do_store {w W:World} {nv fv:Value} {op:Int} {p tz:List UInt8} {mode ref:Int} (P:List Asn) (x y:Value) (h:Sep w W (P++doAs w nv fv op p tz mode ref)):∃Q,Sep w ((W.setCell ⟨w.heap.size+1+1,0,none⟩ x).setCell ⟨w.heap.size+1+1,1,none⟩ y) (P++Q)∧((W.setCell ⟨w.heap.size+1+1,0,none⟩ x).setCell ⟨w.heap.size+1+1,1,none⟩ y).cell? ⟨w.heap.size+1+1,0,none⟩=some x∧((W.setCell ⟨w.heap.size+1+1,0,none⟩ x).setCell ⟨w.heap.size+1+1,1,none⟩ y).cell? ⟨w.heap.size+1+1,1,none⟩=some y:=by
 have g0:(P++doAs w nv fv op p tz mode ref)[P.length]? =some (.box (w.heap.size+1+1) 25 #[.slice none 0 0,.slice none 0 0]):=by rw[List.getElem?_append_right (Nat.le_refl _),Nat.sub_self];rfl
 have h1:=h.bS _ g0 0 x;rw[List.set_append_right _ _ (Nat.le_refl _),Nat.sub_self]at h1;have g1:(P++(doAs w nv fv op p tz mode ref).set 0 (.box (w.heap.size+1+1) 25 (#[.slice none 0 0,.slice none 0 0].setIfInBounds 0 x)))[P.length]? =some (.box (w.heap.size+1+1) 25 (#[.slice none 0 0,.slice none 0 0].setIfInBounds 0 x)):=by rw[List.getElem?_append_right (Nat.le_refl _),Nat.sub_self];rfl
 have h2:=h1.bS _ g1 1 y;have h3:=h2;rw[List.set_append_right _ _ (Nat.le_refl _),Nat.sub_self]at h3;have g2:(P++(((doAs w nv fv op p tz mode ref).set 0 (.box (w.heap.size+1+1) 25 (#[.slice none 0 0,.slice none 0 0].setIfInBounds 0 x))).set 0 (.box (w.heap.size+1+1) 25 ((#[.slice none 0 0,.slice none 0 0].setIfInBounds 0 x).setIfInBounds 1 y))))[P.length]? =some (.box (w.heap.size+1+1) 25 ((#[.slice none 0 0,.slice none 0 0].setIfInBounds 0 x).setIfInBounds 1 y)):=by rw[List.getElem?_append_right (Nat.le_refl _),Nat.sub_self];rfl
 exact⟨_,h3,h3.bC _ g2 0,h3.bC _ g2 1⟩
theorem tfCells_oneCell {w:World} {nv fv:Value} {ns:List TN} {fs:List TF} {vs:List Value} (h:TreeAt w nv fv ns fs vs):∀u∈tfCells fs vs,u.oneCell'=true:=by
 intro u hu;unfold tfCells at hu;rw[List.mem_flatMap]at hu;obtain⟨x,hx,h1⟩:=hu;obtain⟨k,hk⟩:=List.mem_iff_getElem?.1 hx;rw[List.getElem?_zip_eq_some]at hk;obtain⟨A,c,e,_⟩:=(h.data k x.2 x.1 hk.2 hk.1).shape;simp only[tfC,List.mem_cons,List.not_mem_nil,or_false]at h1;rcases h1 with rfl|rfl
 ·rfl
 rw[e];rfl
def pathI (ns:List TN) (p:List UInt8):Nat:=(findI ns p).toNat
def doE (f e:Int) (N:List TN) (F:List TF):Int:=if f=0 then(if e=0 then(if canD N F=0 then 0 else 31)else e)else f
theorem file_found {ns:List TN} {p:List UInt8} (h:fileE ns p=0):∃(k:Nat) (m:TN),findI ns p=(k:Int)∧ns[k]? =some m∧m.path=p∧nodeOr ns p=m∧0≤m.file:=by
 unfold fileE at h;by_cases hp:presentE ns p=0
 ·rw[if_pos hp]at h;unfold presentE at hp;by_cases hl:lookE ns p p.length=0
  ·rw[if_pos hl]at hp;rcases findI_find ns p with⟨h1,h2⟩|⟨k,m,h1,h8,h2,h7⟩
   ·unfold hasG at hp;rw[h1]at hp;cases hp
   (have hn:nodeL ns p=m:=by unfold nodeL nodeOr;rw[if_pos hl,h1];rfl);rw[hn]at h;refine⟨k,m,h2,h8,h7,by unfold nodeOr;rw[h1];rfl,?_⟩;(refine Decidable.byContradiction fun hno=>?_);rw[if_pos (by omega)]at h;cases h
  rw[if_neg hl]at hp;exact absurd hp hl
 rw[if_neg hp]at h;exact absurd h hp
theorem tfCells_setMode {fs:List TF} {vs:List Value} {f:Nat} {ff:TF} (hl:vs.length=fs.length) (h:fs[f]? =some ff) (x:Int):(tfCells fs vs).set (f*2) (.int .i64 x)=tfCells (fs.set f ⟨x,ff.size⟩) vs:=by
 apply List.ext_getElem?;intro j;have hf:=(gF.1 h).1;have hlen:(fs.set f ⟨x,ff.size⟩).length=fs.length:=List.length_set;by_cases hj:j<fs.length*2
 ·obtain⟨q,r,hr,hq⟩:∃q r,r<2∧j=q*2+r:=⟨j/2,j%2,Nat.mod_lt _ (by omega),by omega⟩;(have hql:q<fs.length:=by omega);have hv:vs[q]? =some vs[q]:=gE (by omega);by_cases hqf:q=f
  ·subst hqf;have e2:(fs.set q ⟨x,ff.size⟩)[q]? =some ⟨x,ff.size⟩:=List.getElem?_set_self hql;rw[hq,tfCells_at e2 hv r hr,List.getElem?_set];by_cases hr0:r=0
   ·subst hr0;rw[if_pos (by omega),if_pos (by rw[tfCells_len hl];omega)];rfl
   (have hr1:r=1:=by omega);subst hr1;rw[if_neg (by omega),tfCells_at h hv 1 (by omega)];rfl
  have e1:fs[q]? =some fs[q]:=gE hql;(have e2:(fs.set f ⟨x,ff.size⟩)[q]? =some fs[q]:=by rw[List.getElem?_set_ne (fun e=>hqf e.symm)];exact e1);rw[hq,tfCells_at e2 hv r hr,List.getElem?_set_ne (by omega),tfCells_at e1 hv r hr]
 rw[List.getElem?_eq_none (by rw[List.length_set,tfCells_len hl];omega),List.getElem?_eq_none (by rw[tfCells_len (by rw[hl,hlen]),hlen];omega)]
theorem tnCells_set {xs:List TN} {i:Nat} {n:TN} (h:xs[i]? =some n) (r:Nat) (u:Value) (n':TN) (hr:r<3) (hu:(tnC n).set r u=tnC n'):(tnCells xs).set (i*3+r) u=tnCells (xs.set i n'):=by
 have hi:=(gF.1 h).1;have e1:xs=xs.take i++n::xs.drop (i+1):=(split_at h).1;have e2:xs.set i n'=xs.take i++n'::xs.drop (i+1):=(split_at h).2 _;have hl:(tnCells (xs.take i)).length=i*3:=by rw[tnCells_len,List.length_take,Nat.min_eq_left (by omega)]
 rw[e2]
 conv=>lhs;rw[e1]
 rw[tnCells_app,tnCells_app,List.set_append_right _ _ (by omega),hl,show i*3+r-i*3=r by omega];congr 1;have hc:∀a:TN,tnCells (a::xs.drop (i+1))=tnC a++tnCells (xs.drop (i+1)):=fun a=>rfl
 rw[hc,hc,List.set_append_left _ _ (by show r<3;exact hr),hu]
theorem loose_doc {ns:List TN} {fs:List TF} (ho:LooseOk ns fs):(if boundP ns fs=true then(31:Int)else if formD ns fs=true then 0 else 30)=0:=(form_loose ns fs).trans (ok_loose ho)
end Go.Proofs.YtimkjnbihlgbiaaGreat
