/- QDocK, QDocG, QDocL0, FzD, QDocL9, QOrderGP, QDoDocA, QDoDocB, laid together. -/
import Derived.Test.YteihmbaimbogaaaGreatJ45
import Derived.Shelf.Spec.SlicesInsertGrow
namespace Go.Proofs.YteihmbaimbogaaaGreat
open Go.RowKit
set_option linter.unusedVariables false
set_option linter.unusedSimpArgs false
set_option maxRecDepth 100000 in
set_option maxHeartbeats 2000000 in
theorem UR {w:World} {nv fv:Value} {ns:List TN} {fs:List TF} {vs:List Value} (h:dS w nv fv ns fs vs) (hm:nI ns fs) (hfr:∀n∈ns,n.file= -1∨(0≤n.file∧n.file<(fs.length:Int))):
  Calls Tryz.prog 114 #[nv,fv] w fun e w'=>∃A3 n3 c3 A4 n4 c4,e= .returned (.tuple #[.agg #[.slice A3 n3 c3,.slice A4 n4 c4],.int .i64 (if qF ns fs=0 then 0 else 31)])∧Sep w w' [.keep fun W=>qF ns fs=0→∃vs',dS W (.slice A3 n3 c3) (.slice A4 n4 c4) (qE ns) (oZ ns fs) vs']:=by
 have hS0:=(Sep.nil w).bN 32 #[.slice none 0 0,.slice none 0 0];have hcn:=PQ (h.below hS0.below) hm hfr;obtain⟨A1,sQ,rfl,hm1⟩:=h.nodes.shape;obtain⟨A2,rG,rfl,hm2⟩:=h.files.shape;have gZ:=Lh hS0;have hcn':=Lh hcn;clear hS0 hcn h hm hfr hm1 hm2;generalize hcd:qF ns fs=CD at hcn' ⊢;clear hcd;by_cases hz:CD=0
 ·subst hz;rw[if_pos rfl];go_enter Tryz.func114,Tryz.ntmps114;go_wp2_with(go_at_call 156;refine hcn'.out.mono ?_;rintro e w1 ⟨A3,n3,c3,A4,n4,c4,rfl,hS1⟩;(have hS2:=(gZ.out.join hS1).bN 32 #[.slice A3 n3 c3,.slice A4 n4 c4]);(have s0:=hS2.bC 2 rfl 0);(have s1:=hS2.bC 2 rfl 1);(have sz0:=hS2.bF 2 rfl 0);(have sz1:=hS2.bF 2 rfl 1);(have s2:=hS2.bC 0 rfl 0);(have s3:=hS2.bC 0 rfl 1);simp only[gA,gB,gC]at s0 s1 s2 s3;replace hS2:=Lh hS2;clear hS1);have bG:=(hS2.out.bS 2 rfl 0 (.slice A3 n3 c3)).bS 2 rfl 1 (.slice A4 n4 c4);have e0:=bG.bC 2 rfl 0;have e1:=bG.bC 2 rfl 1;refine bodyPost_ret (dV rfl rfl e0 e1) rfl ?_;exact⟨_,_,_,_,_,_,rfl,Sep.fst (X:=[_]) (Sep.drop 1 bG)⟩
 rw[if_neg hz];have hzb:(CD !=0)=true:=by simpa using hz
 have hz':=Lh hz;clear hz;go_enter Tryz.func114,Tryz.ntmps114;go_wp2_with(go_at_call 156;refine hcn'.out.mono ?_;rintro e w1 ⟨A3,n3,c3,A4,n4,c4,rfl,hS1⟩;(have hS2:=(gZ.out.join hS1).bN 32 #[.slice A3 n3 c3,.slice A4 n4 c4]);(have s0:=hS2.bC 2 rfl 0);(have s1:=hS2.bC 2 rfl 1);(have sz0:=hS2.bF 2 rfl 0);(have sz1:=hS2.bF 2 rfl 1);(have s2:=hS2.bC 0 rfl 0);(have s3:=hS2.bC 0 rfl 1);simp only[gA,gB,gC]at s0 s1 s2 s3;replace hS2:=Lh hS2;clear hS1);have bG:=(hS2.out.bS 2 rfl 0 (.slice none 0 0)).bS 2 rfl 1 (.slice none 0 0);have e0:=bG.bC 2 rfl 0;have e1:=bG.bC 2 rfl 1;refine bodyPost_ret (dV rfl rfl e0 e1) rfl ?_;exact⟨none,0,0,none,0,0,rfl,Sep.keep (X:=[]) (Y:=[]) ((Sep.nil w).pure bG.below) fun _ W _ h0=>absurd h0 hz'.out⟩
def lL (op:Int) (p tz:List UInt8) (mode ref:Int) (cs:List Value):Int:=
 if op<1∨9<op then 34 else if op=9 then 0 else wC (qC op) (yV op) op p tz mode ref cs
set_option maxRecDepth 100000 in
set_option maxHeartbeats 20000000 in
theorem PR (op:Int) {p tz:List UInt8} (hp9:p.length≤9223372036854775807) (ht9:tz.length≤9223372036854775807) (mode ref:Int) {sv:Value} {cs:List Value} {w:World} (hsv:mO w sv cs):
  Calls Tryz.prog 109 #[JV op p tz mode ref,sv] w fun e w'=>e= .returned (.int .i64 (lL op p tz mode ref cs))∧Below w.heap.size w w':=by
 have hS:=(Sep.nil w).bN 38 (K6 op p tz mode ref);have hvp:=fun W=>oM ⟨p.toArray⟩ W (by rw[gL];omega)
 have hvt:=fun W=>oM ⟨tz.toArray⟩ W (by rw[gL];omega)
 rw[oO]at hvp hvt;have hcl:=fun(W:World) (hS:Sep w W [.box w.heap.size 38 (K6 op p tz mode ref)])=>And.intro (hS.bC 0 rfl 0) (And.intro (hS.bC 0 rfl 1) (And.intro (hS.bC 0 rfl 2) (And.intro (hS.bC 0 rfl 3) (hS.bC 0 rfl 4))))
 simp only[K6,aM,gA,gB,gC]at hcl;have hS':=Lh hS;have CZ:=Lh hsv;obtain⟨As,cp,rfl,hcp⟩:=hsv.1.shape;obtain⟨FD,hFD⟩:∃x,lL op p tz mode ref cs=x:=⟨_,rfl⟩;rw[hFD];have hhm:=UD op;have hht:=CW op;unfold lL at hFD;generalize qC op=rm at hhm hFD;generalize yV op=rt at hht hFD;generalize atM:aP p=vp at hvp;generalize atN:aP tz=vt at hvt;unfold wC at hFD;rw[atM,atN]at hFD;have qK:=Lh hFD;have oC:=Lh hvp;have wF:=Lh hvt;have hcl':=Lh hcl;obtain⟨y0,y1,y2,y3,y4⟩:=hcl _ hS;unfold JV aM at*;clear hS hsv hvp hvt hcl hFD atM atN;go_enter Tryz.func109,Tryz.ntmps109;by_cases hp0:p=[]
 ·subst hp0;go_wp2_with(first |(go_at_call 155;refine(hhm _).mono ?_;rintro e w4 ⟨rfl,hw4⟩;have nN:=hw4.symm;clear hw4;subst nN)|(go_at_call 110;refine(hht _).mono ?_;rintro e w4 ⟨rfl,hw4⟩;have nN:=hw4.symm;clear hw4;subst nN));all_goals
   have hbel:=Lh hS'.out.below
   clear y0 y1 y2 y3 y4 hhm hht hcl' hS' oC wF CZ
   go_ret
   refine⟨?_,hbel.out⟩
   have qM:=qK.out
   clear qK hbel
   show Ending.returned (Value.int .i64 _)=_
   congr 2
   rw[←qM]
   clear qM
   repeat' split
   all_goals first |rfl|(exfalso;omega)|(exfalso;simp_all;done)|(by_cases EM:8192<n<;>first |(rw[if_pos EM];done)|(rw[if_neg EM];done)|(exfalso;omega))|(exfalso;simp_all;omega)
 have pe:p.isEmpty=false:=by cases p with|nil=>exact absurd rfl hp0|cons a l=>rfl
 have te:tz=[]∨tz.isEmpty=false:=by cases tz with|nil=>exact Or.inl rfl|cons a l=>exact Or.inr rfl
 by_cases hkey:op=6∧0≤ref∧ref<(cs.length:Int)
 ·obtain⟨h6,hr0,hr1⟩:=hkey;obtain⟨k,hk⟩:∃k:Nat,ref=(k:Int):=⟨ref.toNat,by omega⟩;subst hk;subst h6;obtain⟨A,n,c,hcs,hn⟩:=CZ.out.at_ (k:=k) (by omega);obtain⟨g,o,c9,e,_,_,_,hcell⟩:=Rd.place CZ.out.1 (by omega) (by decide);cases e;(have hcs':cs[k*1]? =some (.slice A n c):=by rw[Nat.mul_one];exact hcs);(have hx:=fun(W:World) (hW:Below w.heap.size w W)=>(hcell _ hW (k*1) (by omega)).trans hcs');rw[Nat.mul_one]at hx;have hx':=Lh hx;(have hgd:cs.getD (k:Int).toNat (.slice none 0 0)= .slice A n c:=by rw[Int.toNat_natCast,gH,hcs];rfl);have ak1:=qK.out;rw[hgd]at ak1;have hdl:BD (.slice A n c)=n:=rfl;rw[hdl]at ak1;have qK:=Lh ak1;clear ak1 hgd hx hcell hcs;rcases te with te|te
  ·subst te;go_wp2_with(first |(go_at_call 155;refine(hhm _).mono ?_;rintro e w4 ⟨rfl,hw4⟩;have nN:=hw4.symm;clear hw4;subst nN)|(go_at_call 110;refine(hht _).mono ?_;rintro e w4 ⟨rfl,hw4⟩;have nN:=hw4.symm;clear hw4;subst nN)|(go_at_call 93;refine(oC.out _).mono ?_;rintro e w1 ⟨rfl,hb1⟩;(have hS1:=hS'.out.pure hb1);obtain⟨a0,a1,a2,a3,a4⟩:=hcl'.out _ hS1;replace hS1:=Lh hS1;clear hb1 oC)|(go_at_call 93;refine(wF.out _).mono ?_;rintro e w2 ⟨rfl,hb2⟩;(have hS2:=hS1.out.pure hb2);obtain⟨b0,b1,b2,b3,b4⟩:=hcl'.out _ hS2;(have x2:=hx'.out _ hS2.below);replace hS2:=Lh hS2;clear hb2));all_goals
    first
     |(have hbel:=Lh hS2.out.below)
     |(have hbel:=Lh hS'.out.below)
    clear y0 y1 y2 y3 y4 hhm hht
    try clear a0 a1 a2 a3 a4
    try clear b0 b1 b2 b3 b4
    try clear x2
    try clear hS2
    try clear hS1
    try clear oC
    clear hcl' hS' wF CZ
    go_ret
    refine⟨?_,hbel.out⟩
    have qM:=qK.out
    clear qK hbel
    show Ending.returned (Value.int .i64 _)=_
    congr 2
    rw[←qM]
    clear qM
    repeat' split
    all_goals first |rfl|(exfalso;omega)|(exfalso;simp_all;done)|(by_cases EM:8192<n<;>first |(rw[if_pos EM];done)|(rw[if_neg EM];done)|(exfalso;omega))|(exfalso;simp_all;omega)
  (have t0:¬tz=[]:=fun h=>by rw[h]at te;cases te);go_wp2_with(first |(go_at_call 155;refine(hhm _).mono ?_;rintro e w4 ⟨rfl,hw4⟩;have nN:=hw4.symm;clear hw4;subst nN)|(go_at_call 110;refine(hht _).mono ?_;rintro e w4 ⟨rfl,hw4⟩;have nN:=hw4.symm;clear hw4;subst nN)|(go_at_call 93;refine(oC.out _).mono ?_;rintro e w1 ⟨rfl,hb1⟩;(have hS1:=hS'.out.pure hb1);obtain⟨a0,a1,a2,a3,a4⟩:=hcl'.out _ hS1;replace hS1:=Lh hS1;clear hb1 oC)|(go_at_call 93;refine(wF.out _).mono ?_;rintro e w2 ⟨rfl,hb2⟩;(have hS2:=hS1.out.pure hb2);obtain⟨b0,b1,b2,b3,b4⟩:=hcl'.out _ hS2;(have x2:=hx'.out _ hS2.below);replace hS2:=Lh hS2;clear hb2));all_goals
   first
    |(have hbel:=Lh hS2.out.below)
    |(have hbel:=Lh hS'.out.below)
   clear y0 y1 y2 y3 y4 hhm hht
   try clear a0 a1 a2 a3 a4
   try clear b0 b1 b2 b3 b4
   try clear x2
   try clear hS2
   try clear hS1
   try clear oC
   clear hcl' hS' wF CZ
   go_ret
   refine⟨?_,hbel.out⟩
   have qM:=qK.out
   clear qK hbel
   show Ending.returned (Value.int .i64 _)=_
   congr 2
   rw[←qM]
   clear qM
   repeat' split
   all_goals first |rfl|(exfalso;omega)|(exfalso;simp_all;done)|(by_cases EM:8192<n<;>first |(rw[if_pos EM];done)|(rw[if_neg EM];done)|(exfalso;omega))|(exfalso;simp_all;omega)
 have hnk:(¬op=6)∨(op=6∧ref<0)∨(op=6∧0≤ref∧(cs.length:Int)≤ref):=by omega
 rcases hnk with h6|⟨h6,hr0⟩|⟨h6,hr0,hr1⟩
 ·(have b6:(op==6)=false:=by simpa using h6);clear hkey;rcases te with te|te
  ·subst te;go_wp2_with(first |(go_at_call 155;refine(hhm _).mono ?_;rintro e w4 ⟨rfl,hw4⟩;have nN:=hw4.symm;clear hw4;subst nN)|(go_at_call 110;refine(hht _).mono ?_;rintro e w4 ⟨rfl,hw4⟩;have nN:=hw4.symm;clear hw4;subst nN)|(go_at_call 93;refine(oC.out _).mono ?_;rintro e w1 ⟨rfl,hb1⟩;(have hS1:=hS'.out.pure hb1);obtain⟨a0,a1,a2,a3,a4⟩:=hcl'.out _ hS1;replace hS1:=Lh hS1;clear hb1 oC)|(go_at_call 93;refine(wF.out _).mono ?_;rintro e w2 ⟨rfl,hb2⟩;(have hS2:=hS1.out.pure hb2);obtain⟨b0,b1,b2,b3,b4⟩:=hcl'.out _ hS2;replace hS2:=Lh hS2;clear hb2));all_goals
    first
     |(have hbel:=Lh hS2.out.below)
     |(have hbel:=Lh hS'.out.below)
    clear y0 y1 y2 y3 y4 hhm hht
    try clear a0 a1 a2 a3 a4
    try clear b0 b1 b2 b3 b4
    try clear x2
    try clear hS2
    try clear hS1
    try clear oC
    clear hcl' hS' wF CZ
    go_ret
    refine⟨?_,hbel.out⟩
    have qM:=qK.out
    clear qK hbel
    show Ending.returned (Value.int .i64 _)=_
    congr 2
    rw[←qM]
    clear qM
    repeat' split
    all_goals first |rfl|(exfalso;omega)|(exfalso;simp_all;done)|(by_cases EM:8192<n<;>first |(rw[if_pos EM];done)|(rw[if_neg EM];done)|(exfalso;omega))|(exfalso;simp_all;omega)
  (have t0:¬tz=[]:=fun h=>by rw[h]at te;cases te);go_wp2_with(first |(go_at_call 155;refine(hhm _).mono ?_;rintro e w4 ⟨rfl,hw4⟩;have nN:=hw4.symm;clear hw4;subst nN)|(go_at_call 110;refine(hht _).mono ?_;rintro e w4 ⟨rfl,hw4⟩;have nN:=hw4.symm;clear hw4;subst nN)|(go_at_call 93;refine(oC.out _).mono ?_;rintro e w1 ⟨rfl,hb1⟩;(have hS1:=hS'.out.pure hb1);obtain⟨a0,a1,a2,a3,a4⟩:=hcl'.out _ hS1;replace hS1:=Lh hS1;clear hb1 oC)|(go_at_call 93;refine(wF.out _).mono ?_;rintro e w2 ⟨rfl,hb2⟩;(have hS2:=hS1.out.pure hb2);obtain⟨b0,b1,b2,b3,b4⟩:=hcl'.out _ hS2;replace hS2:=Lh hS2;clear hb2));all_goals
   first
    |(have hbel:=Lh hS2.out.below)
    |(have hbel:=Lh hS'.out.below)
   clear y0 y1 y2 y3 y4 hhm hht
   try clear a0 a1 a2 a3 a4
   try clear b0 b1 b2 b3 b4
   try clear x2
   try clear hS2
   try clear hS1
   try clear oC
   clear hcl' hS' wF CZ
   go_ret
   refine⟨?_,hbel.out⟩
   have qM:=qK.out
   clear qK hbel
   show Ending.returned (Value.int .i64 _)=_
   congr 2
   rw[←qM]
   clear qM
   repeat' split
   all_goals first |rfl|(exfalso;omega)|(exfalso;simp_all;done)|(by_cases EM:8192<n<;>first |(rw[if_pos EM];done)|(rw[if_neg EM];done)|(exfalso;omega))|(exfalso;simp_all;omega)
 ·subst h6;clear hkey;rcases te with te|te
  ·subst te;go_wp2_with(first |(go_at_call 155;refine(hhm _).mono ?_;rintro e w4 ⟨rfl,hw4⟩;have nN:=hw4.symm;clear hw4;subst nN)|(go_at_call 110;refine(hht _).mono ?_;rintro e w4 ⟨rfl,hw4⟩;have nN:=hw4.symm;clear hw4;subst nN)|(go_at_call 93;refine(oC.out _).mono ?_;rintro e w1 ⟨rfl,hb1⟩;(have hS1:=hS'.out.pure hb1);obtain⟨a0,a1,a2,a3,a4⟩:=hcl'.out _ hS1;replace hS1:=Lh hS1;clear hb1 oC)|(go_at_call 93;refine(wF.out _).mono ?_;rintro e w2 ⟨rfl,hb2⟩;(have hS2:=hS1.out.pure hb2);obtain⟨b0,b1,b2,b3,b4⟩:=hcl'.out _ hS2;replace hS2:=Lh hS2;clear hb2));all_goals
    first
     |(have hbel:=Lh hS2.out.below)
     |(have hbel:=Lh hS'.out.below)
    clear y0 y1 y2 y3 y4 hhm hht
    try clear a0 a1 a2 a3 a4
    try clear b0 b1 b2 b3 b4
    try clear x2
    try clear hS2
    try clear hS1
    try clear oC
    clear hcl' hS' wF CZ
    go_ret
    refine⟨?_,hbel.out⟩
    have qM:=qK.out
    clear qK hbel
    show Ending.returned (Value.int .i64 _)=_
    congr 2
    rw[←qM]
    clear qM
    repeat' split
    all_goals first |rfl|(exfalso;omega)|(exfalso;simp_all;done)|(by_cases EM:8192<n<;>first |(rw[if_pos EM];done)|(rw[if_neg EM];done)|(exfalso;omega))|(exfalso;simp_all;omega)
  (have t0:¬tz=[]:=fun h=>by rw[h]at te;cases te);go_wp2_with(first |(go_at_call 155;refine(hhm _).mono ?_;rintro e w4 ⟨rfl,hw4⟩;have nN:=hw4.symm;clear hw4;subst nN)|(go_at_call 110;refine(hht _).mono ?_;rintro e w4 ⟨rfl,hw4⟩;have nN:=hw4.symm;clear hw4;subst nN)|(go_at_call 93;refine(oC.out _).mono ?_;rintro e w1 ⟨rfl,hb1⟩;(have hS1:=hS'.out.pure hb1);obtain⟨a0,a1,a2,a3,a4⟩:=hcl'.out _ hS1;replace hS1:=Lh hS1;clear hb1 oC)|(go_at_call 93;refine(wF.out _).mono ?_;rintro e w2 ⟨rfl,hb2⟩;(have hS2:=hS1.out.pure hb2);obtain⟨b0,b1,b2,b3,b4⟩:=hcl'.out _ hS2;replace hS2:=Lh hS2;clear hb2));all_goals
   first
    |(have hbel:=Lh hS2.out.below)
    |(have hbel:=Lh hS'.out.below)
   clear y0 y1 y2 y3 y4 hhm hht
   try clear a0 a1 a2 a3 a4
   try clear b0 b1 b2 b3 b4
   try clear x2
   try clear hS2
   try clear hS1
   try clear oC
   clear hcl' hS' wF CZ
   go_ret
   refine⟨?_,hbel.out⟩
   have qM:=qK.out
   clear qK hbel
   show Ending.returned (Value.int .i64 _)=_
   congr 2
   rw[←qM]
   clear qM
   repeat' split
   all_goals first |rfl|(exfalso;omega)|(exfalso;simp_all;done)|(by_cases EM:8192<n<;>first |(rw[if_pos EM];done)|(rw[if_neg EM];done)|(exfalso;omega))|(exfalso;simp_all;omega)
 subst h6;have hr2:¬ref<(cs.length:Int):=by omega
 clear hkey;rcases te with te|te
 ·subst te;go_wp2_with(first |(go_at_call 155;refine(hhm _).mono ?_;rintro e w4 ⟨rfl,hw4⟩;have nN:=hw4.symm;clear hw4;subst nN)|(go_at_call 110;refine(hht _).mono ?_;rintro e w4 ⟨rfl,hw4⟩;have nN:=hw4.symm;clear hw4;subst nN)|(go_at_call 93;refine(oC.out _).mono ?_;rintro e w1 ⟨rfl,hb1⟩;(have hS1:=hS'.out.pure hb1);obtain⟨a0,a1,a2,a3,a4⟩:=hcl'.out _ hS1;replace hS1:=Lh hS1;clear hb1 oC)|(go_at_call 93;refine(wF.out _).mono ?_;rintro e w2 ⟨rfl,hb2⟩;(have hS2:=hS1.out.pure hb2);obtain⟨b0,b1,b2,b3,b4⟩:=hcl'.out _ hS2;replace hS2:=Lh hS2;clear hb2));all_goals
   first
    |(have hbel:=Lh hS2.out.below)
    |(have hbel:=Lh hS'.out.below)
   clear y0 y1 y2 y3 y4 hhm hht
   try clear a0 a1 a2 a3 a4
   try clear b0 b1 b2 b3 b4
   try clear x2
   try clear hS2
   try clear hS1
   try clear oC
   clear hcl' hS' wF CZ
   go_ret
   refine⟨?_,hbel.out⟩
   have qM:=qK.out
   clear qK hbel
   show Ending.returned (Value.int .i64 _)=_
   congr 2
   rw[←qM]
   clear qM
   repeat' split
   all_goals first |rfl|(exfalso;omega)|(exfalso;simp_all;done)|(by_cases EM:8192<n<;>first |(rw[if_pos EM];done)|(rw[if_neg EM];done)|(exfalso;omega))|(exfalso;simp_all;omega)
 have t0:¬tz=[]:=fun h=>by rw[h]at te;cases te
 go_wp2_with(first |(go_at_call 155;refine(hhm _).mono ?_;rintro e w4 ⟨rfl,hw4⟩;have nN:=hw4.symm;clear hw4;subst nN)|(go_at_call 110;refine(hht _).mono ?_;rintro e w4 ⟨rfl,hw4⟩;have nN:=hw4.symm;clear hw4;subst nN)|(go_at_call 93;refine(oC.out _).mono ?_;rintro e w1 ⟨rfl,hb1⟩;(have hS1:=hS'.out.pure hb1);obtain⟨a0,a1,a2,a3,a4⟩:=hcl'.out _ hS1;replace hS1:=Lh hS1;clear hb1 oC)|(go_at_call 93;refine(wF.out _).mono ?_;rintro e w2 ⟨rfl,hb2⟩;(have hS2:=hS1.out.pure hb2);obtain⟨b0,b1,b2,b3,b4⟩:=hcl'.out _ hS2;replace hS2:=Lh hS2;clear hb2));all_goals
  first
   |(have hbel:=Lh hS2.out.below)
   |(have hbel:=Lh hS'.out.below)
  clear y0 y1 y2 y3 y4 hhm hht
  try clear a0 a1 a2 a3 a4
  try clear b0 b1 b2 b3 b4
  try clear x2
  try clear hS2
  try clear hS1
  try clear oC
  clear hcl' hS' wF CZ
  go_ret
  refine⟨?_,hbel.out⟩
  have qM:=qK.out
  clear qK hbel
  show Ending.returned (Value.int .i64 _)=_
  congr 2
  rw[←qM]
  clear qM
  repeat' split
  all_goals first |rfl|(exfalso;omega)|(exfalso;simp_all;done)|(by_cases EM:8192<n<;>first |(rw[if_pos EM];done)|(rw[if_neg EM];done)|(exfalso;omega))|(exfalso;simp_all;omega)
def PS (w:World) (nv fv:Value) (op:Int) (p tz:List UInt8) (mode ref:Int):List aU:=[.box (w.heap.size+1+1) 32 #[.slice none 0 0,.slice none 0 0],.box (w.heap.size+1) 38 (K6 op p tz mode ref),.box w.heap.size 32 #[nv,fv]]
theorem ahD (w:World) (nv fv:Value) (op:Int) (p tz:List UInt8) (mode ref:Int):Sep w (((w.alloc (.cells #[nv,fv] 32)).alloc (.cells (K6 op p tz mode ref) 38)).alloc (.cells #[.slice none 0 0,.slice none 0 0] 32)) (PS w nv fv op p tz mode ref):=by have h:=(((Sep.nil w).bN 32 #[nv,fv]).bN 38 (K6 op p tz mode ref)).bN 32 #[.slice none 0 0,.slice none 0 0];simp only[World.size_alloc]at h;exact h
structure ak2 (w W:World) (nv fv:Value) (op:Int) (p tz:List UInt8) (mode ref:Int):Prop where
 t0:W.cell? ⟨w.heap.size,0,none⟩=some nv
 t1:W.cell? ⟨w.heap.size,1,none⟩=some fv
 i0:W.cell? ⟨w.heap.size+1,0,none⟩=some (.int .i64 op)
 i1:W.cell? ⟨w.heap.size+1,1,none⟩=some (.string ⟨p.toArray⟩)
 i2:W.cell? ⟨w.heap.size+1,2,none⟩=some (.string ⟨tz.toArray⟩)
 i3:W.cell? ⟨w.heap.size+1,3,none⟩=some (.int .i64 mode)
 i4:W.cell? ⟨w.heap.size+1,4,none⟩=some (.int .i64 ref)
 r0:W.cell? ⟨w.heap.size+1+1,0,none⟩=some (.slice none 0 0)
 r1:W.cell? ⟨w.heap.size+1+1,1,none⟩=some (.slice none 0 0)
 f0:W.frozen? ⟨w.heap.size+1+1,0,none⟩=false
 f1:W.frozen? ⟨w.heap.size+1+1,1,none⟩=false
theorem jF {w W:World} {nv fv:Value} {op:Int} {p tz:List UInt8} {mode ref:Int} (P:List aU) (h:Sep w W (P++PS w nv fv op p tz mode ref)):ak2 w W nv fv op p tz mode ref:=by
 have g:∀k,(P++PS w nv fv op p tz mode ref)[P.length+k]? =(PS w nv fv op p tz mode ref)[k]? :=fun k=>by rw[List.getElem?_append_right (by omega),Nat.add_sub_cancel_left]
 have g0:=(g 0).trans rfl;have g1:=(g 1).trans rfl;have g2:=(g 2).trans rfl;exact⟨h.bC _ g2 0,h.bC _ g2 1,h.bC _ g1 0,h.bC _ g1 1,h.bC _ g1 2,h.bC _ g1 3,h.bC _ g1 4,h.bC _ g0 0,h.bC _ g0 1,h.bF _ g0 0,h.bF _ g0 1⟩
theorem J3 {w W:World} {nv fv:Value} {op:Int} {p tz:List UInt8} {mode ref:Int} (P:List aU) (x y:Value) (h:Sep w W (P++PS w nv fv op p tz mode ref)):∃Q,Sep w ((W.setCell ⟨w.heap.size+1+1,0,none⟩ x).setCell ⟨w.heap.size+1+1,1,none⟩ y) (P++Q)∧((W.setCell ⟨w.heap.size+1+1,0,none⟩ x).setCell ⟨w.heap.size+1+1,1,none⟩ y).cell? ⟨w.heap.size+1+1,0,none⟩=some x∧((W.setCell ⟨w.heap.size+1+1,0,none⟩ x).setCell ⟨w.heap.size+1+1,1,none⟩ y).cell? ⟨w.heap.size+1+1,1,none⟩=some y:=by
 have g0:(P++PS w nv fv op p tz mode ref)[P.length]? =some (.box (w.heap.size+1+1) 32 #[.slice none 0 0,.slice none 0 0]):=by rw[List.getElem?_append_right (Nat.le_refl _),Nat.sub_self];rfl
 have h1:=h.bS _ g0 0 x;rw[List.set_append_right _ _ (Nat.le_refl _),Nat.sub_self]at h1;have g1:(P++(PS w nv fv op p tz mode ref).set 0 (.box (w.heap.size+1+1) 32 (#[.slice none 0 0,.slice none 0 0].setIfInBounds 0 x)))[P.length]? =some (.box (w.heap.size+1+1) 32 (#[.slice none 0 0,.slice none 0 0].setIfInBounds 0 x)):=by rw[List.getElem?_append_right (Nat.le_refl _),Nat.sub_self];rfl
 have h2:=h1.bS _ g1 1 y;have h3:=h2;rw[List.set_append_right _ _ (Nat.le_refl _),Nat.sub_self]at h3;have g2:(P++(((PS w nv fv op p tz mode ref).set 0 (.box (w.heap.size+1+1) 32 (#[.slice none 0 0,.slice none 0 0].setIfInBounds 0 x))).set 0 (.box (w.heap.size+1+1) 32 ((#[.slice none 0 0,.slice none 0 0].setIfInBounds 0 x).setIfInBounds 1 y))))[P.length]? =some (.box (w.heap.size+1+1) 32 ((#[.slice none 0 0,.slice none 0 0].setIfInBounds 0 x).setIfInBounds 1 y)):=by rw[List.getElem?_append_right (Nat.le_refl _),Nat.sub_self];rfl
 exact⟨_,h3,h3.bC _ g2 0,h3.bC _ g2 1⟩
theorem EZ {w:World} {nv fv:Value} {ns:List TN} {fs:List TF} {vs:List Value} (h:dS w nv fv ns fs vs):∀u∈jC fs vs,u.oneCell'=true:=by
 intro u hu;unfold jC at hu;rw[List.mem_flatMap]at hu;obtain⟨x,hx,h1⟩:=hu;obtain⟨k,hk⟩:=List.mem_iff_getElem?.1 hx;rw[List.getElem?_zip_eq_some]at hk;obtain⟨A,c,e,_⟩:=(h.data k x.2 x.1 hk.2 hk.1).shape;simp only[tfC,List.mem_cons,List.not_mem_nil,or_false]at h1;rcases h1 with rfl|rfl
 ·rfl
 rw[e];rfl
def NM (ns:List TN) (p:List UInt8):Nat:=(qW ns p).toNat
def doE (f e:Int) (N:List TN) (F:List TF):Int:=if f=0 then(if e=0 then(if qF N F=0 then 0 else 31)else e)else f
theorem acM {ns:List TN} {fs:List TF} (ho:fM ns fs):(if iZ ns fs=true then(31:Int)else if jJ ns fs=true then 0 else 30)=0:=(y9 ns fs).trans (T9 ho)
theorem ak3 {Ns:List TN} {p:List UInt8} (h:ET Ns p=false):∀n∈Ns,n.path≠p:=by
 unfold ET iH at h;intro n hn e;have h1:Ns.find? (fun n=>n.path==p)=none:=by
  cases hf:Ns.find? (fun n=>n.path==p)with
  |none=>rfl
  |some m=>rw[hf]at h;cases h
 have:=List.find?_eq_none.1 h1 n hn;rw[e]at this;simp at this
theorem acN {Ns:List TN} {p:List UInt8} (h:dN Ns p=0):ET Ns p=false:=by
 unfold dN at h;split at h
 ·split at h
  ·cases h
  rename_i hh;simpa using hh
 rename_i hl;exact absurd h hl
theorem acO {Ns:List TN} {p:List UInt8} {k:Nat} (h:bT Ns p (k+1)=0):bT Ns p k=0:=by
 unfold bT at h;split at h
 ·split at h
  ·cases h
  split at h
  ·cases h
  exact h
 exact h
theorem J4 {Ns:List TN} {p:List UInt8} {k:Nat}:∀d,bT Ns p (k+d)=0→bT Ns p k=0
 |0,h=>h
 |d+1,h=>J4 d (acO h)
def aoB (Ns:List TN) (p:List UInt8):Prop:=dE p=[]∨∃m∈Ns,m.path=dE p∧m.file= -1
theorem ahE {Ns:List TN} (hf:∀n∈Ns, -1≤n.file) {p:List UInt8} (hv:aP p=true) (h:bT Ns p p.length=0):aoB Ns p:=by
 unfold aoB dE;rw[if_pos hv];rcases jI p with⟨_,h0,_⟩|⟨a,b,e,hb,hs,_⟩
 ·left;rw[h0];rfl
 right;have hl:p.length=(b.length+1)+a.length:=by rw[e];simp;omega
 rw[hl]at h;have h1:=J4 _ h;rw[qY Ns e]at h1;have ht:p.take (mM p)=a:=by rw[hs,e,List.take_left'];rfl
 rw[ht];cases qM:iH Ns a with
 |none=>rw[qM]at h1;cases h1
 |some n=>
  rw[qM]at h1;obtain⟨m1,m2⟩:=sI qM;have:=hf n m1;by_cases h9:0≤n.file
  ·simp only at h1;rw[if_pos h9]at h1;cases h1
  exact⟨n,m1,m2,by omega⟩
section
variable {Ns:List TN}
theorem uN.amN (h:uN Ns):∀n∈Ns, -1≤n.file:=fun n hn=>by rcases h.file n hn with⟨h1,_⟩|⟨h1,_⟩<;>omega
theorem uN.add (h:uN Ns) {n:TN} (hp:ET Ns n.path=false) (hv:aP n.path=true) (hu:aoB Ns n.path) (hf:(n.file= -1∧eG n.mode=true)∨(0≤n.file∧n.mode=0)):uN (Ns++[n]):=by
 refine⟨?_,fun m hm=>?_,fun m hm=>?_,fun m hm=>?_⟩
 ·rw[List.pairwise_append];refine⟨h.ne,by simp,fun a ha b hb=>?_⟩;(have:b=n:=by simpa using hb);subst this;exact ak3 hp a ha
 ·rcases List.mem_append.1 hm with hm|hm
  ·exact h.valid m hm
  (have:m=n:=by simpa using hm);subst this;exact hv
 ·rcases List.mem_append.1 hm with hm|hm
  ·rcases h.up m hm with h1|⟨x,hx,h2⟩
   ·exact .inl h1
   exact .inr ⟨x,List.mem_append_left _ hx,h2⟩
  (have:m=n:=by simpa using hm);subst this;rcases hu with h1|⟨x,hx,h2⟩
  ·exact .inl h1
  exact .inr ⟨x,List.mem_append_left _ hx,h2⟩
 rcases List.mem_append.1 hm with hm|hm
 ·exact h.file m hm
 have:m=n:=by simpa using hm
 subst this;exact hf
end
theorem XN {ns:List TN} {p:List UInt8} (h:dN ns p=0):bT ns p p.length=0∧ET ns p=false:=by
 refine⟨?_,acN h⟩;unfold dN at h;by_cases hl:bT ns p p.length=0
 ·exact hl
 rw[if_neg hl]at h;exact absurd h hl
section
variable {r:Int→Int} {Ms Ns:List TN} {F G:List TF}
theorem wG {n:TN} (h:¬n.file<0):ren r n=⟨n.path,r n.file,n.mode⟩:=by unfold ren;rw[if_neg h]
theorem UT {l:List TN} (hne:l.Pairwise fun a b=>a.path≠b.path) {p:List UInt8} {n:TN}:iH l p=some n↔n∈l∧n.path=p:=by
 constructor
 ·exact sI
 rintro⟨h1,rfl⟩;exact NI hne h1
theorem Alike.ne (h:Alike r Ms F Ns G) (hne:Ns.Pairwise fun a b=>a.path≠b.path):Ms.Pairwise fun a b=>a.path≠b.path:=by
 have an6:(Ns.map (ren r)).Pairwise fun a b=>a.path≠b.path:=by rw[List.pairwise_map];exact hne.imp fun {a b} e=>by rw[kK,kK];exact e
 exact h.perm.symm.pairwise an6 fun {a b} h e=>h e.symm
theorem Alike.mem (h:Alike r Ms F Ns G) {m:TN}:m∈Ms↔∃n∈Ns,ren r n=m:=by rw[h.perm.mem_iff,List.mem_map]
theorem Alike.find (h:Alike r Ms F Ns G) (hne:Ns.Pairwise fun a b=>a.path≠b.path) (p:List UInt8):iH Ms p=(iH Ns p).map (ren r):=by
 cases hn:iH Ns p with
 |some n=>obtain⟨h1,h2⟩:=sI hn;exact(UT (h.ne hne)).2 ⟨h.mem.2 ⟨n,h1,rfl⟩,by rw[kK];exact h2⟩
 |none=>
  cases hm:iH Ms p with
  |none=>rfl
  |some m=>obtain⟨h1,h2⟩:=sI hm;obtain⟨n,hn2,rfl⟩:=h.mem.1 h1;rw[kK]at h2;rw[(UT hne).2 ⟨hn2,h2⟩]at hn;cases hn
theorem Alike.sign (h:Alike r Ms F Ns G) {n:TN} (hn:n∈Ns):0≤(ren r n).file↔0≤n.file:=by
 by_cases hf:n.file<0
 ·rw[xL hf]
 rw[wG hf];have:=(h.file n hn hf).1;constructor<;>intro _<;>simp only at* <;>omega
theorem Alike.look (h:Alike r Ms F Ns G) (hne:Ns.Pairwise fun a b=>a.path≠b.path) (p:List UInt8):∀k,bT Ms p k=bT Ns p k
 |0=>rfl
 |k+1=>by
  rw[xJ,xJ,h.find hne,h.look hne p k];cases hn:iH Ns (p.take (p.length-(k+1)))with
  |none=>rfl
  |some n=>
   have:=h.sign (sI hn).1;simp only[Option.map_some];by_cases h0:0≤n.file
   ·rw[if_pos h0,if_pos (this.2 h0)]
   rw[if_neg h0,if_neg (fun e=>h0 (this.1 e))]
theorem Alike.has (h:Alike r Ms F Ns G) (hne:Ns.Pairwise fun a b=>a.path≠b.path) (p:List UInt8):ET Ms p=ET Ns p:=by unfold ET;rw[h.find hne];cases iH Ns p<;>rfl
theorem Alike.absent (h:Alike r Ms F Ns G) (hne:Ns.Pairwise fun a b=>a.path≠b.path) (p:List UInt8):dN Ms p=dN Ns p:=by unfold dN;rw[h.look hne,h.has hne]
theorem Alike.cnt (h:Alike r Ms F Ns G) (p:List UInt8):jT Ms p=jT Ns p:=by unfold jT;rw[h.perm.countP_eq,List.countP_map];apply List.countP_congr;intro n _;simp only[Function.comp_apply,kK]
theorem J5 {F:List TF} {x:TF} {i:Int} (h0:0≤i) (h:i<(F.length:Int)):iV (F++[x]) i=iV F i:=by unfold iV;rw[gH,gH,List.getElem?_append_left (by omega)]
theorem J6 {F:List TF} {x:TF}:iV (F++[x]) (F.length:Int)=x:=by unfold iV;rw[gH,Int.toNat_natCast,List.getElem?_append_right (Nat.le_refl _),Nat.sub_self];rfl
theorem Alike.O6 (h:Alike r Ms F Ns G) (hG:∀n∈Ns,¬n.file<0→n.file<G.length) (p:List UInt8) (x:TF):
  Alike (fun i=>if i=(G.length:Int)then(F.length:Int)else r i) (Ms++[⟨p,F.length,0⟩]) (F++[x]) (Ns++[⟨p,G.length,0⟩]) (G++[x]):=by
 have hold:∀n∈Ns,¬n.file<0→n.file≠(G.length:Int):=fun n hn hf=>by have:=hG n hn hf;omega
 have hcase:∀n∈Ns++[(⟨p,G.length,0⟩:TN)],¬n.file<0→(n∈Ns∧n.file≠(G.length:Int))∨n.file=(G.length:Int):=fun n hn hf=>by
  rcases List.mem_append.1 hn with hn|hn
  ·exact .inl ⟨hn,hold n hn hf⟩
  right;(have:n=⟨p,G.length,0⟩:=by simpa using hn);rw[this]
 refine⟨?_,fun n hn hf=>?_,fun n hn m hm hf hg e=>?_⟩
 ·rw[List.map_append,List.map_singleton];(have e1:ren (fun i=>if i=(G.length:Int)then(F.length:Int)else r i) ⟨p,G.length,0⟩=⟨p,F.length,0⟩:=by rw[wG (by show ¬((G.length:Int)<0);omega)];simp);have e2:Ns.map (ren fun i=>if i=(G.length:Int)then(F.length:Int)else r i)=Ns.map (ren r):=by
   apply List.map_congr_left;intro n hn;by_cases hf:n.file<0
   ·rw[xL hf,xL hf]
   rw[wG hf,wG hf,if_neg (hold n hn hf)]
  rw[e1,e2];exact h.perm.append_right _
 ·rw[List.length_append,List.length_singleton];rcases hcase n hn hf with⟨h1,h2⟩|h2
  ·obtain⟨a,b,c⟩:=h.file n h1 hf;have:=hG n h1 hf;simp only[if_neg h2];refine⟨a,by omega,?_⟩;rw[J5 a b,J5 (by omega) this,c]
  simp only[if_pos h2];refine⟨by omega,by omega,?_⟩;rw[h2,J6,J6]
 rcases hcase n hn hf with⟨h1,h2⟩|h2<;>rcases hcase m hm hg with⟨h3,h4⟩|h4
 ·rw[if_neg h2,if_neg h4]at e;exact h.inj n h1 m h3 hf hg e
 ·rw[if_neg h2,if_pos h4]at e;have:=(h.file n h1 hf).2.1;omega
 ·rw[if_pos h2,if_neg h4]at e;have:=(h.file m h3 hg).2.1;omega
 rw[h2,h4]
end
end Go.Proofs.YteihmbaimbogaaaGreat
namespace Go.Proofs.YteihmbaimbogaaaGreat
open Go.RowKit
set_option linter.unusedVariables false
abbrev TR :=List TN×List TF
set_option linter.unusedSimpArgs false
def zB (op:Int) (p tz:List UInt8) (ns:List TN):Int:=
 if op=1 then dN ns p
 else if op=2 then(if qB ns p=0 then(if(nY ns p).file= -1 then(if jT ns p=0 then 0 else 25)else 22)else qB ns p)
 else if op=3 then agM ns p tz
 else if op=4 then agM ns p tz
 else if op=5 then(if qB ns p=0 then(if(nY ns p).file= -1 then 24 else 0)else qB ns p)
 else if op=6 then dN ns p
 else if op=7 then agM ns p tz
 else qB ns p
def E8 (op:Int) (p tz:List UInt8) (mode:Int) (T:TR):List TN:=
 if op=1 then T.1++[⟨p, -1,mode⟩]
 else if op=2 then T.1.take (NM T.1 p)++T.1.drop (NM T.1 p+1)
 else if op=3 then T.1.set (NM T.1 p) ⟨tz,(nY T.1 p).file,(nY T.1 p).mode⟩
 else if op=4 then T.1++[⟨tz,(nY T.1 p).file,0⟩]
 else if op=5 then T.1.take (NM T.1 p)++T.1.drop (NM T.1 p+1)
 else if op=6 then T.1++[⟨p,T.2.length,0⟩]
 else if op=7 then T.1++[⟨tz,T.2.length,0⟩]
 else if(nY T.1 p).file= -1 then T.1.set (NM T.1 p) ⟨(nY T.1 p).path, -1,mode⟩else T.1
def LC (op:Int) (p tz:List UInt8) (mode:Int) (b:List UInt8) (T:TR):List TF:=
 if op=6 then T.2++[⟨mode,b⟩]
 else if op=7 then T.2++[⟨mode,(iV T.2 (nY T.1 p).file).bs⟩]
 else if op=8 then(if(nY T.1 p).file= -1 then T.2 else T.2.set (nY T.1 p).file.toNat ⟨mode,(iV T.2 (nY T.1 p).file).bs⟩)
 else T.2
def xR (op:Int) (p tz:List UInt8) (mode ref:Int) (cs:List Value) (b:List UInt8) (T:TR):Int:=
 if op<1∨9<op then 34 else if op=9 then 0 else doE (lL op p tz mode ref cs) (zB op p tz T.1) (E8 op p tz mode T) (LC op p tz mode b T)
def wH (op:Int) (p tz:List UInt8) (mode:Int) (b:List UInt8) (T:TR):TR:=
 if op=9 then T else(qE (E8 op p tz mode T),oZ (E8 op p tz mode T) (LC op p tz mode b T))
end Go.Proofs.YteihmbaimbogaaaGreat
