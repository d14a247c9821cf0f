/- LawF, LawB, Lent7, LawC, laid together. -/
import Derived.Test.YtimkjnbihlgbiaaGreatJ47
import Derived.Test.YtimkjnbihlgbiaaGreatJ48
import Derived.Laws.BytesArg
namespace Go.Proofs.YtimkjnbihlgbiaaGreat
open Go.RowKit
set_option linter.unusedVariables false
set_option linter.unusedSimpArgs false
noncomputable def ordL (thr:Bool) (xs:List Ins) (cs:List Value) (xss:List (List Int)) (T:TR):List Int:=if refE T.1 T.2 xss xs.length=0 then docO thr (grD xs cs) (nxD xs cs) xss xs.length T []else []
theorem orderE_zero {xss:List (List Int)} {m:Nat} (h:orderE xss m=0):refused xss=0∧xss.length=m∧roundRows xss=[]:=by
 unfold orderE at h;by_cases h1:refused xss=0
 ·rw[if_neg (by simpa using h1)]at h;by_cases h2:xss.length=m
  ·rw[if_neg (by simpa using h2)]at h;by_cases h3:roundRows xss=[]
   ·exact⟨h1,h2,h3⟩
   rw[if_pos h3]at h;cases h
  rw[if_pos h2]at h;cases h
 rw[if_pos h1]at h;exact absurd h h1
section
variable {xss:List (List Int)} {w:World} {vn nv fv av sv:Value} {T:TR} {vs cs:List Value} {xs:List Ins}
theorem order_all (thr:Bool) (hn:RowsAt w vn xss) (h:TreeAt w nv fv T.1 T.2 vs) (hm:TreeSm T.1 T.2) (ha:InsAt w av xs) (hxo:InsOk xs) (h9:xs.length≤20) (hsv:StockAt w sv cs):
  Calls Tryz.prog 11 #[.agg #[nv,fv],av,vn,sv,.bool thr] w fun e w'=>∃v,e= .returned (.tuple #[v,.int .i64 (refE T.1 T.2 xss xs.length)])∧Sep w w' [intsR v (ordL thr xs cs xss T)]:=by
 have ha2:=ha;have hsv2:=hsv;obtain⟨Aa,ca,rfl,_⟩:=ha.shape;obtain⟨Ak,ck,rfl,_⟩:=hsv.1.shape;by_cases hz:looseP T.1 T.2=0
 case neg=>(have e1:refE T.1 T.2 xss xs.length=looseP T.1 T.2:=by unfold refE;rw[if_neg hz]);(have e2:ordL thr xs cs xss T=[]:=by unfold ordL;rw[if_neg (by rw[e1];exact hz)]);rw[e1,e2];refine(order_loose (vn:=vn) (av:=.slice none 0 0) (sv:=.slice none 0 0) thr h hm hz).mono ?_;rintro e w' ⟨rfl,hb⟩;exact⟨_,rfl,((Sep.nil w).pure hb).sl_nil _ _⟩
 have e0:refE T.1 T.2 xss xs.length=orderE xss xs.length:=by unfold refE;rw[if_pos hz]
 by_cases he:orderE xss xs.length=0
 case neg=>(have e2:ordL thr xs cs xss T=[]:=by unfold ordL;rw[if_neg (by rw[e0];exact he)]);rw[e0,e2];refine(order_badG thr h hm hz hn (by omega) he).mono ?_;rintro e w' ⟨rfl,hb⟩;exact⟨_,rfl,((Sep.nil w).pure hb).sl_nil _ _⟩
 have e2:ordL thr xs cs xss T=docO thr (grD xs cs) (nxD xs cs) xss xs.length T []:=by unfold ordL;rw[if_pos (by rw[e0];exact he)]
 rw[e0,e2,he];obtain⟨hx,hl,hr⟩:=orderE_zero he;have hT:=order_doc thr (grD xs cs) (nxD xs cs) hx hr (by omega) T;rw[hl]at hT;exact order_g thr hn hl (by omega) hx hr h rfl ha2 hsv2 (stepsD hxo cs) (loose_ok hz) hT
set_option maxRecDepth 100000 in
set_option maxHeartbeats 1000000 in
theorem reforder_bad (thr:Bool) (hn:RowsAt w vn xss) (hn9:xss.length≤1048576) (h:TreeAt w nv fv T.1 T.2 vs) (hm:TreeSm T.1 T.2) {Aa Ak:Option Addr} {m ca nk ck:Nat} (hm9:m≤1048576) (he:refE T.1 T.2 xss m≠0):
  Calls Tryz.prog 15 #[.agg #[nv,fv],.slice Aa m ca,vn,.slice Ak nk ck,.bool thr] w fun e w'=>e= .returned (.tuple #[.slice none 0 0,.int .i64 (refE T.1 T.2 xss m)])∧Below w.heap.size w w':=by
 have hS0:=(Sep.nil w).bN 25 #[nv,fv];have hrf:=reforder_refused (h.below hS0.below) hm (hn.below hS0.below) hn9 (Aa:=Aa) (m:=m) (ca:=ca) hm9;obtain⟨An,cn,rfl,hmn⟩:=hn.shape;obtain⟨A1,c1,rfl,hm1⟩:=h.nodes.shape;obtain⟨A2,c2,rfl,hm2⟩:=h.files.shape;have hq:(refE T.1 T.2 xss m !=0)=true:=by simpa using he
 generalize refE T.1 T.2 xss m=E at hrf hq ⊢;have c0:=hS0.bC 0 rfl 0;have c9:=hS0.bC 0 rfl 1;simp only[gA,gB,gC]at c0 c9;have hrf':=Lh hrf;have hS0':=Lh hS0;clear hS0 hrf hn h he;go_enter Tryz.func15,Tryz.ntmps15;go_wp2_with(go_at_call 32;refine hrf'.out.mono ?_;rintro e w1 ⟨rfl,hb1⟩;(have hS1:=Lh (hS0'.out.pure hb1));clear hb1)
 go_ret2
 exact⟨rfl,hS1.out.below⟩
theorem reforder_all (thr:Bool) (hn:RowsAt w vn xss) (hn9:xss.length≤1048576) (h:TreeAt w nv fv T.1 T.2 vs) (hm:TreeSm T.1 T.2) (ha:InsAt w av xs) (hxo:InsOk xs) (h9:xs.length≤20) (hsv:StockAt w sv cs):
  Calls Tryz.prog 15 #[.agg #[nv,fv],av,vn,sv,.bool thr] w fun e w'=>∃v,e= .returned (.tuple #[v,.int .i64 (refE T.1 T.2 xss xs.length)])∧Sep w w' [intsR v (ordL thr xs cs xss T)]:=by
 have ha2:=ha;have hsv2:=hsv;obtain⟨Aa,ca,rfl,_⟩:=ha.shape;obtain⟨Ak,ck,rfl,_⟩:=hsv.1.shape;by_cases he:refE T.1 T.2 xss xs.length=0
 case neg=>(have e2:ordL thr xs cs xss T=[]:=by unfold ordL;rw[if_neg he]);rw[e2];refine(reforder_bad thr hn hn9 h hm (by omega) he).mono ?_;rintro e w' ⟨rfl,hb⟩;exact⟨_,rfl,((Sep.nil w).pure hb).sl_nil _ _⟩
 have e2:ordL thr xs cs xss T=docO thr (grD xs cs) (nxD xs cs) xss xs.length T []:=by unfold ordL;rw[if_pos he]
 rw[e2,he];have hz:looseP T.1 T.2=0:=by(refine Decidable.byContradiction fun hno=>?_);unfold refE at he;rw[if_neg hno]at he;exact hno he
 unfold refE at he;rw[if_pos hz]at he;obtain⟨hx,hl,hr⟩:=orderE_zero he;exact reforder_any thr hn hl (by omega) hx hr h (loose_ok hz) rfl ha2 hxo hsv2
end
section
variable {cs ds:List Value}
theorem dv_getD (cs:List Value) (k:Nat):dvLen (cs.getD k (.slice none 0 0))=(cs.map dvLen).getD k 0:=by rw[gH,gH,List.getElem?_map];cases cs[k]? <;>rfl
theorem firstP_cs (h:cs.map dvLen=ds.map dvLen) (rm rt:Bool) (op:Int) (p tq:List UInt8) (mode ref:Int):firstP rm rt op p tq mode ref cs=firstP rm rt op p tq mode ref ds:=by
 have hl:cs.length=ds.length:=by have:=congrArg List.length h;simpa using this
 unfold firstP;rw[dv_getD,dv_getD,h,hl]
theorem docE_cs (h:cs.map dvLen=ds.map dvLen) (op:Int) (p tq:List UInt8) (mode ref:Int) (T:TR):docE op p tq mode ref cs T=docE op p tq mode ref ds T∧docT op p tq mode ref cs T=docT op p tq mode ref ds T:=by
 have h1:firstD op p tq mode ref cs=firstD op p tq mode ref ds:=by unfold firstD;rw[firstP_cs h]
 have h2:docF op p tq mode ref cs T=docF op p tq mode ref ds T:=by unfold docF;rw[dv_getD,dv_getD,h]
 unfold docE docT;rw[h1,h2];exact⟨rfl,rfl⟩
theorem ordL_cs (h:cs.map dvLen=ds.map dvLen) (thr:Bool) (xs:List Ins) (xss:List (List Int)) (T:TR):ordL thr xs cs xss T=ordL thr xs ds xss T:=by
 have h1:grD xs cs=grD xs ds:=by
  funext T i;unfold grD;split
  ·rfl
  rw[(docE_cs h _ _ _ _ _ _).1,(docE_cs h _ _ _ _ _ _).2]
 have h2:nxD xs cs=nxD xs ds:=by
  funext T i;unfold nxD;split
  ·rfl
  rw[(docE_cs h _ _ _ _ _ _).1,(docE_cs h _ _ _ _ _ _).2]
 unfold ordL;rw[h1,h2]
end
def addN (B:Int):Int→List Nat→Int
 |n,[]=>n
 |n,l::ls=>if n≤B then addN B (n+1+l) ls else n
theorem addN_ge {B:Int}:∀ {ls:List Nat} {n:Int},n≤addN B n ls
 |[],n=>Int.le_refl _
 |l::ls,n=>by
  unfold addN;split
  ·have:=addN_ge (B:=B) (ls:=ls) (n:=n+1+l);omega
  omega
theorem addN_mem {B:Int}:∀ {ls:List Nat} {n:Int},0≤n→addN B n ls≤B→∀l∈ls,(l:Int)≤B
 |[],n,_,_,l,hl=>by cases hl
 |a::ls,n,h0,h,l,hl=>by
  unfold addN at h;by_cases hn:n≤B
  ·rw[if_pos hn]at h;rcases List.mem_cons.1 hl with rfl|hl
   ·have:=addN_ge (B:=B) (ls:=ls) (n:=n+1+l);omega
   exact addN_mem (by omega) h l hl
  rw[if_neg hn]at h;omega
def bigB (ns:List TN) (fs:List TF):Bool:=decide (40000<addN 40000 (addN 40000 0 (ns.map fun n=>n.path.length)) (fs.map TF.size))||(decide (300<ns.length)||decide (300<fs.length))
theorem bigB_sm {ns:List TN} {fs:List TF} (h:bigB ns fs=false):TreeSm ns fs:=by
 unfold bigB at h;rw[Bool.or_eq_false_iff,Bool.or_eq_false_iff,decide_eq_false_iff_not,decide_eq_false_iff_not,decide_eq_false_iff_not]at h;obtain⟨h1,h2,h3⟩:=h;have h4:=addN_ge (B:=40000) (ls:=fs.map TF.size) (n:=addN 40000 0 (ns.map fun n=>n.path.length));have h0:=addN_ge (B:=40000) (ls:=ns.map fun n=>n.path.length) (n:=0);refine⟨by omega,by omega,fun n hn=>?_,fun f hf=>?_⟩
 ·have:=addN_mem (B:=40000) (ls:=ns.map fun n=>n.path.length) (n:=0) (by omega) (by omega) n.path.length (List.mem_map_of_mem (f:=fun n:TN=>n.path.length) hn);omega
 have:=addN_mem (B:=40000) h0 (by omega) f.size (List.mem_map_of_mem hf);omega
theorem addN_at {B:Int} {ls:List Nat} {k:Nat} {l:Nat} (x:Int) (h:ls[k]? =some l) (hx:x≤B):addN B x (ls.drop k)=addN B (x+1+l) (ls.drop (k+1)):=by
 obtain⟨hk,e⟩:=gF.1 h;rw[List.drop_eq_getElem_cons hk,e];show(if x≤B then addN B (x+1+l) (ls.drop (k+1))else x)=_
 rw[if_pos hx]
theorem addN_over {B:Int} {ls:List Nat} (x:Int) (hx:B<x):addN B x ls=x:=by
 cases ls with
 |nil=>rfl
 |cons l ls=>unfold addN;rw[if_neg (by omega)]
set_option maxRecDepth 100000 in
set_option maxHeartbeats 2000000 in
theorem big_any {w:World} {nv fv:Value} {ns:List TN} {fs:List TF} {vs:List Value} (h:TreeAt w nv fv ns fs vs) (hp9:∀n∈ns,n.path.length≤1048576) (hs9:∀f∈fs,f.size≤1048576):
  Calls Tryz.prog 5 #[.agg #[nv,fv]] w fun e w'=>e= .returned (.bool (bigB ns fs))∧Below w.heap.size w w':=by
 have hS0:=(Sep.nil w).bN 25 #[nv,fv];have hnp:=h.nodes;have hfp:=h.files;have hvl:=h.len;have hda:=h.data;obtain⟨A1,c1,rfl,hm1⟩:=h.nodes.shape;obtain⟨A2,c2,rfl,hm2⟩:=h.files.shape;have d0:=hS0.bC 0 rfl 0;have d1:=hS0.bC 0 rfl 1;simp only[gA,gB,gC]at d0 d1;have hb0:=hS0.below;unfold maxLen at hm1 hm2;have bn:(ns.length:Int)≤9223372036854775807:=by omega
 have bf:(fs.length:Int)≤9223372036854775807:=by omega
 obtain⟨N1,hN1⟩:∃x,addN 40000 0 (ns.map fun n=>n.path.length)=x:=⟨_,rfl⟩;obtain⟨BB,hBB⟩:∃x,bigB ns fs=x:=⟨_,rfl⟩;rw[hBB];unfold bigB at hBB;rw[hN1]at hBB;have hBB':=Lh hBB;have hN1':=Lh hN1;have hnp':=Lh hnp;have hfp':=Lh hfp;have hvl':=Lh hvl;have hda':=Lh hda;have hp9':=Lh hp9;have hs9':=Lh hs9;have hb0':=Lh hb0;clear h hS0 hnp hfp hvl hda hBB hN1 hp9 hs9 hb0 hm1 hm2;go_enter Tryz.func5,Tryz.ntmps5;go_wp2_with fail;generalize w.alloc (.cells #[.slice A1 ns.length c1,.slice A2 fs.length c2] 25)=W at d0 d1 hb0' ⊢;obtain⟨b0,hb9⟩:∃b,w.heap.size=b:=⟨_,rfl⟩;rw[hb9]at d0 d1 ⊢;clear hb9;go_loop[3,4] (fun n i=>∃(x:Int) (k:Nat),k≤ns.length∧n= .int .i64 x∧i= .int .i64 k∧Hid (N1=addN 40000 x ((ns.map fun n=>n.path.length).drop k))∧(0≤x∧x≤2000000)) (fun _ i=>ns.length-(intOf i).toNat)
 case atStart=>exact⟨0,0,Nat.zero_le _,rfl,rfl,hN1'.out.symm,by omega⟩
 obtain⟨x,k,hk,rfl,rfl,hd,hx0,hx9⟩:=hrel;have q0:(0:Int)≤(k:Int):=by omega
 by_cases hgo:k<ns.length∧x≤40000
 ·obtain⟨hlt,hx⟩:=hgo;(have q1:(k:Int)<(ns.length:Int):=by omega);obtain⟨g,o,c,e,_,_,_,hcell⟩:=hnp'.out.place (by omega) (by decide);cases e;obtain⟨n,hn⟩:∃n,ns[k]? =some n:=⟨_,gE hlt⟩;have c0:=(hcell W hb0'.out (k*3) (by omega)).trans (tnCells_at hn 0 (by omega));simp only[tnC,strV,gB,gC,←Nat.add_assoc]at c0;have hnl:=hp9'.out n (gG hn);(have bl:(n.path.length:Int)≤1048576:=by omega);have hd2:=hd.out;rw[addN_at x (l:=n.path.length) (by rw[List.getElem?_map,hn];rfl) hx]at hd2;have hd':=Lh hd2;have hsz:(⟨n.path.toArray⟩:ByteArray).size=n.path.length:=rfl;clear hd hd2 hn hcell hnl;go_wp2_with fail;go_round
  case rel=>exact⟨x+1+n.path.length,k+1,by omega,by first |rfl|go_num|(simp;omega),by go_num,hd',by omega⟩
  case measure=>simp[intOf];omega
 have hfin:N1=x:=by
  rw[hd.out];by_cases hx:x≤40000
  ·(have hkn:k=ns.length:=by omega);rw[List.drop_of_length_le (by rw[List.length_map];omega)];rfl
  exact addN_over x (by omega)
 have hfin':=Lh hfin;have hgo':=Lh hgo;clear hd hfin hgo;have hcase:((k:Int)<(ns.length:Int)∧40000<x)∨¬(k:Int)<(ns.length:Int):=by
  by_cases h:k<ns.length
  ·left;have:=hgo'.out;constructor
   ·omega
   refine Decidable.byContradiction fun hno=>this ⟨h,by omega⟩
  right;omega
 rcases hcase with⟨q1,q2⟩|q1
 all_goals
  go_wp2_with fail
  go_loop[3,5] (fun n i=>∃(y:Int) (j:Nat),j≤fs.length∧n= .int .i64 y∧i= .int .i64 j∧Hid (addN 40000 N1 (fs.map TF.size)=addN 40000 y ((fs.map TF.size).drop j))∧(0≤y∧y≤2000000)) (fun _ i=>fs.length-(intOf i).toNat)
  case atStart=>exact⟨x,0,Nat.zero_le _,rfl,rfl,Lh (by rw[hfin'.out];rfl),by omega⟩
  case round=>
   obtain⟨y,j,hj,rfl,rfl,hd,hy0,hy9⟩:=hrel;(have r0:(0:Int)≤(j:Int):=by omega);by_cases hgo2:j<fs.length∧y≤40000
   ·obtain⟨hlt,hx⟩:=hgo2;(have r1:(j:Int)<(fs.length:Int):=by omega);obtain⟨g,o,c,e,_,_,_,hcell⟩:=hfp'.out.place (by omega) (by decide);cases e;obtain⟨f,hf⟩:∃f,fs[j]? =some f:=⟨_,gE hlt⟩;obtain⟨u,hu⟩:∃u,vs[j]? =some u:=⟨_,gE (by rw[hvl'.out];exact hlt)⟩;obtain⟨A,c9,rfl,_⟩:=(hda'.out j u f hu hf).shape;have c0:=(hcell W hb0'.out (j*2+1) (by omega)).trans (tfCells_at hf hu 1 (by omega));simp only[tfC,gB,gC,←Nat.add_assoc]at c0;have hfl:=hs9'.out f (gG hf);(have bl:(f.size:Int)≤1048576:=by omega);have hd2:=hd.out;rw[addN_at y (l:=f.size) (by rw[List.getElem?_map,hf];rfl) hx]at hd2;have hd':=Lh hd2;clear hd hd2 hf hu hcell hfl;go_wp2_with fail;go_round
    case rel=>exact⟨y+1+f.size,j+1,by omega,by first |rfl|go_num|(simp;omega),by go_num,hd',by omega⟩
    case measure=>simp[intOf];omega
   have hfin2:addN 40000 N1 (fs.map TF.size)=y:=by
    rw[hd.out];by_cases hx:y≤40000
    ·(have hkn:j=fs.length:=by omega);rw[List.drop_of_length_le (by rw[List.length_map];omega)];rfl
    exact addN_over y (by omega)
   have hres:=hBB'.out;rw[hfin2]at hres;have hres':=Lh hres;have hgo2':=Lh hgo2;clear hd hfin2 hgo2 hres;have hcase2:((j:Int)<(fs.length:Int)∧40000<y)∨¬(j:Int)<(fs.length:Int):=by
    by_cases h:j<fs.length
    ·left;have:=hgo2'.out;constructor
     ·omega
     refine Decidable.byContradiction fun hno=>this ⟨h,by omega⟩
    right;omega
   have e8:decide (300<ns.length)=decide ((300:Int)<(ns.length:Int)):=decide_eq_decide.2 (by omega);have e9:decide (300<fs.length)=decide ((300:Int)<(fs.length:Int)):=decide_eq_decide.2 (by omega);rw[e8,e9]at hres';clear e8 e9;by_cases t1:40000<y
   ·have hv:Hid (BB=true):=Lh (by rw[←hres'.out,decide_eq_true t1];rfl);rcases hcase2 with⟨r1,r2⟩|r1<;>(go_wp2_with fail;go_ret;exact⟨by rw[hv.out];rfl,hb0'.out⟩)
   have r1:¬(j:Int)<(fs.length:Int):=by
    rcases hcase2 with⟨_,h⟩|h
    ·exact absurd h t1
    exact h
   by_cases t2:(300:Int)<(ns.length:Int)
   ·have hv:Hid (BB=true):=Lh (by rw[←hres'.out,decide_eq_true t2];simp);go_wp2_with fail;go_ret;exact⟨by rw[hv.out];rfl,hb0'.out⟩
   have hv:Hid (BB=decide ((300:Int)<(fs.length:Int))):=Lh (by rw[←hres'.out,decide_eq_false t1,decide_eq_false t2,Bool.false_or,Bool.false_or]);go_wp2_with fail;go_ret;exact⟨by rw[hv.out];rfl,hb0'.out⟩
def much7 (bss:List (List UInt8)):Bool:=decide (60000<addN 60000 0 (bss.map List.length))||decide (200<bss.length)
set_option maxRecDepth 100000 in
set_option maxHeartbeats 2000000 in
theorem much7_any {w:World} {sv:Value} {cs:List Value} {bss:List (List UInt8)} (h:StockC w sv cs bss) (hb9:∀b∈bss,b.length≤1048576):
  Calls Tryz.prog 7 #[sv] w fun e w'=>e= .returned (.bool (much7 bss))∧Below w.heap.size w w':=by
 have hb0':=Lh (Below.refl w.heap.size w);have hby:=h.bytes;have hrd:=h.rd;have hln:=h.len;obtain⟨A1,c1,rfl,hm1⟩:=h.rd.shape;unfold maxLen at hm1;have bn:(cs.length:Int)≤9223372036854775807:=by omega
 obtain⟨BB,hBB⟩:∃x,much7 bss=x:=⟨_,rfl⟩;rw[hBB];unfold much7 at hBB;rw[hln]at hBB;have hBB':=Lh hBB;have hrd':=Lh hrd;have hby':=Lh hby;have hln':=Lh hln;have hb9':=Lh hb9;clear h hrd hby hln hBB hb9 hm1;go_enter Tryz.func7,Tryz.ntmps7;go_wp2_with fail;go_loop[3,4] (fun n i=>∃(x:Int) (k:Nat),k≤cs.length∧n= .int .i64 x∧i= .int .i64 k∧Hid (addN 60000 0 (bss.map List.length)=addN 60000 x ((bss.map List.length).drop k))∧(0≤x∧x≤2000000)) (fun _ i=>cs.length-(intOf i).toNat)
 case atStart=>exact⟨0,0,Nat.zero_le _,rfl,rfl,Lh rfl,by omega⟩
 obtain⟨x,k,hk,rfl,rfl,hd,hx0,hx9⟩:=hrel;have q0:(0:Int)≤(k:Int):=by omega
 by_cases hgo:k<cs.length∧x≤60000
 ·obtain⟨hlt,hx⟩:=hgo;(have q1:(k:Int)<(cs.length:Int):=by omega);obtain⟨u,hu⟩:∃u,cs[k]? =some u:=⟨_,gE hlt⟩;obtain⟨b,hb⟩:∃b,bss[k]? =some b:=⟨_,gE (by rw[hln'.out];exact hlt)⟩;obtain⟨A,c9,rfl,_⟩:=Rd.shape (hby'.out k u b hu hb);obtain⟨g,o,c,e,_,_,_,hcell⟩:=hrd'.out.place (by omega) (by decide);cases e;have c0:=(hcell w hb0'.out k (by omega)).trans hu;have hnl:=hb9'.out b (gG hb);(have bl:(b.length:Int)≤1048576:=by omega);have hd2:=hd.out;rw[addN_at x (l:=b.length) (by rw[List.getElem?_map,hb];rfl) hx]at hd2;have hd':=Lh hd2;clear hd hd2 hb hu hcell hnl;go_wp2_with fail;go_round
  case rel=>exact⟨x+1+b.length,k+1,by omega,by first |rfl|go_num|(simp;omega),by go_num,hd',by omega⟩
  case measure=>simp[intOf];omega
 have hfin:addN 60000 0 (bss.map List.length)=x:=by
  rw[hd.out];by_cases hx:x≤60000
  ·(have hkn:k=cs.length:=by omega);rw[List.drop_of_length_le (by rw[List.length_map,hln'.out];omega)];rfl
  exact addN_over x (by omega)
 have hres:=hBB'.out;rw[hfin]at hres;have hgo':=Lh hgo;have hcase:((k:Int)<(cs.length:Int)∧60000<x)∨¬(k:Int)<(cs.length:Int):=by
  by_cases h:k<cs.length
  ·left;constructor
   ·omega
   refine Decidable.byContradiction fun hno=>hgo ⟨h,by omega⟩
  right;omega
 have e8:decide (200<cs.length)=decide ((200:Int)<(cs.length:Int)):=decide_eq_decide.2 (by omega);rw[e8]at hres;have hres':=Lh hres;clear hd hfin hgo e8 hres;by_cases t1:60000<x
 ·have hv:Hid (BB=true):=Lh (by rw[←hres'.out,decide_eq_true t1];rfl);rcases hcase with⟨q1,q2⟩|q1<;>(go_wp2_with fail;go_ret;exact⟨by rw[hv.out];rfl,hb0'.out⟩)
 have q1:¬(k:Int)<(cs.length:Int):=by
  rcases hcase with⟨_,h⟩|h
  ·exact absurd h t1
  exact h
 have hv:Hid (BB=decide ((200:Int)<(cs.length:Int))):=Lh (by rw[←hres'.out,decide_eq_false t1,Bool.false_or]);go_wp2_with fail;go_ret;exact⟨by rw[hv.out];rfl,hb0'.out⟩
set_option maxHeartbeats 1000000 in
theorem sameints_any {xs:List Int} {w:World} {v u:Value} (h1:IntsAt w v xs) (h2:IntsAt w u xs):
  Calls Tryz.prog 17 #[v,u] w fun e w'=>e= .returned (.bool true)∧Below w.heap.size w w':=by
 obtain⟨A,c,rfl,hm⟩:=h1.shape;obtain⟨B,d,rfl,hm'⟩:=h2.shape;unfold maxLen at hm hm';have bx:(xs.length:Int)≤9223372036854775807:=by omega
 have b1:((xs.length:Int) !=(xs.length:Int))=false:=by simp
 have h1':=Lh h1;have h2':=Lh h2;have hb0:=Lh (Below.refl w.heap.size w);clear h1 h2;go_enter Tryz.func17,Tryz.ntmps17;go_wp2_with fail;go_loopw[5] (fun iv wr=>∃i:Nat,i≤xs.length∧iv= .int .i64 i∧Below w.heap.size w wr) (fun iv _=>xs.length-(intOf iv).toNat)
 case atStart=>exact⟨0,Nat.zero_le _,rfl,hb0.out⟩
 obtain⟨i,hi,rfl,hb⟩:=hrel;have q0:(0:Int)≤(i:Int):=by omega
 by_cases hlt:i<xs.length
 ·(have q1:(i:Int)<(xs.length:Int):=by omega);(have hbq:∀n,Below w.heap.size w (wr.drewN n):=fun n=>hb.trans ((((Sep.nil wr).drewN n).below).mono hb.size));obtain⟨ga,oa,ca,ea,_,_,_,hca⟩:=h1'.out.place (by omega) (by decide);cases ea;obtain⟨gb,ob,cb,eb,_,_,_,hcb⟩:=h2'.out.place (by omega) (by decide);cases eb;(have hx:(xs.map (Value.int .i64))[i]? =some (.int .i64 xs[i]):=by rw[List.getElem?_map,gE hlt];rfl);have a0:=(hca wr hb i (by omega)).trans hx;have a1:=(hcb wr hb i (by omega)).trans hx;(have a2:=fun n=>(hca _ (hbq n) i (by omega)).trans hx);(have a3:=fun n=>(hcb _ (hbq n) i (by omega)).trans hx);have hbq':=Lh hbq;generalize xs[i]=x at a0 a1 a2 a3;(have b2:(x !=x)=false:=by simp);clear hx hca hcb hb hbq;go_wp2_with fail;go_quiet (fail);go_wp2_with fail;go_roundw
  case rel=>exact⟨i+1,by omega,by go_num,hbq'.out _⟩
  case measure=>simp[intOf];omega
 obtain rfl:i=xs.length:=by omega
 have hb':=Lh hb;clear hb;go_wp2_with fail;go_ret;exact⟨rfl,hb'.out⟩
theorem info_bytes7 :(Tryz.prog.info? 52).map (fun i=>(i.zero,i.size,i.bytes))=some (some (.slice none 0 0),1,24):=by kernel_rfl
def lentRow7 (v:Value) (xs:List UInt8):Asn:=.sl 5 1 (more v) (xs.length+1) (xs.map byt++[.int .u8 167])
theorem lentRow7_at {w:World} {F:List Nat} {v:Value} {xs:List UInt8} (h:(lentRow7 v xs).on w F):BytesAt w v xs:=by have h1:=sl_rd h;obtain⟨_,A,c,e,_⟩:=id h1;rw[e]at h1;rw[more_form e];exact Rd.fst h1 (by simp)
def lentAll7 (v:Value) (vs:List Value) (last:Value) (xss:List (List UInt8)):List Asn:=
 .sl 52 1 (more v) (xss.length+1) (vs++[last]):: .sl 5 1 last 1 [.int .u8 113]::List.zipWith lentRow7 vs xss
theorem lent_rows7 {w0 w:World} {v last:Value} {vs:List Value} {xss:List (List UInt8)} {R:List Asn} (hl:vs.length=xss.length) (h:Sep w0 w (lentAll7 v vs last xss++R)):BRowsAt w v xss:=by
 have h0:=h.rd 0 rfl;obtain⟨_,A,c,e,_⟩:=id h0;rw[e]at h0;rw[more_form e];refine⟨vs,Rd.fst h0 (by simp[hl]),fun k u xs hu hx=>?_⟩;have hk:(lentAll7 v vs last xss++R)[k+2]? =some (lentRow7 u xs):=by have hz:=zip_some (f:=lentRow7) hu hx;(show(List.zipWith lentRow7 vs xss++R)[k]? =_);rw[List.getElem?_append_left (by rcases gF.1 hz with⟨h,_⟩;exact h)];exact hz
 obtain⟨F,ho,_⟩:=h.get (k+2) hk;exact lentRow7_at ho
attribute [local go_sem ↓] Go.wp_at_zero Go.wp_at_succ
set_option maxHeartbeats 2000000 in
theorem lent7_any {xss:List (List UInt8)} {w:World} {nv:Value} (hl:xss.length≤1024) (hr:∀j (hj:j<xss.length),xss[j].length≤1048576) (hn:BRowsAt w nv xss):
  Calls Tryz.prog 10 #[nv] w fun e w'=>∃v vs last,e= .returned v∧vs.length=xss.length∧Sep w w' (lentAll7 v vs last xss):=by
 obtain⟨i0,hi,hz0,hz1,hz2⟩:=info_parts info_byte;obtain⟨i1,hi1,hz10,hz11,hz12⟩:=info_parts info_bytes7;obtain⟨A,c,rfl,_⟩:=hn.shape;have hn':=Lh hn;have hr':=Lh hr;clear hn hr;have bn:(xss.length:Int)≤1024:=by omega
 go_enter Tryz.func10,Tryz.ntmps10;go_wp2_with fail;go_loopg[3,4] xss.length (fun g ov ii wr=>∃i:Nat,i≤xss.length∧Hid (g=xss.length-i)∧ii= .int .i64 i∧∃vs:List Value,vs.length=i∧Sep w wr (.sl 52 1 ov i vs::List.zipWith lentRow7 vs (xss.take i)))
 case atStart=>exact⟨0,Nat.zero_le _,rfl,rfl,[],rfl,by simpa using(Sep.nil w).sl_nil _ _⟩
 obtain⟨i,hi',hm,rfl,vs,hvl,hS⟩:=hrel;by_cases hlt:i<xss.length
 case neg=>(obtain rfl:i=xss.length:=by omega);rw[List.take_length]at hS;have hvl':vs.length=xss.length:=hvl;have hS1:=((hS.lit 5 #[.int .u8 113] (by simp[maxLen])).alloc (.cells #[.slice (some ⟨wr.heap.size,0,none⟩) 1 1] 52));have hS1':=Lh hS1;clear hS hS1;go_wp2_with(at_builtin;refine wpList_append_sep 1 rfl _ _ 28 rfl 52 i1 (.slice none 0 0) 1 24 Tryz.underlying28 hi1 hz10 hz11 hz12 rfl (by decide) hS1'.out u3 xss.length vs rfl rfl ⟨wr.heap.size+1,0,none⟩ 1 1 [.slice (some ⟨wr.heap.size,0,none⟩) 1 1] rfl rfl (cells_new _ _ _ _ (by simp)) (by simp[Value.oneCell',byt]) (by decide) (by unfold maxLen;omega) (by omega) ?_);intro g cap w2 hS2 hsz;obtain⟨g',cap',e,_,_,hcap,hcm⟩:=hS2.sl_form 1 rfl (by omega);cases e;unfold maxLen at hcm;have hS3:Sep w w2 (lentAll7 (.slice (some ⟨g,0,none⟩) xss.length cap) vs (.slice (some ⟨wr.heap.size,0,none⟩) 1 1) xss):=hS2.perm (List.Perm.swap _ _ _);have hS3':=Lh hS3;clear hS2 hS3 hS1' hsz;go_wp2_with fail;go_ret;exact⟨_,vs,_,rfl,hvl',hS3'.out⟩
 obtain⟨ad,c',un,e,hun,hcn⟩:=BRowsAt.all hn'.out hlt;cases e;have hrl:=hr'.out i hlt;obtain⟨Au,cu,rfl,hum⟩:=hun.shape;have hcn':=Lh hcn;have a0:=hcn wr hS.below;have b1:(0:Int)≤(i:Int):=by omega
 have b2:(i:Int)<(xss.length:Int):=by omega
 obtain⟨xs,hxs⟩:∃xs,xs=xss[i]:=⟨_,rfl⟩;have hxs':=Lh hxs;rw[←hxs]at hun hrl a0 hcn hum;have bx0:(0:Int)≤(xs.length:Int):=by omega
 have bx1:(xs.length:Int)≤1048576:=by omega
 have hun':=Lh hun;have hS':=Lh hS;clear hxs hun hS hcn';have hcn':=Lh hcn;clear hcn;go_wp2_with fail
 go_region_held3 (fun w'=>w'.cell? (ad.add i)=some (.slice Au xs.length cu))
  (first |(exact hcn'.out _ (hSd.out).below)|(exact hcn'.out _ (hSc.out.alloc _).below)|(exact hcn'.out _ hSc.out.below)|(exact hcn'.out _ (hSa.out.alloc _).below)|(exact hcn'.out _ hSa.out.below)|go_keep)
  (first |((refine step_append_any_sep 0 (by rfl) _ _ 52 (by rfl) 5 i0 (.int .u8 0) 1 1 Tryz.underlying52 hi hz0 hz1 hz2 rfl (by decide) (hS'.out.drew.sl_nil 5 1) (.slice none 0 0) 0 [] (by rfl) (by rfl) (.slice Au xs.length cu) xs.length (xs.map byt) (by rfl) (hun'.out.below hS'.out.drew.below) (by simp[Value.oneCell',byt]) (by unfold maxLen;omega) (by omega) ?_);intro va w1 hSa hza;simp only[List.set_cons_zero,Nat.zero_add,List.nil_append]at hSa;replace hSa:=Lh hSa;clear hza)|((refine step_append_sep 0 (by rfl) _ _ 52 (by rfl) 5 i0 (.int .u8 0) 1 1 Tryz.underlying52 hi hz0 hz1 hz2 rfl (by decide) (hSa.out.alloc (.cells #[.int .u8 167] 5)) va xs.length (xs.map byt) (by rfl) (by rfl) ⟨w1.heap.size,0,none⟩ 1 1 [.int .u8 167] (by rfl) (by rfl) (cell_one_new _ _ _) (by simp[Value.oneCell',byt]) (by decide) (by unfold maxLen;omega) (by omega) ?_);intro g cap w2 hSc hzc;simp only[List.set_cons_zero]at hSc;replace hSc:=Lh hSc;clear hzc;obtain⟨g',cap',e,_,_,hcap,hcm⟩:=hSc.out.sl_form 0 rfl (by omega);cases e;unfold maxLen at hcm;have hcap1:(xs.length:Int)≤(cap:Int):=(by omega);have hcap2:(cap:Int)≤9223372036854775807:=(by omega))|((refine step_append_any_sep 0 (by rfl) _ _ 52 (by rfl) 5 i0 (.int .u8 0) 1 1 Tryz.underlying52 hi hz0 hz1 hz2 rfl (by decide) ((hS'.out.lit 5 #[.int .u8 167] (by simp[maxLen])).drew.sl_nil 5 1) (.slice none 0 0) 0 [] (by rfl) (by rfl) (.slice Au xs.length cu) xs.length (xs.map byt) (by rfl) (hun'.out.below (hS'.out.alloc _).drew.below) (by simp[Value.oneCell',byt]) (by unfold maxLen;omega) (by omega) ?_);intro va w1 hSa hza;simp only[List.set_cons_zero,Nat.zero_add,List.nil_append]at hSa;replace hSa:=Lh hSa;clear hza)|((refine step_append_sep 0 (by rfl) _ _ 52 (by rfl) 5 i0 (.int .u8 0) 1 1 Tryz.underlying52 hi hz0 hz1 hz2 rfl (by decide) hSa.out va xs.length (xs.map byt) (by rfl) (by rfl) ⟨wr.heap.size,0,none⟩ 1 1 [.int .u8 167] (by rfl) (by rfl) (Rd.news (hSa.out.rd 1 rfl)) (by simp[Value.oneCell',byt]) (by decide) (by unfold maxLen;omega) (by omega) ?_);intro g cap w2 hSc0 hzc;have hSc:=Lh (Sep.drop 1 (Sep.sel [1,0] hSc0 (by decide) (by simp)));clear hSc0 hzc;obtain⟨g',cap',e,_,_,hcap,hcm⟩:=hSc.out.sl_form 0 rfl (by omega);cases e;unfold maxLen at hcm;have hcap1:(xs.length:Int)≤(cap:Int):=(by omega);have hcap2:(cap:Int)≤9223372036854775807:=(by omega))|((refine step_append_sep 1 (by rfl) _ _ 28 (by rfl) 52 i1 (.slice none 0 0) 1 24 Tryz.underlying28 hi1 hz10 hz11 hz12 rfl (by decide) (hSc.out.alloc (.cells #[.slice (some ⟨g,0,none⟩) xs.length cap] 52)) u3 i vs (by rfl) (by rfl) ⟨w2.heap.size,0,none⟩ 1 1 [.slice (some ⟨g,0,none⟩) xs.length cap] (by rfl) (by rfl) (cell_one_new _ _ _) (by simp[Value.oneCell',byt]) (by decide) (by unfold maxLen;omega) (by omega) ?_);intro g2 cap2 w3 hSd hzd;replace hSd:=Lh hSd;clear hzd))
 all_goals
  have hSe:Sep w w3 (.sl 52 1 (.slice (some ⟨g2,0,none⟩) (i+1) cap2) (i+1) (vs++[.slice (some ⟨g,0,none⟩) xs.length cap])::List.zipWith lentRow7 (vs++[.slice (some ⟨g,0,none⟩) xs.length cap]) (xss.take (i+1))):=by(have e:xss.take (i+1)=xss.take i++[xs]:=by rw[List.take_add_one,gE hlt,←hxs'.out];rfl);(have hl2:vs.length=(xss.take i).length:=by rw[List.length_take];omega);rw[e,List.zipWith_append hl2];exact hSd.out.perm ((List.Perm.swap _ _ _).trans (.cons _ (List.perm_append_singleton _ _).symm))
  have hSe':=Lh hSe
  clear hSe hSd hSc hSa hcn' hS'
  go_wp2_with fail
  go_roundg (xss.length-(i+1))
  case measure=>rw[hm.out];omega
  case rel=>exact⟨i+1,by omega,rfl,by go_num,_,by simp[hvl],hSe'.out⟩
end Go.Proofs.YtimkjnbihlgbiaaGreat
namespace Go.Proofs.YtimkjnbihlgbiaaGreat
open Go.RowKit
set_option linter.unusedVariables false
set_option linter.unusedSimpArgs false
def strB (bs:List UInt8):ByteArray:=strOfNums (bs.map fun b=>(b.toNat:Int))
theorem conv_bytes {w:World} {u:Value} {bs:List UInt8} (h:BytesAt w u bs):(convert 52 9 u).run Tryz.prog w= .ok (.string (strB bs)) w:=by
 obtain⟨hl,A,c,rfl,h1,h2,h3⟩:=h;cases A with
 |none=>
  have h0:bs.length=0:=by
   rcases Nat.eq_zero_or_pos bs.length with h0|h0
   ·exact h0
   obtain⟨ad,e,_⟩:=h3 h0;cases e
  have:bs=[]:=List.eq_nil_of_length_eq_zero h0;subst this;exact run_convert_bytes_nil (P:=Tryz.prog) w 52 5 Tryz.underlying52 Tryz.underlying5 0 c 9 Tryz.underlying9
 |some a=>(have hcell:∀j v,(bs.map byt)[j]? =some v→w.cell? (a.add j)=some v:=fun j v hj=>by have hlt:=(gF.1 hj).1;rw[List.length_map]at hlt;obtain⟨ad,e,_,hc⟩:=h3 (by omega);cases e;exact hc j v hj);have h4:=run_loadCells_list (P:=Tryz.prog) w a (bs.map byt) hcell;(have e:bs.map byt=(bs.map fun b=>(b.toNat:Int)).map (Value.int .u8):=by rw[List.map_map];rfl);rw[List.length_map,e]at h4;rw[run_convert_bytes_string w 52 9 5 _ bs.length c Tryz.underlying52 Tryz.underlying5 Tryz.underlying9,run_bytesToString w a bs.length c _ h4,foldl_push_bytes];simp[strB,strOfNums,ByteArray.empty,ByteArray.emptyWithCapacity];rfl
theorem cell_below {w W:World} {p:Addr} {u:Value} (hW:Below w.heap.size w W) (h:w.cell? p=some u):W.cell? p=some u:=(hW.cell (World.block_lt_of_cell? w _ h)).trans h
structure LentB (w:World) (g cap gl cl:Nat) (bss:List (List UInt8)):Prop where
 c1:bss.length+1≤cap
 c2:cap≤maxLen
 last:w.cell? ⟨g,bss.length,none⟩=some (.slice (some ⟨gl,0,none⟩) 1 cl)
 one:w.cell? ⟨gl,0,none⟩=some (.int .u8 113)
 row:∀i (hi:i<bss.length),∃gi ci,bss[i].length+1≤ci∧ci≤maxLen∧w.cell? ⟨g,i,none⟩=some (.slice (some ⟨gi,0,none⟩) bss[i].length ci)∧w.cell? ⟨gi,bss[i].length,none⟩=some (.int .u8 167)∧BytesAt w (.slice (some ⟨gi,0,none⟩) bss[i].length ci) bss[i]
theorem LentB.below {w W:World} {g cap gl cl:Nat} {bss:List (List UInt8)} (h:LentB w g cap gl cl bss) (hW:Below w.heap.size w W):LentB W g cap gl cl bss:=
 ⟨h.c1,h.c2,cell_below hW h.last,cell_below hW h.one,fun i hi=>by obtain⟨gi,ci,a,b,c,d,e⟩:=h.row i hi;exact⟨gi,ci,a,b,cell_below hW c,cell_below hW d,e.below hW⟩⟩
theorem lentB_of {w0 w:World} {v last:Value} {vs:List Value} {bss:List (List UInt8)} (hvl:vs.length=bss.length) (h:Sep w0 w (lentAll7 v vs last bss)):
  ∃g cap gl cl,v= .slice (some ⟨g,0,none⟩) bss.length cap∧LentB w g cap gl cl bss∧BRowsAt w v bss:=by
 have hrows:=lent_rows7 (R:=[]) hvl (by simpa using h);obtain⟨g,cap,e,_,_,h1,h2⟩:=h.sl_form 0 rfl (Nat.succ_pos _);obtain⟨gl,cl,e2,_,_,h3,h4⟩:=h.sl_form 1 rfl (by decide);subst e2;have h0:Sep w0 w (.sl 52 1 (.slice (some ⟨g,0,none⟩) (bss.length+1) cap) (bss.length+1) (vs++[.slice (some ⟨gl,0,none⟩) 1 cl]):: .sl 5 1 (.slice (some ⟨gl,0,none⟩) 1 cl) 1 [.int .u8 113]::List.zipWith lentRow7 vs bss):=by have:=h;unfold lentAll7 at this;rw[e]at this;exact this
 refine⟨g,cap,gl,cl,more_form e,⟨h1,h2,?_,?_,fun i hi=>?_⟩,hrows⟩
 ·rw[h0.cellAt 0 rfl bss.length (by omega),←hvl];simp
 ·exact h0.cellAt 1 rfl 0 (by decide)
 have hz:(List.zipWith lentRow7 vs bss)[i]? =some (lentRow7 (vs[i]'(by omega)) bss[i]):=by have:=zip_at (f:=lentRow7) hvl hi [];rw[List.append_nil]at this;exact this
 obtain⟨gi,ci,ei,_,_,h5,h6⟩:=h0.sl_form (i+2) hz (Nat.succ_pos _);have ei':=more_form ei;obtain⟨F,ho,_⟩:=h0.get (i+2) hz;have hby:=lentRow7_at ho;rw[ei']at hby;refine⟨gi,ci,h5,h6,?_,?_,hby⟩
 ·rw[h0.cellAt 0 rfl i (by omega),←ei',List.getElem?_append_left (by omega)];exact gE _
 unfold lentRow7 at hz;rw[ei]at hz;rw[h0.cellAt (i+2) hz bss[i].length (by omega)];simp
set_option maxRecDepth 100000 in
set_option maxHeartbeats 2000000 in
theorem stay7_any {bss:List (List UInt8)} {w:World} {nv:Value} {g cap gl cl:Nat} (hl:bss.length≤1024) (hr:∀b∈bss,b.length≤1048576) (hL:LentB w g cap gl cl bss) (hn:BRowsAt w nv bss):
  Calls Tryz.prog 14 #[.slice (some ⟨g,0,none⟩) bss.length cap,nv] w fun e w'=>e= .returned (.bool true)∧Below w.heap.size w w':=by
 obtain⟨A,c,rfl,_⟩:=BRowsAt.shape hn;have h2:=hL.c2;have h1:=hL.c1;unfold maxLen at h2;have b1:(bss.length:Int)≤1024:=by omega
 have b2:(bss.length:Int)+1≤(cap:Int):=by omega
 have b3:(cap:Int)≤9223372036854775807:=by omega
 have b0:((bss.length:Int) !=(bss.length:Int))=false:=by simp
 have k0:=hL.last;have k1:=hL.one;have hL':=Lh hL;have hn':=Lh hn;have hr':=Lh hr;have hb0:=Lh (Below.refl w.heap.size w);clear hL hn hr h1 h2;go_enter Tryz.func14,Tryz.ntmps14;go_wp2_with fail;clear k0 k1;go_loopw[6] (fun iv wr=>∃i:Nat,i≤bss.length∧iv= .int .i64 i∧Below w.heap.size w wr) (fun iv _=>bss.length-(intOf iv).toNat)
 case atStart=>exact⟨0,Nat.zero_le _,rfl,hb0.out⟩
 obtain⟨i,hi,rfl,hb⟩:=hrel;have q0:(0:Int)≤(i:Int):=by omega
 by_cases hlt:i<bss.length
 case neg=>(obtain rfl:i=bss.length:=by omega);have hb':=Lh hb;clear hb;go_wp2_with fail;go_ret;exact⟨rfl,hb'.out⟩
 have q1:(i:Int)<(bss.length:Int):=by omega
 have hbq:∀n,Below w.heap.size w (wr.drewN n):=fun n=>hb.trans ((((Sep.nil wr).drewN n).below).mono hb.size)
 obtain⟨gi,ci,j1,j2,_⟩:=hL'.out.row i hlt;obtain⟨ad,c',un,e,hun,hcn⟩:=BRowsAt.all hn'.out hlt;cases e;have hLq:=fun n=>(hL'.out.below (hbq n)).row i hlt
 obtain⟨gi,ci,j1,j2,j3,j4,j5⟩:=hL'.out.row i hlt;have hrl:=hr'.out bss[i] (List.getElem_mem hlt);obtain⟨Au,cu,rfl,_⟩:=BytesAt.shape hun;have a0:=hcn wr hb;have a1:=fun n=>hcn _ (hbq n)
 have m3:=fun n=>cell_below (hbq n) j3
 have m4:=fun n=>cell_below (hbq n) j4
 have m30:=cell_below hb j3;have m40:=cell_below hb j4;have v1:=fun n=>conv_bytes (j5.below (hbq n))
 have v2:=fun n=>conv_bytes (hun.below (hbq n))
 have v10:=conv_bytes (j5.below hb);have v20:=conv_bytes (hun.below hb);have hbq':=Lh hbq;generalize bss[i]=bs at*;generalize strB bs=S at*;generalize bs.length=n at*;unfold maxLen at j2;have c3:(n:Int)+1≤(ci:Int):=by omega
 have c4:(n:Int)≤1048576:=by omega
 have c5:(ci:Int)≤9223372036854775807:=by omega
 clear hLq hun hcn j5 j3 j4 hb hbq;go_wp2_with fail;go_quiet (fail);go_wp2_with fail;go_roundw
 case rel=>exact⟨i+1,by omega,by go_num,hbq'.out _⟩
 case measure=>simp[intOf];omega
end Go.Proofs.YtimkjnbihlgbiaaGreat
