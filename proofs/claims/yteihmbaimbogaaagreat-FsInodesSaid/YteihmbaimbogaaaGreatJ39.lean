/- Parts. -/
import Derived.Test.YteihmbaimbogaaaGreatJ37
import Derived.Test.YteihmbaimbogaaaGreatJ38
set_option linter.unusedVariables false
set_option linter.unusedSimpArgs false
set_option maxRecDepth 100000
set_option maxHeartbeats 20000000
namespace Go.Proofs.YteihmbaimbogaaaGreat
open Go.RowKit
theorem Rd.head {w:World} {sz g o n c k:Nat} {cs:List Value} (h:Rd w sz (.slice (some ⟨g,o,none⟩) n c) n cs) (hn:0<n) (hk:k<=n):Rd w sz (.slice (some ⟨g,o,none⟩) k c) k (cs.take (k*sz)):=by
 obtain⟨hl,A,c',e,h1,h2,h3⟩:=h;cases e;refine⟨?_,_,_,rfl,by omega,h2,fun hp=>?_⟩
 ·rw[tF,hl,zH (aiZ _ hk)]
 obtain⟨ad,e,hb,hc⟩:=h3 hn;cases e;refine⟨_,rfl,hb,fun j u hu=>?_⟩;rw[vI]at hu;split at hu
 ·exact hc j u hu
 cases hu
theorem Z25 {P:Prop} (h:P:=by
 have FH:=hr4.form;clear hr4 e9 e8 WG nJ;have xN:=Lh fC;clear fC;refine hK _ _ (fun _=>True.intro) ?_;clear hK K;try simp only[Act.put,gD]
 refine aW 9 (fun h=>absurd rfl h) ?_;refine aR fZ ?_ _;go_wp2_with fail;go_ret;obtain⟨A4,c4,e4⟩:=FH;subst e4;exact⟨A4,c4,rfl,xN.out⟩):P:=h
theorem FI {w:World} {g n c k:Nat} {ns:List TN} (hr:Rd w 3 (sV g n c) n (aV ns)) (hn:ns.length=n) (hk:k<n) (hn9:n<=1000) (hnc:n<=c):
  Calls Tryz.prog 113 #[sV g n c,iV k] w fun e w'=>∃A c',e= .returned (.slice A (n-1) c')/\Sep w w' [.sl 110 3 (.slice A (n-1) c') (n-1) (aV (ns.take k++ns.drop (k+1)))]:=by
 obtain⟨k0,gN,hk0,hk1,hk2⟩:=info_parts jQ;have r1:=hr.head (k:=k) aD aD;rw[CP ns k aD]at r1;have hS:=(Sep.nil w).drew.dX 110 3;have r1':=Lh r1;have hS':=Lh hS;have q0:(0:Int)<=(k:Int):=by omega
 have q1:(k:Int)<(n:Int):=by omega
 have q2:(k:Int)<=(c:Int):=by omega
 have q3:(k:Int)+1<=(n:Int):=by omega
 have q4:(n:Int)<=1000:=by omega
 have hwr:IntKind.i64.wrap ((k:Int)+1)=(k:Int)+1:=IntWalk.i64_in _ aD;have htn:((k:Int)+1).toNat=k+1:=by omega
 have q5:(0:Int)<=(k:Int)+1:=by omega
 have q6:k<=c:=by omega
 have q7:k+1<=n:=by omega
 have q8:(k:Int)<=(k:Int)+1:=by omega
 by_cases hck:c=k+1
 ·(have hnk:n=k+1:=by omega);subst hnk;subst hck;have r2:Rd w 3 (sV g 0 0) 0 []:=⟨rfl,_,_,rfl,jL _,iF _,fun h=>absurd h (YL _)⟩;have r2':=Lh r2;clear hr r1 r2 hS;go_enter Tryz.func113,Tryz.ntmps113;go_wp2_with fail;refine aJ (S:=fun w'=>True) 9 ?_;refine aA 0 True.intro ?_;refine aA 1 True.intro ?_;refine aA 2 True.intro ?_;refine aA 4 True.intro ?_;refine aA 5 True.intro ?_;refine aA 6 True.intro ?_;refine aA 7 True.intro ?_;(refine bG 3 fun K hK=>?_);refine cO 0 kC _ _ 29 kC 110 k0 _ 3 32 Tryz.underlying29 gN hk0 hk1 hk2 rfl aQ hS'.out (.slice none 0 0) 0 [] kC P7 (sV g k (k+1)) k (aV (ns.take k)) P7 (r1'.out.below hS'.out.below) (dW _) oH aD ?_;intro v3 w3 dJ hz3;(try simp only[yQ,BF,pG]at dJ);have nJ:=Lh dJ;clear hz3 dJ hS';refine hK _ _ (fun _=>True.intro) ?_;clear hK K;(try simp only[Act.put,gD]);(refine bG 8 fun K hK=>?_);refine cO 0 kC _ _ 29 kC 110 k0 _ 3 32 Tryz.underlying29 gN hk0 hk1 hk2 rfl aQ nJ.out v3 k (aV (ns.take k)) kC P7 (sV g 0 0) 0 [] P7 (r2'.out.below nJ.out.below) bM oH aD ?_;intro v4 w4 fC WG;(try simp only[yQ]at fC);(have e9:k+0=k+1-1:=by omega);(have e8:aV (ns.take k)++[]=aV (ns.take k++ns.drop (k+1)):=by first |(rw[jG];done)|(rw[jG,aa2 aD];rfl));rw[e9,e8]at fC;have hr4:Rd w4 3 v4 (k+1-1) (aV (ns.take k++ns.drop (k+1))):=fC.rd 0 rfl;exact Z25
 have r2:Rd w 3 (.slice (some ⟨g,(k+1)*3,none⟩) (n-(k+1)) (c-(k+1))) (n-(k+1)) (aV (ns.drop (k+1))):=by have h:=hr.tail (k:=k+1) aD aD;rw[MG ns (k+1) aD]at h;exact h
 have r2':=Lh r2;clear hr r1 r2 hS;go_enter Tryz.func113,Tryz.ntmps113;go_wp2_with fail;refine aJ (S:=fun w'=>True) 9 ?_;refine aA 0 True.intro ?_;refine aA 1 True.intro ?_;refine aA 2 True.intro ?_;refine aA 4 True.intro ?_;refine aA 5 True.intro ?_;refine aA 6 True.intro ?_;refine aA 7 True.intro ?_;refine bG 3 fun K hK=>?_
 refine cO 0 kC _ _ 29 kC 110 k0 _ 3 32 Tryz.underlying29 gN hk0 hk1 hk2 rfl aQ hS'.out (.slice none 0 0) 0 [] kC P7 (sV g k c) k (aV (ns.take k)) P7 (r1'.out.below hS'.out.below) (dW _) oH aD ?_;intro v3 w3 dJ hz3;try simp only[yQ,BF,pG]at dJ
 have nJ:=Lh dJ;clear hz3 dJ hS';refine hK _ _ (fun _=>True.intro) ?_;clear hK K;try simp only[Act.put,gD]
 refine bG 8 fun K hK=>?_
 refine cO 0 kC _ _ 29 kC 110 k0 _ 3 32 Tryz.underlying29 gN hk0 hk1 hk2 rfl aQ nJ.out v3 k (aV (ns.take k)) kC P7 (.slice (some ⟨g,(k+1)*3,none⟩) (n-(k+1)) (c-(k+1))) (n-(k+1)) (aV (ns.drop (k+1))) P7 (r2'.out.below nJ.out.below) (dW _) oH aD ?_;intro v4 w4 fC WG;try simp only[yQ]at fC
 have e9:k+(n-(k+1))=n-1:=by omega
 have e8:aV (ns.take k)++(aV (ns.drop (k+1)))=aV (ns.take k++ns.drop (k+1)):=by first |(rw[jG];done)|(rw[jG,aa2 aD];rfl)
 rw[e9,e8]at fC;have hr4:Rd w4 3 v4 (n-1) (aV (ns.take k++ns.drop (k+1))):=fC.rd 0 rfl;exact Z25
theorem lZ {w:World} {nv fv:Value} {ns:List TN} {fs:List TF} {vs:List Value} (h:bY w nv fv ns fs vs) (hm:gY ns fs) (hfr:∀n∈ns,n.file= -1\/(0<=n.file/\n.file<(fs.length:Int))):
  Calls Tryz.prog 114 #[nv,fv] w fun e w'=>∃A3 n3 c3 A4 n4 c4,e= .returned (.tuple #[.agg #[.slice A3 n3 c3,.slice A4 n4 c4],iV (if nT ns fs=0 then 0 else 31)])/\Sep w w' [.keep fun W=>nT ns fs=0->∃vs',bY W (.slice A3 n3 c3) (.slice A4 n4 c4) (tY ns) (tT ns fs) vs']:=by
 have hS0:=(Sep.nil w).bN 32 #[.slice none 0 0,.slice none 0 0];have hcn:=acU (h.below hS0.below) hm hfr;obtain⟨A1,pR,rfl,hm1⟩:=h.nodes.shape;obtain⟨A2,pO,rfl,hm2⟩:=h.files.shape;have fV:=Lh hS0;have hcn':=Lh hcn;clear hS0 hcn h hm hfr hm1 hm2;generalize hcd:nT ns fs=CD at hcn' ⊢;clear hcd;by_cases hz:CD=0
 ·subst hz;rw[if_pos rfl];go_enter Tryz.func114,Tryz.ntmps114;go_wp2_with(go_at_call 156;refine hcn'.out.mono ?_;rintro e w1 ⟨A3,n3,c3,A4,n4,c4,rfl,hS1⟩;(have hS2:=(fV.out.join hS1).bN 32 #[.slice A3 n3 c3,.slice A4 n4 c4]);(have s0:=hS2.bC 2 rfl 0);(have s1:=hS2.bC 2 rfl 1);(have sz0:=hS2.bF 2 rfl 0);(have sz1:=hS2.bF 2 rfl 1);(have s2:=hS2.bC 0 rfl 0);(have s3:=hS2.bC 0 rfl 1);simp only[gA,gB,gC]at s0 s1 s2 s3;replace hS2:=Lh hS2;clear hS1);have dJ:=(hS2.out.bS 2 rfl 0 (.slice A3 n3 c3)).bS 2 rfl 1 (.slice A4 n4 c4);have e0:=dJ.bC 2 rfl 0;have e1:=dJ.bC 2 rfl 1;refine bodyPost_ret (bR rfl rfl e0 e1) rfl ?_;exact⟨_,_,_,_,_,_,rfl,Sep.fst (X:=[_]) (Sep.drop 1 dJ)⟩
 rw[if_neg hz];have hzb:(CD !=0)=true:=by simpa using hz
 have hz':=Lh hz;clear hz;go_enter Tryz.func114,Tryz.ntmps114;go_wp2_with(go_at_call 156;refine hcn'.out.mono ?_;rintro e w1 ⟨A3,n3,c3,A4,n4,c4,rfl,hS1⟩;(have hS2:=(fV.out.join hS1).bN 32 #[.slice A3 n3 c3,.slice A4 n4 c4]);(have s0:=hS2.bC 2 rfl 0);(have s1:=hS2.bC 2 rfl 1);(have sz0:=hS2.bF 2 rfl 0);(have sz1:=hS2.bF 2 rfl 1);(have s2:=hS2.bC 0 rfl 0);(have s3:=hS2.bC 0 rfl 1);simp only[gA,gB,gC]at s0 s1 s2 s3;replace hS2:=Lh hS2;clear hS1);have dJ:=(hS2.out.bS 2 rfl 0 (.slice none 0 0)).bS 2 rfl 1 (.slice none 0 0);have e0:=dJ.bC 2 rfl 0;have e1:=dJ.bC 2 rfl 1;refine bodyPost_ret (bR rfl rfl e0 e1) rfl ?_;exact⟨none,0,0,none,0,0,rfl,Sep.keep (X:=[]) (Y:=[]) ((Sep.nil w).pure dJ.below) fun _ W _ h0=>absurd h0 hz'.out⟩
def fJ (op:Int) (p tz:List UInt8) (mode ref:Int) (cs:List Value):Int:=
 if op<1\/9<op then 34 else if op=9 then 0 else qN (xH op) (JQ op) op p tz mode ref cs
theorem Z2 {P:Prop} (h:P:=by
 go_wp2_with(first |(go_at_call 155;refine(hhm _).mono ?_;rintro e w4 ⟨rfl,hw4⟩;have O8:=hw4.symm;clear hw4;subst O8)|(go_at_call 110;refine(hht _).mono ?_;rintro e w4 ⟨rfl,hw4⟩;have O8:=hw4.symm;clear hw4;subst O8)|(go_at_call 93;refine(alA.out _).mono ?_;rintro e w1 ⟨rfl,hb1⟩;(have hS1:=hS'.out.pure hb1);obtain⟨a0,a1,a2,a3,a4⟩:=hcl'.out _ hS1;replace hS1:=Lh hS1;clear hb1 alA)|(go_at_call 93;refine(avX.out _).mono ?_;rintro e w2 ⟨rfl,hb2⟩;(have hS2:=hS1.out.pure hb2);obtain⟨b0,b1,b2,b3,b4⟩:=hcl'.out _ hS2;replace hS2:=Lh hS2;clear hb2));all_goals
  first
   |(have hbel:=Lh hS2.out.below)
   |(have hbel:=Lh hS'.out.below)
  clear y0 y1 y2 y3 y4 hhm hht
  try clear a0 a1 a2 a3 a4
  try clear b0 b1 b2 b3 b4
  try clear x2
  try clear hS2
  try clear hS1
  try clear alA
  clear hcl' hS' avX IC
  go_ret
  refine⟨?_,hbel.out⟩
  have IM:=vU.out
  clear vU hbel
  show Ending.returned (Value.int .i64 _)=_
  congr 2
  rw[<-IM]
  clear IM
  repeat' split
  all_goals first |rfl|(exfalso;omega)|(exfalso;simp_all;done)|(by_cases hq9:8192<n<;>first |(rw[if_pos hq9];done)|(rw[if_neg hq9];done)|(exfalso;omega))|(exfalso;simp_all;omega)):P:=h
theorem Z65 {P:Prop} (h:P:=by
 go_wp2_with(first |(go_at_call 155;refine(hhm _).mono ?_;rintro e w4 ⟨rfl,hw4⟩;have O8:=hw4.symm;clear hw4;subst O8)|(go_at_call 110;refine(hht _).mono ?_;rintro e w4 ⟨rfl,hw4⟩;have O8:=hw4.symm;clear hw4;subst O8)|(go_at_call 93;refine(alA.out _).mono ?_;rintro e w1 ⟨rfl,hb1⟩;(have hS1:=hS'.out.pure hb1);obtain⟨a0,a1,a2,a3,a4⟩:=hcl'.out _ hS1;replace hS1:=Lh hS1;clear hb1 alA)|(go_at_call 93;refine(avX.out _).mono ?_;rintro e w2 ⟨rfl,hb2⟩;(have hS2:=hS1.out.pure hb2);obtain⟨b0,b1,b2,b3,b4⟩:=hcl'.out _ hS2;(have x2:=hx'.out _ hS2.below);replace hS2:=Lh hS2;clear hb2));all_goals
  first
   |(have hbel:=Lh hS2.out.below)
   |(have hbel:=Lh hS'.out.below)
  clear y0 y1 y2 y3 y4 hhm hht
  try clear a0 a1 a2 a3 a4
  try clear b0 b1 b2 b3 b4
  try clear x2
  try clear hS2
  try clear hS1
  try clear alA
  clear hcl' hS' avX IC
  go_ret
  refine⟨?_,hbel.out⟩
  have IM:=vU.out
  clear vU hbel
  show Ending.returned (Value.int .i64 _)=_
  congr 2
  rw[<-IM]
  clear IM
  repeat' split
  all_goals first |rfl|(exfalso;omega)|(exfalso;simp_all;done)|(by_cases hq9:8192<n<;>first |(rw[if_pos hq9];done)|(rw[if_neg hq9];done)|(exfalso;omega))|(exfalso;simp_all;omega)):P:=h
theorem Z88 {P:Prop} (h:P:=by
 clear hkey;rcases te with te|te
 ·subst te;exact Z2
 have t0:¬tz=[]:=fun h=>by rw[h]at te;cases te
 exact Z2):P:=h
theorem jV (op:Int) {p tz:List UInt8} (VK:p.length<=9223372036854775807) (VL:tz.length<=9223372036854775807) (mode ref:Int) {sv:Value} {cs:List Value} {w:World} (hsv:kU w sv cs):
  Calls Tryz.prog 109 #[mY op p tz mode ref,sv] w fun e w'=>e= .returned (.int .i64 (fJ op p tz mode ref cs))/\Below w.heap.size w w':=by
 have hS:=(Sep.nil w).bN 38 (XZ op p tz mode ref);have hvp:=fun W=>vS ⟨p.toArray⟩ W (by rw[kE];omega)
 have hvt:=fun W=>vS ⟨tz.toArray⟩ W (by rw[kE];omega)
 rw[vV]at hvp hvt;have hcl:=fun(W:World) (hS:Sep w W [.box w.heap.size 38 (XZ op p tz mode ref)])=>And.intro (hS.bC 0 rfl 0) (And.intro (hS.bC 0 rfl 1) (And.intro (hS.bC 0 rfl 2) (And.intro (hS.bC 0 rfl 3) (hS.bC 0 rfl 4))))
 simp only[XZ,aC,gA,gB,gC]at hcl;have hS':=Lh hS;have IC:=Lh hsv;obtain⟨As,cp,rfl,hcp⟩:=hsv.1.shape;obtain⟨FD,AZ⟩:∃x,fJ op p tz mode ref cs=x:=⟨_,rfl⟩;rw[AZ];have hhm:=ag0 op;have hht:=iT op;unfold fJ at AZ;generalize xH op=rm at hhm AZ;generalize JQ op=rt at hht AZ;generalize aJ4:aU p=vp at hvp;generalize aJ5:aU tz=vt at hvt;unfold qN at AZ;rw[aJ4,aJ5]at AZ;have vU:=Lh AZ;have alA:=Lh hvp;have avX:=Lh hvt;have hcl':=Lh hcl;obtain⟨y0,y1,y2,y3,y4⟩:=hcl _ hS;unfold mY aC at*;clear hS hsv hvp hvt hcl AZ aJ4 aJ5;go_enter Tryz.func109,Tryz.ntmps109;by_cases hp0:p=[]
 ·subst hp0;go_wp2_with(first |(go_at_call 155;refine(hhm _).mono ?_;rintro e w4 ⟨rfl,hw4⟩;have O8:=hw4.symm;clear hw4;subst O8)|(go_at_call 110;refine(hht _).mono ?_;rintro e w4 ⟨rfl,hw4⟩;have O8:=hw4.symm;clear hw4;subst O8));all_goals
   have hbel:=Lh hS'.out.below
   clear y0 y1 y2 y3 y4 hhm hht hcl' hS' alA avX IC
   go_ret
   refine⟨?_,hbel.out⟩
   have IM:=vU.out
   clear vU hbel
   show Ending.returned (Value.int .i64 _)=_
   congr 2
   rw[<-IM]
   clear IM
   repeat' split
   all_goals first |rfl|(exfalso;omega)|(exfalso;simp_all;done)|(by_cases hq9:8192<n<;>first |(rw[if_pos hq9];done)|(rw[if_neg hq9];done)|(exfalso;omega))|(exfalso;simp_all;omega)
 have pe:p.isEmpty=false:=by cases p with|nil=>exact absurd rfl hp0|cons a l=>rfl
 have te:tz=[]\/tz.isEmpty=false:=by cases tz with|nil=>exact Or.inl rfl|cons a l=>exact Or.inr rfl
 by_cases hkey:op=6/\0<=ref/\ref<(cs.length:Int)
 ·obtain⟨h6,hr0,hr1⟩:=hkey;obtain⟨k,hk⟩:∃k:Nat,ref=(k:Int):=⟨ref.toNat,by omega⟩;subst hk;subst h6;obtain⟨A,n,c,hcs,hn⟩:=IC.out.at_ (k:=k) aD;obtain⟨g,o,c9,e,_,_,_,hcell⟩:=Rd.place IC.out.1 aD aQ;cases e;(have hcs':cs[k*1]? =some (.slice A n c):=by rw[KC];exact hcs);(have hx:=fun(W:World) (hW:Below w.heap.size w W)=>(hcell _ hW (k*1) aD).trans hcs');rw[KC]at hx;have hx':=Lh hx;(have hgd:cs.getD (k:Int).toNat (.slice none 0 0)= .slice A n c:=by rw[nA,gH,hcs];rfl);have azK:=vU.out;rw[hgd]at azK;have hdl:IX (.slice A n c)=n:=rfl;rw[hdl]at azK;have vU:=Lh azK;clear azK hgd hx hcell hcs;rcases te with te|te
  ·subst te;exact Z65
  (have t0:¬tz=[]:=fun h=>by rw[h]at te;cases te);exact Z65
 have hnk:(¬op=6)\/(op=6/\ref<0)\/(op=6/\0<=ref/\(cs.length:Int)<=ref):=by omega
 rcases hnk with h6|⟨h6,hr0⟩|⟨h6,hr0,hr1⟩
 ·(have b6:(op==6)=false:=by simpa using h6);exact Z88
 ·subst h6;exact Z88
 subst h6;have hr2:¬ref<(cs.length:Int):=by omega
 exact Z88
def VM (w:World) (nv fv:Value) (op:Int) (p tz:List UInt8) (mode ref:Int):List bK:=[.box (w.heap.size+1+1) 32 #[.slice none 0 0,.slice none 0 0],.box (w.heap.size+1) 38 (XZ op p tz mode ref),.box w.heap.size 32 #[nv,fv]]
theorem qB (w:World) (nv fv:Value) (op:Int) (p tz:List UInt8) (mode ref:Int):Sep w (((w.alloc (.cells #[nv,fv] 32)).alloc (.cells (XZ op p tz mode ref) 38)).alloc (.cells #[.slice none 0 0,.slice none 0 0] 32)) (VM w nv fv op p tz mode ref):=by have h:=(((Sep.nil w).bN 32 #[nv,fv]).bN 38 (XZ op p tz mode ref)).bN 32 #[.slice none 0 0,.slice none 0 0];simp only[World.size_alloc]at h;exact h
structure azL (w W:World) (nv fv:Value) (op:Int) (p tz:List UInt8) (mode ref:Int):Prop where
 t0:W.cell? ⟨w.heap.size,0,none⟩=some nv
 t1:W.cell? ⟨w.heap.size,1,none⟩=some fv
 i0:W.cell? ⟨w.heap.size+1,0,none⟩=some (iV op)
 i1:W.cell? ⟨w.heap.size+1,1,none⟩=some (.string ⟨p.toArray⟩)
 i2:W.cell? ⟨w.heap.size+1,2,none⟩=some (.string ⟨tz.toArray⟩)
 i3:W.cell? ⟨w.heap.size+1,3,none⟩=some (iV mode)
 i4:W.cell? ⟨w.heap.size+1,4,none⟩=some (iV ref)
 r0:W.cell? ⟨w.heap.size+1+1,0,none⟩=some (.slice none 0 0)
 r1:W.cell? ⟨w.heap.size+1+1,1,none⟩=some (.slice none 0 0)
 f0:W.frozen? ⟨w.heap.size+1+1,0,none⟩=false
 f1:W.frozen? ⟨w.heap.size+1+1,1,none⟩=false
theorem aP {w W:World} {nv fv:Value} {op:Int} {p tz:List UInt8} {mode ref:Int} (P:List bK) (h:Sep w W (P++VM w nv fv op p tz mode ref)):azL w W nv fv op p tz mode ref:=by
 have g:∀k,(P++VM w nv fv op p tz mode ref)[P.length+k]? =(VM w nv fv op p tz mode ref)[k]? :=fun k=>by rw[D6 aD,PN]
 have g0:=(g 0).trans rfl;have g1:=(g 1).trans rfl;have g2:=(g 2).trans rfl;exact⟨h.bC _ g2 0,h.bC _ g2 1,h.bC _ g1 0,h.bC _ g1 1,h.bC _ g1 2,h.bC _ g1 3,h.bC _ g1 4,h.bC _ g0 0,h.bC _ g0 1,h.bF _ g0 0,h.bF _ g0 1⟩
theorem kS {w W:World} {nv fv:Value} {op:Int} {p tz:List UInt8} {mode ref:Int} (P:List bK) (x y:Value) (h:Sep w W (P++VM w nv fv op p tz mode ref)):∃Q,Sep w ((W.setCell ⟨w.heap.size+1+1,0,none⟩ x).setCell ⟨w.heap.size+1+1,1,none⟩ y) (P++Q)/\((W.setCell ⟨w.heap.size+1+1,0,none⟩ x).setCell ⟨w.heap.size+1+1,1,none⟩ y).cell? ⟨w.heap.size+1+1,0,none⟩=some x/\((W.setCell ⟨w.heap.size+1+1,0,none⟩ x).setCell ⟨w.heap.size+1+1,1,none⟩ y).cell? ⟨w.heap.size+1+1,1,none⟩=some y:=by
 have g0:(P++VM w nv fv op p tz mode ref)[P.length]? =some (.box (w.heap.size+1+1) 32 #[.slice none 0 0,.slice none 0 0]):=by rw[D6 (jL _),oO];rfl
 have h1:=h.bS _ g0 0 x;rw[QT _ _ (jL _),oO]at h1;have g1:(P++(VM w nv fv op p tz mode ref).set 0 (.box (w.heap.size+1+1) 32 (#[.slice none 0 0,.slice none 0 0].setIfInBounds 0 x)))[P.length]? =some (.box (w.heap.size+1+1) 32 (#[.slice none 0 0,.slice none 0 0].setIfInBounds 0 x)):=by rw[D6 (jL _),oO];rfl
 have h2:=h1.bS _ g1 1 y;have h3:=h2;rw[QT _ _ (jL _),oO]at h3;have g2:(P++(((VM w nv fv op p tz mode ref).set 0 (.box (w.heap.size+1+1) 32 (#[.slice none 0 0,.slice none 0 0].setIfInBounds 0 x))).set 0 (.box (w.heap.size+1+1) 32 ((#[.slice none 0 0,.slice none 0 0].setIfInBounds 0 x).setIfInBounds 1 y))))[P.length]? =some (.box (w.heap.size+1+1) 32 ((#[.slice none 0 0,.slice none 0 0].setIfInBounds 0 x).setIfInBounds 1 y)):=by rw[D6 (jL _),oO];rfl
 exact⟨_,h3,h3.bC _ g2 0,h3.bC _ g2 1⟩
theorem gQ {w:World} {nv fv:Value} {ns:List TN} {fs:List TF} {vs:List Value} (h:bY w nv fv ns fs vs):∀u∈dM fs vs,u.oneCell'=true:=by
 intro u hu;unfold dM at hu;rw[List.mem_flatMap]at hu;obtain⟨x,hx,h1⟩:=hu;obtain⟨k,hk⟩:=List.mem_iff_getElem?.1 hx;rw[arZ]at hk;obtain⟨A,c,e,_⟩:=(h.data k x.2 x.1 hk.2 hk.1).shape;simp only[tfC,iX,MR,or_false]at h1;rcases h1 with rfl|rfl
 ·rfl
 rw[e];rfl
def dP (ns:List TN) (p:List UInt8):Nat:=(vG ns p).toNat
def JW (f e:Int) (N:List TN) (F:List TF):Int:=if f=0 then(if e=0 then(if nT N F=0 then 0 else 31)else e)else f
theorem JX {ns:List TN} {p:List UInt8} (h:gZ ns p=0):∃(k:Nat) (m:TN),vG ns p=(k:Int)/\ns[k]? =some m/\m.path=p/\aZ ns p=m/\0<=m.file:=by
 unfold gZ at h;by_cases hp:bD ns p=0
 ·rw[if_pos hp]at h;unfold bD at hp;by_cases hl:bZ ns p p.length=0
  ·rw[if_pos hl]at hp;rcases mE ns p with⟨h1,h2⟩|⟨k,m,h1,h8,h2,h7⟩
   ·unfold uZ at hp;rw[h1]at hp;cases hp
   (have hn:AJ ns p=m:=by unfold AJ aZ;rw[if_pos hl,h1];rfl);rw[hn]at h;refine⟨k,m,h2,h8,h7,by unfold aZ;rw[h1];rfl,?_⟩;(refine Decidable.byContradiction fun hno=>?_);rw[if_pos aD]at h;cases h
  rw[if_neg hl]at hp;exact absurd hp hl
 rw[if_neg hp]at h;exact absurd h hp
theorem P5 {fs:List TF} {vs:List Value} {f:Nat} {ff:TF} (hl:vs.length=fs.length) (h:fs[f]? =some ff) (x:Int):(dM fs vs).set (f*2) (.int .i64 x)=dM (fs.set f ⟨x,ff.bs⟩) vs:=by
 apply DN;intro j;have hf:=(gF.1 h).1;have hlen:(fs.set f ⟨x,ff.bs⟩).length=fs.length:=uR;by_cases hj:j<fs.length*2
 ·obtain⟨q,r,hr,hq⟩:∃q r,r<2/\j=q*2+r:=⟨j/2,j%2,Q7 _ aD,by omega⟩;(have hql:q<fs.length:=by omega);have hv:vs[q]? =some vs[q]:=gE aD;by_cases hqf:q=f
  ·subst hqf;have e2:(fs.set q ⟨x,ff.bs⟩)[q]? =some ⟨x,ff.bs⟩:=MO hql;rw[hq,jP e2 hv r hr,amB];by_cases hr0:r=0
   ·subst hr0;rw[if_pos aD,if_pos (by rw[EX hl];omega)];rfl
   (have hr1:r=1:=by omega);subst hr1;rw[if_neg aD,jP h hv 1 aD];rfl
  have e1:fs[q]? =some fs[q]:=gE hql;(have e2:(fs.set f ⟨x,ff.bs⟩)[q]? =some fs[q]:=by rw[adV (fun e=>hqf e.symm)];exact e1);rw[hq,jP e2 hv r hr,adV aD,jP e1 hv r hr]
 rw[D7 (by rw[uR,EX hl];omega),D7 (by rw[EX (by rw[hl,hlen]),hlen];omega)]
theorem PG {xs:List TN} {i:Nat} {n:TN} (h:xs[i]? =some n) (r:Nat) (u:Value) (n':TN) (hr:r<3) (hu:(KA n).set r u=KA n'):(aV xs).set (i*3+r) u=aV (xs.set i n'):=by
 have hi:=(gF.1 h).1;have e1:xs=xs.take i++n::xs.drop (i+1):=(oI h).1;have e2:xs.set i n'=xs.take i++n'::xs.drop (i+1):=(oI h).2 _;have hl:(aV (xs.take i)).length=i*3:=by rw[yL,tF,zH aD]
 rw[e2]
 conv=>lhs;rw[e1]
 rw[jG,jG,QT _ _ aD,hl,show i*3+r-i*3=r by omega];congr 1;have hc:∀a:TN,aV (a::xs.drop (i+1))=KA a++aV (xs.drop (i+1)):=fun a=>rfl
 rw[hc,hc,List.set_append_left _ _ (by show r<3;exact hr),hu]
theorem nZ {ns:List TN} {fs:List TF} (ho:fT ns fs):(if l9 ns fs=true then(31:Int)else if mX ns fs=true then 0 else 30)=0:=(JS ns fs).trans (agW ho)
theorem Z1 {P:Prop} (h:P:=by
 have hfb:(FD !=0)=true:=by simpa using hf
 have hde:Hid (DE=FD):=by have h:=acV.out;unfold JW at h;rw[if_neg hf]at h;exact h.symm
 have hf':=Lh hf;clear hf;go_enter Tryz.func54,Tryz.ntmps54;go_wp2_with(first |(go_at_call 108;refine(AQ.out _ fV.out.below).mono ?_;rintro e w1 ⟨rfl,hb1⟩;(have hS1:=fV.out.pure hb1);obtain⟨WL,WM,WN,WO,WQ,WR,WS,WT,WU,WV,WW⟩:=aP [] hS1;replace hS1:=Lh hS1;clear hb1)|(go_at_call 109;refine(nK.out _ hS1.out.below).mono ?_;rintro e w2 ⟨rfl,hb2⟩;(have hS2:=hS1.out.pure hb2);obtain⟨bt0,bt1,bi0,bi1,bi2,bi3,bi4,br0,br1,bf0,bf1⟩:=aP [] hS2;replace hS2:=Lh hS2;clear hb2));obtain⟨Q,hQ,e0,e1⟩:=kS [] (.slice none 0 0) (.slice none 0 0) hS2.out;refine bodyPost_ret (bR rfl rfl e0 e1) rfl ?_;exact⟨none,0,0,none,0,0,by rw[hde.out];rfl,Sep.keep (X:=[]) (Y:=[]) ((Sep.nil w).pure hQ.below) fun _ W _ h0=>absurd h0 (by rw[hde.out];exact hf'.out)⟩):P:=h
theorem Z63 {P:Prop} (h:P:=by
 have hab:(AE !=0)=true:=by simpa using hae
 have mU:Hid (DE=AE):=by have h:=hde.out;rw[if_neg hae]at h;exact h
 have alB:=Lh hae;clear hae hde;go_wp2_with(first |(go_at_call 110;refine(iT _ _).mono ?_;rintro e wx ⟨rfl,hwx⟩;have GQ:=hwx.symm;clear hwx;subst GQ)|(go_at_call 111;refine(JA.out _ fC.out.below).mono ?_;rintro e w5 ⟨rfl,hb5⟩;(have hS5:=fC.out.pure hb5);obtain⟨dt0,dt1,di0,di1,di2,di3,di4,dr0,dr1,df0,df1⟩:=aP [_,_] hS5;replace hS5:=Lh hS5;clear hb5)|(go_at_call 112;refine(FJ.out _ hS5.out.below).mono ?_;rintro e w6 ⟨rfl,hb6⟩;(have jS:=hS5.out.pure hb6);obtain⟨kt0,kt1,ki0,ki1,ki2,ki3,ki4,kr0,kr1,kf0,kf1⟩:=aP [_,_] jS;replace jS:=Lh jS;clear hb6));obtain⟨Q,hQ,e0,e1⟩:=kS [_,_] (.slice none 0 0) (.slice none 0 0) jS.out;refine bodyPost_ret (bR rfl rfl e0 e1) rfl ?_;exact⟨none,0,0,none,0,0,by rw[mU.out];rfl,Sep.keep (X:=[]) (Y:=[]) ((Sep.nil w).pure hQ.below) fun _ W _ h0=>absurd h0 (by rw[mU.out];exact alB.out)⟩):P:=h
theorem Z64 {P:Prop} (h:P:=by
 have mU:Hid (DE=21):=by have h:=hde.out;(have hpe:bD ns p=21:=by unfold bD uZ;rw[if_pos hle,hf1];rfl);rw[hpe]at h;(have e21:¬((21:Int)=0):=by decide);simp only[e21,if_false]at h;exact h
 rw[hf2]at hlk;have xP:=Lh hlk;clear hle hde hlk hf1 hf2;go_wp2_with(first |(go_at_call 110;refine(iT _ _).mono ?_;rintro e wx ⟨rfl,hwx⟩;have GQ:=hwx.symm;clear hwx;subst GQ)|(go_at_call 94;refine(xP.out _ fC.out.below).mono ?_;rintro e w5 ⟨rfl,hb5⟩;(have hS5:=fC.out.pure hb5);obtain⟨dt0,dt1,di0,di1,di2,di3,di4,dr0,dr1,df0,df1⟩:=aP [_,_] hS5;replace hS5:=Lh hS5;clear hb5));obtain⟨Q,hQ,e0,e1⟩:=kS [_,_] (.slice none 0 0) (.slice none 0 0) hS5.out;refine bodyPost_ret (bR rfl rfl e0 e1) rfl ?_;exact⟨none,0,0,none,0,0,by rw[mU.out];rfl,Sep.keep (X:=[]) (Y:=[]) ((Sep.nil w).pure hQ.below) fun _ W _ h0=>absurd h0 (by rw[mU.out];decide)⟩):P:=h
theorem Z66 {P:Prop} (h:P:=by
 have hab:(AE !=0)=true:=by simpa using hae
 have mU:Hid (DE=AE):=by have h:=hde.out;rw[if_neg hae]at h;exact h
 have alB:=Lh hae;clear hae hde;go_wp2_with(first |(go_at_call 110;refine(iT _ _).mono ?_;rintro e wx ⟨rfl,hwx⟩;have GQ:=hwx.symm;clear hwx;subst GQ)|(go_at_call 112;refine(FJ.out _ fC.out.below).mono ?_;rintro e w5 ⟨rfl,hb5⟩;(have hS5:=fC.out.pure hb5);obtain⟨dt0,dt1,di0,di1,di2,di3,di4,dr0,dr1,df0,df1⟩:=aP [_,_] hS5;replace hS5:=Lh hS5;clear hb5));obtain⟨Q,hQ,e0,e1⟩:=kS [_,_] (.slice none 0 0) (.slice none 0 0) hS5.out;refine bodyPost_ret (bR rfl rfl e0 e1) rfl ?_;exact⟨none,0,0,none,0,0,by rw[mU.out];rfl,Sep.keep (X:=[]) (Y:=[]) ((Sep.nil w).pure hQ.below) fun _ W _ h0=>absurd h0 (by rw[mU.out];exact alB.out)⟩):P:=h
theorem Z81 {P:Prop} (h:P:=by
 have mU:Hid (DE=gZ ns p):=by have h:=hde.out;(have hbe:j6 ns p tz=gZ ns p:=by unfold j6;rw[if_neg hfe]);rw[hbe,if_neg hfe]at h;exact h
 rw[if_neg hfe]at hfl;generalize gZ ns p=LE at hfl hfe mU;have hab:(LE !=0)=true:=by simpa using hfe
 have aQS:(LE==0)=false:=by simpa using hfe
 have alB:=Lh hfe;have JA:=Lh hfl;clear hfe hde hfl vB;go_wp2_with(first |(go_at_call 110;refine(iT _ _).mono ?_;rintro e wx ⟨rfl,hwx⟩;have GQ:=hwx.symm;clear hwx;subst GQ)|(go_at_call 111;refine(JA.out _ fC.out.below).mono ?_;rintro e w5 ⟨rfl,hb5⟩;(have hS5:=fC.out.pure hb5);obtain⟨dt0,dt1,di0,di1,di2,di3,di4,dr0,dr1,df0,df1⟩:=aP [_,_] hS5;replace hS5:=Lh hS5;clear hb5));obtain⟨Q,hQ,e0,e1⟩:=kS [_,_] (.slice none 0 0) (.slice none 0 0) hS5.out;refine bodyPost_ret (bR rfl rfl e0 e1) rfl ?_;exact⟨none,0,0,none,0,0,by rw[mU.out];rfl,Sep.keep (X:=[]) (Y:=[]) ((Sep.nil w).pure hQ.below) fun _ W _ h0=>absurd h0 (by rw[mU.out];exact alB.out)⟩):P:=h
theorem Z82 {P:Prop} (h:P:=by
 rw[if_neg hle]at hlk;generalize bZ ns p p.length=LE at hlk hle mU;have hab:(LE !=0)=true:=by simpa using hle
 have aQS:(LE==0)=false:=by simpa using hle
 have alB:=Lh hle;have xP:=Lh hlk;clear hle hde hlk;go_wp2_with(first |(go_at_call 110;refine(iT _ _).mono ?_;rintro e wx ⟨rfl,hwx⟩;have GQ:=hwx.symm;clear hwx;subst GQ)|(go_at_call 94;refine(xP.out _ fC.out.below).mono ?_;rintro e w5 ⟨rfl,hb5⟩;(have hS5:=fC.out.pure hb5);obtain⟨dt0,dt1,di0,di1,di2,di3,di4,dr0,dr1,df0,df1⟩:=aP [_,_] hS5;replace hS5:=Lh hS5;clear hb5));obtain⟨Q,hQ,e0,e1⟩:=kS [_,_] (.slice none 0 0) (.slice none 0 0) hS5.out;refine bodyPost_ret (bR rfl rfl e0 e1) rfl ?_;exact⟨none,0,0,none,0,0,by rw[mU.out];rfl,Sep.keep (X:=[]) (Y:=[]) ((Sep.nil w).pure hQ.below) fun _ W _ h0=>absurd h0 (by rw[mU.out];exact alB.out)⟩):P:=h
theorem Z94 {P:Prop} (h:P:=by
 rw[mU.out,<-D5.out]at h0;refine Decidable.byContradiction fun hno=>?_
 rw[if_neg hno]at h0;cases h0):P:=h
theorem Z98 {P:Prop} (h:P:=by clear hde hd;go_wp2_with(first |(go_at_call 110;refine(iT _ _).mono ?_;rintro e wx ⟨rfl,hwx⟩;have GQ:=hwx.symm;clear hwx;subst GQ)|(go_at_call 94;refine(xP.out _ fC.out.below).mono ?_;rintro e w5 ⟨rfl,hb5⟩;(have hS5:=fC.out.pure hb5);obtain⟨dt0,dt1,di0,di1,di2,di3,di4,dr0,dr1,df0,df1⟩:=aP [_,_] hS5;(have dx:=hx'.out _ hS5.below);replace hS5:=Lh hS5;clear hb5));obtain⟨Q,hQ,e0,e1⟩:=kS [_,_] (.slice none 0 0) (.slice none 0 0) hS5.out;refine bodyPost_ret (bR rfl rfl e0 e1) rfl ?_;exact⟨none,0,0,none,0,0,by rw[mU.out];rfl,Sep.keep (X:=[]) (Y:=[]) ((Sep.nil w).pure hQ.below) fun _ W _ h0=>absurd h0 (by rw[mU.out];decide)⟩):P:=h
theorem Z99 {P:Prop} (h:P:=by refine aR fZ ?_ _;clear hE9;go_wp2_with(go_at_call 114;refine pQ.out.mono ?_;rintro e w10 ⟨A8,n8,c8,A9,n9,c10,rfl,AR⟩;(have hSm:=nM.out.join AR);obtain⟨mt0,mt1,mi0,mi1,mi2,mi3,mi4,mr0,mr1,mf0,mf1⟩:=aP [_,_,_] hSm;replace hSm:=Lh hSm;clear AR);obtain⟨Q,hQ,e0,e1⟩:=kS [_,_,_] (.slice A8 n8 c8) (.slice A9 n9 c10) hSm.out;refine bodyPost_ret (bR rfl rfl e0 e1) rfl ?_;exact⟨A8,n8,c8,A9,n9,c10,by rw[mU.out];rfl,Sep.keep (X:=[_]) (Y:=[]) (Sep.fst (X:=[_]) hQ) fun _ W hW h0=>by rw[X6.out];exact hW.kept 0 rfl (by exact Z94)⟩):P:=h
theorem ahS {P:Prop} (h:P:=by have h:=acV.out;unfold JW at h;rw[if_pos rfl]at h;exact h.symm):P:=h
theorem aJ6 {P:Prop} (h:P:=by obtain⟨Q,hQ,e0,e1⟩:=kS [_,_,_,_] (.slice A8 n8 c8) (.slice A9 n9 c9) nM.out;refine bodyPost_ret (bR rfl rfl e0 e1) rfl ?_;exact⟨A8,n8,c8,A9,n9,c9,by rw[mU.out];rfl,Sep.keep (X:=[_]) (Y:=[]) (Sep.fst (X:=[_]) hQ) fun _ W hW h0=>by rw[hpi.out];exact hW.kept 0 rfl (by exact Z94)⟩):P:=h
theorem azM {P:Prop} (h:P:=by rw[kN,xL,acM];exact h9):P:=h
theorem aJ7 {P:Prop} (h:P:=by
 have hsub:(ns.take k++ns.drop (k+1)).Sublist ns:=by
  conv=>rhs;rw[<-DL k ns]
  exact(Q0 _).append (List.drop_sublist_drop_left ns (Nat.le_succ k))
 exact⟨PS hsub.length_le hm'.out.few,hm'.out.oQ,fun n hn=>hm'.out.short n (hsub.subset hn),hm'.out.size⟩):P:=h
theorem aJ8 {P:Prop} (h:P:=by rw[G8 (by rw[h'.out.len];exact hk)]at hu;rw[G8 hk]at hf;exact(h'.out.data k u f hu hf).below nM.below):P:=h
theorem aJ9 {P:Prop} (h:P:=by
 have mU:Hid (DE=bZ ns p p.length):=by have h:=hde.out;(have hpe:bD ns p=bZ ns p p.length:=by unfold bD;rw[if_neg hle]);rw[hpe,if_neg hle]at h;rw[if_neg hle]at h;exact h
 exact Z82):P:=h
theorem aKA {P:Prop} (h:P:=by
 subst e;show((fs.length:Nat):Int)= -1\/(0<=((fs.length:Nat):Int)/\((fs.length:Nat):Int)<((fs.length+1:Nat):Int))
 omega):P:=h
theorem aKB {P:Prop} (h:P:=by
 have hn2:n∈ns:=by
  rcases gX.1 hn with h|h
  ·exact MP h
  exact List.mem_of_mem_drop h
 have:=ho'.out.mem hn2;omega):P:=h
end Go.Proofs.YteihmbaimbogaaaGreat
