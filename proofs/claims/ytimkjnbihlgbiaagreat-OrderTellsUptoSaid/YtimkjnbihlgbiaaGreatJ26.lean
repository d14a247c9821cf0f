/- Both, Refs, Reach, RefParts, Members, RefRound, LooseE, LongPlain, RoundMore, OrderBad, laid together. -/
import Derived.Test.YtimkjnbihlgbiaaGreatJ25
namespace Go.Proofs.YtimkjnbihlgbiaaGreat
open Go.RowKit
set_option linter.unusedVariables false
noncomputable def roundRows (xss:List (List Int)):List (List Int):=if refused xss=0 then roundTo xss xss.length else []
theorem roundRows_bad {xss:List (List Int)} (hx:refused xss≠0):roundRows xss=[]:=by unfold roundRows;rw[if_neg hx]
theorem roundRows_ok {xss:List (List Int)} (hx:refused xss=0):roundRows xss=roundTo xss xss.length:=by unfold roundRows;rw[if_pos hx]
theorem round_any {xss:List (List Int)} {w:World} {nv:Value} (hn:RowsAt w nv xss):
  Calls Tryz.prog 19 #[nv] w fun e w'=>∃v,e= .returned (.tuple #[v,.int .i64 (refused xss)])∧Sep w w' [rowsR v (roundRows xss)]:=by
 by_cases hx:refused xss=0
 ·refine(round_told hx hn).mono ?_;rintro e w' ⟨v,rfl,hS⟩;rw[roundRows_ok hx];exact⟨v,by rw[hx],hS⟩
 refine(round_refused hx hn).mono ?_;rintro e w' ⟨rfl,rfl⟩;rw[roundRows_bad hx];exact⟨_,rfl,(Sep.nil w').list_nil _ _⟩
theorem drewN_add (w:World) (a b:Nat):(w.drewN a).drewN b=w.drewN (a+b):=by simp[World.drewN,Nat.add_assoc]
theorem same_any {xss yss:List (List Int)} {w:World} {v u:Value} (h1:RowsAt w v xss) (h2:RowsAt w u yss):
  Calls Tryz.prog 31 #[v,u] w fun e w'=>e= .returned (.bool (decide (xss=yss)))∧∃n,w'=w.drewN n:=by
 obtain⟨A,c,rfl,hm⟩:=h1.shape;obtain⟨B,d,rfl,hm'⟩:=h2.shape;unfold maxLen at hm hm';have bx:(xss.length:Int)≤9223372036854775807:=by omega
 have by':(yss.length:Int)≤9223372036854775807:=by omega
 by_cases hl:xss.length=yss.length
 case neg=>(have b1:((xss.length:Int) !=(yss.length:Int))=true:=by simp;omega);(have e:decide (xss=yss)=false:=by simp;intro e;exact hl (by rw[e]));rw[e];go_enter Tryz.func31,Tryz.ntmps31;go_wp2_with fail;go_ret;exact⟨rfl,0,rfl⟩
 have b1:((xss.length:Int) !=(yss.length:Int))=false:=by simp;omega
 have hd:∀i (h:i<xss.length),xss[i]≠yss[i]'(by omega)→decide (xss=yss)=false:=by intro i h hne;simp;intro e;subst e;exact hne rfl
 have hd':=Lh hd;clear hd;go_enter Tryz.func31,Tryz.ntmps31;go_wp2_with fail;go_loopg[5] xss.length (fun g ii wr=>∃i n:Nat,i≤xss.length∧Hid (g=xss.length-i)∧ii= .int .i64 i∧wr=w.drewN n∧Hid (∀j (h:j<xss.length),j<i→xss[j]=yss[j]'(by omega)))
 case atStart=>exact⟨0,0,Nat.zero_le _,rfl,rfl,rfl,fun j _ hj=>absurd hj (Nat.not_lt_zero _)⟩
 obtain⟨i,n,hi,hm,rfl,rfl,hsame⟩:=hrel;by_cases hlt:i<xss.length
 case neg=>(obtain rfl:i=xss.length:=by omega);(have e:decide (xss=yss)=true:=by simp;exact List.ext_getElem hl fun j h h'=>hsame.out j h h);have e':=Lh e;clear hsame e;go_wp2_with fail;go_ret;exact⟨by rw[e'.out];rfl,n,rfl⟩
 have hlt2:i<yss.length:=by omega
 have hbel:∀k,Below w.heap.size w (w.drewN k):=fun k=>((Sep.nil w).drewN k).below
 obtain⟨ad,c',p,e,r1,q1⟩:=h1.all hlt;cases e;obtain⟨ad',c'',q,e,r2,q2⟩:=h2.all hlt2;cases e;have a1:=fun k=>q1 _ (hbel k)
 have a2:=fun k=>q2 _ (hbel k)
 obtain⟨Ap,cp,rfl,hp⟩:=r1.shape;obtain⟨Aq,cq,rfl,hq⟩:=r2.shape;unfold maxLen at hp hq;have b2:(0:Int)≤(i:Int):=by omega
 have b3:(i:Int)<(xss.length:Int):=by omega
 have b4:(i:Int)<(yss.length:Int):=by omega
 have bp:((xss[i].length:Nat):Int)≤9223372036854775807:=by omega
 by_cases hrl:xss[i].length=yss[i].length
 case neg=>(have b5:((xss[i].length:Int) !=(yss[i].length:Int))=true:=by simp;omega);have e:=hd'.out i hlt (fun e=>hrl (by rw[e]));have e':=Lh e;clear hsame e q1 q2 r1 r2 h1 h2;go_wp2_with fail;go_quiet (fail);go_wp2_with fail;go_ret;exact⟨by rw[e'.out];rfl,n+nq,drewN_add w n nq⟩
 have b5:((xss[i].length:Int) !=(yss[i].length:Int))=false:=by simp;omega
 have r1':=Lh r1;have r2':=Lh r2;have hbel':=Lh hbel;clear q1 q2 r1 r2 hbel;go_wp2_with fail;go_quiet (fail);go_wp2_with fail;rw[drewN_add];go_loopg[6] xss[i].length (fun g kk wr=>∃k m:Nat,k≤xss[i].length∧Hid (g=xss[i].length-k)∧kk= .int .i64 k∧wr=w.drewN m∧Hid (∀j (h:j<xss[i].length),j<k→xss[i][j]=yss[i][j]'(by omega)))
 case atStart=>exact⟨0,n+nq,Nat.zero_le _,rfl,rfl,rfl,fun j _ hj=>absurd hj (Nat.not_lt_zero _)⟩
 obtain⟨k,m,hk,hm2,rfl,rfl,hsame2⟩:=hrel;by_cases hlk:k<xss[i].length
 case neg=>
  (obtain rfl:k=xss[i].length:=by omega);(have e:xss[i]=yss[i]:=List.ext_getElem hrl fun j h h'=>hsame2.out j h h);have e':=Lh e;clear hsame2 e;go_wp2_with fail;go_roundg (xss.length-(i+1))
  case measure=>rw[hm.out];omega
  refine⟨i+1,_,by omega,rfl,by go_num,rfl,fun j h hj=>?_⟩;by_cases e:j=i
  ·subst e;exact e'.out
  exact hsame.out j h (by omega)
 have hlk2:k<yss[i].length:=by omega
 obtain⟨ap,cp',e,q1⟩:=r1'.out.all hlk;cases e;obtain⟨aq,cq',e,q2⟩:=r2'.out.all hlk2;cases e;have a3:=fun n=>q1 _ (hbel'.out n)
 have a4:=fun n=>q2 _ (hbel'.out n)
 clear q1 q2;have d1:(0:Int)≤(k:Int):=by omega
 have d2:(k:Int)<(xss[i].length:Int):=by omega
 have d3:(k:Int)<(yss[i].length:Int):=by omega
 by_cases hv:xss[i][k]=yss[i][k]
 ·have hv':=Lh hv;(have d4:(xss[i][k] !=yss[i][k])=false:=by simpa using hv);clear hv;generalize xss[i][k]=x at a3 d4;generalize yss[i][k]=y at a4 d4;go_wp2_with fail;go_quiet (fail);go_wp2_with fail;go_roundg (xss[i].length-(k+1))
  case measure=>rw[hm2.out];omega
  refine⟨k+1,_,by omega,rfl,by go_num,rfl,fun j h hj=>?_⟩;by_cases e:j=k
  ·subst e;exact hv'.out
  exact hsame2.out j h (by omega)
 have d4:(xss[i][k] !=yss[i][k])=true:=by simpa using hv
 have e:=hd'.out i hlt (fun e=>hv (by simp only[e]));have e':=Lh e;clear hv e hsame hsame2;generalize xss[i][k]=x at a3 d4;generalize yss[i][k]=y at a4 d4;go_wp2_with fail;go_quiet (fail);go_wp2_with fail;go_ret;exact⟨by rw[e'.out];rfl,m+nq,drewN_add w m nq⟩
set_option maxHeartbeats 400000 in
theorem refused_any (w:World) (v:Value) (xss:List (List Int)) (h:RowsAt w v xss):
  Calls Tryz.prog 58 #[v] w fun e w'=>e= .returned (.int .i64 (refused xss))∧w=w':=by
 obtain⟨A,c,rfl,hm⟩:=h.shape;unfold maxLen at hm;by_cases h0:xss.length≤1024
 case neg=>(have h1:1024<xss.length:=by omega);have hr:=Lh (refused_long h1);go_enter Tryz.func58,Tryz.ntmps58;go_wp2_with fail;go_ret;exact⟨ret_int hr.out.symm,rfl⟩
 go_enter Tryz.func58,Tryz.ntmps58;go_wp2_with fail;go_loop[3] (fun i=>∃k:Nat,k≤xss.length∧i= .int .i64 k∧Hid (∀j (hj:j<xss.length),j<k→xss[j].length≤1024)) (fun i=>xss.length-(intOf i).toNat)
 case atStart=>exact⟨0,Nat.zero_le _,rfl,fun j _ hj=>absurd hj (Nat.not_lt_zero _)⟩
 obtain⟨k,hk,rfl,hall⟩:=hrel;by_cases hlt:k<xss.length
 ·obtain⟨ad,c',u,hv,h3,h4⟩:=h.at_ hlt;obtain⟨A',c'',rfl,hm'⟩:=h4.shape;unfold maxLen at hm';(obtain⟨rfl,rfl⟩:A=some ad∧c=c':=by simpa using hv);by_cases hlong:xss[k].length≤1024
  ·go_wp2_with fail;go_round
   case rel=>exact⟨k+1,by omega,by go_num,fun j hj hj'=>by
    rcases Nat.lt_or_ge j k with h'|h'
    ·exact hall j hj h'
    (obtain rfl:j=k:=by omega);exact hlong⟩
   case measure=>simp[intOf];omega
  have hr:=Lh (refused_row hlt (by omega));go_wp2_with fail;go_ret;exact⟨ret_int hr.out.symm,rfl⟩
 have hall':Hid (∀j (hj:j<xss.length),xss[j].length≤1024):=fun j hj=>hall j hj (by omega)
 clear hall;go_wp2_with fail;go_loop[4] (fun i=>∃k:Nat,k≤xss.length∧i= .int .i64 k∧Hid (∀j (hj:j<xss.length) i (hi:i<xss[j].length),j<k→0≤xss[j][i]∧xss[j][i]<(xss.length:Int))) (fun i=>xss.length-(intOf i).toNat)
 case atStart=>exact⟨0,Nat.zero_le _,rfl,fun j _ _ _ hj=>absurd hj (Nat.not_lt_zero _)⟩
 obtain⟨k,hk,rfl,hgood⟩:=hrel;by_cases hlt:k<xss.length
 ·obtain⟨ad,c',u,hv,h3,h4⟩:=h.at_ hlt;obtain⟨A',c'',rfl,hm'⟩:=h4.shape;unfold maxLen at hm';(obtain⟨rfl,rfl⟩:A=some ad∧c=c':=by simpa using hv);go_wp2_with fail;go_loop[5] (fun i=>∃p:Nat,p≤xss[k].length∧i= .int .i64 p∧Hid (∀i (hi:i<xss[k].length),i<p→0≤xss[k][i]∧xss[k][i]<(xss.length:Int))) (fun i=>xss[k].length-(intOf i).toNat)
  case atStart=>exact⟨0,Nat.zero_le _,rfl,fun _ _ hj=>absurd hj (Nat.not_lt_zero _)⟩
  obtain⟨p,hp,rfl,hrow⟩:=hrel;by_cases hplt:p<xss[k].length
  ·obtain⟨ad',c3,hv',g3⟩:=h4.at_ hplt;(obtain⟨rfl,rfl⟩:A'=some ad'∧c''=c3:=by simpa using hv');by_cases hbad:xss[k][p]<0∨(xss.length:Int)≤xss[k][p]
   ·have hr:=Lh (refused_bad h0 hall'.out hlt hplt hbad);(rcases hbad with hbad|hbad);all_goals
     go_wp2_with fail
     go_ret
     exact⟨ret_int hr.out.symm,rfl⟩
   (have hb1:0≤xss[k][p]:=by omega);(have hb2:xss[k][p]<(xss.length:Int):=by omega);clear hbad;go_wp2_with fail;go_round
   case rel=>exact⟨p+1,by omega,by go_num,fun j hj hj'=>by
    rcases Nat.lt_or_ge j p with h'|h'
    ·exact hrow j hj h'
    (obtain rfl:j=p:=by omega);exact⟨hb1,hb2⟩⟩
   case measure=>simp[intOf];omega
  go_wp2_with fail;go_round
  case rel=>exact⟨k+1,by omega,by go_num,fun j hj i hi hj'=>by
   rcases Nat.lt_or_ge j k with h'|h'
   ·exact hgood j hj i hi h'
   (obtain rfl:j=k:=by omega);exact hrow i hi (by omega)⟩
  case measure=>simp[intOf];omega
 have hr:=Lh (refused_none h0 hall'.out (fun j hj i hi=>hgood j hj i hi (by omega)));go_wp2_with fail;go_ret;exact⟨ret_int hr.out.symm,rfl⟩
theorem reach_any {xss:List (List Int)} {w:World} {nv:Value} {i:Nat} (hx:refused xss=0) (hn:RowsAt w nv xss) (hi:i<xss.length):
  Calls Tryz.prog 140 #[nv,.int .i64 i] w fun e w'=>∃v f,e= .returned v∧Sep w w' [boolsR v ((List.range xss.length).map f)]∧∀j,f j=true↔RP xss i j:=by
 obtain⟨hl,hrow,_⟩:=refused_zero hx;obtain⟨i0,hinf,hz0,hz1,hz2⟩:=info_parts info_int;obtain⟨i2,hi2,hz20,hz21,hz22⟩:=info_parts info_bool;obtain⟨ad,c,u,rfl,hrow1,hrowc⟩:=hn.all hi;have hmk2:=fun W:World=>run_make_n (P:=Tryz.prog) 78 4 i2 (.bool false) 1 Tryz.underlying78 hi2 hz20 hz21 hz22 rfl .i64 .i64 xss.length (by omega) (by unfold maxLen;omega) W
 have hS1:=((Sep.nil w).made 4 (.bool false) xss.length (by unfold maxLen;omega)).sl_nil 3 1;rw[barr_made]at hS1;have a0:=hrowc _ hS1.below;have hrd:=hrow1.below hS1.below;have hLi:=hrow i hi;have hone:∀(xs:List Int) (u:Value),u∈xs.map (Value.int .i64)→u.oneCell'=true:=by intro xs u hu;obtain⟨x,_,rfl⟩:=List.mem_map.1 hu;rfl
 have hS1':=Lh hS1;have hrd':=Lh hrd;have hone':=Lh hone;have hx':=Lh hx;have hn':=Lh hn;have hrow':=Lh hrow;clear hS1 hrd hone hx hn hrowc hrow1 hrow;have b0:(0:Int)≤(i:Int):=by omega
 have b1:(i:Int)<(xss.length:Int):=by omega
 go_enter Tryz.func140,Tryz.ntmps140;go_wp2_with(at_builtin;refine wpList_append_any_sep 0 rfl _ _ 36 rfl 3 i0 (.int .i64 0) 1 8 Tryz.underlying36 hinf hz0 hz1 hz2 rfl (by decide) hS1'.out _ _ _ rfl rfl _ _ _ rfl hrd'.out (hone'.out _) (by unfold maxLen;omega) (by omega) ?_);intro lv w1 hS2 hsz;have hS3:Sep w w1 [intsR lv ((adjOf xss i).map fun(v:Nat)=>(v:Int)),barr w.heap.size xss.length (fun _=>false)]:=by rw[adj_back hx'.out hi];exact hS2
 generalize w.heap.size=gs at hS3 ⊢;have hS3':=Lh hS3;clear hS2 hS3 hS1' hrd' hmk2 a0 hsz;go_wp2_with fail;go_loopg[6] ((adjOf xss i).length+pot xss (fun _=>false)) (fun g lv wr=>∃f L,Hid (g=L.length+pot xss f)∧L.length+pot xss f≤2000000∧RI xss i f L∧Sep w wr [intsR lv (L.map fun(v:Nat)=>(v:Int)),barr gs xss.length f])
 case atStart=>refine⟨fun _=>false,adjOf xss i,rfl,?_,.start hx'.out hi,hS3'.out⟩;have:=pot_le hx'.out (fun _=>false);rw[adj_len hi];omega
 obtain⟨f,L,hm,hb,hR,hT⟩:=hrel;rcases List.eq_nil_or_concat L with rfl|⟨L',x,rfl⟩
 ·obtain⟨A,cA,rfl,_⟩:=(hT.ints 0 rfl).shape;have hT':=Lh hT;have hR':=Lh hR;clear hT hR;go_wp2_with fail;go_ret;refine⟨.slice (some ⟨gs,0,none⟩) xss.length xss.length,f,rfl,?_,hR'.out.done⟩;rw[boolsR_barr];exact Sep.drop 1 hT'.out
 rw[List.concat_eq_append]at hm hb hR hT;rw[List.map_append,List.map_cons,List.map_nil]at hT;obtain⟨hx1,_⟩:=hR.stack x (by simp);obtain⟨g,cap,rfl,hg,hgl,hcap,hmax⟩:=hT.sl_form 0 rfl (by simp);have hlen:(L'.map (fun(v:Nat)=>(v:Int))++[(x:Int)]).length=L'.length+1:=by simp
 have a0:wr.cell? ⟨g,L'.length,none⟩=some (.int .i64 x):=by rw[hT.cellAt 0 rfl L'.length (by simp)];simp
 have a1:=barr_at 1 hT rfl x hx1;have a2:=hT.frozenAt 1 rfl x;rw[hlen]at hT ⊢;have hcap':L'.length+1≤cap:=by simpa using hcap
 have b2:(0:Int)≤(L'.length:Int):=by omega
 have b3:(L'.length:Int)≤(cap:Int):=by omega
 have b4:(cap:Int)≤9223372036854775807:=by have:=hmax;simp only[maxLen]at this;omega
 have b5:(x:Int)<(xss.length:Int):=by omega
 have b6:(0:Int)≤(x:Int):=by omega
 have hT2:Sep w wr [.sl 3 1 (.slice (some ⟨g,0,none⟩) (L'.length+1) cap) (L'.length+1) (((L'.map fun(v:Nat)=>(v:Int))++[(x:Int)]).map (Value.int .i64)),barr gs xss.length f]:=by rw[intsR,hlen]at hT;exact hT
 have hT3:=hT2.sl_cut 0 rfl L'.length (by omega);have hT4:Sep w wr [intsR (.slice (some ⟨g,0,none⟩) L'.length cap) (L'.map fun(v:Nat)=>(v:Int)),barr gs xss.length f]:=by simpa[intsR]using hT3
 have hT':=Lh hT4;have hR':=Lh hR;clear hT hR hmax hcap hlen hg hgl hT2 hT3 hT4;cases hf:f x
 case true=>
  rw[hf]at a1;go_wp2_with fail;go_roundg (L'.length+pot xss f)
  case measure=>rw[hm.out];simp
  exact⟨f,L',rfl,by simp at hb;omega,hR'.out.old hf,hT'.out⟩
 rw[hf]at a1;obtain⟨ad',c',u',e,hrowx,hrowcx⟩:=hn'.out.all hx1;cases e;have hS4:=hT'.out.stored 1 rfl x (.bool true);simp only[List.set_cons_succ,List.set_cons_zero]at hS4;rw[barr_set]at hS4;have a3:=hrowcx _ hS4.below;have hrd:=hrowx.below hS4.below;have hLx:=hrow'.out x hx1;have hpu:=pot_upd hx1 hf;have hb2:L'.length≤2000000:=by simp at hb;omega
 have hS4':=Lh hS4;have hrd':=Lh hrd;have hpu':=Lh hpu;have hb':=Lh hb;clear hS4 hrd hrowx hrowcx hb hpu;go_wp2_with(at_builtin;refine wpList_append_any_sep 0 rfl _ _ 36 rfl 3 i0 (.int .i64 0) 1 8 Tryz.underlying36 hinf hz0 hz1 hz2 rfl (by decide) hS4'.out _ _ _ rfl rfl _ _ _ rfl hrd'.out (hone'.out _) (by simp only[List.length_map];unfold maxLen;omega) (by simp only[List.length_map];omega) ?_);intro lv' w4 hS5 hsz5;have hS6:Sep w w4 [intsR lv' ((L'++adjOf xss x).map fun(v:Nat)=>(v:Int)),barr gs xss.length (updB f x true)]:=by rw[List.map_append,adj_back hx'.out hx1];simpa[intsR]using hS5
 have hS6':=Lh hS6;clear hS5 hS6 hS4' hrd' hsz5;go_wp2_with fail;go_roundg ((L'++adjOf xss x).length+pot xss (updB f x true))
 case measure=>rw[hm.out];have:=hpu'.out;simp only[List.length_append,List.length_cons,List.length_nil];omega
 refine⟨updB f x true,L'++adjOf xss x,rfl,?_,hR'.out.new hx'.out hf,hS6'.out⟩;have:=hpu'.out;have:=hb'.out;simp only[List.length_append,List.length_cons,List.length_nil]at*;omega
noncomputable def rowB (xss:List (List Int)) (i:Nat):List Bool:=(List.range xss.length).map (rpB xss i)
noncomputable def allR (av:Value) (xss:List (List Int)) (k:Nat):Asn:=Asn.list 78 boolsR av ((List.range k).map (rowB xss))
theorem Sep.boolRows {w0 w:World} {As:List Asn} (i:Nat) {v:Value} {xss:List (List Bool)} (h:Sep w0 w As) (hi:As[i]? =some (Asn.list 78 boolsR v xss)):BoolRowsAt w v xss:=by obtain⟨F,h1,_⟩:=h.get i hi;exact list_at (fun _ _ _=>boolsR_at) h1
theorem info_bools :(Tryz.prog.info? 78).map (fun i=>(i.zero,i.size,i.bytes))=some (some (.slice none 0 0),1,24):=by kernel_rfl
theorem all_at {xss:List (List Int)} {w:World} {av:Value} (h:BoolRowsAt w av ((List.range xss.length).map (rowB xss))) {i:Nat} (hi:i<xss.length):
  ∃ad c adr cr,av= .slice (some ad) xss.length c∧w.cell? (ad.add i)=some (.slice (some adr) xss.length cr)∧∀j,j<xss.length→w.cell? (adr.add j)=some (.bool (rpB xss i j)):=by
 obtain⟨ad,c,u,e,h1,h2⟩:=h.at_ (k:=i) (by simpa using hi);rw[List.length_map,List.length_range]at e;have e2:((List.range xss.length).map (rowB xss))[i]'(by simpa using hi)=rowB xss i:=by simp
 rw[e2]at h2;have key:∀j,j<xss.length→∃adr cr,u= .slice (some adr) xss.length cr∧w.cell? (adr.add j)=some (.bool (rpB xss i j)):=by intro j hj;obtain⟨adr,cr,e3,h3⟩:=h2.at_ (k:=j) (by simpa[rowB]using hj);refine⟨adr,cr,by simpa[rowB]using e3,?_⟩;simpa[rowB]using h3
 obtain⟨adr,cr,e3,_⟩:=key i hi;subst e3;refine⟨ad,c,adr,cr,e,h1,fun j hj=>?_⟩;obtain⟨adr',cr',e4,h4⟩:=key j hj;injection e4 with e5 e6 e7;injection e5 with e5;rw[e5];exact h4
set_option maxHeartbeats 1000000 in
set_option maxRecDepth 100000 in
theorem refparts_any {xss:List (List Int)} {w:World} {nv:Value} (hx:refused xss=0) (hn:RowsAt w nv xss):
  Calls Tryz.prog 93 #[nv] w fun e w'=>∃tv av,e= .returned (.tuple #[tv,av])∧Sep w w' [intsR tv ((List.range xss.length).map fun i=>(partsRep xss i:Int)),allR av xss xss.length]:=by
 obtain⟨hl,hrow,_⟩:=refused_zero hx;obtain⟨i0,hinf,hz0,hz1,hz2⟩:=info_parts info_int;obtain⟨i2,hi2,hz20,hz21,hz22⟩:=info_parts info_bools;obtain⟨A,c,rfl,_⟩:=hn.shape;have hmk0:=fun W:World=>run_make_n (P:=Tryz.prog) 36 3 i0 (.int .i64 0) 8 Tryz.underlying36 hinf hz0 hz1 hz2 rfl .i64 .i64 xss.length (by omega) (by unfold maxLen;omega) W
 have hx':=Lh hx;have hn':=Lh hn;clear hx hn hrow;go_enter Tryz.func93,Tryz.ntmps93;go_wp2_with fail;go_loopg[4,5] xss.length (fun g av iv wr=>∃k:Nat,k≤xss.length∧Hid (g=xss.length-k)∧iv= .int .i64 k∧Sep w wr [allR av xss k])
 case atStart=>exact⟨0,Nat.zero_le _,rfl,rfl,(Sep.nil w).list_nil _ _⟩
 obtain⟨k,hk,hm,rfl,hT⟩:=hrel;by_cases hlt:k<xss.length
 ·obtain⟨vs,hvl,hT1⟩:=hT.list_open;simp only[List.length_map,List.length_range]at hvl;have hcall:=reach_any hx'.out (hn'.out.below hT.below) hlt;have hT1':=Lh hT1;(have b1:(k:Int)<(xss.length:Int):=by omega);(have b2:(0:Int)≤(k:Int):=by omega);have hcall':=Lh hcall;clear hT hT1 hcall;go_wp2_with(first |(go_at_call 140;refine hcall'.out.mono ?_;rintro e w2 ⟨u,f,rfl,hS2,hf⟩;obtain rfl:=rpB_eq hf;obtain⟨Au,cu,eu,_⟩:=(hS2.bools 0 rfl).shape;rw[List.length_map,List.length_range]at eu;subst eu;have hS3:=Lh (Sep.alloc (hT1'.out.join hS2) (.cells #[.slice Au xss.length cu] 78));clear hS2 hf)|(at_builtin;refine wpList_append_sep 1 rfl _ _ 151 rfl 78 i2 (.slice none 0 0) 1 24 Tryz.underlying151 hi2 hz20 hz21 hz22 rfl (by decide) hS3.out _ _ _ rfl rfl ⟨w2.heap.size,0,none⟩ 1 1 [.slice Au xss.length cu] rfl rfl (cell_one_new _ _ _) (by simp[Value.oneCell']) (by decide) (by simp only[List.length_map,List.length_range];unfold maxLen;omega) (by simp only[List.length_map,List.length_range];omega) ?_));intro g cap w4 hS4 hsz;(have hS5:Sep w w4 [allR (.slice (some ⟨g,0,none⟩) (k+1) cap) xss (k+1)]:=by unfold allR;rw[List.range_succ,List.map_append,List.map_cons,List.map_nil];refine Sep.list_push (vs:=vs) (u:=.slice Au xss.length cu) (by simp[hvl]) ?_;rw[List.length_map,List.length_range];exact hS4.perm ((List.Perm.swap _ _ _).trans (.cons _ (List.perm_append_singleton _ _).symm)));have hS5':=Lh hS5;clear hS4 hS5 hS3 hsz;go_wp2_with fail;go_roundg (xss.length-(k+1))
  case measure=>rw[hm.out];omega
  case rel=>exact⟨k+1,by omega,rfl,by go_num,hS5'.out⟩
 obtain rfl:k=xss.length:=by omega
 have hS1:=hT.made 3 (.int .i64 0) xss.length (by unfold maxLen;omega);have hS2:Sep w (wr.alloc (.cells (madeCells #[.int .i64 0] xss.length) 3)) [arr wr.heap.size xss.length (fun x=>if x<0 then(partsRep xss x:Int)else 0),allR u4 xss xss.length]:=by(have e:(fun x=>if x<0 then(partsRep xss x:Int)else 0)=fun _=>0:=by funext x;rw[if_neg (by omega)]);rw[e,←zeros_arr];exact hS1
 have hS2':=Lh hS2;clear hT hS1 hS2;go_wp2_with fail;generalize wr.heap.size=gt at hS2' ⊢;go_loopg[7] xss.length (fun g iv wr=>∃i:Nat,i≤xss.length∧Hid (g=xss.length-i)∧iv= .int .i64 i∧Sep w wr [arr gt xss.length (fun x=>if x<i then(partsRep xss x:Int)else 0),allR u4 xss xss.length])
 case atStart=>exact⟨0,Nat.zero_le _,rfl,rfl,hS2'.out⟩
 obtain⟨i,hi,hm2,rfl,hT⟩:=hrel;by_cases hlt:i<xss.length
 case neg=>
  (obtain rfl:i=xss.length:=by omega);have hT':=Lh hT;clear hT;go_wp2_with fail
  go_ret2
  refine⟨.slice (some ⟨gt,0,none⟩) xss.length xss.length,u4,rfl,?_⟩;(have e:∀g,intsR (.slice (some ⟨g,0,none⟩) xss.length xss.length) ((List.range xss.length).map fun i=>(partsRep xss i:Int))=arr g xss.length (fun x=>if x<xss.length then(partsRep xss x:Int)else 0):=by intro g;unfold intsR arr;rw[List.length_map,List.length_range,List.map_map];congr 1;apply List.map_congr_left;intro v hv;simp[List.mem_range.1 hv]);rw[e];exact hT'.out
 have a0:=arr_at 0 hT rfl i hlt;have a1:=hT.frozenAt 0 rfl i;have hS3:=hT.stored 0 rfl i (.int .i64 i);simp only[List.set_cons_zero]at hS3;rw[arr_set]at hS3;have hS3':=Lh hS3;have b1:(0:Int)≤(i:Int):=by omega
 have b2:(i:Int)<(xss.length:Int):=by omega
 have b3:(xss.length:Int)≤1024:=by omega
 clear hT hS3;go_wp2_with fail;go_loopg[8] i (fun g kv wr=>∃k:Nat,k≤i∧Hid (g=i-k)∧kv= .int .i64 k∧(∀j,j<k→both xss i j=false)∧Sep w wr [arr gt xss.length (Tarjan.upd (fun x=>if x<i then(partsRep xss x:Int)else 0) i i),allR u4 xss xss.length])
 case atStart=>exact⟨0,Nat.zero_le _,rfl,rfl,fun j hj=>by omega,hS3'.out⟩
 obtain⟨k,hk,hm3,rfl,hno,hT⟩:=hrel;have hfin:∀(r:Nat) (wq:World),partsRep xss i=r→Sep w wq [arr gt xss.length (Tarjan.upd (fun x=>if x<i then(partsRep xss x:Int)else 0) i (r:Int)),allR u4 xss xss.length]→Sep w wq [arr gt xss.length (fun x=>if x<i+1 then(partsRep xss x:Int)else 0),allR u4 xss xss.length]:=by
  intro r wq hr h;have e:Tarjan.upd (fun x=>if x<i then(partsRep xss x:Int)else 0) i (r:Int)=fun x=>if x<i+1 then(partsRep xss x:Int)else 0:=by
   funext x;simp only[Tarjan.upd];by_cases e:x=i
   ·subst e;simp[hr]
   rw[if_neg e];by_cases h:x<i
   ·rw[if_pos h,if_pos (by omega)]
   rw[if_neg h,if_neg (by omega)]
  rw[←e];exact h
 have hfin':=Lh hfin;have hno':=Lh hno;clear hfin hno;by_cases hlk:k<i
 case neg=>
  (obtain rfl:k=i:=by omega);have hT':=Lh hT;clear hT;go_wp2_with fail;go_roundg (xss.length-(k+1))
  case measure=>rw[hm2.out];omega
  case rel=>exact⟨k+1,by omega,rfl,by go_num,hfin'.out k _ (partsRep_none hno'.out) hT'.out⟩
 have hkn:k<xss.length:=by omega
 obtain⟨ad,ca,adr,cr,e,a2,hrowi⟩:=all_at (hT.boolRows 1 rfl) hlt;cases e;obtain⟨ad',ca',adr2,cr2,e,a3,hrowk⟩:=all_at (hT.boolRows 1 rfl) hkn;cases e;have a4:=hrowi k hkn;have a5:=hrowk i hlt;have c1:(0:Int)≤(k:Int):=by omega
 have c2:(k:Int)<(xss.length:Int):=by omega
 have c3:(k:Int)<(i:Int):=by omega
 have a6:=arr_at 0 hT rfl i hlt;have a7:=hT.frozenAt 0 rfl i;have hS4:=hT.stored 0 rfl i (.int .i64 k);simp only[List.set_cons_zero]at hS4;rw[arr_set]at hS4;have e:Tarjan.upd (Tarjan.upd (fun x=>if x<i then(partsRep xss x:Int)else 0) i (i:Int)) i (k:Int)=Tarjan.upd (fun x=>if x<i then(partsRep xss x:Int)else 0) i (k:Int):=by funext x;simp only[Tarjan.upd];split<;>rfl
 rw[e]at hS4;have hS4':=Lh hS4;have hT':=Lh hT;clear hT hS4 e hrowi hrowk;cases e1:rpB xss i k
 case false=>
  rw[e1]at a4;go_wp2_with fail;go_roundg (i-(k+1))
  case measure=>rw[hm3.out];omega
  refine⟨k+1,by omega,rfl,by go_num,fun j hj=>?_,hT'.out⟩;by_cases e:j=k
  ·subst e;simp[both,e1]
  exact hno'.out j (by omega)
 rw[e1]at a4;cases e2:rpB xss k i
 case false=>
  rw[e2]at a5;go_wp2_with fail;go_roundg (i-(k+1))
  case measure=>rw[hm3.out];omega
  refine⟨k+1,by omega,rfl,by go_num,fun j hj=>?_,hT'.out⟩;by_cases e:j=k
  ·subst e;simp[both,e2]
  exact hno'.out j (by omega)
 rw[e2]at a5;go_wp2_with fail;go_roundg (xss.length-(i+1))
 case measure=>rw[hm2.out];omega
 case rel=>exact⟨i+1,by omega,rfl,by go_num,hfin'.out k _ (partsRep_some hlk (by simp[both,e1,e2]) hno'.out) hS4'.out⟩
theorem members_any {n:Nat} {rep:Nat→Nat} {w:World} {tv:Value} (x:Nat) (hn:n≤1024) (h:IntsAt w tv (repL n rep)):
  Calls Tryz.prog 94 #[tv,.int .i64 x] w fun e w'=>∃v,e= .returned v∧Sep w w' [intsR v ((mem n rep x).map fun(v:Nat)=>(v:Int))]:=by
 obtain⟨i0,hinf,hz0,hz1,hz2⟩:=info_parts info_int;obtain⟨A,c,rfl,_⟩:=h.shape;have hlen:(repL n rep).length=n:=by simp[repL]
 rw[hlen]at h ⊢;have bn:(n:Int)≤1024:=by omega
 have h':=Lh h;clear h;go_enter Tryz.func94,Tryz.ntmps94;go_wp2_with fail;go_loopg[5,6] n (fun g ov ii wr=>∃i:Nat,i≤n∧Hid (g=n-i)∧ii= .int .i64 i∧Sep w wr [intsR ov ((mem i rep x).map fun(v:Nat)=>(v:Int))])
 case atStart=>exact⟨0,Nat.zero_le _,rfl,rfl,intsR_nil (Sep.nil w)⟩
 obtain⟨i,hi,hm,rfl,hT⟩:=hrel;by_cases hlt:i<n
 case neg=>(obtain rfl:i=n:=by omega);have hT':=Lh hT;clear hT;go_wp2_with fail;go_ret;exact⟨u5,rfl,hT'.out⟩
 obtain⟨ad,c',e,hc⟩:=h'.out.all (k:=i) (by rw[hlen];exact hlt);rw[hlen]at e;cases e;have a0:=hc wr hT.below;have e1:(repL n rep)[i]'(by rw[hlen];exact hlt)=(rep i:Int):=by simp[repL]
 rw[e1]at a0;have b1:(0:Int)≤(i:Int):=by omega
 have b2:(i:Int)<(n:Int):=by omega
 have hml:=mem_len i rep x;by_cases e:rep i=x
 ·(have b3:((rep i:Int)==(x:Int))=true:=by simp[e]);have hS1:=hT.alloc (.cells #[.int .i64 i] 3);have hS1':=Lh hS1;clear hT hS1 hc e1;go_wp2_with(at_builtin;refine wpList_append_sep 0 rfl _ _ 36 rfl 3 i0 (.int .i64 0) 1 8 Tryz.underlying36 hinf hz0 hz1 hz2 rfl (by decide) hS1'.out _ _ _ rfl rfl ⟨wr.heap.size,0,none⟩ 1 1 [.int .i64 i] rfl rfl (cell_one_new _ _ _) (by simp[Value.oneCell']) (by decide) (by simp only[List.length_map];unfold maxLen;omega) (by simp only[List.length_map];omega) ?_);intro g cap w2 hS2 hsz;(have hS3:Sep w w2 [intsR (.slice (some ⟨g,0,none⟩) ((mem i rep x).length+1) cap) ((mem (i+1) rep x).map fun(v:Nat)=>(v:Int))]:=by rw[mem_succ,if_pos e];simpa[intsR]using hS2);have hS3':=Lh hS3;clear hS2 hS3 hS1' hsz;go_wp2_with fail;go_roundg (n-(i+1))
  case measure=>rw[hm.out];omega
  case rel=>exact⟨i+1,by omega,rfl,by go_num,by simpa using hS3'.out⟩
 have b3:((rep i:Int)==(x:Int))=false:=by simp;omega
 have hS3:Sep w wr [intsR u5 ((mem (i+1) rep x).map fun(v:Nat)=>(v:Int))]:=by rw[mem_succ,if_neg e,List.append_nil];exact hT
 have hS3':=Lh hS3;clear hT hS3 hc e1;go_wp2_with fail;go_roundg (n-(i+1))
 case measure=>rw[hm.out];omega
 case rel=>exact⟨i+1,by omega,rfl,by go_num,hS3'.out⟩
set_option maxHeartbeats 1000000 in
theorem refround_any {xss:List (List Int)} {w:World} {nv:Value} (hx:refused xss=0) (hn:RowsAt w nv xss):
  Calls Tryz.prog 59 #[nv] w fun e w'=>∃v,e= .returned v∧Sep w w' [rowsR v (roundTo xss xss.length)]:=by
 obtain⟨hl,hrow,_⟩:=refused_zero hx;obtain⟨i1,hi1,hz10,hz11,hz12⟩:=info_parts info_ints;obtain⟨A,c,rfl,_⟩:=hn.shape;have hpa:=Lh (refparts_any hx hn);clear hx hn hrow;have bn:(xss.length:Int)≤1024:=by omega
 go_enter Tryz.func59,Tryz.ntmps59;go_wp2_with(go_at_call 93;refine hpa.out.mono ?_;rintro e w1 ⟨tv,av,rfl,hS1⟩;(have hS1':=Lh hS1);clear hS1);go_loopg[5,6] xss.length (fun g ov ii wr=>∃i:Nat,i≤xss.length∧Hid (g=xss.length-i)∧ii= .int .i64 i∧Sep w wr [rowsR ov (roundTo xss i),intsR tv (repL xss.length (partsRep xss)),allR av xss xss.length])
 case atStart=>exact⟨0,Nat.zero_le _,rfl,rfl,hS1'.out.list_nil _ _⟩
 obtain⟨i,hi,hm,rfl,hT⟩:=hrel;by_cases hlt:i<xss.length
 case neg=>(obtain rfl:i=xss.length:=by omega);have hT':=Lh hT;clear hT;go_wp2_with fail;go_ret;refine⟨u5,rfl,Sep.drop 2 (Sep.sel [1,2,0] hT'.out (by decide) (by simp))⟩
 have hlen:(repL xss.length (partsRep xss)).length=xss.length:=by simp[repL]
 have hts:=hT.ints 1 rfl;obtain⟨ad,c',e,a0⟩:=hts.at_ (k:=i) (by rw[hlen];exact hlt);have e1:(repL xss.length (partsRep xss))[i]'(by rw[hlen];exact hlt)=(partsRep xss i:Int):=by simp[repL]
 rw[e1]at a0;rw[hlen]at e;obtain⟨ad2,ca,adr,cr,e2,a1,hrowi⟩:=all_at (hT.boolRows 2 rfl) hlt;have a2:=hrowi i hlt;cases e;cases e2;have b1:(0:Int)≤(i:Int):=by omega
 have b2:(i:Int)<(xss.length:Int):=by omega
 have hrl:=roundTo_len xss i;by_cases e:partsRep xss i=i
 case neg=>
  (have b3:((partsRep xss i:Int)==(i:Int))=false:=by simp;omega);(have hS3:roundTo xss (i+1)=roundTo xss i:=by rw[roundTo_succ];(have:(partsRep xss i==i)=false:=by simpa using e);simp[this]);have hS3':=Lh hS3;have hT':=Lh hT;clear hT hS3 hrowi hts e1;go_wp2_with fail;go_roundg (xss.length-(i+1))
  case measure=>rw[hm.out];omega
  case rel=>exact⟨i+1,by omega,rfl,by go_num,by rw[hS3'.out];exact hT'.out⟩
 have b3:((partsRep xss i:Int)==(i:Int))=true:=by simp[e]
 cases hrp:rpB xss i i
 case false=>
  rw[hrp]at a2;(have hS3:roundTo xss (i+1)=roundTo xss i:=by rw[roundTo_succ,hrp];simp);have hS3':=Lh hS3;have hT':=Lh hT;clear hT hS3 hrowi hts e1;go_wp2_with fail;go_roundg (xss.length-(i+1))
  case measure=>rw[hm.out];omega
  case rel=>exact⟨i+1,by omega,rfl,by go_num,by rw[hS3'.out];exact hT'.out⟩
 rw[hrp]at a2;have hS3:roundTo xss (i+1)=roundTo xss i++[(mem xss.length (partsRep xss) i).map fun(v:Nat)=>(v:Int)]:=by rw[roundTo_succ,hrp,e];simp
 have hcall:=Lh (members_any i hl hts);obtain⟨vs,hvl,hT1⟩:=Sep.list_open hT;have hT1':=Lh hT1;have hS3':=Lh hS3;clear hT hT1 hS3 hrowi hts e1;go_wp2_with(first |(go_at_call 94;refine hcall.out.mono ?_;rintro e w2 ⟨u,rfl,hS2⟩;obtain⟨Au,cu,eu,_⟩:=(hS2.ints 0 rfl).shape;rw[List.length_map]at eu;subst eu;have hS4:=Lh (Sep.alloc (hT1'.out.join hS2) (.cells #[.slice Au (mem xss.length (partsRep xss) i).length cu] 36));clear hS2)|(at_builtin;refine wpList_append_sep 1 rfl _ _ 27 rfl 36 i1 (.slice none 0 0) 1 24 Tryz.underlying27 hi1 hz10 hz11 hz12 rfl (by decide) hS4.out _ _ _ rfl rfl ⟨w2.heap.size,0,none⟩ 1 1 [.slice Au (mem xss.length (partsRep xss) i).length cu] rfl rfl (cell_one_new _ _ _) (by simp[Value.oneCell']) (by decide) (by unfold maxLen;omega) (by omega) ?_));intro g cap w4 hS5 hsz;have hS6:Sep w w4 [rowsR (.slice (some ⟨g,0,none⟩) ((roundTo xss i).length+1) cap) (roundTo xss (i+1)),intsR (.slice (some ad) xss.length c') (repL xss.length (partsRep xss)),allR (.slice (some ad2) xss.length ca) xss xss.length]:=by rw[hS3'.out];refine Sep.list_push (vs:=vs) (u:=.slice Au (mem xss.length (partsRep xss) i).length cu) hvl ?_;exact hS5.perm ((List.Perm.swap _ _ _).trans (.cons _ List.perm_middle.symm))
 have hS6':=Lh hS6;clear hS5 hS6 hS4 hsz;go_wp2_with fail;go_roundg (xss.length-(i+1))
 case measure=>rw[hm.out];omega
 case rel=>exact⟨i+1,by omega,rfl,by go_num,hS6'.out⟩
theorem refround_rows {xss:List (List Int)} {w:World} {nv:Value} (hx:refused xss=0) (hn:RowsAt w nv xss):
  Calls Tryz.prog 59 #[nv] w fun e w'=>∃v,e= .returned v∧Sep w w' [rowsR v (roundRows xss)]:=by
 rw[roundRows_ok hx];exact refround_any hx hn
end Go.Proofs.YtimkjnbihlgbiaaGreat
namespace Go.Proofs.YtimkjnbihlgbiaaGreat
set_option linter.unusedVariables false
def longX (n:Nat) (round:Bool):List (List Int):=(List.range n).map fun i=>if i+1<n then [(i:Int)+1]else if round then [0]else []
theorem longX_len (n:Nat) (round:Bool):(longX n round).length=n:=by simp[longX]
theorem longX_at {n:Nat} {round:Bool} {i:Nat} (hi:i<(longX n round).length):(longX n round)[i]=if i+1<n then [(i:Int)+1]else if round then [0]else []:=by simp[longX]
theorem longX_adj {n:Nat} {round:Bool} {i:Nat} (hi:i<n) (u:Nat):u∈adjOf (longX n round) i↔(i+1<n∧u=i+1)∨(i+1=n∧round=true∧u=0):=by
 rw[adjOf_at (by rw[longX_len];exact hi),longX_at];by_cases h:i+1<n
 ·(have h2:i+1≠n:=by omega);simp[h,h2]
 have h2:i+1=n:=by omega
 cases round
 ·simp[h2]
 simp[h2]
theorem none_round {xss:List (List Int)} (f:Nat→Nat) (h:∀v,v<xss.length→∀u,u∈adjOf xss v→f u<f v) (hx:refused xss=0):roundRows xss=[]:=by
 have hr:∀ {u v:Nat},Tarjan.Reach (adjOf xss) u v→u<xss.length→f v≤f u:=by
  intro u v hr
  induction hr with
  |refl=>intro _;omega
  |step h1 _ ih=>intro hu;have:=h _ hu _ h1;have:=ih (adj_lt hx hu h1);omega
 rw[roundRows_ok hx,round_rows];have:roundL xss=[]:=by rw[List.eq_nil_iff_forall_not_mem];intro i hi;obtain⟨i1,_,u,hu,hui⟩:=roundL_iff.1 hi;have:=h i i1 u hu;have:=hr hui (adj_lt hx i1 hu);omega
 rw[this];rfl
open Go.RowKit
noncomputable def orderE (xss:List (List Int)) (m:Nat):Int:=if refused xss≠0 then refused xss else if xss.length≠m then 1 else if roundRows xss≠[]then 33 else 0
theorem Sep.len0 {w0 w:World} {v:Value} (h:Sep w0 w [rowsR v []]):∃A c,v= .slice A 0 c:=by obtain⟨A,c,rfl,_⟩:=(h.rows 0 rfl).shape;exact⟨A,c,rfl⟩
end Go.Proofs.YtimkjnbihlgbiaaGreat
