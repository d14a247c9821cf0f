/- Components, Tell, laid together. -/
import Derived.Test.YtimkjnbihlgbiaaGreatJ6
namespace Go.Proofs.YtimkjnbihlgbiaaGreat
open Go.RowKit
set_option linter.unusedVariables false
theorem info_ints :(Tryz.prog.info? 36).map (fun i=>(i.zero,i.size,i.bytes))=some (some (.slice none 0 0),1,24):=by kernel_rfl
theorem info_bool :(Tryz.prog.info? 4).map (fun i=>(i.zero,i.size,i.bytes))=some (some (.bool false),1,1):=by kernel_rfl
def inBlock :Code→Code
 | .block _ c=>c
 |c=>c
noncomputable def compsBlock (k:Nat):Code:=inBlock ((Tryz.f41.body.bind (blockAt k)).getD .skip)
def SC (w0 w:World) (n count k:Nat) (of:Nat→Int) (go gl:Nat):Prop:=
 ∃vs:List Value,vs.length=count∧Sep w0 w (arr go n of:: .sl 36 1 (.slice (some ⟨gl,0,none⟩) count count) count vs::List.zipWith intsR vs (rowsTo count k of))
set_option maxRecDepth 100000 in
set_option maxHeartbeats 1000000 in
theorem comps_rows {n count:Nat} {of:Nat→Int} {w0 w:World} {go gl:Nat} {ac:Act} {Q:Exit→Act→World→Prop}
  (hn:n≤1024) (hc:count≤n) (hof:∀v,v<n→0≤of v∧of v<count)
  (hf:Fs 189 ac [(7,.slice (some ⟨gl,0,none⟩) count count),(38,.slice (some ⟨go,0,none⟩) n n),(39,.int .i64 n),(40,.int .i64 0)])
  (hS:SC w0 w n count 0 of go gl)
  (hQ:∀ac' w',ac'.tmps.toList.take 8=ac.tmps.toList.take 8→ac'.tmps.size=189→ac'.defers=[]→SC w0 w' n count n of go gl→Q .normal ac' w'):
  (compsBlock 0).wp Tryz.prog (Exit.inBlock 0 Q) ac w:=by
 obtain⟨f,rfl,h7,h38,h39,h40, -⟩:=hf.lit;obtain⟨i0,hi,hz0,hz1,hz2⟩:=info_parts info_int;simp only at h7 h38 h39 h40;clear hf;simp only[lits,Nat.reduceAdd,h7,h38,h39,h40]at hQ ⊢;have hQ':=Lh hQ;clear hQ h7 h38 h39 h40
 conv=>arg 2;whnf
 go_loopg[8,9,40] n (fun m i8 i9 i wr=>∃k:Nat,k≤n∧Hid (m=n-k)∧i= .int .i64 k∧SC w0 wr n count k of go gl)
 case atStart=>exact⟨0,Nat.zero_le _,rfl,rfl,hS⟩
 obtain⟨k,hk,hm,rfl,hT⟩:=hrel;by_cases hlt:k<n
 ·obtain⟨vs,hvl,hT⟩:=hT;obtain⟨h1,h2⟩:=hof k hlt;obtain⟨c,hck⟩:∃c:Nat,of k=c:=⟨(of k).toNat,by omega⟩;(have hcc:c<count:=by omega);have a0:=arr_at 0 hT rfl k hlt;rw[hck]at a0;obtain⟨v,hv⟩:∃v,vs[c]? =some v:=⟨vs[c]'(by omega),by simp⟩;(have a1:wr.cell? ⟨gl,c,none⟩=some v:=by rw[hT.cellAt 1 rfl c (by omega),hv]);have hz:=zip_some (f:=intsR) hv (rowsTo_some (k:=k) (of:=of) hcc);(have b1:(k:Int)<(n:Int):=by omega);(have b2:(0:Int)≤(k:Int):=by omega);(have b3:(0:Int)≤(c:Int):=by omega);(have b4:(c:Int)<(count:Int):=by omega);(have b5:(n:Int)≤1024:=by omega);(have hlen:(cls k of c).length≤1024:=by have:=(List.filter_sublist (p:=fun v=>of v==(c:Int)) (l:=List.range k)).length_le;simp only[List.length_range]at this;unfold cls;omega);have hT1:=hT.alloc (.cells #[.int .i64 k] 3);have hT1':=Lh hT1;have hv':=Lh hv;have hz':=Lh hz;have hck':=Lh hck;clear hT1 hz hck h1 h2 hv;go_wp2_with(at_builtin;refine wpList_append_sep (c+2) rfl _ _ 36 rfl 3 i0 (.int .i64 0) 1 8 Tryz.underlying36 hi hz0 hz1 hz2 rfl (by decide) hT1'.out _ _ _ hz'.out rfl ⟨wr.heap.size,0,none⟩ 1 1 [.int .i64 k] rfl rfl (cell_one_new _ _ _) (by simp[Value.oneCell']) (by decide) (by simp only[List.length_map];unfold maxLen;omega) (by simp only[List.length_map];omega) ?_);intro g cap w1 hS2 hsz;(have a2:w1.cell? ⟨gl,c,none⟩=some v:=by rw[hS2.cellAt 1 rfl c (by omega),hv'.out]);have a3:=hS2.frozenAt 1 rfl c;have hS3:=hS2.stored 1 rfl c (.slice (some ⟨g,0,none⟩) ((List.map (fun(v:Nat)=>(v:Int)) (cls k of c)).length+1) cap);have hS3':=Lh hS3;clear hS3 hS2 hT hT1' a0 a1;go_wp2_with fail;go_roundg (n-(k+1))
  case measure=>rw[hm.out];omega
  refine⟨k+1,by omega,rfl,by go_num,vs.set c (.slice (some ⟨g,0,none⟩) ((List.map (fun(v:Nat)=>(v:Int)) (cls k of c)).length+1) cap),by simpa using hvl,?_⟩;rw[rowsTo_succ hcc hck'.out,zip_set];have h:=hS3'.out;simpa[intsR]using h
 go_wp2_with fail;obtain rfl:k=n:=by omega
 exact hQ'.out _ _ rfl rfl rfl hT
def SD (w0 w:World) (xss:List (List Int)) (of:Nat→Int) (count c:Nat) (h:Nat→Bool) (m bm gw gu gl go:Nat) (F:Int→Int) (vs:List Value):Prop:=
 ∃us:List Value,us.length=count∧Sep w0 w (imapR bm m F::arr gw count (waitTo xss of count c h)::arr go xss.length of:: .sl 36 1 (.slice (some ⟨gu,0,none⟩) count count) count us:: .sl 36 1 (.slice (some ⟨gl,0,none⟩) count count) count vs::
  (List.zipWith intsR us (usersTo xss of count c h)++List.zipWith intsR vs (rowsTo count xss.length of)))
theorem adjOf_nth {xss:List (List Int)} (hx:refused xss=0) {v q:Nat} (hv:v<xss.length) (hq:q<(xss[v]).length):∃u:Nat,xss[v][q]=(u:Int)∧u<xss.length∧(adjOf xss v)[q]? =some u:=by obtain⟨_,_,hg⟩:=refused_zero hx;have:=hg v hv q hq;refine⟨(xss[v][q]).toNat,by omega,by omega,?_⟩;rw[adjOf_at hv,List.getElem?_map,gE hq];rfl
theorem wf_i64 {x:Int} (h1: -9223372036854775808≤x) (h2:x≤9223372036854775807):(Lit.int .i64 x).wf=true:=by
 have e1:IntKind.i64.min= -9223372036854775808:=by decide
 have e2:IntKind.i64.max=9223372036854775807:=by decide
 simp only[Lit.wf,e1,e2];simpa using⟨h1,h2⟩
theorem IntsAt.all {w0:World} {v:Value} {xs:List Int} {k:Nat} (h:IntsAt w0 v xs) (hk:k<xs.length):
  ∃ad c,v= .slice (some ad) xs.length c∧∀w',Below w0.heap.size w0 w'→w'.cell? (ad.add k)=some (.int .i64 xs[k]):=by
 obtain⟨ad,c,rfl,_⟩:=h.at_ hk;refine⟨ad,c,rfl,fun w' hb=>?_⟩;obtain⟨ad',c',e,h'⟩:=(h.below hb).at_ hk;injection e with e1 e2 e3;injection e1 with e1;rw[e1];exact h'
theorem RowsAt.all {w0:World} {v:Value} {xss:List (List Int)} {k:Nat} (h:RowsAt w0 v xss) (hk:k<xss.length):
  ∃ad c u,v= .slice (some ad) xss.length c∧IntsAt w0 u xss[k]∧∀w',Below w0.heap.size w0 w'→w'.cell? (ad.add k)=some u:=by
 obtain⟨vs,h1,h2⟩:=h;obtain⟨ad,c,u,rfl,hc,hd⟩:=Rd.at_ h1 hk;refine⟨ad,c,u,rfl,h2 k u _ hc (gE hk),fun w' hb=>?_⟩;obtain⟨ad',c',u',e,hc',hd'⟩:=Rd.at_ (Rd.below h1 hb) hk;rw[hc]at hc';injection hc' with hc';injection e with e1 e2 e3;injection e1 with e1;rw[e1,hc'];exact hd'
theorem met_step {xss:List (List Int)} {of:Nat→Int} (dn:List Nat) {i q u:Nat} (h:(adjOf xss i)[q]? =some u):
  dn++((adjOf xss i).take (q+1)).map (fun u=>(of u).toNat)=(dn++((adjOf xss i).take q).map (fun u=>(of u).toNat))++[(of u).toNat]:=by
 rw[List.take_add_one,h];simp
theorem cls_len (n:Nat) (of:Nat→Int) (c:Nat):(cls n of c).length≤n:=by have:=(List.filter_sublist (p:=fun v=>of v==(c:Int)) (l:=List.range n)).length_le;simpa[cls]using this
def SE (w0 w:World) (xss:List (List Int)) (of:Nat→Int) (count c:Nat) (dn:List Nat) (bm gw gu gl go:Nat) (vs:List Value):Prop:=
 SD w0 w xss of count c (hit dn c) (cntB count (hit dn c)) bm gw gu gl go (lastOf (hit dn c)) vs
theorem SE.same {w0 w:World} {xss:List (List Int)} {of:Nat→Int} {count c:Nat} {dn:List Nat} {bm gw gu gl go:Nat} {vs:List Value} {d:Nat} (h:SE w0 w xss of count c dn bm gw gu gl go vs) (hd:d=c∨hit dn c d=true):
  SE w0 w xss of count c (dn++[d]) bm gw gu gl go vs:=by
 unfold SE;rw[hit_same hd];exact h
set_option maxRecDepth 100000 in
set_option maxHeartbeats 2000000 in
theorem comps_waits {xss:List (List Int)} {of:Nat→Int} {count:Nat} {w0 w:World} {nv:Value} {bm gw gu gl go:Nat} {vs:List Value} {ac:Act} {Q:Exit→Act→World→Prop}
  (hx:refused xss=0) (hg:Good xss of count) (hn:RowsAt w0 nv xss) (hvl:vs.length=count) (m0:Nat) (F0:Int→Int)
  (hf:Fs 189 ac [(0,nv),(5,.slice (some ⟨go,0,none⟩) xss.length xss.length),(10,.slice (some ⟨gw,0,none⟩) count count),(11,.slice (some ⟨gu,0,none⟩) count count),(12,.map (some bm)),(61,.slice (some ⟨gl,0,none⟩) count count),(62,.int .i64 count),(63,.int .i64 0)])
  (hS:SD w0 w xss of count 0 (fun _=>false) m0 bm gw gu gl go F0 vs)
  (hQ:∀ac' w' m F,ac'.tmps.toList.take 13=ac.tmps.toList.take 13→ac'.tmps.size=189→ac'.defers=[]→SD w0 w' xss of count count (fun _=>false) m bm gw gu gl go F vs→Q .normal ac' w'):
  (compsBlock 2).wp Tryz.prog (Exit.inBlock 2 Q) ac w:=by
 obtain⟨f,rfl,h0,h5,h10,h11,h12,h61,h62,h63, -⟩:=hf.lit;obtain⟨i0,hi,hz0,hz1,hz2⟩:=info_parts info_int;obtain⟨hl,hrow,_⟩:=refused_zero hx;have hcl:=hg.le;obtain⟨A,cA,rfl,_⟩:=hn.shape;simp only at h0 h5 h10 h11 h12 h61 h62 h63;clear hf;simp only[lits,Nat.reduceAdd,h0,h5,h10,h11,h12,h61,h62,h63]at hQ ⊢;have hQ':=Lh hQ;have hg':=Lh hg;have hrow':=Lh hrow;have hx':=Lh hx;have bl:(xss.length:Int)≤1024:=by omega
 have bc:(count:Int)≤1024:=by omega
 clear hQ h0 h5 h10 h11 h12 h61 h62 h63 hg hrow hx
 conv=>arg 2;whnf
 go_loopg[63] count (fun g ci wr=>∃c m F,c≤count∧Hid (g=count-c)∧ci= .int .i64 (c:Nat)∧SD w0 wr xss of count c (fun _=>false) m bm gw gu gl go F vs)
 case atStart=>exact⟨0,m0,F0,Nat.zero_le _,rfl,rfl,hS⟩
 obtain⟨c,m,F,hc,hm1,rfl,hT⟩:=hrel;by_cases hlt:c<count
 case neg=>go_wp2_with fail;(obtain rfl:c=count:=by omega);exact hQ'.out _ _ _ _ rfl rfl rfl hT
 obtain⟨us,hul,hT⟩:=hT;obtain⟨v,hv⟩:∃v,vs[c]? =some v:=⟨vs[c]'(by omega),by simp⟩;have a0:wr.cell? ⟨gl,c,none⟩=some v:=by rw[hT.cellAt 4 rfl c (by omega),hv]
 obtain⟨w1,hclr,hT1⟩:=hT.imap_clear 0 rfl 0;have hzl:=zip_some (f:=intsR) hv (rowsTo_some (k:=xss.length) (of:=of) hlt);have hidx:∀(us:List Value) (U:List (List Int)),us.length=count→U.length=count→(List.zipWith intsR us U++List.zipWith intsR vs (rowsTo count xss.length of))[count+c]? =some (intsR v ((cls xss.length of c).map fun(v:Nat)=>(v:Int))):=by intro us U h1 h2;rw[List.getElem?_append_right (by simp[h1,h2]),←hzl];congr 1;simp[h1,h2]
 have hnum:=hT1.ints (count+c+5) (hidx us _ hul (usersTo_length _ _));have hpos:0<(cls xss.length of c).length:=List.length_pos_iff.2 (hg'.out.cls_ne hlt);obtain⟨gr,cr,e,_⟩:=hT1.sl_form (count+c+5) (hidx us _ hul (usersTo_length _ _)) (by simpa using hpos);rw[List.length_map]at e;subst e;have hcK:(cls xss.length of c).length≤1024:=Nat.le_trans (cls_len _ _ _) hl;have b2:(0:Int)≤(c:Int):=by omega
 have b3:(c:Int)<(count:Int):=by omega
 have b4:(((cls xss.length of c).length:Nat):Int)≤1024:=by omega
 have hidx2:∀(us:List Value) (U:List (List Int)),us.length=count→U.length=count→(List.zipWith intsR us U++List.zipWith intsR vs (rowsTo count xss.length of))[count+c]? =some (.sl 3 1 (.slice (some ⟨gr,0,none⟩) (cls xss.length of c).length cr) (cls xss.length of c).length (((cls xss.length of c).map fun(v:Nat)=>(v:Int)).map (Value.int .i64))):=fun us U h1 h2=>by rw[hidx us U h1 h2,intsR,List.length_map]
 have hidx':=Lh hidx2;have hT1':=Lh hT1;clear hidx hidx2 hT1 hzl hnum hT hv;go_wp2_with fail;go_loopg[71] (cls xss.length of c).length (fun g pi wr=>∃p:Nat,p≤(cls xss.length of c).length∧Hid (g=(cls xss.length of c).length-p)∧pi= .int .i64 p∧SE w0 wr xss of count c (metTo xss of c p) bm gw gu gl go vs)
 case atStart=>refine⟨0,Nat.zero_le _,rfl,rfl,?_⟩;unfold SE;rw[metTo_zero,hit_nil,cntB_false,lastOf_false];exact⟨us,hul,hT1'.out⟩
 obtain⟨p,hp,hm2,rfl,hT⟩:=hrel;by_cases hlp:p<(cls xss.length of c).length
 case neg=>
  (obtain rfl:p=(cls xss.length of c).length:=by omega);have hT':=Lh hT;clear hT;go_wp2_with fail;go_roundg (count-(c+1))
  case measure=>rw[hm1.out];omega
  have h:=hT'.out;unfold SE at h;rw[metTo_all,hit_alls]at h;obtain⟨us',hul',h⟩:=h;exact⟨c+1,_,_,by omega,rfl,by go_num,us',hul',by rw[←waitTo_next,←usersTo_next];exact h⟩
 obtain⟨i,hi⟩:∃i,(cls xss.length of c)[p]? =some i:=⟨_,gE hlp⟩;obtain⟨hi1,hi2⟩:=cls_iff.1 (gG hi);have hTw:=hT;obtain⟨us2,hul2,hT⟩:=hT;have a1:wr.cell? ⟨gr,p,none⟩=some (.int .i64 i):=by rw[hT.cellAt (count+c+5) (hidx'.out us2 _ hul2 (usersTo_length _ _)) p (by omega)];simp[hi]
 obtain⟨ad,cA',u,e,hrow1,hrowc⟩:=hn.all hi1;cases e;have a2:=hrowc wr hT.below;obtain⟨Ar,cr',rfl,_⟩:=hrow1.shape;have hL:=hrow'.out i hi1;have b5:(0:Int)≤(i:Int):=by omega
 have b6:(i:Int)<(xss.length:Int):=by omega
 have b7:(p:Int)<(((cls xss.length of c).length:Nat):Int):=by omega
 have b8:(0:Int)≤(p:Int):=by omega
 have b9:(((xss[i]).length:Nat):Int)≤1024:=by omega
 have hTw':=Lh hTw;have hi':=Lh hi;have hi2':=Lh hi2;have hrow1':=Lh hrow1;clear hT hTw hi hi2 hrowc hrow1;go_wp2_with fail;go_loopg[80] (xss[i]).length (fun g qi wr=>∃q:Nat,q≤(xss[i]).length∧Hid (g=(xss[i]).length-q)∧qi= .int .i64 q∧SE w0 wr xss of count c (metTo xss of c p++((adjOf xss i).take q).map fun u=>(of u).toNat) bm gw gu gl go vs)
 case atStart=>refine⟨0,Nat.zero_le _,rfl,rfl,?_⟩;simpa using hTw'.out
 obtain⟨q,hq,hm3,rfl,hT⟩:=hrel;by_cases hlq:q<(xss[i]).length
 case neg=>
  (obtain rfl:q=(xss[i]).length:=by omega);have hT':=Lh hT;clear hT;go_wp2_with fail;go_roundg ((cls xss.length of c).length-(p+1))
  case measure=>rw[hm2.out];omega
  refine⟨p+1,by omega,rfl,by go_num,?_⟩;rw[metTo_succ hi'.out];have h:=hT'.out
  rwa [List.take_of_length_le (by rw[adjOf_at hi1,List.length_map];exact Nat.le_refl _)]at h
 obtain⟨k,hk,hkn,hadj⟩:=adjOf_nth hx'.out hi1 hlq;obtain⟨d,hdc,hof⟩:=hg'.out.num hkn;have hTw:=hT;obtain⟨us3,hul3,hT⟩:=hT;obtain⟨ad2,cr2,e,hrowc⟩:=hrow1'.out.all hlq;cases e;have a3:=hrowc wr hT.below;rw[hk]at a3;have a4:=arr_at 2 hT rfl k hkn;rw[hof]at a4;have hms:=met_step (of:=of) (metTo xss of c p) hadj;rw[hof,Int.toNat_natCast]at hms;have c1:(0:Int)≤(q:Int):=by omega
 have c2:(q:Int)<(((xss[i]).length:Nat):Int):=by omega
 have c3:(0:Int)≤(k:Int):=by omega
 have c4:(k:Int)<(xss.length:Int):=by omega
 have c5:(d:Int)<(count:Int):=by omega
 have c6:(0:Int)≤(d:Int):=by omega
 have hTw':=Lh hTw;have hms':=Lh hms;clear hTw hms hrowc hk hof hadj;by_cases hdd:d=c
 ·subst hdd;(have hd1:(((d:Nat):Int) !=((d:Nat):Int))=false:=by simp);clear hT;go_wp2_with fail;go_roundg ((xss[i]).length-(q+1))
  case measure=>rw[hm3.out];omega
  refine⟨q+1,by omega,rfl,by go_num,?_⟩;rw[hms'.out];exact hTw'.out.same (.inl rfl)
 have hd1:(((d:Nat):Int) !=((c:Nat):Int))=true:=by simp;omega
 have hwf:(Lit.int .i64 (d:Int)).wf=true:=wf_i64 (by omega) (by omega);have hlook:=hT.imap_look 0 rfl (d:Int) hwf;rw[lastOf_at]at hlook;by_cases hh:hit (metTo xss of c p++((adjOf xss i).take q).map fun u=>(of u).toNat) c d=true
 ·rw[if_pos hh]at hlook;clear hT;go_wp2_with fail;go_roundg ((xss[i]).length-(q+1))
  case measure=>rw[hm3.out];omega
  refine⟨q+1,by omega,rfl,by go_num,?_⟩;rw[hms'.out];exact hTw'.out.same (.inr hh)
 rw[if_neg hh]at hlook;generalize hdn:(metTo xss of c p++((adjOf xss i).take q).map fun u=>(of u).toNat)=dn at hT hTw' hms' hh;have h0:hit dn c d=false:=by simpa using hh
 have hce:=cntB_le count (hit dn c);obtain⟨w1,hput,hS1⟩:=hT.imap_put 0 rfl (by unfold maxLen;omega) (d:Int) 1 hwf (by decide);rw[lastOf_put,←cntB_add count (hit dn c) d hdc h0]at hS1;have a5:=arr_at 1 hS1 rfl c hlt;rw[waitTo_at]at a5;have a6:=hS1.frozenAt 1 rfl c;have hS2:=hS1.stored 1 rfl c (.int .i64 ((cntB count (hit dn c):Int)+1));simp only[List.set_cons_succ,List.set_cons_zero]at hS2;rw[arr_set,waitTo_add hdc h0]at hS2;obtain⟨v,hv⟩:∃v,us3[d]? =some v:=⟨us3[d]'(by omega),by simp⟩;have a7:(w1.setCell ⟨gw,c,none⟩ (.int .i64 ((cntB count (hit dn c):Int)+1))).cell? ⟨gu,d,none⟩=some v:=by rw[hS2.cellAt 3 rfl d (by omega),hv]
 have hus:=usersTo_some (xss:=xss) (of:=of) (c:=c) (h:=hit dn c) hdc;rw[h0]at hus;simp only[Bool.false_eq_true,if_false,List.append_nil]at hus;have hzu:=zip_some (f:=intsR) hv hus;have hzu2:(List.zipWith intsR us3 (usersTo xss of count c (hit dn c))++List.zipWith intsR vs (rowsTo count xss.length of))[d]? =some (intsR v (((List.range c).filter fun x=>needB xss of x d).map (fun(v:Nat)=>(v:Int)))):=by rw[List.getElem?_append_left (by simp[hul3,usersTo_length];exact hdc),hzu]
 have hRl:((List.range c).filter fun x=>needB xss of x d).length≤1024:=by have:=List.length_filter_le (fun x=>needB xss of x d) (List.range c);rw[List.length_range]at this;omega
 have hS3:=hS2.alloc (.cells #[.int .i64 c] 3);have hS3':=Lh hS3;have hzu':=Lh hzu2;have hv':=Lh hv;have hh0':=Lh h0;have d1:((cntB count (hit dn c):Nat):Int)≤1024:=by omega
 clear hT hTw' hh h0 hS1 hS2 hS3 hzu hzu2 hv hus hdn;go_wp2_with(at_builtin;refine wpList_append_sep (d+5) rfl _ _ 36 rfl 3 i0 (.int .i64 0) 1 8 Tryz.underlying36 hi hz0 hz1 hz2 rfl (by decide) hS3'.out v _ _ hzu'.out rfl ⟨w1.heap.size,0,none⟩ 1 1 [.int .i64 c] rfl rfl (cells_new _ #[.int .i64 c] _ _ (by simp)) (by simp[Value.oneCell']) (by decide) (by simp only[List.length_map];unfold maxLen;omega) (by simp only[List.length_map];omega) ?_);intro g cap w4 hS4 hsz;have a8:=hS4.frozenAt 3 rfl d;have a9:w4.cell? ⟨gu,d,none⟩=some v:=by rw[hS4.cellAt 3 rfl d (by omega),hv'.out]
 have hS5:=hS4.stored 3 rfl d (.slice (some ⟨g,0,none⟩) ((List.map (fun(v:Nat)=>(v:Int)) (List.filter (fun x=>needB xss of x d) (List.range c))).length+1) cap);have hS5':=Lh hS5;clear hS5 hS4 hS3' a7 a5 a6;go_wp2_with fail;go_roundg ((xss[i]).length-(q+1))
 case measure=>rw[hm3.out];omega
 refine⟨q+1,by omega,rfl,by go_num,?_⟩;rw[hms'.out];refine⟨us3.set d (.slice (some ⟨g,0,none⟩) ((List.map (fun(v:Nat)=>(v:Int)) (List.filter (fun x=>needB xss of x d) (List.range c))).length+1) cap),by simpa using hul3,?_⟩;rw[hit_new hdd,usersTo_add hdc hh0'.out,zip_set,←List.set_append_left _ _ (by simp[hul3,usersTo_length];exact hdc)];have h:=hS5'.out;simpa[intsR]using h
end Go.Proofs.YtimkjnbihlgbiaaGreat
namespace Go.Proofs.YtimkjnbihlgbiaaGreat
set_option linter.unusedVariables false
section
variable {xss:List (List Int)} {of:Nat→Int} {count:Nat} {T:List Nat}
def waitOf (xss:List (List Int)) (of:Nat→Int) (count:Nat) (T:List Nat) (x:Nat):Nat:=cntB count fun d=>needB xss of x d&& !T.contains d
theorem waitOf_le (x:Nat):waitOf xss of count T x≤count:=cntB_le _ _
theorem waitOf_zero {x:Nat}:waitOf xss of count T x=0↔∀d,d<count→needB xss of x d=true→d∈T:=by
 constructor
 ·intro h d hd hn;have:=cntB_zero h hd;simpa[hn]using this
 intro h;rw[waitOf,cntB_congr (h':=fun _=>false),cntB_false];intro d hd;cases e:needB xss of x d with
 |false=>simp
 |true=>simp[h d hd e]
theorem waitOf_nil (x:Nat) (hx:x<count):waitTo xss of count count (fun _=>false) x=(waitOf xss of count [] x:Int):=by simp[waitTo,hx,waitOf]
theorem waitOf_snoc {c0 x:Nat} (hc:c0<count) (h0:c0∉T):waitOf xss of count T x=waitOf xss of count (T++[c0]) x+if needB xss of x c0=true then 1 else 0:=by
 unfold waitOf;by_cases h:needB xss of x c0=true
 ·rw[if_pos h,←cntB_add count (fun d=>needB xss of x d&& !(T++[c0]).contains d) c0 hc (by simp)];apply cntB_congr;intro d _;by_cases e:d=c0
  ·subst e;simp[h,h0]
  simp[e]
 rw[if_neg h,Nat.add_zero];apply cntB_congr;intro d _;by_cases e:d=c0
 ·subst e;(have:needB xss of x d=false:=by simpa using h);simp[this]
 simp[e]
def usersL (xss:List (List Int)) (of:Nat→Int) (count c:Nat):List Nat:=(List.range count).filter fun x=>needB xss of x c
theorem usersL_nodup (c:Nat):(usersL xss of count c).Nodup:=List.nodup_range.sublist List.filter_sublist
theorem usersL_iff {c x:Nat}:x∈usersL xss of count c↔x<count∧needB xss of x c=true:=by simp[usersL]
theorem usersL_len (c:Nat):(usersL xss of count c).length≤count:=by have:=List.length_filter_le (fun x=>needB xss of x c) (List.range count);simpa[usersL]using this
theorem usersTo_done {d:Nat} (hd:d<count):(usersTo xss of count count (fun _=>false))[d]? =some ((usersL xss of count d).map fun(v:Nat)=>(v:Int)):=by rw[usersTo_some hd];simp[usersL]
def waitJ (xss:List (List Int)) (of:Nat→Int) (count:Nat) (T:List Nat) (c0 j:Nat):Nat→Int:=fun x=>(waitOf xss of count T x:Int)-if x∈(usersL xss of count c0).take j then 1 else 0
theorem waitJ_zero (c0:Nat):waitJ xss of count T c0 0=fun x=>(waitOf xss of count T x:Int):=by funext x;simp[waitJ]
theorem waitJ_at {c0 j x:Nat} (h:(usersL xss of count c0)[j]? =some x):waitJ xss of count T c0 j x=waitOf xss of count T x:=by
 have hn:=usersL_nodup (xss:=xss) (of:=of) (count:=count) c0;have:x∉(usersL xss of count c0).take j:=by intro hm;obtain⟨i,hi,e⟩:=List.getElem_of_mem hm;rw[List.length_take]at hi;rw[List.getElem_take]at e;obtain⟨hj,ej⟩:=gF.1 h;have:=(List.getElem_inj hn).1 (e.trans ej.symm);omega
 simp[waitJ,this]
theorem waitJ_step {c0 j x:Nat} (h:(usersL xss of count c0)[j]? =some x):Tarjan.upd (waitJ xss of count T c0 j) x ((waitOf xss of count T x:Int)-1)=waitJ xss of count T c0 (j+1):=by
 funext y;simp only[Tarjan.upd,waitJ,List.take_add_one,h];by_cases e:y=x
 ·subst e;simp
 simp[e]
theorem waitJ_all {c0:Nat} (hc:c0<count) (h0:c0∉T) {x:Nat} (hx:x<count):waitJ xss of count T c0 (usersL xss of count c0).length x=(waitOf xss of count (T++[c0]) x:Int):=by
 simp only[waitJ,List.take_length,usersL_iff];have h:=waitOf_snoc (xss:=xss) (of:=of) (x:=x) hc h0;by_cases e:needB xss of x c0=true
 ·rw[if_pos e]at h;rw[if_pos ⟨hx,e⟩];omega
 rw[if_neg e]at h;rw[if_neg fun h=>e h.2];omega
def Rdy (xss:List (List Int)) (of:Nat→Int) (count:Nat) (T:List Nat) (c:Nat):Prop:=c∉T∧waitOf xss of count T c=0
def BestTo (xss:List (List Int)) (of:Nat→Int) (count:Nat) (T:List Nat) (k:Nat) (b:Int):Prop:=
 (b= -1∧∀c,c<k→¬Rdy xss of count T c)∨
 ∃c0:Nat,b=c0∧c0<count∧Rdy xss of count T c0∧∀c,c<k→Rdy xss of count T c→fst' xss.length of c0≤fst' xss.length of c
theorem BestTo.zero :BestTo xss of count T 0 (-1):=.inl ⟨rfl,fun c hc=>by omega⟩
theorem BestTo.skip {k:Nat} {b:Int} (h:BestTo xss of count T k b) (hn:¬Rdy xss of count T k):BestTo xss of count T (k+1) b:=by
 have key:∀c,c<k+1→Rdy xss of count T c→c<k:=by intro c hc hr;apply Classical.byContradiction;intro hck;(obtain rfl:c=k:=by omega);exact hn hr
 rcases h with⟨e,h⟩|⟨c0,e,h1,h2,h3⟩
 ·exact .inl ⟨e,fun c hc hr=>h c (key c hc hr) hr⟩
 exact .inr ⟨c0,e,h1,h2,fun c hc hr=>h3 c (key c hc hr) hr⟩
theorem BestTo.first {k:Nat} (h:BestTo xss of count T k (-1)) (hk:k<count) (hr:Rdy xss of count T k):BestTo xss of count T (k+1) (k:Int):=by
 rcases h with⟨e,h⟩|⟨c0,e,h1,h2,h3⟩
 ·refine .inr ⟨k,rfl,hk,hr,fun c hc hrc=>?_⟩;by_cases e:c=k
  ·subst e;exact Nat.le_refl _
  exact absurd hrc (h c (by omega))
 omega
theorem BestTo.keep {k c0:Nat} (h:BestTo xss of count T k (c0:Int)) (hle:fst' xss.length of c0≤fst' xss.length of k):BestTo xss of count T (k+1) (c0:Int):=by
 rcases h with⟨e,h⟩|⟨c1,e,h1,h2,h3⟩
 ·omega
 obtain rfl:c0=c1:=by omega
 refine .inr ⟨c0,rfl,h1,h2,fun c hc hrc=>?_⟩;by_cases e:c=k
 ·subst e;exact hle
 exact h3 c (by omega) hrc
theorem BestTo.take {k c0:Nat} (h:BestTo xss of count T k (c0:Int)) (hk:k<count) (hr:Rdy xss of count T k) (hlt:fst' xss.length of k<fst' xss.length of c0):BestTo xss of count T (k+1) (k:Int):=by
 rcases h with⟨e,h⟩|⟨c1,e,h1,h2,h3⟩
 ·omega
 obtain rfl:c0=c1:=by omega
 refine .inr ⟨k,rfl,hk,hr,fun c hc hrc=>?_⟩;by_cases e:c=k
 ·subst e;exact Nat.le_refl _
 have:=h3 c (by omega) hrc;omega
theorem BestTo.form {k:Nat} {b:Int} (h:BestTo xss of count T k b):b= -1∨∃c0:Nat,b=c0∧c0<count:=by
 rcases h with⟨e,h⟩|⟨c1,e,h1,h2,h3⟩
 ·exact .inl e
 exact .inr ⟨c1,e,h1⟩
structure Tells (xss:List (List Int)) (of:Nat→Int) (count:Nat) (T:List Nat):Prop where
 nodup:T.Nodup
 lt:∀c,c∈T→c<count
 pre:Pre xss (repOf xss of) (T.map (fst' xss.length of))
theorem Tells.nil :Tells xss of count []:=⟨List.nodup_nil,fun _ h=>(List.not_mem_nil h).elim,.nil⟩
theorem BestTo.done (hx:refused xss=0) (hg:Good xss of count) (hT:Tells xss of count T) (hl:T.length<count) {b:Int} (h:BestTo xss of count T count b):
  ∃c0:Nat,b=c0∧c0<count∧c0∉T∧Tells xss of count (T++[c0]):=by
 rcases h with⟨e,h⟩|⟨c1,e,h1,h2,h3⟩
 ·(have:∃c,c<count∧c∉T:=by apply Classical.byContradiction;intro hno;(have h1:(List.range count).length≤T.length:=by(refine List.Nodup.length_le_of_subset List.nodup_range fun x hx=>?_);apply Classical.byContradiction;intro hxT;exact hno ⟨x,List.mem_range.1 hx,hxT⟩);simp only[List.length_range]at h1;omega);obtain⟨b',hb1,hb2,hb3⟩:=hg.exists_ready hx this;exact absurd ⟨hb2,waitOf_zero.2 hb3⟩ (h b' hb1)
 refine⟨c1,e,h1,h2.1,?_,?_,?_⟩
 ·rw[List.nodup_append];refine⟨hT.nodup,by simp,?_⟩;intro a ha c hc e;simp only[List.mem_singleton]at hc;exact h2.1 (hc▸e▸ha)
 ·intro c hc;rcases List.mem_append.1 hc with hc|hc
  ·exact hT.lt c hc
  simp only[List.mem_singleton]at hc;subst hc;exact h1
 exact hg.tell hx hT.lt hT.pre h1 h2.1 (waitOf_zero.1 h2.2) fun c hc hcT hr=>h3 c hc ⟨hcT,waitOf_zero.2 hr⟩
theorem Tells.perm (hT:Tells xss of count T) (hl:T.length=count):T.Perm (List.range count):=by have hfull:=full_of_nodup hT.nodup hT.lt hl;exact(List.perm_ext_iff_of_nodup hT.nodup List.nodup_range).2 fun c=>⟨fun h=>List.mem_range.2 (hT.lt c h),fun h=>hfull c (List.mem_range.1 h)⟩
theorem Tells.told (hg:Good xss of count) (hT:Tells xss of count T) (hl:T.length=count):Told xss (repOf xss of) (T.map (fst' xss.length of)):=
 hg.told hT.lt hT.pre (full_of_nodup hT.nodup hT.lt hl)
theorem Tells.rows (hg:Good xss of count) (hT:Tells xss of count T):T.map (fun c=>(cls xss.length of c).map fun(v:Nat)=>(v:Int))=(T.map (fst' xss.length of)).map fun i=>(mem xss.length (repOf xss of) i).map fun(v:Nat)=>(v:Int):=by rw[List.map_map];apply List.map_congr_left;intro c hc;simp only[Function.comp_apply];rw[hg.mem_eq (hT.lt c hc)]
end
end Go.Proofs.YtimkjnbihlgbiaaGreat
