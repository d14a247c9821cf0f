/- Components2, Components3, App, laid together. -/
import Derived.Test.YtimkjnbihlgbiaaGreatJ7
namespace Go.Proofs.YtimkjnbihlgbiaaGreat
open Go.RowKit
set_option linter.unusedVariables false
theorem bools_set (g n:Nat) (T:List Nat) (c0:Nat):Asn.sl 4 1 (.slice (some ⟨g,0,none⟩) n n) n (((List.range n).map fun c=>Value.bool (T.contains c)).set c0 (.bool true))=Asn.sl 4 1 (.slice (some ⟨g,0,none⟩) n n) n ((List.range n).map fun c=>Value.bool ((T++[c0]).contains c)):=by
 rw[map_range_set];congr 1;apply List.map_congr_left;intro v _;by_cases e:v=c0
 ·subst e;simp
 simp[e]
theorem arr_congr {g n:Nat} {f f':Nat→Int} (h:∀v,v<n→f v=f' v):arr g n f=arr g n f':=by unfold arr;congr 1;apply List.map_congr_left;intro v hv;rw[h v (List.mem_range.1 hv)]
def SG (w0 w:World) (xss:List (List Int)) (of:Nat→Int) (count:Nat) (T:List Nat) (wf:Nat→Int) (gw gt gu gl:Nat) (ov:Value) (us vs:List Value):Prop:=
 Sep w0 w (arr gw count wf:: .sl 4 1 (.slice (some ⟨gt,0,none⟩) count count) count ((List.range count).map fun c=>Value.bool (T.contains c)):: .sl 36 1 (.slice (some ⟨gu,0,none⟩) count count) count us::
  .sl 36 1 (.slice (some ⟨gl,0,none⟩) count count) count vs:: .sl 36 1 ov T.length (T.map fun c=>vs.getD c (.slice none 0 0))::
  (List.zipWith intsR us (usersTo xss of count count (fun _=>false))++List.zipWith intsR vs (rowsTo count xss.length of)))
theorem SG.row {w0 w:World} {xss:List (List Int)} {of:Nat→Int} {count:Nat} {T:List Nat} {wf:Nat→Int} {gw gt gu gl:Nat} {ov:Value} {us vs:List Value} {c:Nat}
  (h:SG w0 w xss of count T wf gw gt gu gl ov us vs) (hg:Good xss of count) (hul:us.length=count) (hvl:vs.length=count) (hc:c<count):
  ∃g m cap,0<m∧vs[c]? =some (.slice (some ⟨g,0,none⟩) m cap)∧w.cell? ⟨gl,c,none⟩=some (.slice (some ⟨g,0,none⟩) m cap)∧w.cell? ⟨g,0,none⟩=some (.int .i64 (fst' xss.length of c:Nat)):=by
 obtain⟨v,hv⟩:∃v,vs[c]? =some v:=⟨vs[c]'(by omega),by simp⟩;have hz:=zip_some (f:=intsR) hv (rowsTo_some (k:=xss.length) (of:=of) hc);have hidx:(List.zipWith intsR us (usersTo xss of count count (fun _=>false))++List.zipWith intsR vs (rowsTo count xss.length of))[count+c]? =some (intsR v ((cls xss.length of c).map fun(v:Nat)=>(v:Int))):=by rw[List.getElem?_append_right (by simp[hul,usersTo_length]),←hz];congr 1;simp[hul,usersTo_length]
 have hne:=hg.cls_ne hc;have hpos:0<((cls xss.length of c).map fun(v:Nat)=>(v:Int)).length:=by rw[List.length_map];exact List.length_pos_iff.2 hne
 obtain⟨g,cap,e,_⟩:=Sep.sl_form (count+c+5) h hidx hpos;subst e;refine⟨g,_,cap,hpos,hv,?_,?_⟩
 ·rw[h.cellAt 3 rfl c (by omega),hv]
 rw[h.cellAt (count+c+5) hidx 0 (by omega)];unfold fst';cases e:cls xss.length of c with
 |nil=>exact absurd e hne
 |cons a l=>simp
set_option maxRecDepth 100000 in
set_option maxHeartbeats 2000000 in
theorem comps_tell {xss:List (List Int)} {of:Nat→Int} {count:Nat} {w0 w:World} {gw gt gu gl:Nat} {us vs:List Value} {ac:Act} {Q:Exit→Act→World→Prop}
  (hx:refused xss=0) (hg:Good xss of count) (hul:us.length=count) (hvl:vs.length=count)
  (hf:Fs 189 ac [(7,.slice (some ⟨gl,0,none⟩) count count),(10,.slice (some ⟨gw,0,none⟩) count count),(11,.slice (some ⟨gu,0,none⟩) count count),(20,.slice none 0 0),(21,.slice (some ⟨gt,0,none⟩) count count),(120,.int .i64 count),(121,.int .i64 0)])
  (hS:SG w0 w xss of count [] (fun x=>(waitOf xss of count [] x:Int)) gw gt gu gl (.slice none 0 0) us vs)
  (hQ:∀ac' w' ov T,Tells xss of count T→T.length=count→Fs 189 ac' [(20,ov)]→SG w0 w' xss of count T (fun x=>(waitOf xss of count T x:Int)) gw gt gu gl ov us vs→Q .normal ac' w'):
  (compsBlock 8).wp Tryz.prog (Exit.inBlock 8 Q) ac w:=by
 obtain⟨f,rfl,h7,h10,h11,h20,h21,h120,h121, -⟩:=hf.lit;obtain⟨i0,hi,hz0,hz1,hz2⟩:=info_parts info_ints;obtain⟨hl,hrow,_⟩:=refused_zero hx;have hcl:=hg.le;simp only at h7 h10 h11 h20 h21 h120 h121;clear hf;simp only[lits,Nat.reduceAdd,h7,h10,h11,h20,h21,h120,h121]at hQ ⊢;have hQ':=Lh hQ;have hg':=Lh hg;have hx':=Lh hx;have bc:(count:Int)≤1024:=by omega
 clear hQ h7 h10 h11 h20 h21 h120 h121 hg hrow hx
 conv=>arg 2;whnf
 go_loopg[20,121] count (fun g ov ti wr=>∃T,T.length≤count∧Hid (g=count-T.length)∧ti= .int .i64 (T.length:Nat)∧Tells xss of count T∧SG w0 wr xss of count T (fun x=>(waitOf xss of count T x:Int)) gw gt gu gl ov us vs)
 case atStart=>exact⟨[],Nat.zero_le _,rfl,rfl,.nil,hS⟩
 obtain⟨T,hTl,hm1,rfl,hTT,hT⟩:=hrel;by_cases hlt:T.length<count
 case neg=>(have e:T.length=count:=by omega);(have b1:decide (T.length<count)=false:=by simp;omega);have hT':=Lh hT;clear hT;go_wp2_with fail;exact hQ'.out _ _ _ T hTT e ⟨rfl,rfl,rfl,trivial⟩ hT'.out
 have hTT':=Lh hTT;have hT':=Lh hT;clear hT hTT;have b1:(T.length:Int)<(count:Int):=by omega
 go_wp2_with fail;go_loopg[22,125] count (fun g bv ci wr=>∃k b,k≤count∧Hid (g=count-k)∧ci= .int .i64 (k:Nat)∧bv= .int .i64 b∧BestTo xss of count T k b∧SG w0 wr xss of count T (fun x=>(waitOf xss of count T x:Int)) gw gt gu gl u20 us vs)
 case atStart=>exact⟨0, -1,Nat.zero_le _,rfl,rfl,rfl,.zero,hT'.out⟩
 obtain⟨k,b,hk,hm2,rfl,rfl,hB,hT⟩:=hrel;by_cases hlk:k<count
 case neg=>
  (obtain rfl:k=count:=by omega);obtain⟨c0,rfl,hc0,h0,hTT2⟩:=hB.done hx'.out hg'.out hTT'.out hlt;obtain⟨g0,m0,cp0,hm0,hv0,_,_⟩:=hT.row hg'.out hul hvl hc0;(have c1:(0:Int)≤(c0:Int):=by omega);(have c2:(c0:Int)<(k:Int):=by omega);(have a0:wr.cell? ⟨gt,c0,none⟩=some (.bool (T.contains c0)):=by rw[hT.cellAt 1 rfl c0 (by omega)];simp[hc0]);have a1:=hT.frozenAt 1 rfl c0;have hS1:=hT.stored 1 rfl c0 (.bool true);simp only[List.set_cons_succ,List.set_cons_zero]at hS1;rw[bools_set]at hS1;(have a2:(wr.setCell ⟨gt,c0,none⟩ (.bool true)).cell? ⟨gl,c0,none⟩=some (.slice (some ⟨g0,0,none⟩) m0 cp0):=by rw[hS1.cellAt 3 rfl c0 (by omega),hv0]);have hS2:=hS1.alloc (.cells #[.slice (some ⟨g0,0,none⟩) m0 cp0] 36);have hS2':=Lh hS2;have hTT2':=Lh hTT2;have hv0':=Lh hv0;have h0':=Lh h0;clear hT hS1 hS2 hTT2 hB hv0 h0;go_wp2_with(at_builtin;refine wpList_append_sep 4 rfl _ _ 27 rfl 36 i0 (.slice none 0 0) 1 24 Tryz.underlying27 hi hz0 hz1 hz2 rfl (by decide) hS2'.out _ _ _ rfl rfl ⟨wr.heap.size,0,none⟩ 1 1 [.slice (some ⟨g0,0,none⟩) m0 cp0] rfl rfl (cells_new _ #[.slice (some ⟨g0,0,none⟩) m0 cp0] _ _ (by simp)) (by simp[Value.oneCell']) (by decide) (by unfold maxLen;omega) (by omega) ?_);intro g cap w2 hS3 hsz;(have hT3:SG w0 w2 xss of k (T++[c0]) (fun x=>(waitOf xss of k T x:Int)) gw gt gu gl (.slice (some ⟨g,0,none⟩) (T.length+1) cap) us vs:=by(have e1:(T++[c0]).map (fun c=>vs.getD c (.slice none 0 0))=T.map (fun c=>vs.getD c (.slice none 0 0))++[.slice (some ⟨g0,0,none⟩) m0 cp0]:=by simp[List.getD,hv0'.out]);unfold SG;rw[e1,List.length_append];simpa using hS3);obtain⟨uv,hu⟩:∃v,us[c0]? =some v:=⟨us[c0]'(by omega),by simp⟩;have hzu:=zip_some (f:=intsR) hu (usersTo_done (xss:=xss) (of:=of) hc0);(have hidx:(List.zipWith intsR us (usersTo xss of k k (fun _=>false))++List.zipWith intsR vs (rowsTo k xss.length of))[c0]? =some (intsR uv ((usersL xss of k c0).map fun(v:Nat)=>(v:Int))):=by rw[List.getElem?_append_left (by simp[hul,usersTo_length];exact hc0),hzu]);have hnum:=hT3.ints (c0+5) hidx;obtain⟨Au,cu,e,_⟩:=hnum.shape;rw[List.length_map]at e;subst e;(have a3:w2.cell? ⟨gu,c0,none⟩=some (.slice Au (usersL xss of k c0).length cu):=by rw[hT3.cellAt 2 rfl c0 (by omega),hu]);have hul2:=usersL_len (xss:=xss) (of:=of) (count:=k) c0;(have c3:(((usersL xss of k c0).length:Nat):Int)≤1024:=by omega);have hT3':=Lh hT3;have hidx':=Lh hidx;clear hT3 hidx hzu hnum hu hS3 hS2';go_wp2_with fail;go_loopg[176] (usersL xss of k c0).length (fun g' ji wr=>∃j:Nat,j≤(usersL xss of k c0).length∧Hid (g'=(usersL xss of k c0).length-j)∧ji= .int .i64 j∧SG w0 wr xss of k (T++[c0]) (waitJ xss of k T c0 j) gw gt gu gl (.slice (some ⟨g,0,none⟩) (T.length+1) cap) us vs)
  case atStart=>exact⟨0,Nat.zero_le _,rfl,rfl,by rw[waitJ_zero];exact hT3'.out⟩
  obtain⟨j,hj,hm3,rfl,hT⟩:=hrel;by_cases hlj:j<(usersL xss of k c0).length
  case neg=>
   (obtain rfl:j=(usersL xss of k c0).length:=by omega);have hT':=Lh hT;clear hT;go_wp2_with fail;go_roundg (k-(T.length+1))
   case measure=>rw[hm1.out];omega
   refine⟨T++[c0],by simp;omega,Lh (by simp),by simp,hTT2'.out,?_⟩;have h:=hT'.out;unfold SG at h ⊢;rw[arr_congr fun v hv=>waitJ_all (xss:=xss) (of:=of) hc0 h0'.out hv]at h;exact h
  obtain⟨x,hx1⟩:∃x,(usersL xss of k c0)[j]? =some x:=⟨_,gE hlj⟩;have hxk:x<k:=(usersL_iff.1 (gG hx1)).1;obtain⟨ad,cu',e,a4⟩:=(hT.ints (c0+5) hidx'.out).at_ (k:=j) (by simpa using hlj);rw[List.length_map]at e;cases e;(have e2:((usersL xss of k c0).map fun(v:Nat)=>(v:Int))[j]'(by simpa using hlj)=(x:Int):=by rw[List.getElem_map];obtain⟨_,e⟩:=gF.1 hx1;rw[e]);rw[e2]at a4;have a5:=arr_at 0 hT rfl x hxk;rw[waitJ_at hx1]at a5;have a6:=hT.frozenAt 0 rfl x;have hS4:=hT.stored 0 rfl x (.int .i64 ((waitOf xss of k T x:Int)-1));simp only[List.set_cons_zero]at hS4;rw[arr_set,waitJ_step hx1]at hS4;have hS4':=Lh hS4;have hwl:=waitOf_le (xss:=xss) (of:=of) (count:=k) (T:=T) x;(have d1:((waitOf xss of k T x:Nat):Int)≤1024:=by omega);(have d2:(0:Int)≤(j:Int):=by omega);(have d3:(j:Int)<(((usersL xss of k c0).length:Nat):Int):=by omega);(have d4:(0:Int)≤(x:Int):=by omega);(have d5:(x:Int)<(k:Int):=by omega);clear hT hS4 e2;go_wp2_with fail;go_roundg ((usersL xss of k c0).length-(j+1))
  case measure=>rw[hm3.out];omega
  case rel=>exact⟨j+1,by omega,rfl,by go_num,hS4'.out⟩
 have c1:(0:Int)≤(k:Int):=by omega
 have c2:(k:Int)<(count:Int):=by omega
 have a0:wr.cell? ⟨gt,k,none⟩=some (.bool (T.contains k)):=by rw[hT.cellAt 1 rfl k (by omega)];simp[hlk]
 have a1:=arr_at 0 hT rfl k hlk;have hT2:=Lh hT;have hB':=Lh hB;obtain⟨gk1,mk1,ck1,hmk1,hvk1,a2,a3⟩:=hT.row hg'.out hul hvl hlk;have hT':=Lh hT2;clear hT;have hstep:∀q,SG w0 (wr.drewN q) xss of count T (fun x=>(waitOf xss of count T x:Int)) gw gt gu gl u20 us vs:=fun q=>Sep.drewN hT2.out q
 have hstep':=Lh hstep;clear hstep hT2;by_cases hkT:k∈T
 ·(have hc:T.contains k=true:=by simpa using hkT);rw[hc]at a0;clear a1 a2 a3 hB;go_wp2_with fail;go_quiet (fail);go_wp2_with fail;go_roundg (count-(k+1))
  case measure=>rw[hm2.out];omega
  case rel=>exact⟨k+1,b,by omega,rfl,by go_num,rfl,hB'.out.skip fun h=>h.1 hkT,hstep'.out _⟩
 have hc:T.contains k=false:=by simpa using hkT
 rw[hc]at a0;by_cases hw:waitOf xss of count T k=0
 case neg=>
  (have b2:(((waitOf xss of count T k:Nat):Int)==0)=false:=by simpa using hw);clear a2 a3 hB;go_wp2_with fail;go_quiet (fail);go_wp2_with fail;go_roundg (count-(k+1))
  case measure=>rw[hm2.out];omega
  case rel=>exact⟨k+1,b,by omega,rfl,by go_num,rfl,hB'.out.skip fun h=>hw h.2,hstep'.out _⟩
 rw[hw]at a1;rcases hB.form with rfl|⟨c0,rfl,hc0⟩
 ·clear a2 a3 hB;go_wp2_with fail;go_quiet (fail);go_wp2_with fail;go_roundg (count-(k+1))
  case measure=>rw[hm2.out];omega
  case rel=>exact⟨k+1,k,by omega,rfl,by go_num,rfl,hB'.out.first hlk ⟨hkT,hw⟩,hstep'.out _⟩
 obtain⟨g0,m0,cp0,hm0,hv0,a4,a5⟩:=hT'.out.row hg'.out hul hvl hc0;have b3:(0:Int)≤(c0:Int):=by omega
 have b4:(c0:Int)<(count:Int):=by omega
 have b5:decide ((c0:Int)<0)=false:=by simp
 have b6:(0:Int)<(mk1:Int):=by omega
 have b7:(0:Int)<(m0:Int):=by omega
 by_cases hcmp:fst' xss.length of k<fst' xss.length of c0
 ·(have b8:decide (fst' xss.length of k<fst' xss.length of c0)=true:=by simpa using hcmp);clear hB;go_wp2_with fail;go_quiet (fail);go_wp2_with fail;go_roundg (count-(k+1))
  case measure=>rw[hm2.out];omega
  case rel=>exact⟨k+1,k,by omega,rfl,by go_num,rfl,hB'.out.take hlk ⟨hkT,hw⟩ hcmp,hstep'.out _⟩
 have b8:decide (fst' xss.length of k<fst' xss.length of c0)=false:=by simpa using hcmp
 clear hB;go_wp2_with fail;go_quiet (fail);go_wp2_with fail;go_roundg (count-(k+1))
 case measure=>rw[hm2.out];omega
 case rel=>exact⟨k+1,c0,by omega,rfl,by go_num,rfl,hB'.out.keep (by omega),hstep'.out _⟩
theorem zip_perm {α β γ:Type} {f:α→β→γ} {n:Nat} {T:List Nat} (hp:T.Perm (List.range n)) {vs:List α} {xs:List β} (g:Nat→α) (h:Nat→β) (hv:vs=(List.range n).map g) (hx:xs=(List.range n).map h):
  (List.zipWith f vs xs).Perm (List.zipWith f (T.map g) (T.map h)):=by
 have key:∀l:List Nat,List.zipWith f (l.map g) (l.map h)=l.map fun c=>f (g c) (h c):=by
  intro l
  induction l with
  |nil=>rfl
  |cons a l ih=>simp[ih]
 rw[hv,hx,key,key];exact(hp.map _).symm
theorem list_range (vs:List Value) (d:Value):vs=(List.range vs.length).map fun c=>vs.getD c d:=by
 apply List.ext_getElem?;intro i;by_cases hi:i<vs.length
 ·simp[hi,List.getD]
 simp[hi]
theorem SG.result {w0 w:World} {xss:List (List Int)} {of:Nat→Int} {count:Nat} {T:List Nat} {wf:Nat→Int} {gw gt gu gl:Nat} {ov:Value} {us vs:List Value}
  (h:SG w0 w xss of count T wf gw gt gu gl ov us vs) (hul:us.length=count) (hvl:vs.length=count) (hp:T.Perm (List.range count)):
  Sep w0 w [rowsR ov (T.map fun c=>(cls xss.length of c).map fun(v:Nat)=>(v:Int))]:=by
 have h1:=Sep.drop 4 h;simp only[List.drop_succ_cons,List.drop_zero]at h1;have h2:=h1.perm (List.perm_middle.symm);have h3:=Sep.drop (List.zipWith intsR us (usersTo xss of count count (fun _=>false))).length h2;rw[List.drop_left]at h3;have hz:=zip_perm (f:=intsR) hp (vs:=vs) (xs:=rowsTo count xss.length of) (fun c=>vs.getD c (.slice none 0 0)) (fun c=>(cls xss.length of c).map fun(v:Nat)=>(v:Int)) (by rw[←hvl];exact list_range _ _) rfl;have h4:=h3.perm (List.Perm.cons _ hz);refine Sep.list_shut (vs:=T.map fun c=>vs.getD c (.slice none 0 0)) (by simp) ?_;rw[List.length_map,List.append_nil];exact h4
set_option maxRecDepth 100000 in
theorem comps_refused {xss:List (List Int)} {w:World} {nv:Value} (hx:refused xss≠0) (hn:RowsAt w nv xss):
  Calls Tryz.prog 41 #[nv] w fun e w'=>e= .returned (.tuple #[.slice none 0 0,.int .i64 (refused xss)])∧w'=w:=by
 obtain⟨A,c,rfl,_⟩:=hn.shape;have b1:(refused xss !=0)=true:=by simpa using hx
 have hck:=check_any w _ xss hn;have hn':=Lh hn;clear hn;go_enter Tryz.func41,Tryz.ntmps41;go_wp2_with(go_at_call 75;refine hck.mono ?_;rintro e w' ⟨rfl,rfl⟩)
 go_ret2
 exact⟨rfl,rfl⟩
set_option maxRecDepth 100000 in
set_option maxHeartbeats 2000000 in
theorem comps_told {xss:List (List Int)} {w:World} {nv:Value} (hx:refused xss=0) (hn:RowsAt w nv xss):
  Calls Tryz.prog 41 #[nv] w fun e w'=>∃v rep T,e= .returned (.tuple #[v,.int .i64 0])∧IsRep xss rep∧Told xss rep T∧Sep w w' [rowsR v (T.map fun i=>(mem xss.length rep i).map fun(v:Nat)=>(v:Int))]:=by
 have hx0:=hx;obtain⟨hl,hrow,hgood⟩:=refused_zero hx;obtain⟨i0,hi,hz0,hz1,hz2⟩:=info_parts info_int;obtain⟨i1,hi1,hz10,hz11,hz12⟩:=info_parts info_ints;obtain⟨i2,hi2,hz20,hz21,hz22⟩:=info_parts info_bool;obtain⟨A,c,rfl,hmax⟩:=hn.shape;clear hmax;have hck:=check_any w _ xss hn;rw[hx]at hck;have hpt:=parted_any hx hn;have hck':=Lh hck;have hpt':=Lh hpt;have hn':=Lh hn;have hx':=Lh hx;clear hn hx hck hpt hrow hgood hx0;go_enter Tryz.func41,Tryz.ntmps41;go_wp2_with(first |(go_at_call 75;refine hck'.out.mono ?_;rintro e w' ⟨rfl,rfl⟩)|(go_at_call 76;refine hpt'.out.mono ?_;rintro e w1 ⟨go,of,count,rfl,hS1,hg⟩;(have hcl:=hg.le);(have hS1':=Lh hS1);(have hg':=Lh hg);clear hS1 hg;have hmk1:=fun W:World=>run_make_n (P:=Tryz.prog) 27 36 i1 (.slice none 0 0) 24 Tryz.underlying27 hi1 hz10 hz11 hz12 rfl .i64 .i64 count (by omega) (by unfold maxLen;omega) W));have hS2:=hS1'.out.made 36 (.slice none 0 0) count (by unfold maxLen;omega);have hS3:=hS2.nils count;rename_i K hK;have hSC:SC w (w1.alloc (.cells (madeCells #[.slice none 0 0] count) 36)) xss.length count 0 of go w1.heap.size:=
  ⟨List.replicate count (.slice none 0 0),by simp,by rw[rowsTo_zero];exact hS3.sel [1,0] (by decide) (by simp)⟩
 refine comps_rows hl hcl (fun v hv=>⟨hg'.out.lo v hv,hg'.out.hi v⟩) ⟨rfl,rfl,rfl,rfl,rfl,rfl,trivial⟩ hSC ?_;intro ac2 w2 h1 h2 h3 hS4;have hF:Fm 189 ac2 [.slice A xss.length c,undef,.slice none 0 0,.int .i64 0,.int .i64 0,.slice (some ⟨go,0,none⟩) xss.length xss.length,.int .i64 count,.slice (some ⟨w1.heap.size,0,none⟩) count count]:=⟨h3,h2,h1⟩;generalize w1.heap.size=gl at hF hS4;obtain⟨f,rfl⟩:=Fm.lit (m:=181) hF rfl;clear h1 h2 h3 hF hSC hS3 hS2 hpt' hck';show K _ w2
 apply hK;clear hK;simp only[lits,Nat.reduceAdd,List.cons_append,List.nil_append];obtain⟨vs,hvl,hS4⟩:=hS4;have hmk0:=fun W:World=>run_make_n (P:=Tryz.prog) 36 3 i0 (.int .i64 0) 8 Tryz.underlying36 hi hz0 hz1 hz2 rfl .i64 .i64 count (by omega) (by unfold maxLen;omega) W
 have hS5:=((((hS4.made 3 (.int .i64 0) count (by unfold maxLen;omega)).made 36 (.slice none 0 0) count (by unfold maxLen;omega)).imap_new).nils count);simp only[World.size_alloc,Nat.add_assoc,Nat.reduceAdd]at hS5;have hS5':=Lh hS5;clear hS5 hS4;have hmm:= @run_makeMap Tryz.prog;go_wp2_with fail;generalize hgw:w2.heap.size=gw at hS5' ⊢;have hSD:SD w (((w2.alloc (.cells (madeCells #[.int .i64 0] count) 3)).alloc (.cells (madeCells #[.slice none 0 0] count) 36)).alloc (.map #[] 0)) xss of count 0 (fun _=>false) 0 (gw+2) gw (gw+1) gl go (fun _=>0) vs:=by refine⟨List.replicate count (.slice none 0 0),by simp,?_⟩;rw[waitTo_zero,usersTo_zero,←zeros_arr];have h1:=hS5'.out.perm (List.Perm.append_left [_,_,_,_,_] List.perm_append_comm);exact h1.sel [0,2,3,1,4] (by decide) (by simp)
 clear hS5';have hSD':=Lh hSD;clear hSD;rename_i K hK;refine comps_waits hx'.out hg'.out hn'.out hvl 0 (fun _=>0) ⟨rfl,rfl,rfl,rfl,rfl,rfl,rfl,rfl,rfl,rfl,trivial⟩ hSD'.out ?_;intro ac3 w3 m F h1 h2 h3 hS6;have hF:Fm 189 ac3 [.slice A xss.length c,undef,.slice none 0 0,.int .i64 0,.int .i64 0,.slice (some ⟨go,0,none⟩) xss.length xss.length,.int .i64 count,.slice (some ⟨gl,0,none⟩) count count,f 0,f 1,.slice (some ⟨gw,0,none⟩) count count,.slice (some ⟨gw+1,0,none⟩) count count,.map (some (gw+2))]:=⟨h3,h2,h1⟩;obtain⟨f',rfl⟩:=Fm.lit (m:=176) hF rfl;clear h1 h2 h3 hF hSD' hgw hmm hmk0 hmk1;show K _ w3
 apply hK;clear hK;simp only[lits,Nat.reduceAdd,List.cons_append,List.nil_append];obtain⟨us,hul,hS6⟩:=hS6;have hmk2:=fun W:World=>run_make_n (P:=Tryz.prog) 78 4 i2 (.bool false) 1 Tryz.underlying78 hi2 hz20 hz21 hz22 rfl .i64 .i64 count (by omega) (by unfold maxLen;omega) W
 have hS7:=(hS6.made 4 (.bool false) count (by unfold maxLen;omega)).sl_nil 36 1;have hS8:SG w (w3.alloc (.cells (madeCells #[.bool false] count) 4)) xss of count [] (fun x=>(waitOf xss of count [] x:Int)) gw w3.heap.size (gw+1) gl (.slice none 0 0) us vs:=by unfold SG;rw[←arr_congr fun v hv=>waitOf_nil (xss:=xss) (of:=of) v hv];(have e:(List.range count).map (fun c=>Value.bool (([]:List Nat).contains c))=List.replicate count (.bool false):=by apply List.ext_getElem?;intro i;by_cases hi:i<count<;>simp[hi]);rw[e];exact Sep.drop 2 (hS7.sel [2,4,3,1,5,6,0] (by decide) (by simp))
 have hS8':=Lh hS8;clear hS6 hS7 hS8;go_wp2_with fail;rename_i K hK;refine comps_tell hx'.out hg'.out hul hvl ⟨rfl,rfl,rfl,rfl,rfl,rfl,rfl,rfl,rfl,trivial⟩ hS8'.out ?_;intro ac4 w4 ov T hT hTl hF hS9;obtain⟨f4,rfl,h20, -⟩:=hF.lit;simp only at h20;show K _ w4
 apply hK;clear hK hF;simp only[lits,Nat.reduceAdd,h20];have hR:=hS9.result hul hvl (hT.perm hTl);rw[hT.rows hg'.out]at hR;have hR':=Lh hR;clear hR hS9 hS8' hmk2;go_wp2_with fail
 go_ret2
 exact⟨ov,repOf xss of,T.map (fst' xss.length of),rfl,hg'.out.isRep hx'.out,hT.told hg'.out hTl,hR'.out⟩
theorem Sep.grownAny {w0 w w':World} {As:List Asn} {e:TypeId} {sz n m:Nat} {v v':Value} {cs cs':List Value} (i:Nat) (h:Sep w0 w As) (hi:As[i]? =some (.sl e sz v n cs))
  (hown:w'.ownsRow 0 e sz v' m cs') (hgrow:w.grownBy w' v.ownBlock) (hat:v'.ownBlock=v.ownBlock∨v'.ownBlock=some w.heap.size):
  Sep w0 w' (As.set i (.sl e sz v' m cs')):=by
 refine h.step i hi fun F ⟨ho,hF⟩ _=>⟨v'.ownBlock.toList,⟨hown,rfl⟩,fun b hb=>?_,?_⟩
 ·rcases hat with hat|hat
  ·left;rw[hF,←hat];exact hb
  right;rw[hat]at hb;simp at hb;omega
 rw[hF];exact Keeps.of_grown hgrow
theorem run_append_sep {P:Program} {w0 w:World} {As:List Asn} (k:Nat) (t ty e:TypeId) (i:TypeInfo) (z:Value) (size bytes:Nat) (ht:P.underlying t=some (.slice e)) (hi:P.info? e=some i) (hz:i.zero=some z)
  (hsize:i.size=size) (hby:i.bytes=bytes) (hzs:z.cells.size=size) (hsz:0<size)
  (hS:Sep w0 w As) (v:Value) (n:Nat) (cs:List Value) (hk:As[k]? =some (.sl e size v n cs))
  (xv:Value) (m:Nat) (news:List Value) (hr:Rd w size xv m news) (h1:∀u∈news,u.oneCell'=true) (h63:n+m≤maxLen) (hbytes:(n+m)*bytes≤140737488355328):
  ∃v' w',(Builtin.append_ #[t,t] ty #[v,xv]).run P w= .ok v' w'∧Sep w0 w' (As.set k (.sl e size v' (n+m) (cs++news)))∧w.heap.size≤w'.heap.size:=by
 obtain⟨F,⟨hown,hF⟩,_⟩:=hS.get k hk;obtain⟨hl,A,c,rfl,h2,h3,h4⟩:=hr;rcases A with _|ad
 ·have hm:m=0:=by
   rcases Nat.eq_zero_or_pos m with h0|h0
   ·exact h0
   obtain⟨ad,h,_⟩:=h4 h0;cases h
  subst hm;have hn:news=[]:=List.eq_nil_of_length_eq_zero (by simpa using hl);subst hn;have hrun:(Builtin.append_ #[t,t] ty #[v,.slice none 0 c]).run P w= .ok v w:=by
   rcases hown.2 with⟨rfl,rfl⟩|⟨g,cap,cur,rfl,_,_,hnc,_⟩
   ·simp[Builtin.append_,run_underlying ht,sizeOf,typeInfo,hi,Builtin.lenOf,Builtin.firstCells]
   simp[Builtin.append_,run_underlying ht,sizeOf,typeInfo,hi,Builtin.lenOf,Builtin.firstCells,hnc,storeCells]
  refine⟨v,w,hrun,?_,Nat.le_refl _⟩;rw[Nat.add_zero,List.append_nil];obtain⟨hlt,e'⟩:=gF.1 hk;rw[←e',List.set_getElem_self];exact hS
 have hcells:∀j u,news[j]? =some u→w.cell? (ad.add j)=some u:=by
  intro j u hu;rcases Nat.eq_zero_or_pos m with h0|h0
  ·subst h0;have hn:news=[]:=List.eq_nil_of_length_eq_zero (by simpa using hl);subst hn;simp at hu
  obtain⟨ad',h,_,hc⟩:=h4 h0;injection h with h;subst h;exact hc j u hu
 obtain⟨v',w',hrun,h5,h6,_,h7⟩:=run_append_own_at (P:=P) w 0 t ty e i z size bytes ht hi hz hsize hby hzs hsz v n cs hown ad m c news hl hcells h1 h63 hbytes (Nat.zero_le _);exact⟨v',w',hrun,hS.grownAny k hk h5 h6 h7,h6.size⟩
section
variable {P:Program} {w0 w:World} {As:List Asn} {ops:Array Oper} {rest:List Oper} {o:Oper} {a:Act} {Q:Exit→Act→World→Prop}
theorem wp_append_any_sep {K:Act→World→Prop} (k:Nat) (s x:Operand) (t:TypeId)
  (ho:o.op= .call {callee:=.builtin .append,args:=#[s,x],argTypes:=#[t,t]})
  (e:TypeId) (i:TypeInfo) (z:Value) (size bytes:Nat) (ht:P.underlying t=some (.slice e)) (hi:P.info? e=some i) (hz:i.zero=some z)
  (hsize:i.size=size) (hby:i.bytes=bytes) (hzs:z.cells.size=size) (hsz:0<size)
  (hS:Sep w0 w As) (v:Value) (n:Nat) (cs:List Value) (hk:As[k]? =some (.sl e size v n cs)) (hs:a.eval s=v)
  (xv:Value) (m:Nat) (news:List Value) (hx:a.eval x=xv) (hr:Rd w size xv m news) (h1:∀u∈news,u.oneCell'=true)
  (h63:n+m≤maxLen) (hbytes:(n+m)*bytes≤140737488355328)
  (h:∀v' w',Sep w0 w' (As.set k (.sl e size v' (n+m) (cs++news)))→w.heap.size≤w'.heap.size→K (a.put o.dst v') w'):
  o.wp P a w K Q:=by
 obtain⟨v',w',hrun,h2,h3⟩:=run_append_sep (P:=P) k t o.type e i z size bytes ht hi hz hsize hby hzs hsz hS v n cs hk xv m news hr h1 h63 hbytes;unfold Oper.wp execOp;simp only[ho,resolve,invoke,builtin,Sem.run_bind,Sem.run_pure,Result.andThen_ok,List.map_toArray,List.map_cons,List.map_nil,hs,hx,hrun];exact h v' w' h2 h3
theorem wpList_append_any_sep (k:Nat) (hgd:o.guard=none) (s x:Operand) (t:TypeId)
  (ho:o.op= .call {callee:=.builtin .append,args:=#[s,x],argTypes:=#[t,t]})
  (e:TypeId) (i:TypeInfo) (z:Value) (size bytes:Nat) (ht:P.underlying t=some (.slice e)) (hi:P.info? e=some i) (hz:i.zero=some z)
  (hsize:i.size=size) (hby:i.bytes=bytes) (hzs:z.cells.size=size) (hsz:0<size)
  (hS:Sep w0 w As) (v:Value) (n:Nat) (cs:List Value) (hk:As[k]? =some (.sl e size v n cs)) (hs:a.eval s=v)
  (xv:Value) (m:Nat) (news:List Value) (hx:a.eval x=xv) (hr:Rd w size xv m news) (h1:∀u∈news,u.oneCell'=true)
  (h63:n+m≤maxLen) (hbytes:(n+m)*bytes≤140737488355328)
  (h:∀v' w',Sep w0 w' (As.set k (.sl e size v' (n+m) (cs++news)))→w.heap.size≤w'.heap.size→wpList P ops Q rest (a.put o.dst v') w'):
  wpList P ops Q (o::rest) a w:=
 wpList_plain hgd fun _ hK=>wp_append_any_sep k s x t ho e i z size bytes ht hi hz hsize hby hzs hsz hS v n cs hk hs xv m news hx hr h1 h63 hbytes fun v' w' h2 h3=>hK _ _ (h v' w' h2 h3)
theorem step_append_any_sep {K:Act→World→Prop} {E:Prop} (k:Nat) (hgd:o.guard=none) (s x:Operand) (t:TypeId)
  (ho:o.op= .call {callee:=.builtin .append,args:=#[s,x],argTypes:=#[t,t]})
  (e:TypeId) (i:TypeInfo) (z:Value) (size bytes:Nat) (ht:P.underlying t=some (.slice e)) (hi:P.info? e=some i) (hz:i.zero=some z)
  (hsize:i.size=size) (hby:i.bytes=bytes) (hzs:z.cells.size=size) (hsz:0<size)
  (hS:Sep w0 w As) (v:Value) (n:Nat) (cs:List Value) (hk:As[k]? =some (.sl e size v n cs)) (hs:a.eval s=v)
  (xv:Value) (m:Nat) (news:List Value) (hx:a.eval x=xv) (hr:Rd w size xv m news) (h1:∀u∈news,u.oneCell'=true)
  (h63:n+m≤maxLen) (hbytes:(n+m)*bytes≤140737488355328)
  (h:∀v' w',Sep w0 w' (As.set k (.sl e size v' (n+m) (cs++news)))→w.heap.size≤w'.heap.size→K (a.put o.dst v') w'):
  if Region.wanted o (yielded ops a.tmps)=true then Oper.wp P o a w K Q else E:=by
 have hw:Region.wanted o (yielded ops a.tmps)=true:=by simp[Region.wanted,hgd]
 rw[if_pos hw];exact wp_append_any_sep k s x t ho e i z size bytes ht hi hz hsize hby hzs hsz hS v n cs hk hs xv m news hx hr h1 h63 hbytes h
end
end Go.Proofs.YtimkjnbihlgbiaaGreat
