/- DocO, laid together. -/
import Derived.Test.YtimkjnbihlgbiaaGreatJ46
import Derived.Deep.DeepCutAuto
namespace Go.Proofs.YtimkjnbihlgbiaaGreat
open Go.RowKit
set_option linter.unusedVariables false
set_option linter.unusedSimpArgs false
def ordO (gd bt m:Nat) (ov nvT fvT:Value) (out:List Int) (KT:Asn):List Asn:=[.sl 4 1 (.slice (some ⟨gd,0,none⟩) m m) m (doneV m out),intsR ov out,.box bt 25 #[nvT,fvT],KT]
def ordI (bl:Nat) (B I:Int) (nvN fvN:Value) (KN:Asn) (R:List Asn):List Asn:=.box (bl+1) 25 #[nvN,fvN]:: .box bl 80 #[.int .i64 B,.int .i64 I]::KN::R
theorem ordO_kt {w0 w:World} {gd bt m:Nat} {ov nvT fvT:Value} {out:List Int} {KT:Asn} {T:TR} (h:Holds1 w0 KT nvT fvT T) (hS:Sep w0 w (ordO gd bt m ov nvT fvT out KT)):∃vs,TreeAt w nvT fvT T.1 T.2 vs:=
 h w _ (Sep.sel [3,0,1,2] hS (by decide) (by simp[ordO]))
theorem ordI_kt {w0 w:World} {gd bt bl m:Nat} {B I:Int} {ov nvT fvT nvN fvN:Value} {out:List Int} {KT KN:Asn} {T:TR} (h:Holds1 w0 KT nvT fvT T) (hS:Sep w0 w (ordI bl B I nvN fvN KN (ordO gd bt m ov nvT fvT out KT))):∃vs,TreeAt w nvT fvT T.1 T.2 vs:=
 ordO_kt h (Sep.drop 3 hS)
theorem ordI_kn {w0 w:World} {gd bt bl m:Nat} {B I:Int} {ov nvT fvT nvN fvN:Value} {out:List Int} {KT KN:Asn} {N:TR} (h:Holds2 w0 KT KN nvN fvN N) (hS:Sep w0 w (ordI bl B I nvN fvN KN (ordO gd bt m ov nvT fvT out KT))):∃vs,TreeAt w nvN fvN N.1 N.2 vs:=
 h w _ (Sep.sel [6,2,0,1,3,4,5] hS (by decide) (by simp[ordO,ordI]))
theorem ordU_ku {w0 w:World} {gd bt bl bu m:Nat} {B I G J:Int} {ov nvT fvT nvN fvN nvU fvU:Value} {out:List Int} {KT KN KU:Asn} {U:TR} (h:Holds2 w0 KT KU nvU fvU U) (hS:Sep w0 w (ordI bu G J nvU fvU KU (ordI bl B I nvN fvN KN (ordO gd bt m ov nvT fvT out KT)))):∃vs,TreeAt w nvU fvU U.1 U.2 vs:=
 h w _ (Sep.sel [9,2,0,1,3,4,5,6,7,8] hS (by decide) (by simp[ordO,ordI]))
theorem upd_cells {w0 w:World} {bl bu:Nat} {B I G J:Int} {nvN fvN x y:Value} {KN KU:Asn} {R:List Asn} (h:Sep w0 w (ordI bu G J x y KU (ordI bl B I nvN fvN KN R))):
  w.cell? ⟨bu,0,none⟩=some (.int .i64 G)∧w.cell? ⟨bu,1,none⟩=some (.int .i64 J)∧w.cell? ⟨bl,0,none⟩=some (.int .i64 B)∧w.cell? ⟨bl,1,none⟩=some (.int .i64 I)∧w.frozen? ⟨bl,0,none⟩=false∧w.frozen? ⟨bl,1,none⟩=false∧
  ((w.setCell ⟨bl,0,none⟩ (.int .i64 G)).setCell ⟨bl,1,none⟩ (.int .i64 J)).cell? ⟨bu+1,0,none⟩=some x∧((w.setCell ⟨bl,0,none⟩ (.int .i64 G)).setCell ⟨bl,1,none⟩ (.int .i64 J)).cell? ⟨bu+1,1,none⟩=some y∧
  ((w.setCell ⟨bl,0,none⟩ (.int .i64 G)).setCell ⟨bl,1,none⟩ (.int .i64 J)).frozen? ⟨bl+1,0,none⟩=false∧((w.setCell ⟨bl,0,none⟩ (.int .i64 G)).setCell ⟨bl,1,none⟩ (.int .i64 J)).frozen? ⟨bl+1,1,none⟩=false∧
  ((w.setCell ⟨bl,0,none⟩ (.int .i64 G)).setCell ⟨bl,1,none⟩ (.int .i64 J)).cell? ⟨bl+1,0,none⟩=some nvN∧((w.setCell ⟨bl,0,none⟩ (.int .i64 G)).setCell ⟨bl,1,none⟩ (.int .i64 J)).cell? ⟨bl+1,1,none⟩=some fvN∧
  Sep w0 ((((w.setCell ⟨bl,0,none⟩ (.int .i64 G)).setCell ⟨bl,1,none⟩ (.int .i64 J)).setCell ⟨bl+1,0,none⟩ x).setCell ⟨bl+1,1,none⟩ y) (ordI bl G J x y KU R):=by
 have h2:=(h.bS 4 rfl 0 (.int .i64 G)).bS 4 rfl 1 (.int .i64 J);have h3:=(h2.bS 3 rfl 0 x).bS 3 rfl 1 y;exact⟨h.bC 1 rfl 0,h.bC 1 rfl 1,h.bC 4 rfl 0,h.bC 4 rfl 1,h.bF 4 rfl 0,h.bF 4 rfl 1,h2.bC 0 rfl 0,h2.bC 0 rfl 1,h2.bF 3 rfl 0,h2.bF 3 rfl 1,h2.bC 3 rfl 0,h2.bC 3 rfl 1,Sep.drop 3 (Sep.sel [0,1,5,3,4,2] h3 (by decide) (by simp[ordI]))⟩
set_option maxRecDepth 100000 in
set_option maxHeartbeats 8000000 in
theorem reforder_any (thr:Bool) {xss:List (List Int)} {w:World} {vn:Value} {m:Nat} (hn:RowsAt w vn xss) (hm:xss.length=m) (hm9:m≤500) (hx:refused xss=0) (hr:roundRows xss=[]) {nv fv av sv:Value} {T0:TR} {vs:List Value} (h:TreeAt w nv fv T0.1 T0.2 vs) (ho:LooseOk T0.1 T0.2) {xs:List Ins} (hxl:xs.length=m) (ha:InsAt w av xs) (hxo:InsOk xs) {cs:List Value} (hsv:StockAt w sv cs):
  Calls Tryz.prog 15 #[.agg #[nv,fv],av,vn,sv,.bool thr] w fun e w'=>∃v,e= .returned (.tuple #[v,.int .i64 0])∧Sep w w' [intsR v (docO thr (grD xs cs) (nxD xs cs) xss m T0 [])]:=by
 have hS0:=(Sep.nil w).bN 25 #[nv,fv];have hTB:∀W,Below w.heap.size w W→TreeAt W nv fv T0.1 T0.2 vs:=fun W hW=>h.below hW
 have hRB:∀W,Below w.heap.size w W→RowsAt W vn xss:=fun W hW=>hn.below hW
 obtain⟨An,cn,rfl,hmn⟩:=hn.shape;obtain⟨A1,c1,rfl,hm1⟩:=h.nodes.shape;obtain⟨A2,c2,rfl,hm2⟩:=h.files.shape;obtain⟨Aa,ca,rfl,hma⟩:=ha.shape;obtain⟨Ak,ck,rfl,hmk⟩:=hsv.1.shape;rw[hxl]at hma;have e3:(Value.slice Aa xs.length ca)= .slice Aa m ca:=by rw[hxl]
 have ha2:InsAt w (.slice Aa m ca) xs:=by rw[hxl]at ha;exact ha
 rw[e3];clear ha e3;have hE0:refE T0.1 T0.2 xss m=0:=by unfold refE orderE;rw[if_pos (ok_loose ho),if_neg (by simpa using hx),if_neg (by simpa using hm),if_neg (by simpa using hr)]
 have hrf:=reforder_refused (hTB _ hS0.below) ho.sm (hRB _ hS0.below) (by omega) (Aa:=Aa) (m:=m) (ca:=ca) (by omega);rw[hE0]at hrf;obtain⟨i0,hif,hz0,hz1,hz2⟩:=info_parts info_int;obtain⟨i2,hi2,hz20,hz21,hz22⟩:=info_parts info_bool;have hmk1:=fun W:World=>run_make_n (P:=Tryz.prog) 78 4 i2 (.bool false) 1 Tryz.underlying78 hi2 hz20 hz21 hz22 rfl .i64 .i64 m (by omega) (by unfold maxLen;omega) W
 obtain⟨gr,hgr⟩:∃g,grD xs cs=g:=⟨_,rfl⟩;obtain⟨nx,hnx⟩:∃g,nxD xs cs=g:=⟨_,rfl⟩;rw[hgr,hnx];obtain⟨RES,hRES⟩:∃r,docO thr gr nx xss m T0 []=r:=⟨_,rfl⟩;rw[hRES];have hst:∀T:TR,LooseOk T.1 T.2→∀i,LooseOk (nx T i).1 (nx T i).2:=fun T hT i=>by rw[←hnx];exact(stepsD hxo cs).next T hT i
 have hst':=Lh hst;have hRES':=Lh hRES;have hgr':=Lh hgr;have hnx':=Lh hnx;have hRB':=Lh hRB;have hrf':=Lh hrf;have hx':=Lh hx;have hr':=Lh hr;have h':Hid (Holds1 w .emp (.slice A1 T0.1.length c1) (.slice A2 T0.2.length c2) T0):=fun w' R hS=>⟨vs,h.below hS.below⟩
 have ho':=Lh ho;have ha':=Lh ha2;have hxo':=Lh hxo;have hsv':=Lh hsv;have hxl':=Lh hxl;have hmeq:=Lh hm;have hS0':=Lh hS0;have c0:=hS0.bC 0 rfl 0;have c9:=hS0.bC 0 rfl 1;simp only[gA,gB,gC]at c0 c9;clear hS0 hTB hRB hE0 hrf hRES hgr hnx hx hr h ho ha2 hxo hsv hxl hn hst;rw[hm];clear hm;go_enter Tryz.func15,Tryz.ntmps15;go_wp2_with(go_at_call 32;refine(hmeq.out▸hrf'.out).mono ?_;rintro e w1 ⟨rfl,hb1⟩;(have hS1:=hS0'.out.pure hb1);(have hS2:=hS1.made 4 (.bool false) m (by unfold maxLen;omega));(have d0:=hS2.bC 1 rfl 0);(have d1:=hS2.bC 1 rfl 1);simp only[gA,gB,gC]at d0 d1;(have hS2':=Lh hS2);clear hb1 hS1 hS2);have hS3:=((hS2'.out.bN 25 #[.slice A1 T0.1.length c1,.slice A2 T0.2.length c2]).sl_nil 3 1).emp_shut;simp only[World.size_alloc]at hS3;have hS4:Sep w ((w1.alloc (.cells (madeCells #[.bool false] m) 4)).alloc (.cells #[.slice A1 T0.1.length c1,.slice A2 T0.2.length c2] 25)) (ordO w1.heap.size (w1.heap.size+1) m (.slice none 0 0) (.slice A1 T0.1.length c1) (.slice A2 T0.2.length c2) [] .emp):=by unfold ordO;rw[doneV_nil];exact Sep.fst (X:=[_,_,_,_]) (Sep.sel [3,1,2,0] hS3 (by decide) (by simp))
 have hS4':=Lh hS4;clear hS3 hS4 d0 d1 c0 c9 hmk1 hS2' hS0' hrf';generalize w1.heap.size+1=bt at hS4' ⊢;generalize w1.heap.size=gd at hS4' ⊢;go_loopg[14] m (fun g ov wr=>∃(f:Nat) (T:TR) (out:List Int) (nvT fvT:Value) (KT:Asn),Hid (g=f)∧Hid (docO thr gr nx xss f T out=RES)∧Hid (LooseOk T.1 T.2)∧Hid (out.length+f=m)∧Hid (Holds1 w KT nvT fvT T)∧Sep w wr (ordO gd bt m ov nvT fvT out KT))
 case atStart=>exact⟨m,T0,[],_,_,_,rfl,hRES'.out,ho'.out,Lh (by simp),h',hS4'.out⟩
 clear hS4' h' ho' hRES';obtain⟨f,T,out,nvT,fvT,KT,hg,hres,hlo,hlen,hkT,hS⟩:=hrel;obtain⟨Av,cv,rfl,_⟩:=(hS.ints 1 rfl).shape;cases f with
 |zero=>
  (have hl:¬(out.length:Int)<(m:Int):=by have:=hlen.out;omega);have hS':=Lh hS;clear hS;go_wp2_with fail
  go_ret2
  refine⟨_,rfl,?_⟩;have e:out=RES:=hres.out;rw[←e];exact Sep.fst (X:=[_]) (Sep.drop 1 hS'.out)
 |succ f=>
  (have hl:(out.length:Int)<(m:Int):=by have:=hlen.out;omega);obtain⟨vsT,hTA⟩:=ordO_kt hkT.out hS;obtain⟨A3,c3,rfl,_⟩:=hTA.nodes.shape;obtain⟨A4,c4,rfl,_⟩:=hTA.files.shape;have hSa:=hS.bN 80 #[.int .i64 0,.int .i64 0];have d0:=hSa.bC 3 rfl 0;have d1:=hSa.bC 3 rfl 1;simp only[gA,gB,gC]at d0 d1;have hSb:=(hSa.bN 25 #[.slice A3 T.1.length c3,.slice A4 T.2.length c4]).emp_shut;simp only[World.size_alloc]at hSb;have hSc:Sep w ((wr.alloc (.cells #[.int .i64 0,.int .i64 0] 80)).alloc (.cells #[.slice A3 T.1.length c3,.slice A4 T.2.length c4] 25)) (ordI wr.heap.size 0 0 (.slice A3 T.1.length c3) (.slice A4 T.2.length c4) .emp (ordO gd bt m (.slice Av out.length cv) (.slice A3 T.1.length c3) (.slice A4 T.2.length c4) out KT)):=
   Sep.sel [1,2,0] hSb (by decide) (by simp[ordO])
  have hSc':=Lh hSc;have hol:=Lh hl;clear hSa hSb hSc hS hTA;go_wp2_with fail;clear d0 d1 hl;generalize wr.heap.size=bl at hSc' ⊢;go_loopg[16,19] m (fun g2 bv iv wr4=>∃(i:Nat) (B I:Int) (nvN fvN:Value) (KN:Asn),Hid (g2=m-i)∧i≤m∧iv= .int .i64 i∧bv= .int .i64 (bestD thr gr T (rdyL xss out i))∧Hid ((B,I)=leastD thr gr T (rdyL xss out i))∧Hid (Holds2 w KT KN nvN fvN (nextD thr gr nx T (rdyL xss out i)))∧Sep w wr4 (ordI bl B I nvN fvN KN (ordO gd bt m (.slice Av out.length cv) (.slice A3 T.1.length c3) (.slice A4 T.2.length c4) out KT)))
  case atStart=>exact⟨0,0,0,_,_,.emp,rfl,Nat.zero_le _,rfl,rfl,rfl,hkT.out.two,hSc'.out⟩
  clear hSc';obtain⟨i,B,I,nvN,fvN,KN,hg2,him,rfl,rfl,hBI,hkN,hS4⟩:=hrel;obtain⟨vsN,hNA⟩:=ordI_kn hkN.out hS4;obtain⟨A5,c5,e5,_⟩:=hNA.nodes.shape;obtain⟨A6,c6,e6,_⟩:=hNA.files.shape;subst e5;subst e6;clear hNA;by_cases hlt:i<m
  case pos=>
   (have q1:(0:Int)≤(i:Int):=by omega);(have q2:(i:Int)<(m:Int):=by omega);obtain⟨ad,c',ur,e,h3,h4⟩:=(hRB'.out w (Below.refl _ _)).at_ (k:=i) (by rw[hmeq.out];exact hlt);rw[hmeq.out]at e;cases e;obtain⟨Ar,cr,rfl,hmr⟩:=h4.shape;have hrl:(xss[i]'(by rw[hmeq.out];exact hlt)).length≤1024:=(refused_zero hx'.out).2.1 i _;(have hgood:∀y∈xss[i]'(by rw[hmeq.out];exact hlt),0≤y∧y<(m:Int):=by intro y hy;obtain⟨a2,h2,rfl⟩:=List.mem_iff_getElem.1 hy;have:=(refused_zero hx'.out).2.2 i (by rw[hmeq.out];exact hlt) a2 h2;have e:=hmeq.out;omega);have hrd:rdyK (xss[i]'(by rw[hmeq.out];exact hlt)) out i (xss[i]'(by rw[hmeq.out];exact hlt)).length=rdyB xss out i:=rdyK_all _;generalize xss[i]'(by rw[hmeq.out];exact hlt)=row at h3 h4 hrl hgood hrd hmr;(have hRow:∀W,Below w.heap.size w W→W.cell? (ad.add i)=some (.slice Ar row.length cr)∧IntsAt W (.slice Ar row.length cr) row:=fun W hW=>⟨(hW.cell (World.block_lt_of_cell? w _ h3)).trans h3,h4.below hW⟩);(have b9:(row.length:Int)≤1024:=by omega);have hRow':=Lh hRow;have hrl':=Lh hrl;have hgood':=Lh hgood;have hrd':=Lh hrd;have d2:wr.cell? ⟨gd,i,none⟩=some (.bool (decide ((i:Int)∈out))):=(hS4.cellAt 3 rfl i (by omega)).trans (doneV_at out hlt);obtain⟨bi,hbi⟩:∃b,decide ((i:Int)∈out)=b:=⟨_,rfl⟩;rw[hbi]at d2;(have hk0:Hid (rdyK row out i 0= !bi):=by refine Lh ?_;unfold rdyK;rw[hbi];simp);have hlt':=Lh hlt;have hS4':=Lh hS4;clear hRow hrl hgood hrd hbi h3 h4 hS4 hlt;go_wp2_with fail;clear d2;go_loopw[20,21] (fun rv kv wr5=>∃k:Nat,k≤row.length∧kv= .int .i64 k∧rv= .bool (rdyK row out i k)∧Sep w wr5 (ordI bl B I (.slice A5 (nextD thr gr nx T (rdyL xss out i)).1.length c5) (.slice A6 (nextD thr gr nx T (rdyL xss out i)).2.length c6) KN (ordO gd bt m (.slice Av out.length cv) (.slice A3 T.1.length c3) (.slice A4 T.2.length c4) out KT))) (fun _ kv _=>row.length-(intOf kv).toNat)
   case atStart=>exact⟨0,Nat.zero_le _,rfl,by rw[hk0.out],hS4'.out⟩
   clear hS4';obtain⟨k,hk,rfl,rfl,hS5⟩:=hrel;obtain⟨r1,r2⟩:=hRow'.out _ hS5.below;(have q3:(0:Int)≤(k:Int):=by omega);by_cases hkl:k<row.length
   ·(have q4:(k:Int)<(row.length:Int):=by omega);obtain⟨adr,cr',e,h6⟩:=r2.at_ (k:=k) hkl;cases e;obtain⟨y,hy⟩:∃y:Nat,row[k]=(y:Int):=⟨row[k].toNat,by have:=(hgood'.out _ (List.getElem_mem hkl)).1;omega⟩;(have hym:y<m:=by have:=(hgood'.out _ (List.getElem_mem hkl)).2;omega);have hsucc:=rdyK_succ (out:=out) (i:=i) hkl;rw[hy]at h6 hsucc;have d5:=(hS5.cellAt 3 rfl y (by omega)).trans (doneV_at out hym);obtain⟨bd,hbd⟩:∃b,decide ((y:Int)∈out)=b:=⟨_,rfl⟩;rw[hbd]at d5 hsucc;(have q5:(0:Int)≤(y:Int):=by omega);(have q6:(y:Int)<(m:Int):=by omega);have hsucc':=Lh hsucc;have hS5':=Lh hS5;have hkl':=Lh hkl;clear hsucc hS5 hbd hy r2 hkl hym;generalize rdyK row out i k=rb at hsucc' ⊢;cases rb with
    |false=>
     go_wp2_with fail;go_roundw
     case rel=>exact⟨k+1,by have:=hkl'.out;omega,by go_num,by rw[hsucc'.out];rfl,hS5'.out⟩
     case measure=>have:=hkl'.out;simp[intOf];omega
    |true=>
     go_wp2_with fail;go_roundw
     case rel=>exact⟨k+1,by have:=hkl'.out;omega,by go_num,by rw[hsucc'.out,Bool.true_and],hS5'.out⟩
     case measure=>have:=hkl'.out;simp[intOf];omega
   (obtain rfl:k=row.length:=by omega);(have q4:¬(row.length:Int)<(row.length:Int):=by omega);rw[hrd'.out];have hsn:=rdyL_succ xss out i;obtain⟨rb,hrb⟩:∃b,rdyB xss out i=b:=⟨_,rfl⟩;rw[hrb]at hsn ⊢;have hS5':=Lh hS5;clear hrb hS5 r2 hkl;cases rb with
   |false=>
    have e9:Hid (rdyL xss out (i+1)=rdyL xss out i):=Lh (by rw[hsn,if_neg (by decide),List.append_nil]);clear hsn;go_wp2_with fail;go_roundg (m-(i+1))
    case measure=>have:=hg2.out;have:=hlt'.out;omega
    case rel=>exact⟨i+1,B,I,_,_,KN,rfl,by have:=hlt'.out;omega,by go_num,by rw[e9.out],by rw[e9.out];exact hBI.out,by rw[e9.out];exact hkN.out,hS5'.out⟩
   |true=>
    have e9:Hid (rdyL xss out (i+1)=rdyL xss out i++[(i:Int)]):=Lh (by rw[hsn,if_pos rfl]);clear hsn;(have hr0:∀x∈rdyL xss out i,0≤x:=fun x hx9=>by obtain⟨j,_,rfl,_⟩:=rdyL_mem.1 hx9;omega);generalize rdyL xss out i=r at e9 hBI hkN hS5' hr0 ⊢;obtain⟨bb,hbb⟩:∃b,bestD thr gr T r=b:=⟨_,rfl⟩;rw[hbb];(have hbn:r=[]→bb= -1:=fun h=>by rw[←hbb,h];rfl);(have hbp:r≠[]→0≤bb:=fun h=>by rw[←hbb];exact hr0 _ (bestD_mem h));have hbb':=Lh hbb;have hbn':=Lh hbn;have hbp':=Lh hbp;clear hbb hbn hbp hr0 hrl' hgood' hrd' hk0 hRow';go_upto_region 19 with fail;go_cut[86] (fun v86 wc=>v86= .bool (!thr&& !decide (r=[]))∧Sep w wc (ordI bl B I (.slice A5 (nextD thr gr nx T r).1.length c5) (.slice A6 (nextD thr gr nx T r).2.length c6) KN (ordO gd bt m (.slice Av out.length cv) (.slice A3 T.1.length c3) (.slice A4 T.2.length c4) out KT)))
    case first=>
     by_cases hre:r=[]
     ·obtain rfl:=hbn'.out hre;have hre':=Lh hre;clear hre;cases thr<;>(go_wp2_with fail;go_meet;case rel=>exact⟨by rw[decide_eq_true hre'.out];rfl,hS5'.out⟩)
     have hb0:=hbp'.out hre;have hre':=Lh hre;clear hre;cases thr<;>(go_wp2_with fail;go_meet;case rel=>exact⟨by rw[decide_eq_false hre'.out];rfl,hS5'.out⟩)
    clear hS5';obtain⟨rfl,hS6⟩:=hcut;have hS6':=Lh hS6;clear hS6;by_cases hcb:(!thr&& !decide (r=[]))=true
    ·rw[hcb];rw[Bool.and_eq_true,Bool.not_eq_true',Bool.not_eq_true',decide_eq_false_iff_not]at hcb;obtain⟨rfl,hrne⟩:=hcb;(have hbk:bestD false gr T (r++[(i:Int)])=bestD false gr T r:=by rw[bestD_plain,if_neg hrne]);have hkp:=Lh (best_keep (nx:=nx) hrne hbk);have hbk':=Lh hbk;clear hbk hrne;go_wp2_with fail;go_roundg (m-(i+1))
     case measure=>have:=hg2.out;have:=hlt'.out;omega
     case rel=>exact⟨i+1,B,I,_,_,KN,rfl,by have:=hlt'.out;omega,by go_num,by rw[e9.out,hbk'.out,hbb'.out],by rw[e9.out,hkp.out.1];exact hBI.out,by rw[e9.out,hkp.out.2];exact hkN.out,hS6'.out⟩
    rw[Bool.not_eq_true]at hcb;rw[hcb];have hcb':Hid (thr=true∨r=[]):=by
     cases thr with
     |true=>exact Or.inl rfl
     |false=>right;simpa using hcb
    clear hcb;have hS7:=hS6'.out.bN 80 #[.int .i64 0,.int .i64 0];have d0:=hS7.bC 6 rfl 0;have d1:=hS7.bC 6 rfl 1;simp only[gA,gB,gC]at d0 d1;have hS8a:=(hS7.bN 25 #[.slice A3 T.1.length c3,.slice A4 T.2.length c4]).emp_shut;simp only[World.size_alloc]at hS8a;have hS8:Sep w ((wc.alloc (.cells #[.int .i64 0,.int .i64 0] 80)).alloc (.cells #[.slice A3 T.1.length c3,.slice A4 T.2.length c4] 25)) (ordI wc.heap.size 0 0 (.slice A3 T.1.length c3) (.slice A4 T.2.length c4) .emp (ordI bl B I (.slice A5 (nextD thr gr nx T r).1.length c5) (.slice A6 (nextD thr gr nx T r).2.length c6) KN (ordO gd bt m (.slice Av out.length cv) (.slice A3 T.1.length c3) (.slice A4 T.2.length c4) out KT))):=
     Sep.sel [1,2,0] hS8a (by decide) (by simp[ordO,ordI])
    have hS8':=Lh hS8;clear hS7 hS8 hS8a hS6';go_upto_if 89 with fail;clear d0 d1;generalize hWg:(wc.alloc (.cells #[.int .i64 0,.int .i64 0] 80)).alloc (.cells #[.slice A3 T.1.length c3,.slice A4 T.2.length c4] 25)=wg at hS8' ⊢;clear hWg;generalize wc.heap.size=bu at hS8' ⊢;go_cut[] (fun wc2=>∃(G J:Int) (nvU fvU:Value) (KU:Asn),Hid ((G,J)=if thr=true then gr T (i:Int)else(0,0))∧Hid (Holds2 w KT KU nvU fvU (stepG thr nx T (i:Int)))∧Sep w wc2 (ordI bu G J nvU fvU KU (ordI bl B I (.slice A5 (nextD thr gr nx T r).1.length c5) (.slice A6 (nextD thr gr nx T r).2.length c6) KN (ordO gd bt m (.slice Av out.length cv) (.slice A3 T.1.length c3) (.slice A4 T.2.length c4) out KT))))
    case first=>
     cases thr with
     |false=>
      go_wp2_with fail;go_meet
      case rel=>exact⟨0,0,_,_,.emp,rfl,hkT.out.two,hS8'.out⟩
     |true=>
      obtain⟨x,hx9⟩:∃x,xs[i]? =some x:=⟨_,gE (by rw[hxl'.out];exact hlt'.out)⟩;obtain⟨⟨o1,o2⟩,hp9,ht9⟩:=hxo'.out x (gG hx9);have hxs:xs.length=m:=hxl'.out;obtain⟨ga,oa,ca',e,_,_,hga,hcell⟩:=Rd.place ha'.out (by have:=hlt'.out;omega) (by decide);rw[hxs]at e;simp only[Value.slice.injEq]at e;obtain⟨rfl,_,rfl⟩:=e;have hgrx:=grD_at (cs:=cs) (T:=T) hx9;have hnxx:=nxD_at (cs:=cs) (T:=T) hx9;rw[hgr'.out]at hgrx;rw[hnx'.out]at hnxx;obtain⟨p,hp⟩:∃p,pthI x=p:=⟨_,rfl⟩;obtain⟨tq,hto⟩:∃p,tooI x=p:=⟨_,rfl⟩;(have hxp:x.path=⟨p.toArray⟩:=by rw[←hp];exact pth_arr _);(have hxt:x.tz=⟨tq.toArray⟩:=by rw[←hto];exact pth_arr _);(have hpl:p.length≤1048576:=by rw[←hp,pthI,Array.length_toList];exact hp9);(have htl:tq.length≤1048576:=by rw[←hto,tooI,Array.length_toList];exact ht9);rw[hp,hto]at hgrx hnxx;clear hp hto hp9 ht9 o1 o2;(have hdo:∀W,Below wg.heap.size wg W→Calls Tryz.prog 33 #[.agg #[.slice A3 T.1.length c3,.slice A4 T.2.length c4],insV x.op p tq x.mode x.ref,.slice Ak cs.length ck] W fun e w'=>∃B3 n3 d3 B4 n4 d4,e= .returned (.tuple #[.agg #[.slice B3 n3 d3,.slice B4 n4 d4],.int .i64 (docE x.op p tq x.mode x.ref cs T)])∧Sep W w' [.keep fun V=>docE x.op p tq x.mode x.ref cs T=0→∃vs',TreeAt V (.slice B3 n3 d3) (.slice B4 n4 d4) (docT x.op p tq x.mode x.ref cs T).1 (docT x.op p tq x.mode x.ref cs T).2 vs']:=fun W hW=>by obtain⟨vsT,hTA⟩:=ordI_kt hkT.out (Sep.drop 3 (hS8'.out.pure hW));exact refdo_any hTA hlo.out x.op hpl htl x.mode x.ref (hsv'.out.below (hS8'.out.pure hW).below));(have hlo3:docE x.op p tq x.mode x.ref cs T=0→LooseOk (docT x.op p tq x.mode x.ref cs T).1 (docT x.op p tq x.mode x.ref cs T).2:=fun h=>doc_loose hlo.out h);generalize docE x.op p tq x.mode x.ref cs T=er at hdo hgrx hnxx hlo3;generalize docT x.op p tq x.mode x.ref cs T=TT at hdo hgrx hnxx hlo3;(have m1:∀w':World,Below wg.heap.size wg w'→w'.cell? ⟨bt,0,none⟩=some (.slice A3 T.1.length c3)∧w'.cell? ⟨bt,1,none⟩=some (.slice A4 T.2.length c4)∧w'.cell? ⟨ga,oa+i*5,none⟩=some (.int .i64 x.op)∧w'.cell? ⟨ga,oa+i*5+1,none⟩=some (.string ⟨p.toArray⟩)∧w'.cell? ⟨ga,oa+i*5+2,none⟩=some (.string ⟨tq.toArray⟩)∧w'.cell? ⟨ga,oa+i*5+3,none⟩=some (.int .i64 x.mode)∧w'.cell? ⟨ga,oa+i*5+4,none⟩=some (.int .i64 x.ref):=by intro w' hw;have hP4:=hS8'.out.pure hw;(have hic:=fun(f:Nat) (hf:f<5)=>(hcell w' hP4.below (i*5+f) (by have:=hlt'.out;omega)).trans (insCells_at hx9 f hf));have e0:=hic 0 (by omega);have e1:=hic 1 (by omega);have e2:=hic 2 (by omega);have e3:=hic 3 (by omega);have e4:=hic 4 (by omega);simp only[Ins.cells,hxp,hxt,Nat.add_zero,←Nat.add_assoc,gB,gC]at e0 e1 e2 e3 e4;exact⟨hP4.bC 8 rfl 0,hP4.bC 8 rfl 1,e0,e1,e2,e3,e4⟩);have hE0:=m1 _ (Below.refl _ _).drew;have m1':=Lh m1;have hdo':=Lh hdo;have hgrx':=Lh hgrx;have hnxx':=Lh hnxx;have hlo3':=Lh hlo3;unfold insV strV at hdo';clear m1 hcell hga hdo hgrx hnxx hlo3 hx9 hxp hxt hpl htl hxs;go_wp2_with fail;refine wp_region_E (S:=fun w'=>w'.cell? ⟨bt,0,none⟩=some (.slice A3 T.1.length c3)∧w'.cell? ⟨bt,1,none⟩=some (.slice A4 T.2.length c4)∧w'.cell? ⟨ga,oa+i*5,none⟩=some (.int .i64 x.op)∧w'.cell? ⟨ga,oa+i*5+1,none⟩=some (.string ⟨p.toArray⟩)∧w'.cell? ⟨ga,oa+i*5+2,none⟩=some (.string ⟨tq.toArray⟩)∧w'.cell? ⟨ga,oa+i*5+3,none⟩=some (.int .i64 x.mode)∧w'.cell? ⟨ga,oa+i*5+4,none⟩=some (.int .i64 x.ref)) 12 (by kernel_rfl) ?_;simp only[List.size_toArray,List.length_cons,List.length_nil,Nat.reduceAdd];refine wpE_tk (i:=0) (v:=?_) hE0 rfl ?_ ?_;rotate_left
      ·rintro w ⟨e1,e2,e3,e4,e5,e6,e7⟩;go_simp;try with_reducible rfl
      simp only[Act.put,gD];refine wpE_tk (i:=1) (v:=?_) hE0 rfl ?_ ?_;rotate_left
      ·rintro w ⟨e1,e2,e3,e4,e5,e6,e7⟩;go_simp;try with_reducible rfl
      simp only[Act.put,gD];refine wpE_tk (i:=2) (v:=?_) hE0 rfl ?_ ?_;rotate_left
      ·rintro w ⟨e1,e2,e3,e4,e5,e6,e7⟩;go_simp;try with_reducible rfl
      simp only[Act.put,gD];refine wpE_tk (i:=3) (v:=?_) hE0 rfl ?_ ?_;rotate_left
      ·rintro w ⟨e1,e2,e3,e4,e5,e6,e7⟩;go_simp;try with_reducible rfl
      simp only[Act.put,gD];refine wpE_tk (i:=4) (v:=?_) hE0 rfl ?_ ?_;rotate_left
      ·rintro w ⟨e1,e2,e3,e4,e5,e6,e7⟩;go_simp;try with_reducible rfl
      simp only[Act.put,gD];refine wpE_tk (i:=5) (v:=?_) hE0 rfl ?_ ?_;rotate_left
      ·rintro w ⟨e1,e2,e3,e4,e5,e6,e7⟩;go_simp;try with_reducible rfl
      simp only[Act.put,gD];refine wpE_two (i:=6) (j:=10) (by kernel_rfl) rfl rfl (fun K hK=>?_) (fun K hK=>?_)
      focus
       have hB0:Below wg.heap.size wg wg.drew:=(Below.refl _ _).drew
       go_simp
       go_at_call 33
       refine(hdo'.out _ hB0).mono ?_
       rintro e w4 ⟨B3,n3,d3,B4,n4,d4,rfl,hs4⟩
       have hB4:Below wg.heap.size wg w4:=hB0.trans (hs4.below.mono (Nat.le_refl _))
       have hS5:=(hS8'.out.drew.join hs4).bN 25 #[.slice B3 n3 d3,.slice B4 n4 d4]
       have hE4:=m1'.out _ hB4
       have hS40:=(hS8'.out.drew.join hs4).bN 25 #[.slice none 0 0,.slice none 0 0]
       have hB5:Below wg.heap.size wg (w4.alloc (.cells #[.slice none 0 0,.slice none 0 0] 25)):=hB4.alloc hB4.size _
       have hE5:=m1'.out _ hB5
       have z0:=hS40.bF 0 rfl 0
       have z1:=hS40.bF 0 rfl 1
       have hS5':=Lh hS5
       dsimp only
       refine hK _ _ (fun _=>hE4) ?_
       clear hK K
       try simp only[Act.put,gD]
       clear hS5 hS40 hs4
       refine wpE_tk (i:=7) (v:=?_) hE4 rfl ?_ ?_
       rotate_left
       ·rintro w ⟨e1,e2,e3,e4,e5,e6,e7⟩;go_simp;try with_reducible rfl
       simp only[Act.put,gD]
       refine wpE_tk (i:=8) (v:=?_) hE4 rfl ?_ ?_
       rotate_left
       ·rintro w ⟨e1,e2,e3,e4,e5,e6,e7⟩;go_simp;try with_reducible rfl
       simp only[Act.put,gD]
       refine wpE_tk (i:=9) (v:=?_) hE4 rfl ?_ ?_
       rotate_left
       ·rintro w ⟨e1,e2,e3,e4,e5,e6,e7⟩;go_simp;try with_reducible rfl
       simp only[Act.put,gD]
       refine wpE_one (i:=10) (by kernel_rfl) rfl (fun K hK=>?_)
       go_simp
       refine hK _ _ (fun _=>hE5) ?_
       clear hK K
       try simp only[Act.put,gD]
       have hB6:Below wg.heap.size wg (w4.alloc (.cells #[.slice B3 n3 d3,.slice B4 n4 d4] 25)):=hB4.alloc hB4.size _
       have hE6:=m1'.out _ hB6
       refine wpE_one (i:=11) (by kernel_rfl) rfl (fun K hK=>?_)
       go_simp
       refine hK _ _ (fun _=>hE6) ?_
       clear hK K
       try simp only[Act.put,gD]
       refine wpE_one (i:=12) (by kernel_rfl) rfl (fun K hK=>?_)
       go_simp
       refine hK _ _ (fun h=>absurd rfl h) ?_
       clear hK K
       try simp only[Act.put,gD]
       refine wpE_done (by kernel_rfl) ?_ _
       have hSF:Hid (Sep w (w4.alloc (.cells #[.slice B3 n3 d3,.slice B4 n4 d4] 25)) (.box w4.heap.size 25 #[.slice B3 n3 d3,.slice B4 n4 d4]:: .keep (fun V=>er=0→∃vs',TreeAt V (.slice B3 n3 d3) (.slice B4 n4 d4) TT.1 TT.2 vs')::ordI bu 0 0 (.slice A3 T.1.length c3) (.slice A4 T.2.length c4) .emp (ordI bl B I (.slice A5 (nextD true gr nx T r).1.length c5) (.slice A6 (nextD true gr nx T r).2.length c6) KN (ordO gd bt m (.slice Av out.length cv) (.slice A3 T.1.length c3) (.slice A4 T.2.length c4) out KT)))):=hS5'
       clear hS5' hE0 hE4 hE5 hE6 hB0 hB4 hB5 hB6 z0 z1 m1' hdo' hS8'
       generalize w4.alloc (.cells #[.slice B3 n3 d3,.slice B4 n4 d4] 25)=w5 at hSF ⊢
       generalize w4.heap.size=bv at hSF ⊢
      rotate_left 1
      focus
       have hSz:=hS8'.out.drew.bN 25 #[.slice none 0 0,.slice none 0 0]
       have hBz:Below wg.heap.size wg (wg.alloc (.cells #[.slice none 0 0,.slice none 0 0] 25)).drew:=((Below.refl _ _).alloc (Nat.le_refl _) _).drew
       have hEz:=m1'.out _ hBz
       go_simp
       refine hK _ _ (fun _=>hEz) ?_
       clear hK K
       try simp only[Act.put,gD]
       refine wpE_one (i:=6) (by kernel_rfl) rfl (fun K hK=>?_)
       go_simp
       go_at_call 33
       refine(hdo'.out _ hBz).mono ?_
       rintro e w4 ⟨B3,n3,d3,B4,n4,d4,rfl,hs4⟩
       have hB4:Below wg.heap.size wg w4:=hBz.trans (hs4.below.mono hBz.size)
       have hSz2:Sep w (wg.alloc (.cells #[.slice none 0 0,.slice none 0 0] 25)).drew _:=hSz
       have hS5:=hSz2.join hs4
       have hE4:=m1'.out _ hB4
       have y0:=hS5.bC 1 rfl 0
       have y1:=hS5.bC 1 rfl 1
       have z0:=hS5.bF 1 rfl 0
       have z1:=hS5.bF 1 rfl 1
       simp only[World.size_drew,gA,gB,gC]at y0 y1 z0 z1
       have hS6:=(hS5.bS 1 rfl 0 (.slice B3 n3 d3)).bS 1 rfl 1 (.slice B4 n4 d4)
       have hS5':=Lh hS6
       dsimp only
       refine hK _ _ (fun _=>hE4) ?_
       clear hK K
       try simp only[Act.put,gD]
       clear hS5 hS6 hSz hSz2 hs4
       refine wpE_one (i:=7) (by kernel_rfl) rfl (fun K hK=>?_)
       go_simp
       refine hK _ _ (fun _=>hE4) ?_
       clear hK K
       try simp only[Act.put,gD]
       refine wpE_tk (i:=8) (v:=?_) hE4 rfl ?_ ?_
       rotate_left
       ·rintro w ⟨e1,e2,e3,e4,e5,e6,e7⟩;go_simp;try with_reducible rfl
       simp only[Act.put,gD]
       refine wpE_tk (i:=9) (v:=?_) hE4 rfl ?_ ?_
       rotate_left
       ·rintro w ⟨e1,e2,e3,e4,e5,e6,e7⟩;go_simp;try with_reducible rfl
       simp only[Act.put,gD]
       refine wpE_one (i:=11) (by kernel_rfl) rfl (fun K hK=>?_)
       go_simp
       refine hK _ _ (fun _=>m1'.out _ ((hB4.setCell (by simp) _).setCell (by simp) _)) ?_
       clear hK K
       try simp only[Act.put,gD]
       refine wpE_one (i:=12) (by kernel_rfl) rfl (fun K hK=>?_)
       go_simp
       refine hK _ _ (fun h=>absurd rfl h) ?_
       clear hK K
       try simp only[Act.put,gD]
       refine wpE_done (by kernel_rfl) ?_ _
       have hSF:Hid (Sep w ((w4.setCell ⟨wg.heap.size,0,none⟩ (.slice B3 n3 d3)).setCell ⟨wg.heap.size,1,none⟩ (.slice B4 n4 d4)) (.box wg.heap.size 25 #[.slice B3 n3 d3,.slice B4 n4 d4]:: .keep (fun V=>er=0→∃vs',TreeAt V (.slice B3 n3 d3) (.slice B4 n4 d4) TT.1 TT.2 vs')::ordI bu 0 0 (.slice A3 T.1.length c3) (.slice A4 T.2.length c4) .emp (ordI bl B I (.slice A5 (nextD true gr nx T r).1.length c5) (.slice A6 (nextD true gr nx T r).2.length c6) KN (ordO gd bt m (.slice Av out.length cv) (.slice A3 T.1.length c3) (.slice A4 T.2.length c4) out KT)))):=by have h:=Sep.sel [1,0] hS5'.out (by decide) (by simp);exact Lh h
       clear hS5' hE0 hE4 hEz hBz hB4 y0 y1 z0 z1 m1' hdo' hS8'
       generalize(w4.setCell ⟨wg.heap.size,0,none⟩ (.slice B3 n3 d3)).setCell ⟨wg.heap.size,1,none⟩ (.slice B4 n4 d4)=w5 at hSF ⊢
       generalize wg.heap.size=bv at hSF ⊢
      all_goals
       have r0:=hSF.out.bC 0 rfl 0
       have r1:=hSF.out.bC 0 rfl 1
       have z0:=hSF.out.bF 2 rfl 0
       have z1:=hSF.out.bF 2 rfl 1
       have s0:=hSF.out.bC 2 rfl 0
       have s1:=hSF.out.bC 2 rfl 1
       simp only[gA,gB,gC]at r0 r1 s0 s1
       by_cases hz:er=0
       ·(have hq:(er==0)=true:=by simpa using hz);have hz':=Lh hz;have hS6:=(hSF.out.bS 2 rfl 0 (.slice B3 n3 d3)).bS 2 rfl 1 (.slice B4 n4 d4);have hS6':=Lh hS6;clear hz hS6 hSF;go_wp2_with fail;clear r0 r1 z0 z1 s0 s1;generalize(w5.setCell ⟨bu+1,0,none⟩ (.slice B3 n3 d3)).setCell ⟨bu+1,1,none⟩ (.slice B4 n4 d4)=w6 at hS6' ⊢;have hlT:=hlo3'.out hz'.out;(have hwV:∀W,Below w6.heap.size w6 W→Calls Tryz.prog 35 #[.agg #[.slice B3 n3 d3,.slice B4 n4 d4]] W fun e w'=>e= .returned (tollV (wdB TT.1 TT.2) (wdI TT.1 TT.2))∧Below W.heap.size W w':=fun W hW=>by obtain⟨vs9,h9⟩:=Sep.kept (P:=fun V=>er=0→∃vs',TreeAt V (.slice B3 n3 d3) (.slice B4 n4 d4) TT.1 TT.2 vs') 1 (hS6'.out.pure hW) rfl hz'.out;exact refweight_any h9 hlT.sm);(have hwT:∀W,Below w6.heap.size w6 W→Calls Tryz.prog 35 #[.agg #[.slice A3 T.1.length c3,.slice A4 T.2.length c4]] W fun e w'=>e= .returned (tollV (wdB T.1 T.2) (wdI T.1 T.2))∧Below W.heap.size W w':=fun W hW=>by obtain⟨vs9,h9⟩:=ordI_kt hkT.out (Sep.drop 5 (hS6'.out.pure hW));exact refweight_any h9 hlo.out.sm);obtain⟨⟨v1,v2⟩,v3,v4⟩:=wd_small hlT.sm;obtain⟨⟨t1,t2⟩,t3,t4⟩:=wd_small hlo.out.sm;(have hmi:=fun W=>tminus_any (B:=wdB TT.1 TT.2) (I:=wdI TT.1 TT.2) (C:=wdB T.1 T.2) (J:=wdI T.1 T.2) (by omega) (by omega) (by omega) (by omega) W);(have hgG:gr T (i:Int)=(wdB TT.1 TT.2-wdB T.1 T.2,wdI TT.1 TT.2-wdI T.1 T.2):=by rw[hgrx'.out,if_pos hz'.out]);(have hnG:nx T (i:Int)=TT:=by rw[hnxx'.out,if_pos hz'.out]);generalize wdB TT.1 TT.2=x1 at hwV hmi hgG;generalize wdI TT.1 TT.2=x2 at hwV hmi hgG;generalize wdB T.1 T.2=x3 at hwT hmi hgG;generalize wdI T.1 T.2=x4 at hwT hmi hgG;have hwV':=Lh hwV;have hwT':=Lh hwT;have hmi':=Lh hmi;have hgG':=Lh hgG;have hnG':=Lh hnG;(have m2:∀W,Below w6.heap.size w6 W→W.cell? ⟨bv,0,none⟩=some (.slice B3 n3 d3)∧W.cell? ⟨bv,1,none⟩=some (.slice B4 n4 d4)∧W.cell? ⟨bt,0,none⟩=some (.slice A3 T.1.length c3)∧W.cell? ⟨bt,1,none⟩=some (.slice A4 T.2.length c4):=fun W hW=>by have h:=hS6'.out.pure hW;exact⟨h.bC 0 rfl 0,h.bC 0 rfl 1,h.bC 10 rfl 0,h.bC 10 rfl 1⟩);have hE6:=m2 _ (Below.refl _ _).drew;have hB6:Below w6.heap.size w6 w6.drew:=(Below.refl _ _).drew;have m2':=Lh m2;unfold tollV at hwV' hwT' hmi';clear m2 hwV hwT hmi hgG hnG hlT v1 v2 v3 v4 t1 t2 t3 t4;refine wp_region_E (S:=fun W=>W.cell? ⟨bv,0,none⟩=some (.slice B3 n3 d3)∧W.cell? ⟨bv,1,none⟩=some (.slice B4 n4 d4)∧W.cell? ⟨bt,0,none⟩=some (.slice A3 T.1.length c3)∧W.cell? ⟨bt,1,none⟩=some (.slice A4 T.2.length c4)) 5 (by kernel_rfl) ?_;simp only[List.size_toArray,List.length_cons,List.length_nil,Nat.reduceAdd];refine wpE_tk (i:=0) (v:=?_) hE6 rfl ?_ ?_;rotate_left
        ·rintro w ⟨e1,e2,e3,e4⟩;go_simp;try with_reducible rfl
        simp only[Act.put,gD];refine wpE_tk (i:=2) (v:=?_) hE6 rfl ?_ ?_;rotate_left
        ·rintro w ⟨e1,e2,e3,e4⟩;go_simp;try with_reducible rfl
        simp only[Act.put,gD];refine wpE_one (i:=1) (by kernel_rfl) rfl (fun K hK=>?_);go_simp;go_at_call 35;refine(hwV'.out _ hB6).mono ?_;rintro e w7 ⟨rfl,hb7⟩;have hB7:Below w6.heap.size w6 w7:=hB6.trans (hb7.mono (Nat.le_refl _));have hE7:=m2'.out _ hB7;dsimp only;refine hK _ _ (fun _=>hE7) ?_;clear hK K;(try simp only[Act.put,gD]);refine wpE_one (i:=3) (by kernel_rfl) rfl (fun K hK=>?_);go_simp;go_at_call 35;refine(hwT'.out _ hB7).mono ?_;rintro e w8 ⟨rfl,hb8⟩;have hB8:Below w6.heap.size w6 w8:=hB7.trans (hb8.mono hB7.size);have hE8:=m2'.out _ hB8;dsimp only;refine hK _ _ (fun _=>hE8) ?_;clear hK K;(try simp only[Act.put,gD]);refine wpE_one (i:=4) (by kernel_rfl) rfl (fun K hK=>?_);go_simp;go_at_call 34;refine(hmi'.out _).mono ?_;rintro e w9 ⟨rfl,hb9⟩;have hB9:Below w6.heap.size w6 w9:=hB8.trans (hb9.mono hB8.size);have hE9:=m2'.out _ hB9;have hS9:=hS6'.out.pure hB9;have y0:=hS9.bF 3 rfl 0;have y1:=hS9.bF 3 rfl 1;have y2:=hS9.bC 3 rfl 0;have y3:=hS9.bC 3 rfl 1;simp only[gA,gB,gC]at y2 y3;dsimp only;refine hK _ _ (fun _=>hE9) ?_;clear hK K;(try simp only[Act.put,gD]);refine wpE_one (i:=5) (by kernel_rfl) rfl (fun K hK=>?_);go_simp;refine hK _ _ (fun h=>absurd rfl h) ?_;clear hK K;(try simp only[Act.put,gD]);refine wpE_done (by kernel_rfl) ?_ _;have hS10:=(hS9.bS 3 rfl 0 (.int .i64 (x1-x3))).bS 3 rfl 1 (.int .i64 (x2-x4));have hS11:=Sep.drop 2 (Sep.sel [0,4,2,3,1] hS10 (by decide) (by simp[ordI]));have hS11':=Lh hS11;clear hS9 hS10 hS11 hE6 hE7 hE8 hE9 hB6 hB7 hB8 hB9 y0 y1 y2 y3 hb7 hb8 hb9;go_wp2_with fail;go_meet
        case rel=>exact⟨x1-x3,x2-x4,_,_,_,Lh (by rw[if_pos trivial];exact hgG'.out.symm),holds_keep (fun W h=>by have e1:stepG true nx T (i:Int)=TT:=hnG'.out;rw[e1];exact h hz'.out),hS11'.out⟩
       ·(have hq:(er==0)=false:=by simpa using hz);have hgG:Hid (gr T (i:Int)=(0,0)):=Lh (by rw[hgrx'.out,if_neg hz]);have hnG:Hid (nx T (i:Int)=T):=Lh (by rw[hnxx'.out,if_neg hz]);have hS11':=Lh (Sep.drop 2 hSF.out);clear hz hSF;go_wp2_with fail;go_meet
        case rel=>exact⟨0,0,_,_,.emp,Lh (by rw[if_pos trivial];exact hgG.out.symm),by have e1:stepG true nx T (i:Int)=T:=hnG.out;rw[e1];exact hkT.out.two,hS11'.out⟩
    clear hS8';obtain⟨G,J,nvU,fvU,KU,hGJ,hkU,hS9⟩:=hcut;obtain⟨vsU,hUA⟩:=ordU_ku hkU.out hS9;obtain⟨A7,c7,e7,_⟩:=hUA.nodes.shape;obtain⟨A8,c8,e8,_⟩:=hUA.files.shape;subst e7;subst e8;clear hUA;have hS9':=Lh hS9;clear hS9;(have hup:=fun h=>Lh (best_upd (thr:=thr) (gr:=gr) (nx:=nx) (T:=T) (r:=r) (x:=(i:Int)) h));by_cases hre:r=[]
    ·obtain rfl:=hbn'.out hre;have hbu:bestD thr gr T (r++[(i:Int)])=(i:Int):=by
      cases thr with
      |false=>rw[bestD_plain,if_pos hre]
      |true=>rw[bestD_thr,if_pos (.inl hre)]
     have hup':=hup hbu;have hbu':=Lh hbu;obtain⟨g0,g1,l0,l1,f0,f1,u0,u1,f2,f3,y0,y1,hS12⟩:=upd_cells hS9'.out;have hS12':=Lh hS12;clear hbu hup hre hS12;go_wp2_with fail;go_roundg (m-(i+1))
     case measure=>have:=hg2.out;have:=hlt'.out;omega
     case rel=>exact⟨i+1,G,J,_,_,KU,rfl,by have:=hlt'.out;omega,by go_num,by rw[e9.out,hbu'.out],by rw[e9.out,hup'.out.1];exact hGJ.out,by rw[e9.out,hup'.out.2];exact hkU.out,hS12'.out⟩
    obtain rfl:thr=true:=hcb'.out.resolve_right hre;have hb0:=hbp'.out hre;(have hb1:¬bb<0:=by omega);(have hls:=fun W=>tless_any G J B I W);obtain⟨lb,hlb⟩:∃lb,lessB (G,J) (B,I)=lb:=⟨_,rfl⟩;rw[hlb]at hls;have hbt:bestD true gr T (r++[(i:Int)])=if lb=true then(i:Int)else bestD true gr T r:=by
     rw[bestD_thr];have e1:gr T (i:Int)=(G,J):=hGJ.out.symm;have e2:leastD true gr T r=(B,I):=hBI.out.symm;rw[e1,e2];have e3:lessG (G,J) (B,I)=lb:=hlb;rw[e3];by_cases h:lb=true
     ·rw[if_pos (.inr h),if_pos h]
     rw[if_neg (fun h2=>h2.elim hre h),if_neg h]
    have hls':=Lh hls;clear hls hlb;cases lb with
    |true=>
     rw[if_pos rfl]at hbt;have hup':=hup hbt;have hbu':=Lh hbt;clear hbt hup hre;obtain⟨g0,g1,l0,l1,_⟩:=upd_cells hS9'.out;unfold tollV at hls';go_wp2_with(go_at_call 36;refine(hls'.out _).mono ?_;rintro e w6 ⟨rfl,hb6⟩;clear g0 g1 l0 l1;obtain⟨g0,g1,l0,l1,f0,f1,u0,u1,f2,f3,y0,y1,hS12⟩:=upd_cells (hS9'.out.pure hb6);(have hS12':=Lh hS12);clear hS12 hb6);go_roundg (m-(i+1))
     case measure=>have:=hg2.out;have:=hlt'.out;omega
     case rel=>exact⟨i+1,G,J,_,_,KU,rfl,by have:=hlt'.out;omega,by go_num,by rw[e9.out,hbu'.out],by rw[e9.out,hup'.out.1];exact hGJ.out,by rw[e9.out,hup'.out.2];exact hkU.out,hS12'.out⟩
    |false=>
     rw[if_neg (by decide)]at hbt;have hkp:=Lh (best_keep (nx:=nx) hre hbt);have hbu':=Lh hbt;clear hbt hup hre;obtain⟨g0,g1,l0,l1,_⟩:=upd_cells hS9'.out;unfold tollV at hls';go_wp2_with(go_at_call 36;refine(hls'.out _).mono ?_;rintro e w6 ⟨rfl,hb6⟩;(have hS12':=Lh (Sep.drop 3 (hS9'.out.pure hb6)));clear hb6);go_roundg (m-(i+1))
     case measure=>have:=hg2.out;have:=hlt'.out;omega
     case rel=>exact⟨i+1,B,I,_,_,KN,rfl,by have:=hlt'.out;omega,by go_num,by rw[e9.out,hbu'.out,hbb'.out],by rw[e9.out,hkp.out.1];exact hBI.out,by rw[e9.out,hkp.out.2];exact hkN.out,hS12'.out⟩
  (obtain rfl:i=m:=by omega);have hxl9:xss.length=i:=hmeq.out;(have hne:rdyL xss out i≠[]:=by have:=rdyL_ne hx'.out hr'.out (out:=out) (by have:=hlen.out;omega);rw[hxl9]at this;exact this);have hbm:=bestD_mem (thr:=thr) (gr:=gr) (T:=T) hne;obtain⟨bb,hbb⟩:∃b,bestD thr gr T (rdyL xss out i)=b:=⟨_,rfl⟩;have hds:=docO_succ thr gr nx xss f T out (by rw[hxl9];exact hne);rw[hxl9,hbb]at hds;rw[hbb]at hbm ⊢;obtain⟨b,hb,hbe,_⟩:=rdyL_mem.1 hbm;subst hbe;have hres2:=Lh (hds.symm.trans hres.out);have hlo2:Hid (LooseOk (nextD thr gr nx T (rdyL xss out i)).1 (nextD thr gr nx T (rdyL xss out i)).2):=by
   unfold nextD stepG;split
   ·exact hlo.out
   split
   ·exact hst'.out T hlo.out _
   exact hlo.out
  generalize nextD thr gr nx T (rdyL xss out i)=NT at hres2 hlo2 hkN hS4 ⊢;(have q1:(0:Int)≤(b:Int):=by omega);(have q2:(b:Int)<(i:Int):=by omega);have d0:=(hS4.cellAt 3 rfl b (by omega)).trans (doneV_at out hb);obtain⟨bd,hbd⟩:∃z,decide ((b:Int)∈out)=z:=⟨_,rfl⟩;rw[hbd]at d0;have f0:=hS4.frozenAt 3 rfl b;have hS5:=hS4.stored 3 rfl b (.bool true);rw[doneV_set out hb]at hS5;have hS6:=Lh (hS5.alloc (.cells #[.int .i64 b] 3));have hol:=hlen.out;have hb':=Lh hb;clear hds hbm hbb hne hBI hS4 hS5 hbd hb;go_wp2_with(at_builtin;refine wpList_append_sep 4 rfl _ _ 36 rfl 3 i0 (.int .i64 0) 1 8 Tryz.underlying36 hif hz0 hz1 hz2 rfl (by decide) hS6.out (.slice Av out.length cv) out.length (out.map (.int .i64)) rfl rfl ⟨wr.heap.size,0,none⟩ 1 1 [.int .i64 b] rfl rfl (by have h:=cell_one_new (wr.setCell ⟨gd,b,none⟩ (.bool true)) (.int .i64 b) 3;simpa using h) (by simp[Value.oneCell']) (by decide) (by unfold maxLen;omega) (by omega) ?_);intro g9 c9 w9 hS9 hz9;have n0:=hS9.bC 0 rfl 0;have n1:=hS9.bC 0 rfl 1;have f2:=hS9.bF 5 rfl 0;have f3:=hS9.bF 5 rfl 1;have m0:=hS9.bC 5 rfl 0;have m1:=hS9.bC 5 rfl 1;simp only[gA,gB,gC]at n0 n1 m0 m1;have hS10:=(hS9.bS 5 rfl 0 (.slice A5 NT.1.length c5)).bS 5 rfl 1 (.slice A6 NT.2.length c6);(have hS11:Sep w ((w9.setCell ⟨bt,0,none⟩ (.slice A5 NT.1.length c5)).setCell ⟨bt,1,none⟩ (.slice A6 NT.2.length c6)) (ordO gd bt i (.slice (some ⟨g9,0,none⟩) (out.length+1) c9) (.slice A5 NT.1.length c5) (.slice A6 NT.2.length c6) (out++[(b:Int)]) (Asn.star KT KN)):=by have h1:=(Sep.sel [6,2,3,4,5,0,1] hS10 (by decide) (by simp[ordI,ordO])).star_shut;have h2:=Sep.fst (X:=[_,_,_,_]) (Sep.sel [1,2,3,0] h1 (by decide) (by simp));unfold ordO;rw[←ints_push _ _ _ _ _ rfl];exact h2);have hS11':=Lh hS11;clear hS9 hS10 hS11 hz9 hol;go_wp2_with fail;go_roundg f
  case measure=>rw[hg.out];omega
  case rel=>exact⟨f,NT,out++[(b:Int)],_,_,_,rfl,hres2.out,hlo2.out,Lh (by have:=hlen.out;rw[List.length_append,List.length_singleton];omega),hkN.out.one,hS11'.out⟩
end Go.Proofs.YtimkjnbihlgbiaaGreat
