/- FvU, FvV, FvW, laid together. -/
import Derived.Test.YteihmbaimbogaaaGreatJ44
namespace Go.Proofs.YteihmbaimbogaaaGreat
open Go.RowKit
set_option linter.unusedVariables false
set_option linter.unusedSimpArgs false
section
variable {w0 w:World} {R:List Asn} {f q p:Nat} {S:VS} {ns:List TN} {fs:List FT} {nb names:Nat}
structure LiveT (S:VS) (ns:List TN) (fs:List FT) (nb names:Nat):Prop where
 vol:VolT S ns fs nb names
 off:S.D.off=false
 left:S.D.left= -1
theorem live_new {n names:Nat} (h0:98+(names+7)/8<n) (h1:n≤4096) (h2:2≤names) (h3:names≤1024):LiveT (VS.new n names) [] [] n names:=
 ⟨⟨rfl,rfl,_,_,_,new_vt h0 h1 h2 h3⟩,(new_live n names).2.1,(new_live n names).2.2⟩
theorem LiveT.base (h:LiveT S ns fs nb names):LiveT S.base ns fs nb names:=⟨h.vol.base,h.off,h.left⟩
theorem LiveT.ends {r:Except Int (Option VS)} {ns':List TN} {fs':List FT} {x:Int} (hL:LiveT S ns fs nb names) (hok:S.D.ok S.nb) (h96:96<S.nb) (hD:DoneT S.base r ns' fs') (h:endS f q p S.base r w0 w R x):
  if fitsT nb names ns' fs'=true then x=0∧∃S',LiveT S' ns' fs' nb names∧Sep w0 w (restR f q p S'::R)
  else x=27∧∃S',LiveT S' ns fs nb names∧Sep w0 w (restR f q p S'::R):=by
 have h1:=hL.vol.ends hok h96 hD h;split
 ·rename_i hf;rw[if_pos hf]at h1;rcases h1 with⟨hx,S',hV,hl,hS⟩|⟨_,h2,_⟩
  ·obtain⟨l1,l2⟩:=hl hL.off (by rw[hL.left];decide);exact⟨hx,S',⟨hV,l1,l2.trans hL.left⟩,hS⟩
  exact absurd ⟨hL.off,by rw[hL.left];decide⟩ h2
 rename_i hf;rw[if_neg hf]at h1;exact⟨h1.1,S.base,hL.base,h1.2⟩
theorem mkdirT {path tz:List UInt8} {mode:Nat} {kk:Int} (hL:LiveT S ns fs nb names) (hp:path.length≤1048576) (ht:tz.length≤1048576) (hm:mode≤511) (hv:validL path=true) (hne:path≠[])
  (h:Sep w0 w (restR f q p S::R)):
  Calls Tryz.prog 14 #[.pointer (some ⟨f,0,none⟩),.agg #[.int .i64 1,strV path,strV tz,.int .i64 mode,.int .i64 kk],.slice none 0 0] w fun e w'=>∃x,e= .returned (.int .i64 x)∧
   (if newT ns path=0 then(if fitsT nb names (newNs ns fs 1 mode path) fs=true then x=0∧∃S',LiveT S' (newNs ns fs 1 mode path) fs nb names∧Sep w0 w' (restR f q p S'::R)else x=27∧∃S',LiveT S' ns fs nb names∧Sep w0 w' (restR f q p S'::R))
    else x=newT ns path∧∃S',LiveT S' ns fs nb names∧Sep w0 w' (restR f q p S'::R)):=by
 obtain⟨g,dn,φ,hV⟩:=hL.vol.vt
 have hok:=rest_dok h
 have h96:=rest_big h
 have hck:ckP 1 path tz mode kk 0 ([]:List UInt8).length=0:=by unfold ckP checkB;have e1:(fieldsP 1).2.2=true:=rfl;have e2:(fieldsP 1).1=false:=rfl;rw[e1,e2,if_neg (by decide),if_neg (by decide),if_neg (by omega),if_neg (by simp[hne]),if_neg (by simp[hv]),if_pos (by decide)]
 have hN:=hV.new (kind:=1) (mode:=mode) (p:=path) (bs:=[]) (.inl ⟨rfl,rfl⟩) hv hp (by omega) (by decide)
 have hmn:((mode:Nat):Int).toNat=mode:=Int.toNat_natCast _
 refine(do_any (op:=1) (mode:=mode) (kk:=kk) (path:=path) (tz:=tz) (bs:=[]) (A:=none) (n:=0) (c:=0) (by omega) (by omega) (by decide) (by decide) hL.off (by decide) (fun k _ hlt=>absurd hlt (Nat.not_lt_zero _)) hV.vol.vw (fun _=>?_) h).mono ?_
 ·rw[hmn];exact⟨fun _=>hN.1,fun e=>absurd e (by decide),fun e=>absurd e (by decide),fun e=>absurd e (by decide),fun e=>absurd e (by decide),fun e=>absurd e (by decide),fun e=>absurd e (by decide),fun e=>absurd e (by decide)⟩
 ·rintro e w' ⟨x,rfl,hE⟩;refine⟨x,rfl,?_⟩;unfold doR actR at hE;rw[if_pos hck,if_pos rfl,hmn]at hE;rcases hN.2 with⟨hne0,hr⟩|⟨h0,hD⟩
  ·rw[if_neg hne0];rw[hr]at hE;exact⟨hE.1,S.base,hL.base,hE.2⟩
  rw[if_pos h0];exact hL.ends hok h96 hD hE
def rootN (ns:List TN):List (List UInt8):=(kidsN ns []).map fun n=>(keyN n).getLastD []
theorem LiveT.root (hL:LiveT S ns fs nb names):VW S.base∧(inoP S.base.cur 0).kind=1∧listX S.base []=0∧(listN S.base []).Perm (rootN ns)∧(listN S.base []).Pairwise fun x y=>x≤y:=by
 obtain⟨g,dn,φ,hV⟩:=hL.vol.vt;have hk:=hV.vol.rootI;have hx:listX S.base []=0:=by unfold listX;rw[if_pos rfl,if_pos hk]
 have hn:listN S.base []=sortS ((g 0).ents.map (·.1)):=by unfold listN listI;rw[if_pos hx,if_pos rfl,hV.vol.ph.ents 0 hV.vol.ph.n0 hV.vol.root]
 refine⟨hV.vol.vw,hk,hx,?_,?_⟩
 ·rw[hn];refine(sortS_perm _).trans ?_;have:=hV.rep.ents [] (.inl rfl);rw[hV.rep.root]at this;have h2:=this.map (·.1);rw[List.map_map]at h2;exact h2
 rw[hn];exact sortS_le _
theorem listT (hL:LiveT S ns fs nb names) (h:Sep w0 w (restR f q p S::R)):
  Calls Tryz.prog 23 #[.pointer (some ⟨f,0,none⟩),strV []] w fun e w'=>∃v l S',e= .returned (.tuple #[v,.int .i64 0])∧l.Perm (rootN ns)∧(l.Pairwise fun x y=>x≤y)∧LiveT S' ns fs nb names∧Sep w0 w' (strsR v l::restR f q p S'::R):=by
 obtain⟨h1,h2,h3,h4,h5⟩:=hL.root;refine(list_any (path:=[]) (by decide) hL.off h1 h2 h).mono ?_;rintro e w' ⟨v,rfl,hS⟩;rw[h3];exact⟨v,_,S.base,rfl,h4,h5,hL.base,hS⟩
theorem freeT (hL:LiveT S ns fs nb names) (h:Sep w0 w (restR f q p S::R)):
  Calls Tryz.prog 17 #[.pointer (some ⟨f,0,none⟩)] w fun e w'=>e= .returned (cplx (roomB nb names-treeB ns fs) (names-treeI ns))∧∃n,w'=w.drewN n:=by
 obtain⟨g,dn,φ,hV⟩:=hL.vol.vt;have hok:=rest_dok h;have hwB:S.wB=treeB ns fs:=hV.wB;have hwI:S.wI=treeI ns:=hV.wI;have hrB:S.rB=roomB nb names:=by have:=hV.vol.rB;rw[show S.rB=S.base.rB from rfl,this];(show((S.nb-96-(2+(S.names+7)/8):Nat):Int)=_);rw[hL.vol.nm,hL.vol.nbe];rfl
 have hrI:S.rI=names:=by have:=hV.vol.rI;rw[show S.rI=S.base.rI from rfl,this];(show(S.names:Int)=_);rw[hL.vol.nm]
 have h1:=hV.vol.ph.smallW;have h2:=hV.vol.ph.names_le;have h4:nb≤4096:=by have:=hok.few;rw[hL.vol.nbe]at this;exact this
 have h5:roomB nb names≤4096:=by unfold roomB;omega
 have h6:S.base.names=names:=hL.vol.nm;have e1:S.base.wB=S.wB:=rfl;have e2:S.base.wI=S.wI:=rfl;rw[e1,e2]at h1;have:=free_rest (S:=S) (small_of (by omega) (by omega)) (small_of (by omega) (by omega)) (small_of (by omega) (by omega)) (small_of (by omega) (by omega)) (small_of (by omega) (by omega)) (small_of (by omega) (by omega)) h;rw[hrB,hrI,hwB,hwI]at this;exact this
theorem roomT (hL:LiveT S ns fs nb names) (h:Sep w0 w (restR f q p S::R)):
  Calls Tryz.prog 31 #[.pointer (some ⟨f,0,none⟩)] w fun e w'=>e= .returned (cplx (roomB nb names) names)∧w'=w:=by
 obtain⟨g,dn,φ,hV⟩:=hL.vol.vt;have hrB:S.rB=roomB nb names:=by have:=hV.vol.rB;rw[show S.rB=S.base.rB from rfl,this];(show((S.nb-96-(2+(S.names+7)/8):Nat):Int)=_);rw[hL.vol.nm,hL.vol.nbe];rfl
 have hrI:S.rI=names:=by have:=hV.vol.rI;rw[show S.rI=S.base.rI from rfl,this];(show(S.names:Int)=_);rw[hL.vol.nm]
 have:=room_rest h;rw[hrB,hrI]at this;exact this
theorem strs_one {v:Value} {s:List UInt8} (hS:Sep w0 w (strsR v [s]::R)):∃g c,v= .slice (some ⟨g,0,none⟩) 1 c∧w.cell? ⟨g,0,none⟩=some (strV s):=by unfold strsR at hS;obtain⟨g,c,rfl,_⟩:=hS.sl_form 0 rfl Nat.one_pos;refine⟨g,c,rfl,?_⟩;have:=hS.cellAt 0 rfl 0 Nat.one_pos;exact this
theorem one_perm {l:List (List UInt8)} {s:List UInt8} (h:l.Perm [s]):l=[s]:=List.perm_singleton.1 h
theorem cplx_10 :cplx (roomB 110 16) 16= .complex .f64 4621819117588971520 4625196817309499392:=by kernel_rfl
theorem cplx_8 :cplx (roomB 110 16-treeB (newNs [] [] 1 493 [97]) []) (16-treeI (newNs [] [] 1 493 [97]))= .complex .f64 4620693217682128896 4624070917402656768:=by kernel_rfl
set_option maxRecDepth 100000 in
set_option maxHeartbeats 4000000 in
theorem alive8_any (h:Sep w0 w R):Calls Tryz.prog 12 #[] w fun e w'=>e= .returned (.bool true)∧Sep w0 w' R:=by
 have hfr:=Lh (fresh_any (b:=10) (i:=16) (n:=110) rfl (by decide) (by decide) (by decide) (by decide) h);have hL0:=live_new (n:=110) (names:=16) (by decide) (by decide) (by decide) (by decide);obtain⟨S0,hS0⟩:∃S0,S0=VS.new 110 16:=⟨_,rfl⟩;rw[←hS0]at hfr hL0;have hrm:Hid (∀W f q p,Sep w0 W (restR f q p S0::R)→Calls Tryz.prog 31 #[.pointer (some ⟨f,0,none⟩)] W fun e w'=>e= .returned (.complex .f64 4621819117588971520 4625196817309499392)∧W=w'):=Lh fun W f q p hW=>(roomT hL0 hW).mono fun e w' ⟨h1,h2⟩=>⟨h1.trans (congrArg _ cplx_10),h2.symm⟩
 have hmk:Hid (∀W f q p,Sep w0 W (restR f q p S0::R)→Calls Tryz.prog 14 #[.pointer (some ⟨f,0,none⟩),.agg #[.int .i64 1,.string ⟨#[97]⟩,.string ⟨#[]⟩,.int .i64 493,.int .i64 0],.slice none 0 0] W fun e w'=>e= .returned (.int .i64 0)∧∃S',LiveT S' (newNs [] [] 1 493 [97]) [] 110 16∧Sep w0 w' (restR f q p S'::R)):=Lh fun W f q p hW=>
  (mkdirT (path:=[97]) (tz:=[]) (mode:=493) (kk:=0) hL0 (by decide) (by decide) (by decide) (by decide) (by decide) hW).mono fun e w' ⟨x,h1,h2⟩=>by rw[if_pos (by rfl),if_pos (by rfl)]at h2;exact⟨by rw[h1,h2.1],h2.2⟩
 have hls:Hid (∀W f q p S',LiveT S' (newNs [] [] 1 493 [97]) [] 110 16→Sep w0 W (restR f q p S'::R)→Calls Tryz.prog 23 #[.pointer (some ⟨f,0,none⟩),.string ⟨#[]⟩] W fun e w'=>∃g c S'',e= .returned (.tuple #[.slice (some ⟨g,0,none⟩) 1 c,.int .i64 0])∧w'.cell? ⟨g,0,none⟩=some (.string ⟨#[97]⟩)∧LiveT S'' (newNs [] [] 1 493 [97]) [] 110 16∧Sep w0 w' (restR f q p S''::R)):=Lh fun W f q p S' hL hW=>
  (listT hL hW).mono fun e w' ⟨v,l,S'',h1,h2,_,h4,h5⟩=>by have e1:l=[[97]]:=one_perm h2;subst e1;obtain⟨g,c,rfl,hc⟩:=strs_one h5;exact⟨g,c,S'',h1,hc,h4,h5.drop 1⟩
 have hfe:Hid (∀W f q p S',LiveT S' (newNs [] [] 1 493 [97]) [] 110 16→Sep w0 W (restR f q p S'::R)→Calls Tryz.prog 17 #[.pointer (some ⟨f,0,none⟩)] W fun e w'=>e= .returned (.complex .f64 4620693217682128896 4624070917402656768)∧∃n,w'=W.drewN n):=Lh fun W f q p S' hL hW=>
  (freeT hL hW).mono fun e w' ⟨h1,h2⟩=>⟨h1.trans (congrArg _ cplx_8),h2⟩
 clear hS0 hL0 h;go_enter Tryz.func12,Tryz.ntmps12;go_wp2_with(first |(go_at_call 13;refine hfr.out.mono ?_;rintro e wn ⟨f,q,p,rfl,hS⟩;have h1:=Lh hS;clear hS hfr)|(go_at_call 31;refine(hrm.out _ _ _ _ h1.out).mono ?_;rintro e wr ⟨rfl,rfl⟩)|(go_at_call 14;refine(hmk.out _ _ _ _ h1.out).mono ?_;rintro e wm ⟨rfl,S1,hL1,hS⟩;have h2:=Lh hS;have hL2:=Lh hL1;clear hS hL1 h1 hmk hrm)|(go_at_call 23;refine(hls.out _ _ _ _ _ hL2.out h2.out).mono ?_;rintro e wl ⟨g,c,S2,rfl,hc,hL,hS⟩;have h3:=Lh hS;have hL3:=Lh hL;clear hS hL h2 hL2 hls)|(go_at_call 17;refine(hfe.out _ _ _ _ _ hL3.out h3.out).mono ?_;rintro e we ⟨rfl,nn,rfl⟩)|(go_at_call 16;refine(num8_any _ _).mono ?_;rintro e w2 ⟨rfl,rfl⟩));go_ret;exact⟨rfl,(h3.out.drop 1).drewN _⟩
end
end Go.Proofs.YteihmbaimbogaaaGreat
namespace Go.Proofs.YteihmbaimbogaaaGreat
open Go.RowKit Go.Shelf
set_option linter.unusedVariables false
set_option linter.unusedSimpArgs false
attribute [local go_sem] Oper.semAt_some
def DK.crash0 (D:DK):DK:=⟨D.fast,D.fast,[],false, -1⟩
def CrI (w1:World) (gf n c:Nat) (fast:Blks) (l:List (Nat×List UInt8)) (pre:List (Fin l.length)) (W:World):Prop:=
 KpF w1.heap.size [gf] w1 W∧W.ownsRow 0 5 1 (.slice (some ⟨gf,0,none⟩) n c) n (fast.flatten.map byt)
theorem CrI.own {w1:World} {gf n c:Nat} {fast:Blks} {l:List (Nat×List UInt8)} (hg:gf<w1.heap.size):OwnFrom w1.heap.size (CrI w1 gf n c fast l):=fun s W W' row hs hgr hr=>by
 have hblk:∀k,k<w1.heap.size→W'.heap[k]? =W.heap[k]? :=fun k hk=>hgr.block k (Nat.lt_of_lt_of_le hk hs.1.size) (fun e=>by have:=(hr k e.symm).1;omega)
 refine⟨hs.1.trans ⟨hgr.os,hgr.tape,hgr.output,hgr.size,fun k hk _=>hblk k hk⟩,hs.2.1,?_⟩;rcases hs.2.2 with h|⟨g,cap,cur,hv,hb,hh,r⟩
 ·exact .inl h
 refine .inr ⟨g,cap,cur,hv,hb,?_,r⟩;cases hv;rw[hblk _ hg];exact hh
theorem layC_whole {α:Type} {cs xs:List α} (h:xs.length=cs.length):layC cs 0 xs=xs:=by unfold layC;rw[List.take_zero,List.nil_append,Nat.zero_add,List.drop_of_length_le (by omega),List.append_nil]
set_option maxRecDepth 100000 in
set_option maxHeartbeats 4000000 in
theorem crash0_any {w0 w:World} {R:List Asn} {p nb:Nat} {D:DK} (hD:D.ok nb) (h:Sep w0 w (diskR p D::R)):
  Calls Tryz.prog 28 #[.pointer (some ⟨p,0,none⟩),.slice none 0 0] w fun e w'=>
   e= .returned (.tuple #[])∧Sep w0 w' (diskR p D.crash0::R):=by
 have h00:=Lh h
 obtain⟨vn,vf,vb,h⟩:=h.disk_open
 have hfl:=flat_len512 hD.fast.size
 have hlen:=hD.fast.len
 have hnb:=hD.few
 obtain⟨g,n,c,rfl,hnl,hc,hm⟩:=h.bytes_form 2 rfl (by have:=hD.some;omega)
 obtain⟨gn,nn,cn,rfl,hnl2,hcn,hmn⟩:=h.bytes_form 1 rfl (by have:=hD.some;have:=flat_len512 hD.now.size;have:=hD.now.len;omega)
 have hn:n=512*nb:=by rw[hnl.out,hfl,hlen]
 have hp0:Sep w0 w (backR vb D.back::diskBox p (.slice (some ⟨gn,0,none⟩) nn cn) (.slice (some ⟨g,0,none⟩) n c) vb D.off D.left::bytesR (.slice (some ⟨gn,0,none⟩) nn cn) D.now.flatten::bytesR (.slice (some ⟨g,0,none⟩) n c) D.fast.flatten::R):=Sep.sel [3,0,1,2] h (by decide) (by simp)
 obtain⟨us,hus,hp1⟩:=Sep.back_open hp0
 have hp:Sep w0 w (.sl 137 3 vb D.back.length (heldCells D.back us)::diskBox p (.slice (some ⟨gn,0,none⟩) nn cn) (.slice (some ⟨g,0,none⟩) n c) vb D.off D.left::bytesR (.slice (some ⟨gn,0,none⟩) nn cn) D.now.flatten::bytesR (.slice (some ⟨g,0,none⟩) n c) D.fast.flatten::(List.zipWith (fun u (x:Nat×List UInt8)=>bytesR u x.2) us D.back++R)):=hp1.perm (List.Perm.cons _ (perm3 _ _ _ _ _))
 obtain⟨Ab,cb,hvbf,hbc,hbm,_⟩:=hp.sl_any 0 rfl
 subst hvbf
 --what stands in the list of writes
 have hel:∀i (hi:i<D.back.length),∃gu cu,us[i]? =some (.slice (some ⟨gu,0,none⟩) 512 cu)∧gu<w.heap.size∧gu≠g∧(∀W,KpF w.heap.size [g] w W→∀j u,(D.back[i].2.map byt)[j]? =some u→W.cell? ⟨gu,j,none⟩=some u):=by
  intro i hi;have hlen2:=(hD.back _ (List.getElem_mem hi)).2;(have hz:((List.zipWith (fun u (x:Nat×List UInt8)=>bytesR u x.2) us D.back)++R)[i]? =some (bytesR (us[i]'(by omega)) D.back[i].2):=by rw[List.getElem?_append_left (by simp[hus,hi]),List.getElem?_zipWith,gE (by omega),gE hi]);rw[bytesR_of hlen2]at hz;(have hidx:(.sl 137 3 (.slice Ab D.back.length cb) D.back.length (heldCells D.back us)::diskBox p (.slice (some ⟨gn,0,none⟩) nn cn) (.slice (some ⟨g,0,none⟩) n c) (.slice Ab D.back.length cb) D.off D.left::bytesR (.slice (some ⟨gn,0,none⟩) nn cn) D.now.flatten::bytesR (.slice (some ⟨g,0,none⟩) n c) D.fast.flatten::(List.zipWith (fun u (x:Nat×List UInt8)=>bytesR u x.2) us D.back++R))[4+i]? =some (.sl 5 1 (us[i]'(by omega)) 512 (D.back[i].2.map byt)):=by rw[Nat.add_comm];exact hz);obtain⟨gu,cu,hu,_,hlt,_,_⟩:=hp.sl_form (4+i) hidx (by decide);refine⟨gu,cu,by rw[gE (by omega),hu],hlt,?_,fun W hW j u hj=>?_⟩
  ·rw[hu]at hidx;have h3:=hp;rw[bytesR_of hnl.out.symm]at h3 hidx;exact(h3.sl_ne 3 (4+i) (by omega) rfl hidx).symm
  (have hne:gu≠g:=by rw[hu]at hidx;have h3:=hp;rw[bytesR_of hnl.out.symm]at h3 hidx;exact(h3.sl_ne 3 (4+i) (by omega) rfl hidx).symm);rw[hu]at hidx;rw[hW.cell (a:=⟨gu,j,none⟩) hlt (by simpa using hne),hp.cellAt (4+i) hidx j (by have:=(gF.1 hj).1;rw[List.length_map,hlen2]at this;omega)];exact hj
 have hRL:RowLow w.heap.size [g] w Ab (heldCells D.back us):=by
  intro j u hj;have hjl:=(gF.1 hj).1;have hpos:0<D.back.length:=by
   rcases Nat.eq_zero_or_pos D.back.length with h0|h0
   ·have:D.back=[]:=List.eq_nil_of_length_eq_zero h0;rw[this]at hjl;simp[heldCells]at hjl
   exact h0
  obtain⟨gb,cb',e,_,hlt,_,_⟩:=hp.sl_form 0 rfl hpos;cases e;have h3:=hp;rw[bytesR_of hnl.out.symm]at h3;have hne:=h3.sl_ne 0 3 (by omega) rfl rfl;(have hcl:(heldCells D.back us).length=D.back.length*3:=by obtain⟨_,_,_,_,_,e⟩:=hp.sl_any 0 rfl;exact e);refine⟨gb,rfl,hlt,by simpa using hne,?_⟩;rw[hp.cellAt 0 rfl j (by rw[←hcl];exact hjl)];exact hj
 have hC:=hp.diskC 1 rfl
 have c3:=hC.c3
 have c2:=hC.c2
 have c1:=hC.c1
 have hsh:∀u∈us,∃A c,u= .slice A 512 c:=fun u hu=>by obtain⟨i,hi,e⟩:=List.getElem_of_mem hu;obtain⟨gu,cu,h1,_⟩:=hel i (by omega);rw[gE hi,e]at h1;cases h1;exact⟨_,_,rfl⟩
 have hg1:g<w.heap.size:=by obtain⟨g',c',e,_,hlt,_⟩:=hp.sl_form 3 rfl (by rw[←hnl.out];have:=hD.some;omega);cases e;exact hlt
 have hown0:w.ownsRow 0 5 1 (.slice (some ⟨g,0,none⟩) n c) n ((D.fast).flatten.map byt):=by have h3:=hp;rw[bytesR_of hnl.out.symm]at h3;obtain⟨F,⟨ho,_⟩,_⟩:=h3.get 3 rfl;exact ho
 have hpne:p≠g:=by obtain⟨F,G,⟨_,rfl⟩,⟨_,rfl⟩,hne⟩:=hp.apart 1 3 (by omega) rfl rfl;intro e;exact hne p (by simp) (by simp[Value.ownBlock,e])
 have hp':=Lh hp
 have hel':=Lh hel
 have hRL':=Lh hRL
 have hsh':=Lh hsh
 have hown':=Lh hown0
 have hn':=Lh hn
 have hlen':=Lh hlen
 have hfl':=Lh hfl
 have hbm':=Lh hbm
 have hbc':=Lh hbc
 have hus':=Lh hus
 have hC':=Lh hC
 have hnn:n=nn:=by rw[hn'.out,hnl2.out,flat_len512 hD.now.size,hD.now.len]
 subst hnn
 obtain⟨L,hL⟩:∃L,L=D.back.length:=⟨_,rfl⟩
 rw[←hL]at c2
 have hL':=Lh hL
 clear hp hel hRL hsh hown0 hn hlen hfl hbm hbc hus hp0 hp1 h hm hc hnb hC hL
 obtain⟨wa,hwa⟩:∃x,x=w.alloc (.cells #[.pointer (some ⟨p,0,none⟩)] 23):=⟨_,rfl⟩
 have hB1:Below w.heap.size w (((w.alloc (.cells #[.pointer (some ⟨p,0,none⟩)] 23)).alloc (.cells #[.slice none 0 0] 61)).alloc (.cells #[.pointer (some ⟨p,0,none⟩)] 23)):=(((Below.refl _ w).alloc (Nat.le_refl _) _).alloc (by simp) _).alloc (by simp;omega) _
 have hS2:=hp'.out.pure hB1
 have b2:=(hS2.diskC 1 rfl).c2
 have b0:(((w.alloc (.cells #[.pointer (some ⟨p,0,none⟩)] 23)).alloc (.cells #[.slice none 0 0] 61)).alloc (.cells #[.pointer (some ⟨p,0,none⟩)] 23)).cell? ⟨w.heap.size,0,none⟩=some (.pointer (some ⟨p,0,none⟩)):=by simp[go_sem]
 have b8:(((w.alloc (.cells #[.pointer (some ⟨p,0,none⟩)] 23)).alloc (.cells #[.slice none 0 0] 61)).alloc (.cells #[.pointer (some ⟨p,0,none⟩)] 23)).cell? ⟨w.heap.size+1,0,none⟩=some (.slice none 0 0):=by simp[go_sem]
 have b9:(((w.alloc (.cells #[.pointer (some ⟨p,0,none⟩)] 23)).alloc (.cells #[.slice none 0 0] 61)).alloc (.cells #[.pointer (some ⟨p,0,none⟩)] 23)).cell? ⟨w.heap.size+1+1,0,none⟩=some (.pointer (some ⟨p,0,none⟩)):=by simp[go_sem]
 have b1:=(hS2.diskC 1 rfl).c1
 have hS2':=Lh hS2
 have hB2':=Lh hB1
 clear hB1 hS2 hwa wa
 refine(callsIn_wide (n:=4)).1 ?_
 refine callsIn_of_wp_marks Tryz.func28 rfl trivial ?_ rfl
 simp only[Tryz.ntmps28,List.size_toArray,List.length_cons,List.length_nil,Nat.reduceAdd,Nat.reduceSub,Array.replicate_succ,Array.replicate_zero,List.push_toArray,List.append_toArray,List.nil_append,List.cons_append]
 rw[wpIn_wide]
 go_wp2_with(go_at_call 73;refine(callsIn_wide.1 (writes_in Fence.wide 1 trivial rfl p _)).mono ?_;rintro e w9 ⟨rfl,rfl⟩)
 obtain⟨w1,hw1⟩:∃w1,((w.alloc (.cells #[.pointer (some ⟨p,0,none⟩)] 23)).alloc (.cells #[.slice none 0 0] 61)).alloc (.cells #[.pointer (some ⟨p,0,none⟩)] 23)=w1:=⟨_,rfl⟩
 rw[hw1]at hS2' hB2' b0 b1 b2 b8 b9 ⊢
 have hs1:w.heap.size+1+1+1=w1.heap.size:=by rw[←hw1];simp
 have hK1:KpF w.heap.size [g] w w1:=KpF.below hB2'.out
 have hst:=writes_stops Fence.wide 3 trivial rfl (by decide) (w.heap.size+1+1) p w1.heap.size cb [g] Ab D.back us hus'.out hsh'.out hbc'.out hbm'.out w1 rfl b9 (hL'.out▸b2) ((hRL'.out.kept hK1).mono (by omega))
 have hown1:w1.ownsRow 0 5 1 (.slice (some ⟨g,0,none⟩) n c) n (D.fast.flatten.map byt):=by have h3:=hS2'.out;rw[bytesR_of hnl.out.symm]at h3;obtain⟨F,⟨ho,_⟩,_⟩:=h3.get 3 rfl;exact ho
 refine wpIn_wide.1 (wpIn_rangeFunc_ownH (F:=Fence.wide) (n:=4) rfl (by decide) (gf:=127) (lb:=#[.pointer (some ⟨w.heap.size+1+1,0,none⟩)]) rfl trivial (enters_of Tryz.func127 (by kernel_rfl) rfl) hst KpF.trans (KpF.putObj (Nat.le_refl _)) (Below.refl _ _) (fun _=>rfl)
  (CrI w1 g n c D.fast D.back) (fun _ _ _=>False) (CrI.own (by omega)) (fun _ _ _ _ _ h=>h.elim) ⟨KpF.refl _ _ _,hown1⟩
  (fun x a' W=>∃(bw:Nat) (cs:Array Value),heldV D.back us x= .agg cs∧w1.heap.size≤bw∧W.heap[bw]? =some (.cells cs 137 (0,0))∧a'= {tmps:=#[.pointer (some ⟨p,0,none⟩),.slice none 0 0,.pointer (some ⟨w.heap.size,0,none⟩),.pointer (some ⟨w.heap.size+1,0,none⟩),.pointer (some ⟨bw,0,none⟩),.pointer (some ⟨p,0,none⟩),.func (.func 127) #[] #[.pointer (some ⟨w.heap.size+1+1,0,none⟩)],heldV D.back us x,undef,undef,undef,undef,undef,undef,undef,undef,undef,undef,undef,undef,undef,undef,undef,undef,undef,undef,undef,undef,undef,undef,undef,undef,undef,undef,undef,undef,undef,undef,undef,undef,undef,undef,undef,undef,undef,undef,undef,undef,undef,undef,undef],defers:=[]})
  ?hax ?assign ?body ?done ?stop)
 case hax=>
  rintro x a' s W W' row ⟨bw,cs,h1,h2,h3,h4⟩ hg hr;refine⟨bw,cs,h1,h2,?_,h4⟩;rw[hg.block bw (lt_of_heap h3) (fun e=>?_)]
  ·exact h3
  obtain⟨_,o,ho,hc⟩:=hr bw e.symm;rw[h3]at ho;cases ho;cases hc
 case assign=>
  intro l pre x W K hI hK;obtain⟨gu,cu,hu,_⟩:=hel'.out x.1 x.2;(have hv:heldV D.back us x= .agg #[.int .i64 (D.back[x].1:Int),.slice (some ⟨gu,0,none⟩) 512 cu,.int .i64 ((x.1:Nat):Int)]:=by unfold heldV;rw[gH,hu];rfl);rw[hv];have hI2:=(CrI.own (w1:=w1) (gf:=g) (n:=n) (c:=c) (fast:=D.fast) (l:=D.back) (by omega)).alloc (.cells #[.int .i64 (D.back[x].1:Int),.slice (some ⟨gu,0,none⟩) 512 cu,.int .i64 ((x.1:Nat):Int)] 137) hI;have hK':=hK _ _ ((KeepsOthers.alloc W (.cells #[.int .i64 (D.back[x].1:Int),.slice (some ⟨gu,0,none⟩) 512 cu,.int .i64 ((x.1:Nat):Int)] 137)).from _) (KpF.below ((Below.refl _ W).alloc (hI.1.size) _)) hI2 ⟨W.heap.size,_,hv,hI.1.size,heap_alloc_new W _,rfl⟩;rw[hv]at hK';clear hK hI2 hI
  gi_wp2
  exact hK'
 case body=>
  rintro l pre x a' W hl _ hI ⟨bw,cs,h1,h2,h3,rfl⟩ hpl;obtain⟨gu,cu,hu,hglt,hgne,hsrc⟩:=hel'.out x.1 x.2;(have hv:heldV D.back us x= .agg #[.int .i64 (D.back[x].1:Int),.slice (some ⟨gu,0,none⟩) 512 cu,.int .i64 ((x.1:Nat):Int)]:=by unfold heldV;rw[gH,hu];rfl);(have hcs:cs=#[.int .i64 (D.back[x].1:Int),.slice (some ⟨gu,0,none⟩) 512 cu,.int .i64 ((x.1:Nat):Int)]:=by rw[hv]at h1;cases h1;rfl);subst hcs;have d2:=cell_of_row W bw 2 _ _ _ h3;simp only[gA,gB,gC]at d2;have e0:=(hI.1.cell (a:=⟨w.heap.size+1,0,none⟩) (by simp;omega) (by simp;omega)).trans b8;rw[hv];obtain⟨xn,hxn⟩:∃xn:Int,((x.1:Nat):Int)=xn:=⟨_,rfl⟩;(have hx0:¬xn<0:=by omega);rw[hxn]at d2 ⊢;have hI':=Lh hI;clear hI hsrc hst hown1 h1 h3 hv hpl hxn
  gi_wp2
  exact⟨(KeepsOthers.refl W).from _,KpF.refl _ _ _,hI'.out⟩
 case done=>
  intro D' xs W hD' hxs hI hdef;have h3:=hS2'.out;rw[bytesR_of hnl.out.symm]at h3;have hK:Keeps w1 W [g]:=⟨hI.1.os,hI.1.tape,hI.1.output,hI.1.size,hI.1.block⟩;have hSW:=h3.step (A':=.star (bytesR (.slice (some ⟨g,0,none⟩) n c) D.fast.flatten) (.obj D' (.deferred (some [])))) 3 rfl (w':=W) fun F ⟨ho,hF⟩ hFb=>by
   refine⟨F++[D'],⟨?_,F,[D'],rfl,⟨?_,hF⟩,hdef,rfl⟩,fun b hb=>?_,by rw[hF];exact hK⟩
   ·rw[hF];simp[Value.ownBlock];omega
   ·rw[hnl.out.symm];exact hI.2
   rcases List.mem_append.1 hb with hb|hb
   ·exact .inl hb
   rw[List.mem_singleton]at hb;subst hb;exact .inr hD'
  (have hS4:Sep w0 W.drew (diskBox p (.slice (some ⟨gn,0,none⟩) n cn) (.slice (some ⟨g,0,none⟩) n c) (.slice Ab D.back.length cb) D.off D.left::bytesR (.slice (some ⟨g,0,none⟩) n c) D.fast.flatten:: .obj D' (.deferred (some []))::bytesR (.slice (some ⟨gn,0,none⟩) n cn) D.now.flatten::(List.zipWith (fun u (x:Nat×List UInt8)=>bytesR u x.2) us D.back++R)):=by have hz:Sep w0 W (Asn.star (bytesR (.slice (some ⟨g,0,none⟩) n c) D.fast.flatten) (.obj D' (.deferred (some [])))::diskBox p (.slice (some ⟨gn,0,none⟩) n cn) (.slice (some ⟨g,0,none⟩) n c) (.slice Ab D.back.length cb) D.off D.left::bytesR (.slice (some ⟨gn,0,none⟩) n cn) D.now.flatten::(List.zipWith (fun u (x:Nat×List UInt8)=>bytesR u x.2) us D.back++R)):=Sep.drop 1 (Sep.sel [0,3,1,2] hSW (by decide) (by simp));exact(Sep.sel [2,0,1,3] hz.star_open (by decide) (by simp)).drew);have hS4r:=hS4;rw[bytesR_of hnl.out.symm,bytesR_of hnl2.out.symm]at hS4r;obtain⟨_,_,e9,_,hgn,_,_⟩:=hp'.out.sl_form 2 (by rw[bytesR_of hnl2.out.symm];rfl) (by have:=hnl2.out;have:=flat_len512 hD.now.size;have:=hD.now.len;have:=hD.some;omega);cases e9;(have ho4:W.drew.ownsRow 0 5 1 (.slice (some ⟨gn,0,none⟩) n cn) n (D.now.flatten.map byt):=by obtain⟨F,⟨ho,_⟩,_⟩:=hS4r.get 3 rfl;exact ho);(have hfl4:(D.fast.flatten.map byt).length=n:=by rw[List.length_map];exact hnl.out.symm);obtain⟨w7,hcp,hown7,hk7,hko7⟩:=copy_row_own (P:=Tryz.prog) (w:=W.drew) ho4 35 35 3 Tryz.underlying35 size_byte 0 n cn ⟨g,0,none⟩ n c (D.fast.flatten.map byt) hfl4 (fun j u hj=>by rw[Addr.add_lit,Nat.zero_add,hS4r.cellAt 1 rfl j (by have:=(gF.1 hj).1;omega)];exact hj) byt_one (by omega) rfl;have hlw:layC (D.now.flatten.map byt) 0 (D.fast.flatten.map byt)=D.fast.flatten.map byt:=layC_whole (by rw[hfl4,List.length_map];have:=hnl2.out;omega);rw[hlw]at hown7;have hS7:Sep w0 w7 (diskBox p (.slice (some ⟨gn,0,none⟩) n cn) (.slice (some ⟨g,0,none⟩) n c) (.slice Ab D.back.length cb) D.off D.left:: .sl 5 1 (.slice (some ⟨g,0,none⟩) n c) n (D.fast.flatten.map byt):: .obj D' (.deferred (some [])):: .sl 5 1 (.slice (some ⟨gn,0,none⟩) n cn) n (D.fast.flatten.map byt)::(List.zipWith (fun u (x:Nat×List UInt8)=>bytesR u x.2) us D.back++R)):=
   hS4r.step (A':=.sl 5 1 (.slice (some ⟨gn,0,none⟩) n cn) n (D.fast.flatten.map byt)) 3 rfl (w':=w7) fun F ⟨ho,hF⟩ hFb=>⟨F,⟨hown7,hF⟩,fun b hb=>.inl hb,by rw[hF];exact hk7⟩
  have hC4:=hS4.diskC 0 rfl;have hC7:=hS7.diskC 0 rfl;have g0:W.drew.cell? ⟨w.heap.size,0,none⟩=some (.pointer (some ⟨p,0,none⟩)):=(hI.1.cell (a:=⟨w.heap.size,0,none⟩) (by simp;omega) (by simp;omega)).trans b0;have hpl:p<w.heap.size:=World.block_lt_of_cell? w _ c1;have g7:w7.cell? ⟨w.heap.size,0,none⟩=some (.pointer (some ⟨p,0,none⟩)):=(World.cell?_of_block (hk7.block _ (World.block_lt_of_cell? _ _ g0) (by simp;omega))).trans g0;have hSx:W.drew.cell? ⟨w.heap.size,0,none⟩=some (.pointer (some ⟨p,0,none⟩))∧W.drew.cell? ⟨p,0,none⟩=some (.slice (some ⟨gn,0,none⟩) n cn)∧W.drew.cell? ⟨p,1,none⟩=some (.slice (some ⟨g,0,none⟩) n c):=⟨g0,hC4.c0,hC4.c1⟩;have hSy:w7.cell? ⟨w.heap.size,0,none⟩=some (.pointer (some ⟨p,0,none⟩))∧w7.cell? ⟨p,0,none⟩=some (.slice (some ⟨gn,0,none⟩) n cn)∧w7.cell? ⟨p,1,none⟩=some (.slice (some ⟨g,0,none⟩) n c):=⟨g7,hC7.c0,hC7.c1⟩;obtain⟨wd,hwd⟩:∃x,x=w7.drew:=⟨_,rfl⟩;(have hA0:Sep w0 wd (diskBox p (.slice (some ⟨gn,0,none⟩) n cn) (.slice (some ⟨g,0,none⟩) n c) (.slice Ab D.back.length cb) D.off D.left:: .sl 5 1 (.slice (some ⟨g,0,none⟩) n c) n (D.fast.flatten.map byt):: .obj D' (.deferred (some [])):: .sl 5 1 (.slice (some ⟨gn,0,none⟩) n cn) n (D.fast.flatten.map byt)::(List.zipWith (fun u (x:Nat×List UInt8)=>bytesR u x.2) us D.back++R)):=by rw[hwd];exact hS7.drew);have hA1:Sep w0 (wd.setCell ⟨p,2,none⟩ (.slice none 0 0)) (diskBox p (.slice (some ⟨gn,0,none⟩) n cn) (.slice (some ⟨g,0,none⟩) n c) (.slice none 0 0) D.off D.left:: .sl 5 1 (.slice (some ⟨g,0,none⟩) n c) n (D.fast.flatten.map byt):: .obj D' (.deferred (some [])):: .sl 5 1 (.slice (some ⟨gn,0,none⟩) n cn) n (D.fast.flatten.map byt)::(List.zipWith (fun u (x:Nat×List UInt8)=>bytesR u x.2) us D.back++R)):=hA0.bS 0 rfl 2 (.slice none 0 0);have hA2:Sep w0 ((wd.setCell ⟨p,2,none⟩ (.slice none 0 0)).setCell ⟨p,3,none⟩ (.bool false)) (diskBox p (.slice (some ⟨gn,0,none⟩) n cn) (.slice (some ⟨g,0,none⟩) n c) (.slice none 0 0) false D.left:: .sl 5 1 (.slice (some ⟨g,0,none⟩) n c) n (D.fast.flatten.map byt):: .obj D' (.deferred (some [])):: .sl 5 1 (.slice (some ⟨gn,0,none⟩) n cn) n (D.fast.flatten.map byt)::(List.zipWith (fun u (x:Nat×List UInt8)=>bytesR u x.2) us D.back++R)):=hA1.bS 0 rfl 3 (.bool false);have hA3:Sep w0 (((wd.setCell ⟨p,2,none⟩ (.slice none 0 0)).setCell ⟨p,3,none⟩ (.bool false)).setCell ⟨p,4,none⟩ (.int .i64 (-1))) (diskBox p (.slice (some ⟨gn,0,none⟩) n cn) (.slice (some ⟨g,0,none⟩) n c) (.slice none 0 0) false (-1):: .sl 5 1 (.slice (some ⟨g,0,none⟩) n c) n (D.fast.flatten.map byt):: .obj D' (.deferred (some [])):: .sl 5 1 (.slice (some ⟨gn,0,none⟩) n cn) n (D.fast.flatten.map byt)::(List.zipWith (fun u (x:Nat×List UInt8)=>bytesR u x.2) us D.back++R)):=hA2.bS 0 rfl 4 (.int .i64 (-1));have y2:=(hA0.diskC 0 rfl).c2;have z2:=(hA0.diskC 0 rfl).fz 2;have y3:=(hA1.diskC 0 rfl).c3;have z3:=(hA1.diskC 0 rfl).fz 3;have y4:=(hA2.diskC 0 rfl).c4;have z4:=(hA2.diskC 0 rfl).fz 4;(have q7:wd.cell? ⟨w.heap.size,0,none⟩=some (.pointer (some ⟨p,0,none⟩)):=by rw[hwd];exact g7);(have q8:(wd.setCell ⟨p,2,none⟩ (.slice none 0 0)).cell? ⟨w.heap.size,0,none⟩=some (.pointer (some ⟨p,0,none⟩)):=by rw[World.cell?_setCell_other _ _ _ _ (by intro e;have h9:=congrArg Addr.block e;simp only at h9;omega)];exact q7);(have q9:((wd.setCell ⟨p,2,none⟩ (.slice none 0 0)).setCell ⟨p,3,none⟩ (.bool false)).cell? ⟨w.heap.size,0,none⟩=some (.pointer (some ⟨p,0,none⟩)):=by rw[World.cell?_setCell_other _ _ _ _ (by intro e;have h9:=congrArg Addr.block e;simp only at h9;omega)];exact q8);(have q10:(((wd.setCell ⟨p,2,none⟩ (.slice none 0 0)).setCell ⟨p,3,none⟩ (.bool false)).setCell ⟨p,4,none⟩ (.int .i64 (-1))).cell? ⟨w.heap.size,0,none⟩=some (.pointer (some ⟨p,0,none⟩)):=by rw[World.cell?_setCell_other _ _ _ _ (by intro e;have h9:=congrArg Addr.block e;simp only at h9;omega)];exact q9);have hA3':=Lh hA3;clear hst hown1 b0 b1 b2 b8 b9 hS4 hS4r hS7 hA0 hA1 hA2 hA3 hC4 hC7 ho4 hown7 hSW h3 hlw;go_wp2_with fail;rename_i K1 hK1;refine wp_noPanic ?_;refine wp_region_E (S:=fun w'=>w'.cell? ⟨w.heap.size,0,none⟩=some (.pointer (some ⟨p,0,none⟩))∧w'.cell? ⟨p,0,none⟩=some (.slice (some ⟨gn,0,none⟩) n cn)∧w'.cell? ⟨p,1,none⟩=some (.slice (some ⟨g,0,none⟩) n c)) 9 (by kernel_rfl) ?_;simp only[List.size_toArray,List.length_cons,List.length_nil,Nat.reduceAdd];refine wpE_tk (i:=0) (v:=?_) hSx rfl ?_ ?_;rotate_left
  ·rintro w ⟨e1,e2,e3⟩;go_simp;try with_reducible rfl
  simp only[Act.put,gD];refine wpE_tk (i:=1) (v:=?_) hSx rfl ?_ ?_;rotate_left
  ·rintro w ⟨e1,e2,e3⟩;go_simp;try with_reducible rfl
  simp only[Act.put,gD];refine wpE_tk (i:=2) (v:=?_) hSx rfl ?_ ?_;rotate_left
  ·rintro w ⟨e1,e2,e3⟩;go_simp;try with_reducible rfl
  simp only[Act.put,gD];refine wpE_tk (i:=3) (v:=?_) hSx rfl ?_ ?_;rotate_left
  ·rintro w ⟨e1,e2,e3⟩;go_simp;try with_reducible rfl
  simp only[Act.put,gD];refine wpE_tk (i:=4) (v:=?_) hSx rfl ?_ ?_;rotate_left
  ·rintro w ⟨e1,e2,e3⟩;go_simp;try with_reducible rfl
  simp only[Act.put,gD];refine wpE_tk (i:=5) (v:=?_) hSx rfl ?_ ?_;rotate_left
  ·rintro w ⟨e1,e2,e3⟩;go_simp;try with_reducible rfl
  simp only[Act.put,gD];refine wpE_tk (i:=6) (v:=?_) hSx rfl ?_ ?_;rotate_left
  ·rintro w ⟨e1,e2,e3⟩;go_simp;try with_reducible rfl
  simp only[Act.put,gD];refine wpE_tk (i:=7) (v:=?_) hSx rfl ?_ ?_;rotate_left
  ·rintro w ⟨e1,e2,e3⟩;go_simp;try with_reducible rfl
  simp only[Act.put,gD];refine wpE_one (i:=8) (by kernel_rfl) rfl (fun K hK=>?_);go_simp;refine hK _ _ (fun _=>hSy) ?_;clear hK K;(try simp only[Act.put,gD]);refine wpE_done (by kernel_rfl) ?_ _;simp only[noPanic,Exit.then];apply hK1;clear hK1 K1;go_wp2_with fail;refine wp_noPanic ?_;refine wp_region_E (S:=fun w'=>w'.cell? ⟨w.heap.size,0,none⟩=some (.pointer (some ⟨p,0,none⟩))) 12 (by kernel_rfl) ?_;simp only[List.size_toArray,List.length_cons,List.length_nil,Nat.reduceAdd];rw[←hwd];clear hwd;refine wpE_tk (i:=0) (v:=?_) q7 rfl ?_ ?_;rotate_left
  ·rintro w e1;go_simp;try with_reducible rfl
  simp only[Act.put,gD];refine wpE_tk (i:=1) (v:=?_) q7 rfl ?_ ?_;rotate_left
  ·rintro w e1;go_simp;try with_reducible rfl
  simp only[Act.put,gD];refine wpE_tk (i:=2) (v:=?_) q7 rfl ?_ ?_;rotate_left
  ·rintro w e1;go_simp;try with_reducible rfl
  simp only[Act.put,gD];refine wpE_one (i:=3) (by kernel_rfl) rfl (fun K hK=>?_);go_simp;refine hK _ _ (fun _=>q7) ?_;clear hK K;(try simp only[Act.put,gD]);refine wpE_one (i:=4) (by kernel_rfl) rfl (fun K hK=>?_);go_simp;refine hK _ _ (fun _=>q7) ?_;clear hK K;(try simp only[Act.put,gD]);refine wpE_one (i:=5) (by kernel_rfl) rfl (fun K hK=>?_);go_simp;refine hK _ _ (fun _=>q8) ?_;clear hK K;(try simp only[Act.put,gD]);refine wpE_one (i:=6) (by kernel_rfl) rfl (fun K hK=>?_);go_simp;refine hK _ _ (fun _=>q8) ?_;clear hK K;(try simp only[Act.put,gD]);refine wpE_one (i:=7) (by kernel_rfl) rfl (fun K hK=>?_);go_simp;refine hK _ _ (fun _=>q8) ?_;clear hK K;(try simp only[Act.put,gD]);refine wpE_one (i:=8) (by kernel_rfl) rfl (fun K hK=>?_);go_simp;refine hK _ _ (fun _=>q9) ?_;clear hK K;(try simp only[Act.put,gD]);refine wpE_one (i:=9) (by kernel_rfl) rfl (fun K hK=>?_);go_simp;refine hK _ _ (fun _=>q9) ?_;clear hK K;(try simp only[Act.put,gD]);refine wpE_one (i:=10) (by kernel_rfl) rfl (fun K hK=>?_);go_simp;refine hK _ _ (fun _=>q9) ?_;clear hK K;(try simp only[Act.put,gD]);refine wpE_one (i:=11) (by kernel_rfl) rfl (fun K hK=>?_);go_simp;refine hK _ _ (fun _=>q10) ?_;clear hK K;(try simp only[Act.put,gD]);refine wpE_done (by kernel_rfl) ?_ _;simp only[noPanic];go_wp2_with fail;refine⟨by simp,.inl ⟨_,_,rfl,run_takeDeferred (hA3'.out.objAt 2 rfl),?_⟩⟩;have hS9:=hA3'.out.putObj 2 (.deferred none) rfl;refine⟨.tuple #[],?_,rfl,?_⟩
  ·simp[results,Tryz.f28,go_sem]
  refine Sep.disk_shut (D:=D.crash0) (vn:=.slice (some ⟨gn,0,none⟩) n cn) (vf:=.slice (some ⟨g,0,none⟩) n c) (vb:=.slice none 0 0) ?_;have h1:=hS9;have h2:=(h1.perm (perm4 _ _ _ _ _ _).symm).snd;have h4:=Sep.drop 1 (Sep.sel [2,0,1,3] h2 (by decide) (by simp));have hnil:=Sep.back_shut (l:=[]) (us:=[]) rfl (h4.sl_nil 137 3);rw[←bytesR_of hnl.out.symm,←bytesR_of hnl.out.symm]at hnil;exact Sep.sel [1,3,2,0] hnil (by decide) (by simp)
 case stop=>intro D' c' pre W hD' _ h;exact h.elim
end Go.Proofs.YteihmbaimbogaaaGreat
namespace Go.Proofs.YteihmbaimbogaaaGreat
open Go.RowKit
set_option linter.unusedVariables false
set_option linter.unusedSimpArgs false
end Go.Proofs.YteihmbaimbogaaaGreat
