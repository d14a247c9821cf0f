/- FyG, FyD, FyH, FvY, FvZ, FxA, FxB, FxC, FxD, FxE, FxF, FxG, FvX, FxH, FxJ, laid together. -/
import Derived.Test.YteihmbaimbogaaaGreatJ45
namespace Go.Proofs.YteihmbaimbogaaaGreat
open Go.RowKit
set_option linter.unusedVariables false
set_option linter.unusedSimpArgs false
theorem leB_four {n:Nat} (h:n<4294967296) (b:List UInt8) (i:Nat) (hb:∀j<4,b.getD (i+j) 0=UInt8.ofNat (n/2 ^ (8*j))):getB b i 4=n:=by rw[getB_succ,getB_succ,getB_succ,getB_succ];have e0:getB b i 0=0:=rfl;rw[e0,hb 0 (by decide),hb 1 (by decide),hb 2 (by decide),hb 3 (by decide)];simp only[UInt8.toNat_ofNat'];omega
theorem head_way :wayP (headB [])=some []:=by
 obtain⟨L,hL⟩:∃L,L=headL [] 0:=⟨_,rfl⟩;have hlen:L.length=512:=by rw[hL];exact headL_len [] 0 (by decide)
 have h16:L.take 16=markL:=by rw[hL];decide+kernel
 have h20:getB L 20 2=0:=by rw[hL];decide+kernel
 have hcr:=crcI_le (L.drop 20);obtain⟨n,hn⟩:∃n,n=(crcI (L.drop 20)).toNat:=⟨_,rfl⟩;have hn4:n<4294967296:=by rw[hn];omega
 have e:headB []=layB L 16 (leB n 4):=by rw[hn,hL];rfl
 have hl4:(leB n 4).length=4:=by simp[leB]
 have hlt:16+(leB n 4).length≤L.length:=by omega
 have htk:(layB L 16 (leB n 4)).take 16=markL:=by
  rw[←h16];apply List.ext_getElem?;intro k;rw[List.getElem?_take,List.getElem?_take];split
  ·rw[layB_get hlt,if_neg (by omega)]
  rfl
 have hdr:(layB L 16 (leB n 4)).drop 20=L.drop 20:=by apply List.ext_getElem?;intro k;rw[List.getElem?_drop,List.getElem?_drop,layB_get hlt,if_neg (by omega)]
 have hg4:getB (layB L 16 (leB n 4)) 16 4=n:=by(refine leB_four hn4 _ _ fun j hj=>?_);rw[gH,layB_get hlt,if_pos ⟨by omega,by omega⟩,show 16+j-16=j by omega];unfold leB;rw[List.getElem?_map,List.getElem?_range hj];rfl
 have hg2:getB (layB L 16 (leB n 4)) 20 2=0:=by rw[←h20];unfold getB;congr 1;(refine List.map_congr_left fun j hj=>?_);rw[gH,gH,layB_get hlt,if_neg (by omega)]
 unfold wayP;rw[e,htk,hdr,hg4,hg2,if_pos ⟨rfl,by rw[hn];omega⟩,if_neg (by decide)];rfl
theorem zero_way :wayP zeroB=none:=by unfold wayP;rw[if_neg];intro h;exact absurd h.1 (by decide+kernel)
def DK.sync (D:DK):Prop:=D.now=applyB D.fast D.back
theorem DK.step_sync {D:DK} (h:D.sync):D.step.sync:=by unfold DK.sync at*;rw[DK.step_now,DK.step_fast,DK.step_back];exact h
theorem DK.act_sync {D:DK} (h:D.sync) (x:DAct):(D.act x).sync:=by
 cases x with
 |none=>refine DK.step_sync ?_;unfold DK.sync at*;simp only;rw[h];rfl
 |some x=>refine DK.step_sync ?_;unfold DK.sync at*;simp only;rw[h];unfold applyB;rw[List.foldl_append];rfl
theorem runD_sync :∀(l:List DAct) {D:DK},D.sync→(runD l D).1.sync
 |[],_,h=>h
 |x::l,D,h=>by
  rw[runD];split
  ·exact h
  exact runD_sync l (DK.act_sync h x)
theorem commit_sync {S:VS} (h:S.D.sync):S.commit.1.sync:=by
 unfold VS.commit;split
 ·exact h
 exact runD_sync _ h
theorem sync_fast {D:DK} (h:D.sync) (hb:D.back=[]):D.fast=D.now:=by unfold DK.sync at h;rw[hb]at h;exact h.symm
theorem crash_fl {D:DK} (h:D.sync) (hb:D.back=[]):D.crash0=⟨D.now,D.now,[],false, -1⟩∧D.crash0.fl=⟨D.now,D.now,[],false, -1⟩:=by
 have e:D.crash0=⟨D.now,D.now,[],false, -1⟩:=by unfold DK.crash0;rw[sync_fast h hb]
 refine⟨e,?_⟩;rw[e];unfold DK.fl DK.step applyB;simp only[List.foldl_nil];rw[if_neg (by decide)]
theorem nowL_first {ps:List (Nat×List UInt8)} {c:Blks} (h:0<c.length):bk (nowL (commitActs ps) c) 0=headB []:=by
 unfold commitActs;rw[nowL_append];show bk (nowL (putActs ps++[none,some (0,headB []),none]) _) 0=_
 rw[nowL_append];show bk ((nowL (putActs ps) _).set 0 (headB [])) 0=_
 rw[bk_set _ _ _ _ (by rw[nowL_length,List.length_set,nowL_length];exact h),if_pos rfl]
theorem commit_first {S:VS} (h0:0<S.D.now.length) (h:S.commit.2=true) (hf:bk S.D.now 0=headB []):bk S.commit.1.now 0=headB []:=by
 unfold VS.commit at h ⊢;by_cases e:putsP S=[]
 ·rw[if_pos e];exact hf
 rw[if_neg e]at h ⊢;have h1:runD (commitActs (putsP S)) S.D=((runD (commitActs (putsP S)) S.D).1,true):=by rw[←h]
 rw[runD_now h1,nowL_first h0]
theorem mntD_sum {c:Blks} {g:LT} {N:Nat} (h1:∀n<N,(inoP c n).kind=(g n).kind∧(inoP c n).size=(g n).size) (h2:∀n<N,(g n).fair):∀k,k≤N→(mntD c k:Int)=sumN (fun n=>((g n).ents.length:Int)) k
 |0,_=>rfl
 |k+1,hk=>by
  have ih:=mntD_sum h1 h2 k (by omega);obtain⟨e1,e2⟩:=h1 k (by omega);unfold mntD;rw[sumN_succ,←ih,e1,e2];by_cases hkd:(g k).kind=1
  ·rw[if_pos hkd];unfold LI.size;rw[if_pos hkd];omega
  rw[if_neg hkd,(h2 k (by omega)).ents hkd];simp
theorem mnt_phys {S:VS} {g:LT} (h:Phys S g) {D:DK} (hc:D.now.drop 96=S.cur):Phys (VS.mnt S.nb S.names D S.names) g:=by
 have hh:∀n<S.names,(inoP S.cur n).kind=(g n).kind∧(inoP S.cur n).size=(g n).size:=fun n hn=>by have:=h.head n hn;rw[this];exact⟨rfl,rfl⟩
 refine h.same rfl rfl hc ?_ ?_ ?_
 ·rw[h.wB];(show mntB (D.now.drop 96) S.names=_);rw[hc];unfold mntB;exact sumN_congr fun i hi=>by rw[(hh i hi).1,(hh i hi).2]
 ·rw[h.wI];(show mntI (D.now.drop 96) S.names=_);rw[hc];unfold mntI;exact sumN_congr fun i hi=>by rw[(hh i hi).1]
 rw[h.nodes];show((mntD (D.now.drop 96) S.names:Nat):Int)=_
 rw[hc];exact mntD_sum hh h.fair S.names (Nat.le_refl _)
theorem mnt_vt {S:VS} {ns:List TN} {fs:List FT} {g:LT} {dn:Key→Nat} {φ:Int→Nat} (h:Vt S ns fs g dn φ) {D:DK} (hc:D.now.drop 96=S.cur):Vt (VS.mnt S.nb S.names D S.names) ns fs g dn φ:=
 ⟨⟨mnt_phys h.vol.ph hc,h.vol.ent,h.vol.root,by have h1:=(mnt_phys h.vol.ph hc).nodes;have h2:=h.vol.ph.nodes;have h3:=h.vol.few;rw[h1];rw[h2]at h3;exact h3,rfl,rfl⟩,h.rep,rfl⟩
theorem mnt_live {S:VS} {ns:List TN} {fs:List FT} {nb names:Nat} (hL:VolT S ns fs nb names) {D:DK} (hc:D.now.drop 96=S.D.now.drop 96) (ho:D.off=false) (hl:D.left= -1):LiveT (VS.mnt nb names D names) ns fs nb names:=by obtain⟨g,dn,φ,hV⟩:=hL.vt;have h1:=mnt_vt hV (D:=D) hc;have e1:S.base.nb=nb:=hL.nbe;have e2:S.base.names=names:=hL.nm;rw[e1,e2]at h1;exact⟨⟨rfl,rfl,g,dn,φ,h1⟩,ho,hl⟩
theorem mnt_ok {S:VS} {ns:List TN} {fs:List FT} {nb names:Nat} (hL:VolT S ns fs nb names) {D:DK} (hD:D.ok nb) (hc:D.now.drop 96=S.D.now.drop 96) (ho:D.off=false) (hb:D.back=[])
  (hm:(bk D.now 96).take 16=volMark) (hn:r2 (bk D.now 96) 16=names):MntOk nb names D:=by
 obtain⟨g,dn,φ,hV⟩:=hL.vt;have e1:S.base.nb=nb:=hL.nbe;have e2:S.base.names=names:=hL.nm;have hp:=hV.vol.ph;have hvf:=hp.use.vf;have hcur:S.base.cur=D.now.drop 96:=hc.symm;have hnm:=hvf.names;have hrm:=hvf.room;unfold VS.data at hrm;rw[e1,e2]at hrm;rw[e2]at hnm;have hh:∀n<names,inoP (D.now.drop 96) n=(g n).vi (inoP (D.now.drop 96) n).spots:=fun n hn=>by have:=hp.head n (by rw[e2];exact hn);rw[hcur]at this;exact this
 refine⟨hD,ho,hb,hnm,by omega,hm,hn,fun n hn=>?_,fun n hn=>?_,fun n hn=>?_⟩
 ·have:=hp.few (n:=n) (by rw[e2];exact hn);rw[hcur]at this;exact this
 ·rw[hh n hn];have:=LI.size_le (hp.fair n (by rw[e2];exact hn));(show(g n).size≤65535);omega
 rw[hh n hn];have:=(hp.fair n (by rw[e2];exact hn)).kind;show(g n).kind≤255
 omega
section
variable {w0 w:World} {R:List Asn}
set_option maxRecDepth 100000 in
set_option maxHeartbeats 4000000 in
theorem format_arg {p nb:Nat} {D:DK} {names:Int} (hn:names<2∨1024<names) (h:Sep w0 w (diskR p D::R)):
  Calls Tryz.prog 34 #[.pointer (some ⟨p,0,none⟩),.int .i64 names] w fun e w'=>e= .returned (.tuple #[.pointer none,.int .i64 1])∧Sep w0 w' (diskR p D::R):=by
 obtain⟨bf,hbf⟩:∃b,b=w.heap.size:=⟨_,rfl⟩;have hS0:Hid (Sep w0 (((w.alloc (.cells #[.pointer none] 24)).alloc (.cells #[.int .i64 1] 39)).alloc (.cells rawF 106)) (diskR p D:: .box (bf+1+1) 106 rawF::errBox (bf+1) 1:: .box bf 24 #[.pointer none]::R)):=Lh (by have:=((h.bN 24 #[.pointer none]).bN 39 #[.int .i64 1]).bN 106 rawF;simp only[World.size_alloc,←hbf]at this;exact Sep.sel [3,0,1,2] this (by decide) (by simp[errBox]));have hmf:∀(fn:Fn) (first cap:Array Value) (w:World),(Instr.makeFunc fn first cap).run Tryz.prog w= .ok (.func fn first cap) w:=fun _ _ _ _=>rfl
 have ec:=hS0.out.bC 2 rfl 0;have el:=hS0.out.bC 3 rfl 0;have ef:=hS0.out.bF 3 rfl 0;have h3:=hS0.out.bS 3 rfl 0 (.pointer none);have ec3:=h3.bC 2 rfl 0;have el3:=h3.bC 3 rfl 0;try simp only[gA,gB]at ec el ec3 el3
 have h3':=Lh h3;clear h h3 hS0;unfold rawF at*;rw[hbf]at*;rcases hn with hn|hn
 ·have q1:¬(1024:Int)<names:=by omega
  go_enter_defers Tryz.func34,Tryz.ntmps34
  go_wp2_with fail;refine told_door_ret ?_;refine leaves_cons (u:=.returning) (by simp) (enter_args _ _ enters_ffmt) ?_;refine(ffmt_nil (x:=1) (by decide) ec el ⟨_,rfl⟩ ef).mono ?_;rintro e u' w' ⟨rfl,rfl,rfl⟩;refine⟨.tuple #[.pointer none,.int .i64 1],by simp[results,Tryz.results34,go_sem,ec3,el3],rfl,?_⟩;exact(Sep.sel [1,2,3,0] h3'.out (by decide) (by simp):Sep w0 _ (_::_::_::diskR p D::R)).drop 3
 have q1:¬names<(2:Int):=by omega
 go_enter_defers Tryz.func34,Tryz.ntmps34
 go_wp2_with fail;refine told_door_ret ?_;refine leaves_cons (u:=.returning) (by simp) (enter_args _ _ enters_ffmt) ?_;refine(ffmt_nil (x:=1) (by decide) ec el ⟨_,rfl⟩ ef).mono ?_;rintro e u' w' ⟨rfl,rfl,rfl⟩;refine⟨.tuple #[.pointer none,.int .i64 1],by simp[results,Tryz.results34,go_sem,ec3,el3],rfl,?_⟩;exact(Sep.sel [1,2,3,0] h3'.out (by decide) (by simp):Sep w0 _ (_::_::_::diskR p D::R)).drop 3
set_option maxRecDepth 100000 in
set_option maxHeartbeats 4000000 in
theorem format_space {p n names:Nat} {D:DK} (hD:D.ok n) (ho:D.off=false) (h0:n≤98+(names+7)/8) (h2:2≤names) (h3:names≤1024) (h:Sep w0 w (diskR p D::R)):
  Calls Tryz.prog 34 #[.pointer (some ⟨p,0,none⟩),.int .i64 names] w fun e w'=>e= .returned (.tuple #[.pointer none,.int .i64 27])∧Sep w0 w' (diskR p D::R):=by
 obtain⟨bf,hbf⟩:∃b,b=w.heap.size:=⟨_,rfl⟩;have hA:Sep w0 (((w.alloc (.cells #[.pointer (some ⟨bf+1+1,0,none⟩)] 24)).alloc (.cells #[.int .i64 0] 39)).alloc (.cells rawF 106)) (diskR p D:: .box (bf+1+1) 106 rawF::errBox (bf+1) 0:: .box bf 24 #[.pointer (some ⟨bf+1+1,0,none⟩)]::R):=by have:=((h.bN 24 #[.pointer (some ⟨bf+1+1,0,none⟩)]).bN 39 #[.int .i64 0]).bN 106 rawF;simp only[World.size_alloc,←hbf]at this;exact Sep.sel [3,0,1,2] this (by decide) (by simp[errBox])
 have hon:=on_any hA;have hbs:=meth_dblocks 0 hD hA rfl;rw[ho]at hon;clear hA;have hS0:Hid (Sep w0 (((w.alloc (.cells #[.pointer none] 24)).alloc (.cells #[.int .i64 27] 39)).alloc (.cells rawF 106)) (diskR p D:: .box (bf+1+1) 106 rawF::errBox (bf+1) 27:: .box bf 24 #[.pointer none]::R)):=Lh (by have:=((h.bN 24 #[.pointer none]).bN 39 #[.int .i64 27]).bN 106 rawF;simp only[World.size_alloc,←hbf]at this;exact Sep.sel [3,0,1,2] this (by decide) (by simp[errBox]));have hmf:∀(fn:Fn) (first cap:Array Value) (w:World),(Instr.makeFunc fn first cap).run Tryz.prog w= .ok (.func fn first cap) w:=fun _ _ _ _=>rfl
 have ec:=hS0.out.bC 2 rfl 0;have el:=hS0.out.bC 3 rfl 0;have ef:=hS0.out.bF 3 rfl 0;have h3:=hS0.out.bS 3 rfl 0 (.pointer none);have ec3:=h3.bC 2 rfl 0;have el3:=h3.bC 3 rfl 0;try simp only[gA,gB]at ec el ec3 el3
 have h3':=Lh h3;clear h h3 hS0;unfold rawF at*;rw[hbf]at*;have q1:(n:Int)≤4096:=by have:=hD.few;omega
 have q2:(2:Int)≤names:=by omega
 have q3:(names:Int)≤1024:=by omega
 have hpt:=fun W=>parts_fs (n:=names) (by':=8) (by omega) (by omega) (by omega) W
 have e1:((names+8-1)/8:Nat)=(names+7)/8:=by omega
 rw[e1]at hpt;obtain⟨P,hP⟩:∃P,P=(names+7)/8:=⟨_,rfl⟩;rw[←hP]at hpt h0;have hP1:(P:Int)≤128:=by omega
 have h0':(n:Int)≤98+(P:Int):=by omega
 have q4:(0:Int)≤n:=by omega
 clear hP e1
 focus
  go_enter_defers Tryz.func34,Tryz.ntmps34
  go_wp2_with(first |(go_at_call 39;refine hon.mono ?_;rintro e w9 ⟨rfl,h9⟩;obtain rfl:=h9.symm;clear hon)|(go_at_call 84;refine hbs.mono ?_;rintro e w9 ⟨rfl,h9⟩;obtain rfl:=h9.symm;clear hbs)|(go_at_call 85;refine(hpt _).mono ?_;rintro e w9 ⟨rfl,h9⟩;obtain rfl:=h9.symm))
  refine told_door_ret ?_
  refine leaves_cons (u:=.returning) (by simp) (enter_args _ _ enters_ffmt) ?_
  refine(ffmt_nil (x:=27) (by decide) ec el ⟨_,rfl⟩ ef).mono ?_
  rintro e u' w' ⟨rfl,rfl,rfl⟩
  refine⟨.tuple #[.pointer none,.int .i64 27],by simp[results,Tryz.results34,go_sem,ec3,el3],rfl,?_⟩
  exact(Sep.sel [1,2,3,0] h3'.out (by decide) (by simp):Sep w0 _ (_::_::_::diskR p D::R)).drop 3
end
theorem new_disk {n names:Nat} (h0:98+(names+7)/8<n) (h1:n≤4096) (h2:2≤names) (h3:names≤1024):
  (VS.new n names).D.back=[]∧(VS.new n names).D.sync∧bk (VS.new n names).D.now 0=headB []∧(bk (VS.new n names).D.now 96).take 16=volMark∧r2 (bk (VS.new n names).D.now 96) 16=names:=by
 have hp:=laid_phys h0 h1 h2 h3;have hD:(VS.laid n names).D.ok (VS.laid n names).nb:=made_ok (n:=n) (by omega) h1;have h96:96<(VS.laid n names).nb:=by show 96<n;omega
 have hfew:Few ((VS.laid n names).D.now.drop 96) (VS.laid n names):=(((Few.refl (VS.raw n names)).put _ _).put _ _).keep _ _;have hc:=(new_live n names).1;have e:=settled_cur hD h96 hp.use.cur hfew (show 0+1+1+1≤40 by decide) hc;have e2:(VS.new n names).D.now.drop 96=(VS.laid n names).cur:=e;have e3:bk (VS.new n names).D.now 96=firstB names:=by(have:bk ((VS.new n names).D.now.drop 96) 0=bk (VS.laid n names).cur 0:=by rw[e2]);rw[bk_drop]at this;rw[this];unfold VS.laid VS.keep keepP;(show bk (List.set _ 2 _) 0=_);rw[bk_set_ne _ _ (by decide)];(show bk (List.set _ 1 _) 0=_);rw[bk_set_ne _ _ (by decide)];(show bk (List.set _ 0 (firstB names)) 0=_);have hraw:=raw_vc (n:=n) (names:=names) (fb:=0) h0 h1;have hlen:(VS.raw n names).cur.length=n-96:=hraw.cur.len;rw[bk_set _ _ _ _ (by rw[hlen];omega),if_pos rfl]
 refine⟨commit_back hc rfl,commit_sync (show(DK.made n).sync from rfl),commit_first (show 0<(VS.laid n names).D.now.length by have:=hD.now.len;show 0<(DK.made n).now.length;have e:(DK.made n).now.length=n:=this;omega) hc ?_,?_,?_⟩
 ·(show bk ((List.replicate n zeroB).set 0 (headB [])) 0=headB []);rw[bk_set _ _ _ _ (by rw[List.length_replicate];omega),if_pos rfl]
 ·rw[e3];apply List.ext_getElem?;intro k;unfold firstB;rw[List.getElem?_take];split
  ·rw[layB_get (by rw[layB_len,zeroB_len];rw[w2_len];decide;rw[zeroB_len];decide),if_neg (by omega),layB_get (by rw[zeroB_len];decide),if_pos ⟨by omega,by show k<0+16;omega⟩];rfl
  rw[List.getElem?_eq_none (by show 16≤k;omega)]
 rw[e3];unfold r2 firstB;have hlt:16+(w2 names).length≤(layB zeroB 0 volMark).length:=by rw[layB_len,zeroB_len];rw[w2_len];decide;rw[zeroB_len];decide
 rw[gH,gH,layB_get hlt,layB_get hlt,if_pos ⟨by omega,by rw[w2_len];omega⟩,if_pos ⟨by omega,by rw[w2_len];omega⟩];show(UInt8.ofNat names).toNat+256*(UInt8.ofNat (names/256)).toNat=names
 rw[UInt8.toNat_ofNat',UInt8.toNat_ofNat'];omega
section
variable {w0 w:World} {R:List Asn}
set_option maxRecDepth 100000 in
theorem tollC_any (b i:Int) (w:World):Calls Tryz.prog 18 #[.agg #[.int .i64 b,.int .i64 i]] w fun e w'=>e= .returned (cplx b i)∧Below w.heap.size w w':=by
 have hfo:∀z:Int,floatOfInt FloatKind.f64 z=fI z:=fun _=>rfl
 have hb:=(Below.refl w.heap.size w).alloc (Nat.le_refl _) (.cells #[.int .i64 b,.int .i64 i] 28);go_enter Tryz.func18,Tryz.ntmps18;go_wp2;go_ret;exact⟨by unfold cplx;rw[←hfo,←hfo];rfl,hb⟩
theorem toll_results {fn:Func} {p:Tmp} (h:fn.results=#[.cell p 28]) {tmps:Array Value} {w:World} {b:Nat} {v0 v1:Value} (hp:tmps.getD p undef= .pointer (some ⟨b,0,none⟩)) (h0:w.cell? ⟨b,0,none⟩=some v0) (h1:w.cell? ⟨b,1,none⟩=some v1):
  (results fn tmps).run Tryz.prog w= .ok (.agg #[v0,v1]) w:=by
 have hp2:tmps[p]?.getD undef= .pointer (some ⟨b,0,none⟩):=by simpa using hp
 have hl:(loadVar 28 ⟨b,0,none⟩).run Tryz.prog w= .ok (.agg #[v0,v1]) w:=by simp[loadVar,go_sem,h0,h1]
 simp only[results,h];simp[Result.andThen,hp2,asAddr,hl]
theorem toll_results2 {fn:Func} {p u:Tmp} (h:fn.results=#[.cell p 28,.tmp u]) {tmps:Array Value} {w:World} {b:Nat} {v0 v1 v:Value} (hp:tmps.getD p undef= .pointer (some ⟨b,0,none⟩)) (hu:tmps.getD u undef=v) (h0:w.cell? ⟨b,0,none⟩=some v0) (h1:w.cell? ⟨b,1,none⟩=some v1):
  (results fn tmps).run Tryz.prog w= .ok (.tuple #[.agg #[v0,v1],v]) w:=by
 have hp2:tmps[p]?.getD undef= .pointer (some ⟨b,0,none⟩):=by simpa using hp
 have hu2:tmps[u]?.getD undef=v:=by simpa using hu
 have hl:(loadVar 28 ⟨b,0,none⟩).run Tryz.prog w= .ok (.agg #[v0,v1]) w:=by simp[loadVar,go_sem,h0,h1]
 simp only[results,h];simp[Result.andThen,hp2,hu2,asAddr,hl]
set_option maxRecDepth 100000 in
theorem tollM_any {a b c d:Int} (h1: -1000000≤a∧a≤1000000) (h2: -1000000≤b∧b≤1000000) (h3: -1000000≤c∧c≤1000000) (h4: -1000000≤d∧d≤1000000) (w:World):
  Calls Tryz.prog 19 #[.agg #[.int .i64 a,.int .i64 b],.agg #[.int .i64 c,.int .i64 d]] w fun e w'=>e= .returned (.agg #[.int .i64 (a-c),.int .i64 (b-d)])∧Below w.heap.size w w':=by
 obtain⟨a1,a2⟩:=h1;obtain⟨b1,b2⟩:=h2;obtain⟨c1,c2⟩:=h3;obtain⟨d1,d2⟩:=h4;have hS:=(((Sep.nil w).bN 28 #[.int .i64 a,.int .i64 b]).bN 28 #[.int .i64 c,.int .i64 d]).bN 28 #[.int .i64 (a-c),.int .i64 (b-d)];simp only[World.size_alloc]at hS;go_enter Tryz.func19,Tryz.ntmps19;go_wp2;refine bodyPost_ret (toll_results rfl rfl (hS.bC 0 rfl 0) (hS.bC 0 rfl 1)) rfl ?_;exact⟨rfl,hS.below⟩
set_option maxRecDepth 100000 in
theorem dir0_any (w:World):Calls Tryz.prog 56 #[.int .i64 0] w fun e w'=>e= .returned (.agg #[.int .i64 1,.int .i64 1])∧Below w.heap.size w w':=by have hS:=(Sep.nil w).bN 28 #[.int .i64 1,.int .i64 1];go_enter Tryz.func56,Tryz.ntmps56;go_wp2;refine bodyPost_ret (toll_results rfl rfl (hS.bC 0 rfl 0) (hS.bC 0 rfl 1)) rfl ?_;exact⟨rfl,hS.below⟩
set_option maxRecDepth 100000 in
theorem kids_none (s:ByteArray) (w:World):Calls Tryz.prog 57 #[.agg #[.slice none 0 0,.slice none 0 0],.string s] w fun e w'=>e= .returned (.slice none 0 0)∧Below w.heap.size w w':=by
 have hS:=(Sep.nil w).bN 32 #[.slice none 0 0,.slice none 0 0];go_enter Tryz.func57,Tryz.ntmps57;go_wp2;go_loopw[6,5] (fun iv lv wr=>iv= .int .i64 0∧lv= .slice none 0 0∧wr=w.alloc (.cells #[.slice none 0 0,.slice none 0 0] 32)) (fun _ _ _=>0)
 case atStart=>exact⟨rfl,rfl,rfl⟩
 obtain⟨rfl,rfl,rfl⟩:=hrel;go_wp2;go_ret;exact⟨rfl,hS.below⟩
set_option maxRecDepth 100000 in
theorem bases_none (A:Option Addr) (c:Nat) (w:World):Calls Tryz.prog 145 #[.slice A 0 c,.slice none 0 0] w fun e w'=>e= .returned (.bool true)∧w'=w:=by
 go_enter Tryz.func145,Tryz.ntmps145;go_wp2;go_loopw[5] (fun iv wr=>iv= .int .i64 0∧wr=w) (fun _ _=>0)
 case atStart=>exact⟨rfl,rfl⟩
 obtain⟨rfl,rfl⟩:=hrel;go_wp2;go_ret;exact⟨rfl,rfl⟩
set_option maxRecDepth 100000 in
theorem weight_none (w:World):Calls Tryz.prog 20 #[.agg #[.slice none 0 0,.slice none 0 0]] w fun e w'=>e= .returned (.agg #[.int .i64 1,.int .i64 1])∧Below w.heap.size w w':=by
 have hS:=((Sep.nil w).bN 32 #[.slice none 0 0,.slice none 0 0]).bN 28 #[.int .i64 0,.int .i64 0];simp only[World.size_alloc]at hS;have hS':=Lh hS;clear hS;go_enter Tryz.func20,Tryz.ntmps20;go_wp2_with(first |(go_at_call 57;refine(kids_none _ _).mono ?_;rintro e w1 ⟨rfl,hb1⟩;have h1:=Lh (hS'.out.pure hb1);have k1:=h1.out.bC 1 rfl 0;have k2:=h1.out.bC 1 rfl 1;clear hb1)|(go_at_call 56;refine(dir0_any _).mono ?_;rintro e w2 ⟨rfl,hb2⟩;have h2:=Lh ((h1.out.pure hb2).bN 28 #[.int .i64 1,.int .i64 1]);clear hb2 h1 k1 k2));have c0:=h2.out.bC 2 rfl 0;have c1:=h2.out.bC 2 rfl 1;simp only[gA,gB,gC]at c0 c1;obtain⟨w3,hw3⟩:∃w3,w3=w2.alloc (.cells #[.int .i64 1,.int .i64 1] 28):=⟨_,rfl⟩;obtain⟨b3,hb3⟩:∃b3,b3=w2.heap.size:=⟨_,rfl⟩;rw[←hw3,←hb3]at h2;rw[←hw3]at c0 c1;rw[←hw3,←hb3];clear hw3 hb3;go_loopw[4] (fun iv wr=>iv= .int .i64 0∧wr=w3) (fun _ _=>0)
 case atStart=>exact⟨rfl,rfl⟩
 obtain⟨rfl,rfl⟩:=hrel;go_wp2;go_loopw[5] (fun iv wr2=>iv= .int .i64 0∧wr2=wr) (fun _ _=>0)
 case atStart=>exact⟨rfl,rfl⟩
 obtain⟨rfl,rfl⟩:=hrel;rename_i wz;have t0:=h2.out.bC 0 rfl 0;have t1:=h2.out.bC 0 rfl 1;have s0:=h2.out.bF 1 rfl 0;have s1:=h2.out.bF 1 rfl 1;have z0:=h2.out.bC 1 rfl 0;have z1:=h2.out.bC 1 rfl 1;simp only[gA,gB,gC]at t0 t1 z0 z1;have hA:=(h2.out.bS 1 rfl 0 (.int .i64 1)).bS 1 rfl 1 (.int .i64 1);have r0:=hA.bC 1 rfl 0;have r1:=hA.bC 1 rfl 1;have hA':=Lh hA;clear hA h2;go_wp2;refine bodyPost_ret (toll_results rfl rfl r0 r1) rfl ?_;exact⟨rfl,hA'.out.below⟩
end
end Go.Proofs.YteihmbaimbogaaaGreat
namespace Go.Proofs.YteihmbaimbogaaaGreat
set_option linter.unusedVariables false
set_option linter.unusedSimpArgs false
def presT (ns:List TN) (K:Key):Except Int TN:=match atT ns K with
 | .error e=>.error e
 | .ok none=>.error 21
 | .ok (some n)=>.ok n
section
variable {S:VS} {g:LT} {ns:List TN} {fs:List FT} {dn:Key→Nat} {φ:Int→Nat}
theorem Vt.kindF (h:Vt S ns fs g dn φ) {n:TN} (hn:n∈ns):(inoP S.cur (inoN dn φ n)).kind=1↔n.file= -1:=by
 obtain⟨hk1,hk2⟩:=h.rep.kindN hn;rw[h.vol.ph.kind hk1];rcases hk2 with⟨h1,h2⟩|⟨h1,h2⟩
 ·exact⟨fun _=>h1,fun _=>h2⟩
 exact⟨fun e=>(by rw[h2]at e;cases e),fun e=>absurd e h1⟩
theorem Vt.something (h:Vt S ns fs g dn φ) (p:List UInt8):somethingE (lookP S.cur S.data 0 0 (splitB p))=match presT ns (splitB p)with| .error e=>some e| .ok _=>none:=by
 have hL:=h.look p;unfold presT;cases ha:atT ns (splitB p)with
 |error e=>rw[ha]at hL;simp only at hL;have:=atT_err ha;rw[hL];unfold somethingE;simp only;rw[if_neg (by omega)]
 |ok y=>
  cases y with
  |none=>rw[ha]at hL;simp only at hL;rw[hL];rfl
  |some n=>rw[ha]at hL;simp only at hL;rw[hL];unfold somethingE;simp only;rw[if_pos trivial,if_neg (by omega)]
end
section
variable {S:VS} {g:LT} {ns:List TN} {fs:List FT} {dn:Key→Nat} {φ:Int→Nat}
theorem presT_ok {K:Key} {n:TN} (h:presT ns K= .ok n):atT ns K= .ok (some n):=by
 unfold presT at h;cases ha:atT ns K with
 |error e=>rw[ha]at h;cases h
 |ok y=>
  cases y with
  |none=>rw[ha]at h;cases h
  |some m=>rw[ha]at h;cases h;rfl
theorem Vt.look_is (h:Vt S ns fs g dn φ) {p:List UInt8} {n:TN} (ha:atT ns (splitB p)= .ok (some n)):lookP S.cur S.data 0 0 (splitB p)=((dn (splitB p).dropLast:Int),(inoN dn φ n:Int),0):=by have:=h.look p;rw[ha]at this;exact this
theorem inoD {n:TN} (hf:n.file= -1):inoN dn φ n=dn (keyN n):=by unfold inoN;rw[if_pos hf]
end
open Go.RowKit
def lsX (ns:List TN) (path:List UInt8):Int:=if path=[]then 0 else if plainE path=0 then(match presT ns (splitB path)with| .error e=>e| .ok n=>if n.file= -1 then 0 else 22)else plainE path
def lsK (path:List UInt8):Key:=if path=[]then []else splitB path
def lsN (ns:List TN) (path:List UInt8):List (List UInt8):=if lsX ns path=0 then(kidsN ns (lsK path)).map fun n=>(keyN n).getLastD []else []
section
variable {w0 w:World} {R:List Asn} {f q p:Nat} {S:VS} {ns:List TN} {fs:List FT} {nb names:Nat}
theorem presT_err {K:Key} {e:Int} (h:presT ns K= .error e):e≠0:=by
 unfold presT at h;cases ha:atT ns K with
 |error k=>rw[ha]at h;cases h;have:=atT_err ha;omega
 |ok y=>
  rw[ha]at h;cases y with
  |none=>cases h;decide
  |some n=>cases h
theorem Vt.list {g:LT} {dn:Key→Nat} {φ:Int→Nat} (h:Vt S ns fs g dn φ) (path:List UInt8):listX S path=lsX ns path∧(listN S path).Perm (lsN ns path)∧(listN S path).Pairwise fun x y=>x≤y:=by
 have hsort:(listN S path).Pairwise fun x y=>x≤y:=by
  unfold listN;split
  ·exact sortS_le _
  exact List.Pairwise.nil
 have key:∀K,IsDir ns K→(sortS ((dirL S.cur S.data (inoP S.cur (dn K))).map (·.1))).Perm ((kidsN ns K).map fun n=>(keyN n).getLastD []):=fun K hK=>by obtain⟨hd1,hd2⟩:=h.rep.dirI hK;rw[h.vol.ph.ents _ hd1 hd2];refine(sortS_perm _).trans ?_;have h2:=(h.rep.ents K hK).map (·.1);rw[List.map_map]at h2;exact h2
 by_cases e0:path=[]
 ·have hk:=h.vol.rootI;(have hX:listX S path=0:=by unfold listX;rw[if_pos e0,if_pos hk]);(have hX2:lsX ns path=0:=by unfold lsX;rw[if_pos e0]);refine⟨hX.trans hX2.symm,?_,hsort⟩;have hk0:=key [] (.inl rfl);rw[h.rep.root]at hk0;unfold listN listI lsN lsK;rw[if_pos hX,if_pos e0,if_pos hX2,if_pos e0];exact hk0
 by_cases hE:plainE path=0
 ·have hsm:=h.something path;cases ha:presT ns (splitB path)with
  |error e=>rw[ha]at hsm;simp only at hsm;(have hX:listX S path=e:=by unfold listX;rw[if_neg e0,if_pos hE,hsm]);(have hX2:lsX ns path=e:=by unfold lsX;rw[if_neg e0,if_pos hE,ha]);have hne:=presT_err ha;refine⟨hX.trans hX2.symm,?_,hsort⟩;unfold listN lsN;rw[hX,hX2,if_neg hne,if_neg hne]
  |ok n=>
   rw[ha]at hsm;simp only at hsm;have ha2:=presT_ok ha;obtain⟨_,hno,_⟩:=atT_dir (S:=S) h.rep ha2;have hnm:=nodeK_some hno.symm;have hlk:=h.look_is ha2;have hkd:=h.kindF hnm.1;by_cases hf:n.file= -1
   ·(have hX:listX S path=0:=by unfold listX;rw[if_neg e0,if_pos hE,hsm,hlk];simp only[Int.toNat_natCast];rw[if_pos (hkd.2 hf)]);(have hX2:lsX ns path=0:=by unfold lsX;rw[if_neg e0,if_pos hE,ha];simp only;rw[if_pos hf]);refine⟨hX.trans hX2.symm,?_,hsort⟩;have hk0:=key (splitB path) (.inr ⟨n,hnm.1,hnm.2,hf⟩);unfold listN listI lsN lsK;rw[if_pos hX,if_neg e0,if_pos hX2,if_neg e0,hlk];simp only[Int.toNat_natCast];rw[inoD hf,hnm.2];exact hk0
   (have hX:listX S path=22:=by unfold listX;rw[if_neg e0,if_pos hE,hsm,hlk];simp only[Int.toNat_natCast];rw[if_neg (fun e=>hf (hkd.1 e))]);(have hX2:lsX ns path=22:=by unfold lsX;rw[if_neg e0,if_pos hE,ha];simp only;rw[if_neg hf]);refine⟨hX.trans hX2.symm,?_,hsort⟩;unfold listN lsN;rw[hX,hX2,if_neg (by decide),if_neg (by decide)]
 have hX:listX S path=plainE path:=by unfold listX;rw[if_neg e0,if_neg hE]
 have hX2:lsX ns path=plainE path:=by unfold lsX;rw[if_neg e0,if_neg hE]
 refine⟨hX.trans hX2.symm,?_,hsort⟩;unfold listN lsN;rw[hX,hX2,if_neg hE,if_neg hE]
end
end Go.Proofs.YteihmbaimbogaaaGreat
namespace Go.Proofs.YteihmbaimbogaaaGreat
set_option linter.unusedVariables false
set_option linter.unusedSimpArgs false
open Go.RowKit
theorem run_cself {a b:Int} (ha:SmallI a) (hb:SmallI b) (W:World):(binOp .neq 44 (cplx a b) (cplx a b)).run Tryz.prog W= .ok (.bool false) W:=by have e1:FloatKind.f64.format.order (fI a) (fI a)=some (compare a a):=order_fI ha ha;have e2:FloatKind.f64.format.order (fI b) (fI b)=some (compare b b):=order_fI hb hb;have e3:compare a a= .eq:=Int.compare_eq_eq.2 rfl;have e4:compare b b= .eq:=Int.compare_eq_eq.2 rfl;rw[e3]at e1;rw[e4]at e2;unfold cplx;simp[binOp,go_sem,Op.complexOp,Op.Complex.cmp,Op.floatCmp,asBool,e1,e2]
theorem run_cguard {a b:Int} (x y:Operand) (W:World):(eqGuard .neq 44 x y (cplx a b) (cplx a b)).run Tryz.prog W= .ok () W:=by
 unfold cplx
 kernel_rfl
end Go.Proofs.YteihmbaimbogaaaGreat
