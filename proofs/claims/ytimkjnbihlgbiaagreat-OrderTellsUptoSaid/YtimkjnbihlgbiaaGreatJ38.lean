/- ModelDo3, SameP, CanP, ModelStep, ModelStep2, ModelDo2, ModelLookC, ModelAll, Growth, laid together. -/
import Derived.Test.YtimkjnbihlgbiaaGreatJ37
namespace Go.Proofs.YtimkjnbihlgbiaaGreat
open Go.RowKit
set_option linter.unusedVariables false
def DatOk (w:World) (Cs:List (Nat×Int×Value)):Prop:=∀c∈Cs,∃n,DataAt w c.2.2 n∧n≤8192
theorem data_none (w:World):DataAt w (.slice none 0 0) 0:=⟨[],⟨rfl,none,0,rfl,Nat.le_refl _,Nat.zero_le _,fun h=>absurd h (Nat.lt_irrefl _)⟩,by simp⟩
theorem doF_dat {w:World} {f:Int} {S S':WSt} (h:DatOk w S.Cs) (h':f=0→DatOk w S'.Cs):DatOk w (doF f S S').Cs:=by
 unfold doF;split
 ·rename_i e;exact h' e
 exact h
theorem doG_dat {w:World} {two:Bool} {p tz:List UInt8} {S S':WSt} (h:DatOk w S.Cs) (h':DatOk w S'.Cs):DatOk w (doG two p tz S S').Cs:=by
 unfold doG;split
 ·exact h
 exact h'
theorem contAt_dat {w:World} {Cs:List (Nat×Int×Value)} (h:DatOk w Cs) (i:Int):∃n,DataAt w (contAt Cs i) n∧n≤8192:=by
 unfold contAt;cases hf:Cs.find? fun c=>decide ((c.1:Int)=i)with
 |none=>exact⟨0,data_none w,by decide⟩
 |some c=>exact h c (List.mem_of_find?_eq_some hf)
theorem doA_dat {w:World} {op:Int} {p tz:List UInt8} {mode ref:Int} {sv:Value} {cs:List Value} {S:WSt} (hs:StockAt w sv cs) (h:DatOk w S.Cs):DatOk w (doA op p tz mode ref cs S).Cs:=by
 unfold doA;have one:∀ {c:Nat×Int×Value},(∃n,DataAt w c.2.2 n∧n≤8192)→DatOk w (S.Cs++[c]):=fun {c} hc x hx=>by
  rcases List.mem_append.1 hx with hx|hx
  ·exact h x hx
  (have:x=c:=by simpa using hx);subst this;exact hc
 split
 ·unfold doP1;(refine doF_dat h fun _=>doG_dat h ?_);unfold mkdirP;split<;>exact h
 split
 ·unfold doP2;(refine doF_dat h fun _=>?_);unfold rmdirP;split
  ·split
   ·exact h
   split<;>exact h
  exact h
 split
 ·unfold doP3;(refine doF_dat h fun _=>?_);unfold renameP;split<;>exact h
 split
 ·unfold doP4;(refine doF_dat h fun _=>doG_dat h ?_);unfold linkP;split<;>exact h
 split
 ·unfold doP5;(refine doF_dat h fun _=>?_);unfold unlinkP;split
  ·exact fun c hc=>h c (List.mem_filter.1 hc).1
  exact h
 split
 ·unfold doP6;(refine doF_dat h fun hf=>doG_dat h ?_);obtain⟨_,_,_,h4⟩:=firstP_ok hf;obtain⟨r1,r2,r3⟩:=h4 rfl;unfold writeP;split
  ·refine one ?_;obtain⟨k,hk⟩:∃k:Nat,ref=(k:Int):=⟨ref.toNat,by omega⟩;(have hkl:ref.toNat<cs.length:=by omega);(have hg:cs.getD ref.toNat (.slice none 0 0)=cs[ref.toNat]:=by rw[gH,gE hkl];rfl);obtain⟨n,hd,_⟩:=hs.2 cs[ref.toNat] (List.getElem_mem hkl);rw[hg]at r3 ⊢;obtain⟨A,c,e,_⟩:=hd.shape;rw[e]at r3;exact⟨n,hd,r3⟩
  exact h
 split
 ·unfold doP7;(refine doF_dat h fun _=>doG_dat h ?_);unfold copyP;split
  ·exact one (contAt_dat h _)
  exact h
 split
 ·unfold doP8;(refine doF_dat h fun _=>?_);unfold chmodP;split
  ·split
   ·exact h
   intro c hc;obtain⟨x,hx,rfl⟩:=List.mem_map.1 hc;split
   ·exact h x hx
   exact h x hx
  exact h
 split<;>exact h
theorem cs0_dat {w:World} {nv fv:Value} {ns:List TN} {fs:List TF} {vs:List Value} (hT:TreeAt w nv fv ns fs vs) (hs:∀f∈fs,f.size≤8192):DatOk w (cs0 fs vs):=by intro c hc;unfold cs0 at hc;obtain⟨x,hx,rfl⟩:=List.mem_map.1 hc;obtain⟨k,hk⟩:=List.mem_iff_getElem?.1 hx;rw[List.getElem?_zipIdx,Option.map_eq_some_iff]at hk;obtain⟨y,hy,rfl⟩:=hk;rw[List.getElem?_zip_eq_some]at hy;exact⟨y.1.size,hT.data k y.2 y.1 hy.2 hy.1,hs y.1 (gG hy.1)⟩
def fC (Cs:List (Nat×Int×Value)) (id:Int):TF:=match Cs.find? fun c=>decide ((c.1:Int)=id)with
 |some c=>⟨c.2.1,dvLen c.2.2⟩
 |none=>⟨0,0⟩
theorem fE_fC (Fs:List FEnt) (id:Int):fE Fs id=fC (Fs.map cont) id:=by
 unfold fE fAtI fC;rw[List.find?_map];have e:((fun c:Nat×Int×Value=>decide ((c.1:Int)=id))∘cont)=fun f:FEnt=>decide ((f.id:Int)=id):=by funext f;rfl
 rw[e];cases Fs.find? fun f=>decide ((f.id:Int)=id)<;>rfl
def canCs (Ns:List TN) (Cs:List (Nat×Int×Value)):List TF:=(idsP (sortT Ns)).map (fC Cs)
theorem canFs_Cs (Ns:List TN) (Fs:List FEnt):canFs Ns Fs=canCs Ns (Fs.map cont):=by unfold canFs canCs;apply List.map_congr_left;intro id _;exact fE_fC Fs id
section
variable {w:World} {nv fv:Value} {ns:List TN} {fs:List TF} {vs:List Value}
set_option maxRecDepth 100000 in
theorem Do_err (h:TreeAt w nv fv ns fs vs) (hm:TreeSm ns fs) (ho:LooseOk ns fs) {op mode ref:Int} (o1: -9223372036854775808≤op) (o2:op≤9223372036854775807) {p tz:List UInt8} (hp9:p.length≤1048576) (ht9:tz.length≤1048576) {sv:Value} {cs:List Value} (hsv:StockAt w sv cs) (hb:(doA op p tz mode ref cs ⟨0,ns,cs0 fs vs,fs.length⟩).e≠0):
  Calls Tryz.prog 29 #[.agg #[nv,fv],insV op p tz mode ref,sv] w fun e w'=>e= .returned (.tuple #[.agg #[.slice none 0 0,.slice none 0 0],.int .i64 (doA op p tz mode ref cs ⟨0,ns,cs0 fs vs,fs.length⟩).e])∧Below w.heap.size w w':=by
 have hS0:=(((Sep.nil w).bN 25 #[nv,fv]).bN 49 (insC op p tz mode ref)).bN 25 #[.slice none 0 0,.slice none 0 0];simp only[World.size_alloc]at hS0;have hc:=h.below hS0.below;have hop:=Lh (open_ok hc hm ho);have hst:Hid (∀ {w1:World} {W bn bf bk:Nat} {Fs:List FEnt} {Lk:List (Lit×Value)},FsG fs vs ns fs.length Fs→KidsOk Lk ns→Lk.length≤ns.length→Sep _ w1 (gAs W bn bf bk fs.length ns Fs Lk [])→Calls Tryz.prog 55 #[.pointer (some ⟨W,0,none⟩),insV op p tz mode ref,sv] w1 fun e w'=>e= .returned (.int .i64 (doA op p tz mode ref cs ⟨0,ns,cs0 fs vs,fs.length⟩).e)∧GW _ w' W bn bf bk [] (doA op p tz mode ref cs ⟨0,ns,cs0 fs vs,fs.length⟩)):=fun {w1 W bn bf bk Fs Lk} hf hk hl hs=>by
  have h1:=do_g hs (open_good hc ho hf hk) (by have:=ho.few;omega) ho.few ho.few2 (by rw[hf.len];exact ho.few2) o1 o2 hp9 ht9 mode ref (hsv.below hS0.below)
  rwa [open_cont h.len hf]at h1
 have q1:((doA op p tz mode ref cs ⟨0,ns,cs0 fs vs,fs.length⟩).e !=0)=true:=by simpa using hb
 generalize doA op p tz mode ref cs ⟨0,ns,cs0 fs vs,fs.length⟩=st at hst q1 ⊢;obtain⟨A1,c1,rfl,hm1⟩:=h.nodes.shape;obtain⟨A2,c2,rfl,hm2⟩:=h.files.shape;obtain⟨As9,cp9,rfl,_⟩:=hsv.1.shape;have hS0':=Lh hS0;unfold insC insV strV at*;clear hS0 h hc hsv hb;go_enter Tryz.func29,Tryz.ntmps29;go_wp2_with(first |(go_at_call 54;refine hop.out.mono ?_;rintro e w1 ⟨W,bn,bf,bk,Fs,rfl,hfs,Lk,hkd,hll,hs1⟩;(have hd:=(hS0'.out.join hs1).snd);(have d0:=hd.bC 1 rfl 0);(have d1:=hd.bC 1 rfl 1);(have d2:=hd.bC 1 rfl 2);(have d3:=hd.bC 1 rfl 3);(have d4:=hd.bC 1 rfl 4);simp only[gA,gB,gC]at d0 d1 d2 d3 d4;(have hdo:=Lh (hst.out hfs hkd hll hs1));clear hs1 hop hd)|(go_at_call 55;refine hdo.out.mono ?_;rintro e w2 ⟨rfl,Fs2,Lk2,hcc,hg2,hs2⟩;(have hs4:=(hS0'.out.join hs2).snd);(have r0:=hs4.bC 0 rfl 0);(have r1:=hs4.bC 0 rfl 1);(have z0:=hs4.bF 0 rfl 0);(have z1:=hs4.bF 0 rfl 1);simp only[gA,gB,gC]at r0 r1;replace hs4:=Lh hs4;clear hs2 hcc hg2));have hS4:=(hs4.out.bS 0 rfl 0 (.slice none 0 0)).bS 0 rfl 1 (.slice none 0 0);have y0:=hS4.bC 0 rfl 0;have y1:=hS4.bC 0 rfl 1;refine bodyPost_ret (tree_results2 rfl rfl y0 y1) rfl ?_;exact⟨rfl,hS4.below⟩
set_option maxRecDepth 100000 in
theorem Do_ok (h:TreeAt w nv fv ns fs vs) (hm:TreeSm ns fs) (ho:LooseOk ns fs) {op mode ref:Int} (o1: -9223372036854775808≤op) (o2:op≤9223372036854775807) {p tz:List UInt8} (hp9:p.length≤1048576) (ht9:tz.length≤1048576) {sv:Value} {cs:List Value} (hsv:StockAt w sv cs) {st:WSt} (hst9:doA op p tz mode ref cs ⟨0,ns,cs0 fs vs,fs.length⟩=st) (hb:st.e=0) (hsh:∀n∈st.Ns,n.path.length≤1048576):
  Calls Tryz.prog 29 #[.agg #[nv,fv],insV op p tz mode ref,sv] w fun e w'=>∃nv' fv' vs',e= .returned (.tuple #[.agg #[nv',fv'],.int .i64 0])∧Sep w w' [.keep fun W=>TreeAt W nv' fv' (canNs st.Ns) (canCs st.Ns st.Cs) vs']:=by
 have hS0:=(((Sep.nil w).bN 25 #[nv,fv]).bN 49 (insC op p tz mode ref)).bN 25 #[.slice none 0 0,.slice none 0 0];simp only[World.size_alloc]at hS0;have hc:=h.below hS0.below;have hop:=Lh (open_ok hc hm ho);have hst:Hid (∀ {w1:World} {W bn bf bk:Nat} {Fs:List FEnt} {Lk:List (Lit×Value)},FsG fs vs ns fs.length Fs→KidsOk Lk ns→Lk.length≤ns.length→Sep _ w1 (gAs W bn bf bk fs.length ns Fs Lk [])→Calls Tryz.prog 55 #[.pointer (some ⟨W,0,none⟩),insV op p tz mode ref,sv] w1 fun e w'=>e= .returned (.int .i64 0)∧GW _ w' W bn bf bk [] st):=fun {w1 W bn bf bk Fs Lk} hf hk hl hs=>by
  have h1:=do_g hs (open_good hc ho hf hk) (by have:=ho.few;omega) ho.few ho.few2 (by rw[hf.len];exact ho.few2) o1 o2 hp9 ht9 mode ref (hsv.below hS0.below)
  rwa [open_cont h.len hf,hst9,hb]at h1
 have hdt:=(doA_dat (hsv.below hS0.below) (cs0_dat hc ho.size):DatOk _ (doA op p tz mode ref cs ⟨0,ns,cs0 fs vs,fs.length⟩).Cs);rw[hst9]at hdt;have hdt':=Lh hdt;have hsh':=Lh hsh;obtain⟨A1,c1,rfl,hm1⟩:=h.nodes.shape;obtain⟨A2,c2,rfl,hm2⟩:=h.files.shape;obtain⟨As9,cp9,rfl,_⟩:=hsv.1.shape;have hS0':=Lh hS0;unfold insC insV strV at*;clear hS0 h hc hsv hb hst9 hdt hsh;go_enter Tryz.func29,Tryz.ntmps29;go_wp2_with(first |(go_at_call 54;refine hop.out.mono ?_;rintro e w1 ⟨W,bn,bf,bk,Fs,rfl,hfs,Lk,hkd,hll,hs1⟩;(have hd:=(hS0'.out.join hs1).snd);(have d0:=hd.bC 1 rfl 0);(have d1:=hd.bC 1 rfl 1);(have d2:=hd.bC 1 rfl 2);(have d3:=hd.bC 1 rfl 3);(have d4:=hd.bC 1 rfl 4);simp only[gA,gB,gC]at d0 d1 d2 d3 d4;(have hdo:=Lh (hst.out hfs hkd hll hs1));clear hs1 hop hd)|(go_at_call 55;refine hdo.out.mono ?_;rintro e w2 ⟨rfl,Fs2,Lk2,hcc,hg2,hs2⟩;(have htl:=tell_g hs2 hg2 hsh'.out (fun f hf=>by(have h9:=hdt'.out (cont f) (by rw[←hcc];exact List.mem_map_of_mem hf));exact h9));rw[canFs_Cs,hcc]at htl;replace htl:=Lh htl;clear hs2 hg2 hdo hcc)|(go_at_call 56;refine htl.out.mono ?_;rintro e w3 ⟨nv',fv',vs',rfl,hs3⟩;(have hs4:=hS0'.out.join hs3);(have hfa:=hs4.kept 0 rfl);obtain⟨A3,c3,rfl,_⟩:=hfa.nodes.shape;obtain⟨A4,c4,rfl,_⟩:=hfa.files.shape;(have r0:=hs4.bC 1 rfl 0);(have r1:=hs4.bC 1 rfl 1);(have z0:=hs4.bF 1 rfl 0);(have z1:=hs4.bF 1 rfl 1);simp only[gA,gB,gC]at r0 r1;replace hs4:=Lh hs4;clear hs3 hfa htl));have hS4:=(hs4.out.bS 1 rfl 0 (.slice A3 (canNs st.Ns).length c3)).bS 1 rfl 1 (.slice A4 (canCs st.Ns st.Cs).length c4);have y0:=hS4.bC 1 rfl 0;have y1:=hS4.bC 1 rfl 1;refine bodyPost_ret (tree_results2 rfl rfl y0 y1) rfl ?_;exact⟨_,_,vs',rfl,Sep.fst (X:=[_]) hS4⟩
end
set_option linter.unusedSimpArgs false
theorem mem_sortT {Ns:List TN} (hne:Ns.Pairwise fun a b=>a.path≠b.path) {n:TN}:n∈sortT Ns↔n∈Ns:=by rw[←isort_sortT (List.Perm.refl Ns) hne];exact(isort_perm Ns).mem_iff
theorem can_doc {Ms Ns:List TN} {F:List TF} {Cs:List (Nat×Int×Value)} (hp:Ms.Perm Ns) (hne:Ns.Pairwise fun a b=>a.path≠b.path) (hf:∀n∈Ns,¬n.file<0→fC Cs n.file=fsAt F n.file):dnT Ms=canNs Ns∧dfT Ms F=canCs Ns Cs:=by unfold dnT dfT canNs canCs;rw[isort_sortT hp hne];refine⟨rfl,?_⟩;apply List.map_congr_left;intro id hid;obtain⟨n,hn,h1,h2⟩:=idsP_of _ id hid;rw[←h1];exact(hf n ((mem_sortT hne).1 hn) h2).symm
theorem idsP_grow (a b:List TN):∃l,idsP (a++b)=idsP a++l:=by
 refine snoc_rec (P:=fun b=>∃l,idsP (a++b)=idsP a++l) ⟨[],by simp⟩ (fun xs x ⟨l,ih⟩=>?_) b;rw[←List.append_assoc,idsP_snoc,ih];split
 ·exact⟨l,rfl⟩
 split
 ·exact⟨l,rfl⟩
 exact⟨l++[x.file],by rw[List.append_assoc]⟩
theorem idsP_pre (xs:List TN) (i:Nat):∃l,idsP xs=idsP (xs.take i)++l:=by have h:=idsP_grow (xs.take i) (xs.drop i);rw[List.take_append_drop]at h;exact h
structure GoodN (Ns:List TN):Prop where
 ne:Ns.Pairwise fun a b=>a.path≠b.path
 valid:∀n∈Ns,validL n.path=true
 up:∀n∈Ns,parentL n.path=[]∨∃m∈Ns,m.path=parentL n.path∧m.file= -1
 file:∀n∈Ns,(n.file= -1∧modeOk n.mode=true)∨(0≤n.file∧n.mode=0)
theorem sortT_sorted {Ns:List TN} (hne:Ns.Pairwise fun a b=>a.path≠b.path):(sortT Ns).Pairwise LessT:=by rw[←isort_sortT (List.Perm.refl Ns) hne];exact isort_sorted hne
theorem sortT_len {Ns:List TN} (hne:Ns.Pairwise fun a b=>a.path≠b.path):(sortT Ns).length=Ns.length:=by rw[←isort_sortT (List.Perm.refl Ns) hne];exact isort_len Ns
theorem renum_path (ids:List Int) (n:TN):(renum ids n).path=n.path:=by unfold renum;split<;>rfl
theorem renum_mode (ids:List Int) (n:TN):(renum ids n).mode=n.mode:=by unfold renum;split<;>rfl
theorem can_run {Ns:List TN} (h:GoodN Ns):∀i,i≤(sortT Ns).length→runK (canNs Ns) i=some (idsP ((sortT Ns).take i)).length:=by
 obtain⟨xs,hxs⟩:∃xs,sortT Ns=xs:=⟨_,rfl⟩;have hs:=sortT_sorted h.ne;have hmem:∀n,n∈xs↔n∈Ns:=fun n=>by rw[←hxs];exact mem_sortT h.ne
 unfold canNs;rw[hxs]at hs ⊢;have hne:xs.Pairwise fun a b=>a.path≠b.path:=hs.imp fun {a b} hl e=>by unfold LessT at hl;rw[e,bl_irrefl]at hl;cases hl
 intro i
 induction i with
 |zero=>intro _;rfl
 |succ i ih=>
  intro hi;have hn:xs[i]? =some xs[i]:=gE (by omega);obtain⟨n,hnn⟩:∃n,xs[i]=n:=⟨_,rfl⟩;rw[hnn]at hn;(have hy:(xs.map (renum (idsP xs)))[i]? =some (renum (idsP xs) n):=by rw[List.getElem?_map,hn];rfl);have hnN:=(hmem n).1 (gG hn);have hv:=h.valid n hnN;(have htk:xs.take (i+1)=xs.take i++[n]:=by rw[List.take_add_one,hn];rfl);obtain⟨l,hl⟩:=idsP_pre xs i;obtain⟨l2,hl2⟩:=idsP_pre xs (i+1);have hsn:=idsP_snoc (xs.take i) n;rw[←htk]at hsn;rw[runK_succ (ih (by omega)) hy,if_pos]
  ·congr 1;unfold nextK;rw[hsn];rcases h.file n hnN with⟨hf,_⟩|⟨hf,_⟩
   ·(have e1:(renum (idsP xs) n).file= -1:=by unfold renum;rw[if_pos (by omega)];exact hf);rw[e1,if_neg (by omega),if_pos (by omega)]
   (have e1:(renum (idsP xs) n).file=((idsP xs).idxOf n.file:Nat):=by unfold renum;rw[if_neg (by omega)]);rw[e1,if_neg (show ¬n.file<0 by omega)];by_cases hm:n.file∈idsP (xs.take i)
   ·(have e2:(idsP xs).idxOf n.file<(idsP (xs.take i)).length:=by rw[hl,List.idxOf_append,if_pos hm];exact List.idxOf_lt_length_iff.2 hm);rw[if_neg (by omega),if_pos hm]
   (have e2:(idsP xs).idxOf n.file=(idsP (xs.take i)).length:=by rw[hl2,hsn,if_neg (show ¬n.file<0 by omega),if_neg hm,List.append_assoc,List.idxOf_append,if_neg hm];simp);rw[e2,if_pos rfl,if_neg hm,List.length_append];rfl
  unfold nodeOk;simp only[Bool.and_eq_true,Bool.not_eq_true',decide_eq_true_eq];rw[renum_path,renum_mode];refine⟨⟨⟨⟨⟨hv,?_⟩,?_⟩,?_⟩,?_⟩,?_⟩
  ·rcases Nat.eq_zero_or_pos i with h0|h0
   ·subst h0;unfold leB;(have:Op.bytesLess n.path (lastQ (xs.map (renum (idsP xs))) 0)=false:=by(show Op.bytesLess n.path []=false);cases n.path<;>simp[Op.bytesLess]);rw[this,Bool.false_or,beq_eq_false_iff_ne];exact valid_ne hv
   obtain⟨j,rfl⟩:∃j,i=j+1:=⟨i-1,by omega⟩;(have hj:(xs.map (renum (idsP xs)))[j]? =some (renum (idsP xs) xs[j]):=by rw[List.getElem?_map,gE (by omega)];rfl);rw[lastQ_succ hj,renum_path];have h8:=List.pairwise_iff_getElem.1 hs j (j+1) (by omega) (by omega) (by omega);rw[hnn]at h8;exact leB_of h8
  ·rcases h.up n hnN with h0|⟨m,hm,hmp,hmf⟩
   ·rw[h0,kindP_none]
    ·rfl
    intro m hm;rw[←List.map_take]at hm;obtain⟨m0,hm0,rfl⟩:=List.mem_map.1 hm;rw[renum_path];exact valid_ne (h.valid m0 ((hmem m0).1 (List.mem_of_mem_take hm0)))
   have hmx:=(hmem m).2 hm;obtain⟨j,hj⟩:=List.mem_iff_getElem?.1 hmx;obtain⟨hjl,hje⟩:=gF.1 hj;have hless:=parent_less hv;rw[←hmp]at hless;have hji:j<i:=by
    rcases Nat.lt_trichotomy j i with h9|h9|h9
    ·exact h9
    ·subst h9;rw[hnn]at hje;subst hje;rw[bl_irrefl]at hless;cases hless
    have h8:=List.pairwise_iff_getElem.1 hs i j (by omega) hjl h9;rw[hje,hnn]at h8;have:=bl_trans h8 hless;rw[bl_irrefl]at this;cases this
   (have e1:renum (idsP xs) m=m:=by unfold renum;rw[if_pos (by omega)]);(have hmt:m∈(xs.map (renum (idsP xs))).take i:=by rw[List.mem_iff_getElem?];refine⟨j,?_⟩;rw[List.getElem?_take,if_pos hji,List.getElem?_map,hj];(show some (renum (idsP xs) m)=some m);rw[e1]);(have hney:((xs.map (renum (idsP xs))).take i).Pairwise fun a b=>a.path≠b.path:=by refine List.Pairwise.sublist (List.take_sublist _ _) ?_;rw[List.pairwise_map];exact hne.imp fun {a b} h=>by rw[renum_path,renum_path];exact h);rw[←hmp,kindP_mem hney hmt,if_pos hmf]
  ·unfold renum;split
   ·rcases h.file n hnN with⟨hf,_⟩|⟨hf,_⟩<;>omega
   (show(-1:Int)≤((List.idxOf n.file (idsP xs):Nat):Int));omega
  ·unfold renum;split
   ·omega
   rename_i hf;(show((List.idxOf n.file (idsP xs):Nat):Int)≤_);by_cases hm:n.file∈idsP (xs.take i)
   ·(have e2:(idsP xs).idxOf n.file<(idsP (xs.take i)).length:=by rw[hl,List.idxOf_append,if_pos hm];exact List.idxOf_lt_length_iff.2 hm);omega
   (have e2:(idsP xs).idxOf n.file=(idsP (xs.take i)).length:=by rw[hl2,hsn,if_neg hf,if_neg hm,List.append_assoc,List.idxOf_append,if_neg hm];simp);omega
  rcases h.file n hnN with⟨hf,hmo⟩|⟨hf,hmo⟩
  ·(have e1:(renum (idsP xs) n).file= -1:=by unfold renum;rw[if_pos (by omega)];exact hf);rw[if_pos e1];exact hmo
  (have e1:¬(renum (idsP xs) n).file= -1:=by unfold renum;rw[if_neg (by omega)];(show ¬((List.idxOf n.file (idsP xs):Nat):Int)= -1);omega);rw[if_neg e1,decide_eq_true_eq];exact hmo
theorem can_loose {Ns:List TN} {Cs:List (Nat×Int×Value)} (h:GoodN Ns) (h9:Ns.length≤256) (hc:∀n∈Ns,¬n.file<0→(fC Cs n.file).size≤8192∧modeOk (fC Cs n.file).mode=true):LooseOk (canNs Ns) (canCs Ns Cs):=by
 have hl:=sortT_len h.ne;have hlen:(canNs Ns).length=Ns.length:=by unfold canNs;rw[List.length_map,hl]
 have hc2:∀f∈canCs Ns Cs,f.size≤8192∧modeOk f.mode=true:=fun f hf=>by unfold canCs at hf;obtain⟨id,hid,rfl⟩:=List.mem_map.1 hf;obtain⟨n,hn,h1,h2⟩:=idsP_of _ id hid;rw[←h1];exact hc n ((mem_sortT h.ne).1 hn) h2
 refine⟨by omega,?_,fun f hf=>(hc2 f hf).1,fun f hf=>(hc2 f hf).2,?_⟩
 ·unfold canCs;rw[List.length_map];have:=idsP_len (sortT Ns);omega
 rw[hlen,←hl,can_run h _ (Nat.le_refl _),List.take_length];unfold canCs;rw[List.length_map]
theorem canD_of {Ms Ns:List TN} {F:List TF} {Cs:List (Nat×Int×Value)} (hp:Ms.Perm Ns) (h:GoodN Ns) (hf:∀n∈Ns,¬n.file<0→fC Cs n.file=fsAt F n.file) (hc:∀n∈Ns,¬n.file<0→(fC Cs n.file).size≤8192∧modeOk (fC Cs n.file).mode=true):canD Ms F=if boundP Ms F=true then 31 else 0:=by
 unfold canD;obtain⟨e1,e2⟩:=can_doc hp h.ne hf;rw[e1,e2];cases hb:boundP Ms F with
 |true=>rfl
 |false=>
  simp only[Bool.false_eq_true,if_false];unfold boundP at hb;rw[Bool.or_eq_false_iff,Bool.or_eq_false_iff,decide_eq_false_iff_not]at hb;have hl:=can_loose h (by have:=hp.length_eq;omega) hc;have h2:=(form_loose (canNs Ns) (canCs Ns Cs)).trans (ok_loose hl);by_cases h3:boundP (canNs Ns) (canCs Ns Cs)=true
  ·rw[if_pos h3]at h2;cases h2
  rw[if_neg h3]at h2;by_cases h4:formD (canNs Ns) (canCs Ns Cs)=true
  ·rw[if_pos h4]
  rw[if_neg h4]at h2;cases h2
end Go.Proofs.YtimkjnbihlgbiaaGreat
namespace Go.Proofs.YtimkjnbihlgbiaaGreat
open Go.RowKit
set_option linter.unusedVariables false
set_option linter.unusedSimpArgs false
theorem info_cplx :(Tryz.prog.info? 68).map (fun i=>(i.zero,i.size,i.bytes))=some (some (.complex .f64 0 0),1,16):=by kernel_rfl
end Go.Proofs.YtimkjnbihlgbiaaGreat
namespace Go.Proofs.YtimkjnbihlgbiaaGreat
open Go.RowKit
set_option linter.unusedVariables false
def insL (op:Int) (p tz:List UInt8) (mode ref:Int):List Value:=[.int .i64 op,strV p,strV tz,.int .i64 mode,.int .i64 ref]
set_option linter.unusedSimpArgs false
theorem run_csub (t:TypeId) (a b c d:Int) (ha:SmallI a) (hb:SmallI b) (hc:SmallI c) (hd:SmallI d) (h1:SmallI (a-c)) (h2:SmallI (b-d)) (w:World):
  (binOp .sub t (cplx a b) (cplx c d)).run Tryz.prog w= .ok (cplx (a-c) (b-d)) w:=by
 refine run_complex_sum (P:=Tryz.prog) (w:=w) .sub (.inr rfl) t .f64 (fI a) (fI b) (fI c) (fI d) (fI (a-c)) (fI (b-d)) ?_;unfold cSumBits;rw[sub_fI ha hc h1,sub_fI hb hd h2];rfl
structure GrowIn (w:World) (bs ba bk:Nat) (nv fv av sv:Value):Prop where
 s0:w.cell? ⟨bs,0,none⟩=some nv
 s1:w.cell? ⟨bs,1,none⟩=some fv
 a0:w.cell? ⟨ba,0,none⟩=some av
 k0:w.cell? ⟨bk,0,none⟩=some sv
theorem GrowIn.below {w w':World} {bs ba bk:Nat} {nv fv av sv:Value} (h:GrowIn w bs ba bk nv fv av sv) (hb:Below w.heap.size w w'):GrowIn w' bs ba bk nv fv av sv:=
 ⟨(hb.cell (World.block_lt_of_cell? w _ h.s0)).trans h.s0,(hb.cell (World.block_lt_of_cell? w _ h.s1)).trans h.s1,(hb.cell (World.block_lt_of_cell? w _ h.a0)).trans h.a0,(hb.cell (World.block_lt_of_cell? w _ h.k0)).trans h.k0⟩
theorem rd_lit (w:World) (cs:Array Value) (e:TypeId) (sz:Nat) (h:cs.size=sz):Rd (w.alloc (.cells cs e)) sz (.slice (some ⟨w.heap.size,0,none⟩) 1 1) 1 cs.toList:=
 ⟨by simp[h],_,1,rfl,Nat.le_refl _,by decide,fun _=>⟨_,rfl,by simp,fun j u hu=>cells_new w cs e _ rfl j u hu⟩⟩
theorem cless_any (a b c d:Int) (ha:SmallI a) (hb:SmallI b) (hc:SmallI c) (hd:SmallI d) (w:World):
  Calls Tryz.prog 27 #[cplx a b,cplx c d] w fun e w'=>e= .returned (.bool (decide (a<c)||(decide (a=c)&&decide (b<d))))∧w=w':=by
 have hac:FloatKind.f64.format.order (fI a) (fI c)=some (compare a c):=order_fI ha hc;have hbd:FloatKind.f64.format.order (fI b) (fI d)=some (compare b d):=order_fI hb hd;unfold cplx;rcases Int.lt_trichotomy a c with h|h|h
 ·rw[Int.compare_eq_lt.2 h]at hac;rw[decide_eq_true h,Bool.true_or];clear hbd h;go_enter Tryz.func27,Tryz.ntmps27;go_wp2_with fail;go_ret;exact⟨rfl,rfl⟩
 ·rw[Int.compare_eq_eq.2 h]at hac;(have e1:decide (a<c)=false:=by simp;omega);rw[e1,decide_eq_true h,Bool.false_or,Bool.true_and];have e2:(FloatKind.f64.format.order (fI b) (fI d)==some .lt)=decide (b<d):=by
   rw[hbd];rcases Int.lt_trichotomy b d with h2|h2|h2
   ·rw[Int.compare_eq_lt.2 h2,decide_eq_true h2];rfl
   ·rw[Int.compare_eq_eq.2 h2];(have:decide (b<d)=false:=by simp;omega);rw[this];rfl
   rw[Int.compare_eq_gt.2 h2];(have:decide (b<d)=false:=by simp;omega);rw[this];rfl
  clear hbd h e1;rw[←e2];clear e2;go_enter Tryz.func27,Tryz.ntmps27;go_wp2_with fail;go_ret;exact⟨rfl,rfl⟩
 rw[Int.compare_eq_gt.2 h]at hac;have e1:decide (a<c)=false:=by simp;omega
 have e2:decide (a=c)=false:=by simp;omega
 rw[e1,e2,Bool.false_and,Bool.false_or];clear hbd h e1 e2;go_enter Tryz.func27,Tryz.ntmps27;go_wp2_with fail;go_ret;exact⟨rfl,rfl⟩
end Go.Proofs.YtimkjnbihlgbiaaGreat
