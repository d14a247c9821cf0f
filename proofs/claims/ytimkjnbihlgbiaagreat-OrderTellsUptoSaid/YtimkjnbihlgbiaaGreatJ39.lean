/- ModelCG, WgtP, DocL9, Shelf16, Queue, QueuePlain, laid together. -/
import Derived.Test.YtimkjnbihlgbiaaGreatJ38
import Derived.Shelf.Slices.Delete
namespace Go.Proofs.YtimkjnbihlgbiaaGreat
open Go.RowKit
set_option linter.unusedVariables false
set_option linter.unusedSimpArgs false
def wC :List (Nat×Int×Value)→Int
 |[]=>0
 |c::Cs=>fileB (dvLen c.2.2)+wC Cs
theorem wC_cont (Fs:List FEnt):wC (Fs.map cont)=wB Fs:=by
 induction Fs with
 |nil=>rfl
 |cons f Fs ih=>rw[List.map_cons];unfold wC wB;rw[ih];rfl
def wgtB (Ns:List TN) (Cs:List (Nat×Int×Value)):Int:=dirW (cntK Ns [])+nB (cntK Ns) Ns+wC Cs
def wgtI (Ns:List TN) (Cs:List (Nat×Int×Value)):Int:=1+nI Ns+Cs.length
theorem ids_short {l:List Nat} (h:l.Nodup) {n:Nat} (hb:∀x∈l,x<n):l.length≤n:=by
 have h1:=h.length_le_of_subset (l₂:=List.range n) fun x hx=>List.mem_range.2 (hb x hx)
 rwa [List.length_range]at h1
theorem GGood.short {Ns:List TN} {Fs:List FEnt} {Lk:List (Lit×Value)} {next:Nat} (h:GGood Ns Fs Lk next):Fs.length≤300:=by have h1:=ids_short (l:=Fs.map FEnt.id) (List.pairwise_map.2 h.ids) (n:=next) (fun x hx=>by obtain⟨f,hf,rfl⟩:=List.mem_map.1 hx;exact h.below f hf);rw[List.length_map]at h1;have:=h.next9;omega
def WOk (Ns:List TN) (Cs:List (Nat×Int×Value)):Prop:=∃Fs Lk next,Fs.map cont=Cs∧GGood Ns Fs Lk next
theorem WOk.small {Ns:List TN} {Cs:List (Nat×Int×Value)} (h:WOk Ns Cs):(1≤wgtB Ns Cs∧wgtB Ns Cs≤400000)∧1≤wgtI Ns Cs∧wgtI Ns Cs≤601:=by obtain⟨Fs,Lk,next,rfl,hg⟩:=h;have h1:=hg.few;have h2:=hg.short;have h3:=nB_le (K:=cntK Ns) (fun p=>by have:=cntK_le Ns p;omega) Ns;have h4:=nI_le Ns;have h5:=wB_le hg.dv;have h6:=dirW_le (cntK Ns []);have h7:=cntK_le Ns [];unfold wgtB wgtI;rw[wC_cont,List.length_map];omega
section
variable {w0 w:World} {W bn bf bk next:Nat} {Ns:List TN} {Fs:List FEnt} {Lk:List (Lit×Value)} {R:List Asn}
theorem gAs_push2 {X Y:Asn} (h:Sep w0 w (X::Y::gAs W bn bf bk next Ns Fs Lk R)):Sep w0 w (gAs W bn bf bk next Ns Fs Lk (R++[Y]++[X])):=
 gAs_push (R:=R++[Y]) (by rw[gAs_app];exact h.perm ((List.perm_append_singleton _ _).symm.cons _))
theorem gAs_pop2 {X Y:Asn} (h:Sep w0 w (gAs W bn bf bk next Ns Fs Lk (R++[Y]++[X]))):Sep w0 w (X::Y::gAs W bn bf bk next Ns Fs Lk R):=by have h1:=gAs_pop h;rw[gAs_app]at h1;exact h1.perm ((List.perm_append_singleton _ _).cons _)
set_option maxRecDepth 100000 in
theorem curve1_g {b:Nat} {lv:Value} {cs:List Value} (hS:Sep w0 w (.sl 68 1 lv cs.length cs:: .box b 69 #[lv]::gAs W bn bf bk next Ns Fs Lk R)) (hg:GGood Ns Fs Lk next) (hc:cs.length≤100) {B I:Int} (hB:B=wgtB Ns (Fs.map cont)) (hI:I=wgtI Ns (Fs.map cont)):
  Calls Tryz.prog 51 #[.pointer (some ⟨W,0,none⟩),.pointer (some ⟨b,0,none⟩)] w fun e w'=>e= .returned (.tuple #[])∧∃lv',Sep w0 w' (.sl 68 1 lv' (cs.length+1) (cs++[cplx B I]):: .box b 69 #[lv']::gAs W bn bf bk next Ns Fs Lk R):=by
 obtain⟨i0,hinf,hz0,hz1,hz2⟩:=info_parts info_cplx;obtain⟨A,c,rfl,_⟩:=(hS.rd 0 rfl).shape;have hE:w.drew.cell? ⟨b,0,none⟩=some (.slice A cs.length c):=by rw[hS.drew.bC 1 rfl 0];rfl
 have hwt0:=weight_g (gAs_push2 hS.drew) hg.dv (by have:=hg.short;omega) (by have:=hg.few;omega) (K:=cntK Ns) hg.kids (fun p=>by have:=cntK_le Ns p;have:=hg.few;omega);have eB:dirW (cntK Ns [])+nB (cntK Ns) Ns+wB Fs=B:=by rw[hB,←wC_cont];rfl
 have eI:1+nI Ns+(Fs.length:Int)=I:=by rw[hI];unfold wgtI;rw[List.length_map]
 rw[eB,eI]at hwt0;have hwt:=Lh hwt0;unfold cplx at hwt ⊢;clear hS hwt0 eB eI hB hI;go_enter Tryz.func51,Tryz.ntmps51;go_wp2_with fail;refine wp_region_E (S:=fun w'=>w'.cell? ⟨b,0,none⟩=some (.slice A cs.length c)) 5 (by kernel_rfl) ?_;simp only[List.size_toArray,List.length_cons,List.length_nil,Nat.reduceAdd];refine wpE_tk (i:=0) (v:=?_) hE rfl ?_ ?_;rotate_left
 ·rintro w e1;go_simp;try with_reducible rfl
 simp only[Act.put,gD];refine wpE_tk (i:=1) (v:=?_) hE rfl ?_ ?_;rotate_left
 ·rintro w e1;go_simp;try with_reducible rfl
 simp only[Act.put,gD];refine wpE_one (i:=2) (by kernel_rfl) rfl (fun K hK=>?_);go_simp;go_at_call 52;refine hwt.out.mono ?_;rintro e w2 ⟨rfl,hS2⟩;have hS3:=gAs_pop2 hS2;have k3:w2.cell? ⟨b,0,none⟩=some (.slice A cs.length c):=by rw[hS3.bC 1 rfl 0];rfl
 dsimp only;refine hK _ _ (fun _=>k3) ?_;clear hK K;try simp only[Act.put,gD]
 have hS4:=hS3.alloc (.cells #[.complex .f64 (fI B) (fI I)] 68);have k4:(w2.alloc (.cells #[.complex .f64 (fI B) (fI I)] 68)).cell? ⟨b,0,none⟩=some (.slice A cs.length c):=by rw[hS4.bC 1 rfl 0];rfl
 refine wpE_one (i:=3) (by kernel_rfl) rfl (fun K hK=>?_);go_simp;refine hK _ _ (fun _=>k4) ?_;clear hK K;try simp only[Act.put,gD]
 refine wpE_one (i:=4) (by kernel_rfl) rfl (fun K hK=>?_);refine step_append_sep 0 (by rfl) _ _ 69 (by rfl) 68 i0 _ 1 16 Tryz.underlying69 hinf hz0 hz1 hz2 rfl (by decide) hS4 (.slice A cs.length c) cs.length cs (by rfl) (by rfl) ⟨w2.heap.size,0,none⟩ 1 1 [.complex .f64 (fI B) (fI I)] (by rfl) (by rfl) (cells_new _ _ _ _ (by simp)) (by simp[Value.oneCell']) (by decide) (by unfold maxLen;omega) (by omega) ?_;intro g5 c5 w5 hS5 hz5;have k5:w5.cell? ⟨b,0,none⟩=some (.slice A cs.length c):=by rw[hS5.bC 1 rfl 0];rfl
 have z5:=hS5.bF 1 rfl 0;refine hK _ _ (fun _=>k5) ?_;clear hK K;try simp only[Act.put,gD]
 refine wpE_one (i:=5) (by kernel_rfl) rfl (fun K hK=>?_);go_simp;refine hK _ _ (fun h=>absurd rfl h) ?_;clear hK K;try simp only[Act.put,gD]
 refine wpE_done (by kernel_rfl) ?_ _;go_wp2_with fail
 go_end0
 exact⟨rfl,_,hS5.bS 1 rfl 0 (.slice (some ⟨g5,0,none⟩) (cs.length+1) c5)⟩
end
def curveL (ns:List TN) (Cs:List (Nat×Int×Value)) (st:WSt):List Value:=if st.e=0 then [cplx (wgtB ns Cs) (wgtI ns Cs),cplx (wgtB st.Ns st.Cs) (wgtI st.Ns st.Cs)]else [cplx (wgtB ns Cs) (wgtI ns Cs)]
section
variable {w0 w:World} {nv fv:Value} {ns:List TN} {fs:List TF} {vs:List Value}
set_option maxRecDepth 100000 in
set_option maxHeartbeats 2000000 in
theorem all_g (h:TreeAt w0 nv fv ns fs vs) (hm:TreeSm ns fs) (ho:LooseOk ns fs) {sv lv:Value} {cs:List Value} (hsv:StockAt w0 sv cs) {op mode ref:Int} (o1: -9223372036854775808≤op) (o2:op≤9223372036854775807) {p tz:List UInt8} (hp9:p.length≤1048576) (ht9:tz.length≤1048576) {st:WSt} (hst9:doA op p tz mode ref cs ⟨0,ns,cs0 fs vs,fs.length⟩=st) (hlv:Rd w0 5 lv 1 (insL op p tz mode ref)) {b:Nat} (hS:Sep w0 w [.sl 68 1 (.slice none 0 0) 0 [],.box b 69 #[.slice none 0 0]]):
  Calls Tryz.prog 50 #[.agg #[nv,fv],lv,sv,.func (.func 51) #[] #[.pointer (some ⟨b,0,none⟩)]] w fun e w'=>∃W k lv',e= .returned (.tuple #[.pointer (some ⟨W,0,none⟩),.int .i64 k,.int .i64 st.e])∧WOk ns (cs0 fs vs)∧WOk st.Ns st.Cs∧Sep w0 w' [.sl 68 1 lv' (curveL ns (cs0 fs vs) st).length (curveL ns (cs0 fs vs) st),.box b 69 #[lv']]:=by
 have hS0:=hS.bN 25 #[nv,fv];have hc:=h.below hS0.below;have hop:=Lh (open_ok hc hm ho);have hgo:Hid (∀ {Fs:List FEnt} {Lk:List (Lit×Value)},FsG fs vs ns fs.length Fs→KidsOk Lk ns→Fs.map cont=cs0 fs vs∧GGood ns Fs Lk fs.length):=fun {Fs Lk} hf hk=>⟨open_cont hc.len hf,open_good hc ho hf hk⟩
 have hst:Hid (∀ {w1:World} {W bn bf bk:Nat} {Fs:List FEnt} {Lk:List (Lit×Value)} {R:List Asn},FsG fs vs ns fs.length Fs→KidsOk Lk ns→Lk.length≤ns.length→Sep w0 w1 (gAs W bn bf bk fs.length ns Fs Lk R)→Calls Tryz.prog 55 #[.pointer (some ⟨W,0,none⟩),insV op p tz mode ref,sv] w1 fun e w'=>e= .returned (.int .i64 st.e)∧GW w0 w' W bn bf bk R st):=fun {w1 W bn bf bk Fs Lk R} hf hk hl hs=>by
  have h1:=do_g hs (open_good hc ho hf hk) (by have:=ho.few;omega) ho.few ho.few2 (by rw[hf.len];exact ho.few2) o1 o2 hp9 ht9 mode ref hsv
  rwa [open_cont h.len hf,hst9]at h1
 obtain⟨A1,c1,rfl,hm1⟩:=h.nodes.shape;obtain⟨A2,c2,rfl,hm2⟩:=h.files.shape;obtain⟨As9,cp9,rfl,_⟩:=hsv.1.shape;obtain⟨gl,ol,cl,rfl,_,_,_,hcell⟩:=hlv.place (by decide) (by decide);have hcell':=Lh hcell;have hS0':=Lh hS0;clear hS0 hlv hcell hS h hc hsv hst9 hm1 hm2;obtain⟨L,hL⟩:∃L,curveL ns (cs0 fs vs) st=L:=⟨_,rfl⟩;rw[hL];have hL':=Lh hL;clear hL;go_enter Tryz.func50,Tryz.ntmps50;go_wp2_with(first |(go_at_call 54;refine hop.out.mono ?_;rintro e w1 ⟨W,bn,bf,bk,Fs,rfl,hfs,Lk,hkd,hll,hs1⟩;(have hs2:Sep w0 w1 (.sl 68 1 (.slice none 0 0) 0 []:: .box b 69 #[.slice none 0 0]::gAs W bn bf bk fs.length ns Fs Lk []):=((hS0'.out.join hs1).perm List.perm_append_comm).drop 1);(have hg:=hgo.out hfs hkd);(have hw1:=Lh (⟨Fs,Lk,_,hg⟩:WOk ns (cs0 fs vs)));(have hcu:=Lh (curve1_g hs2 hg.2 (by simp) rfl rfl));rw[hg.1]at hcu;replace hfs:=Lh hfs;replace hkd:=Lh hkd;replace hll:=Lh hll;clear hop hs1 hs2 hg)|(go_at_call 51;refine hcu.out.mono ?_;rintro e w2 ⟨rfl,lv1,hs3⟩;clear hcu;dsimp only;replace hs3:=Lh hs3));have x0:=hcell'.out w2 hs3.out.below 0 (by decide);have x1:=hcell'.out w2 hs3.out.below 1 (by decide);have x2:=hcell'.out w2 hs3.out.below 2 (by decide);have x3:=hcell'.out w2 hs3.out.below 3 (by decide);have x4:=hcell'.out w2 hs3.out.below 4 (by decide);simp only[insL,strV,Nat.add_zero,gB,gC]at x0 x1 x2 x3 x4;have hdo:=Lh (hst.out hfs.out hkd.out hll.out (gAs_push2 (hs3.out.alloc (.cells (insC op p tz mode ref) 49))));unfold insV insC strV at hdo;by_cases hz:st.e=0
 ·(have hL2:Hid (L=[cplx (wgtB ns (cs0 fs vs)) (wgtI ns (cs0 fs vs)),cplx (wgtB st.Ns st.Cs) (wgtI st.Ns st.Cs)]):=by rw[←hL'.out];exact if_pos hz);rw[hz]at hdo;have hz':=Lh hz;clear hz hL';refine wp_loop_rounds 2 ?_;rw[rounds_succ];go_wp2_with(first |(go_at_call 55;refine hdo.out.mono ?_;rintro e w3 ⟨rfl,Fs2,Lk2,hcc,hg2,hs4⟩;(have hw2:=Lh (⟨Fs2,Lk2,_,hcc,hg2⟩:WOk st.Ns st.Cs));(have hcu:=Lh (curve1_g (gAs_pop2 hs4) hg2 (by simp) rfl rfl));rw[hcc]at hcu;clear hs4 hg2 hdo hcc;dsimp only)|(go_at_call 51;refine hcu.out.mono ?_;rintro e w4 ⟨rfl,lv2,hs5⟩;clear hcu;dsimp only;replace hs5:=Lh hs5));rw[rounds_succ];go_wp2_with fail
  go_ret3
  obtain rfl:=hL2.out;exact⟨W,1,lv2,by rw[hz'.out];rfl,hw1.out,hw2.out,Sep.fst (X:=[_,_]) hs5.out⟩
 have hL2:Hid (L=[cplx (wgtB ns (cs0 fs vs)) (wgtI ns (cs0 fs vs))]):=by rw[←hL'.out];exact if_neg hz
 have hq:(st.e !=0)=true:=by simpa using hz
 clear hz hL';obtain⟨er,her⟩:∃er,st.e=er:=⟨_,rfl⟩;rw[her]at hdo hq;have her':=Lh her;clear her;refine wp_loop_rounds 1 ?_;rw[rounds_succ];go_wp2_with(go_at_call 55;refine hdo.out.mono ?_;rintro e w3 ⟨rfl,Fs2,Lk2,hcc,hg2,hs4⟩;(have hw2:=Lh (⟨Fs2,Lk2,_,hcc,hg2⟩:WOk st.Ns st.Cs));(have hs5:=Lh (gAs_pop2 hs4));clear hs4 hg2 hdo hcc;dsimp only)
 go_ret3
 obtain rfl:=hL2.out;exact⟨W,0,lv1,by rw[her'.out];rfl,hw1.out,hw2.out,Sep.fst (X:=[_,_]) hs5.out⟩
set_option maxRecDepth 100000 in
theorem curve_g (h:TreeAt w nv fv ns fs vs) (hm:TreeSm ns fs) (ho:LooseOk ns fs) {sv lv:Value} {cs:List Value} (hsv:StockAt w sv cs) {op mode ref:Int} (o1: -9223372036854775808≤op) (o2:op≤9223372036854775807) {p tz:List UInt8} (hp9:p.length≤1048576) (ht9:tz.length≤1048576) {st:WSt} (hst9:doA op p tz mode ref cs ⟨0,ns,cs0 fs vs,fs.length⟩=st) (hlv:Rd w 5 lv 1 (insL op p tz mode ref)):
  Calls Tryz.prog 26 #[.agg #[nv,fv],lv,sv] w fun e w'=>∃lv' k,e= .returned (.tuple #[lv',.int .i64 k,.int .i64 st.e])∧WOk ns (cs0 fs vs)∧WOk st.Ns st.Cs∧Sep w w' [.sl 68 1 lv' (curveL ns (cs0 fs vs) st).length (curveL ns (cs0 fs vs) st)]:=by
 have hS0:=(((Sep.nil w).bN 25 #[nv,fv]).bN 69 #[.slice none 0 0]).sl_nil 68 1;simp only[World.size_alloc]at hS0;have hal:=Lh (all_g h hm ho hsv o1 o2 hp9 ht9 hst9 hlv (Sep.fst (X:=[_,_]) hS0));obtain⟨A1,c1,rfl,hm1⟩:=h.nodes.shape;obtain⟨A2,c2,rfl,hm2⟩:=h.files.shape;obtain⟨As9,cp9,rfl,_⟩:=hsv.1.shape;clear hS0 h hsv hlv hst9;generalize curveL ns (cs0 fs vs) st=L at hal ⊢;go_enter Tryz.func26,Tryz.ntmps26;go_wp2_with(go_at_call 50;refine hal.out.mono ?_;rintro e w1 ⟨W,k,lv1,rfl,hw1,hw2,hs1⟩;(replace hw1:=Lh hw1);(replace hw2:=Lh hw2);(have k0:=hs1.bC 1 rfl 0);simp only[gA,gB]at k0;replace hs1:=Lh hs1;clear hal)
 go_ret3
 exact⟨lv1,k,rfl,hw1.out,hw2.out,Sep.fst (X:=[_]) hs1.out⟩
end
theorem nB_dnB (K:List UInt8→Nat):∀ {xs:List TN},(∀n∈xs, -1≤n.file)→nB K xs=dnB K xs∧nI xs=dnI xs
 |[],_=>⟨rfl,rfl⟩
 |n::xs,h=>by
  (obtain⟨h1,h2⟩:=nB_dnB K (xs:=xs) fun m hm=>h m (List.mem_cons_of_mem _ hm));have h3:=h n (by simp);have e1:nB K (n::xs)=(if n.file<0 then dirW (K n.path)else 0)+nB K xs:=rfl;have e2:nI (n::xs)=(if n.file<0 then 1 else 0)+nI xs:=rfl;(have e3:dnB K (n::xs)=(if n.file= -1 then dirB (K n.path)else 0)+dnB K xs:=by unfold dnB;rw[List.map_cons,List.sum_cons]);(have e4:dnI (n::xs)=(if n.file= -1 then(1:Int)else 0)+dnI xs:=by unfold dnI;rw[List.map_cons,List.sum_cons]);rw[e1,e2,e3,e4,h1,h2];by_cases hf:n.file= -1
  ·rw[if_pos hf,if_pos hf,if_pos (by omega),if_pos (by omega),dirB_dirW];exact⟨rfl,rfl⟩
  rw[if_neg hf,if_neg hf,if_neg (by omega),if_neg (by omega)];exact⟨rfl,rfl⟩
theorem wC_sum (Cs:List (Nat×Int×Value)):wC Cs=(Cs.map fun c=>fileB (dvLen c.2.2)).sum:=by
 induction Cs with
 |nil=>rfl
 |cons c Cs ih=>(show fileB (dvLen c.2.2)+wC Cs=_);rw[List.map_cons,List.sum_cons,ih]
theorem cs0_sizes {fs:List TF} {vs:List Value} (hl:vs.length=fs.length) (hs:∀(k:Nat) (u:Value) (f:TF),vs[k]? =some u→fs[k]? =some f→dvLen u=f.size):(cs0 fs vs).map (fun c=>fileB (dvLen c.2.2))=fs.map fun f=>fileB f.size:=by
 apply List.ext_getElem?;intro k;unfold cs0;rw[List.map_map,List.getElem?_map,List.getElem?_zipIdx,List.getElem?_map];cases hk:fs[k]? with
 |none=>have:fs.length≤k:=List.getElem?_eq_none_iff.1 hk;rw[List.getElem?_eq_none (by rw[List.length_zip];omega)];rfl
 |some f=>have hlt:=(gF.1 hk).1;have hv:vs[k]? =some vs[k]:=gE (by omega);(have hz:(fs.zip vs)[k]? =some (f,vs[k]):=by rw[List.getElem?_zip_eq_some];exact⟨hk,hv⟩);rw[hz];simp only[Option.map_some,Function.comp_apply];rw[hs k _ f hv hk]
theorem cs0_len {fs:List TF} {vs:List Value} (hl:vs.length=fs.length):(cs0 fs vs).length=fs.length:=by unfold cs0;rw[List.length_map,List.length_zipIdx,List.length_zip,hl,Nat.min_self]
theorem wgt_doc {ns:List TN} {fs:List TF} {vs:List Value} (hf:∀n∈ns, -1≤n.file) (hl:vs.length=fs.length) (hs:∀(k:Nat) (u:Value) (f:TF),vs[k]? =some u→fs[k]? =some f→dvLen u=f.size):wgtB ns (cs0 fs vs)=wdB ns fs∧wgtI ns (cs0 fs vs)=wdI ns fs:=by obtain⟨h1,h2⟩:=nB_dnB (cntK ns) hf;unfold wgtB wgtI wdB wdI dfB;rw[h1,h2,dirB_dirW,wC_sum,cs0_sizes hl hs,cs0_len hl];exact⟨rfl,rfl⟩
set_option maxRecDepth 100000 in
set_option maxHeartbeats 8000000 in
theorem refdo_bad {w:World} {nv fv:Value} {ns:List TN} {fs:List TF} {vs:List Value} (h:TreeAt w nv fv ns fs vs) (ho:LooseOk ns fs) {op:Int} (hop:¬(1≤op∧op≤9)) {p tz:List UInt8} (hp9:p.length≤1048576) (ht9:tz.length≤1048576) (mode ref:Int) {sv:Value} {cs:List Value} (hsv:StockAt w sv cs):
  Calls Tryz.prog 33 #[.agg #[nv,fv],insV op p tz mode ref,sv] w fun e w'=>e= .returned (.tuple #[.agg #[.slice none 0 0,.slice none 0 0],.int .i64 34])∧Below w.heap.size w w':=by
 have hm:TreeSm ns fs:=⟨by have:=ho.few;omega,by have:=ho.few2;omega,fun n hn=>by have:=valid_len (ho.mem hn).1;omega,fun f hf=>by have:=ho.size f hf;omega⟩;have hfile:∀n∈ns, -1≤n.file:=fun n hn=>(ho.mem hn).2.1
 have hS0:=do_start w nv fv op p tz mode ref;have hlo:=fun(W:World) (hW:Below w.heap.size w W)=>refloose_any (h.below hW) hm
 rw[loose_doc ho]at hlo;have hfi:=fun(W:World) (hW:Below w.heap.size w W)=>reffirst_any op (p:=p) (tz:=tz) (by omega) (by omega) mode ref (hsv.below hW)
 have hfone:=tfCells_oneCell h;have hnp:=h.nodes;have hfp:=h.files;obtain⟨A1,ca1,rfl,hm1⟩:=h.nodes.shape;obtain⟨A2,ca2,rfl,hm2⟩:=h.files.shape;obtain⟨Av,cv,rfl,_⟩:=hsv.1.shape;have b1:(ns.length:Int)≤256:=by have:=ho.few;omega
 have b2:(fs.length:Int)≤256:=by have:=ho.few2;omega
 obtain⟨zt0,zt1,zi0,zi1,zi2,zi3,zi4,zr0,zr1,zf0,zf1⟩:=do_cells [] hS0;obtain⟨j0,hjnf,hj0,hj1,hj2⟩:=info_parts info_fileT;obtain⟨k0,hknf,hk0,hk1,hk2⟩:=info_parts info_nodeT;have hS0':=Lh hS0;have hlo':=Lh hlo;have hfi':=Lh hfi;have hfone':=Lh hfone;have hnp':=Lh hnp;have hfp':=Lh hfp;have h':=Lh h;have hm':=Lh hm;have ho':=Lh ho;have hfile':=Lh hfile;have hsv':=Lh hsv;clear hS0 hlo hfi hfone hnp hfp h hm ho hfile hsv;have hfd:firstD op p tz mode ref cs=34:=by unfold firstD;rw[if_pos (by omega)]
 rw[hfd]at hfi';clear hfd hop;unfold insV strV at*;go_enter Tryz.func33,Tryz.ntmps33;go_wp2_with(first |(go_at_call 57;refine(hlo'.out _ hS0'.out.below).mono ?_;rintro e w1 ⟨rfl,hb1⟩;(have hS1:=hS0'.out.pure hb1);obtain⟨at0,at1,ai0,ai1,ai2,ai3,ai4,ar0,ar1,af0,af1⟩:=do_cells [] hS1;replace hS1:=Lh hS1;clear hb1)|(go_at_call 60;refine(hfi'.out _ hS1.out.below).mono ?_;rintro e w2 ⟨rfl,hb2⟩;(have hS2:=hS1.out.pure hb2);obtain⟨bt0,bt1,bi0,bi1,bi2,bi3,bi4,br0,br1,bf0,bf1⟩:=do_cells [] hS2;replace hS2:=Lh hS2;clear hb2));obtain⟨Q,hQ,e0,e1⟩:=do_store [] (.slice none 0 0) (.slice none 0 0) hS2.out;refine bodyPost_ret (tree_results2 rfl rfl e0 e1) rfl ?_;exact⟨rfl,hQ.below⟩
set_option maxRecDepth 100000 in
set_option maxHeartbeats 8000000 in
theorem refdo_9 {w:World} {nv fv:Value} {ns:List TN} {fs:List TF} {vs:List Value} (h:TreeAt w nv fv ns fs vs) (ho:LooseOk ns fs) {p tz:List UInt8} (hp9:p.length≤1048576) (ht9:tz.length≤1048576) (mode ref:Int) {sv:Value} {cs:List Value} (hsv:StockAt w sv cs):
  Calls Tryz.prog 33 #[.agg #[nv,fv],insV 9 p tz mode ref,sv] w fun e w'=>∃A3 n3 c3 A4 n4 c4 vs',e= .returned (.tuple #[.agg #[.slice A3 n3 c3,.slice A4 n4 c4],.int .i64 0])∧Sep w w' [.keep fun W=>TreeAt W (.slice A3 n3 c3) (.slice A4 n4 c4) ns fs vs']:=by
 have hm:TreeSm ns fs:=⟨by have:=ho.few;omega,by have:=ho.few2;omega,fun n hn=>by have:=valid_len (ho.mem hn).1;omega,fun f hf=>by have:=ho.size f hf;omega⟩;have hfile:∀n∈ns, -1≤n.file:=fun n hn=>(ho.mem hn).2.1
 have hS0:=do_start w nv fv 9 p tz mode ref;have hlo:=fun(W:World) (hW:Below w.heap.size w W)=>refloose_any (h.below hW) hm
 rw[loose_doc ho]at hlo;have hfi:=fun(W:World) (hW:Below w.heap.size w W)=>reffirst_any (9:Int) (p:=p) (tz:=tz) (by omega) (by omega) mode ref (hsv.below hW)
 have hfone:=tfCells_oneCell h;have hnp:=h.nodes;have hfp:=h.files;obtain⟨A1,ca1,rfl,hm1⟩:=h.nodes.shape;obtain⟨A2,ca2,rfl,hm2⟩:=h.files.shape;obtain⟨Av,cv,rfl,_⟩:=hsv.1.shape;have b1:(ns.length:Int)≤256:=by have:=ho.few;omega
 have b2:(fs.length:Int)≤256:=by have:=ho.few2;omega
 obtain⟨zt0,zt1,zi0,zi1,zi2,zi3,zi4,zr0,zr1,zf0,zf1⟩:=do_cells [] hS0;obtain⟨j0,hjnf,hj0,hj1,hj2⟩:=info_parts info_fileT;obtain⟨k0,hknf,hk0,hk1,hk2⟩:=info_parts info_nodeT;have hS0':=Lh hS0;have hlo':=Lh hlo;have hfi':=Lh hfi;have hfone':=Lh hfone;have hnp':=Lh hnp;have hfp':=Lh hfp;have h':=Lh h;have hm':=Lh hm;have ho':=Lh ho;have hfile':=Lh hfile;have hsv':=Lh hsv;clear hS0 hlo hfi hfone hnp hfp h hm ho hfile hsv;have hfd:firstD 9 p tz mode ref cs=0:=by unfold firstD;rw[if_neg (by omega),if_pos rfl]
 have hcp:=fun(W:World) (hW:Below w.heap.size w W)=>refcopy_any (h'.out.below hW) hm'.out
 have hcp':=Lh hcp;rw[hfd]at hfi';clear hfd hcp;unfold insV strV at*;go_enter Tryz.func33,Tryz.ntmps33;go_wp2_with(first |(go_at_call 57;refine(hlo'.out _ hS0'.out.below).mono ?_;rintro e w1 ⟨rfl,hb1⟩;(have hS1:=hS0'.out.pure hb1);obtain⟨at0,at1,ai0,ai1,ai2,ai3,ai4,ar0,ar1,af0,af1⟩:=do_cells [] hS1;replace hS1:=Lh hS1;clear hb1)|(go_at_call 60;refine(hfi'.out _ hS1.out.below).mono ?_;rintro e w2 ⟨rfl,hb2⟩;(have hS2:=hS1.out.pure hb2);obtain⟨bt0,bt1,bi0,bi1,bi2,bi3,bi4,br0,br1,bf0,bf1⟩:=do_cells [] hS2;replace hS2:=Lh hS2;clear hb2)|(go_at_call 61;refine(hcp'.out _ hS2.out.below).mono ?_;rintro e w3 ⟨nv3,fv3,vs3,rfl,hS3⟩;(have hS4:=hS2.out.join hS3);(have hT:=hS4.kept 0 rfl);obtain⟨A3,c3,rfl,_⟩:=hT.nodes.shape;obtain⟨A4,c4,rfl,_⟩:=hT.files.shape;obtain⟨gt0,gt1,gi0,gi1,gi2,gi3,gi4,gr0,gr1,gf0,gf1⟩:=do_cells [_] hS4;replace hS4:=Lh hS4;clear hS3 hT));obtain⟨Q,hQ,e0,e1⟩:=do_store [_] (.slice A3 ns.length c3) (.slice A4 fs.length c4) hS4.out;refine bodyPost_ret (tree_results2 rfl rfl e0 e1) rfl ?_;exact⟨A3,ns.length,c3,A4,fs.length,c4,vs3,rfl,Sep.fst (X:=[_]) hQ⟩
end Go.Proofs.YtimkjnbihlgbiaaGreat
namespace Go.Proofs
open Go.Shelf
def Tryz.deleteInts_ren :Go.Shelf.Ren:=⟨fun|23=>53|n=>n,fun|22=>36|3=>3|4=>4|0=>0|n=>n,fun|n=>n⟩
theorem Tryz.deleteInts :Go.Proofs.Lays2.n23 Tryz.prog Tryz.deleteInts_ren:= {
 mixed:=by kernel_rfl
 f23:=Tryz.func53.trans (congrArg some (by kernel_rfl))
 t0:=Tryz.underlying0
 a0:=Tryz.isAgg0
 z0:=Tryz.sizeOf0
 v0:=Tryz.zeroValue0
 t3:=Tryz.underlying3
 a3:=Tryz.isAgg3
 z3:=Tryz.sizeOf3
 v3:=Tryz.zeroValue3
 t4:=Tryz.underlying4
 a4:=Tryz.isAgg4
 z4:=Tryz.sizeOf4
 v4:=Tryz.zeroValue4
 t22:=Tryz.underlying36
 a22:=Tryz.isAgg36
 z22:=Tryz.sizeOf36
 v22:=Tryz.zeroValue36
 i3:=by kernel_rfl}
end Go.Proofs
namespace Go.Proofs.YtimkjnbihlgbiaaGreat
open Go.RowKit
set_option linter.unusedVariables false
theorem minus_any (a b:Int) (w:World) (ha:0≤a∧a≤1048576) (hb:0≤b∧b≤1048576):
  Calls Tryz.prog 20 #[.int .i64 a,.int .i64 b] w fun e w'=>e= .returned (.int .i64 (a-b))∧w=w':=by
 obtain⟨a1,a2⟩:=ha;obtain⟨b1,b2⟩:=hb;go_enter Tryz.func20,Tryz.ntmps20;go_wp2;go_ret;exact⟨rfl,rfl⟩
set_option maxRecDepth 100000 in
set_option maxHeartbeats 1000000 in
theorem bsearch_any {xs:List Int} {w:World} {v:Value} (h:IntsAt w v xs) (x:Int) (hx:0≤x∧x≤1048576) (hlt:∀y∈xs,0≤y∧y<x) (hl:xs.length≤1048576):
  Calls Tryz.prog 48 #[v,.int .i64 x,.func (.func 20) #[] #[]] w fun e w'=>e= .returned (.tuple #[.int .i64 xs.length,.bool false])∧w=w':=by
 obtain⟨A,c,rfl,hm⟩:=h.shape;unfold maxLen at hm;have h':=Lh h;have hlt':=Lh hlt;clear h hlt;go_enter Tryz.func48,Tryz.ntmps48;go_wp2_with fail;go_loopg[9,10] xs.length (fun g lv hv wr=>∃lo:Nat,lv= .int .i64 lo∧hv= .int .i64 xs.length∧lo≤xs.length∧Hid (g=xs.length-lo)∧w=wr)
 case atStart=>exact⟨0,rfl,rfl,Nat.zero_le _,Lh (by omega),rfl⟩
 obtain⟨lo,rfl,rfl,hlo,hg,rfl⟩:=hrel;by_cases hc:lo<xs.length
 ·(have hmid:(lo+xs.length)/2<xs.length:=by omega);obtain⟨ad,c',e,h3⟩:=h'.out.at_ hmid;cases e;have hy:=hlt'.out _ (List.getElem_mem hmid);generalize xs[(lo+xs.length)/2]=y at h3 hy;have hcmp:=minus_any y x w (by omega) hx;obtain⟨y1,y2⟩:=hy;obtain⟨x1,x2⟩:=hx;(have q1:(0:Int)≤(lo:Int):=by omega);(have q2:(lo:Int)<(xs.length:Int):=by omega);(have q3:(xs.length:Int)≤1048576:=by omega);(have q4:y-x<0:=by omega);go_wp2_with(go_at_call 20;refine hcmp.mono ?_;rintro e w' ⟨rfl,rfl⟩);go_roundg (xs.length-((lo+xs.length)/2+1))
  case measure=>rw[hg.out];omega
  case rel=>exact⟨(lo+xs.length)/2+1,by rw[show((lo:Int)+(xs.length:Int))/2+1=(((lo+xs.length)/2+1:Nat):Int)by omega],rfl,by omega,rfl,rfl⟩
 obtain rfl:lo=xs.length:=by omega
 go_wp2_with fail
 go_ret2
 exact⟨rfl,rfl⟩
set_option maxRecDepth 100000 in
set_option maxHeartbeats 1000000 in
theorem insert_end {w0 w:World} {As:List Asn} {v:Value} {xs:List Int} (k:Nat) (hS:Sep w0 w As) (hk:As[k]? =some (intsR v xs)) (x:Int) (g:Nat) (hg:w.cell? ⟨g,0,none⟩=some (.int .i64 x)) (hl:xs.length≤1048576):
  Calls Tryz.prog 49 #[v,.int .i64 xs.length,.slice (some ⟨g,0,none⟩) 1 1] w fun e w'=>∃v',e= .returned v'∧Sep w0 w' (As.set k (intsR v' (xs++[x]))):=by
 obtain⟨i0,hinf,hz0,hz1,hz2⟩:=info_parts info_int;obtain⟨A,c,rfl,hm⟩:=(hS.ints k hk).shape;unfold maxLen at hm;obtain⟨n,hn⟩:∃n,xs.length=n:=⟨_,rfl⟩;have hk2:As[k]? =some (.sl 3 1 (.slice A n c) n (xs.map (.int .i64))):=by rw[hk,←hn];rfl
 have hcap:(n:Int)≤(c:Int):=by obtain⟨A',c',e,h1,_⟩:=hS.sl_any k hk2;cases e;omega
 have hS':=Lh hS;have hk':=Lh hk2;rw[hn]at hm hl ⊢;have hn':=Lh hn;clear hS hk hk2 hn;have q1:(0:Int)≤(n:Int):=by omega
 have q2:((n:Int)==(n:Int))=true:=by simp
 have hcells:∀j u,[Value.int .i64 x][j]? =some u→w.cell? ((⟨g,0,none⟩:Addr).add j)=some u:=by
  intro j u hu;cases j with
  |zero=>simp at hu;subst hu;exact hg
  |succ j=>simp at hu
 have hcells':=Lh hcells;clear hcells;go_enter Tryz.func49,Tryz.ntmps49;go_wp2_with(at_builtin;refine wpList_append_sep k rfl _ _ 36 rfl 3 i0 (.int .i64 0) 1 8 Tryz.underlying36 hinf hz0 hz1 hz2 rfl (by decide) hS'.out _ n (xs.map (.int .i64)) hk'.out rfl ⟨g,0,none⟩ 1 1 [.int .i64 x] rfl rfl hcells'.out (by simp[Value.oneCell']) (by decide) (by unfold maxLen;omega) (by omega) ?_);all_goals
  intro g2 c2 w2 hS2 _
  have hS2':=Lh hS2
  clear hS2
  go_wp2_with fail
  go_ret
  refine⟨.slice (some ⟨g2,0,none⟩) (n+1) c2,rfl,?_⟩
  have e:intsR (.slice (some ⟨g2,0,none⟩) (n+1) c2) (xs++[x])= .sl 3 1 (.slice (some ⟨g2,0,none⟩) (n+1) c2) (n+1) (xs.map (.int .i64)++[.int .i64 x]):=by unfold intsR;rw[List.length_append,hn'.out,List.map_append];rfl
  rw[e]
  exact hS2'.out
theorem delete_any {w0 w:World} {As:List Asn} {v:Value} {xs:List Int} (k i:Nat) (h:Sep w0 w As) (hk:As[k]? =some (intsR v xs)) (hi:i<xs.length):
  Calls Tryz.prog 53 #[v,.int .i64 i,.int .i64 (i+1:Nat)] w fun e w'=>∃v',e= .returned v'∧Sep w0 w' (As.set k (intsR v' (xs.take i++xs.drop (i+1)))):=by
 obtain⟨g,c,rfl,_,hg,hc,hmax⟩:=h.sl_form k hk (by omega);have hH:=ints_holds k h hk rfl;have hcon:=Go.Proofs.Any.slices_Delete_int Go.Proofs.Tryz.deleteInts g 0 c i (i+1) xs w hH hc (by unfold maxLen at hmax;omega) (by omega) (by omega);change Calls Tryz.prog 53 _ _ _ at hcon;refine hcon.mono ?_;rintro e w' ⟨rfl,q,rfl⟩;refine⟨_,rfl,?_⟩;have hl:(xs.take i++xs.drop (i+1)).length=xs.length-(i+1-i):=by rw[List.length_append,List.length_take,List.length_drop];omega
 have hd:(xs.take i++xs.drop (i+1)++List.replicate (i+1-i) 0).toArray.size=xs.length:=by rw[List.size_toArray,List.length_append,hl,List.length_replicate];omega
 have hS:=h.sorted (α:=Int) (Value.int .i64) k hk q (xs.take i++xs.drop (i+1)++List.replicate (i+1-i) 0).toArray hd #[];have hlt:k<As.length:=(gF.1 hk).1;have hS2:=hS.sl_cut k (List.getElem?_set_self hlt) (xs.length-(i+1-i)) (by omega);rw[List.set_set]at hS2;have e1:intsR (.slice (some ⟨g,0,none⟩) (xs.length-(i+1-i)) c) (xs.take i++xs.drop (i+1))= .sl 3 1 (.slice (some ⟨g,0,none⟩) (xs.length-(i+1-i)) c) (xs.length-(i+1-i)) (((xs.take i++xs.drop (i+1)++List.replicate (i+1-i) 0).toArray.toList.map (Value.int .i64)).take ((xs.length-(i+1-i))*1)):=by unfold intsR;rw[hl];congr 1;rw[Nat.mul_one,List.toList_toArray,List.map_append (l₁:=xs.take i++xs.drop (i+1)) (l₂:=List.replicate (i+1-i) 0),List.take_left' (by rw[List.length_map,hl])]
 rw[e1];have e2:Go.Proofs.sortWorld (Value.int .i64) w g 0 q (xs.take i++xs.drop (i+1)++List.replicate (i+1-i) 0).toArray #[]=Go.Sort.putRow (Value.int .i64) (Go.Sort.ahead w q) g 0 (xs.take i++xs.drop (i+1)++List.replicate (i+1-i) 0).toArray:=by unfold Go.Proofs.sortWorld;rw[Go.Sort.grow_empty]
 rw[e2]at hS2;exact hS2
def queueCells (v:Value):Array Value:=#[v,.func (.func 20) #[] #[]]
set_option maxRecDepth 100000 in
set_option maxHeartbeats 1000000 in
theorem put_any {w0 w:World} {R:List Asn} {b:Nat} {v:Value} {xs:List Int} (hS:Sep w0 w (.box b 61 (queueCells v)::intsR v xs::R)) (x:Int) (hx:0≤x∧x≤1048576) (hlt:∀y∈xs,0≤y∧y<x) (hl:xs.length≤1048576):
  Calls Tryz.prog 24 #[.pointer (some ⟨b,0,none⟩),.int .i64 x] w fun e w'=>e= .returned (.tuple #[])∧∃v',Sep w0 w' (.box b 61 (queueCells v')::intsR v' (xs++[x])::R):=by
 have d0:w.cell? ⟨b,0,none⟩=some v:=by rw[hS.bC 0 rfl 0];rfl
 have d1:w.cell? ⟨b,1,none⟩=some (.func (.func 20) #[] #[]):=by rw[hS.bC 0 rfl 1];rfl
 have hbs:∀W,Below w.heap.size w W→Calls Tryz.prog 48 #[v,.int .i64 x,.func (.func 20) #[] #[]] W fun e w'=>e= .returned (.tuple #[.int .i64 xs.length,.bool false])∧w'=W:=
  fun W hW=>(bsearch_any ((hS.ints 1 rfl).below hW) x hx hlt hl).mono fun e w' h=>⟨h.1,h.2.symm⟩
 obtain⟨A,c,rfl,_⟩:=(hS.ints 1 rfl).shape;have hbs':=Lh hbs;have hS':=Lh hS;have hbq:∀n,Below w.heap.size w (w.drewN n):=fun n=>⟨rfl,rfl,rfl,Nat.le_refl _,fun _ _=>rfl⟩
 have hbq':=Lh hbq;clear hbs hS hbq;go_enter Tryz.func24,Tryz.ntmps24;go_wp2_with fail;go_quiet ((go_at_call 48;exact Calls.quiet_of_same (hbs'.out _ (hbq'.out _))));have hSq:=hS'.out.drewN nq;generalize w.drewN nq=w1 at hSq ⊢;have e0:w1.cell? ⟨b,0,none⟩=some (.slice A xs.length c):=by rw[hSq.bC 0 rfl 0];rfl
 have hSa:=hSq.alloc (.cells #[.int .i64 x] 3);have e1:(w1.alloc (.cells #[.int .i64 x] 3)).cell? ⟨b,0,none⟩=some (.slice A xs.length c):=by rw[hSa.bC 0 rfl 0];rfl
 have hin:=insert_end 1 hSa rfl x w1.heap.size (cell_one_new _ _ _ 0 _ rfl) hl;have hin':=Lh hin;clear hin hSa hSq d0 d1;go_wp2_with(go_at_call 49;refine hin'.out.mono ?_;rintro e w2 ⟨v2,rfl,hT⟩;obtain⟨A2,c2,rfl,_⟩:=(hT.ints 1 rfl).shape;have f0:=hT.bC 0 rfl 0;have f1:=hT.bF 0 rfl 0;have hT':=Lh hT;clear hT)
 go_end0
 refine⟨rfl,.slice A2 (xs.length+1) c2,?_⟩;have h1:=hT'.out.bS 0 rfl 0 (.slice A2 (xs.length+1) c2);rw[List.length_append]at h1;exact h1
end Go.Proofs.YtimkjnbihlgbiaaGreat
namespace Go.Proofs.YtimkjnbihlgbiaaGreat
set_option linter.unusedVariables false
def decQ :List Int→List Int→List Int→Option (List Int×List Int)
 |[],w,r=>some (w,r)
 |k::ks,w,r=>
  if 0≤k∧k.toNat<w.length∧1≤w.getD k.toNat 0∧w.getD k.toNat 0≤1048576∧k≤1048576 then
   if w.getD k.toNat 0=1 then(if(∀y∈r,0≤y∧y<k)∧r.length≤1000 then decQ ks (w.set k.toNat 0) (r++[k])else none)
   else decQ ks (w.set k.toNat (w.getD k.toNat 0-1)) r
  else none
def runQ :Nat→List (List Int)→List Int→List Int→List Int→Option (List Int)
 |_,_,_,[],out=>some out
 |0,_,_,_::_,_=>none
 |f+1,us,w,i::r,out=>
  if 0≤i∧i.toNat<us.length∧(us.getD i.toNat []).length≤1048576∧out.length≤1000∧r.length≤1000 then
   match decQ (us.getD i.toNat []) w r with
   |none=>none
   |some s=>runQ f us s.1 s.2 (out++[i])
  else none
def addU (i:Int):List Int→List (List Int)→List (List Int)
 |[],us=>us
 |k::ks,us=>addU i ks (us.set k.toNat (us.getD k.toNat []++[i]))
def usersQ (xss:List (List Int)):Nat→List (List Int)
 |0=>List.replicate xss.length []
 |i+1=>addU i (normL (xss.getD i [])) (usersQ xss i)
def waitQ (xss:List (List Int)) (i:Nat):List Int:=(List.range xss.length).map fun j=>if j<i then((normL (xss.getD j [])).length:Int)else 0
def readyQ (xss:List (List Int)):Nat→List Int
 |0=>[]
 |i+1=>if(normL (xss.getD i [])).length=0 then readyQ xss i++[(i:Int)]else readyQ xss i
theorem addU_len (i:Int) (ks:List Int) (us:List (List Int)):(addU i ks us).length=us.length:=by
 induction ks generalizing us with
 |nil=>rfl
 |cons k ks ih=>unfold addU;rw[ih,List.length_set]
theorem usersQ_len (xss:List (List Int)) (i:Nat):(usersQ xss i).length=xss.length:=by
 induction i with
 |zero=>simp[usersQ]
 |succ i ih=>unfold usersQ;rw[addU_len,ih]
theorem waitQ_len (xss:List (List Int)) (i:Nat):(waitQ xss i).length=xss.length:=by simp[waitQ]
theorem waitQ_set {xss:List (List Int)} {i:Nat} (hi:i<xss.length):(waitQ xss i).set i ((normL (xss.getD i [])).length:Int)=waitQ xss (i+1):=by
 apply List.ext_getElem
 ·simp[waitQ]
 intro j h1 h2;rw[List.getElem_set];by_cases e:i=j
 ·subst e;simp[waitQ]
 have e2:j<i+1↔j<i:=by omega
 simp[waitQ,e,e2]
theorem readyQ_lt (xss:List (List Int)) (i:Nat):∀y∈readyQ xss i,0≤y∧y<(i:Int):=by
 induction i with
 |zero=>simp[readyQ]
 |succ i ih=>
  intro y hy;unfold readyQ at hy;split at hy
  ·rcases List.mem_append.1 hy with hy|hy
   ·have:=ih y hy;omega
   rw[List.mem_singleton]at hy;omega
  have:=ih y hy;omega
theorem readyQ_len (xss:List (List Int)) (i:Nat):(readyQ xss i).length≤i:=by
 induction i with
 |zero=>simp[readyQ]
 |succ i ih=>
  unfold readyQ;split
  ·rw[List.length_append];simp;omega
  omega
end Go.Proofs.YtimkjnbihlgbiaaGreat
