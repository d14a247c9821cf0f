/- FsO, laid together. -/
import Derived.Test.YteihmbaimbogaaaGreatJ7
namespace Go.Proofs.YteihmbaimbogaaaGreat
open Go.RowKit
set_option linter.unusedVariables false
set_option linter.unusedSimpArgs false
def seenF (L:List Nat) (x:Int):Int:=if x∈L.map (fun(a:Nat)=>(a:Int))then 1 else 0
theorem seenF_put (L:List Nat) (a:Nat):(fun x=>if x=(a:Int)then 1 else seenF L x)=seenF (L++[a]):=by
 funext x;unfold seenF;by_cases e:x=(a:Int)
 ·rw[if_pos e,if_pos];rw[List.map_append,List.mem_append];exact .inr (by simp[e])
 rw[if_neg e];by_cases h:x∈L.map (fun(a:Nat)=>(a:Int))
 ·rw[if_pos h,if_pos];rw[List.map_append,List.mem_append];exact .inl h
 rw[if_neg h,if_neg];rw[List.map_append,List.mem_append];rintro(h'|h')
 ·exact h h'
 simp at h';exact e h'
theorem seenF_no {L:List Nat} {a:Nat} (h:a∉L):seenF L (a:Int)=0:=by
 unfold seenF;rw[if_neg];intro hm;obtain⟨b,hb,e⟩:=List.mem_map.1 hm;have:b=a:=by omega
 exact h (this▸hb)
theorem wf_small {a:Nat} (h:a≤4096):(Lit.int .i64 (a:Int)).wf=true:=by simp[Lit.wf,IntKind.min,IntKind.max,IntKind.signed,IntKind.bits];omega
def atsI (ps:List (Nat×List UInt8)):List Int:=ps.map fun y=>(y.1:Int)
theorem atsI_eq (ps:List (Nat×List UInt8)):atsI ps=(ps.map (·.1)).map (fun(p:Nat)=>(p:Int)):=by unfold atsI;rw[List.map_map];rfl
theorem atsI_len (ps:List (Nat×List UInt8)):(atsI ps).length=ps.length:=List.length_map ..
def errC (b:Bool):Int:=if b=true then 0 else 11
theorem commit_fail {w0 w:World} {R:List Asn} {q be:Nat} {p:Nat} {tmps:Array Value} {Post:Ending→World→Prop} (ht:tmps.getD 4 undef= .pointer (some ⟨be,0,none⟩)) (h:Sep w0 w (ledgerR q p false::errBox be 0::R))
  (hp:∀w',Sep w0 w' (ledgerR q p true::R)→Post (.returned (.int .i64 11)) w'):
  bodyPostD Tryz.prog Tryz.f144 Post (Exit.panic [{v:=stopL 11,recovered:=false}]) {tmps:=tmps,defers:=[{target:=.fn (.func 128) #[],args:=#[.pointer (some ⟨q,0,none⟩),.pointer (some ⟨be,0,none⟩)]}]} w:=by
 refine caught_door h fun w' hS=>?_
 have ec:=hS.bC 1 rfl 0;simp only[gA,gB]at ec;refine⟨.int .i64 11,?_,hp w' (Sep.drop 1 (Sep.sel [1,0] hS (by decide) (by simp)))⟩;have hr:Tryz.f144.results=#[.cell 4 39]:=by kernel_rfl
 have ht':tmps[4]?.getD undef= .pointer (some ⟨be,0,none⟩):=by simpa using ht
 simp[results,hr,go_sem,ht',ec]
theorem DK.wr_back (D:DK) (i:Nat) (b:List UInt8):(D.wr i b).back.length=D.back.length+1:=by unfold DK.wr;rw[DK.step_back];simp
theorem DK.fl_back (D:DK):D.fl.back=[]:=by unfold DK.fl;rw[DK.step_back]
structure Stage (nb:Nat) (D E:DK) (xs:List DAct) (m:Nat):Prop where
 run:runD xs D=(E,true)
 ok:E.ok nb
 back:E.back.length≤m
theorem Stage.wr {nb m i:Nat} {D E:DK} {xs:List DAct} {b:List UInt8} (h:Stage nb D E xs m) (ho:E.off=false) (hi:i<nb) (hb:b.length=512):Stage nb D (E.wr i b) (xs++[some (i,b)]) (m+1):=
 ⟨runD_snoc h.run ho,DK.wr_ok h.ok hi hb,by rw[DK.wr_back];have:=h.back;omega⟩
theorem Stage.fl {nb m:Nat} {D E:DK} {xs:List DAct} (h:Stage nb D E xs m) (ho:E.off=false):Stage nb D E.fl (xs++[none]) 0:=
 ⟨runD_snoc h.run ho,DK.fl_ok h.ok,by rw[DK.fl_back];exact Nat.le_refl _⟩
set_option maxRecDepth 100000 in
set_option maxHeartbeats 4000000 in
theorem commit_any {w0 w:World} {R:List Asn} {q p nb g n c:Nat} {D:DK} {ps:List (Nat×List UInt8)} {us:List Value} (hD:D.ok nb) (h96:96<nb) (hps:PutsOk nb ps) (hin:PutsIn w0 R g n ps us) (hnc:n≤c) (hcm:c≤maxLen) (hback:D.back.length≤60000) (h:Sep w0 w (ledgerR q p false::diskR p D::R)):
  Calls Tryz.prog 144 #[.pointer (some ⟨q,0,none⟩),.slice (some ⟨g,0,none⟩) n c] w fun e w'=>
   e= .returned (.int .i64 (errC (runD (commitActs ps) D).2))∧Sep w0 w' (ledgerR q p (!(runD (commitActs ps) D).2)::diskR p (runD (commitActs ps) D).1::R):=by
 obtain⟨be,hbe⟩:∃be,w.heap.size=be:=⟨_,rfl⟩
 have h1:Sep w0 ((w.alloc (.cells #[.int .i64 0] 39)).alloc (.map #[] 0)) (imapR (be+1) 0 (fun _=>0)::ledgerR q p false::diskR p D::errBox be 0::R):=by have h2:Sep w0 (w.alloc (.cells #[.int .i64 0] 39)) (ledgerR q p false::diskR p D::errBox w.heap.size 0::R):=Sep.sel [1,2,0] (h.bN 39 #[.int .i64 0]) (by decide) (by simp);have h3:=h2.imap_new;rw[←hbe];simpa using h3
 have h1':=Lh h1
 have hmm:= @run_makeMap Tryz.prog
 have hn1:(1:Int)≤n:=by have:=hps.some;have:=hin.len;omega
 have hn2:(n:Int)≤40:=by have:=hps.few;have:=hin.len;omega
 have hps':=Lh hps
 have hin':=Lh hin
 have hD':=Lh hD
 have hback':=Lh hback
 clear h1 hback hcm
 go_enter_defers Tryz.func144,Tryz.ntmps144
 go_wp2_with fail
 simp only[hbe]at*
 have hats:∀k (hk:k<n),96+(ps[k]'(by rw[hin'.out.len];exact hk)).1<nb∧(ps[k]'(by rw[hin'.out.len];exact hk)).2.length=512:=fun k hk=>hps'.out.put _ (List.getElem_mem _)
 have hats':=Lh hats
 have hlp:=hin'.out.len
 have hlp':=Lh hlp
 have hnb:=hD'.out.few
 have hnb':=Lh hnb
 clear hats hlp hnb hps hin h hmm hD
 go_loopw[27] (fun i wr=>∃k:Nat,k≤n∧i= .int .i64 k∧Hid (Sep w0 wr (imapR (be+1) k (seenF ((ps.take k).map (·.1)))::ledgerR q p false::diskR p D::errBox be 0::R))) (fun i _=>n-(intOf i).toNat)
 case atStart=>exact⟨0,Nat.zero_le _,rfl,h1'⟩
 case round=>
  obtain⟨k,hk,rfl,hS⟩:=hrel;by_cases hlt:k<n
  ·(have hkl:k<ps.length:=by rw[hlp'.out];exact hlt);obtain⟨c0,c1⟩:=hin'.out.cell wr [_,_,_,_] hS.out k hlt;obtain⟨hat1,hat2⟩:=hats'.out k hlt;obtain⟨Au,cu,hu⟩:=hin'.out.form _ (List.getElem_mem (show k<us.length by rw[hin'.out.lenu];exact hlt));rw[hu]at c1;obtain⟨a,ha⟩:∃a,ps[k].1=a:=⟨_,rfl⟩;rw[ha]at c0 hat1;(have ha2:a≤4096:=by have:=hnb'.out;omega);have hwf:=wf_small ha2;have hSA:=hS.out.alloc (.cells #[.int .i64 (a:Nat),.slice Au 512 cu] 190);(have hno:a∉(ps.take k).map (·.1):=by have hnd:=hps'.out.ne;intro hm;obtain⟨x,hx,e⟩:=List.mem_map.1 hm;obtain⟨j,hj,e2⟩:=List.getElem_of_mem hx;rw[List.length_take]at hj;rw[List.getElem_take]at e2;(have hjk:j<k:=by omega);have:=(List.nodup_iff_pairwise_ne.1 hnd);rw[List.pairwise_iff_getElem]at this;have h3:=this j k (by rw[List.length_map];omega) (by rw[List.length_map];omega) hjk;rw[List.getElem_map,List.getElem_map,e2,e,ha]at h3;exact h3 rfl);have hlook:=hSA.imap_look 0 rfl (a:Int) hwf;rw[seenF_no hno]at hlook;obtain⟨w1,hput,hS1⟩:=hSA.imap_put 0 rfl (by unfold maxLen;omega) (a:Int) 1 hwf (by decide);rw[seenF_put]at hS1;(have e9:(ps.take k).map (·.1)++[a]=(ps.take (k+1)).map (·.1):=by rw[List.take_add_one,gE hkl,List.map_append,←ha];rfl);rw[e9]at hS1;have hS1':=Lh hS1;(have q1:(k:Int)<n:=by omega);(have q0:(0:Int)≤k:=by omega);clear hSA hno hat1 hat2 hwf e9 hS1 h1';go_wp2_with fail;refine⟨⟨k+1,by omega,rfl,hS1'⟩,by simp[intOf];omega⟩
  (obtain rfl:n=k:=by omega);have hS2:Hid (Sep w0 wr (intsR (.slice none 0 0) []::ledgerR q p false::diskR p D::errBox be 0::R)):=Lh (intsR_nil (Sep.drop 1 hS.out));clear hS h1' hk hlt;go_wp2_with fail;go_loopw[8,50] (fun x i wr=>∃(k:Nat),k≤n∧i= .int .i64 k∧Hid (Sep w0 wr (intsR x (atsI (ps.take k))::ledgerR q p false::diskR p D::errBox be 0::R))) (fun _ i _=>n-(intOf i).toNat)
  case atStart=>exact⟨0,Nat.zero_le _,rfl,hS2⟩
  obtain⟨k,hk,rfl,hS⟩:=hrel;by_cases hlt:k<n
  ·(have hkl:k<ps.length:=by rw[hlp'.out];exact hlt);obtain⟨c0,c1⟩:=hin'.out.cell wr [_,_,_,_] hS.out k hlt;obtain⟨hat1,hat2⟩:=hats'.out k hlt;obtain⟨Au,cu,hu⟩:=hin'.out.form _ (List.getElem_mem (show k<us.length by rw[hin'.out.lenu];exact hlt));rw[hu]at c1;obtain⟨a,ha⟩:∃a,ps[k].1=a:=⟨_,rfl⟩;rw[ha]at c0 hat1;have hSA:=hS.out.alloc (.cells #[.int .i64 (a:Nat),.slice Au 512 cu] 190);(have q1:(k:Int)<n:=by omega);(have q0:(0:Int)≤k:=by omega);have hbl:=lblocks_any hD'.out (by omega) (Sep.drop 1 (Sep.sel [0,1,2] hSA.drew (by decide) (by simp)));obtain⟨N,hN⟩:∃N,N=nb-96:=⟨_,rfl⟩;rw[←hN]at hbl;have hd0:decide ((a:Int)<0)=false:=decide_eq_false (by omega);have hd1:decide ((N:Int)≤(a:Int))=false:=decide_eq_false (by omega);(have hd2:¬N≤a:=by omega);have hSA':=Lh hSA;have ec:(wr.alloc (.cells #[.int .i64 (a:Nat),.slice Au 512 cu] 190)).drew.cell? ⟨wr.heap.size,0,none⟩=some (.int .i64 (a:Nat)):=cell_of_row _ _ 0 _ _ _ (heap_alloc_new wr _);have hfl:(Tryz.prog.info? 3).map (fun i=>(i.zero,i.size,i.bytes))=some (some (.int .i64 0),1,8):=info_int;obtain⟨k0,hknf,hk0,hk1,hk2⟩:=info_of hfl;clear hSA hat1 hat2 hS2 hN hfl;go_wp2_with fail;refine wp_noPanic ?_;refine wp_region_E (S:=fun w'=>w'.cell? ⟨wr.heap.size,0,none⟩=some (.int .i64 (a:Nat))) 10 (by kernel_rfl) ?_;simp only[List.size_toArray,List.length_cons,List.length_nil,Nat.reduceAdd];refine wpE_one (i:=0) (by kernel_rfl) rfl (fun K hK=>?_);go_simp;refine hK _ _ (fun _=>ec) ?_;clear hK K;(try simp only[Act.put,gD]);refine wpE_one (i:=1) (by kernel_rfl) rfl (fun K hK=>?_);go_simp;refine hK _ _ (fun _=>ec) ?_;clear hK K;(try simp only[Act.put,gD]);refine wpE_one (i:=2) (by kernel_rfl) rfl (fun K hK=>?_);go_simp;refine hK _ _ (fun _=>ec) ?_;clear hK K;(try simp only[Act.put,gD]);refine wpE_one (i:=3) (by kernel_rfl) rfl (fun K hK=>?_);go_simp;refine hK _ _ (fun _=>ec) ?_;clear hK K;(try simp only[Act.put,gD]);refine wpE_tk (i:=4) (v:=?_) ec rfl ?_ ?_;rotate_left
   ·rintro w e1;go_simp;try with_reducible rfl
   simp only[Act.put,gD];refine wpE_tk (i:=5) (v:=?_) ec rfl ?_ ?_;rotate_left
   ·rintro w e1;go_simp;try with_reducible rfl
   simp only[Act.put,gD];refine wpE_tk (i:=6) (v:=?_) ec rfl ?_ ?_;rotate_left
   ·rintro w e1;go_simp;try with_reducible rfl
   simp only[Act.put,gD];refine wpE_one (i:=7) (by kernel_rfl) rfl (fun K hK=>?_);go_simp;go_at_call 133;refine hbl.mono ?_;rintro e w9 ⟨rfl,h9⟩;obtain rfl:=h9.symm;refine hK _ _ (fun _=>ec) ?_;clear hK K;(try simp only[Act.put,gD]);refine wpE_one (i:=8) (by kernel_rfl) rfl (fun K hK=>?_);go_simp;refine hK _ _ (fun _=>ec) ?_;clear hK K;(try simp only[Act.put,gD]);refine wpE_one (i:=9) (by kernel_rfl) rfl (fun K hK=>?_);go_simp;refine hK _ _ (fun _=>ec) ?_;clear hK K;(try simp only[Act.put,gD]);refine wpE_done (by kernel_rfl) ?_ _;simp only[noPanic];clear hbl;have hSB:Hid (Sep w0 ((wr.alloc (.cells #[.int .i64 (a:Nat),.slice Au 512 cu] 190)).alloc (.cells #[.int .i64 (a:Nat)] 3)).drew (intsR u8 (atsI (ps.take k))::ledgerR q p false::diskR p D::errBox be 0::R)):=Lh (hSA'.out.alloc (.cells #[.int .i64 (a:Nat)] 3)).drew;have hrd:Hid (Rd ((wr.alloc (.cells #[.int .i64 (a:Nat),.slice Au 512 cu] 190)).alloc (.cells #[.int .i64 (a:Nat)] 3)).drew 1 (.slice (some ⟨wr.heap.size+1,0,none⟩) 1 1) 1 [.int .i64 (a:Nat)]):=Lh ⟨rfl,_,_,rfl,Nat.le_refl _,by unfold maxLen;omega,fun _=>⟨_,rfl,by simp,cells_new (wr.alloc (.cells #[.int .i64 (a:Nat),.slice Au 512 cu] 190)) #[.int .i64 (a:Nat)] 3 _ (by simp)⟩⟩;(have hl8:(atsI (ps.take k)).length=k:=by rw[atsI_len,List.length_take];omega);rw[show(intsR u8 (atsI (ps.take k)))= .sl 3 1 u8 k ((atsI (ps.take k)).map (.int .i64))by unfold intsR;rw[hl8]]at hSB;go_wp2_with(at_builtin;refine wpList_append_any_sep 0 rfl _ _ 61 rfl 3 k0 (.int .i64 0) 1 8 Tryz.underlying61 hknf hk0 hk1 hk2 rfl (by decide) hSB.out u8 k _ rfl rfl (.slice (some ⟨wr.heap.size+1,0,none⟩) 1 1) 1 [.int .i64 (a:Nat)] rfl hrd.out (by simp[Value.oneCell']) (by unfold maxLen;omega) (by omega) ?_;intro v3 w3 hS3 hz3);refine⟨⟨k+1,by omega,rfl,Lh ?_⟩,by simp[intOf];omega⟩;(have e9:atsI (ps.take (k+1))=atsI (ps.take k)++[(a:Int)]:=by unfold atsI;rw[List.take_add_one,gE hkl,List.map_append,←ha];rfl);rw[e9];unfold intsR;rw[List.length_append,hl8,List.map_append];exact hS3
  (obtain rfl:n=k:=by omega);have hS3:=hS;rw[List.take_of_length_le (by rw[hlp'.out];exact Nat.le_refl _)]at hS3;have haw:=lawake_any (Sep.drop 1 hS3.out);simp only[Bool.false_eq_true,if_false]at haw;clear hS hS2;go_wp2_with(go_at_call 129;refine haw.mono ?_;rintro e w9 ⟨rfl,h9⟩;obtain rfl:=h9.symm);(have hfin:Hid (∀(E:DK) (X:List Asn) (xs ys:List DAct) (x:DAct) W,commitActs ps=xs++x::ys→runD xs D=(E,true)→E.off=true→Sep w0 W (ledgerR q p true::diskR p E::(X++R))→(Ending.returned (.int .i64 11)= .returned (.int .i64 (errC (runD (commitActs ps) D).2))∧Sep w0 W (ledgerR q p (!(runD (commitActs ps) D).2)::diskR p (runD (commitActs ps) D).1::R))):=Lh fun E X xs ys x W hc hr ho hS=>by rw[hc,runD_stop hr ho];refine⟨rfl,?_⟩;(have h1:Sep w0 W ((ledgerR q p true::diskR p E::X)++R):=by simpa using hS);have h2:Sep w0 W (X++(ledgerR q p true::diskR p E::R)):=h1.perm (by have:=(List.perm_append_comm (l₁:=[ledgerR q p true,diskR p E]) (l₂:=X)).append_right R;simpa using this);exact h2.snd);have hS4:Hid (∃E,Stage nb D E [] (D.back.length+0)∧Sep w0 wr (ledgerR q p false::diskR p E::errBox be 0::intsR u8 (atsI ps)::R)):=Lh ⟨D,⟨rfl,hD'.out,Nat.le_refl _⟩,Sep.sel [1,2,3,0] hS3.out (by decide) (by simp)⟩;clear hS3 haw;go_loopw[74] (fun i wr=>∃k:Nat,k≤n∧i= .int .i64 k∧Hid (∃E,Stage nb D E ((logActs ps).take k) (D.back.length+k)∧Sep w0 wr (ledgerR q p false::diskR p E::errBox be 0::intsR u8 (atsI ps)::R))) (fun i _=>n-(intOf i).toNat)
  case atStart=>exact⟨0,Nat.zero_le _,rfl,hS4⟩
  obtain⟨k,hk,rfl,hS⟩:=hrel;by_cases hlt:k<n
  ·(have hkl:k<ps.length:=by rw[hlp'.out];exact hlt);obtain⟨E,hE,hS5⟩:=hS.out;obtain⟨c0,c1⟩:=hin'.out.cell wr [_,_,_,_] hS5 k hlt;obtain⟨hat1,hat2⟩:=hats'.out k hlt;have hdat:=hin'.out.data k hlt;obtain⟨Au,cu,hu⟩:=hin'.out.form _ (List.getElem_mem (show k<us.length by rw[hin'.out.lenu];exact hlt));rw[hu]at c1 hdat;obtain⟨a,ha⟩:∃a,ps[k].1=a:=⟨_,rfl⟩;obtain⟨bs,hbs⟩:∃bs,ps[k].2=bs:=⟨_,rfl⟩;rw[ha]at c0;rw[hbs]at hdat hat2;have hSA:=hS5.alloc (.cells #[.int .i64 (a:Nat),.slice Au 512 cu] 190);have hpre:commitActs ps=(logActs ps).take k++some (1+k,bs)::((logActs ps).drop (k+1)++(none::some (0,headB (ps.map (·.1)))::none::(putActs ps++[none,some (0,headB []),none]))):=by
    have h1:=logActs_take hkl;rw[hbs]at h1;unfold commitActs
    conv=>lhs;rw[←List.take_append_drop (k+1) (logActs ps),h1]
    simp
   (have h1k:1+k<nb:=by have:=hps'.out.few;omega);(have hfw:E.back.length<65536:=by have:=hE.back;have:=hback'.out;have:=hps'.out.few;omega);have hpre':=Lh hpre;have hSA':=Lh hSA;have hE':=Lh hE;(have hcast:(1:Int)+(k:Int)=((1+k:Nat):Int):=by omega);(have q1:(k:Int)<n:=by omega);(have q0:(0:Int)≤k:=by omega);cases hoff:E.off with
   |true=>have hw:=lwrite_off (i:=1+k) hE.ok h1k hat2 hfw (hdat.cons.cons) hoff hSA;rw[←hcast]at hw;clear hSA hpre hS hS5 hfw hE hcast hS4 hat1 hat2;go_wp2_with(go_at_call 138;refine hw.mono ?_;rintro e w9 ⟨rfl,h9⟩);(refine commit_fail (be:=be) rfl (Sep.sel [0,2,1] h9 (by decide) (by simp)) fun w' hw'=>?_);exact hfin.out E [intsR u8 (atsI ps)] _ _ _ w' hpre'.out hE'.out.run hoff hw'
   |false=>have hw:=lwrite_on (i:=1+k) hE.ok h1k hat2 hfw (hdat.cons.cons) hoff hSA;rw[←hcast]at hw;have hE2:=Lh (hE.wr hoff h1k hat2);clear hSA hpre hS hS5 hfw hE hcast hS4 hat1 hat2;go_wp2_with(go_at_call 138;refine hw.mono ?_;rintro e w9 ⟨rfl,h9⟩);refine⟨⟨k+1,by omega,rfl,Lh ⟨_,?_,h9⟩⟩,by simp[intOf];omega⟩;rw[logActs_take hkl,hbs];exact hE2.out
  (obtain rfl:n=k:=by omega);obtain⟨E,hE,hS5⟩:=hS.out;rw[List.take_of_length_le (by unfold logActs;rw[List.length_map,List.length_zipIdx,hlp'.out];exact Nat.le_refl _)]at hE;clear hS hS4 hlt hk;have hE':=Lh hE;have hok:=hE.ok;(have h0nb:0<nb:=by omega);cases hoff:E.off with
  |true=>have hf:=lflush_off hok hoff hS5;clear hS5 hE hok;go_wp2_with(go_at_call 134;refine hf.mono ?_;rintro e w9 ⟨rfl,h9⟩);(refine commit_fail (p:=p) (be:=be) rfl (Sep.sel [0,2,1] h9 (by decide) (by simp)) fun w' hw'=>?_);exact hfin.out E [intsR u8 (atsI ps)] _ _ none w' rfl hE'.out.run hoff hw'
  |false=>
  have hf:=lflush_on hok hoff hS5;have hE2:=Lh (hE.fl hoff);clear hS5 hE hok;go_wp2_with(go_at_call 134;refine hf.mono ?_;rintro e w9 ⟨rfl,h9⟩);clear hf hE';have hints:=h9.ints 3 rfl;rw[atsI_eq]at hints;have hhd:=head_any hints (by rw[List.length_map];have:=hps'.out.few;omega) (by intro y hy;obtain⟨x,hx,rfl⟩:=List.mem_map.1 hy;have:=hps'.out.put x hx;have:=hnb'.out;omega);clear hints;go_wp2_with(go_at_call 139;refine hhd.mono ?_;rintro e w10 ⟨u,rfl,hSu⟩);have hS6:Sep w0 w10 (ledgerR q p false::diskR p E.fl::errBox be 0::bytesR u (headB (ps.map (·.1)))::R):=Sep.drop 1 (Sep.sel [4,1,2,3,0] (h9.join hSu) (by decide) (by simp));have hlh:(headB (ps.map (·.1))).length=512:=headB_len (by rw[List.length_map];have:=hps'.out.few;omega);clear hhd hSu h9;obtain⟨E2,hE2d⟩:∃E2,E.fl=E2:=⟨_,rfl⟩;rw[hE2d]at hE2 hS6;have hok2:=hE2.out.ok;(have hfw2:E2.back.length<65536:=by have:=hE2.out.back;omega);cases hoff2:E2.off with
  |true=>have hf:=lwrite_off (i:=0) hok2 h0nb hlh hfw2 (Tells.part 1 rfl) hoff2 hS6;clear hS6 hok2 hfw2 hlh;go_wp2_with(go_at_call 138;refine hf.mono ?_;rintro e w11 ⟨rfl,h11⟩);(refine commit_fail (p:=p) (be:=be) rfl (Sep.sel [0,2,1] h11 (by decide) (by simp)) fun w' hw'=>?_);exact hfin.out E2 [bytesR u (headB (ps.map (·.1)))] (logActs ps++[none]) (none::(putActs ps++[none,some (0,headB []),none])) (some (0,headB (ps.map (·.1)))) w' (by simp[commitActs]) hE2.out.run hoff2 hw'
  |false=>
  have hf:=lwrite_on (i:=0) hok2 h0nb hlh hfw2 (Tells.part 1 rfl) hoff2 hS6;have hE3:=Lh (hE2.out.wr hoff2 h0nb hlh);clear hS6 hok2 hfw2 hlh;go_wp2_with(go_at_call 138;refine hf.mono ?_;rintro e w11 ⟨rfl,h11⟩);clear hf hE2;have hS7:Sep w0 w11 (ledgerR q p false::diskR p (E2.wr 0 (headB (ps.map (·.1))))::errBox be 0::R):=Sep.drop 1 (Sep.sel [3,0,1,2] h11 (by decide) (by simp));obtain⟨E3,hE3d⟩:∃E3,E2.wr 0 (headB (ps.map (·.1)))=E3:=⟨_,rfl⟩;rw[hE3d]at hE3 hS7;clear h11 hE3d hE2d;have hok3:=hE3.out.ok;cases hoff3:E3.off with
  |true=>have hf:=lflush_off hok3 hoff3 hS7;clear hS7 hok3;go_wp2_with(go_at_call 134;refine hf.mono ?_;rintro e w12 ⟨rfl,h12⟩);(refine commit_fail (p:=p) (be:=be) rfl (Sep.sel [0,2,1] h12 (by decide) (by simp)) fun w' hw'=>?_);exact hfin.out E3 [] (logActs ps++[none]++[some (0,headB (ps.map (·.1)))]) (putActs ps++[none,some (0,headB []),none]) none w' (by simp[commitActs]) hE3.out.run hoff3 hw'
  |false=>
  have hf:=lflush_on hok3 hoff3 hS7;have hE4:=Lh (hE3.out.fl hoff3);clear hS7 hok3;go_wp2_with(go_at_call 134;refine hf.mono ?_;rintro e w12 ⟨rfl,h12⟩);clear hf hE3;have hS8:Hid (∃E,Stage nb D E (logActs ps++[none]++[some (0,headB (ps.map (·.1)))]++[none]) (0+0)∧Sep w0 w12 (ledgerR q p false::diskR p E::errBox be 0::R)):=Lh ⟨_,hE4.out,h12⟩;obtain⟨XS,hXS⟩:∃XS,XS=logActs ps++[none]++[some (0,headB (ps.map (·.1)))]++[none]:=⟨_,rfl⟩;rw[←hXS]at hS8;have hXS':=Lh hXS;clear h12 hE4 hXS;go_loopw[96] (fun i wr=>∃k:Nat,k≤n∧i= .int .i64 k∧Hid (∃E,Stage nb D E (XS++(putActs ps).take k) (0+k)∧Sep w0 wr (ledgerR q p false::diskR p E::errBox be 0::R))) (fun i _=>n-(intOf i).toNat)
  case atStart=>exact⟨0,Nat.zero_le _,rfl,by rw[List.take_zero,List.append_nil];exact hS8⟩
  obtain⟨k,hk,rfl,hS⟩:=hrel;by_cases hlt:k<n
  ·(have hkl:k<ps.length:=by rw[hlp'.out];exact hlt);obtain⟨E4,hE4,hS5⟩:=hS.out;obtain⟨c0,c1⟩:=hin'.out.cell wr [_,_,_] hS5 k hlt;obtain⟨hat1,hat2⟩:=hats'.out k hlt;have hdat:=hin'.out.data k hlt;obtain⟨Au,cu,hu⟩:=hin'.out.form _ (List.getElem_mem (show k<us.length by rw[hin'.out.lenu];exact hlt));rw[hu]at c1 hdat;obtain⟨a,ha⟩:∃a,ps[k].1=a:=⟨_,rfl⟩;obtain⟨bs,hbs⟩:∃bs,ps[k].2=bs:=⟨_,rfl⟩;rw[ha]at c0 hat1;rw[hbs]at hdat hat2;have hSA:=hS5.alloc (.cells #[.int .i64 (a:Nat),.slice Au 512 cu] 190);have hpre:commitActs ps=(XS++(putActs ps).take k)++some (96+a,bs)::((putActs ps).drop (k+1)++[none,some (0,headB []),none]):=by
    have h1:=putActs_take hkl;rw[hbs,ha]at h1;have h2:putActs ps=(putActs ps).take k++some (96+a,bs)::(putActs ps).drop (k+1):=by
     conv=>lhs;rw[←List.take_append_drop (k+1) (putActs ps),h1]
     simp
    unfold commitActs
    conv=>lhs;rw[h2]
    rw[hXS'.out];simp
   (have hfw:E4.back.length<65536:=by have:=hE4.back;have:=hps'.out.few;omega);have hpre':=Lh hpre;have hSA':=Lh hSA;have hE':=Lh hE4;(have hcast:(96:Int)+(a:Int)=((96+a:Nat):Int):=by omega);(have q1:(k:Int)<n:=by omega);(have q0:(0:Int)≤k:=by omega);(have q2:(a:Int)≤4096:=by have:=hnb'.out;omega);cases hoff4:E4.off with
   |true=>have hw:=lwrite_off (i:=96+a) hE4.ok hat1 hat2 hfw (hdat.cons) hoff4 hSA;rw[←hcast]at hw;clear hSA hpre hS hS5 hfw hE4 hcast hS8 hat1 hat2;go_wp2_with(go_at_call 138;refine hw.mono ?_;rintro e w9 ⟨rfl,h9⟩);(refine commit_fail (p:=p) (be:=be) rfl (Sep.sel [0,2,1] h9 (by decide) (by simp)) fun w' hw'=>?_);exact hfin.out E4 [] _ _ _ w' hpre'.out hE'.out.run hoff4 hw'
   |false=>have hw:=lwrite_on (i:=96+a) hE4.ok hat1 hat2 hfw (hdat.cons) hoff4 hSA;rw[←hcast]at hw;have hE2:=Lh (hE4.wr hoff4 hat1 hat2);clear hSA hpre hS hS5 hfw hE4 hcast hS8 hat1 hat2;go_wp2_with(go_at_call 138;refine hw.mono ?_;rintro e w9 ⟨rfl,h9⟩);refine⟨⟨k+1,by omega,rfl,Lh ⟨_,?_,h9⟩⟩,by simp[intOf];omega⟩;rw[putActs_take hkl,hbs,ha,←List.append_assoc];exact hE2.out
  (obtain rfl:n=k:=by omega);obtain⟨E4,hE4,hS5⟩:=hS.out;rw[List.take_of_length_le (by unfold putActs;rw[List.length_map,hlp'.out];exact Nat.le_refl _)]at hE4;have hE4':=Lh hE4;clear hS hS8 hlt hk;have hok4:=hE4.ok;cases hoff4:E4.off with
  |true=>have hf:=lflush_off hok4 hoff4 hS5;clear hS5 hok4 hE4;go_wp2_with(go_at_call 134;refine hf.mono ?_;rintro e w12 ⟨rfl,h12⟩);(refine commit_fail (p:=p) (be:=be) rfl (Sep.sel [0,2,1] h12 (by decide) (by simp)) fun w' hw'=>?_);exact hfin.out E4 [] (XS++putActs ps) ([some (0,headB []),none]) none w' (by rw[hXS'.out];simp[commitActs]) hE4'.out.run hoff4 hw'
  |false=>
  have hf:=lflush_on hok4 hoff4 hS5;have hE5:=Lh (hE4.fl hoff4);clear hS5 hok4 hE4 hE4';go_wp2_with(go_at_call 134;refine hf.mono ?_;rintro e w13 ⟨rfl,h13⟩);clear hf;have hhd:=head_any (w:=w13) (v:=.slice none 0 0) (ps:=[]) ⟨rfl,none,0,rfl,Nat.le_refl _,Nat.zero_le _,fun h=>absurd h (Nat.lt_irrefl _)⟩ (by decide) (by simp);go_wp2_with(go_at_call 139;refine hhd.mono ?_;rintro e w14 ⟨u,rfl,hSu⟩);have hS6:Sep w0 w14 (ledgerR q p false::diskR p E4.fl::errBox be 0::bytesR u (headB [])::R):=Sep.sel [1,2,3,0] (h13.join hSu) (by decide) (by simp);have hlh:(headB []).length=512:=headB_len (by decide);clear hhd hSu h13;obtain⟨E5,hE5d⟩:∃E5,E4.fl=E5:=⟨_,rfl⟩;rw[hE5d]at hE5 hS6;clear hE5d;have hok5:=hE5.out.ok;(have hfw5:E5.back.length<65536:=by have:=hE5.out.back;omega);cases hoff5:E5.off with
  |true=>have hf:=lwrite_off (i:=0) hok5 h0nb hlh hfw5 (Tells.part 1 rfl) hoff5 hS6;clear hS6 hok5 hfw5 hlh;go_wp2_with(go_at_call 138;refine hf.mono ?_;rintro e w11 ⟨rfl,h11⟩);(refine commit_fail (p:=p) (be:=be) rfl (Sep.sel [0,2,1] h11 (by decide) (by simp)) fun w' hw'=>?_);exact hfin.out E5 [bytesR u (headB [])] (XS++putActs ps++[none]) [none] (some (0,headB [])) w' (by rw[hXS'.out];simp[commitActs]) hE5.out.run hoff5 hw'
  |false=>
  have hf:=lwrite_on (i:=0) hok5 h0nb hlh hfw5 (Tells.part 1 rfl) hoff5 hS6;have hE6:=Lh (hE5.out.wr hoff5 h0nb hlh);clear hS6 hok5 hfw5 hlh;go_wp2_with(go_at_call 138;refine hf.mono ?_;rintro e w15 ⟨rfl,h15⟩);clear hf hE5;have hS7:Sep w0 w15 (ledgerR q p false::diskR p (E5.wr 0 (headB []))::errBox be 0::R):=Sep.drop 1 (Sep.sel [3,0,1,2] h15 (by decide) (by simp));obtain⟨E6,hE6d⟩:∃E6,E5.wr 0 (headB [])=E6:=⟨_,rfl⟩;rw[hE6d]at hE6 hS7;clear h15 hE6d;have hok6:=hE6.out.ok;cases hoff6:E6.off with
  |true=>have hf:=lflush_off hok6 hoff6 hS7;clear hS7 hok6;go_wp2_with(go_at_call 134;refine hf.mono ?_;rintro e w12 ⟨rfl,h12⟩);(refine commit_fail (p:=p) (be:=be) rfl (Sep.sel [0,2,1] h12 (by decide) (by simp)) fun w' hw'=>?_);exact hfin.out E6 [] (XS++putActs ps++[none]++[some (0,headB [])]) [] none w' (by rw[hXS'.out];simp[commitActs]) hE6.out.run hoff6 hw'
  |false=>
  have hf:=lflush_on hok6 hoff6 hS7;have hE7:=Lh (hE6.out.fl hoff6);clear hS7 hok6;go_wp2_with(go_at_call 134;refine hf.mono ?_;rintro e w16 ⟨rfl,h16⟩;have k1:=h16.bC 2 rfl 0;have k2:=h16.bF 2 rfl 0;simp only[gA,gB]at k1);refine caught_door_ret ?_;have h17:Sep w0 (w16.setCell ⟨be,0,none⟩ (.int .i64 0)) (ledgerR q p false::diskR p E6.fl::errBox be 0::R):=h16.bS 2 rfl 0 (.int .i64 0);have ec:=h17.bC 2 rfl 0;simp only[gA,gB]at ec;(have hrun:runD (commitActs ps) D=(E6.fl,true):=by have:=hE7.out.run;rw[hXS'.out]at this;rw[←this];congr 1;simp[commitActs]);refine⟨.int .i64 0,?_,?_,?_⟩
  ·(have hr:Tryz.f144.results=#[.cell 4 39]:=by kernel_rfl);simp[results,hr,go_sem,ec]
  ·rw[hrun];rfl
  rw[hrun];exact Sep.drop 1 (Sep.sel [2,0,1] h17 (by decide) (by simp))
end Go.Proofs.YteihmbaimbogaaaGreat
