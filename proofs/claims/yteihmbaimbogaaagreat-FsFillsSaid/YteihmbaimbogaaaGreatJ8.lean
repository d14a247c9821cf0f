/- FsO, laid together. -/
import Derived.Test.YteihmbaimbogaaaGreatJ7
namespace Go.Proofs.YteihmbaimbogaaaGreat
open Go.RowKit
set_option linter.unusedVariables false
set_option linter.unusedSimpArgs false
def NU (L:List Nat) (x:Int):Int:=if x∈L.map (fun(a:Nat)=>(a:Int))then 1 else 0
theorem ac5 (L:List Nat) (a:Nat):(fun x=>if x=(a:Int)then 1 else NU L x)=NU (L++[a]):=by
 funext x;unfold NU;by_cases e:x=(a:Int)
 ·rw[if_pos e,if_pos];rw[List.map_append,List.mem_append];exact .inr (by simp[e])
 rw[if_neg e];by_cases h:x∈L.map (fun(a:Nat)=>(a:Int))
 ·rw[if_pos h,if_pos];rw[List.map_append,List.mem_append];exact .inl h
 rw[if_neg h,if_neg];rw[List.map_append,List.mem_append];rintro(h'|h')
 ·exact h h'
 simp at h';exact e h'
theorem ah8 {L:List Nat} {a:Nat} (h:a∉L):NU L (a:Int)=0:=by
 unfold NU;rw[if_neg];intro hm;obtain⟨b,hb,e⟩:=List.mem_map.1 hm;have:b=a:=by omega
 exact h (this▸hb)
theorem ah9 {a:Nat} (h:a≤4096):(Lit.int .i64 (a:Int)).wf=true:=by simp[Lit.wf,IntKind.min,IntKind.max,IntKind.signed,IntKind.bits];omega
def zD (ps:List (Nat×List UInt8)):List Int:=ps.map fun y=>(y.1:Int)
theorem alF (ps:List (Nat×List UInt8)):zD ps=(ps.map (·.1)).map (fun(p:Nat)=>(p:Int)):=by unfold zD;rw[List.map_map];rfl
theorem aiA (ps:List (Nat×List UInt8)):(zD ps).length=ps.length:=List.length_map ..
def aaG (b:Bool):Int:=if b=true then 0 else 11
theorem jK {w0 w:World} {R:List aU} {q be:Nat} {p:Nat} {tmps:Array Value} {Post:Ending→World→Prop} (ht:tmps.getD 4 undef= .pointer (some ⟨be,0,none⟩)) (h:Sep w0 w (aD q p false::aI be 0::R))
  (hp:∀w',Sep w0 w' (aD q p true::R)→Post (.returned (.int .i64 11)) w'):
  bodyPostD Tryz.prog Tryz.f144 Post (Exit.panic [{v:=sO 11,recovered:=false}]) {tmps:=tmps,defers:=[{target:=.fn (.func 128) #[],args:=#[.pointer (some ⟨q,0,none⟩),.pointer (some ⟨be,0,none⟩)]}]} w:=by
 refine wK h fun w' hS=>?_
 have ec:=hS.bC 1 rfl 0;simp only[gA,gB]at ec;refine⟨.int .i64 11,?_,hp w' (Sep.drop 1 (Sep.bZ [1,0] hS (by decide) (by simp)))⟩;have hr:Tryz.f144.results=#[.cell 4 39]:=by kernel_rfl
 have ht':tmps[4]?.getD undef= .pointer (some ⟨be,0,none⟩):=by simpa using ht
 simp[results,hr,go_sem,ht',ec]
theorem DK.alG (D:DK) (i:Nat) (b:List UInt8):(D.wr i b).back.length=D.back.length+1:=by unfold DK.wr;rw[DK.wX];simp
theorem DK.YJ (D:DK):D.fl.back=[]:=by unfold DK.fl;rw[DK.wX]
structure yF (nb:Nat) (D E:DK) (xs:List oJ) (m:Nat):Prop where
 run:iY xs D=(E,true)
 ok:E.ok nb
 back:E.back.length≤m
theorem yF.wr {nb m i:Nat} {D E:DK} {xs:List oJ} {b:List UInt8} (h:yF nb D E xs m) (ho:E.off=false) (hi:i<nb) (hb:b.length=512):yF nb D (E.wr i b) (xs++[some (i,b)]) (m+1):=
 ⟨NT h.run ho,DK.YR h.ok hi hb,by rw[DK.alG];have:=h.back;omega⟩
theorem yF.fl {nb m:Nat} {D E:DK} {xs:List oJ} (h:yF nb D E xs m) (ho:E.off=false):yF nb D E.fl (xs++[none]) 0:=
 ⟨NT h.run ho,DK.al7 h.ok,by rw[DK.YJ];exact Nat.le_refl _⟩
set_option maxRecDepth 100000 in
set_option maxHeartbeats 4000000 in
theorem VY {w0 w:World} {R:List aU} {q p nb g n c:Nat} {D:DK} {ps:List (Nat×List UInt8)} {us:List Value} (hD:D.ok nb) (KR:96<nb) (hps:aeJ nb ps) (hin:aeI w0 R g n ps us) (hnc:n≤c) (hcm:c≤maxLen) (hback:D.back.length≤60000) (h:Sep w0 w (aD q p false::aJ p D::R)):
  Calls Tryz.prog 144 #[.pointer (some ⟨q,0,none⟩),.slice (some ⟨g,0,none⟩) n c] w fun e w'=>
   e= .returned (.int .i64 (aaG (iY (bD ps) D).2))∧Sep w0 w' (aD q p (!(iY (bD ps) D).2)::aJ p (iY (bD ps) D).1::R):=by
 obtain⟨be,hbe⟩:∃be,w.heap.size=be:=⟨_,rfl⟩
 have h1:Sep w0 ((w.alloc (.cells #[.int .i64 0] 39)).alloc (.map #[] 0)) (NS (be+1) 0 (fun _=>0)::aD q p false::aJ p D::aI be 0::R):=by have h2:Sep w0 (w.alloc (.cells #[.int .i64 0] 39)) (aD q p false::aJ p D::aI w.heap.size 0::R):=Sep.bZ [1,2,0] (h.bN 39 #[.int .i64 0]) (by decide) (by simp);have h3:=h2.ah6;rw[←hbe];simpa using h3
 have h1':=Lh h1
 have hmm:= @run_makeMap Tryz.prog
 have hn1:(1:Int)≤n:=by have:=hps.some;have:=hin.len;omega
 have hn2:(n:Int)≤40:=by have:=hps.few;have:=hin.len;omega
 have U3:=Lh hps
 have hin':=Lh hin
 have hD':=Lh hD
 have VX:=Lh hback
 clear h1 hback hcm
 go_enter_defers Tryz.func144,Tryz.ntmps144
 go_wp2_with fail
 simp only[hbe]at*
 have auI:∀k (hk:k<n),96+(ps[k]'(by rw[hin'.out.len];exact hk)).1<nb∧(ps[k]'(by rw[hin'.out.len];exact hk)).2.length=512:=fun k hk=>U3.out.put _ (List.getElem_mem _)
 have ZH:=Lh auI
 have hlp:=hin'.out.len
 have XX:=Lh hlp
 have hnb:=hD'.out.few
 have hnb':=Lh hnb
 clear auI hlp hnb hps hin h hmm hD
 go_loopw[27] (fun i wr=>∃k:Nat,k≤n∧i= .int .i64 k∧Hid (Sep w0 wr (NS (be+1) k (NU ((ps.take k).map (·.1)))::aD q p false::aJ p D::aI be 0::R))) (fun i _=>n-(intOf i).toNat)
 case atStart=>exact⟨0,Nat.zero_le _,rfl,h1'⟩
 case round=>
  obtain⟨k,hk,rfl,hS⟩:=hrel;by_cases hlt:k<n
  ·(have hkl:k<ps.length:=by rw[XX.out];exact hlt);obtain⟨c0,c1⟩:=hin'.out.cell wr [_,_,_,_] hS.out k hlt;obtain⟨zF,wL⟩:=ZH.out k hlt;obtain⟨Au,cu,hu⟩:=hin'.out.form _ (List.getElem_mem (show k<us.length by rw[hin'.out.alE];exact hlt));rw[hu]at c1;obtain⟨a,ha⟩:∃a,ps[k].1=a:=⟨_,rfl⟩;rw[ha]at c0 zF;(have ha2:a≤4096:=by have:=hnb'.out;omega);have hwf:=ah9 ha2;have AO:=hS.out.alloc (.cells #[.int .i64 (a:Nat),.slice Au 512 cu] 190);(have hno:a∉(ps.take k).map (·.1):=by have hnd:=U3.out.ne;intro hm;obtain⟨x,hx,e⟩:=List.mem_map.1 hm;obtain⟨j,hj,e2⟩:=List.getElem_of_mem hx;rw[List.length_take]at hj;rw[List.getElem_take]at e2;(have hjk:j<k:=by omega);have:=(List.nodup_iff_pairwise_ne.1 hnd);rw[List.pairwise_iff_getElem]at this;have h3:=this j k (by rw[List.length_map];omega) (by rw[List.length_map];omega) hjk;rw[List.getElem_map,List.getElem_map,e2,e,ha]at h3;exact h3 rfl);have auJ:=AO.ac3 0 rfl (a:Int) hwf;rw[ah8 hno]at auJ;obtain⟨w1,hput,hS1⟩:=AO.ah7 0 rfl (by unfold maxLen;omega) (a:Int) 1 hwf (by decide);rw[ac5]at hS1;(have e9:(ps.take k).map (·.1)++[a]=(ps.take (k+1)).map (·.1):=by rw[List.take_add_one,gE hkl,List.map_append,←ha];rfl);rw[e9]at hS1;have akY:=Lh hS1;(have q1:(k:Int)<n:=by omega);(have q0:(0:Int)≤k:=by omega);clear AO hno zF wL hwf e9 hS1 h1';go_wp2_with fail;refine⟨⟨k+1,by omega,rfl,akY⟩,by simp[intOf];omega⟩
  (obtain rfl:n=k:=by omega);have hS2:Hid (Sep w0 wr (aQ (.slice none 0 0) []::aD q p false::aJ p D::aI be 0::R)):=Lh (aaD (Sep.drop 1 hS.out));clear hS h1' hk hlt;go_wp2_with fail;go_loopw[8,50] (fun x i wr=>∃(k:Nat),k≤n∧i= .int .i64 k∧Hid (Sep w0 wr (aQ x (zD (ps.take k))::aD q p false::aJ p D::aI be 0::R))) (fun _ i _=>n-(intOf i).toNat)
  case atStart=>exact⟨0,Nat.zero_le _,rfl,hS2⟩
  obtain⟨k,hk,rfl,hS⟩:=hrel;by_cases hlt:k<n
  ·(have hkl:k<ps.length:=by rw[XX.out];exact hlt);obtain⟨c0,c1⟩:=hin'.out.cell wr [_,_,_,_] hS.out k hlt;obtain⟨zF,wL⟩:=ZH.out k hlt;obtain⟨Au,cu,hu⟩:=hin'.out.form _ (List.getElem_mem (show k<us.length by rw[hin'.out.alE];exact hlt));rw[hu]at c1;obtain⟨a,ha⟩:∃a,ps[k].1=a:=⟨_,rfl⟩;rw[ha]at c0 zF;have AO:=hS.out.alloc (.cells #[.int .i64 (a:Nat),.slice Au 512 cu] 190);(have q1:(k:Int)<n:=by omega);(have q0:(0:Int)≤k:=by omega);have hbl:=vD hD'.out (by omega) (Sep.drop 1 (Sep.bZ [0,1,2] AO.drew (by decide) (by simp)));obtain⟨N,hN⟩:∃N,N=nb-96:=⟨_,rfl⟩;rw[←hN]at hbl;have hd0:decide ((a:Int)<0)=false:=decide_eq_false (by omega);have hd1:decide ((N:Int)≤(a:Int))=false:=decide_eq_false (by omega);(have hd2:¬N≤a:=by omega);have aoL:=Lh AO;have ec:(wr.alloc (.cells #[.int .i64 (a:Nat),.slice Au 512 cu] 190)).drew.cell? ⟨wr.heap.size,0,none⟩=some (.int .i64 (a:Nat)):=cell_of_row _ _ 0 _ _ _ (heap_alloc_new wr _);have hfl:(Tryz.prog.info? 3).map (fun i=>(i.zero,i.size,i.bytes))=some (some (.int .i64 0),1,8):=zN;obtain⟨k0,iM,hk0,hk1,hk2⟩:=iQ hfl;clear AO zF wL hS2 hN hfl;go_wp2_with fail;refine jM ?_;refine aN (S:=fun w'=>w'.cell? ⟨wr.heap.size,0,none⟩=some (.int .i64 (a:Nat))) 10 (by kernel_rfl) ?_;simp only[List.size_toArray,List.length_cons,List.length_nil,Nat.reduceAdd];refine aC (i:=0) (by kernel_rfl) rfl (fun K hK=>?_);go_simp;refine hK _ _ (fun _=>ec) ?_;clear hK K;(try simp only[Act.put,gD]);refine aC (i:=1) (by kernel_rfl) rfl (fun K hK=>?_);go_simp;refine hK _ _ (fun _=>ec) ?_;clear hK K;(try simp only[Act.put,gD]);refine aC (i:=2) (by kernel_rfl) rfl (fun K hK=>?_);go_simp;refine hK _ _ (fun _=>ec) ?_;clear hK K;(try simp only[Act.put,gD]);refine aC (i:=3) (by kernel_rfl) rfl (fun K hK=>?_);go_simp;refine hK _ _ (fun _=>ec) ?_;clear hK K;(try simp only[Act.put,gD]);refine aA (i:=4) (v:=?_) ec rfl ?_ ?_;rotate_left
   ·rintro w e1;go_simp;try with_reducible rfl
   simp only[Act.put,gD];refine aA (i:=5) (v:=?_) ec rfl ?_ ?_;rotate_left
   ·rintro w e1;go_simp;try with_reducible rfl
   simp only[Act.put,gD];refine aA (i:=6) (v:=?_) ec rfl ?_ ?_;rotate_left
   ·rintro w e1;go_simp;try with_reducible rfl
   simp only[Act.put,gD];refine aC (i:=7) (by kernel_rfl) rfl (fun K hK=>?_);go_simp;go_at_call 133;refine hbl.mono ?_;rintro e w9 ⟨rfl,h9⟩;obtain rfl:=h9.symm;refine hK _ _ (fun _=>ec) ?_;clear hK K;(try simp only[Act.put,gD]);refine aC (i:=8) (by kernel_rfl) rfl (fun K hK=>?_);go_simp;refine hK _ _ (fun _=>ec) ?_;clear hK K;(try simp only[Act.put,gD]);refine aC (i:=9) (by kernel_rfl) rfl (fun K hK=>?_);go_simp;refine hK _ _ (fun _=>ec) ?_;clear hK K;(try simp only[Act.put,gD]);refine aO (by kernel_rfl) ?_ _;simp only[mF];clear hbl;have hSB:Hid (Sep w0 ((wr.alloc (.cells #[.int .i64 (a:Nat),.slice Au 512 cu] 190)).alloc (.cells #[.int .i64 (a:Nat)] 3)).drew (aQ u8 (zD (ps.take k))::aD q p false::aJ p D::aI be 0::R)):=Lh (aoL.out.alloc (.cells #[.int .i64 (a:Nat)] 3)).drew;have hrd:Hid (Rd ((wr.alloc (.cells #[.int .i64 (a:Nat),.slice Au 512 cu] 190)).alloc (.cells #[.int .i64 (a:Nat)] 3)).drew 1 (.slice (some ⟨wr.heap.size+1,0,none⟩) 1 1) 1 [.int .i64 (a:Nat)]):=Lh ⟨rfl,_,_,rfl,Nat.le_refl _,by unfold maxLen;omega,fun _=>⟨_,rfl,by simp,iN (wr.alloc (.cells #[.int .i64 (a:Nat),.slice Au 512 cu] 190)) #[.int .i64 (a:Nat)] 3 _ (by simp)⟩⟩;(have hl8:(zD (ps.take k)).length=k:=by rw[aiA,List.length_take];omega);rw[show(aQ u8 (zD (ps.take k)))= .sl 3 1 u8 k ((zD (ps.take k)).map (.int .i64))by unfold aQ;rw[hl8]]at hSB;go_wp2_with(at_builtin;refine bL 0 rfl _ _ 61 rfl 3 k0 (.int .i64 0) 1 8 Tryz.underlying61 iM hk0 hk1 hk2 rfl (by decide) hSB.out u8 k _ rfl rfl (.slice (some ⟨wr.heap.size+1,0,none⟩) 1 1) 1 [.int .i64 (a:Nat)] rfl hrd.out (by simp[Value.oneCell']) (by unfold maxLen;omega) (by omega) ?_;intro v3 w3 bG hz3);refine⟨⟨k+1,by omega,rfl,Lh ?_⟩,by simp[intOf];omega⟩;(have e9:zD (ps.take (k+1))=zD (ps.take k)++[(a:Int)]:=by unfold zD;rw[List.take_add_one,gE hkl,List.map_append,←ha];rfl);rw[e9];unfold aQ;rw[List.length_append,hl8,List.map_append];exact bG
  (obtain rfl:n=k:=by omega);have bG:=hS;rw[List.take_of_length_le (by rw[XX.out];exact Nat.le_refl _)]at bG;have haw:=zC (Sep.drop 1 bG.out);simp only[Bool.false_eq_true,if_false]at haw;clear hS hS2;go_wp2_with(go_at_call 129;refine haw.mono ?_;rintro e w9 ⟨rfl,h9⟩;obtain rfl:=h9.symm);(have hfin:Hid (∀(E:DK) (X:List aU) (xs ys:List oJ) (x:oJ) W,bD ps=xs++x::ys→iY xs D=(E,true)→E.off=true→Sep w0 W (aD q p true::aJ p E::(X++R))→(Ending.returned (.int .i64 11)= .returned (.int .i64 (aaG (iY (bD ps) D).2))∧Sep w0 W (aD q p (!(iY (bD ps) D).2)::aJ p (iY (bD ps) D).1::R))):=Lh fun E X xs ys x W hc hr ho hS=>by rw[hc,ac4 hr ho];refine⟨rfl,?_⟩;(have h1:Sep w0 W ((aD q p true::aJ p E::X)++R):=by simpa using hS);have h2:Sep w0 W (X++(aD q p true::aJ p E::R)):=h1.perm (by have:=(List.perm_append_comm (l₁:=[aD q p true,aJ p E]) (l₂:=X)).append_right R;simpa using this);exact h2.snd);have iW:Hid (∃E,yF nb D E [] (D.back.length+0)∧Sep w0 wr (aD q p false::aJ p E::aI be 0::aQ u8 (zD ps)::R)):=Lh ⟨D,⟨rfl,hD'.out,Nat.le_refl _⟩,Sep.bZ [1,2,3,0] bG.out (by decide) (by simp)⟩;clear bG haw;go_loopw[74] (fun i wr=>∃k:Nat,k≤n∧i= .int .i64 k∧Hid (∃E,yF nb D E ((iT ps).take k) (D.back.length+k)∧Sep w0 wr (aD q p false::aJ p E::aI be 0::aQ u8 (zD ps)::R))) (fun i _=>n-(intOf i).toNat)
  case atStart=>exact⟨0,Nat.zero_le _,rfl,iW⟩
  obtain⟨k,hk,rfl,hS⟩:=hrel;by_cases hlt:k<n
  ·(have hkl:k<ps.length:=by rw[XX.out];exact hlt);obtain⟨E,hE,hS5⟩:=hS.out;obtain⟨c0,c1⟩:=hin'.out.cell wr [_,_,_,_] hS5 k hlt;obtain⟨zF,wL⟩:=ZH.out k hlt;have hdat:=hin'.out.data k hlt;obtain⟨Au,cu,hu⟩:=hin'.out.form _ (List.getElem_mem (show k<us.length by rw[hin'.out.alE];exact hlt));rw[hu]at c1 hdat;obtain⟨a,ha⟩:∃a,ps[k].1=a:=⟨_,rfl⟩;obtain⟨bs,hbs⟩:∃bs,ps[k].2=bs:=⟨_,rfl⟩;rw[ha]at c0;rw[hbs]at hdat wL;have AO:=hS5.alloc (.cells #[.int .i64 (a:Nat),.slice Au 512 cu] 190);have hpre:bD ps=(iT ps).take k++some (1+k,bs)::((iT ps).drop (k+1)++(none::some (0,dM (ps.map (·.1)))::none::(eT ps++[none,some (0,dM []),none]))):=by
    have h1:=BL hkl;rw[hbs]at h1;unfold bD
    conv=>lhs;rw[←List.take_append_drop (k+1) (iT ps),h1]
    simp
   (have h1k:1+k<nb:=by have:=U3.out.few;omega);(have hfw:E.back.length<65536:=by have:=hE.back;have:=VX.out;have:=U3.out.few;omega);have hpre':=Lh hpre;have aoL:=Lh AO;have hE':=Lh hE;(have hcast:(1:Int)+(k:Int)=((1+k:Nat):Int):=by omega);(have q1:(k:Int)<n:=by omega);(have q0:(0:Int)≤k:=by omega);cases hoff:E.off with
   |true=>have hw:=uH (i:=1+k) hE.ok h1k wL hfw (hdat.cons.cons) hoff AO;rw[←hcast]at hw;clear AO hpre hS hS5 hfw hE hcast iW zF wL;go_wp2_with(go_at_call 138;refine hw.mono ?_;rintro e w9 ⟨rfl,h9⟩);(refine jK (be:=be) rfl (Sep.bZ [0,2,1] h9 (by decide) (by simp)) fun w' hw'=>?_);exact hfin.out E [aQ u8 (zD ps)] _ _ _ w' hpre'.out hE'.out.run hoff hw'
   |false=>have hw:=oV (i:=1+k) hE.ok h1k wL hfw (hdat.cons.cons) hoff AO;rw[←hcast]at hw;have hE2:=Lh (hE.wr hoff h1k wL);clear AO hpre hS hS5 hfw hE hcast iW zF wL;go_wp2_with(go_at_call 138;refine hw.mono ?_;rintro e w9 ⟨rfl,h9⟩);refine⟨⟨k+1,by omega,rfl,Lh ⟨_,?_,h9⟩⟩,by simp[intOf];omega⟩;rw[BL hkl,hbs];exact hE2.out
  (obtain rfl:n=k:=by omega);obtain⟨E,hE,hS5⟩:=hS.out;rw[List.take_of_length_le (by unfold iT;rw[List.length_map,List.length_zipIdx,XX.out];exact Nat.le_refl _)]at hE;clear hS iW hlt hk;have hE':=Lh hE;have hok:=hE.ok;(have ac6:0<nb:=by omega);cases hoff:E.off with
  |true=>have hf:=uI hok hoff hS5;clear hS5 hE hok;go_wp2_with(go_at_call 134;refine hf.mono ?_;rintro e w9 ⟨rfl,h9⟩);(refine jK (p:=p) (be:=be) rfl (Sep.bZ [0,2,1] h9 (by decide) (by simp)) fun w' hw'=>?_);exact hfin.out E [aQ u8 (zD ps)] _ _ none w' rfl hE'.out.run hoff hw'
  |false=>
  have hf:=nH hok hoff hS5;have hE2:=Lh (hE.fl hoff);clear hS5 hE hok;go_wp2_with(go_at_call 134;refine hf.mono ?_;rintro e w9 ⟨rfl,h9⟩);clear hf hE';have hints:=h9.ints 3 rfl;rw[alF]at hints;have hhd:=JI hints (by rw[List.length_map];have:=U3.out.few;omega) (by intro y hy;obtain⟨x,hx,rfl⟩:=List.mem_map.1 hy;have:=U3.out.put x hx;have:=hnb'.out;omega);clear hints;go_wp2_with(go_at_call 139;refine hhd.mono ?_;rintro e w10 ⟨u,rfl,hSu⟩);have kW:Sep w0 w10 (aD q p false::aJ p E.fl::aI be 0::aH u (dM (ps.map (·.1)))::R):=Sep.drop 1 (Sep.bZ [4,1,2,3,0] (h9.join hSu) (by decide) (by simp));have hlh:(dM (ps.map (·.1))).length=512:=lM (by rw[List.length_map];have:=U3.out.few;omega);clear hhd hSu h9;obtain⟨E2,auL⟩:∃E2,E.fl=E2:=⟨_,rfl⟩;rw[auL]at hE2 kW;have hok2:=hE2.out.ok;(have hfw2:E2.back.length<65536:=by have:=hE2.out.back;omega);cases JG:E2.off with
  |true=>have hf:=uH (i:=0) hok2 ac6 hlh hfw2 (iB.part 1 rfl) JG kW;clear kW hok2 hfw2 hlh;go_wp2_with(go_at_call 138;refine hf.mono ?_;rintro e w11 ⟨rfl,h11⟩);(refine jK (p:=p) (be:=be) rfl (Sep.bZ [0,2,1] h11 (by decide) (by simp)) fun w' hw'=>?_);exact hfin.out E2 [aH u (dM (ps.map (·.1)))] (iT ps++[none]) (none::(eT ps++[none,some (0,dM []),none])) (some (0,dM (ps.map (·.1)))) w' (by simp[bD]) hE2.out.run JG hw'
  |false=>
  have hf:=oV (i:=0) hok2 ac6 hlh hfw2 (iB.part 1 rfl) JG kW;have xE:=Lh (hE2.out.wr JG ac6 hlh);clear kW hok2 hfw2 hlh;go_wp2_with(go_at_call 138;refine hf.mono ?_;rintro e w11 ⟨rfl,h11⟩);clear hf hE2;have rR:Sep w0 w11 (aD q p false::aJ p (E2.wr 0 (dM (ps.map (·.1))))::aI be 0::R):=Sep.drop 1 (Sep.bZ [3,0,1,2] h11 (by decide) (by simp));obtain⟨E3,auM⟩:∃E3,E2.wr 0 (dM (ps.map (·.1)))=E3:=⟨_,rfl⟩;rw[auM]at xE rR;clear h11 auM auL;have alH:=xE.out.ok;cases ZI:E3.off with
  |true=>have hf:=uI alH ZI rR;clear rR alH;go_wp2_with(go_at_call 134;refine hf.mono ?_;rintro e w12 ⟨rfl,h12⟩);(refine jK (p:=p) (be:=be) rfl (Sep.bZ [0,2,1] h12 (by decide) (by simp)) fun w' hw'=>?_);exact hfin.out E3 [] (iT ps++[none]++[some (0,dM (ps.map (·.1)))]) (eT ps++[none,some (0,dM []),none]) none w' (by simp[bD]) xE.out.run ZI hw'
  |false=>
  have hf:=nH alH ZI rR;have BK:=Lh (xE.out.fl ZI);clear rR alH;go_wp2_with(go_at_call 134;refine hf.mono ?_;rintro e w12 ⟨rfl,h12⟩);clear hf xE;have BZ:Hid (∃E,yF nb D E (iT ps++[none]++[some (0,dM (ps.map (·.1)))]++[none]) (0+0)∧Sep w0 w12 (aD q p false::aJ p E::aI be 0::R)):=Lh ⟨_,BK.out,h12⟩;obtain⟨XS,hXS⟩:∃XS,XS=iT ps++[none]++[some (0,dM (ps.map (·.1)))]++[none]:=⟨_,rfl⟩;rw[←hXS]at BZ;have aiB:=Lh hXS;clear h12 BK hXS;go_loopw[96] (fun i wr=>∃k:Nat,k≤n∧i= .int .i64 k∧Hid (∃E,yF nb D E (XS++(eT ps).take k) (0+k)∧Sep w0 wr (aD q p false::aJ p E::aI be 0::R))) (fun i _=>n-(intOf i).toNat)
  case atStart=>exact⟨0,Nat.zero_le _,rfl,by rw[List.take_zero,List.append_nil];exact BZ⟩
  obtain⟨k,hk,rfl,hS⟩:=hrel;by_cases hlt:k<n
  ·(have hkl:k<ps.length:=by rw[XX.out];exact hlt);obtain⟨E4,BK,hS5⟩:=hS.out;obtain⟨c0,c1⟩:=hin'.out.cell wr [_,_,_] hS5 k hlt;obtain⟨zF,wL⟩:=ZH.out k hlt;have hdat:=hin'.out.data k hlt;obtain⟨Au,cu,hu⟩:=hin'.out.form _ (List.getElem_mem (show k<us.length by rw[hin'.out.alE];exact hlt));rw[hu]at c1 hdat;obtain⟨a,ha⟩:∃a,ps[k].1=a:=⟨_,rfl⟩;obtain⟨bs,hbs⟩:∃bs,ps[k].2=bs:=⟨_,rfl⟩;rw[ha]at c0 zF;rw[hbs]at hdat wL;have AO:=hS5.alloc (.cells #[.int .i64 (a:Nat),.slice Au 512 cu] 190);have hpre:bD ps=(XS++(eT ps).take k)++some (96+a,bs)::((eT ps).drop (k+1)++[none,some (0,dM []),none]):=by
    have h1:=BN hkl;rw[hbs,ha]at h1;have h2:eT ps=(eT ps).take k++some (96+a,bs)::(eT ps).drop (k+1):=by
     conv=>lhs;rw[←List.take_append_drop (k+1) (eT ps),h1]
     simp
    unfold bD
    conv=>lhs;rw[h2]
    rw[aiB.out];simp
   (have hfw:E4.back.length<65536:=by have:=BK.back;have:=U3.out.few;omega);have hpre':=Lh hpre;have aoL:=Lh AO;have hE':=Lh BK;(have hcast:(96:Int)+(a:Int)=((96+a:Nat):Int):=by omega);(have q1:(k:Int)<n:=by omega);(have q0:(0:Int)≤k:=by omega);(have q2:(a:Int)≤4096:=by have:=hnb'.out;omega);cases BO:E4.off with
   |true=>have hw:=uH (i:=96+a) BK.ok zF wL hfw (hdat.cons) BO AO;rw[←hcast]at hw;clear AO hpre hS hS5 hfw BK hcast BZ zF wL;go_wp2_with(go_at_call 138;refine hw.mono ?_;rintro e w9 ⟨rfl,h9⟩);(refine jK (p:=p) (be:=be) rfl (Sep.bZ [0,2,1] h9 (by decide) (by simp)) fun w' hw'=>?_);exact hfin.out E4 [] _ _ _ w' hpre'.out hE'.out.run BO hw'
   |false=>have hw:=oV (i:=96+a) BK.ok zF wL hfw (hdat.cons) BO AO;rw[←hcast]at hw;have hE2:=Lh (BK.wr BO zF wL);clear AO hpre hS hS5 hfw BK hcast BZ zF wL;go_wp2_with(go_at_call 138;refine hw.mono ?_;rintro e w9 ⟨rfl,h9⟩);refine⟨⟨k+1,by omega,rfl,Lh ⟨_,?_,h9⟩⟩,by simp[intOf];omega⟩;rw[BN hkl,hbs,ha,←List.append_assoc];exact hE2.out
  (obtain rfl:n=k:=by omega);obtain⟨E4,BK,hS5⟩:=hS.out;rw[List.take_of_length_le (by unfold eT;rw[List.length_map,XX.out];exact Nat.le_refl _)]at BK;have auN:=Lh BK;clear hS BZ hlt hk;have alI:=BK.ok;cases BO:E4.off with
  |true=>have hf:=uI alI BO hS5;clear hS5 alI BK;go_wp2_with(go_at_call 134;refine hf.mono ?_;rintro e w12 ⟨rfl,h12⟩);(refine jK (p:=p) (be:=be) rfl (Sep.bZ [0,2,1] h12 (by decide) (by simp)) fun w' hw'=>?_);exact hfin.out E4 [] (XS++eT ps) ([some (0,dM []),none]) none w' (by rw[aiB.out];simp[bD]) auN.out.run BO hw'
  |false=>
  have hf:=nH alI BO hS5;have uZ:=Lh (BK.fl BO);clear hS5 alI BK auN;go_wp2_with(go_at_call 134;refine hf.mono ?_;rintro e w13 ⟨rfl,h13⟩);clear hf;have hhd:=JI (w:=w13) (v:=.slice none 0 0) (ps:=[]) ⟨rfl,none,0,rfl,Nat.le_refl _,Nat.zero_le _,fun h=>absurd h (Nat.lt_irrefl _)⟩ (by decide) (by simp);go_wp2_with(go_at_call 139;refine hhd.mono ?_;rintro e w14 ⟨u,rfl,hSu⟩);have kW:Sep w0 w14 (aD q p false::aJ p E4.fl::aI be 0::aH u (dM [])::R):=Sep.bZ [1,2,3,0] (h13.join hSu) (by decide) (by simp);have hlh:(dM []).length=512:=lM (by decide);clear hhd hSu h13;obtain⟨E5,auO⟩:∃E5,E4.fl=E5:=⟨_,rfl⟩;rw[auO]at uZ kW;clear auO;have alJ:=uZ.out.ok;(have alK:E5.back.length<65536:=by have:=uZ.out.back;omega);cases ZJ:E5.off with
  |true=>have hf:=uH (i:=0) alJ ac6 hlh alK (iB.part 1 rfl) ZJ kW;clear kW alJ alK hlh;go_wp2_with(go_at_call 138;refine hf.mono ?_;rintro e w11 ⟨rfl,h11⟩);(refine jK (p:=p) (be:=be) rfl (Sep.bZ [0,2,1] h11 (by decide) (by simp)) fun w' hw'=>?_);exact hfin.out E5 [aH u (dM [])] (XS++eT ps++[none]) [none] (some (0,dM [])) w' (by rw[aiB.out];simp[bD]) uZ.out.run ZJ hw'
  |false=>
  have hf:=oV (i:=0) alJ ac6 hlh alK (iB.part 1 rfl) ZJ kW;have JL:=Lh (uZ.out.wr ZJ ac6 hlh);clear kW alJ alK hlh;go_wp2_with(go_at_call 138;refine hf.mono ?_;rintro e w15 ⟨rfl,h15⟩);clear hf uZ;have rR:Sep w0 w15 (aD q p false::aJ p (E5.wr 0 (dM []))::aI be 0::R):=Sep.drop 1 (Sep.bZ [3,0,1,2] h15 (by decide) (by simp));obtain⟨E6,auP⟩:∃E6,E5.wr 0 (dM [])=E6:=⟨_,rfl⟩;rw[auP]at JL rR;clear h15 auP;have alL:=JL.out.ok;cases ZK:E6.off with
  |true=>have hf:=uI alL ZK rR;clear rR alL;go_wp2_with(go_at_call 134;refine hf.mono ?_;rintro e w12 ⟨rfl,h12⟩);(refine jK (p:=p) (be:=be) rfl (Sep.bZ [0,2,1] h12 (by decide) (by simp)) fun w' hw'=>?_);exact hfin.out E6 [] (XS++eT ps++[none]++[some (0,dM [])]) [] none w' (by rw[aiB.out];simp[bD]) JL.out.run ZK hw'
  |false=>
  have hf:=nH alL ZK rR;have UN:=Lh (JL.out.fl ZK);clear rR alL;go_wp2_with(go_at_call 134;refine hf.mono ?_;rintro e w16 ⟨rfl,h16⟩;have k1:=h16.bC 2 rfl 0;have k2:=h16.bF 2 rfl 0;simp only[gA,gB]at k1);refine lI ?_;have h17:Sep w0 (w16.setCell ⟨be,0,none⟩ (.int .i64 0)) (aD q p false::aJ p E6.fl::aI be 0::R):=h16.bS 2 rfl 0 (.int .i64 0);have ec:=h17.bC 2 rfl 0;simp only[gA,gB]at ec;(have hrun:iY (bD ps) D=(E6.fl,true):=by have:=UN.out.run;rw[aiB.out]at this;rw[←this];congr 1;simp[bD]);refine⟨.int .i64 0,?_,?_,?_⟩
  ·(have hr:Tryz.f144.results=#[.cell 4 39]:=by kernel_rfl);simp[results,hr,go_sem,ec]
  ·rw[hrun];rfl
  rw[hrun];exact Sep.drop 1 (Sep.bZ [2,0,1] h17 (by decide) (by simp))
end Go.Proofs.YteihmbaimbogaaaGreat
