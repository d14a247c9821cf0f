/- FyE, laid together. -/
import Derived.Test.YteihmbaimbogaaaGreatJ38
namespace Go.Proofs.YteihmbaimbogaaaGreat
open Go.RowKit
set_option linter.unusedVariables false
set_option linter.unusedSimpArgs false
def mntB (c:Blks) (k:Nat):Int:=sumN (fun n=>wghB (inoP c n).kind (inoP c n).size) k
def mntI (c:Blks) (k:Nat):Int:=sumN (fun n=>wghI (inoP c n).kind) k
def mntD (c:Blks):Nat→Nat
 |0=>0
 |k+1=>if(inoP c k).kind=1 then mntD c k+(inoP c k).size else mntD c k
theorem mntB_le {c:Blks} {N k:Nat} (h:∀n<N,(inoP c n).size≤65535) (hk:k≤N):0≤mntB c k∧mntB c k≤4100*k:=by
 induction k with
 |zero=>exact⟨by show(0:Int)≤0;decide,by show(0:Int)≤0;decide⟩
 |succ k ih=>have h1:=ih (by omega);have h2:=wghB_le (kind:=(inoP c k).kind) (h k (by omega));unfold mntB at*;rw[sumN_succ];omega
theorem mntI_le {c:Blks} (k:Nat):0≤mntI c k∧mntI c k≤k:=by
 induction k with
 |zero=>exact⟨by show(0:Int)≤0;decide,by show(0:Int)≤0;decide⟩
 |succ k ih=>have h2:=wghI_le (kind:=(inoP c k).kind);unfold mntI at*;rw[sumN_succ];omega
theorem mntD_le {c:Blks} {N k:Nat} (h:∀n<N,(inoP c n).size≤65535) (hk:k≤N):mntD c k≤65535*k:=by
 induction k with
 |zero=>exact Nat.le_refl _
 |succ k ih=>have h1:=ih (by omega);have h2:=h k (by omega);unfold mntD;split<;>omega
def VS.bare (nb:Nat) (D:DK):VS:=⟨nb,0,D,D.now.drop 96,0,0,0,0,0,0⟩
def VS.mnt (nb N:Nat) (D:DK) (k:Nat):VS:=⟨nb,N,D,D.now.drop 96,mntB (D.now.drop 96) k,mntI (D.now.drop 96) k,mntD (D.now.drop 96) k,(nb-96-(2+(N+7)/8):Nat),N,0⟩
structure MntOk (nb N:Nat) (D:DK):Prop where
 dok:D.ok nb
 on:D.off=false
 back:D.back=[]
 n2:N≤1024
 room:98+(N+7)/8<nb
 mark:(bk D.now 96).take 16=volMark
 names:r2 (bk D.now 96) 16=N
 spots:∀n<N,(inoP (D.now.drop 96) n).spots.length≤28
 size:∀n<N,(inoP (D.now.drop 96) n).size≤65535
 kind:∀n<N,(inoP (D.now.drop 96) n).kind≤255
theorem MntOk.bare {nb N fb:Nat} {D:DK} (h:MntOk nb N D):VC (VS.bare nb D) ⟨none,[],fb,[]⟩:=
 ⟨h.dok,by have:=h.room;show 96<nb;omega,h.on,h.dok.now.drop 96,fun x hx=>absurd hx List.not_mem_nil,fun x hx=>absurd hx List.not_mem_nil,fun k hk _=>by(show bk (D.now.drop 96) k=_);rw[bk_drop,Nat.add_comm];rfl,Nat.le_refl _,fun _=>rfl⟩
theorem VC.same {S S':VS} {a:VA} (h:VC S a) (h1:S'.nb=S.nb) (h2:S'.D=S.D) (h3:S'.cur=S.cur) (h4:S'.m=S.m):VC S' a:=by
 refine⟨?_,?_,?_,?_,?_,?_,?_,?_,h.none⟩
 ·rw[h1,h2];exact h.dok
 ·rw[h1];exact h.big
 ·rw[h2];exact h.on
 ·rw[h1,h3];exact h.cur
 ·rw[h1,h2];exact h.seen
 ·rw[h1,h3];exact h.fresh
 ·rw[h1,h2,h3];exact h.rest
 rw[h4];exact h.few
section
variable {w0 w W:World} {R:List Asn}
theorem Sep.vol_cell {f q p:Nat} {S S':VS} {a:VA} (h:Sep w0 w (volR f q p S a::R)) (j:Nat) (u:Value) (hD:S'.D=S.D)
  (hc:(#[.pointer (some ⟨q,0,none⟩),.map a.sb,.map (some a.fb),.int .i64 S.names,.bool false,cplx S.wB S.wI,.int .i64 S.nodes,cplx S.rB S.rI]:Array Value).setIfInBounds j u=#[.pointer (some ⟨q,0,none⟩),.map a.sb,.map (some a.fb),.int .i64 S'.names,.bool false,cplx S'.wB S'.wI,.int .i64 S'.nodes,cplx S'.rB S'.rI]):
  Sep w0 (w.setCell ⟨f,j,none⟩ u) (volR f q p S' a::R):=by
 have h1:=h.starL_open.bS 0 rfl j u;have h2:Sep w0 (w.setCell ⟨f,j,none⟩ u) (volP f q p S' a++R):=by rw[hc]at h1;unfold volP fsB;rw[hD];exact h1
 exact h2.starL_shut
noncomputable def mountFrom (k:Nat):Code:=(Tryz.f33.body.bind (fromR k)).getD .skip
set_option maxRecDepth 100000 in
set_option maxHeartbeats 8000000 in
theorem mount_tail {p nb N F bf be q fb:Nat} {D:DK} {u1 u5 u6 u7 u8 u9 u10 u11 u12 u13 u14 u15 u16 u17 u18 u19 u20 u21 u22 u23 u24 u25 u26 u27 u28 u29 u30 u31 u32 u33 u34 u35 u36 u37 u38 u39 u40 u41 u42 u43 u44 u45 u46 u47 u48 u49 u50 u51 u52 u53 u54 u55 u56 u57 u58 u59 u60 u61 u62 u63 u64 u65 u66 u67 u68 u69 u70 u71 u72 u73 u74 u75 u76 u77 u78 u79 u80 u81 u82 u83 u84 u85 u86 u87 u88 u89 u90 u91 u92 u93 u94 u95 u96 u97 u98 u99 u100 u101 u102 u103 u104 u105 u106 u107 u108 u109 u110 u111 u112 u113 u114 u115 u116 u117 u118 u119 u120 u121 u122 u123 u124 u125:Value} (hM:MntOk nb N D) (hW:Sep w0 W (volR F q p (VS.bare nb D) ⟨none,[],fb,[]⟩::errBox be 0:: .box bf 24 #[.pointer (some ⟨F,0,none⟩)]::R)):
  (mountFrom 9).wp Tryz.prog (bodyPostD Tryz.prog Tryz.f33 (fun e w'=>∃f q,e= .returned (.tuple #[.pointer (some ⟨f,0,none⟩),.int .i64 0])∧Sep w0 w' (restR f q p (VS.mnt nb N D N)::R))) {tmps:=#[.pointer (some ⟨p,0,none⟩),u1,.pointer (some ⟨bf,0,none⟩),.pointer (some ⟨be,0,none⟩),.pointer (some ⟨q,0,none⟩),u5,u6,u7,u8,u9,u10,u11,u12,u13,u14,u15,u16,u17,u18,u19,u20,u21,u22,u23,u24,u25,u26,u27,u28,u29,u30,u31,u32,u33,u34,u35,u36,u37,u38,u39,u40,u41,u42,u43,u44,u45,u46,u47,u48,u49,u50,u51,u52,u53,u54,u55,u56,u57,u58,u59,u60,u61,u62,u63,u64,u65,u66,u67,u68,u69,u70,u71,u72,u73,u74,u75,u76,u77,u78,u79,u80,u81,u82,u83,u84,u85,u86,u87,u88,u89,u90,u91,u92,u93,u94,u95,u96,u97,u98,u99,u100,u101,u102,u103,u104,u105,u106,u107,u108,u109,u110,u111,u112,u113,u114,u115,u116,u117,u118,u119,u120,u121,u122,u123,u124,u125],defers:=[{target:=.fn (.func 41) #[],args:=#[.pointer (some ⟨F,0,none⟩),.pointer (some ⟨be,0,none⟩)]},{target:=.fn (.func 77) #[.pointer (some ⟨be,0,none⟩),.pointer (some ⟨bf,0,none⟩)],args:=#[]}]} W:=by
 obtain⟨Z,hZ⟩:∃Z,Z=errBox be 0:: .box bf 24 #[.pointer (some ⟨F,0,none⟩)]::R:=⟨_,rfl⟩;have hcz:Hid (∀W Y,Sep w0 W (Y++Z)→W.cell? ⟨bf,0,none⟩=some (.pointer (some ⟨F,0,none⟩))):=Lh fun W Y hW=>by rw[hZ]at hW;exact hW.box_in 1 rfl 0
 rw[←hZ]at hW;have hC0:VC (VS.bare nb D) ⟨none,[],fb,[]⟩:=hM.bare;have hroom:=hM.room;have hn2:=hM.n2;have hgt:=get_blk (i:=0) hC0 (by show 0<nb-96;omega) hW;have hbk0:bk (VS.bare nb D).cur 0=bk D.now 96:=by(show bk (D.now.drop 96) 0=_);rw[bk_drop]
 have hbl:(bk D.now 96).length=512:=bk_len hM.dok.now (by omega)
 --behind get
 have hg2:Hid (∀w9 v a',Reads (VS.bare nb D) ⟨none,[],fb,[]⟩ a'→Got F q p (VS.bare nb D) a' 0 v w0 w9 Z→∃g c,v= .slice (some ⟨g,0,none⟩) 512 c∧512≤c∧(convert 35 9 (.slice (some ⟨g,0,none⟩) 16 c)).run Tryz.prog w9= .ok (.string ⟨#[115,104,117,110,116,45,118,111,108,117,109,101,45,49,33,10]⟩) w9∧
   w9.cell? ⟨bf,0,none⟩=some (.pointer (some ⟨F,0,none⟩))∧(Calls Tryz.prog 80 #[.slice (some ⟨g,0,none⟩) 512 c,.int .i64 16] w9.drew fun e w'=>e= .returned (.int .i64 N)∧∃n,w'=w9.drew.drewN n)∧VC (VS.bare nb D) a'∧Sep w0 w9 (volR F q p (VS.bare nb D) a'::Z)):=Lh fun w9 v a' hR hG=>by
  have h1:=hG.out;rw[hbk0]at h1;obtain⟨g,c,rfl,_,_,hc,_⟩:=h1.sl_form 0 rfl (by rw[hbl];decide);rw[hbl]at hc;(have hb:BytesAt w9 (.slice (some ⟨g,0,none⟩) 512 c) (bk D.now 96):=by have:=h1.rd 0 rfl;rw[hbl]at this;unfold BytesAt;rw[hbl];exact this);refine⟨g,c,by rw[hbl],hc,?_,hcz.out w9 [_] hG.vol,?_,hR.ok,hG.vol⟩
  ·have:=conv_bytesV (hb.sub (o:=0) (m:=16) (by omega));rw[List.drop_zero,hM.mark]at this;exact this
  have hb2:BytesAt w9.drew (.slice (some ⟨g,0,none⟩) 512 c) (bk D.now 96):=hb.below (Below.refl _ _).drew;have:=read2_any (i:=16) hb2 (by omega) (by omega);rw[hM.names]at this;exact this
 have hVF:VF (VS.mnt nb N D 0):=⟨hn2,by show 96+(2+(N+7)/8)<nb;omega⟩;have hc0:=hcz.out W [_] hW
 --the number of inodes
 have hnm:Hid (∀w9 a',VC (VS.bare nb D) a'→Sep w0 w9 (volR F q p (VS.bare nb D) a'::Z)→w9.frozen? ⟨F,3,none⟩=false∧w9.cell? ⟨F,3,none⟩=some (.int .i64 0)∧∀S',S'= {VS.bare nb D with names:=N}→VC S' a'∧Sep w0 (w9.setCell ⟨F,3,none⟩ (.int .i64 N)) (volR F q p S' a'::Z)):=Lh fun w9 a' hC h9=>
  ⟨h9.starL_open.bF 0 rfl 3,h9.starL_open.bC 0 rfl 3,fun S' e=>by subst e;exact⟨hC.same rfl rfl rfl rfl,h9.vol_cell (S':= {VS.bare nb D with names:=N}) 3 (.int .i64 N) rfl rfl⟩⟩
 clear hC0 hbk0 hbl hW;unfold mountFrom
 conv=>arg 2;whnf
 go_wp2_with fail;go_at_call 79;refine hgt.mono ?_;rintro e w9 ⟨v,a',rfl,hR,hG⟩;obtain⟨g,c,rfl,hc512,hcv,hcb,hrd,hC9,h9⟩:=hg2.out _ _ _ hR hG;have hc16:(16:Int)≤(c:Int):=by omega
 clear hR hG hgt hg2 hc0;go_wp2_with fail;have hc12:=hcz.out _ [_] h9.drew;refine wp_noPanic ?_;refine wp_region_E (S:=fun w'=>w'.cell? ⟨bf,0,none⟩=some (.pointer (some ⟨F,0,none⟩))) 9 (by kernel_rfl) ?_;simp only[List.size_toArray,List.length_cons,List.length_nil,Nat.reduceAdd];refine wpE_tk (i:=0) (v:=?_) hc12 rfl ?_ ?_;rotate_left
 ·rintro w e1;go_simp;try with_reducible rfl
 simp only[Act.put,gD];refine wpE_tk (i:=1) (v:=?_) hc12 rfl ?_ ?_;rotate_left
 ·rintro w e1;go_simp;try with_reducible rfl
 simp only[Act.put,gD];refine wpE_one (i:=2) (by kernel_rfl) rfl (fun K hK=>?_);go_simp;go_at_call 80;refine hrd.mono ?_;rintro e w8 ⟨rfl,n8,h8⟩;obtain rfl:=h8.symm;have h10:=Lh (h9.drew.drewN n8);have hc13:=hcz.out _ [_] h10.out;obtain⟨f3,c3,hst3⟩:=hnm.out _ _ hC9 h10.out;clear h9 hrd hc12 hcb hcv hnm;dsimp only;refine hK _ _ (fun _=>hc13) ?_;clear hK K;try simp only[Act.put,gD]
 obtain⟨w10,hw10⟩:∃w10,w10=w9.drew.drewN n8:=⟨_,rfl⟩;rw[←hw10]at h10 hc13 f3 c3 hst3 ⊢;clear hw10;refine wpE_tk (i:=3) (v:=?_) hc13 rfl ?_ ?_;rotate_left
 ·rintro w e1;go_simp;try with_reducible rfl
 simp only[Act.put,gD];refine wpE_tk (i:=4) (v:=?_) hc13 rfl ?_ ?_;rotate_left
 ·rintro w e1;go_simp;try with_reducible rfl
 simp only[Act.put,gD];refine wpE_tk (i:=5) (v:=?_) hc13 rfl ?_ ?_;rotate_left
 ·rintro w e1;go_simp;try with_reducible rfl
 simp only[Act.put,gD];refine wpE_tk (i:=6) (v:=?_) hc13 rfl ?_ ?_;rotate_left
 ·rintro w e1;go_simp;try with_reducible rfl
 simp only[Act.put,gD];refine wpE_tk (i:=7) (v:=?_) hc13 rfl ?_ ?_;rotate_left
 ·rintro w e1;go_simp;try with_reducible rfl
 simp only[Act.put,gD];obtain⟨S1,hS1⟩:∃S1:VS,S1= {VS.bare nb D with names:=N}:=⟨_,rfl⟩;obtain⟨hC1,h11⟩:=hst3 S1 hS1;have hc14:=hcz.out _ [_] h11;replace h11:=Lh h11;clear hst3;refine wpE_one (i:=8) (by kernel_rfl) rfl (fun K hK=>?_);go_simp;refine hK _ _ (fun _=>hc14) ?_;clear hK K;try simp only[Act.put,gD]
 refine wpE_done (by kernel_rfl) ?_ _;simp only[noPanic];clear f3 c3 hc13 h10 hC9;obtain⟨w11,hw11⟩:∃w11,w11=w10.setCell ⟨F,3,none⟩ (.int .i64 N):=⟨_,rfl⟩;rw[←hw11]at h11 hc14 ⊢;clear hw11;have hVF1:VF S1:=by rw[hS1];exact⟨hVF.names,hVF.room⟩
 have hct:=count_any hC1 hVF1 h11.out;obtain⟨M,hM1⟩:∃M,M=S1.count:=⟨_,rfl⟩;rw[←hM1]at hct;have hMv:M=nb-96-(2+(N+7)/8):=by rw[hM1,hS1];rfl
 have hM0:(1:Int)≤M:=by omega
 have hM4:(M:Int)≤4096:=by have:=hM.dok.few;omega
 have hct':=Lh hct;clear hct hM1;go_wp2_with(go_at_call 81;refine hct'.out.mono ?_;rintro e w7 ⟨rfl,h7⟩;obtain rfl:=h7.symm)
 --the room
 have hE15:(w11.drew.cell? ⟨bf,0,none⟩=some (.pointer (some ⟨F,0,none⟩))∧w11.drew.cell? ⟨F,3,none⟩=some (.int .i64 N)):=⟨hcz.out _ [_] h11.out.drew,by have:=h11.out.drew.starL_open.bC 0 rfl 3;rw[hS1]at this;exact this⟩;have h12:=Lh h11.out.drew;have hct12:=count_any hC1 hVF1 h12.out;rw[show S1.count=M by rw[hMv,hS1];rfl]at hct12;have f7:=h12.out.starL_open.bF 0 rfl 7;have c7:=h12.out.starL_open.bC 0 rfl 7;have c7':w11.drew.cell? ⟨F,7,none⟩=some (.complex .f64 (fI 0) (fI 0)):=by rw[hS1]at c7;exact c7
 have hst7:=fun x y=>store_cx x y c7' f7
 have hC2:VC (VS.mnt nb N D 0) a':=hC1.same (by rw[hS1];rfl) (by rw[hS1];rfl) (by rw[hS1];rfl) (by rw[hS1];rfl);have h13:Hid (Sep w0 (w11.drew.setCell ⟨F,7,none⟩ (cplx M N)) (volR F q p (VS.mnt nb N D 0) a'::Z)):=Lh (h12.out.vol_cell (S':=VS.mnt nb N D 0) 7 (cplx M N) (by rw[hS1];rfl) (by rw[hS1,hMv];rfl));have hE16:((w11.drew.setCell ⟨F,7,none⟩ (cplx M N)).cell? ⟨bf,0,none⟩=some (.pointer (some ⟨F,0,none⟩))∧(w11.drew.setCell ⟨F,7,none⟩ (cplx M N)).cell? ⟨F,3,none⟩=some (.int .i64 N)):=⟨hcz.out _ [_] h13.out,h13.out.starL_open.bC 0 rfl 3⟩;have hMv':=Lh hMv;clear c7 c7' hct' h11 hc14 hMv hS1;refine wp_noPanic ?_;refine wp_region_E (S:=fun w'=>w'.cell? ⟨bf,0,none⟩=some (.pointer (some ⟨F,0,none⟩))∧w'.cell? ⟨F,3,none⟩=some (.int .i64 N)) 20 (by kernel_rfl) ?_;simp only[List.size_toArray,List.length_cons,List.length_nil,Nat.reduceAdd];obtain⟨w12,hw12⟩:∃w12,w12=w11.drew:=⟨_,rfl⟩;rw[←hw12]at hE15 h12 hct12 f7 hst7 h13 hE16 ⊢;clear hw12 h12;refine wpE_tk (i:=0) (v:=?_) hE15 rfl ?_ ?_;rotate_left
 ·rintro w ⟨e1,e2⟩;go_simp;try with_reducible rfl
 simp only[Act.put,gD];refine wpE_tk (i:=1) (v:=?_) hE15 rfl ?_ ?_;rotate_left
 ·rintro w ⟨e1,e2⟩;go_simp;try with_reducible rfl
 simp only[Act.put,gD];refine wpE_tk (i:=2) (v:=?_) hE15 rfl ?_ ?_;rotate_left
 ·rintro w ⟨e1,e2⟩;go_simp;try with_reducible rfl
 simp only[Act.put,gD];refine wpE_tk (i:=3) (v:=?_) hE15 rfl ?_ ?_;rotate_left
 ·rintro w ⟨e1,e2⟩;go_simp;try with_reducible rfl
 simp only[Act.put,gD];refine wpE_tk (i:=4) (v:=?_) hE15 rfl ?_ ?_;rotate_left
 ·rintro w ⟨e1,e2⟩;go_simp;try with_reducible rfl
 simp only[Act.put,gD];refine wpE_tk (i:=5) (v:=?_) hE15 rfl ?_ ?_;rotate_left
 ·rintro w ⟨e1,e2⟩;go_simp;try with_reducible rfl
 simp only[Act.put,gD];refine wpE_tk (i:=8) (v:=?_) hE15 rfl ?_ ?_;rotate_left
 ·rintro w ⟨e1,e2⟩;go_simp;try with_reducible rfl
 simp only[Act.put,gD];refine wpE_tk (i:=9) (v:=?_) hE15 rfl ?_ ?_;rotate_left
 ·rintro w ⟨e1,e2⟩;go_simp;try with_reducible rfl
 simp only[Act.put,gD];refine wpE_tk (i:=10) (v:=?_) hE15 rfl ?_ ?_;rotate_left
 ·rintro w ⟨e1,e2⟩;go_simp;try with_reducible rfl
 simp only[Act.put,gD];refine wpE_tk (i:=11) (v:=?_) hE15 rfl ?_ ?_;rotate_left
 ·rintro w ⟨e1,e2⟩;go_simp;try with_reducible rfl
 simp only[Act.put,gD];refine wpE_tk (i:=12) (v:=?_) hE15 rfl ?_ ?_;rotate_left
 ·rintro w ⟨e1,e2⟩;go_simp;try with_reducible rfl
 simp only[Act.put,gD];refine wpE_tk (i:=13) (v:=?_) hE15 rfl ?_ ?_;rotate_left
 ·rintro w ⟨e1,e2⟩;go_simp;try with_reducible rfl
 simp only[Act.put,gD];refine wpE_tk (i:=14) (v:=?_) hE15 rfl ?_ ?_;rotate_left
 ·rintro w ⟨e1,e2⟩;go_simp;try with_reducible rfl
 simp only[Act.put,gD];refine wpE_tk (i:=15) (v:=?_) hE15 rfl ?_ ?_;rotate_left
 ·rintro w ⟨e1,e2⟩;go_simp;try with_reducible rfl
 simp only[Act.put,gD];refine wpE_one (i:=6) (by kernel_rfl) rfl (fun K hK=>?_);go_simp;go_at_call 81;refine hct12.mono ?_;rintro e w7 ⟨rfl,h7⟩;obtain rfl:=h7.symm;dsimp only;refine hK _ _ (fun _=>hE15) ?_;clear hK K;try simp only[Act.put,gD]
 refine wpE_one (i:=7) (by kernel_rfl) rfl (fun K hK=>?_);go_simp;try dsimp only
 refine hK _ _ (fun _=>hE15) ?_;clear hK K;try simp only[Act.put,gD]
 refine wpE_one (i:=16) (by kernel_rfl) rfl (fun K hK=>?_);go_simp;try dsimp only
 refine hK _ _ (fun _=>hE15) ?_;clear hK K;try simp only[Act.put,gD]
 refine wpE_one (i:=17) (by kernel_rfl) rfl (fun K hK=>?_);go_simp;try dsimp only
 refine hK _ _ (fun _=>hE15) ?_;clear hK K;try simp only[Act.put,gD]
 refine wpE_one (i:=18) (by kernel_rfl) rfl (fun K hK=>?_);go_simp;try dsimp only
 refine hK _ _ (fun _=>hE15) ?_;clear hK K;try simp only[Act.put,gD]
 refine wpE_one (i:=19) (by kernel_rfl) rfl (fun K hK=>?_);go_simp;have hfo:∀z:Int,floatOfInt FloatKind.f64 z=fI z:=fun _=>rfl
 rw[hfo,hfo];refine hK _ _ (fun _=>hE16) ?_;clear hK K;try simp only[Act.put,gD]
 refine wpE_done (by kernel_rfl) ?_ _;simp only[noPanic];obtain⟨w13,hw13⟩:∃w13,w13=w12.setCell ⟨F,7,none⟩ (.complex .f64 (fI (M:Int)) (fI (N:Int))):=⟨_,rfl⟩;have h14:Hid (Sep w0 w13 (volR F q p (VS.mnt nb N D 0) a'::Z)):=by rw[hw13];exact h13
 rw[←hw13];clear hw13 h13 hE16 hst7 f7 hct12 hE15;have hc16:=hcz.out _ [_] h14.out;have hn3:w13.cell? ⟨F,3,none⟩=some (.int .i64 N):=h14.out.starL_open.bC 0 rfl 3;have hN3:(N:Int)≤1024:=by omega
 go_wp2_with fail;clear hn3 hc16;go_loopw[86] (fun iv wr=>∃(k:Nat) (a2:VA),iv= .int .i64 k∧k≤N∧VC (VS.mnt nb N D k) a2∧Hid (Sep w0 wr (volR F q p (VS.mnt nb N D k) a2::Z))) (fun iv _=>N-(intOf iv).toNat)
 case atStart=>exact⟨0,a',rfl,Nat.zero_le _,hC2,h14⟩
 clear h14 hC2;obtain⟨k,a2,rfl,hk,hC,hS⟩:=hrel;have hc0:=hcz.out _ [_] hS.out;by_cases hlt:k<N
 ·obtain⟨c,hcd⟩:∃c,c=D.now.drop 96:=⟨_,rfl⟩;have hVFk:VF (VS.mnt nb N D k):=⟨hVF.names,hVF.room⟩;have hin:=inode_any (n:=k) hC hVFk hlt (hM.spots k hlt) hS.out;obtain⟨x,hx⟩:∃x,x=inoP (VS.mnt nb N D k).cur k:=⟨_,rfl⟩;rw[←hx]at hin;(have hxs:x.size≤65535:=by rw[hx];exact hM.size k hlt);(have hxk:x.kind≤255:=by rw[hx];exact hM.kind k hlt);have hin':Hid (Calls Tryz.prog 64 #[.pointer (some ⟨F,0,none⟩),.int .i64 k] wr fun e w'=>∃A n c a',e= .returned (.agg #[.int .i64 (x.kind:Nat),.int .i64 (x.mode:Nat),.int .i64 (x.links:Nat),.int .i64 (x.size:Nat),.slice A n c])∧VC (VS.mnt nb N D k) a'∧Sep w0 w' (volR F q p (VS.mnt nb N D k) a'::Z)):=Lh (hin.mono fun e w' ⟨v,a',h1,h2,h3⟩=>by obtain⟨A,c,rfl,_⟩:=h3.sl_any 0 rfl;exact⟨A,_,c,a',h1,h2.ok,h3.drop 1⟩);(have hwg:Hid (∀W A n c,Calls Tryz.prog 82 #[.agg #[.int .i64 (x.kind:Nat),.int .i64 (x.mode:Nat),.int .i64 (x.links:Nat),.int .i64 (x.size:Nat),.slice A n c]] W fun e w'=>e= .returned (cplx (wghB x.kind x.size) (wghI x.kind))∧Below W.heap.size W w'):=Lh fun W A n c=>weighs_any hxs hxk W);(have p1:(0:Int)≤(k:Int):=by omega);(have p2:(k:Int)<N:=by omega);have hB0:=mntB_le hM.size hk;have hB1:=mntB_le hM.size (show k+1≤N from hlt);have hI0:=mntI_le (c:=D.now.drop 96) k;have hI1:=mntI_le (c:=D.now.drop 96) (k+1);have hD0:=mntD_le hM.size hk;have hD1:=mntD_le hM.size (show k+1≤N from hlt);(have eB:mntB (D.now.drop 96) (k+1)=mntB (D.now.drop 96) k+wghB x.kind x.size:=by rw[hx];unfold mntB;rw[sumN_succ];rfl);(have eI:mntI (D.now.drop 96) (k+1)=mntI (D.now.drop 96) k+wghI x.kind:=by rw[hx];unfold mntI;rw[sumN_succ];rfl);(have eD:mntD (D.now.drop 96) (k+1)=if x.kind=1 then mntD (D.now.drop 96) k+x.size else mntD (D.now.drop 96) k:=by rw[hx];rfl);have hwB:=wghB_le (kind:=x.kind) hxs;have hwI:=wghI_le (kind:=x.kind);(have hcad:∀W,(binOp .add 44 (cplx (mntB (D.now.drop 96) k) (mntI (D.now.drop 96) k)) (cplx (wghB x.kind x.size) (wghI x.kind))).run Tryz.prog W= .ok (cplx (mntB (D.now.drop 96) (k+1)) (mntI (D.now.drop 96) (k+1))) W:=fun W=>by rw[eB,eI]at*;exact run_cadd _ _ _ _ _ (by unfold SmallI;omega) (by unfold SmallI;omega) (by unfold SmallI;omega) (by unfold SmallI;omega) (by unfold SmallI;omega) (by unfold SmallI;omega) W);have hx':=Lh hx;have eB':=Lh eB;have eI':=Lh eI;have eD':=Lh eD;obtain⟨B1,hBe⟩:∃B,B=mntB (D.now.drop 96) (k+1):=⟨_,rfl⟩;obtain⟨I1,hIe⟩:∃B,B=mntI (D.now.drop 96) (k+1):=⟨_,rfl⟩;obtain⟨B0,hBe0⟩:∃B,B=mntB (D.now.drop 96) k:=⟨_,rfl⟩;obtain⟨I0,hIe0⟩:∃B,B=mntI (D.now.drop 96) k:=⟨_,rfl⟩;obtain⟨D0,hDe0⟩:∃B,B=mntD (D.now.drop 96) k:=⟨_,rfl⟩;rw[←hBe,←hIe,←hBe0,←hIe0]at hcad;replace hcad:∀W,(binOp .add 44 (cplx B0 I0) (cplx (wghB x.kind x.size) (wghI x.kind))).run Tryz.prog W= .ok (.complex .f64 (fI B1) (fI I1)) W:=hcad;rw[←hDe0]at hD0;have hBe':=Lh hBe;have hIe':=Lh hIe;have hBe0':=Lh hBe0;have hIe0':=Lh hIe0;have hDe0':=Lh hDe0;clear hin hC hS hx eB eI eD hB0 hB1 hI0 hI1 hD1 hBe hIe hBe0 hIe0 hDe0 hwB hwI;go_wp2_with(go_at_call 64;refine hin'.out.mono ?_;rintro e w9 ⟨Av,nv,cv,a3,rfl,hC3,h9⟩;have h10:=Lh (h9.bN 118 #[.int .i64 (x.kind:Nat),.int .i64 (x.mode:Nat),.int .i64 (x.links:Nat),.int .i64 (x.size:Nat),.slice Av nv cv]);clear h9 hin');obtain⟨w10,hw10⟩:∃w10,w10=w9.alloc (.cells #[.int .i64 (x.kind:Nat),.int .i64 (x.mode:Nat),.int .i64 (x.links:Nat),.int .i64 (x.size:Nat),.slice Av nv cv] 118):=⟨_,rfl⟩;obtain⟨bx,hbx⟩:∃b,b=w9.heap.size:=⟨_,rfl⟩;rw[←hw10,←hbx]at h10;rw[←hw10,←hbx];clear hw10 hbx;have hE:Hid (∀W,Sep w0 W (.box bx 118 #[.int .i64 (x.kind:Nat),.int .i64 (x.mode:Nat),.int .i64 (x.links:Nat),.int .i64 (x.size:Nat),.slice Av nv cv]::volR F q p (VS.mnt nb N D k) a3::Z)→
    W.cell? ⟨bf,0,none⟩=some (.pointer (some ⟨F,0,none⟩))∧W.cell? ⟨F,5,none⟩=some (cplx B0 I0)∧W.cell? ⟨bx,0,none⟩=some (.int .i64 (x.kind:Nat))∧W.cell? ⟨bx,1,none⟩=some (.int .i64 (x.mode:Nat))∧W.cell? ⟨bx,2,none⟩=some (.int .i64 (x.links:Nat))∧W.cell? ⟨bx,3,none⟩=some (.int .i64 (x.size:Nat))∧W.cell? ⟨bx,4,none⟩=some (.slice Av nv cv)):=Lh fun W hW=>by
   refine⟨hcz.out W [_,_] hW,?_,hW.bC 0 rfl 0,hW.bC 0 rfl 1,hW.bC 0 rfl 2,hW.bC 0 rfl 3,hW.bC 0 rfl 4⟩;rw[hBe0'.out,hIe0'.out];exact(hW.drop 1).starL_open.bC 0 rfl 5
  have hE20:=hE.out _ h10.out.drew;refine wp_noPanic ?_;refine wp_region_E (S:=fun W=>W.cell? ⟨bf,0,none⟩=some (.pointer (some ⟨F,0,none⟩))∧W.cell? ⟨F,5,none⟩=some (cplx B0 I0)∧W.cell? ⟨bx,0,none⟩=some (.int .i64 (x.kind:Nat))∧W.cell? ⟨bx,1,none⟩=some (.int .i64 (x.mode:Nat))∧W.cell? ⟨bx,2,none⟩=some (.int .i64 (x.links:Nat))∧W.cell? ⟨bx,3,none⟩=some (.int .i64 (x.size:Nat))∧W.cell? ⟨bx,4,none⟩=some (.slice Av nv cv)) 13 (by kernel_rfl) ?_;simp only[List.size_toArray,List.length_cons,List.length_nil,Nat.reduceAdd];refine wpE_tk (i:=0) (v:=?_) hE20 rfl ?_ ?_;rotate_left
  ·rintro w ⟨e1,e2,e3,e4,e5,e6,e7⟩;go_simp;try with_reducible rfl
  simp only[Act.put,gD];refine wpE_tk (i:=1) (v:=?_) hE20 rfl ?_ ?_;rotate_left
  ·rintro w ⟨e1,e2,e3,e4,e5,e6,e7⟩;go_simp;try with_reducible rfl
  simp only[Act.put,gD];refine wpE_tk (i:=2) (v:=?_) hE20 rfl ?_ ?_;rotate_left
  ·rintro w ⟨e1,e2,e3,e4,e5,e6,e7⟩;go_simp;try with_reducible rfl
  simp only[Act.put,gD];refine wpE_tk (i:=3) (v:=?_) hE20 rfl ?_ ?_;rotate_left
  ·rintro w ⟨e1,e2,e3,e4,e5,e6,e7⟩;go_simp;try with_reducible rfl
  simp only[Act.put,gD];refine wpE_tk (i:=4) (v:=?_) hE20 rfl ?_ ?_;rotate_left
  ·rintro w ⟨e1,e2,e3,e4,e5,e6,e7⟩;go_simp;try with_reducible rfl
  simp only[Act.put,gD];refine wpE_tk (i:=5) (v:=?_) hE20 rfl ?_ ?_;rotate_left
  ·rintro w ⟨e1,e2,e3,e4,e5,e6,e7⟩;go_simp;try with_reducible rfl
  simp only[Act.put,gD];refine wpE_tk (i:=6) (v:=?_) hE20 rfl ?_ ?_;rotate_left
  ·rintro w ⟨e1,e2,e3,e4,e5,e6,e7⟩;go_simp;try with_reducible rfl
  simp only[Act.put,gD];refine wpE_one (i:=7) (by kernel_rfl) rfl (fun K hK=>?_);go_simp;go_at_call 82;refine(hwg.out _ _ _ _).mono ?_;rintro e w7 ⟨rfl,hb7⟩;have h11:=Lh (h10.out.drew.pure hb7);have hE21:=hE.out _ h11.out;clear hE20 h10 hb7;dsimp only;refine hK _ _ (fun _=>hE21) ?_;clear hK K;(try simp only[Act.put,gD]);refine wpE_one (i:=8) (by kernel_rfl) rfl (fun K hK=>?_);go_simp;(try dsimp only);refine hK _ _ (fun _=>hE21) ?_;clear hK K;(try simp only[Act.put,gD]);refine wpE_one (i:=9) (by kernel_rfl) rfl (fun K hK=>?_);go_simp;(try dsimp only);refine hK _ _ (fun _=>hE21) ?_;clear hK K;(try simp only[Act.put,gD]);refine wpE_one (i:=10) (by kernel_rfl) rfl (fun K hK=>?_);go_simp;(try dsimp only);refine hK _ _ (fun _=>hE21) ?_;clear hK K;(try simp only[Act.put,gD]);refine wpE_one (i:=11) (by kernel_rfl) rfl (fun K hK=>?_);go_simp;(try dsimp only);refine hK _ _ (fun _=>hE21) ?_;clear hK K;(try simp only[Act.put,gD]);refine wpE_one (i:=12) (by kernel_rfl) rfl (fun K hK=>?_);go_simp;(try dsimp only);refine hK _ _ (fun _=>hE21) ?_;clear hK K;(try simp only[Act.put,gD]);obtain⟨S5,hS5⟩:∃S5:VS,S5=⟨nb,N,D,D.now.drop 96,B1,I1,D0,(nb-96-(2+(N+7)/8):Nat),N,0⟩:=⟨_,rfl⟩;have hv11:=h11.out.perm (List.Perm.swap _ _ _);have f5:=hv11.starL_open.bF 0 rfl 5;have h12:=hv11.vol_cell (S':=S5) 5 (cplx B1 I1) (by rw[hS5];rfl) (by rw[hS5,hDe0'.out];rfl);(have hst5:=fun x y=>store_cx x y hE21.2.1 f5);have hC5:VC S5 a3:=hC3.same (by rw[hS5];rfl) (by rw[hS5];rfl) (by rw[hS5];rfl) (by rw[hS5];rfl);have hcb:=hcz.out _ [_,_] h12;have hk0:=h12.bC 1 rfl 0;have hk3:=h12.bC 1 rfl 3;(have hn6:(w7.setCell ⟨F,5,none⟩ (cplx B1 I1)).cell? ⟨F,6,none⟩=some (.int .i64 (D0:Nat)):=by have:=h12.starL_open.bC 0 rfl 6;rw[hS5]at this;exact this);simp only[gA,gB,gC]at hk0 hk3;replace h12:=Lh h12;clear hv11 f5 h11 hC3;refine wpE_one (i:=13) (by kernel_rfl) rfl (fun K hK=>?_);go_simp;refine hK _ _ (fun h=>absurd rfl h) ?_;clear hK K;(try simp only[Act.put,gD]);refine wpE_done (by kernel_rfl) ?_ _;simp only[noPanic];obtain⟨w8,hw8⟩:∃w8,w8=w7.setCell ⟨F,5,none⟩ (.complex .f64 (fI B1) (fI I1)):=⟨_,rfl⟩;have hw8':w8=w7.setCell ⟨F,5,none⟩ (cplx B1 I1):=hw8;rw[←hw8];rw[←hw8']at h12 hcb hk0 hk3 hn6;clear hw8 hw8' hst5 hE21;have hS5':=Lh hS5;clear hS5;by_cases hkd:x.kind=1
  ·(have hkd1:((x.kind:Nat):Int)=1:=by omega);(have hdone:VS.mnt nb N D (k+1)= {S5 with nodes:=D0+x.size}:=by rw[hS5'.out,hBe'.out,hIe'.out,hDe0'.out];unfold VS.mnt;rw[eD'.out,if_pos hkd,Int.natCast_add]);have hC6:Hid (VC (VS.mnt nb N D (k+1)) a3):=Lh (by rw[hdone];exact hC5.same rfl rfl rfl rfl);(have b22:(D0:Int)≤100000000:=by omega);(have b23:(x.size:Int)≤65535:=by omega);have hE22:(w8.drew.cell? ⟨bf,0,none⟩=some (.pointer (some ⟨F,0,none⟩))∧w8.drew.cell? ⟨F,6,none⟩=some (.int .i64 (D0:Nat))∧w8.drew.cell? ⟨bx,3,none⟩=some (.int .i64 (x.size:Nat))):=⟨hcb,hn6,hk3⟩;have h13:=Lh h12.out.drew;have f6:=h13.out.starL_open.bF 0 rfl 6;have h14:Hid (Sep w0 (w8.drew.setCell ⟨F,6,none⟩ (.int .i64 ((D0:Int)+x.size))) (volR F q p (VS.mnt nb N D (k+1)) a3:: .box bx 118 #[.int .i64 (x.kind:Nat),.int .i64 (x.mode:Nat),.int .i64 (x.links:Nat),.int .i64 (x.size:Nat),.slice Av nv cv]::Z)):=Lh (by rw[hdone];exact h13.out.vol_cell (S':= {S5 with nodes:=D0+x.size}) 6 _ rfl (by rw[Array.setIfInBounds];simp));clear hC5 hn6 h12 hcb hk3 hdone;go_wp2_with fail;refine wp_noPanic ?_;refine wp_region_E (S:=fun W=>W.cell? ⟨bf,0,none⟩=some (.pointer (some ⟨F,0,none⟩))∧W.cell? ⟨F,6,none⟩=some (.int .i64 (D0:Nat))∧W.cell? ⟨bx,3,none⟩=some (.int .i64 (x.size:Nat))) 13 (by kernel_rfl) ?_;simp only[List.size_toArray,List.length_cons,List.length_nil,Nat.reduceAdd];refine wpE_tk (i:=0) (v:=?_) hE22 rfl ?_ ?_;rotate_left
   ·rintro w ⟨e1,e2,e3⟩;go_simp;try with_reducible rfl
   simp only[Act.put,gD];refine wpE_tk (i:=1) (v:=?_) hE22 rfl ?_ ?_;rotate_left
   ·rintro w ⟨e1,e2,e3⟩;go_simp;try with_reducible rfl
   simp only[Act.put,gD];refine wpE_tk (i:=2) (v:=?_) hE22 rfl ?_ ?_;rotate_left
   ·rintro w ⟨e1,e2,e3⟩;go_simp;try with_reducible rfl
   simp only[Act.put,gD];refine wpE_tk (i:=3) (v:=?_) hE22 rfl ?_ ?_;rotate_left
   ·rintro w ⟨e1,e2,e3⟩;go_simp;try with_reducible rfl
   simp only[Act.put,gD];refine wpE_tk (i:=4) (v:=?_) hE22 rfl ?_ ?_;rotate_left
   ·rintro w ⟨e1,e2,e3⟩;go_simp;try with_reducible rfl
   simp only[Act.put,gD];refine wpE_tk (i:=5) (v:=?_) hE22 rfl ?_ ?_;rotate_left
   ·rintro w ⟨e1,e2,e3⟩;go_simp;try with_reducible rfl
   simp only[Act.put,gD];refine wpE_tk (i:=6) (v:=?_) hE22 rfl ?_ ?_;rotate_left
   ·rintro w ⟨e1,e2,e3⟩;go_simp;try with_reducible rfl
   simp only[Act.put,gD];refine wpE_tk (i:=7) (v:=?_) hE22 rfl ?_ ?_;rotate_left
   ·rintro w ⟨e1,e2,e3⟩;go_simp;try with_reducible rfl
   simp only[Act.put,gD];refine wpE_tk (i:=8) (v:=?_) hE22 rfl ?_ ?_;rotate_left
   ·rintro w ⟨e1,e2,e3⟩;go_simp;try with_reducible rfl
   simp only[Act.put,gD];refine wpE_one (i:=9) (by kernel_rfl) rfl (fun K hK=>?_);go_simp;(try dsimp only);refine hK _ _ (fun _=>hE22) ?_;clear hK K;(try simp only[Act.put,gD]);refine wpE_one (i:=10) (by kernel_rfl) rfl (fun K hK=>?_);go_simp;(try dsimp only);refine hK _ _ (fun _=>hE22) ?_;clear hK K;(try simp only[Act.put,gD]);refine wpE_one (i:=11) (by kernel_rfl) rfl (fun K hK=>?_);go_simp;(try dsimp only);refine hK _ _ (fun _=>hE22) ?_;clear hK K;(try simp only[Act.put,gD]);refine wpE_one (i:=12) (by kernel_rfl) rfl (fun K hK=>?_);go_simp;(try dsimp only);refine hK _ _ (fun _=>hE22) ?_;clear hK K;(try simp only[Act.put,gD]);refine wpE_one (i:=13) (by kernel_rfl) rfl (fun K hK=>?_);go_simp;refine hK _ _ (fun h=>absurd rfl h) ?_;clear hK K;(try simp only[Act.put,gD]);refine wpE_done (by kernel_rfl) ?_ _;simp only[noPanic];go_wp2_with fail;refine⟨⟨k+1,a3,by go_num,by omega,hC6.out,?_⟩,?_⟩
   ·exact Lh ((h14.out.perm (List.Perm.swap _ _ _)).drop 1)
   (show N-((k:Int)+1).toNat<N-((k:Int)).toNat);omega
  (have hkd1:(((x.kind:Nat):Int)==1)=false:=by rw[beq_eq_false_iff_ne];omega);(have hdone:S5=VS.mnt nb N D (k+1):=by rw[hS5'.out,hBe'.out,hIe'.out,hDe0'.out];unfold VS.mnt;rw[eD'.out,if_neg hkd]);have hC6:=Lh hC5;clear hC5 hn6;go_wp2_with fail;refine⟨⟨k+1,a3,by go_num,by omega,by rw[←hdone];exact hC6.out,?_⟩,?_⟩
  ·rw[←hdone];exact Lh ((h12.out.perm (List.Perm.swap _ _ _)).drop 1)
  (show N-((k:Int)+1).toNat<N-((k:Int)).toNat);omega
 obtain rfl:N=k:=by omega
 have q1:¬(N:Int)<(N:Int):=by omega
 have hE:=hS.out;rw[hZ]at hE;have d1:=hE.bF 2 rfl 0;have hE2:=hE.bS 2 rfl 0 (.pointer (some ⟨F,0,none⟩));have d2:=hE2.bC 1 rfl 0;have d3:=hE2.bF 1 rfl 0;have hE3:=Lh (hE2.bS 1 rfl 0 (.int .i64 0));have hC9:=Lh hC;clear hE hE2 hC hS;go_wp2_with fail;refine told_door_ret ?_;have ec:=hE3.out.bC 1 rfl 0;have el:=hE3.out.bC 2 rfl 0;try simp only[gA,gB]at ec el
 refine leaves_cons (u:=.returning) (by simp) (enter_args _ _ enters_fmnt) ?_;refine(fmnt_done ec).mono ?_;rintro e u' w' ⟨rfl,rfl,rfl⟩;refine⟨.tuple #[.pointer (some ⟨F,0,none⟩),.int .i64 0],by simp[results,Tryz.results33,go_sem,ec,el],F,rfl,q,?_⟩;have hv:Sep w0 _ (volR F q p (VS.mnt nb N D N) a2::R):=(Sep.sel [1,2,0] hE3.out (by decide) (by simp):Sep w0 _ (_::_::volR F q p (VS.mnt nb N D N) a2::R)).drop 2;exact vol_rest0 hC9.out hM.back hv
end
end Go.Proofs.YteihmbaimbogaaaGreat
