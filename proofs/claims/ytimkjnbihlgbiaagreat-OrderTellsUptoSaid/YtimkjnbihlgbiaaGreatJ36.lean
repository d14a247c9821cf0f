/- DocL7, laid together. -/
import Derived.Test.YtimkjnbihlgbiaaGreatJ32
namespace Go.Proofs.YtimkjnbihlgbiaaGreat
open Go.RowKit
set_option linter.unusedVariables false
set_option linter.unusedSimpArgs false
set_option maxRecDepth 100000 in
set_option maxHeartbeats 8000000 in
theorem refdo_7 {w:World} {nv fv:Value} {ns:List TN} {fs:List TF} {vs:List Value} (h:TreeAt w nv fv ns fs vs) (ho:LooseOk ns fs) {p tz:List UInt8} (hp9:p.length≤1048576) (ht9:tz.length≤1048576) (mode ref:Int) {sv:Value} {cs:List Value} (hsv:StockAt w sv cs):
  Calls Tryz.prog 33 #[.agg #[nv,fv],insV 7 p tz mode ref,sv] w fun e w'=>∃A3 n3 c3 A4 n4 c4,e= .returned (.tuple #[.agg #[.slice A3 n3 c3,.slice A4 n4 c4],.int .i64 (doE (firstD 7 p tz mode ref cs) (bothE ns p tz) (ns++[⟨tz,fs.length,0⟩]) (fs++[⟨mode,(fsAt fs (nodeOr ns p).file).size⟩]))])∧Sep w w' [.keep fun W=>doE (firstD 7 p tz mode ref cs) (bothE ns p tz) (ns++[⟨tz,fs.length,0⟩]) (fs++[⟨mode,(fsAt fs (nodeOr ns p).file).size⟩])=0→∃vs',TreeAt W (.slice A3 n3 c3) (.slice A4 n4 c4) (dnT (ns++[⟨tz,fs.length,0⟩])) (dfT (ns++[⟨tz,fs.length,0⟩]) (fs++[⟨mode,(fsAt fs (nodeOr ns p).file).size⟩])) vs']:=by
 obtain⟨FX,hFX⟩:∃x,(fs++[⟨mode,(fsAt fs (nodeOr ns p).file).size⟩])=x:=⟨_,rfl⟩;rw[hFX];have hFX':=Lh hFX;clear hFX;have hm:TreeSm ns fs:=⟨by have:=ho.few;omega,by have:=ho.few2;omega,fun n hn=>by have:=valid_len (ho.mem hn).1;omega,fun f hf=>by have:=ho.size f hf;omega⟩;have hfile:∀n∈ns, -1≤n.file:=fun n hn=>(ho.mem hn).2.1
 have hS0:=do_start w nv fv 7 p tz mode ref;have hlo:=fun(W:World) (hW:Below w.heap.size w W)=>refloose_any (h.below hW) hm
 rw[loose_doc ho]at hlo;have hfi:=fun(W:World) (hW:Below w.heap.size w W)=>reffirst_any (7:Int) (p:=p) (tz:=tz) (by omega) (by omega) mode ref (hsv.below hW)
 have hfone:=tfCells_oneCell h;have hnp:=h.nodes;have hfp:=h.files;obtain⟨A1,ca1,rfl,hm1⟩:=h.nodes.shape;obtain⟨A2,ca2,rfl,hm2⟩:=h.files.shape;obtain⟨Av,cv,rfl,_⟩:=hsv.1.shape;have b1:(ns.length:Int)≤256:=by have:=ho.few;omega
 have b2:(fs.length:Int)≤256:=by have:=ho.few2;omega
 obtain⟨zt0,zt1,zi0,zi1,zi2,zi3,zi4,zr0,zr1,zf0,zf1⟩:=do_cells [] hS0;obtain⟨j0,hjnf,hj0,hj1,hj2⟩:=info_parts info_fileT;obtain⟨k0,hknf,hk0,hk1,hk2⟩:=info_parts info_nodeT;have hS0':=Lh hS0;have hlo':=Lh hlo;have hfi':=Lh hfi;have hfone':=Lh hfone;have hnp':=Lh hnp;have hfp':=Lh hfp;have h':=Lh h;have hm':=Lh hm;have ho':=Lh ho;have hfile':=Lh hfile;have hsv':=Lh hsv;clear hS0 hlo hfi hfone hnp hfp h hm ho hfile hsv;obtain⟨FD,hFD⟩:∃x,firstD 7 p tz mode ref cs=x:=⟨_,rfl⟩;have hFD':=Lh hFD;rw[hFD]at hfi' ⊢;clear hFD;obtain⟨DE,hDE⟩:∃x,doE FD (bothE ns p tz) (ns++[⟨tz,fs.length,0⟩]) (FX)=x:=⟨_,rfl⟩;rw[hDE];have hDE':=Lh hDE;clear hDE;unfold insV strV at*;by_cases hf:FD=0
 case neg=>(have hfb:(FD !=0)=true:=by simpa using hf);(have hde:Hid (DE=FD):=by have h:=hDE'.out;unfold doE at h;rw[if_neg hf]at h;exact h.symm);have hf':=Lh hf;clear hf;go_enter Tryz.func33,Tryz.ntmps33;go_wp2_with(first |(go_at_call 57;refine(hlo'.out _ hS0'.out.below).mono ?_;rintro e w1 ⟨rfl,hb1⟩;(have hS1:=hS0'.out.pure hb1);obtain⟨at0,at1,ai0,ai1,ai2,ai3,ai4,ar0,ar1,af0,af1⟩:=do_cells [] hS1;replace hS1:=Lh hS1;clear hb1)|(go_at_call 60;refine(hfi'.out _ hS1.out.below).mono ?_;rintro e w2 ⟨rfl,hb2⟩;(have hS2:=hS1.out.pure hb2);obtain⟨bt0,bt1,bi0,bi1,bi2,bi3,bi4,br0,br1,bf0,bf1⟩:=do_cells [] hS2;replace hS2:=Lh hS2;clear hb2));obtain⟨Q,hQ,e0,e1⟩:=do_store [] (.slice none 0 0) (.slice none 0 0) hS2.out;refine bodyPost_ret (tree_results2 rfl rfl e0 e1) rfl ?_;exact⟨none,0,0,none,0,0,by rw[hde.out];rfl,Sep.keep (X:=[]) (Y:=[]) ((Sep.nil w).pure hQ.below) fun _ W _ h0=>absurd h0 (by rw[hde.out];exact hf'.out)⟩
 subst hf;have hde:Hid (DE=if(bothE ns p tz)=0 then(if canD (ns++[⟨tz,fs.length,0⟩]) (FX)=0 then 0 else 31)else(bothE ns p tz)):=by have h:=hDE'.out;unfold doE at h;rw[if_pos rfl]at h;exact h.symm
 obtain⟨hvp,hvt⟩:=(show validL p=true∧validL tz=true from by(have h:=firstP_ok (show firstP true true 7 p tz mode ref cs=0 from by have h:=hFD'.out;exact h));exact⟨h.1,h.2.1 rfl⟩);go_enter Tryz.func33,Tryz.ntmps33;go_wp2_with(first |(go_at_call 57;refine(hlo'.out _ hS0'.out.below).mono ?_;rintro e w1 ⟨rfl,hb1⟩;(have hS1:=hS0'.out.pure hb1);obtain⟨at0,at1,ai0,ai1,ai2,ai3,ai4,ar0,ar1,af0,af1⟩:=do_cells [] hS1;replace hS1:=Lh hS1;clear hb1)|(go_at_call 60;refine(hfi'.out _ hS1.out.below).mono ?_;rintro e w2 ⟨rfl,hb2⟩;(have hS2:=hS1.out.pure hb2);obtain⟨bt0,bt1,bi0,bi1,bi2,bi3,bi4,br0,br1,bf0,bf1⟩:=do_cells [] hS2;replace hS2:=Lh hS2;clear hb2)|(at_builtin;refine wpList_append_any_sep 0 rfl _ _ 22 rfl 51 k0 _ 3 32 Tryz.underlying22 hknf hk0 hk1 hk2 rfl (by decide) (hS2.out.sl_nil 51 3) _ 0 [] rfl rfl (.slice A1 ns.length ca1) ns.length (tnCells ns) (by first |rfl|simp) (hnp'.out.below hS2.out.below) (tnCells_oneCell _) (by unfold maxLen;omega) (by omega) ?_));intro v3 w3 hS3 hz3;have hr3:Rd w3 3 v3 ns.length (tnCells ns):=hS3.rd 0 rfl;have hsh3:=hr3.form;clear hr3;obtain⟨A3,c3,hv3⟩:=hsh3;subst hv3;obtain⟨gt0,gt1,gi0,gi1,gi2,gi3,gi4,gr0,gr1,gf0,gf1⟩:=do_cells [_] hS3;replace hS3:=Lh hS3;clear hz3 hS2 hS1 at0 at1 ai0 ai1 ai2 ai3 ai4 ar0 ar1 af0 af1 bt0 bt1 bi0 bi1 bi2 bi3 bi4 br0 br1 bf0 bf1 zt0 zt1 zi0 zi1 zi2 zi3 zi4 zr0 zr1 zf0 zf1;go_wp2_with(at_builtin;refine wpList_append_any_sep 0 rfl _ _ 23 rfl 54 j0 _ 2 32 Tryz.underlying23 hjnf hj0 hj1 hj2 rfl (by decide) (hS3.out.sl_nil 54 2) _ 0 [] rfl rfl (.slice A2 fs.length ca2) fs.length (tfCells fs vs) (by first |rfl|simp) (hfp'.out.below hS3.out.below) hfone'.out (by unfold maxLen;omega) (by omega) ?_);intro v4 w4 hS4 hz4;have hr4:Rd w4 2 v4 fs.length (tfCells fs vs):=hS4.rd 0 rfl;have hsh4:=hr4.form;clear hr4;obtain⟨A4,c4,hv4⟩:=hsh4;subst hv4;obtain⟨ht0,ht1,hi0,hi1,hi2,hi3,hi4,hr0,hr1,hf0,hf1⟩:=do_cells [_,_] hS4;replace hS4:=Lh hS4;clear hz4 hS3 gt0 gt1 gi0 gi1 gi2 gi3 gi4 gr0 gr1 gf0 gf1;have hfl:=fun(W:World) (hW:Below w.heap.size w W)=>reffileat_any (h'.out.below hW) hm'.out hfile'.out (p:=p) hvp
 have hvac:=fun(W:World) (hW:Below w.heap.size w W)=>refvacant_any (h'.out.below hW) hm'.out hfile'.out (p:=tz) hvt
 unfold strV at hfl hvac;by_cases hfe:fileE ns p=0
 case neg=>(have hde2:Hid (DE=fileE ns p):=by have h:=hde.out;(have hbe:bothE ns p tz=fileE ns p:=by unfold bothE;rw[if_neg hfe]);rw[hbe,if_neg hfe]at h;exact h);rw[if_neg hfe]at hfl;generalize fileE ns p=LE at hfl hfe hde2;(have hab:(LE !=0)=true:=by simpa using hfe);(have hab2:(LE==0)=false:=by simpa using hfe);have hae':=Lh hfe;have hfl':=Lh hfl;clear hfe hde hfl hvac;go_wp2_with(first |(go_at_call 62;refine(hasto_any _ _).mono ?_;rintro e wx ⟨rfl,hwx⟩;have hwy:=hwx.symm;clear hwx;subst hwy)|(go_at_call 63;refine(hfl'.out _ hS4.out.below).mono ?_;rintro e w5 ⟨rfl,hb5⟩;(have hS5:=hS4.out.pure hb5);obtain⟨dt0,dt1,di0,di1,di2,di3,di4,dr0,dr1,df0,df1⟩:=do_cells [_,_] hS5;replace hS5:=Lh hS5;clear hb5));obtain⟨Q,hQ,e0,e1⟩:=do_store [_,_] (.slice none 0 0) (.slice none 0 0) hS5.out;refine bodyPost_ret (tree_results2 rfl rfl e0 e1) rfl ?_;exact⟨none,0,0,none,0,0,by rw[hde2.out];rfl,Sep.keep (X:=[]) (Y:=[]) ((Sep.nil w).pure hQ.below) fun _ W _ h0=>absurd h0 (by rw[hde2.out];exact hae'.out)⟩
 have hbe:bothE ns p tz=absentE ns tz:=by unfold bothE;rw[if_pos hfe]
 rw[hbe]at hde;rw[hfe,if_pos rfl]at hfl;obtain⟨k,m,hf2,hf8,hf7,hno,hmf⟩:=file_found hfe;rw[hf2]at hfl;try rw[hno]at hde
 have hpi:Hid (pathI ns p=k):=Lh (by unfold pathI;rw[hf2];rfl);have hkl:=(gF.1 hf8).1;have q0:(0:Int)≤(k:Int):=by omega
 have q1:(k:Int)<(ns.length:Int):=by omega
 generalize absentE ns tz=AE at hvac hde;have hf8':=Lh hf8;have hf7':=Lh hf7;have hno':=Lh hno;have hfl':=Lh hfl;have hvac':=Lh hvac;have hkl':=Lh hkl;clear hfl hvac hf8 hf7 hfe hbe hf2 hkl hno;by_cases hae:AE=0
 case neg=>(have hab:(AE !=0)=true:=by simpa using hae);(have hde2:Hid (DE=AE):=by have h:=hde.out;rw[if_neg hae]at h;exact h);have hae':=Lh hae;clear hae hde;go_wp2_with(first |(go_at_call 62;refine(hasto_any _ _).mono ?_;rintro e wx ⟨rfl,hwx⟩;have hwy:=hwx.symm;clear hwx;subst hwy)|(go_at_call 63;refine(hfl'.out _ hS4.out.below).mono ?_;rintro e w5 ⟨rfl,hb5⟩;(have hS5:=hS4.out.pure hb5);obtain⟨dt0,dt1,di0,di1,di2,di3,di4,dr0,dr1,df0,df1⟩:=do_cells [_,_] hS5;replace hS5:=Lh hS5;clear hb5)|(go_at_call 64;refine(hvac'.out _ hS5.out.below).mono ?_;rintro e w6 ⟨rfl,hb6⟩;(have hS6:=hS5.out.pure hb6);obtain⟨kt0,kt1,ki0,ki1,ki2,ki3,ki4,kr0,kr1,kf0,kf1⟩:=do_cells [_,_] hS6;replace hS6:=Lh hS6;clear hb6));obtain⟨Q,hQ,e0,e1⟩:=do_store [_,_] (.slice none 0 0) (.slice none 0 0) hS6.out;refine bodyPost_ret (tree_results2 rfl rfl e0 e1) rfl ?_;exact⟨none,0,0,none,0,0,by rw[hde2.out];rfl,Sep.keep (X:=[]) (Y:=[]) ((Sep.nil w).pure hQ.below) fun _ W _ h0=>absurd h0 (by rw[hde2.out];exact hae'.out)⟩
 subst hae;have hmem:=gG hf8'.out;obtain⟨gn,gno,gnc,gne,_,_,_,hcell⟩:=hnp'.out.place (by omega) (by decide);cases gne;have hx:=fun(W:World) (hW:Below w.heap.size w W)=>(hcell _ hW (k*3+1) (by omega)).trans (tnCells_at hf8'.out 1 (by omega))
 simp only[tnC,strV,gB,gC,←Nat.add_assoc,Nat.add_zero]at hx;have hx':=Lh hx;clear hcell hx;have hfm:=ho'.out.mem hmem;obtain⟨f,hf⟩:∃f:Nat,m.file=(f:Int):=⟨m.file.toNat,by omega⟩;have hfl2:f<fs.length:=by omega
 obtain⟨ff,hff⟩:∃ff,fs[f]? =some ff:=⟨_,gE hfl2⟩;obtain⟨dv,hdv⟩:∃dv,vs[f]? =some dv:=⟨_,gE (by rw[h'.out.len];exact hfl2)⟩;have hdvd:=h'.out.data f dv ff hdv hff;obtain⟨Ad,cd,hcd,_⟩:=hdvd.shape;subst hcd;have hfsz:=hm'.out.size ff (gG hff);have hfsa:fsAt fs (f:Int)=ff:=by unfold fsAt;rw[Int.toNat_natCast,gH,hff];rfl
 have hfx:FX=fs++[⟨mode,ff.size⟩]:=by rw[←hFX'.out,hno'.out,hf,hfsa]
 obtain⟨gf,gfo,gfc,gfe,_,_,_,hcellf⟩:=hfp'.out.place (by omega) (by decide);cases gfe;have hxd:=fun(W:World) (hW:Below w.heap.size w W)=>(hcellf _ hW (f*2+1) (by omega)).trans (tfCells_at hff hdv 1 (by omega))
 simp only[tfC,gB,gC,←Nat.add_assoc]at hxd;have hxf:∀W,Below w.heap.size w W→W.cell? ⟨gn,gno+k*3+1,none⟩=some (.int .i64 (f:Int)):=fun W hW=>by rw[hx'.out W hW,hf]
 have hxd':=Lh hxd;have hxf':=Lh hxf;have hfx':=Lh hfx;have hdvd':=Lh hdvd;have q2:(0:Int)≤(f:Int):=by omega
 have q3:(f:Int)<(fs.length:Int):=by omega
 obtain⟨ME,hME⟩:∃x:Int,(if canD (ns++[⟨tz,fs.length,0⟩]) (fs++[⟨mode,ff.size⟩])=0 then(0:Int)else 31)=x:=⟨_,rfl⟩;have hde2:Hid (DE=ME):=by have h:=hde.out;rw[if_pos rfl,hfx'.out,hME]at h;exact h
 have hME':=Lh hME;clear hde hME hcellf hxd hxf hfx hdvd hfsa hff hdv hfm hf hmem hx' hmf;go_wp2_with(first |(go_at_call 62;refine(hasto_any _ _).mono ?_;rintro e wx ⟨rfl,hwx⟩;have hwy:=hwx.symm;clear hwx;subst hwy)|(go_at_call 63;refine(hfl'.out _ hS4.out.below).mono ?_;rintro e w5 ⟨rfl,hb5⟩;(have hS5:=hS4.out.pure hb5);obtain⟨dt0,dt1,di0,di1,di2,di3,di4,dr0,dr1,df0,df1⟩:=do_cells [_,_] hS5;replace hS5:=Lh hS5;clear hb5)|(go_at_call 64;refine(hvac'.out _ hS5.out.below).mono ?_;rintro e w6 ⟨rfl,hb6⟩;(have hS6:=hS5.out.pure hb6);obtain⟨kt0,kt1,ki0,ki1,ki2,ki3,ki4,kr0,kr1,kf0,kf1⟩:=do_cells [_,_] hS6;replace hS6:=Lh hS6;clear hb6)|(at_builtin;have hS6a:=hS6.out.alloc (.cells #[.string ⟨tz.toArray⟩,.int .i64 fs.length,.int .i64 0] 51);refine wpList_append_sep 1 rfl _ _ 22 rfl 51 k0 _ 3 32 Tryz.underlying22 hknf hk0 hk1 hk2 rfl (by decide) hS6a (.slice A3 ns.length c3) ns.length (tnCells ns) rfl rfl ⟨w6.heap.size,0,none⟩ 1 1 [.string ⟨tz.toArray⟩,.int .i64 fs.length,.int .i64 0] rfl rfl (cells_new _ _ _ _ (by simp)) (by simp[Value.oneCell']) (by decide) (by unfold maxLen;omega) (by omega) ?_));intro g6 c6 w7 hS7 hz6;obtain⟨et0,et1,ei0,ei1,ei2,ei3,ei4,er0,er1,ef0,ef1⟩:=do_cells [_,_] hS7;replace hS7:=Lh hS7;clear hz6 hS6 hS5 dt0 dt1 di0 di1 di2 di3 di4 dr0 dr1 df0 df1 kt0 kt1 ki0 ki1 ki2 ki3 ki4 kr0 kr1 kf0 kf1;go_wp2_with fail;have hX:=hS7.out.drew;have hcc:=fun(W:World) (X0 X1:Asn) (h:Sep w W (X0::X1::doAs w (.slice (some ⟨gn,gno,none⟩) ns.length ca1) (.slice (some ⟨gf,gfo,none⟩) fs.length ca2) 7 p tz mode ref))=>And.intro (do_cells [_,_] h).i3 (And.intro (do_cells [_,_] h).t1 (And.intro (do_cells [_,_] h).t0 (And.intro (hxf'.out _ h.below) (hxd'.out _ h.below))))
 have hE0:=hcc _ _ _ hX;have hcc':=Lh hcc;have hX':=Lh hX;clear hcc hX hS7 et0 et1 ei0 ei1 ei2 ei3 ei4 er0 er1 ef0 ef1;refine wp_region_E (S:=fun w'=>w'.cell? ⟨w.heap.size+1,3,none⟩=some (.int .i64 mode)∧w'.cell? ⟨w.heap.size,1,none⟩=some (.slice (some ⟨gf,gfo,none⟩) fs.length ca2)∧w'.cell? ⟨w.heap.size,0,none⟩=some (.slice (some ⟨gn,gno,none⟩) ns.length ca1)∧w'.cell? ⟨gn,gno+k*3+1,none⟩=some (.int .i64 (f:Int))∧w'.cell? ⟨gf,gfo+f*2+1,none⟩=some (.slice Ad ff.size cd)) 17 (by kernel_rfl) ?_;simp only[List.size_toArray,List.length_cons,List.length_nil,Nat.reduceAdd];refine wpE_tk (i:=0) (v:=?_) hE0 rfl ?_ ?_;rotate_left
 ·rintro w ⟨e1,e2,e3,e4,e5⟩;go_simp;try with_reducible rfl
 simp only[Act.put,gD];refine wpE_tk (i:=1) (v:=?_) hE0 rfl ?_ ?_;rotate_left
 ·rintro w ⟨e1,e2,e3,e4,e5⟩;go_simp;try with_reducible rfl
 simp only[Act.put,gD];refine wpE_tk (i:=2) (v:=?_) hE0 rfl ?_ ?_;rotate_left
 ·rintro w ⟨e1,e2,e3,e4,e5⟩;go_simp;try with_reducible rfl
 simp only[Act.put,gD];refine wpE_tk (i:=3) (v:=?_) hE0 rfl ?_ ?_;rotate_left
 ·rintro w ⟨e1,e2,e3,e4,e5⟩;go_simp;try with_reducible rfl
 simp only[Act.put,gD];refine wpE_tk (i:=4) (v:=?_) hE0 rfl ?_ ?_;rotate_left
 ·rintro w ⟨e1,e2,e3,e4,e5⟩;go_simp;try with_reducible rfl
 simp only[Act.put,gD];refine wpE_tk (i:=5) (v:=?_) hE0 rfl ?_ ?_;rotate_left
 ·rintro w ⟨e1,e2,e3,e4,e5⟩;go_simp;try with_reducible rfl
 simp only[Act.put,gD];refine wpE_tk (i:=6) (v:=?_) hE0 rfl ?_ ?_;rotate_left
 ·rintro w ⟨e1,e2,e3,e4,e5⟩;go_simp;try with_reducible rfl
 simp only[Act.put,gD];refine wpE_tk (i:=7) (v:=?_) hE0 rfl ?_ ?_;rotate_left
 ·rintro w ⟨e1,e2,e3,e4,e5⟩;go_simp;try with_reducible rfl
 simp only[Act.put,gD];refine wpE_tk (i:=8) (v:=?_) hE0 rfl ?_ ?_;rotate_left
 ·rintro w ⟨e1,e2,e3,e4,e5⟩;go_simp;try with_reducible rfl
 simp only[Act.put,gD];refine wpE_tk (i:=9) (v:=?_) hE0 rfl ?_ ?_;rotate_left
 ·rintro w ⟨e1,e2,e3,e4,e5⟩;go_simp;try with_reducible rfl
 simp only[Act.put,gD];refine wpE_tk (i:=10) (v:=?_) hE0 rfl ?_ ?_;rotate_left
 ·rintro w ⟨e1,e2,e3,e4,e5⟩;go_simp;try with_reducible rfl
 simp only[Act.put,gD];refine wpE_tk (i:=11) (v:=?_) hE0 rfl ?_ ?_;rotate_left
 ·rintro w ⟨e1,e2,e3,e4,e5⟩;go_simp;try with_reducible rfl
 simp only[Act.put,gD];refine wpE_tk (i:=12) (v:=?_) hE0 rfl ?_ ?_;rotate_left
 ·rintro w ⟨e1,e2,e3,e4,e5⟩;go_simp;try with_reducible rfl
 simp only[Act.put,gD];refine wpE_tk (i:=13) (v:=?_) hE0 rfl ?_ ?_;rotate_left
 ·rintro w ⟨e1,e2,e3,e4,e5⟩;go_simp;try with_reducible rfl
 simp only[Act.put,gD];refine wpE_one (i:=14) (by kernel_rfl) rfl (fun K hK=>?_);go_simp;refine hK _ _ (fun _=>hE0) ?_;clear hK K;try simp only[Act.put,gD]
 have hXa:=hX'.out.alloc (.cells #[.int .i64 mode,.slice Ad ff.size cd] 54);have hEa:=hcc'.out _ _ _ hXa;have hXa':=Lh hXa;clear hXa;refine wpE_one (i:=15) (by kernel_rfl) rfl (fun K hK=>?_);go_simp;refine hK _ _ (fun _=>hEa) ?_;clear hK K;try simp only[Act.put,gD]
 refine wpE_one (i:=16) (by kernel_rfl) rfl (fun K hK=>?_);refine step_append_sep 0 (by rfl) _ _ 23 (by rfl) 54 j0 _ 2 32 Tryz.underlying23 hjnf hj0 hj1 hj2 rfl (by decide) hXa'.out (.slice A4 fs.length c4) fs.length (tfCells fs vs) (by rfl) (by simp[Act.eval]) ⟨w7.heap.size,0,none⟩ 1 1 [.int .i64 mode,.slice Ad ff.size cd] (by simp[Act.eval]) (by rfl) (cells_new _ _ _ _ (by simp)) (by simp[Value.oneCell']) (by decide) (by unfold maxLen;omega) (by omega) ?_;intro g9 c9 w9 hS9 hz9;have hE9:=hcc'.out _ _ _ hS9;have hT:TreeAt w9 (.slice (some ⟨g6,0,none⟩) (ns.length+1) c6) (.slice (some ⟨g9,0,none⟩) (fs.length+1) c9) (ns++[⟨tz,fs.length,0⟩]) (fs++[⟨mode,ff.size⟩]) (vs++[.slice Ad ff.size cd]):=by
  refine⟨by rw[List.length_append,List.length_append,h'.out.len];rfl,?_,?_,fun k u f hu hf=>?_⟩
  ·have h9:=hS9.rd 1 rfl;rw[List.length_append,List.length_singleton,tnCells_snoc];exact h9
  ·have h9:=hS9.rd 0 rfl;rw[List.length_append,List.length_singleton,tfCells_snoc h'.out.len];exact h9
  by_cases hk:k<fs.length
  ·rw[List.getElem?_append_left (by rw[h'.out.len];exact hk)]at hu;rw[List.getElem?_append_left hk]at hf;exact(h'.out.data k u f hu hf).below hS9.below
  (have hk2:k=fs.length:=by have:=(gF.1 hf).1;rw[List.length_append,List.length_singleton]at this;omega);subst hk2;rw[List.getElem?_append_right (by rw[h'.out.len];exact Nat.le_refl _),h'.out.len,Nat.sub_self]at hu;rw[List.getElem?_append_right (Nat.le_refl _),Nat.sub_self]at hf;cases hu;cases hf;exact hdvd'.out.below hS9.below
 have hsm:TreeSm (ns++[⟨tz,fs.length,0⟩]) (fs++[⟨mode,ff.size⟩]):=by
  refine⟨?_,?_,fun n hn=>?_,fun f hf=>?_⟩
  ·rw[List.length_append,List.length_singleton];omega
  ·rw[List.length_append,List.length_singleton];omega
  ·rcases List.mem_append.1 hn with hn|hn
   ·exact hm'.out.short n hn
   (have e:n=⟨tz,fs.length,0⟩:=by simpa using hn);subst e;(show tz.length≤40000);(have:=valid_len hvt;omega)
  rcases List.mem_append.1 hf with hf|hf
  ·exact hm'.out.size f hf
  (have e:f=⟨mode,ff.size⟩:=by simpa using hf);subst e;(show ff.size≤1048576);omega
 have hfr:∀n∈ns++[⟨tz,fs.length,0⟩],n.file= -1∨(0≤n.file∧n.file<(((fs++[(⟨mode,ff.size⟩:TF)]).length:Nat):Int)):=fun n hn=>by
  rw[List.length_append,List.length_singleton];rcases List.mem_append.1 hn with hn|hn
  ·have:=ho'.out.mem hn;omega
  (have e:n=⟨tz,fs.length,0⟩:=by simpa using hn);subst e;(show((fs.length:Nat):Int)= -1∨(0≤((fs.length:Nat):Int)∧((fs.length:Nat):Int)<((fs.length+1:Nat):Int)));omega
 have hmade:=refmade_any hT hsm hfr;rw[hME'.out]at hmade;have hmade':=Lh hmade;replace hS9:=Lh hS9;clear hT hsm hfr hmade;clear hXa' hX' hz9 hEa hE0;refine hK _ _ (fun _=>hE9) ?_;clear hK K;try simp only[Act.put,gD]
 refine wpE_one (i:=17) (by kernel_rfl) rfl (fun K hK=>?_);go_simp;refine hK _ _ (fun h=>absurd rfl h) ?_;clear hK K;try simp only[Act.put,gD]
 refine wpE_done (by kernel_rfl) ?_ _;clear hE9;go_wp2_with(go_at_call 68;refine hmade'.out.mono ?_;rintro e w10 ⟨A8,n8,c8,A9,n9,c10,rfl,hS8m⟩;(have hSm:=hS9.out.join hS8m);obtain⟨mt0,mt1,mi0,mi1,mi2,mi3,mi4,mr0,mr1,mf0,mf1⟩:=do_cells [_,_,_] hSm;replace hSm:=Lh hSm;clear hS8m);obtain⟨Q,hQ,e0,e1⟩:=do_store [_,_,_] (.slice A8 n8 c8) (.slice A9 n9 c10) hSm.out;refine bodyPost_ret (tree_results2 rfl rfl e0 e1) rfl ?_;exact⟨A8,n8,c8,A9,n9,c10,by rw[hde2.out];rfl,Sep.keep (X:=[_]) (Y:=[]) (Sep.fst (X:=[_]) hQ) fun _ W hW h0=>by rw[hfx'.out];exact hW.kept 0 rfl (by rw[hde2.out,←hME'.out]at h0;(refine Decidable.byContradiction fun hno=>?_);rw[if_neg hno]at h0;cases h0)⟩
end Go.Proofs.YtimkjnbihlgbiaaGreat
