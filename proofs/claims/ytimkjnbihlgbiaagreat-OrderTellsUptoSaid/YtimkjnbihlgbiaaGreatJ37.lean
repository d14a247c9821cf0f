/- DocL8, PermP, ModelDA, laid together. -/
import Derived.Test.YtimkjnbihlgbiaaGreatJ32
namespace Go.Proofs.YtimkjnbihlgbiaaGreat
open Go.RowKit
set_option linter.unusedVariables false
set_option linter.unusedSimpArgs false
set_option maxRecDepth 100000 in
set_option maxHeartbeats 8000000 in
theorem refdo_8 {w:World} {nv fv:Value} {ns:List TN} {fs:List TF} {vs:List Value} (h:TreeAt w nv fv ns fs vs) (ho:LooseOk ns fs) {p tz:List UInt8} (hp9:p.length≤1048576) (ht9:tz.length≤1048576) (mode ref:Int) {sv:Value} {cs:List Value} (hsv:StockAt w sv cs):
  Calls Tryz.prog 33 #[.agg #[nv,fv],insV 8 p tz mode ref,sv] w fun e w'=>∃A3 n3 c3 A4 n4 c4,e= .returned (.tuple #[.agg #[.slice A3 n3 c3,.slice A4 n4 c4],.int .i64 (doE (firstD 8 p tz mode ref cs) (presentE ns p) (if(nodeOr ns p).file= -1 then ns.set (pathI ns p) ⟨(nodeOr ns p).path, -1,mode⟩else ns) (if(nodeOr ns p).file= -1 then fs else fs.set (nodeOr ns p).file.toNat ⟨mode,(fsAt fs (nodeOr ns p).file).size⟩))])∧Sep w w' [.keep fun W=>doE (firstD 8 p tz mode ref cs) (presentE ns p) (if(nodeOr ns p).file= -1 then ns.set (pathI ns p) ⟨(nodeOr ns p).path, -1,mode⟩else ns) (if(nodeOr ns p).file= -1 then fs else fs.set (nodeOr ns p).file.toNat ⟨mode,(fsAt fs (nodeOr ns p).file).size⟩)=0→∃vs',TreeAt W (.slice A3 n3 c3) (.slice A4 n4 c4) (dnT (if(nodeOr ns p).file= -1 then ns.set (pathI ns p) ⟨(nodeOr ns p).path, -1,mode⟩else ns)) (dfT (if(nodeOr ns p).file= -1 then ns.set (pathI ns p) ⟨(nodeOr ns p).path, -1,mode⟩else ns) (if(nodeOr ns p).file= -1 then fs else fs.set (nodeOr ns p).file.toNat ⟨mode,(fsAt fs (nodeOr ns p).file).size⟩)) vs']:=by
 obtain⟨NX,hNX⟩:∃x,(if(nodeOr ns p).file= -1 then ns.set (pathI ns p) ⟨(nodeOr ns p).path, -1,mode⟩else ns)=x:=⟨_,rfl⟩;obtain⟨FX,hFX⟩:∃x,(if(nodeOr ns p).file= -1 then fs else fs.set (nodeOr ns p).file.toNat ⟨mode,(fsAt fs (nodeOr ns p).file).size⟩)=x:=⟨_,rfl⟩;rw[hNX,hFX];have hNX':=Lh hNX;have hFX':=Lh hFX;clear hNX hFX;have hm:TreeSm ns fs:=⟨by have:=ho.few;omega,by have:=ho.few2;omega,fun n hn=>by have:=valid_len (ho.mem hn).1;omega,fun f hf=>by have:=ho.size f hf;omega⟩;have hfile:∀n∈ns, -1≤n.file:=fun n hn=>(ho.mem hn).2.1
 have hS0:=do_start w nv fv 8 p tz mode ref;have hlo:=fun(W:World) (hW:Below w.heap.size w W)=>refloose_any (h.below hW) hm
 rw[loose_doc ho]at hlo;have hfi:=fun(W:World) (hW:Below w.heap.size w W)=>reffirst_any (8:Int) (p:=p) (tz:=tz) (by omega) (by omega) mode ref (hsv.below hW)
 have hfone:=tfCells_oneCell h;have hnp:=h.nodes;have hfp:=h.files;obtain⟨A1,ca1,rfl,hm1⟩:=h.nodes.shape;obtain⟨A2,ca2,rfl,hm2⟩:=h.files.shape;obtain⟨Av,cv,rfl,_⟩:=hsv.1.shape;have b1:(ns.length:Int)≤256:=by have:=ho.few;omega
 have b2:(fs.length:Int)≤256:=by have:=ho.few2;omega
 obtain⟨zt0,zt1,zi0,zi1,zi2,zi3,zi4,zr0,zr1,zf0,zf1⟩:=do_cells [] hS0;obtain⟨j0,hjnf,hj0,hj1,hj2⟩:=info_parts info_fileT;obtain⟨k0,hknf,hk0,hk1,hk2⟩:=info_parts info_nodeT;have hS0':=Lh hS0;have hlo':=Lh hlo;have hfi':=Lh hfi;have hfone':=Lh hfone;have hnp':=Lh hnp;have hfp':=Lh hfp;have h':=Lh h;have hm':=Lh hm;have ho':=Lh ho;have hfile':=Lh hfile;have hsv':=Lh hsv;clear hS0 hlo hfi hfone hnp hfp h hm ho hfile hsv;obtain⟨FD,hFD⟩:∃x,firstD 8 p tz mode ref cs=x:=⟨_,rfl⟩;have hFD':=Lh hFD;rw[hFD]at hfi' ⊢;clear hFD;obtain⟨DE,hDE⟩:∃x,doE FD (presentE ns p) (NX) (FX)=x:=⟨_,rfl⟩;rw[hDE];have hDE':=Lh hDE;clear hDE;unfold insV strV at*;by_cases hf:FD=0
 case neg=>(have hfb:(FD !=0)=true:=by simpa using hf);(have hde:Hid (DE=FD):=by have h:=hDE'.out;unfold doE at h;rw[if_neg hf]at h;exact h.symm);have hf':=Lh hf;clear hf;go_enter Tryz.func33,Tryz.ntmps33;go_wp2_with(first |(go_at_call 57;refine(hlo'.out _ hS0'.out.below).mono ?_;rintro e w1 ⟨rfl,hb1⟩;(have hS1:=hS0'.out.pure hb1);obtain⟨at0,at1,ai0,ai1,ai2,ai3,ai4,ar0,ar1,af0,af1⟩:=do_cells [] hS1;replace hS1:=Lh hS1;clear hb1)|(go_at_call 60;refine(hfi'.out _ hS1.out.below).mono ?_;rintro e w2 ⟨rfl,hb2⟩;(have hS2:=hS1.out.pure hb2);obtain⟨bt0,bt1,bi0,bi1,bi2,bi3,bi4,br0,br1,bf0,bf1⟩:=do_cells [] hS2;replace hS2:=Lh hS2;clear hb2));obtain⟨Q,hQ,e0,e1⟩:=do_store [] (.slice none 0 0) (.slice none 0 0) hS2.out;refine bodyPost_ret (tree_results2 rfl rfl e0 e1) rfl ?_;exact⟨none,0,0,none,0,0,by rw[hde.out];rfl,Sep.keep (X:=[]) (Y:=[]) ((Sep.nil w).pure hQ.below) fun _ W _ h0=>absurd h0 (by rw[hde.out];exact hf'.out)⟩
 subst hf;have hde:Hid (DE=if(presentE ns p)=0 then(if canD (NX) (FX)=0 then 0 else 31)else(presentE ns p)):=by have h:=hDE'.out;unfold doE at h;rw[if_pos rfl]at h;exact h.symm
 obtain⟨hvp,hrest⟩:=firstP_ok (show firstP true false 8 p tz mode ref cs=0 from by have h:=hFD'.out;exact h);go_enter Tryz.func33,Tryz.ntmps33;go_wp2_with(first |(go_at_call 57;refine(hlo'.out _ hS0'.out.below).mono ?_;rintro e w1 ⟨rfl,hb1⟩;(have hS1:=hS0'.out.pure hb1);obtain⟨at0,at1,ai0,ai1,ai2,ai3,ai4,ar0,ar1,af0,af1⟩:=do_cells [] hS1;replace hS1:=Lh hS1;clear hb1)|(go_at_call 60;refine(hfi'.out _ hS1.out.below).mono ?_;rintro e w2 ⟨rfl,hb2⟩;(have hS2:=hS1.out.pure hb2);obtain⟨bt0,bt1,bi0,bi1,bi2,bi3,bi4,br0,br1,bf0,bf1⟩:=do_cells [] hS2;replace hS2:=Lh hS2;clear hb2)|(at_builtin;refine wpList_append_any_sep 0 rfl _ _ 22 rfl 51 k0 _ 3 32 Tryz.underlying22 hknf hk0 hk1 hk2 rfl (by decide) (hS2.out.sl_nil 51 3) _ 0 [] rfl rfl (.slice A1 ns.length ca1) ns.length (tnCells ns) (by first |rfl|simp) (hnp'.out.below hS2.out.below) (tnCells_oneCell _) (by unfold maxLen;omega) (by omega) ?_));intro v3 w3 hS3 hz3;have hr3:Rd w3 3 v3 ns.length (tnCells ns):=hS3.rd 0 rfl;have hsh3:=hr3.form;clear hr3;obtain⟨A3,c3,hv3⟩:=hsh3;subst hv3;obtain⟨gt0,gt1,gi0,gi1,gi2,gi3,gi4,gr0,gr1,gf0,gf1⟩:=do_cells [_] hS3;replace hS3:=Lh hS3;clear hz3 hS2 hS1 at0 at1 ai0 ai1 ai2 ai3 ai4 ar0 ar1 af0 af1 bt0 bt1 bi0 bi1 bi2 bi3 bi4 br0 br1 bf0 bf1 zt0 zt1 zi0 zi1 zi2 zi3 zi4 zr0 zr1 zf0 zf1;go_wp2_with(at_builtin;refine wpList_append_any_sep 0 rfl _ _ 23 rfl 54 j0 _ 2 32 Tryz.underlying23 hjnf hj0 hj1 hj2 rfl (by decide) (hS3.out.sl_nil 54 2) _ 0 [] rfl rfl (.slice A2 fs.length ca2) fs.length (tfCells fs vs) (by first |rfl|simp) (hfp'.out.below hS3.out.below) hfone'.out (by unfold maxLen;omega) (by omega) ?_);intro v4 w4 hS4 hz4;have hr4:Rd w4 2 v4 fs.length (tfCells fs vs):=hS4.rd 0 rfl;have hsh4:=hr4.form;clear hr4;obtain⟨A4,c4,hv4⟩:=hsh4;subst hv4;obtain⟨ht0,ht1,hi0,hi1,hi2,hi3,hi4,hr0,hr1,hf0,hf1⟩:=do_cells [_,_] hS4;replace hS4:=Lh hS4;clear hz4 hS3 gt0 gt1 gi0 gi1 gi2 gi3 gi4 gr0 gr1 gf0 gf1;have hlk:=fun(W:World) (hW:Below w.heap.size w W)=>reflook_any (h'.out.below hW) hm'.out hfile'.out (p:=p) hvp
 unfold strV at hlk;by_cases hle:lookE ns p p.length=0
 case neg=>(have hde2:Hid (DE=lookE ns p p.length):=by have h:=hde.out;(have hpe:presentE ns p=lookE ns p p.length:=by unfold presentE;rw[if_neg hle]);rw[hpe,if_neg hle]at h;exact h);rw[if_neg hle]at hlk;generalize lookE ns p p.length=LE at hlk hle hde2;(have hab:(LE !=0)=true:=by simpa using hle);(have hab2:(LE==0)=false:=by simpa using hle);have hae':=Lh hle;have hlk':=Lh hlk;clear hle hde hlk;go_wp2_with(first |(go_at_call 62;refine(hasto_any _ _).mono ?_;rintro e wx ⟨rfl,hwx⟩;have hwy:=hwx.symm;clear hwx;subst hwy)|(go_at_call 65;refine(hlk'.out _ hS4.out.below).mono ?_;rintro e w5 ⟨rfl,hb5⟩;(have hS5:=hS4.out.pure hb5);obtain⟨dt0,dt1,di0,di1,di2,di3,di4,dr0,dr1,df0,df1⟩:=do_cells [_,_] hS5;replace hS5:=Lh hS5;clear hb5));obtain⟨Q,hQ,e0,e1⟩:=do_store [_,_] (.slice none 0 0) (.slice none 0 0) hS5.out;refine bodyPost_ret (tree_results2 rfl rfl e0 e1) rfl ?_;exact⟨none,0,0,none,0,0,by rw[hde2.out];rfl,Sep.keep (X:=[]) (Y:=[]) ((Sep.nil w).pure hQ.below) fun _ W _ h0=>absurd h0 (by rw[hde2.out];exact hae'.out)⟩
 rw[hle,if_pos rfl]at hlk;rcases findI_find ns p with⟨hf1,hf2⟩|⟨k,m,hf1,hf8,hf2,hf7⟩
 ·(have hde2:Hid (DE=21):=by have h:=hde.out;(have hpe:presentE ns p=21:=by unfold presentE hasG;rw[if_pos hle,hf1];rfl);rw[hpe]at h;(have e21:¬((21:Int)=0):=by decide);simp only[e21,if_false]at h;exact h);rw[hf2]at hlk;have hlk':=Lh hlk;clear hle hde hlk hf1 hf2;go_wp2_with(first |(go_at_call 62;refine(hasto_any _ _).mono ?_;rintro e wx ⟨rfl,hwx⟩;have hwy:=hwx.symm;clear hwx;subst hwy)|(go_at_call 65;refine(hlk'.out _ hS4.out.below).mono ?_;rintro e w5 ⟨rfl,hb5⟩;(have hS5:=hS4.out.pure hb5);obtain⟨dt0,dt1,di0,di1,di2,di3,di4,dr0,dr1,df0,df1⟩:=do_cells [_,_] hS5;replace hS5:=Lh hS5;clear hb5));obtain⟨Q,hQ,e0,e1⟩:=do_store [_,_] (.slice none 0 0) (.slice none 0 0) hS5.out;refine bodyPost_ret (tree_results2 rfl rfl e0 e1) rfl ?_;exact⟨none,0,0,none,0,0,by rw[hde2.out];rfl,Sep.keep (X:=[]) (Y:=[]) ((Sep.nil w).pure hQ.below) fun _ W _ h0=>absurd h0 (by rw[hde2.out];decide)⟩
 have hpe:presentE ns p=0:=by unfold presentE hasG;rw[if_pos hle,hf1];rfl
 have hno:nodeOr ns p=m:=by unfold nodeOr;rw[hf1];rfl
 rw[hpe]at hde;have hno8:=hno;rw[hf2]at hlk;have hkl:=(gF.1 hf8).1;have hmf:=hfile'.out m (gG hf8);obtain⟨g,o,c,e,_,_,_,hcell⟩:=hnp'.out.place (by omega) (by decide);cases e;have hx:=fun(W:World) (hW:Below w.heap.size w W)=>(hcell _ hW (k*3+1) (by omega)).trans (tnCells_at hf8 1 (by omega))
 simp only[tnC,strV,gB,gC,←Nat.add_assoc,Nat.add_zero]at hx;have hx':=Lh hx;have hf8':=Lh hf8;have q0:(0:Int)≤(k:Int):=by omega
 have q1:(k:Int)<(ns.length:Int):=by omega
 have hpi:Hid (pathI ns p=k):=Lh (by unfold pathI;rw[hf2];rfl);have hlk':=Lh hlk;have hle':=Lh hle;have hkl':=Lh hkl;clear hle hlk hf1 hf2 hf8 hf7 hcell hx hpe hno hkl;rw[if_pos rfl]at hde;have hde8':=hde;have hno8':=Lh hno8;clear hde hno8;have hno:nodeOr ns p=m:=hno8'.out;by_cases hd:m.file= -1
 ·(have hNN:NX=ns.set k ⟨m.path, -1,mode⟩:=by rw[←hNX'.out,hno,if_pos hd,hpi.out]);(have hFF:FX=fs:=by rw[←hFX'.out,hno,if_pos hd]);(have hdb:(m.file== -1)=true:=by rw[hd];rfl);obtain⟨ME,hME⟩:∃x:Int,(if canD (ns.set k ⟨m.path, -1,mode⟩) fs=0 then(0:Int)else 31)=x:=⟨_,rfl⟩;(have hde2:Hid (DE=ME):=by have h:=hde8'.out;rw[hNN,hFF,hME]at h;exact h);have hcs:(tnCells ns).set (k*3+2) (.int .i64 mode)=tnCells (ns.set k ⟨m.path, -1,mode⟩):=tnCells_set hf8'.out 2 _ _ (by omega) (by rw[←hd];rfl);have hmem:=gG hf8'.out;have hsm':Hid (TreeSm (ns.set k ⟨m.path, -1,mode⟩) fs):=by
   refine⟨by rw[List.length_set];exact hm'.out.few,hm'.out.few2,fun n hn=>?_,hm'.out.size⟩;rcases List.mem_or_eq_of_mem_set hn with h|h
   ·exact hm'.out.short n h
   subst h;exact hm'.out.short m hmem
  have hfr':Hid (∀n∈ns.set k ⟨m.path, -1,mode⟩,n.file= -1∨(0≤n.file∧n.file<(fs.length:Int))):=fun n hn=>by
   rcases List.mem_or_eq_of_mem_set hn with h|h
   ·have:=ho'.out.mem h;omega
   subst h;exact Or.inl rfl
  obtain⟨g3,cc3,e3,_,_,hn3,_⟩:=hS4.out.sl_form 1 rfl (by omega);cases e3;have hME':=Lh hME;have hNN':=Lh hNN;have hFF':=Lh hFF;have hcs':=Lh hcs;clear hME hNN hFF hcs hmem hno hd;go_wp2_with(first |(go_at_call 62;refine(hasto_any _ _).mono ?_;rintro e wx ⟨rfl,hwx⟩;have hwy:=hwx.symm;clear hwx;subst hwy)|(go_at_call 65;refine(hlk'.out _ hS4.out.below).mono ?_;rintro e w5 ⟨rfl,hb5⟩;(have hS5:=hS4.out.pure hb5);obtain⟨dt0,dt1,di0,di1,di2,di3,di4,dr0,dr1,df0,df1⟩:=do_cells [_,_] hS5;(have dx:=hx'.out _ hS5.below);(have s0:=hS5.frozenAt 1 rfl (k*3+2));(have s1:=(hS5.cellAt 1 rfl (k*3+2) (by omega)).trans (tnCells_at hf8'.out 2 (by omega)));simp only[tnC,strV,gB,gC]at s1;(have hS7:=hS5.stored 1 rfl (k*3+2) (.int .i64 mode));rw[hcs'.out]at hS7;(have hT:TreeAt _ (.slice (some ⟨g3,0,none⟩) ns.length c3) (.slice A4 fs.length c4) (ns.set k ⟨m.path, -1,mode⟩) fs vs:=⟨h'.out.len,(by(have h9:=hS7.rd 1 rfl);rw[List.length_set];exact h9),hS7.rd 0 rfl,fun k u f hu hf=>(h'.out.data k u f hu hf).below hS7.below⟩);(have hmade:=refmade_any hT hsm'.out hfr'.out);rw[hME'.out]at hmade;(have hmade':=Lh hmade);clear hT hmade;replace hS7:=Lh hS7;replace hS5:=Lh hS5;clear hb5)|(go_at_call 68;refine hmade'.out.mono ?_;rintro e w8 ⟨A8,n8,c8,A9,n9,c9,rfl,hS8m⟩;(have hS9:=hS7.out.join hS8m);obtain⟨mt0,mt1,mi0,mi1,mi2,mi3,mi4,mr0,mr1,mf0,mf1⟩:=do_cells [_,_,_] hS9;replace hS9:=Lh hS9;clear hS8m));obtain⟨Q,hQ,e0,e1⟩:=do_store [_,_,_] (.slice A8 n8 c8) (.slice A9 n9 c9) hS9.out;refine bodyPost_ret (tree_results2 rfl rfl e0 e1) rfl ?_;exact⟨A8,n8,c8,A9,n9,c9,by rw[hde2.out];rfl,Sep.keep (X:=[_]) (Y:=[]) (Sep.fst (X:=[_]) hQ) fun _ W hW h0=>by rw[hNN'.out,hFF'.out];exact hW.kept 0 rfl (by rw[hde2.out,←hME'.out]at h0;(refine Decidable.byContradiction fun hno=>?_);rw[if_neg hno]at h0;cases h0)⟩
 have hfm:=ho'.out.mem (gG hf8'.out);obtain⟨f,hf⟩:∃f:Nat,m.file=(f:Int):=⟨m.file.toNat,by omega⟩;have hfl2:f<fs.length:=by omega
 obtain⟨ff,hff⟩:∃ff,fs[f]? =some ff:=⟨_,gE hfl2⟩;have hfsa:fsAt fs (f:Int)=ff:=by unfold fsAt;rw[Int.toNat_natCast,gH,hff];rfl
 have hNN:NX=ns:=by rw[←hNX'.out,hno,if_neg hd]
 have hFF:FX=fs.set f ⟨mode,ff.size⟩:=by rw[←hFX'.out,hno,if_neg hd,hf,hfsa,Int.toNat_natCast]
 have hdb:((f:Int)== -1)=false:=by rw[beq_eq_false_iff_ne];omega
 obtain⟨ME,hME⟩:∃x:Int,(if canD ns (fs.set f ⟨mode,ff.size⟩)=0 then(0:Int)else 31)=x:=⟨_,rfl⟩;have hde2:Hid (DE=ME):=by have h:=hde8'.out;rw[hNN,hFF,hME]at h;exact h
 have hcs:=tfCells_setMode h'.out.len hff mode;have hlf:(fs.set f ⟨mode,ff.size⟩).length=fs.length:=List.length_set;have hsm':Hid (TreeSm ns (fs.set f ⟨mode,ff.size⟩)):=by
  refine⟨hm'.out.few,by rw[hlf];exact hm'.out.few2,hm'.out.short,fun x hx=>?_⟩;rcases List.mem_or_eq_of_mem_set hx with h|h
  ·exact hm'.out.size x h
  subst h;exact hm'.out.size ff (gG hff)
 have hfr':Hid (∀n∈ns,n.file= -1∨(0≤n.file∧n.file<((fs.set f ⟨mode,ff.size⟩).length:Int))):=fun n hn=>by rw[hlf];have:=ho'.out.mem hn;omega
 have hdat:Hid (∀(k:Nat) (u:Value) (x:TF),vs[k]? =some u→(fs.set f ⟨mode,ff.size⟩)[k]? =some x→∃x0,fs[k]? =some x0∧x0.size=x.size):=fun k u x hu hx=>by
  by_cases hkf:f=k
  ·subst hkf;rw[List.getElem?_set_self hfl2]at hx;cases hx;exact⟨ff,hff,rfl⟩
  rw[List.getElem?_set_ne hkf]at hx;exact⟨x,hx,rfl⟩
 obtain⟨g4,cc4,e4,_,_,hn4,_⟩:=hS4.out.sl_form 0 rfl (by omega);cases e4;have hME':=Lh hME;have hNN':=Lh hNN;have hFF':=Lh hFF;have hcs':=Lh hcs;have hlf':=Lh hlf;have hxf:∀W,Below w.heap.size w W→W.cell? ⟨g,o+k*3+1,none⟩=some (.int .i64 (f:Int)):=fun W hW=>by rw[hx'.out W hW,hf]
 have hxf':=Lh hxf;have hfa:=tfCells_at hff (gE (by rw[h'.out.len];exact hfl2)) 0 (by omega);simp only[tfC,gB,Nat.add_zero]at hfa;have hfa':=Lh hfa;have q2:(0:Int)≤(f:Int):=by omega
 have q3:(f:Int)<(fs.length:Int):=by omega
 clear hME hNN hFF hcs hno hd hf hff hfsa hlf hxf hfm hx' hfa hmf;go_wp2_with(first |(go_at_call 62;refine(hasto_any _ _).mono ?_;rintro e wx ⟨rfl,hwx⟩;have hwy:=hwx.symm;clear hwx;subst hwy)|(go_at_call 65;refine(hlk'.out _ hS4.out.below).mono ?_;rintro e w5 ⟨rfl,hb5⟩;(have hS5:=hS4.out.pure hb5);obtain⟨dt0,dt1,di0,di1,di2,di3,di4,dr0,dr1,df0,df1⟩:=do_cells [_,_] hS5;(have dx:=hxf'.out _ hS5.below);replace hS5:=Lh hS5;clear hb5));have hX:=hS5.out.drew;have hE0:=And.intro (do_cells [_,_] hX).t0 (And.intro (hxf'.out _ hX.below) (do_cells [_,_] hX).i3);have t0:=hX.frozenAt 0 rfl (f*2);have t1:=(hX.cellAt 0 rfl (f*2) (by omega)).trans hfa'.out;have hX':=Lh hX;clear hX hS5;refine wp_region_E (S:=fun w'=>w'.cell? ⟨w.heap.size,0,none⟩=some (.slice (some ⟨g,o,none⟩) ns.length ca1)∧w'.cell? ⟨g,o+k*3+1,none⟩=some (.int .i64 (f:Int))∧w'.cell? ⟨w.heap.size+1,3,none⟩=some (.int .i64 mode)) 11 (by kernel_rfl) ?_;simp only[List.size_toArray,List.length_cons,List.length_nil,Nat.reduceAdd];refine wpE_tk (i:=0) (v:=?_) hE0 rfl ?_ ?_;rotate_left
 ·rintro w ⟨e1,e2,e3⟩;go_simp;try with_reducible rfl
 simp only[Act.put,gD];refine wpE_tk (i:=1) (v:=?_) hE0 rfl ?_ ?_;rotate_left
 ·rintro w ⟨e1,e2,e3⟩;go_simp;try with_reducible rfl
 simp only[Act.put,gD];refine wpE_tk (i:=2) (v:=?_) hE0 rfl ?_ ?_;rotate_left
 ·rintro w ⟨e1,e2,e3⟩;go_simp;try with_reducible rfl
 simp only[Act.put,gD];refine wpE_tk (i:=3) (v:=?_) hE0 rfl ?_ ?_;rotate_left
 ·rintro w ⟨e1,e2,e3⟩;go_simp;try with_reducible rfl
 simp only[Act.put,gD];refine wpE_tk (i:=4) (v:=?_) hE0 rfl ?_ ?_;rotate_left
 ·rintro w ⟨e1,e2,e3⟩;go_simp;try with_reducible rfl
 simp only[Act.put,gD];refine wpE_tk (i:=5) (v:=?_) hE0 rfl ?_ ?_;rotate_left
 ·rintro w ⟨e1,e2,e3⟩;go_simp;try with_reducible rfl
 simp only[Act.put,gD];refine wpE_tk (i:=6) (v:=?_) hE0 rfl ?_ ?_;rotate_left
 ·rintro w ⟨e1,e2,e3⟩;go_simp;try with_reducible rfl
 simp only[Act.put,gD];refine wpE_tk (i:=7) (v:=?_) hE0 rfl ?_ ?_;rotate_left
 ·rintro w ⟨e1,e2,e3⟩;go_simp;try with_reducible rfl
 simp only[Act.put,gD];refine wpE_tk (i:=8) (v:=?_) hE0 rfl ?_ ?_;rotate_left
 ·rintro w ⟨e1,e2,e3⟩;go_simp;try with_reducible rfl
 simp only[Act.put,gD];refine wpE_one (i:=9) (by kernel_rfl) rfl (fun K hK=>?_);go_simp;refine hK _ _ (fun _=>hE0) ?_;clear hK K;try simp only[Act.put,gD]
 refine wpE_one (i:=10) (by kernel_rfl) rfl (fun K hK=>?_);go_simp;refine hK _ _ (fun _=>hE0) ?_;clear hK K;try simp only[Act.put,gD]
 refine wpE_one (i:=11) (by kernel_rfl) rfl (fun K hK=>?_);go_simp;refine hK _ _ (fun h=>absurd rfl h) ?_;clear hK K;try simp only[Act.put,gD]
 refine wpE_done (by kernel_rfl) ?_ _;have hS7:=hX'.out.stored 0 rfl (f*2) (.int .i64 mode);rw[hcs'.out]at hS7;have hT:TreeAt (w5.drew.setCell ⟨g4,f*2,none⟩ (.int .i64 mode)) (.slice A3 ns.length c3) (.slice (some ⟨g4,0,none⟩) fs.length c4) ns (fs.set f ⟨mode,ff.size⟩) vs:=by refine⟨by rw[hlf'.out];exact h'.out.len,hS7.rd 1 rfl,by(have h9:=hS7.rd 0 rfl);rw[hlf'.out];exact h9,fun k u x hu hx=>?_⟩;obtain⟨x0,h1,h2⟩:=hdat.out k u x hu hx;rw[←h2];exact(h'.out.data k u x0 hu h1).below hS7.below
 have hmade:=refmade_any hT hsm'.out hfr'.out;rw[hME'.out]at hmade;have hmade':=Lh hmade;replace hS7:=Lh hS7;clear hT hmade hX' hE0 t0 t1;go_wp2_with(go_at_call 68;refine hmade'.out.mono ?_;rintro e w8 ⟨A8,n8,c8,A9,n9,c9,rfl,hS8m⟩;(have hS9:=hS7.out.join hS8m);obtain⟨mt0,mt1,mi0,mi1,mi2,mi3,mi4,mr0,mr1,mf0,mf1⟩:=do_cells [_,_,_] hS9;replace hS9:=Lh hS9;clear hS8m);obtain⟨Q,hQ,e0,e1⟩:=do_store [_,_,_] (.slice A8 n8 c8) (.slice A9 n9 c9) hS9.out;refine bodyPost_ret (tree_results2 rfl rfl e0 e1) rfl ?_;exact⟨A8,n8,c8,A9,n9,c9,by rw[hde2.out];rfl,Sep.keep (X:=[_]) (Y:=[]) (Sep.fst (X:=[_]) hQ) fun _ W hW h0=>by rw[hNN'.out,hFF'.out];exact hW.kept 0 rfl (by rw[hde2.out,←hME'.out]at h0;(refine Decidable.byContradiction fun hno=>?_);rw[if_neg hno]at h0;cases h0)⟩
def LessT (a b:TN):Prop:=Op.bytesLess a.path b.path=true
theorem posT_ge {p:List UInt8} {xs:List TN} {m:TN} (h:xs[posT xs p]? =some m):Op.bytesLess m.path p=false:=by
 unfold posT at h
 induction xs with
 |nil=>simp at h
 |cons x xs ih=>
  rw[List.takeWhile_cons]at h;cases hx:Op.bytesLess x.path p with
  |true=>rw[hx]at h;simp only[if_true,List.length_cons,gC]at h;exact ih h
  |false=>rw[hx]at h;simp at h;subst h;exact hx
theorem insT_sorted {xs:List TN} {n:TN} (hs:xs.Pairwise LessT) (hn:∀m∈xs,m.path≠n.path):(insT xs n).Pairwise LessT:=by
 unfold insT;have h1:=hs;rw[←List.take_append_drop (posT xs n.path) xs,List.pairwise_append]at h1;obtain⟨ha,hb,hc⟩:=h1;have hlo:∀a∈xs.take (posT xs n.path),LessT a n:=fun a h=>by
  obtain⟨j,hj⟩:=List.mem_iff_getElem?.1 h;rw[List.getElem?_take]at hj;split at hj
  ·rename_i hjl;exact posT_lt hjl hj
  cases hj
 have hhi:∀b∈xs.drop (posT xs n.path),LessT n b:=fun b h=>by
  cases hd:xs.drop (posT xs n.path)with
  |nil=>rw[hd]at h;cases h
  |cons c l=>
   (have hc0:xs[posT xs n.path]? =some c:=by(have h9:(xs.drop (posT xs n.path))[0]? =some c:=by rw[hd];rfl);rw[List.getElem?_drop]at h9;exact h9);have hcn:LessT n c:=bl_tri (posT_ge hc0) (hn c (gG hc0));rw[hd]at h hb;rcases List.mem_cons.1 h with rfl|h
   ·exact hcn
   exact bl_trans hcn ((List.pairwise_cons.1 hb).1 b h)
 rw[List.pairwise_append];refine⟨ha,?_,fun a h1 b h2=>?_⟩
 ·rw[List.pairwise_cons];exact⟨hhi,hb⟩
 rcases List.mem_cons.1 h2 with rfl|h2
 ·exact hlo a h1
 exact hc a h1 b h2
theorem isort_sorted {ns:List TN} (h:ns.Pairwise fun a b=>a.path≠b.path):(isortT ns).Pairwise LessT:=by revert h;refine snoc_rec (P:=fun ns=>ns.Pairwise (fun a b=>a.path≠b.path)→(isortT ns).Pairwise LessT) (fun _=>List.Pairwise.nil) (fun xs x ih h=>?_) ns;rw[List.pairwise_append]at h;rw[isort_snoc];exact insT_sorted (ih h.1) fun m hm=>h.2.2 m ((isort_perm xs).mem_iff.1 hm) x (by simp)
theorem isort_sortT {Ms Ns:List TN} (hp:Ms.Perm Ns) (hne:Ns.Pairwise fun a b=>a.path≠b.path):isortT Ms=sortT Ns:=by
 have hneM:Ms.Pairwise fun a b=>a.path≠b.path:=hp.symm.pairwise hne fun {a b} h e=>h e.symm
 have hs:=isort_sorted hneM;have hpm:(isortT Ms).Perm Ns:=(isort_perm Ms).trans hp;have e:(isortT Ms).map TN.path=sortS (Ns.map TN.path):=by
  refine less_unique ?_ (sortS_less (paths_nodupG hne)) fun x=>?_
  ·rw[List.pairwise_map];exact hs
  rw[(hpm.map TN.path).mem_iff,(sortS_perm _).mem_iff]
 unfold sortT;rw[←e,List.map_map]
 conv=>lhs;rw[←List.map_id (isortT Ms)]
 apply List.map_congr_left;intro n hn;show n=nodeOr Ns n.path
 unfold nodeOr;rw[find_uniq hne (hpm.mem_iff.1 hn)];rfl
end Go.Proofs.YtimkjnbihlgbiaaGreat
namespace Go.Proofs.YtimkjnbihlgbiaaGreat
open Go.RowKit
set_option linter.unusedVariables false
def doA (op:Int) (p tz:List UInt8) (mode ref:Int) (cs:List Value) (S:WSt):WSt:=
 if op=1 then doP1 p tz mode ref cs S else if op=2 then doP2 p tz mode ref cs S else if op=3 then doP3 p tz mode ref cs S else if op=4 then doP4 p tz mode ref cs S
 else if op=5 then doP5 p tz mode ref cs S else if op=6 then doP6 p tz mode ref cs S else if op=7 then doP7 p tz mode ref cs S else if op=8 then doP8 p tz mode ref cs S
 else if op=9 then {S with e:=0} else {S with e:=34}
section
variable {w0 w:World} {W bn bf bk next:Nat} {Ns:List TN} {Fs:List FEnt} {Lk:List (Lit×Value)} {R:List Asn}
theorem rows_not {op:Int} (h:¬(1≤op∧op≤9)):getM rowsL (.int .i64 op)=none:=by
 unfold getM rowsL;have e:∀k:Int,1≤k→k≤9→(Lit.int .i64 k).sameKey (.int .i64 op)=false:=fun k h1 h2=>by simp[Lit.sameKey];omega
 simp[e 1 (by decide) (by decide),e 2 (by decide) (by decide),e 3 (by decide) (by decide),e 4 (by decide) (by decide),e 5 (by decide) (by decide),e 6 (by decide) (by decide),e 7 (by decide) (by decide),e 8 (by decide) (by decide),e 9 (by decide) (by decide)]
theorem do_9 (hS:Sep w0 w (gAs W bn bf bk next Ns Fs Lk R)) {p tz:List UInt8} (mode ref:Int) (sv:Value):
  Calls Tryz.prog 55 #[.pointer (some ⟨W,0,none⟩),insV 9 p tz mode ref,sv] w fun e w'=>e= .returned (.int .i64 0)∧Sep w0 w' (gAs W bn bf bk next Ns Fs Lk R):=by
 have hS0:=hS.bN 49 (insC 9 p tz mode ref);have hrow':=Lh (fun W=>rows_nil (op:=9) (ok:=true) rfl rfl (by decide) (by decide) W);have hS0':=Lh hS0;unfold insC insV strV rv at*;clear hS hS0;go_enter Tryz.func55,Tryz.ntmps55;go_wp2_with(go_at_call 86;refine(hrow'.out _).mono ?_;rintro e w1 ⟨rfl,hb⟩;(have hS1:=(hS0'.out.pure hb).bN 144 #[.bool false,.bool false,.nilFunc]);(have d0:=hS1.bC 1 rfl 0);simp only[gA,gB]at d0;replace hS1:=Lh hS1;clear hb);go_ret;exact⟨rfl,Sep.drop 2 hS1.out⟩
theorem do_not {op:Int} (hop:¬(1≤op∧op≤9)) (o1: -9223372036854775808≤op) (o2:op≤9223372036854775807) (hS:Sep w0 w (gAs W bn bf bk next Ns Fs Lk R)) {p tz:List UInt8} (mode ref:Int) (sv:Value):
  Calls Tryz.prog 55 #[.pointer (some ⟨W,0,none⟩),insV op p tz mode ref,sv] w fun e w'=>e= .returned (.int .i64 34)∧Sep w0 w' (gAs W bn bf bk next Ns Fs Lk R):=by
 have hS0:=hS.bN 49 (insC op p tz mode ref);have hrow':=Lh (fun W=>rows_nil (op:=op) (ok:=false) (by rw[rows_not hop];rfl) (by rw[rows_not hop];rfl) o1 o2 W);have hS0':=Lh hS0;unfold insC insV strV rv at*;clear hS hS0 hop o1 o2;go_enter Tryz.func55,Tryz.ntmps55;go_wp2_with(go_at_call 86;refine(hrow'.out _).mono ?_;rintro e w1 ⟨rfl,hb⟩;(have hS1:=(hS0'.out.pure hb).bN 144 #[.bool false,.bool false,.nilFunc]);(have d0:=hS1.bC 1 rfl 0);simp only[gA,gB]at d0;replace hS1:=Lh hS1;clear hb);go_ret;exact⟨rfl,Sep.drop 2 hS1.out⟩
theorem do_g (hS:Sep w0 w (gAs W bn bf bk next Ns Fs Lk R)) (hG:GGood Ns Fs Lk next) (hLk:Lk.length≤1000) (hNl:Ns.length≤256) (hnx:next≤256) (hFl:Fs.length≤256) {op:Int} (o1: -9223372036854775808≤op) (o2:op≤9223372036854775807) {p tz:List UInt8} (hp9:p.length≤1048576) (ht9:tz.length≤1048576) (mode ref:Int) {sv:Value} {cs:List Value} (hsv:StockAt w0 sv cs):
  Calls Tryz.prog 55 #[.pointer (some ⟨W,0,none⟩),insV op p tz mode ref,sv] w fun e w'=>e= .returned (.int .i64 (doA op p tz mode ref cs ⟨0,Ns,Fs.map cont,next⟩).e)∧GW w0 w' W bn bf bk R (doA op p tz mode ref cs ⟨0,Ns,Fs.map cont,next⟩):=by
 unfold doA;by_cases h1:op=1
 ·subst h1;rw[if_pos rfl];exact do_1 hS hG hLk hNl hnx hFl hp9 ht9 mode ref hsv
 rw[if_neg h1];by_cases h2:op=2
 ·subst h2;rw[if_pos rfl];exact do_2 hS hG hLk hNl hnx hFl hp9 ht9 mode ref hsv
 rw[if_neg h2];by_cases h3:op=3
 ·subst h3;rw[if_pos rfl];exact do_3 hS hG hLk hNl hnx hFl hp9 ht9 mode ref hsv
 rw[if_neg h3];by_cases h4:op=4
 ·subst h4;rw[if_pos rfl];exact do_4 hS hG hLk hNl hnx hFl hp9 ht9 mode ref hsv
 rw[if_neg h4];by_cases h5:op=5
 ·subst h5;rw[if_pos rfl];exact do_5 hS hG hLk hNl hnx hFl hp9 ht9 mode ref hsv
 rw[if_neg h5];by_cases h6:op=6
 ·subst h6;rw[if_pos rfl];exact do_6 hS hG hLk hNl hnx hFl hp9 ht9 mode ref hsv
 rw[if_neg h6];by_cases h7:op=7
 ·subst h7;rw[if_pos rfl];exact do_7 hS hG hLk hNl hnx hFl hp9 ht9 mode ref hsv
 rw[if_neg h7];by_cases h8:op=8
 ·subst h8;rw[if_pos rfl];exact do_8 hS hG hLk hNl hnx hFl hp9 ht9 mode ref hsv
 rw[if_neg h8];by_cases h9:op=9
 ·subst h9;rw[if_pos rfl];refine(do_9 hS mode ref sv).mono fun e w' ⟨he,hs⟩=>⟨he,GW_same hG hs⟩
 rw[if_neg h9];refine(do_not (by omega) o1 o2 hS mode ref sv).mono fun e w' ⟨he,hs⟩=>⟨he,GW_same hG hs⟩
end
theorem run_named {ns:List TN}:∀i m,runK ns i=some m→∀k,k<m→∃n∈ns.take i,n.file=(k:Int):=by
 intro i
 induction i with
 |zero=>intro m h k hk;cases h;omega
 |succ i ih=>
  intro m h k hk;cases hr:runK ns i with
  |none=>rw[runK_none hr 1]at h;cases h
  |some k0=>
   cases hn:ns[i]? with
   |none=>
    have h2:runK ns (i+1)=some k0:=by
     show(match runK ns i with
      |none=>none
      |some k=>match ns[i]? with
       |none=>some k
       |some n=>if nodeOk (ns.take i) (lastQ ns i) k n=true then some (nextK k n)else none)=_
     rw[hr,hn]
    rw[h2]at h;cases h;obtain⟨n,h1,h3⟩:=ih _ hr k hk;exact⟨n,by rw[List.take_add_one];exact List.mem_append_left _ h1,h3⟩
   |some n=>
    rw[runK_succ hr hn]at h;split at h
    ·cases h;rw[List.take_add_one,hn];by_cases hk0:k<k0
     ·obtain⟨n2,h1,h3⟩:=ih k0 hr k hk0;exact⟨n2,List.mem_append_left _ h1,h3⟩
     unfold nextK at hk;split at hk
     ·rename_i hf;exact⟨n,by simp,by omega⟩
     omega
    cases h
def cs0 (fs:List TF) (vs:List Value):List (Nat×Int×Value):=(fs.zip vs).zipIdx.map fun x=>(x.2,x.1.1.mode,x.1.2)
theorem open_cont {fs:List TF} {vs:List Value} {ns:List TN} {Fs:List FEnt} (hl:vs.length=fs.length) (h:FsG fs vs ns fs.length Fs):Fs.map cont=cs0 fs vs:=by
 apply List.ext_getElem?;intro k;unfold cs0;rw[List.getElem?_map,List.getElem?_map,List.getElem?_zipIdx];cases hk:Fs[k]? with
 |none=>(have:fs.length≤k:=by rw[←h.len];exact List.getElem?_eq_none_iff.1 hk);rw[List.getElem?_eq_none (by rw[List.length_zip];omega)];rfl
 |some f=>obtain⟨e,u,h1,h2,h3,h4,h5,h6⟩:=h.at_ k f hk;(have hz:(fs.zip vs)[k]? =some (e,u):=by rw[List.getElem?_zip_eq_some];exact⟨h1,h2⟩);rw[hz];(show some (f.id,f.mode,f.dv)=some (0+k,e.mode,u));rw[h3,h4,h5,Nat.zero_add]
theorem open_good {w:World} {nv fv:Value} {fs:List TF} {vs:List Value} {ns:List TN} {Fs:List FEnt} {Lk:List (Lit×Value)} (hT:TreeAt w nv fv ns fs vs) (ho:LooseOk ns fs) (h:FsG fs vs ns fs.length Fs) (hk:KidsOk Lk ns):GGood ns Fs Lk fs.length:=by
 have hat:∀f∈Fs,∃k e u,k<fs.length∧fs[k]? =some e∧vs[k]? =some u∧f.id=k∧f.mode=e.mode∧f.dv=u∧f.names=((cntF ns k:Nat):Int):=fun f hf=>by obtain⟨k,hk⟩:=List.mem_iff_getElem?.1 hf;obtain⟨e,u,h1,h2,h3,h4,h5,h6⟩:=h.at_ k f hk;exact⟨k,e,u,(gF.1 h1).1,h1,h2,h3,h4,h5,h6⟩
 refine⟨ho.ne,hk,by have:=ho.few;omega,?_,fun f hf=>?_,by have:=ho.few2;omega,fun f hf=>?_,fun n hn=>?_,fun f hf=>?_,fun n hn=>(ho.mem hn).1⟩
 ·rw[List.pairwise_iff_getElem];intro i j hi hj hij;obtain⟨_,_,_,_,h3,_⟩:=h.at_ i _ (gE hi);obtain⟨_,_,_,_,h3',_⟩:=h.at_ j _ (gE hj);omega
 ·obtain⟨k,e,u,hlt,_,_,h3,_⟩:=hat f hf;omega
 ·obtain⟨k,e,u,hlt,_,_,h3,_,_,h6⟩:=hat f hf;rw[h3];obtain⟨n,hn,hnf⟩:=run_named _ _ ho.run k hlt;exact⟨h6,cntF_pos (List.mem_of_mem_take hn) hnf⟩
 ·obtain⟨_,h1,h2,_,h5⟩:=ho.mem hn;by_cases e:n.file= -1
  ·exact Or.inl e
  right;obtain⟨k,hk⟩:∃k:Nat,n.file=(k:Int):=⟨n.file.toNat,by omega⟩;(have hkl:k<Fs.length:=by rw[h.len];omega);obtain⟨_,_,_,_,h3,_⟩:=h.at_ k _ (gE hkl);exact⟨Fs[k],List.getElem_mem hkl,by rw[h3];exact hk,h5 e⟩
 obtain⟨k,e,u,_,h1,h2,_,_,h5,_⟩:=hat f hf;obtain⟨A,c,hu,_⟩:=(hT.data k u e h2 h1).shape;exact⟨A,e.size,c,by rw[h5,hu],ho.size e (gG h1)⟩
end Go.Proofs.YtimkjnbihlgbiaaGreat
