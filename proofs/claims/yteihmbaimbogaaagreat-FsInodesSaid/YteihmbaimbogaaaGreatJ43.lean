/- Parts. -/
import Derived.Test.YteihmbaimbogaaaGreatJ41
import Derived.Test.YteihmbaimbogaaaGreatJ42
set_option linter.unusedVariables false
set_option linter.unusedSimpArgs false
set_option maxRecDepth 100000
set_option maxHeartbeats 20000000
namespace Go.Proofs.YteihmbaimbogaaaGreat
open Go.RowKit
theorem aKK {P:Prop} (h:P:=by obtain⟨Q,hQ,e0,e1⟩:=kS [_,_,_] (.slice A8 n8 c8) (.slice A9 n9 c9) nM.out;refine bodyPost_ret (bR rfl rfl e0 e1) rfl ?_;exact⟨A8,n8,c8,A9,n9,c9,by rw[mU.out];rfl,Sep.keep (X:=[_]) (Y:=[]) (Sep.fst (X:=[_]) hQ) fun _ W hW h0=>by rw[aKL.out,aKM.out];exact hW.kept 0 rfl (by exact Z94)⟩):P:=h
theorem az2 {w:World} {nv fv:Value} {ns:List TN} {fs:List TF} {vs:List Value} (h:bY w nv fv ns fs vs) (ho:fT ns fs) {p tz:List UInt8} (VK:p.length<=9223372036854775807) (VL:tz.length<=9223372036854775807) (mode ref:Int) {sv:Value} {cs:List Value} (hsv:kU w sv cs):
  Calls Tryz.prog 54 #[.agg #[nv,fv],mY 8 p tz mode ref,sv] w fun e w'=>∃A3 n3 c3 A4 n4 c4,e= .returned (.tuple #[.agg #[.slice A3 n3 c3,.slice A4 n4 c4],.int .i64 (JW (fJ 8 p tz mode ref cs) (bD ns p) (if(aZ ns p).file= -1 then ns.set (dP ns p) ⟨(aZ ns p).path, -1,mode⟩else ns) (if(aZ ns p).file= -1 then fs else fs.set (aZ ns p).file.toNat ⟨mode,(iK fs (aZ ns p).file).bs⟩))])/\Sep w w' [.keep fun W=>JW (fJ 8 p tz mode ref cs) (bD ns p) (if(aZ ns p).file= -1 then ns.set (dP ns p) ⟨(aZ ns p).path, -1,mode⟩else ns) (if(aZ ns p).file= -1 then fs else fs.set (aZ ns p).file.toNat ⟨mode,(iK fs (aZ ns p).file).bs⟩)=0->∃vs',bY W (.slice A3 n3 c3) (.slice A4 n4 c4) (tY (if(aZ ns p).file= -1 then ns.set (dP ns p) ⟨(aZ ns p).path, -1,mode⟩else ns)) (tT (if(aZ ns p).file= -1 then ns.set (dP ns p) ⟨(aZ ns p).path, -1,mode⟩else ns) (if(aZ ns p).file= -1 then fs else fs.set (aZ ns p).file.toNat ⟨mode,(iK fs (aZ ns p).file).bs⟩)) vs']:=by
 obtain⟨NX,hNX⟩:∃x,(if(aZ ns p).file= -1 then ns.set (dP ns p) ⟨(aZ ns p).path, -1,mode⟩else ns)=x:=⟨_,rfl⟩;obtain⟨FX,hFX⟩:∃x,(if(aZ ns p).file= -1 then fs else fs.set (aZ ns p).file.toNat ⟨mode,(iK fs (aZ ns p).file).bs⟩)=x:=⟨_,rfl⟩;rw[hNX,hFX];have aKN:=Lh hNX;have aqU:=Lh hFX;clear hNX hFX;have hm:gY ns fs:=⟨by have:=ho.few;omega,by have:=ho.oQ;omega,fun n hn=>by have:=iB (ho.mem hn).1;omega,fun f hf=>by have:=ho.size f hf;omega⟩;have l5:∀n∈ns, -1<=n.file:=fun n hn=>(ho.mem hn).2.1
 have hS0:=qB w nv fv 8 p tz mode ref;have hlo:=fun(W:World) (hW:Below w.heap.size w W)=>jU (h.below hW) hm
 rw[nZ ho]at hlo;have hfi:=fun(W:World) (hW:Below w.heap.size w W)=>jV (8:Int) (p:=p) (tz:=tz) aD aD mode ref (hsv.below hW)
 have l6:=gQ h;have uO:=h.nodes;have hfp:=h.files;obtain⟨A1,pR,rfl,hm1⟩:=h.nodes.shape;obtain⟨A2,pO,rfl,hm2⟩:=h.files.shape;obtain⟨Av,cv,rfl,_⟩:=hsv.1.shape;have b1:(ns.length:Int)<=256:=by have:=ho.few;omega
 have b2:(fs.length:Int)<=256:=by have:=ho.oQ;omega
 obtain⟨zt0,zt1,zi0,zi1,zi2,zi3,zi4,zr0,zr1,zf0,zf1⟩:=aP [] hS0;obtain⟨j0,uX,hj0,hj1,hj2⟩:=info_parts kM;obtain⟨k0,gN,hk0,hk1,hk2⟩:=info_parts jQ;have fV:=Lh hS0;have AQ:=Lh hlo;have nK:=Lh hfi;have oN:=Lh l6;have oV:=Lh uO;have mO:=Lh hfp;have h':=Lh h;have hm':=Lh hm;have ho':=Lh ho;have lL:=Lh l5;have IC:=Lh hsv;clear hS0 hlo hfi l6 uO hfp h hm ho l5 hsv;obtain⟨FD,AZ⟩:∃x,fJ 8 p tz mode ref cs=x:=⟨_,rfl⟩;have vU:=Lh AZ;rw[AZ]at nK ⊢;clear AZ;obtain⟨DE,J2⟩:∃x,JW FD (bD ns p) (NX) (FX)=x:=⟨_,rfl⟩;rw[J2];have acV:=Lh J2;clear J2;unfold mY aC at*;by_cases hf:FD=0
 case neg=>exact Z1
 subst hf;have hde:Hid (DE=if(bD ns p)=0 then(if nT (NX) (FX)=0 then 0 else 31)else(bD ns p)):=by exact ahS
 obtain⟨hvp,hrest⟩:=rC (show qN true false 8 p tz mode ref cs=0 from by have h:=vU.out;exact h);go_enter Tryz.func54,Tryz.ntmps54;go_wp2_with(first |(go_at_call 108;refine(AQ.out _ fV.out.below).mono ?_;rintro e w1 ⟨rfl,hb1⟩;(have hS1:=fV.out.pure hb1);obtain⟨WL,WM,WN,WO,WQ,WR,WS,WT,WU,WV,WW⟩:=aP [] hS1;replace hS1:=Lh hS1;clear hb1)|(go_at_call 109;refine(nK.out _ hS1.out.below).mono ?_;rintro e w2 ⟨rfl,hb2⟩;(have hS2:=hS1.out.pure hb2);obtain⟨bt0,bt1,bi0,bi1,bi2,bi3,bi4,br0,br1,bf0,bf1⟩:=aP [] hS2;replace hS2:=Lh hS2;clear hb2)|(at_builtin;refine aS 0 rfl _ _ 29 rfl 110 k0 _ 3 32 Tryz.underlying29 gN hk0 hk1 hk2 rfl aQ (hS2.out.dX 110 3) _ 0 [] rfl rfl (.slice A1 ns.length pR) ns.length (aV ns) XE (oV.out.below hS2.out.below) (dW _) oH aD ?_));intro v3 w3 dJ hz3;have hr3:Rd w3 3 v3 ns.length (aV ns):=dJ.rd 0 rfl;have J3:=hr3.form;clear hr3;obtain⟨A3,c3,hv3⟩:=J3;subst hv3;obtain⟨gt0,gt1,gi0,gi1,gi2,gi3,gi4,gr0,gr1,gf0,gf1⟩:=aP [_] dJ;replace dJ:=Lh dJ;clear hz3 hS2 hS1 WL WM WN WO WQ WR WS WT WU WV WW bt0 bt1 bi0 bi1 bi2 bi3 bi4 br0 br1 bf0 bf1 zt0 zt1 zi0 zi1 zi2 zi3 zi4 zr0 zr1 zf0 zf1;go_wp2_with(at_builtin;refine aS 0 rfl _ _ 30 rfl 112 j0 _ 2 32 Tryz.underlying30 uX hj0 hj1 hj2 rfl aQ (dJ.out.dX 112 2) _ 0 [] rfl rfl (.slice A2 fs.length pO) fs.length (dM fs vs) XE (mO.out.below dJ.out.below) oN.out oH aD ?_);intro v4 w4 fC WG;have hr4:Rd w4 2 v4 fs.length (dM fs vs):=fC.rd 0 rfl;have FH:=hr4.form;clear hr4;obtain⟨A4,c4,hv4⟩:=FH;subst hv4;obtain⟨ht0,ht1,hi0,hi1,hi2,hi3,hi4,hr0,hr1,hf0,hf1⟩:=aP [_,_] fC;replace fC:=Lh fC;clear WG dJ gt0 gt1 gi0 gi1 gi2 gi3 gi4 gr0 gr1 gf0 gf1;have hlk:=fun(W:World) (hW:Below w.heap.size w W)=>uK (h'.out.below hW) hm'.out lL.out (p:=p) hvp
 unfold aC at hlk;by_cases hle:bZ ns p p.length=0
 case neg=>(have mU:Hid (DE=bZ ns p p.length):=by have h:=hde.out;(have hpe:bD ns p=bZ ns p p.length:=by unfold bD;rw[if_neg hle]);rw[hpe,if_neg hle]at h;exact h);exact Z82
 rw[hle,if_pos rfl]at hlk;rcases mE ns p with⟨hf1,hf2⟩|⟨k,m,hf1,pX,hf2,U3⟩
 ·exact Z64
 have hpe:bD ns p=0:=by unfold bD uZ;rw[if_pos hle,hf1];rfl
 have hno:aZ ns p=m:=by unfold aZ;rw[hf1];rfl
 rw[hpe]at hde;have aKO:=hno;rw[hf2]at hlk;have hkl:=(gF.1 pX).1;have MN:=lL.out m (gG pX);obtain⟨g,o,c,e,_,_,_,hcell⟩:=oV.out.place aD aQ;cases e;have hx:=fun(W:World) (hW:Below w.heap.size w W)=>(hcell _ hW (k*3+1) aD).trans (eP pX 1 aD)
 simp only[KA,aC,gB,gC,<-uS,sM]at hx;have hx':=Lh hx;have IE:=Lh pX;have q0:(0:Int)<=(k:Int):=by omega
 have q1:(k:Int)<(ns.length:Int):=by omega
 have hpi:Hid (dP ns p=k):=Lh (by unfold dP;rw[hf2];rfl);have xP:=Lh hlk;have aKI:=Lh hle;have hkl':=Lh hkl;clear hle hlk hf1 hf2 pX U3 hcell hx hpe hno hkl;rw[if_pos rfl]at hde;have aCB:=hde;have aKP:=Lh aKO;clear hde aKO;have hno:aZ ns p=m:=aKP.out;by_cases hd:m.file= -1
 ·(have hNN:NX=ns.set k ⟨m.path, -1,mode⟩:=by rw[<-aKN.out,hno,if_pos hd,hpi.out]);(have hFF:FX=fs:=by rw[<-aqU.out,hno,if_pos hd]);(have hdb:(m.file== -1)=true:=by rw[hd];rfl);obtain⟨ME,FO⟩:∃x:Int,(if nT (ns.set k ⟨m.path, -1,mode⟩) fs=0 then(0:Int)else 31)=x:=⟨_,rfl⟩;(have mU:Hid (DE=ME):=by have h:=aCB.out;rw[hNN,hFF,FO]at h;exact h);have hcs:(aV ns).set (k*3+2) (.int .i64 mode)=aV (ns.set k ⟨m.path, -1,mode⟩):=PG IE.out 2 _ _ aD (by rw[<-hd];rfl);have hmem:=gG IE.out;have adA:Hid (gY (ns.set k ⟨m.path, -1,mode⟩) fs):=by
   refine⟨by rw[uR];exact hm'.out.few,hm'.out.oQ,fun n hn=>?_,hm'.out.size⟩;rcases aiY hn with h|h
   ·exact hm'.out.short n h
   subst h;exact hm'.out.short m hmem
  have FC:Hid (∀n∈ns.set k ⟨m.path, -1,mode⟩,n.file= -1\/(0<=n.file/\n.file<(fs.length:Int))):=fun n hn=>by
   rcases aiY hn with h|h
   ·have:=ho'.out.mem h;omega
   subst h;exact Or.inl rfl
  obtain⟨g3,cc3,e3,_,_,hn3,_⟩:=fC.out.iU 1 rfl aD;cases e3;have D5:=Lh FO;have aKL:=Lh hNN;have aKM:=Lh hFF;have hcs':=Lh hcs;clear FO hNN hFF hcs hmem hno hd;go_wp2_with(first |(go_at_call 110;refine(iT _ _).mono ?_;rintro e wx ⟨rfl,hwx⟩;have GQ:=hwx.symm;clear hwx;subst GQ)|(go_at_call 94;refine(xP.out _ fC.out.below).mono ?_;rintro e w5 ⟨rfl,hb5⟩;(have hS5:=fC.out.pure hb5);obtain⟨dt0,dt1,di0,di1,di2,di3,di4,dr0,dr1,df0,df1⟩:=aP [_,_] hS5;(have dx:=hx'.out _ hS5.below);(have s0:=hS5.frozenAt 1 rfl (k*3+2));(have s1:=(hS5.cellAt 1 rfl (k*3+2) aD).trans (eP IE.out 2 aD));simp only[KA,aC,gB,gC]at s1;(have mJ:=hS5.stored 1 rfl (k*3+2) (.int .i64 mode));rw[hcs'.out]at mJ;(have hT:bY _ (sV g3 ns.length c3) (.slice A4 fs.length c4) (ns.set k ⟨m.path, -1,mode⟩) fs vs:=⟨h'.out.len,(by(have h9:=mJ.rd 1 rfl);rw[uR];exact h9),mJ.rd 0 rfl,fun k u f hu hf=>(h'.out.data k u f hu hf).below mJ.below⟩);(have jE:=lZ hT adA.out FC.out);rw[D5.out]at jE;(have pQ:=Lh jE);clear hT jE;replace mJ:=Lh mJ;replace hS5:=Lh hS5;clear hb5)|(go_at_call 114;refine pQ.out.mono ?_;rintro e w8 ⟨A8,n8,c8,A9,n9,c9,rfl,AR⟩;(have nM:=mJ.out.join AR);obtain⟨mt0,mt1,mi0,mi1,mi2,mi3,mi4,mr0,mr1,mf0,mf1⟩:=aP [_,_,_] nM;replace nM:=Lh nM;clear AR));exact aKK
 have hfm:=ho'.out.mem (gG IE.out);obtain⟨f,hf⟩:∃f:Nat,m.file=(f:Int):=⟨m.file.toNat,by omega⟩;have rH:f<fs.length:=by omega
 obtain⟨ff,QR⟩:∃ff,fs[f]? =some ff:=⟨_,gE rH⟩;have ahG:iK fs (f:Int)=ff:=by exact aEJ
 have hNN:NX=ns:=by rw[<-aKN.out,hno,if_neg hd]
 have hFF:FX=fs.set f ⟨mode,ff.bs⟩:=by rw[<-aqU.out,hno,if_neg hd,hf,ahG,nA]
 have hdb:((f:Int)== -1)=false:=by rw[mM];omega
 obtain⟨ME,FO⟩:∃x:Int,(if nT ns (fs.set f ⟨mode,ff.bs⟩)=0 then(0:Int)else 31)=x:=⟨_,rfl⟩;have mU:Hid (DE=ME):=by have h:=aCB.out;rw[hNN,hFF,FO]at h;exact h
 have hcs:=P5 h'.out.len QR mode;have hlf:(fs.set f ⟨mode,ff.bs⟩).length=fs.length:=uR;have adA:Hid (gY ns (fs.set f ⟨mode,ff.bs⟩)):=by
  refine⟨hm'.out.few,by rw[hlf];exact hm'.out.oQ,hm'.out.short,fun x hx=>?_⟩;rcases aiY hx with h|h
  ·exact hm'.out.size x h
  subst h;exact hm'.out.size ff (gG QR)
 have FC:Hid (∀n∈ns,n.file= -1\/(0<=n.file/\n.file<((fs.set f ⟨mode,ff.bs⟩).length:Int))):=fun n hn=>by rw[hlf];have:=ho'.out.mem hn;omega
 have hdat:Hid (∀(k:Nat) (u:Value) (x:TF),vs[k]? =some u->(fs.set f ⟨mode,ff.bs⟩)[k]? =some x->∃x0,fs[k]? =some x0/\x0.bs=x.bs):=fun k u x hu hx=>by
  by_cases hkf:f=k
  ·subst hkf;rw[MO rH]at hx;cases hx;exact⟨ff,QR,rfl⟩
  rw[adV hkf]at hx;exact⟨x,hx,rfl⟩
 obtain⟨g4,cc4,e4,_,_,hn4,_⟩:=fC.out.iU 0 rfl aD;cases e4;have D5:=Lh FO;have aKL:=Lh hNN;have aKM:=Lh hFF;have hcs':=Lh hcs;have aKQ:=Lh hlf;have hxf:∀W,Below w.heap.size w W->W.cell? ⟨g,o+k*3+1,none⟩=some (iV (f:Int)):=fun W hW=>by rw[hx'.out W hW,hf]
 have az1:=Lh hxf;have hfa:=jP QR (gE (by rw[h'.out.len];exact rH)) 0 aD;simp only[tfC,gB,sM]at hfa;have VD:=Lh hfa;have q2:(0:Int)<=(f:Int):=by omega
 have q3:(f:Int)<(fs.length:Int):=by omega
 clear FO hNN hFF hcs hno hd hf QR ahG hlf hxf hfm hx' hfa MN;go_wp2_with(first |(go_at_call 110;refine(iT _ _).mono ?_;rintro e wx ⟨rfl,hwx⟩;have GQ:=hwx.symm;clear hwx;subst GQ)|(go_at_call 94;refine(xP.out _ fC.out.below).mono ?_;rintro e w5 ⟨rfl,hb5⟩;(have hS5:=fC.out.pure hb5);obtain⟨dt0,dt1,di0,di1,di2,di3,di4,dr0,dr1,df0,df1⟩:=aP [_,_] hS5;(have dx:=az1.out _ hS5.below);replace hS5:=Lh hS5;clear hb5));have hX:=hS5.out.drew;have hE0:=And.intro (aP [_,_] hX).t0 (And.intro (az1.out _ hX.below) (aP [_,_] hX).i3);have t0:=hX.frozenAt 0 rfl (f*2);have t1:=(hX.cellAt 0 rfl (f*2) aD).trans VD.out;have QO:=Lh hX;clear hX hS5;refine aJ (S:=fun w'=>w'.cell? ⟨w.heap.size,0,none⟩=some (.slice (some ⟨g,o,none⟩) ns.length pR)/\w'.cell? ⟨g,o+k*3+1,none⟩=some (iV (f:Int))/\w'.cell? ⟨w.heap.size+1,3,none⟩=some (iV mode)) 11 ?_;refine aA 0 hE0 ?_;refine aA 1 hE0 ?_;refine aA 2 hE0 ?_;refine aA 3 hE0 ?_;refine aA 4 hE0 ?_;refine aA 5 hE0 ?_;refine aA 6 hE0 ?_;refine aA 7 hE0 ?_;refine aA 8 hE0 ?_;refine aW 9 (fun _=>hE0) ?_;refine aW 10 (fun _=>hE0) ?_;refine aW 11 (fun h=>absurd rfl h) ?_;refine aR fZ ?_ _;have mJ:=QO.out.stored 0 rfl (f*2) (.int .i64 mode);rw[hcs'.out]at mJ;have hT:bY (w5.drew.setCell ⟨g4,f*2,none⟩ (.int .i64 mode)) (.slice A3 ns.length c3) (sV g4 fs.length c4) ns (fs.set f ⟨mode,ff.bs⟩) vs:=by refine⟨by rw[aKQ.out];exact h'.out.len,mJ.rd 1 rfl,by(have h9:=mJ.rd 0 rfl);rw[aKQ.out];exact h9,fun k u x hu hx=>?_⟩;obtain⟨x0,h1,h2⟩:=hdat.out k u x hu hx;have h3:=(h'.out.data k u x0 hu h1).below mJ.below;unfold TF.size at h3 ⊢;rw[h2]at h3;exact h3
 have jE:=lZ hT adA.out FC.out;rw[D5.out]at jE;have pQ:=Lh jE;replace mJ:=Lh mJ;clear hT jE QO hE0 t0 t1;go_wp2_with(go_at_call 114;refine pQ.out.mono ?_;rintro e w8 ⟨A8,n8,c8,A9,n9,c9,rfl,AR⟩;(have nM:=mJ.out.join AR);obtain⟨mt0,mt1,mi0,mi1,mi2,mi3,mi4,mr0,mr1,mf0,mf1⟩:=aP [_,_,_] nM;replace nM:=Lh nM;clear AR);exact aKK
theorem aqV {w:World} {nv fv:Value} {T:TR} {vs:List Value} (h:bY w nv fv T.1 T.2 vs) (ho:fT T.1 T.2) (op:Int) {p tz:List UInt8} (VK:p.length<=9223372036854775807) (VL:tz.length<=9223372036854775807) (mode ref:Int) {sv:Value} {cs:List Value} (hsv:kU w sv cs) {b:List UInt8} (hbb:op=6->0<=ref->ref<(cs.length:Int)->qM w (cs.getD ref.toNat (.slice none 0 0)) b.length b/\b.length<=9223372036854775807):
  Calls Tryz.prog 54 #[.agg #[nv,fv],mY op p tz mode ref,sv] w fun e w'=>∃A3 n3 c3 A4 n4 c4,e= .returned (.tuple #[.agg #[.slice A3 n3 c3,.slice A4 n4 c4],.int .i64 (xQ op p tz mode ref cs b T)])/\Sep w w' [.keep fun W=>xQ op p tz mode ref cs b T=0->∃vs',bY W (.slice A3 n3 c3) (.slice A4 n4 c4) (y8 op p tz mode b T).1 (y8 op p tz mode b T).2 vs']:=by
 by_cases hb:1<=op/\op<=9
 case neg=>refine(aqR h ho hb VK VL mode ref hsv).mono ?_;rintro e w' ⟨rfl,hb2⟩;(have e1:xQ op p tz mode ref cs b T=34:=by unfold xQ;rw[if_pos aD]);rw[e1];exact⟨none,0,0,none,0,0,rfl,Sep.keep (X:=[]) (Y:=[]) ((Sep.nil w).pure hb2) fun _ W _ h0=>absurd h0 aQ⟩
 by_cases h9:op=9
 ·subst h9;refine(azQ h ho VK VL mode ref hsv).mono ?_;rintro e w' ⟨A3,n3,c3,A4,n4,c4,vs',rfl,hs⟩;(have e1:xQ 9 p tz mode ref cs b T=0:=by unfold xQ;rw[if_neg aQ,if_pos rfl]);(have e2:y8 9 p tz mode b T=T:=by unfold y8;rw[if_pos rfl]);rw[e1,e2];exact⟨A3,n3,c3,A4,n4,c4,rfl,Sep.keep (X:=[_]) (Y:=[]) hs fun _ W hW _=>⟨vs',hW.kept 0 rfl⟩⟩
 have e1:xQ op p tz mode ref cs b T=JW (fJ op p tz mode ref cs) (y7 op p tz T.1) (NZ op p tz mode T) (VY op p tz mode b T):=by unfold xQ;rw[if_neg aD,if_neg h9]
 have e2:y8 op p tz mode b T=(tY (NZ op p tz mode T),tT (NZ op p tz mode T) (VY op p tz mode b T)):=by unfold y8;rw[if_neg h9]
 rw[e1,e2];have h18:op=1\/op=2\/op=3\/op=4\/op=5\/op=6\/op=7\/op=8:=by omega
 clear e1 e2 hb h9;rcases h18 with rfl|rfl|rfl|rfl|rfl|rfl|rfl|rfl
 ·exact azU h ho VK VL mode ref hsv
 ·exact azV h ho VK VL mode ref hsv
 ·exact azW h ho VK VL mode ref hsv
 ·exact azX h ho VK VL mode ref hsv
 ·exact azY h ho VK VL mode ref hsv
 ·exact azZ h ho VK VL mode ref hsv (hbb rfl)
 ·exact az0 h ho VK VL mode ref hsv
 exact az2 h ho VK VL mode ref hsv
theorem Z53 {P:Prop} (h:P:=by clear hr;go_enter Tryz.func55,Tryz.ntmps55;go_wp2_with fail;all_goals first |omega|(go_ret;subst hr2;exact⟨rfl,hb⟩)):P:=h
theorem awJ (a b c d:Int) (w:World):Calls Tryz.prog 55 #[.agg #[iV a,iV b],.agg #[iV c,iV d]] w fun e w'=>e= .returned (.bool (decide (a<=c/\b<=d)))/\Below w.heap.size w w':=by
 have hb:=((Below.refl w.heap.size w).alloc (jL _) (.cells #[iV a,iV b] 28)).alloc (by rw[World.size_alloc];omega) (.cells #[iV c,iV d] 28);have hS:=((Sep.nil w).bN 28 #[iV a,iV b]).bN 28 #[iV c,iV d];simp only[World.size_alloc]at hS;have z0:=hS.bC 1 rfl 0;have z1:=hS.bC 1 rfl 1;have z2:=hS.bC 0 rfl 0;have z3:=hS.bC 0 rfl 1;simp only[gA,gB,gC]at z0 z1 z2 z3;clear hS;obtain⟨r,hr⟩:∃r,r=decide (a<=c/\b<=d):=⟨_,rfl⟩;rw[<-hr];by_cases h1:a<=c
 ·(have hr2:r=decide (b<=d):=by rw[hr];simp[h1]);exact Z53
 have hr2:r=false:=by rw[hr];simp[h1]
 exact Z53
def rE (nv fv:Value) (T:TR):bK:=.keep fun W=>∃vs,bY W nv fv T.1 T.2 vs
def adB (nv fv:Value) (B I:Int):Array Value:=#[nv,fv,iV B,iV I]
def adC (b:Nat) (nv fv:Value) (B I:Int) (op:Int) (p tz:List UInt8) (mode ref:Int) (x y:Value):List bK:=[.box (b+1+1) 32 #[x,y],.box (b+1) 38 (XZ op p tz mode ref),.box b 34 (adB nv fv B I)]
section
variable {w:World} {nv fv:Value} {T:TR} {vs:List Value} {op:Int} {p tz:List UInt8} {mode ref:Int} {sv:Value} {cs:List Value} {B I:Int}
theorem awK (w:World) (nv fv:Value) (B I:Int) (op:Int) (p tz:List UInt8) (mode ref:Int):Sep w (((w.alloc (.cells (adB nv fv B I) 34)).alloc (.cells (XZ op p tz mode ref) 38)).alloc (.cells #[.slice none 0 0,.slice none 0 0] 32)) (adC w.heap.size nv fv B I op p tz mode ref (.slice none 0 0) (.slice none 0 0)):=by have h:=(((Sep.nil w).bN 34 (adB nv fv B I)).bN 38 (XZ op p tz mode ref)).bN 32 #[.slice none 0 0,.slice none 0 0];simp only[World.size_alloc]at h;exact h
structure az3 (b:Nat) (W:World) (nv fv:Value) (B I:Int) (op:Int) (p tz:List UInt8) (mode ref:Int) (x y:Value):Prop where
 t0:W.cell? ⟨b,0,none⟩=some nv
 t1:W.cell? ⟨b,1,none⟩=some fv
 t2:W.cell? ⟨b,2,none⟩=some (iV B)
 t3:W.cell? ⟨b,3,none⟩=some (iV I)
 i0:W.cell? ⟨b+1,0,none⟩=some (iV op)
 i1:W.cell? ⟨b+1,1,none⟩=some (.string ⟨p.toArray⟩)
 i2:W.cell? ⟨b+1,2,none⟩=some (.string ⟨tz.toArray⟩)
 i3:W.cell? ⟨b+1,3,none⟩=some (iV mode)
 i4:W.cell? ⟨b+1,4,none⟩=some (iV ref)
 r0:W.cell? ⟨b+1+1,0,none⟩=some x
 r1:W.cell? ⟨b+1+1,1,none⟩=some y
 f0:W.frozen? ⟨b+1+1,0,none⟩=false
 f1:W.frozen? ⟨b+1+1,1,none⟩=false
theorem uM {w W:World} {b:Nat} {x y:Value} (P:List bK) (h:Sep w W (P++adC b nv fv B I op p tz mode ref x y)):az3 b W nv fv B I op p tz mode ref x y:=by
 have g:∀k,(P++adC b nv fv B I op p tz mode ref x y)[P.length+k]? =(adC b nv fv B I op p tz mode ref x y)[k]? :=fun k=>by rw[D6 aD,PN]
 have g0:=(g 0).trans rfl;have g1:=(g 1).trans rfl;have g2:=(g 2).trans rfl;exact⟨h.bC _ g2 0,h.bC _ g2 1,h.bC _ g2 2,h.bC _ g2 3,h.bC _ g1 0,h.bC _ g1 1,h.bC _ g1 2,h.bC _ g1 3,h.bC _ g1 4,h.bC _ g0 0,h.bC _ g0 1,h.bF _ g0 0,h.bF _ g0 1⟩
theorem V5 {w W:World} {b:Nat} {x y:Value} (P:List bK) (u v:Value) (h:Sep w W (P++adC b nv fv B I op p tz mode ref x y)):Sep w ((W.setCell ⟨b+1+1,0,none⟩ u).setCell ⟨b+1+1,1,none⟩ v) (P++adC b nv fv B I op p tz mode ref u v):=by
 have g0:(P++adC b nv fv B I op p tz mode ref x y)[P.length]? =some (.box (b+1+1) 32 #[x,y]):=by rw[D6 (jL _),oO];rfl
 have h1:=h.bS _ g0 0 u;rw[QT _ _ (jL _),oO]at h1;have g1:(P++(adC b nv fv B I op p tz mode ref x y).set 0 (.box (b+1+1) 32 (#[x,y].setIfInBounds 0 u)))[P.length]? =some (.box (b+1+1) 32 (#[x,y].setIfInBounds 0 u)):=by rw[D6 (jL _),oO];rfl
 have h2:=h1.bS _ g1 1 v;rw[QT _ _ (jL _),oO]at h2;exact h2
end
theorem awL {N:List TN} {F:List TF} (h:nT N F=0):fT (tY N) (tT N F):=by
 unfold nT at h;cases hb:l9 N F with
 |true=>rw[hb]at h;cases h
 |false=>
  rw[hb,if_neg aQ]at h;(have hf:mX (tY N) (tT N F)=true:=by(refine Decidable.byContradiction fun hno=>?_);rw[if_neg hno]at h;cases h);unfold l9 at hb;rw[MQ,MQ,QS,QS,aeA]at hb;obtain⟨⟨h1,h2⟩,h3⟩:=hb;(have l1:(tY N).length=N.length:=by unfold tY;rw[kV,AO]);(have l2:(tT N F).length<=N.length:=by unfold tT;rw[kV];have:=MF (fU N);rw[AO]at this;exact this);have l3:∀f∈tT N F,f.size<=8192:=fun f hf=>by
   unfold tT at hf;obtain⟨id,_,rfl⟩:=List.mem_map.1 hf;unfold iK;rw[gH];cases hk:F[id.toNat]? with
   |none=>exact iF _
   |some x=>have:=h3 x (gG hk);unfold acL at this;rw[uP]at this;(show x.size<=8192);omega
  (have hbd:l9 (tY N) (tT N F)=false:=by unfold l9;rw[MQ,MQ,QS,QS,aeA];refine⟨⟨by omega,by omega⟩,fun f hf=>?_⟩;have:=l3 f hf;unfold acL;rw[uP];omega);have hl:=JS (tY N) (tT N F);unfold NN at hl;rw[hbd,if_neg aQ,hf,if_pos rfl,if_neg aQ]at hl;by_cases hr:runK (tY N) (tY N).length=some (tT N F).length/\(tT N F).all (fun f=>fQ f.mode)=true
  ·exact⟨by omega,by omega,l3,List.all_eq_true.1 hr.2,hr.1⟩
  rw[if_neg hr]at hl;cases hl
theorem aqW {op:Int} {p tz:List UInt8} {mode ref:Int} {cs:List Value} {b:List UInt8} {T:TR} (h9:op≠9) (h:xQ op p tz mode ref cs b T=0):fT (y8 op p tz mode b T).1 (y8 op p tz mode b T).2:=by
 unfold y8;rw[if_neg h9];unfold xQ at h;by_cases hr:op<1\/9<op
 ·rw[if_pos hr]at h;cases h
 rw[if_neg hr,if_neg h9]at h;unfold JW at h;by_cases h1:fJ op p tz mode ref cs=0
 ·rw[if_pos h1]at h;by_cases h2:y7 op p tz T.1=0
  ·rw[if_pos h2]at h;by_cases h3:nT (NZ op p tz mode T) (VY op p tz mode b T)=0
   ·exact awL h3
   rw[if_neg h3]at h;cases h
  rw[if_neg h2]at h;exact absurd h h2
 rw[if_neg h1]at h;exact absurd h h1
theorem fT.sm {ns:List TN} {fs:List TF} (ho:fT ns fs):gY ns fs:=⟨by have:=ho.few;omega,by have:=ho.oQ;omega,fun n hn=>by have:=iB (ho.mem hn).1;omega,fun f hf=>by have:=ho.size f hf;omega⟩
section
variable {w:World} {nv fv:Value} {T:TR} {vs:List Value} {op:Int} {p tz:List UInt8} {mode ref:Int} {sv:Value} {cs:List Value} {b:List UInt8} {B I:Int}
def aCC (w:World) (nv fv:Value) (T:TR) (op:Int) (p tz:List UInt8) (mode ref:Int) (cs:List Value) (b:List UInt8) (B I:Int) (e:Ending) (w':World):Prop:=
 (∃E9 fv',e= .returned (.tuple #[.agg #[E9,fv'],iV 0])/\op≠9/\CU B I op p tz mode ref cs b T=0/\Sep w w' [rE E9 fv' (y8 op p tz mode b T)])\/
 (e= .returned (.tuple #[.agg #[nv,fv],iV (CU B I op p tz mode ref cs b T)])/\¬(op≠9/\CU B I op p tz mode ref cs b T=0)/\Below w.heap.size w w')
def anK (E:Int) (nv fv:Value) (T:TR):bK:=.keep fun W=>E=0->∃vs,bY W nv fv T.1 T.2 vs
theorem az4 {W:World} {X:bK} {As:List bK} {nv fv:Value} {T2:TR} (h:Sep w W (X::anK 0 nv fv T2::As)):Sep w W [rE nv fv T2]:=by
 have h2:Sep w W ([anK 0 nv fv T2]++As):=h.drop 1;have h3:=Sep.keep (P:=fun W=>∃vs,bY W nv fv T2.1 T2.2 vs) h2 fun _ W hW=>(Sep.kept (P:=fun W=>(0:Int)=0->∃vs',bY W nv fv T2.1 T2.2 vs') 0 hW rfl) rfl
 exact Sep.fst (X:=[_]) h3
theorem az5 {W:World} {X:bK} {As:List bK} {nv fv:Value} {T2:TR} (h:Sep w W (X::anK 0 nv fv T2::As)):∃vs,bY W nv fv T2.1 T2.2 vs:=
 (Sep.kept (P:=fun W=>(0:Int)=0->∃vs',bY W nv fv T2.1 T2.2 vs') 1 h rfl) rfl
def awM (nv fv sv:Value) (T:TR) (op:Int) (p tz:List UInt8) (mode ref:Int) (cs:List Value) (b:List UInt8) (W:World):Prop:=
 Calls Tryz.prog 54 #[.agg #[nv,fv],mY op p tz mode ref,sv] W fun e w'=>∃A3 n3 c3 A4 n4 c4,e= .returned (.tuple #[.agg #[.slice A3 n3 c3,.slice A4 n4 c4],.int .i64 (xQ op p tz mode ref cs b T)])/\Sep W w' [.keep fun W=>xQ op p tz mode ref cs b T=0->∃vs',bY W (.slice A3 n3 c3) (.slice A4 n4 c4) (y8 op p tz mode b T).1 (y8 op p tz mode b T).2 vs']
theorem alI (h:bY w nv fv T.1 T.2 vs) (ho:fT T.1 T.2) (hrd:∀W,Below w.heap.size w W->awM nv fv sv T op p tz mode ref cs b W):
  Calls Tryz.prog 15 #[.agg #[nv,fv,.int .i64 B,.int .i64 I],mY op p tz mode ref,sv] w (aCC w nv fv T op p tz mode ref cs b B I):=by
 have hS0:=awK w nv fv B I op p tz mode ref;unfold awM at hrd;have hdo:=Lh hrd;have hlo:=Lh fun(h9:op≠9) (h0:xQ op p tz mode ref cs b T=0)=>aqW h9 h0
 obtain⟨A1,pR,rfl,hm1⟩:=h.nodes.shape;obtain⟨A2,pO,rfl,hm2⟩:=h.files.shape;generalize T.1.length=n1 at*;generalize T.2.length=n2 at*;obtain⟨P,hP⟩:∃P,P=aCC w (.slice A1 n1 pR) (.slice A2 n2 pO) T op p tz mode ref cs b B I:=⟨_,rfl⟩;rw[<-hP];have hP':=Lh hP;obtain⟨E,hE⟩:∃E,E=xQ op p tz mode ref cs b T:=⟨_,rfl⟩;obtain⟨T2,hT2⟩:∃T2,T2=y8 op p tz mode b T:=⟨_,rfl⟩;rw[<-hE,<-hT2]at hdo hlo;have hWE:Hid (op≠9->CU B I op p tz mode ref cs b T=if E=0 then(if wdB T2.1 T2.2<=B/\wdI T2.1 T2.2<=I then 0 else 27)else E):=Lh fun h9=>by unfold CU;rw[if_neg h9,hE,hT2]
 have az6:=Lh hT2;have fV:=Lh hS0;have z:=uM [] hS0;obtain⟨zt0,zt1,zt2,zt3,zi0,zi1,zi2,zi3,zi4,zr0,zr1,zf0,zf1⟩:=z;clear hS0 hE hT2 h hm1 hm2 hP ho;unfold mY XZ adB aC at*;by_cases h9:op=9
 ·subst h9;have hb0:=(((Sep.nil w).bN 34 #[.slice A1 n1 pR,.slice A2 n2 pO,iV B,iV I]).bN 38 #[iV 9,.string ⟨p.toArray⟩,.string ⟨tz.toArray⟩,iV mode,iV ref]).bN 32 #[.slice A1 n1 pR,.slice A2 n2 pO];simp only[World.size_alloc]at hb0;have aFB:=Lh hb0;clear hb0;go_enter Tryz.func15,Tryz.ntmps15;go_wp2_with fail;have e0:=aFB.out.bC 0 rfl 0;have e1:=aFB.out.bC 0 rfl 1;refine bodyPost_ret (bR rfl rfl e0 e1) rfl ?_;rw[hP'.out];exact .inr ⟨by unfold CU;rfl,fun h=>h.1 rfl,aFB.out.below⟩
 have J7:(op==9)=false:=by simpa using h9
 have h9':=Lh h9;have hwt:Hid (∀(W:World) (nv fv:Value) vs',bY W nv fv T2.1 T2.2 vs'->E=0->Calls Tryz.prog 20 #[.agg #[nv,fv]] W fun e w'=>e= .returned (yN (wdB T2.1 T2.2) (wdI T2.1 T2.2))/\Below W.heap.size W w'):=Lh fun W nv fv vs' hT h0=>X5 hT (hlo.out h9 h0).sm
 clear h9 hlo;go_enter Tryz.func15,Tryz.ntmps15;go_wp2_with(first |(go_at_call 54;refine(hdo.out _ fV.out.below).mono ?_;rintro e w2 ⟨A3,n3,c3,A4,n4,c4,rfl,hs⟩;(have hS2:=fV.out.join hs);obtain⟨WL,WM,at2,at3,WN,WO,WQ,WR,WS,WT,WU,WV,WW⟩:=uM [_] hS2;replace hS2:=Lh hS2;clear hs zt0 zt1 zt2 zt3 zi0 zi1 zi2 zi3 zi4 zr0 zr1 zf0 zf1 fV));obtain⟨As,hAs⟩:∃As,As=(.box w2.heap.size 32 #[.slice A3 n3 c3,.slice A4 n4 c4]:bK)::([anK E (.slice A3 n3 c3) (.slice A4 n4 c4) T2]++adC w.heap.size (.slice A1 n1 pR) (.slice A2 n2 pO) B I op p tz mode ref (.slice none 0 0) (.slice none 0 0)):=⟨_,rfl⟩;have hd:Hid (Sep w (w2.alloc (.cells #[.slice A3 n3 c3,.slice A4 n4 c4] 32)).drew As):=Lh (by rw[hAs];exact(hS2.out.bN 32 #[.slice A3 n3 c3,.slice A4 n4 c4]).drew);have hC:Hid (∀W,Sep w W As->W.cell? ⟨w2.heap.size,0,none⟩=some (.slice A3 n3 c3)/\W.cell? ⟨w2.heap.size,1,none⟩=some (.slice A4 n4 c4)/\W.cell? ⟨w.heap.size,2,none⟩=some (iV B)/\W.cell? ⟨w.heap.size,3,none⟩=some (iV I)):=Lh fun W hW=>by rw[hAs]at hW;have z:=uM [_,_] hW;exact⟨hW.bC 0 rfl 0,hW.bC 0 rfl 1,z.t2,z.t3⟩
 have aFC:=Lh hAs;have hE1:=hC.out _ hd.out;clear hS2 hAs WL WM at2 at3 WN WO WQ WR WS WT WU WV WW;refine aJ (S:=fun W=>W.cell? ⟨w2.heap.size,0,none⟩=some (.slice A3 n3 c3)/\W.cell? ⟨w2.heap.size,1,none⟩=some (.slice A4 n4 c4)/\W.cell? ⟨w.heap.size,2,none⟩=some (iV B)/\W.cell? ⟨w.heap.size,3,none⟩=some (iV I)) 10 ?_;obtain⟨w3,hw3⟩:∃x,x=(w2.alloc (.cells #[.slice A3 n3 c3,.slice A4 n4 c4] 32)).drew:=⟨_,rfl⟩;rw[<-hw3]at hd hE1 ⊢;clear hw3;by_cases hE0:E=0
 ·have hw0:=hWE.out h9'.out;rw[if_pos hE0]at hw0;replace hw0:=Lh hw0;clear hWE;subst hE0;refine aA 0 hE1 ?_;refine aA 1 hE1 ?_;refine aA 2 hE1 ?_;refine aA 5 hE1 ?_;refine aA 6 hE1 ?_;refine aA 3 hE1 ?_;(refine bG 4 fun K hK=>?_);go_simp;go_at_call 20;have hk3:Sep w w3 As:=hd.out;rw[aFC.out]at hk3;obtain⟨vs2,hT3⟩:=az5 hk3;clear hk3;refine(hwt.out _ _ _ _ hT3 rfl).mono ?_;clear hT3;rintro e w4 ⟨rfl,hb4⟩;have h4:=Lh (hd.out.pure hb4);have M7:=hC.out _ h4.out;clear hb4 hd hE1;refine hK _ _ (fun _=>M7) ?_;clear hK K;(try simp only[Act.put,gD]);unfold yN;(refine bG 7 fun K hK=>?_);go_simp;go_at_call 55;obtain⟨fb,hfb⟩:∃fb,fb=decide (wdB T2.1 T2.2<=B/\wdI T2.1 T2.2<=I):=⟨_,rfl⟩;refine(awJ _ _ _ _ _).mono ?_;rw[<-hfb];have ay0:=Lh hfb;clear hfb;rintro e w5 ⟨rfl,hb5⟩;have h5:=Lh (h4.out.pure hb5);have yB:=hC.out _ h5.out;clear hb5 h4 M7;refine hK _ _ (fun _=>yB) ?_;clear hK K;(try simp only[Act.put,gD]);refine aW 8 (fun _=>yB) ?_;refine aW 9 (fun _=>yB) ?_;refine aR fZ ?_ _;obtain⟨e0,e1,e2,e3⟩:=yB;have h6:Sep w w5 As:=h5.out;rw[aFC.out]at h6;replace h6:=Lh h6;obtain⟨WL,WM,at2,at3,WN,WO,WQ,WR,WS,WT,WU,WV,WW⟩:=uM [_,_] h6.out;cases fb with
  |true=>
   have hcond:wdB T2.1 T2.2<=B/\wdI T2.1 T2.2<=I:=of_decide_eq_true ay0.out.symm;go_wp2_with fail;have nM:=V5 [_,_] (.slice A3 n3 c3) (.slice A4 n4 c4) h6.out;have z:=uM [_,_] nM;refine bodyPost_ret (bR rfl rfl z.r0 z.r1) rfl ?_;rw[hP'.out];refine .inl ⟨.slice A3 n3 c3,.slice A4 n4 c4,rfl,h9'.out,?_,?_⟩
   ·rw[hw0.out,if_pos hcond]
   rw[<-az6.out];exact az4 nM
  |false=>have hcond:¬(wdB T2.1 T2.2<=B/\wdI T2.1 T2.2<=I):=of_decide_eq_false ay0.out.symm;have h27:=hw0.out;rw[if_neg hcond]at h27;have h27':=Lh h27;clear h27;go_wp2_with fail;have nM:=V5 [_,_] (.slice A1 n1 pR) (.slice A2 n2 pO) h6.out;have z:=uM [_,_] nM;refine bodyPost_ret (bR rfl rfl z.r0 z.r1) rfl ?_;rw[hP'.out];refine .inr ⟨by rw[h27'.out];rfl,fun h=>absurd h.2 (by rw[h27'.out];decide),nM.below⟩
 have hb0:(E==0)=false:=by simpa using hE0
 have hbn:(E !=0)=true:=by simpa using hE0
 have aKR:=Lh hE0;clear hE0;refine aA 0 hE1 ?_;refine aA 1 hE1 ?_;refine aA 2 hE1 ?_;refine uY (i:=3) hE1 rfl ?_;simp only[Act.put,gD];refine uY (i:=4) hE1 rfl ?_;simp only[Act.put,gD];refine uY (i:=5) hE1 rfl ?_;simp only[Act.put,gD];refine uY (i:=6) hE1 rfl ?_;simp only[Act.put,gD];refine uY (i:=7) hE1 rfl ?_;simp only[Act.put,gD];refine uY (i:=8) hE1 rfl ?_;simp only[Act.put,gD];refine aW 9 (fun _=>hE1) ?_;refine aR fZ ?_ _;obtain⟨e0,e1,e2,e3⟩:=hE1;have h6:Sep w w3 As:=hd.out;rw[aFC.out]at h6;replace h6:=Lh h6;obtain⟨WL,WM,at2,at3,WN,WO,WQ,WR,WS,WT,WU,WV,WW⟩:=uM [_,_] h6.out;have hEE:=hWE.out h9'.out;rw[if_neg aKR.out]at hEE;have aKS:=Lh hEE;clear hEE;go_wp2_with fail;have nM:=V5 [_,_] (.slice A1 n1 pR) (.slice A2 n2 pO) h6.out;have z:=uM [_,_] nM;refine bodyPost_ret (bR rfl rfl z.r0 z.r1) rfl ?_;rw[hP'.out];refine .inr ⟨by rw[aKS.out];rfl,fun h=>absurd h.2 (by rw[aKS.out];exact aKR.out),nM.below⟩
end
end Go.Proofs.YteihmbaimbogaaaGreat
