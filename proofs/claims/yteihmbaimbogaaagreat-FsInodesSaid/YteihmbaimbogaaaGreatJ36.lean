/- Parts. -/
import Derived.Test.YteihmbaimbogaaaGreatJ35
set_option linter.unusedVariables false
set_option linter.unusedSimpArgs false
set_option maxRecDepth 100000
set_option maxHeartbeats 20000000
namespace Go.Proofs.YteihmbaimbogaaaGreat
open Go.RowKit
theorem CK (Ns:List TN) (p:List UInt8):∀(h:List UInt8) (x y:List UInt8),p=x++(h++y)->(47:UInt8)∉h->bZ Ns p (h++y).length=bZ Ns p y.length
 |[],_,_,_,_=>rfl
 |c::h,x,y,e,hn=>by
  (have h1:c≠47:=fun e=>hn (by simp[e]));have ih:=CK Ns p h (x++[c]) y (by rw[e];simp) (fun hm=>hn (AY _ hm));rw[<-ih];show bZ Ns p ((h++y).length+1)=_
  conv=>lhs;unfold bZ
  (have e2:p[p.length-((h++y).length+1)]? =some c:=by(have:p.length-((h++y).length+1)=x.length:=by rw[e];simp);rw[this,e,D6 (jL _),oO];rfl);rw[e2,if_neg (by simpa using h1)]
theorem E8 (Ns:List TN) {p a r:List UInt8} (e:p=a++47::r):bZ Ns p (r.length+1)=match iM Ns a with
  |none=>21
  |some n=>if 0<=n.file then 22 else bZ Ns p r.length:=by
 have hl:p.length-(r.length+1)=a.length:=by rw[e];simp
 have e2:p[p.length-(r.length+1)]? =some 47:=by rw[hl,e,D6 (jL _),oO];rfl
 have e3:p.take (p.length-(r.length+1))=a:=by rw[hl,e];simp
 conv=>lhs;unfold bZ
 rw[e2,if_pos rfl,e3];rfl
theorem GX (Ns:List TN) {p a r:List UInt8} (e:p=a++r) (h:(47:UInt8)∉r):bZ Ns p r.length=0:=by have:=CK Ns p r a [] (by simpa using e) h;rw[yX56]at this;exact this
theorem ag7 {r:List UInt8} {s:List UInt8} {t:List (List UInt8)} (h:splitB r=s::t):(47:UInt8)∉s/\((t=[]/\r=s)\/∃r',t≠[]/\r=s++47::r'/\splitB r'=t):=by
 induction r generalizing s t with
 |nil=>change [[]]=s::t at h;cases h;exact⟨by simp,Or.inl ⟨rfl,rfl⟩⟩
 |cons c r ih=>
  rw[iQ]at h;split at h
  ·rename_i hc;cases h;exact⟨by simp,Or.inr ⟨r,jF r,by rw[hc];rfl,rfl⟩⟩
  rename_i hc;cases hr:splitB r with
  |nil=>exact absurd hr (jF r)
  |cons x y=>
   rw[hr]at h;cases h;obtain⟨h1,h2⟩:=ih hr;refine⟨fun hm=>?_,?_⟩
   ·rcases iX.1 hm with e|e
    ·exact hc e.symm
    exact h1 e
   rcases h2 with⟨h3,h4⟩|⟨r',h3,h4,h5⟩
   ·exact Or.inl ⟨h3,by rw[h4]⟩
   exact Or.inr ⟨r',h3,by rw[h4];rfl,h5⟩
theorem Z5 {P:Prop} (h:P:=by
 have aP2:=Lh hpy;have NR:LE=match iM ns Y with
   |none=>21
   |some n=>if 0<=n.file then 22 else bZ ns p r'.length:=by
  rw[aEA];exact E8 ns hpy
 clear hpy aEA;rcases mE ns Y with⟨hf1,WK⟩|⟨kk,m,hf1,pX,WK,U3⟩
 ·(have hz:Hid (LE=21):=by rw[hf1]at NR;exact NR);have azB:=Lh WK;clear hf1 WK NR;go_wp2_with(go_at_call 150;refine mO.out.mono ?_;rintro e w3 ⟨rfl,hb3⟩;rw[hYd.out,azB.out];(have dJ:=hS'.out.pure hb3);(have y0:=dJ.bC 1 rfl 0);(have y1:=dJ.bC 1 rfl 1);simp only[gA,gB,gC]at y0 y1;replace dJ:=Lh dJ;clear hb3)
  go_ret2
  exact⟨by rw[<-aEB.out,hz.out];rfl,dJ.out.below⟩
 have hkl:=(gF.1 pX).1;obtain⟨g,o,c,e,_,_,_,hcell⟩:=oV.out.place aD aQ;cases e;have hx:=fun(W:World) (hW:Below w.heap.size w W)=>(hcell _ hW (kk*3+1) aD).trans (eP pX 1 aD)
 simp only[KA,aC,gB,gC,<-uS,sM]at hx;have hx':=Lh hx;have k0:(0:Int)<=(kk:Int):=by omega
 have k1:(kk:Int)<(ns.length:Int):=by omega
 have MN:=nK.out m (gG pX);have azB:=Lh WK;by_cases hmd:m.file= -1
 ·(have hmb:(m.file != -1)=false:=by rw[hmd];rfl);(have hz:Hid (LE=bZ ns p r'.length):=by rw[hf1]at NR;simp only at NR;rw[if_neg aD]at NR;exact NR);clear hf1 pX WK U3 hx hcell MN hkl hmd NR;go_wp2_with(go_at_call 150;refine mO.out.mono ?_;rintro e w3 ⟨rfl,hb3⟩;rw[hYd.out,azB.out];(have dJ:=hS'.out.pure hb3);(have y0:=dJ.bC 1 rfl 0);(have y1:=dJ.bC 1 rfl 1);simp only[gA,gB,gC]at y0 y1;(have y2:=hx'.out _ dJ.below);replace dJ:=Lh dJ;clear hb3);go_roundw
  case rel=>exact⟨_,i+1,r',by omega,rfl,by go_num,Or.inr ⟨by omega,hYd.out▸aP2.out⟩,hz,aP3.out,dJ.out⟩
  case measure=>(simp[intOf];omega)
 have hmb:(m.file != -1)=true:=by simpa using hmd
 have hz:Hid (LE=22):=by rw[hf1]at NR;simp only at NR;rw[if_pos aD]at NR;exact NR
 clear hf1 pX WK U3 hx hcell MN hkl hmd NR;go_wp2_with(go_at_call 150;refine mO.out.mono ?_;rintro e w3 ⟨rfl,hb3⟩;rw[hYd.out,azB.out];(have dJ:=hS'.out.pure hb3);(have y0:=dJ.bC 1 rfl 0);(have y1:=dJ.bC 1 rfl 1);simp only[gA,gB,gC]at y0 y1;(have y2:=hx'.out _ dJ.below);replace dJ:=Lh dJ;clear hb3)
 go_ret2
 exact⟨by rw[<-aEB.out,hz.out];rfl,dJ.out.below⟩):P:=h
theorem uK {w:World} {nv fv:Value} {ns:List TN} {fs:List TF} {vs:List Value} (h:bY w nv fv ns fs vs) (hm:gY ns fs) (hfi:∀n∈ns, -1<=n.file) {p:List UInt8} (hv:aU p=true):
  Calls Tryz.prog 94 #[.agg #[nv,fv],aC p] w fun e w'=>e= .returned (.tuple #[iV (if bZ ns p p.length=0 then vG ns p else -1),iV (bZ ns p p.length)])/\Below w.heap.size w w':=by
 have hS0:=(Sep.nil w).bN 32 #[nv,fv];have aJA:=iB hv;have avC:=fun(W:World) (hW:Below w.heap.size w W) (x:ByteArray)=>O7 (h.below hW) hm.few x.data.toList
 have uO:=h.nodes;obtain⟨A1,pR,rfl,hm1⟩:=h.nodes.shape;obtain⟨A2,pO,rfl,hm2⟩:=h.files.shape;have hnm:=MB (p:=p) (w.alloc (.cells #[.slice A1 ns.length pR,.slice A2 fs.length pO] 32)) aD;have hnl:CF p=splitB p:=by unfold CF;rw[if_pos hv]
 rw[hnl]at hnm;obtain⟨LE,hLE⟩:∃x,bZ ns p p.length=x:=⟨_,rfl⟩;rw[hLE];obtain⟨RI,hRI⟩:∃x,(if LE=0 then vG ns p else -1)=x:=⟨_,rfl⟩;rw[hRI];have aEB:=Lh hRI;clear hRI;have U1:=Lh avC;have hnm':=Lh hnm;have fV:=Lh hS0;have oV:=Lh uO;have nK:=Lh hfi;have aP6:=Lh hLE;have b1:(ns.length:Int)<=300:=by have:=hm.few;omega
 have hcnt:=Lh (L6 p);clear h hm hS0 avC hnm hnl uO hfi hLE hv;unfold aC at*;go_enter Tryz.func94,Tryz.ntmps94;go_wp2_with(go_at_call 149;refine hnm'.out.mono ?_;rintro e w1 ⟨lv,L,rfl,hL,hSL⟩;(have hS1:=fV.out.join hSL);(have hll:L.length<=101:=by(have h1:=congrArg List.length hL);(have h2:=hcnt.out);rw[kV]at h1;omega);(have hpos:0<L.length:=by(have h1:=congrArg List.length hL);rw[kV]at h1;(have:=List.length_pos_iff.2 (jF p));omega);obtain⟨gl,cl,rfl,_,_⟩:=hS1.iU 0 rfl hpos;replace hS1:=Lh hS1;replace hL:=Lh hL;clear hSL);have hLl:Hid (L.length<=101):=hll;go_loopw[7,8] (fun av iv wr=>∃(x:ByteArray) (i:Nat) (r:List UInt8),i<L.length/\av= .string x/\iv=iV i/\Hid ((i=0/\x.data.toList=[]/\r=p)\/(0<i/\p=x.data.toList++47::r))/\Hid (LE=bZ ns p r.length)/\Hid (splitB r=(L.drop i).map iE)/\Sep w wr [XX (sV gl L.length cl) L,.box w.heap.size 32 #[.slice A1 ns.length pR,.slice A2 fs.length pO]]) (fun _ iv _=>L.length-(intOf iv).toNat)
 case atStart=>exact⟨⟨#[]⟩,0,p,hpos,rfl,rfl,Or.inl ⟨rfl,rfl,rfl⟩,aP6.out.symm,(by show _=_;rw[YJ];exact hL.out.symm),hS1.out⟩
 obtain⟨x,i,r,hi,rfl,rfl,hxr,hlr,hsr,hS⟩:=hrel;have c0:(0:Int)<=(i:Int):=by omega
 have z0:=hS.bC 1 rfl 0;have z1:=hS.bC 1 rfl 1;simp only[gA,gB,gC]at z0 z1;have cl1:(1:Int)<=(L.length:Int):=by omega
 obtain⟨s,hs⟩:∃s,L[i]? =some s:=⟨_,gE hi⟩;have hsp:splitB r=iE s::(L.drop (i+1)).map iE:=by have h:=hsr.out;rw[WX hi,mH]at h;rw[gE hi]at hs;cases hs;exact h
 obtain⟨hn47,hnx⟩:=ag7 hsp;by_cases hlt:i<L.length-1
 ·(have c2:(i:Int)<(L.length:Int)-1:=by omega);(have c3:(i:Int)<(L.length:Int):=by omega);(have s0:wr.cell? ⟨gl,i,none⟩=some (.string s):=by rw[hS.cellAt 0 rfl i aD,lQ,hs];rfl);have hS':=Lh hS;(have hne:(L.drop (i+1)).map iE≠[]:=by intro h;have:=congrArg List.length h;rw[kV,pU]at this;simp at this;omega);obtain⟨r',h1,h2,h3⟩:∃r',(L.drop (i+1)).map iE≠[]/\r=iE s++47::r'/\splitB r'=(L.drop (i+1)).map iE:=by
   rcases hnx with⟨h,_⟩|h
   ·exact absurd h hne
   exact h
  have aP3:=Lh h3;have hss:s.size<=100:=by
   have e1:=Lib.size_eq s;have e2:r.length<=p.length:=by
    rcases hxr.out with⟨_,_,e⟩|⟨_,e⟩
    ·rw[e];exact jL _
    rw[e];simp;omega
   (have e3:(iE s).length<=r.length:=by rw[h2];simp);have e4:(iE s).length=s.data.toList.length:=rfl;omega
  clear hsp hne h1 h3 hs hnx hS;rcases hxr.out with⟨hi0,hx0,hr0⟩|⟨hi0,hpx⟩
  ·(have c9:¬(0:Int)<(i:Int):=by omega);(have c10:¬0<i:=by omega);have mO:=Lh (U1.out _ hS'.out.below (x++s));obtain⟨Y,hY⟩:∃Y,Y=(x++s).data.toList:=⟨_,rfl⟩;have hYd:=Lh hY.symm;(have hpy:p=Y++47::r':=by rw[hY,Go.Joins.data_append,hx0,<-hr0,h2];rfl);(have aEA:LE=bZ ns p (r'.length+1):=by rw[hlr.out,h2];exact CK ns p (iE s) [] (47::r') (by rw[<-hr0,h2];rfl) hn47);(have hxx:x.size<=100:=by have e1:=Lib.size_eq x;rw[e1,hx0];simp);clear hi0 hx0 hr0 h2 hn47 hxr hlr hsr hY;exact Z5
  (have c9:(0:Int)<(i:Int):=by omega);have mO:=Lh (U1.out _ hS'.out.below (x++⟨#[47]⟩++s));obtain⟨Y,hY⟩:∃Y,Y=(x++⟨#[47]⟩++s).data.toList:=⟨_,rfl⟩;have hYd:=Lh hY.symm;(have hpy:p=Y++47::r':=by rw[hY,Go.Joins.data_append,Go.Joins.data_append,hpx,h2];(show _=(x.data.toList++[47]++iE s)++47::r');simp);(have hxx:x.size<=100:=by have e1:=Lib.size_eq x;(have e2:x.data.toList.length<=p.length:=by rw[hpx];simp);omega);(have hxy:(x++⟨#[47]⟩:ByteArray).size<=101:=by rw[ByteArray.size_append];have:(⟨#[47]⟩:ByteArray).size=1:=rfl;omega);(have aEA:LE=bZ ns p (r'.length+1):=by rw[hlr.out,h2];exact CK ns p (iE s) (x.data.toList++[47]) (47::r') (by rw[hpx,h2];simp) hn47);clear hpx h2 hn47 hxr hlr hsr hY;exact Z5
 have c2:¬(i:Int)<(L.length:Int)-1:=by omega
 have hnil:(L.drop (i+1)).map iE=[]:=by rw[aa2 aD];rfl
 have hz:Hid (LE=0):=by
  rcases hnx with⟨_,h⟩|⟨_,h,_⟩
  ·(have h4:(47:UInt8)∉r:=by rw[h];exact hn47);(show _=_);rw[hlr.out];rcases hxr.out with⟨_,_,e⟩|⟨_,e⟩
   ·rw[e]at h4 ⊢;exact GX ns (a:=[]) rfl h4
   exact GX ns (a:=x.data.toList++[47]) (by simpa using e) h4
  exact absurd hnil h
 have hfp:=U1.out _ hS.below ⟨p.toArray⟩;have mO:=Lh hfp;have hS':=Lh hS;clear hS hfp hsp hnx hn47 hnil hs;go_wp2_with(go_at_call 150;refine mO.out.mono ?_;rintro e w3 ⟨rfl,hb3⟩;(have dJ:=hS'.out.pure hb3);replace dJ:=Lh dJ;clear hb3)
 go_ret2
 exact⟨by rw[<-aEB.out,hz.out];rfl,dJ.out.below⟩
theorem qA {w:World} {nv fv:Value} {ns:List TN} {fs:List TF} {vs:List Value} (h:bY w nv fv ns fs vs) (hm:gY ns fs) (hfi:∀n∈ns, -1<=n.file) {p:List UInt8} (hv:aU p=true):
  Calls Tryz.prog 112 #[.agg #[nv,fv],aC p] w fun e w'=>e= .returned (iV (dI ns p))/\Below w.heap.size w w':=by
 have hS0:=(Sep.nil w).bN 32 #[nv,fv];have hlk:=uK (h.below hS0.below) hm hfi hv;have uO:=h.nodes;obtain⟨A1,pR,rfl,hm1⟩:=h.nodes.shape;obtain⟨A2,pO,rfl,hm2⟩:=h.files.shape;have fV:=Lh hS0;have hh:dI ns p=if bZ ns p p.length=0 then(if 0<=vG ns p then 23 else 0)else bZ ns p p.length:=by
  unfold dI uZ;rcases mE ns p with⟨h1,h2⟩|⟨k,m,h1,_,h2,_⟩
  ·rw[h1,h2];rfl
  rw[h1,h2,if_pos (show(0:Int)<=(k:Int)by omega)];rfl
 obtain⟨AE,hAE⟩:∃x,dI ns p=x:=⟨_,rfl⟩;rw[hAE]at hh ⊢;clear hAE;generalize bZ ns p p.length=LE at hlk hh;generalize vG ns p=k at hlk hh;unfold aC at*;by_cases hz:LE=0
 ·subst hz;rw[if_pos rfl]at hlk hh;have xP:=Lh hlk;have hh':=Lh hh;clear hlk hh hS0 h;by_cases hk:0<=k
  ·go_enter Tryz.func112,Tryz.ntmps112;go_wp2_with(go_at_call 94;refine xP.out.mono ?_;rintro e w1 ⟨rfl,hb1⟩;(have hS1:=fV.out.pure hb1);(have y0:=hS1.bC 0 rfl 0);(have y1:=hS1.bC 0 rfl 1);simp only[gA,gB,gC]at y0 y1;replace hS1:=Lh hS1;clear hb1);go_ret;exact⟨by rw[hh'.out,if_pos hk];rfl,hS1.out.below⟩
  go_enter Tryz.func112,Tryz.ntmps112;go_wp2_with(go_at_call 94;refine xP.out.mono ?_;rintro e w1 ⟨rfl,hb1⟩;(have hS1:=fV.out.pure hb1);(have y0:=hS1.bC 0 rfl 0);(have y1:=hS1.bC 0 rfl 1);simp only[gA,gB,gC]at y0 y1;replace hS1:=Lh hS1;clear hb1);go_ret;exact⟨by rw[hh'.out,if_neg aD];rfl,hS1.out.below⟩
 rw[if_neg hz]at hlk hh;have hzb:(LE !=0)=true:=by simpa using hz
 have xP:=Lh hlk;have hh':=Lh hh;clear hlk hh hS0 hz h;go_enter Tryz.func112,Tryz.ntmps112;go_wp2_with(go_at_call 94;refine xP.out.mono ?_;rintro e w1 ⟨rfl,hb1⟩;(have hS1:=fV.out.pure hb1);(have y0:=hS1.bC 0 rfl 0);(have y1:=hS1.bC 0 rfl 1);simp only[gA,gB,gC]at y0 y1;replace hS1:=Lh hS1;clear hb1);go_ret;exact⟨by rw[hh'.out];rfl,hS1.out.below⟩
theorem Z20 {P:Prop} (h:P:=by
 clear hlk hS0 h hfe h1 h2 uO hx hcell hpr hnl hd MN h7 h8;go_enter Tryz.func111,Tryz.ntmps111;go_wp2_with(go_at_call 94;refine xP.out.mono ?_;rintro e w1 ⟨rfl,hb1⟩;(have hS1:=fV.out.pure hb1);(have y0:=hS1.bC 0 rfl 0);(have y1:=hS1.bC 0 rfl 1);simp only[gA,gB,gC]at y0 y1;(have y2:=hx'.out _ hS1.below);replace hS1:=Lh hS1;clear hb1)
 go_ret2
 exact⟨rfl,hS1.out.below⟩):P:=h
theorem Z68 {P:Prop} (h:P:=by
 go_enter Tryz.func111,Tryz.ntmps111;go_wp2_with(go_at_call 94;refine xP.out.mono ?_;rintro e w1 ⟨rfl,hb1⟩;(have hS1:=fV.out.pure hb1);(have y0:=hS1.bC 0 rfl 0);(have y1:=hS1.bC 0 rfl 1);simp only[gA,gB,gC]at y0 y1;replace hS1:=Lh hS1;clear hb1)
 go_ret2
 exact⟨rfl,hS1.out.below⟩):P:=h
theorem yZ {w:World} {nv fv:Value} {ns:List TN} {fs:List TF} {vs:List Value} (h:bY w nv fv ns fs vs) (hm:gY ns fs) (hfi:∀n∈ns, -1<=n.file) {p:List UInt8} (hv:aU p=true):
  Calls Tryz.prog 111 #[.agg #[nv,fv],aC p] w fun e w'=>e= .returned (.tuple #[iV (if gZ ns p=0 then vG ns p else -1),iV (gZ ns p)])/\Below w.heap.size w w':=by
 have hS0:=(Sep.nil w).bN 32 #[nv,fv];have hlk:=uK (h.below hS0.below) hm hfi hv;have uO:=h.nodes;obtain⟨A1,pR,rfl,hm1⟩:=h.nodes.shape;obtain⟨A2,pO,rfl,hm2⟩:=h.files.shape;have fV:=Lh hS0;have oV:=Lh uO;unfold aC at*;by_cases hz:bZ ns p p.length=0
 ·rw[hz,if_pos rfl]at hlk;rcases mE ns p with⟨h1,h2⟩|⟨k,m,h1,h8,h2,h7⟩
  ·(have hfe:gZ ns p=21:=by unfold gZ bD uZ;rw[hz,h1];rfl);rw[hfe,if_neg aQ];rw[h2]at hlk;have xP:=Lh hlk;clear hlk hS0 h hfe h1 h2 uO;exact Z68
  (have hpr:bD ns p=0:=by unfold bD uZ;rw[hz,h1];rfl);(have hnl:AJ ns p=m:=by unfold AJ aZ;rw[if_pos hz,h1];rfl);have MN:=hfi m (gG h8);have hkl:=(gF.1 h8).1;obtain⟨g,o,c,e,_,_,_,hcell⟩:=oV.out.place aD aQ;cases e;(have hx:=fun(W:World) (hW:Below w.heap.size w W)=>(hcell _ hW (k*3+1) aD).trans (eP h8 1 aD));simp only[KA,aC,gB,gC,<-uS,sM]at hx;have hx':=Lh hx;(have k0:(0:Int)<=(k:Int):=by omega);(have k1:(k:Int)<(ns.length:Int):=by omega);(have b1:(ns.length:Int)<=300:=by have:=hm.few;omega);rw[h2]at hlk;have xP:=Lh hlk;by_cases hd:m.file= -1
  ·(have hfe:gZ ns p=24:=by unfold gZ;rw[hpr,if_pos rfl,hnl,if_pos aD]);(have hdb:(m.file== -1)=true:=by rw[hd];rfl);rw[hfe,if_neg aQ];exact Z20
  (have hfe:gZ ns p=0:=by unfold gZ;rw[hpr,if_pos rfl,hnl,if_neg aD]);(have hdb:(m.file== -1)=false:=by simpa using hd);rw[hfe,if_pos rfl,h2];exact Z20
 have hfe:gZ ns p=bZ ns p p.length:=by unfold gZ bD;rw[if_neg hz,if_neg hz]
 rw[hfe,if_neg hz];rw[if_neg hz]at hlk;generalize bZ ns p p.length=LE at hlk hz ⊢;have hzb:(LE !=0)=true:=by simpa using hz
 have xP:=Lh hlk;clear hlk hS0 hz h hfe;exact Z68
end Go.Proofs.YteihmbaimbogaaaGreat
namespace Go.Proofs.YteihmbaimbogaaaGreat
theorem JU :∀(k:Nat) {p q:List UInt8},p.length<=k->splitB p=splitB q->p=q
 |k,p,q,hk,h=>by
  rcases mW p with⟨_,_,h1⟩|⟨a,b,e,_,_,h1⟩<;>rcases mW q with⟨_,_,h2⟩|⟨c,d,e2,_,_,h2⟩
  ·rw[h1,h2]at h;exact(List.cons.inj h).1
  ·rw[h1,h2]at h;have:=congrArg List.length h;have h5:=jF c;(have h6:(splitB c).length≠0:=fun e=>h5 (zC e));rw[kN,xL,xL]at this;omega
  ·rw[h1,h2]at h;have:=congrArg List.length h;have h5:=jF a;(have h6:(splitB a).length≠0:=fun e=>h5 (zC e));rw[kN,xL,xL]at this;omega
  rw[h1,h2]at h;obtain⟨h3,h4⟩:=List.append_inj' h rfl;cases k with
  |zero=>rw[e]at hk;simp at hk
  |succ k=>have:=JU k (p:=a) (q:=c) (by rw[e]at hk;simp at hk;omega) h3;rw[e,e2,this,(List.cons.inj h4).1]
theorem aaJ {n:TN} {p:List UInt8}:bW n=splitB p↔n.path=p:=
 ⟨fun h=>JU _ (jL _) h,fun h=>by unfold bW;rw[h]⟩
theorem aaK (ns:List TN) (p:List UInt8):kG ns (splitB p)=iM ns p:=by unfold kG iM;congr 1;funext n;rw[aeF,rJ,rJ];exact aaJ
theorem GY (Ns:List TN) (p:List UInt8) (k:Nat):bZ Ns p (k+1)=if p[p.length-(k+1)]? =some 47 then(match iM Ns (p.take (p.length-(k+1)))with
 |none=>21
 |some n=>if 0<=n.file then 22 else bZ Ns p k)else bZ Ns p k:=rfl
theorem ak5 (ns:List TN) (k:Nat) (K:Key):mQ ns (k+1) K=(mQ ns k K.dropLast).bind (stepT ns K):=rfl
theorem ag8 (Ns:List TN) {p a b:List UInt8} (e:p=a++47::b):∀k,k<=a.length->bZ Ns p (k+(b.length+1))=if bZ Ns a k=0 then bZ Ns p (b.length+1)else bZ Ns a k
 |0,_=>by rw[BF];(show _=if(0:Int)=0 then _ else _);rw[if_pos rfl]
 |k+1,hk=>by
  (have e1:k+1+(b.length+1)=k+(b.length+1)+1:=by omega);rw[e1];(have hpl:p.length=a.length+(b.length+1):=by rw[e];simp);(have e2:p.length-(k+(b.length+1)+1)=a.length-(k+1):=by omega);have ih:=ag8 Ns e k aD;rw[GY,GY Ns a,e2];(have e3:p[a.length-(k+1)]? =a[a.length-(k+1)]? :=by rw[e,G8 aD]);(have e4:p.take (a.length-(k+1))=a.take (a.length-(k+1)):=by rw[e,arV aD]);rw[e3,e4];by_cases h:a[a.length-(k+1)]? =some 47
  ·rw[if_pos h,if_pos h];cases hf:iM Ns (a.take (a.length-(k+1)))with
   |none=>simp
   |some n=>
    simp only;by_cases h0:0<=n.file
    ·rw[if_pos h0,if_pos h0];simp
    rw[if_neg h0,if_neg h0,ih]
  rw[if_neg h,if_neg h,ih]
def upT (ns:List TN) (K:Key):Int:=match mQ ns K.length K with
 | .error e=>e
 | .ok c=>if jN c=true then 0 else 22
theorem anF {ns:List TN} (hf:∀n∈ns, -1<=n.file):∀(k:Nat) (p:List UInt8),p.length<=k->bZ ns p p.length=upT ns (splitB p).dropLast
 |k,p,hk=>by
  rcases mW p with⟨hs,_,h1⟩|⟨a,b,e,hb,_,h1⟩
  ·rw[h1];exact GX ns (a:=[]) (r:=p) rfl hs
  cases k with
  |zero=>rw[e]at hk;simp at hk
  |succ k=>
   have ih:=anF hf k a (by rw[e]at hk;simp at hk;omega);(have hpl:p.length=a.length+(b.length+1):=by rw[e];simp);have h2:=ag8 ns e a.length (jL _);rw[E8 ns e,GX ns (a:=a++[47]) (r:=b) (by rw[e];simp) hb]at h2;rw[hpl,h2,h1,WY,ih];obtain⟨K,x,hK⟩:∃K x,splitB a=K++[x]:=⟨_,_,xA a⟩;(have hl:(splitB a).length=K.length+1:=by rw[hK];simp);have e3:upT ns (splitB a)=match mQ ns K.length K with
     | .error e=>e
     | .ok c=>if jN c=true then(match kG ns (splitB a)with|none=>21|some n=>if n.file= -1 then 0 else 22)else 22:=by
    unfold upT;rw[hl,ak5];(have e4:(splitB a).dropLast=K:=by rw[hK,WY]);rw[e4];cases ht:mQ ns K.length K with
    |error e=>rfl
    |ok c=>
     (show(match stepT ns (splitB a) c with| .error e=>e| .ok c=>if jN c=true then(0:Int)else 22)=_);unfold stepT;by_cases hc:jN c=true
     ·simp only[hc,if_true];cases hn:kG ns (splitB a)with
      |none=>rfl
      |some n=>simp only[jN,uP]
     simp only[hc,if_neg,I8,not_false_eq_true]
   rw[e3];(have e4:(splitB a).dropLast=K:=by rw[hK,WY]);rw[e4];unfold upT;cases ht:mQ ns K.length K with
   |error e=>simp only;rw[if_neg];rcases GM _ _ ht with rfl|rfl<;>decide
   |ok c=>
    simp only;by_cases hc:jN c=true
    ·rw[if_pos hc,if_pos rfl,if_pos hc,aaK];cases hn:iM ns a with
     |none=>rfl
     |some n=>
      have hm:=hf n (PM hn);simp only;by_cases h0:0<=n.file
      ·rw[if_pos h0,if_neg aD]
      rw[if_neg h0,if_pos aD]
    rw[if_neg hc,if_neg aQ,if_neg hc]
section
variable {ns:List TN} (hf:∀n∈ns, -1<=n.file) (p:List UInt8)
include hf
theorem acN :GL ns (splitB p)=if bZ ns p p.length=0 then .ok (iM ns p)else .error (bZ ns p p.length):=by
 rw[anF hf _ p (jL _),<-aaK];unfold GL upT;cases ht:mQ ns (splitB p).dropLast.length (splitB p).dropLast with
 |error e=>
  simp only;rw[if_neg]
  ·rfl
  rcases GM _ _ ht with rfl|rfl<;>decide
 |ok c=>
  (show(if jN c=true then _ else _)=_);by_cases hc:jN c=true
  ·simp only[hc,if_true]
  simp only[hc,if_neg,I8,not_false_eq_true];rfl
omit hf in
theorem Z49 {P:Prop} (h:P:=by
 rw[if_pos h,if_pos h];cases hn:iM ns p with
 |none=>rfl
 |some n=>rfl):P:=h
theorem U9 :sO ns (splitB p)=dI ns p:=by
 unfold sO dI uZ;rw[acN hf];by_cases h:bZ ns p p.length=0
 ·exact Z49
 rw[if_neg h,if_neg h]
theorem CL :kQ ns (splitB p)=if bD ns p=0 then .ok (aZ ns p)else .error (bD ns p):=by
 unfold kQ bD uZ aZ;rw[acN hf];by_cases h:bZ ns p p.length=0
 ·exact Z49
 rw[if_neg h,if_neg h,if_neg h]
theorem VB :yV ns (splitB p)=if gZ ns p=0 then .ok (aZ ns p)else .error (gZ ns p):=by
 unfold yV gZ;rw[CL hf];by_cases h:bD ns p=0
 ·rw[if_pos h,if_pos h];(have hl:bZ ns p p.length=0:=by(refine Decidable.byContradiction fun hno=>?_);unfold bD at h;rw[if_neg hno]at h;exact hno h);(have hn:AJ ns p=aZ ns p:=by unfold AJ;rw[if_pos hl]);rw[hn];have hm: -1<=(aZ ns p).file:=by
   unfold aZ;cases hn:iM ns p with
   |none=>decide
   |some n=>exact hf n (PM hn)
  simp only;by_cases h1:(aZ ns p).file= -1
  ·rw[if_pos h1,if_pos (show(aZ ns p).file<0 by omega)];rfl
  rw[if_neg h1,if_neg (show ¬(aZ ns p).file<0 by omega)];rfl
 rw[if_neg h,if_neg h,if_neg h]
end
theorem ag9 (ns:List TN) (hv:∀n∈ns,aU n.path=true) {p:List UInt8} (hp:p≠[]):iI ns (splitB p)=mD ns p:=by
 unfold iI iR mD;rw[<-arW];apply List.countP_congr;intro n hn;rw[rJ,uP];unfold bW eY;rw[if_pos (hv n hn)];rcases mW n.path with⟨_,h2,h1⟩|⟨a,b,e,_,h2,h1⟩
 ·rw[h1,h2];constructor
  ·intro h;exact absurd h.symm (jF p)
  intro h;exact absurd h.symm hp
 rw[h1,WY,h2];have e5:n.path.take a.length=a:=by rw[e,aeH];rfl
 rw[e5];exact⟨fun h=>JU _ (jL _) h,fun h=>by rw[h]⟩
theorem avM (ns:List TN) (hv:∀n∈ns,aU n.path=true):iI ns []=mD ns []:=by
 unfold iI iR mD;rw[<-arW];apply List.countP_congr;intro n hn;rw[rJ,uP];unfold bW eY;rw[if_pos (hv n hn)];rcases mW n.path with⟨_,h2,h1⟩|⟨a,b,e,_,h2,h1⟩
 ·rw[h1,h2];exact⟨fun _=>rfl,fun _=>rfl⟩
 rw[h1,WY,h2];have e5:n.path.take a.length=a:=by rw[e,aeH];rfl
 rw[e5];constructor
 ·intro h;exact absurd h (jF a)
 intro h;have hv2:=hv n hn;rw[e,h]at hv2;exact absurd hv2 (by simp[aU,JE])
open Go.RowKit
def CO (xs:List TN) (p:List UInt8):Nat:=(xs.takeWhile fun m=>Op.bytesLess m.path p).length
def acO (xs:List TN) (n:TN):List TN:=xs.take (CO xs n.path)++n::xs.drop (CO xs n.path)
def fU (ns:List TN):List TN:=ns.foldl acO []
theorem acP {p:List UInt8}:∀ {xs:List TN} {k:Nat},(∀(j:Nat) (m:TN),j<k->xs[j]? =some m->Op.bytesLess m.path p=true)->k<=xs.length->(∀m,xs[k]? =some m->Op.bytesLess m.path p=false)->CO xs p=k
 |[],k,_,hk,_=>by simp at hk;subst hk;rfl
 |x::xs,0,_,_,h2=>by unfold CO;rw[al7,h2 x rfl];rfl
 |x::xs,k+1,h1,hk,h2=>by have ih:=acP (xs:=xs) (k:=k) (fun j m hj hm=>h1 (j+1) m aD (by simpa using hm)) (by simpa using hk) (fun m hm=>h2 m (by simpa using hm));have hx:=h1 0 x aD rfl;unfold CO at ih ⊢;rw[al7,if_pos hx,nV,ih]
theorem JV (xs:List TN) (n:TN):fU (xs++[n])=acO (fU xs) n:=by unfold fU;rw[QZ];rfl
theorem ak6 {ns:List TN} {i:Nat} {n:TN} (h:ns[i]? =some n):fU (ns.take (i+1))=acO (fU (ns.take i)) n:=by rw[BC,h];exact JV _ _
theorem aqE (xs:List TN) (n:TN):(acO xs n).Perm (n::xs):=by unfold acO;refine rF.trans ?_;rw[DL]
theorem oK (ns:List TN):(fU ns).Perm ns:=by refine p9 (P:=fun ns=>(fU ns).Perm ns) (XC _) (fun xs x ih=>?_) ns;rw[JV];exact(aqE _ _).trans ((ih.cons x).trans (aiX _ _).symm)
theorem AO (ns:List TN):(fU ns).length=ns.length:=(oK ns).length_eq
theorem jG (xs ys:List TN):aV (xs++ys)=aV xs++aV ys:=by unfold aV;rw[adY]
theorem CP (xs:List TN) (k:Nat) (hk:k<=xs.length):(aV xs).take (k*3)=aV (xs.take k):=by
 conv=>lhs;rw[<-DL k xs,jG]
 have:k*3=(aV (xs.take k)).length:=by rw[yL,tF,zH hk]
 rw[this,aeH];rfl
theorem MG (xs:List TN) (k:Nat) (hk:k<=xs.length):(aV xs).drop (k*3)=aV (xs.drop k):=by
 conv=>lhs;rw[<-DL k xs,jG]
 have:k*3=(aV (xs.take k)).length:=by rw[yL,tF,zH hk]
 rw[this,List.drop_left'];rfl
theorem ahA (n:TN):aV [n]=[aC n.path,.int .i64 n.file,.int .i64 n.mode]:=rfl
theorem dW (xs:List TN):∀u∈aV xs,u.oneCell'=true:=by intro u hu;unfold aV at hu;rw[List.mem_flatMap]at hu;obtain⟨n,_,h⟩:=hu;simp only[KA,iX,MR,or_false]at h;rcases h with rfl|rfl|rfl<;>rfl
theorem Rd.tail {w:World} {sz g n c k:Nat} {cs:List Value} (h:Rd w sz (sV g n c) n cs) (hn:0<n) (hk:k<=n):Rd w sz (.slice (some ⟨g,k*sz,none⟩) (n-k) (c-k)) (n-k) (cs.drop (k*sz)):=by
 obtain⟨hl,A,c',e,h1,h2,h3⟩:=h;cases e;refine⟨?_,_,_,rfl,by omega,by omega,fun hp=>?_⟩
 ·rw[pU,hl,Nat.sub_mul]
 obtain⟨ad,e,hb,hc⟩:=h3 hn;cases e;refine⟨_,rfl,hb,fun j u hu=>?_⟩;rw[zD]at hu;have:=hc (k*sz+j) u hu;rw[<-this];congr 1;unfold Addr.add;by_cases hj:j=0
 ·subst hj;by_cases hk0:k*sz=0<;>simp[hk0]
 have hne:¬k*sz+j=0:=by omega
 simp[hj,hne]
def iK (fs:List TF) (id:Int):TF:=fs.getD id.toNat ⟨0,[]⟩
def tY (ns:List TN):List TN:=(fU ns).map (gW (gP (fU ns)))
def tT (ns:List TN) (fs:List TF):List TF:=(gP (fU ns)).map (iK fs)
def nT (ns:List TN) (fs:List TF):Int:=if l9 ns fs=true then 31 else if mX (tY ns) (tT ns fs)=true then 0 else 30
def toL (m:Nat) (ids:List Int):List Int:=(List.range m).map fun(f:Nat)=>if(f:Int)∈ids then((ids.idxOf (f:Int):Nat):Int)else -1
theorem avO {m f:Nat} (ids:List Int) (h:f<m):(toL m ids)[f]? =some (if(f:Int)∈ids then((ids.idxOf (f:Int):Nat):Int)else -1):=by unfold toL;rw[lQ,adX h];rfl
theorem azC (m:Nat):toL m []=List.replicate m (-1):=by
 apply YH
 ·simp[toL]
 intro j h1 h2;simp[toL]
theorem azD {m f:Nat} {ids:List Int} (h:f<m) (hn:(f:Int)∉ids):(toL m ids).set f (ids.length:Int)=toL m (ids++[(f:Int)]):=by
 apply YH
 ·simp[toL]
 intro j h1 h2;rw[List.getElem_set];by_cases e:f=j
 ·subst e;simp[toL,aa5,hn]
 rw[if_neg e];have e2:¬(j:Int)=(f:Int):=by omega
 simp only[toL,Q3,List.getElem_range,gX,BB];by_cases hj:(j:Int)∈ids
 ·rw[if_pos hj,if_pos (Or.inl hj),aa5,if_pos hj]
 rw[if_neg hj,if_neg (by rintro(h|h);exact hj h;exact e2 h)]
def DZ (xs:List TN) (ids:List Int) (i:Nat):List TN:=(xs.take i).map (gW ids)++xs.drop i
theorem anG {xs:List TN} {ids:List Int} {i:Nat} {n:TN} (h:xs[i]? =some n):(DZ xs ids i)[i]? =some n:=by have hi:=(gF.1 h).1;unfold DZ;rw[D6 IL,kV,tF,zH aD,oO,zD];simpa using h
theorem aaL {xs:List TN} {ids:List Int} {i:Nat} {n:TN} (h:xs[i]? =some n):DZ xs ids (i+1)=(DZ xs ids i).set i (gW ids n):=by have hi:=(gF.1 h).1;unfold DZ;rw[X4 _ h,QT _ _ IL,kV,tF,zH aD,oO,WX hi,uN];rfl
theorem avP (xs:List TN) (ids:List Int):DZ xs ids xs.length=xs.map (gW ids):=by unfold DZ;rw[aeC,List.drop_length,yX56]
theorem avQ {xs:List TN} {ids:List Int} {i:Nat} (h:∀n∈xs.take i,¬n.file<0->n.file∈ids) (id:Int):DZ xs (ids++[id]) i=DZ xs ids i:=by unfold DZ;rw[ap7 h]
theorem DI {xs:List TN} {i:Nat} {n:TN} (h:xs[i]? =some n) (x:Int):(aV xs).set (i*3+1) (.int .i64 x)=aV (xs.set i ⟨n.path,x,n.mode⟩):=by
 have hi:=(gF.1 h).1;have e1:xs=xs.take i++n::xs.drop (i+1):=(oI h).1;have e2:xs.set i ⟨n.path,x,n.mode⟩=xs.take i++⟨n.path,x,n.mode⟩::xs.drop (i+1):=(oI h).2 _;have hl:(aV (xs.take i)).length=i*3:=by rw[yL,tF,zH aD]
 rw[e2]
 conv=>lhs;rw[e1]
 rw[jG,jG,QT _ _ aD,hl,show i*3+1-i*3=1 by omega];rfl
theorem rD {Ns:List TN} {n:TN}:n∈fU Ns↔n∈Ns:=(oK Ns).mem_iff
def AP (a b:TN):Prop:=Op.bytesLess a.path b.path=true
theorem anH {p:List UInt8}:∀ {xs:List TN} {j:Nat} {m:TN},j<CO xs p->xs[j]? =some m->Op.bytesLess m.path p=true
 |[],j,m,h,_=>by simp[CO]at h
 |x::xs,j,m,h,hj=>by
  unfold CO at h;rw[al7]at h;split at h
  ·rename_i hx;cases j with
   |zero=>cases hj;exact hx
   |succ j=>exact anH (xs:=xs) (j:=j) (by unfold CO;simpa using h) (by simpa using hj)
  simp at h
theorem azE {p:List UInt8} {xs:List TN} {m:TN} (h:xs[CO xs p]? =some m):Op.bytesLess m.path p=false:=by
 unfold CO at h
 induction xs with
 |nil=>simp at h
 |cons x xs ih=>
  rw[al7]at h;cases hx:Op.bytesLess x.path p with
  |true=>rw[hx]at h;simp only[if_true,nV,gC]at h;exact ih h
  |false=>rw[hx]at h;simp at h;subst h;exact hx
theorem ahB {xs:List TN} {n:TN} (hs:xs.Pairwise AP) (hn:∀m∈xs,m.path≠n.path):(acO xs n).Pairwise AP:=by
 unfold acO;have h1:=hs;rw[<-DL (CO xs n.path) xs,adZ]at h1;obtain⟨ha,hb,hc⟩:=h1;have hlo:∀a∈xs.take (CO xs n.path),AP a n:=fun a h=>by
  obtain⟨j,hj⟩:=List.mem_iff_getElem?.1 h;rw[vI]at hj;split at hj
  ·rename_i hjl;exact anH hjl hj
  cases hj
 have hhi:∀b∈xs.drop (CO xs n.path),AP n b:=fun b h=>by
  cases hd:xs.drop (CO xs n.path)with
  |nil=>rw[hd]at h;cases h
  |cons c l=>
   (have hc0:xs[CO xs n.path]? =some c:=by(have h9:(xs.drop (CO xs n.path))[0]? =some c:=by rw[hd];rfl);rw[zD]at h9;exact h9);have hcn:AP n c:=akU (azE hc0) (hn c (gG hc0));rw[hd]at h hb;rcases iX.1 h with rfl|h
   ·exact hcn
   exact xE hcn ((List.pairwise_cons.1 hb).1 b h)
 rw[adZ];refine⟨ha,?_,fun a h1 b h2=>?_⟩
 ·rw[List.pairwise_cons];exact⟨hhi,hb⟩
 rcases iX.1 h2 with rfl|h2
 ·exact hlo a h1
 exact hc a h1 b h2
theorem CQ {ns:List TN} (h:ns.Pairwise fun a b=>a.path≠b.path):(fU ns).Pairwise AP:=by revert h;refine p9 (P:=fun ns=>ns.Pairwise (fun a b=>a.path≠b.path)->(fU ns).Pairwise AP) (fun _=>List.Pairwise.nil) (fun xs x ih h=>?_) ns;rw[adZ]at h;rw[JV];exact ahB (ih h.1) fun m hm=>h.2.2 m ((oK xs).mem_iff.1 hm) x bM
theorem aqF (a b:List TN):∃l,gP (a++b)=gP a++l:=by
 refine p9 (P:=fun b=>∃l,gP (a++b)=gP a++l) ⟨[],by simp⟩ (fun xs x ⟨l,ih⟩=>?_) b;rw[<-uN,oW,ih];split
 ·exact⟨l,rfl⟩
 split
 ·exact⟨l,rfl⟩
 exact⟨l++[x.file],by rw[uN]⟩
theorem ahC (xs:List TN) (i:Nat):∃l,gP xs=gP (xs.take i)++l:=by have h:=aqF (xs.take i) (xs.drop i);rw[DL]at h;exact h
structure pE (Ns:List TN):Prop where
 ne:Ns.Pairwise fun a b=>a.path≠b.path
 valid:∀n∈Ns,aU n.path=true
 up:∀n∈Ns,eY n.path=[]\/∃m∈Ns,m.path=eY n.path/\m.file= -1
 file:∀n∈Ns,(n.file= -1/\fQ n.mode=true)\/(0<=n.file/\n.mode=0)
theorem azF {Ns:List TN} (hne:Ns.Pairwise fun a b=>a.path≠b.path):(fU Ns).Pairwise AP:=by exact CQ hne
theorem aP9 {Ns:List TN} (hne:Ns.Pairwise fun a b=>a.path≠b.path):(fU Ns).length=Ns.length:=by exact AO Ns
theorem xI (ids:List Int) (n:TN):(gW ids n).path=n.path:=by unfold gW;split<;>rfl
theorem ak7 (ids:List Int) (n:TN):(gW ids n).mode=n.mode:=by unfold gW;split<;>rfl
theorem azG {Ns:List TN} (h:pE Ns):∀i,i<=(fU Ns).length->runK (tY Ns) i=some (gP ((fU Ns).take i)).length:=by
 obtain⟨xs,hxs⟩:∃xs,fU Ns=xs:=⟨_,rfl⟩;have hs:=azF h.ne;have hmem:∀n,n∈xs↔n∈Ns:=fun n=>by rw[<-hxs];exact rD
 unfold tY;rw[hxs]at hs ⊢;have hne:xs.Pairwise fun a b=>a.path≠b.path:=hs.imp fun {a b} hl e=>by unfold AP at hl;rw[e,oU]at hl;cases hl
 intro i
 induction i with
 |zero=>intro _;rfl
 |succ i ih=>
  intro hi;have hn:xs[i]? =some xs[i]:=gE aD;obtain⟨n,hnn⟩:∃n,xs[i]=n:=⟨_,rfl⟩;rw[hnn]at hn;(have hy:(xs.map (gW (gP xs)))[i]? =some (gW (gP xs) n):=by rw[lQ,hn];rfl);have hnN:=(hmem n).1 (gG hn);have hv:=h.valid n hnN;(have htk:xs.take (i+1)=xs.take i++[n]:=by rw[BC,hn];rfl);obtain⟨l,hl⟩:=ahC xs i;obtain⟨l2,hl2⟩:=ahC xs (i+1);have hsn:=oW (xs.take i) n;rw[<-htk]at hsn;rw[GR (ih aD) hy,if_pos]
  ·congr 1;unfold mG;rw[hsn];rcases h.file n hnN with⟨hf,_⟩|⟨hf,_⟩
   ·(have e1:(gW (gP xs) n).file= -1:=by unfold gW;rw[if_pos aD];exact hf);rw[e1,if_neg aD,if_pos aD]
   (have e1:(gW (gP xs) n).file=((gP xs).idxOf n.file:Nat):=by unfold gW;rw[if_neg aD]);rw[e1,if_neg (show ¬n.file<0 by omega)];by_cases hm:n.file∈gP (xs.take i)
   ·(have e2:(gP xs).idxOf n.file<(gP (xs.take i)).length:=by rw[hl,aa5,if_pos hm];exact List.idxOf_lt_length_iff.2 hm);rw[if_neg aD,if_pos hm]
   (have e2:(gP xs).idxOf n.file=(gP (xs.take i)).length:=by rw[hl2,hsn,if_neg (show ¬n.file<0 by omega),if_neg hm,uN,aa5,if_neg hm];simp);rw[e2,if_pos rfl,if_neg hm,kN];rfl
  unfold yY;simp only[tJ,aa4,uP];rw[xI,ak7];refine⟨⟨⟨⟨⟨hv,?_⟩,?_⟩,?_⟩,?_⟩,?_⟩
  ·rcases H5 i with h0|h0
   ·subst h0;unfold akT;(have:Op.bytesLess n.path (qZ (xs.map (gW (gP xs))) 0)=false:=by(show Op.bytesLess n.path []=false);cases n.path<;>simp[Op.bytesLess]);rw[this,IG,mM];exact uJ hv
   obtain⟨j,rfl⟩:∃j,i=j+1:=⟨i-1,by omega⟩;(have hj:(xs.map (gW (gP xs)))[j]? =some (gW (gP xs) xs[j]):=by rw[lQ,gE aD];rfl);rw[CJ hj,xI];have h8:=IK.1 hs j (j+1) aD aD aD;rw[hnn]at h8;exact avD h8
  ·rcases h.up n hnN with h0|⟨m,hm,hmp,MN⟩
   ·rw[h0,JR]
    ·rfl
    intro m hm;rw[<-YM]at hm;obtain⟨m0,hm0,rfl⟩:=List.mem_map.1 hm;rw[xI];exact uJ (h.valid m0 ((hmem m0).1 (MP hm0)))
   have hmx:=(hmem m).2 hm;obtain⟨j,hj⟩:=List.mem_iff_getElem?.1 hmx;obtain⟨hjl,hje⟩:=gF.1 hj;have hless:=PD hv;rw[<-hmp]at hless;have hji:j<i:=by
    rcases ad8 j i with h9|h9|h9
    ·exact h9
    ·subst h9;rw[hnn]at hje;subst hje;rw[oU]at hless;cases hless
    have h8:=IK.1 hs i j aD hjl h9;rw[hje,hnn]at h8;have:=xE h8 hless;rw[oU]at this;cases this
   (have e1:gW (gP xs) m=m:=by unfold gW;rw[if_pos aD]);(have hmt:m∈(xs.map (gW (gP xs))).take i:=by rw[List.mem_iff_getElem?];refine⟨j,?_⟩;rw[vI,if_pos hji,lQ,hj];(show some (gW (gP xs) m)=some m);rw[e1]);(have aQA:((xs.map (gW (gP xs))).take i).Pairwise fun a b=>a.path≠b.path:=by refine List.Pairwise.sublist (amC _ _) ?_;rw[XA];exact hne.imp fun {a b} h=>by rw[xI,xI];exact h);rw[<-hmp,NQ aQA hmt,if_pos MN]
  ·unfold gW;split
   ·rcases h.file n hnN with⟨hf,_⟩|⟨hf,_⟩<;>omega
   (show(-1:Int)<=((List.idxOf n.file (gP xs):Nat):Int));omega
  ·unfold gW;split
   ·omega
   rename_i hf;(show((List.idxOf n.file (gP xs):Nat):Int)<=_);by_cases hm:n.file∈gP (xs.take i)
   ·(have e2:(gP xs).idxOf n.file<(gP (xs.take i)).length:=by rw[hl,aa5,if_pos hm];exact List.idxOf_lt_length_iff.2 hm);omega
   (have e2:(gP xs).idxOf n.file=(gP (xs.take i)).length:=by rw[hl2,hsn,if_neg hf,if_neg hm,uN,aa5,if_neg hm];simp);omega
  rcases h.file n hnN with⟨hf,hmo⟩|⟨hf,hmo⟩
  ·(have e1:(gW (gP xs) n).file= -1:=by unfold gW;rw[if_pos aD];exact hf);rw[if_pos e1];exact hmo
  (have e1:¬(gW (gP xs) n).file= -1:=by unfold gW;rw[if_neg aD];(show ¬((List.idxOf n.file (gP xs):Nat):Int)= -1);omega);rw[if_neg e1,uP];exact hmo
theorem aaM {Ns:List TN} {Cs:List TF} (h:pE Ns) (h9:Ns.length<=256) (hc:∀n∈Ns,¬n.file<0->(iK Cs n.file).size<=8192/\fQ (iK Cs n.file).mode=true):fT (tY Ns) (tT Ns Cs):=by
 have hl:=aP9 h.ne;have hlen:(tY Ns).length=Ns.length:=by unfold tY;rw[kV,hl]
 have hc2:∀f∈tT Ns Cs,f.size<=8192/\fQ f.mode=true:=fun f hf=>by unfold tT at hf;obtain⟨id,hid,rfl⟩:=List.mem_map.1 hf;obtain⟨n,hn,h1,h2⟩:=GU _ id hid;rw[<-h1];exact hc n ((rD).1 hn) h2
 refine⟨by omega,?_,fun f hf=>(hc2 f hf).1,fun f hf=>(hc2 f hf).2,?_⟩
 ·unfold tT;rw[kV];have:=MF (fU Ns);omega
 rw[hlen,<-hl,azG h _ (jL _),aeC];unfold tT;rw[kV]
def ren (r:Int->Int) (n:TN):TN:=if n.file<0 then n else⟨n.path,r n.file,n.mode⟩
theorem nU (r:Int->Int) (n:TN):(ren r n).path=n.path:=by unfold ren;split<;>rfl
theorem tZ {r:Int->Int} {n:TN} (h:n.file<0):ren r n=n:=by unfold ren;rw[if_pos h]
structure Alike (r:Int->Int) (Ms:List TN) (F:List TF) (Ns:List TN) (G:List TF):Prop where
 perm:Ms.Perm (Ns.map (ren r))
 file:∀n∈Ns,¬n.file<0->0<=r n.file/\r n.file<F.length/\iK F (r n.file)=iK G n.file
 inj:∀n∈Ns,∀m∈Ns,¬n.file<0->¬m.file<0->r n.file=r m.file->n.file=m.file
theorem aqG {xs ys:List TN} (hx:xs.Pairwise AP) (hy:ys.Pairwise AP) (hp:xs.Perm ys):xs=ys:=by refine List.Perm.eq_of_pairwise (le:=AP) (fun a b _ _ h1 h2=>?_) hx hy hp;have:=xE h1 h2;rw[oU]at this;cases this
theorem aaN {α β:Type} [BEq α] [LawfulBEq α] [BEq β] [LawfulBEq β] {r:α->β}:∀ {l:List α} {a:α},(∀b∈l,r b=r a->b=a)->(l.map r).idxOf (r a)=l.idxOf a
 |[],_,_=>rfl
 |b::l,a,h=>by
  rw[mH,List.idxOf_cons,List.idxOf_cons];by_cases e:b=a
  ·subst e;simp
  (have e2:¬r b=r a:=fun e2=>e (h b sK e2));rw[beq_false_of_ne e,beq_false_of_ne e2,aaN fun c hc=>h c (AY _ hc)]
theorem ahD {α β:Type} {r:α->β} {l:List α} {a:α} (h:∀b∈l,r b=r a->b=a):r a∈l.map r↔a∈l:=by rw[List.mem_map];exact⟨fun⟨b,hb,e⟩=>h b hb e▸hb,fun ha=>⟨a,ha,rfl⟩⟩
section
variable {r:Int->Int} {Ms Ns:List TN} {F G:List TF}
theorem azH {Xs:List TN} (hs:∀n∈Xs,n∈Ns) (h:Alike r Ms F Ns G):gP (Xs.map (ren r))=(gP Xs).map r:=by
 revert hs;refine p9 (P:=fun Xs=>(∀n∈Xs,n∈Ns)->gP (Xs.map (ren r))=(gP Xs).map r) (fun _=>rfl) (fun xs x ih hs=>?_) Xs;have ih:=ih fun n hn=>hs n (G9 _ hn)
 have hx:=hs x bM;rw[kT,YF,oW,oW,ih];by_cases hf:x.file<0
 ·rw[tZ hf,if_pos hf,if_pos hf]
 have h0:=(h.file x hx hf).1;have e1:(ren r x).file=r x.file:=by unfold ren;rw[if_neg hf]
 rw[e1,if_neg hf,if_neg aD];have hm:r x.file∈(gP xs).map r↔x.file∈gP xs:=ahD fun b hb e=>by obtain⟨n,hn,h1,h2⟩:=GU _ b hb;rw[<-h1]at e ⊢;exact h.inj n (hs n (G9 _ hn)) x hx h2 hf e
 by_cases h2:x.file∈gP xs
 ·rw[if_pos h2,if_pos (hm.2 h2)]
 rw[if_neg h2,if_neg (fun e=>h2 (hm.1 e)),kT];rfl
theorem aqH (h:Alike r Ms F Ns G) (hne:Ns.Pairwise fun a b=>a.path≠b.path):fU Ms=(fU Ns).map (ren r):=by
 have aED:(Ns.map (ren r)).Pairwise fun a b=>a.path≠b.path:=by rw[XA];exact hne.imp fun {a b} e=>by rw[nU,nU];exact e
 have aQB:Ms.Pairwise fun a b=>a.path≠b.path:=h.perm.symm.pairwise aED fun {a b} h e=>h e.symm
 refine aqG (CQ aQB) ?_ ((oK Ms).trans (h.perm.trans ((oK Ns).symm.map _)));rw[XA];refine(CQ hne).imp fun {a b} e=>?_
 unfold AP;rw[nU,nU];exact e
theorem aqI (h:Alike r Ms F Ns G) (hne:Ns.Pairwise fun a b=>a.path≠b.path):tY Ms=tY Ns/\tT Ms F=tT Ns G:=by
 have hmem:∀n∈fU Ns,n∈Ns:=fun n hn=>rD.1 hn
 unfold tY tT;rw[aqH h hne,azH hmem h,DR,DR];constructor
 ·apply BA;intro n hn;(show gW ((gP (fU Ns)).map r) (ren r n)=_);by_cases hf:n.file<0
  ·rw[tZ hf];unfold gW;rw[if_pos hf,if_pos hf]
  have h0:=(h.file n (hmem n hn) hf).1;unfold gW;(have e1:(ren r n).file=r n.file:=by unfold ren;rw[if_neg hf]);(have e2:(ren r n).mode=n.mode:=by unfold ren;rw[if_neg hf]);rw[e1,if_neg aD,if_neg hf,nU,e2,aaN fun b hb e=>?_];obtain⟨m,hm,h1,h2⟩:=GU _ b hb;rw[<-h1]at e ⊢;exact h.inj m (hmem m hm) n (hmem n hn) h2 hf e
 apply BA;intro id hid;obtain⟨n,hn,h1,h2⟩:=GU _ id hid;rw[<-h1];exact(h.file n (hmem n hn) h2).2.2
theorem aqJ (Xs:List TN):(gP Xs).Nodup:=by
 refine p9 (P:=fun Xs=>(gP Xs).Nodup) List.nodup_nil (fun xs x ih=>?_) Xs;rw[oW];split
 ·exact ih
 split
 ·exact ih
 rename_i h;rw[xM];refine⟨ih,by simp,fun a ha b hb e=>h ?_⟩;have hb2:b=x.file:=by simpa using hb
 rw[<-hb2,<-e];exact ha
theorem NS (Ns:List TN) (G:List TF):Alike (fun i=>((gP (fU Ns)).idxOf i:Nat)) (tY Ns) (tT Ns G) Ns G:=by
 refine⟨?_,fun n hn hf=>?_,fun n hn m hm hf hg e=>?_⟩
 ·unfold tY;exact(oK Ns).map _
 ·have hm:=EZ _ n (rD.2 hn) hf;have hl:=List.idxOf_lt_length_iff.2 hm;refine⟨by omega,?_,?_⟩
  ·unfold tT;rw[kV];exact Int.ofNat_lt.2 hl
  unfold tT;show iK _ ((List.idxOf n.file (gP (fU Ns)):Nat):Int)=_
  conv=>lhs;unfold iK
  rw[gH,nA,lQ,gE hl,List.getElem_idxOf hl];rfl
 have hm1:=EZ _ n (rD.2 hn) hf;have hm2:=EZ _ m (rD.2 hm) hg;have e2:(gP (fU Ns)).idxOf n.file=(gP (fU Ns)).idxOf m.file:=Int.ofNat.inj e;have h1:=List.getElem_idxOf (List.idxOf_lt_length_iff.2 hm1);have h2:=List.getElem_idxOf (List.idxOf_lt_length_iff.2 hm2);rw[<-h1,<-h2];simp only[e2]
end
end Go.Proofs.YteihmbaimbogaaaGreat
