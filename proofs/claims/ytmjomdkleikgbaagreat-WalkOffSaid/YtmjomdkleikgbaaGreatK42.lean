/- Parts. -/
import Derived.Test.YtmjomdkleikgbaaGreatK41
set_option linter.unusedVariables false
set_option linter.unusedSimpArgs false
set_option maxRecDepth 100000
set_option maxHeartbeats 20000000
namespace Go.Proofs.YtmjomdkleikgbaaGreat
open Go.RowKit
theorem YT {ns:List TN} {fs:List TF} (h:iI ns fs=0):fF ns fs:=by
 unfold iI at h;cases hb:lY ns fs with
 |true=>rw[hb,if_pos rfl]at h;cases h
 |false=>
  rw[hb,if_neg aR]at h;split at h
  ·rename_i h2;unfold lY at hb;rw[Y5,Y5,agL,agL,aj5]at hb;refine⟨by omega,by omega,fun f hf=>?_,fun f hf=>List.all_eq_true.1 h2.2 f hf,h2.1⟩;have:=hb.2 f hf;unfold K9 at this;rw[jN]at this;omega
  cases h
theorem JY :iI OE VJ=0:=by kernel_rfl
theorem alN :mK OE VJ:=⟨by decide,by decide,fun n hn=>by
 have:n.path.length<=3:=by simp only[OE,kE,EK,or_false]at hn;rcases hn with rfl|rfl|rfl<;>decide
 omega,fun f hf=>by
 simp only[VJ,kE,EK,or_false]at hf;subst hf;show 2<=_
 decide⟩
theorem af5 :fF OE VJ:=YT JY
theorem auT :∀n∈OE,n.path.length<=200:=fun n hn=>by simp only[OE,kE,EK,or_false]at hn;rcases hn with rfl|rfl|rfl<;>decide
theorem ayC :qE 120 16 OE (jB VJ)=true:=by kernel_rfl
theorem ayD :XV (OE,VJ) OE (jB VJ):=by have h:=TA (ns:=OE) (fs:=jB VJ) (by rw[CV af5.SC];exact af5);rw[CV af5.SC]at h;exact h
theorem ayE :((0<=nC OE (jB VJ)/\nC OE (jB VJ)<=qV 120 16/\qV 120 16<=4096)/\(0<=kQ OE/\kQ OE<=(16:Nat)/\(16:Nat)<=1024)):=of_decide_eq_true fE
section
variable {w0 w:World} {R:List aW}
theorem ajD (h:Sep w0 w R):Calls Tryz.prog 8 #[] w fun e w'=>e= .returned (.bool true)/\Sep w0 w' R:=by
 have hfr:=Lh (TZ (b:=20) (i:=16) (n:=120) rfl aR aR aR aR h);have hL0:=ad9 (n:=120) (names:=16) aR aR aR aR;obtain⟨S0,hS0⟩:∃S0,S0=VS.new 120 16:=⟨_,rfl⟩;rw[<-hS0]at hfr hL0;have hsm:Hid (∀W Y,Sep w0 W Y->Calls Tryz.prog 30 #[] W fun e w'=>∃g,e= .returned (.agg #[sV g 3 3,sV (g+2) 1 1])/\Sep w0 w' (smX g++Y)):=Lh fun W Y hW=>ai3 hW
 have hly:Hid (∀W f q p g,Sep w0 W (smX g++(bB f q p S0::R))->Calls Tryz.prog 15 #[pV f,.agg #[sV g 3 3,sV (g+2) 1 1]] W fun e w'=>e= .returned (iV 0)/\∃S',jC S' OE (jB VJ) 120 16/\Sep w0 w' (bB f q p S'::(smX g++R))):=Lh fun W f q p g hW=>
  atY (vs:=[sV (g+1) 2 2]) hL0 af5 alN JY ayC (fun W hT=>TY hT alN af5 JY) ayE (fun W X hS=>sm_at hS) (hW.perm lD)
 have hsc:Hid (∀W f q p S' Y,jC S' OE (jB VJ) 120 16->Sep w0 W (bB f q p S'::Y)->Calls Tryz.prog 19 #[pV f] W fun e w'=>∃nv fv vs S'',e= .returned (.tuple #[.agg #[nv,fv],iV 0])/\vs.length=VJ.length/\Sep w0 w' (l9 nv fv OE VJ vs++(bB f q p S''::Y))):=Lh fun W f q p S' Y hL hW=>
  (afV ayD hL auT aR alN JY hW).mono fun e w' ⟨nv,fv,vs,S'',h1,h2,_,_,h3⟩=>⟨nv,fv,vs,S'',h1,h2,h3⟩
 clear hS0 hL0 h;go_enter Tryz.func8,Tryz.ntmps8;go_wp2_with(first |(go_at_call 14;go_loud (refine hfr.out.mono ?_;rintro e wn ⟨f,q,p,rfl,hS⟩;have h1:=Lh hS;clear hS hfr))|(go_at_call 30;go_loud (refine(hsm.out _ _ h1.out).mono ?_;rintro e ws ⟨g,rfl,hS⟩;have h2:=Lh hS;clear hS h1))|(go_at_call 15;go_loud (refine(hly.out _ _ _ _ _ h2.out).mono ?_;rintro e wl ⟨rfl,S1,hL1,hS⟩;have h3:=Lh hS;have hL2:=Lh hL1;clear hS hL1 h2 hly))|(go_at_call 19;go_loud (refine(hsc.out _ _ _ _ _ _ hL2.out h3.out).mono ?_;rintro e wc ⟨nv,fv,vs,S2,rfl,hvl,hS⟩;obtain⟨A8,c8,e8,_⟩:=hS.gL 0 rfl;subst e8;obtain⟨A9,c9,e9,_⟩:=hS.gL 1 rfl;subst e9;have h4:=Lh hS;clear hS hL2 h3 hsc)));obtain⟨nv,hnv⟩:∃nv,nv=Value.slice A8 OE.length c8:=⟨_,rfl⟩;obtain⟨fv,hfv⟩:∃fv,fv=Value.slice A9 VJ.length c9:=⟨_,rfl⟩;rw[<-hnv,<-hfv]at h4 ⊢;clear hnv hfv;have h5:=h4.out.bN 25 #[nv,fv];obtain⟨b5,hb5⟩:∃b,b=wc.heap.size:=⟨_,rfl⟩;obtain⟨wd,hwd⟩:∃w',w'=wc.alloc (.cells #[nv,fv] 25):=⟨_,rfl⟩;rw[<-hb5,<-hwd]at h5 ⊢;have hD:=h5.drew;have hE:wd.drew.cell? ⟨b5,0,none⟩=some nv/\wd.drew.cell? ⟨b5,1,none⟩=some fv:=⟨hD.bC 0 rfl 0,hD.bC 0 rfl 1⟩;have h6:=Lh hD;clear h5 h4 hb5 hwd hD;refine aP (S:=fun w'=>w'.cell? ⟨b5,0,none⟩=some nv/\w'.cell? ⟨b5,1,none⟩=some fv) 14 ?_;refine aA 0 hE ?_;refine bI 1 fun K hK=>?_
 go_simp;go_at_call 16;refine(DC _ _).mono ?_;rintro e wx ⟨rfl,rfl⟩;dsimp only;refine hK _ _ (fun _=>hE) ?_;clear hK K;try simp only[Act.put,gD]
 refine aA 2 hE ?_;refine aA 3 hE ?_;refine aA 4 hE ?_;refine bI 5 fun K hK=>?_
 go_simp;go_at_call 16;refine(DC _ _).mono ?_;rintro e wx ⟨rfl,rfl⟩;dsimp only;refine hK _ _ (fun _=>hE) ?_;clear hK K;try simp only[Act.put,gD]
 refine aA 6 hE ?_;refine aA 7 hE ?_;refine aA 8 hE ?_;refine aA 9 hE ?_;refine bI 10 fun K hK=>?_
 go_simp;go_at_call 30;refine(hsm.out _ _ h6.out).mono ?_;rintro e ws ⟨g2,rfl,hS⟩;have hE7:ws.cell? ⟨b5,0,none⟩=some nv/\ws.cell? ⟨b5,1,none⟩=some fv:=⟨hS.bC 3 rfl 0,hS.bC 3 rfl 1⟩;have h7:Hid (Sep w0 ws (smX g2++(.box b5 25 #[nv,fv]::(l9 nv fv OE VJ vs++(bB f q p S2::(smX g++R)))))):=Lh hS;clear hS h6 hE hsm;dsimp only;refine hK _ _ (fun _=>hE7) ?_;clear hK K;try simp only[Act.put,gD]
 have hex:=LP (nv:=nv) (fv:=fv) (vs:=vs) (JO (X:=smX g2++[.box b5 25 #[nv,fv]]) hvl (by rw[pG];exact h7.out)) (sm_at (Y:=[]) h7.out) alN;replace hex:=Lh hex;refine bI 11 fun K hK=>?_
 go_simp;go_at_call 21;refine hex.out.mono ?_;rintro e we ⟨rfl,hb⟩;have hS:=h7.out.pure hb;have hE8:we.cell? ⟨b5,0,none⟩=some nv/\we.cell? ⟨b5,1,none⟩=some fv:=⟨hS.bC 3 rfl 0,hS.bC 3 rfl 1⟩;have h8:Hid (Sep w0 we (smX g2++(.box b5 25 #[nv,fv]::(l9 nv fv OE VJ vs++(bB f q p S2::(smX g++R)))))):=Lh hS;clear hS hb h7 hE7 hex;dsimp only;refine hK _ _ (fun _=>hE8) ?_;clear hK K;try simp only[Act.put,gD]
 refine aA 12 hE8 ?_;refine bA 13 (fun _=>hE8) ?_;refine aQ fE ?_ _;go_wp2_with fail;go_ret;exact⟨rfl,(((h8.out.snd).drop 1).snd.drop 1).snd⟩
end
theorem ayF {w:World} {nv fv:Value} {ns:List TN} {fs:List TF} {vs:List Value} (h:gW w nv fv ns fs vs):
  Calls Tryz.prog 9 #[.agg #[nv,fv]] w fun e w'=>(e= .returned (.bool true)\/(e= .returned (.bool false)/\ns.length<=300/\fs.length<=300))/\Below w.heap.size w w':=by
 have hS0:=(Sep.nil w).bN 25 #[nv,fv];have hnp:=h.nodes;have hfp:=h.files;have hvl:=h.len;have NA:=h.data;obtain⟨A1,c1,rfl,hm1⟩:=h.nodes.shape;obtain⟨A2,c2,rfl,hm2⟩:=h.files.shape;have d0:=hS0.bC 0 rfl 0;have d1:=hS0.bC 0 rfl 1;simp only[gA,gB,gC]at d0 d1;have hb0:=hS0.below;unfold maxLen at hm1 hm2;have bn:(ns.length:Int)<=9223372036854775807:=by omega
 have bf:(fs.length:Int)<=9223372036854775807:=by omega
 have U7:=Lh hnp;have EN:=Lh hfp;have axA:=Lh hvl;have al3:=Lh NA;have JP:=Lh hb0;clear h hS0 hnp hfp hvl NA hb0 hm1 hm2;go_enter Tryz.func9,Tryz.ntmps9;go_wp2_with fail;generalize w.alloc (.cells #[.slice A1 ns.length c1,.slice A2 fs.length c2] 25)=W at d0 d1 JP ⊢;obtain⟨b0,xL⟩:∃b,w.heap.size=b:=⟨_,rfl⟩;rw[xL]at d0 d1 ⊢;clear xL;go_loop[3,4] (fun n i=>∃(x:Int) (k:Nat),k<=ns.length/\n=iV x/\i=iV k) (fun _ i=>ns.length-(intOf i).toNat)
 case atStart=>exact⟨0,0,fZ _,rfl,rfl⟩
 obtain⟨x,k,hk,rfl,rfl⟩:=hrel;have q0:(0:Int)<=(k:Int):=by omega
 by_cases hgo:k<ns.length/\x<=40000
 ·obtain⟨hlt,hx⟩:=hgo;(have q1:(k:Int)<(ns.length:Int):=by omega);obtain⟨g,o,c,e,_,_,_,hcell⟩:=U7.out.place aD aR;cases e;obtain⟨n,hn⟩:∃n,ns[k]? =some n:=⟨_,gE hlt⟩;have c0:=(hcell W JP.out (k*3) aD).trans (bL hn 0 aD);simp only[F8,aC,gB,gC,<-sD]at c0;have hsz:(⟨n.path.toArray⟩:ByteArray).size=n.path.length:=rfl;clear hn hcell;go_wp2_with fail;go_round
  case rel=>exact⟨_,k+1,by omega,rfl,by go_num⟩
  case measure=>simp[intOf];omega
 have hcase:((k:Int)<(ns.length:Int)/\40000<x)\/¬(k:Int)<(ns.length:Int):=by
  by_cases h:k<ns.length
  ·left;constructor
   ·omega
   refine Decidable.byContradiction fun hno=>hgo ⟨h,by omega⟩
  right;omega
 clear hgo;rcases hcase with⟨q1,q2⟩|q1
 all_goals
  go_wp2_with fail
  go_loop[3,5] (fun n i=>∃(y:Int) (j:Nat),j<=fs.length/\n=iV y/\i=iV j) (fun _ i=>fs.length-(intOf i).toNat)
  case atStart=>exact⟨x,0,fZ _,rfl,rfl⟩
  case round=>
   obtain⟨y,j,hj,rfl,rfl⟩:=hrel;(have r0:(0:Int)<=(j:Int):=by omega);by_cases aBZ:j<fs.length/\y<=40000
   ·obtain⟨hlt,hx⟩:=aBZ;(have r1:(j:Int)<(fs.length:Int):=by omega);obtain⟨g,o,c,e,_,_,_,hcell⟩:=EN.out.place aD aR;cases e;obtain⟨f,hf⟩:∃f,fs[j]? =some f:=⟨_,gE hlt⟩;obtain⟨u,hu⟩:∃u,vs[j]? =some u:=⟨_,gE (by rw[axA.out];exact hlt)⟩;obtain⟨A,c9,rfl,_⟩:=(al3.out j u f hu hf).shape;have c0:=(hcell W JP.out (j*2+1) aD).trans (eD hf hu 1 aD);simp only[tfC,gB,gC,<-sD]at c0;clear hf hu hcell;go_wp2_with fail;go_round
    case rel=>exact⟨_,j+1,by omega,rfl,by go_num⟩
    case measure=>simp[intOf];omega
   have auU:((j:Int)<(fs.length:Int)/\40000<y)\/¬(j:Int)<(fs.length:Int):=by
    by_cases h:j<fs.length
    ·left;constructor
     ·omega
     refine Decidable.byContradiction fun hno=>aBZ ⟨h,by omega⟩
    right;omega
   clear aBZ;by_cases t1:40000<y
   ·rcases auU with⟨r1,r2⟩|r1<;>(go_wp2_with fail;go_ret;exact⟨.inl rfl,JP.out⟩)
   have r1:¬(j:Int)<(fs.length:Int):=by
    rcases auU with⟨_,h⟩|h
    ·exact absurd h t1
    exact h
   by_cases t2:(300:Int)<(ns.length:Int)
   ·go_wp2_with fail;go_ret;exact⟨.inl rfl,JP.out⟩
   by_cases t3:(300:Int)<(fs.length:Int)
   ·go_wp2_with fail;go_ret;exact⟨.inl rfl,JP.out⟩
   go_wp2_with fail;go_ret;exact⟨.inr ⟨rfl,by omega,by omega⟩,JP.out⟩
theorem fF.smW {ns:List TN} {fs:List TF} (ho:fF ns fs):mK ns fs:=⟨by have:=ho.few;omega,by have:=ho.CK;omega,fun n hn=>by have:=EC (ho.mem hn).1;omega,fun f hf=>by have:=ho.size f hf;omega⟩
theorem aB0 {ns:List TN} {F:List TF} (ho:fF ns F):wdB ns F=nC ns (jB F)/\wdI ns F=kQ ns:=by have hd:=ak9 ho;have e:=CV ho.SC;have hg:=good_start ho;have h1:=axG (fs:=jB F) hg;have h2:=axH (fs:=jB F) hg;rw[e,hd.1,hd.2]at h1 h2;exact⟨h1,h2⟩
theorem ajE {ns:List TN} {F:List TF} (ho:fF ns F):(0<=nC ns (jB F)/\nC ns (jB F)<=4000000)/\(0<=kQ ns/\kQ ns<=4000000):=by have h1:=af3 ho (EW (mO ns));have h2:=OH ns;have h3:=af0 (qs:=mO ns) ho.few ho.size (by have:=ho.few;have:=ho.CK;omega) (C9 ns (mO ns) F).length;rw[M7,h1]at h3;exact h3
theorem ayG (b i:Nat):qV (98+(i+7)/8+b) i=b:=by unfold qV;omega
theorem ayH (b i:Nat) (ns:List TN) (fs:List FT):qE (98+(i+7)/8+b) i ns fs=(decide (nC ns fs<=b)&&decide (kQ ns<=i)):=by unfold qE;rw[ayG]
section
variable {w0 w:World} {R:List aW} {f q p:Nat} {S:VS} {ns:List TN} {fs:List FT} {nb names:Nat}
theorem af6 (hL:qF S ns fs nb names) (hoff:S.D.off=false) (h:Sep w0 w (bB f q p S::R)):
  Calls Tryz.prog 23 #[pV p,iV (-1)] w fun e w'=>(∃v,e= .returned v)/\∃S',jC S' ns fs nb names/\Sep w0 w' (bB f q p S'::R):=by
 obtain⟨sb,SM,fo,hR,h1⟩:=h.mF;have h2:Sep w0 w (aO p S.D::kF f q S sb (.map fo) false::aG q p false::dY sb SM::R):=Sep.dB [2,0,1,3] h1 aR (by simp[kF]);refine(adV hR.nV (-1) h2).mono ?_;rintro e w' ⟨rfl,h3⟩;have hf:S.D.RL (-1)= {S.D with left:= -1,off:=false}:=by unfold DK.RL;rw[if_neg aR,if_neg (by rw[hoff];decide)];rfl
 exact⟨⟨_,rfl⟩,_,⟨hL.swap (DK.yC _ _).1,by show(S.D.RL (-1)).off=false;rw[hf],by show(S.D.RL (-1)).left= -1;rw[hf]⟩,XA hR (DK.akY hR.nV aR) (DK.yC _ _).1 ((DK.yC _ _).2.trans hR.back) h3⟩
end
theorem Z50 {P:Prop} (h:P:=by clear hr;go_enter Tryz.func12,Tryz.ntmps12;go_wp2_with fail;all_goals first |omega|(go_ret;subst hr2;exact⟨rfl,hb⟩)):P:=h
theorem YU (a b c d:Int) (w:World):Calls Tryz.prog 12 #[.agg #[iV a,iV b],.agg #[iV c,iV d]] w fun e w'=>e= .returned (.bool (decide (a<=c/\b<=d)))/\Below w.heap.size w w':=by
 have hb:=((Below.refl w.heap.size w).alloc (iC _) (.cells #[iV a,iV b] 33)).alloc (by rw[World.size_alloc];omega) (.cells #[iV c,iV d] 33);have hS:=((Sep.nil w).bN 33 #[iV a,iV b]).bN 33 #[iV c,iV d];simp only[World.size_alloc]at hS;have z0:=hS.bC 1 rfl 0;have z1:=hS.bC 1 rfl 1;have z2:=hS.bC 0 rfl 0;have z3:=hS.bC 0 rfl 1;simp only[gA,gB,gC]at z0 z1 z2 z3;clear hS;obtain⟨r,hr⟩:∃r,r=decide (a<=c/\b<=d):=⟨_,rfl⟩;rw[<-hr];by_cases h1:a<=c
 ·(have hr2:r=decide (b<=d):=by rw[hr];simp[h1]);exact Z50
 have hr2:r=false:=by rw[hr];simp[h1]
 exact Z50
theorem af7 (w:World):gW w (.slice none 0 0) (.slice none 0 0) [] [] []:=JO (X:=[]) (R:=[]) rfl ((((Sep.nil w).gZ 71 2).gZ 68 3))
theorem aoY :mK [] []:=⟨by decide,by decide,fun n hn=>absurd hn bK,fun f hf=>absurd hf bK⟩
theorem off9_any {w:World} {nv fv:Value} {Ns:List TN} {F:List TF} {vs:List Value} {fu:Int} (hT:gW w nv fv Ns F vs) (hp:∀n∈Ns,n.path.length<=9223372036854775807) (hs:∀f∈F,f.size<=9223372036854775807):
  Calls Tryz.prog 5 #[.agg #[nv,fv],iV fu] w fun e w'=>e= .returned (.bool true)/\Below w.heap.size w w':=by
 have h0:=(Sep.nil w).bN 25 #[nv,fv];have hal:=Lh (ajD h0);have hT':=Lh (fun W (hW:Below w.heap.size w W)=>hT.below hW);have hbg:Hid (∀W,Below w.heap.size w W->Calls Tryz.prog 9 #[.agg #[nv,fv]] W fun e w'=>(e= .returned (.bool true)\/(e= .returned (.bool false)/\Ns.length<=300/\F.length<=300))/\Below W.heap.size W w'):=Lh fun W hW=>ayF (hT.below hW)
 have hlo:Hid (∀W,zB Ns F->Below w.heap.size w W->Calls Tryz.prog 11 #[.agg #[nv,fv]] W fun e w'=>e= .returned (iV (iI Ns F))/\Below W.heap.size W w'):=Lh fun W hm hW=>by have h:=aaX (hT.below hW) hm;rw[aiK]at h;exact h
 have hsm:Hid (Ns.length<=300/\F.length<=300->zB Ns F):=Lh fun h=>⟨h.1,h.2,hp,hs⟩
 have hok:Hid (iI Ns F=0->fF Ns F):=Lh YT;obtain⟨L,hLe⟩:∃L,iI Ns F=L:=⟨_,rfl⟩;rw[hLe]at hlo;replace hLe:=Lh hLe;clear h0 hp hs hT;have hcase:fu<0\/(¬fu<0/\300<fu)\/(¬fu<0/\¬300<fu):=by omega
 rcases hcase with c1|⟨c1,c2⟩|⟨c1,c2⟩
 rotate_left 2;rotate_left;all_goals try
  (have hc4:fu<0\/300<fu:=aD)
  clear hc4
  go_enter Tryz.func5,Tryz.ntmps5
  go_wp2_with(first |(go_at_call 8;go_loud (refine hal.out.mono ?_;rintro e w1 ⟨rfl,hS⟩;(have h1:=Lh hS);(have z0:=hS.bC 0 rfl 0);(have z1:=hS.bC 0 rfl 1);simp only[gA,gB,gC]at z0 z1;clear hS hal))|(go_at_call 9;go_loud (refine(hbg.out _ h1.out.below).mono ?_;rintro e w2 ⟨(rfl|⟨rfl,xL⟩),hb⟩<;>(have hS:=h1.out.pure hb)<;>(have h2:=Lh hS)<;>(have y0:=hS.bC 0 rfl 0)<;>(have y1:=hS.bC 0 rfl 1)<;>simp only[gA,gB,gC]at y0 y1<;>clear hS hb h1 hbg z0 z1)))
  all_goals(go_wp2_with fail;go_ret;exact⟨rfl,h2.out.below⟩)
 by_cases hl0:L=0;rotate_left
 focus
  have hl1:(L==0)=false:=by rw[jU];exact hl0
  have hl2:(L !=0)=true:=by rw[bne_iff_ne];exact hl0
  clear hl0
  go_enter Tryz.func5,Tryz.ntmps5
  go_wp2_with(first |(go_at_call 8;go_loud (refine hal.out.mono ?_;rintro e w1 ⟨rfl,hS⟩;(have h1:=Lh hS);(have z0:=hS.bC 0 rfl 0);(have z1:=hS.bC 0 rfl 1);simp only[gA,gB,gC]at z0 z1;clear hS hal))|(go_at_call 9;go_loud (refine(hbg.out _ h1.out.below).mono ?_;rintro e w2 ⟨(rfl|⟨rfl,xL⟩),hb⟩<;>(have hS:=h1.out.pure hb)<;>(have h2:=Lh hS)<;>(have y0:=hS.bC 0 rfl 0)<;>(have y1:=hS.bC 0 rfl 1)<;>simp only[gA,gB,gC]at y0 y1<;>clear hS hb h1 hbg z0 z1)))
  focus (go_wp2_with fail;go_ret;exact⟨rfl,h2.out.below⟩)
  go_wp2_with(go_at_call 11;go_loud (refine(hlo.out _ (hsm.out xL) h2.out.below).mono ?_;rintro e w3 ⟨rfl,hb⟩;(have h3:=Lh (h2.out.pure hb));clear hb h2 hlo y0 y1))
  go_ret
  exact⟨rfl,h3.out.below⟩
 have hlz:Hid (iI Ns F=0):=Lh (hLe.out.trans hl0);have ho:=Lh (hok.out hlz.out);have hd:=aB0 ho.out;have hwt:Hid (∀W,Below w.heap.size w W->Calls Tryz.prog 13 #[.agg #[nv,fv]] W fun e w'=>e= .returned (.agg #[iV (nC Ns (jB F)),iV (kQ Ns)])/\Below W.heap.size W w'):=Lh fun W hW=>by have h:=U8 (hT'.out W hW) ho.out.smW;rw[hd.1,hd.2]at h;exact h
 obtain⟨Bz,hBz⟩:∃B,nC Ns (jB F)=B:=⟨_,rfl⟩;obtain⟨Iz,hIz⟩:∃B,kQ Ns=B:=⟨_,rfl⟩;rw[hBz,hIz]at hwt;replace hBz:=Lh hBz;replace hIz:=Lh hIz;rw[hl0]at hlo;clear hl0 hLe hd hok;have hBn:=ajE ho.out;rw[hBz.out,hIz.out]at hBn;by_cases hfi:Bz<=400/\Iz<=300;rotate_left
 focus
  have hft:Hid (∀W,Calls Tryz.prog 12 #[.agg #[iV Bz,iV Iz],.agg #[iV 400,iV 300]] W fun e w'=>e= .returned (.bool false)/\Below W.heap.size W w'):=Lh fun W=>by have h:=YU Bz Iz 400 300 W;rw[decide_eq_false hfi]at h;exact h
  clear hfi hBn
  go_enter Tryz.func5,Tryz.ntmps5
  go_wp2_with(first |(go_at_call 8;go_loud (refine hal.out.mono ?_;rintro e w1 ⟨rfl,hS⟩;(have h1:=Lh hS);(have z0:=hS.bC 0 rfl 0);(have z1:=hS.bC 0 rfl 1);simp only[gA,gB,gC]at z0 z1;clear hS hal))|(go_at_call 9;go_loud (refine(hbg.out _ h1.out.below).mono ?_;rintro e w2 ⟨(rfl|⟨rfl,xL⟩),hb⟩<;>(have hS:=h1.out.pure hb)<;>(have h2:=Lh hS)<;>(have y0:=hS.bC 0 rfl 0)<;>(have y1:=hS.bC 0 rfl 1)<;>simp only[gA,gB,gC]at y0 y1<;>clear hS hb h1 hbg z0 z1)))
  focus (go_wp2_with fail;go_ret;exact⟨rfl,h2.out.below⟩)
  go_wp2_with(first |(go_at_call 11;go_loud (refine(hlo.out _ (hsm.out xL) h2.out.below).mono ?_;rintro e w3 ⟨rfl,hb⟩;(have hS:=h2.out.pure hb);(have h3:=Lh hS);(have y0:=hS.bC 0 rfl 0);(have y1:=hS.bC 0 rfl 1);simp only[gA,gB,gC]at y0 y1;clear hb h2 hlo hS))|(go_at_call 13;go_loud (refine(hwt.out _ h3.out.below).mono ?_;rintro e w4 ⟨rfl,hb⟩;(have h4:=Lh (h3.out.pure hb));clear hb h3 hwt y0 y1))|(go_at_call 12;go_loud (refine(hft.out _).mono ?_;rintro e w5 ⟨rfl,hb⟩;(have hS:=h4.out.pure hb);(have h5:=Lh hS);(have y0:=hS.bC 0 rfl 0);(have y1:=hS.bC 0 rfl 1);simp only[gA,gB,gC]at y0 y1;clear hb h4 hft hS)))
  go_ret
  exact⟨rfl,h5.out.below⟩
 have hft:Hid (∀W,Calls Tryz.prog 12 #[.agg #[iV Bz,iV Iz],.agg #[iV 400,iV 300]] W fun e w'=>e= .returned (.bool true)/\Below W.heap.size W w'):=Lh fun W=>by have h:=YU Bz Iz 400 300 W;rw[decide_eq_true hfi]at h;exact h
 have hL0:=ad9 (n:=536) (names:=300) aR aR aR aR;have hfr:Hid (∀W Y,Sep w W Y->Calls Tryz.prog 14 #[iV 400,iV 300] W fun e w'=>∃f q p,e= .returned (.tuple #[pV p,pV f,.bool true])/\Sep w w' (bB f q p (VS.new 536 300)::Y)):=Lh fun W Y hW=>TZ (b:=400) (i:=300) (n:=536) aR aR aR aR aR hW
 obtain⟨S0,hS0⟩:∃S0,S0=VS.new 536 300:=⟨_,rfl⟩;rw[<-hS0]at hfr hL0;clear hS0;have hws:GI nv fv Ns F vs Bz Iz:=fun W hW=>by rw[<-hBz.out,<-hIz.out];exact TY hW ho.out.smW ho.out hlz.out
 have hfit:qE 536 300 Ns (jB F)=true:=by rw[show(536:Nat)=98+(300+7)/8+400 from rfl,ayH,hBz.out,hIz.out,decide_eq_true aD,decide_eq_true aD];rfl
 have hrm:qV 536 300=400:=rfl;have hfu:Hid (∀W f q p Y,Sep w W (bB f q p S0::Y)->Calls Tryz.prog 23 #[pV p,iV fu] W fun e w'=>(∃v,e= .returned v)/\∃S',qF S' [] [] 536 300/\Sep w w' (bB f q p S'::Y)):=Lh fun W f q p Y hS=>anO fu aD hL0.iP hS
 have hly:Hid (∀W f q p S Y,qF S [] [] 536 300->Sep w W (bB f q p S::Y)->Calls Tryz.prog 15 #[pV f,.agg #[nv,fv]] W fun e w'=>(e= .returned (iV 0)/\∃S',qF S' Ns (jB F) 536 300/\S'.D.off=false/\Sep w w' (bB f q p S'::Y))\/(e= .returned (iV 11)/\Gone w Y f q p 536 w')):=Lh fun W f q p S Y hL hS=>
  at0 hL ho.out ho.out.smW hlz.out hfit hws (by rw[hrm];omega) (fun W X hX=>hT'.out W hX.below) hS
 have huf:Hid (∀W f q p S Y,qF S Ns (jB F) 536 300->S.D.off=false->Sep w W (bB f q p S::Y)->Calls Tryz.prog 23 #[pV p,iV (-1)] W fun e w'=>(∃v,e= .returned v)/\∃S',jC S' Ns (jB F) 536 300/\Sep w w' (bB f q p S'::Y)):=Lh fun W f q p S Y hL ho hS=>af6 hL ho hS
 have hsa:XV (Ns,F) Ns (jB F):=by have h:=TA (ns:=Ns) (fs:=jB F) (by rw[CV ho.out.SC];exact ho.out);rw[CV ho.out.SC]at h;exact h
 have hsc:Hid (∀W f q p S' Y,jC S' Ns (jB F) 536 300->Sep w W (bB f q p S'::Y)->Calls Tryz.prog 19 #[pV f] W fun e w'=>∃A B c d vs' S',e= .returned (.tuple #[.agg #[.slice A Ns.length c,.slice B F.length d],iV 0])/\vs'.length=F.length/\jC S' Ns (jB F) 536 300/\Sep w w' (l9 (.slice A Ns.length c) (.slice B F.length d) Ns F vs'++(bB f q p S'::Y))):=Lh fun W f q p S' Y hL hS=>by refine(afV hsa hL (fun n hn=>by have:=EC (ho.out.mem hn).1;omega) ho.out.few ho.out.smW hlz.out hS).mono ?_;rintro e w' ⟨nv',fv',vs',S2,rfl,k1,_,k2,k3⟩;obtain⟨A,c,rfl,_⟩:=k3.gL 0 rfl;obtain⟨B,d,rfl,_⟩:=k3.gL 1 rfl;exact⟨A,B,c,d,vs',S2,rfl,k1,k2,k3⟩
 have hex:Hid (∀W nv' fv' vs' Y Z,vs'.length=F.length->Sep w W (Y++(l9 nv' fv' Ns F vs'++Z))->Calls Tryz.prog 21 #[.agg #[nv',fv'],.agg #[nv,fv]] W fun e w'=>e= .returned (.bool true)/\Below W.heap.size W w'):=Lh fun W nv' fv' vs' Y Z hl hS=>LP (JO (X:=Y) (R:=Z) hl hS) (hT'.out W hS.below) ho.out.smW
 have hsg:Hid (∀W f q p Y,Sep w W (iU f q p true::Y)->Calls Tryz.prog 19 #[pV f] W fun e w'=>e= .returned (.tuple #[.agg #[.slice none 0 0,.slice none 0 0],iV 11])/\Sep w w' (iU f q p true::Y)):=Lh fun W f q p Y hS=>aoS hS
 have hlg:Hid (∀W f q p Y,Sep w W (iU f q p true::Y)->Calls Tryz.prog 15 #[pV f,.agg #[nv,fv]] W fun e w'=>e= .returned (iV 11)/\Sep w w' (iU f q p true::Y)):=Lh fun W f q p Y hS=>auL ho.out.smW.mm hlz.out (fun W X hX=>hT'.out W hX.below) hS
 have hxe:Hid (∀W,Calls Tryz.prog 21 #[.agg #[.slice none 0 0,.slice none 0 0],.agg #[.slice none 0 0,.slice none 0 0]] W fun e w'=>e= .returned (.bool true)/\Below W.heap.size W w'):=Lh fun W=>LP (af7 W) (af7 W) aoY
 clear hfit hsa hws hL0 hrm hBz hIz hfi hBn;go_enter Tryz.func5,Tryz.ntmps5;go_wp2_with(first |(go_at_call 8;go_loud (refine hal.out.mono ?_;rintro e w1 ⟨rfl,hS⟩;(have h1:=Lh hS);(have z0:=hS.bC 0 rfl 0);(have z1:=hS.bC 0 rfl 1);simp only[gA,gB,gC]at z0 z1;clear hS hal))|(go_at_call 9;go_loud (refine(hbg.out _ h1.out.below).mono ?_;rintro e w2 ⟨(rfl|⟨rfl,xL⟩),hb⟩<;>(have hS:=h1.out.pure hb)<;>(have h2:=Lh hS)<;>(have y0:=hS.bC 0 rfl 0)<;>(have y1:=hS.bC 0 rfl 1)<;>simp only[gA,gB,gC]at y0 y1<;>clear hS hb h1 hbg z0 z1)))
 focus (go_wp2_with fail;go_ret;exact⟨rfl,h2.out.below⟩)
 go_wp2_with(first |(go_at_call 11;go_loud (refine(hlo.out _ (hsm.out xL) h2.out.below).mono ?_;rintro e w3 ⟨rfl,hb⟩;(have hS:=h2.out.pure hb);(have h3:=Lh hS);(have y0:=hS.bC 0 rfl 0);(have y1:=hS.bC 0 rfl 1);simp only[gA,gB,gC]at y0 y1;clear hb h2 hlo hS))|(go_at_call 13;go_loud (refine(hwt.out _ h3.out.below).mono ?_;rintro e w4 ⟨rfl,hb⟩;(have h4:=Lh (h3.out.pure hb));clear hb h3 hwt y0 y1))|(go_at_call 12;go_loud (refine(hft.out _).mono ?_;rintro e w5 ⟨rfl,hb⟩;(have hS:=h4.out.pure hb);(have h5:=Lh hS);(have y0:=hS.bC 0 rfl 0);(have y1:=hS.bC 0 rfl 1);simp only[gA,gB,gC]at y0 y1;clear hb h4 hft hS))|(go_at_call 14;go_loud (refine(hfr.out _ _ h5.out).mono ?_;rintro e w6 ⟨f,q,p,rfl,hS⟩;(have h6:=Lh hS);clear hS h5 hfr y0 y1))|(go_at_call 23;go_loud (refine(hfu.out _ _ _ _ _ h6.out).mono ?_;rintro e w7 ⟨⟨v7,rfl⟩,S1,hL1,hS⟩;(have h7:=Lh hS);(replace hL1:=Lh hL1);(have y0:=hS.bC 1 rfl 0);(have y1:=hS.bC 1 rfl 1);simp only[gA,gB,gC]at y0 y1;clear hS h6 hfu))|(go_at_call 15;go_loud (refine(hly.out _ _ _ _ _ _ hL1.out h7.out).mono ?_;rintro e w8 (⟨rfl,S2,hL2,hof,hS⟩|⟨rfl,D,hD,hS⟩)<;>first |(clear hD;(have h8:=Lh hS);clear hS h7 hly hL1 y0 y1)|((replace hL2:=Lh hL2);(replace hof:=Lh hof);(have h8:=Lh hS);clear hS h7 hly hL1 y0 y1))))
 focus
  go_wp2_with(first |(go_at_call 16;refine(DC _ _).mono ?_;rintro e w9 ⟨rfl,rfl⟩)|(go_at_call 23;go_loud (refine(huf.out _ _ _ _ _ _ hL2.out hof.out h8.out).mono ?_;rintro e w10 ⟨⟨v10,rfl⟩,S3,hL3,hS⟩;(have h10:=Lh hS);(replace hL3:=Lh hL3);clear hS h8 huf hL2 hof))|(go_at_call 19;go_loud (refine(hsc.out _ _ _ _ _ _ hL3.out h10.out).mono ?_;rintro e w11 ⟨A7,B7,c7,d7,vs7,S4,rfl,hv7,hL4,hS⟩;(have nI:=hS.bN 25 #[.slice A7 Ns.length c7,.slice B7 F.length d7]);(have h11:=Lh nI);(have x0:=nI.bC 0 rfl 0);(have x1:=nI.bC 0 rfl 1);simp only[gA,gB,gC]at x0 x1;(have hP7:=nI.perm (O3 (l₁:=_::l9 _ _ _ _ _) (l₂:=_)));(have y0:=hP7.bC 1 rfl 0);(have y1:=hP7.bC 1 rfl 1);simp only[gA,gB,gC]at y0 y1;(replace hP7:=Lh hP7);clear hS nI h10 hsc hL3 hL4))|(go_at_call 21;go_loud (refine(hex.out _ _ _ _ [_] _ hv7 h11.out).mono ?_;rintro e w12 ⟨rfl,zT⟩;(have h12:=Lh (hP7.out.pure zT));clear zT h11 hP7 hex y0 y1 x0 x1)))
  go_ret
  exact⟨rfl,h12.out.below⟩
 focus
  go_wp2_with(first |(go_at_call 16;refine(DC _ _).mono ?_;rintro e w9 ⟨rfl,rfl⟩)|(go_at_call 19;go_loud (refine(hsg.out _ _ _ _ _ h8.out).mono ?_;rintro e w10 ⟨rfl,hS⟩;(have nI:=hS.bN 25 #[.slice none 0 0,.slice none 0 0]);(have h10:=Lh (nI.perm (List.Perm.swap _ _ _)));(have y0:=nI.bC 3 rfl 0);(have y1:=nI.bC 3 rfl 1);simp only[gA,gB,gC]at y0 y1;clear hS nI h8 hsg))|(go_at_call 15;go_loud (refine(hlg.out _ _ _ _ _ h10.out).mono ?_;rintro e w11 ⟨rfl,hS⟩;(have h11:=Lh hS);(have x0:=hS.bC 1 rfl 0);(have x1:=hS.bC 1 rfl 1);simp only[gA,gB,gC]at x0 x1;clear hS h10 hlg y0 y1))|(go_at_call 21;go_loud (refine(hxe.out _).mono ?_;rintro e w12 ⟨rfl,zT⟩;(have h12:=Lh (h11.out.pure zT));clear zT h11 hxe x0 x1)))
  go_ret
  exact⟨rfl,h12.out.below⟩
end Go.Proofs.YtmjomdkleikgbaaGreat
namespace Go.Proofs.YtmjomdkleikgbaaGreat
open Go.ChangeShapes Go.WideShapes Go.ChangeAt Go.RowKit Go.Deep
theorem T9 :Tryz.prog.cellsOf 68=3:=by kernel_rfl
theorem UA :Tryz.prog.cellsOf 71=2:=by kernel_rfl
theorem ajF :Tryz.prog.cellsOf 25=2:=by kernel_rfl
theorem aoZ :Tryz.prog.cellsOf 9=1:=by kernel_rfl
theorem LQ :Tryz.prog.cellsOf 3=1:=by kernel_rfl
theorem ajG :Tryz.prog.cellsOf 5=1:=by kernel_rfl
theorem af8 :Tryz.prog.cellsOf 69=1:=by kernel_rfl
theorem af9 :Tryz.prog.cellsOf 22=1:=by kernel_rfl
theorem agA :Tryz.prog.cellsOf 23=1:=by kernel_rfl
def ayI (b:UInt8):List Value:=[kY b]
theorem auV (bs:List UInt8):bs.flatMap ayI=bs.map kY:=by
 induction bs with
 |nil=>rfl
 |cons x xs ih=>rw[xI,ih];rfl
theorem auW (x:ByteArray):Value.string x=aC x.data.toList:=by unfold aC;congr 1
section
variable {H:Type} {enc:TypeId×Value->H} {W:World} {sp:Nat->Bool} {held:Bool}
theorem GM {t e:TypeId} {sz:Nat} (ht:Tryz.prog.underlying t=some (.slice e)) (hsz:Tryz.prog.cellsOf e=sz) (h0:0<sz) {α:Type} (z:α) (One:α->List Value) (hO:∀x,(One x).length=sz) (Q:α->Prop)
  (one:∀(n:Nat) (cs:List Value) (y:DataW H×List MemPlace),DataW.trod enc Tryz.prog W 0 sp held n e cs=some y->∃x,cs=One x/\Q x)
  {fuel:Nat} {cs0:List Value} {x0:DataW H×List MemPlace} (hf:DataW.trod enc Tryz.prog W 0 sp held fuel t cs0=some x0):
  ∃(A:Option Addr) (cap:Nat) (xs:List α),cs0=[.slice A xs.length cap]/\Rd W sz (.slice A xs.length cap) xs.length (xs.flatMap One)/\∀a∈xs,Q a:=by
 rcases DataW.trod_slice ht hf with⟨rfl,_⟩|⟨a,len,cap,elems,rest,n,_,rfl,hd,hb,hl,hm,hlen,hel,_,_⟩
 ·exact⟨none,0,[],rfl,⟨by simp,none,0,rfl,iC _,fZ _,fun h=>absurd h (Nat.lt_irrefl _)⟩,by simp⟩
 have key:∀i,∃x:α,i<len->(∀f,f<sz->W.cell? (a.add (i*sz+f))=(One x)[f]?)/\Q x:=by
  intro i;by_cases hi:i<len
  ·have h1:=hel i hi;obtain⟨y,hy⟩:∃y,elems[i]? =some y:=⟨_,gE aD⟩;rw[hy,Option.bind_eq_some_iff,hsz]at h1;obtain⟨cs,hc,ht⟩:=h1;obtain⟨x,rfl,hq⟩:=one _ _ _ ht;obtain⟨_,_,hcell⟩:=World.cells?_some hc;refine⟨x,fun _=>⟨fun f hf=>?_,hq⟩⟩;rw[<-hcell f hf,agN]
  exact⟨z,fun h=>absurd h hi⟩
 obtain⟨X,hX⟩:=Classical.axiomOfChoice key;have alO:((List.range len).map X).length=len:=by simp
 have hat:∀i,i<len->((List.range len).map X)[i]? =some (X i):=by intro i hi;rw[lC,VN hi];rfl
 refine⟨some a,cap,(List.range len).map X,by rw[alO],?_,fun x hx=>?_⟩
 ·rw[alO];refine⟨by rw[K7 One sz hO,alO],some a,cap,rfl,hl,hm,fun hpos=>⟨a,rfl,?_,fun j u hu=>?_⟩⟩
  ·have h1:=((hX 0) hpos).1 0 h0;obtain⟨z9,hz⟩:∃z9,(One (X 0))[0]? =some z9:=⟨_,gE (by rw[hO];exact h0)⟩;rw[hz]at h1;have:=World.block_lt_of_cell? W _ h1
   rwa [yO]at this
  have hj:j<len*sz:=by
   have:=(gF.1 hu).1
   rwa [K7 One sz hO,alO]at this
  have hi:j/sz<len:=Nat.div_lt_of_lt_mul (by rw[O4];exact hj);have hr:j%sz<sz:=Nat.mod_lt _ h0;(have e:j=j/sz*sz+j%sz:=by rw[O4];exact(Nat.div_add_mod j sz).symm);rw[e]at hu ⊢;rw[R6 One sz hO (hat _ hi) _ hr]at hu;rw[((hX _) hi).1 _ hr,hu]
 obtain⟨i,hi,rfl⟩:=List.mem_map.1 hx;exact((hX i) (List.mem_range.1 hi)).2
theorem ao0 (n:Nat) (cs:List Value) (y:DataW H×List MemPlace) (h:DataW.trod enc Tryz.prog W 0 sp held n 5 cs=some y):∃b:UInt8,cs=ayI b/\True:=by
 obtain⟨n,rfl,_,hw⟩:=DataW.trod_int Tryz.underlying5 h;have hr:0<=n/\n<=255:=by unfold Lit.wf at hw;rw[sP,decide_eq_true_iff,decide_eq_true_iff]at hw;(have e1:IntKind.u8.min=0:=by decide);(have e2:IntKind.u8.max=255:=by decide);omega
 refine⟨UInt8.ofNat n.toNat,?_,trivial⟩;unfold ayI kY;have:(UInt8.ofNat n.toNat).toNat=n.toNat:=by rw[UInt8.toNat_ofNat'];omega
 rw[this,ajW hr.1]
theorem ajH (n:Nat) (cs:List Value) (y:DataW H×List MemPlace) (h:DataW.trod enc Tryz.prog W 0 sp held n 69 cs=some y):∃x:Value×List UInt8,cs=[x.1]/\BytesAt W x.1 x.2:=by obtain⟨A,cap,xs,e,hr,_⟩:=GM Tryz.underlying69 ajG aR (0:UInt8) ayI (fun _=>rfl) (fun _=>True) ao0 h;rw[auV]at hr;exact⟨(_,xs),e,hr⟩
theorem auX (n:Nat) (cs:List Value) (y:DataW H×List MemPlace) (h:DataW.trod enc Tryz.prog W 0 sp held n 9 cs=some y):∃s:List UInt8,cs=[aC s]/\s.length<=9223372036854775807:=by obtain⟨s,rfl,_,hl⟩:=DataW.trod_string Tryz.underlying9 h;refine⟨s.data.toList,by rw[auW],?_⟩;have:s.data.toList.length=s.size:=Array.length_toList;rw[this];exact hl
theorem ao1 (n:Nat) (cs:List Value) (y:DataW H×List MemPlace) (h:DataW.trod enc Tryz.prog W 0 sp held n 68 cs=some y):∃x:TN,cs=F8 x/\x.path.length<=9223372036854775807:=by
 obtain⟨xs,n,rfl,rfl,hl,hxl,hx⟩:=DataW.trod_struct Tryz.underlying68 h;rw[T9]at hl;obtain⟨c0,c1,c2,rfl⟩:∃c0 c1 c2,cs=[c0,c1,c2]:=by
  match cs,hl with
  |[c0,c1,c2],_=>exact⟨c0,c1,c2,rfl⟩
 obtain⟨x0,x1,x2,rfl⟩:∃x0 x1 x2,xs=[x0,x1,x2]:=by
  match xs,hxl with
  |[x0,x1,x2],_=>exact⟨x0,x1,x2,rfl⟩
 have h0:DataW.trod enc Tryz.prog W 0 sp held n 9 (([c0,c1,c2].drop 0).take (Tryz.prog.cellsOf 9))=some x0:=hx 0 _ rfl;rw[aoZ]at h0;have h1:DataW.trod enc Tryz.prog W 0 sp held n 3 (([c0,c1,c2].drop 1).take (Tryz.prog.cellsOf 3))=some x1:=hx 1 _ rfl;rw[LQ]at h1;have h2:DataW.trod enc Tryz.prog W 0 sp held n 3 (([c0,c1,c2].drop 2).take (Tryz.prog.cellsOf 3))=some x2:=hx 2 _ rfl;rw[LQ]at h2;simp only[ab5,abZ,VO,OO]at h0 h1 h2;obtain⟨s0,e0,k0⟩:=auX _ _ _ h0;obtain⟨n1,e1,rfl,_⟩:=DataW.trod_int Tryz.underlying3 h1;obtain⟨n2,e2,rfl,_⟩:=DataW.trod_int Tryz.underlying3 h2;simp only[List.cons.injEq,and_true]at e0 e1 e2;subst e0 e1 e2;exact⟨⟨s0,n1,n2⟩,rfl,k0⟩
def aB4 (x:Int×Value×List UInt8):List Value:=[.int .i64 x.1,x.2.1]
theorem ao2 (n:Nat) (cs:List Value) (y:DataW H×List MemPlace) (h:DataW.trod enc Tryz.prog W 0 sp held n 71 cs=some y):∃x:Int×Value×List UInt8,cs=aB4 x/\BytesAt W x.2.1 x.2.2:=by
 obtain⟨xs,n,rfl,rfl,hl,hxl,hx⟩:=DataW.trod_struct Tryz.underlying71 h;rw[UA]at hl;obtain⟨c0,c1,rfl⟩:∃c0 c1,cs=[c0,c1]:=by
  match cs,hl with
  |[c0,c1],_=>exact⟨c0,c1,rfl⟩
 obtain⟨x0,x1,rfl⟩:∃x0 x1,xs=[x0,x1]:=by
  match xs,hxl with
  |[x0,x1],_=>exact⟨x0,x1,rfl⟩
 have h0:DataW.trod enc Tryz.prog W 0 sp held n 3 (([c0,c1].drop 0).take (Tryz.prog.cellsOf 3))=some x0:=hx 0 _ rfl;rw[LQ]at h0;have h1:DataW.trod enc Tryz.prog W 0 sp held n 69 (([c0,c1].drop 1).take (Tryz.prog.cellsOf 69))=some x1:=hx 1 _ rfl;rw[af8]at h1;simp only[ab5,abZ,VO,OO]at h0 h1;obtain⟨n0,e0,rfl,_⟩:=DataW.trod_int Tryz.underlying3 h0;obtain⟨⟨u,bs⟩,e1,hb⟩:=ajH _ _ _ h1;simp only[List.cons.injEq,and_true]at e0 e1;subst e0 e1;exact⟨(n0,c1,bs),rfl,hb⟩
end
theorem agB (ys:List (Int×Value×List UInt8)):ys.flatMap aB4=iF (ys.map (fun y=>⟨y.1,y.2.2⟩)) (ys.map (·.2.1)):=by
 induction ys with
 |nil=>rfl
 |cons y ys ih=>rw[xI,ih];rfl
section
variable {H:Type} {enc:TypeId×Value->H} {W:World}
theorem arg_treeW {v:Value} {d:DataW H} {p:List MemPlace} {base:Nat} (hok:Value.okWide Tryz.prog W .any base 25 v) (h0:DataW.Trod enc Tryz.prog W 0 (fun _=>true) true 25 v d p):
  ∃(nv fv:Value) (ns:List TN) (fs:List TF) (vs:List Value),v= .agg #[nv,fv]/\gW W nv fv ns fs vs/\(∀n∈ns,n.path.length<=9223372036854775807)/\∀f∈fs,f.size<=9223372036854775807:=by
 obtain⟨cs,rfl,hsz⟩:=okWide_struct Tryz.underlying25 hok;obtain⟨fuel,hf⟩:=h0;obtain⟨xs,n,rfl,hd,hl,hxl,hx⟩:=DataW.trod_struct Tryz.underlying25 hf;rw[ajF]at hsz;obtain⟨c0,c1,rfl⟩:∃c0 c1,cs=#[c0,c1]:=by
  obtain⟨l⟩:=cs
  match l,hsz with
  |[c0,c1],_=>exact⟨c0,c1,rfl⟩
 obtain⟨x0,x1,rfl⟩:∃x0 x1,xs=[x0,x1]:=by
  match xs,hxl with
  |[x0,x1],_=>exact⟨x0,x1,rfl⟩
 have h0:DataW.trod enc Tryz.prog W 0 (fun _=>true) true n 22 (([c0,c1].drop 0).take (Tryz.prog.cellsOf 22))=some x0:=hx 0 _ rfl;rw[af9]at h0;have h1:DataW.trod enc Tryz.prog W 0 (fun _=>true) true n 23 (([c0,c1].drop 1).take (Tryz.prog.cellsOf 23))=some x1:=hx 1 _ rfl;rw[agA]at h1;simp only[ab5,abZ,VO,OO]at h0 h1;obtain⟨A,cN,ns,e0,hrN,hqN⟩:=GM Tryz.underlying22 T9 aR (⟨[],0,0⟩:TN) F8 (fun _=>rfl) (fun x=>x.path.length<=9223372036854775807) ao1 h0;obtain⟨B,cF,ys,e1,hrF,hqF⟩:=GM Tryz.underlying23 UA aR ((0,.nilFunc,[]):Int×Value×List UInt8) aB4 (fun _=>rfl) (fun x=>BytesAt W x.2.1 x.2.2) ao2 h1;simp only[List.cons.injEq,and_true]at e0 e1;subst e0 e1;refine⟨_,_,ns,ys.map (fun y=>⟨y.1,y.2.2⟩),ys.map (·.2.1),rfl,⟨by simp,hrN,?_,fun k u f hu hf=>?_⟩,hqN,fun f hf=>?_⟩
 ·rw[iJ];rw[agB]at hrF;exact hrF
 ·rw[lC,OT]at hu hf;obtain⟨y,hy,rfl⟩:=hu;obtain⟨y',hy',rfl⟩:=hf;obtain rfl:y=y':=ab3 (hy.symm.trans hy');exact⟨_,hqF y (gG hy),fun u hu=>(by obtain⟨x,_,rfl⟩:=List.mem_map.1 hu;rfl),rfl⟩
 obtain⟨y,hy,rfl⟩:=List.mem_map.1 hf;obtain⟨_,_,_,h2⟩:=Rd.shape (hqF y hy);unfold maxLen at h2;show y.2.2.length<=_
 omega
end
end Go.Proofs.YtmjomdkleikgbaaGreat
