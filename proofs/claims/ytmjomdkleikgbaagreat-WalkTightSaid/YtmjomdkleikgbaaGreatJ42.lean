/- Parts. -/
import Derived.Test.YtmjomdkleikgbaaGreatJ41
set_option linter.unusedVariables false
set_option linter.unusedSimpArgs false
set_option maxRecDepth 100000
set_option maxHeartbeats 20000000
namespace Go.Proofs.YtmjomdkleikgbaaGreat
open Go.RowKit
theorem fT.smW {ns:List TN} {fs:List TF} (ho:fT ns fs):mZ ns fs:=⟨by have:=ho.few;omega,by have:=ho.EG;omega,fun n hn=>by have:=DV (ho.mem hn).1;omega,fun f hf=>by have:=ho.size f hf;omega⟩
theorem aBA {ns:List TN} {F:List TF} (ho:fT ns F):wdB ns F=lJ ns (jJ F)/\wdI ns F=jY ns:=by have hd:=akD ho;have e:=CE ho.RA;have hg:=good_start ho;have h1:=awG (fs:=jJ F) hg;have h2:=awH (fs:=jJ F) hg;rw[e,hd.1,hd.2]at h1 h2;exact⟨h1,h2⟩
theorem aiN {ns:List TN} {F:List TF} (ho:fT ns F):(0<=lJ ns (jJ F)/\lJ ns (jJ F)<=4000000)/\(0<=jY ns/\jY ns<=4000000):=by have h1:=afA ho (EJ (mH ns));have h2:=NT ns;have h3:=ae7 (qs:=mH ns) ho.few ho.size (by have:=ho.few;have:=ho.EG;omega) (CO ns (mH ns) F).length;rw[NY,h1]at h3;exact h3
theorem axH :iK 0 0= .complex .f64 0 0:=by kernel_rfl
theorem akS (b i:Nat):mY (98+(i+7)/8+b) i=b:=by unfold mY;omega
theorem axI (b i:Nat) (ns:List TN) (fs:List FT):sI (98+(i+7)/8+b) i ns fs=(decide (lJ ns fs<=b)&&decide (jY ns<=i)):=by unfold sI;rw[akS]
theorem tight9_any {w:World} {nv fv:Value} {Ns:List TN} {F:List TF} {vs:List Value} {bl il:Int} (hT:iF w nv fv Ns F vs) (hp:∀n∈Ns,n.path.length<=9223372036854775807) (hs:∀f∈F,f.size<=9223372036854775807):
  Calls Tryz.prog 4 #[.agg #[nv,fv],iV bl,iV il] w fun e w'=>e= .returned (.bool true)/\Below w.heap.size w w':=by
 have h0:=(Sep.nil w).bN 25 #[nv,fv];have hal:=Lh (aiM h0);have hT':=Lh (fun W (hW:Below w.heap.size w W)=>hT.below hW);have hbg:Hid (∀W,Below w.heap.size w W->Calls Tryz.prog 9 #[.agg #[nv,fv]] W fun e w'=>(e= .returned (.bool true)\/(e= .returned (.bool false)/\Ns.length<=300/\F.length<=300))/\Below W.heap.size W w'):=Lh fun W hW=>axG (hT.below hW)
 have hlo:Hid (∀W,BQ Ns F->Below w.heap.size w W->Calls Tryz.prog 11 #[.agg #[nv,fv]] W fun e w'=>e= .returned (iV (iI Ns F))/\Below W.heap.size W w'):=Lh fun W hm hW=>by have h:=ZZ (hT.below hW) hm;rw[ahT]at h;exact h
 have hsm:Hid (Ns.length<=300/\F.length<=300->BQ Ns F):=Lh fun h=>⟨h.1,h.2,hp,hs⟩
 have hok:Hid (iI Ns F=0->fT Ns F):=Lh X7;obtain⟨L,hLe⟩:∃L,iI Ns F=L:=⟨_,rfl⟩;rw[hLe]at hlo;replace hLe:=Lh hLe;clear h0 hp hs hT;have hcase:bl<0\/(¬bl<0/\1<bl)\/(¬bl<0/\¬1<bl/\il<0)\/(¬bl<0/\¬1<bl/\¬il<0/\1<il)\/(¬bl<0/\¬1<bl/\¬il<0/\¬1<il):=by omega
 rcases hcase with c1|⟨c1,c2⟩|⟨c1,c2,c3⟩|⟨c1,c2,c3,c4⟩|⟨c1,c2,c3,c4⟩
 rotate_left 4;rotate_left;all_goals try
  (have hc4:bl<0\/1<bl\/il<0\/1<il:=aD)
  clear hc4
  go_enter Tryz.func4,Tryz.ntmps4
  go_wp2_with(first |(go_at_call 8;go_loud (refine hal.out.mono ?_;rintro e w1 ⟨rfl,hS⟩;(have h1:=Lh hS);(have z0:=hS.bC 0 rfl 0);(have z1:=hS.bC 0 rfl 1);simp only[gA,gB,gC]at z0 z1;clear hS hal))|(go_at_call 9;go_loud (refine(hbg.out _ h1.out.below).mono ?_;rintro e w2 ⟨(rfl|⟨rfl,wM⟩),hb⟩<;>(have hS:=h1.out.pure hb)<;>(have h2:=Lh hS)<;>(have y0:=hS.bC 0 rfl 0)<;>(have y1:=hS.bC 0 rfl 1)<;>simp only[gA,gB,gC]at y0 y1<;>clear hS hb h1 hbg z0 z1)))
  all_goals(go_wp2_with fail;go_ret;exact⟨rfl,h2.out.below⟩)
 by_cases hl0:L=0;rotate_left
 focus
  have hl1:(L==0)=false:=by rw[jM];exact hl0
  have hl2:(L !=0)=true:=by rw[bne_iff_ne];exact hl0
  clear hl0
  go_enter Tryz.func4,Tryz.ntmps4
  go_wp2_with(first |(go_at_call 8;go_loud (refine hal.out.mono ?_;rintro e w1 ⟨rfl,hS⟩;(have h1:=Lh hS);(have z0:=hS.bC 0 rfl 0);(have z1:=hS.bC 0 rfl 1);simp only[gA,gB,gC]at z0 z1;clear hS hal))|(go_at_call 9;go_loud (refine(hbg.out _ h1.out.below).mono ?_;rintro e w2 ⟨(rfl|⟨rfl,wM⟩),hb⟩<;>(have hS:=h1.out.pure hb)<;>(have h2:=Lh hS)<;>(have y0:=hS.bC 0 rfl 0)<;>(have y1:=hS.bC 0 rfl 1)<;>simp only[gA,gB,gC]at y0 y1<;>clear hS hb h1 hbg z0 z1)))
  focus (go_wp2_with fail;go_ret;exact⟨rfl,h2.out.below⟩)
  go_wp2_with(go_at_call 11;go_loud (refine(hlo.out _ (hsm.out wM) h2.out.below).mono ?_;rintro e w3 ⟨rfl,hb⟩;(have h3:=Lh (h2.out.pure hb));clear hb h2 hlo y0 y1))
  go_ret
  exact⟨rfl,h3.out.below⟩
 have hlz:Hid (iI Ns F=0):=Lh (hLe.out.trans hl0);have ho:=Lh (hok.out hlz.out);have hd:=aBA ho.out;have hwt:Hid (∀W,Below w.heap.size w W->Calls Tryz.prog 13 #[.agg #[nv,fv]] W fun e w'=>e= .returned (.agg #[iV (lJ Ns (jJ F)),iV (jY Ns)])/\Below W.heap.size W w'):=Lh fun W hW=>by have h:=UK (hT'.out W hW) ho.out.smW;rw[hd.1,hd.2]at h;exact h
 obtain⟨Bz,hBz⟩:∃B,lJ Ns (jJ F)=B:=⟨_,rfl⟩;obtain⟨Iz,hIz⟩:∃B,jY Ns=B:=⟨_,rfl⟩;rw[hBz,hIz]at hwt;replace hBz:=Lh hBz;replace hIz:=Lh hIz;rw[hl0]at hlo;clear hl0 hLe hd hok;have hcase:Bz-bl<1\/(¬Bz-bl<1/\Iz-il<2)\/(¬Bz-bl<1/\¬Iz-il<2/\1500<Bz)\/(¬Bz-bl<1/\¬Iz-il<2/\¬1500<Bz/\400<Iz)\/(¬Bz-bl<1/\¬Iz-il<2/\¬1500<Bz/\¬400<Iz):=by omega
 have hBn:=aiN ho.out;rw[hBz.out,hIz.out]at hBn;rcases hcase with d1|⟨d1,d2⟩|⟨d1,d2,d3⟩|⟨d1,d2,d3,d4⟩|⟨d1,d2,d3,d4⟩
 rotate_left 4;rotate_left;all_goals try
  (have hc4:Bz-bl<1\/Iz-il<2\/1500<Bz\/400<Iz:=aD)
  clear hc4
  go_enter Tryz.func4,Tryz.ntmps4
  go_wp2_with(first |(go_at_call 8;go_loud (refine hal.out.mono ?_;rintro e w1 ⟨rfl,hS⟩;(have h1:=Lh hS);(have z0:=hS.bC 0 rfl 0);(have z1:=hS.bC 0 rfl 1);simp only[gA,gB,gC]at z0 z1;clear hS hal))|(go_at_call 9;go_loud (refine(hbg.out _ h1.out.below).mono ?_;rintro e w2 ⟨(rfl|⟨rfl,wM⟩),hb⟩<;>(have hS:=h1.out.pure hb)<;>(have h2:=Lh hS)<;>(have y0:=hS.bC 0 rfl 0)<;>(have y1:=hS.bC 0 rfl 1)<;>simp only[gA,gB,gC]at y0 y1<;>clear hS hb h1 hbg z0 z1)))
  focus (go_wp2_with fail;go_ret;exact⟨rfl,h2.out.below⟩)
  go_wp2_with(first |(go_at_call 11;go_loud (refine(hlo.out _ (hsm.out wM) h2.out.below).mono ?_;rintro e w3 ⟨rfl,hb⟩;(have hS:=h2.out.pure hb);(have h3:=Lh hS);(have y0:=hS.bC 0 rfl 0);(have y1:=hS.bC 0 rfl 1);simp only[gA,gB,gC]at y0 y1;clear hb h2 hlo hS))|(go_at_call 13;go_loud (refine(hwt.out _ h3.out.below).mono ?_;rintro e w4 ⟨rfl,hb⟩;(have hS:=(h3.out.pure hb).bN 33 #[iV Bz,iV Iz]);(have h4:=Lh hS);(have y0:=hS.bC 1 rfl 0);(have y1:=hS.bC 1 rfl 1);(have x0:=hS.bC 0 rfl 0);(have x1:=hS.bC 0 rfl 1);simp only[gA,gB,gC]at y0 y1 x0 x1;clear hb h3 hwt hS)))
  go_ret
  exact⟨rfl,h4.out.below⟩
 obtain⟨b,hb0⟩:∃b:Nat,Bz-bl=b:=⟨(Bz-bl).toNat,by omega⟩;obtain⟨i,hi0⟩:∃b:Nat,Iz-il=b:=⟨(Iz-il).toNat,by omega⟩;obtain⟨nb,hnb⟩:∃nb,nb=98+(i+7)/8+b:=⟨_,rfl⟩;have hL0:=adF (n:=nb) (names:=i) aD aD aD aD;have hfr:Hid (∀W Y,Sep w W Y->Calls Tryz.prog 14 #[iV (Bz-bl),iV (Iz-il)] W fun e w'=>∃f q p,e= .returned (.tuple #[pV p,pV f,.bool true])/\Sep w w' (bH f q p (VS.new nb i)::Y)):=Lh fun W Y hW=>by rw[hb0,hi0];exact SY hnb aD aD aD aD hW
 obtain⟨S0,hS0⟩:∃S0,S0=VS.new nb i:=⟨_,rfl⟩;rw[<-hS0]at hfr hL0;clear hS0;have hrm:mY nb i=b:=by rw[hnb];exact akS b i
 have hws:F3 nv fv Ns F vs Bz Iz:=fun W hW=>by rw[<-hBz.out,<-hIz.out];exact SV hW ho.out.smW ho.out hlz.out
 have hb4:b<=4096:=by omega
 have hi4:i<=1024:=by omega
 by_cases hz:bl=0/\il=0
 ·(have e0:(bl+il==0)=true:=by rw[sK];omega);(have hBb:Bz=b:=by omega);(have hIi:Iz=i:=by omega);(have hfit:sI nb i Ns (jJ F)=true:=by rw[hnb,axI,hBz.out,hIz.out,decide_eq_true aD,decide_eq_true aD];rfl);have hly:Hid (∀W f q p Y,Sep w W (bH f q p S0::Y)->Calls Tryz.prog 15 #[pV f,.agg #[nv,fv]] W fun e w'=>e= .returned (iV 0)/\∃S',gY S' Ns (jJ F) nb i/\Sep w w' (bH f q p S'::Y)):=Lh fun W f q p Y hS=>
   aeX hL0 ho.out ho.out.smW hlz.out hfit hws (by rw[hrm];omega) (fun W X hX=>hT'.out W hX.below) hS
  (have hsa:RU (Ns,F) Ns (jJ F):=by have h:=FY (ns:=Ns) (fs:=jJ F) (by rw[CE ho.out.RA];exact ho.out);rw[CE ho.out.RA]at h;exact h);(have hsc:Hid (∀W f q p S' Y,gY S' Ns (jJ F) nb i->Sep w W (bH f q p S'::Y)->Calls Tryz.prog 19 #[pV f] W fun e w'=>∃A B c d vs' S',e= .returned (.tuple #[.agg #[.slice A Ns.length c,.slice B F.length d],iV 0])/\vs'.length=F.length/\gY S' Ns (jJ F) nb i/\Sep w w' (lL (.slice A Ns.length c) (.slice B F.length d) Ns F vs'++(bH f q p S'::Y))):=Lh fun W f q p S' Y hL hS=>by refine(SH hsa hL (fun n hn=>by have:=DV (ho.out.mem hn).1;omega) ho.out.few ho.out.smW hlz.out hS).mono ?_;rintro e w' ⟨nv',fv',vs',S2,rfl,k1,_,k2,k3⟩;obtain⟨A,c,rfl,_⟩:=k3.gJ 0 rfl;obtain⟨B,d,rfl,_⟩:=k3.gJ 1 rfl;exact⟨A,B,c,d,vs',S2,rfl,k1,k2,k3⟩);(have hex:Hid (∀W nv' fv' vs' Y Z,vs'.length=F.length->Sep w W (Y++(lL nv' fv' Ns F vs'++Z))->Calls Tryz.prog 21 #[.agg #[nv',fv'],.agg #[nv,fv]] W fun e w'=>e= .returned (.bool true)/\Below W.heap.size W w'):=Lh fun W nv' fv' vs' Y Z hl hS=>X0 (NQ (X:=Y) (R:=Z) hl hS) (hT'.out W hS.below) ho.out.smW);(have hfe:Hid (∀W f q p S' Y,gY S' Ns (jJ F) nb i->Sep w W (bH f q p S'::Y)->Calls Tryz.prog 22 #[pV f] W fun e w'=>e= .returned (.complex .f64 0 0)/\∃n,w'=W.drewN n):=Lh fun W f q p S' Y hL hS=>by have h:=aEG hL hS;rw[hrm,hBz.out,hIz.out,hBb,hIi,Int.sub_self,Int.sub_self,axH]at h;exact h);clear hz hBb hIi hfit hsa hws hL0 hnb hb0 hi0 hrm hb4 hi4 hBz hIz;go_enter Tryz.func4,Tryz.ntmps4;go_wp2_with(first |(go_at_call 8;go_loud (refine hal.out.mono ?_;rintro e w1 ⟨rfl,hS⟩;(have h1:=Lh hS);(have z0:=hS.bC 0 rfl 0);(have z1:=hS.bC 0 rfl 1);simp only[gA,gB,gC]at z0 z1;clear hS hal))|(go_at_call 9;go_loud (refine(hbg.out _ h1.out.below).mono ?_;rintro e w2 ⟨(rfl|⟨rfl,wM⟩),hb⟩<;>(have hS:=h1.out.pure hb)<;>(have h2:=Lh hS)<;>(have y0:=hS.bC 0 rfl 0)<;>(have y1:=hS.bC 0 rfl 1)<;>simp only[gA,gB,gC]at y0 y1<;>clear hS hb h1 hbg z0 z1)))
  focus (go_wp2_with fail;go_ret;exact⟨rfl,h2.out.below⟩)
  go_wp2_with(first |(go_at_call 11;go_loud (refine(hlo.out _ (hsm.out wM) h2.out.below).mono ?_;rintro e w3 ⟨rfl,hb⟩;(have hS:=h2.out.pure hb);(have h3:=Lh hS);(have y0:=hS.bC 0 rfl 0);(have y1:=hS.bC 0 rfl 1);simp only[gA,gB,gC]at y0 y1;clear hb h2 hlo hS))|(go_at_call 13;go_loud (refine(hwt.out _ h3.out.below).mono ?_;rintro e w4 ⟨rfl,hb⟩;(have hS:=(h3.out.pure hb).bN 33 #[iV Bz,iV Iz]);(have h4:=Lh hS);(have y0:=hS.bC 1 rfl 0);(have y1:=hS.bC 1 rfl 1);(have x0:=hS.bC 0 rfl 0);(have x1:=hS.bC 0 rfl 1);simp only[gA,gB,gC]at y0 y1 x0 x1;clear hb h3 hwt hS))|(go_at_call 14;go_loud (refine(hfr.out _ _ h4.out).mono ?_;rintro e w5 ⟨f,q,p,rfl,hS⟩;(have h5:=Lh hS);(have y0:=hS.bC 2 rfl 0);(have y1:=hS.bC 2 rfl 1);simp only[gA,gB,gC]at y0 y1;clear hS h4 hfr x0 x1))|(go_at_call 15;go_loud (refine(hly.out _ _ _ _ _ h5.out).mono ?_;rintro e w6 ⟨rfl,S1,hL1,hS⟩;(have h6:=Lh hS);(replace hL1:=Lh hL1);clear hS h5 hly y0 y1))|(go_at_call 19;go_loud (refine(hsc.out _ _ _ _ _ _ hL1.out h6.out).mono ?_;rintro e w7 ⟨A7,B7,c7,d7,vs7,S2,rfl,hv7,hL2,hS⟩;(have qG:=hS.bN 25 #[.slice A7 Ns.length c7,.slice B7 F.length d7]);(have h7:=Lh qG);(replace hL2:=Lh hL2);(have x0:=qG.bC 0 rfl 0);(have x1:=qG.bC 0 rfl 1);simp only[gA,gB,gC]at x0 x1;(have hP7:=qG.perm (OI (l₁:=_::lL _ _ _ _ _) (l₂:=_)));(have y0:=hP7.bC 2 rfl 0);(have y1:=hP7.bC 2 rfl 1);simp only[gA,gB,gC]at y0 y1;(replace hP7:=Lh hP7);clear hS qG h6 hsc hL1))|(go_at_call 16;refine(CP _ _).mono ?_;rintro e w9 ⟨rfl,rfl⟩)|(go_at_call 21;go_loud (refine(hex.out _ _ _ _ [_] _ hv7 h7.out).mono ?_;rintro e w8 ⟨rfl,BI⟩;(have h8:=Lh (hP7.out.pure BI));clear BI h7 hP7 hex y0 y1 x0 x1))|(go_at_call 22;go_loud (refine(hfe.out _ _ _ _ _ _ hL2.out h8.out).mono ?_;rintro e w10 ⟨rfl,n,rfl⟩;clear hfe)));go_ret;exact⟨rfl,(h8.out.drewN n).below⟩
 have e0:(bl+il==0)=false:=by rw[jM];omega
 have hno:mY nb i<Bz\/(i:Int)<Iz:=by rw[hrm];omega
 have hly:Hid (∀W f q p Y,Sep w W (bH f q p S0::Y)->Calls Tryz.prog 15 #[pV f,.agg #[nv,fv]] W fun e w'=>e= .returned (iV 27)/\∃S',gY S' [] [] nb i/\Sep w w' (bH f q p S'::Y)):=Lh fun W f q p Y hS=>
  anY hL0 ho.out.smW hlz.out hws (by rw[hrm];omega) hno (fun W X hX=>hT'.out W hX.below) hS
 have hsc:Hid (∀W f q p S' Y,gY S' [] [] nb i->Sep w W (bH f q p S'::Y)->Calls Tryz.prog 19 #[pV f] W fun e w'=>∃A B c d,e= .returned (.tuple #[.agg #[.slice A 0 c,.slice B 0 d],iV 0])/\Below w.heap.size w w'):=Lh fun W f q p S' Y hL hS=>by refine(ah9 hL hS).mono ?_;rintro e w' ⟨A,B,c,d,S2,rfl,_,_,k3⟩;exact⟨A,B,c,d,rfl,k3.below⟩
 clear hz hno hws hL0 hnb hb0 hi0 hrm hb4 hi4 hBz hIz;go_enter Tryz.func4,Tryz.ntmps4;go_wp2_with(first |(go_at_call 8;go_loud (refine hal.out.mono ?_;rintro e w1 ⟨rfl,hS⟩;(have h1:=Lh hS);(have z0:=hS.bC 0 rfl 0);(have z1:=hS.bC 0 rfl 1);simp only[gA,gB,gC]at z0 z1;clear hS hal))|(go_at_call 9;go_loud (refine(hbg.out _ h1.out.below).mono ?_;rintro e w2 ⟨(rfl|⟨rfl,wM⟩),hb⟩<;>(have hS:=h1.out.pure hb)<;>(have h2:=Lh hS)<;>(have y0:=hS.bC 0 rfl 0)<;>(have y1:=hS.bC 0 rfl 1)<;>simp only[gA,gB,gC]at y0 y1<;>clear hS hb h1 hbg z0 z1)))
 focus (go_wp2_with fail;go_ret;exact⟨rfl,h2.out.below⟩)
 go_wp2_with(first |(go_at_call 11;go_loud (refine(hlo.out _ (hsm.out wM) h2.out.below).mono ?_;rintro e w3 ⟨rfl,hb⟩;(have hS:=h2.out.pure hb);(have h3:=Lh hS);(have y0:=hS.bC 0 rfl 0);(have y1:=hS.bC 0 rfl 1);simp only[gA,gB,gC]at y0 y1;clear hb h2 hlo hS))|(go_at_call 13;go_loud (refine(hwt.out _ h3.out.below).mono ?_;rintro e w4 ⟨rfl,hb⟩;(have hS:=(h3.out.pure hb).bN 33 #[iV Bz,iV Iz]);(have h4:=Lh hS);(have y0:=hS.bC 1 rfl 0);(have y1:=hS.bC 1 rfl 1);(have x0:=hS.bC 0 rfl 0);(have x1:=hS.bC 0 rfl 1);simp only[gA,gB,gC]at y0 y1 x0 x1;clear hb h3 hwt hS))|(go_at_call 14;go_loud (refine(hfr.out _ _ h4.out).mono ?_;rintro e w5 ⟨f,q,p,rfl,hS⟩;(have h5:=Lh hS);(have y0:=hS.bC 2 rfl 0);(have y1:=hS.bC 2 rfl 1);simp only[gA,gB,gC]at y0 y1;clear hS h4 hfr x0 x1))|(go_at_call 15;go_loud (refine(hly.out _ _ _ _ _ h5.out).mono ?_;rintro e w6 ⟨rfl,S1,hL1,hS⟩;(have h6:=Lh hS);(replace hL1:=Lh hL1);clear hS h5 hly y0 y1))|(go_at_call 19;go_loud (refine(hsc.out _ _ _ _ _ _ hL1.out h6.out).mono ?_;rintro e w7 ⟨A7,B7,c7,d7,rfl,hb7⟩;(have h7:=Lh (hb7.alloc hb7.size (.cells #[.slice A7 0 c7,.slice B7 0 d7] 25)));clear hb7 h6 hsc hL1))|(go_at_call 16;refine(CP _ _).mono ?_;rintro e w9 ⟨rfl,rfl⟩));go_ret;exact⟨rfl,h7.out⟩
end Go.Proofs.YtmjomdkleikgbaaGreat
namespace Go.Proofs.YtmjomdkleikgbaaGreat
open Go.ChangeShapes Go.WideShapes Go.ChangeAt Go.RowKit Go.Deep
theorem S9 :Tryz.prog.cellsOf 68=3:=by kernel_rfl
theorem TA :Tryz.prog.cellsOf 71=2:=by kernel_rfl
theorem aiO :Tryz.prog.cellsOf 25=2:=by kernel_rfl
theorem an8 :Tryz.prog.cellsOf 9=1:=by kernel_rfl
theorem K6 :Tryz.prog.cellsOf 3=1:=by kernel_rfl
theorem aiP :Tryz.prog.cellsOf 5=1:=by kernel_rfl
theorem afD :Tryz.prog.cellsOf 69=1:=by kernel_rfl
theorem afE :Tryz.prog.cellsOf 22=1:=by kernel_rfl
theorem afF :Tryz.prog.cellsOf 23=1:=by kernel_rfl
def axL (b:UInt8):List Value:=[kT b]
theorem atP (bs:List UInt8):bs.flatMap axL=bs.map kT:=by
 induction bs with
 |nil=>rfl
 |cons x xs ih=>rw[wU,ih];rfl
theorem atQ (x:ByteArray):Value.string x=aC x.data.toList:=by unfold aC;congr 1
section
variable {H:Type} {enc:TypeId×Value->H} {W:World} {sp:Nat->Bool} {held:Bool}
theorem F8 {t e:TypeId} {sz:Nat} (ht:Tryz.prog.underlying t=some (.slice e)) (hsz:Tryz.prog.cellsOf e=sz) (h0:0<sz) {α:Type} (z:α) (One:α->List Value) (hO:∀x,(One x).length=sz) (Q:α->Prop)
  (one:∀(n:Nat) (cs:List Value) (y:DataW H×List MemPlace),DataW.trod enc Tryz.prog W 0 sp held n e cs=some y->∃x,cs=One x/\Q x)
  {fuel:Nat} {cs0:List Value} {x0:DataW H×List MemPlace} (hf:DataW.trod enc Tryz.prog W 0 sp held fuel t cs0=some x0):
  ∃(A:Option Addr) (cap:Nat) (xs:List α),cs0=[.slice A xs.length cap]/\Rd W sz (.slice A xs.length cap) xs.length (xs.flatMap One)/\∀a∈xs,Q a:=by
 rcases DataW.trod_slice ht hf with⟨rfl,_⟩|⟨a,len,cap,elems,rest,n,_,rfl,hd,hb,hl,hm,hlen,hel,_,_⟩
 ·exact⟨none,0,[],rfl,⟨by simp,none,0,rfl,iB _,gI _,fun h=>absurd h (Nat.lt_irrefl _)⟩,by simp⟩
 have key:∀i,∃x:α,i<len->(∀f,f<sz->W.cell? (a.add (i*sz+f))=(One x)[f]?)/\Q x:=by
  intro i;by_cases hi:i<len
  ·have h1:=hel i hi;obtain⟨y,hy⟩:∃y,elems[i]? =some y:=⟨_,gE aD⟩;rw[hy,Option.bind_eq_some_iff,hsz]at h1;obtain⟨cs,hc,ht⟩:=h1;obtain⟨x,rfl,hq⟩:=one _ _ _ ht;obtain⟨_,_,hcell⟩:=World.cells?_some hc;refine⟨x,fun _=>⟨fun f hf=>?_,hq⟩⟩;rw[<-hcell f hf,afV]
  exact⟨z,fun h=>absurd h hi⟩
 obtain⟨X,hX⟩:=Classical.axiomOfChoice key;have akT:((List.range len).map X).length=len:=by simp
 have hat:∀i,i<len->((List.range len).map X)[i]? =some (X i):=by intro i hi;rw[kV,UY hi];rfl
 refine⟨some a,cap,(List.range len).map X,by rw[akT],?_,fun x hx=>?_⟩
 ·rw[akT];refine⟨by rw[KQ One sz hO,akT],some a,cap,rfl,hl,hm,fun hpos=>⟨a,rfl,?_,fun j u hu=>?_⟩⟩
  ·have h1:=((hX 0) hpos).1 0 h0;obtain⟨z9,hz⟩:∃z9,(One (X 0))[0]? =some z9:=⟨_,gE (by rw[hO];exact h0)⟩;rw[hz]at h1;have:=World.block_lt_of_cell? W _ h1
   rwa [yA]at this
  have hj:j<len*sz:=by
   have:=(gF.1 hu).1
   rwa [KQ One sz hO,akT]at this
  have hi:j/sz<len:=Nat.div_lt_of_lt_mul (by rw[OJ];exact hj);have hr:j%sz<sz:=Nat.mod_lt _ h0;(have e:j=j/sz*sz+j%sz:=by rw[OJ];exact(Nat.div_add_mod j sz).symm);rw[e]at hu ⊢;rw[Q8 One sz hO (hat _ hi) _ hr]at hu;rw[((hX _) hi).1 _ hr,hu]
 obtain⟨i,hi,rfl⟩:=List.mem_map.1 hx;exact((hX i) (List.mem_range.1 hi)).2
theorem an9 (n:Nat) (cs:List Value) (y:DataW H×List MemPlace) (h:DataW.trod enc Tryz.prog W 0 sp held n 5 cs=some y):∃b:UInt8,cs=axL b/\True:=by
 obtain⟨n,rfl,_,hw⟩:=DataW.trod_int Tryz.underlying5 h;have hr:0<=n/\n<=255:=by unfold Lit.wf at hw;rw[sJ,decide_eq_true_iff,decide_eq_true_iff]at hw;(have e1:IntKind.u8.min=0:=by decide);(have e2:IntKind.u8.max=255:=by decide);omega
 refine⟨UInt8.ofNat n.toNat,?_,trivial⟩;unfold axL kT;have:(UInt8.ofNat n.toNat).toNat=n.toNat:=by rw[UInt8.toNat_ofNat'];omega
 rw[this,ai5 hr.1]
theorem aiQ (n:Nat) (cs:List Value) (y:DataW H×List MemPlace) (h:DataW.trod enc Tryz.prog W 0 sp held n 69 cs=some y):∃x:Value×List UInt8,cs=[x.1]/\BytesAt W x.1 x.2:=by obtain⟨A,cap,xs,e,hr,_⟩:=F8 Tryz.underlying69 aiP aV (0:UInt8) axL (fun _=>rfl) (fun _=>True) an9 h;rw[atP]at hr;exact⟨(_,xs),e,hr⟩
theorem atS (n:Nat) (cs:List Value) (y:DataW H×List MemPlace) (h:DataW.trod enc Tryz.prog W 0 sp held n 9 cs=some y):∃s:List UInt8,cs=[aC s]/\s.length<=9223372036854775807:=by obtain⟨s,rfl,_,hl⟩:=DataW.trod_string Tryz.underlying9 h;refine⟨s.data.toList,by rw[atQ],?_⟩;have:s.data.toList.length=s.size:=Array.length_toList;rw[this];exact hl
theorem aoA (n:Nat) (cs:List Value) (y:DataW H×List MemPlace) (h:DataW.trod enc Tryz.prog W 0 sp held n 68 cs=some y):∃x:TN,cs=GG x/\x.path.length<=9223372036854775807:=by
 obtain⟨xs,n,rfl,rfl,hl,hxl,hx⟩:=DataW.trod_struct Tryz.underlying68 h;rw[S9]at hl;obtain⟨c0,c1,c2,rfl⟩:∃c0 c1 c2,cs=[c0,c1,c2]:=by
  match cs,hl with
  |[c0,c1,c2],_=>exact⟨c0,c1,c2,rfl⟩
 obtain⟨x0,x1,x2,rfl⟩:∃x0 x1 x2,xs=[x0,x1,x2]:=by
  match xs,hxl with
  |[x0,x1,x2],_=>exact⟨x0,x1,x2,rfl⟩
 have h0:DataW.trod enc Tryz.prog W 0 sp held n 9 (([c0,c1,c2].drop 0).take (Tryz.prog.cellsOf 9))=some x0:=hx 0 _ rfl;rw[an8]at h0;have h1:DataW.trod enc Tryz.prog W 0 sp held n 3 (([c0,c1,c2].drop 1).take (Tryz.prog.cellsOf 3))=some x1:=hx 1 _ rfl;rw[K6]at h1;have h2:DataW.trod enc Tryz.prog W 0 sp held n 3 (([c0,c1,c2].drop 2).take (Tryz.prog.cellsOf 3))=some x2:=hx 2 _ rfl;rw[K6]at h2;simp only[abE,aa9,UZ,N7]at h0 h1 h2;obtain⟨s0,e0,k0⟩:=atS _ _ _ h0;obtain⟨n1,e1,rfl,_⟩:=DataW.trod_int Tryz.underlying3 h1;obtain⟨n2,e2,rfl,_⟩:=DataW.trod_int Tryz.underlying3 h2;simp only[List.cons.injEq,and_true]at e0 e1 e2;subst e0 e1 e2;exact⟨⟨s0,n1,n2⟩,rfl,k0⟩
def aBB (x:Int×Value×List UInt8):List Value:=[.int .i64 x.1,x.2.1]
theorem aoB (n:Nat) (cs:List Value) (y:DataW H×List MemPlace) (h:DataW.trod enc Tryz.prog W 0 sp held n 71 cs=some y):∃x:Int×Value×List UInt8,cs=aBB x/\BytesAt W x.2.1 x.2.2:=by
 obtain⟨xs,n,rfl,rfl,hl,hxl,hx⟩:=DataW.trod_struct Tryz.underlying71 h;rw[TA]at hl;obtain⟨c0,c1,rfl⟩:∃c0 c1,cs=[c0,c1]:=by
  match cs,hl with
  |[c0,c1],_=>exact⟨c0,c1,rfl⟩
 obtain⟨x0,x1,rfl⟩:∃x0 x1,xs=[x0,x1]:=by
  match xs,hxl with
  |[x0,x1],_=>exact⟨x0,x1,rfl⟩
 have h0:DataW.trod enc Tryz.prog W 0 sp held n 3 (([c0,c1].drop 0).take (Tryz.prog.cellsOf 3))=some x0:=hx 0 _ rfl;rw[K6]at h0;have h1:DataW.trod enc Tryz.prog W 0 sp held n 69 (([c0,c1].drop 1).take (Tryz.prog.cellsOf 69))=some x1:=hx 1 _ rfl;rw[afD]at h1;simp only[abE,aa9,UZ,N7]at h0 h1;obtain⟨n0,e0,rfl,_⟩:=DataW.trod_int Tryz.underlying3 h0;obtain⟨⟨u,bs⟩,e1,hb⟩:=aiQ _ _ _ h1;simp only[List.cons.injEq,and_true]at e0 e1;subst e0 e1;exact⟨(n0,c1,bs),rfl,hb⟩
end
theorem afG (ys:List (Int×Value×List UInt8)):ys.flatMap aBB=iE (ys.map (fun y=>⟨y.1,y.2.2⟩)) (ys.map (·.2.1)):=by
 induction ys with
 |nil=>rfl
 |cons y ys ih=>rw[wU,ih];rfl
section
variable {H:Type} {enc:TypeId×Value->H} {W:World}
theorem arg_treeW {v:Value} {d:DataW H} {p:List MemPlace} {base:Nat} (hok:Value.okWide Tryz.prog W .any base 25 v) (h0:DataW.Trod enc Tryz.prog W 0 (fun _=>true) true 25 v d p):
  ∃(nv fv:Value) (ns:List TN) (fs:List TF) (vs:List Value),v= .agg #[nv,fv]/\iF W nv fv ns fs vs/\(∀n∈ns,n.path.length<=9223372036854775807)/\∀f∈fs,f.size<=9223372036854775807:=by
 obtain⟨cs,rfl,hsz⟩:=okWide_struct Tryz.underlying25 hok;obtain⟨fuel,hf⟩:=h0;obtain⟨xs,n,rfl,hd,hl,hxl,hx⟩:=DataW.trod_struct Tryz.underlying25 hf;rw[aiO]at hsz;obtain⟨c0,c1,rfl⟩:∃c0 c1,cs=#[c0,c1]:=by
  obtain⟨l⟩:=cs
  match l,hsz with
  |[c0,c1],_=>exact⟨c0,c1,rfl⟩
 obtain⟨x0,x1,rfl⟩:∃x0 x1,xs=[x0,x1]:=by
  match xs,hxl with
  |[x0,x1],_=>exact⟨x0,x1,rfl⟩
 have h0:DataW.trod enc Tryz.prog W 0 (fun _=>true) true n 22 (([c0,c1].drop 0).take (Tryz.prog.cellsOf 22))=some x0:=hx 0 _ rfl;rw[afE]at h0;have h1:DataW.trod enc Tryz.prog W 0 (fun _=>true) true n 23 (([c0,c1].drop 1).take (Tryz.prog.cellsOf 23))=some x1:=hx 1 _ rfl;rw[afF]at h1;simp only[abE,aa9,UZ,N7]at h0 h1;obtain⟨A,cN,ns,e0,ZK,hqN⟩:=F8 Tryz.underlying22 S9 aV (⟨[],0,0⟩:TN) GG (fun _=>rfl) (fun x=>x.path.length<=9223372036854775807) aoA h0;obtain⟨B,cF,ys,e1,hrF,hqF⟩:=F8 Tryz.underlying23 TA aV ((0,.nilFunc,[]):Int×Value×List UInt8) aBB (fun _=>rfl) (fun x=>BytesAt W x.2.1 x.2.2) aoB h1;simp only[List.cons.injEq,and_true]at e0 e1;subst e0 e1;refine⟨_,_,ns,ys.map (fun y=>⟨y.1,y.2.2⟩),ys.map (·.2.1),rfl,⟨by simp,ZK,?_,fun k u f hu hf=>?_⟩,hqN,fun f hf=>?_⟩
 ·rw[iM];rw[afG]at hrF;exact hrF
 ·rw[kV,OA]at hu hf;obtain⟨y,hy,rfl⟩:=hu;obtain⟨y',hy',rfl⟩:=hf;obtain rfl:y=y':=Option.some.inj (hy.symm.trans hy');exact⟨_,hqF y (gG hy),fun u hu=>(by obtain⟨x,_,rfl⟩:=List.mem_map.1 hu;rfl),rfl⟩
 obtain⟨y,hy,rfl⟩:=List.mem_map.1 hf;obtain⟨_,_,_,h2⟩:=Rd.shape (hqF y hy);unfold maxLen at h2;show y.2.2.length<=_
 omega
end
end Go.Proofs.YtmjomdkleikgbaaGreat
