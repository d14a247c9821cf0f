/- Parts. -/
import Derived.Test.YteihmbaimbogaaaGreatJ40
set_option linter.unusedVariables false
set_option linter.unusedSimpArgs false
set_option maxRecDepth 100000
set_option maxHeartbeats 20000000
namespace Go.Proofs.YteihmbaimbogaaaGreat
open Go.RowKit
theorem av9 {op:Int} {p q:List UInt8} {mode ref:Int} {cs:List Value} {len:Nat} (h:op=6->0<=ref->ref<cs.length->IX (cs.getD ref.toNat (.slice none 0 0))=len):H8 op p q mode ref cs.length len=fJ op p q mode ref cs:=by
 by_cases hr:op<1\/9<op
 ·unfold H8 uW fJ;rw[if_pos hr,if_pos];unfold dA;(have h1:∀k:Int,1<=k->k<=9->(op==k)=false:=fun k _ _=>by rw[mM];omega);rw[h1 3 aQ aQ,h1 4 aQ aQ,h1 7 aQ aQ,h1 1 aQ aQ,h1 6 aQ aQ,h1 8 aQ aQ,h1 2 aQ aQ,h1 5 aQ aQ,h1 9 aQ aQ];rfl
 have h19:op=1\/op=2\/op=3\/op=4\/op=5\/op=6\/op=7\/op=8\/op=9:=by omega
 rcases h19 with rfl|rfl|rfl|rfl|rfl|rfl|rfl|rfl|rfl
 case inr.inr.inr.inr.inr.inl=>
  by_cases hf:0<=ref/\ref<cs.length
  ·rw[<-h rfl hf.1 hf.2];simp[H8,uW,dA,fJ,qN,xH,JQ]
  (have h2:ref<0\/(cs.length:Int)<=ref:=by omega);simp[H8,uW,dA,fJ,qN,xH,JQ,h2]
 all_goals simp[H8,uW,dA,fJ,qN,xH,JQ]
structure yP (T:TR) (ns:List TN) (fs:List FT):Prop where
 good:VZ ns (zB fs)
 eq:T=(tY ns,tT ns (zB fs))
section
variable {T:TR} {ns:List TN} {fs:List FT}
theorem yP.loose (h:yP T ns fs):fT T.1 T.2:=by rw[h.eq];exact aaM h.good.good h.good.few fun n hn hf=>(h.good.file n hn hf).2
theorem fT.le {ns:List TN} {fs:List TF} (ho:fT ns fs):fs.length<=ns.length:=by
 have key:∀(i m:Nat),runK ns i=some m->m<=i:=fun i=>by
  induction i with
  |zero=>intro m h;cases h;exact jL _
  |succ i ih=>
   intro m h;unfold runK at h;cases hr:runK ns i with
   |none=>rw[hr]at h;cases h
   |some k=>
    rw[hr]at h;have:=ih k hr;simp only at h;cases hn:ns[i]? with
    |none=>rw[hn]at h;cases h;omega
    |some n=>
     rw[hn]at h;simp only at h;split at h
     ·have e:=Option.some.inj h;unfold mG at e;split at e<;>omega
     cases h
 exact key _ _ ho.run
theorem yP.alike (h:yP T ns fs):Alike (fun i=>((gP (fU ns)).idxOf i:Nat)) T.1 T.2 ns (zB fs):=by rw[h.eq];exact NS ns (zB fs)
theorem awC (h:yP T ns fs) {op:Int} (hop:1<=op/\op<=8) {p q:List UInt8} {mode ref:Int} {cs:List Value} {bs:List UInt8} (hv:aU p=true) (GN:op=3\/op=4\/op=7->aU q=true)
  (hm:op=1\/op=6\/op=7\/op=8->0<=mode/\mode<=511) (hb:op=6->bs.length<=8192/\IX (cs.getD ref.toNat (.slice none 0 0))=bs.length):
  jW (y7 op p q T.1) (NZ op p q mode T) (VY op p q mode bs T) (H9 ns fs op p q mode.toNat bs):=by
 have ha:=h.alike;have ho:=h.loose;have hT:=ho.le;have hS:=ho.size;have hM:op=1\/op=6\/op=7\/op=8->fQ mode=true:=fun e=>by unfold fQ;rw[tJ,uP,uP];exact hm e
 have h18:op=1\/op=2\/op=3\/op=4\/op=5\/op=6\/op=7\/op=8:=by omega
 rcases h18 with rfl|rfl|rfl|rfl|rfl|rfl|rfl|rfl
 ·exact aEY h.good ha hT hS hv (hM aD)
 ·exact aE0 h.good ha hT hS (uJ hv)
 ·exact aE2 h.good ha hT hS (GN aD)
 ·exact aE3 h.good ha hT hS (GN aD)
 ·exact aE1 h.good ha hT hS
 ·have e:VY 6 p q mode bs T=T.2++[⟨mode,bs⟩]:=rfl;rw[e];exact aEZ h.good ha hT hS hv (hM aD) (hb rfl).1
 ·exact aE4 h.good ha hT hS (GN aD) (hM aD)
 exact aE5 h.good ha hT hS (hM aD)
end
theorem anJ (k:Nat):CG k=kD 1 k:=by unfold CG kD;rw[if_pos rfl];split<;>omega
theorem awD (k:Nat):xG k=kD 2 k:=by unfold xG kD;rw[if_neg (show ¬(2:Nat)=1 by decide),if_pos (show(2:Nat)=2 from rfl)];split<;>split<;>omega
theorem ah2 {l m:List Int} (h:l.Perm m):l.sum=m.sum:=by
 induction h with
 |nil=>rfl
 |cons x _ ih=>rw[BD,BD,ih]
 |swap x y l=>simp only[BD];omega
 |trans _ _ h1 h2=>rw[h1,h2]
theorem V4 (f:TN->Int):∀ns:List TN,(ns.map fun n=>if n.file= -1 then f n else 0).sum=((sS ns).map f).sum
 |[]=>rfl
 |n::t=>by
  unfold sS;rw[mH,BD,V4 f t,zG];by_cases h:n.file= -1
  ·rw[if_pos h,if_pos (by simpa using h),mH,BD];rfl
  rw[if_neg h,if_neg (by simpa using h),Int.zero_add];rfl
section
variable {ns:List TN} {fs:List FT}
theorem aaT (hg:pE ns):(gP (fU ns)).Perm (iW ns):=by
 refine(List.perm_ext_iff_of_nodup (aqJ _) (vP _)).2 fun k=>?_
 rw[nH];constructor
 ·intro h;obtain⟨n,hn,h1,h2⟩:=GU _ k h;exact⟨by omega,n,rD.1 hn,h1⟩
 rintro⟨h1,n,hn,rfl⟩;refine EZ _ n (rD.2 hn) ?_;rcases hg.file n hn with⟨h2,_⟩|⟨h2,_⟩<;>omega
theorem ah3 (hg:pE ns) (f:List UInt8->Int):((tY ns).map fun n=>if n.file= -1 then f n.path else 0).sum=((sS ns).map fun n=>f n.path).sum:=by
 have ha:=NS ns [];rw[ah2 (ha.perm.map fun(n:TN)=>if n.file= -1 then f n.path else 0),DR,<-V4 fun n=>f n.path];congr 1;apply BA;intro n hn;show(if(ren _ n).file= -1 then f (ren _ n).path else 0)=_
 rw[nU];rcases hg.file n hn with⟨h1,_⟩|⟨h1,_⟩
 ·rw[tZ aD]
 have h2:=(ha.file n hn aD).1;rw[oM aD,if_neg (show ¬((List.idxOf n.file (gP (fU ns)):Nat):Int)= -1 by omega),if_neg (show ¬n.file= -1 by omega)]
theorem awE (fs:List FT) (k:Int):xG (iK (zB fs) k).size=kD 2 (afZ fs k):=by
 have e:(nI fs k).length=afZ fs k:=by unfold afZ nI;cases fs[k.toNat]? <;>rfl
 rw[awD,ahW,e]
theorem azS (hg:pE ns):wdB (tY ns) (tT ns (zB fs))=zV ns fs:=by
 unfold wdB zV dnB dfB;have hc:=fun p=>(NS ns (zB fs)).cnt p
 rw[hc,anJ,<-avM ns hg.valid];have e1:((tY ns).map fun n=>if n.file= -1 then CG (mD (tY ns) n.path)else 0).sum=((sS ns).map fun n=>kD 1 (iI ns (bW n))).sum:=by rw[ah3 hg fun p=>CG (mD (tY ns) p)];congr 1;apply BA;intro n hn;(show CG (mD (tY ns) n.path)=kD 1 (iI ns (splitB n.path)));rw[hc,anJ,ag9 ns hg.valid (uJ (hg.valid n (jO.1 hn).1))]
 have e2:((tT ns (zB fs)).map fun f=>xG f.size).sum=((iW ns).map fun k=>kD 2 (afZ fs k)).sum:=by unfold tT;(have h3:(fun f:TF=>xG f.size)∘iK (zB fs)=fun k=>kD 2 (afZ fs k):=funext fun k=>by rw[Function.comp_apply,awE]);rw[DR,h3];exact ah2 ((aaT hg).map _)
 rw[e1,e2]
theorem azT (hg:pE ns):wdI (tY ns) (tT ns (zB fs))=sU ns:=by
 unfold wdI sU dnI;have e1:((tY ns).map fun n=>if n.file= -1 then(1:Int)else 0).sum=(sS ns).length:=by rw[ah3 hg fun _=>1,QI fun _ _=>rfl]
 have e2:((tT ns (zB fs)).length:Int)=(iW ns).length:=by unfold tT;rw[kV,(aaT hg).length_eq]
 rw[e1,e2]
end
def CU (rB rI:Int) (op:Int) (p q:List UInt8) (mode ref:Int) (cs:List Value) (bs:List UInt8) (T:TR):Int:=
 if op=9 then 0 else if xQ op p q mode ref cs bs T=0 then(if wdB (y8 op p q mode bs T).1 (y8 op p q mode bs T).2<=rB/\wdI (y8 op p q mode bs T).1 (y8 op p q mode bs T).2<=rI then 0 else 27)else xQ op p q mode ref cs bs T
def worldT (rB rI:Int) (op:Int) (p q:List UInt8) (mode ref:Int) (cs:List Value) (bs:List UInt8) (T:TR):TR:=if op≠9/\CU rB rI op p q mode ref cs bs T=0 then y8 op p q mode bs T else T
theorem X9 {T:TR} {ns:List TN} {fs:List FT} (h:yP T ns fs) (nb names:Nat) {op:Int} {p q:List UInt8} {mode ref:Int} {cs:List Value} {bs:List UInt8} (hb:op=6->0<=ref->ref<cs.length->IX (cs.getD ref.toNat (.slice none 0 0))=bs.length)
  (hact:1<=op/\op<=8->aU p=true->(op=3\/op=4\/op=7->aU q=true)->(op=1\/op=6\/op=7\/op=8->0<=mode/\mode<=511)->(op=6->bs.length<=8192/\IX (cs.getD ref.toNat (.slice none 0 0))=bs.length)->jW (y7 op p q T.1) (NZ op p q mode T) (VY op p q mode bs T) (H9 ns fs op p q mode.toNat bs)):
  CU (sZ nb names) names op p q mode ref cs bs T=(IA nb names ns fs op p q mode ref cs.length bs).e/\yP (worldT (sZ nb names) names op p q mode ref cs bs T) (IA nb names ns fs op p q mode ref cs.length bs).ns (IA nb names ns fs op p q mode ref cs.length bs).fs:=by
 have hck:=av9 (op:=op) (p:=p) (q:=q) (mode:=mode) (ref:=ref) (cs:=cs) (len:=bs.length) hb;unfold worldT CU IA;by_cases h9:op=9
 ·subst h9;(have e0:H8 9 p q mode ref cs.length bs.length=0:=by rw[hck];rfl);rw[if_pos rfl,if_pos e0,if_pos rfl,if_neg (fun h=>h.1 rfl)];exact⟨rfl,h⟩
 by_cases h0:H8 op p q mode ref cs.length bs.length=0
 ·rw[if_pos h0,if_neg h9,if_neg h9];rcases LA h0 with e|⟨hk1,_,hk⟩
  ·exact absurd e h9
  have h19:=T9 hk1;(have h18:1<=op/\op<=8:=by omega);have hs:=hact h18 hk.valid (fun e=>hk.yU (by rcases e with rfl|rfl|rfl<;>rfl)) (fun e=>hk.mode (by rcases e with rfl|rfl|rfl|rfl<;>rfl))
   (fun e=>⟨(hk.data e).2.2,hb e (hk.data e).1 (hk.data e).2.1⟩)
  (have e1:xQ op p q mode ref cs bs T=if y7 op p q T.1=0 then(if nT (NZ op p q mode T) (VY op p q mode bs T)=0 then 0 else 31)else y7 op p q T.1:=by unfold xQ JW;rw[if_neg aD,if_neg h9,<-hck,if_pos h0]);(have e2:y8 op p q mode bs T=(tY (NZ op p q mode T),tT (NZ op p q mode T) (VY op p q mode bs T)):=by unfold y8;rw[if_neg h9]);cases hA:H9 ns fs op p q mode.toNat bs with
  |error k=>rw[hA]at hs;have e3:xQ op p q mode ref cs bs T=k:=e1.trans hs.2;rw[e3,if_neg hs.1,if_neg (fun x=>hs.1 x.2)];exact⟨rfl,h⟩
  |ok X=>
   rw[hA]at hs;obtain⟨s1,s2,s3,s4,s5⟩:=hs;(have e3:xQ op p q mode ref cs bs T=0:=by rw[e1,s1,if_pos rfl,if_pos s2]);rw[e3,if_pos rfl,e2,s4,s5];simp only;rw[azS s3.good,azT s3.good];unfold vF;simp only;by_cases hf:yK nb names X.1 X.2=true
   ·(have hf2:zV X.1 X.2<=(sZ nb names:Nat)/\sU X.1<=(names:Nat):=by unfold yK at hf;rw[tJ,uP,uP]at hf;exact hf);rw[if_pos hf,if_pos hf2,if_pos ⟨h9,rfl⟩];exact⟨rfl,s3,rfl⟩
   (have hf2:¬(zV X.1 X.2<=(sZ nb names:Nat)/\sU X.1<=(names:Nat)):=fun h=>hf (by unfold yK;rw[tJ,uP,uP];exact h));rw[if_neg hf,if_neg hf2,if_neg (fun x=>absurd x.2 aQ)];exact⟨rfl,h⟩
 have e1:xQ op p q mode ref cs bs T=H8 op p q mode ref cs.length bs.length:=by
  unfold xQ;by_cases hr:op<1\/9<op
  ·rw[if_pos hr,hck];unfold fJ;rw[if_pos hr]
  rw[if_neg hr,if_neg h9];unfold JW;rw[<-hck,if_neg h0]
 rw[if_neg h0,if_neg h9,e1,if_neg h0,if_neg (fun x=>h0 x.2)];exact⟨rfl,h⟩
theorem azU {w:World} {nv fv:Value} {ns:List TN} {fs:List TF} {vs:List Value} (h:bY w nv fv ns fs vs) (ho:fT ns fs) {p tz:List UInt8} (VK:p.length<=9223372036854775807) (VL:tz.length<=9223372036854775807) (mode ref:Int) {sv:Value} {cs:List Value} (hsv:kU w sv cs):
  Calls Tryz.prog 54 #[.agg #[nv,fv],mY 1 p tz mode ref,sv] w fun e w'=>∃A3 n3 c3 A4 n4 c4,e= .returned (.tuple #[.agg #[.slice A3 n3 c3,.slice A4 n4 c4],.int .i64 (JW (fJ 1 p tz mode ref cs) (dI ns p) (ns++[⟨p, -1,mode⟩]) (fs))])/\Sep w w' [.keep fun W=>JW (fJ 1 p tz mode ref cs) (dI ns p) (ns++[⟨p, -1,mode⟩]) (fs)=0->∃vs',bY W (.slice A3 n3 c3) (.slice A4 n4 c4) (tY (ns++[⟨p, -1,mode⟩])) (tT (ns++[⟨p, -1,mode⟩]) (fs)) vs']:=by
 have hm:gY ns fs:=⟨by have:=ho.few;omega,by have:=ho.oQ;omega,fun n hn=>by have:=iB (ho.mem hn).1;omega,fun f hf=>by have:=ho.size f hf;omega⟩;have l5:∀n∈ns, -1<=n.file:=fun n hn=>(ho.mem hn).2.1
 have hS0:=qB w nv fv 1 p tz mode ref;have hlo:=fun(W:World) (hW:Below w.heap.size w W)=>jU (h.below hW) hm
 rw[nZ ho]at hlo;have hfi:=fun(W:World) (hW:Below w.heap.size w W)=>jV (1:Int) (p:=p) (tz:=tz) aD aD mode ref (hsv.below hW)
 have l6:=gQ h;have uO:=h.nodes;have hfp:=h.files;obtain⟨A1,pR,rfl,hm1⟩:=h.nodes.shape;obtain⟨A2,pO,rfl,hm2⟩:=h.files.shape;obtain⟨Av,cv,rfl,_⟩:=hsv.1.shape;have b1:(ns.length:Int)<=256:=by have:=ho.few;omega
 have b2:(fs.length:Int)<=256:=by have:=ho.oQ;omega
 obtain⟨zt0,zt1,zi0,zi1,zi2,zi3,zi4,zr0,zr1,zf0,zf1⟩:=aP [] hS0;obtain⟨j0,uX,hj0,hj1,hj2⟩:=info_parts kM;obtain⟨k0,gN,hk0,hk1,hk2⟩:=info_parts jQ;have fV:=Lh hS0;have AQ:=Lh hlo;have nK:=Lh hfi;have oN:=Lh l6;have oV:=Lh uO;have mO:=Lh hfp;have h':=Lh h;have hm':=Lh hm;have ho':=Lh ho;have lL:=Lh l5;have IC:=Lh hsv;clear hS0 hlo hfi l6 uO hfp h hm ho l5 hsv;obtain⟨FD,AZ⟩:∃x,fJ 1 p tz mode ref cs=x:=⟨_,rfl⟩;have vU:=Lh AZ;rw[AZ]at nK ⊢;clear AZ;obtain⟨DE,J2⟩:∃x,JW FD (dI ns p) (ns++[⟨p, -1,mode⟩]) (fs)=x:=⟨_,rfl⟩;rw[J2];have acV:=Lh J2;clear J2;unfold mY aC at*;by_cases hf:FD=0
 case neg=>exact Z1
 subst hf;have hde:Hid (DE=if(dI ns p)=0 then(if nT (ns++[⟨p, -1,mode⟩]) (fs)=0 then 0 else 31)else(dI ns p)):=by exact ahS
 obtain⟨hvp,hrest⟩:=rC (show qN true false 1 p tz mode ref cs=0 from by have h:=vU.out;exact h);go_enter Tryz.func54,Tryz.ntmps54;go_wp2_with(first |(go_at_call 108;refine(AQ.out _ fV.out.below).mono ?_;rintro e w1 ⟨rfl,hb1⟩;(have hS1:=fV.out.pure hb1);obtain⟨WL,WM,WN,WO,WQ,WR,WS,WT,WU,WV,WW⟩:=aP [] hS1;replace hS1:=Lh hS1;clear hb1)|(go_at_call 109;refine(nK.out _ hS1.out.below).mono ?_;rintro e w2 ⟨rfl,hb2⟩;(have hS2:=hS1.out.pure hb2);obtain⟨bt0,bt1,bi0,bi1,bi2,bi3,bi4,br0,br1,bf0,bf1⟩:=aP [] hS2;replace hS2:=Lh hS2;clear hb2)|(at_builtin;refine aS 0 rfl _ _ 29 rfl 110 k0 _ 3 32 Tryz.underlying29 gN hk0 hk1 hk2 rfl aQ (hS2.out.dX 110 3) _ 0 [] rfl rfl (.slice A1 ns.length pR) ns.length (aV ns) XE (oV.out.below hS2.out.below) (dW _) oH aD ?_));intro v3 w3 dJ hz3;have hr3:Rd w3 3 v3 ns.length (aV ns):=dJ.rd 0 rfl;have J3:=hr3.form;clear hr3;obtain⟨A3,c3,hv3⟩:=J3;subst hv3;obtain⟨gt0,gt1,gi0,gi1,gi2,gi3,gi4,gr0,gr1,gf0,gf1⟩:=aP [_] dJ;replace dJ:=Lh dJ;clear hz3 hS2 hS1 WL WM WN WO WQ WR WS WT WU WV WW bt0 bt1 bi0 bi1 bi2 bi3 bi4 br0 br1 bf0 bf1 zt0 zt1 zi0 zi1 zi2 zi3 zi4 zr0 zr1 zf0 zf1;go_wp2_with(at_builtin;refine aS 0 rfl _ _ 30 rfl 112 j0 _ 2 32 Tryz.underlying30 uX hj0 hj1 hj2 rfl aQ (dJ.out.dX 112 2) _ 0 [] rfl rfl (.slice A2 fs.length pO) fs.length (dM fs vs) XE (mO.out.below dJ.out.below) oN.out oH aD ?_);intro v4 w4 fC WG;have hr4:Rd w4 2 v4 fs.length (dM fs vs):=fC.rd 0 rfl;have FH:=hr4.form;clear hr4;obtain⟨A4,c4,hv4⟩:=FH;subst hv4;obtain⟨ht0,ht1,hi0,hi1,hi2,hi3,hi4,hr0,hr1,hf0,hf1⟩:=aP [_,_] fC;replace fC:=Lh fC;clear WG dJ gt0 gt1 gi0 gi1 gi2 gi3 gi4 gr0 gr1 gf0 gf1;have vB:=fun(W:World) (hW:Below w.heap.size w W)=>qA (h'.out.below hW) hm'.out lL.out (p:=p) hvp
 unfold aC at vB;generalize dI ns p=AE at vB hde;have FJ:=Lh vB;clear vB;by_cases hae:AE=0
 case neg=>exact Z66
 subst hae;obtain⟨ME,FO⟩:∃x:Int,(if nT (ns++[⟨p, -1,mode⟩]) (fs)=0 then(0:Int)else 31)=x:=⟨_,rfl⟩;have mU:Hid (DE=ME):=by have h:=hde.out;rw[if_pos rfl,FO]at h;exact h
 have D5:=Lh FO;clear hde FO;go_wp2_with(first |(go_at_call 110;refine(iT _ _).mono ?_;rintro e wx ⟨rfl,hwx⟩;have GQ:=hwx.symm;clear hwx;subst GQ)|(go_at_call 112;refine(FJ.out _ fC.out.below).mono ?_;rintro e w5 ⟨rfl,hb5⟩;(have hS5:=fC.out.pure hb5);obtain⟨dt0,dt1,di0,di1,di2,di3,di4,dr0,dr1,df0,df1⟩:=aP [_,_] hS5;replace hS5:=Lh hS5;clear hb5)|(at_builtin;have aE6:=hS5.out.alloc (.cells #[.string ⟨p.toArray⟩,iV (-1),iV mode] 110);refine iZ 1 rfl _ _ 29 rfl 110 k0 _ 3 32 Tryz.underlying29 gN hk0 hk1 hk2 rfl aQ aE6 (.slice A3 ns.length c3) ns.length (aV ns) rfl rfl ⟨w5.heap.size,0,none⟩ 1 1 [.string ⟨p.toArray⟩,.int .i64 (-1),.int .i64 mode] rfl rfl (iA _ _ _ _ bM) Q8 aQ oH aD ?_));intro g6 c6 w6 jS hz6;have hT:bY w6 (sV g6 (ns.length+1) c6) (.slice A4 fs.length c4) (ns++[⟨p, -1,mode⟩]) fs vs:=by refine⟨h'.out.len,?_,jS.rd 0 rfl,fun k u f hu hf=>(h'.out.data k u f hu hf).below jS.below⟩;have h9:=jS.rd 1 rfl;exact azM
 have hsm:gY (ns++[⟨p, -1,mode⟩]) fs:=by
  refine⟨?_,hm'.out.oQ,fun n hn=>?_,hm'.out.size⟩
  ·rw[kN,xL];omega
  rcases gX.1 hn with hn|hn
  ·exact hm'.out.short n hn
  (have e:n=⟨p, -1,mode⟩:=by simpa using hn);subst e;(show p.length<=40000);(have:=iB hvp;omega)
 have hfr:∀n∈ns++[⟨p, -1,mode⟩],n.file= -1\/(0<=n.file/\n.file<(fs.length:Int)):=fun n hn=>by
  rcases gX.1 hn with hn|hn
  ·have:=ho'.out.mem hn;omega
  (have e:n=⟨p, -1,mode⟩:=by simpa using hn);subst e;exact Or.inl rfl
 have jE:=lZ hT hsm hfr;rw[D5.out]at jE;have pQ:=Lh jE;replace jS:=Lh jS;clear hT hsm hfr hz6 jE;go_wp2_with(go_at_call 114;refine pQ.out.mono ?_;rintro e w8 ⟨A8,n8,c8,A9,n9,c9,rfl,vD⟩;(have nM:=jS.out.join vD);obtain⟨mt0,mt1,mi0,mi1,mi2,mi3,mi4,mr0,mr1,mf0,mf1⟩:=aP [_,_,_] nM;replace nM:=Lh nM;clear vD);obtain⟨Q,hQ,e0,e1⟩:=kS [_,_,_] (.slice A8 n8 c8) (.slice A9 n9 c9) nM.out;refine bodyPost_ret (bR rfl rfl e0 e1) rfl ?_;exact⟨A8,n8,c8,A9,n9,c9,by rw[mU.out];rfl,Sep.keep (X:=[_]) (Y:=[]) (Sep.fst (X:=[_]) hQ) fun _ W hW h0=>hW.kept 0 rfl (by exact Z94)⟩
theorem azV {w:World} {nv fv:Value} {ns:List TN} {fs:List TF} {vs:List Value} (h:bY w nv fv ns fs vs) (ho:fT ns fs) {p tz:List UInt8} (VK:p.length<=9223372036854775807) (VL:tz.length<=9223372036854775807) (mode ref:Int) {sv:Value} {cs:List Value} (hsv:kU w sv cs):
  Calls Tryz.prog 54 #[.agg #[nv,fv],mY 2 p tz mode ref,sv] w fun e w'=>∃A3 n3 c3 A4 n4 c4,e= .returned (.tuple #[.agg #[.slice A3 n3 c3,.slice A4 n4 c4],.int .i64 (JW (fJ 2 p tz mode ref cs) (if bD ns p=0 then(if(aZ ns p).file= -1 then(if mD ns p=0 then 0 else 25)else 22)else bD ns p) (ns.take (dP ns p)++ns.drop (dP ns p+1)) (fs))])/\Sep w w' [.keep fun W=>JW (fJ 2 p tz mode ref cs) (if bD ns p=0 then(if(aZ ns p).file= -1 then(if mD ns p=0 then 0 else 25)else 22)else bD ns p) (ns.take (dP ns p)++ns.drop (dP ns p+1)) (fs)=0->∃vs',bY W (.slice A3 n3 c3) (.slice A4 n4 c4) (tY (ns.take (dP ns p)++ns.drop (dP ns p+1))) (tT (ns.take (dP ns p)++ns.drop (dP ns p+1)) (fs)) vs']:=by
 have hm:gY ns fs:=⟨by have:=ho.few;omega,by have:=ho.oQ;omega,fun n hn=>by have:=iB (ho.mem hn).1;omega,fun f hf=>by have:=ho.size f hf;omega⟩;have l5:∀n∈ns, -1<=n.file:=fun n hn=>(ho.mem hn).2.1
 have hS0:=qB w nv fv 2 p tz mode ref;have hlo:=fun(W:World) (hW:Below w.heap.size w W)=>jU (h.below hW) hm
 rw[nZ ho]at hlo;have hfi:=fun(W:World) (hW:Below w.heap.size w W)=>jV (2:Int) (p:=p) (tz:=tz) aD aD mode ref (hsv.below hW)
 have l6:=gQ h;have uO:=h.nodes;have hfp:=h.files;obtain⟨A1,pR,rfl,hm1⟩:=h.nodes.shape;obtain⟨A2,pO,rfl,hm2⟩:=h.files.shape;obtain⟨Av,cv,rfl,_⟩:=hsv.1.shape;have b1:(ns.length:Int)<=256:=by have:=ho.few;omega
 have b2:(fs.length:Int)<=256:=by have:=ho.oQ;omega
 obtain⟨zt0,zt1,zi0,zi1,zi2,zi3,zi4,zr0,zr1,zf0,zf1⟩:=aP [] hS0;obtain⟨j0,uX,hj0,hj1,hj2⟩:=info_parts kM;obtain⟨k0,gN,hk0,hk1,hk2⟩:=info_parts jQ;have fV:=Lh hS0;have AQ:=Lh hlo;have nK:=Lh hfi;have oN:=Lh l6;have oV:=Lh uO;have mO:=Lh hfp;have h':=Lh h;have hm':=Lh hm;have ho':=Lh ho;have lL:=Lh l5;have IC:=Lh hsv;clear hS0 hlo hfi l6 uO hfp h hm ho l5 hsv;obtain⟨FD,AZ⟩:∃x,fJ 2 p tz mode ref cs=x:=⟨_,rfl⟩;have vU:=Lh AZ;rw[AZ]at nK ⊢;clear AZ;obtain⟨DE,J2⟩:∃x,JW FD (if bD ns p=0 then(if(aZ ns p).file= -1 then(if mD ns p=0 then 0 else 25)else 22)else bD ns p) (ns.take (dP ns p)++ns.drop (dP ns p+1)) (fs)=x:=⟨_,rfl⟩;rw[J2];have acV:=Lh J2;clear J2;unfold mY aC at*;by_cases hf:FD=0
 case neg=>exact Z1
 subst hf;have hde:Hid (DE=if(if bD ns p=0 then(if(aZ ns p).file= -1 then(if mD ns p=0 then 0 else 25)else 22)else bD ns p)=0 then(if nT (ns.take (dP ns p)++ns.drop (dP ns p+1)) (fs)=0 then 0 else 31)else(if bD ns p=0 then(if(aZ ns p).file= -1 then(if mD ns p=0 then 0 else 25)else 22)else bD ns p)):=by exact ahS
 obtain⟨hvp,hrest⟩:=rC (show qN false false 2 p tz mode ref cs=0 from by have h:=vU.out;exact h);go_enter Tryz.func54,Tryz.ntmps54;go_wp2_with(first |(go_at_call 108;refine(AQ.out _ fV.out.below).mono ?_;rintro e w1 ⟨rfl,hb1⟩;(have hS1:=fV.out.pure hb1);obtain⟨WL,WM,WN,WO,WQ,WR,WS,WT,WU,WV,WW⟩:=aP [] hS1;replace hS1:=Lh hS1;clear hb1)|(go_at_call 109;refine(nK.out _ hS1.out.below).mono ?_;rintro e w2 ⟨rfl,hb2⟩;(have hS2:=hS1.out.pure hb2);obtain⟨bt0,bt1,bi0,bi1,bi2,bi3,bi4,br0,br1,bf0,bf1⟩:=aP [] hS2;replace hS2:=Lh hS2;clear hb2)|(at_builtin;refine aS 0 rfl _ _ 29 rfl 110 k0 _ 3 32 Tryz.underlying29 gN hk0 hk1 hk2 rfl aQ (hS2.out.dX 110 3) _ 0 [] rfl rfl (.slice A1 ns.length pR) ns.length (aV ns) XE (oV.out.below hS2.out.below) (dW _) oH aD ?_));intro v3 w3 dJ hz3;have hr3:Rd w3 3 v3 ns.length (aV ns):=dJ.rd 0 rfl;have J3:=hr3.form;clear hr3;obtain⟨A3,c3,hv3⟩:=J3;subst hv3;obtain⟨gt0,gt1,gi0,gi1,gi2,gi3,gi4,gr0,gr1,gf0,gf1⟩:=aP [_] dJ;replace dJ:=Lh dJ;clear hz3 hS2 hS1 WL WM WN WO WQ WR WS WT WU WV WW bt0 bt1 bi0 bi1 bi2 bi3 bi4 br0 br1 bf0 bf1 zt0 zt1 zi0 zi1 zi2 zi3 zi4 zr0 zr1 zf0 zf1;go_wp2_with(at_builtin;refine aS 0 rfl _ _ 30 rfl 112 j0 _ 2 32 Tryz.underlying30 uX hj0 hj1 hj2 rfl aQ (dJ.out.dX 112 2) _ 0 [] rfl rfl (.slice A2 fs.length pO) fs.length (dM fs vs) XE (mO.out.below dJ.out.below) oN.out oH aD ?_);intro v4 w4 fC WG;have hr4:Rd w4 2 v4 fs.length (dM fs vs):=fC.rd 0 rfl;have FH:=hr4.form;clear hr4;obtain⟨A4,c4,hv4⟩:=FH;subst hv4;obtain⟨ht0,ht1,hi0,hi1,hi2,hi3,hi4,hr0,hr1,hf0,hf1⟩:=aP [_,_] fC;replace fC:=Lh fC;clear WG dJ gt0 gt1 gi0 gi1 gi2 gi3 gi4 gr0 gr1 gf0 gf1;have hlk:=fun(W:World) (hW:Below w.heap.size w W)=>uK (h'.out.below hW) hm'.out lL.out (p:=p) hvp
 unfold aC at hlk;by_cases hle:bZ ns p p.length=0
 case neg=>exact aJ9
 rw[hle,if_pos rfl]at hlk;rcases mE ns p with⟨hf1,hf2⟩|⟨k,m,hf1,pX,hf2,U3⟩
 ·exact Z64
 have hpe:bD ns p=0:=by unfold bD uZ;rw[if_pos hle,hf1];rfl
 have hno:aZ ns p=m:=by unfold aZ;rw[hf1];rfl
 rw[hpe,if_pos rfl,hno]at hde;rw[hf2]at hlk;have hkl:=(gF.1 pX).1;have MN:=lL.out m (gG pX);obtain⟨g,o,c,e,_,_,_,hcell⟩:=oV.out.place aD aQ;cases e;have hx:=fun(W:World) (hW:Below w.heap.size w W)=>(hcell _ hW (k*3+1) aD).trans (eP pX 1 aD)
 simp only[KA,aC,gB,gC,<-uS,sM]at hx;have hx':=Lh hx;have IE:=Lh pX;have q0:(0:Int)<=(k:Int):=by omega
 have q1:(k:Int)<(ns.length:Int):=by omega
 have hpi:Hid (dP ns p=k):=Lh (by unfold dP;rw[hf2];rfl);have xP:=Lh hlk;have aKI:=Lh hle;have hkl':=Lh hkl;clear hle hlk hf1 hf2 pX U3 hcell hx hpe hno hkl;by_cases hd:m.file= -1
 ·(have hdb:(m.file != -1)=false:=by rw[hd];rfl);have aE7:=Lh (fun(W:World) (hW:Below w.heap.size w W) (q:List UInt8)=>PE (h'.out.below hW) hm'.out q);have hck:=anD ns p;rw[if_pos hd]at hde;unfold aC at*;by_cases hc:mD ns p=0
  ·obtain⟨ME,FO⟩:∃x:Int,(if nT (ns.take k++ns.drop (k+1)) fs=0 then(0:Int)else 31)=x:=⟨_,rfl⟩;(have mU:Hid (DE=ME):=by have h:=hde.out;rw[if_pos hc,if_pos rfl,hpi.out,FO]at h;exact h);have D5:=Lh FO;clear hde FO hd hck;(have adA:Hid (gY (ns.take k++ns.drop (k+1)) fs):=by exact aJ7);(have FC:Hid (∀n∈ns.take k++ns.drop (k+1),n.file= -1\/(0<=n.file/\n.file<(fs.length:Int))):=fun n hn=>by exact aKB);obtain⟨g3,cc3,e3,_,_,hn3,_⟩:=fC.out.iU 1 rfl aD;cases e3;have aE8:=Lh (fun(W:World) (hr:Rd W 3 (sV g3 ns.length c3) ns.length (aV ns))=>FI (k:=k) hr rfl hkl'.out aD aD);go_wp2_with(first |(go_at_call 110;refine(iT _ _).mono ?_;rintro e wx ⟨rfl,hwx⟩;have GQ:=hwx.symm;clear hwx;subst GQ)|(go_at_call 94;refine(xP.out _ fC.out.below).mono ?_;rintro e w5 ⟨rfl,hb5⟩;(have hS5:=fC.out.pure hb5);obtain⟨dt0,dt1,di0,di1,di2,di3,di4,dr0,dr1,df0,df1⟩:=aP [_,_] hS5;(have dx:=hx'.out _ hS5.below);replace hS5:=Lh hS5;clear hb5)|(go_at_call 57;refine(aE7.out _ hS5.out.below _).mono ?_;rintro e w6 ⟨Ak,ck,rfl,hb6⟩;(have jS:=hS5.out.pure hb6);obtain⟨kt0,kt1,ki0,ki1,ki2,ki3,ki4,kr0,kr1,kf0,kf1⟩:=aP [_,_] jS;replace jS:=Lh jS;clear hb6)|(go_at_call 113;refine(aE8.out _ (jS.out.rd 1 rfl)).mono ?_;rintro e w7 ⟨A7,c7,rfl,mJ⟩;(have vD:=jS.out.join mJ);obtain⟨nt0,nt1,ni0,ni1,ni2,ni3,ni4,nr0,nr1,nf0,nf1⟩:=aP [_,_,_] vD;(have hT:bY w7 (.slice A7 (ns.length-1) c7) (.slice A4 fs.length c4) (ns.take k++ns.drop (k+1)) fs vs:=⟨h'.out.len,(by(have h9:=vD.rd 0 rfl);(have e9:(ns.take k++ns.drop (k+1)).length=ns.length-1:=by(rw[kN,tF,pU];omega));rw[e9];exact h9),vD.rd 1 rfl,fun k u f hu hf=>(h'.out.data k u f hu hf).below vD.below⟩);(have jE:=lZ hT adA.out FC.out);rw[D5.out]at jE;(have pQ:=Lh jE);clear hT jE;replace vD:=Lh vD;clear mJ)|(go_at_call 114;refine pQ.out.mono ?_;rintro e w8 ⟨A8,n8,c8,A9,n9,c9,rfl,AR⟩;(have nM:=vD.out.join AR);obtain⟨mt0,mt1,mi0,mi1,mi2,mi3,mi4,mr0,mr1,mf0,mf1⟩:=aP [_,_,_,_] nM;replace nM:=Lh nM;clear AR));exact aJ6
  (have hcp:(0:Int)<(mD ns p:Int):=by omega);(have mU:Hid (DE=25):=by have h:=hde.out;rw[if_neg hc,if_neg aQ]at h;exact h);clear hde hd hc;go_wp2_with(first |(go_at_call 110;refine(iT _ _).mono ?_;rintro e wx ⟨rfl,hwx⟩;have GQ:=hwx.symm;clear hwx;subst GQ)|(go_at_call 94;refine(xP.out _ fC.out.below).mono ?_;rintro e w5 ⟨rfl,hb5⟩;(have hS5:=fC.out.pure hb5);obtain⟨dt0,dt1,di0,di1,di2,di3,di4,dr0,dr1,df0,df1⟩:=aP [_,_] hS5;(have dx:=hx'.out _ hS5.below);replace hS5:=Lh hS5;clear hb5)|(go_at_call 57;refine(aE7.out _ hS5.out.below _).mono ?_;rintro e w6 ⟨Ak,ck,rfl,hb6⟩;(have jS:=hS5.out.pure hb6);obtain⟨kt0,kt1,ki0,ki1,ki2,ki3,ki4,kr0,kr1,kf0,kf1⟩:=aP [_,_] jS;replace jS:=Lh jS;clear hb6));obtain⟨Q,hQ,e0,e1⟩:=kS [_,_] (.slice none 0 0) (.slice none 0 0) jS.out;refine bodyPost_ret (bR rfl rfl e0 e1) rfl ?_;exact⟨none,0,0,none,0,0,by rw[mU.out];rfl,Sep.keep (X:=[]) (Y:=[]) ((Sep.nil w).pure hQ.below) fun _ W _ h0=>absurd h0 (by rw[mU.out];decide)⟩
 have hdb:(m.file != -1)=true:=by simpa using hd
 have mU:Hid (DE=22):=by have h:=hde.out;rw[if_neg hd,if_neg aQ]at h;exact h
 exact Z98
theorem azW {w:World} {nv fv:Value} {ns:List TN} {fs:List TF} {vs:List Value} (h:bY w nv fv ns fs vs) (ho:fT ns fs) {p tz:List UInt8} (VK:p.length<=9223372036854775807) (VL:tz.length<=9223372036854775807) (mode ref:Int) {sv:Value} {cs:List Value} (hsv:kU w sv cs):
  Calls Tryz.prog 54 #[.agg #[nv,fv],mY 3 p tz mode ref,sv] w fun e w'=>∃A3 n3 c3 A4 n4 c4,e= .returned (.tuple #[.agg #[.slice A3 n3 c3,.slice A4 n4 c4],.int .i64 (JW (fJ 3 p tz mode ref cs) (j6 ns p tz) (ns.set (dP ns p) ⟨tz,(aZ ns p).file,(aZ ns p).mode⟩) (fs))])/\Sep w w' [.keep fun W=>JW (fJ 3 p tz mode ref cs) (j6 ns p tz) (ns.set (dP ns p) ⟨tz,(aZ ns p).file,(aZ ns p).mode⟩) (fs)=0->∃vs',bY W (.slice A3 n3 c3) (.slice A4 n4 c4) (tY (ns.set (dP ns p) ⟨tz,(aZ ns p).file,(aZ ns p).mode⟩)) (tT (ns.set (dP ns p) ⟨tz,(aZ ns p).file,(aZ ns p).mode⟩) (fs)) vs']:=by
 have hm:gY ns fs:=⟨by have:=ho.few;omega,by have:=ho.oQ;omega,fun n hn=>by have:=iB (ho.mem hn).1;omega,fun f hf=>by have:=ho.size f hf;omega⟩;have l5:∀n∈ns, -1<=n.file:=fun n hn=>(ho.mem hn).2.1
 have hS0:=qB w nv fv 3 p tz mode ref;have hlo:=fun(W:World) (hW:Below w.heap.size w W)=>jU (h.below hW) hm
 rw[nZ ho]at hlo;have hfi:=fun(W:World) (hW:Below w.heap.size w W)=>jV (3:Int) (p:=p) (tz:=tz) aD aD mode ref (hsv.below hW)
 have l6:=gQ h;have uO:=h.nodes;have hfp:=h.files;obtain⟨A1,pR,rfl,hm1⟩:=h.nodes.shape;obtain⟨A2,pO,rfl,hm2⟩:=h.files.shape;obtain⟨Av,cv,rfl,_⟩:=hsv.1.shape;have b1:(ns.length:Int)<=256:=by have:=ho.few;omega
 have b2:(fs.length:Int)<=256:=by have:=ho.oQ;omega
 obtain⟨zt0,zt1,zi0,zi1,zi2,zi3,zi4,zr0,zr1,zf0,zf1⟩:=aP [] hS0;obtain⟨j0,uX,hj0,hj1,hj2⟩:=info_parts kM;obtain⟨k0,gN,hk0,hk1,hk2⟩:=info_parts jQ;have fV:=Lh hS0;have AQ:=Lh hlo;have nK:=Lh hfi;have oN:=Lh l6;have oV:=Lh uO;have mO:=Lh hfp;have h':=Lh h;have hm':=Lh hm;have ho':=Lh ho;have lL:=Lh l5;have IC:=Lh hsv;clear hS0 hlo hfi l6 uO hfp h hm ho l5 hsv;obtain⟨FD,AZ⟩:∃x,fJ 3 p tz mode ref cs=x:=⟨_,rfl⟩;have vU:=Lh AZ;rw[AZ]at nK ⊢;clear AZ;obtain⟨DE,J2⟩:∃x,JW FD (j6 ns p tz) (ns.set (dP ns p) ⟨tz,(aZ ns p).file,(aZ ns p).mode⟩) (fs)=x:=⟨_,rfl⟩;rw[J2];have acV:=Lh J2;clear J2;unfold mY aC at*;by_cases hf:FD=0
 case neg=>exact Z1
 subst hf;have hde:Hid (DE=if(j6 ns p tz)=0 then(if nT (ns.set (dP ns p) ⟨tz,(aZ ns p).file,(aZ ns p).mode⟩) (fs)=0 then 0 else 31)else(j6 ns p tz)):=by exact ahS
 obtain⟨hvp,hvt⟩:=(show aU p=true/\aU tz=true from by(have h:=rC (show qN false true 3 p tz mode ref cs=0 from by have h:=vU.out;exact h));exact⟨h.1,h.2.1 rfl⟩);go_enter Tryz.func54,Tryz.ntmps54;go_wp2_with(first |(go_at_call 108;refine(AQ.out _ fV.out.below).mono ?_;rintro e w1 ⟨rfl,hb1⟩;(have hS1:=fV.out.pure hb1);obtain⟨WL,WM,WN,WO,WQ,WR,WS,WT,WU,WV,WW⟩:=aP [] hS1;replace hS1:=Lh hS1;clear hb1)|(go_at_call 109;refine(nK.out _ hS1.out.below).mono ?_;rintro e w2 ⟨rfl,hb2⟩;(have hS2:=hS1.out.pure hb2);obtain⟨bt0,bt1,bi0,bi1,bi2,bi3,bi4,br0,br1,bf0,bf1⟩:=aP [] hS2;replace hS2:=Lh hS2;clear hb2)|(at_builtin;refine aS 0 rfl _ _ 29 rfl 110 k0 _ 3 32 Tryz.underlying29 gN hk0 hk1 hk2 rfl aQ (hS2.out.dX 110 3) _ 0 [] rfl rfl (.slice A1 ns.length pR) ns.length (aV ns) XE (oV.out.below hS2.out.below) (dW _) oH aD ?_));intro v3 w3 dJ hz3;have hr3:Rd w3 3 v3 ns.length (aV ns):=dJ.rd 0 rfl;have J3:=hr3.form;clear hr3;obtain⟨A3,c3,hv3⟩:=J3;subst hv3;obtain⟨gt0,gt1,gi0,gi1,gi2,gi3,gi4,gr0,gr1,gf0,gf1⟩:=aP [_] dJ;replace dJ:=Lh dJ;clear hz3 hS2 hS1 WL WM WN WO WQ WR WS WT WU WV WW bt0 bt1 bi0 bi1 bi2 bi3 bi4 br0 br1 bf0 bf1 zt0 zt1 zi0 zi1 zi2 zi3 zi4 zr0 zr1 zf0 zf1;go_wp2_with(at_builtin;refine aS 0 rfl _ _ 30 rfl 112 j0 _ 2 32 Tryz.underlying30 uX hj0 hj1 hj2 rfl aQ (dJ.out.dX 112 2) _ 0 [] rfl rfl (.slice A2 fs.length pO) fs.length (dM fs vs) XE (mO.out.below dJ.out.below) oN.out oH aD ?_);intro v4 w4 fC WG;have hr4:Rd w4 2 v4 fs.length (dM fs vs):=fC.rd 0 rfl;have FH:=hr4.form;clear hr4;obtain⟨A4,c4,hv4⟩:=FH;subst hv4;obtain⟨ht0,ht1,hi0,hi1,hi2,hi3,hi4,hr0,hr1,hf0,hf1⟩:=aP [_,_] fC;replace fC:=Lh fC;clear WG dJ gt0 gt1 gi0 gi1 gi2 gi3 gi4 gr0 gr1 gf0 gf1;have hfl:=fun(W:World) (hW:Below w.heap.size w W)=>yZ (h'.out.below hW) hm'.out lL.out (p:=p) hvp
 have vB:=fun(W:World) (hW:Below w.heap.size w W)=>qA (h'.out.below hW) hm'.out lL.out (p:=tz) hvt
 unfold aC at hfl vB;by_cases hfe:gZ ns p=0
 case neg=>exact Z81
 have hbe:j6 ns p tz=dI ns tz:=by unfold j6;rw[if_pos hfe]
 rw[hbe]at hde;rw[hfe,if_pos rfl]at hfl;obtain⟨k,m,hf2,pX,U3,hno,MN⟩:=JX hfe;rw[hf2]at hfl;try rw[hno]at hde
 have hpi:Hid (dP ns p=k):=Lh (by unfold dP;rw[hf2];rfl);have hkl:=(gF.1 pX).1;have q0:(0:Int)<=(k:Int):=by omega
 have q1:(k:Int)<(ns.length:Int):=by omega
 generalize dI ns tz=AE at vB hde;have IE:=Lh pX;have aKJ:=Lh U3;have hno':=Lh hno;have JA:=Lh hfl;have FJ:=Lh vB;have hkl':=Lh hkl;clear hfl vB pX U3 hfe hbe hf2 hkl hno;by_cases hae:AE=0
 case neg=>exact Z63
 subst hae;obtain⟨ME,FO⟩:∃x:Int,(if nT (ns.set k ⟨tz,m.file,m.mode⟩) fs=0 then(0:Int)else 31)=x:=⟨_,rfl⟩;have mU:Hid (DE=ME):=by have h:=hde.out;rw[if_pos rfl,hpi.out,FO]at h;exact h
 have D5:=Lh FO;clear hde FO;obtain⟨g3,cc3,e3,_,_,hn3,_⟩:=fC.out.iU 1 rfl aD;cases e3;have hcs:(aV ns).set (k*3) (.string ⟨tz.toArray⟩)=aV (ns.set k ⟨tz,m.file,m.mode⟩):=PG IE.out 0 _ _ aD rfl;have hmem:=gG IE.out;have adA:Hid (gY (ns.set k ⟨tz,m.file,m.mode⟩) fs):=by
  refine⟨by rw[uR];exact hm'.out.few,hm'.out.oQ,fun n hn=>?_,hm'.out.size⟩;rcases aiY hn with h|h
  ·exact hm'.out.short n h
  subst h;(show tz.length<=40000);(have:=iB hvt;omega)
 have FC:Hid (∀n∈ns.set k ⟨tz,m.file,m.mode⟩,n.file= -1\/(0<=n.file/\n.file<(fs.length:Int))):=fun n hn=>by
  rcases aiY hn with h|h
  ·have:=ho'.out.mem h;omega
  subst h;have:=ho'.out.mem hmem;(show m.file= -1\/(0<=m.file/\m.file<(fs.length:Int)));omega
 have hcs':=Lh hcs;clear hcs hmem;go_wp2_with(first |(go_at_call 110;refine(iT _ _).mono ?_;rintro e wx ⟨rfl,hwx⟩;have GQ:=hwx.symm;clear hwx;subst GQ)|(go_at_call 111;refine(JA.out _ fC.out.below).mono ?_;rintro e w5 ⟨rfl,hb5⟩;(have hS5:=fC.out.pure hb5);obtain⟨dt0,dt1,di0,di1,di2,di3,di4,dr0,dr1,df0,df1⟩:=aP [_,_] hS5;replace hS5:=Lh hS5;clear hb5)|(go_at_call 112;refine(FJ.out _ hS5.out.below).mono ?_;rintro e w6 ⟨rfl,hb6⟩;(have jS:=hS5.out.pure hb6);obtain⟨kt0,kt1,ki0,ki1,ki2,ki3,ki4,kr0,kr1,kf0,kf1⟩:=aP [_,_] jS;(have s0:=jS.frozenAt 1 rfl (k*3));(have s1:=(jS.cellAt 1 rfl (k*3+0) aD).trans (eP IE.out 0 aD));simp only[KA,aC,gB,sM]at s1;(have mJ:=jS.stored 1 rfl (k*3) (.string ⟨tz.toArray⟩));rw[hcs'.out]at mJ;(have hT:bY _ (sV g3 ns.length c3) (.slice A4 fs.length c4) (ns.set k ⟨tz,m.file,m.mode⟩) fs vs:=⟨h'.out.len,(by(have h9:=mJ.rd 1 rfl);rw[uR];exact h9),mJ.rd 0 rfl,fun k u f hu hf=>(h'.out.data k u f hu hf).below mJ.below⟩);(have jE:=lZ hT adA.out FC.out);rw[D5.out]at jE;(have pQ:=Lh jE);clear hT jE;replace mJ:=Lh mJ;replace jS:=Lh jS;clear hb6)|(go_at_call 114;refine pQ.out.mono ?_;rintro e w8 ⟨A8,n8,c8,A9,n9,c9,rfl,AR⟩;(have nM:=mJ.out.join AR);obtain⟨mt0,mt1,mi0,mi1,mi2,mi3,mi4,mr0,mr1,mf0,mf1⟩:=aP [_,_,_] nM;replace nM:=Lh nM;clear AR));obtain⟨Q,hQ,e0,e1⟩:=kS [_,_,_] (.slice A8 n8 c8) (.slice A9 n9 c9) nM.out;refine bodyPost_ret (bR rfl rfl e0 e1) rfl ?_;exact⟨A8,n8,c8,A9,n9,c9,by rw[mU.out];rfl,Sep.keep (X:=[_]) (Y:=[]) (Sep.fst (X:=[_]) hQ) fun _ W hW h0=>by rw[hpi.out,hno'.out];exact hW.kept 0 rfl (by exact Z94)⟩
end Go.Proofs.YteihmbaimbogaaaGreat
