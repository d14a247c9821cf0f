/- Parts. -/
import Derived.Test.YtmjomdkleikgbaaGreatK38
set_option linter.unusedVariables false
set_option linter.unusedSimpArgs false
set_option maxRecDepth 100000
set_option maxHeartbeats 20000000
namespace Go.Proofs.YtmjomdkleikgbaaGreat
open Go.RowKit
section
variable {w0 w:World} {R:List aW} {f q p:Nat} {S:VS} {nb nm:Nat}
theorem atZ (a b c:aW) (Y:List aW):(a::b::c::Y).Perm (c::a::b::Y):=by exact Z46
theorem Gone.drop {A:aW} (h:Gone w0 (A::R) f q p nb w):Gone w0 R f q p nb w:=by obtain⟨D,h1,h2⟩:=h;exact⟨D,h1,(h2.perm (atZ _ _ _ _)).drop 1⟩
theorem aGJ {ns:List TN} {fs:List FT} (hL:qF S ns fs nb nm) (h:Sep w0 w (bB f q p S::R)):
  Calls Tryz.prog 42 #[pV f] w fun e w'=>e= .returned (iW (qV nb nm) nm)/\w'=w:=by
 obtain⟨g,dn,φ,hV⟩:=hL.vt;have hrB:S.rB=qV nb nm:=by have:=hV.iP.rB;rw[show S.rB=S.base.rB from rfl,this];(show((S.nb-96-(2+(S.names+7)/8):Nat):Int)=_);rw[hL.nm,hL.nbe];rfl
 have hrI:S.rI=nm:=by have:=hV.iP.rI;rw[show S.rI=S.base.rI from rfl,this];(show(S.names:Int)=_);rw[hL.nm]
 have:=WR h;rw[hrB,hrI]at this;exact this
theorem Z78 {P:Prop} (h:P:=by
 go_wp2_with(go_at_call 18;refine TM.out.mono ?_;rintro e w6 (⟨rfl,S3,hL3,dQ⟩|⟨rfl,hG⟩);(replace dQ:=Lh dQ);(replace hL3:=Lh hL3);rotate_left;(replace hG:=Lh hG);rotate_left);rotate_left
 focus
  go_wp2_with fail
  go_ret
  exact .inr ⟨rfl,hG.out.drop.drop.drop⟩
 exact Z6):P:=h
theorem at0 {nv fv:Value} {ns:List TN} {F:List TF} {vs:List Value} {B I:Int} (hL:qF S [] [] nb nm) (ho:fF ns F) (hm:mK ns F) (hlo:iI ns F=0) (hfit:qE nb nm ns (jB F)=true) (hw:GI nv fv ns F vs B I) (hBI:(0<=B/\B<=qV nb nm/\qV nb nm<=4096)/\(0<=I/\I<=nm/\nm<=1024)) (hT:∀W X,Sep w0 W (X++R)->gW W nv fv ns F vs) (h:Sep w0 w (bB f q p S::R)):
  Calls Tryz.prog 15 #[pV f,.agg #[nv,fv]] w fun e w'=>(e= .returned (iV 0)/\∃S',qF S' ns (jB F) nb nm/\S'.D.off=false/\Sep w0 w' (bB f q p S'::R))\/(e= .returned (iV 11)/\Gone w0 R f q p nb w'):=by
 have hmm:= @run_makeMap Tryz.prog;have hg1:(FloatKind.f64.format.order (fI B) (fI (qV nb nm))==some .gt)=false:=by exact Z93
 have hg2:(FloatKind.f64.format.order (fI I) (fI nm)==some .gt)=false:=by exact Z93
 obtain⟨A1,c1,rfl,_⟩:=(hT w [_] h).nodes.shape;obtain⟨A2,c2,rfl,_⟩:=(hT w [_] h).files.shape;have h0:Sep w0 _ (.box w.heap.size 25 #[.slice A1 ns.length c1,.slice A2 F.length c2]::bB f q p S::R):=h.bN 25 #[.slice A1 ns.length c1,.slice A2 F.length c2];have zF:=Lh (uM (hT _ [_,_] h0) hm.mm);rw[hlo]at zF;have hS0:=Lh h0;have hT':=Lh hT;have ho':=Lh ho;clear h h0 hT ho;go_enter Tryz.func15,Tryz.ntmps15;go_wp2_with(first |(go_at_call 39;refine zF.out.mono ?_;rintro e w1 ⟨rfl,hb⟩;(have hS1:=Lh ((hS0.out.pure hb).perm (List.Perm.swap _ _ _)));clear hb hS0 zF;(obtain⟨b3,hb3⟩:∃x,x=w.heap.size:=⟨_,rfl⟩);(rw[<-hb3]at hS1 ⊢);clear hb3;(have hls:=Lh (aFH hL hS1.out));unfold aC at hls)|(go_at_call 40;refine hls.out.mono ?_;rintro e w2 (⟨v,l,S1,rfl,hp,hL1,_,hS2⟩|⟨rfl,_,hG⟩);rotate_left;(replace hG:=Lh hG);rotate_left;(obtain⟨Al,cl,el,_⟩:=hS2.gL 0 rfl);subst el;(have hll:l.length=0:=by(rw[hp];rfl));rw[hll]at hS2 ⊢;(have dQ:=Lh (hS2.drop 1));clear hS2 hls hS1 hp hll hL;(have t0:=dQ.out.bC 1 rfl 0);(have t1:=dQ.out.bC 1 rfl 1);simp only[gA,gB,gC]at t0 t1;(have hwt:=Lh (hw w2 (hT'.out _ [_,_] dQ.out))))|(go_at_call 41;refine hwt.out.mono ?_;rintro e w3 ⟨rfl,hb⟩;(have jT:Hid (Sep w0 w3 (bB f q p S1:: .box b3 25 #[.slice A1 ns.length c1,.slice A2 F.length c2]::R)):=Lh (dQ.out.pure hb));clear hb dQ hwt;(have hrm:=Lh (aGJ hL1 jT.out)))|(go_at_call 42;refine hrm.out.mono ?_;rintro e w4 ⟨rfl,rfl⟩;clear hrm;unfold iW;(have hS5:Hid (Sep w0 _ (lJ 3 w4.heap.size []::bB f q p S1:: .box b3 25 #[.slice A1 ns.length c1,.slice A2 F.length c2]::R)):=Lh (jT.out.BX 3));(have y0:(w4.alloc (.map #[] 0)).cell? ⟨b3,0,none⟩=some (.slice A1 ns.length c1):=hS5.out.bC 2 rfl 0)));rotate_left
 focus
  go_wp2_with fail
  go_ret
  exact .inr ⟨rfl,hG.out.drop⟩
 obtain⟨gm,hgm⟩:∃x,x=w4.heap.size:=⟨_,rfl⟩;rw[<-hgm]at hS5 ⊢;obtain⟨w5,hw5⟩:∃x,x=w4.alloc (.map #[] 0):=⟨_,rfl⟩;rw[<-hw5]at hS5 y0 ⊢;clear hgm hw5 jT y0 t0 t1 hg1 hg2 hw;have hbn:(ns.length:Int)<=300:=by have:=hm.few;omega
 have hbf:(F.length:Int)<=300:=by have:=hm.CK;omega
 have R4:Hid (Sep w0 w5 (bB f q p S1::lJ 3 gm (sZ []):: .box b3 25 #[.slice A1 ns.length c1,.slice A2 F.length c2]::R)):=Lh (hS5.out.perm (List.Perm.swap _ _ _));clear hS5;go_loopw[57] (fun iv wr=>∃(i k:Nat) (names:List (List UInt8)) (S':VS),i<=ns.length/\iv=iV i/\Hid (runK ns i=some k)/\names.length=k/\Hid (∀(j:Nat) s,names[j]? =some s->∃m∈ns.take i,m.path=s/\m.file=(j:Int))/\Hid (qF S' (ns.take i) ((jB F).take k) nb nm)/\Sep w0 wr (bB f q p S'::lJ 3 gm (sZ names):: .box b3 25 #[.slice A1 ns.length c1,.slice A2 F.length c2]::R)) (fun iv _=>ns.length-(intOf iv).toNat)
 case atStart=>exact⟨0,0,[],S1,fZ _,rfl,Lh rfl,rfl,Lh (fun j s h=>by cases h),Lh hL1,R4.out⟩
 obtain⟨i,k,names,S2,hi,rfl,hrun,hnl,hnm,hL2,hS⟩:=hrel;clear R4 hL1;have c0:(0:Int)<=(i:Int):=by omega
 have z1:=hS.bC 2 rfl 1;simp only[gA,gB,gC]at z1;by_cases hlt:i<ns.length
 ·(have d2:(i:Int)<(ns.length:Int):=by omega);obtain⟨gx,ox,cx,e,_,_,_,hcx⟩:=(hT'.out wr [_,_,_] hS).nodes.place aD aR;simp only[Value.slice.injEq]at e;obtain⟨rfl,_,rfl⟩:=e;obtain⟨n,he⟩:∃n,ns[i]? =some n:=⟨_,gE aD⟩;have x0:=(hcx wr (Below.refl _ _) (i*3+0) aD).trans (bL he 0 aD);have x1:=(hcx wr (Below.refl _ _) (i*3+1) aD).trans (bL he 1 aD);have x2:=(hcx wr (Below.refl _ _) (i*3+2) aD).trans (bL he 2 aD);simp only[F8,gB,gC,sF,<-sD]at x0 x1 x2;clear hcx;have hki:=aa3 _ _ hrun.out;have hla:=atJ ho'.out hfit he hrun.out;have hrg:=hla.range;have hpl:n.path.length<=1048576:=dG (ho'.out.mem (gG he)).1;have hkey:keyOf Tryz.prog 3 (.int .i64 n.file)=some (.int .i64 n.file):=Maps.keyOf_int_mk Tryz.underlying3 (by simp[Lit.wf,IntKind.min,IntKind.max,IntKind.signed,IntKind.bits];omega);have hB:=hS.bN 68 #[aC n.path,iV n.file,iV n.mode];have hB2:Sep w0 _ (bB f q p S2::(.box wr.heap.size 68 #[aC n.path,iV n.file,iV n.mode]::lJ 3 gm (sZ names):: .box b3 25 #[.slice (some ⟨gx,ox,none⟩) ns.length c1,.slice A2 F.length c2]::R)):=hB.perm (List.Perm.swap _ _ _);have M3:=hB.rU 2 rfl;have hlk:=hB.YD 2 rfl dN Tryz.underlying85 (YG _) hkey;(have hno:∀(W:World) (Y:List aW) (kk:Int) (bs:List UInt8),tV W Y none 0 kk bs:=fun W Y kk bs j _ hj=>absurd hj (FO _));by_cases hf1:n.file= -1
  ·obtain⟨r1,mode,r2,r3⟩:=hla.dir hf1;have hdo:=doF (op:=1) (mode:=n.mode) (kk:=0) (path:=n.path) (tz:=[]) (bs:=[]) (A:=none) (n:=0) (c:=0) hL2.out aD bK aD bK aR (hno _ _ _ _) (r3 0) hB2;rw[EF (.inl aD)]at hlk;simp only[J6,UJ]at hlk;rw[hf1]at x1 hlk;have TM:=Lh hdo;replace r1:=Lh r1;clear hS hB hB2 M3 hla hdo hno hrun r2 r3;unfold aC at*;rw[hf1]at TM;exact Z78
  by_cases hf2:n.file=(k:Int)
  ·obtain⟨r1,ff,VH,r3⟩:=hla.new hf2;have hkF:k<F.length:=(gF.1 VH).1;obtain⟨dv,hdv⟩:∃dv,vs[k]? =some dv:=⟨_,gE (by rw[(hT'.out wr [_,_,_] hS).len];exact hkF)⟩;obtain⟨Ad,cd,rfl,_⟩:=((hT'.out wr [_,_,_] hS).data k dv ff hdv VH).shape;have aBL:ff.bs.length<=8192:=ho'.out.size ff (gG VH);(have k0:(0:Int)<=(k:Int):=by omega);(have k1:(k:Int)<(F.length:Int):=by omega);(have kn:((k:Int)<0)=False:=by simp);rw[hf2]at hlk x1 hkey hB;rw[EF (.inr aD)]at hlk;simp only[J6,UJ]at hlk;obtain⟨w5,hmu,kM⟩:=hB.lS 2 rfl dN Tryz.underlying85 (by rw[afM];unfold maxLen;omega) (v:=aC n.path) hkey;(have hpt:qL (sZ names) (.int .i64 (k:Int)) (aC n.path)=sZ (names++[n.path]):=by rw[<-hnl];exact afN names n.path);rw[hpt]at kM;obtain⟨gy,oy,cy,e,_,_,_,hcy⟩:=(hT'.out w5 [_,_,_,_] kM).files.place aD aR;simp only[Value.slice.injEq,true_and]at e;obtain⟨rfl,rfl⟩:=e;have abA:Sep w0 w5 (.box wr.heap.size 68 #[aC n.path,iV k,iV n.mode]::bB f q p S2::lJ 3 gm (sZ (names++[n.path])):: .box b3 25 #[.slice (some ⟨gx,ox,none⟩) ns.length c1,.slice (some ⟨gy,oy,none⟩) F.length c2]::R):=kM;have n1:=abA.bC 0 rfl 1;have b31:=abA.bC 3 rfl 1;have f0:=(hcy w5 (Below.refl _ _) (k*2+0) aD).trans (eD VH hdv 0 aD);have f1:=(hcy w5 (Below.refl _ _) (k*2+1) aD).trans (eD VH hdv 1 aD);simp only[tfC,gA,gB,gC,sF,<-sD]at n1 b31 f0 f1;clear hcy;have nI:=abA.bN 71 #[iV ff.mode,.slice Ad ff.size cd];have n0':=nI.bC 1 rfl 0;have q0:=nI.bC 0 rfl 0;have q1:=nI.bC 0 rfl 1;simp only[gA,gB,gC]at n0' q0 q1;have vY:=nI.bN 69 #[.slice Ad ff.size cd];simp only[World.size_alloc]at vY;obtain⟨X8,YE⟩:∃X:List aW,X=[.box (w5.heap.size+1) 69 #[.slice Ad ff.size cd],.box w5.heap.size 71 #[iV ff.mode,.slice Ad ff.size cd],.box wr.heap.size 68 #[aC n.path,iV k,iV n.mode],lJ 3 gm (sZ (names++[n.path])),.box b3 25 #[.slice (some ⟨gx,ox,none⟩) ns.length c1,.slice (some ⟨gy,oy,none⟩) F.length c2]]:=⟨_,rfl⟩;(have zX:Sep w0 ((w5.alloc (.cells #[iV ff.mode,.slice Ad ff.size cd] 71)).alloc (.cells #[.slice Ad ff.size cd] 69)) (bB f q p S2::(X8++R)):=by rw[YE];exact vY.perm (atX _ _ _ _ _));(have hst:tV w0 (X8++R) (some ⟨w5.heap.size+1,0,none⟩) 1 0 ff.bs:=fun j hj hj1=>by exact Z88);have hdo:=doF (op:=6) (mode:=ff.mode) (kk:=0) (path:=n.path) (tz:=[]) (bs:=ff.bs) (A:=some ⟨w5.heap.size+1,0,none⟩) (n:=1) (c:=1) hL2.out aD bK aD aD aR hst r3 zX;have TM:=Lh hdo;replace r1:=Lh r1;have aBN:=Lh YE;have aqL:=Lh hf2;have he':=Lh he;clear hS hB hB2 M3 hla hdo hno hrun r3 hst kM abA nI vY zX YE VH hdv hrg hf1 hf2 hkey hpt;unfold aC at*;go_wp2_with(go_at_call 18;refine TM.out.mono ?_;rintro e w6 (⟨rfl,S3,hL3,dQ⟩|⟨rfl,hG⟩);(replace dQ:=Lh dQ);(replace hL3:=Lh hL3);rotate_left;(replace hG:=Lh hG);rotate_left);rotate_left
   focus
    go_wp2_with fail
    go_ret
    have h9:=hG.out
    rw[aBN.out]at h9
    exact .inr ⟨rfl,h9.drop.drop.drop.drop.drop⟩
   exact Z59
  (have hf0:0<=n.file:=by omega);(have hfk:n.file<(k:Int):=by omega);obtain⟨r1,r3⟩:=hla.link hf0 hfk;obtain⟨j,hj⟩:∃j:Nat,n.file=(j:Int):=⟨n.file.toNat,by omega⟩;obtain⟨s,hs⟩:∃s,names[j]? =some s:=⟨_,gE aD⟩;obtain⟨m,g1,g2,g3⟩:=hnm.out j s hs;(have hsl:s.length<=1048576:=by rw[<-g2];exact dG (ho'.out.mem (AJ g1)).1);have r4:=r3 m g1 (by rw[g3,hj]) 0;rw[g2]at r4;have hdo:=doF (op:=4) (mode:=0) (kk:=0) (path:=s) (tz:=n.path) (bs:=[]) (A:=none) (n:=0) (c:=0) hL2.out aD aD aD bK aR (hno _ _ _ _) r4 hB2;rw[hj]at hlk hdo x1 hf0;rw[YF M3 hs]at hlk;simp only[GX,OV]at hlk;have TM:=Lh hdo;replace r1:=Lh r1;clear hS hB hB2 M3 hla hdo hno hrun r3 r4 g1 g2 g3 hs hrg hf1 hf2 hkey hfk hj;unfold aC at*;exact Z78
 have c22:¬(i:Int)<(ns.length:Int):=by omega
 have hsy:=Lh (aFI hL2.out hS);go_wp2_with(go_at_call 43;refine hsy.out.mono ?_;rintro e w6 (⟨rfl,hoff,kM⟩|⟨rfl,hG⟩);(replace kM:=Lh kM);(replace hoff:=Lh hoff);rotate_left;(replace hG:=Lh hG);rotate_left);rotate_left
 focus
  go_wp2_with fail
  go_ret
  exact .inr ⟨rfl,hG.out.drop.drop⟩
 go_wp2_with fail;go_ret;have hiN:i=ns.length:=by omega
 have hL3:=hL2.out.base;have hr:=hrun.out;rw[hiN,M7]at hL3;rw[hiN]at hr;have hk:k=F.length:=by have h9:=ho'.out.run;rw[hr]at h9;exact ab3 h9
 rw[hk,pM (by rw[JS];exact iC _)]at hL3;exact .inl ⟨rfl,_,hL3,hoff.out,(Sep.drop 2 (kM.out.perm (aiU _ _ _ _)))⟩
end
theorem alI {w0 w:World} {R:List aW} {f eb:Nat} (h:Sep w0 w R):
  Calls Tryz.prog 65 #[pV f,pV eb] w fun e w'=>∃bf be,e= .returned (.func (.func 130) #[] #[pV bf,pV be])/\
   Sep w0 w' (.box bf 37 #[pV f]:: .box be 96 #[pV eb]::R):=by
 have h2:=Lh ((h.bN 37 #[pV f]).bN 96 #[pV eb])
 have hmk:∀(fn:Fn) (first cap:Array Value) (w:World),(Instr.makeFunc fn first cap).run Tryz.prog w= .ok (.func fn first cap) w:=fun _ _ _ _=>rfl
 clear h
 go_enter Tryz.func65,Tryz.ntmps65
 go_wp2_with fail
 go_ret
 refine⟨_,_,rfl,?_⟩
 have h3:=h2.out.perm (List.Perm.swap _ _ _)
 simpa using h3
end Go.Proofs.YtmjomdkleikgbaaGreat
namespace Go.Proofs.YtmjomdkleikgbaaGreat
open Go.RowKit Go.Shelf
attribute [local go_sem] Oper.semAt_some
def az2 (c:aeY) (vO TP eb bf be:Nat) (v7 v8 v16 v17:Value):Act:= {tmps:=#[pV c.f,pV c.b1,pV vO,pV TP,pV c.bt,pV eb,pV c.bm,v7,v8,undef,undef,undef,undef,.map (some c.bk),pV c.f,.func (.func 130) #[] #[pV bf,pV be],v16,v17,undef,undef,undef,undef,undef,undef,undef,undef,undef,undef,undef,undef,undef,undef,undef,undef,undef,undef,undef,undef,undef,undef,undef,undef,undef,undef,undef,undef,undef,undef,undef,undef,undef,undef,undef,undef,undef,undef,undef,undef,undef,undef,undef,undef,undef,undef,undef,undef,undef,undef,undef,undef,undef,undef,undef,undef,undef,undef,undef,undef,undef,undef,undef],defers:=[]}
theorem Z36 {P:Prop} (h:P:=by
 haveI:DecidableEq aW:=fun a b=>Classical.propDecidable (a=b)
 rw[J3];intro a;simp only[OL,OM,kI];omega):P:=h
theorem aiV (r B0 b1 bt bm gm n fl:aW) (Y z R:List aW):(r::((B0::Y)++((b1::bt::bm::gm::n::fl::z)++R))).Perm (bt::bm::gm::n::fl::b1::B0::(z++(r::(Y++R)))):=by exact Z36
theorem YH (r B0 b1 bt bm gm n fl:aW) (Y z R:List aW):(bt::bm::gm::n::fl::b1::B0::(z++(r::(Y++R)))).Perm (B0::r::(Y++((b1::bt::bm::gm::n::fl::z)++R))):=by exact Z36
section
variable {V:List TN} {x:TN} {fs:List FT}
theorem TQ (V:List TN):(fJ V).length=V.length:=iJ _
theorem at1 (hf:x.file<0):fD (V++[x])=fD V/\fJ (V++[x])=fJ V++[x]:=by
 have e:fD (V++[x])=fD V:=by rw[kG,if_pos hf]
 refine⟨e,?_⟩;unfold fJ;rw[e,mZ,M5];congr 2;unfold lM;rw[if_pos hf]
theorem at5 (hf:¬x.file<0) (hm:x.file∈fD V):fD (V++[x])=fD V/\fJ (V++[x])=fJ V++[⟨x.path,((fD V).idxOf x.file:Nat),x.mode⟩]:=by
 have e:fD (V++[x])=fD V:=by rw[kG,if_neg hf,if_pos hm]
 refine⟨e,?_⟩;unfold fJ;rw[e,mZ,M5];congr 2;unfold lM;rw[if_neg hf]
theorem at6 (hf:¬x.file<0) (hm:x.file∉fD V):fD (V++[x])=fD V++[x.file]/\fJ (V++[x])=fJ V++[⟨x.path,((fD V).length:Nat),x.mode⟩]/\fU (V++[x]) fs=fU V fs++[mM (SY fs) x.file]:=by
 have e:fD (V++[x])=fD V++[x.file]:=by rw[kG,if_neg hf,if_neg hm]
 refine⟨e,?_,?_⟩
 ·unfold fJ;rw[e,mZ,M5,XN (fun n hn hn2=>nE V n hn hn2)];congr 2;unfold lM;rw[if_neg hf,List.idxOf_append,if_neg hm];simp
 unfold fU;rw[e,mZ,M5]
end
theorem aiW (xs:List TN) (n:TN):cZ (xs++[n])=cZ xs++[aC n.path,.int .i64 n.file,.int .i64 n.mode]:=by rw[CO];rfl
theorem Z43 {P:Prop} (h:P:=by
 haveI:DecidableEq aW:=fun a b=>Classical.propDecidable (a=b)
 rw[J3];intro a;simp only[OL,OM];omega):P:=h
theorem aBO (r a0 a1 a2 a3 a4 a5 a6:aW) (z Q:List aW):(a0::a1::a2::a3::a4::a5::a6::(z++(r::Q))).Perm (r::a0::a1::a2::a3::a4::a5::a6::(z++Q)):=by exact Z43
theorem Z20 {P:Prop} (h:P:=by
 haveI:DecidableEq aW:=fun a b=>Classical.propDecidable (a=b)
 rw[J3];intro a;simp only[OL,OM,kI,OZ];omega):P:=h
theorem at7 (r u a0 a1 a2 a3 a4 a5 a6:aW) (z Y R:List aW):(u::r::a0::a1::a2::a3::a4::a5::a6::(z++(Y++R))).Perm (a6::r::(Y++((a5::a0::a1::a2::a3::a4::(z++[u]))++R))):=by exact Z20
theorem aoM (r D a0 a1 a2 b1 bt bm gm be br:aW) (T Y2 R:List aW):(r::((D::([a0,a1,a2]++Y2))++((b1::bt::bm::gm::T)++(be::br::R)))).Perm (bt::a2::br::be::D::b1::bm::gm::a0::a1::(T++(Y2++(r::R)))):=by exact Z20
theorem afO (a0 a1 a2 b1 bt bm gm be br D:aW) (T Q:List aW):(a0::a1::a2::b1::bt::bm::gm::be::br::D::(T++Q)).Perm (T++(a0::a1::a2::b1::bt::bm::gm::be::br::D::Q)):=by exact Z43
theorem auA (a0 a1 a2 b1 bt bm gm be br D:aW) (T Y2 Q:List aW):(a0::a1::a2::b1::bt::bm::gm::be::br::D::(T++(Y2++Q))).Perm (([a0,a1,a2,b1,bt,bm,gm,be,br,D]++Y2)++(T++Q)):=by exact Z20
def YI (N:List TN) (F:List TF) (N':List TN) (F':List TF):Prop:=
 ∀ {w0 w:World} {R:List aW} {nv fv:Value} {vs:List Value},vs.length=F.length->Sep w0 w (l9 nv fv N F vs++R)->
  Calls Tryz.prog 67 #[.agg #[nv,fv]] w fun e w'=>∃nv' fv' vs',e= .returned (.tuple #[.agg #[nv',fv'],iV 0])/\vs'.length=F'.length/\Sep w0 w' (l9 nv' fv' N' F' vs'++R)
theorem aBP {F:List TF} {vs:List Value} (hl:vs.length=F.length) (f:TF) (v:Value):iF (F++[f]) (vs++[v])=iF F vs++[.int .i64 f.mode,v]:=by unfold iF;rw[List.zip_append hl.symm,Y3];rfl
theorem auB {w0 W:World} {X:List aW} {f q p:Nat} {S1:VS} {ns:List TN} {fs:List FT} {nb names:Nat} {g:LT} {dn:Key->Nat} {φ:Int->Nat} (h2:jC S1 ns fs nb names) (hV:Vt S1.base ns fs g dn φ) {n:TN} (hv:aV n.path=true) (hl:n.path.length<=200) (hn:n∈ns) (hf:n.file≠ -1) (h4:Sep w0 W (bB f q p S1::X)):
  Calls Tryz.prog 66 #[pV f,aC n.path] W fun e w'=>∃v,e= .returned (.tuple #[v,iV 0])/\Sep w0 w' (aI v (rO fs n.file)::bB f q p S1.base::X):=by
 obtain⟨r1,r2⟩:=axN hV hn hv hf;obtain⟨x1,x2⟩:=hV.read n.path;refine(arD (path:=n.path) aD h2.off hV.iP.vw hV.iP.adP h4).mono ?_;rintro e w' ⟨v,rfl,hS⟩;rw[x1,r1];rw[x2,r2]at hS;exact⟨v,rfl,hS⟩
theorem TS :(Tryz.prog.info? 68).map (fun i=>(i.zero,i.size,i.bytes))=some (some (.agg #[.string ⟨#[]⟩,iV 0,iV 0]),3,32):=by kernel_rfl
theorem aiX :(Tryz.prog.info? 71).map (fun i=>(i.zero,i.size,i.bytes))=some (some (.agg #[iV 0,.slice none 0 0]),2,32):=by kernel_rfl
theorem Z69 {P:Prop} (h:P:=by simp only[kE,EK,or_false]at hu;rcases hu with rfl|rfl|rfl<;>rfl):P:=h
theorem afP {l n9:Nat} {w0 w:World} {As:List aW} {ops:Array Oper} {rest:List Oper} {o:Oper} {a:Act} {Q:Exit->Act->World->Prop} (k:Nat) (hgd:o.guard=none) (s x:Operand)
  (ho:o.op= .call {callee:=.builtin .append,args:=#[s,x],argTypes:=#[22,22]}) {W:World} {ph:List UInt8} {fi mo:Int} (hS:Sep w0 W As) (hw:w=W.alloc (.cells #[aC ph,iV fi,iV mo] 68)) {v:Value} {n:Nat} {cs:List Value} (hk:As[k]? =some (.sl 68 3 v n cs)) (hs:a.eval s=v)
  {gb:Nat} (hx:a.eval x=sV gb 1 1) (hgb:gb=W.heap.size) (hn:n<=1000)
  (h:∀v' w',Sep w0 w' (As.set k (.sl 68 3 v' (n+1) (cs++[aC ph,.int .i64 fi,.int .i64 mo])))->wpListIn (Fence.wide.inRound l) n9 Tryz.prog ops Q rest (a.put o.dst v') w'):
  wpListIn (Fence.wide.inRound l) n9 Tryz.prog ops Q (o::rest) a w:=by
 subst hw;subst hgb;obtain⟨k0,hif,hk0,hk1,hk2⟩:=iR TS;refine jD k hgd s x 22 ho 68 k0 _ 3 32 Tryz.underlying22 hif hk0 hk1 hk2 rfl aR (hS.alloc _) v n cs hk hs (sV W.heap.size 1 1) 1 [aC ph,.int .i64 fi,.int .i64 mo] hx ⟨rfl,_,_,rfl,iC _,by unfold maxLen;omega,fun _=>⟨_,rfl,by rw[World.size_alloc];exact J5 _,jP W #[aC ph,iV fi,iV mo] 68 _ rfl⟩⟩ (fun u hu=>?_) vX aD fun v' w' h1 _=>h v' w' h1
 exact Z69
section
variable {w0 w:World} {R:List aW} {f q p:Nat} {S:VS} {ns:List TN} {fs:List FT} {nb names:Nat} {g:LT} {dn:Key->Nat} {φ:Int->Nat}
theorem Z21 {P:Prop} (h:P:=by
 rcases iM.1 hn with hn|hn
 ·exact hsub n hn
 rw[tJ]at hn;rw[hn];exact hx):P:=h
theorem Z83 {P:Prop} (h:P:=by
 have el:(fJ (pre++[x])).length=N+1:=by rw[i2,jM,hN.out];rfl
 unfold TE l9;rw[em,eF,eN,el,<-hM.out];exact h9):P:=h
theorem auC {N':List TN} {F':List TF} (auD:∀V,V.Perm ns->YI (fJ V) (fU V fs) N' F') (hL:jC S ns fs nb names) (hV:Vt S.base ns fs g dn φ) (hg:AA ns) (hl:∀n∈ns,n.path.length<=200) (l7:ns.length<=300) (h:Sep w0 w (bB f q p S::R)):
  Calls Tryz.prog 19 #[pV f] w fun e w'=>∃nv fv vs S',e= .returned (.tuple #[.agg #[nv,fv],iV 0])/\vs.length=F'.length/\S'.base=S.base/\jC S' ns fs nb names/\Sep w0 w' (l9 nv fv N' F' vs++(bB f q p S'::R)):=by
 have hmm:= @run_makeMap Tryz.prog;have k1:=((((h.bN 37 #[pV f]).bN 25 #[.slice none 0 0,.slice none 0 0]).bN 40 #[iV 0]).bN 25 #[.slice none 0 0,.slice none 0 0]).bN 40 #[iV 0];have k2:=k1.BX 3;have k3:=k2.bN 100 #[.map (some (w.heap.size+1+1+1+1+1))];simp only[World.size_alloc]at k3;have hS0:=Lh k3;have hal:=Lh (alI (f:=f) (eb:=w.heap.size+1+1+1+1) k3);clear k1 k2 k3 h;refine(callsIn_wide (n:=9)).1 ?_;refine callsIn_of_wp_marks Tryz.func19 rfl trivial ?_ rfl;simp only[Tryz.ntmps19,uB,kH,qQ,Nat.reduceAdd,Nat.reduceSub,xD,xE,xH,xG,mI,kI];rw[wpIn_wide];go_wp2_with(go_at_call 65;refine hal.out.mono ?_;rintro e w1 ⟨bf,be,rfl,h1⟩;have h2:=Lh h1;clear h1);clear hS0 hal;obtain⟨bm,hbm⟩:∃x,x=w.heap.size+1+1+1+1+1+1:=⟨_,rfl⟩;rw[<-hbm]at h2 ⊢;obtain⟨bk,hbk⟩:∃x,x=w.heap.size+1+1+1+1+1:=⟨_,rfl⟩;rw[<-hbk]at h2 ⊢;obtain⟨eb,heb⟩:∃x,x=w.heap.size+1+1+1+1:=⟨_,rfl⟩;rw[<-heb]at h2 ⊢;obtain⟨bt,hbt⟩:∃x,x=w.heap.size+1+1+1:=⟨_,rfl⟩;rw[<-hbt]at h2 ⊢;obtain⟨TP,afQ⟩:∃x,x=w.heap.size+1+1:=⟨_,rfl⟩;rw[<-afQ]at h2 ⊢;obtain⟨vO,afR⟩:∃x,x=w.heap.size+1:=⟨_,rfl⟩;rw[<-afR]at h2 ⊢;obtain⟨b1,hb1⟩:∃x,x=w.heap.size:=⟨_,rfl⟩;rw[<-hb1]at h2 ⊢;clear hbm hbk heb hbt afQ afR hb1;obtain⟨c,hc⟩:∃c:aeY,c=⟨f,q,p,b1,bt,bm,bk⟩:=⟨_,rfl⟩;have hu:=yH hg;have hup:=JR hg;obtain⟨R',hR'⟩:∃R',R'=aJ TP 0:: .box vO 25 #[.slice none 0 0,.slice none 0 0]::R:=⟨_,rfl⟩;have hst:Hid (aeZ w0 R' S.base ns fs nb names c φ [] (yK bf be eb f 0) w1):=Lh (by
  have h3:=(h2.out.gZ 71 2).gZ 68 3;refine⟨S,.slice none 0 0,.slice none 0 0,[],rfl,⟨hL,fun n hn=>absurd hn bK⟩,rfl,h3.perm ?_⟩
  haveI:DecidableEq aW:=fun a b=>Classical.propDecidable (a=b)
  rw[hR',hc,J3];intro a;simp only[pV,iV,yK,TE,l9,aJ,OL,OM,kI,mI,OZ,List.zipWith_nil_left,yF,fJ,fU,cZ,iF,fD,zL,List.flatMap_nil,List.zip_nil_left,qQ,List.foldl_nil,List.zipIdx_nil];omega)
 clear h2;have hSt:=Lh (axO (w0:=w0) (R:=R') (nb:=nb) (names:=names) (c:=c) hV hg.valid hl);have hAx:∀pre x,Shared (fun(a1:Act) (Y:List aW) (W:World)=>∃bs,a1=az2 c vO TP eb bf be (aC x.path) (pV bs) (aC x.path) ((o9 ns fs dn φ).v x)/\aeZ w0 R' S.base ns fs nb names c φ pre (.box bs 105 #[iV ((o9 ns fs dn φ).k x),iV ((o9 ns fs dn φ).m x),iV ((o9 ns fs dn φ).l x),iV ((o9 ns fs dn φ).s x),iV ((o9 ns fs dn φ).i x)]::Y) W):=fun pre x=>by rintro a1 Y W ⟨bs,h1,h2⟩;obtain⟨wa,Ra,h3,h4⟩:=wU _ _ _ h2;exact Z91
 refine wpIn_wide.1 (oP (F:=Fence.wide) (n:=9) rfl aR (gf:=130) (lb:=#[pV bf,pV be]) rfl trivial (enters_of Tryz.func130 fE rfl)
  (encs:=fun x:TN=>#[aC x.path,(o9 ns fs dn φ).v x]) (fun _=>rfl) (aeZ w0 R' S.base ns fs nb names c φ) wU (yK bf be eb f 0) hst.out (fun pre x=>x∈ns/\pre.length<ns.length) (fun xs Y1=>xs.Perm ns/\Y1=yK bf be eb f 0)
  ?seq _ hAx ?assign ?body ?done)
 case seq=>intro l Z W hY h0;have hSf:=hSt.out;rw[hc]at hSf;refine(as7 (hc▸hSt.out:aiN _ ns f _) hu hup hl (fun n hn=>nG (hg.valid n hn)) l7 l bf be eb (9-1) 0 Z W (fun pre x Y W1 hx hp h=>hY pre x Y W1 ⟨hx,hp⟩ h) h0).mono ?_;rintro e W' ⟨h1,xs,h2,h3⟩;exact⟨h1,xs,_,⟨h2,rfl⟩,h3⟩
 case assign=>
  intro l pre x Y W K hx hS hK;have hS2:=wU.new hS (.cells #[iV ((o9 ns fs dn φ).k x),iV ((o9 ns fs dn φ).m x),iV ((o9 ns fs dn φ).l x),iV ((o9 ns fs dn φ).s x),iV ((o9 ns fs dn φ).i x)] 105);have hK2:=Lh (fun a1 (e:a1=_)=>hK a1 _ ⟨W.heap.size,e,hS2⟩);clear hK hS2 hS hSt hst hAx;subst hc;unfold Stats.v at*
  gi_wp2
  exact hK2.out _ rfl
 case body=>
  rintro l pre x a1 Y W ⟨hx,hpl⟩ ⟨bs,e1,hA⟩;subst hc;subst hR';unfold az2 at e1;subst e1;obtain⟨S1,nv,fv,vs,h1,⟨h2,hsub⟩,h3,h4⟩:=hA;unfold TE l9 at h4;have h5:=h4.perm (aiV _ _ _ _ _ _ _ _ _ _ _);obtain⟨An,cn,env,_⟩:=h5.gL 3 rfl;subst env;obtain⟨Af,cf,efv,_⟩:=h5.gL 4 rfl;subst efv;obtain⟨k0,hif,hk0,hk1,hk2⟩:=iR TS;obtain⟨N,hN⟩:∃N,N=(fJ pre).length:=⟨_,rfl⟩;(have hN2:N<=300:=by rw[hN,TQ];omega);rw[<-hN]at h5;obtain⟨M,hM⟩:∃M,M=(fU pre fs).length:=⟨_,rfl⟩;rw[<-hM]at h5;clear h4;have hS5:=Lh h5;have y0:=h5.bC 6 rfl 0;have y1:=h5.bC 6 rfl 1;have y4:=h5.bC 6 rfl 4;have t0:=h5.bC 0 rfl 0;have t1:=h5.bC 0 rfl 1;have m0:=h5.bC 1 rfl 0;have f0:=h5.bC 5 rfl 0;simp only[gA,gB,gC]at y0 y1 y4 t0 t1 m0 f0;have hx2:=hg.file x hx;replace hN:=Lh hN;replace hM:=Lh hM;clear hSt hst hAx h5;by_cases hf:x.file= -1
  ·have ek:(o9 ns fs dn φ).k x=1:=if_pos hf;have em:(o9 ns fs dn φ).m x=x.mode:=if_pos hf;rw[ek]at y0;rw[em]at y1;have hrd:Hid (Rd (W.alloc (.cells #[aC x.path,iV (-1),iV x.mode] 68)) 3 (sV W.heap.size 1 1) 1 [aC x.path,.int .i64 (-1),.int .i64 x.mode]):=Lh ⟨rfl,_,_,rfl,iC _,by unfold maxLen;omega,fun _=>⟨_,rfl,by rw[World.size_alloc];exact J5 _,jP W #[aC x.path,iV (-1),iV x.mode] 68 _ rfl⟩⟩;have kM:=Lh (hS5.out.alloc (.cells #[aC x.path,iV (-1),iV x.mode] 68));(have h1c:Hid (∀u∈[aC x.path,Value.int .i64 (-1),.int .i64 x.mode],u.oneCell'=true):=Lh fun u hu=>by exact Z69);clear ek em;unfold aC at*
   gi_wp2_with (gi_at_builtin;refine jD 3 rfl _ _ 22 rfl 68 k0 _ 3 32 Tryz.underlying22 hif hk0 hk1 hk2 rfl aR kM.out _ N _ rfl rfl (sV W.heap.size 1 1) 1 _ rfl hrd.out h1c.out vX aD ?_;intro v3 w3 dQ hz3;(obtain⟨A3,c3,e3,_⟩:=dQ.gL 3 rfl);subst e3;(have d0:=dQ.bC 0 rfl 0);(have d1:=dQ.bF 0 rfl 0);simp only[gA,gB,M6,GU,gC]at d0;(have jT:=Lh (dQ.bS 0 rfl 0 (.slice A3 (N+1) c3)));clear dQ)
   have h9:=(jT.out.perm (YH _ _ _ _ _ _ _ _ _ _ _)).drop 1;obtain⟨i1,i2⟩:=at1 (V:=pre) (x:=x) aD;refine⟨S1,.slice A3 (N+1) c3,.slice Af M cf,vs,h1,⟨h2,fun n hn=>?_⟩,?_,?_⟩
   ·exact Z21
   ·unfold fU at h3 ⊢;rw[i1];exact h3
   (have em:yF φ (pre++[x])=yF φ pre:=by unfold yF;rw[i1]);(have eF:fU (pre++[x]) fs=fU pre fs:=by unfold fU;rw[i1]);(have eN:cZ (fJ (pre++[x]))=cZ (fJ pre)++[aC x.path,.int .i64 (-1),.int .i64 x.mode]:=by rw[i2,aiW,hf]);exact Z83
  have hf0:¬x.file<0:=by
   rcases hx2 with⟨e,_⟩|⟨e,_⟩
   ·exact absurd e hf
   omega
  have hm0:x.mode=0:=by
   rcases hx2 with⟨e,_⟩|⟨_,e⟩
   ·exact absurd e hf
   exact e
  obtain⟨f1,f2,f3,⟨ff,f4,_,_⟩,_⟩:=hV.rep.file x hx hf;have f5:=hV.iP.ph.qD;have ek:(o9 ns fs dn φ).k x=2:=if_neg hf;(have em:(o9 ns fs dn φ).m x=ff.mode:=by(show(if x.file= -1 then x.mode else((fs[x.file.toNat]?).map fun f=>(f.mode:Int)).getD 0)=_);rw[if_neg hf,f4];rfl);have ei:(o9 ns fs dn φ).i x=(φ x.file:Int)+1:=if_neg hf;rw[ek]at y0;rw[em]at y1;rw[ei]at y4;obtain⟨I,hI⟩:∃I:Int,I=(φ x.file:Int)+1:=⟨_,rfl⟩;(have hI2:0<=I/\I<=2000:=by omega);rw[<-hI]at y4;have hkey:keyOf Tryz.prog 3 (.int .i64 I)=some (.int .i64 I):=Maps.keyOf_int_mk Tryz.underlying3 (by simp[Lit.wf,IntKind.min,IntKind.max,IntKind.signed,IntKind.bits];omega);have hinj:Inj φ (pre++[x]):=fun a ha b hb h8 h9 e=>by
   (have hin:∀n∈pre++[x],n∈ns:=fun n hn=>by exact Z21);(have na:a.file≠ -1:=by omega);(have nb:b.file≠ -1:=by omega);rcases hV.rep.inj a (hin a ha) b (hin b hb) (by unfold dE;rw[if_neg na,if_neg nb,e])with e2|⟨_,e2⟩
   ·rw[e2]
   exact e2
  have M3:=hS5.out.rU 2 rfl;have hlk:=hS5.out.YD 2 rfl dN Tryz.underlying100 (TL W) hkey;have em':=Lh em;clear ek em ei f1 f2 f3 f5;by_cases hm:x.file∈fD pre
  ·have e1:=atD hinj M3 hf0 hm;rw[<-hI]at e1;rw[e1]at hlk;simp only[GX,OV]at hlk;obtain⟨K0,hK0⟩:∃K0,K0=(fD pre).idxOf x.file:=⟨_,rfl⟩;rw[<-hK0]at hlk;replace hK0:=Lh hK0;have hrd:Hid (Rd (W.alloc (.cells #[aC x.path,iV (K0:Nat),iV 0] 68)) 3 (sV W.heap.size 1 1) 1 [aC x.path,.int .i64 (K0:Nat),.int .i64 0]):=Lh ⟨rfl,_,_,rfl,iC _,by unfold maxLen;omega,fun _=>⟨_,rfl,by rw[World.size_alloc];exact J5 _,jP W #[aC x.path,iV (K0:Nat),iV 0] 68 _ rfl⟩⟩;have kM:=Lh (hS5.out.alloc (.cells #[aC x.path,iV (K0:Nat),iV 0] 68));(have h1c:Hid (∀u∈[aC x.path,Value.int .i64 (K0:Nat),.int .i64 0],u.oneCell'=true):=Lh fun u hu=>by exact Z69);clear e1 M3 hkey;replace hI:=Lh hI;unfold aC at*
   gi_wp2_with (gi_at_builtin;refine jD 3 rfl _ _ 22 rfl 68 k0 _ 3 32 Tryz.underlying22 hif hk0 hk1 hk2 rfl aR kM.out _ N _ rfl rfl (sV W.heap.size 1 1) 1 _ rfl hrd.out h1c.out vX aD ?_;intro v3 w3 dQ hz3;(obtain⟨A3,c3,e3,_⟩:=dQ.gL 3 rfl);subst e3;(have d0:=dQ.bC 0 rfl 0);(have d1:=dQ.bF 0 rfl 0);simp only[gA,gB,M6,GU,gC]at d0;(have jT:=Lh (dQ.bS 0 rfl 0 (.slice A3 (N+1) c3)));clear dQ)
   have h9:=(jT.out.perm (YH _ _ _ _ _ _ _ _ _ _ _)).drop 1;obtain⟨i1,i2⟩:=at5 (V:=pre) (x:=x) aD hm;refine⟨S1,.slice A3 (N+1) c3,.slice Af M cf,vs,h1,⟨h2,fun n hn=>?_⟩,?_,?_⟩
   ·exact Z21
   ·unfold fU at h3 ⊢;rw[i1];exact h3
   (have em:yF φ (pre++[x])=yF φ pre:=by unfold yF;rw[i1]);(have eF:fU (pre++[x]) fs=fU pre fs:=by unfold fU;rw[i1]);(have eN:cZ (fJ (pre++[x]))=cZ (fJ pre)++[aC x.path,.int .i64 (K0:Nat),.int .i64 0]:=by rw[i2,aiW,hm0,hK0.out]);exact Z83
  obtain⟨e1,e2⟩:=atE hinj hf0 hm (show WideAt.IsKeyLit (.int .i64 ((φ x.file:Int)+1))from trivial);rw[<-hI]at e1 e2;rw[e1]at hlk;simp only[J6,UJ]at hlk;(have hMi:M=(fD pre).length:=by rw[hM.out];exact iJ _);rw[<-hMi]at e2;(have hM2:M<=300:=by have:=SN pre;omega);obtain⟨w2,hmu,kM⟩:=hS5.out.lS 2 rfl dN Tryz.underlying100 (by rw[atB,<-hMi];unfold maxLen;omega) (v:=.int .i64 (M:Nat)) hkey;rw[e2]at kM;have f0':=kM.bC 5 rfl 0;simp only[gA,gB]at f0';(have hV1:Vt S1.base ns fs g dn φ:=by rw[h1];exact hV);have hrd:=auB h2 hV1 (hg.valid x hx) (hl x hx) hx hf (kM.perm (aBO _ _ _ _ _ _ _ _ _ _));(have hbf:rO fs x.file=ff.bs:=by unfold rO;rw[f4];rfl);rw[hbf]at hrd;have aLR:Hid (Calls Tryz.prog 66 #[pV f,aC x.path] w2 _):=Lh hrd;obtain⟨kf0,aLS,aLT,aLU,aLV⟩:=iR aiX;have hkM:Hid (M=(fD pre).length):=Lh hMi;clear e1 e2 M3 hkey hMi hrd kM;replace hI:=Lh hI;unfold aC at*
  gi_wp2_with (first |(refine⟨trivial,?_⟩;gi_at_call 66;refine(CallsIn.inRound l (callsIn_wide.2 aLR.out)).mono ?_;rintro e w4 ⟨v,rfl,h8⟩;(obtain⟨Ab,cb,ev,_⟩:=h8.gL 0 rfl);subst ev;(have p1:=h8.bC 2 rfl 1);(have y1':=h8.bC 8 rfl 1);simp only[gA,gB,gC]at p1 y1';rw[em'.out]at y1';(have vY:=Lh (h8.alloc (.cells #[.int .i64 ff.mode,.slice Ab ff.bs.length cb] 71)));(have hrF:Hid (Rd (w4.alloc (.cells #[.int .i64 ff.mode,.slice Ab ff.bs.length cb] 71)) 2 (.slice (some ⟨w4.heap.size,0,none⟩) 1 1) 1 [.int .i64 ff.mode,.slice Ab ff.bs.length cb]):=Lh ⟨rfl,_,_,rfl,iC _,by unfold maxLen;omega,fun _=>⟨_,rfl,by rw[World.size_alloc];exact J5 _,jP w4 #[.int .i64 ff.mode,.slice Ab ff.bs.length cb] 71 _ rfl⟩⟩);clear h8 t0 t1 y0 y1 y4 m0 f0 f0' hmu hlk)|(gi_at_builtin;show wpListIn (Fence.wide.inRound l) 7 Tryz.prog _ _ (_::_) _ (w4.alloc _);refine jD 6 rfl _ _ 23 rfl 71 kf0 _ 2 32 Tryz.underlying23 aLS aLT aLU aLV rfl aR vY.out _ M _ rfl rfl (sV w4.heap.size 1 1) 1 _ rfl hrF.out oCl vX aD ?_;intro v5 w5 auE hz5;(obtain⟨A5,c5,e5,_⟩:=auE.gL 6 rfl);subst e5;(have d0:=auE.bC 2 rfl 1);(have d1:=auE.bF 2 rfl 1);simp only[gA,gB,M6,GU,gC]at d0;(have zX:=Lh (auE.bS 2 rfl 1 (.slice A5 (M+1) c5)));clear auE vY hrF y1' p1;(have n0:(w5.setCell ⟨bt,1,none⟩ (.slice A5 (M+1) c5)).cell? ⟨bt,0,none⟩=some (.slice An N cn):=zX.out.bC 2 rfl 0))|(gi_at_builtin;show wpListIn (Fence.wide.inRound l) 7 Tryz.prog _ _ (_::_) _ ((w5.setCell ⟨bt,1,none⟩ (.slice A5 (M+1) c5)).alloc _);go_loud (refine afP (ph:=x.path) (fi:=(M:Nat)) (mo:=0) (gb:=w5.heap.size) 5 rfl _ _ rfl zX.out rfl rfl rfl rfl (World.size_setCell ..).symm aD ?_);go_loud (intro v7 w7 nI;(obtain⟨A7,c7,e7,_⟩:=nI.gL 5 rfl);subst e7;(have d0:w7.cell? ⟨bt,0,none⟩=some (.slice An N cn):=nI.bC 2 rfl 0);(have d1:w7.frozen? ⟨bt,0,none⟩=false:=nI.bF 2 rfl 0);(have hSe:=Lh (nI.bS 2 rfl 0 (.slice A7 (N+1) c7)));clear nI)))
  have h9:=(hSe.out.perm (at7 _ _ _ _ _ _ _ _ _ _ _ _)).drop 1;obtain⟨i1,i2,i3⟩:=at6 (fs:=fs) (V:=pre) (x:=x) aD hm;(have eA:mM (SY fs) x.file=⟨(ff.mode:Int),ff.bs⟩:=by unfold mM SY;rw[gH,lC,f4];rfl);refine⟨S1.base,.slice A7 (N+1) c7,.slice A5 (M+1) c5,vs++[.slice Ab ff.bs.length cb],by rw[<-h1];rfl,⟨h2.base,fun n hn=>?_⟩,?_,?_⟩
  ·exact Z21
  ·rw[i3,jM,jM,h3];rfl
  (have eN:cZ (fJ (pre++[x]))=cZ (fJ pre)++[aC x.path,.int .i64 (M:Nat),.int .i64 0]:=by rw[i2,aiW,hm0,hkM.out]);(have el:(fJ (pre++[x])).length=N+1:=by rw[i2,jM,hN.out];rfl);(have eF:iF (fU (pre++[x]) fs) (vs++[.slice Ab ff.bs.length cb])=iF (fU pre fs) vs++[.int .i64 ff.mode,.slice Ab ff.bs.length cb]:=by rw[i3,aBP h3,eA]);(have ef:(fU (pre++[x]) fs).length=M+1:=by rw[i3,jM,hM.out];rfl);(have ez:List.zipWith (fun v (f:TF)=>aI v f.bs) (vs++[.slice Ab ff.bs.length cb]) (fU (pre++[x]) fs)=List.zipWith (fun v (f:TF)=>aI v f.bs) vs (fU pre fs)++[aI (.slice Ab ff.bs.length cb) ff.bs]:=by rw[i3,List.zipWith_append h3,eA];rfl);unfold TE l9;rw[eN,el,eF,ef,ez];exact h9
 rintro D xs Y1 Y2 W ⟨hp,rfl⟩ hS;subst hc;subst hR';obtain⟨S1,nv,fv,vs,h1,⟨h2,hsub⟩,h3,h4⟩:=hS;unfold TE yK at h4;have h5:=h4.perm (aoM _ _ _ _ _ _ _ _ _ _ _ _ _ _);have hS5:=Lh h5;have t0:=h5.bC 0 rfl 0;have t1:=h5.bC 0 rfl 1;have e0:=h5.bC 1 rfl 0;have r0:=h5.bF 2 rfl 0;have r1:=h5.bF 2 rfl 1;have r2:=h5.bF 3 rfl 0;simp only[gA,gB,gC]at t0 t1 e0;clear h4 h5 hSt hst hAx;have hcl:=Lh (auD xs hp h3 (hS5.out.perm (afO _ _ _ _ _ _ _ _ _ _ _ _)));clear auD;go_wp2_with(go_at_call 67;go_loud (refine hcl.out.mono ?_;rintro e w4 ⟨nv2,fv2,vs2,rfl,h6,h7⟩;(obtain⟨A8,c8,e8,_⟩:=h7.gL 0 rfl);subst e8;(obtain⟨A9,c9,e9,_⟩:=h7.gL 1 rfl);subst e9;(have nI:=Lh (h7.perm (afO _ _ _ _ _ _ _ _ _ _ _ _).symm));clear h7;(have r0:w4.frozen? ⟨vO,0,none⟩=false:=nI.out.bF 2 rfl 0);(have r1:w4.frozen? ⟨vO,1,none⟩=false:=nI.out.bF 2 rfl 1);(have q0:w4.cell? ⟨vO,0,none⟩=some (.slice none 0 0):=nI.out.bC 2 rfl 0);(have q1:w4.cell? ⟨vO,1,none⟩=some (.slice none 0 0):=nI.out.bC 2 rfl 1);(have zX:=Lh ((nI.out.bS 2 rfl 0 (.slice A8 N'.length c8)).bS 2 rfl 1 (.slice A9 F'.length c9)));(have q2:((w4.setCell ⟨vO,0,none⟩ (.slice A8 N'.length c8)).setCell ⟨vO,1,none⟩ (.slice A9 F'.length c9)).cell? ⟨TP,0,none⟩=some (iV 0):=zX.out.bC 3 rfl 0);(have r2:((w4.setCell ⟨vO,0,none⟩ (.slice A8 N'.length c8)).setCell ⟨vO,1,none⟩ (.slice A9 F'.length c9)).frozen? ⟨TP,0,none⟩=false:=zX.out.bF 3 rfl 0);(have vY:=Lh (zX.out.bS 3 rfl 0 (.int .i64 0)))));refine⟨by simp,.inl ⟨_,_,rfl,run_takeDeferred (vY.out.XE 4 rfl),?_⟩⟩;have zX:=(vY.out.putObj 4 (.deferred none) rfl).perm (auA _ _ _ _ _ _ _ _ _ _ _ _ _);refine⟨.tuple #[.agg #[.slice A8 N'.length c8,.slice A9 F'.length c9],iV 0],?_,_,_,vs2,S1,rfl,h6,h1,h2,zX.snd⟩;have g0:=(vY.out.putObj 4 (.deferred none) rfl).bC 2 rfl 0;have g1:=(vY.out.putObj 4 (.deferred none) rfl).bC 2 rfl 1;have g2:=(vY.out.putObj 4 (.deferred none) rfl).bC 3 rfl 0;simp at g0 g1 g2;simp[results,Tryz.f19,go_sem,g0,g1,g2]
end
end Go.Proofs.YtmjomdkleikgbaaGreat
