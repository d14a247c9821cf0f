/- Parts. -/
import Derived.Test.YtmjomdkleikgbaaGreatJ38
set_option linter.unusedVariables false
set_option linter.unusedSimpArgs false
set_option maxRecDepth 100000
set_option maxHeartbeats 20000000
namespace Go.Proofs.YtmjomdkleikgbaaGreat
open Go.RowKit Go.Shelf
attribute [local go_sem] Oper.semAt_some
def ay7 (c:ad8) (M5 anW eb bf be:Nat) (v7 v8 v16 v17:Value):Act:= {tmps:=#[pV c.f,pV c.b1,pV M5,pV anW,pV c.bt,pV eb,pV c.bm,v7,v8,undef,undef,undef,undef,.map (some c.bk),pV c.f,.func (.func 130) #[] #[pV bf,pV be],v16,v17,undef,undef,undef,undef,undef,undef,undef,undef,undef,undef,undef,undef,undef,undef,undef,undef,undef,undef,undef,undef,undef,undef,undef,undef,undef,undef,undef,undef,undef,undef,undef,undef,undef,undef,undef,undef,undef,undef,undef,undef,undef,undef,undef,undef,undef,undef,undef,undef,undef,undef,undef,undef,undef,undef,undef,undef,undef,undef,undef,undef,undef,undef,undef],defers:=[]}
theorem Z34 {P:Prop} (h:P:=by
 haveI:DecidableEq aZ:=fun a b=>Classical.propDecidable (a=b)
 rw[MM];intro a;simp only[TL,TP,kW];omega):P:=h
theorem ah3 (r B0 b1 bt bm gm n fl:aZ) (Y z R:List aZ):(r::((B0::Y)++((b1::bt::bm::gm::n::fl::z)++R))).Perm (bt::bm::gm::n::fl::b1::B0::(z++(r::(Y++R)))):=by exact Z34
theorem XO (r B0 b1 bt bm gm n fl:aZ) (Y z R:List aZ):(bt::bm::gm::n::fl::b1::B0::(z++(r::(Y++R)))).Perm (B0::r::(Y++((b1::bt::bm::gm::n::fl::z)++R))):=by exact Z34
section
variable {V:List TN} {x:TN} {fs:List FT}
theorem SF (V:List TN):(fF V).length=V.length:=iM _
theorem as1 (hf:x.file<0):fA (V++[x])=fA V/\fF (V++[x])=fF V++[x]:=by
 have e:fA (V++[x])=fA V:=by rw[kF,if_pos hf]
 refine⟨e,?_⟩;unfold fF;rw[e,mV,MN];congr 2;unfold lK;rw[if_pos hf]
theorem as2 (hf:¬x.file<0) (hm:x.file∈fA V):fA (V++[x])=fA V/\fF (V++[x])=fF V++[⟨x.path,((fA V).idxOf x.file:Nat),x.mode⟩]:=by
 have e:fA (V++[x])=fA V:=by rw[kF,if_neg hf,if_pos hm]
 refine⟨e,?_⟩;unfold fF;rw[e,mV,MN];congr 2;unfold lK;rw[if_neg hf]
theorem as3 (hf:¬x.file<0) (hm:x.file∉fA V):fA (V++[x])=fA V++[x.file]/\fF (V++[x])=fF V++[⟨x.path,((fA V).length:Nat),x.mode⟩]/\fU (V++[x]) fs=fU V fs++[mG (RS fs) x.file]:=by
 have e:fA (V++[x])=fA V++[x.file]:=by rw[kF,if_neg hf,if_neg hm]
 refine⟨e,?_,?_⟩
 ·unfold fF;rw[e,mV,MN,WW (fun n hn hn2=>nC V n hn hn2)];congr 2;unfold lK;rw[if_neg hf,List.idxOf_append,if_neg hm];simp
 unfold fU;rw[e,mV,MN]
end
theorem ah4 (xs:List TN) (n:TN):cZ (xs++[n])=cZ xs++[aC n.path,.int .i64 n.file,.int .i64 n.mode]:=by rw[BS];rfl
theorem Z41 {P:Prop} (h:P:=by
 haveI:DecidableEq aZ:=fun a b=>Classical.propDecidable (a=b)
 rw[MM];intro a;simp only[TL,TP];omega):P:=h
theorem aAY (r a0 a1 a2 a3 a4 a5 a6:aZ) (z Q:List aZ):(a0::a1::a2::a3::a4::a5::a6::(z++(r::Q))).Perm (r::a0::a1::a2::a3::a4::a5::a6::(z++Q)):=by exact Z41
theorem Z18 {P:Prop} (h:P:=by
 haveI:DecidableEq aZ:=fun a b=>Classical.propDecidable (a=b)
 rw[MM];intro a;simp only[TL,TP,kW,U8];omega):P:=h
theorem as4 (r u a0 a1 a2 a3 a4 a5 a6:aZ) (z Y R:List aZ):(u::r::a0::a1::a2::a3::a4::a5::a6::(z++(Y++R))).Perm (a6::r::(Y++((a5::a0::a1::a2::a3::a4::(z++[u]))++R))):=by exact Z18
theorem anX (r D a0 a1 a2 b1 bt bm gm be br:aZ) (T Y2 R:List aZ):(r::((D::([a0,a1,a2]++Y2))++((b1::bt::bm::gm::T)++(be::br::R)))).Perm (bt::a2::br::be::D::b1::bm::gm::a0::a1::(T++(Y2++(r::R)))):=by exact Z18
theorem aeY (a0 a1 a2 b1 bt bm gm be br D:aZ) (T Q:List aZ):(a0::a1::a2::b1::bt::bm::gm::be::br::D::(T++Q)).Perm (T++(a0::a1::a2::b1::bt::bm::gm::be::br::D::Q)):=by exact Z41
theorem as5 (a0 a1 a2 b1 bt bm gm be br D:aZ) (T Y2 Q:List aZ):(a0::a1::a2::b1::bt::bm::gm::be::br::D::(T++(Y2++Q))).Perm (([a0,a1,a2,b1,bt,bm,gm,be,br,D]++Y2)++(T++Q)):=by exact Z18
def XP (N:List TN) (F:List TF) (N':List TN) (F':List TF):Prop:=
 ∀ {w0 w:World} {R:List aZ} {nv fv:Value} {vs:List Value},vs.length=F.length->Sep w0 w (lL nv fv N F vs++R)->
  Calls Tryz.prog 67 #[.agg #[nv,fv]] w fun e w'=>∃nv' fv' vs',e= .returned (.tuple #[.agg #[nv',fv'],iV 0])/\vs'.length=F'.length/\Sep w0 w' (lL nv' fv' N' F' vs'++R)
theorem aAZ {F:List TF} {vs:List Value} (hl:vs.length=F.length) (f:TF) (v:Value):iE (F++[f]) (vs++[v])=iE F vs++[.int .i64 f.mode,v]:=by unfold iE;rw[List.zip_append hl.symm,YE];rfl
theorem as6 {w0 W:World} {X:List aZ} {f q p:Nat} {S1:VS} {ns:List TN} {fs:List FT} {nb names:Nat} {g:LT} {dn:Key->Nat} {φ:Int->Nat} (h2:gY S1 ns fs nb names) (hV:Vt S1.base ns fs g dn φ) {n:TN} (hv:aU n.path=true) (hl:n.path.length<=200) (hn:n∈ns) (hf:n.file≠ -1) (h4:Sep w0 W (bH f q p S1::X)):
  Calls Tryz.prog 66 #[pV f,aC n.path] W fun e w'=>∃v,e= .returned (.tuple #[v,iV 0])/\Sep w0 w' (aI v (rF fs n.file)::bH f q p S1.base::X):=by
 obtain⟨r1,r2⟩:=awP hV hn hv hf;obtain⟨x1,x2⟩:=hV.read n.path;refine(aqI (path:=n.path) aD h2.off hV.iT.vw hV.iT.acZ h4).mono ?_;rintro e w' ⟨v,rfl,hS⟩;rw[x1,r1];rw[x2,r2]at hS;exact⟨v,rfl,hS⟩
theorem SG :(Tryz.prog.info? 68).map (fun i=>(i.zero,i.size,i.bytes))=some (some (.agg #[.string ⟨#[]⟩,iV 0,iV 0]),3,32):=by kernel_rfl
theorem ah5 :(Tryz.prog.info? 71).map (fun i=>(i.zero,i.size,i.bytes))=some (some (.agg #[iV 0,.slice none 0 0]),2,32):=by kernel_rfl
theorem Z63 {P:Prop} (h:P:=by simp only[kC,D8,or_false]at hu;rcases hu with rfl|rfl|rfl<;>rfl):P:=h
theorem aeZ {l n9:Nat} {w0 w:World} {As:List aZ} {ops:Array Oper} {rest:List Oper} {o:Oper} {a:Act} {Q:Exit->Act->World->Prop} (k:Nat) (hgd:o.guard=none) (s x:Operand)
  (ho:o.op= .call {callee:=.builtin .append,args:=#[s,x],argTypes:=#[22,22]}) {W:World} {ph:List UInt8} {fi mo:Int} (hS:Sep w0 W As) (hw:w=W.alloc (.cells #[aC ph,iV fi,iV mo] 68)) {v:Value} {n:Nat} {cs:List Value} (hk:As[k]? =some (.sl 68 3 v n cs)) (hs:a.eval s=v)
  {gb:Nat} (hx:a.eval x=sV gb 1 1) (hgb:gb=W.heap.size) (hn:n<=1000)
  (h:∀v' w',Sep w0 w' (As.set k (.sl 68 3 v' (n+1) (cs++[aC ph,.int .i64 fi,.int .i64 mo])))->wpListIn (Fence.wide.inRound l) n9 Tryz.prog ops Q rest (a.put o.dst v') w'):
  wpListIn (Fence.wide.inRound l) n9 Tryz.prog ops Q (o::rest) a w:=by
 subst hw;subst hgb;obtain⟨k0,hif,hk0,hk1,hk2⟩:=iU SG;refine jB k hgd s x 22 ho 68 k0 _ 3 32 Tryz.underlying22 hif hk0 hk1 hk2 rfl aV (hS.alloc _) v n cs hk hs (sV W.heap.size 1 1) 1 [aC ph,.int .i64 fi,.int .i64 mo] hx ⟨rfl,_,_,rfl,iB _,by unfold maxLen;omega,fun _=>⟨_,rfl,by rw[World.size_alloc];exact JQ _,jO W #[aC ph,iV fi,iV mo] 68 _ rfl⟩⟩ (fun u hu=>?_) vQ aD fun v' w' h1 _=>h v' w' h1
 exact Z63
section
variable {w0 w:World} {R:List aZ} {f q p:Nat} {S:VS} {ns:List TN} {fs:List FT} {nb names:Nat} {g:LT} {dn:Key->Nat} {φ:Int->Nat}
theorem Z19 {P:Prop} (h:P:=by
 rcases iN.1 hn with hn|hn
 ·exact hsub n hn
 rw[sW]at hn;rw[hn];exact hx):P:=h
theorem Z75 {P:Prop} (h:P:=by
 have el:(fF (pre++[x])).length=N+1:=by rw[i2,jL,hN.out];rfl
 unfold RZ lL;rw[em,eF,eN,el,<-hM.out];exact h9):P:=h
theorem as7 {N':List TN} {F':List TF} (as8:∀V,V.Perm ns->XP (fF V) (fU V fs) N' F') (hL:gY S ns fs nb names) (hV:Vt S.base ns fs g dn φ) (hg:zJ ns) (hl:∀n∈ns,n.path.length<=200) (l5:ns.length<=300) (h:Sep w0 w (bH f q p S::R)):
  Calls Tryz.prog 19 #[pV f] w fun e w'=>∃nv fv vs S',e= .returned (.tuple #[.agg #[nv,fv],iV 0])/\vs.length=F'.length/\S'.base=S.base/\gY S' ns fs nb names/\Sep w0 w' (lL nv fv N' F' vs++(bH f q p S'::R)):=by
 have hmm:= @run_makeMap Tryz.prog;have k1:=((((h.bN 37 #[pV f]).bN 25 #[.slice none 0 0,.slice none 0 0]).bN 40 #[iV 0]).bN 25 #[.slice none 0 0,.slice none 0 0]).bN 40 #[iV 0];have k2:=k1.KC 3;have k3:=k2.bN 100 #[.map (some (w.heap.size+1+1+1+1+1))];simp only[World.size_alloc]at k3;have hS0:=Lh k3;have hal:=Lh (awZ (f:=f) (eb:=w.heap.size+1+1+1+1) k3);clear k1 k2 k3 h;refine(callsIn_wide (n:=9)).1 ?_;refine callsIn_of_wp_marks Tryz.func19 rfl trivial ?_ rfl;simp only[Tryz.ntmps19,kE,kR,rT,Nat.reduceAdd,Nat.reduceSub,zL,zM,zO,zN,nG,kW];rw[wpIn_wide];go_wp2_with(go_at_call 65;refine hal.out.mono ?_;rintro e w1 ⟨bf,be,rfl,h1⟩;have h2:=Lh h1;clear h1);clear hS0 hal;obtain⟨bm,hbm⟩:∃x,x=w.heap.size+1+1+1+1+1+1:=⟨_,rfl⟩;rw[<-hbm]at h2 ⊢;obtain⟨bk,hbk⟩:∃x,x=w.heap.size+1+1+1+1+1:=⟨_,rfl⟩;rw[<-hbk]at h2 ⊢;obtain⟨eb,heb⟩:∃x,x=w.heap.size+1+1+1+1:=⟨_,rfl⟩;rw[<-heb]at h2 ⊢;obtain⟨bt,hbt⟩:∃x,x=w.heap.size+1+1+1:=⟨_,rfl⟩;rw[<-hbt]at h2 ⊢;obtain⟨anW,ay8⟩:∃x,x=w.heap.size+1+1:=⟨_,rfl⟩;rw[<-ay8]at h2 ⊢;obtain⟨M5,ay9⟩:∃x,x=w.heap.size+1:=⟨_,rfl⟩;rw[<-ay9]at h2 ⊢;obtain⟨b1,hb1⟩:∃x,x=w.heap.size:=⟨_,rfl⟩;rw[<-hb1]at h2 ⊢;clear hbm hbk heb hbt ay8 ay9 hb1;obtain⟨c,hc⟩:∃c:ad8,c=⟨f,q,p,b1,bt,bm,bk⟩:=⟨_,rfl⟩;have hu:=xS hg;have hup:=JF hg;obtain⟨R',hR'⟩:∃R',R'=aJ anW 0:: .box M5 25 #[.slice none 0 0,.slice none 0 0]::R:=⟨_,rfl⟩;have hst:Hid (ad9 w0 R' S.base ns fs nb names c φ [] (DY bf be eb f 0) w1):=Lh (by
  have h3:=(h2.out.iO 71 2).iO 68 3;refine⟨S,.slice none 0 0,.slice none 0 0,[],rfl,⟨hL,fun n hn=>absurd hn bL⟩,rfl,h3.perm ?_⟩
  haveI:DecidableEq aZ:=fun a b=>Classical.propDecidable (a=b)
  rw[hR',hc,MM];intro a;simp only[pV,iV,DY,RZ,lL,aJ,TL,TP,kW,nG,U8,List.zipWith_nil_left,xP,fF,fU,cZ,iE,fA,yX,List.flatMap_nil,List.zip_nil_left,rT,List.foldl_nil,List.zipIdx_nil];omega)
 clear h2;have hSt:=Lh (awQ (w0:=w0) (R:=R') (nb:=nb) (names:=names) (c:=c) hV hg.valid hl);have hAx:∀pre x,Shared (fun(a1:Act) (Y:List aZ) (W:World)=>∃bs,a1=ay7 c M5 anW eb bf be (aC x.path) (pV bs) (aC x.path) ((o7 ns fs dn φ).v x)/\ad9 w0 R' S.base ns fs nb names c φ pre (.box bs 105 #[iV ((o7 ns fs dn φ).k x),iV ((o7 ns fs dn φ).m x),iV ((o7 ns fs dn φ).l x),iV ((o7 ns fs dn φ).s x),iV ((o7 ns fs dn φ).i x)]::Y) W):=fun pre x=>by rintro a1 Y W ⟨bs,h1,h2⟩;obtain⟨wa,Ra,h3,h4⟩:=wK _ _ _ h2;exact Z81
 refine wpIn_wide.1 (vG (F:=Fence.wide) (n:=9) rfl aV (gf:=130) (lb:=#[pV bf,pV be]) rfl trivial (enters_of Tryz.func130 fH rfl)
  (encs:=fun x:TN=>#[aC x.path,(o7 ns fs dn φ).v x]) (fun _=>rfl) (ad9 w0 R' S.base ns fs nb names c φ) wK (DY bf be eb f 0) hst.out (fun pre x=>x∈ns/\pre.length<ns.length) (fun xs Y1=>xs.Perm ns/\Y1=DY bf be eb f 0)
  ?seq _ hAx ?assign ?body ?done)
 case seq=>intro l Z W hY h0;have hSf:=hSt.out;rw[hc]at hSf;refine(asA (hc▸hSt.out:ahW _ ns f _) hu hup hl (fun n hn=>nD (hg.valid n hn)) l5 l bf be eb (9-1) 0 Z W (fun pre x Y W1 hx hp h=>hY pre x Y W1 ⟨hx,hp⟩ h) h0).mono ?_;rintro e W' ⟨h1,xs,h2,h3⟩;exact⟨h1,xs,_,⟨h2,rfl⟩,h3⟩
 case assign=>
  intro l pre x Y W K hx hS hK;have hS2:=wK.new hS (.cells #[iV ((o7 ns fs dn φ).k x),iV ((o7 ns fs dn φ).m x),iV ((o7 ns fs dn φ).l x),iV ((o7 ns fs dn φ).s x),iV ((o7 ns fs dn φ).i x)] 105);have hK2:=Lh (fun a1 (e:a1=_)=>hK a1 _ ⟨W.heap.size,e,hS2⟩);clear hK hS2 hS hSt hst hAx;subst hc;unfold Stats.v at*
  gi_wp2
  exact hK2.out _ rfl
 case body=>
  rintro l pre x a1 Y W ⟨hx,hpl⟩ ⟨bs,e1,hA⟩;subst hc;subst hR';unfold ay7 at e1;subst e1;obtain⟨S1,nv,fv,vs,h1,⟨h2,hsub⟩,h3,h4⟩:=hA;unfold RZ lL at h4;have h5:=h4.perm (ah3 _ _ _ _ _ _ _ _ _ _ _);obtain⟨An,cn,env,_⟩:=h5.gJ 3 rfl;subst env;obtain⟨Af,cf,efv,_⟩:=h5.gJ 4 rfl;subst efv;obtain⟨k0,hif,hk0,hk1,hk2⟩:=iU SG;obtain⟨N,hN⟩:∃N,N=(fF pre).length:=⟨_,rfl⟩;(have hN2:N<=300:=by rw[hN,SF];omega);rw[<-hN]at h5;obtain⟨M,hM⟩:∃M,M=(fU pre fs).length:=⟨_,rfl⟩;rw[<-hM]at h5;clear h4;have hS5:=Lh h5;have y0:=h5.bC 6 rfl 0;have y1:=h5.bC 6 rfl 1;have y4:=h5.bC 6 rfl 4;have t0:=h5.bC 0 rfl 0;have t1:=h5.bC 0 rfl 1;have m0:=h5.bC 1 rfl 0;have f0:=h5.bC 5 rfl 0;simp only[gA,gB,gC]at y0 y1 y4 t0 t1 m0 f0;have hx2:=hg.file x hx;replace hN:=Lh hN;replace hM:=Lh hM;clear hSt hst hAx h5;by_cases hf:x.file= -1
  ·have ek:(o7 ns fs dn φ).k x=1:=if_pos hf;have em:(o7 ns fs dn φ).m x=x.mode:=if_pos hf;rw[ek]at y0;rw[em]at y1;have hrd:Hid (Rd (W.alloc (.cells #[aC x.path,iV (-1),iV x.mode] 68)) 3 (sV W.heap.size 1 1) 1 [aC x.path,.int .i64 (-1),.int .i64 x.mode]):=Lh ⟨rfl,_,_,rfl,iB _,by unfold maxLen;omega,fun _=>⟨_,rfl,by rw[World.size_alloc];exact JQ _,jO W #[aC x.path,iV (-1),iV x.mode] 68 _ rfl⟩⟩;have lG:=Lh (hS5.out.alloc (.cells #[aC x.path,iV (-1),iV x.mode] 68));(have h1c:Hid (∀u∈[aC x.path,Value.int .i64 (-1),.int .i64 x.mode],u.oneCell'=true):=Lh fun u hu=>by exact Z63);clear ek em;unfold aC at*
   gi_wp2_with (gi_at_builtin;refine jB 3 rfl _ _ 22 rfl 68 k0 _ 3 32 Tryz.underlying22 hif hk0 hk1 hk2 rfl aV lG.out _ N _ rfl rfl (sV W.heap.size 1 1) 1 _ rfl hrd.out h1c.out vQ aD ?_;intro v3 w3 dX hz3;(obtain⟨A3,c3,e3,_⟩:=dX.gJ 3 rfl);subst e3;(have d0:=dX.bC 0 rfl 0);(have d1:=dX.bF 0 rfl 0);simp only[gA,gB,NW,JN,gC]at d0;(have kD:=Lh (dX.bS 0 rfl 0 (.slice A3 (N+1) c3)));clear dX)
   have h9:=(kD.out.perm (XO _ _ _ _ _ _ _ _ _ _ _)).drop 1;obtain⟨i1,i2⟩:=as1 (V:=pre) (x:=x) aD;refine⟨S1,.slice A3 (N+1) c3,.slice Af M cf,vs,h1,⟨h2,fun n hn=>?_⟩,?_,?_⟩
   ·exact Z19
   ·unfold fU at h3 ⊢;rw[i1];exact h3
   (have em:xP φ (pre++[x])=xP φ pre:=by unfold xP;rw[i1]);(have eF:fU (pre++[x]) fs=fU pre fs:=by unfold fU;rw[i1]);(have eN:cZ (fF (pre++[x]))=cZ (fF pre)++[aC x.path,.int .i64 (-1),.int .i64 x.mode]:=by rw[i2,ah4,hf]);exact Z75
  have hf0:¬x.file<0:=by
   rcases hx2 with⟨e,_⟩|⟨e,_⟩
   ·exact absurd e hf
   omega
  have hm0:x.mode=0:=by
   rcases hx2 with⟨e,_⟩|⟨_,e⟩
   ·exact absurd e hf
   exact e
  obtain⟨f1,f2,f3,⟨ff,f4,_,_⟩,_⟩:=hV.rep.file x hx hf;have f5:=hV.iT.ph.nW;have ek:(o7 ns fs dn φ).k x=2:=if_neg hf;(have em:(o7 ns fs dn φ).m x=ff.mode:=by(show(if x.file= -1 then x.mode else((fs[x.file.toNat]?).map fun f=>(f.mode:Int)).getD 0)=_);rw[if_neg hf,f4];rfl);have ei:(o7 ns fs dn φ).i x=(φ x.file:Int)+1:=if_neg hf;rw[ek]at y0;rw[em]at y1;rw[ei]at y4;obtain⟨I,hI⟩:∃I:Int,I=(φ x.file:Int)+1:=⟨_,rfl⟩;(have hI2:0<=I/\I<=2000:=by omega);rw[<-hI]at y4;have hkey:keyOf Tryz.prog 3 (.int .i64 I)=some (.int .i64 I):=Maps.keyOf_int_mk Tryz.underlying3 (by simp[Lit.wf,IntKind.min,IntKind.max,IntKind.signed,IntKind.bits];omega);have hinj:Inj φ (pre++[x]):=fun a ha b hb h8 h9 e=>by
   (have hin:∀n∈pre++[x],n∈ns:=fun n hn=>by exact Z19);(have na:a.file≠ -1:=by omega);(have nb:b.file≠ -1:=by omega);rcases hV.rep.inj a (hin a ha) b (hin b hb) (by unfold dD;rw[if_neg na,if_neg nb,e])with e2|⟨_,e2⟩
   ·rw[e2]
   exact e2
  have UR:=hS5.out.tK 2 rfl;have hlk:=hS5.out.aeW 2 rfl dW Tryz.underlying100 (SE W) hkey;have em':=Lh em;clear ek em ei f1 f2 f3 f5;by_cases hm:x.file∈fA pre
  ·have e1:=asG hinj UR hf0 hm;rw[<-hI]at e1;rw[e1]at hlk;simp only[JP,U1]at hlk;obtain⟨K0,hK0⟩:∃K0,K0=(fA pre).idxOf x.file:=⟨_,rfl⟩;rw[<-hK0]at hlk;replace hK0:=Lh hK0;have hrd:Hid (Rd (W.alloc (.cells #[aC x.path,iV (K0:Nat),iV 0] 68)) 3 (sV W.heap.size 1 1) 1 [aC x.path,.int .i64 (K0:Nat),.int .i64 0]):=Lh ⟨rfl,_,_,rfl,iB _,by unfold maxLen;omega,fun _=>⟨_,rfl,by rw[World.size_alloc];exact JQ _,jO W #[aC x.path,iV (K0:Nat),iV 0] 68 _ rfl⟩⟩;have lG:=Lh (hS5.out.alloc (.cells #[aC x.path,iV (K0:Nat),iV 0] 68));(have h1c:Hid (∀u∈[aC x.path,Value.int .i64 (K0:Nat),.int .i64 0],u.oneCell'=true):=Lh fun u hu=>by exact Z63);clear e1 UR hkey;replace hI:=Lh hI;unfold aC at*
   gi_wp2_with (gi_at_builtin;refine jB 3 rfl _ _ 22 rfl 68 k0 _ 3 32 Tryz.underlying22 hif hk0 hk1 hk2 rfl aV lG.out _ N _ rfl rfl (sV W.heap.size 1 1) 1 _ rfl hrd.out h1c.out vQ aD ?_;intro v3 w3 dX hz3;(obtain⟨A3,c3,e3,_⟩:=dX.gJ 3 rfl);subst e3;(have d0:=dX.bC 0 rfl 0);(have d1:=dX.bF 0 rfl 0);simp only[gA,gB,NW,JN,gC]at d0;(have kD:=Lh (dX.bS 0 rfl 0 (.slice A3 (N+1) c3)));clear dX)
   have h9:=(kD.out.perm (XO _ _ _ _ _ _ _ _ _ _ _)).drop 1;obtain⟨i1,i2⟩:=as2 (V:=pre) (x:=x) aD hm;refine⟨S1,.slice A3 (N+1) c3,.slice Af M cf,vs,h1,⟨h2,fun n hn=>?_⟩,?_,?_⟩
   ·exact Z19
   ·unfold fU at h3 ⊢;rw[i1];exact h3
   (have em:xP φ (pre++[x])=xP φ pre:=by unfold xP;rw[i1]);(have eF:fU (pre++[x]) fs=fU pre fs:=by unfold fU;rw[i1]);(have eN:cZ (fF (pre++[x]))=cZ (fF pre)++[aC x.path,.int .i64 (K0:Nat),.int .i64 0]:=by rw[i2,ah4,hm0,hK0.out]);exact Z75
  obtain⟨e1,e2⟩:=asH hinj hf0 hm (show WideAt.IsKeyLit (.int .i64 ((φ x.file:Int)+1))from trivial);rw[<-hI]at e1 e2;rw[e1]at hlk;simp only[NZ,aaX]at hlk;(have hMi:M=(fA pre).length:=by rw[hM.out];exact iM _);rw[<-hMi]at e2;(have hM2:M<=300:=by have:=RO pre;omega);obtain⟨w2,hmu,lG⟩:=hS5.out.mE 2 rfl dW Tryz.underlying100 (by rw[asE,<-hMi];unfold maxLen;omega) (v:=.int .i64 (M:Nat)) hkey;rw[e2]at lG;have f0':=lG.bC 5 rfl 0;simp only[gA,gB]at f0';(have hV1:Vt S1.base ns fs g dn φ:=by rw[h1];exact hV);have hrd:=as6 h2 hV1 (hg.valid x hx) (hl x hx) hx hf (lG.perm (aAY _ _ _ _ _ _ _ _ _ _));(have hbf:rF fs x.file=ff.bs:=by unfold rF;rw[f4];rfl);rw[hbf]at hrd;have aKU:Hid (Calls Tryz.prog 66 #[pV f,aC x.path] w2 _):=Lh hrd;obtain⟨kf0,aKV,aKW,aKX,aKY⟩:=iU ah5;have hkM:Hid (M=(fA pre).length):=Lh hMi;clear e1 e2 UR hkey hMi hrd lG;replace hI:=Lh hI;unfold aC at*
  gi_wp2_with (first |(refine⟨trivial,?_⟩;gi_at_call 66;refine(CallsIn.inRound l (callsIn_wide.2 aKU.out)).mono ?_;rintro e w4 ⟨v,rfl,h8⟩;(obtain⟨Ab,cb,ev,_⟩:=h8.gJ 0 rfl);subst ev;(have p1:=h8.bC 2 rfl 1);(have y1':=h8.bC 8 rfl 1);simp only[gA,gB,gC]at p1 y1';rw[em'.out]at y1';(have zS:=Lh (h8.alloc (.cells #[.int .i64 ff.mode,.slice Ab ff.bs.length cb] 71)));(have hrF:Hid (Rd (w4.alloc (.cells #[.int .i64 ff.mode,.slice Ab ff.bs.length cb] 71)) 2 (.slice (some ⟨w4.heap.size,0,none⟩) 1 1) 1 [.int .i64 ff.mode,.slice Ab ff.bs.length cb]):=Lh ⟨rfl,_,_,rfl,iB _,by unfold maxLen;omega,fun _=>⟨_,rfl,by rw[World.size_alloc];exact JQ _,jO w4 #[.int .i64 ff.mode,.slice Ab ff.bs.length cb] 71 _ rfl⟩⟩);clear h8 t0 t1 y0 y1 y4 m0 f0 f0' hmu hlk)|(gi_at_builtin;show wpListIn (Fence.wide.inRound l) 7 Tryz.prog _ _ (_::_) _ (w4.alloc _);refine jB 6 rfl _ _ 23 rfl 71 kf0 _ 2 32 Tryz.underlying23 aKV aKW aKX aKY rfl aV zS.out _ M _ rfl rfl (sV w4.heap.size 1 1) 1 _ rfl hrF.out oCl vQ aD ?_;intro v5 w5 as9 hz5;(obtain⟨A5,c5,e5,_⟩:=as9.gJ 6 rfl);subst e5;(have d0:=as9.bC 2 rfl 1);(have d1:=as9.bF 2 rfl 1);simp only[gA,gB,NW,JN,gC]at d0;(have GH:=Lh (as9.bS 2 rfl 1 (.slice A5 (M+1) c5)));clear as9 zS hrF y1' p1;(have n0:(w5.setCell ⟨bt,1,none⟩ (.slice A5 (M+1) c5)).cell? ⟨bt,0,none⟩=some (.slice An N cn):=GH.out.bC 2 rfl 0))|(gi_at_builtin;show wpListIn (Fence.wide.inRound l) 7 Tryz.prog _ _ (_::_) _ ((w5.setCell ⟨bt,1,none⟩ (.slice A5 (M+1) c5)).alloc _);go_loud (refine aeZ (ph:=x.path) (fi:=(M:Nat)) (mo:=0) (gb:=w5.heap.size) 5 rfl _ _ rfl GH.out rfl rfl rfl rfl (World.size_setCell ..).symm aD ?_);go_loud (intro v7 w7 qG;(obtain⟨A7,c7,e7,_⟩:=qG.gJ 5 rfl);subst e7;(have d0:w7.cell? ⟨bt,0,none⟩=some (.slice An N cn):=qG.bC 2 rfl 0);(have d1:w7.frozen? ⟨bt,0,none⟩=false:=qG.bF 2 rfl 0);(have hSe:=Lh (qG.bS 2 rfl 0 (.slice A7 (N+1) c7)));clear qG)))
  have h9:=(hSe.out.perm (as4 _ _ _ _ _ _ _ _ _ _ _ _)).drop 1;obtain⟨i1,i2,i3⟩:=as3 (fs:=fs) (V:=pre) (x:=x) aD hm;(have eA:mG (RS fs) x.file=⟨(ff.mode:Int),ff.bs⟩:=by unfold mG RS;rw[gH,kV,f4];rfl);refine⟨S1.base,.slice A7 (N+1) c7,.slice A5 (M+1) c5,vs++[.slice Ab ff.bs.length cb],by rw[<-h1];rfl,⟨h2.base,fun n hn=>?_⟩,?_,?_⟩
  ·exact Z19
  ·rw[i3,jL,jL,h3];rfl
  (have eN:cZ (fF (pre++[x]))=cZ (fF pre)++[aC x.path,.int .i64 (M:Nat),.int .i64 0]:=by rw[i2,ah4,hm0,hkM.out]);(have el:(fF (pre++[x])).length=N+1:=by rw[i2,jL,hN.out];rfl);(have eF:iE (fU (pre++[x]) fs) (vs++[.slice Ab ff.bs.length cb])=iE (fU pre fs) vs++[.int .i64 ff.mode,.slice Ab ff.bs.length cb]:=by rw[i3,aAZ h3,eA]);(have ef:(fU (pre++[x]) fs).length=M+1:=by rw[i3,jL,hM.out];rfl);(have ez:List.zipWith (fun v (f:TF)=>aI v f.bs) (vs++[.slice Ab ff.bs.length cb]) (fU (pre++[x]) fs)=List.zipWith (fun v (f:TF)=>aI v f.bs) vs (fU pre fs)++[aI (.slice Ab ff.bs.length cb) ff.bs]:=by rw[i3,List.zipWith_append h3,eA];rfl);unfold RZ lL;rw[eN,el,eF,ef,ez];exact h9
 rintro D xs Y1 Y2 W ⟨hp,rfl⟩ hS;subst hc;subst hR';obtain⟨S1,nv,fv,vs,h1,⟨h2,hsub⟩,h3,h4⟩:=hS;unfold RZ DY at h4;have h5:=h4.perm (anX _ _ _ _ _ _ _ _ _ _ _ _ _ _);have hS5:=Lh h5;have t0:=h5.bC 0 rfl 0;have t1:=h5.bC 0 rfl 1;have e0:=h5.bC 1 rfl 0;have r0:=h5.bF 2 rfl 0;have r1:=h5.bF 2 rfl 1;have r2:=h5.bF 3 rfl 0;simp only[gA,gB,gC]at t0 t1 e0;clear h4 h5 hSt hst hAx;have hcl:=Lh (as8 xs hp h3 (hS5.out.perm (aeY _ _ _ _ _ _ _ _ _ _ _ _)));clear as8;go_wp2_with(go_at_call 67;go_loud (refine hcl.out.mono ?_;rintro e w4 ⟨nv2,fv2,vs2,rfl,h6,h7⟩;(obtain⟨A8,c8,e8,_⟩:=h7.gJ 0 rfl);subst e8;(obtain⟨A9,c9,e9,_⟩:=h7.gJ 1 rfl);subst e9;(have qG:=Lh (h7.perm (aeY _ _ _ _ _ _ _ _ _ _ _ _).symm));clear h7;(have r0:w4.frozen? ⟨M5,0,none⟩=false:=qG.out.bF 2 rfl 0);(have r1:w4.frozen? ⟨M5,1,none⟩=false:=qG.out.bF 2 rfl 1);(have q0:w4.cell? ⟨M5,0,none⟩=some (.slice none 0 0):=qG.out.bC 2 rfl 0);(have q1:w4.cell? ⟨M5,1,none⟩=some (.slice none 0 0):=qG.out.bC 2 rfl 1);(have GH:=Lh ((qG.out.bS 2 rfl 0 (.slice A8 N'.length c8)).bS 2 rfl 1 (.slice A9 F'.length c9)));(have q2:((w4.setCell ⟨M5,0,none⟩ (.slice A8 N'.length c8)).setCell ⟨M5,1,none⟩ (.slice A9 F'.length c9)).cell? ⟨anW,0,none⟩=some (iV 0):=GH.out.bC 3 rfl 0);(have r2:((w4.setCell ⟨M5,0,none⟩ (.slice A8 N'.length c8)).setCell ⟨M5,1,none⟩ (.slice A9 F'.length c9)).frozen? ⟨anW,0,none⟩=false:=GH.out.bF 3 rfl 0);(have zS:=Lh (GH.out.bS 3 rfl 0 (.int .i64 0)))));refine⟨by simp,.inl ⟨_,_,rfl,run_takeDeferred (zS.out.adL 4 rfl),?_⟩⟩;have GH:=(zS.out.putObj 4 (.deferred none) rfl).perm (as5 _ _ _ _ _ _ _ _ _ _ _ _ _);refine⟨.tuple #[.agg #[.slice A8 N'.length c8,.slice A9 F'.length c9],iV 0],?_,_,_,vs2,S1,rfl,h6,h1,h2,GH.snd⟩;have g0:=(zS.out.putObj 4 (.deferred none) rfl).bC 2 rfl 0;have g1:=(zS.out.putObj 4 (.deferred none) rfl).bC 2 rfl 1;have g2:=(zS.out.putObj 4 (.deferred none) rfl).bC 3 rfl 0;simp at g0 g1 g2;simp[results,Tryz.f19,go_sem,g0,g1,g2]
end
end Go.Proofs.YtmjomdkleikgbaaGreat
namespace Go.Proofs.YtmjomdkleikgbaaGreat
open Go.RowKit
theorem ah6 (A B C:List aZ):(A++(B++C)).Perm (B++(A++C)):=by
 haveI:DecidableEq aZ:=fun a b=>Classical.propDecidable (a=b)
 rw[MM];intro a;simp only[TL];omega
section
variable {w0 w:World} {R:List aZ} {f q p:Nat} {S:VS} {ns:List TN} {fs:List FT} {nb names:Nat}
theorem ah7 {T:TR} (hS:RU T ns fs) (hl:∀n∈ns,n.path.length<=200) (l5:ns.length<=256) (hm2:mZ T.1 T.2) (hlo:iI T.1 T.2=0) (V:List TN) (hp:V.Perm ns):XP (fF V) (fU V fs) T.1 T.2:=by
 intro w0 w R nv fv vs hlen h;have hT:iF w nv fv (fF V) (fU V fs) vs:=NQ (X:=[]) hlen h;have as8:=ar4 hS hp;have h1:KU (fF V)=T.1:=congrArg Prod.fst as8;have h2:KV (fF V) (fU V fs)=T.2:=congrArg Prod.snd as8;have hsl:(fF V).length=ns.length:=by rw[SF];exact hp.length_eq
 have hfl:(fU V fs).length<=ns.length:=by unfold fU;rw[iM];have:=RO V;have:=hp.length_eq;omega
 have hsz:∀x∈fU V fs,x.size<=8192:=fun x hx=>by obtain⟨id,hid,rfl⟩:=List.mem_map.1 hx;obtain⟨n,hn,e,hf⟩:=yQ _ id hid;rw[<-e];exact(hS.good.file n (hp.mem_iff.1 hn) hf).2.1
 have aFO:∀x∈fF V,∃n∈ns,x.path=n.path/\x=lK (fA V) n:=fun x hx=>by obtain⟨n,hn,rfl⟩:=List.mem_map.1 hx;exact⟨n,hp.mem_iff.1 hn,FX _ _,rfl⟩
 have hm:mZ (fF V) (fU V fs):=⟨by omega,by omega,fun x hx=>by obtain⟨n,hn,e,_⟩:=aFO x hx;rw[e];have:=hl n hn;omega,fun x hx=>by have:=hsz x hx;omega⟩;have hbo:lV (fF V) (fU V fs)=false:=by unfold lV;rw[YG,YG,afS,afS,ajE];refine⟨⟨by omega,by omega⟩,fun x hx=>?_⟩;have:=hsz x hx;unfold KS;rw[tX];omega
 have hne:(fF V).Pairwise fun a b=>a.path≠b.path:=by unfold fF;rw[GJ];(refine(hp.symm.pairwise hS.good.good.ne fun {a b} h e=>h e.symm).imp fun {a b} h e=>h ?_);rw[FX,FX]at e;exact e
 have hfr:∀x∈fF V,x.file= -1\/(0<=x.file/\x.file<((fU V fs).length:Int)):=fun x hx=>by
  obtain⟨n,hn,rfl⟩:=List.mem_map.1 hx;have hn2:=hp.mem_iff.1 hn;by_cases hf:n.file<0
  ·left;unfold lK;rw[if_pos hf];rcases hS.good.good.file n hn2 with⟨e,_⟩|⟨e,_⟩
   ·exact e
   omega
  right;have hmem:=nC _ n hn hf;have hidx:=List.idxOf_lt_length_iff.2 hmem;unfold lK fU;rw[if_neg hf,iM];(show(0:Int)<=(((fA V).idxOf n.file:Nat):Int)/\(((fA V).idxOf n.file:Nat):Int)<_);omega
 refine(aeR hT hm hbo aD hne hfr (by rw[h1,h2];exact hm2) (by rw[h1,h2];exact hlo)).mono ?_;rintro e w' ⟨nv',fv',vs',rfl,h3,h4⟩;rw[h1,h2]at h4;rw[h2]at h3;refine⟨nv',fv',vs',rfl,h3,?_⟩;have h5:=h.join h4;have h6:Sep w0 w' (lL nv fv (fF V) (fU V fs) vs++(lL nv' fv' T.1 T.2 vs'++R)):=h5.perm (ah6 _ _ _);exact h6.snd
theorem SH {T:TR} (hS:RU T ns fs) (hL:gY S ns fs nb names) (hl:∀n∈ns,n.path.length<=200) (l5:ns.length<=256) (hm2:mZ T.1 T.2) (hlo:iI T.1 T.2=0) (h:Sep w0 w (bH f q p S::R)):
  Calls Tryz.prog 19 #[pV f] w fun e w'=>∃nv fv vs S',e= .returned (.tuple #[.agg #[nv,fv],iV 0])/\vs.length=T.2.length/\S'.base=S.base/\gY S' ns fs nb names/\Sep w0 w' (lL nv fv T.1 T.2 vs++(bH f q p S'::R)):=by
 obtain⟨g,dn,φ,hV⟩:=hL.iT.vt;exact as7 (ah7 hS hl l5 hm2 hlo) hL hV hS.good.good hl aD h
end
section
variable {w0 w:World} {R:List aZ} {f q p:Nat} {S:VS} {nb nm:Nat}
theorem anY {nv fv:Value} {ns:List TN} {F:List TF} {vs:List Value} {B I:Int} (hL:gY S [] [] nb nm) (hm:mZ ns F) (hlo:iI ns F=0) (hw:F3 nv fv ns F vs B I) (hBI:(0<=B/\B<=4000000/\mY nb nm<=4096)/\(0<=I/\I<=4000000/\nm<=1024)) (hno:mY nb nm<B\/(nm:Int)<I) (hT:∀W X,Sep w0 W (X++R)->iF W nv fv ns F vs) (h:Sep w0 w (bH f q p S::R)):
  Calls Tryz.prog 15 #[pV f,.agg #[nv,fv]] w fun e w'=>e= .returned (iV 27)/\∃S',gY S' [] [] nb nm/\Sep w0 w' (bH f q p S'::R):=by
 have hg1:(FloatKind.f64.format.order (fI B) (fI (mY nb nm))==some .gt)= !decide (B<=mY nb nm):=VX (by unfold bK;omega) (by unfold bK;omega);have hg2:(FloatKind.f64.format.order (fI I) (fI nm)==some .gt)= !decide (I<=nm):=VX (by unfold bK;omega) (by unfold bK;omega);obtain⟨A1,c1,rfl,_⟩:=(hT w [_] h).nodes.shape;obtain⟨A2,c2,rfl,_⟩:=(hT w [_] h).files.shape;have h0:Sep w0 _ (.box w.heap.size 25 #[.slice A1 ns.length c1,.slice A2 F.length c2]::bH f q p S::R):=h.bN 25 #[.slice A1 ns.length c1,.slice A2 F.length c2];have F4:=Lh (xR (hT _ [_,_] h0) hm.mm);rw[hlo]at F4;have hS0:=Lh h0;have hT':=Lh hT;clear h h0 hT;go_enter Tryz.func15,Tryz.ntmps15;by_cases hB:B<=mY nb nm
 focus
  have hI:¬I<=nm:=by omega
  rw[decide_eq_true hB]at hg1
  rw[decide_eq_false hI]at hg2
  simp only[abF,U7]at hg1 hg2
  clear hI
 rotate_left
 focus
  rw[decide_eq_false hB]at hg1
  simp only[U7]at hg1
  clear hg2
 all_goals
  clear hB hno
  go_wp2_with(first |(go_at_call 39;refine F4.out.mono ?_;rintro e w1 ⟨rfl,hb⟩;(have hS1:=Lh ((hS0.out.pure hb).perm (List.Perm.swap _ _ _)));clear hb hS0 F4;(obtain⟨b3,hb3⟩:∃x,x=w.heap.size:=⟨_,rfl⟩);(rw[<-hb3]at hS1 ⊢);clear hb3;(have hls:=Lh (ayX (path:=[]) hL bL hS1.out));unfold aC at hls)|(go_at_call 40;refine hls.out.mono ?_;rintro e w2 ⟨v,l,S1,rfl,hp,_,hL1,hS2⟩;(have e0:lsX [] []=0:=rfl);rw[e0];(obtain⟨Al,cl,el,_⟩:=hS2.gJ 0 rfl);subst el;(have hll:l.length=0:=by(rw[hp.length_eq];rfl));rw[hll]at hS2 ⊢;(have dX:=Lh (hS2.drop 1));clear hS2 hls hS1 hp e0 hll hL;(have t0:=dX.out.bC 1 rfl 0);(have t1:=dX.out.bC 1 rfl 1);simp only[gA,gB,gC]at t0 t1;(have hwt:=Lh (hw w2 (hT'.out _ [_,_] dX.out))))|(go_at_call 41;refine hwt.out.mono ?_;rintro e w3 ⟨rfl,hb⟩;(have kD:Hid (Sep w0 w3 (bH f q p S1:: .box b3 25 #[.slice A1 ns.length c1,.slice A2 F.length c2]::R)):=Lh (dX.out.pure hb));clear hb dX hwt;(have hrm:=Lh (ayV hL1 kD.out)))|(go_at_call 42;refine hrm.out.mono ?_;rintro e w4 ⟨rfl,rfl⟩;clear hrm;unfold iK))
  go_ret
  exact⟨rfl,S1,hL1,(kD.out.perm (List.Perm.swap _ _ _)).drop 1⟩
theorem ah8 :RU ([],[]) [] []:=FY (ns:=[]) (fs:=[]) ⟨by decide,by decide,fun f hf=>(by cases hf),fun f hf=>(by cases hf),rfl⟩
theorem ae0 :iI [] []=0:=by kernel_rfl
theorem ah9 (hL:gY S [] [] nb nm) (h:Sep w0 w (bH f q p S::R)):
  Calls Tryz.prog 19 #[pV f] w fun e w'=>∃A B c d S',e= .returned (.tuple #[.agg #[.slice A 0 c,.slice B 0 d],iV 0])/\gY S' [] [] nb nm/\S'.base=S.base/\Sep w0 w' (lL (.slice A 0 c) (.slice B 0 d) [] [] []++(bH f q p S'::R)):=by
 refine(SH ah8 hL (fun n hn=>absurd hn bL) aV ⟨by decide,by decide,fun n hn=>absurd hn bL,fun f hf=>absurd hf bL⟩ ae0 h).mono ?_;rintro e w' ⟨nv,fv,vs,S',rfl,h1,h2,h3,h4⟩;have h5:vs=[]:=List.length_eq_zero_iff.1 h1;subst h5;obtain⟨A,c,rfl,_⟩:=h4.gJ 0 rfl;obtain⟨B,d,rfl,_⟩:=h4.gJ 1 rfl;exact⟨A,B,c,d,S',rfl,h3,h2,h4⟩
end
def NR :List TN:=[⟨[97], -1,493⟩,⟨[97,47,120],0,0⟩,⟨[98],0,0⟩]
def UT :List TF:=[⟨420,[104,105]⟩]
section
variable {w0 w:World} {R:List aZ}
theorem Sep.aFP (h:Sep w0 w R) (e:TypeId) (sz n:Nat) (cs:Array Value) (hs:cs.size=n*sz) (hm:n<=maxLen):Sep w0 (w.alloc (.cells cs e)) (.sl e sz (sV w.heap.size n n) n cs.toList::R):=by have hown:=World.ownsRow_lit (base:=0) (e:=e) (size:=sz) w cs n (gI _) hm hs;exact Z32
theorem aw0 (o1 o2:Obj) (C:Array Value) (n c:Nat) (w:World):(convert 69 69 (sV (w.heap.size+1+1) n c)).run Tryz.prog (((w.alloc o1).alloc o2).alloc (.cells C 5))= .ok (sV (w.heap.size+1+1) n c) (((w.alloc o1).alloc o2).alloc (.cells C 5 (C.size,C.size+1))):=
 Joins.run_convert_bytes_const_at _ _ _ C n c _ (by simp[World.size_alloc]) Tryz.underlying69 Tryz.underlying5
def smX (g:Nat):List aZ:=[.sl 71 2 (sV (g+2) 1 1) 1 (iE UT [sV (g+1) 2 2]),.obj (g+1) (.cells ([104,105].map kT).toArray 5 (2,3)),.sl 68 3 (sV g 3 3) 3 (cZ NR)]
theorem sm_at {g:Nat} {W:World} {Y:List aZ} (h:Sep w0 W (Y++(smX g++R))):iF W (sV g 3 3) (sV (g+2) 1 1) NR UT [sV (g+1) 2 2]:=by
 have at_:∀k A,(smX g)[k]? =some A->(Y++(smX g++R))[Y.length+k]? =some A:=fun k A hk=>by exact Z38
 refine⟨rfl,h.rd _ (at_ 2 _ rfl),h.rd _ (at_ 0 _ rfl),fun k u f hu hf=>?_⟩;have hk:=(gF.1 hf).1;have hk0:k=0:=Nat.lt_one_iff.1 hk;subst hk0;cases hu;cases hf;have ht:jG w0 (.obj (g+1) (.cells (([104,105]:List UInt8).map kT).toArray 5 (2,3))::(.sl 68 3 (sV g 3 3) 3 (cZ NR)::R)) (sV (g+1) 2 2) [104,105]:=ad5 aV;have hb:BytesAt W (sV (g+1) 2 2) [104,105]:=ht W (Y++[.sl 71 2 (sV (g+2) 1 1) 1 (iE UT [sV (g+1) 2 2])]) (by rw[pJ];exact h);exact⟨_,hb,fun y hy=>(by obtain⟨x,_,rfl⟩:=List.mem_map.1 hy;rfl),rfl⟩
theorem aw1 (a b c x:aZ) (Y:List aZ):(a::b::c::x::Y).Perm (x::a::b::c::Y):=by
 haveI:DecidableEq aZ:=fun a b=>Classical.propDecidable (a=b)
 rw[MM];intro y;simp only[TP];omega
theorem aiA (h:Sep w0 w R):Calls Tryz.prog 30 #[] w fun e w'=>∃g,e= .returned (.agg #[sV g 3 3,sV (g+2) 1 1])/\Sep w0 w' (smX g++R):=by have hcv:=aw0;go_enter Tryz.func30,Tryz.ntmps30;go_wp2_with fail;have h1:=h.bN 25 #[sV (w.heap.size+1) 3 3,sV (w.heap.size+1+1+1) 1 1];have y0:=h1.bC 0 rfl 0;have h2:=h1.aFP 68 3 3 (cZ NR).toArray rfl aV;have h3:=h2.akE (.cells (([104,105]:List UInt8).map kT).toArray 5 (2,3));have h4:=h3.aFP 71 2 1 (iE UT [sV (w.heap.size+1+1) 2 2]).toArray rfl aV;simp only[World.size_alloc]at h2 h3 h4;have h5:=((h4.perm (aw1 _ _ _ _ _)).drop 1);refine bodyPost_ret (v:=.agg #[sV (w.heap.size+1) 3 3,sV (w.heap.size+1+1+1) 1 1]) ?_ rfl ⟨w.heap.size+1,rfl,h5⟩;simp[results,Tryz.f30,go_sem]
end
end Go.Proofs.YtmjomdkleikgbaaGreat
namespace Go.Proofs.YtmjomdkleikgbaaGreat
open Go.RowKit Go.Shelf
theorem anZ {w0 w:World} {R:List aZ} {nv fv:Value} (h:Sep w0 w R):
  Calls Tryz.prog 110 #[.agg #[nv,fv]] w fun e w'=>∃bb,e= .returned (.func (.func 175) #[] #[pV bb])/\Sep w0 w' (.box bb 25 #[nv,fv]::R):=by
 have h2:=Lh (h.bN 25 #[nv,fv]);have hmk:∀(fn:Fn) (first cap:Array Value) (w:World),(Instr.makeFunc fn first cap).run Tryz.prog w= .ok (.func fn first cap) w:=fun _ _ _ _=>rfl
 clear h;go_enter Tryz.func110,Tryz.ntmps110;go_wp2_with fail;go_ret;exact⟨_,rfl,h2.out⟩
def ae1 (x:TN):Value:=.agg #[aC x.path,iV x.file,iV x.mode]
theorem Shared.pure {σ:Type} {St:σ->List aZ->World->Prop} (hS:Shared St) {s:σ} {Y:List aZ} {W W':World} (h:St s Y W) (hb:RowKit.Below W.heap.size W W'):St s Y W':=by obtain⟨w0,R,h1,h2⟩:=hS _ _ _ h;exact h2 _ _ (h1.pure hb)
theorem aiB {St:List TN->List aZ->World->Prop} (hsh:Shared St) {nv fv:Value} {ns:List TN} {F:List TF} {vs:List Value} (hTr:∀pre Y W,St pre Y W->iF W nv fv ns F vs) (hm:mZ ns F) (hlo:iI ns F=0)
  (l bb n:Nat) (Z:List aZ) (W:World)
  (hY:∀pre x Y W1,pre=ns.take pre.length->ns[pre.length]? =some x->St pre (Y++Z) W1->YieldAt Fence.wide (n-1) Tryz.prog l #[ae1 x] W1 fun e W'=>e= .returned (.bool true)/\St (pre++[x]) (Y++Z) W')
  (h0:St [] (.box bb 25 #[nv,fv]::Z) W):
  CallsIn Fence.wide n Tryz.prog 175 #[.func (.yield l) #[] #[],pV bb] W fun e W'=>(∃v,e= .returned v)/\St ns (.box bb 25 #[nv,fv]::Z) W':=by
 have hT0:=hTr _ _ _ h0;obtain⟨A1,c1,rfl,_⟩:=hT0.nodes.shape;obtain⟨A2,c2,rfl,_⟩:=hT0.files.shape;have F4:=Lh (xR hT0 hm.mm);rw[hlo]at F4;obtain⟨w9,R9,h6,h7⟩:=hsh _ _ _ h0;have t0:=h6.bC 0 rfl 0;have t1:=h6.bC 0 rfl 1;simp only[gA,gB,gC]at t0 t1;have hS0:=Lh h0;have aw2:=Lh hTr;have hY':=Lh hY;have b1:(ns.length:Int)<=300:=by have:=hm.few;omega
 clear h0 h6 h7 hT0 hTr hY;refine callsIn_of_wp Tryz.func175 rfl trivial ?_ rfl;simp only[Tryz.ntmps175,kE,kR,rT,Nat.reduceAdd,Nat.reduceSub,zL,zM,zO,zN,nG,kW]
 gi_wp2_with (refine⟨trivial,(fun h=>by cases h),?_⟩;gi_at_call 39;refine(callsIn_wide.2 F4.out).mono ?_;rintro e w1 ⟨rfl,hb⟩;(have hS1:=Lh (hsh.pure hS0.out hb));(have t0:=hb.cell (p:=⟨bb,0,none⟩) (World.block_lt_of_cell? _ _ t0)|>.trans t0);clear hb hS0 F4)
 gi_loopw [11] (fun iv wr=>∃i:Nat,i<=ns.length/\iv=iV i/\Hid (St (ns.take i) (.box bb 25 #[.slice A1 ns.length c1,.slice A2 F.length c2]::Z) wr)) (fun iv _=>ns.length-(intOf iv).toNat)
 case atStart=>exact⟨0,gI _,rfl,hS1⟩
 obtain⟨i,hi,rfl,hS⟩:=hrel;have q0:(0:Int)<=(i:Int):=by omega
 by_cases hlt:i<ns.length
 ·(have q1:(i:Int)<(ns.length:Int):=by omega);obtain⟨n0,he⟩:∃x,ns[i]? =some x:=⟨_,gE hlt⟩;have hT:=aw2.out _ _ _ hS.out;obtain⟨g,o,cc,e,k1,k2,_,hcell⟩:=hT.nodes.place aD aV;cases e;have x0:=(hcell _ (RowKit.Below.refl _ _) (i*3+0) aD).trans (bR he 0 aD);have x1:=(hcell _ (RowKit.Below.refl _ _) (i*3+1) aD).trans (bR he 1 aD);have x2:=(hcell _ (RowKit.Below.refl _ _) (i*3+2) aD).trans (bR he 2 aD);simp only[GG,gB,gC,<-tC,tF]at x0 x1 x2;have hS2:=hsh.new hS.out (.cells #[aC n0.path,iV n0.file,iV n0.mode] 68);(have hl:(ns.take i).length=i:=by rw[qL];omega);obtain⟨fn,tmps,assign,body,hy,hR⟩:=hY'.out (ns.take i) n0 [.obj wr.heap.size (.cells #[aC n0.path,iV n0.file,iV n0.mode] 68),.box bb 25 #[.slice (some ⟨g,o,none⟩) ns.length c1,.slice A2 F.length c2]] _ (by rw[hl]) (by rw[hl];exact he) hS2;replace hR:=Lh hR;have htk:Hid (ns.take i++[n0]=ns.take (i+1)):=Lh (by rw[pE,he];rfl);clear hS hS2 hcell hT hY' hl he aw2 t0 t1;unfold ae1 aC at*
  gi_wp2
  refine⟨(fun h=>by cases h),?_⟩;refine hR.out.mono ?_;rintro e W3 ⟨rfl,dX⟩;rw[htk.out]at dX;have kD:=Lh (hsh.drop 1 dX);clear dX hR hy
  gi_wp2
  go_roundw
  case rel=>exact⟨i+1,by omega,by go_num,kD⟩
  case measure=>(simp[intOf];omega)
 have q2:¬(i:Int)<(ns.length:Int):=by omega
 have hS':=hS.out;rw[qH aD]at hS';replace hS':=Lh hS';clear hS
 gi_wp2
 go_end0
 exact⟨⟨_,rfl⟩,hS'.out⟩
end Go.Proofs.YtmjomdkleikgbaaGreat
namespace Go.Proofs.YtmjomdkleikgbaaGreat
open Go.RowKit
theorem an0 {L L':List (Lit×Value)} (h:L.Perm L') (k:Lit):(nI L k).Perm (nI L' k):=by unfold nI;exact h.filter _
theorem XQ {L:List (Lit×Value)} {l:List (List UInt8)} {E:List UInt8->Value} (h:L.Perm (l.map fun q=>(Lit.string q,E q))) (hu:l.Nodup) {p:List UInt8} (v:Value):
  (qK L (.string p) v).Perm (((l.filter fun q=>decide (q≠p)).map fun q=>(Lit.string q,E q))++[(.string p,v)]):=by
 unfold qK;refine((an0 h _).trans ?_).append_right _;have e:nI (l.map fun q=>(Lit.string q,E q)) (.string p)=(l.filter fun q=>decide (q≠p)).map fun q=>(Lit.string q,E q):=by
  unfold nI;rw[List.filter_map];congr 1;apply List.filter_congr;intro q hq;by_cases e:q=p
  ·subst e;have h1:=vI (show WideAt.IsKeyLit (.string q)from trivial);simp only[Function.comp];rw[h1];simp
  have h1:¬(Lit.string q).sameKey (.string p)=true:=lD (fun e2=>e (by cases e2;rfl));simp only[Function.comp];rw[Bool.eq_false_iff.2 h1];simp[e]
 rw[e]
def mH (V:List TN):List (List UInt8):=[]::(V.filter fun n=>decide (n.file= -1)).map (·.path)
def nJ (V:List TN) (p:List UInt8):Nat:=(V.filter fun n=>decide (aW n.path=p)).length
def vJ (V:List TN) (p:List UInt8):Value:=.int .i64 (nJ V p:Nat)
def zK (V:List TN) (L:List (Lit×Value)):Prop:=L.Perm ((mH V).map fun q=>(Lit.string q,vJ V q))
theorem KY (V:List TN) (x:TN) (p:List UInt8):nJ (V++[x]) p=nJ V p+(if aW x.path=p then 1 else 0):=by unfold nJ;rw[E9,jL];by_cases h:aW x.path=p<;>simp[h]
theorem KZ (V:List TN) (x:TN):mH (V++[x])=mH V++(if x.file= -1 then [x.path]else []):=by unfold mH;rw[E9,mV];by_cases h:x.file= -1<;>simp[h]
section
variable {V:List TN} {L:List (Lit×Value)} {x:TN}
theorem zK.get (h:zK V L) (hK:mU L) {p:List UInt8} (hp:p∈mH V):getM L (.string p)=some (vJ V p):=
 xQ hK (h.mem_iff.2 (List.mem_map.2 ⟨p,hp,rfl⟩))
theorem an1 {l:List (List UInt8)} (hu:l.Nodup) {p:List UInt8} (hp:p∈l):((l.filter fun q=>decide (q≠p))++[p]).Perm l:=by
 rw[MM];intro a;rw[TL];by_cases e:a=p
 ·subst e;(have h1:List.count a (l.filter fun q=>decide (q≠a))=0:=List.count_eq_zero.2 fun h=>by have:=(List.mem_filter.1 h).2;simp at this);(have h2:List.count a l=1:=by have h3:=List.nodup_iff_count.1 hu a;have h4:=List.count_pos_iff.2 hp;omega);rw[h1,h2];simp
 have h1:List.count a [p]=0:=List.count_eq_zero.2 (by simpa using e);rw[h1,tF,List.count_filter (by simpa using e)]
theorem zK.bump (h:zK V L) (hu:(mH V).Nodup) (hp:aW x.path∈mH V):(qK L (.string (aW x.path)) (.int .i64 ((nJ V (aW x.path):Int)+1))).Perm ((mH V).map fun q=>(Lit.string q,vJ (V++[x]) q)):=by
 refine(XQ h hu _).trans ?_;refine List.Perm.trans ?_ ((an1 hu hp).map _);rw[mV,MN];have e1:vJ (V++[x]) (aW x.path)= .int .i64 ((nJ V (aW x.path):Int)+1):=by unfold vJ;rw[KY,if_pos rfl];rfl
 have e2:((mH V).filter fun q=>decide (q≠aW x.path)).map (fun q=>(Lit.string q,vJ V q))=((mH V).filter fun q=>decide (q≠aW x.path)).map fun q=>(Lit.string q,vJ (V++[x]) q):=by apply uH;intro q hq;have h1:=(List.mem_filter.1 hq).2;rw[tX]at h1;unfold vJ;rw[KY,if_neg (fun e=>h1 e.symm),tF]
 rw[e1,e2]
theorem zK.file (h:zK V L) (hu:(mH V).Nodup) (hp:aW x.path∈mH V) (hf:x.file≠ -1):zK (V++[x]) (qK L (.string (aW x.path)) (.int .i64 ((nJ V (aW x.path):Int)+1))):=by have h1:=h.bump hu hp;unfold zK;rw[KZ,if_neg hf,yX44];exact h1
theorem zK.dir (h:zK V L) (hu:(mH V).Nodup) (hp:aW x.path∈mH V) (hf:x.file= -1) (hn:x.path∉mH V) (hz:nJ (V++[x]) x.path=0):zK (V++[x]) (qK (qK L (.string (aW x.path)) (.int .i64 ((nJ V (aW x.path):Int)+1))) (.string x.path) (.int .i64 0)):=by
 have h1:=h.bump hu hp;refine(XQ h1 hu _).trans ?_;have e1:((mH V).filter fun q=>decide (q≠x.path))=mH V:=EM.2 fun q hq=>by rw[tX];exact fun e=>hn (e▸hq)
 have e2:vJ (V++[x]) x.path=iV 0:=by unfold vJ;rw[hz];rfl
 rw[e1,KZ,if_pos hf,mV,MN,e2]
end
theorem atA {V:List TN} (hup:∀n∈V,aW n.path∈mH V) {p:List UInt8} (hp:p∉mH V):nJ V p=0:=by unfold nJ;rw[List.length_eq_zero_iff,ai3];intro n hn;rw[tX];exact fun e=>hp (e▸hup n hn)
section
variable {ns:List TN} {F:List TF}
theorem aiC {V:List TN} (h:zJ V):(mH V).Nodup:=by
 unfold mH;rw[wV];refine⟨fun hm=>?_,?_⟩
 ·obtain⟨n,hn,e⟩:=List.mem_map.1 hm;exact nD (h.valid n (List.mem_filter.1 hn).1) e
 rw[List.Nodup,GJ];exact h.ne.filter _
theorem atB {V:List TN} (h:zJ V):∀n∈V,aW n.path∈mH V:=fun n hn=>by
 rcases h.up n hn with e|⟨m,hm,e,hf⟩
 ·rw[e];exact nE ..
 rw[<-e];exact vK _ (List.mem_map.2 ⟨m,List.mem_filter.2 ⟨hm,by simpa using hf⟩,rfl⟩)
structure aFQ (V:List TN) (x:TN):Prop where
 nodup:(mH V).Nodup
 up:aW x.path∈mH V
 no:x.path∉mH V
 zero:nJ (V++[x]) x.path=0
theorem aA0 (ho:fT ns F) {i:Nat} {x:TN} (hx:ns[i]? =some x):aFQ (ns.take i) x:=by
 have htk:ns.take (i+1)=ns.take i++[x]:=by rw[pE,hx];rfl
 have h1:=xU ho i;have h2:=xU ho (i+1);rw[htk]at h2;have hv:=h2.valid x bL;have hne:aW x.path≠x.path:=fun e=>by have h3:=BU hv;rw[e,mD]at h3;cases h3
 have hno:x.path∉mH (ns.take i):=fun hm=>by
  unfold mH at hm;rcases kC.1 hm with e|hm
  ·exact nD hv e
  obtain⟨m,hm1,e⟩:=List.mem_map.1 hm;exact(OE.1 h2.ne).2.2 m (List.mem_filter.1 hm1).1 x bL e
 refine⟨aiC h1,?_,hno,?_⟩
 ·have h3:=atB h2 x bL;rw[KZ]at h3;rcases iN.1 h3 with h3|h3
  ·exact h3
  exfalso;split at h3
  ·exact hne (sW.1 h3)
  cases h3
 rw[KY,if_neg hne,atA (atB h1) hno]
end
end Go.Proofs.YtmjomdkleikgbaaGreat
