/- Parts. -/
import Derived.Test.YtmjomdkleikgbaaGreatJ40
set_option linter.unusedVariables false
set_option linter.unusedSimpArgs false
set_option maxRecDepth 100000
set_option maxHeartbeats 20000000
namespace Go.Proofs.YtmjomdkleikgbaaGreat
open Go.RowKit Go.Shelf
attribute [local go_sem] Oper.semAt_some
def aiI (w:World) (ns:List TN) (b1 b5 bk:Nat) (nv fv:Value) (V:List TN) (Y:List aZ) (W:World):Prop:=
 ∃L,zK V L/\V=ns.take V.length/\Sep w W (Y++[.box b5 157 #[.map (some bk)],mO 9 bk L,.box b1 25 #[nv,fv]])
theorem yV {w:World} {ns:List TN} {b1 b5 bk:Nat} {nv fv:Value}:Shared (aiI w ns b1 b5 bk nv fv):=by rintro V Y W ⟨L,h1,h2,h3⟩;exact⟨w,_,h3,fun Y' W' h=>⟨L,h1,h2,h⟩⟩
theorem Z31 {P:Prop} (h:P:=by
 haveI:DecidableEq aZ:=fun a b=>Classical.propDecidable (a=b)
 rw[MM];intro x;simp only[TL,TP,kW,U8];omega):P:=h
theorem aA6 (D bb b5 g b1:aZ) (Y:List aZ):((D::([bb]++Y))++[b5,g,b1]).Perm (g::b5::b1::D::bb::Y):=by exact Z31
theorem aiJ :(Tryz.prog.info? 53).map (fun i=>(i.zero,i.size,i.bytes))=some (some (.complex .f64 0 0),1,16):=by kernel_rfl
theorem left_step {left L:List (Lit×Value)} (hs:left.Sublist L) (hK:mU L) {kl:Lit} {v:Value} (hm:(kl,v)∈left):left.Perm ((kl,v)::nI left kl):=by
 have hKl:=hK.sub hs;obtain⟨a,b,rfl⟩:=ai9 hm;have hne:=hKl.ne;rw[OE,List.pairwise_cons]at hne;have ha:nI a kl=a:=EM.2 fun y hy=>by have h1:=lD (hne.2.2 y hy (kl,v) bL);simpa using h1
 have hb:nI b kl=b:=EM.2 fun y hy=>by have h1:=lD (fun e=>hne.2.1.1 y hy e.symm);simpa using h1
 have hk:=hKl.lit (kl,v) bL;have e:nI (a++(kl,v)::b) kl=a++b:=by unfold nI at ha hb ⊢;rw[E9,xY,ha,hb];have h1:=vI hk;simp only at h1;rw[h1];rfl
 rw[e];exact lZ
theorem NT (V:List TN):(mH V).length<=V.length+1:=by unfold mH;rw[kR,iM];have:=NV (fun n:TN=>decide (n.file= -1)) V;omega
theorem XZ {ns V:List TN} {x:TN} (h:V=ns.take V.length) (hx:ns[V.length]? =some x):V++[x]=ns.take (V++[x]).length:=by rw[jL,oK,pE,hx,<-h];rfl
theorem aiK (a b c d:aZ) (Y:List aZ):((a::Y)++[b,c,d]).Perm (a::b::c::d::Y):=by exact Z31
theorem aA7 (a b:aZ) (Y:List aZ):(a::b::Y).Perm (b::a::Y):=List.Perm.swap _ _ _
theorem axC {E:List UInt8->Value} {qs l:List (List UInt8)} (h:(([]:List (Lit×Value))++qs.map fun q=>(Lit.string q,E q)).Perm (l.map fun q=>(Lit.string q,E q))):qs.Perm l:=by
 rw[nG]at h;have h2:=h.filterMap fun x:Lit×Value=>match x.1 with
  | .string q=>some q
  |_=>none
 rw[List.filterMap_map,List.filterMap_map]at h2;have e:∀l:List (List UInt8),l.filterMap ((fun x:Lit×Value=>match x.1 with
  | .string q=>some q
  |_=>none)∘fun q=>(Lit.string q,E q))=l:=fun l=>by
  conv=>rhs;rw[<-List.filterMap_some (l:=l)]
  rfl
 rwa [e,e]at h2
def aFU (nv fv:Value) (b1 b5 bk bb:Nat) (v7 v21:Value):Act:= {tmps:=#[.agg #[nv,fv],pV b1,.complex .f64 0 0,iV 0,iV 0,pV b5,.slice none 0 0,v7,undef,undef,undef,undef,.agg #[nv,fv],iV 0,iV 0,.bool false,undef,.map (some bk),.map (some bk),.agg #[nv,fv],.func (.func 175) #[] #[pV bb],v21,undef,undef,undef,undef,undef,undef,undef,undef,undef,undef,undef,undef,undef,undef,undef,undef,undef,undef,undef,undef,undef,undef,undef,undef,undef,undef,undef,undef,undef,undef,undef,undef,undef,undef,undef,undef,undef,undef,undef,undef,undef,undef,undef,undef],defers:=[]}
theorem SV {w:World} {nv fv:Value} {ns:List TN} {F:List TF} {vs:List Value} (h:iF w nv fv ns F vs) (hm:mZ ns F) (ho:fT ns F) (hlo:iI ns F=0):
  Calls Tryz.prog 41 #[.agg #[nv,fv]] w fun e w'=>e= .returned (.tuple #[iK (lJ ns (jJ F)) (jY ns),iV 0])/\RowKit.Below w.heap.size w w':=by
 have hmm:= @run_makeMap Tryz.prog;obtain⟨A1,c1,rfl,_⟩:=h.nodes.shape;obtain⟨A2,c2,rfl,_⟩:=h.files.shape;have h0:=(Sep.nil w).bN 25 #[.slice A1 ns.length c1,.slice A2 F.length c2];have F4:=Lh (xR (h.below h0.below) hm.mm);rw[hlo]at F4;have hS0:=Lh h0;have h':=Lh h;have ho':=Lh ho;clear h h0 ho;refine(callsIn_wide (n:=9)).1 ?_;refine callsIn_of_wp_marks Tryz.func41 rfl trivial ?_ rfl;simp only[Tryz.ntmps41,kE,kR,rT,Nat.reduceAdd,Nat.reduceSub,zL,zM,zO,zN,nG,kW];rw[wpIn_wide];go_wp2_with(first |(go_at_call 39;refine F4.out.mono ?_;rintro e w1 ⟨rfl,hb⟩;(have hS1:=(hS0.out.pure hb).KC 9);clear hb hS0 F4;(obtain⟨w2,hmu,hS2⟩:=hS1.mE 0 rfl fC Tryz.underlying157 (by unfold maxLen;simp) (v:=.int .i64 0) (eT [] bL));unfold aC at hmu;(have dX:=Lh (hS2.bN 157 #[.map (some w1.heap.size)]));clear hS1 hS2;(have z0:(w2.alloc (.cells #[.map (some w1.heap.size)] 157)).cell? ⟨w.heap.size,0,none⟩=some (.slice A1 ns.length c1):=dX.out.bC 2 rfl 0);(have z1:(w2.alloc (.cells #[.map (some w1.heap.size)] 157)).cell? ⟨w.heap.size,1,none⟩=some (.slice A2 F.length c2):=dX.out.bC 2 rfl 1);(have hnd:=Lh (anZ (nv:=.slice A1 ns.length c1) (fv:=.slice A2 F.length c2) dX.out)))|(go_at_call 110;refine hnd.out.mono ?_;rintro e w3 ⟨bb,rfl,kD⟩;(replace kD:=Lh kD);clear hnd dX z0 z1));obtain⟨b1,hb1⟩:∃x,x=w.heap.size:=⟨_,rfl⟩;rw[<-hb1]at kD ⊢;obtain⟨bk,hbk⟩:∃x,x=w1.heap.size:=⟨_,rfl⟩;rw[<-hbk]at kD ⊢;obtain⟨b5,hb5⟩:∃x,x=w2.heap.size:=⟨_,rfl⟩;rw[<-hb5]at kD ⊢;clear hb1 hbk hb5 hmu;have hst:Hid (aiI w ns b1 b5 bk (.slice A1 ns.length c1) (.slice A2 F.length c2) [] [.box bb 25 #[.slice A1 ns.length c1,.slice A2 F.length c2]] w3):=Lh ⟨_,EJ _,rfl,kD.out⟩;clear kD;obtain⟨nv,hnv⟩:∃nv,nv=Value.slice A1 ns.length c1:=⟨_,rfl⟩;obtain⟨fv,hfv⟩:∃fv,fv=Value.slice A2 F.length c2:=⟨_,rfl⟩;rw[<-hnv,<-hfv]at hst h' ⊢;clear hnv hfv;have hTr:∀pre Y W,aiI w ns b1 b5 bk nv fv pre Y W->iF W nv fv ns F vs:=fun pre Y W ⟨L,_,_,hS⟩=>h'.out.below hS.below
 have aw2:=Lh hTr;clear hTr;have hAx:∀pre x,Shared (fun(a1:Act) (Y:List aZ) (W:World)=>∃bs,a1=aFU nv fv b1 b5 bk bb (pV bs) (ae1 x)/\aiI w ns b1 b5 bk nv fv pre (.box bs 68 #[aC x.path,iV x.file,iV x.mode]::Y) W):=fun pre x=>by rintro a1 Y W ⟨bs,h1,h2⟩;obtain⟨wa,Ra,h3,h4⟩:=yV _ _ _ h2;exact Z81
 refine wpIn_wide.1 (vG (F:=Fence.wide) (n:=9) rfl aV (gf:=175) (lb:=#[pV bb]) rfl trivial (enters_of Tryz.func175 fH rfl)
  (encs:=fun x:TN=>#[ae1 x]) (fun _=>rfl) (aiI w ns b1 b5 bk nv fv) yV [.box bb 25 #[nv,fv]] hst.out (fun pre x=>pre=ns.take pre.length/\ns[pre.length]? =some x) (fun xs Y1=>xs=ns/\Y1=[.box bb 25 #[nv,fv]])
  ?seq _ hAx ?assign ?body ?done)
 case seq=>intro l Z W hY h0;refine(aiB yV aw2.out hm hlo l bb (9-1) Z W (fun pre x Y W1 hx hp h=>hY pre x Y W1 ⟨hx,hp⟩ h) h0).mono ?_;rintro e W' ⟨h1,h3⟩;exact⟨h1,ns,_,⟨rfl,rfl⟩,h3⟩
 case assign=>
  intro l pre x Y W K hx hS hK;have hS2:=yV.new hS (.cells #[aC x.path,iV x.file,iV x.mode] 68);have hK2:=Lh (fun a1 (e:a1=_)=>hK a1 _ ⟨W.heap.size,e,hS2⟩);clear hK hS2 hS hst hAx;unfold ae1 aC at*
  gi_wp2
  exact hK2.out _ rfl
 case body=>
  rintro l pre x a1 Y W ⟨hx,hpl⟩ ⟨bs,e1,hA⟩;unfold aFU at e1;subst e1;obtain⟨L,hk,hpre,h4⟩:=hA;have h5:Sep w W (.box bs 68 #[aC x.path,iV x.file,iV x.mode]:: .box b5 157 #[.map (some bk)]::mO 9 bk L:: .box b1 25 #[nv,fv]::Y):=h4.perm (aiK _ _ _ _ _);clear h4;have hnx:=aA0 ho'.out hpl;have hpx:pre=ns.take pre.length:=hx;rw[<-hpx]at hnx;have hxp:x.path.length<=1048576:=dL (ho'.out.mem (gG hpl)).1;have aK0:(aW x.path).length<=1048576:=by
   unfold aW;split
   ·rw[qL];omega
   simp
  have hX:=h5.drew;have UR:=h5.tK 2 rfl;have hE0:=And.intro (hX.bC 1 rfl 0) (hX.bC 0 rfl 0);simp only[gA,gB]at hE0;have J9:=Lh (R3 (p:=x.path) aD W.drew);have hget:=hk.get UR hnx.up;obtain⟨pp,hpp⟩:∃pp,pp=aW x.path:=⟨_,rfl⟩;rw[<-hpp]at J9 hget aK0;have hX':=Lh hX;replace hpp:=Lh hpp;(have hLl:L.length<maxLen:=by have h1:=hk.length_eq;rw[iM]at h1;have h2:=NT pre;have h3:pre.length<ns.length:=(gF.1 hpl).1;have:=hm.few;unfold maxLen;omega);(have hcb:(nJ pre pp:Int)<=300:=by have h1:nJ pre pp<=pre.length:=NV ..;have h3:pre.length<ns.length:=(gF.1 hpl).1;have:=hm.few;omega);(have hc0:(0:Int)<=(nJ pre pp:Int):=by omega);(have hwr:IntKind.i64.wrap ((nJ pre pp:Int)+1)=(nJ pre pp:Int)+1:=by simp[IntKind.wrap,IntKind.bits,IntKind.signed];omega);replace hLl:=Lh hLl;clear h5 hX hst hAx hx hpre;replace hpx:=Lh hpx;replace hpl:=Lh hpl;replace hk:=Lh hk;replace hget:=Lh hget;replace hnx:=Lh hnx;replace UR:=Lh UR
  gi_wp2
  refine UW (S:=fun w'=>w'.cell? ⟨b5,0,none⟩=some (.map (some bk))/\w'.cell? ⟨bs,0,none⟩=some (aC x.path)) 6 fH (fun hlo=>by obtain⟨a,w,h⟩:=hlo;exact absurd h.1 bL) (atM fH) ?_;simp only[kE,kR,rT,Nat.reduceAdd];refine aA 0 hE0 ?_;refine aA 1 hE0 ?_;refine aA 2 hE0 ?_;(refine bI 3 fun K hK=>?_);go_simp;go_at_call 105;refine J9.out.mono ?_;rintro e w4 ⟨rfl,hb⟩;have nM:=hX'.out.pure hb;have HY:w4.cell? ⟨b5,0,none⟩=some (.map (some bk))/\w4.cell? ⟨bs,0,none⟩=some (aC x.path):=⟨nM.bC 1 rfl 0,nM.bC 0 rfl 0⟩;have hlk:=nM.Y8 2 rfl fC Tryz.underlying157 (o8 w4) (eT pp vQ);rw[hget.out]at hlk;simp only[JP]at hlk;unfold vJ at hlk;have aaF:=Lh nM;clear nM hb J9 hX';dsimp only;refine hK _ _ (fun _=>HY) ?_;clear hK K;(try simp only[Act.put,gD]);refine bB 4 (fun _=>HY) ?_;refine bB 5 (fun _=>HY) ?_;obtain⟨w6,hmu,UN⟩:=aaF.out.mE 2 rfl fC Tryz.underlying157 hLl.out (v:=.int .i64 ((nJ pre pp:Int)+1)) (eT pp vQ);have MZ:=Lh UN;clear UN aaF hlk hE0;refine bB 6 (fun h=>absurd rfl h) ?_;refine aQ fH ?_ _;have y1:w6.cell? ⟨bs,1,none⟩=some (iV x.file):=MZ.out.bC 0 rfl 1;clear hmu HY;by_cases hf:x.file= -1
  ·have hbp:=hk.out.bump hnx.out.nodup hnx.out.up;rw[<-hpp.out]at hbp;(have hgn:getM (qK L (.string pp) (.int .i64 ((nJ pre pp:Int)+1))) (.string x.path)=none:=getM_none (show WideAt.IsKeyLit (.string x.path)from trivial) fun y hy e=>by obtain⟨q,hq,rfl⟩:=List.mem_map.1 (hbp.mem_iff.1 hy);simp only[Lit.string.injEq]at e;exact hnx.out.no (e▸hq));have y5:w6.cell? ⟨b5,0,none⟩=some (.map (some bk)):=MZ.out.bC 1 rfl 0;have y0:w6.cell? ⟨bs,0,none⟩=some (aC x.path):=MZ.out.bC 0 rfl 0;have hlk2:=MZ.out.Y8 2 rfl fC Tryz.underlying157 (o8 w6) (eT x.path vQ);rw[hgn]at hlk2;simp only[NZ]at hlk2;(have hL2:(qK L (.string pp) (.int .i64 ((nJ pre pp:Int)+1))).length<maxLen:=by have h1:=hbp.length_eq;rw[iM]at h1;have h2:=NT pre;have h3:pre.length<ns.length:=(gF.1 hpl.out).1;have:=hm.few;unfold maxLen;omega);obtain⟨w7,aRS,hX7⟩:=MZ.out.mE 2 rfl fC Tryz.underlying157 hL2 (v:=.int .i64 0) (eT x.path vQ);have hnew:=hk.out.dir hnx.out.nodup hnx.out.up hf hnx.out.no hnx.out.zero;rw[<-hpp.out]at hnew;have hX8:aiI w ns b1 b5 bk nv fv (pre++[x]) Y w7:=⟨_,hnew,XZ hpx.out hpl.out,((hX7.perm (aiK _ _ _ _ _).symm).drop 1)⟩;replace hX8:=Lh hX8;clear MZ hX7 hnew hbp hgn hL2;rw[hf]at y1
   gi_wp2
   first |exact hX8.out|exact⟨rfl,hX8.out⟩
  (have hbe:(x.file== -1)=false:=by rw[jM];exact hf);have hnew:=hk.out.file hnx.out.nodup hnx.out.up hf;rw[<-hpp.out]at hnew;have hX7:aiI w ns b1 b5 bk nv fv (pre++[x]) Y w6:=⟨_,hnew,XZ hpx.out hpl.out,((MZ.out.perm (aiK _ _ _ _ _).symm).drop 1)⟩;replace hX7:=Lh hX7;clear MZ hnew
  gi_wp2
  first |exact hX7.out|exact⟨rfl,hX7.out⟩
 rintro D xs Y1 Y2 W ⟨rfl,rfl⟩ hS;obtain⟨L,hk,_,h4⟩:=hS;have h5:Sep w W (mO 9 bk L:: .box b5 157 #[.map (some bk)]:: .box b1 25 #[nv,fv]:: .obj D (.deferred (some [])):: .box bb 25 #[nv,fv]::Y2):=h4.perm (aA6 _ _ _ _ _ _);clear h4;have UR:=h5.tK 0 rfl;have y5:=h5.bC 1 rfl 0;simp only[gA,gB]at y5;obtain⟨w4,hrg,hS1,hsz⟩:=h5.O8 0 rfl fC Tryz.underlying157;have hS2:=Lh (hS1.iO 53 1);clear h5 hS1 hst hAx hsz;go_wp2_with fail;obtain⟨i0,JY,hz0,hz1,hz2⟩:=info_parts aiJ;have hmp:(mH xs).length<=300:=by have h2:=NT xs;have:=ho'.out.few;omega
 go_loopg[6] L.length (fun g v6 wr=>∃(left:List (Lit×Value)) (qs:List (List UInt8)),Hid (g=left.length)/\Hid ((left++qs.map fun q=>(Lit.string q,vJ xs q)).Perm ((mH xs).map fun q=>(Lit.string q,vJ xs q)))/\Hid (left.Sublist L)/\Sep w wr (.sl 53 1 v6 qs.length (qs.map fun q=>cv (eD 1 (nJ xs q),1))::vV 9 bk W.heap.size L.length L left:: .box b5 157 #[.map (some bk)]:: .box b1 25 #[nv,fv]:: .obj D (.deferred (some [])):: .box bb 25 #[nv,fv]::Y2))
 case atStart=>exact⟨L,[],Lh rfl,Lh (by rw[yX,yX44];exact hk),Lh (List.Sublist.refl _),hS2.out⟩
 obtain⟨left,qs,hg,hp,hsub,hS⟩:=hrel;clear hS2;rcases hS.LQ 1 rfl fC 0 with⟨hnil,hnx⟩|⟨key,v,kl,w3,hkey,hmem,hnx,dX,ag4,hen⟩
 ·subst hnil;have hq:=axC hp.out;clear hp;obtain⟨A2,c2,e2,_⟩:=h'.out.files.shape;subst e2;have y1:=hS.bC 3 rfl 1;simp only[gA,gB,gC]at y1;have dX:=Lh (((hS.perm (aA7 _ _ _)).drop 1));have hqs:=Lh hq;(have hql:qs.length<=300:=by rw[hq.length_eq];exact hmp);clear hS hg hsub hq hrg y5 hmm UR hk;(have hfl:(F.length:Int)<=300:=by have:=hm.EG;have:=ho'.out.EG;omega);replace hlo:=Lh hlo;replace hmp:=Lh hmp;have aiL:=Lh hql;clear hql;go_wp2_with fail;go_loopw[6,50] (fun v6 iv wr=>∃k:Nat,k<=F.length/\iv=iV k/\Sep w wr (.sl 53 1 v6 (qs.length+k) ((CO xs qs (F.take k)).map cv):: .box b5 157 #[.map (some bk)]:: .box b1 25 #[nv,.slice A2 F.length c2]:: .obj D (.deferred (some [])):: .box bb 25 #[nv,.slice A2 F.length c2]::Y2)) (fun _ iv _=>F.length-(intOf iv).toNat)
  case atStart=>exact⟨0,gI _,rfl,by simpa[CO,Function.comp_def,cv]using dX.out⟩
  clear dX y1;obtain⟨k,hk,rfl,hS⟩:=hrel;(have c0:(0:Int)<=(k:Int):=by omega);by_cases hlt:k<F.length
  ·(have c1:(k:Int)<(F.length:Int):=by omega);obtain⟨g,o,c,e,_,_,_,hcell⟩:=h'.out.files.place aD aV;cases e;obtain⟨f,he⟩:∃f,F[k]? =some f:=⟨_,gE hlt⟩;obtain⟨u,hu⟩:∃u,vs[k]? =some u:=⟨_,gE (by rw[h'.out.len];exact hlt)⟩;obtain⟨A9,c9,rfl,_⟩:=(h'.out.data k u f hu he).shape;have x0:=(hcell wr hS.below (k*2) aD).trans (fE he hu 0 aD);have x1:=(hcell wr hS.below (k*2+1) aD).trans (fE he hu 1 aD);simp only[tfC,gB,gC,<-tC]at x0 x1;have hsz:f.size<=8192:=ho'.out.size f (gG he);(have hdr:=fun W=>an7 (k:=f.size) aD W);obtain⟨X1,X2,hx0⟩:∃X1 X2,Value.complex .f64 X1 X2=cv (eD 2 f.size,1):=⟨_,_,rfl⟩;have hone:(Value.complex .f64 X1 X2).oneCell'=true:=rfl;rw[<-hx0]at hdr;obtain⟨A6,c6,e6,hx6⟩:=hS.gJ 0 rfl;clear hx6;subst e6;have hX:=hS.bN 71 #[iV f.mode,.slice A9 f.size c9];have z1:=hX.bC 0 rfl 1;simp only[gA,gB,gC]at z1;have kD:=Lh (hX.alloc (.cells #[.complex .f64 X1 X2] 53));have hrd:=aiG (.complex .f64 X1 X2) (wr.alloc (.cells #[iV f.mode,.slice A9 f.size c9] 71)) 53 hone;rw[World.size_alloc]at hrd;replace hrd:=Lh hrd;replace hone:=Lh hone;replace hx0:=Lh hx0;have htk:Hid (F.take (k+1)=F.take k++[f]):=Lh (by rw[pE,he];rfl);clear hS hX he hu hcell hsz;go_wp2_with(first |(go_at_call 112;refine(hdr _).mono ?_;rintro e w' ⟨rfl,hw'⟩;(have H9:=hw'.symm);subst H9;clear hdr)|(at_builtin;go_loud (refine dH 1 rfl _ _ 162 rfl 53 i0 _ 1 16 Tryz.underlying162 JY hz0 hz1 hz2 rfl aV kD.out _ (qs.length+k) _ rfl rfl _ 1 [.complex .f64 X1 X2] rfl hrd.out oCl (by have:=aiL.out;unfold maxLen;omega) (by have:=aiL.out;omega) ?_);intro v5 w5 hS5 hz5;replace hS5:=Lh hS5;clear kD hrd hz5));(have hcell:((CO xs qs (F.take k)).map cv)++[Value.complex .f64 X1 X2]=(CO xs qs (F.take (k+1))).map cv:=by rw[htk.out,hx0.out];unfold CO;rw[mV,mV,mV,mV,<-pJ];rfl);go_roundw
   case rel=>exact⟨k+1,by omega,by go_num,by rw[<-hcell];exact hS5.out.drop 1⟩
   case measure=>simp[intOf];omega
  (have hke:k=F.length:=by omega);subst hke;rw[NY]at hS;have hrd:=hS.rd 0 rfl;have hln:qs.length+F.length=(CO xs qs F).length:=ae6.symm;rw[hln]at hrd;have hsu:=aw9 hrd (axA ho'.out.few ho'.out.size) (by rw[<-hln];have:=aiL.out;omega) (ae7 ho'.out.few ho'.out.size (by have:=aiL.out;omega));rw[afA ho'.out hqs.out]at hsu;obtain⟨Z,hZ⟩:∃Z,cv (lJ xs (jJ F),jY xs)=Z:=⟨_,rfl⟩;rw[hZ]at hsu;have hZ':Hid (iK (lJ xs (jJ F)) (jY xs)=Z):=Lh hZ;have hS5:=Lh hS;have aFY:=Lh hsu;clear hS hrd hln hsu hZ;go_wp2_with(go_at_call 113;refine aFY.out.mono ?_;rintro e w9 ⟨rfl,wM⟩;(have lG:=Lh (hS5.out.pure wM));clear hS5 aFY wM);refine⟨by simp,.inl ⟨_,_,rfl,run_takeDeferred (lG.out.adL 3 rfl),?_⟩⟩;have GH:=lG.out.putObj 3 (.deferred none) rfl;exact⟨.tuple #[Z,iV 0],by simp[results,Tryz.f41,go_sem],by rw[hZ'.out],GH.below⟩
 have aFZ:=hp.out.mem_iff.1 (vN _ hmem);obtain⟨q,hq,e⟩:=List.mem_map.1 aFZ;have e1:kl= .string q:=(congrArg Prod.fst e).symm;have e2:v=vJ xs q:=(congrArg Prod.snd e).symm;subst e1;subst e2;have hls:=left_step hsub.out UR hmem;have hcb:nJ xs q<=1000:=by have h1:nJ xs q<=xs.length:=NV ..;have:=ho'.out.few;omega
 have hdr:=fun W=>atK hcb W
 have hql:qs.length<=300:=by have h1:=hp.out.length_eq;rw[jL,iM,iM]at h1;omega
 obtain⟨X1,X2,hx0⟩:∃X1 X2,Value.complex .f64 X1 X2=cv (eD 1 (nJ xs q),1):=⟨_,_,rfl⟩;have hone:(Value.complex .f64 X1 X2).oneCell'=true:=rfl;rw[<-hx0]at hdr;obtain⟨A6,c6,e6,hx6⟩:=dX.gJ 0 rfl;clear hx6;subst e6;have kD:=Lh (dX.alloc (.cells #[.complex .f64 X1 X2] 53));have hrd:=Lh (aiG (.complex .f64 X1 X2) w3 53 hone);unfold vJ at hnx hen;replace hone:=Lh hone;replace hx0:=Lh hx0;replace hls:=Lh hls;clear dX hS aFZ e hmem hkey hq hcb ag4 hrg y5 hmm;replace hlo:=Lh hlo;replace hmp:=Lh hmp;replace hk:=Lh hk;replace UR:=Lh UR;have aiL:=Lh hql;clear hql;obtain⟨m,hm9⟩:∃m:Nat,m=nJ xs q:=⟨_,rfl⟩;rw[<-hm9]at hnx hen hdr;replace hm9:=Lh hm9;go_wp2_with(first |(go_at_call 111;refine(hdr _).mono ?_;rintro e w' ⟨rfl,hw'⟩;(have H9:=hw'.symm);subst H9;clear hdr)|(at_builtin;go_loud (refine dH 0 rfl _ _ 162 rfl 53 i0 _ 1 16 Tryz.underlying162 JY hz0 hz1 hz2 rfl aV kD.out _ qs.length _ rfl rfl _ 1 [.complex .f64 X1 X2] rfl hrd.out oCl (by have:=aiL.out;unfold maxLen;omega) (by have:=aiL.out;omega) ?_);intro v5 w5 hS5 hz5;replace hS5:=Lh hS5;clear kD hrd hz5));have hcell:(qs.map fun q=>cv (eD 1 (nJ xs q),1))++[Value.complex .f64 X1 X2]=(qs++[q]).map fun q=>cv (eD 1 (nJ xs q),1):=by rw[mV,MN,hx0.out]
 have hlen1:=hls.out.length_eq;rw[kR]at hlen1;have hg1:=hg.out;go_roundg (gk-1)
 case rel=>
  refine⟨nI left (.string q),qs++[q],Lh aD,Lh ?_,Lh (GR.trans hsub.out),?_⟩
  ·rw[mV,MN,<-pJ];refine List.Perm.trans ?_ hp.out;refine(aaZ _ _).trans ?_;exact(hls.out.append_right _).symm
  rw[jL,oK,<-hcell];exact hS5.out
 case measure=>omega
end Go.Proofs.YtmjomdkleikgbaaGreat
namespace Go.Proofs.YtmjomdkleikgbaaGreat
open Go.RowKit
theorem Z45 {P:Prop} (h:P:=by simp only[GG,gB,gC,<-tC,tF]at x0 x1 x2;exact⟨x0,x1,x2⟩):P:=h
theorem Z67 {P:Prop} (h:P:=by simp only[tfC,gB,gC,<-tC,tF]at x0 x1;exact⟨x0,x1⟩):P:=h
theorem X0 {w:World} {nv fv nv' fv':Value} {ns:List TN} {fs:List TF} {vs vs':List Value} (h1:iF w nv fv ns fs vs) (h2:iF w nv' fv' ns fs vs') (hm:mZ ns fs):
  Calls Tryz.prog 21 #[.agg #[nv,fv],.agg #[nv',fv']] w fun e w'=>e= .returned (.bool true)/\Below w.heap.size w w':=by
 have hS0:=((Sep.nil w).bN 25 #[nv,fv]).bN 25 #[nv',fv'];simp only[World.size_alloc]at hS0;obtain⟨A1,ca1,rfl,_⟩:=h1.nodes.shape;obtain⟨A2,ca2,rfl,_⟩:=h1.files.shape;obtain⟨B1,cb1,rfl,_⟩:=h2.nodes.shape;obtain⟨B2,cb2,rfl,_⟩:=h2.files.shape;have b1:(ns.length:Int)<=300:=by have:=hm.few;omega
 have b2:(fs.length:Int)<=300:=by have:=hm.EG;omega
 have e1:((ns.length:Int) !=(ns.length:Int))=false:=by simp
 have e2:((fs.length:Int) !=(fs.length:Int))=false:=by simp
 have hcl:∀W,Below ((w.alloc (.cells #[.slice A1 ns.length ca1,.slice A2 fs.length ca2] 25)).alloc (.cells #[.slice B1 ns.length cb1,.slice B2 fs.length cb2] 25)).heap.size ((w.alloc (.cells #[.slice A1 ns.length ca1,.slice A2 fs.length ca2] 25)).alloc (.cells #[.slice B1 ns.length cb1,.slice B2 fs.length cb2] 25)) W->(W.cell? ⟨w.heap.size,0,none⟩=some (.slice A1 ns.length ca1)/\W.cell? ⟨w.heap.size,1,none⟩=some (.slice A2 fs.length ca2)/\W.cell? ⟨w.heap.size+1,0,none⟩=some (.slice B1 ns.length cb1)/\W.cell? ⟨w.heap.size+1,1,none⟩=some (.slice B2 fs.length cb2))/\Below w.heap.size w W:=fun W hW=>by have h:=hS0.pure hW;exact⟨⟨h.bC 1 rfl 0,h.bC 1 rfl 1,h.bC 0 rfl 0,h.bC 0 rfl 1⟩,h.below⟩
 have hcl':=Lh hcl;obtain⟨⟨z0,z1,z2,z3⟩,_⟩:=hcl _ (Below.refl _ _);have h1':=Lh h1;have h2':=Lh h2;have hm':=Lh hm;clear hS0 hcl h1 h2 hm;go_enter Tryz.func21,Tryz.ntmps21;go_wp2_with fail;generalize hW0:(w.alloc (.cells #[.slice A1 ns.length ca1,.slice A2 fs.length ca2] 25)).alloc (.cells #[.slice B1 ns.length cb1,.slice B2 fs.length cb2] 25)=w0 at hcl' ⊢;clear hW0 z0 z1 z2 z3;go_loopw[5] (fun iv wr=>∃i:Nat,i<=ns.length/\iv=iV i/\Below w0.heap.size w0 wr) (fun iv _=>ns.length-(intOf iv).toNat)
 case atStart=>exact⟨0,gI _,rfl,Below.refl _ _⟩
 obtain⟨i,hi,rfl,hb⟩:=hrel;have q0:(0:Int)<=(i:Int):=by omega
 obtain⟨⟨z0,z1,z2,z3⟩,hbw⟩:=hcl'.out wr hb;have hbq:∀n,Below w0.heap.size w0 (wr.drewN n):=fun n=>hb.trans ((((Sep.nil wr).drewN n).below).mono hb.size)
 by_cases hlt:i<ns.length
 ·(have q1:(i:Int)<(ns.length:Int):=by omega);(have hcq:=fun n=>(hcl'.out _ (hbq n)).1);(have aRV:=fun n=>(hcq n).1);(have aRW:=fun n=>(hcq n).2.2.1);obtain⟨ga,oa,cca,ea,_,_,_,hca⟩:=h1'.out.nodes.place aD aV;cases ea;obtain⟨gb,ob,ccb,eb,_,_,_,hcb⟩:=h2'.out.nodes.place aD aV;cases eb;obtain⟨n,hn⟩:∃n,ns[i]? =some n:=⟨_,gE hlt⟩;(have ca:∀W,Below w.heap.size w W->W.cell? ⟨ga,oa+i*3,none⟩=some (aC n.path)/\W.cell? ⟨ga,oa+i*3+1,none⟩=some (iV n.file)/\W.cell? ⟨ga,oa+i*3+2,none⟩=some (iV n.mode):=fun W hW=>by have x0:=(hca W hW (i*3+0) aD).trans (bR hn 0 aD);have x1:=(hca W hW (i*3+1) aD).trans (bR hn 1 aD);have x2:=(hca W hW (i*3+2) aD).trans (bR hn 2 aD);exact Z45);(have cb:∀W,Below w.heap.size w W->W.cell? ⟨gb,ob+i*3,none⟩=some (aC n.path)/\W.cell? ⟨gb,ob+i*3+1,none⟩=some (iV n.file)/\W.cell? ⟨gb,ob+i*3+2,none⟩=some (iV n.mode):=fun W hW=>by have x0:=(hcb W hW (i*3+0) aD).trans (bR hn 0 aD);have x1:=(hcb W hW (i*3+1) aD).trans (bR hn 1 aD);have x2:=(hcb W hW (i*3+2) aD).trans (bR hn 2 aD);exact Z45);(have F7:=fun n=>(hcl'.out _ (hbq n)).2);obtain⟨p0,p1,p2⟩:=ca wr hbw;obtain⟨r0,r1,r2⟩:=cb wr hbw;(have P0:=fun n=>(ca _ (F7 n)).1);(have P1:=fun n=>(ca _ (F7 n)).2.1);(have P2:=fun n=>(ca _ (F7 n)).2.2);(have R0:=fun n=>(cb _ (F7 n)).1);(have R1:=fun n=>(cb _ (F7 n)).2.1);(have R2:=fun n=>(cb _ (F7 n)).2.2);have aA8:=Lh hbq;unfold aC at*;clear hca hcb hn ca cb F7 hcq hb hbq hbw;go_wp2_with fail;go_quiet (fail);go_wp2_with fail;go_roundw
  case rel=>exact⟨i+1,by omega,by go_num,aA8.out _⟩
  case measure=>simp[intOf];omega
 have hie:i=ns.length:=by omega
 subst hie;have hb':=Lh hb;clear hb hbq hbw;go_wp2_with fail;clear z0 z1 z2 z3;go_loopw[6] (fun iv wr=>∃j:Nat,j<=fs.length/\iv=iV j/\Below w0.heap.size w0 wr) (fun iv _=>fs.length-(intOf iv).toNat)
 case atStart=>exact⟨0,gI _,rfl,hb'.out⟩
 clear hb';obtain⟨j,hj,rfl,hb⟩:=hrel;have s0:(0:Int)<=(j:Int):=by omega
 obtain⟨⟨z0,z1,z2,z3⟩,hbw⟩:=hcl'.out wr hb;have hbq:∀n,Below w0.heap.size w0 (wr.drewN n):=fun n=>hb.trans ((((Sep.nil wr).drewN n).below).mono hb.size)
 by_cases hlt:j<fs.length
 ·(have s1:(j:Int)<(fs.length:Int):=by omega);(have hcq:=fun n=>(hcl'.out _ (hbq n)).1);(have aRZ:=fun n=>(hcq n).2.1);(have aR0:=fun n=>(hcq n).2.2.2);obtain⟨ga,oa,cca,ea,_,_,_,hca⟩:=h1'.out.files.place aD aV;cases ea;obtain⟨gb,ob,ccb,eb,_,_,_,hcb⟩:=h2'.out.files.place aD aV;cases eb;obtain⟨f,hf⟩:∃f,fs[j]? =some f:=⟨_,gE hlt⟩;obtain⟨u,hu⟩:∃u,vs[j]? =some u:=⟨_,gE (by rw[h1'.out.len];exact hlt)⟩;obtain⟨u2,hu2⟩:∃u,vs'[j]? =some u:=⟨_,gE (by rw[h2'.out.len];exact hlt)⟩;obtain⟨bs,hbs⟩:∃b,b=f.bs:=⟨_,rfl⟩;(have by1:BytesAt w u bs:=by obtain⟨cs,h3,_,h4⟩:=h1'.out.data j u f hu hf;subst h4;rw[hbs];exact h3);(have by2:BytesAt w u2 bs:=by obtain⟨cs,h3,_,h4⟩:=h2'.out.data j u2 f hu2 hf;subst h4;rw[hbs];exact h3);obtain⟨Au,cu,rfl,_⟩:=Rd.shape by1;obtain⟨Bu,du,rfl,_⟩:=Rd.shape by2;(have ca:∀W,Below w.heap.size w W->W.cell? ⟨ga,oa+j*2,none⟩=some (iV f.mode)/\W.cell? ⟨ga,oa+j*2+1,none⟩=some (.slice Au bs.length cu):=fun W hW=>by have x0:=(hca W hW (j*2+0) aD).trans (fE hf hu 0 aD);have x1:=(hca W hW (j*2+1) aD).trans (fE hf hu 1 aD);exact Z67);(have cb:∀W,Below w.heap.size w W->W.cell? ⟨gb,ob+j*2,none⟩=some (iV f.mode)/\W.cell? ⟨gb,ob+j*2+1,none⟩=some (.slice Bu bs.length du):=fun W hW=>by have x0:=(hcb W hW (j*2+0) aD).trans (fE hf hu2 0 aD);have x1:=(hcb W hW (j*2+1) aD).trans (fE hf hu2 1 aD);exact Z67);(have F7:=fun n=>(hcl'.out _ (hbq n)).2);obtain⟨p0,p1⟩:=ca wr hbw;obtain⟨r0,r1⟩:=cb wr hbw;(have P0:=fun n=>(ca _ (F7 n)).1);(have P1:=fun n=>(ca _ (F7 n)).2);(have R0:=fun n=>(cb _ (F7 n)).1);(have R1:=fun n=>(cb _ (F7 n)).2);(have v1:=fun n=>gW (by1.below (F7 n)));(have v2:=fun n=>gW (by2.below (F7 n)));have v10:=gW (by1.below hbw);have v20:=gW (by2.below hbw);have aA8:=Lh hbq;(have em:(f.mode !=f.mode)=false:=by simp);unfold aC at*;generalize(⟨bs.toArray⟩:ByteArray)=S at*;generalize bs.length=n at*;clear hca hcb hf hu hu2 hbs by1 by2 ca cb F7 hcq hb hbq hbw;go_wp2_with fail;go_quiet (fail);go_wp2_with fail;go_roundw
  case rel=>exact⟨j+1,by omega,by go_num,aA8.out _⟩
  case measure=>simp[intOf];omega
 have hje:j=fs.length:=by omega
 subst hje;have aK2:=Lh hbw;clear hb hbq hbw;go_wp2_with fail;go_ret;exact⟨rfl,aK2.out⟩
theorem CP (x:Int) (w:World):Calls Tryz.prog 16 #[iV x] w fun e w'=>e= .returned (iV x)/\w=w':=by go_enter Tryz.func16,Tryz.ntmps16;go_wp2;go_ret;exact⟨rfl,rfl⟩
section
variable {w0 w:World} {R:List aZ}
theorem SY {b i n:Nat} (hn:n=98+(i+7)/8+b) (hb:1<=b) (hn4:n<=4096) (hi:2<=i) (hi2:i<=1024) (h:Sep w0 w R):
  Calls Tryz.prog 14 #[iV b,iV i] w fun e w'=>∃f q p,e= .returned (.tuple #[pV p,pV f,.bool true])/\Sep w0 w' (bH f q p (VS.new n i)::R):=by
 have hnew:Hid (∀W,Sep w0 W R->Calls Tryz.prog 37 #[iV n] W fun e w'=>∃p,e= .returned (.tuple #[pV p,iV 0])/\Sep w0 w' (aO p (DK.fresh n)::R)):=Lh fun W hW=>avV aD hn4 hW
 have hfmt:Hid (∀W p,Sep w0 W (aO p (DK.fresh n)::R)->Calls Tryz.prog 38 #[pV p,iV i] W fun e w'=>∃f q,e= .returned (.tuple #[pV f,iV 0])/\Sep w0 w' (bH f q p (VS.new n i)::R)):=Lh fun W p hW=>ag3 aD hn4 hi hi2 hW
 have q0:(1:Int)<=b:=by omega
 have q1:(n:Int)<=4096:=by omega
 have q2:(2:Int)<=i:=by omega
 have q3:(i:Int)<=1024:=by omega
 have e0:Int.tdiv ((i:Int)+7) 8=((i+7)/8:Nat):=by rw[aaU aD];omega
 obtain⟨P,hP⟩:∃P,P=(i+7)/8:=⟨_,rfl⟩;rw[<-hP]at hn e0;have q4:(P:Int)<=129:=by omega
 have e1:(98:Int)+(P:Int)+b=n:=by omega
 have w1:IntKind.i64.wrap ((i:Int)+7)=(i:Int)+7:=IntWalk.i64_in _ aD;have w2:IntKind.i64.wrap ((98:Int)+P)=(98:Int)+P:=IntWalk.i64_in _ aD;have w3:IntKind.i64.wrap ((98:Int)+P+b)=n:=by rw[e1];exact IntWalk.i64_in _ aD
 have h1:=Lh h;have w4:IntKind.i64.wrap (P:Int)=P:=IntWalk.i64_in _ aD;clear hn hb hn4 hi hi2 h hP;go_enter Tryz.func14,Tryz.ntmps14;go_wp2_with(first |(go_at_call 37;refine(hnew.out _ h1.out).mono ?_;rintro e wn ⟨p,rfl,hS⟩;have h2:=Lh hS;clear hS h1 hnew)|(go_at_call 38;refine(hfmt.out _ _ h2.out).mono ?_;rintro e wf ⟨f,q,rfl,hS⟩;have h3:=Lh hS;clear hS h2 hfmt)|(go_at_call 16;refine(CP _ _).mono ?_;rintro e w2 ⟨rfl,rfl⟩))
 go_ret3
 exact⟨f,q,p,rfl,h3.out⟩
end
theorem X7 {ns:List TN} {fs:List TF} (h:iI ns fs=0):fT ns fs:=by
 unfold iI at h;cases hb:lV ns fs with
 |true=>rw[hb,if_pos rfl]at h;cases h
 |false=>
  rw[hb,if_neg aV]at h;split at h
  ·rename_i h2;unfold lV at hb;rw[YG,YG,afS,afS,ajE]at hb;refine⟨by omega,by omega,fun f hf=>?_,fun f hf=>List.all_eq_true.1 h2.2 f hf,h2.1⟩;have:=hb.2 f hf;unfold KS at this;rw[tX]at this;omega
  cases h
theorem JK :iI NR UT=0:=by kernel_rfl
theorem akR :mZ NR UT:=⟨by decide,by decide,fun n hn=>by
 have:n.path.length<=3:=by simp only[NR,kC,D8,or_false]at hn;rcases hn with rfl|rfl|rfl<;>decide
 omega,fun f hf=>by
 simp only[UT,kC,D8,or_false]at hf;subst hf;show 2<=_
 decide⟩
theorem afC :fT NR UT:=X7 JK
theorem atN :∀n∈NR,n.path.length<=200:=fun n hn=>by simp only[NR,kC,D8,or_false]at hn;rcases hn with rfl|rfl|rfl<;>decide
theorem axD :sI 120 16 NR (jJ UT)=true:=by kernel_rfl
theorem axE :RU (NR,UT) NR (jJ UT):=by have h:=FY (ns:=NR) (fs:=jJ UT) (by rw[CE afC.RA];exact afC);rw[CE afC.RA]at h;exact h
theorem axF :((0<=lJ NR (jJ UT)/\lJ NR (jJ UT)<=mY 120 16/\mY 120 16<=4096)/\(0<=jY NR/\jY NR<=(16:Nat)/\(16:Nat)<=1024)):=of_decide_eq_true fH
section
variable {w0 w:World} {R:List aZ}
theorem aiM (h:Sep w0 w R):Calls Tryz.prog 8 #[] w fun e w'=>e= .returned (.bool true)/\Sep w0 w' R:=by
 have hfr:=Lh (SY (b:=20) (i:=16) (n:=120) rfl aV aV aV aV h);have hL0:=adF (n:=120) (names:=16) aV aV aV aV;obtain⟨S0,hS0⟩:∃S0,S0=VS.new 120 16:=⟨_,rfl⟩;rw[<-hS0]at hfr hL0;have hsm:Hid (∀W Y,Sep w0 W Y->Calls Tryz.prog 30 #[] W fun e w'=>∃g,e= .returned (.agg #[sV g 3 3,sV (g+2) 1 1])/\Sep w0 w' (smX g++Y)):=Lh fun W Y hW=>aiA hW
 have hly:Hid (∀W f q p g,Sep w0 W (smX g++(bH f q p S0::R))->Calls Tryz.prog 15 #[pV f,.agg #[sV g 3 3,sV (g+2) 1 1]] W fun e w'=>e= .returned (iV 0)/\∃S',gY S' NR (jJ UT) 120 16/\Sep w0 w' (bH f q p S'::(smX g++R))):=Lh fun W f q p g hW=>
  aeX (vs:=[sV (g+1) 2 2]) hL0 afC akR JK axD (fun W hT=>SV hT akR afC JK) axF (fun W X hS=>sm_at hS) (hW.perm lZ)
 have hsc:Hid (∀W f q p S' Y,gY S' NR (jJ UT) 120 16->Sep w0 W (bH f q p S'::Y)->Calls Tryz.prog 19 #[pV f] W fun e w'=>∃nv fv vs S'',e= .returned (.tuple #[.agg #[nv,fv],iV 0])/\vs.length=UT.length/\Sep w0 w' (lL nv fv NR UT vs++(bH f q p S''::Y))):=Lh fun W f q p S' Y hL hW=>
  (SH axE hL atN aV akR JK hW).mono fun e w' ⟨nv,fv,vs,S'',h1,h2,_,_,h3⟩=>⟨nv,fv,vs,S'',h1,h2,h3⟩
 clear hS0 hL0 h;go_enter Tryz.func8,Tryz.ntmps8;go_wp2_with(first |(go_at_call 14;go_loud (refine hfr.out.mono ?_;rintro e wn ⟨f,q,p,rfl,hS⟩;have h1:=Lh hS;clear hS hfr))|(go_at_call 30;go_loud (refine(hsm.out _ _ h1.out).mono ?_;rintro e ws ⟨g,rfl,hS⟩;have h2:=Lh hS;clear hS h1))|(go_at_call 15;go_loud (refine(hly.out _ _ _ _ _ h2.out).mono ?_;rintro e wl ⟨rfl,S1,hL1,hS⟩;have h3:=Lh hS;have hL2:=Lh hL1;clear hS hL1 h2 hly))|(go_at_call 19;go_loud (refine(hsc.out _ _ _ _ _ _ hL2.out h3.out).mono ?_;rintro e wc ⟨nv,fv,vs,S2,rfl,hvl,hS⟩;obtain⟨A8,c8,e8,_⟩:=hS.gJ 0 rfl;subst e8;obtain⟨A9,c9,e9,_⟩:=hS.gJ 1 rfl;subst e9;have h4:=Lh hS;clear hS hL2 h3 hsc)));obtain⟨nv,hnv⟩:∃nv,nv=Value.slice A8 NR.length c8:=⟨_,rfl⟩;obtain⟨fv,hfv⟩:∃fv,fv=Value.slice A9 UT.length c9:=⟨_,rfl⟩;rw[<-hnv,<-hfv]at h4 ⊢;clear hnv hfv;have h5:=h4.out.bN 25 #[nv,fv];obtain⟨b5,hb5⟩:∃b,b=wc.heap.size:=⟨_,rfl⟩;obtain⟨wd,hwd⟩:∃w',w'=wc.alloc (.cells #[nv,fv] 25):=⟨_,rfl⟩;rw[<-hb5,<-hwd]at h5 ⊢;have hD:=h5.drew;have hE:wd.drew.cell? ⟨b5,0,none⟩=some nv/\wd.drew.cell? ⟨b5,1,none⟩=some fv:=⟨hD.bC 0 rfl 0,hD.bC 0 rfl 1⟩;have h6:=Lh hD;clear h5 h4 hb5 hwd hD;refine aP (S:=fun w'=>w'.cell? ⟨b5,0,none⟩=some nv/\w'.cell? ⟨b5,1,none⟩=some fv) 14 ?_;refine aA 0 hE ?_;refine bI 1 fun K hK=>?_
 go_simp;go_at_call 16;refine(CP _ _).mono ?_;rintro e wx ⟨rfl,rfl⟩;dsimp only;refine hK _ _ (fun _=>hE) ?_;clear hK K;try simp only[Act.put,gD]
 refine aA 2 hE ?_;refine aA 3 hE ?_;refine aA 4 hE ?_;refine bI 5 fun K hK=>?_
 go_simp;go_at_call 16;refine(CP _ _).mono ?_;rintro e wx ⟨rfl,rfl⟩;dsimp only;refine hK _ _ (fun _=>hE) ?_;clear hK K;try simp only[Act.put,gD]
 refine aA 6 hE ?_;refine aA 7 hE ?_;refine aA 8 hE ?_;refine aA 9 hE ?_;refine bI 10 fun K hK=>?_
 go_simp;go_at_call 30;refine(hsm.out _ _ h6.out).mono ?_;rintro e ws ⟨g2,rfl,hS⟩;have hE7:ws.cell? ⟨b5,0,none⟩=some nv/\ws.cell? ⟨b5,1,none⟩=some fv:=⟨hS.bC 3 rfl 0,hS.bC 3 rfl 1⟩;have h7:Hid (Sep w0 ws (smX g2++(.box b5 25 #[nv,fv]::(lL nv fv NR UT vs++(bH f q p S2::(smX g++R)))))):=Lh hS;clear hS h6 hE hsm;dsimp only;refine hK _ _ (fun _=>hE7) ?_;clear hK K;try simp only[Act.put,gD]
 have hex:=X0 (nv:=nv) (fv:=fv) (vs:=vs) (NQ (X:=smX g2++[.box b5 25 #[nv,fv]]) hvl (by rw[pJ];exact h7.out)) (sm_at (Y:=[]) h7.out) akR;replace hex:=Lh hex;refine bI 11 fun K hK=>?_
 go_simp;go_at_call 21;refine hex.out.mono ?_;rintro e we ⟨rfl,hb⟩;have hS:=h7.out.pure hb;have hE8:we.cell? ⟨b5,0,none⟩=some nv/\we.cell? ⟨b5,1,none⟩=some fv:=⟨hS.bC 3 rfl 0,hS.bC 3 rfl 1⟩;have h8:Hid (Sep w0 we (smX g2++(.box b5 25 #[nv,fv]::(lL nv fv NR UT vs++(bH f q p S2::(smX g++R)))))):=Lh hS;clear hS hb h7 hE7 hex;dsimp only;refine hK _ _ (fun _=>hE8) ?_;clear hK K;try simp only[Act.put,gD]
 refine aA 12 hE8 ?_;refine bB 13 (fun _=>hE8) ?_;refine aQ fH ?_ _;go_wp2_with fail;go_ret;exact⟨rfl,(((h8.out.snd).drop 1).snd.drop 1).snd⟩
end
theorem axG {w:World} {nv fv:Value} {ns:List TN} {fs:List TF} {vs:List Value} (h:iF w nv fv ns fs vs):
  Calls Tryz.prog 9 #[.agg #[nv,fv]] w fun e w'=>(e= .returned (.bool true)\/(e= .returned (.bool false)/\ns.length<=300/\fs.length<=300))/\Below w.heap.size w w':=by
 have hS0:=(Sep.nil w).bN 25 #[nv,fv];have hnp:=h.nodes;have hfp:=h.files;have hvl:=h.len;have MQ:=h.data;obtain⟨A1,c1,rfl,hm1⟩:=h.nodes.shape;obtain⟨A2,c2,rfl,hm2⟩:=h.files.shape;have d0:=hS0.bC 0 rfl 0;have d1:=hS0.bC 0 rfl 1;simp only[gA,gB,gC]at d0 d1;have hb0:=hS0.below;unfold maxLen at hm1 hm2;have bn:(ns.length:Int)<=9223372036854775807:=by omega
 have bf:(fs.length:Int)<=9223372036854775807:=by omega
 have UJ:=Lh hnp;have EB:=Lh hfp;have av8:=Lh hvl;have ak8:=Lh MQ;have JD:=Lh hb0;clear h hS0 hnp hfp hvl MQ hb0 hm1 hm2;go_enter Tryz.func9,Tryz.ntmps9;go_wp2_with fail;generalize w.alloc (.cells #[.slice A1 ns.length c1,.slice A2 fs.length c2] 25)=W at d0 d1 JD ⊢;obtain⟨b0,wM⟩:∃b,w.heap.size=b:=⟨_,rfl⟩;rw[wM]at d0 d1 ⊢;clear wM;go_loop[3,4] (fun n i=>∃(x:Int) (k:Nat),k<=ns.length/\n=iV x/\i=iV k) (fun _ i=>ns.length-(intOf i).toNat)
 case atStart=>exact⟨0,0,gI _,rfl,rfl⟩
 obtain⟨x,k,hk,rfl,rfl⟩:=hrel;have q0:(0:Int)<=(k:Int):=by omega
 by_cases hgo:k<ns.length/\x<=40000
 ·obtain⟨hlt,hx⟩:=hgo;(have q1:(k:Int)<(ns.length:Int):=by omega);obtain⟨g,o,c,e,_,_,_,hcell⟩:=UJ.out.place aD aV;cases e;obtain⟨n,hn⟩:∃n,ns[k]? =some n:=⟨_,gE hlt⟩;have c0:=(hcell W JD.out (k*3) aD).trans (bR hn 0 aD);simp only[GG,aC,gB,gC,<-tC]at c0;have hsz:(⟨n.path.toArray⟩:ByteArray).size=n.path.length:=rfl;clear hn hcell;go_wp2_with fail;go_round
  case rel=>exact⟨_,k+1,by omega,rfl,by go_num⟩
  case measure=>simp[intOf];omega
 have hcase:((k:Int)<(ns.length:Int)/\40000<x)\/¬(k:Int)<(ns.length:Int):=by
  by_cases h:k<ns.length
  ·left;constructor
   ·omega
   refine Decidable.byContradiction fun hno=>hgo ⟨h,by omega⟩
  right;omega
 clear hgo;rcases hcase with⟨q1,q2⟩|q1
 all_goals
  go_wp2_with fail
  go_loop[3,5] (fun n i=>∃(y:Int) (j:Nat),j<=fs.length/\n=iV y/\i=iV j) (fun _ i=>fs.length-(intOf i).toNat)
  case atStart=>exact⟨x,0,gI _,rfl,rfl⟩
  case round=>
   obtain⟨y,j,hj,rfl,rfl⟩:=hrel;(have r0:(0:Int)<=(j:Int):=by omega);by_cases aA9:j<fs.length/\y<=40000
   ·obtain⟨hlt,hx⟩:=aA9;(have r1:(j:Int)<(fs.length:Int):=by omega);obtain⟨g,o,c,e,_,_,_,hcell⟩:=EB.out.place aD aV;cases e;obtain⟨f,hf⟩:∃f,fs[j]? =some f:=⟨_,gE hlt⟩;obtain⟨u,hu⟩:∃u,vs[j]? =some u:=⟨_,gE (by rw[av8.out];exact hlt)⟩;obtain⟨A,c9,rfl,_⟩:=(ak8.out j u f hu hf).shape;have c0:=(hcell W JD.out (j*2+1) aD).trans (fE hf hu 1 aD);simp only[tfC,gB,gC,<-tC]at c0;clear hf hu hcell;go_wp2_with fail;go_round
    case rel=>exact⟨_,j+1,by omega,rfl,by go_num⟩
    case measure=>simp[intOf];omega
   have atO:((j:Int)<(fs.length:Int)/\40000<y)\/¬(j:Int)<(fs.length:Int):=by
    by_cases h:j<fs.length
    ·left;constructor
     ·omega
     refine Decidable.byContradiction fun hno=>aA9 ⟨h,by omega⟩
    right;omega
   clear aA9;by_cases t1:40000<y
   ·rcases atO with⟨r1,r2⟩|r1<;>(go_wp2_with fail;go_ret;exact⟨.inl rfl,JD.out⟩)
   have r1:¬(j:Int)<(fs.length:Int):=by
    rcases atO with⟨_,h⟩|h
    ·exact absurd h t1
    exact h
   by_cases t2:(300:Int)<(ns.length:Int)
   ·go_wp2_with fail;go_ret;exact⟨.inl rfl,JD.out⟩
   by_cases t3:(300:Int)<(fs.length:Int)
   ·go_wp2_with fail;go_ret;exact⟨.inl rfl,JD.out⟩
   go_wp2_with fail;go_ret;exact⟨.inr ⟨rfl,by omega,by omega⟩,JD.out⟩
end Go.Proofs.YtmjomdkleikgbaaGreat
