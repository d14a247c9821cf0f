/- Parts. -/
import Derived.Test.YtmjomdkleikgbaaGreatJ37
import Derived.Test.YtmjomdkleikgbaaGreatJ38
set_option linter.unusedVariables false
set_option linter.unusedSimpArgs false
set_option maxRecDepth 100000
set_option maxHeartbeats 20000000
namespace Go.Proofs.YtmjomdkleikgbaaGreat
open Go.RowKit Go.Shelf
attribute [local go_sem] Oper.semAt_some
def agG (w:World) (ns:List TN) (b1 b5 bk:Nat) (nv fv:Value) (V:List TN) (Y:List aV) (W:World):Prop:=
 ∃L,yY V L/\V=ns.take V.length/\Sep w W (Y++[.box b5 157 #[.map (some bk)],l8 9 bk L,.box b1 25 #[nv,fv]])
theorem yI {w:World} {ns:List TN} {b1 b5 bk:Nat} {nv fv:Value}:Shared (agG w ns b1 b5 bk nv fv):=by rintro V Y W ⟨L,h1,h2,h3⟩;exact⟨w,_,h3,fun Y' W' h=>⟨L,h1,h2,h⟩⟩
theorem Z29 {P:Prop} (h:P:=by
 haveI:DecidableEq aV:=fun a b=>Classical.propDecidable (a=b)
 rw[LA];intro x;simp only[RH,RJ,kN,TM];omega):P:=h
theorem ax2 (D bb b5 g b1:aV) (Y:List aV):((D::([bb]++Y))++[b5,g,b1]).Perm (g::b5::b1::D::bb::Y):=by exact Z29
theorem agH :(Tryz.prog.info? 53).map (fun i=>(i.zero,i.size,i.bytes))=some (some (.complex .f64 0 0),1,16):=by kernel_rfl
theorem left_step {left L:List (Lit×Value)} (hs:left.Sublist L) (hK:mF L) {kl:Lit} {v:Value} (hm:(kl,v)∈left):left.Perm ((kl,v)::mU left kl):=by
 have hKl:=hK.sub hs;obtain⟨a,b,rfl⟩:=ag8 hm;have hne:=hKl.ne;rw[M9,List.pairwise_cons]at hne;have ha:mU a kl=a:=D6.2 fun y hy=>by have h1:=kW (hne.2.2 y hy (kl,v) bK);simpa using h1
 have hb:mU b kl=b:=D6.2 fun y hy=>by have h1:=kW (fun e=>hne.2.1.1 y hy e.symm);simpa using h1
 have hk:=hKl.lit (kl,v) bK;have e:mU (a++(kl,v)::b) kl=a++b:=by unfold mU at ha hb ⊢;rw[FH,zA,ha,hb];have h1:=uO hk;simp only at h1;rw[h1];rfl
 rw[e];exact lN
theorem YO (V:List TN):(mV V).length<=V.length+1:=by unfold mV;rw[kM,iT];have:=RG (fun n:TN=>decide (n.file= -1)) V;omega
theorem V3 {ns V:List TN} {x:TN} (h:V=ns.take V.length) (hx:ns[V.length]? =some x):V++[x]=ns.take (V++[x]).length:=by rw[jJ,nZ,pX,hx,<-h];rfl
theorem agI (a b c d:aV) (Y:List aV):((a::Y)++[b,c,d]).Perm (a::b::c::d::Y):=by exact Z29
theorem ax3 (a b:aV) (Y:List aV):(a::b::Y).Perm (b::a::Y):=List.Perm.swap _ _ _
theorem auM {E:List UInt8->Value} {qs l:List (List UInt8)} (h:(([]:List (Lit×Value))++qs.map fun q=>(Lit.string q,E q)).Perm (l.map fun q=>(Lit.string q,E q))):qs.Perm l:=by
 rw[mP]at h;have h2:=h.filterMap fun x:Lit×Value=>match x.1 with
  | .string q=>some q
  |_=>none
 rw[List.filterMap_map,List.filterMap_map]at h2;have e:∀l:List (List UInt8),l.filterMap ((fun x:Lit×Value=>match x.1 with
  | .string q=>some q
  |_=>none)∘fun q=>(Lit.string q,E q))=l:=fun l=>by
  conv=>rhs;rw[<-List.filterMap_some (l:=l)]
  rfl
 rwa [e,e]at h2
def aCE (nv fv:Value) (b1 b5 bk bb:Nat) (v7 v21:Value):Act:= {tmps:=#[.agg #[nv,fv],pV b1,.complex .f64 0 0,iV 0,iV 0,pV b5,.slice none 0 0,v7,undef,undef,undef,undef,.agg #[nv,fv],iV 0,iV 0,.bool false,undef,.map (some bk),.map (some bk),.agg #[nv,fv],.func (.func 175) #[] #[pV bb],v21,undef,undef,undef,undef,undef,undef,undef,undef,undef,undef,undef,undef,undef,undef,undef,undef,undef,undef,undef,undef,undef,undef,undef,undef,undef,undef,undef,undef,undef,undef,undef,undef,undef,undef,undef,undef,undef,undef,undef,undef,undef,undef,undef,undef],defers:=[]}
theorem agJ {w:World} {nv fv:Value} {ns:List TN} {F:List TF} {vs:List Value} (h:iR w nv fv ns F vs) (hm:rP ns F) (ho:gQ ns F) (hlo:gW ns F=0):
  Calls Tryz.prog 41 #[.agg #[nv,fv]] w fun e w'=>e= .returned (.tuple #[jC (uF ns (mK F)) (nP ns),iV 0])/\RowKit.Below w.heap.size w w':=by
 have hmm:= @run_makeMap Tryz.prog;obtain⟨A1,c1,rfl,_⟩:=h.nodes.shape;obtain⟨A2,c2,rfl,_⟩:=h.files.shape;have h0:=(Sep.nil w).bN 25 #[.slice A1 ns.length c1,.slice A2 F.length c2];have QV:=Lh (xL (h.below h0.below) hm.mm);rw[hlo]at QV;have hS0:=Lh h0;have h':=Lh h;have ho':=Lh ho;clear h h0 ho;refine(callsIn_wide (n:=9)).1 ?_;refine callsIn_of_wp_marks Tryz.func41 rfl trivial ?_ rfl;simp only[Tryz.ntmps41,kJ,kM,rF,Nat.reduceAdd,Nat.reduceSub,yZ,y7,y9,y8,mP,kN];rw[wpIn_wide];go_wp2_with(first |(go_at_call 39;refine QV.out.mono ?_;rintro e w1 ⟨rfl,hb⟩;(have hS1:=(hS0.out.pure hb).JK 9);clear hb hS0 QV;(obtain⟨w2,hmu,hS2⟩:=hS1.l5 0 rfl eY Tryz.underlying157 (by unfold maxLen;simp) (v:=.int .i64 0) (eP [] bK));unfold aC at hmu;(have eZ:=Lh (hS2.bN 157 #[.map (some w1.heap.size)]));clear hS1 hS2;(have z0:(w2.alloc (.cells #[.map (some w1.heap.size)] 157)).cell? ⟨w.heap.size,0,none⟩=some (.slice A1 ns.length c1):=eZ.out.bC 2 rfl 0);(have z1:(w2.alloc (.cells #[.map (some w1.heap.size)] 157)).cell? ⟨w.heap.size,1,none⟩=some (.slice A2 F.length c2):=eZ.out.bC 2 rfl 1);(have hnd:=Lh (alY (nv:=.slice A1 ns.length c1) (fv:=.slice A2 F.length c2) eZ.out)))|(go_at_call 110;refine hnd.out.mono ?_;rintro e w3 ⟨bb,rfl,lX⟩;(replace lX:=Lh lX);clear hnd eZ z0 z1));obtain⟨b1,hb1⟩:∃x,x=w.heap.size:=⟨_,rfl⟩;rw[<-hb1]at lX ⊢;obtain⟨bk,hbk⟩:∃x,x=w1.heap.size:=⟨_,rfl⟩;rw[<-hbk]at lX ⊢;obtain⟨b5,hb5⟩:∃x,x=w2.heap.size:=⟨_,rfl⟩;rw[<-hb5]at lX ⊢;clear hb1 hbk hb5 hmu;have hst:Hid (agG w ns b1 b5 bk (.slice A1 ns.length c1) (.slice A2 F.length c2) [] [.box bb 25 #[.slice A1 ns.length c1,.slice A2 F.length c2]] w3):=Lh ⟨_,FN _,rfl,lX.out⟩;clear lX;obtain⟨nv,hnv⟩:∃nv,nv=Value.slice A1 ns.length c1:=⟨_,rfl⟩;obtain⟨fv,hfv⟩:∃fv,fv=Value.slice A2 F.length c2:=⟨_,rfl⟩;rw[<-hnv,<-hfv]at hst h' ⊢;clear hnv hfv;have hTr:∀pre Y W,agG w ns b1 b5 bk nv fv pre Y W->iR W nv fv ns F vs:=fun pre Y W ⟨L,_,_,hS⟩=>h'.out.below hS.below
 have auG:=Lh hTr;clear hTr;have hAx:∀pre x,Shared (fun(a1:Act) (Y:List aV) (W:World)=>∃bs,a1=aCE nv fv b1 b5 bk bb (pV bs) (ac8 x)/\agG w ns b1 b5 bk nv fv pre (.box bs 68 #[aC x.path,iV x.file,iV x.mode]::Y) W):=fun pre x=>by rintro a1 Y W ⟨bs,h1,h2⟩;obtain⟨wa,Ra,h3,h4⟩:=yI _ _ _ h2;exact Z75
 refine wpIn_wide.1 (uM (F:=Fence.wide) (n:=9) rfl aR (gf:=175) (lb:=#[pV bb]) rfl trivial (enters_of Tryz.func175 fT rfl)
  (encs:=fun x:TN=>#[ac8 x]) (fun _=>rfl) (agG w ns b1 b5 bk nv fv) yI [.box bb 25 #[nv,fv]] hst.out (fun pre x=>pre=ns.take pre.length/\ns[pre.length]? =some x) (fun xs Y1=>xs=ns/\Y1=[.box bb 25 #[nv,fv]])
  ?seq _ hAx ?assign ?body ?done)
 case seq=>intro l Z W hY h0;refine(agB yI auG.out hm hlo l bb (9-1) Z W (fun pre x Y W1 hx hp h=>hY pre x Y W1 ⟨hx,hp⟩ h) h0).mono ?_;rintro e W' ⟨h1,h3⟩;exact⟨h1,ns,_,⟨rfl,rfl⟩,h3⟩
 case assign=>
  intro l pre x Y W K hx hS hK;have hS2:=yI.new hS (.cells #[aC x.path,iV x.file,iV x.mode] 68);have hK2:=Lh (fun a1 (e:a1=_)=>hK a1 _ ⟨W.heap.size,e,hS2⟩);clear hK hS2 hS hst hAx;unfold ac8 aC at*
  gi_wp2
  exact hK2.out _ rfl
 case body=>
  rintro l pre x a1 Y W ⟨hx,hpl⟩ ⟨bs,e1,hA⟩;unfold aCE at e1;subst e1;obtain⟨L,hk,hpre,h4⟩:=hA;have h5:Sep w W (.box bs 68 #[aC x.path,iV x.file,iV x.mode]:: .box b5 157 #[.map (some bk)]::l8 9 bk L:: .box b1 25 #[nv,fv]::Y):=h4.perm (agI _ _ _ _ _);clear h4;have hnx:=axY ho'.out hpl;have hpx:pre=ns.take pre.length:=hx;rw[<-hpx]at hnx;have hxp:x.path.length<=1048576:=dD (ho'.out.mem (gG hpl)).1;have aHL:(bA x.path).length<=1048576:=by
   unfold bA;split
   ·rw[qQ];omega
   simp
  have hX:=h5.drew;have SQ:=h5.sD 2 rfl;have hE0:=And.intro (hX.bC 1 rfl 0) (hX.bC 0 rfl 0);simp only[gA,gB]at hE0;have MK:=Lh (QT (p:=x.path) aI W.drew);have hget:=hk.get SQ hnx.up;obtain⟨pp,hpp⟩:∃pp,pp=bA x.path:=⟨_,rfl⟩;rw[<-hpp]at MK hget aHL;have hX':=Lh hX;replace hpp:=Lh hpp;(have hLl:L.length<maxLen:=by have h1:=hk.length_eq;rw[iT]at h1;have h2:=YO pre;have h3:pre.length<ns.length:=(gF.1 hpl).1;have:=hm.few;unfold maxLen;omega);(have hcb:(mW pre pp:Int)<=300:=by have h1:mW pre pp<=pre.length:=RG ..;have h3:pre.length<ns.length:=(gF.1 hpl).1;have:=hm.few;omega);(have hc0:(0:Int)<=(mW pre pp:Int):=by omega);(have hwr:IntKind.i64.wrap ((mW pre pp:Int)+1)=(mW pre pp:Int)+1:=by simp[IntKind.wrap,IntKind.bits,IntKind.signed];omega);replace hLl:=Lh hLl;clear h5 hX hst hAx hx hpre;replace hpx:=Lh hpx;replace hpl:=Lh hpl;replace hk:=Lh hk;replace hget:=Lh hget;replace hnx:=Lh hnx;replace SQ:=Lh SQ
  gi_wp2
  refine TA (S:=fun w'=>w'.cell? ⟨b5,0,none⟩=some (.map (some bk))/\w'.cell? ⟨bs,0,none⟩=some (aC x.path)) 6 fT (fun hlo=>by obtain⟨a,w,h⟩:=hlo;exact absurd h.1 bK) (aq4 fT) ?_;simp only[kJ,kM,rF,Nat.reduceAdd];refine aA 0 hE0 ?_;refine aA 1 hE0 ?_;refine aA 2 hE0 ?_;(refine bH 3 fun K hK=>?_);go_simp;go_at_call 105;refine MK.out.mono ?_;rintro e w4 ⟨rfl,hb⟩;have mY:=hX'.out.pure hb;have F8:w4.cell? ⟨b5,0,none⟩=some (.map (some bk))/\w4.cell? ⟨bs,0,none⟩=some (aC x.path):=⟨mY.bC 1 rfl 0,mY.bC 0 rfl 0⟩;have hlk:=mY.XH 2 rfl eY Tryz.underlying157 (oQ w4) (eP pp vE);rw[hget.out]at hlk;simp only[IW]at hlk;unfold uP at hlk;have YM:=Lh mY;clear mY hb MK hX';dsimp only;refine hK _ _ (fun _=>F8) ?_;clear hK K;(try simp only[Act.put,gD]);refine bG 4 (fun _=>F8) ?_;refine bG 5 (fun _=>F8) ?_;obtain⟨w6,hmu,SY⟩:=YM.out.l5 2 rfl eY Tryz.underlying157 hLl.out (v:=.int .i64 ((mW pre pp:Int)+1)) (eP pp vE);have LZ:=Lh SY;clear SY YM hlk hE0;refine bG 6 (fun h=>absurd rfl h) ?_;refine aS fT ?_ _;have y1:w6.cell? ⟨bs,1,none⟩=some (iV x.file):=LZ.out.bC 0 rfl 1;clear hmu F8;by_cases hf:x.file= -1
  ·have hbp:=hk.out.bump hnx.out.nodup hnx.out.up;rw[<-hpp.out]at hbp;(have hgn:getM (p8 L (.string pp) (.int .i64 ((mW pre pp:Int)+1))) (.string x.path)=none:=getM_none (show WideAt.IsKeyLit (.string x.path)from trivial) fun y hy e=>by obtain⟨q,hq,rfl⟩:=List.mem_map.1 (hbp.mem_iff.1 hy);simp only[Lit.string.injEq]at e;exact hnx.out.no (e▸hq));have y5:w6.cell? ⟨b5,0,none⟩=some (.map (some bk)):=LZ.out.bC 1 rfl 0;have y0:w6.cell? ⟨bs,0,none⟩=some (aC x.path):=LZ.out.bC 0 rfl 0;have hlk2:=LZ.out.XH 2 rfl eY Tryz.underlying157 (oQ w6) (eP x.path vE);rw[hgn]at hlk2;simp only[MW]at hlk2;(have hL2:(p8 L (.string pp) (.int .i64 ((mW pre pp:Int)+1))).length<maxLen:=by have h1:=hbp.length_eq;rw[iT]at h1;have h2:=YO pre;have h3:pre.length<ns.length:=(gF.1 hpl.out).1;have:=hm.few;unfold maxLen;omega);obtain⟨w7,aN4,hX7⟩:=LZ.out.l5 2 rfl eY Tryz.underlying157 hL2 (v:=.int .i64 0) (eP x.path vE);have hnew:=hk.out.dir hnx.out.nodup hnx.out.up hf hnx.out.no hnx.out.zero;rw[<-hpp.out]at hnew;have hX8:agG w ns b1 b5 bk nv fv (pre++[x]) Y w7:=⟨_,hnew,V3 hpx.out hpl.out,((hX7.perm (agI _ _ _ _ _).symm).drop 1)⟩;replace hX8:=Lh hX8;clear LZ hX7 hnew hbp hgn hL2;rw[hf]at y1
   gi_wp2
   first |exact hX8.out|exact⟨rfl,hX8.out⟩
  (have hbe:(x.file== -1)=false:=by rw[kD];exact hf);have hnew:=hk.out.file hnx.out.nodup hnx.out.up hf;rw[<-hpp.out]at hnew;have hX7:agG w ns b1 b5 bk nv fv (pre++[x]) Y w6:=⟨_,hnew,V3 hpx.out hpl.out,((LZ.out.perm (agI _ _ _ _ _).symm).drop 1)⟩;replace hX7:=Lh hX7;clear LZ hnew
  gi_wp2
  first |exact hX7.out|exact⟨rfl,hX7.out⟩
 rintro D xs Y1 Y2 W ⟨rfl,rfl⟩ hS;obtain⟨L,hk,_,h4⟩:=hS;have h5:Sep w W (l8 9 bk L:: .box b5 157 #[.map (some bk)]:: .box b1 25 #[nv,fv]:: .obj D (.deferred (some [])):: .box bb 25 #[nv,fv]::Y2):=h4.perm (ax2 _ _ _ _ _ _);clear h4;have SQ:=h5.sD 0 rfl;have y5:=h5.bC 1 rfl 0;simp only[gA,gB]at y5;obtain⟨w4,hrg,hS1,hsz⟩:=h5.NY 0 rfl eY Tryz.underlying157;have hS2:=Lh (hS1.iO 53 1);clear h5 hS1 hst hAx hsz;go_wp2_with fail;obtain⟨i0,JA,hz0,hz1,hz2⟩:=info_parts agH;have hmp:(mV xs).length<=300:=by have h2:=YO xs;have:=ho'.out.few;omega
 go_loopg[6] L.length (fun g v6 wr=>∃(left:List (Lit×Value)) (qs:List (List UInt8)),Hid (g=left.length)/\Hid ((left++qs.map fun q=>(Lit.string q,uP xs q)).Perm ((mV xs).map fun q=>(Lit.string q,uP xs q)))/\Hid (left.Sublist L)/\Sep w wr (.sl 53 1 v6 qs.length (qs.map fun q=>cv (fJ 1 (mW xs q),1))::vH 9 bk W.heap.size L.length L left:: .box b5 157 #[.map (some bk)]:: .box b1 25 #[nv,fv]:: .obj D (.deferred (some [])):: .box bb 25 #[nv,fv]::Y2))
 case atStart=>exact⟨L,[],Lh rfl,Lh (by rw[LD,yX42];exact hk),Lh (List.Sublist.refl _),hS2.out⟩
 obtain⟨left,qs,hg,hp,hsub,hS⟩:=hrel;clear hS2;rcases hS.KO 1 rfl eY 0 with⟨hnil,hnx⟩|⟨key,v,kl,w3,hkey,hmem,hnx,eZ,ae8,hen⟩
 ·subst hnil;have hq:=auM hp.out;clear hp;obtain⟨A2,c2,e2,_⟩:=h'.out.files.shape;subst e2;have y1:=hS.bC 3 rfl 1;simp only[gA,gB,gC]at y1;have eZ:=Lh (((hS.perm (ax3 _ _ _)).drop 1));have hqs:=Lh hq;(have hql:qs.length<=300:=by rw[hq.length_eq];exact hmp);clear hS hg hsub hq hrg y5 hmm SQ hk;(have hfl:(F.length:Int)<=300:=by have:=hm.JX;have:=ho'.out.JX;omega);replace hlo:=Lh hlo;replace hmp:=Lh hmp;have agK:=Lh hql;clear hql;go_wp2_with fail;go_loopw[6,50] (fun v6 iv wr=>∃k:Nat,k<=F.length/\iv=iV k/\Sep w wr (.sl 53 1 v6 (qs.length+k) ((DW xs qs (F.take k)).map cv):: .box b5 157 #[.map (some bk)]:: .box b1 25 #[nv,.slice A2 F.length c2]:: .obj D (.deferred (some [])):: .box bb 25 #[nv,.slice A2 F.length c2]::Y2)) (fun _ iv _=>F.length-(intOf iv).toNat)
  case atStart=>exact⟨0,fZ _,rfl,by simpa[DW,Function.comp_def,cv]using eZ.out⟩
  clear eZ y1;obtain⟨k,hk,rfl,hS⟩:=hrel;(have c0:(0:Int)<=(k:Int):=by omega);by_cases hlt:k<F.length
  ·(have c1:(k:Int)<(F.length:Int):=by omega);obtain⟨g,o,c,e,_,_,_,hcell⟩:=h'.out.files.place aI aR;cases e;obtain⟨f,he⟩:∃f,F[k]? =some f:=⟨_,gE hlt⟩;obtain⟨u,hu⟩:∃u,vs[k]? =some u:=⟨_,gE (by rw[h'.out.len];exact hlt)⟩;obtain⟨A9,c9,rfl,_⟩:=(h'.out.data k u f hu he).shape;have x0:=(hcell wr hS.below (k*2) aI).trans (fM he hu 0 aI);have x1:=(hcell wr hS.below (k*2+1) aI).trans (fM he hu 1 aI);simp only[tfC,gB,gC,<-vX]at x0 x1;have hsz:f.size<=8192:=ho'.out.size f (gG he);(have hdr:=fun W=>al2 (k:=f.size) aI W);obtain⟨X1,X2,hx0⟩:∃X1 X2,Value.complex .f64 X1 X2=cv (fJ 2 f.size,1):=⟨_,_,rfl⟩;have hone:(Value.complex .f64 X1 X2).oneCell'=true:=rfl;rw[<-hx0]at hdr;obtain⟨A6,c6,e6,hx6⟩:=hS.gT 0 rfl;clear hx6;subst e6;have hX:=hS.bN 71 #[iV f.mode,.slice A9 f.size c9];have z1:=hX.bC 0 rfl 1;simp only[gA,gB,gC]at z1;have lX:=Lh (hX.alloc (.cells #[.complex .f64 X1 X2] 53));have hrd:=agE (.complex .f64 X1 X2) (wr.alloc (.cells #[iV f.mode,.slice A9 f.size c9] 71)) 53 hone;rw[World.size_alloc]at hrd;replace hrd:=Lh hrd;replace hone:=Lh hone;replace hx0:=Lh hx0;have htk:Hid (F.take (k+1)=F.take k++[f]):=Lh (by rw[pX,he];rfl);clear hS hX he hu hcell hsz;go_wp2_with(first |(go_at_call 112;refine(hdr _).mono ?_;rintro e w' ⟨rfl,hw'⟩;(have GI:=hw'.symm);subst GI;clear hdr)|(at_builtin;go_loud (refine dH 1 rfl _ _ 162 rfl 53 i0 _ 1 16 Tryz.underlying162 JA hz0 hz1 hz2 rfl aR lX.out _ (qs.length+k) _ rfl rfl _ 1 [.complex .f64 X1 X2] rfl hrd.out oCl (by have:=agK.out;unfold maxLen;omega) (by have:=agK.out;omega) ?_);intro v5 w5 hS5 hz5;replace hS5:=Lh hS5;clear lX hrd hz5));(have hcell:((DW xs qs (F.take k)).map cv)++[Value.complex .f64 X1 X2]=(DW xs qs (F.take (k+1))).map cv:=by rw[htk.out,hx0.out];unfold DW;rw[mM,mM,mM,mM,<-nT];rfl);go_roundw
   case rel=>exact⟨k+1,by omega,by go_num,by rw[<-hcell];exact hS5.out.drop 1⟩
   case measure=>simp[intOf];omega
  (have hke:k=F.length:=by omega);subst hke;rw[RI]at hS;have hrd:=hS.rd 0 rfl;have hln:qs.length+F.length=(DW xs qs F).length:=adB.symm;rw[hln]at hrd;have hsu:=auJ hrd (auK ho'.out.few ho'.out.size) (by rw[<-hln];have:=agK.out;omega) (aq2 ho'.out.few ho'.out.size (by have:=agK.out;omega));rw[aq3 ho'.out hqs.out]at hsu;obtain⟨Z,hZ⟩:∃Z,cv (uF xs (mK F),nP xs)=Z:=⟨_,rfl⟩;rw[hZ]at hsu;have hZ':Hid (jC (uF xs (mK F)) (nP xs)=Z):=Lh hZ;have hS5:=Lh hS;have aCI:=Lh hsu;clear hS hrd hln hsu hZ;go_wp2_with(go_at_call 113;refine aCI.out.mono ?_;rintro e w9 ⟨rfl,zO⟩;(have mG:=Lh (hS5.out.pure zO));clear hS5 aCI zO);refine⟨by simp,.inl ⟨_,_,rfl,run_takeDeferred (mG.out.ab2 3 rfl),?_⟩⟩;have FE:=mG.out.putObj 3 (.deferred none) rfl;exact⟨.tuple #[Z,iV 0],by simp[results,Tryz.f41,go_sem],by rw[hZ'.out],FE.below⟩
 have aCJ:=hp.out.mem_iff.1 (uT _ hmem);obtain⟨q,hq,e⟩:=List.mem_map.1 aCJ;have e1:kl= .string q:=(congrArg Prod.fst e).symm;have e2:v=uP xs q:=(congrArg Prod.snd e).symm;subst e1;subst e2;have hls:=left_step hsub.out SQ hmem;have hcb:mW xs q<=1000:=by have h1:mW xs q<=xs.length:=RG ..;have:=ho'.out.few;omega
 have hdr:=fun W=>aq0 hcb W
 have hql:qs.length<=300:=by have h1:=hp.out.length_eq;rw[jJ,iT,iT]at h1;omega
 obtain⟨X1,X2,hx0⟩:∃X1 X2,Value.complex .f64 X1 X2=cv (fJ 1 (mW xs q),1):=⟨_,_,rfl⟩;have hone:(Value.complex .f64 X1 X2).oneCell'=true:=rfl;rw[<-hx0]at hdr;obtain⟨A6,c6,e6,hx6⟩:=eZ.gT 0 rfl;clear hx6;subst e6;have lX:=Lh (eZ.alloc (.cells #[.complex .f64 X1 X2] 53));have hrd:=Lh (agE (.complex .f64 X1 X2) w3 53 hone);unfold uP at hnx hen;replace hone:=Lh hone;replace hx0:=Lh hx0;replace hls:=Lh hls;clear eZ hS aCJ e hmem hkey hq hcb ae8 hrg y5 hmm;replace hlo:=Lh hlo;replace hmp:=Lh hmp;replace hk:=Lh hk;replace SQ:=Lh SQ;have agK:=Lh hql;clear hql;obtain⟨m,hm9⟩:∃m:Nat,m=mW xs q:=⟨_,rfl⟩;rw[<-hm9]at hnx hen hdr;replace hm9:=Lh hm9;go_wp2_with(first |(go_at_call 111;refine(hdr _).mono ?_;rintro e w' ⟨rfl,hw'⟩;(have GI:=hw'.symm);subst GI;clear hdr)|(at_builtin;go_loud (refine dH 0 rfl _ _ 162 rfl 53 i0 _ 1 16 Tryz.underlying162 JA hz0 hz1 hz2 rfl aR lX.out _ qs.length _ rfl rfl _ 1 [.complex .f64 X1 X2] rfl hrd.out oCl (by have:=agK.out;unfold maxLen;omega) (by have:=agK.out;omega) ?_);intro v5 w5 hS5 hz5;replace hS5:=Lh hS5;clear lX hrd hz5));have hcell:(qs.map fun q=>cv (fJ 1 (mW xs q),1))++[Value.complex .f64 X1 X2]=(qs++[q]).map fun q=>cv (fJ 1 (mW xs q),1):=by rw[mM,LB,hx0.out]
 have hlen1:=hls.out.length_eq;rw[kM]at hlen1;have hg1:=hg.out;go_roundg (gk-1)
 case rel=>
  refine⟨mU left (.string q),qs++[q],Lh aI,Lh ?_,Lh (FO.trans hsub.out),?_⟩
  ·rw[mM,LB,<-nT];refine List.Perm.trans ?_ hp.out;refine(Y5 _ _).trans ?_;exact(hls.out.append_right _).symm
  rw[jJ,nZ,<-hcell];exact hS5.out
 case measure=>omega
end Go.Proofs.YtmjomdkleikgbaaGreat
namespace Go.Proofs.YtmjomdkleikgbaaGreat
open Go.RowKit
theorem Z41 {P:Prop} (h:P:=by simp only[K6,gB,gC,<-vX,uY]at x0 x1 x2;exact⟨x0,x1,x2⟩):P:=h
theorem Z62 {P:Prop} (h:P:=by simp only[tfC,gB,gC,<-vX,uY]at x0 x1;exact⟨x0,x1⟩):P:=h
theorem al3 {w:World} {nv fv nv' fv':Value} {ns:List TN} {fs:List TF} {vs vs':List Value} (h1:iR w nv fv ns fs vs) (h2:iR w nv' fv' ns fs vs') (hm:rP ns fs):
  Calls Tryz.prog 21 #[.agg #[nv,fv],.agg #[nv',fv']] w fun e w'=>e= .returned (.bool true)/\Below w.heap.size w w':=by
 have hS0:=((Sep.nil w).bN 25 #[nv,fv]).bN 25 #[nv',fv'];simp only[World.size_alloc]at hS0;obtain⟨A1,ca1,rfl,_⟩:=h1.nodes.shape;obtain⟨A2,ca2,rfl,_⟩:=h1.files.shape;obtain⟨B1,cb1,rfl,_⟩:=h2.nodes.shape;obtain⟨B2,cb2,rfl,_⟩:=h2.files.shape;have b1:(ns.length:Int)<=300:=by have:=hm.few;omega
 have b2:(fs.length:Int)<=300:=by have:=hm.JX;omega
 have e1:((ns.length:Int) !=(ns.length:Int))=false:=by simp
 have e2:((fs.length:Int) !=(fs.length:Int))=false:=by simp
 have hcl:∀W,Below ((w.alloc (.cells #[.slice A1 ns.length ca1,.slice A2 fs.length ca2] 25)).alloc (.cells #[.slice B1 ns.length cb1,.slice B2 fs.length cb2] 25)).heap.size ((w.alloc (.cells #[.slice A1 ns.length ca1,.slice A2 fs.length ca2] 25)).alloc (.cells #[.slice B1 ns.length cb1,.slice B2 fs.length cb2] 25)) W->(W.cell? ⟨w.heap.size,0,none⟩=some (.slice A1 ns.length ca1)/\W.cell? ⟨w.heap.size,1,none⟩=some (.slice A2 fs.length ca2)/\W.cell? ⟨w.heap.size+1,0,none⟩=some (.slice B1 ns.length cb1)/\W.cell? ⟨w.heap.size+1,1,none⟩=some (.slice B2 fs.length cb2))/\Below w.heap.size w W:=fun W hW=>by have h:=hS0.pure hW;exact⟨⟨h.bC 1 rfl 0,h.bC 1 rfl 1,h.bC 0 rfl 0,h.bC 0 rfl 1⟩,h.below⟩
 have hcl':=Lh hcl;obtain⟨⟨z0,z1,z2,z3⟩,_⟩:=hcl _ (Below.refl _ _);have h1':=Lh h1;have h2':=Lh h2;have hm':=Lh hm;clear hS0 hcl h1 h2 hm;go_enter Tryz.func21,Tryz.ntmps21;go_wp2_with fail;generalize hW0:(w.alloc (.cells #[.slice A1 ns.length ca1,.slice A2 fs.length ca2] 25)).alloc (.cells #[.slice B1 ns.length cb1,.slice B2 fs.length cb2] 25)=w0 at hcl' ⊢;clear hW0 z0 z1 z2 z3;go_loopw[5] (fun iv wr=>∃i:Nat,i<=ns.length/\iv=iV i/\Below w0.heap.size w0 wr) (fun iv _=>ns.length-(intOf iv).toNat)
 case atStart=>exact⟨0,fZ _,rfl,Below.refl _ _⟩
 obtain⟨i,hi,rfl,hb⟩:=hrel;have q0:(0:Int)<=(i:Int):=by omega
 obtain⟨⟨z0,z1,z2,z3⟩,hbw⟩:=hcl'.out wr hb;have hbq:∀n,Below w0.heap.size w0 (wr.drewN n):=fun n=>hb.trans ((((Sep.nil wr).drewN n).below).mono hb.size)
 by_cases hlt:i<ns.length
 ·(have q1:(i:Int)<(ns.length:Int):=by omega);(have hcq:=fun n=>(hcl'.out _ (hbq n)).1);(have aN7:=fun n=>(hcq n).1);(have aN8:=fun n=>(hcq n).2.2.1);obtain⟨ga,oa,cca,ea,_,_,_,hca⟩:=h1'.out.nodes.place aI aR;cases ea;obtain⟨gb,ob,ccb,eb,_,_,_,hcb⟩:=h2'.out.nodes.place aI aR;cases eb;obtain⟨n,hn⟩:∃n,ns[i]? =some n:=⟨_,gE hlt⟩;(have ca:∀W,Below w.heap.size w W->W.cell? ⟨ga,oa+i*3,none⟩=some (aC n.path)/\W.cell? ⟨ga,oa+i*3+1,none⟩=some (iV n.file)/\W.cell? ⟨ga,oa+i*3+2,none⟩=some (iV n.mode):=fun W hW=>by have x0:=(hca W hW (i*3+0) aI).trans (dE hn 0 aI);have x1:=(hca W hW (i*3+1) aI).trans (dE hn 1 aI);have x2:=(hca W hW (i*3+2) aI).trans (dE hn 2 aI);exact Z41);(have cb:∀W,Below w.heap.size w W->W.cell? ⟨gb,ob+i*3,none⟩=some (aC n.path)/\W.cell? ⟨gb,ob+i*3+1,none⟩=some (iV n.file)/\W.cell? ⟨gb,ob+i*3+2,none⟩=some (iV n.mode):=fun W hW=>by have x0:=(hcb W hW (i*3+0) aI).trans (dE hn 0 aI);have x1:=(hcb W hW (i*3+1) aI).trans (dE hn 1 aI);have x2:=(hcb W hW (i*3+2) aI).trans (dE hn 2 aI);exact Z41);(have EY:=fun n=>(hcl'.out _ (hbq n)).2);obtain⟨p0,p1,p2⟩:=ca wr hbw;obtain⟨r0,r1,r2⟩:=cb wr hbw;(have P0:=fun n=>(ca _ (EY n)).1);(have P1:=fun n=>(ca _ (EY n)).2.1);(have P2:=fun n=>(ca _ (EY n)).2.2);(have R0:=fun n=>(cb _ (EY n)).1);(have R1:=fun n=>(cb _ (EY n)).2.1);(have R2:=fun n=>(cb _ (EY n)).2.2);have ax4:=Lh hbq;unfold aC at*;clear hca hcb hn ca cb EY hcq hb hbq hbw;go_wp2_with fail;go_quiet (fail);go_wp2_with fail;go_roundw
  case rel=>exact⟨i+1,by omega,by go_num,ax4.out _⟩
  case measure=>simp[intOf];omega
 have hie:i=ns.length:=by omega
 subst hie;have hb':=Lh hb;clear hb hbq hbw;go_wp2_with fail;clear z0 z1 z2 z3;go_loopw[6] (fun iv wr=>∃j:Nat,j<=fs.length/\iv=iV j/\Below w0.heap.size w0 wr) (fun iv _=>fs.length-(intOf iv).toNat)
 case atStart=>exact⟨0,fZ _,rfl,hb'.out⟩
 clear hb';obtain⟨j,hj,rfl,hb⟩:=hrel;have s0:(0:Int)<=(j:Int):=by omega
 obtain⟨⟨z0,z1,z2,z3⟩,hbw⟩:=hcl'.out wr hb;have hbq:∀n,Below w0.heap.size w0 (wr.drewN n):=fun n=>hb.trans ((((Sep.nil wr).drewN n).below).mono hb.size)
 by_cases hlt:j<fs.length
 ·(have s1:(j:Int)<(fs.length:Int):=by omega);(have hcq:=fun n=>(hcl'.out _ (hbq n)).1);(have aOB:=fun n=>(hcq n).2.1);(have aOC:=fun n=>(hcq n).2.2.2);obtain⟨ga,oa,cca,ea,_,_,_,hca⟩:=h1'.out.files.place aI aR;cases ea;obtain⟨gb,ob,ccb,eb,_,_,_,hcb⟩:=h2'.out.files.place aI aR;cases eb;obtain⟨f,hf⟩:∃f,fs[j]? =some f:=⟨_,gE hlt⟩;obtain⟨u,hu⟩:∃u,vs[j]? =some u:=⟨_,gE (by rw[h1'.out.len];exact hlt)⟩;obtain⟨u2,hu2⟩:∃u,vs'[j]? =some u:=⟨_,gE (by rw[h2'.out.len];exact hlt)⟩;obtain⟨bs,hbs⟩:∃b,b=f.bs:=⟨_,rfl⟩;(have by1:BytesAt w u bs:=by obtain⟨cs,h3,_,h4⟩:=h1'.out.data j u f hu hf;subst h4;rw[hbs];exact h3);(have by2:BytesAt w u2 bs:=by obtain⟨cs,h3,_,h4⟩:=h2'.out.data j u2 f hu2 hf;subst h4;rw[hbs];exact h3);obtain⟨Au,cu,rfl,_⟩:=Rd.shape by1;obtain⟨Bu,du,rfl,_⟩:=Rd.shape by2;(have ca:∀W,Below w.heap.size w W->W.cell? ⟨ga,oa+j*2,none⟩=some (iV f.mode)/\W.cell? ⟨ga,oa+j*2+1,none⟩=some (.slice Au bs.length cu):=fun W hW=>by have x0:=(hca W hW (j*2+0) aI).trans (fM hf hu 0 aI);have x1:=(hca W hW (j*2+1) aI).trans (fM hf hu 1 aI);exact Z62);(have cb:∀W,Below w.heap.size w W->W.cell? ⟨gb,ob+j*2,none⟩=some (iV f.mode)/\W.cell? ⟨gb,ob+j*2+1,none⟩=some (.slice Bu bs.length du):=fun W hW=>by have x0:=(hcb W hW (j*2+0) aI).trans (fM hf hu2 0 aI);have x1:=(hcb W hW (j*2+1) aI).trans (fM hf hu2 1 aI);exact Z62);(have EY:=fun n=>(hcl'.out _ (hbq n)).2);obtain⟨p0,p1⟩:=ca wr hbw;obtain⟨r0,r1⟩:=cb wr hbw;(have P0:=fun n=>(ca _ (EY n)).1);(have P1:=fun n=>(ca _ (EY n)).2);(have R0:=fun n=>(cb _ (EY n)).1);(have R1:=fun n=>(cb _ (EY n)).2);(have v1:=fun n=>gM (by1.below (EY n)));(have v2:=fun n=>gM (by2.below (EY n)));have v10:=gM (by1.below hbw);have v20:=gM (by2.below hbw);have ax4:=Lh hbq;(have em:(f.mode !=f.mode)=false:=by simp);unfold aC at*;generalize(⟨bs.toArray⟩:ByteArray)=S at*;generalize bs.length=n at*;clear hca hcb hf hu hu2 hbs by1 by2 ca cb EY hcq hb hbq hbw;go_wp2_with fail;go_quiet (fail);go_wp2_with fail;go_roundw
  case rel=>exact⟨j+1,by omega,by go_num,ax4.out _⟩
  case measure=>simp[intOf];omega
 have hje:j=fs.length:=by omega
 subst hje;have aHN:=Lh hbw;clear hb hbq hbw;go_wp2_with fail;go_ret;exact⟨rfl,aHN.out⟩
theorem BN (x:Int) (w:World):Calls Tryz.prog 16 #[iV x] w fun e w'=>e= .returned (iV x)/\w=w':=by go_enter Tryz.func16,Tryz.ntmps16;go_wp2;go_ret;exact⟨rfl,rfl⟩
section
variable {w0 w:World} {R:List aV}
theorem QX {b i n:Nat} (hn:n=98+(i+7)/8+b) (hb:1<=b) (hn4:n<=4096) (hi:2<=i) (hi2:i<=1024) (h:Sep w0 w R):
  Calls Tryz.prog 14 #[iV b,iV i] w fun e w'=>∃f q p,e= .returned (.tuple #[pV p,pV f,.bool true])/\Sep w0 w' (bE f q p (VS.new n i)::R):=by
 have hnew:Hid (∀W,Sep w0 W R->Calls Tryz.prog 37 #[iV n] W fun e w'=>∃p,e= .returned (.tuple #[pV p,iV 0])/\Sep w0 w' (aN p (DK.fresh n)::R)):=Lh fun W hW=>atB aI hn4 hW
 have hfmt:Hid (∀W p,Sep w0 W (aN p (DK.fresh n)::R)->Calls Tryz.prog 38 #[pV p,iV i] W fun e w'=>∃f q,e= .returned (.tuple #[pV f,iV 0])/\Sep w0 w' (bE f q p (VS.new n i)::R)):=Lh fun W p hW=>ae7 aI hn4 hi hi2 hW
 have q0:(1:Int)<=b:=by omega
 have q1:(n:Int)<=4096:=by omega
 have q2:(2:Int)<=i:=by omega
 have q3:(i:Int)<=1024:=by omega
 have e0:Int.tdiv ((i:Int)+7) 8=((i+7)/8:Nat):=by rw[ai1 aI];omega
 obtain⟨P,hP⟩:∃P,P=(i+7)/8:=⟨_,rfl⟩;rw[<-hP]at hn e0;have q4:(P:Int)<=129:=by omega
 have e1:(98:Int)+(P:Int)+b=n:=by omega
 have w1:IntKind.i64.wrap ((i:Int)+7)=(i:Int)+7:=IntWalk.i64_in _ aI;have w2:IntKind.i64.wrap ((98:Int)+P)=(98:Int)+P:=IntWalk.i64_in _ aI;have w3:IntKind.i64.wrap ((98:Int)+P+b)=n:=by rw[e1];exact IntWalk.i64_in _ aI
 have h1:=Lh h;have w4:IntKind.i64.wrap (P:Int)=P:=IntWalk.i64_in _ aI;clear hn hb hn4 hi hi2 h hP;go_enter Tryz.func14,Tryz.ntmps14;go_wp2_with(first |(go_at_call 37;refine(hnew.out _ h1.out).mono ?_;rintro e wn ⟨p,rfl,hS⟩;have h2:=Lh hS;clear hS h1 hnew)|(go_at_call 38;refine(hfmt.out _ _ h2.out).mono ?_;rintro e wf ⟨f,q,rfl,hS⟩;have h3:=Lh hS;clear hS h2 hfmt)|(go_at_call 16;refine(BN _ _).mono ?_;rintro e w2 ⟨rfl,rfl⟩))
 go_ret3
 exact⟨f,q,p,rfl,h3.out⟩
end
theorem al4 {ns:List TN} {fs:List TF} (h:gW ns fs=0):gQ ns fs:=by
 unfold gW at h;cases hb:lJ ns fs with
 |true=>rw[hb,if_pos rfl]at h;cases h
 |false=>
  rw[hb,if_neg aR]at h;split at h
  ·rename_i h2;unfold lJ at hb;rw[WG,WG,adX,adX,ahB]at hb;refine⟨by omega,by omega,fun f hf=>?_,fun f hf=>List.all_eq_true.1 h2.2 f hf,h2.1⟩;have:=hb.2 f hf;unfold JY at this;rw[uQ]at this;omega
  cases h
theorem IJ :gW MR SN=0:=by kernel_rfl
theorem aiQ :rP MR SN:=⟨by decide,by decide,fun n hn=>by
 have:n.path.length<=3:=by simp only[MR,jU,DF,or_false]at hn;rcases hn with rfl|rfl|rfl<;>decide
 omega,fun f hf=>by
 simp only[SN,jU,DF,or_false]at hf;subst hf;show 2<=_
 decide⟩
theorem adF :gQ MR SN:=al4 IJ
theorem aq5 :∀n∈MR,n.path.length<=200:=fun n hn=>by simp only[MR,jU,DF,or_false]at hn;rcases hn with rfl|rfl|rfl<;>decide
theorem auN :vT 120 16 MR (mK SN)=true:=by kernel_rfl
theorem auO :acJ (MR,SN) MR (mK SN):=by have h:=afY (ns:=MR) (fs:=mK SN) (by rw[acS adF.aiC];exact adF);rw[acS adF.aiC]at h;exact h
theorem auP :((0<=uF MR (mK SN)/\uF MR (mK SN)<=D9 120 16/\D9 120 16<=4096)/\(0<=nP MR/\nP MR<=(16:Nat)/\(16:Nat)<=1024)):=of_decide_eq_true fT
section
variable {w0 w:World} {R:List aV}
theorem agL (h:Sep w0 w R):Calls Tryz.prog 8 #[] w fun e w'=>e= .returned (.bool true)/\Sep w0 w' R:=by
 have hfr:=Lh (QX (b:=20) (i:=16) (n:=120) rfl aR aR aR aR h);have hL0:=ab5 (n:=120) (names:=16) aR aR aR aR;obtain⟨S0,hS0⟩:∃S0,S0=VS.new 120 16:=⟨_,rfl⟩;rw[<-hS0]at hfr hL0;have hsm:Hid (∀W Y,Sep w0 W Y->Calls Tryz.prog 30 #[] W fun e w'=>∃g,e= .returned (.agg #[sV g 3 3,sV (g+2) 1 1])/\Sep w0 w' (smX g++Y)):=Lh fun W Y hW=>af1 hW
 have hly:Hid (∀W f q p g,Sep w0 W (smX g++(bE f q p S0::R))->Calls Tryz.prog 15 #[pV f,.agg #[sV g 3 3,sV (g+2) 1 1]] W fun e w'=>e= .returned (iV 0)/\∃S',gX S' MR (mK SN) 120 16/\Sep w0 w' (bE f q p S'::(smX g++R))):=Lh fun W f q p g hW=>
  aqV (vs:=[sV (g+1) 2 2]) hL0 adF aiQ IJ auN (fun W hT=>agJ hT aiQ adF IJ) auP (fun W X hS=>sm_at hS) (hW.perm lN)
 have hsc:Hid (∀W f q p S' Y,gX S' MR (mK SN) 120 16->Sep w0 W (bE f q p S'::Y)->Calls Tryz.prog 19 #[pV f] W fun e w'=>∃nv fv vs S'',e= .returned (.tuple #[.agg #[nv,fv],iV 0])/\vs.length=SN.length/\Sep w0 w' (nE nv fv MR SN vs++(bE f q p S''::Y))):=Lh fun W f q p S' Y hL hW=>
  (aqR auO hL aq5 aR aiQ IJ hW).mono fun e w' ⟨nv,fv,vs,S'',h1,h2,_,_,h3⟩=>⟨nv,fv,vs,S'',h1,h2,h3⟩
 clear hS0 hL0 h;go_enter Tryz.func8,Tryz.ntmps8;go_wp2_with(first |(go_at_call 14;go_loud (refine hfr.out.mono ?_;rintro e wn ⟨f,q,p,rfl,hS⟩;have h1:=Lh hS;clear hS hfr))|(go_at_call 30;go_loud (refine(hsm.out _ _ h1.out).mono ?_;rintro e ws ⟨g,rfl,hS⟩;have h2:=Lh hS;clear hS h1))|(go_at_call 15;go_loud (refine(hly.out _ _ _ _ _ h2.out).mono ?_;rintro e wl ⟨rfl,S1,hL1,hS⟩;have h3:=Lh hS;have hL2:=Lh hL1;clear hS hL1 h2 hly))|(go_at_call 19;go_loud (refine(hsc.out _ _ _ _ _ _ hL2.out h3.out).mono ?_;rintro e wc ⟨nv,fv,vs,S2,rfl,hvl,hS⟩;obtain⟨A8,c8,e8,_⟩:=hS.gT 0 rfl;subst e8;obtain⟨A9,c9,e9,_⟩:=hS.gT 1 rfl;subst e9;have h4:=Lh hS;clear hS hL2 h3 hsc)));obtain⟨nv,hnv⟩:∃nv,nv=Value.slice A8 MR.length c8:=⟨_,rfl⟩;obtain⟨fv,hfv⟩:∃fv,fv=Value.slice A9 SN.length c9:=⟨_,rfl⟩;rw[<-hnv,<-hfv]at h4 ⊢;clear hnv hfv;have h5:=h4.out.bN 25 #[nv,fv];obtain⟨b5,hb5⟩:∃b,b=wc.heap.size:=⟨_,rfl⟩;obtain⟨wd,hwd⟩:∃w',w'=wc.alloc (.cells #[nv,fv] 25):=⟨_,rfl⟩;rw[<-hb5,<-hwd]at h5 ⊢;have hD:=h5.drew;have hE:wd.drew.cell? ⟨b5,0,none⟩=some nv/\wd.drew.cell? ⟨b5,1,none⟩=some fv:=⟨hD.bC 0 rfl 0,hD.bC 0 rfl 1⟩;have h6:=Lh hD;clear h5 h4 hb5 hwd hD;refine aO (S:=fun w'=>w'.cell? ⟨b5,0,none⟩=some nv/\w'.cell? ⟨b5,1,none⟩=some fv) 14 ?_;refine aA 0 hE ?_;refine bH 1 fun K hK=>?_
 go_simp;go_at_call 16;refine(BN _ _).mono ?_;rintro e wx ⟨rfl,rfl⟩;dsimp only;refine hK _ _ (fun _=>hE) ?_;clear hK K;try simp only[Act.put,gD]
 refine aA 2 hE ?_;refine aA 3 hE ?_;refine aA 4 hE ?_;refine bH 5 fun K hK=>?_
 go_simp;go_at_call 16;refine(BN _ _).mono ?_;rintro e wx ⟨rfl,rfl⟩;dsimp only;refine hK _ _ (fun _=>hE) ?_;clear hK K;try simp only[Act.put,gD]
 refine aA 6 hE ?_;refine aA 7 hE ?_;refine aA 8 hE ?_;refine aA 9 hE ?_;refine bH 10 fun K hK=>?_
 go_simp;go_at_call 30;refine(hsm.out _ _ h6.out).mono ?_;rintro e ws ⟨g2,rfl,hS⟩;have hE7:ws.cell? ⟨b5,0,none⟩=some nv/\ws.cell? ⟨b5,1,none⟩=some fv:=⟨hS.bC 3 rfl 0,hS.bC 3 rfl 1⟩;have h7:Hid (Sep w0 ws (smX g2++(.box b5 25 #[nv,fv]::(nE nv fv MR SN vs++(bE f q p S2::(smX g++R)))))):=Lh hS;clear hS h6 hE hsm;dsimp only;refine hK _ _ (fun _=>hE7) ?_;clear hK K;try simp only[Act.put,gD]
 have hex:=al3 (nv:=nv) (fv:=fv) (vs:=vs) (YJ (X:=smX g2++[.box b5 25 #[nv,fv]]) hvl (by rw[nT];exact h7.out)) (sm_at (Y:=[]) h7.out) aiQ;replace hex:=Lh hex;refine bH 11 fun K hK=>?_
 go_simp;go_at_call 21;refine hex.out.mono ?_;rintro e we ⟨rfl,hb⟩;have hS:=h7.out.pure hb;have hE8:we.cell? ⟨b5,0,none⟩=some nv/\we.cell? ⟨b5,1,none⟩=some fv:=⟨hS.bC 3 rfl 0,hS.bC 3 rfl 1⟩;have h8:Hid (Sep w0 we (smX g2++(.box b5 25 #[nv,fv]::(nE nv fv MR SN vs++(bE f q p S2::(smX g++R)))))):=Lh hS;clear hS hb h7 hE7 hex;dsimp only;refine hK _ _ (fun _=>hE8) ?_;clear hK K;try simp only[Act.put,gD]
 refine aA 12 hE8 ?_;refine bG 13 (fun _=>hE8) ?_;refine aS fT ?_ _;go_wp2_with fail;go_ret;exact⟨rfl,(((h8.out.snd).drop 1).snd.drop 1).snd⟩
end
section
variable {w0 w:World} {R:List aV} {f q p:Nat} {S:VS} {ns:List TN} {fs:List FT} {nb names:Nat}
theorem adG {nv fv:Value} {Ns:List TN} {F:List TF} {vs:List Value} (hL:gX S ns fs nb names) (h:Sep w0 w (bE f q p S::R)) (hT:iR w nv fv Ns F vs) (hm:wD Ns F) (hx:gW Ns F≠0\/0<(eB ns []).length):
  Calls Tryz.prog 15 #[pV f,.agg #[nv,fv]] w fun e w'=>e= .returned (iV (if gW Ns F=0 then 25 else gW Ns F))/\∃S',gX S' ns fs nb names/\Sep w0 w' (bE f q p S'::R):=by
 obtain⟨A1,c1,rfl,_⟩:=hT.nodes.shape;obtain⟨A2,c2,rfl,_⟩:=hT.files.shape;have hb0:=Below.new w (.cells #[.slice A1 Ns.length c1,.slice A2 F.length c2] 25);have hlo:=Lh (xL (hT.below hb0) hm);have hS0:=Lh (h.alloc (.cells #[.slice A1 Ns.length c1,.slice A2 F.length c2] 25));obtain⟨L,hLe⟩:∃L,gW Ns F=L:=⟨_,rfl⟩;rw[hLe]at hlo hx ⊢;clear h hT hb0 hLe;go_enter Tryz.func15,Tryz.ntmps15;by_cases h0:L=0
 ·subst h0;have hpos:0<(eB ns []).length:=hx.resolve_left (fun e=>e rfl);rw[if_pos rfl];go_wp2_with(first |(go_at_call 39;refine hlo.out.mono ?_;rintro e w1 ⟨rfl,hb⟩;(have hS1:=Lh (hS0.out.pure hb));clear hb hS0 hlo;(have hls:=Lh (av6 (path:=[]) hL bK hS1.out));unfold aC at hls)|(go_at_call 40;refine hls.out.mono ?_;rintro e w2 ⟨v,l,S',rfl,hp,_,hL',hS2⟩;(have e0:lsX ns []=0:=rfl);rw[e0];(obtain⟨Al,cl,el,_⟩:=hS2.gT 0 rfl);subst el;(have hll:l.length=(eB ns []).length:=by(rw[hp.length_eq];unfold lsN;rw[if_pos e0];unfold SH;rw[if_pos rfl,iT]));(have hl0:(0:Int)<(l.length:Int):=by omega);(have eZ:=Lh hS2);clear hS2 hls hS1 hp e0 hll));go_ret;exact⟨rfl,S',hL',eZ.out.drop 1⟩
 rw[if_neg h0];have hbe:(L==0)=false:=by rw[kD];exact h0
 go_wp2_with(go_at_call 39;refine hlo.out.mono ?_;rintro e w1 ⟨rfl,hb⟩;(have hS1:=Lh (hS0.out.pure hb));clear hb hS0 hlo);go_ret;exact⟨rfl,S,hL,hS1.out⟩
end
theorem auQ {w:World} {nv fv:Value} {ns:List TN} {fs:List TF} {vs:List Value} (h:iR w nv fv ns fs vs):
  Calls Tryz.prog 9 #[.agg #[nv,fv]] w fun e w'=>(e= .returned (.bool true)\/(e= .returned (.bool false)/\ns.length<=300/\fs.length<=300))/\Below w.heap.size w w':=by
 have hS0:=(Sep.nil w).bN 25 #[nv,fv];have hnp:=h.nodes;have hfp:=h.files;have hvl:=h.len;have LG:=h.data;obtain⟨A1,c1,rfl,hm1⟩:=h.nodes.shape;obtain⟨A2,c2,rfl,hm2⟩:=h.files.shape;have d0:=hS0.bC 0 rfl 0;have d1:=hS0.bC 0 rfl 1;simp only[gA,gB,gC]at d0 d1;have hb0:=hS0.below;unfold maxLen at hm1 hm2;have bn:(ns.length:Int)<=9223372036854775807:=by omega
 have bf:(fs.length:Int)<=9223372036854775807:=by omega
 have ak8:=Lh hnp;have FV:=Lh hfp;have atN:=Lh hvl;have ai7:=Lh LG;have II:=Lh hb0;clear h hS0 hnp hfp hvl LG hb0 hm1 hm2;go_enter Tryz.func9,Tryz.ntmps9;go_wp2_with fail;generalize w.alloc (.cells #[.slice A1 ns.length c1,.slice A2 fs.length c2] 25)=W at d0 d1 II ⊢;obtain⟨b0,zO⟩:∃b,w.heap.size=b:=⟨_,rfl⟩;rw[zO]at d0 d1 ⊢;clear zO;go_loop[3,4] (fun n i=>∃(x:Int) (k:Nat),k<=ns.length/\n=iV x/\i=iV k) (fun _ i=>ns.length-(intOf i).toNat)
 case atStart=>exact⟨0,0,fZ _,rfl,rfl⟩
 obtain⟨x,k,hk,rfl,rfl⟩:=hrel;have q0:(0:Int)<=(k:Int):=by omega
 by_cases hgo:k<ns.length/\x<=40000
 ·obtain⟨hlt,hx⟩:=hgo;(have q1:(k:Int)<(ns.length:Int):=by omega);obtain⟨g,o,c,e,_,_,_,hcell⟩:=ak8.out.place aI aR;cases e;obtain⟨n,hn⟩:∃n,ns[k]? =some n:=⟨_,gE hlt⟩;have c0:=(hcell W II.out (k*3) aI).trans (dE hn 0 aI);simp only[K6,aC,gB,gC,<-vX]at c0;have hsz:(⟨n.path.toArray⟩:ByteArray).size=n.path.length:=rfl;clear hn hcell;go_wp2_with fail;go_round
  case rel=>exact⟨_,k+1,by omega,rfl,by go_num⟩
  case measure=>simp[intOf];omega
 have hcase:((k:Int)<(ns.length:Int)/\40000<x)\/¬(k:Int)<(ns.length:Int):=by
  by_cases h:k<ns.length
  ·left;constructor
   ·omega
   refine Decidable.byContradiction fun hno=>hgo ⟨h,by omega⟩
  right;omega
 clear hgo;rcases hcase with⟨q1,q2⟩|q1
 all_goals
  go_wp2_with fail
  go_loop[3,5] (fun n i=>∃(y:Int) (j:Nat),j<=fs.length/\n=iV y/\i=iV j) (fun _ i=>fs.length-(intOf i).toNat)
  case atStart=>exact⟨x,0,fZ _,rfl,rfl⟩
  case round=>
   obtain⟨y,j,hj,rfl,rfl⟩:=hrel;(have r0:(0:Int)<=(j:Int):=by omega);by_cases ax5:j<fs.length/\y<=40000
   ·obtain⟨hlt,hx⟩:=ax5;(have r1:(j:Int)<(fs.length:Int):=by omega);obtain⟨g,o,c,e,_,_,_,hcell⟩:=FV.out.place aI aR;cases e;obtain⟨f,hf⟩:∃f,fs[j]? =some f:=⟨_,gE hlt⟩;obtain⟨u,hu⟩:∃u,vs[j]? =some u:=⟨_,gE (by rw[atN.out];exact hlt)⟩;obtain⟨A,c9,rfl,_⟩:=(ai7.out j u f hu hf).shape;have c0:=(hcell W II.out (j*2+1) aI).trans (fM hf hu 1 aI);simp only[tfC,gB,gC,<-vX]at c0;clear hf hu hcell;go_wp2_with fail;go_round
    case rel=>exact⟨_,j+1,by omega,rfl,by go_num⟩
    case measure=>simp[intOf];omega
   have aq6:((j:Int)<(fs.length:Int)/\40000<y)\/¬(j:Int)<(fs.length:Int):=by
    by_cases h:j<fs.length
    ·left;constructor
     ·omega
     refine Decidable.byContradiction fun hno=>ax5 ⟨h,by omega⟩
    right;omega
   clear ax5;by_cases t1:40000<y
   ·rcases aq6 with⟨r1,r2⟩|r1<;>(go_wp2_with fail;go_ret;exact⟨.inl rfl,II.out⟩)
   have r1:¬(j:Int)<(fs.length:Int):=by
    rcases aq6 with⟨_,h⟩|h
    ·exact absurd h t1
    exact h
   by_cases t2:(300:Int)<(ns.length:Int)
   ·go_wp2_with fail;go_ret;exact⟨.inl rfl,II.out⟩
   by_cases t3:(300:Int)<(fs.length:Int)
   ·go_wp2_with fail;go_ret;exact⟨.inl rfl,II.out⟩
   go_wp2_with fail;go_ret;exact⟨.inr ⟨rfl,by omega,by omega⟩,II.out⟩
end Go.Proofs.YtmjomdkleikgbaaGreat
