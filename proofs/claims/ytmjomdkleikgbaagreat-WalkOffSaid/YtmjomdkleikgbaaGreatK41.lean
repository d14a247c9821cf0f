/- Parts. -/
import Derived.Test.YtmjomdkleikgbaaGreatK40
set_option linter.unusedVariables false
set_option linter.unusedSimpArgs false
set_option maxRecDepth 100000
set_option maxHeartbeats 20000000
namespace Go.Proofs.YtmjomdkleikgbaaGreat
open Go.RowKit
theorem alL :fI 1=4607182418800017408:=by decide
theorem TW {n b:Nat} (hn:n<=1000000) (hb:0<b) (hb2:b<=1000) (w:World):Calls Tryz.prog 176 #[iV n,iV b] w fun e w'=>e= .returned (iV ((n+b-1)/b:Nat))/\w'=w:=by
 have h1:(n:Int)<=1000000:=by omega
 have h2:(0:Int)<b:=by omega
 have h3:(b:Int)<=1000:=by omega
 have h4:(0:Int)<=n:=by omega
 have h5:((b:Int)==0)=false:=by rw[jU];omega
 go_enter Tryz.func176,Tryz.ntmps176;go_wp2_with fail;go_ret;refine⟨?_,rfl⟩;have e:(((n+b-1)/b:Nat):Int)=((n:Int)+b-1)/b:=by rw[Int.natCast_ediv,Int.natCast_sub aD];rfl
 rw[e];rfl
theorem Z25 {P:Prop} (h:P:=by go_wp2_with(go_at_call 176;refine hp.mono ?_;rintro e w' ⟨rfl,hw'⟩;subst hw';clear hp);go_ret;exact⟨rfl,rfl⟩):P:=h
theorem auQ {k:Nat} (hk:k<=1000) (w:World):Calls Tryz.prog 111 #[iV k] w fun e w'=>e= .returned (cv (eO 1 k,1))/\w'=w:=by
 have hp:=TW (n:=k) (b:=16) aD aR aR w;have h9:eO 1 k=max 1 (((k+16-1)/16:Nat):Int):=by unfold eO;rw[if_pos rfl,show k+16-1=k+15 by omega]
 obtain⟨q,hq⟩:∃q:Nat,q=(k+16-1)/16:=⟨_,rfl⟩;rw[<-hq]at hp h9;unfold cv iW;simp only;rw[h9,alL];have e9:∀n:Int,floatOfInt .f64 n=fI n:=fun _=>rfl
 clear h9 hq hk;go_enter Tryz.func111,Tryz.ntmps111;exact Z25
theorem aoX {k:Nat} (hk:k<=100000) (w:World):Calls Tryz.prog 112 #[iV k] w fun e w'=>e= .returned (cv (eO 2 k,1))/\w'=w:=by
 have hp:=TW (n:=k) (b:=512) aD aR aR w;have h9:eO 2 k=if 8<(k+512-1)/512 then(((k+512-1)/512:Nat):Int)+1 else(((k+512-1)/512:Nat):Int):=by unfold eO;rw[if_neg aR,if_pos rfl,show k+512-1=k+511 by omega]
 obtain⟨q,hq⟩:∃q:Nat,q=(k+512-1)/512:=⟨_,rfl⟩;have hqb:q<=1000:=by omega
 rw[<-hq]at hp h9;unfold cv iW;simp only;rw[h9,alL];have e9:∀n:Int,floatOfInt .f64 n=fI n:=fun _=>rfl
 clear h9 hq hk;have c0:(0:Int)<=q:=by omega
 have c1:(q:Int)<=1000:=by omega
 by_cases h8:8<q
 ·(have c8:(8:Int)<q:=by omega);rw[if_pos h8];go_enter Tryz.func112,Tryz.ntmps112;exact Z25
 have c8:¬(8:Int)<q:=by omega
 rw[if_neg h8];go_enter Tryz.func112,Tryz.ntmps112;exact Z25
theorem YR :∀(l:List (Int×Int)) (a:Int×Int),l.foldl VK a=(a.1+(l.map Prod.fst).sum,a.2+(l.map Prod.snd).sum)
 |[],a=>by simp
 |x::l,a=>by rw[List.foldl_cons,YR l];simp only[VK,jV,qN,Prod.mk.injEq];omega
theorem alM (l:List (Int×Int)):AU l=((l.map Prod.fst).sum,(l.map Prod.snd).sum):=by unfold AU;rw[YR];simp
theorem GK {c:Int}:∀ {l:List Int},(∀x∈l,0<=x/\x<=c)->0<=l.sum/\l.sum<=c*(l.length:Int)
 |[],_=>by simp
 |a::l,h=>by(have h1:=GK fun x hx=>h x (vR _ hx));have h2:=h a nH;rw[qN,kH,VV,Int.mul_add];omega
theorem auR {a b:List Int} (h:a.Perm b):a.sum=b.sum:=by
 induction h with
 |nil=>rfl
 |cons x _ ih=>rw[qN,qN,ih]
 |swap x y l=>simp only[qN];omega
 |trans _ _ ih1 ih2=>rw[ih1,ih2]
def C9 (ns:List TN) (qs:List (List UInt8)) (F:List TF):List (Int×Int):=(qs.map fun q=>(eO 1 (nL ns q),1))++F.map fun f=>(eO 2 f.bs.length,1)
section
variable {ns:List TN} {F:List TF} {qs:List (List UInt8)}
theorem afY (hn:ns.length<=256) (hf:∀f∈F,f.size<=8192):∀x∈C9 ns qs F,(0<=x.1/\x.1<=4100)/\x.2=1:=fun x hx=>by
 rcases iM.1 hx with hx|hx
 ·obtain⟨q,_,rfl⟩:=List.mem_map.1 hx;have h1:nL ns q<=ns.length:=OJ ..;exact⟨OG (kind:=1) (size:=nL ns q) aD,rfl⟩
 obtain⟨f,h1,rfl⟩:=List.mem_map.1 hx;have h2:=hf f h1;exact⟨OG (kind:=2) (size:=f.bs.length) (by unfold TF.size at h2;omega),rfl⟩
theorem afZ :(C9 ns qs F).length=qs.length+F.length:=by unfold C9;rw[jM,iJ,iJ]
theorem ax9 (hn:ns.length<=256) (hf:∀f∈F,f.size<=8192):∀x∈C9 ns qs F,j6 x:=fun x hx=>by have h:=afY hn hf x hx;unfold j6;omega
theorem af0 (hn:ns.length<=256) (hf:∀f∈F,f.size<=8192) (hl:qs.length+F.length<=600) (i:Nat):j6 (AU ((C9 ns qs F).take i)):=by
 have h:=fun x hx=>afY (qs:=qs) hn hf x (AJ (i:=i) hx)
 have hlen:((C9 ns qs F).take i).length<=600:=by rw[qP,afZ];omega
 have h1:=GK (c:=4100) (l:=((C9 ns qs F).take i).map Prod.fst) fun x hx=>by obtain⟨y,hy,rfl⟩:=List.mem_map.1 hx;exact(h y hy).1
 have h2:=GK (c:=1) (l:=((C9 ns qs F).take i).map Prod.snd) fun x hx=>by obtain⟨y,hy,rfl⟩:=List.mem_map.1 hx;have:=(h y hy).2;omega
 rw[iJ]at h1 h2;rw[alM];unfold j6;simp only;omega
theorem ayA {p:List UInt8} (hv:aV p=true):(aZ p=[]/\(splitB p).dropLast=[])\/(aZ p≠[]/\(splitB p).dropLast=splitB (aZ p)):=by
 rcases kS p with⟨_,h2,h1⟩|⟨a,b,e,_,h2,h1⟩
 ·left;refine⟨?_,by rw[h1];rfl⟩;unfold aZ;rw[if_pos hv,h2];rfl
 right;have hp:aZ p=a:=by unfold aZ;rw[if_pos hv,h2,e,VX];rfl
 rw[hp,h1,UI];refine⟨fun e=>?_,rfl⟩;subst e;have hv2:NG p=true:=by rw[vH];exact hv
 unfold NG at hv2;simp only[sP]at hv2;have hm:([]:List UInt8)∈splitB p:=by rw[h1];exact vU _ (by simp[splitB])
 have:=List.all_eq_true.1 hv2.2.2 _ hm;unfold iL at this;simp at this
theorem af1 (hv:∀n∈ns,aV n.path=true) {q:List UInt8} {K:Key} (h:(q=[]/\K=[])\/(q≠[]/\K=splitB q)):nL ns q=dM ns K:=by
 unfold nL dM eP;congr 1;apply List.filter_congr;intro n hn;unfold bE;rcases ayA (hv n hn)with⟨h1,h2⟩|⟨h1,h2⟩<;>rcases h with⟨rfl,rfl⟩|⟨h3,rfl⟩
 ·rw[h1,h2];rfl
 ·rw[h1,h2];rw[decide_eq_false (fun e=>h3 e.symm),eq_comm,jU];exact fun e=>gJ q e.symm
 ·rw[h2,decide_eq_false h1,eq_comm,jU];exact gJ _
 rw[h2];by_cases e:aZ n.path=q
 ·rw[e,decide_eq_true rfl,eq_comm,beq_self_eq_true]
 rw[decide_eq_false e,eq_comm,jU];exact fun e2=>e (rQ _ (iC _) e2)
theorem af2 (ho:fF ns F):(fH ns).Perm ((List.range F.length).map fun(v:Nat)=>(v:Int)):=by
 have hi:=XY ho ns.length (iC _) _ ho.run;rw[M7]at hi;rw[<-hi];have hnd:(fD ns).Nodup:=by rw[hi,List.Nodup,GY];exact List.nodup_range.imp fun {a b} h e=>h aD
 rw[ajS (lX ns) hnd];intro k;rw[jG];constructor
 ·rintro⟨h1,n,hn,rfl⟩;have:=(ho.mem hn).2;exact nE _ n hn aD
 intro hk;obtain⟨n,hn,h1,h2⟩:=zD _ k hk;exact⟨by omega,n,hn,h1⟩
theorem af3 (ho:fF ns F) (hp:qs.Perm (mO ns)):AU (C9 ns qs F)=(nC ns (jB F),kQ ns):=by
 have hv:∀n∈ns,aV n.path=true:=fun n hn=>(ho.mem hn).1
 have hfr:=af2 ho;have e1:∀ {α:Type} {f:α->Int} {a b:List α},a.Perm b->(a.map f).sum=(b.map f).sum:=fun h=>auR (h.map _)
 have d1:(qs.map fun q=>eO 1 (nL ns q)).sum=eO 1 (dM ns [])+((jL ns).map fun n=>eO 1 (dM ns (bE n))).sum:=by rw[e1 hp];unfold mO;rw[jV,qN,qO,af1 hv (.inl ⟨rfl,rfl⟩)];congr 2;apply uO;intro n hn;have hn2:=hv n (List.mem_filter.1 hn).1;(show eO 1 (nL ns n.path)=_);rw[af1 hv (.inr ⟨nG hn2,rfl⟩)];rfl
 have d2:qs.length=1+(jL ns).length:=by rw[hp.length_eq];unfold mO;rw[kH,iJ];unfold jL;omega
 have f1:(F.map fun f=>eO 2 f.bs.length).sum=((fH ns).map fun k=>eO 2 (I8 (jB F) k)).sum:=by rw[e1 hfr,qO];congr 1;(refine VT bK fun i h1 h2=>?_);(have hi:i<F.length:=by simpa using h1);simp only[G5,aj0,Function.comp];unfold I8 jB;rw[nA,lC,gE hi];rfl
 have f2:F.length=(fH ns).length:=by rw[hfr.length_eq,iJ,LW]
 have g1:∀ {α:Type} (l:List α),(l.map fun _=>(1:Int)).sum=l.length:=fun l=>I9 fun _ _=>rfl
 rw[alM];unfold C9 nC kQ;rw[mZ,mZ,LZ,LZ,qO,qO,qO,qO];simp only[Function.comp_def];rw[g1,g1,d1,f1,d2,<-f2];simp only[Prod.mk.injEq];refine⟨?_,by rw[VV];rfl⟩;trivial
end
section
variable {P:Program} {ops:Array Oper} {Q:Exit->Act->World->Prop} {md:Region.Mode} {S:World->Prop} {z l n:Nat}
theorem zJ (hno:¬LetsOut Q) (hd:∀(i:Nat) (o:Oper),ops[i]? =some o->∀c,o.op≠ .defer c):∀(f:Nat) (li:Array Bool) (a:Act) (w:World),KO P md ops Q S z f li a w->wpAnyIn (Fence.wide.inRound l) n P md ops Q f li a w
 |0,_,_,_,h=>h
 |f+1,li,a,w,h=>⟨h.1,fun i hi=>by
  have h2:=h.2 i hi;unfold wpOp at h2;unfold wpOpIn;cases ho:ops[i]? with
  |none=>rw[ho]at h2;exact zJ hno hd f _ _ _ h2.2
  |some o=>
   rw[ho]at h2;simp only at h2 ⊢;split
   ·rename_i hw;rw[if_pos hw]at h2;rcases h2 with h2|⟨_,h2⟩
    ·exact TC (hd i o ho) (Oper.wp_mono (fun a' w' h'=>zJ hno hd f _ a' w' h'.2) h2)
    exact absurd h2 hno
   rename_i hw;rw[if_neg hw]at h2;exact⟨fun _ _=>trivial,zJ hno hd f _ _ _ h2.2⟩⟩
theorem VL {id:Nat} {a:Act} {w:World} (z:Nat) (hm:P.follows .mixedOrders=true) (hno:¬LetsOut Q) (hd:∀(i:Nat) (o:Oper),ops[i]? =some o->∀c,o.op≠ .defer c)
  (h:KO P .any ops Q S z ops.size (Array.replicate ops.size false) a w.drew):(Code.region id ops true).wpIn (Fence.wide.inRound l) n P Q a w:=
 wpIn_region_any hm (zJ hno hd _ _ _ _ h)
def af4 (o:Oper):Bool:=match o.op with| .defer _=>false|_=>true
theorem auS (h:ops.all af4=true):∀(i:Nat) (o:Oper),ops[i]? =some o->∀c,o.op≠ .defer c:=fun i o hi c e=>by rw[Array.all_eq_true]at h;obtain⟨hlt,hi2⟩:=Array.getElem?_eq_some_iff.1 hi;have h2:=h i hlt;rw[hi2]at h2;unfold af4 at h2;rw[e]at h2;cases h2
end
end Go.Proofs.YtmjomdkleikgbaaGreat
namespace Go.Proofs.YtmjomdkleikgbaaGreat
open Go.RowKit Go.Shelf
attribute [local go_sem] Oper.semAt_some
def ai9 (w:World) (ns:List TN) (b1 b5 bk:Nat) (nv fv:Value) (V:List TN) (Y:List aW) (W:World):Prop:=
 ∃L,AB V L/\V=ns.take V.length/\Sep w W (Y++[.box b5 157 #[.map (some bk)],lJ 9 bk L,.box b1 25 #[nv,fv]])
theorem zK {w:World} {ns:List TN} {b1 b5 bk:Nat} {nv fv:Value}:Shared (ai9 w ns b1 b5 bk nv fv):=by rintro V Y W ⟨L,h1,h2,h3⟩;exact⟨w,_,h3,fun Y' W' h=>⟨L,h1,h2,h⟩⟩
theorem Z33 {P:Prop} (h:P:=by
 haveI:DecidableEq aW:=fun a b=>Classical.propDecidable (a=b)
 rw[J3];intro x;simp only[OL,OM,kI,OZ];omega):P:=h
theorem aBW (D bb b5 g b1:aW) (Y:List aW):((D::([bb]++Y))++[b5,g,b1]).Perm (g::b5::b1::D::bb::Y):=by exact Z33
theorem ajA :(Tryz.prog.info? 53).map (fun i=>(i.zero,i.size,i.bytes))=some (some (.complex .f64 0 0),1,16):=by kernel_rfl
theorem left_step {left L:List (Lit×Value)} (hs:left.Sublist L) (hK:mY L) {kl:Lit} {v:Value} (hm:(kl,v)∈left):left.Perm ((kl,v)::nK left kl):=by
 have hKl:=hK.sub hs;obtain⟨a,b,rfl⟩:=aj1 hm;have hne:=hKl.ne;rw[OY,List.pairwise_cons]at hne;have ha:nK a kl=a:=EZ.2 fun y hy=>by have h1:=lI (hne.2.2 y hy (kl,v) bK);simpa using h1
 have hb:nK b kl=b:=EZ.2 fun y hy=>by have h1:=lI (fun e=>hne.2.1.1 y hy e.symm);simpa using h1
 have hk:=hKl.lit (kl,v) bK;have e:nK (a++(kl,v)::b) kl=a++b:=by unfold nK at ha hb ⊢;rw[FN,yM,ha,hb];have h1:=vP hk;simp only at h1;rw[h1];rfl
 rw[e];exact lD
theorem OH (V:List TN):(mO V).length<=V.length+1:=by unfold mO;rw[kH,iJ];have:=OJ (fun n:TN=>decide (n.file= -1)) V;omega
theorem YS {ns V:List TN} {x:TN} (h:V=ns.take V.length) (hx:ns[V.length]? =some x):V++[x]=ns.take (V++[x]).length:=by rw[jM,oL,pI,hx,<-h];rfl
theorem ajB (a b c d:aW) (Y:List aW):((a::Y)++[b,c,d]).Perm (a::b::c::d::Y):=by exact Z33
theorem aBX (a b:aW) (Y:List aW):(a::b::Y).Perm (b::a::Y):=List.Perm.swap _ _ _
theorem ayB {E:List UInt8->Value} {qs l:List (List UInt8)} (h:(([]:List (Lit×Value))++qs.map fun q=>(Lit.string q,E q)).Perm (l.map fun q=>(Lit.string q,E q))):qs.Perm l:=by
 rw[mI]at h;have h2:=h.filterMap fun x:Lit×Value=>match x.1 with
  | .string q=>some q
  |_=>none
 rw[List.filterMap_map,List.filterMap_map]at h2;have e:∀l:List (List UInt8),l.filterMap ((fun x:Lit×Value=>match x.1 with
  | .string q=>some q
  |_=>none)∘fun q=>(Lit.string q,E q))=l:=fun l=>by
  conv=>rhs;rw[<-List.filterMap_some (l:=l)]
  rfl
 rwa [e,e]at h2
def aGS (nv fv:Value) (b1 b5 bk bb:Nat) (v7 v21:Value):Act:= {tmps:=#[.agg #[nv,fv],pV b1,.complex .f64 0 0,iV 0,iV 0,pV b5,.slice none 0 0,v7,undef,undef,undef,undef,.agg #[nv,fv],iV 0,iV 0,.bool false,undef,.map (some bk),.map (some bk),.agg #[nv,fv],.func (.func 175) #[] #[pV bb],v21,undef,undef,undef,undef,undef,undef,undef,undef,undef,undef,undef,undef,undef,undef,undef,undef,undef,undef,undef,undef,undef,undef,undef,undef,undef,undef,undef,undef,undef,undef,undef,undef,undef,undef,undef,undef,undef,undef,undef,undef,undef,undef,undef,undef],defers:=[]}
theorem TY {w:World} {nv fv:Value} {ns:List TN} {F:List TF} {vs:List Value} (h:gW w nv fv ns F vs) (hm:mK ns F) (ho:fF ns F) (hlo:iI ns F=0):
  Calls Tryz.prog 41 #[.agg #[nv,fv]] w fun e w'=>e= .returned (.tuple #[iW (nC ns (jB F)) (kQ ns),iV 0])/\RowKit.Below w.heap.size w w':=by
 have hmm:= @run_makeMap Tryz.prog;obtain⟨A1,c1,rfl,_⟩:=h.nodes.shape;obtain⟨A2,c2,rfl,_⟩:=h.files.shape;have h0:=(Sep.nil w).bN 25 #[.slice A1 ns.length c1,.slice A2 F.length c2];have zF:=Lh (uM (h.below h0.below) hm.mm);rw[hlo]at zF;have hS0:=Lh h0;have h':=Lh h;have ho':=Lh ho;clear h h0 ho;refine(callsIn_wide (n:=9)).1 ?_;refine callsIn_of_wp_marks Tryz.func41 rfl trivial ?_ rfl;simp only[Tryz.ntmps41,uB,kH,qQ,Nat.reduceAdd,Nat.reduceSub,xD,xE,xH,xG,mI,kI];rw[wpIn_wide];go_wp2_with(first |(go_at_call 39;refine zF.out.mono ?_;rintro e w1 ⟨rfl,hb⟩;(have hS1:=(hS0.out.pure hb).BX 9);clear hb hS0 zF;(obtain⟨w2,hmu,hS2⟩:=hS1.lS 0 rfl fG Tryz.underlying157 (by unfold maxLen;simp) (v:=.int .i64 0) (eZ [] bK));unfold aC at hmu;(have dQ:=Lh (hS2.bN 157 #[.map (some w1.heap.size)]));clear hS1 hS2;(have z0:(w2.alloc (.cells #[.map (some w1.heap.size)] 157)).cell? ⟨w.heap.size,0,none⟩=some (.slice A1 ns.length c1):=dQ.out.bC 2 rfl 0);(have z1:(w2.alloc (.cells #[.map (some w1.heap.size)] 157)).cell? ⟨w.heap.size,1,none⟩=some (.slice A2 F.length c2):=dQ.out.bC 2 rfl 1);(have hnd:=Lh (aoT (nv:=.slice A1 ns.length c1) (fv:=.slice A2 F.length c2) dQ.out)))|(go_at_call 110;refine hnd.out.mono ?_;rintro e w3 ⟨bb,rfl,jT⟩;(replace jT:=Lh jT);clear hnd dQ z0 z1));obtain⟨b1,hb1⟩:∃x,x=w.heap.size:=⟨_,rfl⟩;rw[<-hb1]at jT ⊢;obtain⟨bk,hbk⟩:∃x,x=w1.heap.size:=⟨_,rfl⟩;rw[<-hbk]at jT ⊢;obtain⟨b5,hb5⟩:∃x,x=w2.heap.size:=⟨_,rfl⟩;rw[<-hb5]at jT ⊢;clear hb1 hbk hb5 hmu;have hst:Hid (ai9 w ns b1 b5 bk (.slice A1 ns.length c1) (.slice A2 F.length c2) [] [.box bb 25 #[.slice A1 ns.length c1,.slice A2 F.length c2]] w3):=Lh ⟨_,EW _,rfl,jT.out⟩;clear jT;obtain⟨nv,hnv⟩:∃nv,nv=Value.slice A1 ns.length c1:=⟨_,rfl⟩;obtain⟨fv,hfv⟩:∃fv,fv=Value.slice A2 F.length c2:=⟨_,rfl⟩;rw[<-hnv,<-hfv]at hst h' ⊢;clear hnv hfv;have hTr:∀pre Y W,ai9 w ns b1 b5 bk nv fv pre Y W->gW W nv fv ns F vs:=fun pre Y W ⟨L,_,_,hS⟩=>h'.out.below hS.below
 have ax5:=Lh hTr;clear hTr;have hAx:∀pre x,Shared (fun(a1:Act) (Y:List aW) (W:World)=>∃bs,a1=aGS nv fv b1 b5 bk bb (pV bs) (afW x)/\ai9 w ns b1 b5 bk nv fv pre (.box bs 68 #[aC x.path,iV x.file,iV x.mode]::Y) W):=fun pre x=>by rintro a1 Y W ⟨bs,h1,h2⟩;obtain⟨wa,Ra,h3,h4⟩:=zK _ _ _ h2;exact Z91
 refine wpIn_wide.1 (oP (F:=Fence.wide) (n:=9) rfl aR (gf:=175) (lb:=#[pV bb]) rfl trivial (enters_of Tryz.func175 fE rfl)
  (encs:=fun x:TN=>#[afW x]) (fun _=>rfl) (ai9 w ns b1 b5 bk nv fv) zK [.box bb 25 #[nv,fv]] hst.out (fun pre x=>pre=ns.take pre.length/\ns[pre.length]? =some x) (fun xs Y1=>xs=ns/\Y1=[.box bb 25 #[nv,fv]])
  ?seq _ hAx ?assign ?body ?done)
 case seq=>intro l Z W hY h0;refine(ai4 zK ax5.out hm hlo l bb (9-1) Z W (fun pre x Y W1 hx hp h=>hY pre x Y W1 ⟨hx,hp⟩ h) h0).mono ?_;rintro e W' ⟨h1,h3⟩;exact⟨h1,ns,_,⟨rfl,rfl⟩,h3⟩
 case assign=>
  intro l pre x Y W K hx hS hK;have hS2:=zK.new hS (.cells #[aC x.path,iV x.file,iV x.mode] 68);have hK2:=Lh (fun a1 (e:a1=_)=>hK a1 _ ⟨W.heap.size,e,hS2⟩);clear hK hS2 hS hst hAx;unfold afW aC at*
  gi_wp2
  exact hK2.out _ rfl
 case body=>
  rintro l pre x a1 Y W ⟨hx,hpl⟩ ⟨bs,e1,hA⟩;unfold aGS at e1;subst e1;obtain⟨L,hk,hpre,h4⟩:=hA;have h5:Sep w W (.box bs 68 #[aC x.path,iV x.file,iV x.mode]:: .box b5 157 #[.map (some bk)]::lJ 9 bk L:: .box b1 25 #[nv,fv]::Y):=h4.perm (ajB _ _ _ _ _);clear h4;have hnx:=aBS ho'.out hpl;have hpx:pre=ns.take pre.length:=hx;rw[<-hpx]at hnx;have hxp:x.path.length<=1048576:=dG (ho'.out.mem (gG hpl)).1;have aLY:(aZ x.path).length<=1048576:=by
   unfold aZ;split
   ·rw[qP];omega
   simp
  have hX:=h5.drew;have M3:=h5.rU 2 rfl;have hE0:=And.intro (hX.bC 1 rfl 0) (hX.bC 0 rfl 0);simp only[gA,gB]at hE0;have KP:=Lh (TG (p:=x.path) aD W.drew);have hget:=hk.get M3 hnx.up;obtain⟨pp,hpp⟩:∃pp,pp=aZ x.path:=⟨_,rfl⟩;rw[<-hpp]at KP hget aLY;have hX':=Lh hX;replace hpp:=Lh hpp;(have hLl:L.length<maxLen:=by have h1:=hk.length_eq;rw[iJ]at h1;have h2:=OH pre;have h3:pre.length<ns.length:=(gF.1 hpl).1;have:=hm.few;unfold maxLen;omega);(have hcb:(nL pre pp:Int)<=300:=by have h1:nL pre pp<=pre.length:=OJ ..;have h3:pre.length<ns.length:=(gF.1 hpl).1;have:=hm.few;omega);(have hc0:(0:Int)<=(nL pre pp:Int):=by omega);(have hwr:IntKind.i64.wrap ((nL pre pp:Int)+1)=(nL pre pp:Int)+1:=by simp[IntKind.wrap,IntKind.bits,IntKind.signed];omega);replace hLl:=Lh hLl;clear h5 hX hst hAx hx hpre;replace hpx:=Lh hpx;replace hpl:=Lh hpl;replace hk:=Lh hk;replace hget:=Lh hget;replace hnx:=Lh hnx;replace M3:=Lh M3
  gi_wp2
  refine VL (S:=fun w'=>w'.cell? ⟨b5,0,none⟩=some (.map (some bk))/\w'.cell? ⟨bs,0,none⟩=some (aC x.path)) 6 fE (fun hlo=>by obtain⟨a,w,h⟩:=hlo;exact absurd h.1 bK) (auS fE) ?_;simp only[uB,kH,qQ,Nat.reduceAdd];refine aA 0 hE0 ?_;refine aA 1 hE0 ?_;refine aA 2 hE0 ?_;(refine bI 3 fun K hK=>?_);go_simp;go_at_call 105;refine KP.out.mono ?_;rintro e w4 ⟨rfl,hb⟩;have nO:=hX'.out.pure hb;have IC:w4.cell? ⟨b5,0,none⟩=some (.map (some bk))/\w4.cell? ⟨bs,0,none⟩=some (aC x.path):=⟨nO.bC 1 rfl 0,nO.bC 0 rfl 0⟩;have hlk:=nO.ZW 2 rfl fG Tryz.underlying157 (pE w4) (eZ pp vX);rw[hget.out]at hlk;simp only[GX]at hlk;unfold vQ at hlk;have aa4:=Lh nO;clear nO hb KP hX';dsimp only;refine hK _ _ (fun _=>IC) ?_;clear hK K;(try simp only[Act.put,gD]);refine bA 4 (fun _=>IC) ?_;refine bA 5 (fun _=>IC) ?_;obtain⟨w6,hmu,VD⟩:=aa4.out.lS 2 rfl fG Tryz.underlying157 hLl.out (v:=.int .i64 ((nL pre pp:Int)+1)) (eZ pp vX);have NI:=Lh VD;clear VD aa4 hlk hE0;refine bA 6 (fun h=>absurd rfl h) ?_;refine aQ fE ?_ _;have y1:w6.cell? ⟨bs,1,none⟩=some (iV x.file):=NI.out.bC 0 rfl 1;clear hmu IC;by_cases hf:x.file= -1
  ·have hbp:=hk.out.bump hnx.out.nodup hnx.out.up;rw[<-hpp.out]at hbp;(have hgn:getM (qL L (.string pp) (.int .i64 ((nL pre pp:Int)+1))) (.string x.path)=none:=getM_none (show WideAt.IsKeyLit (.string x.path)from trivial) fun y hy e=>by obtain⟨q,hq,rfl⟩:=List.mem_map.1 (hbp.mem_iff.1 hy);simp only[Lit.string.injEq]at e;exact hnx.out.no (e▸hq));have y5:w6.cell? ⟨b5,0,none⟩=some (.map (some bk)):=NI.out.bC 1 rfl 0;have y0:w6.cell? ⟨bs,0,none⟩=some (aC x.path):=NI.out.bC 0 rfl 0;have hlk2:=NI.out.ZW 2 rfl fG Tryz.underlying157 (pE w6) (eZ x.path vX);rw[hgn]at hlk2;simp only[J6]at hlk2;(have hL2:(qL L (.string pp) (.int .i64 ((nL pre pp:Int)+1))).length<maxLen:=by have h1:=hbp.length_eq;rw[iJ]at h1;have h2:=OH pre;have h3:pre.length<ns.length:=(gF.1 hpl.out).1;have:=hm.few;unfold maxLen;omega);obtain⟨w7,aSY,hX7⟩:=NI.out.lS 2 rfl fG Tryz.underlying157 hL2 (v:=.int .i64 0) (eZ x.path vX);have hnew:=hk.out.dir hnx.out.nodup hnx.out.up hf hnx.out.no hnx.out.zero;rw[<-hpp.out]at hnew;have YE:ai9 w ns b1 b5 bk nv fv (pre++[x]) Y w7:=⟨_,hnew,YS hpx.out hpl.out,((hX7.perm (ajB _ _ _ _ _).symm).drop 1)⟩;replace YE:=Lh YE;clear NI hX7 hnew hbp hgn hL2;rw[hf]at y1
   gi_wp2
   first |exact YE.out|exact⟨rfl,YE.out⟩
  (have hbe:(x.file== -1)=false:=by rw[jU];exact hf);have hnew:=hk.out.file hnx.out.nodup hnx.out.up hf;rw[<-hpp.out]at hnew;have hX7:ai9 w ns b1 b5 bk nv fv (pre++[x]) Y w6:=⟨_,hnew,YS hpx.out hpl.out,((NI.out.perm (ajB _ _ _ _ _).symm).drop 1)⟩;replace hX7:=Lh hX7;clear NI hnew
  gi_wp2
  first |exact hX7.out|exact⟨rfl,hX7.out⟩
 rintro D xs Y1 Y2 W ⟨rfl,rfl⟩ hS;obtain⟨L,hk,_,h4⟩:=hS;have h5:Sep w W (lJ 9 bk L:: .box b5 157 #[.map (some bk)]:: .box b1 25 #[nv,fv]:: .obj D (.deferred (some [])):: .box bb 25 #[nv,fv]::Y2):=h4.perm (aBW _ _ _ _ _ _);clear h4;have M3:=h5.rU 0 rfl;have y5:=h5.bC 1 rfl 0;simp only[gA,gB]at y5;obtain⟨w4,hrg,hS1,hsz⟩:=h5.PU 0 rfl fG Tryz.underlying157;have hS2:=Lh (hS1.gZ 53 1);clear h5 hS1 hst hAx hsz;go_wp2_with fail;obtain⟨i0,KE,hz0,hz1,hz2⟩:=info_parts ajA;have hmp:(mO xs).length<=300:=by have h2:=OH xs;have:=ho'.out.few;omega
 go_loopg[6] L.length (fun g v6 wr=>∃(left:List (Lit×Value)) (qs:List (List UInt8)),Hid (g=left.length)/\Hid ((left++qs.map fun q=>(Lit.string q,vQ xs q)).Perm ((mO xs).map fun q=>(Lit.string q,vQ xs q)))/\Hid (left.Sublist L)/\Sep w wr (.sl 53 1 v6 qs.length (qs.map fun q=>cv (eO 1 (nL xs q),1))::wG 9 bk W.heap.size L.length L left:: .box b5 157 #[.map (some bk)]:: .box b1 25 #[nv,fv]:: .obj D (.deferred (some [])):: .box bb 25 #[nv,fv]::Y2))
 case atStart=>exact⟨L,[],Lh rfl,Lh (by rw[zL,yX46];exact hk),Lh (List.Sublist.refl _),hS2.out⟩
 obtain⟨left,qs,hg,hp,hsub,hS⟩:=hrel;clear hS2;rcases hS.MI 1 rfl fG 0 with⟨hnil,hnx⟩|⟨key,v,kl,w3,hkey,hmem,hnx,dQ,ahX,hen⟩
 ·subst hnil;have hq:=ayB hp.out;clear hp;obtain⟨A2,c2,e2,_⟩:=h'.out.files.shape;subst e2;have y1:=hS.bC 3 rfl 1;simp only[gA,gB,gC]at y1;have dQ:=Lh (((hS.perm (aBX _ _ _)).drop 1));have hqs:=Lh hq;(have hql:qs.length<=300:=by rw[hq.length_eq];exact hmp);clear hS hg hsub hq hrg y5 hmm M3 hk;(have hfl:(F.length:Int)<=300:=by have:=hm.CK;have:=ho'.out.CK;omega);replace hlo:=Lh hlo;replace hmp:=Lh hmp;have ajC:=Lh hql;clear hql;go_wp2_with fail;go_loopw[6,50] (fun v6 iv wr=>∃k:Nat,k<=F.length/\iv=iV k/\Sep w wr (.sl 53 1 v6 (qs.length+k) ((C9 xs qs (F.take k)).map cv):: .box b5 157 #[.map (some bk)]:: .box b1 25 #[nv,.slice A2 F.length c2]:: .obj D (.deferred (some [])):: .box bb 25 #[nv,.slice A2 F.length c2]::Y2)) (fun _ iv _=>F.length-(intOf iv).toNat)
  case atStart=>exact⟨0,fZ _,rfl,by simpa[C9,Function.comp_def,cv]using dQ.out⟩
  clear dQ y1;obtain⟨k,hk,rfl,hS⟩:=hrel;(have c0:(0:Int)<=(k:Int):=by omega);by_cases hlt:k<F.length
  ·(have c1:(k:Int)<(F.length:Int):=by omega);obtain⟨g,o,c,e,_,_,_,hcell⟩:=h'.out.files.place aD aR;cases e;obtain⟨f,he⟩:∃f,F[k]? =some f:=⟨_,gE hlt⟩;obtain⟨u,hu⟩:∃u,vs[k]? =some u:=⟨_,gE (by rw[h'.out.len];exact hlt)⟩;obtain⟨A9,c9,rfl,_⟩:=(h'.out.data k u f hu he).shape;have x0:=(hcell wr hS.below (k*2) aD).trans (eD he hu 0 aD);have x1:=(hcell wr hS.below (k*2+1) aD).trans (eD he hu 1 aD);simp only[tfC,gB,gC,<-sD]at x0 x1;have hsz:f.size<=8192:=ho'.out.size f (gG he);(have hdr:=fun W=>aoX (k:=f.size) aD W);obtain⟨X1,X2,hx0⟩:∃X1 X2,Value.complex .f64 X1 X2=cv (eO 2 f.size,1):=⟨_,_,rfl⟩;have hone:(Value.complex .f64 X1 X2).oneCell'=true:=rfl;rw[<-hx0]at hdr;obtain⟨A6,c6,e6,hx6⟩:=hS.gL 0 rfl;clear hx6;subst e6;have hX:=hS.bN 71 #[iV f.mode,.slice A9 f.size c9];have z1:=hX.bC 0 rfl 1;simp only[gA,gB,gC]at z1;have jT:=Lh (hX.alloc (.cells #[.complex .f64 X1 X2] 53));have hrd:=ai7 (.complex .f64 X1 X2) (wr.alloc (.cells #[iV f.mode,.slice A9 f.size c9] 71)) 53 hone;rw[World.size_alloc]at hrd;replace hrd:=Lh hrd;replace hone:=Lh hone;replace hx0:=Lh hx0;have htk:Hid (F.take (k+1)=F.take k++[f]):=Lh (by rw[pI,he];rfl);clear hS hX he hu hcell hsz;go_wp2_with(first |(go_at_call 112;refine(hdr _).mono ?_;rintro e w' ⟨rfl,hw'⟩;(have IL:=hw'.symm);subst IL;clear hdr)|(at_builtin;go_loud (refine dI 1 rfl _ _ 162 rfl 53 i0 _ 1 16 Tryz.underlying162 KE hz0 hz1 hz2 rfl aR jT.out _ (qs.length+k) _ rfl rfl _ 1 [.complex .f64 X1 X2] rfl hrd.out oCl (by have:=ajC.out;unfold maxLen;omega) (by have:=ajC.out;omega) ?_);intro v5 w5 hS5 hz5;replace hS5:=Lh hS5;clear jT hrd hz5));(have hcell:((C9 xs qs (F.take k)).map cv)++[Value.complex .f64 X1 X2]=(C9 xs qs (F.take (k+1))).map cv:=by rw[htk.out,hx0.out];unfold C9;rw[mZ,mZ,mZ,mZ,<-pG];rfl);go_roundw
   case rel=>exact⟨k+1,by omega,by go_num,by rw[<-hcell];exact hS5.out.drop 1⟩
   case measure=>simp[intOf];omega
  (have hke:k=F.length:=by omega);subst hke;rw[M7]at hS;have hrd:=hS.rd 0 rfl;have hln:qs.length+F.length=(C9 xs qs F).length:=afZ.symm;rw[hln]at hrd;have hsu:=ax8 hrd (ax9 ho'.out.few ho'.out.size) (by rw[<-hln];have:=ajC.out;omega) (af0 ho'.out.few ho'.out.size (by have:=ajC.out;omega));rw[af3 ho'.out hqs.out]at hsu;obtain⟨Z,hZ⟩:∃Z,cv (nC xs (jB F),kQ xs)=Z:=⟨_,rfl⟩;rw[hZ]at hsu;have hZ':Hid (iW (nC xs (jB F)) (kQ xs)=Z):=Lh hZ;have hS5:=Lh hS;have aGW:=Lh hsu;clear hS hrd hln hsu hZ;go_wp2_with(go_at_call 113;refine aGW.out.mono ?_;rintro e w9 ⟨rfl,xL⟩;(have kM:=Lh (hS5.out.pure xL));clear hS5 aGW xL);refine⟨by simp,.inl ⟨_,_,rfl,run_takeDeferred (kM.out.XE 3 rfl),?_⟩⟩;have zX:=kM.out.putObj 3 (.deferred none) rfl;exact⟨.tuple #[Z,iV 0],by simp[results,Tryz.f41,go_sem],by rw[hZ'.out],zX.below⟩
 have aGX:=hp.out.mem_iff.1 (vU _ hmem);obtain⟨q,hq,e⟩:=List.mem_map.1 aGX;have e1:kl= .string q:=(congrArg Prod.fst e).symm;have e2:v=vQ xs q:=(congrArg Prod.snd e).symm;subst e1;subst e2;have hls:=left_step hsub.out M3 hmem;have hcb:nL xs q<=1000:=by have h1:nL xs q<=xs.length:=OJ ..;have:=ho'.out.few;omega
 have hdr:=fun W=>auQ hcb W
 have hql:qs.length<=300:=by have h1:=hp.out.length_eq;rw[jM,iJ,iJ]at h1;omega
 obtain⟨X1,X2,hx0⟩:∃X1 X2,Value.complex .f64 X1 X2=cv (eO 1 (nL xs q),1):=⟨_,_,rfl⟩;have hone:(Value.complex .f64 X1 X2).oneCell'=true:=rfl;rw[<-hx0]at hdr;obtain⟨A6,c6,e6,hx6⟩:=dQ.gL 0 rfl;clear hx6;subst e6;have jT:=Lh (dQ.alloc (.cells #[.complex .f64 X1 X2] 53));have hrd:=Lh (ai7 (.complex .f64 X1 X2) w3 53 hone);unfold vQ at hnx hen;replace hone:=Lh hone;replace hx0:=Lh hx0;replace hls:=Lh hls;clear dQ hS aGX e hmem hkey hq hcb ahX hrg y5 hmm;replace hlo:=Lh hlo;replace hmp:=Lh hmp;replace hk:=Lh hk;replace M3:=Lh M3;have ajC:=Lh hql;clear hql;obtain⟨m,hm9⟩:∃m:Nat,m=nL xs q:=⟨_,rfl⟩;rw[<-hm9]at hnx hen hdr;replace hm9:=Lh hm9;go_wp2_with(first |(go_at_call 111;refine(hdr _).mono ?_;rintro e w' ⟨rfl,hw'⟩;(have IL:=hw'.symm);subst IL;clear hdr)|(at_builtin;go_loud (refine dI 0 rfl _ _ 162 rfl 53 i0 _ 1 16 Tryz.underlying162 KE hz0 hz1 hz2 rfl aR jT.out _ qs.length _ rfl rfl _ 1 [.complex .f64 X1 X2] rfl hrd.out oCl (by have:=ajC.out;unfold maxLen;omega) (by have:=ajC.out;omega) ?_);intro v5 w5 hS5 hz5;replace hS5:=Lh hS5;clear jT hrd hz5));have hcell:(qs.map fun q=>cv (eO 1 (nL xs q),1))++[Value.complex .f64 X1 X2]=(qs++[q]).map fun q=>cv (eO 1 (nL xs q),1):=by rw[mZ,M5,hx0.out]
 have hlen1:=hls.out.length_eq;rw[kH]at hlen1;have hg1:=hg.out;go_roundg (gk-1)
 case rel=>
  refine⟨nK left (.string q),qs++[q],Lh aD,Lh ?_,Lh (G8.trans hsub.out),?_⟩
  ·rw[mZ,M5,<-pG];refine List.Perm.trans ?_ hp.out;refine(abP _ _).trans ?_;exact(hls.out.append_right _).symm
  rw[jM,oL,<-hcell];exact hS5.out
 case measure=>omega
end Go.Proofs.YtmjomdkleikgbaaGreat
namespace Go.Proofs.YtmjomdkleikgbaaGreat
open Go.RowKit
theorem Z47 {P:Prop} (h:P:=by simp only[F8,gB,gC,<-sD,sF]at x0 x1 x2;exact⟨x0,x1,x2⟩):P:=h
theorem Z73 {P:Prop} (h:P:=by simp only[tfC,gB,gC,<-sD,sF]at x0 x1;exact⟨x0,x1⟩):P:=h
theorem LP {w:World} {nv fv nv' fv':Value} {ns:List TN} {fs:List TF} {vs vs':List Value} (h1:gW w nv fv ns fs vs) (h2:gW w nv' fv' ns fs vs') (hm:mK ns fs):
  Calls Tryz.prog 21 #[.agg #[nv,fv],.agg #[nv',fv']] w fun e w'=>e= .returned (.bool true)/\Below w.heap.size w w':=by
 have hS0:=((Sep.nil w).bN 25 #[nv,fv]).bN 25 #[nv',fv'];simp only[World.size_alloc]at hS0;obtain⟨A1,ca1,rfl,_⟩:=h1.nodes.shape;obtain⟨A2,ca2,rfl,_⟩:=h1.files.shape;obtain⟨B1,cb1,rfl,_⟩:=h2.nodes.shape;obtain⟨B2,cb2,rfl,_⟩:=h2.files.shape;have b1:(ns.length:Int)<=300:=by have:=hm.few;omega
 have b2:(fs.length:Int)<=300:=by have:=hm.CK;omega
 have e1:((ns.length:Int) !=(ns.length:Int))=false:=by simp
 have e2:((fs.length:Int) !=(fs.length:Int))=false:=by simp
 have hcl:∀W,Below ((w.alloc (.cells #[.slice A1 ns.length ca1,.slice A2 fs.length ca2] 25)).alloc (.cells #[.slice B1 ns.length cb1,.slice B2 fs.length cb2] 25)).heap.size ((w.alloc (.cells #[.slice A1 ns.length ca1,.slice A2 fs.length ca2] 25)).alloc (.cells #[.slice B1 ns.length cb1,.slice B2 fs.length cb2] 25)) W->(W.cell? ⟨w.heap.size,0,none⟩=some (.slice A1 ns.length ca1)/\W.cell? ⟨w.heap.size,1,none⟩=some (.slice A2 fs.length ca2)/\W.cell? ⟨w.heap.size+1,0,none⟩=some (.slice B1 ns.length cb1)/\W.cell? ⟨w.heap.size+1,1,none⟩=some (.slice B2 fs.length cb2))/\Below w.heap.size w W:=fun W hW=>by have h:=hS0.pure hW;exact⟨⟨h.bC 1 rfl 0,h.bC 1 rfl 1,h.bC 0 rfl 0,h.bC 0 rfl 1⟩,h.below⟩
 have hcl':=Lh hcl;obtain⟨⟨z0,z1,z2,z3⟩,_⟩:=hcl _ (Below.refl _ _);have h1':=Lh h1;have h2':=Lh h2;have hm':=Lh hm;clear hS0 hcl h1 h2 hm;go_enter Tryz.func21,Tryz.ntmps21;go_wp2_with fail;generalize hW0:(w.alloc (.cells #[.slice A1 ns.length ca1,.slice A2 fs.length ca2] 25)).alloc (.cells #[.slice B1 ns.length cb1,.slice B2 fs.length cb2] 25)=w0 at hcl' ⊢;clear hW0 z0 z1 z2 z3;go_loopw[5] (fun iv wr=>∃i:Nat,i<=ns.length/\iv=iV i/\Below w0.heap.size w0 wr) (fun iv _=>ns.length-(intOf iv).toNat)
 case atStart=>exact⟨0,fZ _,rfl,Below.refl _ _⟩
 obtain⟨i,hi,rfl,hb⟩:=hrel;have q0:(0:Int)<=(i:Int):=by omega
 obtain⟨⟨z0,z1,z2,z3⟩,hbw⟩:=hcl'.out wr hb;have hbq:∀n,Below w0.heap.size w0 (wr.drewN n):=fun n=>hb.trans ((((Sep.nil wr).drewN n).below).mono hb.size)
 by_cases hlt:i<ns.length
 ·(have q1:(i:Int)<(ns.length:Int):=by omega);(have hcq:=fun n=>(hcl'.out _ (hbq n)).1);(have aS1:=fun n=>(hcq n).1);(have aS2:=fun n=>(hcq n).2.2.1);obtain⟨ga,oa,cca,ea,_,_,_,hca⟩:=h1'.out.nodes.place aD aR;cases ea;obtain⟨gb,ob,ccb,eb,_,_,_,hcb⟩:=h2'.out.nodes.place aD aR;cases eb;obtain⟨n,hn⟩:∃n,ns[i]? =some n:=⟨_,gE hlt⟩;(have ca:∀W,Below w.heap.size w W->W.cell? ⟨ga,oa+i*3,none⟩=some (aC n.path)/\W.cell? ⟨ga,oa+i*3+1,none⟩=some (iV n.file)/\W.cell? ⟨ga,oa+i*3+2,none⟩=some (iV n.mode):=fun W hW=>by have x0:=(hca W hW (i*3+0) aD).trans (bL hn 0 aD);have x1:=(hca W hW (i*3+1) aD).trans (bL hn 1 aD);have x2:=(hca W hW (i*3+2) aD).trans (bL hn 2 aD);exact Z47);(have cb:∀W,Below w.heap.size w W->W.cell? ⟨gb,ob+i*3,none⟩=some (aC n.path)/\W.cell? ⟨gb,ob+i*3+1,none⟩=some (iV n.file)/\W.cell? ⟨gb,ob+i*3+2,none⟩=some (iV n.mode):=fun W hW=>by have x0:=(hcb W hW (i*3+0) aD).trans (bL hn 0 aD);have x1:=(hcb W hW (i*3+1) aD).trans (bL hn 1 aD);have x2:=(hcb W hW (i*3+2) aD).trans (bL hn 2 aD);exact Z47);(have GL:=fun n=>(hcl'.out _ (hbq n)).2);obtain⟨p0,p1,p2⟩:=ca wr hbw;obtain⟨r0,r1,r2⟩:=cb wr hbw;(have P0:=fun n=>(ca _ (GL n)).1);(have P1:=fun n=>(ca _ (GL n)).2.1);(have P2:=fun n=>(ca _ (GL n)).2.2);(have R0:=fun n=>(cb _ (GL n)).1);(have R1:=fun n=>(cb _ (GL n)).2.1);(have R2:=fun n=>(cb _ (GL n)).2.2);have aBY:=Lh hbq;unfold aC at*;clear hca hcb hn ca cb GL hcq hb hbq hbw;go_wp2_with fail;go_quiet (fail);go_wp2_with fail;go_roundw
  case rel=>exact⟨i+1,by omega,by go_num,aBY.out _⟩
  case measure=>simp[intOf];omega
 have hie:i=ns.length:=by omega
 subst hie;have hb':=Lh hb;clear hb hbq hbw;go_wp2_with fail;clear z0 z1 z2 z3;go_loopw[6] (fun iv wr=>∃j:Nat,j<=fs.length/\iv=iV j/\Below w0.heap.size w0 wr) (fun iv _=>fs.length-(intOf iv).toNat)
 case atStart=>exact⟨0,fZ _,rfl,hb'.out⟩
 clear hb';obtain⟨j,hj,rfl,hb⟩:=hrel;have s0:(0:Int)<=(j:Int):=by omega
 obtain⟨⟨z0,z1,z2,z3⟩,hbw⟩:=hcl'.out wr hb;have hbq:∀n,Below w0.heap.size w0 (wr.drewN n):=fun n=>hb.trans ((((Sep.nil wr).drewN n).below).mono hb.size)
 by_cases hlt:j<fs.length
 ·(have s1:(j:Int)<(fs.length:Int):=by omega);(have hcq:=fun n=>(hcl'.out _ (hbq n)).1);(have aS5:=fun n=>(hcq n).2.1);(have aS6:=fun n=>(hcq n).2.2.2);obtain⟨ga,oa,cca,ea,_,_,_,hca⟩:=h1'.out.files.place aD aR;cases ea;obtain⟨gb,ob,ccb,eb,_,_,_,hcb⟩:=h2'.out.files.place aD aR;cases eb;obtain⟨f,hf⟩:∃f,fs[j]? =some f:=⟨_,gE hlt⟩;obtain⟨u,hu⟩:∃u,vs[j]? =some u:=⟨_,gE (by rw[h1'.out.len];exact hlt)⟩;obtain⟨u2,hu2⟩:∃u,vs'[j]? =some u:=⟨_,gE (by rw[h2'.out.len];exact hlt)⟩;obtain⟨bs,hbs⟩:∃b,b=f.bs:=⟨_,rfl⟩;(have by1:BytesAt w u bs:=by obtain⟨cs,h3,_,h4⟩:=h1'.out.data j u f hu hf;subst h4;rw[hbs];exact h3);(have by2:BytesAt w u2 bs:=by obtain⟨cs,h3,_,h4⟩:=h2'.out.data j u2 f hu2 hf;subst h4;rw[hbs];exact h3);obtain⟨Au,cu,rfl,_⟩:=Rd.shape by1;obtain⟨Bu,du,rfl,_⟩:=Rd.shape by2;(have ca:∀W,Below w.heap.size w W->W.cell? ⟨ga,oa+j*2,none⟩=some (iV f.mode)/\W.cell? ⟨ga,oa+j*2+1,none⟩=some (.slice Au bs.length cu):=fun W hW=>by have x0:=(hca W hW (j*2+0) aD).trans (eD hf hu 0 aD);have x1:=(hca W hW (j*2+1) aD).trans (eD hf hu 1 aD);exact Z73);(have cb:∀W,Below w.heap.size w W->W.cell? ⟨gb,ob+j*2,none⟩=some (iV f.mode)/\W.cell? ⟨gb,ob+j*2+1,none⟩=some (.slice Bu bs.length du):=fun W hW=>by have x0:=(hcb W hW (j*2+0) aD).trans (eD hf hu2 0 aD);have x1:=(hcb W hW (j*2+1) aD).trans (eD hf hu2 1 aD);exact Z73);(have GL:=fun n=>(hcl'.out _ (hbq n)).2);obtain⟨p0,p1⟩:=ca wr hbw;obtain⟨r0,r1⟩:=cb wr hbw;(have P0:=fun n=>(ca _ (GL n)).1);(have P1:=fun n=>(ca _ (GL n)).2);(have R0:=fun n=>(cb _ (GL n)).1);(have R1:=fun n=>(cb _ (GL n)).2);(have v1:=fun n=>gX (by1.below (GL n)));(have v2:=fun n=>gX (by2.below (GL n)));have v10:=gX (by1.below hbw);have v20:=gX (by2.below hbw);have aBY:=Lh hbq;(have em:(f.mode !=f.mode)=false:=by simp);unfold aC at*;generalize(⟨bs.toArray⟩:ByteArray)=S at*;generalize bs.length=n at*;clear hca hcb hf hu hu2 hbs by1 by2 ca cb GL hcq hb hbq hbw;go_wp2_with fail;go_quiet (fail);go_wp2_with fail;go_roundw
  case rel=>exact⟨j+1,by omega,by go_num,aBY.out _⟩
  case measure=>simp[intOf];omega
 have hje:j=fs.length:=by omega
 subst hje;have aL0:=Lh hbw;clear hb hbq hbw;go_wp2_with fail;go_ret;exact⟨rfl,aL0.out⟩
theorem DC (x:Int) (w:World):Calls Tryz.prog 16 #[iV x] w fun e w'=>e= .returned (iV x)/\w=w':=by go_enter Tryz.func16,Tryz.ntmps16;go_wp2;go_ret;exact⟨rfl,rfl⟩
section
variable {w0 w:World} {R:List aW}
theorem TZ {b i n:Nat} (hn:n=98+(i+7)/8+b) (hb:1<=b) (hn4:n<=4096) (hi:2<=i) (hi2:i<=1024) (h:Sep w0 w R):
  Calls Tryz.prog 14 #[iV b,iV i] w fun e w'=>∃f q p,e= .returned (.tuple #[pV p,pV f,.bool true])/\Sep w0 w' (bB f q p (VS.new n i)::R):=by
 have hnew:Hid (∀W,Sep w0 W R->Calls Tryz.prog 37 #[iV n] W fun e w'=>∃p,e= .returned (.tuple #[pV p,iV 0])/\Sep w0 w' (aO p (DK.fresh n)::R)):=Lh fun W hW=>awY aD hn4 hW
 have hfmt:Hid (∀W p,Sep w0 W (aO p (DK.fresh n)::R)->Calls Tryz.prog 38 #[pV p,iV i] W fun e w'=>∃f q,e= .returned (.tuple #[pV f,iV 0])/\Sep w0 w' (bB f q p (VS.new n i)::R)):=Lh fun W p hW=>ahW aD hn4 hi hi2 hW
 have q0:(1:Int)<=b:=by omega
 have q1:(n:Int)<=4096:=by omega
 have q2:(2:Int)<=i:=by omega
 have q3:(i:Int)<=1024:=by omega
 have e0:Int.tdiv ((i:Int)+7) 8=((i+7)/8:Nat):=by rw[abK aD];omega
 obtain⟨P,hP⟩:∃P,P=(i+7)/8:=⟨_,rfl⟩;rw[<-hP]at hn e0;have q4:(P:Int)<=129:=by omega
 have e1:(98:Int)+(P:Int)+b=n:=by omega
 have w1:IntKind.i64.wrap ((i:Int)+7)=(i:Int)+7:=IntWalk.i64_in _ aD;have w2:IntKind.i64.wrap ((98:Int)+P)=(98:Int)+P:=IntWalk.i64_in _ aD;have w3:IntKind.i64.wrap ((98:Int)+P+b)=n:=by rw[e1];exact IntWalk.i64_in _ aD
 have h1:=Lh h;have w4:IntKind.i64.wrap (P:Int)=P:=IntWalk.i64_in _ aD;clear hn hb hn4 hi hi2 h hP;go_enter Tryz.func14,Tryz.ntmps14;go_wp2_with(first |(go_at_call 37;refine(hnew.out _ h1.out).mono ?_;rintro e wn ⟨p,rfl,hS⟩;have h2:=Lh hS;clear hS h1 hnew)|(go_at_call 38;refine(hfmt.out _ _ h2.out).mono ?_;rintro e wf ⟨f,q,rfl,hS⟩;have h3:=Lh hS;clear hS h2 hfmt)|(go_at_call 16;refine(DC _ _).mono ?_;rintro e w2 ⟨rfl,rfl⟩))
 go_ret3
 exact⟨f,q,p,rfl,h3.out⟩
end
end Go.Proofs.YtmjomdkleikgbaaGreat
