/- Parts. -/
import Derived.Test.YtmjomdkleikgbaaGreatJ34
set_option linter.unusedVariables false
set_option linter.unusedSimpArgs false
set_option maxRecDepth 100000
set_option maxHeartbeats 20000000
namespace Go.Proofs.YtmjomdkleikgbaaGreat
open Go.RowKit
theorem QO {α:Type} {f:α->Int} (h0:∀x,0<=f x):∀m:List α,0<=(m.map f).sum
 |[]=>NF _
 |a::m=>by have h1:=h0 a;have h2:=QO h0 m;rw[jW,uX];omega
theorem YK {α:Type} [DecidableEq α] {f:α->Int} (h0:∀x,0<=f x):∀ {l m:List α},l.Nodup->(∀x∈l,x∈m)->(l.map f).sum<=(m.map f).sum
 |[],m,_,_=>QO h0 m
 |a::l,m,hn,hs=>by
  rw[wK]at hn;obtain⟨s,t,rfl⟩:=ag8 (hs a mO);have:=YK h0 (l:=l) (m:=s++t) hn.2 fun x hx=>by
   have h1:=hs x (vD _ hx);rw[iM,jU]at h1;rw[iM];rcases h1 with h1|h1|h1
   ·exact .inl h1
   ·subst h1;exact absurd hx hn.1
   exact .inr h1
  simp only[mM,jW,M8,uX]at this ⊢;omega
theorem ap9 {α:Type} {f g:α->Int}:∀ {l:List α},(∀x∈l,f x<=g x)->(l.map f).sum<=(l.map g).sum
 |[],_=>NF _
 |a::l,h=>by(have h1:=ap9 fun x hx=>h x (vD _ hx));have h2:=h a mO;simp only[jW,uX];omega
theorem VL {k m n:Nat} (h:m<=n):fJ k m<=fJ k n:=by
 unfold fJ;split
 ·omega
 split
 ·split<;>split<;>omega
 exact NF _
theorem acR (k n:Nat):0<=fJ k n:=by
 unfold fJ;split
 ·omega
 split
 ·split<;>omega
 exact NF _
section
variable {ns ms:List TN} {fs gs:List FT}
theorem IE (K:Key):dZ ns K<=dZ (ns++ms) K:=by unfold dZ eB;rw[FH,jJ];omega
theorem VM {k:Int} (h:k∈fO ns):k∈fO (ns++ms):=by rw[jR]at h ⊢;obtain⟨h1,n,h2,h3⟩:=h;exact⟨h1,n,uT _ h2,h3⟩
theorem af2 (hf:∀n∈ns,n.file≠ -1->0<=n.file/\n.file<fs.length):uF ns fs<=uF (ns++ms) (fs++gs):=by
 unfold uF;have h1:fJ 1 (dZ ns [])<=fJ 1 (dZ (ns++ms) []):=VL (IE _);have h2:((kT ns).map fun n=>fJ 1 (dZ ns (aZ n))).sum<=((kT (ns++ms)).map fun n=>fJ 1 (dZ (ns++ms) (aZ n))).sum:=by have e:kT (ns++ms)=kT ns++kT ms:=FH ..;rw[e,mM,M8];(have h3:((kT ns).map fun n=>fJ 1 (dZ ns (aZ n))).sum<=((kT ns).map fun n=>fJ 1 (dZ (ns++ms) (aZ n))).sum:=ap9 fun n _=>VL (IE _));have h4:=YK (f:=fun n=>fJ 1 (dZ (ns++ms) (aZ n))) (fun n=>acR _ _) (l:=[]) (m:=kT ms) TL bK;simp only[LD,List.sum_nil]at h4;omega
 have h3:((fO ns).map fun k=>fJ 2 (XT fs k)).sum<=((fO (ns++ms)).map fun k=>fJ 2 (XT (fs++gs) k)).sum:=by refine Int.le_trans (Int.le_of_eq ?_) (YK (f:=fun k=>fJ 2 (XT (fs++gs) k)) (fun k=>acR _ _) (mR ns) fun k hk=>VM hk);congr 1;apply vW;intro k hk;obtain⟨h1,n,h2,rfl⟩:=jR.1 hk;obtain⟨h4,h5⟩:=hf n h2 h1;unfold XT;rw[C9 aI]
 omega
theorem af3 :nP ns<=nP (ns++ms):=by
 unfold nP;have e:kT (ns++ms)=kT ns++kT ms:=FH ..;have h1:=CX (mR ns) fun k hk=>VM (ms:=ms) hk
 rw[e,jJ];omega
theorem alL {nb names:Nat} (hf:∀n∈ns,n.file≠ -1->0<=n.file/\n.file<fs.length) (h:vT nb names (ns++ms) (fs++gs)=true):vT nb names ns fs=true:=by unfold vT at*;rw[rH,uQ,uQ]at h ⊢;have h1:=af2 (ms:=ms) (gs:=gs) hf;have h2:=af3 (ns:=ns) (ms:=ms);omega
end
section
variable {Ns:List TN}
theorem aiH (hu:(Ns.map aZ).Nodup) (hup:∀n∈Ns,dI Ns (aZ n).dropLast):∀(k:Nat) (K:Key),K.length=k->dI Ns K->∃c,nN Ns k K= .ok c/\kS c=true
 |0,K,hk,hK=>⟨none,rfl,rfl⟩
 |k+1,K,hk,hK=>by
  rcases hK with e|⟨n,hn,e,hf⟩
  ·rw[e]at hk;cases hk
  have hu2:=hup n hn;rw[e]at hu2;obtain⟨c,h1,h2⟩:=aiH hu hup k K.dropLast (by rw[YY,hk];rfl) hu2;refine⟨some n,?_,by show decide (n.file= -1)=true;rw[uQ];exact hf⟩;(show(nN Ns k K.dropLast).bind (stepT Ns K)=_);rw[h1];(show stepT Ns K c=_);unfold stepT;rw[if_pos h2,<-e,CQ hu hn]
theorem aqA (hu:(Ns.map aZ).Nodup) (hup:∀n∈Ns,dI Ns (aZ n).dropLast) {K:Key} (hK:dI Ns K.dropLast):zK Ns K= .ok (jQ Ns K):=by
 obtain⟨c,h1,h2⟩:=aiH hu hup _ _ rfl hK;unfold zK;rw[h1];show(if kS c=true then Except.ok (jQ Ns K)else Except.error 22)=_
 rw[if_pos h2]
theorem IG (h:K8 Ns):∀n∈Ns,dI Ns (aZ n).dropLast:=fun n hn=>by
 have hv:=h.valid n hn;rcases mI n.path with⟨_,_,h1⟩|⟨a,b,e,_,h2,h1⟩
 ·exact .inl (by unfold aZ;rw[h1];rfl)
 have hp:bA n.path=a:=by unfold bA;rw[if_pos hv,h2,e,List.take_left'];rfl
 have hk:(aZ n).dropLast=splitB a:=by unfold aZ;rw[h1,YZ]
 rw[hk];rcases h.up n hn with h3|⟨m,hm,h3,h4⟩
 ·exfalso;rw[hp]at h3;subst h3;(have hv2:LP n.path=true:=by rw[uG];exact hv);unfold LP at hv2;simp only[rH]at hv2;(have hm:([]:List UInt8)∈splitB n.path:=by rw[h1];exact uT _ (by simp[splitB]));have:=List.all_eq_true.1 hv2.2.2 _ hm;unfold iI at this;simp at this
 exact .inr ⟨m,hm,by unfold aZ;rw[h3,hp],h4⟩
theorem xJ (h:K8 Ns):(Ns.map aZ).Nodup:=by rw[List.Nodup,FJ];exact h.ne.imp fun {a b} e e2=>e (uJ _ (iU _) e2)
end
def mK (F:List TF):List FT:=F.map fun f=>⟨f.mode.toNat,f.bs⟩
theorem QP (F:List TF):(mK F).length=F.length:=iT _
theorem acS {F:List TF} (h:∀f∈F,gV f.mode=true):tfs (mK F)=F:=by
 unfold tfs mK;rw[qU]
 conv=>rhs;rw[<-List.map_id F]
 apply vW;intro f hf;have:=h f hf;unfold gV at this;rw[rH,uQ,uQ]at this;show(⟨((f.mode.toNat:Nat):Int),f.bs⟩:TF)=f
 rw[ag4 this.1]
section
variable {ns:List TN} {F:List TF} {nb names:Nat}
theorem xK (ho:gQ ns F) (i:Nat):K8 (ns.take i):=by
 have h:=good_start ho;refine⟨h.ne.sublist (ahC _ _),fun n hn=>h.valid n (DD hn),fun n hn=>?_,fun n hn=>h.file n (DD hn)⟩;rcases h.up n (DD hn)with h1|⟨m,hm,h1,h2⟩
 ·exact .inl h1
 right;refine⟨m,?_,h1,h2⟩;obtain⟨j,hj⟩:=List.mem_iff_getElem?.1 hn;rw[uU]at hj;split at hj
 ·rename_i hji;obtain⟨l,hl⟩:=List.mem_iff_getElem?.1 hm;have hjl:=(gF.1 hj).1;have hll:=(gF.1 hl).1;(have hless:Op.bytesLess m.path n.path=true:=by rw[h1];exact BG (h.valid n (gG hj)));have hlj:l<j:=by
   rcases TI l j with h9|h9|h9
   ·exact h9
   ·subst h9;rw[hj]at hl;cases hl;rw[lZ]at hless;cases hless
   have h8:=DY.1 ho.up j l hjl hll h9;rw[(gF.1 hj).2,(gF.1 hl).2]at h8;have:=pO h8 hless;rw[lZ]at this;cases this
  rw[List.mem_iff_getElem?];exact⟨l,by rw[uU,if_pos aI,hl]⟩
 cases hj
theorem alM (ho:gQ ns F) {i k:Nat} (h:runK ns i=some k):∀n∈ns.take i,n.file≠ -1->0<=n.file/\n.file<(k:Int):=fun n hn hf=>by
 obtain⟨j,hj⟩:=List.mem_iff_getElem?.1 hn;rw[uU]at hj;split at hj
 ·rename_i hji;obtain⟨k2,h1,h2,h3⟩:=QF h j hji n hj;obtain⟨_,_,_,h4,h5,_⟩:=pQ h2;unfold gK at h3;split at h3<;>omega
 cases hj
theorem auB (ho:gQ ns F) {i:Nat} {n:TN} (hn:ns[i]? =some n):zK (ns.take i) (splitB n.path)= .ok none:=by
 have hg:=xK ho i;have hg1:=xK ho (i+1);have htk:ns.take (i+1)=ns.take i++[n]:=by rw[pX,hn];rfl
 have hup:=IG hg1 n (by rw[htk];simp);rw[htk]at hg1 hup;have hk1:=xJ hg1;rw[mM,LB,uW]at hk1;have hno:∀m∈ns.take i,aZ m≠aZ n:=fun m hm e=>hk1.2.2 _ (List.mem_map.2 ⟨m,hm,rfl⟩) _ (rW.2 rfl) e
 have hK:dI (ns.take i) (splitB n.path).dropLast:=by
  rcases hup with e|⟨m,hm,e,hf⟩
  ·exact .inl e
  rcases iM.1 hm with hm|hm
  ·exact .inr ⟨m,hm,e,hf⟩
  rw[rW]at hm;subst hm;have:=congrArg List.length e;rw[YY]at this;have h2:=List.length_pos_iff.2 (afW m);omega
 rw[aqA (xJ hg) (IG hg) hK];congr 1;unfold jQ;rw[vY];intro m hm;have:=hno m hm;unfold aZ at this ⊢;simpa using this
structure aBV (ns:List TN) (F:List TF) (nb names:Nat) (i k:Nat) (n:TN):Prop where
 dir:n.file= -1->runK ns (i+1)=some k/\∃mode:Nat,n.mode=mode/\∀kk,doX nb names (ns.take i) ((mK F).take k) 1 n.path [] n.mode kk 0 []=⟨0,ns.take (i+1),(mK F).take k⟩
 new:n.file=(k:Int)->runK ns (i+1)=some (k+1)/\∃f,F[k]? =some f/\doX nb names (ns.take i) ((mK F).take k) 6 n.path [] f.mode 0 1 f.bs=⟨0,ns.take (i+1),(mK F).take (k+1)⟩
 link:0<=n.file->n.file<(k:Int)->runK ns (i+1)=some k/\∀m∈ns.take i,m.file=n.file->∀kk,doX nb names (ns.take i) ((mK F).take k) 4 m.path n.path 0 kk 0 []=⟨0,ns.take (i+1),(mK F).take k⟩
 range: -1<=n.file/\n.file<=(k:Int)
theorem axN (ho:gQ ns F) (hfit:vT nb names ns (mK F)=true) {i k:Nat} {n:TN} (hn:ns[i]? =some n) (hr:runK ns i=some k):aBV ns F nb names i k n:=by
 obtain⟨k0,hr0,hno,hnk⟩:=QF ho.run i (gF.1 hn).1 n hn;rw[hr]at hr0;cases hr0;obtain⟨hv,_,_,hf1,hf2,hmo,hm0⟩:=pQ hno;have hr1:=qK hr hn;rw[if_pos hno]at hr1;have hat:=auB ho hn;have hil:=(gF.1 hn).1;have aBW:(ns.take i).length<256:=by rw[qQ];have:=ho.few;omega
 have htk:ns.take (i+1)=ns.take i++[n]:=by rw[pX,hn];rfl
 have hne:=nR hv;have hnew:LQ (ns.take i) n.path=0:=by unfold LQ;rw[hat];simp only;rw[if_pos aBW]
 have aG5:DU (ns.take i) (splitB n.path)=0:=by unfold DU;rw[hat]
 have hkl:((mK F).take k).length=k:=by rw[qQ,QP];have:=QE k n;omega
 have hroom:∀(k2:Nat),runK ns (i+1)=some k2->k2<=F.length->vT nb names (ns.take (i+1)) ((mK F).take k2)=true:=fun k2 h2 h3=>by(have hk2:((mK F).take k2).length=k2:=by rw[qQ,QP];omega);refine alL (ms:=ns.drop (i+1)) (gs:=(mK F).drop k2) (fun m hm hf=>?_) (by rw[DC,DC];exact hfit);rw[hk2];exact alM ho h2 m hm hf
 refine⟨fun e=>?_,fun e=>?_,fun h0 hlt=>?_,hf1,hf2⟩
 ·(have hk1:gK k n=k:=by unfold gK;rw[if_neg aI]);rw[hk1]at hr1 hnk;have hM:=hmo e;unfold gV at hM;rw[rH,uQ,uQ]at hM;refine⟨hr1,n.mode.toNat,by omega,fun kk=>?_⟩;(have hck:RD 1 n.path [] n.mode kk 0 ([]:List UInt8).length=0:=by unfold RD wC;have e1:(bR 1).2.2=true:=rfl;have e2:(bR 1).1=false:=rfl;rw[e1,e2,if_neg aR,if_neg aR,if_neg aI,if_neg (by simp[hne]),if_neg (by simp[hv]),if_pos aR]);unfold doX;rw[if_pos hck,if_neg aR];unfold afG;rw[if_pos rfl,if_pos hnew];(have hN:vR (ns.take i) ((mK F).take k) 1 n.mode.toNat n.path=ns.take (i+1):=by unfold vR;rw[htk,if_pos rfl,ag4 hM.1];obtain⟨p,f,m⟩:=n;simp only at e;rw[e]);rw[hN];unfold BC;simp only;rw[if_pos (hroom k hr1 aI)]
 ·(have hk1:gK k n=k+1:=by unfold gK;rw[if_pos e]);rw[hk1]at hr1 hnk;(have hkF:k<F.length:=by omega);refine⟨hr1,F[k],gE hkF,?_⟩;have hM:=ho.aiC _ (nJ hkF);unfold gV at hM;rw[rH,uQ,uQ]at hM;have hsz:=ho.size _ (nJ hkF);(have hck:RD 6 n.path [] F[k].mode 0 1 F[k].bs.length=0:=by unfold RD wC;have e1:(bR 6).2.2=true:=rfl;have e2:(bR 6).1=false:=rfl;rw[e1,e2,if_neg aR,if_neg aR,if_neg aI,if_neg (by simp[hne]),if_neg (by simp[hv]),if_neg aR,if_neg aR,if_neg (by have:F[k].bs.length<=8192:=hsz;omega)]);unfold doX;rw[if_pos hck,if_neg aR];unfold afG;rw[if_neg aR,if_neg aR,if_neg aR,if_neg aR,if_neg aR,if_pos rfl,if_pos hnew];(have hN:vR (ns.take i) ((mK F).take k) 2 F[k].mode.toNat n.path=ns.take (i+1):=by unfold vR;rw[htk,if_neg aR,hkl];have h9:=hm0 aI;obtain⟨p,f,m⟩:=n;simp only at e h9;rw[e,h9]);(have hN2:PU ((mK F).take k) 2 F[k].mode.toNat F[k].bs=(mK F).take (k+1):=by unfold PU;rw[if_neg aR,pX];congr 1;unfold mK;rw[kX,gE hkF];rfl);rw[hN,hN2];unfold BC;simp only;rw[if_pos (hroom (k+1) hr1 aI)]
 have hk1:gK k n=k:=by unfold gK;rw[if_neg aI]
 rw[hk1]at hr1 hnk;refine⟨hr1,fun m hm hmf kk=>?_⟩;have hg:=xK ho i;have hvm:=hg.valid m hm;have hck:RD 4 m.path n.path 0 kk 0 ([]:List UInt8).length=0:=by unfold RD wC;have e1:(bR 4).2.2=true:=rfl;have e2:(bR 4).1=true:=rfl;have e3:(bR 4).2.1=false:=rfl;rw[e1,e2,e3,if_neg aR,if_neg aR,if_neg bK,if_neg (by simp[hne,nR hvm]),if_neg (by simp[hv,hvm]),if_pos aR]
 have hfil:vC (ns.take i) (splitB m.path)= .ok m:=by(have h1:zK (ns.take i) (splitB m.path)= .ok (some m):=by(show zK (ns.take i) (aZ m)=_);rw[aqA (xJ hg) (IG hg) (IG hg m hm)];congr 1;exact CQ (xJ hg) hm);unfold vC kC;rw[h1];simp only;rw[if_neg aI]
 unfold doX;rw[if_pos hck,if_neg aR];unfold afG;rw[if_neg aR,if_neg aR,if_neg aR,if_pos rfl,hfil];simp only;rw[if_pos aG5,if_pos aBW];have hN:ns.take i++[⟨n.path,m.file,0⟩]=ns.take (i+1):=by rw[htk,hmf];have h9:=hm0 aI;obtain⟨p,f,m⟩:=n;simp only at h9;rw[h9]
 rw[hN];unfold BC;simp only;rw[if_pos (hroom k hr1 aI)]
end
theorem Z75 {P:Prop} (h:P:=by refine⟨wa,_::Ra,h3.perm lN.symm,fun Y' W' h=>⟨bs,h1,h4 (_::Y') W' (h.perm lN)⟩⟩):P:=h
end Go.Proofs.YtmjomdkleikgbaaGreat
namespace Go.Proofs.YtmjomdkleikgbaaGreat
open Go.RowKit Go.Shelf
attribute [local go_sem] Oper.semAt_some
def awD (c:acP) (LW alN eb bf be:Nat) (v7 v8 v16 v17:Value):Act:= {tmps:=#[pV c.f,pV c.b1,pV LW,pV alN,pV c.bt,pV eb,pV c.bm,v7,v8,undef,undef,undef,undef,.map (some c.bk),pV c.f,.func (.func 130) #[] #[pV bf,pV be],v16,v17,undef,undef,undef,undef,undef,undef,undef,undef,undef,undef,undef,undef,undef,undef,undef,undef,undef,undef,undef,undef,undef,undef,undef,undef,undef,undef,undef,undef,undef,undef,undef,undef,undef,undef,undef,undef,undef,undef,undef,undef,undef,undef,undef,undef,undef,undef,undef,undef,undef,undef,undef,undef,undef,undef,undef,undef,undef,undef,undef,undef,undef,undef,undef],defers:=[]}
theorem Z32 {P:Prop} (h:P:=by
 haveI:DecidableEq aV:=fun a b=>Classical.propDecidable (a=b)
 rw[LA];intro a;simp only[RH,RJ,kN];omega):P:=h
theorem af4 (r B0 b1 bt bm gm n fl:aV) (Y z R:List aV):(r::((B0::Y)++((b1::bt::bm::gm::n::fl::z)++R))).Perm (bt::bm::gm::n::fl::b1::B0::(z++(r::(Y++R)))):=by exact Z32
theorem VN (r B0 b1 bt bm gm n fl:aV) (Y z R:List aV):(bt::bm::gm::n::fl::b1::B0::(z++(r::(Y++R)))).Perm (B0::r::(Y++((b1::bt::bm::gm::n::fl::z)++R))):=by exact Z32
section
variable {V:List TN} {x:TN} {fs:List FT}
theorem QQ (V:List TN):(fA V).length=V.length:=iT _
theorem aqB (hf:x.file<0):fP (V++[x])=fP V/\fA (V++[x])=fA V++[x]:=by
 have e:fP (V++[x])=fP V:=by rw[kU,if_pos hf]
 refine⟨e,?_⟩;unfold fA;rw[e,mM,LB];congr 2;unfold lC;rw[if_pos hf]
theorem aqC (hf:¬x.file<0) (hm:x.file∈fP V):fP (V++[x])=fP V/\fA (V++[x])=fA V++[⟨x.path,((fP V).idxOf x.file:Nat),x.mode⟩]:=by
 have e:fP (V++[x])=fP V:=by rw[kU,if_neg hf,if_pos hm]
 refine⟨e,?_⟩;unfold fA;rw[e,mM,LB];congr 2;unfold lC;rw[if_neg hf]
theorem aqD (hf:¬x.file<0) (hm:x.file∉fP V):fP (V++[x])=fP V++[x.file]/\fA (V++[x])=fA V++[⟨x.path,((fP V).length:Nat),x.mode⟩]/\fG (V++[x]) fs=fG V fs++[nQ (tfs fs) x.file]:=by
 have e:fP (V++[x])=fP V++[x.file]:=by rw[kU,if_neg hf,if_neg hm]
 refine⟨e,?_,?_⟩
 ·unfold fA;rw[e,mM,LB,U8 (fun n hn hn2=>uK V n hn hn2)];congr 2;unfold lC;rw[if_neg hf,List.idxOf_append,if_neg hm];simp
 unfold fG;rw[e,mM,LB]
end
theorem af5 (xs:List TN) (n:TN):dG (xs++[n])=dG xs++[aC n.path,.int .i64 n.file,.int .i64 n.mode]:=by rw[BF];rfl
theorem Z39 {P:Prop} (h:P:=by
 haveI:DecidableEq aV:=fun a b=>Classical.propDecidable (a=b)
 rw[LA];intro a;simp only[RH,RJ];omega):P:=h
theorem axO (r a0 a1 a2 a3 a4 a5 a6:aV) (z Q:List aV):(a0::a1::a2::a3::a4::a5::a6::(z++(r::Q))).Perm (r::a0::a1::a2::a3::a4::a5::a6::(z++Q)):=by exact Z39
theorem Z16 {P:Prop} (h:P:=by
 haveI:DecidableEq aV:=fun a b=>Classical.propDecidable (a=b)
 rw[LA];intro a;simp only[RH,RJ,kN,TM];omega):P:=h
theorem aqE (r u a0 a1 a2 a3 a4 a5 a6:aV) (z Y R:List aV):(u::r::a0::a1::a2::a3::a4::a5::a6::(z++(Y++R))).Perm (a6::r::(Y++((a5::a0::a1::a2::a3::a4::(z++[u]))++R))):=by exact Z16
theorem alO (r D a0 a1 a2 b1 bt bm gm be br:aV) (T Y2 R:List aV):(r::((D::([a0,a1,a2]++Y2))++((b1::bt::bm::gm::T)++(be::br::R)))).Perm (bt::a2::br::be::D::b1::bm::gm::a0::a1::(T++(Y2++(r::R)))):=by exact Z16
theorem acT (a0 a1 a2 b1 bt bm gm be br D:aV) (T Q:List aV):(a0::a1::a2::b1::bt::bm::gm::be::br::D::(T++Q)).Perm (T++(a0::a1::a2::b1::bt::bm::gm::be::br::D::Q)):=by exact Z39
theorem aqF (a0 a1 a2 b1 bt bm gm be br D:aV) (T Y2 Q:List aV):(a0::a1::a2::b1::bt::bm::gm::be::br::D::(T++(Y2++Q))).Perm (([a0,a1,a2,b1,bt,bm,gm,be,br,D]++Y2)++(T++Q)):=by exact Z16
def VO (N:List TN) (F:List TF) (N':List TN) (F':List TF):Prop:=
 ∀ {w0 w:World} {R:List aV} {nv fv:Value} {vs:List Value},vs.length=F.length->Sep w0 w (nE nv fv N F vs++R)->
  Calls Tryz.prog 67 #[.agg #[nv,fv]] w fun e w'=>∃nv' fv' vs',e= .returned (.tuple #[.agg #[nv',fv'],iV 0])/\vs'.length=F'.length/\Sep w0 w' (nE nv' fv' N' F' vs'++R)
theorem axP {F:List TF} {vs:List Value} (hl:vs.length=F.length) (f:TF) (v:Value):iB (F++[f]) (vs++[v])=iB F vs++[.int .i64 f.mode,v]:=by unfold iB;rw[List.zip_append hl.symm,WE];rfl
theorem aqG {w0 W:World} {X:List aV} {f q p:Nat} {S1:VS} {ns:List TN} {fs:List FT} {nb names:Nat} {g:LT} {dn:Key->Nat} {φ:Int->Nat} (h2:gX S1 ns fs nb names) (hV:Vt S1.base ns fs g dn φ) {n:TN} (hv:aU n.path=true) (hl:n.path.length<=200) (hn:n∈ns) (hf:n.file≠ -1) (h4:Sep w0 W (bE f q p S1::X)):
  Calls Tryz.prog 66 #[pV f,aC n.path] W fun e w'=>∃v,e= .returned (.tuple #[v,iV 0])/\Sep w0 w' (aJ v (yE fs n.file)::bE f q p S1.base::X):=by
 obtain⟨r1,r2⟩:=at1 hV hn hv hf;obtain⟨x1,x2⟩:=hV.read n.path;refine(aoJ (path:=n.path) aI h2.off hV.iJ.vw hV.iJ.abG h4).mono ?_;rintro e w' ⟨v,rfl,hS⟩;rw[x1,r1];rw[x2,r2]at hS;exact⟨v,rfl,hS⟩
theorem QR :(Tryz.prog.info? 68).map (fun i=>(i.zero,i.size,i.bytes))=some (some (.agg #[.string ⟨#[]⟩,iV 0,iV 0]),3,32):=by kernel_rfl
theorem af6 :(Tryz.prog.info? 71).map (fun i=>(i.zero,i.size,i.bytes))=some (some (.agg #[iV 0,.slice none 0 0]),2,32):=by kernel_rfl
theorem Z59 {P:Prop} (h:P:=by simp only[jU,DF,or_false]at hu;rcases hu with rfl|rfl|rfl<;>rfl):P:=h
theorem acU {l n9:Nat} {w0 w:World} {As:List aV} {ops:Array Oper} {rest:List Oper} {o:Oper} {a:Act} {Q:Exit->Act->World->Prop} (k:Nat) (hgd:o.guard=none) (s x:Operand)
  (ho:o.op= .call {callee:=.builtin .append,args:=#[s,x],argTypes:=#[22,22]}) {W:World} {ph:List UInt8} {fi mo:Int} (hS:Sep w0 W As) (hw:w=W.alloc (.cells #[aC ph,iV fi,iV mo] 68)) {v:Value} {n:Nat} {cs:List Value} (hk:As[k]? =some (.sl 68 3 v n cs)) (hs:a.eval s=v)
  {gb:Nat} (hx:a.eval x=sV gb 1 1) (hgb:gb=W.heap.size) (hn:n<=1000)
  (h:∀v' w',Sep w0 w' (As.set k (.sl 68 3 v' (n+1) (cs++[aC ph,.int .i64 fi,.int .i64 mo])))->wpListIn (Fence.wide.inRound l) n9 Tryz.prog ops Q rest (a.put o.dst v') w'):
  wpListIn (Fence.wide.inRound l) n9 Tryz.prog ops Q (o::rest) a w:=by
 subst hw;subst hgb;obtain⟨k0,hif,hk0,hk1,hk2⟩:=iN QR;refine iZ k hgd s x 22 ho 68 k0 _ 3 32 Tryz.underlying22 hif hk0 hk1 hk2 rfl aR (hS.alloc _) v n cs hk hs (sV W.heap.size 1 1) 1 [aC ph,.int .i64 fi,.int .i64 mo] hx ⟨rfl,_,_,rfl,iU _,by unfold maxLen;omega,fun _=>⟨_,rfl,by rw[World.size_alloc];exact IX _,jH W #[aC ph,iV fi,iV mo] 68 _ rfl⟩⟩ (fun u hu=>?_) vE aI fun v' w' h1 _=>h v' w' h1
 exact Z59
section
variable {w0 w:World} {R:List aV} {f q p:Nat} {S:VS} {ns:List TN} {fs:List FT} {nb names:Nat} {g:LT} {dn:Key->Nat} {φ:Int->Nat}
theorem Z17 {P:Prop} (h:P:=by
 rcases iM.1 hn with hn|hn
 ·exact hsub n hn
 rw[rW]at hn;rw[hn];exact hx):P:=h
theorem Z69 {P:Prop} (h:P:=by
 have el:(fA (pre++[x])).length=N+1:=by rw[i2,jJ,hN.out];rfl
 unfold QN nE;rw[em,eF,eN,el,<-hM.out];exact h9):P:=h
theorem aqH {N':List TN} {F':List TF} (aqI:∀V,V.Perm ns->VO (fA V) (fG V fs) N' F') (hL:gX S ns fs nb names) (hV:Vt S.base ns fs g dn φ) (hg:K8 ns) (hl:∀n∈ns,n.path.length<=200) (lS:ns.length<=300) (h:Sep w0 w (bE f q p S::R)):
  Calls Tryz.prog 19 #[pV f] w fun e w'=>∃nv fv vs S',e= .returned (.tuple #[.agg #[nv,fv],iV 0])/\vs.length=F'.length/\S'.base=S.base/\gX S' ns fs nb names/\Sep w0 w' (nE nv fv N' F' vs++(bE f q p S'::R)):=by
 have hmm:= @run_makeMap Tryz.prog;have k1:=((((h.bN 37 #[pV f]).bN 25 #[.slice none 0 0,.slice none 0 0]).bN 40 #[iV 0]).bN 25 #[.slice none 0 0,.slice none 0 0]).bN 40 #[iV 0];have k2:=k1.JK 3;have k3:=k2.bN 100 #[.map (some (w.heap.size+1+1+1+1+1))];simp only[World.size_alloc]at k3;have hS0:=Lh k3;have hal:=Lh (auA (f:=f) (eb:=w.heap.size+1+1+1+1) k3);clear k1 k2 k3 h;refine(callsIn_wide (n:=9)).1 ?_;refine callsIn_of_wp_marks Tryz.func19 rfl trivial ?_ rfl;simp only[Tryz.ntmps19,kJ,kM,rF,Nat.reduceAdd,Nat.reduceSub,yZ,y7,y9,y8,mP,kN];rw[wpIn_wide];go_wp2_with(go_at_call 65;refine hal.out.mono ?_;rintro e w1 ⟨bf,be,rfl,h1⟩;have h2:=Lh h1;clear h1);clear hS0 hal;obtain⟨bm,hbm⟩:∃x,x=w.heap.size+1+1+1+1+1+1:=⟨_,rfl⟩;rw[<-hbm]at h2 ⊢;obtain⟨bk,hbk⟩:∃x,x=w.heap.size+1+1+1+1+1:=⟨_,rfl⟩;rw[<-hbk]at h2 ⊢;obtain⟨eb,heb⟩:∃x,x=w.heap.size+1+1+1+1:=⟨_,rfl⟩;rw[<-heb]at h2 ⊢;obtain⟨bt,hbt⟩:∃x,x=w.heap.size+1+1+1:=⟨_,rfl⟩;rw[<-hbt]at h2 ⊢;obtain⟨alN,awE⟩:∃x,x=w.heap.size+1+1:=⟨_,rfl⟩;rw[<-awE]at h2 ⊢;obtain⟨LW,awF⟩:∃x,x=w.heap.size+1:=⟨_,rfl⟩;rw[<-awF]at h2 ⊢;obtain⟨b1,hb1⟩:∃x,x=w.heap.size:=⟨_,rfl⟩;rw[<-hb1]at h2 ⊢;clear hbm hbk heb hbt awE awF hb1;obtain⟨c,hc⟩:∃c:acP,c=⟨f,q,p,b1,bt,bm,bk⟩:=⟨_,rfl⟩;have hu:=xJ hg;have hup:=IG hg;obtain⟨R',hR'⟩:∃R',R'=aH alN 0:: .box LW 25 #[.slice none 0 0,.slice none 0 0]::R:=⟨_,rfl⟩;have hst:Hid (acQ w0 R' S.base ns fs nb names c φ [] (CY bf be eb f 0) w1):=Lh (by
  have h3:=(h2.out.iO 71 2).iO 68 3;refine⟨S,.slice none 0 0,.slice none 0 0,[],rfl,⟨hL,fun n hn=>absurd hn bK⟩,rfl,h3.perm ?_⟩
  haveI:DecidableEq aV:=fun a b=>Classical.propDecidable (a=b)
  rw[hR',hc,LA];intro a;simp only[pV,iV,CY,QN,nE,aH,RH,RJ,kN,mP,TM,List.zipWith_nil_left,xH,fA,fG,dG,iB,fP,LD,List.flatMap_nil,List.zip_nil_left,rF,List.foldl_nil,List.zipIdx_nil];omega)
 clear h2;have hSt:=Lh (at5 (w0:=w0) (R:=R') (nb:=nb) (names:=names) (c:=c) hV hg.valid hl);have hAx:∀pre x,Shared (fun(a1:Act) (Y:List aV) (W:World)=>∃bs,a1=awD c LW alN eb bf be (aC x.path) (pV bs) (aC x.path) ((oP ns fs dn φ).v x)/\acQ w0 R' S.base ns fs nb names c φ pre (.box bs 105 #[iV ((oP ns fs dn φ).k x),iV ((oP ns fs dn φ).m x),iV ((oP ns fs dn φ).l x),iV ((oP ns fs dn φ).s x),iV ((oP ns fs dn φ).i x)]::Y) W):=fun pre x=>by rintro a1 Y W ⟨bs,h1,h2⟩;obtain⟨wa,Ra,h3,h4⟩:=vV _ _ _ h2;exact Z75
 refine wpIn_wide.1 (uM (F:=Fence.wide) (n:=9) rfl aR (gf:=130) (lb:=#[pV bf,pV be]) rfl trivial (enters_of Tryz.func130 fT rfl)
  (encs:=fun x:TN=>#[aC x.path,(oP ns fs dn φ).v x]) (fun _=>rfl) (acQ w0 R' S.base ns fs nb names c φ) vV (CY bf be eb f 0) hst.out (fun pre x=>x∈ns/\pre.length<ns.length) (fun xs Y1=>xs.Perm ns/\Y1=CY bf be eb f 0)
  ?seq _ hAx ?assign ?body ?done)
 case seq=>intro l Z W hY h0;have hSf:=hSt.out;rw[hc]at hSf;refine(ap1 (hc▸hSt.out:afZ _ ns f _) hu hup hl (fun n hn=>nR (hg.valid n hn)) lS l bf be eb (9-1) 0 Z W (fun pre x Y W1 hx hp h=>hY pre x Y W1 ⟨hx,hp⟩ h) h0).mono ?_;rintro e W' ⟨h1,xs,h2,h3⟩;exact⟨h1,xs,_,⟨h2,rfl⟩,h3⟩
 case assign=>
  intro l pre x Y W K hx hS hK;have hS2:=vV.new hS (.cells #[iV ((oP ns fs dn φ).k x),iV ((oP ns fs dn φ).m x),iV ((oP ns fs dn φ).l x),iV ((oP ns fs dn φ).s x),iV ((oP ns fs dn φ).i x)] 105);have hK2:=Lh (fun a1 (e:a1=_)=>hK a1 _ ⟨W.heap.size,e,hS2⟩);clear hK hS2 hS hSt hst hAx;subst hc;unfold Stats.v at*
  gi_wp2
  exact hK2.out _ rfl
 case body=>
  rintro l pre x a1 Y W ⟨hx,hpl⟩ ⟨bs,e1,hA⟩;subst hc;subst hR';unfold awD at e1;subst e1;obtain⟨S1,nv,fv,vs,h1,⟨h2,hsub⟩,h3,h4⟩:=hA;unfold QN nE at h4;have h5:=h4.perm (af4 _ _ _ _ _ _ _ _ _ _ _);obtain⟨An,cn,env,_⟩:=h5.gT 3 rfl;subst env;obtain⟨Af,cf,efv,_⟩:=h5.gT 4 rfl;subst efv;obtain⟨k0,hif,hk0,hk1,hk2⟩:=iN QR;obtain⟨N,hN⟩:∃N,N=(fA pre).length:=⟨_,rfl⟩;(have hN2:N<=300:=by rw[hN,QQ];omega);rw[<-hN]at h5;obtain⟨M,hM⟩:∃M,M=(fG pre fs).length:=⟨_,rfl⟩;rw[<-hM]at h5;clear h4;have hS5:=Lh h5;have y0:=h5.bC 6 rfl 0;have y1:=h5.bC 6 rfl 1;have y4:=h5.bC 6 rfl 4;have t0:=h5.bC 0 rfl 0;have t1:=h5.bC 0 rfl 1;have m0:=h5.bC 1 rfl 0;have f0:=h5.bC 5 rfl 0;simp only[gA,gB,gC]at y0 y1 y4 t0 t1 m0 f0;have hx2:=hg.file x hx;replace hN:=Lh hN;replace hM:=Lh hM;clear hSt hst hAx h5;by_cases hf:x.file= -1
  ·have ek:(oP ns fs dn φ).k x=1:=if_pos hf;have em:(oP ns fs dn φ).m x=x.mode:=if_pos hf;rw[ek]at y0;rw[em]at y1;have hrd:Hid (Rd (W.alloc (.cells #[aC x.path,iV (-1),iV x.mode] 68)) 3 (sV W.heap.size 1 1) 1 [aC x.path,.int .i64 (-1),.int .i64 x.mode]):=Lh ⟨rfl,_,_,rfl,iU _,by unfold maxLen;omega,fun _=>⟨_,rfl,by rw[World.size_alloc];exact IX _,jH W #[aC x.path,iV (-1),iV x.mode] 68 _ rfl⟩⟩;have mG:=Lh (hS5.out.alloc (.cells #[aC x.path,iV (-1),iV x.mode] 68));(have h1c:Hid (∀u∈[aC x.path,Value.int .i64 (-1),.int .i64 x.mode],u.oneCell'=true):=Lh fun u hu=>by exact Z59);clear ek em;unfold aC at*
   gi_wp2_with (gi_at_builtin;refine iZ 3 rfl _ _ 22 rfl 68 k0 _ 3 32 Tryz.underlying22 hif hk0 hk1 hk2 rfl aR mG.out _ N _ rfl rfl (sV W.heap.size 1 1) 1 _ rfl hrd.out h1c.out vE aI ?_;intro v3 w3 eZ hz3;(obtain⟨A3,c3,e3,_⟩:=eZ.gT 3 rfl);subst e3;(have d0:=eZ.bC 0 rfl 0);(have d1:=eZ.bF 0 rfl 0);simp only[gA,gB,MV,IU,gC]at d0;(have lX:=Lh (eZ.bS 0 rfl 0 (.slice A3 (N+1) c3)));clear eZ)
   have h9:=(lX.out.perm (VN _ _ _ _ _ _ _ _ _ _ _)).drop 1;obtain⟨i1,i2⟩:=aqB (V:=pre) (x:=x) aI;refine⟨S1,.slice A3 (N+1) c3,.slice Af M cf,vs,h1,⟨h2,fun n hn=>?_⟩,?_,?_⟩
   ·exact Z17
   ·unfold fG at h3 ⊢;rw[i1];exact h3
   (have em:xH φ (pre++[x])=xH φ pre:=by unfold xH;rw[i1]);(have eF:fG (pre++[x]) fs=fG pre fs:=by unfold fG;rw[i1]);(have eN:dG (fA (pre++[x]))=dG (fA pre)++[aC x.path,.int .i64 (-1),.int .i64 x.mode]:=by rw[i2,af5,hf]);exact Z69
  have hf0:¬x.file<0:=by
   rcases hx2 with⟨e,_⟩|⟨e,_⟩
   ·exact absurd e hf
   omega
  have hm0:x.mode=0:=by
   rcases hx2 with⟨e,_⟩|⟨_,e⟩
   ·exact absurd e hf
   exact e
  obtain⟨f1,f2,f3,⟨ff,f4,_,_⟩,_⟩:=hV.rep.file x hx hf;have f5:=hV.iJ.ph.pJ;have ek:(oP ns fs dn φ).k x=2:=if_neg hf;(have em:(oP ns fs dn φ).m x=ff.mode:=by(show(if x.file= -1 then x.mode else((fs[x.file.toNat]?).map fun f=>(f.mode:Int)).getD 0)=_);rw[if_neg hf,f4];rfl);have ei:(oP ns fs dn φ).i x=(φ x.file:Int)+1:=if_neg hf;rw[ek]at y0;rw[em]at y1;rw[ei]at y4;obtain⟨I,hI⟩:∃I:Int,I=(φ x.file:Int)+1:=⟨_,rfl⟩;(have hI2:0<=I/\I<=2000:=by omega);rw[<-hI]at y4;have hkey:keyOf Tryz.prog 3 (.int .i64 I)=some (.int .i64 I):=Maps.keyOf_int_mk Tryz.underlying3 (by simp[Lit.wf,IntKind.min,IntKind.max,IntKind.signed,IntKind.bits];omega);have hinj:Inj φ (pre++[x]):=fun a ha b hb h8 h9 e=>by
   (have hin:∀n∈pre++[x],n∈ns:=fun n hn=>by exact Z17);(have na:a.file≠ -1:=by omega);(have nb:b.file≠ -1:=by omega);rcases hV.rep.inj a (hin a ha) b (hin b hb) (by unfold bY;rw[if_neg na,if_neg nb,e])with e2|⟨_,e2⟩
   ·rw[e2]
   exact e2
  have SQ:=hS5.out.sD 2 rfl;have hlk:=hS5.out.acV 2 rfl dV Tryz.underlying100 (QS W) hkey;have em':=Lh em;clear ek em ei f1 f2 f3 f5;by_cases hm:x.file∈fP pre
  ·have e1:=ap7 hinj SQ hf0 hm;rw[<-hI]at e1;rw[e1]at hlk;simp only[IW,TH]at hlk;obtain⟨K0,hK0⟩:∃K0,K0=(fP pre).idxOf x.file:=⟨_,rfl⟩;rw[<-hK0]at hlk;replace hK0:=Lh hK0;have hrd:Hid (Rd (W.alloc (.cells #[aC x.path,iV (K0:Nat),iV 0] 68)) 3 (sV W.heap.size 1 1) 1 [aC x.path,.int .i64 (K0:Nat),.int .i64 0]):=Lh ⟨rfl,_,_,rfl,iU _,by unfold maxLen;omega,fun _=>⟨_,rfl,by rw[World.size_alloc];exact IX _,jH W #[aC x.path,iV (K0:Nat),iV 0] 68 _ rfl⟩⟩;have mG:=Lh (hS5.out.alloc (.cells #[aC x.path,iV (K0:Nat),iV 0] 68));(have h1c:Hid (∀u∈[aC x.path,Value.int .i64 (K0:Nat),.int .i64 0],u.oneCell'=true):=Lh fun u hu=>by exact Z59);clear e1 SQ hkey;replace hI:=Lh hI;unfold aC at*
   gi_wp2_with (gi_at_builtin;refine iZ 3 rfl _ _ 22 rfl 68 k0 _ 3 32 Tryz.underlying22 hif hk0 hk1 hk2 rfl aR mG.out _ N _ rfl rfl (sV W.heap.size 1 1) 1 _ rfl hrd.out h1c.out vE aI ?_;intro v3 w3 eZ hz3;(obtain⟨A3,c3,e3,_⟩:=eZ.gT 3 rfl);subst e3;(have d0:=eZ.bC 0 rfl 0);(have d1:=eZ.bF 0 rfl 0);simp only[gA,gB,MV,IU,gC]at d0;(have lX:=Lh (eZ.bS 0 rfl 0 (.slice A3 (N+1) c3)));clear eZ)
   have h9:=(lX.out.perm (VN _ _ _ _ _ _ _ _ _ _ _)).drop 1;obtain⟨i1,i2⟩:=aqC (V:=pre) (x:=x) aI hm;refine⟨S1,.slice A3 (N+1) c3,.slice Af M cf,vs,h1,⟨h2,fun n hn=>?_⟩,?_,?_⟩
   ·exact Z17
   ·unfold fG at h3 ⊢;rw[i1];exact h3
   (have em:xH φ (pre++[x])=xH φ pre:=by unfold xH;rw[i1]);(have eF:fG (pre++[x]) fs=fG pre fs:=by unfold fG;rw[i1]);(have eN:dG (fA (pre++[x]))=dG (fA pre)++[aC x.path,.int .i64 (K0:Nat),.int .i64 0]:=by rw[i2,af5,hm0,hK0.out]);exact Z69
  obtain⟨e1,e2⟩:=ap8 hinj hf0 hm (show WideAt.IsKeyLit (.int .i64 ((φ x.file:Int)+1))from trivial);rw[<-hI]at e1 e2;rw[e1]at hlk;simp only[MW,Y3]at hlk;(have hMi:M=(fP pre).length:=by rw[hM.out];exact iT _);rw[<-hMi]at e2;(have hM2:M<=300:=by have:=QI pre;omega);obtain⟨w2,hmu,mG⟩:=hS5.out.l5 2 rfl dV Tryz.underlying100 (by rw[ap5,<-hMi];unfold maxLen;omega) (v:=.int .i64 (M:Nat)) hkey;rw[e2]at mG;have f0':=mG.bC 5 rfl 0;simp only[gA,gB]at f0';(have hV1:Vt S1.base ns fs g dn φ:=by rw[h1];exact hV);have hrd:=aqG h2 hV1 (hg.valid x hx) (hl x hx) hx hf (mG.perm (axO _ _ _ _ _ _ _ _ _ _));(have hbf:yE fs x.file=ff.bs:=by unfold yE;rw[f4];rfl);rw[hbf]at hrd;have aG8:Hid (Calls Tryz.prog 66 #[pV f,aC x.path] w2 _):=Lh hrd;obtain⟨kf0,aG9,aHA,aHB,aHC⟩:=iN af6;have hkM:Hid (M=(fP pre).length):=Lh hMi;clear e1 e2 SQ hkey hMi hrd mG;replace hI:=Lh hI;unfold aC at*
  gi_wp2_with (first |(refine⟨trivial,?_⟩;gi_at_call 66;refine(CallsIn.inRound l (callsIn_wide.2 aG8.out)).mono ?_;rintro e w4 ⟨v,rfl,h8⟩;(obtain⟨Ab,cb,ev,_⟩:=h8.gT 0 rfl);subst ev;(have p1:=h8.bC 2 rfl 1);(have y1':=h8.bC 8 rfl 1);simp only[gA,gB,gC]at p1 y1';rw[em'.out]at y1';(have zG:=Lh (h8.alloc (.cells #[.int .i64 ff.mode,.slice Ab ff.bs.length cb] 71)));(have hrF:Hid (Rd (w4.alloc (.cells #[.int .i64 ff.mode,.slice Ab ff.bs.length cb] 71)) 2 (.slice (some ⟨w4.heap.size,0,none⟩) 1 1) 1 [.int .i64 ff.mode,.slice Ab ff.bs.length cb]):=Lh ⟨rfl,_,_,rfl,iU _,by unfold maxLen;omega,fun _=>⟨_,rfl,by rw[World.size_alloc];exact IX _,jH w4 #[.int .i64 ff.mode,.slice Ab ff.bs.length cb] 71 _ rfl⟩⟩);clear h8 t0 t1 y0 y1 y4 m0 f0 f0' hmu hlk)|(gi_at_builtin;show wpListIn (Fence.wide.inRound l) 7 Tryz.prog _ _ (_::_) _ (w4.alloc _);refine iZ 6 rfl _ _ 23 rfl 71 kf0 _ 2 32 Tryz.underlying23 aG9 aHA aHB aHC rfl aR zG.out _ M _ rfl rfl (sV w4.heap.size 1 1) 1 _ rfl hrF.out oCl vE aI ?_;intro v5 w5 aqJ hz5;(obtain⟨A5,c5,e5,_⟩:=aqJ.gT 6 rfl);subst e5;(have d0:=aqJ.bC 2 rfl 1);(have d1:=aqJ.bF 2 rfl 1);simp only[gA,gB,MV,IU,gC]at d0;(have FE:=Lh (aqJ.bS 2 rfl 1 (.slice A5 (M+1) c5)));clear aqJ zG hrF y1' p1;(have n0:(w5.setCell ⟨bt,1,none⟩ (.slice A5 (M+1) c5)).cell? ⟨bt,0,none⟩=some (.slice An N cn):=FE.out.bC 2 rfl 0))|(gi_at_builtin;show wpListIn (Fence.wide.inRound l) 7 Tryz.prog _ _ (_::_) _ ((w5.setCell ⟨bt,1,none⟩ (.slice A5 (M+1) c5)).alloc _);go_loud (refine acU (ph:=x.path) (fi:=(M:Nat)) (mo:=0) (gb:=w5.heap.size) 5 rfl _ _ rfl FE.out rfl rfl rfl rfl (World.size_setCell ..).symm aI ?_);go_loud (intro v7 w7 rE;(obtain⟨A7,c7,e7,_⟩:=rE.gT 5 rfl);subst e7;(have d0:w7.cell? ⟨bt,0,none⟩=some (.slice An N cn):=rE.bC 2 rfl 0);(have d1:w7.frozen? ⟨bt,0,none⟩=false:=rE.bF 2 rfl 0);(have hSe:=Lh (rE.bS 2 rfl 0 (.slice A7 (N+1) c7)));clear rE)))
  have h9:=(hSe.out.perm (aqE _ _ _ _ _ _ _ _ _ _ _ _)).drop 1;obtain⟨i1,i2,i3⟩:=aqD (fs:=fs) (V:=pre) (x:=x) aI hm;(have eA:nQ (tfs fs) x.file=⟨(ff.mode:Int),ff.bs⟩:=by unfold nQ tfs;rw[gH,kX,f4];rfl);refine⟨S1.base,.slice A7 (N+1) c7,.slice A5 (M+1) c5,vs++[.slice Ab ff.bs.length cb],by rw[<-h1];rfl,⟨h2.base,fun n hn=>?_⟩,?_,?_⟩
  ·exact Z17
  ·rw[i3,jJ,jJ,h3];rfl
  (have eN:dG (fA (pre++[x]))=dG (fA pre)++[aC x.path,.int .i64 (M:Nat),.int .i64 0]:=by rw[i2,af5,hm0,hkM.out]);(have el:(fA (pre++[x])).length=N+1:=by rw[i2,jJ,hN.out];rfl);(have eF:iB (fG (pre++[x]) fs) (vs++[.slice Ab ff.bs.length cb])=iB (fG pre fs) vs++[.int .i64 ff.mode,.slice Ab ff.bs.length cb]:=by rw[i3,axP h3,eA]);(have ef:(fG (pre++[x]) fs).length=M+1:=by rw[i3,jJ,hM.out];rfl);(have ez:List.zipWith (fun v (f:TF)=>aJ v f.bs) (vs++[.slice Ab ff.bs.length cb]) (fG (pre++[x]) fs)=List.zipWith (fun v (f:TF)=>aJ v f.bs) vs (fG pre fs)++[aJ (.slice Ab ff.bs.length cb) ff.bs]:=by rw[i3,List.zipWith_append h3,eA];rfl);unfold QN nE;rw[eN,el,eF,ef,ez];exact h9
 rintro D xs Y1 Y2 W ⟨hp,rfl⟩ hS;subst hc;subst hR';obtain⟨S1,nv,fv,vs,h1,⟨h2,hsub⟩,h3,h4⟩:=hS;unfold QN CY at h4;have h5:=h4.perm (alO _ _ _ _ _ _ _ _ _ _ _ _ _ _);have hS5:=Lh h5;have t0:=h5.bC 0 rfl 0;have t1:=h5.bC 0 rfl 1;have e0:=h5.bC 1 rfl 0;have r0:=h5.bF 2 rfl 0;have r1:=h5.bF 2 rfl 1;have r2:=h5.bF 3 rfl 0;simp only[gA,gB,gC]at t0 t1 e0;clear h4 h5 hSt hst hAx;have hcl:=Lh (aqI xs hp h3 (hS5.out.perm (acT _ _ _ _ _ _ _ _ _ _ _ _)));clear aqI;go_wp2_with(go_at_call 67;go_loud (refine hcl.out.mono ?_;rintro e w4 ⟨nv2,fv2,vs2,rfl,h6,h7⟩;(obtain⟨A8,c8,e8,_⟩:=h7.gT 0 rfl);subst e8;(obtain⟨A9,c9,e9,_⟩:=h7.gT 1 rfl);subst e9;(have rE:=Lh (h7.perm (acT _ _ _ _ _ _ _ _ _ _ _ _).symm));clear h7;(have r0:w4.frozen? ⟨LW,0,none⟩=false:=rE.out.bF 2 rfl 0);(have r1:w4.frozen? ⟨LW,1,none⟩=false:=rE.out.bF 2 rfl 1);(have q0:w4.cell? ⟨LW,0,none⟩=some (.slice none 0 0):=rE.out.bC 2 rfl 0);(have q1:w4.cell? ⟨LW,1,none⟩=some (.slice none 0 0):=rE.out.bC 2 rfl 1);(have FE:=Lh ((rE.out.bS 2 rfl 0 (.slice A8 N'.length c8)).bS 2 rfl 1 (.slice A9 F'.length c9)));(have q2:((w4.setCell ⟨LW,0,none⟩ (.slice A8 N'.length c8)).setCell ⟨LW,1,none⟩ (.slice A9 F'.length c9)).cell? ⟨alN,0,none⟩=some (iV 0):=FE.out.bC 3 rfl 0);(have r2:((w4.setCell ⟨LW,0,none⟩ (.slice A8 N'.length c8)).setCell ⟨LW,1,none⟩ (.slice A9 F'.length c9)).frozen? ⟨alN,0,none⟩=false:=FE.out.bF 3 rfl 0);(have zG:=Lh (FE.out.bS 3 rfl 0 (.int .i64 0)))));refine⟨by simp,.inl ⟨_,_,rfl,run_takeDeferred (zG.out.ab2 4 rfl),?_⟩⟩;have FE:=(zG.out.putObj 4 (.deferred none) rfl).perm (aqF _ _ _ _ _ _ _ _ _ _ _ _ _);refine⟨.tuple #[.agg #[.slice A8 N'.length c8,.slice A9 F'.length c9],iV 0],?_,_,_,vs2,S1,rfl,h6,h1,h2,FE.snd⟩;have g0:=(zG.out.putObj 4 (.deferred none) rfl).bC 2 rfl 0;have g1:=(zG.out.putObj 4 (.deferred none) rfl).bC 2 rfl 1;have g2:=(zG.out.putObj 4 (.deferred none) rfl).bC 3 rfl 0;simp at g0 g1 g2;simp[results,Tryz.f19,go_sem,g0,g1,g2]
end
end Go.Proofs.YtmjomdkleikgbaaGreat
namespace Go.Proofs.YtmjomdkleikgbaaGreat
open Go.RowKit
theorem Sep.VP {w0 w:World} {As:List aV} (h:Sep w0 w As) (e:TypeId) (sz:Nat):Sep w0 (w.alloc (.cells #[] e)) (.sl e sz (sV w.heap.size 0 0) 0 []::As):=by have hown:=World.ownsRow_lit (base:=0) (e:=e) (size:=sz) w #[] 0 (fZ _) (fZ _) bK;exact Z30
theorem LX {w:World} {v:Value} {ns:List TN} (h:Rd w 3 v ns.length (dG ns)) (hl:ns.length<=300):
  Calls Tryz.prog 133 #[v] w fun e w'=>∃v',e= .returned v'/\Sep w w' [.sl 68 3 v' ns.length (dG ns)]:=by
 obtain⟨i0,JA,hz0,hz1,hz2⟩:=info_parts afT;obtain⟨A,c,rfl,_⟩:=h.shape;have h':=Lh h;have re:=fun(W:World) (a:Option Addr) (n c:Nat)=>Lib.run_eql_slice_nil (P:=Tryz.prog) W 22 68 a n c 0 0 Tryz.underlying22
 cases A with
 |none=>
  have h0:ns=[]:=by
   rcases xN ns.length with h0|h0
   ·exact uR h0
   obtain⟨_,A,c',e,_,_,h3⟩:=h;cases e;obtain⟨ad,e,_⟩:=h3 h0;cases e
  clear h;subst h0;go_enter Tryz.func133,Tryz.ntmps133;go_wp2_with fail;go_ret;exact⟨_,rfl,(Sep.nil w).iO _ _⟩
 |some ad=>clear h;have hS:=Lh ((Sep.nil w).VP 68 3);go_enter Tryz.func133,Tryz.ntmps133;go_wp2_with(at_builtin;refine dH 0 rfl _ _ 22 rfl 68 i0 _ 3 32 Tryz.underlying22 JA hz0 hz1 hz2 rfl aR hS.out _ 0 [] rfl rfl (.slice (some ad) ns.length c) ns.length (dG ns) rfl (h'.out.below hS.out.below) (fun u hu=>LV ns u hu) vE aI ?_);intro v' w' hS2 hsz;(have eZ:Sep w w' [.sl 68 3 v' ns.length (dG ns)]:=by simpa using hS2);have uH:=Lh eZ;clear hS2 eZ hS hsz;go_wp2_with fail;go_ret;exact⟨v',rfl,uH.out⟩
theorem LY {w:World} {v:Value} {bs:List UInt8} (h:Rd w 1 v bs.length (bs.map kK)) (hl:bs.length<=1048576):
  Calls Tryz.prog 137 #[v] w fun e w'=>∃v',e= .returned v'/\Sep w w' [aJ v' bs]:=by
 obtain⟨i0,JA,hz0,hz1,hz2⟩:=info_parts afS;obtain⟨A,c,rfl,_⟩:=h.shape;have h':=Lh h;have re:=fun(W:World) (a:Option Addr) (n c:Nat)=>Lib.run_eql_slice_nil (P:=Tryz.prog) W 69 5 a n c 0 0 Tryz.underlying69
 cases A with
 |none=>
  have h0:bs=[]:=by
   rcases xN bs.length with h0|h0
   ·exact uR h0
   obtain⟨_,A,c',e,_,_,h3⟩:=h;cases e;obtain⟨ad,e,_⟩:=h3 h0;cases e
  clear h;subst h0;go_enter Tryz.func137,Tryz.ntmps137;go_wp2_with fail;go_ret;exact⟨_,rfl,(Sep.nil w).iO _ _⟩
 |some ad=>clear h;have hS:=Lh ((Sep.nil w).VP 5 1);go_enter Tryz.func137,Tryz.ntmps137;go_wp2_with(at_builtin;refine dH 0 rfl _ _ 69 rfl 5 i0 _ 1 1 Tryz.underlying69 JA hz0 hz1 hz2 rfl aR hS.out _ 0 [] rfl rfl (.slice (some ad) bs.length c) bs.length (bs.map kK) rfl (h'.out.below hS.out.below) qM vE aI ?_);intro v' w' hS2 hsz;(have eZ:Sep w w' [aJ v' bs]:=by simpa[aJ]using hS2);have uH:=Lh eZ;clear hS2 eZ hS hsz;go_wp2_with fail;go_ret;exact⟨v',rfl,uH.out⟩
end Go.Proofs.YtmjomdkleikgbaaGreat
