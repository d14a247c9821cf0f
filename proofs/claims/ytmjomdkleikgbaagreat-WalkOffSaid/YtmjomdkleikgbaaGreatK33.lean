/- Parts. -/
import Derived.Test.YtmjomdkleikgbaaGreatK32
import Derived.Shelf.Spec.SlicesInsertGrow
set_option linter.unusedVariables false
set_option linter.unusedSimpArgs false
set_option linter.unusedSectionVars false
set_option maxRecDepth 100000
set_option maxHeartbeats 20000000
namespace Go.Proofs.YtmjomdkleikgbaaGreat
open Go.RowKit
theorem uL {Ns:List TN} {n:TN}:n∈jA Ns↔n∈Ns:=(l5 Ns).mem_iff
def CQ (a b:TN):Prop:=Op.bytesLess a.path b.path=true
theorem ak7 {p:List UInt8}:∀ {xs:List TN} {j:Nat} {m:TN},j<JN xs p->xs[j]? =some m->Op.bytesLess m.path p=true
 |[],j,m,h,_=>by simp[JN]at h
 |x::xs,j,m,h,hj=>by
  unfold JN at h;rw[List.takeWhile_cons]at h;split at h
  ·rename_i hx;cases j with
   |zero=>cases hj;exact hx
   |succ j=>exact ak7 (xs:=xs) (j:=j) (by unfold JN;simpa using h) (by simpa using hj)
  simp at h
theorem axE {p:List UInt8} {xs:List TN} {m:TN} (h:xs[JN xs p]? =some m):Op.bytesLess m.path p=false:=by
 unfold JN at h
 induction xs with
 |nil=>simp at h
 |cons x xs ih=>
  rw[List.takeWhile_cons]at h;cases hx:Op.bytesLess x.path p with
  |true=>rw[hx]at h;simp only[if_true,kH,gC]at h;exact ih h
  |false=>rw[hx]at h;simp at h;subst h;exact hx
theorem aeQ {xs:List TN} {n:TN} (hs:xs.Pairwise CQ) (hn:∀m∈xs,m.path≠n.path):(an1 xs n).Pairwise CQ:=by
 unfold an1;have h1:=hs;rw[<-EJ (JN xs n.path) xs,OY]at h1;obtain⟨ha,hb,hc⟩:=h1;have hlo:∀a∈xs.take (JN xs n.path),CQ a n:=fun a h=>by
  obtain⟨j,hj⟩:=List.mem_iff_getElem?.1 h;rw[vV]at hj;split at hj
  ·rename_i hjl;exact ak7 hjl hj
  cases hj
 have hhi:∀b∈xs.drop (JN xs n.path),CQ n b:=fun b h=>by
  cases hd:xs.drop (JN xs n.path)with
  |nil=>rw[hd]at h;cases h
  |cons c l=>
   (have hc0:xs[JN xs n.path]? =some c:=by(have h9:(xs.drop (JN xs n.path))[0]? =some c:=by rw[hd];rfl);rw[AV]at h9;exact h9);have hcn:CQ n c:=R8 (axE hc0) (hn c (gG hc0));rw[hd]at h hb;rcases kE.1 h with rfl|h
   ·exact hcn
   exact qI hcn ((List.pairwise_cons.1 hb).1 b h)
 rw[OY];refine⟨ha,?_,fun a h1 b h2=>?_⟩
 ·rw[List.pairwise_cons];exact⟨hhi,hb⟩
 rcases kE.1 h2 with rfl|h2
 ·exact hlo a h1
 exact hc a h1 b h2
theorem tZ {ns:List TN} (h:ns.Pairwise fun a b=>a.path≠b.path):(jA ns).Pairwise CQ:=by revert h;refine oD (P:=fun ns=>ns.Pairwise (fun a b=>a.path≠b.path)->(jA ns).Pairwise CQ) (fun _=>List.Pairwise.nil) (fun xs x ih h=>?_) ns;rw[OY]at h;rw[SQ];exact aeQ (ih h.1) fun m hm=>h.2.2 m ((l5 xs).mem_iff.1 hm) x bK
structure AA (Ns:List TN):Prop where
 ne:Ns.Pairwise fun a b=>a.path≠b.path
 valid:∀n∈Ns,aV n.path=true
 up:∀n∈Ns,aZ n.path=[]\/∃m∈Ns,m.path=aZ n.path/\m.file= -1
 file:∀n∈Ns,(n.file= -1/\iB n.mode=true)\/(0<=n.file/\n.mode=0)
theorem GG (ids:List Int) (n:TN):(lM ids n).path=n.path:=by unfold lM;split<;>rfl
def ren (r:Int->Int) (n:TN):TN:=if n.file<0 then n else⟨n.path,r n.file,n.mode⟩
theorem vL (r:Int->Int) (n:TN):(ren r n).path=n.path:=by unfold ren;split<;>rfl
theorem aa1 {r:Int->Int} {n:TN} (h:n.file<0):ren r n=n:=by unfold ren;rw[if_pos h]
structure Alike (r:Int->Int) (Ms:List TN) (F:List TF) (Ns:List TN) (G:List TF):Prop where
 perm:Ms.Perm (Ns.map (ren r))
 file:∀n∈Ns,¬n.file<0->0<=r n.file/\r n.file<F.length/\mM F (r n.file)=mM G n.file
 inj:∀n∈Ns,∀m∈Ns,¬n.file<0->¬m.file<0->r n.file=r m.file->n.file=m.file
theorem LD {xs ys:List TN} (hx:xs.Pairwise CQ) (hy:ys.Pairwise CQ) (hp:xs.Perm ys):xs=ys:=by refine List.Perm.eq_of_pairwise (le:=CQ) (fun a b _ _ h1 h2=>?_) hx hy hp;have:=qI h1 h2;rw[mH]at this;cases this
theorem XT {α β:Type} [BEq α] [LawfulBEq α] [BEq β] [LawfulBEq β] {r:α->β}:∀ {l:List α} {a:α},(∀b∈l,r b=r a->b=a)->(l.map r).idxOf (r a)=l.idxOf a
 |[],_,_=>rfl
 |b::l,a,h=>by
  rw[jV,List.idxOf_cons,List.idxOf_cons];by_cases e:b=a
  ·subst e;simp
  (have e2:¬r b=r a:=fun e2=>e (h b nH e2));rw[beq_false_of_ne e,beq_false_of_ne e2,XT fun c hc=>h c (vR _ hc)]
theorem aeR {α β:Type} {r:α->β} {l:List α} {a:α} (h:∀b∈l,r b=r a->b=a):r a∈l.map r↔a∈l:=by rw[List.mem_map];exact⟨fun⟨b,hb,e⟩=>h b hb e▸hb,fun ha=>⟨a,ha,rfl⟩⟩
section
variable {r:Int->Int} {Ms Ns:List TN} {F G:List TF}
theorem axF {Xs:List TN} (hs:∀n∈Xs,n∈Ns) (h:Alike r Ms F Ns G):fD (Xs.map (ren r))=(fD Xs).map r:=by
 revert hs;refine oD (P:=fun Xs=>(∀n∈Xs,n∈Ns)->fD (Xs.map (ren r))=(fD Xs).map r) (fun _=>rfl) (fun xs x ih hs=>?_) Xs;have ih:=ih fun n hn=>hs n (vU _ hn)
 have hx:=hs x bK;rw[mZ,M5,kG,kG,ih];by_cases hf:x.file<0
 ·rw[aa1 hf,if_pos hf,if_pos hf]
 have h0:=(h.file x hx hf).1;have e1:(ren r x).file=r x.file:=by unfold ren;rw[if_neg hf]
 rw[e1,if_neg hf,if_neg aD];have hm:r x.file∈(fD xs).map r↔x.file∈fD xs:=aeR fun b hb e=>by obtain⟨n,hn,h1,h2⟩:=zD _ b hb;rw[<-h1]at e ⊢;exact h.inj n (hs n (vU _ hn)) x hx h2 hf e
 by_cases h2:x.file∈fD xs
 ·rw[if_pos h2,if_pos (hm.2 h2)]
 rw[if_neg h2,if_neg (fun e=>h2 (hm.1 e)),mZ];rfl
theorem an8 (h:Alike r Ms F Ns G) (hne:Ns.Pairwise fun a b=>a.path≠b.path):jA Ms=(jA Ns).map (ren r):=by
 have aK6:(Ns.map (ren r)).Pairwise fun a b=>a.path≠b.path:=by rw[GY];exact hne.imp fun {a b} e=>by rw[vL,vL];exact e
 have aK7:Ms.Pairwise fun a b=>a.path≠b.path:=h.perm.symm.pairwise aK6 fun {a b} h e=>h e.symm
 refine LD (tZ aK7) ?_ ((l5 Ms).trans (h.perm.trans ((l5 Ns).symm.map _)));rw[GY];refine(tZ hne).imp fun {a b} e=>?_
 unfold CQ;rw[vL,vL];exact e
theorem an9 (h:Alike r Ms F Ns G) (hne:Ns.Pairwise fun a b=>a.path≠b.path):LB Ms=LB Ns/\LC Ms F=LC Ns G:=by
 have hmem:∀n∈jA Ns,n∈Ns:=fun n hn=>uL.1 hn
 unfold LB LC;rw[an8 h hne,axF hmem h,qO,qO];constructor
 ·apply uO;intro n hn;(show lM ((fD (jA Ns)).map r) (ren r n)=_);by_cases hf:n.file<0
  ·rw[aa1 hf];unfold lM;rw[if_pos hf,if_pos hf]
  have h0:=(h.file n (hmem n hn) hf).1;unfold lM;(have e1:(ren r n).file=r n.file:=by unfold ren;rw[if_neg hf]);(have e2:(ren r n).mode=n.mode:=by unfold ren;rw[if_neg hf]);rw[e1,if_neg aD,if_neg hf,vL,e2,XT fun b hb e=>?_];obtain⟨m,hm,h1,h2⟩:=zD _ b hb;rw[<-h1]at e ⊢;exact h.inj m (hmem m hm) n (hmem n hn) h2 hf e
 apply uO;intro id hid;obtain⟨n,hn,h1,h2⟩:=zD _ id hid;rw[<-h1];exact(h.file n (hmem n hn) h2).2.2
theorem aoA (Xs:List TN):(fD Xs).Nodup:=by
 refine oD (P:=fun Xs=>(fD Xs).Nodup) O0 (fun xs x ih=>?_) Xs;rw[kG];split
 ·exact ih
 split
 ·exact ih
 rename_i h;rw[tK];refine⟨ih,by simp,fun a ha b hb e=>h ?_⟩;have hb2:b=x.file:=by simpa using hb
 rw[<-hb2,<-e];exact ha
theorem Z41 {P:Prop} (h:P:=by have h1:=ab0 (List.idxOf_lt_length_iff.2 hm1);have h2:=ab0 (List.idxOf_lt_length_iff.2 hm2);rw[<-h1,<-h2];simp only[e2]):P:=h
theorem Z71 {P:Prop} (h:P:=by
 conv=>lhs;unfold mM
 rw[gH,nA,lC,gE hl,ab0 hl];rfl):P:=h
theorem XU (Ns:List TN) (G:List TF):Alike (fun i=>((fD (jA Ns)).idxOf i:Nat)) (LB Ns) (LC Ns G) Ns G:=by
 refine⟨?_,fun n hn hf=>?_,fun n hn m hm hf hg e=>?_⟩
 ·unfold LB;exact(l5 Ns).map _
 ·have hm:=nE _ n (uL.2 hn) hf;have hl:=List.idxOf_lt_length_iff.2 hm;refine⟨by omega,?_,?_⟩
  ·unfold LC;rw[iJ];exact Int.ofNat_lt.2 hl
  unfold LC;(show mM _ ((List.idxOf n.file (fD (jA Ns)):Nat):Int)=_);exact Z71
 have hm1:=nE _ n (uL.2 hn) hf;have hm2:=nE _ m (uL.2 hm) hg;have e2:(fD (jA Ns)).idxOf n.file=(fD (jA Ns)).idxOf m.file:=Int.ofNat.inj e;exact Z41
theorem asW {n:TN} (h:¬n.file<0):ren r n=⟨n.path,r n.file,n.mode⟩:=by unfold ren;rw[if_neg h]
theorem Alike.cnt (h:Alike r Ms F Ns G) (p:List UInt8):pK Ms p=pK Ns p:=by unfold pK;rw[h.perm.countP_eq,List.countP_map];apply List.countP_congr;intro n _;simp only[Function.comp_apply,vL]
end
abbrev TR :=List TN×List TF
def toF (f:FT):TF:=⟨f.mode,f.bs⟩
def SY (fs:List FT):List TF:=fs.map toF
structure aFU (ns:List TN) (G:List TF):Prop where
 good:AA ns
 few:ns.length<=256
 file:∀n∈ns,¬n.file<0->n.file<G.length/\(mM G n.file).size<=8192/\iB (mM G n.file).mode=true
theorem asX (fs:List FT) (k:Int):(mM (SY fs) k).size=(rO fs k).length:=by unfold mM SY rO;rw[gH,lC];cases fs[k.toNat]? <;>rfl
structure XV (T:TR) (ns:List TN) (fs:List FT):Prop where
 good:aFU ns (SY fs)
 eq:T=(LB ns,LC ns (SY fs))
theorem ak8 (k:Nat):zC k=eO 1 k:=by unfold zC eO;rw[if_pos rfl];split<;>omega
theorem asY (k:Nat):vK k=eO 2 k:=by unfold vK eO;rw[if_neg (show ¬(2:Nat)=1 by decide),if_pos (show(2:Nat)=2 from rfl)];split<;>split<;>omega
theorem aeS {l m:List Int} (h:l.Perm m):l.sum=m.sum:=by
 induction h with
 |nil=>rfl
 |cons x _ ih=>rw[qN,qN,ih]
 |swap x y l=>simp only[qN];omega
 |trans _ _ h1 h2=>rw[h1,h2]
theorem S9 (f:TN->Int):∀ns:List TN,(ns.map fun n=>if n.file= -1 then f n else 0).sum=((jL ns).map f).sum
 |[]=>rfl
 |n::t=>by
  unfold jL;rw[jV,qN,S9 f t,yM];by_cases h:n.file= -1
  ·rw[if_pos h,if_pos (by simpa using h),jV,qN];rfl
  rw[if_neg h,if_neg (by simpa using h),Int.zero_add];rfl
section
variable {ns:List TN} {fs:List FT}
theorem XW (hg:AA ns):(fD (jA ns)).Perm (fH ns):=by
 refine(ajS (aoA _) (lX _)).2 fun k=>?_
 rw[jG];constructor
 ·intro h;obtain⟨n,hn,h1,h2⟩:=zD _ k h;exact⟨by omega,n,uL.1 hn,h1⟩
 rintro⟨h1,n,hn,rfl⟩;refine nE _ n (uL.2 hn) ?_;rcases hg.file n hn with⟨h2,_⟩|⟨h2,_⟩<;>omega
theorem aeT (hg:AA ns) (f:List UInt8->Int):((LB ns).map fun n=>if n.file= -1 then f n.path else 0).sum=((jL ns).map fun n=>f n.path).sum:=by
 have ha:=XU ns [];rw[aeS (ha.perm.map fun(n:TN)=>if n.file= -1 then f n.path else 0),qO,<-S9 fun n=>f n.path];congr 1;apply uO;intro n hn;show(if(ren _ n).file= -1 then f (ren _ n).path else 0)=_
 rw[vL];rcases hg.file n hn with⟨h1,_⟩|⟨h1,_⟩
 ·rw[aa1 aD]
 have h2:=(ha.file n hn aD).1;rw[asW aD,if_neg (show ¬((List.idxOf n.file (fD (jA ns)):Nat):Int)= -1 by omega),if_neg (show ¬n.file= -1 by omega)]
theorem asZ (fs:List FT) (k:Int):vK (mM (SY fs) k).size=eO 2 (I8 fs k):=by
 have e:(rO fs k).length=I8 fs k:=by unfold I8 rO;cases fs[k.toNat]? <;>rfl
 rw[asY,asX,e]
theorem axG (hg:AA ns):wdB (LB ns) (LC ns (SY fs))=nC ns fs:=by
 unfold wdB nC dnB dfB;have hc:=fun p=>(XU ns (SY fs)).cnt p
 rw[hc,ak8,<-asS ns hg.valid];have e1:((LB ns).map fun n=>if n.file= -1 then zC (pK (LB ns) n.path)else 0).sum=((jL ns).map fun n=>eO 1 (dM ns (bE n))).sum:=by rw[aeT hg fun p=>zC (pK (LB ns) p)];congr 1;apply uO;intro n hn;(show zC (pK (LB ns) n.path)=eO 1 (dM ns (splitB n.path)));rw[hc,ak8,asR ns hg.valid (nG (hg.valid n (iO.1 hn).1))]
 have e2:((LC ns (SY fs)).map fun f=>vK f.size).sum=((fH ns).map fun k=>eO 2 (I8 fs k)).sum:=by unfold LC;(have h3:(fun f:TF=>vK f.size)∘mM (SY fs)=fun k=>eO 2 (I8 fs k):=funext fun k=>by rw[Function.comp_apply,asZ]);rw[qO,h3];exact aeS ((XW hg).map _)
 rw[e1,e2]
theorem axH (hg:AA ns):wdI (LB ns) (LC ns (SY fs))=kQ ns:=by
 unfold wdI kQ dnI;have e1:((LB ns).map fun n=>if n.file= -1 then(1:Int)else 0).sum=(jL ns).length:=by rw[aeT hg fun _=>1,I9 fun _ _=>rfl]
 have e2:((LC ns (SY fs)).length:Int)=(fH ns).length:=by unfold LC;rw[iJ,(XW hg).length_eq]
 rw[e1,e2]
end
theorem XX {α β:Type} {f:α->β}:∀ {xs:List α} {l:List β},l.Perm (xs.map f)->∃ys:List α,ys.Perm xs/\ys.map f=l
 |[],l,h=>⟨[],.refl _,(List.perm_nil.1 h).symm⟩
 |x::xs,l,h=>by have hm:f x∈l:=h.mem_iff.2 bK;obtain⟨a,b,rfl⟩:=aj1 hm;have h2:(a++b).Perm (xs.map f):=List.Perm.cons_inv (lD.symm.trans h);obtain⟨ys,h3,h4⟩:=XX h2;obtain⟨ya,yb,rfl,e1,e2⟩:=List.map_eq_append_iff.1 h4;exact⟨ya++x::yb,lD.trans (h3.cons x),by rw[mZ,jV,e1,e2]⟩
theorem EE {α:Type} [DecidableEq α]:∀ {l m:List α},l.Nodup->(∀x∈l,x∈m)->l.length<=m.length
 |[],m,_,_=>fZ _
 |a::l,m,hn,hs=>by
  rw[xJ]at hn;obtain⟨s,t,rfl⟩:=aj1 (hs a nH);have:=EE (l:=l) (m:=s++t) hn.2 fun x hx=>by
   have h1:=hs x (vR _ hx);rw[iM,kE]at h1;rw[iM];rcases h1 with h1|h1|h1
   ·exact .inl h1
   ·subst h1;exact absurd hx hn.1
   exact .inr h1
  simp only[jM,kH]at this ⊢;omega
def vM (V:List TN):List Key:=(V.filter fun n=>decide (n.file= -1)).map bE
theorem aoB (V W:List TN):vM (V++W)=vM V++vM W:=by unfold vM;rw[FN,mZ]
structure nR (ns V:List TN) (T P:List Key):Prop where
 todo:(T++P).Perm ([]::vM V)
 kids:V.Perm (P.flatMap (eP ns))
 nodup:P.Nodup
theorem nR.start (ns:List TN):nR ns [] [[]] []:=⟨.refl _,.refl _,O0⟩
theorem aiL (n:TN):bE n≠[]:=gJ _
theorem yE {ns:List TN} {K:Key} {n:TN}:n∈eP ns K↔n∈ns/\(bE n).dropLast=K:=by unfold eP;rw[List.mem_filter];simp
section
variable {ns V:List TN} {T P:List Key}
theorem nR.sub (h:nR ns V T P) {n:TN} (hn:n∈V):n∈ns:=by have:=h.kids.mem_iff.1 hn;obtain⟨K,_,h2⟩:=List.mem_flatMap.1 this;exact(yE.1 h2).1
theorem nR.uniq (h:nR ns V T P) (hu:(ns.map bE).Nodup):(V.map bE).Nodup:=by
 refine(h.kids.map bE).nodup_iff.2 ?_;have hnd:=h.nodup;clear h
 induction P with
 |nil=>exact O0
 |cons K P ih=>
  rw[xJ]at hnd;rw[xI,mZ,tK];refine⟨?_,ih hnd.2,fun a ha b hb e=>?_⟩
  ·unfold eP;exact List.Sublist.nodup (ab2 _ G8) hu
  obtain⟨n,hn,rfl⟩:=List.mem_map.1 ha;obtain⟨m,hm,rfl⟩:=List.mem_map.1 hb;obtain⟨L,hL,hm2⟩:=List.mem_flatMap.1 hm;have h1:=(yE.1 hn).2;have h2:=(yE.1 hm2).2;rw[e,h2]at h1;subst h1;exact hnd.1 hL
theorem aeU (h:(V.map bE).Nodup):([]::vM V).Nodup:=by
 rw[xJ];refine⟨fun hm=>?_,?_⟩
 ·obtain⟨n,_,e⟩:=List.mem_map.1 hm;exact aiL n e
 unfold vM;exact List.Sublist.nodup (ab2 _ G8) h
theorem nR.all (h:nR ns V T P) (hu:(ns.map bE).Nodup):(T++P).Nodup:=h.todo.nodup_iff.2 (aeU (h.uniq hu))
theorem nR.next {K:Key} (h:nR ns V (T++[K]) P) (hu:(ns.map bE).Nodup) {ks:List TN} (hk:ks.Perm (eP ns K)):nR ns (V++ks) (T++vM ks) (P++[K]):=by
 have ha:=h.all hu;refine⟨?_,?_,?_⟩
 ·rw[aoB,<-kI];(have h1:(T++vM ks++(P++[K])).Perm ((T++[K]++P)++vM ks):=by rw[pG,pG,pG];refine abM T ?_;refine O3.trans ?_;rw[<-pG];exact(O3 (l₁:=P) (l₂:=[K])).append_right _);exact h1.trans (h.todo.append_right _)
 ·rw[Y3,List.flatMap_singleton];exact h.kids.append hk
 rw[tK];refine⟨h.nodup,by simp,fun a ha' b hb e=>?_⟩;rw[tJ]at hb;subst hb;subst e;rw[pG]at ha;have h3:=(tK.1 ha).2.1;rw[List.singleton_append,xJ]at h3;exact h3.1 ha'
theorem nR.isDir (h:nR ns V T P) {K:Key} (hK:K∈T++P):dJ ns K:=by
 have:=h.todo.mem_iff.1 hK;rcases kE.1 this with e|e
 ·exact .inl e
 obtain⟨n,hn,e2⟩:=List.mem_map.1 e;rw[List.mem_filter]at hn;exact .inr ⟨n,h.sub hn.1,e2,by simpa using hn.2⟩
theorem nR.few (h:nR ns V T P) (hu:(ns.map bE).Nodup):T.length+P.length<=ns.length+1:=by
 have h1:=h.todo.length_eq;have h2:(V.map bE).length<=(ns.map bE).length:=EE (h.uniq hu) fun x hx=>by obtain⟨n,hn,e⟩:=List.mem_map.1 hx;exact List.mem_map.2 ⟨n,h.sub hn,e⟩
 have h3:(vM V).length<=V.length:=by unfold vM;rw[iJ];exact OJ _ _
 rw[jM,kH]at h1;rw[iJ,iJ]at h2;omega
theorem nR.len (h:nR ns V T P) (hu:(ns.map bE).Nodup):V.length<=ns.length:=by
 have h2:(V.map bE).length<=(ns.map bE).length:=EE (h.uniq hu) fun x hx=>by obtain⟨n,hn,e⟩:=List.mem_map.1 hx;exact List.mem_map.2 ⟨n,h.sub hn,e⟩
 rw[iJ,iJ]at h2;exact h2
theorem nR.done (h:nR ns V [] P) (hu:(ns.map bE).Nodup) (hup:∀n∈ns,dJ ns (bE n).dropLast):V.Perm ns:=by
 have key:∀(k:Nat) (n:TN),n∈ns->(bE n).length<=k->n∈V:=fun k=>by
  induction k with
  |zero=>intro n hn hk;have:=List.length_pos_iff.2 (aiL n);omega
  |succ k ih=>
   intro n hn hk;have hP:(bE n).dropLast∈P:=by
    have hd:(bE n).dropLast∈[]::vM V:=by
     rcases hup n hn with e|⟨m,hm,e,hf⟩
     ·rw[e];exact nH
     have h1:=ih m hm (by rw[e,abN];omega);refine vR _ (List.mem_map.2 ⟨m,List.mem_filter.2 ⟨h1,by simp[hf]⟩,e⟩)
    have:=h.todo.mem_iff.2 hd;simpa using this
   exact h.kids.mem_iff.2 (List.mem_flatMap.2 ⟨_,hP,yE.2 ⟨hn,rfl⟩⟩)
 have nod:∀ {l:List TN},(l.map bE).Nodup->l.Nodup:=fun {l} hl=>by rw[List.Nodup,GY]at hl;exact hl.imp fun {a b} e1 e2=>e1 (by rw[e2])
 exact(ajS (nod (h.uniq hu)) (nod hu)).2 fun n=>⟨fun hn=>h.sub hn,fun hn=>key _ n hn (iC _)⟩
end
def aa2 (d x:List UInt8):List UInt8:=if d=[]then x else d++47::x
theorem as0 {n:TN} {d:List UInt8} (h:(bE n).dropLast=U4 d):aa2 d ((bE n).getLastD [])=n.path:=by
 unfold bE at*;rcases kS n.path with⟨_,_,h1⟩|⟨a,b,e,_,_,h1⟩
 ·rw[h1]at h ⊢;have hd:d=[]:=by
   by_cases e:d=[]
   ·exact e
   unfold U4 at h;rw[if_neg e]at h;exact absurd h.symm (gJ d)
  rw[hd];rfl
 rw[h1,UI]at h;have hd:¬d=[]:=fun e=>by rw[e]at h;exact gJ a h
 unfold U4 at h;rw[if_neg hd]at h;have:=rQ _ (iC _) h;unfold aa2;rw[if_neg hd,h1,e,this];simp
def fJ (V:List TN):List TN:=V.map (lM (fD V))
def fU (V:List TN) (fs:List FT):List TF:=(fD V).map (mM (SY fs))
theorem aiM {V ns:List TN} (hp:V.Perm ns) (fs:List FT):Alike (fun i=>((fD V).idxOf i:Nat)) (fJ V) (fU V fs) ns (SY fs):=by
 refine⟨hp.map _,fun n hn hf=>?_,fun n hn m hm hf hg e=>?_⟩
 ·have hm:=nE _ n (hp.mem_iff.2 hn) hf;have hl:=List.idxOf_lt_length_iff.2 hm;refine⟨by omega,?_,?_⟩
  ·unfold fU;rw[iJ];exact Int.ofNat_lt.2 hl
  unfold fU;(show mM _ ((List.idxOf n.file (fD V):Nat):Int)=_);exact Z71
 have hm1:=nE _ n (hp.mem_iff.2 hn) hf;have hm2:=nE _ m (hp.mem_iff.2 hm) hg;have e2:(fD V).idxOf n.file=(fD V).idxOf m.file:=Int.ofNat.inj e;exact Z41
theorem as1 {T:TR} {ns V:List TN} {fs:List FT} (h:XV T ns fs) (hp:V.Perm ns):(LB (fJ V),LC (fJ V) (fU V fs))=T:=by obtain⟨h1,h2⟩:=an9 (aiM hp fs) h.good.good.ne;rw[h1,h2,h.eq]
section
variable {ns:List TN} {F:List TF}
theorem good_start (ho:fF ns F):AA ns:=by
 refine⟨ho.ne,fun n hn=>(ho.mem hn).1,fun n hn=>?_,fun n hn=>?_⟩
 ·obtain⟨i,hi⟩:=List.mem_iff_getElem?.1 hn;obtain⟨_,_,h1,_⟩:=ho.at_ hi;by_cases h0:aZ n.path=[]
  ·exact .inl h0
  have gen:∀(pre:List TN) (p:List UInt8),p≠[]->qH pre p=1->∃m∈pre,m.path=p/\m.file= -1:=fun pre p hp=>by
   refine oD (P:=fun pre=>qH pre p=1->∃m∈pre,m.path=p/\m.file= -1) ?_ ?_ pre
   ·intro h;unfold qH at h;simp[hp]at h
   intro xs x ih h;rw[vJ]at h;by_cases e:x.path=p
   ·rw[if_pos e]at h;split at h
    ·rename_i hf;exact⟨x,by simp,e,hf⟩
    cases h
   rw[if_neg e]at h;obtain⟨m,hm,h2⟩:=ih h;exact⟨m,vU _ hm,h2⟩
  obtain⟨m,hm,h2⟩:=gen _ _ h0 h1;exact .inr ⟨m,AJ hm,h2⟩
 obtain⟨_,h2,_,h3,h4⟩:=ho.mem hn;by_cases e:n.file= -1
 ·exact .inl ⟨e,h3 e⟩
 exact .inr ⟨by omega,h4 e⟩
theorem XY (ho:fF ns F):∀i,i<=ns.length->∀m,runK ns i=some m->fD (ns.take i)=(List.range m).map fun(v:Nat)=>(v:Int):=by
 intro i
 induction i with
 |zero=>intro _ m h;cases h;rfl
 |succ i ih=>
  intro hi m h;have hn:ns[i]? =some ns[i]:=gE aD;obtain⟨k,h1,h2,_⟩:=SF h i aD _ hn;rw[rP h1 hn,h2,if_pos rfl]at h;cases h;have ih2:=ih aD k h1;rw[pI,hn];(show fD (ns.take i++[ns[i]])=_);rw[kG,ih2];obtain⟨_,_,_,d1,d2,_⟩:=qJ h2;unfold gU;by_cases hneg:ns[i].file<0
  ·rw[if_pos hneg,if_neg aD]
  rw[if_neg hneg];by_cases hk:ns[i].file=(k:Int)
  ·rw[if_pos hk,if_neg,OX,mZ,hk]
   ·rfl
   rw[hk];intro hm;obtain⟨v,hv,e⟩:=List.mem_map.1 hm;rw[List.mem_range]at hv;omega
  rw[if_neg hk,if_pos];exact List.mem_map.2 ⟨ns[i].file.toNat,List.mem_range.2 aD,by omega⟩
theorem ak9 (ho:fF ns F):LB ns=ns/\LC ns F=F:=by
 have hsrt:jA ns=ns:=LD (tZ ho.ne) ho.up (l5 ns);have hid:=XY ho ns.length (iC _) F.length ho.run;rw[M7]at hid;constructor
 ·unfold LB;rw[hsrt,hid]
  conv=>rhs;rw[<-List.map_id ns]
  apply uO;intro n hn;unfold lM;by_cases hneg:n.file<0
  ·rw[if_pos hneg];rfl
  rw[if_neg hneg];obtain⟨_,h2,h3,_⟩:=ho.mem hn;obtain⟨k,hk⟩:∃k:Nat,n.file=k:=⟨n.file.toNat,by omega⟩;(have hkl:k<F.length:=by omega);(have:((List.range F.length).map fun(v:Nat)=>(v:Int)).idxOf n.file=k:=by rw[hk];have hnd:((List.range F.length).map fun(v:Nat)=>(v:Int)).Nodup:=GY.2 (List.nodup_range.imp fun h=>by omega);have h1:=hnd.idxOf_getElem k (by simpa using hkl);simp only[G5,aj0]at h1;exact h1);rw[this,<-hk];rfl
 unfold LC;rw[hsrt,hid,qO];apply VT
 ·simp
 intro k h1 h2;rw[G5,aj0];show mM F (k:Int)=_
 unfold mM;rw[gH,nA,gE h2];rfl
theorem TA {fs:List FT} (ho:fF ns (SY fs)):XV (ns,SY fs) ns fs:=by
 have hd:=ak9 ho;refine⟨⟨good_start ho,ho.few,fun n hn hf=>?_⟩,by rw[hd.1,hd.2]⟩;obtain⟨_,_,h3,_⟩:=ho.mem hn;have hl:n.file.toNat<(SY fs).length:=by omega
 have e:mM (SY fs) n.file=(SY fs)[n.file.toNat]:=by unfold mM;rw[gH,gE hl];rfl
 rw[e];exact⟨h3,ho.size _ (nW _),ho.SC _ (nW _)⟩
end
def kW (v:Value) (T:List (List UInt8)):aW:=.sl 9 1 v T.length (T.map aC)
theorem aoC :(Tryz.prog.info? 9).map (fun i=>(i.zero,i.size,i.bytes))=some (some (.string ⟨#[]⟩),1,16):=by kernel_rfl
section
variable {w0 w:World} {R:List aW} {b:Nat} {v:Value} {T:List (List UInt8)}
theorem TB {x:List UInt8} (h:Sep w0 w (.box b 181 #[v]::kW v T::R)) (hT:T.length<=1000):
  Calls Tryz.prog 131 #[pV b,aC x] w fun e w'=>e= .returned (.tuple #[])/\∃v',Sep w0 w' (.box b 181 #[v']::kW v' (T++[x])::R):=by
 obtain⟨k0,hif,hk0,hk1,hk2⟩:=iR aoC;obtain⟨A,c,rfl,_⟩:=h.gL 1 rfl;have c0:=h.bC 0 rfl 0;simp only[gA,gB]at c0;have hS:=Lh (h.alloc (.cells #[aC x] 9));have hlen:(T.map aC).length=T.length:=iJ _;have hrd:Hid (Rd (w.alloc (.cells #[aC x] 9)) 1 (sV w.heap.size 1 1) 1 [aC x]):=Lh ⟨rfl,_,_,rfl,iC _,by unfold maxLen;omega,fun _=>⟨_,rfl,by rw[World.size_alloc];exact J5 _,jP w #[aC x] 9 _ rfl⟩⟩;clear h hlen;unfold aC at*;go_enter Tryz.func131,Tryz.ntmps131;go_wp2_with(at_builtin;refine dI 1 rfl _ _ 73 rfl 9 k0 _ 1 16 Tryz.underlying73 hif hk0 hk1 hk2 rfl aR hS.out _ T.length _ rfl rfl (sV w.heap.size 1 1) 1 _ rfl hrd.out oCl vX aD ?_;intro v3 w3 dQ hz3;(obtain⟨A3,c3,e3,_⟩:=dQ.gL 1 rfl);subst e3;(have d0:=dQ.bC 0 rfl 0);(have d1:=dQ.bF 0 rfl 0);simp only[gA,gB]at d0;(have jT:=Lh (dQ.bS 0 rfl 0 (.slice A3 (T.length+1) c3)));clear dQ)
 go_end0
 refine⟨rfl,.slice A3 (T.length+1) c3,?_⟩;have e:kW (.slice A3 (T.length+1) c3) (T++[x])= .sl 9 1 (.slice A3 (T.length+1) c3) (T.length+1) (T.map aC++[aC x]):=by unfold kW;rw[mZ,jM];rfl
 rw[e];exact jT.out
theorem as2 (h:Sep w0 w (.box b 181 #[v]::kW v []::R)):
  Calls Tryz.prog 132 #[pV b] w fun e w'=>e= .returned (.tuple #[aC [],.bool false])/\w'=w:=by
 obtain⟨A,c,rfl,_⟩:=h.gL 1 rfl;have c0:=h.bC 0 rfl 0;simp only[gA,gB]at c0;clear h;unfold aC at*;go_enter Tryz.func132,Tryz.ntmps132;go_wp2_with fail;refine bodyPost_ret (v:=.tuple #[.string ⟨#[]⟩,.bool false]) (by simp[results,Tryz.f132,go_sem]) rfl ?_;exact⟨rfl,rfl⟩
theorem alA {x:List UInt8} (h:Sep w0 w (.box b 181 #[v]::kW v (T++[x])::R)) (hT:T.length<=1000):
  Calls Tryz.prog 132 #[pV b] w fun e w'=>e= .returned (.tuple #[aC x,.bool true])/\∃v',Sep w0 w' (.box b 181 #[v']::kW v' T::R):=by
 have hl:(T++[x]).length=T.length+1:=by rw[jM];rfl
 unfold kW at h;rw[hl]at h;obtain⟨g,c,rfl,_,_,hcc,hcm⟩:=h.kC 1 rfl (Nat.succ_pos _);have c0:=h.bC 0 rfl 0;have c1:=h.cellAt 1 rfl T.length aD;have e1:((T++[x]).map aC)[T.length]? =some (aC x):=by simp
 rw[e1]at c1;simp only[gA,gB]at c0;have h2:=h.agO 1 rfl T.length aD;have e2:((T++[x]).map aC).take (T.length*1)=T.map aC:=by rw[zM,mZ,VX];exact iJ _
 rw[e2]at h2;obtain⟨N,hN⟩:∃N,N=T.length:=⟨_,rfl⟩;rw[<-hN]at c0 c1 hT hcc;have b1:(N:Int)<=1000:=by omega
 have b2:(0:Int)<=(N:Int):=by omega
 have b3:(N:Int)<(N:Int)+1:=by omega
 have b4:(N:Int)+1-1=(N:Int):=by omega
 have b5:(N:Int)<=(c:Int):=by omega
 have b6:IntKind.i64.wrap (N:Int)=(N:Int):=by rw[IntKind.wrap_i64];omega
 have hb3:=Lh h2;replace hN:=Lh hN;have hfz:=fun m=>(h2.drewN m).bF 0 rfl 0
 have hcz:=fun m=>(h2.drewN m).bC 0 rfl 0
 clear h h2 e1 e2 hl;unfold aC at*;go_enter Tryz.func132,Tryz.ntmps132;go_wp2_with fail;refine aP (S:=fun w'=>w'.cell? ⟨b,0,none⟩=some (sV g (N+1) c)/\w'.cell? ⟨g,N,none⟩=some (.string ⟨x.toArray⟩)) 12 ?_;have hS0:w.drew.cell? ⟨b,0,none⟩=some (sV g (N+1) c)/\w.drew.cell? ⟨g,N,none⟩=some (.string ⟨x.toArray⟩):=⟨c0,c1⟩;refine aA 0 hS0 ?_;refine aA 1 hS0 ?_;refine aA 2 hS0 ?_;refine aA 3 hS0 ?_;refine aA 4 hS0 ?_;refine aA 5 hS0 ?_;refine aA 6 hS0 ?_;refine aA 7 hS0 ?_;refine aA 8 hS0 ?_;refine aA 9 hS0 ?_;refine aA 10 hS0 ?_;refine aA 11 hS0 ?_;refine bA 12 (fun _=>hS0) ?_;refine aQ fE ?_ _;go_wp2_with fail;have aSD:w.drew.drew.frozen? ⟨b,0,none⟩=false:=hfz 2;have hS1:w.drew.drew.cell? ⟨b,0,none⟩=some (sV g (N+1) c):=c0;refine aP (S:=fun w'=>w'.cell? ⟨b,0,none⟩=some (sV g (N+1) c)) 14 ?_;refine aA 0 hS1 ?_;refine aA 1 hS1 ?_;refine aA 2 hS1 ?_;refine aA 3 hS1 ?_;refine aA 4 hS1 ?_;refine aA 5 hS1 ?_;refine aA 6 hS1 ?_;refine aA 7 hS1 ?_;refine aA 8 hS1 ?_;refine aA 9 hS1 ?_;refine aA 10 hS1 ?_;refine aA 11 hS1 ?_;refine bA 12 (fun _=>hS1) ?_;refine bA 13 (fun _=>hS1) ?_;refine bA 14 (fun h=>absurd rfl h) ?_;refine aQ fE ?_ _;go_wp2_with fail
 go_ret2
 refine⟨rfl,sV g N c,?_⟩;have h5:=(hb3.out.drewN 2).bS 0 rfl 0 (sV g N c);have e5:=hN.out;rw[<-e5]at h5;show Sep w0 _ (.box b 181 #[sV g N c]:: .sl 9 1 (sV g N c) T.length (T.map fun p=>.string ⟨p.toArray⟩)::R)
 rw[<-e5];exact h5
end
section
variable {w0 w:World} {R:List aW}
theorem Sep.alB (h:Sep w0 w R) (o:Obj):Sep w0 (w.alloc o) (.obj w.heap.size o::R):=
 h.new (F:=[w.heap.size]) ((Below.refl _ _).alloc (iC _) _) ⟨heap_alloc_new w o,rfl⟩ bK
theorem aeV {b:Nat} {bs:List UInt8} {fr:Nat×Nat} (hl:bs.length<=maxLen):jI w0 (.obj b (.cells (bs.map kY).toArray 5 fr)::R) (sV b bs.length bs.length) bs:=fun w' X hS=>by have h1:=hS.XE X.length (by rw[vT (iC _),FP];rfl);refine⟨by simp,_,_,rfl,iC _,hl,fun _=>⟨_,rfl,lt_of_heap h1,fun j u hu=>?_⟩⟩;have:=cell_of_row w' b j _ _ _ h1;rw[Addr.add_lit,GZ,this];simpa using hu
end
end Go.Proofs.YtmjomdkleikgbaaGreat
namespace Go.Proofs.YtmjomdkleikgbaaGreat
open Go.RowKit Go.Shelf
attribute [local go_sem] Oper.semAt_some
def Shared {β:Type} (St:β->List aW->World->Prop):Prop:=∀s Y W,St s Y W->∃w0 R,Sep w0 W (Y++R)/\∀Y' W',Sep w0 W' (Y'++R)->St s Y' W'
section
variable {β:Type} {St:β->List aW->World->Prop} {s:β} {Y:List aW} {W:World}
theorem Shared.obj (hS:Shared St) {b:Nat} {o:Obj} (o':Obj) (h:St s (.obj b o::Y) W):W.heap[b]? =some o/\St s (.obj b o'::Y) (W.putObj b o'):=by obtain⟨w0,R,h1,h2⟩:=hS _ _ _ h;exact⟨h1.XE 0 rfl,h2 _ _ (h1.putObj 0 o' rfl)⟩
theorem Shared.new (hS:Shared St) (h:St s Y W) (o:Obj):St s (.obj W.heap.size o::Y) (W.alloc o):=by obtain⟨w0,R,h1,h2⟩:=hS _ _ _ h;exact h2 _ _ (h1.alB o)
theorem Shared.perm (hS:Shared St) {Y':List aW} (hp:Y.Perm Y') (h:St s Y W):St s Y' W:=by obtain⟨w0,R,h1,h2⟩:=hS _ _ _ h;exact h2 _ _ (h1.perm (hp.append_right R))
theorem Shared.drop (hS:Shared St) (n:Nat) (h:St s Y W):St s (Y.drop n) W:=by obtain⟨w0,R,h1,h2⟩:=hS _ _ _ h;refine h2 _ _ ?_;rw[<-EJ n Y,pG]at h1;exact h1.snd
theorem Shared.drewN (hS:Shared St) (n:Nat) (h:St s Y W):St s Y (W.drewN n):=by obtain⟨w0,R,h1,h2⟩:=hS _ _ _ h;exact h2 _ _ (h1.drewN n)
end
theorem oP {F:Fence} {n:Nat} {P:Program} {α:Type} {g:Operand} {ps:Array Tmp} {assign body:Code} {Q:Exit->Act->World->Prop} {a:Act} {w:World}
  (hro:F.round=none) (h1:1<=n) {gf:Nat} {lb:Array Value} (hg:a.eval g= .func (.func gf) #[] lb) (hFg:F.fn gf) (eg:∀args w,(callFunc gf args).run P w= .ok (.enter gf args) w)
  {encs:α->Array Value} (hps:∀x,(encs x).size=ps.size)
  (St:List α->List aW->World->Prop) (hS:Shared St) (Y0:List aW) (h0:St [] Y0 w) (Nx:List α->α->Prop) (Sx:List α->List aW->Prop)
  (hseq:∀l Z W,(∀pre x Y W1,Nx pre x->St pre (Y++Z) W1->YieldAt F (n-1-1) P l (encs x) W1 fun e W'=>e= .returned (.bool true)/\St (pre++[x]) (Y++Z) W')->St [] (Y0++Z) W->
   CallsIn F (n-1) P gf (#[.func (.yield l) #[] #[]]++lb) W fun e W'=>(∃v,e= .returned v)/\∃xs Y1,Sx xs Y1/\St xs (Y1++Z) W')
  (Ax:List α->α->Act->List aW->World->Prop) (hA:∀pre x,Shared (Ax pre x))
  (hassign:∀(l:Nat) (pre:List α) (x:α) (Y:List aW) (W:World) (K:Act->World->Prop),Nx pre x->St pre Y W->(∀a1 W1,Ax pre x a1 Y W1->K a1 W1)->
   assign.wpIn (F.inRound l) (n-1-1) P (Exit.then K (fun _ _ _=>False)) {tmps:=(ps.zip (encs x)).foldl (fun t (p,v)=>t.setIfInBounds p v) a.tmps,defers:=[]} W)
  (hbody:∀(l:Nat) (pre:List α) (x:α) (a1:Act) (Y:List aW) (W:World),Nx pre x->Ax pre x a1 Y W->body.wpIn (F.inRound l) (n-1-1) P (fun ex _ W'=>ex= .normal/\St (pre++[x]) Y W') a1 W)
  (hdone:∀(D:Nat) (xs:List α) (Y1:List aW) (Y2:List aW) (W:World),Sx xs Y1->St xs (.obj D (.deferred (some []))::(Y1++Y2)) W->Q .normal {a with defers:= {target:=.collected D,args:=#[]}::a.defers} W):
  (Code.rangeFunc g ps assign body).wpIn F n P Q a w:=by
 refine wpIn_rangeFunc ?_;intro fn hfn;rw[hro];obtain⟨rec,hrec⟩:∃rec:LoopState->Option Code->Loop,rec=fun st pe=> {state:=st,pending:=pe,fn,tmps:=a.tmps,params:=ps,assign,body,defers:=w.heap.size}:=⟨_,rfl⟩
 obtain⟨Z,hZ⟩:∃Z:Loop->List aW,Z=fun r=>[.obj (w.heap.size+1) (.loop r),.obj w.heap.size (.deferred (some []))]:=⟨_,rfl⟩
 obtain⟨W1,hW1⟩:∃W1,(w.alloc (.deferred (some []))).alloc (.loop (rec .ready none))=W1:=⟨_,rfl⟩;have hI1:St [] (Y0++Z (rec .ready none)) W1:=by have h2:=hS.new (hS.new h0 (.deferred (some []))) (.loop (rec .ready none));rw[hW1,World.size_alloc]at h2;refine hS.perm ?_ h2;rw[hZ];exact(O3 (l₁:=[_,_]) (l₂:=Y0))
 refine⟨w.heap.size+1,[{target:=.collected w.heap.size,args:=#[]}],W1,{target:=.fn (.func gf) lb,args:=#[.func (.yield (w.heap.size+1)) #[] #[]]},W1,gf,
  #[.func (.yield (w.heap.size+1)) #[] #[]]++lb,W1,?_,?_,?_,?_,fun _=>h1,?_⟩
 ·rw[<-hW1,hrec];exact run_enterLoop_outer _ _ _ _ _
 ·simp only[resolve,hg];simp[go_sem]
 ·intro f' hf';simp[Target.leads]at hf';subst hf';exact hFg
 ·simp[invoke,go_sem,eg]
 have front:∀(Y:List aW) (r:Loop),(Y++Z r).Perm (.obj (w.heap.size+1) (.loop r)::(Y++[.obj w.heap.size (.deferred (some []))])):=fun Y r=>by rw[hZ];exact lD
 have turn:∀ {β:Type} {T:β->List aW->World->Prop} (hT:Shared T) (pre:β) (Y:List aW) (W:World) (r r':Loop),T pre (Y++Z r) W->W.heap[w.heap.size+1]? =some (.loop r)/\T pre (Y++Z r') (W.putObj (w.heap.size+1) (.loop r')):=fun {β T} hT pre Y W r r' h=>by obtain⟨h2,h3⟩:=hT.obj (.loop r') (hT.perm (front Y r) h);exact⟨h2,hT.perm (front Y r').symm h3⟩
 refine(hseq (w.heap.size+1) (Z (rec .ready none)) W1 ?_ hI1).mono ?_
 ·intro pre x Y W hx hi;obtain⟨hl,_⟩:=turn hS pre Y W _ (rec .ready none) hi;have hy:=run_yield (P:=P) (args:=encs x) hl (by rw[hrec];exact hps x);rw[hrec]at hy;refine⟨fn,_,assign,body,hy,roundIn_of_wpIn hfn (hassign _ pre x _ W _ hx hi ?_)⟩;clear hy;intro a1 Wa hax;obtain⟨hl2,hb2⟩:=turn (hA pre x) a1 Y Wa _ {rec .ready none with state:=.busy} hax;refine⟨_,run_beginRound hl2 (by rw[hrec]),?_⟩;refine wpIn_mono (hbody _ pre x a1 _ _ hx hb2) ?_;rintro e a3 W3 ⟨rfl,hi3⟩;obtain⟨hl3,hb3⟩:=turn hS _ Y W3 _ (rec .ready none) hi3;have hr:=run_endRound (P:=P) none hl3;rw[hrec]at hr hb3 ⊢;exact⟨_,_,hr,rfl,hb3⟩
 rintro e W2 ⟨⟨v,rfl⟩,xs,Y1,hx,hi⟩;obtain⟨hl,h3⟩:=turn hS xs Y1 W2 _ {rec .ready none with state:=.exhausted} hi;refine⟨none,_,by have:=run_endLoop (P:=P) hl (by rw[hrec];simp);rw[hrec]at this;exact this,?_⟩;rw[hrec]at h3;exact hdone _ xs Y1 [.obj (w.heap.size+1) (.loop _)] _ hx (hS.perm (by rw[hZ];refine List.Perm.trans ?_ (abP _ _);rw[pG];exact .refl _) h3)
end Go.Proofs.YtmjomdkleikgbaaGreat
namespace Go.Proofs.YtmjomdkleikgbaaGreat
open Go.RowKit
theorem xB {n:Nat} {P:Program} {ops:Array Oper} {Q:Exit->Act->World->Prop} {S:World->Prop} {id:Nat} {a:Act} {w:World} (z:Nat) (hm:P.follows .mixedOrders=true)
  (h:KO P .any ops Q S z ops.size (Array.replicate ops.size false) a w.drew):(Code.region id ops true).wpIn Fence.wide n P Q a w:=by
 rw[wpIn_wide];exact sJ z hm h
theorem TC {l n:Nat} {P:Program} {Q:Exit->Act->World->Prop} {o:Oper} {K:Act->World->Prop} {a:Act} {w:World} (hd:∀c,o.op≠ .defer c) (h:o.wp P a w K Q):o.wpIn (Fence.wide.inRound l) n P a w K Q:=by
 refine⟨fun _ _=>trivial,?_⟩;rw[Oper.semAt_eq _ _ _ hd];unfold Oper.wp at h;generalize(execOp a.eval o).run P w=r at*;cases r with
 |ok x w'=>
  cases x<;>simp only[Oper.upon,Oper.uponIn]at h ⊢ <;>first
   |exact h
   |exact⟨fun h=>by simp[Fence.wide]at h,CallsIn.inRound l (callsIn_wide.2 (h.mono fun e w'' he=>by cases e<;>first |exact he|exact he.elim))⟩
   |exact⟨fun h=>by simp[Fence.wide]at h,RowsIn.mono (JG h) fun _ _ he=>he⟩
   |exact h.elim
 |halt x w'=>cases x<;>simp only[Oper.upon,Oper.uponIn]at h ⊢ <;>first |exact h|exact h.elim
theorem jD {l n9:Nat} {P:Program} {w0 w:World} {As:List aW} {ops:Array Oper} {rest:List Oper} {o:Oper} {a:Act} {Q:Exit->Act->World->Prop} (k:Nat) (hgd:o.guard=none) (s x:Operand) (t:TypeId)
  (ho:o.op= .call {callee:=.builtin .append,args:=#[s,x],argTypes:=#[t,t]})
  (e:TypeId) (i:TypeInfo) (z:Value) (size bytes:Nat) (ht:P.underlying t=some (.slice e)) (hi:P.info? e=some i) (hz:i.zero=some z)
  (hsize:i.size=size) (hby:i.bytes=bytes) (hzs:z.cells.size=size) (hsz:0<size)
  (hS:Sep w0 w As) (v:Value) (n:Nat) (cs:List Value) (hk:As[k]? =some (.sl e size v n cs)) (hs:a.eval s=v)
  (xv:Value) (m:Nat) (news:List Value) (hx:a.eval x=xv) (hr:Rd w size xv m news) (h1:∀u∈news,u.oneCell'=true)
  (h63:n+m<=maxLen) (hbytes:(n+m)*bytes<=140737488355328)
  (h:∀v' w',Sep w0 w' (As.set k (.sl e size v' (n+m) (cs++news)))->w.heap.size<=w'.heap.size->wpListIn (Fence.wide.inRound l) n9 P ops Q rest (a.put o.dst v') w'):
  wpListIn (Fence.wide.inRound l) n9 P ops Q (o::rest) a w:=by
 have hw:Region.wanted o (yielded ops a.tmps)=true:=by simp[Region.wanted,hgd]
 unfold wpListIn;rw[if_pos hw];exact TC (fun c e=>by rw[ho]at e;cases e) (pO k s x t ho e i z size bytes ht hi hz hsize hby hzs hsz hS v n cs hk hs xv m news hx hr h1 h63 hbytes h)
end Go.Proofs.YtmjomdkleikgbaaGreat
