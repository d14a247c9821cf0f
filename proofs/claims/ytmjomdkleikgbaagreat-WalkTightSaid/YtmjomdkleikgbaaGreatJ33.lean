/- Parts. -/
import Derived.Test.YtmjomdkleikgbaaGreatJ32
import Derived.Shelf.Spec.SlicesInsertGrow
set_option linter.unusedVariables false
set_option linter.unusedSimpArgs false
set_option linter.unusedSectionVars false
set_option maxRecDepth 100000
set_option maxHeartbeats 20000000
namespace Go.Proofs.YtmjomdkleikgbaaGreat
open Go.RowKit
theorem uF {Ns:List TN} {n:TN}:n∈jA Ns↔n∈Ns:=(lX Ns).mem_iff
def BV (a b:TN):Prop:=Op.bytesLess a.path b.path=true
theorem akB {p:List UInt8}:∀ {xs:List TN} {j:Nat} {m:TN},j<JC xs p->xs[j]? =some m->Op.bytesLess m.path p=true
 |[],j,m,h,_=>by simp[JC]at h
 |x::xs,j,m,h,hj=>by
  unfold JC at h;rw[List.takeWhile_cons]at h;split at h
  ·rename_i hx;cases j with
   |zero=>cases hj;exact hx
   |succ j=>exact akB (xs:=xs) (j:=j) (by unfold JC;simpa using h) (by simpa using hj)
  simp at h
theorem awE {p:List UInt8} {xs:List TN} {m:TN} (h:xs[JC xs p]? =some m):Op.bytesLess m.path p=false:=by
 unfold JC at h
 induction xs with
 |nil=>simp at h
 |cons x xs ih=>
  rw[List.takeWhile_cons]at h;cases hx:Op.bytesLess x.path p with
  |true=>rw[hx]at h;simp only[if_true,kR,gC]at h;exact ih h
  |false=>rw[hx]at h;simp at h;subst h;exact hx
theorem adX {xs:List TN} {n:TN} (hs:xs.Pairwise BV) (hn:∀m∈xs,m.path≠n.path):(am9 xs n).Pairwise BV:=by
 unfold am9;have h1:=hs;rw[<-D7 (JC xs n.path) xs,OE]at h1;obtain⟨ha,hb,hc⟩:=h1;have hlo:∀a∈xs.take (JC xs n.path),BV a n:=fun a h=>by
  obtain⟨j,hj⟩:=List.mem_iff_getElem?.1 h;rw[vO]at hj;split at hj
  ·rename_i hjl;exact akB hjl hj
  cases hj
 have hhi:∀b∈xs.drop (JC xs n.path),BV n b:=fun b h=>by
  cases hd:xs.drop (JC xs n.path)with
  |nil=>rw[hd]at h;cases h
  |cons c l=>
   (have hc0:xs[JC xs n.path]? =some c:=by(have h9:(xs.drop (JC xs n.path))[0]? =some c:=by rw[hd];rfl);rw[zY]at h9;exact h9);have hcn:BV n c:=Q9 (awE hc0) (hn c (gG hc0));rw[hd]at h hb;rcases kC.1 h with rfl|h
   ·exact hcn
   exact qC hcn ((List.pairwise_cons.1 hb).1 b h)
 rw[OE];refine⟨ha,?_,fun a h1 b h2=>?_⟩
 ·rw[List.pairwise_cons];exact⟨hhi,hb⟩
 rcases kC.1 h2 with rfl|h2
 ·exact hlo a h1
 exact hc a h1 b h2
theorem tT {ns:List TN} (h:ns.Pairwise fun a b=>a.path≠b.path):(jA ns).Pairwise BV:=by revert h;refine oC (P:=fun ns=>ns.Pairwise (fun a b=>a.path≠b.path)->(jA ns).Pairwise BV) (fun _=>List.Pairwise.nil) (fun xs x ih h=>?_) ns;rw[OE]at h;rw[RP];exact adX (ih h.1) fun m hm=>h.2.2 m ((lX xs).mem_iff.1 hm) x bL
structure zJ (Ns:List TN):Prop where
 ne:Ns.Pairwise fun a b=>a.path≠b.path
 valid:∀n∈Ns,aU n.path=true
 up:∀n∈Ns,aW n.path=[]\/∃m∈Ns,m.path=aW n.path/\m.file= -1
 file:∀n∈Ns,(n.file= -1/\iA n.mode=true)\/(0<=n.file/\n.mode=0)
theorem FX (ids:List Int) (n:TN):(lK ids n).path=n.path:=by unfold lK;split<;>rfl
def ren (r:Int->Int) (n:TN):TN:=if n.file<0 then n else⟨n.path,r n.file,n.mode⟩
theorem vE (r:Int->Int) (n:TN):(ren r n).path=n.path:=by unfold ren;split<;>rfl
theorem aaD {r:Int->Int} {n:TN} (h:n.file<0):ren r n=n:=by unfold ren;rw[if_pos h]
structure Alike (r:Int->Int) (Ms:List TN) (F:List TF) (Ns:List TN) (G:List TF):Prop where
 perm:Ms.Perm (Ns.map (ren r))
 file:∀n∈Ns,¬n.file<0->0<=r n.file/\r n.file<F.length/\mG F (r n.file)=mG G n.file
 inj:∀n∈Ns,∀m∈Ns,¬n.file<0->¬m.file<0->r n.file=r m.file->n.file=m.file
theorem KW {xs ys:List TN} (hx:xs.Pairwise BV) (hy:ys.Pairwise BV) (hp:xs.Perm ys):xs=ys:=by refine List.Perm.eq_of_pairwise (le:=BV) (fun a b _ _ h1 h2=>?_) hx hy hp;have:=qC h1 h2;rw[mD]at this;cases this
theorem XB {α β:Type} [BEq α] [LawfulBEq α] [BEq β] [LawfulBEq β] {r:α->β}:∀ {l:List α} {a:α},(∀b∈l,r b=r a->b=a)->(l.map r).idxOf (r a)=l.idxOf a
 |[],_,_=>rfl
 |b::l,a,h=>by
  rw[jS,List.idxOf_cons,List.idxOf_cons];by_cases e:b=a
  ·subst e;simp
  (have e2:¬r b=r a:=fun e2=>e (h b nE e2));rw[beq_false_of_ne e,beq_false_of_ne e2,XB fun c hc=>h c (vK _ hc)]
theorem adY {α β:Type} {r:α->β} {l:List α} {a:α} (h:∀b∈l,r b=r a->b=a):r a∈l.map r↔a∈l:=by rw[List.mem_map];exact⟨fun⟨b,hb,e⟩=>h b hb e▸hb,fun ha=>⟨a,ha,rfl⟩⟩
section
variable {r:Int->Int} {Ms Ns:List TN} {F G:List TF}
theorem awF {Xs:List TN} (hs:∀n∈Xs,n∈Ns) (h:Alike r Ms F Ns G):fA (Xs.map (ren r))=(fA Xs).map r:=by
 revert hs;refine oC (P:=fun Xs=>(∀n∈Xs,n∈Ns)->fA (Xs.map (ren r))=(fA Xs).map r) (fun _=>rfl) (fun xs x ih hs=>?_) Xs;have ih:=ih fun n hn=>hs n (vN _ hn)
 have hx:=hs x bL;rw[mV,MN,kF,kF,ih];by_cases hf:x.file<0
 ·rw[aaD hf,if_pos hf,if_pos hf]
 have h0:=(h.file x hx hf).1;have e1:(ren r x).file=r x.file:=by unfold ren;rw[if_neg hf]
 rw[e1,if_neg hf,if_neg aD];have hm:r x.file∈(fA xs).map r↔x.file∈fA xs:=adY fun b hb e=>by obtain⟨n,hn,h1,h2⟩:=yQ _ b hb;rw[<-h1]at e ⊢;exact h.inj n (hs n (vN _ hn)) x hx h2 hf e
 by_cases h2:x.file∈fA xs
 ·rw[if_pos h2,if_pos (hm.2 h2)]
 rw[if_neg h2,if_neg (fun e=>h2 (hm.1 e)),mV];rfl
theorem anG (h:Alike r Ms F Ns G) (hne:Ns.Pairwise fun a b=>a.path≠b.path):jA Ms=(jA Ns).map (ren r):=by
 have aKB:(Ns.map (ren r)).Pairwise fun a b=>a.path≠b.path:=by rw[GJ];exact hne.imp fun {a b} e=>by rw[vE,vE];exact e
 have aKC:Ms.Pairwise fun a b=>a.path≠b.path:=h.perm.symm.pairwise aKB fun {a b} h e=>h e.symm
 refine KW (tT aKC) ?_ ((lX Ms).trans (h.perm.trans ((lX Ns).symm.map _)));rw[GJ];refine(tT hne).imp fun {a b} e=>?_
 unfold BV;rw[vE,vE];exact e
theorem anH (h:Alike r Ms F Ns G) (hne:Ns.Pairwise fun a b=>a.path≠b.path):KU Ms=KU Ns/\KV Ms F=KV Ns G:=by
 have hmem:∀n∈jA Ns,n∈Ns:=fun n hn=>uF.1 hn
 unfold KU KV;rw[anG h hne,awF hmem h,qJ,qJ];constructor
 ·apply uH;intro n hn;(show lK ((fA (jA Ns)).map r) (ren r n)=_);by_cases hf:n.file<0
  ·rw[aaD hf];unfold lK;rw[if_pos hf,if_pos hf]
  have h0:=(h.file n (hmem n hn) hf).1;unfold lK;(have e1:(ren r n).file=r n.file:=by unfold ren;rw[if_neg hf]);(have e2:(ren r n).mode=n.mode:=by unfold ren;rw[if_neg hf]);rw[e1,if_neg aD,if_neg hf,vE,e2,XB fun b hb e=>?_];obtain⟨m,hm,h1,h2⟩:=yQ _ b hb;rw[<-h1]at e ⊢;exact h.inj m (hmem m hm) n (hmem n hn) h2 hf e
 apply uH;intro id hid;obtain⟨n,hn,h1,h2⟩:=yQ _ id hid;rw[<-h1];exact(h.file n (hmem n hn) h2).2.2
theorem anI (Xs:List TN):(fA Xs).Nodup:=by
 refine oC (P:=fun Xs=>(fA Xs).Nodup) OG (fun xs x ih=>?_) Xs;rw[kF];split
 ·exact ih
 split
 ·exact ih
 rename_i h;rw[sZ];refine⟨ih,by simp,fun a ha b hb e=>h ?_⟩;have hb2:b=x.file:=by simpa using hb
 rw[<-hb2,<-e];exact ha
theorem Z39 {P:Prop} (h:P:=by have h1:=abA (List.idxOf_lt_length_iff.2 hm1);have h2:=abA (List.idxOf_lt_length_iff.2 hm2);rw[<-h1,<-h2];simp only[e2]):P:=h
theorem Z65 {P:Prop} (h:P:=by
 conv=>lhs;unfold mG
 rw[gH,mW,kV,gE hl,abA hl];rfl):P:=h
theorem XC (Ns:List TN) (G:List TF):Alike (fun i=>((fA (jA Ns)).idxOf i:Nat)) (KU Ns) (KV Ns G) Ns G:=by
 refine⟨?_,fun n hn hf=>?_,fun n hn m hm hf hg e=>?_⟩
 ·unfold KU;exact(lX Ns).map _
 ·have hm:=nC _ n (uF.2 hn) hf;have hl:=List.idxOf_lt_length_iff.2 hm;refine⟨by omega,?_,?_⟩
  ·unfold KV;rw[iM];exact Int.ofNat_lt.2 hl
  unfold KV;(show mG _ ((List.idxOf n.file (fA (jA Ns)):Nat):Int)=_);exact Z65
 have hm1:=nC _ n (uF.2 hn) hf;have hm2:=nC _ m (uF.2 hm) hg;have e2:(fA (jA Ns)).idxOf n.file=(fA (jA Ns)).idxOf m.file:=Int.ofNat.inj e;exact Z39
theorem arZ {n:TN} (h:¬n.file<0):ren r n=⟨n.path,r n.file,n.mode⟩:=by unfold ren;rw[if_neg h]
theorem Alike.cnt (h:Alike r Ms F Ns G) (p:List UInt8):pI Ms p=pI Ns p:=by unfold pI;rw[h.perm.countP_eq,List.countP_map];apply List.countP_congr;intro n _;simp only[Function.comp_apply,vE]
end
abbrev TR :=List TN×List TF
def toF (f:FT):TF:=⟨f.mode,f.bs⟩
def RS (fs:List FT):List TF:=fs.map toF
structure aEW (ns:List TN) (G:List TF):Prop where
 good:zJ ns
 few:ns.length<=256
 file:∀n∈ns,¬n.file<0->n.file<G.length/\(mG G n.file).size<=8192/\iA (mG G n.file).mode=true
theorem ar0 (fs:List FT) (k:Int):(mG (RS fs) k).size=(rF fs k).length:=by unfold mG RS rF;rw[gH,kV];cases fs[k.toNat]? <;>rfl
structure RU (T:TR) (ns:List TN) (fs:List FT):Prop where
 good:aEW ns (RS fs)
 eq:T=(KU ns,KV ns (RS fs))
theorem akC (k:Nat):yP k=eD 1 k:=by unfold yP eD;rw[if_pos rfl];split<;>omega
theorem ar1 (k:Nat):vD k=eD 2 k:=by unfold vD eD;rw[if_neg (show ¬(2:Nat)=1 by decide),if_pos (show(2:Nat)=2 from rfl)];split<;>split<;>omega
theorem adZ {l m:List Int} (h:l.Perm m):l.sum=m.sum:=by
 induction h with
 |nil=>rfl
 |cons x _ ih=>rw[qI,qI,ih]
 |swap x y l=>simp only[qI];omega
 |trans _ _ h1 h2=>rw[h1,h2]
theorem RV (f:TN->Int):∀ns:List TN,(ns.map fun n=>if n.file= -1 then f n else 0).sum=((jK ns).map f).sum
 |[]=>rfl
 |n::t=>by
  unfold jK;rw[jS,qI,RV f t,xY];by_cases h:n.file= -1
  ·rw[if_pos h,if_pos (by simpa using h),jS,qI];rfl
  rw[if_neg h,if_neg (by simpa using h),Int.zero_add];rfl
section
variable {ns:List TN} {fs:List FT}
theorem XD (hg:zJ ns):(fA (jA ns)).Perm (fD ns):=by
 refine(ai1 (anI _) (lU _)).2 fun k=>?_
 rw[jE];constructor
 ·intro h;obtain⟨n,hn,h1,h2⟩:=yQ _ k h;exact⟨by omega,n,uF.1 hn,h1⟩
 rintro⟨h1,n,hn,rfl⟩;refine nC _ n (uF.2 hn) ?_;rcases hg.file n hn with⟨h2,_⟩|⟨h2,_⟩<;>omega
theorem ad1 (hg:zJ ns) (f:List UInt8->Int):((KU ns).map fun n=>if n.file= -1 then f n.path else 0).sum=((jK ns).map fun n=>f n.path).sum:=by
 have ha:=XC ns [];rw[adZ (ha.perm.map fun(n:TN)=>if n.file= -1 then f n.path else 0),qJ,<-RV fun n=>f n.path];congr 1;apply uH;intro n hn;show(if(ren _ n).file= -1 then f (ren _ n).path else 0)=_
 rw[vE];rcases hg.file n hn with⟨h1,_⟩|⟨h1,_⟩
 ·rw[aaD aD]
 have h2:=(ha.file n hn aD).1;rw[arZ aD,if_neg (show ¬((List.idxOf n.file (fA (jA ns)):Nat):Int)= -1 by omega),if_neg (show ¬n.file= -1 by omega)]
theorem ar2 (fs:List FT) (k:Int):vD (mG (RS fs) k).size=eD 2 (IQ fs k):=by
 have e:(rF fs k).length=IQ fs k:=by unfold IQ rF;cases fs[k.toNat]? <;>rfl
 rw[ar1,ar0,e]
theorem awG (hg:zJ ns):wdB (KU ns) (KV ns (RS fs))=lJ ns fs:=by
 unfold wdB lJ dnB dfB;have hc:=fun p=>(XC ns (RS fs)).cnt p
 rw[hc,akC,<-arW ns hg.valid];have e1:((KU ns).map fun n=>if n.file= -1 then yP (pI (KU ns) n.path)else 0).sum=((jK ns).map fun n=>eD 1 (dM ns (bD n))).sum:=by rw[ad1 hg fun p=>yP (pI (KU ns) p)];congr 1;apply uH;intro n hn;(show yP (pI (KU ns) n.path)=eD 1 (dM ns (splitB n.path)));rw[hc,akC,arV ns hg.valid (nD (hg.valid n (iQ.1 hn).1))]
 have e2:((KV ns (RS fs)).map fun f=>vD f.size).sum=((fD ns).map fun k=>eD 2 (IQ fs k)).sum:=by unfold KV;(have h3:(fun f:TF=>vD f.size)∘mG (RS fs)=fun k=>eD 2 (IQ fs k):=funext fun k=>by rw[Function.comp_apply,ar2]);rw[qJ,h3];exact adZ ((XD hg).map _)
 rw[e1,e2]
theorem awH (hg:zJ ns):wdI (KU ns) (KV ns (RS fs))=jY ns:=by
 unfold wdI jY dnI;have e1:((KU ns).map fun n=>if n.file= -1 then(1:Int)else 0).sum=(jK ns).length:=by rw[ad1 hg fun _=>1,IU fun _ _=>rfl]
 have e2:((KV ns (RS fs)).length:Int)=(fD ns).length:=by unfold KV;rw[iM,(XD hg).length_eq]
 rw[e1,e2]
end
theorem XE {α β:Type} {f:α->β}:∀ {xs:List α} {l:List β},l.Perm (xs.map f)->∃ys:List α,ys.Perm xs/\ys.map f=l
 |[],l,h=>⟨[],.refl _,(List.perm_nil.1 h).symm⟩
 |x::xs,l,h=>by have hm:f x∈l:=h.mem_iff.2 bL;obtain⟨a,b,rfl⟩:=ai9 hm;have h2:(a++b).Perm (xs.map f):=List.Perm.cons_inv (lZ.symm.trans h);obtain⟨ys,h3,h4⟩:=XE h2;obtain⟨ya,yb,rfl,e1,e2⟩:=List.map_eq_append_iff.1 h4;exact⟨ya++x::yb,lZ.trans (h3.cons x),by rw[mV,jS,e1,e2]⟩
theorem DX {α:Type} [DecidableEq α]:∀ {l m:List α},l.Nodup->(∀x∈l,x∈m)->l.length<=m.length
 |[],m,_,_=>gI _
 |a::l,m,hn,hs=>by
  rw[wV]at hn;obtain⟨s,t,rfl⟩:=ai9 (hs a nE);have:=DX (l:=l) (m:=s++t) hn.2 fun x hx=>by
   have h1:=hs x (vK _ hx);rw[iN,kC]at h1;rw[iN];rcases h1 with h1|h1|h1
   ·exact .inl h1
   ·subst h1;exact absurd hx hn.1
   exact .inr h1
  simp only[jL,kR]at this ⊢;omega
def vF (V:List TN):List Key:=(V.filter fun n=>decide (n.file= -1)).map bD
theorem anJ (V W:List TN):vF (V++W)=vF V++vF W:=by unfold vF;rw[E9,mV]
structure nP (ns V:List TN) (T P:List Key):Prop where
 todo:(T++P).Perm ([]::vF V)
 kids:V.Perm (P.flatMap (eX ns))
 nodup:P.Nodup
theorem nP.start (ns:List TN):nP ns [] [[]] []:=⟨.refl _,.refl _,OG⟩
theorem ahU (n:TN):bD n≠[]:=gK _
theorem xO {ns:List TN} {K:Key} {n:TN}:n∈eX ns K↔n∈ns/\(bD n).dropLast=K:=by unfold eX;rw[List.mem_filter];simp
section
variable {ns V:List TN} {T P:List Key}
theorem nP.sub (h:nP ns V T P) {n:TN} (hn:n∈V):n∈ns:=by have:=h.kids.mem_iff.1 hn;obtain⟨K,_,h2⟩:=List.mem_flatMap.1 this;exact(xO.1 h2).1
theorem nP.uniq (h:nP ns V T P) (hu:(ns.map bD).Nodup):(V.map bD).Nodup:=by
 refine(h.kids.map bD).nodup_iff.2 ?_;have hnd:=h.nodup;clear h
 induction P with
 |nil=>exact OG
 |cons K P ih=>
  rw[wV]at hnd;rw[wU,mV,sZ];refine⟨?_,ih hnd.2,fun a ha b hb e=>?_⟩
  ·unfold eX;exact List.Sublist.nodup (abC _ GR) hu
  obtain⟨n,hn,rfl⟩:=List.mem_map.1 ha;obtain⟨m,hm,rfl⟩:=List.mem_map.1 hb;obtain⟨L,hL,hm2⟩:=List.mem_flatMap.1 hm;have h1:=(xO.1 hn).2;have h2:=(xO.1 hm2).2;rw[e,h2]at h1;subst h1;exact hnd.1 hL
theorem ad3 (h:(V.map bD).Nodup):([]::vF V).Nodup:=by
 rw[wV];refine⟨fun hm=>?_,?_⟩
 ·obtain⟨n,_,e⟩:=List.mem_map.1 hm;exact ahU n e
 unfold vF;exact List.Sublist.nodup (abC _ GR) h
theorem nP.all (h:nP ns V T P) (hu:(ns.map bD).Nodup):(T++P).Nodup:=h.todo.nodup_iff.2 (ad3 (h.uniq hu))
theorem nP.next {K:Key} (h:nP ns V (T++[K]) P) (hu:(ns.map bD).Nodup) {ks:List TN} (hk:ks.Perm (eX ns K)):nP ns (V++ks) (T++vF ks) (P++[K]):=by
 have ha:=h.all hu;refine⟨?_,?_,?_⟩
 ·rw[anJ,<-kW];(have h1:(T++vF ks++(P++[K])).Perm ((T++[K]++P)++vF ks):=by rw[pJ,pJ,pJ];refine afT T ?_;refine OI.trans ?_;rw[<-pJ];exact(OI (l₁:=P) (l₂:=[K])).append_right _);exact h1.trans (h.todo.append_right _)
 ·rw[YE,List.flatMap_singleton];exact h.kids.append hk
 rw[sZ];refine⟨h.nodup,by simp,fun a ha' b hb e=>?_⟩;rw[sW]at hb;subst hb;subst e;rw[pJ]at ha;have h3:=(sZ.1 ha).2.1;rw[List.singleton_append,wV]at h3;exact h3.1 ha'
theorem nP.isDir (h:nP ns V T P) {K:Key} (hK:K∈T++P):dI ns K:=by
 have:=h.todo.mem_iff.1 hK;rcases kC.1 this with e|e
 ·exact .inl e
 obtain⟨n,hn,e2⟩:=List.mem_map.1 e;rw[List.mem_filter]at hn;exact .inr ⟨n,h.sub hn.1,e2,by simpa using hn.2⟩
theorem nP.few (h:nP ns V T P) (hu:(ns.map bD).Nodup):T.length+P.length<=ns.length+1:=by
 have h1:=h.todo.length_eq;have h2:(V.map bD).length<=(ns.map bD).length:=DX (h.uniq hu) fun x hx=>by obtain⟨n,hn,e⟩:=List.mem_map.1 hx;exact List.mem_map.2 ⟨n,h.sub hn,e⟩
 have h3:(vF V).length<=V.length:=by unfold vF;rw[iM];exact NV _ _
 rw[jL,kR]at h1;rw[iM,iM]at h2;omega
theorem nP.len (h:nP ns V T P) (hu:(ns.map bD).Nodup):V.length<=ns.length:=by
 have h2:(V.map bD).length<=(ns.map bD).length:=DX (h.uniq hu) fun x hx=>by obtain⟨n,hn,e⟩:=List.mem_map.1 hx;exact List.mem_map.2 ⟨n,h.sub hn,e⟩
 rw[iM,iM]at h2;exact h2
theorem nP.done (h:nP ns V [] P) (hu:(ns.map bD).Nodup) (hup:∀n∈ns,dI ns (bD n).dropLast):V.Perm ns:=by
 have key:∀(k:Nat) (n:TN),n∈ns->(bD n).length<=k->n∈V:=fun k=>by
  induction k with
  |zero=>intro n hn hk;have:=List.length_pos_iff.2 (ahU n);omega
  |succ k ih=>
   intro n hn hk;have hP:(bD n).dropLast∈P:=by
    have hd:(bD n).dropLast∈[]::vF V:=by
     rcases hup n hn with e|⟨m,hm,e,hf⟩
     ·rw[e];exact nE
     have h1:=ih m hm (by rw[e,aaW];omega);refine vK _ (List.mem_map.2 ⟨m,List.mem_filter.2 ⟨h1,by simp[hf]⟩,e⟩)
    have:=h.todo.mem_iff.2 hd;simpa using this
   exact h.kids.mem_iff.2 (List.mem_flatMap.2 ⟨_,hP,xO.2 ⟨hn,rfl⟩⟩)
 have nod:∀ {l:List TN},(l.map bD).Nodup->l.Nodup:=fun {l} hl=>by rw[List.Nodup,GJ]at hl;exact hl.imp fun {a b} e1 e2=>e1 (by rw[e2])
 exact(ai1 (nod (h.uniq hu)) (nod hu)).2 fun n=>⟨fun hn=>h.sub hn,fun hn=>key _ n hn (iB _)⟩
end
def aaE (d x:List UInt8):List UInt8:=if d=[]then x else d++47::x
theorem ar3 {n:TN} {d:List UInt8} (h:(bD n).dropLast=WJ d):aaE d ((bD n).getLastD [])=n.path:=by
 unfold bD at*;rcases kM n.path with⟨_,_,h1⟩|⟨a,b,e,_,_,h1⟩
 ·rw[h1]at h ⊢;have hd:d=[]:=by
   by_cases e:d=[]
   ·exact e
   unfold WJ at h;rw[if_neg e]at h;exact absurd h.symm (gK d)
  rw[hd];rfl
 rw[h1,TK]at h;have hd:¬d=[]:=fun e=>by rw[e]at h;exact gK a h
 unfold WJ at h;rw[if_neg hd]at h;have:=rH _ (iB _) h;unfold aaE;rw[if_neg hd,h1,e,this];simp
def fF (V:List TN):List TN:=V.map (lK (fA V))
def fU (V:List TN) (fs:List FT):List TF:=(fA V).map (mG (RS fs))
theorem ahV {V ns:List TN} (hp:V.Perm ns) (fs:List FT):Alike (fun i=>((fA V).idxOf i:Nat)) (fF V) (fU V fs) ns (RS fs):=by
 refine⟨hp.map _,fun n hn hf=>?_,fun n hn m hm hf hg e=>?_⟩
 ·have hm:=nC _ n (hp.mem_iff.2 hn) hf;have hl:=List.idxOf_lt_length_iff.2 hm;refine⟨by omega,?_,?_⟩
  ·unfold fU;rw[iM];exact Int.ofNat_lt.2 hl
  unfold fU;(show mG _ ((List.idxOf n.file (fA V):Nat):Int)=_);exact Z65
 have hm1:=nC _ n (hp.mem_iff.2 hn) hf;have hm2:=nC _ m (hp.mem_iff.2 hm) hg;have e2:(fA V).idxOf n.file=(fA V).idxOf m.file:=Int.ofNat.inj e;exact Z39
theorem ar4 {T:TR} {ns V:List TN} {fs:List FT} (h:RU T ns fs) (hp:V.Perm ns):(KU (fF V),KV (fF V) (fU V fs))=T:=by obtain⟨h1,h2⟩:=anH (ahV hp fs) h.good.good.ne;rw[h1,h2,h.eq]
section
variable {ns:List TN} {F:List TF}
theorem good_start (ho:fT ns F):zJ ns:=by
 refine⟨ho.ne,fun n hn=>(ho.mem hn).1,fun n hn=>?_,fun n hn=>?_⟩
 ·obtain⟨i,hi⟩:=List.mem_iff_getElem?.1 hn;obtain⟨_,_,h1,_⟩:=ho.at_ hi;by_cases h0:aW n.path=[]
  ·exact .inl h0
  have gen:∀(pre:List TN) (p:List UInt8),p≠[]->qB pre p=1->∃m∈pre,m.path=p/\m.file= -1:=fun pre p hp=>by
   refine oC (P:=fun pre=>qB pre p=1->∃m∈pre,m.path=p/\m.file= -1) ?_ ?_ pre
   ·intro h;unfold qB at h;simp[hp]at h
   intro xs x ih h;rw[vB]at h;by_cases e:x.path=p
   ·rw[if_pos e]at h;split at h
    ·rename_i hf;exact⟨x,by simp,e,hf⟩
    cases h
   rw[if_neg e]at h;obtain⟨m,hm,h2⟩:=ih h;exact⟨m,vN _ hm,h2⟩
  obtain⟨m,hm,h2⟩:=gen _ _ h0 h1;exact .inr ⟨m,zX hm,h2⟩
 obtain⟨_,h2,_,h3,h4⟩:=ho.mem hn;by_cases e:n.file= -1
 ·exact .inl ⟨e,h3 e⟩
 exact .inr ⟨by omega,h4 e⟩
theorem XF (ho:fT ns F):∀i,i<=ns.length->∀m,runK ns i=some m->fA (ns.take i)=(List.range m).map fun(v:Nat)=>(v:Int):=by
 intro i
 induction i with
 |zero=>intro _ m h;cases h;rfl
 |succ i ih=>
  intro hi m h;have hn:ns[i]? =some ns[i]:=gE aD;obtain⟨k,h1,h2,_⟩:=RF h i aD _ hn;rw[rG h1 hn,h2,if_pos rfl]at h;cases h;have ih2:=ih aD k h1;rw[pE,hn];(show fA (ns.take i++[ns[i]])=_);rw[kF,ih2];obtain⟨_,_,_,d1,d2,_⟩:=qD h2;unfold gU;by_cases hneg:ns[i].file<0
  ·rw[if_pos hneg,if_neg aD]
  rw[if_neg hneg];by_cases hk:ns[i].file=(k:Int)
  ·rw[if_pos hk,if_neg,OD,mV,hk]
   ·rfl
   rw[hk];intro hm;obtain⟨v,hv,e⟩:=List.mem_map.1 hm;rw[List.mem_range]at hv;omega
  rw[if_neg hk,if_pos];exact List.mem_map.2 ⟨ns[i].file.toNat,List.mem_range.2 aD,by omega⟩
theorem akD (ho:fT ns F):KU ns=ns/\KV ns F=F:=by
 have hsrt:jA ns=ns:=KW (tT ho.ne) ho.up (lX ns);have hid:=XF ho ns.length (iB _) F.length ho.run;rw[NY]at hid;constructor
 ·unfold KU;rw[hsrt,hid]
  conv=>rhs;rw[<-List.map_id ns]
  apply uH;intro n hn;unfold lK;by_cases hneg:n.file<0
  ·rw[if_pos hneg];rfl
  rw[if_neg hneg];obtain⟨_,h2,h3,_⟩:=ho.mem hn;obtain⟨k,hk⟩:∃k:Nat,n.file=k:=⟨n.file.toNat,by omega⟩;(have hkl:k<F.length:=by omega);(have:((List.range F.length).map fun(v:Nat)=>(v:Int)).idxOf n.file=k:=by rw[hk];have hnd:((List.range F.length).map fun(v:Nat)=>(v:Int)).Nodup:=GJ.2 (List.nodup_range.imp fun h=>by omega);have h1:=hnd.idxOf_getElem k (by simpa using hkl);simp only[GM,ai8]at h1;exact h1);rw[this,<-hk];rfl
 unfold KV;rw[hsrt,hid,qJ];apply U3
 ·simp
 intro k h1 h2;rw[GM,ai8];show mG F (k:Int)=_
 unfold mG;rw[gH,mW,gE h2];rfl
theorem FY {fs:List FT} (ho:fT ns (RS fs)):RU (ns,RS fs) ns fs:=by
 have hd:=akD ho;refine⟨⟨good_start ho,ho.few,fun n hn hf=>?_⟩,by rw[hd.1,hd.2]⟩;obtain⟨_,_,h3,_⟩:=ho.mem hn;have hl:n.file.toNat<(RS fs).length:=by omega
 have e:mG (RS fs) n.file=(RS fs)[n.file.toNat]:=by unfold mG;rw[gH,gE hl];rfl
 rw[e];exact⟨h3,ho.size _ (nT _),ho.RA _ (nT _)⟩
end
def lF (v:Value) (T:List (List UInt8)):aZ:=.sl 9 1 v T.length (T.map aC)
theorem anK :(Tryz.prog.info? 9).map (fun i=>(i.zero,i.size,i.bytes))=some (some (.string ⟨#[]⟩),1,16):=by kernel_rfl
section
variable {w0 w:World} {R:List aZ} {b:Nat} {v:Value} {T:List (List UInt8)}
theorem ad4 {x:List UInt8} (h:Sep w0 w (.box b 181 #[v]::lF v T::R)) (hT:T.length<=1000):
  Calls Tryz.prog 131 #[pV b,aC x] w fun e w'=>e= .returned (.tuple #[])/\∃v',Sep w0 w' (.box b 181 #[v']::lF v' (T++[x])::R):=by
 obtain⟨k0,hif,hk0,hk1,hk2⟩:=iU anK;obtain⟨A,c,rfl,_⟩:=h.gJ 1 rfl;have c0:=h.bC 0 rfl 0;simp only[gA,gB]at c0;have hS:=Lh (h.alloc (.cells #[aC x] 9));have hlen:(T.map aC).length=T.length:=iM _;have hrd:Hid (Rd (w.alloc (.cells #[aC x] 9)) 1 (sV w.heap.size 1 1) 1 [aC x]):=Lh ⟨rfl,_,_,rfl,iB _,by unfold maxLen;omega,fun _=>⟨_,rfl,by rw[World.size_alloc];exact JQ _,jO w #[aC x] 9 _ rfl⟩⟩;clear h hlen;unfold aC at*;go_enter Tryz.func131,Tryz.ntmps131;go_wp2_with(at_builtin;refine dH 1 rfl _ _ 73 rfl 9 k0 _ 1 16 Tryz.underlying73 hif hk0 hk1 hk2 rfl aV hS.out _ T.length _ rfl rfl (sV w.heap.size 1 1) 1 _ rfl hrd.out oCl vQ aD ?_;intro v3 w3 dX hz3;(obtain⟨A3,c3,e3,_⟩:=dX.gJ 1 rfl);subst e3;(have d0:=dX.bC 0 rfl 0);(have d1:=dX.bF 0 rfl 0);simp only[gA,gB]at d0;(have kD:=Lh (dX.bS 0 rfl 0 (.slice A3 (T.length+1) c3)));clear dX)
 go_end0
 refine⟨rfl,.slice A3 (T.length+1) c3,?_⟩;have e:lF (.slice A3 (T.length+1) c3) (T++[x])= .sl 9 1 (.slice A3 (T.length+1) c3) (T.length+1) (T.map aC++[aC x]):=by unfold lF;rw[mV,jL];rfl
 rw[e];exact kD.out
theorem ar5 (h:Sep w0 w (.box b 181 #[v]::lF v []::R)):
  Calls Tryz.prog 132 #[pV b] w fun e w'=>e= .returned (.tuple #[aC [],.bool false])/\w'=w:=by
 obtain⟨A,c,rfl,_⟩:=h.gJ 1 rfl;have c0:=h.bC 0 rfl 0;simp only[gA,gB]at c0;clear h;unfold aC at*;go_enter Tryz.func132,Tryz.ntmps132;go_wp2_with fail;refine bodyPost_ret (v:=.tuple #[.string ⟨#[]⟩,.bool false]) (by simp[results,Tryz.f132,go_sem]) rfl ?_;exact⟨rfl,rfl⟩
theorem awI {x:List UInt8} (h:Sep w0 w (.box b 181 #[v]::lF v (T++[x])::R)) (hT:T.length<=1000):
  Calls Tryz.prog 132 #[pV b] w fun e w'=>e= .returned (.tuple #[aC x,.bool true])/\∃v',Sep w0 w' (.box b 181 #[v']::lF v' T::R):=by
 have hl:(T++[x]).length=T.length+1:=by rw[jL];rfl
 unfold lF at h;rw[hl]at h;obtain⟨g,c,rfl,_,_,hcc,hcm⟩:=h.j5 1 rfl (Nat.succ_pos _);have c0:=h.bC 0 rfl 0;have c1:=h.cellAt 1 rfl T.length aD;have e1:((T++[x]).map aC)[T.length]? =some (aC x):=by simp
 rw[e1]at c1;simp only[gA,gB]at c0;have h2:=h.afW 1 rfl T.length aD;have e2:((T++[x]).map aC).take (T.length*1)=T.map aC:=by rw[yY,mV,U6];exact iM _
 rw[e2]at h2;obtain⟨N,hN⟩:∃N,N=T.length:=⟨_,rfl⟩;rw[<-hN]at c0 c1 hT hcc;have b1:(N:Int)<=1000:=by omega
 have b2:(0:Int)<=(N:Int):=by omega
 have b3:(N:Int)<(N:Int)+1:=by omega
 have b4:(N:Int)+1-1=(N:Int):=by omega
 have b5:(N:Int)<=(c:Int):=by omega
 have b6:IntKind.i64.wrap (N:Int)=(N:Int):=by rw[IntKind.wrap_i64];omega
 have hb3:=Lh h2;replace hN:=Lh hN;have hfz:=fun m=>(h2.drewN m).bF 0 rfl 0
 have hcz:=fun m=>(h2.drewN m).bC 0 rfl 0
 clear h h2 e1 e2 hl;unfold aC at*;go_enter Tryz.func132,Tryz.ntmps132;go_wp2_with fail;refine aP (S:=fun w'=>w'.cell? ⟨b,0,none⟩=some (sV g (N+1) c)/\w'.cell? ⟨g,N,none⟩=some (.string ⟨x.toArray⟩)) 12 ?_;have hS0:w.drew.cell? ⟨b,0,none⟩=some (sV g (N+1) c)/\w.drew.cell? ⟨g,N,none⟩=some (.string ⟨x.toArray⟩):=⟨c0,c1⟩;refine aA 0 hS0 ?_;refine aA 1 hS0 ?_;refine aA 2 hS0 ?_;refine aA 3 hS0 ?_;refine aA 4 hS0 ?_;refine aA 5 hS0 ?_;refine aA 6 hS0 ?_;refine aA 7 hS0 ?_;refine aA 8 hS0 ?_;refine aA 9 hS0 ?_;refine aA 10 hS0 ?_;refine aA 11 hS0 ?_;refine bB 12 (fun _=>hS0) ?_;refine aQ fH ?_ _;go_wp2_with fail;have aQ4:w.drew.drew.frozen? ⟨b,0,none⟩=false:=hfz 2;have hS1:w.drew.drew.cell? ⟨b,0,none⟩=some (sV g (N+1) c):=c0;refine aP (S:=fun w'=>w'.cell? ⟨b,0,none⟩=some (sV g (N+1) c)) 14 ?_;refine aA 0 hS1 ?_;refine aA 1 hS1 ?_;refine aA 2 hS1 ?_;refine aA 3 hS1 ?_;refine aA 4 hS1 ?_;refine aA 5 hS1 ?_;refine aA 6 hS1 ?_;refine aA 7 hS1 ?_;refine aA 8 hS1 ?_;refine aA 9 hS1 ?_;refine aA 10 hS1 ?_;refine aA 11 hS1 ?_;refine bB 12 (fun _=>hS1) ?_;refine bB 13 (fun _=>hS1) ?_;refine bB 14 (fun h=>absurd rfl h) ?_;refine aQ fH ?_ _;go_wp2_with fail
 go_ret2
 refine⟨rfl,sV g N c,?_⟩;have h5:=(hb3.out.drewN 2).bS 0 rfl 0 (sV g N c);have e5:=hN.out;rw[<-e5]at h5;show Sep w0 _ (.box b 181 #[sV g N c]:: .sl 9 1 (sV g N c) T.length (T.map fun p=>.string ⟨p.toArray⟩)::R)
 rw[<-e5];exact h5
end
section
variable {w0 w:World} {R:List aZ}
theorem Sep.akE (h:Sep w0 w R) (o:Obj):Sep w0 (w.alloc o) (.obj w.heap.size o::R):=
 h.new (F:=[w.heap.size]) ((Below.refl _ _).alloc (iB _) _) ⟨heap_alloc_new w o,rfl⟩ bL
theorem ad5 {b:Nat} {bs:List UInt8} {fr:Nat×Nat} (hl:bs.length<=maxLen):jG w0 (.obj b (.cells (bs.map kT).toArray 5 fr)::R) (sV b bs.length bs.length) bs:=fun w' X hS=>by have h1:=hS.adL X.length (by rw[vM (iB _),FB];rfl);refine⟨by simp,_,_,rfl,iB _,hl,fun _=>⟨_,rfl,lt_of_heap h1,fun j u hu=>?_⟩⟩;have:=cell_of_row w' b j _ _ _ h1;rw[Addr.add_lit,GL,this];simpa using hu
end
end Go.Proofs.YtmjomdkleikgbaaGreat
namespace Go.Proofs.YtmjomdkleikgbaaGreat
open Go.RowKit Go.Shelf
attribute [local go_sem] Oper.semAt_some
def Shared {β:Type} (St:β->List aZ->World->Prop):Prop:=∀s Y W,St s Y W->∃w0 R,Sep w0 W (Y++R)/\∀Y' W',Sep w0 W' (Y'++R)->St s Y' W'
section
variable {β:Type} {St:β->List aZ->World->Prop} {s:β} {Y:List aZ} {W:World}
theorem Shared.obj (hS:Shared St) {b:Nat} {o:Obj} (o':Obj) (h:St s (.obj b o::Y) W):W.heap[b]? =some o/\St s (.obj b o'::Y) (W.putObj b o'):=by obtain⟨w0,R,h1,h2⟩:=hS _ _ _ h;exact⟨h1.adL 0 rfl,h2 _ _ (h1.putObj 0 o' rfl)⟩
theorem Shared.new (hS:Shared St) (h:St s Y W) (o:Obj):St s (.obj W.heap.size o::Y) (W.alloc o):=by obtain⟨w0,R,h1,h2⟩:=hS _ _ _ h;exact h2 _ _ (h1.akE o)
theorem Shared.perm (hS:Shared St) {Y':List aZ} (hp:Y.Perm Y') (h:St s Y W):St s Y' W:=by obtain⟨w0,R,h1,h2⟩:=hS _ _ _ h;exact h2 _ _ (h1.perm (hp.append_right R))
theorem Shared.drop (hS:Shared St) (n:Nat) (h:St s Y W):St s (Y.drop n) W:=by obtain⟨w0,R,h1,h2⟩:=hS _ _ _ h;refine h2 _ _ ?_;rw[<-D7 n Y,pJ]at h1;exact h1.snd
theorem Shared.drewN (hS:Shared St) (n:Nat) (h:St s Y W):St s Y (W.drewN n):=by obtain⟨w0,R,h1,h2⟩:=hS _ _ _ h;exact h2 _ _ (h1.drewN n)
end
theorem vG {F:Fence} {n:Nat} {P:Program} {α:Type} {g:Operand} {ps:Array Tmp} {assign body:Code} {Q:Exit->Act->World->Prop} {a:Act} {w:World}
  (hro:F.round=none) (h1:1<=n) {gf:Nat} {lb:Array Value} (hg:a.eval g= .func (.func gf) #[] lb) (hFg:F.fn gf) (eg:∀args w,(callFunc gf args).run P w= .ok (.enter gf args) w)
  {encs:α->Array Value} (hps:∀x,(encs x).size=ps.size)
  (St:List α->List aZ->World->Prop) (hS:Shared St) (Y0:List aZ) (h0:St [] Y0 w) (Nx:List α->α->Prop) (Sx:List α->List aZ->Prop)
  (hseq:∀l Z W,(∀pre x Y W1,Nx pre x->St pre (Y++Z) W1->YieldAt F (n-1-1) P l (encs x) W1 fun e W'=>e= .returned (.bool true)/\St (pre++[x]) (Y++Z) W')->St [] (Y0++Z) W->
   CallsIn F (n-1) P gf (#[.func (.yield l) #[] #[]]++lb) W fun e W'=>(∃v,e= .returned v)/\∃xs Y1,Sx xs Y1/\St xs (Y1++Z) W')
  (Ax:List α->α->Act->List aZ->World->Prop) (hA:∀pre x,Shared (Ax pre x))
  (hassign:∀(l:Nat) (pre:List α) (x:α) (Y:List aZ) (W:World) (K:Act->World->Prop),Nx pre x->St pre Y W->(∀a1 W1,Ax pre x a1 Y W1->K a1 W1)->
   assign.wpIn (F.inRound l) (n-1-1) P (Exit.then K (fun _ _ _=>False)) {tmps:=(ps.zip (encs x)).foldl (fun t (p,v)=>t.setIfInBounds p v) a.tmps,defers:=[]} W)
  (hbody:∀(l:Nat) (pre:List α) (x:α) (a1:Act) (Y:List aZ) (W:World),Nx pre x->Ax pre x a1 Y W->body.wpIn (F.inRound l) (n-1-1) P (fun ex _ W'=>ex= .normal/\St (pre++[x]) Y W') a1 W)
  (hdone:∀(D:Nat) (xs:List α) (Y1:List aZ) (Y2:List aZ) (W:World),Sx xs Y1->St xs (.obj D (.deferred (some []))::(Y1++Y2)) W->Q .normal {a with defers:= {target:=.collected D,args:=#[]}::a.defers} W):
  (Code.rangeFunc g ps assign body).wpIn F n P Q a w:=by
 refine wpIn_rangeFunc ?_;intro fn hfn;rw[hro];obtain⟨rec,hrec⟩:∃rec:LoopState->Option Code->Loop,rec=fun st pe=> {state:=st,pending:=pe,fn,tmps:=a.tmps,params:=ps,assign,body,defers:=w.heap.size}:=⟨_,rfl⟩
 obtain⟨Z,hZ⟩:∃Z:Loop->List aZ,Z=fun r=>[.obj (w.heap.size+1) (.loop r),.obj w.heap.size (.deferred (some []))]:=⟨_,rfl⟩
 obtain⟨W1,hW1⟩:∃W1,(w.alloc (.deferred (some []))).alloc (.loop (rec .ready none))=W1:=⟨_,rfl⟩;have hI1:St [] (Y0++Z (rec .ready none)) W1:=by have h2:=hS.new (hS.new h0 (.deferred (some []))) (.loop (rec .ready none));rw[hW1,World.size_alloc]at h2;refine hS.perm ?_ h2;rw[hZ];exact(OI (l₁:=[_,_]) (l₂:=Y0))
 refine⟨w.heap.size+1,[{target:=.collected w.heap.size,args:=#[]}],W1,{target:=.fn (.func gf) lb,args:=#[.func (.yield (w.heap.size+1)) #[] #[]]},W1,gf,
  #[.func (.yield (w.heap.size+1)) #[] #[]]++lb,W1,?_,?_,?_,?_,fun _=>h1,?_⟩
 ·rw[<-hW1,hrec];exact run_enterLoop_outer _ _ _ _ _
 ·simp only[resolve,hg];simp[go_sem]
 ·intro f' hf';simp[Target.leads]at hf';subst hf';exact hFg
 ·simp[invoke,go_sem,eg]
 have front:∀(Y:List aZ) (r:Loop),(Y++Z r).Perm (.obj (w.heap.size+1) (.loop r)::(Y++[.obj w.heap.size (.deferred (some []))])):=fun Y r=>by rw[hZ];exact lZ
 have turn:∀ {β:Type} {T:β->List aZ->World->Prop} (hT:Shared T) (pre:β) (Y:List aZ) (W:World) (r r':Loop),T pre (Y++Z r) W->W.heap[w.heap.size+1]? =some (.loop r)/\T pre (Y++Z r') (W.putObj (w.heap.size+1) (.loop r')):=fun {β T} hT pre Y W r r' h=>by obtain⟨h2,h3⟩:=hT.obj (.loop r') (hT.perm (front Y r) h);exact⟨h2,hT.perm (front Y r').symm h3⟩
 refine(hseq (w.heap.size+1) (Z (rec .ready none)) W1 ?_ hI1).mono ?_
 ·intro pre x Y W hx hi;obtain⟨hl,_⟩:=turn hS pre Y W _ (rec .ready none) hi;have hy:=run_yield (P:=P) (args:=encs x) hl (by rw[hrec];exact hps x);rw[hrec]at hy;refine⟨fn,_,assign,body,hy,roundIn_of_wpIn hfn (hassign _ pre x _ W _ hx hi ?_)⟩;clear hy;intro a1 Wa hax;obtain⟨hl2,hb2⟩:=turn (hA pre x) a1 Y Wa _ {rec .ready none with state:=.busy} hax;refine⟨_,run_beginRound hl2 (by rw[hrec]),?_⟩;refine wpIn_mono (hbody _ pre x a1 _ _ hx hb2) ?_;rintro e a3 W3 ⟨rfl,hi3⟩;obtain⟨hl3,hb3⟩:=turn hS _ Y W3 _ (rec .ready none) hi3;have hr:=run_endRound (P:=P) none hl3;rw[hrec]at hr hb3 ⊢;exact⟨_,_,hr,rfl,hb3⟩
 rintro e W2 ⟨⟨v,rfl⟩,xs,Y1,hx,hi⟩;obtain⟨hl,h3⟩:=turn hS xs Y1 W2 _ {rec .ready none with state:=.exhausted} hi;refine⟨none,_,by have:=run_endLoop (P:=P) hl (by rw[hrec];simp);rw[hrec]at this;exact this,?_⟩;rw[hrec]at h3;exact hdone _ xs Y1 [.obj (w.heap.size+1) (.loop _)] _ hx (hS.perm (by rw[hZ];refine List.Perm.trans ?_ (aaZ _ _);rw[pJ];exact .refl _) h3)
end Go.Proofs.YtmjomdkleikgbaaGreat
namespace Go.Proofs.YtmjomdkleikgbaaGreat
open Go.RowKit
theorem EX {n:Nat} {P:Program} {ops:Array Oper} {Q:Exit->Act->World->Prop} {S:World->Prop} {id:Nat} {a:Act} {w:World} (z:Nat) (hm:P.follows .mixedOrders=true)
  (h:J8 P .any ops Q S z ops.size (Array.replicate ops.size false) a w.drew):(Code.region id ops true).wpIn Fence.wide n P Q a w:=by
 rw[wpIn_wide];exact rZ z hm h
theorem RX {l n:Nat} {P:Program} {Q:Exit->Act->World->Prop} {o:Oper} {K:Act->World->Prop} {a:Act} {w:World} (hd:∀c,o.op≠ .defer c) (h:o.wp P a w K Q):o.wpIn (Fence.wide.inRound l) n P a w K Q:=by
 refine⟨fun _ _=>trivial,?_⟩;rw[Oper.semAt_eq _ _ _ hd];unfold Oper.wp at h;generalize(execOp a.eval o).run P w=r at*;cases r with
 |ok x w'=>
  cases x<;>simp only[Oper.upon,Oper.uponIn]at h ⊢ <;>first
   |exact h
   |exact⟨fun h=>by simp[Fence.wide]at h,CallsIn.inRound l (callsIn_wide.2 (h.mono fun e w'' he=>by cases e<;>first |exact he|exact he.elim))⟩
   |exact⟨fun h=>by simp[Fence.wide]at h,RowsIn.mono (I6 h) fun _ _ he=>he⟩
   |exact h.elim
 |halt x w'=>cases x<;>simp only[Oper.upon,Oper.uponIn]at h ⊢ <;>first |exact h|exact h.elim
theorem jB {l n9:Nat} {P:Program} {w0 w:World} {As:List aZ} {ops:Array Oper} {rest:List Oper} {o:Oper} {a:Act} {Q:Exit->Act->World->Prop} (k:Nat) (hgd:o.guard=none) (s x:Operand) (t:TypeId)
  (ho:o.op= .call {callee:=.builtin .append,args:=#[s,x],argTypes:=#[t,t]})
  (e:TypeId) (i:TypeInfo) (z:Value) (size bytes:Nat) (ht:P.underlying t=some (.slice e)) (hi:P.info? e=some i) (hz:i.zero=some z)
  (hsize:i.size=size) (hby:i.bytes=bytes) (hzs:z.cells.size=size) (hsz:0<size)
  (hS:Sep w0 w As) (v:Value) (n:Nat) (cs:List Value) (hk:As[k]? =some (.sl e size v n cs)) (hs:a.eval s=v)
  (xv:Value) (m:Nat) (news:List Value) (hx:a.eval x=xv) (hr:Rd w size xv m news) (h1:∀u∈news,u.oneCell'=true)
  (h63:n+m<=maxLen) (hbytes:(n+m)*bytes<=140737488355328)
  (h:∀v' w',Sep w0 w' (As.set k (.sl e size v' (n+m) (cs++news)))->w.heap.size<=w'.heap.size->wpListIn (Fence.wide.inRound l) n9 P ops Q rest (a.put o.dst v') w'):
  wpListIn (Fence.wide.inRound l) n9 P ops Q (o::rest) a w:=by
 have hw:Region.wanted o (yielded ops a.tmps)=true:=by simp[Region.wanted,hgd]
 unfold wpListIn;rw[if_pos hw];exact RX (fun c e=>by rw[ho]at e;cases e) (pK k s x t ho e i z size bytes ht hi hz hsize hby hzs hsz hS v n cs hk hs xv m news hx hr h1 h63 hbytes h)
end Go.Proofs.YtmjomdkleikgbaaGreat
