/- Parts. -/
import Derived.Test.YtmjomdkleikgbaaGreatJ32
import Derived.Shelf.Spec.SlicesInsertGrow
set_option linter.unusedVariables false
set_option linter.unusedSimpArgs false
set_option linter.unusedSectionVars false
set_option maxRecDepth 100000
set_option maxHeartbeats 20000000
namespace Go.Proofs.YtmjomdkleikgbaaGreat
open Go.RowKit
theorem alG {Ns:List TN} {n:TN}:n∈kV Ns↔n∈Ns:=(mJ Ns).mem_iff
def BH (a b:TN):Prop:=Op.bytesLess a.path b.path=true
theorem aiD {p:List UInt8}:∀ {xs:List TN} {j:Nat} {m:TN},j<IC xs p->xs[j]? =some m->Op.bytesLess m.path p=true
 |[],j,m,h,_=>by simp[IC]at h
 |x::xs,j,m,h,hj=>by
  unfold IC at h;rw[List.takeWhile_cons]at h;split at h
  ·rename_i hx;cases j with
   |zero=>cases hj;exact hx
   |succ j=>exact aiD (xs:=xs) (j:=j) (by unfold IC;simpa using h) (by simpa using hj)
  simp at h
theorem atQ {p:List UInt8} {xs:List TN} {m:TN} (h:xs[IC xs p]? =some m):Op.bytesLess m.path p=false:=by
 unfold IC at h
 induction xs with
 |nil=>simp at h
 |cons x xs ih=>
  rw[List.takeWhile_cons]at h;cases hx:Op.bytesLess x.path p with
  |true=>rw[hx]at h;simp only[if_true,kM,gC]at h;exact ih h
  |false=>rw[hx]at h;simp at h;subst h;exact hx
theorem acH {xs:List TN} {n:TN} (hs:xs.Pairwise BH) (hn:∀m∈xs,m.path≠n.path):(ak9 xs n).Pairwise BH:=by
 unfold ak9;have h1:=hs;rw[<-DC (IC xs n.path) xs,M9]at h1;obtain⟨ha,hb,hc⟩:=h1;have hlo:∀a∈xs.take (IC xs n.path),BH a n:=fun a h=>by
  obtain⟨j,hj⟩:=List.mem_iff_getElem?.1 h;rw[uU]at hj;split at hj
  ·rename_i hjl;exact aiD hjl hj
  cases hj
 have hhi:∀b∈xs.drop (IC xs n.path),BH n b:=fun b h=>by
  cases hd:xs.drop (IC xs n.path)with
  |nil=>rw[hd]at h;cases h
  |cons c l=>
   (have hc0:xs[IC xs n.path]? =some c:=by(have h9:(xs.drop (IC xs n.path))[0]? =some c:=by rw[hd];rfl);rw[zP]at h9;exact h9);have hcn:BH n c:=QD (atQ hc0) (hn c (gG hc0));rw[hd]at h hb;rcases jU.1 h with rfl|h
   ·exact hcn
   exact pO hcn ((List.pairwise_cons.1 hb).1 b h)
 rw[M9];refine⟨ha,?_,fun a h1 b h2=>?_⟩
 ·rw[List.pairwise_cons];exact⟨hhi,hb⟩
 rcases jU.1 h2 with rfl|h2
 ·exact hlo a h1
 exact hc a h1 b h2
theorem sI {ns:List TN} (h:ns.Pairwise fun a b=>a.path≠b.path):(kV ns).Pairwise BH:=by revert h;refine pU (P:=fun ns=>ns.Pairwise (fun a b=>a.path≠b.path)->(kV ns).Pairwise BH) (fun _=>List.Pairwise.nil) (fun xs x ih h=>?_) ns;rw[M9]at h;rw[QJ];exact acH (ih h.1) fun m hm=>h.2.2 m ((mJ xs).mem_iff.1 hm) x bK
structure K8 (Ns:List TN):Prop where
 ne:Ns.Pairwise fun a b=>a.path≠b.path
 valid:∀n∈Ns,aU n.path=true
 up:∀n∈Ns,bA n.path=[]\/∃m∈Ns,m.path=bA n.path/\m.file= -1
 file:∀n∈Ns,(n.file= -1/\gV n.mode=true)\/(0<=n.file/\n.mode=0)
theorem EW (ids:List Int) (n:TN):(lC ids n).path=n.path:=by unfold lC;split<;>rfl
def ren (r:Int->Int) (n:TN):TN:=if n.file<0 then n else⟨n.path,r n.file,n.mode⟩
theorem BI (r:Int->Int) (n:TN):(ren r n).path=n.path:=by unfold ren;split<;>rfl
theorem aiE {r:Int->Int} {n:TN} (h:n.file<0):ren r n=n:=by unfold ren;rw[if_pos h]
structure Alike (r:Int->Int) (Ms:List TN) (F:List TF) (Ns:List TN) (G:List TF):Prop where
 perm:Ms.Perm (Ns.map (ren r))
 file:∀n∈Ns,¬n.file<0->0<=r n.file/\r n.file<F.length/\nQ F (r n.file)=nQ G n.file
 inj:∀n∈Ns,∀m∈Ns,¬n.file<0->¬m.file<0->r n.file=r m.file->n.file=m.file
theorem J2 {xs ys:List TN} (hx:xs.Pairwise BH) (hy:ys.Pairwise BH) (hp:xs.Perm ys):xs=ys:=by refine List.Perm.eq_of_pairwise (le:=BH) (fun a b _ _ h1 h2=>?_) hx hy hp;have:=pO h1 h2;rw[lZ]at this;cases this
theorem VG {α β:Type} [BEq α] [LawfulBEq α] [BEq β] [LawfulBEq β] {r:α->β}:∀ {l:List α} {a:α},(∀b∈l,r b=r a->b=a)->(l.map r).idxOf (r a)=l.idxOf a
 |[],_,_=>rfl
 |b::l,a,h=>by
  rw[jW,List.idxOf_cons,List.idxOf_cons];by_cases e:b=a
  ·subst e;simp
  (have e2:¬r b=r a:=fun e2=>e (h b mO e2));rw[beq_false_of_ne e,beq_false_of_ne e2,VG fun c hc=>h c (vD _ hc)]
theorem acI {α β:Type} {r:α->β} {l:List α} {a:α} (h:∀b∈l,r b=r a->b=a):r a∈l.map r↔a∈l:=by rw[List.mem_map];exact⟨fun⟨b,hb,e⟩=>h b hb e▸hb,fun ha=>⟨a,ha,rfl⟩⟩
section
variable {r:Int->Int} {Ms Ns:List TN} {F G:List TF}
theorem atS {Xs:List TN} (hs:∀n∈Xs,n∈Ns) (h:Alike r Ms F Ns G):fP (Xs.map (ren r))=(fP Xs).map r:=by
 revert hs;refine pU (P:=fun Xs=>(∀n∈Xs,n∈Ns)->fP (Xs.map (ren r))=(fP Xs).map r) (fun _=>rfl) (fun xs x ih hs=>?_) Xs;have ih:=ih fun n hn=>hs n (uT _ hn)
 have hx:=hs x bK;rw[mM,LB,kU,kU,ih];by_cases hf:x.file<0
 ·rw[aiE hf,if_pos hf,if_pos hf]
 have h0:=(h.file x hx hf).1;have e1:(ren r x).file=r x.file:=by unfold ren;rw[if_neg hf]
 rw[e1,if_neg hf,if_neg aI];have hm:r x.file∈(fP xs).map r↔x.file∈fP xs:=acI fun b hb e=>by obtain⟨n,hn,h1,h2⟩:=CW _ b hb;rw[<-h1]at e ⊢;exact h.inj n (hs n (uT _ hn)) x hx h2 hf e
 by_cases h2:x.file∈fP xs
 ·rw[if_pos h2,if_pos (hm.2 h2)]
 rw[if_neg h2,if_neg (fun e=>h2 (hm.1 e)),mM];rfl
theorem alH (h:Alike r Ms F Ns G) (hne:Ns.Pairwise fun a b=>a.path≠b.path):kV Ms=(kV Ns).map (ren r):=by
 have aGY:(Ns.map (ren r)).Pairwise fun a b=>a.path≠b.path:=by rw[FJ];exact hne.imp fun {a b} e=>by rw[BI,BI];exact e
 have aGZ:Ms.Pairwise fun a b=>a.path≠b.path:=h.perm.symm.pairwise aGY fun {a b} h e=>h e.symm
 refine J2 (sI aGZ) ?_ ((mJ Ms).trans (h.perm.trans ((mJ Ns).symm.map _)));rw[FJ];refine(sI hne).imp fun {a b} e=>?_
 unfold BH;rw[BI,BI];exact e
theorem alI (h:Alike r Ms F Ns G) (hne:Ns.Pairwise fun a b=>a.path≠b.path):dnT Ms=dnT Ns/\YW Ms F=YW Ns G:=by
 have hmem:∀n∈kV Ns,n∈Ns:=fun n hn=>alG.1 hn
 unfold dnT YW;rw[alH h hne,atS hmem h,qU,qU];constructor
 ·apply vW;intro n hn;(show lC ((fP (kV Ns)).map r) (ren r n)=_);by_cases hf:n.file<0
  ·rw[aiE hf];unfold lC;rw[if_pos hf,if_pos hf]
  have h0:=(h.file n (hmem n hn) hf).1;unfold lC;(have e1:(ren r n).file=r n.file:=by unfold ren;rw[if_neg hf]);(have e2:(ren r n).mode=n.mode:=by unfold ren;rw[if_neg hf]);rw[e1,if_neg aI,if_neg hf,BI,e2,VG fun b hb e=>?_];obtain⟨m,hm,h1,h2⟩:=CW _ b hb;rw[<-h1]at e ⊢;exact h.inj m (hmem m hm) n (hmem n hn) h2 hf e
 apply vW;intro id hid;obtain⟨n,hn,h1,h2⟩:=CW _ id hid;rw[<-h1];exact(h.file n (hmem n hn) h2).2.2
end
abbrev TR :=List TN×List TF
def toF (f:FT):TF:=⟨f.mode,f.bs⟩
def tfs (fs:List FT):List TF:=fs.map toF
structure aBN (ns:List TN) (G:List TF):Prop where
 good:K8 ns
 few:ns.length<=256
 file:∀n∈ns,¬n.file<0->n.file<G.length/\(nQ G n.file).size<=8192/\gV (nQ G n.file).mode=true
structure acJ (T:TR) (ns:List TN) (fs:List FT):Prop where
 good:aBN ns (tfs fs)
 eq:T=(dnT ns,YW ns (tfs fs))
theorem VH {α β:Type} {f:α->β}:∀ {xs:List α} {l:List β},l.Perm (xs.map f)->∃ys:List α,ys.Perm xs/\ys.map f=l
 |[],l,h=>⟨[],.refl _,(List.perm_nil.1 h).symm⟩
 |x::xs,l,h=>by have hm:f x∈l:=h.mem_iff.2 bK;obtain⟨a,b,rfl⟩:=ag8 hm;have h2:(a++b).Perm (xs.map f):=List.Perm.cons_inv (lN.symm.trans h);obtain⟨ys,h3,h4⟩:=VH h2;obtain⟨ya,yb,rfl,e1,e2⟩:=List.map_eq_append_iff.1 h4;exact⟨ya++x::yb,lN.trans (h3.cons x),by rw[mM,jW,e1,e2]⟩
theorem CX {α:Type} [DecidableEq α]:∀ {l m:List α},l.Nodup->(∀x∈l,x∈m)->l.length<=m.length
 |[],m,_,_=>fZ _
 |a::l,m,hn,hs=>by
  rw[wK]at hn;obtain⟨s,t,rfl⟩:=ag8 (hs a mO);have:=CX (l:=l) (m:=s++t) hn.2 fun x hx=>by
   have h1:=hs x (vD _ hx);rw[iM,jU]at h1;rw[iM];rcases h1 with h1|h1|h1
   ·exact .inl h1
   ·subst h1;exact absurd hx hn.1
   exact .inr h1
  simp only[jJ,kM]at this ⊢;omega
def uL (V:List TN):List Key:=(V.filter fun n=>decide (n.file= -1)).map aZ
theorem alJ (V W:List TN):uL (V++W)=uL V++uL W:=by unfold uL;rw[FH,mM]
structure nD (ns V:List TN) (T P:List Key):Prop where
 todo:(T++P).Perm ([]::uL V)
 kids:V.Perm (P.flatMap (eB ns))
 nodup:P.Nodup
theorem nD.start (ns:List TN):nD ns [] [[]] []:=⟨.refl _,.refl _,TL⟩
theorem afW (n:TN):aZ n≠[]:=gP _
theorem xG {ns:List TN} {K:Key} {n:TN}:n∈eB ns K↔n∈ns/\(aZ n).dropLast=K:=by unfold eB;rw[List.mem_filter];simp
section
variable {ns V:List TN} {T P:List Key}
theorem nD.sub (h:nD ns V T P) {n:TN} (hn:n∈V):n∈ns:=by have:=h.kids.mem_iff.1 hn;obtain⟨K,_,h2⟩:=List.mem_flatMap.1 this;exact(xG.1 h2).1
theorem nD.uniq (h:nD ns V T P) (hu:(ns.map aZ).Nodup):(V.map aZ).Nodup:=by
 refine(h.kids.map aZ).nodup_iff.2 ?_;have hnd:=h.nodup;clear h
 induction P with
 |nil=>exact TL
 |cons K P ih=>
  rw[wK]at hnd;rw[wJ,mM,uW];refine⟨?_,ih hnd.2,fun a ha b hb e=>?_⟩
  ·unfold eB;exact List.Sublist.nodup (ZJ _ FO) hu
  obtain⟨n,hn,rfl⟩:=List.mem_map.1 ha;obtain⟨m,hm,rfl⟩:=List.mem_map.1 hb;obtain⟨L,hL,hm2⟩:=List.mem_flatMap.1 hm;have h1:=(xG.1 hn).2;have h2:=(xG.1 hm2).2;rw[e,h2]at h1;subst h1;exact hnd.1 hL
theorem acK (h:(V.map aZ).Nodup):([]::uL V).Nodup:=by
 rw[wK];refine⟨fun hm=>?_,?_⟩
 ·obtain⟨n,_,e⟩:=List.mem_map.1 hm;exact afW n e
 unfold uL;exact List.Sublist.nodup (ZJ _ FO) h
theorem nD.all (h:nD ns V T P) (hu:(ns.map aZ).Nodup):(T++P).Nodup:=h.todo.nodup_iff.2 (acK (h.uniq hu))
theorem nD.next {K:Key} (h:nD ns V (T++[K]) P) (hu:(ns.map aZ).Nodup) {ks:List TN} (hk:ks.Perm (eB ns K)):nD ns (V++ks) (T++uL ks) (P++[K]):=by
 have ha:=h.all hu;refine⟨?_,?_,?_⟩
 ·rw[alJ,<-kN];(have h1:(T++uL ks++(P++[K])).Perm ((T++[K]++P)++uL ks):=by rw[nT,nT,nT];refine adY T ?_;refine NB.trans ?_;rw[<-nT];exact(NB (l₁:=P) (l₂:=[K])).append_right _);exact h1.trans (h.todo.append_right _)
 ·rw[WE,List.flatMap_singleton];exact h.kids.append hk
 rw[uW];refine⟨h.nodup,by simp,fun a ha' b hb e=>?_⟩;rw[rW]at hb;subst hb;subst e;rw[nT]at ha;have h3:=(uW.1 ha).2.1;rw[List.singleton_append,wK]at h3;exact h3.1 ha'
theorem nD.isDir (h:nD ns V T P) {K:Key} (hK:K∈T++P):dI ns K:=by
 have:=h.todo.mem_iff.1 hK;rcases jU.1 this with e|e
 ·exact .inl e
 obtain⟨n,hn,e2⟩:=List.mem_map.1 e;rw[List.mem_filter]at hn;exact .inr ⟨n,h.sub hn.1,e2,by simpa using hn.2⟩
theorem nD.few (h:nD ns V T P) (hu:(ns.map aZ).Nodup):T.length+P.length<=ns.length+1:=by
 have h1:=h.todo.length_eq;have h2:(V.map aZ).length<=(ns.map aZ).length:=CX (h.uniq hu) fun x hx=>by obtain⟨n,hn,e⟩:=List.mem_map.1 hx;exact List.mem_map.2 ⟨n,h.sub hn,e⟩
 have h3:(uL V).length<=V.length:=by unfold uL;rw[iT];exact RG _ _
 rw[jJ,kM]at h1;rw[iT,iT]at h2;omega
theorem nD.len (h:nD ns V T P) (hu:(ns.map aZ).Nodup):V.length<=ns.length:=by
 have h2:(V.map aZ).length<=(ns.map aZ).length:=CX (h.uniq hu) fun x hx=>by obtain⟨n,hn,e⟩:=List.mem_map.1 hx;exact List.mem_map.2 ⟨n,h.sub hn,e⟩
 rw[iT,iT]at h2;exact h2
theorem nD.done (h:nD ns V [] P) (hu:(ns.map aZ).Nodup) (hup:∀n∈ns,dI ns (aZ n).dropLast):V.Perm ns:=by
 have key:∀(k:Nat) (n:TN),n∈ns->(aZ n).length<=k->n∈V:=fun k=>by
  induction k with
  |zero=>intro n hn hk;have:=List.length_pos_iff.2 (afW n);omega
  |succ k ih=>
   intro n hn hk;have hP:(aZ n).dropLast∈P:=by
    have hd:(aZ n).dropLast∈[]::uL V:=by
     rcases hup n hn with e|⟨m,hm,e,hf⟩
     ·rw[e];exact mO
     have h1:=ih m hm (by rw[e,YY];omega);refine vD _ (List.mem_map.2 ⟨m,List.mem_filter.2 ⟨h1,by simp[hf]⟩,e⟩)
    have:=h.todo.mem_iff.2 hd;simpa using this
   exact h.kids.mem_iff.2 (List.mem_flatMap.2 ⟨_,hP,xG.2 ⟨hn,rfl⟩⟩)
 have nod:∀ {l:List TN},(l.map aZ).Nodup->l.Nodup:=fun {l} hl=>by rw[List.Nodup,FJ]at hl;exact hl.imp fun {a b} e1 e2=>e1 (by rw[e2])
 exact(am3 (nod (h.uniq hu)) (nod hu)).2 fun n=>⟨fun hn=>h.sub hn,fun hn=>key _ n hn (iU _)⟩
end
def YI (d x:List UInt8):List UInt8:=if d=[]then x else d++47::x
theorem apU {n:TN} {d:List UInt8} (h:(aZ n).dropLast=SH d):YI d ((aZ n).getLastD [])=n.path:=by
 unfold aZ at*;rcases mI n.path with⟨_,_,h1⟩|⟨a,b,e,_,_,h1⟩
 ·rw[h1]at h ⊢;have hd:d=[]:=by
   by_cases e:d=[]
   ·exact e
   unfold SH at h;rw[if_neg e]at h;exact absurd h.symm (gP d)
  rw[hd];rfl
 rw[h1,YZ]at h;have hd:¬d=[]:=fun e=>by rw[e]at h;exact gP a h
 unfold SH at h;rw[if_neg hd]at h;have:=uJ _ (iU _) h;unfold YI;rw[if_neg hd,h1,e,this];simp
def fA (V:List TN):List TN:=V.map (lC (fP V))
def fG (V:List TN) (fs:List FT):List TF:=(fP V).map (nQ (tfs fs))
theorem afX {V ns:List TN} (hp:V.Perm ns) (fs:List FT):Alike (fun i=>((fP V).idxOf i:Nat)) (fA V) (fG V fs) ns (tfs fs):=by
 refine⟨hp.map _,fun n hn hf=>?_,fun n hn m hm hf hg e=>?_⟩
 ·have hm:=uK _ n (hp.mem_iff.2 hn) hf;have hl:=List.idxOf_lt_length_iff.2 hm;refine⟨by omega,?_,?_⟩
  ·unfold fG;rw[iT];exact Int.ofNat_lt.2 hl
  unfold fG;show nQ _ ((List.idxOf n.file (fP V):Nat):Int)=_
  conv=>lhs;unfold nQ
  rw[gH,lM,kX,gE hl,ZH hl];rfl
 have hm1:=uK _ n (hp.mem_iff.2 hn) hf;have hm2:=uK _ m (hp.mem_iff.2 hm) hg;have e2:(fP V).idxOf n.file=(fP V).idxOf m.file:=Int.ofNat.inj e;have h1:=ZH (List.idxOf_lt_length_iff.2 hm1);have h2:=ZH (List.idxOf_lt_length_iff.2 hm2);rw[<-h1,<-h2];simp only[e2]
theorem apV {T:TR} {ns V:List TN} {fs:List FT} (h:acJ T ns fs) (hp:V.Perm ns):(dnT (fA V),YW (fA V) (fG V fs))=T:=by obtain⟨h1,h2⟩:=alI (afX hp fs) h.good.good.ne;rw[h1,h2,h.eq]
section
variable {ns:List TN} {F:List TF}
theorem good_start (ho:gQ ns F):K8 ns:=by
 refine⟨ho.ne,fun n hn=>(ho.mem hn).1,fun n hn=>?_,fun n hn=>?_⟩
 ·obtain⟨i,hi⟩:=List.mem_iff_getElem?.1 hn;obtain⟨_,_,h1,_⟩:=ho.at_ hi;by_cases h0:bA n.path=[]
  ·exact .inl h0
  have gen:∀(pre:List TN) (p:List UInt8),p≠[]->pM pre p=1->∃m∈pre,m.path=p/\m.file= -1:=fun pre p hp=>by
   refine pU (P:=fun pre=>pM pre p=1->∃m∈pre,m.path=p/\m.file= -1) ?_ ?_ pre
   ·intro h;unfold pM at h;simp[hp]at h
   intro xs x ih h;rw[uI]at h;by_cases e:x.path=p
   ·rw[if_pos e]at h;split at h
    ·rename_i hf;exact⟨x,by simp,e,hf⟩
    cases h
   rw[if_neg e]at h;obtain⟨m,hm,h2⟩:=ih h;exact⟨m,uT _ hm,h2⟩
  obtain⟨m,hm,h2⟩:=gen _ _ h0 h1;exact .inr ⟨m,DD hm,h2⟩
 obtain⟨_,h2,_,h3,h4⟩:=ho.mem hn;by_cases e:n.file= -1
 ·exact .inl ⟨e,h3 e⟩
 exact .inr ⟨by omega,h4 e⟩
theorem VJ (ho:gQ ns F):∀i,i<=ns.length->∀m,runK ns i=some m->fP (ns.take i)=(List.range m).map fun(v:Nat)=>(v:Int):=by
 intro i
 induction i with
 |zero=>intro _ m h;cases h;rfl
 |succ i ih=>
  intro hi m h;have hn:ns[i]? =some ns[i]:=gE aI;obtain⟨k,h1,h2,_⟩:=QF h i aI _ hn;rw[qK h1 hn,h2,if_pos rfl]at h;cases h;have ih2:=ih aI k h1;rw[pX,hn];(show fP (ns.take i++[ns[i]])=_);rw[kU,ih2];obtain⟨_,_,_,d1,d2,_⟩:=pQ h2;unfold gK;by_cases hneg:ns[i].file<0
  ·rw[if_pos hneg,if_neg aI]
  rw[if_neg hneg];by_cases hk:ns[i].file=(k:Int)
  ·rw[if_pos hk,if_neg,M7,mM,hk]
   ·rfl
   rw[hk];intro hm;obtain⟨v,hv,e⟩:=List.mem_map.1 hm;rw[List.mem_range]at hv;omega
  rw[if_neg hk,if_pos];exact List.mem_map.2 ⟨ns[i].file.toNat,List.mem_range.2 aI,by omega⟩
theorem atU (ho:gQ ns F):dnT ns=ns/\YW ns F=F:=by
 have hsrt:kV ns=ns:=J2 (sI ho.ne) ho.up (mJ ns);have hid:=VJ ho ns.length (iU _) F.length ho.run;rw[RI]at hid;constructor
 ·unfold dnT;rw[hsrt,hid]
  conv=>rhs;rw[<-List.map_id ns]
  apply vW;intro n hn;unfold lC;by_cases hneg:n.file<0
  ·rw[if_pos hneg];rfl
  rw[if_neg hneg];obtain⟨_,h2,h3,_⟩:=ho.mem hn;obtain⟨k,hk⟩:∃k:Nat,n.file=k:=⟨n.file.toNat,by omega⟩;(have hkl:k<F.length:=by omega);(have:((List.range F.length).map fun(v:Nat)=>(v:Int)).idxOf n.file=k:=by rw[hk];have hnd:((List.range F.length).map fun(v:Nat)=>(v:Int)).Nodup:=FJ.2 (List.nodup_range.imp fun h=>by omega);have h1:=hnd.idxOf_getElem k (by simpa using hkl);simp only[WH,ag7]at h1;exact h1);rw[this,<-hk];rfl
 unfold YW;rw[hsrt,hid,qU];apply TK
 ·simp
 intro k h1 h2;rw[WH,ag7];show nQ F (k:Int)=_
 unfold nQ;rw[gH,lM,gE h2];rfl
theorem afY {fs:List FT} (ho:gQ ns (tfs fs)):acJ (ns,tfs fs) ns fs:=by
 have hd:=atU ho;refine⟨⟨good_start ho,ho.few,fun n hn hf=>?_⟩,by rw[hd.1,hd.2]⟩;obtain⟨_,_,h3,_⟩:=ho.mem hn;have hl:n.file.toNat<(tfs fs).length:=by omega
 have e:nQ (tfs fs) n.file=(tfs fs)[n.file.toNat]:=by unfold nQ;rw[gH,gE hl];rfl
 rw[e];exact⟨h3,ho.size _ (nJ _),ho.aiC _ (nJ _)⟩
end
def kY (v:Value) (T:List (List UInt8)):aV:=.sl 9 1 v T.length (T.map aC)
theorem alK :(Tryz.prog.info? 9).map (fun i=>(i.zero,i.size,i.bytes))=some (some (.string ⟨#[]⟩),1,16):=by kernel_rfl
section
variable {w0 w:World} {R:List aV} {b:Nat} {v:Value} {T:List (List UInt8)}
theorem acL {x:List UInt8} (h:Sep w0 w (.box b 181 #[v]::kY v T::R)) (hT:T.length<=1000):
  Calls Tryz.prog 131 #[pV b,aC x] w fun e w'=>e= .returned (.tuple #[])/\∃v',Sep w0 w' (.box b 181 #[v']::kY v' (T++[x])::R):=by
 obtain⟨k0,hif,hk0,hk1,hk2⟩:=iN alK;obtain⟨A,c,rfl,_⟩:=h.gT 1 rfl;have c0:=h.bC 0 rfl 0;simp only[gA,gB]at c0;have hS:=Lh (h.alloc (.cells #[aC x] 9));have hlen:(T.map aC).length=T.length:=iT _;have hrd:Hid (Rd (w.alloc (.cells #[aC x] 9)) 1 (sV w.heap.size 1 1) 1 [aC x]):=Lh ⟨rfl,_,_,rfl,iU _,by unfold maxLen;omega,fun _=>⟨_,rfl,by rw[World.size_alloc];exact IX _,jH w #[aC x] 9 _ rfl⟩⟩;clear h hlen;unfold aC at*;go_enter Tryz.func131,Tryz.ntmps131;go_wp2_with(at_builtin;refine dH 1 rfl _ _ 73 rfl 9 k0 _ 1 16 Tryz.underlying73 hif hk0 hk1 hk2 rfl aR hS.out _ T.length _ rfl rfl (sV w.heap.size 1 1) 1 _ rfl hrd.out oCl vE aI ?_;intro v3 w3 eZ hz3;(obtain⟨A3,c3,e3,_⟩:=eZ.gT 1 rfl);subst e3;(have d0:=eZ.bC 0 rfl 0);(have d1:=eZ.bF 0 rfl 0);simp only[gA,gB]at d0;(have lX:=Lh (eZ.bS 0 rfl 0 (.slice A3 (T.length+1) c3)));clear eZ)
 go_end0
 refine⟨rfl,.slice A3 (T.length+1) c3,?_⟩;have e:kY (.slice A3 (T.length+1) c3) (T++[x])= .sl 9 1 (.slice A3 (T.length+1) c3) (T.length+1) (T.map aC++[aC x]):=by unfold kY;rw[mM,jJ];rfl
 rw[e];exact lX.out
theorem apW (h:Sep w0 w (.box b 181 #[v]::kY v []::R)):
  Calls Tryz.prog 132 #[pV b] w fun e w'=>e= .returned (.tuple #[aC [],.bool false])/\w'=w:=by
 obtain⟨A,c,rfl,_⟩:=h.gT 1 rfl;have c0:=h.bC 0 rfl 0;simp only[gA,gB]at c0;clear h;unfold aC at*;go_enter Tryz.func132,Tryz.ntmps132;go_wp2_with fail;refine bodyPost_ret (v:=.tuple #[.string ⟨#[]⟩,.bool false]) (by simp[results,Tryz.f132,go_sem]) rfl ?_;exact⟨rfl,rfl⟩
theorem atV {x:List UInt8} (h:Sep w0 w (.box b 181 #[v]::kY v (T++[x])::R)) (hT:T.length<=1000):
  Calls Tryz.prog 132 #[pV b] w fun e w'=>e= .returned (.tuple #[aC x,.bool true])/\∃v',Sep w0 w' (.box b 181 #[v']::kY v' T::R):=by
 have hl:(T++[x]).length=T.length+1:=by rw[jJ];rfl
 unfold kY at h;rw[hl]at h;obtain⟨g,c,rfl,_,_,hcc,hcm⟩:=h.jX 1 rfl (Nat.succ_pos _);have c0:=h.bC 0 rfl 0;have c1:=h.cellAt 1 rfl T.length aI;have e1:((T++[x]).map aC)[T.length]? =some (aC x):=by simp
 rw[e1]at c1;simp only[gA,gB]at c0;have h2:=h.ad1 1 rfl T.length aI;have e2:((T++[x]).map aC).take (T.length*1)=T.map aC:=by rw[yL,mM,List.take_left'];exact iT _
 rw[e2]at h2;obtain⟨N,hN⟩:∃N,N=T.length:=⟨_,rfl⟩;rw[<-hN]at c0 c1 hT hcc;have b1:(N:Int)<=1000:=by omega
 have b2:(0:Int)<=(N:Int):=by omega
 have b3:(N:Int)<(N:Int)+1:=by omega
 have b4:(N:Int)+1-1=(N:Int):=by omega
 have b5:(N:Int)<=(c:Int):=by omega
 have b6:IntKind.i64.wrap (N:Int)=(N:Int):=by rw[IntKind.wrap_i64];omega
 have hb3:=Lh h2;replace hN:=Lh hN;have hfz:=fun m=>(h2.drewN m).bF 0 rfl 0
 have hcz:=fun m=>(h2.drewN m).bC 0 rfl 0
 clear h h2 e1 e2 hl;unfold aC at*;go_enter Tryz.func132,Tryz.ntmps132;go_wp2_with fail;refine aO (S:=fun w'=>w'.cell? ⟨b,0,none⟩=some (sV g (N+1) c)/\w'.cell? ⟨g,N,none⟩=some (.string ⟨x.toArray⟩)) 12 ?_;have hS0:w.drew.cell? ⟨b,0,none⟩=some (sV g (N+1) c)/\w.drew.cell? ⟨g,N,none⟩=some (.string ⟨x.toArray⟩):=⟨c0,c1⟩;refine aA 0 hS0 ?_;refine aA 1 hS0 ?_;refine aA 2 hS0 ?_;refine aA 3 hS0 ?_;refine aA 4 hS0 ?_;refine aA 5 hS0 ?_;refine aA 6 hS0 ?_;refine aA 7 hS0 ?_;refine aA 8 hS0 ?_;refine aA 9 hS0 ?_;refine aA 10 hS0 ?_;refine aA 11 hS0 ?_;refine bG 12 (fun _=>hS0) ?_;refine aS fT ?_ _;go_wp2_with fail;have aNK:w.drew.drew.frozen? ⟨b,0,none⟩=false:=hfz 2;have hS1:w.drew.drew.cell? ⟨b,0,none⟩=some (sV g (N+1) c):=c0;refine aO (S:=fun w'=>w'.cell? ⟨b,0,none⟩=some (sV g (N+1) c)) 14 ?_;refine aA 0 hS1 ?_;refine aA 1 hS1 ?_;refine aA 2 hS1 ?_;refine aA 3 hS1 ?_;refine aA 4 hS1 ?_;refine aA 5 hS1 ?_;refine aA 6 hS1 ?_;refine aA 7 hS1 ?_;refine aA 8 hS1 ?_;refine aA 9 hS1 ?_;refine aA 10 hS1 ?_;refine aA 11 hS1 ?_;refine bG 12 (fun _=>hS1) ?_;refine bG 13 (fun _=>hS1) ?_;refine bG 14 (fun h=>absurd rfl h) ?_;refine aS fT ?_ _;go_wp2_with fail
 go_ret2
 refine⟨rfl,sV g N c,?_⟩;have h5:=(hb3.out.drewN 2).bS 0 rfl 0 (sV g N c);have e5:=hN.out;rw[<-e5]at h5;show Sep w0 _ (.box b 181 #[sV g N c]:: .sl 9 1 (sV g N c) T.length (T.map fun p=>.string ⟨p.toArray⟩)::R)
 rw[<-e5];exact h5
end
section
variable {w0 w:World} {R:List aV}
theorem Sep.aiG (h:Sep w0 w R) (o:Obj):Sep w0 (w.alloc o) (.obj w.heap.size o::R):=
 h.new (F:=[w.heap.size]) ((Below.refl _ _).alloc (iU _) _) ⟨heap_alloc_new w o,rfl⟩ bK
theorem acM {b:Nat} {bs:List UInt8} {fr:Nat×Nat} (hl:bs.length<=maxLen):iG w0 (.obj b (.cells (bs.map kK).toArray 5 fr)::R) (sV b bs.length bs.length) bs:=fun w' X hS=>by have h1:=hS.ab2 X.length (by rw[uS (iU _),DI];rfl);refine⟨by simp,_,_,rfl,iU _,hl,fun _=>⟨_,rfl,lt_of_heap h1,fun j u hu=>?_⟩⟩;have:=cell_of_row w' b j _ _ _ h1;rw[Addr.add_lit,I6,this];simpa using hu
end
end Go.Proofs.YtmjomdkleikgbaaGreat
namespace Go.Proofs.YtmjomdkleikgbaaGreat
open Go.RowKit Go.Shelf
attribute [local go_sem] Oper.semAt_some
def Shared {β:Type} (St:β->List aV->World->Prop):Prop:=∀s Y W,St s Y W->∃w0 R,Sep w0 W (Y++R)/\∀Y' W',Sep w0 W' (Y'++R)->St s Y' W'
section
variable {β:Type} {St:β->List aV->World->Prop} {s:β} {Y:List aV} {W:World}
theorem Shared.obj (hS:Shared St) {b:Nat} {o:Obj} (o':Obj) (h:St s (.obj b o::Y) W):W.heap[b]? =some o/\St s (.obj b o'::Y) (W.putObj b o'):=by obtain⟨w0,R,h1,h2⟩:=hS _ _ _ h;exact⟨h1.ab2 0 rfl,h2 _ _ (h1.putObj 0 o' rfl)⟩
theorem Shared.new (hS:Shared St) (h:St s Y W) (o:Obj):St s (.obj W.heap.size o::Y) (W.alloc o):=by obtain⟨w0,R,h1,h2⟩:=hS _ _ _ h;exact h2 _ _ (h1.aiG o)
theorem Shared.perm (hS:Shared St) {Y':List aV} (hp:Y.Perm Y') (h:St s Y W):St s Y' W:=by obtain⟨w0,R,h1,h2⟩:=hS _ _ _ h;exact h2 _ _ (h1.perm (hp.append_right R))
theorem Shared.drop (hS:Shared St) (n:Nat) (h:St s Y W):St s (Y.drop n) W:=by obtain⟨w0,R,h1,h2⟩:=hS _ _ _ h;refine h2 _ _ ?_;rw[<-DC n Y,nT]at h1;exact h1.snd
theorem Shared.drewN (hS:Shared St) (n:Nat) (h:St s Y W):St s Y (W.drewN n):=by obtain⟨w0,R,h1,h2⟩:=hS _ _ _ h;exact h2 _ _ (h1.drewN n)
end
theorem uM {F:Fence} {n:Nat} {P:Program} {α:Type} {g:Operand} {ps:Array Tmp} {assign body:Code} {Q:Exit->Act->World->Prop} {a:Act} {w:World}
  (hro:F.round=none) (h1:1<=n) {gf:Nat} {lb:Array Value} (hg:a.eval g= .func (.func gf) #[] lb) (hFg:F.fn gf) (eg:∀args w,(callFunc gf args).run P w= .ok (.enter gf args) w)
  {encs:α->Array Value} (hps:∀x,(encs x).size=ps.size)
  (St:List α->List aV->World->Prop) (hS:Shared St) (Y0:List aV) (h0:St [] Y0 w) (Nx:List α->α->Prop) (Sx:List α->List aV->Prop)
  (hseq:∀l Z W,(∀pre x Y W1,Nx pre x->St pre (Y++Z) W1->YieldAt F (n-1-1) P l (encs x) W1 fun e W'=>e= .returned (.bool true)/\St (pre++[x]) (Y++Z) W')->St [] (Y0++Z) W->
   CallsIn F (n-1) P gf (#[.func (.yield l) #[] #[]]++lb) W fun e W'=>(∃v,e= .returned v)/\∃xs Y1,Sx xs Y1/\St xs (Y1++Z) W')
  (Ax:List α->α->Act->List aV->World->Prop) (hA:∀pre x,Shared (Ax pre x))
  (hassign:∀(l:Nat) (pre:List α) (x:α) (Y:List aV) (W:World) (K:Act->World->Prop),Nx pre x->St pre Y W->(∀a1 W1,Ax pre x a1 Y W1->K a1 W1)->
   assign.wpIn (F.inRound l) (n-1-1) P (Exit.then K (fun _ _ _=>False)) {tmps:=(ps.zip (encs x)).foldl (fun t (p,v)=>t.setIfInBounds p v) a.tmps,defers:=[]} W)
  (hbody:∀(l:Nat) (pre:List α) (x:α) (a1:Act) (Y:List aV) (W:World),Nx pre x->Ax pre x a1 Y W->body.wpIn (F.inRound l) (n-1-1) P (fun ex _ W'=>ex= .normal/\St (pre++[x]) Y W') a1 W)
  (hdone:∀(D:Nat) (xs:List α) (Y1:List aV) (Y2:List aV) (W:World),Sx xs Y1->St xs (.obj D (.deferred (some []))::(Y1++Y2)) W->Q .normal {a with defers:= {target:=.collected D,args:=#[]}::a.defers} W):
  (Code.rangeFunc g ps assign body).wpIn F n P Q a w:=by
 refine wpIn_rangeFunc ?_;intro fn hfn;rw[hro];obtain⟨rec,hrec⟩:∃rec:LoopState->Option Code->Loop,rec=fun st pe=> {state:=st,pending:=pe,fn,tmps:=a.tmps,params:=ps,assign,body,defers:=w.heap.size}:=⟨_,rfl⟩
 obtain⟨Z,hZ⟩:∃Z:Loop->List aV,Z=fun r=>[.obj (w.heap.size+1) (.loop r),.obj w.heap.size (.deferred (some []))]:=⟨_,rfl⟩
 obtain⟨W1,hW1⟩:∃W1,(w.alloc (.deferred (some []))).alloc (.loop (rec .ready none))=W1:=⟨_,rfl⟩;have hI1:St [] (Y0++Z (rec .ready none)) W1:=by have h2:=hS.new (hS.new h0 (.deferred (some []))) (.loop (rec .ready none));rw[hW1,World.size_alloc]at h2;refine hS.perm ?_ h2;rw[hZ];exact(NB (l₁:=[_,_]) (l₂:=Y0))
 refine⟨w.heap.size+1,[{target:=.collected w.heap.size,args:=#[]}],W1,{target:=.fn (.func gf) lb,args:=#[.func (.yield (w.heap.size+1)) #[] #[]]},W1,gf,
  #[.func (.yield (w.heap.size+1)) #[] #[]]++lb,W1,?_,?_,?_,?_,fun _=>h1,?_⟩
 ·rw[<-hW1,hrec];exact run_enterLoop_outer _ _ _ _ _
 ·simp only[resolve,hg];simp[go_sem]
 ·intro f' hf';simp[Target.leads]at hf';subst hf';exact hFg
 ·simp[invoke,go_sem,eg]
 have front:∀(Y:List aV) (r:Loop),(Y++Z r).Perm (.obj (w.heap.size+1) (.loop r)::(Y++[.obj w.heap.size (.deferred (some []))])):=fun Y r=>by rw[hZ];exact lN
 have turn:∀ {β:Type} {T:β->List aV->World->Prop} (hT:Shared T) (pre:β) (Y:List aV) (W:World) (r r':Loop),T pre (Y++Z r) W->W.heap[w.heap.size+1]? =some (.loop r)/\T pre (Y++Z r') (W.putObj (w.heap.size+1) (.loop r')):=fun {β T} hT pre Y W r r' h=>by obtain⟨h2,h3⟩:=hT.obj (.loop r') (hT.perm (front Y r) h);exact⟨h2,hT.perm (front Y r').symm h3⟩
 refine(hseq (w.heap.size+1) (Z (rec .ready none)) W1 ?_ hI1).mono ?_
 ·intro pre x Y W hx hi;obtain⟨hl,_⟩:=turn hS pre Y W _ (rec .ready none) hi;have hy:=run_yield (P:=P) (args:=encs x) hl (by rw[hrec];exact hps x);rw[hrec]at hy;refine⟨fn,_,assign,body,hy,roundIn_of_wpIn hfn (hassign _ pre x _ W _ hx hi ?_)⟩;clear hy;intro a1 Wa hax;obtain⟨hl2,hb2⟩:=turn (hA pre x) a1 Y Wa _ {rec .ready none with state:=.busy} hax;refine⟨_,run_beginRound hl2 (by rw[hrec]),?_⟩;refine wpIn_mono (hbody _ pre x a1 _ _ hx hb2) ?_;rintro e a3 W3 ⟨rfl,hi3⟩;obtain⟨hl3,hb3⟩:=turn hS _ Y W3 _ (rec .ready none) hi3;have hr:=run_endRound (P:=P) none hl3;rw[hrec]at hr hb3 ⊢;exact⟨_,_,hr,rfl,hb3⟩
 rintro e W2 ⟨⟨v,rfl⟩,xs,Y1,hx,hi⟩;obtain⟨hl,h3⟩:=turn hS xs Y1 W2 _ {rec .ready none with state:=.exhausted} hi;refine⟨none,_,by have:=run_endLoop (P:=P) hl (by rw[hrec];simp);rw[hrec]at this;exact this,?_⟩;rw[hrec]at h3;exact hdone _ xs Y1 [.obj (w.heap.size+1) (.loop _)] _ hx (hS.perm (by rw[hZ];refine List.Perm.trans ?_ (Y5 _ _);rw[nT];exact .refl _) h3)
end Go.Proofs.YtmjomdkleikgbaaGreat
namespace Go.Proofs.YtmjomdkleikgbaaGreat
open Go.RowKit
theorem EC {n:Nat} {P:Program} {ops:Array Oper} {Q:Exit->Act->World->Prop} {S:World->Prop} {id:Nat} {a:Act} {w:World} (z:Nat) (hm:P.follows .mixedOrders=true)
  (h:JI P .any ops Q S z ops.size (Array.replicate ops.size false) a w.drew):(Code.region id ops true).wpIn Fence.wide n P Q a w:=by
 rw[wpIn_wide];exact AJ z hm h
theorem QL {l n:Nat} {P:Program} {Q:Exit->Act->World->Prop} {o:Oper} {K:Act->World->Prop} {a:Act} {w:World} (hd:∀c,o.op≠ .defer c) (h:o.wp P a w K Q):o.wpIn (Fence.wide.inRound l) n P a w K Q:=by
 refine⟨fun _ _=>trivial,?_⟩;rw[Oper.semAt_eq _ _ _ hd];unfold Oper.wp at h;generalize(execOp a.eval o).run P w=r at*;cases r with
 |ok x w'=>
  cases x<;>simp only[Oper.upon,Oper.uponIn]at h ⊢ <;>first
   |exact h
   |exact⟨fun h=>by simp[Fence.wide]at h,CallsIn.inRound l (callsIn_wide.2 (h.mono fun e w'' he=>by cases e<;>first |exact he|exact he.elim))⟩
   |exact⟨fun h=>by simp[Fence.wide]at h,RowsIn.mono (HZ h) fun _ _ he=>he⟩
   |exact h.elim
 |halt x w'=>cases x<;>simp only[Oper.upon,Oper.uponIn]at h ⊢ <;>first |exact h|exact h.elim
theorem iZ {l n9:Nat} {P:Program} {w0 w:World} {As:List aV} {ops:Array Oper} {rest:List Oper} {o:Oper} {a:Act} {Q:Exit->Act->World->Prop} (k:Nat) (hgd:o.guard=none) (s x:Operand) (t:TypeId)
  (ho:o.op= .call {callee:=.builtin .append,args:=#[s,x],argTypes:=#[t,t]})
  (e:TypeId) (i:TypeInfo) (z:Value) (size bytes:Nat) (ht:P.underlying t=some (.slice e)) (hi:P.info? e=some i) (hz:i.zero=some z)
  (hsize:i.size=size) (hby:i.bytes=bytes) (hzs:z.cells.size=size) (hsz:0<size)
  (hS:Sep w0 w As) (v:Value) (n:Nat) (cs:List Value) (hk:As[k]? =some (.sl e size v n cs)) (hs:a.eval s=v)
  (xv:Value) (m:Nat) (news:List Value) (hx:a.eval x=xv) (hr:Rd w size xv m news) (h1:∀u∈news,u.oneCell'=true)
  (h63:n+m<=maxLen) (hbytes:(n+m)*bytes<=140737488355328)
  (h:∀v' w',Sep w0 w' (As.set k (.sl e size v' (n+m) (cs++news)))->w.heap.size<=w'.heap.size->wpListIn (Fence.wide.inRound l) n9 P ops Q rest (a.put o.dst v') w'):
  wpListIn (Fence.wide.inRound l) n9 P ops Q (o::rest) a w:=by
 have hw:Region.wanted o (yielded ops a.tmps)=true:=by simp[Region.wanted,hgd]
 unfold wpListIn;rw[if_pos hw];exact QL (fun c e=>by rw[ho]at e;cases e) (oZ k s x t ho e i z size bytes ht hi hz hsize hby hzs hsz hS v n cs hk hs xv m news hx hr h1 h63 hbytes h)
end Go.Proofs.YtmjomdkleikgbaaGreat
