/- Parts. -/
import Derived.Test.YteihmbaimbogaaaGreatJ39
import Derived.Shelf.Spec.SlicesInsertGrow
set_option linter.unusedVariables false
set_option linter.unusedSimpArgs false
set_option linter.unusedSectionVars false
set_option maxRecDepth 100000
set_option maxHeartbeats 20000000
namespace Go.Proofs.YteihmbaimbogaaaGreat
open Go.RowKit
theorem av5 {Ns:List TN} {p:List UInt8} (h:uZ Ns p=true):∃n,iM Ns p=some n/\aZ Ns p=n:=by unfold uZ at h;obtain⟨n,hn⟩:=Option.isSome_iff_exists.1 h;exact⟨n,hn,by unfold aZ;rw[hn];rfl⟩
theorem acY {Ns:List TN} {p:List UInt8} (h:uZ Ns p=false):∀n∈Ns,n.path≠p:=by
 unfold uZ iM at h;intro n hn e;have h1:Ns.find? (fun n=>n.path==p)=none:=by
  cases hf:Ns.find? (fun n=>n.path==p)with
  |none=>rfl
  |some m=>rw[hf]at h;cases h
 have:=zI.1 h1 n hn;rw[e]at this;simp at this
theorem alE {Ns:List TN} {p:List UInt8} (h:bD Ns p=0):∃n,iM Ns p=some n/\AJ Ns p=n:=by
 unfold bD at h;split at h
 ·rename_i hl;split at h
  ·rename_i hh;obtain⟨n,h1,h2⟩:=av5 hh;exact⟨n,h1,by unfold AJ;rw[if_pos hl];exact h2⟩
  cases h
 rename_i hl;exact absurd h hl
theorem aqO {Ns:List TN} {p:List UInt8} (h:dI Ns p=0):uZ Ns p=false:=by
 unfold dI at h;split at h
 ·split at h
  ·cases h
  rename_i hh;simpa using hh
 rename_i hl;exact absurd h hl
def oL (Ns:List TN) (p:List UInt8):List TN:=Ns.filter fun n=> !(n.path==p)
theorem oZ {Ns:List TN} {p:List UInt8}:(oL Ns p).Sublist Ns:=Q5
theorem alF (ns:List TN) (p:List UInt8):oC ns (splitB p)=oL ns p:=by unfold oC oL;apply List.filter_congr;intro n _;congr 1;rw[aeF,rJ,rJ];exact aaJ
theorem aqP {Ns:List TN} {p:List UInt8} {k:Nat} (h:bZ Ns p (k+1)=0):bZ Ns p k=0:=by
 unfold bZ at h;split at h
 ·split at h
  ·cases h
  split at h
  ·cases h
  exact h
 exact h
theorem VP {Ns:List TN} {p:List UInt8} {k:Nat}:∀d,bZ Ns p (k+d)=0->bZ Ns p k=0
 |0,h=>h
 |d+1,h=>VP d (aqP h)
def azP (Ns:List TN) (p:List UInt8):Prop:=eY p=[]\/∃m∈Ns,m.path=eY p/\m.file= -1
theorem ahU {Ns:List TN} (hf:∀n∈Ns, -1<=n.file) {p:List UInt8} (hv:aU p=true) (h:bZ Ns p p.length=0):azP Ns p:=by
 unfold azP eY;rw[if_pos hv];rcases mW p with⟨_,h0,_⟩|⟨a,b,e,hb,hs,_⟩
 ·left;rw[h0];rfl
 right;have hl:p.length=(b.length+1)+a.length:=by rw[e];simp;omega
 rw[hl]at h;have h1:=VP _ h;rw[E8 Ns e]at h1;have ht:p.take (sG p)=a:=by rw[hs,e,aeH];rfl
 rw[ht];cases IM:iM Ns a with
 |none=>rw[IM]at h1;cases h1
 |some n=>
  rw[IM]at h1;obtain⟨m1,m2⟩:=kR IM;have:=hf n m1;by_cases h9:0<=n.file
  ·simp only at h1;rw[if_pos h9]at h1;cases h1
  exact⟨n,m1,m2,by omega⟩
section
variable {Ns:List TN}
theorem pE.I5 (h:pE Ns):∀n∈Ns, -1<=n.file:=fun n hn=>by rcases h.file n hn with⟨h1,_⟩|⟨h1,_⟩<;>omega
theorem pE.add (h:pE Ns) {n:TN} (hp:uZ Ns n.path=false) (hv:aU n.path=true) (hu:azP Ns n.path) (hf:(n.file= -1/\fQ n.mode=true)\/(0<=n.file/\n.mode=0)):pE (Ns++[n]):=by
 refine⟨?_,fun m hm=>?_,fun m hm=>?_,fun m hm=>?_⟩
 ·rw[adZ];refine⟨h.ne,by simp,fun a ha b hb=>?_⟩;(have:b=n:=by simpa using hb);subst this;exact acY hp a ha
 ·rcases gX.1 hm with hm|hm
  ·exact h.valid m hm
  (have:m=n:=by simpa using hm);subst this;exact hv
 ·rcases gX.1 hm with hm|hm
  ·rcases h.up m hm with h1|⟨x,hx,h2⟩
   ·exact .inl h1
   exact .inr ⟨x,G9 _ hx,h2⟩
  (have:m=n:=by simpa using hm);subst this;rcases hu with h1|⟨x,hx,h2⟩
  ·exact .inl h1
  exact .inr ⟨x,G9 _ hx,h2⟩
 rcases gX.1 hm with hm|hm
 ·exact h.file m hm
 have:m=n:=by simpa using hm
 subst this;exact hf
theorem xJ {p:List UInt8} {m:TN}:m∈oL Ns p↔m∈Ns/\m.path≠p:=by unfold oL;rw[List.mem_filter];simp
theorem pE.del (h:pE Ns) {n:TN} (hn:n∈Ns) (hk:n.file= -1->∀m∈Ns,eY m.path≠n.path):pE (oL Ns n.path):=by
 refine⟨h.ne.sublist oZ,fun m hm=>h.valid m (oZ.subset hm),fun m hm=>?_,fun m hm=>h.file m (oZ.subset hm)⟩;have hmN:=(xJ.1 hm).1;rcases h.up m hmN with h1|⟨x,hx,h2,h3⟩
 ·exact .inl h1
 refine .inr ⟨x,xJ.2 ⟨hx,fun e=>?_⟩,h2,h3⟩;have hxn:x=n:=by have e1:=wF h.ne hx;have e2:=wF h.ne hn;rw[e]at e1;rw[e1]at e2;cases e2;rfl
 subst hxn;exact hk h3 m hmN h2.symm
theorem aqQ (h:Ns.Pairwise fun a b=>a.path≠b.path) {n x:TN} (hn:n∈Ns) (hx:x∈Ns) (e:x.path=n.path):x=n:=by have e1:=wF h hx;have e2:=wF h hn;rw[e]at e1;rw[e1]at e2;cases e2;rfl
theorem av6 (h:Ns.Pairwise fun a b=>a.path≠b.path) {k:Nat} {n:TN} (hk:Ns[k]? =some n):oL Ns n.path=Ns.take k++Ns.drop (k+1):=by
 obtain⟨hkl,hke⟩:=gF.1 hk;have e:Ns=Ns.take k++n::Ns.drop (k+1):=by(have h1:Ns.drop k=n::Ns.drop (k+1):=by rw[WX hkl,hke]);rw[<-h1,DL]
 have h2:=h;rw[e,adZ,List.pairwise_cons]at h2;obtain⟨h3,⟨h4,h5⟩,h6⟩:=h2;unfold oL
 conv=>lhs;rw[e]
 rw[aa3,zG];have e1:(Ns.take k).filter (fun m=> !(m.path==n.path))=Ns.take k:=List.filter_eq_self.2 fun m hm=>by have:=h6 m hm n bM;simpa using this
 have e2:(Ns.drop (k+1)).filter (fun m=> !(m.path==n.path))=Ns.drop (k+1):=List.filter_eq_self.2 fun m hm=>by have:=h4 m hm;simpa using fun e=>this e.symm
 rw[e1,e2];simp
theorem alG {p:List UInt8} {n:TN} (h:iM Ns p=some n):Ns[dP Ns p]? =some n/\n.path=p/\aZ Ns p=n/\n∈Ns:=by
 rcases mE Ns p with⟨h1,_⟩|⟨k,m,h1,h2,h3,h4⟩
 ·rw[h1]at h;cases h
 rw[h]at h1;cases h1;unfold dP;rw[h3,nA];exact⟨h2,h4,by unfold aZ;rw[h];rfl,gG h2⟩
theorem set_perm {k:Nat} {n x:TN} (hk:Ns[k]? =some n):(Ns.set k x).Perm ((Ns.take k++Ns.drop (k+1))++[x]):=by rw[(oI hk).2 x];refine rF.trans ?_;exact(aiX _ _).symm
end
theorem uL {ns:List TN} {p:List UInt8} (h:bD ns p=0):bZ ns p p.length=0/\∃n,iM ns p=some n/\AJ ns p=n/\aZ ns p=n:=by
 obtain⟨n,h1,h2⟩:=alE h;unfold bD at h;by_cases hl:bZ ns p p.length=0
 ·exact⟨hl,n,h1,h2,by unfold aZ;rw[h1];rfl⟩
 rw[if_neg hl]at h;exact absurd h hl
theorem VQ {ns:List TN} {p:List UInt8} (h:dI ns p=0):bZ ns p p.length=0/\uZ ns p=false:=by
 refine⟨?_,aqO h⟩;unfold dI at h;by_cases hl:bZ ns p p.length=0
 ·exact hl
 rw[if_neg hl]at h;exact absurd h hl
theorem VT {ns:List TN} {p:List UInt8} (h:gZ ns p=0):bD ns p=0/\∃n,iM ns p=some n/\AJ ns p=n/\aZ ns p=n/\0<=n.file:=by
 unfold gZ at h;by_cases hp:bD ns p=0
 ·rw[if_pos hp]at h;obtain⟨_,n,h1,h2,h3⟩:=uL hp;refine⟨hp,n,h1,h2,h3,?_⟩;rw[h2]at h;(refine Decidable.byContradiction fun hno=>?_);rw[if_pos aD]at h;cases h
 rw[if_neg hp]at h;exact absurd h hp
section
variable {r:Int->Int} {Ms Ns:List TN} {F G:List TF}
theorem oM {n:TN} (h:¬n.file<0):ren r n=⟨n.path,r n.file,n.mode⟩:=by unfold ren;rw[if_neg h]
theorem ahV {l:List TN} (hne:l.Pairwise fun a b=>a.path≠b.path) {p:List UInt8} {n:TN}:iM l p=some n↔n∈l/\n.path=p:=by
 constructor
 ·exact kR
 rintro⟨h1,rfl⟩;exact wF hne h1
theorem Alike.ne (h:Alike r Ms F Ns G) (hne:Ns.Pairwise fun a b=>a.path≠b.path):Ms.Pairwise fun a b=>a.path≠b.path:=by
 have aED:(Ns.map (ren r)).Pairwise fun a b=>a.path≠b.path:=by rw[XA];exact hne.imp fun {a b} e=>by rw[nU,nU];exact e
 exact h.perm.symm.pairwise aED fun {a b} h e=>h e.symm
theorem Alike.mem (h:Alike r Ms F Ns G) {m:TN}:m∈Ms↔∃n∈Ns,ren r n=m:=by rw[h.perm.mem_iff,List.mem_map]
theorem Alike.find (h:Alike r Ms F Ns G) (hne:Ns.Pairwise fun a b=>a.path≠b.path) (p:List UInt8):iM Ms p=(iM Ns p).map (ren r):=by
 cases hn:iM Ns p with
 |some n=>obtain⟨h1,h2⟩:=kR hn;exact(ahV (h.ne hne)).2 ⟨h.mem.2 ⟨n,h1,rfl⟩,by rw[nU];exact h2⟩
 |none=>
  cases hm:iM Ms p with
  |none=>rfl
  |some m=>obtain⟨h1,h2⟩:=kR hm;obtain⟨n,hn2,rfl⟩:=h.mem.1 h1;rw[nU]at h2;rw[(ahV hne).2 ⟨hn2,h2⟩]at hn;cases hn
theorem Alike.sign (h:Alike r Ms F Ns G) {n:TN} (hn:n∈Ns):0<=(ren r n).file↔0<=n.file:=by
 by_cases hf:n.file<0
 ·rw[tZ hf]
 rw[oM hf];have:=(h.file n hn hf).1;constructor<;>intro _<;>simp only at* <;>omega
theorem Alike.look (h:Alike r Ms F Ns G) (hne:Ns.Pairwise fun a b=>a.path≠b.path) (p:List UInt8):∀k,bZ Ms p k=bZ Ns p k
 |0=>rfl
 |k+1=>by
  rw[GY,GY,h.find hne,h.look hne p k];cases hn:iM Ns (p.take (p.length-(k+1)))with
  |none=>rfl
  |some n=>
   have:=h.sign (kR hn).1;simp only[PQ];by_cases h0:0<=n.file
   ·rw[if_pos h0,if_pos (this.2 h0)]
   rw[if_neg h0,if_neg (fun e=>h0 (this.1 e))]
theorem Alike.has (h:Alike r Ms F Ns G) (hne:Ns.Pairwise fun a b=>a.path≠b.path) (p:List UInt8):uZ Ms p=uZ Ns p:=by unfold uZ;rw[h.find hne];cases iM Ns p<;>rfl
theorem Alike.absent (h:Alike r Ms F Ns G) (hne:Ns.Pairwise fun a b=>a.path≠b.path) (p:List UInt8):dI Ms p=dI Ns p:=by unfold dI;rw[h.look hne,h.has hne]
theorem Alike.present (h:Alike r Ms F Ns G) (hne:Ns.Pairwise fun a b=>a.path≠b.path) (p:List UInt8):bD Ms p=bD Ns p:=by unfold bD;rw[h.look hne,h.has hne]
theorem Alike.aZ (h:Alike r Ms F Ns G) (hne:Ns.Pairwise fun a b=>a.path≠b.path) {p:List UInt8} {n:TN} (hn:iM Ns p=some n):aZ Ms p=ren r n:=by unfold Go.Proofs.YteihmbaimbogaaaGreat.aZ;rw[h.find hne,hn];rfl
theorem Alike.rT (h:Alike r Ms F Ns G) (hne:Ns.Pairwise fun a b=>a.path≠b.path) (p:List UInt8):gZ Ms p=gZ Ns p:=by
 unfold gZ;rw[h.present hne];by_cases hp:bD Ns p=0
 ·rw[if_pos hp,if_pos hp];obtain⟨hl,n,h1,h2,_⟩:=uL hp;(have h3:AJ Ms p=ren r n:=by unfold AJ;rw[h.look hne,if_pos hl];exact h.aZ hne h1);rw[h2,h3];have:=h.sign (kR h1).1;by_cases h0:n.file<0
  ·rw[if_pos h0,if_pos aD]
  rw[if_neg h0,if_neg aD]
 rw[if_neg hp,if_neg hp]
theorem Alike.both (h:Alike r Ms F Ns G) (hne:Ns.Pairwise fun a b=>a.path≠b.path) (p q:List UInt8):j6 Ms p q=j6 Ns p q:=by unfold j6;rw[h.rT hne,h.absent hne]
theorem Alike.cnt (h:Alike r Ms F Ns G) (p:List UInt8):mD Ms p=mD Ns p:=by unfold mD;rw[h.perm.countP_eq,List.countP_map];apply List.countP_congr;intro n _;simp only[Function.comp_apply,nU]
theorem Alike.aKF (h:Alike r Ms F Ns G) {Ns':List TN} (hp:Ns.Perm Ns'):Alike r Ms F Ns' G:=
 ⟨h.perm.trans (hp.map _),fun n hn=>h.file n (hp.mem_iff.2 hn),fun n hn m hm=>h.inj n (hp.mem_iff.2 hn) m (hp.mem_iff.2 hm)⟩
theorem Alike.aB9 (h:Alike r Ms F Ns G) {Ms':List TN} (hp:Ms'.Perm Ms):Alike r Ms' F Ns G:=⟨hp.trans h.perm,h.file,h.inj⟩
theorem Alike.ab4 (h:Alike r Ms F Ns G) {n:TN} (hf:n.file<0):Alike r (Ms++[n]) F (Ns++[n]) G:=by
 have hm:∀x∈Ns++[n],¬x.file<0->x∈Ns:=fun x hx h0=>by
  rcases gX.1 hx with hx|hx
  ·exact hx
  (have:x=n:=by simpa using hx);subst this;exact absurd hf h0
 refine⟨?_,fun x hx h0=>h.file x (hm x hx h0) h0,fun x hx y hy h0 h1=>h.inj x (hm x hx h0) y (hm y hy h1) h0 h1⟩;rw[kT,YF,tZ hf];exact h.perm.append_right _
theorem Alike.LP (h:Alike r Ms F Ns G) {n:TN} (hn:n∈Ns) (hf:¬n.file<0) (q:List UInt8):Alike r (Ms++[⟨q,r n.file,0⟩]) F (Ns++[⟨q,n.file,0⟩]) G:=by
 have hm:∀x∈Ns++[(⟨q,n.file,0⟩:TN)],∃y∈Ns,y.file=x.file:=fun x hx=>by
  rcases gX.1 hx with hx|hx
  ·exact⟨x,hx,rfl⟩
  (have:x=⟨q,n.file,0⟩:=by simpa using hx);subst this;exact⟨n,hn,rfl⟩
 refine⟨?_,fun x hx h0=>?_,fun x hx y hy h0 h1 e=>?_⟩
 ·rw[kT,YF,oM (n:=⟨q,n.file,0⟩) hf];exact h.perm.append_right _
 ·obtain⟨y,hy,e⟩:=hm x hx;rw[<-e]at h0 ⊢;exact h.file y hy h0
 obtain⟨x',hx',e1⟩:=hm x hx;obtain⟨y',hy',e2⟩:=hm y hy;rw[<-e1]at h0 e ⊢;rw[<-e2]at h1 e ⊢;exact h.inj x' hx' y' hy' h0 h1 e
theorem Alike.sub (h:Alike r Ms F Ns G) (p:List UInt8):Alike r (oL Ms p) F (oL Ns p) G:=by
 refine⟨?_,fun n hn=>h.file n (oZ.subset hn),fun n hn m hm=>h.inj n (oZ.subset hn) m (oZ.subset hm)⟩;have e:(oL Ns p).map (ren r)=oL (Ns.map (ren r)) p:=by unfold oL;rw[List.filter_map];congr 1;apply List.filter_congr;intro n _;simp only[Function.comp_apply,nU]
 rw[e];exact h.perm.filter _
theorem VU {F:List TF} {x:TF} {i:Int} (h0:0<=i) (h:i<(F.length:Int)):iK (F++[x]) i=iK F i:=by unfold iK;rw[gH,gH,G8 aD]
theorem VV {F:List TF} {x:TF}:iK (F++[x]) (F.length:Int)=x:=by unfold iK;rw[gH,nA,D6 (jL _),oO];rfl
theorem Alike.ab3 (h:Alike r Ms F Ns G) (hG:∀n∈Ns,¬n.file<0->n.file<G.length) (p:List UInt8) (x:TF):
  Alike (fun i=>if i=(G.length:Int)then(F.length:Int)else r i) (Ms++[⟨p,F.length,0⟩]) (F++[x]) (Ns++[⟨p,G.length,0⟩]) (G++[x]):=by
 have hold:∀n∈Ns,¬n.file<0->n.file≠(G.length:Int):=fun n hn hf=>by have:=hG n hn hf;omega
 have hcase:∀n∈Ns++[(⟨p,G.length,0⟩:TN)],¬n.file<0->(n∈Ns/\n.file≠(G.length:Int))\/n.file=(G.length:Int):=fun n hn hf=>by
  rcases gX.1 hn with hn|hn
  ·exact .inl ⟨hn,hold n hn hf⟩
  right;(have:n=⟨p,G.length,0⟩:=by simpa using hn);rw[this]
 refine⟨?_,fun n hn hf=>?_,fun n hn m hm hf hg e=>?_⟩
 ·rw[kT,YF];(have e1:ren (fun i=>if i=(G.length:Int)then(F.length:Int)else r i) ⟨p,G.length,0⟩=⟨p,F.length,0⟩:=by rw[oM (by show ¬((G.length:Int)<0);omega)];simp);have e2:Ns.map (ren fun i=>if i=(G.length:Int)then(F.length:Int)else r i)=Ns.map (ren r):=by
   apply BA;intro n hn;by_cases hf:n.file<0
   ·rw[tZ hf,tZ hf]
   rw[oM hf,oM hf,if_neg (hold n hn hf)]
  rw[e1,e2];exact h.perm.append_right _
 ·rw[kN,xL];rcases hcase n hn hf with⟨h1,h2⟩|h2
  ·obtain⟨a,b,c⟩:=h.file n h1 hf;have:=hG n h1 hf;simp only[if_neg h2];refine⟨a,by omega,?_⟩;rw[VU a b,VU aD this,c]
  simp only[if_pos h2];refine⟨by omega,by omega,?_⟩;rw[h2,VV,VV]
 rcases hcase n hn hf with⟨h1,h2⟩|h2<;>rcases hcase m hm hg with⟨h3,h4⟩|h4
 ·rw[if_neg h2,if_neg h4]at e;exact h.inj n h1 m h3 hf hg e
 ·rw[if_neg h2,if_pos h4]at e;have:=(h.file n h1 hf).2.1;omega
 ·rw[if_pos h2,if_neg h4]at e;have:=(h.file m h3 hg).2.1;omega
 rw[h2,h4]
theorem VX {F:List TF} {x:TF} {i j:Int} (hi:0<=i) (hj:0<=j) (hl:i<F.length):iK (F.set i.toNat x) j=if j=i then x else iK F j:=by
 unfold iK;rw[gH,gH,amB];by_cases e:j=i
 ·subst e;rw[if_pos rfl,if_pos rfl,if_pos aD];rfl
 rw[if_neg aD,if_neg e]
theorem Alike.QJ (h:Alike r Ms F Ns G) (hG:∀n∈Ns,¬n.file<0->n.file<G.length) {n:TN} (hn:n∈Ns) (hf:¬n.file<0) (x:TF):Alike r Ms (F.set (r n.file).toNat x) Ns (G.set n.file.toNat x):=by
 refine⟨h.perm,fun m hm hg=>?_,h.inj⟩;obtain⟨a,b,c⟩:=h.file m hm hg;obtain⟨a2,b2,c2⟩:=h.file n hn hf;rw[uR];refine⟨a,b,?_⟩;rw[VX a2 a b2,VX aD aD (hG n hn hf)];by_cases e:m.file=n.file
 ·rw[if_pos e,if_pos (by rw[e])]
 rw[if_neg e,if_neg (fun e2=>e (h.inj m hm n hn hg hf e2)),c]
end
theorem aqR {w:World} {nv fv:Value} {ns:List TN} {fs:List TF} {vs:List Value} (h:bY w nv fv ns fs vs) (ho:fT ns fs) {op:Int} (hop:¬(1<=op/\op<=9)) {p tz:List UInt8} (VK:p.length<=9223372036854775807) (VL:tz.length<=9223372036854775807) (mode ref:Int) {sv:Value} {cs:List Value} (hsv:kU w sv cs):
  Calls Tryz.prog 54 #[.agg #[nv,fv],mY op p tz mode ref,sv] w fun e w'=>e= .returned (.tuple #[.agg #[.slice none 0 0,.slice none 0 0],.int .i64 34])/\Below w.heap.size w w':=by
 have hm:gY ns fs:=⟨by have:=ho.few;omega,by have:=ho.oQ;omega,fun n hn=>by have:=iB (ho.mem hn).1;omega,fun f hf=>by have:=ho.size f hf;omega⟩;have l5:∀n∈ns, -1<=n.file:=fun n hn=>(ho.mem hn).2.1
 have hS0:=qB w nv fv op p tz mode ref;have hlo:=fun(W:World) (hW:Below w.heap.size w W)=>jU (h.below hW) hm
 rw[nZ ho]at hlo;have hfi:=fun(W:World) (hW:Below w.heap.size w W)=>jV op (p:=p) (tz:=tz) aD aD mode ref (hsv.below hW)
 have l6:=gQ h;have uO:=h.nodes;have hfp:=h.files;obtain⟨A1,pR,rfl,hm1⟩:=h.nodes.shape;obtain⟨A2,pO,rfl,hm2⟩:=h.files.shape;obtain⟨Av,cv,rfl,_⟩:=hsv.1.shape;have b1:(ns.length:Int)<=256:=by have:=ho.few;omega
 have b2:(fs.length:Int)<=256:=by have:=ho.oQ;omega
 obtain⟨zt0,zt1,zi0,zi1,zi2,zi3,zi4,zr0,zr1,zf0,zf1⟩:=aP [] hS0;obtain⟨j0,uX,hj0,hj1,hj2⟩:=info_parts kM;obtain⟨k0,gN,hk0,hk1,hk2⟩:=info_parts jQ;have fV:=Lh hS0;have AQ:=Lh hlo;have nK:=Lh hfi;have oN:=Lh l6;have oV:=Lh uO;have mO:=Lh hfp;have h':=Lh h;have hm':=Lh hm;have ho':=Lh ho;have lL:=Lh l5;have IC:=Lh hsv;clear hS0 hlo hfi l6 uO hfp h hm ho l5 hsv;have IM:fJ op p tz mode ref cs=34:=by unfold fJ;rw[if_pos aD]
 rw[IM]at nK;clear IM hop;unfold mY aC at*;go_enter Tryz.func54,Tryz.ntmps54;go_wp2_with(first |(go_at_call 108;refine(AQ.out _ fV.out.below).mono ?_;rintro e w1 ⟨rfl,hb1⟩;(have hS1:=fV.out.pure hb1);obtain⟨WL,WM,WN,WO,WQ,WR,WS,WT,WU,WV,WW⟩:=aP [] hS1;replace hS1:=Lh hS1;clear hb1)|(go_at_call 109;refine(nK.out _ hS1.out.below).mono ?_;rintro e w2 ⟨rfl,hb2⟩;(have hS2:=hS1.out.pure hb2);obtain⟨bt0,bt1,bi0,bi1,bi2,bi3,bi4,br0,br1,bf0,bf1⟩:=aP [] hS2;replace hS2:=Lh hS2;clear hb2));obtain⟨Q,hQ,e0,e1⟩:=kS [] (.slice none 0 0) (.slice none 0 0) hS2.out;refine bodyPost_ret (bR rfl rfl e0 e1) rfl ?_;exact⟨rfl,hQ.below⟩
theorem azQ {w:World} {nv fv:Value} {ns:List TN} {fs:List TF} {vs:List Value} (h:bY w nv fv ns fs vs) (ho:fT ns fs) {p tz:List UInt8} (VK:p.length<=9223372036854775807) (VL:tz.length<=9223372036854775807) (mode ref:Int) {sv:Value} {cs:List Value} (hsv:kU w sv cs):
  Calls Tryz.prog 54 #[.agg #[nv,fv],mY 9 p tz mode ref,sv] w fun e w'=>∃A3 n3 c3 A4 n4 c4 vs',e= .returned (.tuple #[.agg #[.slice A3 n3 c3,.slice A4 n4 c4],.int .i64 0])/\Sep w w' [.keep fun W=>bY W (.slice A3 n3 c3) (.slice A4 n4 c4) ns fs vs']:=by
 have hm:gY ns fs:=⟨by have:=ho.few;omega,by have:=ho.oQ;omega,fun n hn=>by have:=iB (ho.mem hn).1;omega,fun f hf=>by have:=ho.size f hf;omega⟩;have l5:∀n∈ns, -1<=n.file:=fun n hn=>(ho.mem hn).2.1
 have hS0:=qB w nv fv 9 p tz mode ref;have hlo:=fun(W:World) (hW:Below w.heap.size w W)=>jU (h.below hW) hm
 rw[nZ ho]at hlo;have hfi:=fun(W:World) (hW:Below w.heap.size w W)=>jV (9:Int) (p:=p) (tz:=tz) aD aD mode ref (hsv.below hW)
 have l6:=gQ h;have uO:=h.nodes;have hfp:=h.files;obtain⟨A1,pR,rfl,hm1⟩:=h.nodes.shape;obtain⟨A2,pO,rfl,hm2⟩:=h.files.shape;obtain⟨Av,cv,rfl,_⟩:=hsv.1.shape;have b1:(ns.length:Int)<=256:=by have:=ho.few;omega
 have b2:(fs.length:Int)<=256:=by have:=ho.oQ;omega
 obtain⟨zt0,zt1,zi0,zi1,zi2,zi3,zi4,zr0,zr1,zf0,zf1⟩:=aP [] hS0;obtain⟨j0,uX,hj0,hj1,hj2⟩:=info_parts kM;obtain⟨k0,gN,hk0,hk1,hk2⟩:=info_parts jQ;have fV:=Lh hS0;have AQ:=Lh hlo;have nK:=Lh hfi;have oN:=Lh l6;have oV:=Lh uO;have mO:=Lh hfp;have h':=Lh h;have hm':=Lh hm;have ho':=Lh ho;have lL:=Lh l5;have IC:=Lh hsv;clear hS0 hlo hfi l6 uO hfp h hm ho l5 hsv;have IM:fJ 9 p tz mode ref cs=0:=by unfold fJ;rw[if_neg aD,if_pos rfl]
 have hcp:=fun(W:World) (hW:Below w.heap.size w W)=>ahE (h'.out.below hW) hm'.out
 have aIO:=Lh hcp;rw[IM]at nK;clear IM hcp;unfold mY aC at*;go_enter Tryz.func54,Tryz.ntmps54;go_wp2_with(first |(go_at_call 108;refine(AQ.out _ fV.out.below).mono ?_;rintro e w1 ⟨rfl,hb1⟩;(have hS1:=fV.out.pure hb1);obtain⟨WL,WM,WN,WO,WQ,WR,WS,WT,WU,WV,WW⟩:=aP [] hS1;replace hS1:=Lh hS1;clear hb1)|(go_at_call 109;refine(nK.out _ hS1.out.below).mono ?_;rintro e w2 ⟨rfl,hb2⟩;(have hS2:=hS1.out.pure hb2);obtain⟨bt0,bt1,bi0,bi1,bi2,bi3,bi4,br0,br1,bf0,bf1⟩:=aP [] hS2;replace hS2:=Lh hS2;clear hb2)|(go_at_call 95;refine(aIO.out _ hS2.out.below).mono ?_;rintro e w3 ⟨nv3,fv3,vs3,rfl,dJ⟩;(have fC:=hS2.out.join dJ);(have hT:=fC.kept 0 rfl);obtain⟨A3,c3,rfl,_⟩:=hT.nodes.shape;obtain⟨A4,c4,rfl,_⟩:=hT.files.shape;obtain⟨gt0,gt1,gi0,gi1,gi2,gi3,gi4,gr0,gr1,gf0,gf1⟩:=aP [_] fC;replace fC:=Lh fC;clear dJ hT));obtain⟨Q,hQ,e0,e1⟩:=kS [_] (.slice A3 ns.length c3) (.slice A4 fs.length c4) fC.out;refine bodyPost_ret (bR rfl rfl e0 e1) rfl ?_;exact⟨A3,ns.length,c3,A4,fs.length,c4,vs3,rfl,Sep.fst (X:=[_]) hQ⟩
abbrev TR :=List TN×List TF
def y7 (op:Int) (p tz:List UInt8) (ns:List TN):Int:=
 if op=1 then dI ns p
 else if op=2 then(if bD ns p=0 then(if(aZ ns p).file= -1 then(if mD ns p=0 then 0 else 25)else 22)else bD ns p)
 else if op=3 then j6 ns p tz
 else if op=4 then j6 ns p tz
 else if op=5 then(if bD ns p=0 then(if(aZ ns p).file= -1 then 24 else 0)else bD ns p)
 else if op=6 then dI ns p
 else if op=7 then j6 ns p tz
 else bD ns p
def NZ (op:Int) (p tz:List UInt8) (mode:Int) (T:TR):List TN:=
 if op=1 then T.1++[⟨p, -1,mode⟩]
 else if op=2 then T.1.take (dP T.1 p)++T.1.drop (dP T.1 p+1)
 else if op=3 then T.1.set (dP T.1 p) ⟨tz,(aZ T.1 p).file,(aZ T.1 p).mode⟩
 else if op=4 then T.1++[⟨tz,(aZ T.1 p).file,0⟩]
 else if op=5 then T.1.take (dP T.1 p)++T.1.drop (dP T.1 p+1)
 else if op=6 then T.1++[⟨p,T.2.length,0⟩]
 else if op=7 then T.1++[⟨tz,T.2.length,0⟩]
 else if(aZ T.1 p).file= -1 then T.1.set (dP T.1 p) ⟨(aZ T.1 p).path, -1,mode⟩else T.1
def VY (op:Int) (p tz:List UInt8) (mode:Int) (b:List UInt8) (T:TR):List TF:=
 if op=6 then T.2++[⟨mode,b⟩]
 else if op=7 then T.2++[⟨mode,(iK T.2 (aZ T.1 p).file).bs⟩]
 else if op=8 then(if(aZ T.1 p).file= -1 then T.2 else T.2.set (aZ T.1 p).file.toNat ⟨mode,(iK T.2 (aZ T.1 p).file).bs⟩)
 else T.2
def xQ (op:Int) (p tz:List UInt8) (mode ref:Int) (cs:List Value) (b:List UInt8) (T:TR):Int:=
 if op<1\/9<op then 34 else if op=9 then 0 else JW (fJ op p tz mode ref cs) (y7 op p tz T.1) (NZ op p tz mode T) (VY op p tz mode b T)
def y8 (op:Int) (p tz:List UInt8) (mode:Int) (b:List UInt8) (T:TR):TR:=
 if op=9 then T else(tY (NZ op p tz mode T),tT (NZ op p tz mode T) (VY op p tz mode b T))
def toF (f:FT):TF:=⟨f.mode,f.bs⟩
def zB (fs:List FT):List TF:=fs.map toF
structure VZ (ns:List TN) (G:List TF):Prop where
 good:pE ns
 few:ns.length<=256
 file:∀n∈ns,¬n.file<0->n.file<G.length/\(iK G n.file).size<=8192/\fQ (iK G n.file).mode=true
theorem azR (fs:List FT):(zB fs).length=fs.length:=kV _
theorem ahW (fs:List FT) (k:Int):(iK (zB fs) k).size=(nI fs k).length:=by unfold iK zB nI;rw[gH,lQ];cases fs[k.toNat]? <;>rfl
theorem av7 (fs:List FT) (k:Int):(iK (zB fs) k).bs=nI fs k:=by unfold iK zB nI;rw[gH,lQ];cases fs[k.toNat]? <;>rfl
theorem aqS {Ns Ns':List TN} (h:pE Ns) (hp:Ns.Perm Ns'):pE Ns':=by
 refine⟨hp.pairwise h.ne fun {a b} h e=>h e.symm,fun n hn=>h.valid n (hp.mem_iff.2 hn),fun n hn=>?_,fun n hn=>h.file n (hp.mem_iff.2 hn)⟩;rcases h.up n (hp.mem_iff.2 hn)with h1|⟨m,hm,h2⟩
 ·exact .inl h1
 exact .inr ⟨m,hp.mem_iff.1 hm,h2⟩
theorem pE.UW {Ns:List TN} (h:pE Ns) {n:TN} (hn:n∈Ns) (hf:n.file= -1) {m:Int} (hm:fQ m=true):pE (oL Ns n.path++[⟨n.path, -1,m⟩]):=by
 have hup:∀p:List UInt8,(p=[]\/∃m∈Ns,m.path=p/\m.file= -1)->p=[]\/∃x∈oL Ns n.path++[(⟨n.path, -1,m⟩:TN)],x.path=p/\x.file= -1:=fun p hp=>by
  rcases hp with h1|⟨x,hx,h1,h2⟩
  ·exact .inl h1
  right;by_cases e:x.path=n.path
  ·exact⟨⟨n.path, -1,m⟩,by simp,by rw[<-h1,e],rfl⟩
  exact⟨x,G9 _ (xJ.2 ⟨hx,e⟩),h1,h2⟩
 have hc:∀x∈oL Ns n.path++[(⟨n.path, -1,m⟩:TN)],(x∈Ns/\x.path≠n.path)\/x=⟨n.path, -1,m⟩:=fun x hx=>by
  rcases gX.1 hx with hx|hx
  ·exact .inl (xJ.1 hx)
  exact .inr (by simpa using hx)
 refine⟨?_,fun x hx=>?_,fun x hx=>?_,fun x hx=>?_⟩
 ·rw[adZ];refine⟨h.ne.sublist oZ,by simp,fun a ha b hb=>?_⟩;(have:b=⟨n.path, -1,m⟩:=by simpa using hb);subst this;exact(xJ.1 ha).2
 ·rcases hc x hx with⟨h1,_⟩|rfl
  ·exact h.valid x h1
  exact h.valid n hn
 ·rcases hc x hx with⟨h1,_⟩|rfl
  ·exact hup _ (h.up x h1)
  exact hup _ (h.up n hn)
 rcases hc x hx with⟨h1,_⟩|rfl
 ·exact h.file x h1
 exact .inl ⟨rfl,hm⟩
section
variable {r:Int->Int} {N X:List TN} {F G:List TF}
theorem aqT (ha:Alike r N F X G) (hg:VZ X G) (hF:F.length<=256) (hs:∀f∈F,f.size<=8192):nT N F=0/\tY N=tY X/\tT N F=tT X G:=by
 obtain⟨e1,e2⟩:=aqI ha hg.good.ne;refine⟨?_,e1,e2⟩;have hl:=aaM hg.good hg.few fun n hn hf=>(hg.file n hn hf).2
 have h2:=(JS (tY X) (tT X G)).trans (agW hl);have hb:l9 N F=false:=by
  unfold l9;rw[MQ,MQ,QS,QS,aeA];refine⟨⟨?_,by omega⟩,fun f hf=>?_⟩
  ·have:=ha.perm.length_eq;have:=hg.few;rw[kV]at*;omega
  have:=hs f hf;unfold acL;rw[uP];omega
 unfold nT;rw[hb,e1,e2,if_neg aQ];by_cases h3:l9 (tY X) (tT X G)=true
 ·rw[if_pos h3]at h2;cases h2
 rw[if_neg h3]at h2;by_cases h4:mX (tY X) (tT X G)=true
 ·rw[if_pos h4]
 rw[if_neg h4]at h2;cases h2
theorem av8 (h:256<N.length):nT N F≠0:=by unfold nT l9;rw[decide_eq_true h,YO,YO,if_pos rfl];decide
end
def jW (e:Int) (N:List TN) (F:List TF):Except Int (List TN×List FT)->Prop
 | .error k=>k≠0/\(if e=0 then(if nT N F=0 then 0 else 31)else e)=k
 | .ok X=>e=0/\nT N F=0/\VZ X.1 (zB X.2)/\tY N=tY X.1/\tT N F=tT X.1 (zB X.2)
theorem qC {e:Int} {N:List TN} {F:List TF} (h:e≠0):jW e N F (.error e):=⟨h,by rw[if_neg h]⟩
theorem ahX {N:List TN} {F:List TF} (h:256<N.length):jW 0 N F (.error 31):=⟨by decide,by rw[if_pos rfl,if_neg (av8 h)]⟩
theorem xK {r:Int->Int} {N:List TN} {F:List TF} {X:List TN×List FT} (ha:Alike r N F X.1 (zB X.2)) (hg:VZ X.1 (zB X.2)) (hF:F.length<=256) (hs:∀f∈F,f.size<=8192):jW 0 N F (.ok X):=by obtain⟨h1,h2,h3⟩:=aqT ha hg hF hs;exact⟨rfl,h1,hg,h2,h3⟩
theorem alH {ns:List TN} (hf:∀n∈ns, -1<=n.file) (p:List UInt8):zX ns p=if dI ns p=0 then(if ns.length<256 then 0 else 31)else dI ns p:=by
 unfold zX dI uZ;rw[acN hf];by_cases h:bZ ns p p.length=0
 ·exact Z49
 simp only[if_neg h]
section
variable {r:Int->Int} {T:TR} {ns:List TN} {fs:List FT} (hg:VZ ns (zB fs)) (ha:Alike r T.1 T.2 ns (zB fs)) (hT:T.2.length<=T.1.length) (hS:∀f∈T.2,f.size<=8192)
include hg ha hT hS
theorem PH :T.1.length=ns.length:=by rw[ha.perm.length_eq,kV]
theorem V3 {n:TN} (hab:dI ns n.path=0) (h9:ns.length<256) (hv:aU n.path=true) {G:List TF} (hG:∀m∈ns,¬m.file<0->m.file<G.length/\(iK G m.file).size<=8192/\fQ (iK G m.file).mode=true)
  (hn:(n.file= -1/\fQ n.mode=true)\/((0<=n.file/\n.mode=0)/\n.file<G.length/\(iK G n.file).size<=8192/\fQ (iK G n.file).mode=true)):VZ (ns++[n]) G:=by
 obtain⟨hl,hh⟩:=VQ hab;refine⟨hg.good.add hh hv (ahU hg.good.I5 hv hl) (hn.imp id fun h=>h.1),by rw[kN,xL];omega,fun m hm hf=>?_⟩;rcases gX.1 hm with hm|hm
 ·exact hG m hm hf
 have:m=n:=by simpa using hm
 subst this;rcases hn with⟨h1,_⟩|⟨_,h1⟩
 ·omega
 exact h1
theorem grown {x:TF} (hx:x.size<=8192/\fQ x.mode=true):∀m∈ns,¬m.file<0->m.file<(zB fs++[x]).length/\(iK (zB fs++[x]) m.file).size<=8192/\fQ (iK (zB fs++[x]) m.file).mode=true:=fun m hm hf=>by obtain⟨h1,h2,h3⟩:=hg.file m hm hf;rw[kN,VU aD h1];exact⟨by omega,h2,h3⟩
theorem ahY {p:List UInt8} {N:List TN} {F:List TF} {X:List TN×List FT} (hN:N.length=T.1.length+1) (key:dI ns p=0->ns.length<256->jW 0 N F (.ok X)):
  jW (dI T.1 p) N F (if zX ns p=0 then .ok X else .error (zX ns p)):=by
 have hl:=PH hg ha hT hS;rw[ha.absent hg.good.ne,alH hg.good.I5];by_cases h1:dI ns p=0
 ·rw[if_pos h1,h1];by_cases h2:ns.length<256
  ·rw[if_pos h2,if_pos rfl];exact key h1 h2
  rw[if_neg h2,if_neg aQ];exact ahX aD
 rw[if_neg h1,if_neg h1];exact qC h1
theorem aEY {p:List UInt8} {mode:Int} (hv:aU p=true) (hm:fQ mode=true):jW (dI T.1 p) (T.1++[⟨p, -1,mode⟩]) T.2 (if zX ns p=0 then .ok (lJ ns fs 1 mode.toNat p,fs)else .error (zX ns p)):=by
 have h0:((mode.toNat:Nat):Int)=mode:=by unfold fQ at hm;rw[tJ,uP]at hm;omega
 refine ahY hg ha hT hS bM fun hab h9=>?_
 have e:lJ ns fs 1 mode.toNat p=ns++[⟨p, -1,mode⟩]:=by unfold lJ;rw[if_pos rfl,h0]
 have hl:=PH hg ha hT hS;rw[e];exact xK (ha.ab4 (n:=⟨p, -1,mode⟩) (show(-1:Int)<0 by decide)) (V3 hg ha hT hS (n:=⟨p, -1,mode⟩) hab h9 hv hg.file (.inl ⟨rfl,hm⟩)) aD hS
theorem ahZ {p:List UInt8} {mode:Int} {bs:List UInt8} (hab:dI ns p=0) (h9:ns.length<256) (hv:aU p=true) (hm:fQ mode=true) (hb:bs.length<=8192):
  jW 0 (T.1++[⟨p,T.2.length,0⟩]) (T.2++[⟨mode,bs⟩]) (.ok (lJ ns fs 2 mode.toNat p,zY fs 2 mode.toNat bs)):=by
 have h0:((mode.toNat:Nat):Int)=mode:=by unfold fQ at hm;rw[tJ,uP]at hm;omega
 have hl:=PH hg ha hT hS;have e:lJ ns fs 2 mode.toNat p=ns++[⟨p,(zB fs).length,0⟩]:=by unfold lJ;rw[if_neg aQ,azR]
 have e2:zB (zY fs 2 mode.toNat bs)=zB fs++[⟨mode,bs⟩]:=by unfold zY zB;rw[if_neg aQ,kT,h0];rfl
 have hx:(⟨mode,bs⟩:TF).size<=8192/\fQ (⟨mode,bs⟩:TF).mode=true:=⟨hb,hm⟩;refine xK (r:=fun i=>if i=((zB fs).length:Int)then(T.2.length:Int)else r i) ?_ ?_ (by rw[kN,xL];omega) fun f hf=>?_
 ·(show Alike _ _ _ (lJ ns fs 2 mode.toNat p) (zB (zY fs 2 mode.toNat bs)));rw[e,e2];exact ha.ab3 (fun n hn hf=>(hg.file n hn hf).1) p _
 ·(show VZ (lJ ns fs 2 mode.toNat p) (zB (zY fs 2 mode.toNat bs)));rw[e,e2];refine V3 hg ha hT hS (n:=⟨p,(zB fs).length,0⟩) hab h9 hv (grown hg ha hT hS hx) (.inr ⟨⟨by show(0:Int)<=((zB fs).length:Int);omega,rfl⟩,?_⟩);(show((zB fs).length:Int)<_/\_);rw[VV,kN,xL];exact⟨by omega,hx⟩
 rcases gX.1 hf with hf|hf
 ·exact hS f hf
 have:f=⟨mode,bs⟩:=by simpa using hf
 rw[this];exact hb
theorem aEZ {p:List UInt8} {mode:Int} {bs:List UInt8} (hv:aU p=true) (hm:fQ mode=true) (hb:bs.length<=8192):
  jW (dI T.1 p) (T.1++[⟨p,T.2.length,0⟩]) (T.2++[⟨mode,bs⟩]) (if zX ns p=0 then .ok (lJ ns fs 2 mode.toNat p,zY fs 2 mode.toNat bs)else .error (zX ns p)):=
 ahY hg ha hT hS bM fun hab h9=>ahZ hg ha hT hS hab h9 hv hm hb
theorem JZ {p:List UInt8} {n:TN} (hn:iM ns p=some n):T.1.take (dP T.1 p)++T.1.drop (dP T.1 p+1)=oL T.1 p/\T.1[dP T.1 p]? =some (ren r n):=by
 have h1:iM T.1 p=some (ren r n):=by rw[ha.find hg.good.ne,hn];rfl
 obtain⟨h2,h3,_⟩:=alG h1;refine⟨?_,h2⟩;rw[<-av6 (ha.ne hg.good.ne) h2,h3]
theorem ah0 {p:List UInt8} {n:TN} (hn:iM ns p=some n) (hk:n.file= -1->∀m∈ns,eY m.path≠n.path):jW 0 (T.1.take (dP T.1 p)++T.1.drop (dP T.1 p+1)) T.2 (.ok (oC ns (splitB p),fs)):=by obtain⟨h1,h2⟩:=kR hn;have hl:=PH hg ha hT hS;have:=hg.few;rw[(JZ hg ha hT hS hn).1,alF];refine xK (ha.sub p) ⟨?_,PS (oZ.length_le) hg.few,fun m hm hf=>hg.file m (oZ.subset hm) hf⟩ aD hS;rw[<-h2];exact hg.good.del h1 hk
theorem aE0 {p:List UInt8} (hp:p≠[]):jW (y7 2 p [] T.1) (T.1.take (dP T.1 p)++T.1.drop (dP T.1 p+1)) T.2 (match kQ ns (splitB p)with
  | .error e=>.error e
  | .ok n=>if n.file≠ -1 then .error 22 else if 0<iI ns (splitB p)then .error 25 else .ok (oC ns (splitB p),fs)):=by
 rw[CL hg.good.I5];have e:y7 2 p [] T.1=if bD T.1 p=0 then(if(aZ T.1 p).file= -1 then(if mD T.1 p=0 then 0 else 25)else 22)else bD T.1 p:=rfl
 rw[e,ha.present hg.good.ne,ha.cnt];by_cases h1:bD ns p=0
 ·obtain⟨_,n,h2,h3,h4⟩:=uL h1;have hm:=(kR h2).1;rw[if_pos h1,if_pos h1,ha.aZ hg.good.ne h2,h4,ag9 ns hg.good.valid hp];simp only;rcases hg.good.file n hm with⟨hf,_⟩|⟨hf,_⟩
  ·(have e2:(ren r n).file= -1:=by rw[tZ aD];exact hf);rw[if_pos e2,if_neg (fun h:n.file≠ -1=>h hf)];by_cases h5:mD ns p=0
   ·rw[if_pos h5,if_neg (show ¬0<mD ns p by omega)];(refine ah0 hg ha hT hS h2 fun _ m hm2 e=>?_);unfold mD at h5;rw[List.countP_eq_zero]at h5;refine h5 m hm2 ?_;rw[uP,e,(kR h2).2]
   rw[if_neg h5,if_pos (show 0<mD ns p by omega)];exact qC aQ
  (have e2:¬(ren r n).file= -1:=by rw[oM aD];have:=(ha.file n hm aD).1;(show ¬r n.file= -1);omega);rw[if_neg e2,if_pos (show n.file≠ -1 by omega)];exact qC aQ
 rw[if_neg h1,if_neg h1];exact qC h1
theorem aKG (p:List UInt8):(if bD T.1 p=0 then(if(aZ T.1 p).file= -1 then(24:Int)else 0)else bD T.1 p)=gZ ns p:=by
 rw[ha.present hg.good.ne];unfold gZ;by_cases h1:bD ns p=0
 ·obtain⟨_,n,h2,h3,h4⟩:=uL h1;have hm:=(kR h2).1;rw[if_pos h1,if_pos h1,ha.aZ hg.good.ne h2,h3];rcases hg.good.file n hm with⟨hf,_⟩|⟨hf,_⟩
  ·rw[tZ aD,if_pos hf,if_pos aD]
  rw[oM aD];have:=(ha.file n hm aD).1;rw[if_neg (show ¬r n.file= -1 by omega),if_neg aD]
 rw[if_neg h1,if_neg h1]
theorem aE1 {p:List UInt8}:jW (if bD T.1 p=0 then(if(aZ T.1 p).file= -1 then(24:Int)else 0)else bD T.1 p) (T.1.take (dP T.1 p)++T.1.drop (dP T.1 p+1)) T.2 (match yV ns (splitB p)with
  | .error e=>.error e
  | .ok n=>.ok (oC ns (splitB p),fs)):=by
 rw[aKG hg ha hT hS,VB hg.good.I5];by_cases h1:gZ ns p=0
 ·rw[if_pos h1,h1];obtain⟨_,n,h2,h3,h4,h5⟩:=VT h1;exact ah0 hg ha hT hS h2 fun e=>by omega
 rw[if_neg h1];exact qC h1
theorem aE2 {p q:List UInt8} (GN:aU q=true):jW (j6 T.1 p q) (T.1.set (dP T.1 p) ⟨q,(aZ T.1 p).file,(aZ T.1 p).mode⟩) T.2 (match yV ns (splitB p)with
  | .error e=>.error e
  | .ok n=>if sO ns (splitB q)=0 then .ok (oC ns (splitB p)++[⟨q,n.file,0⟩],fs)else .error (sO ns (splitB q))):=by
 rw[ha.both hg.good.ne,VB hg.good.I5,U9 hg.good.I5];unfold j6;by_cases h1:gZ ns p=0
 ·rw[if_pos h1,if_pos h1];obtain⟨_,n,h2,h3,h4,h5⟩:=VT h1;obtain⟨hm,MK⟩:=kR h2;simp only;by_cases h6:dI ns q=0
  ·rw[if_pos h6,h6,ha.aZ hg.good.ne h2,oM aD,h4,alF];obtain⟨hl6,hh6⟩:=VQ h6;(have hmode:n.mode=0:=by rcases hg.good.file n hm with⟨h7,_⟩|⟨_,h7⟩<;>omega);(have hqp:q≠p:=fun e=>acY hh6 n hm (by rw[MK,e]));have hl:=PH hg ha hT hS;(have hperm:(T.1.set (dP T.1 p) ⟨q,r n.file,n.mode⟩).Perm (oL T.1 p++[⟨q,r n.file,0⟩]):=by have:=set_perm (x:=⟨q,r n.file,n.mode⟩) (JZ hg ha hT hS h2).2;rw[(JZ hg ha hT hS h2).1,hmode]at this;rw[hmode];exact this);have hal:Alike r (oL T.1 p++[⟨q,r n.file,0⟩]) T.2 (oL ns p++[⟨q,n.file,0⟩]) (zB fs):=by
    have:=(ha.LP hm aD q).sub p;have e1:∀(L:List TN) (k:Int),oL (L++[⟨q,k,0⟩]) p=oL L p++[⟨q,k,0⟩]:=fun L k=>by
     unfold oL;rw[aa3];congr 1;rw[zG,if_pos]
     ·rfl
     simpa using hqp
    rw[e1,e1]at this;exact this
   (have hdel:pE (oL ns p):=by rw[<-MK];exact hg.good.del hm fun e=>by omega);have hlen:(oL ns p).length+1<=ns.length:=by
    (have h8:n∉oL ns p:=fun e=>(xJ.1 e).2 MK);have h9:=(I9.2 ⟨h8,(hdel.ne.imp fun {a b} h e=>h (by rw[e]))⟩:(n::oL ns p).Nodup).length_le_of_subset (l₂:=ns) fun x hx=>by
     rcases iX.1 hx with rfl|hx
     ·exact hm
     exact oZ.subset hx
    exact h9
   have hup:azP (oL ns p) q:=by
    rcases ahU hg.good.I5 GN hl6 with h7|⟨x,hx,h7,h8⟩
    ·exact .inl h7
    refine .inr ⟨x,xJ.2 ⟨hx,fun e=>?_⟩,h7,h8⟩;have:=aqQ hg.good.ne hm hx (by rw[e,MK]);subst this;omega
   have hno:uZ (oL ns p) q=false:=by
    unfold uZ;cases hfq:iM (oL ns p) q with
    |none=>rfl
    |some y=>exact absurd (kR hfq).2 (acY hh6 y (oZ.subset (kR hfq).1))
   refine xK (hal.aB9 hperm) ⟨hdel.add (n:=⟨q,n.file,0⟩) hno GN hup (.inr ⟨h5,rfl⟩),?_,fun m hm2 hf=>?_⟩ (by have:=hg.few;omega) hS
   ·(show(oL ns p++[(⟨q,n.file,0⟩:TN)]).length<=256);rw[kN,xL];have:=hg.few;omega
   rcases gX.1 hm2 with h7|h7
   ·exact hg.file m (oZ.subset h7) hf
   (have:m=⟨q,n.file,0⟩:=by simpa using h7);subst this;exact hg.file n hm aD
  rw[if_neg h6];exact qC h6
 rw[if_neg h1,if_neg h1];exact qC h1
theorem ah1 {p q:List UInt8} {N:List TN} {F:List TF} {X:TN->List TN×List FT} (hN:N.length=T.1.length+1) (key:∀n,iM ns p=some n->aZ T.1 p=⟨n.path,r n.file,n.mode⟩->n∈ns->0<=n.file->dI ns q=0->ns.length<256->jW 0 N F (.ok (X n))):
  jW (j6 T.1 p q) N F (match yV ns (splitB p)with
  | .error e=>.error e
  | .ok n=>if sO ns (splitB q)=0 then(if ns.length<256 then .ok (X n)else .error 31)else .error (sO ns (splitB q))):=by
 rw[ha.both hg.good.ne,VB hg.good.I5,U9 hg.good.I5];unfold j6;have hl:=PH hg ha hT hS;by_cases h1:gZ ns p=0
 ·rw[if_pos h1,if_pos h1];obtain⟨_,n,h2,h3,h4,h5⟩:=VT h1;simp only;by_cases h6:dI ns q=0
  ·rw[if_pos h6,h6];by_cases h7:ns.length<256
   ·rw[if_pos h7,h4];exact key n h2 (by rw[ha.aZ hg.good.ne h2,oM aD]) (kR h2).1 h5 h6 h7
   rw[if_neg h7];exact ahX aD
  rw[if_neg h6];exact qC h6
 rw[if_neg h1,if_neg h1];exact qC h1
theorem aE3 {p q:List UInt8} (GN:aU q=true):jW (j6 T.1 p q) (T.1++[⟨q,(aZ T.1 p).file,0⟩]) T.2 (match yV ns (splitB p)with
  | .error e=>.error e
  | .ok n=>if sO ns (splitB q)=0 then(if ns.length<256 then .ok (ns++[⟨q,n.file,0⟩],fs)else .error 31)else .error (sO ns (splitB q))):=by
 refine ah1 hg ha hT hS (N:=T.1++[⟨q,(aZ T.1 p).file,0⟩]) (F:=T.2) (X:=fun n=>(ns++[⟨q,n.file,0⟩],fs)) (by rw[kN,xL]) fun n h1 h2 h3 h4 h5 h6=>?_
 rw[h2];have hl:=PH hg ha hT hS;exact xK (ha.LP h3 aD q) (V3 hg ha hT hS (n:=⟨q,n.file,0⟩) h5 h6 GN hg.file (.inr ⟨⟨h4,rfl⟩,hg.file n h3 aD⟩)) aD hS
theorem aE4 {p q:List UInt8} {mode:Int} (GN:aU q=true) (hm:fQ mode=true):jW (j6 T.1 p q) (T.1++[⟨q,T.2.length,0⟩]) (T.2++[⟨mode,(iK T.2 (aZ T.1 p).file).bs⟩]) (match yV ns (splitB p)with
  | .error e=>.error e
  | .ok n=>if sO ns (splitB q)=0 then(if ns.length<256 then .ok (lJ ns fs 2 mode.toNat q,zY fs 2 mode.toNat (nI fs n.file))else .error 31)else .error (sO ns (splitB q))):=by
 refine ah1 hg ha hT hS (N:=T.1++[⟨q,T.2.length,0⟩]) (F:=T.2++[⟨mode,(iK T.2 (aZ T.1 p).file).bs⟩]) (X:=fun n=>(lJ ns fs 2 mode.toNat q,zY fs 2 mode.toNat (nI fs n.file))) (by rw[kN,xL]) fun n h1 h2 h3 h4 h5 h6=>?_
 have h7:=hg.file n h3 aD;have h8:=(ha.file n h3 aD).2.2;rw[h2];show jW 0 _ (T.2++[⟨mode,(iK T.2 (r n.file)).bs⟩]) _
 rw[h8,av7];exact ahZ hg ha hT hS h5 h6 GN hm (by rw[<-ahW];exact h7.2.1)
theorem aE5 {p:List UInt8} {mode:Int} (hm:fQ mode=true):jW (bD T.1 p) (if(aZ T.1 p).file= -1 then T.1.set (dP T.1 p) ⟨(aZ T.1 p).path, -1,mode⟩else T.1)
  (if(aZ T.1 p).file= -1 then T.2 else T.2.set (aZ T.1 p).file.toNat ⟨mode,(iK T.2 (aZ T.1 p).file).bs⟩) (match kQ ns (splitB p)with
  | .error e=>.error e
  | .ok n=>if n.file= -1 then .ok (⟨n.path, -1,(mode.toNat:Int)⟩::oC ns (splitB p),fs)else .ok (ns,fs.set n.file.toNat ⟨(mode.toNat:Int),nI fs n.file⟩)):=by
 have h0:((mode.toNat:Nat):Int)=mode:=by unfold fQ at hm;rw[tJ,uP]at hm;omega
 rw[CL hg.good.I5,ha.present hg.good.ne];have hl:=PH hg ha hT hS;have aWU:=hg.few;by_cases h1:bD ns p=0
 ·obtain⟨_,n,h2,h3,h4⟩:=uL h1;obtain⟨hmm,MK⟩:=kR h2;rw[if_pos h1,h1,ha.aZ hg.good.ne h2,h4,h0];simp only;rcases hg.good.file n hmm with⟨hf,_⟩|⟨hf,_⟩
  ·rw[tZ aD,if_pos hf,if_pos hf,if_pos hf,alF];have hperm:=set_perm (x:=⟨n.path, -1,mode⟩) (JZ hg ha hT hS h2).2;rw[(JZ hg ha hT hS h2).1]at hperm;have hp2:(oL ns p++[(⟨n.path, -1,mode⟩:TN)]).Perm (⟨n.path, -1,mode⟩::oL ns p):=aiX _ _;have hal:=((ha.sub p).ab4 (n:=⟨n.path, -1,mode⟩) (show(-1:Int)<0 by decide));have hgood:=hg.good.UW hmm hf hm;rw[MK]at hgood;refine xK ((hal.aB9 hperm).aKF (by rw[MK]at hp2 ⊢;exact hp2)) ⟨?_,?_,fun m hm2 hf2=>?_⟩ aD hS
   ·(show pE (⟨n.path, -1,mode⟩::oL ns p));rw[MK];exact aqS hgood (by rw[MK]at hp2;exact hp2)
   ·(show((⟨n.path, -1,mode⟩:TN)::oL ns p).length<=256);have e1:=(set_perm (x:=⟨n.path, -1,mode⟩) (JZ hg ha hT hS h2).2).length_eq;have e2:=(hal.perm.length_eq);have e3:=hp2.length_eq;rw[kV]at e2;rw[(JZ hg ha hT hS h2).1,uR]at e1;omega
   rcases iX.1 hm2 with e|hm2
   ·subst e;exact absurd (show(-1:Int)<0 by decide) hf2
   exact hg.file m (oZ.subset hm2) hf2
  obtain⟨a,b,c⟩:=ha.file n hmm aD;have hG:=hg.file n hmm aD;rw[oM aD,if_neg (show ¬r n.file= -1 by omega),if_neg (show ¬r n.file= -1 by omega),if_neg aD];(have e1:zB (fs.set n.file.toNat ⟨mode,nI fs n.file⟩)=(zB fs).set n.file.toNat ⟨mode,(iK (zB fs) n.file).bs⟩:=by unfold zB;rw[II];congr 1;(show(⟨mode,nI fs n.file⟩:TF)=_);rw[<-av7];rfl);rw[c];refine xK (r:=r) (X:=(ns,fs.set n.file.toNat ⟨mode,nI fs n.file⟩)) ?_ ⟨hg.good,hg.few,fun m hm2 hf2=>?_⟩ (by rw[uR];omega) fun f hf2=>?_
  ·(show Alike _ _ _ ns (zB (fs.set n.file.toNat ⟨mode,nI fs n.file⟩)));rw[e1];exact ha.QJ (fun m hm hf=>(hg.file m hm hf).1) hmm aD _
  ·(show _<((zB (fs.set n.file.toNat ⟨mode,nI fs n.file⟩)).length:Int)/\_);have h7:=hg.file m hm2 hf2;rw[e1,uR,VX aD aD hG.1];refine⟨h7.1,?_⟩;by_cases e:m.file=n.file
   ·rw[if_pos e];exact⟨hG.2.1,hm⟩
   rw[if_neg e];exact h7.2
  rcases aiY hf2 with h7|h7
  ·exact hS f h7
  rw[h7];exact hG.2.1
 rw[if_neg h1];exact qC h1
end
end Go.Proofs.YteihmbaimbogaaaGreat
