/- Parts. -/
import Derived.Test.YtmjomdkleikgbaaGreatJ25
import Derived.Shelf.SortM.Plain
import Derived.Shelf.SortM.SortNone
import Derived.Sort.EncStr
set_option linter.unusedVariables false
set_option linter.unusedSimpArgs false
namespace Go.Proofs.YtmjomdkleikgbaaGreat
def XT (fs:List FT) (k:Int):Nat:=((fs[k.toNat]?).map fun f=>f.bs.length).getD 0
def dZ (ns:List TN) (K:Key):Nat:=(eB ns K).length
def uF (ns:List TN) (fs:List FT):Int:=fJ 1 (dZ ns [])+((kT ns).map fun n=>fJ 1 (dZ ns (aZ n))).sum+((fO ns).map fun k=>fJ 2 (XT fs k)).sum
def nP (ns:List TN):Int:=1+(kT ns).length+(fO ns).length
theorem MN {α:Type}:∀ {l:List α} {F:α->Int},(∀x∈l,F x=1)->(l.map F).sum=l.length
 |[],_,_=>rfl
 |a::t,F,h=>by rw[jW,uX,h a mO,MN fun x hx=>h x (vD _ hx),kM];omega
theorem G7 {α:Type}:∀ {l:List α} {F:α->Int},(∀x∈l,F x=0)->(l.map F).sum=0
 |[],_,_=>rfl
 |a::t,F,h=>by rw[jW,uX,h a mO,G7 fun x hx=>h x (vD _ hx)];rfl
theorem sum_add {α:Type} (F G:α->Int):∀(l:List α),(l.map fun x=>F x+G x).sum=(l.map F).sum+(l.map G).sum
 |[]=>rfl
 |a::t=>by rw[jW,uX,sum_add F G t,jW,uX,jW,uX];omega
theorem abI :∀ {l:List Key} {K:Key},l.Nodup->K∈l->(l.map fun L=>if K=L then(1:Int)else 0).sum=1
 |a::t,K,hu,hm=>by
  rw[wK]at hu;rw[jW,uX];rcases jU.1 hm with e|hm
  ·rw[if_pos e,G7 fun x hx=>if_neg fun e2=>hu.1 (by rw[<-e,e2];exact hx)];rfl
  rw[if_neg fun e=>hu.1 (by rw[<-e];exact hm),abI hu.2 hm];rfl
theorem abJ {l:List Key} (hu:l.Nodup):∀ {ns:List TN},(∀n∈ns,(aZ n).dropLast∈l)->(l.map fun K=>(dZ ns K:Int)).sum=ns.length
 |[],_=>G7 fun _ _=>rfl
 |n::t,h=>by
  have h1:(fun K=>(dZ (n::t) K:Int))=fun K=>(if(aZ n).dropLast=K then(1:Int)else 0)+(dZ t K:Int):=by
   funext K;unfold dZ eB;rw[zA];by_cases e:(aZ n).dropLast=K
   ·rw[if_pos (by simp[e]),if_pos e,kM];omega
   rw[if_neg (by simp[e]),if_neg e];omega
  rw[h1,sum_add,abI hu (h n mO),abJ hu fun m hm=>h m (vD _ hm),kM];omega
section
variable {g:LT} {nm:Nat} {ns:List TN} {fs:List FT} {dn:Key->Nat} {φ:Int->Nat}
theorem lL.dZ (h:lL g nm ns fs dn φ) {K:Key} (hK:dI ns K):(g (dn K)).bB.length=dZ ns K:=by rw[(h.bB K hK).length_eq,iT];rfl
theorem lL.vQ (h:lL g nm ns fs dn φ) {K:Key} (hK:dI ns K):(g (dn K)).kind=1/\(g (dn K)).size=Go.Proofs.YtmjomdkleikgbaaGreat.dZ ns K:=by have h1:=(h.zJ hK).2;refine⟨h1,?_⟩;unfold LI.size;rw[if_pos h1,h.dZ hK]
theorem lL.G8 (h:lL g nm ns fs dn φ) {k:Int} (hk:k∈fO ns):(g (φ k)).kind=2/\(g (φ k)).size=XT fs k:=by obtain⟨h1,n,hn,e⟩:=jR.1 hk;rw[<-e]at h1 ⊢;obtain⟨_,_,h3,⟨f,h4,_,h6⟩,_⟩:=h.file n hn h1;refine⟨h3,?_⟩;unfold LI.size XT;rw[if_neg (by rw[h3];decide),h4,h6];rfl
theorem G9 {n:TN} (hn:n∈kT ns):dI ns (aZ n):=.inr ⟨n,(iY.1 hn).1,rfl,(iY.1 hn).2⟩
theorem lL.wB (h:lL g nm ns fs dn φ) (hfair:∀i<nm,(g i).fair):tX (fun i=>fJ (g i).kind (g i).size) nm=uF ns fs:=by
 rw[h.sum (fun x=>fJ x.kind x.size) (fun x hx=>by unfold fJ;rw[hx];rfl) hfair];unfold uF;have h0:=h.vQ (.inl rfl);rw[h.root]at h0;rw[h0.1,h0.2];congr 1
 ·congr 1;congr 1;exact vW fun n hn=>by rw[(h.vQ (G9 hn)).1,(h.vQ (G9 hn)).2]
 congr 1;exact vW fun k hk=>by rw[(h.G8 hk).1,(h.G8 hk).2]
theorem lL.wI (h:lL g nm ns fs dn φ) (hfair:∀i<nm,(g i).fair):tX (fun i=>nG (g i).kind) nm=nP ns:=by rw[h.sum (fun x=>nG x.kind) (fun x hx=>by unfold nG;rw[hx];rfl) hfair,MN fun n hn=>by rw[(h.vQ (G9 hn)).1];rfl,MN fun k hk=>by rw[(h.G8 hk).1];rfl,h.rk];unfold nP nG;simp
theorem lL.count (h:lL g nm ns fs dn φ) (hfair:∀i<nm,(g i).fair):tX (fun i=>((g i).bB.length:Int)) nm=ns.length:=by
 rw[OP (g:=fun i=>if(g i).kind=1 then((g i).bB.length:Int)else 0) fun i hi=>by
  by_cases e:(g i).kind=1
  ·rw[if_pos e]
  rw[if_neg e,(hfair i hi).bB e];rfl]
 rw[h.sum (fun x=>if x.kind=1 then(x.bB.length:Int)else 0) (fun x hx=>if_neg aI) hfair];rw[G7 (F:=fun k=>if(g (φ k)).kind=1 then((g (φ k)).bB.length:Int)else 0) fun k hk=>if_neg (by rw[(h.G8 hk).1];decide),if_pos h.rk];have h0:=h.dZ (.inl rfl);rw[h.root]at h0;rw[h0];have hu:([]::(kT ns).map aZ).Nodup:=by rw[wK];refine⟨fun hm=>?_,h.uniq.sublist (ZJ _ FO)⟩;obtain⟨n,_,e⟩:=List.mem_map.1 hm;exact XQ n e
 have hs:=abJ hu (ns:=ns) fun n hn=>by
  rcases h.up n hn with e|⟨m,hm,e,hf⟩
  ·rw[e];exact mO
  rw[<-e];exact vD _ (List.mem_map.2 ⟨m,iY.2 ⟨hm,hf⟩,rfl⟩)
 rw[jW,uX,qU]at hs;rw[<-hs,Int.add_zero];congr 1;congr 1;exact vW fun n hn=>by rw[if_pos (h.vQ (G9 hn)).1,h.dZ (G9 hn)];rfl
theorem aoT {x:LI} (h:x.fair):(x.need:Int)<=fJ x.kind x.size:=by
 unfold LI.need fJ LI.size;have:=h.kind;by_cases k1:x.kind=1
 ·rw[if_pos k1,if_pos k1,if_pos k1];omega
 rw[if_neg k1,if_neg k1];by_cases k2:x.kind=2
 ·rw[if_pos k2,if_pos k2,if_neg k1];split<;>omega
 rw[if_neg k2,if_neg k2];decide
theorem xC :∀ {nm:Nat},(∀i<nm,(g i).fair)->(oL g nm:Int)<=tX (fun i=>fJ (g i).kind (g i).size) nm
 |0,_=>by simp[oL,tX]
 |n+1,h=>by rw[qF,oK];(have h1:=xC (nm:=n) fun i hi=>h i aI);have h2:=aoT (h n aI);omega
theorem dI.perm {ns':List TN} (p:ns.Perm ns') {K:Key}:dI ns K↔dI ns' K:=by
 unfold dI;constructor
 ·rintro(h|⟨n,hn,h⟩)
  ·exact .inl h
  exact .inr ⟨n,p.mem_iff.1 hn,h⟩
 rintro(h|⟨n,hn,h⟩)
 ·exact .inl h
 exact .inr ⟨n,p.mem_iff.2 hn,h⟩
theorem lL.perm (h:lL g nm ns fs dn φ) {ns':List TN} (p:ns.Perm ns'):lL g nm ns' fs dn φ where
 n0:=h.n0
 root:=h.root
 rk:=h.rk
 uniq:=(p.map aZ).nodup_iff.1 h.uniq
 up n hn:=(dI.perm p).1 (h.up n (p.mem_iff.2 hn))
 dir n hn:=h.dir n (p.mem_iff.2 hn)
 file n hn hf:=by have h1:=h.file n (p.mem_iff.2 hn) hf;rw[p.countP_eq]at h1;exact h1
 ne0 n hn:=h.ne0 n (p.mem_iff.2 hn)
 inj n hn m hm:=h.inj n (p.mem_iff.2 hn) m (p.mem_iff.2 hm)
 cover i hi hk:=(h.cover i hi hk).imp id fun⟨n,hn,e⟩=>⟨n,p.mem_iff.1 hn,e⟩
 bB K hK:=(h.bB K ((dI.perm p).2 hK)).trans ((p.filter _).map _)
theorem lL.congr (h:lL g nm ns fs dn φ) {g':LT} (hg:∀m,(g' m).kind=(g m).kind/\(g' m).mode=(g m).mode/\(g' m).links=(g m).links/\(g' m).data=(g m).data/\(g' m).bB.Perm (g m).bB):lL g' nm ns fs dn φ where
 n0:=h.n0
 root:=h.root
 rk:=by rw[(hg 0).1];exact h.rk
 uniq:=h.uniq
 up:=h.up
 dir n hn hf:=by rw[(hg _).1,(hg _).2.1,(hg _).2.2.1];exact h.dir n hn hf
 file n hn hf:=by rw[(hg _).1,(hg _).2.1,(hg _).2.2.1,(hg _).2.2.2.1];exact h.file n hn hf
 ne0:=h.ne0
 inj:=h.inj
 cover i hi hk:=h.cover i hi (by rw[<-(hg i).1];exact hk)
 bB K hK:=(hg _).2.2.2.2.trans (h.bB K hK)
theorem PQ :∀ {ns:List TN},(ns.map aZ).Nodup->∀ {n m:TN},n∈ns->m∈ns->aZ n=aZ m->n=m
 |a::t,hu,n,m,hn,hm,e=>by
  rw[jW,wK]at hu;rcases jU.1 hn with e1|hn
  ·rcases jU.1 hm with e2|hm
   ·rw[e1,e2]
   exact absurd (List.mem_map.2 ⟨m,hm,by rw[<-e,e1]⟩) hu.1
  rcases jU.1 hm with e2|hm
  ·exact absurd (List.mem_map.2 ⟨n,hn,by rw[e,e2]⟩) hu.1
  exact PQ hu.2 hn hm e
theorem lL.ah5 (h:lL g nm ns fs dn φ) {p:List UInt8} {n1:TN} (h1:n1∈ns) (hf1:n1.file≠ -1) (hP:dI ns (splitB p).dropLast) (hno:jQ ns (splitB p)=none):
  lL (dM (dM g (φ n1.file) {g (φ n1.file)with links:=(g (φ n1.file)).links+1}) (dn (splitB p).dropLast) ((g (dn (splitB p).dropLast)).more (aL p) (φ n1.file))) nm (ns++[⟨p,n1.file,0⟩]) fs dn φ:=by
 obtain⟨P,hPe⟩:∃P,P=(splitB p).dropLast:=⟨_,rfl⟩;rw[<-hPe]at hP ⊢;obtain⟨hd1,hd2⟩:=h.zJ hP;obtain⟨d,hd⟩:∃d,d=dn P:=⟨_,rfl⟩;rw[<-hd]at hd1 hd2 ⊢;obtain⟨n0,hn0⟩:∃n0:TN,n0=⟨p,n1.file,0⟩:=⟨_,rfl⟩;have hk0:aZ n0=splitB p:=by rw[hn0];rfl
 have hf0:n0.file=n1.file:=by rw[hn0]
 have hne1:n0.file≠ -1:=by rw[hf0];exact hf1
 rw[<-hn0];obtain⟨i,hi⟩:∃i,i=φ n1.file:=⟨_,rfl⟩;rw[<-hi];obtain⟨g',hg'⟩:∃g',g'=dM (dM g i {g i with links:=(g i).links+1}) d ((g d).more (aL p) i):=⟨_,rfl⟩;rw[<-hg'];have hF1:=h.file n1 h1 hf1;rw[<-hi]at hF1;have hid:i≠d:=fun e=>by have:=hF1.2.2.1;rw[e,hd2]at this;cases this
 have hi0:i≠0:=fun e=>by have:=hF1.2.2.1;rw[e,h.rk]at this;cases this
 have gd:g' d=(g d).more (aL p) i:=by rw[hg',bJ]
 have gi:g' i= {g i with links:=(g i).links+1}:=by rw[hg',bL _ _ hid,bJ]
 have go:∀m,m≠d->m≠i->g' m=g m:=fun m h1 h2=>by rw[hg',bL _ _ h1,bL _ _ h2]
 have gk:∀m,(g' m).kind=(g m).kind/\(g' m).mode=(g m).mode/\(g' m).data=(g m).data:=fun m=>by
  by_cases h1:m=d
  ·rw[h1,gd];exact⟨rfl,rfl,rfl⟩
  by_cases h2:m=i
  ·rw[h2,gi];exact⟨rfl,rfl,rfl⟩
  rw[go m h1 h2];exact⟨rfl,rfl,rfl⟩
 have gl:∀m,m≠i->(g' m).links=(g m).links:=fun m h2=>by
  by_cases h1:m=d
  ·rw[h1,gd];rfl
  rw[go m h1 h2]
 have i1:bY dn φ n1=i:=by unfold bY;rw[if_neg hf1,hi]
 have i0:bY dn φ n0=i:=by unfold bY;rw[if_neg hne1,hf0,hi]
 have dni:∀K,dI ns K->dn K≠i:=fun K hK e=>by have:=(h.zJ hK).2;rw[e,hF1.2.2.1]at this;cases this
 have akL:=uE hno;have SC:∀K,dI (ns++[n0]) K->dI ns K:=fun K hK=>by exact Z78
 have mem:∀n∈ns++[n0],n∈ns\/n=n0:=fun n hn=>by simpa using hn
 have lnk:∀n∈ns,n.file≠ -1->(g' (φ n.file)).links=(ns++[n0]).countP fun m=>decide (m.file=n.file):=fun n hn hf=>by
  have h7:=(h.file n hn hf).2.2.2.2;rw[ag9,KF,List.countP_nil];by_cases e:n.file=n1.file
  ·rw[e,<-hi,gi,if_pos (by simp[hf0])];(show(g i).links+1=_);rw[hF1.2.2.2.2]
  have hne:φ n.file≠i:=fun e2=>by
   (have e3:bY dn φ n=bY dn φ n1:=by rw[i1];unfold bY;rw[if_neg hf,e2]);rcases h.inj n hn n1 h1 e3 with h8|h8
   ·exact e (by rw[h8])
   exact e h8.2
  rw[gl _ hne,h7,if_neg (by simp only[uQ,hf0];exact fun e2=>e e2.symm)];rfl
 refine⟨h.n0,h.root,?_,?_,?_,?_,?_,?_,?_,?_,?_⟩
 ·rw[(gk 0).1];exact h.rk
 ·exact Z65
 ·intro n hn;rcases mem n hn with hn|en
  ·exact(h.up n hn).snoc _
  rw[en,hk0,<-hPe];exact hP.snoc _
 ·intro n hn hf;rcases mem n hn with hn|en
  ·have h1:=h.dir n hn hf;have h2:=gk (dn (aZ n));rw[h2.1,h2.2.1,gl _ (dni _ (.inr ⟨n,hn,rfl,hf⟩))];exact h1
  rw[en]at hf;exact absurd hf hne1
 ·intro n hn hf;have key:∃m∈ns,m.file=n.file:=by
   rcases mem n hn with hn|en
   ·exact⟨n,hn,rfl⟩
   exact⟨n1,h1,by rw[en,hf0]⟩
  obtain⟨m,hm,e⟩:=key;rw[<-e]at hf ⊢;obtain⟨h1,h2,h3,⟨f,h4,h5,h6⟩,h7⟩:=h.file m hm hf;have h8:=gk (φ m.file);refine⟨h1,h2,by rw[h8.1];exact h3,⟨f,h4,by rw[h8.2.1];exact h5,by rw[h8.2.2];exact h6⟩,lnk m hm hf⟩
 ·intro n hn;rcases mem n hn with hn|en
  ·exact h.ne0 n hn
  rw[en,i0];exact hi0
 ·intro n hn m hm e;rcases mem n hn with hn|en
  ·rcases mem m hm with hm|em
   ·exact h.inj n hn m hm e
   rw[em,i0,<-i1]at e;rw[em,hf0];rcases h.inj n hn n1 h1 e with h8|h8
   ·rw[h8];exact .inr ⟨hf1,rfl⟩
   exact .inr h8
  rcases mem m hm with hm|em
  ·rw[en,i0,<-i1]at e;rw[en,hf0];rcases h.inj n1 h1 m hm e with h8|h8
   ·rw[<-h8];exact .inr ⟨hf1,rfl⟩
   exact .inr h8
  exact .inl (by rw[en,em])
 ·intro m hm hk;rw[(gk m).1]at hk;rcases h.cover m hm hk with h1|⟨n,hn,h1⟩
  ·exact .inl h1
  exact .inr ⟨n,uT _ hn,h1⟩
 intro K hK;have hK':=SC K hK;rw[JN,mM];have hE:=h.bB K hK';exact Z6
theorem lL.aw3 {n:TN} (h:lL g nm (n::ns) fs dn φ) {x:LI} {ix:Nat} (hk:eB ns (aZ n)=[])
  (hx:(n.file≠ -1/\x= {g (bY dn φ n)with links:=(g (bY dn φ n)).links-1}/\∃m∈ns,m.file=n.file)\/(x=LI0/\∀m∈ns,bY dn φ m≠bY dn φ n))
  (hi:ix<(g (dn (aZ n).dropLast)).bB.length) (he:rT (g (dn (aZ n).dropLast)).bB ix=((aZ n).getLastD [],bY dn φ n)):
  lL (dM (dM g (dn (aZ n).dropLast) ((g (dn (aZ n).dropLast)).less ix)) (bY dn φ n) x) nm ns fs dn φ:=by
 obtain⟨P,hPe⟩:∃P,P=(aZ n).dropLast:=⟨_,rfl⟩;rw[<-hPe]at hi he ⊢;obtain⟨i,hie⟩:∃i,i=bY dn φ n:=⟨_,rfl⟩;rw[<-hie]at hx he ⊢;obtain⟨d,hd⟩:∃d,d=dn P:=⟨_,rfl⟩;rw[<-hd]at hi he ⊢;obtain⟨g',hg'⟩:∃g',g'=dM (dM g d ((g d).less ix)) i x:=⟨_,rfl⟩;rw[<-hg'];have hu:=h.uniq;rw[jW,wK]at hu;have hn0:n∈n::ns:=mO;have SC:∀K,dI ns K->dI (n::ns) K:=fun K hK=>by
  rcases hK with e|⟨m,hm,e⟩
  ·exact .inl e
  exact .inr ⟨m,vD _ hm,e⟩
 have aAR:∀K,dI (n::ns) K->K≠aZ n->dI ns K:=fun K hK hne=>by
  rcases hK with e|⟨m,hm,e,hf⟩
  ·exact .inl e
  rcases jU.1 hm with e2|hm
  ·rw[e2]at e;exact absurd e.symm hne
  exact .inr ⟨m,hm,e,hf⟩
 have hP:dI ns P:=aAR P (by rw[hPe];exact h.up n hn0) (by rw[hPe];exact AZ (XQ n));have hi0:i≠0:=by rw[hie];exact h.ne0 n hn0
 have aAS:n.file≠ -1->(g i).kind=2:=fun hf=>by
  rcases(h.G5 hn0).2 with⟨h1,_⟩|⟨_,h1⟩
  ·exact absurd h1 hf
  rw[hie];exact h1
 have dni:∀K,dI ns K->dn K≠i:=fun K hK e=>by
  rcases hx with⟨hf,_⟩|⟨_,hx⟩
  ·have:=(h.zJ (SC K hK)).2;rw[e,aAS hf]at this;cases this
  rcases hK with e1|⟨m,hm,e1,hf⟩
  ·rw[e1,h.root]at e;exact hi0 e.symm
  refine hx m hm ?_;unfold bY;rw[if_pos hf,e1,e]
 have hdi:d≠i:=by rw[hd];exact dni P hP
 have gi:g' i=x:=by rw[hg',bJ]
 have gd:g' d=(g d).less ix:=by rw[hg',bL _ _ hdi,bJ]
 have go:∀m,m≠d->m≠i->g' m=g m:=fun m h1 h2=>by rw[hg',bL _ _ h2,bL _ _ h1]
 have gk:∀m,m≠i->(g' m).kind=(g m).kind/\(g' m).mode=(g m).mode/\(g' m).links=(g m).links/\(g' m).data=(g m).data:=fun m h2=>by exact Z76
 have fi:∀m∈ns,m.file≠ -1->m.file≠n.file->φ m.file≠i:=fun m hm hf hne e=>by
  (have e1:bY dn φ m=bY dn φ n:=by rw[<-hie,<-e];unfold bY;rw[if_neg hf]);rcases h.inj m (vD _ hm) n hn0 e1 with h1|h1
  ·rw[h1]at hne;exact hne rfl
  exact hne h1.2
 refine⟨h.n0,h.root,?_,hu.2,?_,?_,?_,?_,?_,?_,?_⟩
 ·rw[(gk 0 (fun e=>hi0 e.symm)).1];exact h.rk
 ·intro m hm;(refine aAR _ (h.up m (vD _ hm)) fun e=>?_);have:m∈eB ns (aZ n):=List.mem_filter.2 ⟨hm,by simp[e]⟩;rw[hk]at this;cases this
 ·intro m hm hf;have h2:=gk (dn (aZ m)) (dni _ (.inr ⟨m,hm,rfl,hf⟩));rw[h2.1,h2.2.1,h2.2.2.1];exact h.dir m (vD _ hm) hf
 ·intro m hm hf;obtain⟨h1,h2,h3,h4,h7⟩:=h.file m (vD _ hm) hf;rw[KF]at h7;by_cases e:m.file=n.file
  ·rcases hx with⟨hfn,hx,_⟩|⟨_,hx⟩
   ·(have e1:φ m.file=i:=by rw[hie,e];unfold bY;rw[if_neg hfn]);rw[e1]at h2 h3 h4 h7 ⊢;rw[gi,hx];refine⟨h1,h2,h3,h4,?_⟩;rw[if_pos (by simp[e])]at h7;(show(g i).links-1=_);omega
   exfalso;refine hx m hm ?_;rw[hie];unfold bY;rw[<-e,if_neg hf,if_neg hf]
  have h8:=gk (φ m.file) (fi m hm hf e);rw[h8.1,h8.2.1,h8.2.2.1,h8.2.2.2];refine⟨h1,h2,h3,h4,?_⟩;rw[if_neg (by simp only[uQ];exact fun e2=>e e2.symm)]at h7;exact h7
 ·intro m hm;exact h.ne0 m (vD _ hm)
 ·intro m hm k hk e;exact h.inj m (vD _ hm) k (vD _ hk) e
 ·intro k hkm hkk;by_cases e:k=i
  ·rw[e,gi]at hkk;rcases hx with⟨hf,_,m,hm,hmf⟩|⟨hx,_⟩
   ·refine .inr ⟨m,hm,?_⟩;rw[e,hie];unfold bY;rw[hmf,if_neg hf,if_neg hf]
   rw[hx]at hkk;exact absurd rfl hkk
  rw[(gk k e).1]at hkk;rcases h.cover k hkm hkk with h1|⟨m,hm,h1⟩
  ·exact .inl h1
  rcases jU.1 hm with e2|hm
  ·rw[e2,<-hie]at h1;exact absurd h1.symm e
  exact .inr ⟨m,hm,h1⟩
 intro K hK;have hE:=h.bB K (SC K hK);by_cases e:P=K
 ·subst e;rw[<-hd]at hE ⊢;rw[gd];(have e1:eB (n::ns) P=n::eB ns P:=by unfold eB;rw[zA,if_pos (by simp[hPe])]);rw[e1,jW,<-hie]at hE;have h2:=sF hi;rw[he]at h2;exact(h2.symm.trans hE).cons_inv
 have e1:eB (n::ns) K=eB ns K:=by unfold eB;rw[zA,if_neg (by simp only[sZ];rw[<-hPe];exact e)]
 rw[e1]at hE;rw[go _ (fun e2=>e ?_) (dni K hK)]
 ·exact hE
 exact(h.XR (SC K hK) (SC P hP) (by rw[e2,hd])).symm
theorem lL.ah6 (h:lL g nm ns fs dn φ) {n:TN} (hn:n∈ns) (hf:n.file≠ -1) {mode:Nat} {bs:List UInt8}:
  lL (dM g (φ n.file) {g (φ n.file)with mode:=mode,data:=bs}) nm ns (fs.set n.file.toNat ⟨mode,bs⟩) dn φ:=by
 obtain⟨i,hi⟩:∃i,i=φ n.file:=⟨_,rfl⟩;rw[<-hi];obtain⟨g',hg'⟩:∃g',g'=dM g i {g i with mode:=mode,data:=bs}:=⟨_,rfl⟩;rw[<-hg'];have gi:g' i= {g i with mode:=mode,data:=bs}:=by rw[hg',bJ]
 have go:∀m,m≠i->g' m=g m:=fun m h2=>by rw[hg',bL _ _ h2]
 have gk:∀m,(g' m).kind=(g m).kind/\(g' m).links=(g m).links/\(g' m).bB=(g m).bB:=fun m=>by
  by_cases h2:m=i
  ·rw[h2,gi];exact⟨rfl,rfl,rfl⟩
  rw[go m h2];exact⟨rfl,rfl,rfl⟩
 have hF:=h.file n hn hf;rw[<-hi]at hF;have hlt:=h.ah3 hn hf;have dni:∀K,dI ns K->dn K≠i:=fun K hK e=>by have:=(h.zJ hK).2;rw[e,hF.2.2.1]at this;cases this
 refine⟨h.n0,h.root,by rw[(gk 0).1];exact h.rk,h.uniq,h.up,?_,?_,h.ne0,h.inj,fun k h1 h2=>h.cover k h1 (by rw[<-(gk k).1];exact h2),fun K hK=>by rw[(gk _).2.2];exact h.bB K hK⟩
 ·intro m hm hf;rw[go _ (dni _ (.inr ⟨m,hm,rfl,hf⟩))];exact h.dir m hm hf
 intro m hm hfm;obtain⟨h1,h2,h3,⟨f,h4,h5,h6⟩,h7⟩:=h.file m hm hfm;by_cases e:m.file=n.file
 ·rw[e,<-hi]at h2 h3 h7 ⊢;rw[gi];refine⟨hlt.1,h2,h3,⟨⟨mode,bs⟩,?_,rfl,rfl⟩,h7⟩;rw[MU aI]
 have hne:φ m.file≠i:=fun e2=>by
  (have e3:bY dn φ m=bY dn φ n:=by unfold bY;rw[if_neg hfm,if_neg hf,e2,hi]);rcases h.inj m hm n hn e3 with h8|h8
  ·exact e (by rw[h8])
  exact e h8.2
 rw[go _ hne];refine⟨h1,h2,h3,⟨f,?_,h5,h6⟩,h7⟩;rw[ZF aI];exact h4
theorem lL.aw4 {n:TN} (h:lL g nm (n::ns) fs dn φ) (hf:n.file= -1) {mode:Nat}:
  lL (dM g (dn (aZ n)) {g (dn (aZ n))with mode:=mode}) nm (⟨n.path, -1,mode⟩::ns) fs dn φ:=by
 obtain⟨n0,hn0⟩:∃n0:TN,n0=⟨n.path, -1,mode⟩:=⟨_,rfl⟩;rw[<-hn0];have hk0:aZ n0=aZ n:=by rw[hn0];rfl
 have hf0:n0.file= -1:=by rw[hn0]
 have hm0:n0.mode=mode:=by rw[hn0]
 obtain⟨i,hi⟩:∃i,i=dn (aZ n):=⟨_,rfl⟩;rw[<-hi];obtain⟨g',hg'⟩:∃g',g'=dM g i {g i with mode:=mode}:=⟨_,rfl⟩;rw[<-hg'];have gi:g' i= {g i with mode:=mode}:=by rw[hg',bJ]
 have go:∀m,m≠i->g' m=g m:=fun m h2=>by rw[hg',bL _ _ h2]
 have gk:∀m,(g' m).kind=(g m).kind/\(g' m).links=(g m).links/\(g' m).bB=(g m).bB/\(g' m).data=(g m).data:=fun m=>by
  by_cases h2:m=i
  ·rw[h2,gi];exact⟨rfl,rfl,rfl,rfl⟩
  rw[go m h2];exact⟨rfl,rfl,rfl,rfl⟩
 have i0:bY dn φ n0=bY dn φ n:=by unfold bY;rw[if_pos hf,if_pos hf0,hk0]
 have i1:bY dn φ n=i:=by unfold bY;rw[if_pos hf,hi]
 have old:∀m∈n0::ns,∃m'∈n::ns,aZ m'=aZ m/\m'.file=m.file/\bY dn φ m'=bY dn φ m/\(m=n0/\m'=n\/m=m'):=fun m hm=>by
  rcases jU.1 hm with e|hm
  ·exact⟨n,mO,by rw[e,hk0],by rw[e,hf0,hf],by rw[e,i0],.inl ⟨e,rfl⟩⟩
  exact⟨m,vD _ hm,rfl,rfl,rfl,.inr rfl⟩
 have aAU:∀K,dI (n0::ns) K↔dI (n::ns) K:=fun K=>by unfold dI;simp only[jU,exists_eq_or_imp,hk0,hf0,hf]
 have hu:=h.uniq;rw[jW,<-hk0,<-jW (f:=aZ)]at hu;have hcnt:∀k:Int,(n0::ns).countP (fun m=>decide (m.file=k))=(n::ns).countP fun m=>decide (m.file=k):=fun k=>by rw[KF,KF,hf0,hf]
 refine⟨h.n0,h.root,by rw[(gk 0).1];exact h.rk,hu,?_,?_,?_,?_,?_,?_,?_⟩
 ·intro m hm;obtain⟨m',hm',h1,h2,_⟩:=old m hm;rw[<-h1,aAU];exact h.up m' hm'
 ·intro m hm hfm;rw[(gk _).1,(gk _).2.1];rcases jU.1 hm with e|hm
  ·rw[e,hk0,<-hi,gi,hm0];have:=h.dir n mO hf;rw[<-hi]at this;exact⟨this.1,this.2.1,rfl,this.2.2.2⟩
  have h1:=h.dir m (vD _ hm) hfm;refine⟨h1.1,h1.2.1,?_,h1.2.2.2⟩;have hne:dn (aZ m)≠i:=fun e=>by
   (have e3:bY dn φ m=bY dn φ n:=by rw[i1];unfold bY;rw[if_pos hfm,e]);have h8:m=n:=by
    rcases h.inj m (vD _ hm) n mO e3 with h8|h8
    ·exact h8
    exact absurd hfm h8.1
   have hq:=h.uniq;rw[jW,wK]at hq;exact hq.1 (List.mem_map.2 ⟨m,hm,by rw[h8]⟩)
  rw[go _ hne];exact h1.2.2.1
 ·intro m hm hfm;have hm':m∈n::ns:=by
   rcases jU.1 hm with e|hm
   ·rw[e]at hfm;exact absurd hf0 hfm
   exact vD _ hm
  have h1:=h.file m hm' hfm;(have hne:φ m.file≠i:=fun e=>by have h2:=h.dir n mO hf;rw[<-hi,<-e,h1.2.2.1]at h2;cases h2.2.1);rw[go _ hne,hcnt];exact h1
 ·intro m hm;obtain⟨m',hm',h1,h2,h3,_⟩:=old m hm;rw[<-h3];exact h.ne0 m' hm'
 ·intro m hm k hk e;obtain⟨m',hm',h1,h2,h3,h4⟩:=old m hm;obtain⟨k',hk',j1,j2,j3,j4⟩:=old k hk;rcases h.inj m' hm' k' hk' (by rw[h3,j3,e])with h5|h5
  ·exact .inl (PQ hu hm hk (by rw[<-h1,<-j1,h5]))
  rw[h2,j2]at h5;exact .inr h5
 ·intro k h1 h2;rcases h.cover k h1 (by rw[<-(gk k).1];exact h2)with h3|⟨m,hm,h3⟩
  ·exact .inl h3
  rcases jU.1 hm with e|hm
  ·exact .inr ⟨n0,mO,by rw[i0,<-e,h3]⟩
  exact .inr ⟨m,vD _ hm,h3⟩
 intro K hK;rw[(gk _).2.2.1];have hE:=h.bB K ((aAU K).1 hK);have e1:(eB (n0::ns) K).map (fun n=>((aZ n).getLastD [],bY dn φ n))=(eB (n::ns) K).map fun n=>((aZ n).getLastD [],bY dn φ n):=by
  unfold eB;rw[zA,zA,hk0];split
  ·rw[jW,jW,hk0,i0]
  rfl
 rw[e1];exact hE
end
def iI (s:List UInt8):Bool:=decide (0<s.length)&&decide (s.length<=14)&& !dots s&&s.all fun c=>lG c.toNat
theorem rD (p:List UInt8):∃h t,splitB p=h::t:=by
 induction p with
 |nil=>exact⟨[],[],rfl⟩
 |cons c l ih=>
  obtain⟨h,t,e⟩:=ih;rw[iC];split
  ·exact⟨_,_,rfl⟩
  rw[e];exact⟨_,_,rfl⟩
theorem EO :∀(p:List UInt8) (n:Nat) (cur:List UInt8),(cur.all fun c=>lG c.toNat)=true->cur.length<=14->
  ∀h t,splitB p=h::t->F3 p n cur=(iI (cur++h)&&t.all iI&&decide (n+t.length<=6))
 |[],n,cur,hc,hl,h,t,e=>by cases e;unfold F3 iI;rw[yX42,hc];simp[hl]
 |c::cs,n,cur,hc,hl,h,t,e=>by
  obtain⟨h',t',e'⟩:=rD cs;rw[iC,e']at e;unfold F3;by_cases h47:c=47
  ·rw[if_pos h47]at e ⊢;cases e;have ih:=EO cs (n+1) [] bK bK h' t' e';rw[ih,yX42,mP];by_cases h0:cur.length=0\/dots cur=true
   ·rw[if_pos h0];have:iI cur=false:=by
     unfold iI;rcases h0 with h0|h0
     ·simp[h0]
     simp[h0]
    simp[this]
   rw[if_neg h0];(have:iI cur=true:=by unfold iI;rw[hc];simp only[not_or]at h0;simp only[Bool.and_true,rH,uQ,KE];refine⟨⟨by omega,hl⟩,by simpa using h0.2⟩);rw[this,List.all_cons,kM,Bool.true_and];(have e2:(n+1+t'.length<=6)↔(n+(t'.length+1)<=6):=by omega);simp only[e2]
  rw[if_neg h47]at e ⊢;cases e;by_cases hch:lG c.toNat=false
  ·rw[if_pos hch];(have:iI (cur++c::h')=false:=by unfold iI;rw[List.all_append,List.all_cons,hch];simp);rw[this];simp
  rw[if_neg hch];by_cases h14:14<cur.length+1
  ·rw[if_pos h14];(have:iI (cur++c::h')=false:=by unfold iI;(have:¬(cur++c::h').length<=14:=by simp;omega);simp only[this,decide_false,Bool.and_false,NA]);rw[this];simp
  rw[if_neg h14];have ih:=EO cs n (cur++[c]) (by rw[List.all_append,hc];simpa using hch) D7 h' _ e';rw[ih,nT];rfl
def LP (p:List UInt8):Bool:=decide (p.length<=100)&&(decide ((splitB p).length<=6)&&(splitB p).all iI)
theorem PR (p:List UInt8):p.length+1=((splitB p).map fun s=>s.length+1).sum:=by
 induction p with
 |nil=>rfl
 |cons c l ih=>
  obtain⟨h,t,e⟩:=rD l;rw[iC,e];rw[e]at ih;split
  ·simp only[jW,uX,kM,rF]at ih ⊢;omega
  simp only[jW,uX,kM]at ih ⊢;omega
theorem akP (l:List (List UInt8)) (h:l.all iI=true):(l.map fun s=>s.length+1).sum<=15*l.length:=by
 induction l with
 |nil=>simp
 |cons a l ih=>rw[List.all_cons,rH]at h;have:=ih h.2;(have h2:a.length<=14:=by have:=h.1;unfold iI at this;simp only[rH,uQ]at this;exact this.1.1.2);simp only[jW,uX,kM];omega
theorem uG (p:List UInt8):LP p=aU p:=by
 obtain⟨h,t,e⟩:=rD p;have hv:aU p=(decide ((splitB p).length<=6)&&(splitB p).all iI):=by unfold aU;rw[EO p 1 [] bK bK h t e,e,mP,List.all_cons,kM,Bool.and_comm];(have e2:(1+t.length<=6)↔(t.length+1<=6):=by omega);simp only[e2]
 unfold LP;rw[hv];cases hx:(decide ((splitB p).length<=6)&&(splitB p).all iI)with
 |false=>simp
 |true=>rw[rH,uQ]at hx;have h1:=PR p;have h2:=akP _ hx.2;(have h3:p.length<=100:=by omega);simp[h3]
theorem qI {p:List UInt8} (h:aU p=true):(aL p).length<=14:=by
 rw[<-uG]at h;unfold LP at h;simp only[rH]at h;have hm:aL p∈splitB p:=by have:=yC p;rw[this];exact Y7 _ bK
 have:=List.all_eq_true.1 h.2.2 _ hm;unfold iI at this;simp only[rH,uQ]at this;exact this.1.1.2
def zK (ns:List TN) (K:Key):Except Int (Option TN):=(nN ns K.dropLast.length K.dropLast).bind fun c=>if kS c=true then .ok (jQ ns K)else .error 22
structure Vt (S:VS) (ns:List TN) (fs:List FT) (g:LT) (dn:Key->Nat) (φ:Int->Nat):Prop where
 iJ:Vol S g
 rep:lL g S.names ns fs dn φ
 m:S.m=0
section
variable {S:VS} {g:LT} {ns:List TN} {fs:List FT} {dn:Key->Nat} {φ:Int->Nat}
theorem Vt.nodes (h:Vt S ns fs g dn φ):S.nodes=ns.length:=by rw[h.iJ.ph.nodes,h.rep.count h.iJ.ph.fair]
theorem Vt.wI (h:Vt S ns fs g dn φ):S.wI=nP ns:=by rw[h.iJ.ph.wI,h.rep.wI h.iJ.ph.fair]
theorem lL.aAV {nm:Nat} (h:lL g nm ns fs dn φ) (hfair:∀i<nm,(g i).fair):∀n<nm,∀e∈(g n).bB,e.2<nm:=fun n hn e he=>by
 by_cases hk:(g n).kind=1
 ·have hD:∃K,dI ns K/\dn K=n:=by
   rcases h.cover n hn (by rw[hk];decide)with e1|⟨m,hm,e1⟩
   ·exact⟨[],.inl rfl,by rw[h.root,e1]⟩
   rcases(h.G5 hm).2 with⟨hf,_⟩|⟨_,h2⟩
   ·refine⟨aZ m,.inr ⟨m,hm,rfl,hf⟩,?_⟩;unfold bY at e1;rw[if_pos hf]at e1;exact e1
   rw[e1,hk]at h2;cases h2
  obtain⟨K,hK,e1⟩:=hD;rw[<-e1]at he;have:=(h.bB K hK).mem_iff.1 he;obtain⟨m,hm,e2⟩:=List.mem_map.1 this;rw[<-e2];exact(h.G5 (List.mem_filter.1 hm).1).1
 rw[(hfair n hn).bB hk]at he;cases he
theorem Vt.of {S1:VS} {nm:Nat} {g':LT} {ns':List TN} {fs':List FT} {dn':Key->Nat} {φ':Int->Nat} (hp:dB S1 g') (hr:lL g' nm ns' fs' dn' φ') (hnm:S1.names=nm) (hlen:ns'.length<=256) (hB:S1.rB=S1.count) (hI:S1.rI=S1.names) (hm:S1.m=0):Vt S1 ns' fs' g' dn' φ':=by subst hnm;exact⟨⟨hp,hr.aAV hp.fair,hr.rk,by rw[hp.nodes,hr.count hp.fair];omega,hB,hI⟩,hr,hm⟩
theorem iE (h:lL g S.names ns fs dn φ) {K:Key} {x:Option TN} (ha:zK ns K= .ok x):dI ns K.dropLast/\x=jQ ns K/\∃c,nN ns K.dropLast.length K.dropLast= .ok c/\kS c=true:=by
 unfold zK at ha;cases hc:nN ns K.dropLast.length K.dropLast with
 |error e=>rw[hc]at ha;cases ha
 |ok c=>
  rw[hc]at ha;change (if kS c=true then Except.ok (jQ ns K)else Except.error 22)= .ok x at ha;by_cases hd:kS c=true
  ·rw[if_pos hd]at ha;cases ha;refine⟨?_,rfl,c,rfl,hd⟩;rcases xB h hc with⟨_,e⟩|⟨n,e,hn,hk⟩
   ·exact .inl e
   rw[e]at hd;exact .inr ⟨n,hn,hk,by simpa[kS]using hd⟩
  rw[if_neg hd]at ha;cases ha
theorem akQ (h:lL g S.names ns fs dn φ) {K:Key} {c:Option TN} (hc:nN ns K.length K= .ok c) (hd:kS c=true):aeZ dn φ c=dn K:=by
 rcases xB h hc with⟨e,e2⟩|⟨n,e,hn,hk⟩
 ·rw[e,e2];exact h.root.symm
 rw[e]at hd ⊢;have hf:n.file= -1:=by simpa[kS]using hd
 show bY dn φ n=_
 unfold bY;rw[if_pos hf,hk]
theorem abK (h:lL g S.names ns fs dn φ) {K:Key} {c:Option TN} (hc:nN ns K.length K= .ok c):kS c=true↔(g (aeZ dn φ c)).kind=1:=by
 rcases xB h hc with⟨e,e2⟩|⟨n,e,hn,hk⟩
 ·rw[e];exact⟨fun _=>h.rk,fun _=>rfl⟩
 rw[e];show decide (n.file= -1)=true↔(g (bY dn φ n)).kind=1
 rw[uQ];rcases(h.G5 hn).2 with⟨h1,h2⟩|⟨h1,h2⟩
 ·exact⟨fun _=>h2,fun _=>h1⟩
 exact⟨fun e=>absurd e h1,fun e=>by rw[h2]at e;cases e⟩
theorem Vt.look (h:Vt S ns fs g dn φ) (p:List UInt8):aP S.cur S.data 0 0 (splitB p)=match zK ns (splitB p)with
  | .error e=>(0,0,e)
  | .ok none=>((dn (splitB p).dropLast:Int), -1,0)
  | .ok (some n)=>((dn (splitB p).dropLast:Int),(bY dn φ n:Int),0):=by
 obtain⟨P,hP⟩:∃P,P=(splitB p).dropLast:=⟨_,rfl⟩;have hs:splitB p=P++[aL p]:=by rw[hP];exact yC p
 rw[<-hP,hs,PM h.iJ _ _ _ _ h.iJ.ph.n0,h.rep.walk P.length P rfl];unfold zK;rw[YZ];cases hc:nN ns P.length P with
 |error e=>rfl
 |ok c=>
  show aoR g (aL p) (.ok (aeZ dn φ c))=match (if kS c=true then Except.ok (jQ ns (P++[aL p]))else Except.error 22:Except Int (Option TN))with
   | .error e=>((0:Int),(0:Int),e)
   | .ok none=>((dn P:Int), -1,0)
   | .ok (some n)=>((dn P:Int),(bY dn φ n:Int),0)
  have hk:=abK (S:=S) h.rep hc;unfold aoR;by_cases hd:kS c=true
  ·have hi:=akQ (S:=S) h.rep hc hd;have hK:dI ns P:=by
    rcases xB h.rep hc with⟨_,e⟩|⟨n,e,hn,hk⟩
    ·exact .inl e
    rw[e]at hd;exact .inr ⟨n,hn,hk,by simpa[kS]using hd⟩
   simp only[if_pos hd,if_pos (hk.1 hd)];rw[hi,h.rep.find hK];cases jQ ns (P++[aL p])<;>rfl
  simp only[if_neg hd,if_neg fun e=>hd (hk.2 e)]
def Agr (m:Nat) (φ φ':Int->Nat):Prop:=∀k:Int,k≠(m:Int)->φ' k=φ k
def yU (φ:Int->Nat) (m:Nat) (S:VS) (r:Except Int (Option VS)) (ns':List TN) (fs':List FT):Prop:=
 ∃x,r= .ok x/\(x=none->S.rB<uF ns' fs'\/S.rI<nP ns')/\∀S1,x=some S1->pY S.cur S1/\ns'.length<=256/\∃g' dn' φ',Chg S g' S1/\lL g' S.names ns' fs' dn' φ'/\Agr m φ φ'
def LQ (ns:List TN) (p:List UInt8):Int:=match zK ns (splitB p)with
 | .error e=>e
 | .ok (some _)=>23
 | .ok none=>if ns.length<256 then 0 else 31
theorem UR {ns:List TN}:∀(k:Nat) (K:Key) {e:Int},nN ns k K= .error e->e=21\/e=22
 |0,K,e,h=>by cases h
 |k+1,K,e,h=>by
  unfold nN at h;cases h1:nN ns k K.dropLast with
  |error e1=>rw[h1]at h;cases h;exact UR k _ h1
  |ok c=>
   rw[h1]at h;change stepT ns K c= .error e at h;unfold stepT at h;split at h
   ·split at h
    ·cases h
    cases h;exact .inl rfl
   cases h;exact .inr rfl
theorem qP {ns:List TN} {K:Key} {e:Int} (h:zK ns K= .error e):e=21\/e=22:=by
 unfold zK at h;cases hc:nN ns K.dropLast.length K.dropLast with
 |error e1=>rw[hc]at h;cases h;exact UR _ _ hc
 |ok c=>
  rw[hc]at h;change (if kS c=true then Except.ok (jQ ns K)else Except.error 22)= .error e at h;split at h
  ·cases h
  cases h;exact .inr rfl
theorem PS :∀ {ns:List TN} {n:TN},n.file= -1->fO (ns++[n])=fO ns
 |[],n,h=>by(show fO [n]=[]);unfold fO;rw[if_pos (.inl h)];rfl
 |a::t,n,h=>by rw[kN];unfold fO;rw[PS h]
theorem PT :∀ {ns:List TN} {n:TN},n.file≠ -1->(∀m∈ns,m.file≠n.file)->fO (ns++[n])=fO ns++[n.file]
 |[],n,h,_=>by(show fO [n]=[n.file]);unfold fO;rw[if_neg (by rw[not_or];exact⟨h,by simp[fO]⟩)];rfl
 |a::t,n,h,hm=>by
  have ha:=hm a mO;rw[kN];unfold fO;rw[PT h fun m hmm=>hm m (vD _ hmm)];by_cases e:a.file= -1\/a.file∈fO t
  ·rw[if_pos e,if_pos (e.imp id fun h=>uT _ h)]
  rw[if_neg e,if_neg (fun e2=>e (e2.imp id fun h=>(iM.1 h).resolve_right fun h2=>ha (by rwa [rW]at h2))),kN]
def vR (ns:List TN) (fs:List FT) (kind mode:Nat) (p:List UInt8):List TN:=ns++[if kind=1 then⟨p, -1,mode⟩else⟨p,fs.length,0⟩]
def PU (fs:List FT) (kind mode:Nat) (bs:List UInt8):List FT:=if kind=1 then fs else fs++[⟨mode,bs⟩]
theorem akR {ns:List TN} {fs:List FT} {kind mode:Nat} {p:List UInt8} (h:∀n∈ns,n.file≠ -1->n.file<fs.length):nP (vR ns fs kind mode p)=nP ns+1:=by
 unfold nP vR;by_cases hk:kind=1
 ·rw[if_pos hk,PS rfl];unfold kT;rw[FH];simp;omega
 rw[if_neg hk];have hne:(fs.length:Int)≠ -1:=by omega
 rw[PT (n:=⟨p,fs.length,0⟩) hne fun m hm e=>by have e':m.file=(fs.length:Int):=e;have:=h m hm aI;omega];unfold kT;rw[FH];have e:([⟨p,fs.length,0⟩]:List TN).filter (fun n=>decide (n.file= -1))=[]:=by rw[zA,if_neg (by simp only[uQ];exact hne)];rfl
 rw[e];simp;omega
theorem Vt.aw5 (h:Vt S ns fs g dn φ) {kind mode:Nat} {p bs:List UInt8} (hkd:kind=1/\bs=[]\/kind=2) {i:Nat} (hi:i<S.names) (h0:(g i).kind=0) (ha:zK ns (splitB p)= .ok none):
  ∃dn' φ',lL (dM (dM g i (nO kind mode bs)) (dn (splitB p).dropLast) ((g (dn (splitB p).dropLast)).more (aL p) i)) S.names (vR ns fs kind mode p) (PU fs kind mode bs) dn' φ'/\Agr fs.length φ φ':=by
 obtain⟨hP,hno,_⟩:=iE (S:=S) h.rep ha;rcases hkd with⟨rfl,rfl⟩|rfl
 ·exact⟨_,_,h.rep.aw2 hi h0 hP hno.symm,fun _ _=>rfl⟩
 exact⟨_,_,h.rep.as9 hi h0 hP hno.symm,fun k hk=>if_neg hk⟩
theorem Z33 {P:Prop} (h:P:=by have e1:(bY dn φ n:Int)= -1:=congrArg (fun x:Int×Int×Int=>x.2.1) hd;omega):P:=h
theorem Vt.new (h:Vt S ns fs g dn φ) {kind mode:Nat} {p bs:List UInt8} (hkd:kind=1/\bs=[]\/kind=2) (hv:aU p=true) (hp:p.length<=1048576) (hmode:mode<65536) (hbs:bs.length<=8192):
  (∀d:Nat,aP S.cur S.data 0 0 (splitB p)=((d:Int), -1,0)->S.nodes<256->uB S (⟨kind,mode,1,0,[]⟩:VI) bs d p)/\
  ((LQ ns p≠0/\JJ S p (⟨kind,mode,1,0,[]⟩:VI) bs= .error (LQ ns p))\/(LQ ns p=0/\yU φ fs.length S (JJ S p (⟨kind,mode,1,0,[]⟩:VI) bs) (vR ns fs kind mode p) (PU fs kind mode bs))):=by
 have hL:=h.look p;have hbase:(aL p).length<=15:=by have:=qI hv;omega
 unfold LQ JJ;cases ha:zK ns (splitB p)with
 |error e=>
  rw[ha]at hL;have he:=qP ha;simp only at hL;rw[hL];refine⟨fun d hd=>?_,.inl ⟨by show e≠0;omega,?_⟩⟩
  ·have e1:(0:Int)= -1:=congrArg (fun x:Int×Int×Int=>x.2.1) hd;exact absurd e1 aR
  unfold fQ;rw[if_neg (show ¬e=0 by omega)]
 |ok x=>
  cases x with
  |some n=>
   rw[ha]at hL;simp only at hL;rw[hL];refine⟨fun d hd=>?_,.inl ⟨by show(23:Int)≠0;decide,?_⟩⟩
   ·exact Z33
   unfold fQ;rw[if_pos (show(0:Int)=0 from rfl),if_neg (show ¬(bY dn φ n:Int)<0 by omega)]
  |none=>
   rw[ha]at hL;simp only at hL;rw[hL];obtain⟨hP,hno,_⟩:=iE (S:=S) h.rep ha;obtain⟨hd1,hd2⟩:=h.rep.zJ hP;obtain⟨d,hd⟩:∃d,d=dn (splitB p).dropLast:=⟨_,rfl⟩;(have hone:=fun i=>h.aw5 (i:=i) (mode:=mode) hkd (p:=p));rw[<-hd]at hd1 hd2 hone ⊢;(have hsz:S.nodes<256->(g d).bB.length<448:=fun hn=>by have:=h.iJ.ph.XO hd1;omega);(have aoU:=fun hn:S.nodes<256=>h.iJ.ph.made h.m ⟨h.iJ.rB,h.iJ.rI⟩ (kind:=kind) (dir:=d) (mode:=mode) (path:=p) (bs:=bs) hkd hd1 hd2 (hsz hn) hv hp hbase hmode hbs);have hnn:=h.nodes;refine⟨fun d' hd' hn=>?_,?_⟩
   ·have e1:(d:Int)=d':=congrArg (fun x:Int×Int×Int=>x.1) hd';(have e2:d=d':=by omega);rw[<-e2];exact(aoU hn).1
   have e0:fQ ((d:Int),(-1:Int),(0:Int))=none:=rfl;rw[e0];by_cases hn:ns.length<256
   ·(have hn':S.nodes<256:=by omega);simp only[if_pos hn,if_pos hn'];refine .inr ⟨trivial,_,rfl,?_,?_⟩
    ·intro hx;rw[lM]at hx;rcases(aoU hn').2 with⟨h1,_⟩|⟨i,hi,_,h2⟩
     ·--no inode is free
      right;have hall:=h.iJ.ph.akM h1;have h3:S.wI=S.names:=by
       rw[h.iJ.ph.wI];have e:∀i<S.names,nG (g i).kind=1:=fun i hi=>by
        have:=hall i hi;have:=(h.iJ.ph.fair i hi).kind;unfold nG;split
        ·rfl
        rw[if_pos aI]
       (have e2:=yB (f:=fun n=>nG (g n).kind) (n:=S.names) (a:=1) (b:=1) fun i hi=>by rw[e i hi];omega);omega
      have h4:=h.wI;(have h5:nP (vR ns fs kind mode p)=nP ns+1:=akR fun n hn hf=>(h.rep.ah3 hn hf).2);rw[h.iJ.rI];omega
     left;obtain⟨hi1,hi0⟩:=h.iJ.ph.CS hi;obtain⟨dn',φ',hR,hAg⟩:=hone i hi1 hi0 ha;have h3:=h2 hx;have hfair:∀j<S.names,(dM (dM g i (nO kind mode bs)) d ((g d).more (aL p) i) j).fair:=fun j hj=>by
      by_cases e1:j=d
      ·rw[e1,bJ];exact LI.CJ (h.iJ.ph.fair d hd1) hd2 (hsz hn') hbase (by have:=h.iJ.ph.pJ;omega)
      rw[bL _ _ e1];by_cases e2:j=i
      ·rw[e2,bJ];exact ae2 hkd hmode hbs
      rw[bL _ _ e2];exact h.iJ.ph.fair j hj
     have h4:=xC hfair;rw[hR.wB hfair]at h4;rw[h.iJ.rB];omega
    intro S1 hS1;rw[lM]at hS1;rcases(aoU hn').2 with⟨_,h1⟩|⟨i,hi,h1,_⟩
    ·rw[h1]at hS1;cases hS1
    obtain⟨hi1,hi0⟩:=h.iJ.ph.CS hi;obtain⟨dn',φ',hR,hAg⟩:=hone i hi1 hi0 ha;refine⟨(pY.refl S).jV hS1,?_,_,dn',φ',h1 S1 hS1,hR,hAg⟩;unfold vR;rw[jJ,nZ];omega
   (have hn':¬S.nodes<256:=by omega);simp only[if_neg hn,if_neg hn'];exact .inl ⟨by decide,trivial⟩
end
open Go.RowKit
theorem heap_sorted {α:Type} [Inhabited α] (enc:α->Value) (w:World) (g n:Nat) (d:Array α) (os:Array Obj) (b:Nat) (hb:b<w.heap.size):
  (Go.Proofs.sortWorld enc w g 0 n d os).heap[b]? =if g=b then w.heap[b]?.map (Go.Sort.onCells (Go.Sort.putCells enc 0 d))else w.heap[b]? :=by
 exact Z34
theorem Sep.sorted {α:Type} [Inhabited α] (enc:α->Value) {w0 w:World} {As:List aV} {e:TypeId} {g m cap:Nat} {cs:List Value} (k:Nat) (h:Sep w0 w As)
  (hi:As[k]? =some (.sl e 1 (sV g m cap) m cs)) (n:Nat) (d:Array α) (hd:d.size=m) (os:Array Obj):
  Sep w0 (Go.Proofs.sortWorld enc w g 0 n d os) (As.set k (.sl e 1 (sV g m cap) m (d.toList.map enc))):=by
 refine h.step k hi fun F ⟨ho,hF⟩ _=>⟨F,⟨⟨by simp[hd],?_⟩,hF⟩,fun b hb=>.inl hb,?_⟩
 ·rcases ho.2 with⟨h',_⟩|⟨g',cap',cur,h',hb,hg,hc,hm,hs,ht⟩
  ·simp at h'
  simp only[Value.slice.injEq,TJ,Addr.mk.injEq,and_true,true_and]at h';obtain⟨rfl,rfl⟩:=h';refine .inr ⟨g,cap,Go.Sort.putCells enc 0 d cur,rfl,hb,?_,hc,hm,by simpa[Go.Sort.putCells]using hs,?_⟩
  ·rw[heap_sorted enc w g n d os g (lt_of_heap hg),if_pos rfl,hg];rfl
  apply FI;intro i;by_cases hi:i<m
  ·(have hc2:i<cur.size:=by omega);simp[Go.Sort.putCells,hd,hi,hc2]
  rw[EE D7,EE D7]
 refine⟨rfl,rfl,rfl,by simp[Go.Proofs.sortWorld,Go.Sort.grow,Go.Sort.putRow,Go.Sort.mapBlock,Go.Sort.ahead],fun b hb hn=>?_⟩;rw[heap_sorted enc w g n d os b hb,if_neg];intro e;subst e;exact hn (by rw[hF];simp[Value.ownBlock])
def rU (v:Value) (ps:List (List UInt8)):aV:=.sl 9 1 v ps.length (ps.map aC)
def yV (ps:List (List UInt8)):List (List UInt8):=ps.mergeSort fun x y=>decide (x<=y)
theorem PV (ps:List (List UInt8)):(yV ps).Perm ps:=List.mergeSort_perm _ _
theorem aoV (ps:List (List UInt8)):(yV ps).Pairwise fun x y=>x<=y:=by have h:=List.pairwise_mergeSort (le:=fun(x y:List UInt8)=>decide (x<=y)) (fun a b c h1 h2=>by simp only[uQ]at h1 h2 ⊢;exact List.le_trans h1 h2) (fun a b=>by simp only[LC,uQ];exact List.le_total a b) ps;exact h.imp fun h=>by simpa using h
theorem ae4 {w0 w:World} {As:List aV} {g n c:Nat} {ps:List (List UInt8)} (k:Nat) (h:Sep w0 w As) (hk:As[k]? =some (.sl 9 1 (sV g n c) n (ps.map aC))) (hn:ps.length=n):Go.Sort.Holds Go.Proofs.encStr w g 0 ps.toArray:=fun j hj=>by
 have hj':j<ps.length:=by simpa using hj
 rw[I6];refine⟨?_,h.frozenAt k hk j⟩;rw[h.cellAt k hk j aI,getElem!_pos _ j hj];simp[hj'];rfl
theorem XU {w0 w:World} {As:List aV} {v:Value} {ps:List (List UInt8)} (k:Nat) (h:Sep w0 w As) (hk:As[k]? =some (rU v ps)) (hl:ps.length<=1048576):
  Calls Tryz.prog 109 #[v] w fun e w'=>e= .returned (.tuple #[])/\Sep w0 w' (As.set k (rU v (yV ps))):=by
 have hlen:(yV ps).length=ps.length:=(PV ps).length_eq;rcases xN ps.length with h0|hpos
 ·obtain rfl:ps=[]:=uR h0;obtain⟨A,c,rfl,_⟩:=(h.rd k hk).shape;have hcon:=Go.Proofs.AnyM.slices_Sort_string_none Go.Proofs.Tryz.sortStrings A c w;change Calls Tryz.prog 109 _ _ _ at hcon;refine hcon.mono ?_;rintro e w' ⟨rfl,rfl⟩;refine⟨rfl,?_⟩;obtain⟨hlt,e⟩:=gF.1 hk;have e2:yV []=[]:=uR (by rw[hlen];rfl);rw[e2,<-e,ZA];exact h
 obtain⟨g,c,rfl,_,hg,_⟩:=h.jX k hk hpos;have hH:=ae4 k h hk rfl;have hcon:=Go.Proofs.AnyM.slices_Sort_string Go.Proofs.Tryz.sortStrings g 0 c ps w hH hg aI;change Calls Tryz.prog 109 _ _ _ at hcon;refine hcon.mono ?_;rintro e w' ⟨rfl,n,os,rfl⟩;refine⟨rfl,?_⟩;have hS:=h.sorted (α:=List UInt8) Go.Proofs.encStr k hk n (yV ps).toArray (by simpa using hlen) os;have e1:rU (sV g ps.length c) (yV ps)= .sl 9 1 (sV g ps.length c) ps.length ((yV ps).toArray.toList.map Go.Proofs.encStr):=by unfold rU;rw[hlen];rfl
 rw[e1];exact hS
end Go.Proofs.YtmjomdkleikgbaaGreat
