/- Parts. -/
import Derived.Test.YteihmbaimbogaaaGreatJ25
set_option linter.unusedVariables false
set_option linter.unusedSimpArgs false
namespace Go.Proofs.YteihmbaimbogaaaGreat
def DX (c:fO) (S:VS):Prop:=∃ks:List Nat,ks.length<=S.m/\∀k,k∉ks->bk S.cur k=bk c k
def sN (c:fO) (S:VS):Prop:=DX c S/\bk S.cur 0=bk c 0
section
variable {c:fO} {S S1:VS}
theorem DX.refl (S:VS):DX S.cur S:=⟨[],iF _,fun _ _=>rfl⟩
theorem DX.put (h:DX c S) (k:Nat) (bs:List UInt8):DX c (S.put k bs):=by
 obtain⟨ks,h1,h2⟩:=h;refine⟨k::ks,by show ks.length+1<=S.m+1;omega,fun j hj=>?_⟩;rw[iX,not_or]at hj;show bk (S.cur.set k bs) j=_
 rw[dN _ _ hj.1,h2 j hj.2]
theorem DX.keep (h:DX c S) (n:Nat) (x:VI):DX c (S.keep n x):=by
 obtain⟨ks,h1,h2⟩:=h;refine⟨(2+n/8)::ks,by show ks.length+1<=S.m+1;omega,fun j hj=>?_⟩;rw[iX,not_or]at hj;show bk (vE S.cur n x) j=_
 rw[EL _ _ hj.1,h2 j hj.2]
theorem sN.refl (S:VS):sN S.cur S:=⟨DX.refl S,rfl⟩
theorem sN.put (h:sN c S) {k:Nat} (hk:0<k) (bs:List UInt8):sN c (S.put k bs):=⟨h.1.put k bs,(dN _ _ aD).trans h.2⟩
theorem sN.node (h:sN c S) (z:Int):sN c (S.node z):=h
theorem sN.keep (h:sN c S) (n:Nat) (x:VI):sN c (S.keep n x):=⟨h.1.keep n x,(EL _ _ aD).trans h.2⟩
theorem sN.jA (h:sN c S) (s i:Nat) (name:List UInt8) (n:Nat):sN c (S.jA s i name n):=h.put (by unfold VS.data;omega) _
theorem sN.lD {l l1:List Nat} {n:Nat} (h:sN c S) (hf:lD S l n=some (S1,l1)):sN c S1:=by
 have hd:∀(k:Nat) (S:VS) (l:List Nat),sN c S->sN c (o6 k S l).1:=fun k=>by
  induction k with
  |zero=>exact fun S l h=>h
  |succ k ih=>exact fun S l h=>ih _ _ (h.put Nat.one_pos _)
 have hu:∀(k:Nat) (S:VS) (l:List Nat) {S1:VS} {l1:List Nat},sN c S->QB k S l=some (S1,l1)->sN c S1:=fun k=>by
  induction k with
  |zero=>intro S l S1 l1 h e;cases e;exact h
  |succ k ih=>
   intro S l S1 l1 h e;unfold QB at e;split at e
   ·cases e
   exact ih _ _ (h.put Nat.one_pos _) e
 exact hu _ _ _ (hd _ _ _ h) hf
theorem sN.nN (bs:List UInt8):∀(l:List Nat) (k:Nat) {S:VS},sN c S->sN c (nN bs l k S)
 |[],_,_,h=>h
 |s::l,k,_,h=>sN.nN bs l (k+1) (h.put (by unfold VS.data;omega) _)
theorem sN.jI {n:Nat} {bs:List UInt8} (h:sN c S) (hf:jI S n bs=some S1):sN c S1:=by
 unfold Go.Proofs.YteihmbaimbogaaaGreat.jI at hf;split at hf
 ·cases hf
 rename_i S2 l h1;cases hf;exact((h.lD h1).nN bs l 0).keep n _
theorem sN.iN {dir n:Nat} {name:List UInt8} (h:sN c S) (hf:iN S dir name n=some S1):sN c S1:=by
 unfold Go.Proofs.YteihmbaimbogaaaGreat.iN at hf;split at hf
 ·cases hf
 rename_i S2 l h1;cases hf;exact(((h.node _).lD h1).keep dir _).jA _ _ _ _
theorem sN.dH (h:sN c S) (dir:Nat) (name:List UInt8):sN c (dH S dir name):=by
 have h2:sN c (JD S (aH S.cur dir) name):=(h.jA _ _ _ _).jA _ _ _ _;unfold Go.Proofs.YteihmbaimbogaaaGreat.dH;simp only;split
 ·exact h2
 rename_i S4 l h1;exact((h2.node _).lD h1).keep dir _
theorem sN.oF (h:sN c S) (n:Nat):sN c (oF S n):=by obtain⟨S2,h1,h2⟩:=EJ (S:=S) (n:=n);rw[h2];exact(h.lD h1).keep n _
theorem sN.lT {x:VI} {bs:List UInt8} {dir:Nat} {name:List UInt8} (h:sN c S) (hf:lT S x bs dir name=some S1):sN c S1:=by
 unfold Go.Proofs.YteihmbaimbogaaaGreat.lT at hf;split at hf
 ·cases hf
 rename_i n h1;split at hf
 ·split at hf
  ·cases hf
  exact sN.iN (((h.put Nat.one_pos _).put (by unfold VS.data;omega) _).keep _ _) hf
 unfold nY at hf;split at hf
 ·cases hf
 rename_i S2 h2;exact((h.keep _ _).jI h2).iN hf
theorem DX.puts (h:DX (S.D.now.drop 96) S):(jR S).length<=S.m:=by
 obtain⟨ks,h1,h2⟩:=h;have h3:(jR S).length=(((List.range (S.nb-96)).filter fun k=>bk S.cur k !=bk S.D.now (96+k))).length:=kV _;rw[h3];refine PS (anW ((List.nodup_range).filter _) fun k hk=>?_) h1;have h4:=(List.mem_filter.1 hk).2;refine Classical.byContradiction fun hno=>?_
 have h5:=h2 k hno;rw[vM]at h5;rw[h5]at h4;simp at h4
theorem dK.with {g:LT} (h:dK S g) (D:DK) (m:Nat):dK {S with D:=D,m:=m} g:=
 ⟨⟨h.use.cur,⟨h.use.vf.names,h.use.vf.room⟩,h.use.nb⟩,h.n0,h.fair,h.head,h.len,h.lt,h.nodup,h.dis,h.bits,h.bJ,h.data,h.wB,h.wI,h.nodes⟩
theorem yH (hD:S.D.ok S.nb) (J9:96<S.nb) (aeY:l8 (S.nb-96) S.cur) (qJ:DX (S.D.now.drop 96) S) (hm:S.m<=40) (hc:S.bL.2=true):S.settled.base.cur=S.cur:=by
 have hp:(jR S).length<=40:=PS qJ.puts hm;have hok:=YX hD J9 aeY hp;show S.bL.1.now.drop 96=S.cur
 refine YH (by rw[pU,hok.now.len,aeY.len]) fun k h1 h2=>?_
 have hk:k<S.nb-96:=by rw[<-aeY.len];exact h2
 have:=RU hD.now.len hp hc hk;unfold bk at this;rw[gH,gH,gE h2,gE (by rw[pU]at h1;omega)]at this;rw[ad9];exact this
theorem dK.settled {g:LT} (h:dK S g) (hD:S.D.ok S.nb) (J9:96<S.nb) (qJ:DX (S.D.now.drop 96) S) (hm:S.m<=40) (hc:S.bL.2=true):dK S.settled.base g:=by
 have e:S.settled.base= {S with D:=S.bL.1,m:=0}:=by have:=yH hD J9 h.use.cur qJ hm hc;(show({S with D:=S.bL.1,cur:=S.settled.base.cur,m:=0}:VS)=_);rw[this]
 rw[e];exact h.with _ _
end
def afZ (fs:List FT) (k:Int):Nat:=((fs[k.toNat]?).map fun f=>f.bs.length).getD 0
def iI (ns:List TN) (K:Key):Nat:=(iR ns K).length
def zV (ns:List TN) (fs:List FT):Int:=kD 1 (iI ns [])+((sS ns).map fun n=>kD 1 (iI ns (bW n))).sum+((iW ns).map fun k=>kD 2 (afZ fs k)).sum
def sU (ns:List TN):Int:=1+(sS ns).length+(iW ns).length
theorem QI {α:Type}:∀ {l:List α} {F:α->Int},(∀x∈l,F x=1)->(l.map F).sum=l.length
 |[],_,_=>rfl
 |a::t,F,h=>by rw[mH,BD,h a sK,QI fun x hx=>h x (AY _ hx),nV];omega
theorem LJ {α:Type}:∀ {l:List α} {F:α->Int},(∀x∈l,F x=0)->(l.map F).sum=0
 |[],_,_=>rfl
 |a::t,F,h=>by rw[mH,BD,h a sK,LJ fun x hx=>h x (AY _ hx)];rfl
theorem sum_add {α:Type} (F G:α->Int):∀(l:List α),(l.map fun x=>F x+G x).sum=(l.map F).sum+(l.map G).sum
 |[]=>rfl
 |a::t=>by rw[mH,BD,sum_add F G t,mH,BD,mH,BD];omega
theorem af2 :∀ {l:List Key} {K:Key},l.Nodup->K∈l->(l.map fun L=>if K=L then(1:Int)else 0).sum=1
 |a::t,K,hu,hm=>by
  rw[I9]at hu;rw[mH,BD];rcases iX.1 hm with e|hm
  ·rw[if_pos e,LJ fun x hx=>if_neg fun e2=>hu.1 (by rw[<-e,e2];exact hx)];rfl
  rw[if_neg fun e=>hu.1 (by rw[<-e];exact hm),af2 hu.2 hm];rfl
theorem af3 {l:List Key} (hu:l.Nodup):∀ {ns:List TN},(∀n∈ns,(bW n).dropLast∈l)->(l.map fun K=>(iI ns K:Int)).sum=ns.length
 |[],_=>LJ fun _ _=>rfl
 |n::t,h=>by
  have h1:(fun K=>(iI (n::t) K:Int))=fun K=>(if(bW n).dropLast=K then(1:Int)else 0)+(iI t K:Int):=by
   funext K;unfold iI iR;rw[zG];by_cases e:(bW n).dropLast=K
   ·rw[if_pos (by simp[e]),if_pos e,nV];omega
   rw[if_neg (by simp[e]),if_neg e];omega
  rw[h1,sum_add,af2 hu (h n sK),af3 hu fun m hm=>h m (AY _ hm),nV];omega
section
variable {g:LT} {nm:Nat} {ns:List TN} {fs:List FT} {dn:Key->Nat} {φ:Int->Nat}
theorem nL.iI (h:nL g nm ns fs dn φ) {K:Key} (hK:fE ns K):(g (dn K)).bJ.length=iI ns K:=by rw[(h.bJ K hK).length_eq,kV];rfl
theorem nL.yI (h:nL g nm ns fs dn φ) {K:Key} (hK:fE ns K):(g (dn K)).kind=1/\(g (dn K)).size=Go.Proofs.YteihmbaimbogaaaGreat.iI ns K:=by have h1:=(h.ET hK).2;refine⟨h1,?_⟩;unfold LI.size;rw[if_pos h1,h.iI hK]
theorem nL.LK (h:nL g nm ns fs dn φ) {k:Int} (hk:k∈iW ns):(g (φ k)).kind=2/\(g (φ k)).size=afZ fs k:=by obtain⟨h1,n,hn,e⟩:=nH.1 hk;rw[<-e]at h1 ⊢;obtain⟨_,_,h3,⟨f,h4,_,h6⟩,_⟩:=h.file n hn h1;refine⟨h3,?_⟩;unfold LI.size afZ;rw[if_neg (by rw[h3];decide),h4,h6];rfl
theorem LM {n:TN} (hn:n∈sS ns):fE ns (bW n):=.inr ⟨n,(jO.1 hn).1,rfl,(jO.1 hn).2⟩
theorem nL.wB (h:nL g nm ns fs dn φ) (hfair:∀i<nm,(g i).fair):uD (fun i=>kD (g i).kind (g i).size) nm=zV ns fs:=by
 rw[h.sum (fun x=>kD x.kind x.size) (fun x hx=>by unfold kD;rw[hx];rfl) hfair];unfold zV;have h0:=h.yI (.inl rfl);rw[h.root]at h0;rw[h0.1,h0.2];congr 1
 ·congr 1;congr 1;exact BA fun n hn=>by rw[(h.yI (LM hn)).1,(h.yI (LM hn)).2]
 congr 1;exact BA fun k hk=>by rw[(h.LK hk).1,(h.LK hk).2]
theorem nL.wI (h:nL g nm ns fs dn φ) (hfair:∀i<nm,(g i).fair):uD (fun i=>nP (g i).kind) nm=sU ns:=by rw[h.sum (fun x=>nP x.kind) (fun x hx=>by unfold nP;rw[hx];rfl) hfair,QI fun n hn=>by rw[(h.yI (LM hn)).1];rfl,QI fun k hk=>by rw[(h.LK hk).1];rfl,h.rk];unfold sU nP;simp
theorem nL.count (h:nL g nm ns fs dn φ) (hfair:∀i<nm,(g i).fair):uD (fun i=>((g i).bJ.length:Int)) nm=ns.length:=by
 rw[BP (g:=fun i=>if(g i).kind=1 then((g i).bJ.length:Int)else 0) fun i hi=>by
  by_cases e:(g i).kind=1
  ·rw[if_pos e]
  rw[if_neg e,(hfair i hi).bJ e];rfl]
 rw[h.sum (fun x=>if x.kind=1 then(x.bJ.length:Int)else 0) (fun x hx=>if_neg aD) hfair];rw[LJ (F:=fun k=>if(g (φ k)).kind=1 then((g (φ k)).bJ.length:Int)else 0) fun k hk=>if_neg (by rw[(h.LK hk).1];decide),if_pos h.rk];have h0:=h.iI (.inl rfl);rw[h.root]at h0;rw[h0];have hu:([]::(sS ns).map bW).Nodup:=by rw[I9];refine⟨fun hm=>?_,h.uniq.sublist (List.Sublist.map _ Q5)⟩;obtain⟨n,_,e⟩:=List.mem_map.1 hm;exact ab1 n e
 have hs:=af3 hu (ns:=ns) fun n hn=>by
  rcases h.up n hn with e|⟨m,hm,e,hf⟩
  ·rw[e];exact sK
  rw[<-e];exact AY _ (List.mem_map.2 ⟨m,jO.2 ⟨hm,hf⟩,rfl⟩)
 rw[mH,BD,DR]at hs;rw[<-hs,Int.add_zero];congr 1;congr 1;exact BA fun n hn=>by rw[if_pos (h.yI (LM hn)).1,h.iI (LM hn)];rfl
theorem atS {x:LI} (h:x.fair):(x.need:Int)<=kD x.kind x.size:=by
 unfold LI.need kD LI.size;have:=h.kind;by_cases k1:x.kind=1
 ·rw[if_pos k1,if_pos k1,if_pos k1];omega
 rw[if_neg k1,if_neg k1];by_cases k2:x.kind=2
 ·rw[if_pos k2,if_pos k2,if_neg k1];split<;>omega
 rw[if_neg k2,if_neg k2];decide
theorem zW :∀ {nm:Nat},(∀i<nm,(g i).fair)->(qU g nm:Int)<=uD (fun i=>kD (g i).kind (g i).size) nm
 |0,_=>by simp[qU,uD]
 |n+1,h=>by rw[tN,kZ];(have h1:=zW (nm:=n) fun i hi=>h i aD);have h2:=atS (h n aD);omega
theorem fE.perm {ns':List TN} (p:ns.Perm ns') {K:Key}:fE ns K↔fE ns' K:=by
 unfold fE;constructor
 ·rintro(h|⟨n,hn,h⟩)
  ·exact .inl h
  exact .inr ⟨n,p.mem_iff.1 hn,h⟩
 rintro(h|⟨n,hn,h⟩)
 ·exact .inl h
 exact .inr ⟨n,p.mem_iff.2 hn,h⟩
theorem nL.perm (h:nL g nm ns fs dn φ) {ns':List TN} (p:ns.Perm ns'):nL g nm ns' fs dn φ where
 n0:=h.n0
 root:=h.root
 rk:=h.rk
 uniq:=(p.map bW).nodup_iff.1 h.uniq
 up n hn:=(fE.perm p).1 (h.up n (p.mem_iff.2 hn))
 dir n hn:=h.dir n (p.mem_iff.2 hn)
 file n hn hf:=by have h1:=h.file n (p.mem_iff.2 hn) hf;rw[p.countP_eq]at h1;exact h1
 ne0 n hn:=h.ne0 n (p.mem_iff.2 hn)
 inj n hn m hm:=h.inj n (p.mem_iff.2 hn) m (p.mem_iff.2 hm)
 cover i hi hk:=(h.cover i hi hk).imp id fun⟨n,hn,e⟩=>⟨n,p.mem_iff.1 hn,e⟩
 bJ K hK:=(h.bJ K ((fE.perm p).2 hK)).trans ((p.filter _).map _)
theorem nL.congr (h:nL g nm ns fs dn φ) {g':LT} (hg:∀m,(g' m).kind=(g m).kind/\(g' m).mode=(g m).mode/\(g' m).links=(g m).links/\(g' m).data=(g m).data/\(g' m).bJ.Perm (g m).bJ):nL g' nm ns fs dn φ where
 n0:=h.n0
 root:=h.root
 rk:=by rw[(hg 0).1];exact h.rk
 uniq:=h.uniq
 up:=h.up
 dir n hn hf:=by rw[(hg _).1,(hg _).2.1,(hg _).2.2.1];exact h.dir n hn hf
 file n hn hf:=by rw[(hg _).1,(hg _).2.1,(hg _).2.2.1,(hg _).2.2.2.1];exact h.file n hn hf
 ne0:=h.ne0
 inj:=h.inj
 cover i hi hk:=h.cover i hi (by rw[<-(hg i).1];exact hk)
 bJ K hK:=(hg _).2.2.2.2.trans (h.bJ K hK)
theorem UH :∀ {ns:List TN},(ns.map bW).Nodup->∀ {n m:TN},n∈ns->m∈ns->bW n=bW m->n=m
 |a::t,hu,n,m,hn,hm,e=>by
  rw[mH,I9]at hu;rcases iX.1 hn with e1|hn
  ·rcases iX.1 hm with e2|hm
   ·rw[e1,e2]
   exact absurd (List.mem_map.2 ⟨m,hm,by rw[<-e,e1]⟩) hu.1
  rcases iX.1 hm with e2|hm
  ·exact absurd (List.mem_map.2 ⟨n,hn,by rw[e,e2]⟩) hu.1
  exact UH hu.2 hn hm e
theorem nL.LP (h:nL g nm ns fs dn φ) {p:List UInt8} {n1:TN} (h1:n1∈ns) (hf1:n1.file≠ -1) (hP:fE ns (splitB p).dropLast) (hno:kG ns (splitB p)=none):
  nL (dS (dS g (φ n1.file) {g (φ n1.file)with links:=(g (φ n1.file)).links+1}) (dn (splitB p).dropLast) ((g (dn (splitB p).dropLast)).more (aM p) (φ n1.file))) nm (ns++[⟨p,n1.file,0⟩]) fs dn φ:=by
 obtain⟨P,hPe⟩:∃P,P=(splitB p).dropLast:=⟨_,rfl⟩;rw[<-hPe]at hP ⊢;obtain⟨hd1,hd2⟩:=h.ET hP;obtain⟨d,hd⟩:∃d,d=dn P:=⟨_,rfl⟩;rw[<-hd]at hd1 hd2 ⊢;obtain⟨n0,hn0⟩:∃n0:TN,n0=⟨p,n1.file,0⟩:=⟨_,rfl⟩;have hk0:bW n0=splitB p:=by rw[hn0];rfl
 have hf0:n0.file=n1.file:=by rw[hn0]
 have hne1:n0.file≠ -1:=by rw[hf0];exact hf1
 rw[<-hn0];obtain⟨i,hi⟩:∃i,i=φ n1.file:=⟨_,rfl⟩;rw[<-hi];obtain⟨g',hg'⟩:∃g',g'=dS (dS g i {g i with links:=(g i).links+1}) d ((g d).more (aM p) i):=⟨_,rfl⟩;rw[<-hg'];have hF1:=h.file n1 h1 hf1;rw[<-hi]at hF1;have hid:i≠d:=fun e=>by have:=hF1.2.2.1;rw[e,hd2]at this;cases this
 have hi0:i≠0:=fun e=>by have:=hF1.2.2.1;rw[e,h.rk]at this;cases this
 have gd:g' d=(g d).more (aM p) i:=by rw[hg',bV]
 have gi:g' i= {g i with links:=(g i).links+1}:=by rw[hg',bX _ _ hid,bV]
 have go:∀m,m≠d->m≠i->g' m=g m:=fun m h1 h2=>by rw[hg',bX _ _ h1,bX _ _ h2]
 have gk:∀m,(g' m).kind=(g m).kind/\(g' m).mode=(g m).mode/\(g' m).data=(g m).data:=fun m=>by
  by_cases h1:m=d
  ·rw[h1,gd];exact⟨rfl,rfl,rfl⟩
  by_cases h2:m=i
  ·rw[h2,gi];exact⟨rfl,rfl,rfl⟩
  rw[go m h1 h2];exact⟨rfl,rfl,rfl⟩
 have gl:∀m,m≠i->(g' m).links=(g m).links:=fun m h2=>by
  by_cases h1:m=d
  ·rw[h1,gd];rfl
  rw[go m h1 h2]
 have i1:dD dn φ n1=i:=by unfold dD;rw[if_neg hf1,hi]
 have i0:dD dn φ n0=i:=by unfold dD;rw[if_neg hne1,hf0,hi]
 have dni:∀K,fE ns K->dn K≠i:=fun K hK e=>by have:=(h.ET hK).2;rw[e,hF1.2.2.1]at this;cases this
 have apE:=xB hno;have XR:∀K,fE (ns++[n0]) K->fE ns K:=fun K hK=>by exact aHZ
 have mem:∀n∈ns++[n0],n∈ns\/n=n0:=fun n hn=>by simpa using hn
 have lnk:∀n∈ns,n.file≠ -1->(g' (φ n.file)).links=(ns++[n0]).countP fun m=>decide (m.file=n.file):=fun n hn hf=>by
  have h7:=(h.file n hn hf).2.2.2.2;rw[al8,N9,List.countP_nil];by_cases e:n.file=n1.file
  ·rw[e,<-hi,gi,if_pos (by simp[hf0])];(show(g i).links+1=_);rw[hF1.2.2.2.2]
  have hne:φ n.file≠i:=fun e2=>by
   (have e3:dD dn φ n=dD dn φ n1:=by rw[i1];unfold dD;rw[if_neg hf,e2]);rcases h.inj n hn n1 h1 e3 with h8|h8
   ·exact e (by rw[h8])
   exact e h8.2
  rw[gl _ hne,h7,if_neg (by simp only[uP,hf0];exact fun e2=>e e2.symm)];rfl
 refine⟨h.n0,h.root,?_,?_,?_,?_,?_,?_,?_,?_,?_⟩
 ·rw[(gk 0).1];exact h.rk
 ·exact Z84
 ·intro n hn;rcases mem n hn with hn|en
  ·exact(h.up n hn).snoc _
  rw[en,hk0,<-hPe];exact hP.snoc _
 ·intro n hn hf;rcases mem n hn with hn|en
  ·have h1:=h.dir n hn hf;have h2:=gk (dn (bW n));rw[h2.1,h2.2.1,gl _ (dni _ (.inr ⟨n,hn,rfl,hf⟩))];exact h1
  rw[en]at hf;exact absurd hf hne1
 ·intro n hn hf;have key:∃m∈ns,m.file=n.file:=by
   rcases mem n hn with hn|en
   ·exact⟨n,hn,rfl⟩
   exact⟨n1,h1,by rw[en,hf0]⟩
  obtain⟨m,hm,e⟩:=key;rw[<-e]at hf ⊢;obtain⟨h1,h2,h3,⟨f,h4,h5,h6⟩,h7⟩:=h.file m hm hf;have h8:=gk (φ m.file);refine⟨h1,h2,by rw[h8.1];exact h3,⟨f,h4,by rw[h8.2.1];exact h5,by rw[h8.2.2];exact h6⟩,lnk m hm hf⟩
 ·intro n hn;rcases mem n hn with hn|en
  ·exact h.ne0 n hn
  rw[en,i0];exact hi0
 ·intro n hn m hm e;rcases mem n hn with hn|en
  ·rcases mem m hm with hm|em
   ·exact h.inj n hn m hm e
   rw[em,i0,<-i1]at e;rw[em,hf0];rcases h.inj n hn n1 h1 e with h8|h8
   ·rw[h8];exact .inr ⟨hf1,rfl⟩
   exact .inr h8
  rcases mem m hm with hm|em
  ·rw[en,i0,<-i1]at e;rw[en,hf0];rcases h.inj n1 h1 m hm e with h8|h8
   ·rw[<-h8];exact .inr ⟨hf1,rfl⟩
   exact .inr h8
  exact .inl (by rw[en,em])
 ·intro m hm hk;rw[(gk m).1]at hk;rcases h.cover m hm hk with h1|⟨n,hn,h1⟩
  ·exact .inl h1
  exact .inr ⟨n,G9 _ hn,h1⟩
 intro K hK;have hK':=XR K hK;rw[ND,kT];have hE:=h.bJ K hK';exact Z10
theorem nL.aCZ {n:TN} (h:nL g nm (n::ns) fs dn φ) {x:LI} {ix:Nat} (hk:iR ns (bW n)=[])
  (hx:(n.file≠ -1/\x= {g (dD dn φ n)with links:=(g (dD dn φ n)).links-1}/\∃m∈ns,m.file=n.file)\/(x=LI0/\∀m∈ns,dD dn φ m≠dD dn φ n))
  (hi:ix<(g (dn (bW n).dropLast)).bJ.length) (he:vC (g (dn (bW n).dropLast)).bJ ix=((bW n).getLastD [],dD dn φ n)):
  nL (dS (dS g (dn (bW n).dropLast) ((g (dn (bW n).dropLast)).less ix)) (dD dn φ n) x) nm ns fs dn φ:=by
 obtain⟨P,hPe⟩:∃P,P=(bW n).dropLast:=⟨_,rfl⟩;rw[<-hPe]at hi he ⊢;obtain⟨i,hie⟩:∃i,i=dD dn φ n:=⟨_,rfl⟩;rw[<-hie]at hx he ⊢;obtain⟨d,hd⟩:∃d,d=dn P:=⟨_,rfl⟩;rw[<-hd]at hi he ⊢;obtain⟨g',hg'⟩:∃g',g'=dS (dS g d ((g d).less ix)) i x:=⟨_,rfl⟩;rw[<-hg'];have hu:=h.uniq;rw[mH,I9]at hu;have hn0:n∈n::ns:=sK;have XR:∀K,fE ns K->fE (n::ns) K:=fun K hK=>by
  rcases hK with e|⟨m,hm,e⟩
  ·exact .inl e
  exact .inr ⟨m,AY _ hm,e⟩
 have aH3:∀K,fE (n::ns) K->K≠bW n->fE ns K:=fun K hK hne=>by
  rcases hK with e|⟨m,hm,e,hf⟩
  ·exact .inl e
  rcases iX.1 hm with e2|hm
  ·rw[e2]at e;exact absurd e.symm hne
  exact .inr ⟨m,hm,e,hf⟩
 have hP:fE ns P:=aH3 P (by rw[hPe];exact h.up n hn0) (by rw[hPe];exact EU (ab1 n));have hi0:i≠0:=by rw[hie];exact h.ne0 n hn0
 have aH4:n.file≠ -1->(g i).kind=2:=fun hf=>by
  rcases(h.LG hn0).2 with⟨h1,_⟩|⟨_,h1⟩
  ·exact absurd h1 hf
  rw[hie];exact h1
 have dni:∀K,fE ns K->dn K≠i:=fun K hK e=>by
  rcases hx with⟨hf,_⟩|⟨_,hx⟩
  ·have:=(h.ET (XR K hK)).2;rw[e,aH4 hf]at this;cases this
  rcases hK with e1|⟨m,hm,e1,hf⟩
  ·rw[e1,h.root]at e;exact hi0 e.symm
  refine hx m hm ?_;unfold dD;rw[if_pos hf,e1,e]
 have hdi:d≠i:=by rw[hd];exact dni P hP
 have gi:g' i=x:=by rw[hg',bV]
 have gd:g' d=(g d).less ix:=by rw[hg',bX _ _ hdi,bV]
 have go:∀m,m≠d->m≠i->g' m=g m:=fun m h1 h2=>by rw[hg',bX _ _ h2,bX _ _ h1]
 have gk:∀m,m≠i->(g' m).kind=(g m).kind/\(g' m).mode=(g m).mode/\(g' m).links=(g m).links/\(g' m).data=(g m).data:=fun m h2=>by exact aCY
 have fi:∀m∈ns,m.file≠ -1->m.file≠n.file->φ m.file≠i:=fun m hm hf hne e=>by
  (have e1:dD dn φ m=dD dn φ n:=by rw[<-hie,<-e];unfold dD;rw[if_neg hf]);rcases h.inj m (AY _ hm) n hn0 e1 with h1|h1
  ·rw[h1]at hne;exact hne rfl
  exact hne h1.2
 refine⟨h.n0,h.root,?_,hu.2,?_,?_,?_,?_,?_,?_,?_⟩
 ·rw[(gk 0 (fun e=>hi0 e.symm)).1];exact h.rk
 ·intro m hm;(refine aH3 _ (h.up m (AY _ hm)) fun e=>?_);have:m∈iR ns (bW n):=List.mem_filter.2 ⟨hm,by simp[e]⟩;rw[hk]at this;cases this
 ·intro m hm hf;have h2:=gk (dn (bW m)) (dni _ (.inr ⟨m,hm,rfl,hf⟩));rw[h2.1,h2.2.1,h2.2.2.1];exact h.dir m (AY _ hm) hf
 ·intro m hm hf;obtain⟨h1,h2,h3,h4,h7⟩:=h.file m (AY _ hm) hf;rw[N9]at h7;by_cases e:m.file=n.file
  ·rcases hx with⟨hfn,hx,_⟩|⟨_,hx⟩
   ·(have e1:φ m.file=i:=by rw[hie,e];unfold dD;rw[if_neg hfn]);rw[e1]at h2 h3 h4 h7 ⊢;rw[gi,hx];refine⟨h1,h2,h3,h4,?_⟩;rw[if_pos (by simp[e])]at h7;(show(g i).links-1=_);omega
   exfalso;refine hx m hm ?_;rw[hie];unfold dD;rw[<-e,if_neg hf,if_neg hf]
  have h8:=gk (φ m.file) (fi m hm hf e);rw[h8.1,h8.2.1,h8.2.2.1,h8.2.2.2];refine⟨h1,h2,h3,h4,?_⟩;rw[if_neg (by simp only[uP];exact fun e2=>e e2.symm)]at h7;exact h7
 ·intro m hm;exact h.ne0 m (AY _ hm)
 ·intro m hm k hk e;exact h.inj m (AY _ hm) k (AY _ hk) e
 ·intro k hkm hkk;by_cases e:k=i
  ·rw[e,gi]at hkk;rcases hx with⟨hf,_,m,hm,MN⟩|⟨hx,_⟩
   ·refine .inr ⟨m,hm,?_⟩;rw[e,hie];unfold dD;rw[MN,if_neg hf,if_neg hf]
   rw[hx]at hkk;exact absurd rfl hkk
  rw[(gk k e).1]at hkk;rcases h.cover k hkm hkk with h1|⟨m,hm,h1⟩
  ·exact .inl h1
  rcases iX.1 hm with e2|hm
  ·rw[e2,<-hie]at h1;exact absurd h1.symm e
  exact .inr ⟨m,hm,h1⟩
 intro K hK;have hE:=h.bJ K (XR K hK);by_cases e:P=K
 ·subst e;rw[<-hd]at hE ⊢;rw[gd];(have e1:iR (n::ns) P=n::iR ns P:=by unfold iR;rw[zG,if_pos (by simp[hPe])]);rw[e1,mH,<-hie]at hE;have h2:=vN hi;rw[he]at h2;exact(h2.symm.trans hE).cons_inv
 have e1:iR (n::ns) K=iR ns K:=by unfold iR;rw[zG,if_neg (by simp only[rJ];rw[<-hPe];exact e)]
 rw[e1]at hE;rw[go _ (fun e2=>e ?_) (dni K hK)]
 ·exact hE
 exact(h.ab2 (XR K hK) (XR P hP) (by rw[e2,hd])).symm
theorem nL.QJ (h:nL g nm ns fs dn φ) {n:TN} (hn:n∈ns) (hf:n.file≠ -1) {mode:Nat} {bs:List UInt8}:
  nL (dS g (φ n.file) {g (φ n.file)with mode:=mode,data:=bs}) nm ns (fs.set n.file.toNat ⟨mode,bs⟩) dn φ:=by
 obtain⟨i,hi⟩:∃i,i=φ n.file:=⟨_,rfl⟩;rw[<-hi];obtain⟨g',hg'⟩:∃g',g'=dS g i {g i with mode:=mode,data:=bs}:=⟨_,rfl⟩;rw[<-hg'];have gi:g' i= {g i with mode:=mode,data:=bs}:=by rw[hg',bV]
 have go:∀m,m≠i->g' m=g m:=fun m h2=>by rw[hg',bX _ _ h2]
 have gk:∀m,(g' m).kind=(g m).kind/\(g' m).links=(g m).links/\(g' m).bJ=(g m).bJ:=fun m=>by
  by_cases h2:m=i
  ·rw[h2,gi];exact⟨rfl,rfl,rfl⟩
  rw[go m h2];exact⟨rfl,rfl,rfl⟩
 have hF:=h.file n hn hf;rw[<-hi]at hF;have hlt:=h.ZG hn hf;have dni:∀K,fE ns K->dn K≠i:=fun K hK e=>by have:=(h.ET hK).2;rw[e,hF.2.2.1]at this;cases this
 refine⟨h.n0,h.root,by rw[(gk 0).1];exact h.rk,h.uniq,h.up,?_,?_,h.ne0,h.inj,fun k h1 h2=>h.cover k h1 (by rw[<-(gk k).1];exact h2),fun K hK=>by rw[(gk _).2.2];exact h.bJ K hK⟩
 ·intro m hm hf;rw[go _ (dni _ (.inr ⟨m,hm,rfl,hf⟩))];exact h.dir m hm hf
 intro m hm hfm;obtain⟨h1,h2,h3,⟨f,h4,h5,h6⟩,h7⟩:=h.file m hm hfm;by_cases e:m.file=n.file
 ·rw[e,<-hi]at h2 h3 h7 ⊢;rw[gi];refine⟨hlt.1,h2,h3,⟨⟨mode,bs⟩,?_,rfl,rfl⟩,h7⟩;rw[MO aD]
 have hne:φ m.file≠i:=fun e2=>by
  (have e3:dD dn φ m=dD dn φ n:=by unfold dD;rw[if_neg hfm,if_neg hf,e2,hi]);rcases h.inj m hm n hn e3 with h8|h8
  ·exact e (by rw[h8])
  exact e h8.2
 rw[go _ hne];refine⟨h1,h2,h3,⟨f,?_,h5,h6⟩,h7⟩;rw[adV aD];exact h4
theorem nL.aC0 {n:TN} (h:nL g nm (n::ns) fs dn φ) (hf:n.file= -1) {mode:Nat}:
  nL (dS g (dn (bW n)) {g (dn (bW n))with mode:=mode}) nm (⟨n.path, -1,mode⟩::ns) fs dn φ:=by
 obtain⟨n0,hn0⟩:∃n0:TN,n0=⟨n.path, -1,mode⟩:=⟨_,rfl⟩;rw[<-hn0];have hk0:bW n0=bW n:=by rw[hn0];rfl
 have hf0:n0.file= -1:=by rw[hn0]
 have hm0:n0.mode=mode:=by rw[hn0]
 obtain⟨i,hi⟩:∃i,i=dn (bW n):=⟨_,rfl⟩;rw[<-hi];obtain⟨g',hg'⟩:∃g',g'=dS g i {g i with mode:=mode}:=⟨_,rfl⟩;rw[<-hg'];have gi:g' i= {g i with mode:=mode}:=by rw[hg',bV]
 have go:∀m,m≠i->g' m=g m:=fun m h2=>by rw[hg',bX _ _ h2]
 have gk:∀m,(g' m).kind=(g m).kind/\(g' m).links=(g m).links/\(g' m).bJ=(g m).bJ/\(g' m).data=(g m).data:=fun m=>by
  by_cases h2:m=i
  ·rw[h2,gi];exact⟨rfl,rfl,rfl,rfl⟩
  rw[go m h2];exact⟨rfl,rfl,rfl,rfl⟩
 have i0:dD dn φ n0=dD dn φ n:=by unfold dD;rw[if_pos hf,if_pos hf0,hk0]
 have i1:dD dn φ n=i:=by unfold dD;rw[if_pos hf,hi]
 have old:∀m∈n0::ns,∃m'∈n::ns,bW m'=bW m/\m'.file=m.file/\dD dn φ m'=dD dn φ m/\(m=n0/\m'=n\/m=m'):=fun m hm=>by
  rcases iX.1 hm with e|hm
  ·exact⟨n,sK,by rw[e,hk0],by rw[e,hf0,hf],by rw[e,i0],.inl ⟨e,rfl⟩⟩
  exact⟨m,AY _ hm,rfl,rfl,rfl,.inr rfl⟩
 have aH6:∀K,fE (n0::ns) K↔fE (n::ns) K:=fun K=>by unfold fE;simp only[iX,exists_eq_or_imp,hk0,hf0,hf]
 have hu:=h.uniq;rw[mH,<-hk0,<-mH (f:=bW)]at hu;have hcnt:∀k:Int,(n0::ns).countP (fun m=>decide (m.file=k))=(n::ns).countP fun m=>decide (m.file=k):=fun k=>by rw[N9,N9,hf0,hf]
 refine⟨h.n0,h.root,by rw[(gk 0).1];exact h.rk,hu,?_,?_,?_,?_,?_,?_,?_⟩
 ·intro m hm;obtain⟨m',hm',h1,h2,_⟩:=old m hm;rw[<-h1,aH6];exact h.up m' hm'
 ·intro m hm hfm;rw[(gk _).1,(gk _).2.1];rcases iX.1 hm with e|hm
  ·rw[e,hk0,<-hi,gi,hm0];have:=h.dir n sK hf;rw[<-hi]at this;exact⟨this.1,this.2.1,rfl,this.2.2.2⟩
  have h1:=h.dir m (AY _ hm) hfm;refine⟨h1.1,h1.2.1,?_,h1.2.2.2⟩;have hne:dn (bW m)≠i:=fun e=>by
   (have e3:dD dn φ m=dD dn φ n:=by rw[i1];unfold dD;rw[if_pos hfm,e]);have h8:m=n:=by
    rcases h.inj m (AY _ hm) n sK e3 with h8|h8
    ·exact h8
    exact absurd hfm h8.1
   have hq:=h.uniq;rw[mH,I9]at hq;exact hq.1 (List.mem_map.2 ⟨m,hm,by rw[h8]⟩)
  rw[go _ hne];exact h1.2.2.1
 ·intro m hm hfm;have hm':m∈n::ns:=by
   rcases iX.1 hm with e|hm
   ·rw[e]at hfm;exact absurd hf0 hfm
   exact AY _ hm
  have h1:=h.file m hm' hfm;(have hne:φ m.file≠i:=fun e=>by have h2:=h.dir n sK hf;rw[<-hi,<-e,h1.2.2.1]at h2;cases h2.2.1);rw[go _ hne,hcnt];exact h1
 ·intro m hm;obtain⟨m',hm',h1,h2,h3,_⟩:=old m hm;rw[<-h3];exact h.ne0 m' hm'
 ·intro m hm k hk e;obtain⟨m',hm',h1,h2,h3,h4⟩:=old m hm;obtain⟨k',hk',j1,j2,j3,j4⟩:=old k hk;rcases h.inj m' hm' k' hk' (by rw[h3,j3,e])with h5|h5
  ·exact .inl (UH hu hm hk (by rw[<-h1,<-j1,h5]))
  rw[h2,j2]at h5;exact .inr h5
 ·intro k h1 h2;rcases h.cover k h1 (by rw[<-(gk k).1];exact h2)with h3|⟨m,hm,h3⟩
  ·exact .inl h3
  rcases iX.1 hm with e|hm
  ·exact .inr ⟨n0,sK,by rw[i0,<-e,h3]⟩
  exact .inr ⟨m,AY _ hm,h3⟩
 intro K hK;rw[(gk _).2.2.1];have hE:=h.bJ K ((aH6 K).1 hK);have e1:(iR (n0::ns) K).map (fun n=>((bW n).getLastD [],dD dn φ n))=(iR (n::ns) K).map fun n=>((bW n).getLastD [],dD dn φ n):=by
  unfold iR;rw[zG,zG,hk0];split
  ·rw[mH,mH,hk0,i0]
  rfl
 rw[e1];exact hE
end
def j5 (s:List UInt8):Bool:=decide (0<s.length)&&decide (s.length<=14)&& !dots s&&s.all fun c=>nD c.toNat
theorem uI (p:List UInt8):∃h t,splitB p=h::t:=by
 induction p with
 |nil=>exact⟨[],[],rfl⟩
 |cons c l ih=>
  obtain⟨h,t,e⟩:=ih;rw[iQ];split
  ·exact⟨_,_,rfl⟩
  rw[e];exact⟨_,_,rfl⟩
theorem JL :∀(p:List UInt8) (n:Nat) (cur:List UInt8),(cur.all fun c=>nD c.toNat)=true->cur.length<=14->
  ∀h t,splitB p=h::t->JE p n cur=(j5 (cur++h)&&t.all j5&&decide (n+t.length<=6))
 |[],n,cur,hc,hl,h,t,e=>by cases e;unfold JE j5;rw[yX56,hc];simp[hl]
 |c::cs,n,cur,hc,hl,h,t,e=>by
  obtain⟨h',t',e'⟩:=uI cs;rw[iQ,e']at e;unfold JE;by_cases h47:c=47
  ·rw[if_pos h47]at e ⊢;cases e;have ih:=JL cs (n+1) [] bM bM h' t' e';rw[ih,yX56,pG];by_cases h0:cur.length=0\/dots cur=true
   ·rw[if_pos h0];have:j5 cur=false:=by
     unfold j5;rcases h0 with h0|h0
     ·simp[h0]
     simp[h0]
    simp[this]
   rw[if_neg h0];(have:j5 cur=true:=by unfold j5;rw[hc];simp only[not_or]at h0;simp only[Bool.and_true,tJ,uP,aa4];refine⟨⟨by omega,hl⟩,by simpa using h0.2⟩);rw[this,List.all_cons,nV,Bool.true_and];(have e2:(n+1+t'.length<=6)↔(n+(t'.length+1)<=6):=by omega);simp only[e2]
  rw[if_neg h47]at e ⊢;cases e;by_cases hch:nD c.toNat=false
  ·rw[if_pos hch];(have:j5 (cur++c::h')=false:=by unfold j5;rw[List.all_append,List.all_cons,hch];simp);rw[this];simp
  rw[if_neg hch];by_cases h14:14<cur.length+1
  ·rw[if_pos h14];(have:j5 (cur++c::h')=false:=by unfold j5;(have:¬(cur++c::h').length<=14:=by simp;omega);simp only[this,decide_false,Bool.and_false,Q4]);rw[this];simp
  rw[if_neg h14];have ih:=JL cs n (cur++[c]) (by rw[List.all_append,hc];simpa using hch) IL h' _ e';rw[ih,uN];rfl
def af4 (p:List UInt8):Bool:=decide (p.length<=100)&&(decide ((splitB p).length<=6)&&(splitB p).all j5)
theorem UI (p:List UInt8):p.length+1=((splitB p).map fun s=>s.length+1).sum:=by
 induction p with
 |nil=>rfl
 |cons c l ih=>
  obtain⟨h,t,e⟩:=uI l;rw[iQ,e];rw[e]at ih;split
  ·simp only[mH,BD,nV,kW]at ih ⊢;omega
  simp only[mH,BD,nV]at ih ⊢;omega
theorem apI (l:List (List UInt8)) (h:l.all j5=true):(l.map fun s=>s.length+1).sum<=15*l.length:=by
 induction l with
 |nil=>simp
 |cons a l ih=>rw[List.all_cons,tJ]at h;have:=ih h.2;(have h2:a.length<=14:=by have:=h.1;unfold j5 at this;simp only[tJ,uP]at this;exact this.1.1.2);simp only[mH,BD,nV];omega
theorem JM (p:List UInt8):af4 p=aU p:=by
 obtain⟨h,t,e⟩:=uI p;have hv:aU p=(decide ((splitB p).length<=6)&&(splitB p).all j5):=by unfold aU;rw[JL p 1 [] bM bM h t e,e,pG,List.all_cons,nV,Bool.and_comm];(have e2:(1+t.length<=6)↔(t.length+1<=6):=by omega);simp only[e2]
 unfold af4;rw[hv];cases hx:(decide ((splitB p).length<=6)&&(splitB p).all j5)with
 |false=>simp
 |true=>rw[tJ,uP]at hx;have h1:=UI p;have h2:=apI _ hx.2;(have h3:p.length<=100:=by omega);simp[h3]
theorem tQ {p:List UInt8} (h:aU p=true):(aM p).length<=14:=by
 rw[<-JM]at h;unfold af4 at h;simp only[tJ]at h;have hm:aM p∈splitB p:=by have:=xA p;rw[this];exact al2 _ bM
 have:=List.all_eq_true.1 h.2.2 _ hm;unfold j5 at this;simp only[tJ,uP]at this;exact this.1.1.2
def GL (ns:List TN) (K:Key):Except Int (Option TN):=(mQ ns K.dropLast.length K.dropLast).bind fun c=>if jN c=true then .ok (kG ns K)else .error 22
structure Vt (S:VS) (ns:List TN) (fs:List FT) (g:LT) (dn:Key->Nat) (φ:Int->Nat):Prop where
 iJ:Vol S g
 rep:nL g S.names ns fs dn φ
 m:S.m=0
section
variable {S:VS} {g:LT} {ns:List TN} {fs:List FT} {dn:Key->Nat} {φ:Int->Nat}
theorem Vt.nodes (h:Vt S ns fs g dn φ):S.nodes=ns.length:=by rw[h.iJ.ph.nodes,h.rep.count h.iJ.ph.fair]
theorem Vt.wB (h:Vt S ns fs g dn φ):S.wB=zV ns fs:=by rw[h.iJ.ph.wB,h.rep.wB h.iJ.ph.fair]
theorem Vt.wI (h:Vt S ns fs g dn φ):S.wI=sU ns:=by rw[h.iJ.ph.wI,h.rep.wI h.iJ.ph.fair]
theorem nL.aH7 {nm:Nat} (h:nL g nm ns fs dn φ) (hfair:∀i<nm,(g i).fair):∀n<nm,∀e∈(g n).bJ,e.2<nm:=fun n hn e he=>by
 by_cases hk:(g n).kind=1
 ·have hD:∃K,fE ns K/\dn K=n:=by
   rcases h.cover n hn (by rw[hk];decide)with e1|⟨m,hm,e1⟩
   ·exact⟨[],.inl rfl,by rw[h.root,e1]⟩
   rcases(h.LG hm).2 with⟨hf,_⟩|⟨_,h2⟩
   ·refine⟨bW m,.inr ⟨m,hm,rfl,hf⟩,?_⟩;unfold dD at e1;rw[if_pos hf]at e1;exact e1
   rw[e1,hk]at h2;cases h2
  obtain⟨K,hK,e1⟩:=hD;rw[<-e1]at he;have:=(h.bJ K hK).mem_iff.1 he;obtain⟨m,hm,e2⟩:=List.mem_map.1 this;rw[<-e2];exact(h.LG (List.mem_filter.1 hm).1).1
 rw[(hfair n hn).bJ hk]at he;cases he
theorem Vt.of {S1:VS} {nm:Nat} {g':LT} {ns':List TN} {fs':List FT} {ZH:Key->Nat} {φ':Int->Nat} (hp:dK S1 g') (hr:nL g' nm ns' fs' ZH φ') (hnm:S1.names=nm) (hlen:ns'.length<=256) (hB:S1.rB=S1.count) (hI:S1.rI=S1.names) (hm:S1.m=0):Vt S1 ns' fs' g' ZH φ':=by subst hnm;exact⟨⟨hp,hr.aH7 hp.fair,hr.rk,by rw[hp.nodes,hr.count hp.fair];omega,hB,hI⟩,hr,hm⟩
theorem jH (h:nL g S.names ns fs dn φ) {K:Key} {x:Option TN} (ha:GL ns K= .ok x):fE ns K.dropLast/\x=kG ns K/\∃c,mQ ns K.dropLast.length K.dropLast= .ok c/\jN c=true:=by
 unfold GL at ha;cases hc:mQ ns K.dropLast.length K.dropLast with
 |error e=>rw[hc]at ha;cases ha
 |ok c=>
  rw[hc]at ha;change (if jN c=true then Except.ok (kG ns K)else Except.error 22)= .ok x at ha;by_cases hd:jN c=true
  ·rw[if_pos hd]at ha;cases ha;refine⟨?_,rfl,c,rfl,hd⟩;rcases zU h hc with⟨_,e⟩|⟨n,e,hn,hk⟩
   ·exact .inl e
   rw[e]at hd;exact .inr ⟨n,hn,hk,by simpa[jN]using hd⟩
  rw[if_neg hd]at ha;cases ha
theorem apJ (h:nL g S.names ns fs dn φ) {K:Key} {c:Option TN} (hc:mQ ns K.length K= .ok c) (hd:jN c=true):aj3 dn φ c=dn K:=by
 rcases zU h hc with⟨e,e2⟩|⟨n,e,hn,hk⟩
 ·rw[e,e2];exact h.root.symm
 rw[e]at hd ⊢;have hf:n.file= -1:=by simpa[jN]using hd
 show dD dn φ n=_
 unfold dD;rw[if_pos hf,hk]
theorem af5 (h:nL g S.names ns fs dn φ) {K:Key} {c:Option TN} (hc:mQ ns K.length K= .ok c):jN c=true↔(g (aj3 dn φ c)).kind=1:=by
 rcases zU h hc with⟨e,e2⟩|⟨n,e,hn,hk⟩
 ·rw[e];exact⟨fun _=>h.rk,fun _=>rfl⟩
 rw[e];show decide (n.file= -1)=true↔(g (dD dn φ n)).kind=1
 rw[uP];rcases(h.LG hn).2 with⟨h1,h2⟩|⟨h1,h2⟩
 ·exact⟨fun _=>h2,fun _=>h1⟩
 exact⟨fun e=>absurd e h1,fun e=>by rw[h2]at e;cases e⟩
theorem Vt.look (h:Vt S ns fs g dn φ) (p:List UInt8):bB S.cur S.data 0 0 (splitB p)=match GL ns (splitB p)with
  | .error e=>(0,0,e)
  | .ok none=>((dn (splitB p).dropLast:Int), -1,0)
  | .ok (some n)=>((dn (splitB p).dropLast:Int),(dD dn φ n:Int),0):=by
 obtain⟨P,hP⟩:∃P,P=(splitB p).dropLast:=⟨_,rfl⟩;have hs:splitB p=P++[aM p]:=by rw[hP];exact xA p
 rw[<-hP,hs,UE h.iJ _ _ _ _ h.iJ.ph.n0,h.rep.walk P.length P rfl];unfold GL;rw[WY];cases hc:mQ ns P.length P with
 |error e=>rfl
 |ok c=>
  show atP g (aM p) (.ok (aj3 dn φ c))=match (if jN c=true then Except.ok (kG ns (P++[aM p]))else Except.error 22:Except Int (Option TN))with
   | .error e=>((0:Int),(0:Int),e)
   | .ok none=>((dn P:Int), -1,0)
   | .ok (some n)=>((dn P:Int),(dD dn φ n:Int),0)
  have hk:=af5 (S:=S) h.rep hc;unfold atP;by_cases hd:jN c=true
  ·have hi:=apJ (S:=S) h.rep hc hd;have hK:fE ns P:=by
    rcases zU h.rep hc with⟨_,e⟩|⟨n,e,hn,hk⟩
    ·exact .inl e
    rw[e]at hd;exact .inr ⟨n,hn,hk,by simpa[jN]using hd⟩
   simp only[if_pos hd,if_pos (hk.1 hd)];rw[hi,h.rep.find hK];cases kG ns (P++[aM p])<;>rfl
  simp only[if_neg hd,if_neg fun e=>hd (hk.2 e)]
def Agr (m:Nat) (φ φ':Int->Nat):Prop:=∀k:Int,k≠(m:Int)->φ' k=φ k
def DC (φ:Int->Nat) (m:Nat) (S:VS) (r:Except Int (Option VS)) (ns':List TN) (fs':List FT):Prop:=
 ∃x,r= .ok x/\(x=none->S.rB<zV ns' fs'\/S.rI<sU ns')/\∀S1,x=some S1->sN S.cur S1/\ns'.length<=256/\∃g' ZH φ',Chg S g' S1/\nL g' S.names ns' fs' ZH φ'/\Agr m φ φ'
def zX (ns:List TN) (p:List UInt8):Int:=match GL ns (splitB p)with
 | .error e=>e
 | .ok (some _)=>23
 | .ok none=>if ns.length<256 then 0 else 31
theorem GM {ns:List TN}:∀(k:Nat) (K:Key) {e:Int},mQ ns k K= .error e->e=21\/e=22
 |0,K,e,h=>by cases h
 |k+1,K,e,h=>by
  unfold mQ at h;cases h1:mQ ns k K.dropLast with
  |error e1=>rw[h1]at h;cases h;exact GM k _ h1
  |ok c=>
   rw[h1]at h;change stepT ns K c= .error e at h;unfold stepT at h;split at h
   ·split at h
    ·cases h
    cases h;exact .inl rfl
   cases h;exact .inr rfl
theorem vQ {ns:List TN} {K:Key} {e:Int} (h:GL ns K= .error e):e=21\/e=22:=by
 unfold GL at h;cases hc:mQ ns K.dropLast.length K.dropLast with
 |error e1=>rw[hc]at h;cases h;exact GM _ _ hc
 |ok c=>
  rw[hc]at h;change (if jN c=true then Except.ok (kG ns K)else Except.error 22)= .error e at h;split at h
  ·cases h
  cases h;exact .inr rfl
theorem UJ :∀ {ns:List TN} {n:TN},n.file= -1->iW (ns++[n])=iW ns
 |[],n,h=>by(show iW [n]=[]);unfold iW;rw[if_pos (.inl h)];rfl
 |a::t,n,h=>by rw[pF];unfold iW;rw[UJ h]
theorem UK :∀ {ns:List TN} {n:TN},n.file≠ -1->(∀m∈ns,m.file≠n.file)->iW (ns++[n])=iW ns++[n.file]
 |[],n,h,_=>by(show iW [n]=[n.file]);unfold iW;rw[if_neg (by rw[not_or];exact⟨h,by simp[iW]⟩)];rfl
 |a::t,n,h,hm=>by
  have ha:=hm a sK;rw[pF];unfold iW;rw[UK h fun m hmm=>hm m (AY _ hmm)];by_cases e:a.file= -1\/a.file∈iW t
  ·rw[if_pos e,if_pos (e.imp id fun h=>G9 _ h)]
  rw[if_neg e,if_neg (fun e2=>e (e2.imp id fun h=>(gX.1 h).resolve_right fun h2=>ha (by rwa [BB]at h2))),pF]
def lJ (ns:List TN) (fs:List FT) (kind mode:Nat) (p:List UInt8):List TN:=ns++[if kind=1 then⟨p, -1,mode⟩else⟨p,fs.length,0⟩]
def zY (fs:List FT) (kind mode:Nat) (bs:List UInt8):List FT:=if kind=1 then fs else fs++[⟨mode,bs⟩]
theorem apL {ns:List TN} {fs:List FT} {kind mode:Nat} {p:List UInt8} (h:∀n∈ns,n.file≠ -1->n.file<fs.length):sU (lJ ns fs kind mode p)=sU ns+1:=by
 unfold sU lJ;by_cases hk:kind=1
 ·rw[if_pos hk,UJ rfl];unfold sS;rw[aa3];simp;omega
 rw[if_neg hk];have hne:(fs.length:Int)≠ -1:=by omega
 rw[UK (n:=⟨p,fs.length,0⟩) hne fun m hm e=>by have e':m.file=(fs.length:Int):=e;have:=h m hm aD;omega];unfold sS;rw[aa3];have e:([⟨p,fs.length,0⟩]:List TN).filter (fun n=>decide (n.file= -1))=[]:=by rw[zG,if_neg (by simp only[uP];exact hne)];rfl
 rw[e];simp;omega
theorem Vt.aC1 (h:Vt S ns fs g dn φ) {kind mode:Nat} {p bs:List UInt8} (hkd:kind=1/\bs=[]\/kind=2) {i:Nat} (hi:i<S.names) (h0:(g i).kind=0) (ha:GL ns (splitB p)= .ok none):
  ∃ZH φ',nL (dS (dS g i (p8 kind mode bs)) (dn (splitB p).dropLast) ((g (dn (splitB p).dropLast)).more (aM p) i)) S.names (lJ ns fs kind mode p) (zY fs kind mode bs) ZH φ'/\Agr fs.length φ φ':=by
 obtain⟨hP,hno,_⟩:=jH (S:=S) h.rep ha;rcases hkd with⟨rfl,rfl⟩|rfl
 ·exact⟨_,_,h.rep.ab4 hi h0 hP hno.symm,fun _ _=>rfl⟩
 exact⟨_,_,h.rep.ab3 hi h0 hP hno.symm,fun k hk=>if_neg hk⟩
theorem Z41 {P:Prop} (h:P:=by have e1:(dD dn φ n:Int)= -1:=congrArg (fun x:Int×Int×Int=>x.2.1) hd;omega):P:=h
theorem Vt.new (h:Vt S ns fs g dn φ) {kind mode:Nat} {p bs:List UInt8} (hkd:kind=1/\bs=[]\/kind=2) (hv:aU p=true) (hp:p.length<=1048576) (hmode:mode<65536) (hbs:bs.length<=8192):
  (∀d:Nat,bB S.cur S.data 0 0 (splitB p)=((d:Int), -1,0)->S.nodes<256->wX S (⟨kind,mode,1,0,[]⟩:VI) bs d p)/\
  ((zX ns p≠0/\M9 S p (⟨kind,mode,1,0,[]⟩:VI) bs= .error (zX ns p))\/(zX ns p=0/\DC φ fs.length S (M9 S p (⟨kind,mode,1,0,[]⟩:VI) bs) (lJ ns fs kind mode p) (zY fs kind mode bs))):=by
 have hL:=h.look p;have hbase:(aM p).length<=15:=by have:=tQ hv;omega
 unfold zX M9;cases ha:GL ns (splitB p)with
 |error e=>
  rw[ha]at hL;have he:=vQ ha;simp only at hL;rw[hL];refine⟨fun d hd=>?_,.inl ⟨by show e≠0;omega,?_⟩⟩
  ·have e1:(0:Int)= -1:=congrArg (fun x:Int×Int×Int=>x.2.1) hd;exact absurd e1 aQ
  unfold gV;rw[if_neg (show ¬e=0 by omega)]
 |ok x=>
  cases x with
  |some n=>
   rw[ha]at hL;simp only at hL;rw[hL];refine⟨fun d hd=>?_,.inl ⟨by show(23:Int)≠0;decide,?_⟩⟩
   ·exact Z41
   unfold gV;rw[if_pos (show(0:Int)=0 from rfl),if_neg (show ¬(dD dn φ n:Int)<0 by omega)]
  |none=>
   rw[ha]at hL;simp only at hL;rw[hL];obtain⟨hP,hno,_⟩:=jH (S:=S) h.rep ha;obtain⟨hd1,hd2⟩:=h.rep.ET hP;obtain⟨d,hd⟩:∃d,d=dn (splitB p).dropLast:=⟨_,rfl⟩;(have hone:=fun i=>h.aC1 (i:=i) (mode:=mode) hkd (p:=p));rw[<-hd]at hd1 hd2 hone ⊢;(have hsz:S.nodes<256->(g d).bJ.length<448:=fun hn=>by have:=h.iJ.ph.abZ hd1;omega);(have jE:=fun hn:S.nodes<256=>h.iJ.ph.made h.m ⟨h.iJ.rB,h.iJ.rI⟩ (kind:=kind) (dir:=d) (mode:=mode) (path:=p) (bs:=bs) hkd hd1 hd2 (hsz hn) hv hp hbase hmode hbs);have hnn:=h.nodes;refine⟨fun d' hd' hn=>?_,?_⟩
   ·have e1:(d:Int)=d':=congrArg (fun x:Int×Int×Int=>x.1) hd';(have e2:d=d':=by omega);rw[<-e2];exact(jE hn).1
   have e0:gV ((d:Int),(-1:Int),(0:Int))=none:=rfl;rw[e0];by_cases hn:ns.length<256
   ·(have hn':S.nodes<256:=by omega);simp only[if_pos hn,if_pos hn'];refine .inr ⟨trivial,_,rfl,?_,?_⟩
    ·intro hx;rw[nA]at hx;rcases(jE hn').2 with⟨h1,_⟩|⟨i,hi,_,h2⟩
     ·--no inode is free
      right;have hall:=h.iJ.ph.apF h1;have h3:S.wI=S.names:=by
       rw[h.iJ.ph.wI];have e:∀i<S.names,nP (g i).kind=1:=fun i hi=>by
        have:=hall i hi;have:=(h.iJ.ph.fair i hi).kind;unfold nP;split
        ·rfl
        rw[if_pos aD]
       (have e2:=BV (f:=fun n=>nP (g n).kind) (n:=S.names) (a:=1) (b:=1) fun i hi=>by rw[e i hi];omega);omega
      have h4:=h.wI;(have h5:sU (lJ ns fs kind mode p)=sU ns+1:=apL fun n hn hf=>(h.rep.ZG hn hf).2);rw[h.iJ.rI];omega
     left;obtain⟨hi1,hi0⟩:=h.iJ.ph.GK hi;obtain⟨ZH,φ',hR,hAg⟩:=hone i hi1 hi0 ha;have h3:=h2 hx;have hfair:∀j<S.names,(dS (dS g i (p8 kind mode bs)) d ((g d).more (aM p) i) j).fair:=fun j hj=>by
      by_cases e1:j=d
      ·rw[e1,bV];exact LI.F8 (h.iJ.ph.fair d hd1) hd2 (hsz hn') hbase (by have:=h.iJ.ph.rZ;omega)
      rw[bX _ _ e1];by_cases e2:j=i
      ·rw[e2,bV];exact aj6 hkd hmode hbs
      rw[bX _ _ e2];exact h.iJ.ph.fair j hj
     have h4:=zW hfair;rw[hR.wB hfair]at h4;rw[h.iJ.rB];omega
    intro S1 hS1;rw[nA]at hS1;rcases(jE hn').2 with⟨_,h1⟩|⟨i,hi,h1,_⟩
    ·rw[h1]at hS1;cases hS1
    obtain⟨hi1,hi0⟩:=h.iJ.ph.GK hi;obtain⟨ZH,φ',hR,hAg⟩:=hone i hi1 hi0 ha;refine⟨(sN.refl S).lT hS1,?_,_,ZH,φ',h1 S1 hS1,hR,hAg⟩;unfold lJ;rw[kN,xL];omega
   (have hn':¬S.nodes<256:=by omega);simp only[if_neg hn,if_neg hn'];exact .inl ⟨by decide,trivial⟩
end
open Go.RowKit
theorem heap_sorted {α:Type} [Inhabited α] (enc:α->Value) (w:World) (g n:Nat) (d:Array α) (os:Array Obj) (b:Nat) (hb:b<w.heap.size):
  (Go.Proofs.sortWorld enc w g 0 n d os).heap[b]? =if g=b then w.heap[b]?.map (Go.Sort.onCells (Go.Sort.putCells enc 0 d))else w.heap[b]? :=by
 exact Z42
theorem Sep.sorted {α:Type} [Inhabited α] (enc:α->Value) {w0 w:World} {As:List bK} {e:TypeId} {g m cap:Nat} {cs:List Value} (k:Nat) (h:Sep w0 w As)
  (hi:As[k]? =some (.sl e 1 (sV g m cap) m cs)) (n:Nat) (d:Array α) (hd:d.size=m) (os:Array Obj):
  Sep w0 (Go.Proofs.sortWorld enc w g 0 n d os) (As.set k (.sl e 1 (sV g m cap) m (d.toList.map enc))):=by
 refine h.step k hi fun F ⟨ho,hF⟩ _=>⟨F,⟨⟨by simp[hd],?_⟩,hF⟩,fun b hb=>.inl hb,?_⟩
 ·rcases ho.2 with⟨h',_⟩|⟨g',cap',cur,h',hb,hg,hc,hm,hs,ht⟩
  ·simp at h'
  simp only[Value.slice.injEq,YG,Addr.mk.injEq,and_true,true_and]at h';obtain⟨rfl,rfl⟩:=h';refine .inr ⟨g,cap,Go.Sort.putCells enc 0 d cur,rfl,hb,?_,hc,hm,by simpa[Go.Sort.putCells]using hs,?_⟩
  ·rw[heap_sorted enc w g n d os g (lt_of_heap hg),if_pos rfl,hg];rfl
  apply DN;intro i;by_cases hi:i<m
  ·(have hc2:i<cur.size:=by omega);simp[Go.Sort.putCells,hd,hi,hc2]
  rw[D7 IL,D7 IL]
 refine⟨rfl,rfl,rfl,by simp[Go.Proofs.sortWorld,Go.Sort.grow,Go.Sort.putRow,Go.Sort.mapBlock,Go.Sort.ahead],fun b hb hn=>?_⟩;rw[heap_sorted enc w g n d os b hb,if_neg];intro e;subst e;exact hn (by rw[hF];simp[Value.ownBlock])
end Go.Proofs.YteihmbaimbogaaaGreat
