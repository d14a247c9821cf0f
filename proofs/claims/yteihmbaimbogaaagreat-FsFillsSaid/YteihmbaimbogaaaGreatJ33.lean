/- FvN, FvP, FvK, FvL, NamesPlain, FvQ, laid together. -/
import Derived.Test.YteihmbaimbogaaaGreatJ32
namespace Go.Proofs.YteihmbaimbogaaaGreat
set_option linter.unusedVariables false
set_option linter.unusedSimpArgs false
def xO (c:dW) (S:VS):Prop:=∃ks:List Nat,ks.length≤S.m∧∀k,k∉ks→bk S.cur k=bk c k
def oU (c:dW) (S:VS):Prop:=xO c S∧bk S.cur 0=bk c 0
section
variable {c:dW} {S S1:VS}
theorem xO.refl (S:VS):xO S.cur S:=⟨[],Nat.zero_le _,fun _ _=>rfl⟩
theorem xO.put (h:xO c S) (k:Nat) (bs:List UInt8):xO c (S.put k bs):=by
 obtain⟨ks,h1,h2⟩:=h;refine⟨k::ks,by show ks.length+1≤S.m+1;omega,fun j hj=>?_⟩;rw[List.mem_cons,not_or]at hj;show bk (S.cur.set k bs) j=_
 rw[bR _ _ hj.1,h2 j hj.2]
theorem xO.keep (h:xO c S) (n:Nat) (x:VI):xO c (S.keep n x):=by
 obtain⟨ks,h1,h2⟩:=h;refine⟨(2+n/8)::ks,by show ks.length+1≤S.m+1;omega,fun j hj=>?_⟩;rw[List.mem_cons,not_or]at hj;show bk (o8 S.cur n x) j=_
 rw[vN _ _ hj.1,h2 j hj.2]
theorem oU.refl (S:VS):oU S.cur S:=⟨xO.refl S,rfl⟩
theorem oU.put (h:oU c S) {k:Nat} (hk:0<k) (bs:List UInt8):oU c (S.put k bs):=⟨h.1.put k bs,(bR _ _ (by omega)).trans h.2⟩
theorem oU.node (h:oU c S) (z:Int):oU c (S.node z):=h
theorem oU.keep (h:oU c S) (n:Nat) (x:VI):oU c (S.keep n x):=⟨h.1.keep n x,(vN _ _ (by omega)).trans h.2⟩
theorem oU.fE (h:oU c S) (s i:Nat) (name:List UInt8) (n:Nat):oU c (S.fE s i name n):=h.put (by unfold VS.data;omega) _
theorem oU.iD {l l1:List Nat} {n:Nat} (h:oU c S) (hf:iD S l n=some (S1,l1)):oU c S1:=by
 have hd:∀(k:Nat) (S:VS) (l:List Nat),oU c S→oU c (kQ k S l).1:=fun k=>by
  induction k with
  |zero=>exact fun S l h=>h
  |succ k ih=>exact fun S l h=>ih _ _ (h.put Nat.one_pos _)
 have hu:∀(k:Nat) (S:VS) (l:List Nat) {S1:VS} {l1:List Nat},oU c S→FI k S l=some (S1,l1)→oU c S1:=fun k=>by
  induction k with
  |zero=>intro S l S1 l1 h e;cases e;exact h
  |succ k ih=>
   intro S l S1 l1 h e;unfold FI at e;split at e
   ·cases e
   exact ih _ _ (h.put Nat.one_pos _) e
 exact hu _ _ _ (hd _ _ _ h) hf
theorem oU.j4 (bs:List UInt8):∀(l:List Nat) (k:Nat) {S:VS},oU c S→oU c (j4 bs l k S)
 |[],_,_,h=>h
 |s::l,k,_,h=>oU.j4 bs l (k+1) (h.put (by unfold VS.data;omega) _)
theorem oU.j5 {n:Nat} {bs:List UInt8} (h:oU c S) (hf:j5 S n bs=some S1):oU c S1:=by
 unfold Go.Proofs.YteihmbaimbogaaaGreat.j5 at hf;split at hf
 ·cases hf
 rename_i S2 l h1;cases hf;exact((h.iD h1).j4 bs l 0).keep n _
theorem oU.fF {dir n:Nat} {name:List UInt8} (h:oU c S) (hf:fF S dir name n=some S1):oU c S1:=by
 unfold Go.Proofs.YteihmbaimbogaaaGreat.fF at hf;split at hf
 ·cases hf
 rename_i S2 l h1;cases hf;exact(((h.node _).iD h1).keep dir _).fE _ _ _ _
theorem oU.bY (h:oU c S) (dir:Nat) (name:List UInt8):oU c (bY S dir name):=by
 have h2:oU c (yJ S (aF S.cur dir) name):=(h.fE _ _ _ _).fE _ _ _ _;unfold Go.Proofs.YteihmbaimbogaaaGreat.bY;simp only;split
 ·exact h2
 rename_i S4 l h1;exact((h2.node _).iD h1).keep dir _
theorem oU.nO (h:oU c S) (n:Nat):oU c (nO S n):=by obtain⟨S2,h1,h2⟩:=vL (S:=S) (n:=n);rw[h2];exact(h.iD h1).keep n _
theorem oU.j6 {x:VI} {bs:List UInt8} {dir:Nat} {name:List UInt8} (h:oU c S) (hf:j6 S x bs dir name=some S1):oU c S1:=by
 unfold Go.Proofs.YteihmbaimbogaaaGreat.j6 at hf;split at hf
 ·cases hf
 rename_i n h1;split at hf
 ·split at hf
  ·cases hf
  exact oU.fF (((h.put Nat.one_pos _).put (by unfold VS.data;omega) _).keep _ _) hf
 unfold jW at hf;split at hf
 ·cases hf
 rename_i S2 h2;exact((h.keep _ _).j5 h2).fF hf
theorem xO.puts (h:xO (S.D.now.drop 96) S):(gT S).length≤S.m:=by
 obtain⟨ks,h1,h2⟩:=h;have h3:(gT S).length=(((List.range (S.nb-96)).filter fun k=>bk S.cur k !=bk S.D.now (96+k))).length:=List.length_map _;rw[h3];refine Nat.le_trans (List.Nodup.length_le_of_subset ((List.nodup_range).filter _) fun k hk=>?_) h1;have h4:=(List.mem_filter.1 hk).2;refine Classical.byContradiction fun hno=>?_
 have h5:=h2 k hno;rw[wU]at h5;rw[h5]at h4;simp at h4
theorem bI.with {g:LT} (h:bI S g) (D:DK) (m:Nat):bI {S with D:=D,m:=m} g:=
 ⟨⟨h.use.cur,⟨h.use.vf.names,h.use.vf.room⟩,h.use.nb⟩,h.n0,h.fair,h.head,h.len,h.lt,h.nodup,h.dis,h.bits,h.aY,h.data,h.wB,h.wI,h.nodes⟩
theorem vT (hD:S.D.ok S.nb) (KR:96<S.nb) (aeH:iX (S.nb-96) S.cur) (mE:xO (S.D.now.drop 96) S) (hm:S.m≤40) (hc:S.aV.2=true):S.settled.base.cur=S.cur:=by
 have hp:(gT S).length≤40:=Nat.le_trans mE.puts hm;have hok:=L8 hD KR aeH hp;show S.aV.1.now.drop 96=S.cur
 refine List.ext_getElem (by rw[List.length_drop,hok.now.len,aeH.len]) fun k h1 h2=>?_
 have hk:k<S.nb-96:=by rw[←aeH.len];exact h2
 have:=GV hD.now.len hp hc hk;unfold bk at this;rw[gH,gH,gE h2,gE (by rw[List.length_drop]at h1;omega)]at this;rw[List.getElem_drop];exact this
theorem bI.settled {g:LT} (h:bI S g) (hD:S.D.ok S.nb) (KR:96<S.nb) (mE:xO (S.D.now.drop 96) S) (hm:S.m≤40) (hc:S.aV.2=true):bI S.settled.base g:=by
 have e:S.settled.base= {S with D:=S.aV.1,m:=0}:=by have:=vT hD KR h.use.cur mE hm hc;(show({S with D:=S.aV.1,cur:=S.settled.base.cur,m:=0}:VS)=_);rw[this]
 rw[e];exact h.with _ _
end
def CO (fs:List FT) (k:Int):Nat:=((fs[k.toNat]?).map fun f=>f.bs.length).getD 0
def gI (ns:List TN) (K:Key):Nat:=(fU ns K).length
def mJ (ns:List TN) (fs:List FT):Int:=eO 1 (gI ns [])+((lV ns).map fun n=>eO 1 (gI ns (bK n))).sum+((eF ns).map fun k=>eO 2 (CO fs k)).sum
def kD (ns:List TN):Int:=1+(lV ns).length+(eF ns).length
theorem FN {α:Type}:∀ {l:List α} {F:α→Int},(∀x∈l,F x=1)→(l.map F).sum=l.length
 |[],_,_=>rfl
 |a::t,F,h=>by rw[List.map_cons,List.sum_cons,h a List.mem_cons_self,FN fun x hx=>h x (List.mem_cons_of_mem _ hx),List.length_cons];omega
theorem AP {α:Type}:∀ {l:List α} {F:α→Int},(∀x∈l,F x=0)→(l.map F).sum=0
 |[],_,_=>rfl
 |a::t,F,h=>by rw[List.map_cons,List.sum_cons,h a List.mem_cons_self,AP fun x hx=>h x (List.mem_cons_of_mem _ hx)];rfl
theorem sum_add {α:Type} (F G:α→Int):∀(l:List α),(l.map fun x=>F x+G x).sum=(l.map F).sum+(l.map G).sum
 |[]=>rfl
 |a::t=>by rw[List.map_cons,List.sum_cons,sum_add F G t,List.map_cons,List.sum_cons,List.map_cons,List.sum_cons];omega
theorem TA :∀ {l:List Key} {K:Key},l.Nodup→K∈l→(l.map fun L=>if K=L then(1:Int)else 0).sum=1
 |a::t,K,hu,hm=>by
  rw[List.nodup_cons]at hu;rw[List.map_cons,List.sum_cons];rcases List.mem_cons.1 hm with e|hm
  ·rw[if_pos e,AP fun x hx=>if_neg fun e2=>hu.1 (by rw[←e,e2];exact hx)];rfl
  rw[if_neg fun e=>hu.1 (by rw[←e];exact hm),TA hu.2 hm];rfl
theorem TB {l:List Key} (hu:l.Nodup):∀ {ns:List TN},(∀n∈ns,(bK n).dropLast∈l)→(l.map fun K=>(gI ns K:Int)).sum=ns.length
 |[],_=>AP fun _ _=>rfl
 |n::t,h=>by
  have h1:(fun K=>(gI (n::t) K:Int))=fun K=>(if(bK n).dropLast=K then(1:Int)else 0)+(gI t K:Int):=by
   funext K;unfold gI fU;rw[List.filter_cons];by_cases e:(bK n).dropLast=K
   ·rw[if_pos (by simp[e]),if_pos e,List.length_cons];omega
   rw[if_neg (by simp[e]),if_neg e];omega
  rw[h1,sum_add,TA hu (h n List.mem_cons_self),TB hu fun m hm=>h m (List.mem_cons_of_mem _ hm),List.length_cons];omega
section
variable {g:LT} {nm:Nat} {ns:List TN} {fs:List FT} {dn:Key→Nat} {φ:Int→Nat}
theorem mI.gI (h:mI g nm ns fs dn φ) {K:Key} (hK:fH ns K):(g (dn K)).aY.length=gI ns K:=by rw[(h.aY K hK).length_eq,List.length_map];rfl
theorem mI.AQ (h:mI g nm ns fs dn φ) {K:Key} (hK:fH ns K):(g (dn K)).kind=1∧(g (dn K)).size=Go.Proofs.YteihmbaimbogaaaGreat.gI ns K:=by have h1:=(h.SV hK).2;refine⟨h1,?_⟩;unfold LI.size;rw[if_pos h1,h.gI hK]
theorem mI.AR (h:mI g nm ns fs dn φ) {k:Int} (hk:k∈eF ns):(g (φ k)).kind=2∧(g (φ k)).size=CO fs k:=by obtain⟨h1,n,hn,e⟩:=jO.1 hk;rw[←e]at h1 ⊢;obtain⟨_,_,h3,⟨f,h4,_,h6⟩,_⟩:=h.file n hn h1;refine⟨h3,?_⟩;unfold LI.size CO;rw[if_neg (by rw[h3];decide),h4,h6];rfl
theorem AU {n:TN} (hn:n∈lV ns):fH ns (bK n):=.inr ⟨n,(fT.1 hn).1,rfl,(fT.1 hn).2⟩
theorem mI.wB (h:mI g nm ns fs dn φ) (hfair:∀i<nm,(g i).fair):pO (fun i=>eO (g i).kind (g i).size) nm=mJ ns fs:=by
 rw[h.sum (fun x=>eO x.kind x.size) (fun x hx=>by unfold eO;rw[hx];rfl) hfair];unfold mJ;have h0:=h.AQ (.inl rfl);rw[h.root]at h0;rw[h0.1,h0.2];congr 1
 ·congr 1;congr 1;exact List.map_congr_left fun n hn=>by rw[(h.AQ (AU hn)).1,(h.AQ (AU hn)).2]
 congr 1;exact List.map_congr_left fun k hk=>by rw[(h.AR hk).1,(h.AR hk).2]
theorem mI.wI (h:mI g nm ns fs dn φ) (hfair:∀i<nm,(g i).fair):pO (fun i=>kT (g i).kind) nm=kD ns:=by rw[h.sum (fun x=>kT x.kind) (fun x hx=>by unfold kT;rw[hx];rfl) hfair,FN fun n hn=>by rw[(h.AQ (AU hn)).1];rfl,FN fun k hk=>by rw[(h.AR hk).1];rfl,h.rk];unfold kD kT;simp
theorem mI.count (h:mI g nm ns fs dn φ) (hfair:∀i<nm,(g i).fair):pO (fun i=>((g i).aY.length:Int)) nm=ns.length:=by
 rw[IB (g:=fun i=>if(g i).kind=1 then((g i).aY.length:Int)else 0) fun i hi=>by
  by_cases e:(g i).kind=1
  ·rw[if_pos e]
  rw[if_neg e,(hfair i hi).aY e];rfl]
 rw[h.sum (fun x=>if x.kind=1 then(x.aY.length:Int)else 0) (fun x hx=>if_neg (by omega)) hfair];rw[AP (F:=fun k=>if(g (φ k)).kind=1 then((g (φ k)).aY.length:Int)else 0) fun k hk=>if_neg (by rw[(h.AR hk).1];decide),if_pos h.rk];have h0:=h.gI (.inl rfl);rw[h.root]at h0;rw[h0];have hu:([]::(lV ns).map bK).Nodup:=by rw[List.nodup_cons];refine⟨fun hm=>?_,h.uniq.sublist (List.Sublist.map _ List.filter_sublist)⟩;obtain⟨n,_,e⟩:=List.mem_map.1 hm;exact O4 n e
 have hs:=TB hu (ns:=ns) fun n hn=>by
  rcases h.up n hn with e|⟨m,hm,e,hf⟩
  ·rw[e];exact List.mem_cons_self
  rw[←e];exact List.mem_cons_of_mem _ (List.mem_map.2 ⟨m,fT.2 ⟨hm,hf⟩,rfl⟩)
 rw[List.map_cons,List.sum_cons,List.map_map]at hs;rw[←hs,Int.add_zero];congr 1;congr 1;exact List.map_congr_left fun n hn=>by rw[if_pos (h.AQ (AU hn)).1,h.gI (AU hn)];rfl
theorem afO {x:LI} (h:x.fair):(x.need:Int)≤eO x.kind x.size:=by
 unfold LI.need eO LI.size;have:=h.kind;by_cases k1:x.kind=1
 ·rw[if_pos k1,if_pos k1,if_pos k1];omega
 rw[if_neg k1,if_neg k1];by_cases k2:x.kind=2
 ·rw[if_pos k2,if_pos k2,if_neg k1];split<;>omega
 rw[if_neg k2,if_neg k2];decide
theorem MX :∀ {nm:Nat},(∀i<nm,(g i).fair)→(lS g nm:Int)≤pO (fun i=>eO (g i).kind (g i).size) nm
 |0,_=>by simp[lS,pO]
 |n+1,h=>by rw[nC,lQ];(have h1:=MX (nm:=n) fun i hi=>h i (by omega));have h2:=afO (h n (by omega));omega
end
section
variable {g:LT} {nm:Nat} {ns:List TN} {fs:List FT} {dn:Key→Nat} {φ:Int→Nat}
theorem fH.perm {ns':List TN} (p:ns.Perm ns') {K:Key}:fH ns K↔fH ns' K:=by
 unfold fH;constructor
 ·rintro(h|⟨n,hn,h⟩)
  ·exact .inl h
  exact .inr ⟨n,p.mem_iff.1 hn,h⟩
 rintro(h|⟨n,hn,h⟩)
 ·exact .inl h
 exact .inr ⟨n,p.mem_iff.2 hn,h⟩
theorem mI.perm (h:mI g nm ns fs dn φ) {ns':List TN} (p:ns.Perm ns'):mI g nm ns' fs dn φ where
 n0:=h.n0
 root:=h.root
 rk:=h.rk
 uniq:=(p.map bK).nodup_iff.1 h.uniq
 up n hn:=(fH.perm p).1 (h.up n (p.mem_iff.2 hn))
 dir n hn:=h.dir n (p.mem_iff.2 hn)
 file n hn hf:=by have h1:=h.file n (p.mem_iff.2 hn) hf;rw[p.countP_eq]at h1;exact h1
 ne0 n hn:=h.ne0 n (p.mem_iff.2 hn)
 inj n hn m hm:=h.inj n (p.mem_iff.2 hn) m (p.mem_iff.2 hm)
 cover i hi hk:=(h.cover i hi hk).imp id fun⟨n,hn,e⟩=>⟨n,p.mem_iff.1 hn,e⟩
 aY K hK:=(h.aY K ((fH.perm p).2 hK)).trans ((p.filter _).map _)
theorem TC :∀ {ns:List TN},(ns.map bK).Nodup→∀ {n m:TN},n∈ns→m∈ns→bK n=bK m→n=m
 |a::t,hu,n,m,hn,hm,e=>by
  rw[List.map_cons,List.nodup_cons]at hu;rcases List.mem_cons.1 hn with e1|hn
  ·rcases List.mem_cons.1 hm with e2|hm
   ·rw[e1,e2]
   exact absurd (List.mem_map.2 ⟨m,hm,by rw[←e,e1]⟩) hu.1
  rcases List.mem_cons.1 hm with e2|hm
  ·exact absurd (List.mem_map.2 ⟨n,hn,by rw[e,e2]⟩) hu.1
  exact TC hu.2 hn hm e
end
section
variable {g:LT} {nm:Nat} {ns:List TN} {fs:List FT} {dn:Key→Nat} {φ:Int→Nat}
theorem mI.aw0 {n:TN} (h:mI g nm (n::ns) fs dn φ) {x:LI} {ix:Nat} (hk:fU ns (bK n)=[])
  (hx:(n.file≠ -1∧x= {g (dJ dn φ n)with links:=(g (dJ dn φ n)).links-1}∧∃m∈ns,m.file=n.file)∨(x=LI0∧∀m∈ns,dJ dn φ m≠dJ dn φ n))
  (hi:ix<(g (dn (bK n).dropLast)).aY.length) (he:pI (g (dn (bK n).dropLast)).aY ix=((bK n).getLastD [],dJ dn φ n)):
  mI (dO (dO g (dn (bK n).dropLast) ((g (dn (bK n).dropLast)).less ix)) (dJ dn φ n) x) nm ns fs dn φ:=by
 obtain⟨P,WL⟩:∃P,P=(bK n).dropLast:=⟨_,rfl⟩;rw[←WL]at hi he ⊢;obtain⟨i,hie⟩:∃i,i=dJ dn φ n:=⟨_,rfl⟩;rw[←hie]at hx he ⊢;obtain⟨d,hd⟩:∃d,d=dn P:=⟨_,rfl⟩;rw[←hd]at hi he ⊢;obtain⟨g',hg'⟩:∃g',g'=dO (dO g d ((g d).less ix)) i x:=⟨_,rfl⟩;rw[←hg'];have hu:=h.uniq;rw[List.map_cons,List.nodup_cons]at hu;have hn0:n∈n::ns:=List.mem_cons_self;have SY:∀K,fH ns K→fH (n::ns) K:=fun K hK=>by
  rcases hK with e|⟨m,hm,e⟩
  ·exact .inl e
  exact .inr ⟨m,List.mem_cons_of_mem _ hm,e⟩
 have arV:∀K,fH (n::ns) K→K≠bK n→fH ns K:=fun K hK hne=>by
  rcases hK with e|⟨m,hm,e,hf⟩
  ·exact .inl e
  rcases List.mem_cons.1 hm with e2|hm
  ·rw[e2]at e;exact absurd e.symm hne
  exact .inr ⟨m,hm,e,hf⟩
 have hP:fH ns P:=arV P (by rw[WL];exact h.up n hn0) (by rw[WL];exact EC (O4 n));have hi0:i≠0:=by rw[hie];exact h.ne0 n hn0
 have arW:n.file≠ -1→(g i).kind=2:=fun hf=>by
  rcases(h.I8 hn0).2 with⟨h1,_⟩|⟨_,h1⟩
  ·exact absurd h1 hf
  rw[hie];exact h1
 have dni:∀K,fH ns K→dn K≠i:=fun K hK e=>by
  rcases hx with⟨hf,_⟩|⟨_,hx⟩
  ·have:=(h.SV (SY K hK)).2;rw[e,arW hf]at this;cases this
  rcases hK with e1|⟨m,hm,e1,hf⟩
  ·rw[e1,h.root]at e;exact hi0 e.symm
  refine hx m hm ?_;unfold dJ;rw[if_pos hf,e1,e]
 have hdi:d≠i:=by rw[hd];exact dni P hP
 have gi:g' i=x:=by rw[hg',dQ]
 have gd:g' d=(g d).less ix:=by rw[hg',eU _ _ hdi,dQ]
 have go:∀m,m≠d→m≠i→g' m=g m:=fun m h1 h2=>by rw[hg',eU _ _ h2,eU _ _ h1]
 have gk:∀m,m≠i→(g' m).kind=(g m).kind∧(g' m).mode=(g m).mode∧(g' m).links=(g m).links∧(g' m).data=(g m).data:=fun m h2=>by
  by_cases h1:m=d
  ·rw[h1,gd];exact⟨rfl,rfl,rfl,rfl⟩
  rw[go m h1 h2];exact⟨rfl,rfl,rfl,rfl⟩
 have fi:∀m∈ns,m.file≠ -1→m.file≠n.file→φ m.file≠i:=fun m hm hf hne e=>by
  (have e1:dJ dn φ m=dJ dn φ n:=by rw[←hie,←e];unfold dJ;rw[if_neg hf]);rcases h.inj m (List.mem_cons_of_mem _ hm) n hn0 e1 with h1|h1
  ·rw[h1]at hne;exact hne rfl
  exact hne h1.2
 refine⟨h.n0,h.root,?_,hu.2,?_,?_,?_,?_,?_,?_,?_⟩
 ·rw[(gk 0 (fun e=>hi0 e.symm)).1];exact h.rk
 ·intro m hm;(refine arV _ (h.up m (List.mem_cons_of_mem _ hm)) fun e=>?_);have:m∈fU ns (bK n):=List.mem_filter.2 ⟨hm,by simp[e]⟩;rw[hk]at this;cases this
 ·intro m hm hf;have h2:=gk (dn (bK m)) (dni _ (.inr ⟨m,hm,rfl,hf⟩));rw[h2.1,h2.2.1,h2.2.2.1];exact h.dir m (List.mem_cons_of_mem _ hm) hf
 ·intro m hm hf;obtain⟨h1,h2,h3,h4,h7⟩:=h.file m (List.mem_cons_of_mem _ hm) hf;rw[List.countP_cons]at h7;by_cases e:m.file=n.file
  ·rcases hx with⟨hfn,hx,_⟩|⟨_,hx⟩
   ·(have e1:φ m.file=i:=by rw[hie,e];unfold dJ;rw[if_neg hfn]);rw[e1]at h2 h3 h4 h7 ⊢;rw[gi,hx];refine⟨h1,h2,h3,h4,?_⟩;rw[if_pos (by simp[e])]at h7;(show(g i).links-1=_);omega
   exfalso;refine hx m hm ?_;rw[hie];unfold dJ;rw[←e,if_neg hf,if_neg hf]
  have h8:=gk (φ m.file) (fi m hm hf e);rw[h8.1,h8.2.1,h8.2.2.1,h8.2.2.2];refine⟨h1,h2,h3,h4,?_⟩;rw[if_neg (by simp only[decide_eq_true_eq];exact fun e2=>e e2.symm)]at h7;exact h7
 ·intro m hm;exact h.ne0 m (List.mem_cons_of_mem _ hm)
 ·intro m hm k hk e;exact h.inj m (List.mem_cons_of_mem _ hm) k (List.mem_cons_of_mem _ hk) e
 ·intro k hkm hkk;by_cases e:k=i
  ·rw[e,gi]at hkk;rcases hx with⟨hf,_,m,hm,QA⟩|⟨hx,_⟩
   ·refine .inr ⟨m,hm,?_⟩;rw[e,hie];unfold dJ;rw[QA,if_neg hf,if_neg hf]
   rw[hx]at hkk;exact absurd rfl hkk
  rw[(gk k e).1]at hkk;rcases h.cover k hkm hkk with h1|⟨m,hm,h1⟩
  ·exact .inl h1
  rcases List.mem_cons.1 hm with e2|hm
  ·rw[e2,←hie]at h1;exact absurd h1.symm e
  exact .inr ⟨m,hm,h1⟩
 intro K hK;have hE:=h.aY K (SY K hK);by_cases e:P=K
 ·subst e;rw[←hd]at hE ⊢;rw[gd];(have e1:fU (n::ns) P=n::fU ns P:=by unfold fU;rw[List.filter_cons,if_pos (by simp[WL])]);rw[e1,List.map_cons,←hie]at hE;have h2:=zX hi;rw[he]at h2;exact(h2.symm.trans hE).cons_inv
 have e1:fU (n::ns) K=fU ns K:=by unfold fU;rw[List.filter_cons,if_neg (by simp only[beq_iff_eq];rw[←WL];exact e)]
 rw[e1]at hE;rw[go _ (fun e2=>e ?_) (dni K hK)]
 ·exact hE
 exact(h.O5 (SY K hK) (SY P hP) (by rw[e2,hd])).symm
end
end Go.Proofs.YteihmbaimbogaaaGreat
namespace Go.Proofs.YteihmbaimbogaaaGreat
set_option linter.unusedVariables false
def gJ (s:List UInt8):Bool:=decide (0<s.length)&&decide (s.length≤14)&& !dots s&&s.all fun c=>jN c.toNat
theorem nR (p:List UInt8):∃h t,splitB p=h::t:=by
 induction p with
 |nil=>exact⟨[],[],rfl⟩
 |cons c l ih=>
  obtain⟨h,t,e⟩:=ih;rw[fB];split
  ·exact⟨_,_,rfl⟩
  rw[e];exact⟨_,_,rfl⟩
theorem yR :∀(p:List UInt8) (n:Nat) (cur:List UInt8),(cur.all fun c=>jN c.toNat)=true→cur.length≤14→
  ∀h t,splitB p=h::t→yN p n cur=(gJ (cur++h)&&t.all gJ&&decide (n+t.length≤6))
 |[],n,cur,hc,hl,h,t,e=>by cases e;unfold yN gJ;rw[List.append_nil,hc];simp[hl]
 |c::cs,n,cur,hc,hl,h,t,e=>by
  obtain⟨h',t',e'⟩:=nR cs;rw[fB,e']at e;unfold yN;by_cases h47:c=47
  ·rw[if_pos h47]at e ⊢;cases e;have ih:=yR cs (n+1) [] (by simp) (by simp) h' t' e';rw[ih,List.append_nil,List.nil_append];by_cases h0:cur.length=0∨dots cur=true
   ·rw[if_pos h0];have:gJ cur=false:=by
     unfold gJ;rcases h0 with h0|h0
     ·simp[h0]
     simp[h0]
    simp[this]
   rw[if_neg h0];(have:gJ cur=true:=by unfold gJ;rw[hc];simp only[not_or]at h0;simp only[Bool.and_true,Bool.and_eq_true,decide_eq_true_eq,Bool.not_eq_true'];refine⟨⟨by omega,hl⟩,by simpa using h0.2⟩);rw[this,List.all_cons,List.length_cons,Bool.true_and];(have e2:(n+1+t'.length≤6)↔(n+(t'.length+1)≤6):=by omega);simp only[e2]
  rw[if_neg h47]at e ⊢;cases e;by_cases hch:jN c.toNat=false
  ·rw[if_pos hch];(have:gJ (cur++c::h')=false:=by unfold gJ;rw[List.all_append,List.all_cons,hch];simp);rw[this];simp
  rw[if_neg hch];by_cases h14:14<cur.length+1
  ·rw[if_pos h14];(have:gJ (cur++c::h')=false:=by unfold gJ;(have:¬(cur++c::h').length≤14:=by simp;omega);simp only[this,decide_false,Bool.and_false,Bool.false_and]);rw[this];simp
  rw[if_neg h14];have ih:=yR cs n (cur++[c]) (by rw[List.all_append,hc];simpa using hch) (by simp;omega) h' _ e';rw[ih,List.append_assoc];rfl
def TD (p:List UInt8):Bool:=decide (p.length≤100)&&(decide ((splitB p).length≤6)&&(splitB p).all gJ)
theorem JA (p:List UInt8):p.length+1=((splitB p).map fun s=>s.length+1).sum:=by
 induction p with
 |nil=>rfl
 |cons c l ih=>
  obtain⟨h,t,e⟩:=nR l;rw[fB,e];rw[e]at ih;split
  ·simp only[List.map_cons,List.sum_cons,List.length_cons,List.length_nil]at ih ⊢;omega
  simp only[List.map_cons,List.sum_cons,List.length_cons]at ih ⊢;omega
theorem abI (l:List (List UInt8)) (h:l.all gJ=true):(l.map fun s=>s.length+1).sum≤15*l.length:=by
 induction l with
 |nil=>simp
 |cons a l ih=>rw[List.all_cons,Bool.and_eq_true]at h;have:=ih h.2;(have h2:a.length≤14:=by have:=h.1;unfold gJ at this;simp only[Bool.and_eq_true,decide_eq_true_eq]at this;exact this.1.1.2);simp only[List.map_cons,List.sum_cons,List.length_cons];omega
theorem yS (p:List UInt8):TD p=aP p:=by
 obtain⟨h,t,e⟩:=nR p;have hv:aP p=(decide ((splitB p).length≤6)&&(splitB p).all gJ):=by unfold aP;rw[yR p 1 [] (by simp) (by simp) h t e,e,List.nil_append,List.all_cons,List.length_cons,Bool.and_comm];(have e2:(1+t.length≤6)↔(t.length+1≤6):=by omega);simp only[e2]
 unfold TD;rw[hv];cases hx:(decide ((splitB p).length≤6)&&(splitB p).all gJ)with
 |false=>simp
 |true=>rw[Bool.and_eq_true,decide_eq_true_eq]at hx;have h1:=JA p;have h2:=abI _ hx.2;(have h3:p.length≤100:=by omega);simp[h3]
set_option linter.unusedSimpArgs false
theorem JB {p:List UInt8} (h:aP p=true):(aR p).length≤14:=by
 rw[←yS]at h;unfold TD at h;simp only[Bool.and_eq_true]at h;have hm:aR p∈splitB p:=by have:=pX p;rw[this];exact List.mem_append_right _ (by simp)
 have:=List.all_eq_true.1 h.2.2 _ hm;unfold gJ at this;simp only[Bool.and_eq_true,decide_eq_true_eq]at this;exact this.1.1.2
def KI (ns:List TN) (K:Key):Except Int (Option TN):=(kC ns K.dropLast.length K.dropLast).bind fun c=>if gU c=true then .ok (gW ns K)else .error 22
structure Vt (S:VS) (ns:List TN) (fs:List FT) (g:LT) (dn:Key→Nat) (φ:Int→Nat):Prop where
 kS:Vol S g
 rep:mI g S.names ns fs dn φ
 m:S.m=0
section
variable {S:VS} {g:LT} {ns:List TN} {fs:List FT} {dn:Key→Nat} {φ:Int→Nat}
theorem Vt.nodes (h:Vt S ns fs g dn φ):S.nodes=ns.length:=by rw[h.kS.ph.nodes,h.rep.count h.kS.ph.fair]
theorem Vt.wB (h:Vt S ns fs g dn φ):S.wB=mJ ns fs:=by rw[h.kS.ph.wB,h.rep.wB h.kS.ph.fair]
theorem Vt.wI (h:Vt S ns fs g dn φ):S.wI=kD ns:=by rw[h.kS.ph.wI,h.rep.wI h.kS.ph.fair]
theorem mI.arX {nm:Nat} (h:mI g nm ns fs dn φ) (hfair:∀i<nm,(g i).fair):∀n<nm,∀e∈(g n).aY,e.2<nm:=fun n hn e he=>by
 by_cases hk:(g n).kind=1
 ·have hD:∃K,fH ns K∧dn K=n:=by
   rcases h.cover n hn (by rw[hk];decide)with e1|⟨m,hm,e1⟩
   ·exact⟨[],.inl rfl,by rw[h.root,e1]⟩
   rcases(h.I8 hm).2 with⟨hf,_⟩|⟨_,h2⟩
   ·refine⟨bK m,.inr ⟨m,hm,rfl,hf⟩,?_⟩;unfold dJ at e1;rw[if_pos hf]at e1;exact e1
   rw[e1,hk]at h2;cases h2
  obtain⟨K,hK,e1⟩:=hD;rw[←e1]at he;have:=(h.aY K hK).mem_iff.1 he;obtain⟨m,hm,e2⟩:=List.mem_map.1 this;rw[←e2];exact(h.I8 (List.mem_filter.1 hm).1).1
 rw[(hfair n hn).aY hk]at he;cases he
theorem Vt.of {S1:VS} {nm:Nat} {g':LT} {ns':List TN} {fs':List FT} {WO:Key→Nat} {φ':Int→Nat} (hp:bI S1 g') (hr:mI g' nm ns' fs' WO φ') (hnm:S1.names=nm) (hlen:ns'.length≤256) (hB:S1.rB=S1.count) (hI:S1.rI=S1.names) (hm:S1.m=0):Vt S1 ns' fs' g' WO φ':=by subst hnm;exact⟨⟨hp,hr.arX hp.fair,hr.rk,by rw[hp.nodes,hr.count hp.fair];omega,hB,hI⟩,hr,hm⟩
theorem AV (h:mI g S.names ns fs dn φ) {K:Key} {x:Option TN} (ha:KI ns K= .ok x):fH ns K.dropLast∧x=gW ns K∧∃c,kC ns K.dropLast.length K.dropLast= .ok c∧gU c=true:=by
 unfold KI at ha;cases hc:kC ns K.dropLast.length K.dropLast with
 |error e=>rw[hc]at ha;cases ha
 |ok c=>
  rw[hc]at ha;change (if gU c=true then Except.ok (gW ns K)else Except.error 22)= .ok x at ha;by_cases hd:gU c=true
  ·rw[if_pos hd]at ha;cases ha;refine⟨?_,rfl,c,rfl,hd⟩;rcases sF h hc with⟨_,e⟩|⟨n,e,hn,hk⟩
   ·exact .inl e
   rw[e]at hd;exact .inr ⟨n,hn,hk,by simpa[gU]using hd⟩
  rw[if_neg hd]at ha;cases ha
theorem abJ (h:mI g S.names ns fs dn φ) {K:Key} {c:Option TN} (hc:kC ns K.length K= .ok c) (hd:gU c=true):WJ dn φ c=dn K:=by
 rcases sF h hc with⟨e,e2⟩|⟨n,e,hn,hk⟩
 ·rw[e,e2];exact h.root.symm
 rw[e]at hd ⊢;have hf:n.file= -1:=by simpa[gU]using hd
 show dJ dn φ n=_
 unfold dJ;rw[if_pos hf,hk]
theorem TE (h:mI g S.names ns fs dn φ) {K:Key} {c:Option TN} (hc:kC ns K.length K= .ok c):gU c=true↔(g (WJ dn φ c)).kind=1:=by
 rcases sF h hc with⟨e,e2⟩|⟨n,e,hn,hk⟩
 ·rw[e];exact⟨fun _=>h.rk,fun _=>rfl⟩
 rw[e];show decide (n.file= -1)=true↔(g (dJ dn φ n)).kind=1
 rw[decide_eq_true_eq];rcases(h.I8 hn).2 with⟨h1,h2⟩|⟨h1,h2⟩
 ·exact⟨fun _=>h2,fun _=>h1⟩
 exact⟨fun e=>absurd e h1,fun e=>by rw[h2]at e;cases e⟩
theorem Vt.look (h:Vt S ns fs g dn φ) (p:List UInt8):aW S.cur S.data 0 0 (splitB p)=match KI ns (splitB p)with
  | .error e=>(0,0,e)
  | .ok none=>((dn (splitB p).dropLast:Int), -1,0)
  | .ok (some n)=>((dn (splitB p).dropLast:Int),(dJ dn φ n:Int),0):=by
 obtain⟨P,hP⟩:∃P,P=(splitB p).dropLast:=⟨_,rfl⟩;have hs:splitB p=P++[aR p]:=by rw[hP];exact pX p
 rw[←hP,hs,I7 h.kS _ _ _ _ h.kS.ph.n0,h.rep.walk P.length P rfl];unfold KI;rw[List.dropLast_concat];cases hc:kC ns P.length P with
 |error e=>rfl
 |ok c=>
  show afM g (aR p) (.ok (WJ dn φ c))=match (if gU c=true then Except.ok (gW ns (P++[aR p]))else Except.error 22:Except Int (Option TN))with
   | .error e=>((0:Int),(0:Int),e)
   | .ok none=>((dn P:Int), -1,0)
   | .ok (some n)=>((dn P:Int),(dJ dn φ n:Int),0)
  have hk:=TE (S:=S) h.rep hc;unfold afM;by_cases hd:gU c=true
  ·have hi:=abJ (S:=S) h.rep hc hd;have hK:fH ns P:=by
    rcases sF h.rep hc with⟨_,e⟩|⟨n,e,hn,hk⟩
    ·exact .inl e
    rw[e]at hd;exact .inr ⟨n,hn,hk,by simpa[gU]using hd⟩
   simp only[if_pos hd,if_pos (hk.1 hd)];rw[hi,h.rep.find hK];cases gW ns (P++[aR p])<;>rfl
  simp only[if_neg hd,if_neg fun e=>hd (hk.2 e)]
def Agr (m:Nat) (φ φ':Int→Nat):Prop:=∀k:Int,k≠(m:Int)→φ' k=φ k
def TG (φ:Int→Nat) (m:Nat) (S:VS) (r:Except Int (Option VS)) (ns':List TN) (fs':List FT):Prop:=
 ∃x,r= .ok x∧(x=none→S.rB<mJ ns' fs'∨S.rI<kD ns')∧∀S1,x=some S1→oU S.cur S1∧ns'.length≤256∧∃g' WO φ',Chg S g' S1∧mI g' S.names ns' fs' WO φ'∧Agr m φ φ'
def uV (ns:List TN) (p:List UInt8):Int:=match KI ns (splitB p)with
 | .error e=>e
 | .ok (some _)=>23
 | .ok none=>if ns.length<256 then 0 else 31
theorem xD {ns:List TN}:∀(k:Nat) (K:Key) {e:Int},kC ns k K= .error e→e=21∨e=22
 |0,K,e,h=>by cases h
 |k+1,K,e,h=>by
  unfold kC at h;cases h1:kC ns k K.dropLast with
  |error e1=>rw[h1]at h;cases h;exact xD k _ h1
  |ok c=>
   rw[h1]at h;change stepT ns K c= .error e at h;unfold stepT at h;split at h
   ·split at h
    ·cases h
    cases h;exact .inl rfl
   cases h;exact .inr rfl
theorem FO {ns:List TN} {K:Key} {e:Int} (h:KI ns K= .error e):e=21∨e=22:=by
 unfold KI at h;cases hc:kC ns K.dropLast.length K.dropLast with
 |error e1=>rw[hc]at h;cases h;exact xD _ _ hc
 |ok c=>
  rw[hc]at h;change (if gU c=true then Except.ok (gW ns K)else Except.error 22)= .error e at h;split at h
  ·cases h
  cases h;exact .inr rfl
theorem JC :∀ {ns:List TN} {n:TN},n.file= -1→eF (ns++[n])=eF ns
 |[],n,h=>by(show eF [n]=[]);unfold eF;rw[if_pos (.inl h)];rfl
 |a::t,n,h=>by rw[List.cons_append];unfold eF;rw[JC h]
theorem JD :∀ {ns:List TN} {n:TN},n.file≠ -1→(∀m∈ns,m.file≠n.file)→eF (ns++[n])=eF ns++[n.file]
 |[],n,h,_=>by(show eF [n]=[n.file]);unfold eF;rw[if_neg (by rw[not_or];exact⟨h,by simp[eF]⟩)];rfl
 |a::t,n,h,hm=>by
  have ha:=hm a List.mem_cons_self;rw[List.cons_append];unfold eF;rw[JD h fun m hmm=>hm m (List.mem_cons_of_mem _ hmm)];by_cases e:a.file= -1∨a.file∈eF t
  ·rw[if_pos e,if_pos (e.imp id fun h=>List.mem_append_left _ h)]
  rw[if_neg e,if_neg (fun e2=>e (e2.imp id fun h=>(List.mem_append.1 h).resolve_right fun h2=>ha (by rwa [List.mem_singleton]at h2))),List.cons_append]
def fJ (ns:List TN) (fs:List FT) (kind mode:Nat) (p:List UInt8):List TN:=ns++[if kind=1 then⟨p, -1,mode⟩else⟨p,fs.length,0⟩]
def mU (fs:List FT) (kind mode:Nat) (bs:List UInt8):List FT:=if kind=1 then fs else fs++[⟨mode,bs⟩]
theorem abK {ns:List TN} {fs:List FT} {kind mode:Nat} {p:List UInt8} (h:∀n∈ns,n.file≠ -1→n.file<fs.length):kD (fJ ns fs kind mode p)=kD ns+1:=by
 unfold kD fJ;by_cases hk:kind=1
 ·rw[if_pos hk,JC rfl];unfold lV;rw[List.filter_append];simp;omega
 rw[if_neg hk];have hne:(fs.length:Int)≠ -1:=by omega
 rw[JD (n:=⟨p,fs.length,0⟩) hne fun m hm e=>by have e':m.file=(fs.length:Int):=e;have:=h m hm (by omega);omega];unfold lV;rw[List.filter_append];have e:([⟨p,fs.length,0⟩]:List TN).filter (fun n=>decide (n.file= -1))=[]:=by rw[List.filter_cons,if_neg (by simp only[decide_eq_true_eq];exact hne)];rfl
 rw[e];simp;omega
theorem Vt.anO (h:Vt S ns fs g dn φ) {kind mode:Nat} {p bs:List UInt8} (hkd:kind=1∧bs=[]∨kind=2) {i:Nat} (hi:i<S.names) (h0:(g i).kind=0) (ha:KI ns (splitB p)= .ok none):
  ∃WO φ',mI (dO (dO g i (kZ kind mode bs)) (dn (splitB p).dropLast) ((g (dn (splitB p).dropLast)).more (aR p) i)) S.names (fJ ns fs kind mode p) (mU fs kind mode bs) WO φ'∧Agr fs.length φ φ':=by
 obtain⟨hP,hno,_⟩:=AV (S:=S) h.rep ha;rcases hkd with⟨rfl,rfl⟩|rfl
 ·exact⟨_,_,h.rep.anN hi h0 hP hno.symm,fun _ _=>rfl⟩
 exact⟨_,_,h.rep.O6 hi h0 hP hno.symm,fun k hk=>if_neg hk⟩
theorem Vt.new (h:Vt S ns fs g dn φ) {kind mode:Nat} {p bs:List UInt8} (hkd:kind=1∧bs=[]∨kind=2) (hv:aP p=true) (hp:p.length≤1048576) (hmode:mode<65536) (hbs:bs.length≤8192):
  (∀d:Nat,aW S.cur S.data 0 0 (splitB p)=((d:Int), -1,0)→S.nodes<256→tN S (⟨kind,mode,1,0,[]⟩:VI) bs d p)∧
  ((uV ns p≠0∧IQ S p (⟨kind,mode,1,0,[]⟩:VI) bs= .error (uV ns p))∨(uV ns p=0∧TG φ fs.length S (IQ S p (⟨kind,mode,1,0,[]⟩:VI) bs) (fJ ns fs kind mode p) (mU fs kind mode bs))):=by
 have hL:=h.look p;have hbase:(aR p).length≤15:=by have:=JB hv;omega
 unfold uV IQ;cases ha:KI ns (splitB p)with
 |error e=>
  rw[ha]at hL;have he:=FO ha;simp only at hL;rw[hL];refine⟨fun d hd=>?_,.inl ⟨by show e≠0;omega,?_⟩⟩
  ·have e1:(0:Int)= -1:=congrArg (fun x:Int×Int×Int=>x.2.1) hd;exact absurd e1 (by decide)
  unfold iF;rw[if_neg (show ¬e=0 by omega)]
 |ok x=>
  cases x with
  |some n=>
   rw[ha]at hL;simp only at hL;rw[hL];refine⟨fun d hd=>?_,.inl ⟨by show(23:Int)≠0;decide,?_⟩⟩
   ·have e1:(dJ dn φ n:Int)= -1:=congrArg (fun x:Int×Int×Int=>x.2.1) hd;omega
   unfold iF;rw[if_pos (show(0:Int)=0 from rfl),if_neg (show ¬(dJ dn φ n:Int)<0 by omega)]
  |none=>
   rw[ha]at hL;simp only at hL;rw[hL];obtain⟨hP,hno,_⟩:=AV (S:=S) h.rep ha;obtain⟨hd1,hd2⟩:=h.rep.SV hP;obtain⟨d,hd⟩:∃d,d=dn (splitB p).dropLast:=⟨_,rfl⟩;(have hone:=fun i=>h.anO (i:=i) (mode:=mode) hkd (p:=p));rw[←hd]at hd1 hd2 hone ⊢;(have hsz:S.nodes<256→(g d).aY.length<448:=fun hn=>by have:=h.kS.ph.ajW hd1;omega);(have JE:=fun hn:S.nodes<256=>h.kS.ph.made h.m ⟨h.kS.rB,h.kS.rI⟩ (kind:=kind) (dir:=d) (mode:=mode) (path:=p) (bs:=bs) hkd hd1 hd2 (hsz hn) hv hp hbase hmode hbs);have hnn:=h.nodes;refine⟨fun d' hd' hn=>?_,?_⟩
   ·have e1:(d:Int)=d':=congrArg (fun x:Int×Int×Int=>x.1) hd';(have e2:d=d':=by omega);rw[←e2];exact(JE hn).1
   have e0:iF ((d:Int),(-1:Int),(0:Int))=none:=rfl;rw[e0];by_cases hn:ns.length<256
   ·(have hn':S.nodes<256:=by omega);simp only[if_pos hn,if_pos hn'];refine .inr ⟨trivial,_,rfl,?_,?_⟩
    ·intro hx;rw[Int.toNat_natCast]at hx;rcases(JE hn').2 with⟨h1,_⟩|⟨i,hi,_,h2⟩
     ·--no inode is free
      right;have hall:=h.kS.ph.abF h1;have h3:S.wI=S.names:=by
       rw[h.kS.ph.wI];have e:∀i<S.names,kT (g i).kind=1:=fun i hi=>by
        have:=hall i hi;have:=(h.kS.ph.fair i hi).kind;unfold kT;split
        ·rfl
        rw[if_pos (by omega)]
       (have e2:=tT (f:=fun n=>kT (g n).kind) (n:=S.names) (a:=1) (b:=1) fun i hi=>by rw[e i hi];omega);omega
      have h4:=h.wI;(have h5:kD (fJ ns fs kind mode p)=kD ns+1:=abK fun n hn hf=>(h.rep.afN hn hf).2);rw[h.kS.rI];omega
     left;obtain⟨hi1,hi0⟩:=h.kS.ph.xC hi;obtain⟨WO,φ',hR,hAg⟩:=hone i hi1 hi0 ha;have h3:=h2 hx;have hfair:∀j<S.names,(dO (dO g i (kZ kind mode bs)) d ((g d).more (aR p) i) j).fair:=fun j hj=>by
      by_cases e1:j=d
      ·rw[e1,dQ];exact LI.MM (h.kS.ph.fair d hd1) hd2 (hsz hn') hbase (by have:=h.kS.ph.pW;omega)
      rw[eU _ _ e1];by_cases e2:j=i
      ·rw[e2,dQ];exact WN hkd hmode hbs
      rw[eU _ _ e2];exact h.kS.ph.fair j hj
     have h4:=MX hfair;rw[hR.wB hfair]at h4;rw[h.kS.rB];omega
    intro S1 hS1;rw[Int.toNat_natCast]at hS1;rcases(JE hn').2 with⟨_,h1⟩|⟨i,hi,h1,_⟩
    ·rw[h1]at hS1;cases hS1
    obtain⟨hi1,hi0⟩:=h.kS.ph.xC hi;obtain⟨WO,φ',hR,hAg⟩:=hone i hi1 hi0 ha;refine⟨(oU.refl S).j6 hS1,?_,_,WO,φ',h1 S1 hS1,hR,hAg⟩;unfold fJ;rw[List.length_append,List.length_singleton];omega
   (have hn':¬S.nodes<256:=by omega);simp only[if_neg hn,if_neg hn'];exact .inl ⟨by decide,trivial⟩
end
end Go.Proofs.YteihmbaimbogaaaGreat
