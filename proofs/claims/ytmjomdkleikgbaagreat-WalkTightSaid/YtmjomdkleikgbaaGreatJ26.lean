/- Parts. -/
import Derived.Test.YtmjomdkleikgbaaGreatJ25
import Derived.Shelf.SortM.Plain
import Derived.Shelf.SortM.SortNone
import Derived.Sort.EncStr
set_option linter.unusedVariables false
set_option linter.unusedSimpArgs false
set_option maxRecDepth 100000
set_option maxHeartbeats 20000000
namespace Go.Proofs.YtmjomdkleikgbaaGreat
def iL (s:List UInt8):Bool:=decide (0<s.length)&&decide (s.length<=14)&& !dots s&&s.all fun c=>lQ c.toNat
theorem sH (p:List UInt8):∃h t,splitB p=h::t:=by
 induction p with
 |nil=>exact⟨[],[],rfl⟩
 |cons c l ih=>
  obtain⟨h,t,e⟩:=ih;rw[iG];split
  ·exact⟨_,_,rfl⟩
  rw[e];exact⟨_,_,rfl⟩
theorem FP :∀(p:List UInt8) (n:Nat) (cur:List UInt8),(cur.all fun c=>lQ c.toNat)=true->cur.length<=14->
  ∀h t,splitB p=h::t->FH p n cur=(iL (cur++h)&&t.all iL&&decide (n+t.length<=6))
 |[],n,cur,hc,hl,h,t,e=>by cases e;unfold FH iL;rw[yX44,hc];simp[hl]
 |c::cs,n,cur,hc,hl,h,t,e=>by
  obtain⟨h',t',e'⟩:=sH cs;rw[iG,e']at e;unfold FH;by_cases h47:c=47
  ·rw[if_pos h47]at e ⊢;cases e;have ih:=FP cs (n+1) [] bL bL h' t' e';rw[ih,yX44,nG];by_cases h0:cur.length=0\/dots cur=true
   ·rw[if_pos h0];have:iL cur=false:=by
     unfold iL;rcases h0 with h0|h0
     ·simp[h0]
     simp[h0]
    simp[this]
   rw[if_neg h0];(have:iL cur=true:=by unfold iL;rw[hc];simp only[not_or]at h0;simp only[Bool.and_true,sJ,tX,LA];refine⟨⟨by omega,hl⟩,by simpa using h0.2⟩);rw[this,List.all_cons,kR,Bool.true_and];(have e2:(n+1+t'.length<=6)↔(n+(t'.length+1)<=6):=by omega);simp only[e2]
  rw[if_neg h47]at e ⊢;cases e;by_cases hch:lQ c.toNat=false
  ·rw[if_pos hch];(have:iL (cur++c::h')=false:=by unfold iL;rw[List.all_append,List.all_cons,hch];simp);rw[this];simp
  rw[if_neg hch];by_cases h14:14<cur.length+1
  ·rw[if_pos h14];(have:iL (cur++c::h')=false:=by unfold iL;(have:¬(cur++c::h').length<=14:=by simp;omega);simp only[this,decide_false,Bool.and_false,OH]);rw[this];simp
  rw[if_neg h14];have ih:=FP cs n (cur++[c]) (by rw[List.all_append,hc];simpa using hch) EN h' _ e';rw[ih,pJ];rfl
def MW (p:List UInt8):Bool:=decide (p.length<=100)&&(decide ((splitB p).length<=6)&&(splitB p).all iL)
theorem QS (p:List UInt8):p.length+1=((splitB p).map fun s=>s.length+1).sum:=by
 induction p with
 |nil=>rfl
 |cons c l ih=>
  obtain⟨h,t,e⟩:=sH l;rw[iG,e];rw[e]at ih;split
  ·simp only[jS,qI,kR,rT]at ih ⊢;omega
  simp only[jS,qI,kR]at ih ⊢;omega
theorem amO (l:List (List UInt8)) (h:l.all iL=true):(l.map fun s=>s.length+1).sum<=15*l.length:=by
 induction l with
 |nil=>simp
 |cons a l ih=>rw[List.all_cons,sJ]at h;have:=ih h.2;(have h2:a.length<=14:=by have:=h.1;unfold iL at this;simp only[sJ,tX]at this;exact this.1.1.2);simp only[jS,qI,kR];omega
theorem uZ (p:List UInt8):MW p=aU p:=by
 obtain⟨h,t,e⟩:=sH p;have hv:aU p=(decide ((splitB p).length<=6)&&(splitB p).all iL):=by unfold aU;rw[FP p 1 [] bL bL h t e,e,nG,List.all_cons,kR,Bool.and_comm];(have e2:(1+t.length<=6)↔(t.length+1<=6):=by omega);simp only[e2]
 unfold MW;rw[hv];cases hx:(decide ((splitB p).length<=6)&&(splitB p).all iL)with
 |false=>simp
 |true=>rw[sJ,tX]at hx;have h1:=QS p;have h2:=amO _ hx.2;(have h3:p.length<=100:=by omega);simp[h3]
theorem rD {p:List UInt8} (h:aU p=true):(aL p).length<=14:=by
 rw[<-uZ]at h;unfold MW at h;simp only[sJ]at h;have hm:aL p∈splitB p:=by have:=yM p;rw[this];exact aa1 _ bL
 have:=List.all_eq_true.1 h.2.2 _ hm;unfold iL at this;simp only[sJ,tX]at this;exact this.1.1.2
def BO (ns:List TN) (K:Key):Except Int (Option TN):=(nY ns K.dropLast.length K.dropLast).bind fun c=>if lC c=true then .ok (kK ns K)else .error 22
structure Vt (S:VS) (ns:List TN) (fs:List FT) (g:LT) (dn:Key->Nat) (φ:Int->Nat):Prop where
 iT:Vol S g
 rep:lY g S.names ns fs dn φ
 m:S.m=0
section
variable {S:VS} {g:LT} {ns:List TN} {fs:List FT} {dn:Key->Nat} {φ:Int->Nat}
theorem Vt.nodes (h:Vt S ns fs g dn φ):S.nodes=ns.length:=by rw[h.iT.ph.nodes,h.rep.count h.iT.ph.fair]
theorem Vt.wB (h:Vt S ns fs g dn φ):S.wB=lJ ns fs:=by rw[h.iT.ph.wB,h.rep.wB h.iT.ph.fair]
theorem Vt.wI (h:Vt S ns fs g dn φ):S.wI=jY ns:=by rw[h.iT.ph.wI,h.rep.wI h.iT.ph.fair]
theorem lY.aDZ {nm:Nat} (h:lY g nm ns fs dn φ) (hfair:∀i<nm,(g i).fair):∀n<nm,∀e∈(g n).bG,e.2<nm:=fun n hn e he=>by
 by_cases hk:(g n).kind=1
 ·have hD:∃K,dI ns K/\dn K=n:=by
   rcases h.cover n hn (by rw[hk];decide)with e1|⟨m,hm,e1⟩
   ·exact⟨[],.inl rfl,by rw[h.root,e1]⟩
   rcases(h.MG hm).2 with⟨hf,_⟩|⟨_,h2⟩
   ·refine⟨bD m,.inr ⟨m,hm,rfl,hf⟩,?_⟩;unfold dD at e1;rw[if_pos hf]at e1;exact e1
   rw[e1,hk]at h2;cases h2
  obtain⟨K,hK,e1⟩:=hD;rw[<-e1]at he;have:=(h.bG K hK).mem_iff.1 he;obtain⟨m,hm,e2⟩:=List.mem_map.1 this;rw[<-e2];exact(h.MG (List.mem_filter.1 hm).1).1
 rw[(hfair n hn).bG hk]at he;cases he
theorem Vt.of {S1:VS} {nm:Nat} {g':LT} {ns':List TN} {fs':List FT} {dn':Key->Nat} {φ':Int->Nat} (hp:dC S1 g') (hr:lY g' nm ns' fs' dn' φ') (hnm:S1.names=nm) (hlen:ns'.length<=256) (hB:S1.rB=S1.count) (hI:S1.rI=S1.names) (hm:S1.m=0):Vt S1 ns' fs' g' dn' φ':=by subst hnm;exact⟨⟨hp,hr.aDZ hp.fair,hr.rk,by rw[hp.nodes,hr.count hp.fair];omega,hB,hI⟩,hr,hm⟩
theorem iW (h:lY g S.names ns fs dn φ) {K:Key} {x:Option TN} (ha:BO ns K= .ok x):dI ns K.dropLast/\x=kK ns K/\∃c,nY ns K.dropLast.length K.dropLast= .ok c/\lC c=true:=by
 unfold BO at ha;cases hc:nY ns K.dropLast.length K.dropLast with
 |error e=>rw[hc]at ha;cases ha
 |ok c=>
  rw[hc]at ha;change (if lC c=true then Except.ok (kK ns K)else Except.error 22)= .ok x at ha;by_cases hd:lC c=true
  ·rw[if_pos hd]at ha;cases ha;refine⟨?_,rfl,c,rfl,hd⟩;rcases xK h hc with⟨_,e⟩|⟨n,e,hn,hk⟩
   ·exact .inl e
   rw[e]at hd;exact .inr ⟨n,hn,hk,by simpa[lC]using hd⟩
  rw[if_neg hd]at ha;cases ha
theorem amP (h:lY g S.names ns fs dn φ) {K:Key} {c:Option TN} (hc:nY ns K.length K= .ok c) (hd:lC c=true):agU dn φ c=dn K:=by
 rcases xK h hc with⟨e,e2⟩|⟨n,e,hn,hk⟩
 ·rw[e,e2];exact h.root.symm
 rw[e]at hd ⊢;have hf:n.file= -1:=by simpa[lC]using hd
 show dD dn φ n=_
 unfold dD;rw[if_pos hf,hk]
theorem ac3 (h:lY g S.names ns fs dn φ) {K:Key} {c:Option TN} (hc:nY ns K.length K= .ok c):lC c=true↔(g (agU dn φ c)).kind=1:=by
 rcases xK h hc with⟨e,e2⟩|⟨n,e,hn,hk⟩
 ·rw[e];exact⟨fun _=>h.rk,fun _=>rfl⟩
 rw[e];show decide (n.file= -1)=true↔(g (dD dn φ n)).kind=1
 rw[tX];rcases(h.MG hn).2 with⟨h1,h2⟩|⟨h1,h2⟩
 ·exact⟨fun _=>h2,fun _=>h1⟩
 exact⟨fun e=>absurd e h1,fun e=>by rw[h2]at e;cases e⟩
theorem Vt.look (h:Vt S ns fs g dn φ) (p:List UInt8):aS S.cur S.data 0 0 (splitB p)=match BO ns (splitB p)with
  | .error e=>(0,0,e)
  | .ok none=>((dn (splitB p).dropLast:Int), -1,0)
  | .ok (some n)=>((dn (splitB p).dropLast:Int),(dD dn φ n:Int),0):=by
 obtain⟨P,hP⟩:∃P,P=(splitB p).dropLast:=⟨_,rfl⟩;have hs:splitB p=P++[aL p]:=by rw[hP];exact yM p
 rw[<-hP,hs,QP h.iT _ _ _ _ h.iT.ph.n0,h.rep.walk P.length P rfl];unfold BO;rw[TK];cases hc:nY ns P.length P with
 |error e=>rfl
 |ok c=>
  show aqN g (aL p) (.ok (agU dn φ c))=match (if lC c=true then Except.ok (kK ns (P++[aL p]))else Except.error 22:Except Int (Option TN))with
   | .error e=>((0:Int),(0:Int),e)
   | .ok none=>((dn P:Int), -1,0)
   | .ok (some n)=>((dn P:Int),(dD dn φ n:Int),0)
  have hk:=ac3 (S:=S) h.rep hc;unfold aqN;by_cases hd:lC c=true
  ·have hi:=amP (S:=S) h.rep hc hd;have hK:dI ns P:=by
    rcases xK h.rep hc with⟨_,e⟩|⟨n,e,hn,hk⟩
    ·exact .inl e
    rw[e]at hd;exact .inr ⟨n,hn,hk,by simpa[lC]using hd⟩
   simp only[if_pos hd,if_pos (hk.1 hd)];rw[hi,h.rep.find hK];cases kK ns (P++[aL p])<;>rfl
  simp only[if_neg hd,if_neg fun e=>hd (hk.2 e)]
def Agr (m:Nat) (φ φ':Int->Nat):Prop:=∀k:Int,k≠(m:Int)->φ' k=φ k
def EP (φ:Int->Nat) (m:Nat) (S:VS) (r:Except Int (Option VS)) (ns':List TN) (fs':List FT):Prop:=
 ∃x,r= .ok x/\(x=none->S.rB<lJ ns' fs'\/S.rI<jY ns')/\∀S1,x=some S1->qN S.cur S1/\ns'.length<=256/\∃g' dn' φ',Chg S g' S1/\lY g' S.names ns' fs' dn' φ'/\Agr m φ φ'
def QT (ns:List TN) (p:List UInt8):Int:=match BO ns (splitB p)with
 | .error e=>e
 | .ok (some _)=>23
 | .ok none=>if ns.length<256 then 0 else 31
theorem V9 {ns:List TN}:∀(k:Nat) (K:Key) {e:Int},nY ns k K= .error e->e=21\/e=22
 |0,K,e,h=>by cases h
 |k+1,K,e,h=>by
  unfold nY at h;cases h1:nY ns k K.dropLast with
  |error e1=>rw[h1]at h;cases h;exact V9 k _ h1
  |ok c=>
   rw[h1]at h;change stepT ns K c= .error e at h;unfold stepT at h;split at h
   ·split at h
    ·cases h
    cases h;exact .inl rfl
   cases h;exact .inr rfl
theorem tO {ns:List TN} {K:Key} {e:Int} (h:BO ns K= .error e):e=21\/e=22:=by
 unfold BO at h;cases hc:nY ns K.dropLast.length K.dropLast with
 |error e1=>rw[hc]at h;cases h;exact V9 _ _ hc
 |ok c=>
  rw[hc]at h;change (if lC c=true then Except.ok (kK ns K)else Except.error 22)= .error e at h;split at h
  ·cases h
  cases h;exact .inr rfl
theorem QU :∀ {ns:List TN} {n:TN},n.file= -1->fD (ns++[n])=fD ns
 |[],n,h=>by(show fD [n]=[]);unfold fD;rw[if_pos (.inl h)];rfl
 |a::t,n,h=>by rw[kW];unfold fD;rw[QU h]
theorem QV :∀ {ns:List TN} {n:TN},n.file≠ -1->(∀m∈ns,m.file≠n.file)->fD (ns++[n])=fD ns++[n.file]
 |[],n,h,_=>by(show fD [n]=[n.file]);unfold fD;rw[if_neg (by rw[not_or];exact⟨h,by simp[fD]⟩)];rfl
 |a::t,n,h,hm=>by
  have ha:=hm a nE;rw[kW];unfold fD;rw[QV h fun m hmm=>hm m (vK _ hmm)];by_cases e:a.file= -1\/a.file∈fD t
  ·rw[if_pos e,if_pos (e.imp id fun h=>vN _ h)]
  rw[if_neg e,if_neg (fun e2=>e (e2.imp id fun h=>(iN.1 h).resolve_right fun h2=>ha (by rwa [sW]at h2))),kW]
def xL (ns:List TN) (fs:List FT) (kind mode:Nat) (p:List UInt8):List TN:=ns++[if kind=1 then⟨p, -1,mode⟩else⟨p,fs.length,0⟩]
def WA (fs:List FT) (kind mode:Nat) (bs:List UInt8):List FT:=if kind=1 then fs else fs++[⟨mode,bs⟩]
theorem amQ {ns:List TN} {fs:List FT} {kind mode:Nat} {p:List UInt8} (h:∀n∈ns,n.file≠ -1->n.file<fs.length):jY (xL ns fs kind mode p)=jY ns+1:=by
 unfold jY xL;by_cases hk:kind=1
 ·rw[if_pos hk,QU rfl];unfold jK;rw[E9];simp;omega
 rw[if_neg hk];have hne:(fs.length:Int)≠ -1:=by omega
 rw[QV (n:=⟨p,fs.length,0⟩) hne fun m hm e=>by have e':m.file=(fs.length:Int):=e;have:=h m hm aD;omega];unfold jK;rw[E9];have e:([⟨p,fs.length,0⟩]:List TN).filter (fun n=>decide (n.file= -1))=[]:=by rw[xY,if_neg (by simp only[tX];exact hne)];rfl
 rw[e];simp;omega
theorem Vt.azX (h:Vt S ns fs g dn φ) {kind mode:Nat} {p bs:List UInt8} (hkd:kind=1/\bs=[]\/kind=2) {i:Nat} (hi:i<S.names) (h0:(g i).kind=0) (ha:BO ns (splitB p)= .ok none):
  ∃dn' φ',lY (dO (dO g i (nZ kind mode bs)) (dn (splitB p).dropLast) ((g (dn (splitB p).dropLast)).more (aL p) i)) S.names (xL ns fs kind mode p) (WA fs kind mode bs) dn' φ'/\Agr fs.length φ φ':=by
 obtain⟨hP,hno,_⟩:=iW (S:=S) h.rep ha;rcases hkd with⟨rfl,rfl⟩|rfl
 ·exact⟨_,_,h.rep.azU hi h0 hP hno.symm,fun _ _=>rfl⟩
 exact⟨_,_,h.rep.avS hi h0 hP hno.symm,fun k hk=>if_neg hk⟩
theorem Vt.new (h:Vt S ns fs g dn φ) {kind mode:Nat} {p bs:List UInt8} (hkd:kind=1/\bs=[]\/kind=2) (hv:aU p=true) (hp:p.length<=1048576) (hmode:mode<65536) (hbs:bs.length<=8192):
  (∀d:Nat,aS S.cur S.data 0 0 (splitB p)=((d:Int), -1,0)->S.nodes<256->wO S (⟨kind,mode,1,0,[]⟩:VI) bs d p)/\
  ((QT ns p≠0/\MU S p (⟨kind,mode,1,0,[]⟩:VI) bs= .error (QT ns p))\/(QT ns p=0/\EP φ fs.length S (MU S p (⟨kind,mode,1,0,[]⟩:VI) bs) (xL ns fs kind mode p) (WA fs kind mode bs))):=by
 have hL:=h.look p;have hbase:(aL p).length<=15:=by have:=rD hv;omega
 unfold QT MU;cases ha:BO ns (splitB p)with
 |error e=>
  rw[ha]at hL;have he:=tO ha;simp only at hL;rw[hL];refine⟨fun d hd=>?_,.inl ⟨by show e≠0;omega,?_⟩⟩
  ·have e1:(0:Int)= -1:=congrArg (fun x:Int×Int×Int=>x.2.1) hd;exact absurd e1 aV
  unfold gP;rw[if_neg (show ¬e=0 by omega)]
 |ok x=>
  cases x with
  |some n=>
   rw[ha]at hL;simp only at hL;rw[hL];refine⟨fun d hd=>?_,.inl ⟨by show(23:Int)≠0;decide,?_⟩⟩
   ·have e1:(dD dn φ n:Int)= -1:=congrArg (fun x:Int×Int×Int=>x.2.1) hd;omega
   unfold gP;rw[if_pos (show(0:Int)=0 from rfl),if_neg (show ¬(dD dn φ n:Int)<0 by omega)]
  |none=>
   rw[ha]at hL;simp only at hL;rw[hL];obtain⟨hP,hno,_⟩:=iW (S:=S) h.rep ha;obtain⟨hd1,hd2⟩:=h.rep.zU hP;obtain⟨d,hd⟩:∃d,d=dn (splitB p).dropLast:=⟨_,rfl⟩;(have hone:=fun i=>h.azX (i:=i) (mode:=mode) hkd (p:=p));rw[<-hd]at hd1 hd2 hone ⊢;(have hsz:S.nodes<256->(g d).bG.length<448:=fun hn=>by have:=h.iT.ph.ZF hd1;omega);(have aqP:=fun hn:S.nodes<256=>h.iT.ph.made h.m ⟨h.iT.rB,h.iT.rI⟩ (kind:=kind) (dir:=d) (mode:=mode) (path:=p) (bs:=bs) hkd hd1 hd2 (hsz hn) hv hp hbase hmode hbs);have hnn:=h.nodes;refine⟨fun d' hd' hn=>?_,?_⟩
   ·have e1:(d:Int)=d':=congrArg (fun x:Int×Int×Int=>x.1) hd';(have e2:d=d':=by omega);rw[<-e2];exact(aqP hn).1
   have e0:gP ((d:Int),(-1:Int),(0:Int))=none:=rfl;rw[e0];by_cases hn:ns.length<256
   ·(have hn':S.nodes<256:=by omega);simp only[if_pos hn,if_pos hn'];refine .inr ⟨trivial,_,rfl,?_,?_⟩
    ·intro hx;rw[mW]at hx;rcases(aqP hn').2 with⟨h1,_⟩|⟨i,hi,_,h2⟩
     ·--no inode is free
      right;have hall:=h.iT.ph.amL h1;have h3:S.wI=S.names:=by
       rw[h.iT.ph.wI];have e:∀i<S.names,nQ (g i).kind=1:=fun i hi=>by
        have:=hall i hi;have:=(h.iT.ph.fair i hi).kind;unfold nQ;split
        ·rfl
        rw[if_pos aD]
       (have e2:=yL (f:=fun n=>nQ (g n).kind) (n:=S.names) (a:=1) (b:=1) fun i hi=>by rw[e i hi];omega);omega
      have h4:=h.wI;(have h5:jY (xL ns fs kind mode p)=jY ns+1:=amQ fun n hn hf=>(h.rep.aj1 hn hf).2);rw[h.iT.rI];omega
     left;obtain⟨hi1,hi0⟩:=h.iT.ph.DN hi;obtain⟨dn',φ',hR,hAg⟩:=hone i hi1 hi0 ha;have h3:=h2 hx;have hfair:∀j<S.names,(dO (dO g i (nZ kind mode bs)) d ((g d).more (aL p) i) j).fair:=fun j hj=>by
      by_cases e1:j=d
      ·rw[e1,bM];exact LI.C9 (h.iT.ph.fair d hd1) hd2 (hsz hn') hbase (by have:=h.iT.ph.nW;omega)
      rw[bT _ _ e1];by_cases e2:j=i
      ·rw[e2,bM];exact agY hkd hmode hbs
      rw[bT _ _ e2];exact h.iT.ph.fair j hj
     have h4:=DR hfair;rw[hR.wB hfair]at h4;rw[h.iT.rB];omega
    intro S1 hS1;rw[mW]at hS1;rcases(aqP hn').2 with⟨_,h1⟩|⟨i,hi,h1,_⟩
    ·rw[h1]at hS1;cases hS1
    obtain⟨hi1,hi0⟩:=h.iT.ph.DN hi;obtain⟨dn',φ',hR,hAg⟩:=hone i hi1 hi0 ha;refine⟨(qN.refl S).lH hS1,?_,_,dn',φ',h1 S1 hS1,hR,hAg⟩;unfold xL;rw[jL,oK];omega
   (have hn':¬S.nodes<256:=by omega);simp only[if_neg hn,if_neg hn'];exact .inl ⟨by decide,trivial⟩
end
open Go.RowKit
theorem heap_sorted {α:Type} [Inhabited α] (enc:α->Value) (w:World) (g n:Nat) (d:Array α) (os:Array Obj) (b:Nat) (hb:b<w.heap.size):
  (Go.Proofs.sortWorld enc w g 0 n d os).heap[b]? =if g=b then w.heap[b]?.map (Go.Sort.onCells (Go.Sort.putCells enc 0 d))else w.heap[b]? :=by
 exact Z35
theorem Sep.sorted {α:Type} [Inhabited α] (enc:α->Value) {w0 w:World} {As:List aZ} {e:TypeId} {g m cap:Nat} {cs:List Value} (k:Nat) (h:Sep w0 w As)
  (hi:As[k]? =some (.sl e 1 (sV g m cap) m cs)) (n:Nat) (d:Array α) (hd:d.size=m) (os:Array Obj):
  Sep w0 (Go.Proofs.sortWorld enc w g 0 n d os) (As.set k (.sl e 1 (sV g m cap) m (d.toList.map enc))):=by
 refine h.step k hi fun F ⟨ho,hF⟩ _=>⟨F,⟨⟨by simp[hd],?_⟩,hF⟩,fun b hb=>.inl hb,?_⟩
 ·rcases ho.2 with⟨h',_⟩|⟨g',cap',cur,h',hb,hg,hc,hm,hs,ht⟩
  ·simp at h'
  simp only[Value.slice.injEq,U2,Addr.mk.injEq,and_true,true_and]at h';obtain⟨rfl,rfl⟩:=h';refine .inr ⟨g,cap,Go.Sort.putCells enc 0 d cur,rfl,hb,?_,hc,hm,by simpa[Go.Sort.putCells]using hs,?_⟩
  ·rw[heap_sorted enc w g n d os g (lt_of_heap hg),if_pos rfl,hg];rfl
  apply GI;intro i;by_cases hi:i<m
  ·(have hc2:i<cur.size:=by omega);simp[Go.Sort.putCells,hd,hi,hc2]
  rw[EZ EN,EZ EN]
 refine⟨rfl,rfl,rfl,by simp[Go.Proofs.sortWorld,Go.Sort.grow,Go.Sort.putRow,Go.Sort.mapBlock,Go.Sort.ahead],fun b hb hn=>?_⟩;rw[heap_sorted enc w g n d os b hb,if_neg];intro e;subst e;exact hn (by rw[hF];simp[Value.ownBlock])
def sS (v:Value) (ps:List (List UInt8)):aZ:=.sl 9 1 v ps.length (ps.map aC)
def zF (ps:List (List UInt8)):List (List UInt8):=ps.mergeSort fun x y=>decide (x<=y)
theorem QW (ps:List (List UInt8)):(zF ps).Perm ps:=List.mergeSort_perm _ _
theorem aqQ (ps:List (List UInt8)):(zF ps).Pairwise fun x y=>x<=y:=by have h:=List.pairwise_mergeSort (le:=fun(x y:List UInt8)=>decide (x<=y)) (fun a b c h1 h2=>by simp only[tX]at h1 h2 ⊢;exact List.le_trans h1 h2) (fun a b=>by simp only[MO,tX];exact List.le_total a b) ps;exact h.imp fun h=>by simpa using h
theorem ag0 {w0 w:World} {As:List aZ} {g n c:Nat} {ps:List (List UInt8)} (k:Nat) (h:Sep w0 w As) (hk:As[k]? =some (.sl 9 1 (sV g n c) n (ps.map aC))) (hn:ps.length=n):Go.Sort.Holds Go.Proofs.encStr w g 0 ps.toArray:=fun j hj=>by
 have hj':j<ps.length:=by simpa using hj
 rw[GL];refine⟨?_,h.frozenAt k hk j⟩;rw[h.cellAt k hk j aD,getElem!_pos _ j hj];simp[hj'];rfl
theorem ZJ {w0 w:World} {As:List aZ} {v:Value} {ps:List (List UInt8)} (k:Nat) (h:Sep w0 w As) (hk:As[k]? =some (sS v ps)) (hl:ps.length<=1048576):
  Calls Tryz.prog 109 #[v] w fun e w'=>e= .returned (.tuple #[])/\Sep w0 w' (As.set k (sS v (zF ps))):=by
 have hlen:(zF ps).length=ps.length:=(QW ps).length_eq;rcases xW ps.length with h0|hpos
 ·obtain rfl:ps=[]:=vL h0;obtain⟨A,c,rfl,_⟩:=(h.rd k hk).shape;have hcon:=Go.Proofs.AnyM.slices_Sort_string_none Go.Proofs.Tryz.sortStrings A c w;change Calls Tryz.prog 109 _ _ _ at hcon;refine hcon.mono ?_;rintro e w' ⟨rfl,rfl⟩;refine⟨rfl,?_⟩;obtain⟨hlt,e⟩:=gF.1 hk;have e2:zF []=[]:=vL (by rw[hlen];rfl);rw[e2,<-e,aa5];exact h
 obtain⟨g,c,rfl,_,hg,_⟩:=h.j5 k hk hpos;have hH:=ag0 k h hk rfl;have hcon:=Go.Proofs.AnyM.slices_Sort_string Go.Proofs.Tryz.sortStrings g 0 c ps w hH hg aD;change Calls Tryz.prog 109 _ _ _ at hcon;refine hcon.mono ?_;rintro e w' ⟨rfl,n,os,rfl⟩;refine⟨rfl,?_⟩;have hS:=h.sorted (α:=List UInt8) Go.Proofs.encStr k hk n (zF ps).toArray (by simpa using hlen) os;have e1:sS (sV g ps.length c) (zF ps)= .sl 9 1 (sV g ps.length c) ps.length ((zF ps).toArray.toList.map Go.Proofs.encStr):=by unfold sS;rw[hlen];rfl
 rw[e1];exact hS
def aj4 (S:VS) (path:List UInt8):Nat:=if path=[]then 0 else(aS S.cur S.data 0 0 (splitB path)).2.1.toNat
def kS (S:VS) (path:List UInt8):Int:=
 if path=[]then(if(aG S.cur 0).kind=1 then 0 else 22)
 else if dV path=0 then(match dU (aS S.cur S.data 0 0 (splitB path))with|some k=>k|none=>if(aG S.cur (aS S.cur S.data 0 0 (splitB path)).2.1.toNat).kind=1 then 0 else 22)
 else dV path
def mR (S:VS) (path:List UInt8):List (List UInt8):=if kS S path=0 then zF ((jU S.cur S.data (aG S.cur (aj4 S path))).map (·.1))else []
section
variable {w0 w:World} {R:List aZ} {f q p:Nat} {S:VS} {a:VA}
theorem Z1 {P:Prop} (h:P:=by
 clear x0 x1 x2 x3 x4;obtain⟨bx,hbx⟩:∃bx,bx=w6.heap.size:=⟨_,rfl⟩;rw[<-hbx]at h5 ⊢;clear hbx;have hcs:Hid (∀W Y (Z:List aZ),Sep w0 W (Y:: .box bx 129 #[iV ((1:Nat):Int),iV (xm:Nat),iV (xl:Nat),iV (N:Nat),.slice A6 lx c6]::Z)->W.cell? ⟨bx,0,none⟩=some (iV 1)/\W.cell? ⟨bx,1,none⟩=some (iV (xm:Nat))/\W.cell? ⟨bx,2,none⟩=some (iV (xl:Nat))/\W.cell? ⟨bx,3,none⟩=some (iV (N:Nat))/\W.cell? ⟨bx,4,none⟩=some (.slice A6 lx c6)):=Lh fun W Y Z hS=>⟨hS.bC 1 rfl 0,hS.bC 1 rfl 1,hS.bC 1 rfl 2,hS.bC 1 rfl 3,hS.bC 1 rfl 4⟩
 go_loopw[4,35] (fun ov iv wr=>∃k:Nat,k<=N/\iv=iV k/\Hid (∃a1,VC T a1/\Sep w0 wr (aF f q p T a1:: .box bx 129 #[iV ((1:Nat):Int),iV (xm:Nat),iV (xl:Nat),iV (N:Nat),.slice A6 lx c6]:: .sl 9 1 ov ((L.take k).map (fun e=>Value.string ⟨e.1.toArray⟩)).length ((L.take k).map (fun e=>Value.string ⟨e.1.toArray⟩))::aJ w.heap.size 0::aR (.slice A6 lx c6) (dZ xs)::R))) (fun _ iv _=>N-(intOf iv).toNat)
 case atStart=>exact⟨0,gI _,rfl,Lh ⟨a6,LP.out,Sep.dE [2,1,0,3,4] (h5.out.iO 9 1) aV (by simp[aJ])⟩⟩
 obtain⟨k,hk,rfl,hS⟩:=hrel;obtain⟨a1,kH,hS1⟩:=hS.out;clear hS h5 LP;by_cases hlt:k<N
 ·have hy:=hcs.out _ _ _ hS1.drew;have hc:=uQ.out _ k a1 _ _ _ _ _ hlt kH hS1.drew;(have q1:(k:Int)<N:=by omega);(have q0:(0:Int)<=k:=by omega);obtain⟨u,hu⟩:∃u,u=(sQ L k).1:=⟨_,rfl⟩;obtain⟨z,hz⟩:∃z,z=(sQ L k).2:=⟨_,rfl⟩;rw[<-hu,<-hz]at hc;(have hst:(L.take (k+1)).map (fun e=>Value.string ⟨e.1.toArray⟩)=(L.take k).map (fun e=>Value.string ⟨e.1.toArray⟩)++[Value.string ⟨u.toArray⟩]:=by rw[pE,gE (by rw[hLn.out];exact hlt),uM,hu];simp);replace hst:=Lh hst;obtain⟨Lv,hLv⟩:∃Lv,Lv=(L.take k).map (fun e=>Value.string ⟨e.1.toArray⟩):=⟨_,rfl⟩;(have hLl:Lv.length<=448:=by rw[hLv,iM,qL];omega);have hck:=hS1.dS 2 rfl;rw[<-hLv]at hc hck hst;obtain⟨Ao,co,rfl⟩:=hck;clear hS1 kH hu hz hLv;replace hc:=Lh hc;go_wp2_with fail;rename_i K1 hK1;refine mX ?_;refine aP (S:=fun w'=>w'.cell? ⟨bx,0,none⟩=some (iV 1)/\w'.cell? ⟨bx,1,none⟩=some (iV (xm:Nat))/\w'.cell? ⟨bx,2,none⟩=some (iV (xl:Nat))/\w'.cell? ⟨bx,3,none⟩=some (iV (N:Nat))/\w'.cell? ⟨bx,4,none⟩=some (.slice A6 lx c6)) 11 ?_;refine aA 0 hy ?_;refine aA 1 hy ?_;refine aA 2 hy ?_;refine aA 3 hy ?_;refine aA 4 hy ?_;(refine bI 5 fun K hK=>?_);go_simp;go_at_call 108;refine hc.out.mono ?_;rintro e w5 ⟨rfl,a2,hC2,h2⟩;have hy2:=hcs.out _ _ _ h2;clear hy;dsimp only;refine hK _ _ (fun _=>hy2) ?_;clear hK K;(try simp only[Act.put,gD]);refine bB 6 (fun _=>hy2) ?_;refine aA 7 hy2 ?_;refine aA 8 hy2 ?_;refine aA 9 hy2 ?_;refine aA 10 hy2 ?_;refine aQ fH ?_ _;simp only[rO];have h3:Sep w0 (w5.alloc (.cells #[.string ⟨u.toArray⟩] 9)) (.sl 9 1 (.slice Ao Lv.length co) Lv.length Lv::aF f q p T a2:: .box bx 129 #[iV ((1:Nat):Int),iV (xm:Nat),iV (xl:Nat),iV (N:Nat),.slice A6 lx c6]::aJ w.heap.size 0::aR (.slice A6 lx c6) (dZ xs)::R):=Sep.dE [2,0,1,3,4] (h2.alloc _) aV bL;clear h2 hy2 hc;replace hC2:=Lh hC2;simp only[Exit.then];apply hK1;go_wp2_with(at_builtin;refine mJ 0 rfl _ _ 73 rfl 9 i0 (.string ⟨#[]⟩) 1 16 Tryz.underlying73 hif hz0 hz1 hz2 rfl aV h3 _ _ _ rfl rfl ⟨w5.heap.size,0,none⟩ 1 1 [.string ⟨u.toArray⟩] rfl rfl (cell_one_new _ _ _) oCl aV vQ aD ?_);intro gg cc w3 kD hz4;have hS5:=Lh (Sep.dE [1,2,0,3,4] kD aV bL);clear kD hz4 h3;go_wp2_with fail;go_roundw
  case rel=>exact⟨k+1,by omega,by go_num,Lh ⟨a2,hC2.out,(by rw[hst.out,jL];exact hS5.out)⟩⟩
  case measure=>(simp[intOf];omega)
 obtain rfl:k=N:=by omega
 have e1:(L.take k).map (fun e=>Value.string ⟨e.1.toArray⟩)=(L.map (·.1)).map aC:=by rw[qH (by rw[hLn.out];exact iB _),qJ];rfl
 rw[e1]at hS1;have hS2:Sep w0 wr (sS u4 (L.map (·.1))::aF f q p T a1:: .box bx 129 #[iV ((1:Nat):Int),iV (xm:Nat),iV (xl:Nat),iV (k:Nat),.slice A6 lx c6]::aJ w.heap.size 0::aR (.slice A6 lx c6) (dZ xs)::R):=by unfold sS;rw[iM]at hS1;exact Sep.dE [2,0,1,3,4] hS1 aV bL
 have hso:=ZJ 0 hS2 rfl (by rw[iM,hLn.out];omega);clear hS1 e1 hS2;replace kH:=Lh kH;go_wp2_with(go_at_call 109;refine hso.mono ?_;rintro e w5 ⟨rfl,h5⟩;(have k1:=h5.bC 3 rfl 0);(have k2:=h5.bF 3 rfl 0);simp only[gA,gB]at k1;clear hso;replace h5:=Lh h5);refine hd.out _ _ a1 [.box bx 129 #[iV ((1:Nat):Int),iV (xm:Nat),iV (xl:Nat),iV (k:Nat),.slice A6 lx c6],aR (.slice A6 lx c6) (dZ xs)] u4 kH.out ?_ rfl rfl;rw[ZK.out];exact Sep.dE [0,1,3,2,4] h5.out aV (by simp[aJ])):P:=h
theorem ac4 {path:List UInt8} (hp:path.length<=9223372036854775807) (ho:S.D.off=false) (hV:VW S.base) (hroot:(aG S.base.cur 0).kind=1) (h:Sep w0 w (bH f q p S::R)):
  Calls Tryz.prog 40 #[pV f,aC path] w fun e w'=>∃v,e= .returned (.tuple #[v,iV (kS S.base path)])/\Sep w0 w' (sS v (mR S.base path)::bH f q p S.base::R):=by
 have hb:=DI h;have h1:Sep w0 (w.alloc (.cells #[iV 0] 40)) (bH f q p S::aJ w.heap.size 0::R):=Sep.dE [1,0] (h.bN 40 #[iV 0]) aV (by simp[aJ]);have haw:=AR ho h1;obtain⟨T,hT⟩:∃T,T=S.base:=⟨_,rfl⟩;rw[<-hT]at hV hb haw hroot ⊢;clear ho hT;obtain⟨i0,hif,hz0,hz1,hz2⟩:=iU L8;have hres:Hid (∀(tm:Array Value) W x v Y,tm.getD 5 undef=pV w.heap.size->tm.getD 4 undef=v->Sep w0 W (Y++aJ w.heap.size x::R)->(results Tryz.f40 tm).run Tryz.prog W= .ok (.tuple #[v,iV x]) W):=Lh fun tm W x v Y ht hv hW=>by(have hi:(Y++aJ w.heap.size x::R)[Y.length]? =some (aJ w.heap.size x):=by simp);have ec:=hW.bC _ hi 0;simp only[gA,gB]at ec;(have ht2:tm[5]?.getD undef=pV w.heap.size:=by simpa using ht);(have hv2:tm[4]?.getD undef=v:=by simpa using hv);simp[results,Tryz.results40,go_sem,ht2,hv2,asAddr,loadVar,ec]
 have hpl:Hid (∀W,Calls Tryz.prog 68 #[aC path] W fun e w'=>e=(if dV path=0 then .returned (.tuple #[])else .panicked (fP (dV path)))/\Below W.heap.size W w'):=Lh fun W=>KE hp W
 have oZ:Hid (∀(tm:Array Value) W a k,k=kS T path->k≠0->k≠11->VC T a->Sep w0 W (aF f q p T a::aJ w.heap.size 0::R)->tm.getD 5 undef=pV w.heap.size->tm.getD 4 undef= .slice none 0 0->
   Leaves Tryz.prog Tryz.f40 tm (fun e w'=>∃v,e= .returned (.tuple #[v,iV (kS T path)])/\Sep w0 w' (sS v (mR T path)::bH f q p T::R)) [{target:=.fn (.func 52) #[],args:=#[pV f,pV w.heap.size]}] (.panicking (fP k)) W):=Lh fun tm W a k hk h0 h11 hC hW ht ht4=>by
  (refine II hC hb h11 hW fun w' hw=>?_);refine⟨_,hres.out tm w' k _ [bH f q p T] ht ht4 hw,.slice none 0 0,by rw[hk],?_⟩;have h5:Sep w0 w' (aJ w.heap.size k::bH f q p T::R):=hw.perm (List.Perm.swap _ _ _);unfold mR;rw[<-hk,if_neg h0];exact(h5.drop 1).iO 9 1
 have hquit:Hid (∀(tm:Array Value) W a B,kS T path=22->VC T a->Sep w0 W (aF f q p T a::aJ w.heap.size 0::(B++R))->tm.getD 5 undef=pV w.heap.size->tm.getD 4 undef= .slice none 0 0->
   Leaves Tryz.prog Tryz.f40 tm (fun e w'=>∃v,e= .returned (.tuple #[v,iV (kS T path)])/\Sep w0 w' (sS v (mR T path)::bH f q p T::R)) [{target:=.fn (.func 52) #[],args:=#[pV f,pV w.heap.size]}] .returning (W.setCell ⟨w.heap.size,0,none⟩ (.int .i64 22))):=Lh fun tm W a B hk hC hW ht ht4=>by
  refine kQ ?_;have h2:Sep w0 _ (aF f q p T a::aJ w.heap.size 22::(B++R)):=hW.bS 1 rfl 0 (.int .i64 22);have h3:Sep w0 _ (B++(aF f q p T a::aJ w.heap.size 22::R)):=h2.perm (by refine(List.Perm.trans ?_ lZ.symm);exact List.Perm.cons _ lZ.symm);have h4:=h3.drop B.length;rw[GQ]at h4;refine⟨_,hres.out tm _ 22 _ [aF f q p T a] ht ht4 h4,.slice none 0 0,by rw[hk],?_⟩;have h5:Sep w0 _ (aJ w.heap.size 22::aF f q p T a::R):=h4.perm (List.Perm.swap _ _ _);unfold mR;rw[hk,if_neg aV];exact(qZ hC hb (h5.drop 1)).iO 9 1
 have hdone:Hid (∀(tm:Array Value) W a B v,kS T path=0->VC T a->Sep w0 W (sS v (mR T path)::aF f q p T a::aJ w.heap.size 0::(B++R))->tm.getD 5 undef=pV w.heap.size->tm.getD 4 undef=v->
   Leaves Tryz.prog Tryz.f40 tm (fun e w'=>∃v,e= .returned (.tuple #[v,iV (kS T path)])/\Sep w0 w' (sS v (mR T path)::bH f q p T::R)) [{target:=.fn (.func 52) #[],args:=#[pV f,pV w.heap.size]}] .returning (W.setCell ⟨w.heap.size,0,none⟩ (.int .i64 0))):=Lh fun tm W a B v hk hC hW ht ht4=>by
  refine kQ ?_;have h2:Sep w0 _ (sS v (mR T path)::aF f q p T a::aJ w.heap.size 0::(B++R)):=hW.bS 2 rfl 0 (.int .i64 0);have h3:Sep w0 _ (B++(sS v (mR T path)::aF f q p T a::aJ w.heap.size 0::R)):=h2.perm (by refine(List.Perm.trans ?_ lZ.symm);refine List.Perm.cons _ (List.Perm.trans ?_ lZ.symm);exact List.Perm.cons _ lZ.symm);have h4:=h3.drop B.length;rw[GQ]at h4;refine⟨_,hres.out tm _ 0 _ [sS v (mR T path),aF f q p T a] ht ht4 h4,v,by rw[hk],?_⟩;have h5:Sep w0 _ (aJ w.heap.size 0::aF f q p T a::sS v (mR T path)::R):=Sep.dE [2,1,0] h4 aV bL;exact(qZ hC hb (h5.drop 1)).perm (List.Perm.swap _ _ _)
 have hfl:Hid (aU path=true->∀W a,VC T a->Sep w0 W (aF f q p T a::aJ w.heap.size 0::R)->Calls Tryz.prog 107 #[pV f,aC path] W fun e w'=>e=lS (aS T.cur T.data 0 0 (splitB path))/\∃a',VC T a'/\Sep w0 w' (aF f q p T a'::aJ w.heap.size 0::R)):=Lh fun hv W a hC hW=>
  (nV hC hV hv (dL hv) hW).mono fun e w' ⟨h1,a',h2,h3⟩=>⟨h1,a',h2.ok,h3⟩
 have hin:Hid (∀m:Nat,m<T.names->∀W a,VC T a->Sep w0 W (aF f q p T a::aJ w.heap.size 0::R)->Calls Tryz.prog 72 #[pV f,iV m] W fun e w'=>∃A c a2,e= .returned (fJ (aG T.cur m) (.slice A (aG T.cur m).aB.length c))/\VC T a2/\Sep w0 w' (aF f q p T a2::aJ w.heap.size 0::aR (.slice A (aG T.cur m).aB.length c) (dZ (aG T.cur m).aB)::R)):=Lh fun m hm W a hC hW=>by refine(jP hC hV.vf hm (hV.few m hm) hW).mono ?_;rintro e w' ⟨v,a2,rfl,hR,h9⟩;obtain⟨A9,c9,e9⟩:=h9.dS 0 rfl;subst e9;(have e10:(dZ (aG T.cur m).aB).length=(aG T.cur m).aB.length:=by unfold dZ;rw[iM]);rw[e10]at h9 ⊢;exact⟨A9,c9,a2,rfl,hR.ok,Sep.dE [1,2,0] h9 aV bL⟩
 have hen:Hid (∀m:Nat,m<T.names->(aG T.cur m).kind=1->∀W k a1 A c bx Lv ov,k<(aG T.cur m).size->VC T a1->Sep w0 W (aF f q p T a1:: .box bx 129 (aN (aG T.cur m) (.slice A (aG T.cur m).aB.length c)):: .sl 9 1 ov Lv.length Lv::aJ w.heap.size 0::aR (.slice A (aG T.cur m).aB.length c) (dZ (aG T.cur m).aB)::R)->
   Calls Tryz.prog 108 #[pV f,fJ (aG T.cur m) (.slice A (aG T.cur m).aB.length c),iV (k:Nat)] W fun e w'=>e= .returned (.tuple #[aC (sQ (jU T.cur T.data (aG T.cur m)) k).1,.int .i64 ((sQ (jU T.cur T.data (aG T.cur m)) k).2:Nat)])/\∃a',VC T a'/\Sep w0 w' (aF f q p T a':: .box bx 129 (aN (aG T.cur m) (.slice A (aG T.cur m).aB.length c)):: .sl 9 1 ov Lv.length Lv::aJ w.heap.size 0::aR (.slice A (aG T.cur m).aB.length c) (dZ (aG T.cur m).aB)::R)):=Lh fun m hm hk W k a1 A c bx Lv ov hks hC hW=>by
  have:=JV (i:=k) hC hV.vf (jD 3 rfl) (hV.dir m hm hk) hks hW;rw[CR hks];exact this.mono fun e w' ⟨h1,a',h2,h3⟩=>⟨h1,a',h2.ok,h3⟩
 have hln:=pY hV (path:=path);have hpw:=FN path;have hfs:∀k,dU (aS T.cur T.data 0 0 (splitB path))=some k->k≠0/\k≠11:=fun k hk=>zD hk
 have hsz:∀m:Nat,m<T.names->(aG T.cur m).kind=1->(aG T.cur m).size<=448:=fun m hm hk=>by have:=(hV.dir m hm hk).room;have:=(hV.dir m hm hk).few;omega
 have hn0:=hV.n0;clear hV h h1 hp;by_cases h00:path=[]
 ·subst h00;(have hk1:kS T []=(if(aG T.cur 0).kind=1 then 0 else 22):=by unfold kS;rw[if_pos rfl]);(have ZK:kS T []=0->mR T []=zF ((jU T.cur T.data (aG T.cur 0)).map (·.1)):=fun e=>by unfold mR;rw[if_pos e];rfl);have hin2:=hin.out 0 hn0;have uQ:=hen.out 0 hn0;(have ZL:(aG T.cur 0).kind=1->(aG T.cur 0).size<=448:=fun hk=>hsz 0 hn0 hk);clear hfl hpl hln hpw hfs hsz hin hen hn0 hroot;obtain⟨x,hx⟩:∃x,x=aG T.cur 0:=⟨_,rfl⟩;rw[<-hx]at hin2 uQ ZL hk1 ZK;obtain⟨L,hL⟩:∃L,L=jU T.cur T.data x:=⟨_,rfl⟩;(have hLn:L.length=x.size:=by rw[hL,AO]);rw[<-hL]at uQ ZK;replace hL:=Lh hL;clear hx;obtain⟨xk,xm,xl,N,xs⟩:=x;simp only[fJ,aN]at hin2 uQ ZL hk1 hLn ZK;obtain⟨lx,hlx⟩:∃l,l=xs.length:=⟨_,rfl⟩;rw[<-hlx]at hin2 uQ;replace hlx:=Lh hlx;replace hLn:=Lh hLn;replace hin2:=Lh hin2;replace uQ:=Lh uQ;unfold aC at*;by_cases hkk:xk=1
  ·subst hkk;rw[if_pos rfl]at hk1;replace ZL:=ZL rfl;(have N1:(N:Int)<=448:=by omega);have hd:=Lh (fun tm W a B v=>hdone.out tm W a B v hk1);replace uQ:=Lh (uQ.out rfl);replace ZK:=Lh (ZK hk1);clear hdone hquit oZ hk1
   go_enter_defers Tryz.func40,Tryz.ntmps40
   go_wp2_with(first |(go_at_call 53;refine haw.mono ?_;rintro e w9 ⟨rfl,a9,eP,h9⟩;(have hi7:=hin2.out _ _ eP h9);clear eP h9;clear haw)|(go_at_call 72;refine hi7.mono ?_;rintro e w6 ⟨A6,c6,a6,rfl,LP,h6⟩;(have h5:=h6.bN 129 #[iV ((1:Nat):Int),iV (xm:Nat),iV (xl:Nat),iV (N:Nat),.slice A6 lx c6]);(have x0:=h5.bC 0 rfl 0);(have x1:=h5.bC 0 rfl 1);(have x2:=h5.bC 0 rfl 2);(have x3:=h5.bC 0 rfl 3);(have x4:=h5.bC 0 rfl 4);simp only[gA,gB,gC]at x0 x1 x2 x3 x4;clear hi7 h6;replace LP:=Lh LP;replace h5:=Lh h5));exact Z1
  rw[if_neg hkk]at hk1;(have hkx:((xk:Int)==1)=false:=by rw[jM];omega);(have hkn:((xk:Int) !=1)=true:=by rw[bne_iff_ne];omega);have hq:=Lh (fun tm W a B=>hquit.out tm W a B hk1);clear uQ ZK hkk hL;clear hdone hquit oZ hk1
  go_enter_defers Tryz.func40,Tryz.ntmps40
  go_wp2_with(first |(go_at_call 53;refine haw.mono ?_;rintro e w9 ⟨rfl,a9,eP,h9⟩;(have hi7:=hin2.out _ _ eP h9);clear eP h9;clear haw)|(go_at_call 72;refine hi7.mono ?_;rintro e w6 ⟨A6,c6,a6,rfl,LP,h6⟩;(have h5:=h6.bN 129 #[iV (xk:Nat),iV (xm:Nat),iV (xl:Nat),iV (N:Nat),.slice A6 lx c6]);(have x0:=h5.bC 0 rfl 0);(have k1:=h5.bC 2 rfl 0);(have k2:=h5.bF 2 rfl 0);simp only[gA,gB,gC]at x0 k1;clear hi7 h6;replace LP:=Lh LP;replace h5:=Lh h5));exact hq.out _ _ a6 [_,_] LP.out (Sep.dE [1,2,0,3] h5.out aV (by simp[aJ])) rfl rfl
 have hne:(path==[])=false:=by simpa using h00
 have hne2:(path.toArray==#[])=false:=by simpa using h00
 by_cases h0:dV path=0
 ·have hv:=KF h0;have oN:=hfl.out hv;rw[h0,if_pos rfl]at hpl;(have hlx:kS T path=(match dU (aS T.cur T.data 0 0 (splitB path))with|some k=>k|none=>if(aG T.cur (aS T.cur T.data 0 0 (splitB path)).2.1.toNat).kind=1 then 0 else 22):=by unfold kS;rw[if_neg h00,if_pos h0]);(have ZK:kS T path=0->mR T path=zF ((jU T.cur T.data (aG T.cur (aS T.cur T.data 0 0 (splitB path)).2.1.toNat)).map (·.1)):=fun e=>by unfold mR aj4;rw[if_pos e,if_neg h00]);clear hfl h0 hpw hv h00;rw[rQ]at oN;obtain⟨fe,hfe⟩:∃fe,fe=dU (aS T.cur T.data 0 0 (splitB path)):=⟨_,rfl⟩;rw[<-hfe]at oN hfs hlx;cases fe with
  |some k=>
   obtain⟨hk0,acW⟩:=hfs k rfl;simp only at hlx oN;have hg:=Lh (fun tm W a=>oZ.out tm W a k hlx.symm hk0 acW);replace oN:=Lh oN;clear hfs hfe hln hk0 acW oZ hquit hdone hin hen ZK hlx hsz hres;unfold aC at*
   go_enter_defers Tryz.func40,Tryz.ntmps40
   go_wp2_with(first |(go_at_call 53;refine haw.mono ?_;rintro e w9 ⟨rfl,a9,eP,h9⟩;replace eP:=Lh eP;clear haw)|(go_at_call 68;go_loud (refine(hpl.out _).mono ?_;rintro e w8 ⟨rfl,BI⟩;have BJ:=oN.out _ _ eP.out (h9.pure BI);clear h9;clear BI hpl))|(go_at_call 107;refine BJ.mono ?_;rintro e w7 ⟨rfl,a7,VM,h7⟩;clear BJ));exact hg.out _ _ _ VM h7 rfl rfl
  |none=>
   obtain⟨hr0,hr1⟩:=rR hfe.symm;obtain⟨d,m,hdl,FK,hre⟩:=hln hr0 hr1;rw[hre]at hlx ZK oN;simp only[mW]at hlx ZK oN;have hk1:kS T path=(if(aG T.cur m).kind=1 then 0 else 22):=hlx;have hin2:=hin.out m FK;have uQ:=hen.out m FK;(have ZL:(aG T.cur m).kind=1->(aG T.cur m).size<=448:=fun hk=>hsz m FK hk);replace oN:=Lh oN;clear hfs hfe hln hr0 hr1 FK hdl hre hin hen hsz hlx hroot hn0;obtain⟨x,hx⟩:∃x,x=aG T.cur m:=⟨_,rfl⟩;rw[<-hx]at hin2 uQ ZL hk1 ZK;obtain⟨L,hL⟩:∃L,L=jU T.cur T.data x:=⟨_,rfl⟩;(have hLn:L.length=x.size:=by rw[hL,AO]);rw[<-hL]at uQ ZK;replace hL:=Lh hL;clear hx;obtain⟨xk,xm,xl,N,xs⟩:=x;simp only[fJ,aN]at hin2 uQ ZL hk1 hLn ZK;obtain⟨lx,hlx⟩:∃l,l=xs.length:=⟨_,rfl⟩;rw[<-hlx]at hin2 uQ;replace hlx:=Lh hlx;replace hLn:=Lh hLn;replace hin2:=Lh hin2;replace uQ:=Lh uQ;unfold aC at*;by_cases hkk:xk=1
   ·subst hkk;rw[if_pos rfl]at hk1;replace ZL:=ZL rfl;(have N1:(N:Int)<=448:=by omega);have hd:=Lh (fun tm W a B v=>hdone.out tm W a B v hk1);replace uQ:=Lh (uQ.out rfl);replace ZK:=Lh (ZK hk1);clear hdone hquit oZ hk1
    go_enter_defers Tryz.func40,Tryz.ntmps40
    go_wp2_with(first |(go_at_call 53;refine haw.mono ?_;rintro e w9 ⟨rfl,a9,eP,h9⟩;replace eP:=Lh eP;clear haw)|(go_at_call 68;refine(hpl.out _).mono ?_;rintro e w8 ⟨rfl,BI⟩;have BJ:=oN.out _ _ eP.out (h9.pure BI);clear h9;clear BI hpl)|(go_at_call 107;refine BJ.mono ?_;rintro e w7 ⟨rfl,a7,VM,h7⟩;have hi7:=hin2.out _ _ VM h7;clear BJ h7 VM)|(go_at_call 72;refine hi7.mono ?_;rintro e w6 ⟨A6,c6,a6,rfl,LP,h6⟩;(have h5:=h6.bN 129 #[iV ((1:Nat):Int),iV (xm:Nat),iV (xl:Nat),iV (N:Nat),.slice A6 lx c6]);(have x0:=h5.bC 0 rfl 0);(have x1:=h5.bC 0 rfl 1);(have x2:=h5.bC 0 rfl 2);(have x3:=h5.bC 0 rfl 3);(have x4:=h5.bC 0 rfl 4);simp only[gA,gB,gC]at x0 x1 x2 x3 x4;clear hi7 h6;replace LP:=Lh LP;replace h5:=Lh h5));exact Z1
   rw[if_neg hkk]at hk1;(have hkx:((xk:Int)==1)=false:=by rw[jM];omega);(have hkn:((xk:Int) !=1)=true:=by rw[bne_iff_ne];omega);have hq:=Lh (fun tm W a B=>hquit.out tm W a B hk1);clear uQ ZK hkk hL;clear hdone hquit oZ hk1
   go_enter_defers Tryz.func40,Tryz.ntmps40
   go_wp2_with(first |(go_at_call 53;refine haw.mono ?_;rintro e w9 ⟨rfl,a9,eP,h9⟩;replace eP:=Lh eP;clear haw)|(go_at_call 68;refine(hpl.out _).mono ?_;rintro e w8 ⟨rfl,BI⟩;have BJ:=oN.out _ _ eP.out (h9.pure BI);clear h9;clear BI hpl)|(go_at_call 107;refine BJ.mono ?_;rintro e w7 ⟨rfl,a7,VM,h7⟩;have hi7:=hin2.out _ _ VM h7;clear BJ h7 VM)|(go_at_call 72;refine hi7.mono ?_;rintro e w6 ⟨A6,c6,a6,rfl,LP,h6⟩;(have h5:=h6.bN 129 #[iV (xk:Nat),iV (xm:Nat),iV (xl:Nat),iV (N:Nat),.slice A6 lx c6]);(have x0:=h5.bC 0 rfl 0);(have k1:=h5.bC 2 rfl 0);(have k2:=h5.bF 2 rfl 0);simp only[gA,gB,gC]at x0 k1;clear hi7 h6;replace LP:=Lh LP;replace h5:=Lh h5));exact hq.out _ _ a6 [_,_] LP.out (Sep.dE [1,2,0,3] h5.out aV (by simp[aJ])) rfl rfl
 have hlx:kS T path=dV path:=by unfold kS;rw[if_neg h00,if_neg h0]
 have hg:=Lh (fun tm W a=>oZ.out tm W a (dV path) hlx.symm h0 hpw);rw[if_neg h0]at hpl;clear hfl hln oZ hfs hpw hquit hdone hin hen hlx hsz hres h00;unfold aC at*
 go_enter_defers Tryz.func40,Tryz.ntmps40
 exact Z59
end
end Go.Proofs.YtmjomdkleikgbaaGreat
