/- Parts. -/
import Derived.Test.YtmjomdkleikgbaaGreatK25
import Derived.Shelf.SortM.Plain
import Derived.Shelf.SortM.SortNone
import Derived.Sort.EncStr
set_option linter.unusedVariables false
set_option linter.unusedSimpArgs false
set_option maxRecDepth 100000
set_option maxHeartbeats 20000000
namespace Go.Proofs.YtmjomdkleikgbaaGreat
def iL (s:List UInt8):Bool:=decide (0<s.length)&&decide (s.length<=14)&& !dots s&&s.all fun c=>lU c.toNat
theorem sO (p:List UInt8):∃h t,splitB p=h::t:=by
 induction p with
 |nil=>exact⟨[],[],rfl⟩
 |cons c l ih=>
  obtain⟨h,t,e⟩:=ih;rw[iG];split
  ·exact⟨_,_,rfl⟩
  rw[e];exact⟨_,_,rfl⟩
theorem F5 :∀(p:List UInt8) (n:Nat) (cur:List UInt8),(cur.all fun c=>lU c.toNat)=true->cur.length<=14->
  ∀h t,splitB p=h::t->FV p n cur=(iL (cur++h)&&t.all iL&&decide (n+t.length<=6))
 |[],n,cur,hc,hl,h,t,e=>by cases e;unfold FV iL;rw[yX46,hc];simp[hl]
 |c::cs,n,cur,hc,hl,h,t,e=>by
  obtain⟨h',t',e'⟩:=sO cs;rw[iG,e']at e;unfold FV;by_cases h47:c=47
  ·rw[if_pos h47]at e ⊢;cases e;have ih:=F5 cs (n+1) [] bK bK h' t' e';rw[ih,yX46,mI];by_cases h0:cur.length=0\/dots cur=true
   ·rw[if_pos h0];have:iL cur=false:=by
     unfold iL;rcases h0 with h0|h0
     ·simp[h0]
     simp[h0]
    simp[this]
   rw[if_neg h0];(have:iL cur=true:=by unfold iL;rw[hc];simp only[not_or]at h0;simp only[Bool.and_true,sP,jN,LX];refine⟨⟨by omega,hl⟩,by simpa using h0.2⟩);rw[this,List.all_cons,kH,Bool.true_and];(have e2:(n+1+t'.length<=6)↔(n+(t'.length+1)<=6):=by omega);simp only[e2]
  rw[if_neg h47]at e ⊢;cases e;by_cases hch:lU c.toNat=false
  ·rw[if_pos hch];(have:iL (cur++c::h')=false:=by unfold iL;rw[List.all_append,List.all_cons,hch];simp);rw[this];simp
  rw[if_neg hch];by_cases h14:14<cur.length+1
  ·rw[if_pos h14];(have:iL (cur++c::h')=false:=by unfold iL;(have:¬(cur++c::h').length<=14:=by simp;omega);simp only[this,decide_false,Bool.and_false,O1]);rw[this];simp
  rw[if_neg h14];have ih:=F5 cs n (cur++[c]) (by rw[List.all_append,hc];simpa using hch) E8 h' _ e';rw[ih,pG];rfl
def NG (p:List UInt8):Bool:=decide (p.length<=100)&&(decide ((splitB p).length<=6)&&(splitB p).all iL)
theorem RD (p:List UInt8):p.length+1=((splitB p).map fun s=>s.length+1).sum:=by
 induction p with
 |nil=>rfl
 |cons c l ih=>
  obtain⟨h,t,e⟩:=sO l;rw[iG,e];rw[e]at ih;split
  ·simp only[jV,qN,kH,qQ]at ih ⊢;omega
  simp only[jV,qN,kH]at ih ⊢;omega
theorem anG (l:List (List UInt8)) (h:l.all iL=true):(l.map fun s=>s.length+1).sum<=15*l.length:=by
 induction l with
 |nil=>simp
 |cons a l ih=>rw[List.all_cons,sP]at h;have:=ih h.2;(have h2:a.length<=14:=by have:=h.1;unfold iL at this;simp only[sP,jN]at this;exact this.1.1.2);simp only[jV,qN,kH];omega
theorem vH (p:List UInt8):NG p=aV p:=by
 obtain⟨h,t,e⟩:=sO p;have hv:aV p=(decide ((splitB p).length<=6)&&(splitB p).all iL):=by unfold aV;rw[F5 p 1 [] bK bK h t e,e,mI,List.all_cons,kH,Bool.and_comm];(have e2:(1+t.length<=6)↔(t.length+1<=6):=by omega);simp only[e2]
 unfold NG;rw[hv];cases hx:(decide ((splitB p).length<=6)&&(splitB p).all iL)with
 |false=>simp
 |true=>rw[sP,jN]at hx;have h1:=RD p;have h2:=anG _ hx.2;(have h3:p.length<=100:=by omega);simp[h3]
theorem rJ {p:List UInt8} (h:aV p=true):(aL p).length<=14:=by
 rw[<-vH]at h;unfold NG at h;simp only[sP]at h;have hm:aL p∈splitB p:=by have:=y8 p;rw[this];exact abR _ bK
 have:=List.all_eq_true.1 h.2.2 _ hm;unfold iL at this;simp only[sP,jN]at this;exact this.1.1.2
def CG (ns:List TN) (K:Key):Except Int (Option TN):=(nZ ns K.dropLast.length K.dropLast).bind fun c=>if lH c=true then .ok (kP ns K)else .error 22
structure Vt (S:VS) (ns:List TN) (fs:List FT) (g:LT) (dn:Key->Nat) (φ:Int->Nat):Prop where
 iP:Vol S g
 rep:l6 g S.names ns fs dn φ
 m:S.m=0
section
variable {S:VS} {g:LT} {ns:List TN} {fs:List FT} {dn:Key->Nat} {φ:Int->Nat}
theorem Vt.nodes (h:Vt S ns fs g dn φ):S.nodes=ns.length:=by rw[h.iP.ph.nodes,h.rep.count h.iP.ph.fair]
theorem Vt.wI (h:Vt S ns fs g dn φ):S.wI=kQ ns:=by rw[h.iP.ph.wI,h.rep.wI h.iP.ph.fair]
theorem l6.aES {nm:Nat} (h:l6 g nm ns fs dn φ) (hfair:∀i<nm,(g i).fair):∀n<nm,∀e∈(g n).bH,e.2<nm:=fun n hn e he=>by
 by_cases hk:(g n).kind=1
 ·have hD:∃K,dJ ns K/\dn K=n:=by
   rcases h.cover n hn (by rw[hk];decide)with e1|⟨m,hm,e1⟩
   ·exact⟨[],.inl rfl,by rw[h.root,e1]⟩
   rcases(h.MV hm).2 with⟨hf,_⟩|⟨_,h2⟩
   ·refine⟨bE m,.inr ⟨m,hm,rfl,hf⟩,?_⟩;unfold dE at e1;rw[if_pos hf]at e1;exact e1
   rw[e1,hk]at h2;cases h2
  obtain⟨K,hK,e1⟩:=hD;rw[<-e1]at he;have:=(h.bH K hK).mem_iff.1 he;obtain⟨m,hm,e2⟩:=List.mem_map.1 this;rw[<-e2];exact(h.MV (List.mem_filter.1 hm).1).1
 rw[(hfair n hn).bH hk]at he;cases he
theorem Vt.of {S1:VS} {nm:Nat} {g':LT} {ns':List TN} {fs':List FT} {dn':Key->Nat} {φ':Int->Nat} (hp:dD S1 g') (hr:l6 g' nm ns' fs' dn' φ') (hnm:S1.names=nm) (hlen:ns'.length<=256) (hB:S1.rB=S1.count) (hI:S1.rI=S1.names) (hm:S1.m=0):Vt S1 ns' fs' g' dn' φ':=by subst hnm;exact⟨⟨hp,hr.aES hp.fair,hr.rk,by rw[hp.nodes,hr.count hp.fair];omega,hB,hI⟩,hr,hm⟩
theorem iT (h:l6 g S.names ns fs dn φ) {K:Key} {x:Option TN} (ha:CG ns K= .ok x):dJ ns K.dropLast/\x=kP ns K/\∃c,nZ ns K.dropLast.length K.dropLast= .ok c/\lH c=true:=by
 unfold CG at ha;cases hc:nZ ns K.dropLast.length K.dropLast with
 |error e=>rw[hc]at ha;cases ha
 |ok c=>
  rw[hc]at ha;change (if lH c=true then Except.ok (kP ns K)else Except.error 22)= .ok x at ha;by_cases hd:lH c=true
  ·rw[if_pos hd]at ha;cases ha;refine⟨?_,rfl,c,rfl,hd⟩;rcases xZ h hc with⟨_,e⟩|⟨n,e,hn,hk⟩
   ·exact .inl e
   rw[e]at hd;exact .inr ⟨n,hn,hk,by simpa[lH]using hd⟩
  rw[if_neg hd]at ha;cases ha
theorem anH (h:l6 g S.names ns fs dn φ) {K:Key} {c:Option TN} (hc:nZ ns K.length K= .ok c) (hd:lH c=true):ahN dn φ c=dn K:=by
 rcases xZ h hc with⟨e,e2⟩|⟨n,e,hn,hk⟩
 ·rw[e,e2];exact h.root.symm
 rw[e]at hd ⊢;have hf:n.file= -1:=by simpa[lH]using hd
 show dE dn φ n=_
 unfold dE;rw[if_pos hf,hk]
theorem adT (h:l6 g S.names ns fs dn φ) {K:Key} {c:Option TN} (hc:nZ ns K.length K= .ok c):lH c=true↔(g (ahN dn φ c)).kind=1:=by
 rcases xZ h hc with⟨e,e2⟩|⟨n,e,hn,hk⟩
 ·rw[e];exact⟨fun _=>h.rk,fun _=>rfl⟩
 rw[e];show decide (n.file= -1)=true↔(g (dE dn φ n)).kind=1
 rw[jN];rcases(h.MV hn).2 with⟨h1,h2⟩|⟨h1,h2⟩
 ·exact⟨fun _=>h2,fun _=>h1⟩
 exact⟨fun e=>absurd e h1,fun e=>by rw[h2]at e;cases e⟩
theorem Vt.look (h:Vt S ns fs g dn φ) (p:List UInt8):aU S.cur S.data 0 0 (splitB p)=match CG ns (splitB p)with
  | .error e=>(0,0,e)
  | .ok none=>((dn (splitB p).dropLast:Int), -1,0)
  | .ok (some n)=>((dn (splitB p).dropLast:Int),(dE dn φ n:Int),0):=by
 obtain⟨P,hP⟩:∃P,P=(splitB p).dropLast:=⟨_,rfl⟩;have hs:splitB p=P++[aL p]:=by rw[hP];exact y8 p
 rw[<-hP,hs,Q8 h.iP _ _ _ _ h.iP.ph.n0,h.rep.walk P.length P rfl];unfold CG;rw[UI];cases hc:nZ ns P.length P with
 |error e=>rfl
 |ok c=>
  show arI g (aL p) (.ok (ahN dn φ c))=match (if lH c=true then Except.ok (kP ns (P++[aL p]))else Except.error 22:Except Int (Option TN))with
   | .error e=>((0:Int),(0:Int),e)
   | .ok none=>((dn P:Int), -1,0)
   | .ok (some n)=>((dn P:Int),(dE dn φ n:Int),0)
  have hk:=adT (S:=S) h.rep hc;unfold arI;by_cases hd:lH c=true
  ·have hi:=anH (S:=S) h.rep hc hd;have hK:dJ ns P:=by
    rcases xZ h.rep hc with⟨_,e⟩|⟨n,e,hn,hk⟩
    ·exact .inl e
    rw[e]at hd;exact .inr ⟨n,hn,hk,by simpa[lH]using hd⟩
   simp only[if_pos hd,if_pos (hk.1 hd)];rw[hi,h.rep.find hK];cases kP ns (P++[aL p])<;>rfl
  simp only[if_neg hd,if_neg fun e=>hd (hk.2 e)]
def Agr (m:Nat) (φ φ':Int->Nat):Prop:=∀k:Int,k≠(m:Int)->φ' k=φ k
def FC (φ:Int->Nat) (m:Nat) (S:VS) (r:Except Int (Option VS)) (ns':List TN) (fs':List FT):Prop:=
 ∃x,r= .ok x/\(x=none->S.rB<nC ns' fs'\/S.rI<kQ ns')/\∀S1,x=some S1->qU S.cur S1/\ns'.length<=256/\∃g' dn' φ',Chg S g' S1/\l6 g' S.names ns' fs' dn' φ'/\Agr m φ φ'
def RF (ns:List TN) (p:List UInt8):Int:=match CG ns (splitB p)with
 | .error e=>e
 | .ok (some _)=>23
 | .ok none=>if ns.length<256 then 0 else 31
theorem WS {ns:List TN}:∀(k:Nat) (K:Key) {e:Int},nZ ns k K= .error e->e=21\/e=22
 |0,K,e,h=>by cases h
 |k+1,K,e,h=>by
  unfold nZ at h;cases h1:nZ ns k K.dropLast with
  |error e1=>rw[h1]at h;cases h;exact WS k _ h1
  |ok c=>
   rw[h1]at h;change stepT ns K c= .error e at h;unfold stepT at h;split at h
   ·split at h
    ·cases h
    cases h;exact .inl rfl
   cases h;exact .inr rfl
theorem tX {ns:List TN} {K:Key} {e:Int} (h:CG ns K= .error e):e=21\/e=22:=by
 unfold CG at h;cases hc:nZ ns K.dropLast.length K.dropLast with
 |error e1=>rw[hc]at h;cases h;exact WS _ _ hc
 |ok c=>
  rw[hc]at h;change (if lH c=true then Except.ok (kP ns K)else Except.error 22)= .error e at h;split at h
  ·cases h
  cases h;exact .inr rfl
theorem RG :∀ {ns:List TN} {n:TN},n.file= -1->fH (ns++[n])=fH ns
 |[],n,h=>by(show fH [n]=[]);unfold fH;rw[if_pos (.inl h)];rfl
 |a::t,n,h=>by rw[kI];unfold fH;rw[RG h]
theorem RH :∀ {ns:List TN} {n:TN},n.file≠ -1->(∀m∈ns,m.file≠n.file)->fH (ns++[n])=fH ns++[n.file]
 |[],n,h,_=>by(show fH [n]=[n.file]);unfold fH;rw[if_neg (by rw[not_or];exact⟨h,by simp[fH]⟩)];rfl
 |a::t,n,h,hm=>by
  have ha:=hm a nH;rw[kI];unfold fH;rw[RH h fun m hmm=>hm m (vR _ hmm)];by_cases e:a.file= -1\/a.file∈fH t
  ·rw[if_pos e,if_pos (e.imp id fun h=>vU _ h)]
  rw[if_neg e,if_neg (fun e2=>e (e2.imp id fun h=>(iM.1 h).resolve_right fun h2=>ha (by rwa [tJ]at h2))),kI]
def yA (ns:List TN) (fs:List FT) (kind mode:Nat) (p:List UInt8):List TN:=ns++[if kind=1 then⟨p, -1,mode⟩else⟨p,fs.length,0⟩]
def WT (fs:List FT) (kind mode:Nat) (bs:List UInt8):List FT:=if kind=1 then fs else fs++[⟨mode,bs⟩]
theorem anI {ns:List TN} {fs:List FT} {kind mode:Nat} {p:List UInt8} (h:∀n∈ns,n.file≠ -1->n.file<fs.length):kQ (yA ns fs kind mode p)=kQ ns+1:=by
 unfold kQ yA;by_cases hk:kind=1
 ·rw[if_pos hk,RG rfl];unfold jL;rw[FN];simp;omega
 rw[if_neg hk];have hne:(fs.length:Int)≠ -1:=by omega
 rw[RH (n:=⟨p,fs.length,0⟩) hne fun m hm e=>by have e':m.file=(fs.length:Int):=e;have:=h m hm aD;omega];unfold jL;rw[FN];have e:([⟨p,fs.length,0⟩]:List TN).filter (fun n=>decide (n.file= -1))=[]:=by rw[yM,if_neg (by simp only[jN];exact hne)];rfl
 rw[e];simp;omega
theorem Vt.aAO (h:Vt S ns fs g dn φ) {kind mode:Nat} {p bs:List UInt8} (hkd:kind=1/\bs=[]\/kind=2) {i:Nat} (hi:i<S.names) (h0:(g i).kind=0) (ha:CG ns (splitB p)= .ok none):
  ∃dn' φ',l6 (dP (dP g i (oC kind mode bs)) (dn (splitB p).dropLast) ((g (dn (splitB p).dropLast)).more (aL p) i)) S.names (yA ns fs kind mode p) (WT fs kind mode bs) dn' φ'/\Agr fs.length φ φ':=by
 obtain⟨hP,hno,_⟩:=iT (S:=S) h.rep ha;rcases hkd with⟨rfl,rfl⟩|rfl
 ·exact⟨_,_,h.rep.aAL hi h0 hP hno.symm,fun _ _=>rfl⟩
 exact⟨_,_,h.rep.awV hi h0 hP hno.symm,fun k hk=>if_neg hk⟩
theorem Vt.new (h:Vt S ns fs g dn φ) {kind mode:Nat} {p bs:List UInt8} (hkd:kind=1/\bs=[]\/kind=2) (hv:aV p=true) (hp:p.length<=1048576) (hmode:mode<65536) (hbs:bs.length<=8192):
  (∀d:Nat,aU S.cur S.data 0 0 (splitB p)=((d:Int), -1,0)->S.nodes<256->wX S (⟨kind,mode,1,0,[]⟩:VI) bs d p)/\
  ((RF ns p≠0/\ND S p (⟨kind,mode,1,0,[]⟩:VI) bs= .error (RF ns p))\/(RF ns p=0/\FC φ fs.length S (ND S p (⟨kind,mode,1,0,[]⟩:VI) bs) (yA ns fs kind mode p) (WT fs kind mode bs))):=by
 have hL:=h.look p;have hbase:(aL p).length<=15:=by have:=rJ hv;omega
 unfold RF ND;cases ha:CG ns (splitB p)with
 |error e=>
  rw[ha]at hL;have he:=tX ha;simp only at hL;rw[hL];refine⟨fun d hd=>?_,.inl ⟨by show e≠0;omega,?_⟩⟩
  ·have e1:(0:Int)= -1:=congrArg (fun x:Int×Int×Int=>x.2.1) hd;exact absurd e1 aR
  unfold gP;rw[if_neg (show ¬e=0 by omega)]
 |ok x=>
  cases x with
  |some n=>
   rw[ha]at hL;simp only at hL;rw[hL];refine⟨fun d hd=>?_,.inl ⟨by show(23:Int)≠0;decide,?_⟩⟩
   ·have e1:(dE dn φ n:Int)= -1:=congrArg (fun x:Int×Int×Int=>x.2.1) hd;omega
   unfold gP;rw[if_pos (show(0:Int)=0 from rfl),if_neg (show ¬(dE dn φ n:Int)<0 by omega)]
  |none=>
   rw[ha]at hL;simp only at hL;rw[hL];obtain⟨hP,hno,_⟩:=iT (S:=S) h.rep ha;obtain⟨hd1,hd2⟩:=h.rep.AR hP;obtain⟨d,hd⟩:∃d,d=dn (splitB p).dropLast:=⟨_,rfl⟩;(have hone:=fun i=>h.aAO (i:=i) (mode:=mode) hkd (p:=p));rw[<-hd]at hd1 hd2 hone ⊢;(have hsz:S.nodes<256->(g d).bH.length<448:=fun hn=>by have:=h.iP.ph.aaD hd1;omega);(have arK:=fun hn:S.nodes<256=>h.iP.ph.made h.m ⟨h.iP.rB,h.iP.rI⟩ (kind:=kind) (dir:=d) (mode:=mode) (path:=p) (bs:=bs) hkd hd1 hd2 (hsz hn) hv hp hbase hmode hbs);have hnn:=h.nodes;refine⟨fun d' hd' hn=>?_,?_⟩
   ·have e1:(d:Int)=d':=congrArg (fun x:Int×Int×Int=>x.1) hd';(have e2:d=d':=by omega);rw[<-e2];exact(arK hn).1
   have e0:gP ((d:Int),(-1:Int),(0:Int))=none:=rfl;rw[e0];by_cases hn:ns.length<256
   ·(have hn':S.nodes<256:=by omega);simp only[if_pos hn,if_pos hn'];refine .inr ⟨trivial,_,rfl,?_,?_⟩
    ·intro hx;rw[nA]at hx;rcases(arK hn').2 with⟨h1,_⟩|⟨i,hi,_,h2⟩
     ·--no inode is free
      right;have hall:=h.iP.ph.anD h1;have h3:S.wI=S.names:=by
       rw[h.iP.ph.wI];have e:∀i<S.names,nS (g i).kind=1:=fun i hi=>by
        have:=hall i hi;have:=(h.iP.ph.fair i hi).kind;unfold nS;split
        ·rfl
        rw[if_pos aD]
       (have e2:=y7 (f:=fun n=>nS (g n).kind) (n:=S.names) (a:=1) (b:=1) fun i hi=>by rw[e i hi];omega);omega
      have h4:=h.wI;(have h5:kQ (yA ns fs kind mode p)=kQ ns+1:=anI fun n hn hf=>(h.rep.akU hn hf).2);rw[h.iP.rI];omega
     left;obtain⟨hi1,hi0⟩:=h.iP.ph.D8 hi;obtain⟨dn',φ',hR,hAg⟩:=hone i hi1 hi0 ha;have h3:=h2 hx;have hfair:∀j<S.names,(dP (dP g i (oC kind mode bs)) d ((g d).more (aL p) i) j).fair:=fun j hj=>by
      by_cases e1:j=d
      ·rw[e1,bM];exact LI.DW (h.iP.ph.fair d hd1) hd2 (hsz hn') hbase (by have:=h.iP.ph.qD;omega)
      rw[bR _ _ e1];by_cases e2:j=i
      ·rw[e2,bM];exact ahR hkd hmode hbs
      rw[bR _ _ e2];exact h.iP.ph.fair j hj
     have h4:=D9 hfair;rw[hR.wB hfair]at h4;rw[h.iP.rB];omega
    intro S1 hS1;rw[nA]at hS1;rcases(arK hn').2 with⟨_,h1⟩|⟨i,hi,h1,_⟩
    ·rw[h1]at hS1;cases hS1
    obtain⟨hi1,hi0⟩:=h.iP.ph.D8 hi;obtain⟨dn',φ',hR,hAg⟩:=hone i hi1 hi0 ha;refine⟨(qU.refl S).lK hS1,?_,_,dn',φ',h1 S1 hS1,hR,hAg⟩;unfold yA;rw[jM,oL];omega
   (have hn':¬S.nodes<256:=by omega);simp only[if_neg hn,if_neg hn'];exact .inl ⟨by decide,trivial⟩
end
open Go.RowKit
theorem heap_sorted {α:Type} [Inhabited α] (enc:α->Value) (w:World) (g n:Nat) (d:Array α) (os:Array Obj) (b:Nat) (hb:b<w.heap.size):
  (Go.Proofs.sortWorld enc w g 0 n d os).heap[b]? =if g=b then w.heap[b]?.map (Go.Sort.onCells (Go.Sort.putCells enc 0 d))else w.heap[b]? :=by
 exact Z37
theorem Sep.sorted {α:Type} [Inhabited α] (enc:α->Value) {w0 w:World} {As:List aW} {e:TypeId} {g m cap:Nat} {cs:List Value} (k:Nat) (h:Sep w0 w As)
  (hi:As[k]? =some (.sl e 1 (sV g m cap) m cs)) (n:Nat) (d:Array α) (hd:d.size=m) (os:Array Obj):
  Sep w0 (Go.Proofs.sortWorld enc w g 0 n d os) (As.set k (.sl e 1 (sV g m cap) m (d.toList.map enc))):=by
 refine h.step k hi fun F ⟨ho,hF⟩ _=>⟨F,⟨⟨by simp[hd],?_⟩,hF⟩,fun b hb=>.inl hb,?_⟩
 ·rcases ho.2 with⟨h',_⟩|⟨g',cap',cur,h',hb,hg,hc,hm,hs,ht⟩
  ·simp at h'
  simp only[Value.slice.injEq,VQ,Addr.mk.injEq,and_true,true_and]at h';obtain⟨rfl,rfl⟩:=h';refine .inr ⟨g,cap,Go.Sort.putCells enc 0 d cur,rfl,hb,?_,hc,hm,by simpa[Go.Sort.putCells]using hs,?_⟩
  ·rw[heap_sorted enc w g n d os g (lt_of_heap hg),if_pos rfl,hg];rfl
  apply GV;intro i;by_cases hi:i<m
  ·(have hc2:i<cur.size:=by omega);simp[Go.Sort.putCells,hd,hi,hc2]
  rw[FK E8,FK E8]
 refine⟨rfl,rfl,rfl,by simp[Go.Proofs.sortWorld,Go.Sort.grow,Go.Sort.putRow,Go.Sort.mapBlock,Go.Sort.ahead],fun b hb hn=>?_⟩;rw[heap_sorted enc w g n d os b hb,if_neg];intro e;subst e;exact hn (by rw[hF];simp[Value.ownBlock])
def tF (v:Value) (ps:List (List UInt8)):aW:=.sl 9 1 v ps.length (ps.map aC)
def zW (ps:List (List UInt8)):List (List UInt8):=ps.mergeSort fun x y=>decide (x<=y)
theorem RI (ps:List (List UInt8)):(zW ps).Perm ps:=List.mergeSort_perm _ _
theorem arL (ps:List (List UInt8)):(zW ps).Pairwise fun x y=>x<=y:=by have h:=List.pairwise_mergeSort (le:=fun(x y:List UInt8)=>decide (x<=y)) (fun a b c h1 h2=>by simp only[jN]at h1 h2 ⊢;exact List.le_trans h1 h2) (fun a b=>by simp only[M8,jN];exact List.le_total a b) ps;exact h.imp fun h=>by simpa using h
theorem ahT {w0 w:World} {As:List aW} {g n c:Nat} {ps:List (List UInt8)} (k:Nat) (h:Sep w0 w As) (hk:As[k]? =some (.sl 9 1 (sV g n c) n (ps.map aC))) (hn:ps.length=n):Go.Sort.Holds Go.Proofs.encStr w g 0 ps.toArray:=fun j hj=>by
 have hj':j<ps.length:=by simpa using hj
 rw[GZ];refine⟨?_,h.frozenAt k hk j⟩;rw[h.cellAt k hk j aD,getElem!_pos _ j hj];simp[hj'];rfl
theorem aaH {w0 w:World} {As:List aW} {v:Value} {ps:List (List UInt8)} (k:Nat) (h:Sep w0 w As) (hk:As[k]? =some (tF v ps)) (hl:ps.length<=1048576):
  Calls Tryz.prog 109 #[v] w fun e w'=>e= .returned (.tuple #[])/\Sep w0 w' (As.set k (tF v (zW ps))):=by
 have hlen:(zW ps).length=ps.length:=(RI ps).length_eq;rcases yL ps.length with h0|hpos
 ·obtain rfl:ps=[]:=vS h0;obtain⟨A,c,rfl,_⟩:=(h.rd k hk).shape;have hcon:=Go.Proofs.AnyM.slices_Sort_string_none Go.Proofs.Tryz.sortStrings A c w;change Calls Tryz.prog 109 _ _ _ at hcon;refine hcon.mono ?_;rintro e w' ⟨rfl,rfl⟩;refine⟨rfl,?_⟩;obtain⟨hlt,e⟩:=gF.1 hk;have e2:zW []=[]:=vS (by rw[hlen];rfl);rw[e2,<-e,abV];exact h
 obtain⟨g,c,rfl,_,hg,_⟩:=h.kC k hk hpos;have hH:=ahT k h hk rfl;have hcon:=Go.Proofs.AnyM.slices_Sort_string Go.Proofs.Tryz.sortStrings g 0 c ps w hH hg aD;change Calls Tryz.prog 109 _ _ _ at hcon;refine hcon.mono ?_;rintro e w' ⟨rfl,n,os,rfl⟩;refine⟨rfl,?_⟩;have hS:=h.sorted (α:=List UInt8) Go.Proofs.encStr k hk n (zW ps).toArray (by simpa using hlen) os;have e1:tF (sV g ps.length c) (zW ps)= .sl 9 1 (sV g ps.length c) ps.length ((zW ps).toArray.toList.map Go.Proofs.encStr):=by unfold tF;rw[hlen];rfl
 rw[e1];exact hS
def akX (S:VS) (path:List UInt8):Nat:=if path=[]then 0 else(aU S.cur S.data 0 0 (splitB path)).2.1.toNat
def kX (S:VS) (path:List UInt8):Int:=
 if path=[]then(if(aH S.cur 0).kind=1 then 0 else 22)
 else if dX path=0 then(match dW (aU S.cur S.data 0 0 (splitB path))with|some k=>k|none=>if(aH S.cur (aU S.cur S.data 0 0 (splitB path)).2.1.toNat).kind=1 then 0 else 22)
 else dX path
def mX (S:VS) (path:List UInt8):List (List UInt8):=if kX S path=0 then zW ((jX S.cur S.data (aH S.cur (akX S path))).map (·.1))else []
section
variable {w0 w:World} {R:List aW} {f q p:Nat} {S:VS} {a:VA}
theorem Z1 {P:Prop} (h:P:=by
 clear x0 x1 x2 x3 x4;obtain⟨bx,hbx⟩:∃bx,bx=w6.heap.size:=⟨_,rfl⟩;rw[<-hbx]at h5 ⊢;clear hbx;have hcs:Hid (∀W Y (Z:List aW),Sep w0 W (Y:: .box bx 129 #[iV ((1:Nat):Int),iV (xm:Nat),iV (xl:Nat),iV (N:Nat),.slice A6 lx c6]::Z)->W.cell? ⟨bx,0,none⟩=some (iV 1)/\W.cell? ⟨bx,1,none⟩=some (iV (xm:Nat))/\W.cell? ⟨bx,2,none⟩=some (iV (xl:Nat))/\W.cell? ⟨bx,3,none⟩=some (iV (N:Nat))/\W.cell? ⟨bx,4,none⟩=some (.slice A6 lx c6)):=Lh fun W Y Z hS=>⟨hS.bC 1 rfl 0,hS.bC 1 rfl 1,hS.bC 1 rfl 2,hS.bC 1 rfl 3,hS.bC 1 rfl 4⟩
 go_loopw[4,35] (fun ov iv wr=>∃k:Nat,k<=N/\iv=iV k/\Hid (∃a1,VC T a1/\Sep w0 wr (aF f q p T a1:: .box bx 129 #[iV ((1:Nat):Int),iV (xm:Nat),iV (xl:Nat),iV (N:Nat),.slice A6 lx c6]:: .sl 9 1 ov ((L.take k).map (fun e=>Value.string ⟨e.1.toArray⟩)).length ((L.take k).map (fun e=>Value.string ⟨e.1.toArray⟩))::aJ w.heap.size 0::aS (.slice A6 lx c6) (eB xs)::R))) (fun _ iv _=>N-(intOf iv).toNat)
 case atStart=>exact⟨0,fZ _,rfl,Lh ⟨a6,MH.out,Sep.dB [2,1,0,3,4] (h5.out.gZ 9 1) aR (by simp[aJ])⟩⟩
 obtain⟨k,hk,rfl,hS⟩:=hrel;obtain⟨a1,kK,hS1⟩:=hS.out;clear hS h5 MH;by_cases hlt:k<N
 ·have hy:=hcs.out _ _ _ hS1.drew;have hc:=uX.out _ k a1 _ _ _ _ _ hlt kK hS1.drew;(have q1:(k:Int)<N:=by omega);(have q0:(0:Int)<=k:=by omega);obtain⟨u,hu⟩:∃u,u=(tC L k).1:=⟨_,rfl⟩;obtain⟨z,hz⟩:∃z,z=(tC L k).2:=⟨_,rfl⟩;rw[<-hu,<-hz]at hc;(have hst:(L.take (k+1)).map (fun e=>Value.string ⟨e.1.toArray⟩)=(L.take k).map (fun e=>Value.string ⟨e.1.toArray⟩)++[Value.string ⟨u.toArray⟩]:=by rw[pI,gE (by rw[hLn.out];exact hlt),uT,hu];simp);replace hst:=Lh hst;obtain⟨Lv,hLv⟩:∃Lv,Lv=(L.take k).map (fun e=>Value.string ⟨e.1.toArray⟩):=⟨_,rfl⟩;(have hLl:Lv.length<=448:=by rw[hLv,iJ,qP];omega);have hck:=hS1.dV 2 rfl;rw[<-hLv]at hc hck hst;obtain⟨Ao,co,rfl⟩:=hck;clear hS1 kK hu hz hLv;replace hc:=Lh hc;go_wp2_with fail;rename_i K1 hK1;refine lT ?_;refine aP (S:=fun w'=>w'.cell? ⟨bx,0,none⟩=some (iV 1)/\w'.cell? ⟨bx,1,none⟩=some (iV (xm:Nat))/\w'.cell? ⟨bx,2,none⟩=some (iV (xl:Nat))/\w'.cell? ⟨bx,3,none⟩=some (iV (N:Nat))/\w'.cell? ⟨bx,4,none⟩=some (.slice A6 lx c6)) 11 ?_;refine aA 0 hy ?_;refine aA 1 hy ?_;refine aA 2 hy ?_;refine aA 3 hy ?_;refine aA 4 hy ?_;(refine bI 5 fun K hK=>?_);go_simp;go_at_call 108;refine hc.out.mono ?_;rintro e w5 ⟨rfl,a2,hC2,h2⟩;have hy2:=hcs.out _ _ _ h2;clear hy;dsimp only;refine hK _ _ (fun _=>hy2) ?_;clear hK K;(try simp only[Act.put,gD]);refine bA 6 (fun _=>hy2) ?_;refine aA 7 hy2 ?_;refine aA 8 hy2 ?_;refine aA 9 hy2 ?_;refine aA 10 hy2 ?_;refine aQ fE ?_ _;simp only[pX];have h3:Sep w0 (w5.alloc (.cells #[.string ⟨u.toArray⟩] 9)) (.sl 9 1 (.slice Ao Lv.length co) Lv.length Lv::aF f q p T a2:: .box bx 129 #[iV ((1:Nat):Int),iV (xm:Nat),iV (xl:Nat),iV (N:Nat),.slice A6 lx c6]::aJ w.heap.size 0::aS (.slice A6 lx c6) (eB xs)::R):=Sep.dB [2,0,1,3,4] (h2.alloc _) aR bK;clear h2 hy2 hc;replace hC2:=Lh hC2;simp only[Exit.then];apply hK1;go_wp2_with(at_builtin;refine mQ 0 rfl _ _ 73 rfl 9 i0 (.string ⟨#[]⟩) 1 16 Tryz.underlying73 hif hz0 hz1 hz2 rfl aR h3 _ _ _ rfl rfl ⟨w5.heap.size,0,none⟩ 1 1 [.string ⟨u.toArray⟩] rfl rfl (cell_one_new _ _ _) oCl aR vX aD ?_);intro gg cc w3 jT hz4;have hS5:=Lh (Sep.dB [1,2,0,3,4] jT aR bK);clear jT hz4 h3;go_wp2_with fail;go_roundw
  case rel=>exact⟨k+1,by omega,by go_num,Lh ⟨a2,hC2.out,(by rw[hst.out,jM];exact hS5.out)⟩⟩
  case measure=>(simp[intOf];omega)
 obtain rfl:k=N:=by omega
 have e1:(L.take k).map (fun e=>Value.string ⟨e.1.toArray⟩)=(L.map (·.1)).map aC:=by rw[pM (by rw[hLn.out];exact iC _),qO];rfl
 rw[e1]at hS1;have hS2:Sep w0 wr (tF u4 (L.map (·.1))::aF f q p T a1:: .box bx 129 #[iV ((1:Nat):Int),iV (xm:Nat),iV (xl:Nat),iV (k:Nat),.slice A6 lx c6]::aJ w.heap.size 0::aS (.slice A6 lx c6) (eB xs)::R):=by unfold tF;rw[iJ]at hS1;exact Sep.dB [2,0,1,3,4] hS1 aR bK
 have hso:=aaH 0 hS2 rfl (by rw[iJ,hLn.out];omega);clear hS1 e1 hS2;replace kK:=Lh kK;go_wp2_with(go_at_call 109;refine hso.mono ?_;rintro e w5 ⟨rfl,h5⟩;(have k1:=h5.bC 3 rfl 0);(have k2:=h5.bF 3 rfl 0);simp only[gA,gB]at k1;clear hso;replace h5:=Lh h5);refine hd.out _ _ a1 [.box bx 129 #[iV ((1:Nat):Int),iV (xm:Nat),iV (xl:Nat),iV (k:Nat),.slice A6 lx c6],aS (.slice A6 lx c6) (eB xs)] u4 kK.out ?_ rfl rfl;rw[hrN.out];exact Sep.dB [0,1,3,2,4] h5.out aR (by simp[aJ])):P:=h
theorem RJ {path:List UInt8} (hp:path.length<=9223372036854775807) (ho:S.D.off=false) (hV:VW S.base) (hroot:(aH S.base.cur 0).kind=1) (h:Sep w0 w (bB f q p S::R)):
  Calls Tryz.prog 40 #[pV f,aC path] w fun e w'=>∃v,e= .returned (.tuple #[v,iV (kX S.base path)])/\Sep w0 w' (tF v (mX S.base path)::bB f q p S.base::R):=by
 have hb:=D5 h;have h1:Sep w0 (w.alloc (.cells #[iV 0] 40)) (bB f q p S::aJ w.heap.size 0::R):=Sep.dB [1,0] (h.bN 40 #[iV 0]) aR (by simp[aJ]);have haw:=BH ho h1;obtain⟨T,hT⟩:∃T,T=S.base:=⟨_,rfl⟩;rw[<-hT]at hV hb haw hroot ⊢;clear ho hT;obtain⟨i0,hif,hz0,hz1,hz2⟩:=iR MP;have hres:Hid (∀(tm:Array Value) W x v Y,tm.getD 5 undef=pV w.heap.size->tm.getD 4 undef=v->Sep w0 W (Y++aJ w.heap.size x::R)->(results Tryz.f40 tm).run Tryz.prog W= .ok (.tuple #[v,iV x]) W):=Lh fun tm W x v Y ht hv hW=>by(have hi:(Y++aJ w.heap.size x::R)[Y.length]? =some (aJ w.heap.size x):=by simp);have ec:=hW.bC _ hi 0;simp only[gA,gB]at ec;(have ht2:tm[5]?.getD undef=pV w.heap.size:=by simpa using ht);(have hv2:tm[4]?.getD undef=v:=by simpa using hv);simp[results,Tryz.results40,go_sem,ht2,hv2,asAddr,loadVar,ec]
 have hpl:Hid (∀W,Calls Tryz.prog 68 #[aC path] W fun e w'=>e=(if dX path=0 then .returned (.tuple #[])else .panicked (fA (dX path)))/\Below W.heap.size W w'):=Lh fun W=>KS hp W
 have o7:Hid (∀(tm:Array Value) W a k,k=kX T path->k≠0->k≠11->VC T a->Sep w0 W (aF f q p T a::aJ w.heap.size 0::R)->tm.getD 5 undef=pV w.heap.size->tm.getD 4 undef= .slice none 0 0->
   Leaves Tryz.prog Tryz.f40 tm (fun e w'=>∃v,e= .returned (.tuple #[v,iV (kX T path)])/\Sep w0 w' (tF v (mX T path)::bB f q p T::R)) [{target:=.fn (.func 52) #[],args:=#[pV f,pV w.heap.size]}] (.panicking (fA k)) W):=Lh fun tm W a k hk h0 h11 hC hW ht ht4=>by
  (refine IW hC hb h11 hW fun w' hw=>?_);refine⟨_,hres.out tm w' k _ [bB f q p T] ht ht4 hw,.slice none 0 0,by rw[hk],?_⟩;have h5:Sep w0 w' (aJ w.heap.size k::bB f q p T::R):=hw.perm (List.Perm.swap _ _ _);unfold mX;rw[<-hk,if_neg h0];exact(h5.drop 1).gZ 9 1
 have hquit:Hid (∀(tm:Array Value) W a B,kX T path=22->VC T a->Sep w0 W (aF f q p T a::aJ w.heap.size 0::(B++R))->tm.getD 5 undef=pV w.heap.size->tm.getD 4 undef= .slice none 0 0->
   Leaves Tryz.prog Tryz.f40 tm (fun e w'=>∃v,e= .returned (.tuple #[v,iV (kX T path)])/\Sep w0 w' (tF v (mX T path)::bB f q p T::R)) [{target:=.fn (.func 52) #[],args:=#[pV f,pV w.heap.size]}] .returning (W.setCell ⟨w.heap.size,0,none⟩ (.int .i64 22))):=Lh fun tm W a B hk hC hW ht ht4=>by
  refine kV ?_;have h2:Sep w0 _ (aF f q p T a::aJ w.heap.size 22::(B++R)):=hW.bS 1 rfl 0 (.int .i64 22);have h3:Sep w0 _ (B++(aF f q p T a::aJ w.heap.size 22::R)):=h2.perm (by refine(List.Perm.trans ?_ lD.symm);exact List.Perm.cons _ lD.symm);have h4:=h3.drop B.length;rw[G7]at h4;refine⟨_,hres.out tm _ 22 _ [aF f q p T a] ht ht4 h4,.slice none 0 0,by rw[hk],?_⟩;have h5:Sep w0 _ (aJ w.heap.size 22::aF f q p T a::R):=h4.perm (List.Perm.swap _ _ _);unfold mX;rw[hk,if_neg aR];exact(rG hC hb (h5.drop 1)).gZ 9 1
 have hdone:Hid (∀(tm:Array Value) W a B v,kX T path=0->VC T a->Sep w0 W (tF v (mX T path)::aF f q p T a::aJ w.heap.size 0::(B++R))->tm.getD 5 undef=pV w.heap.size->tm.getD 4 undef=v->
   Leaves Tryz.prog Tryz.f40 tm (fun e w'=>∃v,e= .returned (.tuple #[v,iV (kX T path)])/\Sep w0 w' (tF v (mX T path)::bB f q p T::R)) [{target:=.fn (.func 52) #[],args:=#[pV f,pV w.heap.size]}] .returning (W.setCell ⟨w.heap.size,0,none⟩ (.int .i64 0))):=Lh fun tm W a B v hk hC hW ht ht4=>by
  refine kV ?_;have h2:Sep w0 _ (tF v (mX T path)::aF f q p T a::aJ w.heap.size 0::(B++R)):=hW.bS 2 rfl 0 (.int .i64 0);have h3:Sep w0 _ (B++(tF v (mX T path)::aF f q p T a::aJ w.heap.size 0::R)):=h2.perm (by refine(List.Perm.trans ?_ lD.symm);refine List.Perm.cons _ (List.Perm.trans ?_ lD.symm);exact List.Perm.cons _ lD.symm);have h4:=h3.drop B.length;rw[G7]at h4;refine⟨_,hres.out tm _ 0 _ [tF v (mX T path),aF f q p T a] ht ht4 h4,v,by rw[hk],?_⟩;have h5:Sep w0 _ (aJ w.heap.size 0::aF f q p T a::tF v (mX T path)::R):=Sep.dB [2,1,0] h4 aR bK;exact(rG hC hb (h5.drop 1)).perm (List.Perm.swap _ _ _)
 have hfl:Hid (aV path=true->∀W a,VC T a->Sep w0 W (aF f q p T a::aJ w.heap.size 0::R)->Calls Tryz.prog 107 #[pV f,aC path] W fun e w'=>e=lV (aU T.cur T.data 0 0 (splitB path))/\∃a',VC T a'/\Sep w0 w' (aF f q p T a'::aJ w.heap.size 0::R)):=Lh fun hv W a hC hW=>
  (nY hC hV hv (dG hv) hW).mono fun e w' ⟨h1,a',h2,h3⟩=>⟨h1,a',h2.ok,h3⟩
 have hin:Hid (∀m:Nat,m<T.names->∀W a,VC T a->Sep w0 W (aF f q p T a::aJ w.heap.size 0::R)->Calls Tryz.prog 72 #[pV f,iV m] W fun e w'=>∃A c a2,e= .returned (fM (aH T.cur m) (.slice A (aH T.cur m).aB.length c))/\VC T a2/\Sep w0 w' (aF f q p T a2::aJ w.heap.size 0::aS (.slice A (aH T.cur m).aB.length c) (eB (aH T.cur m).aB)::R)):=Lh fun m hm W a hC hW=>by refine(jQ hC hV.vf hm (hV.few m hm) hW).mono ?_;rintro e w' ⟨v,a2,rfl,hR,h9⟩;obtain⟨A9,c9,e9⟩:=h9.dV 0 rfl;subst e9;(have e10:(eB (aH T.cur m).aB).length=(aH T.cur m).aB.length:=by unfold eB;rw[iJ]);rw[e10]at h9 ⊢;exact⟨A9,c9,a2,rfl,hR.ok,Sep.dB [1,2,0] h9 aR bK⟩
 have hen:Hid (∀m:Nat,m<T.names->(aH T.cur m).kind=1->∀W k a1 A c bx Lv ov,k<(aH T.cur m).size->VC T a1->Sep w0 W (aF f q p T a1:: .box bx 129 (aN (aH T.cur m) (.slice A (aH T.cur m).aB.length c)):: .sl 9 1 ov Lv.length Lv::aJ w.heap.size 0::aS (.slice A (aH T.cur m).aB.length c) (eB (aH T.cur m).aB)::R)->
   Calls Tryz.prog 108 #[pV f,fM (aH T.cur m) (.slice A (aH T.cur m).aB.length c),iV (k:Nat)] W fun e w'=>e= .returned (.tuple #[aC (tC (jX T.cur T.data (aH T.cur m)) k).1,.int .i64 ((tC (jX T.cur T.data (aH T.cur m)) k).2:Nat)])/\∃a',VC T a'/\Sep w0 w' (aF f q p T a':: .box bx 129 (aN (aH T.cur m) (.slice A (aH T.cur m).aB.length c)):: .sl 9 1 ov Lv.length Lv::aJ w.heap.size 0::aS (.slice A (aH T.cur m).aB.length c) (eB (aH T.cur m).aB)::R)):=Lh fun m hm hk W k a1 A c bx Lv ov hks hC hW=>by
  have:=KA (i:=k) hC hV.vf (jF 3 rfl) (hV.dir m hm hk) hks hW;rw[DF hks];exact this.mono fun e w' ⟨h1,a',h2,h3⟩=>⟨h1,a',h2.ok,h3⟩
 have hln:=qA hV (path:=path);have hpw:=F3 path;have hfs:∀k,dW (aU T.cur T.data 0 0 (splitB path))=some k->k≠0/\k≠11:=fun k hk=>zV hk
 have hsz:∀m:Nat,m<T.names->(aH T.cur m).kind=1->(aH T.cur m).size<=448:=fun m hm hk=>by have:=(hV.dir m hm hk).room;have:=(hV.dir m hm hk).few;omega
 have hn0:=hV.n0;clear hV h h1 hp;by_cases h00:path=[]
 ·subst h00;(have hk1:kX T []=(if(aH T.cur 0).kind=1 then 0 else 22):=by unfold kX;rw[if_pos rfl]);(have hrN:kX T []=0->mX T []=zW ((jX T.cur T.data (aH T.cur 0)).map (·.1)):=fun e=>by unfold mX;rw[if_pos e];rfl);have hin2:=hin.out 0 hn0;have uX:=hen.out 0 hn0;(have aaJ:(aH T.cur 0).kind=1->(aH T.cur 0).size<=448:=fun hk=>hsz 0 hn0 hk);clear hfl hpl hln hpw hfs hsz hin hen hn0 hroot;obtain⟨x,hx⟩:∃x,x=aH T.cur 0:=⟨_,rfl⟩;rw[<-hx]at hin2 uX aaJ hk1 hrN;obtain⟨L,hL⟩:∃L,L=jX T.cur T.data x:=⟨_,rfl⟩;(have hLn:L.length=x.size:=by rw[hL,BD]);rw[<-hL]at uX hrN;replace hL:=Lh hL;clear hx;obtain⟨xk,xm,xl,N,xs⟩:=x;simp only[fM,aN]at hin2 uX aaJ hk1 hLn hrN;obtain⟨lx,hlx⟩:∃l,l=xs.length:=⟨_,rfl⟩;rw[<-hlx]at hin2 uX;replace hlx:=Lh hlx;replace hLn:=Lh hLn;replace hin2:=Lh hin2;replace uX:=Lh uX;unfold aC at*;by_cases hkk:xk=1
  ·subst hkk;rw[if_pos rfl]at hk1;replace aaJ:=aaJ rfl;(have N1:(N:Int)<=448:=by omega);have hd:=Lh (fun tm W a B v=>hdone.out tm W a B v hk1);replace uX:=Lh (uX.out rfl);replace hrN:=Lh (hrN hk1);clear hdone hquit o7 hk1
   go_enter_defers Tryz.func40,Tryz.ntmps40
   go_wp2_with(first |(go_at_call 53;refine haw.mono ?_;rintro e w9 ⟨rfl,a9,eX,h9⟩;(have hi7:=hin2.out _ _ eX h9);clear eX h9;clear haw)|(go_at_call 72;refine hi7.mono ?_;rintro e w6 ⟨A6,c6,a6,rfl,MH,h6⟩;(have h5:=h6.bN 129 #[iV ((1:Nat):Int),iV (xm:Nat),iV (xl:Nat),iV (N:Nat),.slice A6 lx c6]);(have x0:=h5.bC 0 rfl 0);(have x1:=h5.bC 0 rfl 1);(have x2:=h5.bC 0 rfl 2);(have x3:=h5.bC 0 rfl 3);(have x4:=h5.bC 0 rfl 4);simp only[gA,gB,gC]at x0 x1 x2 x3 x4;clear hi7 h6;replace MH:=Lh MH;replace h5:=Lh h5));exact Z1
  rw[if_neg hkk]at hk1;(have hkx:((xk:Int)==1)=false:=by rw[jU];omega);(have hkn:((xk:Int) !=1)=true:=by rw[bne_iff_ne];omega);have hq:=Lh (fun tm W a B=>hquit.out tm W a B hk1);clear uX hrN hkk hL;clear hdone hquit o7 hk1
  go_enter_defers Tryz.func40,Tryz.ntmps40
  go_wp2_with(first |(go_at_call 53;refine haw.mono ?_;rintro e w9 ⟨rfl,a9,eX,h9⟩;(have hi7:=hin2.out _ _ eX h9);clear eX h9;clear haw)|(go_at_call 72;refine hi7.mono ?_;rintro e w6 ⟨A6,c6,a6,rfl,MH,h6⟩;(have h5:=h6.bN 129 #[iV (xk:Nat),iV (xm:Nat),iV (xl:Nat),iV (N:Nat),.slice A6 lx c6]);(have x0:=h5.bC 0 rfl 0);(have k1:=h5.bC 2 rfl 0);(have k2:=h5.bF 2 rfl 0);simp only[gA,gB,gC]at x0 k1;clear hi7 h6;replace MH:=Lh MH;replace h5:=Lh h5));exact hq.out _ _ a6 [_,_] MH.out (Sep.dB [1,2,0,3] h5.out aR (by simp[aJ])) rfl rfl
 have hne:(path==[])=false:=by simpa using h00
 have hne2:(path.toArray==#[])=false:=by simpa using h00
 by_cases h0:dX path=0
 ·have hv:=KU h0;have oO:=hfl.out hv;rw[h0,if_pos rfl]at hpl;(have hlx:kX T path=(match dW (aU T.cur T.data 0 0 (splitB path))with|some k=>k|none=>if(aH T.cur (aU T.cur T.data 0 0 (splitB path)).2.1.toNat).kind=1 then 0 else 22):=by unfold kX;rw[if_neg h00,if_pos h0]);(have hrN:kX T path=0->mX T path=zW ((jX T.cur T.data (aH T.cur (aU T.cur T.data 0 0 (splitB path)).2.1.toNat)).map (·.1)):=fun e=>by unfold mX akX;rw[if_pos e,if_neg h00]);clear hfl h0 hpw hv h00;rw[rW]at oO;obtain⟨fe,hfe⟩:∃fe,fe=dW (aU T.cur T.data 0 0 (splitB path)):=⟨_,rfl⟩;rw[<-hfe]at oO hfs hlx;cases fe with
  |some k=>
   obtain⟨hk0,adM⟩:=hfs k rfl;simp only at hlx oO;have hg:=Lh (fun tm W a=>o7.out tm W a k hlx.symm hk0 adM);replace oO:=Lh oO;clear hfs hfe hln hk0 adM o7 hquit hdone hin hen hrN hlx hsz hres;unfold aC at*
   go_enter_defers Tryz.func40,Tryz.ntmps40
   go_wp2_with(first |(go_at_call 53;refine haw.mono ?_;rintro e w9 ⟨rfl,a9,eX,h9⟩;replace eX:=Lh eX;clear haw)|(go_at_call 68;go_loud (refine(hpl.out _).mono ?_;rintro e w8 ⟨rfl,zT⟩;have BZ:=oO.out _ _ eX.out (h9.pure zT);clear h9;clear zT hpl))|(go_at_call 107;refine BZ.mono ?_;rintro e w7 ⟨rfl,a7,WA,h7⟩;clear BZ));exact hg.out _ _ _ WA h7 rfl rfl
  |none=>
   obtain⟨hr0,hr1⟩:=rY hfe.symm;obtain⟨d,m,hdl,FY,hre⟩:=hln hr0 hr1;rw[hre]at hlx hrN oO;simp only[nA]at hlx hrN oO;have hk1:kX T path=(if(aH T.cur m).kind=1 then 0 else 22):=hlx;have hin2:=hin.out m FY;have uX:=hen.out m FY;(have aaJ:(aH T.cur m).kind=1->(aH T.cur m).size<=448:=fun hk=>hsz m FY hk);replace oO:=Lh oO;clear hfs hfe hln hr0 hr1 FY hdl hre hin hen hsz hlx hroot hn0;obtain⟨x,hx⟩:∃x,x=aH T.cur m:=⟨_,rfl⟩;rw[<-hx]at hin2 uX aaJ hk1 hrN;obtain⟨L,hL⟩:∃L,L=jX T.cur T.data x:=⟨_,rfl⟩;(have hLn:L.length=x.size:=by rw[hL,BD]);rw[<-hL]at uX hrN;replace hL:=Lh hL;clear hx;obtain⟨xk,xm,xl,N,xs⟩:=x;simp only[fM,aN]at hin2 uX aaJ hk1 hLn hrN;obtain⟨lx,hlx⟩:∃l,l=xs.length:=⟨_,rfl⟩;rw[<-hlx]at hin2 uX;replace hlx:=Lh hlx;replace hLn:=Lh hLn;replace hin2:=Lh hin2;replace uX:=Lh uX;unfold aC at*;by_cases hkk:xk=1
   ·subst hkk;rw[if_pos rfl]at hk1;replace aaJ:=aaJ rfl;(have N1:(N:Int)<=448:=by omega);have hd:=Lh (fun tm W a B v=>hdone.out tm W a B v hk1);replace uX:=Lh (uX.out rfl);replace hrN:=Lh (hrN hk1);clear hdone hquit o7 hk1
    go_enter_defers Tryz.func40,Tryz.ntmps40
    go_wp2_with(first |(go_at_call 53;refine haw.mono ?_;rintro e w9 ⟨rfl,a9,eX,h9⟩;replace eX:=Lh eX;clear haw)|(go_at_call 68;refine(hpl.out _).mono ?_;rintro e w8 ⟨rfl,zT⟩;have BZ:=oO.out _ _ eX.out (h9.pure zT);clear h9;clear zT hpl)|(go_at_call 107;refine BZ.mono ?_;rintro e w7 ⟨rfl,a7,WA,h7⟩;have hi7:=hin2.out _ _ WA h7;clear BZ h7 WA)|(go_at_call 72;refine hi7.mono ?_;rintro e w6 ⟨A6,c6,a6,rfl,MH,h6⟩;(have h5:=h6.bN 129 #[iV ((1:Nat):Int),iV (xm:Nat),iV (xl:Nat),iV (N:Nat),.slice A6 lx c6]);(have x0:=h5.bC 0 rfl 0);(have x1:=h5.bC 0 rfl 1);(have x2:=h5.bC 0 rfl 2);(have x3:=h5.bC 0 rfl 3);(have x4:=h5.bC 0 rfl 4);simp only[gA,gB,gC]at x0 x1 x2 x3 x4;clear hi7 h6;replace MH:=Lh MH;replace h5:=Lh h5));exact Z1
   rw[if_neg hkk]at hk1;(have hkx:((xk:Int)==1)=false:=by rw[jU];omega);(have hkn:((xk:Int) !=1)=true:=by rw[bne_iff_ne];omega);have hq:=Lh (fun tm W a B=>hquit.out tm W a B hk1);clear uX hrN hkk hL;clear hdone hquit o7 hk1
   go_enter_defers Tryz.func40,Tryz.ntmps40
   go_wp2_with(first |(go_at_call 53;refine haw.mono ?_;rintro e w9 ⟨rfl,a9,eX,h9⟩;replace eX:=Lh eX;clear haw)|(go_at_call 68;refine(hpl.out _).mono ?_;rintro e w8 ⟨rfl,zT⟩;have BZ:=oO.out _ _ eX.out (h9.pure zT);clear h9;clear zT hpl)|(go_at_call 107;refine BZ.mono ?_;rintro e w7 ⟨rfl,a7,WA,h7⟩;have hi7:=hin2.out _ _ WA h7;clear BZ h7 WA)|(go_at_call 72;refine hi7.mono ?_;rintro e w6 ⟨A6,c6,a6,rfl,MH,h6⟩;(have h5:=h6.bN 129 #[iV (xk:Nat),iV (xm:Nat),iV (xl:Nat),iV (N:Nat),.slice A6 lx c6]);(have x0:=h5.bC 0 rfl 0);(have k1:=h5.bC 2 rfl 0);(have k2:=h5.bF 2 rfl 0);simp only[gA,gB,gC]at x0 k1;clear hi7 h6;replace MH:=Lh MH;replace h5:=Lh h5));exact hq.out _ _ a6 [_,_] MH.out (Sep.dB [1,2,0,3] h5.out aR (by simp[aJ])) rfl rfl
 have hlx:kX T path=dX path:=by unfold kX;rw[if_neg h00,if_neg h0]
 have hg:=Lh (fun tm W a=>o7.out tm W a (dX path) hlx.symm h0 hpw);rw[if_neg h0]at hpl;clear hfl hln o7 hfs hpw hquit hdone hin hen hlx hsz hres h00;unfold aC at*
 go_enter_defers Tryz.func40,Tryz.ntmps40
 exact Z64
end
end Go.Proofs.YtmjomdkleikgbaaGreat
