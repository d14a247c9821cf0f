/- Parts. -/
import Derived.Test.YtmjomdkleikgbaaGreatJ24
set_option linter.unusedVariables false
set_option linter.unusedSimpArgs false
namespace Go.Proofs.YtmjomdkleikgbaaGreat
abbrev Key :=List (List UInt8)
def p9 (L:tJ) (name:List UInt8):Option Nat:=(L.find? fun e=>e.1==name).map (·.2)
theorem AY (L:tJ) (name:List UInt8):(∃i,i<L.length/\rT L i=(name,(jY L name).2)/\(jY L name).1=(i:Int)/\p9 L name=some (jY L name).2)\/(jY L name=(-1,0)/\p9 L name=none):=by
 unfold jY p9;cases h:L.findIdx? fun e=>e.1==name with
 |none=>right;rw[ZC]at h;refine⟨rfl,?_⟩;rw[WC,vY];intro x hx;rw[Bool.not_eq_true];exact h x hx
 |some i=>
  left;dsimp only;rw[Y4]at h;obtain⟨h1,h2,h3⟩:=h;(have e1:L.getD i ([],0)=L[i]:=by rw[gH,gE h1];rfl);(have e2:L[i].1=name:=by simpa using h2);refine⟨i,h1,?_,rfl,?_⟩
  ·unfold rT;rw[e1,<-e2]
  rw[M4];refine⟨L[i],?_,by rw[e1]⟩;rw[List.find?_eq_some_iff_getElem];exact⟨h2,i,h1,rfl,fun j hj=>by simpa using h3 j hj⟩
theorem Z43 {P:Prop} (h:P:=by have:=hp j i (by simpa using hj) (by simpa using hi) h5;simp only[WH,e1,e2]at this;exact absurd e.symm this):P:=h
theorem Z63 {P:Prop} (h:P:=by have:=hp i j (by simpa using hi) (by simpa using hj) h5;simp only[WH,e1,e2]at this;exact absurd e this):P:=h
theorem aeX {L M:tJ} (h:L.Perm M) (hn:(M.map (·.1)).Nodup) (name:List UInt8):p9 L name=p9 M name:=by
 have hnL:(L.map (·.1)).Nodup:=(h.map _).nodup_iff.2 hn;have key:∀(A:tJ),(A.map (·.1)).Nodup->∀c,p9 A name=some c↔(name,c)∈A:=fun A hA c=>by
  unfold p9;rw[M4];constructor
  ·rintro⟨x,h1,h2⟩;have h3:=FK h1;have h4:=RF h1;(have e:x.1=name:=by simpa using h3);rw[<-e,<-h2];exact h4
  intro hm;cases hf:A.find? fun e=>e.1==name with
  |none=>have:=vY.1 hf _ hm;simp at this
  |some x=>
   have h3:=FK hf;have h4:=RF hf;(have e:x.1=name:=by simpa using h3);refine⟨x,rfl,?_⟩;obtain⟨i,hi,e1⟩:=List.mem_iff_getElem.1 h4;obtain⟨j,hj,e2⟩:=List.mem_iff_getElem.1 hm;have hp:=DY.1 hA;rcases TI i j with h5|h5|h5
   ·exact Z63
   ·subst h5;rw[e1]at e2;rw[e2]
   exact Z43
 cases hM:p9 M name with
 |some c=>rw[key L hnL];exact h.mem_iff.2 ((key M hn c).1 hM)
 |none=>
  cases hL:p9 L name with
  |none=>rfl
  |some c=>have:=(key M hn c).2 (h.mem_iff.1 ((key L hnL c).1 hL));rw[hM]at this;cases this
def GZ (g:LT):Nat->Key->Except Int Nat
 |n,[]=>.ok n
 |n,x::l=>if(g n).kind=1 then(match p9 (g n).bB x with|some c=>GZ g c l|none=>.error 21)else .error 22
def stepG (g:LT) (x:List UInt8) (n:Nat):Except Int Nat:=if(g n).kind=1 then(match p9 (g n).bB x with|some c=>.ok c|none=>.error 21)else .error 22
theorem PL (g:LT) (x:List UInt8):∀(l:Key) (n:Nat),GZ g n (l++[x])=(GZ g n l).bind (stepG g x)
 |[],n=>by
  (show GZ g n [x]=stepG g x n);unfold GZ stepG;split
  ·split<;>rfl
  rfl
 |y::l,n=>by
  rw[kN];unfold GZ;split
  ·split
   ·exact PL g x l _
   rfl
  rfl
def aoR (g:LT) (b:List UInt8):Except Int Nat->Int×Int×Int
 | .error e=>(0,0,e)
 | .ok m=>if(g m).kind=1 then(match p9 (g m).bB b with|some c=>((m:Int),(c:Int),0)|none=>((m:Int), -1,0))else(0,0,22)
theorem PM {S:VS} {g:LT} (h:Vol S g) (b:List UInt8):∀(l:Key) (dir n:Nat),n<S.names->aP S.cur S.data dir n (l++[b])=aoR g b (GZ g n l)
 |[],dir,n,hn=>by
  (show aP S.cur S.data dir n [b]=(if(g n).kind=1 then(match p9 (g n).bB b with|some c=>((n:Int),(c:Int),(0:Int))|none=>((n:Int),(-1:Int),(0:Int)))else((0:Int),(0:Int),(22:Int))));unfold aP;rw[h.ph.kind hn];by_cases hk:(g n).kind=1
  ·rw[if_pos hk,if_pos hk,h.ph.bB n hn hk];rcases AY (g n).bB b with⟨i,_,_,h3,h4⟩|⟨h3,h4⟩
   ·rw[h3,h4,if_pos aI];rfl
   rw[h3,h4,if_neg aR];rfl
  rw[if_neg hk,if_neg hk]
 |x::l,dir,n,hn=>by
  rw[kN];unfold aP GZ;rw[h.ph.kind hn];by_cases hk:(g n).kind=1
  ·rw[if_pos hk,if_pos hk,h.ph.bB n hn hk];rcases AY (g n).bB x with⟨i,h1,h2,h3,h4⟩|⟨h3,h4⟩
   ·rw[h3,h4,if_pos aI];refine PM h b l n _ ?_;have:=h.ent n hn _ (MJ h1);rw[h2]at this;exact this
   rw[h3,h4,if_neg aR,if_neg bK];rfl
  rw[if_neg hk,if_neg hk];rfl
theorem yC (p:List UInt8):splitB p=(splitB p).dropLast++[aL p]:=by unfold aL;have h:=gP p;rw[List.getLastD_eq_getLast?,List.getLast?_eq_some_getLast h];exact(List.dropLast_concat_getLast h).symm
structure FT where
 mode:Int
 bs:List UInt8
def aZ (n:TN):Key:=splitB n.path
def bY (dn:Key->Nat) (φ:Int->Nat) (n:TN):Nat:=if n.file= -1 then dn (aZ n)else φ n.file
def eB (ns:List TN) (K:Key):List TN:=ns.filter fun n=>(aZ n).dropLast==K
def dI (ns:List TN) (K:Key):Prop:=K=[]\/∃n∈ns,aZ n=K/\n.file= -1
structure lL (g:LT) (nm:Nat) (ns:List TN) (fs:List FT) (dn:Key->Nat) (φ:Int->Nat):Prop where
 n0:0<nm
 root:dn []=0
 rk:(g 0).kind=1
 uniq:(ns.map aZ).Nodup
 up:∀n∈ns,dI ns (aZ n).dropLast
 dir:∀n∈ns,n.file= -1->dn (aZ n)<nm/\(g (dn (aZ n))).kind=1/\((g (dn (aZ n))).mode:Int)=n.mode/\(g (dn (aZ n))).links=1
 file:∀n∈ns,n.file≠ -1->0<=n.file/\φ n.file<nm/\(g (φ n.file)).kind=2/\(∃f,fs[n.file.toNat]? =some f/\((g (φ n.file)).mode:Int)=f.mode/\(g (φ n.file)).data=f.bs)/\(g (φ n.file)).links=ns.countP fun m=>decide (m.file=n.file)
 ne0:∀n∈ns,bY dn φ n≠0
 inj:∀n∈ns,∀m∈ns,bY dn φ n=bY dn φ m->n=m\/(n.file≠ -1/\n.file=m.file)
 cover:∀i<nm,(g i).kind≠0->i=0\/∃n∈ns,bY dn φ n=i
 bB:∀K,dI ns K->(g (dn K)).bB.Perm ((eB ns K).map fun n=>((aZ n).getLastD [],bY dn φ n))
def jQ (ns:List TN) (K:Key):Option TN:=ns.find? fun n=>aZ n==K
def kS :Option TN->Bool
 |none=>true
 |some n=>decide (n.file= -1)
def aeZ (dn:Key->Nat) (φ:Int->Nat):Option TN->Nat
 |none=>0
 |some n=>bY dn φ n
def stepT (ns:List TN) (K:Key) (c:Option TN):Except Int (Option TN):=if kS c=true then(match jQ ns K with|some n=>.ok (some n)|none=>.error 21)else .error 22
def nN (ns:List TN):Nat->Key->Except Int (Option TN)
 |0,_=>.ok none
 |k+1,K=>(nN ns k K.dropLast).bind (stepT ns K)
theorem eD {ns:List TN} {K:Key} {n:TN} (h:jQ ns K=some n):n∈ns/\aZ n=K:=
 ⟨RF h,by simpa using FK h⟩
theorem key_inj {ns:List TN} (h:(ns.map aZ).Nodup) {n m:TN} (hn:n∈ns) (hm:m∈ns) (e:aZ n=aZ m):n=m:=by
 obtain⟨i,hi,e1⟩:=List.mem_iff_getElem.1 hn;obtain⟨j,hj,e2⟩:=List.mem_iff_getElem.1 hm;have hp:=DY.1 h;rcases TI i j with h5|h5|h5
 ·exact Z63
 ·subst h5;rw[<-e1,<-e2]
 exact Z43
theorem CQ {ns:List TN} (h:(ns.map aZ).Nodup) {n:TN} (hn:n∈ns):jQ ns (aZ n)=some n:=by
 cases hf:jQ ns (aZ n)with
 |none=>have:=vY.1 hf n hn;simp at this
 |some m=>obtain⟨h1,h2⟩:=eD hf;rw[key_inj h h1 hn h2]
theorem XQ (n:TN):aZ n≠[]:=gP _
theorem EN (n:TN):aZ n=(aZ n).dropLast++[(aZ n).getLastD []]:=yC n.path
section
variable {g:LT} {nm:Nat} {ns:List TN} {fs:List FT} {dn:Key->Nat} {φ:Int->Nat}
theorem ae0 (h:(ns.map aZ).Nodup) (K:Key):(((eB ns K).map fun n=>((aZ n).getLastD [],bY dn φ n)).map (·.1)).Nodup:=by
 rw[qU];have h1:((eB ns K).map aZ).Nodup:=h.sublist (ZJ _ FO);have h2:∀n∈eB ns K,aZ n=K++[(aZ n).getLastD []]:=fun n hn=>by
  have:=(List.mem_filter.1 hn).2;have e:(aZ n).dropLast=K:=by simpa using this
  conv=>lhs;rw[EN n,e]
 rw[ZB,FJ]at h1 ⊢;refine am5 (fun {a b} ha hb hab e=>hab ?_) h1;have e2:(aZ a).getLastD []=(aZ b).getLastD []:=e;rw[h2 a ha,h2 b hb,e2]
theorem lL.find (h:lL g nm ns fs dn φ) {K:Key} (hK:dI ns K) (b:List UInt8):p9 (g (dn K)).bB b=(jQ ns (K++[b])).map (bY dn φ):=by
 have hu:=ae0 (dn:=dn) (φ:=φ) h.uniq K;rw[aeX (h.bB K hK) hu];cases hn:jQ ns (K++[b])with
 |some n=>
  obtain⟨h1,h2⟩:=eD hn;have hk:n∈eB ns K:=List.mem_filter.2 ⟨h1,by rw[h2,YZ];simp⟩;(have hm:(b,bY dn φ n)∈(eB ns K).map fun n=>((aZ n).getLastD [],bY dn φ n):=List.mem_map.2 ⟨n,hk,by rw[h2];simp⟩);unfold p9;cases hf:((eB ns K).map fun n=>((aZ n).getLastD [],bY dn φ n)).find? fun e=>e.1==b with
  |none=>have:=vY.1 hf _ hm;simp at this
  |some x=>have h3:=RF hf;(have h4:x.1=b:=by simpa using FK hf);obtain⟨m,hm1,hm2⟩:=List.mem_map.1 h3;(have e1:(aZ m).getLastD []=b:=by rw[<-h4,<-hm2]);(have e2:(aZ m).dropLast=K:=by simpa using(List.mem_filter.1 hm1).2);(have e3:aZ m=aZ n:=by rw[h2,EN m,e1,e2]);have:=key_inj h.uniq (List.mem_filter.1 hm1).1 h1 e3;rw[<-hm2,this];rfl
 |none=>unfold p9;rw[ZK,WC,vY];intro x hx hb;obtain⟨m,hm1,hm2⟩:=List.mem_map.1 hx;(have e1:(aZ m).getLastD []=b:=by rw[<-hm2]at hb;simpa using hb);(have e2:(aZ m).dropLast=K:=by simpa using(List.mem_filter.1 hm1).2);(have e3:aZ m=K++[b]:=by rw[EN m,e1,e2]);have:=vY.1 hn m (List.mem_filter.1 hm1).1;simp[e3]at this
theorem xB (h:lL g nm ns fs dn φ) {K:Key} {c:Option TN} (hc:nN ns K.length K= .ok c):(c=none/\K=[])\/∃n,c=some n/\n∈ns/\aZ n=K:=by
 rcases Y8 K with e|⟨l,x,e⟩
 ·subst e;cases hc;exact .inl ⟨rfl,rfl⟩
 rw[Y9]at e;subst e;rw[jJ,nZ]at hc;unfold nN at hc;cases h1:nN ns l.length (l++[x]).dropLast with
 |error e=>rw[h1]at hc;cases hc
 |ok d=>
  rw[h1]at hc;change stepT ns (l++[x]) d= .ok c at hc;unfold stepT at hc;split at hc
  ·split at hc
   ·rename_i n hn;cases hc;obtain⟨h2,h3⟩:=eD hn;exact .inr ⟨n,rfl,h2,h3⟩
   cases hc
  cases hc
theorem lL.walk (h:lL g nm ns fs dn φ):∀(k:Nat) (K:Key),K.length=k->GZ g 0 K=(nN ns k K).map (aeZ dn φ)
 |0,K,hl=>by obtain rfl:K=[]:=uR hl;rfl
 |k+1,K,hl=>by
  rcases Y8 K with e|⟨l,x,e⟩
  ·subst e;cases hl
  rw[Y9]at e;subst e;rw[jJ,nZ]at hl;(have hlk:l.length=k:=by omega);have ih:=lL.walk h k l hlk;rw[PL,ih];(show _=Except.map (aeZ dn φ) ((nN ns k (l++[x]).dropLast).bind (stepT ns (l++[x]))));rw[YZ];cases h1:nN ns k l with
  |error e=>rfl
  |ok c=>
   (show stepG g x (aeZ dn φ c)=(stepT ns (l++[x]) c).map (aeZ dn φ));rw[<-hlk]at h1;rcases xB h h1 with⟨rfl,rfl⟩|⟨n,rfl,hn1,hn2⟩
   ·unfold stepG stepT;have hf:=h.find (K:=[]) (.inl rfl) x;rw[h.root]at hf;(show(if(g 0).kind=1 then _ else _)=_);rw[if_pos h.rk,if_pos (show kS none=true from rfl)];(show(match p9 (g 0).bB x with|some c=>_|none=>_)=_);rw[hf];cases jQ ns ([]++[x])<;>rfl
   unfold stepG stepT;(show(if(g (bY dn φ n)).kind=1 then _ else _)=_);by_cases hd:n.file= -1
   ·(have e1:bY dn φ n=dn l:=by unfold bY;rw[if_pos hd,hn2]);have hf:=h.find (K:=l) (.inr ⟨n,hn1,hn2,hd⟩) x;have hk:=(h.dir n hn1 hd).2.1;rw[hn2]at hk;rw[e1,if_pos hk,if_pos (by unfold kS;simp[hd])];(show(match p9 (g (bY dn φ n)).bB x with|some c=>_|none=>_)=_);rw[e1,hf];cases jQ ns (l++[x])<;>rfl
   (have e1:bY dn φ n=φ n.file:=by unfold bY;rw[if_neg hd]);have hk:=(h.file n hn1 hd).2.2.1;rw[e1,if_neg (by rw[hk];decide),if_neg (by unfold kS;simp[hd])];rfl
theorem JN (n:TN) (K:Key):eB (ns++[n]) K=eB ns K++(if(aZ n).dropLast=K then [n]else []):=by
 unfold eB;rw[FH];congr 1;by_cases e:(aZ n).dropLast=K
 ·rw[if_pos e];simp[e]
 rw[if_neg e];simp[e]
theorem dI.snoc {K:Key} (h:dI ns K) (n:TN):dI (ns++[n]) K:=by
 rcases h with h|⟨m,hm,h⟩
 ·exact .inl h
 exact .inr ⟨m,uT _ hm,h⟩
theorem lL.zJ (h:lL g nm ns fs dn φ) {K:Key} (hK:dI ns K):dn K<nm/\(g (dn K)).kind=1:=by
 rcases hK with e|⟨n,hn,e,hf⟩
 ·rw[e,h.root];exact⟨h.n0,h.rk⟩
 have:=h.dir n hn hf;rw[e]at this;exact⟨this.1,this.2.1⟩
theorem lL.XR (h:lL g nm ns fs dn φ) {K L:Key} (hK:dI ns K) (hL:dI ns L) (e:dn K=dn L):K=L:=by
 have key:∀n∈ns,n.file= -1->bY dn φ n=dn (aZ n):=fun n _ hf=>by unfold bY;rw[if_pos hf]
 rcases hK with e1|⟨n,hn,e1,hf1⟩
 ·rcases hL with e2|⟨m,hm,e2,hf2⟩
  ·rw[e1,e2]
  have:=h.ne0 m hm;rw[key m hm hf2,e2,<-e,e1,h.root]at this;exact absurd rfl this
 rcases hL with e2|⟨m,hm,e2,hf2⟩
 ·have:=h.ne0 n hn;rw[key n hn hf1,e1,e,e2,h.root]at this;exact absurd rfl this
 rcases h.inj n hn m hm (by rw[key n hn hf1,key m hm hf2,e1,e2,e])with h1|h1
 ·rw[<-e1,<-e2,h1]
 exact absurd hf1 h1.1
theorem lL.G5 (h:lL g nm ns fs dn φ) {n:TN} (hn:n∈ns):bY dn φ n<nm/\((n.file= -1/\(g (bY dn φ n)).kind=1)\/(n.file≠ -1/\(g (bY dn φ n)).kind=2)):=by
 unfold bY;by_cases hf:n.file= -1
 ·rw[if_pos hf];exact⟨(h.dir n hn hf).1,.inl ⟨hf,(h.dir n hn hf).2.1⟩⟩
 rw[if_neg hf];exact⟨(h.file n hn hf).2.1,.inr ⟨hf,(h.file n hn hf).2.2.1⟩⟩
theorem lL.ah3 (h:lL g nm ns fs dn φ) {n:TN} (hn:n∈ns) (hf:n.file≠ -1):0<=n.file/\n.file<fs.length:=by obtain⟨h1,_,_,⟨f,h2,_⟩,_⟩:=h.file n hn hf;have:=(gF.1 h2).1;omega
theorem uE {K:Key} (h:jQ ns K=none):∀n∈ns,aZ n≠K:=fun n hn e=>by have:=vY.1 h n hn;simp[e]at this
theorem lL.as8 (h:lL g nm ns fs dn φ) {K:Key} (hK:K≠[]) (hno:jQ ns K=none):eB ns K=[]:=by
 unfold eB;rw[ag2];intro n hn hk;have e:(aZ n).dropLast=K:=by simpa using hk
 rcases h.up n hn with h1|⟨m,hm,h1,_⟩
 ·exact hK (by rw[<-e,h1])
 exact uE hno m hm (by rw[h1,e])
theorem AZ {K:Key} (hK:K≠[]):K.dropLast≠K:=fun e=>by have:=congrArg List.length e;rw[YY]at this;have:0<K.length:=List.length_pos_iff.2 hK;omega
theorem Z6 {P:Prop} (h:P:=by
 by_cases e:P=K
 ·subst e;rw[if_pos (by rw[hk0];exact hPe.symm),<-hd,gd];(show((g d).bB++[(aL p,i)]).Perm _);rw[<-hd]at hE;refine hE.append ?_;rw[LB,i0,hk0];exact FN _
 rw[if_neg (by rw[hk0,<-hPe];exact e),LD,yX42,go _ (fun e2=>e ?_) (dni K hK')]
 ·exact hE
 exact(h.XR hK' hP (by rw[e2,hd])).symm):P:=h
theorem Z51 {P:Prop} (h:P:=by
 intro n hn m hm e;rcases mem n hn with hn|en
 ·rcases mem m hm with hm|em
  ·rw[io n hn,io m hm]at e;exact h.inj n hn m hm e
  (try rw[em]at hf);(try rw[em]at e);(try rw[em]);rw[io n hn,i0]at e;exact absurd e (ni n hn)
 try rw[en]at hf
 try rw[en]at e
 try rw[en]
 rcases mem m hm with hm|em
 ·rw[io m hm,i0]at e;exact absurd e.symm (ni m hm)
 try rw[em]at hf
 try rw[em]at e
 try rw[em]
 exact .inl rfl):P:=h
theorem Z65 {P:Prop} (h:P:=by rw[mM,LB,uW];refine⟨h.uniq,by simp,fun a ha b hb e=>?_⟩;obtain⟨n,hn,e1⟩:=List.mem_map.1 ha;rw[rW]at hb;exact akL n hn (by rw[e1,e,hb,hk0])):P:=h
theorem Z73 {P:Prop} (h:P:=by
 intro m hm hk;by_cases e:m=i
 ·exact .inr ⟨n0,by simp,by rw[i0,e]⟩
 rw[(gk m e).1]at hk;rcases h.cover m hm hk with h1|⟨n,hn,h1⟩
 ·exact .inl h1
 exact .inr ⟨n,uT _ hn,by rw[io n hn,h1]⟩):P:=h
theorem Z76 {P:Prop} (h:P:=by
 by_cases h1:m=d
 ·rw[h1,gd];exact⟨rfl,rfl,rfl,rfl⟩
 rw[go m h1 h2];exact⟨rfl,rfl,rfl,rfl⟩):P:=h
theorem Z78 {P:Prop} (h:P:=by
 rcases hK with e|⟨n,hn,e,hf⟩
 ·exact .inl e
 rcases iM.1 hn with hn|hn
 ·exact .inr ⟨n,hn,e,hf⟩
 rw[rW]at hn;rw[hn]at hf;exact absurd hf hne1):P:=h
theorem Z80 {P:Prop} (h:P:=by
 intro n hn;rcases mem n hn with hn|en
 ·exact(h.up n hn).snoc _
 try rw[en]at hf
 try rw[en]at e
 try rw[en]
 rw[hk0,<-hPe];exact hP.snoc _):P:=h
theorem Z81 {P:Prop} (h:P:=by
 intro n hn;rcases mem n hn with hn|en
 ·rw[io n hn];exact h.ne0 n hn
 try rw[en]at hf
 try rw[en]at e
 try rw[en]
 rw[i0];exact hi0):P:=h
theorem lL.as9 (h:lL g nm ns fs dn φ) {p:List UInt8} {i mode:Nat} {bs:List UInt8} (hi:i<nm) (h0:(g i).kind=0) (hP:dI ns (splitB p).dropLast) (hno:jQ ns (splitB p)=none):
  lL (dM (dM g i ⟨2,mode,1,[],bs⟩) (dn (splitB p).dropLast) ((g (dn (splitB p).dropLast)).more (aL p) i)) nm (ns++[⟨p,fs.length,0⟩]) (fs++[⟨mode,bs⟩]) dn (fun k:Int=>if k=(fs.length:Int)then i else φ k):=by
 obtain⟨P,hPe⟩:∃P,P=(splitB p).dropLast:=⟨_,rfl⟩;rw[<-hPe]at hP ⊢;obtain⟨hd1,hd2⟩:=h.zJ hP;obtain⟨d,hd⟩:∃d,d=dn P:=⟨_,rfl⟩;rw[<-hd]at hd1 hd2 ⊢;obtain⟨n0,hn0⟩:∃n0:TN,n0=⟨p,fs.length,0⟩:=⟨_,rfl⟩;have hk0:aZ n0=splitB p:=by rw[hn0];rfl
 have hf0:n0.file=fs.length:=by rw[hn0]
 have hne1:n0.file≠ -1:=by rw[hf0];omega
 rw[<-hn0];obtain⟨ψ,hψ⟩:∃ψ:Int->Nat,ψ=fun k:Int=>if k=(fs.length:Int)then i else φ k:=⟨_,rfl⟩
 rw[<-hψ];obtain⟨g',hg'⟩:∃g',g'=dM (dM g i ⟨2,mode,1,[],bs⟩) d ((g d).more (aL p) i):=⟨_,rfl⟩;rw[<-hg'];have hid:i≠d:=fun e=>by rw[e,hd2]at h0;cases h0
 have hi0:i≠0:=fun e=>by rw[e,h.rk]at h0;cases h0
 have gd:g' d=(g d).more (aL p) i:=by rw[hg',bJ]
 have gi:g' i=⟨2,mode,1,[],bs⟩:=by rw[hg',bL _ _ hid,bJ]
 have go:∀m,m≠d->m≠i->g' m=g m:=fun m h1 h2=>by rw[hg',bL _ _ h1,bL _ _ h2]
 have gk:∀m,m≠i->(g' m).kind=(g m).kind/\(g' m).mode=(g m).mode/\(g' m).links=(g m).links/\(g' m).data=(g m).data:=fun m h2=>by exact Z76
 have ψo:∀n∈ns,n.file≠ -1->ψ n.file=φ n.file:=fun n hn hf=>by rw[hψ];exact if_neg (by have:=(h.ah3 hn hf).2;omega)
 have io:∀n∈ns,bY dn ψ n=bY dn φ n:=fun n hn=>by
  unfold bY;by_cases hf:n.file= -1
  ·rw[if_pos hf,if_pos hf]
  rw[if_neg hf,if_neg hf,ψo n hn hf]
 have i0:bY dn ψ n0=i:=by unfold bY;rw[if_neg hne1,hψ];exact if_pos hf0
 have ni:∀n∈ns,bY dn φ n≠i:=fun n hn e=>by rcases(h.G5 hn).2 with⟨_,h1⟩|⟨_,h1⟩<;>rw[e,h0]at h1<;>cases h1
 have dni:∀K,dI ns K->dn K≠i:=fun K hK e=>by have:=(h.zJ hK).2;rw[e,h0]at this;cases this
 have akL:=uE hno;have SC:∀K,dI (ns++[n0]) K->dI ns K:=fun K hK=>by exact Z78
 have mem:∀n∈ns++[n0],n∈ns\/n=n0:=fun n hn=>by simpa using hn
 have hnot:∀n∈ns,n.file≠n0.file:=fun n hn e=>by
  by_cases hf:n.file= -1
  ·rw[hf]at e;exact hne1 e.symm
  have:=(h.ah3 hn hf).2;omega
 refine⟨h.n0,h.root,?_,?_,?_,?_,?_,?_,?_,?_,?_⟩
 ·rw[(gk 0 (fun e=>hi0 e.symm)).1];exact h.rk
 ·exact Z65
 ·exact Z80
 ·intro n hn hf;rcases mem n hn with hn|en
  ·have h1:=h.dir n hn hf;have h2:=gk (dn (aZ n)) (dni _ (.inr ⟨n,hn,rfl,hf⟩));rw[h2.1,h2.2.1,h2.2.2.1];exact h1
  (try rw[en]at hf);(try rw[en]at e);(try rw[en]);exact absurd hf hne1
 ·intro n hn hf;rcases mem n hn with hn|en
  ·obtain⟨h1,h2,h3,⟨f,h4,h5,h6⟩,h7⟩:=h.file n hn hf;have h8:=gk (φ n.file) (fun e=>by rw[e,h0]at h3;cases h3);rw[ψo n hn hf,h8.1,h8.2.1,h8.2.2.1,h8.2.2.2];refine⟨h1,h2,h3,⟨f,?_,h5,h6⟩,?_⟩
   ·rw[C9 (gF.1 h4).1];exact h4
   rw[h7,ag9];(have e1:[n0].countP (fun m=>decide (m.file=n.file))=0:=by rw[KF,List.countP_nil];simp only[uQ,if_neg (fun e:n0.file=n.file=>hnot n hn e.symm)]);rw[e1];rfl
  (try rw[en]at hf);(try rw[en]at e);(try rw[en]);(have e1:ψ n0.file=i:=by rw[hψ];exact if_pos hf0);rw[e1,gi];refine⟨by rw[hf0];omega,hi,rfl,⟨⟨mode,bs⟩,?_,rfl,rfl⟩,?_⟩
  ·rw[hf0,lM,uS (iU _),DI];rfl
  rw[ag9];(have e2:ns.countP (fun m=>decide (m.file=n0.file))=0:=by rw[List.countP_eq_zero];intro m hm;simp[hnot m hm]);rw[e2,KF,List.countP_nil];simp
 ·exact Z81
 ·exact Z51
 ·exact Z73
 intro K hK;have hK':=SC K hK;rw[JN,mM];have e1:(eB ns K).map (fun n=>((aZ n).getLastD [],bY dn ψ n))=(eB ns K).map fun n=>((aZ n).getLastD [],bY dn φ n):=
  vW fun n hn=>by rw[io n (List.mem_filter.1 hn).1]
 rw[e1];have hE:=h.bB K hK';exact Z6
theorem lL.aw2 (h:lL g nm ns fs dn φ) {p:List UInt8} {i mode:Nat} (hi:i<nm) (h0:(g i).kind=0) (hP:dI ns (splitB p).dropLast) (hno:jQ ns (splitB p)=none):
  lL (dM (dM g i ⟨1,mode,1,[],[]⟩) (dn (splitB p).dropLast) ((g (dn (splitB p).dropLast)).more (aL p) i)) nm (ns++[⟨p, -1,mode⟩]) fs (fun K=>if K=splitB p then i else dn K) φ:=by
 have hpn:splitB p≠[]:=gP p;obtain⟨P,hPe⟩:∃P,P=(splitB p).dropLast:=⟨_,rfl⟩;rw[<-hPe]at hP ⊢;obtain⟨hd1,hd2⟩:=h.zJ hP;obtain⟨d,hd⟩:∃d,d=dn P:=⟨_,rfl⟩;rw[<-hd]at hd1 hd2 ⊢;obtain⟨n0,hn0⟩:∃n0:TN,n0=⟨p, -1,mode⟩:=⟨_,rfl⟩;have hk0:aZ n0=splitB p:=by rw[hn0];rfl
 have hf0:n0.file= -1:=by rw[hn0]
 rw[<-hn0];obtain⟨dm,hdm⟩:∃dm:Key->Nat,dm=fun K=>if K=splitB p then i else dn K:=⟨_,rfl⟩
 rw[<-hdm];obtain⟨g',hg'⟩:∃g',g'=dM (dM g i ⟨1,mode,1,[],[]⟩) d ((g d).more (aL p) i):=⟨_,rfl⟩;rw[<-hg'];have hid:i≠d:=fun e=>by rw[e,hd2]at h0;cases h0
 have hi0:i≠0:=fun e=>by rw[e,h.rk]at h0;cases h0
 have gd:g' d=(g d).more (aL p) i:=by rw[hg',bJ]
 have gi:g' i=⟨1,mode,1,[],[]⟩:=by rw[hg',bL _ _ hid,bJ]
 have go:∀m,m≠d->m≠i->g' m=g m:=fun m h1 h2=>by rw[hg',bL _ _ h1,bL _ _ h2]
 have gk:∀m,m≠i->(g' m).kind=(g m).kind/\(g' m).mode=(g m).mode/\(g' m).links=(g m).links/\(g' m).data=(g m).data:=fun m h2=>by exact Z76
 have akL:=uE hno;have dmo:∀K,K≠splitB p->dm K=dn K:=fun K hK=>by rw[hdm];exact if_neg hK
 have dm0:dm (splitB p)=i:=by rw[hdm];exact if_pos rfl
 have aFN:∀K,dI ns K->K≠splitB p:=fun K hK e=>by
  rcases hK with e1|⟨n,hn,e1,_⟩
  ·exact hpn (by rw[<-e,e1])
  exact akL n hn (by rw[e1,e])
 have io:∀n∈ns,bY dm φ n=bY dn φ n:=fun n hn=>by unfold bY;rw[dmo _ (akL n hn)]
 have i0:bY dm φ n0=i:=by unfold bY;rw[if_pos hf0,hk0,dm0]
 have ni:∀n∈ns,bY dn φ n≠i:=fun n hn e=>by rcases(h.G5 hn).2 with⟨_,h1⟩|⟨_,h1⟩<;>rw[e,h0]at h1<;>cases h1
 have dni:∀K,dI ns K->dn K≠i:=fun K hK e=>by have:=(h.zJ hK).2;rw[e,h0]at this;cases this
 have SC:∀K,dI (ns++[n0]) K->dI ns K\/K=splitB p:=fun K hK=>by
  rcases hK with e|⟨n,hn,e,hf⟩
  ·exact .inl (.inl e)
  rcases iM.1 hn with hn|hn
  ·exact .inl (.inr ⟨n,hn,e,hf⟩)
  rw[rW]at hn;rw[hn,hk0]at e;exact .inr e.symm
 have mem:∀n∈ns++[n0],n∈ns\/n=n0:=fun n hn=>by simpa using hn
 refine⟨h.n0,by rw[dmo _ (fun e=>hpn e.symm)];exact h.root,?_,?_,?_,?_,?_,?_,?_,?_,?_⟩
 ·rw[(gk 0 (fun e=>hi0 e.symm)).1];exact h.rk
 ·exact Z65
 ·exact Z80
 ·intro n hn hf;rcases mem n hn with hn|en
  ·have h1:=h.dir n hn hf;have h2:=gk (dn (aZ n)) (dni _ (.inr ⟨n,hn,rfl,hf⟩));rw[dmo _ (akL n hn),h2.1,h2.2.1,h2.2.2.1];exact h1
  (try rw[en]at hf);(try rw[en]at e);(try rw[en]);rw[hk0,dm0,gi];exact⟨hi,rfl,by rw[hn0],rfl⟩
 ·intro n hn hf;rcases mem n hn with hn|en
  ·obtain⟨h1,h2,h3,h4,h7⟩:=h.file n hn hf;have h8:=gk (φ n.file) (fun e=>by rw[e,h0]at h3;cases h3);rw[h8.1,h8.2.1,h8.2.2.1,h8.2.2.2];refine⟨h1,h2,h3,h4,?_⟩;rw[h7,ag9];(have e1:[n0].countP (fun m=>decide (m.file=n.file))=0:=by rw[KF,List.countP_nil];simp only[uQ,if_neg (fun e:n0.file=n.file=>hf (by rw[<-e,hf0]))]);rw[e1];rfl
  (try rw[en]at hf);(try rw[en]at e);(try rw[en]);exact absurd hf0 hf
 ·exact Z81
 ·exact Z51
 ·exact Z73
 intro K hK;rw[JN,mM];have e1:(eB ns K).map (fun n=>((aZ n).getLastD [],bY dm φ n))=(eB ns K).map fun n=>((aZ n).getLastD [],bY dn φ n):=
  vW fun n hn=>by rw[io n (List.mem_filter.1 hn).1]
 rw[e1];rcases SC K hK with hK'|hK'
 ·have hE:=h.bB K hK';rw[dmo K (aFN K hK')];exact Z6
 rw[hK',dm0,gi,h.as8 hpn hno,if_neg (by rw[hk0];exact AZ hpn)];exact List.Perm.nil
end
theorem CR {F:Nat->Int} {n:Nat} (h:∀i<n,F i=0):tX F n=0:=by
 induction n with
 |zero=>rfl
 |succ n ih=>rw[oK,ih fun i hi=>h i aI,h n aI];rfl
theorem K4 :∀ {l:List Nat} {F:Nat->Int} {n:Nat},l.Nodup->(∀i∈l,i<n)->(∀i<n,F i≠0->i∈l)->tX F n=(l.map F).sum
 |[],F,n,_,_,hc=>CR fun i hi=>Classical.byContradiction fun h=>by cases hc i hi h
 |a::t,F,n,hu,hl,hc=>by
  rw[wK]at hu;have ha:a<n:=hl a mO;have h1:=K4 (l:=t) (F:=fun i=>if i=a then 0 else F i) (n:=n) hu.2 (fun i hi=>hl i (vD _ hi)) fun i hi hne=>by
   by_cases e:i=a
   ·simp only[e,if_true]at hne;exact absurd rfl hne
   simp only[if_neg e]at hne;rcases jU.1 (hc i hi hne)with h|h
   ·exact absurd h e
   exact h
  (have h2:=z8 (f:=F) (g:=fun i=>if i=a then 0 else F i) ha fun i _ hne=>if_neg hne);(have h3:t.map (fun i=>if i=a then 0 else F i)=t.map F:=vW fun i hi=>if_neg fun e=>hu.1 (by rw[<-e];exact hi));rw[h1,h3]at h2;simp only[if_true]at h2;rw[jW,uX];omega
def fO :List TN->List Int
 |[]=>[]
 |n::t=>if n.file= -1\/n.file∈fO t then fO t else n.file::fO t
theorem jR :∀ {ns:List TN} {k:Int},k∈fO ns↔k≠ -1/\∃n∈ns,n.file=k
 |[],k=>by simp[fO]
 |n::t,k=>by
  unfold fO;by_cases h:n.file= -1\/n.file∈fO t
  ·rw[if_pos h,jR];constructor
   ·rintro⟨h1,m,hm,e⟩;exact⟨h1,m,vD _ hm,e⟩
   rintro⟨h1,m,hm,e⟩;refine⟨h1,?_⟩;rcases jU.1 hm with e2|hm
   ·rw[e2]at e;rcases h with h|h
    ·exact absurd (e.symm.trans h) h1
    rw[e]at h;exact(jR.1 h).2
   exact⟨m,hm,e⟩
  rw[if_neg h,jU,jR];constructor
  ·rintro(h1|⟨h1,m,hm,e⟩)
   ·rw[h1];exact⟨fun e=>h (.inl e),n,mO,rfl⟩
   exact⟨h1,m,vD _ hm,e⟩
  rintro⟨h1,m,hm,e⟩;rcases jU.1 hm with e2|hm
  ·rw[e2]at e;exact .inl e.symm
  exact .inr ⟨h1,m,hm,e⟩
theorem mR :∀(ns:List TN),(fO ns).Nodup
 |[]=>TL
 |n::t=>by
  unfold fO;split
  ·exact mR t
  rename_i h;rw[not_or]at h;exact wK.2 ⟨h.2,mR t⟩
def kT (ns:List TN):List TN:=ns.filter fun n=>decide (n.file= -1)
theorem iY {ns:List TN} {n:TN}:n∈kT ns↔n∈ns/\n.file= -1:=by unfold kT;rw[List.mem_filter,uQ]
section
variable {g:LT} {nm:Nat} {ns:List TN} {fs:List FT} {dn:Key->Nat} {φ:Int->Nat}
theorem lL.atA (h:lL g nm ns fs dn φ) {n m:TN} (hn:n∈ns) (hm:m∈ns) (hf:n.file≠ -1) (hg:m.file≠ -1) (e:φ n.file=φ m.file):n.file=m.file:=by
 rcases h.inj n hn m hm (by unfold bY;rw[if_neg hf,if_neg hg,e])with h1|h1
 ·rw[h1]
 exact h1.2
def PN (ns:List TN) (dn:Key->Nat) (φ:Int->Nat):List Nat:=(0::(kT ns).map fun n=>dn (aZ n))++(fO ns).map φ
theorem lL.aFO (h:lL g nm ns fs dn φ):(PN ns dn φ).Nodup/\(∀i∈PN ns dn φ,i<nm)/\∀i<nm,(g i).kind≠0->i∈PN ns dn φ:=by
 have key:∀n∈kT ns,bY dn φ n=dn (aZ n):=fun n hn=>by unfold bY;rw[if_pos (iY.1 hn).2]
 have kd:∀n∈kT ns,(g (dn (aZ n))).kind=1:=fun n hn=>(h.dir n (iY.1 hn).1 (iY.1 hn).2).2.1
 have kf:∀k∈fO ns,(g (φ k)).kind=2/\φ k<nm:=fun k hk=>by obtain⟨h1,n,hn,e⟩:=jR.1 hk;rw[<-e]at h1 ⊢;exact⟨(h.file n hn h1).2.2.1,(h.file n hn h1).2.1⟩
 refine⟨?_,?_,?_⟩
 ·unfold PN;rw[uW];refine⟨?_,?_,?_⟩
  ·rw[wK];constructor
   ·intro h0;obtain⟨n,hn,e⟩:=List.mem_map.1 h0;refine h.ne0 n (iY.1 hn).1 ?_;rw[key n hn];exact e
   have hu:((kT ns).map aZ).Nodup:=h.uniq.sublist (ZJ _ FO);rw[ZB,FJ]at hu ⊢;refine am5 (fun {a b} ha hb hab e=>hab ?_) hu;exact h.XR (.inr ⟨a,(iY.1 ha).1,rfl,(iY.1 ha).2⟩) (.inr ⟨b,(iY.1 hb).1,rfl,(iY.1 hb).2⟩) e
  ·have hu:=mR ns;rw[ZB]at hu ⊢;rw[FJ];refine am5 (fun {a b} ha hb hab e=>hab ?_) hu;obtain⟨h1,n,hn,e1⟩:=jR.1 ha;obtain⟨h2,m,hm,e2⟩:=jR.1 hb;rw[<-e1]at h1 e ⊢;rw[<-e2]at h2 e ⊢;exact h.atA hn hm h1 h2 e
  intro a ha b hb e;obtain⟨k,hk,e1⟩:=List.mem_map.1 hb;have hb2:=(kf k hk).1;rw[e1,<-e]at hb2;rcases jU.1 ha with e2|ha
  ·rw[e2,h.rk]at hb2;cases hb2
  obtain⟨n,hn,e3⟩:=List.mem_map.1 ha;have:=kd n hn;have e3':dn (aZ n)=a:=e3;rw[e3',hb2]at this;cases this
 ·intro i hi;unfold PN at hi;rcases iM.1 hi with hi|hi
  ·rcases jU.1 hi with e|hi
   ·rw[e];exact h.n0
   obtain⟨n,hn,e⟩:=List.mem_map.1 hi;rw[<-e];exact(h.dir n (iY.1 hn).1 (iY.1 hn).2).1
  obtain⟨k,hk,e⟩:=List.mem_map.1 hi;rw[<-e];exact(kf k hk).2
 intro i hi hk;unfold PN;rw[iM,jU];rcases h.cover i hi hk with e|⟨n,hn,e⟩
 ·exact .inl (.inl e)
 unfold bY at e;by_cases hf:n.file= -1
 ·rw[if_pos hf]at e;exact .inl (.inr (List.mem_map.2 ⟨n,iY.2 ⟨hn,hf⟩,e⟩))
 rw[if_neg hf]at e;exact .inr (List.mem_map.2 ⟨n.file,jR.2 ⟨hf,n,hn,rfl⟩,e⟩)
theorem lL.sum (h:lL g nm ns fs dn φ) (G:LI->Int) (hG:∀x:LI,x.kind=0->G x=0) (hfair:∀i<nm,(g i).fair):
  tX (fun i=>G (g i)) nm=G (g 0)+((kT ns).map fun n=>G (g (dn (aZ n)))).sum+((fO ns).map fun k=>G (g (φ k))).sum:=by
 obtain⟨h1,h2,h3⟩:=h.aFO;rw[K4 (F:=fun i=>G (g i)) h1 h2 fun i hi hne=>h3 i hi fun e=>hne (hG _ e)];unfold PN;rw[mM,M8,jW,uX,qU,qU];rfl
end
theorem PO {S S1:VS} {n:Nat} {bs:List UInt8} (h:iF S n bs=some S1):eX S S1:=by
 unfold iF at h;split at h
 ·cases h
 rename_i S2 l h1;cases h;exact((qC h1).trans (oD bs l 0 S2).like).keep n _
structure Chg (S:VS) (g':LT) (S1:VS):Prop where
 ph:dB S1 g'
 like:eX S S1
 m:S1.m<=40
def nO (kind mode:Nat) (bs:List UInt8):LI:=⟨kind,mode,1,[],bs⟩
theorem ae2 {kind mode:Nat} {bs:List UInt8} (hk:kind=1/\bs=[]\/kind=2) (hm:mode<65536) (hb:bs.length<=8192):(nO kind mode bs).fair:=
 ⟨by show kind<=2;omega,fun _=>rfl,fun h=>by rcases hk with hk|hk;exact hk.2;exact absurd hk h,by show 0<=448;omega,hb,hm,by show 1<65536;omega,fun e he=>by cases he⟩
section
variable {S:VS} {g:LT}
theorem dB.CS (h:dB S g) {n:Nat} (hn:lU S.cur S.names=some n):n<S.names/\(g n).kind=0:=by have h1:=OX hn;refine⟨h1,?_⟩;have h2:=FK hn;rw[h.kind h1]at h2;simpa using h2
theorem dB.akM (h:dB S g) (hn:lU S.cur S.names=none):∀i<S.names,(g i).kind≠0:=fun i hi e=>by have:=vY.1 hn i (List.mem_range.2 hi);rw[h.kind hi,e]at this;exact this rfl
theorem dB.abH (h:dB S g) (hm0:S.m=0) {dir n mode:Nat} {name bs:List UInt8} (hd:dir<S.names) (hk:(g dir).kind=1) (hsz:(g dir).bB.length<448) (hname:name.length<=15) (hmode:mode<65536) (hbs:bs.length<=8192)
  (hn:lU S.cur S.names=some n):
  (∀S1,lY S n (⟨2,mode,1,0,[]⟩:VI) bs dir name=some S1->Chg S (dM (dM g n (nO 2 mode bs)) dir ((g dir).more name n)) S1)/\
  (lY S n (⟨2,mode,1,0,[]⟩:VI) bs dir name=none->S.count<oL (dM (dM g n (nO 2 mode bs)) dir ((g dir).more name n)) S.names)/\
  (mZ (S.keep n (⟨2,mode,1,0,[]⟩:VI)) n/\fF (S.keep n (⟨2,mode,1,0,[]⟩:VI))/\∀S2,iF (S.keep n (⟨2,mode,1,0,[]⟩:VI)) n bs=some S2->eX S S2/\nV S2 dir n name/\lI S2):=by
 obtain⟨hn1,hn0⟩:=h.CS hn;have hnd:dir≠n:=fun e=>by rw[e,hn0]at hk;cases hk
 obtain⟨hsp,hA⟩:=h.asX (n:=n) (mode:=mode) (links:=1) hn1 hn0 hmode aI;obtain⟨SA,G6⟩:∃SA,SA=S.keep n (⟨2,mode,1,0,[]⟩:VI):=⟨_,rfl⟩;rw[<-G6]at hA ⊢;have hLA:eX S SA:=by rw[G6];exact(eX.refl S).keep n _
 have hnA:SA.names=S.names:=hLA.names;have hmA:SA.m=1:=by rw[G6];show S.m+1=1;rw[hm0]
 have akN:n<=65535:=by have:=h.pJ;omega
 have gAn:dM g n ⟨2,mode,1,[],[]⟩ n=⟨2,mode,1,[],[]⟩:=bJ _ _ _;obtain⟨hF1,hF2⟩:=hA.fill (n:=n) (bs:=bs) (by rw[hnA];exact hn1) (by rw[gAn]) hbs;have eg:dM (dM g n ⟨2,mode,1,[],[]⟩) n {dM g n ⟨2,mode,1,[],[]⟩ n with data:=bs}=dM g n (nO 2 mode bs):=by rw[gAn];funext i;unfold dM;split<;>rfl
 rw[eg]at hF1 hF2;have gd:dM g n (nO 2 mode bs) dir=g dir:=bL _ _ hnd;have hsA:(aF SA.cur n).aB=[]:=uR (by rw[hA.len n (by rw[hnA];exact hn1),gAn];simp[LI.need]);have hcnt:SA.count=S.count:=hLA.count;have two:∀S2,iF SA n bs=some S2->dB S2 (dM g n (nO 2 mode bs))/\eX S S2/\S2.m<=34:=fun S2 hS2=>by refine⟨hF1 S2 hS2,hLA.trans (PO hS2),?_⟩;have:=aw1 hS2;rw[hsA,hmA]at this;simp only[rF]at this;omega
 refine⟨fun S1 hS1=>?_,fun hno=>?_,hA.UQ (by rw[hnA];exact hn1),hA.sw,fun S2 hS2=>?_⟩
 ·unfold lY at hS1;rw[<-G6]at hS1;split at hS1
  ·cases hS1
  rename_i S2 hS2;obtain⟨h2,hL2,hm2⟩:=two S2 hS2;have hE:=(h2.enter (dir:=dir) (n:=n) (name:=name) (by rw[hL2.names];exact hd) (by rw[gd];exact hk) (by rw[gd];exact hsz) hname akN).1 S1 hS1;rw[gd]at hE;refine⟨hE,hL2.trans (vJ hS1),?_⟩;have:=h2.MM (by rw[hL2.names];exact hd) (by rw[gd];exact hk) hS1;omega
 ·unfold lY at hno;rw[<-G6]at hno;split at hno
  ·rename_i hf;have:=hF2 hf;rw[hcnt,hnA]at this;refine TG this ?_;have h1:=wU (g:=dM g n (nO 2 mode bs)) hd ((g dir).more name n);(have h2:(dM g n (nO 2 mode bs) dir).need<=((g dir).more name n).need:=by rw[gd,kQ hk,kQ (x:=(g dir).more name n) hk];have e:((g dir).more name n).bB.length=(g dir).bB.length+1:=jJ;rw[e];omega);omega
  rename_i S2 hS2;obtain⟨h2,hL2,hm2⟩:=two S2 hS2;have hE:=(h2.enter (dir:=dir) (n:=n) (name:=name) (by rw[hL2.names];exact hd) (by rw[gd];exact hk) (by rw[gd];exact hsz) hname akN).2 hno;rw[gd,hL2.count,hL2.names]at hE;exact hE
 obtain⟨h2,hL2,hm2⟩:=two S2 hS2;exact⟨hL2,h2.ML (by rw[hL2.names];exact hd) (by rw[gd];exact hk) (by rw[gd];exact hsz) hname akN,h2.sv⟩
theorem K5 (S:VS) (j:Nat) {m:Nat} (hm:m<S.names):aF (fV S j).cur m=aF S.cur m:=by
 unfold aF;show BV (((bk ((S.cur.set 1 _).set (S.data+j) bV) (2+m/8)).drop (m%8*64)).take 64)=_
 rw[dJ _ _ (by unfold VS.data;omega),dJ _ _ aI]
theorem akO {x:LI} (hk:x.kind=1) (name:List UInt8) (n:Nat):x.need<=(x.more name n).need:=by rw[kQ hk,kQ (x:=x.more name n) hk];have e:(x.more name n).bB.length=x.bB.length+1:=jJ;rw[e];omega
theorem dB.ah4 (h:dB S g) (hm0:S.m=0) {dir n mode:Nat} {name:List UInt8} (hd:dir<S.names) (hk:(g dir).kind=1) (hsz:(g dir).bB.length<448) (hname:name.length<=15) (hmode:mode<65536)
  (hn:lU S.cur S.names=some n):
  (∀j,jO (bk S.cur 1) S.count=some j->
   (∀S1,gL (j6 S n (⟨1,mode,1,0,[]⟩:VI) j) dir name n=some S1->Chg S (dM (dM g n (nO 1 mode [])) dir ((g dir).more name n)) S1)/\
   (gL (j6 S n (⟨1,mode,1,0,[]⟩:VI) j) dir name n=none->S.count<oL (dM (dM g n (nO 1 mode [])) dir ((g dir).more name n)) S.names)/\
   ((⟨1,mode,1,0,[j]⟩:VI).ok/\mZ (fV S j) n/\fF (fV S j)/\nV (j6 S n (⟨1,mode,1,0,[]⟩:VI) j) dir n name/\lI (j6 S n (⟨1,mode,1,0,[]⟩:VI) j)))/\
  (jO (bk S.cur 1) S.count=none->S.count<oL (dM (dM g n (nO 1 mode [])) dir ((g dir).more name n)) S.names):=by
 obtain⟨hn1,hn0⟩:=h.CS hn;have hnd:dir≠n:=fun e=>by rw[e,hn0]at hk;cases hk
 have akN:n<=65535:=by have:=h.pJ;omega
 obtain⟨hA,hB⟩:=h.aoB (n:=n) (mode:=mode) (links:=1) hn1 hn0 hmode aI;have gd:dM g n (nO 1 mode []) dir=g dir:=bL _ _ hnd;have hsp:(aF S.cur n).aB=[]:=uR (by rw[h.len n hn1];unfold LI.need;rw[if_neg aI,if_neg aI]);constructor
 ·intro j hj;have h2:=hA j hj;have hj1:=UI hj;obtain⟨SA,G6⟩:∃SA,SA=j6 S n (⟨1,mode,1,0,[]⟩:VI) j:=⟨_,rfl⟩;rw[<-G6]at h2 ⊢;have h2':dB SA (dM g n (nO 1 mode [])):=h2;(have hL2:eX S SA:=by rw[G6];exact(((eX.refl S).put _ _).put _ _).keep n _);(have hm2:SA.m=3:=by rw[G6];show S.m+1+1+1=3;rw[hm0]);have hE:=h2'.enter (dir:=dir) (n:=n) (name:=name) (by rw[hL2.names];exact hd) (by rw[gd];exact hk) (by rw[gd];exact hsz) hname akN;rw[gd,hL2.count,hL2.names]at hE;refine⟨fun S1 hS1=>⟨hE.1 S1 hS1,hL2.trans (vJ hS1),?_⟩,hE.2,⟨by show 1<256;omega,hmode,by show 1<65536;omega,by show 0<65536;omega,by show 1<=28;omega,fun k hk=>?_⟩,⟨hn1,?_,?_⟩,⟨h.sw.b0,h.sw.b1,h.sw.i0,h.sw.i1⟩,h2'.ML (by rw[hL2.names];exact hd) (by rw[gd];exact hk) (by rw[gd];exact hsz) hname akN,h2'.sv⟩
  ·have:=h2'.MM (by rw[hL2.names];exact hd) (by rw[gd];exact hk) hS1;omega
  ·rw[rW]at hk;rw[hk];exact h.OQ hj1
  ·rw[K5 S j hn1,hsp];exact fZ _
  rw[K5 S j hn1,hsp];intro s hs;cases hs
 intro hno;have h1:=hB hno;have h2:=wU (g:=dM g n (nO 1 mode [])) hd ((g dir).more name n);rw[gd]at h2;have h3:=akO hk name n;have h4:S.count<oL (dM g n (nO 1 mode [])) S.names:=h1;omega
theorem dB.made (h:dB S g) (hm0:S.m=0) (hr:S.rB=S.count/\S.rI=S.names) {kind dir mode:Nat} {path bs:List UInt8} (hkd:kind=1/\bs=[]\/kind=2) (hd:dir<S.names) (hk:(g dir).kind=1) (hsz:(g dir).bB.length<448)
  (hv:aU path=true) (hp:path.length<=1048576) (hname:(aL path).length<=15) (hmode:mode<65536) (hbs:bs.length<=8192):
  uB S (⟨kind,mode,1,0,[]⟩:VI) bs dir path/\
  ((lU S.cur S.names=none/\jV S (⟨kind,mode,1,0,[]⟩:VI) bs dir (aL path)=none)\/
  ∃n,lU S.cur S.names=some n/\
   (∀S1,jV S (⟨kind,mode,1,0,[]⟩:VI) bs dir (aL path)=some S1->Chg S (dM (dM g n (nO kind mode bs)) dir ((g dir).more (aL path) n)) S1)/\
   (jV S (⟨kind,mode,1,0,[]⟩:VI) bs dir (aL path)=none->S.count<oL (dM (dM g n (nO kind mode bs)) dir ((g dir).more (aL path) n)) S.names)):=by
 have aAQ:(lU S.cur S.names=none/\jV S (⟨kind,mode,1,0,[]⟩:VI) bs dir (aL path)=none)\/
  ∃n,lU S.cur S.names=some n/\
   (∀S1,jV S (⟨kind,mode,1,0,[]⟩:VI) bs dir (aL path)=some S1->Chg S (dM (dM g n (nO kind mode bs)) dir ((g dir).more (aL path) n)) S1)/\
   (jV S (⟨kind,mode,1,0,[]⟩:VI) bs dir (aL path)=none->S.count<oL (dM (dM g n (nO kind mode bs)) dir ((g dir).more (aL path) n)) S.names):=by
  rcases hn:lU S.cur S.names with _|n
  ·exact .inl ⟨rfl,by unfold jV;rw[hn]⟩
  ·refine .inr ⟨n,rfl,?_⟩;rcases hkd with⟨rfl,rfl⟩|rfl
   ·have hD:=h.ah4 hm0 (name:=aL path) hd hk hsz hname hmode hn;unfold jV;rw[hn];simp only[if_true];rcases hj:jO (bk S.cur 1) S.count with _|j
    ·exact⟨fun S1 e=>(by cases e),fun _=>hD.2 hj⟩
    exact⟨(hD.1 j hj).1,(hD.1 j hj).2.1⟩
   have hF:=h.abH hm0 (name:=aL path) hd hk hsz hname hmode hbs hn;unfold jV;rw[hn];exact⟨hF.1,hF.2.1⟩
 refine⟨⟨h.aAO,h.sw,hv,hp,?_,rfl,?_,hbs,?_,?_,?_⟩,aAQ⟩
 ·(show kind=1\/kind=2);omega
 ·exact⟨by show kind<256;omega,hmode,by show 1<65536;omega,by show 0<65536;omega,fZ _,fun k hk=>by cases hk⟩
 ·intro n hn hk2;have aFR:kind=2:=hk2;subst aFR;exact(h.abH hm0 (name:=aL path) hd hk hsz hname hmode hbs hn).2.2
 ·intro n j hn hj hk1;have aFS:kind=1:=hk1;subst aFS;exact((h.ah4 hm0 (name:=aL path) hd hk hsz hname hmode hn).1 j hj).2.2
 ·intro S1 hS1;rcases aAQ with⟨_,h1⟩|⟨n,_,h1,_⟩
  ·rw[h1]at hS1;cases hS1
  have:=h1 S1 hS1;exact dB.GY hr h.use this.like this.ph this.m
end
def DT (c:fK) (S:VS):Prop:=∃ks:List Nat,ks.length<=S.m/\∀k,k∉ks->bk S.cur k=bk c k
def pY (c:fK) (S:VS):Prop:=DT c S/\bk S.cur 0=bk c 0
section
variable {c:fK} {S S1:VS}
theorem DT.refl (S:VS):DT S.cur S:=⟨[],fZ _,fun _ _=>rfl⟩
theorem DT.put (h:DT c S) (k:Nat) (bs:List UInt8):DT c (S.put k bs):=by
 obtain⟨ks,h1,h2⟩:=h;refine⟨k::ks,by show ks.length+1<=S.m+1;omega,fun j hj=>?_⟩;rw[jU,not_or]at hj;show bk (S.cur.set k bs) j=_
 rw[dJ _ _ hj.1,h2 j hj.2]
theorem DT.keep (h:DT c S) (n:Nat) (x:VI):DT c (S.keep n x):=by
 obtain⟨ks,h1,h2⟩:=h;refine⟨(2+n/8)::ks,by show ks.length+1<=S.m+1;omega,fun j hj=>?_⟩;rw[jU,not_or]at hj;show bk (tY S.cur n x) j=_
 rw[AA _ _ hj.1,h2 j hj.2]
theorem pY.refl (S:VS):pY S.cur S:=⟨DT.refl S,rfl⟩
theorem pY.put (h:pY c S) {k:Nat} (hk:0<k) (bs:List UInt8):pY c (S.put k bs):=⟨h.1.put k bs,(dJ _ _ aI).trans h.2⟩
theorem pY.node (h:pY c S) (z:Int):pY c (S.node z):=h
theorem pY.keep (h:pY c S) (n:Nat) (x:VI):pY c (S.keep n x):=⟨h.1.keep n x,(AA _ _ aI).trans h.2⟩
theorem pY.gZ (h:pY c S) (s i:Nat) (name:List UInt8) (n:Nat):pY c (S.gZ s i name n):=h.put (by unfold VS.data;omega) _
theorem pY.jM {l l1:List Nat} {n:Nat} (h:pY c S) (hf:jM S l n=some (S1,l1)):pY c S1:=by
 have hd:∀(k:Nat) (S:VS) (l:List Nat),pY c S->pY c (mX k S l).1:=fun k=>by
  induction k with
  |zero=>exact fun S l h=>h
  |succ k ih=>exact fun S l h=>ih _ _ (h.put Nat.one_pos _)
 have hu:∀(k:Nat) (S:VS) (l:List Nat) {S1:VS} {l1:List Nat},pY c S->MG k S l=some (S1,l1)->pY c S1:=fun k=>by
  induction k with
  |zero=>intro S l S1 l1 h e;cases e;exact h
  |succ k ih=>
   intro S l S1 l1 h e;unfold MG at e;split at e
   ·cases e
   exact ih _ _ (h.put Nat.one_pos _) e
 exact hu _ _ _ (hd _ _ _ h) hf
theorem pY.lQ (bs:List UInt8):∀(l:List Nat) (k:Nat) {S:VS},pY c S->pY c (lQ bs l k S)
 |[],_,_,h=>h
 |s::l,k,_,h=>pY.lQ bs l (k+1) (h.put (by unfold VS.data;omega) _)
theorem pY.iF {n:Nat} {bs:List UInt8} (h:pY c S) (hf:iF S n bs=some S1):pY c S1:=by
 unfold Go.Proofs.YtmjomdkleikgbaaGreat.iF at hf;split at hf
 ·cases hf
 rename_i S2 l h1;cases hf;exact((h.jM h1).lQ bs l 0).keep n _
theorem pY.gL {dir n:Nat} {name:List UInt8} (h:pY c S) (hf:gL S dir name n=some S1):pY c S1:=by
 unfold Go.Proofs.YtmjomdkleikgbaaGreat.gL at hf;split at hf
 ·cases hf
 rename_i S2 l h1;cases hf;exact(((h.node _).jM h1).keep dir _).gZ _ _ _ _
theorem pY.bZ (h:pY c S) (dir:Nat) (name:List UInt8):pY c (bZ S dir name):=by
 have h2:pY c (EI S (aF S.cur dir) name):=(h.gZ _ _ _ _).gZ _ _ _ _;unfold Go.Proofs.YtmjomdkleikgbaaGreat.bZ;simp only;split
 ·exact h2
 rename_i S4 l h1;exact((h2.node _).jM h1).keep dir _
theorem pY.l9 (h:pY c S) (n:Nat):pY c (l9 S n):=by obtain⟨S2,h1,h2⟩:=zZ (S:=S) (n:=n);rw[h2];exact(h.jM h1).keep n _
theorem pY.jV {x:VI} {bs:List UInt8} {dir:Nat} {name:List UInt8} (h:pY c S) (hf:jV S x bs dir name=some S1):pY c S1:=by
 unfold Go.Proofs.YtmjomdkleikgbaaGreat.jV at hf;split at hf
 ·cases hf
 rename_i n h1;split at hf
 ·split at hf
  ·cases hf
  exact pY.gL (((h.put Nat.one_pos _).put (by unfold VS.data;omega) _).keep _ _) hf
 unfold lY at hf;split at hf
 ·cases hf
 rename_i S2 h2;exact((h.keep _ _).iF h2).gL hf
theorem DT.puts (h:DT (S.D.now.drop 96) S):(jE S).length<=S.m:=by
 obtain⟨ks,h1,h2⟩:=h;have h3:(jE S).length=(((List.range (S.nb-96)).filter fun k=>bk S.cur k !=bk S.D.now (96+k))).length:=iT _;rw[h3];refine DZ (aiZ ((List.nodup_range).filter _) fun k hk=>?_) h1;have h4:=(List.mem_filter.1 hk).2;refine Classical.byContradiction fun hno=>?_
 have h5:=h2 k hno;rw[CF]at h5;rw[h5]at h4;simp at h4
theorem dB.with {g:LT} (h:dB S g) (D:DK) (m:Nat):dB {S with D:=D,m:=m} g:=
 ⟨⟨h.use.cur,⟨h.use.vf.names,h.use.vf.room⟩,h.use.nb⟩,h.n0,h.fair,h.head,h.len,h.lt,h.nodup,h.dis,h.bits,h.bB,h.data,h.wB,h.wI,h.nodes⟩
theorem BA (hD:S.D.ok S.nb) (RQ:96<S.nb) (anN:kG (S.nb-96) S.cur) (lS:DT (S.D.now.drop 96) S) (hm:S.m<=40) (hc:S.bI.2=true):S.settled.base.cur=S.cur:=by
 have hp:(jE S).length<=40:=DZ lS.puts hm;have hok:=UB hD RQ anN hp;show S.bI.1.now.drop 96=S.cur
 refine TK (by rw[qR,hok.now.len,anN.len]) fun k h1 h2=>?_
 have hk:k<S.nb-96:=by rw[<-anN.len];exact h2
 have:=NT hD.now.len hp hc hk;unfold bk at this;rw[gH,gH,gE h2,gE (by rw[qR]at h1;omega)]at this;rw[ZI];exact this
theorem dB.settled {g:LT} (h:dB S g) (hD:S.D.ok S.nb) (RQ:96<S.nb) (lS:DT (S.D.now.drop 96) S) (hm:S.m<=40) (hc:S.bI.2=true):dB S.settled.base g:=by
 have e:S.settled.base= {S with D:=S.bI.1,m:=0}:=by have:=BA hD RQ h.use.cur lS hm hc;(show({S with D:=S.bI.1,cur:=S.settled.base.cur,m:=0}:VS)=_);rw[this]
 rw[e];exact h.with _ _
end
end Go.Proofs.YtmjomdkleikgbaaGreat
