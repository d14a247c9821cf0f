/- Parts. -/
import Derived.Test.YteihmbaimbogaaaGreatJ24
set_option linter.unusedVariables false
set_option linter.unusedSimpArgs false
namespace Go.Proofs.YteihmbaimbogaaaGreat
abbrev Key :=List (List UInt8)
def sQ (L:wM) (name:List UInt8):Option Nat:=(L.find? fun e=>e.1==name).map (·.2)
theorem ES (L:wM) (name:List UInt8):(∃i,i<L.length/\vC L i=(name,(lW L name).2)/\(lW L name).1=(i:Int)/\sQ L name=some (lW L name).2)\/(lW L name=(-1,0)/\sQ L name=none):=by
 unfold lW sQ;cases h:L.findIdx? fun e=>e.1==name with
 |none=>right;rw[ad6]at h;refine⟨rfl,?_⟩;rw[adW,zI];intro x hx;rw[Bool.not_eq_true];exact h x hx
 |some i=>
  left;dsimp only;rw[ad1]at h;obtain⟨h1,h2,h3⟩:=h;(have e1:L.getD i ([],0)=L[i]:=by rw[gH,gE h1];rfl);(have e2:L[i].1=name:=by simpa using h2);refine⟨i,h1,?_,rfl,?_⟩
  ·unfold vC;rw[e1,<-e2]
  rw[QW];refine⟨L[i],?_,by rw[e1]⟩;rw[List.find?_eq_some_iff_getElem];exact⟨h2,i,h1,rfl,fun j hj=>by simpa using h3 j hj⟩
theorem Z52 {P:Prop} (h:P:=by have:=hp j i (by simpa using hj) (by simpa using hi) h5;simp only[Q3,e1,e2]at this;exact absurd e.symm this):P:=h
theorem Z80 {P:Prop} (h:P:=by have:=hp i j (by simpa using hi) (by simpa using hj) h5;simp only[Q3,e1,e2]at this;exact absurd e this):P:=h
theorem aj1 {L M:wM} (h:L.Perm M) (hn:(M.map (·.1)).Nodup) (name:List UInt8):sQ L name=sQ M name:=by
 have hnL:(L.map (·.1)).Nodup:=(h.map _).nodup_iff.2 hn;have key:∀(A:wM),(A.map (·.1)).Nodup->∀c,sQ A name=some c↔(name,c)∈A:=fun A hA c=>by
  unfold sQ;rw[QW];constructor
  ·rintro⟨x,h1,h2⟩;have h3:=aa6 h1;have h4:=PM h1;(have e:x.1=name:=by simpa using h3);rw[<-e,<-h2];exact h4
  intro hm;cases hf:A.find? fun e=>e.1==name with
  |none=>have:=zI.1 hf _ hm;simp at this
  |some x=>
   have h3:=aa6 hf;have h4:=PM hf;(have e:x.1=name:=by simpa using h3);refine⟨x,rfl,?_⟩;obtain⟨i,hi,e1⟩:=List.mem_iff_getElem.1 h4;obtain⟨j,hj,e2⟩:=List.mem_iff_getElem.1 hm;have hp:=IK.1 hA;rcases ad8 i j with h5|h5|h5
   ·exact Z80
   ·subst h5;rw[e1]at e2;rw[e2]
   exact Z52
 cases hM:sQ M name with
 |some c=>rw[key L hnL];exact h.mem_iff.2 ((key M hn c).1 hM)
 |none=>
  cases hL:sQ L name with
  |none=>rfl
  |some c=>have:=(key M hn c).2 (h.mem_iff.1 ((key L hnL c).1 hL));rw[hM]at this;cases this
def LF (g:LT):Nat->Key->Except Int Nat
 |n,[]=>.ok n
 |n,x::l=>if(g n).kind=1 then(match sQ (g n).bJ x with|some c=>LF g c l|none=>.error 21)else .error 22
def stepG (g:LT) (x:List UInt8) (n:Nat):Except Int Nat:=if(g n).kind=1 then(match sQ (g n).bJ x with|some c=>.ok c|none=>.error 21)else .error 22
theorem UD (g:LT) (x:List UInt8):∀(l:Key) (n:Nat),LF g n (l++[x])=(LF g n l).bind (stepG g x)
 |[],n=>by
  (show LF g n [x]=stepG g x n);unfold LF stepG;split
  ·split<;>rfl
  rfl
 |y::l,n=>by
  rw[pF];unfold LF;split
  ·split
   ·exact UD g x l _
   rfl
  rfl
def atP (g:LT) (b:List UInt8):Except Int Nat->Int×Int×Int
 | .error e=>(0,0,e)
 | .ok m=>if(g m).kind=1 then(match sQ (g m).bJ b with|some c=>((m:Int),(c:Int),0)|none=>((m:Int), -1,0))else(0,0,22)
theorem UE {S:VS} {g:LT} (h:Vol S g) (b:List UInt8):∀(l:Key) (dir n:Nat),n<S.names->bB S.cur S.data dir n (l++[b])=atP g b (LF g n l)
 |[],dir,n,hn=>by
  (show bB S.cur S.data dir n [b]=(if(g n).kind=1 then(match sQ (g n).bJ b with|some c=>((n:Int),(c:Int),(0:Int))|none=>((n:Int),(-1:Int),(0:Int)))else((0:Int),(0:Int),(22:Int))));unfold bB;rw[h.ph.kind hn];by_cases hk:(g n).kind=1
  ·rw[if_pos hk,if_pos hk,h.ph.bJ n hn hk];rcases ES (g n).bJ b with⟨i,_,_,h3,h4⟩|⟨h3,h4⟩
   ·rw[h3,h4,if_pos aD];rfl
   rw[h3,h4,if_neg aQ];rfl
  rw[if_neg hk,if_neg hk]
 |x::l,dir,n,hn=>by
  rw[pF];unfold bB LF;rw[h.ph.kind hn];by_cases hk:(g n).kind=1
  ·rw[if_pos hk,if_pos hk,h.ph.bJ n hn hk];rcases ES (g n).bJ x with⟨i,h1,h2,h3,h4⟩|⟨h3,h4⟩
   ·rw[h3,h4,if_pos aD];refine UE h b l n _ ?_;have:=h.ent n hn _ (QF h1);rw[h2]at this;exact this
   rw[h3,h4,if_neg aQ,if_neg bM];rfl
  rw[if_neg hk,if_neg hk];rfl
theorem xA (p:List UInt8):splitB p=(splitB p).dropLast++[aM p]:=by unfold aM;have h:=jF p;rw[List.getLastD_eq_getLast?,List.getLast?_eq_some_getLast h];exact(List.dropLast_concat_getLast h).symm
structure FT where
 mode:Int
 bs:List UInt8
def bW (n:TN):Key:=splitB n.path
def dD (dn:Key->Nat) (φ:Int->Nat) (n:TN):Nat:=if n.file= -1 then dn (bW n)else φ n.file
def iR (ns:List TN) (K:Key):List TN:=ns.filter fun n=>(bW n).dropLast==K
def fE (ns:List TN) (K:Key):Prop:=K=[]\/∃n∈ns,bW n=K/\n.file= -1
structure nL (g:LT) (nm:Nat) (ns:List TN) (fs:List FT) (dn:Key->Nat) (φ:Int->Nat):Prop where
 n0:0<nm
 root:dn []=0
 rk:(g 0).kind=1
 uniq:(ns.map bW).Nodup
 up:∀n∈ns,fE ns (bW n).dropLast
 dir:∀n∈ns,n.file= -1->dn (bW n)<nm/\(g (dn (bW n))).kind=1/\((g (dn (bW n))).mode:Int)=n.mode/\(g (dn (bW n))).links=1
 file:∀n∈ns,n.file≠ -1->0<=n.file/\φ n.file<nm/\(g (φ n.file)).kind=2/\(∃f,fs[n.file.toNat]? =some f/\((g (φ n.file)).mode:Int)=f.mode/\(g (φ n.file)).data=f.bs)/\(g (φ n.file)).links=ns.countP fun m=>decide (m.file=n.file)
 ne0:∀n∈ns,dD dn φ n≠0
 inj:∀n∈ns,∀m∈ns,dD dn φ n=dD dn φ m->n=m\/(n.file≠ -1/\n.file=m.file)
 cover:∀i<nm,(g i).kind≠0->i=0\/∃n∈ns,dD dn φ n=i
 bJ:∀K,fE ns K->(g (dn K)).bJ.Perm ((iR ns K).map fun n=>((bW n).getLastD [],dD dn φ n))
def kG (ns:List TN) (K:Key):Option TN:=ns.find? fun n=>bW n==K
def jN :Option TN->Bool
 |none=>true
 |some n=>decide (n.file= -1)
def aj3 (dn:Key->Nat) (φ:Int->Nat):Option TN->Nat
 |none=>0
 |some n=>dD dn φ n
def stepT (ns:List TN) (K:Key) (c:Option TN):Except Int (Option TN):=if jN c=true then(match kG ns K with|some n=>.ok (some n)|none=>.error 21)else .error 22
def mQ (ns:List TN):Nat->Key->Except Int (Option TN)
 |0,_=>.ok none
 |k+1,K=>(mQ ns k K.dropLast).bind (stepT ns K)
theorem fF {ns:List TN} {K:Key} {n:TN} (h:kG ns K=some n):n∈ns/\bW n=K:=
 ⟨PM h,by simpa using aa6 h⟩
theorem key_inj {ns:List TN} (h:(ns.map bW).Nodup) {n m:TN} (hn:n∈ns) (hm:m∈ns) (e:bW n=bW m):n=m:=by
 obtain⟨i,hi,e1⟩:=List.mem_iff_getElem.1 hn;obtain⟨j,hj,e2⟩:=List.mem_iff_getElem.1 hm;have hp:=IK.1 h;rcases ad8 i j with h5|h5|h5
 ·exact Z80
 ·subst h5;rw[<-e1,<-e2]
 exact Z52
theorem ZF {ns:List TN} (h:(ns.map bW).Nodup) {n:TN} (hn:n∈ns):kG ns (bW n)=some n:=by
 cases hf:kG ns (bW n)with
 |none=>have:=zI.1 hf n hn;simp at this
 |some m=>obtain⟨h1,h2⟩:=fF hf;rw[key_inj h h1 hn h2]
theorem ab1 (n:TN):bW n≠[]:=jF _
theorem JK (n:TN):bW n=(bW n).dropLast++[(bW n).getLastD []]:=xA n.path
section
variable {g:LT} {nm:Nat} {ns:List TN} {fs:List FT} {dn:Key->Nat} {φ:Int->Nat}
theorem aj4 (h:(ns.map bW).Nodup) (K:Key):(((iR ns K).map fun n=>((bW n).getLastD [],dD dn φ n)).map (·.1)).Nodup:=by
 rw[DR];have h1:((iR ns K).map bW).Nodup:=h.sublist (List.Sublist.map _ Q5);have h2:∀n∈iR ns K,bW n=K++[(bW n).getLastD []]:=fun n hn=>by
  have:=(List.mem_filter.1 hn).2;have e:(bW n).dropLast=K:=by simpa using this
  conv=>lhs;rw[JK n,e]
 rw[ad4,XA]at h1 ⊢;refine ar2 (fun {a b} ha hb hab e=>hab ?_) h1;have e2:(bW a).getLastD []=(bW b).getLastD []:=e;rw[h2 a ha,h2 b hb,e2]
theorem nL.find (h:nL g nm ns fs dn φ) {K:Key} (hK:fE ns K) (b:List UInt8):sQ (g (dn K)).bJ b=(kG ns (K++[b])).map (dD dn φ):=by
 have hu:=aj4 (dn:=dn) (φ:=φ) h.uniq K;rw[aj1 (h.bJ K hK) hu];cases hn:kG ns (K++[b])with
 |some n=>
  obtain⟨h1,h2⟩:=fF hn;have hk:n∈iR ns K:=List.mem_filter.2 ⟨h1,by rw[h2,WY];simp⟩;(have hm:(b,dD dn φ n)∈(iR ns K).map fun n=>((bW n).getLastD [],dD dn φ n):=List.mem_map.2 ⟨n,hk,by rw[h2];simp⟩);unfold sQ;cases hf:((iR ns K).map fun n=>((bW n).getLastD [],dD dn φ n)).find? fun e=>e.1==b with
  |none=>have:=zI.1 hf _ hm;simp at this
  |some x=>have h3:=PM hf;(have h4:x.1=b:=by simpa using aa6 hf);obtain⟨m,hm1,hm2⟩:=List.mem_map.1 h3;(have e1:(bW m).getLastD []=b:=by rw[<-h4,<-hm2]);(have e2:(bW m).dropLast=K:=by simpa using(List.mem_filter.1 hm1).2);(have e3:bW m=bW n:=by rw[h2,JK m,e1,e2]);have:=key_inj h.uniq (List.mem_filter.1 hm1).1 h1 e3;rw[<-hm2,this];rfl
 |none=>unfold sQ;rw[aeE,adW,zI];intro x hx hb;obtain⟨m,hm1,hm2⟩:=List.mem_map.1 hx;(have e1:(bW m).getLastD []=b:=by rw[<-hm2]at hb;simpa using hb);(have e2:(bW m).dropLast=K:=by simpa using(List.mem_filter.1 hm1).2);(have e3:bW m=K++[b]:=by rw[JK m,e1,e2]);have:=zI.1 hn m (List.mem_filter.1 hm1).1;simp[e3]at this
theorem zU (h:nL g nm ns fs dn φ) {K:Key} {c:Option TN} (hc:mQ ns K.length K= .ok c):(c=none/\K=[])\/∃n,c=some n/\n∈ns/\bW n=K:=by
 rcases al3 K with e|⟨l,x,e⟩
 ·subst e;cases hc;exact .inl ⟨rfl,rfl⟩
 rw[al4]at e;subst e;rw[kN,xL]at hc;unfold mQ at hc;cases h1:mQ ns l.length (l++[x]).dropLast with
 |error e=>rw[h1]at hc;cases hc
 |ok d=>
  rw[h1]at hc;change stepT ns (l++[x]) d= .ok c at hc;unfold stepT at hc;split at hc
  ·split at hc
   ·rename_i n hn;cases hc;obtain⟨h2,h3⟩:=fF hn;exact .inr ⟨n,rfl,h2,h3⟩
   cases hc
  cases hc
theorem nL.walk (h:nL g nm ns fs dn φ):∀(k:Nat) (K:Key),K.length=k->LF g 0 K=(mQ ns k K).map (aj3 dn φ)
 |0,K,hl=>by obtain rfl:K=[]:=zC hl;rfl
 |k+1,K,hl=>by
  rcases al3 K with e|⟨l,x,e⟩
  ·subst e;cases hl
  rw[al4]at e;subst e;rw[kN,xL]at hl;(have hlk:l.length=k:=by omega);have ih:=nL.walk h k l hlk;rw[UD,ih];(show _=Except.map (aj3 dn φ) ((mQ ns k (l++[x]).dropLast).bind (stepT ns (l++[x]))));rw[WY];cases h1:mQ ns k l with
  |error e=>rfl
  |ok c=>
   (show stepG g x (aj3 dn φ c)=(stepT ns (l++[x]) c).map (aj3 dn φ));rw[<-hlk]at h1;rcases zU h h1 with⟨rfl,rfl⟩|⟨n,rfl,hn1,hn2⟩
   ·unfold stepG stepT;have hf:=h.find (K:=[]) (.inl rfl) x;rw[h.root]at hf;(show(if(g 0).kind=1 then _ else _)=_);rw[if_pos h.rk,if_pos (show jN none=true from rfl)];(show(match sQ (g 0).bJ x with|some c=>_|none=>_)=_);rw[hf];cases kG ns ([]++[x])<;>rfl
   unfold stepG stepT;(show(if(g (dD dn φ n)).kind=1 then _ else _)=_);by_cases hd:n.file= -1
   ·(have e1:dD dn φ n=dn l:=by unfold dD;rw[if_pos hd,hn2]);have hf:=h.find (K:=l) (.inr ⟨n,hn1,hn2,hd⟩) x;have hk:=(h.dir n hn1 hd).2.1;rw[hn2]at hk;rw[e1,if_pos hk,if_pos (by unfold jN;simp[hd])];(show(match sQ (g (dD dn φ n)).bJ x with|some c=>_|none=>_)=_);rw[e1,hf];cases kG ns (l++[x])<;>rfl
   (have e1:dD dn φ n=φ n.file:=by unfold dD;rw[if_neg hd]);have hk:=(h.file n hn1 hd).2.2.1;rw[e1,if_neg (by rw[hk];decide),if_neg (by unfold jN;simp[hd])];rfl
theorem ND (n:TN) (K:Key):iR (ns++[n]) K=iR ns K++(if(bW n).dropLast=K then [n]else []):=by
 unfold iR;rw[aa3];congr 1;by_cases e:(bW n).dropLast=K
 ·rw[if_pos e];simp[e]
 rw[if_neg e];simp[e]
theorem fE.snoc {K:Key} (h:fE ns K) (n:TN):fE (ns++[n]) K:=by
 rcases h with h|⟨m,hm,h⟩
 ·exact .inl h
 exact .inr ⟨m,G9 _ hm,h⟩
theorem nL.ET (h:nL g nm ns fs dn φ) {K:Key} (hK:fE ns K):dn K<nm/\(g (dn K)).kind=1:=by
 rcases hK with e|⟨n,hn,e,hf⟩
 ·rw[e,h.root];exact⟨h.n0,h.rk⟩
 have:=h.dir n hn hf;rw[e]at this;exact⟨this.1,this.2.1⟩
theorem nL.ab2 (h:nL g nm ns fs dn φ) {K L:Key} (hK:fE ns K) (hL:fE ns L) (e:dn K=dn L):K=L:=by
 have key:∀n∈ns,n.file= -1->dD dn φ n=dn (bW n):=fun n _ hf=>by unfold dD;rw[if_pos hf]
 rcases hK with e1|⟨n,hn,e1,hf1⟩
 ·rcases hL with e2|⟨m,hm,e2,hf2⟩
  ·rw[e1,e2]
  have:=h.ne0 m hm;rw[key m hm hf2,e2,<-e,e1,h.root]at this;exact absurd rfl this
 rcases hL with e2|⟨m,hm,e2,hf2⟩
 ·have:=h.ne0 n hn;rw[key n hn hf1,e1,e,e2,h.root]at this;exact absurd rfl this
 rcases h.inj n hn m hm (by rw[key n hn hf1,key m hm hf2,e1,e2,e])with h1|h1
 ·rw[<-e1,<-e2,h1]
 exact absurd hf1 h1.1
theorem nL.LG (h:nL g nm ns fs dn φ) {n:TN} (hn:n∈ns):dD dn φ n<nm/\((n.file= -1/\(g (dD dn φ n)).kind=1)\/(n.file≠ -1/\(g (dD dn φ n)).kind=2)):=by
 unfold dD;by_cases hf:n.file= -1
 ·rw[if_pos hf];exact⟨(h.dir n hn hf).1,.inl ⟨hf,(h.dir n hn hf).2.1⟩⟩
 rw[if_neg hf];exact⟨(h.file n hn hf).2.1,.inr ⟨hf,(h.file n hn hf).2.2.1⟩⟩
theorem nL.ZG (h:nL g nm ns fs dn φ) {n:TN} (hn:n∈ns) (hf:n.file≠ -1):0<=n.file/\n.file<fs.length:=by obtain⟨h1,_,_,⟨f,h2,_⟩,_⟩:=h.file n hn hf;have:=(gF.1 h2).1;omega
theorem xB {K:Key} (h:kG ns K=none):∀n∈ns,bW n≠K:=fun n hn e=>by have:=zI.1 h n hn;simp[e]at this
theorem nL.ayO (h:nL g nm ns fs dn φ) {K:Key} (hK:K≠[]) (hno:kG ns K=none):iR ns K=[]:=by
 unfold iR;rw[List.filter_eq_nil_iff];intro n hn hk;have e:(bW n).dropLast=K:=by simpa using hk
 rcases h.up n hn with h1|⟨m,hm,h1,_⟩
 ·exact hK (by rw[<-e,h1])
 exact xB hno m hm (by rw[h1,e])
theorem EU {K:Key} (hK:K≠[]):K.dropLast≠K:=fun e=>by have:=congrArg List.length e;rw[ad5]at this;have:0<K.length:=List.length_pos_iff.2 hK;omega
theorem Z10 {P:Prop} (h:P:=by
 by_cases e:P=K
 ·subst e;rw[if_pos (by rw[hk0];exact hPe.symm),<-hd,gd];(show((g d).bJ++[(aM p,i)]).Perm _);rw[<-hd]at hE;refine hE.append ?_;rw[YF,i0,hk0];exact XC _
 rw[if_neg (by rw[hk0,<-hPe];exact e),KD,yX56,go _ (fun e2=>e ?_) (dni K hK')]
 ·exact hE
 exact(h.ab2 hK' hP (by rw[e2,hd])).symm):P:=h
theorem Z67 {P:Prop} (h:P:=by
 intro n hn m hm e;rcases mem n hn with hn|en
 ·rcases mem m hm with hm|em
  ·rw[io n hn,io m hm]at e;exact h.inj n hn m hm e
  (try rw[em]at hf);(try rw[em]at e);(try rw[em]);rw[io n hn,i0]at e;exact absurd e (ni n hn)
 try rw[en]at hf
 try rw[en]at e
 try rw[en]
 rcases mem m hm with hm|em
 ·rw[io m hm,i0]at e;exact absurd e.symm (ni m hm)
 try rw[em]at hf
 try rw[em]at e
 try rw[em]
 exact .inl rfl):P:=h
theorem Z84 {P:Prop} (h:P:=by rw[kT,YF,xM];refine⟨h.uniq,by simp,fun a ha b hb e=>?_⟩;obtain⟨n,hn,e1⟩:=List.mem_map.1 ha;rw[BB]at hb;exact apE n hn (by rw[e1,e,hb,hk0])):P:=h
theorem Z95 {P:Prop} (h:P:=by
 intro m hm hk;by_cases e:m=i
 ·exact .inr ⟨n0,by simp,by rw[i0,e]⟩
 rw[(gk m e).1]at hk;rcases h.cover m hm hk with h1|⟨n,hn,h1⟩
 ·exact .inl h1
 exact .inr ⟨n,G9 _ hn,by rw[io n hn,h1]⟩):P:=h
theorem aCY {P:Prop} (h:P:=by
 by_cases h1:m=d
 ·rw[h1,gd];exact⟨rfl,rfl,rfl,rfl⟩
 rw[go m h1 h2];exact⟨rfl,rfl,rfl,rfl⟩):P:=h
theorem aHZ {P:Prop} (h:P:=by
 rcases hK with e|⟨n,hn,e,hf⟩
 ·exact .inl e
 rcases gX.1 hn with hn|hn
 ·exact .inr ⟨n,hn,e,hf⟩
 rw[BB]at hn;rw[hn]at hf;exact absurd hf hne1):P:=h
theorem aH0 {P:Prop} (h:P:=by
 intro n hn;rcases mem n hn with hn|en
 ·exact(h.up n hn).snoc _
 try rw[en]at hf
 try rw[en]at e
 try rw[en]
 rw[hk0,<-hPe];exact hP.snoc _):P:=h
theorem aH1 {P:Prop} (h:P:=by
 intro n hn;rcases mem n hn with hn|en
 ·rw[io n hn];exact h.ne0 n hn
 try rw[en]at hf
 try rw[en]at e
 try rw[en]
 rw[i0];exact hi0):P:=h
theorem nL.ab3 (h:nL g nm ns fs dn φ) {p:List UInt8} {i mode:Nat} {bs:List UInt8} (hi:i<nm) (h0:(g i).kind=0) (hP:fE ns (splitB p).dropLast) (hno:kG ns (splitB p)=none):
  nL (dS (dS g i ⟨2,mode,1,[],bs⟩) (dn (splitB p).dropLast) ((g (dn (splitB p).dropLast)).more (aM p) i)) nm (ns++[⟨p,fs.length,0⟩]) (fs++[⟨mode,bs⟩]) dn (fun k:Int=>if k=(fs.length:Int)then i else φ k):=by
 obtain⟨P,hPe⟩:∃P,P=(splitB p).dropLast:=⟨_,rfl⟩;rw[<-hPe]at hP ⊢;obtain⟨hd1,hd2⟩:=h.ET hP;obtain⟨d,hd⟩:∃d,d=dn P:=⟨_,rfl⟩;rw[<-hd]at hd1 hd2 ⊢;obtain⟨n0,hn0⟩:∃n0:TN,n0=⟨p,fs.length,0⟩:=⟨_,rfl⟩;have hk0:bW n0=splitB p:=by rw[hn0];rfl
 have hf0:n0.file=fs.length:=by rw[hn0]
 have hne1:n0.file≠ -1:=by rw[hf0];omega
 rw[<-hn0];obtain⟨ψ,hψ⟩:∃ψ:Int->Nat,ψ=fun k:Int=>if k=(fs.length:Int)then i else φ k:=⟨_,rfl⟩
 rw[<-hψ];obtain⟨g',hg'⟩:∃g',g'=dS (dS g i ⟨2,mode,1,[],bs⟩) d ((g d).more (aM p) i):=⟨_,rfl⟩;rw[<-hg'];have hid:i≠d:=fun e=>by rw[e,hd2]at h0;cases h0
 have hi0:i≠0:=fun e=>by rw[e,h.rk]at h0;cases h0
 have gd:g' d=(g d).more (aM p) i:=by rw[hg',bV]
 have gi:g' i=⟨2,mode,1,[],bs⟩:=by rw[hg',bX _ _ hid,bV]
 have go:∀m,m≠d->m≠i->g' m=g m:=fun m h1 h2=>by rw[hg',bX _ _ h1,bX _ _ h2]
 have gk:∀m,m≠i->(g' m).kind=(g m).kind/\(g' m).mode=(g m).mode/\(g' m).links=(g m).links/\(g' m).data=(g m).data:=fun m h2=>by exact aCY
 have ψo:∀n∈ns,n.file≠ -1->ψ n.file=φ n.file:=fun n hn hf=>by rw[hψ];exact if_neg (by have:=(h.ZG hn hf).2;omega)
 have io:∀n∈ns,dD dn ψ n=dD dn φ n:=fun n hn=>by
  unfold dD;by_cases hf:n.file= -1
  ·rw[if_pos hf,if_pos hf]
  rw[if_neg hf,if_neg hf,ψo n hn hf]
 have i0:dD dn ψ n0=i:=by unfold dD;rw[if_neg hne1,hψ];exact if_pos hf0
 have ni:∀n∈ns,dD dn φ n≠i:=fun n hn e=>by rcases(h.LG hn).2 with⟨_,h1⟩|⟨_,h1⟩<;>rw[e,h0]at h1<;>cases h1
 have dni:∀K,fE ns K->dn K≠i:=fun K hK e=>by have:=(h.ET hK).2;rw[e,h0]at this;cases this
 have apE:=xB hno;have XR:∀K,fE (ns++[n0]) K->fE ns K:=fun K hK=>by exact aHZ
 have mem:∀n∈ns++[n0],n∈ns\/n=n0:=fun n hn=>by simpa using hn
 have hnot:∀n∈ns,n.file≠n0.file:=fun n hn e=>by
  by_cases hf:n.file= -1
  ·rw[hf]at e;exact hne1 e.symm
  have:=(h.ZG hn hf).2;omega
 refine⟨h.n0,h.root,?_,?_,?_,?_,?_,?_,?_,?_,?_⟩
 ·rw[(gk 0 (fun e=>hi0 e.symm)).1];exact h.rk
 ·exact Z84
 ·exact aH0
 ·intro n hn hf;rcases mem n hn with hn|en
  ·have h1:=h.dir n hn hf;have h2:=gk (dn (bW n)) (dni _ (.inr ⟨n,hn,rfl,hf⟩));rw[h2.1,h2.2.1,h2.2.2.1];exact h1
  (try rw[en]at hf);(try rw[en]at e);(try rw[en]);exact absurd hf hne1
 ·intro n hn hf;rcases mem n hn with hn|en
  ·obtain⟨h1,h2,h3,⟨f,h4,h5,h6⟩,h7⟩:=h.file n hn hf;have h8:=gk (φ n.file) (fun e=>by rw[e,h0]at h3;cases h3);rw[ψo n hn hf,h8.1,h8.2.1,h8.2.2.1,h8.2.2.2];refine⟨h1,h2,h3,⟨f,?_,h5,h6⟩,?_⟩
   ·rw[G8 (gF.1 h4).1];exact h4
   rw[h7,al8];(have e1:[n0].countP (fun m=>decide (m.file=n.file))=0:=by rw[N9,List.countP_nil];simp only[uP,if_neg (fun e:n0.file=n.file=>hnot n hn e.symm)]);rw[e1];rfl
  (try rw[en]at hf);(try rw[en]at e);(try rw[en]);(have e1:ψ n0.file=i:=by rw[hψ];exact if_pos hf0);rw[e1,gi];refine⟨by rw[hf0];omega,hi,rfl,⟨⟨mode,bs⟩,?_,rfl,rfl⟩,?_⟩
  ·rw[hf0,nA,D6 (jL _),oO];rfl
  rw[al8];(have e2:ns.countP (fun m=>decide (m.file=n0.file))=0:=by rw[List.countP_eq_zero];intro m hm;simp[hnot m hm]);rw[e2,N9,List.countP_nil];simp
 ·exact aH1
 ·exact Z67
 ·exact Z95
 intro K hK;have hK':=XR K hK;rw[ND,kT];have e1:(iR ns K).map (fun n=>((bW n).getLastD [],dD dn ψ n))=(iR ns K).map fun n=>((bW n).getLastD [],dD dn φ n):=
  BA fun n hn=>by rw[io n (List.mem_filter.1 hn).1]
 rw[e1];have hE:=h.bJ K hK';exact Z10
theorem nL.ab4 (h:nL g nm ns fs dn φ) {p:List UInt8} {i mode:Nat} (hi:i<nm) (h0:(g i).kind=0) (hP:fE ns (splitB p).dropLast) (hno:kG ns (splitB p)=none):
  nL (dS (dS g i ⟨1,mode,1,[],[]⟩) (dn (splitB p).dropLast) ((g (dn (splitB p).dropLast)).more (aM p) i)) nm (ns++[⟨p, -1,mode⟩]) fs (fun K=>if K=splitB p then i else dn K) φ:=by
 have hpn:splitB p≠[]:=jF p;obtain⟨P,hPe⟩:∃P,P=(splitB p).dropLast:=⟨_,rfl⟩;rw[<-hPe]at hP ⊢;obtain⟨hd1,hd2⟩:=h.ET hP;obtain⟨d,hd⟩:∃d,d=dn P:=⟨_,rfl⟩;rw[<-hd]at hd1 hd2 ⊢;obtain⟨n0,hn0⟩:∃n0:TN,n0=⟨p, -1,mode⟩:=⟨_,rfl⟩;have hk0:bW n0=splitB p:=by rw[hn0];rfl
 have hf0:n0.file= -1:=by rw[hn0]
 rw[<-hn0];obtain⟨dm,hdm⟩:∃dm:Key->Nat,dm=fun K=>if K=splitB p then i else dn K:=⟨_,rfl⟩
 rw[<-hdm];obtain⟨g',hg'⟩:∃g',g'=dS (dS g i ⟨1,mode,1,[],[]⟩) d ((g d).more (aM p) i):=⟨_,rfl⟩;rw[<-hg'];have hid:i≠d:=fun e=>by rw[e,hd2]at h0;cases h0
 have hi0:i≠0:=fun e=>by rw[e,h.rk]at h0;cases h0
 have gd:g' d=(g d).more (aM p) i:=by rw[hg',bV]
 have gi:g' i=⟨1,mode,1,[],[]⟩:=by rw[hg',bX _ _ hid,bV]
 have go:∀m,m≠d->m≠i->g' m=g m:=fun m h1 h2=>by rw[hg',bX _ _ h1,bX _ _ h2]
 have gk:∀m,m≠i->(g' m).kind=(g m).kind/\(g' m).mode=(g m).mode/\(g' m).links=(g m).links/\(g' m).data=(g m).data:=fun m h2=>by exact aCY
 have apE:=xB hno;have dmo:∀K,K≠splitB p->dm K=dn K:=fun K hK=>by rw[hdm];exact if_neg hK
 have dm0:dm (splitB p)=i:=by rw[hdm];exact if_pos rfl
 have aNR:∀K,fE ns K->K≠splitB p:=fun K hK e=>by
  rcases hK with e1|⟨n,hn,e1,_⟩
  ·exact hpn (by rw[<-e,e1])
  exact apE n hn (by rw[e1,e])
 have io:∀n∈ns,dD dm φ n=dD dn φ n:=fun n hn=>by unfold dD;rw[dmo _ (apE n hn)]
 have i0:dD dm φ n0=i:=by unfold dD;rw[if_pos hf0,hk0,dm0]
 have ni:∀n∈ns,dD dn φ n≠i:=fun n hn e=>by rcases(h.LG hn).2 with⟨_,h1⟩|⟨_,h1⟩<;>rw[e,h0]at h1<;>cases h1
 have dni:∀K,fE ns K->dn K≠i:=fun K hK e=>by have:=(h.ET hK).2;rw[e,h0]at this;cases this
 have XR:∀K,fE (ns++[n0]) K->fE ns K\/K=splitB p:=fun K hK=>by
  rcases hK with e|⟨n,hn,e,hf⟩
  ·exact .inl (.inl e)
  rcases gX.1 hn with hn|hn
  ·exact .inl (.inr ⟨n,hn,e,hf⟩)
  rw[BB]at hn;rw[hn,hk0]at e;exact .inr e.symm
 have mem:∀n∈ns++[n0],n∈ns\/n=n0:=fun n hn=>by simpa using hn
 refine⟨h.n0,by rw[dmo _ (fun e=>hpn e.symm)];exact h.root,?_,?_,?_,?_,?_,?_,?_,?_,?_⟩
 ·rw[(gk 0 (fun e=>hi0 e.symm)).1];exact h.rk
 ·exact Z84
 ·exact aH0
 ·intro n hn hf;rcases mem n hn with hn|en
  ·have h1:=h.dir n hn hf;have h2:=gk (dn (bW n)) (dni _ (.inr ⟨n,hn,rfl,hf⟩));rw[dmo _ (apE n hn),h2.1,h2.2.1,h2.2.2.1];exact h1
  (try rw[en]at hf);(try rw[en]at e);(try rw[en]);rw[hk0,dm0,gi];exact⟨hi,rfl,by rw[hn0],rfl⟩
 ·intro n hn hf;rcases mem n hn with hn|en
  ·obtain⟨h1,h2,h3,h4,h7⟩:=h.file n hn hf;have h8:=gk (φ n.file) (fun e=>by rw[e,h0]at h3;cases h3);rw[h8.1,h8.2.1,h8.2.2.1,h8.2.2.2];refine⟨h1,h2,h3,h4,?_⟩;rw[h7,al8];(have e1:[n0].countP (fun m=>decide (m.file=n.file))=0:=by rw[N9,List.countP_nil];simp only[uP,if_neg (fun e:n0.file=n.file=>hf (by rw[<-e,hf0]))]);rw[e1];rfl
  (try rw[en]at hf);(try rw[en]at e);(try rw[en]);exact absurd hf0 hf
 ·exact aH1
 ·exact Z67
 ·exact Z95
 intro K hK;rw[ND,kT];have e1:(iR ns K).map (fun n=>((bW n).getLastD [],dD dm φ n))=(iR ns K).map fun n=>((bW n).getLastD [],dD dn φ n):=
  BA fun n hn=>by rw[io n (List.mem_filter.1 hn).1]
 rw[e1];rcases XR K hK with hK'|hK'
 ·have hE:=h.bJ K hK';rw[dmo K (aNR K hK')];exact Z10
 rw[hK',dm0,gi,h.ayO hpn hno,if_neg (by rw[hk0];exact EU hpn)];exact List.Perm.nil
end
theorem GJ {F:Nat->Int} {n:Nat} (h:∀i<n,F i=0):uD F n=0:=by
 induction n with
 |zero=>rfl
 |succ n ih=>rw[kZ,ih fun i hi=>h i aD,h n aD];rfl
theorem OZ :∀ {l:List Nat} {F:Nat->Int} {n:Nat},l.Nodup->(∀i∈l,i<n)->(∀i<n,F i≠0->i∈l)->uD F n=(l.map F).sum
 |[],F,n,_,_,hc=>GJ fun i hi=>Classical.byContradiction fun h=>by cases hc i hi h
 |a::t,F,n,hu,hl,hc=>by
  rw[I9]at hu;have ha:a<n:=hl a sK;have h1:=OZ (l:=t) (F:=fun i=>if i=a then 0 else F i) (n:=n) hu.2 (fun i hi=>hl i (AY _ hi)) fun i hi hne=>by
   by_cases e:i=a
   ·simp only[e,if_true]at hne;exact absurd rfl hne
   simp only[if_neg e]at hne;rcases iX.1 (hc i hi hne)with h|h
   ·exact absurd h e
   exact h
  (have h2:=EK (f:=F) (g:=fun i=>if i=a then 0 else F i) ha fun i _ hne=>if_neg hne);(have h3:t.map (fun i=>if i=a then 0 else F i)=t.map F:=BA fun i hi=>if_neg fun e=>hu.1 (by rw[<-e];exact hi));rw[h1,h3]at h2;simp only[if_true]at h2;rw[mH,BD];omega
def iW :List TN->List Int
 |[]=>[]
 |n::t=>if n.file= -1\/n.file∈iW t then iW t else n.file::iW t
theorem nH :∀ {ns:List TN} {k:Int},k∈iW ns↔k≠ -1/\∃n∈ns,n.file=k
 |[],k=>by simp[iW]
 |n::t,k=>by
  unfold iW;by_cases h:n.file= -1\/n.file∈iW t
  ·rw[if_pos h,nH];constructor
   ·rintro⟨h1,m,hm,e⟩;exact⟨h1,m,AY _ hm,e⟩
   rintro⟨h1,m,hm,e⟩;refine⟨h1,?_⟩;rcases iX.1 hm with e2|hm
   ·rw[e2]at e;rcases h with h|h
    ·exact absurd (e.symm.trans h) h1
    rw[e]at h;exact(nH.1 h).2
   exact⟨m,hm,e⟩
  rw[if_neg h,iX,nH];constructor
  ·rintro(h1|⟨h1,m,hm,e⟩)
   ·rw[h1];exact⟨fun e=>h (.inl e),n,sK,rfl⟩
   exact⟨h1,m,AY _ hm,e⟩
  rintro⟨h1,m,hm,e⟩;rcases iX.1 hm with e2|hm
  ·rw[e2]at e;exact .inl e.symm
  exact .inr ⟨h1,m,hm,e⟩
theorem vP :∀(ns:List TN),(iW ns).Nodup
 |[]=>List.nodup_nil
 |n::t=>by
  unfold iW;split
  ·exact vP t
  rename_i h;rw[not_or]at h;exact I9.2 ⟨h.2,vP t⟩
def sS (ns:List TN):List TN:=ns.filter fun n=>decide (n.file= -1)
theorem jO {ns:List TN} {n:TN}:n∈sS ns↔n∈ns/\n.file= -1:=by unfold sS;rw[List.mem_filter,uP]
section
variable {g:LT} {nm:Nat} {ns:List TN} {fs:List FT} {dn:Key->Nat} {φ:Int->Nat}
theorem nL.ayP (h:nL g nm ns fs dn φ) {n m:TN} (hn:n∈ns) (hm:m∈ns) (hf:n.file≠ -1) (hg:m.file≠ -1) (e:φ n.file=φ m.file):n.file=m.file:=by
 rcases h.inj n hn m hm (by unfold dD;rw[if_neg hf,if_neg hg,e])with h1|h1
 ·rw[h1]
 exact h1.2
def UF (ns:List TN) (dn:Key->Nat) (φ:Int->Nat):List Nat:=(0::(sS ns).map fun n=>dn (bW n))++(iW ns).map φ
theorem nL.aNS (h:nL g nm ns fs dn φ):(UF ns dn φ).Nodup/\(∀i∈UF ns dn φ,i<nm)/\∀i<nm,(g i).kind≠0->i∈UF ns dn φ:=by
 have key:∀n∈sS ns,dD dn φ n=dn (bW n):=fun n hn=>by unfold dD;rw[if_pos (jO.1 hn).2]
 have kd:∀n∈sS ns,(g (dn (bW n))).kind=1:=fun n hn=>(h.dir n (jO.1 hn).1 (jO.1 hn).2).2.1
 have kf:∀k∈iW ns,(g (φ k)).kind=2/\φ k<nm:=fun k hk=>by obtain⟨h1,n,hn,e⟩:=nH.1 hk;rw[<-e]at h1 ⊢;exact⟨(h.file n hn h1).2.2.1,(h.file n hn h1).2.1⟩
 refine⟨?_,?_,?_⟩
 ·unfold UF;rw[xM];refine⟨?_,?_,?_⟩
  ·rw[I9];constructor
   ·intro h0;obtain⟨n,hn,e⟩:=List.mem_map.1 h0;refine h.ne0 n (jO.1 hn).1 ?_;rw[key n hn];exact e
   have hu:((sS ns).map bW).Nodup:=h.uniq.sublist (List.Sublist.map _ Q5);rw[ad4,XA]at hu ⊢;refine ar2 (fun {a b} ha hb hab e=>hab ?_) hu;exact h.ab2 (.inr ⟨a,(jO.1 ha).1,rfl,(jO.1 ha).2⟩) (.inr ⟨b,(jO.1 hb).1,rfl,(jO.1 hb).2⟩) e
  ·have hu:=vP ns;rw[ad4]at hu ⊢;rw[XA];refine ar2 (fun {a b} ha hb hab e=>hab ?_) hu;obtain⟨h1,n,hn,e1⟩:=nH.1 ha;obtain⟨h2,m,hm,e2⟩:=nH.1 hb;rw[<-e1]at h1 e ⊢;rw[<-e2]at h2 e ⊢;exact h.ayP hn hm h1 h2 e
  intro a ha b hb e;obtain⟨k,hk,e1⟩:=List.mem_map.1 hb;have hb2:=(kf k hk).1;rw[e1,<-e]at hb2;rcases iX.1 ha with e2|ha
  ·rw[e2,h.rk]at hb2;cases hb2
  obtain⟨n,hn,e3⟩:=List.mem_map.1 ha;have:=kd n hn;have e3':dn (bW n)=a:=e3;rw[e3',hb2]at this;cases this
 ·intro i hi;unfold UF at hi;rcases gX.1 hi with hi|hi
  ·rcases iX.1 hi with e|hi
   ·rw[e];exact h.n0
   obtain⟨n,hn,e⟩:=List.mem_map.1 hi;rw[<-e];exact(h.dir n (jO.1 hn).1 (jO.1 hn).2).1
  obtain⟨k,hk,e⟩:=List.mem_map.1 hi;rw[<-e];exact(kf k hk).2
 intro i hi hk;unfold UF;rw[gX,iX];rcases h.cover i hi hk with e|⟨n,hn,e⟩
 ·exact .inl (.inl e)
 unfold dD at e;by_cases hf:n.file= -1
 ·rw[if_pos hf]at e;exact .inl (.inr (List.mem_map.2 ⟨n,jO.2 ⟨hn,hf⟩,e⟩))
 rw[if_neg hf]at e;exact .inr (List.mem_map.2 ⟨n.file,nH.2 ⟨hf,n,hn,rfl⟩,e⟩)
theorem nL.sum (h:nL g nm ns fs dn φ) (G:LI->Int) (hG:∀x:LI,x.kind=0->G x=0) (hfair:∀i<nm,(g i).fair):
  uD (fun i=>G (g i)) nm=G (g 0)+((sS ns).map fun n=>G (g (dn (bW n)))).sum+((iW ns).map fun k=>G (g (φ k))).sum:=by
 obtain⟨h1,h2,h3⟩:=h.aNS;rw[OZ (F:=fun i=>G (g i)) h1 h2 fun i hi hne=>h3 i hi fun e=>hne (hG _ e)];unfold UF;rw[kT,aeD,mH,BD,DR,DR];rfl
end
theorem UG {S S1:VS} {n:Nat} {bs:List UInt8} (h:jI S n bs=some S1):gI S S1:=by
 unfold jI at h;split at h
 ·cases h
 rename_i S2 l h1;cases h;exact((tL h1).trans (qI bs l 0 S2).like).keep n _
structure Chg (S:VS) (g':LT) (S1:VS):Prop where
 ph:dK S1 g'
 like:gI S S1
 m:S1.m<=40
def p8 (kind mode:Nat) (bs:List UInt8):LI:=⟨kind,mode,1,[],bs⟩
theorem aj6 {kind mode:Nat} {bs:List UInt8} (hk:kind=1/\bs=[]\/kind=2) (hm:mode<65536) (hb:bs.length<=8192):(p8 kind mode bs).fair:=
 ⟨by show kind<=2;omega,fun _=>rfl,fun h=>by rcases hk with hk|hk;exact hk.2;exact absurd hk h,by show 0<=448;omega,hb,hm,by show 1<65536;omega,fun e he=>by cases he⟩
section
variable {S:VS} {g:LT}
theorem dK.GK (h:dK S g) {n:Nat} (hn:nQ S.cur S.names=some n):n<S.names/\(g n).kind=0:=by have h1:=TD hn;refine⟨h1,?_⟩;have h2:=aa6 hn;rw[h.kind h1]at h2;simpa using h2
theorem dK.apF (h:dK S g) (hn:nQ S.cur S.names=none):∀i<S.names,(g i).kind≠0:=fun i hi e=>by have:=zI.1 hn i (List.mem_range.2 hi);rw[h.kind hi,e]at this;exact this rfl
theorem dK.afY (h:dK S g) (hm0:S.m=0) {dir n mode:Nat} {name bs:List UInt8} (hd:dir<S.names) (hk:(g dir).kind=1) (hsz:(g dir).bJ.length<448) (hname:name.length<=15) (hmode:mode<65536) (hbs:bs.length<=8192)
  (hn:nQ S.cur S.names=some n):
  (∀S1,nY S n (⟨2,mode,1,0,[]⟩:VI) bs dir name=some S1->Chg S (dS (dS g n (p8 2 mode bs)) dir ((g dir).more name n)) S1)/\
  (nY S n (⟨2,mode,1,0,[]⟩:VI) bs dir name=none->S.count<qU (dS (dS g n (p8 2 mode bs)) dir ((g dir).more name n)) S.names)/\
  (o7 (S.keep n (⟨2,mode,1,0,[]⟩:VI)) n/\gM (S.keep n (⟨2,mode,1,0,[]⟩:VI))/\∀S2,jI (S.keep n (⟨2,mode,1,0,[]⟩:VI)) n bs=some S2->gI S S2/\qD S2 dir n name/\nG S2):=by
 obtain⟨hn1,hn0⟩:=h.GK hn;have hnd:dir≠n:=fun e=>by rw[e,hn0]at hk;cases hk
 obtain⟨hsp,hA⟩:=h.ayB (n:=n) (mode:=mode) (links:=1) hn1 hn0 hmode aD;obtain⟨SA,LH⟩:∃SA,SA=S.keep n (⟨2,mode,1,0,[]⟩:VI):=⟨_,rfl⟩;rw[<-LH]at hA ⊢;have hLA:gI S SA:=by rw[LH];exact(gI.refl S).keep n _
 have hnA:SA.names=S.names:=hLA.names;have hmA:SA.m=1:=by rw[LH];show S.m+1=1;rw[hm0]
 have apG:n<=65535:=by have:=h.rZ;omega
 have gAn:dS g n ⟨2,mode,1,[],[]⟩ n=⟨2,mode,1,[],[]⟩:=bV _ _ _;obtain⟨hF1,hF2⟩:=hA.fill (n:=n) (bs:=bs) (by rw[hnA];exact hn1) (by rw[gAn]) hbs;have eg:dS (dS g n ⟨2,mode,1,[],[]⟩) n {dS g n ⟨2,mode,1,[],[]⟩ n with data:=bs}=dS g n (p8 2 mode bs):=by rw[gAn];funext i;unfold dS;split<;>rfl
 rw[eg]at hF1 hF2;have gd:dS g n (p8 2 mode bs) dir=g dir:=bX _ _ hnd;have hsA:(aH SA.cur n).aB=[]:=zC (by rw[hA.len n (by rw[hnA];exact hn1),gAn];simp[LI.need]);have hcnt:SA.count=S.count:=hLA.count;have two:∀S2,jI SA n bs=some S2->dK S2 (dS g n (p8 2 mode bs))/\gI S S2/\S2.m<=34:=fun S2 hS2=>by refine⟨hF1 S2 hS2,hLA.trans (UG hS2),?_⟩;have:=aCX hS2;rw[hsA,hmA]at this;simp only[kW]at this;omega
 refine⟨fun S1 hS1=>?_,fun hno=>?_,hA.ZE (by rw[hnA];exact hn1),hA.sw,fun S2 hS2=>?_⟩
 ·unfold nY at hS1;rw[<-LH]at hS1;split at hS1
  ·cases hS1
  rename_i S2 hS2;obtain⟨h2,hL2,hm2⟩:=two S2 hS2;have hE:=(h2.enter (dir:=dir) (n:=n) (name:=name) (by rw[hL2.names];exact hd) (by rw[gd];exact hk) (by rw[gd];exact hsz) hname apG).1 S1 hS1;rw[gd]at hE;refine⟨hE,hL2.trans (xZ hS1),?_⟩;have:=h2.QH (by rw[hL2.names];exact hd) (by rw[gd];exact hk) hS1;omega
 ·unfold nY at hno;rw[<-LH]at hno;split at hno
  ·rename_i hf;have:=hF2 hf;rw[hcnt,hnA]at this;refine YE this ?_;have h1:=zO (g:=dS g n (p8 2 mode bs)) hd ((g dir).more name n);(have h2:(dS g n (p8 2 mode bs) dir).need<=((g dir).more name n).need:=by rw[gd,mP hk,mP (x:=(g dir).more name n) hk];have e:((g dir).more name n).bJ.length=(g dir).bJ.length+1:=kN;rw[e];omega);omega
  rename_i S2 hS2;obtain⟨h2,hL2,hm2⟩:=two S2 hS2;have hE:=(h2.enter (dir:=dir) (n:=n) (name:=name) (by rw[hL2.names];exact hd) (by rw[gd];exact hk) (by rw[gd];exact hsz) hname apG).2 hno;rw[gd,hL2.count,hL2.names]at hE;exact hE
 obtain⟨h2,hL2,hm2⟩:=two S2 hS2;exact⟨hL2,h2.QG (by rw[hL2.names];exact hd) (by rw[gd];exact hk) (by rw[gd];exact hsz) hname apG,h2.sv⟩
theorem O0 (S:VS) (j:Nat) {m:Nat} (hm:m<S.names):aH (iD S j).cur m=aH S.cur m:=by
 unfold aH;show FY (((bk ((S.cur.set 1 _).set (S.data+j) cZ) (2+m/8)).drop (m%8*64)).take 64)=_
 rw[dN _ _ (by unfold VS.data;omega),dN _ _ aD]
theorem apH {x:LI} (hk:x.kind=1) (name:List UInt8) (n:Nat):x.need<=(x.more name n).need:=by rw[mP hk,mP (x:=x.more name n) hk];have e:(x.more name n).bJ.length=x.bJ.length+1:=kN;rw[e];omega
theorem dK.amX (h:dK S g) (hm0:S.m=0) {dir n mode:Nat} {name:List UInt8} (hd:dir<S.names) (hk:(g dir).kind=1) (hsz:(g dir).bJ.length<448) (hname:name.length<=15) (hmode:mode<65536)
  (hn:nQ S.cur S.names=some n):
  (∀j,lH (bk S.cur 1) S.count=some j->
   (∀S1,iN (lY S n (⟨1,mode,1,0,[]⟩:VI) j) dir name n=some S1->Chg S (dS (dS g n (p8 1 mode [])) dir ((g dir).more name n)) S1)/\
   (iN (lY S n (⟨1,mode,1,0,[]⟩:VI) j) dir name n=none->S.count<qU (dS (dS g n (p8 1 mode [])) dir ((g dir).more name n)) S.names)/\
   ((⟨1,mode,1,0,[j]⟩:VI).ok/\o7 (iD S j) n/\gM (iD S j)/\qD (lY S n (⟨1,mode,1,0,[]⟩:VI) j) dir n name/\nG (lY S n (⟨1,mode,1,0,[]⟩:VI) j)))/\
  (lH (bk S.cur 1) S.count=none->S.count<qU (dS (dS g n (p8 1 mode [])) dir ((g dir).more name n)) S.names):=by
 obtain⟨hn1,hn0⟩:=h.GK hn;have hnd:dir≠n:=fun e=>by rw[e,hn0]at hk;cases hk
 have apG:n<=65535:=by have:=h.rZ;omega
 obtain⟨hA,hB⟩:=h.as8 (n:=n) (mode:=mode) (links:=1) hn1 hn0 hmode aD;have gd:dS g n (p8 1 mode []) dir=g dir:=bX _ _ hnd;have hsp:(aH S.cur n).aB=[]:=zC (by rw[h.len n hn1];unfold LI.need;rw[if_neg aD,if_neg aD]);constructor
 ·intro j hj;have h2:=hA j hj;have hj1:=Y5 hj;obtain⟨SA,LH⟩:∃SA,SA=lY S n (⟨1,mode,1,0,[]⟩:VI) j:=⟨_,rfl⟩;rw[<-LH]at h2 ⊢;have h2':dK SA (dS g n (p8 1 mode [])):=h2;(have hL2:gI S SA:=by rw[LH];exact(((gI.refl S).put _ _).put _ _).keep n _);(have hm2:SA.m=3:=by rw[LH];show S.m+1+1+1=3;rw[hm0]);have hE:=h2'.enter (dir:=dir) (n:=n) (name:=name) (by rw[hL2.names];exact hd) (by rw[gd];exact hk) (by rw[gd];exact hsz) hname apG;rw[gd,hL2.count,hL2.names]at hE;refine⟨fun S1 hS1=>⟨hE.1 S1 hS1,hL2.trans (xZ hS1),?_⟩,hE.2,⟨by show 1<256;omega,hmode,by show 1<65536;omega,by show 0<65536;omega,by show 1<=28;omega,fun k hk=>?_⟩,⟨hn1,?_,?_⟩,⟨h.sw.b0,h.sw.b1,h.sw.i0,h.sw.i1⟩,h2'.QG (by rw[hL2.names];exact hd) (by rw[gd];exact hk) (by rw[gd];exact hsz) hname apG,h2'.sv⟩
  ·have:=h2'.QH (by rw[hL2.names];exact hd) (by rw[gd];exact hk) hS1;omega
  ·rw[BB]at hk;rw[hk];exact h.SV hj1
  ·rw[O0 S j hn1,hsp];exact iF _
  rw[O0 S j hn1,hsp];intro s hs;cases hs
 intro hno;have h1:=hB hno;have h2:=zO (g:=dS g n (p8 1 mode [])) hd ((g dir).more name n);rw[gd]at h2;have h3:=apH hk name n;have h4:S.count<qU (dS g n (p8 1 mode [])) S.names:=h1;omega
theorem dK.made (h:dK S g) (hm0:S.m=0) (hr:S.rB=S.count/\S.rI=S.names) {kind dir mode:Nat} {path bs:List UInt8} (hkd:kind=1/\bs=[]\/kind=2) (hd:dir<S.names) (hk:(g dir).kind=1) (hsz:(g dir).bJ.length<448)
  (hv:aU path=true) (hp:path.length<=1048576) (hname:(aM path).length<=15) (hmode:mode<65536) (hbs:bs.length<=8192):
  wX S (⟨kind,mode,1,0,[]⟩:VI) bs dir path/\
  ((nQ S.cur S.names=none/\lT S (⟨kind,mode,1,0,[]⟩:VI) bs dir (aM path)=none)\/
  ∃n,nQ S.cur S.names=some n/\
   (∀S1,lT S (⟨kind,mode,1,0,[]⟩:VI) bs dir (aM path)=some S1->Chg S (dS (dS g n (p8 kind mode bs)) dir ((g dir).more (aM path) n)) S1)/\
   (lT S (⟨kind,mode,1,0,[]⟩:VI) bs dir (aM path)=none->S.count<qU (dS (dS g n (p8 kind mode bs)) dir ((g dir).more (aM path) n)) S.names)):=by
 have aH2:(nQ S.cur S.names=none/\lT S (⟨kind,mode,1,0,[]⟩:VI) bs dir (aM path)=none)\/
  ∃n,nQ S.cur S.names=some n/\
   (∀S1,lT S (⟨kind,mode,1,0,[]⟩:VI) bs dir (aM path)=some S1->Chg S (dS (dS g n (p8 kind mode bs)) dir ((g dir).more (aM path) n)) S1)/\
   (lT S (⟨kind,mode,1,0,[]⟩:VI) bs dir (aM path)=none->S.count<qU (dS (dS g n (p8 kind mode bs)) dir ((g dir).more (aM path) n)) S.names):=by
  rcases hn:nQ S.cur S.names with _|n
  ·exact .inl ⟨rfl,by unfold lT;rw[hn]⟩
  ·refine .inr ⟨n,rfl,?_⟩;rcases hkd with⟨rfl,rfl⟩|rfl
   ·have hD:=h.amX hm0 (name:=aM path) hd hk hsz hname hmode hn;unfold lT;rw[hn];simp only[if_true];rcases hj:lH (bk S.cur 1) S.count with _|j
    ·exact⟨fun S1 e=>(by cases e),fun _=>hD.2 hj⟩
    exact⟨(hD.1 j hj).1,(hD.1 j hj).2.1⟩
   have hF:=h.afY hm0 (name:=aM path) hd hk hsz hname hmode hbs hn;unfold lT;rw[hn];exact⟨hF.1,hF.2.1⟩
 refine⟨⟨h.aHX,h.sw,hv,hp,?_,rfl,?_,hbs,?_,?_,?_⟩,aH2⟩
 ·(show kind=1\/kind=2);omega
 ·exact⟨by show kind<256;omega,hmode,by show 1<65536;omega,by show 0<65536;omega,iF _,fun k hk=>by cases hk⟩
 ·intro n hn hk2;have aNV:kind=2:=hk2;subst aNV;exact(h.afY hm0 (name:=aM path) hd hk hsz hname hmode hbs hn).2.2
 ·intro n j hn hj hk1;have aNW:kind=1:=hk1;subst aNW;exact((h.amX hm0 (name:=aM path) hd hk hsz hname hmode hn).1 j hj).2.2
 ·intro S1 hS1;rcases aH2 with⟨_,h1⟩|⟨n,_,h1,_⟩
  ·rw[h1]at hS1;cases hS1
  have:=h1 S1 hS1;exact dK.LD hr h.use this.like this.ph this.m
end
end Go.Proofs.YteihmbaimbogaaaGreat
