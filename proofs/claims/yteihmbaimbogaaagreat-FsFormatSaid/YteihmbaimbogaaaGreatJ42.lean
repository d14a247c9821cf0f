/- FvI, FvJ, FvO, laid together. -/
import Derived.Test.YteihmbaimbogaaaGreatJ41
namespace Go.Proofs.YteihmbaimbogaaaGreat
set_option linter.unusedVariables false
set_option linter.unusedSimpArgs false
abbrev Key :=List (List UInt8)
def findG (L:Ents) (name:List UInt8):Option Nat:=(L.find? fun e=>e.1==name).map (·.2)
theorem lookE_findG (L:Ents) (name:List UInt8):(∃i,i<L.length∧eat L i=(name,(lookE L name).2)∧(lookE L name).1=(i:Int)∧findG L name=some (lookE L name).2)∨(lookE L name=(-1,0)∧findG L name=none):=by
 unfold lookE findG;cases h:L.findIdx? fun e=>e.1==name with
 |none=>right;rw[List.findIdx?_eq_none_iff]at h;refine⟨rfl,?_⟩;rw[Option.map_eq_none_iff,List.find?_eq_none];intro x hx;rw[Bool.not_eq_true];exact h x hx
 |some i=>
  left;dsimp only;rw[List.findIdx?_eq_some_iff_getElem]at h;obtain⟨h1,h2,h3⟩:=h;(have e1:L.getD i ([],0)=L[i]:=by rw[gH,gE h1];rfl);(have e2:L[i].1=name:=by simpa using h2);refine⟨i,h1,?_,rfl,?_⟩
  ·unfold eat;rw[e1,←e2]
  rw[Option.map_eq_some_iff];refine⟨L[i],?_,by rw[e1]⟩;rw[List.find?_eq_some_iff_getElem];exact⟨h2,i,h1,rfl,fun j hj=>by simpa using h3 j hj⟩
theorem findG_perm {L M:Ents} (h:L.Perm M) (hn:(M.map (·.1)).Nodup) (name:List UInt8):findG L name=findG M name:=by
 have hnL:(L.map (·.1)).Nodup:=(h.map _).nodup_iff.2 hn;have key:∀(A:Ents),(A.map (·.1)).Nodup→∀c,findG A name=some c↔(name,c)∈A:=fun A hA c=>by
  unfold findG;rw[Option.map_eq_some_iff];constructor
  ·rintro⟨x,h1,h2⟩;have h3:=List.find?_some h1;have h4:=List.mem_of_find?_eq_some h1;(have e:x.1=name:=by simpa using h3);rw[←e,←h2];exact h4
  intro hm;cases hf:A.find? fun e=>e.1==name with
  |none=>have:=List.find?_eq_none.1 hf _ hm;simp at this
  |some x=>
   have h3:=List.find?_some hf;have h4:=List.mem_of_find?_eq_some hf;(have e:x.1=name:=by simpa using h3);refine⟨x,rfl,?_⟩;obtain⟨i,hi,e1⟩:=List.mem_iff_getElem.1 h4;obtain⟨j,hj,e2⟩:=List.mem_iff_getElem.1 hm;have hp:=List.pairwise_iff_getElem.1 hA;rcases Nat.lt_trichotomy i j with h5|h5|h5
   ·have:=hp i j (by simpa using hi) (by simpa using hj) h5;simp only[List.getElem_map,e1,e2]at this;exact absurd e this
   ·subst h5;rw[e1]at e2;rw[e2]
   have:=hp j i (by simpa using hj) (by simpa using hi) h5;simp only[List.getElem_map,e1,e2]at this;exact absurd e.symm this
 cases hM:findG M name with
 |some c=>rw[key L hnL];exact h.mem_iff.2 ((key M hn c).1 hM)
 |none=>
  cases hL:findG L name with
  |none=>rfl
  |some c=>have:=(key M hn c).2 (h.mem_iff.1 ((key L hnL c).1 hL));rw[hM]at this;cases this
def walkG (g:LT):Nat→Key→Except Int Nat
 |n,[]=>.ok n
 |n,x::l=>if(g n).kind=1 then(match findG (g n).ents x with|some c=>walkG g c l|none=>.error 21)else .error 22
def stepG (g:LT) (x:List UInt8) (n:Nat):Except Int Nat:=if(g n).kind=1 then(match findG (g n).ents x with|some c=>.ok c|none=>.error 21)else .error 22
theorem walkG_snoc (g:LT) (x:List UInt8):∀(l:Key) (n:Nat),walkG g n (l++[x])=(walkG g n l).bind (stepG g x)
 |[],n=>by
  (show walkG g n [x]=stepG g x n);unfold walkG stepG;split
  ·split<;>rfl
  rfl
 |y::l,n=>by
  rw[List.cons_append];unfold walkG;split
  ·split
   ·exact walkG_snoc g x l _
   rfl
  rfl
def lastG (g:LT) (b:List UInt8):Except Int Nat→Int×Int×Int
 | .error e=>(0,0,e)
 | .ok m=>if(g m).kind=1 then(match findG (g m).ents b with|some c=>((m:Int),(c:Int),0)|none=>((m:Int), -1,0))else(0,0,22)
theorem lookP_walk {S:VS} {g:LT} (h:Vol S g) (b:List UInt8):∀(l:Key) (dir n:Nat),n<S.names→lookP S.cur S.data dir n (l++[b])=lastG g b (walkG g n l)
 |[],dir,n,hn=>by
  (show lookP S.cur S.data dir n [b]=(if(g n).kind=1 then(match findG (g n).ents b with|some c=>((n:Int),(c:Int),(0:Int))|none=>((n:Int),(-1:Int),(0:Int)))else((0:Int),(0:Int),(22:Int))));unfold lookP;rw[h.ph.kind hn];by_cases hk:(g n).kind=1
  ·rw[if_pos hk,if_pos hk,h.ph.ents n hn hk];rcases lookE_findG (g n).ents b with⟨i,_,_,h3,h4⟩|⟨h3,h4⟩
   ·rw[h3,h4,if_pos (by omega)];rfl
   rw[h3,h4,if_neg (by decide)];rfl
  rw[if_neg hk,if_neg hk]
 |x::l,dir,n,hn=>by
  rw[List.cons_append];unfold lookP walkG;rw[h.ph.kind hn];by_cases hk:(g n).kind=1
  ·rw[if_pos hk,if_pos hk,h.ph.ents n hn hk];rcases lookE_findG (g n).ents x with⟨i,h1,h2,h3,h4⟩|⟨h3,h4⟩
   ·rw[h3,h4,if_pos (by omega)];refine lookP_walk h b l n _ ?_;have:=h.ent n hn _ (eat_mem h1);rw[h2]at this;exact this
   rw[h3,h4,if_neg (by decide),if_neg (by simp)];rfl
  rw[if_neg hk,if_neg hk];rfl
theorem split_base (p:List UInt8):splitB p=(splitB p).dropLast++[baseP p]:=by unfold baseP;have h:=splitB_ne p;rw[List.getLastD_eq_getLast?,List.getLast?_eq_some_getLast h];exact(List.dropLast_concat_getLast h).symm
structure FT where
 mode:Int
 bs:List UInt8
def keyN (n:TN):Key:=splitB n.path
def inoN (dn:Key→Nat) (φ:Int→Nat) (n:TN):Nat:=if n.file= -1 then dn (keyN n)else φ n.file
def kidsN (ns:List TN) (K:Key):List TN:=ns.filter fun n=>(keyN n).dropLast==K
def IsDir (ns:List TN) (K:Key):Prop:=K=[]∨∃n∈ns,keyN n=K∧n.file= -1
structure Rep (g:LT) (nm:Nat) (ns:List TN) (fs:List FT) (dn:Key→Nat) (φ:Int→Nat):Prop where
 n0:0<nm
 root:dn []=0
 rk:(g 0).kind=1
 uniq:(ns.map keyN).Nodup
 up:∀n∈ns,IsDir ns (keyN n).dropLast
 dir:∀n∈ns,n.file= -1→dn (keyN n)<nm∧(g (dn (keyN n))).kind=1∧((g (dn (keyN n))).mode:Int)=n.mode∧(g (dn (keyN n))).links=1
 file:∀n∈ns,n.file≠ -1→0≤n.file∧φ n.file<nm∧(g (φ n.file)).kind=2∧(∃f,fs[n.file.toNat]? =some f∧((g (φ n.file)).mode:Int)=f.mode∧(g (φ n.file)).data=f.bs)∧(g (φ n.file)).links=ns.countP fun m=>decide (m.file=n.file)
 ne0:∀n∈ns,inoN dn φ n≠0
 inj:∀n∈ns,∀m∈ns,inoN dn φ n=inoN dn φ m→n=m∨(n.file≠ -1∧n.file=m.file)
 cover:∀i<nm,(g i).kind≠0→i=0∨∃n∈ns,inoN dn φ n=i
 ents:∀K,IsDir ns K→(g (dn K)).ents.Perm ((kidsN ns K).map fun n=>((keyN n).getLastD [],inoN dn φ n))
def nodeK (ns:List TN) (K:Key):Option TN:=ns.find? fun n=>keyN n==K
def isDirO :Option TN→Bool
 |none=>true
 |some n=>decide (n.file= -1)
def inoO (dn:Key→Nat) (φ:Int→Nat):Option TN→Nat
 |none=>0
 |some n=>inoN dn φ n
def stepT (ns:List TN) (K:Key) (c:Option TN):Except Int (Option TN):=if isDirO c=true then(match nodeK ns K with|some n=>.ok (some n)|none=>.error 21)else .error 22
def treeW (ns:List TN):Nat→Key→Except Int (Option TN)
 |0,_=>.ok none
 |k+1,K=>(treeW ns k K.dropLast).bind (stepT ns K)
theorem nodeK_some {ns:List TN} {K:Key} {n:TN} (h:nodeK ns K=some n):n∈ns∧keyN n=K:=
 ⟨List.mem_of_find?_eq_some h,by simpa using List.find?_some h⟩
theorem key_inj {ns:List TN} (h:(ns.map keyN).Nodup) {n m:TN} (hn:n∈ns) (hm:m∈ns) (e:keyN n=keyN m):n=m:=by
 obtain⟨i,hi,e1⟩:=List.mem_iff_getElem.1 hn;obtain⟨j,hj,e2⟩:=List.mem_iff_getElem.1 hm;have hp:=List.pairwise_iff_getElem.1 h;rcases Nat.lt_trichotomy i j with h5|h5|h5
 ·have:=hp i j (by simpa using hi) (by simpa using hj) h5;simp only[List.getElem_map,e1,e2]at this;exact absurd e this
 ·subst h5;rw[←e1,←e2]
 have:=hp j i (by simpa using hj) (by simpa using hi) h5;simp only[List.getElem_map,e1,e2]at this;exact absurd e.symm this
theorem keyN_ne (n:TN):keyN n≠[]:=splitB_ne _
theorem keyN_split (n:TN):keyN n=(keyN n).dropLast++[(keyN n).getLastD []]:=split_base n.path
section
variable {g:LT} {nm:Nat} {ns:List TN} {fs:List FT} {dn:Key→Nat} {φ:Int→Nat}
theorem kids_nodup (h:(ns.map keyN).Nodup) (K:Key):(((kidsN ns K).map fun n=>((keyN n).getLastD [],inoN dn φ n)).map (·.1)).Nodup:=by
 rw[List.map_map];have h1:((kidsN ns K).map keyN).Nodup:=h.sublist (List.Sublist.map _ List.filter_sublist);have h2:∀n∈kidsN ns K,keyN n=K++[(keyN n).getLastD []]:=fun n hn=>by
  have:=(List.mem_filter.1 hn).2;have e:(keyN n).dropLast=K:=by simpa using this
  conv=>lhs;rw[keyN_split n,e]
 rw[List.nodup_iff_pairwise_ne,List.pairwise_map]at h1 ⊢;refine List.Pairwise.imp_of_mem (fun {a b} ha hb hab e=>hab ?_) h1;have e2:(keyN a).getLastD []=(keyN b).getLastD []:=e;rw[h2 a ha,h2 b hb,e2]
theorem Rep.find (h:Rep g nm ns fs dn φ) {K:Key} (hK:IsDir ns K) (b:List UInt8):findG (g (dn K)).ents b=(nodeK ns (K++[b])).map (inoN dn φ):=by
 have hu:=kids_nodup (dn:=dn) (φ:=φ) h.uniq K;rw[findG_perm (h.ents K hK) hu];cases hn:nodeK ns (K++[b])with
 |some n=>
  obtain⟨h1,h2⟩:=nodeK_some hn;have hk:n∈kidsN ns K:=List.mem_filter.2 ⟨h1,by rw[h2,List.dropLast_concat];simp⟩;(have hm:(b,inoN dn φ n)∈(kidsN ns K).map fun n=>((keyN n).getLastD [],inoN dn φ n):=List.mem_map.2 ⟨n,hk,by rw[h2];simp⟩);unfold findG;cases hf:((kidsN ns K).map fun n=>((keyN n).getLastD [],inoN dn φ n)).find? fun e=>e.1==b with
  |none=>have:=List.find?_eq_none.1 hf _ hm;simp at this
  |some x=>have h3:=List.mem_of_find?_eq_some hf;(have h4:x.1=b:=by simpa using List.find?_some hf);obtain⟨m,hm1,hm2⟩:=List.mem_map.1 h3;(have e1:(keyN m).getLastD []=b:=by rw[←h4,←hm2]);(have e2:(keyN m).dropLast=K:=by simpa using(List.mem_filter.1 hm1).2);(have e3:keyN m=keyN n:=by rw[h2,keyN_split m,e1,e2]);have:=key_inj h.uniq (List.mem_filter.1 hm1).1 h1 e3;rw[←hm2,this];rfl
 |none=>unfold findG;rw[Option.map_none,Option.map_eq_none_iff,List.find?_eq_none];intro x hx hb;obtain⟨m,hm1,hm2⟩:=List.mem_map.1 hx;(have e1:(keyN m).getLastD []=b:=by rw[←hm2]at hb;simpa using hb);(have e2:(keyN m).dropLast=K:=by simpa using(List.mem_filter.1 hm1).2);(have e3:keyN m=K++[b]:=by rw[keyN_split m,e1,e2]);have:=List.find?_eq_none.1 hn m (List.mem_filter.1 hm1).1;simp[e3]at this
theorem treeW_dir (h:Rep g nm ns fs dn φ) {K:Key} {c:Option TN} (hc:treeW ns K.length K= .ok c):(c=none∧K=[])∨∃n,c=some n∧n∈ns∧keyN n=K:=by
 rcases List.eq_nil_or_concat K with e|⟨l,x,e⟩
 ·subst e;cases hc;exact .inl ⟨rfl,rfl⟩
 rw[List.concat_eq_append]at e;subst e;rw[List.length_append,List.length_singleton]at hc;unfold treeW at hc;cases h1:treeW ns l.length (l++[x]).dropLast with
 |error e=>rw[h1]at hc;cases hc
 |ok d=>
  rw[h1]at hc;change stepT ns (l++[x]) d= .ok c at hc;unfold stepT at hc;split at hc
  ·split at hc
   ·rename_i n hn;cases hc;obtain⟨h2,h3⟩:=nodeK_some hn;exact .inr ⟨n,rfl,h2,h3⟩
   cases hc
  cases hc
theorem Rep.walk (h:Rep g nm ns fs dn φ):∀(k:Nat) (K:Key),K.length=k→walkG g 0 K=(treeW ns k K).map (inoO dn φ)
 |0,K,hl=>by obtain rfl:K=[]:=List.eq_nil_of_length_eq_zero hl;rfl
 |k+1,K,hl=>by
  rcases List.eq_nil_or_concat K with e|⟨l,x,e⟩
  ·subst e;cases hl
  rw[List.concat_eq_append]at e;subst e;rw[List.length_append,List.length_singleton]at hl;(have hlk:l.length=k:=by omega);have ih:=Rep.walk h k l hlk;rw[walkG_snoc,ih];(show _=Except.map (inoO dn φ) ((treeW ns k (l++[x]).dropLast).bind (stepT ns (l++[x]))));rw[List.dropLast_concat];cases h1:treeW ns k l with
  |error e=>rfl
  |ok c=>
   (show stepG g x (inoO dn φ c)=(stepT ns (l++[x]) c).map (inoO dn φ));rw[←hlk]at h1;rcases treeW_dir h h1 with⟨rfl,rfl⟩|⟨n,rfl,hn1,hn2⟩
   ·unfold stepG stepT;have hf:=h.find (K:=[]) (.inl rfl) x;rw[h.root]at hf;(show(if(g 0).kind=1 then _ else _)=_);rw[if_pos h.rk,if_pos (show isDirO none=true from rfl)];(show(match findG (g 0).ents x with|some c=>_|none=>_)=_);rw[hf];cases nodeK ns ([]++[x])<;>rfl
   unfold stepG stepT;(show(if(g (inoN dn φ n)).kind=1 then _ else _)=_);by_cases hd:n.file= -1
   ·(have e1:inoN dn φ n=dn l:=by unfold inoN;rw[if_pos hd,hn2]);have hf:=h.find (K:=l) (.inr ⟨n,hn1,hn2,hd⟩) x;have hk:=(h.dir n hn1 hd).2.1;rw[hn2]at hk;rw[e1,if_pos hk,if_pos (by unfold isDirO;simp[hd])];(show(match findG (g (inoN dn φ n)).ents x with|some c=>_|none=>_)=_);rw[e1,hf];cases nodeK ns (l++[x])<;>rfl
   (have e1:inoN dn φ n=φ n.file:=by unfold inoN;rw[if_neg hd]);have hk:=(h.file n hn1 hd).2.2.1;rw[e1,if_neg (by rw[hk];decide),if_neg (by unfold isDirO;simp[hd])];rfl
end
section
variable {g:LT} {nm:Nat} {ns:List TN} {fs:List FT} {dn:Key→Nat} {φ:Int→Nat}
theorem kids_snoc (n:TN) (K:Key):kidsN (ns++[n]) K=kidsN ns K++(if(keyN n).dropLast=K then [n]else []):=by
 unfold kidsN;rw[List.filter_append];congr 1;by_cases e:(keyN n).dropLast=K
 ·rw[if_pos e];simp[e]
 rw[if_neg e];simp[e]
theorem IsDir.snoc {K:Key} (h:IsDir ns K) (n:TN):IsDir (ns++[n]) K:=by
 rcases h with h|⟨m,hm,h⟩
 ·exact .inl h
 exact .inr ⟨m,List.mem_append_left _ hm,h⟩
theorem Rep.dirI (h:Rep g nm ns fs dn φ) {K:Key} (hK:IsDir ns K):dn K<nm∧(g (dn K)).kind=1:=by
 rcases hK with e|⟨n,hn,e,hf⟩
 ·rw[e,h.root];exact⟨h.n0,h.rk⟩
 have:=h.dir n hn hf;rw[e]at this;exact⟨this.1,this.2.1⟩
theorem Rep.dn_inj (h:Rep g nm ns fs dn φ) {K L:Key} (hK:IsDir ns K) (hL:IsDir ns L) (e:dn K=dn L):K=L:=by
 have key:∀n∈ns,n.file= -1→inoN dn φ n=dn (keyN n):=fun n _ hf=>by unfold inoN;rw[if_pos hf]
 rcases hK with e1|⟨n,hn,e1,hf1⟩
 ·rcases hL with e2|⟨m,hm,e2,hf2⟩
  ·rw[e1,e2]
  have:=h.ne0 m hm;rw[key m hm hf2,e2,←e,e1,h.root]at this;exact absurd rfl this
 rcases hL with e2|⟨m,hm,e2,hf2⟩
 ·have:=h.ne0 n hn;rw[key n hn hf1,e1,e,e2,h.root]at this;exact absurd rfl this
 rcases h.inj n hn m hm (by rw[key n hn hf1,key m hm hf2,e1,e2,e])with h1|h1
 ·rw[←e1,←e2,h1]
 exact absurd hf1 h1.1
theorem Rep.kindN (h:Rep g nm ns fs dn φ) {n:TN} (hn:n∈ns):inoN dn φ n<nm∧((n.file= -1∧(g (inoN dn φ n)).kind=1)∨(n.file≠ -1∧(g (inoN dn φ n)).kind=2)):=by
 unfold inoN;by_cases hf:n.file= -1
 ·rw[if_pos hf];exact⟨(h.dir n hn hf).1,.inl ⟨hf,(h.dir n hn hf).2.1⟩⟩
 rw[if_neg hf];exact⟨(h.file n hn hf).2.1,.inr ⟨hf,(h.file n hn hf).2.2.1⟩⟩
theorem Rep.lt_fs (h:Rep g nm ns fs dn φ) {n:TN} (hn:n∈ns) (hf:n.file≠ -1):0≤n.file∧n.file<fs.length:=by obtain⟨h1,_,_,⟨f,h2,_⟩,_⟩:=h.file n hn hf;have:=(gF.1 h2).1;omega
theorem nodeK_none {K:Key} (h:nodeK ns K=none):∀n∈ns,keyN n≠K:=fun n hn e=>by have:=List.find?_eq_none.1 h n hn;simp[e]at this
theorem Rep.no_kids (h:Rep g nm ns fs dn φ) {K:Key} (hK:K≠[]) (hno:nodeK ns K=none):kidsN ns K=[]:=by
 unfold kidsN;rw[List.filter_eq_nil_iff];intro n hn hk;have e:(keyN n).dropLast=K:=by simpa using hk
 rcases h.up n hn with h1|⟨m,hm,h1,_⟩
 ·exact hK (by rw[←e,h1])
 exact nodeK_none hno m hm (by rw[h1,e])
theorem key_drop_ne {K:Key} (hK:K≠[]):K.dropLast≠K:=fun e=>by have:=congrArg List.length e;rw[List.length_dropLast]at this;have:0<K.length:=List.length_pos_iff.2 hK;omega
theorem Rep.addFile (h:Rep g nm ns fs dn φ) {p:List UInt8} {i mode:Nat} {bs:List UInt8} (hi:i<nm) (h0:(g i).kind=0) (hP:IsDir ns (splitB p).dropLast) (hno:nodeK ns (splitB p)=none):
  Rep (updT (updT g i ⟨2,mode,1,[],bs⟩) (dn (splitB p).dropLast) ((g (dn (splitB p).dropLast)).more (baseP p) i)) nm (ns++[⟨p,fs.length,0⟩]) (fs++[⟨mode,bs⟩]) dn (fun k:Int=>if k=(fs.length:Int)then i else φ k):=by
 obtain⟨P,hPe⟩:∃P,P=(splitB p).dropLast:=⟨_,rfl⟩;rw[←hPe]at hP ⊢;obtain⟨hd1,hd2⟩:=h.dirI hP;obtain⟨d,hd⟩:∃d,d=dn P:=⟨_,rfl⟩;rw[←hd]at hd1 hd2 ⊢;obtain⟨n0,hn0⟩:∃n0:TN,n0=⟨p,fs.length,0⟩:=⟨_,rfl⟩;have hk0:keyN n0=splitB p:=by rw[hn0];rfl
 have hf0:n0.file=fs.length:=by rw[hn0]
 have hne1:n0.file≠ -1:=by rw[hf0];omega
 rw[←hn0];obtain⟨ψ,hψ⟩:∃ψ:Int→Nat,ψ=fun k:Int=>if k=(fs.length:Int)then i else φ k:=⟨_,rfl⟩
 rw[←hψ];obtain⟨g',hg'⟩:∃g',g'=updT (updT g i ⟨2,mode,1,[],bs⟩) d ((g d).more (baseP p) i):=⟨_,rfl⟩;rw[←hg'];have hid:i≠d:=fun e=>by rw[e,hd2]at h0;cases h0
 have hi0:i≠0:=fun e=>by rw[e,h.rk]at h0;cases h0
 have gd:g' d=(g d).more (baseP p) i:=by rw[hg',updT_same]
 have gi:g' i=⟨2,mode,1,[],bs⟩:=by rw[hg',updT_ne _ _ hid,updT_same]
 have go:∀m,m≠d→m≠i→g' m=g m:=fun m h1 h2=>by rw[hg',updT_ne _ _ h1,updT_ne _ _ h2]
 have gk:∀m,m≠i→(g' m).kind=(g m).kind∧(g' m).mode=(g m).mode∧(g' m).links=(g m).links∧(g' m).data=(g m).data:=fun m h2=>by
  by_cases h1:m=d
  ·rw[h1,gd];exact⟨rfl,rfl,rfl,rfl⟩
  rw[go m h1 h2];exact⟨rfl,rfl,rfl,rfl⟩
 have ψo:∀n∈ns,n.file≠ -1→ψ n.file=φ n.file:=fun n hn hf=>by rw[hψ];exact if_neg (by have:=(h.lt_fs hn hf).2;omega)
 have io:∀n∈ns,inoN dn ψ n=inoN dn φ n:=fun n hn=>by
  unfold inoN;by_cases hf:n.file= -1
  ·rw[if_pos hf,if_pos hf]
  rw[if_neg hf,if_neg hf,ψo n hn hf]
 have i0:inoN dn ψ n0=i:=by unfold inoN;rw[if_neg hne1,hψ];exact if_pos hf0
 have ni:∀n∈ns,inoN dn φ n≠i:=fun n hn e=>by rcases(h.kindN hn).2 with⟨_,h1⟩|⟨_,h1⟩<;>rw[e,h0]at h1<;>cases h1
 have dni:∀K,IsDir ns K→dn K≠i:=fun K hK e=>by have:=(h.dirI hK).2;rw[e,h0]at this;cases this
 have hk0n:=nodeK_none hno;have dirb:∀K,IsDir (ns++[n0]) K→IsDir ns K:=fun K hK=>by
  rcases hK with e|⟨n,hn,e,hf⟩
  ·exact .inl e
  rcases List.mem_append.1 hn with hn|hn
  ·exact .inr ⟨n,hn,e,hf⟩
  rw[List.mem_singleton]at hn;rw[hn]at hf;exact absurd hf hne1
 have mem:∀n∈ns++[n0],n∈ns∨n=n0:=fun n hn=>by simpa using hn
 have hnot:∀n∈ns,n.file≠n0.file:=fun n hn e=>by
  by_cases hf:n.file= -1
  ·rw[hf]at e;exact hne1 e.symm
  have:=(h.lt_fs hn hf).2;omega
 refine⟨h.n0,h.root,?_,?_,?_,?_,?_,?_,?_,?_,?_⟩
 ·rw[(gk 0 (fun e=>hi0 e.symm)).1];exact h.rk
 ·rw[List.map_append,List.map_singleton,List.nodup_append];refine⟨h.uniq,by simp,fun a ha b hb e=>?_⟩;obtain⟨n,hn,e1⟩:=List.mem_map.1 ha;rw[List.mem_singleton]at hb;exact hk0n n hn (by rw[e1,e,hb,hk0])
 ·intro n hn;rcases mem n hn with hn|en
  ·exact(h.up n hn).snoc _
  (try rw[en]at hf);(try rw[en]at e);(try rw[en]);rw[hk0,←hPe];exact hP.snoc _
 ·intro n hn hf;rcases mem n hn with hn|en
  ·have h1:=h.dir n hn hf;have h2:=gk (dn (keyN n)) (dni _ (.inr ⟨n,hn,rfl,hf⟩));rw[h2.1,h2.2.1,h2.2.2.1];exact h1
  (try rw[en]at hf);(try rw[en]at e);(try rw[en]);exact absurd hf hne1
 ·intro n hn hf;rcases mem n hn with hn|en
  ·obtain⟨h1,h2,h3,⟨f,h4,h5,h6⟩,h7⟩:=h.file n hn hf;have h8:=gk (φ n.file) (fun e=>by rw[e,h0]at h3;cases h3);rw[ψo n hn hf,h8.1,h8.2.1,h8.2.2.1,h8.2.2.2];refine⟨h1,h2,h3,⟨f,?_,h5,h6⟩,?_⟩
   ·rw[List.getElem?_append_left (gF.1 h4).1];exact h4
   rw[h7,List.countP_append];(have e1:[n0].countP (fun m=>decide (m.file=n.file))=0:=by rw[List.countP_cons,List.countP_nil];simp only[decide_eq_true_eq,if_neg (fun e:n0.file=n.file=>hnot n hn e.symm)]);rw[e1];rfl
  (try rw[en]at hf);(try rw[en]at e);(try rw[en]);(have e1:ψ n0.file=i:=by rw[hψ];exact if_pos hf0);rw[e1,gi];refine⟨by rw[hf0];omega,hi,rfl,⟨⟨mode,bs⟩,?_,rfl,rfl⟩,?_⟩
  ·rw[hf0,Int.toNat_natCast,List.getElem?_append_right (Nat.le_refl _),Nat.sub_self];rfl
  rw[List.countP_append];(have e2:ns.countP (fun m=>decide (m.file=n0.file))=0:=by rw[List.countP_eq_zero];intro m hm;simp[hnot m hm]);rw[e2,List.countP_cons,List.countP_nil];simp
 ·intro n hn;rcases mem n hn with hn|en
  ·rw[io n hn];exact h.ne0 n hn
  (try rw[en]at hf);(try rw[en]at e);(try rw[en]);rw[i0];exact hi0
 ·intro n hn m hm e;rcases mem n hn with hn|en
  ·rcases mem m hm with hm|em
   ·rw[io n hn,io m hm]at e;exact h.inj n hn m hm e
   (try rw[em]at hf);(try rw[em]at e);(try rw[em]);rw[io n hn,i0]at e;exact absurd e (ni n hn)
  (try rw[en]at hf);(try rw[en]at e);(try rw[en]);rcases mem m hm with hm|em
  ·rw[io m hm,i0]at e;exact absurd e.symm (ni m hm)
  (try rw[em]at hf);(try rw[em]at e);(try rw[em]);exact .inl rfl
 ·intro m hm hk;by_cases e:m=i
  ·exact .inr ⟨n0,by simp,by rw[i0,e]⟩
  rw[(gk m e).1]at hk;rcases h.cover m hm hk with h1|⟨n,hn,h1⟩
  ·exact .inl h1
  exact .inr ⟨n,List.mem_append_left _ hn,by rw[io n hn,h1]⟩
 intro K hK;have hK':=dirb K hK;rw[kids_snoc,List.map_append];have e1:(kidsN ns K).map (fun n=>((keyN n).getLastD [],inoN dn ψ n))=(kidsN ns K).map fun n=>((keyN n).getLastD [],inoN dn φ n):=
  List.map_congr_left fun n hn=>by rw[io n (List.mem_filter.1 hn).1]
 rw[e1];have hE:=h.ents K hK';by_cases e:P=K
 ·subst e;rw[if_pos (by rw[hk0];exact hPe.symm),←hd,gd];(show((g d).ents++[(baseP p,i)]).Perm _);rw[←hd]at hE;refine hE.append ?_;rw[List.map_singleton,i0,hk0];exact List.Perm.refl _
 rw[if_neg (by rw[hk0,←hPe];exact e),List.map_nil,List.append_nil,go _ (fun e2=>e ?_) (dni K hK')]
 ·exact hE
 exact(h.dn_inj hK' hP (by rw[e2,hd])).symm
theorem Rep.addDir (h:Rep g nm ns fs dn φ) {p:List UInt8} {i mode:Nat} (hi:i<nm) (h0:(g i).kind=0) (hP:IsDir ns (splitB p).dropLast) (hno:nodeK ns (splitB p)=none):
  Rep (updT (updT g i ⟨1,mode,1,[],[]⟩) (dn (splitB p).dropLast) ((g (dn (splitB p).dropLast)).more (baseP p) i)) nm (ns++[⟨p, -1,mode⟩]) fs (fun K=>if K=splitB p then i else dn K) φ:=by
 have hpn:splitB p≠[]:=splitB_ne p;obtain⟨P,hPe⟩:∃P,P=(splitB p).dropLast:=⟨_,rfl⟩;rw[←hPe]at hP ⊢;obtain⟨hd1,hd2⟩:=h.dirI hP;obtain⟨d,hd⟩:∃d,d=dn P:=⟨_,rfl⟩;rw[←hd]at hd1 hd2 ⊢;obtain⟨n0,hn0⟩:∃n0:TN,n0=⟨p, -1,mode⟩:=⟨_,rfl⟩;have hk0:keyN n0=splitB p:=by rw[hn0];rfl
 have hf0:n0.file= -1:=by rw[hn0]
 rw[←hn0];obtain⟨dm,hdm⟩:∃dm:Key→Nat,dm=fun K=>if K=splitB p then i else dn K:=⟨_,rfl⟩
 rw[←hdm];obtain⟨g',hg'⟩:∃g',g'=updT (updT g i ⟨1,mode,1,[],[]⟩) d ((g d).more (baseP p) i):=⟨_,rfl⟩;rw[←hg'];have hid:i≠d:=fun e=>by rw[e,hd2]at h0;cases h0
 have hi0:i≠0:=fun e=>by rw[e,h.rk]at h0;cases h0
 have gd:g' d=(g d).more (baseP p) i:=by rw[hg',updT_same]
 have gi:g' i=⟨1,mode,1,[],[]⟩:=by rw[hg',updT_ne _ _ hid,updT_same]
 have go:∀m,m≠d→m≠i→g' m=g m:=fun m h1 h2=>by rw[hg',updT_ne _ _ h1,updT_ne _ _ h2]
 have gk:∀m,m≠i→(g' m).kind=(g m).kind∧(g' m).mode=(g m).mode∧(g' m).links=(g m).links∧(g' m).data=(g m).data:=fun m h2=>by
  by_cases h1:m=d
  ·rw[h1,gd];exact⟨rfl,rfl,rfl,rfl⟩
  rw[go m h1 h2];exact⟨rfl,rfl,rfl,rfl⟩
 have hk0n:=nodeK_none hno;have dmo:∀K,K≠splitB p→dm K=dn K:=fun K hK=>by rw[hdm];exact if_neg hK
 have dm0:dm (splitB p)=i:=by rw[hdm];exact if_pos rfl
 have dird:∀K,IsDir ns K→K≠splitB p:=fun K hK e=>by
  rcases hK with e1|⟨n,hn,e1,_⟩
  ·exact hpn (by rw[←e,e1])
  exact hk0n n hn (by rw[e1,e])
 have io:∀n∈ns,inoN dm φ n=inoN dn φ n:=fun n hn=>by unfold inoN;rw[dmo _ (hk0n n hn)]
 have i0:inoN dm φ n0=i:=by unfold inoN;rw[if_pos hf0,hk0,dm0]
 have ni:∀n∈ns,inoN dn φ n≠i:=fun n hn e=>by rcases(h.kindN hn).2 with⟨_,h1⟩|⟨_,h1⟩<;>rw[e,h0]at h1<;>cases h1
 have dni:∀K,IsDir ns K→dn K≠i:=fun K hK e=>by have:=(h.dirI hK).2;rw[e,h0]at this;cases this
 have dirb:∀K,IsDir (ns++[n0]) K→IsDir ns K∨K=splitB p:=fun K hK=>by
  rcases hK with e|⟨n,hn,e,hf⟩
  ·exact .inl (.inl e)
  rcases List.mem_append.1 hn with hn|hn
  ·exact .inl (.inr ⟨n,hn,e,hf⟩)
  rw[List.mem_singleton]at hn;rw[hn,hk0]at e;exact .inr e.symm
 have mem:∀n∈ns++[n0],n∈ns∨n=n0:=fun n hn=>by simpa using hn
 refine⟨h.n0,by rw[dmo _ (fun e=>hpn e.symm)];exact h.root,?_,?_,?_,?_,?_,?_,?_,?_,?_⟩
 ·rw[(gk 0 (fun e=>hi0 e.symm)).1];exact h.rk
 ·rw[List.map_append,List.map_singleton,List.nodup_append];refine⟨h.uniq,by simp,fun a ha b hb e=>?_⟩;obtain⟨n,hn,e1⟩:=List.mem_map.1 ha;rw[List.mem_singleton]at hb;exact hk0n n hn (by rw[e1,e,hb,hk0])
 ·intro n hn;rcases mem n hn with hn|en
  ·exact(h.up n hn).snoc _
  (try rw[en]at hf);(try rw[en]at e);(try rw[en]);rw[hk0,←hPe];exact hP.snoc _
 ·intro n hn hf;rcases mem n hn with hn|en
  ·have h1:=h.dir n hn hf;have h2:=gk (dn (keyN n)) (dni _ (.inr ⟨n,hn,rfl,hf⟩));rw[dmo _ (hk0n n hn),h2.1,h2.2.1,h2.2.2.1];exact h1
  (try rw[en]at hf);(try rw[en]at e);(try rw[en]);rw[hk0,dm0,gi];exact⟨hi,rfl,by rw[hn0],rfl⟩
 ·intro n hn hf;rcases mem n hn with hn|en
  ·obtain⟨h1,h2,h3,h4,h7⟩:=h.file n hn hf;have h8:=gk (φ n.file) (fun e=>by rw[e,h0]at h3;cases h3);rw[h8.1,h8.2.1,h8.2.2.1,h8.2.2.2];refine⟨h1,h2,h3,h4,?_⟩;rw[h7,List.countP_append];(have e1:[n0].countP (fun m=>decide (m.file=n.file))=0:=by rw[List.countP_cons,List.countP_nil];simp only[decide_eq_true_eq,if_neg (fun e:n0.file=n.file=>hf (by rw[←e,hf0]))]);rw[e1];rfl
  (try rw[en]at hf);(try rw[en]at e);(try rw[en]);exact absurd hf0 hf
 ·intro n hn;rcases mem n hn with hn|en
  ·rw[io n hn];exact h.ne0 n hn
  (try rw[en]at hf);(try rw[en]at e);(try rw[en]);rw[i0];exact hi0
 ·intro n hn m hm e;rcases mem n hn with hn|en
  ·rcases mem m hm with hm|em
   ·rw[io n hn,io m hm]at e;exact h.inj n hn m hm e
   (try rw[em]at hf);(try rw[em]at e);(try rw[em]);rw[io n hn,i0]at e;exact absurd e (ni n hn)
  (try rw[en]at hf);(try rw[en]at e);(try rw[en]);rcases mem m hm with hm|em
  ·rw[io m hm,i0]at e;exact absurd e.symm (ni m hm)
  (try rw[em]at hf);(try rw[em]at e);(try rw[em]);exact .inl rfl
 ·intro m hm hk;by_cases e:m=i
  ·exact .inr ⟨n0,by simp,by rw[i0,e]⟩
  rw[(gk m e).1]at hk;rcases h.cover m hm hk with h1|⟨n,hn,h1⟩
  ·exact .inl h1
  exact .inr ⟨n,List.mem_append_left _ hn,by rw[io n hn,h1]⟩
 intro K hK;rw[kids_snoc,List.map_append];have e1:(kidsN ns K).map (fun n=>((keyN n).getLastD [],inoN dm φ n))=(kidsN ns K).map fun n=>((keyN n).getLastD [],inoN dn φ n):=
  List.map_congr_left fun n hn=>by rw[io n (List.mem_filter.1 hn).1]
 rw[e1];rcases dirb K hK with hK'|hK'
 ·have hE:=h.ents K hK';rw[dmo K (dird K hK')];by_cases e:P=K
  ·subst e;rw[if_pos (by rw[hk0];exact hPe.symm),←hd,gd];(show((g d).ents++[(baseP p,i)]).Perm _);rw[←hd]at hE;refine hE.append ?_;rw[List.map_singleton,i0,hk0];exact List.Perm.refl _
  rw[if_neg (by rw[hk0,←hPe];exact e),List.map_nil,List.append_nil,go _ (fun e2=>e ?_) (dni K hK')]
  ·exact hE
  exact(h.dn_inj hK' hP (by rw[e2,hd])).symm
 rw[hK',dm0,gi,h.no_kids hpn hno,if_neg (by rw[hk0];exact key_drop_ne hpn)];exact List.Perm.nil
end
theorem sumN_zero {F:Nat→Int} {n:Nat} (h:∀i<n,F i=0):sumN F n=0:=by
 induction n with
 |zero=>rfl
 |succ n ih=>rw[sumN_succ,ih fun i hi=>h i (by omega),h n (by omega)];rfl
theorem sum_support :∀ {l:List Nat} {F:Nat→Int} {n:Nat},l.Nodup→(∀i∈l,i<n)→(∀i<n,F i≠0→i∈l)→sumN F n=(l.map F).sum
 |[],F,n,_,_,hc=>sumN_zero fun i hi=>Classical.byContradiction fun h=>by cases hc i hi h
 |a::t,F,n,hu,hl,hc=>by
  rw[List.nodup_cons]at hu;have ha:a<n:=hl a List.mem_cons_self;have h1:=sum_support (l:=t) (F:=fun i=>if i=a then 0 else F i) (n:=n) hu.2 (fun i hi=>hl i (List.mem_cons_of_mem _ hi)) fun i hi hne=>by
   by_cases e:i=a
   ·simp only[e,if_true]at hne;exact absurd rfl hne
   simp only[if_neg e]at hne;rcases List.mem_cons.1 (hc i hi hne)with h|h
   ·exact absurd h e
   exact h
  (have h2:=sumN_upd (f:=F) (g:=fun i=>if i=a then 0 else F i) ha fun i _ hne=>if_neg hne);(have h3:t.map (fun i=>if i=a then 0 else F i)=t.map F:=List.map_congr_left fun i hi=>if_neg fun e=>hu.1 (by rw[←e];exact hi));rw[h1,h3]at h2;simp only[if_true]at h2;rw[List.map_cons,List.sum_cons];omega
def filesN :List TN→List Int
 |[]=>[]
 |n::t=>if n.file= -1∨n.file∈filesN t then filesN t else n.file::filesN t
theorem mem_filesN :∀ {ns:List TN} {k:Int},k∈filesN ns↔k≠ -1∧∃n∈ns,n.file=k
 |[],k=>by simp[filesN]
 |n::t,k=>by
  unfold filesN;by_cases h:n.file= -1∨n.file∈filesN t
  ·rw[if_pos h,mem_filesN];constructor
   ·rintro⟨h1,m,hm,e⟩;exact⟨h1,m,List.mem_cons_of_mem _ hm,e⟩
   rintro⟨h1,m,hm,e⟩;refine⟨h1,?_⟩;rcases List.mem_cons.1 hm with e2|hm
   ·rw[e2]at e;rcases h with h|h
    ·exact absurd (e.symm.trans h) h1
    rw[e]at h;exact(mem_filesN.1 h).2
   exact⟨m,hm,e⟩
  rw[if_neg h,List.mem_cons,mem_filesN];constructor
  ·rintro(h1|⟨h1,m,hm,e⟩)
   ·rw[h1];exact⟨fun e=>h (.inl e),n,List.mem_cons_self,rfl⟩
   exact⟨h1,m,List.mem_cons_of_mem _ hm,e⟩
  rintro⟨h1,m,hm,e⟩;rcases List.mem_cons.1 hm with e2|hm
  ·rw[e2]at e;exact .inl e.symm
  exact .inr ⟨h1,m,hm,e⟩
theorem filesN_nodup :∀(ns:List TN),(filesN ns).Nodup
 |[]=>List.nodup_nil
 |n::t=>by
  unfold filesN;split
  ·exact filesN_nodup t
  rename_i h;rw[not_or]at h;exact List.nodup_cons.2 ⟨h.2,filesN_nodup t⟩
def dirsN (ns:List TN):List TN:=ns.filter fun n=>decide (n.file= -1)
theorem mem_dirsN {ns:List TN} {n:TN}:n∈dirsN ns↔n∈ns∧n.file= -1:=by unfold dirsN;rw[List.mem_filter,decide_eq_true_eq]
section
variable {g:LT} {nm:Nat} {ns:List TN} {fs:List FT} {dn:Key→Nat} {φ:Int→Nat}
theorem Rep.phi_inj (h:Rep g nm ns fs dn φ) {n m:TN} (hn:n∈ns) (hm:m∈ns) (hf:n.file≠ -1) (hg:m.file≠ -1) (e:φ n.file=φ m.file):n.file=m.file:=by
 rcases h.inj n hn m hm (by unfold inoN;rw[if_neg hf,if_neg hg,e])with h1|h1
 ·rw[h1]
 exact h1.2
def inosN (ns:List TN) (dn:Key→Nat) (φ:Int→Nat):List Nat:=(0::(dirsN ns).map fun n=>dn (keyN n))++(filesN ns).map φ
theorem Rep.inos (h:Rep g nm ns fs dn φ):(inosN ns dn φ).Nodup∧(∀i∈inosN ns dn φ,i<nm)∧∀i<nm,(g i).kind≠0→i∈inosN ns dn φ:=by
 have key:∀n∈dirsN ns,inoN dn φ n=dn (keyN n):=fun n hn=>by unfold inoN;rw[if_pos (mem_dirsN.1 hn).2]
 have kd:∀n∈dirsN ns,(g (dn (keyN n))).kind=1:=fun n hn=>(h.dir n (mem_dirsN.1 hn).1 (mem_dirsN.1 hn).2).2.1
 have kf:∀k∈filesN ns,(g (φ k)).kind=2∧φ k<nm:=fun k hk=>by obtain⟨h1,n,hn,e⟩:=mem_filesN.1 hk;rw[←e]at h1 ⊢;exact⟨(h.file n hn h1).2.2.1,(h.file n hn h1).2.1⟩
 refine⟨?_,?_,?_⟩
 ·unfold inosN;rw[List.nodup_append];refine⟨?_,?_,?_⟩
  ·rw[List.nodup_cons];constructor
   ·intro h0;obtain⟨n,hn,e⟩:=List.mem_map.1 h0;refine h.ne0 n (mem_dirsN.1 hn).1 ?_;rw[key n hn];exact e
   have hu:((dirsN ns).map keyN).Nodup:=h.uniq.sublist (List.Sublist.map _ List.filter_sublist);rw[List.nodup_iff_pairwise_ne,List.pairwise_map]at hu ⊢;refine List.Pairwise.imp_of_mem (fun {a b} ha hb hab e=>hab ?_) hu;exact h.dn_inj (.inr ⟨a,(mem_dirsN.1 ha).1,rfl,(mem_dirsN.1 ha).2⟩) (.inr ⟨b,(mem_dirsN.1 hb).1,rfl,(mem_dirsN.1 hb).2⟩) e
  ·have hu:=filesN_nodup ns;rw[List.nodup_iff_pairwise_ne]at hu ⊢;rw[List.pairwise_map];refine List.Pairwise.imp_of_mem (fun {a b} ha hb hab e=>hab ?_) hu;obtain⟨h1,n,hn,e1⟩:=mem_filesN.1 ha;obtain⟨h2,m,hm,e2⟩:=mem_filesN.1 hb;rw[←e1]at h1 e ⊢;rw[←e2]at h2 e ⊢;exact h.phi_inj hn hm h1 h2 e
  intro a ha b hb e;obtain⟨k,hk,e1⟩:=List.mem_map.1 hb;have hb2:=(kf k hk).1;rw[e1,←e]at hb2;rcases List.mem_cons.1 ha with e2|ha
  ·rw[e2,h.rk]at hb2;cases hb2
  obtain⟨n,hn,e3⟩:=List.mem_map.1 ha;have:=kd n hn;have e3':dn (keyN n)=a:=e3;rw[e3',hb2]at this;cases this
 ·intro i hi;unfold inosN at hi;rcases List.mem_append.1 hi with hi|hi
  ·rcases List.mem_cons.1 hi with e|hi
   ·rw[e];exact h.n0
   obtain⟨n,hn,e⟩:=List.mem_map.1 hi;rw[←e];exact(h.dir n (mem_dirsN.1 hn).1 (mem_dirsN.1 hn).2).1
  obtain⟨k,hk,e⟩:=List.mem_map.1 hi;rw[←e];exact(kf k hk).2
 intro i hi hk;unfold inosN;rw[List.mem_append,List.mem_cons];rcases h.cover i hi hk with e|⟨n,hn,e⟩
 ·exact .inl (.inl e)
 unfold inoN at e;by_cases hf:n.file= -1
 ·rw[if_pos hf]at e;exact .inl (.inr (List.mem_map.2 ⟨n,mem_dirsN.2 ⟨hn,hf⟩,e⟩))
 rw[if_neg hf]at e;exact .inr (List.mem_map.2 ⟨n.file,mem_filesN.2 ⟨hf,n,hn,rfl⟩,e⟩)
theorem Rep.sum (h:Rep g nm ns fs dn φ) (G:LI→Int) (hG:∀x:LI,x.kind=0→G x=0) (hfair:∀i<nm,(g i).fair):
  sumN (fun i=>G (g i)) nm=G (g 0)+((dirsN ns).map fun n=>G (g (dn (keyN n)))).sum+((filesN ns).map fun k=>G (g (φ k))).sum:=by
 obtain⟨h1,h2,h3⟩:=h.inos;rw[sum_support (F:=fun i=>G (g i)) h1 h2 fun i hi hne=>h3 i hi fun e=>hne (hG _ e)];unfold inosN;rw[List.map_append,List.sum_append,List.map_cons,List.sum_cons,List.map_map,List.map_map];rfl
end
end Go.Proofs.YteihmbaimbogaaaGreat
