/- QTreeF, QTreeG, QLooseG, QLooseA, QLooseP, QRefName, QRefSplit, QDocP, QRefValid, laid together. -/
import Derived.Test.YteihmbaimbogaaaGreatJ38
namespace Go.Proofs.YteihmbaimbogaaaGreat
open Go.RowKit Go.Shelf
set_option linter.unusedVariables false
theorem abW {α:Type} (f:α→List Value) (m:Nat) (hf:∀x,(f x).length=m) (xs:List α):(xs.flatMap f).length=xs.length*m:=by
 induction xs with
 |nil=>simp
 |cons x xs ih=>rw[List.flatMap_cons,List.length_append,ih,hf,List.length_cons,Nat.add_mul,Nat.one_mul,Nat.add_comm]
theorem TY {α:Type} (f:α→List Value) (m:Nat) (hf:∀x,(f x).length=m) {xs:List α} {i:Nat} {x:α} (h:xs[i]? =some x) (j:Nat) (hj:j<m):(xs.flatMap f)[i*m+j]? =(f x)[j]? :=by
 induction xs generalizing i with
 |nil=>simp at h
 |cons y xs ih=>
  rw[List.flatMap_cons];cases i with
  |zero=>simp at h;subst h;rw[Nat.zero_mul,Nat.zero_add,List.getElem?_append_left (by rw[hf];exact hj)]
  |succ i=>(have e:(i+1)*m+j-(f y).length=i*m+j:=by rw[hf,Nat.add_mul];omega);rw[List.getElem?_append_right (by rw[hf,Nat.add_mul];omega),e];exact ih (by simpa using h)
theorem WW {w:World} {ad:Addr} {u:Value} (h:w.cell? ad=some u):ad.spot=none:=by
 unfold World.cell? at h;split at h
 ·split at h
  ·cases h
  rename_i hs;cases hb:ad.spot with
  |none=>rfl
  |some s=>rw[hb]at hs;simp at hs
 cases h
theorem Rd.place {w:World} {sz n:Nat} {v:Value} {cs:List Value} (h:Rd w sz v n cs) (h0:0<n) (hsz:0<sz):
  ∃g o c,v= .slice (some ⟨g,o,none⟩) n c∧n≤c∧c≤maxLen∧g<w.heap.size∧∀w',Below w.heap.size w w'→∀j,j<n*sz→w'.cell? ⟨g,o+j,none⟩=cs[j]? :=by
 obtain⟨hl,A,c,rfl,h1,h2,h3⟩:=h;obtain⟨ad,rfl,hb,hc⟩:=h3 h0;have hpos:0<cs.length:=by rw[hl];exact Nat.mul_pos h0 hsz
 have hsp:ad.spot=none:=by have h4:=hc 0 _ (gE hpos);rw[add_zero']at h4;exact WW h4
 obtain⟨g,o,s⟩:=ad;simp only at hsp;subst hsp;refine⟨g,o,c,rfl,h1,h2,hb,fun w' hw' j hj=>?_⟩;have hj':j<cs.length:=by rw[hl];exact hj
 have h4:=hc j _ (gE hj');rw[Addr.add_lit]at h4;rw[gE hj',←h4];exact hw'.cell hb
def axL (cs:List Value) (bs:List UInt8):Prop:=(∀u∈cs,u.oneCell'=true)∧cs=bs.map jP
def lK (w:World) (v:Value) (n:Nat) (bs:List UInt8):Prop:=∃cs,Rd w 1 v n cs∧axL cs bs
theorem lK.below {w w':World} {v:Value} {n:Nat} {bs:List UInt8} (h:lK w v n bs) (hb:Below w.heap.size w w'):lK w' v n bs:=by obtain⟨cs,h1,h2⟩:=h;exact⟨cs,h1.below hb,h2⟩
theorem lK.shape {w:World} {v:Value} {n:Nat} {bs:List UInt8} (h:lK w v n bs):∃A c,v= .slice A n c∧n≤maxLen:=by obtain⟨cs,h1,_⟩:=h;exact h1.shape
structure TF where
 mode:Int
 bs:List UInt8
deriving DecidableEq
def TF.size (f:TF):Nat:=f.bs.length
def KJ (n:TN):List Value:=[aM n.path,.int .i64 n.file,.int .i64 n.mode]
def aZ (ns:List TN):List Value:=ns.flatMap KJ
def tfC (x:TF×Value):List Value:=[.int .i64 x.1.mode,x.2]
def jC (fs:List TF) (vs:List Value):List Value:=(fs.zip vs).flatMap tfC
theorem vX (ns:List TN):(aZ ns).length=ns.length*3:=by rw[aZ,abW KJ 3 (fun _=>rfl)]
theorem eZ {ns:List TN} {i:Nat} {n:TN} (h:ns[i]? =some n) (j:Nat) (hj:j<3):(aZ ns)[i*3+j]? =(KJ n)[j]? :=
 TY KJ 3 (fun _=>rfl) h j hj
theorem p8 {fs:List TF} {vs:List Value} {i:Nat} {f:TF} {u:Value} (h:fs[i]? =some f) (hu:vs[i]? =some u) (j:Nat) (hj:j<2):(jC fs vs)[i*2+j]? =(tfC (f,u))[j]? :=
 TY tfC 2 (fun _=>rfl) (by rw[List.getElem?_zip_eq_some];exact⟨h,hu⟩) j hj
structure dS (w:World) (nv fv:Value) (ns:List TN) (fs:List TF) (vs:List Value):Prop where
 len:vs.length=fs.length
 nodes:Rd w 3 nv ns.length (aZ ns)
 files:Rd w 2 fv fs.length (jC fs vs)
 data:∀(k:Nat) u f,vs[k]? =some u→fs[k]? =some f→lK w u f.size f.bs
theorem dS.below {w w':World} {nv fv:Value} {ns:List TN} {fs:List TF} {vs:List Value} (h:dS w nv fv ns fs vs) (hb:Below w.heap.size w w'):dS w' nv fv ns fs vs:=
 ⟨h.len,h.nodes.below hb,h.files.below hb,fun k u e hu he=>(h.data k u e hu he).below hb⟩
structure nI (ns:List TN) (fs:List TF):Prop where
 few:ns.length≤300
 O9:fs.length≤300
 short:∀n∈ns,n.path.length≤40000
 size:∀f∈fs,f.size≤1048576
def mM (p:List UInt8):Nat:=(max 0 (Lib.lastIndexByte ⟨p.toArray⟩ 47)).toNat
def dE (p:List UInt8):List UInt8:=if aP p=true then p.take (mM p)else []
theorem PD (p:List UInt8) (n:Nat):(⟨p.toArray⟩:ByteArray).extract 0 n=⟨(p.take n).toArray⟩:=by
 have e:((⟨p.toArray⟩:ByteArray).extract 0 n).data.toList=p.take n:=by rw[Lib.extract_data];simp
 generalize(⟨p.toArray⟩:ByteArray).extract 0 n=t at e;obtain⟨⟨l⟩⟩:=t;simp at e;rw[e]
def PE (f:TF):Bool:=decide (8192<f.size)
def iZ (ns:List TN) (fs:List TF):Bool:=(decide (256<ns.length)||decide (256<fs.length))||fs.any PE
end Go.Proofs.YteihmbaimbogaaaGreat
namespace Go.Proofs.YteihmbaimbogaaaGreat
open Go.RowKit
set_option linter.unusedVariables false
theorem kN (p:List UInt8):Op.bytesLess p p=false:=by
 induction p with
 |nil=>rfl
 |cons a p ih=>simp[Op.bytesLess,ih]
theorem TZ :∀ {p q:List UInt8},Op.bytesLess p q=true→Op.bytesLess q p=false
 |[],[],h=>by simp[Op.bytesLess]at h
 |[],_::_,_=>rfl
 |_::_,[],h=>by simp[Op.bytesLess]at h
 |a::p,b::q,h=>by
  unfold Op.bytesLess at h ⊢;rw[Bool.or_eq_true,Bool.and_eq_true,beq_iff_eq,decide_eq_true_eq]at h;rcases h with h|⟨rfl,h⟩
  ·(have h1:¬b<a:=fun h2=>by have:=UInt8.lt_iff_toNat_lt.1 h;have:=UInt8.lt_iff_toNat_lt.1 h2;omega);(have h2:b≠a:=fun e=>by subst e;exact absurd h (by simp));simp[h1,h2]
  simp[TZ h]
def eG (m:Int):Bool:=decide (0≤m)&&decide (m≤511)
def vY (pre:List TN) (p:List UInt8):Int:=pre.foldl (fun k m=>if m.path=p then(if m.file= -1 then 1 else 2)else k) (if p=[]then 1 else 0)
theorem JP (pre:List TN) (n:TN) (p:List UInt8):vY (pre++[n]) p=if n.path=p then(if n.file= -1 then 1 else 2)else vY pre p:=by unfold vY;rw[List.foldl_append];rfl
def lY (ns:List TN):Nat→List UInt8
 |0=>[]
 |i+1=>((ns[i]?).map (·.path)).getD []
def WX (p q:List UInt8):Bool:=Op.bytesLess p q||p==q
def rE (pre:List TN) (last:List UInt8) (k:Nat) (n:TN):Bool:=
 ((((aP n.path&& !WX n.path last)&&decide (vY pre (dE n.path)=1))&&decide (-1≤n.file))&&decide (n.file≤(k:Int)))&&(if n.file= -1 then eG n.mode else decide (n.mode=0))
def fV (k:Nat) (n:TN):Nat:=if n.file=(k:Int)then k+1 else k
def runK (ns:List TN):Nat→Option Nat
 |0=>some 0
 |i+1=>match runK ns i with
  |none=>none
  |some k=>match ns[i]? with
   |none=>some k
   |some n=>if rE (ns.take i) (lY ns i) k n=true then some (fV k n)else none
def CV (ns:List TN) (fs:List TF):Int:=if iZ ns fs=true then 31 else if runK ns ns.length=some fs.length∧fs.all (fun f=>eG f.mode)=true then 0 else 30
theorem xG {ns:List TN} {i k:Nat} {n:TN} (h:runK ns i=some k) (hn:ns[i]? =some n):runK ns (i+1)=if rE (ns.take i) (lY ns i) k n=true then some (fV k n)else none:=by
 show(match runK ns i with
  |none=>none
  |some k=>match ns[i]? with
   |none=>some k
   |some n=>if rE (ns.take i) (lY ns i) k n=true then some (fV k n)else none)=_
 rw[h];simp only;rw[hn]
theorem abX {ns:List TN} {i:Nat} (h:runK ns i=none):∀j,runK ns (i+j)=none:=by
 intro j
 induction j with
 |zero=>exact h
 |succ j ih=>
  show(match runK ns (i+j)with
   |none=>none
   |some k=>match ns[i+j]? with
    |none=>some k
    |some n=>if rE (ns.take (i+j)) (lY ns (i+j)) k n=true then some (fV k n)else none)=none
  rw[ih]
theorem akD {ns:List TN} {fs:List TF} (hb:iZ ns fs=false) (h:runK ns ns.length=some fs.length) (h2:fs.all (fun f=>eG f.mode)=true):CV ns fs=0:=by unfold CV;rw[hb,if_neg (by decide),if_pos ⟨h,h2⟩]
theorem WY :∀ {p q:List UInt8},Op.bytesLess p q=false→p≠q→Op.bytesLess q p=true
 |[],[],_,h=>absurd rfl h
 |[],_::_,h,_=>by simp[Op.bytesLess]at h
 |_::_,[],_,_=>by simp[Op.bytesLess]
 |a::p,b::q,h,hne=>by
  unfold Op.bytesLess at h ⊢;rw[Bool.or_eq_false_iff,Bool.and_eq_false_iff,decide_eq_false_iff_not]at h;obtain⟨h1,h2⟩:=h;by_cases e:a=b
  ·subst e;have h3:Op.bytesLess p q=false:=by
    rcases h2 with h2|h2
    ·simp at h2
    exact h2
   have:=WY h3 (fun e=>hne (by rw[e]));simp[this]
  (have h4:b<a:=by rw[UInt8.lt_iff_toNat_lt]at h1 ⊢;(have:a.toNat≠b.toNat:=fun h=>e (UInt8.toNat_inj.1 h));omega);simp[h4]
theorem abY {p q:List UInt8} (h:WX p q=false):Op.bytesLess q p=true:=by unfold WX at h;rw[Bool.or_eq_false_iff]at h;exact WY h.1 (by simpa using h.2)
theorem p9 :∀ {p q r:List UInt8},Op.bytesLess p q=true→Op.bytesLess q r=true→Op.bytesLess p r=true
 |_,_,[],_,h=>by cases ‹List UInt8› <;>simp[Op.bytesLess]at h
 |[],_,_::_,_,_=>by simp[Op.bytesLess]
 |_::_,[],_::_,h,_=>by simp[Op.bytesLess]at h
 |a::p,b::q,c::r,h1,h2=>by
  unfold Op.bytesLess at h1 h2 ⊢;rw[Bool.or_eq_true,Bool.and_eq_true,beq_iff_eq,decide_eq_true_eq]at h1 h2 ⊢;rcases h1 with h1|⟨rfl,h1⟩
  ·rcases h2 with h2|⟨rfl,h2⟩
   ·exact Or.inl (by rw[UInt8.lt_iff_toNat_lt]at*;omega)
   exact Or.inl h1
  rcases h2 with h2|⟨rfl,h2⟩
  ·exact Or.inl h2
  exact Or.inr ⟨rfl,p9 h1 h2⟩
structure fM (ns:List TN) (fs:List TF):Prop where
 few:ns.length≤256
 O9:fs.length≤256
 size:∀f∈fs,f.size≤8192
 asO:∀f∈fs,eG f.mode=true
 run:runK ns ns.length=some fs.length
theorem T9 {ns:List TN} {fs:List TF} (h:fM ns fs):CV ns fs=0:=by refine akD ?_ h.run (List.all_eq_true.2 h.asO);unfold iZ;rw[Bool.or_eq_false_iff,Bool.or_eq_false_iff,decide_eq_false_iff_not,decide_eq_false_iff_not,List.any_eq_false];refine⟨⟨by have:=h.few;omega,by have:=h.O9;omega⟩,fun f hf=>?_⟩;have:=h.size f hf;unfold PE;rw[decide_eq_true_eq];omega
theorem UA (k:Nat) (n:TN):k≤fV k n:=by unfold fV;split<;>omega
theorem agJ {ns:List TN}:∀ {j m:Nat},runK ns j=some m→∀i,i<j→∀n,ns[i]? =some n→∃k,runK ns i=some k∧rE (ns.take i) (lY ns i) k n=true∧fV k n≤m:=by
 intro j
 induction j with
 |zero=>intro m _ i hi;omega
 |succ j ih=>
  intro m h i hi n hn;cases hr:runK ns j with
  |none=>rw[abX hr 1]at h;cases h
  |some k=>
   cases hj:ns[j]? with
   |none=>
    have hlt:=(gF.1 hn).1;have:ns.length≤j:=List.getElem?_eq_none_iff.1 hj;have h2:runK ns (j+1)=some k:=by
     show(match runK ns j with
      |none=>none
      |some k=>match ns[j]? with
       |none=>some k
       |some n=>if rE (ns.take j) (lY ns j) k n=true then some (fV k n)else none)=_
     rw[hr,hj]
    rw[h2]at h;cases h;exact ih hr i (by omega) n hn
   |some nj=>
    rw[xG hr hj]at h;split at h
    ·rename_i ho;cases h;by_cases hij:i=j
     ·subst hij;rw[hj]at hn;cases hn;exact⟨k,hr,ho,Nat.le_refl _⟩
     obtain⟨k2,h1,h2,h3⟩:=ih hr i (by omega) n hn;exact⟨k2,h1,h2,by have:=UA k nj;omega⟩
    cases h
theorem AZ {pre:List TN} {last:List UInt8} {k:Nat} {n:TN} (h:rE pre last k n=true):
  aP n.path=true∧Op.bytesLess last n.path=true∧vY pre (dE n.path)=1∧ -1≤n.file∧n.file≤(k:Int)∧(n.file= -1→eG n.mode=true)∧(n.file≠ -1→n.mode=0):=by
 unfold rE at h;simp only[Bool.and_eq_true,decide_eq_true_eq,Bool.not_eq_true']at h;obtain⟨⟨⟨⟨⟨h1,h2⟩,h3⟩,h4⟩,h5⟩,h6⟩:=h;refine⟨h1,abY h2,h3,h4,h5,fun e=>?_,fun e=>?_⟩
 ·rw[if_pos e]at h6;exact h6
 rw[if_neg e]at h6;simpa using h6
theorem fM.at_ {ns:List TN} {fs:List TF} (h:fM ns fs) {i:Nat} {n:TN} (hn:ns[i]? =some n):
  aP n.path=true∧Op.bytesLess (lY ns i) n.path=true∧vY (ns.take i) (dE n.path)=1∧ -1≤n.file∧n.file<(fs.length:Int)∧(n.file= -1→eG n.mode=true)∧(n.file≠ -1→n.mode=0):=by
 obtain⟨k,h1,h2,h3⟩:=agJ h.run i (gF.1 hn).1 n hn;obtain⟨a,b,c,d,e,f,g⟩:=AZ h2;refine⟨a,b,c,d,?_,f,g⟩;unfold fV at h3;split at h3<;>omega
theorem fM.mem {ns:List TN} {fs:List TF} (h:fM ns fs) {n:TN} (hn:n∈ns):
  aP n.path=true∧ -1≤n.file∧n.file<(fs.length:Int)∧(n.file= -1→eG n.mode=true)∧(n.file≠ -1→n.mode=0):=by
 obtain⟨i,hi⟩:=List.mem_iff_getElem?.1 hn;obtain⟨a,b,c,d,e,f,g⟩:=h.at_ hi;exact⟨a,d,e,f,g⟩
theorem fM.up {ns:List TN} {fs:List TF} (h:fM ns fs):ns.Pairwise fun a b=>Op.bytesLess a.path b.path=true:=by
 rw[List.pairwise_iff_getElem];intro i j hi hj hij;obtain⟨d,rfl⟩:∃d,j=i+1+d:=⟨j-i-1,by omega⟩;clear hij
 induction d with
 |zero=>have:=(h.at_ (gE hj)).2.1;(have e:lY ns (i+1)=ns[i].path:=by(show((ns[i]?).map (·.path)).getD []=_);rw[gE hi];rfl);change Op.bytesLess (lY ns (i+1)) _=true at this;rw[e]at this;exact this
 |succ d ih=>have h1:=ih (by omega);have h2:=(h.at_ (gE hj)).2.1;(have e:lY ns (i+1+(d+1))=(ns[i+1+d]'(by omega)).path:=by(show((ns[i+1+d]?).map (·.path)).getD []=_);rw[gE (by omega)];rfl);rw[e]at h2;exact p9 h1 h2
theorem fM.ne {ns:List TN} {fs:List TF} (h:fM ns fs):ns.Pairwise fun a b=>a.path≠b.path:=
 h.up.imp fun {a b} hl e=>by rw[e,kN]at hl;cases hl
def jT (ns:List TN) (p:List UInt8):Nat:=ns.countP fun n=>decide (dE n.path=p)
theorem abZ (ns:List TN) (n:TN) (p:List UInt8):jT (ns++[n]) p=if dE n.path=p then jT ns p+1 else jT ns p:=by unfold jT;rw[List.countP_append,List.countP_singleton];by_cases h:dE n.path=p<;>simp[h]
theorem UB {l:List UInt8} (h:l.length<1):gJ l=false:=by
 have:¬0<l.length:=by omega
 unfold gJ;simp only[this,decide_false,Bool.false_and]
theorem WZ {l:List UInt8} (h:14<l.length):gJ l=false:=by
 have:¬l.length≤14:=by omega
 unfold gJ;simp only[this,decide_false,Bool.and_false,Bool.false_and]
theorem W9 {l:List UInt8} (h:dots l=true):gJ l=false:=by unfold gJ;simp only[h,Bool.not_true,Bool.and_false,Bool.false_and]
theorem ab0 {l:List UInt8} (h0:1≤l.length) (h1:l.length≤14) (hd:dots l=false):gJ l=l.all fun c=>jN c.toNat:=by have h0':0<l.length:=h0;unfold gJ;simp only[h0',h1,hd,decide_true,Bool.not_false,Bool.and_true,Bool.true_and]
theorem akE {l:List UInt8} (h:dots l=false):(l==[46])=false∧(l==[46,46])=false:=by unfold dots at h;exact Bool.or_eq_false_iff.1 h
theorem agK {D:List UInt8} {q:UInt8→Bool} {i:Nat} (hi:i<D.length) (h:(D.take i).all q=true) (hq:q D[i]=true):(D.take (i+1)).all q=true:=by rw[List.take_add_one,gE hi,List.all_append,h];simp[hq]
theorem akF {D:List UInt8} {q:UInt8→Bool} {i:Nat} (hi:i<D.length) (hq:q D[i]=false):D.all q=false:=by
 cases h:D.all q with
 |false=>rfl
 |true=>rw[List.all_eq_true.1 h _ (List.getElem_mem hi)]at hq;cases hq
theorem XA (x:Int):x=46∨x=45∨(x<48∧x≠46∧x≠45)∨(48≤x∧x≤57)∨x=95∨(57<x∧x<97∧x≠95)∨(97≤x∧x≤122)∨122<x:=by omega
theorem XB {x:Nat} (h:(97≤(x:Int)∧(x:Int)≤122)∨(48≤(x:Int)∧(x:Int)≤57)∨(x:Int)=46∨(x:Int)=95∨(x:Int)=45):jN x=true:=by unfold jN;simp only[Bool.or_eq_true,Bool.and_eq_true,decide_eq_true_eq,beq_iff_eq];omega
theorem ab1 {x:Nat} (h:¬((97≤(x:Int)∧(x:Int)≤122)∨(48≤(x:Int)∧(x:Int)≤57)∨(x:Int)=46∨(x:Int)=95∨(x:Int)=45)):jN x=false:=by
 cases e:jN x with
 |false=>rfl
 |true=>unfold jN at e;simp only[Bool.or_eq_true,Bool.and_eq_true,decide_eq_true_eq,beq_iff_eq]at e;omega
set_option maxRecDepth 100000 in
set_option maxHeartbeats 2000000 in
theorem UC (s:ByteArray) (w:World) (hs:s.size≤4611686018427387904):
  Calls Tryz.prog 148 #[.string s] w fun e w'=>e= .returned (.bool (gJ s.data.toList))∧w'=w:=by
 have hsz:s.size=s.data.toList.length:=Lib.size_eq s;have htl:s.toList=s.data.toList:=Lib.toList_data s;by_cases h0:s.size<1
 case pos=>(have b1:(s.size:Int)<1:=by omega);have hr:=UB (hsz▸h0);rw[hr];clear hsz htl;go_enter Tryz.func148,Tryz.ntmps148;go_wp2_with fail;go_ret;exact⟨rfl,rfl⟩
 by_cases h1:14<s.size
 case pos=>(have b1:¬(s.size:Int)<1:=by omega);(have b2:(14:Int)<(s.size:Int):=by omega);have hr:=WZ (hsz▸h1);rw[hr];clear hsz htl;go_enter Tryz.func148,Tryz.ntmps148;go_wp2_with fail;go_ret;exact⟨rfl,rfl⟩
 have b1:¬(s.size:Int)<1:=by omega
 have b2:¬(14:Int)<(s.size:Int):=by omega
 by_cases hd:dots s.data.toList=true
 case pos=>
  have hr:=W9 hd;rw[hr];unfold dots at hd;rw[←htl,Bool.or_eq_true]at hd;clear hsz htl;have hd:(s.toList==[46])=true∨((s.toList==[46])=false∧(s.toList==[46,46])=true):=by
   cases h:s.toList==[46]with
   |true=>exact .inl rfl
   |false=>rw[h]at hd;exact .inr ⟨rfl,by simpa using hd⟩
  rcases hd with hd|⟨hd,hd3⟩
  ·go_enter Tryz.func148,Tryz.ntmps148;go_wp2_with fail;go_ret;exact⟨rfl,rfl⟩
  go_enter Tryz.func148,Tryz.ntmps148;go_wp2_with fail;go_ret;exact⟨rfl,rfl⟩
 have hd':dots s.data.toList=false:=by simpa using hd
 obtain⟨hd1,hd2⟩:=akE hd';have hr:=ab0 (by omega) (by omega) hd';rw[←htl]at hd1 hd2;rw[hr];obtain⟨R,hR⟩:∃R,R=s.data.toList.all fun c=>jN c.toNat:=⟨_,rfl⟩
 rw[←hR];have hR':=Lh hR;have hsz':=Lh hsz;clear hsz htl hd hr hd' hR;go_enter Tryz.func148,Tryz.ntmps148;go_wp2_with fail;go_loopg[3] s.size (fun g ii wr=>∃i:Nat,i≤s.size∧Hid (g=s.size-i)∧ii= .int .i64 i∧wr=w∧Hid (((s.data.toList.take i).all fun c=>jN c.toNat)=true))
 case atStart=>exact⟨0,by omega,rfl,rfl,rfl,rfl⟩
 obtain⟨i,hi,hm,rfl,rfl,hal⟩:=hrel;by_cases hlt:i<s.size
 case pos=>
  (have c1:(0:Int)≤(i:Int):=by omega);(have c2:(i:Int)<(s.size:Int):=by omega);have hil:=Lh (hsz'.out▸hlt);(have hnext:Hid (jN s[i].toNat=true→((s.data.toList.take (i+1)).all fun c=>jN c.toNat)=true):=fun h=>agK (D:=s.data.toList) hil.out hal.out h);(have hbad:Hid (jN s[i].toNat=false→R=false):=fun h=>hR'.out.trans (akF (D:=s.data.toList) hil.out h));clear hal;(rcases XA (s[i].toNat:Int)with h|h|h|h|h|h|h|h);all_goals
   first |(have b46:((s[i].toNat:Int)==46)=true:=beq_iff_eq.2 (by omega))|(have b46:((s[i].toNat:Int)==46)=false:=beq_eq_false_iff_ne.2 (by omega))
   first |(have b45:((s[i].toNat:Int)==45)=true:=beq_iff_eq.2 (by omega))|(have b45:((s[i].toNat:Int)==45)=false:=beq_eq_false_iff_ne.2 (by omega))
   first |(have b95:((s[i].toNat:Int)==95)=true:=beq_iff_eq.2 (by omega))|(have b95:((s[i].toNat:Int)==95)=false:=beq_eq_false_iff_ne.2 (by omega))
   first |(have b97:97≤(s[i].toNat:Int):=by omega)|(have b97:(s[i].toNat:Int)<97:=by omega)
   first |(have b48:48≤(s[i].toNat:Int):=by omega)|(have b48:(s[i].toNat:Int)<48:=by omega)
   first |(have axM:(s[i].toNat:Int)≤122:=by omega)|(have axM:122<(s[i].toNat:Int):=by omega)
   first |(have b57:(s[i].toNat:Int)≤57:=by omega)|(have b57:57<(s[i].toNat:Int):=by omega)
   have h':=Lh h
   clear h
   go_wp2_with fail
   all_goals first
    |(go_roundg (s.size-(i+1))
      case measure=>rw[hm.out];omega
      case rel=>exact⟨i+1,by omega,rfl,by go_num,rfl,hnext.out (XB (by have:=h'.out;omega))⟩)
    |(go_ret
      refine⟨?_,rfl⟩
      rw[hbad.out (ab1 (by have:=h'.out;omega))]
      rfl)
    |(exfalso
      simp_all
      done)
    |(exfalso
      simp_all
      omega)
 have e:i=s.size:=by omega
 have hfin:Hid (R=true):=by have h:=hal.out;rw[e,hsz'.out,List.take_length]at h;exact hR'.out.trans h
 have c2:¬(i:Int)<(s.size:Int):=by omega
 clear hal;go_wp2_with fail;go_ret;refine⟨?_,rfl⟩;rw[hfin.out];rfl
theorem M7 :(Tryz.prog.info? 9).map (fun i=>(i.zero,i.size,i.bytes))=some (some (.string ⟨#[]⟩),1,16):=by kernel_rfl
def K3 (v:Value) (L:List ByteArray):aU:=.sl 9 1 v L.length (L.map .string)
def eQ (b:ByteArray):List UInt8:=b.data.toList
theorem XC {D:List UInt8} {f i:Nat} (hf:f≤i) (hi:i<D.length) (h47:D[i]=47) (hno:∀k (hk:k<D.length),f≤k→k<i→D[k]≠47):
  splitB (D.drop f)=(D.drop f).take (i-f)::splitB (D.drop (i+1)):=by
 have e:D.drop f=(D.drop f).take (i-f)++47::D.drop (i+1):=by
  conv=>lhs;rw[←List.take_append_drop (i-f) (D.drop f)]
  rw[List.drop_drop,show f+(i-f)=i by omega,List.drop_eq_getElem_cons hi,h47]
 conv=>lhs;rw[e]
 refine DV fun hm=>?_
 obtain⟨k,hk,ek⟩:=List.mem_iff_getElem.1 hm;rw[List.getElem_take,List.getElem_drop]at ek;rw[List.length_take,List.length_drop]at hk;exact hno (f+k) (by omega) (by omega) (by omega) ek
theorem ab2 {D:List UInt8} {f:Nat} (hno:∀k (hk:k<D.length),f≤k→D[k]≠47):splitB (D.drop f)=[D.drop f]:=by
 refine lN fun hm=>?_
 obtain⟨k,hk,ek⟩:=List.mem_iff_getElem.1 hm;rw[List.getElem_drop]at ek;rw[List.length_drop]at hk;exact hno (f+k) (by omega) (by omega) ek
theorem BA (p:List UInt8):(splitB p).length≤p.length+1:=by
 induction p with
 |nil=>exact Nat.le_refl _
 |cons c l ih=>obtain⟨h,t,e⟩:=nR l;rw[fB,e];rw[e]at ih;split<;>simp only[List.length_cons]at ih ⊢ <;>omega
set_option maxRecDepth 100000 in
set_option maxHeartbeats 2000000 in
theorem BB (p:ByteArray) (w:World) (hp:p.size≤100):
  Calls Tryz.prog 147 #[.string p] w fun e w'=>∃v L,e= .returned v∧L.map eQ=splitB p.data.toList∧Sep w w' [K3 v L]:=by
 have hsz:=Lh (Lib.size_eq p);obtain⟨i0,hif,hz0,hz1,hz2⟩:=info_parts M7;go_enter Tryz.func147,Tryz.ntmps147;go_wp2_with fail;go_loopw[3,4,5] (fun vo vf vi wr=>∃(L:List ByteArray) (f i:Nat),f≤i∧i≤p.size∧vf= .int .i64 f∧vi= .int .i64 i∧L.length≤i∧Hid (splitB p.data.toList=L.map eQ++splitB (p.data.toList.drop f))∧Hid (∀k (hk:k<p.data.toList.length),f≤k→k<i→p.data.toList[k]≠47)∧Sep w wr [K3 vo L]) (fun _ _ vi _=>p.size-(intOf vi).toNat)
 case atStart=>exact⟨[],0,0,by omega,by omega,rfl,rfl,by simp,by simp[Hid],(fun k hk h1 h2=>absurd h2 (by omega)),(Sep.nil w).fO _ _⟩
 obtain⟨L,f,i,hfi,hi,rfl,rfl,hLi,hsp,hno,hS⟩:=hrel;by_cases hlt:i<p.size
 case pos=>
  (have c1:(0:Int)≤(i:Int):=by omega);(have c2:(i:Int)<(p.size:Int):=by omega);(have c3:(0:Int)≤(f:Int):=by omega);(have c4:(f:Int)≤(i:Int):=by omega);(have c5:(i:Int)≤(p.size:Int):=by omega);by_cases h47:p[i]=47
  case pos=>
   (have b47:((p[i].toNat:Int)==47)=true:=by rw[h47];rfl);have hS1:=hS.alloc (.cells #[.string (p.extract f i)] 9);go_wp2_with(at_builtin;refine gK 0 rfl _ _ 52 rfl 9 i0 (.string ⟨#[]⟩) 1 16 Tryz.underlying52 hif hz0 hz1 hz2 rfl (by decide) hS1 _ _ _ rfl rfl ⟨wr.heap.size,0,none⟩ 1 1 [.string (p.extract f i)] rfl rfl (cell_one_new _ _ _) (by simp[Value.oneCell']) (by decide) (by unfold maxLen;omega) (by omega) ?_);intro g c w2 hS2 hz;(have bG:Sep w w2 [K3 (.slice (some ⟨g,0,none⟩) (L.length+1) c) (L++[p.extract f i])]:=by unfold K3;rw[List.map_append,List.length_append];exact hS2);have kX:=Lh bG;have hl:=hsz.out;(have hex:eQ (p.extract f i)=(p.data.toList.drop f).take (i-f):=by(show(p.extract f i).data.toList=_);rw[Lib.extract_data]);(have hsp2:Hid (splitB p.data.toList=(L++[p.extract f i]).map eQ++splitB (p.data.toList.drop (i+1))):=by have h:=hsp.out;rw[XC hfi (by omega) h47 hno.out]at h;(show _=_);rw[h,List.map_append,List.append_assoc,List.map_cons,List.map_nil,hex];rfl);(have iG:Hid (∀k (hk:k<p.data.toList.length),i+1≤k→k<i+1→p.data.toList[k]≠47):=fun k hk h1 h2=>absurd h2 (by omega));clear hS hS1 hS2 hz bG hl hex hsp hno;go_wp2_with fail;go_roundw
   ·exact⟨_,i+1,i+1,by omega,by omega,by go_num,by go_num,by rw[List.length_append,List.length_singleton];omega,hsp2,iG,kX.out⟩
   simp[intOf];omega
  (have b47:((p[i].toNat:Int)==47)=false:=by rw[beq_eq_false_iff_ne];intro h;exact h47 (UInt8.toNat_inj.1 (by show p[i].toNat=47;omega)));have iG:Hid (∀k (hk:k<p.data.toList.length),f≤k→k<i+1→p.data.toList[k]≠47):=fun k hk h1 h2=>by
   by_cases e:k=i
   ·subst e;exact h47
   exact hno.out k hk h1 (by omega)
  have hS':=Lh hS;clear hS hno;go_wp2_with fail;go_roundw
  ·exact⟨L,f,i+1,by omega,by omega,rfl,by go_num,by omega,hsp,iG,hS'.out⟩
  simp[intOf];omega
 have c2:¬(i:Int)<(p.size:Int):=by omega
 have c3:(0:Int)≤(f:Int):=by omega
 have c4:(f:Int)≤(p.size:Int):=by omega
 have hl:=hsz.out;have hex:eQ (p.extract f p.size)=p.data.toList.drop f:=by(show(p.extract f p.size).data.toList=_);rw[Lib.extract_data,List.take_of_length_le (by rw[List.length_drop];omega)]
 have hfin:Hid ((L++[p.extract f p.size]).map eQ=splitB p.data.toList):=by have h:=hsp.out;rw[ab2 (fun k hk h1=>hno.out k hk h1 (by omega))]at h;(show _=_);rw[h,List.map_append,List.map_cons,List.map_nil,hex]
 have hS1:=hS.alloc (.cells #[.string (p.extract f p.size)] 9);clear hex hl hsp hno;go_wp2_with(at_builtin;refine gK 0 rfl _ _ 52 rfl 9 i0 (.string ⟨#[]⟩) 1 16 Tryz.underlying52 hif hz0 hz1 hz2 rfl (by decide) hS1 _ _ _ rfl rfl ⟨wr.heap.size,0,none⟩ 1 1 [.string (p.extract f p.size)] rfl rfl (cell_one_new _ _ _) (by simp[Value.oneCell']) (by decide) (by unfold maxLen;omega) (by omega) ?_);intro g c w2 hS2 hz;have bG:Sep w w2 [K3 (.slice (some ⟨g,0,none⟩) (L.length+1) c) (L++[p.extract f p.size])]:=by unfold K3;rw[List.map_append,List.length_append];exact hS2
 have kX:=Lh bG;clear hS hS1 hS2 hz bG;go_wp2_with fail;go_ret;exact⟨_,_,rfl,hfin.out,kX.out⟩
theorem EG {b:List UInt8} (h:(47:UInt8)∉b):∀a:List UInt8,splitB (a++47::b)=splitB a++[b]
 |[]=>by(show splitB (47::b)=[[]]++[b]);rw[fB,if_pos rfl,lN h];rfl
 |c::a=>by
  have ih:=EG h a;rw[List.cons_append,fB,fB,ih];split
  ·rfl
  obtain⟨x,t,e⟩:=nR a;rw[e];rfl
theorem jI (p:List UInt8):((47:UInt8)∉p∧mM p=0∧splitB p=[p])∨∃a b,p=a++47::b∧(47:UInt8)∉b∧mM p=a.length∧splitB p=splitB a++[b]:=by
 have key:∀j (hj:j<p.length),(((⟨p.toArray⟩:ByteArray).data[j]!).toNat:Int)=(p[j].toNat:Int):=fun j hj=>by(show((p.toArray[j]!).toNat:Int)=_);rw[getElem!_pos p.toArray j (by simpa using hj)];simp
 unfold mM;rcases Lib.lastIndexByte_spec ⟨p.toArray⟩ 47 with⟨h,hn⟩|⟨i,hi,h,h47,hn⟩
 ·left;(have h0:(47:UInt8)∉p:=fun hm=>by obtain⟨j,hj,e⟩:=List.mem_iff_getElem.1 hm;refine hn j hj ?_;rw[key j hj,e];rfl);exact⟨h0,by rw[h];rfl,lN h0⟩
 right;have hi':i<p.length:=hi;have e47:p[i]=47:=UInt8.toNat_inj.1 (by have:=key i hi';show p[i].toNat=47;omega);have hb:(47:UInt8)∉p.drop (i+1):=fun hm=>by obtain⟨j,hj,e⟩:=List.mem_iff_getElem.1 hm;rw[List.getElem_drop]at e;rw[List.length_drop]at hj;refine hn (i+1+j) (by omega) (show i+1+j<p.length by omega) ?_;rw[key (i+1+j) (by omega),e];rfl
 have e:p=p.take i++47::p.drop (i+1):=by conv=>lhs;rw[←List.take_append_drop i p,List.drop_eq_getElem_cons hi',e47]
 refine⟨p.take i,p.drop (i+1),e,hb,?_,?_⟩
 ·rw[h,List.length_take];omega
 conv=>lhs;rw[e]
 exact EG hb _
theorem M8 {p:List UInt8} {L:List (List UInt8)} (h:splitB p=L):(L.length<2→mM p=0)∧∀(h2:0<L.length),2≤L.length→mM p+(L[L.length-1]'(by omega)).length+1=p.length:=by
 subst h;rcases jI p with⟨_,h0,e⟩|⟨a,b,e,hb,hs,e2⟩
 ·refine⟨fun _=>h0,fun h1 h2=>?_⟩;rw[e]at h2;exact absurd h2 (by simp)
 have h1:=fQ a;have h3:0<(splitB a).length:=List.length_pos_iff.2 h1;refine⟨fun h=>?_,fun h2 h4=>?_⟩
 ·rw[e2,List.length_append,List.length_singleton]at h;omega
 have e3:(splitB p)[(splitB p).length-1]'(by omega)=b:=by(have:(splitB p)[(splitB p).length-1]? =some b:=by rw[e2,List.length_append,List.length_singleton,Nat.add_sub_cancel,List.getElem?_append_right (Nat.le_refl _)];simp);obtain⟨_,h⟩:=gF.1 this;exact h
 rw[e3,hs];have:=congrArg List.length e;rw[List.length_append,List.length_cons]at this;omega
theorem M9 {w0 w:World} {v:Value} {L:List ByteArray} (h:0<L.length) (hS:Sep w0 w [K3 v L]):∃g c,v= .slice (some ⟨g,0,none⟩) L.length c∧∀k (hk:k<L.length),w.cell? ⟨g,k,none⟩=some (.string L[k]):=by unfold K3 at hS;obtain⟨g,c,rfl,_⟩:=hS.iP 0 rfl h;refine⟨g,c,rfl,fun k hk=>?_⟩;have:=hS.cellAt 0 rfl k (by omega);rw[List.getElem?_map,gE hk]at this;exact this
theorem ab3 {L:List ByteArray} {i:Nat} (hi:i<L.length) (h:((L.take i).all fun b=>gJ (eQ b))=true) (hq:gJ (eQ L[i])=true):((L.take (i+1)).all fun b=>gJ (eQ b))=true:=by rw[List.take_add_one,gE hi,List.all_append,h];simp[hq]
theorem akG {l:List (List UInt8)} {x:List UInt8} (h:x∈l):x.length+1≤(l.map fun s=>s.length+1).sum:=by
 induction l with
 |nil=>cases h
 |cons a l ih=>
  rw[List.map_cons,List.sum_cons];rcases List.mem_cons.1 h with rfl|h
  ·omega
  have:=ih h;omega
theorem ab4 {p:ByteArray} {L:List ByteArray} (h:L.map eQ=splitB p.data.toList) {i:Nat} (hi:i<L.length):L[i].size≤p.size:=by
 have h1:eQ L[i]∈splitB p.data.toList:=by rw[←h];exact List.mem_map_of_mem (List.getElem_mem hi)
 have h2:=akG h1;rw[←JA]at h2;have h3:L[i].size=(eQ L[i]).length:=Lib.size_eq _;have h4:p.size=p.data.toList.length:=Lib.size_eq p;omega
set_option maxRecDepth 100000 in
set_option maxHeartbeats 2000000 in
theorem oM (p:ByteArray) (w:World) (hs:p.size≤9223372036854775807):
  Calls Tryz.prog 93 #[.string p] w fun e w'=>e= .returned (.bool (aP p.data.toList))∧Below w.heap.size w w':=by
 have hsz:=Lib.size_eq p;rw[←yS];by_cases asP:100<p.size
 case pos=>(have b1:(100:Int)<(p.size:Int):=by omega);(have hr:TD p.data.toList=false:=by(have:¬p.data.toList.length≤100:=by omega);unfold TD;simp only[this,decide_false,Bool.false_and]);rw[hr];clear hsz;go_enter Tryz.func93,Tryz.ntmps93;go_wp2_with fail;go_ret;exact⟨rfl,Below.refl _ _⟩
 have b1:¬(100:Int)<(p.size:Int):=by omega
 have hr:TD p.data.toList=(decide ((splitB p.data.toList).length≤6)&&(splitB p.data.toList).all gJ):=by(have:p.data.toList.length≤100:=by omega);unfold TD;simp only[this,decide_true,Bool.true_and]
 rw[hr];obtain⟨R,hR⟩:∃R,R=(decide ((splitB p.data.toList).length≤6)&&(splitB p.data.toList).all gJ):=⟨_,rfl⟩;rw[←hR];have hR':=Lh hR;have hsp:=Lh (BB p w (by omega));clear hsz hr hR;go_enter Tryz.func93,Tryz.ntmps93;go_wp2_with(go_at_call 147;refine hsp.out.mono ?_;rintro e w1 ⟨v,L,rfl,hL,hS⟩;have hL':=Lh hL;clear hL;obtain⟨g,c,rfl,hc⟩:=M9 (by have h:=congrArg List.length hL'.out;rw[List.length_map]at h;rw[h];exact List.length_pos_iff.2 (fQ _)) hS;have hc':=Lh hc;have hb:=Lh hS.below;clear hS hc)
 ·(have h6:(6:Int)<(L.length:Int):=by assumption);(have hf:R=false:=by have h1:=congrArg List.length hL'.out;rw[List.length_map]at h1;(have h2:¬(splitB p.data.toList).length≤6:=by omega);rw[hR'.out];simp only[h2,decide_false,Bool.false_and]);subst hf;go_ret;exact⟨rfl,hb.out⟩
 have h6:(L.length:Int)≤6:=by assumption
 have hRL:Hid (R=L.all fun b=>gJ (eQ b)):=by have h1:=congrArg List.length hL'.out;rw[List.length_map]at h1;(have h2:(splitB p.data.toList).length≤6:=by omega);(show _=_);rw[hR'.out,←hL'.out,List.all_map];rw[←hL'.out]at h2;simp only[h2,decide_true,Bool.true_and];rfl
 have hps:=Lh (fun i (hi:i<L.length)=>Nat.le_trans (ab4 hL'.out hi) (show p.size≤4611686018427387904 by omega));clear hR' hsp;go_loopg[4] L.length (fun gk ii wr=>∃i:Nat,i≤L.length∧Hid (gk=L.length-i)∧ii= .int .i64 i∧wr=w1∧Hid (((L.take i).all fun b=>gJ (eQ b))=true))
 case atStart=>exact⟨0,by omega,rfl,rfl,rfl,rfl⟩
 obtain⟨i,hi,hm,rfl,rfl,hal⟩:=hrel;by_cases hlt:i<L.length
 case pos=>
  (have c1:(0:Int)≤(i:Int):=by omega);(have c2:(i:Int)<(L.length:Int):=by omega);have d0:=hc'.out i hlt;have hname:=Lh (UC L[i] wr (hps.out i hlt));have hn2:L[i].data.toList=eQ L[i]:=rfl;rw[hn2]at hname;cases hq:gJ (eQ L[i])with
  |true=>
   have axN:=Lh (ab3 hlt hal.out hq);rw[hq]at hname;clear hq hn2 hal;go_wp2_with(go_at_call 148;refine hname.out.mono ?_;rintro e w3 ⟨rfl,rfl⟩);go_roundg (L.length-(i+1))
   case measure=>rw[hm.out];omega
   case rel=>exact⟨i+1,by omega,rfl,by go_num,rfl,axN⟩
  |false=>
   have hf:R=false:=by
    rw[hRL.out];cases h:L.all fun b=>gJ (eQ b)with
    |false=>rfl
    |true=>rw[List.all_eq_true.1 h _ (List.getElem_mem hlt)]at hq;cases hq
   subst hf;rw[hq]at hname;clear hq hn2 hal hRL;go_wp2_with(go_at_call 148;refine hname.out.mono ?_;rintro e w3 ⟨rfl,rfl⟩);go_ret;exact⟨rfl,hb.out⟩
 have hf:R=true:=by have h:=hal.out;rw[List.take_of_length_le (by omega)]at h;rw[hRL.out];exact h
 subst hf;have c2:¬(i:Int)<(L.length:Int):=by omega
 clear hal hRL;go_wp2_with fail;go_ret;exact⟨rfl,hb.out⟩
end Go.Proofs.YteihmbaimbogaaaGreat
