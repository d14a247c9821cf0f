/- Parts. -/
import Derived.Test.YtmjomdkleikgbaaGreatK29
import Derived.IntWalk
import Derived.Laws.RangeString
import Derived.Laws.ResultCell
import Derived.Handy
set_option linter.unusedVariables false
set_option linter.unusedSimpArgs false
set_option maxRecDepth 100000
set_option maxHeartbeats 20000000
namespace Go.Proofs.YtmjomdkleikgbaaGreat
open Go.RowKit
section
variable {w0 w:World} {R:List aW} {f q p:Nat} {S:VS} {ns:List TN} {fs:List FT} {nb names:Nat}
def Gone (w0:World) (R:List aW) (f q p nb:Nat) (w:World):Prop:=∃D,DK.ok nb D/\Sep w0 w (iU f q p true::aO p D::R)
theorem qF.asF {r:Except Int (Option VS)} {A:Except Int (List TN×List FT)} {x:Int} {g:LT} {dn:Key->Nat} {φ:Int->Nat} (hL:qF S ns fs nb names) (hV:Vt S.base ns fs g dn φ) (hok:S.D.ok S.nb) (NU:96<S.nb) (hA:AsT φ fs.length S.base r A) (hz:(wS nb names ns fs A).e=0) (h:wC f q p S.base r w0 w R x):
  (x=0/\∃S',qF S' (wS nb names ns fs A).ns (wS nb names ns fs A).fs nb names/\Sep w0 w (bB f q p S'::R))\/(x=11/\Gone w0 R f q p nb w):=by
 cases A with
 |error k=>have hr:r= .error k:=hA;rw[hr]at h;have hk:k=0:=hz;exact .inl ⟨by rw[<-hk];exact h.1,S.base,hL.base,h.2⟩
 |ok T=>
  have h1:=hL.ends hV hok NU hA h;unfold wS at hz ⊢;simp only at hz ⊢;by_cases hf:qE nb names T.1 T.2=true
  ·rw[if_pos hf]at h1 ⊢;rcases h1 with⟨rfl,S',hV',_,_,hS⟩|⟨rfl,_,S1,e1,e2,e3,e4,_,hS⟩
   ·exact .inl ⟨rfl,S',hV',hS⟩
   refine .inr ⟨rfl,S1.bJ.1,?_,hS⟩;rw[<-e1];exact KI (by rw[e2,e1,<-hL.nbe];exact hok) (by rw[e1,<-hL.nbe];exact NU) (by rw[e1];exact e3) e4
  rw[if_neg hf]at hz;cases hz
theorem doF {op mode kk:Int} {path tz bs:List UInt8} {A:Option Addr} {n c:Nat} {ns':List TN} {fs':List FT} (hL:qF S ns fs nb names) (hp:path.length<=9223372036854775807) (ht:tz.length<=9223372036854775807) (hn:n<=9223372036854775807) (hlen:bs.length<=9223372036854775807)
  (hop: -9223372036854775808<=op/\op<=9223372036854775807) (hst:tV w0 R A n kk bs) (hr:doX nb names ns fs op path tz mode kk n bs=⟨0,ns',fs'⟩) (h:Sep w0 w (bB f q p S::R)):
  Calls Tryz.prog 18 #[pV f,.agg #[iV op,aC path,aC tz,iV mode,iV kk],.slice A n c] w fun e w'=>
   (e= .returned (iV 0)/\∃S',qF S' ns' fs' nb names/\Sep w0 w' (bB f q p S'::R))\/(e= .returned (iV 11)/\Gone w0 R f q p nb w'):=by
 have hok:=IY h
 have NU:=ad5 h
 by_cases ho:S.D.off=true
 ·refine(aEL (KT ho) h).mono ?_;rintro e w' ⟨rfl,h1⟩;exact .inr ⟨rfl,S.D,by rw[<-hL.nbe];exact hok,h1⟩
 have ho':S.D.off=false:=by simpa using ho
 obtain⟨g,dn,φ,hV⟩:=hL.vt
 have facts:N7 op path tz mode kk n bs.length=0->op=9\/(op≠9/\aV path=true/\(op=3\/op=4\/op=7->aV tz=true)/\(op=1\/op=6\/op=7\/op=8->mode.toNat<=511)/\(op=6->bs.length<=8192)):=fun h0=>by exact Z66
 refine(arC (op:=op) (mode:=mode) (kk:=kk) (path:=path) (tz:=tz) (bs:=bs) hp ht hn hlen ho' hop hst hV.iP.vw (fun h0=>?_) h).mono ?_
 ·exact Z11
 ·rintro e w' ⟨x,rfl,hE⟩;unfold doR at hE;unfold doX at hr;by_cases h0:N7 op path tz mode kk n bs.length=0
  ·rw[if_pos h0]at hE hr;(have hA:AsT φ fs.length S.base (Q4 S.base op path tz mode.toNat bs) (if op=9 then .error 0 else ad7 ns fs op path tz mode.toNat bs):=by exact Z85);have h1:=hL.asF hV hok NU hA (by rw[hr]) hE;rw[hr]at h1;rcases h1 with⟨rfl,h2⟩|⟨rfl,h2⟩
   ·exact .inl ⟨rfl,h2⟩
   exact .inr ⟨rfl,h2⟩
  rw[if_neg h0]at hr;simp only[ar7.mk.injEq]at hr;exact absurd hr.1 h0
theorem aFH (hL:qF S ns fs nb names) (h:Sep w0 w (bB f q p S::R)):
  Calls Tryz.prog 40 #[pV f,aC []] w fun e w'=>
   (∃(v:Value) (l:List (List UInt8)) (S':VS),e= .returned (.tuple #[v,iV 0])/\l.length=(eP ns []).length/\qF S' ns fs nb names/\S'.D=S.D/\Sep w0 w' (.sl 9 1 v l.length (l.map aC)::bB f q p S'::R))\/
   (e= .returned (.tuple #[.slice none 0 0,iV 11])/\S.D.off=true/\Gone w0 R f q p nb w'):=by
 by_cases ho:S.D.off=true
 ·refine(aaB (KT ho) h).mono ?_;rintro e w' ⟨rfl,h1⟩;exact .inr ⟨rfl,ho,S.D,by rw[<-hL.nbe];exact IY h,h1⟩
 have ho':S.D.off=false:=by simpa using ho
 obtain⟨g,dn,φ,hV⟩:=hL.vt
 obtain⟨h1,h2,_⟩:=hV.list []
 have e0:lsX ns []=0:=rfl
 refine(RJ (path:=[]) bK ho' hV.iP.vw hV.iP.akT h).mono ?_
 rintro e w' ⟨v,rfl,hS⟩
 refine .inl ⟨v,_,S.base,by rw[h1,e0],?_,hL.base,rfl,hS⟩
 rw[h2.length_eq]
 unfold lsN
 rw[if_pos e0]
 unfold U4
 rw[if_pos rfl,iJ]
theorem aFI (hL:qF S ns fs nb names) (h:Sep w0 w (bB f q p S::R)):
  Calls Tryz.prog 43 #[pV f] w fun e w'=>
   (e= .returned (iV 0)/\S.D.off=false/\Sep w0 w' (bB f q p S.base::R))\/(e= .returned (iV 11)/\Gone w0 R f q p nb w'):=by
 by_cases ho:S.D.off=true
 ·refine(awR (KT ho) h).mono ?_;rintro e w' ⟨rfl,h1⟩;exact .inr ⟨rfl,S.D,by rw[<-hL.nbe];exact IY h,h1⟩
 have ho':S.D.off=false:=by simpa using ho
 refine(akS ho' h).mono ?_
 rintro e w' ⟨rfl,h1⟩
 exact .inl ⟨rfl,ho',h1⟩
end
theorem add_zero' (a:Addr):a.add 0=a:=by simp[Addr.add]
end Go.Proofs.YtmjomdkleikgbaaGreat
namespace Go.Proofs.YtmjomdkleikgbaaGreat
open Go.RowKit Go.Shelf
theorem K7 {α:Type} (f:α->List Value) (m:Nat) (hf:∀x,(f x).length=m) (xs:List α):(xs.flatMap f).length=xs.length*m:=by
 induction xs with
 |nil=>simp
 |cons x xs ih=>rw[xI,jM,ih,hf,kH,Nat.add_mul,Nat.one_mul,Nat.add_comm]
theorem R6 {α:Type} (f:α->List Value) (m:Nat) (hf:∀x,(f x).length=m) {xs:List α} {i:Nat} {x:α} (h:xs[i]? =some x) (j:Nat) (hj:j<m):(xs.flatMap f)[i*m+j]? =(f x)[j]? :=by
 induction xs generalizing i with
 |nil=>simp at h
 |cons y xs ih=>
  rw[xI];cases i with
  |zero=>simp at h;subst h;rw[L8,GZ,EI (by rw[hf];exact hj)]
  |succ i=>(have e:(i+1)*m+j-(f y).length=i*m+j:=by rw[hf,Nat.add_mul];omega);rw[vT (by rw[hf,Nat.add_mul];omega),e];exact ih (by simpa using h)
theorem ah4 {w:World} {ad:Addr} {u:Value} (h:w.cell? ad=some u):ad.spot=none:=by
 unfold World.cell? at h;split at h
 ·split at h
  ·cases h
  rename_i hs;cases hb:ad.spot with
  |none=>rfl
  |some s=>rw[hb]at hs;simp at hs
 cases h
theorem Rd.place {w:World} {sz n:Nat} {v:Value} {cs:List Value} (h:Rd w sz v n cs) (h0:0<n) (hsz:0<sz):
  ∃g o c,v= .slice (some ⟨g,o,none⟩) n c/\n<=c/\c<=maxLen/\g<w.heap.size/\∀w',Below w.heap.size w w'->∀j,j<n*sz->w'.cell? ⟨g,o+j,none⟩=cs[j]? :=by
 obtain⟨hl,A,c,rfl,h1,h2,h3⟩:=h;obtain⟨ad,rfl,hb,hc⟩:=h3 h0;have hpos:0<cs.length:=by rw[hl];exact V3 h0 hsz
 have hsp:ad.spot=none:=by have h4:=hc 0 _ (gE hpos);rw[add_zero']at h4;exact ah4 h4
 obtain⟨g,o,s⟩:=ad;simp only at hsp;subst hsp;refine⟨g,o,c,rfl,h1,h2,hb,fun w' hw' j hj=>?_⟩;have hj':j<cs.length:=by rw[hl];exact hj
 have h4:=hc j _ (gE hj');rw[Addr.add_lit]at h4;rw[gE hj',<-h4];exact hw'.cell hb
def aKV (cs:List Value) (bs:List UInt8):Prop:=(∀u∈cs,u.oneCell'=true)/\cs=bs.map kY
def K8 (w:World) (v:Value) (n:Nat) (bs:List UInt8):Prop:=∃cs,Rd w 1 v n cs/\aKV cs bs
theorem K8.below {w w':World} {v:Value} {n:Nat} {bs:List UInt8} (h:K8 w v n bs) (hb:Below w.heap.size w w'):K8 w' v n bs:=by obtain⟨cs,h1,h2⟩:=h;exact⟨cs,h1.below hb,h2⟩
theorem K8.shape {w:World} {v:Value} {n:Nat} {bs:List UInt8} (h:K8 w v n bs):∃A c,v= .slice A n c/\n<=maxLen:=by obtain⟨cs,h1,_⟩:=h;exact h1.shape
structure TF where
 mode:Int
 bs:List UInt8
deriving DecidableEq
def TF.size (f:TF):Nat:=f.bs.length
def F8 (n:TN):List Value:=[aC n.path,.int .i64 n.file,.int .i64 n.mode]
def cZ (ns:List TN):List Value:=ns.flatMap F8
def tfC (x:TF×Value):List Value:=[.int .i64 x.1.mode,x.2]
def iF (fs:List TF) (vs:List Value):List Value:=(fs.zip vs).flatMap tfC
theorem aeE (ns:List TN):(cZ ns).length=ns.length*3:=by rw[cZ,K7 F8 3 (fun _=>rfl)]
theorem bL {ns:List TN} {i:Nat} {n:TN} (h:ns[i]? =some n) (j:Nat) (hj:j<3):(cZ ns)[i*3+j]? =(F8 n)[j]? :=
 R6 F8 3 (fun _=>rfl) h j hj
theorem eD {fs:List TF} {vs:List Value} {i:Nat} {f:TF} {u:Value} (h:fs[i]? =some f) (hu:vs[i]? =some u) (j:Nat) (hj:j<2):(iF fs vs)[i*2+j]? =(tfC (f,u))[j]? :=
 R6 tfC 2 (fun _=>rfl) (by rw[List.getElem?_zip_eq_some];exact⟨h,hu⟩) j hj
structure gW (w:World) (nv fv:Value) (ns:List TN) (fs:List TF) (vs:List Value):Prop where
 len:vs.length=fs.length
 nodes:Rd w 3 nv ns.length (cZ ns)
 files:Rd w 2 fv fs.length (iF fs vs)
 data:∀(k:Nat) u f,vs[k]? =some u->fs[k]? =some f->K8 w u f.size f.bs
theorem gW.below {w w':World} {nv fv:Value} {ns:List TN} {fs:List TF} {vs:List Value} (h:gW w nv fv ns fs vs) (hb:Below w.heap.size w w'):gW w' nv fv ns fs vs:=
 ⟨h.len,h.nodes.below hb,h.files.below hb,fun k u e hu he=>(h.data k u e hu he).below hb⟩
structure mK (ns:List TN) (fs:List TF):Prop where
 few:ns.length<=300
 CK:fs.length<=300
 short:∀n∈ns,n.path.length<=40000
 size:∀f∈fs,f.size<=1048576
structure zB (ns:List TN) (fs:List TF):Prop where
 few:ns.length<=300
 CK:fs.length<=300
 short:∀n∈ns,n.path.length<=9223372036854775807
 size:∀f∈fs,f.size<=9223372036854775807
theorem mK.mm {ns:List TN} {fs:List TF} (h:mK ns fs):zB ns fs:=⟨h.few,h.CK,fun n hn=>AY (h.short n hn) aR,fun f hf=>AY (h.size f hf) aR⟩
def nD (p:List UInt8):Nat:=(max 0 (Lib.lastIndexByte ⟨p.toArray⟩ 47)).toNat
def aZ (p:List UInt8):List UInt8:=if aV p=true then p.take (nD p)else []
theorem JH (p:List UInt8) (n:Nat):(⟨p.toArray⟩:ByteArray).extract 0 n=⟨(p.take n).toArray⟩:=by
 have e:((⟨p.toArray⟩:ByteArray).extract 0 n).data.toList=p.take n:=by rw[Lib.extract_data];simp
 generalize(⟨p.toArray⟩:ByteArray).extract 0 n=t at e;obtain⟨⟨l⟩⟩:=t;simp at e;rw[e]
def K9 (f:TF):Bool:=decide (8192<f.size)
def lY (ns:List TN) (fs:List TF):Bool:=(decide (256<ns.length)||decide (256<fs.length))||fs.any K9
end Go.Proofs.YtmjomdkleikgbaaGreat
namespace Go.Proofs.YtmjomdkleikgbaaGreat
open Go.RowKit
theorem mH (p:List UInt8):Op.bytesLess p p=false:=by
 induction p with
 |nil=>rfl
 |cons a p ih=>simp[Op.bytesLess,ih]
theorem aeF :∀ {p q:List UInt8},Op.bytesLess p q=true->Op.bytesLess q p=false
 |[],[],h=>by simp[Op.bytesLess]at h
 |[],_::_,_=>rfl
 |_::_,[],h=>by simp[Op.bytesLess]at h
 |a::p,b::q,h=>by
  unfold Op.bytesLess at h ⊢;rw[M8,sP,tL,jN]at h;rcases h with h|⟨rfl,h⟩
  ·(have h1:¬b<a:=fun h2=>by have:=UInt8.lt_iff_toNat_lt.1 h;have:=UInt8.lt_iff_toNat_lt.1 h2;omega);(have h2:b≠a:=fun e=>by subst e;exact absurd h bK);simp[h1,h2]
  simp[aeF h]
def iB (m:Int):Bool:=decide (0<=m)&&decide (m<=511)
def qH (pre:List TN) (p:List UInt8):Int:=pre.foldl (fun k m=>if m.path=p then(if m.file= -1 then 1 else 2)else k) (if p=[]then 1 else 0)
theorem vJ (pre:List TN) (n:TN) (p:List UInt8):qH (pre++[n]) p=if n.path=p then(if n.file= -1 then 1 else 2)else qH pre p:=by unfold qH;rw[OW];rfl
def iH (ns:List TN):Nat->List UInt8
 |0=>[]
 |i+1=>((ns[i]?).map (·.path)).getD []
def ah5 (p q:List UInt8):Bool:=Op.bytesLess p q||p==q
def iQ (pre:List TN) (last:List UInt8) (k:Nat) (n:TN):Bool:=
 ((((aV n.path&& !ah5 n.path last)&&decide (qH pre (aZ n.path)=1))&&decide (-1<=n.file))&&decide (n.file<=(k:Int)))&&(if n.file= -1 then iB n.mode else decide (n.mode=0))
def gU (k:Nat) (n:TN):Nat:=if n.file=(k:Int)then k+1 else k
def runK (ns:List TN):Nat->Option Nat
 |0=>some 0
 |i+1=>match runK ns i with
  |none=>none
  |some k=>match ns[i]? with
   |none=>some k
   |some n=>if iQ (ns.take i) (iH ns i) k n=true then some (gU k n)else none
def iI (ns:List TN) (fs:List TF):Int:=if lY ns fs=true then 31 else if runK ns ns.length=some fs.length/\fs.all (fun f=>iB f.mode)=true then 0 else 30
theorem rP {ns:List TN} {i k:Nat} {n:TN} (h:runK ns i=some k) (hn:ns[i]? =some n):runK ns (i+1)=if iQ (ns.take i) (iH ns i) k n=true then some (gU k n)else none:=by
 show(match runK ns i with
  |none=>none
  |some k=>match ns[i]? with
   |none=>some k
   |some n=>if iQ (ns.take i) (iH ns i) k n=true then some (gU k n)else none)=_
 rw[h];simp only;rw[hn]
theorem XF {ns:List TN} {i:Nat} (h:runK ns i=none):∀j,runK ns (i+j)=none:=by
 intro j
 induction j with
 |zero=>exact h
 |succ j ih=>
  show(match runK ns (i+j)with
   |none=>none
   |some k=>match ns[i+j]? with
    |none=>some k
    |some n=>if iQ (ns.take (i+j)) (iH ns (i+j)) k n=true then some (gU k n)else none)=none
  rw[ih]
theorem aw4 {ns:List TN} {fs:List TF} (hb:lY ns fs=false) (h:runK ns ns.length=some fs.length) (h2:fs.all (fun f=>iB f.mode)=true):iI ns fs=0:=by unfold iI;rw[hb,if_neg aR,if_pos ⟨h,h2⟩]
theorem R8 :∀ {p q:List UInt8},Op.bytesLess p q=false->p≠q->Op.bytesLess q p=true
 |[],[],_,h=>absurd rfl h
 |[],_::_,h,_=>by simp[Op.bytesLess]at h
 |_::_,[],_,_=>by simp[Op.bytesLess]
 |a::p,b::q,h,hne=>by
  unfold Op.bytesLess at h ⊢;rw[Y5,Bool.and_eq_false_iff,agL]at h;obtain⟨h1,h2⟩:=h;by_cases e:a=b
  ·subst e;have h3:Op.bytesLess p q=false:=by
    rcases h2 with h2|h2
    ·simp at h2
    exact h2
   have:=R8 h3 (fun e=>hne (by rw[e]));simp[this]
  (have h4:b<a:=by rw[UInt8.lt_iff_toNat_lt]at h1 ⊢;(have:a.toNat≠b.toNat:=fun h=>e (UInt8.toNat_inj.1 h));omega);simp[h4]
theorem anR {p q:List UInt8} (h:ah5 p q=false):Op.bytesLess q p=true:=by unfold ah5 at h;rw[Y5]at h;exact R8 h.1 (by simpa using h.2)
theorem qI :∀ {p q r:List UInt8},Op.bytesLess p q=true->Op.bytesLess q r=true->Op.bytesLess p r=true
 |_,_,[],_,h=>by cases ‹List UInt8› <;>simp[Op.bytesLess]at h
 |[],_,_::_,_,_=>by simp[Op.bytesLess]
 |_::_,[],_::_,h,_=>by simp[Op.bytesLess]at h
 |a::p,b::q,c::r,h1,h2=>by
  unfold Op.bytesLess at h1 h2 ⊢;rw[M8,sP,tL,jN]at h1 h2 ⊢;rcases h1 with h1|⟨rfl,h1⟩
  ·rcases h2 with h2|⟨rfl,h2⟩
   ·exact Or.inl (by rw[UInt8.lt_iff_toNat_lt]at*;omega)
   exact Or.inl h1
  rcases h2 with h2|⟨rfl,h2⟩
  ·exact Or.inl h2
  exact Or.inr ⟨rfl,qI h1 h2⟩
structure fF (ns:List TN) (fs:List TF):Prop where
 few:ns.length<=256
 CK:fs.length<=256
 size:∀f∈fs,f.size<=8192
 SC:∀f∈fs,iB f.mode=true
 run:runK ns ns.length=some fs.length
theorem SE (k:Nat) (n:TN):k<=gU k n:=by unfold gU;split<;>omega
theorem SF {ns:List TN}:∀ {j m:Nat},runK ns j=some m->∀i,i<j->∀n,ns[i]? =some n->∃k,runK ns i=some k/\iQ (ns.take i) (iH ns i) k n=true/\gU k n<=m:=by
 intro j
 induction j with
 |zero=>intro m _ i hi;omega
 |succ j ih=>
  intro m h i hi n hn;cases hr:runK ns j with
  |none=>rw[XF hr 1]at h;cases h
  |some k=>
   cases hj:ns[j]? with
   |none=>
    have hlt:=(gF.1 hn).1;have:ns.length<=j:=List.getElem?_eq_none_iff.1 hj;have h2:runK ns (j+1)=some k:=by
     show(match runK ns j with
      |none=>none
      |some k=>match ns[j]? with
       |none=>some k
       |some n=>if iQ (ns.take j) (iH ns j) k n=true then some (gU k n)else none)=_
     rw[hr,hj]
    rw[h2]at h;cases h;exact ih hr i aD n hn
   |some nj=>
    rw[rP hr hj]at h;split at h
    ·rename_i ho;cases h;by_cases hij:i=j
     ·subst hij;rw[hj]at hn;cases hn;exact⟨k,hr,ho,iC _⟩
     obtain⟨k2,h1,h2,h3⟩:=ih hr i aD n hn;exact⟨k2,h1,h2,by have:=SE k nj;omega⟩
    cases h
theorem qJ {pre:List TN} {last:List UInt8} {k:Nat} {n:TN} (h:iQ pre last k n=true):
  aV n.path=true/\Op.bytesLess last n.path=true/\qH pre (aZ n.path)=1/\ -1<=n.file/\n.file<=(k:Int)/\(n.file= -1->iB n.mode=true)/\(n.file≠ -1->n.mode=0):=by
 unfold iQ at h;simp only[sP,jN,LX]at h;obtain⟨⟨⟨⟨⟨h1,h2⟩,h3⟩,h4⟩,h5⟩,h6⟩:=h;refine⟨h1,anR h2,h3,h4,h5,fun e=>?_,fun e=>?_⟩
 ·rw[if_pos e]at h6;exact h6
 rw[if_neg e]at h6;simpa using h6
theorem fF.at_ {ns:List TN} {fs:List TF} (h:fF ns fs) {i:Nat} {n:TN} (hn:ns[i]? =some n):
  aV n.path=true/\Op.bytesLess (iH ns i) n.path=true/\qH (ns.take i) (aZ n.path)=1/\ -1<=n.file/\n.file<(fs.length:Int)/\(n.file= -1->iB n.mode=true)/\(n.file≠ -1->n.mode=0):=by
 obtain⟨k,h1,h2,h3⟩:=SF h.run i (gF.1 hn).1 n hn;obtain⟨a,b,c,d,e,f,g⟩:=qJ h2;refine⟨a,b,c,d,?_,f,g⟩;unfold gU at h3;split at h3<;>omega
theorem fF.mem {ns:List TN} {fs:List TF} (h:fF ns fs) {n:TN} (hn:n∈ns):
  aV n.path=true/\ -1<=n.file/\n.file<(fs.length:Int)/\(n.file= -1->iB n.mode=true)/\(n.file≠ -1->n.mode=0):=by
 obtain⟨i,hi⟩:=List.mem_iff_getElem?.1 hn;obtain⟨a,b,c,d,e,f,g⟩:=h.at_ hi;exact⟨a,d,e,f,g⟩
theorem fF.up {ns:List TN} {fs:List TF} (h:fF ns fs):ns.Pairwise fun a b=>Op.bytesLess a.path b.path=true:=by
 rw[EX];intro i j hi hj hij;obtain⟨d,rfl⟩:∃d,j=i+1+d:=⟨j-i-1,by omega⟩;clear hij
 induction d with
 |zero=>have:=(h.at_ (gE hj)).2.1;(have e:iH ns (i+1)=ns[i].path:=by(show((ns[i]?).map (·.path)).getD []=_);rw[gE hi];rfl);change Op.bytesLess (iH ns (i+1)) _=true at this;rw[e]at this;exact this
 |succ d ih=>have h1:=ih aD;have h2:=(h.at_ (gE hj)).2.1;(have e:iH ns (i+1+(d+1))=(ns[i+1+d]'aD).path:=by(show((ns[i+1+d]?).map (·.path)).getD []=_);rw[gE aD];rfl);rw[e]at h2;exact qI h1 h2
theorem fF.ne {ns:List TN} {fs:List TF} (h:fF ns fs):ns.Pairwise fun a b=>a.path≠b.path:=
 h.up.imp fun {a b} hl e=>by rw[e,mH]at hl;cases hl
def pK (ns:List TN) (p:List UInt8):Nat:=ns.countP fun n=>decide (aZ n.path=p)
theorem aeG {l:List UInt8} (h:l.length<1):iL l=false:=by
 have:¬0<l.length:=by omega
 unfold iL;simp only[this,decide_false,O1]
theorem ah6 {l:List UInt8} (h:14<l.length):iL l=false:=by
 have:¬l.length<=14:=by omega
 unfold iL;simp only[this,decide_false,Bool.and_false,O1]
theorem ah7 {l:List UInt8} (h:dots l=true):iL l=false:=by unfold iL;simp only[h,Bool.not_true,Bool.and_false,O1]
theorem anS {l:List UInt8} (h0:1<=l.length) (h1:l.length<=14) (hd:dots l=false):iL l=l.all fun c=>lU c.toNat:=by have h0':0<l.length:=h0;unfold iL;simp only[h0',h1,hd,decide_true,Bool.not_false,Bool.and_true,Bool.true_and]
theorem aw5 {l:List UInt8} (h:dots l=false):(l==[46])=false/\(l==[46,46])=false:=by unfold dots at h;exact Y5.1 h
theorem asC {D:List UInt8} {q:UInt8->Bool} {i:Nat} (hi:i<D.length) (h:(D.take i).all q=true) (hq:q D[i]=true):(D.take (i+1)).all q=true:=by rw[pI,gE hi,List.all_append,h];simp[hq]
theorem aw6 {D:List UInt8} {q:UInt8->Bool} {i:Nat} (hi:i<D.length) (hq:q D[i]=false):D.all q=false:=by
 cases h:D.all q with
 |false=>rfl
 |true=>rw[List.all_eq_true.1 h _ (nW hi)]at hq;cases hq
theorem ah8 (x:Int):x=46\/x=45\/(x<48/\x≠46/\x≠45)\/(48<=x/\x<=57)\/x=95\/(57<x/\x<97/\x≠95)\/(97<=x/\x<=122)\/122<x:=by omega
theorem ah9 {x:Nat} (h:(97<=(x:Int)/\(x:Int)<=122)\/(48<=(x:Int)/\(x:Int)<=57)\/(x:Int)=46\/(x:Int)=95\/(x:Int)=45):lU x=true:=by unfold lU;simp only[M8,sP,jN,tL];omega
theorem anT {x:Nat} (h:¬((97<=(x:Int)/\(x:Int)<=122)\/(48<=(x:Int)/\(x:Int)<=57)\/(x:Int)=46\/(x:Int)=95\/(x:Int)=45)):lU x=false:=by
 cases e:lU x with
 |false=>rfl
 |true=>unfold lU at e;simp only[M8,sP,jN,tL]at e;omega
theorem Z27 {P:Prop} (h:P:=by go_enter Tryz.func159,Tryz.ntmps159;go_wp2_with fail;go_ret;exact⟨rfl,rfl⟩):P:=h
theorem aeH (s:ByteArray) (w:World) (hs:s.size<=4611686018427387904):
  Calls Tryz.prog 159 #[.string s] w fun e w'=>e= .returned (.bool (iL s.data.toList))/\w'=w:=by
 have hsz:s.size=s.data.toList.length:=Lib.size_eq s;have htl:s.toList=s.data.toList:=Lib.toList_data s;by_cases h0:s.size<1
 case pos=>(have b1:(s.size:Int)<1:=by omega);have hr:=aeG (hsz▸h0);rw[hr];clear hsz htl;exact Z27
 by_cases h1:14<s.size
 case pos=>(have b1:¬(s.size:Int)<1:=by omega);(have b2:(14:Int)<(s.size:Int):=by omega);have hr:=ah6 (hsz▸h1);rw[hr];clear hsz htl;exact Z27
 have b1:¬(s.size:Int)<1:=by omega
 have b2:¬(14:Int)<(s.size:Int):=by omega
 by_cases hd:dots s.data.toList=true
 case pos=>
  have hr:=ah7 hd;rw[hr];unfold dots at hd;rw[<-htl,M8]at hd;clear hsz htl;have hd:(s.toList==[46])=true\/((s.toList==[46])=false/\(s.toList==[46,46])=true):=by
   cases h:s.toList==[46]with
   |true=>exact .inl rfl
   |false=>rw[h]at hd;exact .inr ⟨rfl,by simpa using hd⟩
  rcases hd with hd|⟨hd,hd3⟩
  ·exact Z27
  exact Z27
 have hd':dots s.data.toList=false:=by simpa using hd
 obtain⟨hd1,hd2⟩:=aw5 hd';have hr:=anS aD aD hd';rw[<-htl]at hd1 hd2;rw[hr];obtain⟨R,hR⟩:∃R,R=s.data.toList.all fun c=>lU c.toNat:=⟨_,rfl⟩
 rw[<-hR];have hR':=Lh hR;have hsz':=Lh hsz;clear hsz htl hd hr hd' hR;go_enter Tryz.func159,Tryz.ntmps159;go_wp2_with fail;go_loopg[3] s.size (fun g ii wr=>∃i:Nat,i<=s.size/\Hid (g=s.size-i)/\ii=iV i/\wr=w/\Hid (((s.data.toList.take i).all fun c=>lU c.toNat)=true))
 case atStart=>exact⟨0,by omega,rfl,rfl,rfl,rfl⟩
 obtain⟨i,hi,hm,rfl,rfl,hal⟩:=hrel;by_cases hlt:i<s.size
 case pos=>
  (have c1:(0:Int)<=(i:Int):=by omega);(have c2:(i:Int)<(s.size:Int):=by omega);have hil:=Lh (hsz'.out▸hlt);(have hnext:Hid (lU s[i].toNat=true->((s.data.toList.take (i+1)).all fun c=>lU c.toNat)=true):=fun h=>asC (D:=s.data.toList) hil.out hal.out h);(have hbad:Hid (lU s[i].toNat=false->R=false):=fun h=>hR'.out.trans (aw6 (D:=s.data.toList) hil.out h));clear hal;(rcases ah8 (s[i].toNat:Int)with h|h|h|h|h|h|h|h);all_goals
   first |(have b46:((s[i].toNat:Int)==46)=true:=tL.2 aD)|(have b46:((s[i].toNat:Int)==46)=false:=jU.2 aD)
   first |(have b45:((s[i].toNat:Int)==45)=true:=tL.2 aD)|(have b45:((s[i].toNat:Int)==45)=false:=jU.2 aD)
   first |(have b95:((s[i].toNat:Int)==95)=true:=tL.2 aD)|(have b95:((s[i].toNat:Int)==95)=false:=jU.2 aD)
   first |(have b97:97<=(s[i].toNat:Int):=by omega)|(have b97:(s[i].toNat:Int)<97:=by omega)
   first |(have b48:48<=(s[i].toNat:Int):=by omega)|(have b48:(s[i].toNat:Int)<48:=by omega)
   first |(have aKW:(s[i].toNat:Int)<=122:=by omega)|(have aKW:122<(s[i].toNat:Int):=by omega)
   first |(have b57:(s[i].toNat:Int)<=57:=by omega)|(have b57:57<(s[i].toNat:Int):=by omega)
   have h':=Lh h
   clear h
   go_wp2_with fail
   all_goals first
    |(go_roundg (s.size-(i+1))
      case measure=>rw[hm.out];omega
      case rel=>exact⟨i+1,by omega,rfl,by go_num,rfl,hnext.out (ah9 (by have:=h'.out;omega))⟩)
    |(go_ret
      refine⟨?_,rfl⟩
      rw[hbad.out (anT (by have:=h'.out;omega))]
      rfl)
    |(exfalso
      simp_all
      done)
    |(exfalso
      simp_all
      omega)
 have e:i=s.size:=by omega
 have hfin:Hid (R=true):=by have h:=hal.out;rw[e,hsz'.out,M7]at h;exact hR'.out.trans h
 have c2:¬(i:Int)<(s.size:Int):=by omega
 clear hal;go_wp2_with fail;go_ret;refine⟨?_,rfl⟩;rw[hfin.out];rfl
theorem XG :(Tryz.prog.info? 9).map (fun i=>(i.zero,i.size,i.bytes))=some (some (.string ⟨#[]⟩),1,16):=by kernel_rfl
def aaS (v:Value) (L:List ByteArray):aW:=.sl 9 1 v L.length (L.map .string)
def lZ (b:ByteArray):List UInt8:=b.data.toList
theorem aiA {D:List UInt8} {f i:Nat} (hf:f<=i) (hi:i<D.length) (h47:D[i]=47) (hno:∀k (hk:k<D.length),f<=k->k<i->D[k]≠47):
  splitB (D.drop f)=(D.drop f).take (i-f)::splitB (D.drop (i+1)):=by
 have e:D.drop f=(D.drop f).take (i-f)++47::D.drop (i+1):=by
  conv=>lhs;rw[<-EJ (i-f) (D.drop f)]
  rw[L6,show f+(i-f)=i by omega,abL hi,h47]
 conv=>lhs;rw[e]
 refine MN fun hm=>?_
 obtain⟨k,hk,ek⟩:=List.mem_iff_getElem.1 hm;rw[List.getElem_take,ab1]at ek;rw[qP,rZ]at hk;exact hno (f+k) aD aD aD ek
theorem anU {D:List UInt8} {f:Nat} (hno:∀k (hk:k<D.length),f<=k->D[k]≠47):splitB (D.drop f)=[D.drop f]:=by
 refine oU fun hm=>?_
 obtain⟨k,hk,ek⟩:=List.mem_iff_getElem.1 hm;rw[ab1]at ek;rw[rZ]at hk;exact hno (f+k) aD aD ek
theorem aaT (p:List UInt8):(splitB p).length<=p.length+1:=by
 induction p with
 |nil=>exact iC _
 |cons c l ih=>obtain⟨h,t,e⟩:=sO l;rw[iG,e];rw[e]at ih;split<;>simp only[kH]at ih ⊢ <;>omega
theorem JI (p:ByteArray) (w:World) (hp:p.size<=100):
  Calls Tryz.prog 158 #[.string p] w fun e w'=>∃v L,e= .returned v/\L.map lZ=splitB p.data.toList/\Sep w w' [aaS v L]:=by
 have hsz:=Lh (Lib.size_eq p);obtain⟨i0,hif,hz0,hz1,hz2⟩:=info_parts XG;go_enter Tryz.func158,Tryz.ntmps158;go_wp2_with fail;go_loopw[3,4,5] (fun vo vf vi wr=>∃(L:List ByteArray) (f i:Nat),f<=i/\i<=p.size/\vf=iV f/\vi=iV i/\L.length<=i/\Hid (splitB p.data.toList=L.map lZ++splitB (p.data.toList.drop f))/\Hid (∀k (hk:k<p.data.toList.length),f<=k->k<i->p.data.toList[k]≠47)/\Sep w wr [aaS vo L]) (fun _ _ vi _=>p.size-(intOf vi).toNat)
 case atStart=>exact⟨[],0,0,by omega,by omega,rfl,rfl,by simp,by simp[Hid],(fun k hk h1 h2=>absurd h2 aD),(Sep.nil w).gZ _ _⟩
 obtain⟨L,f,i,hfi,hi,rfl,rfl,hLi,hsp,hno,hS⟩:=hrel;by_cases hlt:i<p.size
 case pos=>
  (have c1:(0:Int)<=(i:Int):=by omega);(have c2:(i:Int)<(p.size:Int):=by omega);(have c3:(0:Int)<=(f:Int):=by omega);(have c4:(f:Int)<=(i:Int):=by omega);(have c5:(i:Int)<=(p.size:Int):=by omega);by_cases h47:p[i]=47
  case pos=>
   (have b47:((p[i].toNat:Int)==47)=true:=by rw[h47];rfl);have hS1:=hS.alloc (.cells #[.string (p.extract f i)] 9);go_wp2_with(at_builtin;refine mQ 0 rfl _ _ 73 rfl 9 i0 (.string ⟨#[]⟩) 1 16 Tryz.underlying73 hif hz0 hz1 hz2 rfl aR hS1 _ _ _ rfl rfl ⟨wr.heap.size,0,none⟩ 1 1 [.string (p.extract f i)] rfl rfl (cell_one_new _ _ _) oCl aR vX aD ?_);intro g c w2 hS2 hz;(have dQ:Sep w w2 [aaS (sV g (L.length+1) c) (L++[p.extract f i])]:=by unfold aaS;rw[mZ,jM];exact hS2);have vI:=Lh dQ;have hl:=hsz.out;(have hex:lZ (p.extract f i)=(p.data.toList.drop f).take (i-f):=by(show(p.extract f i).data.toList=_);rw[Lib.extract_data]);(have hsp2:Hid (splitB p.data.toList=(L++[p.extract f i]).map lZ++splitB (p.data.toList.drop (i+1))):=by have h:=hsp.out;rw[aiA hfi aD h47 hno.out]at h;(show _=_);rw[h,mZ,pG,jV,zL,hex];rfl);(have bZ:Hid (∀k (hk:k<p.data.toList.length),i+1<=k->k<i+1->p.data.toList[k]≠47):=fun k hk h1 h2=>absurd h2 aD);clear hS hS1 hS2 hz dQ hl hex hsp hno;go_wp2_with fail;go_roundw
   ·exact⟨_,i+1,i+1,by omega,by omega,by go_num,by go_num,by rw[jM,oL];omega,hsp2,bZ,vI.out⟩
   simp[intOf];omega
  (have b47:((p[i].toNat:Int)==47)=false:=by rw[jU];intro h;exact h47 (UInt8.toNat_inj.1 (by show p[i].toNat=47;omega)));have bZ:Hid (∀k (hk:k<p.data.toList.length),f<=k->k<i+1->p.data.toList[k]≠47):=fun k hk h1 h2=>by
   by_cases e:k=i
   ·subst e;exact h47
   exact hno.out k hk h1 aD
  have hS':=Lh hS;clear hS hno;go_wp2_with fail;go_roundw
  ·exact⟨L,f,i+1,by omega,by omega,rfl,by go_num,by omega,hsp,bZ,hS'.out⟩
  simp[intOf];omega
 have c2:¬(i:Int)<(p.size:Int):=by omega
 have c3:(0:Int)<=(f:Int):=by omega
 have c4:(f:Int)<=(p.size:Int):=by omega
 have hl:=hsz.out;have hex:lZ (p.extract f p.size)=p.data.toList.drop f:=by(show(p.extract f p.size).data.toList=_);rw[Lib.extract_data,pM (by rw[rZ];omega)]
 have hfin:Hid ((L++[p.extract f p.size]).map lZ=splitB p.data.toList):=by have h:=hsp.out;rw[anU (fun k hk h1=>hno.out k hk h1 aD)]at h;(show _=_);rw[h,mZ,jV,zL,hex]
 have hS1:=hS.alloc (.cells #[.string (p.extract f p.size)] 9);clear hex hl hsp hno;go_wp2_with(at_builtin;refine mQ 0 rfl _ _ 73 rfl 9 i0 (.string ⟨#[]⟩) 1 16 Tryz.underlying73 hif hz0 hz1 hz2 rfl aR hS1 _ _ _ rfl rfl ⟨wr.heap.size,0,none⟩ 1 1 [.string (p.extract f p.size)] rfl rfl (cell_one_new _ _ _) oCl aR vX aD ?_);intro g c w2 hS2 hz;have dQ:Sep w w2 [aaS (sV g (L.length+1) c) (L++[p.extract f p.size])]:=by unfold aaS;rw[mZ,jM];exact hS2
 have vI:=Lh dQ;clear hS hS1 hS2 hz dQ;go_wp2_with fail;go_ret;exact⟨_,_,rfl,hfin.out,vI.out⟩
theorem M0 {b:List UInt8} (h:(47:UInt8)∉b):∀a:List UInt8,splitB (a++47::b)=splitB a++[b]
 |[]=>by(show splitB (47::b)=[[]]++[b]);rw[iG,if_pos rfl,oU h];rfl
 |c::a=>by
  have ih:=M0 h a;rw[kI,iG,iG,ih];split
  ·rfl
  obtain⟨x,t,e⟩:=sO a;rw[e];rfl
theorem kS (p:List UInt8):((47:UInt8)∉p/\nD p=0/\splitB p=[p])\/∃a b,p=a++47::b/\(47:UInt8)∉b/\nD p=a.length/\splitB p=splitB a++[b]:=by
 have key:∀j (hj:j<p.length),(((⟨p.toArray⟩:ByteArray).data[j]!).toNat:Int)=(p[j].toNat:Int):=fun j hj=>by(show((p.toArray[j]!).toNat:Int)=_);rw[getElem!_pos p.toArray j (by simpa using hj)];simp
 unfold nD;rcases Lib.lastIndexByte_spec ⟨p.toArray⟩ 47 with⟨h,hn⟩|⟨i,hi,h,h47,hn⟩
 ·left;(have h0:(47:UInt8)∉p:=fun hm=>by obtain⟨j,hj,e⟩:=List.mem_iff_getElem.1 hm;refine hn j hj ?_;rw[key j hj,e];rfl);exact⟨h0,by rw[h];rfl,oU h0⟩
 right;have hi':i<p.length:=hi;have e47:p[i]=47:=UInt8.toNat_inj.1 (by have:=key i hi';show p[i].toNat=47;omega);have hb:(47:UInt8)∉p.drop (i+1):=fun hm=>by obtain⟨j,hj,e⟩:=List.mem_iff_getElem.1 hm;rw[ab1]at e;rw[rZ]at hj;refine hn (i+1+j) aD (show i+1+j<p.length by omega) ?_;rw[key (i+1+j) aD,e];rfl
 have e:p=p.take i++47::p.drop (i+1):=by conv=>lhs;rw[<-EJ i p,abL hi',e47]
 refine⟨p.take i,p.drop (i+1),e,hb,?_,?_⟩
 ·rw[h,qP];omega
 conv=>lhs;rw[e]
 exact M0 hb _
theorem XH {p:List UInt8} {L:List (List UInt8)} (h:splitB p=L):(L.length<2->nD p=0)/\∀(h2:0<L.length),2<=L.length->nD p+(L[L.length-1]'aD).length+1=p.length:=by
 subst h;rcases kS p with⟨_,h0,e⟩|⟨a,b,e,hb,hs,e2⟩
 ·refine⟨fun _=>h0,fun h1 h2=>?_⟩;rw[e]at h2;exact absurd h2 bK
 have h1:=gJ a;have h3:0<(splitB a).length:=List.length_pos_iff.2 h1;refine⟨fun h=>?_,fun h2 h4=>?_⟩
 ·rw[e2,jM,oL]at h;omega
 have e3:(splitB p)[(splitB p).length-1]'aD=b:=by(have:(splitB p)[(splitB p).length-1]? =some b:=by rw[e2,jM,oL,OU,vT (iC _)];simp);obtain⟨_,h⟩:=gF.1 this;exact h
 rw[e3,hs];have:=congrArg List.length e;rw[jM,kH]at this;omega
theorem XI {w0 w:World} {v:Value} {L:List ByteArray} (h:0<L.length) (hS:Sep w0 w [aaS v L]):∃g c,v=sV g L.length c/\∀k (hk:k<L.length),w.cell? ⟨g,k,none⟩=some (.string L[k]):=by unfold aaS at hS;obtain⟨g,c,rfl,_⟩:=hS.kC 0 rfl h;refine⟨g,c,rfl,fun k hk=>?_⟩;have:=hS.cellAt 0 rfl k aD;rw[lC,gE hk]at this;exact this
theorem anV {L:List ByteArray} {i:Nat} (hi:i<L.length) (h:((L.take i).all fun b=>iL (lZ b))=true) (hq:iL (lZ L[i])=true):((L.take (i+1)).all fun b=>iL (lZ b))=true:=by rw[pI,gE hi,List.all_append,h];simp[hq]
theorem aw7 {l:List (List UInt8)} {x:List UInt8} (h:x∈l):x.length+1<=(l.map fun s=>s.length+1).sum:=by
 induction l with
 |nil=>cases h
 |cons a l ih=>
  rw[jV,qN];rcases kE.1 h with rfl|h
  ·omega
  have:=ih h;omega
theorem anW {p:ByteArray} {L:List ByteArray} (h:L.map lZ=splitB p.data.toList) {i:Nat} (hi:i<L.length):L[i].size<=p.size:=by
 have h1:lZ L[i]∈splitB p.data.toList:=by rw[<-h];exact List.mem_map_of_mem (nW hi)
 have h2:=aw7 h1;rw[<-RD]at h2;have h3:L[i].size=(lZ L[i]).length:=Lib.size_eq _;have h4:p.size=p.data.toList.length:=Lib.size_eq p;omega
theorem JJ (p:ByteArray) (w:World) (hs:p.size<=9223372036854775807):
  Calls Tryz.prog 88 #[.string p] w fun e w'=>e= .returned (.bool (aV p.data.toList))/\Below w.heap.size w w':=by
 have hsz:=Lib.size_eq p;rw[<-vH];by_cases aKX:100<p.size
 case pos=>(have b1:(100:Int)<(p.size:Int):=by omega);(have hr:NG p.data.toList=false:=by(have:¬p.data.toList.length<=100:=by omega);unfold NG;simp only[this,decide_false,O1]);rw[hr];clear hsz;go_enter Tryz.func88,Tryz.ntmps88;go_wp2_with fail;go_ret;exact⟨rfl,Below.refl _ _⟩
 have b1:¬(100:Int)<(p.size:Int):=by omega
 have hr:NG p.data.toList=(decide ((splitB p.data.toList).length<=6)&&(splitB p.data.toList).all iL):=by(have:p.data.toList.length<=100:=by omega);unfold NG;simp only[this,decide_true,Bool.true_and]
 rw[hr];obtain⟨R,hR⟩:∃R,R=(decide ((splitB p.data.toList).length<=6)&&(splitB p.data.toList).all iL):=⟨_,rfl⟩;rw[<-hR];have hR':=Lh hR;have hsp:=Lh (JI p w aD);clear hsz hr hR;go_enter Tryz.func88,Tryz.ntmps88;go_wp2_with(go_at_call 158;refine hsp.out.mono ?_;rintro e w1 ⟨v,L,rfl,hL,hS⟩;have hL':=Lh hL;clear hL;obtain⟨g,c,rfl,hc⟩:=XI (by have h:=congrArg List.length hL'.out;rw[iJ]at h;rw[h];exact List.length_pos_iff.2 (gJ _)) hS;have hc':=Lh hc;have hb:=Lh hS.below;clear hS hc)
 ·(have h6:(6:Int)<(L.length:Int):=by assumption);(have hf:R=false:=by have h1:=congrArg List.length hL'.out;rw[iJ]at h1;(have h2:¬(splitB p.data.toList).length<=6:=by omega);rw[hR'.out];simp only[h2,decide_false,O1]);subst hf;go_ret;exact⟨rfl,hb.out⟩
 have h6:(L.length:Int)<=6:=by assumption
 have hRL:Hid (R=L.all fun b=>iL (lZ b)):=by have h1:=congrArg List.length hL'.out;rw[iJ]at h1;(have h2:(splitB p.data.toList).length<=6:=by omega);(show _=_);rw[hR'.out,<-hL'.out,List.all_map];rw[<-hL'.out]at h2;simp only[h2,decide_true,Bool.true_and];rfl
 have hps:=Lh (fun i (hi:i<L.length)=>AY (anW hL'.out hi) (show p.size<=4611686018427387904 by omega));clear hR' hsp;go_loopg[4] L.length (fun gk ii wr=>∃i:Nat,i<=L.length/\Hid (gk=L.length-i)/\ii=iV i/\wr=w1/\Hid (((L.take i).all fun b=>iL (lZ b))=true))
 case atStart=>exact⟨0,by omega,rfl,rfl,rfl,rfl⟩
 obtain⟨i,hi,hm,rfl,rfl,hal⟩:=hrel;by_cases hlt:i<L.length
 case pos=>
  (have c1:(0:Int)<=(i:Int):=by omega);(have c2:(i:Int)<(L.length:Int):=by omega);have d0:=hc'.out i hlt;have hname:=Lh (aeH L[i] wr (hps.out i hlt));have hn2:L[i].data.toList=lZ L[i]:=rfl;rw[hn2]at hname;cases hq:iL (lZ L[i])with
  |true=>
   have aKY:=Lh (anV hlt hal.out hq);rw[hq]at hname;clear hq hn2 hal;go_wp2_with(go_at_call 159;refine hname.out.mono ?_;rintro e w3 ⟨rfl,rfl⟩);go_roundg (L.length-(i+1))
   case measure=>rw[hm.out];omega
   case rel=>exact⟨i+1,by omega,rfl,by go_num,rfl,aKY⟩
  |false=>
   have hf:R=false:=by
    rw[hRL.out];cases h:L.all fun b=>iL (lZ b)with
    |false=>rfl
    |true=>rw[List.all_eq_true.1 h _ (nW hlt)]at hq;cases hq
   subst hf;rw[hq]at hname;clear hq hn2 hal hRL;go_wp2_with(go_at_call 159;refine hname.out.mono ?_;rintro e w3 ⟨rfl,rfl⟩);go_ret;exact⟨rfl,hb.out⟩
 have hf:R=true:=by have h:=hal.out;rw[pM aD]at h;rw[hRL.out];exact h
 subst hf;have c2:¬(i:Int)<(L.length:Int):=by omega
 clear hal hRL;go_wp2_with fail;go_ret;exact⟨rfl,hb.out⟩
def F9 (p:List UInt8):List (List UInt8):=if aV p=true then splitB p else []
theorem EC {p:List UInt8} (h:aV p=true):p.length<=100:=by have h2:=vH p;rw[h]at h2;unfold NG at h2;simp only[sP,jN]at h2;exact h2.1
theorem aaU {p:List UInt8} (w:World) (hs:p.length<=9223372036854775807):
  Calls Tryz.prog 115 #[aC p] w fun e w'=>∃v L,e= .returned v/\L.map lZ=F9 p/\Sep w w' [aaS v L]:=by
 have hv:=JJ ⟨p.toArray⟩ w (by rw[iN];omega);rw[uC]at hv;unfold F9;cases hval:aV p with
 |false=>rw[hval]at hv;have hv':=Lh hv;rw[if_neg aR];unfold aC at*;clear hv hval;go_enter Tryz.func115,Tryz.ntmps115;go_wp2_with(go_at_call 88;refine hv'.out.mono ?_;rintro e w1 ⟨rfl,hb⟩;replace hb:=Lh hb);go_ret;exact⟨_,[],rfl,rfl,((Sep.nil w).pure hb.out).gZ _ _⟩
 |true=>rw[hval]at hv;have hv':=Lh hv;have aKX:=EC hval;(have hsp:=fun W=>JI ⟨p.toArray⟩ W (by rw[iN];omega));have al0:=Lh hsp;rw[if_pos rfl];obtain⟨R,hR⟩:∃R,R=splitB p:=⟨_,rfl⟩;rw[<-hR];have hR':=Lh hR;unfold aC at*;clear hv hsp hval hR;go_enter Tryz.func115,Tryz.ntmps115;go_wp2_with(first |(go_at_call 88;refine hv'.out.mono ?_;rintro e w1 ⟨rfl,hb⟩;replace hb:=Lh hb)|(go_at_call 158;refine(al0.out _).mono ?_;rintro e w2 ⟨v,L,rfl,hL,hS⟩;replace hL:=Lh hL;replace hS:=Lh hS));go_ret;refine⟨_,L,rfl,?_,(((Sep.nil w).pure hb.out).join hS.out)⟩;rw[hR'.out];exact hL.out
theorem FH {p:List UInt8} (w:World) (hs:p.length<=9223372036854775807):
  Calls Tryz.prog 89 #[aC p] w fun e w'=>e= .returned (aC (aZ p))/\Below w.heap.size w w':=by
 have hn':=Lh (aaU (p:=p) w hs);by_cases h2:(F9 p).length<2
 ·have e0:aZ p=[]:=by
   unfold aZ;split
   ·rename_i hv;unfold F9 at h2;rw[if_pos hv]at h2;rw[(XH rfl).1 h2];rfl
   rfl
  rw[e0];have h2':=Lh h2;unfold aC at*;clear h2 e0;go_enter Tryz.func89,Tryz.ntmps89;go_wp2_with(go_at_call 115;refine hn'.out.mono ?_;rintro e w1 ⟨v,L,rfl,hL,hS⟩;obtain⟨A,c,rfl,_⟩:=(hS.rd 0 rfl).shape;(have hLl:(L.length:Int)<2:=by(have h:=congrArg List.length hL);rw[iJ]at h;(have:=h2'.out);omega);replace hS:=Lh hS;clear hL);go_ret;exact⟨rfl,hS.out.below⟩
 have hv:aV p=true:=by
  cases hv:aV p with
  |true=>rfl
  |false=>unfold F9 at h2;rw[hv]at h2;exact absurd bK h2
 replace hs:p.length<=1000000:=by have:=EC hv;omega
 have e0:aZ p=p.take (nD p):=by unfold aZ;rw[if_pos hv]
 have hnl:F9 p=splitB p:=by unfold F9;rw[if_pos hv]
 rw[e0];obtain⟨q,hq⟩:∃q,q=p.take (nD p):=⟨_,rfl⟩;rw[<-hq];have hq':=Lh hq;have aKZ:=Lh hnl;have h2':=Lh h2;unfold aC at*;clear h2 e0 hv hq hnl;go_enter Tryz.func89,Tryz.ntmps89;go_wp2_with(go_at_call 115;refine hn'.out.mono ?_;rintro e w1 ⟨v,L,rfl,hL,hS⟩;rw[aKZ.out]at hL h2';(have hLl:L.length=(splitB p).length:=by(have h:=congrArg List.length hL);rw[iJ]at h;exact h);(have h9:=h2'.out);obtain⟨g,c,rfl,hc⟩:=XI aD hS;(have hcl:=hc (L.length-1) aD);(have hx:nD p+(L[L.length-1]'aD).size+1=p.length:=by(have h:=(XH hL.symm).2 (by rw[iJ];omega) (by rw[iJ];omega));simp only[iJ,G5,lZ]at h;(have e7:(L[L.length-1]'aD).size=(L[L.length-1]'aD).data.toList.length:=Lib.size_eq _);omega);(have ez:((⟨p.toArray⟩:ByteArray).size:Int)=p.length:=by rw[iN]);(have hL2:¬((L.length:Int)<2):=by omega);(have hL3:2<=(L.length:Int):=by omega);(have hL4:(L.length:Int)<=1000001:=by(have h:=aaT p);omega);(have hls:((L[L.length-1]'aD).size:Int)<=1000000:=by omega);(have hx2:((p.length:Int)-((L[L.length-1]'aD).size:Int))-1=nD p:=by omega);(have q2:((L.length:Int)-1).toNat=L.length-1:=by omega);(have q3:nD p<=p.length:=by omega);(have hsl:Hid (Int.toNat ((p.length:Int)-((L[L.length-1]'aD).size:Int)-1)=nD p):=by(show _=_);omega);generalize L[L.length-1]'aD=lst at hcl hx hx2 hsl hls;replace hS:=Lh hS;clear hL h9 hc hLl);go_ret;refine⟨?_,hS.out.below⟩;rw[hq'.out,<-JH];rfl
def vK (n:Nat):Int:=if 8<((n:Int)+512-1)/512 then((n:Int)+512-1)/512+1 else((n:Int)+512-1)/512
def JK (Ns:List TN) (q:List UInt8):Option TN:=Ns.find? fun n=>n.path==q
def asD (n:Nat):Int:=max 1 (((n:Int)+16-1)/16)
theorem aw8 (n:Nat):1<=asD n/\asD n<=n+1:=by unfold asD;omega
end Go.Proofs.YtmjomdkleikgbaaGreat
