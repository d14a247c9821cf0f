/- FzE, FzF, QDocL1, QDocL2, QDocL3, QDocL4, QDocL5, QDocL6, QDocL7, QDocL8, QDocN, FyA, FyB, FyC, laid together. -/
import Derived.Test.YteihmbaimbogaaaGreatJ46
import Derived.Scope
namespace Go.Proofs.YteihmbaimbogaaaGreat
open Go.RowKit
set_option linter.unusedVariables false
set_option linter.unusedSimpArgs false
set_option linter.unusedSectionVars false
def toF (f:FT):TF:=⟨f.mode,f.bs⟩
def xS (fs:List FT):List TF:=fs.map toF
structure J7 (ns:List TN) (G:List TF):Prop where
 good:uN ns
 few:ns.length≤256
 file:∀n∈ns,¬n.file<0→n.file<G.length∧(iV G n.file).size≤8192∧eG (iV G n.file).mode=true
theorem ak4 (fs:List FT):(xS fs).length=fs.length:=List.length_map _
theorem ahF (fs:List FT) (k:Int):(iV (xS fs) k).size=(CS fs k).length:=by unfold iV xS CS;rw[gH,List.getElem?_map];cases fs[k.toNat]? <;>rfl
section
variable {r:Int→Int} {N X:List TN} {F G:List TF}
theorem acP (ha:Alike r N F X G) (hg:J7 X G) (hF:F.length≤256) (hs:∀f∈F,f.size≤8192):qF N F=0∧qE N=qE X∧oZ N F=oZ X G:=by
 obtain⟨e1,e2⟩:=acK ha hg.good.ne;refine⟨?_,e1,e2⟩;have hl:=NJ hg.good hg.few fun n hn hf=>(hg.file n hn hf).2
 have h2:=(y9 (qE X) (oZ X G)).trans (T9 hl);have hb:iZ N F=false:=by
  unfold iZ;rw[Bool.or_eq_false_iff,Bool.or_eq_false_iff,decide_eq_false_iff_not,decide_eq_false_iff_not,List.any_eq_false];refine⟨⟨?_,by omega⟩,fun f hf=>?_⟩
  ·have:=ha.perm.length_eq;have:=hg.few;rw[List.length_map]at*;omega
  have:=hs f hf;unfold PE;rw[decide_eq_true_eq];omega
 unfold qF;rw[hb,e1,e2,if_neg (by decide)];by_cases h3:iZ (qE X) (oZ X G)=true
 ·rw[if_pos h3]at h2;cases h2
 rw[if_neg h3]at h2;by_cases h4:jJ (qE X) (oZ X G)=true
 ·rw[if_pos h4]
 rw[if_neg h4]at h2;cases h2
theorem ahG (h:256<N.length):qF N F≠0:=by unfold qF iZ;rw[decide_eq_true h,Bool.true_or,Bool.true_or,if_pos rfl];decide
end
def oN (e:Int) (N:List TN) (F:List TF):Except Int (List TN×List FT)→Prop
 | .error k=>k≠0∧(if e=0 then(if qF N F=0 then 0 else 31)else e)=k
 | .ok X=>e=0∧qF N F=0∧J7 X.1 (xS X.2)∧qE N=qE X.1∧oZ N F=oZ X.1 (xS X.2)
theorem ahH {e:Int} {N:List TN} {F:List TF} (h:e≠0):oN e N F (.error e):=⟨h,by rw[if_neg h]⟩
theorem ahI {N:List TN} {F:List TF} (h:256<N.length):oN 0 N F (.error 31):=⟨by decide,by rw[if_pos rfl,if_neg (ahG h)]⟩
theorem ahJ {r:Int→Int} {N:List TN} {F:List TF} {X:List TN×List FT} (ha:Alike r N F X.1 (xS X.2)) (hg:J7 X.1 (xS X.2)) (hF:F.length≤256) (hs:∀f∈F,f.size≤8192):oN 0 N F (.ok X):=by obtain⟨h1,h2,h3⟩:=acP ha hg hF hs;exact⟨rfl,h1,hg,h2,h3⟩
theorem XO {ns:List TN} (hf:∀n∈ns, -1≤n.file) (p:List UInt8):uV ns p=if dN ns p=0 then(if ns.length<256 then 0 else 31)else dN ns p:=by
 unfold uV dN ET;rw[akN hf];by_cases h:bT ns p p.length=0
 ·rw[if_pos h,if_pos h];cases hn:iH ns p with
  |none=>rfl
  |some n=>rfl
 simp only[if_neg h]
section
variable {r:Int→Int} {T:TR} {ns:List TN} {fs:List FT} (hg:J7 ns (xS fs)) (ha:Alike r T.1 T.2 ns (xS fs)) (hT:T.2.length≤T.1.length) (hS:∀f∈T.2,f.size≤8192)
include hg ha hT hS
theorem amO :T.1.length=ns.length:=by rw[ha.perm.length_eq,List.length_map]
theorem ahK {n:TN} (hab:dN ns n.path=0) (h9:ns.length<256) (hv:aP n.path=true) {G:List TF} (hG:∀m∈ns,¬m.file<0→m.file<G.length∧(iV G m.file).size≤8192∧eG (iV G m.file).mode=true)
  (hn:(n.file= -1∧eG n.mode=true)∨((0≤n.file∧n.mode=0)∧n.file<G.length∧(iV G n.file).size≤8192∧eG (iV G n.file).mode=true)):J7 (ns++[n]) G:=by
 obtain⟨hl,hh⟩:=XN hab;refine⟨hg.good.add hh hv (ahE hg.good.amN hv hl) (hn.imp id fun h=>h.1),by rw[List.length_append,List.length_singleton];omega,fun m hm hf=>?_⟩;rcases List.mem_append.1 hm with hm|hm
 ·exact hG m hm hf
 have:m=n:=by simpa using hm
 subst this;rcases hn with⟨h1,_⟩|⟨_,h1⟩
 ·omega
 exact h1
theorem grown {x:TF} (hx:x.size≤8192∧eG x.mode=true):∀m∈ns,¬m.file<0→m.file<(xS fs++[x]).length∧(iV (xS fs++[x]) m.file).size≤8192∧eG (iV (xS fs++[x]) m.file).mode=true:=fun m hm hf=>by obtain⟨h1,h2,h3⟩:=hg.file m hm hf;rw[List.length_append,J5 (by omega) h1];exact⟨by omega,h2,h3⟩
theorem ahL {p:List UInt8} {N:List TN} {F:List TF} {X:List TN×List FT} (hN:N.length=T.1.length+1) (key:dN ns p=0→ns.length<256→oN 0 N F (.ok X)):
  oN (dN T.1 p) N F (if uV ns p=0 then .ok X else .error (uV ns p)):=by
 have hl:=amO hg ha hT hS;rw[ha.absent hg.good.ne,XO hg.good.amN];by_cases h1:dN ns p=0
 ·rw[if_pos h1,h1];by_cases h2:ns.length<256
  ·rw[if_pos h2,if_pos rfl];exact key h1 h2
  rw[if_neg h2,if_neg (by decide)];exact ahI (by omega)
 rw[if_neg h1,if_neg h1];exact ahH h1
theorem ahM {p:List UInt8} {mode:Int} {bs:List UInt8} (hab:dN ns p=0) (h9:ns.length<256) (hv:aP p=true) (hm:eG mode=true) (hb:bs.length≤8192):
  oN 0 (T.1++[⟨p,T.2.length,0⟩]) (T.2++[⟨mode,bs⟩]) (.ok (fJ ns fs 2 mode.toNat p,mU fs 2 mode.toNat bs)):=by
 have h0:((mode.toNat:Nat):Int)=mode:=by unfold eG at hm;rw[Bool.and_eq_true,decide_eq_true_eq]at hm;omega
 have hl:=amO hg ha hT hS;have e:fJ ns fs 2 mode.toNat p=ns++[⟨p,(xS fs).length,0⟩]:=by unfold fJ;rw[if_neg (by decide),ak4]
 have e2:xS (mU fs 2 mode.toNat bs)=xS fs++[⟨mode,bs⟩]:=by unfold mU xS;rw[if_neg (by decide),List.map_append,h0];rfl
 have hx:(⟨mode,bs⟩:TF).size≤8192∧eG (⟨mode,bs⟩:TF).mode=true:=⟨hb,hm⟩;refine ahJ (r:=fun i=>if i=((xS fs).length:Int)then(T.2.length:Int)else r i) ?_ ?_ (by rw[List.length_append,List.length_singleton];omega) fun f hf=>?_
 ·(show Alike _ _ _ (fJ ns fs 2 mode.toNat p) (xS (mU fs 2 mode.toNat bs)));rw[e,e2];exact ha.O6 (fun n hn hf=>(hg.file n hn hf).1) p _
 ·(show J7 (fJ ns fs 2 mode.toNat p) (xS (mU fs 2 mode.toNat bs)));rw[e,e2];refine ahK hg ha hT hS (n:=⟨p,(xS fs).length,0⟩) hab h9 hv (grown hg ha hT hS hx) (.inr ⟨⟨by show(0:Int)≤((xS fs).length:Int);omega,rfl⟩,?_⟩);(show((xS fs).length:Int)<_∧_);rw[J6,List.length_append,List.length_singleton];exact⟨by omega,hx⟩
 rcases List.mem_append.1 hf with hf|hf
 ·exact hS f hf
 have:f=⟨mode,bs⟩:=by simpa using hf
 rw[this];exact hb
theorem aoC {p:List UInt8} {mode:Int} {bs:List UInt8} (hv:aP p=true) (hm:eG mode=true) (hb:bs.length≤8192):
  oN (dN T.1 p) (T.1++[⟨p,T.2.length,0⟩]) (T.2++[⟨mode,bs⟩]) (if uV ns p=0 then .ok (fJ ns fs 2 mode.toNat p,mU fs 2 mode.toNat bs)else .error (uV ns p)):=
 ahL hg ha hT hS (by simp) fun hab h9=>ahM hg ha hT hS hab h9 hv hm hb
end
end Go.Proofs.YteihmbaimbogaaaGreat
namespace Go.Proofs.YteihmbaimbogaaaGreat
open Go.RowKit
set_option linter.unusedVariables false
set_option linter.unusedSimpArgs false
theorem ahN {op:Int} {p q:List UInt8} {mode ref:Int} {cs:List Value} {len:Nat} (h:op=6→0≤ref→ref<cs.length→BD (cs.getD ref.toNat (.slice none 0 0))=len):AB op p q mode ref cs.length len=lL op p q mode ref cs:=by
 by_cases hr:op<1∨9<op
 ·unfold AB nD lL;rw[if_pos hr,if_pos];unfold bA;(have h1:∀k:Int,1≤k→k≤9→(op==k)=false:=fun k _ _=>by rw[beq_eq_false_iff_ne];omega);rw[h1 3 (by decide) (by decide),h1 4 (by decide) (by decide),h1 7 (by decide) (by decide),h1 1 (by decide) (by decide),h1 6 (by decide) (by decide),h1 8 (by decide) (by decide),h1 2 (by decide) (by decide),h1 5 (by decide) (by decide),h1 9 (by decide) (by decide)];rfl
 have h19:op=1∨op=2∨op=3∨op=4∨op=5∨op=6∨op=7∨op=8∨op=9:=by omega
 rcases h19 with rfl|rfl|rfl|rfl|rfl|rfl|rfl|rfl|rfl
 case inr.inr.inr.inr.inr.inl=>
  by_cases hf:0≤ref∧ref<cs.length
  ·rw[←h rfl hf.1 hf.2];simp[AB,nD,bA,lL,wC,qC,yV]
  (have h2:ref<0∨(cs.length:Int)≤ref:=by omega);simp[AB,nD,bA,lL,wC,qC,yV,h2]
 all_goals simp[AB,nD,bA,lL,wC,qC,yV]
structure qH (T:TR) (ns:List TN) (fs:List FT):Prop where
 good:J7 ns (xS fs)
 eq:T=(qE ns,oZ ns (xS fs))
section
variable {T:TR} {ns:List TN} {fs:List FT}
theorem qH.loose (h:qH T ns fs):fM T.1 T.2:=by rw[h.eq];exact NJ h.good.good h.good.few fun n hn hf=>(h.good.file n hn hf).2
theorem fM.le {ns:List TN} {fs:List TF} (ho:fM ns fs):fs.length≤ns.length:=by
 have key:∀(i m:Nat),runK ns i=some m→m≤i:=fun i=>by
  induction i with
  |zero=>intro m h;cases h;exact Nat.le_refl _
  |succ i ih=>
   intro m h;unfold runK at h;cases hr:runK ns i with
   |none=>rw[hr]at h;cases h
   |some k=>
    rw[hr]at h;have:=ih k hr;simp only at h;cases hn:ns[i]? with
    |none=>rw[hn]at h;cases h;omega
    |some n=>
     rw[hn]at h;simp only at h;split at h
     ·have e:=Option.some.inj h;unfold fV at e;split at e<;>omega
     cases h
 exact key _ _ ho.run
theorem qH.alike (h:qH T ns fs):Alike (fun i=>((dU (dF ns)).idxOf i:Nat)) T.1 T.2 ns (xS fs):=by rw[h.eq];exact CY ns (xS fs)
end
theorem ZA (k:Nat):tZ k=eO 1 k:=by unfold tZ eO;rw[if_pos rfl];split<;>omega
theorem ahO (k:Nat):qA k=eO 2 k:=by unfold qA eO;rw[if_neg (show ¬(2:Nat)=1 by decide),if_pos (show(2:Nat)=2 from rfl)];split<;>split<;>omega
theorem UU {l m:List Int} (h:l.Perm m):l.sum=m.sum:=by
 induction h with
 |nil=>rfl
 |cons x _ ih=>rw[List.sum_cons,List.sum_cons,ih]
 |swap x y l=>simp only[List.sum_cons];omega
 |trans _ _ h1 h2=>rw[h1,h2]
theorem J8 (f:TN→Int):∀ns:List TN,(ns.map fun n=>if n.file= -1 then f n else 0).sum=((lV ns).map f).sum
 |[]=>rfl
 |n::t=>by
  unfold lV;rw[List.map_cons,List.sum_cons,J8 f t,List.filter_cons];by_cases h:n.file= -1
  ·rw[if_pos h,if_pos (by simpa using h),List.map_cons,List.sum_cons];rfl
  rw[if_neg h,if_neg (by simpa using h),Int.zero_add];rfl
section
variable {ns:List TN} {fs:List FT}
theorem NN (hg:uN ns):(dU (dF ns)).Perm (eF ns):=by
 refine(List.perm_ext_iff_of_nodup (acL _) (oL _)).2 fun k=>?_
 rw[jO];constructor
 ·intro h;obtain⟨n,hn,h1,h2⟩:=xK _ k h;exact⟨by omega,n,l5.1 hn,h1⟩
 rintro⟨h1,n,hn,rfl⟩;refine wD _ n (l5.2 hn) ?_;rcases hg.file n hn with⟨h2,_⟩|⟨h2,_⟩<;>omega
theorem UW (hg:uN ns) (f:List UInt8→Int):((qE ns).map fun n=>if n.file= -1 then f n.path else 0).sum=((lV ns).map fun n=>f n.path).sum:=by
 have ha:=CY ns [];rw[UU (ha.perm.map fun(n:TN)=>if n.file= -1 then f n.path else 0),List.map_map,←J8 fun n=>f n.path];congr 1;apply List.map_congr_left;intro n hn;show(if(ren _ n).file= -1 then f (ren _ n).path else 0)=_
 rw[kK];rcases hg.file n hn with⟨h1,_⟩|⟨h1,_⟩
 ·rw[xL (by omega)]
 have h2:=(ha.file n hn (by omega)).1;rw[wG (by omega),if_neg (show ¬((List.idxOf n.file (dU (dF ns)):Nat):Int)= -1 by omega),if_neg (show ¬n.file= -1 by omega)]
theorem ahP (fs:List FT) (k:Int):qA (iV (xS fs) k).size=eO 2 (CO fs k):=by
 have e:(CS fs k).length=CO fs k:=by unfold CO CS;cases fs[k.toNat]? <;>rfl
 rw[ahO,ahF,e]
theorem ZB (hg:uN ns):wdB (qE ns) (oZ ns (xS fs))=mJ ns fs:=by
 unfold wdB mJ dnB dfB;have hc:=fun p=>(CY ns (xS fs)).cnt p
 rw[hc,ZA,←ag2 ns hg.valid];have e1:((qE ns).map fun n=>if n.file= -1 then tZ (jT (qE ns) n.path)else 0).sum=((lV ns).map fun n=>eO 1 (gI ns (bK n))).sum:=by rw[UW hg fun p=>tZ (jT (qE ns) p)];congr 1;apply List.map_congr_left;intro n hn;(show tZ (jT (qE ns) n.path)=eO 1 (gI ns (splitB n.path)));rw[hc,ZA,ag1 ns hg.valid (sK (hg.valid n (fT.1 hn).1))]
 have e2:((oZ ns (xS fs)).map fun f=>qA f.size).sum=((eF ns).map fun k=>eO 2 (CO fs k)).sum:=by unfold oZ;(have h3:(fun f:TF=>qA f.size)∘iV (xS fs)=fun k=>eO 2 (CO fs k):=funext fun k=>by rw[Function.comp_apply,ahP]);rw[List.map_map,h3];exact UU ((NN hg).map _)
 rw[e1,e2]
theorem ZC (hg:uN ns):wdI (qE ns) (oZ ns (xS fs))=kD ns:=by
 unfold wdI kD dnI;have e1:((qE ns).map fun n=>if n.file= -1 then(1:Int)else 0).sum=(lV ns).length:=by rw[UW hg fun _=>1,FN fun _ _=>rfl]
 have e2:((oZ ns (xS fs)).length:Int)=(eF ns).length:=by unfold oZ;rw[List.length_map,(NN hg).length_eq]
 rw[e1,e2]
end
def uG (rB rI:Int) (op:Int) (p q:List UInt8) (mode ref:Int) (cs:List Value) (bs:List UInt8) (T:TR):Int:=
 if op=9 then 0 else if xR op p q mode ref cs bs T=0 then(if wdB (wH op p q mode bs T).1 (wH op p q mode bs T).2≤rB∧wdI (wH op p q mode bs T).1 (wH op p q mode bs T).2≤rI then 0 else 27)else xR op p q mode ref cs bs T
def worldT (rB rI:Int) (op:Int) (p q:List UInt8) (mode ref:Int) (cs:List Value) (bs:List UInt8) (T:TR):TR:=if op≠9∧uG rB rI op p q mode ref cs bs T=0 then wH op p q mode bs T else T
theorem LD {T:TR} {ns:List TN} {fs:List FT} (h:qH T ns fs) (nb names:Nat) {op:Int} {p q:List UInt8} {mode ref:Int} {cs:List Value} {bs:List UInt8} (hb:op=6→0≤ref→ref<cs.length→BD (cs.getD ref.toNat (.slice none 0 0))=bs.length)
  (hact:1≤op∧op≤8→aP p=true→(op=3∨op=4∨op=7→aP q=true)→(op=1∨op=6∨op=7∨op=8→0≤mode∧mode≤511)→(op=6→bs.length≤8192∧BD (cs.getD ref.toNat (.slice none 0 0))=bs.length)→oN (zB op p q T.1) (E8 op p q mode T) (LC op p q mode bs T) (CU ns fs op p q mode.toNat bs)):
  uG (lC nb names) names op p q mode ref cs bs T=(xY nb names ns fs op p q mode ref cs.length bs).e∧qH (worldT (lC nb names) names op p q mode ref cs bs T) (xY nb names ns fs op p q mode ref cs.length bs).ns (xY nb names ns fs op p q mode ref cs.length bs).fs:=by
 have hck:=ahN (op:=op) (p:=p) (q:=q) (mode:=mode) (ref:=ref) (cs:=cs) (len:=bs.length) hb;unfold worldT uG xY;by_cases h9:op=9
 ·subst h9;(have e0:AB 9 p q mode ref cs.length bs.length=0:=by rw[hck];rfl);rw[if_pos rfl,if_pos e0,if_pos rfl,if_neg (fun h=>h.1 rfl)];exact⟨rfl,h⟩
 by_cases h0:AB op p q mode ref cs.length bs.length=0
 ·rw[if_pos h0,if_neg h9,if_neg h9];rcases OZ h0 with e|⟨hk1,_,hk⟩
  ·exact absurd e h9
  have h19:=WE hk1;(have h18:1≤op∧op≤8:=by omega);have hs:=hact h18 hk.valid (fun e=>hk.anH (by rcases e with rfl|rfl|rfl<;>rfl)) (fun e=>hk.mode (by rcases e with rfl|rfl|rfl|rfl<;>rfl))
   (fun e=>⟨(hk.data e).2.2,hb e (hk.data e).1 (hk.data e).2.1⟩)
  (have e1:xR op p q mode ref cs bs T=if zB op p q T.1=0 then(if qF (E8 op p q mode T) (LC op p q mode bs T)=0 then 0 else 31)else zB op p q T.1:=by unfold xR doE;rw[if_neg (by omega),if_neg h9,←hck,if_pos h0]);(have e2:wH op p q mode bs T=(qE (E8 op p q mode T),oZ (E8 op p q mode T) (LC op p q mode bs T)):=by unfold wH;rw[if_neg h9]);cases hA:CU ns fs op p q mode.toNat bs with
  |error k=>rw[hA]at hs;have e3:xR op p q mode ref cs bs T=k:=e1.trans hs.2;rw[e3,if_neg hs.1,if_neg (fun x=>hs.1 x.2)];exact⟨rfl,h⟩
  |ok X=>
   rw[hA]at hs;obtain⟨s1,s2,s3,s4,s5⟩:=hs;(have e3:xR op p q mode ref cs bs T=0:=by rw[e1,s1,if_pos rfl,if_pos s2]);rw[e3,if_pos rfl,e2,s4,s5];simp only;rw[ZB s3.good,ZC s3.good];unfold vW;simp only;by_cases hf:pY nb names X.1 X.2=true
   ·(have hf2:mJ X.1 X.2≤(lC nb names:Nat)∧kD X.1≤(names:Nat):=by unfold pY at hf;rw[Bool.and_eq_true,decide_eq_true_eq,decide_eq_true_eq]at hf;exact hf);rw[if_pos hf,if_pos hf2,if_pos ⟨h9,rfl⟩];exact⟨rfl,s3,rfl⟩
   (have hf2:¬(mJ X.1 X.2≤(lC nb names:Nat)∧kD X.1≤(names:Nat)):=fun h=>hf (by unfold pY;rw[Bool.and_eq_true,decide_eq_true_eq,decide_eq_true_eq];exact h));rw[if_neg hf,if_neg hf2,if_neg (fun x=>absurd x.2 (by decide))];exact⟨rfl,h⟩
 have e1:xR op p q mode ref cs bs T=AB op p q mode ref cs.length bs.length:=by
  unfold xR;by_cases hr:op<1∨9<op
  ·rw[if_pos hr,hck];unfold lL;rw[if_pos hr]
  rw[if_neg hr,if_neg h9];unfold doE;rw[←hck,if_neg h0]
 rw[if_neg h0,if_neg h9,e1,if_neg h0,if_neg (fun x=>h0 x.2)];exact⟨rfl,h⟩
set_option maxRecDepth 100000 in
set_option maxHeartbeats 8000000 in
theorem ak5 {w:World} {nv fv:Value} {ns:List TN} {fs:List TF} {vs:List Value} (h:dS w nv fv ns fs vs) (ho:fM ns fs) {p tz:List UInt8} (hp9:p.length≤9223372036854775807) (ht9:tz.length≤9223372036854775807) (mode ref:Int) {sv:Value} {cs:List Value} (hsv:mO w sv cs) {b:List UInt8} (hbb:0≤ref→ref<(cs.length:Int)→lK w (cs.getD ref.toNat (.slice none 0 0)) b.length b∧b.length≤9223372036854775807):
  Calls Tryz.prog 54 #[.agg #[nv,fv],JV 6 p tz mode ref,sv] w fun e w'=>∃A3 n3 c3 A4 n4 c4,e= .returned (.tuple #[.agg #[.slice A3 n3 c3,.slice A4 n4 c4],.int .i64 (doE (lL 6 p tz mode ref cs) (dN ns p) (ns++[⟨p,fs.length,0⟩]) (fs++[⟨mode,b⟩]))])∧Sep w w' [.keep fun W=>doE (lL 6 p tz mode ref cs) (dN ns p) (ns++[⟨p,fs.length,0⟩]) (fs++[⟨mode,b⟩])=0→∃vs',dS W (.slice A3 n3 c3) (.slice A4 n4 c4) (qE (ns++[⟨p,fs.length,0⟩])) (oZ (ns++[⟨p,fs.length,0⟩]) (fs++[⟨mode,b⟩])) vs']:=by
 obtain⟨FX,hFX⟩:∃x,(fs++[⟨mode,b⟩])=x:=⟨_,rfl⟩;rw[hFX];have ayI:=Lh hFX;clear hFX;have hm:nI ns fs:=⟨by have:=ho.few;omega,by have:=ho.O9;omega,fun n hn=>by have:=sG (ho.mem hn).1;omega,fun f hf=>by have:=ho.size f hf;omega⟩;have amP:∀n∈ns, -1≤n.file:=fun n hn=>(ho.mem hn).2.1
 have hS0:=ahD w nv fv 6 p tz mode ref;have hlo:=fun(W:World) (hW:Below w.heap.size w W)=>PI (h.below hW) hm
 rw[acM ho]at hlo;have hfi:=fun(W:World) (hW:Below w.heap.size w W)=>PR (6:Int) (p:=p) (tz:=tz) (by omega) (by omega) mode ref (hsv.below hW)
 have amQ:=EZ h;have QC:=h.nodes;have hfp:=h.files;obtain⟨A1,sQ,rfl,hm1⟩:=h.nodes.shape;obtain⟨A2,rG,rfl,hm2⟩:=h.files.shape;obtain⟨Av,cv,rfl,_⟩:=hsv.1.shape;have b1:(ns.length:Int)≤256:=by have:=ho.few;omega
 have b2:(fs.length:Int)≤256:=by have:=ho.O9;omega
 obtain⟨zt0,zt1,zi0,zi1,zi2,zi3,zi4,zr0,zr1,zf0,zf1⟩:=jF [] hS0;obtain⟨j0,aa5,hj0,hj1,hj2⟩:=info_parts JX;obtain⟨k0,iM,hk0,hk1,hk2⟩:=info_parts JW;have gZ:=Lh hS0;have atO:=Lh hlo;have xP:=Lh hfi;have aoD:=Lh amQ;have EW:=Lh QC;have nX:=Lh hfp;have h':=Lh h;have hm':=Lh hm;have ho':=Lh ho;have aoE:=Lh amP;have CZ:=Lh hsv;have anC:=Lh hbb;clear hS0 hlo hfi amQ QC hfp h hm ho amP hsv hbb;obtain⟨FD,hFD⟩:∃x,lL 6 p tz mode ref cs=x:=⟨_,rfl⟩;have qK:=Lh hFD;rw[hFD]at xP ⊢;clear hFD;obtain⟨DE,hDE⟩:∃x,doE FD (dN ns p) (ns++[⟨p,fs.length,0⟩]) (FX)=x:=⟨_,rfl⟩;rw[hDE];have atP:=Lh hDE;clear hDE;unfold JV aM at*;by_cases hf:FD=0
 case neg=>(have hfb:(FD !=0)=true:=by simpa using hf);(have hde:Hid (DE=FD):=by have h:=atP.out;unfold doE at h;rw[if_neg hf]at h;exact h.symm);have hf':=Lh hf;clear hf;go_enter Tryz.func54,Tryz.ntmps54;go_wp2_with(first |(go_at_call 108;refine(atO.out _ gZ.out.below).mono ?_;rintro e w1 ⟨rfl,hb1⟩;(have hS1:=gZ.out.pure hb1);obtain⟨at0,at1,ai0,ai1,ai2,ai3,ai4,ar0,ar1,af0,af1⟩:=jF [] hS1;replace hS1:=Lh hS1;clear hb1)|(go_at_call 109;refine(xP.out _ hS1.out.below).mono ?_;rintro e w2 ⟨rfl,hb2⟩;(have hS2:=hS1.out.pure hb2);obtain⟨bt0,bt1,bi0,bi1,bi2,bi3,bi4,br0,br1,bf0,bf1⟩:=jF [] hS2;replace hS2:=Lh hS2;clear hb2));obtain⟨Q,hQ,e0,e1⟩:=J3 [] (.slice none 0 0) (.slice none 0 0) hS2.out;refine bodyPost_ret (dV rfl rfl e0 e1) rfl ?_;exact⟨none,0,0,none,0,0,by rw[hde.out];rfl,Sep.keep (X:=[]) (Y:=[]) ((Sep.nil w).pure hQ.below) fun _ W _ h0=>absurd h0 (by rw[hde.out];exact hf'.out)⟩
 subst hf;have hde:Hid (DE=if(dN ns p)=0 then(if qF (ns++[⟨p,fs.length,0⟩]) (FX)=0 then 0 else 31)else(dN ns p)):=by have h:=atP.out;unfold doE at h;rw[if_pos rfl]at h;exact h.symm
 obtain⟨hvp,hrest⟩:=(show aP p=true∧(0≤ref∧ref<(cs.length:Int)∧BD (cs.getD ref.toNat (.slice none 0 0))≤8192)from by(have h:=acA (show wC true false 6 p tz mode ref cs=0 from by have h:=qK.out;exact h));exact⟨h.1,h.2.2.2 rfl⟩);go_enter Tryz.func54,Tryz.ntmps54;go_wp2_with(first |(go_at_call 108;refine(atO.out _ gZ.out.below).mono ?_;rintro e w1 ⟨rfl,hb1⟩;(have hS1:=gZ.out.pure hb1);obtain⟨at0,at1,ai0,ai1,ai2,ai3,ai4,ar0,ar1,af0,af1⟩:=jF [] hS1;replace hS1:=Lh hS1;clear hb1)|(go_at_call 109;refine(xP.out _ hS1.out.below).mono ?_;rintro e w2 ⟨rfl,hb2⟩;(have hS2:=hS1.out.pure hb2);obtain⟨bt0,bt1,bi0,bi1,bi2,bi3,bi4,br0,br1,bf0,bf1⟩:=jF [] hS2;replace hS2:=Lh hS2;clear hb2)|(at_builtin;refine bL 0 rfl _ _ 29 rfl 110 k0 _ 3 32 Tryz.underlying29 iM hk0 hk1 hk2 rfl (by decide) (hS2.out.fO 110 3) _ 0 [] rfl rfl (.slice A1 ns.length sQ) ns.length (aZ ns) (by first |rfl|simp) (EW.out.below hS2.out.below) (nZ _) (by unfold maxLen;omega) (by omega) ?_));intro v3 w3 bG hz3;have hr3:Rd w3 3 v3 ns.length (aZ ns):=bG.rd 0 rfl;have ayV:=hr3.form;clear hr3;obtain⟨A3,c3,hv3⟩:=ayV;subst hv3;obtain⟨gt0,gt1,gi0,gi1,gi2,gi3,gi4,gr0,gr1,gf0,gf1⟩:=jF [_] bG;replace bG:=Lh bG;clear hz3 hS2 hS1 at0 at1 ai0 ai1 ai2 ai3 ai4 ar0 ar1 af0 af1 bt0 bt1 bi0 bi1 bi2 bi3 bi4 br0 br1 bf0 bf1 zt0 zt1 zi0 zi1 zi2 zi3 zi4 zr0 zr1 zf0 zf1;go_wp2_with(at_builtin;refine bL 0 rfl _ _ 30 rfl 112 j0 _ 2 32 Tryz.underlying30 aa5 hj0 hj1 hj2 rfl (by decide) (bG.out.fO 112 2) _ 0 [] rfl rfl (.slice A2 fs.length rG) fs.length (jC fs vs) (by first |rfl|simp) (nX.out.below bG.out.below) aoD.out (by unfold maxLen;omega) (by omega) ?_);intro v4 w4 iW hz4;have hr4:Rd w4 2 v4 fs.length (jC fs vs):=iW.rd 0 rfl;have ayW:=hr4.form;clear hr4;obtain⟨A4,c4,hv4⟩:=ayW;subst hv4;obtain⟨ht0,ht1,hi0,hi1,hi2,hi3,hi4,hr0,hr1,hf0,hf1⟩:=jF [_,_] iW;replace iW:=Lh iW;clear hz4 bG gt0 gt1 gi0 gi1 gi2 gi3 gi4 gr0 gr1 gf0 gf1;obtain⟨hr0,hr1,hr2⟩:=hrest;obtain⟨rk,hrk⟩:∃rk:Nat,ref=(rk:Int):=⟨ref.toNat,by omega⟩;subst hrk;have hrl:rk<cs.length:=by omega
 obtain⟨acQ,_⟩:=anC.out hr0 hr1;rw[Int.toNat_natCast,gH,gE hrl,Option.getD_some]at acQ hr2;obtain⟨Ad,cd,hcd,_⟩:=acQ.shape;rw[hcd]at acQ hr2;have hn0:b.length≤8192:=hr2;obtain⟨n0,ahQ⟩:∃n0,n0=b.length:=⟨_,rfl⟩;rw[←ahQ]at acQ hn0 hcd;have hfx:FX=fs++[⟨mode,b⟩]:=ayI.out.symm;replace ahQ:=Lh ahQ;obtain⟨gv,ov,cv2,ev,_,_,_,hcell⟩:=Rd.place CZ.out.1 (by omega) (by decide);cases ev;have hx:∀W,Below w.heap.size w W→W.cell? ⟨gv,ov+rk,none⟩=some (.slice Ad n0 cd):=fun W hW=>by have h:=hcell W hW (rk*1) (by omega);rw[Nat.mul_one]at h;rw[h,gE hrl,hcd]
 have hx':=Lh hx;have ahA:=Lh hfx;have atQ:=Lh acQ;have q0:(0:Int)≤(rk:Int):=by omega
 have q1:(rk:Int)<(cs.length:Int):=by omega
 clear hcell hx hfx hcd acQ hr2;have ak6:=fun(W:World) (hW:Below w.heap.size w W)=>K5 (h'.out.below hW) hm'.out aoE.out (p:=p) hvp
 unfold aM at ak6;generalize dN ns p=AE at ak6 hde;have amR:=Lh ak6;clear ak6;by_cases hae:AE=0
 case neg=>(have hab:(AE !=0)=true:=by simpa using hae);(have ahR:Hid (DE=AE):=by have h:=hde.out;rw[if_neg hae]at h;exact h);have ayX:=Lh hae;clear hae hde;go_wp2_with(first |(go_at_call 110;refine(CW _ _).mono ?_;rintro e wx ⟨rfl,hwx⟩;have hwy:=hwx.symm;clear hwx;subst hwy)|(go_at_call 112;refine(amR.out _ iW.out.below).mono ?_;rintro e w5 ⟨rfl,hb5⟩;(have hS5:=iW.out.pure hb5);obtain⟨dt0,dt1,di0,di1,di2,di3,di4,dr0,dr1,df0,df1⟩:=jF [_,_] hS5;replace hS5:=Lh hS5;clear hb5));obtain⟨Q,hQ,e0,e1⟩:=J3 [_,_] (.slice none 0 0) (.slice none 0 0) hS5.out;refine bodyPost_ret (dV rfl rfl e0 e1) rfl ?_;exact⟨none,0,0,none,0,0,by rw[ahR.out];rfl,Sep.keep (X:=[]) (Y:=[]) ((Sep.nil w).pure hQ.below) fun _ W _ h0=>absurd h0 (by rw[ahR.out];exact ayX.out)⟩
 subst hae;obtain⟨ME,hME⟩:∃x:Int,(if qF (ns++[⟨p,fs.length,0⟩]) (fs++[⟨mode,b⟩])=0 then(0:Int)else 31)=x:=⟨_,rfl⟩;have ahR:Hid (DE=ME):=by have h:=hde.out;rw[if_pos rfl,ahA.out,hME]at h;exact h
 have atS:=Lh hME;clear hde hME;go_wp2_with(first |(go_at_call 110;refine(CW _ _).mono ?_;rintro e wx ⟨rfl,hwx⟩;have hwy:=hwx.symm;clear hwx;subst hwy)|(go_at_call 112;refine(amR.out _ iW.out.below).mono ?_;rintro e w5 ⟨rfl,hb5⟩;(have hS5:=iW.out.pure hb5);obtain⟨dt0,dt1,di0,di1,di2,di3,di4,dr0,dr1,df0,df1⟩:=jF [_,_] hS5;replace hS5:=Lh hS5;clear hb5)|(at_builtin;have ay0:=hS5.out.alloc (.cells #[.string ⟨p.toArray⟩,.int .i64 fs.length,.int .i64 0] 110);refine gK 1 rfl _ _ 29 rfl 110 k0 _ 3 32 Tryz.underlying29 iM hk0 hk1 hk2 rfl (by decide) ay0 (.slice A3 ns.length c3) ns.length (aZ ns) rfl rfl ⟨w5.heap.size,0,none⟩ 1 1 [.string ⟨p.toArray⟩,.int .i64 fs.length,.int .i64 0] rfl rfl (iN _ _ _ _ (by simp)) (by simp[Value.oneCell']) (by decide) (by unfold maxLen;omega) (by omega) ?_));intro g6 c6 w6 kW hz6;obtain⟨et0,et1,ei0,ei1,ei2,ei3,ei4,er0,er1,ef0,ef1⟩:=jF [_,_] kW;replace kW:=Lh kW;clear hz6 hS5 dt0 dt1 di0 di1 di2 di3 di4 dr0 dr1 df0 df1;go_wp2_with fail;have hX:=kW.out.drew;have hcc:=fun(W:World) (X0 X1:aU) (h:Sep w W (X0::X1::PS w (.slice A1 ns.length sQ) (.slice A2 fs.length rG) 6 p tz mode rk))=>And.intro (jF [_,_] h).i3 (And.intro (jF [_,_] h).i4 (hx'.out _ h.below))
 have hE0:=hcc _ _ _ hX;have atU:=Lh hcc;have hX':=Lh hX;clear hcc hX kW et0 et1 ei0 ei1 ei2 ei3 ei4 er0 er1 ef0 ef1;refine aN (S:=fun w'=>w'.cell? ⟨w.heap.size+1,3,none⟩=some (.int .i64 mode)∧w'.cell? ⟨w.heap.size+1,4,none⟩=some (.int .i64 (rk:Int))∧w'.cell? ⟨gv,ov+rk,none⟩=some (.slice Ad n0 cd)) 11 (by kernel_rfl) ?_;simp only[List.size_toArray,List.length_cons,List.length_nil,Nat.reduceAdd];refine aA (i:=0) (v:=?_) hE0 rfl ?_ ?_;rotate_left
 ·rintro w ⟨e1,e2,e3⟩;go_simp;try with_reducible rfl
 simp only[Act.put,gD];refine aA (i:=1) (v:=?_) hE0 rfl ?_ ?_;rotate_left
 ·rintro w ⟨e1,e2,e3⟩;go_simp;try with_reducible rfl
 simp only[Act.put,gD];refine aA (i:=2) (v:=?_) hE0 rfl ?_ ?_;rotate_left
 ·rintro w ⟨e1,e2,e3⟩;go_simp;try with_reducible rfl
 simp only[Act.put,gD];refine aA (i:=3) (v:=?_) hE0 rfl ?_ ?_;rotate_left
 ·rintro w ⟨e1,e2,e3⟩;go_simp;try with_reducible rfl
 simp only[Act.put,gD];refine aA (i:=4) (v:=?_) hE0 rfl ?_ ?_;rotate_left
 ·rintro w ⟨e1,e2,e3⟩;go_simp;try with_reducible rfl
 simp only[Act.put,gD];refine aA (i:=5) (v:=?_) hE0 rfl ?_ ?_;rotate_left
 ·rintro w ⟨e1,e2,e3⟩;go_simp;try with_reducible rfl
 simp only[Act.put,gD];refine aA (i:=6) (v:=?_) hE0 rfl ?_ ?_;rotate_left
 ·rintro w ⟨e1,e2,e3⟩;go_simp;try with_reducible rfl
 simp only[Act.put,gD];refine aA (i:=7) (v:=?_) hE0 rfl ?_ ?_;rotate_left
 ·rintro w ⟨e1,e2,e3⟩;go_simp;try with_reducible rfl
 simp only[Act.put,gD];refine aC (i:=8) (by kernel_rfl) rfl (fun K hK=>?_);go_simp;refine hK _ _ (fun _=>hE0) ?_;clear hK K;try simp only[Act.put,gD]
 have hXa:=hX'.out.alloc (.cells #[.int .i64 mode,.slice Ad n0 cd] 112);have hEa:=atU.out _ _ _ hXa;have ahC:=Lh hXa;clear hXa;refine aC (i:=9) (by kernel_rfl) rfl (fun K hK=>?_);go_simp;refine hK _ _ (fun _=>hEa) ?_;clear hK K;try simp only[Act.put,gD]
 refine aC (i:=10) (by kernel_rfl) rfl (fun K hK=>?_);refine iO 0 (by rfl) _ _ 30 (by rfl) 112 j0 _ 2 32 Tryz.underlying30 aa5 hj0 hj1 hj2 rfl (by decide) ahC.out (.slice A4 fs.length c4) fs.length (jC fs vs) (by rfl) (by simp[Act.eval]) ⟨w6.heap.size,0,none⟩ 1 1 [.int .i64 mode,.slice Ad n0 cd] (by simp[Act.eval]) (by rfl) (iN _ _ _ _ (by simp)) (by simp[Value.oneCell']) (by decide) (by unfold maxLen;omega) (by omega) ?_;intro g9 c9 w9 DF hz9;have hE9:=atU.out _ _ _ DF;have hT:dS w9 (.slice (some ⟨g6,0,none⟩) (ns.length+1) c6) (.slice (some ⟨g9,0,none⟩) (fs.length+1) c9) (ns++[⟨p,fs.length,0⟩]) (fs++[⟨mode,b⟩]) (vs++[.slice Ad n0 cd]):=by
  refine⟨by rw[List.length_append,List.length_append,h'.out.len];rfl,?_,?_,fun k u f hu hf=>?_⟩
  ·have h9:=DF.rd 1 rfl;rw[List.length_append,List.length_singleton,PM];exact h9
  ·have h9:=DF.rd 0 rfl;rw[List.length_append,List.length_singleton,BI h'.out.len];exact h9
  by_cases hk:k<fs.length
  ·rw[List.getElem?_append_left (by rw[h'.out.len];exact hk)]at hu;rw[List.getElem?_append_left hk]at hf;exact(h'.out.data k u f hu hf).below DF.below
  (have hk2:k=fs.length:=by have:=(gF.1 hf).1;rw[List.length_append,List.length_singleton]at this;omega);subst hk2;rw[List.getElem?_append_right (by rw[h'.out.len];exact Nat.le_refl _),h'.out.len,Nat.sub_self]at hu;rw[List.getElem?_append_right (Nat.le_refl _),Nat.sub_self]at hf;cases hu;cases hf;have ay1:=atQ.out.below DF.below;have ay2:=ahQ.out;subst ay2;exact ay1
 have hsm:nI (ns++[⟨p,fs.length,0⟩]) (fs++[⟨mode,b⟩]):=by
  refine⟨?_,?_,fun n hn=>?_,fun f hf=>?_⟩
  ·rw[List.length_append,List.length_singleton];omega
  ·rw[List.length_append,List.length_singleton];omega
  ·rcases List.mem_append.1 hn with hn|hn
   ·exact hm'.out.short n hn
   (have e:n=⟨p,fs.length,0⟩:=by simpa using hn);subst e;(show p.length≤40000);(have:=sG hvp;omega)
  rcases List.mem_append.1 hf with hf|hf
  ·exact hm'.out.size f hf
  (have e:f=⟨mode,b⟩:=by simpa using hf);subst e;(show b.length≤1048576);have:=ahQ.out;omega
 have hfr:∀n∈ns++[⟨p,fs.length,0⟩],n.file= -1∨(0≤n.file∧n.file<(((fs++[(⟨mode,b⟩:TF)]).length:Nat):Int)):=fun n hn=>by
  rw[List.length_append,List.length_singleton];rcases List.mem_append.1 hn with hn|hn
  ·have:=ho'.out.mem hn;omega
  (have e:n=⟨p,fs.length,0⟩:=by simpa using hn);subst e;(show((fs.length:Nat):Int)= -1∨(0≤((fs.length:Nat):Int)∧((fs.length:Nat):Int)<((fs.length+1:Nat):Int)));omega
 have JE:=UR hT hsm hfr;rw[atS.out]at JE;have aoF:=Lh JE;replace DF:=Lh DF;clear hT hsm hfr JE;clear ahC hX' hz9 hEa hE0;refine hK _ _ (fun _=>hE9) ?_;clear hK K;try simp only[Act.put,gD]
 refine aC (i:=11) (by kernel_rfl) rfl (fun K hK=>?_);go_simp;refine hK _ _ (fun h=>absurd rfl h) ?_;clear hK K;try simp only[Act.put,gD]
 refine aO (by kernel_rfl) ?_ _;clear hE9;go_wp2_with(go_at_call 114;refine aoF.out.mono ?_;rintro e w10 ⟨A8,n8,c8,A9,n9,c10,rfl,atV⟩;(have hSm:=DF.out.join atV);obtain⟨mt0,mt1,mi0,mi1,mi2,mi3,mi4,mr0,mr1,mf0,mf1⟩:=jF [_,_,_] hSm;replace hSm:=Lh hSm;clear atV);obtain⟨Q,hQ,e0,e1⟩:=J3 [_,_,_] (.slice A8 n8 c8) (.slice A9 n9 c10) hSm.out;refine bodyPost_ret (dV rfl rfl e0 e1) rfl ?_;exact⟨A8,n8,c8,A9,n9,c10,by rw[ahR.out];rfl,Sep.keep (X:=[_]) (Y:=[]) (Sep.fst (X:=[_]) hQ) fun _ W hW h0=>by rw[ahA.out];exact hW.kept 0 rfl (by rw[ahR.out,←atS.out]at h0;(refine Decidable.byContradiction fun hno=>?_);rw[if_neg hno]at h0;cases h0)⟩
section
variable {P:Program} {ops:Array Oper} {Q:Exit→Act→World→Prop} {S:World→Prop} {z:Nat} {md:Region.Mode}
theorem C8 {i:Nat} {oi:Oper} {f:Nat} {l:Array Bool} {a:Act} {w:World} (hS:S w) (hi:ops[i]? =some oi)
  (h:OA P md ops Q S z f (l.setIfInBounds i true) (a.put oi.dst undef) w) (hz:lastB md ops z i=true:=by kernel_rfl) (hs:Region.noSelect ops=true:=by kernel_rfl) (hf:Region.free md ops l i=true:=by kernel_rfl) (hr:(Region.ready md ops l).contains i=true:=by kernel_rfl)
  (hw:Region.wanted oi (yielded ops a.tmps)=false:=by kernel_rfl) (hQ:∀c a w,Q (.panic c) (a.put oi.dst undef) w→Q (.panic c) a w:=by exact fun _ _ _ h=>h):OA P md ops Q S z (f+1) l a w:=
 Q3 hi hz hs hf hr hQ (Or.inr ⟨hw,rfl⟩) hS h
end
end Go.Proofs.YteihmbaimbogaaaGreat
