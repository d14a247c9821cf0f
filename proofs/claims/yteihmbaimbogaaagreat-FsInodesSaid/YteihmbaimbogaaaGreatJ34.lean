/- Parts. -/
import Derived.Test.YteihmbaimbogaaaGreatJ33
import Derived.Shelf.Slices.CompactI
import Derived.Lib.SlicesCompact
set_option linter.unusedVariables false
set_option linter.unusedSimpArgs false
set_option maxRecDepth 100000
set_option maxHeartbeats 20000000
namespace Go.Proofs.YteihmbaimbogaaaGreat
open Go.RowKit
theorem U0 {w:World} {nv fv:Value} {ns:List TN} {fs:List TF} {vs:List Value} (h:bY w nv fv ns fs vs) (hm:gY ns fs):
  Calls Tryz.prog 153 #[.agg #[nv,fv]] w fun e w'=>e= .returned (.bool (l9 ns fs))/\Below w.heap.size w w':=by
 have hS0:=(Sep.nil w).bN 32 #[nv,fv];obtain⟨A1,c1,rfl,hm1⟩:=h.nodes.shape;have hfp:=h.files;obtain⟨A2,c2,rfl,hm2⟩:=h.files.shape;have z0:=hS0.bC 0 rfl 0;have z1:=hS0.bC 0 rfl 1;simp only[gA,gB,gC]at z0 z1;have fV:=Lh hS0;have h':=Lh h;have hs':=Lh hm.size;have hf:=hm.few;have hf2:=hm.oQ;have mO:=Lh hfp;clear h hm hS0 hfp;unfold l9;by_cases g1:256<ns.length
 ·(have b1:(256:Int)<(ns.length:Int):=by omega);rw[decide_eq_true g1,YO,YO];go_enter Tryz.func153,Tryz.ntmps153;go_wp2_with fail;go_ret;exact⟨rfl,fV.out.below⟩
 have b1:¬(256:Int)<(ns.length:Int):=by omega
 by_cases g2:256<fs.length
 ·(have b2:(256:Int)<(fs.length:Int):=by omega);rw[decide_eq_true g2,Bool.or_true,YO];go_enter Tryz.func153,Tryz.ntmps153;go_wp2_with fail;go_ret;exact⟨rfl,fV.out.below⟩
 have b2:¬(256:Int)<(fs.length:Int):=by omega
 rw[decide_eq_false g1,decide_eq_false g2,IG,IG];go_enter Tryz.func153,Tryz.ntmps153;go_wp2_with fail;go_loopw[3] (fun iv wr=>∃i:Nat,i<=fs.length/\iv=iV i/\wr=w.alloc (.cells #[.slice A1 ns.length c1,.slice A2 fs.length c2] 32)/\Hid (∀(j:Nat) (m:TF),j<i->fs[j]? =some m->acL m=false)) (fun iv _=>fs.length-(intOf iv).toNat)
 case atStart=>exact⟨0,iF _,rfl,rfl,fun j m hj=>absurd hj (XB _)⟩
 obtain⟨i,hi,rfl,rfl,hno⟩:=hrel;have c0:(0:Int)<=(i:Int):=by omega
 by_cases hlt:i<fs.length
 ·(have c2:(i:Int)<(fs.length:Int):=by omega);obtain⟨g,o,c,e,_,_,_,hcell⟩:=mO.out.place aD aQ;cases e;obtain⟨f,he⟩:∃f,fs[i]? =some f:=⟨_,gE hlt⟩;obtain⟨u,hu⟩:∃u,vs[i]? =some u:=⟨_,gE (by rw[h'.out.len];exact hlt)⟩;obtain⟨A,c9,rfl,_⟩:=(h'.out.data i u f hu he).shape;have c1:=(hcell _ fV.out.below (i*2+1) aD).trans (jP he hu 1 aD);simp only[tfC,gB,gC,<-uS]at c1;have hsz:=hs'.out f (gG he);have he':=Lh he;clear hcell he hu;by_cases hp:8192<f.size
  ·(have hp2:(8192:Int)<(f.size:Int):=by omega);have hp':=Lh hp;clear hp;go_wp2_with fail;go_ret;refine⟨?_,fV.out.below⟩;rw[List.any_eq_true.2 ⟨f,gG he'.out,by unfold acL;simpa using hp'.out⟩];rfl
  (have hp2:¬(8192:Int)<(f.size:Int):=by omega);have hp':=Lh hp;clear hp;go_wp2_with fail;go_roundw
  case rel=>
   refine⟨i+1,by omega,by go_num,by trivial,fun j m hj hm=>?_⟩;by_cases hji:j=i
   ·subst hji;have e1:=hm.symm.trans he'.out;cases e1;unfold acL;simpa using hp'.out
   exact hno.out j m aD hm
  case measure=>simp[intOf];omega
 have c2:¬(i:Int)<(fs.length:Int):=by omega
 go_wp2_with fail;go_ret;refine⟨?_,fV.out.below⟩;have hall:fs.any acL=false:=by rw[aeA];intro f hf;obtain⟨j,hj⟩:=List.mem_iff_getElem?.1 hf;rw[hno.out j f (by have:=(gF.1 hj).1;omega) hj];simp
 rw[hall];rfl
def NP (ns:List TN) (up:List UInt8):Bool:=decide (up=[])||(match iM ns up with
 |none=>false
 |some m=>decide (m.file= -1))
def vH (ns:List TN) (fl i k:Nat) (n:TN):Bool:=
 ((aU n.path&&(decide (i=0)||Op.bytesLess (qZ ns i) n.path))&&NP ns (eY n.path))&&(if n.file= -1 then fQ n.mode else((decide (n.mode=0)&&decide (0<=n.file))&&decide (n.file<=(k:Int)))&&decide (n.file<(fl:Int)))
def o9 (ns:List TN) (fl:Nat):Nat->Option Nat
 |0=>some 0
 |i+1=>match o9 ns fl i with
  |none=>none
  |some k=>match ns[i]? with
   |none=>some k
   |some n=>if vH ns fl i k n=true then some (mG k n)else none
theorem ay7 {ns:List TN} {fl:Nat}:∀ {i k:Nat},o9 ns fl i=some k->k<=i:=by
 intro i
 induction i with
 |zero=>intro k h;cases h;exact jL _
 |succ i ih=>
  intro k h;change (match o9 ns fl i with
   |none=>none
   |some k=>match ns[i]? with
    |none=>some k
    |some n=>if vH ns fl i k n=true then some (mG k n)else none)=some k at h
  cases hr:o9 ns fl i with
  |none=>rw[hr]at h;cases h
  |some k0=>
   have:=ih hr;rw[hr]at h;simp only at h;cases hn:ns[i]? with
   |none=>rw[hn]at h;cases h;omega
   |some n=>
    rw[hn]at h;simp only at h;split at h
    ·cases h;unfold mG;split<;>omega
    cases h
def mX (ns:List TN) (fs:List TF):Bool:=decide (o9 ns fs.length ns.length=some fs.length)&&fs.all (fun f=>fQ f.mode)
theorem AL {ns:List TN} {fl i k:Nat} {n:TN} (h:o9 ns fl i=some k) (hn:ns[i]? =some n):o9 ns fl (i+1)=if vH ns fl i k n=true then some (mG k n)else none:=by
 show(match o9 ns fl i with
  |none=>none
  |some k=>match ns[i]? with
   |none=>some k
   |some n=>if vH ns fl i k n=true then some (mG k n)else none)=_
 rw[h];simp only;rw[hn]
theorem aaF {ns:List TN} {fl i:Nat} (h:o9 ns fl i=none):∀j,o9 ns fl (i+j)=none:=by
 intro j
 induction j with
 |zero=>exact h
 |succ j ih=>
  show(match o9 ns fl (i+j)with
   |none=>none
   |some k=>match ns[i+j]? with
    |none=>some k
    |some n=>if vH ns fl (i+j) k n=true then some (mG k n)else none)=none
  rw[ih]
theorem form_false {ns:List TN} {fs:List TF} {i k:Nat} {n:TN} (h:o9 ns fs.length i=some k) (hn:ns[i]? =some n) (ho:vH ns fs.length i k n=false):mX ns fs=false:=by have h1:=AL h hn;rw[ho,if_neg aQ]at h1;have hi:=(gF.1 hn).1;have h2:=aaF h1 (ns.length-(i+1));rw[show i+1+(ns.length-(i+1))=ns.length by omega]at h2;unfold mX;rw[h2];simp
theorem mE (ns:List TN) (p:List UInt8):(iM ns p=none/\vG ns p= -1)\/∃(k:Nat) (m:TN),iM ns p=some m/\ns[k]? =some m/\vG ns p=k/\m.path=p:=by
 unfold iM vG;cases h:ns.findIdx? (fun n=>n.path==p)with
 |none=>left;refine⟨?_,rfl⟩;rw[zI];intro m hm;have:=ad6.1 h m hm;simp[this]
 |some k=>right;obtain⟨hk,h1,h2⟩:=ad1.1 h;refine⟨k,ns[k],?_,gE hk,rfl,by simpa using h1⟩;rw[List.find?_eq_some_iff_getElem];refine⟨h1,k,hk,rfl,fun j hj=>?_⟩;have:=h2 j hj;simpa using this
def ag2 (fl k:Nat) (n:TN):Prop:=(n.file= -1/\fQ n.mode=true)\/(¬n.file= -1/\n.mode=0/\0<=n.file/\n.file<=(k:Int)/\n.file<(fl:Int))
theorem sH {ns:List TN} {fl i k:Nat} {n:TN}:vH ns fl i k n=true↔((aU n.path=true/\(i=0\/Op.bytesLess (qZ ns i) n.path=true))/\NP ns (eY n.path)=true)/\ag2 fl k n:=by
 unfold vH ag2;by_cases h:n.file= -1
 ·simp[h]
 simp[h,and_assoc]
theorem ag3 {ns:List TN} {fl i k:Nat} {n:TN} (h:¬ag2 fl k n):vH ns fl i k n=false:=by
 cases h2:vH ns fl i k n with
 |false=>rfl
 |true=>exact absurd (sH.1 h2).2 h
theorem CJ {ns:List TN} {i:Nat} {m:TN} (h:ns[i]? =some m):qZ ns (i+1)=m.path:=by
 show((ns[i]?).map (·.path)).getD []=_
 rw[h];rfl
theorem Z4 {P:Prop} (h:P:=by
 go_quiet (fail);have sP:=hS1.out.drewN nq;clear hS1 hb1;generalize w1.drewN nq=wq at sP ⊢;(have d0:=sP.bC 0 rfl 0);(have d1:=sP.bC 0 rfl 1);(have d2:=sP.bC 0 rfl 2);(have e0:=sP.bC 1 rfl 0);(have e1:=sP.bC 1 rfl 1);simp only[gA,gB,gC]at d0 d1 d2 e0 e1;have ak0:=Lh sP;clear sP;go_wp2_with(first |(go_at_call 115;refine(ag4.out _).mono ?_;rintro e w2 ⟨rfl,hb2⟩;(have hS2:=ak0.out.pure hb2);(have f0:=hS2.bC 0 rfl 0);(have f1:=hS2.bC 0 rfl 1);(have f2:=hS2.bC 0 rfl 2);(have g0:=hS2.bC 1 rfl 0);(have g1:=hS2.bC 1 rfl 1);simp only[gA,gB,gC]at f0 f1 f2 g0 g1;replace hS2:=Lh hS2;clear hb2)|(go_at_call 150;refine(U1.out _ hS2.out.below _).mono ?_;rintro e w3 ⟨rfl,hb3⟩;rw[nK.out];(have dJ:=hS2.out.pure hb3);(have k0:=dJ.bC 0 rfl 0);(have k1:=dJ.bC 0 rfl 1);(have k2:=dJ.bC 0 rfl 2);(have l0:=dJ.bC 1 rfl 0);(have l1:=dJ.bC 1 rfl 1);simp only[gA,gB,gC]at k0 k1 k2 l0 l1;(have y1:=hy'.out _ dJ.below 1 aD);simp only[KA,aC,gB,gC,<-uS]at y1;replace dJ:=Lh dJ;clear hb3)|(go_at_call 177;refine(yM _ _).mono ?_;rintro e w4 ⟨rfl,hw4⟩;have O8:=hw4.symm;clear hw4;subst O8));all_goals first
  |(go_ret
    have U2:¬ag2 fs.length k n:=by(try simp only[rJ,mM,ne_eq,aa4,amA,gt_iff_lt]at*);rintro(⟨h1,h2⟩|⟨h1,h2,h3,h4,h5⟩)<;>first |omega|(simp_all;done)
    exact⟨by rw[(MC.out (ag3 U2)).out];rfl,dJ.out.below⟩)
  |(have U2:ag2 fs.length k n:=by
     try simp only[rJ,mM,ne_eq,aa4,amA,gt_iff_lt]at*
     first
      |(right;refine⟨?_,?_,?_,?_,?_⟩<;>omega)
      |(left;refine⟨by omega,?_⟩;assumption)
    have hst:=hgo'.out au9.out aJC.out (by rw[avA.out];exact ag5.out) U2
    first
     |(have hq:mG k n=k:=(by unfold mG;rw[if_neg (by(try simp only[rJ,mM,ne_eq]at*);omega)])
       go_roundw
       case rel=>exact⟨i+1,k,by omega,by go_num,by trivial,(by rw[hq]at hst;exact hst),Sep.drop 1 dJ.out⟩
       case measure=>(simp[intOf];omega))
     |(have hq:mG k n=k+1:=(by unfold mG;rw[if_pos (by(try simp only[rJ,mM,ne_eq]at*);omega)])
       go_roundw
       case rel=>exact⟨i+1,k+1,by omega,by go_num,by go_num,(by rw[hq]at hst;exact hst),Sep.drop 1 dJ.out⟩
       case measure=>(simp[intOf];omega)))):P:=h
theorem Z62 {P:Prop} (h:P:=by
 go_quiet (fail);have sP:=hS1.out.drewN nq;clear hS1 hb1;generalize w1.drewN nq=wq at sP ⊢;(have d0:=sP.bC 0 rfl 0);(have d1:=sP.bC 0 rfl 1);(have d2:=sP.bC 0 rfl 2);(have e0:=sP.bC 1 rfl 0);(have e1:=sP.bC 1 rfl 1);simp only[gA,gB,gC]at d0 d1 d2 e0 e1;have ak0:=Lh sP;clear sP;go_wp2_with(first |(go_at_call 115;refine(ag4.out _).mono ?_;rintro e w2 ⟨rfl,hb2⟩;(have hS2:=ak0.out.pure hb2);(have f0:=hS2.bC 0 rfl 0);(have f1:=hS2.bC 0 rfl 1);(have f2:=hS2.bC 0 rfl 2);(have g0:=hS2.bC 1 rfl 0);(have g1:=hS2.bC 1 rfl 1);simp only[gA,gB,gC]at f0 f1 f2 g0 g1;replace hS2:=Lh hS2;clear hb2)|(go_at_call 177;refine(yM _ _).mono ?_;rintro e w4 ⟨rfl,hw4⟩;have O8:=hw4.symm;clear hw4;subst O8));all_goals first
  |(go_ret
    have U2:¬ag2 fs.length k n:=by(try simp only[rJ,mM,ne_eq,aa4,amA,gt_iff_lt]at*);rintro(⟨h1,h2⟩|⟨h1,h2,h3,h4,h5⟩)<;>first |omega|(simp_all;done)
    exact⟨by rw[(MC.out (ag3 U2)).out];rfl,hS2.out.below⟩)
  |(have U2:ag2 fs.length k n:=by
     try simp only[rJ,mM,ne_eq,aa4,amA,gt_iff_lt]at*
     first
      |(right;refine⟨?_,?_,?_,?_,?_⟩<;>omega)
      |(left;refine⟨by omega,?_⟩;assumption)
    have hst:=hgo'.out au9.out aJC.out (by rw[avA.out];exact ag5.out) U2
    first
     |(have hq:mG k n=k:=(by unfold mG;rw[if_neg (by(try simp only[rJ,mM,ne_eq]at*);omega)])
       go_roundw
       case rel=>exact⟨i+1,k,by omega,by go_num,by trivial,(by rw[hq]at hst;exact hst),Sep.drop 1 hS2.out⟩
       case measure=>(simp[intOf];omega))
     |(have hq:mG k n=k+1:=(by unfold mG;rw[if_pos (by(try simp only[rJ,mM,ne_eq]at*);omega)])
       go_roundw
       case rel=>exact⟨i+1,k+1,by omega,by go_num,by go_num,(by rw[hq]at hst;exact hst),Sep.drop 1 hS2.out⟩
       case measure=>(simp[intOf];omega)))):P:=h
theorem Z83 {P:Prop} (h:P:=by go_quiet (fail);have sP:=hS1.out.drewN nq;clear hS1 hb1;generalize w1.drewN nq=wq at sP ⊢;(have d0:=sP.bC 0 rfl 0);(have d1:=sP.bC 0 rfl 1);(have d2:=sP.bC 0 rfl 2);(have e0:=sP.bC 1 rfl 0);(have e1:=sP.bC 1 rfl 1);simp only[gA,gB,gC]at d0 d1 d2 e0 e1;have ak0:=Lh sP;clear sP;go_wp2_with(first |(go_at_call 115;refine(ag4.out _).mono ?_;rintro e w2 ⟨rfl,hb2⟩;(have hS2:=ak0.out.pure hb2);(have f0:=hS2.bC 0 rfl 0);(have f1:=hS2.bC 0 rfl 1);(have f2:=hS2.bC 0 rfl 2);(have g0:=hS2.bC 1 rfl 0);(have g1:=hS2.bC 1 rfl 1);simp only[gA,gB,gC]at f0 f1 f2 g0 g1;replace hS2:=Lh hS2;clear hb2)|(go_at_call 150;refine(U1.out _ hS2.out.below _).mono ?_;rintro e w3 ⟨rfl,hb3⟩;rw[nK.out];(have dJ:=hS2.out.pure hb3);(have k0:=dJ.bC 0 rfl 0);(have k1:=dJ.bC 0 rfl 1);(have k2:=dJ.bC 0 rfl 2);(have l0:=dJ.bC 1 rfl 0);(have l1:=dJ.bC 1 rfl 1);simp only[gA,gB,gC]at k0 k1 k2 l0 l1;(have y1:=hy'.out _ dJ.below 1 aD);simp only[KA,aC,gB,gC,<-uS]at y1;replace dJ:=Lh dJ;clear hb3));go_ret;exact⟨by rw[hD.out];rfl,dJ.out.below⟩):P:=h
theorem Z93 {P:Prop} (h:P:=by go_quiet (fail);have sP:=hS1.out.drewN nq;clear hS1 hb1;generalize w1.drewN nq=wq at sP ⊢;(have d0:=sP.bC 0 rfl 0);(have d1:=sP.bC 0 rfl 1);(have d2:=sP.bC 0 rfl 2);(have e0:=sP.bC 1 rfl 0);(have e1:=sP.bC 1 rfl 1);simp only[gA,gB,gC]at d0 d1 d2 e0 e1;have ak0:=Lh sP;clear sP;go_wp2_with(first |(go_at_call 115;refine(ag4.out _).mono ?_;rintro e w2 ⟨rfl,hb2⟩;(have hS2:=ak0.out.pure hb2);(have f0:=hS2.bC 0 rfl 0);(have f1:=hS2.bC 0 rfl 1);(have f2:=hS2.bC 0 rfl 2);(have g0:=hS2.bC 1 rfl 0);(have g1:=hS2.bC 1 rfl 1);simp only[gA,gB,gC]at f0 f1 f2 g0 g1;replace hS2:=Lh hS2;clear hb2)|(go_at_call 150;refine(U1.out _ hS2.out.below _).mono ?_;rintro e w3 ⟨rfl,hb3⟩;rw[nK.out];(have dJ:=hS2.out.pure hb3);(have k0:=dJ.bC 0 rfl 0);(have k1:=dJ.bC 0 rfl 1);(have k2:=dJ.bC 0 rfl 2);(have l0:=dJ.bC 1 rfl 0);(have l1:=dJ.bC 1 rfl 1);simp only[gA,gB,gC]at k0 k1 k2 l0 l1;replace dJ:=Lh dJ;clear hb3));go_ret;exact⟨by rw[hD.out];rfl,dJ.out.below⟩):P:=h
theorem aJD {P:Prop} (h:P:=by
 cases h2:vH ns fs.length i k n with
 |false=>rfl
 |true=>have:=(sH.1 h2).1.2;rw[hup]at this;unfold NP at this;rw[hf1]at this;simp[hu0,hmd]at this):P:=h
theorem aJE {P:Prop} (h:P:=by
 cases h2:vH ns fs.length i k n with
 |false=>rfl
 |true=>have:=(sH.1 h2).1.2;rw[hup]at this;unfold NP at this;rw[hf1]at this;simp[hu0]at this):P:=h
theorem O9 {w:World} {nv fv:Value} {ns:List TN} {fs:List TF} {vs:List Value} (h:bY w nv fv ns fs vs) (hm:gY ns fs):
  Calls Tryz.prog 154 #[.agg #[nv,fv]] w fun e w'=>e= .returned (.bool (mX ns fs))/\Below w.heap.size w w':=by
 have hS0:=(Sep.nil w).bN 32 #[nv,fv];have uO:=h.nodes;obtain⟨A1,c1,rfl,hm1⟩:=h.nodes.shape;have hfp:=h.files;obtain⟨A2,c2,rfl,hm2⟩:=h.files.shape;have fV:=Lh hS0;have h':=Lh h;have hsh':=Lh hm.short;have hf:=hm.few;have hf2:=hm.oQ;have oV:=Lh uO;have mO:=Lh hfp;have hval:=fun(n:TN) (hn:n∈ns) (W:World)=>vS ⟨n.path.toArray⟩ W (by rw[kE];have:=hm.short n hn;omega)
 have avB:=fun(n:TN) (hn:n∈ns) (W:World)=>IW (p:=n.path) W (by have:=hm.short n hn;omega)
 have avC:=fun(W:World) (hW:Below w.heap.size w W) (p:List UInt8)=>O7 (h.below hW) hm.few p
 have hval':=Lh hval;have anC:=Lh avB;have U1:=Lh avC;clear h hm uO hfp hval avB avC;have z0:=hS0.bC 0 rfl 0;have z1:=hS0.bC 0 rfl 1;simp only[gA,gB,gC]at z0 z1;clear hS0;have b1:(ns.length:Int)<=300:=by omega
 have b2:(fs.length:Int)<=300:=by omega
 go_enter Tryz.func154,Tryz.ntmps154;go_wp2_with fail;clear z0 z1;go_loopw[4,3] (fun iv kv wr=>∃i k:Nat,i<=ns.length/\iv=iV i/\kv=iV k/\Hid (o9 ns fs.length i=some k)/\Sep w wr [.box w.heap.size 32 #[.slice A1 ns.length c1,.slice A2 fs.length c2]]) (fun iv _ _=>ns.length-(intOf iv).toNat)
 case atStart=>exact⟨0,0,iF _,rfl,rfl,rfl,fV.out⟩
 obtain⟨i,k,hi,rfl,rfl,hr,hS⟩:=hrel;have hki:=ay7 hr.out;have c0:(0:Int)<=(i:Int):=by omega
 have cK:(k:Int)<=300:=by omega
 have aWF:=Lh hki;clear hki;have z0:=hS.bC 0 rfl 0;have z1:=hS.bC 0 rfl 1;simp only[gA,gB,gC]at z0 z1;by_cases hlt:i<ns.length
 ·(have c2:(i:Int)<(ns.length:Int):=by omega);obtain⟨g,o,c,e,_,_,_,hcell⟩:=oV.out.place aD aQ;cases e;obtain⟨n,he⟩:∃n,ns[i]? =some n:=⟨_,gE hlt⟩;(have hx:=fun(W:World) (hW:Below w.heap.size w W) (j:Nat) (hj:j<3)=>(hcell _ hW (i*3+j) aD).trans (eP he j aD));have x0:=hx _ hS.below 0 aD;have x1:=hx _ hS.below 1 aD;have x2:=hx _ hS.below 2 aD;simp only[KA,aC,gB,gC,<-uS,sM]at x0 x1 x2;have hb:=hS.bN 110 #[.string ⟨n.path.toArray⟩,iV n.file,iV n.mode];have hb':=Lh hb;have he':=Lh he;have hx':=Lh hx;have hmem:=gG he;have hva:=hval'.out n hmem;have PZ:=Lh hva;have hcell':=Lh hcell;clear hva hx hb hcell;(have hbad:vH ns fs.length i k n=false->Hid (mX ns fs=false):=fun h=>form_false hr.out he h);have MC:=Lh hbad;(have hgo:(i=0\/Op.bytesLess (qZ ns i) n.path=true)->aU n.path=true->NP ns (eY n.path)=true->ag2 fs.length k n->Hid (o9 ns fs.length (i+1)=some (mG k n)):=fun h1 h2 h3 h4=>by have h5:=AL hr.out he;rw[if_pos (sH.2 ⟨⟨⟨h2,h1⟩,h3⟩,h4⟩)]at h5;exact h5);have hgo':=Lh hgo;clear hbad he hgo;cases hvl:aU n.path with
  |false=>have hD:Hid (mX ns fs=false):=MC.out (by unfold vH;rw[hvl];rfl);rw[hvl]at PZ;clear hS hvl MC hmem;go_wp2_with(go_at_call 93;refine(PZ.out _).mono ?_;rintro e w1 ⟨rfl,hb1⟩;replace hb1:=Lh hb1);go_quiet (fail);go_wp2_with fail;go_ret;exact⟨by rw[hD.out];rfl,(((hb'.out.pure hb1.out)).drewN nq).below⟩
  |true=>
   have aJC:=Lh hvl;rw[hvl]at PZ;rcases H5 i with hi0|hi0
   ·(have c9:¬(0:Int)<(i:Int):=by omega);(have c10:¬0<i:=by omega);have au9:Hid (i=0\/Op.bytesLess (qZ ns i) n.path=true):=Or.inl hi0;clear hvl hi0;have Y8:=anC.out n hmem;obtain⟨up,hup⟩:∃up,eY n.path=up:=⟨_,rfl⟩;rw[hup]at Y8;have ag4:=Lh Y8;clear Y8;by_cases hu0:up=[]
    ·subst hu0;have ag5:Hid (NP ns []=true):=rfl;have avA:=Lh hup;clear hup hmem hS;unfold aC at*;go_wp2_with(go_at_call 93;refine(PZ.out _).mono ?_;rintro e w1 ⟨rfl,hb1⟩;(have hS1:=hb'.out.pure hb1);replace hS1:=Lh hS1;replace hb1:=Lh hb1);exact Z62
    (have bU:(up.isEmpty)=false:=by cases up with|nil=>exact absurd rfl hu0|cons a l=>rfl);rcases mE ns up with⟨hf1,WK⟩|⟨kk,m,hf1,pX,WK,U3⟩
    ·have hD:Hid (mX ns fs=false):=MC.out (by exact aJE);have nK:=Lh WK;have aPV:=Lh hu0;clear hup hmem hS hf1 WK hu0;unfold aC at*;go_wp2_with(go_at_call 93;refine(PZ.out _).mono ?_;rintro e w1 ⟨rfl,hb1⟩;(have hS1:=hb'.out.pure hb1);replace hS1:=Lh hS1;replace hb1:=Lh hb1);exact Z93
    have nK:=Lh WK;(have hy:=fun(W:World) (hW:Below w.heap.size w W) (j:Nat) (hj:j<3)=>(hcell'.out _ hW (kk*3+j) (by have:=(gF.1 pX).1;omega)).trans (eP pX j aD));(have yk:(kk:Int)<(ns.length:Int):=by have:=(gF.1 pX).1;omega);(have yk0:(0:Int)<=(kk:Int):=by omega);have hy':=Lh hy;clear hy;by_cases hmd:m.file= -1
    ·(have hmb:(m.file != -1)=false:=by rw[hmd];rfl);have avA:=Lh hup;have ag5:Hid (NP ns up=true):=Lh (by unfold NP;rw[hf1];simp[hmd]);have aPW:=Lh hmd;clear hup hmem hS hf1 WK pX U3 hu0 hmd;unfold aC at*;go_wp2_with(go_at_call 93;refine(PZ.out _).mono ?_;rintro e w1 ⟨rfl,hb1⟩;(have hS1:=hb'.out.pure hb1);replace hS1:=Lh hS1;replace hb1:=Lh hb1);exact Z4
    (have hmb:(m.file != -1)=true:=by simpa using hmd);have hD:Hid (mX ns fs=false):=MC.out (by exact aJD);clear hup hmem hS hf1 WK pX U3 hu0 hmd;unfold aC at*;go_wp2_with(go_at_call 93;refine(PZ.out _).mono ?_;rintro e w1 ⟨rfl,hb1⟩;(have hS1:=hb'.out.pure hb1);replace hS1:=Lh hS1;replace hb1:=Lh hb1);exact Z83
   (have c9:(0:Int)<(i:Int):=by omega);(have c11:(0:Int)<=(i:Int)-1:=by omega);(have c12:(i:Int)-1<(ns.length:Int):=by omega);(have c13:((i:Int)-1).toNat=i-1:=by omega);obtain⟨pm,hpm⟩:∃pm,ns[i-1]? =some pm:=⟨_,gE aD⟩;(have hlq:qZ ns i=pm.path:=by have h:=CJ hpm;rw[show i-1+1=i by omega]at h;exact h);(have p0:=fun(W:World) (hW:Below w.heap.size w W)=>(hcell'.out _ hW ((i-1)*3+0) aD).trans (eP hpm 0 aD));simp only[KA,aC,gB,gC,<-uS,sM]at p0;have p0':=Lh p0;have aJG:=Lh hlq;clear p0 hlq hpm;cases hls:Op.bytesLess pm.path n.path with
   |true=>
    have au9:Hid (i=0\/Op.bytesLess (qZ ns i) n.path=true):=Or.inr (by rw[aJG.out];exact hls);clear hvl;have Y8:=anC.out n hmem;obtain⟨up,hup⟩:∃up,eY n.path=up:=⟨_,rfl⟩;rw[hup]at Y8;have ag4:=Lh Y8;clear Y8;by_cases hu0:up=[]
    ·subst hu0;have ag5:Hid (NP ns []=true):=rfl;have avA:=Lh hup;clear hup hmem hS;unfold aC at*;go_wp2_with(go_at_call 93;refine(PZ.out _).mono ?_;rintro e w1 ⟨rfl,hb1⟩;(have hS1:=hb'.out.pure hb1);(have pp:=p0'.out _ hS1.below);(have a0:=hS1.bC 0 rfl 0);(have a3:=hS1.bC 1 rfl 0);simp only[gA,gB,gC]at a0 a3;replace hS1:=Lh hS1;replace hb1:=Lh hb1);exact Z62
    (have bU:(up.isEmpty)=false:=by cases up with|nil=>exact absurd rfl hu0|cons a l=>rfl);rcases mE ns up with⟨hf1,WK⟩|⟨kk,m,hf1,pX,WK,U3⟩
    ·have hD:Hid (mX ns fs=false):=MC.out (by exact aJE);have nK:=Lh WK;have aPV:=Lh hu0;clear hup hmem hS hf1 WK hu0;unfold aC at*;go_wp2_with(go_at_call 93;refine(PZ.out _).mono ?_;rintro e w1 ⟨rfl,hb1⟩;(have hS1:=hb'.out.pure hb1);(have pp:=p0'.out _ hS1.below);(have a0:=hS1.bC 0 rfl 0);(have a3:=hS1.bC 1 rfl 0);simp only[gA,gB,gC]at a0 a3;replace hS1:=Lh hS1;replace hb1:=Lh hb1);exact Z93
    have nK:=Lh WK;(have hy:=fun(W:World) (hW:Below w.heap.size w W) (j:Nat) (hj:j<3)=>(hcell'.out _ hW (kk*3+j) (by have:=(gF.1 pX).1;omega)).trans (eP pX j aD));(have yk:(kk:Int)<(ns.length:Int):=by have:=(gF.1 pX).1;omega);(have yk0:(0:Int)<=(kk:Int):=by omega);have hy':=Lh hy;clear hy;by_cases hmd:m.file= -1
    ·(have hmb:(m.file != -1)=false:=by rw[hmd];rfl);have avA:=Lh hup;have ag5:Hid (NP ns up=true):=Lh (by unfold NP;rw[hf1];simp[hmd]);have aPW:=Lh hmd;clear hup hmem hS hf1 WK pX U3 hu0 hmd;unfold aC at*;go_wp2_with(go_at_call 93;refine(PZ.out _).mono ?_;rintro e w1 ⟨rfl,hb1⟩;(have hS1:=hb'.out.pure hb1);(have pp:=p0'.out _ hS1.below);(have a0:=hS1.bC 0 rfl 0);(have a3:=hS1.bC 1 rfl 0);simp only[gA,gB,gC]at a0 a3;replace hS1:=Lh hS1;replace hb1:=Lh hb1);exact Z4
    (have hmb:(m.file != -1)=true:=by simpa using hmd);have hD:Hid (mX ns fs=false):=MC.out (by exact aJD);clear hup hmem hS hf1 WK pX U3 hu0 hmd;unfold aC at*;go_wp2_with(go_at_call 93;refine(PZ.out _).mono ?_;rintro e w1 ⟨rfl,hb1⟩;(have hS1:=hb'.out.pure hb1);(have pp:=p0'.out _ hS1.below);(have a0:=hS1.bC 0 rfl 0);(have a3:=hS1.bC 1 rfl 0);simp only[gA,gB,gC]at a0 a3;replace hS1:=Lh hS1;replace hb1:=Lh hb1);exact Z83
   |false=>
    have hD:Hid (mX ns fs=false):=MC.out (by
     cases h2:vH ns fs.length i k n with
     |false=>rfl
     |true=>
      have:=(sH.1 h2).1.1.2;rw[aJG.out,hls]at this;rcases this with h|h
      ·omega
      cases h)
    clear hvl hmem hS;unfold aC at*;go_wp2_with(go_at_call 93;refine(PZ.out _).mono ?_;rintro e w1 ⟨rfl,hb1⟩;(have hS1:=hb'.out.pure hb1);(have pp:=p0'.out _ hS1.below);(have a0:=hS1.bC 0 rfl 0);(have a3:=hS1.bC 1 rfl 0);simp only[gA,gB,gC]at a0 a3;replace hS1:=Lh hS1;replace hb1:=Lh hb1);go_quiet (fail);go_wp2_with fail;go_ret;exact⟨by rw[hD.out];rfl,(hS1.out.drewN nq).below⟩
 have c22:¬(i:Int)<(ns.length:Int):=by omega
 have hri:Hid (o9 ns fs.length ns.length=some k):=by(have e:i=ns.length:=by omega);rw[<-e];exact hr.out
 have hS':=Lh hS;clear hS;go_wp2_with fail;clear z0 z1;go_loopw[9] (fun iv wr=>∃j:Nat,j<=fs.length/\iv=iV j/\Hid (∀(t:Nat) (f:TF),t<j->fs[t]? =some f->fQ f.mode=true)/\Sep w wr [.box w.heap.size 32 #[.slice A1 ns.length c1,.slice A2 fs.length c2]]) (fun iv _=>fs.length-(intOf iv).toNat)
 case atStart=>exact⟨0,iF _,rfl,fun t f ht=>absurd ht (XB _),hS'.out⟩
 obtain⟨j,hj,rfl,hall,hS⟩:=hrel;have d0:(0:Int)<=(j:Int):=by omega
 have z0:=hS.bC 0 rfl 0;have z1:=hS.bC 0 rfl 1;simp only[gA,gB,gC]at z0 z1;by_cases hlt2:j<fs.length
 ·(have d2:(j:Int)<(fs.length:Int):=by omega);obtain⟨g,o,c,e,_,_,_,hcell⟩:=mO.out.place aD aQ;cases e;obtain⟨f,he⟩:∃f,fs[j]? =some f:=⟨_,gE hlt2⟩;obtain⟨u,hu⟩:∃u,vs[j]? =some u:=⟨_,gE (by rw[h'.out.len];exact hlt2)⟩;have x0:=(hcell _ hS.below (j*2+0) aD).trans (jP he hu 0 aD);simp only[tfC,gB,gC,<-uS,sM]at x0;have he':=Lh he;have nJ:=Lh hS;clear hcell he hu hS;cases hmo:fQ f.mode with
  |false=>have hD:Hid (mX ns fs=false):=Lh (by unfold mX;rw[Bool.and_eq_false_iff];right;rw[List.all_eq_false];exact⟨f,gG he'.out,by rw[hmo];decide⟩);have hmm:=yM f.mode;rw[hmo]at hmm;go_wp2_with(go_at_call 177;refine(hmm _).mono ?_;rintro e w4 ⟨rfl,hw4⟩;have O8:=hw4.symm;clear hw4;subst O8);go_ret;exact⟨by rw[hD.out];rfl,nJ.out.below⟩
  |true=>
   have hmm:=yM f.mode;rw[hmo]at hmm;have aPX:=Lh hmo;clear hmo;go_wp2_with(go_at_call 177;refine(hmm _).mono ?_;rintro e w4 ⟨rfl,hw4⟩;have O8:=hw4.symm;clear hw4;subst O8);go_roundw
   case rel=>
    refine⟨j+1,by omega,by go_num,fun t m ht hm=>?_,nJ.out⟩;by_cases htj:t=j
    ·subst htj;have e1:=hm.symm.trans he'.out;cases e1;exact aPX.out
    exact hall.out t m aD hm
   case measure=>(simp[intOf];omega)
 have d2:¬(j:Int)<(fs.length:Int):=by omega
 have hal:fs.all (fun f=>fQ f.mode)=true:=by rw[List.all_eq_true];intro f hf;obtain⟨t,ht⟩:=List.mem_iff_getElem?.1 hf;exact hall.out t f (by have:=(gF.1 ht).1;omega) ht
 have hfin:Hid (mX ns fs=((k:Int)==(fs.length:Int))):=Lh (by unfold mX;rw[hri.out,hal,Bool.and_true,aeF];simp;try omega);have nJ:=Lh hS;clear hS hal;go_wp2_with fail;go_ret;exact⟨by rw[hfin.out];rfl,nJ.out.below⟩
theorem jU {w:World} {nv fv:Value} {ns:List TN} {fs:List TF} {vs:List Value} (h:bY w nv fv ns fs vs) (hm:gY ns fs):
  Calls Tryz.prog 108 #[.agg #[nv,fv]] w fun e w'=>e= .returned (iV (if l9 ns fs=true then 31 else if mX ns fs=true then 0 else 30))/\Below w.heap.size w w':=by
 have hS0:=(Sep.nil w).bN 32 #[nv,fv];have hb:=fun(W:World) (hW:Below w.heap.size w W)=>U0 (h.below hW) hm
 have hf:=fun(W:World) (hW:Below w.heap.size w W)=>O9 (h.below hW) hm
 obtain⟨A1,c1,rfl,hm1⟩:=h.nodes.shape;obtain⟨A2,c2,rfl,hm2⟩:=h.files.shape;have z0:=hS0.bC 0 rfl 0;have z1:=hS0.bC 0 rfl 1;simp only[gA,gB,gC]at z0 z1;have fV:=Lh hS0;have hb':=Lh hb;have hf':=Lh hf;clear h hm hS0 hb hf;generalize l9 ns fs=bb at hb' ⊢;generalize mX ns fs=ff at hf' ⊢;cases bb with
 |true=>go_enter Tryz.func108,Tryz.ntmps108;go_wp2_with(go_at_call 153;refine(hb'.out _ fV.out.below).mono ?_;rintro e w1 ⟨rfl,hb1⟩;(have hS1:=fV.out.pure hb1);(have y0:=hS1.bC 0 rfl 0);(have y1:=hS1.bC 0 rfl 1);simp only[gA,gB,gC]at y0 y1;replace hS1:=Lh hS1;clear hb1);go_ret;exact⟨rfl,hS1.out.below⟩
 |false=>
  cases ff<;>
  ·go_enter Tryz.func108,Tryz.ntmps108;go_wp2_with(first |(go_at_call 153;refine(hb'.out _ fV.out.below).mono ?_;rintro e w1 ⟨rfl,hb1⟩;(have hS1:=fV.out.pure hb1);(have y0:=hS1.bC 0 rfl 0);(have y1:=hS1.bC 0 rfl 1);simp only[gA,gB,gC]at y0 y1;replace hS1:=Lh hS1;clear hb1)|(go_at_call 154;refine(hf'.out _ hS1.out.below).mono ?_;rintro e w2 ⟨rfl,hb2⟩;(have hS2:=hS1.out.pure hb2);replace hS2:=Lh hS2;clear hb2));go_ret;exact⟨rfl,hS2.out.below⟩
theorem Sep.sublist {w0 w:World} {As Bs:List bK} (h:Sep w0 w As) (hs:Bs.Sublist As):Sep w0 w Bs:=by
 refine h.same fun Fs hf hn=>?_
 have key:∃Gs,mF w Bs Gs/\Gs.Sublist Fs:=by
  clear hn h
  induction hs generalizing Fs with
  |slnil=>exact⟨Fs,hf,Q0 _⟩
  |cons a _ ih=>obtain⟨F,Gs,rfl,h1,h2⟩:=hf;obtain⟨Hs,g1,g2⟩:=ih Gs h2;exact⟨Hs,g1,g2.cons _⟩
  |cons_cons a _ ih=>obtain⟨F,Gs,rfl,h1,h2⟩:=hf;obtain⟨Hs,g1,g2⟩:=ih Gs h2;exact⟨F::Hs,⟨F,Hs,rfl,h1,g1⟩,g2.cons_cons _⟩
 obtain⟨Gs,g1,g2⟩:=key;have g3:Gs.flatten.Sublist Fs.flatten:=by
  clear hn hf g1
  induction g2 with
  |slnil=>exact Q0 _
  |cons a _ ih=>rw[uQ];exact ih.trans (List.sublist_append_right _ _)
  |cons_cons a _ ih=>rw[uQ,uQ];exact(Q0 _).append ih
 exact⟨Gs,g1,hn.sublist g3,fun b hb=>g3.subset hb⟩
theorem kR {Ns:List TN} {p:List UInt8} {n:TN} (h:iM Ns p=some n):n∈Ns/\n.path=p:=by unfold iM at h;exact⟨PM h,by simpa using aa6 h⟩
theorem anD (Ns:List TN) (p:List UInt8):mD Ns p<=Ns.length:=List.countP_le_length
def mY (op:Int) (p tz:List UInt8) (mode ref:Int):Value:=.agg #[.int .i64 op,aC p,aC tz,.int .i64 mode,.int .i64 ref]
def XZ (op:Int) (p tz:List UInt8) (mode ref:Int):Array Value:=#[iV op,aC p,aC tz,iV mode,iV ref]
def qN (rm rt:Bool) (op:Int) (p tz:List UInt8) (mode ref:Int) (cs:List Value):Int:=
 if rm=true/\(mode<0\/511<mode)then 28
 else if p=[]\/(rt=true/\tz=[])then 26
 else if aU p=false\/(rt=true/\aU tz=false)then 20
 else if op=6 then(if ref<0\/(cs.length:Int)<=ref then 32 else if 8192<IX (cs.getD ref.toNat (.slice none 0 0))then 2 else 0)
 else 0
def kU (w:World) (sv:Value) (cs:List Value):Prop:=Rd w 1 sv cs.length cs/\∀u∈cs,∃n bs,qM w u n bs/\n<=9223372036854775807
theorem kU.below {w w':World} {sv:Value} {cs:List Value} (h:kU w sv cs) (hb:Below w.heap.size w w'):kU w' sv cs:=
 ⟨h.1.below hb,fun u hu=>by obtain⟨n,bs,h1,h2⟩:=h.2 u hu;exact⟨n,bs,h1.below hb,h2⟩⟩
theorem kU.at_ {w:World} {sv:Value} {cs:List Value} (h:kU w sv cs) {k:Nat} (hk:k<cs.length):∃A n c,cs[k]? =some (.slice A n c)/\n<=9223372036854775807:=by obtain⟨n,bs,h1,h2⟩:=h.2 cs[k] (tK hk);obtain⟨A,c,e,_⟩:=h1.shape;exact⟨A,n,c,by rw[gE hk,e],h2⟩
section
variable {w0 w:World} {W bn bf bk next:Nat} {Ns:List TN} {Lk:List (Lit×Value)} {R:List bK}
theorem rC {rm rt:Bool} {op:Int} {p tz:List UInt8} {mode ref:Int} {cs:List Value} (h:qN rm rt op p tz mode ref cs=0):
  aU p=true/\(rt=true->aU tz=true)/\(rm=true->0<=mode/\mode<=511)/\(op=6->0<=ref/\ref<(cs.length:Int)/\IX (cs.getD ref.toNat (.slice none 0 0))<=8192):=by
 unfold qN at h;split at h
 ·cases h
 rename_i h1;split at h
 ·cases h
 split at h
 ·cases h
 rename_i h3;refine⟨?_,fun e=>?_,fun e=>?_,fun e=>?_⟩
 ·cases hv:aU p with
  |true=>rfl
  |false=>exact absurd (Or.inl hv) h3
 ·cases hv:aU tz with
  |true=>rfl
  |false=>exact absurd (Or.inr ⟨e,hv⟩) h3
 ·refine⟨?_,?_⟩
  ·rcases Int.lt_or_le mode 0 with h5|h5
   ·exact absurd ⟨e,Or.inl h5⟩ h1
   exact h5
  rcases Int.lt_or_le 511 mode with h5|h5
  ·exact absurd ⟨e,Or.inr h5⟩ h1
  exact h5
 rw[if_pos e]at h;split at h
 ·cases h
 rename_i h5;split at h
 ·cases h
 rename_i h6;omega
end
def bK.keep (P:World->Prop):bK:=
 ⟨fun w F=>F.Nodup/\(∀b,b∈F->b<w.heap.size)/\∀w',(∀b,b∈F->w'.heap[b]? =w.heap[b]?)->P w',
  fun w w' F ⟨h1,h2,h3⟩ hk=>⟨h1,fun b hb=>by have h4:=hk b hb;rw[Array.getElem?_eq_getElem (h2 b hb)]at h4;exact(Array.getElem?_eq_some_iff.1 h4).1,fun w'' h4=>h3 w'' fun b hb=>(h4 b hb).trans (hk b hb)⟩,
  fun w F ⟨h1,h2,_⟩=>⟨h1,h2⟩⟩
section
variable {w0 w w':World} {As X Y:List bK}
theorem mF.sep {Fs:List (List Nat)} (h:mF w As Fs) (hn:Fs.flatten.Nodup):Sep {w with heap:=#[]} w As:=
 ⟨⟨rfl,rfl,rfl,by simp,fun j hj=>by simp at hj⟩,Fs,h,hn,fun b hb=>by simp⟩
theorem Sep.keep {P:World->Prop} (h:Sep w0 w (X++Y)) (hP:∀w0' w',Sep w0' w' X->P w'):Sep w0 w (bK.keep P::Y):=h.same fun Fs hf hn=>by obtain⟨Gs,Hs,rfl,h6,h7⟩:=mF.append.1 hf;rw[WZ]at hn;refine⟨Gs.flatten::Hs,⟨Gs.flatten,Hs,rfl,⟨(xM.1 hn).1,fun b hb=>mF.lt h6 b hb,fun w' hw'=>hP _ w' ((mF.loc h6 hw').sep (xM.1 hn).1)⟩,h7⟩,by simpa using hn,fun b hb=>by simpa using hb⟩
theorem Sep.kept {P:World->Prop} (i:Nat) (h:Sep w0 w As) (hi:As[i]? =some (bK.keep P)):P w:=by obtain⟨F,⟨_,_,h3⟩,_⟩:=h.get i hi;exact h3 w fun _ _=>rfl
end
theorem U4 :(Tryz.prog.info? 5).map (fun i=>(i.zero,i.size,i.bytes))=some (some (.int .u8 0),1,1):=by kernel_rfl
theorem jQ :(Tryz.prog.info? 110).map (fun i=>(i.zero,i.size,i.bytes))=some (some (.agg #[.string ⟨#[]⟩,iV 0,iV 0]),3,32):=by kernel_rfl
theorem kM :(Tryz.prog.info? 112).map (fun i=>(i.zero,i.size,i.bytes))=some (some (.agg #[iV 0,.slice none 0 0]),2,32):=by kernel_rfl
theorem IZ {w:World} {b:Nat} {x y:Value} (h0:w.cell? ⟨b,0,none⟩=some x) (h1:w.cell? ⟨b,1,none⟩=some y):(loadVar 32 ⟨b,0,none⟩).run Tryz.prog w= .ok (.agg #[x,y]) w:=by simp[loadVar,go_sem,h0,h1]
theorem X3 {fn:Func} {p:Tmp} (h:fn.results=#[.cell p 32]) {tmps:Array Value} {w:World} {b:Nat} {x y:Value} (hp:tmps.getD p undef=pV b) (h0:w.cell? ⟨b,0,none⟩=some x) (h1:w.cell? ⟨b,1,none⟩=some y):
  (results fn tmps).run Tryz.prog w= .ok (.agg #[x,y]) w:=by
 have hp2:tmps[p]?.getD undef=pV b:=by simpa using hp
 simp only[results,h];simp[hp2,asAddr,IZ h0 h1]
theorem bR {fn:Func} {p u:Tmp} (h:fn.results=#[.cell p 32,.tmp u]) {tmps:Array Value} {w:World} {b:Nat} {x y:Value} (hp:tmps.getD p undef=pV b) (h0:w.cell? ⟨b,0,none⟩=some x) (h1:w.cell? ⟨b,1,none⟩=some y):
  (results fn tmps).run Tryz.prog w= .ok (.tuple #[.agg #[x,y],tmps.getD u undef]) w:=by
 have hp2:tmps[p]?.getD undef=pV b:=by simpa using hp
 simp only[results,h];simp[Result.andThen,hp2,asAddr,IZ h0 h1]
theorem X4 {α β:Type} (E:α->β) {l:List α} {i:Nat} {p:α} (h:l[i]? =some p):(l.take (i+1)).map E=(l.take i).map E++[E p]:=by rw[BC,h,kT];rfl
theorem p9 {α:Type} {P:List α->Prop} (h0:P []) (h1:∀xs x,P xs->P (xs++[x])) (xs:List α):P xs:=by
 rw[<-List.reverse_reverse xs]
 induction xs.reverse with
 |nil=>exact h0
 |cons a l ih=>rw[List.reverse_cons];exact h1 _ _ ih
theorem ay8 {ids:List Int} {a:Int} (h:a∈ids) (l:List Int):(ids++l).idxOf a=ids.idxOf a:=by rw[aa5,if_pos h]
def gP (xs:List TN):List Int:=xs.foldl (fun ids n=>if n.file<0 then ids else if n.file∈ids then ids else ids++[n.file]) []
theorem oW (xs:List TN) (n:TN):gP (xs++[n])=if n.file<0 then gP xs else if n.file∈gP xs then gP xs else gP xs++[n.file]:=by unfold gP;rw[QZ];rfl
def gW (ids:List Int) (n:TN):TN:=if n.file<0 then n else⟨n.path,(ids.idxOf n.file:Nat),n.mode⟩
theorem EZ (xs:List TN):∀n∈xs,¬n.file<0->n.file∈gP xs:=by
 refine p9 (P:=fun xs=>∀n∈xs,¬n.file<0->n.file∈gP xs) ?_ ?_ xs
 ·intro n hn;cases hn
 intro xs m ih;intro n hn hf;rw[oW];rcases gX.1 hn with hn|hn
 ·have:=ih n hn hf;split
  ·exact this
  split
  ·exact this
  exact G9 _ this
 have e:n=m:=by simpa using hn
 subst e;rw[if_neg hf];split
 ·assumption
 simp
theorem GU (xs:List TN):∀id∈gP xs,∃n∈xs,n.file=id/\¬n.file<0:=by
 refine p9 (P:=fun xs=>∀id∈gP xs,∃n∈xs,n.file=id/\¬n.file<0) ?_ ?_ xs
 ·intro id h;cases h
 intro xs m ih;intro id h;rw[oW]at h;have key:id∈gP xs->∃n∈xs++[m],n.file=id/\¬n.file<0:=fun h=>by obtain⟨n,h1,h2⟩:=ih id h;exact⟨n,G9 _ h1,h2⟩
 split at h
 ·exact key h
 split at h
 ·exact key h
 rcases gX.1 h with h|h
 ·exact key h
 have e:id=m.file:=by simpa using h
 subst e;exact⟨m,by simp,rfl,by assumption⟩
theorem MF (xs:List TN):(gP xs).length<=xs.length:=by
 refine p9 (P:=fun xs=>(gP xs).length<=xs.length) ?_ ?_ xs
 ·exact jL _
 intro xs m ih;rw[oW,kN,xL];split
 ·omega
 split
 ·omega
 rw[kN,xL];omega
theorem ap7 {xs:List TN} {ids:List Int} (h:∀n∈xs,¬n.file<0->n.file∈ids) (id:Int):xs.map (gW (ids++[id]))=xs.map (gW ids):=by
 apply BA;intro n hn;unfold gW;split
 ·rfl
 rename_i hf;rw[ay8 (h n hn hf)]
theorem vT {fs:List TF} {vs:List Value} (h:vs.length=fs.length) (f:TF) (u:Value):dM (fs++[f]) (vs++[u])=dM fs vs++[.int .i64 f.mode,u]:=by unfold dM;rw[List.zip_append h.symm,adY];rfl
theorem acM (ns:List TN) (n:TN):aV (ns++[n])=aV ns++[aC n.path,.int .i64 n.file,.int .i64 n.mode]:=by unfold aV;rw[adY];simp[KA]
def yO (u:Value) (f:TF):bK:=.keep fun w=>qM w u f.size f.bs
theorem anE {w0 w:World} {ns:List TN} {fs:List TF} {vs:List Value} {nv fv:Value} (hl:vs.length=fs.length) (h:Sep w0 w (.sl 112 2 fv fs.length (dM fs vs):: .sl 110 3 nv ns.length (aV ns)::List.zipWith yO vs fs)):bY w nv fv ns fs vs:=
 ⟨hl,h.rd 1 rfl,h.rd 0 rfl,fun k u f hu hf=>h.kept (P:=fun w=>qM w u f.size f.bs) (k+2) (by(show(List.zipWith _ vs fs)[k]? =_);rw[List.getElem?_zipWith,hu,hf];rfl)⟩
end Go.Proofs.YteihmbaimbogaaaGreat
