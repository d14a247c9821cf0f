/- Parts. -/
import Derived.Test.YtmjomdkleikgbaaGreatJ30
set_option linter.unusedVariables false
set_option linter.unusedSimpArgs false
set_option maxRecDepth 100000
set_option maxHeartbeats 20000000
namespace Go.Proofs.YtmjomdkleikgbaaGreat
open Go.RowKit
theorem ahL {w:World} {nv fv:Value} {ns:List TN} {fs:List TF} {vs:List Value} (h:iF w nv fv ns fs vs) (hm:BQ ns fs):
  Calls Tryz.prog 31 #[.agg #[nv,fv]] w fun e w'=>e= .returned (.bool (lV ns fs))/\Below w.heap.size w w':=by
 have hS0:=(Sep.nil w).bN 25 #[nv,fv];obtain⟨A1,c1,rfl,hm1⟩:=h.nodes.shape;have hfp:=h.files;obtain⟨A2,c2,rfl,hm2⟩:=h.files.shape;have z0:=hS0.bC 0 rfl 0;have z1:=hS0.bC 0 rfl 1;simp only[gA,gB,gC]at z0 z1;have nS:=Lh hS0;have h':=Lh h;have hs':=Lh hm.size;have hf:=hm.few;have hf2:=hm.EG;have EB:=Lh hfp;clear h hm hS0 hfp;unfold lV;by_cases g1:256<ns.length
 ·(have b1:(256:Int)<(ns.length:Int):=by omega);rw[decide_eq_true g1,OM,OM];go_enter Tryz.func31,Tryz.ntmps31;go_wp2_with fail;go_ret;exact⟨rfl,nS.out.below⟩
 have b1:¬(256:Int)<(ns.length:Int):=by omega
 by_cases g2:256<fs.length
 ·(have b2:(256:Int)<(fs.length:Int):=by omega);rw[decide_eq_true g2,Bool.or_true,OM];go_enter Tryz.func31,Tryz.ntmps31;go_wp2_with fail;go_ret;exact⟨rfl,nS.out.below⟩
 have b2:¬(256:Int)<(fs.length:Int):=by omega
 rw[decide_eq_false g1,decide_eq_false g2,zZ,zZ];go_enter Tryz.func31,Tryz.ntmps31;go_wp2_with fail;go_loopw[3] (fun iv wr=>∃i:Nat,i<=fs.length/\iv=iV i/\wr=w.alloc (.cells #[.slice A1 ns.length c1,.slice A2 fs.length c2] 25)/\Hid (∀(j:Nat) (m:TF),j<i->fs[j]? =some m->KS m=false)) (fun iv _=>fs.length-(intOf iv).toNat)
 case atStart=>exact⟨0,gI _,rfl,rfl,fun j m hj=>absurd hj (GK _)⟩
 obtain⟨i,hi,rfl,rfl,hno⟩:=hrel;have c0:(0:Int)<=(i:Int):=by omega
 by_cases hlt:i<fs.length
 ·(have c2:(i:Int)<(fs.length:Int):=by omega);obtain⟨g,o,c,e,_,_,_,hcell⟩:=EB.out.place aD aV;cases e;obtain⟨f,he⟩:∃f,fs[i]? =some f:=⟨_,gE hlt⟩;obtain⟨u,hu⟩:∃u,vs[i]? =some u:=⟨_,gE (by rw[h'.out.len];exact hlt)⟩;obtain⟨A,c9,rfl,_⟩:=(h'.out.data i u f hu he).shape;have c1:=(hcell _ nS.out.below (i*2+1) aD).trans (fE he hu 1 aD);simp only[tfC,gB,gC,<-tC]at c1;have hsz:=hs'.out f (gG he);have he':=Lh he;clear hcell he hu;by_cases hp:8192<f.size
  ·(have hp2:(8192:Int)<(f.size:Int):=by omega);have hp':=Lh hp;clear hp;go_wp2_with fail;go_ret;refine⟨?_,nS.out.below⟩;rw[List.any_eq_true.2 ⟨f,gG he'.out,by unfold KS;simpa using hp'.out⟩];rfl
  (have hp2:¬(8192:Int)<(f.size:Int):=by omega);have hp':=Lh hp;clear hp;go_wp2_with fail;go_roundw
  case rel=>
   refine⟨i+1,by omega,by go_num,by trivial,fun j m hj hm=>?_⟩;by_cases hji:j=i
   ·subst hji;have e1:=hm.symm.trans he'.out;cases e1;unfold KS;simpa using hp'.out
   exact hno.out j m aD hm
  case measure=>simp[intOf];omega
 have c2:¬(i:Int)<(fs.length:Int):=by omega
 go_wp2_with fail;go_ret;refine⟨?_,nS.out.below⟩;have hall:fs.any KS=false:=by rw[ajE];intro f hf;obtain⟨j,hj⟩:=List.mem_iff_getElem?.1 hf;rw[hno.out j f (by have:=(gF.1 hj).1;omega) hj];simp
 rw[hall];rfl
def KT (ns:List TN) (up:List UInt8):Bool:=decide (up=[])||(match I9 ns up with
 |none=>false
 |some m=>decide (m.file= -1))
def sU (ns:List TN) (fl i k:Nat) (n:TN):Bool:=
 ((aU n.path&&(decide (i=0)||Op.bytesLess (iH ns i) n.path))&&KT ns (aW n.path))&&(if n.file= -1 then iA n.mode else((decide (n.mode=0)&&decide (0<=n.file))&&decide (n.file<=(k:Int)))&&decide (n.file<(fl:Int)))
def nO (ns:List TN) (fl:Nat):Nat->Option Nat
 |0=>some 0
 |i+1=>match nO ns fl i with
  |none=>none
  |some k=>match ns[i]? with
   |none=>some k
   |some n=>if sU ns fl i k n=true then some (gU k n)else none
theorem Z27 {P:Prop} (h:P:=by
 rw[hr]at h;simp only at h;cases hn:ns[i]? with
 |none=>rw[hn]at h;cases h;omega
 |some n=>
  rw[hn]at h;simp only at h;split at h
  ·cases h;unfold gU;split<;>omega
  cases h):P:=h
theorem av7 {ns:List TN} {fl:Nat}:∀ {i k:Nat},nO ns fl i=some k->k<=i:=by
 intro i
 induction i with
 |zero=>intro k h;cases h;exact iB _
 |succ i ih=>
  intro k h;change (match nO ns fl i with
   |none=>none
   |some k=>match ns[i]? with
    |none=>some k
    |some n=>if sU ns fl i k n=true then some (gU k n)else none)=some k at h
  cases hr:nO ns fl i with
  |none=>rw[hr]at h;cases h
  |some k0=>have:=ih hr;exact Z27
def o6 (ns:List TN) (fs:List TF):Bool:=decide (nO ns fs.length ns.length=some fs.length)&&fs.all (fun f=>iA f.mode)
theorem xN {ns:List TN} {fl i k:Nat} {n:TN} (h:nO ns fl i=some k) (hn:ns[i]? =some n):nO ns fl (i+1)=if sU ns fl i k n=true then some (gU k n)else none:=by
 show(match nO ns fl i with
  |none=>none
  |some k=>match ns[i]? with
   |none=>some k
   |some n=>if sU ns fl i k n=true then some (gU k n)else none)=_
 rw[h];simp only;rw[hn]
theorem WT {ns:List TN} {fl i:Nat} (h:nO ns fl i=none):∀j,nO ns fl (i+j)=none:=by
 intro j
 induction j with
 |zero=>exact h
 |succ j ih=>
  show(match nO ns fl (i+j)with
   |none=>none
   |some k=>match ns[i+j]? with
    |none=>some k
    |some n=>if sU ns fl (i+j) k n=true then some (gU k n)else none)=none
  rw[ih]
theorem form_false {ns:List TN} {fs:List TF} {i k:Nat} {n:TN} (h:nO ns fs.length i=some k) (hn:ns[i]? =some n) (ho:sU ns fs.length i k n=false):o6 ns fs=false:=by have h1:=xN h hn;rw[ho,if_neg aV]at h1;have hi:=(gF.1 hn).1;have h2:=WT h1 (ns.length-(i+1));rw[show i+1+(ns.length-(i+1))=ns.length by omega]at h2;unfold o6;rw[h2];simp
theorem RJ (ns:List TN) (p:List UInt8):(I9 ns p=none/\JA ns p= -1)\/∃(k:Nat) (m:TN),I9 ns p=some m/\ns[k]? =some m/\JA ns p=k/\m.path=p:=by
 unfold I9 JA;cases h:ns.findIdx? (fun n=>n.path==p)with
 |none=>left;refine⟨?_,rfl⟩;rw[wL];intro m hm;have:=aa7.1 h m hm;simp[this]
 |some k=>right;obtain⟨hk,h1,h2⟩:=aaY.1 h;refine⟨k,ns[k],?_,gE hk,rfl,by simpa using h1⟩;rw[List.find?_eq_some_iff_getElem];refine⟨h1,k,hk,rfl,fun j hj=>?_⟩;have:=h2 j hj;simpa using this
def adR (fl k:Nat) (n:TN):Prop:=(n.file= -1/\iA n.mode=true)\/(¬n.file= -1/\n.mode=0/\0<=n.file/\n.file<=(k:Int)/\n.file<(fl:Int))
theorem qE {ns:List TN} {fl i k:Nat} {n:TN}:sU ns fl i k n=true↔((aU n.path=true/\(i=0\/Op.bytesLess (iH ns i) n.path=true))/\KT ns (aW n.path)=true)/\adR fl k n:=by
 unfold sU adR;by_cases h:n.file= -1
 ·simp[h]
 simp[h,and_assoc]
theorem adS {ns:List TN} {fl i k:Nat} {n:TN} (h:¬adR fl k n):sU ns fl i k n=false:=by
 cases h2:sU ns fl i k n with
 |false=>rfl
 |true=>exact absurd (qE.1 h2).2 h
theorem FV {ns:List TN} {i:Nat} {m:TN} (h:ns[i]? =some m):iH ns (i+1)=m.path:=by
 show((ns[i]?).map (·.path)).getD []=_
 rw[h];rfl
theorem Z2 {P:Prop} (h:P:=by
 go_quiet (fail);have BR:=hS1.out.drewN nq;clear hS1 hb1;generalize w1.drewN nq=wq at BR ⊢;(have d0:=BR.bC 0 rfl 0);(have d1:=BR.bC 0 rfl 1);(have d2:=BR.bC 0 rfl 2);(have e0:=BR.bC 1 rfl 0);(have e1:=BR.bC 1 rfl 1);simp only[gA,gB,gC]at d0 d1 d2 e0 e1;have ahM:=Lh BR;clear BR;go_wp2_with(first |(go_at_call 89;refine(FW.out _).mono ?_;rintro e w2 ⟨rfl,hb2⟩;(have hS2:=ahM.out.pure hb2);(have f0:=hS2.bC 0 rfl 0);(have f1:=hS2.bC 0 rfl 1);(have f2:=hS2.bC 0 rfl 2);(have g0:=hS2.bC 1 rfl 0);(have g1:=hS2.bC 1 rfl 1);simp only[gA,gB,gC]at f0 f1 f2 g0 g1;replace hS2:=Lh hS2;clear hb2)|(go_at_call 90;refine(arM.out _ hS2.out.below _).mono ?_;rintro e w3 ⟨rfl,hb3⟩;rw[am6.out];(have dX:=hS2.out.pure hb3);(have k0:=dX.bC 0 rfl 0);(have k1:=dX.bC 0 rfl 1);(have k2:=dX.bC 0 rfl 2);(have l0:=dX.bC 1 rfl 0);(have l1:=dX.bC 1 rfl 1);simp only[gA,gB,gC]at k0 k1 k2 l0 l1;(have y1:=hy'.out _ dX.below 1 aD);simp only[GG,aC,gB,gC,<-tC]at y1;replace dX:=Lh dX;clear hb3)|(go_at_call 91;refine(wJ _ _).mono ?_;rintro e w4 ⟨rfl,hw4⟩;have hw5:=hw4.symm;clear hw4;subst hw5));all_goals first
  |(go_ret
    have RL:¬adR fs.length k n:=by(try simp only[sK,jM,ne_eq,LA,ajB,gt_iff_lt]at*);rintro(⟨h1,h2⟩|⟨h1,h2,h3,h4,h5⟩)<;>first |omega|(simp_all;done)
    exact⟨by rw[(JB.out (adS RL)).out];rfl,dX.out.below⟩)
  |(have RL:adR fs.length k n:=by
     try simp only[sK,jM,ne_eq,LA,ajB,gt_iff_lt]at*
     first
      |(right;refine⟨?_,?_,?_,?_,?_⟩<;>omega)
      |(left;refine⟨by omega,?_⟩;assumption)
    have hst:=hgo'.out arN.out av8.out (by rw[arO.out];exact adT.out) RL
    first
     |(have hq:gU k n=k:=(by unfold gU;rw[if_neg (by(try simp only[sK,jM,ne_eq]at*);omega)])
       go_roundw
       case rel=>exact⟨i+1,k,by omega,by go_num,by trivial,(by rw[hq]at hst;exact hst),Sep.drop 1 dX.out⟩
       case measure=>(simp[intOf];omega))
     |(have hq:gU k n=k+1:=(by unfold gU;rw[if_pos (by(try simp only[sK,jM,ne_eq]at*);omega)])
       go_roundw
       case rel=>exact⟨i+1,k+1,by omega,by go_num,by go_num,(by rw[hq]at hst;exact hst),Sep.drop 1 dX.out⟩
       case measure=>(simp[intOf];omega)))):P:=h
theorem Z54 {P:Prop} (h:P:=by
 go_quiet (fail);have BR:=hS1.out.drewN nq;clear hS1 hb1;generalize w1.drewN nq=wq at BR ⊢;(have d0:=BR.bC 0 rfl 0);(have d1:=BR.bC 0 rfl 1);(have d2:=BR.bC 0 rfl 2);(have e0:=BR.bC 1 rfl 0);(have e1:=BR.bC 1 rfl 1);simp only[gA,gB,gC]at d0 d1 d2 e0 e1;have ahM:=Lh BR;clear BR;go_wp2_with(first |(go_at_call 89;refine(FW.out _).mono ?_;rintro e w2 ⟨rfl,hb2⟩;(have hS2:=ahM.out.pure hb2);(have f0:=hS2.bC 0 rfl 0);(have f1:=hS2.bC 0 rfl 1);(have f2:=hS2.bC 0 rfl 2);(have g0:=hS2.bC 1 rfl 0);(have g1:=hS2.bC 1 rfl 1);simp only[gA,gB,gC]at f0 f1 f2 g0 g1;replace hS2:=Lh hS2;clear hb2)|(go_at_call 91;refine(wJ _ _).mono ?_;rintro e w4 ⟨rfl,hw4⟩;have hw5:=hw4.symm;clear hw4;subst hw5));all_goals first
  |(go_ret
    have RL:¬adR fs.length k n:=by(try simp only[sK,jM,ne_eq,LA,ajB,gt_iff_lt]at*);rintro(⟨h1,h2⟩|⟨h1,h2,h3,h4,h5⟩)<;>first |omega|(simp_all;done)
    exact⟨by rw[(JB.out (adS RL)).out];rfl,hS2.out.below⟩)
  |(have RL:adR fs.length k n:=by
     try simp only[sK,jM,ne_eq,LA,ajB,gt_iff_lt]at*
     first
      |(right;refine⟨?_,?_,?_,?_,?_⟩<;>omega)
      |(left;refine⟨by omega,?_⟩;assumption)
    have hst:=hgo'.out arN.out av8.out (by rw[arO.out];exact adT.out) RL
    first
     |(have hq:gU k n=k:=(by unfold gU;rw[if_neg (by(try simp only[sK,jM,ne_eq]at*);omega)])
       go_roundw
       case rel=>exact⟨i+1,k,by omega,by go_num,by trivial,(by rw[hq]at hst;exact hst),Sep.drop 1 hS2.out⟩
       case measure=>(simp[intOf];omega))
     |(have hq:gU k n=k+1:=(by unfold gU;rw[if_pos (by(try simp only[sK,jM,ne_eq]at*);omega)])
       go_roundw
       case rel=>exact⟨i+1,k+1,by omega,by go_num,by go_num,(by rw[hq]at hst;exact hst),Sep.drop 1 hS2.out⟩
       case measure=>(simp[intOf];omega)))):P:=h
theorem Z70 {P:Prop} (h:P:=by go_quiet (fail);have BR:=hS1.out.drewN nq;clear hS1 hb1;generalize w1.drewN nq=wq at BR ⊢;(have d0:=BR.bC 0 rfl 0);(have d1:=BR.bC 0 rfl 1);(have d2:=BR.bC 0 rfl 2);(have e0:=BR.bC 1 rfl 0);(have e1:=BR.bC 1 rfl 1);simp only[gA,gB,gC]at d0 d1 d2 e0 e1;have ahM:=Lh BR;clear BR;go_wp2_with(first |(go_at_call 89;refine(FW.out _).mono ?_;rintro e w2 ⟨rfl,hb2⟩;(have hS2:=ahM.out.pure hb2);(have f0:=hS2.bC 0 rfl 0);(have f1:=hS2.bC 0 rfl 1);(have f2:=hS2.bC 0 rfl 2);(have g0:=hS2.bC 1 rfl 0);(have g1:=hS2.bC 1 rfl 1);simp only[gA,gB,gC]at f0 f1 f2 g0 g1;replace hS2:=Lh hS2;clear hb2)|(go_at_call 90;refine(arM.out _ hS2.out.below _).mono ?_;rintro e w3 ⟨rfl,hb3⟩;rw[am6.out];(have dX:=hS2.out.pure hb3);(have k0:=dX.bC 0 rfl 0);(have k1:=dX.bC 0 rfl 1);(have k2:=dX.bC 0 rfl 2);(have l0:=dX.bC 1 rfl 0);(have l1:=dX.bC 1 rfl 1);simp only[gA,gB,gC]at k0 k1 k2 l0 l1;(have y1:=hy'.out _ dX.below 1 aD);simp only[GG,aC,gB,gC,<-tC]at y1;replace dX:=Lh dX;clear hb3));go_ret;exact⟨by rw[hD.out];rfl,dX.out.below⟩):P:=h
theorem Z78 {P:Prop} (h:P:=by go_quiet (fail);have BR:=hS1.out.drewN nq;clear hS1 hb1;generalize w1.drewN nq=wq at BR ⊢;(have d0:=BR.bC 0 rfl 0);(have d1:=BR.bC 0 rfl 1);(have d2:=BR.bC 0 rfl 2);(have e0:=BR.bC 1 rfl 0);(have e1:=BR.bC 1 rfl 1);simp only[gA,gB,gC]at d0 d1 d2 e0 e1;have ahM:=Lh BR;clear BR;go_wp2_with(first |(go_at_call 89;refine(FW.out _).mono ?_;rintro e w2 ⟨rfl,hb2⟩;(have hS2:=ahM.out.pure hb2);(have f0:=hS2.bC 0 rfl 0);(have f1:=hS2.bC 0 rfl 1);(have f2:=hS2.bC 0 rfl 2);(have g0:=hS2.bC 1 rfl 0);(have g1:=hS2.bC 1 rfl 1);simp only[gA,gB,gC]at f0 f1 f2 g0 g1;replace hS2:=Lh hS2;clear hb2)|(go_at_call 90;refine(arM.out _ hS2.out.below _).mono ?_;rintro e w3 ⟨rfl,hb3⟩;rw[am6.out];(have dX:=hS2.out.pure hb3);(have k0:=dX.bC 0 rfl 0);(have k1:=dX.bC 0 rfl 1);(have k2:=dX.bC 0 rfl 2);(have l0:=dX.bC 1 rfl 0);(have l1:=dX.bC 1 rfl 1);simp only[gA,gB,gC]at k0 k1 k2 l0 l1;replace dX:=Lh dX;clear hb3));go_ret;exact⟨by rw[hD.out];rfl,dX.out.below⟩):P:=h
theorem Z83 {P:Prop} (h:P:=by
 cases h2:sU ns fs.length i k n with
 |false=>rfl
 |true=>have:=(qE.1 h2).1.2;rw[hup]at this;unfold KT at this;rw[hf1]at this;simp[hu0,hmd]at this):P:=h
theorem Z85 {P:Prop} (h:P:=by
 cases h2:sU ns fs.length i k n with
 |false=>rfl
 |true=>have:=(qE.1 h2).1.2;rw[hup]at this;unfold KT at this;rw[hf1]at this;simp[hu0]at this):P:=h
theorem adU {w:World} {nv fv:Value} {ns:List TN} {fs:List TF} {vs:List Value} (h:iF w nv fv ns fs vs) (hm:BQ ns fs):
  Calls Tryz.prog 32 #[.agg #[nv,fv]] w fun e w'=>e= .returned (.bool (o6 ns fs))/\Below w.heap.size w w':=by
 have hS0:=(Sep.nil w).bN 25 #[nv,fv];have hnp:=h.nodes;obtain⟨A1,c1,rfl,hm1⟩:=h.nodes.shape;have hfp:=h.files;obtain⟨A2,c2,rfl,hm2⟩:=h.files.shape;have nS:=Lh hS0;have h':=Lh h;have hsh':=Lh hm.short;have hf:=hm.few;have hf2:=hm.EG;have UJ:=Lh hnp;have EB:=Lh hfp;have hval:=fun(n:TN) (hn:n∈ns) (W:World)=>I8 ⟨n.path.toArray⟩ W (by rw[iP];have:=hm.short n hn;omega)
 have arP:=fun(n:TN) (hn:n∈ns) (W:World)=>EU (p:=n.path) W (by have:=hm.short n hn;omega)
 have aEN:=fun(W:World) (hW:Below w.heap.size w W) (p:List UInt8)=>adP (h.below hW) hm.few p
 have hval':=Lh hval;have akA:=Lh arP;have arM:=Lh aEN;clear h hm hnp hfp hval arP aEN;have z0:=hS0.bC 0 rfl 0;have z1:=hS0.bC 0 rfl 1;simp only[gA,gB,gC]at z0 z1;clear hS0;have b1:(ns.length:Int)<=300:=by omega
 have b2:(fs.length:Int)<=300:=by omega
 go_enter Tryz.func32,Tryz.ntmps32;go_wp2_with fail;clear z0 z1;go_loopw[4,3] (fun iv kv wr=>∃i k:Nat,i<=ns.length/\iv=iV i/\kv=iV k/\Hid (nO ns fs.length i=some k)/\Sep w wr [.box w.heap.size 25 #[.slice A1 ns.length c1,.slice A2 fs.length c2]]) (fun iv _ _=>ns.length-(intOf iv).toNat)
 case atStart=>exact⟨0,0,gI _,rfl,rfl,rfl,nS.out⟩
 obtain⟨i,k,hi,rfl,rfl,hr,hS⟩:=hrel;have hki:=av7 hr.out;have c0:(0:Int)<=(i:Int):=by omega
 have cK:(k:Int)<=300:=by omega
 have aQY:=Lh hki;clear hki;have z0:=hS.bC 0 rfl 0;have z1:=hS.bC 0 rfl 1;simp only[gA,gB,gC]at z0 z1;by_cases hlt:i<ns.length
 ·(have c2:(i:Int)<(ns.length:Int):=by omega);obtain⟨g,o,c,e,_,_,_,hcell⟩:=UJ.out.place aD aV;cases e;obtain⟨n,he⟩:∃n,ns[i]? =some n:=⟨_,gE hlt⟩;(have hx:=fun(W:World) (hW:Below w.heap.size w W) (j:Nat) (hj:j<3)=>(hcell _ hW (i*3+j) aD).trans (bR he j aD));have x0:=hx _ hS.below 0 aD;have x1:=hx _ hS.below 1 aD;have x2:=hx _ hS.below 2 aD;simp only[GG,aC,gB,gC,<-tC,tF]at x0 x1 x2;have hb:=hS.bN 68 #[.string ⟨n.path.toArray⟩,iV n.file,iV n.mode];have hb':=Lh hb;have he':=Lh he;have hx':=Lh hx;have hmem:=gG he;have hva:=hval'.out n hmem;have wR:=Lh hva;have hcell':=Lh hcell;clear hva hx hb hcell;(have hbad:sU ns fs.length i k n=false->Hid (o6 ns fs=false):=fun h=>form_false hr.out he h);have JB:=Lh hbad;(have hgo:(i=0\/Op.bytesLess (iH ns i) n.path=true)->aU n.path=true->KT ns (aW n.path)=true->adR fs.length k n->Hid (nO ns fs.length (i+1)=some (gU k n)):=fun h1 h2 h3 h4=>by have h5:=xN hr.out he;rw[if_pos (qE.2 ⟨⟨⟨h2,h1⟩,h3⟩,h4⟩)]at h5;exact h5);have hgo':=Lh hgo;clear hbad he hgo;cases hvl:aU n.path with
  |false=>have hD:Hid (o6 ns fs=false):=JB.out (by unfold sU;rw[hvl];rfl);rw[hvl]at wR;clear hS hvl JB hmem;go_wp2_with(go_at_call 88;refine(wR.out _).mono ?_;rintro e w1 ⟨rfl,hb1⟩;replace hb1:=Lh hb1);go_quiet (fail);go_wp2_with fail;go_ret;exact⟨by rw[hD.out];rfl,(((hb'.out.pure hb1.out)).drewN nq).below⟩
  |true=>
   have av8:=Lh hvl;rw[hvl]at wR;rcases xW i with hi0|hi0
   ·(have c9:¬(0:Int)<(i:Int):=by omega);(have c10:¬0<i:=by omega);have arN:Hid (i=0\/Op.bytesLess (iH ns i) n.path=true):=Or.inl hi0;clear hvl hi0;have J9:=akA.out n hmem;obtain⟨up,hup⟩:∃up,aW n.path=up:=⟨_,rfl⟩;rw[hup]at J9;have FW:=Lh J9;clear J9;by_cases hu0:up=[]
    ·subst hu0;have adT:Hid (KT ns []=true):=rfl;have arO:=Lh hup;clear hup hmem hS;unfold aC at*;go_wp2_with(go_at_call 88;refine(wR.out _).mono ?_;rintro e w1 ⟨rfl,hb1⟩;(have hS1:=hb'.out.pure hb1);replace hS1:=Lh hS1;replace hb1:=Lh hb1);exact Z54
    (have bU:(up.isEmpty)=false:=by cases up with|nil=>exact absurd rfl hu0|cons a l=>rfl);rcases RJ ns up with⟨hf1,hf9⟩|⟨kk,m,hf1,BJ,hf9,hf7⟩
    ·have hD:Hid (o6 ns fs=false):=JB.out (by exact Z85);have am6:=Lh hf9;have aJ5:=Lh hu0;clear hup hmem hS hf1 hf9 hu0;unfold aC at*;go_wp2_with(go_at_call 88;refine(wR.out _).mono ?_;rintro e w1 ⟨rfl,hb1⟩;(have hS1:=hb'.out.pure hb1);replace hS1:=Lh hS1;replace hb1:=Lh hb1);exact Z78
    have am6:=Lh hf9;(have hy:=fun(W:World) (hW:Below w.heap.size w W) (j:Nat) (hj:j<3)=>(hcell'.out _ hW (kk*3+j) (by have:=(gF.1 BJ).1;omega)).trans (bR BJ j aD));(have yk:(kk:Int)<(ns.length:Int):=by have:=(gF.1 BJ).1;omega);(have yk0:(0:Int)<=(kk:Int):=by omega);have hy':=Lh hy;clear hy;by_cases hmd:m.file= -1
    ·(have hmb:(m.file != -1)=false:=by rw[hmd];rfl);have arO:=Lh hup;have adT:Hid (KT ns up=true):=Lh (by unfold KT;rw[hf1];simp[hmd]);have ZY:=Lh hmd;clear hup hmem hS hf1 hf9 BJ hf7 hu0 hmd;unfold aC at*;go_wp2_with(go_at_call 88;refine(wR.out _).mono ?_;rintro e w1 ⟨rfl,hb1⟩;(have hS1:=hb'.out.pure hb1);replace hS1:=Lh hS1;replace hb1:=Lh hb1);exact Z2
    (have hmb:(m.file != -1)=true:=by simpa using hmd);have hD:Hid (o6 ns fs=false):=JB.out (by exact Z83);clear hup hmem hS hf1 hf9 BJ hf7 hu0 hmd;unfold aC at*;go_wp2_with(go_at_call 88;refine(wR.out _).mono ?_;rintro e w1 ⟨rfl,hb1⟩;(have hS1:=hb'.out.pure hb1);replace hS1:=Lh hS1;replace hb1:=Lh hb1);exact Z70
   (have c9:(0:Int)<(i:Int):=by omega);(have c11:(0:Int)<=(i:Int)-1:=by omega);(have c12:(i:Int)-1<(ns.length:Int):=by omega);(have c13:((i:Int)-1).toNat=i-1:=by omega);obtain⟨pm,hpm⟩:∃pm,ns[i-1]? =some pm:=⟨_,gE aD⟩;(have hlq:iH ns i=pm.path:=by have h:=FV hpm;rw[show i-1+1=i by omega]at h;exact h);(have p0:=fun(W:World) (hW:Below w.heap.size w W)=>(hcell'.out _ hW ((i-1)*3+0) aD).trans (bR hpm 0 aD));simp only[GG,aC,gB,gC,<-tC,tF]at p0;have p0':=Lh p0;have aEQ:=Lh hlq;clear p0 hlq hpm;cases hls:Op.bytesLess pm.path n.path with
   |true=>
    have arN:Hid (i=0\/Op.bytesLess (iH ns i) n.path=true):=Or.inr (by rw[aEQ.out];exact hls);clear hvl;have J9:=akA.out n hmem;obtain⟨up,hup⟩:∃up,aW n.path=up:=⟨_,rfl⟩;rw[hup]at J9;have FW:=Lh J9;clear J9;by_cases hu0:up=[]
    ·subst hu0;have adT:Hid (KT ns []=true):=rfl;have arO:=Lh hup;clear hup hmem hS;unfold aC at*;go_wp2_with(go_at_call 88;refine(wR.out _).mono ?_;rintro e w1 ⟨rfl,hb1⟩;(have hS1:=hb'.out.pure hb1);(have pp:=p0'.out _ hS1.below);(have a0:=hS1.bC 0 rfl 0);(have a3:=hS1.bC 1 rfl 0);simp only[gA,gB,gC]at a0 a3;replace hS1:=Lh hS1;replace hb1:=Lh hb1);exact Z54
    (have bU:(up.isEmpty)=false:=by cases up with|nil=>exact absurd rfl hu0|cons a l=>rfl);rcases RJ ns up with⟨hf1,hf9⟩|⟨kk,m,hf1,BJ,hf9,hf7⟩
    ·have hD:Hid (o6 ns fs=false):=JB.out (by exact Z85);have am6:=Lh hf9;have aJ5:=Lh hu0;clear hup hmem hS hf1 hf9 hu0;unfold aC at*;go_wp2_with(go_at_call 88;refine(wR.out _).mono ?_;rintro e w1 ⟨rfl,hb1⟩;(have hS1:=hb'.out.pure hb1);(have pp:=p0'.out _ hS1.below);(have a0:=hS1.bC 0 rfl 0);(have a3:=hS1.bC 1 rfl 0);simp only[gA,gB,gC]at a0 a3;replace hS1:=Lh hS1;replace hb1:=Lh hb1);exact Z78
    have am6:=Lh hf9;(have hy:=fun(W:World) (hW:Below w.heap.size w W) (j:Nat) (hj:j<3)=>(hcell'.out _ hW (kk*3+j) (by have:=(gF.1 BJ).1;omega)).trans (bR BJ j aD));(have yk:(kk:Int)<(ns.length:Int):=by have:=(gF.1 BJ).1;omega);(have yk0:(0:Int)<=(kk:Int):=by omega);have hy':=Lh hy;clear hy;by_cases hmd:m.file= -1
    ·(have hmb:(m.file != -1)=false:=by rw[hmd];rfl);have arO:=Lh hup;have adT:Hid (KT ns up=true):=Lh (by unfold KT;rw[hf1];simp[hmd]);have ZY:=Lh hmd;clear hup hmem hS hf1 hf9 BJ hf7 hu0 hmd;unfold aC at*;go_wp2_with(go_at_call 88;refine(wR.out _).mono ?_;rintro e w1 ⟨rfl,hb1⟩;(have hS1:=hb'.out.pure hb1);(have pp:=p0'.out _ hS1.below);(have a0:=hS1.bC 0 rfl 0);(have a3:=hS1.bC 1 rfl 0);simp only[gA,gB,gC]at a0 a3;replace hS1:=Lh hS1;replace hb1:=Lh hb1);exact Z2
    (have hmb:(m.file != -1)=true:=by simpa using hmd);have hD:Hid (o6 ns fs=false):=JB.out (by exact Z83);clear hup hmem hS hf1 hf9 BJ hf7 hu0 hmd;unfold aC at*;go_wp2_with(go_at_call 88;refine(wR.out _).mono ?_;rintro e w1 ⟨rfl,hb1⟩;(have hS1:=hb'.out.pure hb1);(have pp:=p0'.out _ hS1.below);(have a0:=hS1.bC 0 rfl 0);(have a3:=hS1.bC 1 rfl 0);simp only[gA,gB,gC]at a0 a3;replace hS1:=Lh hS1;replace hb1:=Lh hb1);exact Z70
   |false=>
    have hD:Hid (o6 ns fs=false):=JB.out (by
     cases h2:sU ns fs.length i k n with
     |false=>rfl
     |true=>
      have:=(qE.1 h2).1.1.2;rw[aEQ.out,hls]at this;rcases this with h|h
      ·omega
      cases h)
    clear hvl hmem hS;unfold aC at*;go_wp2_with(go_at_call 88;refine(wR.out _).mono ?_;rintro e w1 ⟨rfl,hb1⟩;(have hS1:=hb'.out.pure hb1);(have pp:=p0'.out _ hS1.below);(have a0:=hS1.bC 0 rfl 0);(have a3:=hS1.bC 1 rfl 0);simp only[gA,gB,gC]at a0 a3;replace hS1:=Lh hS1;replace hb1:=Lh hb1);go_quiet (fail);go_wp2_with fail;go_ret;exact⟨by rw[hD.out];rfl,(hS1.out.drewN nq).below⟩
 have c22:¬(i:Int)<(ns.length:Int):=by omega
 have hri:Hid (nO ns fs.length ns.length=some k):=by(have e:i=ns.length:=by omega);rw[<-e];exact hr.out
 have hS':=Lh hS;clear hS;go_wp2_with fail;clear z0 z1;go_loopw[9] (fun iv wr=>∃j:Nat,j<=fs.length/\iv=iV j/\Hid (∀(t:Nat) (f:TF),t<j->fs[t]? =some f->iA f.mode=true)/\Sep w wr [.box w.heap.size 25 #[.slice A1 ns.length c1,.slice A2 fs.length c2]]) (fun iv _=>fs.length-(intOf iv).toNat)
 case atStart=>exact⟨0,gI _,rfl,fun t f ht=>absurd ht (GK _),hS'.out⟩
 obtain⟨j,hj,rfl,hall,hS⟩:=hrel;have d0:(0:Int)<=(j:Int):=by omega
 have z0:=hS.bC 0 rfl 0;have z1:=hS.bC 0 rfl 1;simp only[gA,gB,gC]at z0 z1;by_cases hlt2:j<fs.length
 ·(have d2:(j:Int)<(fs.length:Int):=by omega);obtain⟨g,o,c,e,_,_,_,hcell⟩:=EB.out.place aD aV;cases e;obtain⟨f,he⟩:∃f,fs[j]? =some f:=⟨_,gE hlt2⟩;obtain⟨u,hu⟩:∃u,vs[j]? =some u:=⟨_,gE (by rw[h'.out.len];exact hlt2)⟩;have x0:=(hcell _ hS.below (j*2+0) aD).trans (fE he hu 0 aD);simp only[tfC,gB,gC,<-tC,tF]at x0;have he':=Lh he;have vC:=Lh hS;clear hcell he hu hS;cases hmo:iA f.mode with
  |false=>have hD:Hid (o6 ns fs=false):=Lh (by unfold o6;rw[Bool.and_eq_false_iff];right;rw[List.all_eq_false];exact⟨f,gG he'.out,by rw[hmo];decide⟩);have hmm:=wJ f.mode;rw[hmo]at hmm;go_wp2_with(go_at_call 91;refine(hmm _).mono ?_;rintro e w4 ⟨rfl,hw4⟩;have hw5:=hw4.symm;clear hw4;subst hw5);go_ret;exact⟨by rw[hD.out];rfl,vC.out.below⟩
  |true=>
   have hmm:=wJ f.mode;rw[hmo]at hmm;have aJ6:=Lh hmo;clear hmo;go_wp2_with(go_at_call 91;refine(hmm _).mono ?_;rintro e w4 ⟨rfl,hw4⟩;have hw5:=hw4.symm;clear hw4;subst hw5);go_roundw
   case rel=>
    refine⟨j+1,by omega,by go_num,fun t m ht hm=>?_,vC.out⟩;by_cases htj:t=j
    ·subst htj;have e1:=hm.symm.trans he'.out;cases e1;exact aJ6.out
    exact hall.out t m aD hm
   case measure=>(simp[intOf];omega)
 have d2:¬(j:Int)<(fs.length:Int):=by omega
 have hal:fs.all (fun f=>iA f.mode)=true:=by rw[List.all_eq_true];intro f hf;obtain⟨t,ht⟩:=List.mem_iff_getElem?.1 hf;exact hall.out t f (by have:=(gF.1 ht).1;omega) ht
 have hfin:Hid (o6 ns fs=((k:Int)==(fs.length:Int))):=Lh (by unfold o6;rw[hri.out,hal,Bool.and_true,Bool.eq_iff_iff];simp;try omega);have vC:=Lh hS;clear hS hal;go_wp2_with fail;go_ret;exact⟨by rw[hfin.out];rfl,vC.out.below⟩
theorem ZZ {w:World} {nv fv:Value} {ns:List TN} {fs:List TF} {vs:List Value} (h:iF w nv fv ns fs vs) (hm:BQ ns fs):
  Calls Tryz.prog 11 #[.agg #[nv,fv]] w fun e w'=>e= .returned (iV (if lV ns fs=true then 31 else if o6 ns fs=true then 0 else 30))/\Below w.heap.size w w':=by
 have hS0:=(Sep.nil w).bN 25 #[nv,fv];have hb:=fun(W:World) (hW:Below w.heap.size w W)=>ahL (h.below hW) hm
 have hf:=fun(W:World) (hW:Below w.heap.size w W)=>adU (h.below hW) hm
 obtain⟨A1,c1,rfl,hm1⟩:=h.nodes.shape;obtain⟨A2,c2,rfl,hm2⟩:=h.files.shape;have z0:=hS0.bC 0 rfl 0;have z1:=hS0.bC 0 rfl 1;simp only[gA,gB,gC]at z0 z1;have nS:=Lh hS0;have hb':=Lh hb;have hf':=Lh hf;clear h hm hS0 hb hf;generalize lV ns fs=bb at hb' ⊢;generalize o6 ns fs=ff at hf' ⊢;cases bb with
 |true=>go_enter Tryz.func11,Tryz.ntmps11;go_wp2_with(go_at_call 31;refine(hb'.out _ nS.out.below).mono ?_;rintro e w1 ⟨rfl,hb1⟩;(have hS1:=nS.out.pure hb1);(have y0:=hS1.bC 0 rfl 0);(have y1:=hS1.bC 0 rfl 1);simp only[gA,gB,gC]at y0 y1;replace hS1:=Lh hS1;clear hb1);go_ret;exact⟨rfl,hS1.out.below⟩
 |false=>
  cases ff<;>
  ·go_enter Tryz.func11,Tryz.ntmps11;go_wp2_with(first |(go_at_call 31;refine(hb'.out _ nS.out.below).mono ?_;rintro e w1 ⟨rfl,hb1⟩;(have hS1:=nS.out.pure hb1);(have y0:=hS1.bC 0 rfl 0);(have y1:=hS1.bC 0 rfl 1);simp only[gA,gB,gC]at y0 y1;replace hS1:=Lh hS1;clear hb1)|(go_at_call 32;refine(hf'.out _ hS1.out.below).mono ?_;rintro e w2 ⟨rfl,hb2⟩;(have hS2:=hS1.out.pure hb2);replace hS2:=Lh hS2;clear hb2));go_ret;exact⟨rfl,hS2.out.below⟩
theorem arQ {Ns:List TN} {p:List UInt8} {n:TN} (h:I9 Ns p=some n):n∈Ns/\n.path=p:=by unfold I9 at h;exact⟨TJ h,by simpa using GN h⟩
theorem av9 (Ns:List TN) (p:List UInt8):pI Ns p<=Ns.length:=List.countP_le_length
end Go.Proofs.YtmjomdkleikgbaaGreat
