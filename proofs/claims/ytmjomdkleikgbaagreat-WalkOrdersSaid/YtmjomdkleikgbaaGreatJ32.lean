/- Parts. -/
import Derived.Test.YtmjomdkleikgbaaGreatJ31
import Derived.Shelf.Slices.CompactI
import Derived.Lib.SlicesCompact
set_option linter.unusedVariables false
set_option linter.unusedSimpArgs false
set_option maxRecDepth 100000
set_option maxHeartbeats 20000000
namespace Go.Proofs.YtmjomdkleikgbaaGreat
open Go.RowKit
theorem afP {w:World} {nv fv:Value} {ns:List TN} {fs:List TF} {vs:List Value} (h:iR w nv fv ns fs vs) (hm:wD ns fs):
  Calls Tryz.prog 31 #[.agg #[nv,fv]] w fun e w'=>e= .returned (.bool (lJ ns fs))/\Below w.heap.size w w':=by
 have hS0:=(Sep.nil w).bN 25 #[nv,fv];obtain⟨A1,c1,rfl,hm1⟩:=h.nodes.shape;have hfp:=h.files;obtain⟨A2,c2,rfl,hm2⟩:=h.files.shape;have z0:=hS0.bC 0 rfl 0;have z1:=hS0.bC 0 rfl 1;simp only[gA,gB,gC]at z0 z1;have rQ:=Lh hS0;have h':=Lh h;have hs':=Lh hm.size;have hf:=hm.few;have hf2:=hm.JX;have FV:=Lh hfp;clear h hm hS0 hfp;unfold lJ;by_cases g1:256<ns.length
 ·(have b1:(256:Int)<(ns.length:Int):=by omega);rw[decide_eq_true g1,ND,ND];go_enter Tryz.func31,Tryz.ntmps31;go_wp2_with fail;go_ret;exact⟨rfl,rQ.out.below⟩
 have b1:¬(256:Int)<(ns.length:Int):=by omega
 by_cases g2:256<fs.length
 ·(have b2:(256:Int)<(fs.length:Int):=by omega);rw[decide_eq_true g2,Bool.or_true,ND];go_enter Tryz.func31,Tryz.ntmps31;go_wp2_with fail;go_ret;exact⟨rfl,rQ.out.below⟩
 have b2:¬(256:Int)<(fs.length:Int):=by omega
 rw[decide_eq_false g1,decide_eq_false g2,MZ,MZ];go_enter Tryz.func31,Tryz.ntmps31;go_wp2_with fail;go_loopw[3] (fun iv wr=>∃i:Nat,i<=fs.length/\iv=iV i/\wr=w.alloc (.cells #[.slice A1 ns.length c1,.slice A2 fs.length c2] 25)/\Hid (∀(j:Nat) (m:TF),j<i->fs[j]? =some m->JY m=false)) (fun iv _=>fs.length-(intOf iv).toNat)
 case atStart=>exact⟨0,fZ _,rfl,rfl,fun j m hj=>absurd hj (FL _)⟩
 obtain⟨i,hi,rfl,rfl,hno⟩:=hrel;have c0:(0:Int)<=(i:Int):=by omega
 by_cases hlt:i<fs.length
 ·(have c2:(i:Int)<(fs.length:Int):=by omega);obtain⟨g,o,c,e,_,_,_,hcell⟩:=FV.out.place aI aR;cases e;obtain⟨f,he⟩:∃f,fs[i]? =some f:=⟨_,gE hlt⟩;obtain⟨u,hu⟩:∃u,vs[i]? =some u:=⟨_,gE (by rw[h'.out.len];exact hlt)⟩;obtain⟨A,c9,rfl,_⟩:=(h'.out.data i u f hu he).shape;have c1:=(hcell _ rQ.out.below (i*2+1) aI).trans (fM he hu 1 aI);simp only[tfC,gB,gC,<-vX]at c1;have hsz:=hs'.out f (gG he);have he':=Lh he;clear hcell he hu;by_cases hp:8192<f.size
  ·(have hp2:(8192:Int)<(f.size:Int):=by omega);have hp':=Lh hp;clear hp;go_wp2_with fail;go_ret;refine⟨?_,rQ.out.below⟩;rw[List.any_eq_true.2 ⟨f,gG he'.out,by unfold JY;simpa using hp'.out⟩];rfl
  (have hp2:¬(8192:Int)<(f.size:Int):=by omega);have hp':=Lh hp;clear hp;go_wp2_with fail;go_roundw
  case rel=>
   refine⟨i+1,by omega,by go_num,by trivial,fun j m hj hm=>?_⟩;by_cases hji:j=i
   ·subst hji;have e1:=hm.symm.trans he'.out;cases e1;unfold JY;simpa using hp'.out
   exact hno.out j m aI hm
  case measure=>simp[intOf];omega
 have c2:¬(i:Int)<(fs.length:Int):=by omega
 go_wp2_with fail;go_ret;refine⟨?_,rQ.out.below⟩;have hall:fs.any JY=false:=by rw[ahB];intro f hf;obtain⟨j,hj⟩:=List.mem_iff_getElem?.1 hf;rw[hno.out j f (by have:=(gF.1 hj).1;omega) hj];simp
 rw[hall];rfl
def JZ (ns:List TN) (up:List UInt8):Bool:=decide (up=[])||(match H9 ns up with
 |none=>false
 |some m=>decide (m.file= -1))
def rV (ns:List TN) (fl i k:Nat) (n:TN):Bool:=
 ((aU n.path&&(decide (i=0)||Op.bytesLess (iD ns i) n.path))&&JZ ns (bA n.path))&&(if n.file= -1 then gV n.mode else((decide (n.mode=0)&&decide (0<=n.file))&&decide (n.file<=(k:Int)))&&decide (n.file<(fl:Int)))
def nC (ns:List TN) (fl:Nat):Nat->Option Nat
 |0=>some 0
 |i+1=>match nC ns fl i with
  |none=>none
  |some k=>match ns[i]? with
   |none=>some k
   |some n=>if rV ns fl i k n=true then some (gK k n)else none
theorem Z25 {P:Prop} (h:P:=by
 rw[hr]at h;simp only at h;cases hn:ns[i]? with
 |none=>rw[hn]at h;cases h;omega
 |some n=>
  rw[hn]at h;simp only at h;split at h
  ·cases h;unfold gK;split<;>omega
  cases h):P:=h
theorem atM {ns:List TN} {fl:Nat}:∀ {i k:Nat},nC ns fl i=some k->k<=i:=by
 intro i
 induction i with
 |zero=>intro k h;cases h;exact iU _
 |succ i ih=>
  intro k h;change (match nC ns fl i with
   |none=>none
   |some k=>match ns[i]? with
    |none=>some k
    |some n=>if rV ns fl i k n=true then some (gK k n)else none)=some k at h
  cases hr:nC ns fl i with
  |none=>rw[hr]at h;cases h
  |some k0=>have:=ih hr;exact Z25
def oO (ns:List TN) (fs:List TF):Bool:=decide (nC ns fs.length ns.length=some fs.length)&&fs.all (fun f=>gV f.mode)
theorem xE {ns:List TN} {fl i k:Nat} {n:TN} (h:nC ns fl i=some k) (hn:ns[i]? =some n):nC ns fl (i+1)=if rV ns fl i k n=true then some (gK k n)else none:=by
 show(match nC ns fl i with
  |none=>none
  |some k=>match ns[i]? with
   |none=>some k
   |some n=>if rV ns fl i k n=true then some (gK k n)else none)=_
 rw[h];simp only;rw[hn]
theorem U7 {ns:List TN} {fl i:Nat} (h:nC ns fl i=none):∀j,nC ns fl (i+j)=none:=by
 intro j
 induction j with
 |zero=>exact h
 |succ j ih=>
  show(match nC ns fl (i+j)with
   |none=>none
   |some k=>match ns[i+j]? with
    |none=>some k
    |some n=>if rV ns fl (i+j) k n=true then some (gK k n)else none)=none
  rw[ih]
theorem form_false {ns:List TN} {fs:List TF} {i k:Nat} {n:TN} (h:nC ns fs.length i=some k) (hn:ns[i]? =some n) (ho:rV ns fs.length i k n=false):oO ns fs=false:=by have h1:=xE h hn;rw[ho,if_neg aR]at h1;have hi:=(gF.1 hn).1;have h2:=U7 h1 (ns.length-(i+1));rw[show i+1+(ns.length-(i+1))=ns.length by omega]at h2;unfold oO;rw[h2];simp
theorem QG (ns:List TN) (p:List UInt8):(H9 ns p=none/\IA ns p= -1)\/∃(k:Nat) (m:TN),H9 ns p=some m/\ns[k]? =some m/\IA ns p=k/\m.path=p:=by
 unfold H9 IA;cases h:ns.findIdx? (fun n=>n.path==p)with
 |none=>left;refine⟨?_,rfl⟩;rw[vY];intro m hm;have:=ZC.1 h m hm;simp[this]
 |some k=>right;obtain⟨hk,h1,h2⟩:=Y4.1 h;refine⟨k,ns[k],?_,gE hk,rfl,by simpa using h1⟩;rw[List.find?_eq_some_iff_getElem];refine⟨h1,k,hk,rfl,fun j hj=>?_⟩;have:=h2 j hj;simpa using this
def acC (fl k:Nat) (n:TN):Prop:=(n.file= -1/\gV n.mode=true)\/(¬n.file= -1/\n.mode=0/\0<=n.file/\n.file<=(k:Int)/\n.file<(fl:Int))
theorem pR {ns:List TN} {fl i k:Nat} {n:TN}:rV ns fl i k n=true↔((aU n.path=true/\(i=0\/Op.bytesLess (iD ns i) n.path=true))/\JZ ns (bA n.path)=true)/\acC fl k n:=by
 unfold rV acC;by_cases h:n.file= -1
 ·simp[h]
 simp[h,and_assoc]
theorem acD {ns:List TN} {fl i k:Nat} {n:TN} (h:¬acC fl k n):rV ns fl i k n=false:=by
 cases h2:rV ns fl i k n with
 |false=>rfl
 |true=>exact absurd (pR.1 h2).2 h
theorem EU {ns:List TN} {i:Nat} {m:TN} (h:ns[i]? =some m):iD ns (i+1)=m.path:=by
 show((ns[i]?).map (·.path)).getD []=_
 rw[h];rfl
theorem Z2 {P:Prop} (h:P:=by
 go_quiet (fail);have BD:=hS1.out.drewN nq;clear hS1 hb1;generalize w1.drewN nq=wq at BD ⊢;(have d0:=BD.bC 0 rfl 0);(have d1:=BD.bC 0 rfl 1);(have d2:=BD.bC 0 rfl 2);(have e0:=BD.bC 1 rfl 0);(have e1:=BD.bC 1 rfl 1);simp only[gA,gB,gC]at d0 d1 d2 e0 e1;have afQ:=Lh BD;clear BD;go_wp2_with(first |(go_at_call 89;refine(LU.out _).mono ?_;rintro e w2 ⟨rfl,hb2⟩;(have hS2:=afQ.out.pure hb2);(have f0:=hS2.bC 0 rfl 0);(have f1:=hS2.bC 0 rfl 1);(have f2:=hS2.bC 0 rfl 2);(have g0:=hS2.bC 1 rfl 0);(have g1:=hS2.bC 1 rfl 1);simp only[gA,gB,gC]at f0 f1 f2 g0 g1;replace hS2:=Lh hS2;clear hb2)|(go_at_call 90;refine(apO.out _ hS2.out.below _).mono ?_;rintro e w3 ⟨rfl,hb3⟩;rw[ak7.out];(have eZ:=hS2.out.pure hb3);(have k0:=eZ.bC 0 rfl 0);(have k1:=eZ.bC 0 rfl 1);(have k2:=eZ.bC 0 rfl 2);(have l0:=eZ.bC 1 rfl 0);(have l1:=eZ.bC 1 rfl 1);simp only[gA,gB,gC]at k0 k1 k2 l0 l1;(have y1:=hy'.out _ eZ.below 1 aI);simp only[K6,aC,gB,gC,<-vX]at y1;replace eZ:=Lh eZ;clear hb3)|(go_at_call 91;refine(vU _ _).mono ?_;rintro e w4 ⟨rfl,hw4⟩;have hw5:=hw4.symm;clear hw4;subst hw5));all_goals first
  |(go_ret
    have QH:¬acC fs.length k n:=by(try simp only[sZ,kD,ne_eq,KE,ahA,gt_iff_lt]at*);rintro(⟨h1,h2⟩|⟨h1,h2,h3,h4,h5⟩)<;>first |omega|(simp_all;done)
    exact⟨by rw[(IB.out (acD QH)).out];rfl,eZ.out.below⟩)
  |(have QH:acC fs.length k n:=by
     try simp only[sZ,kD,ne_eq,KE,ahA,gt_iff_lt]at*
     first
      |(right;refine⟨?_,?_,?_,?_,?_⟩<;>omega)
      |(left;refine⟨by omega,?_⟩;assumption)
    have hst:=hgo'.out apP.out atN.out (by rw[apQ.out];exact acE.out) QH
    first
     |(have hq:gK k n=k:=(by unfold gK;rw[if_neg (by(try simp only[sZ,kD,ne_eq]at*);omega)])
       go_roundw
       case rel=>exact⟨i+1,k,by omega,by go_num,by trivial,(by rw[hq]at hst;exact hst),Sep.drop 1 eZ.out⟩
       case measure=>(simp[intOf];omega))
     |(have hq:gK k n=k+1:=(by unfold gK;rw[if_pos (by(try simp only[sZ,kD,ne_eq]at*);omega)])
       go_roundw
       case rel=>exact⟨i+1,k+1,by omega,by go_num,by go_num,(by rw[hq]at hst;exact hst),Sep.drop 1 eZ.out⟩
       case measure=>(simp[intOf];omega)))):P:=h
theorem Z50 {P:Prop} (h:P:=by
 go_quiet (fail);have BD:=hS1.out.drewN nq;clear hS1 hb1;generalize w1.drewN nq=wq at BD ⊢;(have d0:=BD.bC 0 rfl 0);(have d1:=BD.bC 0 rfl 1);(have d2:=BD.bC 0 rfl 2);(have e0:=BD.bC 1 rfl 0);(have e1:=BD.bC 1 rfl 1);simp only[gA,gB,gC]at d0 d1 d2 e0 e1;have afQ:=Lh BD;clear BD;go_wp2_with(first |(go_at_call 89;refine(LU.out _).mono ?_;rintro e w2 ⟨rfl,hb2⟩;(have hS2:=afQ.out.pure hb2);(have f0:=hS2.bC 0 rfl 0);(have f1:=hS2.bC 0 rfl 1);(have f2:=hS2.bC 0 rfl 2);(have g0:=hS2.bC 1 rfl 0);(have g1:=hS2.bC 1 rfl 1);simp only[gA,gB,gC]at f0 f1 f2 g0 g1;replace hS2:=Lh hS2;clear hb2)|(go_at_call 91;refine(vU _ _).mono ?_;rintro e w4 ⟨rfl,hw4⟩;have hw5:=hw4.symm;clear hw4;subst hw5));all_goals first
  |(go_ret
    have QH:¬acC fs.length k n:=by(try simp only[sZ,kD,ne_eq,KE,ahA,gt_iff_lt]at*);rintro(⟨h1,h2⟩|⟨h1,h2,h3,h4,h5⟩)<;>first |omega|(simp_all;done)
    exact⟨by rw[(IB.out (acD QH)).out];rfl,hS2.out.below⟩)
  |(have QH:acC fs.length k n:=by
     try simp only[sZ,kD,ne_eq,KE,ahA,gt_iff_lt]at*
     first
      |(right;refine⟨?_,?_,?_,?_,?_⟩<;>omega)
      |(left;refine⟨by omega,?_⟩;assumption)
    have hst:=hgo'.out apP.out atN.out (by rw[apQ.out];exact acE.out) QH
    first
     |(have hq:gK k n=k:=(by unfold gK;rw[if_neg (by(try simp only[sZ,kD,ne_eq]at*);omega)])
       go_roundw
       case rel=>exact⟨i+1,k,by omega,by go_num,by trivial,(by rw[hq]at hst;exact hst),Sep.drop 1 hS2.out⟩
       case measure=>(simp[intOf];omega))
     |(have hq:gK k n=k+1:=(by unfold gK;rw[if_pos (by(try simp only[sZ,kD,ne_eq]at*);omega)])
       go_roundw
       case rel=>exact⟨i+1,k+1,by omega,by go_num,by go_num,(by rw[hq]at hst;exact hst),Sep.drop 1 hS2.out⟩
       case measure=>(simp[intOf];omega)))):P:=h
theorem Z64 {P:Prop} (h:P:=by go_quiet (fail);have BD:=hS1.out.drewN nq;clear hS1 hb1;generalize w1.drewN nq=wq at BD ⊢;(have d0:=BD.bC 0 rfl 0);(have d1:=BD.bC 0 rfl 1);(have d2:=BD.bC 0 rfl 2);(have e0:=BD.bC 1 rfl 0);(have e1:=BD.bC 1 rfl 1);simp only[gA,gB,gC]at d0 d1 d2 e0 e1;have afQ:=Lh BD;clear BD;go_wp2_with(first |(go_at_call 89;refine(LU.out _).mono ?_;rintro e w2 ⟨rfl,hb2⟩;(have hS2:=afQ.out.pure hb2);(have f0:=hS2.bC 0 rfl 0);(have f1:=hS2.bC 0 rfl 1);(have f2:=hS2.bC 0 rfl 2);(have g0:=hS2.bC 1 rfl 0);(have g1:=hS2.bC 1 rfl 1);simp only[gA,gB,gC]at f0 f1 f2 g0 g1;replace hS2:=Lh hS2;clear hb2)|(go_at_call 90;refine(apO.out _ hS2.out.below _).mono ?_;rintro e w3 ⟨rfl,hb3⟩;rw[ak7.out];(have eZ:=hS2.out.pure hb3);(have k0:=eZ.bC 0 rfl 0);(have k1:=eZ.bC 0 rfl 1);(have k2:=eZ.bC 0 rfl 2);(have l0:=eZ.bC 1 rfl 0);(have l1:=eZ.bC 1 rfl 1);simp only[gA,gB,gC]at k0 k1 k2 l0 l1;(have y1:=hy'.out _ eZ.below 1 aI);simp only[K6,aC,gB,gC,<-vX]at y1;replace eZ:=Lh eZ;clear hb3));go_ret;exact⟨by rw[hD.out];rfl,eZ.out.below⟩):P:=h
theorem Z72 {P:Prop} (h:P:=by go_quiet (fail);have BD:=hS1.out.drewN nq;clear hS1 hb1;generalize w1.drewN nq=wq at BD ⊢;(have d0:=BD.bC 0 rfl 0);(have d1:=BD.bC 0 rfl 1);(have d2:=BD.bC 0 rfl 2);(have e0:=BD.bC 1 rfl 0);(have e1:=BD.bC 1 rfl 1);simp only[gA,gB,gC]at d0 d1 d2 e0 e1;have afQ:=Lh BD;clear BD;go_wp2_with(first |(go_at_call 89;refine(LU.out _).mono ?_;rintro e w2 ⟨rfl,hb2⟩;(have hS2:=afQ.out.pure hb2);(have f0:=hS2.bC 0 rfl 0);(have f1:=hS2.bC 0 rfl 1);(have f2:=hS2.bC 0 rfl 2);(have g0:=hS2.bC 1 rfl 0);(have g1:=hS2.bC 1 rfl 1);simp only[gA,gB,gC]at f0 f1 f2 g0 g1;replace hS2:=Lh hS2;clear hb2)|(go_at_call 90;refine(apO.out _ hS2.out.below _).mono ?_;rintro e w3 ⟨rfl,hb3⟩;rw[ak7.out];(have eZ:=hS2.out.pure hb3);(have k0:=eZ.bC 0 rfl 0);(have k1:=eZ.bC 0 rfl 1);(have k2:=eZ.bC 0 rfl 2);(have l0:=eZ.bC 1 rfl 0);(have l1:=eZ.bC 1 rfl 1);simp only[gA,gB,gC]at k0 k1 k2 l0 l1;replace eZ:=Lh eZ;clear hb3));go_ret;exact⟨by rw[hD.out];rfl,eZ.out.below⟩):P:=h
theorem Z77 {P:Prop} (h:P:=by
 cases h2:rV ns fs.length i k n with
 |false=>rfl
 |true=>have:=(pR.1 h2).1.2;rw[hup]at this;unfold JZ at this;rw[hf1]at this;simp[hu0,hmd]at this):P:=h
theorem Z79 {P:Prop} (h:P:=by
 cases h2:rV ns fs.length i k n with
 |false=>rfl
 |true=>have:=(pR.1 h2).1.2;rw[hup]at this;unfold JZ at this;rw[hf1]at this;simp[hu0]at this):P:=h
theorem acF {w:World} {nv fv:Value} {ns:List TN} {fs:List TF} {vs:List Value} (h:iR w nv fv ns fs vs) (hm:wD ns fs):
  Calls Tryz.prog 32 #[.agg #[nv,fv]] w fun e w'=>e= .returned (.bool (oO ns fs))/\Below w.heap.size w w':=by
 have hS0:=(Sep.nil w).bN 25 #[nv,fv];have hnp:=h.nodes;obtain⟨A1,c1,rfl,hm1⟩:=h.nodes.shape;have hfp:=h.files;obtain⟨A2,c2,rfl,hm2⟩:=h.files.shape;have rQ:=Lh hS0;have h':=Lh h;have hsh':=Lh hm.short;have hf:=hm.few;have hf2:=hm.JX;have ak8:=Lh hnp;have FV:=Lh hfp;have hval:=fun(n:TN) (hn:n∈ns) (W:World)=>H8 ⟨n.path.toArray⟩ W (by rw[iK];have:=hm.short n hn;omega)
 have aBI:=fun(n:TN) (hn:n∈ns) (W:World)=>SI (p:=n.path) W (by have:=hm.short n hn;omega)
 have aBJ:=fun(W:World) (hW:Below w.heap.size w W) (p:List UInt8)=>acB (h.below hW) hm.few p
 have hval':=Lh hval;have av8:=Lh aBI;have apO:=Lh aBJ;clear h hm hnp hfp hval aBI aBJ;have z0:=hS0.bC 0 rfl 0;have z1:=hS0.bC 0 rfl 1;simp only[gA,gB,gC]at z0 z1;clear hS0;have b1:(ns.length:Int)<=300:=by omega
 have b2:(fs.length:Int)<=300:=by omega
 go_enter Tryz.func32,Tryz.ntmps32;go_wp2_with fail;clear z0 z1;go_loopw[4,3] (fun iv kv wr=>∃i k:Nat,i<=ns.length/\iv=iV i/\kv=iV k/\Hid (nC ns fs.length i=some k)/\Sep w wr [.box w.heap.size 25 #[.slice A1 ns.length c1,.slice A2 fs.length c2]]) (fun iv _ _=>ns.length-(intOf iv).toNat)
 case atStart=>exact⟨0,0,fZ _,rfl,rfl,rfl,rQ.out⟩
 obtain⟨i,k,hi,rfl,rfl,hr,hS⟩:=hrel;have hki:=atM hr.out;have c0:(0:Int)<=(i:Int):=by omega
 have cK:(k:Int)<=300:=by omega
 have aNF:=Lh hki;clear hki;have z0:=hS.bC 0 rfl 0;have z1:=hS.bC 0 rfl 1;simp only[gA,gB,gC]at z0 z1;by_cases hlt:i<ns.length
 ·(have c2:(i:Int)<(ns.length:Int):=by omega);obtain⟨g,o,c,e,_,_,_,hcell⟩:=ak8.out.place aI aR;cases e;obtain⟨n,he⟩:∃n,ns[i]? =some n:=⟨_,gE hlt⟩;(have hx:=fun(W:World) (hW:Below w.heap.size w W) (j:Nat) (hj:j<3)=>(hcell _ hW (i*3+j) aI).trans (dE he j aI));have x0:=hx _ hS.below 0 aI;have x1:=hx _ hS.below 1 aI;have x2:=hx _ hS.below 2 aI;simp only[K6,aC,gB,gC,<-vX,uY]at x0 x1 x2;have hb:=hS.bN 68 #[.string ⟨n.path.toArray⟩,iV n.file,iV n.mode];have hb':=Lh hb;have he':=Lh he;have hx':=Lh hx;have hmem:=gG he;have hva:=hval'.out n hmem;have wE:=Lh hva;have hcell':=Lh hcell;clear hva hx hb hcell;(have hbad:rV ns fs.length i k n=false->Hid (oO ns fs=false):=fun h=>form_false hr.out he h);have IB:=Lh hbad;(have hgo:(i=0\/Op.bytesLess (iD ns i) n.path=true)->aU n.path=true->JZ ns (bA n.path)=true->acC fs.length k n->Hid (nC ns fs.length (i+1)=some (gK k n)):=fun h1 h2 h3 h4=>by have h5:=xE hr.out he;rw[if_pos (pR.2 ⟨⟨⟨h2,h1⟩,h3⟩,h4⟩)]at h5;exact h5);have hgo':=Lh hgo;clear hbad he hgo;cases hvl:aU n.path with
  |false=>have hD:Hid (oO ns fs=false):=IB.out (by unfold rV;rw[hvl];rfl);rw[hvl]at wE;clear hS hvl IB hmem;go_wp2_with(go_at_call 88;refine(wE.out _).mono ?_;rintro e w1 ⟨rfl,hb1⟩;replace hb1:=Lh hb1);go_quiet (fail);go_wp2_with fail;go_ret;exact⟨by rw[hD.out];rfl,(((hb'.out.pure hb1.out)).drewN nq).below⟩
  |true=>
   have atN:=Lh hvl;rw[hvl]at wE;rcases xN i with hi0|hi0
   ·(have c9:¬(0:Int)<(i:Int):=by omega);(have c10:¬0<i:=by omega);have apP:Hid (i=0\/Op.bytesLess (iD ns i) n.path=true):=Or.inl hi0;clear hvl hi0;have MK:=av8.out n hmem;obtain⟨up,hup⟩:∃up,bA n.path=up:=⟨_,rfl⟩;rw[hup]at MK;have LU:=Lh MK;clear MK;by_cases hu0:up=[]
    ·subst hu0;have acE:Hid (JZ ns []=true):=rfl;have apQ:=Lh hup;clear hup hmem hS;unfold aC at*;go_wp2_with(go_at_call 88;refine(wE.out _).mono ?_;rintro e w1 ⟨rfl,hb1⟩;(have hS1:=hb'.out.pure hb1);replace hS1:=Lh hS1;replace hb1:=Lh hb1);exact Z50
    (have bU:(up.isEmpty)=false:=by cases up with|nil=>exact absurd rfl hu0|cons a l=>rfl);rcases QG ns up with⟨hf1,hf9⟩|⟨kk,m,hf1,AV,hf9,hf7⟩
    ·have hD:Hid (oO ns fs=false):=IB.out (by exact Z79);have ak7:=Lh hf9;have aGV:=Lh hu0;clear hup hmem hS hf1 hf9 hu0;unfold aC at*;go_wp2_with(go_at_call 88;refine(wE.out _).mono ?_;rintro e w1 ⟨rfl,hb1⟩;(have hS1:=hb'.out.pure hb1);replace hS1:=Lh hS1;replace hb1:=Lh hb1);exact Z72
    have ak7:=Lh hf9;(have hy:=fun(W:World) (hW:Below w.heap.size w W) (j:Nat) (hj:j<3)=>(hcell'.out _ hW (kk*3+j) (by have:=(gF.1 AV).1;omega)).trans (dE AV j aI));(have yk:(kk:Int)<(ns.length:Int):=by have:=(gF.1 AV).1;omega);(have yk0:(0:Int)<=(kk:Int):=by omega);have hy':=Lh hy;clear hy;by_cases hmd:m.file= -1
    ·(have hmb:(m.file != -1)=false:=by rw[hmd];rfl);have apQ:=Lh hup;have acE:Hid (JZ ns up=true):=Lh (by unfold JZ;rw[hf1];simp[hmd]);have YF:=Lh hmd;clear hup hmem hS hf1 hf9 AV hf7 hu0 hmd;unfold aC at*;go_wp2_with(go_at_call 88;refine(wE.out _).mono ?_;rintro e w1 ⟨rfl,hb1⟩;(have hS1:=hb'.out.pure hb1);replace hS1:=Lh hS1;replace hb1:=Lh hb1);exact Z2
    (have hmb:(m.file != -1)=true:=by simpa using hmd);have hD:Hid (oO ns fs=false):=IB.out (by exact Z77);clear hup hmem hS hf1 hf9 AV hf7 hu0 hmd;unfold aC at*;go_wp2_with(go_at_call 88;refine(wE.out _).mono ?_;rintro e w1 ⟨rfl,hb1⟩;(have hS1:=hb'.out.pure hb1);replace hS1:=Lh hS1;replace hb1:=Lh hb1);exact Z64
   (have c9:(0:Int)<(i:Int):=by omega);(have c11:(0:Int)<=(i:Int)-1:=by omega);(have c12:(i:Int)-1<(ns.length:Int):=by omega);(have c13:((i:Int)-1).toNat=i-1:=by omega);obtain⟨pm,hpm⟩:∃pm,ns[i-1]? =some pm:=⟨_,gE aI⟩;(have hlq:iD ns i=pm.path:=by have h:=EU hpm;rw[show i-1+1=i by omega]at h;exact h);(have p0:=fun(W:World) (hW:Below w.heap.size w W)=>(hcell'.out _ hW ((i-1)*3+0) aI).trans (dE hpm 0 aI));simp only[K6,aC,gB,gC,<-vX,uY]at p0;have p0':=Lh p0;have aBM:=Lh hlq;clear p0 hlq hpm;cases hls:Op.bytesLess pm.path n.path with
   |true=>
    have apP:Hid (i=0\/Op.bytesLess (iD ns i) n.path=true):=Or.inr (by rw[aBM.out];exact hls);clear hvl;have MK:=av8.out n hmem;obtain⟨up,hup⟩:∃up,bA n.path=up:=⟨_,rfl⟩;rw[hup]at MK;have LU:=Lh MK;clear MK;by_cases hu0:up=[]
    ·subst hu0;have acE:Hid (JZ ns []=true):=rfl;have apQ:=Lh hup;clear hup hmem hS;unfold aC at*;go_wp2_with(go_at_call 88;refine(wE.out _).mono ?_;rintro e w1 ⟨rfl,hb1⟩;(have hS1:=hb'.out.pure hb1);(have pp:=p0'.out _ hS1.below);(have a0:=hS1.bC 0 rfl 0);(have a3:=hS1.bC 1 rfl 0);simp only[gA,gB,gC]at a0 a3;replace hS1:=Lh hS1;replace hb1:=Lh hb1);exact Z50
    (have bU:(up.isEmpty)=false:=by cases up with|nil=>exact absurd rfl hu0|cons a l=>rfl);rcases QG ns up with⟨hf1,hf9⟩|⟨kk,m,hf1,AV,hf9,hf7⟩
    ·have hD:Hid (oO ns fs=false):=IB.out (by exact Z79);have ak7:=Lh hf9;have aGV:=Lh hu0;clear hup hmem hS hf1 hf9 hu0;unfold aC at*;go_wp2_with(go_at_call 88;refine(wE.out _).mono ?_;rintro e w1 ⟨rfl,hb1⟩;(have hS1:=hb'.out.pure hb1);(have pp:=p0'.out _ hS1.below);(have a0:=hS1.bC 0 rfl 0);(have a3:=hS1.bC 1 rfl 0);simp only[gA,gB,gC]at a0 a3;replace hS1:=Lh hS1;replace hb1:=Lh hb1);exact Z72
    have ak7:=Lh hf9;(have hy:=fun(W:World) (hW:Below w.heap.size w W) (j:Nat) (hj:j<3)=>(hcell'.out _ hW (kk*3+j) (by have:=(gF.1 AV).1;omega)).trans (dE AV j aI));(have yk:(kk:Int)<(ns.length:Int):=by have:=(gF.1 AV).1;omega);(have yk0:(0:Int)<=(kk:Int):=by omega);have hy':=Lh hy;clear hy;by_cases hmd:m.file= -1
    ·(have hmb:(m.file != -1)=false:=by rw[hmd];rfl);have apQ:=Lh hup;have acE:Hid (JZ ns up=true):=Lh (by unfold JZ;rw[hf1];simp[hmd]);have YF:=Lh hmd;clear hup hmem hS hf1 hf9 AV hf7 hu0 hmd;unfold aC at*;go_wp2_with(go_at_call 88;refine(wE.out _).mono ?_;rintro e w1 ⟨rfl,hb1⟩;(have hS1:=hb'.out.pure hb1);(have pp:=p0'.out _ hS1.below);(have a0:=hS1.bC 0 rfl 0);(have a3:=hS1.bC 1 rfl 0);simp only[gA,gB,gC]at a0 a3;replace hS1:=Lh hS1;replace hb1:=Lh hb1);exact Z2
    (have hmb:(m.file != -1)=true:=by simpa using hmd);have hD:Hid (oO ns fs=false):=IB.out (by exact Z77);clear hup hmem hS hf1 hf9 AV hf7 hu0 hmd;unfold aC at*;go_wp2_with(go_at_call 88;refine(wE.out _).mono ?_;rintro e w1 ⟨rfl,hb1⟩;(have hS1:=hb'.out.pure hb1);(have pp:=p0'.out _ hS1.below);(have a0:=hS1.bC 0 rfl 0);(have a3:=hS1.bC 1 rfl 0);simp only[gA,gB,gC]at a0 a3;replace hS1:=Lh hS1;replace hb1:=Lh hb1);exact Z64
   |false=>
    have hD:Hid (oO ns fs=false):=IB.out (by
     cases h2:rV ns fs.length i k n with
     |false=>rfl
     |true=>
      have:=(pR.1 h2).1.1.2;rw[aBM.out,hls]at this;rcases this with h|h
      ·omega
      cases h)
    clear hvl hmem hS;unfold aC at*;go_wp2_with(go_at_call 88;refine(wE.out _).mono ?_;rintro e w1 ⟨rfl,hb1⟩;(have hS1:=hb'.out.pure hb1);(have pp:=p0'.out _ hS1.below);(have a0:=hS1.bC 0 rfl 0);(have a3:=hS1.bC 1 rfl 0);simp only[gA,gB,gC]at a0 a3;replace hS1:=Lh hS1;replace hb1:=Lh hb1);go_quiet (fail);go_wp2_with fail;go_ret;exact⟨by rw[hD.out];rfl,(hS1.out.drewN nq).below⟩
 have c22:¬(i:Int)<(ns.length:Int):=by omega
 have hri:Hid (nC ns fs.length ns.length=some k):=by(have e:i=ns.length:=by omega);rw[<-e];exact hr.out
 have hS':=Lh hS;clear hS;go_wp2_with fail;clear z0 z1;go_loopw[9] (fun iv wr=>∃j:Nat,j<=fs.length/\iv=iV j/\Hid (∀(t:Nat) (f:TF),t<j->fs[t]? =some f->gV f.mode=true)/\Sep w wr [.box w.heap.size 25 #[.slice A1 ns.length c1,.slice A2 fs.length c2]]) (fun iv _=>fs.length-(intOf iv).toNat)
 case atStart=>exact⟨0,fZ _,rfl,fun t f ht=>absurd ht (FL _),hS'.out⟩
 obtain⟨j,hj,rfl,hall,hS⟩:=hrel;have d0:(0:Int)<=(j:Int):=by omega
 have z0:=hS.bC 0 rfl 0;have z1:=hS.bC 0 rfl 1;simp only[gA,gB,gC]at z0 z1;by_cases hlt2:j<fs.length
 ·(have d2:(j:Int)<(fs.length:Int):=by omega);obtain⟨g,o,c,e,_,_,_,hcell⟩:=FV.out.place aI aR;cases e;obtain⟨f,he⟩:∃f,fs[j]? =some f:=⟨_,gE hlt2⟩;obtain⟨u,hu⟩:∃u,vs[j]? =some u:=⟨_,gE (by rw[h'.out.len];exact hlt2)⟩;have x0:=(hcell _ hS.below (j*2+0) aI).trans (fM he hu 0 aI);simp only[tfC,gB,gC,<-vX,uY]at x0;have he':=Lh he;have uH:=Lh hS;clear hcell he hu hS;cases hmo:gV f.mode with
  |false=>have hD:Hid (oO ns fs=false):=Lh (by unfold oO;rw[Bool.and_eq_false_iff];right;rw[List.all_eq_false];exact⟨f,gG he'.out,by rw[hmo];decide⟩);have hmm:=vU f.mode;rw[hmo]at hmm;go_wp2_with(go_at_call 91;refine(hmm _).mono ?_;rintro e w4 ⟨rfl,hw4⟩;have hw5:=hw4.symm;clear hw4;subst hw5);go_ret;exact⟨by rw[hD.out];rfl,uH.out.below⟩
  |true=>
   have hmm:=vU f.mode;rw[hmo]at hmm;have aGW:=Lh hmo;clear hmo;go_wp2_with(go_at_call 91;refine(hmm _).mono ?_;rintro e w4 ⟨rfl,hw4⟩;have hw5:=hw4.symm;clear hw4;subst hw5);go_roundw
   case rel=>
    refine⟨j+1,by omega,by go_num,fun t m ht hm=>?_,uH.out⟩;by_cases htj:t=j
    ·subst htj;have e1:=hm.symm.trans he'.out;cases e1;exact aGW.out
    exact hall.out t m aI hm
   case measure=>(simp[intOf];omega)
 have d2:¬(j:Int)<(fs.length:Int):=by omega
 have hal:fs.all (fun f=>gV f.mode)=true:=by rw[List.all_eq_true];intro f hf;obtain⟨t,ht⟩:=List.mem_iff_getElem?.1 hf;exact hall.out t f (by have:=(gF.1 ht).1;omega) ht
 have hfin:Hid (oO ns fs=((k:Int)==(fs.length:Int))):=Lh (by unfold oO;rw[hri.out,hal,Bool.and_true,Bool.eq_iff_iff];simp;try omega);have uH:=Lh hS;clear hS hal;go_wp2_with fail;go_ret;exact⟨by rw[hfin.out];rfl,uH.out.below⟩
theorem YG {w:World} {nv fv:Value} {ns:List TN} {fs:List TF} {vs:List Value} (h:iR w nv fv ns fs vs) (hm:wD ns fs):
  Calls Tryz.prog 11 #[.agg #[nv,fv]] w fun e w'=>e= .returned (iV (if lJ ns fs=true then 31 else if oO ns fs=true then 0 else 30))/\Below w.heap.size w w':=by
 have hS0:=(Sep.nil w).bN 25 #[nv,fv];have hb:=fun(W:World) (hW:Below w.heap.size w W)=>afP (h.below hW) hm
 have hf:=fun(W:World) (hW:Below w.heap.size w W)=>acF (h.below hW) hm
 obtain⟨A1,c1,rfl,hm1⟩:=h.nodes.shape;obtain⟨A2,c2,rfl,hm2⟩:=h.files.shape;have z0:=hS0.bC 0 rfl 0;have z1:=hS0.bC 0 rfl 1;simp only[gA,gB,gC]at z0 z1;have rQ:=Lh hS0;have hb':=Lh hb;have hf':=Lh hf;clear h hm hS0 hb hf;generalize lJ ns fs=bb at hb' ⊢;generalize oO ns fs=ff at hf' ⊢;cases bb with
 |true=>go_enter Tryz.func11,Tryz.ntmps11;go_wp2_with(go_at_call 31;refine(hb'.out _ rQ.out.below).mono ?_;rintro e w1 ⟨rfl,hb1⟩;(have hS1:=rQ.out.pure hb1);(have y0:=hS1.bC 0 rfl 0);(have y1:=hS1.bC 0 rfl 1);simp only[gA,gB,gC]at y0 y1;replace hS1:=Lh hS1;clear hb1);go_ret;exact⟨rfl,hS1.out.below⟩
 |false=>
  cases ff<;>
  ·go_enter Tryz.func11,Tryz.ntmps11;go_wp2_with(first |(go_at_call 31;refine(hb'.out _ rQ.out.below).mono ?_;rintro e w1 ⟨rfl,hb1⟩;(have hS1:=rQ.out.pure hb1);(have y0:=hS1.bC 0 rfl 0);(have y1:=hS1.bC 0 rfl 1);simp only[gA,gB,gC]at y0 y1;replace hS1:=Lh hS1;clear hb1)|(go_at_call 32;refine(hf'.out _ hS1.out.below).mono ?_;rintro e w2 ⟨rfl,hb2⟩;(have hS2:=hS1.out.pure hb2);replace hS2:=Lh hS2;clear hb2));go_ret;exact⟨rfl,hS2.out.below⟩
theorem apR {Ns:List TN} {p:List UInt8} {n:TN} (h:H9 Ns p=some n):n∈Ns/\n.path=p:=by unfold H9 at h;exact⟨RF h,by simpa using FK h⟩
end Go.Proofs.YtmjomdkleikgbaaGreat
namespace Go.Proofs.YtmjomdkleikgbaaGreat
theorem uJ :∀(k:Nat) {p q:List UInt8},p.length<=k->splitB p=splitB q->p=q
 |k,p,q,hk,h=>by
  rcases mI p with⟨_,_,h1⟩|⟨a,b,e,_,_,h1⟩<;>rcases mI q with⟨_,_,h2⟩|⟨c,d,e2,_,_,h2⟩
  ·rw[h1,h2]at h;exact(List.cons.inj h).1
  ·rw[h1,h2]at h;have:=congrArg List.length h;have h5:=gP c;(have h6:(splitB c).length≠0:=fun e=>h5 (uR e));rw[jJ,nZ,nZ]at this;omega
  ·rw[h1,h2]at h;have:=congrArg List.length h;have h5:=gP a;(have h6:(splitB a).length≠0:=fun e=>h5 (uR e));rw[jJ,nZ,nZ]at this;omega
  rw[h1,h2]at h;obtain⟨h3,h4⟩:=List.append_inj' h rfl;cases k with
  |zero=>rw[e]at hk;simp at hk
  |succ k=>have:=uJ k (p:=a) (q:=c) (by rw[e]at hk;simp at hk;omega) h3;rw[e,e2,this,(List.cons.inj h4).1]
open Go.RowKit
theorem afS :(Tryz.prog.info? 5).map (fun i=>(i.zero,i.size,i.bytes))=some (some (.int .u8 0),1,1):=by kernel_rfl
theorem afT :(Tryz.prog.info? 68).map (fun i=>(i.zero,i.size,i.bytes))=some (some (.agg #[.string ⟨#[]⟩,iV 0,iV 0]),3,32):=by kernel_rfl
theorem afU :(Tryz.prog.info? 71).map (fun i=>(i.zero,i.size,i.bytes))=some (some (.agg #[iV 0,.slice none 0 0]),2,32):=by kernel_rfl
theorem SL {α β:Type} (E:α->β) {l:List α} {i:Nat} {p:α} (h:l[i]? =some p):(l.take (i+1)).map E=(l.take i).map E++[E p]:=by rw[pX,h,mM];rfl
theorem pU {α:Type} {P:List α->Prop} (h0:P []) (h1:∀xs x,P xs->P (xs++[x])) (xs:List α):P xs:=by
 rw[<-List.reverse_reverse xs]
 induction xs.reverse with
 |nil=>exact h0
 |cons a l ih=>rw[List.reverse_cons];exact h1 _ _ ih
theorem atO {ids:List Int} {a:Int} (h:a∈ids) (l:List Int):(ids++l).idxOf a=ids.idxOf a:=by rw[List.idxOf_append,if_pos h]
def fP (xs:List TN):List Int:=xs.foldl (fun ids n=>if n.file<0 then ids else if n.file∈ids then ids else ids++[n.file]) []
theorem kU (xs:List TN) (n:TN):fP (xs++[n])=if n.file<0 then fP xs else if n.file∈fP xs then fP xs else fP xs++[n.file]:=by unfold fP;rw[M6];rfl
def lC (ids:List Int) (n:TN):TN:=if n.file<0 then n else⟨n.path,(ids.idxOf n.file:Nat),n.mode⟩
theorem uK (xs:List TN):∀n∈xs,¬n.file<0->n.file∈fP xs:=by
 refine pU (P:=fun xs=>∀n∈xs,¬n.file<0->n.file∈fP xs) ?_ ?_ xs
 ·intro n hn;cases hn
 intro xs m ih;intro n hn hf;rw[kU];rcases iM.1 hn with hn|hn
 ·have:=ih n hn hf;split
  ·exact this
  split
  ·exact this
  exact uT _ this
 have e:n=m:=by simpa using hn
 subst e;rw[if_neg hf];split
 ·assumption
 simp
theorem CW (xs:List TN):∀id∈fP xs,∃n∈xs,n.file=id/\¬n.file<0:=by
 refine pU (P:=fun xs=>∀id∈fP xs,∃n∈xs,n.file=id/\¬n.file<0) ?_ ?_ xs
 ·intro id h;cases h
 intro xs m ih;intro id h;rw[kU]at h;have key:id∈fP xs->∃n∈xs++[m],n.file=id/\¬n.file<0:=fun h=>by obtain⟨n,h1,h2⟩:=ih id h;exact⟨n,uT _ h1,h2⟩
 split at h
 ·exact key h
 split at h
 ·exact key h
 rcases iM.1 h with h|h
 ·exact key h
 have e:id=m.file:=by simpa using h
 subst e;exact⟨m,by simp,rfl,by assumption⟩
theorem QI (xs:List TN):(fP xs).length<=xs.length:=by
 refine pU (P:=fun xs=>(fP xs).length<=xs.length) ?_ ?_ xs
 ·exact iU _
 intro xs m ih;rw[kU,jJ,nZ];split
 ·omega
 split
 ·omega
 rw[jJ,nZ];omega
theorem U8 {xs:List TN} {ids:List Int} (h:∀n∈xs,¬n.file<0->n.file∈ids) (id:Int):xs.map (lC (ids++[id]))=xs.map (lC ids):=by
 apply vW;intro n hn;unfold lC;split
 ·rfl
 rename_i hf;rw[atO (h n hn hf)]
theorem YH {fs:List TF} {vs:List Value} (h:vs.length=fs.length) (f:TF) (u:Value):iB (fs++[f]) (vs++[u])=iB fs vs++[.int .i64 f.mode,u]:=by unfold iB;rw[List.zip_append h.symm,WE];rfl
def IC (xs:List TN) (p:List UInt8):Nat:=(xs.takeWhile fun m=>Op.bytesLess m.path p).length
def ak9 (xs:List TN) (n:TN):List TN:=xs.take (IC xs n.path)++n::xs.drop (IC xs n.path)
def kV (ns:List TN):List TN:=ns.foldl ak9 []
theorem QJ (xs:List TN) (n:TN):kV (xs++[n])=ak9 (kV xs) n:=by unfold kV;rw[M6];rfl
theorem alA (xs:List TN) (n:TN):(ak9 xs n).Perm (n::xs):=by unfold ak9;refine lN.trans ?_;rw[DC]
theorem mJ (ns:List TN):(kV ns).Perm ns:=by refine pU (P:=fun ns=>(kV ns).Perm ns) (FN _) (fun xs x ih=>?_) ns;rw[QJ];exact(alA _ _).trans ((ih.cons x).trans (Y5 _ _).symm)
theorem U9 (ns:List TN):(kV ns).length=ns.length:=(mJ ns).length_eq
theorem BF (xs ys:List TN):dG (xs++ys)=dG xs++dG ys:=by unfold dG;rw[WE]
theorem av9 (n:TN):dG [n]=[aC n.path,.int .i64 n.file,.int .i64 n.mode]:=rfl
theorem LV (xs:List TN):∀u∈dG xs,u.oneCell'=true:=by intro u hu;unfold dG at hu;rw[List.mem_flatMap]at hu;obtain⟨n,_,h⟩:=hu;simp only[K6,jU,DF,or_false]at h;rcases h with rfl|rfl|rfl<;>rfl
def nQ (fs:List TF) (id:Int):TF:=fs.getD id.toNat ⟨0,[]⟩
def dnT (ns:List TN):List TN:=(kV ns).map (lC (fP (kV ns)))
def YW (ns:List TN) (fs:List TF):List TF:=(fP (kV ns)).map (nQ fs)
def wF (xs:List TN) (ids:List Int) (i:Nat):List TN:=(xs.take i).map (lC ids)++xs.drop i
theorem MQ {xs:List TN} {ids:List Int} {i:Nat} {n:TN} (h:xs[i]? =some n):(wF xs ids i)[i]? =some n:=by have hi:=(gF.1 h).1;unfold wF;rw[uS D7,iT,qQ,I4 aI,DI,zP];simpa using h
theorem VB {xs:List TN} {ids:List Int} {i:Nat} {n:TN} (h:xs[i]? =some n):wF xs ids (i+1)=(wF xs ids i).set i (lC ids n):=by have hi:=(gF.1 h).1;unfold wF;rw[SL _ h,TC _ _ D7,iT,qQ,I4 aI,DI,YX hi,nT];rfl
theorem apS (xs:List TN) (ids:List Int):wF xs ids xs.length=xs.map (lC ids):=by unfold wF;rw[RI,List.drop_length,yX42]
theorem apT {xs:List TN} {ids:List Int} {i:Nat} (h:∀n∈xs.take i,¬n.file<0->n.file∈ids) (id:Int):wF xs (ids++[id]) i=wF xs ids i:=by unfold wF;rw[U8 h]
theorem yX {xs:List TN} {i:Nat} {n:TN} (h:xs[i]? =some n) (x:Int):(dG xs).set (i*3+1) (.int .i64 x)=dG (xs.set i ⟨n.path,x,n.mode⟩):=by
 have hi:=(gF.1 h).1;have e1:xs=xs.take i++n::xs.drop (i+1):=(qV h).1;have e2:xs.set i ⟨n.path,x,n.mode⟩=xs.take i++⟨n.path,x,n.mode⟩::xs.drop (i+1):=(qV h).2 _;have hl:(dG (xs.take i)).length=i*3:=by rw[ab7,qQ,I4 aI]
 rw[e2]
 conv=>lhs;rw[e1]
 rw[BF,BF,TC _ _ aI,hl,show i*3+1-i*3=1 by omega];rfl
theorem nR {p:List UInt8} (h:aU p=true):p≠[]:=fun e=>by subst e;revert h;decide
theorem VD :∀(p:List UInt8) (k:Nat),k<p.length->Op.bytesLess (p.take k) p=true
 |[],k,h=>by simp at h
 |a::p,0,_=>by simp[Op.bytesLess]
 |a::p,k+1,h=>by rw[TE];unfold Op.bytesLess;rw[VD p k (by simpa using h)];simp
theorem alB {p:List UInt8} (h:p≠[]):mH p<p.length:=by
 rcases mI p with⟨_,h0,_⟩|⟨a,b,e,_,hs,_⟩
 ·rw[h0];exact List.length_pos_iff.2 h
 rw[hs];have:=congrArg List.length e;rw[jJ,kM]at this;omega
theorem BG {p:List UInt8} (h:aU p=true):Op.bytesLess (bA p) p=true:=by unfold bA;rw[if_pos h];exact VD p _ (alB (nR h))
theorem axJ {p q:List UInt8} (h:Op.bytesLess q p=true):afJ p q=false:=by unfold afJ;rw[ab8 h,MZ,kD];intro e;rw[e,lZ]at h;cases h
theorem QK {pre:List TN} {p:List UInt8} (h:∀m∈pre,m.path≠p):pM pre p=if p=[]then 1 else 0:=by
 revert h;refine pU (P:=fun pre=>(∀m∈pre,m.path≠p)->pM pre p=if p=[]then 1 else 0) ?_ ?_ pre
 ·intro _;rfl
 intro xs x ih h;rw[uI,if_neg (h x bK)];exact ih fun m hm=>h m (uT _ hm)
theorem VE {pre:List TN} {m:TN} (hne:pre.Pairwise fun a b=>a.path≠b.path) (h:m∈pre):pM pre m.path=if m.file= -1 then 1 else 2:=by
 revert hne h;refine pU (P:=fun pre=>pre.Pairwise (fun a b=>a.path≠b.path)->m∈pre->pM pre m.path=if m.file= -1 then 1 else 2) ?_ ?_ pre
 ·intro _ h;cases h
 intro xs x ih hne h;rw[uI];rw[M9]at hne;rcases iM.1 h with h|h
 ·rw[if_neg (fun e=>hne.2.2 m h x bK e.symm)];exact ih hne.1 h
 have e:m=x:=by simpa using h
 subst e;rw[if_pos rfl]
theorem atP {ns:List TN} {fl:Nat}:∀ {j m:Nat},nC ns fl j=some m->j<=ns.length->∀i,i<j->∀n,ns[i]? =some n->∃k,nC ns fl i=some k/\rV ns fl i k n=true/\gK k n<=m:=by
 intro j
 induction j with
 |zero=>intro m _ _ i hi;omega
 |succ j ih=>
  intro m h hjl i hi n hn;cases hr:nC ns fl j with
  |none=>rw[U7 hr 1]at h;cases h
  |some k=>
   have hj:ns[j]? =some ns[j]:=gE aI;rw[xE hr hj]at h;split at h
   ·rename_i ho;cases h;by_cases hij:i=j
    ·subst hij;rw[hj]at hn;cases hn;exact⟨k,hr,ho,iU _⟩
    obtain⟨k2,h1,h2,h3⟩:=ih hr aI i aI n hn;exact⟨k2,h1,h2,by have:=QE k ns[j];omega⟩
   cases h
theorem alC {ns:List TN} (h:∀(i:Nat) (n:TN),0<i->ns[i]? =some n->Op.bytesLess (iD ns i) n.path=true):ns.Pairwise fun a b=>Op.bytesLess a.path b.path=true:=by
 rw[DY];intro i j hi hj hij;obtain⟨d,rfl⟩:∃d,j=i+1+d:=⟨j-i-1,by omega⟩;clear hij
 induction d with
 |zero=>have h1:=h (i+1) _ aI (gE hj);rw[EU (gE hi)]at h1;exact h1
 |succ d ih=>have h1:=ih aI;have h2:=h (i+1+d+1) _ aI (gE hj);rw[EU (gE (by omega:i+1+d<ns.length))]at h2;exact pO h1 h2
theorem alD {ns:List TN} (hne:ns.Pairwise fun a b=>a.path≠b.path) {m:TN} (hm:m∈ns):H9 ns m.path=some m:=by
 induction ns with
 |nil=>cases hm
 |cons a ns ih=>
  obtain⟨h1,h2⟩:=List.pairwise_cons.1 hne;unfold H9 at ih ⊢;rw[IZ];rcases jU.1 hm with rfl|hm
  ·simp
  (have:(a.path==m.path)=false:=by simpa using h1 m hm);rw[this];exact ih h2 hm
theorem alE {ns:List TN} {fl:Nat} (h:nC ns fl ns.length=some fl):runK ns ns.length=some fl:=by
 have hat:=fun i n hn=>atP h (iU _) i (gF.1 hn).1 n hn
 have hsort:=alC fun i n hi hn=>by
  obtain⟨k,_,h2,_⟩:=hat i n hn;rcases(pR.1 h2).1.1.2 with h3|h3
  ·omega
  exact h3
 have hne:ns.Pairwise fun a b=>a.path≠b.path:=hsort.imp fun {a b} hl e=>by rw[e,lZ]at hl;cases hl
 have hval:∀n∈ns,aU n.path=true:=fun n hn=>by obtain⟨i,hi⟩:=List.mem_iff_getElem?.1 hn;obtain⟨k,_,h2,_⟩:=hat i n hi;exact(pR.1 h2).1.1.1
 have key:∀i,i<=ns.length->runK ns i=nC ns fl i:=by
  intro i
  induction i with
  |zero=>intro _;rfl
  |succ i ih=>
   intro hi;have hn:ns[i]? =some ns[i]:=gE aI;obtain⟨k,h1,h2,_⟩:=hat i _ hn;have h3:=ih aI;rw[h1]at h3;rw[qK h3 hn,xE h1 hn,h2,if_pos rfl,if_pos];obtain⟨⟨⟨hv,aGX⟩,hup⟩,QH⟩:=pR.1 h2;(have htk:(ns.take i).Pairwise fun a b=>a.path≠b.path:=hne.sublist (ahC _ _));have hk1:pM (ns.take i) (bA ns[i].path)=1:=by
    unfold JZ at hup;rw[LC,uQ]at hup;rcases hup with h0|h0
    ·rw[h0,QK fun m hm=>nR (hval m (DD hm))];rfl
    cases hf:H9 ns (bA ns[i].path)with
    |none=>rw[hf]at h0;cases h0
    |some m=>
     rw[hf]at h0;(have hmf:m.file= -1:=by simpa using h0);obtain⟨hmm,hmp⟩:=apR hf;obtain⟨j,hj⟩:=List.mem_iff_getElem?.1 hmm;obtain⟨hjl,hje⟩:=gF.1 hj;have hless:=BG hv;have hji:j<i:=by
      rcases TI j i with h9|h9|h9
      ·exact h9
      ·subst h9;rw[hje]at hless hmp;rw[<-hmp,lZ]at hless;cases hless
      have h8:=DY.1 hsort i j aI hjl h9;rw[hje,hmp]at h8;have:=pO h8 hless;rw[lZ]at this;cases this
     (have hmt:m∈ns.take i:=by rw[List.mem_iff_getElem?];exact⟨j,by rw[uU,if_pos hji];exact hj⟩);rw[<-hmp,VE htk hmt,if_pos hmf]
   unfold iL;simp only[rH,KE,uQ];refine⟨⟨⟨⟨⟨hv,?_⟩,hk1⟩,?_⟩,?_⟩,?_⟩
   ·rcases aGX with h0|h0
    ·subst h0;unfold afJ;(have:Op.bytesLess ns[0].path (iD ns 0)=false:=by(show Op.bytesLess ns[0].path []=false);cases ns[0].path<;>simp[Op.bytesLess]);rw[this,MZ,kD];exact nR hv
    exact axJ h0
   ·rcases QH with⟨h0,_⟩|⟨_,_,h0,_⟩<;>omega
   ·rcases QH with⟨h0,_⟩|⟨_,_,_,h0,_⟩<;>omega
   rcases QH with⟨h0,h5⟩|⟨h0,h5,_⟩
   ·rw[if_pos h0];exact h5
   rw[if_neg h0];simpa using h5
 rw[key _ (iU _)];exact h
theorem alF {ns:List TN} {fl:Nat} (hn9:ns.length<=256) (hf9:fl<=256) (h:runK ns ns.length=some fl):nC ns fl ns.length=some fl:=by
 have ho:gQ ns (List.replicate fl ⟨0,[]⟩):=⟨hn9,by rw[EF];exact hf9,fun f hf=>by rw[(List.mem_replicate.1 hf).2];exact fZ _,fun f hf=>by rw[(List.mem_replicate.1 hf).2];rfl,by rw[EF];exact h⟩;have hne:=ho.ne;have key:∀i,i<=ns.length->nC ns fl i=runK ns i:=by
  intro i
  induction i with
  |zero=>intro _;rfl
  |succ i ih=>
   intro hi;have hn:ns[i]? =some ns[i]:=gE aI;obtain⟨k,h1,h2,h4⟩:=QF h i aI _ hn;have h3:=ih aI;rw[h1]at h3;rw[xE h3 hn,qK h1 hn,h2,if_pos rfl,if_pos];obtain⟨a,b,c,d,e,f,g⟩:=pQ h2;refine pR.2 ⟨⟨⟨a,?_⟩,?_⟩,?_⟩
   ·rcases xN i with h0|h0
    ·exact Or.inl h0
    exact Or.inr b
   ·unfold JZ;rw[LC,uQ];by_cases h0:bA ns[i].path=[]
    ·exact Or.inl h0
    right;(have hex:∃m∈ns.take i,m.path=bA ns[i].path:=by(refine Decidable.byContradiction fun hno=>?_);(have h5:=QK (pre:=ns.take i) (p:=bA ns[i].path) fun m hm e=>hno ⟨m,hm,e⟩);rw[c,if_neg h0]at h5;cases h5);obtain⟨m,hm,hmp⟩:=hex;have h5:=VE (hne.sublist (ahC i _)) hm;rw[hmp,c]at h5;(have hmf:m.file= -1:=by(refine Decidable.byContradiction fun hno=>?_);rw[if_neg hno]at h5;cases h5);rw[<-hmp,alD hne (DD hm)];simpa using hmf
   by_cases h0:ns[i].file= -1
   ·exact Or.inl ⟨h0,f h0⟩
   refine Or.inr ⟨h0,g h0,by omega,e,?_⟩;unfold gK at h4;split at h4<;>omega
 rw[key _ (iU _)];exact h
theorem afV (ns:List TN) (fs:List TF):(if lJ ns fs=true then 31 else if oO ns fs=true then 0 else 30)=gW ns fs:=by
 unfold gW;cases hb:lJ ns fs with
 |true=>rw[if_pos rfl,if_pos rfl]
 |false=>
  simp only[IV,if_false];unfold lJ at hb;rw[WG,WG,adX,adX]at hb;obtain⟨⟨h1,h2⟩,_⟩:=hb;(have:oO ns fs=true↔runK ns ns.length=some fs.length/\fs.all (fun f=>gV f.mode)=true:=by unfold oO;rw[rH,uQ];exact⟨fun⟨a,b⟩=>⟨alE a,b⟩,fun⟨a,b⟩=>⟨alF aI aI a,b⟩⟩);by_cases h:oO ns fs=true
  ·rw[if_pos h,if_pos (this.1 h)]
  rw[if_neg h,if_neg (fun h3=>h (this.2 h3))]
end Go.Proofs.YtmjomdkleikgbaaGreat
