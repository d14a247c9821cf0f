/- QDocD, laid together. -/
import Derived.Test.YteihmbaimbogaaaGreatJ40
namespace Go.Proofs.YteihmbaimbogaaaGreat
open Go.RowKit
set_option linter.unusedVariables false
set_option linter.unusedSimpArgs false
set_option maxRecDepth 100000 in
theorem JR {w:World} {nv fv:Value} {ns:List TN} {fs:List TF} {vs:List Value} (h:dS w nv fv ns fs vs) (hm:nI ns fs):
  Calls Tryz.prog 153 #[.agg #[nv,fv]] w fun e w'=>e= .returned (.bool (iZ ns fs))∧Below w.heap.size w w':=by
 have hS0:=(Sep.nil w).bN 32 #[nv,fv];obtain⟨A1,c1,rfl,hm1⟩:=h.nodes.shape;have hfp:=h.files;obtain⟨A2,c2,rfl,hm2⟩:=h.files.shape;have z0:=hS0.bC 0 rfl 0;have z1:=hS0.bC 0 rfl 1;simp only[gA,gB,gC]at z0 z1;have gZ:=Lh hS0;have h':=Lh h;have hs':=Lh hm.size;have hf:=hm.few;have hf2:=hm.O9;have nX:=Lh hfp;clear h hm hS0 hfp;unfold iZ;by_cases g1:256<ns.length
 ·(have b1:(256:Int)<(ns.length:Int):=by omega);rw[decide_eq_true g1,Bool.true_or,Bool.true_or];go_enter Tryz.func153,Tryz.ntmps153;go_wp2_with fail;go_ret;exact⟨rfl,gZ.out.below⟩
 have b1:¬(256:Int)<(ns.length:Int):=by omega
 by_cases g2:256<fs.length
 ·(have b2:(256:Int)<(fs.length:Int):=by omega);rw[decide_eq_true g2,Bool.or_true,Bool.true_or];go_enter Tryz.func153,Tryz.ntmps153;go_wp2_with fail;go_ret;exact⟨rfl,gZ.out.below⟩
 have b2:¬(256:Int)<(fs.length:Int):=by omega
 rw[decide_eq_false g1,decide_eq_false g2,Bool.false_or,Bool.false_or];go_enter Tryz.func153,Tryz.ntmps153;go_wp2_with fail;go_loopw[3] (fun iv wr=>∃i:Nat,i≤fs.length∧iv= .int .i64 i∧wr=w.alloc (.cells #[.slice A1 ns.length c1,.slice A2 fs.length c2] 32)∧Hid (∀(j:Nat) (m:TF),j<i→fs[j]? =some m→PE m=false)) (fun iv _=>fs.length-(intOf iv).toNat)
 case atStart=>exact⟨0,Nat.zero_le _,rfl,rfl,fun j m hj=>absurd hj (Nat.not_lt_zero _)⟩
 obtain⟨i,hi,rfl,rfl,hno⟩:=hrel;have c0:(0:Int)≤(i:Int):=by omega
 by_cases hlt:i<fs.length
 ·(have c2:(i:Int)<(fs.length:Int):=by omega);obtain⟨g,o,c,e,_,_,_,hcell⟩:=nX.out.place (by omega) (by decide);cases e;obtain⟨f,he⟩:∃f,fs[i]? =some f:=⟨_,gE hlt⟩;obtain⟨u,hu⟩:∃u,vs[i]? =some u:=⟨_,gE (by rw[h'.out.len];exact hlt)⟩;obtain⟨A,c9,rfl,_⟩:=(h'.out.data i u f hu he).shape;have c1:=(hcell _ gZ.out.below (i*2+1) (by omega)).trans (p8 he hu 1 (by omega));simp only[tfC,gB,gC,←Nat.add_assoc]at c1;have hsz:=hs'.out f (gG he);have he':=Lh he;clear hcell he hu;by_cases hp:8192<f.size
  ·(have hp2:(8192:Int)<(f.size:Int):=by omega);have hp':=Lh hp;clear hp;go_wp2_with fail;go_ret;refine⟨?_,gZ.out.below⟩;rw[List.any_eq_true.2 ⟨f,gG he'.out,by unfold PE;simpa using hp'.out⟩];rfl
  (have hp2:¬(8192:Int)<(f.size:Int):=by omega);have hp':=Lh hp;clear hp;go_wp2_with fail;go_roundw
  case rel=>
   refine⟨i+1,by omega,by go_num,by trivial,fun j m hj hm=>?_⟩;by_cases hji:j=i
   ·subst hji;have e1:=hm.symm.trans he'.out;cases e1;unfold PE;simpa using hp'.out
   exact hno.out j m (by omega) hm
  case measure=>simp[intOf];omega
 have c2:¬(i:Int)<(fs.length:Int):=by omega
 go_wp2_with fail;go_ret;refine⟨?_,gZ.out.below⟩;have hall:fs.any PE=false:=by rw[List.any_eq_false];intro f hf;obtain⟨j,hj⟩:=List.mem_iff_getElem?.1 hf;rw[hno.out j f (by have:=(gF.1 hj).1;omega) hj];simp
 rw[hall];rfl
def yX (ns:List TN) (up:List UInt8):Bool:=decide (up=[])||(match iH ns up with
 |none=>false
 |some m=>decide (m.file= -1))
def mV (ns:List TN) (fl i k:Nat) (n:TN):Bool:=
 ((aP n.path&&(decide (i=0)||Op.bytesLess (lY ns i) n.path))&&yX ns (dE n.path))&&(if n.file= -1 then eG n.mode else((decide (n.mode=0)&&decide (0≤n.file))&&decide (n.file≤(k:Int)))&&decide (n.file<(fl:Int)))
def kR (ns:List TN) (fl:Nat):Nat→Option Nat
 |0=>some 0
 |i+1=>match kR ns fl i with
  |none=>none
  |some k=>match ns[i]? with
   |none=>some k
   |some n=>if mV ns fl i k n=true then some (fV k n)else none
theorem akI {ns:List TN} {fl:Nat}:∀ {i k:Nat},kR ns fl i=some k→k≤i:=by
 intro i
 induction i with
 |zero=>intro k h;cases h;exact Nat.le_refl _
 |succ i ih=>
  intro k h;change (match kR ns fl i with
   |none=>none
   |some k=>match ns[i]? with
    |none=>some k
    |some n=>if mV ns fl i k n=true then some (fV k n)else none)=some k at h
  cases hr:kR ns fl i with
  |none=>rw[hr]at h;cases h
  |some k0=>
   have:=ih hr;rw[hr]at h;simp only at h;cases hn:ns[i]? with
   |none=>rw[hn]at h;cases h;omega
   |some n=>
    rw[hn]at h;simp only at h;split at h
    ·cases h;unfold fV;split<;>omega
    cases h
def jJ (ns:List TN) (fs:List TF):Bool:=decide (kR ns fs.length ns.length=some fs.length)&&fs.all (fun f=>eG f.mode)
theorem sH {ns:List TN} {fl i k:Nat} {n:TN} (h:kR ns fl i=some k) (hn:ns[i]? =some n):kR ns fl (i+1)=if mV ns fl i k n=true then some (fV k n)else none:=by
 show(match kR ns fl i with
  |none=>none
  |some k=>match ns[i]? with
   |none=>some k
   |some n=>if mV ns fl i k n=true then some (fV k n)else none)=_
 rw[h];simp only;rw[hn]
theorem NB {ns:List TN} {fl i:Nat} (h:kR ns fl i=none):∀j,kR ns fl (i+j)=none:=by
 intro j
 induction j with
 |zero=>exact h
 |succ j ih=>
  show(match kR ns fl (i+j)with
   |none=>none
   |some k=>match ns[i+j]? with
    |none=>some k
    |some n=>if mV ns fl (i+j) k n=true then some (fV k n)else none)=none
  rw[ih]
theorem form_false {ns:List TN} {fs:List TF} {i k:Nat} {n:TN} (h:kR ns fs.length i=some k) (hn:ns[i]? =some n) (ho:mV ns fs.length i k n=false):jJ ns fs=false:=by have h1:=sH h hn;rw[ho,if_neg (by decide)]at h1;have hi:=(gF.1 hn).1;have h2:=NB h1 (ns.length-(i+1));rw[show i+1+(ns.length-(i+1))=ns.length by omega]at h2;unfold jJ;rw[h2];simp
theorem qD (ns:List TN) (p:List UInt8):(iH ns p=none∧qW ns p= -1)∨∃(k:Nat) (m:TN),iH ns p=some m∧ns[k]? =some m∧qW ns p=k∧m.path=p:=by
 unfold iH qW;cases h:ns.findIdx? (fun n=>n.path==p)with
 |none=>left;refine⟨?_,rfl⟩;rw[List.find?_eq_none];intro m hm;have:=List.findIdx?_eq_none_iff.1 h m hm;simp[this]
 |some k=>right;obtain⟨hk,h1,h2⟩:=List.findIdx?_eq_some_iff_getElem.1 h;refine⟨k,ns[k],?_,gE hk,rfl,by simpa using h1⟩;rw[List.find?_eq_some_iff_getElem];refine⟨h1,k,hk,rfl,fun j hj=>?_⟩;have:=h2 j hj;simpa using this
def EU (fl k:Nat) (n:TN):Prop:=(n.file= -1∧eG n.mode=true)∨(¬n.file= -1∧n.mode=0∧0≤n.file∧n.file≤(k:Int)∧n.file<(fl:Int))
theorem kH {ns:List TN} {fl i k:Nat} {n:TN}:mV ns fl i k n=true↔((aP n.path=true∧(i=0∨Op.bytesLess (lY ns i) n.path=true))∧yX ns (dE n.path)=true)∧EU fl k n:=by
 unfold mV EU;by_cases h:n.file= -1
 ·simp[h]
 simp[h,and_assoc]
theorem BF {ns:List TN} {fl i k:Nat} {n:TN} (h:¬EU fl k n):mV ns fl i k n=false:=by
 cases h2:mV ns fl i k n with
 |false=>rfl
 |true=>exact absurd (kH.1 h2).2 h
theorem uA {ns:List TN} {i:Nat} {m:TN} (h:ns[i]? =some m):lY ns (i+1)=m.path:=by
 show((ns[i]?).map (·.path)).getD []=_
 rw[h];rfl
set_option maxRecDepth 100000 in
set_option maxHeartbeats 2000000 in
theorem EI {w:World} {nv fv:Value} {ns:List TN} {fs:List TF} {vs:List Value} (h:dS w nv fv ns fs vs) (hm:nI ns fs):
  Calls Tryz.prog 154 #[.agg #[nv,fv]] w fun e w'=>e= .returned (.bool (jJ ns fs))∧Below w.heap.size w w':=by
 have hS0:=(Sep.nil w).bN 32 #[nv,fv];have QC:=h.nodes;obtain⟨A1,c1,rfl,hm1⟩:=h.nodes.shape;have hfp:=h.files;obtain⟨A2,c2,rfl,hm2⟩:=h.files.shape;have gZ:=Lh hS0;have h':=Lh h;have hsh':=Lh hm.short;have hf:=hm.few;have hf2:=hm.O9;have EW:=Lh QC;have nX:=Lh hfp;have hval:=fun(n:TN) (hn:n∈ns) (W:World)=>oM ⟨n.path.toArray⟩ W (by rw[gL];have:=hm.short n hn;omega)
 have agR:=fun(n:TN) (hn:n∈ns) (W:World)=>yA (p:=n.path) W (by have:=hm.short n hn;omega)
 have agS:=fun(W:World) (hW:Below w.heap.size w W) (p:List UInt8)=>EH (h.below hW) hm.few p
 have hval':=Lh hval;have Y5:=Lh agR;have yB:=Lh agS;clear h hm QC hfp hval agR agS;have z0:=hS0.bC 0 rfl 0;have z1:=hS0.bC 0 rfl 1;simp only[gA,gB,gC]at z0 z1;clear hS0;have b1:(ns.length:Int)≤300:=by omega
 have b2:(fs.length:Int)≤300:=by omega
 go_enter Tryz.func154,Tryz.ntmps154;go_wp2_with fail;clear z0 z1;go_loopw[4,3] (fun iv kv wr=>∃i k:Nat,i≤ns.length∧iv= .int .i64 i∧kv= .int .i64 k∧Hid (kR ns fs.length i=some k)∧Sep w wr [.box w.heap.size 32 #[.slice A1 ns.length c1,.slice A2 fs.length c2]]) (fun iv _ _=>ns.length-(intOf iv).toNat)
 case atStart=>exact⟨0,0,Nat.zero_le _,rfl,rfl,rfl,gZ.out⟩
 obtain⟨i,k,hi,rfl,rfl,hr,hS⟩:=hrel;have hki:=akI hr.out;have c0:(0:Int)≤(i:Int):=by omega
 have cK:(k:Int)≤300:=by omega
 have aDK:=Lh hki;clear hki;have z0:=hS.bC 0 rfl 0;have z1:=hS.bC 0 rfl 1;simp only[gA,gB,gC]at z0 z1;by_cases hlt:i<ns.length
 ·(have c2:(i:Int)<(ns.length:Int):=by omega);obtain⟨g,o,c,e,_,_,_,hcell⟩:=EW.out.place (by omega) (by decide);cases e;obtain⟨n,he⟩:∃n,ns[i]? =some n:=⟨_,gE hlt⟩;(have hx:=fun(W:World) (hW:Below w.heap.size w W) (j:Nat) (hj:j<3)=>(hcell _ hW (i*3+j) (by omega)).trans (eZ he j (by omega)));have x0:=hx _ hS.below 0 (by omega);have x1:=hx _ hS.below 1 (by omega);have x2:=hx _ hS.below 2 (by omega);simp only[KJ,aM,gB,gC,←Nat.add_assoc,Nat.add_zero]at x0 x1 x2;have hb:=hS.bN 110 #[.string ⟨n.path.toArray⟩,.int .i64 n.file,.int .i64 n.mode];have hb':=Lh hb;have he':=Lh he;have hx':=Lh hx;have hmem:=gG he;have hva:=hval'.out n hmem;have EX:=Lh hva;have hcell':=Lh hcell;clear hva hx hb hcell;(have hbad:mV ns fs.length i k n=false→Hid (jJ ns fs=false):=fun h=>form_false hr.out he h);have vZ:=Lh hbad;(have hgo:(i=0∨Op.bytesLess (lY ns i) n.path=true)→aP n.path=true→yX ns (dE n.path)=true→EU fs.length k n→Hid (kR ns fs.length (i+1)=some (fV k n)):=fun h1 h2 h3 h4=>by have h5:=sH hr.out he;rw[if_pos (kH.2 ⟨⟨⟨h2,h1⟩,h3⟩,h4⟩)]at h5;exact h5);have hgo':=Lh hgo;clear hbad he hgo;cases hvl:aP n.path with
  |false=>have hD:Hid (jJ ns fs=false):=vZ.out (by unfold mV;rw[hvl];rfl);rw[hvl]at EX;clear hS hvl vZ hmem;go_wp2_with(go_at_call 93;refine(EX.out _).mono ?_;rintro e w1 ⟨rfl,hb1⟩;replace hb1:=Lh hb1);go_quiet (fail);go_wp2_with fail;go_ret;exact⟨by rw[hD.out];rfl,(((hb'.out.pure hb1.out)).drewN nq).below⟩
  |true=>
   have akJ:=Lh hvl;rw[hvl]at EX;rcases Nat.eq_zero_or_pos i with hi0|hi0
   ·(have c9:¬(0:Int)<(i:Int):=by omega);(have c10:¬0<i:=by omega);have UF:Hid (i=0∨Op.bytesLess (lY ns i) n.path=true):=Or.inl hi0;clear hvl hi0;have MQ:=Y5.out n hmem;obtain⟨up,hup⟩:∃up,dE n.path=up:=⟨_,rfl⟩;rw[hup]at MQ;have EY:=Lh MQ;clear MQ;by_cases hu0:up=[]
    ·subst hu0;have JS:Hid (yX ns []=true):=rfl;have XE:=Lh hup;clear hup hmem hS;unfold aM at*;go_wp2_with(go_at_call 93;refine(EX.out _).mono ?_;rintro e w1 ⟨rfl,hb1⟩;(have hS1:=hb'.out.pure hb1);replace hS1:=Lh hS1;replace hb1:=Lh hb1);go_quiet (fail);have iK:=hS1.out.drewN nq;clear hS1 hb1;generalize w1.drewN nq=wq at iK ⊢;(have d0:=iK.bC 0 rfl 0);(have d1:=iK.bC 0 rfl 1);(have d2:=iK.bC 0 rfl 2);(have e0:=iK.bC 1 rfl 0);(have e1:=iK.bC 1 rfl 1);simp only[gA,gB,gC]at d0 d1 d2 e0 e1;have yY:=Lh iK;clear iK;go_wp2_with(first |(go_at_call 115;refine(EY.out _).mono ?_;rintro e w2 ⟨rfl,hb2⟩;(have hS2:=yY.out.pure hb2);(have f0:=hS2.bC 0 rfl 0);(have f1:=hS2.bC 0 rfl 1);(have f2:=hS2.bC 0 rfl 2);(have g0:=hS2.bC 1 rfl 0);(have g1:=hS2.bC 1 rfl 1);simp only[gA,gB,gC]at f0 f1 f2 g0 g1;replace hS2:=Lh hS2;clear hb2)|(go_at_call 177;refine(lZ _ _).mono ?_;rintro e w4 ⟨rfl,hw4⟩;have nN:=hw4.symm;clear hw4;subst nN));all_goals first
      |(go_ret
        have uB:¬EU fs.length k n:=by(try simp only[beq_iff_eq,beq_eq_false_iff_ne,ne_eq,Bool.not_eq_true',Bool.not_eq_false',gt_iff_lt]at*);rintro(⟨h1,h2⟩|⟨h1,h2,h3,h4,h5⟩)<;>first |omega|(simp_all;done)
        exact⟨by rw[(vZ.out (BF uB)).out];rfl,hS2.out.below⟩)
      |(have uB:EU fs.length k n:=by
         try simp only[beq_iff_eq,beq_eq_false_iff_ne,ne_eq,Bool.not_eq_true',Bool.not_eq_false',gt_iff_lt]at*
         first
          |(right;refine⟨?_,?_,?_,?_,?_⟩<;>omega)
          |(left;refine⟨by omega,?_⟩;assumption)
        have hst:=hgo'.out UF.out akJ.out (by rw[XE.out];exact JS.out) uB
        first
         |(have hq:fV k n=k:=(by unfold fV;rw[if_neg (by(try simp only[beq_iff_eq,beq_eq_false_iff_ne,ne_eq]at*);omega)])
           go_roundw
           case rel=>exact⟨i+1,k,by omega,by go_num,by trivial,(by rw[hq]at hst;exact hst),Sep.drop 1 hS2.out⟩
           case measure=>(simp[intOf];omega))
         |(have hq:fV k n=k+1:=(by unfold fV;rw[if_pos (by(try simp only[beq_iff_eq,beq_eq_false_iff_ne,ne_eq]at*);omega)])
           go_roundw
           case rel=>exact⟨i+1,k+1,by omega,by go_num,by go_num,(by rw[hq]at hst;exact hst),Sep.drop 1 hS2.out⟩
           case measure=>(simp[intOf];omega)))
    (have bU:(up.isEmpty)=false:=by cases up with|nil=>exact absurd rfl hu0|cons a l=>rfl);rcases qD ns up with⟨hf1,BG⟩|⟨kk,m,hf1,vU,BG,hf7⟩
    ·have hD:Hid (jJ ns fs=false):=vZ.out (by
      cases h2:mV ns fs.length i k n with
      |false=>rfl
      |true=>have:=(kH.1 h2).1.2;rw[hup]at this;unfold yX at this;rw[hf1]at this;simp[hu0]at this)
     have xP:=Lh BG;have axP:=Lh hu0;clear hup hmem hS hf1 BG hu0;unfold aM at*;go_wp2_with(go_at_call 93;refine(EX.out _).mono ?_;rintro e w1 ⟨rfl,hb1⟩;(have hS1:=hb'.out.pure hb1);replace hS1:=Lh hS1;replace hb1:=Lh hb1);go_quiet (fail);have iK:=hS1.out.drewN nq;clear hS1 hb1;generalize w1.drewN nq=wq at iK ⊢;(have d0:=iK.bC 0 rfl 0);(have d1:=iK.bC 0 rfl 1);(have d2:=iK.bC 0 rfl 2);(have e0:=iK.bC 1 rfl 0);(have e1:=iK.bC 1 rfl 1);simp only[gA,gB,gC]at d0 d1 d2 e0 e1;have yY:=Lh iK;clear iK;go_wp2_with(first |(go_at_call 115;refine(EY.out _).mono ?_;rintro e w2 ⟨rfl,hb2⟩;(have hS2:=yY.out.pure hb2);(have f0:=hS2.bC 0 rfl 0);(have f1:=hS2.bC 0 rfl 1);(have f2:=hS2.bC 0 rfl 2);(have g0:=hS2.bC 1 rfl 0);(have g1:=hS2.bC 1 rfl 1);simp only[gA,gB,gC]at f0 f1 f2 g0 g1;replace hS2:=Lh hS2;clear hb2)|(go_at_call 150;refine(yB.out _ hS2.out.below _).mono ?_;rintro e w3 ⟨rfl,hb3⟩;rw[xP.out];(have bG:=hS2.out.pure hb3);(have k0:=bG.bC 0 rfl 0);(have k1:=bG.bC 0 rfl 1);(have k2:=bG.bC 0 rfl 2);(have l0:=bG.bC 1 rfl 0);(have l1:=bG.bC 1 rfl 1);simp only[gA,gB,gC]at k0 k1 k2 l0 l1;replace bG:=Lh bG;clear hb3));go_ret;exact⟨by rw[hD.out];rfl,bG.out.below⟩
    have xP:=Lh BG;(have hy:=fun(W:World) (hW:Below w.heap.size w W) (j:Nat) (hj:j<3)=>(hcell'.out _ hW (kk*3+j) (by have:=(gF.1 vU).1;omega)).trans (eZ vU j (by omega)));(have yk:(kk:Int)<(ns.length:Int):=by have:=(gF.1 vU).1;omega);(have yk0:(0:Int)≤(kk:Int):=by omega);have hy':=Lh hy;clear hy;by_cases hmd:m.file= -1
    ·(have hmb:(m.file != -1)=false:=by rw[hmd];rfl);have XE:=Lh hup;have JS:Hid (yX ns up=true):=Lh (by unfold yX;rw[hf1];simp[hmd]);have axQ:=Lh hmd;clear hup hmem hS hf1 BG vU hf7 hu0 hmd;unfold aM at*;go_wp2_with(go_at_call 93;refine(EX.out _).mono ?_;rintro e w1 ⟨rfl,hb1⟩;(have hS1:=hb'.out.pure hb1);replace hS1:=Lh hS1;replace hb1:=Lh hb1);go_quiet (fail);have iK:=hS1.out.drewN nq;clear hS1 hb1;generalize w1.drewN nq=wq at iK ⊢;(have d0:=iK.bC 0 rfl 0);(have d1:=iK.bC 0 rfl 1);(have d2:=iK.bC 0 rfl 2);(have e0:=iK.bC 1 rfl 0);(have e1:=iK.bC 1 rfl 1);simp only[gA,gB,gC]at d0 d1 d2 e0 e1;have yY:=Lh iK;clear iK;go_wp2_with(first |(go_at_call 115;refine(EY.out _).mono ?_;rintro e w2 ⟨rfl,hb2⟩;(have hS2:=yY.out.pure hb2);(have f0:=hS2.bC 0 rfl 0);(have f1:=hS2.bC 0 rfl 1);(have f2:=hS2.bC 0 rfl 2);(have g0:=hS2.bC 1 rfl 0);(have g1:=hS2.bC 1 rfl 1);simp only[gA,gB,gC]at f0 f1 f2 g0 g1;replace hS2:=Lh hS2;clear hb2)|(go_at_call 150;refine(yB.out _ hS2.out.below _).mono ?_;rintro e w3 ⟨rfl,hb3⟩;rw[xP.out];(have bG:=hS2.out.pure hb3);(have k0:=bG.bC 0 rfl 0);(have k1:=bG.bC 0 rfl 1);(have k2:=bG.bC 0 rfl 2);(have l0:=bG.bC 1 rfl 0);(have l1:=bG.bC 1 rfl 1);simp only[gA,gB,gC]at k0 k1 k2 l0 l1;(have y1:=hy'.out _ bG.below 1 (by omega));simp only[KJ,aM,gB,gC,←Nat.add_assoc]at y1;replace bG:=Lh bG;clear hb3)|(go_at_call 177;refine(lZ _ _).mono ?_;rintro e w4 ⟨rfl,hw4⟩;have nN:=hw4.symm;clear hw4;subst nN));all_goals first
      |(go_ret
        have uB:¬EU fs.length k n:=by(try simp only[beq_iff_eq,beq_eq_false_iff_ne,ne_eq,Bool.not_eq_true',Bool.not_eq_false',gt_iff_lt]at*);rintro(⟨h1,h2⟩|⟨h1,h2,h3,h4,h5⟩)<;>first |omega|(simp_all;done)
        exact⟨by rw[(vZ.out (BF uB)).out];rfl,bG.out.below⟩)
      |(have uB:EU fs.length k n:=by
         try simp only[beq_iff_eq,beq_eq_false_iff_ne,ne_eq,Bool.not_eq_true',Bool.not_eq_false',gt_iff_lt]at*
         first
          |(right;refine⟨?_,?_,?_,?_,?_⟩<;>omega)
          |(left;refine⟨by omega,?_⟩;assumption)
        have hst:=hgo'.out UF.out akJ.out (by rw[XE.out];exact JS.out) uB
        first
         |(have hq:fV k n=k:=(by unfold fV;rw[if_neg (by(try simp only[beq_iff_eq,beq_eq_false_iff_ne,ne_eq]at*);omega)])
           go_roundw
           case rel=>exact⟨i+1,k,by omega,by go_num,by trivial,(by rw[hq]at hst;exact hst),Sep.drop 1 bG.out⟩
           case measure=>(simp[intOf];omega))
         |(have hq:fV k n=k+1:=(by unfold fV;rw[if_pos (by(try simp only[beq_iff_eq,beq_eq_false_iff_ne,ne_eq]at*);omega)])
           go_roundw
           case rel=>exact⟨i+1,k+1,by omega,by go_num,by go_num,(by rw[hq]at hst;exact hst),Sep.drop 1 bG.out⟩
           case measure=>(simp[intOf];omega)))
    (have hmb:(m.file != -1)=true:=by simpa using hmd);have hD:Hid (jJ ns fs=false):=vZ.out (by
     cases h2:mV ns fs.length i k n with
     |false=>rfl
     |true=>have:=(kH.1 h2).1.2;rw[hup]at this;unfold yX at this;rw[hf1]at this;simp[hu0,hmd]at this)
    clear hup hmem hS hf1 BG vU hf7 hu0 hmd;unfold aM at*;go_wp2_with(go_at_call 93;refine(EX.out _).mono ?_;rintro e w1 ⟨rfl,hb1⟩;(have hS1:=hb'.out.pure hb1);replace hS1:=Lh hS1;replace hb1:=Lh hb1);go_quiet (fail);have iK:=hS1.out.drewN nq;clear hS1 hb1;generalize w1.drewN nq=wq at iK ⊢;(have d0:=iK.bC 0 rfl 0);(have d1:=iK.bC 0 rfl 1);(have d2:=iK.bC 0 rfl 2);(have e0:=iK.bC 1 rfl 0);(have e1:=iK.bC 1 rfl 1);simp only[gA,gB,gC]at d0 d1 d2 e0 e1;have yY:=Lh iK;clear iK;go_wp2_with(first |(go_at_call 115;refine(EY.out _).mono ?_;rintro e w2 ⟨rfl,hb2⟩;(have hS2:=yY.out.pure hb2);(have f0:=hS2.bC 0 rfl 0);(have f1:=hS2.bC 0 rfl 1);(have f2:=hS2.bC 0 rfl 2);(have g0:=hS2.bC 1 rfl 0);(have g1:=hS2.bC 1 rfl 1);simp only[gA,gB,gC]at f0 f1 f2 g0 g1;replace hS2:=Lh hS2;clear hb2)|(go_at_call 150;refine(yB.out _ hS2.out.below _).mono ?_;rintro e w3 ⟨rfl,hb3⟩;rw[xP.out];(have bG:=hS2.out.pure hb3);(have k0:=bG.bC 0 rfl 0);(have k1:=bG.bC 0 rfl 1);(have k2:=bG.bC 0 rfl 2);(have l0:=bG.bC 1 rfl 0);(have l1:=bG.bC 1 rfl 1);simp only[gA,gB,gC]at k0 k1 k2 l0 l1;(have y1:=hy'.out _ bG.below 1 (by omega));simp only[KJ,aM,gB,gC,←Nat.add_assoc]at y1;replace bG:=Lh bG;clear hb3));go_ret;exact⟨by rw[hD.out];rfl,bG.out.below⟩
   (have c9:(0:Int)<(i:Int):=by omega);(have c11:(0:Int)≤(i:Int)-1:=by omega);(have c12:(i:Int)-1<(ns.length:Int):=by omega);(have c13:((i:Int)-1).toNat=i-1:=by omega);obtain⟨pm,hpm⟩:∃pm,ns[i-1]? =some pm:=⟨_,gE (by omega)⟩;(have hlq:lY ns i=pm.path:=by have h:=uA hpm;rw[show i-1+1=i by omega]at h;exact h);(have p0:=fun(W:World) (hW:Below w.heap.size w W)=>(hcell'.out _ hW ((i-1)*3+0) (by omega)).trans (eZ hpm 0 (by omega)));simp only[KJ,aM,gB,gC,←Nat.add_assoc,Nat.add_zero]at p0;have p0':=Lh p0;have asS:=Lh hlq;clear p0 hlq hpm;cases hls:Op.bytesLess pm.path n.path with
   |true=>
    have UF:Hid (i=0∨Op.bytesLess (lY ns i) n.path=true):=Or.inr (by rw[asS.out];exact hls);clear hvl;have MQ:=Y5.out n hmem;obtain⟨up,hup⟩:∃up,dE n.path=up:=⟨_,rfl⟩;rw[hup]at MQ;have EY:=Lh MQ;clear MQ;by_cases hu0:up=[]
    ·subst hu0;have JS:Hid (yX ns []=true):=rfl;have XE:=Lh hup;clear hup hmem hS;unfold aM at*;go_wp2_with(go_at_call 93;refine(EX.out _).mono ?_;rintro e w1 ⟨rfl,hb1⟩;(have hS1:=hb'.out.pure hb1);(have pp:=p0'.out _ hS1.below);(have a0:=hS1.bC 0 rfl 0);(have a3:=hS1.bC 1 rfl 0);simp only[gA,gB,gC]at a0 a3;replace hS1:=Lh hS1;replace hb1:=Lh hb1);go_quiet (fail);have iK:=hS1.out.drewN nq;clear hS1 hb1;generalize w1.drewN nq=wq at iK ⊢;(have d0:=iK.bC 0 rfl 0);(have d1:=iK.bC 0 rfl 1);(have d2:=iK.bC 0 rfl 2);(have e0:=iK.bC 1 rfl 0);(have e1:=iK.bC 1 rfl 1);simp only[gA,gB,gC]at d0 d1 d2 e0 e1;have yY:=Lh iK;clear iK;go_wp2_with(first |(go_at_call 115;refine(EY.out _).mono ?_;rintro e w2 ⟨rfl,hb2⟩;(have hS2:=yY.out.pure hb2);(have f0:=hS2.bC 0 rfl 0);(have f1:=hS2.bC 0 rfl 1);(have f2:=hS2.bC 0 rfl 2);(have g0:=hS2.bC 1 rfl 0);(have g1:=hS2.bC 1 rfl 1);simp only[gA,gB,gC]at f0 f1 f2 g0 g1;replace hS2:=Lh hS2;clear hb2)|(go_at_call 177;refine(lZ _ _).mono ?_;rintro e w4 ⟨rfl,hw4⟩;have nN:=hw4.symm;clear hw4;subst nN));all_goals first
      |(go_ret
        have uB:¬EU fs.length k n:=by(try simp only[beq_iff_eq,beq_eq_false_iff_ne,ne_eq,Bool.not_eq_true',Bool.not_eq_false',gt_iff_lt]at*);rintro(⟨h1,h2⟩|⟨h1,h2,h3,h4,h5⟩)<;>first |omega|(simp_all;done)
        exact⟨by rw[(vZ.out (BF uB)).out];rfl,hS2.out.below⟩)
      |(have uB:EU fs.length k n:=by
         try simp only[beq_iff_eq,beq_eq_false_iff_ne,ne_eq,Bool.not_eq_true',Bool.not_eq_false',gt_iff_lt]at*
         first
          |(right;refine⟨?_,?_,?_,?_,?_⟩<;>omega)
          |(left;refine⟨by omega,?_⟩;assumption)
        have hst:=hgo'.out UF.out akJ.out (by rw[XE.out];exact JS.out) uB
        first
         |(have hq:fV k n=k:=(by unfold fV;rw[if_neg (by(try simp only[beq_iff_eq,beq_eq_false_iff_ne,ne_eq]at*);omega)])
           go_roundw
           case rel=>exact⟨i+1,k,by omega,by go_num,by trivial,(by rw[hq]at hst;exact hst),Sep.drop 1 hS2.out⟩
           case measure=>(simp[intOf];omega))
         |(have hq:fV k n=k+1:=(by unfold fV;rw[if_pos (by(try simp only[beq_iff_eq,beq_eq_false_iff_ne,ne_eq]at*);omega)])
           go_roundw
           case rel=>exact⟨i+1,k+1,by omega,by go_num,by go_num,(by rw[hq]at hst;exact hst),Sep.drop 1 hS2.out⟩
           case measure=>(simp[intOf];omega)))
    (have bU:(up.isEmpty)=false:=by cases up with|nil=>exact absurd rfl hu0|cons a l=>rfl);rcases qD ns up with⟨hf1,BG⟩|⟨kk,m,hf1,vU,BG,hf7⟩
    ·have hD:Hid (jJ ns fs=false):=vZ.out (by
      cases h2:mV ns fs.length i k n with
      |false=>rfl
      |true=>have:=(kH.1 h2).1.2;rw[hup]at this;unfold yX at this;rw[hf1]at this;simp[hu0]at this)
     have xP:=Lh BG;have axP:=Lh hu0;clear hup hmem hS hf1 BG hu0;unfold aM at*;go_wp2_with(go_at_call 93;refine(EX.out _).mono ?_;rintro e w1 ⟨rfl,hb1⟩;(have hS1:=hb'.out.pure hb1);(have pp:=p0'.out _ hS1.below);(have a0:=hS1.bC 0 rfl 0);(have a3:=hS1.bC 1 rfl 0);simp only[gA,gB,gC]at a0 a3;replace hS1:=Lh hS1;replace hb1:=Lh hb1);go_quiet (fail);have iK:=hS1.out.drewN nq;clear hS1 hb1;generalize w1.drewN nq=wq at iK ⊢;(have d0:=iK.bC 0 rfl 0);(have d1:=iK.bC 0 rfl 1);(have d2:=iK.bC 0 rfl 2);(have e0:=iK.bC 1 rfl 0);(have e1:=iK.bC 1 rfl 1);simp only[gA,gB,gC]at d0 d1 d2 e0 e1;have yY:=Lh iK;clear iK;go_wp2_with(first |(go_at_call 115;refine(EY.out _).mono ?_;rintro e w2 ⟨rfl,hb2⟩;(have hS2:=yY.out.pure hb2);(have f0:=hS2.bC 0 rfl 0);(have f1:=hS2.bC 0 rfl 1);(have f2:=hS2.bC 0 rfl 2);(have g0:=hS2.bC 1 rfl 0);(have g1:=hS2.bC 1 rfl 1);simp only[gA,gB,gC]at f0 f1 f2 g0 g1;replace hS2:=Lh hS2;clear hb2)|(go_at_call 150;refine(yB.out _ hS2.out.below _).mono ?_;rintro e w3 ⟨rfl,hb3⟩;rw[xP.out];(have bG:=hS2.out.pure hb3);(have k0:=bG.bC 0 rfl 0);(have k1:=bG.bC 0 rfl 1);(have k2:=bG.bC 0 rfl 2);(have l0:=bG.bC 1 rfl 0);(have l1:=bG.bC 1 rfl 1);simp only[gA,gB,gC]at k0 k1 k2 l0 l1;replace bG:=Lh bG;clear hb3));go_ret;exact⟨by rw[hD.out];rfl,bG.out.below⟩
    have xP:=Lh BG;(have hy:=fun(W:World) (hW:Below w.heap.size w W) (j:Nat) (hj:j<3)=>(hcell'.out _ hW (kk*3+j) (by have:=(gF.1 vU).1;omega)).trans (eZ vU j (by omega)));(have yk:(kk:Int)<(ns.length:Int):=by have:=(gF.1 vU).1;omega);(have yk0:(0:Int)≤(kk:Int):=by omega);have hy':=Lh hy;clear hy;by_cases hmd:m.file= -1
    ·(have hmb:(m.file != -1)=false:=by rw[hmd];rfl);have XE:=Lh hup;have JS:Hid (yX ns up=true):=Lh (by unfold yX;rw[hf1];simp[hmd]);have axQ:=Lh hmd;clear hup hmem hS hf1 BG vU hf7 hu0 hmd;unfold aM at*;go_wp2_with(go_at_call 93;refine(EX.out _).mono ?_;rintro e w1 ⟨rfl,hb1⟩;(have hS1:=hb'.out.pure hb1);(have pp:=p0'.out _ hS1.below);(have a0:=hS1.bC 0 rfl 0);(have a3:=hS1.bC 1 rfl 0);simp only[gA,gB,gC]at a0 a3;replace hS1:=Lh hS1;replace hb1:=Lh hb1);go_quiet (fail);have iK:=hS1.out.drewN nq;clear hS1 hb1;generalize w1.drewN nq=wq at iK ⊢;(have d0:=iK.bC 0 rfl 0);(have d1:=iK.bC 0 rfl 1);(have d2:=iK.bC 0 rfl 2);(have e0:=iK.bC 1 rfl 0);(have e1:=iK.bC 1 rfl 1);simp only[gA,gB,gC]at d0 d1 d2 e0 e1;have yY:=Lh iK;clear iK;go_wp2_with(first |(go_at_call 115;refine(EY.out _).mono ?_;rintro e w2 ⟨rfl,hb2⟩;(have hS2:=yY.out.pure hb2);(have f0:=hS2.bC 0 rfl 0);(have f1:=hS2.bC 0 rfl 1);(have f2:=hS2.bC 0 rfl 2);(have g0:=hS2.bC 1 rfl 0);(have g1:=hS2.bC 1 rfl 1);simp only[gA,gB,gC]at f0 f1 f2 g0 g1;replace hS2:=Lh hS2;clear hb2)|(go_at_call 150;refine(yB.out _ hS2.out.below _).mono ?_;rintro e w3 ⟨rfl,hb3⟩;rw[xP.out];(have bG:=hS2.out.pure hb3);(have k0:=bG.bC 0 rfl 0);(have k1:=bG.bC 0 rfl 1);(have k2:=bG.bC 0 rfl 2);(have l0:=bG.bC 1 rfl 0);(have l1:=bG.bC 1 rfl 1);simp only[gA,gB,gC]at k0 k1 k2 l0 l1;(have y1:=hy'.out _ bG.below 1 (by omega));simp only[KJ,aM,gB,gC,←Nat.add_assoc]at y1;replace bG:=Lh bG;clear hb3)|(go_at_call 177;refine(lZ _ _).mono ?_;rintro e w4 ⟨rfl,hw4⟩;have nN:=hw4.symm;clear hw4;subst nN));all_goals first
      |(go_ret
        have uB:¬EU fs.length k n:=by(try simp only[beq_iff_eq,beq_eq_false_iff_ne,ne_eq,Bool.not_eq_true',Bool.not_eq_false',gt_iff_lt]at*);rintro(⟨h1,h2⟩|⟨h1,h2,h3,h4,h5⟩)<;>first |omega|(simp_all;done)
        exact⟨by rw[(vZ.out (BF uB)).out];rfl,bG.out.below⟩)
      |(have uB:EU fs.length k n:=by
         try simp only[beq_iff_eq,beq_eq_false_iff_ne,ne_eq,Bool.not_eq_true',Bool.not_eq_false',gt_iff_lt]at*
         first
          |(right;refine⟨?_,?_,?_,?_,?_⟩<;>omega)
          |(left;refine⟨by omega,?_⟩;assumption)
        have hst:=hgo'.out UF.out akJ.out (by rw[XE.out];exact JS.out) uB
        first
         |(have hq:fV k n=k:=(by unfold fV;rw[if_neg (by(try simp only[beq_iff_eq,beq_eq_false_iff_ne,ne_eq]at*);omega)])
           go_roundw
           case rel=>exact⟨i+1,k,by omega,by go_num,by trivial,(by rw[hq]at hst;exact hst),Sep.drop 1 bG.out⟩
           case measure=>(simp[intOf];omega))
         |(have hq:fV k n=k+1:=(by unfold fV;rw[if_pos (by(try simp only[beq_iff_eq,beq_eq_false_iff_ne,ne_eq]at*);omega)])
           go_roundw
           case rel=>exact⟨i+1,k+1,by omega,by go_num,by go_num,(by rw[hq]at hst;exact hst),Sep.drop 1 bG.out⟩
           case measure=>(simp[intOf];omega)))
    (have hmb:(m.file != -1)=true:=by simpa using hmd);have hD:Hid (jJ ns fs=false):=vZ.out (by
     cases h2:mV ns fs.length i k n with
     |false=>rfl
     |true=>have:=(kH.1 h2).1.2;rw[hup]at this;unfold yX at this;rw[hf1]at this;simp[hu0,hmd]at this)
    clear hup hmem hS hf1 BG vU hf7 hu0 hmd;unfold aM at*;go_wp2_with(go_at_call 93;refine(EX.out _).mono ?_;rintro e w1 ⟨rfl,hb1⟩;(have hS1:=hb'.out.pure hb1);(have pp:=p0'.out _ hS1.below);(have a0:=hS1.bC 0 rfl 0);(have a3:=hS1.bC 1 rfl 0);simp only[gA,gB,gC]at a0 a3;replace hS1:=Lh hS1;replace hb1:=Lh hb1);go_quiet (fail);have iK:=hS1.out.drewN nq;clear hS1 hb1;generalize w1.drewN nq=wq at iK ⊢;(have d0:=iK.bC 0 rfl 0);(have d1:=iK.bC 0 rfl 1);(have d2:=iK.bC 0 rfl 2);(have e0:=iK.bC 1 rfl 0);(have e1:=iK.bC 1 rfl 1);simp only[gA,gB,gC]at d0 d1 d2 e0 e1;have yY:=Lh iK;clear iK;go_wp2_with(first |(go_at_call 115;refine(EY.out _).mono ?_;rintro e w2 ⟨rfl,hb2⟩;(have hS2:=yY.out.pure hb2);(have f0:=hS2.bC 0 rfl 0);(have f1:=hS2.bC 0 rfl 1);(have f2:=hS2.bC 0 rfl 2);(have g0:=hS2.bC 1 rfl 0);(have g1:=hS2.bC 1 rfl 1);simp only[gA,gB,gC]at f0 f1 f2 g0 g1;replace hS2:=Lh hS2;clear hb2)|(go_at_call 150;refine(yB.out _ hS2.out.below _).mono ?_;rintro e w3 ⟨rfl,hb3⟩;rw[xP.out];(have bG:=hS2.out.pure hb3);(have k0:=bG.bC 0 rfl 0);(have k1:=bG.bC 0 rfl 1);(have k2:=bG.bC 0 rfl 2);(have l0:=bG.bC 1 rfl 0);(have l1:=bG.bC 1 rfl 1);simp only[gA,gB,gC]at k0 k1 k2 l0 l1;(have y1:=hy'.out _ bG.below 1 (by omega));simp only[KJ,aM,gB,gC,←Nat.add_assoc]at y1;replace bG:=Lh bG;clear hb3));go_ret;exact⟨by rw[hD.out];rfl,bG.out.below⟩
   |false=>
    have hD:Hid (jJ ns fs=false):=vZ.out (by
     cases h2:mV ns fs.length i k n with
     |false=>rfl
     |true=>
      have:=(kH.1 h2).1.1.2;rw[asS.out,hls]at this;rcases this with h|h
      ·omega
      cases h)
    clear hvl hmem hS;unfold aM at*;go_wp2_with(go_at_call 93;refine(EX.out _).mono ?_;rintro e w1 ⟨rfl,hb1⟩;(have hS1:=hb'.out.pure hb1);(have pp:=p0'.out _ hS1.below);(have a0:=hS1.bC 0 rfl 0);(have a3:=hS1.bC 1 rfl 0);simp only[gA,gB,gC]at a0 a3;replace hS1:=Lh hS1;replace hb1:=Lh hb1);go_quiet (fail);go_wp2_with fail;go_ret;exact⟨by rw[hD.out];rfl,(hS1.out.drewN nq).below⟩
 have c22:¬(i:Int)<(ns.length:Int):=by omega
 have hri:Hid (kR ns fs.length ns.length=some k):=by(have e:i=ns.length:=by omega);rw[←e];exact hr.out
 have hS':=Lh hS;clear hS;go_wp2_with fail;clear z0 z1;go_loopw[9] (fun iv wr=>∃j:Nat,j≤fs.length∧iv= .int .i64 j∧Hid (∀(t:Nat) (f:TF),t<j→fs[t]? =some f→eG f.mode=true)∧Sep w wr [.box w.heap.size 32 #[.slice A1 ns.length c1,.slice A2 fs.length c2]]) (fun iv _=>fs.length-(intOf iv).toNat)
 case atStart=>exact⟨0,Nat.zero_le _,rfl,fun t f ht=>absurd ht (Nat.not_lt_zero _),hS'.out⟩
 obtain⟨j,hj,rfl,hall,hS⟩:=hrel;have d0:(0:Int)≤(j:Int):=by omega
 have z0:=hS.bC 0 rfl 0;have z1:=hS.bC 0 rfl 1;simp only[gA,gB,gC]at z0 z1;by_cases hlt2:j<fs.length
 ·(have d2:(j:Int)<(fs.length:Int):=by omega);obtain⟨g,o,c,e,_,_,_,hcell⟩:=nX.out.place (by omega) (by decide);cases e;obtain⟨f,he⟩:∃f,fs[j]? =some f:=⟨_,gE hlt2⟩;obtain⟨u,hu⟩:∃u,vs[j]? =some u:=⟨_,gE (by rw[h'.out.len];exact hlt2)⟩;have x0:=(hcell _ hS.below (j*2+0) (by omega)).trans (p8 he hu 0 (by omega));simp only[tfC,gB,gC,←Nat.add_assoc,Nat.add_zero]at x0;have he':=Lh he;have kX:=Lh hS;clear hcell he hu hS;cases hmo:eG f.mode with
  |false=>have hD:Hid (jJ ns fs=false):=Lh (by unfold jJ;rw[Bool.and_eq_false_iff];right;rw[List.all_eq_false];exact⟨f,gG he'.out,by rw[hmo];decide⟩);have hmm:=lZ f.mode;rw[hmo]at hmm;go_wp2_with(go_at_call 177;refine(hmm _).mono ?_;rintro e w4 ⟨rfl,hw4⟩;have nN:=hw4.symm;clear hw4;subst nN);go_ret;exact⟨by rw[hD.out];rfl,kX.out.below⟩
  |true=>
   have hmm:=lZ f.mode;rw[hmo]at hmm;have axR:=Lh hmo;clear hmo;go_wp2_with(go_at_call 177;refine(hmm _).mono ?_;rintro e w4 ⟨rfl,hw4⟩;have nN:=hw4.symm;clear hw4;subst nN);go_roundw
   case rel=>
    refine⟨j+1,by omega,by go_num,fun t m ht hm=>?_,kX.out⟩;by_cases htj:t=j
    ·subst htj;have e1:=hm.symm.trans he'.out;cases e1;exact axR.out
    exact hall.out t m (by omega) hm
   case measure=>(simp[intOf];omega)
 have d2:¬(j:Int)<(fs.length:Int):=by omega
 have hal:fs.all (fun f=>eG f.mode)=true:=by rw[List.all_eq_true];intro f hf;obtain⟨t,ht⟩:=List.mem_iff_getElem?.1 hf;exact hall.out t f (by have:=(gF.1 ht).1;omega) ht
 have hfin:Hid (jJ ns fs=((k:Int)==(fs.length:Int))):=Lh (by unfold jJ;rw[hri.out,hal,Bool.and_true,Bool.eq_iff_iff];simp;try omega);have kX:=Lh hS;clear hS hal;go_wp2_with fail;go_ret;exact⟨by rw[hfin.out];rfl,kX.out.below⟩
theorem PI {w:World} {nv fv:Value} {ns:List TN} {fs:List TF} {vs:List Value} (h:dS w nv fv ns fs vs) (hm:nI ns fs):
  Calls Tryz.prog 108 #[.agg #[nv,fv]] w fun e w'=>e= .returned (.int .i64 (if iZ ns fs=true then 31 else if jJ ns fs=true then 0 else 30))∧Below w.heap.size w w':=by
 have hS0:=(Sep.nil w).bN 32 #[nv,fv];have hb:=fun(W:World) (hW:Below w.heap.size w W)=>JR (h.below hW) hm
 have hf:=fun(W:World) (hW:Below w.heap.size w W)=>EI (h.below hW) hm
 obtain⟨A1,c1,rfl,hm1⟩:=h.nodes.shape;obtain⟨A2,c2,rfl,hm2⟩:=h.files.shape;have z0:=hS0.bC 0 rfl 0;have z1:=hS0.bC 0 rfl 1;simp only[gA,gB,gC]at z0 z1;have gZ:=Lh hS0;have hb':=Lh hb;have hf':=Lh hf;clear h hm hS0 hb hf;generalize iZ ns fs=bb at hb' ⊢;generalize jJ ns fs=ff at hf' ⊢;cases bb with
 |true=>go_enter Tryz.func108,Tryz.ntmps108;go_wp2_with(go_at_call 153;refine(hb'.out _ gZ.out.below).mono ?_;rintro e w1 ⟨rfl,hb1⟩;(have hS1:=gZ.out.pure hb1);(have y0:=hS1.bC 0 rfl 0);(have y1:=hS1.bC 0 rfl 1);simp only[gA,gB,gC]at y0 y1;replace hS1:=Lh hS1;clear hb1);go_ret;exact⟨rfl,hS1.out.below⟩
 |false=>
  cases ff<;>
  ·go_enter Tryz.func108,Tryz.ntmps108;go_wp2_with(first |(go_at_call 153;refine(hb'.out _ gZ.out.below).mono ?_;rintro e w1 ⟨rfl,hb1⟩;(have hS1:=gZ.out.pure hb1);(have y0:=hS1.bC 0 rfl 0);(have y1:=hS1.bC 0 rfl 1);simp only[gA,gB,gC]at y0 y1;replace hS1:=Lh hS1;clear hb1)|(go_at_call 154;refine(hf'.out _ hS1.out.below).mono ?_;rintro e w2 ⟨rfl,hb2⟩;(have hS2:=hS1.out.pure hb2);replace hS2:=Lh hS2;clear hb2));go_ret;exact⟨rfl,hS2.out.below⟩
end Go.Proofs.YteihmbaimbogaaaGreat
