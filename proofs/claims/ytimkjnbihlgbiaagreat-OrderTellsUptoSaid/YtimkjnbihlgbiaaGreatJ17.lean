/- DocD, laid together. -/
import Derived.Test.YtimkjnbihlgbiaaGreatJ16
namespace Go.Proofs.YtimkjnbihlgbiaaGreat
open Go.RowKit
set_option linter.unusedVariables false
set_option linter.unusedSimpArgs false
set_option maxRecDepth 100000 in
theorem refbig_any {w:World} {nv fv:Value} {ns:List TN} {fs:List TF} {vs:List Value} (h:TreeAt w nv fv ns fs vs) (hm:TreeSm ns fs):
  Calls Tryz.prog 91 #[.agg #[nv,fv]] w fun e w'=>e= .returned (.bool (boundP ns fs))∧Below w.heap.size w w':=by
 have hS0:=(Sep.nil w).bN 25 #[nv,fv];obtain⟨A1,c1,rfl,hm1⟩:=h.nodes.shape;have hfp:=h.files;obtain⟨A2,c2,rfl,hm2⟩:=h.files.shape;have z0:=hS0.bC 0 rfl 0;have z1:=hS0.bC 0 rfl 1;simp only[gA,gB,gC]at z0 z1;have hS0':=Lh hS0;have h':=Lh h;have hs':=Lh hm.size;have hf:=hm.few;have hf2:=hm.few2;have hfp':=Lh hfp;clear h hm hS0 hfp;unfold boundP;by_cases g1:256<ns.length
 ·(have b1:(256:Int)<(ns.length:Int):=by omega);rw[decide_eq_true g1,Bool.true_or,Bool.true_or];go_enter Tryz.func91,Tryz.ntmps91;go_wp2_with fail;go_ret;exact⟨rfl,hS0'.out.below⟩
 have b1:¬(256:Int)<(ns.length:Int):=by omega
 by_cases g2:256<fs.length
 ·(have b2:(256:Int)<(fs.length:Int):=by omega);rw[decide_eq_true g2,Bool.or_true,Bool.true_or];go_enter Tryz.func91,Tryz.ntmps91;go_wp2_with fail;go_ret;exact⟨rfl,hS0'.out.below⟩
 have b2:¬(256:Int)<(fs.length:Int):=by omega
 rw[decide_eq_false g1,decide_eq_false g2,Bool.false_or,Bool.false_or];go_enter Tryz.func91,Tryz.ntmps91;go_wp2_with fail;go_loopw[3] (fun iv wr=>∃i:Nat,i≤fs.length∧iv= .int .i64 i∧wr=w.alloc (.cells #[.slice A1 ns.length c1,.slice A2 fs.length c2] 25)∧Hid (∀(j:Nat) (m:TF),j<i→fs[j]? =some m→bigF m=false)) (fun iv _=>fs.length-(intOf iv).toNat)
 case atStart=>exact⟨0,Nat.zero_le _,rfl,rfl,fun j m hj=>absurd hj (Nat.not_lt_zero _)⟩
 obtain⟨i,hi,rfl,rfl,hno⟩:=hrel;have c0:(0:Int)≤(i:Int):=by omega
 by_cases hlt:i<fs.length
 ·(have c2:(i:Int)<(fs.length:Int):=by omega);obtain⟨g,o,c,e,_,_,_,hcell⟩:=hfp'.out.place (by omega) (by decide);cases e;obtain⟨f,he⟩:∃f,fs[i]? =some f:=⟨_,gE hlt⟩;obtain⟨u,hu⟩:∃u,vs[i]? =some u:=⟨_,gE (by rw[h'.out.len];exact hlt)⟩;obtain⟨A,c9,rfl,_⟩:=(h'.out.data i u f hu he).shape;have c1:=(hcell _ hS0'.out.below (i*2+1) (by omega)).trans (tfCells_at he hu 1 (by omega));simp only[tfC,gB,gC,←Nat.add_assoc]at c1;have hsz:=hs'.out f (gG he);have he':=Lh he;clear hcell he hu;by_cases hp:8192<f.size
  ·(have hp2:(8192:Int)<(f.size:Int):=by omega);have hp':=Lh hp;clear hp;go_wp2_with fail;go_ret;refine⟨?_,hS0'.out.below⟩;rw[List.any_eq_true.2 ⟨f,gG he'.out,by unfold bigF;simpa using hp'.out⟩];rfl
  (have hp2:¬(8192:Int)<(f.size:Int):=by omega);have hp':=Lh hp;clear hp;go_wp2_with fail;go_roundw
  case rel=>
   refine⟨i+1,by omega,by go_num,by trivial,fun j m hj hm=>?_⟩;by_cases hji:j=i
   ·subst hji;have e1:=hm.symm.trans he'.out;cases e1;unfold bigF;simpa using hp'.out
   exact hno.out j m (by omega) hm
  case measure=>simp[intOf];omega
 have c2:¬(i:Int)<(fs.length:Int):=by omega
 go_wp2_with fail;go_ret;refine⟨?_,hS0'.out.below⟩;have hall:fs.any bigF=false:=by rw[List.any_eq_false];intro f hf;obtain⟨j,hj⟩:=List.mem_iff_getElem?.1 hf;rw[hno.out j f (by have:=(gF.1 hj).1;omega) hj];simp
 rw[hall];rfl
def upOk (ns:List TN) (up:List UInt8):Bool:=decide (up=[])||(match findN ns up with
 |none=>false
 |some m=>decide (m.file= -1))
def nodeD (ns:List TN) (fl i k:Nat) (n:TN):Bool:=
 ((validL n.path&&(decide (i=0)||Op.bytesLess (lastQ ns i) n.path))&&upOk ns (parentL n.path))&&(if n.file= -1 then modeOk n.mode else((decide (n.mode=0)&&decide (0≤n.file))&&decide (n.file≤(k:Int)))&&decide (n.file<(fl:Int)))
def runD (ns:List TN) (fl:Nat):Nat→Option Nat
 |0=>some 0
 |i+1=>match runD ns fl i with
  |none=>none
  |some k=>match ns[i]? with
   |none=>some k
   |some n=>if nodeD ns fl i k n=true then some (nextK k n)else none
theorem runD_le {ns:List TN} {fl:Nat}:∀ {i k:Nat},runD ns fl i=some k→k≤i:=by
 intro i
 induction i with
 |zero=>intro k h;cases h;exact Nat.le_refl _
 |succ i ih=>
  intro k h;change (match runD ns fl i with
   |none=>none
   |some k=>match ns[i]? with
    |none=>some k
    |some n=>if nodeD ns fl i k n=true then some (nextK k n)else none)=some k at h
  cases hr:runD ns fl i with
  |none=>rw[hr]at h;cases h
  |some k0=>
   have:=ih hr;rw[hr]at h;simp only at h;cases hn:ns[i]? with
   |none=>rw[hn]at h;cases h;omega
   |some n=>
    rw[hn]at h;simp only at h;split at h
    ·cases h;unfold nextK;split<;>omega
    cases h
def formD (ns:List TN) (fs:List TF):Bool:=decide (runD ns fs.length ns.length=some fs.length)&&fs.all (fun f=>modeOk f.mode)
theorem runD_succ {ns:List TN} {fl i k:Nat} {n:TN} (h:runD ns fl i=some k) (hn:ns[i]? =some n):runD ns fl (i+1)=if nodeD ns fl i k n=true then some (nextK k n)else none:=by
 show(match runD ns fl i with
  |none=>none
  |some k=>match ns[i]? with
   |none=>some k
   |some n=>if nodeD ns fl i k n=true then some (nextK k n)else none)=_
 rw[h];simp only;rw[hn]
theorem runD_none {ns:List TN} {fl i:Nat} (h:runD ns fl i=none):∀j,runD ns fl (i+j)=none:=by
 intro j
 induction j with
 |zero=>exact h
 |succ j ih=>
  show(match runD ns fl (i+j)with
   |none=>none
   |some k=>match ns[i+j]? with
    |none=>some k
    |some n=>if nodeD ns fl (i+j) k n=true then some (nextK k n)else none)=none
  rw[ih]
theorem form_false {ns:List TN} {fs:List TF} {i k:Nat} {n:TN} (h:runD ns fs.length i=some k) (hn:ns[i]? =some n) (ho:nodeD ns fs.length i k n=false):formD ns fs=false:=by have h1:=runD_succ h hn;rw[ho,if_neg (by decide)]at h1;have hi:=(gF.1 hn).1;have h2:=runD_none h1 (ns.length-(i+1));rw[show i+1+(ns.length-(i+1))=ns.length by omega]at h2;unfold formD;rw[h2];simp
theorem findI_find (ns:List TN) (p:List UInt8):(findN ns p=none∧findI ns p= -1)∨∃(k:Nat) (m:TN),findN ns p=some m∧ns[k]? =some m∧findI ns p=k∧m.path=p:=by
 unfold findN findI;cases h:ns.findIdx? (fun n=>n.path==p)with
 |none=>left;refine⟨?_,rfl⟩;rw[List.find?_eq_none];intro m hm;have:=List.findIdx?_eq_none_iff.1 h m hm;simp[this]
 |some k=>right;obtain⟨hk,h1,h2⟩:=List.findIdx?_eq_some_iff_getElem.1 h;refine⟨k,ns[k],?_,gE hk,rfl,by simpa using h1⟩;rw[List.find?_eq_some_iff_getElem];refine⟨h1,k,hk,rfl,fun j hj=>?_⟩;have:=h2 j hj;simpa using this
def numD (fl k:Nat) (n:TN):Prop:=(n.file= -1∧modeOk n.mode=true)∨(¬n.file= -1∧n.mode=0∧0≤n.file∧n.file≤(k:Int)∧n.file<(fl:Int))
theorem nodeD_of {ns:List TN} {fl i k:Nat} {n:TN}:nodeD ns fl i k n=true↔((validL n.path=true∧(i=0∨Op.bytesLess (lastQ ns i) n.path=true))∧upOk ns (parentL n.path)=true)∧numD fl k n:=by
 unfold nodeD numD;by_cases h:n.file= -1
 ·simp[h]
 simp[h,and_assoc]
theorem nodeD_no {ns:List TN} {fl i k:Nat} {n:TN} (h:¬numD fl k n):nodeD ns fl i k n=false:=by
 cases h2:nodeD ns fl i k n with
 |false=>rfl
 |true=>exact absurd (nodeD_of.1 h2).2 h
theorem lastQ_succ {ns:List TN} {i:Nat} {m:TN} (h:ns[i]? =some m):lastQ ns (i+1)=m.path:=by
 show((ns[i]?).map (·.path)).getD []=_
 rw[h];rfl
set_option maxRecDepth 100000 in
set_option maxHeartbeats 2000000 in
theorem refform_any {w:World} {nv fv:Value} {ns:List TN} {fs:List TF} {vs:List Value} (h:TreeAt w nv fv ns fs vs) (hm:TreeSm ns fs):
  Calls Tryz.prog 92 #[.agg #[nv,fv]] w fun e w'=>e= .returned (.bool (formD ns fs))∧Below w.heap.size w w':=by
 have hS0:=(Sep.nil w).bN 25 #[nv,fv];have hnp:=h.nodes;obtain⟨A1,c1,rfl,hm1⟩:=h.nodes.shape;have hfp:=h.files;obtain⟨A2,c2,rfl,hm2⟩:=h.files.shape;have hS0':=Lh hS0;have h':=Lh h;have hsh':=Lh hm.short;have hf:=hm.few;have hf2:=hm.few2;have hnp':=Lh hnp;have hfp':=Lh hfp;have hval:=fun(n:TN) (hn:n∈ns) (W:World)=>refvalid_any ⟨n.path.toArray⟩ W (by rw[strV_size];have:=hm.short n hn;omega)
 have hpar:=fun(n:TN) (hn:n∈ns) (W:World)=>refparent_any (p:=n.path) W (by have:=hm.short n hn;omega)
 have hfnd:=fun(W:World) (hW:Below w.heap.size w W) (p:List UInt8)=>reffind_any (h.below hW) hm.few p
 have hval':=Lh hval;have hpar':=Lh hpar;have hfnd':=Lh hfnd;clear h hm hnp hfp hval hpar hfnd;have z0:=hS0.bC 0 rfl 0;have z1:=hS0.bC 0 rfl 1;simp only[gA,gB,gC]at z0 z1;clear hS0;have b1:(ns.length:Int)≤300:=by omega
 have b2:(fs.length:Int)≤300:=by omega
 go_enter Tryz.func92,Tryz.ntmps92;go_wp2_with fail;clear z0 z1;go_loopw[4,3] (fun iv kv wr=>∃i k:Nat,i≤ns.length∧iv= .int .i64 i∧kv= .int .i64 k∧Hid (runD ns fs.length i=some k)∧Sep w wr [.box w.heap.size 25 #[.slice A1 ns.length c1,.slice A2 fs.length c2]]) (fun iv _ _=>ns.length-(intOf iv).toNat)
 case atStart=>exact⟨0,0,Nat.zero_le _,rfl,rfl,rfl,hS0'.out⟩
 obtain⟨i,k,hi,rfl,rfl,hr,hS⟩:=hrel;have hki:=runD_le hr.out;have c0:(0:Int)≤(i:Int):=by omega
 have cK:(k:Int)≤300:=by omega
 have hki':=Lh hki;clear hki;have z0:=hS.bC 0 rfl 0;have z1:=hS.bC 0 rfl 1;simp only[gA,gB,gC]at z0 z1;by_cases hlt:i<ns.length
 ·(have c2:(i:Int)<(ns.length:Int):=by omega);obtain⟨g,o,c,e,_,_,_,hcell⟩:=hnp'.out.place (by omega) (by decide);cases e;obtain⟨n,he⟩:∃n,ns[i]? =some n:=⟨_,gE hlt⟩;(have hx:=fun(W:World) (hW:Below w.heap.size w W) (j:Nat) (hj:j<3)=>(hcell _ hW (i*3+j) (by omega)).trans (tnCells_at he j (by omega)));have x0:=hx _ hS.below 0 (by omega);have x1:=hx _ hS.below 1 (by omega);have x2:=hx _ hS.below 2 (by omega);simp only[tnC,strV,gB,gC,←Nat.add_assoc,Nat.add_zero]at x0 x1 x2;have hb:=hS.bN 51 #[.string ⟨n.path.toArray⟩,.int .i64 n.file,.int .i64 n.mode];have hb':=Lh hb;have he':=Lh he;have hx':=Lh hx;have hmem:=gG he;have hva:=hval'.out n hmem;have hva':=Lh hva;have hcell':=Lh hcell;clear hva hx hb hcell;(have hbad:nodeD ns fs.length i k n=false→Hid (formD ns fs=false):=fun h=>form_false hr.out he h);have hbad':=Lh hbad;(have hgo:(i=0∨Op.bytesLess (lastQ ns i) n.path=true)→validL n.path=true→upOk ns (parentL n.path)=true→numD fs.length k n→Hid (runD ns fs.length (i+1)=some (nextK k n)):=fun h1 h2 h3 h4=>by have h5:=runD_succ hr.out he;rw[if_pos (nodeD_of.2 ⟨⟨⟨h2,h1⟩,h3⟩,h4⟩)]at h5;exact h5);have hgo':=Lh hgo;clear hbad he hgo;cases hvl:validL n.path with
  |false=>have hD:Hid (formD ns fs=false):=hbad'.out (by unfold nodeD;rw[hvl];rfl);rw[hvl]at hva';clear hS hvl hbad' hmem;go_wp2_with(go_at_call 96;refine(hva'.out _).mono ?_;rintro e w1 ⟨rfl,hb1⟩;replace hb1:=Lh hb1);go_quiet (fail);go_wp2_with fail;go_ret;exact⟨by rw[hD.out];rfl,(((hb'.out.pure hb1.out)).drewN nq).below⟩
  |true=>
   have hvl':=Lh hvl;rw[hvl]at hva';rcases Nat.eq_zero_or_pos i with hi0|hi0
   ·(have c9:¬(0:Int)<(i:Int):=by omega);(have c10:¬0<i:=by omega);have hord':Hid (i=0∨Op.bytesLess (lastQ ns i) n.path=true):=Or.inl hi0;clear hvl hi0;have hpa:=hpar'.out n hmem;obtain⟨up,hup⟩:∃up,parentL n.path=up:=⟨_,rfl⟩;rw[hup]at hpa;have hpa':=Lh hpa;clear hpa;by_cases hu0:up=[]
    ·subst hu0;have hbadU:Hid (upOk ns []=true):=rfl;have hup':=Lh hup;clear hup hmem hS;unfold strV at*;go_wp2_with(go_at_call 96;refine(hva'.out _).mono ?_;rintro e w1 ⟨rfl,hb1⟩;(have hS1:=hb'.out.pure hb1);replace hS1:=Lh hS1;replace hb1:=Lh hb1);go_quiet (fail);have hSq:=hS1.out.drewN nq;clear hS1 hb1;generalize w1.drewN nq=wq at hSq ⊢;(have d0:=hSq.bC 0 rfl 0);(have d1:=hSq.bC 0 rfl 1);(have d2:=hSq.bC 0 rfl 2);(have e0:=hSq.bC 1 rfl 0);(have e1:=hSq.bC 1 rfl 1);simp only[gA,gB,gC]at d0 d1 d2 e0 e1;have hSq':=Lh hSq;clear hSq;go_wp2_with(first |(go_at_call 99;refine(hpa'.out _).mono ?_;rintro e w2 ⟨rfl,hb2⟩;(have hS2:=hSq'.out.pure hb2);(have f0:=hS2.bC 0 rfl 0);(have f1:=hS2.bC 0 rfl 1);(have f2:=hS2.bC 0 rfl 2);(have g0:=hS2.bC 1 rfl 0);(have g1:=hS2.bC 1 rfl 1);simp only[gA,gB,gC]at f0 f1 f2 g0 g1;replace hS2:=Lh hS2;clear hb2)|(go_at_call 139;refine(refmode_any _ _).mono ?_;rintro e w4 ⟨rfl,hw4⟩;have hw5:=hw4.symm;clear hw4;subst hw5));all_goals first
      |(go_ret
        have hnum:¬numD fs.length k n:=by(try simp only[beq_iff_eq,beq_eq_false_iff_ne,ne_eq,Bool.not_eq_true',Bool.not_eq_false',gt_iff_lt]at*);rintro(⟨h1,h2⟩|⟨h1,h2,h3,h4,h5⟩)<;>first |omega|(simp_all;done)
        exact⟨by rw[(hbad'.out (nodeD_no hnum)).out];rfl,hS2.out.below⟩)
      |(have hnum:numD fs.length k n:=by
         try simp only[beq_iff_eq,beq_eq_false_iff_ne,ne_eq,Bool.not_eq_true',Bool.not_eq_false',gt_iff_lt]at*
         first
          |(right;refine⟨?_,?_,?_,?_,?_⟩<;>omega)
          |(left;refine⟨by omega,?_⟩;assumption)
        have hst:=hgo'.out hord'.out hvl'.out (by rw[hup'.out];exact hbadU.out) hnum
        first
         |(have hq:nextK k n=k:=(by unfold nextK;rw[if_neg (by(try simp only[beq_iff_eq,beq_eq_false_iff_ne,ne_eq]at*);omega)])
           go_roundw
           case rel=>exact⟨i+1,k,by omega,by go_num,by trivial,(by rw[hq]at hst;exact hst),Sep.drop 1 hS2.out⟩
           case measure=>(simp[intOf];omega))
         |(have hq:nextK k n=k+1:=(by unfold nextK;rw[if_pos (by(try simp only[beq_iff_eq,beq_eq_false_iff_ne,ne_eq]at*);omega)])
           go_roundw
           case rel=>exact⟨i+1,k+1,by omega,by go_num,by go_num,(by rw[hq]at hst;exact hst),Sep.drop 1 hS2.out⟩
           case measure=>(simp[intOf];omega)))
    (have bU:(up.isEmpty)=false:=by cases up with|nil=>exact absurd rfl hu0|cons a l=>rfl);rcases findI_find ns up with⟨hf1,hf9⟩|⟨kk,m,hf1,hf8,hf9,hf7⟩
    ·have hD:Hid (formD ns fs=false):=hbad'.out (by
      cases h2:nodeD ns fs.length i k n with
      |false=>rfl
      |true=>have:=(nodeD_of.1 h2).1.2;rw[hup]at this;unfold upOk at this;rw[hf1]at this;simp[hu0]at this)
     have hfi':=Lh hf9;have hu0':=Lh hu0;clear hup hmem hS hf1 hf9 hu0;unfold strV at*;go_wp2_with(go_at_call 96;refine(hva'.out _).mono ?_;rintro e w1 ⟨rfl,hb1⟩;(have hS1:=hb'.out.pure hb1);replace hS1:=Lh hS1;replace hb1:=Lh hb1);go_quiet (fail);have hSq:=hS1.out.drewN nq;clear hS1 hb1;generalize w1.drewN nq=wq at hSq ⊢;(have d0:=hSq.bC 0 rfl 0);(have d1:=hSq.bC 0 rfl 1);(have d2:=hSq.bC 0 rfl 2);(have e0:=hSq.bC 1 rfl 0);(have e1:=hSq.bC 1 rfl 1);simp only[gA,gB,gC]at d0 d1 d2 e0 e1;have hSq':=Lh hSq;clear hSq;go_wp2_with(first |(go_at_call 99;refine(hpa'.out _).mono ?_;rintro e w2 ⟨rfl,hb2⟩;(have hS2:=hSq'.out.pure hb2);(have f0:=hS2.bC 0 rfl 0);(have f1:=hS2.bC 0 rfl 1);(have f2:=hS2.bC 0 rfl 2);(have g0:=hS2.bC 1 rfl 0);(have g1:=hS2.bC 1 rfl 1);simp only[gA,gB,gC]at f0 f1 f2 g0 g1;replace hS2:=Lh hS2;clear hb2)|(go_at_call 98;refine(hfnd'.out _ hS2.out.below _).mono ?_;rintro e w3 ⟨rfl,hb3⟩;rw[hfi'.out];(have hS3:=hS2.out.pure hb3);(have k0:=hS3.bC 0 rfl 0);(have k1:=hS3.bC 0 rfl 1);(have k2:=hS3.bC 0 rfl 2);(have l0:=hS3.bC 1 rfl 0);(have l1:=hS3.bC 1 rfl 1);simp only[gA,gB,gC]at k0 k1 k2 l0 l1;replace hS3:=Lh hS3;clear hb3));go_ret;exact⟨by rw[hD.out];rfl,hS3.out.below⟩
    have hfi':=Lh hf9;(have hy:=fun(W:World) (hW:Below w.heap.size w W) (j:Nat) (hj:j<3)=>(hcell'.out _ hW (kk*3+j) (by have:=(gF.1 hf8).1;omega)).trans (tnCells_at hf8 j (by omega)));(have yk:(kk:Int)<(ns.length:Int):=by have:=(gF.1 hf8).1;omega);(have yk0:(0:Int)≤(kk:Int):=by omega);have hy':=Lh hy;clear hy;by_cases hmd:m.file= -1
    ·(have hmb:(m.file != -1)=false:=by rw[hmd];rfl);have hup':=Lh hup;have hbadU:Hid (upOk ns up=true):=Lh (by unfold upOk;rw[hf1];simp[hmd]);have hmd':=Lh hmd;clear hup hmem hS hf1 hf9 hf8 hf7 hu0 hmd;unfold strV at*;go_wp2_with(go_at_call 96;refine(hva'.out _).mono ?_;rintro e w1 ⟨rfl,hb1⟩;(have hS1:=hb'.out.pure hb1);replace hS1:=Lh hS1;replace hb1:=Lh hb1);go_quiet (fail);have hSq:=hS1.out.drewN nq;clear hS1 hb1;generalize w1.drewN nq=wq at hSq ⊢;(have d0:=hSq.bC 0 rfl 0);(have d1:=hSq.bC 0 rfl 1);(have d2:=hSq.bC 0 rfl 2);(have e0:=hSq.bC 1 rfl 0);(have e1:=hSq.bC 1 rfl 1);simp only[gA,gB,gC]at d0 d1 d2 e0 e1;have hSq':=Lh hSq;clear hSq;go_wp2_with(first |(go_at_call 99;refine(hpa'.out _).mono ?_;rintro e w2 ⟨rfl,hb2⟩;(have hS2:=hSq'.out.pure hb2);(have f0:=hS2.bC 0 rfl 0);(have f1:=hS2.bC 0 rfl 1);(have f2:=hS2.bC 0 rfl 2);(have g0:=hS2.bC 1 rfl 0);(have g1:=hS2.bC 1 rfl 1);simp only[gA,gB,gC]at f0 f1 f2 g0 g1;replace hS2:=Lh hS2;clear hb2)|(go_at_call 98;refine(hfnd'.out _ hS2.out.below _).mono ?_;rintro e w3 ⟨rfl,hb3⟩;rw[hfi'.out];(have hS3:=hS2.out.pure hb3);(have k0:=hS3.bC 0 rfl 0);(have k1:=hS3.bC 0 rfl 1);(have k2:=hS3.bC 0 rfl 2);(have l0:=hS3.bC 1 rfl 0);(have l1:=hS3.bC 1 rfl 1);simp only[gA,gB,gC]at k0 k1 k2 l0 l1;(have y1:=hy'.out _ hS3.below 1 (by omega));simp only[tnC,strV,gB,gC,←Nat.add_assoc]at y1;replace hS3:=Lh hS3;clear hb3)|(go_at_call 139;refine(refmode_any _ _).mono ?_;rintro e w4 ⟨rfl,hw4⟩;have hw5:=hw4.symm;clear hw4;subst hw5));all_goals first
      |(go_ret
        have hnum:¬numD fs.length k n:=by(try simp only[beq_iff_eq,beq_eq_false_iff_ne,ne_eq,Bool.not_eq_true',Bool.not_eq_false',gt_iff_lt]at*);rintro(⟨h1,h2⟩|⟨h1,h2,h3,h4,h5⟩)<;>first |omega|(simp_all;done)
        exact⟨by rw[(hbad'.out (nodeD_no hnum)).out];rfl,hS3.out.below⟩)
      |(have hnum:numD fs.length k n:=by
         try simp only[beq_iff_eq,beq_eq_false_iff_ne,ne_eq,Bool.not_eq_true',Bool.not_eq_false',gt_iff_lt]at*
         first
          |(right;refine⟨?_,?_,?_,?_,?_⟩<;>omega)
          |(left;refine⟨by omega,?_⟩;assumption)
        have hst:=hgo'.out hord'.out hvl'.out (by rw[hup'.out];exact hbadU.out) hnum
        first
         |(have hq:nextK k n=k:=(by unfold nextK;rw[if_neg (by(try simp only[beq_iff_eq,beq_eq_false_iff_ne,ne_eq]at*);omega)])
           go_roundw
           case rel=>exact⟨i+1,k,by omega,by go_num,by trivial,(by rw[hq]at hst;exact hst),Sep.drop 1 hS3.out⟩
           case measure=>(simp[intOf];omega))
         |(have hq:nextK k n=k+1:=(by unfold nextK;rw[if_pos (by(try simp only[beq_iff_eq,beq_eq_false_iff_ne,ne_eq]at*);omega)])
           go_roundw
           case rel=>exact⟨i+1,k+1,by omega,by go_num,by go_num,(by rw[hq]at hst;exact hst),Sep.drop 1 hS3.out⟩
           case measure=>(simp[intOf];omega)))
    (have hmb:(m.file != -1)=true:=by simpa using hmd);have hD:Hid (formD ns fs=false):=hbad'.out (by
     cases h2:nodeD ns fs.length i k n with
     |false=>rfl
     |true=>have:=(nodeD_of.1 h2).1.2;rw[hup]at this;unfold upOk at this;rw[hf1]at this;simp[hu0,hmd]at this)
    clear hup hmem hS hf1 hf9 hf8 hf7 hu0 hmd;unfold strV at*;go_wp2_with(go_at_call 96;refine(hva'.out _).mono ?_;rintro e w1 ⟨rfl,hb1⟩;(have hS1:=hb'.out.pure hb1);replace hS1:=Lh hS1;replace hb1:=Lh hb1);go_quiet (fail);have hSq:=hS1.out.drewN nq;clear hS1 hb1;generalize w1.drewN nq=wq at hSq ⊢;(have d0:=hSq.bC 0 rfl 0);(have d1:=hSq.bC 0 rfl 1);(have d2:=hSq.bC 0 rfl 2);(have e0:=hSq.bC 1 rfl 0);(have e1:=hSq.bC 1 rfl 1);simp only[gA,gB,gC]at d0 d1 d2 e0 e1;have hSq':=Lh hSq;clear hSq;go_wp2_with(first |(go_at_call 99;refine(hpa'.out _).mono ?_;rintro e w2 ⟨rfl,hb2⟩;(have hS2:=hSq'.out.pure hb2);(have f0:=hS2.bC 0 rfl 0);(have f1:=hS2.bC 0 rfl 1);(have f2:=hS2.bC 0 rfl 2);(have g0:=hS2.bC 1 rfl 0);(have g1:=hS2.bC 1 rfl 1);simp only[gA,gB,gC]at f0 f1 f2 g0 g1;replace hS2:=Lh hS2;clear hb2)|(go_at_call 98;refine(hfnd'.out _ hS2.out.below _).mono ?_;rintro e w3 ⟨rfl,hb3⟩;rw[hfi'.out];(have hS3:=hS2.out.pure hb3);(have k0:=hS3.bC 0 rfl 0);(have k1:=hS3.bC 0 rfl 1);(have k2:=hS3.bC 0 rfl 2);(have l0:=hS3.bC 1 rfl 0);(have l1:=hS3.bC 1 rfl 1);simp only[gA,gB,gC]at k0 k1 k2 l0 l1;(have y1:=hy'.out _ hS3.below 1 (by omega));simp only[tnC,strV,gB,gC,←Nat.add_assoc]at y1;replace hS3:=Lh hS3;clear hb3));go_ret;exact⟨by rw[hD.out];rfl,hS3.out.below⟩
   (have c9:(0:Int)<(i:Int):=by omega);(have c11:(0:Int)≤(i:Int)-1:=by omega);(have c12:(i:Int)-1<(ns.length:Int):=by omega);(have c13:((i:Int)-1).toNat=i-1:=by omega);obtain⟨pm,hpm⟩:∃pm,ns[i-1]? =some pm:=⟨_,gE (by omega)⟩;(have hlq:lastQ ns i=pm.path:=by have h:=lastQ_succ hpm;rw[show i-1+1=i by omega]at h;exact h);(have p0:=fun(W:World) (hW:Below w.heap.size w W)=>(hcell'.out _ hW ((i-1)*3+0) (by omega)).trans (tnCells_at hpm 0 (by omega)));simp only[tnC,strV,gB,gC,←Nat.add_assoc,Nat.add_zero]at p0;have p0':=Lh p0;have hlq':=Lh hlq;clear p0 hlq hpm;cases hls:Op.bytesLess pm.path n.path with
   |true=>
    have hord':Hid (i=0∨Op.bytesLess (lastQ ns i) n.path=true):=Or.inr (by rw[hlq'.out];exact hls);clear hvl;have hpa:=hpar'.out n hmem;obtain⟨up,hup⟩:∃up,parentL n.path=up:=⟨_,rfl⟩;rw[hup]at hpa;have hpa':=Lh hpa;clear hpa;by_cases hu0:up=[]
    ·subst hu0;have hbadU:Hid (upOk ns []=true):=rfl;have hup':=Lh hup;clear hup hmem hS;unfold strV at*;go_wp2_with(go_at_call 96;refine(hva'.out _).mono ?_;rintro e w1 ⟨rfl,hb1⟩;(have hS1:=hb'.out.pure hb1);(have pp:=p0'.out _ hS1.below);(have a0:=hS1.bC 0 rfl 0);(have a3:=hS1.bC 1 rfl 0);simp only[gA,gB,gC]at a0 a3;replace hS1:=Lh hS1;replace hb1:=Lh hb1);go_quiet (fail);have hSq:=hS1.out.drewN nq;clear hS1 hb1;generalize w1.drewN nq=wq at hSq ⊢;(have d0:=hSq.bC 0 rfl 0);(have d1:=hSq.bC 0 rfl 1);(have d2:=hSq.bC 0 rfl 2);(have e0:=hSq.bC 1 rfl 0);(have e1:=hSq.bC 1 rfl 1);simp only[gA,gB,gC]at d0 d1 d2 e0 e1;have hSq':=Lh hSq;clear hSq;go_wp2_with(first |(go_at_call 99;refine(hpa'.out _).mono ?_;rintro e w2 ⟨rfl,hb2⟩;(have hS2:=hSq'.out.pure hb2);(have f0:=hS2.bC 0 rfl 0);(have f1:=hS2.bC 0 rfl 1);(have f2:=hS2.bC 0 rfl 2);(have g0:=hS2.bC 1 rfl 0);(have g1:=hS2.bC 1 rfl 1);simp only[gA,gB,gC]at f0 f1 f2 g0 g1;replace hS2:=Lh hS2;clear hb2)|(go_at_call 139;refine(refmode_any _ _).mono ?_;rintro e w4 ⟨rfl,hw4⟩;have hw5:=hw4.symm;clear hw4;subst hw5));all_goals first
      |(go_ret
        have hnum:¬numD fs.length k n:=by(try simp only[beq_iff_eq,beq_eq_false_iff_ne,ne_eq,Bool.not_eq_true',Bool.not_eq_false',gt_iff_lt]at*);rintro(⟨h1,h2⟩|⟨h1,h2,h3,h4,h5⟩)<;>first |omega|(simp_all;done)
        exact⟨by rw[(hbad'.out (nodeD_no hnum)).out];rfl,hS2.out.below⟩)
      |(have hnum:numD fs.length k n:=by
         try simp only[beq_iff_eq,beq_eq_false_iff_ne,ne_eq,Bool.not_eq_true',Bool.not_eq_false',gt_iff_lt]at*
         first
          |(right;refine⟨?_,?_,?_,?_,?_⟩<;>omega)
          |(left;refine⟨by omega,?_⟩;assumption)
        have hst:=hgo'.out hord'.out hvl'.out (by rw[hup'.out];exact hbadU.out) hnum
        first
         |(have hq:nextK k n=k:=(by unfold nextK;rw[if_neg (by(try simp only[beq_iff_eq,beq_eq_false_iff_ne,ne_eq]at*);omega)])
           go_roundw
           case rel=>exact⟨i+1,k,by omega,by go_num,by trivial,(by rw[hq]at hst;exact hst),Sep.drop 1 hS2.out⟩
           case measure=>(simp[intOf];omega))
         |(have hq:nextK k n=k+1:=(by unfold nextK;rw[if_pos (by(try simp only[beq_iff_eq,beq_eq_false_iff_ne,ne_eq]at*);omega)])
           go_roundw
           case rel=>exact⟨i+1,k+1,by omega,by go_num,by go_num,(by rw[hq]at hst;exact hst),Sep.drop 1 hS2.out⟩
           case measure=>(simp[intOf];omega)))
    (have bU:(up.isEmpty)=false:=by cases up with|nil=>exact absurd rfl hu0|cons a l=>rfl);rcases findI_find ns up with⟨hf1,hf9⟩|⟨kk,m,hf1,hf8,hf9,hf7⟩
    ·have hD:Hid (formD ns fs=false):=hbad'.out (by
      cases h2:nodeD ns fs.length i k n with
      |false=>rfl
      |true=>have:=(nodeD_of.1 h2).1.2;rw[hup]at this;unfold upOk at this;rw[hf1]at this;simp[hu0]at this)
     have hfi':=Lh hf9;have hu0':=Lh hu0;clear hup hmem hS hf1 hf9 hu0;unfold strV at*;go_wp2_with(go_at_call 96;refine(hva'.out _).mono ?_;rintro e w1 ⟨rfl,hb1⟩;(have hS1:=hb'.out.pure hb1);(have pp:=p0'.out _ hS1.below);(have a0:=hS1.bC 0 rfl 0);(have a3:=hS1.bC 1 rfl 0);simp only[gA,gB,gC]at a0 a3;replace hS1:=Lh hS1;replace hb1:=Lh hb1);go_quiet (fail);have hSq:=hS1.out.drewN nq;clear hS1 hb1;generalize w1.drewN nq=wq at hSq ⊢;(have d0:=hSq.bC 0 rfl 0);(have d1:=hSq.bC 0 rfl 1);(have d2:=hSq.bC 0 rfl 2);(have e0:=hSq.bC 1 rfl 0);(have e1:=hSq.bC 1 rfl 1);simp only[gA,gB,gC]at d0 d1 d2 e0 e1;have hSq':=Lh hSq;clear hSq;go_wp2_with(first |(go_at_call 99;refine(hpa'.out _).mono ?_;rintro e w2 ⟨rfl,hb2⟩;(have hS2:=hSq'.out.pure hb2);(have f0:=hS2.bC 0 rfl 0);(have f1:=hS2.bC 0 rfl 1);(have f2:=hS2.bC 0 rfl 2);(have g0:=hS2.bC 1 rfl 0);(have g1:=hS2.bC 1 rfl 1);simp only[gA,gB,gC]at f0 f1 f2 g0 g1;replace hS2:=Lh hS2;clear hb2)|(go_at_call 98;refine(hfnd'.out _ hS2.out.below _).mono ?_;rintro e w3 ⟨rfl,hb3⟩;rw[hfi'.out];(have hS3:=hS2.out.pure hb3);(have k0:=hS3.bC 0 rfl 0);(have k1:=hS3.bC 0 rfl 1);(have k2:=hS3.bC 0 rfl 2);(have l0:=hS3.bC 1 rfl 0);(have l1:=hS3.bC 1 rfl 1);simp only[gA,gB,gC]at k0 k1 k2 l0 l1;replace hS3:=Lh hS3;clear hb3));go_ret;exact⟨by rw[hD.out];rfl,hS3.out.below⟩
    have hfi':=Lh hf9;(have hy:=fun(W:World) (hW:Below w.heap.size w W) (j:Nat) (hj:j<3)=>(hcell'.out _ hW (kk*3+j) (by have:=(gF.1 hf8).1;omega)).trans (tnCells_at hf8 j (by omega)));(have yk:(kk:Int)<(ns.length:Int):=by have:=(gF.1 hf8).1;omega);(have yk0:(0:Int)≤(kk:Int):=by omega);have hy':=Lh hy;clear hy;by_cases hmd:m.file= -1
    ·(have hmb:(m.file != -1)=false:=by rw[hmd];rfl);have hup':=Lh hup;have hbadU:Hid (upOk ns up=true):=Lh (by unfold upOk;rw[hf1];simp[hmd]);have hmd':=Lh hmd;clear hup hmem hS hf1 hf9 hf8 hf7 hu0 hmd;unfold strV at*;go_wp2_with(go_at_call 96;refine(hva'.out _).mono ?_;rintro e w1 ⟨rfl,hb1⟩;(have hS1:=hb'.out.pure hb1);(have pp:=p0'.out _ hS1.below);(have a0:=hS1.bC 0 rfl 0);(have a3:=hS1.bC 1 rfl 0);simp only[gA,gB,gC]at a0 a3;replace hS1:=Lh hS1;replace hb1:=Lh hb1);go_quiet (fail);have hSq:=hS1.out.drewN nq;clear hS1 hb1;generalize w1.drewN nq=wq at hSq ⊢;(have d0:=hSq.bC 0 rfl 0);(have d1:=hSq.bC 0 rfl 1);(have d2:=hSq.bC 0 rfl 2);(have e0:=hSq.bC 1 rfl 0);(have e1:=hSq.bC 1 rfl 1);simp only[gA,gB,gC]at d0 d1 d2 e0 e1;have hSq':=Lh hSq;clear hSq;go_wp2_with(first |(go_at_call 99;refine(hpa'.out _).mono ?_;rintro e w2 ⟨rfl,hb2⟩;(have hS2:=hSq'.out.pure hb2);(have f0:=hS2.bC 0 rfl 0);(have f1:=hS2.bC 0 rfl 1);(have f2:=hS2.bC 0 rfl 2);(have g0:=hS2.bC 1 rfl 0);(have g1:=hS2.bC 1 rfl 1);simp only[gA,gB,gC]at f0 f1 f2 g0 g1;replace hS2:=Lh hS2;clear hb2)|(go_at_call 98;refine(hfnd'.out _ hS2.out.below _).mono ?_;rintro e w3 ⟨rfl,hb3⟩;rw[hfi'.out];(have hS3:=hS2.out.pure hb3);(have k0:=hS3.bC 0 rfl 0);(have k1:=hS3.bC 0 rfl 1);(have k2:=hS3.bC 0 rfl 2);(have l0:=hS3.bC 1 rfl 0);(have l1:=hS3.bC 1 rfl 1);simp only[gA,gB,gC]at k0 k1 k2 l0 l1;(have y1:=hy'.out _ hS3.below 1 (by omega));simp only[tnC,strV,gB,gC,←Nat.add_assoc]at y1;replace hS3:=Lh hS3;clear hb3)|(go_at_call 139;refine(refmode_any _ _).mono ?_;rintro e w4 ⟨rfl,hw4⟩;have hw5:=hw4.symm;clear hw4;subst hw5));all_goals first
      |(go_ret
        have hnum:¬numD fs.length k n:=by(try simp only[beq_iff_eq,beq_eq_false_iff_ne,ne_eq,Bool.not_eq_true',Bool.not_eq_false',gt_iff_lt]at*);rintro(⟨h1,h2⟩|⟨h1,h2,h3,h4,h5⟩)<;>first |omega|(simp_all;done)
        exact⟨by rw[(hbad'.out (nodeD_no hnum)).out];rfl,hS3.out.below⟩)
      |(have hnum:numD fs.length k n:=by
         try simp only[beq_iff_eq,beq_eq_false_iff_ne,ne_eq,Bool.not_eq_true',Bool.not_eq_false',gt_iff_lt]at*
         first
          |(right;refine⟨?_,?_,?_,?_,?_⟩<;>omega)
          |(left;refine⟨by omega,?_⟩;assumption)
        have hst:=hgo'.out hord'.out hvl'.out (by rw[hup'.out];exact hbadU.out) hnum
        first
         |(have hq:nextK k n=k:=(by unfold nextK;rw[if_neg (by(try simp only[beq_iff_eq,beq_eq_false_iff_ne,ne_eq]at*);omega)])
           go_roundw
           case rel=>exact⟨i+1,k,by omega,by go_num,by trivial,(by rw[hq]at hst;exact hst),Sep.drop 1 hS3.out⟩
           case measure=>(simp[intOf];omega))
         |(have hq:nextK k n=k+1:=(by unfold nextK;rw[if_pos (by(try simp only[beq_iff_eq,beq_eq_false_iff_ne,ne_eq]at*);omega)])
           go_roundw
           case rel=>exact⟨i+1,k+1,by omega,by go_num,by go_num,(by rw[hq]at hst;exact hst),Sep.drop 1 hS3.out⟩
           case measure=>(simp[intOf];omega)))
    (have hmb:(m.file != -1)=true:=by simpa using hmd);have hD:Hid (formD ns fs=false):=hbad'.out (by
     cases h2:nodeD ns fs.length i k n with
     |false=>rfl
     |true=>have:=(nodeD_of.1 h2).1.2;rw[hup]at this;unfold upOk at this;rw[hf1]at this;simp[hu0,hmd]at this)
    clear hup hmem hS hf1 hf9 hf8 hf7 hu0 hmd;unfold strV at*;go_wp2_with(go_at_call 96;refine(hva'.out _).mono ?_;rintro e w1 ⟨rfl,hb1⟩;(have hS1:=hb'.out.pure hb1);(have pp:=p0'.out _ hS1.below);(have a0:=hS1.bC 0 rfl 0);(have a3:=hS1.bC 1 rfl 0);simp only[gA,gB,gC]at a0 a3;replace hS1:=Lh hS1;replace hb1:=Lh hb1);go_quiet (fail);have hSq:=hS1.out.drewN nq;clear hS1 hb1;generalize w1.drewN nq=wq at hSq ⊢;(have d0:=hSq.bC 0 rfl 0);(have d1:=hSq.bC 0 rfl 1);(have d2:=hSq.bC 0 rfl 2);(have e0:=hSq.bC 1 rfl 0);(have e1:=hSq.bC 1 rfl 1);simp only[gA,gB,gC]at d0 d1 d2 e0 e1;have hSq':=Lh hSq;clear hSq;go_wp2_with(first |(go_at_call 99;refine(hpa'.out _).mono ?_;rintro e w2 ⟨rfl,hb2⟩;(have hS2:=hSq'.out.pure hb2);(have f0:=hS2.bC 0 rfl 0);(have f1:=hS2.bC 0 rfl 1);(have f2:=hS2.bC 0 rfl 2);(have g0:=hS2.bC 1 rfl 0);(have g1:=hS2.bC 1 rfl 1);simp only[gA,gB,gC]at f0 f1 f2 g0 g1;replace hS2:=Lh hS2;clear hb2)|(go_at_call 98;refine(hfnd'.out _ hS2.out.below _).mono ?_;rintro e w3 ⟨rfl,hb3⟩;rw[hfi'.out];(have hS3:=hS2.out.pure hb3);(have k0:=hS3.bC 0 rfl 0);(have k1:=hS3.bC 0 rfl 1);(have k2:=hS3.bC 0 rfl 2);(have l0:=hS3.bC 1 rfl 0);(have l1:=hS3.bC 1 rfl 1);simp only[gA,gB,gC]at k0 k1 k2 l0 l1;(have y1:=hy'.out _ hS3.below 1 (by omega));simp only[tnC,strV,gB,gC,←Nat.add_assoc]at y1;replace hS3:=Lh hS3;clear hb3));go_ret;exact⟨by rw[hD.out];rfl,hS3.out.below⟩
   |false=>
    have hD:Hid (formD ns fs=false):=hbad'.out (by
     cases h2:nodeD ns fs.length i k n with
     |false=>rfl
     |true=>
      have:=(nodeD_of.1 h2).1.1.2;rw[hlq'.out,hls]at this;rcases this with h|h
      ·omega
      cases h)
    clear hvl hmem hS;unfold strV at*;go_wp2_with(go_at_call 96;refine(hva'.out _).mono ?_;rintro e w1 ⟨rfl,hb1⟩;(have hS1:=hb'.out.pure hb1);(have pp:=p0'.out _ hS1.below);(have a0:=hS1.bC 0 rfl 0);(have a3:=hS1.bC 1 rfl 0);simp only[gA,gB,gC]at a0 a3;replace hS1:=Lh hS1;replace hb1:=Lh hb1);go_quiet (fail);go_wp2_with fail;go_ret;exact⟨by rw[hD.out];rfl,(hS1.out.drewN nq).below⟩
 have c22:¬(i:Int)<(ns.length:Int):=by omega
 have hri:Hid (runD ns fs.length ns.length=some k):=by(have e:i=ns.length:=by omega);rw[←e];exact hr.out
 have hS':=Lh hS;clear hS;go_wp2_with fail;clear z0 z1;go_loopw[9] (fun iv wr=>∃j:Nat,j≤fs.length∧iv= .int .i64 j∧Hid (∀(t:Nat) (f:TF),t<j→fs[t]? =some f→modeOk f.mode=true)∧Sep w wr [.box w.heap.size 25 #[.slice A1 ns.length c1,.slice A2 fs.length c2]]) (fun iv _=>fs.length-(intOf iv).toNat)
 case atStart=>exact⟨0,Nat.zero_le _,rfl,fun t f ht=>absurd ht (Nat.not_lt_zero _),hS'.out⟩
 obtain⟨j,hj,rfl,hall,hS⟩:=hrel;have d0:(0:Int)≤(j:Int):=by omega
 have z0:=hS.bC 0 rfl 0;have z1:=hS.bC 0 rfl 1;simp only[gA,gB,gC]at z0 z1;by_cases hlt2:j<fs.length
 ·(have d2:(j:Int)<(fs.length:Int):=by omega);obtain⟨g,o,c,e,_,_,_,hcell⟩:=hfp'.out.place (by omega) (by decide);cases e;obtain⟨f,he⟩:∃f,fs[j]? =some f:=⟨_,gE hlt2⟩;obtain⟨u,hu⟩:∃u,vs[j]? =some u:=⟨_,gE (by rw[h'.out.len];exact hlt2)⟩;have x0:=(hcell _ hS.below (j*2+0) (by omega)).trans (tfCells_at he hu 0 (by omega));simp only[tfC,gB,gC,←Nat.add_assoc,Nat.add_zero]at x0;have he':=Lh he;have hS3':=Lh hS;clear hcell he hu hS;cases hmo:modeOk f.mode with
  |false=>have hD:Hid (formD ns fs=false):=Lh (by unfold formD;rw[Bool.and_eq_false_iff];right;rw[List.all_eq_false];exact⟨f,gG he'.out,by rw[hmo];decide⟩);have hmm:=refmode_any f.mode;rw[hmo]at hmm;go_wp2_with(go_at_call 139;refine(hmm _).mono ?_;rintro e w4 ⟨rfl,hw4⟩;have hw5:=hw4.symm;clear hw4;subst hw5);go_ret;exact⟨by rw[hD.out];rfl,hS3'.out.below⟩
  |true=>
   have hmm:=refmode_any f.mode;rw[hmo]at hmm;have hmo':=Lh hmo;clear hmo;go_wp2_with(go_at_call 139;refine(hmm _).mono ?_;rintro e w4 ⟨rfl,hw4⟩;have hw5:=hw4.symm;clear hw4;subst hw5);go_roundw
   case rel=>
    refine⟨j+1,by omega,by go_num,fun t m ht hm=>?_,hS3'.out⟩;by_cases htj:t=j
    ·subst htj;have e1:=hm.symm.trans he'.out;cases e1;exact hmo'.out
    exact hall.out t m (by omega) hm
   case measure=>(simp[intOf];omega)
 have d2:¬(j:Int)<(fs.length:Int):=by omega
 have hal:fs.all (fun f=>modeOk f.mode)=true:=by rw[List.all_eq_true];intro f hf;obtain⟨t,ht⟩:=List.mem_iff_getElem?.1 hf;exact hall.out t f (by have:=(gF.1 ht).1;omega) ht
 have hfin:Hid (formD ns fs=((k:Int)==(fs.length:Int))):=Lh (by unfold formD;rw[hri.out,hal,Bool.and_true,Bool.eq_iff_iff];simp;try omega);have hS3':=Lh hS;clear hS hal;go_wp2_with fail;go_ret;exact⟨by rw[hfin.out];rfl,hS3'.out.below⟩
theorem refloose_any {w:World} {nv fv:Value} {ns:List TN} {fs:List TF} {vs:List Value} (h:TreeAt w nv fv ns fs vs) (hm:TreeSm ns fs):
  Calls Tryz.prog 57 #[.agg #[nv,fv]] w fun e w'=>e= .returned (.int .i64 (if boundP ns fs=true then 31 else if formD ns fs=true then 0 else 30))∧Below w.heap.size w w':=by
 have hS0:=(Sep.nil w).bN 25 #[nv,fv];have hb:=fun(W:World) (hW:Below w.heap.size w W)=>refbig_any (h.below hW) hm
 have hf:=fun(W:World) (hW:Below w.heap.size w W)=>refform_any (h.below hW) hm
 obtain⟨A1,c1,rfl,hm1⟩:=h.nodes.shape;obtain⟨A2,c2,rfl,hm2⟩:=h.files.shape;have z0:=hS0.bC 0 rfl 0;have z1:=hS0.bC 0 rfl 1;simp only[gA,gB,gC]at z0 z1;have hS0':=Lh hS0;have hb':=Lh hb;have hf':=Lh hf;clear h hm hS0 hb hf;generalize boundP ns fs=bb at hb' ⊢;generalize formD ns fs=ff at hf' ⊢;cases bb with
 |true=>go_enter Tryz.func57,Tryz.ntmps57;go_wp2_with(go_at_call 91;refine(hb'.out _ hS0'.out.below).mono ?_;rintro e w1 ⟨rfl,hb1⟩;(have hS1:=hS0'.out.pure hb1);(have y0:=hS1.bC 0 rfl 0);(have y1:=hS1.bC 0 rfl 1);simp only[gA,gB,gC]at y0 y1;replace hS1:=Lh hS1;clear hb1);go_ret;exact⟨rfl,hS1.out.below⟩
 |false=>
  cases ff<;>
  ·go_enter Tryz.func57,Tryz.ntmps57;go_wp2_with(first |(go_at_call 91;refine(hb'.out _ hS0'.out.below).mono ?_;rintro e w1 ⟨rfl,hb1⟩;(have hS1:=hS0'.out.pure hb1);(have y0:=hS1.bC 0 rfl 0);(have y1:=hS1.bC 0 rfl 1);simp only[gA,gB,gC]at y0 y1;replace hS1:=Lh hS1;clear hb1)|(go_at_call 92;refine(hf'.out _ hS1.out.below).mono ?_;rintro e w2 ⟨rfl,hb2⟩;(have hS2:=hS1.out.pure hb2);replace hS2:=Lh hS2;clear hb2));go_ret;exact⟨rfl,hS2.out.below⟩
end Go.Proofs.YtimkjnbihlgbiaaGreat
