/- Parts. -/
import Derived.Test.YtmjomdkleikgbaaGreatK30
set_option linter.unusedVariables false
set_option linter.unusedSimpArgs false
set_option maxRecDepth 100000
set_option maxHeartbeats 20000000
namespace Go.Proofs.YtmjomdkleikgbaaGreat
open Go.RowKit
def JL (ns:List TN) (p:List UInt8):Int:=match ns.findIdx? (fun n=>n.path==p)with
 |some k=>(k:Int)
 |none=> -1
theorem asE {ns:List TN} {p:List UInt8} {k:Nat} {n:TN} (hn:ns[k]? =some n) (hp:n.path=p) (hno:∀(j:Nat) (m:TN),j<k->ns[j]? =some m->m.path≠p):JL ns p=k:=by
 obtain⟨hk,hk2⟩:=gF.1 hn;have:ns.findIdx? (fun n=>n.path==p)=some k:=by rw[abO];refine⟨hk,by rw[hk2,hp];simp,fun j hj=>?_⟩;have:=hno j ns[j] hj (gE aD);simpa using this
 unfold JL;rw[this]
theorem asG {ns:List TN} {p:List UInt8} (hno:∀(j:Nat) (m:TN),ns[j]? =some m->m.path≠p):JL ns p= -1:=by
 have:ns.findIdx? (fun n=>n.path==p)=none:=by rw[abX];intro m hm;obtain⟨j,hj⟩:=List.mem_iff_getElem?.1 hm;simpa using hno j m hj
 unfold JL;rw[this]
theorem aeI {w:World} {nv fv:Value} {ns:List TN} {fs:List TF} {vs:List Value} (h:gW w nv fv ns fs vs) (hf:ns.length<=300) (p:List UInt8):
  Calls Tryz.prog 90 #[.agg #[nv,fv],aC p] w fun e w'=>e= .returned (iV (JL ns p))/\Below w.heap.size w w':=by
 have hS0:=(Sep.nil w).bN 25 #[nv,fv];obtain⟨A1,c1,rfl,hm1⟩:=h.nodes.shape;have nU:=Lh hS0;have h':=Lh h;have b1:(ns.length:Int)<=300:=by omega
 have z0:=hS0.bC 0 rfl 0;simp only[gA,gB]at z0;obtain⟨R,hR⟩:∃R,R=JL ns p:=⟨_,rfl⟩;rw[<-hR];have hR':=Lh hR;unfold aC at*;clear h hS0 hR;go_enter Tryz.func90,Tryz.ntmps90;go_wp2_with fail;go_loopw[5] (fun iv wr=>∃i:Nat,i<=ns.length/\iv=iV i/\wr=w.alloc (.cells #[.slice A1 ns.length c1,fv] 25)/\Hid (∀(j:Nat) (m:TN),j<i->ns[j]? =some m->m.path≠p)) (fun iv _=>ns.length-(intOf iv).toNat)
 case atStart=>exact⟨0,fZ _,rfl,rfl,fun j m hj=>absurd hj (FO _)⟩
 obtain⟨i,hi,rfl,rfl,hno⟩:=hrel;have c0:(0:Int)<=(i:Int):=by omega
 by_cases hlt:i<ns.length
 ·(have c2:(i:Int)<(ns.length:Int):=by omega);obtain⟨g,o,c,e,_,_,_,hcell⟩:=h'.out.nodes.place aD aR;cases e;obtain⟨n,he⟩:∃n,ns[i]? =some n:=⟨_,gE hlt⟩;have x0:=(hcell _ nU.out.below (i*3) aD).trans (bL he 0 aD);simp only[F8,aC,gB]at x0;have he':=Lh he;clear hcell he;by_cases hp:n.path=p
  ·(have hp2:(n.path==p)=true:=by simpa using hp);have hp':=Lh hp;clear hp;go_wp2_with fail;go_ret;refine⟨?_,nU.out.below⟩;rw[hR'.out,asE he'.out hp'.out hno.out];rfl
  (have hp2:(n.path==p)=false:=by simpa using hp);have hp':=Lh hp;clear hp;go_wp2_with fail;go_roundw
  case rel=>
   refine⟨i+1,by omega,by go_num,by trivial,fun j m hj hm=>?_⟩;by_cases hji:j=i
   ·subst hji;have e1:=hm.symm.trans he'.out;cases e1;exact hp'.out
   exact hno.out j m aD hm
  case measure=>simp[intOf];omega
 have c2:¬(i:Int)<(ns.length:Int):=by omega
 go_wp2_with fail;go_ret;refine⟨?_,nU.out.below⟩;rw[hR'.out,asG fun j m hm=>hno.out j m (by have:=(gF.1 hm).1;omega) hm];rfl
theorem wT (m:Int) (w:World):Calls Tryz.prog 91 #[iV m] w fun e w'=>e= .returned (.bool (iB m))/\w'=w:=by
 unfold iB;go_enter Tryz.func91,Tryz.ntmps91;go_wp2_with fail;all_goals go_ret
 all_goals refine⟨?_,rfl⟩
 all_goals(first |rfl|(congr 2;simp;done)|(congr 2;simp;omega)|(congr 1;show Value.bool _=Value.bool _;congr 1;simp_all;done)|(congr 1;show Value.bool _=Value.bool _;congr 1;rw[Bool.eq_iff_iff];simp;omega))
def zY (B I:Int):Value:=.agg #[iV B,iV I]
theorem U6 {w:World} {b:Nat} {x y:Value} (h0:w.cell? ⟨b,0,none⟩=some x) (h1:w.cell? ⟨b,1,none⟩=some y):(loadVar 33 ⟨b,0,none⟩).run Tryz.prog w= .ok (.agg #[x,y]) w:=by simp[loadVar,go_sem,h0,h1]
theorem FI {fn:Func} {p:Tmp} (h:fn.results=#[.cell p 33]) {tmps:Array Value} {w:World} {b:Nat} {x y:Value} (hp:tmps.getD p undef=pV b) (h0:w.cell? ⟨b,0,none⟩=some x) (h1:w.cell? ⟨b,1,none⟩=some y):
  (results fn tmps).run Tryz.prog w= .ok (.agg #[x,y]) w:=by
 have hp2:tmps[p]?.getD undef=pV b:=by simpa using hp
 simp only[results,h];simp[hp2,asAddr,U6 h0 h1]
def zC (k:Nat):Int:=if k=0 then 1 else((k:Int)+15)/16
theorem anX (k:Nat):zC k=asD k:=by unfold zC asD;split<;>omega
theorem Z13 {P:Prop} (h:P:=by have y0:=dQ.bC 0 rfl 0;have y1:=dQ.bC 0 rfl 1;refine bodyPost_ret (FI rfl rfl y0 y1) rfl ?_;exact⟨rfl,dQ.below⟩):P:=h
theorem SG {k:Nat} (hk:k<=1000) (w:World):Calls Tryz.prog 33 #[iV k] w fun e w'=>e= .returned (zY (zC k) 1)/\Below w.heap.size w w':=by
 have hS0:=(Sep.nil w).bN 33 #[iV 0,iV 0];have c0:=hS0.bC 0 rfl 0;have c1:=hS0.bC 0 rfl 1;have z0:=hS0.bF 0 rfl 0;have z1:=hS0.bF 0 rfl 1;simp only[gA,gB,gC]at c0 c1;have nU:=Lh hS0;clear hS0;have q0:(0:Int)<=(k:Int):=by omega
 have q1:(k:Int)<=1000:=by omega
 unfold zC zY;by_cases h0:k=0
 ·subst h0;rw[if_pos rfl];go_enter Tryz.func33,Tryz.ntmps33;go_wp2_with fail;have dQ:=(Sep.nil w).bN 33 #[iV 1,iV 1];exact Z13
 rw[if_neg h0];have b0:((k:Int)==0)=false:=by rw[jU];omega
 have e0:Int.tdiv ((k:Int)+15) 16=((k:Int)+15)/16:=abK aD;go_enter Tryz.func33,Tryz.ntmps33;go_wp2_with fail;have dQ:=(Sep.nil w).bN 33 #[iV (((k:Int)+15)/16),iV 1];exact Z13
theorem aeJ {n:Nat} (hn:n<=1048576) (w:World):Calls Tryz.prog 36 #[iV n] w fun e w'=>e= .returned (zY (vK n) 1)/\Below w.heap.size w w':=by
 have hS0:=(Sep.nil w).bN 33 #[iV 0,iV 0];have c0:=hS0.bC 0 rfl 0;have c1:=hS0.bC 0 rfl 1;have z0:=hS0.bF 0 rfl 0;have z1:=hS0.bF 0 rfl 1;simp only[gA,gB,gC]at c0 c1;have nU:=Lh hS0;clear hS0;have e0:Int.tdiv ((n:Int)+511) 512=((n:Int)+511)/512:=abK aD;have hf:vK n=if 8<((n:Int)+511)/512 then((n:Int)+511)/512+1 else((n:Int)+511)/512:=by unfold vK;(have e1:((n:Int)+512-1)=(n:Int)+511:=by omega);first |rfl|(rw[e1])
 have q0:(0:Int)<=(n:Int):=by omega
 have q1:(n:Int)<=1048576:=by omega
 have q2:0<=((n:Int)+511)/512/\((n:Int)+511)/512<=2049:=by omega
 rw[hf];obtain⟨b,hb⟩:∃b,((n:Int)+511)/512=b:=⟨_,rfl⟩;rw[hb]at e0 q2 ⊢;obtain⟨q3,q4⟩:=q2;clear hb hf;unfold zY;by_cases h8:8<b
 ·rw[if_pos h8];go_enter Tryz.func36,Tryz.ntmps36;go_wp2_with fail;have dQ:=(Sep.nil w).bN 33 #[iV (b+1),iV 1];exact Z13
 rw[if_neg h8];go_enter Tryz.func36,Tryz.ntmps36;go_wp2_with fail;have dQ:=(Sep.nil w).bN 33 #[iV b,iV 1];exact Z13
theorem asH (w:World) (B I C J:Int):Hid (∃hS:Sep w (((w.alloc (.cells #[iV B,iV I] 33)).alloc (.cells #[iV C,iV J] 33)).alloc (.cells #[iV 0,iV 0] 33)) [.box (w.heap.size+1+1) 33 #[iV 0,iV 0],.box (w.heap.size+1) 33 #[iV C,iV J],.box w.heap.size 33 #[iV B,iV I]],True):=by refine Lh ⟨?_,trivial⟩;have h:=(((Sep.nil w).bN 33 #[iV B,iV I]).bN 33 #[iV C,iV J]).bN 33 #[iV 0,iV 0];simp only[World.size_alloc]at h;exact h
theorem XJ {B I C J:Int} (h1: -1000000<=B/\B<=1000000) (h2: -1000000<=I/\I<=1000000) (h3: -1000000<=C/\C<=1000000) (h4: -1000000<=J/\J<=1000000) (w:World):
  Calls Tryz.prog 35 #[zY B I,zY C J] w fun e w'=>e= .returned (zY (B+C) (I+J))/\Below w.heap.size w w':=by
 obtain⟨hS0,_⟩:=(asH w B I C J).out;have c0:=hS0.bC 0 rfl 0;have c1:=hS0.bC 0 rfl 1;have c2:=hS0.bC 1 rfl 0;have c3:=hS0.bC 1 rfl 1;have c4:=hS0.bC 2 rfl 0;have c5:=hS0.bC 2 rfl 1;have z0:=hS0.bF 0 rfl 0;have z1:=hS0.bF 0 rfl 1;simp only[gA,gB,gC]at c0 c1 c2 c3 c4 c5;have nU:=Lh hS0;clear hS0;obtain⟨a1,a2⟩:=h1;obtain⟨a3,a4⟩:=h2;obtain⟨a5,a6⟩:=h3;obtain⟨a7,a8⟩:=h4;unfold zY;go_enter Tryz.func35,Tryz.ntmps35;go_wp2_with fail;have dQ:=(((Sep.nil w).bN 33 #[iV B,iV I]).bN 33 #[iV C,iV J]).bN 33 #[iV (B+C),iV (I+J)];simp only[World.size_alloc]at dQ;exact Z13
theorem aiB {w:World} {nv fv:Value} {ns:List TN} {fs:List TF} {vs:List Value} (h:gW w nv fv ns fs vs) (hm:zB ns fs):
  Calls Tryz.prog 31 #[.agg #[nv,fv]] w fun e w'=>e= .returned (.bool (lY ns fs))/\Below w.heap.size w w':=by
 have hS0:=(Sep.nil w).bN 25 #[nv,fv];obtain⟨A1,c1,rfl,hm1⟩:=h.nodes.shape;have hfp:=h.files;obtain⟨A2,c2,rfl,hm2⟩:=h.files.shape;have z0:=hS0.bC 0 rfl 0;have z1:=hS0.bC 0 rfl 1;simp only[gA,gB,gC]at z0 z1;have nU:=Lh hS0;have h':=Lh h;have hs':=Lh hm.size;have hf:=hm.few;have hf2:=hm.CK;have EN:=Lh hfp;clear h hm hS0 hfp;unfold lY;by_cases g1:256<ns.length
 ·(have b1:(256:Int)<(ns.length:Int):=by omega);rw[decide_eq_true g1,O6,O6];go_enter Tryz.func31,Tryz.ntmps31;go_wp2_with fail;go_ret;exact⟨rfl,nU.out.below⟩
 have b1:¬(256:Int)<(ns.length:Int):=by omega
 by_cases g2:256<fs.length
 ·(have b2:(256:Int)<(fs.length:Int):=by omega);rw[decide_eq_true g2,Bool.or_true,O6];go_enter Tryz.func31,Tryz.ntmps31;go_wp2_with fail;go_ret;exact⟨rfl,nU.out.below⟩
 have b2:¬(256:Int)<(fs.length:Int):=by omega
 rw[decide_eq_false g1,decide_eq_false g2,AX,AX];go_enter Tryz.func31,Tryz.ntmps31;go_wp2_with fail;go_loopw[3] (fun iv wr=>∃i:Nat,i<=fs.length/\iv=iV i/\wr=w.alloc (.cells #[.slice A1 ns.length c1,.slice A2 fs.length c2] 25)/\Hid (∀(j:Nat) (m:TF),j<i->fs[j]? =some m->K9 m=false)) (fun iv _=>fs.length-(intOf iv).toNat)
 case atStart=>exact⟨0,fZ _,rfl,rfl,fun j m hj=>absurd hj (FO _)⟩
 obtain⟨i,hi,rfl,rfl,hno⟩:=hrel;have c0:(0:Int)<=(i:Int):=by omega
 by_cases hlt:i<fs.length
 ·(have c2:(i:Int)<(fs.length:Int):=by omega);obtain⟨g,o,c,e,_,_,_,hcell⟩:=EN.out.place aD aR;cases e;obtain⟨f,he⟩:∃f,fs[i]? =some f:=⟨_,gE hlt⟩;obtain⟨u,hu⟩:∃u,vs[i]? =some u:=⟨_,gE (by rw[h'.out.len];exact hlt)⟩;obtain⟨A,c9,rfl,_⟩:=(h'.out.data i u f hu he).shape;have c1:=(hcell _ nU.out.below (i*2+1) aD).trans (eD he hu 1 aD);simp only[tfC,gB,gC,<-sD]at c1;have hsz:=hs'.out f (gG he);have he':=Lh he;clear hcell he hu;by_cases hp:8192<f.size
  ·(have hp2:(8192:Int)<(f.size:Int):=by omega);have hp':=Lh hp;clear hp;go_wp2_with fail;go_ret;refine⟨?_,nU.out.below⟩;rw[List.any_eq_true.2 ⟨f,gG he'.out,by unfold K9;simpa using hp'.out⟩];rfl
  (have hp2:¬(8192:Int)<(f.size:Int):=by omega);have hp':=Lh hp;clear hp;go_wp2_with fail;go_roundw
  case rel=>
   refine⟨i+1,by omega,by go_num,by trivial,fun j m hj hm=>?_⟩;by_cases hji:j=i
   ·subst hji;have e1:=hm.symm.trans he'.out;cases e1;unfold K9;simpa using hp'.out
   exact hno.out j m aD hm
  case measure=>simp[intOf];omega
 have c2:¬(i:Int)<(fs.length:Int):=by omega
 go_wp2_with fail;go_ret;refine⟨?_,nU.out.below⟩;have hall:fs.any K9=false:=by rw[aj5];intro f hf;obtain⟨j,hj⟩:=List.mem_iff_getElem?.1 hf;rw[hno.out j f (by have:=(gF.1 hj).1;omega) hj];simp
 rw[hall];rfl
def LA (ns:List TN) (up:List UInt8):Bool:=decide (up=[])||(match JK ns up with
 |none=>false
 |some m=>decide (m.file= -1))
def tH (ns:List TN) (fl i k:Nat) (n:TN):Bool:=
 ((aV n.path&&(decide (i=0)||Op.bytesLess (iH ns i) n.path))&&LA ns (aZ n.path))&&(if n.file= -1 then iB n.mode else((decide (n.mode=0)&&decide (0<=n.file))&&decide (n.file<=(k:Int)))&&decide (n.file<(fl:Int)))
def nQ (ns:List TN) (fl:Nat):Nat->Option Nat
 |0=>some 0
 |i+1=>match nQ ns fl i with
  |none=>none
  |some k=>match ns[i]? with
   |none=>some k
   |some n=>if tH ns fl i k n=true then some (gU k n)else none
theorem Z29 {P:Prop} (h:P:=by
 rw[hr]at h;simp only at h;cases hn:ns[i]? with
 |none=>rw[hn]at h;cases h;omega
 |some n=>
  rw[hn]at h;simp only at h;split at h
  ·cases h;unfold gU;split<;>omega
  cases h):P:=h
theorem aw9 {ns:List TN} {fl:Nat}:∀ {i k:Nat},nQ ns fl i=some k->k<=i:=by
 intro i
 induction i with
 |zero=>intro k h;cases h;exact iC _
 |succ i ih=>
  intro k h;change (match nQ ns fl i with
   |none=>none
   |some k=>match ns[i]? with
    |none=>some k
    |some n=>if tH ns fl i k n=true then some (gU k n)else none)=some k at h
  cases hr:nQ ns fl i with
  |none=>rw[hr]at h;cases h
  |some k0=>have:=ih hr;exact Z29
def o8 (ns:List TN) (fs:List TF):Bool:=decide (nQ ns fs.length ns.length=some fs.length)&&fs.all (fun f=>iB f.mode)
theorem yD {ns:List TN} {fl i k:Nat} {n:TN} (h:nQ ns fl i=some k) (hn:ns[i]? =some n):nQ ns fl (i+1)=if tH ns fl i k n=true then some (gU k n)else none:=by
 show(match nQ ns fl i with
  |none=>none
  |some k=>match ns[i]? with
   |none=>some k
   |some n=>if tH ns fl i k n=true then some (gU k n)else none)=_
 rw[h];simp only;rw[hn]
theorem XK {ns:List TN} {fl i:Nat} (h:nQ ns fl i=none):∀j,nQ ns fl (i+j)=none:=by
 intro j
 induction j with
 |zero=>exact h
 |succ j ih=>
  show(match nQ ns fl (i+j)with
   |none=>none
   |some k=>match ns[i+j]? with
    |none=>some k
    |some n=>if tH ns fl (i+j) k n=true then some (gU k n)else none)=none
  rw[ih]
theorem form_false {ns:List TN} {fs:List TF} {i k:Nat} {n:TN} (h:nQ ns fs.length i=some k) (hn:ns[i]? =some n) (ho:tH ns fs.length i k n=false):o8 ns fs=false:=by have h1:=yD h hn;rw[ho,if_neg aR]at h1;have hi:=(gF.1 hn).1;have h2:=XK h1 (ns.length-(i+1));rw[show i+1+(ns.length-(i+1))=ns.length by omega]at h2;unfold o8;rw[h2];simp
theorem SH (ns:List TN) (p:List UInt8):(JK ns p=none/\JL ns p= -1)\/∃(k:Nat) (m:TN),JK ns p=some m/\ns[k]? =some m/\JL ns p=k/\m.path=p:=by
 unfold JK JL;cases h:ns.findIdx? (fun n=>n.path==p)with
 |none=>left;refine⟨?_,rfl⟩;rw[wV];intro m hm;have:=abX.1 h m hm;simp[this]
 |some k=>right;obtain⟨hk,h1,h2⟩:=abO.1 h;refine⟨k,ns[k],?_,gE hk,rfl,by simpa using h1⟩;rw[List.find?_eq_some_iff_getElem];refine⟨h1,k,hk,rfl,fun j hj=>?_⟩;have:=h2 j hj;simpa using this
def aeK (fl k:Nat) (n:TN):Prop:=(n.file= -1/\iB n.mode=true)\/(¬n.file= -1/\n.mode=0/\0<=n.file/\n.file<=(k:Int)/\n.file<(fl:Int))
theorem qK {ns:List TN} {fl i k:Nat} {n:TN}:tH ns fl i k n=true↔((aV n.path=true/\(i=0\/Op.bytesLess (iH ns i) n.path=true))/\LA ns (aZ n.path)=true)/\aeK fl k n:=by
 unfold tH aeK;by_cases h:n.file= -1
 ·simp[h]
 simp[h,and_assoc]
theorem aeL {ns:List TN} {fl i k:Nat} {n:TN} (h:¬aeK fl k n):tH ns fl i k n=false:=by
 cases h2:tH ns fl i k n with
 |false=>rfl
 |true=>exact absurd (qK.1 h2).2 h
theorem GA {ns:List TN} {i:Nat} {m:TN} (h:ns[i]? =some m):iH ns (i+1)=m.path:=by
 show((ns[i]?).map (·.path)).getD []=_
 rw[h];rfl
theorem Z2 {P:Prop} (h:P:=by
 go_quiet (fail);have CL:=hS1.out.drewN nq;clear hS1 hb1;generalize w1.drewN nq=wq at CL ⊢;(have d0:=CL.bC 0 rfl 0);(have d1:=CL.bC 0 rfl 1);(have d2:=CL.bC 0 rfl 2);(have e0:=CL.bC 1 rfl 0);(have e1:=CL.bC 1 rfl 1);simp only[gA,gB,gC]at d0 d1 d2 e0 e1;have aiC:=Lh CL;clear CL;go_wp2_with(first |(go_at_call 89;refine(GD.out _).mono ?_;rintro e w2 ⟨rfl,hb2⟩;(have hS2:=aiC.out.pure hb2);(have f0:=hS2.bC 0 rfl 0);(have f1:=hS2.bC 0 rfl 1);(have f2:=hS2.bC 0 rfl 2);(have g0:=hS2.bC 1 rfl 0);(have g1:=hS2.bC 1 rfl 1);simp only[gA,gB,gC]at f0 f1 f2 g0 g1;replace hS2:=Lh hS2;clear hb2)|(go_at_call 90;refine(asI.out _ hS2.out.below _).mono ?_;rintro e w3 ⟨rfl,hb3⟩;rw[anY.out];(have dQ:=hS2.out.pure hb3);(have k0:=dQ.bC 0 rfl 0);(have k1:=dQ.bC 0 rfl 1);(have k2:=dQ.bC 0 rfl 2);(have l0:=dQ.bC 1 rfl 0);(have l1:=dQ.bC 1 rfl 1);simp only[gA,gB,gC]at k0 k1 k2 l0 l1;(have y1:=hy'.out _ dQ.below 1 aD);simp only[F8,aC,gB,gC,<-sD]at y1;replace dQ:=Lh dQ;clear hb3)|(go_at_call 91;refine(wT _ _).mono ?_;rintro e w4 ⟨rfl,hw4⟩;have hw5:=hw4.symm;clear hw4;subst hw5));all_goals first
  |(go_ret
    have SI:¬aeK fs.length k n:=by(try simp only[tL,jU,ne_eq,LX,aj2,gt_iff_lt]at*);rintro(⟨h1,h2⟩|⟨h1,h2,h3,h4,h5⟩)<;>first |omega|(simp_all;done)
    exact⟨by rw[(JM.out (aeL SI)).out];rfl,dQ.out.below⟩)
  |(have SI:aeK fs.length k n:=by
     try simp only[tL,jU,ne_eq,LX,aj2,gt_iff_lt]at*
     first
      |(right;refine⟨?_,?_,?_,?_,?_⟩<;>omega)
      |(left;refine⟨by omega,?_⟩;assumption)
    have hst:=hgo'.out asJ.out axA.out (by rw[asK.out];exact aeM.out) SI
    first
     |(have hq:gU k n=k:=(by unfold gU;rw[if_neg (by(try simp only[tL,jU,ne_eq]at*);omega)])
       go_roundw
       case rel=>exact⟨i+1,k,by omega,by go_num,by trivial,(by rw[hq]at hst;exact hst),Sep.drop 1 dQ.out⟩
       case measure=>(simp[intOf];omega))
     |(have hq:gU k n=k+1:=(by unfold gU;rw[if_pos (by(try simp only[tL,jU,ne_eq]at*);omega)])
       go_roundw
       case rel=>exact⟨i+1,k+1,by omega,by go_num,by go_num,(by rw[hq]at hst;exact hst),Sep.drop 1 dQ.out⟩
       case measure=>(simp[intOf];omega)))):P:=h
theorem Z58 {P:Prop} (h:P:=by
 go_quiet (fail);have CL:=hS1.out.drewN nq;clear hS1 hb1;generalize w1.drewN nq=wq at CL ⊢;(have d0:=CL.bC 0 rfl 0);(have d1:=CL.bC 0 rfl 1);(have d2:=CL.bC 0 rfl 2);(have e0:=CL.bC 1 rfl 0);(have e1:=CL.bC 1 rfl 1);simp only[gA,gB,gC]at d0 d1 d2 e0 e1;have aiC:=Lh CL;clear CL;go_wp2_with(first |(go_at_call 89;refine(GD.out _).mono ?_;rintro e w2 ⟨rfl,hb2⟩;(have hS2:=aiC.out.pure hb2);(have f0:=hS2.bC 0 rfl 0);(have f1:=hS2.bC 0 rfl 1);(have f2:=hS2.bC 0 rfl 2);(have g0:=hS2.bC 1 rfl 0);(have g1:=hS2.bC 1 rfl 1);simp only[gA,gB,gC]at f0 f1 f2 g0 g1;replace hS2:=Lh hS2;clear hb2)|(go_at_call 91;refine(wT _ _).mono ?_;rintro e w4 ⟨rfl,hw4⟩;have hw5:=hw4.symm;clear hw4;subst hw5));all_goals first
  |(go_ret
    have SI:¬aeK fs.length k n:=by(try simp only[tL,jU,ne_eq,LX,aj2,gt_iff_lt]at*);rintro(⟨h1,h2⟩|⟨h1,h2,h3,h4,h5⟩)<;>first |omega|(simp_all;done)
    exact⟨by rw[(JM.out (aeL SI)).out];rfl,hS2.out.below⟩)
  |(have SI:aeK fs.length k n:=by
     try simp only[tL,jU,ne_eq,LX,aj2,gt_iff_lt]at*
     first
      |(right;refine⟨?_,?_,?_,?_,?_⟩<;>omega)
      |(left;refine⟨by omega,?_⟩;assumption)
    have hst:=hgo'.out asJ.out axA.out (by rw[asK.out];exact aeM.out) SI
    first
     |(have hq:gU k n=k:=(by unfold gU;rw[if_neg (by(try simp only[tL,jU,ne_eq]at*);omega)])
       go_roundw
       case rel=>exact⟨i+1,k,by omega,by go_num,by trivial,(by rw[hq]at hst;exact hst),Sep.drop 1 hS2.out⟩
       case measure=>(simp[intOf];omega))
     |(have hq:gU k n=k+1:=(by unfold gU;rw[if_pos (by(try simp only[tL,jU,ne_eq]at*);omega)])
       go_roundw
       case rel=>exact⟨i+1,k+1,by omega,by go_num,by go_num,(by rw[hq]at hst;exact hst),Sep.drop 1 hS2.out⟩
       case measure=>(simp[intOf];omega)))):P:=h
theorem Z76 {P:Prop} (h:P:=by go_quiet (fail);have CL:=hS1.out.drewN nq;clear hS1 hb1;generalize w1.drewN nq=wq at CL ⊢;(have d0:=CL.bC 0 rfl 0);(have d1:=CL.bC 0 rfl 1);(have d2:=CL.bC 0 rfl 2);(have e0:=CL.bC 1 rfl 0);(have e1:=CL.bC 1 rfl 1);simp only[gA,gB,gC]at d0 d1 d2 e0 e1;have aiC:=Lh CL;clear CL;go_wp2_with(first |(go_at_call 89;refine(GD.out _).mono ?_;rintro e w2 ⟨rfl,hb2⟩;(have hS2:=aiC.out.pure hb2);(have f0:=hS2.bC 0 rfl 0);(have f1:=hS2.bC 0 rfl 1);(have f2:=hS2.bC 0 rfl 2);(have g0:=hS2.bC 1 rfl 0);(have g1:=hS2.bC 1 rfl 1);simp only[gA,gB,gC]at f0 f1 f2 g0 g1;replace hS2:=Lh hS2;clear hb2)|(go_at_call 90;refine(asI.out _ hS2.out.below _).mono ?_;rintro e w3 ⟨rfl,hb3⟩;rw[anY.out];(have dQ:=hS2.out.pure hb3);(have k0:=dQ.bC 0 rfl 0);(have k1:=dQ.bC 0 rfl 1);(have k2:=dQ.bC 0 rfl 2);(have l0:=dQ.bC 1 rfl 0);(have l1:=dQ.bC 1 rfl 1);simp only[gA,gB,gC]at k0 k1 k2 l0 l1;(have y1:=hy'.out _ dQ.below 1 aD);simp only[F8,aC,gB,gC,<-sD]at y1;replace dQ:=Lh dQ;clear hb3));go_ret;exact⟨by rw[hD.out];rfl,dQ.out.below⟩):P:=h
theorem Z87 {P:Prop} (h:P:=by go_quiet (fail);have CL:=hS1.out.drewN nq;clear hS1 hb1;generalize w1.drewN nq=wq at CL ⊢;(have d0:=CL.bC 0 rfl 0);(have d1:=CL.bC 0 rfl 1);(have d2:=CL.bC 0 rfl 2);(have e0:=CL.bC 1 rfl 0);(have e1:=CL.bC 1 rfl 1);simp only[gA,gB,gC]at d0 d1 d2 e0 e1;have aiC:=Lh CL;clear CL;go_wp2_with(first |(go_at_call 89;refine(GD.out _).mono ?_;rintro e w2 ⟨rfl,hb2⟩;(have hS2:=aiC.out.pure hb2);(have f0:=hS2.bC 0 rfl 0);(have f1:=hS2.bC 0 rfl 1);(have f2:=hS2.bC 0 rfl 2);(have g0:=hS2.bC 1 rfl 0);(have g1:=hS2.bC 1 rfl 1);simp only[gA,gB,gC]at f0 f1 f2 g0 g1;replace hS2:=Lh hS2;clear hb2)|(go_at_call 90;refine(asI.out _ hS2.out.below _).mono ?_;rintro e w3 ⟨rfl,hb3⟩;rw[anY.out];(have dQ:=hS2.out.pure hb3);(have k0:=dQ.bC 0 rfl 0);(have k1:=dQ.bC 0 rfl 1);(have k2:=dQ.bC 0 rfl 2);(have l0:=dQ.bC 1 rfl 0);(have l1:=dQ.bC 1 rfl 1);simp only[gA,gB,gC]at k0 k1 k2 l0 l1;replace dQ:=Lh dQ;clear hb3));go_ret;exact⟨by rw[hD.out];rfl,dQ.out.below⟩):P:=h
theorem Z94 {P:Prop} (h:P:=by
 cases h2:tH ns fs.length i k n with
 |false=>rfl
 |true=>have:=(qK.1 h2).1.2;rw[hup]at this;unfold LA at this;rw[hf1]at this;simp[hu0,hmd]at this):P:=h
theorem Z96 {P:Prop} (h:P:=by
 cases h2:tH ns fs.length i k n with
 |false=>rfl
 |true=>have:=(qK.1 h2).1.2;rw[hup]at this;unfold LA at this;rw[hf1]at this;simp[hu0]at this):P:=h
theorem aeN {w:World} {nv fv:Value} {ns:List TN} {fs:List TF} {vs:List Value} (h:gW w nv fv ns fs vs) (hm:zB ns fs):
  Calls Tryz.prog 32 #[.agg #[nv,fv]] w fun e w'=>e= .returned (.bool (o8 ns fs))/\Below w.heap.size w w':=by
 have hS0:=(Sep.nil w).bN 25 #[nv,fv];have hnp:=h.nodes;obtain⟨A1,c1,rfl,hm1⟩:=h.nodes.shape;have hfp:=h.files;obtain⟨A2,c2,rfl,hm2⟩:=h.files.shape;have nU:=Lh hS0;have h':=Lh h;have hsh':=Lh hm.short;have hf:=hm.few;have hf2:=hm.CK;have U7:=Lh hnp;have EN:=Lh hfp;have hval:=fun(n:TN) (hn:n∈ns) (W:World)=>JJ ⟨n.path.toArray⟩ W (by rw[iN];have:=hm.short n hn;omega)
 have asL:=fun(n:TN) (hn:n∈ns) (W:World)=>FH (p:=n.path) W (by have:=hm.short n hn;omega)
 have aFK:=fun(W:World) (hW:Below w.heap.size w W) (p:List UInt8)=>aeI (h.below hW) hm.few p
 have hval':=Lh hval;have ak6:=Lh asL;have asI:=Lh aFK;clear h hm hnp hfp hval asL aFK;have z0:=hS0.bC 0 rfl 0;have z1:=hS0.bC 0 rfl 1;simp only[gA,gB,gC]at z0 z1;clear hS0;have b1:(ns.length:Int)<=300:=by omega
 have b2:(fs.length:Int)<=300:=by omega
 go_enter Tryz.func32,Tryz.ntmps32;go_wp2_with fail;clear z0 z1;go_loopw[4,3] (fun iv kv wr=>∃i k:Nat,i<=ns.length/\iv=iV i/\kv=iV k/\Hid (nQ ns fs.length i=some k)/\Sep w wr [.box w.heap.size 25 #[.slice A1 ns.length c1,.slice A2 fs.length c2]]) (fun iv _ _=>ns.length-(intOf iv).toNat)
 case atStart=>exact⟨0,0,fZ _,rfl,rfl,rfl,nU.out⟩
 obtain⟨i,k,hi,rfl,rfl,hr,hS⟩:=hrel;have hki:=aw9 hr.out;have c0:(0:Int)<=(i:Int):=by omega
 have cK:(k:Int)<=300:=by omega
 have aR7:=Lh hki;clear hki;have z0:=hS.bC 0 rfl 0;have z1:=hS.bC 0 rfl 1;simp only[gA,gB,gC]at z0 z1;by_cases hlt:i<ns.length
 ·(have c2:(i:Int)<(ns.length:Int):=by omega);obtain⟨g,o,c,e,_,_,_,hcell⟩:=U7.out.place aD aR;cases e;obtain⟨n,he⟩:∃n,ns[i]? =some n:=⟨_,gE hlt⟩;(have hx:=fun(W:World) (hW:Below w.heap.size w W) (j:Nat) (hj:j<3)=>(hcell _ hW (i*3+j) aD).trans (bL he j aD));have x0:=hx _ hS.below 0 aD;have x1:=hx _ hS.below 1 aD;have x2:=hx _ hS.below 2 aD;simp only[F8,aC,gB,gC,<-sD,sF]at x0 x1 x2;have hb:=hS.bN 68 #[.string ⟨n.path.toArray⟩,iV n.file,iV n.mode];have hb':=Lh hb;have he':=Lh he;have hx':=Lh hx;have hmem:=gG he;have hva:=hval'.out n hmem;have wZ:=Lh hva;have hcell':=Lh hcell;clear hva hx hb hcell;(have hbad:tH ns fs.length i k n=false->Hid (o8 ns fs=false):=fun h=>form_false hr.out he h);have JM:=Lh hbad;(have hgo:(i=0\/Op.bytesLess (iH ns i) n.path=true)->aV n.path=true->LA ns (aZ n.path)=true->aeK fs.length k n->Hid (nQ ns fs.length (i+1)=some (gU k n)):=fun h1 h2 h3 h4=>by have h5:=yD hr.out he;rw[if_pos (qK.2 ⟨⟨⟨h2,h1⟩,h3⟩,h4⟩)]at h5;exact h5);have hgo':=Lh hgo;clear hbad he hgo;cases hvl:aV n.path with
  |false=>have hD:Hid (o8 ns fs=false):=JM.out (by unfold tH;rw[hvl];rfl);rw[hvl]at wZ;clear hS hvl JM hmem;go_wp2_with(go_at_call 88;refine(wZ.out _).mono ?_;rintro e w1 ⟨rfl,hb1⟩;replace hb1:=Lh hb1);go_quiet (fail);go_wp2_with fail;go_ret;exact⟨by rw[hD.out];rfl,(((hb'.out.pure hb1.out)).drewN nq).below⟩
  |true=>
   have axA:=Lh hvl;rw[hvl]at wZ;rcases yL i with hi0|hi0
   ·(have c9:¬(0:Int)<(i:Int):=by omega);(have c10:¬0<i:=by omega);have asJ:Hid (i=0\/Op.bytesLess (iH ns i) n.path=true):=Or.inl hi0;clear hvl hi0;have KP:=ak6.out n hmem;obtain⟨up,hup⟩:∃up,aZ n.path=up:=⟨_,rfl⟩;rw[hup]at KP;have GD:=Lh KP;clear KP;by_cases hu0:up=[]
    ·subst hu0;have aeM:Hid (LA ns []=true):=rfl;have asK:=Lh hup;clear hup hmem hS;unfold aC at*;go_wp2_with(go_at_call 88;refine(wZ.out _).mono ?_;rintro e w1 ⟨rfl,hb1⟩;(have hS1:=hb'.out.pure hb1);replace hS1:=Lh hS1;replace hb1:=Lh hb1);exact Z58
    (have bU:(up.isEmpty)=false:=by cases up with|nil=>exact absurd rfl hu0|cons a l=>rfl);rcases SH ns up with⟨hf1,hf9⟩|⟨kk,m,hf1,BZ,hf9,hf7⟩
    ·have hD:Hid (o8 ns fs=false):=JM.out (by exact Z96);have anY:=Lh hf9;have aK0:=Lh hu0;clear hup hmem hS hf1 hf9 hu0;unfold aC at*;go_wp2_with(go_at_call 88;refine(wZ.out _).mono ?_;rintro e w1 ⟨rfl,hb1⟩;(have hS1:=hb'.out.pure hb1);replace hS1:=Lh hS1;replace hb1:=Lh hb1);exact Z87
    have anY:=Lh hf9;(have hy:=fun(W:World) (hW:Below w.heap.size w W) (j:Nat) (hj:j<3)=>(hcell'.out _ hW (kk*3+j) (by have:=(gF.1 BZ).1;omega)).trans (bL BZ j aD));(have yk:(kk:Int)<(ns.length:Int):=by have:=(gF.1 BZ).1;omega);(have yk0:(0:Int)<=(kk:Int):=by omega);have hy':=Lh hy;clear hy;by_cases hmd:m.file= -1
    ·(have hmb:(m.file != -1)=false:=by rw[hmd];rfl);have asK:=Lh hup;have aeM:Hid (LA ns up=true):=Lh (by unfold LA;rw[hf1];simp[hmd]);have aaW:=Lh hmd;clear hup hmem hS hf1 hf9 BZ hf7 hu0 hmd;unfold aC at*;go_wp2_with(go_at_call 88;refine(wZ.out _).mono ?_;rintro e w1 ⟨rfl,hb1⟩;(have hS1:=hb'.out.pure hb1);replace hS1:=Lh hS1;replace hb1:=Lh hb1);exact Z2
    (have hmb:(m.file != -1)=true:=by simpa using hmd);have hD:Hid (o8 ns fs=false):=JM.out (by exact Z94);clear hup hmem hS hf1 hf9 BZ hf7 hu0 hmd;unfold aC at*;go_wp2_with(go_at_call 88;refine(wZ.out _).mono ?_;rintro e w1 ⟨rfl,hb1⟩;(have hS1:=hb'.out.pure hb1);replace hS1:=Lh hS1;replace hb1:=Lh hb1);exact Z76
   (have c9:(0:Int)<(i:Int):=by omega);(have c11:(0:Int)<=(i:Int)-1:=by omega);(have c12:(i:Int)-1<(ns.length:Int):=by omega);(have c13:((i:Int)-1).toNat=i-1:=by omega);obtain⟨pm,hpm⟩:∃pm,ns[i-1]? =some pm:=⟨_,gE aD⟩;(have hlq:iH ns i=pm.path:=by have h:=GA hpm;rw[show i-1+1=i by omega]at h;exact h);(have p0:=fun(W:World) (hW:Below w.heap.size w W)=>(hcell'.out _ hW ((i-1)*3+0) aD).trans (bL hpm 0 aD));simp only[F8,aC,gB,gC,<-sD,sF]at p0;have p0':=Lh p0;have aFN:=Lh hlq;clear p0 hlq hpm;cases hls:Op.bytesLess pm.path n.path with
   |true=>
    have asJ:Hid (i=0\/Op.bytesLess (iH ns i) n.path=true):=Or.inr (by rw[aFN.out];exact hls);clear hvl;have KP:=ak6.out n hmem;obtain⟨up,hup⟩:∃up,aZ n.path=up:=⟨_,rfl⟩;rw[hup]at KP;have GD:=Lh KP;clear KP;by_cases hu0:up=[]
    ·subst hu0;have aeM:Hid (LA ns []=true):=rfl;have asK:=Lh hup;clear hup hmem hS;unfold aC at*;go_wp2_with(go_at_call 88;refine(wZ.out _).mono ?_;rintro e w1 ⟨rfl,hb1⟩;(have hS1:=hb'.out.pure hb1);(have pp:=p0'.out _ hS1.below);(have a0:=hS1.bC 0 rfl 0);(have a3:=hS1.bC 1 rfl 0);simp only[gA,gB,gC]at a0 a3;replace hS1:=Lh hS1;replace hb1:=Lh hb1);exact Z58
    (have bU:(up.isEmpty)=false:=by cases up with|nil=>exact absurd rfl hu0|cons a l=>rfl);rcases SH ns up with⟨hf1,hf9⟩|⟨kk,m,hf1,BZ,hf9,hf7⟩
    ·have hD:Hid (o8 ns fs=false):=JM.out (by exact Z96);have anY:=Lh hf9;have aK0:=Lh hu0;clear hup hmem hS hf1 hf9 hu0;unfold aC at*;go_wp2_with(go_at_call 88;refine(wZ.out _).mono ?_;rintro e w1 ⟨rfl,hb1⟩;(have hS1:=hb'.out.pure hb1);(have pp:=p0'.out _ hS1.below);(have a0:=hS1.bC 0 rfl 0);(have a3:=hS1.bC 1 rfl 0);simp only[gA,gB,gC]at a0 a3;replace hS1:=Lh hS1;replace hb1:=Lh hb1);exact Z87
    have anY:=Lh hf9;(have hy:=fun(W:World) (hW:Below w.heap.size w W) (j:Nat) (hj:j<3)=>(hcell'.out _ hW (kk*3+j) (by have:=(gF.1 BZ).1;omega)).trans (bL BZ j aD));(have yk:(kk:Int)<(ns.length:Int):=by have:=(gF.1 BZ).1;omega);(have yk0:(0:Int)<=(kk:Int):=by omega);have hy':=Lh hy;clear hy;by_cases hmd:m.file= -1
    ·(have hmb:(m.file != -1)=false:=by rw[hmd];rfl);have asK:=Lh hup;have aeM:Hid (LA ns up=true):=Lh (by unfold LA;rw[hf1];simp[hmd]);have aaW:=Lh hmd;clear hup hmem hS hf1 hf9 BZ hf7 hu0 hmd;unfold aC at*;go_wp2_with(go_at_call 88;refine(wZ.out _).mono ?_;rintro e w1 ⟨rfl,hb1⟩;(have hS1:=hb'.out.pure hb1);(have pp:=p0'.out _ hS1.below);(have a0:=hS1.bC 0 rfl 0);(have a3:=hS1.bC 1 rfl 0);simp only[gA,gB,gC]at a0 a3;replace hS1:=Lh hS1;replace hb1:=Lh hb1);exact Z2
    (have hmb:(m.file != -1)=true:=by simpa using hmd);have hD:Hid (o8 ns fs=false):=JM.out (by exact Z94);clear hup hmem hS hf1 hf9 BZ hf7 hu0 hmd;unfold aC at*;go_wp2_with(go_at_call 88;refine(wZ.out _).mono ?_;rintro e w1 ⟨rfl,hb1⟩;(have hS1:=hb'.out.pure hb1);(have pp:=p0'.out _ hS1.below);(have a0:=hS1.bC 0 rfl 0);(have a3:=hS1.bC 1 rfl 0);simp only[gA,gB,gC]at a0 a3;replace hS1:=Lh hS1;replace hb1:=Lh hb1);exact Z76
   |false=>
    have hD:Hid (o8 ns fs=false):=JM.out (by
     cases h2:tH ns fs.length i k n with
     |false=>rfl
     |true=>
      have:=(qK.1 h2).1.1.2;rw[aFN.out,hls]at this;rcases this with h|h
      ·omega
      cases h)
    clear hvl hmem hS;unfold aC at*;go_wp2_with(go_at_call 88;refine(wZ.out _).mono ?_;rintro e w1 ⟨rfl,hb1⟩;(have hS1:=hb'.out.pure hb1);(have pp:=p0'.out _ hS1.below);(have a0:=hS1.bC 0 rfl 0);(have a3:=hS1.bC 1 rfl 0);simp only[gA,gB,gC]at a0 a3;replace hS1:=Lh hS1;replace hb1:=Lh hb1);go_quiet (fail);go_wp2_with fail;go_ret;exact⟨by rw[hD.out];rfl,(hS1.out.drewN nq).below⟩
 have c22:¬(i:Int)<(ns.length:Int):=by omega
 have hri:Hid (nQ ns fs.length ns.length=some k):=by(have e:i=ns.length:=by omega);rw[<-e];exact hr.out
 have hS':=Lh hS;clear hS;go_wp2_with fail;clear z0 z1;go_loopw[9] (fun iv wr=>∃j:Nat,j<=fs.length/\iv=iV j/\Hid (∀(t:Nat) (f:TF),t<j->fs[t]? =some f->iB f.mode=true)/\Sep w wr [.box w.heap.size 25 #[.slice A1 ns.length c1,.slice A2 fs.length c2]]) (fun iv _=>fs.length-(intOf iv).toNat)
 case atStart=>exact⟨0,fZ _,rfl,fun t f ht=>absurd ht (FO _),hS'.out⟩
 obtain⟨j,hj,rfl,hall,hS⟩:=hrel;have d0:(0:Int)<=(j:Int):=by omega
 have z0:=hS.bC 0 rfl 0;have z1:=hS.bC 0 rfl 1;simp only[gA,gB,gC]at z0 z1;by_cases hlt2:j<fs.length
 ·(have d2:(j:Int)<(fs.length:Int):=by omega);obtain⟨g,o,c,e,_,_,_,hcell⟩:=EN.out.place aD aR;cases e;obtain⟨f,he⟩:∃f,fs[j]? =some f:=⟨_,gE hlt2⟩;obtain⟨u,hu⟩:∃u,vs[j]? =some u:=⟨_,gE (by rw[h'.out.len];exact hlt2)⟩;have x0:=(hcell _ hS.below (j*2+0) aD).trans (eD he hu 0 aD);simp only[tfC,gB,gC,<-sD,sF]at x0;have he':=Lh he;have vI:=Lh hS;clear hcell he hu hS;cases hmo:iB f.mode with
  |false=>have hD:Hid (o8 ns fs=false):=Lh (by unfold o8;rw[Bool.and_eq_false_iff];right;rw[List.all_eq_false];exact⟨f,gG he'.out,by rw[hmo];decide⟩);have hmm:=wT f.mode;rw[hmo]at hmm;go_wp2_with(go_at_call 91;refine(hmm _).mono ?_;rintro e w4 ⟨rfl,hw4⟩;have hw5:=hw4.symm;clear hw4;subst hw5);go_ret;exact⟨by rw[hD.out];rfl,vI.out.below⟩
  |true=>
   have hmm:=wT f.mode;rw[hmo]at hmm;have aK1:=Lh hmo;clear hmo;go_wp2_with(go_at_call 91;refine(hmm _).mono ?_;rintro e w4 ⟨rfl,hw4⟩;have hw5:=hw4.symm;clear hw4;subst hw5);go_roundw
   case rel=>
    refine⟨j+1,by omega,by go_num,fun t m ht hm=>?_,vI.out⟩;by_cases htj:t=j
    ·subst htj;have e1:=hm.symm.trans he'.out;cases e1;exact aK1.out
    exact hall.out t m aD hm
   case measure=>(simp[intOf];omega)
 have d2:¬(j:Int)<(fs.length:Int):=by omega
 have hal:fs.all (fun f=>iB f.mode)=true:=by rw[List.all_eq_true];intro f hf;obtain⟨t,ht⟩:=List.mem_iff_getElem?.1 hf;exact hall.out t f (by have:=(gF.1 ht).1;omega) ht
 have hfin:Hid (o8 ns fs=((k:Int)==(fs.length:Int))):=Lh (by unfold o8;rw[hri.out,hal,Bool.and_true,Bool.eq_iff_iff];simp;try omega);have vI:=Lh hS;clear hS hal;go_wp2_with fail;go_ret;exact⟨by rw[hfin.out];rfl,vI.out.below⟩
theorem aaX {w:World} {nv fv:Value} {ns:List TN} {fs:List TF} {vs:List Value} (h:gW w nv fv ns fs vs) (hm:zB ns fs):
  Calls Tryz.prog 11 #[.agg #[nv,fv]] w fun e w'=>e= .returned (iV (if lY ns fs=true then 31 else if o8 ns fs=true then 0 else 30))/\Below w.heap.size w w':=by
 have hS0:=(Sep.nil w).bN 25 #[nv,fv];have hb:=fun(W:World) (hW:Below w.heap.size w W)=>aiB (h.below hW) hm
 have hf:=fun(W:World) (hW:Below w.heap.size w W)=>aeN (h.below hW) hm
 obtain⟨A1,c1,rfl,hm1⟩:=h.nodes.shape;obtain⟨A2,c2,rfl,hm2⟩:=h.files.shape;have z0:=hS0.bC 0 rfl 0;have z1:=hS0.bC 0 rfl 1;simp only[gA,gB,gC]at z0 z1;have nU:=Lh hS0;have hb':=Lh hb;have hf':=Lh hf;clear h hm hS0 hb hf;generalize lY ns fs=bb at hb' ⊢;generalize o8 ns fs=ff at hf' ⊢;cases bb with
 |true=>go_enter Tryz.func11,Tryz.ntmps11;go_wp2_with(go_at_call 31;refine(hb'.out _ nU.out.below).mono ?_;rintro e w1 ⟨rfl,hb1⟩;(have hS1:=nU.out.pure hb1);(have y0:=hS1.bC 0 rfl 0);(have y1:=hS1.bC 0 rfl 1);simp only[gA,gB,gC]at y0 y1;replace hS1:=Lh hS1;clear hb1);go_ret;exact⟨rfl,hS1.out.below⟩
 |false=>
  cases ff<;>
  ·go_enter Tryz.func11,Tryz.ntmps11;go_wp2_with(first |(go_at_call 31;refine(hb'.out _ nU.out.below).mono ?_;rintro e w1 ⟨rfl,hb1⟩;(have hS1:=nU.out.pure hb1);(have y0:=hS1.bC 0 rfl 0);(have y1:=hS1.bC 0 rfl 1);simp only[gA,gB,gC]at y0 y1;replace hS1:=Lh hS1;clear hb1)|(go_at_call 32;refine(hf'.out _ hS1.out.below).mono ?_;rintro e w2 ⟨rfl,hb2⟩;(have hS2:=hS1.out.pure hb2);replace hS2:=Lh hS2;clear hb2));go_ret;exact⟨rfl,hS2.out.below⟩
theorem asM {Ns:List TN} {p:List UInt8} {n:TN} (h:JK Ns p=some n):n∈Ns/\n.path=p:=by unfold JK at h;exact⟨UH h,by simpa using G6 h⟩
theorem axB (Ns:List TN) (p:List UInt8):pK Ns p<=Ns.length:=List.countP_le_length
end Go.Proofs.YtmjomdkleikgbaaGreat
