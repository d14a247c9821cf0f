/- Parts. -/
import Derived.Test.YteihmbaimbogaaaGreatJ32
import Derived.IntWalk
import Derived.Laws.RangeString
import Derived.Laws.ResultCell
import Derived.Handy
set_option linter.unusedVariables false
set_option linter.unusedSimpArgs false
set_option maxRecDepth 100000
set_option maxHeartbeats 20000000
namespace Go.Proofs.YteihmbaimbogaaaGreat
open Go.RowKit
theorem O6 {b:List UInt8} (h:(47:UInt8)∉b):∀a:List UInt8,splitB (a++47::b)=splitB a++[b]
 |[]=>by(show splitB (47::b)=[[]]++[b]);rw[iQ,if_pos rfl,qQ h];rfl
 |c::a=>by
  have ih:=O6 h a;rw[pF,iQ,iQ,ih];split
  ·rfl
  obtain⟨x,t,e⟩:=uI a;rw[e];rfl
theorem mW (p:List UInt8):((47:UInt8)∉p/\sG p=0/\splitB p=[p])\/∃a b,p=a++47::b/\(47:UInt8)∉b/\sG p=a.length/\splitB p=splitB a++[b]:=by
 have key:∀j (hj:j<p.length),(((⟨p.toArray⟩:ByteArray).data[j]!).toNat:Int)=(p[j].toNat:Int):=fun j hj=>by(show((p.toArray[j]!).toNat:Int)=_);rw[getElem!_pos p.toArray j (by simpa using hj)];simp
 unfold sG;rcases Lib.lastIndexByte_spec ⟨p.toArray⟩ 47 with⟨h,hn⟩|⟨i,hi,h,h47,hn⟩
 ·left;(have h0:(47:UInt8)∉p:=fun hm=>by obtain⟨j,hj,e⟩:=List.mem_iff_getElem.1 hm;refine hn j hj ?_;rw[key j hj,e];rfl);exact⟨h0,by rw[h];rfl,qQ h0⟩
 right;have hi':i<p.length:=hi;have e47:p[i]=47:=UInt8.toNat_inj.1 (by have:=key i hi';show p[i].toNat=47;omega);have hb:(47:UInt8)∉p.drop (i+1):=fun hm=>by obtain⟨j,hj,e⟩:=List.mem_iff_getElem.1 hm;rw[ad9]at e;rw[pU]at hj;refine hn (i+1+j) aD (show i+1+j<p.length by omega) ?_;rw[key (i+1+j) aD,e];rfl
 have e:p=p.take i++47::p.drop (i+1):=by conv=>lhs;rw[<-DL i p,WX hi',e47]
 refine⟨p.take i,p.drop (i+1),e,hb,?_,?_⟩
 ·rw[h,tF];omega
 conv=>lhs;rw[e]
 exact O6 hb _
theorem aaC {p:List UInt8} {L:List (List UInt8)} (h:splitB p=L):(L.length<2->sG p=0)/\∀(h2:0<L.length),2<=L.length->sG p+(L[L.length-1]'aD).length+1=p.length:=by
 subst h;rcases mW p with⟨_,h0,e⟩|⟨a,b,e,hb,hs,e2⟩
 ·refine⟨fun _=>h0,fun h1 h2=>?_⟩;rw[e]at h2;exact absurd h2 bM
 have h1:=jF a;have h3:0<(splitB a).length:=List.length_pos_iff.2 h1;refine⟨fun h=>?_,fun h2 h4=>?_⟩
 ·rw[e2,kN,xL]at h;omega
 have e3:(splitB p)[(splitB p).length-1]'aD=b:=by(have:(splitB p)[(splitB p).length-1]? =some b:=by rw[e2,kN,xL,QX,D6 (jL _)];simp);obtain⟨_,h⟩:=gF.1 this;exact h
 rw[e3,hs];have:=congrArg List.length e;rw[kN,nV]at this;omega
theorem aaD {w0 w:World} {v:Value} {L:List ByteArray} (h:0<L.length) (hS:Sep w0 w [XX v L]):∃g c,v=sV g L.length c/\∀k (hk:k<L.length),w.cell? ⟨g,k,none⟩=some (.string L[k]):=by unfold XX at hS;obtain⟨g,c,rfl,_⟩:=hS.iU 0 rfl h;refine⟨g,c,rfl,fun k hk=>?_⟩;have:=hS.cellAt 0 rfl k aD;rw[lQ,gE hk]at this;exact this
theorem ap4 {L:List ByteArray} {i:Nat} (hi:i<L.length) (h:((L.take i).all fun b=>j5 (iE b))=true) (hq:j5 (iE L[i])=true):((L.take (i+1)).all fun b=>j5 (iE b))=true:=by rw[BC,gE hi,List.all_append,h];simp[hq]
theorem ay5 {l:List (List UInt8)} {x:List UInt8} (h:x∈l):x.length+1<=(l.map fun s=>s.length+1).sum:=by
 induction l with
 |nil=>cases h
 |cons a l ih=>
  rw[mH,BD];rcases iX.1 h with rfl|h
  ·omega
  have:=ih h;omega
theorem ap5 {p:ByteArray} {L:List ByteArray} (h:L.map iE=splitB p.data.toList) {i:Nat} (hi:i<L.length):L[i].size<=p.size:=by
 have h1:iE L[i]∈splitB p.data.toList:=by rw[<-h];exact List.mem_map_of_mem (tK hi)
 have h2:=ay5 h1;rw[<-UI]at h2;have h3:L[i].size=(iE L[i]).length:=Lib.size_eq _;have h4:p.size=p.data.toList.length:=Lib.size_eq p;omega
theorem vS (p:ByteArray) (w:World) (hs:p.size<=9223372036854775807):
  Calls Tryz.prog 93 #[.string p] w fun e w'=>e= .returned (.bool (aU p.data.toList))/\Below w.heap.size w w':=by
 have hsz:=Lib.size_eq p;rw[<-JM];by_cases aJA:100<p.size
 case pos=>(have b1:(100:Int)<(p.size:Int):=by omega);(have hr:af4 p.data.toList=false:=by(have:¬p.data.toList.length<=100:=by omega);unfold af4;simp only[this,decide_false,Q4]);rw[hr];clear hsz;go_enter Tryz.func93,Tryz.ntmps93;go_wp2_with fail;go_ret;exact⟨rfl,Below.refl _ _⟩
 have b1:¬(100:Int)<(p.size:Int):=by omega
 have hr:af4 p.data.toList=(decide ((splitB p.data.toList).length<=6)&&(splitB p.data.toList).all j5):=by(have:p.data.toList.length<=100:=by omega);unfold af4;simp only[this,decide_true,Bool.true_and]
 rw[hr];obtain⟨R,hR⟩:∃R,R=(decide ((splitB p.data.toList).length<=6)&&(splitB p.data.toList).all j5):=⟨_,rfl⟩;rw[<-hR];have hR':=Lh hR;have hsp:=Lh (L8 p w aD);clear hsz hr hR;go_enter Tryz.func93,Tryz.ntmps93;go_wp2_with(go_at_call 147;refine hsp.out.mono ?_;rintro e w1 ⟨v,L,rfl,hL,hS⟩;have hL':=Lh hL;clear hL;obtain⟨g,c,rfl,hc⟩:=aaD (by have h:=congrArg List.length hL'.out;rw[kV]at h;rw[h];exact List.length_pos_iff.2 (jF _)) hS;have hc':=Lh hc;have hb:=Lh hS.below;clear hS hc)
 ·(have h6:(6:Int)<(L.length:Int):=by assumption);(have hf:R=false:=by have h1:=congrArg List.length hL'.out;rw[kV]at h1;(have h2:¬(splitB p.data.toList).length<=6:=by omega);rw[hR'.out];simp only[h2,decide_false,Q4]);subst hf;go_ret;exact⟨rfl,hb.out⟩
 have h6:(L.length:Int)<=6:=by assumption
 have hRL:Hid (R=L.all fun b=>j5 (iE b)):=by have h1:=congrArg List.length hL'.out;rw[kV]at h1;(have h2:(splitB p.data.toList).length<=6:=by omega);(show _=_);rw[hR'.out,<-hL'.out,List.all_map];rw[<-hL'.out]at h2;simp only[h2,decide_true,Bool.true_and];rfl
 have hps:=Lh (fun i (hi:i<L.length)=>PS (ap5 hL'.out hi) (show p.size<=4611686018427387904 by omega));clear hR' hsp;go_loopg[4] L.length (fun gk ii wr=>∃i:Nat,i<=L.length/\Hid (gk=L.length-i)/\ii=iV i/\wr=w1/\Hid (((L.take i).all fun b=>j5 (iE b))=true))
 case atStart=>exact⟨0,by omega,rfl,rfl,rfl,rfl⟩
 obtain⟨i,hi,hm,rfl,rfl,hal⟩:=hrel;by_cases hlt:i<L.length
 case pos=>
  (have c1:(0:Int)<=(i:Int):=by omega);(have c2:(i:Int)<(L.length:Int):=by omega);have d0:=hc'.out i hlt;have hname:=Lh (agZ L[i] wr (hps.out i hlt));have hn2:L[i].data.toList=iE L[i]:=rfl;rw[hn2]at hname;cases hq:j5 (iE L[i])with
  |true=>
   have aPS:=Lh (ap4 hlt hal.out hq);rw[hq]at hname;clear hq hn2 hal;go_wp2_with(go_at_call 148;refine hname.out.mono ?_;rintro e w3 ⟨rfl,rfl⟩);go_roundg (L.length-(i+1))
   case measure=>rw[hm.out];omega
   case rel=>exact⟨i+1,by omega,rfl,by go_num,rfl,aPS⟩
  |false=>
   have hf:R=false:=by
    rw[hRL.out];cases h:L.all fun b=>j5 (iE b)with
    |false=>rfl
    |true=>rw[List.all_eq_true.1 h _ (tK hlt)]at hq;cases hq
   subst hf;rw[hq]at hname;clear hq hn2 hal hRL;go_wp2_with(go_at_call 148;refine hname.out.mono ?_;rintro e w3 ⟨rfl,rfl⟩);go_ret;exact⟨rfl,hb.out⟩
 have hf:R=true:=by have h:=hal.out;rw[tH aD]at h;rw[hRL.out];exact h
 subst hf;have c2:¬(i:Int)<(L.length:Int):=by omega
 clear hal hRL;go_wp2_with fail;go_ret;exact⟨rfl,hb.out⟩
def CF (p:List UInt8):List (List UInt8):=if aU p=true then splitB p else []
theorem iB {p:List UInt8} (h:aU p=true):p.length<=100:=by have h2:=JM p;rw[h]at h2;unfold af4 at h2;simp only[tJ,uP]at h2;exact h2.1
theorem MB {p:List UInt8} (w:World) (hs:p.length<=1000000):
  Calls Tryz.prog 149 #[aC p] w fun e w'=>∃v L,e= .returned v/\L.map iE=CF p/\Sep w w' [XX v L]:=by
 have hv:=vS ⟨p.toArray⟩ w (by rw[kE];omega);rw[vV]at hv;unfold CF;cases hval:aU p with
 |false=>rw[hval]at hv;have hv':=Lh hv;rw[if_neg aQ];unfold aC at*;clear hv hval;go_enter Tryz.func149,Tryz.ntmps149;go_wp2_with(go_at_call 93;refine hv'.out.mono ?_;rintro e w1 ⟨rfl,hb⟩;replace hb:=Lh hb);go_ret;exact⟨_,[],rfl,rfl,((Sep.nil w).pure hb.out).dX _ _⟩
 |true=>rw[hval]at hv;have hv':=Lh hv;have aJA:=iB hval;(have hsp:=fun W=>L8 ⟨p.toArray⟩ W (by rw[kE];omega));have anY:=Lh hsp;rw[if_pos rfl];obtain⟨R,hR⟩:∃R,R=splitB p:=⟨_,rfl⟩;rw[<-hR];have hR':=Lh hR;unfold aC at*;clear hv hsp hval hR;go_enter Tryz.func149,Tryz.ntmps149;go_wp2_with(first |(go_at_call 93;refine hv'.out.mono ?_;rintro e w1 ⟨rfl,hb⟩;replace hb:=Lh hb)|(go_at_call 147;refine(anY.out _).mono ?_;rintro e w2 ⟨v,L,rfl,hL,hS⟩;replace hL:=Lh hL;replace hS:=Lh hS));go_ret;refine⟨_,L,rfl,?_,(((Sep.nil w).pure hb.out).join hS.out)⟩;rw[hR'.out];exact hL.out
theorem IW {p:List UInt8} (w:World) (hs:p.length<=1000000):
  Calls Tryz.prog 115 #[aC p] w fun e w'=>e= .returned (aC (eY p))/\Below w.heap.size w w':=by
 have hn':=Lh (MB (p:=p) w hs);by_cases h2:(CF p).length<2
 ·have e0:eY p=[]:=by
   unfold eY;split
   ·rename_i hv;unfold CF at h2;rw[if_pos hv]at h2;rw[(aaC rfl).1 h2];rfl
   rfl
  rw[e0];have h2':=Lh h2;unfold aC at*;clear h2 e0;go_enter Tryz.func115,Tryz.ntmps115;go_wp2_with(go_at_call 149;refine hn'.out.mono ?_;rintro e w1 ⟨v,L,rfl,hL,hS⟩;obtain⟨A,c,rfl,_⟩:=(hS.rd 0 rfl).shape;(have hLl:(L.length:Int)<2:=by(have h:=congrArg List.length hL);rw[kV]at h;(have:=h2'.out);omega);replace hS:=Lh hS;clear hL);go_ret;exact⟨rfl,hS.out.below⟩
 have hv:aU p=true:=by
  cases hv:aU p with
  |true=>rfl
  |false=>unfold CF at h2;rw[hv]at h2;exact absurd bM h2
 have e0:eY p=p.take (sG p):=by unfold eY;rw[if_pos hv]
 have hnl:CF p=splitB p:=by unfold CF;rw[if_pos hv]
 rw[e0];obtain⟨q,hq⟩:∃q,q=p.take (sG p):=⟨_,rfl⟩;rw[<-hq];have hq':=Lh hq;have aPT:=Lh hnl;have h2':=Lh h2;unfold aC at*;clear h2 e0 hv hq hnl;go_enter Tryz.func115,Tryz.ntmps115;go_wp2_with(go_at_call 149;refine hn'.out.mono ?_;rintro e w1 ⟨v,L,rfl,hL,hS⟩;rw[aPT.out]at hL h2';(have hLl:L.length=(splitB p).length:=by(have h:=congrArg List.length hL);rw[kV]at h;exact h);(have h9:=h2'.out);obtain⟨g,c,rfl,hc⟩:=aaD aD hS;(have hcl:=hc (L.length-1) aD);(have hx:sG p+(L[L.length-1]'aD).size+1=p.length:=by(have h:=(aaC hL.symm).2 (by rw[kV];omega) (by rw[kV];omega));simp only[kV,Q3,iE]at h;(have e7:(L[L.length-1]'aD).size=(L[L.length-1]'aD).data.toList.length:=Lib.size_eq _);omega);(have ez:((⟨p.toArray⟩:ByteArray).size:Int)=p.length:=by rw[kE]);(have hL2:¬((L.length:Int)<2):=by omega);(have hL3:2<=(L.length:Int):=by omega);(have hL4:(L.length:Int)<=1000001:=by(have h:=L6 p);omega);(have hls:((L[L.length-1]'aD).size:Int)<=1000000:=by omega);(have hx2:((p.length:Int)-((L[L.length-1]'aD).size:Int))-1=sG p:=by omega);(have q2:((L.length:Int)-1).toNat=L.length-1:=by omega);(have q3:sG p<=p.length:=by omega);(have hsl:Hid (Int.toNat ((p.length:Int)-((L[L.length-1]'aD).size:Int)-1)=sG p):=by(show _=_);omega);generalize L[L.length-1]'aD=lst at hcl hx hx2 hsl hls;replace hS:=Lh hS;clear hL h9 hc hLl);go_ret;refine⟨?_,hS.out.below⟩;rw[hq'.out,<-acK];rfl
def IX :Value->Nat
 | .slice _ n _=>n
 |_=>0
def xG (n:Nat):Int:=if 8<((n:Int)+512-1)/512 then((n:Int)+512-1)/512+1 else((n:Int)+512-1)/512
def iM (Ns:List TN) (q:List UInt8):Option TN:=Ns.find? fun n=>n.path==q
def aZ (Ns:List TN) (q:List UInt8):TN:=(iM Ns q).getD ⟨[],0,0⟩
def uZ (Ns:List TN) (q:List UInt8):Bool:=(iM Ns q).isSome
def bZ (Ns:List TN) (p:List UInt8):Nat->Int
 |0=>0
 |k+1=>if p[p.length-(k+1)]? =some 47 then(match iM Ns (p.take (p.length-(k+1)))with
  |none=>21
  |some n=>if 0<=n.file then 22 else bZ Ns p k)else bZ Ns p k
def dI (Ns:List TN) (p:List UInt8):Int:=if bZ Ns p p.length=0 then(if uZ Ns p=true then 23 else 0)else bZ Ns p p.length
def bD (Ns:List TN) (p:List UInt8):Int:=if bZ Ns p p.length=0 then(if uZ Ns p=true then 0 else 21)else bZ Ns p p.length
def AJ (Ns:List TN) (p:List UInt8):TN:=if bZ Ns p p.length=0 then aZ Ns p else⟨[],0,0⟩
def gZ (Ns:List TN) (p:List UInt8):Int:=if bD Ns p=0 then(if(AJ Ns p).file<0 then 24 else 0)else bD Ns p
def j6 (Ns:List TN) (p tz:List UInt8):Int:=if gZ Ns p=0 then dI Ns tz else gZ Ns p
def au5 (n:Nat):Int:=max 1 (((n:Int)+16-1)/16)
theorem ay6 (n:Nat):1<=au5 n/\au5 n<=n+1:=by unfold au5;omega
def vG (ns:List TN) (p:List UInt8):Int:=match ns.findIdx? (fun n=>n.path==p)with
 |some k=>(k:Int)
 |none=> -1
theorem au6 {ns:List TN} {p:List UInt8} {k:Nat} {n:TN} (hn:ns[k]? =some n) (hp:n.path=p) (hno:∀(j:Nat) (m:TN),j<k->ns[j]? =some m->m.path≠p):vG ns p=k:=by
 obtain⟨hk,hk2⟩:=gF.1 hn;have:ns.findIdx? (fun n=>n.path==p)=some k:=by rw[ad1];refine⟨hk,by rw[hk2,hp];simp,fun j hj=>?_⟩;have:=hno j ns[j] hj (gE aD);simpa using this
 unfold vG;rw[this]
theorem au7 {ns:List TN} {p:List UInt8} (hno:∀(j:Nat) (m:TN),ns[j]? =some m->m.path≠p):vG ns p= -1:=by
 have:ns.findIdx? (fun n=>n.path==p)=none:=by rw[ad6];intro m hm;obtain⟨j,hj⟩:=List.mem_iff_getElem?.1 hm;simpa using hno j m hj
 unfold vG;rw[this]
theorem O7 {w:World} {nv fv:Value} {ns:List TN} {fs:List TF} {vs:List Value} (h:bY w nv fv ns fs vs) (hf:ns.length<=300) (p:List UInt8):
  Calls Tryz.prog 150 #[.agg #[nv,fv],aC p] w fun e w'=>e= .returned (iV (vG ns p))/\Below w.heap.size w w':=by
 have hS0:=(Sep.nil w).bN 32 #[nv,fv];obtain⟨A1,c1,rfl,hm1⟩:=h.nodes.shape;have fV:=Lh hS0;have h':=Lh h;have b1:(ns.length:Int)<=300:=by omega
 have z0:=hS0.bC 0 rfl 0;simp only[gA,gB]at z0;obtain⟨R,hR⟩:∃R,R=vG ns p:=⟨_,rfl⟩;rw[<-hR];have hR':=Lh hR;unfold aC at*;clear h hS0 hR;go_enter Tryz.func150,Tryz.ntmps150;go_wp2_with fail;go_loopw[5] (fun iv wr=>∃i:Nat,i<=ns.length/\iv=iV i/\wr=w.alloc (.cells #[.slice A1 ns.length c1,fv] 32)/\Hid (∀(j:Nat) (m:TN),j<i->ns[j]? =some m->m.path≠p)) (fun iv _=>ns.length-(intOf iv).toNat)
 case atStart=>exact⟨0,iF _,rfl,rfl,fun j m hj=>absurd hj (XB _)⟩
 obtain⟨i,hi,rfl,rfl,hno⟩:=hrel;have c0:(0:Int)<=(i:Int):=by omega
 by_cases hlt:i<ns.length
 ·(have c2:(i:Int)<(ns.length:Int):=by omega);obtain⟨g,o,c,e,_,_,_,hcell⟩:=h'.out.nodes.place aD aQ;cases e;obtain⟨n,he⟩:∃n,ns[i]? =some n:=⟨_,gE hlt⟩;have x0:=(hcell _ fV.out.below (i*3) aD).trans (eP he 0 aD);simp only[KA,aC,gB]at x0;have he':=Lh he;clear hcell he;by_cases hp:n.path=p
  ·(have hp2:(n.path==p)=true:=by simpa using hp);have hp':=Lh hp;clear hp;go_wp2_with fail;go_ret;refine⟨?_,fV.out.below⟩;rw[hR'.out,au6 he'.out hp'.out hno.out];rfl
  (have hp2:(n.path==p)=false:=by simpa using hp);have hp':=Lh hp;clear hp;go_wp2_with fail;go_roundw
  case rel=>
   refine⟨i+1,by omega,by go_num,by trivial,fun j m hj hm=>?_⟩;by_cases hji:j=i
   ·subst hji;have e1:=hm.symm.trans he'.out;cases e1;exact hp'.out
   exact hno.out j m aD hm
  case measure=>simp[intOf];omega
 have c2:¬(i:Int)<(ns.length:Int):=by omega
 go_wp2_with fail;go_ret;refine⟨?_,fV.out.below⟩;rw[hR'.out,au7 fun j m hm=>hno.out j m (by have:=(gF.1 hm).1;omega) hm];rfl
theorem Z16 {P:Prop} (h:P:=by
 go_wp2_with fail;all_goals go_ret
 all_goals refine⟨?_,rfl⟩
 all_goals(first |rfl|(congr 2;simp;done)|(congr 2;simp;omega)|(congr 1;show Value.bool _=Value.bool _;congr 1;simp_all;done)|(congr 1;show Value.bool _=Value.bool _;congr 1;rw[aeF];simp;omega))):P:=h
theorem yM (m:Int) (w:World):Calls Tryz.prog 177 #[iV m] w fun e w'=>e= .returned (.bool (fQ m))/\w'=w:=by unfold fQ;go_enter Tryz.func177,Tryz.ntmps177;exact Z16
def xH (op:Int):Bool:=decide (op=1)||(decide (op=6)||(decide (op=7)||decide (op=8)))
def JQ (op:Int):Bool:=decide (op=3)||(decide (op=4)||decide (op=7))
theorem ag0 (op:Int) (w:World):Calls Tryz.prog 155 #[iV op] w fun e w'=>e= .returned (.bool (xH op))/\w'=w:=by unfold xH;go_enter Tryz.func155,Tryz.ntmps155;exact Z16
theorem iT (op:Int) (w:World):Calls Tryz.prog 110 #[iV op] w fun e w'=>e= .returned (.bool (JQ op))/\w'=w:=by unfold JQ;go_enter Tryz.func110,Tryz.ntmps110;exact Z16
def yN (B I:Int):Value:=.agg #[iV B,iV I]
theorem XY {w:World} {b:Nat} {x y:Value} (h0:w.cell? ⟨b,0,none⟩=some x) (h1:w.cell? ⟨b,1,none⟩=some y):(loadVar 28 ⟨b,0,none⟩).run Tryz.prog w= .ok (.agg #[x,y]) w:=by simp[loadVar,go_sem,h0,h1]
theorem IY {fn:Func} {p:Tmp} (h:fn.results=#[.cell p 28]) {tmps:Array Value} {w:World} {b:Nat} {x y:Value} (hp:tmps.getD p undef=pV b) (h0:w.cell? ⟨b,0,none⟩=some x) (h1:w.cell? ⟨b,1,none⟩=some y):
  (results fn tmps).run Tryz.prog w= .ok (.agg #[x,y]) w:=by
 have hp2:tmps[p]?.getD undef=pV b:=by simpa using hp
 simp only[results,h];simp[hp2,asAddr,XY h0 h1]
def CG (k:Nat):Int:=if k=0 then 1 else((k:Int)+15)/16
theorem ap6 (k:Nat):CG k=au5 k:=by unfold CG au5;split<;>omega
theorem Z17 {P:Prop} (h:P:=by have y0:=dJ.bC 0 rfl 0;have y1:=dJ.bC 0 rfl 1;refine bodyPost_ret (IY rfl rfl y0 y1) rfl ?_;exact⟨rfl,dJ.below⟩):P:=h
theorem UZ {k:Nat} (hk:k<=1000) (w:World):Calls Tryz.prog 56 #[iV k] w fun e w'=>e= .returned (yN (CG k) 1)/\Below w.heap.size w w':=by
 have hS0:=(Sep.nil w).bN 28 #[iV 0,iV 0];have c0:=hS0.bC 0 rfl 0;have c1:=hS0.bC 0 rfl 1;have z0:=hS0.bF 0 rfl 0;have z1:=hS0.bF 0 rfl 1;simp only[gA,gB,gC]at c0 c1;have fV:=Lh hS0;clear hS0;have q0:(0:Int)<=(k:Int):=by omega
 have q1:(k:Int)<=1000:=by omega
 unfold CG yN;by_cases h0:k=0
 ·subst h0;rw[if_pos rfl];go_enter Tryz.func56,Tryz.ntmps56;go_wp2_with fail;have dJ:=(Sep.nil w).bN 28 #[iV 1,iV 1];exact Z17
 rw[if_neg h0];have b0:((k:Int)==0)=false:=by rw[mM];omega
 have e0:Int.tdiv ((k:Int)+15) 16=((k:Int)+15)/16:=adU aD;go_enter Tryz.func56,Tryz.ntmps56;go_wp2_with fail;have dJ:=(Sep.nil w).bN 28 #[iV (((k:Int)+15)/16),iV 1];exact Z17
theorem ag1 {n:Nat} (hn:n<=1048576) (w:World):Calls Tryz.prog 59 #[iV n] w fun e w'=>e= .returned (yN (xG n) 1)/\Below w.heap.size w w':=by
 have hS0:=(Sep.nil w).bN 28 #[iV 0,iV 0];have c0:=hS0.bC 0 rfl 0;have c1:=hS0.bC 0 rfl 1;have z0:=hS0.bF 0 rfl 0;have z1:=hS0.bF 0 rfl 1;simp only[gA,gB,gC]at c0 c1;have fV:=Lh hS0;clear hS0;have e0:Int.tdiv ((n:Int)+511) 512=((n:Int)+511)/512:=adU aD;have hf:xG n=if 8<((n:Int)+511)/512 then((n:Int)+511)/512+1 else((n:Int)+511)/512:=by unfold xG;(have e1:((n:Int)+512-1)=(n:Int)+511:=by omega);first |rfl|(rw[e1])
 have q0:(0:Int)<=(n:Int):=by omega
 have q1:(n:Int)<=1048576:=by omega
 have q2:0<=((n:Int)+511)/512/\((n:Int)+511)/512<=2049:=by omega
 rw[hf];obtain⟨b,hb⟩:∃b,((n:Int)+511)/512=b:=⟨_,rfl⟩;rw[hb]at e0 q2 ⊢;obtain⟨q3,q4⟩:=q2;clear hb hf;unfold yN;by_cases h8:8<b
 ·rw[if_pos h8];go_enter Tryz.func59,Tryz.ntmps59;go_wp2_with fail;have dJ:=(Sep.nil w).bN 28 #[iV (b+1),iV 1];exact Z17
 rw[if_neg h8];go_enter Tryz.func59,Tryz.ntmps59;go_wp2_with fail;have dJ:=(Sep.nil w).bN 28 #[iV b,iV 1];exact Z17
theorem au8 (w:World) (B I C J:Int):Hid (∃hS:Sep w (((w.alloc (.cells #[iV B,iV I] 28)).alloc (.cells #[iV C,iV J] 28)).alloc (.cells #[iV 0,iV 0] 28)) [.box (w.heap.size+1+1) 28 #[iV 0,iV 0],.box (w.heap.size+1) 28 #[iV C,iV J],.box w.heap.size 28 #[iV B,iV I]],True):=by refine Lh ⟨?_,trivial⟩;have h:=(((Sep.nil w).bN 28 #[iV B,iV I]).bN 28 #[iV C,iV J]).bN 28 #[iV 0,iV 0];simp only[World.size_alloc]at h;exact h
theorem aaE {B I C J:Int} (h1: -1000000<=B/\B<=1000000) (h2: -1000000<=I/\I<=1000000) (h3: -1000000<=C/\C<=1000000) (h4: -1000000<=J/\J<=1000000) (w:World):
  Calls Tryz.prog 58 #[yN B I,yN C J] w fun e w'=>e= .returned (yN (B+C) (I+J))/\Below w.heap.size w w':=by
 obtain⟨hS0,_⟩:=(au8 w B I C J).out;have c0:=hS0.bC 0 rfl 0;have c1:=hS0.bC 0 rfl 1;have c2:=hS0.bC 1 rfl 0;have c3:=hS0.bC 1 rfl 1;have c4:=hS0.bC 2 rfl 0;have c5:=hS0.bC 2 rfl 1;have z0:=hS0.bF 0 rfl 0;have z1:=hS0.bF 0 rfl 1;simp only[gA,gB,gC]at c0 c1 c2 c3 c4 c5;have fV:=Lh hS0;clear hS0;obtain⟨a1,a2⟩:=h1;obtain⟨a3,a4⟩:=h2;obtain⟨a5,a6⟩:=h3;obtain⟨a7,a8⟩:=h4;unfold yN;go_enter Tryz.func58,Tryz.ntmps58;go_wp2_with fail;have dJ:=(((Sep.nil w).bN 28 #[iV B,iV I]).bN 28 #[iV C,iV J]).bN 28 #[iV (B+C),iV (I+J)];simp only[World.size_alloc]at dJ;exact Z17
end Go.Proofs.YteihmbaimbogaaaGreat
