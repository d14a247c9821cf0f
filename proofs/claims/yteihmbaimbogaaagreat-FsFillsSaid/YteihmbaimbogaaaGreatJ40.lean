/- QDocA, QModelW, QModelWt, QModelLG, QModelAG, QModelWG, QDocB, QDocC, laid together. -/
import Derived.Test.YteihmbaimbogaaaGreatJ39
import Derived.IntWalk
import Derived.Laws.RangeString
import Derived.Laws.ResultCell
import Derived.Handy
namespace Go.Proofs.YteihmbaimbogaaaGreat
open Go.RowKit
set_option linter.unusedVariables false
def tY (p:List UInt8):List (List UInt8):=if aP p=true then splitB p else []
theorem sG {p:List UInt8} (h:aP p=true):p.length≤100:=by have h2:=yS p;rw[h]at h2;unfold TD at h2;simp only[Bool.and_eq_true,decide_eq_true_eq]at h2;exact h2.1
theorem BC {p:List UInt8} (w:World) (hs:p.length≤1000000):
  Calls Tryz.prog 149 #[aM p] w fun e w'=>∃v L,e= .returned v∧L.map eQ=tY p∧Sep w w' [K3 v L]:=by
 have hv:=oM ⟨p.toArray⟩ w (by rw[gL];omega);rw[oO]at hv;unfold tY;cases hval:aP p with
 |false=>rw[hval]at hv;have hv':=Lh hv;rw[if_neg (by decide)];unfold aM at*;clear hv hval;go_enter Tryz.func149,Tryz.ntmps149;go_wp2_with(go_at_call 93;refine hv'.out.mono ?_;rintro e w1 ⟨rfl,hb⟩;replace hb:=Lh hb);go_ret;exact⟨_,[],rfl,rfl,((Sep.nil w).pure hb.out).fO _ _⟩
 |true=>rw[hval]at hv;have hv':=Lh hv;have asP:=sG hval;(have hsp:=fun W=>BB ⟨p.toArray⟩ W (by rw[gL];omega));have am1:=Lh hsp;rw[if_pos rfl];obtain⟨R,hR⟩:∃R,R=splitB p:=⟨_,rfl⟩;rw[←hR];have hR':=Lh hR;unfold aM at*;clear hv hsp hval hR;go_enter Tryz.func149,Tryz.ntmps149;go_wp2_with(first |(go_at_call 93;refine hv'.out.mono ?_;rintro e w1 ⟨rfl,hb⟩;replace hb:=Lh hb)|(go_at_call 147;refine(am1.out _).mono ?_;rintro e w2 ⟨v,L,rfl,hL,hS⟩;replace hL:=Lh hL;replace hS:=Lh hS));go_ret;refine⟨_,L,rfl,?_,(((Sep.nil w).pure hb.out).join hS.out)⟩;rw[hR'.out];exact hL.out
theorem yA {p:List UInt8} (w:World) (hs:p.length≤1000000):
  Calls Tryz.prog 115 #[aM p] w fun e w'=>e= .returned (aM (dE p))∧Below w.heap.size w w':=by
 have hn':=Lh (BC (p:=p) w hs);by_cases h2:(tY p).length<2
 ·have e0:dE p=[]:=by
   unfold dE;split
   ·rename_i hv;unfold tY at h2;rw[if_pos hv]at h2;rw[(M8 rfl).1 h2];rfl
   rfl
  rw[e0];have h2':=Lh h2;unfold aM at*;clear h2 e0;go_enter Tryz.func115,Tryz.ntmps115;go_wp2_with(go_at_call 149;refine hn'.out.mono ?_;rintro e w1 ⟨v,L,rfl,hL,hS⟩;obtain⟨A,c,rfl,_⟩:=(hS.rd 0 rfl).shape;(have hLl:(L.length:Int)<2:=by(have h:=congrArg List.length hL);rw[List.length_map]at h;(have:=h2'.out);omega);replace hS:=Lh hS;clear hL);go_ret;exact⟨rfl,hS.out.below⟩
 have hv:aP p=true:=by
  cases hv:aP p with
  |true=>rfl
  |false=>unfold tY at h2;rw[hv]at h2;exact absurd (by simp) h2
 have e0:dE p=p.take (mM p):=by unfold dE;rw[if_pos hv]
 have hnl:tY p=splitB p:=by unfold tY;rw[if_pos hv]
 rw[e0];obtain⟨q,hq⟩:∃q,q=p.take (mM p):=⟨_,rfl⟩;rw[←hq];have hq':=Lh hq;have axO:=Lh hnl;have h2':=Lh h2;unfold aM at*;clear h2 e0 hv hq hnl;go_enter Tryz.func115,Tryz.ntmps115;go_wp2_with(go_at_call 149;refine hn'.out.mono ?_;rintro e w1 ⟨v,L,rfl,hL,hS⟩;rw[axO.out]at hL h2';(have hLl:L.length=(splitB p).length:=by(have h:=congrArg List.length hL);rw[List.length_map]at h;exact h);(have h9:=h2'.out);obtain⟨g,c,rfl,hc⟩:=M9 (by omega) hS;(have hcl:=hc (L.length-1) (by omega));(have hx:mM p+(L[L.length-1]'(by omega)).size+1=p.length:=by(have h:=(M8 hL.symm).2 (by rw[List.length_map];omega) (by rw[List.length_map];omega));simp only[List.length_map,List.getElem_map,eQ]at h;(have e7:(L[L.length-1]'(by omega)).size=(L[L.length-1]'(by omega)).data.toList.length:=Lib.size_eq _);omega);(have ez:((⟨p.toArray⟩:ByteArray).size:Int)=p.length:=by rw[gL]);(have hL2:¬((L.length:Int)<2):=by omega);(have hL3:2≤(L.length:Int):=by omega);(have hL4:(L.length:Int)≤1000001:=by(have h:=BA p);omega);(have hls:((L[L.length-1]'(by omega)).size:Int)≤1000000:=by omega);(have hx2:((p.length:Int)-((L[L.length-1]'(by omega)).size:Int))-1=mM p:=by omega);(have q2:((L.length:Int)-1).toNat=L.length-1:=by omega);(have q3:mM p≤p.length:=by omega);(have hsl:Hid (Int.toNat ((p.length:Int)-((L[L.length-1]'(by omega)).size:Int)-1)=mM p):=by(show _=_);omega);generalize L[L.length-1]'(by omega)=lst at hcl hx hx2 hsl hls;replace hS:=Lh hS;clear hL h9 hc hLl);go_ret;refine⟨?_,hS.out.below⟩;rw[hq'.out,←PD];rfl
set_option linter.unusedSimpArgs false
end Go.Proofs.YteihmbaimbogaaaGreat
namespace Go.Proofs.YteihmbaimbogaaaGreat
open Go.RowKit
set_option linter.unusedVariables false
def BD :Value→Nat
 | .slice _ n _=>n
 |_=>0
def qA (n:Nat):Int:=if 8<((n:Int)+512-1)/512 then((n:Int)+512-1)/512+1 else((n:Int)+512-1)/512
set_option linter.unusedSimpArgs false
def iH (Ns:List TN) (q:List UInt8):Option TN:=Ns.find? fun n=>n.path==q
def nY (Ns:List TN) (q:List UInt8):TN:=(iH Ns q).getD ⟨[],0,0⟩
def ET (Ns:List TN) (q:List UInt8):Bool:=(iH Ns q).isSome
def bT (Ns:List TN) (p:List UInt8):Nat→Int
 |0=>0
 |k+1=>if p[p.length-(k+1)]? =some 47 then(match iH Ns (p.take (p.length-(k+1)))with
  |none=>21
  |some n=>if 0≤n.file then 22 else bT Ns p k)else bT Ns p k
end Go.Proofs.YteihmbaimbogaaaGreat
namespace Go.Proofs.YteihmbaimbogaaaGreat
open Go.RowKit
set_option linter.unusedVariables false
def dN (Ns:List TN) (p:List UInt8):Int:=if bT Ns p p.length=0 then(if ET Ns p=true then 23 else 0)else bT Ns p p.length
def qB (Ns:List TN) (p:List UInt8):Int:=if bT Ns p p.length=0 then(if ET Ns p=true then 0 else 21)else bT Ns p p.length
def asQ (Ns:List TN) (p:List UInt8):TN:=if bT Ns p p.length=0 then nY Ns p else⟨[],0,0⟩
def agL (Ns:List TN) (p:List UInt8):Int:=if qB Ns p=0 then(if(asQ Ns p).file<0 then 24 else 0)else qB Ns p
def agM (Ns:List TN) (p tz:List UInt8):Int:=if agL Ns p=0 then dN Ns tz else agL Ns p
def agN (n:Nat):Int:=max 1 (((n:Int)+16-1)/16)
theorem akH (n:Nat):1≤agN n∧agN n≤n+1:=by unfold agN;omega
def qW (ns:List TN) (p:List UInt8):Int:=match ns.findIdx? (fun n=>n.path==p)with
 |some k=>(k:Int)
 |none=> -1
theorem agO {ns:List TN} {p:List UInt8} {k:Nat} {n:TN} (hn:ns[k]? =some n) (hp:n.path=p) (hno:∀(j:Nat) (m:TN),j<k→ns[j]? =some m→m.path≠p):qW ns p=k:=by
 obtain⟨hk,hk2⟩:=gF.1 hn;have:ns.findIdx? (fun n=>n.path==p)=some k:=by rw[List.findIdx?_eq_some_iff_getElem];refine⟨hk,by rw[hk2,hp];simp,fun j hj=>?_⟩;have:=hno j ns[j] hj (gE (by omega));simpa using this
 unfold qW;rw[this]
theorem agP {ns:List TN} {p:List UInt8} (hno:∀(j:Nat) (m:TN),ns[j]? =some m→m.path≠p):qW ns p= -1:=by
 have:ns.findIdx? (fun n=>n.path==p)=none:=by rw[List.findIdx?_eq_none_iff];intro m hm;obtain⟨j,hj⟩:=List.mem_iff_getElem?.1 hm;simpa using hno j m hj
 unfold qW;rw[this]
set_option maxRecDepth 100000 in
theorem EH {w:World} {nv fv:Value} {ns:List TN} {fs:List TF} {vs:List Value} (h:dS w nv fv ns fs vs) (hf:ns.length≤300) (p:List UInt8):
  Calls Tryz.prog 150 #[.agg #[nv,fv],aM p] w fun e w'=>e= .returned (.int .i64 (qW ns p))∧Below w.heap.size w w':=by
 have hS0:=(Sep.nil w).bN 32 #[nv,fv];obtain⟨A1,c1,rfl,hm1⟩:=h.nodes.shape;have gZ:=Lh hS0;have h':=Lh h;have b1:(ns.length:Int)≤300:=by omega
 have z0:=hS0.bC 0 rfl 0;simp only[gA,gB]at z0;obtain⟨R,hR⟩:∃R,R=qW ns p:=⟨_,rfl⟩;rw[←hR];have hR':=Lh hR;unfold aM at*;clear h hS0 hR;go_enter Tryz.func150,Tryz.ntmps150;go_wp2_with fail;go_loopw[5] (fun iv wr=>∃i:Nat,i≤ns.length∧iv= .int .i64 i∧wr=w.alloc (.cells #[.slice A1 ns.length c1,fv] 32)∧Hid (∀(j:Nat) (m:TN),j<i→ns[j]? =some m→m.path≠p)) (fun iv _=>ns.length-(intOf iv).toNat)
 case atStart=>exact⟨0,Nat.zero_le _,rfl,rfl,fun j m hj=>absurd hj (Nat.not_lt_zero _)⟩
 obtain⟨i,hi,rfl,rfl,hno⟩:=hrel;have c0:(0:Int)≤(i:Int):=by omega
 by_cases hlt:i<ns.length
 ·(have c2:(i:Int)<(ns.length:Int):=by omega);obtain⟨g,o,c,e,_,_,_,hcell⟩:=h'.out.nodes.place (by omega) (by decide);cases e;obtain⟨n,he⟩:∃n,ns[i]? =some n:=⟨_,gE hlt⟩;have x0:=(hcell _ gZ.out.below (i*3) (by omega)).trans (eZ he 0 (by omega));simp only[KJ,aM,gB]at x0;have he':=Lh he;clear hcell he;by_cases hp:n.path=p
  ·(have hp2:(n.path==p)=true:=by simpa using hp);have hp':=Lh hp;clear hp;go_wp2_with fail;go_ret;refine⟨?_,gZ.out.below⟩;rw[hR'.out,agO he'.out hp'.out hno.out];rfl
  (have hp2:(n.path==p)=false:=by simpa using hp);have hp':=Lh hp;clear hp;go_wp2_with fail;go_roundw
  case rel=>
   refine⟨i+1,by omega,by go_num,by trivial,fun j m hj hm=>?_⟩;by_cases hji:j=i
   ·subst hji;have e1:=hm.symm.trans he'.out;cases e1;exact hp'.out
   exact hno.out j m (by omega) hm
  case measure=>simp[intOf];omega
 have c2:¬(i:Int)<(ns.length:Int):=by omega
 go_wp2_with fail;go_ret;refine⟨?_,gZ.out.below⟩;rw[hR'.out,agP fun j m hm=>hno.out j m (by have:=(gF.1 hm).1;omega) hm];rfl
theorem lZ (m:Int) (w:World):Calls Tryz.prog 177 #[.int .i64 m] w fun e w'=>e= .returned (.bool (eG m))∧w'=w:=by
 unfold eG;go_enter Tryz.func177,Tryz.ntmps177;go_wp2_with fail;all_goals go_ret
 all_goals refine⟨?_,rfl⟩
 all_goals(first |rfl|(congr 2;simp;done)|(congr 2;simp;omega)|(congr 1;show Value.bool _=Value.bool _;congr 1;simp_all;done)|(congr 1;show Value.bool _=Value.bool _;congr 1;rw[Bool.eq_iff_iff];simp;omega))
def qC (op:Int):Bool:=decide (op=1)||(decide (op=6)||(decide (op=7)||decide (op=8)))
def yV (op:Int):Bool:=decide (op=3)||(decide (op=4)||decide (op=7))
theorem UD (op:Int) (w:World):Calls Tryz.prog 155 #[.int .i64 op] w fun e w'=>e= .returned (.bool (qC op))∧w'=w:=by
 unfold qC;go_enter Tryz.func155,Tryz.ntmps155;go_wp2_with fail;all_goals go_ret
 all_goals refine⟨?_,rfl⟩
 all_goals(first |rfl|(congr 2;simp;done)|(congr 2;simp;omega)|(congr 1;show Value.bool _=Value.bool _;congr 1;simp_all;done)|(congr 1;show Value.bool _=Value.bool _;congr 1;rw[Bool.eq_iff_iff];simp;omega))
theorem CW (op:Int) (w:World):Calls Tryz.prog 110 #[.int .i64 op] w fun e w'=>e= .returned (.bool (yV op))∧w'=w:=by
 unfold yV;go_enter Tryz.func110,Tryz.ntmps110;go_wp2_with fail;all_goals go_ret
 all_goals refine⟨?_,rfl⟩
 all_goals(first |rfl|(congr 2;simp;done)|(congr 2;simp;omega)|(congr 1;show Value.bool _=Value.bool _;congr 1;simp_all;done)|(congr 1;show Value.bool _=Value.bool _;congr 1;rw[Bool.eq_iff_iff];simp;omega))
def qX (B I:Int):Value:=.agg #[.int .i64 B,.int .i64 I]
theorem K4 {w:World} {b:Nat} {x y:Value} (h0:w.cell? ⟨b,0,none⟩=some x) (h1:w.cell? ⟨b,1,none⟩=some y):(loadVar 28 ⟨b,0,none⟩).run Tryz.prog w= .ok (.agg #[x,y]) w:=by simp[loadVar,go_sem,h0,h1]
theorem jX {fn:Func} {p:Tmp} (h:fn.results=#[.cell p 28]) {tmps:Array Value} {w:World} {b:Nat} {x y:Value} (hp:tmps.getD p undef= .pointer (some ⟨b,0,none⟩)) (h0:w.cell? ⟨b,0,none⟩=some x) (h1:w.cell? ⟨b,1,none⟩=some y):
  (results fn tmps).run Tryz.prog w= .ok (.agg #[x,y]) w:=by
 have hp2:tmps[p]?.getD undef= .pointer (some ⟨b,0,none⟩):=by simpa using hp
 simp only[results,h];simp[hp2,asAddr,K4 h0 h1]
def tZ (k:Nat):Int:=if k=0 then 1 else((k:Int)+15)/16
theorem ab6 (k:Nat):tZ k=agN k:=by unfold tZ agN;split<;>omega
theorem JQ {k:Nat} (hk:k≤1000) (w:World):Calls Tryz.prog 56 #[.int .i64 k] w fun e w'=>e= .returned (qX (tZ k) 1)∧Below w.heap.size w w':=by
 have hS0:=(Sep.nil w).bN 28 #[.int .i64 0,.int .i64 0];have c0:=hS0.bC 0 rfl 0;have c1:=hS0.bC 0 rfl 1;have z0:=hS0.bF 0 rfl 0;have z1:=hS0.bF 0 rfl 1;simp only[gA,gB,gC]at c0 c1;have gZ:=Lh hS0;clear hS0;have q0:(0:Int)≤(k:Int):=by omega
 have q1:(k:Int)≤1000:=by omega
 unfold tZ qX;by_cases h0:k=0
 ·subst h0;rw[if_pos rfl];go_enter Tryz.func56,Tryz.ntmps56;go_wp2_with fail;have bG:=(Sep.nil w).bN 28 #[.int .i64 1,.int .i64 1];have y0:=bG.bC 0 rfl 0;have y1:=bG.bC 0 rfl 1;refine bodyPost_ret (jX rfl rfl y0 y1) rfl ?_;exact⟨rfl,bG.below⟩
 rw[if_neg h0];have b0:((k:Int)==0)=false:=by rw[beq_eq_false_iff_ne];omega
 have e0:Int.tdiv ((k:Int)+15) 16=((k:Int)+15)/16:=Int.tdiv_eq_ediv_of_nonneg (by omega);go_enter Tryz.func56,Tryz.ntmps56;go_wp2_with fail;have bG:=(Sep.nil w).bN 28 #[.int .i64 (((k:Int)+15)/16),.int .i64 1];have y0:=bG.bC 0 rfl 0;have y1:=bG.bC 0 rfl 1;refine bodyPost_ret (jX rfl rfl y0 y1) rfl ?_;exact⟨rfl,bG.below⟩
set_option maxRecDepth 100000 in
theorem UE {n:Nat} (hn:n≤1048576) (w:World):Calls Tryz.prog 59 #[.int .i64 n] w fun e w'=>e= .returned (qX (qA n) 1)∧Below w.heap.size w w':=by
 have hS0:=(Sep.nil w).bN 28 #[.int .i64 0,.int .i64 0];have c0:=hS0.bC 0 rfl 0;have c1:=hS0.bC 0 rfl 1;have z0:=hS0.bF 0 rfl 0;have z1:=hS0.bF 0 rfl 1;simp only[gA,gB,gC]at c0 c1;have gZ:=Lh hS0;clear hS0;have e0:Int.tdiv ((n:Int)+511) 512=((n:Int)+511)/512:=Int.tdiv_eq_ediv_of_nonneg (by omega);have hf:qA n=if 8<((n:Int)+511)/512 then((n:Int)+511)/512+1 else((n:Int)+511)/512:=by unfold qA;(have e1:((n:Int)+512-1)=(n:Int)+511:=by omega);first |rfl|(rw[e1])
 have q0:(0:Int)≤(n:Int):=by omega
 have q1:(n:Int)≤1048576:=by omega
 have q2:0≤((n:Int)+511)/512∧((n:Int)+511)/512≤2049:=by omega
 rw[hf];obtain⟨b,hb⟩:∃b,((n:Int)+511)/512=b:=⟨_,rfl⟩;rw[hb]at e0 q2 ⊢;obtain⟨q3,q4⟩:=q2;clear hb hf;unfold qX;by_cases h8:8<b
 ·rw[if_pos h8];go_enter Tryz.func59,Tryz.ntmps59;go_wp2_with fail;have bG:=(Sep.nil w).bN 28 #[.int .i64 (b+1),.int .i64 1];have y0:=bG.bC 0 rfl 0;have y1:=bG.bC 0 rfl 1;refine bodyPost_ret (jX rfl rfl y0 y1) rfl ?_;exact⟨rfl,bG.below⟩
 rw[if_neg h8];go_enter Tryz.func59,Tryz.ntmps59;go_wp2_with fail;have bG:=(Sep.nil w).bN 28 #[.int .i64 b,.int .i64 1];have y0:=bG.bC 0 rfl 0;have y1:=bG.bC 0 rfl 1;refine bodyPost_ret (jX rfl rfl y0 y1) rfl ?_;exact⟨rfl,bG.below⟩
theorem agQ (w:World) (B I C J:Int):Hid (∃hS:Sep w (((w.alloc (.cells #[.int .i64 B,.int .i64 I] 28)).alloc (.cells #[.int .i64 C,.int .i64 J] 28)).alloc (.cells #[.int .i64 0,.int .i64 0] 28)) [.box (w.heap.size+1+1) 28 #[.int .i64 0,.int .i64 0],.box (w.heap.size+1) 28 #[.int .i64 C,.int .i64 J],.box w.heap.size 28 #[.int .i64 B,.int .i64 I]],True):=by refine Lh ⟨?_,trivial⟩;have h:=(((Sep.nil w).bN 28 #[.int .i64 B,.int .i64 I]).bN 28 #[.int .i64 C,.int .i64 J]).bN 28 #[.int .i64 0,.int .i64 0];simp only[World.size_alloc]at h;exact h
theorem NA {B I C J:Int} (h1: -1000000≤B∧B≤1000000) (h2: -1000000≤I∧I≤1000000) (h3: -1000000≤C∧C≤1000000) (h4: -1000000≤J∧J≤1000000) (w:World):
  Calls Tryz.prog 58 #[qX B I,qX C J] w fun e w'=>e= .returned (qX (B+C) (I+J))∧Below w.heap.size w w':=by
 obtain⟨hS0,_⟩:=(agQ w B I C J).out;have c0:=hS0.bC 0 rfl 0;have c1:=hS0.bC 0 rfl 1;have c2:=hS0.bC 1 rfl 0;have c3:=hS0.bC 1 rfl 1;have c4:=hS0.bC 2 rfl 0;have c5:=hS0.bC 2 rfl 1;have z0:=hS0.bF 0 rfl 0;have z1:=hS0.bF 0 rfl 1;simp only[gA,gB,gC]at c0 c1 c2 c3 c4 c5;have gZ:=Lh hS0;clear hS0;obtain⟨a1,a2⟩:=h1;obtain⟨a3,a4⟩:=h2;obtain⟨a5,a6⟩:=h3;obtain⟨a7,a8⟩:=h4;unfold qX;go_enter Tryz.func58,Tryz.ntmps58;go_wp2_with fail;have bG:=(((Sep.nil w).bN 28 #[.int .i64 B,.int .i64 I]).bN 28 #[.int .i64 C,.int .i64 J]).bN 28 #[.int .i64 (B+C),.int .i64 (I+J)];simp only[World.size_alloc]at bG;have y0:=bG.bC 0 rfl 0;have y1:=bG.bC 0 rfl 1;refine bodyPost_ret (jX rfl rfl y0 y1) rfl ?_;exact⟨rfl,bG.below⟩
end Go.Proofs.YteihmbaimbogaaaGreat
