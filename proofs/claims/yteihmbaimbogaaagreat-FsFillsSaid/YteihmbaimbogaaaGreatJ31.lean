/- FwB, FwC, FwD, FwE, FwF, FvH, TNode, FvI, laid together. -/
import Derived.Test.YteihmbaimbogaaaGreatJ30
namespace Go.Proofs.YteihmbaimbogaaaGreat
open Go.RowKit
set_option linter.unusedVariables false
set_option linter.unusedSimpArgs false
def mH (path:List UInt8):Int:=if path=[]then 26 else if aP path=true then 0 else 20
set_option maxRecDepth 100000 in
theorem aa8 {path:List UInt8} (hp:path.length≤9223372036854775807) (w:World):
  Calls Tryz.prog 60 #[aM path] w fun e w'=>e=(if mH path=0 then .returned (.tuple #[])else .panicked (eH (mH path)))∧Below w.heap.size w w':=by
 have hv:∀W,Calls Tryz.prog 97 #[aM path] W fun e w'=>e= .returned (.bool (aP path))∧Below W.heap.size W w':=fun W=>by have:=rV ⟨path.toArray⟩ W (by show path.toArray.size≤_;simp;omega);simpa[aM]using this
 unfold mH;by_cases h0:path=[]
 ·subst h0;rw[if_pos rfl,if_neg (by decide)];clear hv;unfold aM;go_enter Tryz.func60,Tryz.ntmps60;go_wp2_with(go_at_call 43;refine(dI _ _).mono ?_;rintro e w7 ⟨rfl,h7⟩;obtain rfl:=h7.symm);exact⟨rfl,rfl,Below.refl _ _⟩
 rw[if_neg h0];have hne:(path==[])=false:=by simpa using h0
 unfold aM at*;cases hvp:aP path with
 |true=>
  rw[if_pos rfl,if_pos rfl];rw[hvp]at hv;go_enter Tryz.func60,Tryz.ntmps60;go_wp2_with(go_at_call 97;refine(hv _).mono ?_;rintro e w7 ⟨rfl,h7⟩)
  go_end0
  exact⟨rfl,h7⟩
 |false=>rw[if_neg (by decide),if_neg (by decide)];rw[hvp]at hv;go_enter Tryz.func60,Tryz.ntmps60;go_wp2_with(first |(go_at_call 97;refine(hv _).mono ?_;rintro e w7 ⟨rfl,h7⟩)|(go_at_call 43;refine(dI _ _).mono ?_;rintro e w6 ⟨rfl,h6⟩;obtain rfl:=h6.symm));exact⟨rfl,rfl,h7⟩
section
variable {w0 w:World} {R:List aU} {f q p:Nat} {S:VS} {a:VA}
theorem Sep.I4 (h:Sep w0 w (bJ f q p S::R)):w.cell? ⟨f,4,none⟩=some (.bool false)∧w.cell? ⟨f,5,none⟩=some (.complex .f64 (fI S.wB) (fI S.wI))∧w.cell? ⟨f,7,none⟩=some (.complex .f64 (fI S.rB) (fI S.rI)):=by obtain⟨sb,SM,fo,hR,h1⟩:=h.mZ;exact⟨h1.bC 0 rfl 4,h1.bC 0 rfl 5,h1.bC 0 rfl 7⟩
theorem aa9 (h:Sep w0 w (bJ f q p S::R)):Calls Tryz.prog 31 #[.pointer (some ⟨f,0,none⟩)] w fun e w'=>e= .returned (fP S.rB S.rI)∧w'=w:=by obtain⟨c4,c5,c7⟩:=h.I4;clear h;unfold fP;go_enter Tryz.func31,Tryz.ntmps31;go_wp2_with fail;go_ret;exact⟨rfl,rfl⟩
theorem abA (hb:cO S.rB) (hi:cO S.rI) (hw:cO S.wB) (hv:cO S.wI) (h1:cO (S.rB-S.wB)) (h2:cO (S.rI-S.wI)) (h:Sep w0 w (bJ f q p S::R)):
  Calls Tryz.prog 17 #[.pointer (some ⟨f,0,none⟩)] w fun e w'=>e= .returned (fP (S.rB-S.wB) (S.rI-S.wI))∧∃n,w'=w.drewN n:=by
 obtain⟨c4,c5,c7⟩:=h.I4;have hsub:=fun W=>LQ 44 S.rB S.rI S.wB S.wI hb hi hw hv h1 h2 W
 clear h hb hi hw hv h1 h2;unfold fP at*;go_enter Tryz.func17,Tryz.ntmps17;go_wp2_with fail;go_quiet (fail);go_wp2_with fail;go_ret;exact⟨rfl,_,rfl⟩
end
section
variable {w0 w:World} {R:List aU} {f q p:Nat} {S:VS} {a:VA}
theorem abB (h:Sep w0 w (bJ f q p S::R)):S.base.D.back=[]:=by obtain⟨_,_,_,hR,_⟩:=h.mZ;exact hR.back
theorem I5 (h:Sep w0 w (bJ f q p S::R)):S.D.ok S.nb:=by obtain⟨_,_,_,hR,_⟩:=h.mZ;exact hR.l8
theorem WG (path:List UInt8):mH path≠11:=by
 unfold mH
 repeat' split
 all_goals decide
theorem abC {path:List UInt8} (h:mH path=0):aP path=true:=by
 unfold mH at h;split at h
 ·cases h
 split at h
 ·assumption
 cases h
end
section
variable {w0 w:World} {R:List aU} {f q p:Nat} {S:VS} {a:VA}
theorem ES {S:VS} {path:List UInt8} {k:Int} (h:eD (aW S.cur S.data 0 0 (splitB path))=some k):k≠0∧k≠11:=by have:=pV h;unfold vR at this;omega
end
end Go.Proofs.YteihmbaimbogaaaGreat
namespace Go.Proofs.YteihmbaimbogaaaGreat
set_option linter.unusedVariables false
set_option linter.unusedSimpArgs false
theorem tT {f:Nat→Int} {n:Nat} {a b:Int} (h:∀i<n,a≤f i∧f i≤b):a*n≤pO f n∧pO f n≤b*n:=by
 induction n with
 |zero=>simp[pO]
 |succ n ih=>rw[lQ];(have h1:=ih fun i hi=>h i (by omega));have h2:=h n (by omega);push_cast;rw[Int.mul_add,Int.mul_add];omega
theorem LI.anK {x:LI} (h:x.fair):0≤eO x.kind x.size∧eO x.kind x.size≤28:=by
 unfold eO;have h1:=h.few;have h2:=h.short;by_cases k1:x.kind=1
 ·rw[if_pos k1,pR k1];omega
 rw[if_neg k1];by_cases k2:x.kind=2
 ·(have e:x.size=x.data.length:=by unfold LI.size;rw[if_neg k1]);rw[if_pos k2,e];split<;>omega
 rw[if_neg k2];omega
section
variable {S:VS} {g:LT}
theorem bI.pW (h:bI S g):S.names≤1024:=h.use.vf.names
theorem bI.WH (h:bI S g):0≤S.wB∧S.wB≤28*S.names∧0≤S.wI∧S.wI≤S.names:=by
 have h1:=tT (f:=fun n=>eO (g n).kind (g n).size) (n:=S.names) (a:=0) (b:=28) fun i hi=>LI.anK (h.fair i hi)
 have h2:=tT (f:=fun n=>kT (g n).kind) (n:=S.names) (a:=0) (b:=1) fun i _=>N7
 rw[h.wB,h.wI];omega
theorem bI.sw (h:bI S g):fD S:=by have:=h.WH;have:=h.pW;exact⟨by omega,by omega,by omega,by omega⟩
theorem bI.afL (h:bI S g):0≤S.nodes∧S.nodes≤448*S.names:=by
 have h1:=tT (f:=fun n=>((g n).aY.length:Int)) (n:=S.names) (a:=0) (b:=448) fun i hi=>⟨by omega,by have:=(h.fair i hi).few;omega⟩
 rw[h.nodes];omega
theorem bI.sv (h:bI S g):lJ S:=by have:=h.afL;have:=h.pW;exact⟨h.sw,by omega,by omega⟩
theorem bI.YU (h:bI S g) {n:Nat} (hn:n<S.names):oF S n:=⟨hn,h.few hn,h.lt n hn⟩
theorem bI.arR (h:bI S g):GA S.cur S.names:=fun n hn=>h.few hn
theorem SN {f:Nat→Int} {n:Nat} (h:∀i<n,0≤f i):0≤pO f n:=by
 induction n with
 |zero=>exact Int.le_refl _
 |succ n ih=>rw[lQ];(have h1:=ih fun i hi=>h i (by omega));have h2:=h n (by omega);omega
theorem KY {g:LT} {n d:Nat} (hd:d<n):((g d).aY.length:Int)≤pO (fun i=>((g i).aY.length:Int)) n:=by
 have h1:=vM (f:=fun i=>((g i).aY.length:Int)) (g:=fun i=>if i=d then 0 else((g i).aY.length:Int)) hd fun i _ e=>if_neg e
 have h2:=SN (f:=fun i=>if i=d then(0:Int)else((g i).aY.length:Int)) (n:=n) fun i hi=>by split<;>omega
 simp only[if_pos]at h1;omega
theorem bI.ajW (h:bI S g) {d:Nat} (hd:d<S.names):((g d).aY.length:Int)≤S.nodes:=by rw[h.nodes];exact KY hd
theorem abD (h:bI S g) {n i:Nat} (hn:n<S.names) (hi:i<16*(aF S.cur n).aB.length):(eX S.cur S.data (aF S.cur n) i).length=32:=by unfold eX uS;have hs:=h.lt n hn _ (pQ (l:=(aF S.cur n).aB) (a:=i/16) (by omega));have hl:=iL h.use.cur (h.use.room hs);rw[List.length_take,List.length_drop,hl];omega
theorem bI.amB (h:bI S g) {n:Nat} (hn:n<S.names) (hk:(g n).kind=1):zP S (aF S.cur n):=by
 have hroom:=h.OQ hn hk;refine⟨h.few hn,hroom,h.lt n hn,fun i hi=>?_⟩;have he:=h.aY n hn hk;have hl:=abD h hn (i:=i) (by omega);have hm:pI (iJ S.cur S.data (aF S.cur n)) i∈(g n).aY:=by rw[he];exact FL (by rw[←he,vH];exact hi)
 have h15:=((h.fair n hn).names _ hm).1;rw[wR hi]at h15;simp only[YC,List.length_take,List.length_drop,hl]at h15;omega
structure Vol (S:VS) (g:LT):Prop where
 ph:bI S g
 ent:∀n<S.names,∀e∈(g n).aY,e.2<S.names
 root:(g 0).kind=1
 few:S.nodes≤256
 rB:S.rB=S.count
 rI:S.rI=S.names
theorem Vol.vw (h:Vol S g):VW S:=
 ⟨h.ph.use.vf,h.ph.n0,fun n hn=>h.ph.few hn,fun n hn=>h.ph.lt n hn,fun n hn hk=>h.ph.amB hn (by rw[←h.ph.kind hn];exact hk),fun n hn hk e he=>by(have hk1:(g n).kind=1:=by rw[←h.ph.kind hn];exact hk);rw[h.ph.aY n hn hk1]at he;exact⟨h.ent n hn e he,((h.ph.fair n hn).names e he).1⟩⟩
theorem Vol.arT (h:Vol S g):(aF S.cur 0).kind=1:=by rw[h.ph.kind h.ph.n0];exact h.root
theorem bI.ajX (h:bI S g) {dir i:Nat} {name:List UInt8} (hd:dir<S.names) (hk:(g dir).kind=1) (hn:name.length≤15) (hi:i<(g dir).aY.length) (hf:(iR (g dir).aY name).1=i):wV S dir name:=by
 have he:=h.aY dir hd hk;have hsz:(aF S.cur dir).size=(g dir).aY.length:=by rw[h.size hd,pR hk]
 refine⟨hd,h.amB hd hk,hn,⟨i,by rw[hsz];exact hi,by rw[he];exact hf⟩,?_,?_⟩
 ·rw[he,hsz];exact((h.fair dir hd).names _ (FL (by omega))).1
 rw[h.len dir hd,jS hk,hsz]
theorem bI.YV (h:bI S g) {dir n:Nat} {name:List UInt8} (hd:dir<S.names) (hk:(g dir).kind=1) (hsz:(g dir).aY.length<448) (hn:name.length≤15) (hm:n≤65535):nL S dir n name:=
 ⟨h.YU hd,by rw[h.size hd,pR hk];exact hsz,hn,hm⟩
theorem kY {z:Int} (h0: -10000000≤z) (h1:z≤10000000):cO z:=by unfold cO;omega
theorem bI.SQ {S1:VS} {g1:LT} (hr:S.rB=S.count∧S.rI=S.names) (hu:dB S) (hL:dY S S1) (h1:bI S1 g1) (hm:S1.m≤40):mG S S1:=by
 have h2:=h1.WH;have h3:=h1.pW;have h4:=hu.nb;have h5:=hL.rB;have h6:=hL.rI;have h7:(S.count:Int)≤4096:=by unfold VS.count;omega
 have h8:=hu.vf.names;refine⟨hL,hm,kY (by omega) (by omega),kY (by omega) (by omega),kY ?_ ?_,kY ?_ ?_⟩
 ·rw[h5,hr.1];omega
 ·rw[h5,hr.1];omega
 ·rw[h6,hr.2];omega
 rw[h6,hr.2];omega
theorem bI.YW (h:bI S g) {dir n:Nat} {name:List UInt8} (hd:dir<S.names) (hk:(g dir).kind=1) {S1:VS} (he:fF S dir name n=some S1):S1.m≤S.m+3:=by
 unfold fF at he;have hsz:(aF S.cur dir).size=(g dir).aY.length:=by rw[h.size hd,pR hk]
 have hl:(aF S.cur dir).aB.length=max 1 (((g dir).aY.length+15)/16):=by rw[h.len dir hd,jS hk]
 split at he
 ·cases he
 rename_i S2 l hf;cases he;have:=(iA hf).1.m;show S2.m+1+1≤_
 rw[this];show S.m+_+1+1≤_
 rw[hsz,hl];omega
theorem bI.ajY (h:bI S g) {dir:Nat} {name:List UInt8} (hd:dir<S.names) (hk:(g dir).kind=1):(bY S dir name).m≤S.m+4:=by
 have hsz:(aF S.cur dir).size=(g dir).aY.length:=by rw[h.size hd,pR hk]
 have hl:(aF S.cur dir).aB.length=max 1 (((g dir).aY.length+15)/16):=by rw[h.len dir hd,jS hk]
 unfold bY;simp only;have h2:=(DJ S (aF S.cur dir) name).m;split
 ·omega
 rename_i S4 l hf;have:=(iA hf).1.m;show S4.m+1≤_
 rw[this];show(yJ S (aF S.cur dir) name).m+_+1≤_
 rw[h2,hsz,hl];omega
theorem anL (S:VS) (n:Nat):(nO S n).m≤S.m+(aF S.cur n).aB.length+1:=by
 obtain⟨S1,h1,h2⟩:=vL (S:=S) (n:=n);rw[h2];have:=(iA h1).1.m;show S1.m+1≤_
 omega
theorem anM {S1:VS} {n:Nat} {bs:List UInt8} (hf:j5 S n bs=some S1):S1.m≤S.m+(aF S.cur n).aB.length+2*((bs.length+511)/512)+1:=by
 unfold j5 at hf;split at hf
 ·cases hf
 rename_i S2 l h1;cases hf;have h2:=(iA h1);have h3:=(mX bs l 0 S2).m;show(j4 bs l 0 S2).m+1≤_
 rw[h3,h2.1.m,h2.2];omega
end
end Go.Proofs.YteihmbaimbogaaaGreat
namespace Go.Proofs.YteihmbaimbogaaaGreat
structure TN where
 path:List UInt8
 file:Int
 mode:Int
deriving DecidableEq
set_option linter.unusedVariables false
set_option linter.unusedSimpArgs false
abbrev Key :=List (List UInt8)
def mR (L:qZ) (name:List UInt8):Option Nat:=(L.find? fun e=>e.1==name).map (·.2)
theorem vS (L:qZ) (name:List UInt8):(∃i,i<L.length∧pI L i=(name,(iR L name).2)∧(iR L name).1=(i:Int)∧mR L name=some (iR L name).2)∨(iR L name=(-1,0)∧mR L name=none):=by
 unfold iR mR;cases h:L.findIdx? fun e=>e.1==name with
 |none=>right;rw[List.findIdx?_eq_none_iff]at h;refine⟨rfl,?_⟩;rw[Option.map_eq_none_iff,List.find?_eq_none];intro x hx;rw[Bool.not_eq_true];exact h x hx
 |some i=>
  left;dsimp only;rw[List.findIdx?_eq_some_iff_getElem]at h;obtain⟨h1,h2,h3⟩:=h;(have e1:L.getD i ([],0)=L[i]:=by rw[gH,gE h1];rfl);(have e2:L[i].1=name:=by simpa using h2);refine⟨i,h1,?_,rfl,?_⟩
  ·unfold pI;rw[e1,←e2]
  rw[Option.map_eq_some_iff];refine⟨L[i],?_,by rw[e1]⟩;rw[List.find?_eq_some_iff_getElem];exact⟨h2,i,h1,rfl,fun j hj=>by simpa using h3 j hj⟩
theorem WI {L M:qZ} (h:L.Perm M) (hn:(M.map (·.1)).Nodup) (name:List UInt8):mR L name=mR M name:=by
 have hnL:(L.map (·.1)).Nodup:=(h.map _).nodup_iff.2 hn;have key:∀(A:qZ),(A.map (·.1)).Nodup→∀c,mR A name=some c↔(name,c)∈A:=fun A hA c=>by
  unfold mR;rw[Option.map_eq_some_iff];constructor
  ·rintro⟨x,h1,h2⟩;have h3:=List.find?_some h1;have h4:=List.mem_of_find?_eq_some h1;(have e:x.1=name:=by simpa using h3);rw[←e,←h2];exact h4
  intro hm;cases hf:A.find? fun e=>e.1==name with
  |none=>have:=List.find?_eq_none.1 hf _ hm;simp at this
  |some x=>
   have h3:=List.find?_some hf;have h4:=List.mem_of_find?_eq_some hf;(have e:x.1=name:=by simpa using h3);refine⟨x,rfl,?_⟩;obtain⟨i,hi,e1⟩:=List.mem_iff_getElem.1 h4;obtain⟨j,hj,e2⟩:=List.mem_iff_getElem.1 hm;have hp:=List.pairwise_iff_getElem.1 hA;rcases Nat.lt_trichotomy i j with h5|h5|h5
   ·have:=hp i j (by simpa using hi) (by simpa using hj) h5;simp only[List.getElem_map,e1,e2]at this;exact absurd e this
   ·subst h5;rw[e1]at e2;rw[e2]
   have:=hp j i (by simpa using hj) (by simpa using hi) h5;simp only[List.getElem_map,e1,e2]at this;exact absurd e.symm this
 cases hM:mR M name with
 |some c=>rw[key L hnL];exact h.mem_iff.2 ((key M hn c).1 hM)
 |none=>
  cases hL:mR L name with
  |none=>rfl
  |some c=>have:=(key M hn c).2 (h.mem_iff.1 ((key L hnL c).1 hL));rw[hM]at this;cases this
def AL (g:LT):Nat→Key→Except Int Nat
 |n,[]=>.ok n
 |n,x::l=>if(g n).kind=1 then(match mR (g n).aY x with|some c=>AL g c l|none=>.error 21)else .error 22
def stepG (g:LT) (x:List UInt8) (n:Nat):Except Int Nat:=if(g n).kind=1 then(match mR (g n).aY x with|some c=>.ok c|none=>.error 21)else .error 22
theorem I6 (g:LT) (x:List UInt8):∀(l:Key) (n:Nat),AL g n (l++[x])=(AL g n l).bind (stepG g x)
 |[],n=>by
  (show AL g n [x]=stepG g x n);unfold AL stepG;split
  ·split<;>rfl
  rfl
 |y::l,n=>by
  rw[List.cons_append];unfold AL;split
  ·split
   ·exact I6 g x l _
   rfl
  rfl
def afM (g:LT) (b:List UInt8):Except Int Nat→Int×Int×Int
 | .error e=>(0,0,e)
 | .ok m=>if(g m).kind=1 then(match mR (g m).aY b with|some c=>((m:Int),(c:Int),0)|none=>((m:Int), -1,0))else(0,0,22)
theorem I7 {S:VS} {g:LT} (h:Vol S g) (b:List UInt8):∀(l:Key) (dir n:Nat),n<S.names→aW S.cur S.data dir n (l++[b])=afM g b (AL g n l)
 |[],dir,n,hn=>by
  (show aW S.cur S.data dir n [b]=(if(g n).kind=1 then(match mR (g n).aY b with|some c=>((n:Int),(c:Int),(0:Int))|none=>((n:Int),(-1:Int),(0:Int)))else((0:Int),(0:Int),(22:Int))));unfold aW;rw[h.ph.kind hn];by_cases hk:(g n).kind=1
  ·rw[if_pos hk,if_pos hk,h.ph.aY n hn hk];rcases vS (g n).aY b with⟨i,_,_,h3,h4⟩|⟨h3,h4⟩
   ·rw[h3,h4,if_pos (by omega)];rfl
   rw[h3,h4,if_neg (by decide)];rfl
  rw[if_neg hk,if_neg hk]
 |x::l,dir,n,hn=>by
  rw[List.cons_append];unfold aW AL;rw[h.ph.kind hn];by_cases hk:(g n).kind=1
  ·rw[if_pos hk,if_pos hk,h.ph.aY n hn hk];rcases vS (g n).aY x with⟨i,h1,h2,h3,h4⟩|⟨h3,h4⟩
   ·rw[h3,h4,if_pos (by omega)];refine I7 h b l n _ ?_;have:=h.ent n hn _ (FL h1);rw[h2]at this;exact this
   rw[h3,h4,if_neg (by decide),if_neg (by simp)];rfl
  rw[if_neg hk,if_neg hk];rfl
theorem pX (p:List UInt8):splitB p=(splitB p).dropLast++[aR p]:=by unfold aR;have h:=fQ p;rw[List.getLastD_eq_getLast?,List.getLast?_eq_some_getLast h];exact(List.dropLast_concat_getLast h).symm
structure FT where
 mode:Int
 bs:List UInt8
def bK (n:TN):Key:=splitB n.path
def dJ (dn:Key→Nat) (φ:Int→Nat) (n:TN):Nat:=if n.file= -1 then dn (bK n)else φ n.file
def fU (ns:List TN) (K:Key):List TN:=ns.filter fun n=>(bK n).dropLast==K
def fH (ns:List TN) (K:Key):Prop:=K=[]∨∃n∈ns,bK n=K∧n.file= -1
structure mI (g:LT) (nm:Nat) (ns:List TN) (fs:List FT) (dn:Key→Nat) (φ:Int→Nat):Prop where
 n0:0<nm
 root:dn []=0
 rk:(g 0).kind=1
 uniq:(ns.map bK).Nodup
 up:∀n∈ns,fH ns (bK n).dropLast
 dir:∀n∈ns,n.file= -1→dn (bK n)<nm∧(g (dn (bK n))).kind=1∧((g (dn (bK n))).mode:Int)=n.mode∧(g (dn (bK n))).links=1
 file:∀n∈ns,n.file≠ -1→0≤n.file∧φ n.file<nm∧(g (φ n.file)).kind=2∧(∃f,fs[n.file.toNat]? =some f∧((g (φ n.file)).mode:Int)=f.mode∧(g (φ n.file)).data=f.bs)∧(g (φ n.file)).links=ns.countP fun m=>decide (m.file=n.file)
 ne0:∀n∈ns,dJ dn φ n≠0
 inj:∀n∈ns,∀m∈ns,dJ dn φ n=dJ dn φ m→n=m∨(n.file≠ -1∧n.file=m.file)
 cover:∀i<nm,(g i).kind≠0→i=0∨∃n∈ns,dJ dn φ n=i
 aY:∀K,fH ns K→(g (dn K)).aY.Perm ((fU ns K).map fun n=>((bK n).getLastD [],dJ dn φ n))
def gW (ns:List TN) (K:Key):Option TN:=ns.find? fun n=>bK n==K
def gU :Option TN→Bool
 |none=>true
 |some n=>decide (n.file= -1)
def WJ (dn:Key→Nat) (φ:Int→Nat):Option TN→Nat
 |none=>0
 |some n=>dJ dn φ n
def stepT (ns:List TN) (K:Key) (c:Option TN):Except Int (Option TN):=if gU c=true then(match gW ns K with|some n=>.ok (some n)|none=>.error 21)else .error 22
def kC (ns:List TN):Nat→Key→Except Int (Option TN)
 |0,_=>.ok none
 |k+1,K=>(kC ns k K.dropLast).bind (stepT ns K)
theorem nG {ns:List TN} {K:Key} {n:TN} (h:gW ns K=some n):n∈ns∧bK n=K:=
 ⟨List.mem_of_find?_eq_some h,by simpa using List.find?_some h⟩
theorem key_inj {ns:List TN} (h:(ns.map bK).Nodup) {n m:TN} (hn:n∈ns) (hm:m∈ns) (e:bK n=bK m):n=m:=by
 obtain⟨i,hi,e1⟩:=List.mem_iff_getElem.1 hn;obtain⟨j,hj,e2⟩:=List.mem_iff_getElem.1 hm;have hp:=List.pairwise_iff_getElem.1 h;rcases Nat.lt_trichotomy i j with h5|h5|h5
 ·have:=hp i j (by simpa using hi) (by simpa using hj) h5;simp only[List.getElem_map,e1,e2]at this;exact absurd e this
 ·subst h5;rw[←e1,←e2]
 have:=hp j i (by simpa using hj) (by simpa using hi) h5;simp only[List.getElem_map,e1,e2]at this;exact absurd e.symm this
theorem O4 (n:TN):bK n≠[]:=fQ _
theorem yP (n:TN):bK n=(bK n).dropLast++[(bK n).getLastD []]:=pX n.path
section
variable {g:LT} {nm:Nat} {ns:List TN} {fs:List FT} {dn:Key→Nat} {φ:Int→Nat}
theorem WK (h:(ns.map bK).Nodup) (K:Key):(((fU ns K).map fun n=>((bK n).getLastD [],dJ dn φ n)).map (·.1)).Nodup:=by
 rw[List.map_map];have h1:((fU ns K).map bK).Nodup:=h.sublist (List.Sublist.map _ List.filter_sublist);have h2:∀n∈fU ns K,bK n=K++[(bK n).getLastD []]:=fun n hn=>by
  have:=(List.mem_filter.1 hn).2;have e:(bK n).dropLast=K:=by simpa using this
  conv=>lhs;rw[yP n,e]
 rw[List.nodup_iff_pairwise_ne,List.pairwise_map]at h1 ⊢;refine List.Pairwise.imp_of_mem (fun {a b} ha hb hab e=>hab ?_) h1;have e2:(bK a).getLastD []=(bK b).getLastD []:=e;rw[h2 a ha,h2 b hb,e2]
theorem mI.find (h:mI g nm ns fs dn φ) {K:Key} (hK:fH ns K) (b:List UInt8):mR (g (dn K)).aY b=(gW ns (K++[b])).map (dJ dn φ):=by
 have hu:=WK (dn:=dn) (φ:=φ) h.uniq K;rw[WI (h.aY K hK) hu];cases hn:gW ns (K++[b])with
 |some n=>
  obtain⟨h1,h2⟩:=nG hn;have hk:n∈fU ns K:=List.mem_filter.2 ⟨h1,by rw[h2,List.dropLast_concat];simp⟩;(have hm:(b,dJ dn φ n)∈(fU ns K).map fun n=>((bK n).getLastD [],dJ dn φ n):=List.mem_map.2 ⟨n,hk,by rw[h2];simp⟩);unfold mR;cases hf:((fU ns K).map fun n=>((bK n).getLastD [],dJ dn φ n)).find? fun e=>e.1==b with
  |none=>have:=List.find?_eq_none.1 hf _ hm;simp at this
  |some x=>have h3:=List.mem_of_find?_eq_some hf;(have h4:x.1=b:=by simpa using List.find?_some hf);obtain⟨m,hm1,hm2⟩:=List.mem_map.1 h3;(have e1:(bK m).getLastD []=b:=by rw[←h4,←hm2]);(have e2:(bK m).dropLast=K:=by simpa using(List.mem_filter.1 hm1).2);(have e3:bK m=bK n:=by rw[h2,yP m,e1,e2]);have:=key_inj h.uniq (List.mem_filter.1 hm1).1 h1 e3;rw[←hm2,this];rfl
 |none=>unfold mR;rw[Option.map_none,Option.map_eq_none_iff,List.find?_eq_none];intro x hx hb;obtain⟨m,hm1,hm2⟩:=List.mem_map.1 hx;(have e1:(bK m).getLastD []=b:=by rw[←hm2]at hb;simpa using hb);(have e2:(bK m).dropLast=K:=by simpa using(List.mem_filter.1 hm1).2);(have e3:bK m=K++[b]:=by rw[yP m,e1,e2]);have:=List.find?_eq_none.1 hn m (List.mem_filter.1 hm1).1;simp[e3]at this
theorem sF (h:mI g nm ns fs dn φ) {K:Key} {c:Option TN} (hc:kC ns K.length K= .ok c):(c=none∧K=[])∨∃n,c=some n∧n∈ns∧bK n=K:=by
 rcases List.eq_nil_or_concat K with e|⟨l,x,e⟩
 ·subst e;cases hc;exact .inl ⟨rfl,rfl⟩
 rw[List.concat_eq_append]at e;subst e;rw[List.length_append,List.length_singleton]at hc;unfold kC at hc;cases h1:kC ns l.length (l++[x]).dropLast with
 |error e=>rw[h1]at hc;cases hc
 |ok d=>
  rw[h1]at hc;change stepT ns (l++[x]) d= .ok c at hc;unfold stepT at hc;split at hc
  ·split at hc
   ·rename_i n hn;cases hc;obtain⟨h2,h3⟩:=nG hn;exact .inr ⟨n,rfl,h2,h3⟩
   cases hc
  cases hc
theorem mI.walk (h:mI g nm ns fs dn φ):∀(k:Nat) (K:Key),K.length=k→AL g 0 K=(kC ns k K).map (WJ dn φ)
 |0,K,hl=>by obtain rfl:K=[]:=List.eq_nil_of_length_eq_zero hl;rfl
 |k+1,K,hl=>by
  rcases List.eq_nil_or_concat K with e|⟨l,x,e⟩
  ·subst e;cases hl
  rw[List.concat_eq_append]at e;subst e;rw[List.length_append,List.length_singleton]at hl;(have hlk:l.length=k:=by omega);have ih:=mI.walk h k l hlk;rw[I6,ih];(show _=Except.map (WJ dn φ) ((kC ns k (l++[x]).dropLast).bind (stepT ns (l++[x]))));rw[List.dropLast_concat];cases h1:kC ns k l with
  |error e=>rfl
  |ok c=>
   (show stepG g x (WJ dn φ c)=(stepT ns (l++[x]) c).map (WJ dn φ));rw[←hlk]at h1;rcases sF h h1 with⟨rfl,rfl⟩|⟨n,rfl,hn1,hn2⟩
   ·unfold stepG stepT;have hf:=h.find (K:=[]) (.inl rfl) x;rw[h.root]at hf;(show(if(g 0).kind=1 then _ else _)=_);rw[if_pos h.rk,if_pos (show gU none=true from rfl)];(show(match mR (g 0).aY x with|some c=>_|none=>_)=_);rw[hf];cases gW ns ([]++[x])<;>rfl
   unfold stepG stepT;(show(if(g (dJ dn φ n)).kind=1 then _ else _)=_);by_cases hd:n.file= -1
   ·(have e1:dJ dn φ n=dn l:=by unfold dJ;rw[if_pos hd,hn2]);have hf:=h.find (K:=l) (.inr ⟨n,hn1,hn2,hd⟩) x;have hk:=(h.dir n hn1 hd).2.1;rw[hn2]at hk;rw[e1,if_pos hk,if_pos (by unfold gU;simp[hd])];(show(match mR (g (dJ dn φ n)).aY x with|some c=>_|none=>_)=_);rw[e1,hf];cases gW ns (l++[x])<;>rfl
   (have e1:dJ dn φ n=φ n.file:=by unfold dJ;rw[if_neg hd]);have hk:=(h.file n hn1 hd).2.2.1;rw[e1,if_neg (by rw[hk];decide),if_neg (by unfold gU;simp[hd])];rfl
end
end Go.Proofs.YteihmbaimbogaaaGreat
