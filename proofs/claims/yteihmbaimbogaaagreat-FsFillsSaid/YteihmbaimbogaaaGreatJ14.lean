/- FtF, FtG, FtH, FtI, FtJ, StrV, laid together. -/
import Derived.Test.YteihmbaimbogaaaGreatJ13
import Derived.Deep.LoopGhost
namespace Go.Proofs.YteihmbaimbogaaaGreat
open Go.RowKit
set_option linter.unusedVariables false
set_option linter.unusedSimpArgs false
def kQ :Nat→VS→List Nat→VS×List Nat
 |0,S,l=>(S,l)
 |k+1,S,l=>kQ k (S.put 1 (sW (bk S.cur 1) (l.getLastD 0))) l.dropLast
def FI :Nat→VS→List Nat→Option (VS×List Nat)
 |0,S,l=>some (S,l)
 |k+1,S,l=>match iC (bk S.cur 1) S.count with
  |none=>none
  |some j=>FI k (S.put 1 (jB (bk S.cur 1) j)) (l++[j])
def iD (S:VS) (l:List Nat) (n:Nat):Option (VS×List Nat):=
 FI (n-(kQ (l.length-n) S l).2.length) (kQ (l.length-n) S l).1 (kQ (l.length-n) S l).2
structure dY (S S':VS):Prop where
 nb:S'.nb=S.nb
 names:S'.names=S.names
 D:S'.D=S.D
 rB:S'.rB=S.rB
 rI:S'.rI=S.rI
theorem dY.refl (S:VS):dY S S:=⟨rfl,rfl,rfl,rfl,rfl⟩
theorem dY.trans {S T U:VS} (h:dY S T) (g:dY T U):dY S U:=⟨g.nb.trans h.nb,g.names.trans h.names,g.D.trans h.D,g.rB.trans h.rB,g.rI.trans h.rI⟩
theorem dY.put {S T:VS} (h:dY S T) (k:Nat) (bs:List UInt8):dY S (T.put k bs):=h.trans ⟨rfl,rfl,rfl,rfl,rfl⟩
theorem dY.count {S T:VS} (h:dY S T):T.count=S.count:=by unfold VS.count VS.data;rw[h.nb,h.names]
theorem dY.vf {S T:VS} (h:dY S T) (hF:VF S):VF T:=⟨by rw[h.names];exact hF.names,by unfold VS.data;rw[h.nb,h.names];exact hF.room⟩
structure alQ (f q p:Nat) (S:VS) (x:VI) (n bx:Nat) (w0 wr:World) (R:List aU) (S1:VS) (l:List Nat) (a1:VA) (v:Value):Prop where
 eq:kQ (l.length-n) S1 l=kQ (x.aB.length-n) S x.aB
 like:dY S S1
 lt:∀s∈l,s<S.count
 few:l.length≤28
 ok:VC S1 a1
 sep:Sep w0 wr (aG f q p S1 a1:: .box bx 118 (aL x v)::aQ v (dR l)::R)
structure UpI (f q p:Nat) (S:VS) (x:VI) (n bx:Nat) (w0 wr:World) (R:List aU) (S1:VS) (l:List Nat) (a1:VA) (v:Value):Prop where
 eq:FI (n-l.length) S1 l=iD S x.aB n
 like:dY S S1
 lt:∀s∈l,s<S.count
 few:l.length≤n
 ok:VC S1 a1
 sep:Sep w0 wr (aG f q p S1 a1:: .box bx 118 (aL x v)::aQ v (dR l)::R)
theorem aiY {l:List Nat} {m:Nat} (h:l.length=m+1):∃s,l=l.dropLast++[s]∧l.getLastD 0=s∧l[m]? =some s∧l.dropLast.length=m:=by
 have hne:l≠[]:=by intro e;rw[e]at h;cases h
 refine⟨l.getLast hne,(List.dropLast_concat_getLast hne).symm,?_,?_,by rw[List.length_dropLast,h];rfl⟩
 ·rw[List.getLastD_eq_getLast?,List.getLast?_eq_some_getLast hne];rfl
 have:=List.getLast_eq_getElem hne;rw[this,gE (by omega)];simp[h]
section
variable {w0 w:World} {R:List aU} {f q p:Nat} {S:VS} {a:VA}
def mD (f q p:Nat) (S:VS) (x:VI) (n bx:Nat) (w0:World) (R:List aU) (e:Ending) (w':World):Prop:=
 match iD S x.aB n with
 |some (S1,l)=>e= .returned (.tuple #[])∧∃a1 v,dY S S1∧VC S1 a1∧Sep w0 w' (aG f q p S1 a1:: .box bx 118 (aL x v)::aQ v (dR l)::R)
 |none=>e= .panicked (eH 27)∧∃S1 a1,dY S S1∧VC S1 a1∧Sep w0 w' (aG f q p S1 a1::R)
set_option maxRecDepth 100000 in
set_option maxHeartbeats 2000000 in
theorem tC {n bx:Nat} {x:VI} {v:Value} (hC:VC S a) (hF:VF S) (hx:x.aB.length≤28) (hn:n≤28) (hsp:∀s∈x.aB,s<S.count) (h:Sep w0 w (aG f q p S a:: .box bx 118 (aL x v)::aQ v (dR x.aB)::R)):
  Calls Tryz.prog 89 #[.pointer (some ⟨f,0,none⟩),.pointer (some ⟨bx,0,none⟩),.int .i64 n] w (mD f q p S x n bx w0 R):=by
 have hI:Hid (∃S1 l a1 v,alQ f q p S x n bx w0 w R S1 l a1 v∧x.aB.length=l.length):=Lh ⟨S,x.aB,a,v,⟨rfl,.refl S,hsp,hx,hC,h⟩,rfl⟩;have hF':=Lh hF;have n28:(n:Int)≤28:=by omega
 have n0:(0:Int)≤n:=by omega
 clear hC hF hsp h;go_enter Tryz.func89,Tryz.ntmps89;go_wp2_with fail;go_loopg[12] x.aB.length (fun g u wr=>Hid (∃S1 l a1 v,alQ f q p S x n bx w0 wr R S1 l a1 v∧g=l.length))
 case atStart=>exact hI
 obtain⟨S1,l,a1,v1,hD,rfl⟩:=hrel.out;obtain⟨m,hm⟩:∃m,m=l.length:=⟨_,rfl⟩;have hll:(dR l).length=l.length:=by unfold dR;exact List.length_map ..
 obtain⟨A1,c1,e1⟩:=hD.sep.dA 2 rfl;rw[hll,←hm]at e1;subst e1;have d4:wr.cell? ⟨bx,4,none⟩=some (.slice A1 m c1):=by rw[hD.sep.bC 1 rfl 4];rfl
 have m28:(m:Int)≤28:=by have:=hD.few;omega
 have hD':=Lh hD;have hm':=Lh hm;clear hD hrel hI hll hm;by_cases hgt:n<m
 case neg=>
  (have q1:(m:Int)≤n:=by omega);have hU0:Hid (∃S2 l2 a2 v2,UpI f q p S x n bx w0 wr R S2 l2 a2 v2∧n-m=n-l2.length):=Lh ⟨S1,l,a1,_,⟨by have e1:=hD'.out.eq;rw[←hm'.out,show m-n=0 by omega]at e1;have e2:(S1,l)=kQ (x.aB.length-n) S x.aB:=e1;unfold iD;rw[←e2],hD'.out.like,hD'.out.lt,by rw[←hm'.out];omega,hD'.out.ok,hD'.out.sep⟩,by rw[hm'.out]⟩;clear hD';go_wp2_with fail;clear d4;go_loopg[49] (n-m) (fun g u wr=>Hid (∃S2 l2 a2 v2,UpI f q p S x n bx w0 wr R S2 l2 a2 v2∧g=n-l2.length))
  case atStart=>exact hU0
  clear hU0 hm' q1 m28;obtain⟨S2,l2,a2,v2,hU,rfl⟩:=hrel.out;obtain⟨k,hk⟩:∃k,k=l2.length:=⟨_,rfl⟩;(have hll:(dR l2).length=l2.length:=by unfold dR;exact List.length_map ..);obtain⟨A2,c2,e2⟩:=hU.sep.dA 2 rfl;rw[hll,←hk]at e2;subst e2;(have d5:wr.cell? ⟨bx,4,none⟩=some (.slice A2 k c2):=by rw[hU.sep.bC 1 rfl 4];rfl);have U6:=Lh hU;have hk':=Lh hk;(have kn:(k:Int)≤n:=by have:=hU.few;omega);(have k0:(0:Int)≤k:=by omega);clear hU hrel hll hk;by_cases hlt:k<n
  case neg=>
   (have q1:(n:Int)≤k:=by omega);have hfit:Hid (iD S x.aB n=some (S2,l2)):=Lh (by have e1:=U6.out.eq;rw[←hk'.out,show n-k=0 by omega]at e1;exact e1.symm);go_wp2_with fail
   go_end0
   unfold mD;rw[hfit.out];exact⟨rfl,a2,_,U6.out.like,U6.out.ok,U6.out.sep⟩
  (have q1:(k:Int)<n:=by omega);(have htk:=fun W (hW:Sep w0 W (aG f q p S2 a2:: .box bx 118 (aL x (.slice A2 k c2))::aQ (.slice A2 k c2) (dR l2)::R))=>adO U6.out.ok (U6.out.like.vf hF'.out) hW);unfold NZ at htk;rw[U6.out.like.count]at htk;have hE:wr.drew.cell? ⟨bx,4,none⟩=some (.slice A2 k c2):=d5;cases hfr:iC (bk S2.cur 1) S.count with
  |none=>
   rw[hfr]at htk;have hfit:Hid (iD S x.aB n=none):=Lh (by have e1:=U6.out.eq;rw[←hk'.out,show n-k=(n-k-1)+1 by omega]at e1;rw[←e1];unfold FI;rw[U6.out.like.count,hfr]);replace htk:=Lh htk;clear hfr;go_wp2_with fail;refine aN (S:=fun w'=>w'.cell? ⟨bx,4,none⟩=some (.slice A2 k c2)) 13 (by kernel_rfl) ?_;simp only[List.size_toArray,List.length_cons,List.length_nil,Nat.reduceAdd];refine aA (i:=0) (v:=?_) hE rfl ?_ ?_;rotate_left
   ·rintro w e1;go_simp;try with_reducible rfl
   simp only[Act.put,gD];refine aA (i:=1) (v:=?_) hE rfl ?_ ?_;rotate_left
   ·rintro w e1;go_simp;try with_reducible rfl
   simp only[Act.put,gD];refine aA (i:=2) (v:=?_) hE rfl ?_ ?_;rotate_left
   ·rintro w e1;go_simp;try with_reducible rfl
   simp only[Act.put,gD];refine aA (i:=3) (v:=?_) hE rfl ?_ ?_;rotate_left
   ·rintro w e1;go_simp;try with_reducible rfl
   simp only[Act.put,gD];refine aA (i:=4) (v:=?_) hE rfl ?_ ?_;rotate_left
   ·rintro w e1;go_simp;try with_reducible rfl
   simp only[Act.put,gD];refine aA (i:=5) (v:=?_) hE rfl ?_ ?_;rotate_left
   ·rintro w e1;go_simp;try with_reducible rfl
   simp only[Act.put,gD];refine aA (i:=6) (v:=?_) hE rfl ?_ ?_;rotate_left
   ·rintro w e1;go_simp;try with_reducible rfl
   simp only[Act.put,gD];refine aA (i:=7) (v:=?_) hE rfl ?_ ?_;rotate_left
   ·rintro w e1;go_simp;try with_reducible rfl
   simp only[Act.put,gD];refine aC (i:=8) (by kernel_rfl) rfl (fun K hK=>?_);go_simp;go_at_call 141;refine(htk.out _ U6.out.sep.drew).mono ?_;rintro e w3 ⟨rfl,a3,OC,h3⟩;refine⟨rfl,?_⟩;unfold mD;rw[hfit.out];have h5:Sep w0 w3 (.box bx 118 (aL x (.slice A2 k c2))::aQ (.slice A2 k c2) (dR l2)::aG f q p S2 a3::R):=Sep.bZ [1,2,0] h3 (by decide) (by simp);exact⟨rfl,S2,a3,U6.out.like,OC,h5.drop 2⟩
  |some j=>
   rw[hfr]at htk;have hjc:=(tF hfr).1;have heq:Hid (FI (n-(k+1)) (S2.put 1 (jB (bk S2.cur 1) j)) (l2++[j])=iD S x.aB n):=Lh (by
    have e1:=U6.out.eq;rw[←hk'.out,show n-k=(n-(k+1))+1 by omega]at e1;rw[←e1]
    conv=>rhs;unfold FI
    rw[U6.out.like.count,hfr])
   obtain⟨i0,iM,hz0,hz1,hz2⟩:=iQ (show(Tryz.prog.info? 3).map (fun i=>(i.zero,i.size,i.bytes))=some (some (.int .i64 0),1,8)from zN);(have hll:(dR l2).length=k:=by unfold dR;rw[List.length_map];exact hk'.out.symm);replace htk:=Lh htk;have avQ:=Lh hjc;have aqC:=Lh hll;clear hfr hjc hll;go_wp2_with fail;refine aN (S:=fun w'=>w'.cell? ⟨bx,4,none⟩=some (.slice A2 k c2)) 13 (by kernel_rfl) ?_;simp only[List.size_toArray,List.length_cons,List.length_nil,Nat.reduceAdd];refine aA (i:=0) (v:=?_) hE rfl ?_ ?_;rotate_left
   ·rintro w e1;go_simp;try with_reducible rfl
   simp only[Act.put,gD];refine aA (i:=1) (v:=?_) hE rfl ?_ ?_;rotate_left
   ·rintro w e1;go_simp;try with_reducible rfl
   simp only[Act.put,gD];refine aA (i:=2) (v:=?_) hE rfl ?_ ?_;rotate_left
   ·rintro w e1;go_simp;try with_reducible rfl
   simp only[Act.put,gD];refine aA (i:=3) (v:=?_) hE rfl ?_ ?_;rotate_left
   ·rintro w e1;go_simp;try with_reducible rfl
   simp only[Act.put,gD];refine aA (i:=4) (v:=?_) hE rfl ?_ ?_;rotate_left
   ·rintro w e1;go_simp;try with_reducible rfl
   simp only[Act.put,gD];refine aA (i:=5) (v:=?_) hE rfl ?_ ?_;rotate_left
   ·rintro w e1;go_simp;try with_reducible rfl
   simp only[Act.put,gD];refine aA (i:=6) (v:=?_) hE rfl ?_ ?_;rotate_left
   ·rintro w e1;go_simp;try with_reducible rfl
   simp only[Act.put,gD];refine aA (i:=7) (v:=?_) hE rfl ?_ ?_;rotate_left
   ·rintro w e1;go_simp;try with_reducible rfl
   simp only[Act.put,gD];refine aC (i:=8) (by kernel_rfl) rfl (fun K hK=>?_);go_simp;go_at_call 141;refine(htk.out _ U6.out.sep.drew).mono ?_;rintro e w3 ⟨rfl,a3,OC,h3⟩;(have d6:w3.cell? ⟨bx,4,none⟩=some (.slice A2 k c2):=by rw[h3.bC 1 rfl 4];rfl);have h4:=h3.alloc (.cells #[.int .i64 (j:Nat)] 3);(have d7:(w3.alloc (.cells #[.int .i64 (j:Nat)] 3)).cell? ⟨bx,4,none⟩=some (.slice A2 k c2):=by rw[h4.bC 1 rfl 4];rfl);have hY:Hid (Sep w0 (w3.alloc (.cells #[.int .i64 (j:Nat)] 3)) (.sl 3 1 (.slice A2 k c2) k ((dR l2).map (.int .i64))::aG f q p (S2.put 1 (jB (bk S2.cur 1) j)) a3:: .box bx 118 (aL x (.slice A2 k c2))::R)):=Lh (by have h5:Sep w0 (w3.alloc (.cells #[.int .i64 (j:Nat)] 3)) (aQ (.slice A2 k c2) (dR l2)::aG f q p (S2.put 1 (jB (bk S2.cur 1) j)) a3:: .box bx 118 (aL x (.slice A2 k c2))::R):=Sep.bZ [2,0,1] h4 (by decide) (by simp);unfold aQ at h5;rw[aqC.out]at h5;exact h5);have hrd:=iN w3 #[.int .i64 (j:Nat)] 3;have adV:Hid (Rd (w3.alloc (.cells #[.int .i64 (j:Nat)] 3)) 1 (.slice (some ⟨w3.heap.size,0,none⟩) 1 1) 1 [.int .i64 (j:Nat)]):=Lh ⟨rfl,_,_,rfl,Nat.le_refl _,by unfold maxLen;omega,fun _=>⟨_,rfl,by simp,hrd _ rfl⟩⟩;have avR:=Lh OC;clear h3 h4 hrd htk hE OC d5;dsimp only;refine hK _ _ (fun _=>d6) ?_;clear hK K;(try simp only[Act.put,gD]);refine aC (i:=9) (by kernel_rfl) rfl (fun K hK=>?_);go_simp;refine hK _ _ (fun _=>d7) ?_;clear hK K;(try simp only[Act.put,gD]);refine aC (i:=10) (by kernel_rfl) rfl (fun K hK=>?_);refine dD 0 (by rfl) _ _ 61 (by rfl) 3 i0 (.int .i64 0) 1 8 Tryz.underlying61 iM hz0 hz1 hz2 rfl (by decide) hY.out (.slice A2 k c2) k _ (by rfl) (by rfl) (.slice (some ⟨w3.heap.size,0,none⟩) 1 1) 1 [.int .i64 (j:Nat)] (by rfl) adV.out (by simp[Value.oneCell']) (by unfold maxLen;omega) (by omega) ?_;intro v4 w4 iW hz4;(have d8:w4.cell? ⟨bx,4,none⟩=some (.slice A2 k c2):=by rw[iW.bC 2 rfl 4];rfl);have f8:w4.frozen? ⟨bx,4,none⟩=false:=iW.bF 2 rfl 4;obtain⟨A4,c4,e4⟩:=iW.dA 0 rfl;subst e4;have hS5:=Lh (iW.bS 2 rfl 4 (.slice A4 (k+1) c4));clear iW hY adV d6 d7;refine hK _ _ (fun _=>d8) ?_;clear hK K;(try simp only[Act.put,gD]);refine aC (i:=11) (by kernel_rfl) rfl (fun K hK=>?_);go_simp;refine hK _ _ (fun _=>d8) ?_;clear hK K;(try simp only[Act.put,gD]);refine aC (i:=12) (by kernel_rfl) rfl (fun K hK=>?_);go_simp;refine hK _ _ (fun _=>d8) ?_;clear hK K;(try simp only[Act.put,gD]);refine aC (i:=13) (by kernel_rfl) rfl (fun K hK=>?_);go_simp;refine hK _ _ (fun h=>absurd rfl h) ?_;clear hK K;(try simp only[Act.put,gD]);refine aO (by kernel_rfl) ?_ _;go_wp2_with fail;go_roundg (n-(k+1))
   case measure=>rw[←hk'.out];omega
   (have h6:Sep w0 (w4.setCell ⟨bx,4,none⟩ (.slice A4 (k+1) c4)) (aG f q p (S2.put 1 (jB (bk S2.cur 1) j)) a3:: .box bx 118 (aL x (.slice A4 (k+1) c4))::aQ (.slice A4 (k+1) c4) (dR (l2++[j]))::R):=by have h7:Sep w0 _ _:=Sep.bZ [1,2,0] hS5.out (by decide) (by simp);(have e9:dR (l2++[j])=dR l2++[((j:Nat):Int)]:=by unfold dR;rw[List.map_append];rfl);rw[e9];unfold aQ;rw[List.length_append,aqC.out,List.map_append];exact h7);(have hl9:(l2++[j]).length=k+1:=by rw[List.length_append,←hk'.out];rfl);exact Lh ⟨S2.put 1 (jB (bk S2.cur 1) j),l2++[j],a3,.slice A4 (k+1) c4,⟨by rw[hl9];exact heq.out,U6.out.like.put _ _,fun t ht=>by
    rcases List.mem_append.1 ht with h|h
    ·exact U6.out.lt t h
    rw[List.mem_singleton]at h;rw[h];exact avQ.out,by rw[hl9];omega,avR.out,by first |exact h6|exact h6.drew⟩,by rw[hl9]⟩
 obtain⟨k,hk⟩:∃k,m=k+1:=⟨m-1,by omega⟩;obtain⟨s,hl1,hl2,hl3,hl4⟩:=aiY (l:=l) (m:=k) (by rw[←hm'.out];exact hk);have hll:(dR l).length=m:=by unfold dR;rw[List.length_map];exact hm'.out.symm
 obtain⟨g,cap,e,hg,_,hcap,hmax⟩:=hD'.out.sep.iP 2 rfl (by rw[hll];omega);rw[hll]at e;cases e;have hS0:Sep w0 wr (aG f q p S1 a1:: .box bx 118 (aL x (.slice (some ⟨g,0,none⟩) m c1)):: .sl 3 1 (.slice (some ⟨g,0,none⟩) m c1) m ((dR l).map (.int .i64))::R):=by have:=hD'.out.sep;unfold aQ at this;rw[hll]at this;exact this
 have ck:wr.cell? ⟨g,k,none⟩=some (.int .i64 (s:Nat)):=by rw[hS0.cellAt 2 rfl k (by omega)];unfold dR;rw[List.getElem?_map,List.getElem?_map,hl3];rfl
 have hcut:=hS0.FV 2 rfl k (by omega);have hgv:=fun W (hW:Sep w0 W (aG f q p S1 a1:: .box bx 118 (aL x (.slice (some ⟨g,0,none⟩) m c1)):: .sl 3 1 (.slice (some ⟨g,0,none⟩) m c1) m ((dR l).map (.int .i64))::R))=>adL (i:=s) hD'.out.ok (hD'.out.like.vf hF'.out) (by rw[hD'.out.like.count];exact hD'.out.lt s (by rw[hl1];simp)) hW
 have aqD:=Lh hgv;have gZ:=Lh hS0;have q1:(n:Int)<m:=by omega
 have q2:(m:Int)-1=k:=by omega
 have q3:IntKind.i64.wrap (k:Int)=k:=IntWalk.i64_in _ (by omega);have q4:(0:Int)≤k:=by omega
 have q5:(k:Int)<m:=by omega
 have q6:(m:Int)≤c1:=by omega
 have q7:(k:Int)≤c1:=by omega
 have q8:k≤c1:=by omega
 have hl':=Lh (And.intro hl1 (And.intro hl2 (And.intro hl3 hl4)));have hk':=Lh hk;have hE:wr.drew.cell? ⟨bx,4,none⟩=some (.slice (some ⟨g,0,none⟩) m c1)∧wr.drew.cell? ⟨g,k,none⟩=some (.int .i64 (s:Nat)):=⟨d4,ck⟩;clear hgv hS0 hl1 hl2 hl3 hl4 hk hcut hll hg hmax;go_wp2_with fail;refine aN (S:=fun w'=>w'.cell? ⟨bx,4,none⟩=some (.slice (some ⟨g,0,none⟩) m c1)∧w'.cell? ⟨g,k,none⟩=some (.int .i64 (s:Nat))) 16 (by kernel_rfl) ?_;simp only[List.size_toArray,List.length_cons,List.length_nil,Nat.reduceAdd];refine aA (i:=0) (v:=?_) hE rfl ?_ ?_;rotate_left
 ·rintro w ⟨e1,e2⟩;go_simp;try with_reducible rfl
 simp only[Act.put,gD];refine aA (i:=1) (v:=?_) hE rfl ?_ ?_;rotate_left
 ·rintro w ⟨e1,e2⟩;go_simp;try with_reducible rfl
 simp only[Act.put,gD];refine aA (i:=2) (v:=?_) hE rfl ?_ ?_;rotate_left
 ·rintro w ⟨e1,e2⟩;go_simp;try with_reducible rfl
 simp only[Act.put,gD];refine aA (i:=3) (v:=?_) hE rfl ?_ ?_;rotate_left
 ·rintro w ⟨e1,e2⟩;go_simp;try with_reducible rfl
 simp only[Act.put,gD];refine aA (i:=4) (v:=?_) hE rfl ?_ ?_;rotate_left
 ·rintro w ⟨e1,e2⟩;go_simp;try with_reducible rfl
 simp only[Act.put,gD];refine aA (i:=5) (v:=?_) hE rfl ?_ ?_;rotate_left
 ·rintro w ⟨e1,e2⟩;go_simp;try with_reducible rfl
 simp only[Act.put,gD];refine aA (i:=6) (v:=?_) hE rfl ?_ ?_;rotate_left
 ·rintro w ⟨e1,e2⟩;go_simp;try with_reducible rfl
 simp only[Act.put,gD];refine aA (i:=7) (v:=?_) hE rfl ?_ ?_;rotate_left
 ·rintro w ⟨e1,e2⟩;go_simp;try with_reducible rfl
 simp only[Act.put,gD];refine aA (i:=8) (v:=?_) hE rfl ?_ ?_;rotate_left
 ·rintro w ⟨e1,e2⟩;go_simp;try with_reducible rfl
 simp only[Act.put,gD];refine aA (i:=9) (v:=?_) hE rfl ?_ ?_;rotate_left
 ·rintro w ⟨e1,e2⟩;go_simp;try with_reducible rfl
 simp only[Act.put,gD];refine aA (i:=10) (v:=?_) hE rfl ?_ ?_;rotate_left
 ·rintro w ⟨e1,e2⟩;go_simp;try with_reducible rfl
 simp only[Act.put,gD];refine aA (i:=11) (v:=?_) hE rfl ?_ ?_;rotate_left
 ·rintro w ⟨e1,e2⟩;go_simp;try with_reducible rfl
 simp only[Act.put,gD];refine aA (i:=12) (v:=?_) hE rfl ?_ ?_;rotate_left
 ·rintro w ⟨e1,e2⟩;go_simp;try with_reducible rfl
 simp only[Act.put,gD];refine aA (i:=13) (v:=?_) hE rfl ?_ ?_;rotate_left
 ·rintro w ⟨e1,e2⟩;go_simp;try with_reducible rfl
 simp only[Act.put,gD];refine aA (i:=14) (v:=?_) hE rfl ?_ ?_;rotate_left
 ·rintro w ⟨e1,e2⟩;go_simp;try with_reducible rfl
 simp only[Act.put,gD];refine aC (i:=15) (by kernel_rfl) rfl (fun K hK=>?_);go_simp;go_at_call 140;refine(aqD.out _ gZ.out.drew).mono ?_;rintro e w3 ⟨rfl,a2,hC2,h3⟩;have d5:w3.drew.cell? ⟨bx,4,none⟩=some (.slice (some ⟨g,0,none⟩) m c1):=by rw[h3.drew.bC 1 rfl 4];rfl
 have f5:=h3.drew.bF 1 rfl 4;have d6:w3.cell? ⟨bx,4,none⟩=some (.slice (some ⟨g,0,none⟩) m c1)∧w3.cell? ⟨g,k,none⟩=some (.int .i64 (s:Nat)):=⟨d5,by rw[h3.cellAt 2 rfl k (by omega)];unfold dR;rw[List.getElem?_map,List.getElem?_map,hl'.out.2.2.1];rfl⟩;have bG:=Lh h3;replace hC2:=Lh hC2;clear h3 aqD gZ hE ck d4;dsimp only;refine hK _ _ (fun _=>d6) ?_;clear hK K;try simp only[Act.put,gD]
 refine aO (by kernel_rfl) ?_ _;clear d6;go_wp2_with fail;refine aN (S:=fun w'=>w'.cell? ⟨bx,4,none⟩=some (.slice (some ⟨g,0,none⟩) m c1)) 14 (by kernel_rfl) ?_;simp only[List.size_toArray,List.length_cons,List.length_nil,Nat.reduceAdd];refine aA (i:=0) (v:=?_) d5 rfl ?_ ?_;rotate_left
 ·rintro w e1;go_simp;try with_reducible rfl
 simp only[Act.put,gD];refine aA (i:=1) (v:=?_) d5 rfl ?_ ?_;rotate_left
 ·rintro w e1;go_simp;try with_reducible rfl
 simp only[Act.put,gD];refine aA (i:=2) (v:=?_) d5 rfl ?_ ?_;rotate_left
 ·rintro w e1;go_simp;try with_reducible rfl
 simp only[Act.put,gD];refine aA (i:=3) (v:=?_) d5 rfl ?_ ?_;rotate_left
 ·rintro w e1;go_simp;try with_reducible rfl
 simp only[Act.put,gD];refine aA (i:=4) (v:=?_) d5 rfl ?_ ?_;rotate_left
 ·rintro w e1;go_simp;try with_reducible rfl
 simp only[Act.put,gD];refine aA (i:=5) (v:=?_) d5 rfl ?_ ?_;rotate_left
 ·rintro w e1;go_simp;try with_reducible rfl
 simp only[Act.put,gD];refine aA (i:=6) (v:=?_) d5 rfl ?_ ?_;rotate_left
 ·rintro w e1;go_simp;try with_reducible rfl
 simp only[Act.put,gD];refine aA (i:=7) (v:=?_) d5 rfl ?_ ?_;rotate_left
 ·rintro w e1;go_simp;try with_reducible rfl
 simp only[Act.put,gD];refine aA (i:=8) (v:=?_) d5 rfl ?_ ?_;rotate_left
 ·rintro w e1;go_simp;try with_reducible rfl
 simp only[Act.put,gD];refine aA (i:=9) (v:=?_) d5 rfl ?_ ?_;rotate_left
 ·rintro w e1;go_simp;try with_reducible rfl
 simp only[Act.put,gD];refine aA (i:=10) (v:=?_) d5 rfl ?_ ?_;rotate_left
 ·rintro w e1;go_simp;try with_reducible rfl
 simp only[Act.put,gD];refine aA (i:=11) (v:=?_) d5 rfl ?_ ?_;rotate_left
 ·rintro w e1;go_simp;try with_reducible rfl
 simp only[Act.put,gD];refine aC (i:=12) (by kernel_rfl) rfl (fun K hK=>?_);go_simp;refine hK _ _ (fun _=>d5) ?_;clear hK K;try simp only[Act.put,gD]
 refine aC (i:=13) (by kernel_rfl) rfl (fun K hK=>?_);go_simp;refine hK _ _ (fun _=>d5) ?_;clear hK K;try simp only[Act.put,gD]
 refine aC (i:=14) (by kernel_rfl) rfl (fun K hK=>?_);go_simp;refine hK _ _ (fun h=>absurd rfl h) ?_;clear hK K;try simp only[Act.put,gD]
 refine aO (by kernel_rfl) ?_ _;have h4:Sep w0 (w3.setCell ⟨bx,4,none⟩ (.slice (some ⟨g,0,none⟩) k c1)) (aG f q p (S1.put 1 (sW (bk S1.cur 1) s)) a2:: .box bx 118 (aL x (.slice (some ⟨g,0,none⟩) k c1))::aQ (.slice (some ⟨g,0,none⟩) k c1) (dR l.dropLast)::R):=by have h5:=(bG.out.bS 1 rfl 4 (.slice (some ⟨g,0,none⟩) k c1)).FV 2 rfl k (by omega);(have hl5:(dR l.dropLast).length=k:=by unfold dR;rw[List.length_map];exact hl'.out.2.2.2);(have e5:((dR l).map (Value.int .i64)).take (k*1)=(dR l.dropLast).map (Value.int .i64):=by rw[Nat.mul_one,←List.map_take];congr 1;unfold dR;rw[←List.map_take];congr 1;rw[hl'.out.1,List.take_append_of_le_length (by rw[hl'.out.2.2.2];exact Nat.le_refl _),List.take_of_length_le (by rw[hl'.out.2.2.2];exact Nat.le_refl _),←hl'.out.1]);rw[e5]at h5;unfold aQ;rw[hl5];exact h5
 have h4':=Lh h4;clear h4 bG;go_wp2_with fail;go_roundg k
 case measure=>rw[←hm'.out,hk'.out];exact Nat.lt_succ_self k
 refine Lh ⟨S1.put 1 (sW (bk S1.cur 1) s),l.dropLast,a2,.slice (some ⟨g,0,none⟩) k c1,⟨?_,hD'.out.like.put _ _,fun t ht=>hD'.out.lt t (by rw[hl'.out.1];exact List.mem_append_left _ ht),by rw[hl'.out.2.2.2];omega,hC2.out,h4'.out.drew⟩,hl'.out.2.2.2.symm⟩;have e1:=hD'.out.eq;rw[←hm'.out,hk'.out,show k+1-n=(k-n)+1 by omega]at e1;rw[←e1,hl'.out.2.2.2];show _=kQ (k-n) (S1.put 1 (sW (bk S1.cur 1) (l.getLastD 0))) l.dropLast
 rw[hl'.out.2.1]
end
theorem bR (c:dW) {i j:Nat} (x:List UInt8) (h:j≠i):bk (c.set i x) j=bk c j:=by unfold bk;rw[gH,List.getElem?_set_ne (fun e=>h e.symm),←gH]
structure Used (S S':VS) (k:Nat):Prop where
 wB:S'.wB=S.wB
 wI:S'.wI=S.wI
 nodes:S'.nodes=S.nodes
 names:S'.names=S.names
 nb:S'.nb=S.nb
 blk:∀j,j≠1→bk S'.cur j=bk S.cur j
 m:S'.m=S.m+k
theorem Used.refl (S:VS):Used S S 0:=⟨rfl,rfl,rfl,rfl,rfl,fun _ _=>rfl,rfl⟩
theorem Used.put {S T:VS} {k:Nat} (u:List UInt8) (h:Used (S.put 1 u) T k):Used S T (k+1):=
 ⟨h.wB,h.wI,h.nodes,h.names,h.nb,fun j hj=>(h.blk j hj).trans (bR _ _ hj),by rw[h.m];show S.m+1+k=_;omega⟩
theorem GH :∀(k:Nat) (S:VS) (l:List Nat),Used S (kQ k S l).1 k
 |0,S,l=>.refl S
 |k+1,S,l=>(GH k _ _).put _
theorem pE :∀(k:Nat) (S:VS) (l:List Nat),(kQ k S l).2=l.take (l.length-k)
 |0,S,l=>by(show l=_);rw[Nat.sub_zero,List.take_length]
 |k+1,S,l=>by(show(kQ k _ l.dropLast).2=_);rw[pE k,List.length_dropLast,List.dropLast_eq_take,List.take_take];congr 1;omega
theorem QN :∀(k:Nat) (S:VS) (l:List Nat) {S1:VS} {l1:List Nat},FI k S l=some (S1,l1)→Used S S1 k∧l1.length=l.length+k∧l<+:l1
 |0,S,l,S1,l1,h=>by cases h;exact⟨.refl S,rfl,List.prefix_refl _⟩
 |k+1,S,l,S1,l1,h=>by
  unfold FI at h;split at h
  ·cases h
  rename_i j hj;obtain⟨h1,h2,h3⟩:=QN k _ _ h;exact⟨h1.put _,by rw[h2,List.length_append];simp;omega,(List.prefix_append l [j]).trans h3⟩
theorem Used.trans {S T U:VS} {i j:Nat} (h:Used S T i) (g:Used T U j):Used S U (i+j):=
 ⟨g.wB.trans h.wB,g.wI.trans h.wI,g.nodes.trans h.nodes,g.names.trans h.names,g.nb.trans h.nb,fun k hk=>(g.blk k hk).trans (h.blk k hk),by rw[g.m,h.m];omega⟩
theorem iA {S S1:VS} {l l1:List Nat} {n:Nat} (h:iD S l n=some (S1,l1)):Used S S1 ((l.length-n)+(n-l.length))∧l1.length=n:=by
 unfold iD at h;have h1:=GH (l.length-n) S l;have h2:=pE (l.length-n) S l;have h3:(kQ (l.length-n) S l).2.length=l.length-(l.length-n):=by rw[h2,List.length_take];omega
 obtain⟨h4,h5,_⟩:=QN _ _ _ h;rw[h3]at h4 h5;refine⟨?_,by rw[h5];omega⟩;have h6:=h1.trans h4;rw[show l.length-n+(n-(l.length-(l.length-n)))=(l.length-n)+(n-l.length)by omega]at h6;exact h6
theorem BV {S:VS} {l:List Nat} {n:Nat} (h:n≤l.length):∃S1,iD S l n=some (S1,l.take n):=by
 unfold iD;have h2:=pE (l.length-n) S l;rw[show l.length-(l.length-n)=n by omega]at h2;have h3:(kQ (l.length-n) S l).2.length=n:=by rw[h2,List.length_take];omega
 rw[h3,Nat.sub_self,h2];exact⟨_,rfl⟩
theorem Used.ino {S T:VS} {k:Nat} (h:Used S T k) (n:Nat):aF T.cur n=aF S.cur n:=by unfold aF;rw[h.blk _ (by omega)]
def VI0 :VI:=⟨0,0,0,0,[]⟩
theorem am4 :VI0.ok:=⟨by decide,by decide,by decide,by decide,by decide,fun k hk=>by cases hk⟩
section
variable {w0 w:World} {R:List aU} {f q p:Nat} {S:VS} {a:VA}
set_option maxRecDepth 100000 in
set_option maxHeartbeats 2000000 in
theorem ad1 {n:Nat} {S1:VS} (hC:VC S a) (hF:VF S) (hn:n<S.names) (hok:(aF S.cur n).aB.length≤28) (hsp:∀s∈(aF S.cur n).aB,s<S.count) (hW:fD S) (hfit:iD S (aF S.cur n).aB 0=some (S1,[])) (h:Sep w0 w (aG f q p S a::R)):
  Calls Tryz.prog 102 #[.pointer (some ⟨f,0,none⟩),.int .i64 n] w fun e w'=>e= .returned (.tuple #[])∧∃a',VC (S1.keep n VI0) a'∧Sep w0 w' (aG f q p (S1.keep n VI0) a'::R):=by
 have hin:=jD hC hF hn hok h;have hU:=(iA hfit).1;have hft:Hid (∀W bx v a1,VC S a1→Sep w0 W (aG f q p S a1:: .box bx 118 (aL (aF S.cur n) v)::aQ v (dR (aF S.cur n).aB)::R)→
   Calls Tryz.prog 89 #[.pointer (some ⟨f,0,none⟩),.pointer (some ⟨bx,0,none⟩),.int .i64 0] W fun e w'=>e= .returned (.tuple #[])∧∃a2,VC S1 a2∧Sep w0 w' (aG f q p S1 a2::R)):=Lh fun W bx v a1 jY hS=>by
  refine(tC (n:=0) jY hF hok (by omega) hsp hS).mono ?_;intro e w' ho;unfold mD at ho;rw[hfit]at ho;obtain⟨rfl,a2,v2,hL,hC2,h9⟩:=ho;have h5:Sep w0 w' (.box bx 118 (aL (aF S.cur n) v2)::aQ v2 (dR [])::aG f q p S1 a2::R):=Sep.bZ [1,2,0] h9 (by decide) (by simp);exact⟨rfl,a2,hC2,h5.drop 2⟩
 have hkp:Hid (∀W a2,VC S1 a2→Sep w0 W (aG f q p S1 a2::R)→Calls Tryz.prog 90 #[.pointer (some ⟨f,0,none⟩),.int .i64 (n:Nat),.agg #[.int .i64 0,.int .i64 0,.int .i64 0,.int .i64 0,.slice none 0 0]] W fun e w'=>e= .returned (.tuple #[])∧∃a',VC (S1.keep n VI0) a'∧Sep w0 w' (aG f q p (S1.keep n VI0) a'::R)):=Lh fun W a2 hC2 hS=>
  o9 (x:=VI0) (v:=.slice none 0 0) hC2 ⟨by rw[hU.names];exact hF.names,by unfold VS.data;rw[hU.names,hU.nb];exact hF.room⟩ (by rw[hU.names];exact hn) am4 (by rw[hU.ino];exact hok) ⟨by rw[hU.wB];exact hW.b0,by rw[hU.wB];exact hW.b1,by rw[hU.wI];exact hW.i0,by rw[hU.wI];exact hW.i1⟩ (fun w' X _=>⟨rfl,none,0,rfl,Nat.le_refl _,by unfold maxLen;omega,fun h=>absurd h (by decide)⟩) hS
 clear hC hF hn hok hsp hW hfit h hU;unfold dZ at hin;go_enter Tryz.func102,Tryz.ntmps102;go_wp2_with(first |(go_at_call 64;refine hin.mono ?_;rintro e w9 ⟨v,a1,rfl,hR,h9⟩;obtain⟨A9,c9,e9⟩:=h9.dA 0 rfl;subst e9;have hs:=h9.bN 118 (aL (aF S.cur n) (.slice A9 (dR (aF S.cur n).aB).length c9));have yI:=hft.out _ _ _ _ hR.ok (Sep.bZ [2,0,1] hs (by decide) (by simp));clear hs h9 hR hin;unfold aL at*)|(go_at_call 89;refine yI.mono ?_;rintro e w8 ⟨rfl,a2,hC2,h8⟩;have tH:=hkp.out _ _ hC2 h8;clear hC2 h8 yI)|(go_at_call 90;refine tH.mono ?_;rintro e w7 ⟨rfl,h7⟩;replace h7:=Lh h7;clear tH))
 go_end0
 exact⟨rfl,h7.out⟩
end
def GI (c:dW) (d:Nat) (l:List Nat):List UInt8:=l.flatMap fun s=>bk c (d+s)
def jR (c:dW) (d:Nat) (x:VI):List UInt8:=(GI c d x.aB).take x.size
section
variable {w0 w:World} {R:List aU} {f q p:Nat} {S:VS} {a:VA}
set_option maxRecDepth 100000 in
set_option maxHeartbeats 1000000 in
theorem QO {x:VI} {v:Value} {i s:Nat} (hC:VC S a) (hF:VF S) (hv:uJ w0 R v x.aB) (hi:x.aB[i/16]? =some s) (hs:s<S.count) (hx:x.aB.length≤28) (h:Sep w0 w (aG f q p S a::R)):
  Calls Tryz.prog 124 #[.pointer (some ⟨f,0,none⟩),dZ x v,.int .i64 i] w fun e w'=>e= .returned (.tuple #[.int .i64 (S.data+s:Nat),.int .i64 (i%16*32:Nat)])∧Below w.heap.size w w':=by
 have hlt:=(gF.1 hi).1;obtain⟨A,c,hv0,ad,hA,hcell⟩:∃A c,v= .slice A x.aB.length c∧∃ad,A=some ad∧∀W,Below w.heap.size w W→W.cell? (ad.add (i/16))=some (.int .i64 (s:Nat)):=by obtain⟨ad,c,u,e,h1,_⟩:=Rd.at_ (hv w [_] h) (k:=i/16) hlt;refine⟨_,c,e,ad,rfl,fun W hW=>?_⟩;obtain⟨ad2,c2,u2,e2,h3,h4⟩:=Rd.at_ (hv W [_] (h.pure hW)) (k:=i/16) hlt;rw[e]at e2;cases e2;unfold dR at h3;rw[List.getElem?_map,List.getElem?_map,hi]at h3;cases h3;exact h4
 subst hv0 hA;have hS1:Sep w0 (w.alloc (.cells (aL x (.slice (some ad) x.aB.length c)) 118)) (aG f q p S a:: .box w.heap.size 118 (aL x (.slice (some ad) x.aB.length c))::R):=(h.bN _ _).perm (List.Perm.swap _ _ _);have hb:Below w.heap.size w (w.alloc (.cells (aL x (.slice (some ad) x.aB.length c)) 118)):=(Below.refl _ _).alloc (Nat.le_refl _) _;have QP:=fun n=>zL hC hF (hS1.drewN n).dK.c3
 have hc0:=hcell _ hb;have c4:=hS1.bC 1 rfl 4;have hd4:S.data+s≤4096:=by have:=hC.l8.few;have:=hF.room;unfold VS.count at hs;omega
 obtain⟨d,hd⟩:∃d,d=S.data:=⟨_,rfl⟩;obtain⟨j,hj⟩:∃j,j=i/16:=⟨_,rfl⟩;obtain⟨m,hm⟩:∃m,m=i%16:=⟨_,rfl⟩;obtain⟨L,hL⟩:∃L,L=x.aB.length:=⟨_,rfl⟩;have hjl:j<L:=by rw[hj,hL];exact hlt
 rw[←hd]at QP hd4 ⊢;rw[←hj]at hc0;rw[←hm];unfold dZ aL at*;rw[←hL]at hc0 c4 hb QP ⊢;simp only[gA,gB,gC]at c4;have q0:(0:Int)≤i:=by omega
 have t1:(i:Int).tdiv 16=j:=by rw[Int.tdiv_eq_ediv_of_nonneg q0];omega
 have t2:(i:Int).tmod 16=m:=by rw[Int.tmod_eq_emod_of_nonneg q0];omega
 have q1:(0:Int)≤j:=by omega
 have q2:(j:Int)<L:=by omega
 have q3:(m:Int)<16:=by omega
 have q4:(0:Int)≤m:=by omega
 have w1:IntKind.i64.wrap (j:Int)=j:=IntWalk.i64_in _ (by omega);have w2:IntKind.i64.wrap ((d:Int)+s)=d+s:=IntWalk.i64_in _ (by omega);have w3:IntKind.i64.wrap ((m:Int)*32)=m*32:=IntWalk.i64_in _ (by omega);have hb':=Lh hb;have am5:=Lh QP;rw[show((d+s:Nat):Int)=(d:Int)+s by omega,show((m*32:Nat):Int)=(m:Int)*32 by omega];clear hC hF hv hi hs hx h hcell hS1 hb QP hd4 hd hj hm hL hlt hjl;go_enter Tryz.func124,Tryz.ntmps124;go_wp2_with fail;go_quiet ((go_at_call 120;exact Calls.quiet_of_same (am5.out _)));go_wp2_with fail
 go_ret2
 exact⟨rfl,(((Sep.nil w).alloc _).drewN nq).below⟩
end
end Go.Proofs.YteihmbaimbogaaaGreat
namespace Go.Proofs.YteihmbaimbogaaaGreat
def aM (p:List UInt8):Value:=.string ⟨p.toArray⟩
theorem gL (p:List UInt8):(⟨p.toArray⟩:ByteArray).size=p.length:=rfl
theorem oO (p:List UInt8):(⟨p.toArray⟩:ByteArray).data.toList=p:=rfl
end Go.Proofs.YteihmbaimbogaaaGreat
