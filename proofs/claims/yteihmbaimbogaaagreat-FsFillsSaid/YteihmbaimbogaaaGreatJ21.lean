/- FuI, FuJ, FuK, Frame, laid together. -/
import Derived.Test.YteihmbaimbogaaaGreatJ20
namespace Go.Proofs.YteihmbaimbogaaaGreat
open Go.RowKit
set_option linter.unusedVariables false
set_option linter.unusedSimpArgs false
section
variable {w0 w:World} {R:List aU} {f q p:Nat} {S:VS} {a:VA}
theorem pK {DU:FuncId} (Q7:Array Value) (w:World) (h:∀args w,(callFunc DU args).run Tryz.prog w= .ok (.enter DU args) w):(invoke (.fn (.func DU) Q7) #[]).run Tryz.prog w= .ok (.enter DU Q7) w:=by simp[invoke,go_sem,h]
set_option maxRecDepth 100000 in
set_option maxHeartbeats 2000000 in
theorem Q8 {S1:VS} {bf bw bn bd:Nat} {sb:Option Nat} {fo:Option Nat} {dead:Bool} {u:FrameMode} (hn:S1.names=S.names) (hb:S1.rB=S.rB) (hi:S1.rI=S.rI)
  (h:Sep w0 w (jG f q S1 sb (.map fo) dead:: .box bf 24 #[.pointer (some ⟨f,0,none⟩)]:: .box bw 44 #[fP S.wB S.wI]:: .box bn 3 #[.int .i64 S.nodes]:: .box bd 4 #[.bool false]::R)):
  CallsD Tryz.prog 123 #[.pointer (some ⟨bd,0,none⟩),.pointer (some ⟨bw,0,none⟩),.pointer (some ⟨bn,0,none⟩),.pointer (some ⟨bf,0,none⟩)] u w fun e u' w'=>
   u'=u∧e= .returned (.tuple #[])∧Sep w0 w' (jG f q S sb (.map none) dead::R):=by
 have k0:=h.bC 1 rfl 0
 have k1:=h.bC 2 rfl 0
 have k2:=h.bC 3 rfl 0
 have k3:=h.bC 4 rfl 0
 have c5:=h.bC 0 rfl 5
 have f5:=h.bF 0 rfl 5
 have h1:=h.bS 0 rfl 5 (fP S.wB S.wI)
 have c6:=h1.bC 0 rfl 6
 have f6:=h1.bF 0 rfl 6
 have h2:=h1.bS 0 rfl 6 (.int .i64 S.nodes)
 have c2:=h2.bC 0 rfl 2
 have f2:=h2.bF 0 rfl 2
 have h3:=h2.bS 0 rfl 2 (.map none)
 unfold fP at k1 c5 c6 c2 h3 f6 f2
 simp only[gA,gB,gC]at k0 k1 k2 k3 c5
 have hst:=fun x y=>rP x y c5 f5
 have hend:Hid (Sep w0 (((w.setCell ⟨f,5,none⟩ (.complex .f64 (fI S.wB) (fI S.wI))).setCell ⟨f,6,none⟩ (.int .i64 S.nodes)).setCell ⟨f,2,none⟩ (.map none)) (jG f q S sb (.map none) dead::R)):=Lh (by(have h4:Sep w0 (((w.setCell ⟨f,5,none⟩ (.complex .f64 (fI S.wB) (fI S.wI))).setCell ⟨f,6,none⟩ (.int .i64 S.nodes)).setCell ⟨f,2,none⟩ (.map none)) (jG f q S sb (.map none) dead:: .box bf 24 #[.pointer (some ⟨f,0,none⟩)]:: .box bw 44 #[.complex .f64 (fI S.wB) (fI S.wI)]:: .box bn 3 #[.int .i64 S.nodes]:: .box bd 4 #[.bool false]::R):=by unfold jG at h3 ⊢;rw[hn,hb,hi]at h3;exact h3);exact(Sep.bZ [1,2,3,4,0] h4 (by decide) (by simp)).drop 4)
 clear h h1 h2 h3 hn hb hi
 refine(callsD_of_wp (R:=fun e w'=>e= .returned (.tuple #[])∧Sep w0 w' (jG f q S sb (.map none) dead::R)) Tryz.func123 rfl ?_).mono ?_
 ·simp only[Tryz.ntmps123,List.size_toArray,List.length_cons,List.length_nil,Nat.reduceAdd,Nat.reduceSub,Array.replicate_succ,Array.replicate_zero,List.push_toArray,List.append_toArray,List.nil_append,List.cons_append];go_wp2_with fail
  go_end0
  exact⟨rfl,hend.out⟩
 ·rintro e u' w' ⟨h1,h2,h3⟩;exact⟨h1,h2,h3⟩
set_option maxRecDepth 100000 in
theorem aaJ {bf bw bn bd:Nat} {u:FrameMode} (hc:w.cell? ⟨bd,0,none⟩=some (.bool true)):
  CallsD Tryz.prog 123 #[.pointer (some ⟨bd,0,none⟩),.pointer (some ⟨bw,0,none⟩),.pointer (some ⟨bn,0,none⟩),.pointer (some ⟨bf,0,none⟩)] u w fun e u' w'=>
   u'=u∧e= .returned (.tuple #[])∧w'=w:=by
 refine(callsD_of_wp (R:=fun e w'=>e= .returned (.tuple #[])∧w'=w) Tryz.func123 rfl ?_).mono ?_
 ·simp only[Tryz.ntmps123,List.size_toArray,List.length_cons,List.length_nil,Nat.reduceAdd,Nat.reduceSub,Array.replicate_succ,Array.replicate_zero,List.push_toArray,List.append_toArray,List.nil_append,List.cons_append];go_wp2_with fail
  go_end0
  exact⟨rfl,rfl⟩
 ·rintro e u' w' ⟨h1,h2,h3⟩;exact⟨h1,h2,h3⟩
theorem vJ :∀args w,(callFunc 123 args).run Tryz.prog w= .ok (.enter 123 args) w:=Go.Proofs.enters_of Tryz.func123 (by kernel_rfl) rfl
end
def YK (k:Nat):Code→Option Code
 | .seq (.region i o d) c=>if i=k then some (.seq (.region i o d) c)else YK k c
 | .seq _ c=>YK k c
 |_=>none
noncomputable def HY (k:Nat):Code:=(Tryz.f65.body.bind (YK k)).getD .skip
def uK (S1:VS):Bool:=decide (S1.wB≤S1.rB)&&decide (S1.wI≤S1.rI)
def cZ (f q p:Nat) (S:VS) (r:Option VS) (w0:World) (R:List aU) (e:Ending) (w':World):Prop:=
 match r with
 |none=>e= .panicked (eH 27)∧Sep w0 w' (bJ f q p S::R)
 |some S1=>
  if uK S1=true then
   if S1.aV.2=true then e= .returned (.tuple #[])∧Sep w0 w' (bJ f q p S1.settled::R)
   else e= .panicked (eH 11)∧Sep w0 w' (DN f q p false::aJ p S1.aV.1::R)
  else e= .panicked (eH 27)∧Sep w0 w' (bJ f q p S::R)
structure mG (S S1:VS):Prop where
 like:dY S S1
 m:S1.m≤40
 wB:cO S1.wB
 wI:cO S1.wI
 rB:cO S1.rB
 rI:cO S1.rI
theorem alW {a b:Int} (ha:cO a) (hb:cO b):(FloatKind.f64.format.order (fI a) (fI b)==some .gt)= !decide (a≤b):=by
 have h:FloatKind.f64.format.order (fI a) (fI b)=some (compare a b):=HZ ha hb;rw[h];rcases Int.lt_trichotomy a b with h2|h2|h2
 ·rw[Int.compare_eq_lt.2 h2,decide_eq_true (Int.le_of_lt h2)];rfl
 ·rw[Int.compare_eq_eq.2 h2,decide_eq_true (Int.le_of_eq h2)];rfl
 rw[Int.compare_eq_gt.2 h2,decide_eq_false (by omega)];rfl
section
variable {w0 w:World} {R:List aU} {f q p:Nat} {S:VS} {a:VA}
theorem yM {S1:VS} {a1:VA} {bf bw bn bd:Nat} {tmps:Array Value} {Post:Ending→World→Prop} {x:Int} (hL:dY S S1) (jY:VC S1 a1) (hb:S.D.back=[])
  (h:Sep w0 w (aG f q p S1 a1:: .box bd 4 #[.bool false]:: .box bf 24 #[.pointer (some ⟨f,0,none⟩)]:: .box bw 44 #[fP S.wB S.wI]:: .box bn 3 #[.int .i64 S.nodes]::R))
  (hp:∀w',Sep w0 w' (bJ f q p S::R)→Post (.panicked (eH x)) w'):
  Leaves Tryz.prog Tryz.f65 tmps Post [{target:=.fn (.func 123) #[.pointer (some ⟨bd,0,none⟩),.pointer (some ⟨bw,0,none⟩),.pointer (some ⟨bn,0,none⟩),.pointer (some ⟨bf,0,none⟩)],args:=#[]}] (.panicking (eH x)) w:=by
 have h1:=h.aS;have h2:Sep w0 w (iI a1.fb a1.FM::jG f q S1 a1.sb (.map (some a1.fb)) false:: .box bf 24 #[.pointer (some ⟨f,0,none⟩)]:: .box bw 44 #[fP S.wB S.wI]:: .box bn 3 #[.int .i64 S.nodes]:: .box bd 4 #[.bool false]::aD q p false::aJ p S1.D::dH a1.sb a1.SM::R):=Sep.bZ [4,0,6,7,8,5,1,2,3] h1 (by decide) (by simp[oH]);refine leaves_cons (by simp) (pK _ _ vJ) ?_;refine(Q8 (S:=S) hL.names hL.rB hL.rI (h2.drop 1)).mono ?_;rintro e u' w' ⟨rfl,rfl,h3⟩;exact hp w' (DT (fo:=none) hL jY hb h3)
set_option maxRecDepth 100000 in
set_option maxHeartbeats 4000000 in
theorem Q9 {R':List aU} {DU:FuncId} {Q7:Array Value} {r:Option VS} {bf bw bn:Nat} {u0 u3 u6 u7 u8 u9 u10 u11 u12 u13 u14 u15 u16 u17 u18 u19 u20 u21 u22 u23 u24 u25 u26 u27 u28 u29 u30 u31 u32 u33 u34 u35 u36 u37 u38 u39 u40 u41 u42 u43 u44 u45 u46 u47 u48 u49 u50 u51 u52 u53 u54 u55 u56 u57:Value} (hent:∀args w,(callFunc DU args).run Tryz.prog w= .ok (.enter DU args) w) (hC:VC S a) (hb:S.D.back=[]) (hr:∀S1,r=some S1→mG S S1)
  (hdo:∀W X,Sep w0 W (aG f q p S a::(X++R))→Calls Tryz.prog DU Q7 W (fA f q p S r w0 (X++R')))
  (h:Sep w0 w (aG f q p S a:: .box bf 24 #[.pointer (some ⟨f,0,none⟩)]:: .box bw 44 #[fP S.wB S.wI]:: .box bn 3 #[.int .i64 S.nodes]::R)):
  (HY 2).wp Tryz.prog (bodyPostD Tryz.prog Tryz.f65 (cZ f q p S r w0 R')) {tmps:=#[u0,.func (.func DU) #[] Q7,.pointer (some ⟨bf,0,none⟩),u3,.pointer (some ⟨bw,0,none⟩),.pointer (some ⟨bn,0,none⟩),u6,u7,u8,u9,u10,u11,u12,u13,u14,u15,u16,u17,u18,u19,u20,u21,u22,u23,u24,u25,u26,u27,u28,u29,u30,u31,u32,u33,u34,u35,u36,u37,u38,u39,u40,u41,u42,u43,u44,u45,u46,u47,u48,u49,u50,u51,u52,u53,u54,u55,u56,u57],defers:=[]} w:=by
 have QA:∀(fn:Fn) (first cap:Array Value) (w:World),(Instr.makeFunc fn first cap).run Tryz.prog w= .ok (.func fn first cap) w:=fun _ _ _ _=>rfl
 have h1:Sep w0 (w.alloc (.cells #[.bool false] 4)) (aG f q p S a::([.box w.heap.size 4 #[.bool false],.box bf 24 #[.pointer (some ⟨f,0,none⟩)],.box bw 44 #[fP S.wB S.wI],.box bn 3 #[.int .i64 S.nodes]]++R)):=Sep.bZ [1,0,2,3,4] (h.bN 4 #[.bool false]) (by decide) (by simp);have hd:=hdo _ _ h1;have alX:=Lh hent;have hL':=Lh (And.intro hC (And.intro hb hr));clear h h1 hdo hC hb hr;unfold HY
 conv=>arg 2;whnf
 cases r with
 |none=>unfold fA at hd;simp only at hd;have hent:=alX.out;go_wp2_with(refine hd.mono ?_;rintro e w9 ⟨rfl,S1,a1,hL,jY,h9⟩);(refine yM hL jY hL'.out.2.1 h9 fun w' h5=>?_);exact⟨rfl,h5⟩
 |some S1=>
  unfold fA at hd;simp only at hd;have hOk:=hL'.out.2.2 S1 rfl;have g1:=alW hOk.wB hOk.rB;have g2:=alW hOk.wI hOk.rI;have RA:=Lh hOk;clear hOk;have hent:=alX.out;by_cases hB:S1.wB≤S1.rB
  ·rw[decide_eq_true hB]at g1;simp only[Bool.not_true]at g1;by_cases hI:S1.wI≤S1.rI
   ·rw[decide_eq_true hI]at g2;simp only[Bool.not_true]at g2;(have hfit:uK S1=true:=by unfold uK;rw[decide_eq_true hB,decide_eq_true hI];rfl);replace hfit:=Lh hfit;clear hB hI;go_wp2_with(refine hd.mono ?_;rintro e w9 ⟨rfl,a1,jY,h9⟩;(have c5:=h9.dK.c5);(have c7:=h9.dK.c7);(have k0:=h9.bC 2 rfl 0);unfold fP at c5 c7;simp only[gA,gB]at k0;replace h9:=Lh h9;replace jY:=Lh jY;clear hd);go_quiet (fail);have hse:=G6 jY.out RA.out.m (by rw[RA.out.like.D,hL'.out.2.1];decide) (h9.out.drewN nq);clear c5 c7 g1 g2;cases hcm:S1.aV.2 with
    |true=>(have Z4:Calls Tryz.prog 91 #[.pointer (some ⟨f,0,none⟩)] (w9.drewN nq) fun e w'=>e= .returned (.tuple #[])∧(∃u,w'.cell? ⟨w.heap.size,0,none⟩=some (.bool u))∧w'.frozen? ⟨w.heap.size,0,none⟩=false∧(w'.setCell ⟨w.heap.size,0,none⟩ (.bool true)).cell? ⟨w.heap.size,0,none⟩=some (.bool true)∧cZ f q p S (some S1) w0 R' (.returned (.tuple #[])) (w'.setCell ⟨w.heap.size,0,none⟩ (.bool true)):=by refine hse.mono ?_;intro e w' ho;unfold kM at ho;rw[if_pos hcm]at ho;obtain⟨rfl,a2,hV,h8⟩:=ho;have h7:=h8.bS 1 rfl 0 (.bool true);refine⟨rfl,⟨_,h8.bC 1 rfl 0⟩,h8.bF 1 rfl 0,h7.bC 1 rfl 0,?_⟩;unfold cZ;simp only;rw[if_pos hfit.out,if_pos hcm];refine⟨trivial,OM hV (DR hcm (by rw[RA.out.like.D];exact hL'.out.2.1)) ?_⟩;have h6:Sep w0 _ (.box w.heap.size 4 #[.bool true]:: .box bf 24 #[.pointer (some ⟨f,0,none⟩)]:: .box bw 44 #[fP S.wB S.wI]:: .box bn 3 #[.int .i64 S.nodes]::aG f q p S1.settled a2::R'):=Sep.bZ [1,2,3,4,0] h7 (by decide) (by simp);exact h6.drop 4);clear hse h9 jY hcm;go_wp2_with(go_at_call 91;refine Z4.mono ?_;rintro e w8 ⟨rfl,⟨u,k1⟩,f1,k2,hend⟩;replace hend:=Lh hend;replace k2:=Lh k2);refine leaves_cons (u:=.returning) (by simp) (pK _ _ vJ) ?_;refine(aaJ k2.out).mono ?_;rintro e u' w' ⟨rfl,rfl,rfl⟩;exact⟨.tuple #[],by simp[results,Tryz.results65],hend.out⟩
    |false=>(have Z4:Calls Tryz.prog 91 #[.pointer (some ⟨f,0,none⟩)] (w9.drewN nq) fun e w'=>e= .panicked (eH 11)∧∃sb fo,Sep w0 w' (jG f q S1 sb (.map fo) false:: .box bf 24 #[.pointer (some ⟨f,0,none⟩)]:: .box bw 44 #[fP S.wB S.wI]:: .box bn 3 #[.int .i64 S.nodes]:: .box w.heap.size 4 #[.bool false]::aD q p true::aJ p S1.aV.1::R'):=by refine hse.mono ?_;intro e w' ho;unfold kM at ho;rw[if_neg (by rw[hcm];decide)]at ho;obtain⟨rfl,sb,h8⟩:=ho;exact⟨rfl,sb,_,Sep.bZ [0,4,5,6,3,1,2] h8 (by decide) (by simp)⟩);have hcm':=Lh hcm;clear hse h9 jY hcm;go_wp2_with(go_at_call 91;refine Z4.mono ?_;rintro e w8 ⟨rfl,sb,fo,h8⟩;replace h8:=Lh h8);refine leaves_cons (u:=.panicking (eH 11)) (by simp[eH]) (pK _ _ vJ) ?_;refine(Q8 (S:=S) RA.out.like.names RA.out.like.rB RA.out.like.rI h8.out).mono ?_;rintro e u' w' ⟨rfl,rfl,h7⟩;(show cZ f q p S (some S1) w0 R' (.panicked (eH 11)) w');unfold cZ;simp only;rw[if_pos hfit.out,if_neg (by rw[hcm'.out];decide)];exact⟨trivial,h7.MJ⟩
   rw[decide_eq_false hI]at g2;simp only[Bool.not_false]at g2;(have hfit:uK S1=false:=by unfold uK;rw[decide_eq_false hI,Bool.and_false]);replace hfit:=Lh hfit;clear hB hI;go_wp2_with(refine hd.mono ?_;rintro e w9 ⟨rfl,a1,jY,h9⟩;(have c5:=h9.dK.c5);(have c7:=h9.dK.c7);(have k0:=h9.bC 2 rfl 0);unfold fP at c5 c7;simp only[gA,gB]at k0;replace h9:=Lh h9;replace jY:=Lh jY;clear hd);go_quiet (fail);go_wp2_with fail;(refine yM RA.out.like jY.out hL'.out.2.1 (h9.out.drewN nq) fun w' h5=>?_);unfold cZ;simp only;rw[if_neg (by rw[hfit.out];decide)];exact⟨trivial,h5⟩
  rw[decide_eq_false hB]at g1;simp only[Bool.not_false]at g1;(have hfit:uK S1=false:=by unfold uK;rw[decide_eq_false hB,Bool.false_and]);replace hfit:=Lh hfit;clear hB g2;go_wp2_with(refine hd.mono ?_;rintro e w9 ⟨rfl,a1,jY,h9⟩;(have c5:=h9.dK.c5);(have c7:=h9.dK.c7);(have k0:=h9.bC 2 rfl 0);unfold fP at c5 c7;simp only[gA,gB]at k0;replace h9:=Lh h9;replace jY:=Lh jY;clear hd);go_quiet (fail);go_wp2_with fail;(refine yM RA.out.like jY.out hL'.out.2.1 (h9.out.drewN nq) fun w' h5=>?_);unfold cZ;simp only;rw[if_neg (by rw[hfit.out];decide)];exact⟨trivial,h5⟩
end
section
variable {w0 w:World} {R:List aU} {f q p:Nat} {S:VS} {a:VA}
set_option maxRecDepth 100000 in
set_option maxHeartbeats 4000000 in
theorem H5 {R':List aU} {DU:FuncId} {Q7:Array Value} {r:Option VS} (hent:∀args w,(callFunc DU args).run Tryz.prog w= .ok (.enter DU args) w) (hC:VC S a) (hb:S.D.back=[]) (hr:∀S1,r=some S1→mG S S1)
  (hdo:∀W X,Sep w0 W (aG f q p S a::(X++R))→Calls Tryz.prog DU Q7 W (fA f q p S r w0 (X++R'))) (h:Sep w0 w (aG f q p S a::R)):
  Calls Tryz.prog 65 #[.pointer (some ⟨f,0,none⟩),.func (.func DU) #[] Q7] w (cZ f q p S r w0 R'):=by
 have h1:Sep w0 (w.alloc (.cells #[.pointer (some ⟨f,0,none⟩)] 24)) (aG f q p S a:: .box w.heap.size 24 #[.pointer (some ⟨f,0,none⟩)]::R):=(h.bN _ _).perm (List.Perm.swap _ _ _);obtain⟨bf,hbf⟩:∃bf,bf=w.heap.size:=⟨_,rfl⟩;rw[←hbf]at h1;have hct:=fun(u0 u3 u6 u7 u8 u9 u10 u11 u12 u13 u14 u15 u16 u17 u18 u19 u20 u21 u22 u23 u24 u25 u26 u27 u28 u29 u30 u31 u32 u33 u34 u35 u36 u37 u38 u39 u40 u41 u42 u43 u44 u45 u46 u47 u48 u49 u50 u51 u52 u53 u54 u55 u56 u57:Value) (bw bn:Nat) (W:World) hW=>Q9 (R':=R') (u0:=u0) (u3:=u3) (u6:=u6) (u7:=u7) (u8:=u8) (u9:=u9) (u10:=u10) (u11:=u11) (u12:=u12) (u13:=u13) (u14:=u14) (u15:=u15) (u16:=u16) (u17:=u17) (u18:=u18) (u19:=u19) (u20:=u20) (u21:=u21) (u22:=u22) (u23:=u23) (u24:=u24) (u25:=u25) (u26:=u26) (u27:=u27) (u28:=u28) (u29:=u29) (u30:=u30) (u31:=u31) (u32:=u32) (u33:=u33) (u34:=u34) (u35:=u35) (u36:=u36) (u37:=u37) (u38:=u38) (u39:=u39) (u40:=u40) (u41:=u41) (u42:=u42) (u43:=u43) (u44:=u44) (u45:=u45) (u46:=u46) (u47:=u47) (u48:=u48) (u49:=u49) (u50:=u50) (u51:=u51) (u52:=u52) (u53:=u53) (u54:=u54) (u55:=u55) (u56:=u56) (u57:=u57) (bf:=bf) (bw:=bw) (bn:=bn) (w:=W) hent hC hb hr hdo hW
 replace hct:=Lh hct;have hcs:Hid (∀W Y,Sep w0 W (Y++(aG f q p S a:: .box bf 24 #[.pointer (some ⟨f,0,none⟩)]::R))→W.cell? ⟨bf,0,none⟩=some (.pointer (some ⟨f,0,none⟩))∧W.cell? ⟨f,5,none⟩=some (.complex .f64 (fI S.wB) (fI S.wI))∧W.cell? ⟨f,6,none⟩=some (.int .i64 S.nodes)):=Lh fun W Y hW=>by have h2:Sep w0 W (aG f q p S a::(Y++ .box bf 24 #[.pointer (some ⟨f,0,none⟩)]::R)):=hW.perm List.perm_middle;have h3:=h2.bC (Y.length+1) (by rw[gC,List.getElem?_append_right (Nat.le_refl _),Nat.sub_self];rfl) 0;exact⟨h3,h2.dK.c5,h2.dK.c6⟩
 replace h1:=Lh h1;clear hC hb hr hdo h hent
 go_enter_defers Tryz.func65,Tryz.ntmps65
 go_wp2_with fail;rename_i K1 hK1;rw[←hbf];refine jM ?_;refine fZ (S:=fun w'=>w'.cell? ⟨bf,0,none⟩=some (.pointer (some ⟨f,0,none⟩))∧w'.cell? ⟨f,5,none⟩=some (.complex .f64 (fI S.wB) (fI S.wI))∧w'.cell? ⟨f,6,none⟩=some (.int .i64 S.nodes)) 15 (by kernel_rfl) ?_;intro wq hwq;have hX:Hid (Sep w0 wq (aG f q p S a:: .box bf 24 #[.pointer (some ⟨f,0,none⟩)]::R)):=by rw[hwq];exact Lh h1.out.drew
 clear hwq h1 hbf;have hc:=hcs.out wq [] hX.out;simp only[List.size_toArray,List.length_cons,List.length_nil,Nat.reduceAdd];refine aA (i:=0) (v:=?_) hc rfl ?_ ?_;rotate_left
 ·rintro w ⟨e1,e2,e3⟩;go_simp;try with_reducible rfl
 simp only[Act.put,gD];refine aA (i:=1) (v:=?_) hc rfl ?_ ?_;rotate_left
 ·rintro w ⟨e1,e2,e3⟩;go_simp;try with_reducible rfl
 simp only[Act.put,gD];refine aA (i:=2) (v:=?_) hc rfl ?_ ?_;rotate_left
 ·rintro w ⟨e1,e2,e3⟩;go_simp;try with_reducible rfl
 simp only[Act.put,gD];refine aA (i:=3) (v:=?_) hc rfl ?_ ?_;rotate_left
 ·rintro w ⟨e1,e2,e3⟩;go_simp;try with_reducible rfl
 simp only[Act.put,gD];refine aA (i:=4) (v:=?_) hc rfl ?_ ?_;rotate_left
 ·rintro w ⟨e1,e2,e3⟩;go_simp;try with_reducible rfl
 simp only[Act.put,gD];refine aA (i:=5) (v:=?_) hc rfl ?_ ?_;rotate_left
 ·rintro w ⟨e1,e2,e3⟩;go_simp;try with_reducible rfl
 simp only[Act.put,gD];refine aA (i:=6) (v:=?_) hc rfl ?_ ?_;rotate_left
 ·rintro w ⟨e1,e2,e3⟩;go_simp;try with_reducible rfl
 simp only[Act.put,gD];refine aA (i:=7) (v:=?_) hc rfl ?_ ?_;rotate_left
 ·rintro w ⟨e1,e2,e3⟩;go_simp;try with_reducible rfl
 simp only[Act.put,gD];refine aA (i:=8) (v:=?_) hc rfl ?_ ?_;rotate_left
 ·rintro w ⟨e1,e2,e3⟩;go_simp;try with_reducible rfl
 simp only[Act.put,gD];refine aA (i:=9) (v:=?_) hc rfl ?_ ?_;rotate_left
 ·rintro w ⟨e1,e2,e3⟩;go_simp;try with_reducible rfl
 simp only[Act.put,gD];refine aA (i:=10) (v:=?_) hc rfl ?_ ?_;rotate_left
 ·rintro w ⟨e1,e2,e3⟩;go_simp;try with_reducible rfl
 simp only[Act.put,gD];refine aA (i:=11) (v:=?_) hc rfl ?_ ?_;rotate_left
 ·rintro w ⟨e1,e2,e3⟩;go_simp;try with_reducible rfl
 simp only[Act.put,gD];refine l9 (i:=12) (j:=13) (by kernel_rfl) rfl rfl (fun K hK=>?_) (fun K hK=>?_)
 focus
  go_simp
  have hX2:=Lh (hX.out.bN 44 #[.complex .f64 0 0])
  have hc2:=hcs.out _ [_] hX2.out
  try dsimp only
  refine hK _ _ (fun _=>hc2) ?_
  clear hK K
  try simp only[Act.put,gD]
  obtain⟨g2,hg2⟩:∃g,g=wq.heap.size:=⟨_,rfl⟩
  obtain⟨w2,hw2⟩:∃w2,w2=wq.alloc (.cells #[.complex .f64 0 0] 44):=⟨_,rfl⟩
  rw[←hw2]at hX2 hc2 ⊢
  rw[←hg2]at hX2 ⊢
  clear hw2 hg2 hX hc
  refine aC (i:=13) (by kernel_rfl) rfl (fun K hK=>?_)
  go_simp
  have LU:=Lh (hX2.out.bN 3 #[.int .i64 0])
  have hc3:=hcs.out _ [_,_] LU.out
  try dsimp only
  refine hK _ _ (fun _=>hc3) ?_
  clear hK K
  try simp only[Act.put,gD]
  obtain⟨g3,hg3⟩:∃g,g=w2.heap.size:=⟨_,rfl⟩
  obtain⟨w3,hw3⟩:∃w3,w3=w2.alloc (.cells #[.int .i64 0] 3):=⟨_,rfl⟩
  rw[←hw3]at LU hc3 ⊢
  rw[←hg3]at LU ⊢
  clear hw3 hg3 hX2 hc2
  have e4:w3.cell? ⟨g2,0,none⟩=some (.complex .f64 0 0):=LU.out.bC 1 rfl 0
  have f4:=LU.out.bF 1 rfl 0
  have hst:=fun x y=>rP x y e4 f4
  have VG:=Lh (LU.out.bS 1 rfl 0 (.complex .f64 (fI S.wB) (fI S.wI)))
  have hc4:=hcs.out _ [_,_] VG.out
  refine aC (i:=14) (by kernel_rfl) rfl (fun K hK=>?_)
  go_simp
  try dsimp only
  refine hK _ _ (fun _=>hc4) ?_
  clear hK K
  try simp only[Act.put,gD]
  obtain⟨w4,hw4⟩:∃w4,w4=w3.setCell ⟨g2,0,none⟩ (.complex .f64 (fI S.wB) (fI S.wI)):=⟨_,rfl⟩
  rw[←hw4]at VG hc4 ⊢
  clear hw4 e4 f4 hst LU hc3
  have e5:w4.cell? ⟨g3,0,none⟩=some (.int .i64 0):=VG.out.bC 0 rfl 0
  have f5:=VG.out.bF 0 rfl 0
  have hX5:=Lh (VG.out.bS 0 rfl 0 (.int .i64 S.nodes))
  refine aC (i:=15) (by kernel_rfl) rfl (fun K hK=>?_)
  go_simp
  try dsimp only
  refine hK _ _ (fun h=>absurd rfl h) ?_
  clear hK K
  try simp only[Act.put,gD]
  refine aO (by kernel_rfl) ?_ _
  simp only[mF]
  apply hK1
  exact hct.out _ _ _ _ _ _ _ _ _ _ _ _ _ _ _ _ _ _ _ _ _ _ _ _ _ _ _ _ _ _ _ _ _ _ _ _ _ _ _ _ _ _ _ _ _ _ _ _ _ _ _ _ _ _ g2 g3 _ (Sep.bZ [2,3,1,0] hX5.out (by decide) (by simp))
 focus
  go_simp
  have hX2:=Lh (hX.out.bN 3 #[.int .i64 0])
  have hc2:=hcs.out _ [_] hX2.out
  try dsimp only
  refine hK _ _ (fun _=>hc2) ?_
  clear hK K
  try simp only[Act.put,gD]
  obtain⟨g2,hg2⟩:∃g,g=wq.heap.size:=⟨_,rfl⟩
  obtain⟨w2,hw2⟩:∃w2,w2=wq.alloc (.cells #[.int .i64 0] 3):=⟨_,rfl⟩
  rw[←hw2]at hX2 hc2 ⊢
  rw[←hg2]at hX2 ⊢
  clear hw2 hg2 hX hc
  refine aC (i:=12) (by kernel_rfl) rfl (fun K hK=>?_)
  go_simp
  have LU:=Lh (hX2.out.bN 44 #[.complex .f64 0 0])
  have hc3:=hcs.out _ [_,_] LU.out
  try dsimp only
  refine hK _ _ (fun _=>hc3) ?_
  clear hK K
  try simp only[Act.put,gD]
  obtain⟨g3,hg3⟩:∃g,g=w2.heap.size:=⟨_,rfl⟩
  obtain⟨w3,hw3⟩:∃w3,w3=w2.alloc (.cells #[.complex .f64 0 0] 44):=⟨_,rfl⟩
  rw[←hw3]at LU hc3 ⊢
  rw[←hg3]at LU ⊢
  clear hw3 hg3 hX2 hc2
  have e4:w3.cell? ⟨g3,0,none⟩=some (.complex .f64 0 0):=LU.out.bC 0 rfl 0
  have f4:=LU.out.bF 0 rfl 0
  have hst:=fun x y=>rP x y e4 f4
  have VG:=Lh (LU.out.bS 0 rfl 0 (.complex .f64 (fI S.wB) (fI S.wI)))
  have hc4:=hcs.out _ [_,_] VG.out
  refine aC (i:=14) (by kernel_rfl) rfl (fun K hK=>?_)
  go_simp
  try dsimp only
  refine hK _ _ (fun _=>hc4) ?_
  clear hK K
  try simp only[Act.put,gD]
  obtain⟨w4,hw4⟩:∃w4,w4=w3.setCell ⟨g3,0,none⟩ (.complex .f64 (fI S.wB) (fI S.wI)):=⟨_,rfl⟩
  rw[←hw4]at VG hc4 ⊢
  clear hw4 e4 f4 hst LU hc3
  have e5:w4.cell? ⟨g2,0,none⟩=some (.int .i64 0):=VG.out.bC 1 rfl 0
  have f5:=VG.out.bF 1 rfl 0
  have hX5:=Lh (VG.out.bS 1 rfl 0 (.int .i64 S.nodes))
  refine aC (i:=15) (by kernel_rfl) rfl (fun K hK=>?_)
  go_simp
  try dsimp only
  refine hK _ _ (fun h=>absurd rfl h) ?_
  clear hK K
  try simp only[Act.put,gD]
  refine aO (by kernel_rfl) ?_ _
  simp only[mF]
  apply hK1
  exact hct.out _ _ _ _ _ _ _ _ _ _ _ _ _ _ _ _ _ _ _ _ _ _ _ _ _ _ _ _ _ _ _ _ _ _ _ _ _ _ _ _ _ _ _ _ _ _ _ _ _ _ _ _ _ _ g3 g2 _ (Sep.bZ [2,3,0,1] hX5.out (by decide) (by simp))
end
end Go.Proofs.YteihmbaimbogaaaGreat
namespace Go.Proofs.YteihmbaimbogaaaGreat
open Go Go.RowKit
def Fm (n:Nat) (a:Act) (ks:List Value):Prop:=a.defers=[]∧a.tmps.size=n∧a.tmps.toList.take ks.length=ks
def lits (f:Nat→Value):Nat→Nat→List Value
 |_,0=>[]
 |k,m+1=>f k::lits f (k+1) m
theorem ajH (us:List Value):∀(k:Nat) (pre:List Value),pre.length=k→us=lits (fun i=>(pre++us).getD i undef) k us.length:=by
 induction us with
 |nil=>intro k pre _;rfl
 |cons u us ih=>intro k pre hk;simp only[List.length_cons,lits];(have h1:(pre++u::us).getD k undef=u:=by subst hk;simp[List.getD]);rw[h1];have h2:=ih (k+1) (pre++[u]) (by simp[hk]);simp only[List.append_assoc,List.cons_append,List.nil_append]at h2;rw[←h2]
theorem Fm.lit {n m:Nat} {a:Act} {ks:List Value} (h:Fm n a ks) (hm:n=ks.length+m):∃f:Nat→Value,a=⟨(ks++lits f 0 m).toArray,[]⟩:=by
 obtain⟨h1,h2,h3⟩:=h;obtain⟨⟨l⟩,d⟩:=a;simp only at h1 h2 h3;subst h1;have hl:(l.drop ks.length).length=m:=by simp at h2 ⊢;omega
 refine⟨fun i=>(l.drop ks.length).getD i undef,?_⟩;have h4:=ajH (l.drop ks.length) 0 [] rfl;rw[hl]at h4;simp only[List.nil_append]at h4;rw[←h4]
 conv=>lhs;rw[←List.take_append_drop ks.length l]
 rw[show List.take ks.length l=ks from h3]
end Go.Proofs.YteihmbaimbogaaaGreat
