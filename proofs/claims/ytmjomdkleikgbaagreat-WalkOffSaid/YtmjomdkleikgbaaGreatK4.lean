/- Parts. -/
import Derived.Test.YtmjomdkleikgbaaGreatK3
import Derived.Defers
import Derived.Recover
import Derived.LoopTactic
import Derived.Laws.Closers25b
import Derived.Lib.EndianBits
import Derived.Maps.Own
import Derived.Maps.Views
set_option linter.unusedVariables false
set_option linter.unusedSimpArgs false
set_option maxRecDepth 100000
set_option maxHeartbeats 20000000
namespace Go.Proofs.YtmjomdkleikgbaaGreat
open Go.RowKit
def yJ (x:Int):Value:=.iface 199 (.agg #[iV x])
def aG (q p:Nat) (dead:Bool):aW:=.box q 197 #[.iface 36 (pV p),.bool dead]
theorem aoN (p:Nat) (w:World):(method 391 36 (pV p) "Read").run Tryz.prog w= .ok (255,pV p) w:=by kernel_rfl
theorem aiY (p:Nat) (w:World):(method 391 36 (pV p) "Write").run Tryz.prog w= .ok (256,pV p) w:=by kernel_rfl
theorem aiZ (p:Nat) (w:World):(method 391 36 (pV p) "Flush").run Tryz.prog w= .ok (254,pV p) w:=by kernel_rfl
theorem afS (p:Nat) (w:World):(method 391 36 (pV p) "Blocks").run Tryz.prog w= .ok (94,pV p) w:=by kernel_rfl
theorem CY (x:Int) (w:World):Calls Tryz.prog 186 #[iV x] w fun e w'=>e=(if x=0 then .returned (.tuple #[])else .panicked [{v:=yJ x,recovered:=false}])/\w'=w:=by
 by_cases hx:x=0
 ·subst hx;go_enter Tryz.func186,Tryz.ntmps186;go_wp2_with fail
  go_end0
  exact⟨rfl,rfl⟩
 rw[if_neg hx];go_enter Tryz.func186,Tryz.ntmps186;go_wp2_with fail;exact⟨rfl,rfl,rfl⟩
theorem YJ {w0 w:World} {R:List aW} {q p nb i:Nat} {D:DK} {dead:Bool} (hD:D.ok nb) (hi:i<nb) (h:Sep w0 w (aG q p dead::aO p D::R)):
  Calls Tryz.prog 153 #[pV q,iV i] w fun e w'=>
   (D.off=true/\e= .panicked [{v:=yJ 11,recovered:=false}]/\Sep w0 w' (aG q p dead::aO p D::R))\/
   (D.off=false/\∃v,e= .returned v/\Sep w0 w' (aI v (bk D.now i)::aG q p dead::aO p D::R)):=by
 have c0:=h.bC 0 rfl 0
 simp only[gA,gB,gC]at c0
 have hrd:=amX hD hi (Sep.dB [1,0] h aR bK)
 have hm:=aoN p
 go_enter Tryz.func153,Tryz.ntmps153
 go_wp2_with(first |(go_at_call 255;refine hrd.mono ?_;rintro e w9 (⟨ho,rfl,h9⟩|⟨ho,v,rfl,h9⟩))|(go_at_call 186;refine(CY _ _).mono ?_;rintro e w8 ⟨rfl,h8⟩;obtain rfl:=h8.symm))
 ·exact⟨rfl,.inl ⟨ho,rfl,Sep.dB [1,0] h9 aR bK⟩⟩
 ·go_ret;exact .inr ⟨ho,_,rfl,Sep.dB [0,2,1] h9 aR bK⟩
theorem TT {w0 w:World} {R:List aW} {q p nb i:Nat} {D:DK} {dead:Bool} {v:Value} {bs:List UInt8} (hD:D.ok nb) (hi:i<nb) (hbs:bs.length=512) (l7:D.back.length<65536) (hv:jI w0 R v bs) (h:Sep w0 w (aG q p dead::aO p D::R)):
  Calls Tryz.prog 161 #[pV q,iV i,v] w fun e w'=>
   (D.off=true/\e= .panicked [{v:=yJ 11,recovered:=false}]/\Sep w0 w' (aG q p dead::aO p D::R))\/
   (D.off=false/\e= .returned (.tuple #[])/\Sep w0 w' (aG q p dead::aO p (D.wr i bs)::R)):=by
 have c0:=h.bC 0 rfl 0
 simp only[gA,gB,gC]at c0
 have hwr:=ah1 hD hi hbs l7 hv.cons (Sep.dB [1,0] h aR bK)
 have hm:=aiY p
 clear l7 hbs
 cases hoff:D.off with
 |true=>simp only[hoff,if_true]at hwr;go_enter Tryz.func161,Tryz.ntmps161;go_wp2_with(first |(go_at_call 256;refine hwr.mono ?_;rintro e w9 ⟨rfl,h9⟩)|(go_at_call 186;refine(CY _ _).mono ?_;rintro e w8 ⟨rfl,h8⟩;obtain rfl:=h8.symm));exact⟨rfl,.inl ⟨trivial,rfl,Sep.dB [1,0] h9 aR bK⟩⟩
 |false=>
  simp only[hoff,J4,if_false]at hwr;go_enter Tryz.func161,Tryz.ntmps161;go_wp2_with(first |(go_at_call 256;refine hwr.mono ?_;rintro e w9 ⟨rfl,h9⟩)|(go_at_call 186;refine(CY _ _).mono ?_;rintro e w8 ⟨rfl,h8⟩;obtain rfl:=h8.symm))
  go_end0
  exact .inr ⟨trivial,rfl,Sep.dB [1,0] h9 aR bK⟩
theorem TU {w0 w:World} {R:List aW} {q p nb:Nat} {D:DK} {dead:Bool} (hD:D.ok nb) (h:Sep w0 w (aG q p dead::aO p D::R)):
  Calls Tryz.prog 155 #[pV q] w fun e w'=>
   (D.off=true/\e= .panicked [{v:=yJ 11,recovered:=false}]/\Sep w0 w' (aG q p dead::aO p D::R))\/
   (D.off=false/\e= .returned (.tuple #[])/\Sep w0 w' (aG q p dead::aO p D.fl::R)):=by
 have c0:=h.bC 0 rfl 0
 simp only[gA,gB,gC]at c0
 have hfl:=ah3 hD (Sep.dB [1,0] h aR bK)
 have hm:=aiZ p
 cases hoff:D.off with
 |true=>simp only[hoff,if_true]at hfl;go_enter Tryz.func155,Tryz.ntmps155;go_wp2_with(first |(go_at_call 254;refine hfl.mono ?_;rintro e w9 ⟨rfl,h9⟩)|(go_at_call 186;refine(CY _ _).mono ?_;rintro e w8 ⟨rfl,h8⟩;obtain rfl:=h8.symm));exact⟨rfl,.inl ⟨trivial,rfl,Sep.dB [1,0] h9 aR bK⟩⟩
 |false=>
  simp only[hoff,J4,if_false]at hfl;go_enter Tryz.func155,Tryz.ntmps155;go_wp2_with(first |(go_at_call 254;refine hfl.mono ?_;rintro e w9 ⟨rfl,h9⟩)|(go_at_call 186;refine(CY _ _).mono ?_;rintro e w8 ⟨rfl,h8⟩;obtain rfl:=h8.symm))
  go_end0
  exact .inr ⟨trivial,rfl,Sep.dB [1,0] h9 aR bK⟩
theorem GJ {w0 w:World} {R:List aW} {q p:Nat} {dead:Bool} (h:Sep w0 w (aG q p dead::R)):
  Calls Tryz.prog 168 #[pV q] w fun e w'=>e=(if dead=true then .panicked [{v:=yJ 11,recovered:=false}]else .returned (.tuple #[]))/\w'=w:=by
 have c1:=h.bC 0 rfl 1;simp only[gA,gB,gC]at c1;cases dead with
 |true=>go_enter Tryz.func168,Tryz.ntmps168;go_wp2_with fail;exact⟨rfl,rfl,rfl⟩
 |false=>
  go_enter Tryz.func168,Tryz.ntmps168;go_wp2_with fail
  go_end0
  exact⟨rfl,rfl⟩
theorem Sep.adX {w0 w:World} {As:List aW} {p nb:Nat} {D:DK} (i:Nat) (hD:D.ok nb) (h:Sep w0 w As) (hi:As[i]? =some (aO p D)):∃A c,w.cell? ⟨p,0,none⟩=some (.slice A (512*nb) c):=by
 have hp:Sep w0 w (aO p D::(As.take i++As.drop (i+1))):=by have e:=(sG hi).1;rw[e]at h;exact h.perm lD
 obtain⟨vn,vf,vb,h1⟩:=hp.uH;obtain⟨g,n,c,rfl,hnl,_,_⟩:=h1.yX 1 rfl (by rw[lL hD.now.size,hD.now.len];have:=hD.some;omega);have:=(h1.wO 0 rfl).c0;rw[hnl.out,lL hD.now.size,hD.now.len]at this;exact⟨_,_,this⟩
theorem CZ {w0 w:World} {R:List aW} {q p nb:Nat} {D:DK} {dead:Bool} (hD:D.ok nb) (NU:96<=nb) (h:Sep w0 w (aG q p dead::aO p D::R)):
  Calls Tryz.prog 154 #[pV q] w fun e w'=>e= .returned (iV ((nb-96:Nat):Int))/\w'=w:=by
 have c0:=h.bC 0 rfl 0;simp only[gA,gB,gC]at c0;obtain⟨A,c,hn⟩:=h.adX 1 hD rfl;have hbl:=QT hn rfl hD.few;have hm:=afS p;have l7:=hD.few;have e:((nb-96:Nat):Int)=(nb:Int)-96:=by omega
 have b1:(nb:Int)<=4096:=by omega
 have b2:(96:Int)<=nb:=by omega
 have hw:IntKind.i64.wrap ((nb:Int)-96)=(nb:Int)-96:=IntWalk.i64_in _ aD;rw[e];go_enter Tryz.func154,Tryz.ntmps154;go_wp2_with(go_at_call 94;refine hbl.mono ?_;rintro e w9 ⟨rfl,h9⟩;obtain rfl:=h9.symm);go_ret;exact⟨rfl,rfl⟩
section
variable {w0 w:World} {R:List aW} {q p nb i:Nat} {D:DK} {dead:Bool}
theorem RO (hD:D.ok nb) (hi:i<nb) (ho:D.off=false) (h:Sep w0 w (aG q p dead::aO p D::R)):
  Calls Tryz.prog 153 #[pV q,iV i] w fun e w'=>∃v,e= .returned v/\Sep w0 w' (aI v (bk D.now i)::aG q p dead::aO p D::R):=
 (YJ hD hi h).mono fun e w' h=>by
  rcases h with⟨h,_⟩|⟨_,h⟩
  ·rw[ho]at h;cases h
  exact h
theorem aoO (hD:D.ok nb) (hi:i<nb) (ho:D.off=true) (h:Sep w0 w (aG q p dead::aO p D::R)):
  Calls Tryz.prog 153 #[pV q,iV i] w fun e w'=>e= .panicked [{v:=yJ 11,recovered:=false}]/\Sep w0 w' (aG q p dead::aO p D::R):=
 (YJ hD hi h).mono fun e w' h=>by
  rcases h with⟨_,h⟩|⟨h,_⟩
  ·exact h
  rw[ho]at h;cases h
theorem uJ {v:Value} {bs:List UInt8} (hD:D.ok nb) (hi:i<nb) (hbs:bs.length=512) (l7:D.back.length<65536) (hv:jI w0 R v bs) (ho:D.off=false) (h:Sep w0 w (aG q p dead::aO p D::R)):
  Calls Tryz.prog 161 #[pV q,iV i,v] w fun e w'=>e= .returned (.tuple #[])/\Sep w0 w' (aG q p dead::aO p (D.wr i bs)::R):=
 (TT hD hi hbs l7 hv h).mono fun e w' h=>by
  rcases h with⟨h,_⟩|⟨_,h⟩
  ·rw[ho]at h;cases h
  exact h
theorem zG {v:Value} {bs:List UInt8} (hD:D.ok nb) (hi:i<nb) (hbs:bs.length=512) (l7:D.back.length<65536) (hv:jI w0 R v bs) (ho:D.off=true) (h:Sep w0 w (aG q p dead::aO p D::R)):
  Calls Tryz.prog 161 #[pV q,iV i,v] w fun e w'=>e= .panicked [{v:=yJ 11,recovered:=false}]/\Sep w0 w' (aG q p dead::aO p D::R):=
 (TT hD hi hbs l7 hv h).mono fun e w' h=>by
  rcases h with⟨_,h⟩|⟨h,_⟩
  ·exact h
  rw[ho]at h;cases h
theorem rM (hD:D.ok nb) (ho:D.off=false) (h:Sep w0 w (aG q p dead::aO p D::R)):
  Calls Tryz.prog 155 #[pV q] w fun e w'=>e= .returned (.tuple #[])/\Sep w0 w' (aG q p dead::aO p D.fl::R):=
 (TU hD h).mono fun e w' h=>by
  rcases h with⟨h,_⟩|⟨_,h⟩
  ·rw[ho]at h;cases h
  exact h
theorem zH (hD:D.ok nb) (ho:D.off=true) (h:Sep w0 w (aG q p dead::aO p D::R)):
  Calls Tryz.prog 155 #[pV q] w fun e w'=>e= .panicked [{v:=yJ 11,recovered:=false}]/\Sep w0 w' (aG q p dead::aO p D::R):=
 (TU hD h).mono fun e w' h=>by
  rcases h with⟨_,h⟩|⟨h,_⟩
  ·exact h
  rw[ho]at h;cases h
end
def aJ (b:Nat) (x:Int):aW:=.box b 40 #[iV x]
theorem abB (x:Int) (w:World):(Instr.typeAssert (.iface 199 (.agg #[iV x])) 20 199 true).run Tryz.prog w= .ok (.tuple #[.agg #[iV x],.bool true]) w:=by kernel_rfl
theorem LG {w0 w:World} {R:List aW} {q p be:Nat} {dead:Bool} {x y:Int} {older:List PanicEntry} (h:Sep w0 w (aG q p dead::aJ be y::R)):
  CallsD Tryz.prog 151 #[pV q,pV be] (.panicking ({v:=yJ x,recovered:=false}::older)) w fun e u' w'=>
   e= .returned (.tuple #[])/\u'= .panicking ({v:=yJ x,recovered:=true}::older)/\Sep w0 w' (aG q p (decide (x=11)||dead)::aJ be x::R):=by
 refine callsD_of_wpS Tryz.func151 rfl fun c₀ cs hu=>?_
 apply wpS_seq
 apply wpS_region
 simp[wpOpsS,go_sem,recoverD,hu,Tryz.ntmps151,Exit.thenS]
 refine wpS_of_wp ?_
 unfold yJ
 simp only[uB,kH,qQ,Nat.reduceAdd,Nat.reduceSub,xD,xE,xH,xG,mI,kI,gD,M6,GU]
 have hta:=abB x w
 have hA:=h.alloc (.cells #[iV x] 199)
 have c1:=hA.bC 0 rfl 1
 have f1:=hA.bF 0 rfl 1
 have e0:=hA.bC 1 rfl 0
 have ef:=hA.bF 1 rfl 0
 have hB:=hA.bS 0 rfl 1 (.bool true)
 have b0:=hB.bC 1 rfl 0
 have bf:=hB.bF 1 rfl 0
 have hB2:=hB.bS 1 rfl 0 (.int .i64 x)
 have hA2:=hA.bS 1 rfl 0 (.int .i64 x)
 simp only[gA,gB,gC]at c1 e0 b0
 by_cases hx:x=11
 ·subst hx;go_wp2_with fail;refine⟨rfl,_,rfl,.tuple #[],?_,rfl,rfl,hB2⟩;simp[results,Tryz.results151]
 ·have hx2:(x==11)=false:=jU.2 hx;rw[decide_eq_false hx,AX];go_wp2_with fail;refine⟨rfl,_,rfl,.tuple #[],?_,rfl,rfl,hA2⟩;simp[results,Tryz.results151]
theorem LH (a b:Value) (w:World):
  CallsD Tryz.prog 151 #[a,b] .returning w fun e u' w'=>e= .returned (.tuple #[])/\u'= .returning/\w'=w:=by
 refine callsD_of_wpS Tryz.func151 rfl fun c₀ cs hu=>?_
 apply wpS_seq;apply wpS_region;simp[wpOpsS,go_sem,recoverD,hu,Tryz.ntmps151,Exit.thenS];refine wpS_of_wp ?_;simp only[uB,kH,qQ,Nat.reduceAdd,Nat.reduceSub,xD,xE,xH,xG,mI,kI,gD,M6,GU];go_wp2_with fail;refine⟨rfl,.returning,?_,.tuple #[],?_,rfl,rfl,rfl⟩
 ·cases c₀;simp at hu;subst hu;rfl
 simp[results,Tryz.results151]
theorem C8 {w0 w:World} {R:List aW} {q p be:Nat} {dead:Bool} {x y:Int} {fn:Func} {tmps:Array Value} {Post:Ending->World->Prop} {ds:List Deferred} (h:Sep w0 w (aG q p dead::aJ be y::R))
  (hK:∀w',Sep w0 w' (aG q p (decide (x=11)||dead)::aJ be x::R)->Leaves Tryz.prog fn tmps Post ds .returning w'):
  Leaves Tryz.prog fn tmps Post ({target:=.fn (.func 151) #[],args:=#[pV q,pV be]}::ds) (.panicking [{v:=yJ x,recovered:=false}]) w:=by
 refine leaves_cons (f:=151) (args:=#[pV q,pV be]) bK (by simp[go_sem]) ?_;refine(LG h).mono ?_;rintro e u' w' ⟨rfl,rfl,hS⟩;exact hK w' hS
theorem oJ {w:World} {a b:Value} {fn:Func} {tmps:Array Value} {Post:Ending->World->Prop} {ds:List Deferred} (hK:Leaves Tryz.prog fn tmps Post ds .returning w):
  Leaves Tryz.prog fn tmps Post ({target:=.fn (.func 151) #[],args:=#[a,b]}::ds) .returning w:=by
 refine leaves_cons (f:=151) (args:=#[a,b]) bK (by simp[go_sem]) ?_;refine(LH a b w).mono ?_;rintro e u' w' ⟨rfl,rfl,rfl⟩;exact hK
theorem xS {w0 w:World} {R:List aW} {q p nb:Nat} {D:DK} {dead:Bool} (hD:D.ok nb) (h:Sep w0 w (aG q p dead::aO p D::R)):
  Calls Tryz.prog 102 #[pV q] w fun e w'=>
   e= .returned (iV (if(dead||D.off)=true then 11 else 0))/\Sep w0 w' (aG q p (dead||D.off)::aO p D::R):=by
 have h1:Sep w0 (w.alloc (.cells #[iV 0] 40)) (aG q p dead::aO p D::aJ w.heap.size 0::R):=Sep.dB [1,2,0] (h.bN 40 #[iV 0]) aR bK
 have haw:=GJ h1
 have h0:0<nb:=by have:=hD.some;omega
 have hend:∀(s3 s4 s5 s6 s7:Value) W d x,Sep w0 W (aG q p d::aJ w.heap.size x::aO p D::R)->∃v,(results Tryz.f102 #[pV q,undef,pV w.heap.size,s3,s4,s5,s6,s7]).run Tryz.prog W= .ok v W/\v=iV x/\Sep w0 W (aG q p d::aO p D::R):=fun s3 s4 s5 s6 s7 W d x hS=>by have ec:=hS.bC 1 rfl 0;simp only[gA,gB]at ec;exact⟨.int .i64 x,by simp[results,Tryz.results102,go_sem,ec],rfl,Sep.drop 1 (Sep.dB [1,0] hS aR bK)⟩
 cases dead with
 |true=>
  simp only[if_true]at haw
  go_enter_defers Tryz.func102,Tryz.ntmps102
  go_wp2_with(first |(go_at_call 168;refine haw.mono ?_;rintro e w9 ⟨rfl,h9⟩;obtain rfl:=h9.symm));(refine C8 (y:=0) (R:=aO p D::R) (Sep.dB [0,2,1] h1 aR bK) fun w' hS=>?_);obtain⟨v,h2,rfl,h3⟩:=hend _ _ _ _ _ _ _ _ hS;exact⟨_,h2,rfl,h3⟩
 |false=>
  simp only[J4,if_false]at haw;cases hoff:D.off with
  |true=>
   have hrd:=aoO hD h0 hoff h1
   go_enter_defers Tryz.func102,Tryz.ntmps102
   go_wp2_with(first |(go_at_call 168;refine haw.mono ?_;rintro e w9 ⟨rfl,h9⟩;obtain rfl:=h9.symm)|(go_at_call 153;refine hrd.mono ?_;rintro e w9 ⟨rfl,h9⟩));(refine C8 (y:=0) (R:=aO p D::R) (Sep.dB [0,2,1] h9 aR bK) fun w' hS=>?_);obtain⟨v,h2,rfl,h3⟩:=hend _ _ _ _ _ _ _ _ hS;exact⟨_,h2,rfl,h3⟩
  |false=>
   have hrd:=RO hD h0 hoff h1
   go_enter_defers Tryz.func102,Tryz.ntmps102
   go_wp2_with(first |(go_at_call 168;refine haw.mono ?_;rintro e w9 ⟨rfl,h9⟩;obtain rfl:=h9.symm)|(go_at_call 153;refine hrd.mono ?_;rintro e w9 ⟨v,rfl,h9⟩;have k1:=h9.bC 3 rfl 0;have k2:=h9.bF 3 rfl 0;simp only[gA,gB]at k1));refine oJ ?_;have h10:Sep w0 _ (aI v (bk D.now 0)::aG q p false::aO p D::aJ w.heap.size 0::R):=h9.bS 3 rfl 0 (.int .i64 0);obtain⟨v,h2,rfl,h3⟩:=hend _ _ _ _ _ _ false 0 (Sep.dB [0,2,1] (Sep.drop 1 h10) aR bK);exact⟨_,h2,rfl,h3⟩
def auF :List Int:=[0,498536548,997073096,651767980,1994146192,1802195444,1303535960,1342533948,3988292384,4027552580,3604390888,3412177804,2607071920,2262029012,2685067896,3183342108]
def YK (c:Int):Int:=auF.getD (c%16).toNat 0
theorem auG {c:Int} (h0:0<=c) (h1:c<=4294967295) (w:World):Calls Tryz.prog 230 #[.int .u32 c] w fun e w'=>e= .returned (.int .u32 (YK c))/\Below w.heap.size w w':=by
 have hm:bits .and .u32 c 15=c%16:=bits_mask .u32 32 aR wraps_u32 4 aR c h0 aD;have q0:0<=c%16:=by omega
 have q1:c%16<16:=by omega
 obtain⟨k,hk⟩:∃k:Fin 16,c%16=(k.1:Int):=⟨⟨(c%16).toNat,by omega⟩,by simp;omega⟩;have hv:YK c=auF.getD k.1 0:=by unfold YK;rw[hk];simp
 rw[hv];rw[hk]at hm;clear q0 q1 hk hv;obtain⟨k,hk⟩:=k;simp only at hm ⊢;have q0:(0:Int)<=(k:Int):=by omega
 have q1:(k:Int)<16:=by omega
 go_enter Tryz.func230,Tryz.ntmps230;go_wp2_with fail;go_ret;refine⟨?_,(Below.refl _ w).alloc (iC _) _⟩;have:∀k:Fin 16,∀u:Value,[Value.int IntKind.u32 0,.int .u32 498536548,.int .u32 997073096,.int .u32 651767980,.int .u32 1994146192,.int .u32 1802195444,.int .u32 1303535960,.int .u32 1342533948,.int .u32 3988292384,.int .u32 4027552580,.int .u32 3604390888,.int .u32 3412177804,.int .u32 2607071920,.int .u32 2262029012,.int .u32 2685067896,.int .u32 3183342108].getD k.1 u= .int .u32 (auF.getD k.1 0):=by intro k u;obtain⟨k,hk⟩:=k;(have:k=0\/k=1\/k=2\/k=3\/k=4\/k=5\/k=6\/k=7\/k=8\/k=9\/k=10\/k=11\/k=12\/k=13\/k=14\/k=15:=by omega);rcases this with rfl|rfl|rfl|rfl|rfl|rfl|rfl|rfl|rfl|rfl|rfl|rfl|rfl|rfl|rfl|rfl<;>rfl
 rw[<-this ⟨k,hk⟩ undef];simp[gH,hk]
def aGM (x:Int) (y:UInt8):Int:=
 bits BinOp.xor IntKind.u32 (YK (bits BinOp.xor IntKind.u32 (YK (bits BinOp.xor IntKind.u32 x (y.toNat:Int))) (bits BinOp.xor IntKind.u32 x (y.toNat:Int)/16))) (bits BinOp.xor IntKind.u32 (YK (bits BinOp.xor IntKind.u32 x (y.toNat:Int))) (bits BinOp.xor IntKind.u32 x (y.toNat:Int)/16)/16)
def aGN :Int:=bits BinOp.xor IntKind.u32 IntKind.u32.max 0
def NM (bs:List UInt8):Int:=bits BinOp.xor IntKind.u32 IntKind.u32.max (bs.foldl aGM aGN)
theorem axW (bs:List UInt8):0<=NM bs/\NM bs<=4294967295:=⟨bits_lo_u32 _ _ _,bits_hi_u32 _ _ _⟩
theorem auH {v:Value} {bs:List UInt8} {w:World} (hv:BytesAt w v bs) (hlen:bs.length<=1048576):Calls Tryz.prog 210 #[iV 0,v] w fun e w'=>e= .returned (iV (NM bs))/\Below w.heap.size w w':=by
 obtain⟨A,cap,rfl,hm⟩:=hv.shape;obtain⟨n,hn⟩:∃n,bs.length=n:=⟨_,rfl⟩;rw[hn]at hlen hm;have b1:(n:Int)<=1048576:=by omega
 have hv':=Lh hv;rw[hn];clear hv hm;go_enter Tryz.func210,Tryz.ntmps210;go_wp2_with fail;go_loopw[5,13] (fun c i wr=>∃(k:Nat) (x:Int),k<=n/\i=iV k/\c= .int .u32 x/\Hid (x=(bs.take k).foldl aGM aGN)/\Below w.heap.size w wr) (fun c i _=>n-(intOf i).toNat)
 case atStart=>exact⟨0,_,fZ _,rfl,rfl,rfl,Below.refl _ _⟩
 obtain⟨k,x,hk,rfl,rfl,hxk,hB⟩:=hrel;by_cases hlt:k<n
 ·(have hx:∃ad,A=some ad/\wr.cell? (ad.add k)=some (.int .u8 ((bs[k]'aD).toNat:Int)):=by obtain⟨ad,c,u,e,h1,h2⟩:=Rd.at_ (Rd.below hv'.out hB) (k:=k) aD;cases e;rw[lC,gE aD]at h1;cases h1;exact⟨_,rfl,h2⟩);obtain⟨ad,rfl,hc⟩:=hx;obtain⟨y,hy⟩:∃y:Nat,y=(bs[k]'aD).toNat:=⟨_,rfl⟩;rw[<-hy]at hc;(have hy2:y<256:=by rw[hy];exact UInt8.toNat_lt _);replace hy:=Lh hy;(have q1:(k:Int)<n:=by omega);(have q2:(y:Int)<256:=by omega);have q3:IntKind.u32.wrap (y:Int)=y:=wraps_u32 _ aD aD;clear hv';go_wp2_with(first |(go_at_call 230;refine(auG (bits_lo_u32 _ _ _) (bits_hi_u32 _ _ _) _).mono ?_;rintro e w9 ⟨rfl,hB9⟩;replace hB:=hB.trans (hB9.mono hB.size);clear hB9));refine⟨⟨k+1,_,by omega,rfl,rfl,?_,hB⟩,by simp[intOf];omega⟩;refine Lh ?_;rw[pI,gE aD,OW,<-hxk.out,hy.out];rfl
 obtain rfl:k=n:=by omega
 have hcv:IntKind.i64.wrap (bits BinOp.xor IntKind.u32 IntKind.u32.max x)=bits BinOp.xor IntKind.u32 IntKind.u32.max x:=IntWalk.i64_in _ (by have:=bits_lo_u32 BinOp.xor IntKind.u32.max x;have:=bits_hi_u32 BinOp.xor IntKind.u32.max x;omega);go_wp2_with fail;go_ret;refine⟨?_,hB⟩;have e:NM bs=bits BinOp.xor IntKind.u32 IntKind.u32.max x:=by unfold NM;rw[hxk.out,pM aD]
 rw[e];rfl
theorem axX {v:Value} {bs:List UInt8} {w:World} (hv:BytesAt w v bs) (hlen:bs.length<=1048576):Calls Tryz.prog 185 #[v] w fun e w'=>e= .returned (iV (NM bs))/\Below w.heap.size w w':=by have h:=auH hv hlen;clear hv hlen;go_enter Tryz.func185,Tryz.ntmps185;go_wp2_with(go_at_call 210;refine h.mono ?_;rintro e w9 ⟨rfl,hB9⟩);go_ret;exact⟨rfl,hB9⟩
def leB (n k:Nat):List UInt8:=(List.range k).map fun i=>UInt8.ofNat (n/2 ^ (8*i))
theorem EG {b xs:List UInt8} {i:Nat} (h:i+xs.length<b.length) (y:UInt8):(dR b i xs).set (i+xs.length) y=dR b i (xs++[y]):=by
 apply GV;intro k;rw[List.getElem?_set,fP aD,uR aD,uR E8];by_cases e:i+xs.length=k
 ·subst e;rw[if_pos rfl,if_pos h,if_pos ⟨by omega,by simp⟩,J2];simp
 rw[if_neg e];by_cases e2:i<=k/\k<i+xs.length
 ·rw[if_pos e2,if_pos ⟨e2.1,by simp;omega⟩,EI aD]
 rw[if_neg e2,if_neg E8]
theorem auI (n m:Nat):leB n (m+1)=leB n m++[UInt8.ofNat (n/2 ^ (8*m))]:=by unfold leB;rw[OX,mZ];rfl
theorem PH (n:Nat):kY (UInt8.ofNat n)= .int .u8 ((n:Int)%256):=by unfold kY;rw[wL];rfl
theorem abC {w0 w:World} {R:List aW} {v:Value} {bs:List UInt8} {at' n k:Nat} (h:Sep w0 w (aI v bs::R)) (hk:at'+k<=bs.length) (hk8:k<=7) (hlen:bs.length<=1048576) (hn:n<4611686018427387904):
  Calls Tryz.prog 188 #[v,iV at',iV n,iV k] w fun e w'=>e= .returned (.tuple #[])/\Sep w0 w' (aI v (dR bs at' (leB n k))::R):=by
 obtain⟨A,cap,hv⟩:=h.dV 0 rfl;subst hv;obtain⟨L,hL⟩:∃L,bs.length=L:=⟨_,rfl⟩;have h':=Lh h;rw[hL]at hk hlen;rw[hL];have b1:(L:Int)<=1048576:=by omega
 have b2:(at':Int)+k<=L:=by omega
 have b3:(k:Int)<=7:=by omega
 have b4:(n:Int)<4611686018427387904:=by omega
 clear h;go_enter Tryz.func188,Tryz.ntmps188;go_wp2_with fail;go_loopw[10] (fun i wr=>∃m:Nat,m<=k/\i=iV m/\Hid (Sep w0 wr (aI (.slice A L cap) (dR bs at' (leB n m))::R))) (fun i _=>k-(intOf i).toNat)
 case atStart=>exact⟨0,fZ _,rfl,by rw[hL]at h';simpa[dR,leB]using h'⟩
 obtain⟨m,hm,rfl,hS⟩:=hrel;have hll:(leB n m).length=m:=by simp[leB]
 have hlb:(dR bs at' (leB n m)).length=L:=by rw[fP aD,hL]
 by_cases hlt:m<k
 ·obtain⟨g,c,e,_,_,_,_⟩:=hS.out.kC 0 rfl aD;rw[hlb]at e;cases e;(have hS2:Sep w0 wr (.sl 5 1 (sV g L cap) L ((dR bs at' (leB n m)).map kY)::R):=by have:=hS.out;rw[bV hlb]at this;exact this);have hc0:=hS2.cellAt 0 rfl (at'+m) aD;have hf:=hS2.frozenAt 0 rfl (at'+m);(have hc:∃z:Int,wr.cell? ⟨g,at'+m,none⟩=some (.int .u8 z):=by rw[lC,gE aD]at hc0;exact⟨_,hc0⟩);obtain⟨u0,hc⟩:=hc;clear hc0;(have hst:=fun u=>hS2.stored 0 rfl (at'+m) u);(have q1:(m:Int)<k:=by omega);(have q2:(0:Int)<=(m:Int):=by omega);(have q3:((at':Int)+m).toNat=at'+m:=by omega);replace hst:=Lh hst;clear hS hS2 hll hlb hn hlen b4;go_wp2_with fail;refine⟨⟨m+1,by omega,rfl,Lh ?_⟩,by simp[intOf];omega⟩;have h9:=hst.out (.int .u8 ((n:Int)/2 ^ (8*m)%256));(have hll:(leB n m).length=m:=by simp[leB]);(have hlb:(dR bs at' (leB n (m+1))).length=L:=by rw[fP (by simp[leB];omega),hL]);rw[bV hlb,auI,<-EG (by rw[hll,hL];omega),hll,O5,PH];(have e:((n/2 ^ (8*m):Nat):Int)=(n:Int)/2 ^ (8*m):=by simp);rw[e];exact h9
 obtain rfl:m=k:=by omega
 go_wp2_with fail
 go_end0
 exact⟨rfl,hS.out⟩
theorem join_step {G z m:Nat} (hG:G<2 ^ (8*m)) (hz:z<256) (hm:m<=6):bits BinOp.or IntKind.i64 (G:Int) (wrap64 ((z:Int)*2 ^ (8*m)))=((G+z*2 ^ (8*m):Nat):Int):=by
 have hp:(2:Nat) ^ (8*m)<=2 ^ 48:=Nat.pow_le_pow_right aR aD;have hzp:z*2 ^ (8*m)<=255*2 ^ 48:=Nat.mul_le_mul aD hp;have e2:(z:Int)*2 ^ (8*m)=((z*2 ^ (8*m):Nat):Int):=by simp
 have hmod:z*2 ^ (8*m)%2 ^ (8*m)=0:=Nat.mul_mod_left _ _;rw[e2];generalize z*2 ^ (8*m)=q at hzp hmod;have c1:(255*2 ^ 48:Nat)=71776119061217280:=by decide
 have c2:(2:Nat) ^ 48=281474976710656:=by decide
 rw[c1]at hzp;rw[c2]at hp;have e3:wrap64 (q:Int)=(q:Int):=IntWalk.wrap64_in _ aD;have c3:(2:Int) ^ 63=9223372036854775808:=by decide
 rw[e3];refine bits_join_low .i64 63 aR (fun n h0 h1=>IntWalk.i64_in n ?_) (8*m) (G:Int) (q:Int) ?_ ?_ ?_ ?_ ?_ ?_
 ·rw[c3]at h1;omega
 ·omega
 ·exact_mod_cast hG
 ·rw[c3];omega
 ·omega
 ·exact_mod_cast hmod
 rw[c3];omega
def acB (s:ByteArray):List UInt8:=s.data.toList
theorem Sep.BB {w0 w:World} {As:List aW} {e:TypeId} {n:Nat} {cs:List Value} {P:Program} {g cap:Nat} (i:Nat) (h:Sep w0 w As) (hi:As[i]? =some (.sl e 1 (sV g n cap) n cs)) (dT sT ty:TypeId) (hu:P.underlying dT=some (.slice e)) (hs:(P.info? e).map (·.size)=some 1)
  (o dLen dCap:Nat) (s:ByteArray) (hd:s.size<=dLen) (hfit:o+s.size<=n):
  ∃w',(Builtin.copy_ #[dT,sT] ty #[.slice (some ⟨g,o,none⟩) dLen dCap,.string s]).run P w= .ok (goInt (s.size:Nat)) w'/\Sep w0 w' (As.set i (.sl e 1 (sV g n cap) n (oM cs o ((acB s).map kY))))/\w'.heap.size=w.heap.size:=by
 have hlen:((acB s).map kY).length=s.size:=by unfold acB;rw[iJ];rfl
 obtain⟨cur,hg,hsz,hS⟩:=h.laid i hi o ((acB s).map kY) (by rw[hlen];exact hfit);have hst:=run_storeCells_at P g o e ((acB s).map kY) 0 cur w hg (by rw[sF];exact hsz) rT;rw[sF]at hst;refine⟨_,?_,hS,by simp[World.setRow]⟩;cases hq:P.info? e with
 |none=>rw[hq]at hs;simp at hs
 |some i=>(have hi:i.size=1:=by rw[hq]at hs;simpa using hs);have hmin:Nat.min s.size dLen=s.size:=yN hd;simp[Builtin.copy_,run_underlying hu,Builtin.lenOf,Builtin.firstCells,sizeOf,typeInfo,hq,hi,hmin];(have e:List.take s.size (List.map (fun b:UInt8=>Value.int IntKind.u8 (b.toNat:Int)) s.data.toList)=(acB s).map kY:=by rw[pM (by rw[iJ];exact iC _)];rfl);rw[e,hst];simp
theorem aBQ {w0 w:World} {As:List aW} {e:TypeId} {n:Nat} {cs:List Value} {g cap:Nat} (i:Nat) (h:Sep w0 w As) (hi:As[i]? =some (.sl e 1 (sV g n cap) n cs)) (o m c:Nat) (hm:o+m<=n) (hc:m<=c) (hcm:c<=maxLen):
  Rd w 1 (.slice (some ⟨g,o,none⟩) m c) m ((cs.drop o).take m):=by
 obtain⟨A,cap',e',_,_,hl⟩:=h.gL i hi;rw[zM]at hl;have hlt:g<w.heap.size:=by
  obtain⟨F,⟨ho,_⟩,hF⟩:=h.get i hi;rcases ho.2 with⟨h',_⟩|⟨g',c',cur,h',hb,hg,_⟩
  ·simp at h'
  cases h';exact lt_of_heap hg
 refine⟨by rw[qP,rZ];omega,_,_,rfl,hc,hcm,fun _=>⟨_,rfl,hlt,fun j u hj=>?_⟩⟩;rw[vV]at hj;split at hj
 ·rename_i hjm;rw[AV]at hj;rw[Addr.add_lit,h.cellAt i hi (o+j) aD];exact hj
 cases hj
def bX :List UInt8:=List.replicate 512 0
theorem fV :bX.length=512:=FL
theorem DN :bX.map kY=List.replicate 512 (.int .u8 0):=List.map_replicate
def afT :List UInt8:=[115,104,117,110,116,45,108,101,100,103,101,114,45,49,33,10]
def oF (ps:List Nat):Nat->List UInt8
 |0=>dR (dR bX 0 afT) 20 (leB ps.length 2)
 |k+1=>dR (oF ps k) (22+2*k) (leB (ps.getD k 0) 2)
def fT (ps:List Nat):List UInt8:=dR (oF ps ps.length) 16 (leB (NM ((oF ps ps.length).drop 20)).toNat 4)
theorem EH (ps:List Nat):∀k,k<=240->(oF ps k).length=512
 |0,_=>by(have h1:(dR bX 0 afT).length=512:=by rw[fP,fV];rw[fV];decide);unfold oF;rw[fP,h1];rw[h1];simp[leB]
 |k+1,h=>by have:=EH ps k aD;rw[oF,fP,this];rw[this];simp[leB];omega
theorem oQ {ps:List Nat} (h:ps.length<=240):(fT ps).length=512:=by unfold fT;have:=EH ps ps.length h;rw[fP,this];rw[this];simp[leB]
theorem TV :(Tryz.prog.info? 3).map (fun i=>(i.zero,i.size,i.bytes))=some (some (iV 0),1,8):=by kernel_rfl
theorem RP {w:World} {v:Value} {ps:List Nat} (hp:O8 w v (ps.map fun(p:Nat)=>(p:Int))) (hlen:ps.length<=240) (hsm:∀p∈ps,p<65536):
  Calls Tryz.prog 162 #[v] w fun e w'=>∃u,e= .returned u/\Sep w w' [aI u (fT ps)]:=by
 obtain⟨k0,pR,hk0,hk1,hk2⟩:=iR mE;obtain⟨A,cp,rfl,_⟩:=hp.shape;obtain⟨n,hn⟩:∃n,ps.length=n:=⟨_,rfl⟩;have hpl:(ps.map fun(p:Nat)=>(p:Int)).length=n:=by rw[iJ,hn]
 rw[hpl]at hp ⊢;have hp':=Lh hp;have b1:(n:Int)<=240:=by omega
 have hS0:=(Sep.nil w).made 5 (.int .u8 0) 512 vX;have hmk:(Instr.makeSlice 69 (.int .i64 512) (.int .i64 512)).run Tryz.prog w= .ok (sV w.heap.size 512 512) (w.alloc (.cells (madeCells #[.int .u8 0] 512) 5)):=qX (P:=Tryz.prog) 69 5 k0 (.int .u8 0) 1 Tryz.underlying69 pR hk0 hk1 hk2 rfl .i64 .i64 512 aD vX w;obtain⟨w1,hcp,hS1,_⟩:=hS0.BB (P:=Tryz.prog) 0 rfl 69 9 3 Tryz.underlying69 xO 0 512 512 ⟨#[115,104,117,110,116,45,108,101,100,103,101,114,45,49,33,10]⟩ aR aR;have hb1:(dR bX 0 afT).length=512:=by rw[fP,fV];rw[fV];decide
 have hS2:Sep w w1 [aI (sV w.heap.size 512 512) (dR bX 0 afT)]:=by rw[bV hb1];(have e:oM (List.replicate 512 (Value.int .u8 0)) 0 ((acB ⟨#[115,104,117,110,116,45,108,101,100,103,101,114,45,49,33,10]⟩).map kY)=(dR bX 0 afT).map kY:=by rw[<-DN,<-BC];rfl);rw[<-e];exact hS1
 have az3:=abC (at':=20) (n:=n) (k:=2) hS2 (by rw[hb1];decide) aR (by rw[hb1];decide) aD;clear hS0 hS1 hS2 hp hlen;go_enter Tryz.func162,Tryz.ntmps162;go_wp2_with(go_at_call 188;refine az3.mono ?_;rintro e w2 ⟨rfl,dQ⟩);have vI:Hid (Sep w w2 [aI (sV w.heap.size 512 512) (oF ps 0)]):=by have:=dQ;rw[<-hn]at this;exact this
 clear dQ az3 hcp hmk;obtain⟨G,hG⟩:∃G,w.heap.size=G:=⟨_,rfl⟩;rw[hG]at vI ⊢;go_loopw[15] (fun i wr=>∃k:Nat,k<=n/\i=iV k/\Hid (Sep w wr [aI (sV G 512 512) (oF ps k)])) (fun i _=>n-(intOf i).toNat)
 case atStart=>exact⟨0,fZ _,rfl,vI⟩
 obtain⟨k,hk,rfl,hS⟩:=hrel;by_cases hlt:k<n
 ·(have hx:∃ad,A=some ad/\wr.cell? (ad.add k)=some (iV (ps.getD k 0:Nat)):=by obtain⟨ad,c,u,e,h1,h2⟩:=Rd.at_ (Rd.below hp'.out hS.out.below) (k:=k) (by rw[hpl];omega);rw[hpl]at e;cases e;rw[lC,lC,gE aD]at h1;cases h1;refine⟨_,rfl,?_⟩;rw[h2,gH,gE aD];rfl);obtain⟨ad,rfl,hc⟩:=hx;have hl:=EH ps k aD;have hput:=abC (at':=22+2*k) (n:=ps.getD k 0) (k:=2) hS.out (by rw[hl];omega) aR (by rw[hl];decide) (by(have:ps.getD k 0<65536:=by rw[gH,gE aD];exact hsm _ (nW _));omega);simp only[VV,Int.natCast_mul,Int.cast_ofNat_Int]at hput;(have q1:(k:Int)<n:=by omega);(have q2:(0:Int)<=k:=by omega);clear vI hl hp';obtain⟨x,hx⟩:∃x,ps.getD k 0=x:=⟨_,rfl⟩;rw[hx]at hc hput;go_wp2_with(go_at_call 188;refine hput.mono ?_;rintro e w3 ⟨rfl,jT⟩);refine⟨⟨k+1,by omega,rfl,Lh ?_⟩,by simp[intOf];omega⟩;rw[oF,hx];exact jT
 obtain rfl:k=n:=by omega
 have hl:=EH ps ps.length aD;have hSk:Sep w wr [aI (sV G 512 512) (oF ps ps.length)]:=by rw[hn];exact hS.out
 have hsub:BytesAt wr (.slice (some ⟨G,20,none⟩) 492 492) ((oF ps ps.length).drop 20):=by have h1:=hSk;rw[bV hl]at h1;have h2:=aBQ 0 h1 rfl 20 492 492 aR (iC _) vX;unfold BytesAt;(have e1:((oF ps ps.length).drop 20).length=492:=by rw[rZ,hl]);rw[e1];(have e2:(((oF ps ps.length).map kY).drop 20).take 492=((oF ps ps.length).drop 20).map kY:=by rw[<-List.map_drop];exact pM (by rw[iJ,e1];exact iC _));rw[<-e2];exact h2
 have aGO:=axX hsub (by rw[rZ,hl];decide);have hci:=axW ((oF ps ps.length).drop 20);have hput:∀W,Sep w W [aI (sV G 512 512) (oF ps ps.length)]->Calls Tryz.prog 188 #[sV G 512 512,iV 16,iV (NM ((oF ps ps.length).drop 20)),iV 4] W fun e w'=>e= .returned (.tuple #[])/\Sep w w' [aI (sV G 512 512) (fT ps)]:=fun W hW=>by(have e:NM ((oF ps ps.length).drop 20)=(((NM ((oF ps ps.length).drop 20)).toNat:Nat):Int):=by omega);rw[e];exact abC (at':=16) (n:=(NM ((oF ps ps.length).drop 20)).toNat) (k:=4) hW (by rw[hl];decide) aR (by rw[hl];decide) aD
 have axY:=Lh hSk;clear hSk hS vI hsub hl hci;obtain⟨C,hC⟩:∃C,NM ((oF ps ps.length).drop 20)=C:=⟨_,rfl⟩;rw[hC]at aGO hput;go_wp2_with(first |(go_at_call 185;refine aGO.mono ?_;rintro e w3 ⟨rfl,hB3⟩)|(go_at_call 188;refine(hput _ (axY.out.pure hB3)).mono ?_;rintro e w4 ⟨rfl,jT⟩));go_ret;exact⟨_,rfl,jT⟩
theorem dN :Maps.Keyed Tryz.prog 3:=Maps.int_keyed Tryz.underlying3
theorem TL (w:World):(zeroValue 3).run Tryz.prog w= .ok (.int .i64 0) w:=by kernel_rfl
def aBR (w:World) (b n:Nat) (f:Int->Int):Prop:=
 ∃D:DataW Unit,w.ownsMap Tryz.prog 3 (plainElem Tryz.prog 3) b n D/\Maps.IsMap D/\∀k:Int,(Lit.int .i64 k).wf=true->D.atKey (.int .i64 k) (.lit (.int .i64 0))= .lit (.int .i64 (f k))
def YL (b n:Nat) (f:Int->Int):aW:=
 ⟨fun w F=>aBR w b n f/\F=[b],
  fun w w' F ⟨⟨D,⟨es,clock,hb,hr⟩,h2,h3⟩,hF⟩ hk=>⟨⟨D,⟨es,clock,by rw[hk b (by rw[hF];simp)];exact hb,hr⟩,h2,h3⟩,hF⟩,
  fun w F ⟨⟨D,h1,_⟩,hF⟩=>by rw[hF];exact⟨by simp,fun b' hb=>by simp at hb;subst hb;exact h1.lt⟩⟩
section
variable {w0 w w':World} {As:List aW} {b n:Nat} {f:Int->Int}
theorem Sep.auJ (h:Sep w0 w As):Sep w0 (w.alloc (.map #[] 0)) (YL w.heap.size 0 (fun _=>0)::As):=
 h.new ((Below.refl _ _).alloc (iC _) _) (F:=[w.heap.size]) ⟨⟨.map [],World.ownsMap_made w _ _ _,⟨[],rfl⟩,fun k _=>rfl⟩,rfl⟩ bK
theorem Sep.aoP (i:Nat) (h:Sep w0 w As) (hi:As[i]? =some (YL b n f)) (k:Int) (hk:(Lit.int .i64 k).wf=true):
  (Instr.lookup 100 (.map (some b)) (.int .i64 k) false).run Tryz.prog w= .ok (.int .i64 (f k)) w:=by
 obtain⟨F,⟨⟨D,h1,h2,h3⟩,_⟩,_⟩:=h.get i hi;obtain⟨c,hrun,hat,_⟩:=h1.lookup_int dN Tryz.underlying100 Tryz.underlying3 (TL w) (Maps.keyOf_int_mk Tryz.underlying3 hk);have hc:f k=c:=by have e:=(h3 k hk).symm.trans hat;injection e with e;injection e
 rw[hrun,hc]
theorem Sep.auK (i:Nat) (h:Sep w0 w As) (hi:As[i]? =some (YL b n f)) (hn:n<maxLen) (k v:Int) (hk:(Lit.int .i64 k).wf=true) (hv:(Lit.int .i64 v).wf=true):
  ∃w',(Instr.mapUpdate 100 (.map (some b)) (.int .i64 k) (.int .i64 v)).run Tryz.prog w= .ok () w'/\Sep w0 w' (As.set i (YL b (n+1) (fun x=>if x=k then v else f x))):=by
 obtain⟨F,⟨⟨D,h1,h2,h3⟩,hF⟩,_⟩:=h.get i hi;obtain⟨w',hrun,hown,hgrow⟩:=h1.update dN Tryz.underlying100 hn (Maps.keyOf_int_mk Tryz.underlying3 hk) (plainElem_int Tryz.underlying3 hv);refine⟨w',hrun,h.step i hi fun F' ⟨_,hF'⟩ _=>⟨[b],⟨⟨_,hown,h2.put _ _,fun x hx=>?_⟩,rfl⟩,fun x hx=>by rw[hF'];exact .inl hx,by rw[hF'];exact mP.uP hgrow⟩⟩;by_cases e:x=k
 ·subst e;(show _=DataW.lit (Lit.int IntKind.i64 (if x=x then v else f x)));rw[if_pos rfl];exact Maps.atKey_put_same h2 (by simp[WideAt.IsKeyLit]) _ _
 show _=DataW.lit (Lit.int IntKind.i64 (if x=k then v else f x))
 rw[if_neg e];rw[Maps.atKey_put_other (by intro e';injection e' with _ e';exact e e')];exact h3 x hx
end
theorem wE {w0 w:World} {R:List aW} {q p nb i:Nat} {D:DK} (hD:D.ok nb) (NU:96<nb) (hi:96+i<nb) (hoff:D.off=false) (h:Sep w0 w (aG q p false::aO p D::R)):
  Calls Tryz.prog 187 #[pV q,iV i] w fun e w'=>
   ∃v,e= .returned (.tuple #[v,iV 0])/\Sep w0 w' (aI v (bk D.now (96+i))::aG q p false::aO p D::R):=by
 have h1:Sep w0 (w.alloc (.cells #[iV 0] 40)) (aG q p false::aO p D::aJ w.heap.size 0::R):=Sep.dB [1,2,0] (h.bN 40 #[iV 0]) aR bK
 have haw:=GJ h1
 simp only[J4,if_false]at haw
 have hbl:=CZ hD aD h1
 have hrd:=RO hD hi hoff h1
 have q1:(i:Int)<((nb-96:Nat):Int):=by omega
 have q0:(0:Int)<=i:=by omega
 have l7:=hD.few
 have q2:(i:Int)<=4096:=by omega
 have e:((96+i:Nat):Int)=96+(i:Int):=by omega
 rw[e]at hrd
 obtain⟨N,hN⟩:∃N,N=nb-96:=⟨_,rfl⟩
 rw[<-hN]at hbl q1
 clear hN l7 e
 go_enter_defers Tryz.func187,Tryz.ntmps187
 go_wp2_with(first |(go_at_call 168;refine haw.mono ?_;rintro e w9 ⟨rfl,h9⟩;obtain rfl:=h9.symm)|(go_at_call 154;refine hbl.mono ?_;rintro e w9 ⟨rfl,h9⟩;obtain rfl:=h9.symm)|(go_at_call 153;refine hrd.mono ?_;rintro e w9 ⟨v,rfl,h9⟩;have k1:=h9.bC 3 rfl 0;have k2:=h9.bF 3 rfl 0;simp only[gA,gB]at k1))
 refine oJ ?_
 have h10:Sep w0 _ (aI v (bk D.now (96+i))::aG q p false::aO p D::aJ w.heap.size 0::R):=h9.bS 3 rfl 0 (.int .i64 0)
 have ec:=h10.bC 3 rfl 0
 simp only[gA,gB]at ec
 refine⟨.tuple #[v,iV 0],by simp[results,Tryz.results187,go_sem,ec],v,rfl,?_⟩
 exact Sep.drop 1 (Sep.dB [3,0,1,2] h10 aR bK)
structure aqH (nb:Nat) (ps:List (Nat×List UInt8)):Prop where
 some:1<=ps.length
 few:ps.length<=40
 put:∀x∈ps,96+x.1<nb/\x.2.length=512
 ne:(ps.map (·.1)).Nodup
def kL (ps:List (Nat×List UInt8)):List tO:=ps.zipIdx.map fun x=>some (1+x.2,x.1.2)
def gQ (ps:List (Nat×List UInt8)):List tO:=ps.map fun x=>some (96+x.1,x.2)
def bY (ps:List (Nat×List UInt8)):List tO:=kL ps++(none::some (0,fT (ps.map (·.1)))::none::(gQ ps++[none,some (0,fT []),none]))
structure aqG (w0:World) (R:List aW) (g n:Nat) (ps:List (Nat×List UInt8)) (us:List Value):Prop where
 len:ps.length=n
 axZ:us.length=n
 cell:∀w' X,Sep w0 w' (X++R)->∀k (h:k<n),w'.cell? ⟨g,k*2,none⟩=some (iV ((ps[k]'aD).1:Nat))/\w'.cell? ⟨g,k*2+1,none⟩=some (us[k]'aD)
 data:∀k (h:k<n),jI w0 R (us[k]'aD) (ps[k]'aD).2
 form:∀u∈us,∃A c,u= .slice A 512 c
theorem JW {ps:List (Nat×List UInt8)} {k:Nat} (hk:k<ps.length):(kL ps).take (k+1)=(kL ps).take k++[some (1+k,ps[k].2)]:=by unfold kL;rw[pI,lC,List.getElem?_zipIdx,gE hk];simp
theorem JX {ps:List (Nat×List UInt8)} {k:Nat} (hk:k<ps.length):(gQ ps).take (k+1)=(gQ ps).take k++[some (96+ps[k].1,ps[k].2)]:=by unfold gQ;rw[pI,lC,gE hk];rfl
theorem YM {xs:List tO} {a:tO} {D E:DK} (h:kT xs D=(E,true)) (ho:E.off=false):kT (xs++[a]) D=(E.act a,true):=by
 rw[MR,h];show kT [a] E=_
 rw[kT,ho];rfl
theorem aoQ {xs ys:List tO} {a:tO} {D E:DK} (h:kT xs D=(E,true)) (ho:E.off=true):kT (xs++a::ys) D=(E,false):=by
 rw[MR,h];show kT (a::ys) E=_
 rw[kT,ho];rfl
end Go.Proofs.YtmjomdkleikgbaaGreat
