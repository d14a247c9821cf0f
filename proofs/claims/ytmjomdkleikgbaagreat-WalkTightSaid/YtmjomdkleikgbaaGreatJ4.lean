/- Parts. -/
import Derived.Test.YtmjomdkleikgbaaGreatJ3
import Derived.Defers
import Derived.Recover
import Derived.LoopTactic
import Derived.Laws.Closers25b
import Derived.Lib.EndianBits
import Derived.Maps.Own
import Derived.Maps.Views
set_option linter.unusedVariables false
set_option linter.unusedSimpArgs false
set_option maxRecDepth 100000
set_option maxHeartbeats 20000000
namespace Go.Proofs.YtmjomdkleikgbaaGreat
open Go.RowKit
def xV (x:Int):Value:=.iface 199 (.agg #[iV x])
def aH (q p:Nat) (dead:Bool):aZ:=.box q 197 #[.iface 36 (pV p),.bool dead]
theorem an2 (p:Nat) (w:World):(method 391 36 (pV p) "Read").run Tryz.prog w= .ok (255,pV p) w:=by kernel_rfl
theorem aiD (p:Nat) (w:World):(method 391 36 (pV p) "Write").run Tryz.prog w= .ok (256,pV p) w:=by kernel_rfl
theorem aiE (p:Nat) (w:World):(method 391 36 (pV p) "Flush").run Tryz.prog w= .ok (254,pV p) w:=by kernel_rfl
theorem ae2 (p:Nat) (w:World):(method 391 36 (pV p) "Blocks").run Tryz.prog w= .ok (94,pV p) w:=by kernel_rfl
theorem CJ (x:Int) (w:World):Calls Tryz.prog 186 #[iV x] w fun e w'=>e=(if x=0 then .returned (.tuple #[])else .panicked [{v:=xV x,recovered:=false}])/\w'=w:=by
 by_cases hx:x=0
 ·subst hx;go_enter Tryz.func186,Tryz.ntmps186;go_wp2_with fail
  go_end0
  exact⟨rfl,rfl⟩
 rw[if_neg hx];go_enter Tryz.func186,Tryz.ntmps186;go_wp2_with fail;exact⟨rfl,rfl,rfl⟩
theorem XR {w0 w:World} {R:List aZ} {q p nb i:Nat} {D:DK} {dead:Bool} (hD:D.ok nb) (hi:i<nb) (h:Sep w0 w (aH q p dead::aO p D::R)):
  Calls Tryz.prog 153 #[pV q,iV i] w fun e w'=>
   (D.off=true/\e= .panicked [{v:=xV 11,recovered:=false}]/\Sep w0 w' (aH q p dead::aO p D::R))\/
   (D.off=false/\∃v,e= .returned v/\Sep w0 w' (aI v (bk D.now i)::aH q p dead::aO p D::R)):=by
 have c0:=h.bC 0 rfl 0
 simp only[gA,gB,gC]at c0
 have hrd:=al2 hD hi (Sep.dE [1,0] h aV bL)
 have hm:=an2 p
 go_enter Tryz.func153,Tryz.ntmps153
 go_wp2_with(first |(go_at_call 255;refine hrd.mono ?_;rintro e w9 (⟨ho,rfl,h9⟩|⟨ho,v,rfl,h9⟩))|(go_at_call 186;refine(CJ _ _).mono ?_;rintro e w8 ⟨rfl,h8⟩;obtain rfl:=h8.symm))
 ·exact⟨rfl,.inl ⟨ho,rfl,Sep.dE [1,0] h9 aV bL⟩⟩
 ·go_ret;exact .inr ⟨ho,_,rfl,Sep.dE [0,2,1] h9 aV bL⟩
theorem SI {w0 w:World} {R:List aZ} {q p nb i:Nat} {D:DK} {dead:Bool} {v:Value} {bs:List UInt8} (hD:D.ok nb) (hi:i<nb) (hbs:bs.length=512) (l5:D.back.length<65536) (hv:jG w0 R v bs) (h:Sep w0 w (aH q p dead::aO p D::R)):
  Calls Tryz.prog 161 #[pV q,iV i,v] w fun e w'=>
   (D.off=true/\e= .panicked [{v:=xV 11,recovered:=false}]/\Sep w0 w' (aH q p dead::aO p D::R))\/
   (D.off=false/\e= .returned (.tuple #[])/\Sep w0 w' (aH q p dead::aO p (D.wr i bs)::R)):=by
 have c0:=h.bC 0 rfl 0
 simp only[gA,gB,gC]at c0
 have hwr:=ahD hD hi hbs l5 hv.cons (Sep.dE [1,0] h aV bL)
 have hm:=aiD p
 clear l5 hbs
 cases hoff:D.off with
 |true=>simp only[hoff,if_true]at hwr;go_enter Tryz.func161,Tryz.ntmps161;go_wp2_with(first |(go_at_call 256;refine hwr.mono ?_;rintro e w9 ⟨rfl,h9⟩)|(go_at_call 186;refine(CJ _ _).mono ?_;rintro e w8 ⟨rfl,h8⟩;obtain rfl:=h8.symm));exact⟨rfl,.inl ⟨trivial,rfl,Sep.dE [1,0] h9 aV bL⟩⟩
 |false=>
  simp only[hoff,JO,if_false]at hwr;go_enter Tryz.func161,Tryz.ntmps161;go_wp2_with(first |(go_at_call 256;refine hwr.mono ?_;rintro e w9 ⟨rfl,h9⟩)|(go_at_call 186;refine(CJ _ _).mono ?_;rintro e w8 ⟨rfl,h8⟩;obtain rfl:=h8.symm))
  go_end0
  exact .inr ⟨trivial,rfl,Sep.dE [1,0] h9 aV bL⟩
theorem SL {w0 w:World} {R:List aZ} {q p nb:Nat} {D:DK} {dead:Bool} (hD:D.ok nb) (h:Sep w0 w (aH q p dead::aO p D::R)):
  Calls Tryz.prog 155 #[pV q] w fun e w'=>
   (D.off=true/\e= .panicked [{v:=xV 11,recovered:=false}]/\Sep w0 w' (aH q p dead::aO p D::R))\/
   (D.off=false/\e= .returned (.tuple #[])/\Sep w0 w' (aH q p dead::aO p D.fl::R)):=by
 have c0:=h.bC 0 rfl 0
 simp only[gA,gB,gC]at c0
 have hfl:=ahF hD (Sep.dE [1,0] h aV bL)
 have hm:=aiE p
 cases hoff:D.off with
 |true=>simp only[hoff,if_true]at hfl;go_enter Tryz.func155,Tryz.ntmps155;go_wp2_with(first |(go_at_call 254;refine hfl.mono ?_;rintro e w9 ⟨rfl,h9⟩)|(go_at_call 186;refine(CJ _ _).mono ?_;rintro e w8 ⟨rfl,h8⟩;obtain rfl:=h8.symm));exact⟨rfl,.inl ⟨trivial,rfl,Sep.dE [1,0] h9 aV bL⟩⟩
 |false=>
  simp only[hoff,JO,if_false]at hfl;go_enter Tryz.func155,Tryz.ntmps155;go_wp2_with(first |(go_at_call 254;refine hfl.mono ?_;rintro e w9 ⟨rfl,h9⟩)|(go_at_call 186;refine(CJ _ _).mono ?_;rintro e w8 ⟨rfl,h8⟩;obtain rfl:=h8.symm))
  go_end0
  exact .inr ⟨trivial,rfl,Sep.dE [1,0] h9 aV bL⟩
theorem F5 {w0 w:World} {R:List aZ} {q p:Nat} {dead:Bool} (h:Sep w0 w (aH q p dead::R)):
  Calls Tryz.prog 168 #[pV q] w fun e w'=>e=(if dead=true then .panicked [{v:=xV 11,recovered:=false}]else .returned (.tuple #[]))/\w'=w:=by
 have c1:=h.bC 0 rfl 1;simp only[gA,gB,gC]at c1;cases dead with
 |true=>go_enter Tryz.func168,Tryz.ntmps168;go_wp2_with fail;exact⟨rfl,rfl,rfl⟩
 |false=>
  go_enter Tryz.func168,Tryz.ntmps168;go_wp2_with fail
  go_end0
  exact⟨rfl,rfl⟩
theorem Sep.ac7 {w0 w:World} {As:List aZ} {p nb:Nat} {D:DK} (i:Nat) (hD:D.ok nb) (h:Sep w0 w As) (hi:As[i]? =some (aO p D)):∃A c,w.cell? ⟨p,0,none⟩=some (.slice A (512*nb) c):=by
 have hp:Sep w0 w (aO p D::(As.take i++As.drop (i+1))):=by have e:=(rV hi).1;rw[e]at h;exact h.perm lZ
 obtain⟨vn,vf,vb,h1⟩:=hp.xG;obtain⟨g,n,c,rfl,hnl,_,_⟩:=h1.yI 1 rfl (by rw[lI hD.now.size,hD.now.len];have:=hD.some;omega);have:=(h1.wE 0 rfl).c0;rw[hnl.out,lI hD.now.size,hD.now.len]at this;exact⟨_,_,this⟩
theorem CK {w0 w:World} {R:List aZ} {q p nb:Nat} {D:DK} {dead:Bool} (hD:D.ok nb) (YO:96<=nb) (h:Sep w0 w (aH q p dead::aO p D::R)):
  Calls Tryz.prog 154 #[pV q] w fun e w'=>e= .returned (iV ((nb-96:Nat):Int))/\w'=w:=by
 have c0:=h.bC 0 rfl 0;simp only[gA,gB,gC]at c0;obtain⟨A,c,hn⟩:=h.ac7 1 hD rfl;have hbl:=QD hn rfl hD.few;have hm:=ae2 p;have l5:=hD.few;have e:((nb-96:Nat):Int)=(nb:Int)-96:=by omega
 have b1:(nb:Int)<=4096:=by omega
 have b2:(96:Int)<=nb:=by omega
 have hw:IntKind.i64.wrap ((nb:Int)-96)=(nb:Int)-96:=IntWalk.i64_in _ aD;rw[e];go_enter Tryz.func154,Tryz.ntmps154;go_wp2_with(go_at_call 94;refine hbl.mono ?_;rintro e w9 ⟨rfl,h9⟩;obtain rfl:=h9.symm);go_ret;exact⟨rfl,rfl⟩
section
variable {w0 w:World} {R:List aZ} {q p nb i:Nat} {D:DK} {dead:Bool}
theorem QY (hD:D.ok nb) (hi:i<nb) (ho:D.off=false) (h:Sep w0 w (aH q p dead::aO p D::R)):
  Calls Tryz.prog 153 #[pV q,iV i] w fun e w'=>∃v,e= .returned v/\Sep w0 w' (aI v (bk D.now i)::aH q p dead::aO p D::R):=
 (XR hD hi h).mono fun e w' h=>by
  rcases h with⟨h,_⟩|⟨_,h⟩
  ·rw[ho]at h;cases h
  exact h
theorem an3 (hD:D.ok nb) (hi:i<nb) (ho:D.off=true) (h:Sep w0 w (aH q p dead::aO p D::R)):
  Calls Tryz.prog 153 #[pV q,iV i] w fun e w'=>e= .panicked [{v:=xV 11,recovered:=false}]/\Sep w0 w' (aH q p dead::aO p D::R):=
 (XR hD hi h).mono fun e w' h=>by
  rcases h with⟨_,h⟩|⟨h,_⟩
  ·exact h
  rw[ho]at h;cases h
theorem uD {v:Value} {bs:List UInt8} (hD:D.ok nb) (hi:i<nb) (hbs:bs.length=512) (l5:D.back.length<65536) (hv:jG w0 R v bs) (ho:D.off=false) (h:Sep w0 w (aH q p dead::aO p D::R)):
  Calls Tryz.prog 161 #[pV q,iV i,v] w fun e w'=>e= .returned (.tuple #[])/\Sep w0 w' (aH q p dead::aO p (D.wr i bs)::R):=
 (SI hD hi hbs l5 hv h).mono fun e w' h=>by
  rcases h with⟨h,_⟩|⟨_,h⟩
  ·rw[ho]at h;cases h
  exact h
theorem yR {v:Value} {bs:List UInt8} (hD:D.ok nb) (hi:i<nb) (hbs:bs.length=512) (l5:D.back.length<65536) (hv:jG w0 R v bs) (ho:D.off=true) (h:Sep w0 w (aH q p dead::aO p D::R)):
  Calls Tryz.prog 161 #[pV q,iV i,v] w fun e w'=>e= .panicked [{v:=xV 11,recovered:=false}]/\Sep w0 w' (aH q p dead::aO p D::R):=
 (SI hD hi hbs l5 hv h).mono fun e w' h=>by
  rcases h with⟨_,h⟩|⟨h,_⟩
  ·exact h
  rw[ho]at h;cases h
theorem rE (hD:D.ok nb) (ho:D.off=false) (h:Sep w0 w (aH q p dead::aO p D::R)):
  Calls Tryz.prog 155 #[pV q] w fun e w'=>e= .returned (.tuple #[])/\Sep w0 w' (aH q p dead::aO p D.fl::R):=
 (SL hD h).mono fun e w' h=>by
  rcases h with⟨h,_⟩|⟨_,h⟩
  ·rw[ho]at h;cases h
  exact h
theorem yS (hD:D.ok nb) (ho:D.off=true) (h:Sep w0 w (aH q p dead::aO p D::R)):
  Calls Tryz.prog 155 #[pV q] w fun e w'=>e= .panicked [{v:=xV 11,recovered:=false}]/\Sep w0 w' (aH q p dead::aO p D::R):=
 (SL hD h).mono fun e w' h=>by
  rcases h with⟨_,h⟩|⟨h,_⟩
  ·exact h
  rw[ho]at h;cases h
end
def aJ (b:Nat) (x:Int):aZ:=.box b 40 #[iV x]
theorem aaL (x:Int) (w:World):(Instr.typeAssert (.iface 199 (.agg #[iV x])) 20 199 true).run Tryz.prog w= .ok (.tuple #[.agg #[iV x],.bool true]) w:=by kernel_rfl
theorem K3 {w0 w:World} {R:List aZ} {q p be:Nat} {dead:Bool} {x y:Int} {older:List PanicEntry} (h:Sep w0 w (aH q p dead::aJ be y::R)):
  CallsD Tryz.prog 151 #[pV q,pV be] (.panicking ({v:=xV x,recovered:=false}::older)) w fun e u' w'=>
   e= .returned (.tuple #[])/\u'= .panicking ({v:=xV x,recovered:=true}::older)/\Sep w0 w' (aH q p (decide (x=11)||dead)::aJ be x::R):=by
 refine callsD_of_wpS Tryz.func151 rfl fun c₀ cs hu=>?_
 apply wpS_seq
 apply wpS_region
 simp[wpOpsS,go_sem,recoverD,hu,Tryz.ntmps151,Exit.thenS]
 refine wpS_of_wp ?_
 unfold xV
 simp only[kE,kR,rT,Nat.reduceAdd,Nat.reduceSub,zL,zM,zO,zN,nG,kW,gD,NW,JN]
 have hta:=aaL x w
 have hA:=h.alloc (.cells #[iV x] 199)
 have c1:=hA.bC 0 rfl 1
 have f1:=hA.bF 0 rfl 1
 have e0:=hA.bC 1 rfl 0
 have ef:=hA.bF 1 rfl 0
 have hB:=hA.bS 0 rfl 1 (.bool true)
 have b0:=hB.bC 1 rfl 0
 have bf:=hB.bF 1 rfl 0
 have hB2:=hB.bS 1 rfl 0 (.int .i64 x)
 have hA2:=hA.bS 1 rfl 0 (.int .i64 x)
 simp only[gA,gB,gC]at c1 e0 b0
 by_cases hx:x=11
 ·subst hx;go_wp2_with fail;refine⟨rfl,_,rfl,.tuple #[],?_,rfl,rfl,hB2⟩;simp[results,Tryz.results151]
 ·have hx2:(x==11)=false:=jM.2 hx;rw[decide_eq_false hx,zZ];go_wp2_with fail;refine⟨rfl,_,rfl,.tuple #[],?_,rfl,rfl,hA2⟩;simp[results,Tryz.results151]
theorem K4 (a b:Value) (w:World):
  CallsD Tryz.prog 151 #[a,b] .returning w fun e u' w'=>e= .returned (.tuple #[])/\u'= .returning/\w'=w:=by
 refine callsD_of_wpS Tryz.func151 rfl fun c₀ cs hu=>?_
 apply wpS_seq;apply wpS_region;simp[wpOpsS,go_sem,recoverD,hu,Tryz.ntmps151,Exit.thenS];refine wpS_of_wp ?_;simp only[kE,kR,rT,Nat.reduceAdd,Nat.reduceSub,zL,zM,zO,zN,nG,kW,gD,NW,JN];go_wp2_with fail;refine⟨rfl,.returning,?_,.tuple #[],?_,rfl,rfl,rfl⟩
 ·cases c₀;simp at hu;subst hu;rfl
 simp[results,Tryz.results151]
theorem CL {w0 w:World} {R:List aZ} {q p be:Nat} {dead:Bool} {x y:Int} {fn:Func} {tmps:Array Value} {Post:Ending->World->Prop} {ds:List Deferred} (h:Sep w0 w (aH q p dead::aJ be y::R))
  (hK:∀w',Sep w0 w' (aH q p (decide (x=11)||dead)::aJ be x::R)->Leaves Tryz.prog fn tmps Post ds .returning w'):
  Leaves Tryz.prog fn tmps Post ({target:=.fn (.func 151) #[],args:=#[pV q,pV be]}::ds) (.panicking [{v:=xV x,recovered:=false}]) w:=by
 refine leaves_cons (f:=151) (args:=#[pV q,pV be]) bL (by simp[go_sem]) ?_;refine(K3 h).mono ?_;rintro e u' w' ⟨rfl,rfl,hS⟩;exact hK w' hS
theorem oI {w:World} {a b:Value} {fn:Func} {tmps:Array Value} {Post:Ending->World->Prop} {ds:List Deferred} (hK:Leaves Tryz.prog fn tmps Post ds .returning w):
  Leaves Tryz.prog fn tmps Post ({target:=.fn (.func 151) #[],args:=#[a,b]}::ds) .returning w:=by
 refine leaves_cons (f:=151) (args:=#[a,b]) bL (by simp[go_sem]) ?_;refine(K4 a b w).mono ?_;rintro e u' w' ⟨rfl,rfl,rfl⟩;exact hK
theorem C8 {w0 w:World} {R:List aZ} {q p nb:Nat} {D:DK} {dead:Bool} (hD:D.ok nb) (h:Sep w0 w (aH q p dead::aO p D::R)):
  Calls Tryz.prog 102 #[pV q] w fun e w'=>
   e= .returned (iV (if(dead||D.off)=true then 11 else 0))/\Sep w0 w' (aH q p (dead||D.off)::aO p D::R):=by
 have h1:Sep w0 (w.alloc (.cells #[iV 0] 40)) (aH q p dead::aO p D::aJ w.heap.size 0::R):=Sep.dE [1,2,0] (h.bN 40 #[iV 0]) aV bL
 have haw:=F5 h1
 have h0:0<nb:=by have:=hD.some;omega
 have hend:∀(s3 s4 s5 s6 s7:Value) W d x,Sep w0 W (aH q p d::aJ w.heap.size x::aO p D::R)->∃v,(results Tryz.f102 #[pV q,undef,pV w.heap.size,s3,s4,s5,s6,s7]).run Tryz.prog W= .ok v W/\v=iV x/\Sep w0 W (aH q p d::aO p D::R):=fun s3 s4 s5 s6 s7 W d x hS=>by have ec:=hS.bC 1 rfl 0;simp only[gA,gB]at ec;exact⟨.int .i64 x,by simp[results,Tryz.results102,go_sem,ec],rfl,Sep.drop 1 (Sep.dE [1,0] hS aV bL)⟩
 cases dead with
 |true=>
  simp only[if_true]at haw
  go_enter_defers Tryz.func102,Tryz.ntmps102
  go_wp2_with(first |(go_at_call 168;refine haw.mono ?_;rintro e w9 ⟨rfl,h9⟩;obtain rfl:=h9.symm));(refine CL (y:=0) (R:=aO p D::R) (Sep.dE [0,2,1] h1 aV bL) fun w' hS=>?_);obtain⟨v,h2,rfl,h3⟩:=hend _ _ _ _ _ _ _ _ hS;exact⟨_,h2,rfl,h3⟩
 |false=>
  simp only[JO,if_false]at haw;cases hoff:D.off with
  |true=>
   have hrd:=an3 hD h0 hoff h1
   go_enter_defers Tryz.func102,Tryz.ntmps102
   go_wp2_with(first |(go_at_call 168;refine haw.mono ?_;rintro e w9 ⟨rfl,h9⟩;obtain rfl:=h9.symm)|(go_at_call 153;refine hrd.mono ?_;rintro e w9 ⟨rfl,h9⟩));(refine CL (y:=0) (R:=aO p D::R) (Sep.dE [0,2,1] h9 aV bL) fun w' hS=>?_);obtain⟨v,h2,rfl,h3⟩:=hend _ _ _ _ _ _ _ _ hS;exact⟨_,h2,rfl,h3⟩
  |false=>
   have hrd:=QY hD h0 hoff h1
   go_enter_defers Tryz.func102,Tryz.ntmps102
   go_wp2_with(first |(go_at_call 168;refine haw.mono ?_;rintro e w9 ⟨rfl,h9⟩;obtain rfl:=h9.symm)|(go_at_call 153;refine hrd.mono ?_;rintro e w9 ⟨v,rfl,h9⟩;have k1:=h9.bC 3 rfl 0;have k2:=h9.bF 3 rfl 0;simp only[gA,gB]at k1));refine oI ?_;have h10:Sep w0 _ (aI v (bk D.now 0)::aH q p false::aO p D::aJ w.heap.size 0::R):=h9.bS 3 rfl 0 (.int .i64 0);obtain⟨v,h2,rfl,h3⟩:=hend _ _ _ _ _ _ false 0 (Sep.dE [0,2,1] (Sep.drop 1 h10) aV bL);exact⟨_,h2,rfl,h3⟩
def atC :List Int:=[0,498536548,997073096,651767980,1994146192,1802195444,1303535960,1342533948,3988292384,4027552580,3604390888,3412177804,2607071920,2262029012,2685067896,3183342108]
def XT (c:Int):Int:=atC.getD (c%16).toNat 0
theorem atD {c:Int} (h0:0<=c) (h1:c<=4294967295) (w:World):Calls Tryz.prog 230 #[.int .u32 c] w fun e w'=>e= .returned (.int .u32 (XT c))/\Below w.heap.size w w':=by
 have hm:bits .and .u32 c 15=c%16:=bits_mask .u32 32 aV wraps_u32 4 aV c h0 aD;have q0:0<=c%16:=by omega
 have q1:c%16<16:=by omega
 obtain⟨k,hk⟩:∃k:Fin 16,c%16=(k.1:Int):=⟨⟨(c%16).toNat,by omega⟩,by simp;omega⟩;have hv:XT c=atC.getD k.1 0:=by unfold XT;rw[hk];simp
 rw[hv];rw[hk]at hm;clear q0 q1 hk hv;obtain⟨k,hk⟩:=k;simp only at hm ⊢;have q0:(0:Int)<=(k:Int):=by omega
 have q1:(k:Int)<16:=by omega
 go_enter Tryz.func230,Tryz.ntmps230;go_wp2_with fail;go_ret;refine⟨?_,(Below.refl _ w).alloc (iB _) _⟩;have:∀k:Fin 16,∀u:Value,[Value.int IntKind.u32 0,.int .u32 498536548,.int .u32 997073096,.int .u32 651767980,.int .u32 1994146192,.int .u32 1802195444,.int .u32 1303535960,.int .u32 1342533948,.int .u32 3988292384,.int .u32 4027552580,.int .u32 3604390888,.int .u32 3412177804,.int .u32 2607071920,.int .u32 2262029012,.int .u32 2685067896,.int .u32 3183342108].getD k.1 u= .int .u32 (atC.getD k.1 0):=by intro k u;obtain⟨k,hk⟩:=k;(have:k=0\/k=1\/k=2\/k=3\/k=4\/k=5\/k=6\/k=7\/k=8\/k=9\/k=10\/k=11\/k=12\/k=13\/k=14\/k=15:=by omega);rcases this with rfl|rfl|rfl|rfl|rfl|rfl|rfl|rfl|rfl|rfl|rfl|rfl|rfl|rfl|rfl|rfl<;>rfl
 rw[<-this ⟨k,hk⟩ undef];simp[gH,hk]
def aFR (x:Int) (y:UInt8):Int:=
 bits BinOp.xor IntKind.u32 (XT (bits BinOp.xor IntKind.u32 (XT (bits BinOp.xor IntKind.u32 x (y.toNat:Int))) (bits BinOp.xor IntKind.u32 x (y.toNat:Int)/16))) (bits BinOp.xor IntKind.u32 (XT (bits BinOp.xor IntKind.u32 x (y.toNat:Int))) (bits BinOp.xor IntKind.u32 x (y.toNat:Int)/16)/16)
def aFS :Int:=bits BinOp.xor IntKind.u32 IntKind.u32.max 0
def M6 (bs:List UInt8):Int:=bits BinOp.xor IntKind.u32 IntKind.u32.max (bs.foldl aFR aFS)
theorem aw3 (bs:List UInt8):0<=M6 bs/\M6 bs<=4294967295:=⟨bits_lo_u32 _ _ _,bits_hi_u32 _ _ _⟩
theorem atE {v:Value} {bs:List UInt8} {w:World} (hv:BytesAt w v bs) (hlen:bs.length<=1048576):Calls Tryz.prog 210 #[iV 0,v] w fun e w'=>e= .returned (iV (M6 bs))/\Below w.heap.size w w':=by
 obtain⟨A,cap,rfl,hm⟩:=hv.shape;obtain⟨n,hn⟩:∃n,bs.length=n:=⟨_,rfl⟩;rw[hn]at hlen hm;have b1:(n:Int)<=1048576:=by omega
 have hv':=Lh hv;rw[hn];clear hv hm;go_enter Tryz.func210,Tryz.ntmps210;go_wp2_with fail;go_loopw[5,13] (fun c i wr=>∃(k:Nat) (x:Int),k<=n/\i=iV k/\c= .int .u32 x/\Hid (x=(bs.take k).foldl aFR aFS)/\Below w.heap.size w wr) (fun c i _=>n-(intOf i).toNat)
 case atStart=>exact⟨0,_,gI _,rfl,rfl,rfl,Below.refl _ _⟩
 obtain⟨k,x,hk,rfl,rfl,hxk,hB⟩:=hrel;by_cases hlt:k<n
 ·(have hx:∃ad,A=some ad/\wr.cell? (ad.add k)=some (.int .u8 ((bs[k]'aD).toNat:Int)):=by obtain⟨ad,c,u,e,h1,h2⟩:=Rd.at_ (Rd.below hv'.out hB) (k:=k) aD;cases e;rw[kV,gE aD]at h1;cases h1;exact⟨_,rfl,h2⟩);obtain⟨ad,rfl,hc⟩:=hx;obtain⟨y,hy⟩:∃y:Nat,y=(bs[k]'aD).toNat:=⟨_,rfl⟩;rw[<-hy]at hc;(have hy2:y<256:=by rw[hy];exact UInt8.toNat_lt _);replace hy:=Lh hy;(have q1:(k:Int)<n:=by omega);(have q2:(y:Int)<256:=by omega);have q3:IntKind.u32.wrap (y:Int)=y:=wraps_u32 _ aD aD;clear hv';go_wp2_with(first |(go_at_call 230;refine(atD (bits_lo_u32 _ _ _) (bits_hi_u32 _ _ _) _).mono ?_;rintro e w9 ⟨rfl,hB9⟩;replace hB:=hB.trans (hB9.mono hB.size);clear hB9));refine⟨⟨k+1,_,by omega,rfl,rfl,?_,hB⟩,by simp[intOf];omega⟩;refine Lh ?_;rw[pE,gE aD,OC,<-hxk.out,hy.out];rfl
 obtain rfl:k=n:=by omega
 have hcv:IntKind.i64.wrap (bits BinOp.xor IntKind.u32 IntKind.u32.max x)=bits BinOp.xor IntKind.u32 IntKind.u32.max x:=IntWalk.i64_in _ (by have:=bits_lo_u32 BinOp.xor IntKind.u32.max x;have:=bits_hi_u32 BinOp.xor IntKind.u32.max x;omega);go_wp2_with fail;go_ret;refine⟨?_,hB⟩;have e:M6 bs=bits BinOp.xor IntKind.u32 IntKind.u32.max x:=by unfold M6;rw[hxk.out,qH aD]
 rw[e];rfl
theorem aw4 {v:Value} {bs:List UInt8} {w:World} (hv:BytesAt w v bs) (hlen:bs.length<=1048576):Calls Tryz.prog 185 #[v] w fun e w'=>e= .returned (iV (M6 bs))/\Below w.heap.size w w':=by have h:=atE hv hlen;clear hv hlen;go_enter Tryz.func185,Tryz.ntmps185;go_wp2_with(go_at_call 210;refine h.mono ?_;rintro e w9 ⟨rfl,hB9⟩);go_ret;exact⟨rfl,hB9⟩
def leB (n k:Nat):List UInt8:=(List.range k).map fun i=>UInt8.ofNat (n/2 ^ (8*i))
theorem DZ {b xs:List UInt8} {i:Nat} (h:i+xs.length<b.length) (y:UInt8):(dP b i xs).set (i+xs.length) y=dP b i (xs++[y]):=by
 apply GI;intro k;rw[List.getElem?_set,fM aD,uK aD,uK EN];by_cases e:i+xs.length=k
 ·subst e;rw[if_pos rfl,if_pos h,if_pos ⟨by omega,by simp⟩,JM];simp
 rw[if_neg e];by_cases e2:i<=k/\k<i+xs.length
 ·rw[if_pos e2,if_pos ⟨e2.1,by simp;omega⟩,D6 aD]
 rw[if_neg e2,if_neg EN]
theorem atF (n m:Nat):leB n (m+1)=leB n m++[UInt8.ofNat (n/2 ^ (8*m))]:=by unfold leB;rw[OD,mV];rfl
theorem OW (n:Nat):kT (UInt8.ofNat n)= .int .u8 ((n:Int)%256):=by unfold kT;rw[vZ];rfl
theorem aaM {w0 w:World} {R:List aZ} {v:Value} {bs:List UInt8} {at' n k:Nat} (h:Sep w0 w (aI v bs::R)) (hk:at'+k<=bs.length) (hk8:k<=7) (hlen:bs.length<=1048576) (hn:n<4611686018427387904):
  Calls Tryz.prog 188 #[v,iV at',iV n,iV k] w fun e w'=>e= .returned (.tuple #[])/\Sep w0 w' (aI v (dP bs at' (leB n k))::R):=by
 obtain⟨A,cap,hv⟩:=h.dS 0 rfl;subst hv;obtain⟨L,hL⟩:∃L,bs.length=L:=⟨_,rfl⟩;have h':=Lh h;rw[hL]at hk hlen;rw[hL];have b1:(L:Int)<=1048576:=by omega
 have b2:(at':Int)+k<=L:=by omega
 have b3:(k:Int)<=7:=by omega
 have b4:(n:Int)<4611686018427387904:=by omega
 clear h;go_enter Tryz.func188,Tryz.ntmps188;go_wp2_with fail;go_loopw[10] (fun i wr=>∃m:Nat,m<=k/\i=iV m/\Hid (Sep w0 wr (aI (.slice A L cap) (dP bs at' (leB n m))::R))) (fun i _=>k-(intOf i).toNat)
 case atStart=>exact⟨0,gI _,rfl,by rw[hL]at h';simpa[dP,leB]using h'⟩
 obtain⟨m,hm,rfl,hS⟩:=hrel;have hll:(leB n m).length=m:=by simp[leB]
 have hlb:(dP bs at' (leB n m)).length=L:=by rw[fM aD,hL]
 by_cases hlt:m<k
 ·obtain⟨g,c,e,_,_,_,_⟩:=hS.out.j5 0 rfl aD;rw[hlb]at e;cases e;(have hS2:Sep w0 wr (.sl 5 1 (sV g L cap) L ((dP bs at' (leB n m)).map kT)::R):=by have:=hS.out;rw[bW hlb]at this;exact this);have hc0:=hS2.cellAt 0 rfl (at'+m) aD;have hf:=hS2.frozenAt 0 rfl (at'+m);(have hc:∃z:Int,wr.cell? ⟨g,at'+m,none⟩=some (.int .u8 z):=by rw[kV,gE aD]at hc0;exact⟨_,hc0⟩);obtain⟨u0,hc⟩:=hc;clear hc0;(have hst:=fun u=>hS2.stored 0 rfl (at'+m) u);(have q1:(m:Int)<k:=by omega);(have q2:(0:Int)<=(m:Int):=by omega);(have q3:((at':Int)+m).toNat=at'+m:=by omega);replace hst:=Lh hst;clear hS hS2 hll hlb hn hlen b4;go_wp2_with fail;refine⟨⟨m+1,by omega,rfl,Lh ?_⟩,by simp[intOf];omega⟩;have h9:=hst.out (.int .u8 ((n:Int)/2 ^ (8*m)%256));(have hll:(leB n m).length=m:=by simp[leB]);(have hlb:(dP bs at' (leB n (m+1))).length=L:=by rw[fM (by simp[leB];omega),hL]);rw[bW hlb,atF,<-DZ (by rw[hll,hL];omega),hll,OL,OW];(have e:((n/2 ^ (8*m):Nat):Int)=(n:Int)/2 ^ (8*m):=by simp);rw[e];exact h9
 obtain rfl:m=k:=by omega
 go_wp2_with fail
 go_end0
 exact⟨rfl,hS.out⟩
theorem join_step {G z m:Nat} (hG:G<2 ^ (8*m)) (hz:z<256) (hm:m<=6):bits BinOp.or IntKind.i64 (G:Int) (wrap64 ((z:Int)*2 ^ (8*m)))=((G+z*2 ^ (8*m):Nat):Int):=by
 have hp:(2:Nat) ^ (8*m)<=2 ^ 48:=Nat.pow_le_pow_right aV aD;have hzp:z*2 ^ (8*m)<=255*2 ^ 48:=Nat.mul_le_mul aD hp;have e2:(z:Int)*2 ^ (8*m)=((z*2 ^ (8*m):Nat):Int):=by simp
 have hmod:z*2 ^ (8*m)%2 ^ (8*m)=0:=Nat.mul_mod_left _ _;rw[e2];generalize z*2 ^ (8*m)=q at hzp hmod;have c1:(255*2 ^ 48:Nat)=71776119061217280:=by decide
 have c2:(2:Nat) ^ 48=281474976710656:=by decide
 rw[c1]at hzp;rw[c2]at hp;have e3:wrap64 (q:Int)=(q:Int):=IntWalk.wrap64_in _ aD;have c3:(2:Int) ^ 63=9223372036854775808:=by decide
 rw[e3];refine bits_join_low .i64 63 aV (fun n h0 h1=>IntWalk.i64_in n ?_) (8*m) (G:Int) (q:Int) ?_ ?_ ?_ ?_ ?_ ?_
 ·rw[c3]at h1;omega
 ·omega
 ·exact_mod_cast hG
 ·rw[c3];omega
 ·omega
 ·exact_mod_cast hmod
 rw[c3];omega
def abL (s:ByteArray):List UInt8:=s.data.toList
theorem Sep.AJ {w0 w:World} {As:List aZ} {e:TypeId} {n:Nat} {cs:List Value} {P:Program} {g cap:Nat} (i:Nat) (h:Sep w0 w As) (hi:As[i]? =some (.sl e 1 (sV g n cap) n cs)) (dT sT ty:TypeId) (hu:P.underlying dT=some (.slice e)) (hs:(P.info? e).map (·.size)=some 1)
  (o dLen dCap:Nat) (s:ByteArray) (hd:s.size<=dLen) (hfit:o+s.size<=n):
  ∃w',(Builtin.copy_ #[dT,sT] ty #[.slice (some ⟨g,o,none⟩) dLen dCap,.string s]).run P w= .ok (goInt (s.size:Nat)) w'/\Sep w0 w' (As.set i (.sl e 1 (sV g n cap) n (oL cs o ((abL s).map kT))))/\w'.heap.size=w.heap.size:=by
 have hlen:((abL s).map kT).length=s.size:=by unfold abL;rw[iM];rfl
 obtain⟨cur,hg,hsz,hS⟩:=h.laid i hi o ((abL s).map kT) (by rw[hlen];exact hfit);have hst:=run_storeCells_at P g o e ((abL s).map kT) 0 cur w hg (by rw[tF];exact hsz) rM;rw[tF]at hst;refine⟨_,?_,hS,by simp[World.setRow]⟩;cases hq:P.info? e with
 |none=>rw[hq]at hs;simp at hs
 |some i=>(have hi:i.size=1:=by rw[hq]at hs;simpa using hs);have hmin:Nat.min s.size dLen=s.size:=xZ hd;simp[Builtin.copy_,run_underlying hu,Builtin.lenOf,Builtin.firstCells,sizeOf,typeInfo,hq,hi,hmin];(have e:List.take s.size (List.map (fun b:UInt8=>Value.int IntKind.u8 (b.toNat:Int)) s.data.toList)=(abL s).map kT:=by rw[qH (by rw[iM];exact iB _)];rfl);rw[e,hst];simp
theorem aA1 {w0 w:World} {As:List aZ} {e:TypeId} {n:Nat} {cs:List Value} {g cap:Nat} (i:Nat) (h:Sep w0 w As) (hi:As[i]? =some (.sl e 1 (sV g n cap) n cs)) (o m c:Nat) (hm:o+m<=n) (hc:m<=c) (hcm:c<=maxLen):
  Rd w 1 (.slice (some ⟨g,o,none⟩) m c) m ((cs.drop o).take m):=by
 obtain⟨A,cap',e',_,_,hl⟩:=h.gJ i hi;rw[yY]at hl;have hlt:g<w.heap.size:=by
  obtain⟨F,⟨ho,_⟩,hF⟩:=h.get i hi;rcases ho.2 with⟨h',_⟩|⟨g',c',cur,h',hb,hg,_⟩
  ·simp at h'
  cases h';exact lt_of_heap hg
 refine⟨by rw[qL,rU];omega,_,_,rfl,hc,hcm,fun _=>⟨_,rfl,hlt,fun j u hj=>?_⟩⟩;rw[vO]at hj;split at hj
 ·rename_i hjm;rw[zY]at hj;rw[Addr.add_lit,h.cellAt i hi (o+j) aD];exact hj
 cases hj
def bX :List UInt8:=List.replicate 512 0
theorem fV :bX.length=512:=E8
theorem CW :bX.map kT=List.replicate 512 (.int .u8 0):=List.map_replicate
def ae3 :List UInt8:=[115,104,117,110,116,45,108,101,100,103,101,114,45,49,33,10]
def oD (ps:List Nat):Nat->List UInt8
 |0=>dP (dP bX 0 ae3) 20 (leB ps.length 2)
 |k+1=>dP (oD ps k) (22+2*k) (leB (ps.getD k 0) 2)
def fQ (ps:List Nat):List UInt8:=dP (oD ps ps.length) 16 (leB (M6 ((oD ps ps.length).drop 20)).toNat 4)
theorem D5 (ps:List Nat):∀k,k<=240->(oD ps k).length=512
 |0,_=>by(have h1:(dP bX 0 ae3).length=512:=by rw[fM,fV];rw[fV];decide);unfold oD;rw[fM,h1];rw[h1];simp[leB]
 |k+1,h=>by have:=D5 ps k aD;rw[oD,fM,this];rw[this];simp[leB];omega
theorem oO {ps:List Nat} (h:ps.length<=240):(fQ ps).length=512:=by unfold fQ;have:=D5 ps ps.length h;rw[fM,this];rw[this];simp[leB]
theorem SN :(Tryz.prog.info? 3).map (fun i=>(i.zero,i.size,i.bytes))=some (some (iV 0),1,8):=by kernel_rfl
theorem QZ {w:World} {v:Value} {ps:List Nat} (hp:OP w v (ps.map fun(p:Nat)=>(p:Int))) (hlen:ps.length<=240) (hsm:∀p∈ps,p<65536):
  Calls Tryz.prog 162 #[v] w fun e w'=>∃u,e= .returned u/\Sep w w' [aI u (fQ ps)]:=by
 obtain⟨k0,pO,hk0,hk1,hk2⟩:=iU l8;obtain⟨A,cp,rfl,_⟩:=hp.shape;obtain⟨n,hn⟩:∃n,ps.length=n:=⟨_,rfl⟩;have hpl:(ps.map fun(p:Nat)=>(p:Int)).length=n:=by rw[iM,hn]
 rw[hpl]at hp ⊢;have hp':=Lh hp;have b1:(n:Int)<=240:=by omega
 have hS0:=(Sep.nil w).made 5 (.int .u8 0) 512 vQ;have hmk:(Instr.makeSlice 69 (.int .i64 512) (.int .i64 512)).run Tryz.prog w= .ok (sV w.heap.size 512 512) (w.alloc (.cells (madeCells #[.int .u8 0] 512) 5)):=qP (P:=Tryz.prog) 69 5 k0 (.int .u8 0) 1 Tryz.underlying69 pO hk0 hk1 hk2 rfl .i64 .i64 512 aD vQ w;obtain⟨w1,hcp,hS1,_⟩:=hS0.AJ (P:=Tryz.prog) 0 rfl 69 9 3 Tryz.underlying69 wZ 0 512 512 ⟨#[115,104,117,110,116,45,108,101,100,103,101,114,45,49,33,10]⟩ aV aV;have hb1:(dP bX 0 ae3).length=512:=by rw[fM,fV];rw[fV];decide
 have hS2:Sep w w1 [aI (sV w.heap.size 512 512) (dP bX 0 ae3)]:=by rw[bW hb1];(have e:oL (List.replicate 512 (Value.int .u8 0)) 0 ((abL ⟨#[115,104,117,110,116,45,108,101,100,103,101,114,45,49,33,10]⟩).map kT)=(dP bX 0 ae3).map kT:=by rw[<-CW,<-AL];rfl);rw[<-e];exact hS1
 have azA:=aaM (at':=20) (n:=n) (k:=2) hS2 (by rw[hb1];decide) aV (by rw[hb1];decide) aD;clear hS0 hS1 hS2 hp hlen;go_enter Tryz.func162,Tryz.ntmps162;go_wp2_with(go_at_call 188;refine azA.mono ?_;rintro e w2 ⟨rfl,dX⟩);have vC:Hid (Sep w w2 [aI (sV w.heap.size 512 512) (oD ps 0)]):=by have:=dX;rw[<-hn]at this;exact this
 clear dX azA hcp hmk;obtain⟨G,hG⟩:∃G,w.heap.size=G:=⟨_,rfl⟩;rw[hG]at vC ⊢;go_loopw[15] (fun i wr=>∃k:Nat,k<=n/\i=iV k/\Hid (Sep w wr [aI (sV G 512 512) (oD ps k)])) (fun i _=>n-(intOf i).toNat)
 case atStart=>exact⟨0,gI _,rfl,vC⟩
 obtain⟨k,hk,rfl,hS⟩:=hrel;by_cases hlt:k<n
 ·(have hx:∃ad,A=some ad/\wr.cell? (ad.add k)=some (iV (ps.getD k 0:Nat)):=by obtain⟨ad,c,u,e,h1,h2⟩:=Rd.at_ (Rd.below hp'.out hS.out.below) (k:=k) (by rw[hpl];omega);rw[hpl]at e;cases e;rw[kV,kV,gE aD]at h1;cases h1;refine⟨_,rfl,?_⟩;rw[h2,gH,gE aD];rfl);obtain⟨ad,rfl,hc⟩:=hx;have hl:=D5 ps k aD;have hput:=aaM (at':=22+2*k) (n:=ps.getD k 0) (k:=2) hS.out (by rw[hl];omega) aV (by rw[hl];decide) (by(have:ps.getD k 0<65536:=by rw[gH,gE aD];exact hsm _ (nT _));omega);simp only[U5,Int.natCast_mul,Int.cast_ofNat_Int]at hput;(have q1:(k:Int)<n:=by omega);(have q2:(0:Int)<=k:=by omega);clear vC hl hp';obtain⟨x,hx⟩:∃x,ps.getD k 0=x:=⟨_,rfl⟩;rw[hx]at hc hput;go_wp2_with(go_at_call 188;refine hput.mono ?_;rintro e w3 ⟨rfl,kD⟩);refine⟨⟨k+1,by omega,rfl,Lh ?_⟩,by simp[intOf];omega⟩;rw[oD,hx];exact kD
 obtain rfl:k=n:=by omega
 have hl:=D5 ps ps.length aD;have hSk:Sep w wr [aI (sV G 512 512) (oD ps ps.length)]:=by rw[hn];exact hS.out
 have hsub:BytesAt wr (.slice (some ⟨G,20,none⟩) 492 492) ((oD ps ps.length).drop 20):=by have h1:=hSk;rw[bW hl]at h1;have h2:=aA1 0 h1 rfl 20 492 492 aV (iB _) vQ;unfold BytesAt;(have e1:((oD ps ps.length).drop 20).length=492:=by rw[rU,hl]);rw[e1];(have e2:(((oD ps ps.length).map kT).drop 20).take 492=((oD ps ps.length).drop 20).map kT:=by rw[<-List.map_drop];exact qH (by rw[iM,e1];exact iB _));rw[<-e2];exact h2
 have aFT:=aw4 hsub (by rw[rU,hl];decide);have hci:=aw3 ((oD ps ps.length).drop 20);have hput:∀W,Sep w W [aI (sV G 512 512) (oD ps ps.length)]->Calls Tryz.prog 188 #[sV G 512 512,iV 16,iV (M6 ((oD ps ps.length).drop 20)),iV 4] W fun e w'=>e= .returned (.tuple #[])/\Sep w w' [aI (sV G 512 512) (fQ ps)]:=fun W hW=>by(have e:M6 ((oD ps ps.length).drop 20)=(((M6 ((oD ps ps.length).drop 20)).toNat:Nat):Int):=by omega);rw[e];exact aaM (at':=16) (n:=(M6 ((oD ps ps.length).drop 20)).toNat) (k:=4) hW (by rw[hl];decide) aV (by rw[hl];decide) aD
 have aw5:=Lh hSk;clear hSk hS vC hsub hl hci;obtain⟨C,hC⟩:∃C,M6 ((oD ps ps.length).drop 20)=C:=⟨_,rfl⟩;rw[hC]at aFT hput;go_wp2_with(first |(go_at_call 185;refine aFT.mono ?_;rintro e w3 ⟨rfl,hB3⟩)|(go_at_call 188;refine(hput _ (aw5.out.pure hB3)).mono ?_;rintro e w4 ⟨rfl,kD⟩));go_ret;exact⟨_,rfl,kD⟩
theorem dW :Maps.Keyed Tryz.prog 3:=Maps.int_keyed Tryz.underlying3
theorem SE (w:World):(zeroValue 3).run Tryz.prog w= .ok (.int .i64 0) w:=by kernel_rfl
def aA2 (w:World) (b n:Nat) (f:Int->Int):Prop:=
 ∃D:DataW Unit,w.ownsMap Tryz.prog 3 (plainElem Tryz.prog 3) b n D/\Maps.IsMap D/\∀k:Int,(Lit.int .i64 k).wf=true->D.atKey (.int .i64 k) (.lit (.int .i64 0))= .lit (.int .i64 (f k))
def XU (b n:Nat) (f:Int->Int):aZ:=
 ⟨fun w F=>aA2 w b n f/\F=[b],
  fun w w' F ⟨⟨D,⟨es,clock,hb,hr⟩,h2,h3⟩,hF⟩ hk=>⟨⟨D,⟨es,clock,by rw[hk b (by rw[hF];simp)];exact hb,hr⟩,h2,h3⟩,hF⟩,
  fun w F ⟨⟨D,h1,_⟩,hF⟩=>by rw[hF];exact⟨by simp,fun b' hb=>by simp at hb;subst hb;exact h1.lt⟩⟩
section
variable {w0 w w':World} {As:List aZ} {b n:Nat} {f:Int->Int}
theorem Sep.atG (h:Sep w0 w As):Sep w0 (w.alloc (.map #[] 0)) (XU w.heap.size 0 (fun _=>0)::As):=
 h.new ((Below.refl _ _).alloc (iB _) _) (F:=[w.heap.size]) ⟨⟨.map [],World.ownsMap_made w _ _ _,⟨[],rfl⟩,fun k _=>rfl⟩,rfl⟩ bL
theorem Sep.an4 (i:Nat) (h:Sep w0 w As) (hi:As[i]? =some (XU b n f)) (k:Int) (hk:(Lit.int .i64 k).wf=true):
  (Instr.lookup 100 (.map (some b)) (.int .i64 k) false).run Tryz.prog w= .ok (.int .i64 (f k)) w:=by
 obtain⟨F,⟨⟨D,h1,h2,h3⟩,_⟩,_⟩:=h.get i hi;obtain⟨c,hrun,hat,_⟩:=h1.lookup_int dW Tryz.underlying100 Tryz.underlying3 (SE w) (Maps.keyOf_int_mk Tryz.underlying3 hk);have hc:f k=c:=by have e:=(h3 k hk).symm.trans hat;injection e with e;injection e
 rw[hrun,hc]
theorem Sep.atH (i:Nat) (h:Sep w0 w As) (hi:As[i]? =some (XU b n f)) (hn:n<maxLen) (k v:Int) (hk:(Lit.int .i64 k).wf=true) (hv:(Lit.int .i64 v).wf=true):
  ∃w',(Instr.mapUpdate 100 (.map (some b)) (.int .i64 k) (.int .i64 v)).run Tryz.prog w= .ok () w'/\Sep w0 w' (As.set i (XU b (n+1) (fun x=>if x=k then v else f x))):=by
 obtain⟨F,⟨⟨D,h1,h2,h3⟩,hF⟩,_⟩:=h.get i hi;obtain⟨w',hrun,hown,hgrow⟩:=h1.update dW Tryz.underlying100 hn (Maps.keyOf_int_mk Tryz.underlying3 hk) (plainElem_int Tryz.underlying3 hv);refine⟨w',hrun,h.step i hi fun F' ⟨_,hF'⟩ _=>⟨[b],⟨⟨_,hown,h2.put _ _,fun x hx=>?_⟩,rfl⟩,fun x hx=>by rw[hF'];exact .inl hx,by rw[hF'];exact mI.uI hgrow⟩⟩;by_cases e:x=k
 ·subst e;(show _=DataW.lit (Lit.int IntKind.i64 (if x=x then v else f x)));rw[if_pos rfl];exact Maps.atKey_put_same h2 (by simp[WideAt.IsKeyLit]) _ _
 show _=DataW.lit (Lit.int IntKind.i64 (if x=k then v else f x))
 rw[if_neg e];rw[Maps.atKey_put_other (by intro e';injection e' with _ e';exact e e')];exact h3 x hx
end
theorem vT {w0 w:World} {R:List aZ} {q p nb i:Nat} {D:DK} (hD:D.ok nb) (YO:96<nb) (hi:96+i<nb) (hoff:D.off=false) (h:Sep w0 w (aH q p false::aO p D::R)):
  Calls Tryz.prog 187 #[pV q,iV i] w fun e w'=>
   ∃v,e= .returned (.tuple #[v,iV 0])/\Sep w0 w' (aI v (bk D.now (96+i))::aH q p false::aO p D::R):=by
 have h1:Sep w0 (w.alloc (.cells #[iV 0] 40)) (aH q p false::aO p D::aJ w.heap.size 0::R):=Sep.dE [1,2,0] (h.bN 40 #[iV 0]) aV bL
 have haw:=F5 h1
 simp only[JO,if_false]at haw
 have hbl:=CK hD aD h1
 have hrd:=QY hD hi hoff h1
 have q1:(i:Int)<((nb-96:Nat):Int):=by omega
 have q0:(0:Int)<=i:=by omega
 have l5:=hD.few
 have q2:(i:Int)<=4096:=by omega
 have e:((96+i:Nat):Int)=96+(i:Int):=by omega
 rw[e]at hrd
 obtain⟨N,hN⟩:∃N,N=nb-96:=⟨_,rfl⟩
 rw[<-hN]at hbl q1
 clear hN l5 e
 go_enter_defers Tryz.func187,Tryz.ntmps187
 go_wp2_with(first |(go_at_call 168;refine haw.mono ?_;rintro e w9 ⟨rfl,h9⟩;obtain rfl:=h9.symm)|(go_at_call 154;refine hbl.mono ?_;rintro e w9 ⟨rfl,h9⟩;obtain rfl:=h9.symm)|(go_at_call 153;refine hrd.mono ?_;rintro e w9 ⟨v,rfl,h9⟩;have k1:=h9.bC 3 rfl 0;have k2:=h9.bF 3 rfl 0;simp only[gA,gB]at k1))
 refine oI ?_
 have h10:Sep w0 _ (aI v (bk D.now (96+i))::aH q p false::aO p D::aJ w.heap.size 0::R):=h9.bS 3 rfl 0 (.int .i64 0)
 have ec:=h10.bC 3 rfl 0
 simp only[gA,gB]at ec
 refine⟨.tuple #[v,iV 0],by simp[results,Tryz.results187,go_sem,ec],v,rfl,?_⟩
 exact Sep.drop 1 (Sep.dE [3,0,1,2] h10 aV bL)
structure apP (nb:Nat) (ps:List (Nat×List UInt8)):Prop where
 some:1<=ps.length
 few:ps.length<=40
 put:∀x∈ps,96+x.1<nb/\x.2.length=512
 ne:(ps.map (·.1)).Nodup
def kI (ps:List (Nat×List UInt8)):List tJ:=ps.zipIdx.map fun x=>some (1+x.2,x.1.2)
def gQ (ps:List (Nat×List UInt8)):List tJ:=ps.map fun x=>some (96+x.1,x.2)
def bY (ps:List (Nat×List UInt8)):List tJ:=kI ps++(none::some (0,fQ (ps.map (·.1)))::none::(gQ ps++[none,some (0,fQ []),none]))
structure apO (w0:World) (R:List aZ) (g n:Nat) (ps:List (Nat×List UInt8)) (us:List Value):Prop where
 len:ps.length=n
 aw6:us.length=n
 cell:∀w' X,Sep w0 w' (X++R)->∀k (h:k<n),w'.cell? ⟨g,k*2,none⟩=some (iV ((ps[k]'aD).1:Nat))/\w'.cell? ⟨g,k*2+1,none⟩=some (us[k]'aD)
 data:∀k (h:k<n),jG w0 R (us[k]'aD) (ps[k]'aD).2
 form:∀u∈us,∃A c,u= .slice A 512 c
theorem JI {ps:List (Nat×List UInt8)} {k:Nat} (hk:k<ps.length):(kI ps).take (k+1)=(kI ps).take k++[some (1+k,ps[k].2)]:=by unfold kI;rw[pE,kV,List.getElem?_zipIdx,gE hk];simp
theorem JJ {ps:List (Nat×List UInt8)} {k:Nat} (hk:k<ps.length):(gQ ps).take (k+1)=(gQ ps).take k++[some (96+ps[k].1,ps[k].2)]:=by unfold gQ;rw[pE,kV,gE hk];rfl
theorem XV {xs:List tJ} {a:tJ} {D E:DK} (h:kN xs D=(E,true)) (ho:E.off=false):kN (xs++[a]) D=(E.act a,true):=by
 rw[MC,h];show kN [a] E=_
 rw[kN,ho];rfl
theorem an5 {xs ys:List tJ} {a:tJ} {D E:DK} (h:kN xs D=(E,true)) (ho:E.off=true):kN (xs++a::ys) D=(E,false):=by
 rw[MC,h];show kN (a::ys) E=_
 rw[kN,ho];rfl
end Go.Proofs.YtmjomdkleikgbaaGreat
