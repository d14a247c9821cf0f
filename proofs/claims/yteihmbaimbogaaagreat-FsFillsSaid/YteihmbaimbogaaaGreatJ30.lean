/- FuY, FuZ, FwA, laid together. -/
import Derived.Test.YteihmbaimbogaaaGreatJ29
namespace Go.Proofs.YteihmbaimbogaaaGreat
open Go.RowKit
set_option linter.unusedVariables false
set_option linter.unusedSimpArgs false
def opD (f q p:Nat) (S:VS) (r:Except Int (Option VS)) (w0:World) (R:List aU) (e:Ending) (w':World):Prop:=
 match r with
 | .error k=>e=(if k=0 then .returned (.tuple #[])else .panicked (eH k))∧∃a',VC S a'∧Sep w0 w' (aG f q p S a'::R)
 | .ok r=>cZ f q p S r w0 R e w'
def rD (f q p:Nat) (S:VS) (r:Except Int (Option VS)) (w0 w:World) (R:List aU) (x:Int):Prop:=
 match r with
 | .error k=>x=k∧Sep w0 w (bJ f q p S::R)
 | .ok none=>x=27∧Sep w0 w (bJ f q p S::R)
 | .ok (some S1)=>
  if uK S1=true then
   if S1.aV.2=true then x=0∧Sep w0 w (bJ f q p S1.settled::R)
   else x=11∧Sep w0 w (DN f q p true::aJ p S1.aV.1::R)
  else x=27∧Sep w0 w (bJ f q p S::R)
def ajT (r:Except Int (Option VS)):Prop:=∀k,r= .error k→k≠11
section
variable {w0 w:World} {R:List aU} {f q p:Nat} {S:VS} {a:VA}
theorem SC {fo:Option Nat} (hC:VC S a) (hb:S.D.back=[]) (h:Sep w0 w (jG f q S a.sb (.map fo) false::aD q p false::aJ p S.D::dH a.sb a.SM::R)):Sep w0 w (bJ f q p S::R):=
 DT ⟨rfl,rfl,rfl,rfl,rfl⟩ hC hb h
theorem wY (hC:VC S a) (hb:S.D.back=[]) (h:Sep w0 w (aG f q p S a::R)):Sep w0 w (bJ f q p S::R):=by have h1:=h.aS;have h2:Sep w0 w (iI a.fb a.FM::jG f q S a.sb (.map (some a.fb)) false::aD q p false::aJ p S.D::dH a.sb a.SM::R):=Sep.bZ [4,0,1,2,3] h1 (by decide) (by simp[oH]);exact SC hC hb (h2.drop 1)
theorem SE {be:Nat} {fn:Func} {tmps:Array Value} {Post:Ending→World→Prop} {ds:List Deferred} {k y:Int} (hC:VC S a) (hb:S.D.back=[]) (hk:k≠11) (h:Sep w0 w (aG f q p S a::aI be y::R))
  (hK:∀w',Sep w0 w' (bJ f q p S::aI be k::R)→Leaves Tryz.prog fn tmps Post ds .returning w'):
  Leaves Tryz.prog fn tmps Post ({target:=.fn (.func 41) #[],args:=#[.pointer (some ⟨f,0,none⟩),.pointer (some ⟨be,0,none⟩)]}::ds) (.panicking (eH k)) w:=by
 have h1:=h.aS;have h2:Sep w0 w (iI a.fb a.FM::jG f q S a.sb (.map (some a.fb)) false::aI be y::aD q p false::aJ p S.D::dH a.sb a.SM::R):=Sep.bZ [4,0,5,1,2,3] h1 (by decide) (by simp[oH]);refine CF (h2.drop 1) fun w' hS=>hK w' ?_
 rw[decide_eq_false hk,Bool.false_or]at hS;exact SC hC hb (Sep.bZ [0,2,3,4,1] hS (by decide) (by simp))
theorem MV {be:Nat} {fn:Func} {tmps:Array Value} {Post:Ending→World→Prop} {ds:List Deferred} {k y:Int} (hk:k≠11) (h:Sep w0 w (bJ f q p S::aI be y::R))
  (hK:∀w',Sep w0 w' (bJ f q p S::aI be k::R)→Leaves Tryz.prog fn tmps Post ds .returning w'):
  Leaves Tryz.prog fn tmps Post ({target:=.fn (.func 41) #[],args:=#[.pointer (some ⟨f,0,none⟩),.pointer (some ⟨be,0,none⟩)]}::ds) (.panicking (eH k)) w:=by
 obtain⟨sb,SM,fo,hR,h1⟩:=h.mZ;refine CF (Sep.bZ [0,4,1,2,3] h1 (by decide) (by simp)) fun w' hS=>hK w' ?_
 rw[decide_eq_false hk,Bool.false_or]at hS;exact Sep.CE hR (Sep.bZ [0,2,3,4,1] hS (by decide) (by simp))
theorem aa6 {be:Nat} {fn:Func} {tmps:Array Value} {Post:Ending→World→Prop} {ds:List Deferred} {dead:Bool} {y:Int} (h:Sep w0 w (DN f q p dead::aI be y::R))
  (hK:∀w',Sep w0 w' (DN f q p true::aI be 11::R)→Leaves Tryz.prog fn tmps Post ds .returning w'):
  Leaves Tryz.prog fn tmps Post ({target:=.fn (.func 41) #[],args:=#[.pointer (some ⟨f,0,none⟩),.pointer (some ⟨be,0,none⟩)]}::ds) (.panicking (eH 11)) w:=by
 obtain⟨S,sb,fo,h1⟩:=h.aaI;refine CF (Sep.bZ [0,2,1] h1 (by decide) (by simp)) fun w' hS=>hK w' ?_
 rw[decide_eq_true (rfl:(11:Int)=11),Bool.true_or]at hS;exact(Sep.bZ [0,2,1] hS (by decide) (by simp):Sep w0 w' (jG f q S sb (.map fo) true::aD q p true::aI be 11::R)).MJ
theorem afH {be:Nat} {fn:Func} {tmps:Array Value} {Post:Ending→World→Prop} {ds:List Deferred} {r:Except Int (Option VS)} {ps:List PanicEntry} (hb:S.D.back=[]) (hp:ajT r) (h:opD f q p S r w0 (aI be 0::R) (.panicked ps) w)
  (hK:∀w' x,rD f q p S r w0 w' (aI be x::R) x→Leaves Tryz.prog fn tmps Post ds .returning w'):
  Leaves Tryz.prog fn tmps Post ({target:=.fn (.func 41) #[],args:=#[.pointer (some ⟨f,0,none⟩),.pointer (some ⟨be,0,none⟩)]}::ds) (.panicking ps) w:=by
 match r with
 | .error k=>
  obtain⟨he,a',hC,hS⟩:=h;by_cases hk:k=0
  ·rw[if_pos hk]at he;cases he
  rw[if_neg hk]at he;cases he;exact SE hC hb (hp k rfl) hS fun w' hw=>hK w' k ⟨rfl,hw⟩
 | .ok none=>obtain⟨he,hS⟩:=h;cases he;exact MV (by decide) hS fun w' hw=>hK w' 27 ⟨rfl,hw⟩
 | .ok (some S1)=>
  unfold opD cZ at h;simp only at h;by_cases h1:uK S1=true
  ·rw[if_pos h1]at h;by_cases h2:S1.aV.2=true
   ·rw[if_pos h2]at h;cases h.1
   rw[if_neg h2]at h;obtain⟨he,hS⟩:=h;cases he;(refine aa6 (Sep.bZ [0,2,1] hS (by decide) (by simp)) fun w' hw=>hK w' 11 ?_);unfold rD;simp only;rw[if_pos h1,if_neg h2];exact⟨trivial,Sep.bZ [0,2,1] hw (by decide) (by simp)⟩
  rw[if_neg h1]at h;obtain⟨he,hS⟩:=h;cases he;(refine MV (by decide) hS fun w' hw=>hK w' 27 ?_);unfold rD;simp only;rw[if_neg h1];exact⟨trivial,hw⟩
theorem ajU {be:Nat} {r:Except Int (Option VS)} {v:Value} (hb:S.D.back=[]) (h:opD f q p S r w0 (aI be 0::R) (.returned v) w):
  v= .tuple #[]∧rD f q p S r w0 w (aI be 0::R) 0:=by
 match r with
 | .error k=>
  obtain⟨he,a',hC,hS⟩:=h;by_cases hk:k=0
  ·rw[if_pos hk]at he;cases he;subst hk;exact⟨rfl,rfl,wY hC hb hS⟩
  rw[if_neg hk]at he;cases he
 | .ok none=>cases h.1
 | .ok (some S1)=>
  unfold opD cZ at h;simp only at h;by_cases h1:uK S1=true
  ·rw[if_pos h1]at h;by_cases h2:S1.aV.2=true
   ·rw[if_pos h2]at h;obtain⟨he,hS⟩:=h;cases he;refine⟨rfl,?_⟩;unfold rD;simp only;rw[if_pos h1,if_pos h2];exact⟨trivial,hS⟩
   rw[if_neg h2]at h;cases h.1
  rw[if_neg h1]at h;cases h.1
theorem afI {r:Except Int (Option VS)} {R:List aU} {e:Ending} (h:opD f q p S r w0 R e w):e= .returned (.tuple #[])∨∃k,e= .panicked (eH k):=by
 match r with
 | .error k=>
  obtain⟨he,_⟩:=h;by_cases hk:k=0
  ·rw[if_pos hk]at he;exact .inl he
  rw[if_neg hk]at he;exact .inr ⟨k,he⟩
 | .ok r=>exact lU h
theorem CL {r:Except Int (Option VS)} {x:Int} (h:rD f q p S r w0 w R x):∃Y,Sep w0 w (Y++R):=by
 match r with
 | .error k=>exact⟨[_],h.2⟩
 | .ok none=>exact⟨[_],h.2⟩
 | .ok (some S1)=>
  unfold rD at h;simp only at h;split at h
  ·split at h
   ·exact⟨[_],h.2⟩
   exact⟨[_,_],h.2⟩
  exact⟨[_],h.2⟩
theorem SF {r:Except Int (Option VS)} {x:Int} {R':List aU} {w':World} (h:rD f q p S r w0 w R x) (hm:∀Y,Sep w0 w (Y++R)→Sep w0 w' (Y++R')):rD f q p S r w0 w' R' x:=by
 match r with
 | .error k=>exact⟨h.1,hm [_] h.2⟩
 | .ok none=>exact⟨h.1,hm [_] h.2⟩
 | .ok (some S1)=>
  unfold rD at*;simp only at*;split
  ·rename_i h1;rw[if_pos h1]at h;split
   ·rename_i h2;rw[if_pos h2]at h;exact⟨h.1,hm [_] h.2⟩
   rename_i h2;rw[if_neg h2]at h;exact⟨h.1,hm [_,_] h.2⟩
  rename_i h1;rw[if_neg h1]at h;exact⟨h.1,hm [_] h.2⟩
end
def nE (f:Nat):List (Lit×Value):=[(.int .i64 1,.func (.func 45) #[.pointer (some ⟨f,0,none⟩)] #[]),(.int .i64 2,.func (.func 46) #[.pointer (some ⟨f,0,none⟩)] #[]),
 (.int .i64 3,.func (.func 47) #[.pointer (some ⟨f,0,none⟩)] #[]),(.int .i64 4,.func (.func 48) #[.pointer (some ⟨f,0,none⟩)] #[]),(.int .i64 5,.func (.func 49) #[.pointer (some ⟨f,0,none⟩)] #[]),
 (.int .i64 6,.func (.func 50) #[.pointer (some ⟨f,0,none⟩)] #[]),(.int .i64 7,.func (.func 51) #[.pointer (some ⟨f,0,none⟩)] #[]),(.int .i64 8,.func (.func 52) #[.pointer (some ⟨f,0,none⟩)] #[]),(.int .i64 9,.func (.func 53) #[.pointer (some ⟨f,0,none⟩)] #[])]
theorem aa7 (w:World):(zeroValue 93).run Tryz.prog w= .ok .nilFunc w:=by kernel_rfl
section
variable {w0 w:World} {R:List aU} {f q p:Nat} {S:VS} {a:VA}
def uU (b:Nat) (op:Int) (path tz:List UInt8) (mode kk:Int):aU:=.box b 38 #[.int .i64 op,aM path,aM tz,.int .i64 mode,.int .i64 kk]
theorem Sep.arQ (h:Sep w0 w R):∃w1 w2 w3 w4 w5 w6 w7 w8 w9,
  (Instr.mapUpdate 94 (.map (some w.heap.size)) (.int .i64 1) (.func (.func 45) #[.pointer (some ⟨f,0,none⟩)] #[])).run Tryz.prog (w.alloc (.map #[] 0))= .ok () w1∧
  (Instr.mapUpdate 94 (.map (some w.heap.size)) (.int .i64 2) (.func (.func 46) #[.pointer (some ⟨f,0,none⟩)] #[])).run Tryz.prog w1= .ok () w2∧
  (Instr.mapUpdate 94 (.map (some w.heap.size)) (.int .i64 3) (.func (.func 47) #[.pointer (some ⟨f,0,none⟩)] #[])).run Tryz.prog w2= .ok () w3∧
  (Instr.mapUpdate 94 (.map (some w.heap.size)) (.int .i64 4) (.func (.func 48) #[.pointer (some ⟨f,0,none⟩)] #[])).run Tryz.prog w3= .ok () w4∧
  (Instr.mapUpdate 94 (.map (some w.heap.size)) (.int .i64 5) (.func (.func 49) #[.pointer (some ⟨f,0,none⟩)] #[])).run Tryz.prog w4= .ok () w5∧
  (Instr.mapUpdate 94 (.map (some w.heap.size)) (.int .i64 6) (.func (.func 50) #[.pointer (some ⟨f,0,none⟩)] #[])).run Tryz.prog w5= .ok () w6∧
  (Instr.mapUpdate 94 (.map (some w.heap.size)) (.int .i64 7) (.func (.func 51) #[.pointer (some ⟨f,0,none⟩)] #[])).run Tryz.prog w6= .ok () w7∧
  (Instr.mapUpdate 94 (.map (some w.heap.size)) (.int .i64 8) (.func (.func 52) #[.pointer (some ⟨f,0,none⟩)] #[])).run Tryz.prog w7= .ok () w8∧
  (Instr.mapUpdate 94 (.map (some w.heap.size)) (.int .i64 9) (.func (.func 53) #[.pointer (some ⟨f,0,none⟩)] #[])).run Tryz.prog w8= .ok () w9∧
  Sep w0 w9 (l7 3 w.heap.size (nE f)::R):=by
 have hM0:=h.adH 3;obtain⟨w1,r1,hM1⟩:=hM0.nU 0 rfl dX Tryz.underlying94 (by show(0:Nat)<maxLen;decide) (v:=.func (.func 45) #[.pointer (some ⟨f,0,none⟩)] #[]) (gY 1 (by decide));replace hM1:Sep w0 w1 (l7 3 w.heap.size ((nE f).take 1)::R):=hM1;obtain⟨w2,r2,hM2⟩:=hM1.nU 0 rfl dX Tryz.underlying94 (by show(1:Nat)<maxLen;decide) (v:=.func (.func 46) #[.pointer (some ⟨f,0,none⟩)] #[]) (gY 2 (by decide));replace hM2:Sep w0 w2 (l7 3 w.heap.size ((nE f).take 2)::R):=hM2;obtain⟨w3,r3,hM3⟩:=hM2.nU 0 rfl dX Tryz.underlying94 (by show(2:Nat)<maxLen;decide) (v:=.func (.func 47) #[.pointer (some ⟨f,0,none⟩)] #[]) (gY 3 (by decide));replace hM3:Sep w0 w3 (l7 3 w.heap.size ((nE f).take 3)::R):=hM3;obtain⟨w4,r4,hM4⟩:=hM3.nU 0 rfl dX Tryz.underlying94 (by show(3:Nat)<maxLen;decide) (v:=.func (.func 48) #[.pointer (some ⟨f,0,none⟩)] #[]) (gY 4 (by decide));replace hM4:Sep w0 w4 (l7 3 w.heap.size ((nE f).take 4)::R):=hM4;obtain⟨w5,r5,hM5⟩:=hM4.nU 0 rfl dX Tryz.underlying94 (by show(4:Nat)<maxLen;decide) (v:=.func (.func 49) #[.pointer (some ⟨f,0,none⟩)] #[]) (gY 5 (by decide));replace hM5:Sep w0 w5 (l7 3 w.heap.size ((nE f).take 5)::R):=hM5;obtain⟨w6,r6,hM6⟩:=hM5.nU 0 rfl dX Tryz.underlying94 (by show(5:Nat)<maxLen;decide) (v:=.func (.func 50) #[.pointer (some ⟨f,0,none⟩)] #[]) (gY 6 (by decide));replace hM6:Sep w0 w6 (l7 3 w.heap.size ((nE f).take 6)::R):=hM6;obtain⟨w7,r7,hM7⟩:=hM6.nU 0 rfl dX Tryz.underlying94 (by show(6:Nat)<maxLen;decide) (v:=.func (.func 51) #[.pointer (some ⟨f,0,none⟩)] #[]) (gY 7 (by decide));replace hM7:Sep w0 w7 (l7 3 w.heap.size ((nE f).take 7)::R):=hM7;obtain⟨w8,r8,hM8⟩:=hM7.nU 0 rfl dX Tryz.underlying94 (by show(7:Nat)<maxLen;decide) (v:=.func (.func 52) #[.pointer (some ⟨f,0,none⟩)] #[]) (gY 8 (by decide));replace hM8:Sep w0 w8 (l7 3 w.heap.size ((nE f).take 8)::R):=hM8;obtain⟨w9,r9,hM9⟩:=hM8.nU 0 rfl dX Tryz.underlying94 (by show(8:Nat)<maxLen;decide) (v:=.func (.func 53) #[.pointer (some ⟨f,0,none⟩)] #[]) (gY 9 (by decide));replace hM9:Sep w0 w9 (l7 3 w.heap.size ((nE f).take 9)::R):=hM9;exact⟨w1,w2,w3,w4,w5,w6,w7,w8,w9,r1,r2,r3,r4,r5,r6,r7,r8,r9,hM9⟩
def AA (w0:World) (R:List aU) (A:Option Addr) (n:Nat) (kk:Int) (bs:List UInt8):Prop:=
 ∀k:Nat,kk=k→k<n→∃sa B cc,A=some sa∧(∀W Y,Sep w0 W (Y++R)→W.cell? (sa.add k)=some (.slice B bs.length cc))∧iB w0 R (.slice B bs.length cc) bs
set_option maxRecDepth 100000 in
set_option maxHeartbeats 8000000 in
theorem YT {DU:FuncId} {op mode kk ck:Int} {path tz bs:List UInt8} {A:Option Addr} {n c:Nat} {r:Except Int (Option VS)} (hp:path.length≤9223372036854775807) (ht:tz.length≤9223372036854775807) (hn:n≤9223372036854775807) (hlen:bs.length≤9223372036854775807)
  (ho:S.D.off=false) (hop: -9223372036854775808≤op∧op≤9223372036854775807) (hck:ck=nD (bA op).1 (bA op).2.1 (bA op).2.2 op path tz mode kk n bs.length)
  (hrow:ck=0→getM (nE f) (.int .i64 op)=some (.func (.func DU) #[.pointer (some ⟨f,0,none⟩)] #[])) (hent:∀args w,(callFunc DU args).run Tryz.prog w= .ok (.enter DU args) w) (hst:AA w0 R A n kk bs) (hpr:ajT r) (afJ:ck≠11)
  (hdo:ck=0→∀W a X,VC S.base a→S.base.D.back=[]→Sep w0 W (aG f q p S.base a::(X++R))→Calls Tryz.prog DU #[.pointer (some ⟨f,0,none⟩),.agg #[.int .i64 op,aM path,aM tz,.int .i64 mode,.int .i64 kk],.slice A n c] W (opD f q p S.base r w0 (X++R)))
  (h:Sep w0 w (bJ f q p S::R)):
  Calls Tryz.prog 14 #[.pointer (some ⟨f,0,none⟩),.agg #[.int .i64 op,aM path,aM tz,.int .i64 mode,.int .i64 kk],.slice A n c] w fun e w'=>∃x,e= .returned (.int .i64 x)∧rD f q p S.base (if ck=0 then r else .error ck) w0 w' R x:=by
 have hb:S.base.D.back=[]:=by obtain⟨_,_,_,hR,_⟩:=h.mZ;exact hR.back
 obtain⟨bi,hbi⟩:∃b,b=w.heap.size:=⟨_,rfl⟩;have h1:Sep w0 ((w.alloc (.cells #[.int .i64 op,aM path,aM tz,.int .i64 mode,.int .i64 kk] 38)).alloc (.cells #[.int .i64 0] 39)) (bJ f q p S::aI (bi+1) 0::uU bi op path tz mode kk::R):=by have:=(h.bN 38 #[.int .i64 op,aM path,aM tz,.int .i64 mode,.int .i64 kk]).bN 39 #[.int .i64 0];rw[World.size_alloc,←hbi]at this;exact Sep.bZ [2,0,1] this (by decide) (by simp)
 have haw:=Q6 ho h1;have hcs:Hid (∀W Y,Sep w0 W (Y++uU bi op path tz mode kk::R)→W.cell? ⟨bi,0,none⟩=some (.int .i64 op)∧W.cell? ⟨bi,1,none⟩=some (aM path)∧W.cell? ⟨bi,2,none⟩=some (aM tz)∧W.cell? ⟨bi,3,none⟩=some (.int .i64 mode)∧W.cell? ⟨bi,4,none⟩=some (.int .i64 kk)):=Lh fun W Y hW=>by(have hi:(Y++uU bi op path tz mode kk::R)[Y.length]? =some (uU bi op path tz mode kk):=by simp);exact⟨hW.bC _ hi 0,hW.bC _ hi 1,hW.bC _ hi 2,hW.bC _ hi 3,hW.bC _ hi 4⟩
 have hce:Hid (∀W Y,Sep w0 W (Y++uU bi op path tz mode kk::R)→Calls Tryz.prog 44 #[.agg #[.int .i64 op,aM path,aM tz,.int .i64 mode,.int .i64 kk],.slice A n c] W fun e w'=>e= .returned (.int .i64 ck)∧Below W.heap.size W w'):=Lh fun W Y hW=>by rw[hck];refine aa2 op mode kk (A:=A) (n:=n) (c:=c) (len:=bs.length) hp ht W (fun k hk hkn=>?_) hn hlen;obtain⟨sa,B,cc,rfl,h2,_⟩:=hst k hk hkn;refine⟨sa,B,cc,rfl,fun W' hW'=>h2 W' (Y++[uU bi op path tz mode kk]) ?_⟩;have:=hW.pure hW';simpa using this
 have hmm:= @run_makeMap Tryz.prog;have QA:∀(fn:Fn) (first cap:Array Value) (w:World),(Instr.makeFunc fn first cap).run Tryz.prog w= .ok (.func fn first cap) w:=fun _ _ _ _=>rfl
 have hres:Hid (∀(tm:Array Value) W x Y,tm.getD 6 undef= .pointer (some ⟨bi+1,0,none⟩)→Sep w0 W (Y++aI (bi+1) x::uU bi op path tz mode kk::R)→(results Tryz.f14 tm).run Tryz.prog W= .ok (.int .i64 x) W):=Lh fun tm W x Y ht hW=>by(have hi:(Y++aI (bi+1) x::uU bi op path tz mode kk::R)[Y.length]? =some (aI (bi+1) x):=by simp);have ec:=hW.bC _ hi 0;simp only[gA,gB]at ec;(have ht2:tm[6]?.getD undef= .pointer (some ⟨bi+1,0,none⟩):=by simpa using ht);simp[results,Tryz.results14,go_sem,ht2,asAddr,loadVar,ec]
 have hdr:Hid (∀W (r:Except Int (Option VS)) x y,rD f q p S.base r w0 W (aI (bi+1) y::uU bi op path tz mode kk::R) x→rD f q p S.base r w0 W R x):=Lh fun W r x y hE=>SF hE fun Y hY=>by have h2:Sep w0 W (aI (bi+1) y::uU bi op path tz mode kk::(Y++R)):=hY.perm (by exact(List.perm_middle.trans (List.Perm.cons _ List.perm_middle)));exact h2.drop 2
 have hfin:Hid (∀(ps:List PanicEntry) W (r:Except Int (Option VS)) (tm:Array Value) (rr:Except Int (Option VS)),ajT r→rr=r→tm.getD 6 undef= .pointer (some ⟨bi+1,0,none⟩)→opD f q p S.base r w0 (aI (bi+1) 0::uU bi op path tz mode kk::R) (.panicked ps) W→
   Leaves Tryz.prog Tryz.f14 tm (fun e w'=>∃x,e= .returned (.int .i64 x)∧rD f q p S.base rr w0 w' R x) [{target:=.fn (.func 41) #[],args:=#[.pointer (some ⟨f,0,none⟩),.pointer (some ⟨bi+1,0,none⟩)]}] (.panicking ps) W):=Lh fun ps W r tm rr hpr hrr ht hD=>by
  subst hrr;(refine afH hb hpr hD fun w' x hE=>?_);obtain⟨Y,hY⟩:=CL hE;exact⟨_,hres.out tm w' x Y ht hY,x,rfl,hdr.out _ _ _ _ hE⟩
 have hkey:keyOf Tryz.prog 3 (.int .i64 op)=some (.int .i64 op):=Maps.keyOf_int_mk Tryz.underlying3 (by simp[Lit.wf,IntKind.min,IntKind.max,IntKind.signed,IntKind.bits];omega);clear hop;replace hb:=Lh hb;clear hst hn hlen hp ht h h1;by_cases h0:ck=0
 ·rw[if_pos h0];replace hdo:=Lh (hdo h0);replace hrow:=Lh (hrow h0);clear hck afJ;subst h0;obtain⟨st,hst⟩:∃v,v=aM path:=⟨_,rfl⟩;unfold aM at*;rw[hbi]at*
  go_enter_defers Tryz.func14,Tryz.ntmps14
  go_wp2_with(first |(go_at_call 42;refine haw.mono ?_;rintro e w9 ⟨rfl,a9,kE,h9⟩;have hi9:Sep w0 w9 ([aG f q p S.base a9,aI (w.heap.size+1) 0]++uU w.heap.size op path tz mode kk::R):=h9;obtain⟨e0,e1,e2,e3,e4⟩:=hcs.out _ _ hi9;have hch:=hce.out _ _ hi9;replace h9:=Lh h9;replace kE:=Lh kE;clear hi9 haw hce)|(go_at_call 44;refine hch.mono ?_;rintro e w8 ⟨rfl,SG⟩;have h8:=h9.out.pure SG;clear SG e0 e1 e2 e3 e4 hch h9)|(go_at_call 43;go_loud (refine(dI _ _).mono ?_;rintro e w7 ⟨rfl,h7⟩;obtain rfl:=h7.symm;obtain⟨x1,x2,x3,x4,x5,x6,x7,x8,x9,r1,r2,r3,r4,r5,r6,r7,r8,r9,hM⟩:=h8.arQ (f:=f);have hM2:Sep w0 x9 ([l7 3 w8.heap.size (nE f),aG f q p S.base a9,aI (w.heap.size+1) 0]++uU w.heap.size op path tz mode kk::R):=hM;obtain⟨e0,e1,e2,e3,e4⟩:=hcs.out _ _ hM2;have hlk:=hM.ajV 0 rfl dX Tryz.underlying94 (aa7 _) (key:=.int .i64 op) (kl:=.int .i64 op) hkey;rw[hrow.out,Option.getD_some]at hlk;have hd:=hdo.out x9 a9 [aI (w.heap.size+1) 0,uU w.heap.size op path tz mode kk] kE.out hb.out (hM.drop 1);clear hM2 h8;replace hM:=Lh hM)));refine hd.mono ?_;intro e wz hz;clear hM e0 e1 e2 e3 e4 r1 r2 r3 r4 r5 r6 r7 r8 r9 hlk hd hdo;rcases afI hz with rfl|⟨k,rfl⟩
  ·obtain⟨_,hE⟩:=ajU hb.out hz;obtain⟨Y,hY⟩:=CL hE;(have hi:(Y++aI (w.heap.size+1) 0::uU w.heap.size op path tz mode kk::R)[Y.length]? =some (aI (w.heap.size+1) 0):=by simp);have k1:=hY.bC _ hi 0;have k2:=hY.bF _ hi 0;(have hE2:rD f q p S.base r w0 (wz.setCell ⟨w.heap.size+1,0,none⟩ (.int .i64 0)) (aI (w.heap.size+1) 0::uU w.heap.size op path tz mode kk::R) 0:=SF hE fun Z hZ=>by(have hi2:(Z++aI (w.heap.size+1) 0::uU w.heap.size op path tz mode kk::R)[Z.length]? =some (aI (w.heap.size+1) 0):=by simp);have h5:=hZ.bS _ hi2 0 (.int .i64 0);rw[List.set_append_right _ _ (Nat.le_refl _),Nat.sub_self]at h5;exact h5);simp only[gA,gB]at k1;clear hi hY hz;replace hE2:=Lh hE2;clear hE;go_wp2_with fail;refine nK ?_;obtain⟨Y2,hY2⟩:=CL hE2.out;exact⟨_,hres.out _ _ 0 Y2 rfl hY2,0,rfl,hdr.out _ _ _ _ hE2.out⟩
  exact hfin.out _ _ r _ r hpr rfl rfl hz
 rw[if_neg h0];clear hdo hrow hck hent;obtain⟨st,hst⟩:∃v,v=aM path:=⟨_,rfl⟩;unfold aM at*;rw[hbi]at*
 go_enter_defers Tryz.func14,Tryz.ntmps14
 go_wp2_with(first |(go_at_call 42;refine haw.mono ?_;rintro e w9 ⟨rfl,a9,kE,h9⟩;have hi9:Sep w0 w9 ([aG f q p S.base a9,aI (w.heap.size+1) 0]++uU w.heap.size op path tz mode kk::R):=h9;obtain⟨e0,e1,e2,e3,e4⟩:=hcs.out _ _ hi9;have hch:=hce.out _ _ hi9;replace h9:=Lh h9;replace kE:=Lh kE;clear hi9 haw hce)|(go_at_call 44;refine hch.mono ?_;rintro e w8 ⟨rfl,SG⟩;have h8:=h9.out.pure SG;clear SG e0 e1 e2 e3 e4 hch h9)|(go_at_call 43;refine(dI _ _).mono ?_;rw[if_neg h0];rintro e w7 ⟨rfl,h7⟩;obtain rfl:=h7.symm));refine hfin.out _ _ (.error ck) _ (.error ck) (fun k hk=>by cases hk;exact afJ) rfl rfl ⟨?_,a9,kE.out,h8⟩;rw[if_neg h0];rfl
end
def IZ (S:VS) (op:Int) (path tz:List UInt8) (mode:Nat) (bs:List UInt8):Except Int (Option VS):=
 if op=1 then IQ S path ⟨1,mode,1,0,[]⟩ []
 else if op=2 then afD S path
 else if op=3 then YQ S path tz
 else if op=4 then al6 S path tz
 else if op=5 then zZ S path
 else if op=6 then IQ S path ⟨2,mode,1,0,[]⟩ bs
 else if op=7 then arP S path tz mode
 else if op=8 then afA S path mode
 else .error 0
structure amA (S:VS) (op:Int) (path tz:List UInt8) (mode:Nat) (bs:List UInt8):Prop where
 mkd:op=1→∀d:Nat,aW S.cur S.data 0 0 (splitB path)=((d:Int), -1,0)→S.nodes<256→tN S (⟨1,mode,1,0,[]⟩:VI) [] d path
 rm:op=2→∀d m:Nat,m<S.names→aW S.cur S.data 0 0 (splitB path)=((d:Int),(m:Int),0)→(aF S.cur m).kind=1→(aF S.cur m).size=0→ajQ S d path m
 mv:op=3→∀d m d2:Nat,m<S.names→aW S.cur S.data 0 0 (splitB path)=((d:Int),(m:Int),0)→¬(aF S.cur m).kind=1→(aW S.cur S.data 0 0 (splitB tz))=((d2:Int), -1,0)→afC S d d2 path tz m
 ln:op=4→∀d m d2:Nat,m<S.names→aW S.cur S.data 0 0 (splitB path)=((d:Int),(m:Int),0)→¬(aF S.cur m).kind=1→(aW S.cur S.data 0 0 (splitB tz))=((d2:Int), -1,0)→S.nodes<256→anE S d2 tz m
 un:op=5→∀d m:Nat,m<S.names→aW S.cur S.data 0 0 (splitB path)=((d:Int),(m:Int),0)→¬(aF S.cur m).kind=1→IV S d path m
 wr:op=6→∀d:Nat,aW S.cur S.data 0 0 (splitB path)=((d:Int), -1,0)→S.nodes<256→tN S (⟨2,mode,1,0,[]⟩:VI) bs d path
 cp:op=7→∀d m d2:Nat,m<S.names→aW S.cur S.data 0 0 (splitB path)=((d:Int),(m:Int),0)→¬(aF S.cur m).kind=1→(aW S.cur S.data 0 0 (splitB tz))=((d2:Int), -1,0)→S.nodes<256→(aF S.cur m).size≤512*(aF S.cur m).aB.length∧tN S (⟨2,mode,1,0,[]⟩:VI) (jR S.cur S.data (aF S.cur m)) d2 tz
 ch:op=8→mode≤511→fD S∧∀d m:Nat,m<S.names→aW S.cur S.data 0 0 (splitB path)=((d:Int),(m:Int),0)→mG S (aeZ S m mode)
def AB (op:Int) (path tz:List UInt8) (mode kk:Int) (n:Nat) (len:Nat):Int:=nD (bA op).1 (bA op).2.1 (bA op).2.2 op path tz mode kk n len
def doR (S:VS) (op:Int) (path tz:List UInt8) (mode kk:Int) (n:Nat) (bs:List UInt8):Except Int (Option VS):=
 if AB op path tz mode kk n bs.length=0 then IZ S op path tz mode.toNat bs else .error (AB op path tz mode kk n bs.length)
theorem WE {op:Int} (h:(bA op).2.2=true):op=1∨op=2∨op=3∨op=4∨op=5∨op=6∨op=7∨op=8∨op=9:=by
 unfold bA at h;simp only[beq_iff_eq,Bool.or_eq_true]at h
 repeat' split at h
 all_goals first |omega|cases h
theorem anG (op:Int) (path tz:List UInt8) (mode kk:Int) (n len:Nat):AB op path tz mode kk n len≠11:=by
 unfold AB nD
 repeat' split
 all_goals decide
structure awQ (op:Int) (path tz:List UInt8) (mode kk:Int) (n len:Nat):Prop where
 valid:aP path=true
 anH:(bA op).1=true→aP tz=true
 mode:(bA op).2.1=true→0≤mode∧mode≤511
 data:op=6→0≤kk∧kk<n∧len≤8192
theorem OZ {op:Int} {path tz:List UInt8} {mode kk:Int} {n len:Nat} (h:AB op path tz mode kk n len=0):op=9∨((bA op).2.2=true∧op≠9∧awQ op path tz mode kk n len):=by
 unfold AB nD at h;by_cases h1:(bA op).2.2=false
 ·rw[if_pos h1]at h;cases h
 rw[if_neg h1]at h;by_cases h2:(op==9)=true
 ·exact .inl (by simpa using h2)
 rw[if_neg h2]at h;right;by_cases h3:(bA op).2.1=true∧(mode<0∨511<mode)
 ·rw[if_pos h3]at h;cases h
 rw[if_neg h3]at h;by_cases h4:(path==[])=true∨((bA op).1=true∧(tz==[])=true)
 ·rw[if_pos h4]at h;cases h
 rw[if_neg h4]at h;by_cases h5:aP path=false∨((bA op).1=true∧aP tz=false)
 ·rw[if_pos h5]at h;cases h
 rw[if_neg h5]at h;refine⟨by simpa using h1,by simpa using h2,?_,?_,?_,?_⟩
 ·cases hv:aP path with
  |true=>rfl
  |false=>exact absurd (.inl hv) h5
 ·intro hf;cases hv:aP tz with
  |true=>rfl
  |false=>exact absurd (.inr ⟨hf,hv⟩) h5
 ·intro hf;refine⟨?_,?_⟩
  ·by_cases hm:mode<0
   ·exact absurd ⟨hf,.inl hm⟩ h3
   omega
  by_cases hm:511<mode
  ·exact absurd ⟨hf,.inr hm⟩ h3
  omega
 intro h6;subst h6;rw[if_neg (by decide)]at h;by_cases h7:kk<0∨(n:Int)≤kk
 ·rw[if_pos h7]at h;cases h
 rw[if_neg h7]at h;by_cases h8:8192<len
 ·rw[if_pos h8]at h;cases h
 omega
theorem wZ (c:dW) (d:Nat):∀(l:List (List UInt8)) (dir n:Nat),(aW c d dir n l).2.2=0∨(aW c d dir n l).2.2=21∨(aW c d dir n l).2.2=22
 |[],_,_=>.inl rfl
 |name::l,dir,n=>by
  unfold aW;by_cases h1:(aF c n).kind=1
  ·rw[if_pos h1];by_cases h2:0≤(iR (iJ c d (aF c n)) name).1
   ·rw[if_pos h2];exact wZ c d l _ _
   rw[if_neg h2];split
   ·exact .inl rfl
   exact .inr (.inl rfl)
  rw[if_neg h1];exact .inr (.inr rfl)
def vR (k:Int):Prop:=k=21∨k=22∨k=23∨k=24∨k=25∨k=31
theorem oK {c:dW} {d:Nat} {l:List (List UInt8)} {k:Int} (h:iF (aW c d 0 0 l)=some k):vR k:=by
 unfold iF at h;have:=wZ c d l 0 0;unfold vR;split at h
 ·split at h
  ·cases h
  cases h;omega
 cases h;omega
theorem pV {c:dW} {d:Nat} {l:List (List UInt8)} {k:Int} (h:eD (aW c d 0 0 l)=some k):vR k:=by
 unfold eD at h;have:=wZ c d l 0 0;unfold vR;split at h
 ·split at h
  ·cases h;omega
  cases h
 cases h;omega
theorem xA {b c:dW} {d:Nat} {l:List (List UInt8)} {k:Int} (h:qR b (aW c d 0 0 l)=some k):vR k:=by
 unfold qR at h;have:=wZ c d l 0 0;unfold vR;split at h
 ·split at h
  ·cases h;omega
  split at h
  ·cases h;omega
  cases h
 cases h;omega
theorem SH {S:VS} {path:List UInt8} {x:VI} {bs:List UInt8} {k:Int} (h:IQ S path x bs= .error k):vR k:=by
 unfold IQ at h;split at h
 ·rename_i h1;cases h;exact oK h1
 split at h
 ·cases h
 cases h;unfold vR;omega
theorem AJ {S:VS} {op:Int} {path tz:List UInt8} {mode:Nat} {bs:List UInt8} {k:Int} (h:IZ S op path tz mode bs= .error k):(k=0∧op≠1∧op≠2∧op≠3∧op≠4∧op≠5∧op≠6∧op≠7∧op≠8)∨vR k:=by
 unfold IZ at h;by_cases h1:op=1
 ·rw[if_pos h1]at h;exact .inr (SH h)
 rw[if_neg h1]at h;by_cases h2:op=2
 ·rw[if_pos h2]at h;right;unfold afD at h;split at h
  ·rename_i h1;cases h;exact pV h1
  split at h
  ·cases h;unfold vR;omega
  split at h
  ·cases h;unfold vR;omega
  cases h
 rw[if_neg h2]at h;by_cases h3:op=3
 ·rw[if_pos h3]at h;right;unfold YQ at h;split at h
  ·rename_i h1;cases h;exact xA h1
  split at h
  ·rename_i h1;cases h;exact oK h1
  cases h
 rw[if_neg h3]at h;by_cases h4:op=4
 ·rw[if_pos h4]at h;right;unfold al6 at h;split at h
  ·rename_i h1;cases h;exact xA h1
  split at h
  ·rename_i h1;cases h;exact oK h1
  split at h
  ·cases h
  cases h;unfold vR;omega
 rw[if_neg h4]at h;by_cases h5:op=5
 ·rw[if_pos h5]at h;right;unfold zZ at h;split at h
  ·rename_i h1;cases h;exact xA h1
  cases h
 rw[if_neg h5]at h;by_cases h6:op=6
 ·rw[if_pos h6]at h;exact .inr (SH h)
 rw[if_neg h6]at h;by_cases h7:op=7
 ·rw[if_pos h7]at h;right;unfold arP at h;split at h
  ·rename_i h1;cases h;exact xA h1
  split at h
  ·rename_i h1;cases h;exact oK h1
  split at h
  ·cases h
  cases h;unfold vR;omega
 rw[if_neg h7]at h;by_cases h8:op=8
 ·rw[if_pos h8]at h;right;unfold afA at h;split at h
  ·rename_i h1;cases h;exact pV h1
  cases h
 rw[if_neg h8]at h;cases h;exact .inl ⟨rfl,h1,h2,h3,h4,h5,h6,h7,h8⟩
theorem SI {S:VS} {op:Int} {path tz:List UInt8} {mode:Nat} {bs:List UInt8}:ajT (IZ S op path tz mode bs):=fun k h=>by have:=AJ h;unfold vR at this;omega
theorem O0 :∀args w,(callFunc 45 args).run Tryz.prog w= .ok (.enter 45 args) w:=Go.Proofs.enters_of Tryz.func45 (by kernel_rfl) rfl
theorem KW :∀args w,(callFunc 49 args).run Tryz.prog w= .ok (.enter 49 args) w:=Go.Proofs.enters_of Tryz.func49 (by kernel_rfl) rfl
theorem O1 :∀args w,(callFunc 50 args).run Tryz.prog w= .ok (.enter 50 args) w:=Go.Proofs.enters_of Tryz.func50 (by kernel_rfl) rfl
theorem SL :∀args w,(callFunc 53 args).run Tryz.prog w= .ok (.enter 53 args) w:=Go.Proofs.enters_of Tryz.func53 (by kernel_rfl) rfl
section
variable {w0 w:World} {R:List aU} {f q p:Nat} {S:VS}
theorem anI {r:Except Int (Option VS)} {R:List aU} {e:Ending} (hz:∀k,r= .error k→k≠0) (h:vO f q p S r w0 R e w):opD f q p S r w0 R e w:=by
 match r with
 | .error k=>obtain⟨he,a',hC,hS⟩:=h;exact⟨by rw[if_neg (hz k rfl)];exact he,a',hC,hS⟩
 | .ok r=>exact h
theorem O3 {r:Except Int (Option VS)} {R:List aU} {e:Ending} (hz:∀k,r= .error k→vR k) (h:vO f q p S r w0 R e w):opD f q p S r w0 R e w:=
 anI (fun k hk=>by have:=hz k hk;unfold vR at this;omega) h
theorem afK {op mode kk:Int} {path tz bs:List UInt8} {A:Option Addr} {n c:Nat} (hp:path.length≤9223372036854775807) (ht:tz.length≤9223372036854775807) (hn:n≤9223372036854775807) (hlen:bs.length≤9223372036854775807)
  (ho:S.D.off=false) (KX:op=1∨op=5∨op=6) (hst:AA w0 R A n kk bs) (hV:VW S.base) (hOk:AB op path tz mode kk n bs.length=0→amA S.base op path tz mode.toNat bs) (h:Sep w0 w (bJ f q p S::R)):
  Calls Tryz.prog 14 #[.pointer (some ⟨f,0,none⟩),.agg #[.int .i64 op,aM path,aM tz,.int .i64 mode,.int .i64 kk],.slice A n c] w fun e w'=>∃x,e= .returned (.int .i64 x)∧rD f q p S.base (doR S.base op path tz mode kk n bs) w0 w' R x:=by
 have hop: -9223372036854775808≤op∧op≤9223372036854775807:=by omega
 have afJ:=anG op path tz mode kk n bs.length;unfold doR;by_cases h0:AB op path tz mode kk n bs.length=0
 ·have hA:=hOk h0;have go:∀DU:FuncId,getM (nE f) (.int .i64 op)=some (.func (.func DU) #[.pointer (some ⟨f,0,none⟩)] #[])→(∀args w,(callFunc DU args).run Tryz.prog w= .ok (.enter DU args) w)→
    (∀W a X,VC S.base a→S.base.D.back=[]→Sep w0 W (aG f q p S.base a::(X++R))→Calls Tryz.prog DU #[.pointer (some ⟨f,0,none⟩),.agg #[.int .i64 op,aM path,aM tz,.int .i64 mode,.int .i64 kk],.slice A n c] W (opD f q p S.base (IZ S.base op path tz mode.toNat bs) w0 (X++R)))→
    Calls Tryz.prog 14 #[.pointer (some ⟨f,0,none⟩),.agg #[.int .i64 op,aM path,aM tz,.int .i64 mode,.int .i64 kk],.slice A n c] w fun e w'=>∃x,e= .returned (.int .i64 x)∧rD f q p S.base (if AB op path tz mode kk n bs.length=0 then IZ S.base op path tz mode.toNat bs else .error (AB op path tz mode kk n bs.length)) w0 w' R x:=
   fun DU hrow hent hdo=>YT (ck:=AB op path tz mode kk n bs.length) hp ht (by omega) hlen ho hop rfl (fun _=>hrow) hent hst SI afJ (fun _=>hdo) h
  rcases OZ h0 with h9|⟨hf,h9,hk⟩
  ·exfalso;omega
  (have hmn:(bA op).2.1=true→((mode.toNat:Nat):Int)=mode:=fun hm=>Int.toNat_of_nonneg (hk.mode hm).1);rcases KX with rfl|rfl|rfl
  ·have hm:=hmn rfl;(refine go _ rfl O0 fun W a X hC hb hS=>?_);rw[←hm];exact(aa0 hC hV hb hk.valid (kG hk.valid) (hA.mkd rfl) hS).mono fun e w' hd=>O3 (fun k hk=>(AJ (op:=1) (path:=path) (tz:=tz) (mode:=mode.toNat) (bs:=bs) hk).resolve_left fun e0=>e0.2.1 rfl) hd
  ·(refine go _ rfl KW fun W a X hC hb hS=>?_);exact(WA hC hV hb hk.valid (kG hk.valid) (hA.un rfl) hS).mono fun e w' hd=>O3 (fun k hk=>(AJ (op:=5) (path:=path) (tz:=tz) (mode:=mode.toNat) (bs:=bs) hk).resolve_left fun e0=>e0.2.2.2.2.2.1 rfl) hd
  have hm:=hmn rfl;(refine go _ rfl O1 fun W a X hC hb hS=>?_);rw[←hm];obtain⟨h6a,h6b,h6c⟩:=hk.data rfl;obtain⟨j,rfl⟩:∃j:Nat,kk=j:=⟨kk.toNat,by omega⟩;obtain⟨sa,B,cc,rfl,hcl,htl⟩:=hst j rfl (by omega);(have awR:∀W Y,Sep w0 W (Y++(X++R))→W.cell? (sa.add j)=some (.slice B bs.length cc):=fun W Y hY=>hcl W (Y++X) (by rw[List.append_assoc];exact hY));exact(aa1 hC hV hb hk.valid (kG hk.valid) awR (by omega) (by omega) (fun W Y hY=>htl W (Y++X) (by rw[List.append_assoc];exact hY)) (hA.wr rfl) hS).mono fun e w' hd=>O3 (fun k hk=>(AJ (op:=6) (path:=path) (tz:=tz) (mode:=mode.toNat) (bs:=bs) hk).resolve_left fun e0=>e0.2.2.2.2.2.2.1 rfl) hd
 exact YT (DU:=53) (ck:=AB op path tz mode kk n bs.length) (r:=IZ S.base op path tz mode.toNat bs) hp ht (by omega) hlen ho hop rfl (fun e=>absurd e h0) SL hst SI afJ (fun e=>absurd e h0) h
end
end Go.Proofs.YteihmbaimbogaaaGreat
