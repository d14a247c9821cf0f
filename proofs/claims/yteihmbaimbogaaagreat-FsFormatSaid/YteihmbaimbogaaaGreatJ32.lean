/- FuY, FuZ, laid together. -/
import Derived.Test.YteihmbaimbogaaaGreatJ31
namespace Go.Proofs.YteihmbaimbogaaaGreat
open Go.RowKit
set_option linter.unusedVariables false
set_option linter.unusedSimpArgs false
def opD (f q p:Nat) (S:VS) (r:Except Int (Option VS)) (w0:World) (R:List Asn) (e:Ending) (w':World):Prop:=
 match r with
 | .error k=>e=(if k=0 then .returned (.tuple #[])else .panicked (stopF k))∧∃a',VC S a'∧Sep w0 w' (volR f q p S a'::R)
 | .ok r=>changeOut f q p S r w0 R e w'
def endS (f q p:Nat) (S:VS) (r:Except Int (Option VS)) (w0 w:World) (R:List Asn) (x:Int):Prop:=
 match r with
 | .error k=>x=k∧Sep w0 w (restR f q p S::R)
 | .ok none=>x=27∧Sep w0 w (restR f q p S::R)
 | .ok (some S1)=>
  if fitsP S1=true then
   if S1.commit.2=true then x=0∧Sep w0 w (restR f q p S1.settled::R)
   else x=11∧Sep w0 w (goneR f q p true::diskR p S1.commit.1::R)
  else x=27∧Sep w0 w (restR f q p S::R)
def powR (r:Except Int (Option VS)):Prop:=∀k,r= .error k→k≠11
section
variable {w0 w:World} {R:List Asn} {f q p:Nat} {S:VS} {a:VA}
theorem rest_any {fo:Option Nat} (hC:VC S a) (hb:S.D.back=[]) (h:Sep w0 w (fsB f q S a.sb (.map fo) false::ledgerR q p false::diskR p S.D::seenR a.sb a.SM::R)):Sep w0 w (restR f q p S::R):=
 undone_rest ⟨rfl,rfl,rfl,rfl,rfl⟩ hC hb h
theorem vol_rest0 (hC:VC S a) (hb:S.D.back=[]) (h:Sep w0 w (volR f q p S a::R)):Sep w0 w (restR f q p S::R):=by have h1:=h.starL_open;have h2:Sep w0 w (blkM a.fb a.FM::fsB f q S a.sb (.map (some a.fb)) false::ledgerR q p false::diskR p S.D::seenR a.sb a.SM::R):=Sep.sel [4,0,1,2,3] h1 (by decide) (by simp[volP]);exact rest_any hC hb (h2.drop 1)
theorem told_vol {be:Nat} {fn:Func} {tmps:Array Value} {Post:Ending→World→Prop} {ds:List Deferred} {k y:Int} (hC:VC S a) (hb:S.D.back=[]) (hk:k≠11) (h:Sep w0 w (volR f q p S a::errBox be y::R))
  (hK:∀w',Sep w0 w' (restR f q p S::errBox be k::R)→Leaves Tryz.prog fn tmps Post ds .returning w'):
  Leaves Tryz.prog fn tmps Post ({target:=.fn (.func 41) #[],args:=#[.pointer (some ⟨f,0,none⟩),.pointer (some ⟨be,0,none⟩)]}::ds) (.panicking (stopF k)) w:=by
 have h1:=h.starL_open;have h2:Sep w0 w (blkM a.fb a.FM::fsB f q S a.sb (.map (some a.fb)) false::errBox be y::ledgerR q p false::diskR p S.D::seenR a.sb a.SM::R):=Sep.sel [4,0,5,1,2,3] h1 (by decide) (by simp[volP]);refine told_door (h2.drop 1) fun w' hS=>hK w' ?_
 rw[decide_eq_false hk,Bool.false_or]at hS;exact rest_any hC hb (Sep.sel [0,2,3,4,1] hS (by decide) (by simp))
theorem told_rest {be:Nat} {fn:Func} {tmps:Array Value} {Post:Ending→World→Prop} {ds:List Deferred} {k y:Int} (hk:k≠11) (h:Sep w0 w (restR f q p S::errBox be y::R))
  (hK:∀w',Sep w0 w' (restR f q p S::errBox be k::R)→Leaves Tryz.prog fn tmps Post ds .returning w'):
  Leaves Tryz.prog fn tmps Post ({target:=.fn (.func 41) #[],args:=#[.pointer (some ⟨f,0,none⟩),.pointer (some ⟨be,0,none⟩)]}::ds) (.panicking (stopF k)) w:=by
 obtain⟨sb,SM,fo,hR,h1⟩:=h.rest_open;refine told_door (Sep.sel [0,4,1,2,3] h1 (by decide) (by simp)) fun w' hS=>hK w' ?_
 rw[decide_eq_false hk,Bool.false_or]at hS;exact Sep.rest_shut hR (Sep.sel [0,2,3,4,1] hS (by decide) (by simp))
theorem told_gone {be:Nat} {fn:Func} {tmps:Array Value} {Post:Ending→World→Prop} {ds:List Deferred} {dead:Bool} {y:Int} (h:Sep w0 w (goneR f q p dead::errBox be y::R))
  (hK:∀w',Sep w0 w' (goneR f q p true::errBox be 11::R)→Leaves Tryz.prog fn tmps Post ds .returning w'):
  Leaves Tryz.prog fn tmps Post ({target:=.fn (.func 41) #[],args:=#[.pointer (some ⟨f,0,none⟩),.pointer (some ⟨be,0,none⟩)]}::ds) (.panicking (stopF 11)) w:=by
 obtain⟨S,sb,fo,h1⟩:=h.gone_open;refine told_door (Sep.sel [0,2,1] h1 (by decide) (by simp)) fun w' hS=>hK w' ?_
 rw[decide_eq_true (rfl:(11:Int)=11),Bool.true_or]at hS;exact(Sep.sel [0,2,1] hS (by decide) (by simp):Sep w0 w' (fsB f q S sb (.map fo) true::ledgerR q p true::errBox be 11::R)).gone_shut
theorem told_opD {be:Nat} {fn:Func} {tmps:Array Value} {Post:Ending→World→Prop} {ds:List Deferred} {r:Except Int (Option VS)} {ps:List PanicEntry} (hb:S.D.back=[]) (hp:powR r) (h:opD f q p S r w0 (errBox be 0::R) (.panicked ps) w)
  (hK:∀w' x,endS f q p S r w0 w' (errBox be x::R) x→Leaves Tryz.prog fn tmps Post ds .returning w'):
  Leaves Tryz.prog fn tmps Post ({target:=.fn (.func 41) #[],args:=#[.pointer (some ⟨f,0,none⟩),.pointer (some ⟨be,0,none⟩)]}::ds) (.panicking ps) w:=by
 match r with
 | .error k=>
  obtain⟨he,a',hC,hS⟩:=h;by_cases hk:k=0
  ·rw[if_pos hk]at he;cases he
  rw[if_neg hk]at he;cases he;exact told_vol hC hb (hp k rfl) hS fun w' hw=>hK w' k ⟨rfl,hw⟩
 | .ok none=>obtain⟨he,hS⟩:=h;cases he;exact told_rest (by decide) hS fun w' hw=>hK w' 27 ⟨rfl,hw⟩
 | .ok (some S1)=>
  unfold opD changeOut at h;simp only at h;by_cases h1:fitsP S1=true
  ·rw[if_pos h1]at h;by_cases h2:S1.commit.2=true
   ·rw[if_pos h2]at h;cases h.1
   rw[if_neg h2]at h;obtain⟨he,hS⟩:=h;cases he;(refine told_gone (Sep.sel [0,2,1] hS (by decide) (by simp)) fun w' hw=>hK w' 11 ?_);unfold endS;simp only;rw[if_pos h1,if_neg h2];exact⟨trivial,Sep.sel [0,2,1] hw (by decide) (by simp)⟩
  rw[if_neg h1]at h;obtain⟨he,hS⟩:=h;cases he;(refine told_rest (by decide) hS fun w' hw=>hK w' 27 ?_);unfold endS;simp only;rw[if_neg h1];exact⟨trivial,hw⟩
theorem opD_ret {be:Nat} {r:Except Int (Option VS)} {v:Value} (hb:S.D.back=[]) (h:opD f q p S r w0 (errBox be 0::R) (.returned v) w):
  v= .tuple #[]∧endS f q p S r w0 w (errBox be 0::R) 0:=by
 match r with
 | .error k=>
  obtain⟨he,a',hC,hS⟩:=h;by_cases hk:k=0
  ·rw[if_pos hk]at he;cases he;subst hk;exact⟨rfl,rfl,vol_rest0 hC hb hS⟩
  rw[if_neg hk]at he;cases he
 | .ok none=>cases h.1
 | .ok (some S1)=>
  unfold opD changeOut at h;simp only at h;by_cases h1:fitsP S1=true
  ·rw[if_pos h1]at h;by_cases h2:S1.commit.2=true
   ·rw[if_pos h2]at h;obtain⟨he,hS⟩:=h;cases he;refine⟨rfl,?_⟩;unfold endS;simp only;rw[if_pos h1,if_pos h2];exact⟨trivial,hS⟩
   rw[if_neg h2]at h;cases h.1
  rw[if_neg h1]at h;cases h.1
theorem opD_ends {r:Except Int (Option VS)} {R:List Asn} {e:Ending} (h:opD f q p S r w0 R e w):e= .returned (.tuple #[])∨∃k,e= .panicked (stopF k):=by
 match r with
 | .error k=>
  obtain⟨he,_⟩:=h;by_cases hk:k=0
  ·rw[if_pos hk]at he;exact .inl he
  rw[if_neg hk]at he;exact .inr ⟨k,he⟩
 | .ok r=>exact change_ends h
theorem endS_part {r:Except Int (Option VS)} {x:Int} (h:endS f q p S r w0 w R x):∃Y,Sep w0 w (Y++R):=by
 match r with
 | .error k=>exact⟨[_],h.2⟩
 | .ok none=>exact⟨[_],h.2⟩
 | .ok (some S1)=>
  unfold endS at h;simp only at h;split at h
  ·split at h
   ·exact⟨[_],h.2⟩
   exact⟨[_,_],h.2⟩
  exact⟨[_],h.2⟩
theorem endS_map {r:Except Int (Option VS)} {x:Int} {R':List Asn} {w':World} (h:endS f q p S r w0 w R x) (hm:∀Y,Sep w0 w (Y++R)→Sep w0 w' (Y++R')):endS f q p S r w0 w' R' x:=by
 match r with
 | .error k=>exact⟨h.1,hm [_] h.2⟩
 | .ok none=>exact⟨h.1,hm [_] h.2⟩
 | .ok (some S1)=>
  unfold endS at*;simp only at*;split
  ·rename_i h1;rw[if_pos h1]at h;split
   ·rename_i h2;rw[if_pos h2]at h;exact⟨h.1,hm [_] h.2⟩
   rename_i h2;rw[if_neg h2]at h;exact⟨h.1,hm [_,_] h.2⟩
  rename_i h1;rw[if_neg h1]at h;exact⟨h.1,hm [_] h.2⟩
end
def doRows (f:Nat):List (Lit×Value):=[(.int .i64 1,.func (.func 45) #[.pointer (some ⟨f,0,none⟩)] #[]),(.int .i64 2,.func (.func 46) #[.pointer (some ⟨f,0,none⟩)] #[]),
 (.int .i64 3,.func (.func 47) #[.pointer (some ⟨f,0,none⟩)] #[]),(.int .i64 4,.func (.func 48) #[.pointer (some ⟨f,0,none⟩)] #[]),(.int .i64 5,.func (.func 49) #[.pointer (some ⟨f,0,none⟩)] #[]),
 (.int .i64 6,.func (.func 50) #[.pointer (some ⟨f,0,none⟩)] #[]),(.int .i64 7,.func (.func 51) #[.pointer (some ⟨f,0,none⟩)] #[]),(.int .i64 8,.func (.func 52) #[.pointer (some ⟨f,0,none⟩)] #[]),(.int .i64 9,.func (.func 53) #[.pointer (some ⟨f,0,none⟩)] #[])]
theorem zero_row9 (w:World):(zeroValue 93).run Tryz.prog w= .ok .nilFunc w:=by kernel_rfl
section
variable {w0 w:World} {R:List Asn} {f q p:Nat} {S:VS} {a:VA}
def insB (b:Nat) (op:Int) (path tz:List UInt8) (mode kk:Int):Asn:=.box b 38 #[.int .i64 op,strV path,strV tz,.int .i64 mode,.int .i64 kk]
theorem Sep.mapsF (h:Sep w0 w R):∃w1 w2 w3 w4 w5 w6 w7 w8 w9,
  (Instr.mapUpdate 94 (.map (some w.heap.size)) (.int .i64 1) (.func (.func 45) #[.pointer (some ⟨f,0,none⟩)] #[])).run Tryz.prog (w.alloc (.map #[] 0))= .ok () w1∧
  (Instr.mapUpdate 94 (.map (some w.heap.size)) (.int .i64 2) (.func (.func 46) #[.pointer (some ⟨f,0,none⟩)] #[])).run Tryz.prog w1= .ok () w2∧
  (Instr.mapUpdate 94 (.map (some w.heap.size)) (.int .i64 3) (.func (.func 47) #[.pointer (some ⟨f,0,none⟩)] #[])).run Tryz.prog w2= .ok () w3∧
  (Instr.mapUpdate 94 (.map (some w.heap.size)) (.int .i64 4) (.func (.func 48) #[.pointer (some ⟨f,0,none⟩)] #[])).run Tryz.prog w3= .ok () w4∧
  (Instr.mapUpdate 94 (.map (some w.heap.size)) (.int .i64 5) (.func (.func 49) #[.pointer (some ⟨f,0,none⟩)] #[])).run Tryz.prog w4= .ok () w5∧
  (Instr.mapUpdate 94 (.map (some w.heap.size)) (.int .i64 6) (.func (.func 50) #[.pointer (some ⟨f,0,none⟩)] #[])).run Tryz.prog w5= .ok () w6∧
  (Instr.mapUpdate 94 (.map (some w.heap.size)) (.int .i64 7) (.func (.func 51) #[.pointer (some ⟨f,0,none⟩)] #[])).run Tryz.prog w6= .ok () w7∧
  (Instr.mapUpdate 94 (.map (some w.heap.size)) (.int .i64 8) (.func (.func 52) #[.pointer (some ⟨f,0,none⟩)] #[])).run Tryz.prog w7= .ok () w8∧
  (Instr.mapUpdate 94 (.map (some w.heap.size)) (.int .i64 9) (.func (.func 53) #[.pointer (some ⟨f,0,none⟩)] #[])).run Tryz.prog w8= .ok () w9∧
  Sep w0 w9 (gmR 3 w.heap.size (doRows f)::R):=by
 have hM0:=h.gm_new 3;obtain⟨w1,r1,hM1⟩:=hM0.gm_put 0 rfl keyed_int Tryz.underlying94 (by show(0:Nat)<maxLen;decide) (v:=.func (.func 45) #[.pointer (some ⟨f,0,none⟩)] #[]) (keyOf_blk 1 (by decide));replace hM1:Sep w0 w1 (gmR 3 w.heap.size ((doRows f).take 1)::R):=hM1;obtain⟨w2,r2,hM2⟩:=hM1.gm_put 0 rfl keyed_int Tryz.underlying94 (by show(1:Nat)<maxLen;decide) (v:=.func (.func 46) #[.pointer (some ⟨f,0,none⟩)] #[]) (keyOf_blk 2 (by decide));replace hM2:Sep w0 w2 (gmR 3 w.heap.size ((doRows f).take 2)::R):=hM2;obtain⟨w3,r3,hM3⟩:=hM2.gm_put 0 rfl keyed_int Tryz.underlying94 (by show(2:Nat)<maxLen;decide) (v:=.func (.func 47) #[.pointer (some ⟨f,0,none⟩)] #[]) (keyOf_blk 3 (by decide));replace hM3:Sep w0 w3 (gmR 3 w.heap.size ((doRows f).take 3)::R):=hM3;obtain⟨w4,r4,hM4⟩:=hM3.gm_put 0 rfl keyed_int Tryz.underlying94 (by show(3:Nat)<maxLen;decide) (v:=.func (.func 48) #[.pointer (some ⟨f,0,none⟩)] #[]) (keyOf_blk 4 (by decide));replace hM4:Sep w0 w4 (gmR 3 w.heap.size ((doRows f).take 4)::R):=hM4;obtain⟨w5,r5,hM5⟩:=hM4.gm_put 0 rfl keyed_int Tryz.underlying94 (by show(4:Nat)<maxLen;decide) (v:=.func (.func 49) #[.pointer (some ⟨f,0,none⟩)] #[]) (keyOf_blk 5 (by decide));replace hM5:Sep w0 w5 (gmR 3 w.heap.size ((doRows f).take 5)::R):=hM5;obtain⟨w6,r6,hM6⟩:=hM5.gm_put 0 rfl keyed_int Tryz.underlying94 (by show(5:Nat)<maxLen;decide) (v:=.func (.func 50) #[.pointer (some ⟨f,0,none⟩)] #[]) (keyOf_blk 6 (by decide));replace hM6:Sep w0 w6 (gmR 3 w.heap.size ((doRows f).take 6)::R):=hM6;obtain⟨w7,r7,hM7⟩:=hM6.gm_put 0 rfl keyed_int Tryz.underlying94 (by show(6:Nat)<maxLen;decide) (v:=.func (.func 51) #[.pointer (some ⟨f,0,none⟩)] #[]) (keyOf_blk 7 (by decide));replace hM7:Sep w0 w7 (gmR 3 w.heap.size ((doRows f).take 7)::R):=hM7;obtain⟨w8,r8,hM8⟩:=hM7.gm_put 0 rfl keyed_int Tryz.underlying94 (by show(7:Nat)<maxLen;decide) (v:=.func (.func 52) #[.pointer (some ⟨f,0,none⟩)] #[]) (keyOf_blk 8 (by decide));replace hM8:Sep w0 w8 (gmR 3 w.heap.size ((doRows f).take 8)::R):=hM8;obtain⟨w9,r9,hM9⟩:=hM8.gm_put 0 rfl keyed_int Tryz.underlying94 (by show(8:Nat)<maxLen;decide) (v:=.func (.func 53) #[.pointer (some ⟨f,0,none⟩)] #[]) (keyOf_blk 9 (by decide));replace hM9:Sep w0 w9 (gmR 3 w.heap.size ((doRows f).take 9)::R):=hM9;exact⟨w1,w2,w3,w4,w5,w6,w7,w8,w9,r1,r2,r3,r4,r5,r6,r7,r8,r9,hM9⟩
def StockIn (w0:World) (R:List Asn) (A:Option Addr) (n:Nat) (kk:Int) (bs:List UInt8):Prop:=
 ∀k:Nat,kk=k→k<n→∃sa B cc,A=some sa∧(∀W Y,Sep w0 W (Y++R)→W.cell? (sa.add k)=some (.slice B bs.length cc))∧Tells w0 R (.slice B bs.length cc) bs
set_option maxRecDepth 100000 in
set_option maxHeartbeats 8000000 in
theorem do_walk {fid:FuncId} {op mode kk ck:Int} {path tz bs:List UInt8} {A:Option Addr} {n c:Nat} {r:Except Int (Option VS)} (hp:path.length≤9223372036854775807) (ht:tz.length≤9223372036854775807) (hn:n≤9223372036854775807) (hlen:bs.length≤9223372036854775807)
  (ho:S.D.off=false) (hop: -9223372036854775808≤op∧op≤9223372036854775807) (hck:ck=checkB (fieldsP op).1 (fieldsP op).2.1 (fieldsP op).2.2 op path tz mode kk n bs.length)
  (hrow:ck=0→getM (doRows f) (.int .i64 op)=some (.func (.func fid) #[.pointer (some ⟨f,0,none⟩)] #[])) (hent:∀args w,(callFunc fid args).run Tryz.prog w= .ok (.enter fid args) w) (hst:StockIn w0 R A n kk bs) (hpr:powR r) (hc11:ck≠11)
  (hdo:ck=0→∀W a X,VC S.base a→S.base.D.back=[]→Sep w0 W (volR f q p S.base a::(X++R))→Calls Tryz.prog fid #[.pointer (some ⟨f,0,none⟩),.agg #[.int .i64 op,strV path,strV tz,.int .i64 mode,.int .i64 kk],.slice A n c] W (opD f q p S.base r w0 (X++R)))
  (h:Sep w0 w (restR f q p S::R)):
  Calls Tryz.prog 14 #[.pointer (some ⟨f,0,none⟩),.agg #[.int .i64 op,strV path,strV tz,.int .i64 mode,.int .i64 kk],.slice A n c] w fun e w'=>∃x,e= .returned (.int .i64 x)∧endS f q p S.base (if ck=0 then r else .error ck) w0 w' R x:=by
 have hb:S.base.D.back=[]:=by obtain⟨_,_,_,hR,_⟩:=h.rest_open;exact hR.back
 obtain⟨bi,hbi⟩:∃b,b=w.heap.size:=⟨_,rfl⟩;have h1:Sep w0 ((w.alloc (.cells #[.int .i64 op,strV path,strV tz,.int .i64 mode,.int .i64 kk] 38)).alloc (.cells #[.int .i64 0] 39)) (restR f q p S::errBox (bi+1) 0::insB bi op path tz mode kk::R):=by have:=(h.bN 38 #[.int .i64 op,strV path,strV tz,.int .i64 mode,.int .i64 kk]).bN 39 #[.int .i64 0];rw[World.size_alloc,←hbi]at this;exact Sep.sel [2,0,1] this (by decide) (by simp)
 have haw:=awake_on ho h1;have hcs:Hid (∀W Y,Sep w0 W (Y++insB bi op path tz mode kk::R)→W.cell? ⟨bi,0,none⟩=some (.int .i64 op)∧W.cell? ⟨bi,1,none⟩=some (strV path)∧W.cell? ⟨bi,2,none⟩=some (strV tz)∧W.cell? ⟨bi,3,none⟩=some (.int .i64 mode)∧W.cell? ⟨bi,4,none⟩=some (.int .i64 kk)):=Lh fun W Y hW=>by(have hi:(Y++insB bi op path tz mode kk::R)[Y.length]? =some (insB bi op path tz mode kk):=by simp);exact⟨hW.bC _ hi 0,hW.bC _ hi 1,hW.bC _ hi 2,hW.bC _ hi 3,hW.bC _ hi 4⟩
 have hce:Hid (∀W Y,Sep w0 W (Y++insB bi op path tz mode kk::R)→Calls Tryz.prog 44 #[.agg #[.int .i64 op,strV path,strV tz,.int .i64 mode,.int .i64 kk],.slice A n c] W fun e w'=>e= .returned (.int .i64 ck)∧Below W.heap.size W w'):=Lh fun W Y hW=>by rw[hck];refine check_any op mode kk (A:=A) (n:=n) (c:=c) (len:=bs.length) hp ht W (fun k hk hkn=>?_) hn hlen;obtain⟨sa,B,cc,rfl,h2,_⟩:=hst k hk hkn;refine⟨sa,B,cc,rfl,fun W' hW'=>h2 W' (Y++[insB bi op path tz mode kk]) ?_⟩;have:=hW.pure hW';simpa using this
 have hmm:= @run_makeMap Tryz.prog;have hmf:∀(fn:Fn) (first cap:Array Value) (w:World),(Instr.makeFunc fn first cap).run Tryz.prog w= .ok (.func fn first cap) w:=fun _ _ _ _=>rfl
 have hres:Hid (∀(tm:Array Value) W x Y,tm.getD 6 undef= .pointer (some ⟨bi+1,0,none⟩)→Sep w0 W (Y++errBox (bi+1) x::insB bi op path tz mode kk::R)→(results Tryz.f14 tm).run Tryz.prog W= .ok (.int .i64 x) W):=Lh fun tm W x Y ht hW=>by(have hi:(Y++errBox (bi+1) x::insB bi op path tz mode kk::R)[Y.length]? =some (errBox (bi+1) x):=by simp);have ec:=hW.bC _ hi 0;simp only[gA,gB]at ec;(have ht2:tm[6]?.getD undef= .pointer (some ⟨bi+1,0,none⟩):=by simpa using ht);simp[results,Tryz.results14,go_sem,ht2,asAddr,loadVar,ec]
 have hdr:Hid (∀W (r:Except Int (Option VS)) x y,endS f q p S.base r w0 W (errBox (bi+1) y::insB bi op path tz mode kk::R) x→endS f q p S.base r w0 W R x):=Lh fun W r x y hE=>endS_map hE fun Y hY=>by have h2:Sep w0 W (errBox (bi+1) y::insB bi op path tz mode kk::(Y++R)):=hY.perm (by exact(List.perm_middle.trans (List.Perm.cons _ List.perm_middle)));exact h2.drop 2
 have hfin:Hid (∀(ps:List PanicEntry) W (r:Except Int (Option VS)) (tm:Array Value) (rr:Except Int (Option VS)),powR r→rr=r→tm.getD 6 undef= .pointer (some ⟨bi+1,0,none⟩)→opD f q p S.base r w0 (errBox (bi+1) 0::insB bi op path tz mode kk::R) (.panicked ps) W→
   Leaves Tryz.prog Tryz.f14 tm (fun e w'=>∃x,e= .returned (.int .i64 x)∧endS f q p S.base rr w0 w' R x) [{target:=.fn (.func 41) #[],args:=#[.pointer (some ⟨f,0,none⟩),.pointer (some ⟨bi+1,0,none⟩)]}] (.panicking ps) W):=Lh fun ps W r tm rr hpr hrr ht hD=>by
  subst hrr;(refine told_opD hb hpr hD fun w' x hE=>?_);obtain⟨Y,hY⟩:=endS_part hE;exact⟨_,hres.out tm w' x Y ht hY,x,rfl,hdr.out _ _ _ _ hE⟩
 have hkey:keyOf Tryz.prog 3 (.int .i64 op)=some (.int .i64 op):=Maps.keyOf_int_mk Tryz.underlying3 (by simp[Lit.wf,IntKind.min,IntKind.max,IntKind.signed,IntKind.bits];omega);clear hop;replace hb:=Lh hb;clear hst hn hlen hp ht h h1;by_cases h0:ck=0
 ·rw[if_pos h0];replace hdo:=Lh (hdo h0);replace hrow:=Lh (hrow h0);clear hck hc11;subst h0;obtain⟨st,hst⟩:∃v,v=strV path:=⟨_,rfl⟩;unfold strV at*;rw[hbi]at*
  go_enter_defers Tryz.func14,Tryz.ntmps14
  go_wp2_with(first |(go_at_call 42;refine haw.mono ?_;rintro e w9 ⟨rfl,a9,hC9,h9⟩;have hi9:Sep w0 w9 ([volR f q p S.base a9,errBox (w.heap.size+1) 0]++insB w.heap.size op path tz mode kk::R):=h9;obtain⟨e0,e1,e2,e3,e4⟩:=hcs.out _ _ hi9;have hch:=hce.out _ _ hi9;replace h9:=Lh h9;replace hC9:=Lh hC9;clear hi9 haw hce)|(go_at_call 44;refine hch.mono ?_;rintro e w8 ⟨rfl,hb8⟩;have h8:=h9.out.pure hb8;clear hb8 e0 e1 e2 e3 e4 hch h9)|(go_at_call 43;go_loud (refine(smust_any _ _).mono ?_;rintro e w7 ⟨rfl,h7⟩;obtain rfl:=h7.symm;obtain⟨x1,x2,x3,x4,x5,x6,x7,x8,x9,r1,r2,r3,r4,r5,r6,r7,r8,r9,hM⟩:=h8.mapsF (f:=f);have hM2:Sep w0 x9 ([gmR 3 w8.heap.size (doRows f),volR f q p S.base a9,errBox (w.heap.size+1) 0]++insB w.heap.size op path tz mode kk::R):=hM;obtain⟨e0,e1,e2,e3,e4⟩:=hcs.out _ _ hM2;have hlk:=hM.gm_look 0 rfl keyed_int Tryz.underlying94 (zero_row9 _) (key:=.int .i64 op) (kl:=.int .i64 op) hkey;rw[hrow.out,Option.getD_some]at hlk;have hd:=hdo.out x9 a9 [errBox (w.heap.size+1) 0,insB w.heap.size op path tz mode kk] hC9.out hb.out (hM.drop 1);clear hM2 h8;replace hM:=Lh hM)));refine hd.mono ?_;intro e wz hz;clear hM e0 e1 e2 e3 e4 r1 r2 r3 r4 r5 r6 r7 r8 r9 hlk hd hdo;rcases opD_ends hz with rfl|⟨k,rfl⟩
  ·obtain⟨_,hE⟩:=opD_ret hb.out hz;obtain⟨Y,hY⟩:=endS_part hE;(have hi:(Y++errBox (w.heap.size+1) 0::insB w.heap.size op path tz mode kk::R)[Y.length]? =some (errBox (w.heap.size+1) 0):=by simp);have k1:=hY.bC _ hi 0;have k2:=hY.bF _ hi 0;(have hE2:endS f q p S.base r w0 (wz.setCell ⟨w.heap.size+1,0,none⟩ (.int .i64 0)) (errBox (w.heap.size+1) 0::insB w.heap.size op path tz mode kk::R) 0:=endS_map hE fun Z hZ=>by(have hi2:(Z++errBox (w.heap.size+1) 0::insB w.heap.size op path tz mode kk::R)[Z.length]? =some (errBox (w.heap.size+1) 0):=by simp);have h5:=hZ.bS _ hi2 0 (.int .i64 0);rw[List.set_append_right _ _ (Nat.le_refl _),Nat.sub_self]at h5;exact h5);simp only[gA,gB]at k1;clear hi hY hz;replace hE2:=Lh hE2;clear hE;go_wp2_with fail;refine told_door_ret ?_;obtain⟨Y2,hY2⟩:=endS_part hE2.out;exact⟨_,hres.out _ _ 0 Y2 rfl hY2,0,rfl,hdr.out _ _ _ _ hE2.out⟩
  exact hfin.out _ _ r _ r hpr rfl rfl hz
 rw[if_neg h0];clear hdo hrow hck hent;obtain⟨st,hst⟩:∃v,v=strV path:=⟨_,rfl⟩;unfold strV at*;rw[hbi]at*
 go_enter_defers Tryz.func14,Tryz.ntmps14
 go_wp2_with(first |(go_at_call 42;refine haw.mono ?_;rintro e w9 ⟨rfl,a9,hC9,h9⟩;have hi9:Sep w0 w9 ([volR f q p S.base a9,errBox (w.heap.size+1) 0]++insB w.heap.size op path tz mode kk::R):=h9;obtain⟨e0,e1,e2,e3,e4⟩:=hcs.out _ _ hi9;have hch:=hce.out _ _ hi9;replace h9:=Lh h9;replace hC9:=Lh hC9;clear hi9 haw hce)|(go_at_call 44;refine hch.mono ?_;rintro e w8 ⟨rfl,hb8⟩;have h8:=h9.out.pure hb8;clear hb8 e0 e1 e2 e3 e4 hch h9)|(go_at_call 43;refine(smust_any _ _).mono ?_;rw[if_neg h0];rintro e w7 ⟨rfl,h7⟩;obtain rfl:=h7.symm));refine hfin.out _ _ (.error ck) _ (.error ck) (fun k hk=>by cases hk;exact hc11) rfl rfl ⟨?_,a9,hC9.out,h8⟩;rw[if_neg h0];rfl
end
end Go.Proofs.YteihmbaimbogaaaGreat
