/- FwA, FwB, FwC, FwD, laid together. -/
import Derived.Test.YteihmbaimbogaaaGreatJ32
namespace Go.Proofs.YteihmbaimbogaaaGreat
open Go.RowKit
set_option linter.unusedVariables false
set_option linter.unusedSimpArgs false
def actR (S:VS) (op:Int) (path tz:List UInt8) (mode:Nat) (bs:List UInt8):Except Int (Option VS):=
 if op=1 then newP S path ⟨1,mode,1,0,[]⟩ []
 else if op=2 then rmdirE S path
 else if op=3 then renameE S path tz
 else if op=4 then linkE S path tz
 else if op=5 then unlinkE S path
 else if op=6 then newP S path ⟨2,mode,1,0,[]⟩ bs
 else if op=7 then dupE S path tz mode
 else if op=8 then chmodE S path mode
 else .error 0
structure ActOk (S:VS) (op:Int) (path tz:List UInt8) (mode:Nat) (bs:List UInt8):Prop where
 mkd:op=1→∀d:Nat,lookP S.cur S.data 0 0 (splitB path)=((d:Int), -1,0)→S.nodes<256→MadeOk S (⟨1,mode,1,0,[]⟩:VI) [] d path
 rm:op=2→∀d m:Nat,m<S.names→lookP S.cur S.data 0 0 (splitB path)=((d:Int),(m:Int),0)→(inoP S.cur m).kind=1→(inoP S.cur m).size=0→RmdirOk S d path m
 mv:op=3→∀d m d2:Nat,m<S.names→lookP S.cur S.data 0 0 (splitB path)=((d:Int),(m:Int),0)→¬(inoP S.cur m).kind=1→(lookP S.cur S.data 0 0 (splitB tz))=((d2:Int), -1,0)→RenameOk S d d2 path tz m
 ln:op=4→∀d m d2:Nat,m<S.names→lookP S.cur S.data 0 0 (splitB path)=((d:Int),(m:Int),0)→¬(inoP S.cur m).kind=1→(lookP S.cur S.data 0 0 (splitB tz))=((d2:Int), -1,0)→S.nodes<256→LinkOk S d2 tz m
 un:op=5→∀d m:Nat,m<S.names→lookP S.cur S.data 0 0 (splitB path)=((d:Int),(m:Int),0)→¬(inoP S.cur m).kind=1→UnlinkOk S d path m
 wr:op=6→∀d:Nat,lookP S.cur S.data 0 0 (splitB path)=((d:Int), -1,0)→S.nodes<256→MadeOk S (⟨2,mode,1,0,[]⟩:VI) bs d path
 cp:op=7→∀d m d2:Nat,m<S.names→lookP S.cur S.data 0 0 (splitB path)=((d:Int),(m:Int),0)→¬(inoP S.cur m).kind=1→(lookP S.cur S.data 0 0 (splitB tz))=((d2:Int), -1,0)→S.nodes<256→(inoP S.cur m).size≤512*(inoP S.cur m).spots.length∧MadeOk S (⟨2,mode,1,0,[]⟩:VI) (contentP S.cur S.data (inoP S.cur m)) d2 tz
 ch:op=8→mode≤511→SmallW S∧∀d m:Nat,m<S.names→lookP S.cur S.data 0 0 (splitB path)=((d:Int),(m:Int),0)→ChangeOk S (chmodP S m mode)
def ckP (op:Int) (path tz:List UInt8) (mode kk:Int) (n:Nat) (len:Nat):Int:=checkB (fieldsP op).1 (fieldsP op).2.1 (fieldsP op).2.2 op path tz mode kk n len
def doR (S:VS) (op:Int) (path tz:List UInt8) (mode kk:Int) (n:Nat) (bs:List UInt8):Except Int (Option VS):=
 if ckP op path tz mode kk n bs.length=0 then actR S op path tz mode.toNat bs else .error (ckP op path tz mode kk n bs.length)
theorem fieldsP_op {op:Int} (h:(fieldsP op).2.2=true):op=1∨op=2∨op=3∨op=4∨op=5∨op=6∨op=7∨op=8∨op=9:=by
 unfold fieldsP at h;simp only[beq_iff_eq,Bool.or_eq_true]at h
 repeat' split at h
 all_goals first |omega|cases h
theorem ck_pow (op:Int) (path tz:List UInt8) (mode kk:Int) (n len:Nat):ckP op path tz mode kk n len≠11:=by
 unfold ckP checkB
 repeat' split
 all_goals decide
structure CkOk (op:Int) (path tz:List UInt8) (mode kk:Int) (n len:Nat):Prop where
 valid:validL path=true
 valid2:(fieldsP op).1=true→validL tz=true
 mode:(fieldsP op).2.1=true→0≤mode∧mode≤511
 data:op=6→0≤kk∧kk<n∧len≤8192
theorem ck_zero {op:Int} {path tz:List UInt8} {mode kk:Int} {n len:Nat} (h:ckP op path tz mode kk n len=0):op=9∨((fieldsP op).2.2=true∧op≠9∧CkOk op path tz mode kk n len):=by
 unfold ckP checkB at h;by_cases h1:(fieldsP op).2.2=false
 ·rw[if_pos h1]at h;cases h
 rw[if_neg h1]at h;by_cases h2:(op==9)=true
 ·exact .inl (by simpa using h2)
 rw[if_neg h2]at h;right;by_cases h3:(fieldsP op).2.1=true∧(mode<0∨511<mode)
 ·rw[if_pos h3]at h;cases h
 rw[if_neg h3]at h;by_cases h4:(path==[])=true∨((fieldsP op).1=true∧(tz==[])=true)
 ·rw[if_pos h4]at h;cases h
 rw[if_neg h4]at h;by_cases h5:validL path=false∨((fieldsP op).1=true∧validL tz=false)
 ·rw[if_pos h5]at h;cases h
 rw[if_neg h5]at h;refine⟨by simpa using h1,by simpa using h2,?_,?_,?_,?_⟩
 ·cases hv:validL path with
  |true=>rfl
  |false=>exact absurd (.inl hv) h5
 ·intro hf;cases hv:validL tz with
  |true=>rfl
  |false=>exact absurd (.inr ⟨hf,hv⟩) h5
 ·intro hf;refine⟨?_,?_⟩
  ·by_cases hm:mode<0
   ·exact absurd ⟨hf,.inl hm⟩ h3
   omega
  by_cases hm:511<mode
  ·exact absurd ⟨hf,.inr hm⟩ h3
  omega
 intro h6;subst h6;rw[if_neg (by decide)]at h;by_cases h7:kk<0∨(n:Int)≤kk
 ·rw[if_pos h7]at h;cases h
 rw[if_neg h7]at h;by_cases h8:8192<len
 ·rw[if_pos h8]at h;cases h
 omega
theorem lookP_err (c:Blks) (d:Nat):∀(l:List (List UInt8)) (dir n:Nat),(lookP c d dir n l).2.2=0∨(lookP c d dir n l).2.2=21∨(lookP c d dir n l).2.2=22
 |[],_,_=>.inl rfl
 |name::l,dir,n=>by
  unfold lookP;by_cases h1:(inoP c n).kind=1
  ·rw[if_pos h1];by_cases h2:0≤(lookE (dirL c d (inoP c n)) name).1
   ·rw[if_pos h2];exact lookP_err c d l _ _
   rw[if_neg h2];split
   ·exact .inl rfl
   exact .inr (.inl rfl)
  rw[if_neg h1];exact .inr (.inr rfl)
def errP (k:Int):Prop:=k=21∨k=22∨k=23∨k=24∨k=25∨k=31
theorem nothingE_err {c:Blks} {d:Nat} {l:List (List UInt8)} {k:Int} (h:nothingE (lookP c d 0 0 l)=some k):errP k:=by
 unfold nothingE at h;have:=lookP_err c d l 0 0;unfold errP;split at h
 ·split at h
  ·cases h
  cases h;omega
 cases h;omega
theorem somethingE_err {c:Blks} {d:Nat} {l:List (List UInt8)} {k:Int} (h:somethingE (lookP c d 0 0 l)=some k):errP k:=by
 unfold somethingE at h;have:=lookP_err c d l 0 0;unfold errP;split at h
 ·split at h
  ·cases h;omega
  cases h
 cases h;omega
theorem fileE_err {b c:Blks} {d:Nat} {l:List (List UInt8)} {k:Int} (h:fileE b (lookP c d 0 0 l)=some k):errP k:=by
 unfold fileE at h;have:=lookP_err c d l 0 0;unfold errP;split at h
 ·split at h
  ·cases h;omega
  split at h
  ·cases h;omega
  cases h
 cases h;omega
theorem newP_err {S:VS} {path:List UInt8} {x:VI} {bs:List UInt8} {k:Int} (h:newP S path x bs= .error k):errP k:=by
 unfold newP at h;split at h
 ·rename_i h1;cases h;exact nothingE_err h1
 split at h
 ·cases h
 cases h;unfold errP;omega
theorem actR_err {S:VS} {op:Int} {path tz:List UInt8} {mode:Nat} {bs:List UInt8} {k:Int} (h:actR S op path tz mode bs= .error k):(k=0∧op≠1∧op≠2∧op≠3∧op≠4∧op≠5∧op≠6∧op≠7∧op≠8)∨errP k:=by
 unfold actR at h;by_cases h1:op=1
 ·rw[if_pos h1]at h;exact .inr (newP_err h)
 rw[if_neg h1]at h;by_cases h2:op=2
 ·rw[if_pos h2]at h;right;unfold rmdirE at h;split at h
  ·rename_i h1;cases h;exact somethingE_err h1
  split at h
  ·cases h;unfold errP;omega
  split at h
  ·cases h;unfold errP;omega
  cases h
 rw[if_neg h2]at h;by_cases h3:op=3
 ·rw[if_pos h3]at h;right;unfold renameE at h;split at h
  ·rename_i h1;cases h;exact fileE_err h1
  split at h
  ·rename_i h1;cases h;exact nothingE_err h1
  cases h
 rw[if_neg h3]at h;by_cases h4:op=4
 ·rw[if_pos h4]at h;right;unfold linkE at h;split at h
  ·rename_i h1;cases h;exact fileE_err h1
  split at h
  ·rename_i h1;cases h;exact nothingE_err h1
  split at h
  ·cases h
  cases h;unfold errP;omega
 rw[if_neg h4]at h;by_cases h5:op=5
 ·rw[if_pos h5]at h;right;unfold unlinkE at h;split at h
  ·rename_i h1;cases h;exact fileE_err h1
  cases h
 rw[if_neg h5]at h;by_cases h6:op=6
 ·rw[if_pos h6]at h;exact .inr (newP_err h)
 rw[if_neg h6]at h;by_cases h7:op=7
 ·rw[if_pos h7]at h;right;unfold dupE at h;split at h
  ·rename_i h1;cases h;exact fileE_err h1
  split at h
  ·rename_i h1;cases h;exact nothingE_err h1
  split at h
  ·cases h
  cases h;unfold errP;omega
 rw[if_neg h7]at h;by_cases h8:op=8
 ·rw[if_pos h8]at h;right;unfold chmodE at h;split at h
  ·rename_i h1;cases h;exact somethingE_err h1
  cases h
 rw[if_neg h8]at h;cases h;exact .inl ⟨rfl,h1,h2,h3,h4,h5,h6,h7,h8⟩
theorem actR_pow {S:VS} {op:Int} {path tz:List UInt8} {mode:Nat} {bs:List UInt8}:powR (actR S op path tz mode bs):=fun k h=>by have:=actR_err h;unfold errP at this;omega
theorem enters_mkdir :∀args w,(callFunc 45 args).run Tryz.prog w= .ok (.enter 45 args) w:=Go.Proofs.enters_of Tryz.func45 (by kernel_rfl) rfl
theorem enters_rmdir :∀args w,(callFunc 46 args).run Tryz.prog w= .ok (.enter 46 args) w:=Go.Proofs.enters_of Tryz.func46 (by kernel_rfl) rfl
theorem enters_rename :∀args w,(callFunc 47 args).run Tryz.prog w= .ok (.enter 47 args) w:=Go.Proofs.enters_of Tryz.func47 (by kernel_rfl) rfl
theorem enters_link :∀args w,(callFunc 48 args).run Tryz.prog w= .ok (.enter 48 args) w:=Go.Proofs.enters_of Tryz.func48 (by kernel_rfl) rfl
theorem enters_unlink :∀args w,(callFunc 49 args).run Tryz.prog w= .ok (.enter 49 args) w:=Go.Proofs.enters_of Tryz.func49 (by kernel_rfl) rfl
theorem enters_write :∀args w,(callFunc 50 args).run Tryz.prog w= .ok (.enter 50 args) w:=Go.Proofs.enters_of Tryz.func50 (by kernel_rfl) rfl
theorem enters_duplicate :∀args w,(callFunc 51 args).run Tryz.prog w= .ok (.enter 51 args) w:=Go.Proofs.enters_of Tryz.func51 (by kernel_rfl) rfl
theorem enters_chmod :∀args w,(callFunc 52 args).run Tryz.prog w= .ok (.enter 52 args) w:=Go.Proofs.enters_of Tryz.func52 (by kernel_rfl) rfl
theorem enters_sync :∀args w,(callFunc 53 args).run Tryz.prog w= .ok (.enter 53 args) w:=Go.Proofs.enters_of Tryz.func53 (by kernel_rfl) rfl
section
variable {w0 w:World} {R:List Asn} {f q p:Nat} {S:VS}
theorem opD_do {r:Except Int (Option VS)} {R:List Asn} {e:Ending} (hz:∀k,r= .error k→k≠0) (h:doOut f q p S r w0 R e w):opD f q p S r w0 R e w:=by
 match r with
 | .error k=>obtain⟨he,a',hC,hS⟩:=h;exact⟨by rw[if_neg (hz k rfl)];exact he,a',hC,hS⟩
 | .ok r=>exact h
theorem opD_err {r:Except Int (Option VS)} {R:List Asn} {e:Ending} (hz:∀k,r= .error k→errP k) (h:doOut f q p S r w0 R e w):opD f q p S r w0 R e w:=
 opD_do (fun k hk=>by have:=hz k hk;unfold errP at this;omega) h
set_option maxHeartbeats 4000000 in
theorem do_any {op mode kk:Int} {path tz bs:List UInt8} {A:Option Addr} {n c:Nat} (hp:path.length≤9223372036854775807) (ht:tz.length≤9223372036854775807) (hn:n≤9223372036854775807) (hlen:bs.length≤9223372036854775807)
  (ho:S.D.off=false) (hop: -9223372036854775808≤op∧op≤9223372036854775807) (hst:StockIn w0 R A n kk bs) (hV:VW S.base) (hOk:ckP op path tz mode kk n bs.length=0→ActOk S.base op path tz mode.toNat bs) (h:Sep w0 w (restR f q p S::R)):
  Calls Tryz.prog 14 #[.pointer (some ⟨f,0,none⟩),.agg #[.int .i64 op,strV path,strV tz,.int .i64 mode,.int .i64 kk],.slice A n c] w fun e w'=>∃x,e= .returned (.int .i64 x)∧endS f q p S.base (doR S.base op path tz mode kk n bs) w0 w' R x:=by
 have hc11:=ck_pow op path tz mode kk n bs.length;unfold doR;by_cases h0:ckP op path tz mode kk n bs.length=0
 ·have hA:=hOk h0;have go:∀fid:FuncId,getM (doRows f) (.int .i64 op)=some (.func (.func fid) #[.pointer (some ⟨f,0,none⟩)] #[])→(∀args w,(callFunc fid args).run Tryz.prog w= .ok (.enter fid args) w)→
    (∀W a X,VC S.base a→S.base.D.back=[]→Sep w0 W (volR f q p S.base a::(X++R))→Calls Tryz.prog fid #[.pointer (some ⟨f,0,none⟩),.agg #[.int .i64 op,strV path,strV tz,.int .i64 mode,.int .i64 kk],.slice A n c] W (opD f q p S.base (actR S.base op path tz mode.toNat bs) w0 (X++R)))→
    Calls Tryz.prog 14 #[.pointer (some ⟨f,0,none⟩),.agg #[.int .i64 op,strV path,strV tz,.int .i64 mode,.int .i64 kk],.slice A n c] w fun e w'=>∃x,e= .returned (.int .i64 x)∧endS f q p S.base (if ckP op path tz mode kk n bs.length=0 then actR S.base op path tz mode.toNat bs else .error (ckP op path tz mode kk n bs.length)) w0 w' R x:=
   fun fid hrow hent hdo=>do_walk (ck:=ckP op path tz mode kk n bs.length) hp ht (by omega) hlen ho hop rfl (fun _=>hrow) hent hst actR_pow hc11 (fun _=>hdo) h
  rcases ck_zero h0 with rfl|⟨hf,h9,hk⟩
  ·exact go _ rfl enters_sync fun W a X hC hb hS=>(sync_any hC hS).mono fun e w' ⟨h1,h2⟩=>⟨h1,a,hC,h2⟩
  (have hmn:(fieldsP op).2.1=true→((mode.toNat:Nat):Int)=mode:=fun hm=>Int.toNat_of_nonneg (hk.mode hm).1);rcases fieldsP_op hf with rfl|rfl|rfl|rfl|rfl|rfl|rfl|rfl|rfl
  ·have hm:=hmn rfl;(refine go _ rfl enters_mkdir fun W a X hC hb hS=>?_);rw[←hm];exact(mkdir_any hC hV hb hk.valid (valid_most hk.valid) (hA.mkd rfl) hS).mono fun e w' hd=>opD_err (fun k hk=>(actR_err (op:=1) (path:=path) (tz:=tz) (mode:=mode.toNat) (bs:=bs) hk).resolve_left fun e0=>e0.2.1 rfl) hd
  ·(refine go _ rfl enters_rmdir fun W a X hC hb hS=>?_);exact(rmdir_any hC hV hb hk.valid (valid_most hk.valid) (hA.rm rfl) hS).mono fun e w' hd=>opD_err (fun k hk=>(actR_err (op:=2) (path:=path) (tz:=tz) (mode:=mode.toNat) (bs:=bs) hk).resolve_left fun e0=>e0.2.2.1 rfl) hd
  ·(refine go _ rfl enters_rename fun W a X hC hb hS=>?_);exact(rename_any hC hV hb hk.valid (valid_most hk.valid) (hk.valid2 rfl) (valid_most (hk.valid2 rfl)) (hA.mv rfl) hS).mono fun e w' hd=>opD_err (fun k hk=>(actR_err (op:=3) (path:=path) (tz:=tz) (mode:=mode.toNat) (bs:=bs) hk).resolve_left fun e0=>e0.2.2.2.1 rfl) hd
  ·(refine go _ rfl enters_link fun W a X hC hb hS=>?_);exact(link_any hC hV hb hk.valid (valid_most hk.valid) (hk.valid2 rfl) (valid_most (hk.valid2 rfl)) (hA.ln rfl) hS).mono fun e w' hd=>opD_err (fun k hk=>(actR_err (op:=4) (path:=path) (tz:=tz) (mode:=mode.toNat) (bs:=bs) hk).resolve_left fun e0=>e0.2.2.2.2.1 rfl) hd
  ·(refine go _ rfl enters_unlink fun W a X hC hb hS=>?_);exact(unlink_any hC hV hb hk.valid (valid_most hk.valid) (hA.un rfl) hS).mono fun e w' hd=>opD_err (fun k hk=>(actR_err (op:=5) (path:=path) (tz:=tz) (mode:=mode.toNat) (bs:=bs) hk).resolve_left fun e0=>e0.2.2.2.2.2.1 rfl) hd
  ·have hm:=hmn rfl;(refine go _ rfl enters_write fun W a X hC hb hS=>?_);rw[←hm];obtain⟨h6a,h6b,h6c⟩:=hk.data rfl;obtain⟨j,rfl⟩:∃j:Nat,kk=j:=⟨kk.toNat,by omega⟩;obtain⟨sa,B,cc,rfl,hcl,htl⟩:=hst j rfl (by omega);(have hcl2:∀W Y,Sep w0 W (Y++(X++R))→W.cell? (sa.add j)=some (.slice B bs.length cc):=fun W Y hY=>hcl W (Y++X) (by rw[List.append_assoc];exact hY));exact(write_any hC hV hb hk.valid (valid_most hk.valid) hcl2 (by omega) (by omega) (fun W Y hY=>htl W (Y++X) (by rw[List.append_assoc];exact hY)) (hA.wr rfl) hS).mono fun e w' hd=>opD_err (fun k hk=>(actR_err (op:=6) (path:=path) (tz:=tz) (mode:=mode.toNat) (bs:=bs) hk).resolve_left fun e0=>e0.2.2.2.2.2.2.1 rfl) hd
  ·have hm:=hmn rfl;(refine go _ rfl enters_duplicate fun W a X hC hb hS=>?_);rw[←hm];exact(duplicate_any hC hV hb hk.valid (valid_most hk.valid) (hk.valid2 rfl) (valid_most (hk.valid2 rfl)) (hA.cp rfl) hS).mono fun e w' hd=>opD_err (fun k hk=>(actR_err (op:=7) (path:=path) (tz:=tz) (mode:=mode.toNat) (bs:=bs) hk).resolve_left fun e0=>e0.2.2.2.2.2.2.2.1 rfl) hd
  ·have hm:=hmn rfl;(refine go _ rfl enters_chmod fun W a X hC hb hS=>?_);rw[←hm];have h8:=hA.ch rfl (by have:=(hk.mode rfl).2;omega);exact(chmod_any hC hV hb hk.valid (valid_most hk.valid) (by have:=(hk.mode rfl).2;omega) h8.1 h8.2 hS).mono fun e w' hd=>opD_err (fun k hk=>(actR_err (op:=8) (path:=path) (tz:=tz) (mode:=mode.toNat) (bs:=bs) hk).resolve_left fun e0=>e0.2.2.2.2.2.2.2.2 rfl) hd
  exact absurd rfl h9
 exact do_walk (fid:=53) (ck:=ckP op path tz mode kk n bs.length) (r:=actR S.base op path tz mode.toNat bs) hp ht (by omega) hlen ho hop rfl (fun e=>absurd e h0) enters_sync hst actR_pow hc11 (fun e=>absurd e h0) h
end
def plainE (path:List UInt8):Int:=if path=[]then 26 else if validL path=true then 0 else 20
set_option maxRecDepth 100000 in
theorem plain_any {path:List UInt8} (hp:path.length≤1048576) (w:World):
  Calls Tryz.prog 60 #[strV path] w fun e w'=>e=(if plainE path=0 then .returned (.tuple #[])else .panicked (stopF (plainE path)))∧Below w.heap.size w w':=by
 have hv:∀W,Calls Tryz.prog 97 #[strV path] W fun e w'=>e= .returned (.bool (validL path))∧Below W.heap.size W w':=fun W=>by have:=valid_any ⟨path.toArray⟩ W (by show path.toArray.size≤_;simp;omega);simpa[strV]using this
 unfold plainE;by_cases h0:path=[]
 ·subst h0;rw[if_pos rfl,if_neg (by decide)];clear hv;unfold strV;go_enter Tryz.func60,Tryz.ntmps60;go_wp2_with(go_at_call 43;refine(smust_any _ _).mono ?_;rintro e w7 ⟨rfl,h7⟩;obtain rfl:=h7.symm);exact⟨rfl,rfl,Below.refl _ _⟩
 rw[if_neg h0];have hne:(path==[])=false:=by simpa using h0
 unfold strV at*;cases hvp:validL path with
 |true=>
  rw[if_pos rfl,if_pos rfl];rw[hvp]at hv;go_enter Tryz.func60,Tryz.ntmps60;go_wp2_with(go_at_call 97;refine(hv _).mono ?_;rintro e w7 ⟨rfl,h7⟩)
  go_end0
  exact⟨rfl,h7⟩
 |false=>rw[if_neg (by decide),if_neg (by decide)];rw[hvp]at hv;go_enter Tryz.func60,Tryz.ntmps60;go_wp2_with(first |(go_at_call 97;refine(hv _).mono ?_;rintro e w7 ⟨rfl,h7⟩)|(go_at_call 43;refine(smust_any _ _).mono ?_;rintro e w6 ⟨rfl,h6⟩;obtain rfl:=h6.symm));exact⟨rfl,rfl,h7⟩
section
variable {w0 w:World} {R:List Asn} {f q p:Nat} {S:VS} {a:VA}
theorem Sep.rest_cells (h:Sep w0 w (restR f q p S::R)):w.cell? ⟨f,4,none⟩=some (.bool false)∧w.cell? ⟨f,5,none⟩=some (.complex .f64 (fI S.wB) (fI S.wI))∧w.cell? ⟨f,7,none⟩=some (.complex .f64 (fI S.rB) (fI S.rI)):=by obtain⟨sb,SM,fo,hR,h1⟩:=h.rest_open;exact⟨h1.bC 0 rfl 4,h1.bC 0 rfl 5,h1.bC 0 rfl 7⟩
theorem room_rest (h:Sep w0 w (restR f q p S::R)):Calls Tryz.prog 31 #[.pointer (some ⟨f,0,none⟩)] w fun e w'=>e= .returned (cplx S.rB S.rI)∧w'=w:=by obtain⟨c4,c5,c7⟩:=h.rest_cells;clear h;unfold cplx;go_enter Tryz.func31,Tryz.ntmps31;go_wp2_with fail;go_ret;exact⟨rfl,rfl⟩
theorem free_rest (hb:SmallI S.rB) (hi:SmallI S.rI) (hw:SmallI S.wB) (hv:SmallI S.wI) (h1:SmallI (S.rB-S.wB)) (h2:SmallI (S.rI-S.wI)) (h:Sep w0 w (restR f q p S::R)):
  Calls Tryz.prog 17 #[.pointer (some ⟨f,0,none⟩)] w fun e w'=>e= .returned (cplx (S.rB-S.wB) (S.rI-S.wI))∧∃n,w'=w.drewN n:=by
 obtain⟨c4,c5,c7⟩:=h.rest_cells;have hsub:=fun W=>run_csubt 44 S.rB S.rI S.wB S.wI hb hi hw hv h1 h2 W
 clear h hb hi hw hv h1 h2;unfold cplx at*;go_enter Tryz.func17,Tryz.ntmps17;go_wp2_with fail;go_quiet (fail);go_wp2_with fail;go_ret;exact⟨rfl,_,rfl⟩
end
section
variable {w0 w:World} {R:List Asn} {f q p:Nat} {S:VS} {a:VA}
theorem rest_back (h:Sep w0 w (restR f q p S::R)):S.base.D.back=[]:=by obtain⟨_,_,_,hR,_⟩:=h.rest_open;exact hR.back
theorem rest_dok (h:Sep w0 w (restR f q p S::R)):S.D.ok S.nb:=by obtain⟨_,_,_,hR,_⟩:=h.rest_open;exact hR.dok
def readX (S:VS) (path:List UInt8):Int:=if plainE path=0 then((fileE S.cur (lookP S.cur S.data 0 0 (splitB path))).getD 0)else plainE path
def readB (S:VS) (path:List UInt8):List UInt8:=if readX S path=0 then contentP S.cur S.data (inoP S.cur (lookP S.cur S.data 0 0 (splitB path)).2.1.toNat)else []
theorem plainE_pow (path:List UInt8):plainE path≠11:=by
 unfold plainE
 repeat' split
 all_goals decide
theorem plainE_ok {path:List UInt8} (h:plainE path=0):validL path=true:=by
 unfold plainE at h;split at h
 ·cases h
 split at h
 ·assumption
 cases h
theorem fileE_some {S:VS} {path:List UInt8} {k:Int} (h:fileE S.cur (lookP S.cur S.data 0 0 (splitB path))=some k):k≠0∧k≠11:=by have:=fileE_err h;unfold errP at this;omega
set_option maxRecDepth 100000 in
set_option maxHeartbeats 8000000 in
theorem read_any {path:List UInt8} (hp:path.length≤1048576) (ho:S.D.off=false) (hV:VW S.base) (hz:∀m<S.names,(inoP S.base.cur m).kind≠1→(inoP S.base.cur m).size≤512*(inoP S.base.cur m).spots.length) (h:Sep w0 w (restR f q p S::R)):
  Calls Tryz.prog 25 #[.pointer (some ⟨f,0,none⟩),strV path] w fun e w'=>∃v,e= .returned (.tuple #[v,.int .i64 (readX S.base path)])∧Sep w0 w' (bytesR v (readB S.base path)::restR f q p S.base::R):=by
 have hb:=rest_back h;have h1:Sep w0 (w.alloc (.cells #[.int .i64 0] 39)) (restR f q p S::errBox w.heap.size 0::R):=Sep.sel [1,0] (h.bN 39 #[.int .i64 0]) (by decide) (by simp[errBox]);have haw:=awake_on ho h1;obtain⟨T,hT⟩:∃T,T=S.base:=⟨_,rfl⟩;have hnames:S.names=T.names:=by rw[hT];rfl
 rw[←hT]at hV hz hb haw ⊢;rw[hnames]at hz;clear ho;have hres:Hid (∀(tm:Array Value) W x v Y,tm.getD 5 undef= .pointer (some ⟨w.heap.size,0,none⟩)→tm.getD 4 undef=v→Sep w0 W (Y++errBox w.heap.size x::R)→(results Tryz.f25 tm).run Tryz.prog W= .ok (.tuple #[v,.int .i64 x]) W):=Lh fun tm W x v Y ht hv hW=>by(have hi:(Y++errBox w.heap.size x::R)[Y.length]? =some (errBox w.heap.size x):=by simp);have ec:=hW.bC _ hi 0;simp only[gA,gB]at ec;(have ht2:tm[5]?.getD undef= .pointer (some ⟨w.heap.size,0,none⟩):=by simpa using ht);(have hv2:tm[4]?.getD undef=v:=by simpa using hv);simp[results,Tryz.results25,go_sem,ht2,hv2,asAddr,loadVar,ec]
 have hpl:Hid (∀W,Calls Tryz.prog 60 #[strV path] W fun e w'=>e=(if plainE path=0 then .returned (.tuple #[])else .panicked (stopF (plainE path)))∧Below W.heap.size W w'):=Lh fun W=>plain_any hp W
 --what is left where nothing is answered
 have hgive:Hid (∀(tm:Array Value) W a k,k=readX T path→k≠0→k≠11→VC T a→Sep w0 W (volR f q p T a::errBox w.heap.size 0::R)→tm.getD 5 undef= .pointer (some ⟨w.heap.size,0,none⟩)→tm.getD 4 undef= .slice none 0 0→
   Leaves Tryz.prog Tryz.f25 tm (fun e w'=>∃v,e= .returned (.tuple #[v,.int .i64 (readX T path)])∧Sep w0 w' (bytesR v (readB T path)::restR f q p T::R)) [{target:=.fn (.func 41) #[],args:=#[.pointer (some ⟨f,0,none⟩),.pointer (some ⟨w.heap.size,0,none⟩)]}] (.panicking (stopF k)) W):=Lh fun tm W a k hk h0 h11 hC hW ht ht4=>by
  (refine told_vol hC hb h11 hW fun w' hw=>?_);refine⟨_,hres.out tm w' k _ [restR f q p T] ht ht4 hw,.slice none 0 0,by rw[hk],?_⟩;have h5:Sep w0 w' (errBox w.heap.size k::restR f q p T::R):=hw.perm (List.Perm.swap _ _ _);unfold readB;rw[←hk,if_neg h0];exact(h5.drop 1).sl_nil 5 1
 have hfl:Hid (validL path=true→∀W a,VC T a→Sep w0 W (volR f q p T a::errBox w.heap.size 0::R)→Calls Tryz.prog 71 #[.pointer (some ⟨f,0,none⟩),strV path] W fun e w'=>e=fileP T.cur (lookP T.cur T.data 0 0 (splitB path))∧∃a',VC T a'∧Sep w0 w' (volR f q p T a'::errBox w.heap.size 0::R)):=Lh fun hv W a hC hW=>
  (file_any hC hV hv hp hW).mono fun e w' ⟨h1,a',h2,h3⟩=>⟨h1,a',h2.ok,h3⟩
 have hct:Hid (∀m:Nat,m<T.names→¬(inoP T.cur m).kind=1→∀W a,VC T a→Sep w0 W (volR f q p T a::errBox w.heap.size 0::R)→Calls Tryz.prog 72 #[.pointer (some ⟨f,0,none⟩),.int .i64 m] W fun e w'=>∃v a2,e= .returned v∧VC T a2∧Sep w0 w' (bytesR v (contentP T.cur T.data (inoP T.cur m))::volR f q p T a2::errBox w.heap.size 0::R)):=Lh fun m hm hk W a hC hW=>by refine(content_any hC hV.vf hm (hV.few m hm) (hV.lt m hm) (hz m hm hk) hW).mono ?_;rintro e w' ⟨v,a2,rfl,hR,h9⟩;exact⟨v,a2,rfl,hR.ok,h9⟩
 have hln:=look_nat hV (path:=path);have hpw:=plainE_pow path;have hfs:∀k,fileE T.cur (lookP T.cur T.data 0 0 (splitB path))=some k→k≠0∧k≠11:=fun k hk=>fileE_some hk
 clear hV hz hT hnames h h1;by_cases h0:plainE path=0
 ·have hv:=plainE_ok h0;rw[h0,if_pos rfl]at hpl;have hfl2:=Lh (hfl.out hv);(have hrx:readX T path=(fileE T.cur (lookP T.cur T.data 0 0 (splitB path))).getD 0:=by unfold readX;rw[if_pos h0]);replace hrx:=Lh hrx;clear hfl hp hv h0 hpw;rw[fileE_is]at hfl2;obtain⟨fe,hfe⟩:∃fe,fe=fileE T.cur (lookP T.cur T.data 0 0 (splitB path)):=⟨_,rfl⟩;rw[←hfe]at hfl2 hfs hrx;cases fe with
  |some k=>
   obtain⟨hk0,hk11⟩:=hfs k rfl;have hg:=Lh (fun tm W a=>hgive.out tm W a k hrx.out.symm hk0 hk11);clear hfs hfe hct hln hk0 hk11 hgive;simp only at hfl2;obtain⟨rx,hrxx⟩:∃rx,rx=readX T path:=⟨_,rfl⟩;obtain⟨sv,hsv⟩:∃sv,sv=strV path:=⟨_,rfl⟩;unfold strV at*
   go_enter_defers Tryz.func25,Tryz.ntmps25
   go_wp2_with(first |(go_at_call 42;refine haw.mono ?_;rintro e w9 ⟨rfl,a9,hC9,h9⟩;replace hC9:=Lh hC9;clear haw)|(go_at_call 60;refine(hpl.out _).mono ?_;rintro e w8 ⟨rfl,hb8⟩;have hf8:=hfl2.out _ _ hC9.out (h9.pure hb8);clear h9 hb8 hpl)|(go_at_call 71;refine hf8.mono ?_;rintro e w7 ⟨rfl,a7,hC7,h7⟩;clear hf8));exact hg.out _ _ _ hC7 h7 rfl rfl
  |none=>
   obtain⟨hr0,hr1,hr3⟩:=fileE_ok hfe.symm;obtain⟨d,m,hdl,hml,hre⟩:=hln hr0 hr1;rw[hre]at hr3;rw[Int.toNat_natCast]at hr3;(have hrb:readB T path=contentP T.cur T.data (inoP T.cur m):=by unfold readB;rw[hrx.out,hre];simp);have hct2:=Lh (hct.out m hml hr3);replace hrb:=Lh hrb;rw[hre]at hfl2;clear hfs hfe hct hln hr0 hr1 hr3 hgive hml hdl hre;simp only[Option.getD_none]at hfl2 hrx;obtain⟨sv,hsv⟩:∃sv,sv=strV path:=⟨_,rfl⟩;unfold strV at*
   go_enter_defers Tryz.func25,Tryz.ntmps25
   go_wp2_with(first |(go_at_call 42;refine haw.mono ?_;rintro e w9 ⟨rfl,a9,hC9,h9⟩;replace hC9:=Lh hC9;clear haw)|(go_at_call 60;refine(hpl.out _).mono ?_;rintro e w8 ⟨rfl,hb8⟩;have hf8:=hfl2.out _ _ hC9.out (h9.pure hb8);clear h9 hb8 hpl)|(go_at_call 71;refine hf8.mono ?_;rintro e w7 ⟨rfl,a7,hC7,h7⟩;have hc7:=hct2.out _ _ hC7 h7;clear hf8 h7 hct2 hC7)|(go_at_call 72;refine hc7.mono ?_;rintro e w6 ⟨v,a6,rfl,hC6,h6⟩;have k1:=h6.bC 2 rfl 0;have k2:=h6.bF 2 rfl 0;simp only[gA,gB]at k1;clear hc7;replace hC6:=Lh hC6));refine told_door_ret ?_;have h10:=h6.bS 2 rfl 0 (.int .i64 0);refine⟨_,hres.out _ _ 0 v [bytesR v (contentP T.cur T.data (inoP T.cur m)),volR f q p T a6] rfl rfl h10,v,by rw[hrx.out],?_⟩;rw[hrb.out];have h11:Sep w0 _ (errBox w.heap.size 0::volR f q p T a6::bytesR v (contentP T.cur T.data (inoP T.cur m))::R):=Sep.sel [2,1,0] h10 (by decide) (by simp[errBox]);exact(vol_rest0 hC6.out hb (h11.drop 1)).perm (List.Perm.swap _ _ _)
 have hrx:readX T path=plainE path:=by unfold readX;rw[if_neg h0]
 have hg:=Lh (fun tm W a=>hgive.out tm W a (plainE path) hrx.symm h0 hpw);rw[if_neg h0]at hpl;clear hfl hct hln hgive hfs hpw;obtain⟨sv,hsv⟩:∃sv,sv=strV path:=⟨_,rfl⟩;unfold strV at*
 go_enter_defers Tryz.func25,Tryz.ntmps25
 go_wp2_with(first |(go_at_call 42;refine haw.mono ?_;rintro e w9 ⟨rfl,a9,hC9,h9⟩;replace hC9:=Lh hC9;clear haw)|(go_at_call 60;refine(hpl.out _).mono ?_;rintro e w8 ⟨rfl,hb8⟩;replace h9:=h9.pure hb8;clear hb8 hpl));exact hg.out _ _ _ hC9.out h9 rfl rfl
end
end Go.Proofs.YteihmbaimbogaaaGreat
