/- FuT, laid together. -/
import Derived.Test.YteihmbaimbogaaaGreatJ27
namespace Go.Proofs.YteihmbaimbogaaaGreat
open Go.RowKit
set_option linter.unusedVariables false
set_option linter.unusedSimpArgs false
def somethingE (r:Int×Int×Int):Option Int:=if r.2.2=0 then(if r.2.1<0 then some 21 else none)else some r.2.2
def fileE (c:Blks) (r:Int×Int×Int):Option Int:=if r.2.2=0 then(if r.2.1<0 then some 21 else if(inoP c r.2.1.toNat).kind=1 then some 24 else none)else some r.2.2
theorem somethingE_is (r:Int×Int×Int):somethingP r=match somethingE r with|some k=>.panicked (stopF k)|none=>.returned (.tuple #[.int .i64 r.1,.int .i64 r.2.1]):=by
 unfold somethingP somethingE;by_cases h1:r.2.2=0
 ·rw[if_pos h1,if_pos h1];by_cases h2:r.2.1<0
  ·rw[if_pos h2,if_pos h2]
  rw[if_neg h2,if_neg h2]
 rw[if_neg h1,if_neg h1]
theorem fileE_is (c:Blks) (r:Int×Int×Int):fileP c r=match fileE c r with|some k=>.panicked (stopF k)|none=>.returned (.tuple #[.int .i64 r.1,.int .i64 r.2.1]):=by
 unfold fileP fileE;by_cases h1:r.2.2=0
 ·rw[if_pos h1,if_pos h1];by_cases h2:r.2.1<0
  ·rw[if_pos h2,if_pos h2]
  rw[if_neg h2,if_neg h2];by_cases h3:(inoP c r.2.1.toNat).kind=1
  ·rw[if_pos h3,if_pos h3]
  rw[if_neg h3,if_neg h3]
 rw[if_neg h1,if_neg h1]
theorem somethingE_ok {r:Int×Int×Int} (h:somethingE r=none):r.2.2=0∧¬r.2.1<0:=by
 unfold somethingE at h;by_cases h1:r.2.2=0
 ·rw[if_pos h1]at h;by_cases h2:r.2.1<0
  ·rw[if_pos h2]at h;cases h
  exact⟨h1,h2⟩
 rw[if_neg h1]at h;cases h
theorem fileE_ok {c:Blks} {r:Int×Int×Int} (h:fileE c r=none):r.2.2=0∧¬r.2.1<0∧¬(inoP c r.2.1.toNat).kind=1:=by
 unfold fileE at h;by_cases h1:r.2.2=0
 ·rw[if_pos h1]at h;by_cases h2:r.2.1<0
  ·rw[if_pos h2]at h;cases h
  rw[if_neg h2]at h;by_cases h3:(inoP c r.2.1.toNat).kind=1
  ·rw[if_pos h3]at h;cases h
  exact⟨h1,h2,h3⟩
 rw[if_neg h1]at h;cases h
theorem look_nat {S:VS} (hV:VW S) {path:List UInt8} (h1:(lookP S.cur S.data 0 0 (splitB path)).2.2=0) (h2:¬(lookP S.cur S.data 0 0 (splitB path)).2.1<0):
  ∃d m:Nat,d<S.names∧m<S.names∧lookP S.cur S.data 0 0 (splitB path)=((d:Int),(m:Int),0):=by
 obtain⟨⟨d,hd,e1⟩,h3⟩:=lookP_ok hV (splitB path) 0 0 hV.n0 hV.n0 h1;rcases h3 with h3|⟨m,hm,e2⟩
 ·omega
 exact⟨d,m,hd,hm,by rw[←e1,←e2,←h1]⟩
theorem enters_chmod1 :∀args w,(callFunc 107 args).run Tryz.prog w= .ok (.enter 107 args) w:=Go.Proofs.enters_of Tryz.func107 (by kernel_rfl) rfl
theorem enters_unlink1 :∀args w,(callFunc 106 args).run Tryz.prog w= .ok (.enter 106 args) w:=Go.Proofs.enters_of Tryz.func106 (by kernel_rfl) rfl
theorem enters_rename1 :∀args w,(callFunc 103 args).run Tryz.prog w= .ok (.enter 103 args) w:=Go.Proofs.enters_of Tryz.func103 (by kernel_rfl) rfl
theorem enters_link1 :∀args w,(callFunc 105 args).run Tryz.prog w= .ok (.enter 105 args) w:=Go.Proofs.enters_of Tryz.func105 (by kernel_rfl) rfl
theorem enters_rmdir1 :∀args w,(callFunc 99 args).run Tryz.prog w= .ok (.enter 99 args) w:=Go.Proofs.enters_of Tryz.func99 (by kernel_rfl) rfl
section
variable {w0 w:World} {R:List Asn} {f q p:Nat} {S:VS} {a:VA}
def chmodE (S:VS) (path:List UInt8) (mode:Nat):Except Int (Option VS):=
 match somethingE (lookP S.cur S.data 0 0 (splitB path))with
 |some k=>.error k
 |none=>.ok (some (chmodP S (lookP S.cur S.data 0 0 (splitB path)).2.1.toNat mode))
set_option maxRecDepth 100000 in
set_option maxHeartbeats 4000000 in
theorem chmod_any {vs:Value} {op kk:Int} {mode:Nat} {path tz:List UInt8} (hC:VC S a) (hV:VW S) (hb:S.D.back=[]) (hv:validL path=true) (hp:path.length≤1048576) (hmode:mode≤511) (hs:SmallW S)
  (hch:∀d m:Nat,m<S.names→lookP S.cur S.data 0 0 (splitB path)=((d:Int),(m:Int),0)→ChangeOk S (chmodP S m mode)) (h:Sep w0 w (volR f q p S a::R)):
  Calls Tryz.prog 52 #[.pointer (some ⟨f,0,none⟩),.agg #[.int .i64 op,strV path,strV tz,.int .i64 mode,.int .i64 kk],vs] w (doOut f q p S (chmodE S path mode) w0 R):=by
 have hno:Hid (∀W bi bf,Sep w0 W (.box bi 38 #[.int .i64 op,strV path,strV tz,.int .i64 mode,.int .i64 kk]:: .box bf 24 #[.pointer (some ⟨f,0,none⟩)]::volR f q p S a::R)→W.cell? ⟨bf,0,none⟩=some (.pointer (some ⟨f,0,none⟩))∧W.cell? ⟨bi,1,none⟩=some (strV path)∧Calls Tryz.prog 68 #[.pointer (some ⟨f,0,none⟩),strV path] W fun e w'=>e=somethingP (lookP S.cur S.data 0 0 (splitB path))∧∃a',VC S a'∧Sep w0 w' (volR f q p S a':: .box bi 38 #[.int .i64 op,strV path,strV tz,.int .i64 mode,.int .i64 kk]:: .box bf 24 #[.pointer (some ⟨f,0,none⟩)]::R)):=Lh fun W bi bf hW=>
  ⟨hW.bC 1 rfl 0,hW.bC 0 rfl 1,(something_any hC hV hv hp (Sep.sel [2,0,1] hW (by decide) (by simp))).mono fun e w' ⟨h1,a',h2,h3⟩=>⟨h1,a',h2.ok,h3⟩⟩
 have hcg:Hid (∀d m:Nat,m<S.names→lookP S.cur S.data 0 0 (splitB path)=((d:Int),(m:Int),0)→∀W bn bi bf a1,VC S a1→Sep w0 W (.box bn 3 #[.int .i64 m]::volR f q p S a1:: .box bi 38 #[.int .i64 op,strV path,strV tz,.int .i64 mode,.int .i64 kk]:: .box bf 24 #[.pointer (some ⟨f,0,none⟩)]::R)→W.cell? ⟨bf,0,none⟩=some (.pointer (some ⟨f,0,none⟩))∧Calls Tryz.prog 65 #[.pointer (some ⟨f,0,none⟩),.func (.func 107) #[] #[.pointer (some ⟨bf,0,none⟩),.pointer (some ⟨bn,0,none⟩),.pointer (some ⟨bi,0,none⟩)]] W (changeOut f q p S (some (chmodP S m mode)) w0 R)):=Lh fun d m hm hl W bn bi bf a1 hC1 hW=>by refine⟨hW.bC 3 rfl 0,?_⟩;have h1:Sep w0 W (volR f q p S a1:: .box bn 3 #[.int .i64 m]:: .box bi 38 #[.int .i64 op,strV path,strV tz,.int .i64 mode,.int .i64 kk]:: .box bf 24 #[.pointer (some ⟨f,0,none⟩)]::R):=hW.perm (List.Perm.swap _ _ _);(refine(change_any (R':=.box bn 3 #[.int .i64 m]:: .box bi 38 #[.int .i64 op,strV path,strV tz,.int .i64 mode,.int .i64 kk]:: .box bf 24 #[.pointer (some ⟨f,0,none⟩)]::R) enters_chmod1 hC1 hb (fun S1 e=>by cases e;exact hch d m hm hl) (fun W2 X hX=>?_) h1).mono fun e w' ho=>changeOut_drop (Y:=[_,_,_]) ho);exact chmod1_any (fun W3 Y hY=>by(have hY2:Sep w0 W3 ((Y++X)++(.box bn 3 #[.int .i64 m]:: .box bi 38 #[.int .i64 op,strV path,strV tz,.int .i64 mode,.int .i64 kk]:: .box bf 24 #[.pointer (some ⟨f,0,none⟩)]::R)):=by rw[List.append_assoc];exact hY);exact⟨hY2.box_in 2 rfl 0,hY2.box_in 0 rfl 0,hY2.box_in 1 rfl 3⟩) hC1 hV.vf ⟨hm,hV.few m hm,hV.lt m hm⟩ hs hmode hX
 have hln:=look_nat hV (path:=path);have hX0:Hid (Sep w0 ((w.alloc (.cells #[.pointer (some ⟨f,0,none⟩)] 24)).alloc (.cells #[.int .i64 op,strV path,strV tz,.int .i64 mode,.int .i64 kk] 38)) (.box (w.heap.size+1) 38 #[.int .i64 op,strV path,strV tz,.int .i64 mode,.int .i64 kk]:: .box w.heap.size 24 #[.pointer (some ⟨f,0,none⟩)]::volR f q p S a::R)):=Lh (by have h1:=(h.bN 24 #[.pointer (some ⟨f,0,none⟩)]).bN 38 #[.int .i64 op,strV path,strV tz,.int .i64 mode,.int .i64 kk];rw[size_al]at h1;exact h1);obtain⟨d0,d1,hno2⟩:=hno.out _ _ _ hX0.out;obtain⟨r,hr⟩:∃r,r=lookP S.cur S.data 0 0 (splitB path):=⟨_,rfl⟩;unfold chmodE;rw[←hr]at hno2 hcg hln ⊢;clear hC hV hb hv hp hmode hs hch h hno hr hX0;rw[somethingE_is]at hno2;cases hn:somethingE r with
 |some k=>rw[hn]at hno2;clear hcg hln hn;unfold strV at*;simp only at hno2;go_enter Tryz.func52,Tryz.ntmps52;go_wp2_with(go_at_call 68;refine hno2.mono ?_;rintro e w9 ⟨rfl,a9,hC9,h9⟩;have hend:=Lh (And.intro hC9 h9);clear hC9 h9 hno2);unfold doOut;exact⟨rfl,rfl,_,hend.out.1,(Sep.sel [1,2,0] hend.out.2 (by decide) (by simp)).drop 2⟩
 |none=>
  rw[hn]at hno2;obtain⟨hr0,hr1⟩:=somethingE_ok hn;obtain⟨d,m,hdl,hml,hre⟩:=hln hr0 hr1;have hcg2:=hcg.out d m hml hre;rw[hre]at hno2 ⊢;simp only[Int.toNat_natCast]at hno2 ⊢;obtain⟨rX,hrX⟩:∃rX,rX=some (chmodP S m mode):=⟨_,rfl⟩;rw[←hrX]at hcg2 ⊢;replace hcg2:=Lh hcg2;clear hcg hln hn hr0 hr1 hdl hml hre hrX;unfold strV at*;unfold doOut;go_enter Tryz.func52,Tryz.ntmps52;go_wp2_with(first |(go_at_call 68;refine hno2.mono ?_;rintro e w9 ⟨rfl,a9,hC9,h9⟩;obtain⟨d3,hcall⟩:=hcg2.out _ _ _ _ _ hC9 (h9.bN 3 #[.int .i64 m]);clear hC9 h9 hno2 d0 d1 hcg2)|(go_at_call 65;refine hcall.mono ?_;intro e w7 ho;rcases change_ends ho with rfl|⟨k,rfl⟩))
  ·go_end0
   exact ho
  exact⟨rfl,ho⟩
def unlinkE (S:VS) (path:List UInt8):Except Int (Option VS):=
 match fileE S.cur (lookP S.cur S.data 0 0 (splitB path))with
 |some k=>.error k
 |none=>.ok (some (unlinkP S (lookP S.cur S.data 0 0 (splitB path)).1.toNat (baseP path) (lookP S.cur S.data 0 0 (splitB path)).2.1.toNat))
structure UnlinkOk (S:VS) (dir:Nat) (path:List UInt8) (n:Nat):Prop where
 lv:LeaveOk S dir (baseP path)
 sm:SmallV S
 ino:InoOk (leaveP S dir (baseP path)) n
 links:1≤(inoP (leaveP S dir (baseP path)).cur n).links
 w:SmallW (leaveP S dir (baseP path))
 drop:InoOk ((leaveP S dir (baseP path)).keep n {inoP (leaveP S dir (baseP path)).cur n with links:=(inoP (leaveP S dir (baseP path)).cur n).links-1}) n
 dw:SmallW ((leaveP S dir (baseP path)).keep n {inoP (leaveP S dir (baseP path)).cur n with links:=(inoP (leaveP S dir (baseP path)).cur n).links-1})
 chg:ChangeOk S (unlinkP S dir (baseP path) n)
set_option maxRecDepth 100000 in
set_option maxHeartbeats 4000000 in
theorem unlink_any {vs:Value} {op mode kk:Int} {path tz:List UInt8} (hC:VC S a) (hV:VW S) (hb:S.D.back=[]) (hv:validL path=true) (hp:path.length≤1048576)
  (hch:∀d m:Nat,m<S.names→lookP S.cur S.data 0 0 (splitB path)=((d:Int),(m:Int),0)→¬(inoP S.cur m).kind=1→UnlinkOk S d path m) (h:Sep w0 w (volR f q p S a::R)):
  Calls Tryz.prog 49 #[.pointer (some ⟨f,0,none⟩),.agg #[.int .i64 op,strV path,strV tz,.int .i64 mode,.int .i64 kk],vs] w (doOut f q p S (unlinkE S path) w0 R):=by
 have hno:Hid (∀W bi bf,Sep w0 W (.box bi 38 #[.int .i64 op,strV path,strV tz,.int .i64 mode,.int .i64 kk]:: .box bf 24 #[.pointer (some ⟨f,0,none⟩)]::volR f q p S a::R)→W.cell? ⟨bf,0,none⟩=some (.pointer (some ⟨f,0,none⟩))∧W.cell? ⟨bi,1,none⟩=some (strV path)∧Calls Tryz.prog 71 #[.pointer (some ⟨f,0,none⟩),strV path] W fun e w'=>e=fileP S.cur (lookP S.cur S.data 0 0 (splitB path))∧∃a',VC S a'∧Sep w0 w' (volR f q p S a':: .box bi 38 #[.int .i64 op,strV path,strV tz,.int .i64 mode,.int .i64 kk]:: .box bf 24 #[.pointer (some ⟨f,0,none⟩)]::R)):=Lh fun W bi bf hW=>
  ⟨hW.bC 1 rfl 0,hW.bC 0 rfl 1,(file_any hC hV hv hp (Sep.sel [2,0,1] hW (by decide) (by simp))).mono fun e w' ⟨h1,a',h2,h3⟩=>⟨h1,a',h2.ok,h3⟩⟩
 have hcg:Hid (∀d m:Nat,m<S.names→lookP S.cur S.data 0 0 (splitB path)=((d:Int),(m:Int),0)→¬(inoP S.cur m).kind=1→∀W bn bd bi bf a1,VC S a1→Sep w0 W (.box bn 3 #[.int .i64 m]:: .box bd 3 #[.int .i64 d]::volR f q p S a1:: .box bi 38 #[.int .i64 op,strV path,strV tz,.int .i64 mode,.int .i64 kk]:: .box bf 24 #[.pointer (some ⟨f,0,none⟩)]::R)→W.cell? ⟨bf,0,none⟩=some (.pointer (some ⟨f,0,none⟩))∧Calls Tryz.prog 65 #[.pointer (some ⟨f,0,none⟩),.func (.func 106) #[] #[.pointer (some ⟨bf,0,none⟩),.pointer (some ⟨bd,0,none⟩),.pointer (some ⟨bi,0,none⟩),.pointer (some ⟨bn,0,none⟩)]] W (changeOut f q p S (some (unlinkP S d (baseP path) m)) w0 R)):=Lh fun d m hm hl hk W bn bd bi bf a1 hC1 hW=>by refine⟨hW.bC 4 rfl 0,?_⟩;have h1:Sep w0 W (volR f q p S a1:: .box bn 3 #[.int .i64 m]:: .box bd 3 #[.int .i64 d]:: .box bi 38 #[.int .i64 op,strV path,strV tz,.int .i64 mode,.int .i64 kk]:: .box bf 24 #[.pointer (some ⟨f,0,none⟩)]::R):=Sep.sel [2,0,1] hW (by decide) (by simp);have ho:=hch d m hm hl hk;(refine(change_any (R':=.box bn 3 #[.int .i64 m]:: .box bd 3 #[.int .i64 d]:: .box bi 38 #[.int .i64 op,strV path,strV tz,.int .i64 mode,.int .i64 kk]:: .box bf 24 #[.pointer (some ⟨f,0,none⟩)]::R) enters_unlink1 hC1 hb (fun S1 e=>by cases e;exact ho.chg) (fun W2 X hX=>?_) h1).mono fun e w' ho=>changeOut_drop (Y:=[_,_,_,_]) ho);exact unlink1_any (fun W3 Y hY=>by(have hY2:Sep w0 W3 ((Y++X)++(.box bn 3 #[.int .i64 m]:: .box bd 3 #[.int .i64 d]:: .box bi 38 #[.int .i64 op,strV path,strV tz,.int .i64 mode,.int .i64 kk]:: .box bf 24 #[.pointer (some ⟨f,0,none⟩)]::R)):=by rw[List.append_assoc];exact hY);exact⟨hY2.box_in 3 rfl 0,hY2.box_in 1 rfl 0,hY2.box_in 2 rfl 1,hY2.box_in 0 rfl 0⟩) hC1 hV.vf hv hp ho.lv ho.sm ho.ino ho.links ho.w ho.drop ho.dw hX
 have hln:=look_nat hV (path:=path);have hX0:Hid (Sep w0 ((w.alloc (.cells #[.pointer (some ⟨f,0,none⟩)] 24)).alloc (.cells #[.int .i64 op,strV path,strV tz,.int .i64 mode,.int .i64 kk] 38)) (.box (w.heap.size+1) 38 #[.int .i64 op,strV path,strV tz,.int .i64 mode,.int .i64 kk]:: .box w.heap.size 24 #[.pointer (some ⟨f,0,none⟩)]::volR f q p S a::R)):=Lh (by have h1:=(h.bN 24 #[.pointer (some ⟨f,0,none⟩)]).bN 38 #[.int .i64 op,strV path,strV tz,.int .i64 mode,.int .i64 kk];rw[size_al]at h1;exact h1);obtain⟨d0,d1,hno2⟩:=hno.out _ _ _ hX0.out;obtain⟨r,hr⟩:∃r,r=lookP S.cur S.data 0 0 (splitB path):=⟨_,rfl⟩;unfold unlinkE;rw[←hr]at hno2 hcg hln ⊢;clear hC hV hb hv hp hch h hno hr hX0;rw[fileE_is]at hno2;cases hn:fileE S.cur r with
 |some k=>rw[hn]at hno2;clear hcg hln hn;unfold strV at*;simp only at hno2;go_enter Tryz.func49,Tryz.ntmps49;go_wp2_with(go_at_call 71;refine hno2.mono ?_;rintro e w9 ⟨rfl,a9,hC9,h9⟩;have hend:=Lh (And.intro hC9 h9);clear hC9 h9 hno2);unfold doOut;exact⟨rfl,rfl,_,hend.out.1,(Sep.sel [1,2,0] hend.out.2 (by decide) (by simp)).drop 2⟩
 |none=>
  rw[hn]at hno2;obtain⟨hr0,hr1,hr2⟩:=fileE_ok hn;obtain⟨d,m,hdl,hml,hre⟩:=hln hr0 hr1;rw[hre]at hr2;have hcg2:=hcg.out d m hml hre hr2;rw[hre]at hno2 ⊢;simp only[Int.toNat_natCast]at hno2 ⊢;obtain⟨rX,hrX⟩:∃rX,rX=some (unlinkP S d (baseP path) m):=⟨_,rfl⟩;rw[←hrX]at hcg2 ⊢;replace hcg2:=Lh hcg2;clear hcg hln hn hr0 hr1 hr2 hdl hml hre hrX;unfold strV at*;unfold doOut;go_enter Tryz.func49,Tryz.ntmps49;go_wp2_with(first |(go_at_call 71;refine hno2.mono ?_;rintro e w9 ⟨rfl,a9,hC9,h9⟩;have h8:=(h9.bN 3 #[.int .i64 d]).bN 3 #[.int .i64 m];rw[size_al]at h8;obtain⟨d3,hcall⟩:=hcg2.out _ _ _ _ _ _ hC9 h8;clear h8 hC9 h9 hno2 d0 d1 hcg2)|(go_at_call 65;refine hcall.mono ?_;intro e w7 ho;rcases change_ends ho with rfl|⟨k,rfl⟩))
  ·go_end0
   exact ho
  exact⟨rfl,ho⟩
def renameE (S:VS) (path path2:List UInt8):Except Int (Option VS):=
 match fileE S.cur (lookP S.cur S.data 0 0 (splitB path))with
 |some k=>.error k
 |none=>match nothingE (lookP S.cur S.data 0 0 (splitB path2))with
  |some k=>.error k
  |none=>.ok (renameP S (lookP S.cur S.data 0 0 (splitB path)).1.toNat (baseP path) (lookP S.cur S.data 0 0 (splitB path2)).1.toNat (baseP path2) (lookP S.cur S.data 0 0 (splitB path)).2.1.toNat)
structure RenameOk (S:VS) (d d2:Nat) (path path2:List UInt8) (n:Nat):Prop where
 lv:LeaveOk S d (baseP path)
 sm:SmallV S
 en:EnterOk (leaveP S d (baseP path)) d2 n (baseP path2)
 sm2:SmallV (leaveP S d (baseP path))
 chg:∀S1,renameP S d (baseP path) d2 (baseP path2) n=some S1→ChangeOk S S1
set_option maxRecDepth 100000 in
set_option maxHeartbeats 4000000 in
theorem rename_any {vs:Value} {op mode kk:Int} {path path2:List UInt8} (hC:VC S a) (hV:VW S) (hb:S.D.back=[]) (hv:validL path=true) (hp:path.length≤1048576) (hv2:validL path2=true) (hp2:path2.length≤1048576)
  (hch:∀d m d2:Nat,m<S.names→lookP S.cur S.data 0 0 (splitB path)=((d:Int),(m:Int),0)→¬(inoP S.cur m).kind=1→(lookP S.cur S.data 0 0 (splitB path2))=((d2:Int), -1,0)→RenameOk S d d2 path path2 m) (h:Sep w0 w (volR f q p S a::R)):
  Calls Tryz.prog 47 #[.pointer (some ⟨f,0,none⟩),.agg #[.int .i64 op,strV path,strV path2,.int .i64 mode,.int .i64 kk],vs] w (doOut f q p S (renameE S path path2) w0 R):=by
 have hno:Hid (∀W bi bf,Sep w0 W (.box bi 38 #[.int .i64 op,strV path,strV path2,.int .i64 mode,.int .i64 kk]:: .box bf 24 #[.pointer (some ⟨f,0,none⟩)]::volR f q p S a::R)→W.cell? ⟨bf,0,none⟩=some (.pointer (some ⟨f,0,none⟩))∧W.cell? ⟨bi,1,none⟩=some (strV path)∧Calls Tryz.prog 71 #[.pointer (some ⟨f,0,none⟩),strV path] W fun e w'=>e=fileP S.cur (lookP S.cur S.data 0 0 (splitB path))∧∃a',VC S a'∧Sep w0 w' (volR f q p S a':: .box bi 38 #[.int .i64 op,strV path,strV path2,.int .i64 mode,.int .i64 kk]:: .box bf 24 #[.pointer (some ⟨f,0,none⟩)]::R)):=Lh fun W bi bf hW=>
  ⟨hW.bC 1 rfl 0,hW.bC 0 rfl 1,(file_any hC hV hv hp (Sep.sel [2,0,1] hW (by decide) (by simp))).mono fun e w' ⟨h1,a',h2,h3⟩=>⟨h1,a',h2.ok,h3⟩⟩
 have hnt:Hid (∀W (d m:Nat) bn bd bi bf a1,VC S a1→Sep w0 W (.box bn 3 #[.int .i64 m]:: .box bd 3 #[.int .i64 d]::volR f q p S a1:: .box bi 38 #[.int .i64 op,strV path,strV path2,.int .i64 mode,.int .i64 kk]:: .box bf 24 #[.pointer (some ⟨f,0,none⟩)]::R)→W.cell? ⟨bf,0,none⟩=some (.pointer (some ⟨f,0,none⟩))∧W.cell? ⟨bi,2,none⟩=some (strV path2)∧Calls Tryz.prog 98 #[.pointer (some ⟨f,0,none⟩),strV path2] W fun e w'=>e=nothingP (lookP S.cur S.data 0 0 (splitB path2))∧∃a',VC S a'∧Sep w0 w' (.box bn 3 #[.int .i64 m]:: .box bd 3 #[.int .i64 d]::volR f q p S a':: .box bi 38 #[.int .i64 op,strV path,strV path2,.int .i64 mode,.int .i64 kk]:: .box bf 24 #[.pointer (some ⟨f,0,none⟩)]::R)):=Lh fun W d m bn bd bi bf a1 hC1 hW=>
  ⟨hW.bC 4 rfl 0,hW.bC 3 rfl 2,(nothing_any hC1 hV hv2 hp2 (Sep.sel [2,0,1,3,4] hW (by decide) (by simp))).mono fun e w' ⟨h1,a',h2,h3⟩=>⟨h1,a',h2.ok,Sep.sel [1,2,0,3,4] h3 (by decide) (by simp)⟩⟩
 have hcg:Hid (∀d m d2:Nat,m<S.names→lookP S.cur S.data 0 0 (splitB path)=((d:Int),(m:Int),0)→¬(inoP S.cur m).kind=1→(lookP S.cur S.data 0 0 (splitB path2))=((d2:Int), -1,0)→∀W bt bn bd bi bf a1,VC S a1→Sep w0 W (.box bt 3 #[.int .i64 d2]:: .box bn 3 #[.int .i64 m]:: .box bd 3 #[.int .i64 d]::volR f q p S a1:: .box bi 38 #[.int .i64 op,strV path,strV path2,.int .i64 mode,.int .i64 kk]:: .box bf 24 #[.pointer (some ⟨f,0,none⟩)]::R)→W.cell? ⟨bf,0,none⟩=some (.pointer (some ⟨f,0,none⟩))∧Calls Tryz.prog 65 #[.pointer (some ⟨f,0,none⟩),.func (.func 103) #[] #[.pointer (some ⟨bf,0,none⟩),.pointer (some ⟨bd,0,none⟩),.pointer (some ⟨bi,0,none⟩),.pointer (some ⟨bt,0,none⟩),.pointer (some ⟨bn,0,none⟩)]] W (changeOut f q p S (renameP S d (baseP path) d2 (baseP path2) m) w0 R)):=Lh fun d m d2 hm hl hk hl2 W bt bn bd bi bf a1 hC1 hW=>by refine⟨hW.bC 5 rfl 0,?_⟩;have h1:Sep w0 W (volR f q p S a1:: .box bt 3 #[.int .i64 d2]:: .box bn 3 #[.int .i64 m]:: .box bd 3 #[.int .i64 d]:: .box bi 38 #[.int .i64 op,strV path,strV path2,.int .i64 mode,.int .i64 kk]:: .box bf 24 #[.pointer (some ⟨f,0,none⟩)]::R):=Sep.sel [3,0,1,2] hW (by decide) (by simp);have ho:=hch d m d2 hm hl hk hl2;(refine(change_any (R':=.box bt 3 #[.int .i64 d2]:: .box bn 3 #[.int .i64 m]:: .box bd 3 #[.int .i64 d]:: .box bi 38 #[.int .i64 op,strV path,strV path2,.int .i64 mode,.int .i64 kk]:: .box bf 24 #[.pointer (some ⟨f,0,none⟩)]::R) enters_rename1 hC1 hb (fun S1 e=>ho.chg S1 e) (fun W2 X hX=>?_) h1).mono fun e w' ho=>changeOut_drop (Y:=[_,_,_,_,_]) ho);exact rename1_any (fun W3 Y hY=>by(have hY2:Sep w0 W3 ((Y++X)++(.box bt 3 #[.int .i64 d2]:: .box bn 3 #[.int .i64 m]:: .box bd 3 #[.int .i64 d]:: .box bi 38 #[.int .i64 op,strV path,strV path2,.int .i64 mode,.int .i64 kk]:: .box bf 24 #[.pointer (some ⟨f,0,none⟩)]::R)):=by rw[List.append_assoc];exact hY);exact⟨hY2.box_in 4 rfl 0,hY2.box_in 2 rfl 0,hY2.box_in 3 rfl 1,hY2.box_in 3 rfl 2,hY2.box_in 0 rfl 0,hY2.box_in 1 rfl 0⟩) hC1 hV.vf hv hp hv2 hp2 ho.lv ho.sm ho.en ho.sm2 hX
 have hln:=look_nat hV (path:=path);have hok:=lookP_ok hV (splitB path2) 0 0 hV.n0 hV.n0;have hX0:Hid (Sep w0 ((w.alloc (.cells #[.pointer (some ⟨f,0,none⟩)] 24)).alloc (.cells #[.int .i64 op,strV path,strV path2,.int .i64 mode,.int .i64 kk] 38)) (.box (w.heap.size+1) 38 #[.int .i64 op,strV path,strV path2,.int .i64 mode,.int .i64 kk]:: .box w.heap.size 24 #[.pointer (some ⟨f,0,none⟩)]::volR f q p S a::R)):=Lh (by have h1:=(h.bN 24 #[.pointer (some ⟨f,0,none⟩)]).bN 38 #[.int .i64 op,strV path,strV path2,.int .i64 mode,.int .i64 kk];rw[size_al]at h1;exact h1);obtain⟨d0,d1,hno2⟩:=hno.out _ _ _ hX0.out;obtain⟨r,hr⟩:∃r,r=lookP S.cur S.data 0 0 (splitB path):=⟨_,rfl⟩;obtain⟨r2,hr2⟩:∃r,r=(lookP S.cur S.data 0 0 (splitB path2)):=⟨_,rfl⟩;unfold renameE;rw[←hr]at hno2 hcg hln ⊢;rw[←hr2]at hnt hcg hok ⊢;obtain⟨b1,hb1⟩:∃b,b=baseP path:=⟨_,rfl⟩;obtain⟨b2,hb2⟩:∃b,b=baseP path2:=⟨_,rfl⟩;rw[←hb2]at hcg ⊢;rw[←hb1]at hcg ⊢;clear hC hV hb hv hp hv2 hp2 hch h hno hr hr2 hX0 hb1 hb2;rw[fileE_is]at hno2;cases hn:fileE S.cur r with
 |some k=>rw[hn]at hno2;clear hcg hln hn hnt hok;unfold strV at*;simp only at hno2;go_enter Tryz.func47,Tryz.ntmps47;go_wp2_with(go_at_call 71;refine hno2.mono ?_;rintro e w9 ⟨rfl,a9,hC9,h9⟩;have hend:=Lh (And.intro hC9 h9);clear hC9 h9 hno2);unfold doOut;exact⟨rfl,rfl,_,hend.out.1,(Sep.sel [1,2,0] hend.out.2 (by decide) (by simp)).drop 2⟩
 |none=>
  rw[hn]at hno2;obtain⟨hr0,hr1,hr3⟩:=fileE_ok hn;obtain⟨d,m,hdl,hml,hre⟩:=hln hr0 hr1;rw[hre]at hr3;(have hcg2:=fun d2=>hcg.out d m d2 hml hre hr3);(have hnt2:=fun W=>hnt.out W d m);rw[hre]at hno2 ⊢;simp only[Int.toNat_natCast]at hno2 ⊢;clear hcg hln hn hr0 hr1 hr3 hdl hml hre hnt;rw[nothingE_is]at hnt2;cases hn2:nothingE r2 with
  |some k=>rw[hn2]at hnt2;replace hnt2:=Lh hnt2;clear hcg2 hn2 hok;unfold strV at*;go_enter Tryz.func47,Tryz.ntmps47;go_wp2_with(first |(go_at_call 71;refine hno2.mono ?_;rintro e w9 ⟨rfl,a9,hC9,h9⟩;have h8:=(h9.bN 3 #[.int .i64 d]).bN 3 #[.int .i64 m];rw[size_al]at h8;obtain⟨d3,d4,hcall⟩:=hnt2.out _ _ _ _ _ _ hC9 h8;clear h8 hC9 h9 hno2 d0 d1 hnt2)|(go_at_call 98;refine hcall.mono ?_;rintro e w8 ⟨rfl,a8,hC8,h8⟩;have hend:=Lh (And.intro hC8 h8);clear hC8 h8 hcall));unfold doOut;exact⟨rfl,rfl,_,hend.out.1,(Sep.sel [0,1,3,4,2] hend.out.2 (by decide) (by simp)).drop 4⟩
  |none=>
   rw[hn2]at hnt2;obtain⟨hr0,hr1⟩:=nothingE_ok hn2;obtain⟨⟨d2,_,hd⟩,hd2⟩:=hok hr0;have hd3:r2.2.1= -1:=by
    rcases hd2 with hd2|⟨m,_,hd2⟩
    ·exact hd2
    omega
   (have hre:r2=((d2:Int), -1,0):=by obtain⟨r1,r2,r3⟩:=r2;simp only at hd hd3 hr0;rw[hd,hd3,hr0]);have hcg3:=hcg2 d2 hre;rw[hre]at hnt2 ⊢;simp only[Int.toNat_natCast]at hnt2 ⊢;replace hnt2:=Lh hnt2;obtain⟨rX,hrX⟩:∃rX,rX=renameP S d b1 d2 b2 m:=⟨_,rfl⟩;rw[←hrX]at hcg3 ⊢;clear hcg2 hok hn2 hr0 hr1 hd hd2 hd3 hre hrX;replace hcg3:=Lh hcg3;unfold strV at*;unfold doOut;go_enter Tryz.func47,Tryz.ntmps47;go_wp2_with(first |(go_at_call 71;refine hno2.mono ?_;rintro e w9 ⟨rfl,a9,hC9,h9⟩;have h8:=(h9.bN 3 #[.int .i64 d]).bN 3 #[.int .i64 m];rw[size_al]at h8;obtain⟨d3,d4,hcall⟩:=hnt2.out _ _ _ _ _ _ hC9 h8;clear h8 hC9 h9 hno2 d0 d1 hnt2)|(go_at_call 98;refine hcall.mono ?_;rintro e w8 ⟨rfl,a8,hC8,h8⟩;obtain⟨d5,hca2⟩:=hcg3.out _ _ _ _ _ _ _ hC8 (h8.bN 3 #[.int .i64 d2]);clear hC8 h8 hcall hcg3 d3 d4)|(go_at_call 65;refine hca2.mono ?_;intro e w7 ho;rcases change_ends ho with rfl|⟨k,rfl⟩))
   ·go_end0
    exact ho
   exact⟨rfl,ho⟩
def linkE (S:VS) (path path2:List UInt8):Except Int (Option VS):=
 match fileE S.cur (lookP S.cur S.data 0 0 (splitB path))with
 |some k=>.error k
 |none=>match nothingE (lookP S.cur S.data 0 0 (splitB path2))with
  |some k=>.error k
  |none=>if S.nodes<256 then .ok (linkP S (lookP S.cur S.data 0 0 (splitB path)).2.1.toNat (lookP S.cur S.data 0 0 (splitB path2)).1.toNat (baseP path2))else .error 31
structure LinkOk (S:VS) (d2:Nat) (path2:List UInt8) (n:Nat):Prop where
 links:(inoP S.cur n).links<65535
 w:SmallW S
 en:EnterOk (S.keep n {inoP S.cur n with links:=(inoP S.cur n).links+1}) d2 n (baseP path2)
 sm2:SmallV (S.keep n {inoP S.cur n with links:=(inoP S.cur n).links+1})
 chg:∀S1,linkP S n d2 (baseP path2)=some S1→ChangeOk S S1
set_option maxRecDepth 100000 in
set_option maxHeartbeats 4000000 in
theorem link_any {vs:Value} {op mode kk:Int} {path path2:List UInt8} (hC:VC S a) (hV:VW S) (hb:S.D.back=[]) (hv:validL path=true) (hp:path.length≤1048576) (hv2:validL path2=true) (hp2:path2.length≤1048576)
  (hch:∀d m d2:Nat,m<S.names→lookP S.cur S.data 0 0 (splitB path)=((d:Int),(m:Int),0)→¬(inoP S.cur m).kind=1→(lookP S.cur S.data 0 0 (splitB path2))=((d2:Int), -1,0)→S.nodes<256→LinkOk S d2 path2 m) (h:Sep w0 w (volR f q p S a::R)):
  Calls Tryz.prog 48 #[.pointer (some ⟨f,0,none⟩),.agg #[.int .i64 op,strV path,strV path2,.int .i64 mode,.int .i64 kk],vs] w (doOut f q p S (linkE S path path2) w0 R):=by
 have hno:Hid (∀W bi bf,Sep w0 W (.box bi 38 #[.int .i64 op,strV path,strV path2,.int .i64 mode,.int .i64 kk]:: .box bf 24 #[.pointer (some ⟨f,0,none⟩)]::volR f q p S a::R)→W.cell? ⟨bf,0,none⟩=some (.pointer (some ⟨f,0,none⟩))∧W.cell? ⟨bi,1,none⟩=some (strV path)∧Calls Tryz.prog 71 #[.pointer (some ⟨f,0,none⟩),strV path] W fun e w'=>e=fileP S.cur (lookP S.cur S.data 0 0 (splitB path))∧∃a',VC S a'∧Sep w0 w' (volR f q p S a':: .box bi 38 #[.int .i64 op,strV path,strV path2,.int .i64 mode,.int .i64 kk]:: .box bf 24 #[.pointer (some ⟨f,0,none⟩)]::R)):=Lh fun W bi bf hW=>
  ⟨hW.bC 1 rfl 0,hW.bC 0 rfl 1,(file_any hC hV hv hp (Sep.sel [2,0,1] hW (by decide) (by simp))).mono fun e w' ⟨h1,a',h2,h3⟩=>⟨h1,a',h2.ok,h3⟩⟩
 have hnt:Hid (∀W (d m:Nat) bn bi bf a1,VC S a1→Sep w0 W (.box bn 3 #[.int .i64 m]::volR f q p S a1:: .box bi 38 #[.int .i64 op,strV path,strV path2,.int .i64 mode,.int .i64 kk]:: .box bf 24 #[.pointer (some ⟨f,0,none⟩)]::R)→W.cell? ⟨bf,0,none⟩=some (.pointer (some ⟨f,0,none⟩))∧W.cell? ⟨bi,2,none⟩=some (strV path2)∧Calls Tryz.prog 98 #[.pointer (some ⟨f,0,none⟩),strV path2] W fun e w'=>e=nothingP (lookP S.cur S.data 0 0 (splitB path2))∧∃a',VC S a'∧Sep w0 w' (.box bn 3 #[.int .i64 m]::volR f q p S a':: .box bi 38 #[.int .i64 op,strV path,strV path2,.int .i64 mode,.int .i64 kk]:: .box bf 24 #[.pointer (some ⟨f,0,none⟩)]::R)):=Lh fun W d m bn bi bf a1 hC1 hW=>
  ⟨hW.bC 3 rfl 0,hW.bC 2 rfl 2,(nothing_any hC1 hV hv2 hp2 (Sep.sel [1,0,2,3] hW (by decide) (by simp))).mono fun e w' ⟨h1,a',h2,h3⟩=>⟨h1,a',h2.ok,Sep.sel [1,0,2,3] h3 (by decide) (by simp)⟩⟩
 have hon:Hid (∀W d2 m bt bn bi bf a1,Sep w0 W (.box bt 3 #[.int .i64 d2]:: .box bn 3 #[.int .i64 m]::volR f q p S a1:: .box bi 38 #[.int .i64 op,strV path,strV path2,.int .i64 mode,.int .i64 kk]:: .box bf 24 #[.pointer (some ⟨f,0,none⟩)]::R)→W.cell? ⟨bf,0,none⟩=some (.pointer (some ⟨f,0,none⟩))∧Calls Tryz.prog 62 #[.pointer (some ⟨f,0,none⟩)] W fun e w'=>e=(if S.nodes<256 then .returned (.tuple #[])else .panicked (stopF 31))∧w'=W):=Lh fun W d2 m bt bn bi bf a1 hW=>⟨hW.bC 4 rfl 0,one_any (Sep.sel [2,0,1] hW (by decide) (by simp))⟩
 have hcg:Hid (∀d m d2:Nat,m<S.names→lookP S.cur S.data 0 0 (splitB path)=((d:Int),(m:Int),0)→¬(inoP S.cur m).kind=1→(lookP S.cur S.data 0 0 (splitB path2))=((d2:Int), -1,0)→S.nodes<256→∀W bt bn bi bf a1,VC S a1→Sep w0 W (.box bt 3 #[.int .i64 d2]:: .box bn 3 #[.int .i64 m]::volR f q p S a1:: .box bi 38 #[.int .i64 op,strV path,strV path2,.int .i64 mode,.int .i64 kk]:: .box bf 24 #[.pointer (some ⟨f,0,none⟩)]::R)→W.cell? ⟨bf,0,none⟩=some (.pointer (some ⟨f,0,none⟩))∧Calls Tryz.prog 65 #[.pointer (some ⟨f,0,none⟩),.func (.func 105) #[] #[.pointer (some ⟨bf,0,none⟩),.pointer (some ⟨bn,0,none⟩),.pointer (some ⟨bt,0,none⟩),.pointer (some ⟨bi,0,none⟩)]] W (changeOut f q p S (linkP S m d2 (baseP path2)) w0 R)):=Lh fun d m d2 hm hl hk hl2 hnn W bt bn bi bf a1 hC1 hW=>by refine⟨hW.bC 4 rfl 0,?_⟩;have h1:Sep w0 W (volR f q p S a1:: .box bt 3 #[.int .i64 d2]:: .box bn 3 #[.int .i64 m]:: .box bi 38 #[.int .i64 op,strV path,strV path2,.int .i64 mode,.int .i64 kk]:: .box bf 24 #[.pointer (some ⟨f,0,none⟩)]::R):=Sep.sel [2,0,1] hW (by decide) (by simp);have ho:=hch d m d2 hm hl hk hl2 hnn;(refine(change_any (R':=.box bt 3 #[.int .i64 d2]:: .box bn 3 #[.int .i64 m]:: .box bi 38 #[.int .i64 op,strV path,strV path2,.int .i64 mode,.int .i64 kk]:: .box bf 24 #[.pointer (some ⟨f,0,none⟩)]::R) enters_link1 hC1 hb (fun S1 e=>ho.chg S1 e) (fun W2 X hX=>?_) h1).mono fun e w' ho=>changeOut_drop (Y:=[_,_,_,_]) ho);exact link1_any (fun W3 Y hY=>by(have hY2:Sep w0 W3 ((Y++X)++(.box bt 3 #[.int .i64 d2]:: .box bn 3 #[.int .i64 m]:: .box bi 38 #[.int .i64 op,strV path,strV path2,.int .i64 mode,.int .i64 kk]:: .box bf 24 #[.pointer (some ⟨f,0,none⟩)]::R)):=by rw[List.append_assoc];exact hY);exact⟨hY2.box_in 3 rfl 0,hY2.box_in 1 rfl 0,hY2.box_in 0 rfl 0,hY2.box_in 2 rfl 2⟩) hC1 hV.vf hv2 hp2 ⟨hm,hV.few m hm,hV.lt m hm⟩ ho.links ho.w ho.en ho.sm2 hX
 have hln:=look_nat hV (path:=path);have hok:=lookP_ok hV (splitB path2) 0 0 hV.n0 hV.n0;have hX0:Hid (Sep w0 ((w.alloc (.cells #[.pointer (some ⟨f,0,none⟩)] 24)).alloc (.cells #[.int .i64 op,strV path,strV path2,.int .i64 mode,.int .i64 kk] 38)) (.box (w.heap.size+1) 38 #[.int .i64 op,strV path,strV path2,.int .i64 mode,.int .i64 kk]:: .box w.heap.size 24 #[.pointer (some ⟨f,0,none⟩)]::volR f q p S a::R)):=Lh (by have h1:=(h.bN 24 #[.pointer (some ⟨f,0,none⟩)]).bN 38 #[.int .i64 op,strV path,strV path2,.int .i64 mode,.int .i64 kk];rw[size_al]at h1;exact h1);obtain⟨d0,d1,hno2⟩:=hno.out _ _ _ hX0.out;obtain⟨r,hr⟩:∃r,r=lookP S.cur S.data 0 0 (splitB path):=⟨_,rfl⟩;obtain⟨r2,hr2⟩:∃r,r=(lookP S.cur S.data 0 0 (splitB path2)):=⟨_,rfl⟩;unfold linkE;rw[←hr]at hno2 hcg hln ⊢;rw[←hr2]at hnt hcg hok ⊢;obtain⟨b1,hb1⟩:∃b,b=baseP path:=⟨_,rfl⟩;obtain⟨b2,hb2⟩:∃b,b=baseP path2:=⟨_,rfl⟩;rw[←hb2]at hcg ⊢;clear hC hV hb hv hp hv2 hp2 hch h hno hr hr2 hX0 hb1 hb2;rw[fileE_is]at hno2;cases hn:fileE S.cur r with
 |some k=>rw[hn]at hno2;clear hcg hln hn hnt hok hon;unfold strV at*;simp only at hno2;go_enter Tryz.func48,Tryz.ntmps48;go_wp2_with(go_at_call 71;refine hno2.mono ?_;rintro e w9 ⟨rfl,a9,hC9,h9⟩;have hend:=Lh (And.intro hC9 h9);clear hC9 h9 hno2);unfold doOut;exact⟨rfl,rfl,_,hend.out.1,(Sep.sel [1,2,0] hend.out.2 (by decide) (by simp)).drop 2⟩
 |none=>
  rw[hn]at hno2;obtain⟨hr0,hr1,hr3⟩:=fileE_ok hn;obtain⟨d,m,hdl,hml,hre⟩:=hln hr0 hr1;rw[hre]at hr3;(have hcg2:=fun d2=>hcg.out d m d2 hml hre hr3);(have hnt2:=fun W=>hnt.out W d m);rw[hre]at hno2 ⊢;simp only[Int.toNat_natCast]at hno2 ⊢;clear hcg hln hn hr0 hr1 hr3 hdl hml hre hnt;rw[nothingE_is]at hnt2;cases hn2:nothingE r2 with
  |some k=>rw[hn2]at hnt2;replace hnt2:=Lh hnt2;clear hcg2 hn2 hok hon;unfold strV at*;go_enter Tryz.func48,Tryz.ntmps48;go_wp2_with(first |(go_at_call 71;refine hno2.mono ?_;rintro e w9 ⟨rfl,a9,hC9,h9⟩;have h8:=h9.bN 3 #[.int .i64 m];obtain⟨d3,d4,hcall⟩:=hnt2.out _ _ _ _ _ hC9 h8;clear h8 hC9 h9 hno2 d0 d1 hnt2)|(go_at_call 98;refine hcall.mono ?_;rintro e w8 ⟨rfl,a8,hC8,h8⟩;have hend:=Lh (And.intro hC8 h8);clear hC8 h8 hcall));unfold doOut;exact⟨rfl,rfl,_,hend.out.1,(Sep.sel [0,2,3,1] hend.out.2 (by decide) (by simp)).drop 3⟩
  |none=>
   rw[hn2]at hnt2;obtain⟨hr0,hr1⟩:=nothingE_ok hn2;obtain⟨⟨d2,_,hd⟩,hd2⟩:=hok hr0;have hd3:r2.2.1= -1:=by
    rcases hd2 with hd2|⟨m,_,hd2⟩
    ·exact hd2
    omega
   (have hre:r2=((d2:Int), -1,0):=by obtain⟨r1,r2,r3⟩:=r2;simp only at hd hd3 hr0;rw[hd,hd3,hr0]);have hcg3:=hcg2 d2 hre;rw[hre]at hnt2 ⊢;simp only[Int.toNat_natCast]at hnt2 ⊢;replace hnt2:=Lh hnt2;obtain⟨rX,hrX⟩:∃rX,rX=linkP S m d2 b2:=⟨_,rfl⟩;rw[←hrX]at hcg3 ⊢;clear hcg2 hok hn2 hr0 hr1 hd hd2 hd3 hre hrX;(have hon2:=fun W=>hon.out W d2 m);by_cases hnn:S.nodes<256
   ·replace hcg3:=Lh (hcg3 hnn);rw[if_pos hnn]at hon2 ⊢;replace hon2:=Lh hon2;clear hnn hon;unfold strV at*;unfold doOut;go_enter Tryz.func48,Tryz.ntmps48;go_wp2_with(first |(go_at_call 71;refine hno2.mono ?_;rintro e w9 ⟨rfl,a9,hC9,h9⟩;have h8:=h9.bN 3 #[.int .i64 m];obtain⟨d3,d4,hcall⟩:=hnt2.out _ _ _ _ _ hC9 h8;clear h8 hC9 h9 hno2 d0 d1 hnt2)|(go_at_call 98;refine hcall.mono ?_;rintro e w8 ⟨rfl,a8,hC8,h8⟩;have h7:=h8.bN 3 #[.int .i64 d2];obtain⟨d5,hca2⟩:=hcg3.out _ _ _ _ _ _ hC8 h7;obtain⟨d6,hca3⟩:=hon2.out _ _ _ _ _ _ h7;clear hC8 h8 h7 hcall hcg3 hon2 d3 d4)|(go_at_call 62;refine hca3.mono ?_;rintro e w7 ⟨rfl,h7⟩;obtain rfl:=h7.symm;clear hca3)|(go_at_call 65;refine hca2.mono ?_;intro e w7 ho;rcases change_ends ho with rfl|⟨k,rfl⟩))
    ·go_end0
     exact ho
    exact⟨rfl,ho⟩
   rw[if_neg hnn]at hon2 ⊢;replace hon2:=Lh hon2;clear hnn hon hcg3;unfold strV at*;go_enter Tryz.func48,Tryz.ntmps48;go_wp2_with(first |(go_at_call 71;refine hno2.mono ?_;rintro e w9 ⟨rfl,a9,hC9,h9⟩;have h8:=h9.bN 3 #[.int .i64 m];obtain⟨d3,d4,hcall⟩:=hnt2.out _ _ _ _ _ hC9 h8;clear h8 hC9 h9 hno2 d0 d1 hnt2)|(go_at_call 98;refine hcall.mono ?_;rintro e w8 ⟨rfl,a8,hC8,h8⟩;have h7:=h8.bN 3 #[.int .i64 d2];obtain⟨d6,hca3⟩:=hon2.out _ _ _ _ _ _ h7;have hend:=Lh (And.intro hC8 h7);clear hC8 h8 h7 hcall hon2 d3 d4)|(go_at_call 62;refine hca3.mono ?_;rintro e w7 ⟨rfl,h7⟩;obtain rfl:=h7.symm;clear hca3));unfold doOut;exact⟨rfl,rfl,_,hend.out.1,(Sep.sel [0,1,3,4,2] hend.out.2 (by decide) (by simp)).drop 4⟩
end
end Go.Proofs.YteihmbaimbogaaaGreat
