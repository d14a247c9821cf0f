/- FwF, FvH, TNode, laid together. -/
import Derived.Test.YteihmbaimbogaaaGreatJ36
namespace Go.Proofs.YteihmbaimbogaaaGreat
open Go.RowKit
set_option linter.unusedVariables false
set_option linter.unusedSimpArgs false
def putR (S:VS) (path:List UInt8) (bs:List UInt8):Except Int (Option VS):=
 if plainE path=0 then
  if 8192<bs.length then .error 2
  else
   let r:=lookP S.cur S.data 0 0 (splitB path)
   if r.2.2=0 then
    if r.2.1<0 then(if S.nodes<256 then .ok (madeP S (⟨2,384,1,0,[]⟩:VI) bs r.1.toNat (baseP path))else .error 31)
    else if(inoP S.cur r.2.1.toNat).kind=1 then .error 24 else .ok (fillP S r.2.1.toNat bs)
   else .error r.2.2
 else .error (plainE path)
structure PutOk (S:VS) (path:List UInt8) (bs:List UInt8):Prop where
 new:∀d:Nat,lookP S.cur S.data 0 0 (splitB path)=((d:Int), -1,0)→S.nodes<256→MadeOk S (⟨2,384,1,0,[]⟩:VI) bs d path
 old:∀d m:Nat,m<S.names→lookP S.cur S.data 0 0 (splitB path)=((d:Int),(m:Int),0)→¬(inoP S.cur m).kind=1→InoOk S m∧SmallW S∧∀S1,fillP S m bs=some S1→ChangeOk S S1
theorem putR_pow {S:VS} {path bs:List UInt8}:powR (putR S path bs):=fun k h=>by
 unfold putR at h;have h1:=plainE_pow path;have h2:=lookP_err S.cur S.data (splitB path) 0 0;simp only at h;split at h
 ·split at h
  ·cases h;decide
  split at h
  ·split at h
   ·split at h
    ·cases h
    cases h;decide
   split at h
   ·cases h;decide
   cases h
  cases h;omega
 cases h;exact h1
theorem enters_put1 :∀args w,(callFunc 66 args).run Tryz.prog w= .ok (.enter 66 args) w:=Go.Proofs.enters_of Tryz.func66 (by kernel_rfl) rfl
section
variable {w0 w:World} {R:List Asn} {f q p:Nat} {S:VS} {a:VA}
theorem endS_drop {r:Except Int (Option VS)} {x:Int} {Y R:List Asn} (h:endS f q p S r w0 w (Y++R) x):endS f q p S r w0 w R x:=endS_map h fun Z hZ=>by
 have h1:Sep w0 w (Y++(Z++R)):=hZ.perm (by rw[←List.append_assoc,←List.append_assoc];exact List.Perm.append_right _ List.perm_append_comm);have h2:=h1.drop Y.length
 rwa [List.drop_left]at h2
theorem endS_stored {r:Except Int (Option VS)} {x y z:Int} {b:Nat} (h:endS f q p S r w0 w (errBox b y::R) x):endS f q p S r w0 (w.setCell ⟨b,0,none⟩ (.int .i64 z)) (errBox b z::R) x:=endS_map h fun Z hZ=>by
 have hi2:(Z++errBox b y::R)[Z.length]? =some (errBox b y):=by simp
 have h5:=hZ.bS _ hi2 0 (.int .i64 z);rw[List.set_append_right _ _ (Nat.le_refl _),Nat.sub_self]at h5;exact h5
theorem endS_box {r:Except Int (Option VS)} {x y:Int} {b:Nat} (h:endS f q p S r w0 w (errBox b y::R) x):w.cell? ⟨b,0,none⟩=some (.int .i64 y)∧w.frozen? ⟨b,0,none⟩=false:=by
 obtain⟨Y,hY⟩:=endS_part h;have hi:(Y++errBox b y::R)[Y.length]? =some (errBox b y):=by simp
 have k1:=hY.bC _ hi 0;simp only[gA,gB]at k1;exact⟨k1,hY.bF _ hi 0⟩
set_option maxRecDepth 100000 in
set_option maxHeartbeats 8000000 in
theorem putf_any {path bs:List UInt8} {A:Option Addr} {c:Nat} (hp:path.length≤1048576) (hlen:bs.length≤4611686018427387903) (ho:S.D.off=false) (hV:VW S.base) (hst:Tells w0 R (.slice A bs.length c) bs) (hOk:plainE path=0→¬8192<bs.length→PutOk S.base path bs) (h:Sep w0 w (restR f q p S::R)):
  Calls Tryz.prog 21 #[.pointer (some ⟨f,0,none⟩),strV path,.slice A bs.length c] w fun e w'=>∃x,e= .returned (.int .i64 x)∧endS f q p S.base (putR S.base path bs) w0 w' R x:=by
 have hb:=rest_back h;obtain⟨b,hbw⟩:∃b,b=w.heap.size:=⟨_,rfl⟩;have h1:Sep w0 (((w.alloc (.cells #[.pointer (some ⟨f,0,none⟩)] 24)).alloc (.cells #[.slice A bs.length c] 35)).alloc (.cells #[.int .i64 0] 39)) (restR f q p S::errBox (b+1+1) 0:: .box (b+1) 35 #[.slice A bs.length c]:: .box b 24 #[.pointer (some ⟨f,0,none⟩)]::R):=by have:=((h.bN 24 #[.pointer (some ⟨f,0,none⟩)]).bN 35 #[.slice A bs.length c]).bN 39 #[.int .i64 0];simp only[World.size_alloc,←hbw]at this;exact Sep.sel [3,0,1,2] this (by decide) (by simp[errBox])
 have haw:=awake_on ho h1;have g0:=h1.bC 3 rfl 0;simp only[gA,gB]at g0;obtain⟨T,hT⟩:∃T,T=S.base:=⟨_,rfl⟩;rw[←hT]at hV hb haw hOk ⊢;have hpow:powR (putR T path bs):=putR_pow;clear ho hT;have hcs:Hid (∀W Y,Sep w0 W (Y++ .box (b+1) 35 #[.slice A bs.length c]:: .box b 24 #[.pointer (some ⟨f,0,none⟩)]::R)→W.cell? ⟨b,0,none⟩=some (.pointer (some ⟨f,0,none⟩))∧W.cell? ⟨b+1,0,none⟩=some (.slice A bs.length c)):=Lh fun W Y hW=>by(have hi:(Y++ .box (b+1) 35 #[.slice A bs.length c]:: .box b 24 #[.pointer (some ⟨f,0,none⟩)]::R)[Y.length]? =some (.box (b+1) 35 #[.slice A bs.length c]):=by simp);(have hi2:(Y++ .box (b+1) 35 #[.slice A bs.length c]:: .box b 24 #[.pointer (some ⟨f,0,none⟩)]::R)[Y.length+1]? =some (.box b 24 #[.pointer (some ⟨f,0,none⟩)]):=by simp);exact⟨hW.bC _ hi2 0,hW.bC _ hi 0⟩
 have hres:Hid (∀(tm:Array Value) W x,tm.getD 6 undef= .pointer (some ⟨b+1+1,0,none⟩)→W.cell? ⟨b+1+1,0,none⟩=some (.int .i64 x)→(results Tryz.f21 tm).run Tryz.prog W= .ok (.int .i64 x) W):=Lh fun tm W x ht ec=>by(have ht2:tm[6]?.getD undef= .pointer (some ⟨b+1+1,0,none⟩):=by simpa using ht);simp[results,Tryz.results21,go_sem,ht2,asAddr,loadVar,ec]
 have hpl:Hid (∀W,Calls Tryz.prog 60 #[strV path] W fun e w'=>e=(if plainE path=0 then .returned (.tuple #[])else .panicked (stopF (plainE path)))∧Below W.heap.size W w'):=Lh fun W=>plain_any hp W
 --the ways out
 have hout:Hid (∀(tm:Array Value) W x Y,tm.getD 6 undef= .pointer (some ⟨b+1+1,0,none⟩)→endS f q p T (putR T path bs) w0 W (errBox (b+1+1) x::(Y++R)) x→Leaves Tryz.prog Tryz.f21 tm (fun e w'=>∃x,e= .returned (.int .i64 x)∧endS f q p T (putR T path bs) w0 w' R x) [] .returning W):=Lh fun tm W x Y ht hE=>
  ⟨_,hres.out tm W x ht (endS_box hE).1,x,rfl,endS_drop (Y:=errBox (b+1+1) x::Y) hE⟩
 have hfin:Hid (∀(ps:List PanicEntry) W (tm:Array Value) Y,tm.getD 6 undef= .pointer (some ⟨b+1+1,0,none⟩)→opD f q p T (putR T path bs) w0 (errBox (b+1+1) 0::(Y++R)) (.panicked ps) W→
   Leaves Tryz.prog Tryz.f21 tm (fun e w'=>∃x,e= .returned (.int .i64 x)∧endS f q p T (putR T path bs) w0 w' R x) [{target:=.fn (.func 41) #[],args:=#[.pointer (some ⟨f,0,none⟩),.pointer (some ⟨b+1+1,0,none⟩)]}] (.panicking ps) W):=Lh fun ps W tm Y ht hD=>
  told_opD hb hpow hD fun w' x hE=>hout.out tm w' x Y ht hE
 have hgive:Hid (∀(tm:Array Value) W a k y Y,putR T path bs= .error k→k≠11→VC T a→Sep w0 W (volR f q p T a::errBox (b+1+1) y::(Y++R))→tm.getD 6 undef= .pointer (some ⟨b+1+1,0,none⟩)→
   Leaves Tryz.prog Tryz.f21 tm (fun e w'=>∃x,e= .returned (.int .i64 x)∧endS f q p T (putR T path bs) w0 w' R x) [{target:=.fn (.func 41) #[],args:=#[.pointer (some ⟨f,0,none⟩),.pointer (some ⟨b+1+1,0,none⟩)]}] (.panicking (stopF k)) W):=Lh fun tm W a k y Y hk h11 hC hW ht=>by
  (refine told_vol hC hb h11 hW fun w' hw=>hout.out tm w' k Y ht ?_);rw[hk];exact⟨rfl,hw⟩
 have hquit:Hid (∀(tm:Array Value) W a k y Y,putR T path bs= .error k→VC T a→Sep w0 W (volR f q p T a::errBox (b+1+1) y::(Y++R))→tm.getD 6 undef= .pointer (some ⟨b+1+1,0,none⟩)→
   Leaves Tryz.prog Tryz.f21 tm (fun e w'=>∃x,e= .returned (.int .i64 x)∧endS f q p T (putR T path bs) w0 w' R x) [{target:=.fn (.func 41) #[],args:=#[.pointer (some ⟨f,0,none⟩),.pointer (some ⟨b+1+1,0,none⟩)]}] .returning (W.setCell ⟨b+1+1,0,none⟩ (.int .i64 k))):=Lh fun tm W a k y Y hk hC hW ht=>by
  refine told_door_ret (hout.out tm _ k Y ht ?_);have h2:endS f q p T (.error 0) w0 W (errBox (b+1+1) y::(Y++R)) 0:=⟨rfl,vol_rest0 hC hb hW⟩;have h3:=endS_stored (z:=k) h2;rw[hk];exact⟨rfl,h3.2⟩
 have hpw:=plainE_pow path;have hlk:Hid (validL path=true→∀W a R',VC T a→Sep w0 W (volR f q p T a::R')→Calls Tryz.prog 61 #[.pointer (some ⟨f,0,none⟩),strV path] W fun e w'=>e= .returned (.tuple #[.int .i64 (lookP T.cur T.data 0 0 (splitB path)).1,.int .i64 (lookP T.cur T.data 0 0 (splitB path)).2.1,.int .i64 (lookP T.cur T.data 0 0 (splitB path)).2.2])∧∃a',VC T a'∧Sep w0 w' (volR f q p T a'::R')):=Lh fun hv W a R' hC hW=>
  (look_any hC hV hv hp hW).mono fun e w' ⟨h1,a',h2,h3⟩=>⟨h1,a',h2.ok,h3⟩
 clear h h1;by_cases h0:plainE path=0
 ·have hv:=plainE_ok h0;rw[h0,if_pos rfl]at hpl;have hlk2:=Lh (hlk.out hv);replace hOk:=Lh (hOk h0);have hpr:putR T path bs=(if 8192<bs.length then .error 2 else
   if(lookP T.cur T.data 0 0 (splitB path)).2.2=0 then
    if(lookP T.cur T.data 0 0 (splitB path)).2.1<0 then(if T.nodes<256 then .ok (madeP T (⟨2,384,1,0,[]⟩:VI) bs (lookP T.cur T.data 0 0 (splitB path)).1.toNat (baseP path))else .error 31)
    else if(inoP T.cur (lookP T.cur T.data 0 0 (splitB path)).2.1.toNat).kind=1 then .error 24 else .ok (fillP T (lookP T.cur T.data 0 0 (splitB path)).2.1.toNat bs)
   else .error (lookP T.cur T.data 0 0 (splitB path)).2.2):=by unfold putR;rw[if_pos h0]
  clear hlk hp h0 hpw hpow hv;by_cases h8:8192<bs.length
  ·rw[if_pos h8]at hpr;have hq:=Lh (fun tm W a y Y=>hquit.out tm W a 2 y Y hpr);(have h8':(8192:Int)<(bs.length:Int):=by omega);clear hOk hpr hlk2 hV hfin hgive hquit hst hlen hout hres hb;obtain⟨sv,hsv⟩:∃sv,sv=strV path:=⟨_,rfl⟩;unfold strV at*;rw[hbw]at*
   go_enter_defers Tryz.func21,Tryz.ntmps21
   go_wp2_with(first |(go_at_call 42;refine haw.mono ?_;rintro e w9 ⟨rfl,a9,hC9,h9⟩;replace hC9:=Lh hC9;clear haw)|(go_at_call 60;refine(hpl.out _).mono ?_;rintro e w8 ⟨rfl,hb8⟩;replace h9:=h9.pure hb8;(obtain⟨y0,y1⟩:=hcs.out _ [_,_] h9);(have k1:=h9.bC 1 rfl 0);(have k2:=h9.bF 1 rfl 0);simp only[gA,gB]at k1;clear hb8 hpl));exact hq.out _ _ a9 0 [_,_] hC9.out h9 rfl
  rw[if_neg h8]at hpr;replace hOk:=Lh (hOk.out h8);(have h8':(bs.length:Int)≤8192:=by omega);have hln:=look_nat hV (path:=path);have hok:=lookP_ok hV (splitB path) 0 0 hV.n0 hV.n0;have hle:=lookP_err T.cur T.data (splitB path) 0 0;obtain⟨⟨r1,r2,r3⟩,hr⟩:∃r,r=lookP T.cur T.data 0 0 (splitB path):=⟨_,rfl⟩;rw[←hr]at hpr hlk2 hln hok hle;simp only at hpr hlk2 hln hok hle;replace hr:=Lh hr;clear h8;by_cases h3:r3=0
  ·subst h3;rw[if_pos rfl]at hpr;obtain⟨⟨d,hdl,rfl⟩,hm2⟩:=hok rfl;by_cases h2:r2<0
   ·rw[if_pos h2,Int.toNat_natCast]at hpr;have e2:r2= -1:=by
     rcases hm2 with e|⟨m,_,e⟩
     ·exact e
     omega
    subst e2;(have hnw:=fun hn=>hOk.out.new d (by rw[←hr.out]) hn);clear hm2 hln hle hok hOk hr h2 hdl;have hmd:Hid (T.nodes<256→∀W a Y,VC T a→Sep w0 W (volR f q p T a::(Y++R))→Calls Tryz.prog 63 #[.pointer (some ⟨f,0,none⟩),.int .i64 (d:Nat),strV path,.agg #[.int .i64 2,.int .i64 384,.int .i64 1,.int .i64 0,.slice none 0 0],.slice A bs.length c] W (changeOut f q p T (madeP T (⟨2,384,1,0,[]⟩:VI) bs d (baseP path)) w0 (Y++R))):=Lh fun hn W a Y hC hW=>
     made_any (x:=(⟨2,384,1,0,[]⟩:VI)) hC hV.vf hb (hnw hn) (fun w' X hX=>hst w' (X++Y) (by rw[List.append_assoc];exact hX)) hW
    (have hon:Hid (∀W a R',Sep w0 W (volR f q p T a::R')→Calls Tryz.prog 62 #[.pointer (some ⟨f,0,none⟩)] W fun e w'=>e=(if T.nodes<256 then .returned (.tuple #[])else .panicked (stopF 31))∧w'=W):=Lh fun W a R' hW=>one_any hW);by_cases hn:T.nodes<256
    ·rw[if_pos hn]at hpr;have hmd2:=Lh (hmd.out hn);(have hob:Hid (∀W e Y,changeOut f q p T (madeP T (⟨2,384,1,0,[]⟩:VI) bs d (baseP path)) w0 (errBox (b+1+1) 0::(Y++R)) e W→opD f q p T (putR T path bs) w0 (errBox (b+1+1) 0::(Y++R)) e W):=Lh fun W e Y hc=>by rw[hpr];exact hc);rw[if_pos hn]at hon;clear hn hmd hpr hgive hquit hnw hst;replace hb:=Lh hb;obtain⟨sv,hsv⟩:∃sv,sv=strV path:=⟨_,rfl⟩;unfold strV at*;rw[hbw]at*
     go_enter_defers Tryz.func21,Tryz.ntmps21
     go_wp2_with(first |(go_at_call 42;refine haw.mono ?_;rintro e w9 ⟨rfl,a9,hC9,h9⟩;replace hC9:=Lh hC9;clear haw)|(go_at_call 60;refine(hpl.out _).mono ?_;rintro e w8 ⟨rfl,hb8⟩;replace h9:=h9.pure hb8;(obtain⟨y0,y1⟩:=hcs.out _ [_,_] h9);(have hl:=hlk2.out _ _ _ hC9.out h9);clear hb8 hpl h9)|(go_at_call 61;refine hl.mono ?_;rintro e w7 ⟨rfl,a7,hC7,h7⟩;clear hl y0 y1;(have h6:=h7.bN 3 #[.int .i64 (-1)]);(have k1:=h6.bC 2 rfl 0);(have k2:=h6.bF 2 rfl 0);(have h5:=h6.bS 2 rfl 0 (.int .i64 0));(have k3:=h5.bC 2 rfl 0);(have k4:=h5.bC 0 rfl 0);(have k5:=h5.bF 2 rfl 0);(have h4:Sep w0 _ (volR f q p T a7::errBox (w.heap.size+1+1) 0::([.box w7.heap.size 3 #[.int .i64 (-1)],.box (w.heap.size+1) 35 #[.slice A bs.length c],.box w.heap.size 24 #[.pointer (some ⟨f,0,none⟩)]]++R)):=Sep.sel [1,2,0,3,4] h5 (by decide) (by simp[errBox]));(obtain⟨y0,y1⟩:=hcs.out _ [_,_,_] h4);simp only[gA,gB]at k1 k3 k4;clear h6 h7 h5;(have ho7:=hon.out _ _ _ h4);(have hm7:=hmd2.out _ _ ([errBox (w.heap.size+1+1) 0,.box w7.heap.size 3 #[.int .i64 (-1)],.box (w.heap.size+1) 35 #[.slice A bs.length c],.box w.heap.size 24 #[.pointer (some ⟨f,0,none⟩)]]) hC7 h4);clear h4)|(go_at_call 43;refine(smust_any _ _).mono ?_;rintro e w6 ⟨rfl,h6⟩;obtain rfl:=h6.symm)|(go_at_call 62;refine ho7.mono ?_;rintro e w5 ⟨rfl,h5⟩;obtain rfl:=h5.symm;clear ho7));go_at_call 63;refine hm7.mono ?_;intro e wz hz;have hz2:=hob.out _ _ [_,_,_] hz;clear hm7 k1 k2 k3 k4 k5 y0 y1 hmd2 hon;rcases opD_ends hz2 with rfl|⟨k,rfl⟩
     ·obtain⟨_,hE⟩:=opD_ret hb.out hz2;obtain⟨k1,k2⟩:=endS_box hE;replace hE:=Lh hE;clear hz hz2;go_wp2_with fail;refine told_door_ret (hout.out _ _ 0 _ rfl (endS_stored (z:=0) hE.out))
     exact hfin.out _ _ _ _ rfl hz2
    rw[if_neg hn]at hpr;have hg:=Lh (fun tm W a y Y=>hgive.out tm W a 31 y Y hpr (by decide));rw[if_neg hn]at hon;clear hn hmd hpr hgive hquit hnw hst hfin hb hV hout hres;obtain⟨sv,hsv⟩:∃sv,sv=strV path:=⟨_,rfl⟩;unfold strV at*;rw[hbw]at*
    go_enter_defers Tryz.func21,Tryz.ntmps21
    go_wp2_with(first |(go_at_call 42;refine haw.mono ?_;rintro e w9 ⟨rfl,a9,hC9,h9⟩;replace hC9:=Lh hC9;clear haw)|(go_at_call 60;refine(hpl.out _).mono ?_;rintro e w8 ⟨rfl,hb8⟩;replace h9:=h9.pure hb8;(obtain⟨y0,y1⟩:=hcs.out _ [_,_] h9);(have hl:=hlk2.out _ _ _ hC9.out h9);clear hb8 hpl h9)|(go_at_call 61;refine hl.mono ?_;rintro e w7 ⟨rfl,a7,hC7,h7⟩;clear hl y0 y1;(have h6:=h7.bN 3 #[.int .i64 (-1)]);(have k1:=h6.bC 2 rfl 0);(have k2:=h6.bF 2 rfl 0);(have h5:=h6.bS 2 rfl 0 (.int .i64 0));(have k3:=h5.bC 2 rfl 0);(have k4:=h5.bC 0 rfl 0);(have k5:=h5.bF 2 rfl 0);(have h4:Sep w0 _ (volR f q p T a7::errBox (w.heap.size+1+1) 0::([.box w7.heap.size 3 #[.int .i64 (-1)],.box (w.heap.size+1) 35 #[.slice A bs.length c],.box w.heap.size 24 #[.pointer (some ⟨f,0,none⟩)]]++R)):=Sep.sel [1,2,0,3,4] h5 (by decide) (by simp[errBox]));(obtain⟨y0,y1⟩:=hcs.out _ [_,_,_] h4);simp only[gA,gB]at k1 k3 k4;clear h6 h7 h5;(have ho7:=hon.out _ _ _ h4);replace h4:=Lh h4)|(go_at_call 43;refine(smust_any _ _).mono ?_;rintro e w6 ⟨rfl,h6⟩;obtain rfl:=h6.symm)|(go_at_call 62;refine ho7.mono ?_;rintro e w5 ⟨rfl,h5⟩;obtain rfl:=h5.symm;clear ho7));exact hg.out _ _ _ 0 _ hC7 h4.out rfl
   rw[if_neg h2]at hpr;obtain⟨m,hml,rfl⟩:∃m:Nat,m<T.names∧r2=(m:Int):=by
    rcases hm2 with e|⟨m,hm,e⟩
    ·omega
    exact⟨m,hm,e⟩
   rw[Int.toNat_natCast]at hpr;(have hold:=fun hk=>hOk.out.old d m hml (by rw[←hr.out]) hk);(have hin:Hid (∀W a R',VC T a→Sep w0 W (volR f q p T a::R')→Calls Tryz.prog 64 #[.pointer (some ⟨f,0,none⟩),.int .i64 (m:Nat)] W fun e w'=>∃v a2,e= .returned (.agg #[.int .i64 ((inoP T.cur m).kind:Nat),.int .i64 ((inoP T.cur m).mode:Nat),.int .i64 ((inoP T.cur m).links:Nat),.int .i64 ((inoP T.cur m).size:Nat),v])∧VC T a2∧Sep w0 w' (volR f q p T a2::R')):=Lh fun W a R' hC hW=>by refine(inode_any hC hV.vf hml (hV.few m hml) hW).mono ?_;rintro e w' ⟨v,a2,rfl,hR,h9⟩;exact⟨v,a2,rfl,hR.ok,h9.drop 1⟩);have hfk:=field_kind;have hvf:=Lh hV.vf;replace hml:=Lh hml;clear hm2 hln hle hok hOk hr h2 hdl hV;by_cases hk:(inoP T.cur m).kind=1
   ·rw[if_pos hk]at hpr;(have hk1:(((inoP T.cur m).kind:Int)==1)=true:=by rw[beq_iff_eq];omega);have hq:=Lh (fun tm W a y Y=>hquit.out tm W a 24 y Y hpr);clear hold hpr hgive hquit hst hfin hb hout hres hk;obtain⟨sv,hsv⟩:∃sv,sv=strV path:=⟨_,rfl⟩;unfold strV at*;rw[hbw]at*
    go_enter_defers Tryz.func21,Tryz.ntmps21
    go_wp2_with(first |(go_at_call 42;refine haw.mono ?_;rintro e w9 ⟨rfl,a9,hC9,h9⟩;replace hC9:=Lh hC9;clear haw)|(go_at_call 60;refine(hpl.out _).mono ?_;rintro e w8 ⟨rfl,hb8⟩;replace h9:=h9.pure hb8;(obtain⟨y0,y1⟩:=hcs.out _ [_,_] h9);(have hl:=hlk2.out _ _ _ hC9.out h9);clear hb8 hpl h9)|(go_at_call 61;refine hl.mono ?_;rintro e w7 ⟨rfl,a7,hC7,h7⟩;clear hl y0 y1;(have h6:=h7.bN 3 #[.int .i64 (m:Nat)]);(have k1:=h6.bC 2 rfl 0);(have k2:=h6.bF 2 rfl 0);(have h5:=h6.bS 2 rfl 0 (.int .i64 0));(have k3:=h5.bC 2 rfl 0);(have k4:=h5.bC 0 rfl 0);(have k5:=h5.bF 2 rfl 0);(have h4:Sep w0 _ (volR f q p T a7::errBox (w.heap.size+1+1) 0::([.box w7.heap.size 3 #[.int .i64 (m:Nat)],.box (w.heap.size+1) 35 #[.slice A bs.length c],.box w.heap.size 24 #[.pointer (some ⟨f,0,none⟩)]]++R)):=Sep.sel [1,2,0,3,4] h5 (by decide) (by simp[errBox]));(obtain⟨y0,y1⟩:=hcs.out _ [_,_,_] h4);simp only[gA,gB]at k1 k3 k4;clear h6 h7 h5;(have hi7:=hin.out _ _ _ hC7 h4.drew);(have hy:=Lh (hcs.out _ [_,_,_] h4.drew));(have hk4:=h4.drew.bC 2 rfl 0);simp only[gA,gB]at hk4;clear h4)|(go_at_call 43;refine(smust_any _ _).mono ?_;rintro e w6 ⟨rfl,h6⟩;obtain rfl:=h6.symm)|(go_at_call 64;refine hi7.mono ?_;rintro e w5 ⟨v5,a5,rfl,hC5,h5⟩;(have k6:=h5.bC 1 rfl 0);(have k7:=h5.bF 1 rfl 0);simp only[gA,gB]at k6;clear hi7));refine wp_noPanic ?_;refine wp_region_E (S:=fun w'=>w'.cell? ⟨w.heap.size,0,none⟩=some (.pointer (some ⟨f,0,none⟩))∧w'.cell? ⟨w7.heap.size,0,none⟩=some (.int .i64 (m:Nat))) 8 (by kernel_rfl) ?_;simp only[List.size_toArray,List.length_cons,List.length_nil,Nat.reduceAdd];have hE:=And.intro hy.out.1 hk4;refine wpE_tk (i:=0) (v:=?_) hE rfl ?_ ?_;rotate_left
    ·rintro w ⟨e1,e2⟩;go_simp;try with_reducible rfl
    simp only[Act.put,gD];refine wpE_tk (i:=1) (v:=?_) hE rfl ?_ ?_;rotate_left
    ·rintro w ⟨e1,e2⟩;go_simp;try with_reducible rfl
    simp only[Act.put,gD];refine wpE_tk (i:=2) (v:=?_) hE rfl ?_ ?_;rotate_left
    ·rintro w ⟨e1,e2⟩;go_simp;try with_reducible rfl
    simp only[Act.put,gD];refine wpE_tk (i:=3) (v:=?_) hE rfl ?_ ?_;rotate_left
    ·rintro w ⟨e1,e2⟩;go_simp;try with_reducible rfl
    simp only[Act.put,gD];refine wpE_tk (i:=4) (v:=?_) hE rfl ?_ ?_;rotate_left
    ·rintro w ⟨e1,e2⟩;go_simp;try with_reducible rfl
    simp only[Act.put,gD];refine wpE_one (i:=5) (by kernel_rfl) rfl (fun K hK=>?_);go_simp;go_at_call 64;refine hi7.mono ?_;rintro e w5 ⟨v5,a5,rfl,hC5,h5⟩;have k6:=h5.bC 1 rfl 0;have k7:=h5.bF 1 rfl 0;have hE5:=And.intro (hcs.out _ [_,_,_] h5).1 (h5.bC 2 rfl 0);simp only[gA,gB]at k6 hE5;clear hE;dsimp only;refine hK _ _ (fun _=>hE5) ?_;clear hK K;(try simp only[Act.put,gD]);refine wpE_one (i:=6) (by kernel_rfl) rfl (fun K hK=>?_);go_simp;refine hK _ _ (fun _=>hE5) ?_;clear hK K;(try simp only[Act.put,gD]);refine wpE_one (i:=7) (by kernel_rfl) rfl (fun K hK=>?_);go_simp;refine hK _ _ (fun _=>hE5) ?_;clear hK K;(try simp only[Act.put,gD]);refine wpE_done (by kernel_rfl) ?_ _;simp only[noPanic];go_wp2_with fail;exact hq.out _ _ a5 0 _ hC5 h5 rfl
   rw[if_neg hk]at hpr;(have hk1:(((inoP T.cur m).kind:Int)==1)=false:=by rw[beq_eq_false_iff_ne];omega);obtain⟨hio,hsw,hco⟩:=hold hk;have hch:Hid (bs.length≤8192→∀W a nb,VC T a→Sep w0 W (volR f q p T a::([errBox (b+1+1) 0,.box nb 3 #[.int .i64 (m:Nat)],.box (b+1) 35 #[.slice A bs.length c],.box b 24 #[.pointer (some ⟨f,0,none⟩)]]++R))→
     Calls Tryz.prog 65 #[.pointer (some ⟨f,0,none⟩),.func (.func 66) #[] #[.pointer (some ⟨b,0,none⟩),.pointer (some ⟨nb,0,none⟩),.pointer (some ⟨b+1,0,none⟩)]] W (fun e w'=>opD f q p T (putR T path bs) w0 (errBox (b+1+1) 0::([.box nb 3 #[.int .i64 (m:Nat)],.box (b+1) 35 #[.slice A bs.length c],.box b 24 #[.pointer (some ⟨f,0,none⟩)]]++R)) e w')):=Lh fun h81 W a nb hC hW=>by
    (refine(change_any (r:=fillP T m bs) (R':=[errBox (b+1+1) 0,.box nb 3 #[.int .i64 (m:Nat)],.box (b+1) 35 #[.slice A bs.length c],.box b 24 #[.pointer (some ⟨f,0,none⟩)]]++R) enters_put1 hC hb hco (fun W' X hX=>?_) hW).mono fun e w' hz=>by rw[hpr];exact hz);refine put1_any (v:=.slice A bs.length c) (fun W2 Y hY=>?_) hC hvf.out hio hsw h81 (fun W2 Y hY=>hst W2 (Y++X++[errBox (b+1+1) 0,.box nb 3 #[.int .i64 (m:Nat)],.box (b+1) 35 #[.slice A bs.length c],.box b 24 #[.pointer (some ⟨f,0,none⟩)]]) (by simpa using hY)) hX;(have hY2:Sep w0 W2 ((Y++X)++([errBox (b+1+1) 0,.box nb 3 #[.int .i64 (m:Nat)],.box (b+1) 35 #[.slice A bs.length c],.box b 24 #[.pointer (some ⟨f,0,none⟩)]]++R)):=by rw[List.append_assoc];exact hY);exact⟨hY2.box_in 3 rfl 0,hY2.box_in 1 rfl 0,hY2.box_in 2 rfl 0⟩
   have hch2:=Lh (hch.out (by omega));clear hold hpr hgive hquit hst hk hio hsw hco hch hvf;replace hb:=Lh hb;(have hmf:∀(fn:Fn) (first cap:Array Value) (w:World),(Instr.makeFunc fn first cap).run Tryz.prog w= .ok (.func fn first cap) w:=fun _ _ _ _=>rfl);obtain⟨sv,hsv⟩:∃sv,sv=strV path:=⟨_,rfl⟩;unfold strV at*;rw[hbw]at*
   go_enter_defers Tryz.func21,Tryz.ntmps21
   go_wp2_with(first |(go_at_call 42;refine haw.mono ?_;rintro e w9 ⟨rfl,a9,hC9,h9⟩;replace hC9:=Lh hC9;clear haw)|(go_at_call 60;refine(hpl.out _).mono ?_;rintro e w8 ⟨rfl,hb8⟩;replace h9:=h9.pure hb8;(obtain⟨y0,y1⟩:=hcs.out _ [_,_] h9);(have hl:=hlk2.out _ _ _ hC9.out h9);clear hb8 hpl h9)|(go_at_call 61;refine hl.mono ?_;rintro e w7 ⟨rfl,a7,hC7,h7⟩;clear hl y0 y1;(have h6:=h7.bN 3 #[.int .i64 (m:Nat)]);(have k1:=h6.bC 2 rfl 0);(have k2:=h6.bF 2 rfl 0);(have h5:=h6.bS 2 rfl 0 (.int .i64 0));(have k3:=h5.bC 2 rfl 0);(have k4:=h5.bC 0 rfl 0);(have k5:=h5.bF 2 rfl 0);(have h4:Sep w0 _ (volR f q p T a7::errBox (w.heap.size+1+1) 0::([.box w7.heap.size 3 #[.int .i64 (m:Nat)],.box (w.heap.size+1) 35 #[.slice A bs.length c],.box w.heap.size 24 #[.pointer (some ⟨f,0,none⟩)]]++R)):=Sep.sel [1,2,0,3,4] h5 (by decide) (by simp[errBox]));(obtain⟨y0,y1⟩:=hcs.out _ [_,_,_] h4);simp only[gA,gB]at k1 k3 k4;clear h6 h7 h5;(have hi7:=hin.out _ _ _ hC7 h4.drew);(have hy:=Lh (hcs.out _ [_,_,_] h4.drew));(have hk4:=h4.drew.bC 2 rfl 0);simp only[gA,gB]at hk4;clear h4)|(go_at_call 43;refine(smust_any _ _).mono ?_;rintro e w6 ⟨rfl,h6⟩;obtain rfl:=h6.symm)|(go_at_call 64;refine hi7.mono ?_;rintro e w5 ⟨v5,a5,rfl,hC5,h5⟩;(have k6:=h5.bC 1 rfl 0);(have k7:=h5.bF 1 rfl 0);simp only[gA,gB]at k6;clear hi7));refine wp_noPanic ?_;refine wp_region_E (S:=fun w'=>w'.cell? ⟨w.heap.size,0,none⟩=some (.pointer (some ⟨f,0,none⟩))∧w'.cell? ⟨w7.heap.size,0,none⟩=some (.int .i64 (m:Nat))) 8 (by kernel_rfl) ?_;simp only[List.size_toArray,List.length_cons,List.length_nil,Nat.reduceAdd];have hE:=And.intro hy.out.1 hk4;refine wpE_tk (i:=0) (v:=?_) hE rfl ?_ ?_;rotate_left
   ·rintro w ⟨e1,e2⟩;go_simp;try with_reducible rfl
   simp only[Act.put,gD];refine wpE_tk (i:=1) (v:=?_) hE rfl ?_ ?_;rotate_left
   ·rintro w ⟨e1,e2⟩;go_simp;try with_reducible rfl
   simp only[Act.put,gD];refine wpE_tk (i:=2) (v:=?_) hE rfl ?_ ?_;rotate_left
   ·rintro w ⟨e1,e2⟩;go_simp;try with_reducible rfl
   simp only[Act.put,gD];refine wpE_tk (i:=3) (v:=?_) hE rfl ?_ ?_;rotate_left
   ·rintro w ⟨e1,e2⟩;go_simp;try with_reducible rfl
   simp only[Act.put,gD];refine wpE_tk (i:=4) (v:=?_) hE rfl ?_ ?_;rotate_left
   ·rintro w ⟨e1,e2⟩;go_simp;try with_reducible rfl
   simp only[Act.put,gD];refine wpE_one (i:=5) (by kernel_rfl) rfl (fun K hK=>?_);go_simp;go_at_call 64;refine hi7.mono ?_;rintro e w5 ⟨v5,a5,rfl,hC5,h5⟩;have k6:=h5.bC 1 rfl 0;have k7:=h5.bF 1 rfl 0;have hE5:=And.intro (hcs.out _ [_,_,_] h5).1 (h5.bC 2 rfl 0);simp only[gA,gB]at k6 hE5;clear hE;dsimp only;refine hK _ _ (fun _=>hE5) ?_;clear hK K;(try simp only[Act.put,gD]);refine wpE_one (i:=6) (by kernel_rfl) rfl (fun K hK=>?_);go_simp;refine hK _ _ (fun _=>hE5) ?_;clear hK K;(try simp only[Act.put,gD]);refine wpE_one (i:=7) (by kernel_rfl) rfl (fun K hK=>?_);go_simp;refine hK _ _ (fun _=>hE5) ?_;clear hK K;(try simp only[Act.put,gD]);refine wpE_done (by kernel_rfl) ?_ _;simp only[noPanic];have hch5:=hch2.out _ _ _ hC5 h5;have hE1:=hE5.1;clear h5 hC5 k6 k7 hch2;go_wp2_with fail;go_at_call 65;refine hch5.mono ?_;intro e wz hz2;clear hch5 hE1 hE5 y0 y1 k1 k2 k3 k4 k5 hin hy;rcases opD_ends hz2 with rfl|⟨k,rfl⟩
   ·obtain⟨_,hE⟩:=opD_ret hb.out hz2;obtain⟨k1,k2⟩:=endS_box hE;replace hE:=Lh hE;clear hz2;go_wp2_with fail;refine told_door_ret (hout.out _ _ 0 _ rfl (endS_stored (z:=0) hE.out))
   exact hfin.out _ _ _ _ rfl hz2
  rw[if_neg h3]at hpr;(have h11:r3≠11:=by rcases hle with e|e|e<;>rw[e]<;>decide);have hg:=Lh (fun tm W a y Y=>hgive.out tm W a r3 y Y hpr h11);clear hOk hpr hV hfin hgive hquit hst hlen hout hres hb hln hok hle hr;obtain⟨sv,hsv⟩:∃sv,sv=strV path:=⟨_,rfl⟩;unfold strV at*;rw[hbw]at*
  go_enter_defers Tryz.func21,Tryz.ntmps21
  go_wp2_with(first |(go_at_call 42;refine haw.mono ?_;rintro e w9 ⟨rfl,a9,hC9,h9⟩;replace hC9:=Lh hC9;clear haw)|(go_at_call 60;refine(hpl.out _).mono ?_;rintro e w8 ⟨rfl,hb8⟩;replace h9:=h9.pure hb8;(obtain⟨y0,y1⟩:=hcs.out _ [_,_] h9);(have hl:=hlk2.out _ _ _ hC9.out h9);clear hb8 hpl h9)|(go_at_call 61;refine hl.mono ?_;rintro e w7 ⟨rfl,a7,hC7,h7⟩;clear hl y0 y1;(have h6:=h7.bN 3 #[.int .i64 r2]);(have k1:=h6.bC 2 rfl 0);(have k2:=h6.bF 2 rfl 0);(have h5:=h6.bS 2 rfl 0 (.int .i64 r3));(have k3:=h5.bC 2 rfl 0);simp only[gA,gB]at k1 k3;replace h5:=Lh h5;clear h6 h7)|(go_at_call 43;refine(smust_any _ _).mono ?_;rw[if_neg h3];rintro e w6 ⟨rfl,h6⟩;obtain rfl:=h6.symm));have h4:Sep w0 _ (volR f q p T a7::errBox (w.heap.size+1+1) r3::([_,_,_]++R)):=Sep.sel [1,2,0,3,4] h5.out (by decide) (by simp[errBox]);exact hg.out _ _ _ r3 _ hC7 h4 rfl
 have hpr:putR T path bs= .error (plainE path):=by unfold putR;rw[if_neg h0]
 have hg:=Lh (fun tm W a y Y=>hgive.out tm W a (plainE path) y Y hpr hpw);rw[if_neg h0]at hpl;clear hOk hpr hlk hV hfin hgive hquit hst hlen hout hres hb hcs;obtain⟨sv,hsv⟩:∃sv,sv=strV path:=⟨_,rfl⟩;unfold strV at*;rw[hbw]at*
 go_enter_defers Tryz.func21,Tryz.ntmps21
 go_wp2_with(first |(go_at_call 42;refine haw.mono ?_;rintro e w9 ⟨rfl,a9,hC9,h9⟩;replace hC9:=Lh hC9;clear haw)|(go_at_call 60;refine(hpl.out _).mono ?_;rintro e w8 ⟨rfl,hb8⟩;replace h9:=h9.pure hb8;clear hb8 hpl));exact hg.out _ _ a9 0 [_,_] hC9.out h9 rfl
end
end Go.Proofs.YteihmbaimbogaaaGreat
namespace Go.Proofs.YteihmbaimbogaaaGreat
set_option linter.unusedVariables false
set_option linter.unusedSimpArgs false
theorem sumN_bound {f:Nat→Int} {n:Nat} {a b:Int} (h:∀i<n,a≤f i∧f i≤b):a*n≤sumN f n∧sumN f n≤b*n:=by
 induction n with
 |zero=>simp[sumN]
 |succ n ih=>rw[sumN_succ];(have h1:=ih fun i hi=>h i (by omega));have h2:=h n (by omega);push_cast;rw[Int.mul_add,Int.mul_add];omega
theorem LI.wgh_le {x:LI} (h:x.fair):0≤wghB x.kind x.size∧wghB x.kind x.size≤28:=by
 unfold wghB;have h1:=h.few;have h2:=h.short;by_cases k1:x.kind=1
 ·rw[if_pos k1,dir_size k1];omega
 rw[if_neg k1];by_cases k2:x.kind=2
 ·(have e:x.size=x.data.length:=by unfold LI.size;rw[if_neg k1]);rw[if_pos k2,e];split<;>omega
 rw[if_neg k2];omega
section
variable {S:VS} {g:LT}
theorem Phys.names_le (h:Phys S g):S.names≤1024:=h.use.vf.names
theorem Phys.smallW (h:Phys S g):0≤S.wB∧S.wB≤28*S.names∧0≤S.wI∧S.wI≤S.names:=by
 have h1:=sumN_bound (f:=fun n=>wghB (g n).kind (g n).size) (n:=S.names) (a:=0) (b:=28) fun i hi=>LI.wgh_le (h.fair i hi)
 have h2:=sumN_bound (f:=fun n=>wghI (g n).kind) (n:=S.names) (a:=0) (b:=1) fun i _=>wghI_le
 rw[h.wB,h.wI];omega
theorem Phys.sw (h:Phys S g):SmallW S:=by have:=h.smallW;have:=h.names_le;exact⟨by omega,by omega,by omega,by omega⟩
theorem Phys.nodes_le (h:Phys S g):0≤S.nodes∧S.nodes≤448*S.names:=by
 have h1:=sumN_bound (f:=fun n=>((g n).ents.length:Int)) (n:=S.names) (a:=0) (b:=448) fun i hi=>⟨by omega,by have:=(h.fair i hi).few;omega⟩
 rw[h.nodes];omega
theorem Phys.sv (h:Phys S g):SmallV S:=by have:=h.nodes_le;have:=h.names_le;exact⟨h.sw,by omega,by omega⟩
theorem Phys.inoOk (h:Phys S g) {n:Nat} (hn:n<S.names):InoOk S n:=⟨hn,h.few hn,h.lt n hn⟩
theorem Phys.tabOk (h:Phys S g):TabOk S.cur S.names:=fun n hn=>h.few hn
theorem sumN_nonneg {f:Nat→Int} {n:Nat} (h:∀i<n,0≤f i):0≤sumN f n:=by
 induction n with
 |zero=>exact Int.le_refl _
 |succ n ih=>rw[sumN_succ];(have h1:=ih fun i hi=>h i (by omega));have h2:=h n (by omega);omega
theorem ents_le_nodes {g:LT} {n d:Nat} (hd:d<n):((g d).ents.length:Int)≤sumN (fun i=>((g i).ents.length:Int)) n:=by
 have h1:=sumN_upd (f:=fun i=>((g i).ents.length:Int)) (g:=fun i=>if i=d then 0 else((g i).ents.length:Int)) hd fun i _ e=>if_neg e
 have h2:=sumN_nonneg (f:=fun i=>if i=d then(0:Int)else((g i).ents.length:Int)) (n:=n) fun i hi=>by split<;>omega
 simp only[if_pos]at h1;omega
theorem Phys.ents_le (h:Phys S g) {d:Nat} (hd:d<S.names):((g d).ents.length:Int)≤S.nodes:=by rw[h.nodes];exact ents_le_nodes hd
theorem entAt_len (h:Phys S g) {n i:Nat} (hn:n<S.names) (hi:i<16*(inoP S.cur n).spots.length):(entAt S.cur S.data (inoP S.cur n) i).length=32:=by unfold entAt entB;have hs:=h.lt n hn _ (getD_mem (l:=(inoP S.cur n).spots) (a:=i/16) (by omega));have hl:=bk_len h.use.cur (h.use.room hs);rw[List.length_take,List.length_drop,hl];omega
theorem Phys.dirOk (h:Phys S g) {n:Nat} (hn:n<S.names) (hk:(g n).kind=1):DirOk S (inoP S.cur n):=by
 have hroom:=h.dirRoom hn hk;refine⟨h.few hn,hroom,h.lt n hn,fun i hi=>?_⟩;have he:=h.ents n hn hk;have hl:=entAt_len h hn (i:=i) (by omega);have hm:eat (dirL S.cur S.data (inoP S.cur n)) i∈(g n).ents:=by rw[he];exact eat_mem (by rw[←he,dirL_len];exact hi)
 have h15:=((h.fair n hn).names _ hm).1;rw[dirL_at hi]at h15;simp only[enN,List.length_take,List.length_drop,hl]at h15;omega
structure Vol (S:VS) (g:LT):Prop where
 ph:Phys S g
 ent:∀n<S.names,∀e∈(g n).ents,e.2<S.names
 root:(g 0).kind=1
 few:S.nodes≤256
 rB:S.rB=S.count
 rI:S.rI=S.names
theorem Vol.vw (h:Vol S g):VW S:=
 ⟨h.ph.use.vf,h.ph.n0,fun n hn=>h.ph.few hn,fun n hn=>h.ph.lt n hn,fun n hn hk=>h.ph.dirOk hn (by rw[←h.ph.kind hn];exact hk),fun n hn hk e he=>by(have hk1:(g n).kind=1:=by rw[←h.ph.kind hn];exact hk);rw[h.ph.ents n hn hk1]at he;exact⟨h.ent n hn e he,((h.ph.fair n hn).names e he).1⟩⟩
theorem Vol.rootI (h:Vol S g):(inoP S.cur 0).kind=1:=by rw[h.ph.kind h.ph.n0];exact h.root
theorem Vol.fileRoom (h:Vol S g):∀m<S.names,(inoP S.cur m).kind≠1→(inoP S.cur m).size≤512*(inoP S.cur m).spots.length:=fun m hm hk=>by
 rw[h.ph.size hm,h.ph.len m hm];rw[h.ph.kind hm]at hk;have hf:=h.ph.fair m hm;unfold LI.size LI.need;rw[if_neg hk,if_neg hk];by_cases k2:(g m).kind=2
 ·rw[if_pos k2];omega
 rw[hf.data k2];simp
theorem Phys.leaveOk (h:Phys S g) {dir i:Nat} {name:List UInt8} (hd:dir<S.names) (hk:(g dir).kind=1) (hn:name.length≤15) (hi:i<(g dir).ents.length) (hf:(lookE (g dir).ents name).1=i):LeaveOk S dir name:=by
 have he:=h.ents dir hd hk;have hsz:(inoP S.cur dir).size=(g dir).ents.length:=by rw[h.size hd,dir_size hk]
 refine⟨hd,h.dirOk hd hk,hn,⟨i,by rw[hsz];exact hi,by rw[he];exact hf⟩,?_,?_⟩
 ·rw[he,hsz];exact((h.fair dir hd).names _ (eat_mem (by omega))).1
 rw[h.len dir hd,dir_need hk,hsz]
theorem Phys.enterOk (h:Phys S g) {dir n:Nat} {name:List UInt8} (hd:dir<S.names) (hk:(g dir).kind=1) (hsz:(g dir).ents.length<448) (hn:name.length≤15) (hm:n≤65535):EnterOk S dir n name:=
 ⟨h.inoOk hd,by rw[h.size hd,dir_size hk];exact hsz,hn,hm⟩
theorem small_of {z:Int} (h0: -10000000≤z) (h1:z≤10000000):SmallI z:=by unfold SmallI;omega
theorem Phys.changeOk {S1:VS} {g1:LT} (hr:S.rB=S.count∧S.rI=S.names) (hu:UseOk S) (hL:Like S S1) (h1:Phys S1 g1) (hm:S1.m≤40):ChangeOk S S1:=by
 have h2:=h1.smallW;have h3:=h1.names_le;have h4:=hu.nb;have h5:=hL.rB;have h6:=hL.rI;have h7:(S.count:Int)≤4096:=by unfold VS.count;omega
 have h8:=hu.vf.names;refine⟨hL,hm,small_of (by omega) (by omega),small_of (by omega) (by omega),small_of ?_ ?_,small_of ?_ ?_⟩
 ·rw[h5,hr.1];omega
 ·rw[h5,hr.1];omega
 ·rw[h6,hr.2];omega
 rw[h6,hr.2];omega
theorem Phys.enter_m (h:Phys S g) {dir n:Nat} {name:List UInt8} (hd:dir<S.names) (hk:(g dir).kind=1) {S1:VS} (he:enterP S dir name n=some S1):S1.m≤S.m+3:=by
 unfold enterP at he;have hsz:(inoP S.cur dir).size=(g dir).ents.length:=by rw[h.size hd,dir_size hk]
 have hl:(inoP S.cur dir).spots.length=max 1 (((g dir).ents.length+15)/16):=by rw[h.len dir hd,dir_need hk]
 split at he
 ·cases he
 rename_i S2 l hf;cases he;have:=(fitP_used hf).1.m;show S2.m+1+1≤_
 rw[this];show S.m+_+1+1≤_
 rw[hsz,hl];omega
theorem Phys.leave_m (h:Phys S g) {dir:Nat} {name:List UInt8} (hd:dir<S.names) (hk:(g dir).kind=1):(leaveP S dir name).m≤S.m+4:=by
 have hsz:(inoP S.cur dir).size=(g dir).ents.length:=by rw[h.size hd,dir_size hk]
 have hl:(inoP S.cur dir).spots.length=max 1 (((g dir).ents.length+15)/16):=by rw[h.len dir hd,dir_need hk]
 unfold leaveP;simp only;have h2:=(leave2_laid S (inoP S.cur dir) name).m;split
 ·omega
 rename_i S4 l hf;have:=(fitP_used hf).1.m;show S4.m+1≤_
 rw[this];show(leave2 S (inoP S.cur dir) name).m+_+1≤_
 rw[h2,hsz,hl];omega
theorem drop_m (S:VS) (n:Nat):(dropP S n).m≤S.m+(inoP S.cur n).spots.length+1:=by
 obtain⟨S1,h1,h2⟩:=dropP_eq (S:=S) (n:=n);rw[h2];have:=(fitP_used h1).1.m;show S1.m+1≤_
 omega
theorem fill_m {S1:VS} {n:Nat} {bs:List UInt8} (hf:fillP S n bs=some S1):S1.m≤S.m+(inoP S.cur n).spots.length+2*((bs.length+511)/512)+1:=by
 unfold fillP at hf;split at hf
 ·cases hf
 rename_i S2 l h1;cases hf;have h2:=(fitP_used h1);have h3:=(laysP_laid bs l 0 S2).m;show(laysP bs l 0 S2).m+1≤_
 rw[h3,h2.1.m,h2.2];omega
end
end Go.Proofs.YteihmbaimbogaaaGreat
namespace Go.Proofs.YteihmbaimbogaaaGreat
structure TN where
 path:List UInt8
 file:Int
 mode:Int
deriving DecidableEq
end Go.Proofs.YteihmbaimbogaaaGreat
