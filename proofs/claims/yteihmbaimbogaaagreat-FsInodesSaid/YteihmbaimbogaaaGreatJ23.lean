/- Parts. -/
import Derived.Test.YteihmbaimbogaaaGreatJ22
set_option linter.unusedVariables false
set_option linter.unusedSimpArgs false
set_option maxRecDepth 100000
set_option maxHeartbeats 20000000
namespace Go.Proofs.YteihmbaimbogaaaGreat
open Go.RowKit
section
variable {w0 w:World} {R:List bK} {f q p:Nat} {S:VS} {a:VA}
def DW (b:Nat) (op:Int) (path tz:List UInt8) (mode kk:Int):bK:=.box b 38 #[iV op,aC path,aC tz,iV mode,iV kk]
theorem Sep.aHS (h:Sep w0 w R):∃w1 w2 w3 w4 w5 w6 w7 w8 w9,
  (Instr.mapUpdate 94 (.map (some w.heap.size)) (.int .i64 1) (.func (.func 45) #[pV f] #[])).run Tryz.prog (w.alloc (.map #[] 0))= .ok () w1/\
  (Instr.mapUpdate 94 (.map (some w.heap.size)) (.int .i64 2) (.func (.func 46) #[pV f] #[])).run Tryz.prog w1= .ok () w2/\
  (Instr.mapUpdate 94 (.map (some w.heap.size)) (.int .i64 3) (.func (.func 47) #[pV f] #[])).run Tryz.prog w2= .ok () w3/\
  (Instr.mapUpdate 94 (.map (some w.heap.size)) (.int .i64 4) (.func (.func 48) #[pV f] #[])).run Tryz.prog w3= .ok () w4/\
  (Instr.mapUpdate 94 (.map (some w.heap.size)) (.int .i64 5) (.func (.func 49) #[pV f] #[])).run Tryz.prog w4= .ok () w5/\
  (Instr.mapUpdate 94 (.map (some w.heap.size)) (.int .i64 6) (.func (.func 50) #[pV f] #[])).run Tryz.prog w5= .ok () w6/\
  (Instr.mapUpdate 94 (.map (some w.heap.size)) (.int .i64 7) (.func (.func 51) #[pV f] #[])).run Tryz.prog w6= .ok () w7/\
  (Instr.mapUpdate 94 (.map (some w.heap.size)) (.int .i64 8) (.func (.func 52) #[pV f] #[])).run Tryz.prog w7= .ok () w8/\
  (Instr.mapUpdate 94 (.map (some w.heap.size)) (.int .i64 9) (.func (.func 53) #[pV f] #[])).run Tryz.prog w8= .ok () w9/\
  Sep w0 w9 (rP 3 w.heap.size (rW f)::R):=by
 have hM0:=h.atF 3;obtain⟨w1,r1,hM1⟩:=hM0.uU 0 rfl gT Tryz.underlying94 (by show(0:Nat)<maxLen;decide) (v:=.func (.func 45) #[.pointer (some ⟨f,0,none⟩)] #[]) (kY 1 aQ);replace hM1:Sep w0 w1 (rP 3 w.heap.size ((rW f).take 1)::R):=hM1;obtain⟨w2,r2,hM2⟩:=hM1.uU 0 rfl gT Tryz.underlying94 (by show(1:Nat)<maxLen;decide) (v:=.func (.func 46) #[.pointer (some ⟨f,0,none⟩)] #[]) (kY 2 aQ);replace hM2:Sep w0 w2 (rP 3 w.heap.size ((rW f).take 2)::R):=hM2;obtain⟨w3,r3,hM3⟩:=hM2.uU 0 rfl gT Tryz.underlying94 (by show(2:Nat)<maxLen;decide) (v:=.func (.func 47) #[.pointer (some ⟨f,0,none⟩)] #[]) (kY 3 aQ);replace hM3:Sep w0 w3 (rP 3 w.heap.size ((rW f).take 3)::R):=hM3;obtain⟨w4,r4,hM4⟩:=hM3.uU 0 rfl gT Tryz.underlying94 (by show(3:Nat)<maxLen;decide) (v:=.func (.func 48) #[.pointer (some ⟨f,0,none⟩)] #[]) (kY 4 aQ);replace hM4:Sep w0 w4 (rP 3 w.heap.size ((rW f).take 4)::R):=hM4;obtain⟨w5,r5,hM5⟩:=hM4.uU 0 rfl gT Tryz.underlying94 (by show(4:Nat)<maxLen;decide) (v:=.func (.func 49) #[.pointer (some ⟨f,0,none⟩)] #[]) (kY 5 aQ);replace hM5:Sep w0 w5 (rP 3 w.heap.size ((rW f).take 5)::R):=hM5;obtain⟨w6,r6,hM6⟩:=hM5.uU 0 rfl gT Tryz.underlying94 (by show(5:Nat)<maxLen;decide) (v:=.func (.func 50) #[.pointer (some ⟨f,0,none⟩)] #[]) (kY 6 aQ);replace hM6:Sep w0 w6 (rP 3 w.heap.size ((rW f).take 6)::R):=hM6;obtain⟨w7,r7,hM7⟩:=hM6.uU 0 rfl gT Tryz.underlying94 (by show(6:Nat)<maxLen;decide) (v:=.func (.func 51) #[.pointer (some ⟨f,0,none⟩)] #[]) (kY 7 aQ);replace hM7:Sep w0 w7 (rP 3 w.heap.size ((rW f).take 7)::R):=hM7;obtain⟨w8,r8,hM8⟩:=hM7.uU 0 rfl gT Tryz.underlying94 (by show(7:Nat)<maxLen;decide) (v:=.func (.func 52) #[.pointer (some ⟨f,0,none⟩)] #[]) (kY 8 aQ);replace hM8:Sep w0 w8 (rP 3 w.heap.size ((rW f).take 8)::R):=hM8;obtain⟨w9,r9,hM9⟩:=hM8.uU 0 rfl gT Tryz.underlying94 (by show(8:Nat)<maxLen;decide) (v:=.func (.func 53) #[.pointer (some ⟨f,0,none⟩)] #[]) (kY 9 aQ);replace hM9:Sep w0 w9 (rP 3 w.heap.size ((rW f).take 9)::R):=hM9;exact⟨w1,w2,w3,w4,w5,w6,w7,w8,w9,r1,r2,r3,r4,r5,r6,r7,r8,r9,hM9⟩
def GG (w0:World) (R:List bK) (A:Option Addr) (n:Nat) (kk:Int) (bs:List UInt8):Prop:=
 ∀k:Nat,kk=k->k<n->∃sa B cc,A=some sa/\(∀W Y,Sep w0 W (Y++R)->W.cell? (sa.add k)=some (.slice B bs.length cc))/\jB w0 R (.slice B bs.length cc) bs
theorem abT {IP:FuncId} {op mode kk ck:Int} {path tz bs:List UInt8} {A:Option Addr} {n c:Nat} {r:Except Int (Option VS)} (hp:path.length<=9223372036854775807) (ht:tz.length<=9223372036854775807) (hn:n<=9223372036854775807) (hlen:bs.length<=9223372036854775807)
  (ho:S.D.off=false) (hop: -9223372036854775808<=op/\op<=9223372036854775807) (hck:ck=uW (dA op).1 (dA op).2.1 (dA op).2.2 op path tz mode kk n bs.length)
  (hrow:ck=0->getM (rW f) (.int .i64 op)=some (.func (.func IP) #[pV f] #[])) (hent:∀args w,(callFunc IP args).run Tryz.prog w= .ok (.enter IP args) w) (hst:GG w0 R A n kk bs) (hpr:ao6 r) (ajZ:ck≠11)
  (hdo:ck=0->∀W a X,VC S.base a->S.base.D.back=[]->Sep w0 W (aF f q p S.base a::(X++R))->Calls Tryz.prog IP #[pV f,.agg #[iV op,aC path,aC tz,iV mode,iV kk],.slice A n c] W (opD f q p S.base r w0 (X++R)))
  (h:Sep w0 w (bI f q p S::R)):
  Calls Tryz.prog 14 #[pV f,.agg #[iV op,aC path,aC tz,iV mode,iV kk],.slice A n c] w fun e w'=>∃x,e= .returned (iV x)/\oJ f q p S.base (if ck=0 then r else .error ck) w0 w' R x:=by
 have hb:S.base.D.back=[]:=by obtain⟨_,_,_,hR,_⟩:=h.qP;exact hR.back
 obtain⟨bi,hbi⟩:∃b,b=w.heap.size:=⟨_,rfl⟩;have h1:Sep w0 ((w.alloc (.cells #[iV op,aC path,aC tz,iV mode,iV kk] 38)).alloc (.cells #[iV 0] 39)) (bI f q p S::aI (bi+1) 0::DW bi op path tz mode kk::R):=by have:=(h.bN 38 #[iV op,aC path,aC tz,iV mode,iV kk]).bN 39 #[iV 0];rw[World.size_alloc,<-hbi]at this;exact Sep.dE [2,0,1] this aQ bM
 have haw:=EH ho h1;have hcs:Hid (∀W Y,Sep w0 W (Y++DW bi op path tz mode kk::R)->W.cell? ⟨bi,0,none⟩=some (iV op)/\W.cell? ⟨bi,1,none⟩=some (aC path)/\W.cell? ⟨bi,2,none⟩=some (aC tz)/\W.cell? ⟨bi,3,none⟩=some (iV mode)/\W.cell? ⟨bi,4,none⟩=some (iV kk)):=Lh fun W Y hW=>by(have hi:(Y++DW bi op path tz mode kk::R)[Y.length]? =some (DW bi op path tz mode kk):=by simp);exact⟨hW.bC _ hi 0,hW.bC _ hi 1,hW.bC _ hi 2,hW.bC _ hi 3,hW.bC _ hi 4⟩
 have hce:Hid (∀W Y,Sep w0 W (Y++DW bi op path tz mode kk::R)->Calls Tryz.prog 44 #[.agg #[iV op,aC path,aC tz,iV mode,iV kk],.slice A n c] W fun e w'=>e= .returned (iV ck)/\Below W.heap.size W w'):=Lh fun W Y hW=>by rw[hck];refine ao5 op mode kk (A:=A) (n:=n) (c:=c) (len:=bs.length) hp ht W (fun k hk hkn=>?_) hn hlen;obtain⟨sa,B,cc,rfl,h2,_⟩:=hst k hk hkn;refine⟨sa,B,cc,rfl,fun W' hW'=>h2 W' (Y++[DW bi op path tz mode kk]) ?_⟩;have:=hW.pure hW';simpa using this
 have hmm:= @run_makeMap Tryz.prog;have MN:∀(fn:Fn) (first cap:Array Value) (w:World),(Instr.makeFunc fn first cap).run Tryz.prog w= .ok (.func fn first cap) w:=fun _ _ _ _=>rfl
 have hres:Hid (∀(tm:Array Value) W x Y,tm.getD 6 undef=pV (bi+1)->Sep w0 W (Y++aI (bi+1) x::DW bi op path tz mode kk::R)->(results Tryz.f14 tm).run Tryz.prog W= .ok (.int .i64 x) W):=Lh fun tm W x Y ht hW=>by(have hi:(Y++aI (bi+1) x::DW bi op path tz mode kk::R)[Y.length]? =some (aI (bi+1) x):=by simp);have ec:=hW.bC _ hi 0;simp only[gA,gB]at ec;(have ht2:tm[6]?.getD undef=pV (bi+1):=by simpa using ht);simp[results,Tryz.results14,go_sem,ht2,asAddr,loadVar,ec]
 have hdr:Hid (∀W (r:Except Int (Option VS)) x y,oJ f q p S.base r w0 W (aI (bi+1) y::DW bi op path tz mode kk::R) x->oJ f q p S.base r w0 W R x):=Lh fun W r x y hE=>K9 hE fun Y hY=>by have h2:Sep w0 W (aI (bi+1) y::DW bi op path tz mode kk::(Y++R)):=hY.perm (by exact(rF.trans (List.Perm.cons _ rF)));exact h2.drop 2
 have hfin:Hid (∀(ps:List PanicEntry) W (r:Except Int (Option VS)) (tm:Array Value) (rr:Except Int (Option VS)),ao6 r->rr=r->tm.getD 6 undef=pV (bi+1)->opD f q p S.base r w0 (aI (bi+1) 0::DW bi op path tz mode kk::R) (.panicked ps) W->
   Leaves Tryz.prog Tryz.f14 tm (fun e w'=>∃x,e= .returned (iV x)/\oJ f q p S.base rr w0 w' R x) [{target:=.fn (.func 41) #[],args:=#[pV f,pV (bi+1)]}] (.panicking ps) W):=Lh fun ps W r tm rr hpr hrr ht hD=>by
  subst hrr;(refine afT hb hpr hD fun w' x hE=>?_);obtain⟨Y,hY⟩:=GD hE;exact⟨_,hres.out tm w' x Y ht hY,x,rfl,hdr.out _ _ _ _ hE⟩
 have hkey:keyOf Tryz.prog 3 (.int .i64 op)=some (.int .i64 op):=Maps.keyOf_int_mk Tryz.underlying3 (by simp[Lit.wf,IntKind.min,IntKind.max,IntKind.signed,IntKind.bits];omega);clear hop;replace hb:=Lh hb;clear hst hn hlen hp ht h h1;by_cases h0:ck=0
 ·rw[if_pos h0];replace hdo:=Lh (hdo h0);replace hrow:=Lh (hrow h0);clear hck ajZ;subst h0;obtain⟨st,hst⟩:∃v,v=aC path:=⟨_,rfl⟩;unfold aC at*;rw[hbi]at*
  go_enter_defers Tryz.func14,Tryz.ntmps14
  go_wp2_with(first |(go_at_call 42;refine haw.mono ?_;rintro e w9 ⟨rfl,a9,eG,h9⟩;have hi9:Sep w0 w9 ([aF f q p S.base a9,aI (w.heap.size+1) 0]++DW w.heap.size op path tz mode kk::R):=h9;obtain⟨e0,e1,e2,e3,e4⟩:=hcs.out _ _ hi9;have hch:=hce.out _ _ hi9;replace h9:=Lh h9;replace eG:=Lh eG;clear hi9 haw hce)|(go_at_call 44;refine hch.mono ?_;rintro e w8 ⟨rfl,wY⟩;have h8:=h9.out.pure wY;clear wY e0 e1 e2 e3 e4 hch h9)|(go_at_call 43;go_loud (refine(dU _ _).mono ?_;rintro e w7 ⟨rfl,h7⟩;obtain rfl:=h7.symm;obtain⟨x1,x2,x3,x4,x5,x6,x7,x8,x9,r1,r2,r3,r4,r5,r6,r7,r8,r9,hM⟩:=h8.aHS (f:=f);have hM2:Sep w0 x9 ([rP 3 w8.heap.size (rW f),aF f q p S.base a9,aI (w.heap.size+1) 0]++DW w.heap.size op path tz mode kk::R):=hM;obtain⟨e0,e1,e2,e3,e4⟩:=hcs.out _ _ hM2;have hlk:=hM.ayL 0 rfl gT Tryz.underlying94 (ao8 _) (key:=.int .i64 op) (kl:=.int .i64 op) hkey;rw[hrow.out,PO]at hlk;have hd:=hdo.out x9 a9 [aI (w.heap.size+1) 0,DW w.heap.size op path tz mode kk] eG.out hb.out (hM.drop 1);clear hM2 h8;replace hM:=Lh hM)));refine hd.mono ?_;intro e wz hz;clear hM e0 e1 e2 e3 e4 r1 r2 r3 r4 r5 r6 r7 r8 r9 hlk hd hdo;rcases TZ hz with rfl|⟨k,rfl⟩
  ·obtain⟨_,hE⟩:=abS hb.out hz;obtain⟨Y,hY⟩:=GD hE;(have hi:(Y++aI (w.heap.size+1) 0::DW w.heap.size op path tz mode kk::R)[Y.length]? =some (aI (w.heap.size+1) 0):=by simp);have k1:=hY.bC _ hi 0;have k2:=hY.bF _ hi 0;(have hE2:oJ f q p S.base r w0 (wz.setCell ⟨w.heap.size+1,0,none⟩ (.int .i64 0)) (aI (w.heap.size+1) 0::DW w.heap.size op path tz mode kk::R) 0:=K9 hE fun Z hZ=>by(have hi2:(Z++aI (w.heap.size+1) 0::DW w.heap.size op path tz mode kk::R)[Z.length]? =some (aI (w.heap.size+1) 0):=by simp);have h5:=hZ.bS _ hi2 0 (.int .i64 0);rw[QT _ _ (jL _),oO]at h5;exact h5);simp only[gA,gB]at k1;clear hi hY hz;replace hE2:=Lh hE2;clear hE;go_wp2_with fail;refine iY ?_;obtain⟨Y2,hY2⟩:=GD hE2.out;exact⟨_,hres.out _ _ 0 Y2 rfl hY2,0,rfl,hdr.out _ _ _ _ hE2.out⟩
  exact hfin.out _ _ r _ r hpr rfl rfl hz
 rw[if_neg h0];clear hdo hrow hck hent;obtain⟨st,hst⟩:∃v,v=aC path:=⟨_,rfl⟩;unfold aC at*;rw[hbi]at*
 go_enter_defers Tryz.func14,Tryz.ntmps14
 go_wp2_with(first |(go_at_call 42;refine haw.mono ?_;rintro e w9 ⟨rfl,a9,eG,h9⟩;have hi9:Sep w0 w9 ([aF f q p S.base a9,aI (w.heap.size+1) 0]++DW w.heap.size op path tz mode kk::R):=h9;obtain⟨e0,e1,e2,e3,e4⟩:=hcs.out _ _ hi9;have hch:=hce.out _ _ hi9;replace h9:=Lh h9;replace eG:=Lh eG;clear hi9 haw hce)|(go_at_call 44;refine hch.mono ?_;rintro e w8 ⟨rfl,wY⟩;have h8:=h9.out.pure wY;clear wY e0 e1 e2 e3 e4 hch h9)|(go_at_call 43;refine(dU _ _).mono ?_;rw[if_neg h0];rintro e w7 ⟨rfl,h7⟩;obtain rfl:=h7.symm));refine hfin.out _ _ (.error ck) _ (.error ck) (fun k hk=>by cases hk;exact ajZ) rfl rfl ⟨?_,a9,eG.out,h8⟩;rw[if_neg h0];rfl
end
def NA (S:VS) (op:Int) (path tz:List UInt8) (mode:Nat) (bs:List UInt8):Except Int (Option VS):=
 if op=1 then M9 S path ⟨1,mode,1,0,[]⟩ []
 else if op=2 then TY S path
 else if op=3 then K6 S path tz
 else if op=4 then afR S path tz
 else if op=5 then K5 S path
 else if op=6 then M9 S path ⟨2,mode,1,0,[]⟩ bs
 else if op=7 then atD S path tz mode
 else if op=8 then TS S path mode
 else .error 0
structure atG (S:VS) (op:Int) (path tz:List UInt8) (mode:Nat) (bs:List UInt8):Prop where
 mkd:op=1->∀d:Nat,bB S.cur S.data 0 0 (splitB path)=((d:Int), -1,0)->S.nodes<256->wX S (⟨1,mode,1,0,[]⟩:VI) [] d path
 rm:op=2->∀d m:Nat,m<S.names->bB S.cur S.data 0 0 (splitB path)=((d:Int),(m:Int),0)->(aH S.cur m).kind=1->(aH S.cur m).size=0->abR S d path m
 mv:op=3->∀d m d2:Nat,m<S.names->bB S.cur S.data 0 0 (splitB path)=((d:Int),(m:Int),0)->¬(aH S.cur m).kind=1->(bB S.cur S.data 0 0 (splitB tz))=((d2:Int), -1,0)->TU S d d2 path tz m
 ln:op=4->∀d m d2:Nat,m<S.names->bB S.cur S.data 0 0 (splitB path)=((d:Int),(m:Int),0)->¬(aH S.cur m).kind=1->(bB S.cur S.data 0 0 (splitB tz))=((d2:Int), -1,0)->S.nodes<256->ajX S d2 tz m
 un:op=5->∀d m:Nat,m<S.names->bB S.cur S.data 0 0 (splitB path)=((d:Int),(m:Int),0)->¬(aH S.cur m).kind=1->TT S d path m
 wr:op=6->∀d:Nat,bB S.cur S.data 0 0 (splitB path)=((d:Int), -1,0)->S.nodes<256->wX S (⟨2,mode,1,0,[]⟩:VI) bs d path
 cp:op=7->∀d m d2:Nat,m<S.names->bB S.cur S.data 0 0 (splitB path)=((d:Int),(m:Int),0)->¬(aH S.cur m).kind=1->(bB S.cur S.data 0 0 (splitB tz))=((d2:Int), -1,0)->S.nodes<256->(aH S.cur m).size<=512*(aH S.cur m).aB.length/\wX S (⟨2,mode,1,0,[]⟩:VI) (iO S.cur S.data (aH S.cur m)) d2 tz
 ch:op=8->mode<=511->gM S/\∀d m:Nat,m<S.names->bB S.cur S.data 0 0 (splitB path)=((d:Int),(m:Int),0)->nO S (uV S m mode)
def H8 (op:Int) (path tz:List UInt8) (mode kk:Int) (n:Nat) (len:Nat):Int:=uW (dA op).1 (dA op).2.1 (dA op).2.2 op path tz mode kk n len
def doR (S:VS) (op:Int) (path tz:List UInt8) (mode kk:Int) (n:Nat) (bs:List UInt8):Except Int (Option VS):=
 if H8 op path tz mode kk n bs.length=0 then NA S op path tz mode.toNat bs else .error (H8 op path tz mode kk n bs.length)
theorem T9 {op:Int} (h:(dA op).2.2=true):op=1\/op=2\/op=3\/op=4\/op=5\/op=6\/op=7\/op=8\/op=9:=by
 unfold dA at h;simp only[rJ,PR]at h
 repeat' split at h
 all_goals first |omega|cases h
theorem atH (op:Int) (path tz:List UInt8) (mode kk:Int) (n len:Nat):H8 op path tz mode kk n len≠11:=by
 unfold H8 uW
 repeat' split
 all_goals decide
structure aNJ (op:Int) (path tz:List UInt8) (mode kk:Int) (n len:Nat):Prop where
 valid:aU path=true
 yU:(dA op).1=true->aU tz=true
 mode:(dA op).2.1=true->0<=mode/\mode<=511
 data:op=6->0<=kk/\kk<n/\len<=8192
theorem LA {op:Int} {path tz:List UInt8} {mode kk:Int} {n len:Nat} (h:H8 op path tz mode kk n len=0):op=9\/((dA op).2.2=true/\op≠9/\aNJ op path tz mode kk n len):=by
 unfold H8 uW at h;by_cases h1:(dA op).2.2=false
 ·rw[if_pos h1]at h;cases h
 rw[if_neg h1]at h;by_cases h2:(op==9)=true
 ·exact .inl (by simpa using h2)
 rw[if_neg h2]at h;right;by_cases h3:(dA op).2.1=true/\(mode<0\/511<mode)
 ·rw[if_pos h3]at h;cases h
 rw[if_neg h3]at h;by_cases h4:(path==[])=true\/((dA op).1=true/\(tz==[])=true)
 ·rw[if_pos h4]at h;cases h
 rw[if_neg h4]at h;by_cases h5:aU path=false\/((dA op).1=true/\aU tz=false)
 ·rw[if_pos h5]at h;cases h
 rw[if_neg h5]at h;refine⟨by simpa using h1,by simpa using h2,?_,?_,?_,?_⟩
 ·cases hv:aU path with
  |true=>rfl
  |false=>exact absurd (.inl hv) h5
 ·intro hf;cases hv:aU tz with
  |true=>rfl
  |false=>exact absurd (.inr ⟨hf,hv⟩) h5
 ·intro hf;refine⟨?_,?_⟩
  ·by_cases hm:mode<0
   ·exact absurd ⟨hf,.inl hm⟩ h3
   omega
  by_cases hm:511<mode
  ·exact absurd ⟨hf,.inr hm⟩ h3
  omega
 intro h6;subst h6;rw[if_neg aQ]at h;by_cases h7:kk<0\/(n:Int)<=kk
 ·rw[if_pos h7]at h;cases h
 rw[if_neg h7]at h;by_cases h8:8192<len
 ·rw[if_pos h8]at h;cases h
 omega
theorem vZ (c:fO) (d:Nat):∀(l:List (List UInt8)) (dir n:Nat),(bB c d dir n l).2.2=0\/(bB c d dir n l).2.2=21\/(bB c d dir n l).2.2=22
 |[],_,_=>.inl rfl
 |name::l,dir,n=>by
  unfold bB;by_cases h1:(aH c n).kind=1
  ·rw[if_pos h1];by_cases h2:0<=(lW (lS c d (aH c n)) name).1
   ·rw[if_pos h2];exact vZ c d l _ _
   rw[if_neg h2];split
   ·exact .inl rfl
   exact .inr (.inl rfl)
  rw[if_neg h1];exact .inr (.inr rfl)
def JJ (k:Int):Prop:=k=21\/k=22\/k=23\/k=24\/k=25\/k=31
theorem LB {c:fO} {d:Nat} {l:List (List UInt8)} {k:Int} (h:gV (bB c d 0 0 l)=some k):JJ k:=by
 unfold gV at h;have:=vZ c d l 0 0;unfold JJ;split at h
 ·split at h
  ·cases h
  cases h;omega
 cases h;omega
theorem wZ {c:fO} {d:Nat} {l:List (List UInt8)} {k:Int} (h:eO (bB c d 0 0 l)=some k):JJ k:=by
 unfold eO at h;have:=vZ c d l 0 0;unfold JJ;split at h
 ·split at h
  ·cases h;omega
  cases h
 cases h;omega
theorem GH {b c:fO} {d:Nat} {l:List (List UInt8)} {k:Int} (h:rT b (bB c d 0 0 l)=some k):JJ k:=by
 unfold rT at h;have:=vZ c d l 0 0;unfold JJ;split at h
 ·split at h
  ·cases h;omega
  split at h
  ·cases h;omega
  cases h
 cases h;omega
theorem Z30 {P:Prop} (h:P:=by
 split at h
 ·rename_i h1;cases h;exact LB h1
 split at h
 ·cases h
 cases h;unfold JJ;omega):P:=h
theorem afU {S:VS} {path:List UInt8} {x:VI} {bs:List UInt8} {k:Int} (h:M9 S path x bs= .error k):JJ k:=by unfold M9 at h;exact Z30
theorem rY {S:VS} {op:Int} {path tz:List UInt8} {mode:Nat} {bs:List UInt8} {k:Int} (h:NA S op path tz mode bs= .error k):(k=0/\op≠1/\op≠2/\op≠3/\op≠4/\op≠5/\op≠6/\op≠7/\op≠8)\/JJ k:=by
 unfold NA at h;by_cases h1:op=1
 ·rw[if_pos h1]at h;exact .inr (afU h)
 rw[if_neg h1]at h;by_cases h2:op=2
 ·rw[if_pos h2]at h;right;unfold TY at h;split at h
  ·rename_i h1;cases h;exact wZ h1
  split at h
  ·cases h;unfold JJ;omega
  split at h
  ·cases h;unfold JJ;omega
  cases h
 rw[if_neg h2]at h;by_cases h3:op=3
 ·rw[if_pos h3]at h;right;unfold K6 at h;split at h
  ·rename_i h1;cases h;exact GH h1
  split at h
  ·rename_i h1;cases h;exact LB h1
  cases h
 rw[if_neg h3]at h;by_cases h4:op=4
 ·rw[if_pos h4]at h;right;unfold afR at h;split at h
  ·rename_i h1;cases h;exact GH h1
  exact Z30
 rw[if_neg h4]at h;by_cases h5:op=5
 ·rw[if_pos h5]at h;right;unfold K5 at h;split at h
  ·rename_i h1;cases h;exact GH h1
  cases h
 rw[if_neg h5]at h;by_cases h6:op=6
 ·rw[if_pos h6]at h;exact .inr (afU h)
 rw[if_neg h6]at h;by_cases h7:op=7
 ·rw[if_pos h7]at h;right;unfold atD at h;split at h
  ·rename_i h1;cases h;exact GH h1
  exact Z30
 rw[if_neg h7]at h;by_cases h8:op=8
 ·rw[if_pos h8]at h;right;unfold TS at h;split at h
  ·rename_i h1;cases h;exact wZ h1
  cases h
 rw[if_neg h8]at h;cases h;exact .inl ⟨rfl,h1,h2,h3,h4,h5,h6,h7,h8⟩
theorem UA {S:VS} {op:Int} {path tz:List UInt8} {mode:Nat} {bs:List UInt8}:ao6 (NA S op path tz mode bs):=fun k h=>by have:=rY h;unfold JJ at this;omega
theorem abU :∀args w,(callFunc 45 args).run Tryz.prog w= .ok (.enter 45 args) w:=Go.Proofs.enters_of Tryz.func45 fZ rfl
theorem abV :∀args w,(callFunc 46 args).run Tryz.prog w= .ok (.enter 46 args) w:=Go.Proofs.enters_of Tryz.func46 fZ rfl
theorem XO :∀args w,(callFunc 47 args).run Tryz.prog w= .ok (.enter 47 args) w:=Go.Proofs.enters_of Tryz.func47 fZ rfl
theorem afV :∀args w,(callFunc 48 args).run Tryz.prog w= .ok (.enter 48 args) w:=Go.Proofs.enters_of Tryz.func48 fZ rfl
theorem XP :∀args w,(callFunc 49 args).run Tryz.prog w= .ok (.enter 49 args) w:=Go.Proofs.enters_of Tryz.func49 fZ rfl
theorem abW :∀args w,(callFunc 50 args).run Tryz.prog w= .ok (.enter 50 args) w:=Go.Proofs.enters_of Tryz.func50 fZ rfl
theorem NB :∀args w,(callFunc 51 args).run Tryz.prog w= .ok (.enter 51 args) w:=Go.Proofs.enters_of Tryz.func51 fZ rfl
theorem abX :∀args w,(callFunc 52 args).run Tryz.prog w= .ok (.enter 52 args) w:=Go.Proofs.enters_of Tryz.func52 fZ rfl
theorem OX :∀args w,(callFunc 53 args).run Tryz.prog w= .ok (.enter 53 args) w:=Go.Proofs.enters_of Tryz.func53 fZ rfl
section
variable {w0 w:World} {R:List bK} {f q p:Nat} {S:VS}
theorem aCR {r:Except Int (Option VS)} {R:List bK} {e:Ending} (hz:∀k,r= .error k->k≠0) (h:oG f q p S r w0 R e w):opD f q p S r w0 R e w:=by
 match r with
 | .error k=>obtain⟨he,a',hC,hS⟩:=h;exact⟨by rw[if_neg (hz k rfl)];exact he,a',hC,hS⟩
 | .ok r=>exact h
theorem yG {r:Except Int (Option VS)} {R:List bK} {e:Ending} (hz:∀k,r= .error k->JJ k) (h:oG f q p S r w0 R e w):opD f q p S r w0 R e w:=
 aCR (fun k hk=>by have:=hz k hk;unfold JJ at this;omega) h
theorem Z13 {P:Prop} (h:P:=by
 have hm:=hmn rfl;refine go _ rfl abW fun W a X hC hb hS=>?_
 rw[<-hm];obtain⟨h6a,h6b,h6c⟩:=hk.data rfl;obtain⟨j,rfl⟩:∃j:Nat,kk=j:=⟨kk.toNat,by omega⟩;obtain⟨sa,B,cc,rfl,hcl,htl⟩:=hst j rfl aD;have aNL:∀W Y,Sep w0 W (Y++(X++R))->W.cell? (sa.add j)=some (.slice B bs.length cc):=fun W Y hY=>hcl W (Y++X) (by rw[uN];exact hY)
 exact(aoZ hC hV hb hk.valid (eZ hk.valid) aNL aD aD (fun W Y hY=>htl W (Y++X) (by rw[uN];exact hY)) (hA.wr rfl) hS).mono fun e w' hd=>yG (fun k hk=>(rY (op:=6) (path:=path) (tz:=tz) (mode:=mode.toNat) (bs:=bs) hk).resolve_left fun e0=>e0.2.2.2.2.2.2.1 rfl) hd):P:=h
theorem Z71 {P:Prop} (h:P:=by
 have hm:=hmn rfl;refine go _ rfl abU fun W a X hC hb hS=>?_
 rw[<-hm];exact(aoY hC hV hb hk.valid (eZ hk.valid) (hA.mkd rfl) hS).mono fun e w' hd=>yG (fun k hk=>(rY (op:=1) (path:=path) (tz:=tz) (mode:=mode.toNat) (bs:=bs) hk).resolve_left fun e0=>e0.2.1 rfl) hd):P:=h
theorem Z86 {P:Prop} (h:P:=by
 refine go _ rfl XP fun W a X hC hb hS=>?_
 exact(ajV hC hV hb hk.valid (eZ hk.valid) (hA.un rfl) hS).mono fun e w' hd=>yG (fun k hk=>(rY (op:=5) (path:=path) (tz:=tz) (mode:=mode.toNat) (bs:=bs) hk).resolve_left fun e0=>e0.2.2.2.2.2.1 rfl) hd):P:=h
theorem Z96 {P:Prop} (h:P:=by exact abT (IP:=53) (ck:=H8 op path tz mode kk n bs.length) (r:=NA S.base op path tz mode.toNat bs) hp ht aD hlen ho hop rfl (fun e=>absurd e h0) OX hst UA ajZ (fun e=>absurd e h0) h):P:=h
theorem aCS {op mode kk:Int} {path tz bs:List UInt8} {A:Option Addr} {n c:Nat} (hp:path.length<=9223372036854775807) (ht:tz.length<=9223372036854775807) (hn:n<=9223372036854775807) (hlen:bs.length<=9223372036854775807)
  (ho:S.D.off=false) (hop: -9223372036854775808<=op/\op<=9223372036854775807) (hst:GG w0 R A n kk bs) (hV:VW S.base) (R8:H8 op path tz mode kk n bs.length=0->atG S.base op path tz mode.toNat bs) (h:Sep w0 w (bI f q p S::R)):
  Calls Tryz.prog 14 #[pV f,.agg #[iV op,aC path,aC tz,iV mode,iV kk],.slice A n c] w fun e w'=>∃x,e= .returned (iV x)/\oJ f q p S.base (doR S.base op path tz mode kk n bs) w0 w' R x:=by
 have ajZ:=atH op path tz mode kk n bs.length;unfold doR;by_cases h0:H8 op path tz mode kk n bs.length=0
 ·have hA:=R8 h0;have go:∀IP:FuncId,getM (rW f) (.int .i64 op)=some (.func (.func IP) #[pV f] #[])->(∀args w,(callFunc IP args).run Tryz.prog w= .ok (.enter IP args) w)->
    (∀W a X,VC S.base a->S.base.D.back=[]->Sep w0 W (aF f q p S.base a::(X++R))->Calls Tryz.prog IP #[pV f,.agg #[iV op,aC path,aC tz,iV mode,iV kk],.slice A n c] W (opD f q p S.base (NA S.base op path tz mode.toNat bs) w0 (X++R)))->
    Calls Tryz.prog 14 #[pV f,.agg #[iV op,aC path,aC tz,iV mode,iV kk],.slice A n c] w fun e w'=>∃x,e= .returned (iV x)/\oJ f q p S.base (if H8 op path tz mode kk n bs.length=0 then NA S.base op path tz mode.toNat bs else .error (H8 op path tz mode kk n bs.length)) w0 w' R x:=
   fun IP hrow hent hdo=>abT (ck:=H8 op path tz mode kk n bs.length) hp ht aD hlen ho hop rfl (fun _=>hrow) hent hst UA ajZ (fun _=>hdo) h
  rcases LA h0 with rfl|⟨hf,h9,hk⟩
  ·exact go _ rfl OX fun W a X hC hb hS=>(atC hC hS).mono fun e w' ⟨h1,h2⟩=>⟨h1,a,hC,h2⟩
  (have hmn:(dA op).2.1=true->((mode.toNat:Nat):Int)=mode:=fun hm=>Int.toNat_of_nonneg (hk.mode hm).1);rcases T9 hf with rfl|rfl|rfl|rfl|rfl|rfl|rfl|rfl|rfl
  ·exact Z71
  ·(refine go _ rfl abV fun W a X hC hb hS=>?_);exact(ao2 hC hV hb hk.valid (eZ hk.valid) (hA.rm rfl) hS).mono fun e w' hd=>yG (fun k hk=>(rY (op:=2) (path:=path) (tz:=tz) (mode:=mode.toNat) (bs:=bs) hk).resolve_left fun e0=>e0.2.2.1 rfl) hd
  ·(refine go _ rfl XO fun W a X hC hb hS=>?_);exact(ajW hC hV hb hk.valid (eZ hk.valid) (hk.yU rfl) (eZ (hk.yU rfl)) (hA.mv rfl) hS).mono fun e w' hd=>yG (fun k hk=>(rY (op:=3) (path:=path) (tz:=tz) (mode:=mode.toNat) (bs:=bs) hk).resolve_left fun e0=>e0.2.2.2.1 rfl) hd
  ·(refine go _ rfl afV fun W a X hC hb hS=>?_);exact(atB hC hV hb hk.valid (eZ hk.valid) (hk.yU rfl) (eZ (hk.yU rfl)) (hA.ln rfl) hS).mono fun e w' hd=>yG (fun k hk=>(rY (op:=4) (path:=path) (tz:=tz) (mode:=mode.toNat) (bs:=bs) hk).resolve_left fun e0=>e0.2.2.2.2.1 rfl) hd
  ·exact Z86
  ·exact Z13
  ·have hm:=hmn rfl;(refine go _ rfl NB fun W a X hC hb hS=>?_);rw[<-hm];exact(XN hC hV hb hk.valid (eZ hk.valid) (hk.yU rfl) (eZ (hk.yU rfl)) (hA.cp rfl) hS).mono fun e w' hd=>yG (fun k hk=>(rY (op:=7) (path:=path) (tz:=tz) (mode:=mode.toNat) (bs:=bs) hk).resolve_left fun e0=>e0.2.2.2.2.2.2.2.1 rfl) hd
  ·have hm:=hmn rfl;(refine go _ rfl abX fun W a X hC hb hS=>?_);rw[<-hm];have h8:=hA.ch rfl (by have:=(hk.mode rfl).2;omega);exact(ao0 hC hV hb hk.valid (eZ hk.valid) (by have:=(hk.mode rfl).2;omega) h8.1 h8.2 hS).mono fun e w' hd=>yG (fun k hk=>(rY (op:=8) (path:=path) (tz:=tz) (mode:=mode.toNat) (bs:=bs) hk).resolve_left fun e0=>e0.2.2.2.2.2.2.2.2 rfl) hd
  exact absurd rfl h9
 exact Z96
theorem aCT {op mode kk:Int} {path tz bs:List UInt8} {A:Option Addr} {n c:Nat} (hp:path.length<=9223372036854775807) (ht:tz.length<=9223372036854775807) (hn:n<=9223372036854775807) (hlen:bs.length<=9223372036854775807)
  (ho:S.D.off=false) (aNM:op=1\/op=5\/op=6) (hst:GG w0 R A n kk bs) (hV:VW S.base) (R8:H8 op path tz mode kk n bs.length=0->atG S.base op path tz mode.toNat bs) (h:Sep w0 w (bI f q p S::R)):
  Calls Tryz.prog 14 #[pV f,.agg #[iV op,aC path,aC tz,iV mode,iV kk],.slice A n c] w fun e w'=>∃x,e= .returned (iV x)/\oJ f q p S.base (doR S.base op path tz mode kk n bs) w0 w' R x:=by
 have hop: -9223372036854775808<=op/\op<=9223372036854775807:=by omega
 have ajZ:=atH op path tz mode kk n bs.length;unfold doR;by_cases h0:H8 op path tz mode kk n bs.length=0
 ·have hA:=R8 h0;have go:∀IP:FuncId,getM (rW f) (.int .i64 op)=some (.func (.func IP) #[pV f] #[])->(∀args w,(callFunc IP args).run Tryz.prog w= .ok (.enter IP args) w)->
    (∀W a X,VC S.base a->S.base.D.back=[]->Sep w0 W (aF f q p S.base a::(X++R))->Calls Tryz.prog IP #[pV f,.agg #[iV op,aC path,aC tz,iV mode,iV kk],.slice A n c] W (opD f q p S.base (NA S.base op path tz mode.toNat bs) w0 (X++R)))->
    Calls Tryz.prog 14 #[pV f,.agg #[iV op,aC path,aC tz,iV mode,iV kk],.slice A n c] w fun e w'=>∃x,e= .returned (iV x)/\oJ f q p S.base (if H8 op path tz mode kk n bs.length=0 then NA S.base op path tz mode.toNat bs else .error (H8 op path tz mode kk n bs.length)) w0 w' R x:=
   fun IP hrow hent hdo=>abT (ck:=H8 op path tz mode kk n bs.length) hp ht aD hlen ho hop rfl (fun _=>hrow) hent hst UA ajZ (fun _=>hdo) h
  rcases LA h0 with h9|⟨hf,h9,hk⟩
  ·exfalso;omega
  (have hmn:(dA op).2.1=true->((mode.toNat:Nat):Int)=mode:=fun hm=>Int.toNat_of_nonneg (hk.mode hm).1);rcases aNM with rfl|rfl|rfl
  ·exact Z71
  ·exact Z86
  exact Z13
 exact Z96
end
def dY (path:List UInt8):Int:=if path=[]then 26 else if aU path=true then 0 else 20
theorem NC {path:List UInt8} (hp:path.length<=9223372036854775807) (w:World):
  Calls Tryz.prog 60 #[aC path] w fun e w'=>e=(if dY path=0 then .returned (.tuple #[])else .panicked (gJ (dY path)))/\Below w.heap.size w w':=by
 have hv:∀W,Calls Tryz.prog 97 #[aC path] W fun e w'=>e= .returned (.bool (aU path))/\Below W.heap.size W w':=fun W=>by exact Z92
 unfold dY;by_cases h0:path=[]
 ·subst h0;rw[if_pos rfl,if_neg aQ];clear hv;unfold aC;go_enter Tryz.func60,Tryz.ntmps60;go_wp2_with(go_at_call 43;refine(dU _ _).mono ?_;rintro e w7 ⟨rfl,h7⟩;obtain rfl:=h7.symm);exact⟨rfl,rfl,Below.refl _ _⟩
 rw[if_neg h0];have hne:(path==[])=false:=by simpa using h0
 unfold aC at*;cases hvp:aU path with
 |true=>
  rw[if_pos rfl,if_pos rfl];rw[hvp]at hv;go_enter Tryz.func60,Tryz.ntmps60;go_wp2_with(go_at_call 97;refine(hv _).mono ?_;rintro e w7 ⟨rfl,h7⟩)
  go_end0
  exact⟨rfl,h7⟩
 |false=>rw[if_neg aQ,if_neg aQ];rw[hvp]at hv;go_enter Tryz.func60,Tryz.ntmps60;go_wp2_with(first |(go_at_call 97;refine(hv _).mono ?_;rintro e w7 ⟨rfl,h7⟩)|(go_at_call 43;refine(dU _ _).mono ?_;rintro e w6 ⟨rfl,h6⟩;obtain rfl:=h6.symm));exact⟨rfl,rfl,h7⟩
section
variable {w0 w:World} {R:List bK} {f q p:Nat} {S:VS} {a:VA}
theorem Sep.UB (h:Sep w0 w (bI f q p S::R)):w.cell? ⟨f,4,none⟩=some (.bool false)/\w.cell? ⟨f,5,none⟩=some (.complex .f64 (fI S.wB) (fI S.wI))/\w.cell? ⟨f,7,none⟩=some (.complex .f64 (fI S.rB) (fI S.rI)):=by obtain⟨sb,SM,fo,hR,h1⟩:=h.qP;exact⟨h1.bC 0 rfl 4,h1.bC 0 rfl 5,h1.bC 0 rfl 7⟩
theorem ao9 (h:Sep w0 w (bI f q p S::R)):Calls Tryz.prog 31 #[pV f] w fun e w'=>e= .returned (iH S.rB S.rI)/\w'=w:=by obtain⟨c4,c5,c7⟩:=h.UB;clear h;unfold iH;go_enter Tryz.func31,Tryz.ntmps31;go_wp2_with fail;go_ret;exact⟨rfl,rfl⟩
theorem apA (hb:eH S.rB) (hi:eH S.rI) (hw:eH S.wB) (hv:eH S.wI) (h1:eH (S.rB-S.wB)) (h2:eH (S.rI-S.wI)) (h:Sep w0 w (bI f q p S::R)):
  Calls Tryz.prog 17 #[pV f] w fun e w'=>e= .returned (iH (S.rB-S.wB) (S.rI-S.wI))/\∃n,w'=w.drewN n:=by
 obtain⟨c4,c5,c7⟩:=h.UB;have hsub:=fun W=>ZC 44 S.rB S.rI S.wB S.wI hb hi hw hv h1 h2 W
 clear h hb hi hw hv h1 h2;unfold iH at*;go_enter Tryz.func17,Tryz.ntmps17;go_wp2_with fail;go_quiet (fail);go_wp2_with fail;go_ret;exact⟨rfl,_,rfl⟩
theorem zR (h:Sep w0 w (bI f q p S::R)):S.base.D.back=[]:=by obtain⟨_,_,_,hR,_⟩:=h.qP;exact hR.back
theorem zS (h:Sep w0 w (bI f q p S::R)):S.D.ok S.nb:=by obtain⟨_,_,_,hR,_⟩:=h.qP;exact hR.pI
theorem ayM (ho:S.D.off=false) (h:Sep w0 w (bI f q p S::R)):
  Calls Tryz.prog 30 #[pV f] w fun e w'=>e= .returned (iV 0)/\Sep w0 w' (bI f q p S.base::R):=by
 have hb:=zR h;have h1:Sep w0 (w.alloc (.cells #[iV 0] 39)) (bI f q p S::aI w.heap.size 0::R):=Sep.dE [1,0] (h.bN 39 #[iV 0]) aQ (by simp[aI]);have haw:=EH ho h1;have hsy:Hid (∀W a,VC S.base a->Sep w0 W (aF f q p S.base a::aI w.heap.size 0::R)->W.cell? ⟨f,0,none⟩=some (pV q)/\Calls Tryz.prog 76 #[pV q] W fun e w'=>e= .returned (iV 0)/\Sep w0 w' (aF f q p S.base a::aI w.heap.size 0::R)):=Lh fun W a hC hW=>by refine⟨hW.gL.c0,?_⟩;have h2:=hW.bE;have hoff:S.base.D.off=false:=ho;have:=F6 (q:=q) (p:=p) (dead:=false) hC.pI (Sep.dE [1,2,0,3,4,5] h2 aQ (by simp[pK]):Sep w0 W (aG q p false::aN p S.base.D::l7 f q S.base a.sb (.map (some a.fb)) false::fH a.sb a.SM::jJ a.fb a.FM::aI w.heap.size 0::R));rw[hoff]at this;refine this.mono ?_;rintro e w' ⟨rfl,h9⟩;refine⟨rfl,?_⟩;have h3:Sep w0 w' (pK f q p S.base a++(aI w.heap.size 0::R)):=Sep.dE [2,0,1,3,4,5] h9 aQ bM;exact h3.dG
 clear h h1
 go_enter_defers Tryz.func30,Tryz.ntmps30
 go_wp2_with(first |(go_at_call 42;refine haw.mono ?_;rintro e w9 ⟨rfl,a,hC,h9⟩;obtain⟨c0,hs⟩:=hsy.out _ _ hC h9;clear haw h9 hsy;replace hC:=Lh hC)|(go_at_call 76;refine hs.mono ?_;rintro e w8 ⟨rfl,h8⟩;have k1:=h8.bC 1 rfl 0;have k2:=h8.bF 1 rfl 0;simp only[gA,gB]at k1;clear hs)|(go_at_call 43;refine(dU _ _).mono ?_;rintro e w7 ⟨rfl,h7⟩;obtain rfl:=h7.symm));refine iY ?_;have h10:=h8.bS 1 rfl 0 (.int .i64 0);have ec:=h10.bC 1 rfl 0;try simp only[gA,gB]at ec
 refine⟨.int .i64 0,by simp[results,Tryz.results30,go_sem,ec],rfl,?_⟩;have h11:Sep w0 _ (aI w.heap.size 0::aF f q p S.base a::R):=h10.perm (List.Perm.swap _ _ _);exact qW hC.out hb (h11.drop 1)
theorem BU (path:List UInt8):dY path≠11:=by
 unfold dY
 repeat' split
 all_goals decide
theorem GI {path:List UInt8} (h:dY path=0):aU path=true:=by
 unfold dY at h;split at h
 ·cases h
 split at h
 ·assumption
 cases h
end
end Go.Proofs.YteihmbaimbogaaaGreat
