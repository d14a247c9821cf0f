/- Parts. -/
import Derived.Test.YtmjomdkleikgbaaGreatK22
set_option linter.unusedVariables false
set_option linter.unusedSimpArgs false
set_option maxRecDepth 100000
set_option maxHeartbeats 20000000
namespace Go.Proofs.YtmjomdkleikgbaaGreat
open Go.RowKit
section
variable {w0 w:World} {R:List aW} {f q p:Nat} {S:VS} {a:VA}
def AQ (b:Nat) (op:Int) (path tz:List UInt8) (mode kk:Int):aW:=.box b 46 #[iV op,aC path,aC tz,iV mode,iV kk]
theorem Sep.aEK (h:Sep w0 w R):∃w1 w2 w3 w4 w5 w6 w7 w8 w9,
  (Instr.mapUpdate 99 (.map (some w.heap.size)) (.int .i64 1) (.func (.func 56) #[pV f] #[])).run Tryz.prog (w.alloc (.map #[] 0))= .ok () w1/\
  (Instr.mapUpdate 99 (.map (some w.heap.size)) (.int .i64 2) (.func (.func 57) #[pV f] #[])).run Tryz.prog w1= .ok () w2/\
  (Instr.mapUpdate 99 (.map (some w.heap.size)) (.int .i64 3) (.func (.func 58) #[pV f] #[])).run Tryz.prog w2= .ok () w3/\
  (Instr.mapUpdate 99 (.map (some w.heap.size)) (.int .i64 4) (.func (.func 59) #[pV f] #[])).run Tryz.prog w3= .ok () w4/\
  (Instr.mapUpdate 99 (.map (some w.heap.size)) (.int .i64 5) (.func (.func 60) #[pV f] #[])).run Tryz.prog w4= .ok () w5/\
  (Instr.mapUpdate 99 (.map (some w.heap.size)) (.int .i64 6) (.func (.func 61) #[pV f] #[])).run Tryz.prog w5= .ok () w6/\
  (Instr.mapUpdate 99 (.map (some w.heap.size)) (.int .i64 7) (.func (.func 62) #[pV f] #[])).run Tryz.prog w6= .ok () w7/\
  (Instr.mapUpdate 99 (.map (some w.heap.size)) (.int .i64 8) (.func (.func 63) #[pV f] #[])).run Tryz.prog w7= .ok () w8/\
  (Instr.mapUpdate 99 (.map (some w.heap.size)) (.int .i64 9) (.func (.func 64) #[pV f] #[])).run Tryz.prog w8= .ok () w9/\
  Sep w0 w9 (lJ 3 w.heap.size (rH f)::R):=by
 have hM0:=h.BX 3;obtain⟨w1,r1,hM1⟩:=hM0.lS 0 rfl dN Tryz.underlying99 (by show(0:Nat)<maxLen;decide) (v:=.func (.func 56) #[.pointer (some ⟨f,0,none⟩)] #[]) (jS 1 aR);replace hM1:Sep w0 w1 (lJ 3 w.heap.size ((rH f).take 1)::R):=hM1;obtain⟨w2,r2,hM2⟩:=hM1.lS 0 rfl dN Tryz.underlying99 (by show(1:Nat)<maxLen;decide) (v:=.func (.func 57) #[.pointer (some ⟨f,0,none⟩)] #[]) (jS 2 aR);replace hM2:Sep w0 w2 (lJ 3 w.heap.size ((rH f).take 2)::R):=hM2;obtain⟨w3,r3,hM3⟩:=hM2.lS 0 rfl dN Tryz.underlying99 (by show(2:Nat)<maxLen;decide) (v:=.func (.func 58) #[.pointer (some ⟨f,0,none⟩)] #[]) (jS 3 aR);replace hM3:Sep w0 w3 (lJ 3 w.heap.size ((rH f).take 3)::R):=hM3;obtain⟨w4,r4,hM4⟩:=hM3.lS 0 rfl dN Tryz.underlying99 (by show(3:Nat)<maxLen;decide) (v:=.func (.func 59) #[.pointer (some ⟨f,0,none⟩)] #[]) (jS 4 aR);replace hM4:Sep w0 w4 (lJ 3 w.heap.size ((rH f).take 4)::R):=hM4;obtain⟨w5,r5,hM5⟩:=hM4.lS 0 rfl dN Tryz.underlying99 (by show(4:Nat)<maxLen;decide) (v:=.func (.func 60) #[.pointer (some ⟨f,0,none⟩)] #[]) (jS 5 aR);replace hM5:Sep w0 w5 (lJ 3 w.heap.size ((rH f).take 5)::R):=hM5;obtain⟨w6,r6,hM6⟩:=hM5.lS 0 rfl dN Tryz.underlying99 (by show(5:Nat)<maxLen;decide) (v:=.func (.func 61) #[.pointer (some ⟨f,0,none⟩)] #[]) (jS 6 aR);replace hM6:Sep w0 w6 (lJ 3 w.heap.size ((rH f).take 6)::R):=hM6;obtain⟨w7,r7,hM7⟩:=hM6.lS 0 rfl dN Tryz.underlying99 (by show(6:Nat)<maxLen;decide) (v:=.func (.func 62) #[.pointer (some ⟨f,0,none⟩)] #[]) (jS 7 aR);replace hM7:Sep w0 w7 (lJ 3 w.heap.size ((rH f).take 7)::R):=hM7;obtain⟨w8,r8,hM8⟩:=hM7.lS 0 rfl dN Tryz.underlying99 (by show(7:Nat)<maxLen;decide) (v:=.func (.func 63) #[.pointer (some ⟨f,0,none⟩)] #[]) (jS 8 aR);replace hM8:Sep w0 w8 (lJ 3 w.heap.size ((rH f).take 8)::R):=hM8;obtain⟨w9,r9,hM9⟩:=hM8.lS 0 rfl dN Tryz.underlying99 (by show(8:Nat)<maxLen;decide) (v:=.func (.func 64) #[.pointer (some ⟨f,0,none⟩)] #[]) (jS 9 aR);replace hM9:Sep w0 w9 (lJ 3 w.heap.size ((rH f).take 9)::R):=hM9;exact⟨w1,w2,w3,w4,w5,w6,w7,w8,w9,r1,r2,r3,r4,r5,r6,r7,r8,r9,hM9⟩
def tV (w0:World) (R:List aW) (A:Option Addr) (n:Nat) (kk:Int) (bs:List UInt8):Prop:=
 ∀k:Nat,kk=k->k<n->∃sa B cc,A=some sa/\(∀W Y,Sep w0 W (Y++R)->W.cell? (sa.add k)=some (.slice B bs.length cc))/\jI w0 R (.slice B bs.length cc) bs
theorem akP {MM:FuncId} {op mode kk ck:Int} {path tz bs:List UInt8} {A:Option Addr} {n c:Nat} {r:Except Int (Option VS)} (hp:path.length<=9223372036854775807) (ht:tz.length<=9223372036854775807) (hn:n<=9223372036854775807) (hlen:bs.length<=9223372036854775807)
  (ho:S.D.off=false) (hop: -9223372036854775808<=op/\op<=9223372036854775807) (hck:ck=wY (bT op).1 (bT op).2.1 (bT op).2.2 op path tz mode kk n bs.length)
  (hrow:ck=0->getM (rH f) (.int .i64 op)=some (.func (.func MM) #[pV f] #[])) (hent:∀args w,(callFunc MM args).run Tryz.prog w= .ok (.enter MM args) w) (hst:tV w0 R A n kk bs) (hpr:awP r) (arB:ck≠11)
  (hdo:ck=0->∀W a X,VC S.base a->S.base.D.back=[]->Sep w0 W (aF f q p S.base a::(X++R))->Calls Tryz.prog MM #[pV f,.agg #[iV op,aC path,aC tz,iV mode,iV kk],.slice A n c] W (opD f q p S.base r w0 (X++R)))
  (h:Sep w0 w (bB f q p S::R)):
  Calls Tryz.prog 18 #[pV f,.agg #[iV op,aC path,aC tz,iV mode,iV kk],.slice A n c] w fun e w'=>∃x,e= .returned (iV x)/\wC f q p S.base (if ck=0 then r else .error ck) w0 w' R x:=by
 have hb:S.base.D.back=[]:=by obtain⟨_,_,_,hR,_⟩:=h.mF;exact hR.back
 obtain⟨bi,hbi⟩:∃b,b=w.heap.size:=⟨_,rfl⟩;have h1:Sep w0 ((w.alloc (.cells #[iV op,aC path,aC tz,iV mode,iV kk] 46)).alloc (.cells #[iV 0] 40)) (bB f q p S::aJ (bi+1) 0::AQ bi op path tz mode kk::R):=by have:=(h.bN 46 #[iV op,aC path,aC tz,iV mode,iV kk]).bN 40 #[iV 0];rw[World.size_alloc,<-hbi]at this;exact Sep.dB [2,0,1] this aR bK
 have haw:=BH ho h1;have hcs:Hid (∀W Y,Sep w0 W (Y++AQ bi op path tz mode kk::R)->W.cell? ⟨bi,0,none⟩=some (iV op)/\W.cell? ⟨bi,1,none⟩=some (aC path)/\W.cell? ⟨bi,2,none⟩=some (aC tz)/\W.cell? ⟨bi,3,none⟩=some (iV mode)/\W.cell? ⟨bi,4,none⟩=some (iV kk)):=Lh fun W Y hW=>by(have hi:(Y++AQ bi op path tz mode kk::R)[Y.length]? =some (AQ bi op path tz mode kk):=by simp);exact⟨hW.bC _ hi 0,hW.bC _ hi 1,hW.bC _ hi 2,hW.bC _ hi 3,hW.bC _ hi 4⟩
 have hce:Hid (∀W Y,Sep w0 W (Y++AQ bi op path tz mode kk::R)->Calls Tryz.prog 55 #[.agg #[iV op,aC path,aC tz,iV mode,iV kk],.slice A n c] W fun e w'=>e= .returned (iV ck)/\Below W.heap.size W w'):=Lh fun W Y hW=>by rw[hck];refine am9 op mode kk (A:=A) (n:=n) (c:=c) (len:=bs.length) hp ht W (fun k hk hkn=>?_) hn hlen;obtain⟨sa,B,cc,rfl,h2,_⟩:=hst k hk hkn;refine⟨sa,B,cc,rfl,fun W' hW'=>h2 W' (Y++[AQ bi op path tz mode kk]) ?_⟩;have:=hW.pure hW';simpa using this
 have hmm:= @run_makeMap Tryz.prog;have hmf:∀(fn:Fn) (first cap:Array Value) (w:World),(Instr.makeFunc fn first cap).run Tryz.prog w= .ok (.func fn first cap) w:=fun _ _ _ _=>rfl
 have hres:Hid (∀(tm:Array Value) W x Y,tm.getD 6 undef=pV (bi+1)->Sep w0 W (Y++aJ (bi+1) x::AQ bi op path tz mode kk::R)->(results Tryz.f18 tm).run Tryz.prog W= .ok (.int .i64 x) W):=Lh fun tm W x Y ht hW=>by(have hi:(Y++aJ (bi+1) x::AQ bi op path tz mode kk::R)[Y.length]? =some (aJ (bi+1) x):=by simp);have ec:=hW.bC _ hi 0;simp only[gA,gB]at ec;(have ht2:tm[6]?.getD undef=pV (bi+1):=by simpa using ht);simp[results,Tryz.results18,go_sem,ht2,asAddr,loadVar,ec]
 have hdr:Hid (∀W (r:Except Int (Option VS)) x y,wC f q p S.base r w0 W (aJ (bi+1) y::AQ bi op path tz mode kk::R) x->wC f q p S.base r w0 W R x):=Lh fun W r x y hE=>adH hE fun Y hY=>by have h2:Sep w0 W (aJ (bi+1) y::AQ bi op path tz mode kk::(Y++R)):=hY.perm (by exact(lD.trans (List.Perm.cons _ lD)));exact h2.drop 2
 have hfin:Hid (∀(ps:List PanicEntry) W (r:Except Int (Option VS)) (tm:Array Value) (rr:Except Int (Option VS)),awP r->rr=r->tm.getD 6 undef=pV (bi+1)->opD f q p S.base r w0 (aJ (bi+1) 0::AQ bi op path tz mode kk::R) (.panicked ps) W->
   Leaves Tryz.prog Tryz.f18 tm (fun e w'=>∃x,e= .returned (iV x)/\wC f q p S.base rr w0 w' R x) [{target:=.fn (.func 52) #[],args:=#[pV f,pV (bi+1)]}] (.panicking ps) W):=Lh fun ps W r tm rr hpr hrr ht hD=>by
  subst hrr;(refine aq9 hb hpr hD fun w' x hE=>?_);obtain⟨Y,hY⟩:=KQ hE;exact⟨_,hres.out tm w' x Y ht hY,x,rfl,hdr.out _ _ _ _ hE⟩
 have hkey:keyOf Tryz.prog 3 (.int .i64 op)=some (.int .i64 op):=Maps.keyOf_int_mk Tryz.underlying3 (by simp[Lit.wf,IntKind.min,IntKind.max,IntKind.signed,IntKind.bits];omega);clear hop;replace hb:=Lh hb;clear hst hn hlen hp ht h h1;by_cases h0:ck=0
 ·rw[if_pos h0];replace hdo:=Lh (hdo h0);replace hrow:=Lh (hrow h0);clear hck arB;subst h0;obtain⟨st,hst⟩:∃v,v=aC path:=⟨_,rfl⟩;unfold aC at*;rw[hbi]at*
  go_enter_defers Tryz.func18,Tryz.ntmps18
  go_wp2_with(first |(go_at_call 53;refine haw.mono ?_;rintro e w9 ⟨rfl,a9,eX,h9⟩;have hi9:Sep w0 w9 ([aF f q p S.base a9,aJ (w.heap.size+1) 0]++AQ w.heap.size op path tz mode kk::R):=h9;obtain⟨e0,e1,e2,e3,e4⟩:=hcs.out _ _ hi9;have hch:=hce.out _ _ hi9;replace h9:=Lh h9;replace eX:=Lh eX;clear hi9 haw hce)|(go_at_call 55;refine hch.mono ?_;rintro e w8 ⟨rfl,zT⟩;have h8:=h9.out.pure zT;clear zT e0 e1 e2 e3 e4 hch h9)|(go_at_call 54;go_loud (refine(eQ _ _).mono ?_;rintro e w7 ⟨rfl,h7⟩;obtain rfl:=h7.symm;obtain⟨x1,x2,x3,x4,x5,x6,x7,x8,x9,r1,r2,r3,r4,r5,r6,r7,r8,r9,hM⟩:=h8.aEK (f:=f);have hM2:Sep w0 x9 ([lJ 3 w8.heap.size (rH f),aF f q p S.base a9,aJ (w.heap.size+1) 0]++AQ w.heap.size op path tz mode kk::R):=hM;obtain⟨e0,e1,e2,e3,e4⟩:=hcs.out _ _ hM2;have hlk:=hM.ZW 0 rfl dN Tryz.underlying99 (anA _) (key:=.int .i64 op) (kl:=.int .i64 op) hkey;rw[hrow.out,GX]at hlk;have hd:=hdo.out x9 a9 [aJ (w.heap.size+1) 0,AQ w.heap.size op path tz mode kk] eX.out hb.out (hM.drop 1);clear hM2 h8;replace hM:=Lh hM)));refine hd.mono ?_;intro e wz hz;clear hM e0 e1 e2 e3 e4 r1 r2 r3 r4 r5 r6 r7 r8 r9 hlk hd hdo;rcases arA hz with rfl|⟨k,rfl⟩
  ·obtain⟨_,hE⟩:=awQ hb.out hz;obtain⟨Y,hY⟩:=KQ hE;(have hi:(Y++aJ (w.heap.size+1) 0::AQ w.heap.size op path tz mode kk::R)[Y.length]? =some (aJ (w.heap.size+1) 0):=by simp);have k1:=hY.bC _ hi 0;have k2:=hY.bF _ hi 0;(have hE2:wC f q p S.base r w0 (wz.setCell ⟨w.heap.size+1,0,none⟩ (.int .i64 0)) (aJ (w.heap.size+1) 0::AQ w.heap.size op path tz mode kk::R) 0:=adH hE fun Z hZ=>by(have hi2:(Z++aJ (w.heap.size+1) 0::AQ w.heap.size op path tz mode kk::R)[Z.length]? =some (aJ (w.heap.size+1) 0):=by simp);have h5:=hZ.bS _ hi2 0 (.int .i64 0);rw[abU _ _ (iC _),FP]at h5;exact h5);simp only[gA,gB]at k1;clear hi hY hz;replace hE2:=Lh hE2;clear hE;go_wp2_with fail;refine kV ?_;obtain⟨Y2,hY2⟩:=KQ hE2.out;exact⟨_,hres.out _ _ 0 Y2 rfl hY2,0,rfl,hdr.out _ _ _ _ hE2.out⟩
  exact hfin.out _ _ r _ r hpr rfl rfl hz
 rw[if_neg h0];clear hdo hrow hck hent;obtain⟨st,hst⟩:∃v,v=aC path:=⟨_,rfl⟩;unfold aC at*;rw[hbi]at*
 go_enter_defers Tryz.func18,Tryz.ntmps18
 go_wp2_with(first |(go_at_call 53;refine haw.mono ?_;rintro e w9 ⟨rfl,a9,eX,h9⟩;have hi9:Sep w0 w9 ([aF f q p S.base a9,aJ (w.heap.size+1) 0]++AQ w.heap.size op path tz mode kk::R):=h9;obtain⟨e0,e1,e2,e3,e4⟩:=hcs.out _ _ hi9;have hch:=hce.out _ _ hi9;replace h9:=Lh h9;replace eX:=Lh eX;clear hi9 haw hce)|(go_at_call 55;refine hch.mono ?_;rintro e w8 ⟨rfl,zT⟩;have h8:=h9.out.pure zT;clear zT e0 e1 e2 e3 e4 hch h9)|(go_at_call 54;refine(eQ _ _).mono ?_;rw[if_neg h0];rintro e w7 ⟨rfl,h7⟩;obtain rfl:=h7.symm));refine hfin.out _ _ (.error ck) _ (.error ck) (fun k hk=>by cases hk;exact arB) rfl rfl ⟨?_,a9,eX.out,h8⟩;rw[if_neg h0];rfl
end
def Q4 (S:VS) (op:Int) (path tz:List UInt8) (mode:Nat) (bs:List UInt8):Except Int (Option VS):=
 if op=1 then ND S path ⟨1,mode,1,0,[]⟩ []
 else if op=2 then Q3 S path
 else if op=3 then IQ S path tz
 else if op=4 then adF S path tz
 else if op=5 then IP S path
 else if op=6 then ND S path ⟨2,mode,1,0,[]⟩ bs
 else if op=7 then aq7 S path tz mode
 else if op=8 then QX S path mode
 else .error 0
structure azI (S:VS) (op:Int) (path tz:List UInt8) (mode:Nat) (bs:List UInt8):Prop where
 mkd:op=1->∀d:Nat,aU S.cur S.data 0 0 (splitB path)=((d:Int), -1,0)->S.nodes<256->wX S (⟨1,mode,1,0,[]⟩:VI) [] d path
 rm:op=2->∀d m:Nat,m<S.names->aU S.cur S.data 0 0 (splitB path)=((d:Int),(m:Int),0)->(aH S.cur m).kind=1->(aH S.cur m).size=0->ZV S d path m
 mv:op=3->∀d m d2:Nat,m<S.names->aU S.cur S.data 0 0 (splitB path)=((d:Int),(m:Int),0)->¬(aH S.cur m).kind=1->(aU S.cur S.data 0 0 (splitB tz))=((d2:Int), -1,0)->QZ S d d2 path tz m
 ln:op=4->∀d m d2:Nat,m<S.names->aU S.cur S.data 0 0 (splitB path)=((d:Int),(m:Int),0)->¬(aH S.cur m).kind=1->(aU S.cur S.data 0 0 (splitB tz))=((d2:Int), -1,0)->S.nodes<256->ahG S d2 tz m
 un:op=5->∀d m:Nat,m<S.names->aU S.cur S.data 0 0 (splitB path)=((d:Int),(m:Int),0)->¬(aH S.cur m).kind=1->QY S d path m
 wr:op=6->∀d:Nat,aU S.cur S.data 0 0 (splitB path)=((d:Int), -1,0)->S.nodes<256->wX S (⟨2,mode,1,0,[]⟩:VI) bs d path
 cp:op=7->∀d m d2:Nat,m<S.names->aU S.cur S.data 0 0 (splitB path)=((d:Int),(m:Int),0)->¬(aH S.cur m).kind=1->(aU S.cur S.data 0 0 (splitB tz))=((d2:Int), -1,0)->S.nodes<256->(aH S.cur m).size<=512*(aH S.cur m).aB.length/\wX S (⟨2,mode,1,0,[]⟩:VI) (fB S.cur S.data (aH S.cur m)) d2 tz
 ch:op=8->mode<=511->gK S/\∀d m:Nat,m<S.names->aU S.cur S.data 0 0 (splitB path)=((d:Int),(m:Int),0)->nX S (sU S m mode)
def N7 (op:Int) (path tz:List UInt8) (mode kk:Int) (n:Nat) (len:Nat):Int:=wY (bT op).1 (bT op).2.1 (bT op).2.2 op path tz mode kk n len
def doR (S:VS) (op:Int) (path tz:List UInt8) (mode kk:Int) (n:Nat) (bs:List UInt8):Except Int (Option VS):=
 if N7 op path tz mode kk n bs.length=0 then Q4 S op path tz mode.toNat bs else .error (N7 op path tz mode kk n bs.length)
theorem ahI {op:Int} (h:(bT op).2.2=true):op=1\/op=2\/op=3\/op=4\/op=5\/op=6\/op=7\/op=8\/op=9:=by
 unfold bT at h;simp only[tL,M8]at h
 repeat' split at h
 all_goals first |omega|cases h
theorem aAG (op:Int) (path tz:List UInt8) (mode kk:Int) (n len:Nat):N7 op path tz mode kk n len≠11:=by
 unfold N7 wY
 repeat' split
 all_goals decide
structure aJN (op:Int) (path tz:List UInt8) (mode kk:Int) (n len:Nat):Prop where
 valid:aV path=true
 FZ:(bT op).1=true->aV tz=true
 mode:(bT op).2.1=true->0<=mode/\mode<=511
 data:op=6->0<=kk/\kk<n/\len<=8192
theorem akQ {op:Int} {path tz:List UInt8} {mode kk:Int} {n len:Nat} (h:N7 op path tz mode kk n len=0):op=9\/((bT op).2.2=true/\op≠9/\aJN op path tz mode kk n len):=by
 unfold N7 wY at h;by_cases h1:(bT op).2.2=false
 ·rw[if_pos h1]at h;cases h
 rw[if_neg h1]at h;by_cases h2:(op==9)=true
 ·exact .inl (by simpa using h2)
 rw[if_neg h2]at h;right;by_cases h3:(bT op).2.1=true/\(mode<0\/511<mode)
 ·rw[if_pos h3]at h;cases h
 rw[if_neg h3]at h;by_cases h4:(path==[])=true\/((bT op).1=true/\(tz==[])=true)
 ·rw[if_pos h4]at h;cases h
 rw[if_neg h4]at h;by_cases h5:aV path=false\/((bT op).1=true/\aV tz=false)
 ·rw[if_pos h5]at h;cases h
 rw[if_neg h5]at h;refine⟨by simpa using h1,by simpa using h2,?_,?_,?_,?_⟩
 ·cases hv:aV path with
  |true=>rfl
  |false=>exact absurd (.inl hv) h5
 ·intro hf;cases hv:aV tz with
  |true=>rfl
  |false=>exact absurd (.inr ⟨hf,hv⟩) h5
 ·intro hf;refine⟨?_,?_⟩
  ·by_cases hm:mode<0
   ·exact absurd ⟨hf,.inl hm⟩ h3
   omega
  by_cases hm:511<mode
  ·exact absurd ⟨hf,.inr hm⟩ h3
  omega
 intro h6;subst h6;rw[if_neg aR]at h;by_cases h7:kk<0\/(n:Int)<=kk
 ·rw[if_pos h7]at h;cases h
 rw[if_neg h7]at h;by_cases h8:8192<len
 ·rw[if_pos h8]at h;cases h
 omega
theorem DZ (c:gI) (d:Nat):∀(l:List (List UInt8)) (dir n:Nat),(aU c d dir n l).2.2=0\/(aU c d dir n l).2.2=21\/(aU c d dir n l).2.2=22
 |[],_,_=>.inl rfl
 |name::l,dir,n=>by
  unfold aU;by_cases h1:(aH c n).kind=1
  ·rw[if_pos h1];by_cases h2:0<=(kJ (jX c d (aH c n)) name).1
   ·rw[if_pos h2];exact DZ c d l _ _
   rw[if_neg h2];split
   ·exact .inl rfl
   exact .inr (.inl rfl)
  rw[if_neg h1];exact .inr (.inr rfl)
def EP (k:Int):Prop:=k=21\/k=22\/k=23\/k=24\/k=25\/k=31
theorem IX {c:gI} {d:Nat} {l:List (List UInt8)} {k:Int} (h:gP (aU c d 0 0 l)=some k):EP k:=by
 unfold gP at h;have:=DZ c d l 0 0;unfold EP;split at h
 ·split at h
  ·cases h
  cases h;omega
 cases h;omega
theorem vF {c:gI} {d:Nat} {l:List (List UInt8)} {k:Int} (h:dW (aU c d 0 0 l)=some k):EP k:=by
 unfold dW at h;have:=DZ c d l 0 0;unfold EP;split at h
 ·split at h
  ·cases h;omega
  cases h
 cases h;omega
theorem xW {b c:gI} {d:Nat} {l:List (List UInt8)} {k:Int} (h:nP b (aU c d 0 0 l)=some k):EP k:=by
 unfold nP at h;have:=DZ c d l 0 0;unfold EP;split at h
 ·split at h
  ·cases h;omega
  split at h
  ·cases h;omega
  cases h
 cases h;omega
theorem Z26 {P:Prop} (h:P:=by
 split at h
 ·rename_i h1;cases h;exact IX h1
 split at h
 ·cases h
 cases h;unfold EP;omega):P:=h
theorem adI {S:VS} {path:List UInt8} {x:VI} {bs:List UInt8} {k:Int} (h:ND S path x bs= .error k):EP k:=by unfold ND at h;exact Z26
theorem qC {S:VS} {op:Int} {path tz:List UInt8} {mode:Nat} {bs:List UInt8} {k:Int} (h:Q4 S op path tz mode bs= .error k):(k=0/\op≠1/\op≠2/\op≠3/\op≠4/\op≠5/\op≠6/\op≠7/\op≠8)\/EP k:=by
 unfold Q4 at h;by_cases h1:op=1
 ·rw[if_pos h1]at h;exact .inr (adI h)
 rw[if_neg h1]at h;by_cases h2:op=2
 ·rw[if_pos h2]at h;right;unfold Q3 at h;split at h
  ·rename_i h1;cases h;exact vF h1
  split at h
  ·cases h;unfold EP;omega
  split at h
  ·cases h;unfold EP;omega
  cases h
 rw[if_neg h2]at h;by_cases h3:op=3
 ·rw[if_pos h3]at h;right;unfold IQ at h;split at h
  ·rename_i h1;cases h;exact xW h1
  split at h
  ·rename_i h1;cases h;exact IX h1
  cases h
 rw[if_neg h3]at h;by_cases h4:op=4
 ·rw[if_pos h4]at h;right;unfold adF at h;split at h
  ·rename_i h1;cases h;exact xW h1
  exact Z26
 rw[if_neg h4]at h;by_cases h5:op=5
 ·rw[if_pos h5]at h;right;unfold IP at h;split at h
  ·rename_i h1;cases h;exact xW h1
  cases h
 rw[if_neg h5]at h;by_cases h6:op=6
 ·rw[if_pos h6]at h;exact .inr (adI h)
 rw[if_neg h6]at h;by_cases h7:op=7
 ·rw[if_pos h7]at h;right;unfold aq7 at h;split at h
  ·rename_i h1;cases h;exact xW h1
  exact Z26
 rw[if_neg h7]at h;by_cases h8:op=8
 ·rw[if_pos h8]at h;right;unfold QX at h;split at h
  ·rename_i h1;cases h;exact vF h1
  cases h
 rw[if_neg h8]at h;cases h;exact .inl ⟨rfl,h1,h2,h3,h4,h5,h6,h7,h8⟩
theorem adJ {S:VS} {op:Int} {path tz:List UInt8} {mode:Nat} {bs:List UInt8}:awP (Q4 S op path tz mode bs):=fun k h=>by have:=qC h;unfold EP at this;omega
theorem ZX :∀args w,(callFunc 56 args).run Tryz.prog w= .ok (.enter 56 args) w:=Go.Proofs.enters_of Tryz.func56 fE rfl
theorem ZY :∀args w,(callFunc 57 args).run Tryz.prog w= .ok (.enter 57 args) w:=Go.Proofs.enters_of Tryz.func57 fE rfl
theorem UY :∀args w,(callFunc 58 args).run Tryz.prog w= .ok (.enter 58 args) w:=Go.Proofs.enters_of Tryz.func58 fE rfl
theorem adK :∀args w,(callFunc 59 args).run Tryz.prog w= .ok (.enter 59 args) w:=Go.Proofs.enters_of Tryz.func59 fE rfl
theorem UZ :∀args w,(callFunc 60 args).run Tryz.prog w= .ok (.enter 60 args) w:=Go.Proofs.enters_of Tryz.func60 fE rfl
theorem ZZ :∀args w,(callFunc 61 args).run Tryz.prog w= .ok (.enter 61 args) w:=Go.Proofs.enters_of Tryz.func61 fE rfl
theorem KR :∀args w,(callFunc 62 args).run Tryz.prog w= .ok (.enter 62 args) w:=Go.Proofs.enters_of Tryz.func62 fE rfl
theorem aaA :∀args w,(callFunc 63 args).run Tryz.prog w= .ok (.enter 63 args) w:=Go.Proofs.enters_of Tryz.func63 fE rfl
theorem MU :∀args w,(callFunc 64 args).run Tryz.prog w= .ok (.enter 64 args) w:=Go.Proofs.enters_of Tryz.func64 fE rfl
section
variable {w0 w:World} {R:List aW} {f q p:Nat} {S:VS}
theorem aAH {r:Except Int (Option VS)} {R:List aW} {e:Ending} (hz:∀k,r= .error k->k≠0) (h:mW f q p S r w0 R e w):opD f q p S r w0 R e w:=by
 match r with
 | .error k=>obtain⟨he,a',hC,hS⟩:=h;exact⟨by rw[if_neg (hz k rfl)];exact he,a',hC,hS⟩
 | .ok r=>exact h
theorem wP {r:Except Int (Option VS)} {R:List aW} {e:Ending} (hz:∀k,r= .error k->EP k) (h:mW f q p S r w0 R e w):opD f q p S r w0 R e w:=
 aAH (fun k hk=>by have:=hz k hk;unfold EP at this;omega) h
theorem arC {op mode kk:Int} {path tz bs:List UInt8} {A:Option Addr} {n c:Nat} (hp:path.length<=9223372036854775807) (ht:tz.length<=9223372036854775807) (hn:n<=9223372036854775807) (hlen:bs.length<=9223372036854775807)
  (ho:S.D.off=false) (hop: -9223372036854775808<=op/\op<=9223372036854775807) (hst:tV w0 R A n kk bs) (hV:VW S.base) (hOk:N7 op path tz mode kk n bs.length=0->azI S.base op path tz mode.toNat bs) (h:Sep w0 w (bB f q p S::R)):
  Calls Tryz.prog 18 #[pV f,.agg #[iV op,aC path,aC tz,iV mode,iV kk],.slice A n c] w fun e w'=>∃x,e= .returned (iV x)/\wC f q p S.base (doR S.base op path tz mode kk n bs) w0 w' R x:=by
 have arB:=aAG op path tz mode kk n bs.length;unfold doR;by_cases h0:N7 op path tz mode kk n bs.length=0
 ·have hA:=hOk h0;have go:∀MM:FuncId,getM (rH f) (.int .i64 op)=some (.func (.func MM) #[pV f] #[])->(∀args w,(callFunc MM args).run Tryz.prog w= .ok (.enter MM args) w)->
    (∀W a X,VC S.base a->S.base.D.back=[]->Sep w0 W (aF f q p S.base a::(X++R))->Calls Tryz.prog MM #[pV f,.agg #[iV op,aC path,aC tz,iV mode,iV kk],.slice A n c] W (opD f q p S.base (Q4 S.base op path tz mode.toNat bs) w0 (X++R)))->
    Calls Tryz.prog 18 #[pV f,.agg #[iV op,aC path,aC tz,iV mode,iV kk],.slice A n c] w fun e w'=>∃x,e= .returned (iV x)/\wC f q p S.base (if N7 op path tz mode kk n bs.length=0 then Q4 S.base op path tz mode.toNat bs else .error (N7 op path tz mode kk n bs.length)) w0 w' R x:=
   fun MM hrow hent hdo=>akP (ck:=N7 op path tz mode kk n bs.length) hp ht aD hlen ho hop rfl (fun _=>hrow) hent hst adJ arB (fun _=>hdo) h
  rcases akQ h0 with rfl|⟨hf,h9,hk⟩
  ·exact go _ rfl MU fun W a X hC hb hS=>(aq6 hC hS).mono fun e w' ⟨h1,h2⟩=>⟨h1,a,hC,h2⟩
  (have hmn:(bT op).2.1=true->((mode.toNat:Nat):Int)=mode:=fun hm=>ajW (hk.mode hm).1);rcases ahI hf with rfl|rfl|rfl|rfl|rfl|rfl|rfl|rfl|rfl
  ·have hm:=hmn rfl;(refine go _ rfl ZX fun W a X hC hb hS=>?_);rw[<-hm];exact(am1 hC hV hb hk.valid (dG hk.valid) (hA.mkd rfl) hS).mono fun e w' hd=>wP (fun k hk=>(qC (op:=1) (path:=path) (tz:=tz) (mode:=mode.toNat) (bs:=bs) hk).resolve_left fun e0=>e0.2.1 rfl) hd
  ·(refine go _ rfl ZY fun W a X hC hb hS=>?_);exact(am6 hC hV hb hk.valid (dG hk.valid) (hA.rm rfl) hS).mono fun e w' hd=>wP (fun k hk=>(qC (op:=2) (path:=path) (tz:=tz) (mode:=mode.toNat) (bs:=bs) hk).resolve_left fun e0=>e0.2.2.1 rfl) hd
  ·(refine go _ rfl UY fun W a X hC hb hS=>?_);exact(ahF hC hV hb hk.valid (dG hk.valid) (hk.FZ rfl) (dG (hk.FZ rfl)) (hA.mv rfl) hS).mono fun e w' hd=>wP (fun k hk=>(qC (op:=3) (path:=path) (tz:=tz) (mode:=mode.toNat) (bs:=bs) hk).resolve_left fun e0=>e0.2.2.2.1 rfl) hd
  ·(refine go _ rfl adK fun W a X hC hb hS=>?_);exact(aq5 hC hV hb hk.valid (dG hk.valid) (hk.FZ rfl) (dG (hk.FZ rfl)) (hA.ln rfl) hS).mono fun e w' hd=>wP (fun k hk=>(qC (op:=4) (path:=path) (tz:=tz) (mode:=mode.toNat) (bs:=bs) hk).resolve_left fun e0=>e0.2.2.2.2.1 rfl) hd
  ·(refine go _ rfl UZ fun W a X hC hb hS=>?_);exact(ahE hC hV hb hk.valid (dG hk.valid) (hA.un rfl) hS).mono fun e w' hd=>wP (fun k hk=>(qC (op:=5) (path:=path) (tz:=tz) (mode:=mode.toNat) (bs:=bs) hk).resolve_left fun e0=>e0.2.2.2.2.2.1 rfl) hd
  ·have hm:=hmn rfl;(refine go _ rfl ZZ fun W a X hC hb hS=>?_);rw[<-hm];obtain⟨h6a,h6b,h6c⟩:=hk.data rfl;obtain⟨j,rfl⟩:∃j:Nat,kk=j:=⟨kk.toNat,by omega⟩;obtain⟨sa,B,cc,rfl,hcl,htl⟩:=hst j rfl aD;(have aJP:∀W Y,Sep w0 W (Y++(X++R))->W.cell? (sa.add j)=some (.slice B bs.length cc):=fun W Y hY=>hcl W (Y++X) (by rw[pG];exact hY));exact(am2 hC hV hb hk.valid (dG hk.valid) aJP aD aD (fun W Y hY=>htl W (Y++X) (by rw[pG];exact hY)) (hA.wr rfl) hS).mono fun e w' hd=>wP (fun k hk=>(qC (op:=6) (path:=path) (tz:=tz) (mode:=mode.toNat) (bs:=bs) hk).resolve_left fun e0=>e0.2.2.2.2.2.2.1 rfl) hd
  ·have hm:=hmn rfl;(refine go _ rfl KR fun W a X hC hb hS=>?_);rw[<-hm];exact(UX hC hV hb hk.valid (dG hk.valid) (hk.FZ rfl) (dG (hk.FZ rfl)) (hA.cp rfl) hS).mono fun e w' hd=>wP (fun k hk=>(qC (op:=7) (path:=path) (tz:=tz) (mode:=mode.toNat) (bs:=bs) hk).resolve_left fun e0=>e0.2.2.2.2.2.2.2.1 rfl) hd
  ·have hm:=hmn rfl;(refine go _ rfl aaA fun W a X hC hb hS=>?_);rw[<-hm];have h8:=hA.ch rfl (by have:=(hk.mode rfl).2;omega);exact(am3 hC hV hb hk.valid (dG hk.valid) (by have:=(hk.mode rfl).2;omega) h8.1 h8.2 hS).mono fun e w' hd=>wP (fun k hk=>(qC (op:=8) (path:=path) (tz:=tz) (mode:=mode.toNat) (bs:=bs) hk).resolve_left fun e0=>e0.2.2.2.2.2.2.2.2 rfl) hd
  exact absurd rfl h9
 exact akP (MM:=64) (ck:=N7 op path tz mode kk n bs.length) (r:=Q4 S.base op path tz mode.toNat bs) hp ht aD hlen ho hop rfl (fun e=>absurd e h0) MU hst adJ arB (fun e=>absurd e h0) h
end
def dX (path:List UInt8):Int:=if path=[]then 26 else if aV path=true then 0 else 20
theorem KS {path:List UInt8} (hp:path.length<=9223372036854775807) (w:World):
  Calls Tryz.prog 68 #[aC path] w fun e w'=>e=(if dX path=0 then .returned (.tuple #[])else .panicked (fA (dX path)))/\Below w.heap.size w w':=by
 have hv:∀W,Calls Tryz.prog 104 #[aC path] W fun e w'=>e= .returned (.bool (aV path))/\Below W.heap.size W w':=fun W=>by exact Z86
 unfold dX;by_cases h0:path=[]
 ·subst h0;rw[if_pos rfl,if_neg aR];clear hv;unfold aC;go_enter Tryz.func68,Tryz.ntmps68;go_wp2_with(go_at_call 54;refine(eQ _ _).mono ?_;rintro e w7 ⟨rfl,h7⟩;obtain rfl:=h7.symm);exact⟨rfl,rfl,Below.refl _ _⟩
 rw[if_neg h0];have hne:(path==[])=false:=by simpa using h0
 unfold aC at*;cases hvp:aV path with
 |true=>
  rw[if_pos rfl,if_pos rfl];rw[hvp]at hv;go_enter Tryz.func68,Tryz.ntmps68;go_wp2_with(go_at_call 104;refine(hv _).mono ?_;rintro e w7 ⟨rfl,h7⟩)
  go_end0
  exact⟨rfl,h7⟩
 |false=>rw[if_neg aR,if_neg aR];rw[hvp]at hv;go_enter Tryz.func68,Tryz.ntmps68;go_wp2_with(first |(go_at_call 104;refine(hv _).mono ?_;rintro e w7 ⟨rfl,h7⟩)|(go_at_call 54;refine(eQ _ _).mono ?_;rintro e w6 ⟨rfl,h6⟩;obtain rfl:=h6.symm));exact⟨rfl,rfl,h7⟩
section
variable {w0 w:World} {R:List aW} {f q p:Nat} {S:VS} {a:VA}
theorem Sep.ahJ (h:Sep w0 w (bB f q p S::R)):w.cell? ⟨f,4,none⟩=some (.bool false)/\w.cell? ⟨f,5,none⟩=some (.complex .f64 (fI S.wB) (fI S.wI))/\w.cell? ⟨f,7,none⟩=some (.complex .f64 (fI S.rB) (fI S.rI)):=by obtain⟨sb,SM,fo,hR,h1⟩:=h.mF;exact⟨h1.bC 0 rfl 4,h1.bC 0 rfl 5,h1.bC 0 rfl 7⟩
theorem WR (h:Sep w0 w (bB f q p S::R)):Calls Tryz.prog 42 #[pV f] w fun e w'=>e= .returned (iW S.rB S.rI)/\w'=w:=by obtain⟨c4,c5,c7⟩:=h.ahJ;clear h;unfold iW;go_enter Tryz.func42,Tryz.ntmps42;go_wp2_with fail;go_ret;exact⟨rfl,rfl⟩
end
def adL (f q p:Nat) (X:aW) (Z:List aW) (w0:World) (R:List aW):Prop:=
 ∀W Y,Sep w0 W (X::(Y++R))->Calls Tryz.prog 53 #[pV f] W fun e w'=>e= .panicked (fA 11)/\∃d,Sep w0 w' (iU f q p d::(Y++(Z++R)))
section
variable {w0 w:World} {R:List aW} {f q p:Nat} {S:VS} {a:VA}
theorem KT (ho:S.D.off=true):adL f q p (bB f q p S) [aO p S.D] w0 R:=fun W Y h=>
 (amH ho h).mono fun e w' ⟨h1,h2⟩=>⟨h1,false,h2.perm (List.Perm.cons _ lD.symm)⟩
theorem Q5 :adL f q p (iU f q p true) [] w0 R:=fun W Y h=>
 (ag0 h).mono fun e w' ⟨h1,h2⟩=>by subst h2;exact⟨h1,true,h⟩
theorem Z52 {P:Prop} (h:P:=by have h5:Sep w0 w' ([aJ (w.heap.size) 11]++(iU f q p true::(Z++R))):=Sep.dB [1,0] hw aR bK;exact h5.drop 1):P:=h
theorem awR {X:aW} {Z:List aW} (hX:adL f q p X Z w0 R) (h:Sep w0 w (X::R)):
  Calls Tryz.prog 43 #[pV f] w fun e w'=>e= .returned (iV 11)/\Sep w0 w' (iU f q p true::(Z++R)):=by
 have h0:=(h.bN 40 #[iV 0]);try simp only[World.size_alloc]at h0
 have h1:Sep w0 (w.alloc (.cells #[iV 0] 40)) (X::([aJ (w.heap.size) 0]++R)):=Sep.dB [1,0] h0 aR (by simp[aJ]);have haw:=hX _ _ h1;clear h h0 h1 hX
 go_enter_defers Tryz.func43,Tryz.ntmps43
 go_wp2_with(go_at_call 53;refine haw.mono ?_;rintro e w9 ⟨rfl,d,h9⟩;clear haw);refine DY (y:=0) h9 fun w' hw=>?_
 have ec:=hw.bC 1 rfl 0;simp only[gA,gB]at ec;refine⟨.int .i64 11,by simp[results,Tryz.results43,go_sem,ec],rfl,?_⟩;exact Z52
theorem aaB {v:Value} {X:aW} {Z:List aW} (hX:adL f q p X Z w0 R) (h:Sep w0 w (X::R)):
  Calls Tryz.prog 40 #[pV f,v] w fun e w'=>e= .returned (.tuple #[.slice none 0 0,iV 11])/\Sep w0 w' (iU f q p true::(Z++R)):=by
 have h0:=(h.bN 40 #[iV 0]);try simp only[World.size_alloc]at h0
 have h1:Sep w0 (w.alloc (.cells #[iV 0] 40)) (X::([aJ (w.heap.size) 0]++R)):=Sep.dB [1,0] h0 aR (by simp[aJ]);have haw:=hX _ _ h1;clear h h0 h1 hX
 go_enter_defers Tryz.func40,Tryz.ntmps40
 go_wp2_with(go_at_call 53;refine haw.mono ?_;rintro e w9 ⟨rfl,d,h9⟩;clear haw);refine DY (y:=0) h9 fun w' hw=>?_
 have ec:=hw.bC 1 rfl 0;simp only[gA,gB]at ec;refine⟨.tuple #[.slice none 0 0,iV 11],by simp[results,Tryz.results40,go_sem,ec],rfl,?_⟩;exact Z52
theorem aEL {v:Value} {op mode kk:Int} {path tz:List UInt8} {X:aW} {Z:List aW} (hX:adL f q p X Z w0 R) (h:Sep w0 w (X::R)):
  Calls Tryz.prog 18 #[pV f,.agg #[iV op,aC path,aC tz,iV mode,iV kk],v] w fun e w'=>e= .returned (iV 11)/\Sep w0 w' (iU f q p true::(Z++R)):=by
 have h0:=((h.bN 46 #[iV op,aC path,aC tz,iV mode,iV kk]).bN 40 #[iV 0]);try simp only[World.size_alloc]at h0
 have h1:Sep w0 ((w.alloc (.cells #[iV op,aC path,aC tz,iV mode,iV kk] 46)).alloc (.cells #[iV 0] 40)) (X::([aJ (w.heap.size+1) 0,.box (w.heap.size) 46 #[iV op,aC path,aC tz,iV mode,iV kk]]++R)):=Sep.dB [2,0,1] h0 aR (by simp[aJ]);have haw:=hX _ _ h1;clear h h0 h1 hX;unfold aC at*
 go_enter_defers Tryz.func18,Tryz.ntmps18
 go_wp2_with(go_at_call 53;refine haw.mono ?_;rintro e w9 ⟨rfl,d,h9⟩;clear haw);refine DY (y:=0) h9 fun w' hw=>?_
 have ec:=hw.bC 1 rfl 0;simp only[gA,gB]at ec;refine⟨.int .i64 11,by simp[results,Tryz.results18,go_sem,ec],rfl,?_⟩;have h5:Sep w0 w' ([aJ (w.heap.size+1) 11,.box (w.heap.size) 46 #[iV op,aC path,aC tz,iV mode,iV kk]]++(iU f q p true::(Z++R))):=Sep.dB [1,2,0] hw aR bK;exact h5.drop 2
theorem D5 (h:Sep w0 w (bB f q p S::R)):S.base.D.back=[]:=by obtain⟨_,_,_,hR,_⟩:=h.mF;exact hR.back
theorem IY (h:Sep w0 w (bB f q p S::R)):S.D.ok S.nb:=by obtain⟨_,_,_,hR,_⟩:=h.mF;exact hR.nV
theorem akS (ho:S.D.off=false) (h:Sep w0 w (bB f q p S::R)):
  Calls Tryz.prog 43 #[pV f] w fun e w'=>e= .returned (iV 0)/\Sep w0 w' (bB f q p S.base::R):=by
 have hb:=D5 h;have h1:Sep w0 (w.alloc (.cells #[iV 0] 40)) (bB f q p S::aJ w.heap.size 0::R):=Sep.dB [1,0] (h.bN 40 #[iV 0]) aR (by simp[aJ]);have haw:=BH ho h1;have hsy:Hid (∀W a,VC S.base a->Sep w0 W (aF f q p S.base a::aJ w.heap.size 0::R)->W.cell? ⟨f,0,none⟩=some (pV q)/\Calls Tryz.prog 102 #[pV q] W fun e w'=>e= .returned (iV 0)/\Sep w0 w' (aF f q p S.base a::aJ w.heap.size 0::R)):=Lh fun W a hC hW=>by refine⟨hW.fO.c0,?_⟩;have h2:=hW.bG;have hoff:S.base.D.off=false:=ho;have:=xS (q:=q) (p:=p) (dead:=false) hC.nV (Sep.dB [1,2,0,3,4,5] h2 aR (by simp[pU]):Sep w0 W (aG q p false::aO p S.base.D::kF f q S.base a.sb (.map (some a.fb)) false::dY a.sb a.SM::jK a.fb a.FM::aJ w.heap.size 0::R));rw[hoff]at this;refine this.mono ?_;rintro e w' ⟨rfl,h9⟩;refine⟨rfl,?_⟩;have h3:Sep w0 w' (pU f q p S.base a++(aJ w.heap.size 0::R)):=Sep.dB [2,0,1,3,4,5] h9 aR bK;exact h3.dC
 clear h h1
 go_enter_defers Tryz.func43,Tryz.ntmps43
 go_wp2_with(first |(go_at_call 53;refine haw.mono ?_;rintro e w9 ⟨rfl,a,hC,h9⟩;obtain⟨c0,hs⟩:=hsy.out _ _ hC h9;clear haw h9 hsy;replace hC:=Lh hC)|(go_at_call 102;refine hs.mono ?_;rintro e w8 ⟨rfl,h8⟩;have k1:=h8.bC 1 rfl 0;have k2:=h8.bF 1 rfl 0;simp only[gA,gB]at k1;clear hs)|(go_at_call 54;refine(eQ _ _).mono ?_;rintro e w7 ⟨rfl,h7⟩;obtain rfl:=h7.symm));refine kV ?_;have h10:=h8.bS 1 rfl 0 (.int .i64 0);have ec:=h10.bC 1 rfl 0;try simp only[gA,gB]at ec
 refine⟨.int .i64 0,by simp[results,Tryz.results43,go_sem,ec],rfl,?_⟩;have h11:Sep w0 _ (aJ w.heap.size 0::aF f q p S.base a::R):=h10.perm (List.Perm.swap _ _ _);exact rG hC.out hb (h11.drop 1)
def zU (S:VS) (path:List UInt8):Int:=if dX path=0 then((nP S.cur (aU S.cur S.data 0 0 (splitB path))).getD 0)else dX path
def Q6 (S:VS) (path:List UInt8):List UInt8:=if zU S path=0 then fB S.cur S.data (aH S.cur (aU S.cur S.data 0 0 (splitB path)).2.1.toNat)else []
theorem F3 (path:List UInt8):dX path≠11:=by
 unfold dX
 repeat' split
 all_goals decide
theorem KU {path:List UInt8} (h:dX path=0):aV path=true:=by
 unfold dX at h;split at h
 ·cases h
 split at h
 ·assumption
 cases h
theorem ahK {S:VS} {path:List UInt8} {k:Int} (h:nP S.cur (aU S.cur S.data 0 0 (splitB path))=some k):k≠0/\k≠11:=by have:=xW h;unfold EP at this;omega
theorem Z64 {P:Prop} (h:P:=by go_wp2_with(first |(go_at_call 53;refine haw.mono ?_;rintro e w9 ⟨rfl,a9,eX,h9⟩;replace eX:=Lh eX;clear haw)|(go_at_call 68;refine(hpl.out _).mono ?_;rintro e w8 ⟨rfl,zT⟩;replace h9:=h9.pure zT;clear zT hpl));exact hg.out _ _ _ eX.out h9 rfl rfl):P:=h
theorem arD {path:List UInt8} (hp:path.length<=9223372036854775807) (ho:S.D.off=false) (hV:VW S.base) (hz:∀m<S.names,(aH S.base.cur m).kind≠1->(aH S.base.cur m).size<=512*(aH S.base.cur m).aB.length) (h:Sep w0 w (bB f q p S::R)):
  Calls Tryz.prog 66 #[pV f,aC path] w fun e w'=>∃v,e= .returned (.tuple #[v,iV (zU S.base path)])/\Sep w0 w' (aI v (Q6 S.base path)::bB f q p S.base::R):=by
 have hb:=D5 h;have h1:Sep w0 (w.alloc (.cells #[iV 0] 40)) (bB f q p S::aJ w.heap.size 0::R):=Sep.dB [1,0] (h.bN 40 #[iV 0]) aR (by simp[aJ]);have haw:=BH ho h1;obtain⟨T,hT⟩:∃T,T=S.base:=⟨_,rfl⟩;have KV:S.names=T.names:=by rw[hT];rfl
 rw[<-hT]at hV hz hb haw ⊢;rw[KV]at hz;clear ho;have hres:Hid (∀(tm:Array Value) W x v Y,tm.getD 5 undef=pV w.heap.size->tm.getD 4 undef=v->Sep w0 W (Y++aJ w.heap.size x::R)->(results Tryz.f66 tm).run Tryz.prog W= .ok (.tuple #[v,iV x]) W):=Lh fun tm W x v Y ht hv hW=>by(have hi:(Y++aJ w.heap.size x::R)[Y.length]? =some (aJ w.heap.size x):=by simp);have ec:=hW.bC _ hi 0;simp only[gA,gB]at ec;(have ht2:tm[5]?.getD undef=pV w.heap.size:=by simpa using ht);(have hv2:tm[4]?.getD undef=v:=by simpa using hv);simp[results,Tryz.results66,go_sem,ht2,hv2,asAddr,loadVar,ec]
 have hpl:Hid (∀W,Calls Tryz.prog 68 #[aC path] W fun e w'=>e=(if dX path=0 then .returned (.tuple #[])else .panicked (fA (dX path)))/\Below W.heap.size W w'):=Lh fun W=>KS hp W
 --what is left where nothing is answered
 have o7:Hid (∀(tm:Array Value) W a k,k=zU T path->k≠0->k≠11->VC T a->Sep w0 W (aF f q p T a::aJ w.heap.size 0::R)->tm.getD 5 undef=pV w.heap.size->tm.getD 4 undef= .slice none 0 0->
   Leaves Tryz.prog Tryz.f66 tm (fun e w'=>∃v,e= .returned (.tuple #[v,iV (zU T path)])/\Sep w0 w' (aI v (Q6 T path)::bB f q p T::R)) [{target:=.fn (.func 52) #[],args:=#[pV f,pV w.heap.size]}] (.panicking (fA k)) W):=Lh fun tm W a k hk h0 h11 hC hW ht ht4=>by
  (refine IW hC hb h11 hW fun w' hw=>?_);refine⟨_,hres.out tm w' k _ [bB f q p T] ht ht4 hw,.slice none 0 0,by rw[hk],?_⟩;have h5:Sep w0 w' (aJ w.heap.size k::bB f q p T::R):=hw.perm (List.Perm.swap _ _ _);unfold Q6;rw[<-hk,if_neg h0];exact(h5.drop 1).gZ 5 1
 have hfl:Hid (aV path=true->∀W a,VC T a->Sep w0 W (aF f q p T a::aJ w.heap.size 0::R)->Calls Tryz.prog 123 #[pV f,aC path] W fun e w'=>e=IA T.cur (aU T.cur T.data 0 0 (splitB path))/\∃a',VC T a'/\Sep w0 w' (aF f q p T a'::aJ w.heap.size 0::R)):=Lh fun hv W a hC hW=>
  (BK hC hV hv (dG hv) hW).mono fun e w' ⟨h1,a',h2,h3⟩=>⟨h1,a',h2.ok,h3⟩
 have hct:Hid (∀m:Nat,m<T.names->¬(aH T.cur m).kind=1->∀W a,VC T a->Sep w0 W (aF f q p T a::aJ w.heap.size 0::R)->Calls Tryz.prog 128 #[pV f,iV m] W fun e w'=>∃v a2,e= .returned v/\VC T a2/\Sep w0 w' (aI v (fB T.cur T.data (aH T.cur m))::aF f q p T a2::aJ w.heap.size 0::R)):=Lh fun m hm hk W a hC hW=>by refine(ME hC hV.vf hm (hV.few m hm) (hV.lt m hm) (hz m hm hk) hW).mono ?_;rintro e w' ⟨v,a2,rfl,hR,h9⟩;exact⟨v,a2,rfl,hR.ok,h9⟩
 have hln:=qA hV (path:=path);have hpw:=F3 path;have hfs:∀k,nP T.cur (aU T.cur T.data 0 0 (splitB path))=some k->k≠0/\k≠11:=fun k hk=>ahK hk
 clear hV hz hT KV h h1;by_cases h0:dX path=0
 ·have hv:=KU h0;rw[h0,if_pos rfl]at hpl;have oO:=Lh (hfl.out hv);(have hrx:zU T path=(nP T.cur (aU T.cur T.data 0 0 (splitB path))).getD 0:=by unfold zU;rw[if_pos h0]);replace hrx:=Lh hrx;clear hfl hp hv h0 hpw;rw[BU]at oO;obtain⟨fe,hfe⟩:∃fe,fe=nP T.cur (aU T.cur T.data 0 0 (splitB path)):=⟨_,rfl⟩;rw[<-hfe]at oO hfs hrx;cases fe with
  |some k=>
   obtain⟨hk0,adM⟩:=hfs k rfl;have hg:=Lh (fun tm W a=>o7.out tm W a k hrx.out.symm hk0 adM);clear hfs hfe hct hln hk0 adM o7;simp only at oO;obtain⟨rx,aQO⟩:∃rx,rx=zU T path:=⟨_,rfl⟩;obtain⟨sv,hsv⟩:∃sv,sv=aC path:=⟨_,rfl⟩;unfold aC at*
   go_enter_defers Tryz.func66,Tryz.ntmps66
   go_wp2_with(first |(go_at_call 53;refine haw.mono ?_;rintro e w9 ⟨rfl,a9,eX,h9⟩;replace eX:=Lh eX;clear haw)|(go_at_call 68;refine(hpl.out _).mono ?_;rintro e w8 ⟨rfl,zT⟩;have BZ:=oO.out _ _ eX.out (h9.pure zT);clear h9 zT hpl)|(go_at_call 123;refine BZ.mono ?_;rintro e w7 ⟨rfl,a7,WA,h7⟩;clear BZ));exact hg.out _ _ _ WA h7 rfl rfl
  |none=>
   obtain⟨hr0,hr1,hr3⟩:=BV hfe.symm;obtain⟨d,m,hdl,FY,hre⟩:=hln hr0 hr1;rw[hre]at hr3;rw[nA]at hr3;(have hrb:Q6 T path=fB T.cur T.data (aH T.cur m):=by unfold Q6;rw[hrx.out,hre];simp);have IU:=Lh (hct.out m FY hr3);replace hrb:=Lh hrb;rw[hre]at oO;clear hfs hfe hct hln hr0 hr1 hr3 o7 FY hdl hre;simp only[J6]at oO hrx;obtain⟨sv,hsv⟩:∃sv,sv=aC path:=⟨_,rfl⟩;unfold aC at*
   go_enter_defers Tryz.func66,Tryz.ntmps66
   go_wp2_with(first |(go_at_call 53;refine haw.mono ?_;rintro e w9 ⟨rfl,a9,eX,h9⟩;replace eX:=Lh eX;clear haw)|(go_at_call 68;refine(hpl.out _).mono ?_;rintro e w8 ⟨rfl,zT⟩;have BZ:=oO.out _ _ eX.out (h9.pure zT);clear h9 zT hpl)|(go_at_call 123;refine BZ.mono ?_;rintro e w7 ⟨rfl,a7,WA,h7⟩;have hc7:=IU.out _ _ WA h7;clear BZ h7 IU WA)|(go_at_call 128;refine hc7.mono ?_;rintro e w6 ⟨v,a6,rfl,MH,h6⟩;have k1:=h6.bC 2 rfl 0;have k2:=h6.bF 2 rfl 0;simp only[gA,gB]at k1;clear hc7;replace MH:=Lh MH));refine kV ?_;have h10:=h6.bS 2 rfl 0 (.int .i64 0);refine⟨_,hres.out _ _ 0 v [aI v (fB T.cur T.data (aH T.cur m)),aF f q p T a6] rfl rfl h10,v,by rw[hrx.out],?_⟩;rw[hrb.out];have h11:Sep w0 _ (aJ w.heap.size 0::aF f q p T a6::aI v (fB T.cur T.data (aH T.cur m))::R):=Sep.dB [2,1,0] h10 aR (by simp[aJ]);exact(rG MH.out hb (h11.drop 1)).perm (List.Perm.swap _ _ _)
 have hrx:zU T path=dX path:=by unfold zU;rw[if_neg h0]
 have hg:=Lh (fun tm W a=>o7.out tm W a (dX path) hrx.symm h0 hpw);rw[if_neg h0]at hpl;clear hfl hct hln o7 hfs hpw;obtain⟨sv,hsv⟩:∃sv,sv=aC path:=⟨_,rfl⟩;unfold aC at*
 go_enter_defers Tryz.func66,Tryz.ntmps66
 exact Z64
end
end Go.Proofs.YtmjomdkleikgbaaGreat
