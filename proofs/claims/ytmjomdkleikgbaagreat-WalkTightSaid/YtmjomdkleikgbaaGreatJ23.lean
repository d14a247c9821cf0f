/- Parts. -/
import Derived.Test.YtmjomdkleikgbaaGreatJ22
set_option linter.unusedVariables false
set_option linter.unusedSimpArgs false
set_option maxRecDepth 100000
set_option maxHeartbeats 20000000
namespace Go.Proofs.YtmjomdkleikgbaaGreat
open Go.RowKit
section
variable {w0 w:World} {R:List aZ} {f q p:Nat} {S:VS} {a:VA}
def zT (b:Nat) (op:Int) (path tz:List UInt8) (mode kk:Int):aZ:=.box b 46 #[iV op,aC path,aC tz,iV mode,iV kk]
theorem Sep.aDS (h:Sep w0 w R):∃w1 w2 w3 w4 w5 w6 w7 w8 w9,
  (Instr.mapUpdate 99 (.map (some w.heap.size)) (.int .i64 1) (.func (.func 56) #[pV f] #[])).run Tryz.prog (w.alloc (.map #[] 0))= .ok () w1/\
  (Instr.mapUpdate 99 (.map (some w.heap.size)) (.int .i64 2) (.func (.func 57) #[pV f] #[])).run Tryz.prog w1= .ok () w2/\
  (Instr.mapUpdate 99 (.map (some w.heap.size)) (.int .i64 3) (.func (.func 58) #[pV f] #[])).run Tryz.prog w2= .ok () w3/\
  (Instr.mapUpdate 99 (.map (some w.heap.size)) (.int .i64 4) (.func (.func 59) #[pV f] #[])).run Tryz.prog w3= .ok () w4/\
  (Instr.mapUpdate 99 (.map (some w.heap.size)) (.int .i64 5) (.func (.func 60) #[pV f] #[])).run Tryz.prog w4= .ok () w5/\
  (Instr.mapUpdate 99 (.map (some w.heap.size)) (.int .i64 6) (.func (.func 61) #[pV f] #[])).run Tryz.prog w5= .ok () w6/\
  (Instr.mapUpdate 99 (.map (some w.heap.size)) (.int .i64 7) (.func (.func 62) #[pV f] #[])).run Tryz.prog w6= .ok () w7/\
  (Instr.mapUpdate 99 (.map (some w.heap.size)) (.int .i64 8) (.func (.func 63) #[pV f] #[])).run Tryz.prog w7= .ok () w8/\
  (Instr.mapUpdate 99 (.map (some w.heap.size)) (.int .i64 9) (.func (.func 64) #[pV f] #[])).run Tryz.prog w8= .ok () w9/\
  Sep w0 w9 (mO 3 w.heap.size (rC f)::R):=by
 have hM0:=h.KC 3;obtain⟨w1,r1,hM1⟩:=hM0.mE 0 rfl dW Tryz.underlying99 (by show(0:Nat)<maxLen;decide) (v:=.func (.func 56) #[.pointer (some ⟨f,0,none⟩)] #[]) (jR 1 aV);replace hM1:Sep w0 w1 (mO 3 w.heap.size ((rC f).take 1)::R):=hM1;obtain⟨w2,r2,hM2⟩:=hM1.mE 0 rfl dW Tryz.underlying99 (by show(1:Nat)<maxLen;decide) (v:=.func (.func 57) #[.pointer (some ⟨f,0,none⟩)] #[]) (jR 2 aV);replace hM2:Sep w0 w2 (mO 3 w.heap.size ((rC f).take 2)::R):=hM2;obtain⟨w3,r3,hM3⟩:=hM2.mE 0 rfl dW Tryz.underlying99 (by show(2:Nat)<maxLen;decide) (v:=.func (.func 58) #[.pointer (some ⟨f,0,none⟩)] #[]) (jR 3 aV);replace hM3:Sep w0 w3 (mO 3 w.heap.size ((rC f).take 3)::R):=hM3;obtain⟨w4,r4,hM4⟩:=hM3.mE 0 rfl dW Tryz.underlying99 (by show(3:Nat)<maxLen;decide) (v:=.func (.func 59) #[.pointer (some ⟨f,0,none⟩)] #[]) (jR 4 aV);replace hM4:Sep w0 w4 (mO 3 w.heap.size ((rC f).take 4)::R):=hM4;obtain⟨w5,r5,hM5⟩:=hM4.mE 0 rfl dW Tryz.underlying99 (by show(4:Nat)<maxLen;decide) (v:=.func (.func 60) #[.pointer (some ⟨f,0,none⟩)] #[]) (jR 5 aV);replace hM5:Sep w0 w5 (mO 3 w.heap.size ((rC f).take 5)::R):=hM5;obtain⟨w6,r6,hM6⟩:=hM5.mE 0 rfl dW Tryz.underlying99 (by show(5:Nat)<maxLen;decide) (v:=.func (.func 61) #[.pointer (some ⟨f,0,none⟩)] #[]) (jR 6 aV);replace hM6:Sep w0 w6 (mO 3 w.heap.size ((rC f).take 6)::R):=hM6;obtain⟨w7,r7,hM7⟩:=hM6.mE 0 rfl dW Tryz.underlying99 (by show(6:Nat)<maxLen;decide) (v:=.func (.func 62) #[.pointer (some ⟨f,0,none⟩)] #[]) (jR 7 aV);replace hM7:Sep w0 w7 (mO 3 w.heap.size ((rC f).take 7)::R):=hM7;obtain⟨w8,r8,hM8⟩:=hM7.mE 0 rfl dW Tryz.underlying99 (by show(7:Nat)<maxLen;decide) (v:=.func (.func 63) #[.pointer (some ⟨f,0,none⟩)] #[]) (jR 8 aV);replace hM8:Sep w0 w8 (mO 3 w.heap.size ((rC f).take 8)::R):=hM8;obtain⟨w9,r9,hM9⟩:=hM8.mE 0 rfl dW Tryz.underlying99 (by show(8:Nat)<maxLen;decide) (v:=.func (.func 64) #[.pointer (some ⟨f,0,none⟩)] #[]) (jR 9 aV);replace hM9:Sep w0 w9 (mO 3 w.heap.size ((rC f).take 9)::R):=hM9;exact⟨w1,w2,w3,w4,w5,w6,w7,w8,w9,r1,r2,r3,r4,r5,r6,r7,r8,r9,hM9⟩
def DD (w0:World) (R:List aZ) (A:Option Addr) (n:Nat) (kk:Int) (bs:List UInt8):Prop:=
 ∀k:Nat,kk=k->k<n->∃sa B cc,A=some sa/\(∀W Y,Sep w0 W (Y++R)->W.cell? (sa.add k)=some (.slice B bs.length cc))/\jG w0 R (.slice B bs.length cc) bs
theorem ajY {LY:FuncId} {op mode kk ck:Int} {path tz bs:List UInt8} {A:Option Addr} {n c:Nat} {r:Except Int (Option VS)} (hp:path.length<=9223372036854775807) (ht:tz.length<=9223372036854775807) (hn:n<=9223372036854775807) (hlen:bs.length<=9223372036854775807)
  (ho:S.D.off=false) (hop: -9223372036854775808<=op/\op<=9223372036854775807) (hck:ck=wP (bV op).1 (bV op).2.1 (bV op).2.2 op path tz mode kk n bs.length)
  (hrow:ck=0->getM (rC f) (.int .i64 op)=some (.func (.func LY) #[pV f] #[])) (hent:∀args w,(callFunc LY args).run Tryz.prog w= .ok (.enter LY args) w) (hst:DD w0 R A n kk bs) (hpr:avM r) (aqH:ck≠11)
  (hdo:ck=0->∀W a X,VC S.base a->S.base.D.back=[]->Sep w0 W (aF f q p S.base a::(X++R))->Calls Tryz.prog LY #[pV f,.agg #[iV op,aC path,aC tz,iV mode,iV kk],.slice A n c] W (opD f q p S.base r w0 (X++R)))
  (h:Sep w0 w (bH f q p S::R)):
  Calls Tryz.prog 18 #[pV f,.agg #[iV op,aC path,aC tz,iV mode,iV kk],.slice A n c] w fun e w'=>∃x,e= .returned (iV x)/\wQ f q p S.base (if ck=0 then r else .error ck) w0 w' R x:=by
 have hb:S.base.D.back=[]:=by obtain⟨_,_,_,hR,_⟩:=h.qU;exact hR.back
 obtain⟨bi,hbi⟩:∃b,b=w.heap.size:=⟨_,rfl⟩;have h1:Sep w0 ((w.alloc (.cells #[iV op,aC path,aC tz,iV mode,iV kk] 46)).alloc (.cells #[iV 0] 40)) (bH f q p S::aJ (bi+1) 0::zT bi op path tz mode kk::R):=by have:=(h.bN 46 #[iV op,aC path,aC tz,iV mode,iV kk]).bN 40 #[iV 0];rw[World.size_alloc,<-hbi]at this;exact Sep.dE [2,0,1] this aV bL
 have haw:=AR ho h1;have hcs:Hid (∀W Y,Sep w0 W (Y++zT bi op path tz mode kk::R)->W.cell? ⟨bi,0,none⟩=some (iV op)/\W.cell? ⟨bi,1,none⟩=some (aC path)/\W.cell? ⟨bi,2,none⟩=some (aC tz)/\W.cell? ⟨bi,3,none⟩=some (iV mode)/\W.cell? ⟨bi,4,none⟩=some (iV kk)):=Lh fun W Y hW=>by(have hi:(Y++zT bi op path tz mode kk::R)[Y.length]? =some (zT bi op path tz mode kk):=by simp);exact⟨hW.bC _ hi 0,hW.bC _ hi 1,hW.bC _ hi 2,hW.bC _ hi 3,hW.bC _ hi 4⟩
 have hce:Hid (∀W Y,Sep w0 W (Y++zT bi op path tz mode kk::R)->Calls Tryz.prog 55 #[.agg #[iV op,aC path,aC tz,iV mode,iV kk],.slice A n c] W fun e w'=>e= .returned (iV ck)/\Below W.heap.size W w'):=Lh fun W Y hW=>by rw[hck];refine amE op mode kk (A:=A) (n:=n) (c:=c) (len:=bs.length) hp ht W (fun k hk hkn=>?_) hn hlen;obtain⟨sa,B,cc,rfl,h2,_⟩:=hst k hk hkn;refine⟨sa,B,cc,rfl,fun W' hW'=>h2 W' (Y++[zT bi op path tz mode kk]) ?_⟩;have:=hW.pure hW';simpa using this
 have hmm:= @run_makeMap Tryz.prog;have hmf:∀(fn:Fn) (first cap:Array Value) (w:World),(Instr.makeFunc fn first cap).run Tryz.prog w= .ok (.func fn first cap) w:=fun _ _ _ _=>rfl
 have hres:Hid (∀(tm:Array Value) W x Y,tm.getD 6 undef=pV (bi+1)->Sep w0 W (Y++aJ (bi+1) x::zT bi op path tz mode kk::R)->(results Tryz.f18 tm).run Tryz.prog W= .ok (.int .i64 x) W):=Lh fun tm W x Y ht hW=>by(have hi:(Y++aJ (bi+1) x::zT bi op path tz mode kk::R)[Y.length]? =some (aJ (bi+1) x):=by simp);have ec:=hW.bC _ hi 0;simp only[gA,gB]at ec;(have ht2:tm[6]?.getD undef=pV (bi+1):=by simpa using ht);simp[results,Tryz.results18,go_sem,ht2,asAddr,loadVar,ec]
 have hdr:Hid (∀W (r:Except Int (Option VS)) x y,wQ f q p S.base r w0 W (aJ (bi+1) y::zT bi op path tz mode kk::R) x->wQ f q p S.base r w0 W R x):=Lh fun W r x y hE=>acR hE fun Y hY=>by have h2:Sep w0 W (aJ (bi+1) y::zT bi op path tz mode kk::(Y++R)):=hY.perm (by exact(lZ.trans (List.Perm.cons _ lZ)));exact h2.drop 2
 have hfin:Hid (∀(ps:List PanicEntry) W (r:Except Int (Option VS)) (tm:Array Value) (rr:Except Int (Option VS)),avM r->rr=r->tm.getD 6 undef=pV (bi+1)->opD f q p S.base r w0 (aJ (bi+1) 0::zT bi op path tz mode kk::R) (.panicked ps) W->
   Leaves Tryz.prog Tryz.f18 tm (fun e w'=>∃x,e= .returned (iV x)/\wQ f q p S.base rr w0 w' R x) [{target:=.fn (.func 52) #[],args:=#[pV f,pV (bi+1)]}] (.panicking ps) W):=Lh fun ps W r tm rr hpr hrr ht hD=>by
  subst hrr;(refine aqF hb hpr hD fun w' x hE=>?_);obtain⟨Y,hY⟩:=KA hE;exact⟨_,hres.out tm w' x Y ht hY,x,rfl,hdr.out _ _ _ _ hE⟩
 have hkey:keyOf Tryz.prog 3 (.int .i64 op)=some (.int .i64 op):=Maps.keyOf_int_mk Tryz.underlying3 (by simp[Lit.wf,IntKind.min,IntKind.max,IntKind.signed,IntKind.bits];omega);clear hop;replace hb:=Lh hb;clear hst hn hlen hp ht h h1;by_cases h0:ck=0
 ·rw[if_pos h0];replace hdo:=Lh (hdo h0);replace hrow:=Lh (hrow h0);clear hck aqH;subst h0;obtain⟨st,hst⟩:∃v,v=aC path:=⟨_,rfl⟩;unfold aC at*;rw[hbi]at*
  go_enter_defers Tryz.func18,Tryz.ntmps18
  go_wp2_with(first |(go_at_call 53;refine haw.mono ?_;rintro e w9 ⟨rfl,a9,eP,h9⟩;have hi9:Sep w0 w9 ([aF f q p S.base a9,aJ (w.heap.size+1) 0]++zT w.heap.size op path tz mode kk::R):=h9;obtain⟨e0,e1,e2,e3,e4⟩:=hcs.out _ _ hi9;have hch:=hce.out _ _ hi9;replace h9:=Lh h9;replace eP:=Lh eP;clear hi9 haw hce)|(go_at_call 55;refine hch.mono ?_;rintro e w8 ⟨rfl,BI⟩;have h8:=h9.out.pure BI;clear BI e0 e1 e2 e3 e4 hch h9)|(go_at_call 54;go_loud (refine(fB _ _).mono ?_;rintro e w7 ⟨rfl,h7⟩;obtain rfl:=h7.symm;obtain⟨x1,x2,x3,x4,x5,x6,x7,x8,x9,r1,r2,r3,r4,r5,r6,r7,r8,r9,hM⟩:=h8.aDS (f:=f);have hM2:Sep w0 x9 ([mO 3 w8.heap.size (rC f),aF f q p S.base a9,aJ (w.heap.size+1) 0]++zT w.heap.size op path tz mode kk::R):=hM;obtain⟨e0,e1,e2,e3,e4⟩:=hcs.out _ _ hM2;have hlk:=hM.Y8 0 rfl dW Tryz.underlying99 (amG _) (key:=.int .i64 op) (kl:=.int .i64 op) hkey;rw[hrow.out,JP]at hlk;have hd:=hdo.out x9 a9 [aJ (w.heap.size+1) 0,zT w.heap.size op path tz mode kk] eP.out hb.out (hM.drop 1);clear hM2 h8;replace hM:=Lh hM)));refine hd.mono ?_;intro e wz hz;clear hM e0 e1 e2 e3 e4 r1 r2 r3 r4 r5 r6 r7 r8 r9 hlk hd hdo;rcases aqG hz with rfl|⟨k,rfl⟩
  ·obtain⟨_,hE⟩:=avN hb.out hz;obtain⟨Y,hY⟩:=KA hE;(have hi:(Y++aJ (w.heap.size+1) 0::zT w.heap.size op path tz mode kk::R)[Y.length]? =some (aJ (w.heap.size+1) 0):=by simp);have k1:=hY.bC _ hi 0;have k2:=hY.bF _ hi 0;(have hE2:wQ f q p S.base r w0 (wz.setCell ⟨w.heap.size+1,0,none⟩ (.int .i64 0)) (aJ (w.heap.size+1) 0::zT w.heap.size op path tz mode kk::R) 0:=acR hE fun Z hZ=>by(have hi2:(Z++aJ (w.heap.size+1) 0::zT w.heap.size op path tz mode kk::R)[Z.length]? =some (aJ (w.heap.size+1) 0):=by simp);have h5:=hZ.bS _ hi2 0 (.int .i64 0);rw[aa4 _ _ (iB _),FB]at h5;exact h5);simp only[gA,gB]at k1;clear hi hY hz;replace hE2:=Lh hE2;clear hE;go_wp2_with fail;refine kQ ?_;obtain⟨Y2,hY2⟩:=KA hE2.out;exact⟨_,hres.out _ _ 0 Y2 rfl hY2,0,rfl,hdr.out _ _ _ _ hE2.out⟩
  exact hfin.out _ _ r _ r hpr rfl rfl hz
 rw[if_neg h0];clear hdo hrow hck hent;obtain⟨st,hst⟩:∃v,v=aC path:=⟨_,rfl⟩;unfold aC at*;rw[hbi]at*
 go_enter_defers Tryz.func18,Tryz.ntmps18
 go_wp2_with(first |(go_at_call 53;refine haw.mono ?_;rintro e w9 ⟨rfl,a9,eP,h9⟩;have hi9:Sep w0 w9 ([aF f q p S.base a9,aJ (w.heap.size+1) 0]++zT w.heap.size op path tz mode kk::R):=h9;obtain⟨e0,e1,e2,e3,e4⟩:=hcs.out _ _ hi9;have hch:=hce.out _ _ hi9;replace h9:=Lh h9;replace eP:=Lh eP;clear hi9 haw hce)|(go_at_call 55;refine hch.mono ?_;rintro e w8 ⟨rfl,BI⟩;have h8:=h9.out.pure BI;clear BI e0 e1 e2 e3 e4 hch h9)|(go_at_call 54;refine(fB _ _).mono ?_;rw[if_neg h0];rintro e w7 ⟨rfl,h7⟩;obtain rfl:=h7.symm));refine hfin.out _ _ (.error ck) _ (.error ck) (fun k hk=>by cases hk;exact aqH) rfl rfl ⟨?_,a9,eP.out,h8⟩;rw[if_neg h0];rfl
end
def UA (S:VS) (op:Int) (path tz:List UInt8) (mode:Nat) (bs:List UInt8):Except Int (Option VS):=
 if op=1 then MU S path ⟨1,mode,1,0,[]⟩ []
 else if op=2 then QL S path
 else if op=3 then IC S path tz
 else if op=4 then acP S path tz
 else if op=5 then IB S path
 else if op=6 then MU S path ⟨2,mode,1,0,[]⟩ bs
 else if op=7 then aqD S path tz mode
 else if op=8 then QH S path mode
 else .error 0
structure ayL (S:VS) (op:Int) (path tz:List UInt8) (mode:Nat) (bs:List UInt8):Prop where
 mkd:op=1->∀d:Nat,aS S.cur S.data 0 0 (splitB path)=((d:Int), -1,0)->S.nodes<256->wO S (⟨1,mode,1,0,[]⟩:VI) [] d path
 rm:op=2->∀d m:Nat,m<S.names->aS S.cur S.data 0 0 (splitB path)=((d:Int),(m:Int),0)->(aG S.cur m).kind=1->(aG S.cur m).size=0->Y7 S d path m
 mv:op=3->∀d m d2:Nat,m<S.names->aS S.cur S.data 0 0 (splitB path)=((d:Int),(m:Int),0)->¬(aG S.cur m).kind=1->(aS S.cur S.data 0 0 (splitB tz))=((d2:Int), -1,0)->QJ S d d2 path tz m
 ln:op=4->∀d m d2:Nat,m<S.names->aS S.cur S.data 0 0 (splitB path)=((d:Int),(m:Int),0)->¬(aG S.cur m).kind=1->(aS S.cur S.data 0 0 (splitB tz))=((d2:Int), -1,0)->S.nodes<256->agN S d2 tz m
 un:op=5->∀d m:Nat,m<S.names->aS S.cur S.data 0 0 (splitB path)=((d:Int),(m:Int),0)->¬(aG S.cur m).kind=1->QI S d path m
 wr:op=6->∀d:Nat,aS S.cur S.data 0 0 (splitB path)=((d:Int), -1,0)->S.nodes<256->wO S (⟨2,mode,1,0,[]⟩:VI) bs d path
 cp:op=7->∀d m d2:Nat,m<S.names->aS S.cur S.data 0 0 (splitB path)=((d:Int),(m:Int),0)->¬(aG S.cur m).kind=1->(aS S.cur S.data 0 0 (splitB tz))=((d2:Int), -1,0)->S.nodes<256->(aG S.cur m).size<=512*(aG S.cur m).aB.length/\wO S (⟨2,mode,1,0,[]⟩:VI) (eY S.cur S.data (aG S.cur m)) d2 tz
 ch:op=8->mode<=511->gL S/\∀d m:Nat,m<S.names->aS S.cur S.data 0 0 (splitB path)=((d:Int),(m:Int),0)->nU S (sO S m mode)
def TI (op:Int) (path tz:List UInt8) (mode kk:Int) (n:Nat) (len:Nat):Int:=wP (bV op).1 (bV op).2.1 (bV op).2.2 op path tz mode kk n len
def doR (S:VS) (op:Int) (path tz:List UInt8) (mode kk:Int) (n:Nat) (bs:List UInt8):Except Int (Option VS):=
 if TI op path tz mode kk n bs.length=0 then UA S op path tz mode.toNat bs else .error (TI op path tz mode kk n bs.length)
theorem agP {op:Int} (h:(bV op).2.2=true):op=1\/op=2\/op=3\/op=4\/op=5\/op=6\/op=7\/op=8\/op=9:=by
 unfold bV at h;simp only[sK,MO]at h
 repeat' split at h
 all_goals first |omega|cases h
theorem azO (op:Int) (path tz:List UInt8) (mode kk:Int) (n len:Nat):TI op path tz mode kk n len≠11:=by
 unfold TI wP
 repeat' split
 all_goals decide
structure aIR (op:Int) (path tz:List UInt8) (mode kk:Int) (n len:Nat):Prop where
 valid:aU path=true
 FL:(bV op).1=true->aU tz=true
 mode:(bV op).2.1=true->0<=mode/\mode<=511
 data:op=6->0<=kk/\kk<n/\len<=8192
theorem ajZ {op:Int} {path tz:List UInt8} {mode kk:Int} {n len:Nat} (h:TI op path tz mode kk n len=0):op=9\/((bV op).2.2=true/\op≠9/\aIR op path tz mode kk n len):=by
 unfold TI wP at h;by_cases h1:(bV op).2.2=false
 ·rw[if_pos h1]at h;cases h
 rw[if_neg h1]at h;by_cases h2:(op==9)=true
 ·exact .inl (by simpa using h2)
 rw[if_neg h2]at h;right;by_cases h3:(bV op).2.1=true/\(mode<0\/511<mode)
 ·rw[if_pos h3]at h;cases h
 rw[if_neg h3]at h;by_cases h4:(path==[])=true\/((bV op).1=true/\(tz==[])=true)
 ·rw[if_pos h4]at h;cases h
 rw[if_neg h4]at h;by_cases h5:aU path=false\/((bV op).1=true/\aU tz=false)
 ·rw[if_pos h5]at h;cases h
 rw[if_neg h5]at h;refine⟨by simpa using h1,by simpa using h2,?_,?_,?_,?_⟩
 ·cases hv:aU path with
  |true=>rfl
  |false=>exact absurd (.inl hv) h5
 ·intro hf;cases hv:aU tz with
  |true=>rfl
  |false=>exact absurd (.inr ⟨hf,hv⟩) h5
 ·intro hf;refine⟨?_,?_⟩
  ·by_cases hm:mode<0
   ·exact absurd ⟨hf,.inl hm⟩ h3
   omega
  by_cases hm:511<mode
  ·exact absurd ⟨hf,.inr hm⟩ h3
  omega
 intro h6;subst h6;rw[if_neg aV]at h;by_cases h7:kk<0\/(n:Int)<=kk
 ·rw[if_pos h7]at h;cases h
 rw[if_neg h7]at h;by_cases h8:8192<len
 ·rw[if_pos h8]at h;cases h
 omega
theorem DF (c:fZ) (d:Nat):∀(l:List (List UInt8)) (dir n:Nat),(aS c d dir n l).2.2=0\/(aS c d dir n l).2.2=21\/(aS c d dir n l).2.2=22
 |[],_,_=>.inl rfl
 |name::l,dir,n=>by
  unfold aS;by_cases h1:(aG c n).kind=1
  ·rw[if_pos h1];by_cases h2:0<=(kG (jU c d (aG c n)) name).1
   ·rw[if_pos h2];exact DF c d l _ _
   rw[if_neg h2];split
   ·exact .inl rfl
   exact .inr (.inl rfl)
  rw[if_neg h1];exact .inr (.inr rfl)
def ED (k:Int):Prop:=k=21\/k=22\/k=23\/k=24\/k=25\/k=31
theorem IJ {c:fZ} {d:Nat} {l:List (List UInt8)} {k:Int} (h:gP (aS c d 0 0 l)=some k):ED k:=by
 unfold gP at h;have:=DF c d l 0 0;unfold ED;split at h
 ·split at h
  ·cases h
  cases h;omega
 cases h;omega
theorem uX {c:fZ} {d:Nat} {l:List (List UInt8)} {k:Int} (h:dU (aS c d 0 0 l)=some k):ED k:=by
 unfold dU at h;have:=DF c d l 0 0;unfold ED;split at h
 ·split at h
  ·cases h;omega
  cases h
 cases h;omega
theorem xI {b c:fZ} {d:Nat} {l:List (List UInt8)} {k:Int} (h:nN b (aS c d 0 0 l)=some k):ED k:=by
 unfold nN at h;have:=DF c d l 0 0;unfold ED;split at h
 ·split at h
  ·cases h;omega
  split at h
  ·cases h;omega
  cases h
 cases h;omega
theorem Z24 {P:Prop} (h:P:=by
 split at h
 ·rename_i h1;cases h;exact IJ h1
 split at h
 ·cases h
 cases h;unfold ED;omega):P:=h
theorem acS {S:VS} {path:List UInt8} {x:VI} {bs:List UInt8} {k:Int} (h:MU S path x bs= .error k):ED k:=by unfold MU at h;exact Z24
theorem p9 {S:VS} {op:Int} {path tz:List UInt8} {mode:Nat} {bs:List UInt8} {k:Int} (h:UA S op path tz mode bs= .error k):(k=0/\op≠1/\op≠2/\op≠3/\op≠4/\op≠5/\op≠6/\op≠7/\op≠8)\/ED k:=by
 unfold UA at h;by_cases h1:op=1
 ·rw[if_pos h1]at h;exact .inr (acS h)
 rw[if_neg h1]at h;by_cases h2:op=2
 ·rw[if_pos h2]at h;right;unfold QL at h;split at h
  ·rename_i h1;cases h;exact uX h1
  split at h
  ·cases h;unfold ED;omega
  split at h
  ·cases h;unfold ED;omega
  cases h
 rw[if_neg h2]at h;by_cases h3:op=3
 ·rw[if_pos h3]at h;right;unfold IC at h;split at h
  ·rename_i h1;cases h;exact xI h1
  split at h
  ·rename_i h1;cases h;exact IJ h1
  cases h
 rw[if_neg h3]at h;by_cases h4:op=4
 ·rw[if_pos h4]at h;right;unfold acP at h;split at h
  ·rename_i h1;cases h;exact xI h1
  exact Z24
 rw[if_neg h4]at h;by_cases h5:op=5
 ·rw[if_pos h5]at h;right;unfold IB at h;split at h
  ·rename_i h1;cases h;exact xI h1
  cases h
 rw[if_neg h5]at h;by_cases h6:op=6
 ·rw[if_pos h6]at h;exact .inr (acS h)
 rw[if_neg h6]at h;by_cases h7:op=7
 ·rw[if_pos h7]at h;right;unfold aqD at h;split at h
  ·rename_i h1;cases h;exact xI h1
  exact Z24
 rw[if_neg h7]at h;by_cases h8:op=8
 ·rw[if_pos h8]at h;right;unfold QH at h;split at h
  ·rename_i h1;cases h;exact uX h1
  cases h
 rw[if_neg h8]at h;cases h;exact .inl ⟨rfl,h1,h2,h3,h4,h5,h6,h7,h8⟩
theorem acT {S:VS} {op:Int} {path tz:List UInt8} {mode:Nat} {bs:List UInt8}:avM (UA S op path tz mode bs):=fun k h=>by have:=p9 h;unfold ED at this;omega
theorem Y9 :∀args w,(callFunc 56 args).run Tryz.prog w= .ok (.enter 56 args) w:=Go.Proofs.enters_of Tryz.func56 fH rfl
theorem ZA :∀args w,(callFunc 57 args).run Tryz.prog w= .ok (.enter 57 args) w:=Go.Proofs.enters_of Tryz.func57 fH rfl
theorem UB :∀args w,(callFunc 58 args).run Tryz.prog w= .ok (.enter 58 args) w:=Go.Proofs.enters_of Tryz.func58 fH rfl
theorem acU :∀args w,(callFunc 59 args).run Tryz.prog w= .ok (.enter 59 args) w:=Go.Proofs.enters_of Tryz.func59 fH rfl
theorem UC :∀args w,(callFunc 60 args).run Tryz.prog w= .ok (.enter 60 args) w:=Go.Proofs.enters_of Tryz.func60 fH rfl
theorem ZB :∀args w,(callFunc 61 args).run Tryz.prog w= .ok (.enter 61 args) w:=Go.Proofs.enters_of Tryz.func61 fH rfl
theorem KD :∀args w,(callFunc 62 args).run Tryz.prog w= .ok (.enter 62 args) w:=Go.Proofs.enters_of Tryz.func62 fH rfl
theorem ZC :∀args w,(callFunc 63 args).run Tryz.prog w= .ok (.enter 63 args) w:=Go.Proofs.enters_of Tryz.func63 fH rfl
theorem MF :∀args w,(callFunc 64 args).run Tryz.prog w= .ok (.enter 64 args) w:=Go.Proofs.enters_of Tryz.func64 fH rfl
section
variable {w0 w:World} {R:List aZ} {f q p:Nat} {S:VS}
theorem azP {r:Except Int (Option VS)} {R:List aZ} {e:Ending} (hz:∀k,r= .error k->k≠0) (h:mQ f q p S r w0 R e w):opD f q p S r w0 R e w:=by
 match r with
 | .error k=>obtain⟨he,a',hC,hS⟩:=h;exact⟨by rw[if_neg (hz k rfl)];exact he,a',hC,hS⟩
 | .ok r=>exact h
theorem wF {r:Except Int (Option VS)} {R:List aZ} {e:Ending} (hz:∀k,r= .error k->ED k) (h:mQ f q p S r w0 R e w):opD f q p S r w0 R e w:=
 azP (fun k hk=>by have:=hz k hk;unfold ED at this;omega) h
theorem azQ {op mode kk:Int} {path tz bs:List UInt8} {A:Option Addr} {n c:Nat} (hp:path.length<=9223372036854775807) (ht:tz.length<=9223372036854775807) (hn:n<=9223372036854775807) (hlen:bs.length<=9223372036854775807)
  (ho:S.D.off=false) (hop: -9223372036854775808<=op/\op<=9223372036854775807) (hst:DD w0 R A n kk bs) (hV:VW S.base) (hOk:TI op path tz mode kk n bs.length=0->ayL S.base op path tz mode.toNat bs) (h:Sep w0 w (bH f q p S::R)):
  Calls Tryz.prog 18 #[pV f,.agg #[iV op,aC path,aC tz,iV mode,iV kk],.slice A n c] w fun e w'=>∃x,e= .returned (iV x)/\wQ f q p S.base (doR S.base op path tz mode kk n bs) w0 w' R x:=by
 have aqH:=azO op path tz mode kk n bs.length;unfold doR;by_cases h0:TI op path tz mode kk n bs.length=0
 ·have hA:=hOk h0;have go:∀LY:FuncId,getM (rC f) (.int .i64 op)=some (.func (.func LY) #[pV f] #[])->(∀args w,(callFunc LY args).run Tryz.prog w= .ok (.enter LY args) w)->
    (∀W a X,VC S.base a->S.base.D.back=[]->Sep w0 W (aF f q p S.base a::(X++R))->Calls Tryz.prog LY #[pV f,.agg #[iV op,aC path,aC tz,iV mode,iV kk],.slice A n c] W (opD f q p S.base (UA S.base op path tz mode.toNat bs) w0 (X++R)))->
    Calls Tryz.prog 18 #[pV f,.agg #[iV op,aC path,aC tz,iV mode,iV kk],.slice A n c] w fun e w'=>∃x,e= .returned (iV x)/\wQ f q p S.base (if TI op path tz mode kk n bs.length=0 then UA S.base op path tz mode.toNat bs else .error (TI op path tz mode kk n bs.length)) w0 w' R x:=
   fun LY hrow hent hdo=>ajY (ck:=TI op path tz mode kk n bs.length) hp ht aD hlen ho hop rfl (fun _=>hrow) hent hst acT aqH (fun _=>hdo) h
  rcases ajZ h0 with rfl|⟨hf,h9,hk⟩
  ·exact go _ rfl MF fun W a X hC hb hS=>(aqC hC hS).mono fun e w' ⟨h1,h2⟩=>⟨h1,a,hC,h2⟩
  (have hmn:(bV op).2.1=true->((mode.toNat:Nat):Int)=mode:=fun hm=>ai5 (hk.mode hm).1);rcases agP hf with rfl|rfl|rfl|rfl|rfl|rfl|rfl|rfl|rfl
  ·have hm:=hmn rfl;(refine go _ rfl Y9 fun W a X hC hb hS=>?_);rw[<-hm];exact(al6 hC hV hb hk.valid (dL hk.valid) (hA.mkd rfl) hS).mono fun e w' hd=>wF (fun k hk=>(p9 (op:=1) (path:=path) (tz:=tz) (mode:=mode.toNat) (bs:=bs) hk).resolve_left fun e0=>e0.2.1 rfl) hd
  ·(refine go _ rfl ZA fun W a X hC hb hS=>?_);exact(amB hC hV hb hk.valid (dL hk.valid) (hA.rm rfl) hS).mono fun e w' hd=>wF (fun k hk=>(p9 (op:=2) (path:=path) (tz:=tz) (mode:=mode.toNat) (bs:=bs) hk).resolve_left fun e0=>e0.2.2.1 rfl) hd
  ·(refine go _ rfl UB fun W a X hC hb hS=>?_);exact(agM hC hV hb hk.valid (dL hk.valid) (hk.FL rfl) (dL (hk.FL rfl)) (hA.mv rfl) hS).mono fun e w' hd=>wF (fun k hk=>(p9 (op:=3) (path:=path) (tz:=tz) (mode:=mode.toNat) (bs:=bs) hk).resolve_left fun e0=>e0.2.2.2.1 rfl) hd
  ·(refine go _ rfl acU fun W a X hC hb hS=>?_);exact(aqB hC hV hb hk.valid (dL hk.valid) (hk.FL rfl) (dL (hk.FL rfl)) (hA.ln rfl) hS).mono fun e w' hd=>wF (fun k hk=>(p9 (op:=4) (path:=path) (tz:=tz) (mode:=mode.toNat) (bs:=bs) hk).resolve_left fun e0=>e0.2.2.2.2.1 rfl) hd
  ·(refine go _ rfl UC fun W a X hC hb hS=>?_);exact(agL hC hV hb hk.valid (dL hk.valid) (hA.un rfl) hS).mono fun e w' hd=>wF (fun k hk=>(p9 (op:=5) (path:=path) (tz:=tz) (mode:=mode.toNat) (bs:=bs) hk).resolve_left fun e0=>e0.2.2.2.2.2.1 rfl) hd
  ·have hm:=hmn rfl;(refine go _ rfl ZB fun W a X hC hb hS=>?_);rw[<-hm];obtain⟨h6a,h6b,h6c⟩:=hk.data rfl;obtain⟨j,rfl⟩:∃j:Nat,kk=j:=⟨kk.toNat,by omega⟩;obtain⟨sa,B,cc,rfl,hcl,htl⟩:=hst j rfl aD;(have aIT:∀W Y,Sep w0 W (Y++(X++R))->W.cell? (sa.add j)=some (.slice B bs.length cc):=fun W Y hY=>hcl W (Y++X) (by rw[pJ];exact hY));exact(al7 hC hV hb hk.valid (dL hk.valid) aIT aD aD (fun W Y hY=>htl W (Y++X) (by rw[pJ];exact hY)) (hA.wr rfl) hS).mono fun e w' hd=>wF (fun k hk=>(p9 (op:=6) (path:=path) (tz:=tz) (mode:=mode.toNat) (bs:=bs) hk).resolve_left fun e0=>e0.2.2.2.2.2.2.1 rfl) hd
  ·have hm:=hmn rfl;(refine go _ rfl KD fun W a X hC hb hS=>?_);rw[<-hm];exact(T9 hC hV hb hk.valid (dL hk.valid) (hk.FL rfl) (dL (hk.FL rfl)) (hA.cp rfl) hS).mono fun e w' hd=>wF (fun k hk=>(p9 (op:=7) (path:=path) (tz:=tz) (mode:=mode.toNat) (bs:=bs) hk).resolve_left fun e0=>e0.2.2.2.2.2.2.2.1 rfl) hd
  ·have hm:=hmn rfl;(refine go _ rfl ZC fun W a X hC hb hS=>?_);rw[<-hm];have h8:=hA.ch rfl (by have:=(hk.mode rfl).2;omega);exact(al8 hC hV hb hk.valid (dL hk.valid) (by have:=(hk.mode rfl).2;omega) h8.1 h8.2 hS).mono fun e w' hd=>wF (fun k hk=>(p9 (op:=8) (path:=path) (tz:=tz) (mode:=mode.toNat) (bs:=bs) hk).resolve_left fun e0=>e0.2.2.2.2.2.2.2.2 rfl) hd
  exact absurd rfl h9
 exact ajY (LY:=64) (ck:=TI op path tz mode kk n bs.length) (r:=UA S.base op path tz mode.toNat bs) hp ht aD hlen ho hop rfl (fun e=>absurd e h0) MF hst acT aqH (fun e=>absurd e h0) h
end
def dV (path:List UInt8):Int:=if path=[]then 26 else if aU path=true then 0 else 20
theorem KE {path:List UInt8} (hp:path.length<=9223372036854775807) (w:World):
  Calls Tryz.prog 68 #[aC path] w fun e w'=>e=(if dV path=0 then .returned (.tuple #[])else .panicked (fP (dV path)))/\Below w.heap.size w w':=by
 have hv:∀W,Calls Tryz.prog 104 #[aC path] W fun e w'=>e= .returned (.bool (aU path))/\Below W.heap.size W w':=fun W=>by exact Z77
 unfold dV;by_cases h0:path=[]
 ·subst h0;rw[if_pos rfl,if_neg aV];clear hv;unfold aC;go_enter Tryz.func68,Tryz.ntmps68;go_wp2_with(go_at_call 54;refine(fB _ _).mono ?_;rintro e w7 ⟨rfl,h7⟩;obtain rfl:=h7.symm);exact⟨rfl,rfl,Below.refl _ _⟩
 rw[if_neg h0];have hne:(path==[])=false:=by simpa using h0
 unfold aC at*;cases hvp:aU path with
 |true=>
  rw[if_pos rfl,if_pos rfl];rw[hvp]at hv;go_enter Tryz.func68,Tryz.ntmps68;go_wp2_with(go_at_call 104;refine(hv _).mono ?_;rintro e w7 ⟨rfl,h7⟩)
  go_end0
  exact⟨rfl,h7⟩
 |false=>rw[if_neg aV,if_neg aV];rw[hvp]at hv;go_enter Tryz.func68,Tryz.ntmps68;go_wp2_with(first |(go_at_call 104;refine(hv _).mono ?_;rintro e w7 ⟨rfl,h7⟩)|(go_at_call 54;refine(fB _ _).mono ?_;rintro e w6 ⟨rfl,h6⟩;obtain rfl:=h6.symm));exact⟨rfl,rfl,h7⟩
section
variable {w0 w:World} {R:List aZ} {f q p:Nat} {S:VS} {a:VA}
theorem Sep.QM (h:Sep w0 w (bH f q p S::R)):w.cell? ⟨f,4,none⟩=some (.bool false)/\w.cell? ⟨f,5,none⟩=some (.complex .f64 (fI S.wB) (fI S.wI))/\w.cell? ⟨f,7,none⟩=some (.complex .f64 (fI S.rB) (fI S.rI)):=by obtain⟨sb,SM,fo,hR,h1⟩:=h.qU;exact⟨h1.bC 0 rfl 4,h1.bC 0 rfl 5,h1.bC 0 rfl 7⟩
theorem amH (h:Sep w0 w (bH f q p S::R)):Calls Tryz.prog 42 #[pV f] w fun e w'=>e= .returned (iK S.rB S.rI)/\w'=w:=by obtain⟨c4,c5,c7⟩:=h.QM;clear h;unfold iK;go_enter Tryz.func42,Tryz.ntmps42;go_wp2_with fail;go_ret;exact⟨rfl,rfl⟩
theorem amI (hb:bK S.rB) (hi:bK S.rI) (hw:bK S.wB) (hv:bK S.wI) (h1:bK (S.rB-S.wB)) (h2:bK (S.rI-S.wI)) (h:Sep w0 w (bH f q p S::R)):
  Calls Tryz.prog 22 #[pV f] w fun e w'=>e= .returned (iK (S.rB-S.wB) (S.rI-S.wI))/\∃n,w'=w.drewN n:=by
 obtain⟨c4,c5,c7⟩:=h.QM;have hsub:=fun W=>V8 53 S.rB S.rI S.wB S.wI hb hi hw hv h1 h2 W
 clear h hb hi hw hv h1 h2;unfold iK at*;go_enter Tryz.func22,Tryz.ntmps22;go_wp2_with fail;go_quiet (fail);go_wp2_with fail;go_ret;exact⟨rfl,_,rfl⟩
theorem DI (h:Sep w0 w (bH f q p S::R)):S.base.D.back=[]:=by obtain⟨_,_,_,hR,_⟩:=h.qU;exact hR.back
theorem acV (h:Sep w0 w (bH f q p S::R)):S.D.ok S.nb:=by obtain⟨_,_,_,hR,_⟩:=h.qU;exact hR.pF
theorem avO (ho:S.D.off=false) (h:Sep w0 w (bH f q p S::R)):
  Calls Tryz.prog 43 #[pV f] w fun e w'=>e= .returned (iV 0)/\Sep w0 w' (bH f q p S.base::R):=by
 have hb:=DI h;have h1:Sep w0 (w.alloc (.cells #[iV 0] 40)) (bH f q p S::aJ w.heap.size 0::R):=Sep.dE [1,0] (h.bN 40 #[iV 0]) aV (by simp[aJ]);have haw:=AR ho h1;have hsy:Hid (∀W a,VC S.base a->Sep w0 W (aF f q p S.base a::aJ w.heap.size 0::R)->W.cell? ⟨f,0,none⟩=some (pV q)/\Calls Tryz.prog 102 #[pV q] W fun e w'=>e= .returned (iV 0)/\Sep w0 w' (aF f q p S.base a::aJ w.heap.size 0::R)):=Lh fun W a hC hW=>by refine⟨hW.fK.c0,?_⟩;have h2:=hW.bE;have hoff:S.base.D.off=false:=ho;have:=C8 (q:=q) (p:=p) (dead:=false) hC.pF (Sep.dE [1,2,0,3,4,5] h2 aV (by simp[pQ]):Sep w0 W (aH q p false::aO p S.base.D::kX f q S.base a.sb (.map (some a.fb)) false::eU a.sb a.SM::jI a.fb a.FM::aJ w.heap.size 0::R));rw[hoff]at this;refine this.mono ?_;rintro e w' ⟨rfl,h9⟩;refine⟨rfl,?_⟩;have h3:Sep w0 w' (pQ f q p S.base a++(aJ w.heap.size 0::R)):=Sep.dE [2,0,1,3,4,5] h9 aV bL;exact h3.dB
 clear h h1
 go_enter_defers Tryz.func43,Tryz.ntmps43
 go_wp2_with(first |(go_at_call 53;refine haw.mono ?_;rintro e w9 ⟨rfl,a,hC,h9⟩;obtain⟨c0,hs⟩:=hsy.out _ _ hC h9;clear haw h9 hsy;replace hC:=Lh hC)|(go_at_call 102;refine hs.mono ?_;rintro e w8 ⟨rfl,h8⟩;have k1:=h8.bC 1 rfl 0;have k2:=h8.bF 1 rfl 0;simp only[gA,gB]at k1;clear hs)|(go_at_call 54;refine(fB _ _).mono ?_;rintro e w7 ⟨rfl,h7⟩;obtain rfl:=h7.symm));refine kQ ?_;have h10:=h8.bS 1 rfl 0 (.int .i64 0);have ec:=h10.bC 1 rfl 0;try simp only[gA,gB]at ec
 refine⟨.int .i64 0,by simp[results,Tryz.results43,go_sem,ec],rfl,?_⟩;have h11:Sep w0 _ (aJ w.heap.size 0::aF f q p S.base a::R):=h10.perm (List.Perm.swap _ _ _);exact qZ hC.out hb (h11.drop 1)
def zC (S:VS) (path:List UInt8):Int:=if dV path=0 then((nN S.cur (aS S.cur S.data 0 0 (splitB path))).getD 0)else dV path
def QN (S:VS) (path:List UInt8):List UInt8:=if zC S path=0 then eY S.cur S.data (aG S.cur (aS S.cur S.data 0 0 (splitB path)).2.1.toNat)else []
theorem FN (path:List UInt8):dV path≠11:=by
 unfold dV
 repeat' split
 all_goals decide
theorem KF {path:List UInt8} (h:dV path=0):aU path=true:=by
 unfold dV at h;split at h
 ·cases h
 split at h
 ·assumption
 cases h
theorem agQ {S:VS} {path:List UInt8} {k:Int} (h:nN S.cur (aS S.cur S.data 0 0 (splitB path))=some k):k≠0/\k≠11:=by have:=xI h;unfold ED at this;omega
theorem Z59 {P:Prop} (h:P:=by go_wp2_with(first |(go_at_call 53;refine haw.mono ?_;rintro e w9 ⟨rfl,a9,eP,h9⟩;replace eP:=Lh eP;clear haw)|(go_at_call 68;refine(hpl.out _).mono ?_;rintro e w8 ⟨rfl,BI⟩;replace h9:=h9.pure BI;clear BI hpl));exact hg.out _ _ _ eP.out h9 rfl rfl):P:=h
theorem aqI {path:List UInt8} (hp:path.length<=9223372036854775807) (ho:S.D.off=false) (hV:VW S.base) (hz:∀m<S.names,(aG S.base.cur m).kind≠1->(aG S.base.cur m).size<=512*(aG S.base.cur m).aB.length) (h:Sep w0 w (bH f q p S::R)):
  Calls Tryz.prog 66 #[pV f,aC path] w fun e w'=>∃v,e= .returned (.tuple #[v,iV (zC S.base path)])/\Sep w0 w' (aI v (QN S.base path)::bH f q p S.base::R):=by
 have hb:=DI h;have h1:Sep w0 (w.alloc (.cells #[iV 0] 40)) (bH f q p S::aJ w.heap.size 0::R):=Sep.dE [1,0] (h.bN 40 #[iV 0]) aV (by simp[aJ]);have haw:=AR ho h1;obtain⟨T,hT⟩:∃T,T=S.base:=⟨_,rfl⟩;have KG:S.names=T.names:=by rw[hT];rfl
 rw[<-hT]at hV hz hb haw ⊢;rw[KG]at hz;clear ho;have hres:Hid (∀(tm:Array Value) W x v Y,tm.getD 5 undef=pV w.heap.size->tm.getD 4 undef=v->Sep w0 W (Y++aJ w.heap.size x::R)->(results Tryz.f66 tm).run Tryz.prog W= .ok (.tuple #[v,iV x]) W):=Lh fun tm W x v Y ht hv hW=>by(have hi:(Y++aJ w.heap.size x::R)[Y.length]? =some (aJ w.heap.size x):=by simp);have ec:=hW.bC _ hi 0;simp only[gA,gB]at ec;(have ht2:tm[5]?.getD undef=pV w.heap.size:=by simpa using ht);(have hv2:tm[4]?.getD undef=v:=by simpa using hv);simp[results,Tryz.results66,go_sem,ht2,hv2,asAddr,loadVar,ec]
 have hpl:Hid (∀W,Calls Tryz.prog 68 #[aC path] W fun e w'=>e=(if dV path=0 then .returned (.tuple #[])else .panicked (fP (dV path)))/\Below W.heap.size W w'):=Lh fun W=>KE hp W
 --what is left where nothing is answered
 have oZ:Hid (∀(tm:Array Value) W a k,k=zC T path->k≠0->k≠11->VC T a->Sep w0 W (aF f q p T a::aJ w.heap.size 0::R)->tm.getD 5 undef=pV w.heap.size->tm.getD 4 undef= .slice none 0 0->
   Leaves Tryz.prog Tryz.f66 tm (fun e w'=>∃v,e= .returned (.tuple #[v,iV (zC T path)])/\Sep w0 w' (aI v (QN T path)::bH f q p T::R)) [{target:=.fn (.func 52) #[],args:=#[pV f,pV w.heap.size]}] (.panicking (fP k)) W):=Lh fun tm W a k hk h0 h11 hC hW ht ht4=>by
  (refine II hC hb h11 hW fun w' hw=>?_);refine⟨_,hres.out tm w' k _ [bH f q p T] ht ht4 hw,.slice none 0 0,by rw[hk],?_⟩;have h5:Sep w0 w' (aJ w.heap.size k::bH f q p T::R):=hw.perm (List.Perm.swap _ _ _);unfold QN;rw[<-hk,if_neg h0];exact(h5.drop 1).iO 5 1
 have hfl:Hid (aU path=true->∀W a,VC T a->Sep w0 W (aF f q p T a::aJ w.heap.size 0::R)->Calls Tryz.prog 123 #[pV f,aC path] W fun e w'=>e=G9 T.cur (aS T.cur T.data 0 0 (splitB path))/\∃a',VC T a'/\Sep w0 w' (aF f q p T a'::aJ w.heap.size 0::R)):=Lh fun hv W a hC hW=>
  (AX hC hV hv (dL hv) hW).mono fun e w' ⟨h1,a',h2,h3⟩=>⟨h1,a',h2.ok,h3⟩
 have hct:Hid (∀m:Nat,m<T.names->¬(aG T.cur m).kind=1->∀W a,VC T a->Sep w0 W (aF f q p T a::aJ w.heap.size 0::R)->Calls Tryz.prog 128 #[pV f,iV m] W fun e w'=>∃v a2,e= .returned v/\VC T a2/\Sep w0 w' (aI v (eY T.cur T.data (aG T.cur m))::aF f q p T a2::aJ w.heap.size 0::R)):=Lh fun m hm hk W a hC hW=>by refine(LJ hC hV.vf hm (hV.few m hm) (hV.lt m hm) (hz m hm hk) hW).mono ?_;rintro e w' ⟨v,a2,rfl,hR,h9⟩;exact⟨v,a2,rfl,hR.ok,h9⟩
 have hln:=pY hV (path:=path);have hpw:=FN path;have hfs:∀k,nN T.cur (aS T.cur T.data 0 0 (splitB path))=some k->k≠0/\k≠11:=fun k hk=>agQ hk
 clear hV hz hT KG h h1;by_cases h0:dV path=0
 ·have hv:=KF h0;rw[h0,if_pos rfl]at hpl;have oN:=Lh (hfl.out hv);(have hrx:zC T path=(nN T.cur (aS T.cur T.data 0 0 (splitB path))).getD 0:=by unfold zC;rw[if_pos h0]);replace hrx:=Lh hrx;clear hfl hp hv h0 hpw;rw[BG]at oN;obtain⟨fe,hfe⟩:∃fe,fe=nN T.cur (aS T.cur T.data 0 0 (splitB path)):=⟨_,rfl⟩;rw[<-hfe]at oN hfs hrx;cases fe with
  |some k=>
   obtain⟨hk0,acW⟩:=hfs k rfl;have hg:=Lh (fun tm W a=>oZ.out tm W a k hrx.out.symm hk0 acW);clear hfs hfe hct hln hk0 acW oZ;simp only at oN;obtain⟨rx,aPH⟩:∃rx,rx=zC T path:=⟨_,rfl⟩;obtain⟨sv,hsv⟩:∃sv,sv=aC path:=⟨_,rfl⟩;unfold aC at*
   go_enter_defers Tryz.func66,Tryz.ntmps66
   go_wp2_with(first |(go_at_call 53;refine haw.mono ?_;rintro e w9 ⟨rfl,a9,eP,h9⟩;replace eP:=Lh eP;clear haw)|(go_at_call 68;refine(hpl.out _).mono ?_;rintro e w8 ⟨rfl,BI⟩;have BJ:=oN.out _ _ eP.out (h9.pure BI);clear h9 BI hpl)|(go_at_call 123;refine BJ.mono ?_;rintro e w7 ⟨rfl,a7,VM,h7⟩;clear BJ));exact hg.out _ _ _ VM h7 rfl rfl
  |none=>
   obtain⟨hr0,hr1,hr3⟩:=BH hfe.symm;obtain⟨d,m,hdl,FK,hre⟩:=hln hr0 hr1;rw[hre]at hr3;rw[mW]at hr3;(have hrb:QN T path=eY T.cur T.data (aG T.cur m):=by unfold QN;rw[hrx.out,hre];simp);have IE:=Lh (hct.out m FK hr3);replace hrb:=Lh hrb;rw[hre]at oN;clear hfs hfe hct hln hr0 hr1 hr3 oZ FK hdl hre;simp only[NZ]at oN hrx;obtain⟨sv,hsv⟩:∃sv,sv=aC path:=⟨_,rfl⟩;unfold aC at*
   go_enter_defers Tryz.func66,Tryz.ntmps66
   go_wp2_with(first |(go_at_call 53;refine haw.mono ?_;rintro e w9 ⟨rfl,a9,eP,h9⟩;replace eP:=Lh eP;clear haw)|(go_at_call 68;refine(hpl.out _).mono ?_;rintro e w8 ⟨rfl,BI⟩;have BJ:=oN.out _ _ eP.out (h9.pure BI);clear h9 BI hpl)|(go_at_call 123;refine BJ.mono ?_;rintro e w7 ⟨rfl,a7,VM,h7⟩;have hc7:=IE.out _ _ VM h7;clear BJ h7 IE VM)|(go_at_call 128;refine hc7.mono ?_;rintro e w6 ⟨v,a6,rfl,LP,h6⟩;have k1:=h6.bC 2 rfl 0;have k2:=h6.bF 2 rfl 0;simp only[gA,gB]at k1;clear hc7;replace LP:=Lh LP));refine kQ ?_;have h10:=h6.bS 2 rfl 0 (.int .i64 0);refine⟨_,hres.out _ _ 0 v [aI v (eY T.cur T.data (aG T.cur m)),aF f q p T a6] rfl rfl h10,v,by rw[hrx.out],?_⟩;rw[hrb.out];have h11:Sep w0 _ (aJ w.heap.size 0::aF f q p T a6::aI v (eY T.cur T.data (aG T.cur m))::R):=Sep.dE [2,1,0] h10 aV (by simp[aJ]);exact(qZ LP.out hb (h11.drop 1)).perm (List.Perm.swap _ _ _)
 have hrx:zC T path=dV path:=by unfold zC;rw[if_neg h0]
 have hg:=Lh (fun tm W a=>oZ.out tm W a (dV path) hrx.symm h0 hpw);rw[if_neg h0]at hpl;clear hfl hct hln oZ hfs hpw;obtain⟨sv,hsv⟩:∃sv,sv=aC path:=⟨_,rfl⟩;unfold aC at*
 go_enter_defers Tryz.func66,Tryz.ntmps66
 exact Z59
end
end Go.Proofs.YtmjomdkleikgbaaGreat
