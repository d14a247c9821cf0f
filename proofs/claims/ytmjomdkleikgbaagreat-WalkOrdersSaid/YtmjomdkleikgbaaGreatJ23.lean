/- Parts. -/
import Derived.Test.YtmjomdkleikgbaaGreatJ22
set_option linter.unusedVariables false
set_option linter.unusedSimpArgs false
set_option maxRecDepth 100000
set_option maxHeartbeats 20000000
namespace Go.Proofs.YtmjomdkleikgbaaGreat
open Go.RowKit
section
variable {w0 w:World} {R:List aV} {f q p:Nat} {S:VS} {a:VA}
def zI (b:Nat) (op:Int) (path tz:List UInt8) (mode kk:Int):aV:=.box b 46 #[iV op,aC path,aC tz,iV mode,iV kk]
theorem Sep.aAK (h:Sep w0 w R):∃w1 w2 w3 w4 w5 w6 w7 w8 w9,
  (Instr.mapUpdate 99 (.map (some w.heap.size)) (.int .i64 1) (.func (.func 56) #[pV f] #[])).run Tryz.prog (w.alloc (.map #[] 0))= .ok () w1/\
  (Instr.mapUpdate 99 (.map (some w.heap.size)) (.int .i64 2) (.func (.func 57) #[pV f] #[])).run Tryz.prog w1= .ok () w2/\
  (Instr.mapUpdate 99 (.map (some w.heap.size)) (.int .i64 3) (.func (.func 58) #[pV f] #[])).run Tryz.prog w2= .ok () w3/\
  (Instr.mapUpdate 99 (.map (some w.heap.size)) (.int .i64 4) (.func (.func 59) #[pV f] #[])).run Tryz.prog w3= .ok () w4/\
  (Instr.mapUpdate 99 (.map (some w.heap.size)) (.int .i64 5) (.func (.func 60) #[pV f] #[])).run Tryz.prog w4= .ok () w5/\
  (Instr.mapUpdate 99 (.map (some w.heap.size)) (.int .i64 6) (.func (.func 61) #[pV f] #[])).run Tryz.prog w5= .ok () w6/\
  (Instr.mapUpdate 99 (.map (some w.heap.size)) (.int .i64 7) (.func (.func 62) #[pV f] #[])).run Tryz.prog w6= .ok () w7/\
  (Instr.mapUpdate 99 (.map (some w.heap.size)) (.int .i64 8) (.func (.func 63) #[pV f] #[])).run Tryz.prog w7= .ok () w8/\
  (Instr.mapUpdate 99 (.map (some w.heap.size)) (.int .i64 9) (.func (.func 64) #[pV f] #[])).run Tryz.prog w8= .ok () w9/\
  Sep w0 w9 (l8 3 w.heap.size (qH f)::R):=by
 have hM0:=h.JK 3;obtain⟨w1,r1,hM1⟩:=hM0.l5 0 rfl dV Tryz.underlying99 (by show(0:Nat)<maxLen;decide) (v:=.func (.func 56) #[.pointer (some ⟨f,0,none⟩)] #[]) (jI 1 aR);replace hM1:Sep w0 w1 (l8 3 w.heap.size ((qH f).take 1)::R):=hM1;obtain⟨w2,r2,hM2⟩:=hM1.l5 0 rfl dV Tryz.underlying99 (by show(1:Nat)<maxLen;decide) (v:=.func (.func 57) #[.pointer (some ⟨f,0,none⟩)] #[]) (jI 2 aR);replace hM2:Sep w0 w2 (l8 3 w.heap.size ((qH f).take 2)::R):=hM2;obtain⟨w3,r3,hM3⟩:=hM2.l5 0 rfl dV Tryz.underlying99 (by show(2:Nat)<maxLen;decide) (v:=.func (.func 58) #[.pointer (some ⟨f,0,none⟩)] #[]) (jI 3 aR);replace hM3:Sep w0 w3 (l8 3 w.heap.size ((qH f).take 3)::R):=hM3;obtain⟨w4,r4,hM4⟩:=hM3.l5 0 rfl dV Tryz.underlying99 (by show(3:Nat)<maxLen;decide) (v:=.func (.func 59) #[.pointer (some ⟨f,0,none⟩)] #[]) (jI 4 aR);replace hM4:Sep w0 w4 (l8 3 w.heap.size ((qH f).take 4)::R):=hM4;obtain⟨w5,r5,hM5⟩:=hM4.l5 0 rfl dV Tryz.underlying99 (by show(4:Nat)<maxLen;decide) (v:=.func (.func 60) #[.pointer (some ⟨f,0,none⟩)] #[]) (jI 5 aR);replace hM5:Sep w0 w5 (l8 3 w.heap.size ((qH f).take 5)::R):=hM5;obtain⟨w6,r6,hM6⟩:=hM5.l5 0 rfl dV Tryz.underlying99 (by show(5:Nat)<maxLen;decide) (v:=.func (.func 61) #[.pointer (some ⟨f,0,none⟩)] #[]) (jI 6 aR);replace hM6:Sep w0 w6 (l8 3 w.heap.size ((qH f).take 6)::R):=hM6;obtain⟨w7,r7,hM7⟩:=hM6.l5 0 rfl dV Tryz.underlying99 (by show(6:Nat)<maxLen;decide) (v:=.func (.func 62) #[.pointer (some ⟨f,0,none⟩)] #[]) (jI 7 aR);replace hM7:Sep w0 w7 (l8 3 w.heap.size ((qH f).take 7)::R):=hM7;obtain⟨w8,r8,hM8⟩:=hM7.l5 0 rfl dV Tryz.underlying99 (by show(7:Nat)<maxLen;decide) (v:=.func (.func 63) #[.pointer (some ⟨f,0,none⟩)] #[]) (jI 8 aR);replace hM8:Sep w0 w8 (l8 3 w.heap.size ((qH f).take 8)::R):=hM8;obtain⟨w9,r9,hM9⟩:=hM8.l5 0 rfl dV Tryz.underlying99 (by show(8:Nat)<maxLen;decide) (v:=.func (.func 64) #[.pointer (some ⟨f,0,none⟩)] #[]) (jI 9 aR);replace hM9:Sep w0 w9 (l8 3 w.heap.size ((qH f).take 9)::R):=hM9;exact⟨w1,w2,w3,w4,w5,w6,w7,w8,w9,r1,r2,r3,r4,r5,r6,r7,r8,r9,hM9⟩
def CO (w0:World) (R:List aV) (A:Option Addr) (n:Nat) (kk:Int) (bs:List UInt8):Prop:=
 ∀k:Nat,kk=k->k<n->∃sa B cc,A=some sa/\(∀W Y,Sep w0 W (Y++R)->W.cell? (sa.add k)=some (.slice B bs.length cc))/\iG w0 R (.slice B bs.length cc) bs
theorem ah0 {KT:FuncId} {op mode kk ck:Int} {path tz bs:List UInt8} {A:Option Addr} {n c:Nat} {r:Except Int (Option VS)} (hp:path.length<=9223372036854775807) (ht:tz.length<=9223372036854775807) (hn:n<=9223372036854775807) (hlen:bs.length<=9223372036854775807)
  (ho:S.D.off=false) (hop: -9223372036854775808<=op/\op<=9223372036854775807) (hck:ck=wC (bR op).1 (bR op).2.1 (bR op).2.2 op path tz mode kk n bs.length)
  (hrow:ck=0->getM (qH f) (.int .i64 op)=some (.func (.func KT) #[pV f] #[])) (hent:∀args w,(callFunc KT args).run Tryz.prog w= .ok (.enter KT args) w) (hst:CO w0 R A n kk bs) (hpr:akF r) (aoI:ck≠11)
  (hdo:ck=0->∀W a X,VC S.base a->S.base.D.back=[]->Sep w0 W (aD f q p S.base a::(X++R))->Calls Tryz.prog KT #[pV f,.agg #[iV op,aC path,aC tz,iV mode,iV kk],.slice A n c] W (opD f q p S.base r w0 (X++R)))
  (h:Sep w0 w (bE f q p S::R)):
  Calls Tryz.prog 18 #[pV f,.agg #[iV op,aC path,aC tz,iV mode,iV kk],.slice A n c] w fun e w'=>∃x,e= .returned (iV x)/\nI f q p S.base (if ck=0 then r else .error ck) w0 w' R x:=by
 have hb:S.base.D.back=[]:=by obtain⟨_,_,_,hR,_⟩:=h.qD;exact hR.back
 obtain⟨bi,hbi⟩:∃b,b=w.heap.size:=⟨_,rfl⟩;have h1:Sep w0 ((w.alloc (.cells #[iV op,aC path,aC tz,iV mode,iV kk] 46)).alloc (.cells #[iV 0] 40)) (bE f q p S::aH (bi+1) 0::zI bi op path tz mode kk::R):=by have:=(h.bN 46 #[iV op,aC path,aC tz,iV mode,iV kk]).bN 40 #[iV 0];rw[World.size_alloc,<-hbi]at this;exact Sep.dC [2,0,1] this aR bK
 have haw:=wS ho h1;have hcs:Hid (∀W Y,Sep w0 W (Y++zI bi op path tz mode kk::R)->W.cell? ⟨bi,0,none⟩=some (iV op)/\W.cell? ⟨bi,1,none⟩=some (aC path)/\W.cell? ⟨bi,2,none⟩=some (aC tz)/\W.cell? ⟨bi,3,none⟩=some (iV mode)/\W.cell? ⟨bi,4,none⟩=some (iV kk)):=Lh fun W Y hW=>by(have hi:(Y++zI bi op path tz mode kk::R)[Y.length]? =some (zI bi op path tz mode kk):=by simp);exact⟨hW.bC _ hi 0,hW.bC _ hi 1,hW.bC _ hi 2,hW.bC _ hi 3,hW.bC _ hi 4⟩
 have hce:Hid (∀W Y,Sep w0 W (Y++zI bi op path tz mode kk::R)->Calls Tryz.prog 55 #[.agg #[iV op,aC path,aC tz,iV mode,iV kk],.slice A n c] W fun e w'=>e= .returned (iV ck)/\Below W.heap.size W w'):=Lh fun W Y hW=>by rw[hck];refine akD op mode kk (A:=A) (n:=n) (c:=c) (len:=bs.length) hp ht W (fun k hk hkn=>?_) hn hlen;obtain⟨sa,B,cc,rfl,h2,_⟩:=hst k hk hkn;refine⟨sa,B,cc,rfl,fun W' hW'=>h2 W' (Y++[zI bi op path tz mode kk]) ?_⟩;have:=hW.pure hW';simpa using this
 have hmm:= @run_makeMap Tryz.prog;have hmf:∀(fn:Fn) (first cap:Array Value) (w:World),(Instr.makeFunc fn first cap).run Tryz.prog w= .ok (.func fn first cap) w:=fun _ _ _ _=>rfl
 have hres:Hid (∀(tm:Array Value) W x Y,tm.getD 6 undef=pV (bi+1)->Sep w0 W (Y++aH (bi+1) x::zI bi op path tz mode kk::R)->(results Tryz.f18 tm).run Tryz.prog W= .ok (.int .i64 x) W):=Lh fun tm W x Y ht hW=>by(have hi:(Y++aH (bi+1) x::zI bi op path tz mode kk::R)[Y.length]? =some (aH (bi+1) x):=by simp);have ec:=hW.bC _ hi 0;simp only[gA,gB]at ec;(have ht2:tm[6]?.getD undef=pV (bi+1):=by simpa using ht);simp[results,Tryz.results18,go_sem,ht2,asAddr,loadVar,ec]
 have hdr:Hid (∀W (r:Except Int (Option VS)) x y,nI f q p S.base r w0 W (aH (bi+1) y::zI bi op path tz mode kk::R) x->nI f q p S.base r w0 W R x):=Lh fun W r x y hE=>GR hE fun Y hY=>by have h2:Sep w0 W (aH (bi+1) y::zI bi op path tz mode kk::(Y++R)):=hY.perm (by exact(lN.trans (List.Perm.cons _ lN)));exact h2.drop 2
 have hfin:Hid (∀(ps:List PanicEntry) W (r:Except Int (Option VS)) (tm:Array Value) (rr:Except Int (Option VS)),akF r->rr=r->tm.getD 6 undef=pV (bi+1)->opD f q p S.base r w0 (aH (bi+1) 0::zI bi op path tz mode kk::R) (.panicked ps) W->
   Leaves Tryz.prog Tryz.f18 tm (fun e w'=>∃x,e= .returned (iV x)/\nI f q p S.base rr w0 w' R x) [{target:=.fn (.func 52) #[],args:=#[pV f,pV (bi+1)]}] (.panicking ps) W):=Lh fun ps W r tm rr hpr hrr ht hD=>by
  subst hrr;(refine aa8 hb hpr hD fun w' x hE=>?_);obtain⟨Y,hY⟩:=CL hE;exact⟨_,hres.out tm w' x Y ht hY,x,rfl,hdr.out _ _ _ _ hE⟩
 have hkey:keyOf Tryz.prog 3 (.int .i64 op)=some (.int .i64 op):=Maps.keyOf_int_mk Tryz.underlying3 (by simp[Lit.wf,IntKind.min,IntKind.max,IntKind.signed,IntKind.bits];omega);clear hop;replace hb:=Lh hb;clear hst hn hlen hp ht h h1;by_cases h0:ck=0
 ·rw[if_pos h0];replace hdo:=Lh (hdo h0);replace hrow:=Lh (hrow h0);clear hck aoI;subst h0;obtain⟨st,hst⟩:∃v,v=aC path:=⟨_,rfl⟩;unfold aC at*;rw[hbi]at*
  go_enter_defers Tryz.func18,Tryz.ntmps18
  go_wp2_with(first |(go_at_call 53;refine haw.mono ?_;rintro e w9 ⟨rfl,a9,dQ,h9⟩;have hi9:Sep w0 w9 ([aD f q p S.base a9,aH (w.heap.size+1) 0]++zI w.heap.size op path tz mode kk::R):=h9;obtain⟨e0,e1,e2,e3,e4⟩:=hcs.out _ _ hi9;have hch:=hce.out _ _ hi9;replace h9:=Lh h9;replace dQ:=Lh dQ;clear hi9 haw hce)|(go_at_call 55;refine hch.mono ?_;rintro e w8 ⟨rfl,rC⟩;have h8:=h9.out.pure rC;clear rC e0 e1 e2 e3 e4 hch h9)|(go_at_call 54;go_loud (refine(dO _ _).mono ?_;rintro e w7 ⟨rfl,h7⟩;obtain rfl:=h7.symm;obtain⟨x1,x2,x3,x4,x5,x6,x7,x8,x9,r1,r2,r3,r4,r5,r6,r7,r8,r9,hM⟩:=h8.aAK (f:=f);have hM2:Sep w0 x9 ([l8 3 w8.heap.size (qH f),aD f q p S.base a9,aH (w.heap.size+1) 0]++zI w.heap.size op path tz mode kk::R):=hM;obtain⟨e0,e1,e2,e3,e4⟩:=hcs.out _ _ hM2;have hlk:=hM.XH 0 rfl dV Tryz.underlying99 (akH _) (key:=.int .i64 op) (kl:=.int .i64 op) hkey;rw[hrow.out,IW]at hlk;have hd:=hdo.out x9 a9 [aH (w.heap.size+1) 0,zI w.heap.size op path tz mode kk] dQ.out hb.out (hM.drop 1);clear hM2 h8;replace hM:=Lh hM)));refine hd.mono ?_;intro e wz hz;clear hM e0 e1 e2 e3 e4 r1 r2 r3 r4 r5 r6 r7 r8 r9 hlk hd hdo;rcases PH hz with rfl|⟨k,rfl⟩
  ·obtain⟨_,hE⟩:=XG hb.out hz;obtain⟨Y,hY⟩:=CL hE;(have hi:(Y++aH (w.heap.size+1) 0::zI w.heap.size op path tz mode kk::R)[Y.length]? =some (aH (w.heap.size+1) 0):=by simp);have k1:=hY.bC _ hi 0;have k2:=hY.bF _ hi 0;(have hE2:nI f q p S.base r w0 (wz.setCell ⟨w.heap.size+1,0,none⟩ (.int .i64 0)) (aH (w.heap.size+1) 0::zI w.heap.size op path tz mode kk::R) 0:=GR hE fun Z hZ=>by(have hi2:(Z++aH (w.heap.size+1) 0::zI w.heap.size op path tz mode kk::R)[Z.length]? =some (aH (w.heap.size+1) 0):=by simp);have h5:=hZ.bS _ hi2 0 (.int .i64 0);rw[TC _ _ (iU _),DI]at h5;exact h5);simp only[gA,gB]at k1;clear hi hY hz;replace hE2:=Lh hE2;clear hE;go_wp2_with fail;refine gY ?_;obtain⟨Y2,hY2⟩:=CL hE2.out;exact⟨_,hres.out _ _ 0 Y2 rfl hY2,0,rfl,hdr.out _ _ _ _ hE2.out⟩
  exact hfin.out _ _ r _ r hpr rfl rfl hz
 rw[if_neg h0];clear hdo hrow hck hent;obtain⟨st,hst⟩:∃v,v=aC path:=⟨_,rfl⟩;unfold aC at*;rw[hbi]at*
 go_enter_defers Tryz.func18,Tryz.ntmps18
 go_wp2_with(first |(go_at_call 53;refine haw.mono ?_;rintro e w9 ⟨rfl,a9,dQ,h9⟩;have hi9:Sep w0 w9 ([aD f q p S.base a9,aH (w.heap.size+1) 0]++zI w.heap.size op path tz mode kk::R):=h9;obtain⟨e0,e1,e2,e3,e4⟩:=hcs.out _ _ hi9;have hch:=hce.out _ _ hi9;replace h9:=Lh h9;replace dQ:=Lh dQ;clear hi9 haw hce)|(go_at_call 55;refine hch.mono ?_;rintro e w8 ⟨rfl,rC⟩;have h8:=h9.out.pure rC;clear rC e0 e1 e2 e3 e4 hch h9)|(go_at_call 54;refine(dO _ _).mono ?_;rw[if_neg h0];rintro e w7 ⟨rfl,h7⟩;obtain rfl:=h7.symm));refine hfin.out _ _ (.error ck) _ (.error ck) (fun k hk=>by cases hk;exact aoI) rfl rfl ⟨?_,a9,dQ.out,h8⟩;rw[if_neg h0];rfl
end
def R4 (S:VS) (op:Int) (path tz:List UInt8) (mode:Nat) (bs:List UInt8):Except Int (Option VS):=
 if op=1 then JJ S path ⟨1,mode,1,0,[]⟩ []
 else if op=2 then PG S path
 else if op=3 then GM S path tz
 else if op=4 then aa6 S path tz
 else if op=5 then GL S path
 else if op=6 then JJ S path ⟨2,mode,1,0,[]⟩ bs
 else if op=7 then aoG S path tz mode
 else if op=8 then O8 S path mode
 else .error 0
structure avV (S:VS) (op:Int) (path tz:List UInt8) (mode:Nat) (bs:List UInt8):Prop where
 mkd:op=1->∀d:Nat,aP S.cur S.data 0 0 (splitB path)=((d:Int), -1,0)->S.nodes<256->uB S (⟨1,mode,1,0,[]⟩:VI) [] d path
 rm:op=2->∀d m:Nat,m<S.names->aP S.cur S.data 0 0 (splitB path)=((d:Int),(m:Int),0)->(aF S.cur m).kind=1->(aF S.cur m).size=0->XF S d path m
 mv:op=3->∀d m d2:Nat,m<S.names->aP S.cur S.data 0 0 (splitB path)=((d:Int),(m:Int),0)->¬(aF S.cur m).kind=1->(aP S.cur S.data 0 0 (splitB tz))=((d2:Int), -1,0)->PD S d d2 path tz m
 ln:op=4->∀d m d2:Nat,m<S.names->aP S.cur S.data 0 0 (splitB path)=((d:Int),(m:Int),0)->¬(aF S.cur m).kind=1->(aP S.cur S.data 0 0 (splitB tz))=((d2:Int), -1,0)->S.nodes<256->aeS S d2 tz m
 un:op=5->∀d m:Nat,m<S.names->aP S.cur S.data 0 0 (splitB path)=((d:Int),(m:Int),0)->¬(aF S.cur m).kind=1->O9 S d path m
 wr:op=6->∀d:Nat,aP S.cur S.data 0 0 (splitB path)=((d:Int), -1,0)->S.nodes<256->uB S (⟨2,mode,1,0,[]⟩:VI) bs d path
 cp:op=7->∀d m d2:Nat,m<S.names->aP S.cur S.data 0 0 (splitB path)=((d:Int),(m:Int),0)->¬(aF S.cur m).kind=1->(aP S.cur S.data 0 0 (splitB tz))=((d2:Int), -1,0)->S.nodes<256->(aF S.cur m).size<=512*(aF S.cur m).aB.length/\uB S (⟨2,mode,1,0,[]⟩:VI) (eU S.cur S.data (aF S.cur m)) d2 tz
 ch:op=8->mode<=511->fF S/\∀d m:Nat,m<S.names->aP S.cur S.data 0 0 (splitB path)=((d:Int),(m:Int),0)->lT S (rO S m mode)
def RD (op:Int) (path tz:List UInt8) (mode kk:Int) (n:Nat) (len:Nat):Int:=wC (bR op).1 (bR op).2.1 (bR op).2.2 op path tz mode kk n len
def doR (S:VS) (op:Int) (path tz:List UInt8) (mode kk:Int) (n:Nat) (bs:List UInt8):Except Int (Option VS):=
 if RD op path tz mode kk n bs.length=0 then R4 S op path tz mode.toNat bs else .error (RD op path tz mode kk n bs.length)
theorem aeU {op:Int} (h:(bR op).2.2=true):op=1\/op=2\/op=3\/op=4\/op=5\/op=6\/op=7\/op=8\/op=9:=by
 unfold bR at h;simp only[sZ,LC]at h
 repeat' split at h
 all_goals first |omega|cases h
theorem awW (op:Int) (path tz:List UInt8) (mode kk:Int) (n len:Nat):RD op path tz mode kk n len≠11:=by
 unfold RD wC
 repeat' split
 all_goals decide
structure aFG (op:Int) (path tz:List UInt8) (mode kk:Int) (n len:Nat):Prop where
 valid:aU path=true
 EM:(bR op).1=true->aU tz=true
 mode:(bR op).2.1=true->0<=mode/\mode<=511
 data:op=6->0<=kk/\kk<n/\len<=8192
theorem ah1 {op:Int} {path tz:List UInt8} {mode kk:Int} {n len:Nat} (h:RD op path tz mode kk n len=0):op=9\/((bR op).2.2=true/\op≠9/\aFG op path tz mode kk n len):=by
 unfold RD wC at h;by_cases h1:(bR op).2.2=false
 ·rw[if_pos h1]at h;cases h
 rw[if_neg h1]at h;by_cases h2:(op==9)=true
 ·exact .inl (by simpa using h2)
 rw[if_neg h2]at h;right;by_cases h3:(bR op).2.1=true/\(mode<0\/511<mode)
 ·rw[if_pos h3]at h;cases h
 rw[if_neg h3]at h;by_cases h4:(path==[])=true\/((bR op).1=true/\(tz==[])=true)
 ·rw[if_pos h4]at h;cases h
 rw[if_neg h4]at h;by_cases h5:aU path=false\/((bR op).1=true/\aU tz=false)
 ·rw[if_pos h5]at h;cases h
 rw[if_neg h5]at h;refine⟨by simpa using h1,by simpa using h2,?_,?_,?_,?_⟩
 ·cases hv:aU path with
  |true=>rfl
  |false=>exact absurd (.inl hv) h5
 ·intro hf;cases hv:aU tz with
  |true=>rfl
  |false=>exact absurd (.inr ⟨hf,hv⟩) h5
 ·intro hf;refine⟨?_,?_⟩
  ·by_cases hm:mode<0
   ·exact absurd ⟨hf,.inl hm⟩ h3
   omega
  by_cases hm:511<mode
  ·exact absurd ⟨hf,.inr hm⟩ h3
  omega
 intro h6;subst h6;rw[if_neg aR]at h;by_cases h7:kk<0\/(n:Int)<=kk
 ·rw[if_pos h7]at h;cases h
 rw[if_neg h7]at h;by_cases h8:8192<len
 ·rw[if_pos h8]at h;cases h
 omega
theorem sQ (c:fK) (d:Nat):∀(l:List (List UInt8)) (dir n:Nat),(aP c d dir n l).2.2=0\/(aP c d dir n l).2.2=21\/(aP c d dir n l).2.2=22
 |[],_,_=>.inl rfl
 |name::l,dir,n=>by
  unfold aP;by_cases h1:(aF c n).kind=1
  ·rw[if_pos h1];by_cases h2:0<=(jY (jL c d (aF c n)) name).1
   ·rw[if_pos h2];exact sQ c d l _ _
   rw[if_neg h2];split
   ·exact .inl rfl
   exact .inr (.inl rfl)
  rw[if_neg h1];exact .inr (.inr rfl)
def DR (k:Int):Prop:=k=21\/k=22\/k=23\/k=24\/k=25\/k=31
theorem GU {c:fK} {d:Nat} {l:List (List UInt8)} {k:Int} (h:fQ (aP c d 0 0 l)=some k):DR k:=by
 unfold fQ at h;have:=sQ c d l 0 0;unfold DR;split at h
 ·split at h
  ·cases h
  cases h;omega
 cases h;omega
theorem uC {c:fK} {d:Nat} {l:List (List UInt8)} {k:Int} (h:dU (aP c d 0 0 l)=some k):DR k:=by
 unfold dU at h;have:=sQ c d l 0 0;unfold DR;split at h
 ·split at h
  ·cases h;omega
  cases h
 cases h;omega
theorem wX {b c:fK} {d:Nat} {l:List (List UInt8)} {k:Int} (h:nA b (aP c d 0 0 l)=some k):DR k:=by
 unfold nA at h;have:=sQ c d l 0 0;unfold DR;split at h
 ·split at h
  ·cases h;omega
  split at h
  ·cases h;omega
  cases h
 cases h;omega
theorem Z21 {P:Prop} (h:P:=by
 split at h
 ·rename_i h1;cases h;exact GU h1
 split at h
 ·cases h
 cases h;unfold DR;omega):P:=h
theorem aa9 {S:VS} {path:List UInt8} {x:VI} {bs:List UInt8} {k:Int} (h:JJ S path x bs= .error k):DR k:=by unfold JJ at h;exact Z21
theorem pI {S:VS} {op:Int} {path tz:List UInt8} {mode:Nat} {bs:List UInt8} {k:Int} (h:R4 S op path tz mode bs= .error k):(k=0/\op≠1/\op≠2/\op≠3/\op≠4/\op≠5/\op≠6/\op≠7/\op≠8)\/DR k:=by
 unfold R4 at h;by_cases h1:op=1
 ·rw[if_pos h1]at h;exact .inr (aa9 h)
 rw[if_neg h1]at h;by_cases h2:op=2
 ·rw[if_pos h2]at h;right;unfold PG at h;split at h
  ·rename_i h1;cases h;exact uC h1
  split at h
  ·cases h;unfold DR;omega
  split at h
  ·cases h;unfold DR;omega
  cases h
 rw[if_neg h2]at h;by_cases h3:op=3
 ·rw[if_pos h3]at h;right;unfold GM at h;split at h
  ·rename_i h1;cases h;exact wX h1
  split at h
  ·rename_i h1;cases h;exact GU h1
  cases h
 rw[if_neg h3]at h;by_cases h4:op=4
 ·rw[if_pos h4]at h;right;unfold aa6 at h;split at h
  ·rename_i h1;cases h;exact wX h1
  exact Z21
 rw[if_neg h4]at h;by_cases h5:op=5
 ·rw[if_pos h5]at h;right;unfold GL at h;split at h
  ·rename_i h1;cases h;exact wX h1
  cases h
 rw[if_neg h5]at h;by_cases h6:op=6
 ·rw[if_pos h6]at h;exact .inr (aa9 h)
 rw[if_neg h6]at h;by_cases h7:op=7
 ·rw[if_pos h7]at h;right;unfold aoG at h;split at h
  ·rename_i h1;cases h;exact wX h1
  exact Z21
 rw[if_neg h7]at h;by_cases h8:op=8
 ·rw[if_pos h8]at h;right;unfold O8 at h;split at h
  ·rename_i h1;cases h;exact uC h1
  cases h
 rw[if_neg h8]at h;cases h;exact .inl ⟨rfl,h1,h2,h3,h4,h5,h6,h7,h8⟩
theorem abA {S:VS} {op:Int} {path tz:List UInt8} {mode:Nat} {bs:List UInt8}:akF (R4 S op path tz mode bs):=fun k h=>by have:=pI h;unfold DR at this;omega
theorem XI :∀args w,(callFunc 56 args).run Tryz.prog w= .ok (.enter 56 args) w:=Go.Proofs.enters_of Tryz.func56 fT rfl
theorem XJ :∀args w,(callFunc 57 args).run Tryz.prog w= .ok (.enter 57 args) w:=Go.Proofs.enters_of Tryz.func57 fT rfl
theorem R5 :∀args w,(callFunc 58 args).run Tryz.prog w= .ok (.enter 58 args) w:=Go.Proofs.enters_of Tryz.func58 fT rfl
theorem abB :∀args w,(callFunc 59 args).run Tryz.prog w= .ok (.enter 59 args) w:=Go.Proofs.enters_of Tryz.func59 fT rfl
theorem R6 :∀args w,(callFunc 60 args).run Tryz.prog w= .ok (.enter 60 args) w:=Go.Proofs.enters_of Tryz.func60 fT rfl
theorem XK :∀args w,(callFunc 61 args).run Tryz.prog w= .ok (.enter 61 args) w:=Go.Proofs.enters_of Tryz.func61 fT rfl
theorem JL :∀args w,(callFunc 62 args).run Tryz.prog w= .ok (.enter 62 args) w:=Go.Proofs.enters_of Tryz.func62 fT rfl
theorem XL :∀args w,(callFunc 63 args).run Tryz.prog w= .ok (.enter 63 args) w:=Go.Proofs.enters_of Tryz.func63 fT rfl
theorem K3 :∀args w,(callFunc 64 args).run Tryz.prog w= .ok (.enter 64 args) w:=Go.Proofs.enters_of Tryz.func64 fT rfl
section
variable {w0 w:World} {R:List aV} {f q p:Nat} {S:VS}
theorem awX {r:Except Int (Option VS)} {R:List aV} {e:Ending} (hz:∀k,r= .error k->k≠0) (h:mD f q p S r w0 R e w):opD f q p S r w0 R e w:=by
 match r with
 | .error k=>obtain⟨he,a',hC,hS⟩:=h;exact⟨by rw[if_neg (hz k rfl)];exact he,a',hC,hS⟩
 | .ok r=>exact h
theorem vP {r:Except Int (Option VS)} {R:List aV} {e:Ending} (hz:∀k,r= .error k->DR k) (h:mD f q p S r w0 R e w):opD f q p S r w0 R e w:=
 awX (fun k hk=>by have:=hz k hk;unfold DR at this;omega) h
theorem awY {op mode kk:Int} {path tz bs:List UInt8} {A:Option Addr} {n c:Nat} (hp:path.length<=9223372036854775807) (ht:tz.length<=9223372036854775807) (hn:n<=9223372036854775807) (hlen:bs.length<=9223372036854775807)
  (ho:S.D.off=false) (hop: -9223372036854775808<=op/\op<=9223372036854775807) (hst:CO w0 R A n kk bs) (hV:VW S.base) (RS:RD op path tz mode kk n bs.length=0->avV S.base op path tz mode.toNat bs) (h:Sep w0 w (bE f q p S::R)):
  Calls Tryz.prog 18 #[pV f,.agg #[iV op,aC path,aC tz,iV mode,iV kk],.slice A n c] w fun e w'=>∃x,e= .returned (iV x)/\nI f q p S.base (doR S.base op path tz mode kk n bs) w0 w' R x:=by
 have aoI:=awW op path tz mode kk n bs.length;unfold doR;by_cases h0:RD op path tz mode kk n bs.length=0
 ·have hA:=RS h0;have go:∀KT:FuncId,getM (qH f) (.int .i64 op)=some (.func (.func KT) #[pV f] #[])->(∀args w,(callFunc KT args).run Tryz.prog w= .ok (.enter KT args) w)->
    (∀W a X,VC S.base a->S.base.D.back=[]->Sep w0 W (aD f q p S.base a::(X++R))->Calls Tryz.prog KT #[pV f,.agg #[iV op,aC path,aC tz,iV mode,iV kk],.slice A n c] W (opD f q p S.base (R4 S.base op path tz mode.toNat bs) w0 (X++R)))->
    Calls Tryz.prog 18 #[pV f,.agg #[iV op,aC path,aC tz,iV mode,iV kk],.slice A n c] w fun e w'=>∃x,e= .returned (iV x)/\nI f q p S.base (if RD op path tz mode kk n bs.length=0 then R4 S.base op path tz mode.toNat bs else .error (RD op path tz mode kk n bs.length)) w0 w' R x:=
   fun KT hrow hent hdo=>ah0 (ck:=RD op path tz mode kk n bs.length) hp ht aI hlen ho hop rfl (fun _=>hrow) hent hst abA aoI (fun _=>hdo) h
  rcases ah1 h0 with rfl|⟨hf,h9,hk⟩
  ·exact go _ rfl K3 fun W a X hC hb hS=>(aoF hC hS).mono fun e w' ⟨h1,h2⟩=>⟨h1,a,hC,h2⟩
  (have hmn:(bR op).2.1=true->((mode.toNat:Nat):Int)=mode:=fun hm=>ag4 (hk.mode hm).1);rcases aeU hf with rfl|rfl|rfl|rfl|rfl|rfl|rfl|rfl|rfl
  ·have hm:=hmn rfl;(refine go _ rfl XI fun W a X hC hb hS=>?_);rw[<-hm];exact(aj5 hC hV hb hk.valid (dD hk.valid) (hA.mkd rfl) hS).mono fun e w' hd=>vP (fun k hk=>(pI (op:=1) (path:=path) (tz:=tz) (mode:=mode.toNat) (bs:=bs) hk).resolve_left fun e0=>e0.2.1 rfl) hd
  ·(refine go _ rfl XJ fun W a X hC hb hS=>?_);exact(akA hC hV hb hk.valid (dD hk.valid) (hA.rm rfl) hS).mono fun e w' hd=>vP (fun k hk=>(pI (op:=2) (path:=path) (tz:=tz) (mode:=mode.toNat) (bs:=bs) hk).resolve_left fun e0=>e0.2.2.1 rfl) hd
  ·(refine go _ rfl R5 fun W a X hC hb hS=>?_);exact(aeR hC hV hb hk.valid (dD hk.valid) (hk.EM rfl) (dD (hk.EM rfl)) (hA.mv rfl) hS).mono fun e w' hd=>vP (fun k hk=>(pI (op:=3) (path:=path) (tz:=tz) (mode:=mode.toNat) (bs:=bs) hk).resolve_left fun e0=>e0.2.2.2.1 rfl) hd
  ·(refine go _ rfl abB fun W a X hC hb hS=>?_);exact(aoE hC hV hb hk.valid (dD hk.valid) (hk.EM rfl) (dD (hk.EM rfl)) (hA.ln rfl) hS).mono fun e w' hd=>vP (fun k hk=>(pI (op:=4) (path:=path) (tz:=tz) (mode:=mode.toNat) (bs:=bs) hk).resolve_left fun e0=>e0.2.2.2.2.1 rfl) hd
  ·(refine go _ rfl R6 fun W a X hC hb hS=>?_);exact(aeQ hC hV hb hk.valid (dD hk.valid) (hA.un rfl) hS).mono fun e w' hd=>vP (fun k hk=>(pI (op:=5) (path:=path) (tz:=tz) (mode:=mode.toNat) (bs:=bs) hk).resolve_left fun e0=>e0.2.2.2.2.2.1 rfl) hd
  ·have hm:=hmn rfl;(refine go _ rfl XK fun W a X hC hb hS=>?_);rw[<-hm];obtain⟨h6a,h6b,h6c⟩:=hk.data rfl;obtain⟨j,rfl⟩:∃j:Nat,kk=j:=⟨kk.toNat,by omega⟩;obtain⟨sa,B,cc,rfl,hcl,htl⟩:=hst j rfl aI;(have aFI:∀W Y,Sep w0 W (Y++(X++R))->W.cell? (sa.add j)=some (.slice B bs.length cc):=fun W Y hY=>hcl W (Y++X) (by rw[nT];exact hY));exact(aj6 hC hV hb hk.valid (dD hk.valid) aFI aI aI (fun W Y hY=>htl W (Y++X) (by rw[nT];exact hY)) (hA.wr rfl) hS).mono fun e w' hd=>vP (fun k hk=>(pI (op:=6) (path:=path) (tz:=tz) (mode:=mode.toNat) (bs:=bs) hk).resolve_left fun e0=>e0.2.2.2.2.2.2.1 rfl) hd
  ·have hm:=hmn rfl;(refine go _ rfl JL fun W a X hC hb hS=>?_);rw[<-hm];exact(R3 hC hV hb hk.valid (dD hk.valid) (hk.EM rfl) (dD (hk.EM rfl)) (hA.cp rfl) hS).mono fun e w' hd=>vP (fun k hk=>(pI (op:=7) (path:=path) (tz:=tz) (mode:=mode.toNat) (bs:=bs) hk).resolve_left fun e0=>e0.2.2.2.2.2.2.2.1 rfl) hd
  ·have hm:=hmn rfl;(refine go _ rfl XL fun W a X hC hb hS=>?_);rw[<-hm];have h8:=hA.ch rfl (by have:=(hk.mode rfl).2;omega);exact(aj7 hC hV hb hk.valid (dD hk.valid) (by have:=(hk.mode rfl).2;omega) h8.1 h8.2 hS).mono fun e w' hd=>vP (fun k hk=>(pI (op:=8) (path:=path) (tz:=tz) (mode:=mode.toNat) (bs:=bs) hk).resolve_left fun e0=>e0.2.2.2.2.2.2.2.2 rfl) hd
  exact absurd rfl h9
 exact ah0 (KT:=64) (ck:=RD op path tz mode kk n bs.length) (r:=R4 S.base op path tz mode.toNat bs) hp ht aI hlen ho hop rfl (fun e=>absurd e h0) K3 hst abA aoI (fun e=>absurd e h0) h
end
def cO (path:List UInt8):Int:=if path=[]then 26 else if aU path=true then 0 else 20
theorem CP {path:List UInt8} (hp:path.length<=9223372036854775807) (w:World):
  Calls Tryz.prog 68 #[aC path] w fun e w'=>e=(if cO path=0 then .returned (.tuple #[])else .panicked (eQ (cO path)))/\Below w.heap.size w w':=by
 have hv:∀W,Calls Tryz.prog 104 #[aC path] W fun e w'=>e= .returned (.bool (aU path))/\Below W.heap.size W w':=fun W=>by exact Z71
 unfold cO;by_cases h0:path=[]
 ·subst h0;rw[if_pos rfl,if_neg aR];clear hv;unfold aC;go_enter Tryz.func68,Tryz.ntmps68;go_wp2_with(go_at_call 54;refine(dO _ _).mono ?_;rintro e w7 ⟨rfl,h7⟩;obtain rfl:=h7.symm);exact⟨rfl,rfl,Below.refl _ _⟩
 rw[if_neg h0];have hne:(path==[])=false:=by simpa using h0
 unfold aC at*;cases hvp:aU path with
 |true=>
  rw[if_pos rfl,if_pos rfl];rw[hvp]at hv;go_enter Tryz.func68,Tryz.ntmps68;go_wp2_with(go_at_call 104;refine(hv _).mono ?_;rintro e w7 ⟨rfl,h7⟩)
  go_end0
  exact⟨rfl,h7⟩
 |false=>rw[if_neg aR,if_neg aR];rw[hvp]at hv;go_enter Tryz.func68,Tryz.ntmps68;go_wp2_with(first |(go_at_call 104;refine(hv _).mono ?_;rintro e w7 ⟨rfl,h7⟩)|(go_at_call 54;refine(dO _ _).mono ?_;rintro e w6 ⟨rfl,h6⟩;obtain rfl:=h6.symm));exact⟨rfl,rfl,h7⟩
section
variable {w0 w:World} {R:List aV} {f q p:Nat} {S:VS} {a:VA}
theorem Sep.aeV (h:Sep w0 w (bE f q p S::R)):w.cell? ⟨f,4,none⟩=some (.bool false)/\w.cell? ⟨f,5,none⟩=some (.complex .f64 (fI S.wB) (fI S.wI))/\w.cell? ⟨f,7,none⟩=some (.complex .f64 (fI S.rB) (fI S.rI)):=by obtain⟨sb,SM,fo,hR,h1⟩:=h.qD;exact⟨h1.bC 0 rfl 4,h1.bC 0 rfl 5,h1.bC 0 rfl 7⟩
theorem akI (h:Sep w0 w (bE f q p S::R)):Calls Tryz.prog 42 #[pV f] w fun e w'=>e= .returned (jC S.rB S.rI)/\w'=w:=by obtain⟨c4,c5,c7⟩:=h.aeV;clear h;unfold jC;go_enter Tryz.func42,Tryz.ntmps42;go_wp2_with fail;go_ret;exact⟨rfl,rfl⟩
theorem wY (h:Sep w0 w (bE f q p S::R)):S.base.D.back=[]:=by obtain⟨_,_,_,hR,_⟩:=h.qD;exact hR.back
theorem abC (h:Sep w0 w (bE f q p S::R)):S.D.ok S.nb:=by obtain⟨_,_,_,hR,_⟩:=h.qD;exact hR.oU
theorem as5 (ho:S.D.off=false) (h:Sep w0 w (bE f q p S::R)):
  Calls Tryz.prog 43 #[pV f] w fun e w'=>e= .returned (iV 0)/\Sep w0 w' (bE f q p S.base::R):=by
 have hb:=wY h;have h1:Sep w0 (w.alloc (.cells #[iV 0] 40)) (bE f q p S::aH w.heap.size 0::R):=Sep.dC [1,0] (h.bN 40 #[iV 0]) aR (by simp[aH]);have haw:=wS ho h1;have hsy:Hid (∀W a,VC S.base a->Sep w0 W (aD f q p S.base a::aH w.heap.size 0::R)->W.cell? ⟨f,0,none⟩=some (pV q)/\Calls Tryz.prog 102 #[pV q] W fun e w'=>e= .returned (iV 0)/\Sep w0 w' (aD f q p S.base a::aH w.heap.size 0::R)):=Lh fun W a hC hW=>by refine⟨hW.fC.c0,?_⟩;have h2:=hW.bD;have hoff:S.base.D.off=false:=ho;have:=CG (q:=q) (p:=p) (dead:=false) hC.oU (Sep.dC [1,2,0,3,4,5] h2 aR (by simp[o8]):Sep w0 W (aG q p false::aN p S.base.D::kP f q S.base a.sb (.map (some a.fb)) false::eT a.sb a.SM::jF a.fb a.FM::aH w.heap.size 0::R));rw[hoff]at this;refine this.mono ?_;rintro e w' ⟨rfl,h9⟩;refine⟨rfl,?_⟩;have h3:Sep w0 w' (o8 f q p S.base a++(aH w.heap.size 0::R)):=Sep.dC [2,0,1,3,4,5] h9 aR bK;exact h3.cZ
 clear h h1
 go_enter_defers Tryz.func43,Tryz.ntmps43
 go_wp2_with(first |(go_at_call 53;refine haw.mono ?_;rintro e w9 ⟨rfl,a,hC,h9⟩;obtain⟨c0,hs⟩:=hsy.out _ _ hC h9;clear haw h9 hsy;replace hC:=Lh hC)|(go_at_call 102;refine hs.mono ?_;rintro e w8 ⟨rfl,h8⟩;have k1:=h8.bC 1 rfl 0;have k2:=h8.bF 1 rfl 0;simp only[gA,gB]at k1;clear hs)|(go_at_call 54;refine(dO _ _).mono ?_;rintro e w7 ⟨rfl,h7⟩;obtain rfl:=h7.symm));refine gY ?_;have h10:=h8.bS 1 rfl 0 (.int .i64 0);have ec:=h10.bC 1 rfl 0;try simp only[gA,gB]at ec
 refine⟨.int .i64 0,by simp[results,Tryz.results43,go_sem,ec],rfl,?_⟩;have h11:Sep w0 _ (aH w.heap.size 0::aD f q p S.base a::R):=h10.perm (List.Perm.swap _ _ _);exact oN hC.out hb (h11.drop 1)
def yS (S:VS) (path:List UInt8):Int:=if cO path=0 then((nA S.cur (aP S.cur S.data 0 0 (splitB path))).getD 0)else cO path
def PI (S:VS) (path:List UInt8):List UInt8:=if yS S path=0 then eU S.cur S.data (aF S.cur (aP S.cur S.data 0 0 (splitB path)).2.1.toNat)else []
theorem uD (path:List UInt8):cO path≠11:=by
 unfold cO
 repeat' split
 all_goals decide
theorem wZ {path:List UInt8} (h:cO path=0):aU path=true:=by
 unfold cO at h;split at h
 ·cases h
 split at h
 ·assumption
 cases h
theorem aeW {S:VS} {path:List UInt8} {k:Int} (h:nA S.cur (aP S.cur S.data 0 0 (splitB path))=some k):k≠0/\k≠11:=by have:=wX h;unfold DR at this;omega
theorem Z55 {P:Prop} (h:P:=by go_wp2_with(first |(go_at_call 53;refine haw.mono ?_;rintro e w9 ⟨rfl,a9,dQ,h9⟩;replace dQ:=Lh dQ;clear haw)|(go_at_call 68;refine(hpl.out _).mono ?_;rintro e w8 ⟨rfl,rC⟩;replace h9:=h9.pure rC;clear rC hpl));exact hg.out _ _ _ dQ.out h9 rfl rfl):P:=h
theorem aoJ {path:List UInt8} (hp:path.length<=9223372036854775807) (ho:S.D.off=false) (hV:VW S.base) (hz:∀m<S.names,(aF S.base.cur m).kind≠1->(aF S.base.cur m).size<=512*(aF S.base.cur m).aB.length) (h:Sep w0 w (bE f q p S::R)):
  Calls Tryz.prog 66 #[pV f,aC path] w fun e w'=>∃v,e= .returned (.tuple #[v,iV (yS S.base path)])/\Sep w0 w' (aJ v (PI S.base path)::bE f q p S.base::R):=by
 have hb:=wY h;have h1:Sep w0 (w.alloc (.cells #[iV 0] 40)) (bE f q p S::aH w.heap.size 0::R):=Sep.dC [1,0] (h.bN 40 #[iV 0]) aR (by simp[aH]);have haw:=wS ho h1;obtain⟨T,hT⟩:∃T,T=S.base:=⟨_,rfl⟩;have JM:S.names=T.names:=by rw[hT];rfl
 rw[<-hT]at hV hz hb haw ⊢;rw[JM]at hz;clear ho;have hres:Hid (∀(tm:Array Value) W x v Y,tm.getD 5 undef=pV w.heap.size->tm.getD 4 undef=v->Sep w0 W (Y++aH w.heap.size x::R)->(results Tryz.f66 tm).run Tryz.prog W= .ok (.tuple #[v,iV x]) W):=Lh fun tm W x v Y ht hv hW=>by(have hi:(Y++aH w.heap.size x::R)[Y.length]? =some (aH w.heap.size x):=by simp);have ec:=hW.bC _ hi 0;simp only[gA,gB]at ec;(have ht2:tm[5]?.getD undef=pV w.heap.size:=by simpa using ht);(have hv2:tm[4]?.getD undef=v:=by simpa using hv);simp[results,Tryz.results66,go_sem,ht2,hv2,asAddr,loadVar,ec]
 have hpl:Hid (∀W,Calls Tryz.prog 68 #[aC path] W fun e w'=>e=(if cO path=0 then .returned (.tuple #[])else .panicked (eQ (cO path)))/\Below W.heap.size W w'):=Lh fun W=>CP hp W
 --what is left where nothing is answered
 have jP:Hid (∀(tm:Array Value) W a k,k=yS T path->k≠0->k≠11->VC T a->Sep w0 W (aD f q p T a::aH w.heap.size 0::R)->tm.getD 5 undef=pV w.heap.size->tm.getD 4 undef= .slice none 0 0->
   Leaves Tryz.prog Tryz.f66 tm (fun e w'=>∃v,e= .returned (.tuple #[v,iV (yS T path)])/\Sep w0 w' (aJ v (PI T path)::bE f q p T::R)) [{target:=.fn (.func 52) #[],args:=#[pV f,pV w.heap.size]}] (.panicking (eQ k)) W):=Lh fun tm W a k hk h0 h11 hC hW ht ht4=>by
  (refine AU hC hb h11 hW fun w' hw=>?_);refine⟨_,hres.out tm w' k _ [bE f q p T] ht ht4 hw,.slice none 0 0,by rw[hk],?_⟩;have h5:Sep w0 w' (aH w.heap.size k::bE f q p T::R):=hw.perm (List.Perm.swap _ _ _);unfold PI;rw[<-hk,if_neg h0];exact(h5.drop 1).iO 5 1
 have hfl:Hid (aU path=true->∀W a,VC T a->Sep w0 W (aD f q p T a::aH w.heap.size 0::R)->Calls Tryz.prog 123 #[pV f,aC path] W fun e w'=>e=F5 T.cur (aP T.cur T.data 0 0 (splitB path))/\∃a',VC T a'/\Sep w0 w' (aD f q p T a'::aH w.heap.size 0::R)):=Lh fun hv W a hC hW=>
  (zY hC hV hv (dD hv) hW).mono fun e w' ⟨h1,a',h2,h3⟩=>⟨h1,a',h2.ok,h3⟩
 have hct:Hid (∀m:Nat,m<T.names->¬(aF T.cur m).kind=1->∀W a,VC T a->Sep w0 W (aD f q p T a::aH w.heap.size 0::R)->Calls Tryz.prog 128 #[pV f,iV m] W fun e w'=>∃v a2,e= .returned v/\VC T a2/\Sep w0 w' (aJ v (eU T.cur T.data (aF T.cur m))::aD f q p T a2::aH w.heap.size 0::R)):=Lh fun m hm hk W a hC hW=>by refine(KJ hC hV.vf hm (hV.few m hm) (hV.lt m hm) (hz m hm hk) hW).mono ?_;rintro e w' ⟨v,a2,rfl,hR,h9⟩;exact⟨v,a2,rfl,hR.ok,h9⟩
 have hln:=nM hV (path:=path);have hpw:=uD path;have hfs:∀k,nA T.cur (aP T.cur T.data 0 0 (splitB path))=some k->k≠0/\k≠11:=fun k hk=>aeW hk
 clear hV hz hT JM h h1;by_cases h0:cO path=0
 ·have hv:=wZ h0;rw[h0,if_pos rfl]at hpl;have oG:=Lh (hfl.out hv);(have hrx:yS T path=(nA T.cur (aP T.cur T.data 0 0 (splitB path))).getD 0:=by unfold yS;rw[if_pos h0]);replace hrx:=Lh hrx;clear hfl hp hv h0 hpw;rw[AQ]at oG;obtain⟨fe,hfe⟩:∃fe,fe=nA T.cur (aP T.cur T.data 0 0 (splitB path)):=⟨_,rfl⟩;rw[<-hfe]at oG hfs hrx;cases fe with
  |some k=>
   obtain⟨hk0,abD⟩:=hfs k rfl;have hg:=Lh (fun tm W a=>jP.out tm W a k hrx.out.symm hk0 abD);clear hfs hfe hct hln hk0 abD jP;simp only at oG;obtain⟨rx,aLW⟩:∃rx,rx=yS T path:=⟨_,rfl⟩;obtain⟨sv,hsv⟩:∃sv,sv=aC path:=⟨_,rfl⟩;unfold aC at*
   go_enter_defers Tryz.func66,Tryz.ntmps66
   go_wp2_with(first |(go_at_call 53;refine haw.mono ?_;rintro e w9 ⟨rfl,a9,dQ,h9⟩;replace dQ:=Lh dQ;clear haw)|(go_at_call 68;refine(hpl.out _).mono ?_;rintro e w8 ⟨rfl,rC⟩;have AV:=oG.out _ _ dQ.out (h9.pure rC);clear h9 rC hpl)|(go_at_call 123;refine AV.mono ?_;rintro e w7 ⟨rfl,a7,FD,h7⟩;clear AV));exact hg.out _ _ _ FD h7 rfl rfl
  |none=>
   obtain⟨hr0,hr1,hr3⟩:=AR hfe.symm;obtain⟨d,m,hdl,zH,hre⟩:=hln hr0 hr1;rw[hre]at hr3;rw[lM]at hr3;(have hrb:PI T path=eU T.cur T.data (aF T.cur m):=by unfold PI;rw[hrx.out,hre];simp);have GN:=Lh (hct.out m zH hr3);replace hrb:=Lh hrb;rw[hre]at oG;clear hfs hfe hct hln hr0 hr1 hr3 jP zH hdl hre;simp only[MW]at oG hrx;obtain⟨sv,hsv⟩:∃sv,sv=aC path:=⟨_,rfl⟩;unfold aC at*
   go_enter_defers Tryz.func66,Tryz.ntmps66
   go_wp2_with(first |(go_at_call 53;refine haw.mono ?_;rintro e w9 ⟨rfl,a9,dQ,h9⟩;replace dQ:=Lh dQ;clear haw)|(go_at_call 68;refine(hpl.out _).mono ?_;rintro e w8 ⟨rfl,rC⟩;have AV:=oG.out _ _ dQ.out (h9.pure rC);clear h9 rC hpl)|(go_at_call 123;refine AV.mono ?_;rintro e w7 ⟨rfl,a7,FD,h7⟩;have hc7:=GN.out _ _ FD h7;clear AV h7 GN FD)|(go_at_call 128;refine hc7.mono ?_;rintro e w6 ⟨v,a6,rfl,KN,h6⟩;have k1:=h6.bC 2 rfl 0;have k2:=h6.bF 2 rfl 0;simp only[gA,gB]at k1;clear hc7;replace KN:=Lh KN));refine gY ?_;have h10:=h6.bS 2 rfl 0 (.int .i64 0);refine⟨_,hres.out _ _ 0 v [aJ v (eU T.cur T.data (aF T.cur m)),aD f q p T a6] rfl rfl h10,v,by rw[hrx.out],?_⟩;rw[hrb.out];have h11:Sep w0 _ (aH w.heap.size 0::aD f q p T a6::aJ v (eU T.cur T.data (aF T.cur m))::R):=Sep.dC [2,1,0] h10 aR (by simp[aH]);exact(oN KN.out hb (h11.drop 1)).perm (List.Perm.swap _ _ _)
 have hrx:yS T path=cO path:=by unfold yS;rw[if_neg h0]
 have hg:=Lh (fun tm W a=>jP.out tm W a (cO path) hrx.symm h0 hpw);rw[if_neg h0]at hpl;clear hfl hct hln jP hfs hpw;obtain⟨sv,hsv⟩:∃sv,sv=aC path:=⟨_,rfl⟩;unfold aC at*
 go_enter_defers Tryz.func66,Tryz.ntmps66
 exact Z55
end
end Go.Proofs.YtmjomdkleikgbaaGreat
