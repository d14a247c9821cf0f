/- Parts. -/
import Derived.Test.YtmjomdkleikgbaaGreatJ7
set_option linter.unusedVariables false
set_option linter.unusedSimpArgs false
set_option maxRecDepth 100000
set_option maxHeartbeats 20000000
namespace Go.Proofs.YtmjomdkleikgbaaGreat
open Go.RowKit
theorem iX {P:Program} {md:Region.Mode} {ops:Array Oper} {Q:Exit->Act->World->Prop} {S:World->Prop} {z f:Nat} {l:Array Bool} {a:Act} {w:World} {i j:Nat} {o o2:Oper} (hr:Region.ready md ops l=[i,j]) (ho:ops[i]? =some o) (ho2:ops[j]? =some o2)
  (h:∀K':Act->World->Prop,(∀a w,(i≠z->S w)->J8 P md ops Q S z f (l.setIfInBounds i true) a w->K' a w)->if Region.wanted o (yielded ops a.tmps)=true then Oper.wp P o a w K' Q else K' (a.put o.dst undef) w)
  (h2:∀K':Act->World->Prop,(∀a w,(j≠z->S w)->J8 P md ops Q S z f (l.setIfInBounds j true) a w->K' a w)->if Region.wanted o2 (yielded ops a.tmps)=true then Oper.wp P o2 a w K' Q else K' (a.put o2.dst undef) w):J8 P md ops Q S z (f+1) l a w:=
 ⟨fun h0=>(by rw[hr]at h0;cases h0),fun k hk=>by
  rw[hr]at hk;rcases kC.1 hk with rfl|hk
  ·exact wpOp_step ho fun K' hK=>h K' fun a w h1 h2=>hK a w ⟨h1,h2⟩
  (obtain rfl:k=j:=by simpa using hk);exact wpOp_step ho2 fun K' hK=>h2 K' fun a w h1 h2=>hK a w ⟨h1,h2⟩⟩
def aK8 (F:World->Prop) (A:Act):Exit->Act->World->Prop
 | .normal,a',w'=>a'=A/\F w'
 |_,_,_=>False
theorem aq5 {P:Program} {c:Code} {Q:Exit->Act->World->Prop} {a:Act} {w:World} (F:World->Prop) (A:Act) (h:c.wp P (aK8 F A) a w) (h2:∀w',F w'->Q .normal A w'):c.wp P Q a w:=
 c.wp_mono (fun e a' w' h=>by
  cases e with
  |normal=>obtain⟨h4,h5⟩:=h;subst h4;exact h2 w' h5
  |_=>exact h.elim) h
theorem UX {w:World} {b:Nat} {v0 v1 v2 v3 v4:Value} (h0:w.cell? ⟨b,0,none⟩=some v0) (h1:w.cell? ⟨b,1,none⟩=some v1) (h2:w.cell? ⟨b,2,none⟩=some v2) (h3:w.cell? ⟨b,3,none⟩=some v3) (h4:w.cell? ⟨b,4,none⟩=some v4):
  (loadVar 129 ⟨b,0,none⟩).run Tryz.prog w= .ok (.agg #[v0,v1,v2,v3,v4]) w:=by
 simp[loadVar,go_sem,h0,h1,h2,h3,h4]
theorem aaR {fn:Func} {p:Tmp} (h:fn.results=#[.cell p 129]) {tmps:Array Value} {w:World} {b:Nat} {v0 v1 v2 v3 v4:Value} (hp:tmps.getD p undef=pV b) (h0:w.cell? ⟨b,0,none⟩=some v0) (h1:w.cell? ⟨b,1,none⟩=some v1) (h2:w.cell? ⟨b,2,none⟩=some v2) (h3:w.cell? ⟨b,3,none⟩=some v3) (h4:w.cell? ⟨b,4,none⟩=some v4):
  (results fn tmps).run Tryz.prog w= .ok (.agg #[v0,v1,v2,v3,v4]) w:=by
 have hp2:tmps[p]?.getD undef=pV b:=by simpa using hp
 simp only[results,h];simp[Result.andThen,hp2,asAddr,UX h0 h1 h2 h3 h4]
theorem eO {P:Program} {ops:Array Oper} {Q:Exit->Act->World->Prop} {S:World->Prop} {id:Nat} {a:Act} {w:World} (z:Nat) (hm:P.follows .mixedOrders=true)
  (h:∀wq,wq=w.drew->J8 P .any ops Q S z ops.size (Array.replicate ops.size false) a wq):(Code.region id ops true).wp P Q a w:=
 rZ z hm (h _ rfl)
def dZ (l:List Nat):List Int:=l.map Int.ofNat
theorem BytesAt.sub {w:World} {ad:Addr} {L c:Nat} {bs:List UInt8} (h:BytesAt w (.slice (some ad) L c) bs) {o m:Nat} (hm:o+m<=bs.length):BytesAt w (.slice (some (ad.add o)) m (c-o)) ((bs.drop o).take m):=by
 obtain⟨h0,A,c',e,h1,h2,h3⟩:=h;simp only[Value.slice.injEq]at e;obtain⟨rfl,rfl,rfl⟩:=e;have hl:((bs.drop o).take m).length=m:=by rw[qL,rU];omega
 refine⟨by rw[hl,iM,hl,yY],_,_,by rw[hl],by omega,by omega,fun hn=>?_⟩;obtain⟨ad',e',hb,hc⟩:=h3 aD;cases e';refine⟨_,rfl,by rw[TW];exact hb,fun j u hj=>?_⟩;rw[kV,vO]at hj;split at hj
 ·rw[zY]at hj;have:=hc (o+j) u (by rw[kV];exact hj);rw[<-this,Addr.add_add]
 cases hj
section
variable {w0 w:World} {R:List aZ} {f q p:Nat} {S:VS} {a:VA}
theorem jP {n:Nat} (hC:VC S a) (hF:VF S) (hn:n<S.names) (hok:(aG S.cur n).aB.length<=28) (h:Sep w0 w (aF f q p S a::R)):
  Calls Tryz.prog 72 #[pV f,iV n] w fun e w'=>∃v a',e= .returned (fJ (aG S.cur n) v)/\Reads S a a'/\Sep w0 w' (aR v (dZ (aG S.cur n).aB)::aF f q p S a'::R):=by
 have KG:=hF.names;have hbk:2+n/8<S.nb-96:=by have:=hF.room;unfold VS.data at this;omega
 have h0:Sep w0 (w.alloc (.cells #[iV 0,iV 0,iV 0,iV 0,.slice none 0 0] 129)) (aF f q p S a:: .box w.heap.size 129 #[iV 0,iV 0,iV 0,iV 0,.slice none 0 0]::R):=(h.bN _ _).perm (List.Perm.swap _ _ _);have hpl:=afM (n:=n) aD;have hpk:=OT hC hbk h0;have hlen:=hC.auC hbk;obtain⟨o,ho⟩:∃o,o=n%8*64:=⟨_,rfl⟩;obtain⟨k,hk⟩:∃k,k=2+n/8:=⟨_,rfl⟩;have ho4:o+64<=512:=by omega
 rw[<-ho,<-hk]at hpl;rw[<-hk]at hpk hlen;obtain⟨b64,hb⟩:∃b,b=((bk S.cur k).drop o).take 64:=⟨_,rfl⟩;have aGA:b64.length=64:=by rw[hb,qL,rU];omega
 have nR:aG S.cur n=CU b64:=by unfold aG;rw[hb,hk,ho]
 rw[nR]at hok ⊢;have hgo:∀W v a',Reads S a a'->aiY a' k v (bk S.cur k)->Sep w0 W (aF f q p S a':: .box w.heap.size 129 #[iV 0,iV 0,iV 0,iV 0,.slice none 0 0]::R)->∃ad c,v= .slice (some ad) 512 c/\((o:Int)+64<=c/\Hid (512<=c/\c<=maxLen))/\Hid (∀W' X,Sep w0 W' (X++(aF f q p S a':: .box w.heap.size 129 #[iV 0,iV 0,iV 0,iV 0,.slice none 0 0]::R))->BytesAt W' (.slice (some (ad.add o)) 64 (c-o)) b64):=fun W v a' hR hP hS=>by have ht:=aiY.tells (w0:=w0) (R:=.box w.heap.size 129 #[iV 0,iV 0,iV 0,iV 0,.slice none 0 0]::R) (f:=f) (q:=q) (p:=p) (S:=S) hP hR.ok.none;have h1:=ht W [] hS;obtain⟨_,A,c,e,h3,h4,h5⟩:=id h1;rw[hlen]at e h3;obtain⟨ad,rfl,_⟩:=h5 aD;refine⟨ad,c,e,⟨by omega,Lh ⟨h3,h4⟩⟩,Lh fun W' X hX=>?_⟩;have:=ht W' X hX;rw[e]at this;rw[hb];exact this.sub aD
 clear hb nR hlen ho hk hbk KG h h0;have b1:(o:Int)+64<=512:=by omega
 have b0:(0:Int)<=o:=by omega
 have e64:o+64-o=64:=by omega
 have hgo':=Lh hgo;have ak0:=Lh aGA;have hok':=Lh hok;clear hgo ho4 aGA hn hok hC hF;go_enter Tryz.func72,Tryz.ntmps72;go_wp2_with(first |(go_at_call 143;refine(hpl _).mono ?_;rintro e w9 ⟨rfl,h9⟩;obtain rfl:=h9.symm)|(go_at_call 144;refine hpk.mono ?_;rintro e w8 ⟨v,a',rfl,hR,hP,h8⟩;obtain⟨ad,c,rfl,⟨hc0,hc1⟩,hT⟩:=hgo'.out _ _ _ hR hP h8;replace h8:=Lh h8;clear hP hgo'));obtain⟨kd,hkd⟩:∃kd:Int,kd=((b64.getD 0 0).toNat:Nat):=⟨_,rfl⟩;have aR9:=Lh hkd;have hwk:IntKind.i64.wrap kd=kd:=IntWalk.i64_in _ (by have:=UInt8.toNat_lt (b64.getD 0 0);omega);have hX0:Hid (Sep w0 w8.drew (aF f q p S a':: .box w.heap.size 129 #[iV 0,iV 0,iV 0,iV 0,.slice none 0 0]::R)):=Lh h8.out.drew;have hcell:Hid (∀W X,Sep w0 W (X++(aF f q p S a':: .box w.heap.size 129 #[iV 0,iV 0,iV 0,iV 0,.slice none 0 0]::R))->W.cell? (ad.add o)=some (.int .u8 kd)):=Lh fun W X hW=>by rw[hkd];obtain⟨ad',e,hh⟩:=(hT.out W X hW).byte (j:=0) (by rw[ak0.out];decide);cases e;rw[Addr.add_add,tF]at hh;exact hh
 have hrd:Hid (∀i:Nat,i+2<=64->∀W X,Sep w0 W (X++(aF f q p S a':: .box w.heap.size 129 #[iV 0,iV 0,iV 0,iV 0,.slice none 0 0]::R))->Calls Tryz.prog 85 #[.slice (some (ad.add o)) 64 (c-o),iV i] W fun e w'=>e= .returned (iV (r2 b64 i))/\∃n,w'=W.drewN n):=Lh fun(i:Nat) hi W X hW=>VJ (hT.out W X hW) (by rw[ak0.out];exact hi) (by rw[ak0.out];decide)
 have hst:Hid (∀W,Sep w0 W (.box w8.heap.size 129 #[iV 0,iV 0,iV 0,iV 0,.slice none 0 0]::aF f q p S a':: .box w.heap.size 129 #[iV 0,iV 0,iV 0,iV 0,.slice none 0 0]::R)->
   W.frozen? ⟨w8.heap.size,0,none⟩=false/\W.frozen? ⟨w8.heap.size,1,none⟩=false/\W.frozen? ⟨w8.heap.size,2,none⟩=false/\W.frozen? ⟨w8.heap.size,3,none⟩=false/\W.frozen? ⟨w8.heap.size,4,none⟩=false/\
   W.cell? ⟨w8.heap.size,0,none⟩=some (iV 0)/\W.cell? ⟨w8.heap.size,1,none⟩=some (iV 0)/\W.cell? ⟨w8.heap.size,2,none⟩=some (iV 0)/\W.cell? ⟨w8.heap.size,3,none⟩=some (iV 0)/\W.cell? ⟨w8.heap.size,4,none⟩=some (.slice none 0 0)/\
   Sep w0 (((((W.setCell ⟨w8.heap.size,0,none⟩ (.int .i64 kd)).setCell ⟨w8.heap.size,1,none⟩ (.int .i64 (r2 b64 1:Nat))).setCell ⟨w8.heap.size,2,none⟩ (.int .i64 (r2 b64 3:Nat))).setCell ⟨w8.heap.size,3,none⟩ (.int .i64 (r2 b64 5:Nat))).setCell ⟨w8.heap.size,4,none⟩ (.slice none 0 0)) (.box w8.heap.size 129 (aN (CU b64) (.slice none 0 0))::aF f q p S a':: .box w.heap.size 129 #[iV 0,iV 0,iV 0,iV 0,.slice none 0 0]::R)):=Lh fun W hW=>by
  (have z:=fun j=>hW.bF 0 rfl j);(have y:=fun j=>hW.bC 0 rfl j);have h1:=((((hW.bS 0 rfl 0 (.int .i64 kd)).bS 0 rfl 1 (.int .i64 (r2 b64 1:Nat))).bS 0 rfl 2 (.int .i64 (r2 b64 3:Nat))).bS 0 rfl 3 (.int .i64 (r2 b64 5:Nat))).bS 0 rfl 4 (.slice none 0 0);rw[hkd]at h1 ⊢;exact⟨z 0,z 1,z 2,z 3,z 4,by rw[y 0];rfl,by rw[y 1];rfl,by rw[y 2];rfl,by rw[y 3];rfl,by rw[y 4];rfl,h1⟩
 clear hkd;simp only[e64];apply aq5 (fun wq=>Hid (Sep w0 wq (.box w8.heap.size 129 (aN (CU b64) (.slice none 0 0))::aF f q p S a':: .box w.heap.size 129 #[iV 0,iV 0,iV 0,iV 0,.slice none 0 0]::R)))
 ·refine eO (S:=fun w'=>w'.cell? (ad.add o)=some (.int .u8 kd)) 12 fH ?_;simp only[kE,kR,rT,Nat.reduceAdd];intro wq hwq;(have hX:Hid (Sep w0 wq (aF f q p S a':: .box w.heap.size 129 #[iV 0,iV 0,iV 0,iV 0,.slice none 0 0]::R)):=by rw[hwq];exact hX0);(have hsz:wq.heap.size=w8.heap.size:=by rw[hwq];rfl);have hc:=hcell.out _ [] hX.out;clear hwq;refine aA 0 hc ?_;refine aA 1 hc ?_;refine aA 2 hc ?_;refine aA 3 hc ?_;refine aA 4 hc ?_;refine aA 6 hc ?_;refine aA 8 hc ?_;refine iX (i:=5) (j:=11) fH rfl rfl (fun K hK=>?_) (fun K hK=>?_)
  focus
   go_simp
   go_at_call 85
   refine(hrd.out 1 aD _ [] hX.out).mono ?_
   rintro e wq ⟨rfl,nq,hwq⟩
   replace hX:=Lh (hX.out.drewN nq)
   rw[<-hwq]at hX
   replace hsz:wq.heap.size=w8.heap.size:=by rw[hwq];exact hsz
   clear hwq
   have hc:=hcell.out _ [] hX.out
   try dsimp only
   refine hK _ _ (fun _=>hc) ?_
   clear hK K
   try simp only[Act.put,gD]
   refine iX (i:=7) (j:=11) fH rfl rfl (fun K hK=>?_) (fun K hK=>?_)
   focus
    go_simp
    go_at_call 85
    refine(hrd.out 3 aD _ [] hX.out).mono ?_
    rintro e wq ⟨rfl,nq,hwq⟩
    replace hX:=Lh (hX.out.drewN nq)
    rw[<-hwq]at hX
    replace hsz:wq.heap.size=w8.heap.size:=by rw[hwq];exact hsz
    clear hwq
    have hc:=hcell.out _ [] hX.out
    try dsimp only
    refine hK _ _ (fun _=>hc) ?_
    clear hK K
    try simp only[Act.put,gD]
    refine iX (i:=9) (j:=11) fH rfl rfl (fun K hK=>?_) (fun K hK=>?_)
    focus
     go_simp
     go_at_call 85
     refine(hrd.out 5 aD _ [] hX.out).mono ?_
     rintro e wq ⟨rfl,nq,hwq⟩
     replace hX:=Lh (hX.out.drewN nq)
     rw[<-hwq]at hX
     replace hsz:wq.heap.size=w8.heap.size:=by rw[hwq];exact hsz
     clear hwq
     have hc:=hcell.out _ [] hX.out
     try dsimp only
     refine hK _ _ (fun _=>hc) ?_
     clear hK K
     try simp only[Act.put,gD]
     have hc:=hcell.out _ [] hX.out
     refine aA 10 hc ?_
     refine bI 11 fun K hK=>?_
     go_simp
     replace hX:=Lh (hX.out.bN 129 #[iV 0,iV 0,iV 0,iV 0,.slice none 0 0])
     rw[hsz]at hX
     have hc:=hcell.out _ [_] hX.out
     try dsimp only
     refine hK _ _ (fun _=>hc) ?_
     clear hK K
     try simp only[Act.put,gD]
     obtain⟨wq,hwa⟩:∃x,x=wq.alloc (.cells #[iV 0,iV 0,iV 0,iV 0,.slice none 0 0] 129):=⟨_,rfl⟩
     rw[<-hwa]at hX ⊢
     clear hwa hsz
     obtain⟨z0,z1,z2,z3,z4,y0,y1,y2,y3,y4,hfin⟩:=hst.out _ hX.out
     refine bB 12 (fun h=>absurd rfl h) ?_
     refine aQ fH ?_ _
     exact⟨rfl,Lh hfin⟩
    focus
     go_simp
     replace hX:=Lh (hX.out.bN 129 #[iV 0,iV 0,iV 0,iV 0,.slice none 0 0])
     rw[hsz]at hX
     have hc:=hcell.out _ [_] hX.out
     try dsimp only
     refine hK _ _ (fun _=>hc) ?_
     clear hK K
     try simp only[Act.put,gD]
     obtain⟨wq,hwa⟩:∃x,x=wq.alloc (.cells #[iV 0,iV 0,iV 0,iV 0,.slice none 0 0] 129):=⟨_,rfl⟩
     rw[<-hwa]at hX ⊢
     clear hwa hsz
     refine bI 9 fun K hK=>?_
     go_simp
     go_at_call 85
     refine(hrd.out 5 aD _ [_] hX.out).mono ?_
     rintro e wq ⟨rfl,nq,hwq⟩
     replace hX:=Lh (hX.out.drewN nq)
     rw[<-hwq]at hX
     clear hwq
     have hc:=hcell.out _ [_] hX.out
     try dsimp only
     refine hK _ _ (fun _=>hc) ?_
     clear hK K
     try simp only[Act.put,gD]
     have hc:=hcell.out _ [_] hX.out
     refine aA 10 hc ?_
     obtain⟨z0,z1,z2,z3,z4,y0,y1,y2,y3,y4,hfin⟩:=hst.out _ hX.out
     refine bB 12 (fun h=>absurd rfl h) ?_
     refine aQ fH ?_ _
     exact⟨rfl,Lh hfin⟩
   focus
    go_simp
    replace hX:=Lh (hX.out.bN 129 #[iV 0,iV 0,iV 0,iV 0,.slice none 0 0])
    rw[hsz]at hX
    have hc:=hcell.out _ [_] hX.out
    try dsimp only
    refine hK _ _ (fun _=>hc) ?_
    clear hK K
    try simp only[Act.put,gD]
    obtain⟨wq,hwa⟩:∃x,x=wq.alloc (.cells #[iV 0,iV 0,iV 0,iV 0,.slice none 0 0] 129):=⟨_,rfl⟩
    rw[<-hwa]at hX ⊢
    clear hwa hsz
    refine bI 7 fun K hK=>?_
    go_simp
    go_at_call 85
    refine(hrd.out 3 aD _ [_] hX.out).mono ?_
    rintro e wq ⟨rfl,nq,hwq⟩
    replace hX:=Lh (hX.out.drewN nq)
    rw[<-hwq]at hX
    clear hwq
    have hc:=hcell.out _ [_] hX.out
    try dsimp only
    refine hK _ _ (fun _=>hc) ?_
    clear hK K
    try simp only[Act.put,gD]
    refine bI 9 fun K hK=>?_
    go_simp
    go_at_call 85
    refine(hrd.out 5 aD _ [_] hX.out).mono ?_
    rintro e wq ⟨rfl,nq,hwq⟩
    replace hX:=Lh (hX.out.drewN nq)
    rw[<-hwq]at hX
    clear hwq
    have hc:=hcell.out _ [_] hX.out
    try dsimp only
    refine hK _ _ (fun _=>hc) ?_
    clear hK K
    try simp only[Act.put,gD]
    have hc:=hcell.out _ [_] hX.out
    refine aA 10 hc ?_
    obtain⟨z0,z1,z2,z3,z4,y0,y1,y2,y3,y4,hfin⟩:=hst.out _ hX.out
    refine bB 12 (fun h=>absurd rfl h) ?_
    refine aQ fH ?_ _
    exact⟨rfl,Lh hfin⟩
  focus
   go_simp
   replace hX:=Lh (hX.out.bN 129 #[iV 0,iV 0,iV 0,iV 0,.slice none 0 0])
   rw[hsz]at hX
   have hc:=hcell.out _ [_] hX.out
   try dsimp only
   refine hK _ _ (fun _=>hc) ?_
   clear hK K
   try simp only[Act.put,gD]
   obtain⟨wq,hwa⟩:∃x,x=wq.alloc (.cells #[iV 0,iV 0,iV 0,iV 0,.slice none 0 0] 129):=⟨_,rfl⟩
   rw[<-hwa]at hX ⊢
   clear hwa hsz
   refine bI 5 fun K hK=>?_
   go_simp
   go_at_call 85
   refine(hrd.out 1 aD _ [_] hX.out).mono ?_
   rintro e wq ⟨rfl,nq,hwq⟩
   replace hX:=Lh (hX.out.drewN nq)
   rw[<-hwq]at hX
   clear hwq
   have hc:=hcell.out _ [_] hX.out
   try dsimp only
   refine hK _ _ (fun _=>hc) ?_
   clear hK K
   try simp only[Act.put,gD]
   refine bI 7 fun K hK=>?_
   go_simp
   go_at_call 85
   refine(hrd.out 3 aD _ [_] hX.out).mono ?_
   rintro e wq ⟨rfl,nq,hwq⟩
   replace hX:=Lh (hX.out.drewN nq)
   rw[<-hwq]at hX
   clear hwq
   have hc:=hcell.out _ [_] hX.out
   try dsimp only
   refine hK _ _ (fun _=>hc) ?_
   clear hK K
   try simp only[Act.put,gD]
   refine bI 9 fun K hK=>?_
   go_simp
   go_at_call 85
   refine(hrd.out 5 aD _ [_] hX.out).mono ?_
   rintro e wq ⟨rfl,nq,hwq⟩
   replace hX:=Lh (hX.out.drewN nq)
   rw[<-hwq]at hX
   clear hwq
   have hc:=hcell.out _ [_] hX.out
   try dsimp only
   refine hK _ _ (fun _=>hc) ?_
   clear hK K
   try simp only[Act.put,gD]
   have hc:=hcell.out _ [_] hX.out
   refine aA 10 hc ?_
   obtain⟨z0,z1,z2,z3,z4,y0,y1,y2,y3,y4,hfin⟩:=hst.out _ hX.out
   refine bB 12 (fun h=>absurd rfl h) ?_
   refine aQ fH ?_ _
   exact⟨rfl,Lh hfin⟩
 intro wq hX;obtain⟨nk,hnk⟩:∃nk:Nat,nk=(b64.getD 7 0).toNat:=⟨_,rfl⟩;have hsl:(CU b64).aB.length=nk:=by rw[hnk];unfold CU;simp
 have aOI:nk<=28:=by rw[<-hsl];exact hok'.out
 have c7:wq.cell? {block:=(ad.add o).block,off:=(ad.add o).off+7}=some (.int .u8 (nk:Nat)):=by obtain⟨ad',e,hh⟩:=(hT.out wq [_] hX.out).byte (j:=7) (by rw[ak0.out];decide);cases e;rw[hnk];exact hh
 have hwn:IntKind.i64.wrap (nk:Int)=nk:=IntWalk.i64_in _ aD;have hsp:∀k,k<nk->(CU b64).aB[k]? =some (r2 b64 (8+2*k)):=fun k hk=>by unfold CU;rw[kV,UY (by rw[<-hnk];exact hk)];rfl
 have ak5:=Lh hsp;have aGB:=Lh hsl;obtain⟨k0,pO,hk0,hk1,hk2⟩:=iU (show(Tryz.prog.info? 3).map (fun i=>(i.zero,i.size,i.bytes))=some (some (iV 0),1,8)from SN);clear hsp hsl hnk hst hX0;go_wp2_with fail;go_loopw[39] (fun i wr=>∃k:Nat,k<=nk/\i=iV k/\Hid (∃u,Sep w0 wr (aR u (dZ ((CU b64).aB.take k)):: .box w8.heap.size 129 (aN (CU b64) u)::aF f q p S a':: .box w.heap.size 129 #[iV 0,iV 0,iV 0,iV 0,.slice none 0 0]::R))) (fun i _=>nk-(intOf i).toNat)
 case atStart=>exact⟨0,gI _,rfl,Lh ⟨.slice none 0 0,by have:=hX.out.iO 3 1;exact this⟩⟩
 obtain⟨k,hk,rfl,hS⟩:=hrel;by_cases hlt:k<nk
 ·obtain⟨u,hS⟩:=hS.out;(have hll:(dZ ((CU b64).aB.take k)).length=k:=by unfold dZ;rw[iM,qL,aGB.out];omega);(have c4:wr.drew.cell? ⟨w8.heap.size,4,none⟩=some u:=by have:=hS.drew.bC 1 rfl 4;rw[this];rfl);(have q1:(k:Int)<nk:=by omega);(have q0:(0:Int)<=k:=by omega);(have q2:(nk:Int)<=28:=by omega);have hw1:IntKind.i64.wrap (2*(k:Int))=2*k:=IntWalk.i64_in _ aD;have hw2:IntKind.i64.wrap (8+2*(k:Int))=8+2*k:=IntWalk.i64_in _ aD;have hS':=Lh hS;clear hS;go_wp2_with fail;refine eO (S:=fun w'=>w'.cell? ⟨w8.heap.size,4,none⟩=some u) 10 fH ?_;intro wq hwq;rw[<-hwq]at c4;(have hX2:Hid (Sep w0 wq (aR u (dZ ((CU b64).aB.take k)):: .box w8.heap.size 129 (aN (CU b64) u)::aF f q p S a':: .box w.heap.size 129 #[iV 0,iV 0,iV 0,iV 0,.slice none 0 0]::R)):=by rw[hwq];exact Lh hS'.out.drew);clear hwq;simp only[kE,kR,rT,Nat.reduceAdd];refine aA 0 c4 ?_;refine aA 1 c4 ?_;refine aA 2 c4 ?_;refine aA 3 c4 ?_;refine aA 4 c4 ?_;refine aA 5 c4 ?_;have hq:=hrd.out (8+2*k) aD _ [_,_] hX2.out;rw[show((8+2*k:Nat):Int)=8+2*(k:Int)by omega]at hq;(refine bI 6 fun K hK=>?_);go_simp;go_at_call 85;refine hq.mono ?_;rintro e wz ⟨rfl,nq,hwz⟩;have qW:=hX2.out.drewN nq;rw[<-hwz]at qW;clear hwz hq hX2 hS';(have c5:wz.cell? ⟨w8.heap.size,4,none⟩=some u:=by rw[qW.bC 1 rfl 4];rfl);dsimp only;refine hK _ _ (fun _=>c5) ?_;clear hK K;(try simp only[Act.put,gD]);have nM:=qW.alloc (.cells #[iV (r2 b64 (8+2*k):Nat)] 3);have aGC:=jO wz #[iV (r2 b64 (8+2*k):Nat)] 3;(have c6:(wz.alloc (.cells #[iV (r2 b64 (8+2*k):Nat)] 3)).cell? ⟨w8.heap.size,4,none⟩=some u:=by rw[nM.bC 1 rfl 4];rfl);refine bB 7 (fun _=>c6) ?_;have hY:Hid (Sep w0 (wz.alloc (.cells #[iV (r2 b64 (8+2*k):Nat)] 3)) (.sl 3 1 u k ((dZ ((CU b64).aB.take k)).map (.int .i64)):: .box w8.heap.size 129 (aN (CU b64) u)::aF f q p S a':: .box w.heap.size 129 #[iV 0,iV 0,iV 0,iV 0,.slice none 0 0]::R)):=Lh (by have:=nM;unfold aR at this;rw[hll]at this;exact this);have auM:Hid (Rd (wz.alloc (.cells #[iV (r2 b64 (8+2*k):Nat)] 3)) 1 (sV wz.heap.size 1 1) 1 [.int .i64 (r2 b64 (8+2*k):Nat)]):=Lh ⟨rfl,_,_,rfl,iB _,by unfold maxLen;omega,fun _=>⟨_,rfl,by simp,aGC _ rfl⟩⟩;(refine bI 8 fun K hK=>?_);refine jF 0 D9 _ _ 127 D9 3 k0 (.int .i64 0) 1 8 Tryz.underlying127 pO hk0 hk1 hk2 rfl aV hY.out u k _ D9 D9 (sV wz.heap.size 1 1) 1 [.int .i64 (r2 b64 (8+2*k):Nat)] D9 auM.out oCl vQ aD ?_;intro v3 w3 dX hz3;(have c7':w3.cell? ⟨w8.heap.size,4,none⟩=some u:=by rw[dX.bC 1 rfl 4];rfl);have f7':w3.frozen? ⟨w8.heap.size,4,none⟩=false:=dX.bF 1 rfl 4;obtain⟨A3,c3,e3⟩:=dX.dS 0 rfl;subst e3;have kD:=dX.bS 1 rfl 4 (.slice A3 (k+1) c3);have au4:=Lh kD;clear dX kD hY auM aGC nM qW c4 c5 c6;refine hK _ _ (fun _=>c7') ?_;clear hK K;(try simp only[Act.put,gD]);refine bB 9 (fun _=>c7') ?_;refine bB 10 (fun h=>absurd rfl h) ?_;refine aQ fH ?_ _;go_wp2_with fail;refine⟨⟨k+1,by omega,rfl,Lh ⟨.slice A3 (k+1) c3,?_⟩⟩,by simp[intOf];omega⟩;(have e9:dZ ((CU b64).aB.take (k+1))=dZ ((CU b64).aB.take k)++[((r2 b64 (8+2*k):Nat):Int)]:=by unfold dZ;rw[pE,ak5.out k hlt,mV];rfl);rw[e9];unfold aR;rw[jL,hll,mV];exact au4.out
 obtain rfl:k=nk:=by omega
 obtain⟨u,hS⟩:=hS.out;have e1:(CU b64).aB.take k=(CU b64).aB:=qH (by rw[aGB.out];exact iB _);rw[e1]at hS;obtain⟨A9,c9,e9⟩:=hS.dS 0 rfl;subst e9;have z:=fun j=>hS.bC 1 rfl j
 have z0:=z 0;have z1:=z 1;have z2:=z 2;have z3:=z 3;have z4:=z 4;unfold aN at z0 z1 z2 z3 z4;simp only[gA,gB,gC]at z0 z1 z2 z3 z4;have y:=fun j=>hS.bC 3 rfl j
 have y0:=y 0;have y1:=y 1;have y2:=y 2;have y3:=y 3;have y4:=y 4;simp only[gA,gB,gC]at y0 y1 y2 y3 y4;have x:=fun j=>hS.bF 3 rfl j
 have x0:=x 0;have x1:=x 1;have x2:=x 2;have x3:=x 3;have x4:=x 4;clear x y z;have hS':=Lh hS;clear hS;go_wp2_with fail;have h1:=((((hS'.out.bS 3 rfl 0 (.int .i64 (CU b64).kind)).bS 3 rfl 1 (.int .i64 (CU b64).mode)).bS 3 rfl 2 (.int .i64 (CU b64).links)).bS 3 rfl 3 (.int .i64 (CU b64).size)).bS 3 rfl 4 (.slice A9 (dZ (CU b64).aB).length c9);have z:=fun j=>h1.bC 3 rfl j
 refine bodyPost_ret (aaR (fn:=Tryz.f72) rfl rfl (z 0) (z 1) (z 2) (z 3) (z 4)) rfl ?_;refine⟨.slice A9 (dZ (CU b64).aB).length c9,a',rfl,hR,?_⟩;exact(Sep.dE [1,3,0,2] h1 aV bL).drop 2
end
def VS.qO (S:VS) (b i:Int):VS:= {S with wB:=b,wI:=i}
section
variable {w0 w w':World} {R:List aZ} {f q p:Nat} {S:VS} {a:VA}
theorem CV.pure {k:Nat} {v:Value} (h:CV f q p S a k v w0 w R) (hb:Below w.heap.size w w'):CV f q p S a k v w0 w' R:=by
 rcases h with⟨h1,h2⟩|⟨h1,h2⟩
 ·exact .inl ⟨h1,h2.pure hb⟩
 exact .inr ⟨h1,h2.pure hb⟩
theorem CV.drew {k:Nat} {v:Value} (h:CV f q p S a k v w0 w R):CV f q p S a k v w0 w.drew R:=by
 rcases h with⟨h1,h2⟩|⟨h1,h2⟩
 ·exact .inl ⟨h1,h2.drew⟩
 exact .inr ⟨h1,h2.drew⟩
theorem CV.drop {k:Nat} {v:Value} {A:aZ} (h:CV f q p S a k v w0 w (A::R)):CV f q p S a k v w0 w R:=by
 rcases h with⟨h1,h2⟩|⟨h1,h2⟩
 ·exact .inl ⟨h1,(Sep.dE [1,0] h2 aV bL).drop 1⟩
 exact .inr ⟨h1,(Sep.dE [2,0,1] h2 aV bL).drop 1⟩
theorem VC.qO (h:VC S a) (b i:Int):VC (S.qO b i) a:=⟨h.pF,h.big,h.on,h.cur,h.seen,h.fresh,h.rest,h.few,h.none⟩
theorem Sep.YC (h:Sep w0 w (aF f q p S a::R)) (b i:Int):Sep w0 (w.setCell ⟨f,5,none⟩ (iK b i)) (aF f q p (S.qO b i) a::R):=by have h1:=h.bE.bS 0 rfl 5 (iK b i);have h2:Sep w0 (w.setCell ⟨f,5,none⟩ (iK b i)) (pQ f q p (S.qO b i) a++R):=h1;exact h2.dB
theorem CV.qO {k:Nat} {v:Value} (h:CV f q p S a k v w0 w R) (b i:Int):CV f q p (S.qO b i) a k v w0 (w.setCell ⟨f,5,none⟩ (iK b i)) R:=by
 rcases h with⟨h1,h2⟩|⟨h1,h2⟩
 ·exact .inl ⟨h1,h2.YC b i⟩
 exact .inr ⟨h1,h2.YC b i⟩
theorem CV.frozen {k:Nat} {v:Value} (h:CV f q p S a k v w0 w R) (j:Nat):w.frozen? ⟨f,j,none⟩=false:=by
 rcases h with⟨_,h⟩|⟨_,h⟩
 ·exact h.bE.bF 0 rfl j
 exact h.bE.bF 0 rfl j
theorem CV.rest {k:Nat} {v:Value} (h:CV f q p S a k v w0 w R):Sep w0 w R:=by
 rcases h with⟨_,h⟩|⟨_,h⟩
 ·exact h.drop 1
 exact h.drop 2
theorem aoN {n k:Nat} {v:Value} (hC:VC S a) (hF:VF S) (hn:n<S.names) (hok:(aG S.cur n).aB.length<=28) (h:CV f q p S a k v w0 w R):
  Calls Tryz.prog 72 #[pV f,iV n] w fun e w'=>∃u a',e= .returned (fJ (aG S.cur n) u)/\Reads S a a'/\CV f q p S a' k v w0 w' (aR u (dZ (aG S.cur n).aB)::R):=by
 rcases h with⟨h1,h2⟩|⟨h1,h2⟩
 ·refine(jP hC hF hn hok h2).mono ?_;rintro e w' ⟨u,a',rfl,hR,h9⟩;exact⟨u,a',rfl,hR,.inl ⟨by rw[hR.FM];exact h1,h9.perm (List.Perm.swap _ _ _)⟩⟩
 refine(jP hC hF hn hok h2).mono ?_;rintro e w' ⟨u,a',rfl,hR,h9⟩;exact⟨u,a',rfl,hR,.inr ⟨by rw[hR.FM];exact h1,Sep.dE [1,2,0] h9 aV bL⟩⟩
structure gL (S:VS):Prop where
 b0: -1000000<=S.wB
 b1:S.wB<=1000000
 i0: -1000000<=S.wI
 i1:S.wI<=1000000
def VS.keep (S:VS) (n:Nat) (x:VI):VS:=
 {S with cur:=uU S.cur n x,wB:=S.wB-eD (aG S.cur n).kind (aG S.cur n).size+eD x.kind x.size,wI:=S.wI-nQ (aG S.cur n).kind+nQ x.kind,m:=S.m+1}
theorem VF.keep {n:Nat} {x:VI} (h:VF S):VF (S.keep n x):=⟨h.names,h.room⟩
end
theorem wY {b ys zs:List UInt8} {o i:Nat} (ho:o<=b.length) (h:i+zs.length<=ys.length):dP (dP b o ys) (o+i) zs=dP b o (dP ys i zs):=by
 unfold dP;have e1:(b.take o).length=o:=by rw[qL];omega
 have t:(b.take o++ys++b.drop (o+ys.length)).take (o+i)=b.take o++ys.take i:=by rw[pJ,List.take_append,e1,qH aD,JM,List.take_append_of_le_length aD]
 have d:(b.take o++ys++b.drop (o+ys.length)).drop (o+i+zs.length)=ys.drop (i+zs.length)++b.drop (o+ys.length):=by rw[pJ,List.drop_append,e1,aa0 aD,nG,show o+i+zs.length-o=i+zs.length by omega,ao0 aD]
 rw[t,d];have e2:(ys.take i++zs++ys.drop (i+zs.length)).length=ys.length:=by simp only[jL,qL,rU];omega
 rw[e2];simp only[pJ]
theorem GV {b:List UInt8} {i:Nat} (h:i<b.length) (v:UInt8):b.set i v=dP b i [v]:=by have:=DZ (b:=b) (i:=i) (xs:=[]) (y:=v) EN;simpa[dP]using this
def aoO (x:VI):List UInt8:=UInt8.ofNat x.kind::(w2 x.mode++w2 x.links++w2 x.size++[UInt8.ofNat x.aB.length])
def M7 (x:VI) (j:Nat):List UInt8:=aoO x++((x.aB.take j).flatMap w2++List.replicate (56-2*j) 0)
theorem auN {x:VI} {j:Nat} (hj:j<=x.aB.length) (h28:x.aB.length<=28):(M7 x j).length=64:=by unfold M7 aoO;simp only[jL,kR,sM,BC,E8,qL,rT];omega
theorem auO {x:VI}:M7 x x.aB.length=viE x:=by unfold M7 aoO viE;rw[qH (iB _)];simp
theorem ai0 (x:VI):dP (dP (dP (((List.replicate 64 (0:UInt8)).set 0 (UInt8.ofNat x.kind)).set 7 (UInt8.ofNat x.aB.length)) 1 (w2 x.mode)) 3 (w2 x.links)) 5 (w2 x.size)=M7 x 0:=rfl
theorem aoP {x:VI} {j s:Nat} (hj:j<x.aB.length) (h28:x.aB.length<=28) (hs:x.aB[j]? =some s):dP (M7 x j) (8+2*j) (w2 s)=M7 x (j+1):=by
 have hl:(aoO x++(x.aB.take j).flatMap w2).length=8+2*j:=by unfold aoO;simp only[jL,kR,sM,BC,qL,rT];omega
 have e:M7 x j=(aoO x++(x.aB.take j).flatMap w2)++List.replicate (56-2*j) 0:=by unfold M7;rw[pJ]
 rw[e];unfold dP;rw[<-hl,List.take_left,sM,<-LD,GQ,List.drop_replicate];unfold M7;rw[pE,hs];simp only[Option.toList_some,YE,wU,List.flatMap_nil,yX44,pJ];rw[show 56-2*j-2=56-2*(j+1)by omega]
end Go.Proofs.YtmjomdkleikgbaaGreat
