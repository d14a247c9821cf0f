/- Parts. -/
import Derived.Test.YtmjomdkleikgbaaGreatK7
set_option linter.unusedVariables false
set_option linter.unusedSimpArgs false
set_option maxRecDepth 100000
set_option maxHeartbeats 20000000
namespace Go.Proofs.YtmjomdkleikgbaaGreat
open Go.RowKit
theorem iX {P:Program} {md:Region.Mode} {ops:Array Oper} {Q:Exit->Act->World->Prop} {S:World->Prop} {z f:Nat} {l:Array Bool} {a:Act} {w:World} {i j:Nat} {o o2:Oper} (hr:Region.ready md ops l=[i,j]) (ho:ops[i]? =some o) (ho2:ops[j]? =some o2)
  (h:∀K':Act->World->Prop,(∀a w,(i≠z->S w)->KO P md ops Q S z f (l.setIfInBounds i true) a w->K' a w)->if Region.wanted o (yielded ops a.tmps)=true then Oper.wp P o a w K' Q else K' (a.put o.dst undef) w)
  (h2:∀K':Act->World->Prop,(∀a w,(j≠z->S w)->KO P md ops Q S z f (l.setIfInBounds j true) a w->K' a w)->if Region.wanted o2 (yielded ops a.tmps)=true then Oper.wp P o2 a w K' Q else K' (a.put o2.dst undef) w):KO P md ops Q S z (f+1) l a w:=
 ⟨fun h0=>(by rw[hr]at h0;cases h0),fun k hk=>by
  rw[hr]at hk;rcases kE.1 hk with rfl|hk
  ·exact wpOp_step ho fun K' hK=>h K' fun a w h1 h2=>hK a w ⟨h1,h2⟩
  (obtain rfl:k=j:=by simpa using hk);exact wpOp_step ho2 fun K' hK=>h2 K' fun a w h1 h2=>hK a w ⟨h1,h2⟩⟩
def aL6 (F:World->Prop) (A:Act):Exit->Act->World->Prop
 | .normal,a',w'=>a'=A/\F w'
 |_,_,_=>False
theorem ar0 {P:Program} {c:Code} {Q:Exit->Act->World->Prop} {a:Act} {w:World} (F:World->Prop) (A:Act) (h:c.wp P (aL6 F A) a w) (h2:∀w',F w'->Q .normal A w'):c.wp P Q a w:=
 c.wp_mono (fun e a' w' h=>by
  cases e with
  |normal=>obtain⟨h4,h5⟩:=h;subst h4;exact h2 w' h5
  |_=>exact h.elim) h
theorem VM {w:World} {b:Nat} {v0 v1 v2 v3 v4:Value} (h0:w.cell? ⟨b,0,none⟩=some v0) (h1:w.cell? ⟨b,1,none⟩=some v1) (h2:w.cell? ⟨b,2,none⟩=some v2) (h3:w.cell? ⟨b,3,none⟩=some v3) (h4:w.cell? ⟨b,4,none⟩=some v4):
  (loadVar 129 ⟨b,0,none⟩).run Tryz.prog w= .ok (.agg #[v0,v1,v2,v3,v4]) w:=by
 simp[loadVar,go_sem,h0,h1,h2,h3,h4]
theorem abH {fn:Func} {p:Tmp} (h:fn.results=#[.cell p 129]) {tmps:Array Value} {w:World} {b:Nat} {v0 v1 v2 v3 v4:Value} (hp:tmps.getD p undef=pV b) (h0:w.cell? ⟨b,0,none⟩=some v0) (h1:w.cell? ⟨b,1,none⟩=some v1) (h2:w.cell? ⟨b,2,none⟩=some v2) (h3:w.cell? ⟨b,3,none⟩=some v3) (h4:w.cell? ⟨b,4,none⟩=some v4):
  (results fn tmps).run Tryz.prog w= .ok (.agg #[v0,v1,v2,v3,v4]) w:=by
 have hp2:tmps[p]?.getD undef=pV b:=by simpa using hp
 simp only[results,h];simp[Result.andThen,hp2,asAddr,VM h0 h1 h2 h3 h4]
theorem eU {P:Program} {ops:Array Oper} {Q:Exit->Act->World->Prop} {S:World->Prop} {id:Nat} {a:Act} {w:World} (z:Nat) (hm:P.follows .mixedOrders=true)
  (h:∀wq,wq=w.drew->KO P .any ops Q S z ops.size (Array.replicate ops.size false) a wq):(Code.region id ops true).wp P Q a w:=
 sJ z hm (h _ rfl)
def eB (l:List Nat):List Int:=l.map Int.ofNat
theorem BytesAt.sub {w:World} {ad:Addr} {L c:Nat} {bs:List UInt8} (h:BytesAt w (.slice (some ad) L c) bs) {o m:Nat} (hm:o+m<=bs.length):BytesAt w (.slice (some (ad.add o)) m (c-o)) ((bs.drop o).take m):=by
 obtain⟨h0,A,c',e,h1,h2,h3⟩:=h;simp only[Value.slice.injEq]at e;obtain⟨rfl,rfl,rfl⟩:=e;have hl:((bs.drop o).take m).length=m:=by rw[qP,rZ];omega
 refine⟨by rw[hl,iJ,hl,zM],_,_,by rw[hl],by omega,by omega,fun hn=>?_⟩;obtain⟨ad',e',hb,hc⟩:=h3 aD;cases e';refine⟨_,rfl,by rw[UT];exact hb,fun j u hj=>?_⟩;rw[lC,vV]at hj;split at hj
 ·rw[AV]at hj;have:=hc (o+j) u (by rw[lC];exact hj);rw[<-this,Addr.add_add]
 cases hj
section
variable {w0 w:World} {R:List aW} {f q p:Nat} {S:VS} {a:VA}
theorem jQ {n:Nat} (hC:VC S a) (hF:VF S) (hn:n<S.names) (hok:(aH S.cur n).aB.length<=28) (h:Sep w0 w (aF f q p S a::R)):
  Calls Tryz.prog 72 #[pV f,iV n] w fun e w'=>∃v a',e= .returned (fM (aH S.cur n) v)/\Reads S a a'/\Sep w0 w' (aS v (eB (aH S.cur n).aB)::aF f q p S a'::R):=by
 have KV:=hF.names;have hbk:2+n/8<S.nb-96:=by have:=hF.room;unfold VS.data at this;omega
 have h0:Sep w0 (w.alloc (.cells #[iV 0,iV 0,iV 0,iV 0,.slice none 0 0] 129)) (aF f q p S a:: .box w.heap.size 129 #[iV 0,iV 0,iV 0,iV 0,.slice none 0 0]::R):=(h.bN _ _).perm (List.Perm.swap _ _ _);have hpl:=agH (n:=n) aD;have hpk:=PD hC hbk h0;have hlen:=hC.avB hbk;obtain⟨o,ho⟩:∃o,o=n%8*64:=⟨_,rfl⟩;obtain⟨k,hk⟩:∃k,k=2+n/8:=⟨_,rfl⟩;have ho4:o+64<=512:=by omega
 rw[<-ho,<-hk]at hpl;rw[<-hk]at hpk hlen;obtain⟨b64,hb⟩:∃b,b=((bk S.cur k).drop o).take 64:=⟨_,rfl⟩;have aG7:b64.length=64:=by rw[hb,qP,rZ];omega
 have nT:aH S.cur n=DJ b64:=by unfold aH;rw[hb,hk,ho]
 rw[nT]at hok ⊢;have hgo:∀W v a',Reads S a a'->ajP a' k v (bk S.cur k)->Sep w0 W (aF f q p S a':: .box w.heap.size 129 #[iV 0,iV 0,iV 0,iV 0,.slice none 0 0]::R)->∃ad c,v= .slice (some ad) 512 c/\((o:Int)+64<=c/\Hid (512<=c/\c<=maxLen))/\Hid (∀W' X,Sep w0 W' (X++(aF f q p S a':: .box w.heap.size 129 #[iV 0,iV 0,iV 0,iV 0,.slice none 0 0]::R))->BytesAt W' (.slice (some (ad.add o)) 64 (c-o)) b64):=fun W v a' hR hP hS=>by have ht:=ajP.tells (w0:=w0) (R:=.box w.heap.size 129 #[iV 0,iV 0,iV 0,iV 0,.slice none 0 0]::R) (f:=f) (q:=q) (p:=p) (S:=S) hP hR.ok.none;have h1:=ht W [] hS;obtain⟨_,A,c,e,h3,h4,h5⟩:=id h1;rw[hlen]at e h3;obtain⟨ad,rfl,_⟩:=h5 aD;refine⟨ad,c,e,⟨by omega,Lh ⟨h3,h4⟩⟩,Lh fun W' X hX=>?_⟩;have:=ht W' X hX;rw[e]at this;rw[hb];exact this.sub aD
 clear hb nT hlen ho hk hbk KV h h0;have b1:(o:Int)+64<=512:=by omega
 have b0:(0:Int)<=o:=by omega
 have e64:o+64-o=64:=by omega
 have hgo':=Lh hgo;have alV:=Lh aG7;have hok':=Lh hok;clear hgo ho4 aG7 hn hok hC hF;go_enter Tryz.func72,Tryz.ntmps72;go_wp2_with(first |(go_at_call 143;refine(hpl _).mono ?_;rintro e w9 ⟨rfl,h9⟩;obtain rfl:=h9.symm)|(go_at_call 144;refine hpk.mono ?_;rintro e w8 ⟨v,a',rfl,hR,hP,h8⟩;obtain⟨ad,c,rfl,⟨hc0,hc1⟩,hT⟩:=hgo'.out _ _ _ hR hP h8;replace h8:=Lh h8;clear hP hgo'));obtain⟨kd,hkd⟩:∃kd:Int,kd=((b64.getD 0 0).toNat:Nat):=⟨_,rfl⟩;have aTE:=Lh hkd;have hwk:IntKind.i64.wrap kd=kd:=IntWalk.i64_in _ (by have:=UInt8.toNat_lt (b64.getD 0 0);omega);have hX0:Hid (Sep w0 w8.drew (aF f q p S a':: .box w.heap.size 129 #[iV 0,iV 0,iV 0,iV 0,.slice none 0 0]::R)):=Lh h8.out.drew;have hcell:Hid (∀W X,Sep w0 W (X++(aF f q p S a':: .box w.heap.size 129 #[iV 0,iV 0,iV 0,iV 0,.slice none 0 0]::R))->W.cell? (ad.add o)=some (.int .u8 kd)):=Lh fun W X hW=>by rw[hkd];obtain⟨ad',e,hh⟩:=(hT.out W X hW).byte (j:=0) (by rw[alV.out];decide);cases e;rw[Addr.add_add,sF]at hh;exact hh
 have hrd:Hid (∀i:Nat,i+2<=64->∀W X,Sep w0 W (X++(aF f q p S a':: .box w.heap.size 129 #[iV 0,iV 0,iV 0,iV 0,.slice none 0 0]::R))->Calls Tryz.prog 85 #[.slice (some (ad.add o)) 64 (c-o),iV i] W fun e w'=>e= .returned (iV (r2 b64 i))/\∃n,w'=W.drewN n):=Lh fun(i:Nat) hi W X hW=>V7 (hT.out W X hW) (by rw[alV.out];exact hi) (by rw[alV.out];decide)
 have hst:Hid (∀W,Sep w0 W (.box w8.heap.size 129 #[iV 0,iV 0,iV 0,iV 0,.slice none 0 0]::aF f q p S a':: .box w.heap.size 129 #[iV 0,iV 0,iV 0,iV 0,.slice none 0 0]::R)->
   W.frozen? ⟨w8.heap.size,0,none⟩=false/\W.frozen? ⟨w8.heap.size,1,none⟩=false/\W.frozen? ⟨w8.heap.size,2,none⟩=false/\W.frozen? ⟨w8.heap.size,3,none⟩=false/\W.frozen? ⟨w8.heap.size,4,none⟩=false/\
   W.cell? ⟨w8.heap.size,0,none⟩=some (iV 0)/\W.cell? ⟨w8.heap.size,1,none⟩=some (iV 0)/\W.cell? ⟨w8.heap.size,2,none⟩=some (iV 0)/\W.cell? ⟨w8.heap.size,3,none⟩=some (iV 0)/\W.cell? ⟨w8.heap.size,4,none⟩=some (.slice none 0 0)/\
   Sep w0 (((((W.setCell ⟨w8.heap.size,0,none⟩ (.int .i64 kd)).setCell ⟨w8.heap.size,1,none⟩ (.int .i64 (r2 b64 1:Nat))).setCell ⟨w8.heap.size,2,none⟩ (.int .i64 (r2 b64 3:Nat))).setCell ⟨w8.heap.size,3,none⟩ (.int .i64 (r2 b64 5:Nat))).setCell ⟨w8.heap.size,4,none⟩ (.slice none 0 0)) (.box w8.heap.size 129 (aN (DJ b64) (.slice none 0 0))::aF f q p S a':: .box w.heap.size 129 #[iV 0,iV 0,iV 0,iV 0,.slice none 0 0]::R)):=Lh fun W hW=>by
  (have z:=fun j=>hW.bF 0 rfl j);(have y:=fun j=>hW.bC 0 rfl j);have h1:=((((hW.bS 0 rfl 0 (.int .i64 kd)).bS 0 rfl 1 (.int .i64 (r2 b64 1:Nat))).bS 0 rfl 2 (.int .i64 (r2 b64 3:Nat))).bS 0 rfl 3 (.int .i64 (r2 b64 5:Nat))).bS 0 rfl 4 (.slice none 0 0);rw[hkd]at h1 ⊢;exact⟨z 0,z 1,z 2,z 3,z 4,by rw[y 0];rfl,by rw[y 1];rfl,by rw[y 2];rfl,by rw[y 3];rfl,by rw[y 4];rfl,h1⟩
 clear hkd;simp only[e64];apply ar0 (fun wq=>Hid (Sep w0 wq (.box w8.heap.size 129 (aN (DJ b64) (.slice none 0 0))::aF f q p S a':: .box w.heap.size 129 #[iV 0,iV 0,iV 0,iV 0,.slice none 0 0]::R)))
 ·refine eU (S:=fun w'=>w'.cell? (ad.add o)=some (.int .u8 kd)) 12 fE ?_;simp only[uB,kH,qQ,Nat.reduceAdd];intro wq hwq;(have hX:Hid (Sep w0 wq (aF f q p S a':: .box w.heap.size 129 #[iV 0,iV 0,iV 0,iV 0,.slice none 0 0]::R)):=by rw[hwq];exact hX0);(have hsz:wq.heap.size=w8.heap.size:=by rw[hwq];rfl);have hc:=hcell.out _ [] hX.out;clear hwq;refine aA 0 hc ?_;refine aA 1 hc ?_;refine aA 2 hc ?_;refine aA 3 hc ?_;refine aA 4 hc ?_;refine aA 6 hc ?_;refine aA 8 hc ?_;refine iX (i:=5) (j:=11) fE rfl rfl (fun K hK=>?_) (fun K hK=>?_)
  focus
   go_simp
   go_at_call 85
   refine(hrd.out 1 aD _ [] hX.out).mono ?_
   rintro e wq ⟨rfl,nq,hwq⟩
   replace hX:=Lh (hX.out.drewN nq)
   rw[<-hwq]at hX
   replace hsz:wq.heap.size=w8.heap.size:=by rw[hwq];exact hsz
   clear hwq
   have hc:=hcell.out _ [] hX.out
   try dsimp only
   refine hK _ _ (fun _=>hc) ?_
   clear hK K
   try simp only[Act.put,gD]
   refine iX (i:=7) (j:=11) fE rfl rfl (fun K hK=>?_) (fun K hK=>?_)
   focus
    go_simp
    go_at_call 85
    refine(hrd.out 3 aD _ [] hX.out).mono ?_
    rintro e wq ⟨rfl,nq,hwq⟩
    replace hX:=Lh (hX.out.drewN nq)
    rw[<-hwq]at hX
    replace hsz:wq.heap.size=w8.heap.size:=by rw[hwq];exact hsz
    clear hwq
    have hc:=hcell.out _ [] hX.out
    try dsimp only
    refine hK _ _ (fun _=>hc) ?_
    clear hK K
    try simp only[Act.put,gD]
    refine iX (i:=9) (j:=11) fE rfl rfl (fun K hK=>?_) (fun K hK=>?_)
    focus
     go_simp
     go_at_call 85
     refine(hrd.out 5 aD _ [] hX.out).mono ?_
     rintro e wq ⟨rfl,nq,hwq⟩
     replace hX:=Lh (hX.out.drewN nq)
     rw[<-hwq]at hX
     replace hsz:wq.heap.size=w8.heap.size:=by rw[hwq];exact hsz
     clear hwq
     have hc:=hcell.out _ [] hX.out
     try dsimp only
     refine hK _ _ (fun _=>hc) ?_
     clear hK K
     try simp only[Act.put,gD]
     have hc:=hcell.out _ [] hX.out
     refine aA 10 hc ?_
     refine bI 11 fun K hK=>?_
     go_simp
     replace hX:=Lh (hX.out.bN 129 #[iV 0,iV 0,iV 0,iV 0,.slice none 0 0])
     rw[hsz]at hX
     have hc:=hcell.out _ [_] hX.out
     try dsimp only
     refine hK _ _ (fun _=>hc) ?_
     clear hK K
     try simp only[Act.put,gD]
     obtain⟨wq,hwa⟩:∃x,x=wq.alloc (.cells #[iV 0,iV 0,iV 0,iV 0,.slice none 0 0] 129):=⟨_,rfl⟩
     rw[<-hwa]at hX ⊢
     clear hwa hsz
     obtain⟨z0,z1,z2,z3,z4,y0,y1,y2,y3,y4,hfin⟩:=hst.out _ hX.out
     refine bA 12 (fun h=>absurd rfl h) ?_
     refine aQ fE ?_ _
     exact⟨rfl,Lh hfin⟩
    focus
     go_simp
     replace hX:=Lh (hX.out.bN 129 #[iV 0,iV 0,iV 0,iV 0,.slice none 0 0])
     rw[hsz]at hX
     have hc:=hcell.out _ [_] hX.out
     try dsimp only
     refine hK _ _ (fun _=>hc) ?_
     clear hK K
     try simp only[Act.put,gD]
     obtain⟨wq,hwa⟩:∃x,x=wq.alloc (.cells #[iV 0,iV 0,iV 0,iV 0,.slice none 0 0] 129):=⟨_,rfl⟩
     rw[<-hwa]at hX ⊢
     clear hwa hsz
     refine bI 9 fun K hK=>?_
     go_simp
     go_at_call 85
     refine(hrd.out 5 aD _ [_] hX.out).mono ?_
     rintro e wq ⟨rfl,nq,hwq⟩
     replace hX:=Lh (hX.out.drewN nq)
     rw[<-hwq]at hX
     clear hwq
     have hc:=hcell.out _ [_] hX.out
     try dsimp only
     refine hK _ _ (fun _=>hc) ?_
     clear hK K
     try simp only[Act.put,gD]
     have hc:=hcell.out _ [_] hX.out
     refine aA 10 hc ?_
     obtain⟨z0,z1,z2,z3,z4,y0,y1,y2,y3,y4,hfin⟩:=hst.out _ hX.out
     refine bA 12 (fun h=>absurd rfl h) ?_
     refine aQ fE ?_ _
     exact⟨rfl,Lh hfin⟩
   focus
    go_simp
    replace hX:=Lh (hX.out.bN 129 #[iV 0,iV 0,iV 0,iV 0,.slice none 0 0])
    rw[hsz]at hX
    have hc:=hcell.out _ [_] hX.out
    try dsimp only
    refine hK _ _ (fun _=>hc) ?_
    clear hK K
    try simp only[Act.put,gD]
    obtain⟨wq,hwa⟩:∃x,x=wq.alloc (.cells #[iV 0,iV 0,iV 0,iV 0,.slice none 0 0] 129):=⟨_,rfl⟩
    rw[<-hwa]at hX ⊢
    clear hwa hsz
    refine bI 7 fun K hK=>?_
    go_simp
    go_at_call 85
    refine(hrd.out 3 aD _ [_] hX.out).mono ?_
    rintro e wq ⟨rfl,nq,hwq⟩
    replace hX:=Lh (hX.out.drewN nq)
    rw[<-hwq]at hX
    clear hwq
    have hc:=hcell.out _ [_] hX.out
    try dsimp only
    refine hK _ _ (fun _=>hc) ?_
    clear hK K
    try simp only[Act.put,gD]
    refine bI 9 fun K hK=>?_
    go_simp
    go_at_call 85
    refine(hrd.out 5 aD _ [_] hX.out).mono ?_
    rintro e wq ⟨rfl,nq,hwq⟩
    replace hX:=Lh (hX.out.drewN nq)
    rw[<-hwq]at hX
    clear hwq
    have hc:=hcell.out _ [_] hX.out
    try dsimp only
    refine hK _ _ (fun _=>hc) ?_
    clear hK K
    try simp only[Act.put,gD]
    have hc:=hcell.out _ [_] hX.out
    refine aA 10 hc ?_
    obtain⟨z0,z1,z2,z3,z4,y0,y1,y2,y3,y4,hfin⟩:=hst.out _ hX.out
    refine bA 12 (fun h=>absurd rfl h) ?_
    refine aQ fE ?_ _
    exact⟨rfl,Lh hfin⟩
  focus
   go_simp
   replace hX:=Lh (hX.out.bN 129 #[iV 0,iV 0,iV 0,iV 0,.slice none 0 0])
   rw[hsz]at hX
   have hc:=hcell.out _ [_] hX.out
   try dsimp only
   refine hK _ _ (fun _=>hc) ?_
   clear hK K
   try simp only[Act.put,gD]
   obtain⟨wq,hwa⟩:∃x,x=wq.alloc (.cells #[iV 0,iV 0,iV 0,iV 0,.slice none 0 0] 129):=⟨_,rfl⟩
   rw[<-hwa]at hX ⊢
   clear hwa hsz
   refine bI 5 fun K hK=>?_
   go_simp
   go_at_call 85
   refine(hrd.out 1 aD _ [_] hX.out).mono ?_
   rintro e wq ⟨rfl,nq,hwq⟩
   replace hX:=Lh (hX.out.drewN nq)
   rw[<-hwq]at hX
   clear hwq
   have hc:=hcell.out _ [_] hX.out
   try dsimp only
   refine hK _ _ (fun _=>hc) ?_
   clear hK K
   try simp only[Act.put,gD]
   refine bI 7 fun K hK=>?_
   go_simp
   go_at_call 85
   refine(hrd.out 3 aD _ [_] hX.out).mono ?_
   rintro e wq ⟨rfl,nq,hwq⟩
   replace hX:=Lh (hX.out.drewN nq)
   rw[<-hwq]at hX
   clear hwq
   have hc:=hcell.out _ [_] hX.out
   try dsimp only
   refine hK _ _ (fun _=>hc) ?_
   clear hK K
   try simp only[Act.put,gD]
   refine bI 9 fun K hK=>?_
   go_simp
   go_at_call 85
   refine(hrd.out 5 aD _ [_] hX.out).mono ?_
   rintro e wq ⟨rfl,nq,hwq⟩
   replace hX:=Lh (hX.out.drewN nq)
   rw[<-hwq]at hX
   clear hwq
   have hc:=hcell.out _ [_] hX.out
   try dsimp only
   refine hK _ _ (fun _=>hc) ?_
   clear hK K
   try simp only[Act.put,gD]
   have hc:=hcell.out _ [_] hX.out
   refine aA 10 hc ?_
   obtain⟨z0,z1,z2,z3,z4,y0,y1,y2,y3,y4,hfin⟩:=hst.out _ hX.out
   refine bA 12 (fun h=>absurd rfl h) ?_
   refine aQ fE ?_ _
   exact⟨rfl,Lh hfin⟩
 intro wq hX;obtain⟨nk,hnk⟩:∃nk:Nat,nk=(b64.getD 7 0).toNat:=⟨_,rfl⟩;have hsl:(DJ b64).aB.length=nk:=by rw[hnk];unfold DJ;simp
 have aPP:nk<=28:=by rw[<-hsl];exact hok'.out
 have c7:wq.cell? {block:=(ad.add o).block,off:=(ad.add o).off+7}=some (.int .u8 (nk:Nat)):=by obtain⟨ad',e,hh⟩:=(hT.out wq [_] hX.out).byte (j:=7) (by rw[alV.out];decide);cases e;rw[hnk];exact hh
 have hwn:IntKind.i64.wrap (nk:Int)=nk:=IntWalk.i64_in _ aD;have hsp:∀k,k<nk->(DJ b64).aB[k]? =some (r2 b64 (8+2*k)):=fun k hk=>by unfold DJ;rw[lC,VN (by rw[<-hnk];exact hk)];rfl
 have al0:=Lh hsp;have aG8:=Lh hsl;obtain⟨k0,pR,hk0,hk1,hk2⟩:=iR (show(Tryz.prog.info? 3).map (fun i=>(i.zero,i.size,i.bytes))=some (some (iV 0),1,8)from TV);clear hsp hsl hnk hst hX0;go_wp2_with fail;go_loopw[39] (fun i wr=>∃k:Nat,k<=nk/\i=iV k/\Hid (∃u,Sep w0 wr (aS u (eB ((DJ b64).aB.take k)):: .box w8.heap.size 129 (aN (DJ b64) u)::aF f q p S a':: .box w.heap.size 129 #[iV 0,iV 0,iV 0,iV 0,.slice none 0 0]::R))) (fun i _=>nk-(intOf i).toNat)
 case atStart=>exact⟨0,fZ _,rfl,Lh ⟨.slice none 0 0,by have:=hX.out.gZ 3 1;exact this⟩⟩
 obtain⟨k,hk,rfl,hS⟩:=hrel;by_cases hlt:k<nk
 ·obtain⟨u,hS⟩:=hS.out;(have hll:(eB ((DJ b64).aB.take k)).length=k:=by unfold eB;rw[iJ,qP,aG8.out];omega);(have c4:wr.drew.cell? ⟨w8.heap.size,4,none⟩=some u:=by have:=hS.drew.bC 1 rfl 4;rw[this];rfl);(have q1:(k:Int)<nk:=by omega);(have q0:(0:Int)<=k:=by omega);(have q2:(nk:Int)<=28:=by omega);have hw1:IntKind.i64.wrap (2*(k:Int))=2*k:=IntWalk.i64_in _ aD;have hw2:IntKind.i64.wrap (8+2*(k:Int))=8+2*k:=IntWalk.i64_in _ aD;have hS':=Lh hS;clear hS;go_wp2_with fail;refine eU (S:=fun w'=>w'.cell? ⟨w8.heap.size,4,none⟩=some u) 10 fE ?_;intro wq hwq;rw[<-hwq]at c4;(have hX2:Hid (Sep w0 wq (aS u (eB ((DJ b64).aB.take k)):: .box w8.heap.size 129 (aN (DJ b64) u)::aF f q p S a':: .box w.heap.size 129 #[iV 0,iV 0,iV 0,iV 0,.slice none 0 0]::R)):=by rw[hwq];exact Lh hS'.out.drew);clear hwq;simp only[uB,kH,qQ,Nat.reduceAdd];refine aA 0 c4 ?_;refine aA 1 c4 ?_;refine aA 2 c4 ?_;refine aA 3 c4 ?_;refine aA 4 c4 ?_;refine aA 5 c4 ?_;have hq:=hrd.out (8+2*k) aD _ [_,_] hX2.out;rw[show((8+2*k:Nat):Int)=8+2*(k:Int)by omega]at hq;(refine bI 6 fun K hK=>?_);go_simp;go_at_call 85;refine hq.mono ?_;rintro e wz ⟨rfl,nq,hwz⟩;have rD:=hX2.out.drewN nq;rw[<-hwz]at rD;clear hwz hq hX2 hS';(have c5:wz.cell? ⟨w8.heap.size,4,none⟩=some u:=by rw[rD.bC 1 rfl 4];rfl);dsimp only;refine hK _ _ (fun _=>c5) ?_;clear hK K;(try simp only[Act.put,gD]);have nO:=rD.alloc (.cells #[iV (r2 b64 (8+2*k):Nat)] 3);have aG9:=jP wz #[iV (r2 b64 (8+2*k):Nat)] 3;(have c6:(wz.alloc (.cells #[iV (r2 b64 (8+2*k):Nat)] 3)).cell? ⟨w8.heap.size,4,none⟩=some u:=by rw[nO.bC 1 rfl 4];rfl);refine bA 7 (fun _=>c6) ?_;have hY:Hid (Sep w0 (wz.alloc (.cells #[iV (r2 b64 (8+2*k):Nat)] 3)) (.sl 3 1 u k ((eB ((DJ b64).aB.take k)).map (.int .i64)):: .box w8.heap.size 129 (aN (DJ b64) u)::aF f q p S a':: .box w.heap.size 129 #[iV 0,iV 0,iV 0,iV 0,.slice none 0 0]::R)):=Lh (by have:=nO;unfold aS at this;rw[hll]at this;exact this);have avL:Hid (Rd (wz.alloc (.cells #[iV (r2 b64 (8+2*k):Nat)] 3)) 1 (sV wz.heap.size 1 1) 1 [.int .i64 (r2 b64 (8+2*k):Nat)]):=Lh ⟨rfl,_,_,rfl,iC _,by unfold maxLen;omega,fun _=>⟨_,rfl,by simp,aG9 _ rfl⟩⟩;(refine bI 8 fun K hK=>?_);refine jH 0 EL _ _ 127 EL 3 k0 (.int .i64 0) 1 8 Tryz.underlying127 pR hk0 hk1 hk2 rfl aR hY.out u k _ EL EL (sV wz.heap.size 1 1) 1 [.int .i64 (r2 b64 (8+2*k):Nat)] EL avL.out oCl vX aD ?_;intro v3 w3 dQ hz3;(have c7':w3.cell? ⟨w8.heap.size,4,none⟩=some u:=by rw[dQ.bC 1 rfl 4];rfl);have f7':w3.frozen? ⟨w8.heap.size,4,none⟩=false:=dQ.bF 1 rfl 4;obtain⟨A3,c3,e3⟩:=dQ.dV 0 rfl;subst e3;have jT:=dQ.bS 1 rfl 4 (.slice A3 (k+1) c3);have ZG:=Lh jT;clear dQ jT hY avL aG9 nO rD c4 c5 c6;refine hK _ _ (fun _=>c7') ?_;clear hK K;(try simp only[Act.put,gD]);refine bA 9 (fun _=>c7') ?_;refine bA 10 (fun h=>absurd rfl h) ?_;refine aQ fE ?_ _;go_wp2_with fail;refine⟨⟨k+1,by omega,rfl,Lh ⟨.slice A3 (k+1) c3,?_⟩⟩,by simp[intOf];omega⟩;(have e9:eB ((DJ b64).aB.take (k+1))=eB ((DJ b64).aB.take k)++[((r2 b64 (8+2*k):Nat):Int)]:=by unfold eB;rw[pI,al0.out k hlt,mZ];rfl);rw[e9];unfold aS;rw[jM,hll,mZ];exact ZG.out
 obtain rfl:k=nk:=by omega
 obtain⟨u,hS⟩:=hS.out;have e1:(DJ b64).aB.take k=(DJ b64).aB:=pM (by rw[aG8.out];exact iC _);rw[e1]at hS;obtain⟨A9,c9,e9⟩:=hS.dV 0 rfl;subst e9;have z:=fun j=>hS.bC 1 rfl j
 have z0:=z 0;have z1:=z 1;have z2:=z 2;have z3:=z 3;have z4:=z 4;unfold aN at z0 z1 z2 z3 z4;simp only[gA,gB,gC]at z0 z1 z2 z3 z4;have y:=fun j=>hS.bC 3 rfl j
 have y0:=y 0;have y1:=y 1;have y2:=y 2;have y3:=y 3;have y4:=y 4;simp only[gA,gB,gC]at y0 y1 y2 y3 y4;have x:=fun j=>hS.bF 3 rfl j
 have x0:=x 0;have x1:=x 1;have x2:=x 2;have x3:=x 3;have x4:=x 4;clear x y z;have hS':=Lh hS;clear hS;go_wp2_with fail;have h1:=((((hS'.out.bS 3 rfl 0 (.int .i64 (DJ b64).kind)).bS 3 rfl 1 (.int .i64 (DJ b64).mode)).bS 3 rfl 2 (.int .i64 (DJ b64).links)).bS 3 rfl 3 (.int .i64 (DJ b64).size)).bS 3 rfl 4 (.slice A9 (eB (DJ b64).aB).length c9);have z:=fun j=>h1.bC 3 rfl j
 refine bodyPost_ret (abH (fn:=Tryz.f72) rfl rfl (z 0) (z 1) (z 2) (z 3) (z 4)) rfl ?_;refine⟨.slice A9 (eB (DJ b64).aB).length c9,a',rfl,hR,?_⟩;exact(Sep.dB [1,3,0,2] h1 aR bK).drop 2
end
def VS.qW (S:VS) (b i:Int):VS:= {S with wB:=b,wI:=i}
section
variable {w0 w w':World} {R:List aW} {f q p:Nat} {S:VS} {a:VA}
theorem DL.pure {k:Nat} {v:Value} (h:DL f q p S a k v w0 w R) (hb:Below w.heap.size w w'):DL f q p S a k v w0 w' R:=by
 rcases h with⟨h1,h2⟩|⟨h1,h2⟩
 ·exact .inl ⟨h1,h2.pure hb⟩
 exact .inr ⟨h1,h2.pure hb⟩
theorem DL.drew {k:Nat} {v:Value} (h:DL f q p S a k v w0 w R):DL f q p S a k v w0 w.drew R:=by
 rcases h with⟨h1,h2⟩|⟨h1,h2⟩
 ·exact .inl ⟨h1,h2.drew⟩
 exact .inr ⟨h1,h2.drew⟩
theorem DL.drop {k:Nat} {v:Value} {A:aW} (h:DL f q p S a k v w0 w (A::R)):DL f q p S a k v w0 w R:=by
 rcases h with⟨h1,h2⟩|⟨h1,h2⟩
 ·exact .inl ⟨h1,(Sep.dB [1,0] h2 aR bK).drop 1⟩
 exact .inr ⟨h1,(Sep.dB [2,0,1] h2 aR bK).drop 1⟩
theorem VC.qW (h:VC S a) (b i:Int):VC (S.qW b i) a:=⟨h.nV,h.big,h.on,h.cur,h.seen,h.fresh,h.rest,h.few,h.none⟩
theorem Sep.YY (h:Sep w0 w (aF f q p S a::R)) (b i:Int):Sep w0 (w.setCell ⟨f,5,none⟩ (iW b i)) (aF f q p (S.qW b i) a::R):=by have h1:=h.bG.bS 0 rfl 5 (iW b i);have h2:Sep w0 (w.setCell ⟨f,5,none⟩ (iW b i)) (pU f q p (S.qW b i) a++R):=h1;exact h2.dC
theorem DL.qW {k:Nat} {v:Value} (h:DL f q p S a k v w0 w R) (b i:Int):DL f q p (S.qW b i) a k v w0 (w.setCell ⟨f,5,none⟩ (iW b i)) R:=by
 rcases h with⟨h1,h2⟩|⟨h1,h2⟩
 ·exact .inl ⟨h1,h2.YY b i⟩
 exact .inr ⟨h1,h2.YY b i⟩
theorem DL.frozen {k:Nat} {v:Value} (h:DL f q p S a k v w0 w R) (j:Nat):w.frozen? ⟨f,j,none⟩=false:=by
 rcases h with⟨_,h⟩|⟨_,h⟩
 ·exact h.bG.bF 0 rfl j
 exact h.bG.bF 0 rfl j
theorem DL.rest {k:Nat} {v:Value} (h:DL f q p S a k v w0 w R):Sep w0 w R:=by
 rcases h with⟨_,h⟩|⟨_,h⟩
 ·exact h.drop 1
 exact h.drop 2
theorem apF {n k:Nat} {v:Value} (hC:VC S a) (hF:VF S) (hn:n<S.names) (hok:(aH S.cur n).aB.length<=28) (h:DL f q p S a k v w0 w R):
  Calls Tryz.prog 72 #[pV f,iV n] w fun e w'=>∃u a',e= .returned (fM (aH S.cur n) u)/\Reads S a a'/\DL f q p S a' k v w0 w' (aS u (eB (aH S.cur n).aB)::R):=by
 rcases h with⟨h1,h2⟩|⟨h1,h2⟩
 ·refine(jQ hC hF hn hok h2).mono ?_;rintro e w' ⟨u,a',rfl,hR,h9⟩;exact⟨u,a',rfl,hR,.inl ⟨by rw[hR.FM];exact h1,h9.perm (List.Perm.swap _ _ _)⟩⟩
 refine(jQ hC hF hn hok h2).mono ?_;rintro e w' ⟨u,a',rfl,hR,h9⟩;exact⟨u,a',rfl,hR,.inr ⟨by rw[hR.FM];exact h1,Sep.dB [1,2,0] h9 aR bK⟩⟩
structure gK (S:VS):Prop where
 b0: -1000000<=S.wB
 b1:S.wB<=1000000
 i0: -1000000<=S.wI
 i1:S.wI<=1000000
def VS.keep (S:VS) (n:Nat) (x:VI):VS:=
 {S with cur:=vC S.cur n x,wB:=S.wB-eO (aH S.cur n).kind (aH S.cur n).size+eO x.kind x.size,wI:=S.wI-nS (aH S.cur n).kind+nS x.kind,m:=S.m+1}
theorem VF.keep {n:Nat} {x:VI} (h:VF S):VF (S.keep n x):=⟨h.names,h.room⟩
end
theorem xN {b ys zs:List UInt8} {o i:Nat} (ho:o<=b.length) (h:i+zs.length<=ys.length):dR (dR b o ys) (o+i) zs=dR b o (dR ys i zs):=by
 unfold dR;have e1:(b.take o).length=o:=by rw[qP];omega
 have t:(b.take o++ys++b.drop (o+ys.length)).take (o+i)=b.take o++ys.take i:=by rw[pG,List.take_append,e1,pM aD,J2,List.take_append_of_le_length aD]
 have d:(b.take o++ys++b.drop (o+ys.length)).drop (o+i+zs.length)=ys.drop (i+zs.length)++b.drop (o+ys.length):=by rw[pG,List.drop_append,e1,abQ aD,mI,show o+i+zs.length-o=i+zs.length by omega,apS aD]
 rw[t,d];have e2:(ys.take i++zs++ys.drop (i+zs.length)).length=ys.length:=by simp only[jM,qP,rZ];omega
 rw[e2];simp only[pG]
theorem HV {b:List UInt8} {i:Nat} (h:i<b.length) (v:UInt8):b.set i v=dR b i [v]:=by have:=EG (b:=b) (i:=i) (xs:=[]) (y:=v) E8;simpa[dR]using this
def apG (x:VI):List UInt8:=UInt8.ofNat x.kind::(w2 x.mode++w2 x.links++w2 x.size++[UInt8.ofNat x.aB.length])
def NN (x:VI) (j:Nat):List UInt8:=apG x++((x.aB.take j).flatMap w2++List.replicate (56-2*j) 0)
theorem avM {x:VI} {j:Nat} (hj:j<=x.aB.length) (h28:x.aB.length<=28):(NN x j).length=64:=by unfold NN apG;simp only[jM,kH,sQ,BQ,FL,qP,qQ];omega
theorem avN {x:VI}:NN x x.aB.length=viE x:=by unfold NN apG viE;rw[pM (iC _)];simp
theorem ajR (x:VI):dR (dR (dR (((List.replicate 64 (0:UInt8)).set 0 (UInt8.ofNat x.kind)).set 7 (UInt8.ofNat x.aB.length)) 1 (w2 x.mode)) 3 (w2 x.links)) 5 (w2 x.size)=NN x 0:=rfl
theorem apH {x:VI} {j s:Nat} (hj:j<x.aB.length) (h28:x.aB.length<=28) (hs:x.aB[j]? =some s):dR (NN x j) (8+2*j) (w2 s)=NN x (j+1):=by
 have hl:(apG x++(x.aB.take j).flatMap w2).length=8+2*j:=by unfold apG;simp only[jM,kH,sQ,BQ,qP,qQ];omega
 have e:NN x j=(apG x++(x.aB.take j).flatMap w2)++List.replicate (56-2*j) 0:=by unfold NN;rw[pG]
 rw[e];unfold dR;rw[<-hl,List.take_left,sQ,<-L6,G7,List.drop_replicate];unfold NN;rw[pI,hs];simp only[Option.toList_some,Y3,xI,List.flatMap_nil,yX46,pG];rw[show 56-2*j-2=56-2*(j+1)by omega]
end Go.Proofs.YtmjomdkleikgbaaGreat
