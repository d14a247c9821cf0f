/- Parts. -/
import Derived.Test.YteihmbaimbogaaaGreatJ20
set_option linter.unusedVariables false
set_option linter.unusedSimpArgs false
set_option maxRecDepth 100000
set_option maxHeartbeats 20000000
namespace Go.Proofs.YteihmbaimbogaaaGreat
open Go.RowKit
def eO (r:Int×Int×Int):Option Int:=if r.2.2=0 then(if r.2.1<0 then some 21 else none)else some r.2.2
def rT (c:fO) (r:Int×Int×Int):Option Int:=if r.2.2=0 then(if r.2.1<0 then some 21 else if(aH c r.2.1.toNat).kind=1 then some 24 else none)else some r.2.2
theorem tV (r:Int×Int×Int):nE r=match eO r with|some k=>.panicked (gJ k)|none=>.returned (.tuple #[iV r.1,iV r.2.1]):=by unfold nE eO;exact Z44
theorem K3 (c:fO) (r:Int×Int×Int):OT c r=match rT c r with|some k=>.panicked (gJ k)|none=>.returned (.tuple #[iV r.1,iV r.2.1]):=by
 unfold OT rT;by_cases h1:r.2.2=0
 ·rw[if_pos h1,if_pos h1];by_cases h2:r.2.1<0
  ·rw[if_pos h2,if_pos h2]
  rw[if_neg h2,if_neg h2];by_cases h3:(aH c r.2.1.toNat).kind=1
  ·rw[if_pos h3,if_pos h3]
  rw[if_neg h3,if_neg h3]
 rw[if_neg h1,if_neg h1]
theorem tX {r:Int×Int×Int} (h:eO r=none):r.2.2=0/\¬r.2.1<0:=by
 unfold eO at h;by_cases h1:r.2.2=0
 ·rw[if_pos h1]at h;by_cases h2:r.2.1<0
  ·rw[if_pos h2]at h;cases h
  exact⟨h1,h2⟩
 rw[if_neg h1]at h;cases h
theorem K4 {c:fO} {r:Int×Int×Int} (h:rT c r=none):r.2.2=0/\¬r.2.1<0/\¬(aH c r.2.1.toNat).kind=1:=by
 unfold rT at h;by_cases h1:r.2.2=0
 ·rw[if_pos h1]at h;by_cases h2:r.2.1<0
  ·rw[if_pos h2]at h;cases h
  rw[if_neg h2]at h;by_cases h3:(aH c r.2.1.toNat).kind=1
  ·rw[if_pos h3]at h;cases h
  exact⟨h1,h2,h3⟩
 rw[if_neg h1]at h;cases h
theorem rU {S:VS} (hV:VW S) {path:List UInt8} (h1:(bB S.cur S.data 0 0 (splitB path)).2.2=0) (h2:¬(bB S.cur S.data 0 0 (splitB path)).2.1<0):
  ∃d m:Nat,d<S.names/\m<S.names/\bB S.cur S.data 0 0 (splitB path)=((d:Int),(m:Int),0):=by
 obtain⟨⟨d,hd,e1⟩,h3⟩:=rR hV (splitB path) 0 0 hV.n0 hV.n0 h1;rcases h3 with h3|⟨m,hm,e2⟩
 ·omega
 exact⟨d,m,hd,hm,by rw[<-e1,<-e2,<-h1]⟩
theorem XL :∀args w,(callFunc 107 args).run Tryz.prog w= .ok (.enter 107 args) w:=Go.Proofs.enters_of Tryz.func107 fZ rfl
theorem TP :∀args w,(callFunc 106 args).run Tryz.prog w= .ok (.enter 106 args) w:=Go.Proofs.enters_of Tryz.func106 fZ rfl
theorem TQ :∀args w,(callFunc 103 args).run Tryz.prog w= .ok (.enter 103 args) w:=Go.Proofs.enters_of Tryz.func103 fZ rfl
theorem abQ :∀args w,(callFunc 105 args).run Tryz.prog w= .ok (.enter 105 args) w:=Go.Proofs.enters_of Tryz.func105 fZ rfl
theorem XM :∀args w,(callFunc 99 args).run Tryz.prog w= .ok (.enter 99 args) w:=Go.Proofs.enters_of Tryz.func99 fZ rfl
section
variable {w0 w:World} {R:List bK} {f q p:Nat} {S:VS} {a:VA}
def TS (S:VS) (path:List UInt8) (mode:Nat):Except Int (Option VS):=
 match eO (bB S.cur S.data 0 0 (splitB path))with
 |some k=>.error k
 |none=>.ok (some (uV S (bB S.cur S.data 0 0 (splitB path)).2.1.toNat mode))
theorem Z28 {P:Prop} (h:P:=by go_wp2_with(go_at_call 68;refine dC.mono ?_;rintro e w9 ⟨rfl,a9,eG,h9⟩;have hend:=Lh (And.intro eG h9);clear eG h9 dC);unfold oG;exact⟨rfl,rfl,_,hend.out.1,(Sep.dE [1,2,0] hend.out.2 aQ bM).drop 2⟩):P:=h
theorem Z89 {P:Prop} (h:P:=by have h1:=(h.bN 24 #[pV f]).bN 38 #[iV op,aC path,aC tz,iV mode,iV kk];rw[vO]at h1;exact h1):P:=h
theorem ao0 {vs:Value} {op kk:Int} {mode:Nat} {path tz:List UInt8} (hC:VC S a) (hV:VW S) (hb:S.D.back=[]) (hv:aU path=true) (hp:path.length<=1048576) (hmode:mode<=511) (hs:gM S)
  (hch:∀d m:Nat,m<S.names->bB S.cur S.data 0 0 (splitB path)=((d:Int),(m:Int),0)->nO S (uV S m mode)) (h:Sep w0 w (aF f q p S a::R)):
  Calls Tryz.prog 52 #[pV f,.agg #[iV op,aC path,aC tz,iV mode,iV kk],vs] w (oG f q p S (TS S path mode) w0 R):=by
 have hno:Hid (∀W bi bf,Sep w0 W (.box bi 38 #[iV op,aC path,aC tz,iV mode,iV kk]:: .box bf 24 #[pV f]::aF f q p S a::R)->W.cell? ⟨bf,0,none⟩=some (pV f)/\W.cell? ⟨bi,1,none⟩=some (aC path)/\Calls Tryz.prog 68 #[pV f,aC path] W fun e w'=>e=nE (bB S.cur S.data 0 0 (splitB path))/\∃a',VC S a'/\Sep w0 w' (aF f q p S a':: .box bi 38 #[iV op,aC path,aC tz,iV mode,iV kk]:: .box bf 24 #[pV f]::R)):=Lh fun W bi bf hW=>
  ⟨hW.bC 1 rfl 0,hW.bC 0 rfl 1,(pW hC hV hv hp (Sep.dE [2,0,1] hW aQ bM)).mono fun e w' ⟨h1,a',h2,h3⟩=>⟨h1,a',h2.ok,h3⟩⟩
 have hcg:Hid (∀d m:Nat,m<S.names->bB S.cur S.data 0 0 (splitB path)=((d:Int),(m:Int),0)->∀W bn bi bf a1,VC S a1->Sep w0 W (.box bn 3 #[iV m]::aF f q p S a1:: .box bi 38 #[iV op,aC path,aC tz,iV mode,iV kk]:: .box bf 24 #[pV f]::R)->W.cell? ⟨bf,0,none⟩=some (pV f)/\Calls Tryz.prog 65 #[pV f,.func (.func 107) #[] #[pV bf,pV bn,pV bi]] W (dL f q p S (some (uV S m mode)) w0 R)):=Lh fun d m hm hl W bn bi bf a1 lU hW=>by refine⟨hW.bC 3 rfl 0,?_⟩;have h1:Sep w0 W (aF f q p S a1:: .box bn 3 #[iV m]:: .box bi 38 #[iV op,aC path,aC tz,iV mode,iV kk]:: .box bf 24 #[pV f]::R):=hW.perm (List.Perm.swap _ _ _);(refine(qL (R':=.box bn 3 #[iV m]:: .box bi 38 #[iV op,aC path,aC tz,iV mode,iV kk]:: .box bf 24 #[pV f]::R) XL lU hb (fun S1 e=>by cases e;exact hch d m hm hl) (fun W2 X hX=>?_) h1).mono fun e w' ho=>jZ (Y:=[_,_,_]) ho);exact ajN (fun W3 Y hY=>by(have hY2:Sep w0 W3 ((Y++X)++(.box bn 3 #[iV m]:: .box bi 38 #[iV op,aC path,aC tz,iV mode,iV kk]:: .box bf 24 #[pV f]::R)):=by rw[uN];exact hY);exact⟨hY2.dO 2 rfl 0,hY2.dO 0 rfl 0,hY2.dO 1 rfl 3⟩) lU hV.vf ⟨hm,hV.few m hm,hV.lt m hm⟩ hs hmode hX
 have hln:=rU hV (path:=path);have hX0:Hid (Sep w0 ((w.alloc (.cells #[pV f] 24)).alloc (.cells #[iV op,aC path,aC tz,iV mode,iV kk] 38)) (.box (w.heap.size+1) 38 #[iV op,aC path,aC tz,iV mode,iV kk]:: .box w.heap.size 24 #[pV f]::aF f q p S a::R)):=Lh (by exact Z89);obtain⟨d0,d1,dC⟩:=hno.out _ _ _ hX0.out;obtain⟨r,hr⟩:∃r,r=bB S.cur S.data 0 0 (splitB path):=⟨_,rfl⟩;unfold TS;rw[<-hr]at dC hcg hln ⊢;clear hC hV hb hv hp hmode hs hch h hno hr hX0;rw[tV]at dC;cases hn:eO r with
 |some k=>rw[hn]at dC;clear hcg hln hn;unfold aC at*;simp only at dC;go_enter Tryz.func52,Tryz.ntmps52;exact Z28
 |none=>
  rw[hn]at dC;obtain⟨hr0,hr1⟩:=tX hn;obtain⟨d,m,hdl,GA,hre⟩:=hln hr0 hr1;have uH:=hcg.out d m GA hre;rw[hre]at dC ⊢;simp only[nA]at dC ⊢;obtain⟨rX,yE⟩:∃rX,rX=some (uV S m mode):=⟨_,rfl⟩;rw[<-yE]at uH ⊢;replace uH:=Lh uH;clear hcg hln hn hr0 hr1 hdl GA hre yE;unfold aC at*;unfold oG;go_enter Tryz.func52,Tryz.ntmps52;go_wp2_with(first |(go_at_call 68;refine dC.mono ?_;rintro e w9 ⟨rfl,a9,eG,h9⟩;obtain⟨d3,hcall⟩:=uH.out _ _ _ _ _ eG (h9.bN 3 #[iV m]);clear eG h9 dC d0 d1 uH)|(go_at_call 65;refine hcall.mono ?_;intro e w7 ho;rcases jY ho with rfl|⟨k,rfl⟩))
  ·go_end0
   exact ho
  exact⟨rfl,ho⟩
def K5 (S:VS) (path:List UInt8):Except Int (Option VS):=
 match rT S.cur (bB S.cur S.data 0 0 (splitB path))with
 |some k=>.error k
 |none=>.ok (some (qE S (bB S.cur S.data 0 0 (splitB path)).1.toNat (aM path) (bB S.cur S.data 0 0 (splitB path)).2.1.toNat))
structure TT (S:VS) (dir:Nat) (path:List UInt8) (n:Nat):Prop where
 lv:yA S dir (aM path)
 sm:nG S
 ino:o7 (dH S dir (aM path)) n
 links:1<=(aH (dH S dir (aM path)).cur n).links
 w:gM (dH S dir (aM path))
 drop:o7 ((dH S dir (aM path)).keep n {aH (dH S dir (aM path)).cur n with links:=(aH (dH S dir (aM path)).cur n).links-1}) n
 dw:gM ((dH S dir (aM path)).keep n {aH (dH S dir (aM path)).cur n with links:=(aH (dH S dir (aM path)).cur n).links-1})
 chg:nO S (qE S dir (aM path) n)
theorem Z21 {P:Prop} (h:P:=by go_wp2_with(go_at_call 71;refine dC.mono ?_;rintro e w9 ⟨rfl,a9,eG,h9⟩;have hend:=Lh (And.intro eG h9);clear eG h9 dC);unfold oG;exact⟨rfl,rfl,_,hend.out.1,(Sep.dE [1,2,0] hend.out.2 aQ bM).drop 2⟩):P:=h
theorem ajV {vs:Value} {op mode kk:Int} {path tz:List UInt8} (hC:VC S a) (hV:VW S) (hb:S.D.back=[]) (hv:aU path=true) (hp:path.length<=1048576)
  (hch:∀d m:Nat,m<S.names->bB S.cur S.data 0 0 (splitB path)=((d:Int),(m:Int),0)->¬(aH S.cur m).kind=1->TT S d path m) (h:Sep w0 w (aF f q p S a::R)):
  Calls Tryz.prog 49 #[pV f,.agg #[iV op,aC path,aC tz,iV mode,iV kk],vs] w (oG f q p S (K5 S path) w0 R):=by
 have hno:Hid (∀W bi bf,Sep w0 W (.box bi 38 #[iV op,aC path,aC tz,iV mode,iV kk]:: .box bf 24 #[pV f]::aF f q p S a::R)->W.cell? ⟨bf,0,none⟩=some (pV f)/\W.cell? ⟨bi,1,none⟩=some (aC path)/\Calls Tryz.prog 71 #[pV f,aC path] W fun e w'=>e=OT S.cur (bB S.cur S.data 0 0 (splitB path))/\∃a',VC S a'/\Sep w0 w' (aF f q p S a':: .box bi 38 #[iV op,aC path,aC tz,iV mode,iV kk]:: .box bf 24 #[pV f]::R)):=Lh fun W bi bf hW=>
  ⟨hW.bC 1 rfl 0,hW.bC 0 rfl 1,(KQ hC hV hv hp (Sep.dE [2,0,1] hW aQ bM)).mono fun e w' ⟨h1,a',h2,h3⟩=>⟨h1,a',h2.ok,h3⟩⟩
 have hcg:Hid (∀d m:Nat,m<S.names->bB S.cur S.data 0 0 (splitB path)=((d:Int),(m:Int),0)->¬(aH S.cur m).kind=1->∀W bn bd bi bf a1,VC S a1->Sep w0 W (.box bn 3 #[iV m]:: .box bd 3 #[iV d]::aF f q p S a1:: .box bi 38 #[iV op,aC path,aC tz,iV mode,iV kk]:: .box bf 24 #[pV f]::R)->W.cell? ⟨bf,0,none⟩=some (pV f)/\Calls Tryz.prog 65 #[pV f,.func (.func 106) #[] #[pV bf,pV bd,pV bi,pV bn]] W (dL f q p S (some (qE S d (aM path) m)) w0 R)):=Lh fun d m hm hl hk W bn bd bi bf a1 lU hW=>by refine⟨hW.bC 4 rfl 0,?_⟩;have h1:Sep w0 W (aF f q p S a1:: .box bn 3 #[iV m]:: .box bd 3 #[iV d]:: .box bi 38 #[iV op,aC path,aC tz,iV mode,iV kk]:: .box bf 24 #[pV f]::R):=Sep.dE [2,0,1] hW aQ bM;have ho:=hch d m hm hl hk;(refine(qL (R':=.box bn 3 #[iV m]:: .box bd 3 #[iV d]:: .box bi 38 #[iV op,aC path,aC tz,iV mode,iV kk]:: .box bf 24 #[pV f]::R) TP lU hb (fun S1 e=>by cases e;exact ho.chg) (fun W2 X hX=>?_) h1).mono fun e w' ho=>jZ (Y:=[_,_,_,_]) ho);exact afI (fun W3 Y hY=>by(have hY2:Sep w0 W3 ((Y++X)++(.box bn 3 #[iV m]:: .box bd 3 #[iV d]:: .box bi 38 #[iV op,aC path,aC tz,iV mode,iV kk]:: .box bf 24 #[pV f]::R)):=by rw[uN];exact hY);exact⟨hY2.dO 3 rfl 0,hY2.dO 1 rfl 0,hY2.dO 2 rfl 1,hY2.dO 0 rfl 0⟩) lU hV.vf hv hp ho.lv ho.sm ho.ino ho.links ho.w ho.drop ho.dw hX
 have hln:=rU hV (path:=path);have hX0:Hid (Sep w0 ((w.alloc (.cells #[pV f] 24)).alloc (.cells #[iV op,aC path,aC tz,iV mode,iV kk] 38)) (.box (w.heap.size+1) 38 #[iV op,aC path,aC tz,iV mode,iV kk]:: .box w.heap.size 24 #[pV f]::aF f q p S a::R)):=Lh (by exact Z89);obtain⟨d0,d1,dC⟩:=hno.out _ _ _ hX0.out;obtain⟨r,hr⟩:∃r,r=bB S.cur S.data 0 0 (splitB path):=⟨_,rfl⟩;unfold K5;rw[<-hr]at dC hcg hln ⊢;clear hC hV hb hv hp hch h hno hr hX0;rw[K3]at dC;cases hn:rT S.cur r with
 |some k=>rw[hn]at dC;clear hcg hln hn;unfold aC at*;simp only at dC;go_enter Tryz.func49,Tryz.ntmps49;exact Z21
 |none=>
  rw[hn]at dC;obtain⟨hr0,hr1,hr2⟩:=K4 hn;obtain⟨d,m,hdl,GA,hre⟩:=hln hr0 hr1;rw[hre]at hr2;have uH:=hcg.out d m GA hre hr2;rw[hre]at dC ⊢;simp only[nA]at dC ⊢;obtain⟨rX,yE⟩:∃rX,rX=some (qE S d (aM path) m):=⟨_,rfl⟩;rw[<-yE]at uH ⊢;replace uH:=Lh uH;clear hcg hln hn hr0 hr1 hr2 hdl GA hre yE;unfold aC at*;unfold oG;go_enter Tryz.func49,Tryz.ntmps49;go_wp2_with(first |(go_at_call 71;refine dC.mono ?_;rintro e w9 ⟨rfl,a9,eG,h9⟩;have h8:=(h9.bN 3 #[iV d]).bN 3 #[iV m];rw[vO]at h8;obtain⟨d3,hcall⟩:=uH.out _ _ _ _ _ _ eG h8;clear h8 eG h9 dC d0 d1 uH)|(go_at_call 65;refine hcall.mono ?_;intro e w7 ho;rcases jY ho with rfl|⟨k,rfl⟩))
  ·go_end0
   exact ho
  exact⟨rfl,ho⟩
def K6 (S:VS) (path bH:List UInt8):Except Int (Option VS):=
 match rT S.cur (bB S.cur S.data 0 0 (splitB path))with
 |some k=>.error k
 |none=>match gV (bB S.cur S.data 0 0 (splitB bH))with
  |some k=>.error k
  |none=>.ok (qF S (bB S.cur S.data 0 0 (splitB path)).1.toNat (aM path) (bB S.cur S.data 0 0 (splitB bH)).1.toNat (aM bH) (bB S.cur S.data 0 0 (splitB path)).2.1.toNat)
structure TU (S:VS) (d d2:Nat) (path bH:List UInt8) (n:Nat):Prop where
 lv:yA S d (aM path)
 sm:nG S
 en:qD (dH S d (aM path)) d2 n (aM bH)
 sm2:nG (dH S d (aM path))
 chg:∀S1,qF S d (aM path) d2 (aM bH) n=some S1->nO S S1
theorem Z79 {P:Prop} (h:P:=by obtain⟨r1,r2,r3⟩:=r2;simp only at hd hd3 hr0;rw[hd,hd3,hr0]):P:=h
theorem Z91 {P:Prop} (h:P:=by have h1:=(h.bN 24 #[pV f]).bN 38 #[iV op,aC path,aC bH,iV mode,iV kk];rw[vO]at h1;exact h1):P:=h
theorem ajW {vs:Value} {op mode kk:Int} {path bH:List UInt8} (hC:VC S a) (hV:VW S) (hb:S.D.back=[]) (hv:aU path=true) (hp:path.length<=1048576) (hv2:aU bH=true) (hp2:bH.length<=1048576)
  (hch:∀d m d2:Nat,m<S.names->bB S.cur S.data 0 0 (splitB path)=((d:Int),(m:Int),0)->¬(aH S.cur m).kind=1->(bB S.cur S.data 0 0 (splitB bH))=((d2:Int), -1,0)->TU S d d2 path bH m) (h:Sep w0 w (aF f q p S a::R)):
  Calls Tryz.prog 47 #[pV f,.agg #[iV op,aC path,aC bH,iV mode,iV kk],vs] w (oG f q p S (K6 S path bH) w0 R):=by
 have hno:Hid (∀W bi bf,Sep w0 W (.box bi 38 #[iV op,aC path,aC bH,iV mode,iV kk]:: .box bf 24 #[pV f]::aF f q p S a::R)->W.cell? ⟨bf,0,none⟩=some (pV f)/\W.cell? ⟨bi,1,none⟩=some (aC path)/\Calls Tryz.prog 71 #[pV f,aC path] W fun e w'=>e=OT S.cur (bB S.cur S.data 0 0 (splitB path))/\∃a',VC S a'/\Sep w0 w' (aF f q p S a':: .box bi 38 #[iV op,aC path,aC bH,iV mode,iV kk]:: .box bf 24 #[pV f]::R)):=Lh fun W bi bf hW=>
  ⟨hW.bC 1 rfl 0,hW.bC 0 rfl 1,(KQ hC hV hv hp (Sep.dE [2,0,1] hW aQ bM)).mono fun e w' ⟨h1,a',h2,h3⟩=>⟨h1,a',h2.ok,h3⟩⟩
 have hnt:Hid (∀W (d m:Nat) bn bd bi bf a1,VC S a1->Sep w0 W (.box bn 3 #[iV m]:: .box bd 3 #[iV d]::aF f q p S a1:: .box bi 38 #[iV op,aC path,aC bH,iV mode,iV kk]:: .box bf 24 #[pV f]::R)->W.cell? ⟨bf,0,none⟩=some (pV f)/\W.cell? ⟨bi,2,none⟩=some (aC bH)/\Calls Tryz.prog 98 #[pV f,aC bH] W fun e w'=>e=rQ (bB S.cur S.data 0 0 (splitB bH))/\∃a',VC S a'/\Sep w0 w' (.box bn 3 #[iV m]:: .box bd 3 #[iV d]::aF f q p S a':: .box bi 38 #[iV op,aC path,aC bH,iV mode,iV kk]:: .box bf 24 #[pV f]::R)):=Lh fun W d m bn bd bi bf a1 lU hW=>
  ⟨hW.bC 4 rfl 0,hW.bC 3 rfl 2,(uC lU hV hv2 hp2 (Sep.dE [2,0,1,3,4] hW aQ bM)).mono fun e w' ⟨h1,a',h2,h3⟩=>⟨h1,a',h2.ok,Sep.dE [1,2,0,3,4] h3 aQ bM⟩⟩
 have hcg:Hid (∀d m d2:Nat,m<S.names->bB S.cur S.data 0 0 (splitB path)=((d:Int),(m:Int),0)->¬(aH S.cur m).kind=1->(bB S.cur S.data 0 0 (splitB bH))=((d2:Int), -1,0)->∀W bt bn bd bi bf a1,VC S a1->Sep w0 W (.box bt 3 #[iV d2]:: .box bn 3 #[iV m]:: .box bd 3 #[iV d]::aF f q p S a1:: .box bi 38 #[iV op,aC path,aC bH,iV mode,iV kk]:: .box bf 24 #[pV f]::R)->W.cell? ⟨bf,0,none⟩=some (pV f)/\Calls Tryz.prog 65 #[pV f,.func (.func 103) #[] #[pV bf,pV bd,pV bi,pV bt,pV bn]] W (dL f q p S (qF S d (aM path) d2 (aM bH) m) w0 R)):=Lh fun d m d2 hm hl hk hl2 W bt bn bd bi bf a1 lU hW=>by refine⟨hW.bC 5 rfl 0,?_⟩;have h1:Sep w0 W (aF f q p S a1:: .box bt 3 #[iV d2]:: .box bn 3 #[iV m]:: .box bd 3 #[iV d]:: .box bi 38 #[iV op,aC path,aC bH,iV mode,iV kk]:: .box bf 24 #[pV f]::R):=Sep.dE [3,0,1,2] hW aQ bM;have ho:=hch d m d2 hm hl hk hl2;(refine(qL (R':=.box bt 3 #[iV d2]:: .box bn 3 #[iV m]:: .box bd 3 #[iV d]:: .box bi 38 #[iV op,aC path,aC bH,iV mode,iV kk]:: .box bf 24 #[pV f]::R) TQ lU hb (fun S1 e=>ho.chg S1 e) (fun W2 X hX=>?_) h1).mono fun e w' ho=>jZ (Y:=[_,_,_,_,_]) ho);exact afH (fun W3 Y hY=>by(have hY2:Sep w0 W3 ((Y++X)++(.box bt 3 #[iV d2]:: .box bn 3 #[iV m]:: .box bd 3 #[iV d]:: .box bi 38 #[iV op,aC path,aC bH,iV mode,iV kk]:: .box bf 24 #[pV f]::R)):=by rw[uN];exact hY);exact⟨hY2.dO 4 rfl 0,hY2.dO 2 rfl 0,hY2.dO 3 rfl 1,hY2.dO 3 rfl 2,hY2.dO 0 rfl 0,hY2.dO 1 rfl 0⟩) lU hV.vf hv hp hv2 hp2 ho.lv ho.sm ho.en ho.sm2 hX
 have hln:=rU hV (path:=path);have hok:=rR hV (splitB bH) 0 0 hV.n0 hV.n0;have hX0:Hid (Sep w0 ((w.alloc (.cells #[pV f] 24)).alloc (.cells #[iV op,aC path,aC bH,iV mode,iV kk] 38)) (.box (w.heap.size+1) 38 #[iV op,aC path,aC bH,iV mode,iV kk]:: .box w.heap.size 24 #[pV f]::aF f q p S a::R)):=Lh (by exact Z91);obtain⟨d0,d1,dC⟩:=hno.out _ _ _ hX0.out;obtain⟨r,hr⟩:∃r,r=bB S.cur S.data 0 0 (splitB path):=⟨_,rfl⟩;obtain⟨r2,hr2⟩:∃r,r=(bB S.cur S.data 0 0 (splitB bH)):=⟨_,rfl⟩;unfold K6;rw[<-hr]at dC hcg hln ⊢;rw[<-hr2]at hnt hcg hok ⊢;obtain⟨b1,hb1⟩:∃b,b=aM path:=⟨_,rfl⟩;obtain⟨b2,hb2⟩:∃b,b=aM bH:=⟨_,rfl⟩;rw[<-hb2]at hcg ⊢;rw[<-hb1]at hcg ⊢;clear hC hV hb hv hp hv2 hp2 hch h hno hr hr2 hX0 hb1 hb2;rw[K3]at dC;cases hn:rT S.cur r with
 |some k=>rw[hn]at dC;clear hcg hln hn hnt hok;unfold aC at*;simp only at dC;go_enter Tryz.func47,Tryz.ntmps47;exact Z21
 |none=>
  rw[hn]at dC;obtain⟨hr0,hr1,hr3⟩:=K4 hn;obtain⟨d,m,hdl,GA,hre⟩:=hln hr0 hr1;rw[hre]at hr3;(have uH:=fun d2=>hcg.out d m d2 GA hre hr3);(have rV:=fun W=>hnt.out W d m);rw[hre]at dC ⊢;simp only[nA]at dC ⊢;clear hcg hln hn hr0 hr1 hr3 hdl GA hre hnt;rw[uE]at rV;cases hn2:gV r2 with
  |some k=>rw[hn2]at rV;replace rV:=Lh rV;clear uH hn2 hok;unfold aC at*;go_enter Tryz.func47,Tryz.ntmps47;go_wp2_with(first |(go_at_call 71;refine dC.mono ?_;rintro e w9 ⟨rfl,a9,eG,h9⟩;have h8:=(h9.bN 3 #[iV d]).bN 3 #[iV m];rw[vO]at h8;obtain⟨d3,d4,hcall⟩:=rV.out _ _ _ _ _ _ eG h8;clear h8 eG h9 dC d0 d1 rV)|(go_at_call 98;refine hcall.mono ?_;rintro e w8 ⟨rfl,a8,C8,h8⟩;have hend:=Lh (And.intro C8 h8);clear C8 h8 hcall));unfold oG;exact⟨rfl,rfl,_,hend.out.1,(Sep.dE [0,1,3,4,2] hend.out.2 aQ bM).drop 4⟩
  |none=>
   rw[hn2]at rV;obtain⟨hr0,hr1⟩:=uF hn2;obtain⟨⟨d2,_,hd⟩,hd2⟩:=hok hr0;have hd3:r2.2.1= -1:=by
    rcases hd2 with hd2|⟨m,_,hd2⟩
    ·exact hd2
    omega
   (have hre:r2=((d2:Int), -1,0):=by exact Z79);have PX:=uH d2 hre;rw[hre]at rV ⊢;simp only[nA]at rV ⊢;replace rV:=Lh rV;obtain⟨rX,yE⟩:∃rX,rX=qF S d b1 d2 b2 m:=⟨_,rfl⟩;rw[<-yE]at PX ⊢;clear uH hok hn2 hr0 hr1 hd hd2 hd3 hre yE;replace PX:=Lh PX;unfold aC at*;unfold oG;go_enter Tryz.func47,Tryz.ntmps47;go_wp2_with(first |(go_at_call 71;refine dC.mono ?_;rintro e w9 ⟨rfl,a9,eG,h9⟩;have h8:=(h9.bN 3 #[iV d]).bN 3 #[iV m];rw[vO]at h8;obtain⟨d3,d4,hcall⟩:=rV.out _ _ _ _ _ _ eG h8;clear h8 eG h9 dC d0 d1 rV)|(go_at_call 98;refine hcall.mono ?_;rintro e w8 ⟨rfl,a8,C8,h8⟩;obtain⟨d5,aCQ⟩:=PX.out _ _ _ _ _ _ _ C8 (h8.bN 3 #[iV d2]);clear C8 h8 hcall PX d3 d4)|(go_at_call 65;refine aCQ.mono ?_;intro e w7 ho;rcases jY ho with rfl|⟨k,rfl⟩))
   ·go_end0
    exact ho
   exact⟨rfl,ho⟩
def afR (S:VS) (path bH:List UInt8):Except Int (Option VS):=
 match rT S.cur (bB S.cur S.data 0 0 (splitB path))with
 |some k=>.error k
 |none=>match gV (bB S.cur S.data 0 0 (splitB bH))with
  |some k=>.error k
  |none=>if S.nodes<256 then .ok (CY S (bB S.cur S.data 0 0 (splitB path)).2.1.toNat (bB S.cur S.data 0 0 (splitB bH)).1.toNat (aM bH))else .error 31
structure ajX (S:VS) (d2:Nat) (bH:List UInt8) (n:Nat):Prop where
 links:(aH S.cur n).links<65535
 w:gM S
 en:qD (S.keep n {aH S.cur n with links:=(aH S.cur n).links+1}) d2 n (aM bH)
 sm2:nG (S.keep n {aH S.cur n with links:=(aH S.cur n).links+1})
 chg:∀S1,CY S n d2 (aM bH)=some S1->nO S S1
theorem atB {vs:Value} {op mode kk:Int} {path bH:List UInt8} (hC:VC S a) (hV:VW S) (hb:S.D.back=[]) (hv:aU path=true) (hp:path.length<=1048576) (hv2:aU bH=true) (hp2:bH.length<=1048576)
  (hch:∀d m d2:Nat,m<S.names->bB S.cur S.data 0 0 (splitB path)=((d:Int),(m:Int),0)->¬(aH S.cur m).kind=1->(bB S.cur S.data 0 0 (splitB bH))=((d2:Int), -1,0)->S.nodes<256->ajX S d2 bH m) (h:Sep w0 w (aF f q p S a::R)):
  Calls Tryz.prog 48 #[pV f,.agg #[iV op,aC path,aC bH,iV mode,iV kk],vs] w (oG f q p S (afR S path bH) w0 R):=by
 have hno:Hid (∀W bi bf,Sep w0 W (.box bi 38 #[iV op,aC path,aC bH,iV mode,iV kk]:: .box bf 24 #[pV f]::aF f q p S a::R)->W.cell? ⟨bf,0,none⟩=some (pV f)/\W.cell? ⟨bi,1,none⟩=some (aC path)/\Calls Tryz.prog 71 #[pV f,aC path] W fun e w'=>e=OT S.cur (bB S.cur S.data 0 0 (splitB path))/\∃a',VC S a'/\Sep w0 w' (aF f q p S a':: .box bi 38 #[iV op,aC path,aC bH,iV mode,iV kk]:: .box bf 24 #[pV f]::R)):=Lh fun W bi bf hW=>
  ⟨hW.bC 1 rfl 0,hW.bC 0 rfl 1,(KQ hC hV hv hp (Sep.dE [2,0,1] hW aQ bM)).mono fun e w' ⟨h1,a',h2,h3⟩=>⟨h1,a',h2.ok,h3⟩⟩
 have hnt:Hid (∀W (d m:Nat) bn bi bf a1,VC S a1->Sep w0 W (.box bn 3 #[iV m]::aF f q p S a1:: .box bi 38 #[iV op,aC path,aC bH,iV mode,iV kk]:: .box bf 24 #[pV f]::R)->W.cell? ⟨bf,0,none⟩=some (pV f)/\W.cell? ⟨bi,2,none⟩=some (aC bH)/\Calls Tryz.prog 98 #[pV f,aC bH] W fun e w'=>e=rQ (bB S.cur S.data 0 0 (splitB bH))/\∃a',VC S a'/\Sep w0 w' (.box bn 3 #[iV m]::aF f q p S a':: .box bi 38 #[iV op,aC path,aC bH,iV mode,iV kk]:: .box bf 24 #[pV f]::R)):=Lh fun W d m bn bi bf a1 lU hW=>
  ⟨hW.bC 3 rfl 0,hW.bC 2 rfl 2,(uC lU hV hv2 hp2 (Sep.dE [1,0,2,3] hW aQ bM)).mono fun e w' ⟨h1,a',h2,h3⟩=>⟨h1,a',h2.ok,Sep.dE [1,0,2,3] h3 aQ bM⟩⟩
 have hon:Hid (∀W d2 m bt bn bi bf a1,Sep w0 W (.box bt 3 #[iV d2]:: .box bn 3 #[iV m]::aF f q p S a1:: .box bi 38 #[iV op,aC path,aC bH,iV mode,iV kk]:: .box bf 24 #[pV f]::R)->W.cell? ⟨bf,0,none⟩=some (pV f)/\Calls Tryz.prog 62 #[pV f] W fun e w'=>e=(if S.nodes<256 then .returned (.tuple #[])else .panicked (gJ 31))/\w'=W):=Lh fun W d2 m bt bn bi bf a1 hW=>⟨hW.bC 4 rfl 0,KR (Sep.dE [2,0,1] hW aQ bM)⟩
 have hcg:Hid (∀d m d2:Nat,m<S.names->bB S.cur S.data 0 0 (splitB path)=((d:Int),(m:Int),0)->¬(aH S.cur m).kind=1->(bB S.cur S.data 0 0 (splitB bH))=((d2:Int), -1,0)->S.nodes<256->∀W bt bn bi bf a1,VC S a1->Sep w0 W (.box bt 3 #[iV d2]:: .box bn 3 #[iV m]::aF f q p S a1:: .box bi 38 #[iV op,aC path,aC bH,iV mode,iV kk]:: .box bf 24 #[pV f]::R)->W.cell? ⟨bf,0,none⟩=some (pV f)/\Calls Tryz.prog 65 #[pV f,.func (.func 105) #[] #[pV bf,pV bn,pV bt,pV bi]] W (dL f q p S (CY S m d2 (aM bH)) w0 R)):=Lh fun d m d2 hm hl hk hl2 hnn W bt bn bi bf a1 lU hW=>by refine⟨hW.bC 4 rfl 0,?_⟩;have h1:Sep w0 W (aF f q p S a1:: .box bt 3 #[iV d2]:: .box bn 3 #[iV m]:: .box bi 38 #[iV op,aC path,aC bH,iV mode,iV kk]:: .box bf 24 #[pV f]::R):=Sep.dE [2,0,1] hW aQ bM;have ho:=hch d m d2 hm hl hk hl2 hnn;(refine(qL (R':=.box bt 3 #[iV d2]:: .box bn 3 #[iV m]:: .box bi 38 #[iV op,aC path,aC bH,iV mode,iV kk]:: .box bf 24 #[pV f]::R) abQ lU hb (fun S1 e=>ho.chg S1 e) (fun W2 X hX=>?_) h1).mono fun e w' ho=>jZ (Y:=[_,_,_,_]) ho);exact aoP (fun W3 Y hY=>by(have hY2:Sep w0 W3 ((Y++X)++(.box bt 3 #[iV d2]:: .box bn 3 #[iV m]:: .box bi 38 #[iV op,aC path,aC bH,iV mode,iV kk]:: .box bf 24 #[pV f]::R)):=by rw[uN];exact hY);exact⟨hY2.dO 3 rfl 0,hY2.dO 1 rfl 0,hY2.dO 0 rfl 0,hY2.dO 2 rfl 2⟩) lU hV.vf hv2 hp2 ⟨hm,hV.few m hm,hV.lt m hm⟩ ho.links ho.w ho.en ho.sm2 hX
 have hln:=rU hV (path:=path);have hok:=rR hV (splitB bH) 0 0 hV.n0 hV.n0;have hX0:Hid (Sep w0 ((w.alloc (.cells #[pV f] 24)).alloc (.cells #[iV op,aC path,aC bH,iV mode,iV kk] 38)) (.box (w.heap.size+1) 38 #[iV op,aC path,aC bH,iV mode,iV kk]:: .box w.heap.size 24 #[pV f]::aF f q p S a::R)):=Lh (by exact Z91);obtain⟨d0,d1,dC⟩:=hno.out _ _ _ hX0.out;obtain⟨r,hr⟩:∃r,r=bB S.cur S.data 0 0 (splitB path):=⟨_,rfl⟩;obtain⟨r2,hr2⟩:∃r,r=(bB S.cur S.data 0 0 (splitB bH)):=⟨_,rfl⟩;unfold afR;rw[<-hr]at dC hcg hln ⊢;rw[<-hr2]at hnt hcg hok ⊢;obtain⟨b1,hb1⟩:∃b,b=aM path:=⟨_,rfl⟩;obtain⟨b2,hb2⟩:∃b,b=aM bH:=⟨_,rfl⟩;rw[<-hb2]at hcg ⊢;clear hC hV hb hv hp hv2 hp2 hch h hno hr hr2 hX0 hb1 hb2;rw[K3]at dC;cases hn:rT S.cur r with
 |some k=>rw[hn]at dC;clear hcg hln hn hnt hok hon;unfold aC at*;simp only at dC;go_enter Tryz.func48,Tryz.ntmps48;exact Z21
 |none=>
  rw[hn]at dC;obtain⟨hr0,hr1,hr3⟩:=K4 hn;obtain⟨d,m,hdl,GA,hre⟩:=hln hr0 hr1;rw[hre]at hr3;(have uH:=fun d2=>hcg.out d m d2 GA hre hr3);(have rV:=fun W=>hnt.out W d m);rw[hre]at dC ⊢;simp only[nA]at dC ⊢;clear hcg hln hn hr0 hr1 hr3 hdl GA hre hnt;rw[uE]at rV;cases hn2:gV r2 with
  |some k=>rw[hn2]at rV;replace rV:=Lh rV;clear uH hn2 hok hon;unfold aC at*;go_enter Tryz.func48,Tryz.ntmps48;go_wp2_with(first |(go_at_call 71;refine dC.mono ?_;rintro e w9 ⟨rfl,a9,eG,h9⟩;have h8:=h9.bN 3 #[iV m];obtain⟨d3,d4,hcall⟩:=rV.out _ _ _ _ _ eG h8;clear h8 eG h9 dC d0 d1 rV)|(go_at_call 98;refine hcall.mono ?_;rintro e w8 ⟨rfl,a8,C8,h8⟩;have hend:=Lh (And.intro C8 h8);clear C8 h8 hcall));unfold oG;exact⟨rfl,rfl,_,hend.out.1,(Sep.dE [0,2,3,1] hend.out.2 aQ bM).drop 3⟩
  |none=>
   rw[hn2]at rV;obtain⟨hr0,hr1⟩:=uF hn2;obtain⟨⟨d2,_,hd⟩,hd2⟩:=hok hr0;have hd3:r2.2.1= -1:=by
    rcases hd2 with hd2|⟨m,_,hd2⟩
    ·exact hd2
    omega
   (have hre:r2=((d2:Int), -1,0):=by exact Z79);have PX:=uH d2 hre;rw[hre]at rV ⊢;simp only[nA]at rV ⊢;replace rV:=Lh rV;obtain⟨rX,yE⟩:∃rX,rX=CY S m d2 b2:=⟨_,rfl⟩;rw[<-yE]at PX ⊢;clear uH hok hn2 hr0 hr1 hd hd2 hd3 hre yE;(have uG:=fun W=>hon.out W d2 m);by_cases hnn:S.nodes<256
   ·replace PX:=Lh (PX hnn);rw[if_pos hnn]at uG ⊢;replace uG:=Lh uG;clear hnn hon;unfold aC at*;unfold oG;go_enter Tryz.func48,Tryz.ntmps48;go_wp2_with(first |(go_at_call 71;refine dC.mono ?_;rintro e w9 ⟨rfl,a9,eG,h9⟩;have h8:=h9.bN 3 #[iV m];obtain⟨d3,d4,hcall⟩:=rV.out _ _ _ _ _ eG h8;clear h8 eG h9 dC d0 d1 rV)|(go_at_call 98;refine hcall.mono ?_;rintro e w8 ⟨rfl,a8,C8,h8⟩;have h7:=h8.bN 3 #[iV d2];obtain⟨d5,aCQ⟩:=PX.out _ _ _ _ _ _ C8 h7;obtain⟨d6,TV⟩:=uG.out _ _ _ _ _ _ h7;clear C8 h8 h7 hcall PX uG d3 d4)|(go_at_call 62;refine TV.mono ?_;rintro e w7 ⟨rfl,h7⟩;obtain rfl:=h7.symm;clear TV)|(go_at_call 65;refine aCQ.mono ?_;intro e w7 ho;rcases jY ho with rfl|⟨k,rfl⟩))
    ·go_end0
     exact ho
    exact⟨rfl,ho⟩
   rw[if_neg hnn]at uG ⊢;replace uG:=Lh uG;clear hnn hon PX;unfold aC at*;go_enter Tryz.func48,Tryz.ntmps48;go_wp2_with(first |(go_at_call 71;refine dC.mono ?_;rintro e w9 ⟨rfl,a9,eG,h9⟩;have h8:=h9.bN 3 #[iV m];obtain⟨d3,d4,hcall⟩:=rV.out _ _ _ _ _ eG h8;clear h8 eG h9 dC d0 d1 rV)|(go_at_call 98;refine hcall.mono ?_;rintro e w8 ⟨rfl,a8,C8,h8⟩;have h7:=h8.bN 3 #[iV d2];obtain⟨d6,TV⟩:=uG.out _ _ _ _ _ _ h7;have hend:=Lh (And.intro C8 h7);clear C8 h8 h7 hcall uG d3 d4)|(go_at_call 62;refine TV.mono ?_;rintro e w7 ⟨rfl,h7⟩;obtain rfl:=h7.symm;clear TV));unfold oG;exact⟨rfl,rfl,_,hend.out.1,(Sep.dE [0,1,3,4,2] hend.out.2 aQ bM).drop 4⟩
theorem atC {vs:Value} {op mode kk:Int} {path tz:List UInt8} (hC:VC S a) (h:Sep w0 w (aF f q p S a::R)):
  Calls Tryz.prog 53 #[pV f,.agg #[iV op,aC path,aC tz,iV mode,iV kk],vs] w fun e w'=>e= .returned (.tuple #[])/\Sep w0 w' (aF f q p S a::R):=by
 have h0:Sep w0 (w.alloc (.cells #[iV op,aC path,aC tz,iV mode,iV kk] 38)) (aF f q p S a:: .box w.heap.size 38 #[iV op,aC path,aC tz,iV mode,iV kk]::R):=(h.bN _ _).perm (List.Perm.swap _ _ _);have c0:(w.alloc (.cells #[iV op,aC path,aC tz,iV mode,iV kk] 38)).cell? ⟨f,0,none⟩=some (pV q):=by have h1:=h0.bE;have h2:Sep w0 _ (l7 f q S a.sb (.map (some a.fb)) false::aG q p false::aN p S.D::fH a.sb a.SM::jJ a.fb a.FM:: .box w.heap.size 38 #[iV op,aC path,aC tz,iV mode,iV kk]::R):=h1;exact h2.bC 0 rfl 0
 have hsy:Calls Tryz.prog 76 #[pV q] (w.alloc (.cells #[iV op,aC path,aC tz,iV mode,iV kk] 38)) fun e w'=>e= .returned (iV 0)/\Sep w0 w' (aF f q p S a::R):=by have h1:=h0.bE;have h2:Sep w0 (w.alloc (.cells #[iV op,aC path,aC tz,iV mode,iV kk] 38)) (aG q p false::aN p S.D::l7 f q S a.sb (.map (some a.fb)) false::fH a.sb a.SM::jJ a.fb a.FM:: .box w.heap.size 38 #[iV op,aC path,aC tz,iV mode,iV kk]::R):=Sep.dE [1,2,0] h1 aQ (by simp[pK]);refine(F6 hC.pI h2).mono ?_;rintro e w' ⟨rfl,h3⟩;rw[hC.on]at h3;refine⟨by rw[hC.on];rfl,?_⟩;have h4:Sep w0 w' (.box w.heap.size 38 #[iV op,aC path,aC tz,iV mode,iV kk]::(pK f q p S a++R)):=Sep.dE [5,2,0,1,3,4] h3 aQ (by simp[pK]);exact(h4.drop 1).dG
 clear h h0 hC;unfold aC at*;go_enter Tryz.func53,Tryz.ntmps53;go_wp2_with(first |(go_at_call 76;refine hsy.mono ?_;rintro e w9 ⟨rfl,h9⟩;replace h9:=Lh h9;clear hsy)|(go_at_call 43;refine(dU _ _).mono ?_;rintro e w8 ⟨rfl,h8⟩;obtain rfl:=h8.symm))
 go_end0
 exact⟨rfl,h9.out⟩
def atD (S:VS) (path bH:List UInt8) (mode:Nat):Except Int (Option VS):=
 match rT S.cur (bB S.cur S.data 0 0 (splitB path))with
 |some k=>.error k
 |none=>match gV (bB S.cur S.data 0 0 (splitB bH))with
  |some k=>.error k
  |none=>if S.nodes<256 then .ok (lT S (⟨2,mode,1,0,[]⟩:VI) (iO S.cur S.data (aH S.cur (bB S.cur S.data 0 0 (splitB path)).2.1.toNat)) (bB S.cur S.data 0 0 (splitB bH)).1.toNat (aM bH))else .error 31
theorem XN {vs:Value} {op kk:Int} {mode:Nat} {path bH:List UInt8} (hC:VC S a) (hV:VW S) (hb:S.D.back=[]) (hv:aU path=true) (hp:path.length<=1048576) (hv2:aU bH=true) (hp2:bH.length<=1048576)
  (hch:∀d m d2:Nat,m<S.names->bB S.cur S.data 0 0 (splitB path)=((d:Int),(m:Int),0)->¬(aH S.cur m).kind=1->(bB S.cur S.data 0 0 (splitB bH))=((d2:Int), -1,0)->S.nodes<256->(aH S.cur m).size<=512*(aH S.cur m).aB.length/\wX S (⟨2,mode,1,0,[]⟩:VI) (iO S.cur S.data (aH S.cur m)) d2 bH) (h:Sep w0 w (aF f q p S a::R)):
  Calls Tryz.prog 51 #[pV f,.agg #[iV op,aC path,aC bH,iV mode,iV kk],vs] w (oG f q p S (atD S path bH mode) w0 R):=by
 have hno:Hid (∀W bi,Sep w0 W (aF f q p S a:: .box bi 38 #[iV op,aC path,aC bH,iV mode,iV kk]::R)->W.cell? ⟨bi,1,none⟩=some (aC path)/\W.cell? ⟨bi,2,none⟩=some (aC bH)/\Calls Tryz.prog 71 #[pV f,aC path] W fun e w'=>e=OT S.cur (bB S.cur S.data 0 0 (splitB path))/\∃a',VC S a'/\Sep w0 w' (aF f q p S a':: .box bi 38 #[iV op,aC path,aC bH,iV mode,iV kk]::R)):=Lh fun W bi hW=>
  ⟨hW.bC 1 rfl 1,hW.bC 1 rfl 2,(KQ hC hV hv hp hW).mono fun e w' ⟨h1,a',h2,h3⟩=>⟨h1,a',h2.ok,h3⟩⟩
 have hnt:Hid (∀W bi a1,VC S a1->Sep w0 W (aF f q p S a1:: .box bi 38 #[iV op,aC path,aC bH,iV mode,iV kk]::R)->W.cell? ⟨bi,2,none⟩=some (aC bH)/\Calls Tryz.prog 98 #[pV f,aC bH] W fun e w'=>e=rQ (bB S.cur S.data 0 0 (splitB bH))/\∃a',VC S a'/\Sep w0 w' (aF f q p S a':: .box bi 38 #[iV op,aC path,aC bH,iV mode,iV kk]::R)):=Lh fun W bi a1 lU hW=>
  ⟨hW.bC 1 rfl 2,(uC lU hV hv2 hp2 hW).mono fun e w' ⟨h1,a',h2,h3⟩=>⟨h1,a',h2.ok,h3⟩⟩
 have hon:Hid (∀W bi a1,Sep w0 W (aF f q p S a1:: .box bi 38 #[iV op,aC path,aC bH,iV mode,iV kk]::R)->Calls Tryz.prog 62 #[pV f] W fun e w'=>e=(if S.nodes<256 then .returned (.tuple #[])else .panicked (gJ 31))/\w'=W):=Lh fun W bi a1 hW=>KR hW
 have hct:Hid (∀d m d2:Nat,m<S.names->bB S.cur S.data 0 0 (splitB path)=((d:Int),(m:Int),0)->¬(aH S.cur m).kind=1->(bB S.cur S.data 0 0 (splitB bH))=((d2:Int), -1,0)->S.nodes<256->∀W bi a1,VC S a1->Sep w0 W (aF f q p S a1:: .box bi 38 #[iV op,aC path,aC bH,iV mode,iV kk]::R)->
   (W.cell? ⟨bi,2,none⟩=some (aC bH)/\W.cell? ⟨bi,3,none⟩=some (iV mode))/\Calls Tryz.prog 72 #[pV f,iV m] W fun e w'=>∃v,e= .returned v/\(w'.cell? ⟨bi,2,none⟩=some (aC bH)/\w'.cell? ⟨bi,3,none⟩=some (iV mode))/\
    Calls Tryz.prog 63 #[pV f,iV d2,aC bH,.agg #[iV 2,iV mode,iV 1,iV 0,.slice none 0 0],v] w' fun e w2=>dL f q p S (lT S (⟨2,mode,1,0,[]⟩:VI) (iO S.cur S.data (aH S.cur m)) d2 (aM bH)) w0 R e w2/\(w2.cell? ⟨bi,2,none⟩=some (aC bH)/\w2.cell? ⟨bi,3,none⟩=some (iV mode))):=Lh fun d m d2 hm hl hk hl2 hnn W bi a1 lU hW=>by
  obtain⟨hsz,hok⟩:=hch d m d2 hm hl hk hl2 hnn
  refine⟨⟨hW.bC 1 rfl 2,hW.bC 1 rfl 3⟩,(aeK lU hV.vf hm (hV.few m hm) (hV.lt m hm) hsz hW).mono ?_⟩
  rintro e w' ⟨v,a2,rfl,hR2,h2⟩
  refine⟨v,rfl,⟨h2.bC 2 rfl 2,h2.bC 2 rfl 3⟩,?_⟩
  refine(KZ (x:=(⟨2,mode,1,0,[]⟩:VI)) hR2.ok hV.vf hb hok (jB.part 0 rfl) (h2.perm (List.Perm.swap _ _ _))).mono fun e w2 ho=>?_
  obtain⟨Y,hY⟩:=ZA ho
  exact⟨jZ (Y:=[_,_]) ho,hY.dO 1 rfl 2,hY.dO 1 rfl 3⟩
 have hln:=rU hV (path:=path);have hok:=rR hV (splitB bH) 0 0 hV.n0 hV.n0;have hX0:Hid (Sep w0 (w.alloc (.cells #[iV op,aC path,aC bH,iV mode,iV kk] 38)) (aF f q p S a:: .box w.heap.size 38 #[iV op,aC path,aC bH,iV mode,iV kk]::R)):=Lh ((h.bN _ _).perm (List.Perm.swap _ _ _));obtain⟨d0,d1,dC⟩:=hno.out _ _ hX0.out;obtain⟨r,hr⟩:∃r,r=bB S.cur S.data 0 0 (splitB path):=⟨_,rfl⟩;obtain⟨r2,hr2⟩:∃r,r=(bB S.cur S.data 0 0 (splitB bH)):=⟨_,rfl⟩;unfold atD;rw[<-hr]at dC hct hln ⊢;rw[<-hr2]at hnt hct hok ⊢;obtain⟨b2,hb2⟩:∃b,b=aM bH:=⟨_,rfl⟩;rw[<-hb2]at hct ⊢;clear hC hV hb hv hp hv2 hp2 hch h hno hr hr2 hX0 hb2;rw[K3]at dC;cases hn:rT S.cur r with
 |some k=>rw[hn]at dC;clear hct hln hn hnt hok hon;unfold aC at*;simp only at dC;go_enter Tryz.func51,Tryz.ntmps51;go_wp2_with(go_at_call 71;refine dC.mono ?_;rintro e w9 ⟨rfl,a9,eG,h9⟩;have hend:=Lh (And.intro eG h9);clear eG h9 dC);exact Z19
 |none=>
  rw[hn]at dC;obtain⟨hr0,hr1,hr3⟩:=K4 hn;obtain⟨d,m,hdl,GA,hre⟩:=hln hr0 hr1;rw[hre]at hr3;(have TW:=fun d2=>hct.out d m d2 GA hre hr3);rw[hre]at dC ⊢;simp only[nA]at dC ⊢;clear hct hln hn hr0 hr1 hr3 hdl GA hre;rw[uE]at hnt;cases hn2:gV r2 with
  |some k=>rw[hn2]at hnt;clear TW hn2 hok hon;unfold aC at*;go_enter Tryz.func51,Tryz.ntmps51;go_wp2_with(first |(go_at_call 71;refine dC.mono ?_;rintro e w9 ⟨rfl,a9,eG,h9⟩;obtain⟨d4,hcall⟩:=hnt.out _ _ _ eG h9;clear eG h9 dC d0 d1 hnt)|(go_at_call 98;refine hcall.mono ?_;rintro e w8 ⟨rfl,a8,C8,h8⟩;have hend:=Lh (And.intro C8 h8);clear C8 h8 hcall));exact Z19
  |none=>
   rw[hn2]at hnt;obtain⟨hr0,hr1⟩:=uF hn2;obtain⟨⟨d2,_,hd⟩,hd2⟩:=hok hr0;have hd3:r2.2.1= -1:=by
    rcases hd2 with hd2|⟨m,_,hd2⟩
    ·exact hd2
    omega
   (have hre:r2=((d2:Int), -1,0):=by exact Z79);have ao1:=TW d2 hre;rw[hre]at hnt ⊢;simp only[nA]at hnt ⊢;obtain⟨rX,yE⟩:∃rX,rX=lT S (⟨2,mode,1,0,[]⟩:VI) (iO S.cur S.data (aH S.cur m)) d2 b2:=⟨_,rfl⟩;rw[<-yE]at ao1 ⊢;clear TW hok hn2 hr0 hr1 hd hd2 hd3 hre yE;by_cases hnn:S.nodes<256
   ·replace ao1:=Lh (ao1 hnn);rw[if_pos hnn]at hon ⊢;clear hnn;unfold aC at*;unfold oG;go_enter Tryz.func51,Tryz.ntmps51;go_wp2_with(first |(go_at_call 71;refine dC.mono ?_;rintro e w9 ⟨rfl,a9,eG,h9⟩;obtain⟨d4,hcall⟩:=hnt.out _ _ _ eG h9;clear eG h9 dC d0 d1 hnt)|(go_at_call 98;refine hcall.mono ?_;rintro e w8 ⟨rfl,a8,C8,h8⟩;obtain⟨hE,aHR⟩:=ao1.out _ _ _ C8 h8.drew;have TV:=hon.out _ _ _ h8;clear C8 h8 hcall ao1 hon d4)|(go_at_call 62;refine TV.mono ?_;rintro e w7 ⟨rfl,h7⟩;obtain rfl:=h7.symm;clear TV));refine aJ (S:=fun w'=>w'.cell? ⟨w.heap.size,2,none⟩=some (.string ⟨bH.toArray⟩)/\w'.cell? ⟨w.heap.size,3,none⟩=some (iV mode)) 14 ?_;refine aA 0 hE ?_;refine aA 1 hE ?_;refine aA 2 hE ?_;refine aA 3 hE ?_;refine aA 4 hE ?_;refine aA 5 hE ?_;refine aA 6 hE ?_;refine aA 7 hE ?_;refine aA 8 hE ?_;refine aA 9 hE ?_;refine aA 10 hE ?_;refine aA 11 hE ?_;(refine bG 12 fun K hK=>?_);go_simp;go_at_call 72;refine aHR.mono ?_;rintro e w6 ⟨v,rfl,hE6,hmd⟩;clear hE aHR;dsimp only;refine hK _ _ (fun _=>hE6) ?_;clear hK K;(try simp only[Act.put,gD]);(refine bG 13 fun K hK=>?_);go_simp;go_at_call 63;refine hmd.mono ?_;rintro e w5 ⟨ho,yB⟩;rcases jY ho with rfl|⟨k,rfl⟩
    ·dsimp only;refine hK _ _ (fun _=>yB) ?_;clear hK K;(try simp only[Act.put,gD]);refine aR fZ ?_ _
     go_end0
     exact ho
    exact⟨rfl,ho⟩
   rw[if_neg hnn]at hon ⊢;clear hnn ao1;unfold aC at*;go_enter Tryz.func51,Tryz.ntmps51;go_wp2_with(first |(go_at_call 71;refine dC.mono ?_;rintro e w9 ⟨rfl,a9,eG,h9⟩;obtain⟨d4,hcall⟩:=hnt.out _ _ _ eG h9;clear eG h9 dC d0 d1 hnt)|(go_at_call 98;refine hcall.mono ?_;rintro e w8 ⟨rfl,a8,C8,h8⟩;have TV:=hon.out _ _ _ h8;have hend:=Lh (And.intro C8 h8);clear C8 h8 hcall hon d4)|(go_at_call 62;refine TV.mono ?_;rintro e w7 ⟨rfl,h7⟩;obtain rfl:=h7.symm;clear TV));exact Z19
end
end Go.Proofs.YteihmbaimbogaaaGreat
