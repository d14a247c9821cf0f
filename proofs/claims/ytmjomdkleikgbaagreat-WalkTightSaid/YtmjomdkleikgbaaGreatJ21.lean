/- Parts. -/
import Derived.Test.YtmjomdkleikgbaaGreatJ20
set_option linter.unusedVariables false
set_option linter.unusedSimpArgs false
set_option maxRecDepth 100000
set_option maxHeartbeats 20000000
namespace Go.Proofs.YtmjomdkleikgbaaGreat
open Go.RowKit
def dU (r:Int×Int×Int):Option Int:=if r.2.2=0 then(if r.2.1<0 then some 21 else none)else some r.2.2
def nN (c:fZ) (r:Int×Int×Int):Option Int:=if r.2.2=0 then(if r.2.1<0 then some 21 else if(aG c r.2.1.toNat).kind=1 then some 24 else none)else some r.2.2
theorem rQ (r:Int×Int×Int):lS r=match dU r with|some k=>.panicked (fP k)|none=>.returned (.tuple #[iV r.1,iV r.2.1]):=by unfold lS dU;exact Z37
theorem BG (c:fZ) (r:Int×Int×Int):G9 c r=match nN c r with|some k=>.panicked (fP k)|none=>.returned (.tuple #[iV r.1,iV r.2.1]):=by
 unfold G9 nN;by_cases h1:r.2.2=0
 ·rw[if_pos h1,if_pos h1];by_cases h2:r.2.1<0
  ·rw[if_pos h2,if_pos h2]
  rw[if_neg h2,if_neg h2];by_cases h3:(aG c r.2.1.toNat).kind=1
  ·rw[if_pos h3,if_pos h3]
  rw[if_neg h3,if_neg h3]
 rw[if_neg h1,if_neg h1]
theorem rR {r:Int×Int×Int} (h:dU r=none):r.2.2=0/\¬r.2.1<0:=by
 unfold dU at h;by_cases h1:r.2.2=0
 ·rw[if_pos h1]at h;by_cases h2:r.2.1<0
  ·rw[if_pos h2]at h;cases h
  exact⟨h1,h2⟩
 rw[if_neg h1]at h;cases h
theorem BH {c:fZ} {r:Int×Int×Int} (h:nN c r=none):r.2.2=0/\¬r.2.1<0/\¬(aG c r.2.1.toNat).kind=1:=by
 unfold nN at h;by_cases h1:r.2.2=0
 ·rw[if_pos h1]at h;by_cases h2:r.2.1<0
  ·rw[if_pos h2]at h;cases h
  rw[if_neg h2]at h;by_cases h3:(aG c r.2.1.toNat).kind=1
  ·rw[if_pos h3]at h;cases h
  exact⟨h1,h2,h3⟩
 rw[if_neg h1]at h;cases h
theorem pY {S:VS} (hV:VW S) {path:List UInt8} (h1:(aS S.cur S.data 0 0 (splitB path)).2.2=0) (h2:¬(aS S.cur S.data 0 0 (splitB path)).2.1<0):
  ∃d m:Nat,d<S.names/\m<S.names/\aS S.cur S.data 0 0 (splitB path)=((d:Int),(m:Int),0):=by
 obtain⟨⟨d,hd,e1⟩,h3⟩:=rW hV (splitB path) 0 0 hV.n0 hV.n0 h1;rcases h3 with h3|⟨m,hm,e2⟩
 ·omega
 exact⟨d,m,hd,hm,by rw[<-e1,<-e2,<-h1]⟩
theorem TY :∀args w,(callFunc 129 args).run Tryz.prog w= .ok (.enter 129 args) w:=Go.Proofs.enters_of Tryz.func129 fH rfl
theorem QF :∀args w,(callFunc 127 args).run Tryz.prog w= .ok (.enter 127 args) w:=Go.Proofs.enters_of Tryz.func127 fH rfl
theorem QG :∀args w,(callFunc 124 args).run Tryz.prog w= .ok (.enter 124 args) w:=Go.Proofs.enters_of Tryz.func124 fH rfl
theorem Y6 :∀args w,(callFunc 126 args).run Tryz.prog w= .ok (.enter 126 args) w:=Go.Proofs.enters_of Tryz.func126 fH rfl
theorem TZ :∀args w,(callFunc 119 args).run Tryz.prog w= .ok (.enter 119 args) w:=Go.Proofs.enters_of Tryz.func119 fH rfl
section
variable {w0 w:World} {R:List aZ} {f q p:Nat} {S:VS} {a:VA}
def QH (S:VS) (path:List UInt8) (mode:Nat):Except Int (Option VS):=
 match dU (aS S.cur S.data 0 0 (splitB path))with
 |some k=>.error k
 |none=>.ok (some (sO S (aS S.cur S.data 0 0 (splitB path)).2.1.toNat mode))
theorem Z22 {P:Prop} (h:P:=by go_wp2_with(go_at_call 107;refine bZ.mono ?_;rintro e w9 ⟨rfl,a9,eP,h9⟩;have hend:=Lh (And.intro eP h9);clear eP h9 bZ);unfold mQ;exact⟨rfl,rfl,_,hend.out.1,(Sep.dE [1,2,0] hend.out.2 aV bL).drop 2⟩):P:=h
theorem Z73 {P:Prop} (h:P:=by have h1:=(h.bN 37 #[pV f]).bN 46 #[iV op,aC path,aC tz,iV mode,iV kk];rw[tN]at h1;exact h1):P:=h
theorem al8 {vs:Value} {op kk:Int} {mode:Nat} {path tz:List UInt8} (hC:VC S a) (hV:VW S) (hb:S.D.back=[]) (hv:aU path=true) (hp:path.length<=1048576) (hmode:mode<=511) (hs:gL S)
  (hch:∀d m:Nat,m<S.names->aS S.cur S.data 0 0 (splitB path)=((d:Int),(m:Int),0)->nU S (sO S m mode)) (h:Sep w0 w (aF f q p S a::R)):
  Calls Tryz.prog 63 #[pV f,.agg #[iV op,aC path,aC tz,iV mode,iV kk],vs] w (mQ f q p S (QH S path mode) w0 R):=by
 have hno:Hid (∀W bi bf,Sep w0 W (.box bi 46 #[iV op,aC path,aC tz,iV mode,iV kk]:: .box bf 37 #[pV f]::aF f q p S a::R)->W.cell? ⟨bf,0,none⟩=some (pV f)/\W.cell? ⟨bi,1,none⟩=some (aC path)/\Calls Tryz.prog 107 #[pV f,aC path] W fun e w'=>e=lS (aS S.cur S.data 0 0 (splitB path))/\∃a',VC S a'/\Sep w0 w' (aF f q p S a':: .box bi 46 #[iV op,aC path,aC tz,iV mode,iV kk]:: .box bf 37 #[pV f]::R)):=Lh fun W bi bf hW=>
  ⟨hW.bC 1 rfl 0,hW.bC 0 rfl 1,(nV hC hV hv hp (Sep.dE [2,0,1] hW aV bL)).mono fun e w' ⟨h1,a',h2,h3⟩=>⟨h1,a',h2.ok,h3⟩⟩
 have hcg:Hid (∀d m:Nat,m<S.names->aS S.cur S.data 0 0 (splitB path)=((d:Int),(m:Int),0)->∀W bn bi bf a1,VC S a1->Sep w0 W (.box bn 3 #[iV m]::aF f q p S a1:: .box bi 46 #[iV op,aC path,aC tz,iV mode,iV kk]:: .box bf 37 #[pV f]::R)->W.cell? ⟨bf,0,none⟩=some (pV f)/\Calls Tryz.prog 73 #[pV f,.func (.func 129) #[] #[pV bf,pV bn,pV bi]] W (dG f q p S (some (sO S m mode)) w0 R)):=Lh fun d m hm hl W bn bi bf a1 kH hW=>by refine⟨hW.bC 3 rfl 0,?_⟩;have h1:Sep w0 W (aF f q p S a1:: .box bn 3 #[iV m]:: .box bi 46 #[iV op,aC path,aC tz,iV mode,iV kk]:: .box bf 37 #[pV f]::R):=hW.perm (List.Perm.swap _ _ _);(refine(qV (R':=.box bn 3 #[iV m]:: .box bi 46 #[iV op,aC path,aC tz,iV mode,iV kk]:: .box bf 37 #[pV f]::R) TY kH hb (fun S1 e=>by cases e;exact hch d m hm hl) (fun W2 X hX=>?_) h1).mono fun e w' ho=>iZ (Y:=[_,_,_]) ho);exact agC (fun W3 Y hY=>by(have hY2:Sep w0 W3 ((Y++X)++(.box bn 3 #[iV m]:: .box bi 46 #[iV op,aC path,aC tz,iV mode,iV kk]:: .box bf 37 #[pV f]::R)):=by rw[pJ];exact hY);exact⟨hY2.dQ 2 rfl 0,hY2.dQ 0 rfl 0,hY2.dQ 1 rfl 3⟩) kH hV.vf ⟨hm,hV.few m hm,hV.lt m hm⟩ hs hmode hX
 have hln:=pY hV (path:=path);have hX0:Hid (Sep w0 ((w.alloc (.cells #[pV f] 37)).alloc (.cells #[iV op,aC path,aC tz,iV mode,iV kk] 46)) (.box (w.heap.size+1) 46 #[iV op,aC path,aC tz,iV mode,iV kk]:: .box w.heap.size 37 #[pV f]::aF f q p S a::R)):=Lh (by exact Z73);obtain⟨d0,d1,bZ⟩:=hno.out _ _ _ hX0.out;obtain⟨r,hr⟩:∃r,r=aS S.cur S.data 0 0 (splitB path):=⟨_,rfl⟩;unfold QH;rw[<-hr]at bZ hcg hln ⊢;clear hC hV hb hv hp hmode hs hch h hno hr hX0;rw[rQ]at bZ;cases hn:dU r with
 |some k=>rw[hn]at bZ;clear hcg hln hn;unfold aC at*;simp only at bZ;go_enter Tryz.func63,Tryz.ntmps63;exact Z22
 |none=>
  rw[hn]at bZ;obtain⟨hr0,hr1⟩:=rR hn;obtain⟨d,m,hdl,FK,hre⟩:=hln hr0 hr1;have sG:=hcg.out d m FK hre;rw[hre]at bZ ⊢;simp only[mW]at bZ ⊢;obtain⟨rX,wD⟩:∃rX,rX=some (sO S m mode):=⟨_,rfl⟩;rw[<-wD]at sG ⊢;replace sG:=Lh sG;clear hcg hln hn hr0 hr1 hdl FK hre wD;unfold aC at*;unfold mQ;go_enter Tryz.func63,Tryz.ntmps63;go_wp2_with(first |(go_at_call 107;refine bZ.mono ?_;rintro e w9 ⟨rfl,a9,eP,h9⟩;obtain⟨d3,hcall⟩:=sG.out _ _ _ _ _ eP (h9.bN 3 #[iV m]);clear eP h9 bZ d0 d1 sG)|(go_at_call 73;refine hcall.mono ?_;intro e w7 ho;rcases iY ho with rfl|⟨k,rfl⟩))
  ·go_end0
   exact ho
  exact⟨rfl,ho⟩
def IB (S:VS) (path:List UInt8):Except Int (Option VS):=
 match nN S.cur (aS S.cur S.data 0 0 (splitB path))with
 |some k=>.error k
 |none=>.ok (some (oG S (aS S.cur S.data 0 0 (splitB path)).1.toNat (aL path) (aS S.cur S.data 0 0 (splitB path)).2.1.toNat))
structure QI (S:VS) (dir:Nat) (path:List UInt8) (n:Nat):Prop where
 lv:vY S dir (aL path)
 sm:lT S
 ino:pW (cO S dir (aL path)) n
 links:1<=(aG (cO S dir (aL path)).cur n).links
 w:gL (cO S dir (aL path))
 drop:pW ((cO S dir (aL path)).keep n {aG (cO S dir (aL path)).cur n with links:=(aG (cO S dir (aL path)).cur n).links-1}) n
 dw:gL ((cO S dir (aL path)).keep n {aG (cO S dir (aL path)).cur n with links:=(aG (cO S dir (aL path)).cur n).links-1})
 chg:nU S (oG S dir (aL path) n)
theorem Z15 {P:Prop} (h:P:=by go_wp2_with(go_at_call 123;refine bZ.mono ?_;rintro e w9 ⟨rfl,a9,eP,h9⟩;have hend:=Lh (And.intro eP h9);clear eP h9 bZ);unfold mQ;exact⟨rfl,rfl,_,hend.out.1,(Sep.dE [1,2,0] hend.out.2 aV bL).drop 2⟩):P:=h
theorem agL {vs:Value} {op mode kk:Int} {path tz:List UInt8} (hC:VC S a) (hV:VW S) (hb:S.D.back=[]) (hv:aU path=true) (hp:path.length<=1048576)
  (hch:∀d m:Nat,m<S.names->aS S.cur S.data 0 0 (splitB path)=((d:Int),(m:Int),0)->¬(aG S.cur m).kind=1->QI S d path m) (h:Sep w0 w (aF f q p S a::R)):
  Calls Tryz.prog 60 #[pV f,.agg #[iV op,aC path,aC tz,iV mode,iV kk],vs] w (mQ f q p S (IB S path) w0 R):=by
 have hno:Hid (∀W bi bf,Sep w0 W (.box bi 46 #[iV op,aC path,aC tz,iV mode,iV kk]:: .box bf 37 #[pV f]::aF f q p S a::R)->W.cell? ⟨bf,0,none⟩=some (pV f)/\W.cell? ⟨bi,1,none⟩=some (aC path)/\Calls Tryz.prog 123 #[pV f,aC path] W fun e w'=>e=G9 S.cur (aS S.cur S.data 0 0 (splitB path))/\∃a',VC S a'/\Sep w0 w' (aF f q p S a':: .box bi 46 #[iV op,aC path,aC tz,iV mode,iV kk]:: .box bf 37 #[pV f]::R)):=Lh fun W bi bf hW=>
  ⟨hW.bC 1 rfl 0,hW.bC 0 rfl 1,(AX hC hV hv hp (Sep.dE [2,0,1] hW aV bL)).mono fun e w' ⟨h1,a',h2,h3⟩=>⟨h1,a',h2.ok,h3⟩⟩
 have hcg:Hid (∀d m:Nat,m<S.names->aS S.cur S.data 0 0 (splitB path)=((d:Int),(m:Int),0)->¬(aG S.cur m).kind=1->∀W bn bd bi bf a1,VC S a1->Sep w0 W (.box bn 3 #[iV m]:: .box bd 3 #[iV d]::aF f q p S a1:: .box bi 46 #[iV op,aC path,aC tz,iV mode,iV kk]:: .box bf 37 #[pV f]::R)->W.cell? ⟨bf,0,none⟩=some (pV f)/\Calls Tryz.prog 73 #[pV f,.func (.func 127) #[] #[pV bf,pV bd,pV bi,pV bn]] W (dG f q p S (some (oG S d (aL path) m)) w0 R)):=Lh fun d m hm hl hk W bn bd bi bf a1 kH hW=>by refine⟨hW.bC 4 rfl 0,?_⟩;have h1:Sep w0 W (aF f q p S a1:: .box bn 3 #[iV m]:: .box bd 3 #[iV d]:: .box bi 46 #[iV op,aC path,aC tz,iV mode,iV kk]:: .box bf 37 #[pV f]::R):=Sep.dE [2,0,1] hW aV bL;have ho:=hch d m hm hl hk;(refine(qV (R':=.box bn 3 #[iV m]:: .box bd 3 #[iV d]:: .box bi 46 #[iV op,aC path,aC tz,iV mode,iV kk]:: .box bf 37 #[pV f]::R) QF kH hb (fun S1 e=>by cases e;exact ho.chg) (fun W2 X hX=>?_) h1).mono fun e w' ho=>iZ (Y:=[_,_,_,_]) ho);exact acF (fun W3 Y hY=>by(have hY2:Sep w0 W3 ((Y++X)++(.box bn 3 #[iV m]:: .box bd 3 #[iV d]:: .box bi 46 #[iV op,aC path,aC tz,iV mode,iV kk]:: .box bf 37 #[pV f]::R)):=by rw[pJ];exact hY);exact⟨hY2.dQ 3 rfl 0,hY2.dQ 1 rfl 0,hY2.dQ 2 rfl 1,hY2.dQ 0 rfl 0⟩) kH hV.vf hv hp ho.lv ho.sm ho.ino ho.links ho.w ho.drop ho.dw hX
 have hln:=pY hV (path:=path);have hX0:Hid (Sep w0 ((w.alloc (.cells #[pV f] 37)).alloc (.cells #[iV op,aC path,aC tz,iV mode,iV kk] 46)) (.box (w.heap.size+1) 46 #[iV op,aC path,aC tz,iV mode,iV kk]:: .box w.heap.size 37 #[pV f]::aF f q p S a::R)):=Lh (by exact Z73);obtain⟨d0,d1,bZ⟩:=hno.out _ _ _ hX0.out;obtain⟨r,hr⟩:∃r,r=aS S.cur S.data 0 0 (splitB path):=⟨_,rfl⟩;unfold IB;rw[<-hr]at bZ hcg hln ⊢;clear hC hV hb hv hp hch h hno hr hX0;rw[BG]at bZ;cases hn:nN S.cur r with
 |some k=>rw[hn]at bZ;clear hcg hln hn;unfold aC at*;simp only at bZ;go_enter Tryz.func60,Tryz.ntmps60;exact Z15
 |none=>
  rw[hn]at bZ;obtain⟨hr0,hr1,hr2⟩:=BH hn;obtain⟨d,m,hdl,FK,hre⟩:=hln hr0 hr1;rw[hre]at hr2;have sG:=hcg.out d m FK hre hr2;rw[hre]at bZ ⊢;simp only[mW]at bZ ⊢;obtain⟨rX,wD⟩:∃rX,rX=some (oG S d (aL path) m):=⟨_,rfl⟩;rw[<-wD]at sG ⊢;replace sG:=Lh sG;clear hcg hln hn hr0 hr1 hr2 hdl FK hre wD;unfold aC at*;unfold mQ;go_enter Tryz.func60,Tryz.ntmps60;go_wp2_with(first |(go_at_call 123;refine bZ.mono ?_;rintro e w9 ⟨rfl,a9,eP,h9⟩;have h8:=(h9.bN 3 #[iV d]).bN 3 #[iV m];rw[tN]at h8;obtain⟨d3,hcall⟩:=sG.out _ _ _ _ _ _ eP h8;clear h8 eP h9 bZ d0 d1 sG)|(go_at_call 73;refine hcall.mono ?_;intro e w7 ho;rcases iY ho with rfl|⟨k,rfl⟩))
  ·go_end0
   exact ho
  exact⟨rfl,ho⟩
def IC (S:VS) (path bA:List UInt8):Except Int (Option VS):=
 match nN S.cur (aS S.cur S.data 0 0 (splitB path))with
 |some k=>.error k
 |none=>match gP (aS S.cur S.data 0 0 (splitB bA))with
  |some k=>.error k
  |none=>.ok (oH S (aS S.cur S.data 0 0 (splitB path)).1.toNat (aL path) (aS S.cur S.data 0 0 (splitB bA)).1.toNat (aL bA) (aS S.cur S.data 0 0 (splitB path)).2.1.toNat)
structure QJ (S:VS) (d d2:Nat) (path bA:List UInt8) (n:Nat):Prop where
 lv:vY S d (aL path)
 sm:lT S
 en:oF (cO S d (aL path)) d2 n (aL bA)
 sm2:lT (cO S d (aL path))
 chg:∀S1,oH S d (aL path) d2 (aL bA) n=some S1->nU S S1
theorem Z66 {P:Prop} (h:P:=by obtain⟨r1,r2,r3⟩:=r2;simp only at hd hd3 hr0;rw[hd,hd3,hr0]):P:=h
theorem Z76 {P:Prop} (h:P:=by have h1:=(h.bN 37 #[pV f]).bN 46 #[iV op,aC path,aC bA,iV mode,iV kk];rw[tN]at h1;exact h1):P:=h
theorem agM {vs:Value} {op mode kk:Int} {path bA:List UInt8} (hC:VC S a) (hV:VW S) (hb:S.D.back=[]) (hv:aU path=true) (hp:path.length<=1048576) (hv2:aU bA=true) (hp2:bA.length<=1048576)
  (hch:∀d m d2:Nat,m<S.names->aS S.cur S.data 0 0 (splitB path)=((d:Int),(m:Int),0)->¬(aG S.cur m).kind=1->(aS S.cur S.data 0 0 (splitB bA))=((d2:Int), -1,0)->QJ S d d2 path bA m) (h:Sep w0 w (aF f q p S a::R)):
  Calls Tryz.prog 58 #[pV f,.agg #[iV op,aC path,aC bA,iV mode,iV kk],vs] w (mQ f q p S (IC S path bA) w0 R):=by
 have hno:Hid (∀W bi bf,Sep w0 W (.box bi 46 #[iV op,aC path,aC bA,iV mode,iV kk]:: .box bf 37 #[pV f]::aF f q p S a::R)->W.cell? ⟨bf,0,none⟩=some (pV f)/\W.cell? ⟨bi,1,none⟩=some (aC path)/\Calls Tryz.prog 123 #[pV f,aC path] W fun e w'=>e=G9 S.cur (aS S.cur S.data 0 0 (splitB path))/\∃a',VC S a'/\Sep w0 w' (aF f q p S a':: .box bi 46 #[iV op,aC path,aC bA,iV mode,iV kk]:: .box bf 37 #[pV f]::R)):=Lh fun W bi bf hW=>
  ⟨hW.bC 1 rfl 0,hW.bC 0 rfl 1,(AX hC hV hv hp (Sep.dE [2,0,1] hW aV bL)).mono fun e w' ⟨h1,a',h2,h3⟩=>⟨h1,a',h2.ok,h3⟩⟩
 have hnt:Hid (∀W (d m:Nat) bn bd bi bf a1,VC S a1->Sep w0 W (.box bn 3 #[iV m]:: .box bd 3 #[iV d]::aF f q p S a1:: .box bi 46 #[iV op,aC path,aC bA,iV mode,iV kk]:: .box bf 37 #[pV f]::R)->W.cell? ⟨bf,0,none⟩=some (pV f)/\W.cell? ⟨bi,2,none⟩=some (aC bA)/\Calls Tryz.prog 118 #[pV f,aC bA] W fun e w'=>e=pU (aS S.cur S.data 0 0 (splitB bA))/\∃a',VC S a'/\Sep w0 w' (.box bn 3 #[iV m]:: .box bd 3 #[iV d]::aF f q p S a':: .box bi 46 #[iV op,aC path,aC bA,iV mode,iV kk]:: .box bf 37 #[pV f]::R)):=Lh fun W d m bn bd bi bf a1 kH hW=>
  ⟨hW.bC 4 rfl 0,hW.bC 3 rfl 2,(rY kH hV hv2 hp2 (Sep.dE [2,0,1,3,4] hW aV bL)).mono fun e w' ⟨h1,a',h2,h3⟩=>⟨h1,a',h2.ok,Sep.dE [1,2,0,3,4] h3 aV bL⟩⟩
 have hcg:Hid (∀d m d2:Nat,m<S.names->aS S.cur S.data 0 0 (splitB path)=((d:Int),(m:Int),0)->¬(aG S.cur m).kind=1->(aS S.cur S.data 0 0 (splitB bA))=((d2:Int), -1,0)->∀W bt bn bd bi bf a1,VC S a1->Sep w0 W (.box bt 3 #[iV d2]:: .box bn 3 #[iV m]:: .box bd 3 #[iV d]::aF f q p S a1:: .box bi 46 #[iV op,aC path,aC bA,iV mode,iV kk]:: .box bf 37 #[pV f]::R)->W.cell? ⟨bf,0,none⟩=some (pV f)/\Calls Tryz.prog 73 #[pV f,.func (.func 124) #[] #[pV bf,pV bd,pV bi,pV bt,pV bn]] W (dG f q p S (oH S d (aL path) d2 (aL bA) m) w0 R)):=Lh fun d m d2 hm hl hk hl2 W bt bn bd bi bf a1 kH hW=>by refine⟨hW.bC 5 rfl 0,?_⟩;have h1:Sep w0 W (aF f q p S a1:: .box bt 3 #[iV d2]:: .box bn 3 #[iV m]:: .box bd 3 #[iV d]:: .box bi 46 #[iV op,aC path,aC bA,iV mode,iV kk]:: .box bf 37 #[pV f]::R):=Sep.dE [3,0,1,2] hW aV bL;have ho:=hch d m d2 hm hl hk hl2;(refine(qV (R':=.box bt 3 #[iV d2]:: .box bn 3 #[iV m]:: .box bd 3 #[iV d]:: .box bi 46 #[iV op,aC path,aC bA,iV mode,iV kk]:: .box bf 37 #[pV f]::R) QG kH hb (fun S1 e=>ho.chg S1 e) (fun W2 X hX=>?_) h1).mono fun e w' ho=>iZ (Y:=[_,_,_,_,_]) ho);exact acE (fun W3 Y hY=>by(have hY2:Sep w0 W3 ((Y++X)++(.box bt 3 #[iV d2]:: .box bn 3 #[iV m]:: .box bd 3 #[iV d]:: .box bi 46 #[iV op,aC path,aC bA,iV mode,iV kk]:: .box bf 37 #[pV f]::R)):=by rw[pJ];exact hY);exact⟨hY2.dQ 4 rfl 0,hY2.dQ 2 rfl 0,hY2.dQ 3 rfl 1,hY2.dQ 3 rfl 2,hY2.dQ 0 rfl 0,hY2.dQ 1 rfl 0⟩) kH hV.vf hv hp hv2 hp2 ho.lv ho.sm ho.en ho.sm2 hX
 have hln:=pY hV (path:=path);have hok:=rW hV (splitB bA) 0 0 hV.n0 hV.n0;have hX0:Hid (Sep w0 ((w.alloc (.cells #[pV f] 37)).alloc (.cells #[iV op,aC path,aC bA,iV mode,iV kk] 46)) (.box (w.heap.size+1) 46 #[iV op,aC path,aC bA,iV mode,iV kk]:: .box w.heap.size 37 #[pV f]::aF f q p S a::R)):=Lh (by exact Z76);obtain⟨d0,d1,bZ⟩:=hno.out _ _ _ hX0.out;obtain⟨r,hr⟩:∃r,r=aS S.cur S.data 0 0 (splitB path):=⟨_,rfl⟩;obtain⟨r2,hr2⟩:∃r,r=(aS S.cur S.data 0 0 (splitB bA)):=⟨_,rfl⟩;unfold IC;rw[<-hr]at bZ hcg hln ⊢;rw[<-hr2]at hnt hcg hok ⊢;obtain⟨b1,hb1⟩:∃b,b=aL path:=⟨_,rfl⟩;obtain⟨b2,hb2⟩:∃b,b=aL bA:=⟨_,rfl⟩;rw[<-hb2]at hcg ⊢;rw[<-hb1]at hcg ⊢;clear hC hV hb hv hp hv2 hp2 hch h hno hr hr2 hX0 hb1 hb2;rw[BG]at bZ;cases hn:nN S.cur r with
 |some k=>rw[hn]at bZ;clear hcg hln hn hnt hok;unfold aC at*;simp only at bZ;go_enter Tryz.func58,Tryz.ntmps58;exact Z15
 |none=>
  rw[hn]at bZ;obtain⟨hr0,hr1,hr3⟩:=BH hn;obtain⟨d,m,hdl,FK,hre⟩:=hln hr0 hr1;rw[hre]at hr3;(have sG:=fun d2=>hcg.out d m d2 FK hre hr3);(have p8:=fun W=>hnt.out W d m);rw[hre]at bZ ⊢;simp only[mW]at bZ ⊢;clear hcg hln hn hr0 hr1 hr3 hdl FK hre hnt;rw[sD]at p8;cases hn2:gP r2 with
  |some k=>rw[hn2]at p8;replace p8:=Lh p8;clear sG hn2 hok;unfold aC at*;go_enter Tryz.func58,Tryz.ntmps58;go_wp2_with(first |(go_at_call 123;refine bZ.mono ?_;rintro e w9 ⟨rfl,a9,eP,h9⟩;have h8:=(h9.bN 3 #[iV d]).bN 3 #[iV m];rw[tN]at h8;obtain⟨d3,d4,hcall⟩:=p8.out _ _ _ _ _ _ eP h8;clear h8 eP h9 bZ d0 d1 p8)|(go_at_call 118;refine hcall.mono ?_;rintro e w8 ⟨rfl,a8,zB,h8⟩;have hend:=Lh (And.intro zB h8);clear zB h8 hcall));unfold mQ;exact⟨rfl,rfl,_,hend.out.1,(Sep.dE [0,1,3,4,2] hend.out.2 aV bL).drop 4⟩
  |none=>
   rw[hn2]at p8;obtain⟨hr0,hr1⟩:=sF hn2;obtain⟨⟨d2,_,hd⟩,hd2⟩:=hok hr0;have hd3:r2.2.1= -1:=by
    rcases hd2 with hd2|⟨m,_,hd2⟩
    ·exact hd2
    omega
   (have hre:r2=((d2:Int), -1,0):=by exact Z66);have MV:=sG d2 hre;rw[hre]at p8 ⊢;simp only[mW]at p8 ⊢;replace p8:=Lh p8;obtain⟨rX,wD⟩:∃rX,rX=oH S d b1 d2 b2 m:=⟨_,rfl⟩;rw[<-wD]at MV ⊢;clear sG hok hn2 hr0 hr1 hd hd2 hd3 hre wD;replace MV:=Lh MV;unfold aC at*;unfold mQ;go_enter Tryz.func58,Tryz.ntmps58;go_wp2_with(first |(go_at_call 123;refine bZ.mono ?_;rintro e w9 ⟨rfl,a9,eP,h9⟩;have h8:=(h9.bN 3 #[iV d]).bN 3 #[iV m];rw[tN]at h8;obtain⟨d3,d4,hcall⟩:=p8.out _ _ _ _ _ _ eP h8;clear h8 eP h9 bZ d0 d1 p8)|(go_at_call 118;refine hcall.mono ?_;rintro e w8 ⟨rfl,a8,zB,h8⟩;obtain⟨d5,azN⟩:=MV.out _ _ _ _ _ _ _ zB (h8.bN 3 #[iV d2]);clear zB h8 hcall MV d3 d4)|(go_at_call 73;refine azN.mono ?_;intro e w7 ho;rcases iY ho with rfl|⟨k,rfl⟩))
   ·go_end0
    exact ho
   exact⟨rfl,ho⟩
def acP (S:VS) (path bA:List UInt8):Except Int (Option VS):=
 match nN S.cur (aS S.cur S.data 0 0 (splitB path))with
 |some k=>.error k
 |none=>match gP (aS S.cur S.data 0 0 (splitB bA))with
  |some k=>.error k
  |none=>if S.nodes<256 then .ok (y9 S (aS S.cur S.data 0 0 (splitB path)).2.1.toNat (aS S.cur S.data 0 0 (splitB bA)).1.toNat (aL bA))else .error 31
structure agN (S:VS) (d2:Nat) (bA:List UInt8) (n:Nat):Prop where
 links:(aG S.cur n).links<65535
 w:gL S
 en:oF (S.keep n {aG S.cur n with links:=(aG S.cur n).links+1}) d2 n (aL bA)
 sm2:lT (S.keep n {aG S.cur n with links:=(aG S.cur n).links+1})
 chg:∀S1,y9 S n d2 (aL bA)=some S1->nU S S1
theorem aqB {vs:Value} {op mode kk:Int} {path bA:List UInt8} (hC:VC S a) (hV:VW S) (hb:S.D.back=[]) (hv:aU path=true) (hp:path.length<=1048576) (hv2:aU bA=true) (hp2:bA.length<=1048576)
  (hch:∀d m d2:Nat,m<S.names->aS S.cur S.data 0 0 (splitB path)=((d:Int),(m:Int),0)->¬(aG S.cur m).kind=1->(aS S.cur S.data 0 0 (splitB bA))=((d2:Int), -1,0)->S.nodes<256->agN S d2 bA m) (h:Sep w0 w (aF f q p S a::R)):
  Calls Tryz.prog 59 #[pV f,.agg #[iV op,aC path,aC bA,iV mode,iV kk],vs] w (mQ f q p S (acP S path bA) w0 R):=by
 have hno:Hid (∀W bi bf,Sep w0 W (.box bi 46 #[iV op,aC path,aC bA,iV mode,iV kk]:: .box bf 37 #[pV f]::aF f q p S a::R)->W.cell? ⟨bf,0,none⟩=some (pV f)/\W.cell? ⟨bi,1,none⟩=some (aC path)/\Calls Tryz.prog 123 #[pV f,aC path] W fun e w'=>e=G9 S.cur (aS S.cur S.data 0 0 (splitB path))/\∃a',VC S a'/\Sep w0 w' (aF f q p S a':: .box bi 46 #[iV op,aC path,aC bA,iV mode,iV kk]:: .box bf 37 #[pV f]::R)):=Lh fun W bi bf hW=>
  ⟨hW.bC 1 rfl 0,hW.bC 0 rfl 1,(AX hC hV hv hp (Sep.dE [2,0,1] hW aV bL)).mono fun e w' ⟨h1,a',h2,h3⟩=>⟨h1,a',h2.ok,h3⟩⟩
 have hnt:Hid (∀W (d m:Nat) bn bi bf a1,VC S a1->Sep w0 W (.box bn 3 #[iV m]::aF f q p S a1:: .box bi 46 #[iV op,aC path,aC bA,iV mode,iV kk]:: .box bf 37 #[pV f]::R)->W.cell? ⟨bf,0,none⟩=some (pV f)/\W.cell? ⟨bi,2,none⟩=some (aC bA)/\Calls Tryz.prog 118 #[pV f,aC bA] W fun e w'=>e=pU (aS S.cur S.data 0 0 (splitB bA))/\∃a',VC S a'/\Sep w0 w' (.box bn 3 #[iV m]::aF f q p S a':: .box bi 46 #[iV op,aC path,aC bA,iV mode,iV kk]:: .box bf 37 #[pV f]::R)):=Lh fun W d m bn bi bf a1 kH hW=>
  ⟨hW.bC 3 rfl 0,hW.bC 2 rfl 2,(rY kH hV hv2 hp2 (Sep.dE [1,0,2,3] hW aV bL)).mono fun e w' ⟨h1,a',h2,h3⟩=>⟨h1,a',h2.ok,Sep.dE [1,0,2,3] h3 aV bL⟩⟩
 have hon:Hid (∀W d2 m bt bn bi bf a1,Sep w0 W (.box bt 3 #[iV d2]:: .box bn 3 #[iV m]::aF f q p S a1:: .box bi 46 #[iV op,aC path,aC bA,iV mode,iV kk]:: .box bf 37 #[pV f]::R)->W.cell? ⟨bf,0,none⟩=some (pV f)/\Calls Tryz.prog 70 #[pV f] W fun e w'=>e=(if S.nodes<256 then .returned (.tuple #[])else .panicked (fP 31))/\w'=W):=Lh fun W d2 m bt bn bi bf a1 hW=>⟨hW.bC 4 rfl 0,ND (Sep.dE [2,0,1] hW aV bL)⟩
 have hcg:Hid (∀d m d2:Nat,m<S.names->aS S.cur S.data 0 0 (splitB path)=((d:Int),(m:Int),0)->¬(aG S.cur m).kind=1->(aS S.cur S.data 0 0 (splitB bA))=((d2:Int), -1,0)->S.nodes<256->∀W bt bn bi bf a1,VC S a1->Sep w0 W (.box bt 3 #[iV d2]:: .box bn 3 #[iV m]::aF f q p S a1:: .box bi 46 #[iV op,aC path,aC bA,iV mode,iV kk]:: .box bf 37 #[pV f]::R)->W.cell? ⟨bf,0,none⟩=some (pV f)/\Calls Tryz.prog 73 #[pV f,.func (.func 126) #[] #[pV bf,pV bn,pV bt,pV bi]] W (dG f q p S (y9 S m d2 (aL bA)) w0 R)):=Lh fun d m d2 hm hl hk hl2 hnn W bt bn bi bf a1 kH hW=>by refine⟨hW.bC 4 rfl 0,?_⟩;have h1:Sep w0 W (aF f q p S a1:: .box bt 3 #[iV d2]:: .box bn 3 #[iV m]:: .box bi 46 #[iV op,aC path,aC bA,iV mode,iV kk]:: .box bf 37 #[pV f]::R):=Sep.dE [2,0,1] hW aV bL;have ho:=hch d m d2 hm hl hk hl2 hnn;(refine(qV (R':=.box bt 3 #[iV d2]:: .box bn 3 #[iV m]:: .box bi 46 #[iV op,aC path,aC bA,iV mode,iV kk]:: .box bf 37 #[pV f]::R) Y6 kH hb (fun S1 e=>ho.chg S1 e) (fun W2 X hX=>?_) h1).mono fun e w' ho=>iZ (Y:=[_,_,_,_]) ho);exact alX (fun W3 Y hY=>by(have hY2:Sep w0 W3 ((Y++X)++(.box bt 3 #[iV d2]:: .box bn 3 #[iV m]:: .box bi 46 #[iV op,aC path,aC bA,iV mode,iV kk]:: .box bf 37 #[pV f]::R)):=by rw[pJ];exact hY);exact⟨hY2.dQ 3 rfl 0,hY2.dQ 1 rfl 0,hY2.dQ 0 rfl 0,hY2.dQ 2 rfl 2⟩) kH hV.vf hv2 hp2 ⟨hm,hV.few m hm,hV.lt m hm⟩ ho.links ho.w ho.en ho.sm2 hX
 have hln:=pY hV (path:=path);have hok:=rW hV (splitB bA) 0 0 hV.n0 hV.n0;have hX0:Hid (Sep w0 ((w.alloc (.cells #[pV f] 37)).alloc (.cells #[iV op,aC path,aC bA,iV mode,iV kk] 46)) (.box (w.heap.size+1) 46 #[iV op,aC path,aC bA,iV mode,iV kk]:: .box w.heap.size 37 #[pV f]::aF f q p S a::R)):=Lh (by exact Z76);obtain⟨d0,d1,bZ⟩:=hno.out _ _ _ hX0.out;obtain⟨r,hr⟩:∃r,r=aS S.cur S.data 0 0 (splitB path):=⟨_,rfl⟩;obtain⟨r2,hr2⟩:∃r,r=(aS S.cur S.data 0 0 (splitB bA)):=⟨_,rfl⟩;unfold acP;rw[<-hr]at bZ hcg hln ⊢;rw[<-hr2]at hnt hcg hok ⊢;obtain⟨b1,hb1⟩:∃b,b=aL path:=⟨_,rfl⟩;obtain⟨b2,hb2⟩:∃b,b=aL bA:=⟨_,rfl⟩;rw[<-hb2]at hcg ⊢;clear hC hV hb hv hp hv2 hp2 hch h hno hr hr2 hX0 hb1 hb2;rw[BG]at bZ;cases hn:nN S.cur r with
 |some k=>rw[hn]at bZ;clear hcg hln hn hnt hok hon;unfold aC at*;simp only at bZ;go_enter Tryz.func59,Tryz.ntmps59;exact Z15
 |none=>
  rw[hn]at bZ;obtain⟨hr0,hr1,hr3⟩:=BH hn;obtain⟨d,m,hdl,FK,hre⟩:=hln hr0 hr1;rw[hre]at hr3;(have sG:=fun d2=>hcg.out d m d2 FK hre hr3);(have p8:=fun W=>hnt.out W d m);rw[hre]at bZ ⊢;simp only[mW]at bZ ⊢;clear hcg hln hn hr0 hr1 hr3 hdl FK hre hnt;rw[sD]at p8;cases hn2:gP r2 with
  |some k=>rw[hn2]at p8;replace p8:=Lh p8;clear sG hn2 hok hon;unfold aC at*;go_enter Tryz.func59,Tryz.ntmps59;go_wp2_with(first |(go_at_call 123;refine bZ.mono ?_;rintro e w9 ⟨rfl,a9,eP,h9⟩;have h8:=h9.bN 3 #[iV m];obtain⟨d3,d4,hcall⟩:=p8.out _ _ _ _ _ eP h8;clear h8 eP h9 bZ d0 d1 p8)|(go_at_call 118;refine hcall.mono ?_;rintro e w8 ⟨rfl,a8,zB,h8⟩;have hend:=Lh (And.intro zB h8);clear zB h8 hcall));unfold mQ;exact⟨rfl,rfl,_,hend.out.1,(Sep.dE [0,2,3,1] hend.out.2 aV bL).drop 3⟩
  |none=>
   rw[hn2]at p8;obtain⟨hr0,hr1⟩:=sF hn2;obtain⟨⟨d2,_,hd⟩,hd2⟩:=hok hr0;have hd3:r2.2.1= -1:=by
    rcases hd2 with hd2|⟨m,_,hd2⟩
    ·exact hd2
    omega
   (have hre:r2=((d2:Int), -1,0):=by exact Z66);have MV:=sG d2 hre;rw[hre]at p8 ⊢;simp only[mW]at p8 ⊢;replace p8:=Lh p8;obtain⟨rX,wD⟩:∃rX,rX=y9 S m d2 b2:=⟨_,rfl⟩;rw[<-wD]at MV ⊢;clear sG hok hn2 hr0 hr1 hd hd2 hd3 hre wD;(have vR:=fun W=>hon.out W d2 m);by_cases hnn:S.nodes<256
   ·replace MV:=Lh (MV hnn);rw[if_pos hnn]at vR ⊢;replace vR:=Lh vR;clear hnn hon;unfold aC at*;unfold mQ;go_enter Tryz.func59,Tryz.ntmps59;go_wp2_with(first |(go_at_call 123;refine bZ.mono ?_;rintro e w9 ⟨rfl,a9,eP,h9⟩;have h8:=h9.bN 3 #[iV m];obtain⟨d3,d4,hcall⟩:=p8.out _ _ _ _ _ eP h8;clear h8 eP h9 bZ d0 d1 p8)|(go_at_call 118;refine hcall.mono ?_;rintro e w8 ⟨rfl,a8,zB,h8⟩;have h7:=h8.bN 3 #[iV d2];obtain⟨d5,azN⟩:=MV.out _ _ _ _ _ _ zB h7;obtain⟨d6,QK⟩:=vR.out _ _ _ _ _ _ h7;clear zB h8 h7 hcall MV vR d3 d4)|(go_at_call 70;refine QK.mono ?_;rintro e w7 ⟨rfl,h7⟩;obtain rfl:=h7.symm;clear QK)|(go_at_call 73;refine azN.mono ?_;intro e w7 ho;rcases iY ho with rfl|⟨k,rfl⟩))
    ·go_end0
     exact ho
    exact⟨rfl,ho⟩
   rw[if_neg hnn]at vR ⊢;replace vR:=Lh vR;clear hnn hon MV;unfold aC at*;go_enter Tryz.func59,Tryz.ntmps59;go_wp2_with(first |(go_at_call 123;refine bZ.mono ?_;rintro e w9 ⟨rfl,a9,eP,h9⟩;have h8:=h9.bN 3 #[iV m];obtain⟨d3,d4,hcall⟩:=p8.out _ _ _ _ _ eP h8;clear h8 eP h9 bZ d0 d1 p8)|(go_at_call 118;refine hcall.mono ?_;rintro e w8 ⟨rfl,a8,zB,h8⟩;have h7:=h8.bN 3 #[iV d2];obtain⟨d6,QK⟩:=vR.out _ _ _ _ _ _ h7;have hend:=Lh (And.intro zB h7);clear zB h8 h7 hcall vR d3 d4)|(go_at_call 70;refine QK.mono ?_;rintro e w7 ⟨rfl,h7⟩;obtain rfl:=h7.symm;clear QK));unfold mQ;exact⟨rfl,rfl,_,hend.out.1,(Sep.dE [0,1,3,4,2] hend.out.2 aV bL).drop 4⟩
theorem aqC {vs:Value} {op mode kk:Int} {path tz:List UInt8} (hC:VC S a) (h:Sep w0 w (aF f q p S a::R)):
  Calls Tryz.prog 64 #[pV f,.agg #[iV op,aC path,aC tz,iV mode,iV kk],vs] w fun e w'=>e= .returned (.tuple #[])/\Sep w0 w' (aF f q p S a::R):=by
 have h0:Sep w0 (w.alloc (.cells #[iV op,aC path,aC tz,iV mode,iV kk] 46)) (aF f q p S a:: .box w.heap.size 46 #[iV op,aC path,aC tz,iV mode,iV kk]::R):=(h.bN _ _).perm (List.Perm.swap _ _ _);have c0:(w.alloc (.cells #[iV op,aC path,aC tz,iV mode,iV kk] 46)).cell? ⟨f,0,none⟩=some (pV q):=by have h1:=h0.bE;have h2:Sep w0 _ (kX f q S a.sb (.map (some a.fb)) false::aH q p false::aO p S.D::eU a.sb a.SM::jI a.fb a.FM:: .box w.heap.size 46 #[iV op,aC path,aC tz,iV mode,iV kk]::R):=h1;exact h2.bC 0 rfl 0
 have hsy:Calls Tryz.prog 102 #[pV q] (w.alloc (.cells #[iV op,aC path,aC tz,iV mode,iV kk] 46)) fun e w'=>e= .returned (iV 0)/\Sep w0 w' (aF f q p S a::R):=by have h1:=h0.bE;have h2:Sep w0 (w.alloc (.cells #[iV op,aC path,aC tz,iV mode,iV kk] 46)) (aH q p false::aO p S.D::kX f q S a.sb (.map (some a.fb)) false::eU a.sb a.SM::jI a.fb a.FM:: .box w.heap.size 46 #[iV op,aC path,aC tz,iV mode,iV kk]::R):=Sep.dE [1,2,0] h1 aV (by simp[pQ]);refine(C8 hC.pF h2).mono ?_;rintro e w' ⟨rfl,h3⟩;rw[hC.on]at h3;refine⟨by rw[hC.on];rfl,?_⟩;have h4:Sep w0 w' (.box w.heap.size 46 #[iV op,aC path,aC tz,iV mode,iV kk]::(pQ f q p S a++R)):=Sep.dE [5,2,0,1,3,4] h3 aV (by simp[pQ]);exact(h4.drop 1).dB
 clear h h0 hC;unfold aC at*;go_enter Tryz.func64,Tryz.ntmps64;go_wp2_with(first |(go_at_call 102;refine hsy.mono ?_;rintro e w9 ⟨rfl,h9⟩;replace h9:=Lh h9;clear hsy)|(go_at_call 54;refine(fB _ _).mono ?_;rintro e w8 ⟨rfl,h8⟩;obtain rfl:=h8.symm))
 go_end0
 exact⟨rfl,h9.out⟩
def aqD (S:VS) (path bA:List UInt8) (mode:Nat):Except Int (Option VS):=
 match nN S.cur (aS S.cur S.data 0 0 (splitB path))with
 |some k=>.error k
 |none=>match gP (aS S.cur S.data 0 0 (splitB bA))with
  |some k=>.error k
  |none=>if S.nodes<256 then .ok (lH S (⟨2,mode,1,0,[]⟩:VI) (eY S.cur S.data (aG S.cur (aS S.cur S.data 0 0 (splitB path)).2.1.toNat)) (aS S.cur S.data 0 0 (splitB bA)).1.toNat (aL bA))else .error 31
theorem T9 {vs:Value} {op kk:Int} {mode:Nat} {path bA:List UInt8} (hC:VC S a) (hV:VW S) (hb:S.D.back=[]) (hv:aU path=true) (hp:path.length<=1048576) (hv2:aU bA=true) (hp2:bA.length<=1048576)
  (hch:∀d m d2:Nat,m<S.names->aS S.cur S.data 0 0 (splitB path)=((d:Int),(m:Int),0)->¬(aG S.cur m).kind=1->(aS S.cur S.data 0 0 (splitB bA))=((d2:Int), -1,0)->S.nodes<256->(aG S.cur m).size<=512*(aG S.cur m).aB.length/\wO S (⟨2,mode,1,0,[]⟩:VI) (eY S.cur S.data (aG S.cur m)) d2 bA) (h:Sep w0 w (aF f q p S a::R)):
  Calls Tryz.prog 62 #[pV f,.agg #[iV op,aC path,aC bA,iV mode,iV kk],vs] w (mQ f q p S (aqD S path bA mode) w0 R):=by
 have hno:Hid (∀W bi,Sep w0 W (aF f q p S a:: .box bi 46 #[iV op,aC path,aC bA,iV mode,iV kk]::R)->W.cell? ⟨bi,1,none⟩=some (aC path)/\W.cell? ⟨bi,2,none⟩=some (aC bA)/\Calls Tryz.prog 123 #[pV f,aC path] W fun e w'=>e=G9 S.cur (aS S.cur S.data 0 0 (splitB path))/\∃a',VC S a'/\Sep w0 w' (aF f q p S a':: .box bi 46 #[iV op,aC path,aC bA,iV mode,iV kk]::R)):=Lh fun W bi hW=>
  ⟨hW.bC 1 rfl 1,hW.bC 1 rfl 2,(AX hC hV hv hp hW).mono fun e w' ⟨h1,a',h2,h3⟩=>⟨h1,a',h2.ok,h3⟩⟩
 have hnt:Hid (∀W bi a1,VC S a1->Sep w0 W (aF f q p S a1:: .box bi 46 #[iV op,aC path,aC bA,iV mode,iV kk]::R)->W.cell? ⟨bi,2,none⟩=some (aC bA)/\Calls Tryz.prog 118 #[pV f,aC bA] W fun e w'=>e=pU (aS S.cur S.data 0 0 (splitB bA))/\∃a',VC S a'/\Sep w0 w' (aF f q p S a':: .box bi 46 #[iV op,aC path,aC bA,iV mode,iV kk]::R)):=Lh fun W bi a1 kH hW=>
  ⟨hW.bC 1 rfl 2,(rY kH hV hv2 hp2 hW).mono fun e w' ⟨h1,a',h2,h3⟩=>⟨h1,a',h2.ok,h3⟩⟩
 have hon:Hid (∀W bi a1,Sep w0 W (aF f q p S a1:: .box bi 46 #[iV op,aC path,aC bA,iV mode,iV kk]::R)->Calls Tryz.prog 70 #[pV f] W fun e w'=>e=(if S.nodes<256 then .returned (.tuple #[])else .panicked (fP 31))/\w'=W):=Lh fun W bi a1 hW=>ND hW
 have hct:Hid (∀d m d2:Nat,m<S.names->aS S.cur S.data 0 0 (splitB path)=((d:Int),(m:Int),0)->¬(aG S.cur m).kind=1->(aS S.cur S.data 0 0 (splitB bA))=((d2:Int), -1,0)->S.nodes<256->∀W bi a1,VC S a1->Sep w0 W (aF f q p S a1:: .box bi 46 #[iV op,aC path,aC bA,iV mode,iV kk]::R)->
   (W.cell? ⟨bi,2,none⟩=some (aC bA)/\W.cell? ⟨bi,3,none⟩=some (iV mode))/\Calls Tryz.prog 128 #[pV f,iV m] W fun e w'=>∃v,e= .returned v/\(w'.cell? ⟨bi,2,none⟩=some (aC bA)/\w'.cell? ⟨bi,3,none⟩=some (iV mode))/\
    Calls Tryz.prog 71 #[pV f,iV d2,aC bA,.agg #[iV 2,iV mode,iV 1,iV 0,.slice none 0 0],v] w' fun e w2=>dG f q p S (lH S (⟨2,mode,1,0,[]⟩:VI) (eY S.cur S.data (aG S.cur m)) d2 (aL bA)) w0 R e w2/\(w2.cell? ⟨bi,2,none⟩=some (aC bA)/\w2.cell? ⟨bi,3,none⟩=some (iV mode))):=Lh fun d m d2 hm hl hk hl2 hnn W bi a1 kH hW=>by
  obtain⟨hsz,hok⟩:=hch d m d2 hm hl hk hl2 hnn
  refine⟨⟨hW.bC 1 rfl 2,hW.bC 1 rfl 3⟩,(LJ kH hV.vf hm (hV.few m hm) (hV.lt m hm) hsz hW).mono ?_⟩
  rintro e w' ⟨v,a2,rfl,hR2,h2⟩
  refine⟨v,rfl,⟨h2.bC 2 rfl 2,h2.bC 2 rfl 3⟩,?_⟩
  refine(QE (x:=(⟨2,mode,1,0,[]⟩:VI)) hR2.ok hV.vf hb hok (jG.part 0 rfl) (h2.perm (List.Perm.swap _ _ _))).mono fun e w2 ho=>?_
  obtain⟨Y,hY⟩:=V6 ho
  exact⟨iZ (Y:=[_,_]) ho,hY.dQ 1 rfl 2,hY.dQ 1 rfl 3⟩
 have hln:=pY hV (path:=path);have hok:=rW hV (splitB bA) 0 0 hV.n0 hV.n0;have hX0:Hid (Sep w0 (w.alloc (.cells #[iV op,aC path,aC bA,iV mode,iV kk] 46)) (aF f q p S a:: .box w.heap.size 46 #[iV op,aC path,aC bA,iV mode,iV kk]::R)):=Lh ((h.bN _ _).perm (List.Perm.swap _ _ _));obtain⟨d0,d1,bZ⟩:=hno.out _ _ hX0.out;obtain⟨r,hr⟩:∃r,r=aS S.cur S.data 0 0 (splitB path):=⟨_,rfl⟩;obtain⟨r2,hr2⟩:∃r,r=(aS S.cur S.data 0 0 (splitB bA)):=⟨_,rfl⟩;unfold aqD;rw[<-hr]at bZ hct hln ⊢;rw[<-hr2]at hnt hct hok ⊢;obtain⟨b2,hb2⟩:∃b,b=aL bA:=⟨_,rfl⟩;rw[<-hb2]at hct ⊢;clear hC hV hb hv hp hv2 hp2 hch h hno hr hr2 hX0 hb2;rw[BG]at bZ;cases hn:nN S.cur r with
 |some k=>rw[hn]at bZ;clear hct hln hn hnt hok hon;unfold aC at*;simp only at bZ;go_enter Tryz.func62,Tryz.ntmps62;go_wp2_with(go_at_call 123;refine bZ.mono ?_;rintro e w9 ⟨rfl,a9,eP,h9⟩;have hend:=Lh (And.intro eP h9);clear eP h9 bZ);exact Z13
 |none=>
  rw[hn]at bZ;obtain⟨hr0,hr1,hr3⟩:=BH hn;obtain⟨d,m,hdl,FK,hre⟩:=hln hr0 hr1;rw[hre]at hr3;(have IE:=fun d2=>hct.out d m d2 FK hre hr3);rw[hre]at bZ ⊢;simp only[mW]at bZ ⊢;clear hct hln hn hr0 hr1 hr3 hdl FK hre;rw[sD]at hnt;cases hn2:gP r2 with
  |some k=>rw[hn2]at hnt;clear IE hn2 hok hon;unfold aC at*;go_enter Tryz.func62,Tryz.ntmps62;go_wp2_with(first |(go_at_call 123;refine bZ.mono ?_;rintro e w9 ⟨rfl,a9,eP,h9⟩;obtain⟨d4,hcall⟩:=hnt.out _ _ _ eP h9;clear eP h9 bZ d0 d1 hnt)|(go_at_call 118;refine hcall.mono ?_;rintro e w8 ⟨rfl,a8,zB,h8⟩;have hend:=Lh (And.intro zB h8);clear zB h8 hcall));exact Z13
  |none=>
   rw[hn2]at hnt;obtain⟨hr0,hr1⟩:=sF hn2;obtain⟨⟨d2,_,hd⟩,hd2⟩:=hok hr0;have hd3:r2.2.1= -1:=by
    rcases hd2 with hd2|⟨m,_,hd2⟩
    ·exact hd2
    omega
   (have hre:r2=((d2:Int), -1,0):=by exact Z66);have al9:=IE d2 hre;rw[hre]at hnt ⊢;simp only[mW]at hnt ⊢;obtain⟨rX,wD⟩:∃rX,rX=lH S (⟨2,mode,1,0,[]⟩:VI) (eY S.cur S.data (aG S.cur m)) d2 b2:=⟨_,rfl⟩;rw[<-wD]at al9 ⊢;clear IE hok hn2 hr0 hr1 hd hd2 hd3 hre wD;by_cases hnn:S.nodes<256
   ·replace al9:=Lh (al9 hnn);rw[if_pos hnn]at hon ⊢;clear hnn;unfold aC at*;unfold mQ;go_enter Tryz.func62,Tryz.ntmps62;go_wp2_with(first |(go_at_call 123;refine bZ.mono ?_;rintro e w9 ⟨rfl,a9,eP,h9⟩;obtain⟨d4,hcall⟩:=hnt.out _ _ _ eP h9;clear eP h9 bZ d0 d1 hnt)|(go_at_call 118;refine hcall.mono ?_;rintro e w8 ⟨rfl,a8,zB,h8⟩;obtain⟨hE,aDR⟩:=al9.out _ _ _ zB h8.drew;have QK:=hon.out _ _ _ h8;clear zB h8 hcall al9 hon d4)|(go_at_call 70;refine QK.mono ?_;rintro e w7 ⟨rfl,h7⟩;obtain rfl:=h7.symm;clear QK));refine aP (S:=fun w'=>w'.cell? ⟨w.heap.size,2,none⟩=some (.string ⟨bA.toArray⟩)/\w'.cell? ⟨w.heap.size,3,none⟩=some (iV mode)) 14 ?_;refine aA 0 hE ?_;refine aA 1 hE ?_;refine aA 2 hE ?_;refine aA 3 hE ?_;refine aA 4 hE ?_;refine aA 5 hE ?_;refine aA 6 hE ?_;refine aA 7 hE ?_;refine aA 8 hE ?_;refine aA 9 hE ?_;refine aA 10 hE ?_;refine aA 11 hE ?_;(refine bI 12 fun K hK=>?_);go_simp;go_at_call 128;refine aDR.mono ?_;rintro e w6 ⟨v,rfl,hE6,hmd⟩;clear hE aDR;dsimp only;refine hK _ _ (fun _=>hE6) ?_;clear hK K;(try simp only[Act.put,gD]);(refine bI 13 fun K hK=>?_);go_simp;go_at_call 71;refine hmd.mono ?_;rintro e w5 ⟨ho,rP⟩;rcases iY ho with rfl|⟨k,rfl⟩
    ·dsimp only;refine hK _ _ (fun _=>rP) ?_;clear hK K;(try simp only[Act.put,gD]);refine aQ fH ?_ _
     go_end0
     exact ho
    exact⟨rfl,ho⟩
   rw[if_neg hnn]at hon ⊢;clear hnn al9;unfold aC at*;go_enter Tryz.func62,Tryz.ntmps62;go_wp2_with(first |(go_at_call 123;refine bZ.mono ?_;rintro e w9 ⟨rfl,a9,eP,h9⟩;obtain⟨d4,hcall⟩:=hnt.out _ _ _ eP h9;clear eP h9 bZ d0 d1 hnt)|(go_at_call 118;refine hcall.mono ?_;rintro e w8 ⟨rfl,a8,zB,h8⟩;have QK:=hon.out _ _ _ h8;have hend:=Lh (And.intro zB h8);clear zB h8 hcall hon d4)|(go_at_call 70;refine QK.mono ?_;rintro e w7 ⟨rfl,h7⟩;obtain rfl:=h7.symm;clear QK));exact Z13
end
end Go.Proofs.YtmjomdkleikgbaaGreat
