/- Parts. -/
import Derived.Test.YtmjomdkleikgbaaGreatK20
set_option linter.unusedVariables false
set_option linter.unusedSimpArgs false
set_option maxRecDepth 100000
set_option maxHeartbeats 20000000
namespace Go.Proofs.YtmjomdkleikgbaaGreat
open Go.RowKit
def dW (r:Int×Int×Int):Option Int:=if r.2.2=0 then(if r.2.1<0 then some 21 else none)else some r.2.2
def nP (c:gI) (r:Int×Int×Int):Option Int:=if r.2.2=0 then(if r.2.1<0 then some 21 else if(aH c r.2.1.toNat).kind=1 then some 24 else none)else some r.2.2
theorem rW (r:Int×Int×Int):lV r=match dW r with|some k=>.panicked (fA k)|none=>.returned (.tuple #[iV r.1,iV r.2.1]):=by unfold lV dW;exact Z39
theorem BU (c:gI) (r:Int×Int×Int):IA c r=match nP c r with|some k=>.panicked (fA k)|none=>.returned (.tuple #[iV r.1,iV r.2.1]):=by
 unfold IA nP;by_cases h1:r.2.2=0
 ·rw[if_pos h1,if_pos h1];by_cases h2:r.2.1<0
  ·rw[if_pos h2,if_pos h2]
  rw[if_neg h2,if_neg h2];by_cases h3:(aH c r.2.1.toNat).kind=1
  ·rw[if_pos h3,if_pos h3]
  rw[if_neg h3,if_neg h3]
 rw[if_neg h1,if_neg h1]
theorem rY {r:Int×Int×Int} (h:dW r=none):r.2.2=0/\¬r.2.1<0:=by
 unfold dW at h;by_cases h1:r.2.2=0
 ·rw[if_pos h1]at h;by_cases h2:r.2.1<0
  ·rw[if_pos h2]at h;cases h
  exact⟨h1,h2⟩
 rw[if_neg h1]at h;cases h
theorem BV {c:gI} {r:Int×Int×Int} (h:nP c r=none):r.2.2=0/\¬r.2.1<0/\¬(aH c r.2.1.toNat).kind=1:=by
 unfold nP at h;by_cases h1:r.2.2=0
 ·rw[if_pos h1]at h;by_cases h2:r.2.1<0
  ·rw[if_pos h2]at h;cases h
  rw[if_neg h2]at h;by_cases h3:(aH c r.2.1.toNat).kind=1
  ·rw[if_pos h3]at h;cases h
  exact⟨h1,h2,h3⟩
 rw[if_neg h1]at h;cases h
theorem qA {S:VS} (hV:VW S) {path:List UInt8} (h1:(aU S.cur S.data 0 0 (splitB path)).2.2=0) (h2:¬(aU S.cur S.data 0 0 (splitB path)).2.1<0):
  ∃d m:Nat,d<S.names/\m<S.names/\aU S.cur S.data 0 0 (splitB path)=((d:Int),(m:Int),0):=by
 obtain⟨⟨d,hd,e1⟩,h3⟩:=sH hV (splitB path) 0 0 hV.n0 hV.n0 h1;rcases h3 with h3|⟨m,hm,e2⟩
 ·omega
 exact⟨d,m,hd,hm,by rw[<-e1,<-e2,<-h1]⟩
theorem UU :∀args w,(callFunc 129 args).run Tryz.prog w= .ok (.enter 129 args) w:=Go.Proofs.enters_of Tryz.func129 fE rfl
theorem QV :∀args w,(callFunc 127 args).run Tryz.prog w= .ok (.enter 127 args) w:=Go.Proofs.enters_of Tryz.func127 fE rfl
theorem QW :∀args w,(callFunc 124 args).run Tryz.prog w= .ok (.enter 124 args) w:=Go.Proofs.enters_of Tryz.func124 fE rfl
theorem ZU :∀args w,(callFunc 126 args).run Tryz.prog w= .ok (.enter 126 args) w:=Go.Proofs.enters_of Tryz.func126 fE rfl
theorem UW :∀args w,(callFunc 119 args).run Tryz.prog w= .ok (.enter 119 args) w:=Go.Proofs.enters_of Tryz.func119 fE rfl
section
variable {w0 w:World} {R:List aW} {f q p:Nat} {S:VS} {a:VA}
def QX (S:VS) (path:List UInt8) (mode:Nat):Except Int (Option VS):=
 match dW (aU S.cur S.data 0 0 (splitB path))with
 |some k=>.error k
 |none=>.ok (some (sU S (aU S.cur S.data 0 0 (splitB path)).2.1.toNat mode))
theorem Z24 {P:Prop} (h:P:=by go_wp2_with(go_at_call 107;refine bZ.mono ?_;rintro e w9 ⟨rfl,a9,eX,h9⟩;have hend:=Lh (And.intro eX h9);clear eX h9 bZ);unfold mW;exact⟨rfl,rfl,_,hend.out.1,(Sep.dB [1,2,0] hend.out.2 aR bK).drop 2⟩):P:=h
theorem Z80 {P:Prop} (h:P:=by have h1:=(h.bN 37 #[pV f]).bN 46 #[iV op,aC path,aC tz,iV mode,iV kk];rw[tT]at h1;exact h1):P:=h
theorem am3 {vs:Value} {op kk:Int} {mode:Nat} {path tz:List UInt8} (hC:VC S a) (hV:VW S) (hb:S.D.back=[]) (hv:aV path=true) (hp:path.length<=1048576) (hmode:mode<=511) (hs:gK S)
  (hch:∀d m:Nat,m<S.names->aU S.cur S.data 0 0 (splitB path)=((d:Int),(m:Int),0)->nX S (sU S m mode)) (h:Sep w0 w (aF f q p S a::R)):
  Calls Tryz.prog 63 #[pV f,.agg #[iV op,aC path,aC tz,iV mode,iV kk],vs] w (mW f q p S (QX S path mode) w0 R):=by
 have hno:Hid (∀W bi bf,Sep w0 W (.box bi 46 #[iV op,aC path,aC tz,iV mode,iV kk]:: .box bf 37 #[pV f]::aF f q p S a::R)->W.cell? ⟨bf,0,none⟩=some (pV f)/\W.cell? ⟨bi,1,none⟩=some (aC path)/\Calls Tryz.prog 107 #[pV f,aC path] W fun e w'=>e=lV (aU S.cur S.data 0 0 (splitB path))/\∃a',VC S a'/\Sep w0 w' (aF f q p S a':: .box bi 46 #[iV op,aC path,aC tz,iV mode,iV kk]:: .box bf 37 #[pV f]::R)):=Lh fun W bi bf hW=>
  ⟨hW.bC 1 rfl 0,hW.bC 0 rfl 1,(nY hC hV hv hp (Sep.dB [2,0,1] hW aR bK)).mono fun e w' ⟨h1,a',h2,h3⟩=>⟨h1,a',h2.ok,h3⟩⟩
 have hcg:Hid (∀d m:Nat,m<S.names->aU S.cur S.data 0 0 (splitB path)=((d:Int),(m:Int),0)->∀W bn bi bf a1,VC S a1->Sep w0 W (.box bn 3 #[iV m]::aF f q p S a1:: .box bi 46 #[iV op,aC path,aC tz,iV mode,iV kk]:: .box bf 37 #[pV f]::R)->W.cell? ⟨bf,0,none⟩=some (pV f)/\Calls Tryz.prog 73 #[pV f,.func (.func 129) #[] #[pV bf,pV bn,pV bi]] W (dH f q p S (some (sU S m mode)) w0 R)):=Lh fun d m hm hl W bn bi bf a1 kK hW=>by refine⟨hW.bC 3 rfl 0,?_⟩;have h1:Sep w0 W (aF f q p S a1:: .box bn 3 #[iV m]:: .box bi 46 #[iV op,aC path,aC tz,iV mode,iV kk]:: .box bf 37 #[pV f]::R):=hW.perm (List.Perm.swap _ _ _);(refine(rC (R':=.box bn 3 #[iV m]:: .box bi 46 #[iV op,aC path,aC tz,iV mode,iV kk]:: .box bf 37 #[pV f]::R) UU kK hb (fun S1 e=>by cases e;exact hch d m hm hl) (fun W2 X hX=>?_) h1).mono fun e w' ho=>iZ (Y:=[_,_,_]) ho);exact ag5 (fun W3 Y hY=>by(have hY2:Sep w0 W3 ((Y++X)++(.box bn 3 #[iV m]:: .box bi 46 #[iV op,aC path,aC tz,iV mode,iV kk]:: .box bf 37 #[pV f]::R)):=by rw[pG];exact hY);exact⟨hY2.dS 2 rfl 0,hY2.dS 0 rfl 0,hY2.dS 1 rfl 3⟩) kK hV.vf ⟨hm,hV.few m hm,hV.lt m hm⟩ hs hmode hX
 have hln:=qA hV (path:=path);have hX0:Hid (Sep w0 ((w.alloc (.cells #[pV f] 37)).alloc (.cells #[iV op,aC path,aC tz,iV mode,iV kk] 46)) (.box (w.heap.size+1) 46 #[iV op,aC path,aC tz,iV mode,iV kk]:: .box w.heap.size 37 #[pV f]::aF f q p S a::R)):=Lh (by exact Z80);obtain⟨d0,d1,bZ⟩:=hno.out _ _ _ hX0.out;obtain⟨r,hr⟩:∃r,r=aU S.cur S.data 0 0 (splitB path):=⟨_,rfl⟩;unfold QX;rw[<-hr]at bZ hcg hln ⊢;clear hC hV hb hv hp hmode hs hch h hno hr hX0;rw[rW]at bZ;cases hn:dW r with
 |some k=>rw[hn]at bZ;clear hcg hln hn;unfold aC at*;simp only at bZ;go_enter Tryz.func63,Tryz.ntmps63;exact Z24
 |none=>
  rw[hn]at bZ;obtain⟨hr0,hr1⟩:=rY hn;obtain⟨d,m,hdl,FY,hre⟩:=hln hr0 hr1;have sN:=hcg.out d m FY hre;rw[hre]at bZ ⊢;simp only[nA]at bZ ⊢;obtain⟨rX,wN⟩:∃rX,rX=some (sU S m mode):=⟨_,rfl⟩;rw[<-wN]at sN ⊢;replace sN:=Lh sN;clear hcg hln hn hr0 hr1 hdl FY hre wN;unfold aC at*;unfold mW;go_enter Tryz.func63,Tryz.ntmps63;go_wp2_with(first |(go_at_call 107;refine bZ.mono ?_;rintro e w9 ⟨rfl,a9,eX,h9⟩;obtain⟨d3,hcall⟩:=sN.out _ _ _ _ _ eX (h9.bN 3 #[iV m]);clear eX h9 bZ d0 d1 sN)|(go_at_call 73;refine hcall.mono ?_;intro e w7 ho;rcases iY ho with rfl|⟨k,rfl⟩))
  ·go_end0
   exact ho
  exact⟨rfl,ho⟩
def IP (S:VS) (path:List UInt8):Except Int (Option VS):=
 match nP S.cur (aU S.cur S.data 0 0 (splitB path))with
 |some k=>.error k
 |none=>.ok (some (oH S (aU S.cur S.data 0 0 (splitB path)).1.toNat (aL path) (aU S.cur S.data 0 0 (splitB path)).2.1.toNat))
structure QY (S:VS) (dir:Nat) (path:List UInt8) (n:Nat):Prop where
 lv:wK S dir (aL path)
 sm:lW S
 ino:p8 (cO S dir (aL path)) n
 links:1<=(aH (cO S dir (aL path)).cur n).links
 w:gK (cO S dir (aL path))
 drop:p8 ((cO S dir (aL path)).keep n {aH (cO S dir (aL path)).cur n with links:=(aH (cO S dir (aL path)).cur n).links-1}) n
 dw:gK ((cO S dir (aL path)).keep n {aH (cO S dir (aL path)).cur n with links:=(aH (cO S dir (aL path)).cur n).links-1})
 chg:nX S (oH S dir (aL path) n)
theorem Z16 {P:Prop} (h:P:=by go_wp2_with(go_at_call 123;refine bZ.mono ?_;rintro e w9 ⟨rfl,a9,eX,h9⟩;have hend:=Lh (And.intro eX h9);clear eX h9 bZ);unfold mW;exact⟨rfl,rfl,_,hend.out.1,(Sep.dB [1,2,0] hend.out.2 aR bK).drop 2⟩):P:=h
theorem ahE {vs:Value} {op mode kk:Int} {path tz:List UInt8} (hC:VC S a) (hV:VW S) (hb:S.D.back=[]) (hv:aV path=true) (hp:path.length<=1048576)
  (hch:∀d m:Nat,m<S.names->aU S.cur S.data 0 0 (splitB path)=((d:Int),(m:Int),0)->¬(aH S.cur m).kind=1->QY S d path m) (h:Sep w0 w (aF f q p S a::R)):
  Calls Tryz.prog 60 #[pV f,.agg #[iV op,aC path,aC tz,iV mode,iV kk],vs] w (mW f q p S (IP S path) w0 R):=by
 have hno:Hid (∀W bi bf,Sep w0 W (.box bi 46 #[iV op,aC path,aC tz,iV mode,iV kk]:: .box bf 37 #[pV f]::aF f q p S a::R)->W.cell? ⟨bf,0,none⟩=some (pV f)/\W.cell? ⟨bi,1,none⟩=some (aC path)/\Calls Tryz.prog 123 #[pV f,aC path] W fun e w'=>e=IA S.cur (aU S.cur S.data 0 0 (splitB path))/\∃a',VC S a'/\Sep w0 w' (aF f q p S a':: .box bi 46 #[iV op,aC path,aC tz,iV mode,iV kk]:: .box bf 37 #[pV f]::R)):=Lh fun W bi bf hW=>
  ⟨hW.bC 1 rfl 0,hW.bC 0 rfl 1,(BK hC hV hv hp (Sep.dB [2,0,1] hW aR bK)).mono fun e w' ⟨h1,a',h2,h3⟩=>⟨h1,a',h2.ok,h3⟩⟩
 have hcg:Hid (∀d m:Nat,m<S.names->aU S.cur S.data 0 0 (splitB path)=((d:Int),(m:Int),0)->¬(aH S.cur m).kind=1->∀W bn bd bi bf a1,VC S a1->Sep w0 W (.box bn 3 #[iV m]:: .box bd 3 #[iV d]::aF f q p S a1:: .box bi 46 #[iV op,aC path,aC tz,iV mode,iV kk]:: .box bf 37 #[pV f]::R)->W.cell? ⟨bf,0,none⟩=some (pV f)/\Calls Tryz.prog 73 #[pV f,.func (.func 127) #[] #[pV bf,pV bd,pV bi,pV bn]] W (dH f q p S (some (oH S d (aL path) m)) w0 R)):=Lh fun d m hm hl hk W bn bd bi bf a1 kK hW=>by refine⟨hW.bC 4 rfl 0,?_⟩;have h1:Sep w0 W (aF f q p S a1:: .box bn 3 #[iV m]:: .box bd 3 #[iV d]:: .box bi 46 #[iV op,aC path,aC tz,iV mode,iV kk]:: .box bf 37 #[pV f]::R):=Sep.dB [2,0,1] hW aR bK;have ho:=hch d m hm hl hk;(refine(rC (R':=.box bn 3 #[iV m]:: .box bd 3 #[iV d]:: .box bi 46 #[iV op,aC path,aC tz,iV mode,iV kk]:: .box bf 37 #[pV f]::R) QV kK hb (fun S1 e=>by cases e;exact ho.chg) (fun W2 X hX=>?_) h1).mono fun e w' ho=>iZ (Y:=[_,_,_,_]) ho);exact ac5 (fun W3 Y hY=>by(have hY2:Sep w0 W3 ((Y++X)++(.box bn 3 #[iV m]:: .box bd 3 #[iV d]:: .box bi 46 #[iV op,aC path,aC tz,iV mode,iV kk]:: .box bf 37 #[pV f]::R)):=by rw[pG];exact hY);exact⟨hY2.dS 3 rfl 0,hY2.dS 1 rfl 0,hY2.dS 2 rfl 1,hY2.dS 0 rfl 0⟩) kK hV.vf hv hp ho.lv ho.sm ho.ino ho.links ho.w ho.drop ho.dw hX
 have hln:=qA hV (path:=path);have hX0:Hid (Sep w0 ((w.alloc (.cells #[pV f] 37)).alloc (.cells #[iV op,aC path,aC tz,iV mode,iV kk] 46)) (.box (w.heap.size+1) 46 #[iV op,aC path,aC tz,iV mode,iV kk]:: .box w.heap.size 37 #[pV f]::aF f q p S a::R)):=Lh (by exact Z80);obtain⟨d0,d1,bZ⟩:=hno.out _ _ _ hX0.out;obtain⟨r,hr⟩:∃r,r=aU S.cur S.data 0 0 (splitB path):=⟨_,rfl⟩;unfold IP;rw[<-hr]at bZ hcg hln ⊢;clear hC hV hb hv hp hch h hno hr hX0;rw[BU]at bZ;cases hn:nP S.cur r with
 |some k=>rw[hn]at bZ;clear hcg hln hn;unfold aC at*;simp only at bZ;go_enter Tryz.func60,Tryz.ntmps60;exact Z16
 |none=>
  rw[hn]at bZ;obtain⟨hr0,hr1,hr2⟩:=BV hn;obtain⟨d,m,hdl,FY,hre⟩:=hln hr0 hr1;rw[hre]at hr2;have sN:=hcg.out d m FY hre hr2;rw[hre]at bZ ⊢;simp only[nA]at bZ ⊢;obtain⟨rX,wN⟩:∃rX,rX=some (oH S d (aL path) m):=⟨_,rfl⟩;rw[<-wN]at sN ⊢;replace sN:=Lh sN;clear hcg hln hn hr0 hr1 hr2 hdl FY hre wN;unfold aC at*;unfold mW;go_enter Tryz.func60,Tryz.ntmps60;go_wp2_with(first |(go_at_call 123;refine bZ.mono ?_;rintro e w9 ⟨rfl,a9,eX,h9⟩;have h8:=(h9.bN 3 #[iV d]).bN 3 #[iV m];rw[tT]at h8;obtain⟨d3,hcall⟩:=sN.out _ _ _ _ _ _ eX h8;clear h8 eX h9 bZ d0 d1 sN)|(go_at_call 73;refine hcall.mono ?_;intro e w7 ho;rcases iY ho with rfl|⟨k,rfl⟩))
  ·go_end0
   exact ho
  exact⟨rfl,ho⟩
def IQ (S:VS) (path bD:List UInt8):Except Int (Option VS):=
 match nP S.cur (aU S.cur S.data 0 0 (splitB path))with
 |some k=>.error k
 |none=>match gP (aU S.cur S.data 0 0 (splitB bD))with
  |some k=>.error k
  |none=>.ok (oI S (aU S.cur S.data 0 0 (splitB path)).1.toNat (aL path) (aU S.cur S.data 0 0 (splitB bD)).1.toNat (aL bD) (aU S.cur S.data 0 0 (splitB path)).2.1.toNat)
structure QZ (S:VS) (d d2:Nat) (path bD:List UInt8) (n:Nat):Prop where
 lv:wK S d (aL path)
 sm:lW S
 en:oG (cO S d (aL path)) d2 n (aL bD)
 sm2:lW (cO S d (aL path))
 chg:∀S1,oI S d (aL path) d2 (aL bD) n=some S1->nX S S1
theorem Z72 {P:Prop} (h:P:=by obtain⟨r1,r2,r3⟩:=r2;simp only at hd hd3 hr0;rw[hd,hd3,hr0]):P:=h
theorem Z84 {P:Prop} (h:P:=by have h1:=(h.bN 37 #[pV f]).bN 46 #[iV op,aC path,aC bD,iV mode,iV kk];rw[tT]at h1;exact h1):P:=h
theorem ahF {vs:Value} {op mode kk:Int} {path bD:List UInt8} (hC:VC S a) (hV:VW S) (hb:S.D.back=[]) (hv:aV path=true) (hp:path.length<=1048576) (hv2:aV bD=true) (hp2:bD.length<=1048576)
  (hch:∀d m d2:Nat,m<S.names->aU S.cur S.data 0 0 (splitB path)=((d:Int),(m:Int),0)->¬(aH S.cur m).kind=1->(aU S.cur S.data 0 0 (splitB bD))=((d2:Int), -1,0)->QZ S d d2 path bD m) (h:Sep w0 w (aF f q p S a::R)):
  Calls Tryz.prog 58 #[pV f,.agg #[iV op,aC path,aC bD,iV mode,iV kk],vs] w (mW f q p S (IQ S path bD) w0 R):=by
 have hno:Hid (∀W bi bf,Sep w0 W (.box bi 46 #[iV op,aC path,aC bD,iV mode,iV kk]:: .box bf 37 #[pV f]::aF f q p S a::R)->W.cell? ⟨bf,0,none⟩=some (pV f)/\W.cell? ⟨bi,1,none⟩=some (aC path)/\Calls Tryz.prog 123 #[pV f,aC path] W fun e w'=>e=IA S.cur (aU S.cur S.data 0 0 (splitB path))/\∃a',VC S a'/\Sep w0 w' (aF f q p S a':: .box bi 46 #[iV op,aC path,aC bD,iV mode,iV kk]:: .box bf 37 #[pV f]::R)):=Lh fun W bi bf hW=>
  ⟨hW.bC 1 rfl 0,hW.bC 0 rfl 1,(BK hC hV hv hp (Sep.dB [2,0,1] hW aR bK)).mono fun e w' ⟨h1,a',h2,h3⟩=>⟨h1,a',h2.ok,h3⟩⟩
 have hnt:Hid (∀W (d m:Nat) bn bd bi bf a1,VC S a1->Sep w0 W (.box bn 3 #[iV m]:: .box bd 3 #[iV d]::aF f q p S a1:: .box bi 46 #[iV op,aC path,aC bD,iV mode,iV kk]:: .box bf 37 #[pV f]::R)->W.cell? ⟨bf,0,none⟩=some (pV f)/\W.cell? ⟨bi,2,none⟩=some (aC bD)/\Calls Tryz.prog 118 #[pV f,aC bD] W fun e w'=>e=pY (aU S.cur S.data 0 0 (splitB bD))/\∃a',VC S a'/\Sep w0 w' (.box bn 3 #[iV m]:: .box bd 3 #[iV d]::aF f q p S a':: .box bi 46 #[iV op,aC path,aC bD,iV mode,iV kk]:: .box bf 37 #[pV f]::R)):=Lh fun W d m bn bd bi bf a1 kK hW=>
  ⟨hW.bC 4 rfl 0,hW.bC 3 rfl 2,(sI kK hV hv2 hp2 (Sep.dB [2,0,1,3,4] hW aR bK)).mono fun e w' ⟨h1,a',h2,h3⟩=>⟨h1,a',h2.ok,Sep.dB [1,2,0,3,4] h3 aR bK⟩⟩
 have hcg:Hid (∀d m d2:Nat,m<S.names->aU S.cur S.data 0 0 (splitB path)=((d:Int),(m:Int),0)->¬(aH S.cur m).kind=1->(aU S.cur S.data 0 0 (splitB bD))=((d2:Int), -1,0)->∀W bt bn bd bi bf a1,VC S a1->Sep w0 W (.box bt 3 #[iV d2]:: .box bn 3 #[iV m]:: .box bd 3 #[iV d]::aF f q p S a1:: .box bi 46 #[iV op,aC path,aC bD,iV mode,iV kk]:: .box bf 37 #[pV f]::R)->W.cell? ⟨bf,0,none⟩=some (pV f)/\Calls Tryz.prog 73 #[pV f,.func (.func 124) #[] #[pV bf,pV bd,pV bi,pV bt,pV bn]] W (dH f q p S (oI S d (aL path) d2 (aL bD) m) w0 R)):=Lh fun d m d2 hm hl hk hl2 W bt bn bd bi bf a1 kK hW=>by refine⟨hW.bC 5 rfl 0,?_⟩;have h1:Sep w0 W (aF f q p S a1:: .box bt 3 #[iV d2]:: .box bn 3 #[iV m]:: .box bd 3 #[iV d]:: .box bi 46 #[iV op,aC path,aC bD,iV mode,iV kk]:: .box bf 37 #[pV f]::R):=Sep.dB [3,0,1,2] hW aR bK;have ho:=hch d m d2 hm hl hk hl2;(refine(rC (R':=.box bt 3 #[iV d2]:: .box bn 3 #[iV m]:: .box bd 3 #[iV d]:: .box bi 46 #[iV op,aC path,aC bD,iV mode,iV kk]:: .box bf 37 #[pV f]::R) QW kK hb (fun S1 e=>ho.chg S1 e) (fun W2 X hX=>?_) h1).mono fun e w' ho=>iZ (Y:=[_,_,_,_,_]) ho);exact ac4 (fun W3 Y hY=>by(have hY2:Sep w0 W3 ((Y++X)++(.box bt 3 #[iV d2]:: .box bn 3 #[iV m]:: .box bd 3 #[iV d]:: .box bi 46 #[iV op,aC path,aC bD,iV mode,iV kk]:: .box bf 37 #[pV f]::R)):=by rw[pG];exact hY);exact⟨hY2.dS 4 rfl 0,hY2.dS 2 rfl 0,hY2.dS 3 rfl 1,hY2.dS 3 rfl 2,hY2.dS 0 rfl 0,hY2.dS 1 rfl 0⟩) kK hV.vf hv hp hv2 hp2 ho.lv ho.sm ho.en ho.sm2 hX
 have hln:=qA hV (path:=path);have hok:=sH hV (splitB bD) 0 0 hV.n0 hV.n0;have hX0:Hid (Sep w0 ((w.alloc (.cells #[pV f] 37)).alloc (.cells #[iV op,aC path,aC bD,iV mode,iV kk] 46)) (.box (w.heap.size+1) 46 #[iV op,aC path,aC bD,iV mode,iV kk]:: .box w.heap.size 37 #[pV f]::aF f q p S a::R)):=Lh (by exact Z84);obtain⟨d0,d1,bZ⟩:=hno.out _ _ _ hX0.out;obtain⟨r,hr⟩:∃r,r=aU S.cur S.data 0 0 (splitB path):=⟨_,rfl⟩;obtain⟨r2,hr2⟩:∃r,r=(aU S.cur S.data 0 0 (splitB bD)):=⟨_,rfl⟩;unfold IQ;rw[<-hr]at bZ hcg hln ⊢;rw[<-hr2]at hnt hcg hok ⊢;obtain⟨b1,hb1⟩:∃b,b=aL path:=⟨_,rfl⟩;obtain⟨b2,hb2⟩:∃b,b=aL bD:=⟨_,rfl⟩;rw[<-hb2]at hcg ⊢;rw[<-hb1]at hcg ⊢;clear hC hV hb hv hp hv2 hp2 hch h hno hr hr2 hX0 hb1 hb2;rw[BU]at bZ;cases hn:nP S.cur r with
 |some k=>rw[hn]at bZ;clear hcg hln hn hnt hok;unfold aC at*;simp only at bZ;go_enter Tryz.func58,Tryz.ntmps58;exact Z16
 |none=>
  rw[hn]at bZ;obtain⟨hr0,hr1,hr3⟩:=BV hn;obtain⟨d,m,hdl,FY,hre⟩:=hln hr0 hr1;rw[hre]at hr3;(have sN:=fun d2=>hcg.out d m d2 FY hre hr3);(have qB:=fun W=>hnt.out W d m);rw[hre]at bZ ⊢;simp only[nA]at bZ ⊢;clear hcg hln hn hr0 hr1 hr3 hdl FY hre hnt;rw[sK]at qB;cases hn2:gP r2 with
  |some k=>rw[hn2]at qB;replace qB:=Lh qB;clear sN hn2 hok;unfold aC at*;go_enter Tryz.func58,Tryz.ntmps58;go_wp2_with(first |(go_at_call 123;refine bZ.mono ?_;rintro e w9 ⟨rfl,a9,eX,h9⟩;have h8:=(h9.bN 3 #[iV d]).bN 3 #[iV m];rw[tT]at h8;obtain⟨d3,d4,hcall⟩:=qB.out _ _ _ _ _ _ eX h8;clear h8 eX h9 bZ d0 d1 qB)|(go_at_call 118;refine hcall.mono ?_;rintro e w8 ⟨rfl,a8,zS,h8⟩;have hend:=Lh (And.intro zS h8);clear zS h8 hcall));unfold mW;exact⟨rfl,rfl,_,hend.out.1,(Sep.dB [0,1,3,4,2] hend.out.2 aR bK).drop 4⟩
  |none=>
   rw[hn2]at qB;obtain⟨hr0,hr1⟩:=sM hn2;obtain⟨⟨d2,_,hd⟩,hd2⟩:=hok hr0;have hd3:r2.2.1= -1:=by
    rcases hd2 with hd2|⟨m,_,hd2⟩
    ·exact hd2
    omega
   (have hre:r2=((d2:Int), -1,0):=by exact Z72);have NF:=sN d2 hre;rw[hre]at qB ⊢;simp only[nA]at qB ⊢;replace qB:=Lh qB;obtain⟨rX,wN⟩:∃rX,rX=oI S d b1 d2 b2 m:=⟨_,rfl⟩;rw[<-wN]at NF ⊢;clear sN hok hn2 hr0 hr1 hd hd2 hd3 hre wN;replace NF:=Lh NF;unfold aC at*;unfold mW;go_enter Tryz.func58,Tryz.ntmps58;go_wp2_with(first |(go_at_call 123;refine bZ.mono ?_;rintro e w9 ⟨rfl,a9,eX,h9⟩;have h8:=(h9.bN 3 #[iV d]).bN 3 #[iV m];rw[tT]at h8;obtain⟨d3,d4,hcall⟩:=qB.out _ _ _ _ _ _ eX h8;clear h8 eX h9 bZ d0 d1 qB)|(go_at_call 118;refine hcall.mono ?_;rintro e w8 ⟨rfl,a8,zS,h8⟩;obtain⟨d5,aAF⟩:=NF.out _ _ _ _ _ _ _ zS (h8.bN 3 #[iV d2]);clear zS h8 hcall NF d3 d4)|(go_at_call 73;refine aAF.mono ?_;intro e w7 ho;rcases iY ho with rfl|⟨k,rfl⟩))
   ·go_end0
    exact ho
   exact⟨rfl,ho⟩
def adF (S:VS) (path bD:List UInt8):Except Int (Option VS):=
 match nP S.cur (aU S.cur S.data 0 0 (splitB path))with
 |some k=>.error k
 |none=>match gP (aU S.cur S.data 0 0 (splitB bD))with
  |some k=>.error k
  |none=>if S.nodes<256 then .ok (zQ S (aU S.cur S.data 0 0 (splitB path)).2.1.toNat (aU S.cur S.data 0 0 (splitB bD)).1.toNat (aL bD))else .error 31
structure ahG (S:VS) (d2:Nat) (bD:List UInt8) (n:Nat):Prop where
 links:(aH S.cur n).links<65535
 w:gK S
 en:oG (S.keep n {aH S.cur n with links:=(aH S.cur n).links+1}) d2 n (aL bD)
 sm2:lW (S.keep n {aH S.cur n with links:=(aH S.cur n).links+1})
 chg:∀S1,zQ S n d2 (aL bD)=some S1->nX S S1
theorem aq5 {vs:Value} {op mode kk:Int} {path bD:List UInt8} (hC:VC S a) (hV:VW S) (hb:S.D.back=[]) (hv:aV path=true) (hp:path.length<=1048576) (hv2:aV bD=true) (hp2:bD.length<=1048576)
  (hch:∀d m d2:Nat,m<S.names->aU S.cur S.data 0 0 (splitB path)=((d:Int),(m:Int),0)->¬(aH S.cur m).kind=1->(aU S.cur S.data 0 0 (splitB bD))=((d2:Int), -1,0)->S.nodes<256->ahG S d2 bD m) (h:Sep w0 w (aF f q p S a::R)):
  Calls Tryz.prog 59 #[pV f,.agg #[iV op,aC path,aC bD,iV mode,iV kk],vs] w (mW f q p S (adF S path bD) w0 R):=by
 have hno:Hid (∀W bi bf,Sep w0 W (.box bi 46 #[iV op,aC path,aC bD,iV mode,iV kk]:: .box bf 37 #[pV f]::aF f q p S a::R)->W.cell? ⟨bf,0,none⟩=some (pV f)/\W.cell? ⟨bi,1,none⟩=some (aC path)/\Calls Tryz.prog 123 #[pV f,aC path] W fun e w'=>e=IA S.cur (aU S.cur S.data 0 0 (splitB path))/\∃a',VC S a'/\Sep w0 w' (aF f q p S a':: .box bi 46 #[iV op,aC path,aC bD,iV mode,iV kk]:: .box bf 37 #[pV f]::R)):=Lh fun W bi bf hW=>
  ⟨hW.bC 1 rfl 0,hW.bC 0 rfl 1,(BK hC hV hv hp (Sep.dB [2,0,1] hW aR bK)).mono fun e w' ⟨h1,a',h2,h3⟩=>⟨h1,a',h2.ok,h3⟩⟩
 have hnt:Hid (∀W (d m:Nat) bn bi bf a1,VC S a1->Sep w0 W (.box bn 3 #[iV m]::aF f q p S a1:: .box bi 46 #[iV op,aC path,aC bD,iV mode,iV kk]:: .box bf 37 #[pV f]::R)->W.cell? ⟨bf,0,none⟩=some (pV f)/\W.cell? ⟨bi,2,none⟩=some (aC bD)/\Calls Tryz.prog 118 #[pV f,aC bD] W fun e w'=>e=pY (aU S.cur S.data 0 0 (splitB bD))/\∃a',VC S a'/\Sep w0 w' (.box bn 3 #[iV m]::aF f q p S a':: .box bi 46 #[iV op,aC path,aC bD,iV mode,iV kk]:: .box bf 37 #[pV f]::R)):=Lh fun W d m bn bi bf a1 kK hW=>
  ⟨hW.bC 3 rfl 0,hW.bC 2 rfl 2,(sI kK hV hv2 hp2 (Sep.dB [1,0,2,3] hW aR bK)).mono fun e w' ⟨h1,a',h2,h3⟩=>⟨h1,a',h2.ok,Sep.dB [1,0,2,3] h3 aR bK⟩⟩
 have hon:Hid (∀W d2 m bt bn bi bf a1,Sep w0 W (.box bt 3 #[iV d2]:: .box bn 3 #[iV m]::aF f q p S a1:: .box bi 46 #[iV op,aC path,aC bD,iV mode,iV kk]:: .box bf 37 #[pV f]::R)->W.cell? ⟨bf,0,none⟩=some (pV f)/\Calls Tryz.prog 70 #[pV f] W fun e w'=>e=(if S.nodes<256 then .returned (.tuple #[])else .panicked (fA 31))/\w'=W):=Lh fun W d2 m bt bn bi bf a1 hW=>⟨hW.bC 4 rfl 0,NV (Sep.dB [2,0,1] hW aR bK)⟩
 have hcg:Hid (∀d m d2:Nat,m<S.names->aU S.cur S.data 0 0 (splitB path)=((d:Int),(m:Int),0)->¬(aH S.cur m).kind=1->(aU S.cur S.data 0 0 (splitB bD))=((d2:Int), -1,0)->S.nodes<256->∀W bt bn bi bf a1,VC S a1->Sep w0 W (.box bt 3 #[iV d2]:: .box bn 3 #[iV m]::aF f q p S a1:: .box bi 46 #[iV op,aC path,aC bD,iV mode,iV kk]:: .box bf 37 #[pV f]::R)->W.cell? ⟨bf,0,none⟩=some (pV f)/\Calls Tryz.prog 73 #[pV f,.func (.func 126) #[] #[pV bf,pV bn,pV bt,pV bi]] W (dH f q p S (zQ S m d2 (aL bD)) w0 R)):=Lh fun d m d2 hm hl hk hl2 hnn W bt bn bi bf a1 kK hW=>by refine⟨hW.bC 4 rfl 0,?_⟩;have h1:Sep w0 W (aF f q p S a1:: .box bt 3 #[iV d2]:: .box bn 3 #[iV m]:: .box bi 46 #[iV op,aC path,aC bD,iV mode,iV kk]:: .box bf 37 #[pV f]::R):=Sep.dB [2,0,1] hW aR bK;have ho:=hch d m d2 hm hl hk hl2 hnn;(refine(rC (R':=.box bt 3 #[iV d2]:: .box bn 3 #[iV m]:: .box bi 46 #[iV op,aC path,aC bD,iV mode,iV kk]:: .box bf 37 #[pV f]::R) ZU kK hb (fun S1 e=>ho.chg S1 e) (fun W2 X hX=>?_) h1).mono fun e w' ho=>iZ (Y:=[_,_,_,_]) ho);exact amS (fun W3 Y hY=>by(have hY2:Sep w0 W3 ((Y++X)++(.box bt 3 #[iV d2]:: .box bn 3 #[iV m]:: .box bi 46 #[iV op,aC path,aC bD,iV mode,iV kk]:: .box bf 37 #[pV f]::R)):=by rw[pG];exact hY);exact⟨hY2.dS 3 rfl 0,hY2.dS 1 rfl 0,hY2.dS 0 rfl 0,hY2.dS 2 rfl 2⟩) kK hV.vf hv2 hp2 ⟨hm,hV.few m hm,hV.lt m hm⟩ ho.links ho.w ho.en ho.sm2 hX
 have hln:=qA hV (path:=path);have hok:=sH hV (splitB bD) 0 0 hV.n0 hV.n0;have hX0:Hid (Sep w0 ((w.alloc (.cells #[pV f] 37)).alloc (.cells #[iV op,aC path,aC bD,iV mode,iV kk] 46)) (.box (w.heap.size+1) 46 #[iV op,aC path,aC bD,iV mode,iV kk]:: .box w.heap.size 37 #[pV f]::aF f q p S a::R)):=Lh (by exact Z84);obtain⟨d0,d1,bZ⟩:=hno.out _ _ _ hX0.out;obtain⟨r,hr⟩:∃r,r=aU S.cur S.data 0 0 (splitB path):=⟨_,rfl⟩;obtain⟨r2,hr2⟩:∃r,r=(aU S.cur S.data 0 0 (splitB bD)):=⟨_,rfl⟩;unfold adF;rw[<-hr]at bZ hcg hln ⊢;rw[<-hr2]at hnt hcg hok ⊢;obtain⟨b1,hb1⟩:∃b,b=aL path:=⟨_,rfl⟩;obtain⟨b2,hb2⟩:∃b,b=aL bD:=⟨_,rfl⟩;rw[<-hb2]at hcg ⊢;clear hC hV hb hv hp hv2 hp2 hch h hno hr hr2 hX0 hb1 hb2;rw[BU]at bZ;cases hn:nP S.cur r with
 |some k=>rw[hn]at bZ;clear hcg hln hn hnt hok hon;unfold aC at*;simp only at bZ;go_enter Tryz.func59,Tryz.ntmps59;exact Z16
 |none=>
  rw[hn]at bZ;obtain⟨hr0,hr1,hr3⟩:=BV hn;obtain⟨d,m,hdl,FY,hre⟩:=hln hr0 hr1;rw[hre]at hr3;(have sN:=fun d2=>hcg.out d m d2 FY hre hr3);(have qB:=fun W=>hnt.out W d m);rw[hre]at bZ ⊢;simp only[nA]at bZ ⊢;clear hcg hln hn hr0 hr1 hr3 hdl FY hre hnt;rw[sK]at qB;cases hn2:gP r2 with
  |some k=>rw[hn2]at qB;replace qB:=Lh qB;clear sN hn2 hok hon;unfold aC at*;go_enter Tryz.func59,Tryz.ntmps59;go_wp2_with(first |(go_at_call 123;refine bZ.mono ?_;rintro e w9 ⟨rfl,a9,eX,h9⟩;have h8:=h9.bN 3 #[iV m];obtain⟨d3,d4,hcall⟩:=qB.out _ _ _ _ _ eX h8;clear h8 eX h9 bZ d0 d1 qB)|(go_at_call 118;refine hcall.mono ?_;rintro e w8 ⟨rfl,a8,zS,h8⟩;have hend:=Lh (And.intro zS h8);clear zS h8 hcall));unfold mW;exact⟨rfl,rfl,_,hend.out.1,(Sep.dB [0,2,3,1] hend.out.2 aR bK).drop 3⟩
  |none=>
   rw[hn2]at qB;obtain⟨hr0,hr1⟩:=sM hn2;obtain⟨⟨d2,_,hd⟩,hd2⟩:=hok hr0;have hd3:r2.2.1= -1:=by
    rcases hd2 with hd2|⟨m,_,hd2⟩
    ·exact hd2
    omega
   (have hre:r2=((d2:Int), -1,0):=by exact Z72);have NF:=sN d2 hre;rw[hre]at qB ⊢;simp only[nA]at qB ⊢;replace qB:=Lh qB;obtain⟨rX,wN⟩:∃rX,rX=zQ S m d2 b2:=⟨_,rfl⟩;rw[<-wN]at NF ⊢;clear sN hok hn2 hr0 hr1 hd hd2 hd3 hre wN;(have vZ:=fun W=>hon.out W d2 m);by_cases hnn:S.nodes<256
   ·replace NF:=Lh (NF hnn);rw[if_pos hnn]at vZ ⊢;replace vZ:=Lh vZ;clear hnn hon;unfold aC at*;unfold mW;go_enter Tryz.func59,Tryz.ntmps59;go_wp2_with(first |(go_at_call 123;refine bZ.mono ?_;rintro e w9 ⟨rfl,a9,eX,h9⟩;have h8:=h9.bN 3 #[iV m];obtain⟨d3,d4,hcall⟩:=qB.out _ _ _ _ _ eX h8;clear h8 eX h9 bZ d0 d1 qB)|(go_at_call 118;refine hcall.mono ?_;rintro e w8 ⟨rfl,a8,zS,h8⟩;have h7:=h8.bN 3 #[iV d2];obtain⟨d5,aAF⟩:=NF.out _ _ _ _ _ _ zS h7;obtain⟨d6,Q0⟩:=vZ.out _ _ _ _ _ _ h7;clear zS h8 h7 hcall NF vZ d3 d4)|(go_at_call 70;refine Q0.mono ?_;rintro e w7 ⟨rfl,h7⟩;obtain rfl:=h7.symm;clear Q0)|(go_at_call 73;refine aAF.mono ?_;intro e w7 ho;rcases iY ho with rfl|⟨k,rfl⟩))
    ·go_end0
     exact ho
    exact⟨rfl,ho⟩
   rw[if_neg hnn]at vZ ⊢;replace vZ:=Lh vZ;clear hnn hon NF;unfold aC at*;go_enter Tryz.func59,Tryz.ntmps59;go_wp2_with(first |(go_at_call 123;refine bZ.mono ?_;rintro e w9 ⟨rfl,a9,eX,h9⟩;have h8:=h9.bN 3 #[iV m];obtain⟨d3,d4,hcall⟩:=qB.out _ _ _ _ _ eX h8;clear h8 eX h9 bZ d0 d1 qB)|(go_at_call 118;refine hcall.mono ?_;rintro e w8 ⟨rfl,a8,zS,h8⟩;have h7:=h8.bN 3 #[iV d2];obtain⟨d6,Q0⟩:=vZ.out _ _ _ _ _ _ h7;have hend:=Lh (And.intro zS h7);clear zS h8 h7 hcall vZ d3 d4)|(go_at_call 70;refine Q0.mono ?_;rintro e w7 ⟨rfl,h7⟩;obtain rfl:=h7.symm;clear Q0));unfold mW;exact⟨rfl,rfl,_,hend.out.1,(Sep.dB [0,1,3,4,2] hend.out.2 aR bK).drop 4⟩
theorem aq6 {vs:Value} {op mode kk:Int} {path tz:List UInt8} (hC:VC S a) (h:Sep w0 w (aF f q p S a::R)):
  Calls Tryz.prog 64 #[pV f,.agg #[iV op,aC path,aC tz,iV mode,iV kk],vs] w fun e w'=>e= .returned (.tuple #[])/\Sep w0 w' (aF f q p S a::R):=by
 have h0:Sep w0 (w.alloc (.cells #[iV op,aC path,aC tz,iV mode,iV kk] 46)) (aF f q p S a:: .box w.heap.size 46 #[iV op,aC path,aC tz,iV mode,iV kk]::R):=(h.bN _ _).perm (List.Perm.swap _ _ _);have c0:(w.alloc (.cells #[iV op,aC path,aC tz,iV mode,iV kk] 46)).cell? ⟨f,0,none⟩=some (pV q):=by have h1:=h0.bG;have h2:Sep w0 _ (kF f q S a.sb (.map (some a.fb)) false::aG q p false::aO p S.D::dY a.sb a.SM::jK a.fb a.FM:: .box w.heap.size 46 #[iV op,aC path,aC tz,iV mode,iV kk]::R):=h1;exact h2.bC 0 rfl 0
 have hsy:Calls Tryz.prog 102 #[pV q] (w.alloc (.cells #[iV op,aC path,aC tz,iV mode,iV kk] 46)) fun e w'=>e= .returned (iV 0)/\Sep w0 w' (aF f q p S a::R):=by have h1:=h0.bG;have h2:Sep w0 (w.alloc (.cells #[iV op,aC path,aC tz,iV mode,iV kk] 46)) (aG q p false::aO p S.D::kF f q S a.sb (.map (some a.fb)) false::dY a.sb a.SM::jK a.fb a.FM:: .box w.heap.size 46 #[iV op,aC path,aC tz,iV mode,iV kk]::R):=Sep.dB [1,2,0] h1 aR (by simp[pU]);refine(xS hC.nV h2).mono ?_;rintro e w' ⟨rfl,h3⟩;rw[hC.on]at h3;refine⟨by rw[hC.on];rfl,?_⟩;have h4:Sep w0 w' (.box w.heap.size 46 #[iV op,aC path,aC tz,iV mode,iV kk]::(pU f q p S a++R)):=Sep.dB [5,2,0,1,3,4] h3 aR (by simp[pU]);exact(h4.drop 1).dC
 clear h h0 hC;unfold aC at*;go_enter Tryz.func64,Tryz.ntmps64;go_wp2_with(first |(go_at_call 102;refine hsy.mono ?_;rintro e w9 ⟨rfl,h9⟩;replace h9:=Lh h9;clear hsy)|(go_at_call 54;refine(eQ _ _).mono ?_;rintro e w8 ⟨rfl,h8⟩;obtain rfl:=h8.symm))
 go_end0
 exact⟨rfl,h9.out⟩
def aq7 (S:VS) (path bD:List UInt8) (mode:Nat):Except Int (Option VS):=
 match nP S.cur (aU S.cur S.data 0 0 (splitB path))with
 |some k=>.error k
 |none=>match gP (aU S.cur S.data 0 0 (splitB bD))with
  |some k=>.error k
  |none=>if S.nodes<256 then .ok (lK S (⟨2,mode,1,0,[]⟩:VI) (fB S.cur S.data (aH S.cur (aU S.cur S.data 0 0 (splitB path)).2.1.toNat)) (aU S.cur S.data 0 0 (splitB bD)).1.toNat (aL bD))else .error 31
theorem UX {vs:Value} {op kk:Int} {mode:Nat} {path bD:List UInt8} (hC:VC S a) (hV:VW S) (hb:S.D.back=[]) (hv:aV path=true) (hp:path.length<=1048576) (hv2:aV bD=true) (hp2:bD.length<=1048576)
  (hch:∀d m d2:Nat,m<S.names->aU S.cur S.data 0 0 (splitB path)=((d:Int),(m:Int),0)->¬(aH S.cur m).kind=1->(aU S.cur S.data 0 0 (splitB bD))=((d2:Int), -1,0)->S.nodes<256->(aH S.cur m).size<=512*(aH S.cur m).aB.length/\wX S (⟨2,mode,1,0,[]⟩:VI) (fB S.cur S.data (aH S.cur m)) d2 bD) (h:Sep w0 w (aF f q p S a::R)):
  Calls Tryz.prog 62 #[pV f,.agg #[iV op,aC path,aC bD,iV mode,iV kk],vs] w (mW f q p S (aq7 S path bD mode) w0 R):=by
 have hno:Hid (∀W bi,Sep w0 W (aF f q p S a:: .box bi 46 #[iV op,aC path,aC bD,iV mode,iV kk]::R)->W.cell? ⟨bi,1,none⟩=some (aC path)/\W.cell? ⟨bi,2,none⟩=some (aC bD)/\Calls Tryz.prog 123 #[pV f,aC path] W fun e w'=>e=IA S.cur (aU S.cur S.data 0 0 (splitB path))/\∃a',VC S a'/\Sep w0 w' (aF f q p S a':: .box bi 46 #[iV op,aC path,aC bD,iV mode,iV kk]::R)):=Lh fun W bi hW=>
  ⟨hW.bC 1 rfl 1,hW.bC 1 rfl 2,(BK hC hV hv hp hW).mono fun e w' ⟨h1,a',h2,h3⟩=>⟨h1,a',h2.ok,h3⟩⟩
 have hnt:Hid (∀W bi a1,VC S a1->Sep w0 W (aF f q p S a1:: .box bi 46 #[iV op,aC path,aC bD,iV mode,iV kk]::R)->W.cell? ⟨bi,2,none⟩=some (aC bD)/\Calls Tryz.prog 118 #[pV f,aC bD] W fun e w'=>e=pY (aU S.cur S.data 0 0 (splitB bD))/\∃a',VC S a'/\Sep w0 w' (aF f q p S a':: .box bi 46 #[iV op,aC path,aC bD,iV mode,iV kk]::R)):=Lh fun W bi a1 kK hW=>
  ⟨hW.bC 1 rfl 2,(sI kK hV hv2 hp2 hW).mono fun e w' ⟨h1,a',h2,h3⟩=>⟨h1,a',h2.ok,h3⟩⟩
 have hon:Hid (∀W bi a1,Sep w0 W (aF f q p S a1:: .box bi 46 #[iV op,aC path,aC bD,iV mode,iV kk]::R)->Calls Tryz.prog 70 #[pV f] W fun e w'=>e=(if S.nodes<256 then .returned (.tuple #[])else .panicked (fA 31))/\w'=W):=Lh fun W bi a1 hW=>NV hW
 have hct:Hid (∀d m d2:Nat,m<S.names->aU S.cur S.data 0 0 (splitB path)=((d:Int),(m:Int),0)->¬(aH S.cur m).kind=1->(aU S.cur S.data 0 0 (splitB bD))=((d2:Int), -1,0)->S.nodes<256->∀W bi a1,VC S a1->Sep w0 W (aF f q p S a1:: .box bi 46 #[iV op,aC path,aC bD,iV mode,iV kk]::R)->
   (W.cell? ⟨bi,2,none⟩=some (aC bD)/\W.cell? ⟨bi,3,none⟩=some (iV mode))/\Calls Tryz.prog 128 #[pV f,iV m] W fun e w'=>∃v,e= .returned v/\(w'.cell? ⟨bi,2,none⟩=some (aC bD)/\w'.cell? ⟨bi,3,none⟩=some (iV mode))/\
    Calls Tryz.prog 71 #[pV f,iV d2,aC bD,.agg #[iV 2,iV mode,iV 1,iV 0,.slice none 0 0],v] w' fun e w2=>dH f q p S (lK S (⟨2,mode,1,0,[]⟩:VI) (fB S.cur S.data (aH S.cur m)) d2 (aL bD)) w0 R e w2/\(w2.cell? ⟨bi,2,none⟩=some (aC bD)/\w2.cell? ⟨bi,3,none⟩=some (iV mode))):=Lh fun d m d2 hm hl hk hl2 hnn W bi a1 kK hW=>by
  obtain⟨hsz,hok⟩:=hch d m d2 hm hl hk hl2 hnn
  refine⟨⟨hW.bC 1 rfl 2,hW.bC 1 rfl 3⟩,(ME kK hV.vf hm (hV.few m hm) (hV.lt m hm) hsz hW).mono ?_⟩
  rintro e w' ⟨v,a2,rfl,hR2,h2⟩
  refine⟨v,rfl,⟨h2.bC 2 rfl 2,h2.bC 2 rfl 3⟩,?_⟩
  refine(QU (x:=(⟨2,mode,1,0,[]⟩:VI)) hR2.ok hV.vf hb hok (jI.part 0 rfl) (h2.perm (List.Perm.swap _ _ _))).mono fun e w2 ho=>?_
  obtain⟨Y,hY⟩:=WO ho
  exact⟨iZ (Y:=[_,_]) ho,hY.dS 1 rfl 2,hY.dS 1 rfl 3⟩
 have hln:=qA hV (path:=path);have hok:=sH hV (splitB bD) 0 0 hV.n0 hV.n0;have hX0:Hid (Sep w0 (w.alloc (.cells #[iV op,aC path,aC bD,iV mode,iV kk] 46)) (aF f q p S a:: .box w.heap.size 46 #[iV op,aC path,aC bD,iV mode,iV kk]::R)):=Lh ((h.bN _ _).perm (List.Perm.swap _ _ _));obtain⟨d0,d1,bZ⟩:=hno.out _ _ hX0.out;obtain⟨r,hr⟩:∃r,r=aU S.cur S.data 0 0 (splitB path):=⟨_,rfl⟩;obtain⟨r2,hr2⟩:∃r,r=(aU S.cur S.data 0 0 (splitB bD)):=⟨_,rfl⟩;unfold aq7;rw[<-hr]at bZ hct hln ⊢;rw[<-hr2]at hnt hct hok ⊢;obtain⟨b2,hb2⟩:∃b,b=aL bD:=⟨_,rfl⟩;rw[<-hb2]at hct ⊢;clear hC hV hb hv hp hv2 hp2 hch h hno hr hr2 hX0 hb2;rw[BU]at bZ;cases hn:nP S.cur r with
 |some k=>rw[hn]at bZ;clear hct hln hn hnt hok hon;unfold aC at*;simp only at bZ;go_enter Tryz.func62,Tryz.ntmps62;go_wp2_with(go_at_call 123;refine bZ.mono ?_;rintro e w9 ⟨rfl,a9,eX,h9⟩;have hend:=Lh (And.intro eX h9);clear eX h9 bZ);exact Z15
 |none=>
  rw[hn]at bZ;obtain⟨hr0,hr1,hr3⟩:=BV hn;obtain⟨d,m,hdl,FY,hre⟩:=hln hr0 hr1;rw[hre]at hr3;(have IU:=fun d2=>hct.out d m d2 FY hre hr3);rw[hre]at bZ ⊢;simp only[nA]at bZ ⊢;clear hct hln hn hr0 hr1 hr3 hdl FY hre;rw[sK]at hnt;cases hn2:gP r2 with
  |some k=>rw[hn2]at hnt;clear IU hn2 hok hon;unfold aC at*;go_enter Tryz.func62,Tryz.ntmps62;go_wp2_with(first |(go_at_call 123;refine bZ.mono ?_;rintro e w9 ⟨rfl,a9,eX,h9⟩;obtain⟨d4,hcall⟩:=hnt.out _ _ _ eX h9;clear eX h9 bZ d0 d1 hnt)|(go_at_call 118;refine hcall.mono ?_;rintro e w8 ⟨rfl,a8,zS,h8⟩;have hend:=Lh (And.intro zS h8);clear zS h8 hcall));exact Z15
  |none=>
   rw[hn2]at hnt;obtain⟨hr0,hr1⟩:=sM hn2;obtain⟨⟨d2,_,hd⟩,hd2⟩:=hok hr0;have hd3:r2.2.1= -1:=by
    rcases hd2 with hd2|⟨m,_,hd2⟩
    ·exact hd2
    omega
   (have hre:r2=((d2:Int), -1,0):=by exact Z72);have am4:=IU d2 hre;rw[hre]at hnt ⊢;simp only[nA]at hnt ⊢;obtain⟨rX,wN⟩:∃rX,rX=lK S (⟨2,mode,1,0,[]⟩:VI) (fB S.cur S.data (aH S.cur m)) d2 b2:=⟨_,rfl⟩;rw[<-wN]at am4 ⊢;clear IU hok hn2 hr0 hr1 hd hd2 hd3 hre wN;by_cases hnn:S.nodes<256
   ·replace am4:=Lh (am4 hnn);rw[if_pos hnn]at hon ⊢;clear hnn;unfold aC at*;unfold mW;go_enter Tryz.func62,Tryz.ntmps62;go_wp2_with(first |(go_at_call 123;refine bZ.mono ?_;rintro e w9 ⟨rfl,a9,eX,h9⟩;obtain⟨d4,hcall⟩:=hnt.out _ _ _ eX h9;clear eX h9 bZ d0 d1 hnt)|(go_at_call 118;refine hcall.mono ?_;rintro e w8 ⟨rfl,a8,zS,h8⟩;obtain⟨hE,aEJ⟩:=am4.out _ _ _ zS h8.drew;have Q0:=hon.out _ _ _ h8;clear zS h8 hcall am4 hon d4)|(go_at_call 70;refine Q0.mono ?_;rintro e w7 ⟨rfl,h7⟩;obtain rfl:=h7.symm;clear Q0));refine aP (S:=fun w'=>w'.cell? ⟨w.heap.size,2,none⟩=some (.string ⟨bD.toArray⟩)/\w'.cell? ⟨w.heap.size,3,none⟩=some (iV mode)) 14 ?_;refine aA 0 hE ?_;refine aA 1 hE ?_;refine aA 2 hE ?_;refine aA 3 hE ?_;refine aA 4 hE ?_;refine aA 5 hE ?_;refine aA 6 hE ?_;refine aA 7 hE ?_;refine aA 8 hE ?_;refine aA 9 hE ?_;refine aA 10 hE ?_;refine aA 11 hE ?_;(refine bI 12 fun K hK=>?_);go_simp;go_at_call 128;refine aEJ.mono ?_;rintro e w6 ⟨v,rfl,hE6,hmd⟩;clear hE aEJ;dsimp only;refine hK _ _ (fun _=>hE6) ?_;clear hK K;(try simp only[Act.put,gD]);(refine bI 13 fun K hK=>?_);go_simp;go_at_call 71;refine hmd.mono ?_;rintro e w5 ⟨ho,rV⟩;rcases iY ho with rfl|⟨k,rfl⟩
    ·dsimp only;refine hK _ _ (fun _=>rV) ?_;clear hK K;(try simp only[Act.put,gD]);refine aQ fE ?_ _
     go_end0
     exact ho
    exact⟨rfl,ho⟩
   rw[if_neg hnn]at hon ⊢;clear hnn am4;unfold aC at*;go_enter Tryz.func62,Tryz.ntmps62;go_wp2_with(first |(go_at_call 123;refine bZ.mono ?_;rintro e w9 ⟨rfl,a9,eX,h9⟩;obtain⟨d4,hcall⟩:=hnt.out _ _ _ eX h9;clear eX h9 bZ d0 d1 hnt)|(go_at_call 118;refine hcall.mono ?_;rintro e w8 ⟨rfl,a8,zS,h8⟩;have Q0:=hon.out _ _ _ h8;have hend:=Lh (And.intro zS h8);clear zS h8 hcall hon d4)|(go_at_call 70;refine Q0.mono ?_;rintro e w7 ⟨rfl,h7⟩;obtain rfl:=h7.symm;clear Q0));exact Z15
end
end Go.Proofs.YtmjomdkleikgbaaGreat
