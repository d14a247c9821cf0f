/- Parts. -/
import Derived.Test.YtmjomdkleikgbaaGreatJ20
set_option linter.unusedVariables false
set_option linter.unusedSimpArgs false
set_option maxRecDepth 100000
set_option maxHeartbeats 20000000
namespace Go.Proofs.YtmjomdkleikgbaaGreat
open Go.RowKit
def dU (r:Int×Int×Int):Option Int:=if r.2.2=0 then(if r.2.1<0 then some 21 else none)else some r.2.2
def nA (c:fK) (r:Int×Int×Int):Option Int:=if r.2.2=0 then(if r.2.1<0 then some 21 else if(aF c r.2.1.toNat).kind=1 then some 24 else none)else some r.2.2
theorem qN (r:Int×Int×Int):lH r=match dU r with|some k=>.panicked (eQ k)|none=>.returned (.tuple #[iV r.1,iV r.2.1]):=by unfold lH dU;exact Z36
theorem AQ (c:fK) (r:Int×Int×Int):F5 c r=match nA c r with|some k=>.panicked (eQ k)|none=>.returned (.tuple #[iV r.1,iV r.2.1]):=by
 unfold F5 nA;by_cases h1:r.2.2=0
 ·rw[if_pos h1,if_pos h1];by_cases h2:r.2.1<0
  ·rw[if_pos h2,if_pos h2]
  rw[if_neg h2,if_neg h2];by_cases h3:(aF c r.2.1.toNat).kind=1
  ·rw[if_pos h3,if_pos h3]
  rw[if_neg h3,if_neg h3]
 rw[if_neg h1,if_neg h1]
theorem qO {r:Int×Int×Int} (h:dU r=none):r.2.2=0/\¬r.2.1<0:=by
 unfold dU at h;by_cases h1:r.2.2=0
 ·rw[if_pos h1]at h;by_cases h2:r.2.1<0
  ·rw[if_pos h2]at h;cases h
  exact⟨h1,h2⟩
 rw[if_neg h1]at h;cases h
theorem AR {c:fK} {r:Int×Int×Int} (h:nA c r=none):r.2.2=0/\¬r.2.1<0/\¬(aF c r.2.1.toNat).kind=1:=by
 unfold nA at h;by_cases h1:r.2.2=0
 ·rw[if_pos h1]at h;by_cases h2:r.2.1<0
  ·rw[if_pos h2]at h;cases h
  rw[if_neg h2]at h;by_cases h3:(aF c r.2.1.toNat).kind=1
  ·rw[if_pos h3]at h;cases h
  exact⟨h1,h2,h3⟩
 rw[if_neg h1]at h;cases h
theorem nM {S:VS} (hV:VW S) {path:List UInt8} (h1:(aP S.cur S.data 0 0 (splitB path)).2.2=0) (h2:¬(aP S.cur S.data 0 0 (splitB path)).2.1<0):
  ∃d m:Nat,d<S.names/\m<S.names/\aP S.cur S.data 0 0 (splitB path)=((d:Int),(m:Int),0):=by
 obtain⟨⟨d,hd,e1⟩,h3⟩:=pF hV (splitB path) 0 0 hV.n0 hV.n0 h1;rcases h3 with h3|⟨m,hm,e2⟩
 ·omega
 exact⟨d,m,hd,hm,by rw[<-e1,<-e2,<-h1]⟩
theorem RY :∀args w,(callFunc 129 args).run Tryz.prog w= .ok (.enter 129 args) w:=Go.Proofs.enters_of Tryz.func129 fT rfl
theorem O6 :∀args w,(callFunc 127 args).run Tryz.prog w= .ok (.enter 127 args) w:=Go.Proofs.enters_of Tryz.func127 fT rfl
theorem O7 :∀args w,(callFunc 124 args).run Tryz.prog w= .ok (.enter 124 args) w:=Go.Proofs.enters_of Tryz.func124 fT rfl
theorem XE :∀args w,(callFunc 126 args).run Tryz.prog w= .ok (.enter 126 args) w:=Go.Proofs.enters_of Tryz.func126 fT rfl
theorem RZ :∀args w,(callFunc 119 args).run Tryz.prog w= .ok (.enter 119 args) w:=Go.Proofs.enters_of Tryz.func119 fT rfl
section
variable {w0 w:World} {R:List aV} {f q p:Nat} {S:VS} {a:VA}
def O8 (S:VS) (path:List UInt8) (mode:Nat):Except Int (Option VS):=
 match dU (aP S.cur S.data 0 0 (splitB path))with
 |some k=>.error k
 |none=>.ok (some (rO S (aP S.cur S.data 0 0 (splitB path)).2.1.toNat mode))
theorem Z19 {P:Prop} (h:P:=by go_wp2_with(go_at_call 107;refine bX.mono ?_;rintro e w9 ⟨rfl,a9,dQ,h9⟩;have hend:=Lh (And.intro dQ h9);clear dQ h9 bX);unfold mD;exact⟨rfl,rfl,_,hend.out.1,(Sep.dC [1,2,0] hend.out.2 aR bK).drop 2⟩):P:=h
theorem Z67 {P:Prop} (h:P:=by have h1:=(h.bN 37 #[pV f]).bN 46 #[iV op,aC path,aC tz,iV mode,iV kk];rw[sG]at h1;exact h1):P:=h
theorem aj7 {vs:Value} {op kk:Int} {mode:Nat} {path tz:List UInt8} (hC:VC S a) (hV:VW S) (hb:S.D.back=[]) (hv:aU path=true) (hp:path.length<=1048576) (hmode:mode<=511) (hs:fF S)
  (hch:∀d m:Nat,m<S.names->aP S.cur S.data 0 0 (splitB path)=((d:Int),(m:Int),0)->lT S (rO S m mode)) (h:Sep w0 w (aD f q p S a::R)):
  Calls Tryz.prog 63 #[pV f,.agg #[iV op,aC path,aC tz,iV mode,iV kk],vs] w (mD f q p S (O8 S path mode) w0 R):=by
 have hno:Hid (∀W bi bf,Sep w0 W (.box bi 46 #[iV op,aC path,aC tz,iV mode,iV kk]:: .box bf 37 #[pV f]::aD f q p S a::R)->W.cell? ⟨bf,0,none⟩=some (pV f)/\W.cell? ⟨bi,1,none⟩=some (aC path)/\Calls Tryz.prog 107 #[pV f,aC path] W fun e w'=>e=lH (aP S.cur S.data 0 0 (splitB path))/\∃a',VC S a'/\Sep w0 w' (aD f q p S a':: .box bi 46 #[iV op,aC path,aC tz,iV mode,iV kk]:: .box bf 37 #[pV f]::R)):=Lh fun W bi bf hW=>
  ⟨hW.bC 1 rfl 0,hW.bC 0 rfl 1,(nL hC hV hv hp (Sep.dC [2,0,1] hW aR bK)).mono fun e w' ⟨h1,a',h2,h3⟩=>⟨h1,a',h2.ok,h3⟩⟩
 have hcg:Hid (∀d m:Nat,m<S.names->aP S.cur S.data 0 0 (splitB path)=((d:Int),(m:Int),0)->∀W bn bi bf a1,VC S a1->Sep w0 W (.box bn 3 #[iV m]::aD f q p S a1:: .box bi 46 #[iV op,aC path,aC tz,iV mode,iV kk]:: .box bf 37 #[pV f]::R)->W.cell? ⟨bf,0,none⟩=some (pV f)/\Calls Tryz.prog 73 #[pV f,.func (.func 129) #[] #[pV bf,pV bn,pV bi]] W (dA f q p S (some (rO S m mode)) w0 R)):=Lh fun d m hm hl W bn bi bf a1 kE hW=>by refine⟨hW.bC 3 rfl 0,?_⟩;have h1:Sep w0 W (aD f q p S a1:: .box bn 3 #[iV m]:: .box bi 46 #[iV op,aC path,aC tz,iV mode,iV kk]:: .box bf 37 #[pV f]::R):=hW.perm (List.Perm.swap _ _ _);(refine(oF (R':=.box bn 3 #[iV m]:: .box bi 46 #[iV op,aC path,aC tz,iV mode,iV kk]:: .box bf 37 #[pV f]::R) RY kE hb (fun S1 e=>by cases e;exact hch d m hm hl) (fun W2 X hX=>?_) h1).mono fun e w' ho=>iQ (Y:=[_,_,_]) ho);exact aeI (fun W3 Y hY=>by(have hY2:Sep w0 W3 ((Y++X)++(.box bn 3 #[iV m]:: .box bi 46 #[iV op,aC path,aC tz,iV mode,iV kk]:: .box bf 37 #[pV f]::R)):=by rw[nT];exact hY);exact⟨hY2.dL 2 rfl 0,hY2.dL 0 rfl 0,hY2.dL 1 rfl 3⟩) kE hV.vf ⟨hm,hV.few m hm,hV.lt m hm⟩ hs hmode hX
 have hln:=nM hV (path:=path);have hX0:Hid (Sep w0 ((w.alloc (.cells #[pV f] 37)).alloc (.cells #[iV op,aC path,aC tz,iV mode,iV kk] 46)) (.box (w.heap.size+1) 46 #[iV op,aC path,aC tz,iV mode,iV kk]:: .box w.heap.size 37 #[pV f]::aD f q p S a::R)):=Lh (by exact Z67);obtain⟨d0,d1,bX⟩:=hno.out _ _ _ hX0.out;obtain⟨r,hr⟩:∃r,r=aP S.cur S.data 0 0 (splitB path):=⟨_,rfl⟩;unfold O8;rw[<-hr]at bX hcg hln ⊢;clear hC hV hb hv hp hmode hs hch h hno hr hX0;rw[qN]at bX;cases hn:dU r with
 |some k=>rw[hn]at bX;clear hcg hln hn;unfold aC at*;simp only at bX;go_enter Tryz.func63,Tryz.ntmps63;exact Z19
 |none=>
  rw[hn]at bX;obtain⟨hr0,hr1⟩:=qO hn;obtain⟨d,m,hdl,zH,hre⟩:=hln hr0 hr1;have qZ:=hcg.out d m zH hre;rw[hre]at bX ⊢;simp only[lM]at bX ⊢;obtain⟨rX,vN⟩:∃rX,rX=some (rO S m mode):=⟨_,rfl⟩;rw[<-vN]at qZ ⊢;replace qZ:=Lh qZ;clear hcg hln hn hr0 hr1 hdl zH hre vN;unfold aC at*;unfold mD;go_enter Tryz.func63,Tryz.ntmps63;go_wp2_with(first |(go_at_call 107;refine bX.mono ?_;rintro e w9 ⟨rfl,a9,dQ,h9⟩;obtain⟨d3,hcall⟩:=qZ.out _ _ _ _ _ dQ (h9.bN 3 #[iV m]);clear dQ h9 bX d0 d1 qZ)|(go_at_call 73;refine hcall.mono ?_;intro e w7 ho;rcases iP ho with rfl|⟨k,rfl⟩))
  ·go_end0
   exact ho
  exact⟨rfl,ho⟩
def GL (S:VS) (path:List UInt8):Except Int (Option VS):=
 match nA S.cur (aP S.cur S.data 0 0 (splitB path))with
 |some k=>.error k
 |none=>.ok (some (nW S (aP S.cur S.data 0 0 (splitB path)).1.toNat (aL path) (aP S.cur S.data 0 0 (splitB path)).2.1.toNat))
structure O9 (S:VS) (dir:Nat) (path:List UInt8) (n:Nat):Prop where
 lv:vK S dir (aL path)
 sm:lI S
 ino:mZ (bZ S dir (aL path)) n
 links:1<=(aF (bZ S dir (aL path)).cur n).links
 w:fF (bZ S dir (aL path))
 drop:mZ ((bZ S dir (aL path)).keep n {aF (bZ S dir (aL path)).cur n with links:=(aF (bZ S dir (aL path)).cur n).links-1}) n
 dw:fF ((bZ S dir (aL path)).keep n {aF (bZ S dir (aL path)).cur n with links:=(aF (bZ S dir (aL path)).cur n).links-1})
 chg:lT S (nW S dir (aL path) n)
theorem Z13 {P:Prop} (h:P:=by go_wp2_with(go_at_call 123;refine bX.mono ?_;rintro e w9 ⟨rfl,a9,dQ,h9⟩;have hend:=Lh (And.intro dQ h9);clear dQ h9 bX);unfold mD;exact⟨rfl,rfl,_,hend.out.1,(Sep.dC [1,2,0] hend.out.2 aR bK).drop 2⟩):P:=h
theorem aeQ {vs:Value} {op mode kk:Int} {path tz:List UInt8} (hC:VC S a) (hV:VW S) (hb:S.D.back=[]) (hv:aU path=true) (hp:path.length<=1048576)
  (hch:∀d m:Nat,m<S.names->aP S.cur S.data 0 0 (splitB path)=((d:Int),(m:Int),0)->¬(aF S.cur m).kind=1->O9 S d path m) (h:Sep w0 w (aD f q p S a::R)):
  Calls Tryz.prog 60 #[pV f,.agg #[iV op,aC path,aC tz,iV mode,iV kk],vs] w (mD f q p S (GL S path) w0 R):=by
 have hno:Hid (∀W bi bf,Sep w0 W (.box bi 46 #[iV op,aC path,aC tz,iV mode,iV kk]:: .box bf 37 #[pV f]::aD f q p S a::R)->W.cell? ⟨bf,0,none⟩=some (pV f)/\W.cell? ⟨bi,1,none⟩=some (aC path)/\Calls Tryz.prog 123 #[pV f,aC path] W fun e w'=>e=F5 S.cur (aP S.cur S.data 0 0 (splitB path))/\∃a',VC S a'/\Sep w0 w' (aD f q p S a':: .box bi 46 #[iV op,aC path,aC tz,iV mode,iV kk]:: .box bf 37 #[pV f]::R)):=Lh fun W bi bf hW=>
  ⟨hW.bC 1 rfl 0,hW.bC 0 rfl 1,(zY hC hV hv hp (Sep.dC [2,0,1] hW aR bK)).mono fun e w' ⟨h1,a',h2,h3⟩=>⟨h1,a',h2.ok,h3⟩⟩
 have hcg:Hid (∀d m:Nat,m<S.names->aP S.cur S.data 0 0 (splitB path)=((d:Int),(m:Int),0)->¬(aF S.cur m).kind=1->∀W bn bd bi bf a1,VC S a1->Sep w0 W (.box bn 3 #[iV m]:: .box bd 3 #[iV d]::aD f q p S a1:: .box bi 46 #[iV op,aC path,aC tz,iV mode,iV kk]:: .box bf 37 #[pV f]::R)->W.cell? ⟨bf,0,none⟩=some (pV f)/\Calls Tryz.prog 73 #[pV f,.func (.func 127) #[] #[pV bf,pV bd,pV bi,pV bn]] W (dA f q p S (some (nW S d (aL path) m)) w0 R)):=Lh fun d m hm hl hk W bn bd bi bf a1 kE hW=>by refine⟨hW.bC 4 rfl 0,?_⟩;have h1:Sep w0 W (aD f q p S a1:: .box bn 3 #[iV m]:: .box bd 3 #[iV d]:: .box bi 46 #[iV op,aC path,aC tz,iV mode,iV kk]:: .box bf 37 #[pV f]::R):=Sep.dC [2,0,1] hW aR bK;have ho:=hch d m hm hl hk;(refine(oF (R':=.box bn 3 #[iV m]:: .box bd 3 #[iV d]:: .box bi 46 #[iV op,aC path,aC tz,iV mode,iV kk]:: .box bf 37 #[pV f]::R) O6 kE hb (fun S1 e=>by cases e;exact ho.chg) (fun W2 X hX=>?_) h1).mono fun e w' ho=>iQ (Y:=[_,_,_,_]) ho);exact aaW (fun W3 Y hY=>by(have hY2:Sep w0 W3 ((Y++X)++(.box bn 3 #[iV m]:: .box bd 3 #[iV d]:: .box bi 46 #[iV op,aC path,aC tz,iV mode,iV kk]:: .box bf 37 #[pV f]::R)):=by rw[nT];exact hY);exact⟨hY2.dL 3 rfl 0,hY2.dL 1 rfl 0,hY2.dL 2 rfl 1,hY2.dL 0 rfl 0⟩) kE hV.vf hv hp ho.lv ho.sm ho.ino ho.links ho.w ho.drop ho.dw hX
 have hln:=nM hV (path:=path);have hX0:Hid (Sep w0 ((w.alloc (.cells #[pV f] 37)).alloc (.cells #[iV op,aC path,aC tz,iV mode,iV kk] 46)) (.box (w.heap.size+1) 46 #[iV op,aC path,aC tz,iV mode,iV kk]:: .box w.heap.size 37 #[pV f]::aD f q p S a::R)):=Lh (by exact Z67);obtain⟨d0,d1,bX⟩:=hno.out _ _ _ hX0.out;obtain⟨r,hr⟩:∃r,r=aP S.cur S.data 0 0 (splitB path):=⟨_,rfl⟩;unfold GL;rw[<-hr]at bX hcg hln ⊢;clear hC hV hb hv hp hch h hno hr hX0;rw[AQ]at bX;cases hn:nA S.cur r with
 |some k=>rw[hn]at bX;clear hcg hln hn;unfold aC at*;simp only at bX;go_enter Tryz.func60,Tryz.ntmps60;exact Z13
 |none=>
  rw[hn]at bX;obtain⟨hr0,hr1,hr2⟩:=AR hn;obtain⟨d,m,hdl,zH,hre⟩:=hln hr0 hr1;rw[hre]at hr2;have qZ:=hcg.out d m zH hre hr2;rw[hre]at bX ⊢;simp only[lM]at bX ⊢;obtain⟨rX,vN⟩:∃rX,rX=some (nW S d (aL path) m):=⟨_,rfl⟩;rw[<-vN]at qZ ⊢;replace qZ:=Lh qZ;clear hcg hln hn hr0 hr1 hr2 hdl zH hre vN;unfold aC at*;unfold mD;go_enter Tryz.func60,Tryz.ntmps60;go_wp2_with(first |(go_at_call 123;refine bX.mono ?_;rintro e w9 ⟨rfl,a9,dQ,h9⟩;have h8:=(h9.bN 3 #[iV d]).bN 3 #[iV m];rw[sG]at h8;obtain⟨d3,hcall⟩:=qZ.out _ _ _ _ _ _ dQ h8;clear h8 dQ h9 bX d0 d1 qZ)|(go_at_call 73;refine hcall.mono ?_;intro e w7 ho;rcases iP ho with rfl|⟨k,rfl⟩))
  ·go_end0
   exact ho
  exact⟨rfl,ho⟩
def GM (S:VS) (path aW:List UInt8):Except Int (Option VS):=
 match nA S.cur (aP S.cur S.data 0 0 (splitB path))with
 |some k=>.error k
 |none=>match fQ (aP S.cur S.data 0 0 (splitB aW))with
  |some k=>.error k
  |none=>.ok (nX S (aP S.cur S.data 0 0 (splitB path)).1.toNat (aL path) (aP S.cur S.data 0 0 (splitB aW)).1.toNat (aL aW) (aP S.cur S.data 0 0 (splitB path)).2.1.toNat)
structure PD (S:VS) (d d2:Nat) (path aW:List UInt8) (n:Nat):Prop where
 lv:vK S d (aL path)
 sm:lI S
 en:nV (bZ S d (aL path)) d2 n (aL aW)
 sm2:lI (bZ S d (aL path))
 chg:∀S1,nX S d (aL path) d2 (aL aW) n=some S1->lT S S1
theorem Z61 {P:Prop} (h:P:=by obtain⟨r1,r2,r3⟩:=r2;simp only at hd hd3 hr0;rw[hd,hd3,hr0]):P:=h
theorem Z70 {P:Prop} (h:P:=by have h1:=(h.bN 37 #[pV f]).bN 46 #[iV op,aC path,aC aW,iV mode,iV kk];rw[sG]at h1;exact h1):P:=h
theorem aeR {vs:Value} {op mode kk:Int} {path aW:List UInt8} (hC:VC S a) (hV:VW S) (hb:S.D.back=[]) (hv:aU path=true) (hp:path.length<=1048576) (hv2:aU aW=true) (hp2:aW.length<=1048576)
  (hch:∀d m d2:Nat,m<S.names->aP S.cur S.data 0 0 (splitB path)=((d:Int),(m:Int),0)->¬(aF S.cur m).kind=1->(aP S.cur S.data 0 0 (splitB aW))=((d2:Int), -1,0)->PD S d d2 path aW m) (h:Sep w0 w (aD f q p S a::R)):
  Calls Tryz.prog 58 #[pV f,.agg #[iV op,aC path,aC aW,iV mode,iV kk],vs] w (mD f q p S (GM S path aW) w0 R):=by
 have hno:Hid (∀W bi bf,Sep w0 W (.box bi 46 #[iV op,aC path,aC aW,iV mode,iV kk]:: .box bf 37 #[pV f]::aD f q p S a::R)->W.cell? ⟨bf,0,none⟩=some (pV f)/\W.cell? ⟨bi,1,none⟩=some (aC path)/\Calls Tryz.prog 123 #[pV f,aC path] W fun e w'=>e=F5 S.cur (aP S.cur S.data 0 0 (splitB path))/\∃a',VC S a'/\Sep w0 w' (aD f q p S a':: .box bi 46 #[iV op,aC path,aC aW,iV mode,iV kk]:: .box bf 37 #[pV f]::R)):=Lh fun W bi bf hW=>
  ⟨hW.bC 1 rfl 0,hW.bC 0 rfl 1,(zY hC hV hv hp (Sep.dC [2,0,1] hW aR bK)).mono fun e w' ⟨h1,a',h2,h3⟩=>⟨h1,a',h2.ok,h3⟩⟩
 have hnt:Hid (∀W (d m:Nat) bn bd bi bf a1,VC S a1->Sep w0 W (.box bn 3 #[iV m]:: .box bd 3 #[iV d]::aD f q p S a1:: .box bi 46 #[iV op,aC path,aC aW,iV mode,iV kk]:: .box bf 37 #[pV f]::R)->W.cell? ⟨bf,0,none⟩=some (pV f)/\W.cell? ⟨bi,2,none⟩=some (aC aW)/\Calls Tryz.prog 118 #[pV f,aC aW] W fun e w'=>e=pE (aP S.cur S.data 0 0 (splitB aW))/\∃a',VC S a'/\Sep w0 w' (.box bn 3 #[iV m]:: .box bd 3 #[iV d]::aD f q p S a':: .box bi 46 #[iV op,aC path,aC aW,iV mode,iV kk]:: .box bf 37 #[pV f]::R)):=Lh fun W d m bn bd bi bf a1 kE hW=>
  ⟨hW.bC 4 rfl 0,hW.bC 3 rfl 2,(qW kE hV hv2 hp2 (Sep.dC [2,0,1,3,4] hW aR bK)).mono fun e w' ⟨h1,a',h2,h3⟩=>⟨h1,a',h2.ok,Sep.dC [1,2,0,3,4] h3 aR bK⟩⟩
 have hcg:Hid (∀d m d2:Nat,m<S.names->aP S.cur S.data 0 0 (splitB path)=((d:Int),(m:Int),0)->¬(aF S.cur m).kind=1->(aP S.cur S.data 0 0 (splitB aW))=((d2:Int), -1,0)->∀W bt bn bd bi bf a1,VC S a1->Sep w0 W (.box bt 3 #[iV d2]:: .box bn 3 #[iV m]:: .box bd 3 #[iV d]::aD f q p S a1:: .box bi 46 #[iV op,aC path,aC aW,iV mode,iV kk]:: .box bf 37 #[pV f]::R)->W.cell? ⟨bf,0,none⟩=some (pV f)/\Calls Tryz.prog 73 #[pV f,.func (.func 124) #[] #[pV bf,pV bd,pV bi,pV bt,pV bn]] W (dA f q p S (nX S d (aL path) d2 (aL aW) m) w0 R)):=Lh fun d m d2 hm hl hk hl2 W bt bn bd bi bf a1 kE hW=>by refine⟨hW.bC 5 rfl 0,?_⟩;have h1:Sep w0 W (aD f q p S a1:: .box bt 3 #[iV d2]:: .box bn 3 #[iV m]:: .box bd 3 #[iV d]:: .box bi 46 #[iV op,aC path,aC aW,iV mode,iV kk]:: .box bf 37 #[pV f]::R):=Sep.dC [3,0,1,2] hW aR bK;have ho:=hch d m d2 hm hl hk hl2;(refine(oF (R':=.box bt 3 #[iV d2]:: .box bn 3 #[iV m]:: .box bd 3 #[iV d]:: .box bi 46 #[iV op,aC path,aC aW,iV mode,iV kk]:: .box bf 37 #[pV f]::R) O7 kE hb (fun S1 e=>ho.chg S1 e) (fun W2 X hX=>?_) h1).mono fun e w' ho=>iQ (Y:=[_,_,_,_,_]) ho);exact aaV (fun W3 Y hY=>by(have hY2:Sep w0 W3 ((Y++X)++(.box bt 3 #[iV d2]:: .box bn 3 #[iV m]:: .box bd 3 #[iV d]:: .box bi 46 #[iV op,aC path,aC aW,iV mode,iV kk]:: .box bf 37 #[pV f]::R)):=by rw[nT];exact hY);exact⟨hY2.dL 4 rfl 0,hY2.dL 2 rfl 0,hY2.dL 3 rfl 1,hY2.dL 3 rfl 2,hY2.dL 0 rfl 0,hY2.dL 1 rfl 0⟩) kE hV.vf hv hp hv2 hp2 ho.lv ho.sm ho.en ho.sm2 hX
 have hln:=nM hV (path:=path);have hok:=pF hV (splitB aW) 0 0 hV.n0 hV.n0;have hX0:Hid (Sep w0 ((w.alloc (.cells #[pV f] 37)).alloc (.cells #[iV op,aC path,aC aW,iV mode,iV kk] 46)) (.box (w.heap.size+1) 46 #[iV op,aC path,aC aW,iV mode,iV kk]:: .box w.heap.size 37 #[pV f]::aD f q p S a::R)):=Lh (by exact Z70);obtain⟨d0,d1,bX⟩:=hno.out _ _ _ hX0.out;obtain⟨r,hr⟩:∃r,r=aP S.cur S.data 0 0 (splitB path):=⟨_,rfl⟩;obtain⟨r2,hr2⟩:∃r,r=(aP S.cur S.data 0 0 (splitB aW)):=⟨_,rfl⟩;unfold GM;rw[<-hr]at bX hcg hln ⊢;rw[<-hr2]at hnt hcg hok ⊢;obtain⟨b1,hb1⟩:∃b,b=aL path:=⟨_,rfl⟩;obtain⟨b2,hb2⟩:∃b,b=aL aW:=⟨_,rfl⟩;rw[<-hb2]at hcg ⊢;rw[<-hb1]at hcg ⊢;clear hC hV hb hv hp hv2 hp2 hch h hno hr hr2 hX0 hb1 hb2;rw[AQ]at bX;cases hn:nA S.cur r with
 |some k=>rw[hn]at bX;clear hcg hln hn hnt hok;unfold aC at*;simp only at bX;go_enter Tryz.func58,Tryz.ntmps58;exact Z13
 |none=>
  rw[hn]at bX;obtain⟨hr0,hr1,hr3⟩:=AR hn;obtain⟨d,m,hdl,zH,hre⟩:=hln hr0 hr1;rw[hre]at hr3;(have qZ:=fun d2=>hcg.out d m d2 zH hre hr3);(have pG:=fun W=>hnt.out W d m);rw[hre]at bX ⊢;simp only[lM]at bX ⊢;clear hcg hln hn hr0 hr1 hr3 hdl zH hre hnt;rw[qX]at pG;cases hn2:fQ r2 with
  |some k=>rw[hn2]at pG;replace pG:=Lh pG;clear qZ hn2 hok;unfold aC at*;go_enter Tryz.func58,Tryz.ntmps58;go_wp2_with(first |(go_at_call 123;refine bX.mono ?_;rintro e w9 ⟨rfl,a9,dQ,h9⟩;have h8:=(h9.bN 3 #[iV d]).bN 3 #[iV m];rw[sG]at h8;obtain⟨d3,d4,hcall⟩:=pG.out _ _ _ _ _ _ dQ h8;clear h8 dQ h9 bX d0 d1 pG)|(go_at_call 118;refine hcall.mono ?_;rintro e w8 ⟨rfl,a8,yR,h8⟩;have hend:=Lh (And.intro yR h8);clear yR h8 hcall));unfold mD;exact⟨rfl,rfl,_,hend.out.1,(Sep.dC [0,1,3,4,2] hend.out.2 aR bK).drop 4⟩
  |none=>
   rw[hn2]at pG;obtain⟨hr0,hr1⟩:=qY hn2;obtain⟨⟨d2,_,hd⟩,hd2⟩:=hok hr0;have hd3:r2.2.1= -1:=by
    rcases hd2 with hd2|⟨m,_,hd2⟩
    ·exact hd2
    omega
   (have hre:r2=((d2:Int), -1,0):=by exact Z61);have LM:=qZ d2 hre;rw[hre]at pG ⊢;simp only[lM]at pG ⊢;replace pG:=Lh pG;obtain⟨rX,vN⟩:∃rX,rX=nX S d b1 d2 b2 m:=⟨_,rfl⟩;rw[<-vN]at LM ⊢;clear qZ hok hn2 hr0 hr1 hd hd2 hd3 hre vN;replace LM:=Lh LM;unfold aC at*;unfold mD;go_enter Tryz.func58,Tryz.ntmps58;go_wp2_with(first |(go_at_call 123;refine bX.mono ?_;rintro e w9 ⟨rfl,a9,dQ,h9⟩;have h8:=(h9.bN 3 #[iV d]).bN 3 #[iV m];rw[sG]at h8;obtain⟨d3,d4,hcall⟩:=pG.out _ _ _ _ _ _ dQ h8;clear h8 dQ h9 bX d0 d1 pG)|(go_at_call 118;refine hcall.mono ?_;rintro e w8 ⟨rfl,a8,yR,h8⟩;obtain⟨d5,awV⟩:=LM.out _ _ _ _ _ _ _ yR (h8.bN 3 #[iV d2]);clear yR h8 hcall LM d3 d4)|(go_at_call 73;refine awV.mono ?_;intro e w7 ho;rcases iP ho with rfl|⟨k,rfl⟩))
   ·go_end0
    exact ho
   exact⟨rfl,ho⟩
def aa6 (S:VS) (path aW:List UInt8):Except Int (Option VS):=
 match nA S.cur (aP S.cur S.data 0 0 (splitB path))with
 |some k=>.error k
 |none=>match fQ (aP S.cur S.data 0 0 (splitB aW))with
  |some k=>.error k
  |none=>if S.nodes<256 then .ok (yP S (aP S.cur S.data 0 0 (splitB path)).2.1.toNat (aP S.cur S.data 0 0 (splitB aW)).1.toNat (aL aW))else .error 31
structure aeS (S:VS) (d2:Nat) (aW:List UInt8) (n:Nat):Prop where
 links:(aF S.cur n).links<65535
 w:fF S
 en:nV (S.keep n {aF S.cur n with links:=(aF S.cur n).links+1}) d2 n (aL aW)
 sm2:lI (S.keep n {aF S.cur n with links:=(aF S.cur n).links+1})
 chg:∀S1,yP S n d2 (aL aW)=some S1->lT S S1
theorem aoE {vs:Value} {op mode kk:Int} {path aW:List UInt8} (hC:VC S a) (hV:VW S) (hb:S.D.back=[]) (hv:aU path=true) (hp:path.length<=1048576) (hv2:aU aW=true) (hp2:aW.length<=1048576)
  (hch:∀d m d2:Nat,m<S.names->aP S.cur S.data 0 0 (splitB path)=((d:Int),(m:Int),0)->¬(aF S.cur m).kind=1->(aP S.cur S.data 0 0 (splitB aW))=((d2:Int), -1,0)->S.nodes<256->aeS S d2 aW m) (h:Sep w0 w (aD f q p S a::R)):
  Calls Tryz.prog 59 #[pV f,.agg #[iV op,aC path,aC aW,iV mode,iV kk],vs] w (mD f q p S (aa6 S path aW) w0 R):=by
 have hno:Hid (∀W bi bf,Sep w0 W (.box bi 46 #[iV op,aC path,aC aW,iV mode,iV kk]:: .box bf 37 #[pV f]::aD f q p S a::R)->W.cell? ⟨bf,0,none⟩=some (pV f)/\W.cell? ⟨bi,1,none⟩=some (aC path)/\Calls Tryz.prog 123 #[pV f,aC path] W fun e w'=>e=F5 S.cur (aP S.cur S.data 0 0 (splitB path))/\∃a',VC S a'/\Sep w0 w' (aD f q p S a':: .box bi 46 #[iV op,aC path,aC aW,iV mode,iV kk]:: .box bf 37 #[pV f]::R)):=Lh fun W bi bf hW=>
  ⟨hW.bC 1 rfl 0,hW.bC 0 rfl 1,(zY hC hV hv hp (Sep.dC [2,0,1] hW aR bK)).mono fun e w' ⟨h1,a',h2,h3⟩=>⟨h1,a',h2.ok,h3⟩⟩
 have hnt:Hid (∀W (d m:Nat) bn bi bf a1,VC S a1->Sep w0 W (.box bn 3 #[iV m]::aD f q p S a1:: .box bi 46 #[iV op,aC path,aC aW,iV mode,iV kk]:: .box bf 37 #[pV f]::R)->W.cell? ⟨bf,0,none⟩=some (pV f)/\W.cell? ⟨bi,2,none⟩=some (aC aW)/\Calls Tryz.prog 118 #[pV f,aC aW] W fun e w'=>e=pE (aP S.cur S.data 0 0 (splitB aW))/\∃a',VC S a'/\Sep w0 w' (.box bn 3 #[iV m]::aD f q p S a':: .box bi 46 #[iV op,aC path,aC aW,iV mode,iV kk]:: .box bf 37 #[pV f]::R)):=Lh fun W d m bn bi bf a1 kE hW=>
  ⟨hW.bC 3 rfl 0,hW.bC 2 rfl 2,(qW kE hV hv2 hp2 (Sep.dC [1,0,2,3] hW aR bK)).mono fun e w' ⟨h1,a',h2,h3⟩=>⟨h1,a',h2.ok,Sep.dC [1,0,2,3] h3 aR bK⟩⟩
 have hon:Hid (∀W d2 m bt bn bi bf a1,Sep w0 W (.box bt 3 #[iV d2]:: .box bn 3 #[iV m]::aD f q p S a1:: .box bi 46 #[iV op,aC path,aC aW,iV mode,iV kk]:: .box bf 37 #[pV f]::R)->W.cell? ⟨bf,0,none⟩=some (pV f)/\Calls Tryz.prog 70 #[pV f] W fun e w'=>e=(if S.nodes<256 then .returned (.tuple #[])else .panicked (eQ 31))/\w'=W):=Lh fun W d2 m bt bn bi bf a1 hW=>⟨hW.bC 4 rfl 0,F6 (Sep.dC [2,0,1] hW aR bK)⟩
 have hcg:Hid (∀d m d2:Nat,m<S.names->aP S.cur S.data 0 0 (splitB path)=((d:Int),(m:Int),0)->¬(aF S.cur m).kind=1->(aP S.cur S.data 0 0 (splitB aW))=((d2:Int), -1,0)->S.nodes<256->∀W bt bn bi bf a1,VC S a1->Sep w0 W (.box bt 3 #[iV d2]:: .box bn 3 #[iV m]::aD f q p S a1:: .box bi 46 #[iV op,aC path,aC aW,iV mode,iV kk]:: .box bf 37 #[pV f]::R)->W.cell? ⟨bf,0,none⟩=some (pV f)/\Calls Tryz.prog 73 #[pV f,.func (.func 126) #[] #[pV bf,pV bn,pV bt,pV bi]] W (dA f q p S (yP S m d2 (aL aW)) w0 R)):=Lh fun d m d2 hm hl hk hl2 hnn W bt bn bi bf a1 kE hW=>by refine⟨hW.bC 4 rfl 0,?_⟩;have h1:Sep w0 W (aD f q p S a1:: .box bt 3 #[iV d2]:: .box bn 3 #[iV m]:: .box bi 46 #[iV op,aC path,aC aW,iV mode,iV kk]:: .box bf 37 #[pV f]::R):=Sep.dC [2,0,1] hW aR bK;have ho:=hch d m d2 hm hl hk hl2 hnn;(refine(oF (R':=.box bt 3 #[iV d2]:: .box bn 3 #[iV m]:: .box bi 46 #[iV op,aC path,aC aW,iV mode,iV kk]:: .box bf 37 #[pV f]::R) XE kE hb (fun S1 e=>ho.chg S1 e) (fun W2 X hX=>?_) h1).mono fun e w' ho=>iQ (Y:=[_,_,_,_]) ho);exact ajX (fun W3 Y hY=>by(have hY2:Sep w0 W3 ((Y++X)++(.box bt 3 #[iV d2]:: .box bn 3 #[iV m]:: .box bi 46 #[iV op,aC path,aC aW,iV mode,iV kk]:: .box bf 37 #[pV f]::R)):=by rw[nT];exact hY);exact⟨hY2.dL 3 rfl 0,hY2.dL 1 rfl 0,hY2.dL 0 rfl 0,hY2.dL 2 rfl 2⟩) kE hV.vf hv2 hp2 ⟨hm,hV.few m hm,hV.lt m hm⟩ ho.links ho.w ho.en ho.sm2 hX
 have hln:=nM hV (path:=path);have hok:=pF hV (splitB aW) 0 0 hV.n0 hV.n0;have hX0:Hid (Sep w0 ((w.alloc (.cells #[pV f] 37)).alloc (.cells #[iV op,aC path,aC aW,iV mode,iV kk] 46)) (.box (w.heap.size+1) 46 #[iV op,aC path,aC aW,iV mode,iV kk]:: .box w.heap.size 37 #[pV f]::aD f q p S a::R)):=Lh (by exact Z70);obtain⟨d0,d1,bX⟩:=hno.out _ _ _ hX0.out;obtain⟨r,hr⟩:∃r,r=aP S.cur S.data 0 0 (splitB path):=⟨_,rfl⟩;obtain⟨r2,hr2⟩:∃r,r=(aP S.cur S.data 0 0 (splitB aW)):=⟨_,rfl⟩;unfold aa6;rw[<-hr]at bX hcg hln ⊢;rw[<-hr2]at hnt hcg hok ⊢;obtain⟨b1,hb1⟩:∃b,b=aL path:=⟨_,rfl⟩;obtain⟨b2,hb2⟩:∃b,b=aL aW:=⟨_,rfl⟩;rw[<-hb2]at hcg ⊢;clear hC hV hb hv hp hv2 hp2 hch h hno hr hr2 hX0 hb1 hb2;rw[AQ]at bX;cases hn:nA S.cur r with
 |some k=>rw[hn]at bX;clear hcg hln hn hnt hok hon;unfold aC at*;simp only at bX;go_enter Tryz.func59,Tryz.ntmps59;exact Z13
 |none=>
  rw[hn]at bX;obtain⟨hr0,hr1,hr3⟩:=AR hn;obtain⟨d,m,hdl,zH,hre⟩:=hln hr0 hr1;rw[hre]at hr3;(have qZ:=fun d2=>hcg.out d m d2 zH hre hr3);(have pG:=fun W=>hnt.out W d m);rw[hre]at bX ⊢;simp only[lM]at bX ⊢;clear hcg hln hn hr0 hr1 hr3 hdl zH hre hnt;rw[qX]at pG;cases hn2:fQ r2 with
  |some k=>rw[hn2]at pG;replace pG:=Lh pG;clear qZ hn2 hok hon;unfold aC at*;go_enter Tryz.func59,Tryz.ntmps59;go_wp2_with(first |(go_at_call 123;refine bX.mono ?_;rintro e w9 ⟨rfl,a9,dQ,h9⟩;have h8:=h9.bN 3 #[iV m];obtain⟨d3,d4,hcall⟩:=pG.out _ _ _ _ _ dQ h8;clear h8 dQ h9 bX d0 d1 pG)|(go_at_call 118;refine hcall.mono ?_;rintro e w8 ⟨rfl,a8,yR,h8⟩;have hend:=Lh (And.intro yR h8);clear yR h8 hcall));unfold mD;exact⟨rfl,rfl,_,hend.out.1,(Sep.dC [0,2,3,1] hend.out.2 aR bK).drop 3⟩
  |none=>
   rw[hn2]at pG;obtain⟨hr0,hr1⟩:=qY hn2;obtain⟨⟨d2,_,hd⟩,hd2⟩:=hok hr0;have hd3:r2.2.1= -1:=by
    rcases hd2 with hd2|⟨m,_,hd2⟩
    ·exact hd2
    omega
   (have hre:r2=((d2:Int), -1,0):=by exact Z61);have LM:=qZ d2 hre;rw[hre]at pG ⊢;simp only[lM]at pG ⊢;replace pG:=Lh pG;obtain⟨rX,vN⟩:∃rX,rX=yP S m d2 b2:=⟨_,rfl⟩;rw[<-vN]at LM ⊢;clear qZ hok hn2 hr0 hr1 hd hd2 hd3 hre vN;(have uZ:=fun W=>hon.out W d2 m);by_cases hnn:S.nodes<256
   ·replace LM:=Lh (LM hnn);rw[if_pos hnn]at uZ ⊢;replace uZ:=Lh uZ;clear hnn hon;unfold aC at*;unfold mD;go_enter Tryz.func59,Tryz.ntmps59;go_wp2_with(first |(go_at_call 123;refine bX.mono ?_;rintro e w9 ⟨rfl,a9,dQ,h9⟩;have h8:=h9.bN 3 #[iV m];obtain⟨d3,d4,hcall⟩:=pG.out _ _ _ _ _ dQ h8;clear h8 dQ h9 bX d0 d1 pG)|(go_at_call 118;refine hcall.mono ?_;rintro e w8 ⟨rfl,a8,yR,h8⟩;have h7:=h8.bN 3 #[iV d2];obtain⟨d5,awV⟩:=LM.out _ _ _ _ _ _ yR h7;obtain⟨d6,PE⟩:=uZ.out _ _ _ _ _ _ h7;clear yR h8 h7 hcall LM uZ d3 d4)|(go_at_call 70;refine PE.mono ?_;rintro e w7 ⟨rfl,h7⟩;obtain rfl:=h7.symm;clear PE)|(go_at_call 73;refine awV.mono ?_;intro e w7 ho;rcases iP ho with rfl|⟨k,rfl⟩))
    ·go_end0
     exact ho
    exact⟨rfl,ho⟩
   rw[if_neg hnn]at uZ ⊢;replace uZ:=Lh uZ;clear hnn hon LM;unfold aC at*;go_enter Tryz.func59,Tryz.ntmps59;go_wp2_with(first |(go_at_call 123;refine bX.mono ?_;rintro e w9 ⟨rfl,a9,dQ,h9⟩;have h8:=h9.bN 3 #[iV m];obtain⟨d3,d4,hcall⟩:=pG.out _ _ _ _ _ dQ h8;clear h8 dQ h9 bX d0 d1 pG)|(go_at_call 118;refine hcall.mono ?_;rintro e w8 ⟨rfl,a8,yR,h8⟩;have h7:=h8.bN 3 #[iV d2];obtain⟨d6,PE⟩:=uZ.out _ _ _ _ _ _ h7;have hend:=Lh (And.intro yR h7);clear yR h8 h7 hcall uZ d3 d4)|(go_at_call 70;refine PE.mono ?_;rintro e w7 ⟨rfl,h7⟩;obtain rfl:=h7.symm;clear PE));unfold mD;exact⟨rfl,rfl,_,hend.out.1,(Sep.dC [0,1,3,4,2] hend.out.2 aR bK).drop 4⟩
theorem aoF {vs:Value} {op mode kk:Int} {path tz:List UInt8} (hC:VC S a) (h:Sep w0 w (aD f q p S a::R)):
  Calls Tryz.prog 64 #[pV f,.agg #[iV op,aC path,aC tz,iV mode,iV kk],vs] w fun e w'=>e= .returned (.tuple #[])/\Sep w0 w' (aD f q p S a::R):=by
 have h0:Sep w0 (w.alloc (.cells #[iV op,aC path,aC tz,iV mode,iV kk] 46)) (aD f q p S a:: .box w.heap.size 46 #[iV op,aC path,aC tz,iV mode,iV kk]::R):=(h.bN _ _).perm (List.Perm.swap _ _ _);have c0:(w.alloc (.cells #[iV op,aC path,aC tz,iV mode,iV kk] 46)).cell? ⟨f,0,none⟩=some (pV q):=by have h1:=h0.bD;have h2:Sep w0 _ (kP f q S a.sb (.map (some a.fb)) false::aG q p false::aN p S.D::eT a.sb a.SM::jF a.fb a.FM:: .box w.heap.size 46 #[iV op,aC path,aC tz,iV mode,iV kk]::R):=h1;exact h2.bC 0 rfl 0
 have hsy:Calls Tryz.prog 102 #[pV q] (w.alloc (.cells #[iV op,aC path,aC tz,iV mode,iV kk] 46)) fun e w'=>e= .returned (iV 0)/\Sep w0 w' (aD f q p S a::R):=by have h1:=h0.bD;have h2:Sep w0 (w.alloc (.cells #[iV op,aC path,aC tz,iV mode,iV kk] 46)) (aG q p false::aN p S.D::kP f q S a.sb (.map (some a.fb)) false::eT a.sb a.SM::jF a.fb a.FM:: .box w.heap.size 46 #[iV op,aC path,aC tz,iV mode,iV kk]::R):=Sep.dC [1,2,0] h1 aR (by simp[o8]);refine(CG hC.oU h2).mono ?_;rintro e w' ⟨rfl,h3⟩;rw[hC.on]at h3;refine⟨by rw[hC.on];rfl,?_⟩;have h4:Sep w0 w' (.box w.heap.size 46 #[iV op,aC path,aC tz,iV mode,iV kk]::(o8 f q p S a++R)):=Sep.dC [5,2,0,1,3,4] h3 aR (by simp[o8]);exact(h4.drop 1).cZ
 clear h h0 hC;unfold aC at*;go_enter Tryz.func64,Tryz.ntmps64;go_wp2_with(first |(go_at_call 102;refine hsy.mono ?_;rintro e w9 ⟨rfl,h9⟩;replace h9:=Lh h9;clear hsy)|(go_at_call 54;refine(dO _ _).mono ?_;rintro e w8 ⟨rfl,h8⟩;obtain rfl:=h8.symm))
 go_end0
 exact⟨rfl,h9.out⟩
def aoG (S:VS) (path aW:List UInt8) (mode:Nat):Except Int (Option VS):=
 match nA S.cur (aP S.cur S.data 0 0 (splitB path))with
 |some k=>.error k
 |none=>match fQ (aP S.cur S.data 0 0 (splitB aW))with
  |some k=>.error k
  |none=>if S.nodes<256 then .ok (jV S (⟨2,mode,1,0,[]⟩:VI) (eU S.cur S.data (aF S.cur (aP S.cur S.data 0 0 (splitB path)).2.1.toNat)) (aP S.cur S.data 0 0 (splitB aW)).1.toNat (aL aW))else .error 31
theorem R3 {vs:Value} {op kk:Int} {mode:Nat} {path aW:List UInt8} (hC:VC S a) (hV:VW S) (hb:S.D.back=[]) (hv:aU path=true) (hp:path.length<=1048576) (hv2:aU aW=true) (hp2:aW.length<=1048576)
  (hch:∀d m d2:Nat,m<S.names->aP S.cur S.data 0 0 (splitB path)=((d:Int),(m:Int),0)->¬(aF S.cur m).kind=1->(aP S.cur S.data 0 0 (splitB aW))=((d2:Int), -1,0)->S.nodes<256->(aF S.cur m).size<=512*(aF S.cur m).aB.length/\uB S (⟨2,mode,1,0,[]⟩:VI) (eU S.cur S.data (aF S.cur m)) d2 aW) (h:Sep w0 w (aD f q p S a::R)):
  Calls Tryz.prog 62 #[pV f,.agg #[iV op,aC path,aC aW,iV mode,iV kk],vs] w (mD f q p S (aoG S path aW mode) w0 R):=by
 have hno:Hid (∀W bi,Sep w0 W (aD f q p S a:: .box bi 46 #[iV op,aC path,aC aW,iV mode,iV kk]::R)->W.cell? ⟨bi,1,none⟩=some (aC path)/\W.cell? ⟨bi,2,none⟩=some (aC aW)/\Calls Tryz.prog 123 #[pV f,aC path] W fun e w'=>e=F5 S.cur (aP S.cur S.data 0 0 (splitB path))/\∃a',VC S a'/\Sep w0 w' (aD f q p S a':: .box bi 46 #[iV op,aC path,aC aW,iV mode,iV kk]::R)):=Lh fun W bi hW=>
  ⟨hW.bC 1 rfl 1,hW.bC 1 rfl 2,(zY hC hV hv hp hW).mono fun e w' ⟨h1,a',h2,h3⟩=>⟨h1,a',h2.ok,h3⟩⟩
 have hnt:Hid (∀W bi a1,VC S a1->Sep w0 W (aD f q p S a1:: .box bi 46 #[iV op,aC path,aC aW,iV mode,iV kk]::R)->W.cell? ⟨bi,2,none⟩=some (aC aW)/\Calls Tryz.prog 118 #[pV f,aC aW] W fun e w'=>e=pE (aP S.cur S.data 0 0 (splitB aW))/\∃a',VC S a'/\Sep w0 w' (aD f q p S a':: .box bi 46 #[iV op,aC path,aC aW,iV mode,iV kk]::R)):=Lh fun W bi a1 kE hW=>
  ⟨hW.bC 1 rfl 2,(qW kE hV hv2 hp2 hW).mono fun e w' ⟨h1,a',h2,h3⟩=>⟨h1,a',h2.ok,h3⟩⟩
 have hon:Hid (∀W bi a1,Sep w0 W (aD f q p S a1:: .box bi 46 #[iV op,aC path,aC aW,iV mode,iV kk]::R)->Calls Tryz.prog 70 #[pV f] W fun e w'=>e=(if S.nodes<256 then .returned (.tuple #[])else .panicked (eQ 31))/\w'=W):=Lh fun W bi a1 hW=>F6 hW
 have hct:Hid (∀d m d2:Nat,m<S.names->aP S.cur S.data 0 0 (splitB path)=((d:Int),(m:Int),0)->¬(aF S.cur m).kind=1->(aP S.cur S.data 0 0 (splitB aW))=((d2:Int), -1,0)->S.nodes<256->∀W bi a1,VC S a1->Sep w0 W (aD f q p S a1:: .box bi 46 #[iV op,aC path,aC aW,iV mode,iV kk]::R)->
   (W.cell? ⟨bi,2,none⟩=some (aC aW)/\W.cell? ⟨bi,3,none⟩=some (iV mode))/\Calls Tryz.prog 128 #[pV f,iV m] W fun e w'=>∃v,e= .returned v/\(w'.cell? ⟨bi,2,none⟩=some (aC aW)/\w'.cell? ⟨bi,3,none⟩=some (iV mode))/\
    Calls Tryz.prog 71 #[pV f,iV d2,aC aW,.agg #[iV 2,iV mode,iV 1,iV 0,.slice none 0 0],v] w' fun e w2=>dA f q p S (jV S (⟨2,mode,1,0,[]⟩:VI) (eU S.cur S.data (aF S.cur m)) d2 (aL aW)) w0 R e w2/\(w2.cell? ⟨bi,2,none⟩=some (aC aW)/\w2.cell? ⟨bi,3,none⟩=some (iV mode))):=Lh fun d m d2 hm hl hk hl2 hnn W bi a1 kE hW=>by
  obtain⟨hsz,hok⟩:=hch d m d2 hm hl hk hl2 hnn
  refine⟨⟨hW.bC 1 rfl 2,hW.bC 1 rfl 3⟩,(KJ kE hV.vf hm (hV.few m hm) (hV.lt m hm) hsz hW).mono ?_⟩
  rintro e w' ⟨v,a2,rfl,hR2,h2⟩
  refine⟨v,rfl,⟨h2.bC 2 rfl 2,h2.bC 2 rfl 3⟩,?_⟩
  refine(GK (x:=(⟨2,mode,1,0,[]⟩:VI)) hR2.ok hV.vf hb hok (iG.part 0 rfl) (h2.perm (List.Perm.swap _ _ _))).mono fun e w2 ho=>?_
  obtain⟨Y,hY⟩:=UM ho
  exact⟨iQ (Y:=[_,_]) ho,hY.dL 1 rfl 2,hY.dL 1 rfl 3⟩
 have hln:=nM hV (path:=path);have hok:=pF hV (splitB aW) 0 0 hV.n0 hV.n0;have hX0:Hid (Sep w0 (w.alloc (.cells #[iV op,aC path,aC aW,iV mode,iV kk] 46)) (aD f q p S a:: .box w.heap.size 46 #[iV op,aC path,aC aW,iV mode,iV kk]::R)):=Lh ((h.bN _ _).perm (List.Perm.swap _ _ _));obtain⟨d0,d1,bX⟩:=hno.out _ _ hX0.out;obtain⟨r,hr⟩:∃r,r=aP S.cur S.data 0 0 (splitB path):=⟨_,rfl⟩;obtain⟨r2,hr2⟩:∃r,r=(aP S.cur S.data 0 0 (splitB aW)):=⟨_,rfl⟩;unfold aoG;rw[<-hr]at bX hct hln ⊢;rw[<-hr2]at hnt hct hok ⊢;obtain⟨b2,hb2⟩:∃b,b=aL aW:=⟨_,rfl⟩;rw[<-hb2]at hct ⊢;clear hC hV hb hv hp hv2 hp2 hch h hno hr hr2 hX0 hb2;rw[AQ]at bX;cases hn:nA S.cur r with
 |some k=>rw[hn]at bX;clear hct hln hn hnt hok hon;unfold aC at*;simp only at bX;go_enter Tryz.func62,Tryz.ntmps62;go_wp2_with(go_at_call 123;refine bX.mono ?_;rintro e w9 ⟨rfl,a9,dQ,h9⟩;have hend:=Lh (And.intro dQ h9);clear dQ h9 bX);exact Z11
 |none=>
  rw[hn]at bX;obtain⟨hr0,hr1,hr3⟩:=AR hn;obtain⟨d,m,hdl,zH,hre⟩:=hln hr0 hr1;rw[hre]at hr3;(have GN:=fun d2=>hct.out d m d2 zH hre hr3);rw[hre]at bX ⊢;simp only[lM]at bX ⊢;clear hct hln hn hr0 hr1 hr3 hdl zH hre;rw[qX]at hnt;cases hn2:fQ r2 with
  |some k=>rw[hn2]at hnt;clear GN hn2 hok hon;unfold aC at*;go_enter Tryz.func62,Tryz.ntmps62;go_wp2_with(first |(go_at_call 123;refine bX.mono ?_;rintro e w9 ⟨rfl,a9,dQ,h9⟩;obtain⟨d4,hcall⟩:=hnt.out _ _ _ dQ h9;clear dQ h9 bX d0 d1 hnt)|(go_at_call 118;refine hcall.mono ?_;rintro e w8 ⟨rfl,a8,yR,h8⟩;have hend:=Lh (And.intro yR h8);clear yR h8 hcall));exact Z11
  |none=>
   rw[hn2]at hnt;obtain⟨hr0,hr1⟩:=qY hn2;obtain⟨⟨d2,_,hd⟩,hd2⟩:=hok hr0;have hd3:r2.2.1= -1:=by
    rcases hd2 with hd2|⟨m,_,hd2⟩
    ·exact hd2
    omega
   (have hre:r2=((d2:Int), -1,0):=by exact Z61);have aj8:=GN d2 hre;rw[hre]at hnt ⊢;simp only[lM]at hnt ⊢;obtain⟨rX,vN⟩:∃rX,rX=jV S (⟨2,mode,1,0,[]⟩:VI) (eU S.cur S.data (aF S.cur m)) d2 b2:=⟨_,rfl⟩;rw[<-vN]at aj8 ⊢;clear GN hok hn2 hr0 hr1 hd hd2 hd3 hre vN;by_cases hnn:S.nodes<256
   ·replace aj8:=Lh (aj8 hnn);rw[if_pos hnn]at hon ⊢;clear hnn;unfold aC at*;unfold mD;go_enter Tryz.func62,Tryz.ntmps62;go_wp2_with(first |(go_at_call 123;refine bX.mono ?_;rintro e w9 ⟨rfl,a9,dQ,h9⟩;obtain⟨d4,hcall⟩:=hnt.out _ _ _ dQ h9;clear dQ h9 bX d0 d1 hnt)|(go_at_call 118;refine hcall.mono ?_;rintro e w8 ⟨rfl,a8,yR,h8⟩;obtain⟨hE,aAJ⟩:=aj8.out _ _ _ yR h8.drew;have PE:=hon.out _ _ _ h8;clear yR h8 hcall aj8 hon d4)|(go_at_call 70;refine PE.mono ?_;rintro e w7 ⟨rfl,h7⟩;obtain rfl:=h7.symm;clear PE));refine aO (S:=fun w'=>w'.cell? ⟨w.heap.size,2,none⟩=some (.string ⟨aW.toArray⟩)/\w'.cell? ⟨w.heap.size,3,none⟩=some (iV mode)) 14 ?_;refine aA 0 hE ?_;refine aA 1 hE ?_;refine aA 2 hE ?_;refine aA 3 hE ?_;refine aA 4 hE ?_;refine aA 5 hE ?_;refine aA 6 hE ?_;refine aA 7 hE ?_;refine aA 8 hE ?_;refine aA 9 hE ?_;refine aA 10 hE ?_;refine aA 11 hE ?_;(refine bH 12 fun K hK=>?_);go_simp;go_at_call 128;refine aAJ.mono ?_;rintro e w6 ⟨v,rfl,hE6,hmd⟩;clear hE aAJ;dsimp only;refine hK _ _ (fun _=>hE6) ?_;clear hK K;(try simp only[Act.put,gD]);(refine bH 13 fun K hK=>?_);go_simp;go_at_call 71;refine hmd.mono ?_;rintro e w5 ⟨ho,IP⟩;rcases iP ho with rfl|⟨k,rfl⟩
    ·dsimp only;refine hK _ _ (fun _=>IP) ?_;clear hK K;(try simp only[Act.put,gD]);refine aS fT ?_ _
     go_end0
     exact ho
    exact⟨rfl,ho⟩
   rw[if_neg hnn]at hon ⊢;clear hnn aj8;unfold aC at*;go_enter Tryz.func62,Tryz.ntmps62;go_wp2_with(first |(go_at_call 123;refine bX.mono ?_;rintro e w9 ⟨rfl,a9,dQ,h9⟩;obtain⟨d4,hcall⟩:=hnt.out _ _ _ dQ h9;clear dQ h9 bX d0 d1 hnt)|(go_at_call 118;refine hcall.mono ?_;rintro e w8 ⟨rfl,a8,yR,h8⟩;have PE:=hon.out _ _ _ h8;have hend:=Lh (And.intro yR h8);clear yR h8 hcall hon d4)|(go_at_call 70;refine PE.mono ?_;rintro e w7 ⟨rfl,h7⟩;obtain rfl:=h7.symm;clear PE));exact Z11
end
end Go.Proofs.YtmjomdkleikgbaaGreat
