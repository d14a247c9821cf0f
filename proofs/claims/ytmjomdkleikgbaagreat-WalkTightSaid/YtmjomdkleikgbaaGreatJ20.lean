/- Parts. -/
import Derived.Test.YtmjomdkleikgbaaGreatJ19
set_option linter.unusedVariables false
set_option linter.unusedSimpArgs false
set_option maxRecDepth 100000
set_option maxHeartbeats 20000000
namespace Go.Proofs.YtmjomdkleikgbaaGreat
theorem acN (bs:List UInt8):∀(l:List Nat) (k:Nat) (S:VS),dY S->(∀s∈l,s<S.count)->l.Nodup->
  dY (mK bs l k S)/\(∀j,(mK bs l k S).bit j=S.bit j)/\(∀s,s∉l->bk (mK bs l k S).cur (S.data+s)=bk S.cur (S.data+s))/\∀i,i<l.length->bk (mK bs l k S).cur (S.data+l.getD i 0)=jC bs (k+i)
 |[],k,S,h,_,_=>⟨h,fun _=>rfl,fun _ _=>rfl,fun i hi=>absurd hi (GK _)⟩
 |s::l,k,S,h,hl,hn=>by
  rw[wV]at hn;have hs:=hl s (nE ..);have hu:dY (S.put (S.data+s) (jC bs k)):=h.put _ (yD bs k);obtain⟨h1,h2,h3,h4⟩:=acN bs l (k+1) (S.put (S.data+s) (jC bs k)) hu (fun t ht=>hl t (vK _ ht)) hn.2;refine⟨h1,fun j=>?_,fun t ht=>?_,fun i hi=>?_⟩
  ·(show(mK bs l (k+1) (S.put (S.data+s) (jC bs k))).bit j=_);rw[h2];(show pG (bk (S.cur.set (S.data+s) _) 1) j=_);rw[dJ _ _ (by unfold VS.data;omega)];rfl
  ·rw[kC,not_or]at ht;have:=h3 t ht.2;(show bk (mK bs l (k+1) (S.put (S.data+s) (jC bs k))).cur (S.data+t)=_);refine this.trans ?_;exact dJ _ _ (fun e=>ht.1 (by have:S.data+t=S.data+s:=e;omega))
  cases i with
  |zero=>have:=h3 s hn.1;(show bk (mK bs l (k+1) (S.put (S.data+s) (jC bs k))).cur (S.data+s)=_);refine this.trans ?_;(show bk (S.cur.set (S.data+s) _) (S.data+s)=_);rw[AQ _ _ _ _ (by rw[h.cur.len];exact h.room hs),if_pos rfl];rfl
  |succ i=>have:=h4 i (by simpa using hi);rw[show k+1+i=k+(i+1)by omega]at this;exact this
def yJ (bs:List UInt8) (m k:Nat):List UInt8:=(List.range m).flatMap fun i=>jC bs (k+i)
theorem Y4 (bs:List UInt8) (m k:Nat):yJ bs (m+1) k=jC bs k++yJ bs m (k+1):=by
 unfold yJ;rw[List.range_succ_eq_map,wU,List.flatMap_map];congr 1;congr 1;funext i;congr 1;show k+(i+1)=k+1+i
 omega
theorem V5 (bs:List UInt8) (k:Nat):jC bs k=(bs.drop (512*k)).take 512++bX.drop ((bs.drop (512*k)).take 512).length:=by unfold jC dP;rw[N7,nG,GL]
theorem ME (bs:List UInt8):∀(m k:Nat),bs.length<=512*(k+m)->(yJ bs m k).take (bs.length-512*k)=bs.drop (512*k)
 |0,k,h=>by rw[aa0 aD];unfold yJ;simp
 |m+1,k,h=>by
  rw[Y4,List.take_append,yD];by_cases hr:512<=bs.length-512*k
  ·(have hl:((bs.drop (512*k)).take 512).length=512:=by rw[qL,rU];omega);(have e1:jC bs k=(bs.drop (512*k)).take 512:=by have hz:bX.drop 512=[]:=aa0 (by rw[fV];exact iB _);rw[V5,hl,hz,yX44]);rw[e1,qH (by rw[hl];exact hr),show bs.length-512*k-512=bs.length-512*(k+1)by omega,ME bs m (k+1) aD];rw[show 512*(k+1)=512*k+512 by omega,<-LD,D7]
  rw[show bs.length-512*k-512=0 by omega,N7,yX44];have hl:(bs.drop (512*k)).length=bs.length-512*k:=rU;have e1:(bs.drop (512*k)).take 512=bs.drop (512*k):=qH aD;rw[V5,e1,List.take_append,hl,FB,N7,yX44,qH aD]
theorem al3 (l:List Nat):l=(List.range l.length).map fun i=>l.getD i 0:=by
 apply GI;intro k;rw[kV];by_cases hk:k<l.length
 ·rw[UY hk,TQ,gH,gE hk];rfl
 rw[EZ aD,EZ (by rw[K9];omega)];rfl
theorem acO {c:fZ} {d:Nat} {l:List Nat} {bs:List UInt8} (h:∀i,i<l.length->bk c (d+l.getD i 0)=jC bs (0+i)):pM c d l=yJ bs l.length 0:=by
 unfold pM yJ
 conv=>lhs;rw[al3 l]
 rw[List.flatMap_map,List.flatMap_def,List.flatMap_def];congr 1;exact uH fun i hi=>h i (List.mem_range.1 hi)
theorem dC.fill {S:VS} {g:LT} (h:dC S g) {n:Nat} {bs:List UInt8} (hn:n<S.names) (hk:(g n).kind=2) (hbs:bs.length<=8192):
  (∀S1,mM S n bs=some S1->dC S1 (dO g n {g n with data:=bs}))/\(mM S n bs=none->S.count<oV (dO g n {g n with data:=bs}) S.names):=by
 have hx:=h.head n hn;have hfn:=h.fair n hn;have he:(g n).bG=[]:=hfn.bG aD;have hfair:({g n with data:=bs}:LI).fair:=⟨hfn.kind,hfn.bG,fun e=>absurd hk e,hfn.few,hbs,hfn.mode,hfn.links,hfn.names⟩;have H7:({g n with data:=bs}:LI).need=(bs.length+511)/512:=by unfold LI.need;rw[if_neg (by show ¬(g n).kind=1;omega),if_pos (by exact hk)]
 obtain⟨sp,hsp⟩:∃sp,sp=(aG S.cur n).aB:=⟨_,rfl⟩;have TV:=h.QA hn;have al0:=h.nodup n hn;unfold mM;cases hf:jV S (aG S.cur n).aB ((bs.length+511)/512)with
 |none=>
  refine⟨fun S1 e=>(by cases e),fun _=>?_⟩;have hgt:(aG S.cur n).aB.length<(bs.length+511)/512:=by
   rcases AA (aG S.cur n).aB.length ((bs.length+511)/512)with h1|h1
   ·exact h1
   obtain⟨S1,h2⟩:=JX (S:=S) (l:=(aG S.cur n).aB) (n:=(bs.length+511)/512) h1;rw[h2]at hf;cases hf
  obtain⟨t,ht1,ht2⟩:=(PU h.use aD).2 hf;have h1:=h.used t ht2;have h2:=xE hn ({g n with data:=bs}:LI) (g:=g);rw[H7,<-h.len n hn]at h2;omega
 |some r=>
  obtain⟨S1,l⟩:=r;obtain⟨hu1,hl1,hlt1,aDN,aID,hb1⟩:=YY h.use TV al0 hf;have NG:=(jQ hf).1;have hm1:Mid S S1:=Mid.used NG hu1;obtain⟨hu2,hb2,hblk2,aDO⟩:=acN bs l 0 S1 hu1 (fun s hs=>by rw[hm1.count];exact hlt1 s hs) aDN;have hm2:Mid S (mK bs l 0 S1):=hm1.trans (Mid.laid (qR bs l 0 S1) hu2);rw[hm1.data]at hblk2 aDO;refine⟨fun S2 e=>?_,fun e=>(by cases e)⟩;cases e;(have hy:({aG S.cur n with size:=bs.length,aB:=l}:VI)=({g n with data:=bs}:LI).vi l:=by rw[hx];unfold LI.vi;simp only[VI.mk.injEq,true_and,and_true];unfold LI.size;rw[if_neg (by show ¬(g n).kind=1;omega)]);rw[hy];have ap5:=h.YZ hn aID;refine h.step hn (Step.keep h hn hm2 hfair (by rw[H7];exact hl1) hlt1 aDN ap5 (fun j hj=>?_) (fun m hmm e s hs=>?_) (fun k1=>?_) (fun _=>?_) ?_)
  ·rw[hb2];exact h.QB hn hb1 hj
  ·rw[hblk2 s (ap5 m hmm e s hs)];exact uB NG s
  ·exact absurd (show(g n).kind=1 from k1) aD
  ·unfold eY;(show(pM _ _ l).take ({g n with data:=bs}:LI).size=bs);rw[acO aDO];(have e1:({g n with data:=bs}:LI).size=bs.length:=by unfold LI.size;rw[if_neg (by show ¬(g n).kind=1;omega)]);have:=ME bs l.length 0 (by rw[hl1];omega);rw[Nat.mul_zero,Nat.sub_zero,abE]at this;rw[e1,this]
  (show(mK bs l 0 S1).nodes=S.nodes-((g n).bG.length:Nat)+((g n).bG.length:Nat));rw[(qR bs l 0 S1).nodes,NG.nodes];omega
open Go.RowKit
structure wO (S:VS) (x:VI) (bs:List UInt8) (dir:Nat) (path:List UInt8):Prop where
 tab:P7 S.cur S.names
 w:gL S
 valid:aU path=true
 len:path.length<=1048576
 kind:x.kind=1\/x.kind=2
 aB:x.aB=[]
 ok:x.ok
 few:bs.length<=8192
 file:∀n,l6 S.cur S.names=some n->x.kind=2->pW (S.keep n x) n/\gL (S.keep n x)/\∀S2,mM (S.keep n x) n bs=some S2->eZ S S2/\oF S2 dir n (aL path)/\lT S2
 dr:∀n j,l6 S.cur S.names=some n->jX (bk S.cur 1) S.count=some j->x.kind=1->({x with aB:=[j]}:VI).ok/\pW (gN S j) n/\gL (gN S j)/\oF (kJ S n x j) dir n (aL path)/\lT (kJ S n x j)
 chg:∀S1,lH S x bs dir (aL path)=some S1->nU S S1
theorem Sep.dQ {w0 W:World} {Y R:List aZ} {b:Nat} {t:TypeId} {cs:Array Value} (i:Nat) (h:Sep w0 W (Y++R)) (hi:R[i]? =some (.box b t cs)) (j:Nat):W.cell? ⟨b,j,none⟩=cs[j]? :=
 h.bC (Y.length+i) ((vM aD).trans (by rw[JM];exact hi)) j
theorem Z46 {P:Prop} (h:P:=by have h1:Sep w0 w' (Y++(A::R)):=hA.perm lZ.symm;have h2:=h1.drop Y.length;rw[GQ]at h2;exact h2):P:=h
theorem yK {f q p:Nat} {S:VS} {r:Option VS} {w0:World} {Y R:List aZ} {e:Ending} {w':World} (h:fO f q p S r w0 (Y++R) e w'):fO f q p S r w0 R e w':=by
 have hd:∀(A:aZ),Sep w0 w' (A::(Y++R))->Sep w0 w' (A::R):=fun A hA=>by exact Z46
 unfold fO at*;cases r with
 |none=>obtain⟨h1,S1,a1,h2,h3,h4⟩:=h;exact⟨h1,S1,a1,h2,h3,hd _ h4⟩
 |some S1=>obtain⟨h1,a1,h2,h3⟩:=h;exact⟨h1,a1,h2,hd _ h3⟩
section
variable {w0 w:World} {R:List aZ} {f q p:Nat} {S:VS} {a:VA}
theorem al4 {bf bd bp bx bb dir L c0:Nat} {A0:Option Addr} {x:VI} {bs path:List UInt8} (hC:VC S a) (hF:VF S) (hm:wO S x bs dir path) (hv:jG w0 R (.slice A0 L c0) bs)
  (h:Sep w0 w (aF f q p S a:: .box bx 129 (aN x (.slice none 0 0))::aR (.slice none 0 0) []:: .box bf 37 #[pV f]:: .box bd 3 #[iV dir]:: .box bp 9 #[aC path]:: .box bb 69 #[.slice A0 L c0]::R)):
  Calls Tryz.prog 140 #[pV bf,pV bx,pV bb,pV bd,pV bp] w (fO f q p S (lH S x bs dir (aL path)) w0 R):=by
 unfold lH;cases hfr:l6 S.cur S.names with
 |none=>exact(agD (fun W Y hW=>hW.dQ 2 rfl 0) hC hF hm.tab hfr h).mono fun e w' ho=>yK (Y:=[_,_,_,_,_,_]) ho
 |some n=>
  rcases hm.kind with hk|hk
  ·simp only[hk,if_true];cases hfl:jX (bk S.cur 1) S.count with
   |none=>exact(agF (fun W Y hW=>hW.dQ 0 rfl 0) hC hF hm.tab hk hm.aB hfr hfl h).mono fun e w' ho=>yK (Y:=[_,_,_,_]) ho
   |some j=>obtain⟨h1,h2,h3,h4,h5⟩:=hm.dr n j hfr hfl hk;exact(alY (fun W Y hW=>⟨hW.dQ 0 rfl 0,hW.dQ 1 rfl 0,hW.dQ 2 rfl 0⟩) hC hF hm.tab h1 hk hm.aB hm.valid hm.len hfr hfl h2 h3 h4 h5 h).mono fun e w' ho=>yK (Y:=[_,_,_,_]) ho
  (have hk1:¬x.kind=1:=by rw[hk];decide);simp only[if_neg hk1];obtain⟨h1,h2,h3⟩:=hm.file n hfr hk;(refine(agE (x:=x) (fun W Y hW=>?_) hC hF hm.tab hm.ok hk hm.aB hm.few (hv.more (Y:=[_,_,_,_,_,_])) hm.valid hm.len hm.w (jD 1 rfl) hfr h1 h2 h3 h).mono fun e w' ho=>yK (Y:=[_,_,_,_,_,_]) ho);have k0:W.cell? ⟨bx,0,none⟩=some (iV (x.kind:Nat)):=hW.dQ 0 rfl 0;rw[hk]at k0;exact⟨hW.dQ 2 rfl 0,hW.dQ 5 rfl 0,hW.dQ 3 rfl 0,hW.dQ 4 rfl 0,k0,hW.dQ 0 rfl 1,hW.dQ 0 rfl 2,hW.dQ 0 rfl 3,hW.dQ 0 rfl 4⟩
theorem tN (w:World) (o:Obj):(w.alloc o).heap.size=w.heap.size+1:=by simp
theorem iY {f q p:Nat} {S:VS} {r:Option VS} {w0:World} {R:List aZ} {e:Ending} {w':World} (h:dG f q p S r w0 R e w'):e= .returned (.tuple #[])\/∃k,e= .panicked (fP k):=by
 unfold dG at h;cases r with
 |none=>exact .inr ⟨_,h.1⟩
 |some S1=>
  simp only at h;split at h
  ·split at h
   ·exact .inl h.1
   exact .inr ⟨_,h.1⟩
  exact .inr ⟨_,h.1⟩
theorem Y5 :∀args w,(callFunc 140 args).run Tryz.prog w= .ok (.enter 140 args) w:=Go.Proofs.enters_of Tryz.func140 fH rfl
theorem QE {dir:Nat} {v:Value} {x:VI} {bs path:List UInt8} (hC:VC S a) (hF:VF S) (hb:S.D.back=[]) (hm:wO S x bs dir path) (hv:jG w0 R v bs) (h:Sep w0 w (aF f q p S a::R)):
  Calls Tryz.prog 71 #[pV f,iV dir,aC path,.agg #[iV (x.kind:Nat),iV (x.mode:Nat),iV (x.links:Nat),iV (x.size:Nat),.slice none 0 0],v] w (dG f q p S (lH S x bs dir (aL path)) w0 R):=by
 obtain⟨L,A0,c0,hv0⟩:∃L A c,v= .slice A L c:=by obtain⟨_,A,c,e,_⟩:=hv w [_] h;exact⟨_,A,c,e⟩
 subst hv0;have hch:Hid (∀W bf bd bp bx bb,Sep w0 W (.box bb 69 #[.slice A0 L c0]:: .box bx 129 (aN x (.slice none 0 0)):: .box bp 9 #[aC path]:: .box bd 3 #[iV dir]:: .box bf 37 #[pV f]::aF f q p S a::R)->
   W.cell? ⟨bf,0,none⟩=some (pV f)/\Calls Tryz.prog 73 #[pV f,.func (.func 140) #[] #[pV bf,pV bx,pV bb,pV bd,pV bp]] W (dG f q p S (lH S x bs dir (aL path)) w0 R)):=Lh fun W bf bd bp bx bb hW=>by
  refine⟨hW.bC 4 rfl 0,?_⟩;have h1:Sep w0 W (aF f q p S a:: .box bx 129 (aN x (.slice none 0 0))::aR (.slice none 0 0) []:: .box bf 37 #[pV f]:: .box bd 3 #[iV dir]:: .box bp 9 #[aC path]:: .box bb 69 #[.slice A0 L c0]::R):=Sep.dE [6,2,0,5,4,3,1] (hW.iO 3 1) aV bL;refine qV Y5 hC hb hm.chg (fun W2 X hX=>?_) h1;(have h2:Sep w0 W2 (aF f q p S a::(.box bx 129 (aN x (.slice none 0 0))::aR (.slice none 0 0) []:: .box bf 37 #[pV f]:: .box bd 3 #[iV dir]:: .box bp 9 #[aC path]:: .box bb 69 #[.slice A0 L c0]::(X++R))):=by refine hX.perm (List.Perm.cons _ ?_);have e:=List.perm_append_comm_assoc X [.box bx 129 (aN x (.slice none 0 0)),aR (.slice none 0 0) [],.box bf 37 #[pV f],.box bd 3 #[iV dir],.box bp 9 #[aC path],.box bb 69 #[.slice A0 L c0]] R;exact e);exact al4 hC hF hm hv.more h2
 have hs:=((((h.bN 37 #[pV f]).bN 3 #[iV dir]).bN 9 #[aC path]).bN 129 (aN x (.slice none 0 0))).bN 69 #[.slice A0 L c0];have hc:=hch.out _ _ _ _ _ _ hs;simp only[tN]at hc;obtain⟨c0',hcall⟩:=hc;clear hch hs h hC hF hb hm hv;unfold aN aC at*;go_enter Tryz.func71,Tryz.ntmps71;go_wp2_with(go_at_call 73;refine hcall.mono ?_;intro e w9 ho;rcases iY ho with rfl|⟨k,rfl⟩)
 ·go_end0
  exact ho
 exact⟨rfl,ho⟩
end
theorem iZ {f q p:Nat} {S:VS} {r:Option VS} {w0:World} {Y R:List aZ} {e:Ending} {w':World} (h:dG f q p S r w0 (Y++R) e w'):dG f q p S r w0 R e w':=by
 have hd:∀(A:aZ),Sep w0 w' (A::(Y++R))->Sep w0 w' (A::R):=fun A hA=>by exact Z46
 unfold dG at*;cases r with
 |none=>exact⟨h.1,hd _ h.2⟩
 |some S1=>
  simp only at h ⊢;split
  ·rename_i h1;rw[if_pos h1]at h;split
   ·rename_i h2;rw[if_pos h2]at h;exact⟨h.1,hd _ h.2⟩
   rename_i h2;rw[if_neg h2]at h;refine⟨h.1,?_⟩;have h1:Sep w0 w' (Y++(LV f q p false::aO p S1.bJ.1::R)):=h.2.perm ((lZ (l₁:=Y) (a:=aO p S1.bJ.1) (l₂:=R)).symm.cons _|>.trans lZ.symm);have h2:=h1.drop Y.length;rw[GQ]at h2;exact h2
  rename_i h1;rw[if_neg h1]at h;exact⟨h.1,hd _ h.2⟩
theorem V6 {f q p:Nat} {S:VS} {r:Option VS} {w0:World} {R:List aZ} {e:Ending} {w':World} (h:dG f q p S r w0 R e w'):∃Y,Sep w0 w' (Y++R):=by
 unfold dG at h;cases r with
 |none=>exact⟨[_],h.2⟩
 |some S1=>
  simp only at h;split at h
  ·split at h
   ·exact⟨[_],h.2⟩
   exact⟨[_,_],h.2⟩
  exact⟨[_],h.2⟩
def mQ (f q p:Nat) (S:VS) (r:Except Int (Option VS)) (w0:World) (R:List aZ) (e:Ending) (w':World):Prop:=
 match r with
 | .error k=>e= .panicked (fP k)/\∃a',VC S a'/\Sep w0 w' (aF f q p S a'::R)
 | .ok r=>dG f q p S r w0 R e w'
def gP (r:Int×Int×Int):Option Int:=if r.2.2=0 then(if r.2.1<0 then none else some 23)else some r.2.2
theorem Z37 {P:Prop} (h:P:=by
 by_cases h1:r.2.2=0
 ·rw[if_pos h1,if_pos h1];by_cases h2:r.2.1<0
  ·rw[if_pos h2,if_pos h2]
  rw[if_neg h2,if_neg h2]
 rw[if_neg h1,if_neg h1]):P:=h
theorem sD (r:Int×Int×Int):pU r=match gP r with|some k=>.panicked (fP k)|none=>.returned (iV r.1):=by unfold pU gP;exact Z37
theorem sF {r:Int×Int×Int} (h:gP r=none):r.2.2=0/\r.2.1<0:=by
 unfold gP at h;by_cases h1:r.2.2=0
 ·rw[if_pos h1]at h;by_cases h2:r.2.1<0
  ·exact⟨h1,h2⟩
  rw[if_neg h2]at h;cases h
 rw[if_neg h1]at h;cases h
def MU (S:VS) (path:List UInt8) (x:VI) (bs:List UInt8):Except Int (Option VS):=
 match gP (aS S.cur S.data 0 0 (splitB path))with
 |some k=>.error k
 |none=>if S.nodes<256 then .ok (lH S x bs (aS S.cur S.data 0 0 (splitB path)).1.toNat (aL path))else .error 31
section
variable {w0 w:World} {R:List aZ} {f q p:Nat} {S:VS} {a:VA}
theorem al5 {w0:World} {R:List aZ}:jG w0 R (.slice none 0 0) []:=fun w' X h=>(h.iO 5 1).rd 0 rfl
theorem Z13 {P:Prop} (h:P:=by unfold mQ;exact⟨rfl,rfl,_,hend.out.1,(hend.out.2.perm (List.Perm.swap _ _ _)).drop 1⟩):P:=h
theorem Z58 {P:Prop} (h:P:=by go_wp2_with(first |(go_at_call 118;refine bZ.mono ?_;rintro e w9 ⟨rfl,a9,eP,h9⟩;have vR:=hon.out _ _ _ h9;have hend:=Lh (And.intro eP h9);clear eP h9 bZ)|(go_at_call 70;refine vR.mono ?_;rintro e w8 ⟨rfl,h8⟩;obtain rfl:=h8.symm;clear vR));exact Z13):P:=h
theorem Z74 {P:Prop} (h:P:=by go_wp2_with(go_at_call 118;refine bZ.mono ?_;rintro e w9 ⟨rfl,a9,eP,h9⟩;have hend:=Lh (And.intro eP h9);clear eP h9 bZ);exact Z13):P:=h
theorem al6 {vs:Value} {op kk:Int} {mode:Nat} {path tz:List UInt8} (hC:VC S a) (hV:VW S) (hb:S.D.back=[]) (hv:aU path=true) (hp:path.length<=1048576)
  (hm:∀d:Nat,aS S.cur S.data 0 0 (splitB path)=((d:Int), -1,0)->S.nodes<256->wO S (⟨1,mode,1,0,[]⟩:VI) [] d path) (h:Sep w0 w (aF f q p S a::R)):
  Calls Tryz.prog 56 #[pV f,.agg #[iV op,aC path,aC tz,iV mode,iV kk],vs] w (mQ f q p S (MU S path (⟨1,mode,1,0,[]⟩:VI) []) w0 R):=by
 have hno:Hid (∀W b,Sep w0 W (aF f q p S a:: .box b 46 #[iV op,aC path,aC tz,iV mode,iV kk]::R)->Calls Tryz.prog 118 #[pV f,aC path] W fun e w'=>e=pU (aS S.cur S.data 0 0 (splitB path))/\∃a',VC S a'/\Sep w0 w' (aF f q p S a':: .box b 46 #[iV op,aC path,aC tz,iV mode,iV kk]::R)):=Lh fun W b hW=>
  (rY hC hV hv hp hW).mono fun e w' ⟨h1,a',h2,h3⟩=>⟨h1,a',h2.ok,h3⟩
 have hon:Hid (∀W b a1,Sep w0 W (aF f q p S a1:: .box b 46 #[iV op,aC path,aC tz,iV mode,iV kk]::R)->Calls Tryz.prog 70 #[pV f] W fun e w'=>e=(if S.nodes<256 then .returned (.tuple #[])else .panicked (fP 31))/\w'=W):=Lh fun W b a1 hW=>ND hW
 have hmd:Hid (∀d:Nat,aS S.cur S.data 0 0 (splitB path)=((d:Int), -1,0)->S.nodes<256->∀W b a1,VC S a1->Sep w0 W (aF f q p S a1:: .box b 46 #[iV op,aC path,aC tz,iV mode,iV kk]::R)->Calls Tryz.prog 71 #[pV f,iV d,aC path,.agg #[iV 1,iV mode,iV 1,iV 0,.slice none 0 0],.slice none 0 0] W fun e w'=>dG f q p S (lH S (⟨1,mode,1,0,[]⟩:VI) [] d (aL path)) w0 R e w'):=Lh fun d h1 h2 W b a1 h3 hW=>
  (QE (x:=(⟨1,mode,1,0,[]⟩:VI)) h3 hV.vf hb (hm d h1 h2) (al5) hW).mono fun e w' ho=>iZ (Y:=[_]) ho
 have hok:=rW hV (splitB path) 0 0 hV.n0 hV.n0;have hcs:Hid (∀W b Y,Sep w0 W (Y++(.box b 46 #[iV op,aC path,aC tz,iV mode,iV kk]::R))->W.cell? ⟨b,1,none⟩=some (aC path)/\W.cell? ⟨b,3,none⟩=some (iV mode)):=Lh fun W b Y hW=>⟨hW.dQ 0 rfl 1,hW.dQ 0 rfl 3⟩
 have hX:Hid (Sep w0 (w.alloc (.cells #[iV op,aC path,aC tz,iV mode,iV kk] 46)) (aF f q p S a:: .box w.heap.size 46 #[iV op,aC path,aC tz,iV mode,iV kk]::R)):=Lh ((h.bN _ _).perm (List.Perm.swap _ _ _));have bZ:=hno.out _ _ hX.out;have hc:=hcs.out _ _ [_] hX.out;obtain⟨b,hbb⟩:∃b,b=w.heap.size:=⟨_,rfl⟩;rw[<-hbb]at bZ hc;have aIE:=Lh hbb;obtain⟨r,hr⟩:∃r,r=aS S.cur S.data 0 0 (splitB path):=⟨_,rfl⟩;unfold MU;rw[<-hr]at bZ hmd hok ⊢;obtain⟨nb,hnb⟩:∃x,x=aL path:=⟨_,rfl⟩;rw[<-hnb]at hmd ⊢;clear hC hV hb hv hp hm h hno hr hnb hX;rw[sD]at bZ;cases hn:gP r with
 |some k=>rw[hn]at bZ;clear hok hmd hn hon;unfold aC at*;simp only at bZ;rw[hbb]at bZ hc;go_enter Tryz.func56,Tryz.ntmps56;exact Z74
 |none=>
  rw[hn]at bZ;obtain⟨hr0,hr1⟩:=sF hn;obtain⟨⟨d,hdl,hd⟩,hd2⟩:=hok hr0;have hd3:r.2.1= -1:=by
   rcases hd2 with hd2|⟨m,_,hd2⟩
   ·exact hd2
   omega
  (have hre:r=((d:Int), -1,0):=by obtain⟨r1,r2,r3⟩:=r;simp only at hd hd3 hr0;rw[hd,hd3,hr0]);subst hre;simp only[mW]at*;clear hok hn hr0 hr1 hd hd2 hd3 hdl;by_cases hnn:S.nodes<256
  ·rw[if_pos hnn]at hon ⊢;have agK:=Lh (hmd.out d rfl hnn);obtain⟨rX,wD⟩:∃rX,rX=lH S (⟨1,mode,1,0,[]⟩:VI) [] d nb:=⟨_,rfl⟩;rw[<-wD]at agK ⊢;clear hmd hnn wD;unfold aC at*;rw[hbb]at bZ hc;go_enter Tryz.func56,Tryz.ntmps56;go_wp2_with(first |(go_at_call 118;refine bZ.mono ?_;rintro e w9 ⟨rfl,a9,eP,h9⟩;clear hc;rw[<-hbb]at h9 ⊢;have hc:=hcs.out _ _ [_] h9;have hX:=Lh h9;have hVC:=Lh eP;have vR:=hon.out _ _ _ h9;clear eP h9 bZ hbb)|(go_at_call 70;refine vR.mono ?_;rintro e w8 ⟨rfl,h8⟩;obtain rfl:=h8.symm;clear vR;have avL:=agK.out _ _ _ hVC.out hX.out;clear hX hVC agK)|(go_at_call 71;refine avL.mono ?_;intro e w7 ho;rcases iY ho with rfl|⟨k,rfl⟩))
   ·go_end0
    exact ho
   exact⟨rfl,ho⟩
  rw[if_neg hnn]at hon ⊢;clear hmd hnn;unfold aC at*;rw[hbb]at bZ hc;go_enter Tryz.func56,Tryz.ntmps56;exact Z58
theorem al7 {sa:Addr} {nn cc kk:Nat} {v:Value} {bs:List UInt8} {op:Int} {mode:Nat} {path tz:List UInt8} (hC:VC S a) (hV:VW S) (hb:S.D.back=[]) (hv:aU path=true) (hp:path.length<=1048576) (hst:∀W Y,Sep w0 W (Y++R)->W.cell? (sa.add kk)=some v) (hkk:kk<nn) (hnn:nn<9223372036854775808) (hbv:jG w0 R v bs)
  (hm:∀d:Nat,aS S.cur S.data 0 0 (splitB path)=((d:Int), -1,0)->S.nodes<256->wO S (⟨2,mode,1,0,[]⟩:VI) bs d path) (h:Sep w0 w (aF f q p S a::R)):
  Calls Tryz.prog 61 #[pV f,.agg #[iV op,aC path,aC tz,iV mode,iV kk],.slice (some sa) nn cc] w (mQ f q p S (MU S path (⟨2,mode,1,0,[]⟩:VI) bs) w0 R):=by
 have hno:Hid (∀W b,Sep w0 W (aF f q p S a:: .box b 46 #[iV op,aC path,aC tz,iV mode,iV kk]::R)->Calls Tryz.prog 118 #[pV f,aC path] W fun e w'=>e=pU (aS S.cur S.data 0 0 (splitB path))/\∃a',VC S a'/\Sep w0 w' (aF f q p S a':: .box b 46 #[iV op,aC path,aC tz,iV mode,iV kk]::R)):=Lh fun W b hW=>
  (rY hC hV hv hp hW).mono fun e w' ⟨h1,a',h2,h3⟩=>⟨h1,a',h2.ok,h3⟩
 have hon:Hid (∀W b a1,Sep w0 W (aF f q p S a1:: .box b 46 #[iV op,aC path,aC tz,iV mode,iV kk]::R)->Calls Tryz.prog 70 #[pV f] W fun e w'=>e=(if S.nodes<256 then .returned (.tuple #[])else .panicked (fP 31))/\w'=W):=Lh fun W b a1 hW=>ND hW
 have hmd:Hid (∀d:Nat,aS S.cur S.data 0 0 (splitB path)=((d:Int), -1,0)->S.nodes<256->∀W b a1,VC S a1->Sep w0 W (aF f q p S a1:: .box b 46 #[iV op,aC path,aC tz,iV mode,iV kk]::R)->Calls Tryz.prog 71 #[pV f,iV d,aC path,.agg #[iV 2,iV mode,iV 1,iV 0,.slice none 0 0],v] W fun e w'=>dG f q p S (lH S (⟨2,mode,1,0,[]⟩:VI) bs d (aL path)) w0 R e w'/\∃Y,Sep w0 w' (Y++(.box b 46 #[iV op,aC path,aC tz,iV mode,iV kk]::R))):=Lh fun d h1 h2 W b a1 h3 hW=>
  (QE (x:=(⟨2,mode,1,0,[]⟩:VI)) h3 hV.vf hb (hm d h1 h2) (hbv.cons) hW).mono fun e w' ho=>⟨iZ (Y:=[_]) ho,V6 ho⟩
 have hok:=rW hV (splitB path) 0 0 hV.n0 hV.n0;have hcs:Hid (∀W b Y,Sep w0 W (Y++(.box b 46 #[iV op,aC path,aC tz,iV mode,iV kk]::R))->W.cell? ⟨b,1,none⟩=some (aC path)/\W.cell? ⟨b,3,none⟩=some (iV mode)/\W.cell? ⟨b,4,none⟩=some (iV kk)/\W.cell? (sa.add kk)=some v):=Lh fun W b Y hW=>⟨hW.dQ 0 rfl 1,hW.dQ 0 rfl 3,hW.dQ 0 rfl 4,hst W (Y++[_]) (by rw[pJ];exact hW)⟩
 have hX:Hid (Sep w0 (w.alloc (.cells #[iV op,aC path,aC tz,iV mode,iV kk] 46)) (aF f q p S a:: .box w.heap.size 46 #[iV op,aC path,aC tz,iV mode,iV kk]::R)):=Lh ((h.bN _ _).perm (List.Perm.swap _ _ _));have bZ:=hno.out _ _ hX.out;have hc:=hcs.out _ _ [_] hX.out;obtain⟨b,hbb⟩:∃b,b=w.heap.size:=⟨_,rfl⟩;rw[<-hbb]at bZ hc;have aIE:=Lh hbb;obtain⟨r,hr⟩:∃r,r=aS S.cur S.data 0 0 (splitB path):=⟨_,rfl⟩;unfold MU;rw[<-hr]at bZ hmd hok ⊢;obtain⟨nb,hnb⟩:∃x,x=aL path:=⟨_,rfl⟩;rw[<-hnb]at hmd ⊢;obtain⟨A9,L9,c9,hv9⟩:∃A L c,v= .slice A L c:=by obtain⟨_,A,c,e,_⟩:=hbv w [_] h;exact⟨A,_,c,e⟩
 subst hv9;have q0:(0:Int)<=kk:=by omega
 have q1:(kk:Int)<nn:=by omega
 clear hC hV hb hv hp hm h hno hr hnb hX hst hbv;rw[sD]at bZ;cases hn:gP r with
 |some k=>rw[hn]at bZ;clear hok hmd hn hon;unfold aC at*;simp only at bZ;rw[hbb]at bZ hc;go_enter Tryz.func61,Tryz.ntmps61;exact Z74
 |none=>
  rw[hn]at bZ;obtain⟨hr0,hr1⟩:=sF hn;obtain⟨⟨d,hdl,hd⟩,hd2⟩:=hok hr0;have hd3:r.2.1= -1:=by
   rcases hd2 with hd2|⟨m,_,hd2⟩
   ·exact hd2
   omega
  (have hre:r=((d:Int), -1,0):=by obtain⟨r1,r2,r3⟩:=r;simp only at hd hd3 hr0;rw[hd,hd3,hr0]);subst hre;simp only[mW]at*;clear hok hn hr0 hr1 hd hd2 hd3 hdl;by_cases hnn:S.nodes<256
  ·rw[if_pos hnn]at hon ⊢;have agK:=Lh (hmd.out d rfl hnn);obtain⟨rX,wD⟩:∃rX,rX=lH S (⟨2,mode,1,0,[]⟩:VI) bs d nb:=⟨_,rfl⟩;rw[<-wD]at agK ⊢;clear hmd hnn wD;unfold aC at*;rw[hbb]at bZ hc;go_enter Tryz.func61,Tryz.ntmps61;go_wp2_with(first |(go_at_call 118;refine bZ.mono ?_;rintro e w9 ⟨rfl,a9,eP,h9⟩;clear hc;rw[<-hbb]at h9 ⊢;have hc:=hcs.out _ _ [_] h9;have hX:=Lh h9;have hVC:=Lh eP;have vR:=hon.out _ _ _ h9;clear eP h9 bZ hbb)|(go_at_call 70;refine vR.mono ?_;rintro e w8 ⟨rfl,h8⟩;obtain rfl:=h8.symm;clear vR)|(go_at_call 71;refine avL.mono ?_;intro e w7 ho;rcases iY ho with rfl|⟨k,rfl⟩));have hc2:w9.drew.cell? ⟨b,1,none⟩=some (.string ⟨path.toArray⟩)/\w9.drew.cell? ⟨b,3,none⟩=some (iV mode)/\w9.drew.cell? ⟨b,4,none⟩=some (iV kk)/\w9.drew.cell? (sa.add kk)=some (.slice A9 L9 c9):=hc;have avL:=agK.out _ _ _ hVC.out hX.out.drew;clear hc hX hVC agK;refine aP (S:=fun w'=>w'.cell? ⟨b,1,none⟩=some (.string ⟨path.toArray⟩)/\w'.cell? ⟨b,3,none⟩=some (iV mode)/\w'.cell? ⟨b,4,none⟩=some (iV kk)/\w'.cell? (sa.add kk)=some (.slice A9 L9 c9)) 13 ?_;refine aA 0 hc2 ?_;refine aA 1 hc2 ?_;refine aA 2 hc2 ?_;refine aA 3 hc2 ?_;refine aA 4 hc2 ?_;refine aA 5 hc2 ?_;refine aA 6 hc2 ?_;refine aA 7 hc2 ?_;refine aA 8 hc2 ?_;refine aA 9 hc2 ?_;refine aA 10 hc2 ?_;refine aA 11 hc2 ?_;(refine bI 12 fun K hK=>?_);go_simp;go_at_call 71;refine avL.mono ?_;rintro e w7 ⟨ho,Y,hY⟩;have hc3:=hcs.out _ _ _ hY;rcases iY ho with rfl|⟨k,rfl⟩
   ·dsimp only;refine hK _ _ (fun _=>hc3) ?_;clear hK K;(try simp only[Act.put,gD]);refine aQ fH ?_ _
    go_end0
    exact ho
   exact⟨rfl,ho⟩
  rw[if_neg hnn]at hon ⊢;clear hmd hnn;unfold aC at*;rw[hbb]at bZ hc;go_enter Tryz.func61,Tryz.ntmps61;exact Z58
end
end Go.Proofs.YtmjomdkleikgbaaGreat
