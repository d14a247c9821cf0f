/- Parts. -/
import Derived.Test.YteihmbaimbogaaaGreatJ19
set_option linter.unusedVariables false
set_option linter.unusedSimpArgs false
set_option maxRecDepth 100000
set_option maxHeartbeats 20000000
namespace Go.Proofs.YteihmbaimbogaaaGreat
theorem afP (bs:List UInt8):∀(l:List Nat) (k:Nat) (S:VS),fA S->(∀s∈l,s<S.count)->l.Nodup->
  fA (nN bs l k S)/\(∀j,(nN bs l k S).bit j=S.bit j)/\(∀s,s∉l->bk (nN bs l k S).cur (S.data+s)=bk S.cur (S.data+s))/\∀i,i<l.length->bk (nN bs l k S).cur (S.data+l.getD i 0)=kK bs (k+i)
 |[],k,S,h,_,_=>⟨h,fun _=>rfl,fun _ _=>rfl,fun i hi=>absurd hi (XB _)⟩
 |s::l,k,S,h,hl,hn=>by
  rw[I9]at hn;have hs:=hl s (sK ..);have hu:fA (S.put (S.data+s) (kK bs k)):=h.put _ (BJ bs k);obtain⟨h1,h2,h3,h4⟩:=afP bs l (k+1) (S.put (S.data+s) (kK bs k)) hu (fun t ht=>hl t (AY _ ht)) hn.2;refine⟨h1,fun j=>?_,fun t ht=>?_,fun i hi=>?_⟩
  ·(show(nN bs l (k+1) (S.put (S.data+s) (kK bs k))).bit j=_);rw[h2];(show rG (bk (S.cur.set (S.data+s) _) 1) j=_);rw[dN _ _ (by unfold VS.data;omega)];rfl
  ·rw[iX,not_or]at ht;have:=h3 t ht.2;(show bk (nN bs l (k+1) (S.put (S.data+s) (kK bs k))).cur (S.data+t)=_);refine this.trans ?_;exact dN _ _ (fun e=>ht.1 (by have:S.data+t=S.data+s:=e;omega))
  cases i with
  |zero=>have:=h3 s hn.1;(show bk (nN bs l (k+1) (S.put (S.data+s) (kK bs k))).cur (S.data+s)=_);refine this.trans ?_;(show bk (S.cur.set (S.data+s) _) (S.data+s)=_);rw[wR _ _ _ _ (by rw[h.cur.len];exact h.room hs),if_pos rfl];rfl
  |succ i=>have:=h4 i (by simpa using hi);rw[show k+1+i=k+(i+1)by omega]at this;exact this
def BR (bs:List UInt8) (m k:Nat):List UInt8:=(List.range m).flatMap fun i=>kK bs (k+i)
theorem abO (bs:List UInt8) (m k:Nat):BR bs (m+1) k=kK bs k++BR bs m (k+1):=by
 unfold BR;rw[List.range_succ_eq_map,zF,List.flatMap_map];congr 1;congr 1;funext i;congr 1;show k+(i+1)=k+1+i
 omega
theorem Y9 (bs:List UInt8) (k:Nat):kK bs k=(bs.drop (512*k)).take 512++cZ.drop ((bs.drop (512*k)).take 512).length:=by unfold kK dQ;rw[OB,pG,BF]
theorem OW (bs:List UInt8):∀(m k:Nat),bs.length<=512*(k+m)->(BR bs m k).take (bs.length-512*k)=bs.drop (512*k)
 |0,k,h=>by rw[aa2 aD];unfold BR;simp
 |m+1,k,h=>by
  rw[abO,List.take_append,BJ];by_cases hr:512<=bs.length-512*k
  ·(have hl:((bs.drop (512*k)).take 512).length=512:=by rw[tF,pU];omega);(have e1:kK bs k=(bs.drop (512*k)).take 512:=by have hz:cZ.drop 512=[]:=aa2 (by rw[eT];exact jL _);rw[Y9,hl,hz,yX56]);rw[e1,tH (by rw[hl];exact hr),show bs.length-512*k-512=bs.length-512*(k+1)by omega,OW bs m (k+1) aD];rw[show 512*(k+1)=512*k+512 by omega,<-OC,DL]
  rw[show bs.length-512*k-512=0 by omega,OB,yX56];have hl:(bs.drop (512*k)).length=bs.length-512*k:=pU;have e1:(bs.drop (512*k)).take 512=bs.drop (512*k):=tH aD;rw[Y9,e1,List.take_append,hl,oO,OB,yX56,tH aD]
theorem aoV (l:List Nat):l=(List.range l.length).map fun i=>l.getD i 0:=by
 apply DN;intro k;rw[lQ];by_cases hk:k<l.length
 ·rw[adX hk,PQ,gH,gE hk];rfl
 rw[D7 aD,D7 (by rw[QY];omega)];rfl
theorem afQ {c:fO} {d:Nat} {l:List Nat} {bs:List UInt8} (h:∀i,i<l.length->bk c (d+l.getD i 0)=kK bs (0+i)):rM c d l=BR bs l.length 0:=by
 unfold rM BR
 conv=>lhs;rw[aoV l]
 rw[List.flatMap_map,List.flatMap_def,List.flatMap_def];congr 1;exact BA fun i hi=>h i (List.mem_range.1 hi)
theorem dK.fill {S:VS} {g:LT} (h:dK S g) {n:Nat} {bs:List UInt8} (hn:n<S.names) (hk:(g n).kind=2) (hbs:bs.length<=8192):
  (∀S1,jI S n bs=some S1->dK S1 (dS g n {g n with data:=bs}))/\(jI S n bs=none->S.count<qU (dS g n {g n with data:=bs}) S.names):=by
 have hx:=h.head n hn;have hfn:=h.fair n hn;have he:(g n).bJ=[]:=hfn.bJ aD;have hfair:({g n with data:=bs}:LI).fair:=⟨hfn.kind,hfn.bJ,fun e=>absurd hk e,hfn.few,hbs,hfn.mode,hfn.links,hfn.names⟩;have KW:({g n with data:=bs}:LI).need=(bs.length+511)/512:=by unfold LI.need;rw[if_neg (by show ¬(g n).kind=1;omega),if_pos (by exact hk)]
 obtain⟨sp,hsp⟩:∃sp,sp=(aH S.cur n).aB:=⟨_,rfl⟩;have XI:=h.TI hn;have aoS:=h.nodup n hn;unfold jI;cases hf:lD S (aH S.cur n).aB ((bs.length+511)/512)with
 |none=>
  refine⟨fun S1 e=>(by cases e),fun _=>?_⟩;have hgt:(aH S.cur n).aB.length<(bs.length+511)/512:=by
   rcases Nat.lt_or_ge (aH S.cur n).aB.length ((bs.length+511)/512)with h1|h1
   ·exact h1
   obtain⟨S1,h2⟩:=MX (S:=S) (l:=(aH S.cur n).aB) (n:=(bs.length+511)/512) h1;rw[h2]at hf;cases hf
  obtain⟨t,ht1,ht2⟩:=(SQ h.use aD).2 hf;have h1:=h.used t ht2;have h2:=zO hn ({g n with data:=bs}:LI) (g:=g);rw[KW,<-h.len n hn]at h2;omega
 |some r=>
  obtain⟨S1,l⟩:=r;obtain⟨hu1,hl1,hlt1,aHN,aM8,hb1⟩:=abL h.use XI aoS hf;have QD:=(kF hf).1;have hm1:Mid S S1:=Mid.used QD hu1;obtain⟨hu2,hb2,hblk2,atA⟩:=afP bs l 0 S1 hu1 (fun s hs=>by rw[hm1.count];exact hlt1 s hs) aHN;have hm2:Mid S (nN bs l 0 S1):=hm1.trans (Mid.laid (qI bs l 0 S1) hu2);rw[hm1.data]at hblk2 atA;refine⟨fun S2 e=>?_,fun e=>(by cases e)⟩;cases e;(have hy:({aH S.cur n with size:=bs.length,aB:=l}:VI)=({g n with data:=bs}:LI).vi l:=by rw[hx];unfold LI.vi;simp only[VI.mk.injEq,true_and,and_true];unfold LI.size;rw[if_neg (by show ¬(g n).kind=1;omega)]);rw[hy];have as4:=h.abM hn aM8;refine h.step hn (Step.keep h hn hm2 hfair (by rw[KW];exact hl1) hlt1 aHN as4 (fun j hj=>?_) (fun m hmm e s hs=>?_) (fun k1=>?_) (fun _=>?_) ?_)
  ·rw[hb2];exact h.TJ hn hb1 hj
  ·rw[hblk2 s (as4 m hmm e s hs)];exact vX QD s
  ·exact absurd (show(g n).kind=1 from k1) aD
  ·unfold iO;(show(rM _ _ l).take ({g n with data:=bs}:LI).size=bs);rw[afQ atA];(have e1:({g n with data:=bs}:LI).size=bs.length:=by unfold LI.size;rw[if_neg (by show ¬(g n).kind=1;omega)]);have:=OW bs l.length 0 (by rw[hl1];omega);rw[Nat.mul_zero,Nat.sub_zero,YJ]at this;rw[e1,this]
  (show(nN bs l 0 S1).nodes=S.nodes-((g n).bJ.length:Nat)+((g n).bJ.length:Nat));rw[(qI bs l 0 S1).nodes,QD.nodes];omega
open Go.RowKit
structure wX (S:VS) (x:VI) (bs:List UInt8) (dir:Nat) (path:List UInt8):Prop where
 tab:TE S.cur S.names
 w:gM S
 valid:aU path=true
 len:path.length<=1048576
 kind:x.kind=1\/x.kind=2
 aB:x.aB=[]
 ok:x.ok
 few:bs.length<=8192
 file:∀n,nQ S.cur S.names=some n->x.kind=2->o7 (S.keep n x) n/\gM (S.keep n x)/\∀S2,jI (S.keep n x) n bs=some S2->gI S S2/\qD S2 dir n (aM path)/\nG S2
 dr:∀n j,nQ S.cur S.names=some n->lH (bk S.cur 1) S.count=some j->x.kind=1->({x with aB:=[j]}:VI).ok/\o7 (iD S j) n/\gM (iD S j)/\qD (lY S n x j) dir n (aM path)/\nG (lY S n x j)
 chg:∀S1,lT S x bs dir (aM path)=some S1->nO S S1
theorem Sep.dO {w0 W:World} {Y R:List bK} {b:Nat} {t:TypeId} {cs:Array Value} (i:Nat) (h:Sep w0 W (Y++R)) (hi:R[i]? =some (.box b t cs)) (j:Nat):W.cell? ⟨b,j,none⟩=cs[j]? :=
 h.bC (Y.length+i) ((D6 aD).trans (by rw[PN];exact hi)) j
theorem Z51 {P:Prop} (h:P:=by have h1:Sep w0 w' (Y++(A::R)):=hA.perm rF.symm;have h2:=h1.drop Y.length;rw[XD]at h2;exact h2):P:=h
theorem BS {f q p:Nat} {S:VS} {r:Option VS} {w0:World} {Y R:List bK} {e:Ending} {w':World} (h:fD f q p S r w0 (Y++R) e w'):fD f q p S r w0 R e w':=by
 have hd:∀(A:bK),Sep w0 w' (A::(Y++R))->Sep w0 w' (A::R):=fun A hA=>by exact Z51
 unfold fD at*;cases r with
 |none=>obtain⟨h1,S1,a1,h2,h3,h4⟩:=h;exact⟨h1,S1,a1,h2,h3,hd _ h4⟩
 |some S1=>obtain⟨h1,a1,h2,h3⟩:=h;exact⟨h1,a1,h2,hd _ h3⟩
section
variable {w0 w:World} {R:List bK} {f q p:Nat} {S:VS} {a:VA}
theorem aoW {bf bd bp bx bb dir L c0:Nat} {A0:Option Addr} {x:VI} {bs path:List UInt8} (hC:VC S a) (hF:VF S) (hm:wX S x bs dir path) (hv:jB w0 R (.slice A0 L c0) bs)
  (h:Sep w0 w (aF f q p S a:: .box bx 118 (aO x (.slice none 0 0))::bA (.slice none 0 0) []:: .box bf 24 #[pV f]:: .box bd 3 #[iV dir]:: .box bp 9 #[aC path]:: .box bb 35 #[.slice A0 L c0]::R)):
  Calls Tryz.prog 118 #[pV bf,pV bx,pV bb,pV bd,pV bp] w (fD f q p S (lT S x bs dir (aM path)) w0 R):=by
 unfold lT;cases hfr:nQ S.cur S.names with
 |none=>exact(ajO (fun W Y hW=>hW.dO 2 rfl 0) hC hF hm.tab hfr h).mono fun e w' ho=>BS (Y:=[_,_,_,_,_,_]) ho
 |some n=>
  rcases hm.kind with hk|hk
  ·simp only[hk,if_true];cases hfl:lH (bk S.cur 1) S.count with
   |none=>exact(ajQ (fun W Y hW=>hW.dO 0 rfl 0) hC hF hm.tab hk hm.aB hfr hfl h).mono fun e w' ho=>BS (Y:=[_,_,_,_]) ho
   |some j=>obtain⟨h1,h2,h3,h4,h5⟩:=hm.dr n j hfr hfl hk;exact(aoQ (fun W Y hW=>⟨hW.dO 0 rfl 0,hW.dO 1 rfl 0,hW.dO 2 rfl 0⟩) hC hF hm.tab h1 hk hm.aB hm.valid hm.len hfr hfl h2 h3 h4 h5 h).mono fun e w' ho=>BS (Y:=[_,_,_,_]) ho
  (have hk1:¬x.kind=1:=by rw[hk];decide);simp only[if_neg hk1];obtain⟨h1,h2,h3⟩:=hm.file n hfr hk;(refine(ajP (x:=x) (fun W Y hW=>?_) hC hF hm.tab hm.ok hk hm.aB hm.few (hv.more (Y:=[_,_,_,_,_,_])) hm.valid hm.len hm.w (kL 1 rfl) hfr h1 h2 h3 h).mono fun e w' ho=>BS (Y:=[_,_,_,_,_,_]) ho);have k0:W.cell? ⟨bx,0,none⟩=some (iV (x.kind:Nat)):=hW.dO 0 rfl 0;rw[hk]at k0;exact⟨hW.dO 2 rfl 0,hW.dO 5 rfl 0,hW.dO 3 rfl 0,hW.dO 4 rfl 0,k0,hW.dO 0 rfl 1,hW.dO 0 rfl 2,hW.dO 0 rfl 3,hW.dO 0 rfl 4⟩
theorem vO (w:World) (o:Obj):(w.alloc o).heap.size=w.heap.size+1:=by simp
theorem jY {f q p:Nat} {S:VS} {r:Option VS} {w0:World} {R:List bK} {e:Ending} {w':World} (h:dL f q p S r w0 R e w'):e= .returned (.tuple #[])\/∃k,e= .panicked (gJ k):=by
 unfold dL at h;cases r with
 |none=>exact .inr ⟨_,h.1⟩
 |some S1=>
  simp only at h;split at h
  ·split at h
   ·exact .inl h.1
   exact .inr ⟨_,h.1⟩
  exact .inr ⟨_,h.1⟩
theorem abP :∀args w,(callFunc 118 args).run Tryz.prog w= .ok (.enter 118 args) w:=Go.Proofs.enters_of Tryz.func118 fZ rfl
theorem KZ {dir:Nat} {v:Value} {x:VI} {bs path:List UInt8} (hC:VC S a) (hF:VF S) (hb:S.D.back=[]) (hm:wX S x bs dir path) (hv:jB w0 R v bs) (h:Sep w0 w (aF f q p S a::R)):
  Calls Tryz.prog 63 #[pV f,iV dir,aC path,.agg #[iV (x.kind:Nat),iV (x.mode:Nat),iV (x.links:Nat),iV (x.size:Nat),.slice none 0 0],v] w (dL f q p S (lT S x bs dir (aM path)) w0 R):=by
 obtain⟨L,A0,c0,hv0⟩:∃L A c,v= .slice A L c:=by obtain⟨_,A,c,e,_⟩:=hv w [_] h;exact⟨_,A,c,e⟩
 subst hv0;have hch:Hid (∀W bf bd bp bx bb,Sep w0 W (.box bb 35 #[.slice A0 L c0]:: .box bx 118 (aO x (.slice none 0 0)):: .box bp 9 #[aC path]:: .box bd 3 #[iV dir]:: .box bf 24 #[pV f]::aF f q p S a::R)->
   W.cell? ⟨bf,0,none⟩=some (pV f)/\Calls Tryz.prog 65 #[pV f,.func (.func 118) #[] #[pV bf,pV bx,pV bb,pV bd,pV bp]] W (dL f q p S (lT S x bs dir (aM path)) w0 R)):=Lh fun W bf bd bp bx bb hW=>by
  refine⟨hW.bC 4 rfl 0,?_⟩;have h1:Sep w0 W (aF f q p S a:: .box bx 118 (aO x (.slice none 0 0))::bA (.slice none 0 0) []:: .box bf 24 #[pV f]:: .box bd 3 #[iV dir]:: .box bp 9 #[aC path]:: .box bb 35 #[.slice A0 L c0]::R):=Sep.dE [6,2,0,5,4,3,1] (hW.dX 3 1) aQ bM;refine qL abP hC hb hm.chg (fun W2 X hX=>?_) h1;(have h2:Sep w0 W2 (aF f q p S a::(.box bx 118 (aO x (.slice none 0 0))::bA (.slice none 0 0) []:: .box bf 24 #[pV f]:: .box bd 3 #[iV dir]:: .box bp 9 #[aC path]:: .box bb 35 #[.slice A0 L c0]::(X++R))):=by refine hX.perm (List.Perm.cons _ ?_);have e:=List.perm_append_comm_assoc X [.box bx 118 (aO x (.slice none 0 0)),bA (.slice none 0 0) [],.box bf 24 #[pV f],.box bd 3 #[iV dir],.box bp 9 #[aC path],.box bb 35 #[.slice A0 L c0]] R;exact e);exact aoW hC hF hm hv.more h2
 have hs:=((((h.bN 24 #[pV f]).bN 3 #[iV dir]).bN 9 #[aC path]).bN 118 (aO x (.slice none 0 0))).bN 35 #[.slice A0 L c0];have hc:=hch.out _ _ _ _ _ _ hs;simp only[vO]at hc;obtain⟨c0',hcall⟩:=hc;clear hch hs h hC hF hb hm hv;unfold aO aC at*;go_enter Tryz.func63,Tryz.ntmps63;go_wp2_with(go_at_call 65;refine hcall.mono ?_;intro e w9 ho;rcases jY ho with rfl|⟨k,rfl⟩)
 ·go_end0
  exact ho
 exact⟨rfl,ho⟩
end
theorem jZ {f q p:Nat} {S:VS} {r:Option VS} {w0:World} {Y R:List bK} {e:Ending} {w':World} (h:dL f q p S r w0 (Y++R) e w'):dL f q p S r w0 R e w':=by
 have hd:∀(A:bK),Sep w0 w' (A::(Y++R))->Sep w0 w' (A::R):=fun A hA=>by exact Z51
 unfold dL at*;cases r with
 |none=>exact⟨h.1,hd _ h.2⟩
 |some S1=>
  simp only at h ⊢;split
  ·rename_i h1;rw[if_pos h1]at h;split
   ·rename_i h2;rw[if_pos h2]at h;exact⟨h.1,hd _ h.2⟩
   rename_i h2;rw[if_neg h2]at h;refine⟨h.1,?_⟩;have h1:Sep w0 w' (Y++(OJ f q p false::aN p S1.bL.1::R)):=h.2.perm ((rF (l₁:=Y) (a:=aN p S1.bL.1) (l₂:=R)).symm.cons _|>.trans rF.symm);have h2:=h1.drop Y.length;rw[XD]at h2;exact h2
  rename_i h1;rw[if_neg h1]at h;exact⟨h.1,hd _ h.2⟩
theorem ZA {f q p:Nat} {S:VS} {r:Option VS} {w0:World} {R:List bK} {e:Ending} {w':World} (h:dL f q p S r w0 R e w'):∃Y,Sep w0 w' (Y++R):=by
 unfold dL at h;cases r with
 |none=>exact⟨[_],h.2⟩
 |some S1=>
  simp only at h;split at h
  ·split at h
   ·exact⟨[_],h.2⟩
   exact⟨[_,_],h.2⟩
  exact⟨[_],h.2⟩
def oG (f q p:Nat) (S:VS) (r:Except Int (Option VS)) (w0:World) (R:List bK) (e:Ending) (w':World):Prop:=
 match r with
 | .error k=>e= .panicked (gJ k)/\∃a',VC S a'/\Sep w0 w' (aF f q p S a'::R)
 | .ok r=>dL f q p S r w0 R e w'
def gV (r:Int×Int×Int):Option Int:=if r.2.2=0 then(if r.2.1<0 then none else some 23)else some r.2.2
theorem Z44 {P:Prop} (h:P:=by
 by_cases h1:r.2.2=0
 ·rw[if_pos h1,if_pos h1];by_cases h2:r.2.1<0
  ·rw[if_pos h2,if_pos h2]
  rw[if_neg h2,if_neg h2]
 rw[if_neg h1,if_neg h1]):P:=h
theorem uE (r:Int×Int×Int):rQ r=match gV r with|some k=>.panicked (gJ k)|none=>.returned (iV r.1):=by unfold rQ gV;exact Z44
theorem uF {r:Int×Int×Int} (h:gV r=none):r.2.2=0/\r.2.1<0:=by
 unfold gV at h;by_cases h1:r.2.2=0
 ·rw[if_pos h1]at h;by_cases h2:r.2.1<0
  ·exact⟨h1,h2⟩
  rw[if_neg h2]at h;cases h
 rw[if_neg h1]at h;cases h
def M9 (S:VS) (path:List UInt8) (x:VI) (bs:List UInt8):Except Int (Option VS):=
 match gV (bB S.cur S.data 0 0 (splitB path))with
 |some k=>.error k
 |none=>if S.nodes<256 then .ok (lT S x bs (bB S.cur S.data 0 0 (splitB path)).1.toNat (aM path))else .error 31
section
variable {w0 w:World} {R:List bK} {f q p:Nat} {S:VS} {a:VA}
theorem aoX {w0:World} {R:List bK}:jB w0 R (.slice none 0 0) []:=fun w' X h=>(h.dX 5 1).rd 0 rfl
theorem Z19 {P:Prop} (h:P:=by unfold oG;exact⟨rfl,rfl,_,hend.out.1,(hend.out.2.perm (List.Perm.swap _ _ _)).drop 1⟩):P:=h
theorem Z72 {P:Prop} (h:P:=by go_wp2_with(first |(go_at_call 98;refine dC.mono ?_;rintro e w9 ⟨rfl,a9,eG,h9⟩;have uG:=hon.out _ _ _ h9;have hend:=Lh (And.intro eG h9);clear eG h9 dC)|(go_at_call 62;refine uG.mono ?_;rintro e w8 ⟨rfl,h8⟩;obtain rfl:=h8.symm;clear uG));exact Z19):P:=h
theorem Z90 {P:Prop} (h:P:=by go_wp2_with(go_at_call 98;refine dC.mono ?_;rintro e w9 ⟨rfl,a9,eG,h9⟩;have hend:=Lh (And.intro eG h9);clear eG h9 dC);exact Z19):P:=h
theorem aoY {vs:Value} {op kk:Int} {mode:Nat} {path tz:List UInt8} (hC:VC S a) (hV:VW S) (hb:S.D.back=[]) (hv:aU path=true) (hp:path.length<=1048576)
  (hm:∀d:Nat,bB S.cur S.data 0 0 (splitB path)=((d:Int), -1,0)->S.nodes<256->wX S (⟨1,mode,1,0,[]⟩:VI) [] d path) (h:Sep w0 w (aF f q p S a::R)):
  Calls Tryz.prog 45 #[pV f,.agg #[iV op,aC path,aC tz,iV mode,iV kk],vs] w (oG f q p S (M9 S path (⟨1,mode,1,0,[]⟩:VI) []) w0 R):=by
 have hno:Hid (∀W b,Sep w0 W (aF f q p S a:: .box b 38 #[iV op,aC path,aC tz,iV mode,iV kk]::R)->Calls Tryz.prog 98 #[pV f,aC path] W fun e w'=>e=rQ (bB S.cur S.data 0 0 (splitB path))/\∃a',VC S a'/\Sep w0 w' (aF f q p S a':: .box b 38 #[iV op,aC path,aC tz,iV mode,iV kk]::R)):=Lh fun W b hW=>
  (uC hC hV hv hp hW).mono fun e w' ⟨h1,a',h2,h3⟩=>⟨h1,a',h2.ok,h3⟩
 have hon:Hid (∀W b a1,Sep w0 W (aF f q p S a1:: .box b 38 #[iV op,aC path,aC tz,iV mode,iV kk]::R)->Calls Tryz.prog 62 #[pV f] W fun e w'=>e=(if S.nodes<256 then .returned (.tuple #[])else .panicked (gJ 31))/\w'=W):=Lh fun W b a1 hW=>KR hW
 have hmd:Hid (∀d:Nat,bB S.cur S.data 0 0 (splitB path)=((d:Int), -1,0)->S.nodes<256->∀W b a1,VC S a1->Sep w0 W (aF f q p S a1:: .box b 38 #[iV op,aC path,aC tz,iV mode,iV kk]::R)->Calls Tryz.prog 63 #[pV f,iV d,aC path,.agg #[iV 1,iV mode,iV 1,iV 0,.slice none 0 0],.slice none 0 0] W fun e w'=>dL f q p S (lT S (⟨1,mode,1,0,[]⟩:VI) [] d (aM path)) w0 R e w'):=Lh fun d h1 h2 W b a1 h3 hW=>
  (KZ (x:=(⟨1,mode,1,0,[]⟩:VI)) h3 hV.vf hb (hm d h1 h2) (aoX) hW).mono fun e w' ho=>jZ (Y:=[_]) ho
 have hok:=rR hV (splitB path) 0 0 hV.n0 hV.n0;have hcs:Hid (∀W b Y,Sep w0 W (Y++(.box b 38 #[iV op,aC path,aC tz,iV mode,iV kk]::R))->W.cell? ⟨b,1,none⟩=some (aC path)/\W.cell? ⟨b,3,none⟩=some (iV mode)):=Lh fun W b Y hW=>⟨hW.dO 0 rfl 1,hW.dO 0 rfl 3⟩
 have hX:Hid (Sep w0 (w.alloc (.cells #[iV op,aC path,aC tz,iV mode,iV kk] 38)) (aF f q p S a:: .box w.heap.size 38 #[iV op,aC path,aC tz,iV mode,iV kk]::R)):=Lh ((h.bN _ _).perm (List.Perm.swap _ _ _));have dC:=hno.out _ _ hX.out;have hc:=hcs.out _ _ [_] hX.out;obtain⟨b,hbb⟩:∃b,b=w.heap.size:=⟨_,rfl⟩;rw[<-hbb]at dC hc;have aCP:=Lh hbb;obtain⟨r,hr⟩:∃r,r=bB S.cur S.data 0 0 (splitB path):=⟨_,rfl⟩;unfold M9;rw[<-hr]at dC hmd hok ⊢;obtain⟨nb,hnb⟩:∃x,x=aM path:=⟨_,rfl⟩;rw[<-hnb]at hmd ⊢;clear hC hV hb hv hp hm h hno hr hnb hX;rw[uE]at dC;cases hn:gV r with
 |some k=>rw[hn]at dC;clear hok hmd hn hon;unfold aC at*;simp only at dC;rw[hbb]at dC hc;go_enter Tryz.func45,Tryz.ntmps45;exact Z90
 |none=>
  rw[hn]at dC;obtain⟨hr0,hr1⟩:=uF hn;obtain⟨⟨d,hdl,hd⟩,hd2⟩:=hok hr0;have hd3:r.2.1= -1:=by
   rcases hd2 with hd2|⟨m,_,hd2⟩
   ·exact hd2
   omega
  (have hre:r=((d:Int), -1,0):=by obtain⟨r1,r2,r3⟩:=r;simp only at hd hd3 hr0;rw[hd,hd3,hr0]);subst hre;simp only[nA]at*;clear hok hn hr0 hr1 hd hd2 hd3 hdl;by_cases hnn:S.nodes<256
  ·rw[if_pos hnn]at hon ⊢;have XK:=Lh (hmd.out d rfl hnn);obtain⟨rX,yE⟩:∃rX,rX=lT S (⟨1,mode,1,0,[]⟩:VI) [] d nb:=⟨_,rfl⟩;rw[<-yE]at XK ⊢;clear hmd hnn yE;unfold aC at*;rw[hbb]at dC hc;go_enter Tryz.func45,Tryz.ntmps45;go_wp2_with(first |(go_at_call 98;refine dC.mono ?_;rintro e w9 ⟨rfl,a9,eG,h9⟩;clear hc;rw[<-hbb]at h9 ⊢;have hc:=hcs.out _ _ [_] h9;have hX:=Lh h9;have hVC:=Lh eG;have uG:=hon.out _ _ _ h9;clear eG h9 dC hbb)|(go_at_call 62;refine uG.mono ?_;rintro e w8 ⟨rfl,h8⟩;obtain rfl:=h8.symm;clear uG;have ayJ:=XK.out _ _ _ hVC.out hX.out;clear hX hVC XK)|(go_at_call 63;refine ayJ.mono ?_;intro e w7 ho;rcases jY ho with rfl|⟨k,rfl⟩))
   ·go_end0
    exact ho
   exact⟨rfl,ho⟩
  rw[if_neg hnn]at hon ⊢;clear hmd hnn;unfold aC at*;rw[hbb]at dC hc;go_enter Tryz.func45,Tryz.ntmps45;exact Z72
theorem aoZ {sa:Addr} {nn cc kk:Nat} {v:Value} {bs:List UInt8} {op:Int} {mode:Nat} {path tz:List UInt8} (hC:VC S a) (hV:VW S) (hb:S.D.back=[]) (hv:aU path=true) (hp:path.length<=1048576) (hst:∀W Y,Sep w0 W (Y++R)->W.cell? (sa.add kk)=some v) (hkk:kk<nn) (hnn:nn<9223372036854775808) (hbv:jB w0 R v bs)
  (hm:∀d:Nat,bB S.cur S.data 0 0 (splitB path)=((d:Int), -1,0)->S.nodes<256->wX S (⟨2,mode,1,0,[]⟩:VI) bs d path) (h:Sep w0 w (aF f q p S a::R)):
  Calls Tryz.prog 50 #[pV f,.agg #[iV op,aC path,aC tz,iV mode,iV kk],.slice (some sa) nn cc] w (oG f q p S (M9 S path (⟨2,mode,1,0,[]⟩:VI) bs) w0 R):=by
 have hno:Hid (∀W b,Sep w0 W (aF f q p S a:: .box b 38 #[iV op,aC path,aC tz,iV mode,iV kk]::R)->Calls Tryz.prog 98 #[pV f,aC path] W fun e w'=>e=rQ (bB S.cur S.data 0 0 (splitB path))/\∃a',VC S a'/\Sep w0 w' (aF f q p S a':: .box b 38 #[iV op,aC path,aC tz,iV mode,iV kk]::R)):=Lh fun W b hW=>
  (uC hC hV hv hp hW).mono fun e w' ⟨h1,a',h2,h3⟩=>⟨h1,a',h2.ok,h3⟩
 have hon:Hid (∀W b a1,Sep w0 W (aF f q p S a1:: .box b 38 #[iV op,aC path,aC tz,iV mode,iV kk]::R)->Calls Tryz.prog 62 #[pV f] W fun e w'=>e=(if S.nodes<256 then .returned (.tuple #[])else .panicked (gJ 31))/\w'=W):=Lh fun W b a1 hW=>KR hW
 have hmd:Hid (∀d:Nat,bB S.cur S.data 0 0 (splitB path)=((d:Int), -1,0)->S.nodes<256->∀W b a1,VC S a1->Sep w0 W (aF f q p S a1:: .box b 38 #[iV op,aC path,aC tz,iV mode,iV kk]::R)->Calls Tryz.prog 63 #[pV f,iV d,aC path,.agg #[iV 2,iV mode,iV 1,iV 0,.slice none 0 0],v] W fun e w'=>dL f q p S (lT S (⟨2,mode,1,0,[]⟩:VI) bs d (aM path)) w0 R e w'/\∃Y,Sep w0 w' (Y++(.box b 38 #[iV op,aC path,aC tz,iV mode,iV kk]::R))):=Lh fun d h1 h2 W b a1 h3 hW=>
  (KZ (x:=(⟨2,mode,1,0,[]⟩:VI)) h3 hV.vf hb (hm d h1 h2) (hbv.cons) hW).mono fun e w' ho=>⟨jZ (Y:=[_]) ho,ZA ho⟩
 have hok:=rR hV (splitB path) 0 0 hV.n0 hV.n0;have hcs:Hid (∀W b Y,Sep w0 W (Y++(.box b 38 #[iV op,aC path,aC tz,iV mode,iV kk]::R))->W.cell? ⟨b,1,none⟩=some (aC path)/\W.cell? ⟨b,3,none⟩=some (iV mode)/\W.cell? ⟨b,4,none⟩=some (iV kk)/\W.cell? (sa.add kk)=some v):=Lh fun W b Y hW=>⟨hW.dO 0 rfl 1,hW.dO 0 rfl 3,hW.dO 0 rfl 4,hst W (Y++[_]) (by rw[uN];exact hW)⟩
 have hX:Hid (Sep w0 (w.alloc (.cells #[iV op,aC path,aC tz,iV mode,iV kk] 38)) (aF f q p S a:: .box w.heap.size 38 #[iV op,aC path,aC tz,iV mode,iV kk]::R)):=Lh ((h.bN _ _).perm (List.Perm.swap _ _ _));have dC:=hno.out _ _ hX.out;have hc:=hcs.out _ _ [_] hX.out;obtain⟨b,hbb⟩:∃b,b=w.heap.size:=⟨_,rfl⟩;rw[<-hbb]at dC hc;have aCP:=Lh hbb;obtain⟨r,hr⟩:∃r,r=bB S.cur S.data 0 0 (splitB path):=⟨_,rfl⟩;unfold M9;rw[<-hr]at dC hmd hok ⊢;obtain⟨nb,hnb⟩:∃x,x=aM path:=⟨_,rfl⟩;rw[<-hnb]at hmd ⊢;obtain⟨A9,L9,c9,hv9⟩:∃A L c,v= .slice A L c:=by obtain⟨_,A,c,e,_⟩:=hbv w [_] h;exact⟨A,_,c,e⟩
 subst hv9;have q0:(0:Int)<=kk:=by omega
 have q1:(kk:Int)<nn:=by omega
 clear hC hV hb hv hp hm h hno hr hnb hX hst hbv;rw[uE]at dC;cases hn:gV r with
 |some k=>rw[hn]at dC;clear hok hmd hn hon;unfold aC at*;simp only at dC;rw[hbb]at dC hc;go_enter Tryz.func50,Tryz.ntmps50;exact Z90
 |none=>
  rw[hn]at dC;obtain⟨hr0,hr1⟩:=uF hn;obtain⟨⟨d,hdl,hd⟩,hd2⟩:=hok hr0;have hd3:r.2.1= -1:=by
   rcases hd2 with hd2|⟨m,_,hd2⟩
   ·exact hd2
   omega
  (have hre:r=((d:Int), -1,0):=by obtain⟨r1,r2,r3⟩:=r;simp only at hd hd3 hr0;rw[hd,hd3,hr0]);subst hre;simp only[nA]at*;clear hok hn hr0 hr1 hd hd2 hd3 hdl;by_cases hnn:S.nodes<256
  ·rw[if_pos hnn]at hon ⊢;have XK:=Lh (hmd.out d rfl hnn);obtain⟨rX,yE⟩:∃rX,rX=lT S (⟨2,mode,1,0,[]⟩:VI) bs d nb:=⟨_,rfl⟩;rw[<-yE]at XK ⊢;clear hmd hnn yE;unfold aC at*;rw[hbb]at dC hc;go_enter Tryz.func50,Tryz.ntmps50;go_wp2_with(first |(go_at_call 98;refine dC.mono ?_;rintro e w9 ⟨rfl,a9,eG,h9⟩;clear hc;rw[<-hbb]at h9 ⊢;have hc:=hcs.out _ _ [_] h9;have hX:=Lh h9;have hVC:=Lh eG;have uG:=hon.out _ _ _ h9;clear eG h9 dC hbb)|(go_at_call 62;refine uG.mono ?_;rintro e w8 ⟨rfl,h8⟩;obtain rfl:=h8.symm;clear uG)|(go_at_call 63;refine ayJ.mono ?_;intro e w7 ho;rcases jY ho with rfl|⟨k,rfl⟩));have hc2:w9.drew.cell? ⟨b,1,none⟩=some (.string ⟨path.toArray⟩)/\w9.drew.cell? ⟨b,3,none⟩=some (iV mode)/\w9.drew.cell? ⟨b,4,none⟩=some (iV kk)/\w9.drew.cell? (sa.add kk)=some (.slice A9 L9 c9):=hc;have ayJ:=XK.out _ _ _ hVC.out hX.out.drew;clear hc hX hVC XK;refine aJ (S:=fun w'=>w'.cell? ⟨b,1,none⟩=some (.string ⟨path.toArray⟩)/\w'.cell? ⟨b,3,none⟩=some (iV mode)/\w'.cell? ⟨b,4,none⟩=some (iV kk)/\w'.cell? (sa.add kk)=some (.slice A9 L9 c9)) 13 ?_;refine aA 0 hc2 ?_;refine aA 1 hc2 ?_;refine aA 2 hc2 ?_;refine aA 3 hc2 ?_;refine aA 4 hc2 ?_;refine aA 5 hc2 ?_;refine aA 6 hc2 ?_;refine aA 7 hc2 ?_;refine aA 8 hc2 ?_;refine aA 9 hc2 ?_;refine aA 10 hc2 ?_;refine aA 11 hc2 ?_;(refine bG 12 fun K hK=>?_);go_simp;go_at_call 63;refine ayJ.mono ?_;rintro e w7 ⟨ho,Y,hY⟩;have hc3:=hcs.out _ _ _ hY;rcases jY ho with rfl|⟨k,rfl⟩
   ·dsimp only;refine hK _ _ (fun _=>hc3) ?_;clear hK K;(try simp only[Act.put,gD]);refine aR fZ ?_ _
    go_end0
    exact ho
   exact⟨rfl,ho⟩
  rw[if_neg hnn]at hon ⊢;clear hmd hnn;unfold aC at*;rw[hbb]at dC hc;go_enter Tryz.func50,Tryz.ntmps50;exact Z72
end
end Go.Proofs.YteihmbaimbogaaaGreat
