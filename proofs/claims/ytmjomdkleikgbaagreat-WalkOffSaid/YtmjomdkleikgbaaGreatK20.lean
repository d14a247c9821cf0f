/- Parts. -/
import Derived.Test.YtmjomdkleikgbaaGreatK19
set_option linter.unusedVariables false
set_option linter.unusedSimpArgs false
set_option maxRecDepth 100000
set_option maxHeartbeats 20000000
namespace Go.Proofs.YtmjomdkleikgbaaGreat
theorem adD (bs:List UInt8):∀(l:List Nat) (k:Nat) (S:VS),dZ S->(∀s∈l,s<S.count)->l.Nodup->
  dZ (mR bs l k S)/\(∀j,(mR bs l k S).bit j=S.bit j)/\(∀s,s∉l->bk (mR bs l k S).cur (S.data+s)=bk S.cur (S.data+s))/\∀i,i<l.length->bk (mR bs l k S).cur (S.data+l.getD i 0)=jE bs (k+i)
 |[],k,S,h,_,_=>⟨h,fun _=>rfl,fun _ _=>rfl,fun i hi=>absurd hi (FO _)⟩
 |s::l,k,S,h,hl,hn=>by
  rw[xJ]at hn;have hs:=hl s (nH ..);have hu:dZ (S.put (S.data+s) (jE bs k)):=h.put _ (yR bs k);obtain⟨h1,h2,h3,h4⟩:=adD bs l (k+1) (S.put (S.data+s) (jE bs k)) hu (fun t ht=>hl t (vR _ ht)) hn.2;refine⟨h1,fun j=>?_,fun t ht=>?_,fun i hi=>?_⟩
  ·(show(mR bs l (k+1) (S.put (S.data+s) (jE bs k))).bit j=_);rw[h2];(show pJ (bk (S.cur.set (S.data+s) _) 1) j=_);rw[dK _ _ (by unfold VS.data;omega)];rfl
  ·rw[kE,not_or]at ht;have:=h3 t ht.2;(show bk (mR bs l (k+1) (S.put (S.data+s) (jE bs k))).cur (S.data+t)=_);refine this.trans ?_;exact dK _ _ (fun e=>ht.1 (by have:S.data+t=S.data+s:=e;omega))
  cases i with
  |zero=>have:=h3 s hn.1;(show bk (mR bs l (k+1) (S.put (S.data+s) (jE bs k))).cur (S.data+s)=_);refine this.trans ?_;(show bk (S.cur.set (S.data+s) _) (S.data+s)=_);rw[BG _ _ _ _ (by rw[h.cur.len];exact h.room hs),if_pos rfl];rfl
  |succ i=>have:=h4 i (by simpa using hi);rw[show k+1+i=k+(i+1)by omega]at this;exact this
def yY (bs:List UInt8) (m k:Nat):List UInt8:=(List.range m).flatMap fun i=>jE bs (k+i)
theorem ZR (bs:List UInt8) (m k:Nat):yY bs (m+1) k=jE bs k++yY bs m (k+1):=by
 unfold yY;rw[List.range_succ_eq_map,xI,List.flatMap_map];congr 1;congr 1;funext i;congr 1;show k+(i+1)=k+1+i
 omega
theorem WN (bs:List UInt8) (k:Nat):jE bs k=(bs.drop (512*k)).take 512++bX.drop ((bs.drop (512*k)).take 512).length:=by unfold jE dR;rw[OO,mI,GZ]
theorem MS (bs:List UInt8):∀(m k:Nat),bs.length<=512*(k+m)->(yY bs m k).take (bs.length-512*k)=bs.drop (512*k)
 |0,k,h=>by rw[abQ aD];unfold yY;simp
 |m+1,k,h=>by
  rw[ZR,List.take_append,yR];by_cases hr:512<=bs.length-512*k
  ·(have hl:((bs.drop (512*k)).take 512).length=512:=by rw[qP,rZ];omega);(have e1:jE bs k=(bs.drop (512*k)).take 512:=by have hz:bX.drop 512=[]:=abQ (by rw[fV];exact iC _);rw[WN,hl,hz,yX46]);rw[e1,pM (by rw[hl];exact hr),show bs.length-512*k-512=bs.length-512*(k+1)by omega,MS bs m (k+1) aD];rw[show 512*(k+1)=512*k+512 by omega,<-L6,EJ]
  rw[show bs.length-512*k-512=0 by omega,OO,yX46];have hl:(bs.drop (512*k)).length=bs.length-512*k:=rZ;have e1:(bs.drop (512*k)).take 512=bs.drop (512*k):=pM aD;rw[WN,e1,List.take_append,hl,FP,OO,yX46,pM aD]
theorem amY (l:List Nat):l=(List.range l.length).map fun i=>l.getD i 0:=by
 apply GV;intro k;rw[lC];by_cases hk:k<l.length
 ·rw[VN hk,UL,gH,gE hk];rfl
 rw[FK aD,FK (by rw[LW];omega)];rfl
theorem adE {c:gI} {d:Nat} {l:List Nat} {bs:List UInt8} (h:∀i,i<l.length->bk c (d+l.getD i 0)=jE bs (0+i)):pQ c d l=yY bs l.length 0:=by
 unfold pQ yY
 conv=>lhs;rw[amY l]
 rw[List.flatMap_map,List.flatMap_def,List.flatMap_def];congr 1;exact uO fun i hi=>h i (List.mem_range.1 hi)
theorem dD.fill {S:VS} {g:LT} (h:dD S g) {n:Nat} {bs:List UInt8} (hn:n<S.names) (hk:(g n).kind=2) (hbs:bs.length<=8192):
  (∀S1,mU S n bs=some S1->dD S1 (dP g n {g n with data:=bs}))/\(mU S n bs=none->S.count<oZ (dP g n {g n with data:=bs}) S.names):=by
 have hx:=h.head n hn;have hfn:=h.fair n hn;have he:(g n).bH=[]:=hfn.bH aD;have hfair:({g n with data:=bs}:LI).fair:=⟨hfn.kind,hfn.bH,fun e=>absurd hk e,hfn.few,hbs,hfn.mode,hfn.links,hfn.names⟩;have IJ:({g n with data:=bs}:LI).need=(bs.length+511)/512:=by unfold LI.need;rw[if_neg (by show ¬(g n).kind=1;omega),if_pos (by exact hk)]
 obtain⟨sp,hsp⟩:∃sp,sp=(aH S.cur n).aB:=⟨_,rfl⟩;have UR:=h.QQ hn;have amV:=h.nodup n hn;unfold mU;cases hf:jY S (aH S.cur n).aB ((bs.length+511)/512)with
 |none=>
  refine⟨fun S1 e=>(by cases e),fun _=>?_⟩;have hgt:(aH S.cur n).aB.length<(bs.length+511)/512:=by
   rcases AZ (aH S.cur n).aB.length ((bs.length+511)/512)with h1|h1
   ·exact h1
   obtain⟨S1,h2⟩:=KD (S:=S) (l:=(aH S.cur n).aB) (n:=(bs.length+511)/512) h1;rw[h2]at hf;cases hf
  obtain⟨t,ht1,ht2⟩:=(QF h.use aD).2 hf;have h1:=h.used t ht2;have h2:=xV hn ({g n with data:=bs}:LI) (g:=g);rw[IJ,<-h.len n hn]at h2;omega
 |some r=>
  obtain⟨S1,l⟩:=r;obtain⟨hu1,hl1,hlt1,aEF,aJA,hb1⟩:=ZO h.use UR amV hf;have NW:=(jR hf).1;have hm1:Mid S S1:=Mid.used NW hu1;obtain⟨hu2,hb2,hblk2,aEG⟩:=adD bs l 0 S1 hu1 (fun s hs=>by rw[hm1.count];exact hlt1 s hs) aEF;have hm2:Mid S (mR bs l 0 S1):=hm1.trans (Mid.laid (qZ bs l 0 S1) hu2);rw[hm1.data]at hblk2 aEG;refine⟨fun S2 e=>?_,fun e=>(by cases e)⟩;cases e;(have hy:({aH S.cur n with size:=bs.length,aB:=l}:VI)=({g n with data:=bs}:LI).vi l:=by rw[hx];unfold LI.vi;simp only[VI.mk.injEq,true_and,and_true];unfold LI.size;rw[if_neg (by show ¬(g n).kind=1;omega)]);rw[hy];have aqZ:=h.ZP hn aJA;refine h.step hn (Step.keep h hn hm2 hfair (by rw[IJ];exact hl1) hlt1 aEF aqZ (fun j hj=>?_) (fun m hmm e s hs=>?_) (fun k1=>?_) (fun _=>?_) ?_)
  ·rw[hb2];exact h.QR hn hb1 hj
  ·rw[hblk2 s (aqZ m hmm e s hs)];exact uF NW s
  ·exact absurd (show(g n).kind=1 from k1) aD
  ·unfold fB;(show(pQ _ _ l).take ({g n with data:=bs}:LI).size=bs);rw[adE aEG];(have e1:({g n with data:=bs}:LI).size=bs.length:=by unfold LI.size;rw[if_neg (by show ¬(g n).kind=1;omega)]);have:=MS bs l.length 0 (by rw[hl1];omega);rw[Nat.mul_zero,Nat.sub_zero,ab5]at this;rw[e1,this]
  (show(mR bs l 0 S1).nodes=S.nodes-((g n).bH.length:Nat)+((g n).bH.length:Nat));rw[(qZ bs l 0 S1).nodes,NW.nodes];omega
open Go.RowKit
structure wX (S:VS) (x:VI) (bs:List UInt8) (dir:Nat) (path:List UInt8):Prop where
 tab:QN S.cur S.names
 w:gK S
 valid:aV path=true
 len:path.length<=1048576
 kind:x.kind=1\/x.kind=2
 aB:x.aB=[]
 ok:x.ok
 few:bs.length<=8192
 file:∀n,l8 S.cur S.names=some n->x.kind=2->p8 (S.keep n x) n/\gK (S.keep n x)/\∀S2,mU (S.keep n x) n bs=some S2->fC S S2/\oG S2 dir n (aL path)/\lW S2
 dr:∀n j,l8 S.cur S.names=some n->j5 (bk S.cur 1) S.count=some j->x.kind=1->({x with aB:=[j]}:VI).ok/\p8 (gN S j) n/\gK (gN S j)/\oG (kN S n x j) dir n (aL path)/\lW (kN S n x j)
 chg:∀S1,lK S x bs dir (aL path)=some S1->nX S S1
theorem Sep.dS {w0 W:World} {Y R:List aW} {b:Nat} {t:TypeId} {cs:Array Value} (i:Nat) (h:Sep w0 W (Y++R)) (hi:R[i]? =some (.box b t cs)) (j:Nat):W.cell? ⟨b,j,none⟩=cs[j]? :=
 h.bC (Y.length+i) ((vT aD).trans (by rw[J2];exact hi)) j
theorem Z48 {P:Prop} (h:P:=by have h1:Sep w0 w' (Y++(A::R)):=hA.perm lD.symm;have h2:=h1.drop Y.length;rw[G7]at h2;exact h2):P:=h
theorem yZ {f q p:Nat} {S:VS} {r:Option VS} {w0:World} {Y R:List aW} {e:Ending} {w':World} (h:fQ f q p S r w0 (Y++R) e w'):fQ f q p S r w0 R e w':=by
 have hd:∀(A:aW),Sep w0 w' (A::(Y++R))->Sep w0 w' (A::R):=fun A hA=>by exact Z48
 unfold fQ at*;cases r with
 |none=>obtain⟨h1,S1,a1,h2,h3,h4⟩:=h;exact⟨h1,S1,a1,h2,h3,hd _ h4⟩
 |some S1=>obtain⟨h1,a1,h2,h3⟩:=h;exact⟨h1,a1,h2,hd _ h3⟩
section
variable {w0 w:World} {R:List aW} {f q p:Nat} {S:VS} {a:VA}
theorem amZ {bf bd bp bx bb dir L c0:Nat} {A0:Option Addr} {x:VI} {bs path:List UInt8} (hC:VC S a) (hF:VF S) (hm:wX S x bs dir path) (hv:jI w0 R (.slice A0 L c0) bs)
  (h:Sep w0 w (aF f q p S a:: .box bx 129 (aN x (.slice none 0 0))::aS (.slice none 0 0) []:: .box bf 37 #[pV f]:: .box bd 3 #[iV dir]:: .box bp 9 #[aC path]:: .box bb 69 #[.slice A0 L c0]::R)):
  Calls Tryz.prog 140 #[pV bf,pV bx,pV bb,pV bd,pV bp] w (fQ f q p S (lK S x bs dir (aL path)) w0 R):=by
 unfold lK;cases hfr:l8 S.cur S.names with
 |none=>exact(ag6 (fun W Y hW=>hW.dS 2 rfl 0) hC hF hm.tab hfr h).mono fun e w' ho=>yZ (Y:=[_,_,_,_,_,_]) ho
 |some n=>
  rcases hm.kind with hk|hk
  ·simp only[hk,if_true];cases hfl:j5 (bk S.cur 1) S.count with
   |none=>exact(ag8 (fun W Y hW=>hW.dS 0 rfl 0) hC hF hm.tab hk hm.aB hfr hfl h).mono fun e w' ho=>yZ (Y:=[_,_,_,_]) ho
   |some j=>obtain⟨h1,h2,h3,h4,h5⟩:=hm.dr n j hfr hfl hk;exact(amT (fun W Y hW=>⟨hW.dS 0 rfl 0,hW.dS 1 rfl 0,hW.dS 2 rfl 0⟩) hC hF hm.tab h1 hk hm.aB hm.valid hm.len hfr hfl h2 h3 h4 h5 h).mono fun e w' ho=>yZ (Y:=[_,_,_,_]) ho
  (have hk1:¬x.kind=1:=by rw[hk];decide);simp only[if_neg hk1];obtain⟨h1,h2,h3⟩:=hm.file n hfr hk;(refine(ag7 (x:=x) (fun W Y hW=>?_) hC hF hm.tab hm.ok hk hm.aB hm.few (hv.more (Y:=[_,_,_,_,_,_])) hm.valid hm.len hm.w (jF 1 rfl) hfr h1 h2 h3 h).mono fun e w' ho=>yZ (Y:=[_,_,_,_,_,_]) ho);have k0:W.cell? ⟨bx,0,none⟩=some (iV (x.kind:Nat)):=hW.dS 0 rfl 0;rw[hk]at k0;exact⟨hW.dS 2 rfl 0,hW.dS 5 rfl 0,hW.dS 3 rfl 0,hW.dS 4 rfl 0,k0,hW.dS 0 rfl 1,hW.dS 0 rfl 2,hW.dS 0 rfl 3,hW.dS 0 rfl 4⟩
theorem tT (w:World) (o:Obj):(w.alloc o).heap.size=w.heap.size+1:=by simp
theorem iY {f q p:Nat} {S:VS} {r:Option VS} {w0:World} {R:List aW} {e:Ending} {w':World} (h:dH f q p S r w0 R e w'):e= .returned (.tuple #[])\/∃k,e= .panicked (fA k):=by
 unfold dH at h;cases r with
 |none=>exact .inr ⟨_,h.1⟩
 |some S1=>
  simp only at h;split at h
  ·split at h
   ·exact .inl h.1
   exact .inr ⟨_,h.1⟩
  exact .inr ⟨_,h.1⟩
theorem ZT :∀args w,(callFunc 140 args).run Tryz.prog w= .ok (.enter 140 args) w:=Go.Proofs.enters_of Tryz.func140 fE rfl
theorem QU {dir:Nat} {v:Value} {x:VI} {bs path:List UInt8} (hC:VC S a) (hF:VF S) (hb:S.D.back=[]) (hm:wX S x bs dir path) (hv:jI w0 R v bs) (h:Sep w0 w (aF f q p S a::R)):
  Calls Tryz.prog 71 #[pV f,iV dir,aC path,.agg #[iV (x.kind:Nat),iV (x.mode:Nat),iV (x.links:Nat),iV (x.size:Nat),.slice none 0 0],v] w (dH f q p S (lK S x bs dir (aL path)) w0 R):=by
 obtain⟨L,A0,c0,hv0⟩:∃L A c,v= .slice A L c:=by obtain⟨_,A,c,e,_⟩:=hv w [_] h;exact⟨_,A,c,e⟩
 subst hv0;have hch:Hid (∀W bf bd bp bx bb,Sep w0 W (.box bb 69 #[.slice A0 L c0]:: .box bx 129 (aN x (.slice none 0 0)):: .box bp 9 #[aC path]:: .box bd 3 #[iV dir]:: .box bf 37 #[pV f]::aF f q p S a::R)->
   W.cell? ⟨bf,0,none⟩=some (pV f)/\Calls Tryz.prog 73 #[pV f,.func (.func 140) #[] #[pV bf,pV bx,pV bb,pV bd,pV bp]] W (dH f q p S (lK S x bs dir (aL path)) w0 R)):=Lh fun W bf bd bp bx bb hW=>by
  refine⟨hW.bC 4 rfl 0,?_⟩;have h1:Sep w0 W (aF f q p S a:: .box bx 129 (aN x (.slice none 0 0))::aS (.slice none 0 0) []:: .box bf 37 #[pV f]:: .box bd 3 #[iV dir]:: .box bp 9 #[aC path]:: .box bb 69 #[.slice A0 L c0]::R):=Sep.dB [6,2,0,5,4,3,1] (hW.gZ 3 1) aR bK;refine rC ZT hC hb hm.chg (fun W2 X hX=>?_) h1;(have h2:Sep w0 W2 (aF f q p S a::(.box bx 129 (aN x (.slice none 0 0))::aS (.slice none 0 0) []:: .box bf 37 #[pV f]:: .box bd 3 #[iV dir]:: .box bp 9 #[aC path]:: .box bb 69 #[.slice A0 L c0]::(X++R))):=by refine hX.perm (List.Perm.cons _ ?_);have e:=List.perm_append_comm_assoc X [.box bx 129 (aN x (.slice none 0 0)),aS (.slice none 0 0) [],.box bf 37 #[pV f],.box bd 3 #[iV dir],.box bp 9 #[aC path],.box bb 69 #[.slice A0 L c0]] R;exact e);exact amZ hC hF hm hv.more h2
 have hs:=((((h.bN 37 #[pV f]).bN 3 #[iV dir]).bN 9 #[aC path]).bN 129 (aN x (.slice none 0 0))).bN 69 #[.slice A0 L c0];have hc:=hch.out _ _ _ _ _ _ hs;simp only[tT]at hc;obtain⟨c0',hcall⟩:=hc;clear hch hs h hC hF hb hm hv;unfold aN aC at*;go_enter Tryz.func71,Tryz.ntmps71;go_wp2_with(go_at_call 73;refine hcall.mono ?_;intro e w9 ho;rcases iY ho with rfl|⟨k,rfl⟩)
 ·go_end0
  exact ho
 exact⟨rfl,ho⟩
end
theorem iZ {f q p:Nat} {S:VS} {r:Option VS} {w0:World} {Y R:List aW} {e:Ending} {w':World} (h:dH f q p S r w0 (Y++R) e w'):dH f q p S r w0 R e w':=by
 have hd:∀(A:aW),Sep w0 w' (A::(Y++R))->Sep w0 w' (A::R):=fun A hA=>by exact Z48
 unfold dH at*;cases r with
 |none=>exact⟨h.1,hd _ h.2⟩
 |some S1=>
  simp only at h ⊢;split
  ·rename_i h1;rw[if_pos h1]at h;split
   ·rename_i h2;rw[if_pos h2]at h;exact⟨h.1,hd _ h.2⟩
   rename_i h2;rw[if_neg h2]at h;refine⟨h.1,?_⟩;have h1:Sep w0 w' (Y++(iU f q p false::aO p S1.bJ.1::R)):=h.2.perm ((lD (l₁:=Y) (a:=aO p S1.bJ.1) (l₂:=R)).symm.cons _|>.trans lD.symm);have h2:=h1.drop Y.length;rw[G7]at h2;exact h2
  rename_i h1;rw[if_neg h1]at h;exact⟨h.1,hd _ h.2⟩
theorem WO {f q p:Nat} {S:VS} {r:Option VS} {w0:World} {R:List aW} {e:Ending} {w':World} (h:dH f q p S r w0 R e w'):∃Y,Sep w0 w' (Y++R):=by
 unfold dH at h;cases r with
 |none=>exact⟨[_],h.2⟩
 |some S1=>
  simp only at h;split at h
  ·split at h
   ·exact⟨[_],h.2⟩
   exact⟨[_,_],h.2⟩
  exact⟨[_],h.2⟩
def mW (f q p:Nat) (S:VS) (r:Except Int (Option VS)) (w0:World) (R:List aW) (e:Ending) (w':World):Prop:=
 match r with
 | .error k=>e= .panicked (fA k)/\∃a',VC S a'/\Sep w0 w' (aF f q p S a'::R)
 | .ok r=>dH f q p S r w0 R e w'
def gP (r:Int×Int×Int):Option Int:=if r.2.2=0 then(if r.2.1<0 then none else some 23)else some r.2.2
theorem Z39 {P:Prop} (h:P:=by
 by_cases h1:r.2.2=0
 ·rw[if_pos h1,if_pos h1];by_cases h2:r.2.1<0
  ·rw[if_pos h2,if_pos h2]
  rw[if_neg h2,if_neg h2]
 rw[if_neg h1,if_neg h1]):P:=h
theorem sK (r:Int×Int×Int):pY r=match gP r with|some k=>.panicked (fA k)|none=>.returned (iV r.1):=by unfold pY gP;exact Z39
theorem sM {r:Int×Int×Int} (h:gP r=none):r.2.2=0/\r.2.1<0:=by
 unfold gP at h;by_cases h1:r.2.2=0
 ·rw[if_pos h1]at h;by_cases h2:r.2.1<0
  ·exact⟨h1,h2⟩
  rw[if_neg h2]at h;cases h
 rw[if_neg h1]at h;cases h
def ND (S:VS) (path:List UInt8) (x:VI) (bs:List UInt8):Except Int (Option VS):=
 match gP (aU S.cur S.data 0 0 (splitB path))with
 |some k=>.error k
 |none=>if S.nodes<256 then .ok (lK S x bs (aU S.cur S.data 0 0 (splitB path)).1.toNat (aL path))else .error 31
section
variable {w0 w:World} {R:List aW} {f q p:Nat} {S:VS} {a:VA}
theorem am0 {w0:World} {R:List aW}:jI w0 R (.slice none 0 0) []:=fun w' X h=>(h.gZ 5 1).rd 0 rfl
theorem Z15 {P:Prop} (h:P:=by unfold mW;exact⟨rfl,rfl,_,hend.out.1,(hend.out.2.perm (List.Perm.swap _ _ _)).drop 1⟩):P:=h
theorem Z63 {P:Prop} (h:P:=by go_wp2_with(first |(go_at_call 118;refine bZ.mono ?_;rintro e w9 ⟨rfl,a9,eX,h9⟩;have vZ:=hon.out _ _ _ h9;have hend:=Lh (And.intro eX h9);clear eX h9 bZ)|(go_at_call 70;refine vZ.mono ?_;rintro e w8 ⟨rfl,h8⟩;obtain rfl:=h8.symm;clear vZ));exact Z15):P:=h
theorem Z82 {P:Prop} (h:P:=by go_wp2_with(go_at_call 118;refine bZ.mono ?_;rintro e w9 ⟨rfl,a9,eX,h9⟩;have hend:=Lh (And.intro eX h9);clear eX h9 bZ);exact Z15):P:=h
theorem am1 {vs:Value} {op kk:Int} {mode:Nat} {path tz:List UInt8} (hC:VC S a) (hV:VW S) (hb:S.D.back=[]) (hv:aV path=true) (hp:path.length<=1048576)
  (hm:∀d:Nat,aU S.cur S.data 0 0 (splitB path)=((d:Int), -1,0)->S.nodes<256->wX S (⟨1,mode,1,0,[]⟩:VI) [] d path) (h:Sep w0 w (aF f q p S a::R)):
  Calls Tryz.prog 56 #[pV f,.agg #[iV op,aC path,aC tz,iV mode,iV kk],vs] w (mW f q p S (ND S path (⟨1,mode,1,0,[]⟩:VI) []) w0 R):=by
 have hno:Hid (∀W b,Sep w0 W (aF f q p S a:: .box b 46 #[iV op,aC path,aC tz,iV mode,iV kk]::R)->Calls Tryz.prog 118 #[pV f,aC path] W fun e w'=>e=pY (aU S.cur S.data 0 0 (splitB path))/\∃a',VC S a'/\Sep w0 w' (aF f q p S a':: .box b 46 #[iV op,aC path,aC tz,iV mode,iV kk]::R)):=Lh fun W b hW=>
  (sI hC hV hv hp hW).mono fun e w' ⟨h1,a',h2,h3⟩=>⟨h1,a',h2.ok,h3⟩
 have hon:Hid (∀W b a1,Sep w0 W (aF f q p S a1:: .box b 46 #[iV op,aC path,aC tz,iV mode,iV kk]::R)->Calls Tryz.prog 70 #[pV f] W fun e w'=>e=(if S.nodes<256 then .returned (.tuple #[])else .panicked (fA 31))/\w'=W):=Lh fun W b a1 hW=>NV hW
 have hmd:Hid (∀d:Nat,aU S.cur S.data 0 0 (splitB path)=((d:Int), -1,0)->S.nodes<256->∀W b a1,VC S a1->Sep w0 W (aF f q p S a1:: .box b 46 #[iV op,aC path,aC tz,iV mode,iV kk]::R)->Calls Tryz.prog 71 #[pV f,iV d,aC path,.agg #[iV 1,iV mode,iV 1,iV 0,.slice none 0 0],.slice none 0 0] W fun e w'=>dH f q p S (lK S (⟨1,mode,1,0,[]⟩:VI) [] d (aL path)) w0 R e w'):=Lh fun d h1 h2 W b a1 h3 hW=>
  (QU (x:=(⟨1,mode,1,0,[]⟩:VI)) h3 hV.vf hb (hm d h1 h2) (am0) hW).mono fun e w' ho=>iZ (Y:=[_]) ho
 have hok:=sH hV (splitB path) 0 0 hV.n0 hV.n0;have hcs:Hid (∀W b Y,Sep w0 W (Y++(.box b 46 #[iV op,aC path,aC tz,iV mode,iV kk]::R))->W.cell? ⟨b,1,none⟩=some (aC path)/\W.cell? ⟨b,3,none⟩=some (iV mode)):=Lh fun W b Y hW=>⟨hW.dS 0 rfl 1,hW.dS 0 rfl 3⟩
 have hX:Hid (Sep w0 (w.alloc (.cells #[iV op,aC path,aC tz,iV mode,iV kk] 46)) (aF f q p S a:: .box w.heap.size 46 #[iV op,aC path,aC tz,iV mode,iV kk]::R)):=Lh ((h.bN _ _).perm (List.Perm.swap _ _ _));have bZ:=hno.out _ _ hX.out;have hc:=hcs.out _ _ [_] hX.out;obtain⟨b,hbb⟩:∃b,b=w.heap.size:=⟨_,rfl⟩;rw[<-hbb]at bZ hc;have aJB:=Lh hbb;obtain⟨r,hr⟩:∃r,r=aU S.cur S.data 0 0 (splitB path):=⟨_,rfl⟩;unfold ND;rw[<-hr]at bZ hmd hok ⊢;obtain⟨nb,hnb⟩:∃x,x=aL path:=⟨_,rfl⟩;rw[<-hnb]at hmd ⊢;clear hC hV hb hv hp hm h hno hr hnb hX;rw[sK]at bZ;cases hn:gP r with
 |some k=>rw[hn]at bZ;clear hok hmd hn hon;unfold aC at*;simp only at bZ;rw[hbb]at bZ hc;go_enter Tryz.func56,Tryz.ntmps56;exact Z82
 |none=>
  rw[hn]at bZ;obtain⟨hr0,hr1⟩:=sM hn;obtain⟨⟨d,hdl,hd⟩,hd2⟩:=hok hr0;have hd3:r.2.1= -1:=by
   rcases hd2 with hd2|⟨m,_,hd2⟩
   ·exact hd2
   omega
  (have hre:r=((d:Int), -1,0):=by obtain⟨r1,r2,r3⟩:=r;simp only at hd hd3 hr0;rw[hd,hd3,hr0]);subst hre;simp only[nA]at*;clear hok hn hr0 hr1 hd hd2 hd3 hdl;by_cases hnn:S.nodes<256
  ·rw[if_pos hnn]at hon ⊢;have ahD:=Lh (hmd.out d rfl hnn);obtain⟨rX,wN⟩:∃rX,rX=lK S (⟨1,mode,1,0,[]⟩:VI) [] d nb:=⟨_,rfl⟩;rw[<-wN]at ahD ⊢;clear hmd hnn wN;unfold aC at*;rw[hbb]at bZ hc;go_enter Tryz.func56,Tryz.ntmps56;go_wp2_with(first |(go_at_call 118;refine bZ.mono ?_;rintro e w9 ⟨rfl,a9,eX,h9⟩;clear hc;rw[<-hbb]at h9 ⊢;have hc:=hcs.out _ _ [_] h9;have hX:=Lh h9;have hVC:=Lh eX;have vZ:=hon.out _ _ _ h9;clear eX h9 bZ hbb)|(go_at_call 70;refine vZ.mono ?_;rintro e w8 ⟨rfl,h8⟩;obtain rfl:=h8.symm;clear vZ;have awO:=ahD.out _ _ _ hVC.out hX.out;clear hX hVC ahD)|(go_at_call 71;refine awO.mono ?_;intro e w7 ho;rcases iY ho with rfl|⟨k,rfl⟩))
   ·go_end0
    exact ho
   exact⟨rfl,ho⟩
  rw[if_neg hnn]at hon ⊢;clear hmd hnn;unfold aC at*;rw[hbb]at bZ hc;go_enter Tryz.func56,Tryz.ntmps56;exact Z63
theorem am2 {sa:Addr} {nn cc kk:Nat} {v:Value} {bs:List UInt8} {op:Int} {mode:Nat} {path tz:List UInt8} (hC:VC S a) (hV:VW S) (hb:S.D.back=[]) (hv:aV path=true) (hp:path.length<=1048576) (hst:∀W Y,Sep w0 W (Y++R)->W.cell? (sa.add kk)=some v) (hkk:kk<nn) (hnn:nn<9223372036854775808) (hbv:jI w0 R v bs)
  (hm:∀d:Nat,aU S.cur S.data 0 0 (splitB path)=((d:Int), -1,0)->S.nodes<256->wX S (⟨2,mode,1,0,[]⟩:VI) bs d path) (h:Sep w0 w (aF f q p S a::R)):
  Calls Tryz.prog 61 #[pV f,.agg #[iV op,aC path,aC tz,iV mode,iV kk],.slice (some sa) nn cc] w (mW f q p S (ND S path (⟨2,mode,1,0,[]⟩:VI) bs) w0 R):=by
 have hno:Hid (∀W b,Sep w0 W (aF f q p S a:: .box b 46 #[iV op,aC path,aC tz,iV mode,iV kk]::R)->Calls Tryz.prog 118 #[pV f,aC path] W fun e w'=>e=pY (aU S.cur S.data 0 0 (splitB path))/\∃a',VC S a'/\Sep w0 w' (aF f q p S a':: .box b 46 #[iV op,aC path,aC tz,iV mode,iV kk]::R)):=Lh fun W b hW=>
  (sI hC hV hv hp hW).mono fun e w' ⟨h1,a',h2,h3⟩=>⟨h1,a',h2.ok,h3⟩
 have hon:Hid (∀W b a1,Sep w0 W (aF f q p S a1:: .box b 46 #[iV op,aC path,aC tz,iV mode,iV kk]::R)->Calls Tryz.prog 70 #[pV f] W fun e w'=>e=(if S.nodes<256 then .returned (.tuple #[])else .panicked (fA 31))/\w'=W):=Lh fun W b a1 hW=>NV hW
 have hmd:Hid (∀d:Nat,aU S.cur S.data 0 0 (splitB path)=((d:Int), -1,0)->S.nodes<256->∀W b a1,VC S a1->Sep w0 W (aF f q p S a1:: .box b 46 #[iV op,aC path,aC tz,iV mode,iV kk]::R)->Calls Tryz.prog 71 #[pV f,iV d,aC path,.agg #[iV 2,iV mode,iV 1,iV 0,.slice none 0 0],v] W fun e w'=>dH f q p S (lK S (⟨2,mode,1,0,[]⟩:VI) bs d (aL path)) w0 R e w'/\∃Y,Sep w0 w' (Y++(.box b 46 #[iV op,aC path,aC tz,iV mode,iV kk]::R))):=Lh fun d h1 h2 W b a1 h3 hW=>
  (QU (x:=(⟨2,mode,1,0,[]⟩:VI)) h3 hV.vf hb (hm d h1 h2) (hbv.cons) hW).mono fun e w' ho=>⟨iZ (Y:=[_]) ho,WO ho⟩
 have hok:=sH hV (splitB path) 0 0 hV.n0 hV.n0;have hcs:Hid (∀W b Y,Sep w0 W (Y++(.box b 46 #[iV op,aC path,aC tz,iV mode,iV kk]::R))->W.cell? ⟨b,1,none⟩=some (aC path)/\W.cell? ⟨b,3,none⟩=some (iV mode)/\W.cell? ⟨b,4,none⟩=some (iV kk)/\W.cell? (sa.add kk)=some v):=Lh fun W b Y hW=>⟨hW.dS 0 rfl 1,hW.dS 0 rfl 3,hW.dS 0 rfl 4,hst W (Y++[_]) (by rw[pG];exact hW)⟩
 have hX:Hid (Sep w0 (w.alloc (.cells #[iV op,aC path,aC tz,iV mode,iV kk] 46)) (aF f q p S a:: .box w.heap.size 46 #[iV op,aC path,aC tz,iV mode,iV kk]::R)):=Lh ((h.bN _ _).perm (List.Perm.swap _ _ _));have bZ:=hno.out _ _ hX.out;have hc:=hcs.out _ _ [_] hX.out;obtain⟨b,hbb⟩:∃b,b=w.heap.size:=⟨_,rfl⟩;rw[<-hbb]at bZ hc;have aJB:=Lh hbb;obtain⟨r,hr⟩:∃r,r=aU S.cur S.data 0 0 (splitB path):=⟨_,rfl⟩;unfold ND;rw[<-hr]at bZ hmd hok ⊢;obtain⟨nb,hnb⟩:∃x,x=aL path:=⟨_,rfl⟩;rw[<-hnb]at hmd ⊢;obtain⟨A9,L9,c9,hv9⟩:∃A L c,v= .slice A L c:=by obtain⟨_,A,c,e,_⟩:=hbv w [_] h;exact⟨A,_,c,e⟩
 subst hv9;have q0:(0:Int)<=kk:=by omega
 have q1:(kk:Int)<nn:=by omega
 clear hC hV hb hv hp hm h hno hr hnb hX hst hbv;rw[sK]at bZ;cases hn:gP r with
 |some k=>rw[hn]at bZ;clear hok hmd hn hon;unfold aC at*;simp only at bZ;rw[hbb]at bZ hc;go_enter Tryz.func61,Tryz.ntmps61;exact Z82
 |none=>
  rw[hn]at bZ;obtain⟨hr0,hr1⟩:=sM hn;obtain⟨⟨d,hdl,hd⟩,hd2⟩:=hok hr0;have hd3:r.2.1= -1:=by
   rcases hd2 with hd2|⟨m,_,hd2⟩
   ·exact hd2
   omega
  (have hre:r=((d:Int), -1,0):=by obtain⟨r1,r2,r3⟩:=r;simp only at hd hd3 hr0;rw[hd,hd3,hr0]);subst hre;simp only[nA]at*;clear hok hn hr0 hr1 hd hd2 hd3 hdl;by_cases hnn:S.nodes<256
  ·rw[if_pos hnn]at hon ⊢;have ahD:=Lh (hmd.out d rfl hnn);obtain⟨rX,wN⟩:∃rX,rX=lK S (⟨2,mode,1,0,[]⟩:VI) bs d nb:=⟨_,rfl⟩;rw[<-wN]at ahD ⊢;clear hmd hnn wN;unfold aC at*;rw[hbb]at bZ hc;go_enter Tryz.func61,Tryz.ntmps61;go_wp2_with(first |(go_at_call 118;refine bZ.mono ?_;rintro e w9 ⟨rfl,a9,eX,h9⟩;clear hc;rw[<-hbb]at h9 ⊢;have hc:=hcs.out _ _ [_] h9;have hX:=Lh h9;have hVC:=Lh eX;have vZ:=hon.out _ _ _ h9;clear eX h9 bZ hbb)|(go_at_call 70;refine vZ.mono ?_;rintro e w8 ⟨rfl,h8⟩;obtain rfl:=h8.symm;clear vZ)|(go_at_call 71;refine awO.mono ?_;intro e w7 ho;rcases iY ho with rfl|⟨k,rfl⟩));have hc2:w9.drew.cell? ⟨b,1,none⟩=some (.string ⟨path.toArray⟩)/\w9.drew.cell? ⟨b,3,none⟩=some (iV mode)/\w9.drew.cell? ⟨b,4,none⟩=some (iV kk)/\w9.drew.cell? (sa.add kk)=some (.slice A9 L9 c9):=hc;have awO:=ahD.out _ _ _ hVC.out hX.out.drew;clear hc hX hVC ahD;refine aP (S:=fun w'=>w'.cell? ⟨b,1,none⟩=some (.string ⟨path.toArray⟩)/\w'.cell? ⟨b,3,none⟩=some (iV mode)/\w'.cell? ⟨b,4,none⟩=some (iV kk)/\w'.cell? (sa.add kk)=some (.slice A9 L9 c9)) 13 ?_;refine aA 0 hc2 ?_;refine aA 1 hc2 ?_;refine aA 2 hc2 ?_;refine aA 3 hc2 ?_;refine aA 4 hc2 ?_;refine aA 5 hc2 ?_;refine aA 6 hc2 ?_;refine aA 7 hc2 ?_;refine aA 8 hc2 ?_;refine aA 9 hc2 ?_;refine aA 10 hc2 ?_;refine aA 11 hc2 ?_;(refine bI 12 fun K hK=>?_);go_simp;go_at_call 71;refine awO.mono ?_;rintro e w7 ⟨ho,Y,hY⟩;have hc3:=hcs.out _ _ _ hY;rcases iY ho with rfl|⟨k,rfl⟩
   ·dsimp only;refine hK _ _ (fun _=>hc3) ?_;clear hK K;(try simp only[Act.put,gD]);refine aQ fE ?_ _
    go_end0
    exact ho
   exact⟨rfl,ho⟩
  rw[if_neg hnn]at hon ⊢;clear hmd hnn;unfold aC at*;rw[hbb]at bZ hc;go_enter Tryz.func61,Tryz.ntmps61;exact Z63
end
end Go.Proofs.YtmjomdkleikgbaaGreat
