/- Parts. -/
import Derived.Test.YteihmbaimbogaaaGreatJ34
set_option linter.unusedVariables false
set_option linter.unusedSimpArgs false
set_option maxRecDepth 100000
set_option maxHeartbeats 20000000
namespace Go.Proofs.YteihmbaimbogaaaGreat
open Go.RowKit
theorem uJ {p:List UInt8} (h:aU p=true):p≠[]:=fun e=>by subst e;revert h;decide
theorem aaG :∀(p:List UInt8) (k:Nat),k<p.length->Op.bytesLess (p.take k) p=true
 |[],k,h=>by simp at h
 |a::p,0,_=>by simp[Op.bytesLess]
 |a::p,k+1,h=>by rw[ad7];unfold Op.bytesLess;rw[aaG p k (by simpa using h)];simp
theorem ap8 {p:List UInt8} (h:p≠[]):sG p<p.length:=by
 rcases mW p with⟨_,h0,_⟩|⟨a,b,e,_,hs,_⟩
 ·rw[h0];exact List.length_pos_iff.2 h
 rw[hs];have:=congrArg List.length e;rw[kN,nV]at this;omega
theorem PD {p:List UInt8} (h:aU p=true):Op.bytesLess (eY p) p=true:=by unfold eY;rw[if_pos h];exact aaG p _ (ap8 (uJ h))
theorem avD {p q:List UInt8} (h:Op.bytesLess q p=true):akT p q=false:=by unfold akT;rw[agV h,IG,mM];intro e;rw[e,oU]at h;cases h
theorem JR {pre:List TN} {p:List UInt8} (h:∀m∈pre,m.path≠p):EY pre p=if p=[]then 1 else 0:=by
 revert h;refine p9 (P:=fun pre=>(∀m∈pre,m.path≠p)->EY pre p=if p=[]then 1 else 0) ?_ ?_ pre
 ·intro _;rfl
 intro xs x ih h;rw[UY,if_neg (h x bM)];exact ih fun m hm=>h m (G9 _ hm)
theorem NQ {pre:List TN} {m:TN} (hne:pre.Pairwise fun a b=>a.path≠b.path) (h:m∈pre):EY pre m.path=if m.file= -1 then 1 else 2:=by
 revert hne h;refine p9 (P:=fun pre=>pre.Pairwise (fun a b=>a.path≠b.path)->m∈pre->EY pre m.path=if m.file= -1 then 1 else 2) ?_ ?_ pre
 ·intro _ h;cases h
 intro xs x ih hne h;rw[UY];rw[adZ]at hne;rcases gX.1 h with h|h
 ·rw[if_neg (fun e=>hne.2.2 m h x bM e.symm)];exact ih hne.1 h
 have e:m=x:=by simpa using h
 subst e;rw[if_pos rfl]
theorem ay9 {ns:List TN} {fl:Nat}:∀ {j m:Nat},o9 ns fl j=some m->j<=ns.length->∀i,i<j->∀n,ns[i]? =some n->∃k,o9 ns fl i=some k/\vH ns fl i k n=true/\mG k n<=m:=by
 intro j
 induction j with
 |zero=>intro m _ _ i hi;omega
 |succ j ih=>
  intro m h hjl i hi n hn;cases hr:o9 ns fl j with
  |none=>rw[aaF hr 1]at h;cases h
  |some k=>
   have hj:ns[j]? =some ns[j]:=gE aD;rw[AL hr hj]at h;split at h
   ·rename_i ho;cases h;by_cases hij:i=j
    ·subst hij;rw[hj]at hn;cases hn;exact⟨k,hr,ho,jL _⟩
    obtain⟨k2,h1,h2,h3⟩:=ih hr aD i aD n hn;exact⟨k2,h1,h2,by have:=agX k ns[j];omega⟩
   cases h
theorem ap9 {ns:List TN} (h:∀(i:Nat) (n:TN),0<i->ns[i]? =some n->Op.bytesLess (qZ ns i) n.path=true):ns.Pairwise fun a b=>Op.bytesLess a.path b.path=true:=by
 rw[IK];intro i j hi hj hij;obtain⟨d,rfl⟩:∃d,j=i+1+d:=⟨j-i-1,by omega⟩;clear hij
 induction d with
 |zero=>have h1:=h (i+1) _ aD (gE hj);rw[CJ (gE hi)]at h1;exact h1
 |succ d ih=>have h1:=ih aD;have h2:=h (i+1+d+1) _ aD (gE hj);rw[CJ (gE (by omega:i+1+d<ns.length))]at h2;exact xE h1 h2
theorem wF {ns:List TN} (hne:ns.Pairwise fun a b=>a.path≠b.path) {m:TN} (hm:m∈ns):iM ns m.path=some m:=by
 induction ns with
 |nil=>cases hm
 |cons a ns ih=>
  obtain⟨h1,h2⟩:=List.pairwise_cons.1 hne;unfold iM at ih ⊢;rw[MS];rcases iX.1 hm with rfl|hm
  ·simp
  (have:(a.path==m.path)=false:=by simpa using h1 m hm);rw[this];exact ih h2 hm
theorem aqA {ns:List TN} {fl:Nat} (h:o9 ns fl ns.length=some fl):runK ns ns.length=some fl:=by
 have hat:=fun i n hn=>ay9 h (jL _) i (gF.1 hn).1 n hn
 have hsort:=ap9 fun i n hi hn=>by
  obtain⟨k,_,h2,_⟩:=hat i n hn;rcases(sH.1 h2).1.1.2 with h3|h3
  ·omega
  exact h3
 have hne:ns.Pairwise fun a b=>a.path≠b.path:=hsort.imp fun {a b} hl e=>by rw[e,oU]at hl;cases hl
 have hval:∀n∈ns,aU n.path=true:=fun n hn=>by obtain⟨i,hi⟩:=List.mem_iff_getElem?.1 hn;obtain⟨k,_,h2,_⟩:=hat i n hi;exact(sH.1 h2).1.1.1
 have key:∀i,i<=ns.length->runK ns i=o9 ns fl i:=by
  intro i
  induction i with
  |zero=>intro _;rfl
  |succ i ih=>
   intro hi;have hn:ns[i]? =some ns[i]:=gE aD;obtain⟨k,h1,h2,_⟩:=hat i _ hn;have h3:=ih aD;rw[h1]at h3;rw[GR h3 hn,AL h1 hn,h2,if_pos rfl,if_pos];obtain⟨⟨⟨hv,aPY⟩,hup⟩,U2⟩:=sH.1 h2;(have htk:(ns.take i).Pairwise fun a b=>a.path≠b.path:=hne.sublist (amC _ _));have hk1:EY (ns.take i) (eY ns[i].path)=1:=by
    unfold NP at hup;rw[PR,uP]at hup;rcases hup with h0|h0
    ·rw[h0,JR fun m hm=>uJ (hval m (MP hm))];rfl
    cases hf:iM ns (eY ns[i].path)with
    |none=>rw[hf]at h0;cases h0
    |some m=>
     rw[hf]at h0;(have MN:m.file= -1:=by simpa using h0);obtain⟨hmm,hmp⟩:=kR hf;obtain⟨j,hj⟩:=List.mem_iff_getElem?.1 hmm;obtain⟨hjl,hje⟩:=gF.1 hj;have hless:=PD hv;have hji:j<i:=by
      rcases ad8 j i with h9|h9|h9
      ·exact h9
      ·subst h9;rw[hje]at hless hmp;rw[<-hmp,oU]at hless;cases hless
      have h8:=IK.1 hsort i j aD hjl h9;rw[hje,hmp]at h8;have:=xE h8 hless;rw[oU]at this;cases this
     (have hmt:m∈ns.take i:=by rw[List.mem_iff_getElem?];exact⟨j,by rw[vI,if_pos hji];exact hj⟩);rw[<-hmp,NQ htk hmt,if_pos MN]
   unfold yY;simp only[tJ,aa4,uP];refine⟨⟨⟨⟨⟨hv,?_⟩,hk1⟩,?_⟩,?_⟩,?_⟩
   ·rcases aPY with h0|h0
    ·subst h0;unfold akT;(have:Op.bytesLess ns[0].path (qZ ns 0)=false:=by(show Op.bytesLess ns[0].path []=false);cases ns[0].path<;>simp[Op.bytesLess]);rw[this,IG,mM];exact uJ hv
    exact avD h0
   ·rcases U2 with⟨h0,_⟩|⟨_,_,h0,_⟩<;>omega
   ·rcases U2 with⟨h0,_⟩|⟨_,_,_,h0,_⟩<;>omega
   rcases U2 with⟨h0,h5⟩|⟨h0,h5,_⟩
   ·rw[if_pos h0];exact h5
   rw[if_neg h0];simpa using h5
 rw[key _ (jL _)];exact h
theorem aqB {ns:List TN} {fl:Nat} (hn9:ns.length<=256) (WK:fl<=256) (h:runK ns ns.length=some fl):o9 ns fl ns.length=some fl:=by
 have ho:fT ns (List.replicate fl ⟨0,[]⟩):=⟨hn9,by rw[DJ];exact WK,fun f hf=>by rw[(List.mem_replicate.1 hf).2];exact iF _,fun f hf=>by rw[(List.mem_replicate.1 hf).2];rfl,by rw[DJ];exact h⟩;have hne:=ho.ne;have key:∀i,i<=ns.length->o9 ns fl i=runK ns i:=by
  intro i
  induction i with
  |zero=>intro _;rfl
  |succ i ih=>
   intro hi;have hn:ns[i]? =some ns[i]:=gE aD;obtain⟨k,h1,h2,h4⟩:=au3 h i aD _ hn;have h3:=ih aD;rw[h1]at h3;rw[AL h3 hn,GR h1 hn,h2,if_pos rfl,if_pos];obtain⟨a,b,c,d,e,f,g⟩:=LZ h2;refine sH.2 ⟨⟨⟨a,?_⟩,?_⟩,?_⟩
   ·rcases H5 i with h0|h0
    ·exact Or.inl h0
    exact Or.inr b
   ·unfold NP;rw[PR,uP];by_cases h0:eY ns[i].path=[]
    ·exact Or.inl h0
    right;(have hex:∃m∈ns.take i,m.path=eY ns[i].path:=by(refine Decidable.byContradiction fun hno=>?_);(have h5:=JR (pre:=ns.take i) (p:=eY ns[i].path) fun m hm e=>hno ⟨m,hm,e⟩);rw[c,if_neg h0]at h5;cases h5);obtain⟨m,hm,hmp⟩:=hex;have h5:=NQ (hne.sublist (amC i _)) hm;rw[hmp,c]at h5;(have MN:m.file= -1:=by(refine Decidable.byContradiction fun hno=>?_);rw[if_neg hno]at h5;cases h5);rw[<-hmp,wF hne (MP hm)];simpa using MN
   by_cases h0:ns[i].file= -1
   ·exact Or.inl ⟨h0,f h0⟩
   refine Or.inr ⟨h0,g h0,by omega,e,?_⟩;unfold mG at h4;split at h4<;>omega
 rw[key _ (jL _)];exact h
theorem JS (ns:List TN) (fs:List TF):(if l9 ns fs=true then 31 else if mX ns fs=true then 0 else 30)=NN ns fs:=by
 unfold NN;cases hb:l9 ns fs with
 |true=>rw[if_pos rfl,if_pos rfl]
 |false=>
  simp only[I8,if_false];unfold l9 at hb;rw[MQ,MQ,QS,QS]at hb;obtain⟨⟨h1,h2⟩,_⟩:=hb;(have:mX ns fs=true↔runK ns ns.length=some fs.length/\fs.all (fun f=>fQ f.mode)=true:=by unfold mX;rw[tJ,uP];exact⟨fun⟨a,b⟩=>⟨aqA a,b⟩,fun⟨a,b⟩=>⟨aqB aD aD a,b⟩⟩);by_cases h:mX ns fs=true
  ·rw[if_pos h,if_pos (this.1 h)]
  rw[if_neg h,if_neg (fun h3=>h (this.2 h3))]
theorem lK.ak1 {ns:List TN} {fs:List FT} {dn:Key->Nat} {φ:Int->Nat} {path:List UInt8} {k m l s i:Int} (h:lK ns fs dn φ path k m l s i) (hk:k=2):
  dY path=0/\∃n,kQ ns (splitB path)= .ok n/\n.file≠ -1/\i=φ n.file+1/\∃f,fs[n.file.toNat]? =some f/\s=f.bs.length:=by
 have h0:stE ns path=0:=Decidable.byContradiction fun hne=>by have:=(h.none hne).1;omega
 have hpl:dY path=0:=by
  unfold stE at h0;by_cases h1:dY path=0
  ·exact h1
  rw[if_neg h1]at h0;exact h0
 refine⟨hpl,?_⟩;obtain⟨n,hn⟩:∃n,kQ ns (splitB path)= .ok n:=by exact Z45
 have hf:n.file≠ -1:=fun e=>by have:=(h.dir n hpl hn e).1;omega
 obtain⟨_,⟨f,h1,_,h2⟩,_,h3⟩:=h.file n hpl hn hf;exact⟨n,hn,hf,h3,f,h1,h2⟩
theorem lK.ofFile {ns:List TN} {fs:List FT} {dn:Key->Nat} {φ:Int->Nat} {path:List UInt8} {k m l s i:Int} (h:lK ns fs dn φ path k m l s i) (hpl:dY path=0) {n:TN} (hn:kQ ns (splitB path)= .ok n) (hf:n.file≠ -1):
  i=φ n.file+1/\∃f,fs[n.file.toNat]? =some f/\s=f.bs.length:=by
 obtain⟨_,⟨f,h1,_,h2⟩,_,h3⟩:=h.file n hpl hn hf;exact⟨h3,f,h1,h2⟩
theorem U5 {p:List UInt8} (h:aU p=true):dY p=0:=by unfold dY;rw[if_neg (uJ h),if_pos h]
theorem azA {ns:List TN} {K:Key} {n:TN} (h:kQ ns K= .ok n) (hf:n.file≠ -1):yV ns K= .ok n:=by unfold yV;rw[h];exact if_neg hf
theorem U6 {nb names:Nat} {ns:List TN} {fs:List FT} {A:Except Int (List TN×List FT)} (h:(vF nb names ns fs A).e=0) (hne:∀k,A= .error k->k≠0):∃T,A= .ok T/\(vF nb names ns fs A).ns=T.1/\(vF nb names ns fs A).fs=T.2:=by
 cases A with
 |error k=>exact absurd h (hne k rfl)
 |ok T=>
  refine⟨T,rfl,?_⟩;unfold vF at h ⊢;simp only at h ⊢;by_cases hf:yK nb names T.1 T.2=true
  ·rw[if_pos hf];exact⟨rfl,rfl⟩
  rw[if_neg hf]at h;exact absurd (show(27:Int)=0 from h) aQ
theorem Z58 {P:Prop} (h:P:=by
 split at hT
 ·cases hT;exact key ⟨q,x.file,0⟩ (by rw[e1];simp) rfl rfl (U5 GN)
 cases hT):P:=h
theorem ak2 {d1 d2:Key->Nat} {S S':VS} {ns:List TN} {fs:List FT} {g g':LT} {dn ZH:Key->Nat} {φ φ':Int->Nat} {nb names:Nat} {op mode kk:Int} {p q bs:List UInt8} {n:Nat}
  (hV:Vt S ns fs g dn φ) (he:(IA nb names ns fs op p q mode kk n bs).e=0) (hV':Vt S' (IA nb names ns fs op p q mode kk n bs).ns (IA nb names ns fs op p q mode kk n bs).fs g' ZH φ') (hA:Agr fs.length φ φ')
  (avE:op=3\/op=4\/op=8) {k m l s i k' m' l' s' i':Int} (h1:lK ns fs d1 φ p k m l s i) (hk:k=2)
  (h2:lK (IA nb names ns fs op p q mode kk n bs).ns (IA nb names ns fs op p q mode kk n bs).fs d2 φ' (if op=3\/op=4 then q else p) k' m' l' s' i'):i'=i:=by
 obtain⟨hpl,x,hx,hf,hi,_⟩:=h1.ak1 hk;have hxm:=(fF (jH (S:=S) hV.rep (xC hx)).2.1.symm);have hfl:=hV.rep.ZG hxm.1 hf;have hAx:φ' x.file=φ x.file:=hA _ aD;have hc:H8 op p q mode kk n bs.length=0:=by
  unfold IA at he;by_cases h0:H8 op p q mode kk n bs.length=0
  ·exact h0
  rw[if_neg h0]at he;exact absurd he h0
 have h9:op≠9:=by omega
 have eX:IA nb names ns fs op p q mode kk n bs=vF nb names ns fs (H9 ns fs op p q mode.toNat bs):=by unfold IA;rw[if_pos hc,if_neg h9]
 rw[eX]at he hV' h2;rcases LA hc with e|⟨_,_,hkk⟩
 ·exact absurd e h9
 have hfil:=azA hx hf;have key:∀y:TN,y∈(vF nb names ns fs (H9 ns fs op p q mode.toNat bs)).ns->y.file=x.file->bW y=splitB (if op=3\/op=4 then q else p)->dY (if op=3\/op=4 then q else p)=0->i'=i:=fun y hy hyf hyk hyp=>by have h3:=hV'.rep.auT hy;rw[hyk]at h3;have h4:=(h2.ofFile hyp h3 (by rw[hyf];exact hf)).1;rw[h4,hi,hyf,hAx]
 rcases avE with rfl|rfl|rfl
 ·(have ea:H9 ns fs 3 p q mode.toNat bs=if sO ns (splitB q)=0 then .ok (oC ns (splitB p)++[⟨q,x.file,0⟩],fs)else .error (sO ns (splitB q)):=by unfold H9;rw[if_neg aQ,if_neg aQ,if_pos rfl,hfil]);have GN:=hkk.yU rfl;obtain⟨T,hT,e1,e2⟩:=U6 he fun k hk=>by
   rw[ea]at hk;split at hk
   ·cases hk
   cases hk;assumption
  rw[ea]at hT;exact Z58
 ·(have ea:H9 ns fs 4 p q mode.toNat bs=if sO ns (splitB q)=0 then(if ns.length<256 then .ok (ns++[⟨q,x.file,0⟩],fs)else .error 31)else .error (sO ns (splitB q)):=by unfold H9;rw[if_neg aQ,if_neg aQ,if_neg aQ,if_pos rfl,hfil]);have GN:=hkk.yU rfl;obtain⟨T,hT,e1,e2⟩:=U6 he fun k hk=>by
   rw[ea]at hk;split at hk
   ·split at hk
    ·cases hk
    cases hk;decide
   cases hk;assumption
  rw[ea]at hT;split at hT
  ·exact Z58
  cases hT
 have ea:H9 ns fs 8 p q mode.toNat bs= .ok (ns,fs.set x.file.toNat ⟨mode.toNat,nI fs x.file⟩):=by unfold H9;rw[if_neg aQ,if_neg aQ,if_neg aQ,if_neg aQ,if_neg aQ,if_neg aQ,if_neg aQ,if_pos rfl,hx];exact if_neg hf
 obtain⟨T,hT,e1,e2⟩:=U6 he fun k hk=>by rw[ea]at hk;cases hk
 rw[ea]at hT;cases hT;exact key x (by rw[e1];exact hxm.1) rfl hxm.2 hpl
theorem aD0 {nb names:Nat} {ns:List TN} {fs:List FT} {path bs:List UInt8} {x:TN} (hx:kQ ns (splitB path)= .ok x):(DY nb names ns fs path bs).ns=ns:=by
 have ha:=xC hx;have hno:kG ns (splitB path)=some x:=by
  unfold GL at ha;cases hc:mQ ns (splitB path).dropLast.length (splitB path).dropLast with
  |error e=>rw[hc]at ha;cases ha
  |ok c=>
   rw[hc]at ha;change (if jN c=true then Except.ok (kG ns (splitB path))else Except.error 22)=_ at ha;split at ha
   ·exact Except.ok.inj ha
   cases ha
 unfold DY vF;by_cases h0:ab9 ns path bs.length=0
 ·rw[if_pos h0];simp only;split
  ·(show UR ns fs path=ns);unfold UR;rw[hno]
  rfl
 rw[if_neg h0]
structure OnD (S:VS) (names:Nat):Prop where
 sync:S.D.sync
 head:bk S.D.now 0=eQ []
 mark:(bk S.D.now 96).take 16=vR
 size:r2 (bk S.D.now 96) 16=names
theorem OnD.next {S S':VS} {nm:Nat} (h:OnD S nm) (hn:Next S S') (hlen:0<S.D.now.length):OnD S' nm:=by
 rcases hn with rfl|⟨S1,rfl,hD,hnb,hc,J9⟩
 ·exact⟨h.sync,h.head,h.mark,h.size⟩
 refine⟨O5 (by rw[hD];exact h.sync),LY (by rw[hD];exact hlen) hc (by rw[hD];exact h.head),?_,?_⟩
 ·rw[J9];exact h.mark
 rw[J9];exact h.size
theorem aD2 {n names:Nat} (h0:98+(names+7)/8<n) (h1:n<=4096) (h2:2<=names) (h3:names<=1024):OnD (VS.new n names) names:=by obtain⟨a,b,c,d,e⟩:=au2 h0 h1 h2 h3;exact⟨by assumption,by assumption,by assumption,by assumption⟩
section
variable {w0 w:World} {R:List bK} {f q p:Nat} {S:VS} {ns:List TN} {fs:List FT} {nb names:Nat} {g:LT} {dn:Key->Nat} {φ:Int->Nat}
theorem aD3 (hL:kH S ns fs nb names) (hV:Vt S.base ns fs g dn φ) (hO:OnD S names) (h:Sep w0 w (bI f q p S::R)):
  Calls Tryz.prog 33 #[pV p] w fun e w'=>∃f' q' S',e= .returned (.tuple #[pV f',iV 0])/\kH S' ns fs nb names/\Vt S'.base ns fs g dn φ/\OnD S' names/\Sep w0 w' (bI f' q' p S'::R):=by
 have hb:=zR h;have hok:=zS h;obtain⟨sb,SM,fo,hR,h1⟩:=h.qP;have h2:Sep w0 w (aN p S.D::l7 f q S sb (.map fo) false::aG q p false::fH sb SM::R):=Sep.dE [2,0,1,3] h1 aQ (by simp[l7]);have e1:S.nb=nb:=hL.iJ.nbe;have e2:S.names=names:=hL.iJ.nm;have hD:S.D=⟨S.D.now,S.D.now,[],false, -1⟩:=by have a:=ZZ hO.sync hb;have e:S.D=⟨S.D.now,S.D.fast,S.D.back,S.D.off,S.D.left⟩:=rfl;rw[a,show S.D.back=[]from hb,hL.off,hL.left]at e;exact e
 have hfl:S.D.fl=S.D:=by have:=(agR hO.sync hb).2;rw[(agR hO.sync hb).1]at this;rw[<-hD]at this;exact this
 rw[e1]at hok;have hM:ZV nb names S.D.fl:=by rw[hfl];exact aDZ hL.iJ hok rfl hL.off hb hO.mark hO.size
 refine(apY hok hL.off (by rw[hO.head];exact auY) hM h2).mono ?_;rintro e w' ⟨f',q',rfl,hS⟩;rw[hfl]at hS;have hvt:=au0 hV (D:=S.D) rfl;rw[show S.base.nb=nb from e1,show S.base.names=names from e2]at hvt;exact⟨f',q',_,rfl,au1 hL.iJ rfl hL.off hL.left,hvt,⟨hO.sync,hO.head,hO.mark,hO.size⟩,(Sep.dE [1,2,3,0] hS aQ bM:Sep w0 w' (_::_::_::bI f' q' p (VS.O4 nb names S.D names)::R)).drop 3⟩
end
def DF (ns:List TN) (p:List UInt8):List (List UInt8):=(ns.filter fun n=>decide (eY n.path=p)).map (·.path)
theorem ak3 {ns:List TN} {i:Nat} {n:TN} (h:ns[i]? =some n) (p:List UInt8):DF (ns.take (i+1)) p=if eY n.path=p then DF (ns.take i) p++[n.path]else DF (ns.take i) p:=by
 unfold DF;rw[BC,h,aa3,kT];by_cases hp:eY n.path=p
 ·rw[if_pos hp];simp[hp]
 rw[if_neg hp];simp[hp]
theorem avF (ns:List TN) (p:List UInt8):(DF ns p).length<=ns.length:=by unfold DF;rw[kV];exact al5 _ _
theorem aqC (ns:List TN) (p:List UInt8):(DF ns p).length=mD ns p:=by unfold DF mD;rw[kV];first |rfl|(rw[<-arW];try congr 1)
theorem ag6 {w:World} {nv fv:Value} {ns:List TN} {fs:List TF} {vs:List Value} (h:bY w nv fv ns fs vs) (hm:gY ns fs) (p:List UInt8):
  Calls Tryz.prog 57 #[.agg #[nv,fv],aC p] w fun e w'=>∃v,e= .returned v/\Sep w w' [.sl 9 1 v (DF ns p).length ((DF ns p).map aC)]:=by
 have hS0:=(Sep.nil w).bN 32 #[nv,fv];have uO:=h.nodes;obtain⟨A1,c1,rfl,hm1⟩:=h.nodes.shape;have avB:=fun(n:TN) (hn:n∈ns) (W:World)=>IW (p:=n.path) W (by have:=hm.short n hn;omega)
 have anC:=Lh avB;have fV:=Lh hS0;have b1:(ns.length:Int)<=300:=by have:=hm.few;omega
 have oV:=Lh uO;have hlen:=hm.few;obtain⟨i0,hif,hz0,hz1,hz2⟩:=info_parts aaB;clear hm hS0 h uO avB;unfold aC at*;go_enter Tryz.func57,Tryz.ntmps57;go_wp2_with fail;go_loopw[5,6] (fun ov iv wr=>∃(L:List Value) (i:Nat),i<=ns.length/\iv=iV i/\Hid (L=(DF (ns.take i) p).map aC)/\Sep w wr [.sl 9 1 ov L.length L,.box w.heap.size 32 #[.slice A1 ns.length c1,fv]]) (fun _ iv _=>ns.length-(intOf iv).toNat)
 case atStart=>exact⟨[],0,iF _,rfl,Lh rfl,fV.out.dX _ _⟩
 obtain⟨L,i,hi,rfl,hL,hS⟩:=hrel;have c0:(0:Int)<=(i:Int):=by omega
 have z0:=hS.bC 1 rfl 0;simp only[gA,gB,gC]at z0;by_cases hlt:i<ns.length
 ·(have c2:(i:Int)<(ns.length:Int):=by omega);obtain⟨g,o,c,e,_,_,_,hcell⟩:=oV.out.place aD aQ;cases e;obtain⟨n,he⟩:∃n,ns[i]? =some n:=⟨_,gE hlt⟩;(have hx:=fun(W:World) (hW:Below w.heap.size w W)=>(hcell _ hW (i*3+0) aD).trans (eP he 0 aD));simp only[KA,aC,gB,gC,<-uS,sM]at hx;have x0:=hx _ hS.below;have Y8:=anC.out n (gG he);have ag4:=Lh Y8;have hx':=Lh hx;have hS':=Lh hS;have hck:=Lh (ak3 he p);(have hLl:L.length<=300:=by have:=avF (ns.take i) p;rw[hL.out,kV];rw[tF]at this;omega);clear Y8 hx hcell hS he;by_cases hp:eY n.path=p
  ·subst hp;rw[if_pos rfl]at hck;go_wp2_with(first |(go_at_call 115;refine(ag4.out _).mono ?_;rintro e w2 ⟨rfl,hb2⟩;(have hS2:=hS'.out.pure hb2);(have y0:=hS2.bC 1 rfl 0);simp only[gA,gB,gC]at y0;(have y1:=hx'.out _ hS2.below);(have dJ:=hS2.alloc (.cells #[.string ⟨n.path.toArray⟩] 9));clear hS2 hb2)|(at_builtin;refine iZ 0 rfl _ _ 52 rfl 9 i0 (.string ⟨#[]⟩) 1 16 Tryz.underlying52 hif hz0 hz1 hz2 rfl aQ dJ _ _ _ rfl rfl ⟨w2.heap.size,0,none⟩ 1 1 [.string ⟨n.path.toArray⟩] rfl rfl (cell_one_new _ _ _) Q8 aQ oH aD ?_));intro gg cc w3 fC hz;have xN:=Lh fC;clear fC hz dJ;go_wp2_with fail;go_roundw
   case rel=>exact⟨L++[.string ⟨n.path.toArray⟩],i+1,by omega,by go_num,(by(show _=_);rw[hck.out,kT,hL.out];rfl),(by rw[kN];exact xN.out)⟩
   case measure=>(simp[intOf];omega)
  rw[if_neg hp]at hck;(have bp:(eY n.path==p)=false:=by simpa using hp);have hp':=Lh hp;clear hp;go_wp2_with(go_at_call 115;refine(ag4.out _).mono ?_;rintro e w2 ⟨rfl,hb2⟩;(have hS2:=hS'.out.pure hb2);replace hS2:=Lh hS2;clear hb2);go_roundw
  case rel=>exact⟨L,i+1,by omega,by go_num,(by(show _=_);rw[hck.out];exact hL.out),hS2.out⟩
  case measure=>(simp[intOf];omega)
 have c22:¬(i:Int)<(ns.length:Int):=by omega
 have hfin:L=(DF ns p).map aC:=by rw[hL.out,tH aD]
 obtain⟨A9,c9,rfl,_⟩:=(hS.rd 0 rfl).shape;have hS':=Lh hS;have aB2:=Lh hfin;clear hS hfin hL;go_wp2_with fail;go_ret;refine⟨_,rfl,?_⟩;have h9:=Sep.fst (X:=[_]) (Y:=[_]) hS'.out;rw[aB2.out,kV]at h9;rw[aB2.out,kV];exact h9
theorem PE {w:World} {nv fv:Value} {ns:List TN} {fs:List TF} {vs:List Value} (h:bY w nv fv ns fs vs) (hm:gY ns fs) (p:List UInt8):
  Calls Tryz.prog 57 #[.agg #[nv,fv],aC p] w fun e w'=>∃A c,e= .returned (.slice A (mD ns p) c)/\Below w.heap.size w w':=by
 refine(ag6 h hm p).mono ?_;rintro e w' ⟨v,rfl,hS⟩;obtain⟨A,c,rfl,_⟩:=(hS.rd 0 rfl).shape;exact⟨A,c,by rw[aqC],hS.below⟩
def dnB (K:List UInt8->Nat) (xs:List TN):Int:=(xs.map fun n=>if n.file= -1 then CG (K n.path)else 0).sum
def dnI (xs:List TN):Int:=(xs.map fun n=>if n.file= -1 then(1:Int)else 0).sum
def dfB (fs:List TF):Int:=(fs.map fun f=>xG f.size).sum
def wdB (ns:List TN) (fs:List TF):Int:=CG (mD ns [])+dnB (mD ns) ns+dfB fs
def wdI (ns:List TN) (fs:List TF):Int:=1+dnI ns+fs.length
theorem U7 {α:Type} (f:α->Int) {l:List α} {i:Nat} {x:α} (h:l[i]? =some x):((l.take (i+1)).map f).sum=((l.take i).map f).sum+f x:=by rw[BC,h,kT,aeD];simp
theorem GV {α:Type} (f:α->Int) (M:Int):∀(l:List α),(∀x∈l,0<=f x/\f x<=M)->0<=(l.map f).sum/\(l.map f).sum<=M*l.length
 |[],_=>by simp
 |x::l,h=>by obtain⟨h1,h2⟩:=h x bM;(obtain⟨h3,h4⟩:=GV f M l fun y hy=>h y (AY _ hy));rw[mH,BD,nV];refine⟨by omega,?_⟩;(have:M*((l.length+1:Nat):Int)=M*l.length+M:=by rw[aeG,Int.mul_add];simp);omega
theorem QQ (k:Nat):1<=CG k/\CG k<=k+1:=by rw[ap6];exact ay6 k
theorem aaH {K:List UInt8->Nat} (hK:∀p,K p<=300) (xs:List TN):0<=dnB K xs/\dnB K xs<=301*xs.length:=by
 refine GV _ 301 xs fun n _=>?_
 have:=QQ (K n.path);have:=hK n.path;split<;>omega
theorem aaI (xs:List TN):0<=dnI xs/\dnI xs<=1*xs.length:=by
 refine GV _ 1 xs fun n _=>?_
 split<;>omega
theorem aqD {fs:List TF} (h:∀f∈fs,f.size<=1048576):0<=dfB fs/\dfB fs<=3000*fs.length:=by
 refine GV _ 3000 fs fun f hf=>?_
 have:=h f hf;unfold xG;split<;>omega
theorem Z56 {P:Prop} (h:P:=by obtain⟨g3,g4⟩:=hBI.out;simp only[dnB,dnI]at g3 g4 ⊢;exact⟨by rw[g1,g3];omega,by rw[g2,g4];omega⟩):P:=h
theorem X5 {w:World} {nv fv:Value} {ns:List TN} {fs:List TF} {vs:List Value} (h:bY w nv fv ns fs vs) (hm:gY ns fs):
  Calls Tryz.prog 20 #[.agg #[nv,fv]] w fun e w'=>e= .returned (yN (wdB ns fs) (wdI ns fs))/\Below w.heap.size w w':=by
 have hS0:=((Sep.nil w).bN 32 #[nv,fv]).bN 28 #[iV 0,iV 0];simp only[World.size_alloc]at hS0;have uO:=h.nodes;have hfp:=h.files;have O1:=fun(W:World) (hW:Below w.heap.size w W) (p:List UInt8)=>PE (h.below hW) hm p
 obtain⟨A1,pR,rfl,hm1⟩:=h.nodes.shape;obtain⟨A2,pO,rfl,hm2⟩:=h.files.shape;have hK9:∀p,mD ns p<=300:=fun p=>PS (anD ns p) hm.few
 have b1:(ns.length:Int)<=300:=by have:=hm.few;omega
 have b2:(fs.length:Int)<=300:=by have:=hm.oQ;omega
 have hsz:=hm.size;have avI:=Lh O1;have fV:=Lh hS0;have oV:=Lh uO;have mO:=Lh hfp;have h':=Lh h;have ak4:=Lh hK9;have hsz':=Lh hsz;have z0:=hS0.bC 1 rfl 0;have z1:=hS0.bC 1 rfl 1;simp only[gA,gB,gC]at z0 z1;clear hS0 h hm uO hfp O1 hK9 hsz;go_enter Tryz.func20,Tryz.ntmps20;unfold aC at*;have hk0:=avI.out _ fV.out.below [];go_wp2_with(first |(go_at_call 57;refine hk0.mono ?_;rintro e w1 ⟨Ak,ck,rfl,hb1⟩;(have hS1:=fV.out.pure hb1);replace hS1:=Lh hS1;clear hb1)|(go_at_call 56;refine(UZ (by have:=ak4.out [];omega) _).mono ?_;rintro e w2 ⟨rfl,hb2⟩;(have hS2:=(hS1.out.pure hb2).bN 28 #[iV (CG (mD ns [])),iV 1]);replace hS2:=Lh hS2;clear hb2;unfold yN));clear z0 z1 hk0;go_loopw[4] (fun iv wr=>∃(i:Nat) (B I:Int),i<=ns.length/\iv=iV i/\Hid (B=CG (mD ns [])+dnB (mD ns) (ns.take i)/\I=1+dnI (ns.take i))/\Sep w wr [.box w2.heap.size 28 #[iV B,iV I],.box (w.heap.size+1) 28 #[iV 0,iV 0],.box w.heap.size 32 #[.slice A1 ns.length pR,.slice A2 fs.length pO]]) (fun iv _=>ns.length-(intOf iv).toNat)
 case atStart=>exact⟨0,CG (mD ns []),1,iF _,rfl,Lh (by simp[dnB,dnI]),hS2.out⟩
 obtain⟨i,B,I,hi,rfl,hBI,hS⟩:=hrel;have c0:(0:Int)<=(i:Int):=by omega
 have hcl:=fun(W:World) (B I:Int) (hS:Sep w W [.box w2.heap.size 28 #[iV B,iV I],.box (w.heap.size+1) 28 #[iV 0,iV 0],.box w.heap.size 32 #[.slice A1 ns.length pR,.slice A2 fs.length pO]])=>And.intro (hS.bC 0 rfl 0) (And.intro (hS.bC 0 rfl 1) (And.intro (hS.bC 2 rfl 0) (hS.bC 2 rfl 1)))
 simp only[gA,gB,gC]at hcl;obtain⟨y0,y1,z0,z1⟩:=hcl _ _ _ hS;have hcl':=Lh hcl;clear hcl;by_cases hlt:i<ns.length
 ·(have c2:(i:Int)<(ns.length:Int):=by omega);obtain⟨g,o,c,e,_,_,_,hcell⟩:=oV.out.place aD aQ;cases e;obtain⟨n,he⟩:∃n,ns[i]? =some n:=⟨_,gE hlt⟩;(have hx:=fun(W:World) (hW:Below w.heap.size w W)=>And.intro ((hcell _ hW (i*3+0) aD).trans (eP he 0 aD)) ((hcell _ hW (i*3+1) aD).trans (eP he 1 aD)));simp only[KA,aC,gB,gC,<-uS,sM]at hx;obtain⟨x0,x1⟩:=hx _ hS.below;have hx':=Lh hx;have hS':=Lh hS;have hsB:=Lh (U7 (fun n:TN=>if n.file= -1 then CG (mD ns n.path)else 0) he);have hsI:=Lh (U7 (fun n:TN=>if n.file= -1 then(1:Int)else 0) he);have hBb:=QQ (mD ns []);have hk0:=ak4.out [];have hB1:=aaH ak4.out (ns.take i);have hB2:=aaI (ns.take i);rw[tF,zH aD]at hB1 hB2;(have hBB: -1000000<=B/\B<=1000000:=by have:=hBI.out.1;omega);(have hII: -1000000<=I/\I<=1000000:=by have:=hBI.out.2;omega);have aPZ:=Lh hBB;have aP0:=Lh hII;clear hx hcell hS he hBb hk0 hB1 hB2 hBB hII;by_cases hd:n.file= -1
  ·(have hq:(n.file== -1)=true:=by rw[hd];rfl);have hd':=Lh hd;(have hkk:=fun W hW=>avI.out W hW n.path);(have hdd:=fun W=>UZ (k:=mD ns n.path) (by have:=ak4.out n.path;omega) W);have hDb:=QQ (mD ns n.path);have aJK:=ak4.out n.path;obtain⟨D,hD⟩:∃D,CG (mD ns n.path)=D:=⟨_,rfl⟩;rw[hD]at hdd hDb;obtain⟨kk,aJL⟩:∃kk,mD ns n.path=kk:=⟨_,rfl⟩;rw[aJL]at hkk hdd hDb aJK;(have hpp:=fun W=>aaE (B:=B) (I:=I) (C:=D) (J:=1) aPZ.out aP0.out aD aD W);have aP1:=Lh hkk;have aD5:=Lh hdd;have aD6:=Lh hpp;have hE0:=And.intro y0 (And.intro y1 (And.intro z0 (And.intro z1 x0)));have hD':=Lh hD;unfold yN at*;clear hd hkk hdd hpp hD aJL hDb aJK;go_wp2_with fail;refine aJ (S:=fun w'=>w'.cell? ⟨w2.heap.size,0,none⟩=some (iV B)/\w'.cell? ⟨w2.heap.size,1,none⟩=some (iV I)/\w'.cell? ⟨w.heap.size,0,none⟩=some (.slice (some ⟨g,o,none⟩) ns.length pR)/\w'.cell? ⟨w.heap.size,1,none⟩=some (.slice A2 fs.length pO)/\w'.cell? ⟨g,o+i*3,none⟩=some (.string ⟨n.path.toArray⟩)) 12 ?_;refine aA 0 hE0 ?_;refine aA 1 hE0 ?_;refine aA 2 hE0 ?_;refine aA 3 hE0 ?_;refine aA 4 hE0 ?_;refine aA 5 hE0 ?_;refine aA 6 hE0 ?_;refine aA 7 hE0 ?_;(refine bG 8 fun K hK=>?_);go_simp;go_at_call 57;refine(aP1.out _ hS'.out.drew.below).mono ?_;rintro e w3 ⟨Ak2,ck2,rfl,hb3⟩;have dJ:=hS'.out.drew.pure hb3;obtain⟨q0,q1,q2,q3⟩:=hcl'.out _ _ _ dJ;have H7:=And.intro q0 (And.intro q1 (And.intro q2 (And.intro q3 ((hx'.out _ dJ.below).1))));clear q0 q1 q2 q3;dsimp only;refine hK _ _ (fun _=>H7) ?_;clear hK K;(try simp only[Act.put,gD]);refine aW 9 (fun _=>H7) ?_;(refine bG 10 fun K hK=>?_);go_simp;go_at_call 56;refine(aD5.out _).mono ?_;rintro e w4 ⟨rfl,aD7⟩;have fC:=dJ.pure aD7;obtain⟨q0,q1,q2,q3⟩:=hcl'.out _ _ _ fC;have avK:=And.intro q0 (And.intro q1 (And.intro q2 (And.intro q3 ((hx'.out _ fC.below).1))));clear q0 q1 q2 q3;dsimp only;refine hK _ _ (fun _=>avK) ?_;clear hK K;(try simp only[Act.put,gD]);(refine bG 11 fun K hK=>?_);go_simp;go_at_call 58;refine(aD6.out _).mono ?_;rintro e w5 ⟨rfl,aD8⟩;have hS5:=fC.pure aD8;obtain⟨q0,q1,q2,q3⟩:=hcl'.out _ _ _ hS5;have avL:=And.intro q0 (And.intro q1 (And.intro q2 (And.intro q3 ((hx'.out _ hS5.below).1))));clear q0 q1 q2 q3;dsimp only;refine hK _ _ (fun _=>avL) ?_;clear hK K;(try simp only[Act.put,gD]);obtain⟨q0,q1,q2,q3,q4⟩:=avL;have f0:=hS5.bF 0 rfl 0;have f1:=hS5.bF 0 rfl 1;refine aW 12 (fun h=>absurd rfl h) ?_;refine aR fZ ?_ _;have jS:=Lh ((hS5.bS 0 rfl 0 (.int .i64 (B+D))).bS 0 rfl 1 (.int .i64 (I+1)));clear q0 q1 q2 q3 q4 f0 f1 hS5 fC avK dJ H7 hE0;go_wp2_with fail;go_roundw
   case rel=>refine⟨i+1,B+D,I+1,by omega,by go_num,Lh ?_,jS.out⟩;have g1:=hsB.out;have g2:=hsI.out;simp only[if_pos hd'.out,hD'.out]at g1 g2;exact Z56
   case measure=>(simp[intOf];omega)
  (have hq:(n.file== -1)=false:=by simpa using hd);have hd':=Lh hd;clear hd;go_wp2_with fail;go_roundw
  case rel=>refine⟨i+1,B,I,by omega,by go_num,Lh ?_,hS'.out⟩;have g1:=hsB.out;have g2:=hsI.out;simp only[if_neg hd'.out]at g1 g2;exact Z56
  case measure=>(simp[intOf];omega)
 have c22:¬(i:Int)<(ns.length:Int):=by omega
 have aD9:Hid (B=CG (mD ns [])+dnB (mD ns) ns/\I=1+dnI ns):=by have e:ns.take i=ns:=tH aD;have h:=hBI.out;rw[e]at h;exact h
 have hS':=Lh hS;clear hS hBI;go_wp2_with fail;clear z0 z1 y0 y1;go_loopw[5] (fun iv wr=>∃(j:Nat) (C J:Int),j<=fs.length/\iv=iV j/\Hid (C=B+dfB (fs.take j)/\J=I+j)/\Sep w wr [.box w2.heap.size 28 #[iV C,iV J],.box (w.heap.size+1) 28 #[iV 0,iV 0],.box w.heap.size 32 #[.slice A1 ns.length pR,.slice A2 fs.length pO]]) (fun iv _=>fs.length-(intOf iv).toNat)
 case atStart=>exact⟨0,B,I,iF _,rfl,Lh (by simp[dfB]),hS'.out⟩
 obtain⟨j,C,J,hj,rfl,hCJ,hS⟩:=hrel;have d0:(0:Int)<=(j:Int):=by omega
 obtain⟨y0,y1,z0,z1⟩:=hcl'.out _ _ _ hS;by_cases hlt2:j<fs.length
 ·(have d2:(j:Int)<(fs.length:Int):=by omega);obtain⟨g,o,c,e,_,_,_,hcell⟩:=mO.out.place aD aQ;cases e;obtain⟨f,he⟩:∃f,fs[j]? =some f:=⟨_,gE hlt2⟩;obtain⟨u,hu⟩:∃u,vs[j]? =some u:=⟨_,gE (by rw[h'.out.len];exact hlt2)⟩;obtain⟨A,c9,rfl,_⟩:=(h'.out.data j u f hu he).shape;(have hx:=fun(W:World) (hW:Below w.heap.size w W)=>(hcell _ hW (j*2+1) aD).trans (jP he hu 1 aD));simp only[tfC,gB,gC,<-uS]at hx;have x1:=hx _ hS.below;have hx':=Lh hx;have hfs:=hsz'.out f (gG he);have hsF:=Lh (U7 (fun f:TF=>xG f.size) he);have hBb:=QQ (mD ns []);have hk0:=ak4.out [];have hB1:=aaH ak4.out ns;have hB2:=aaI ns;(have hB3:=aqD (fs:=fs.take j) fun f hf=>hsz'.out f (MP hf));rw[tF,zH aD]at hB3;(have hBB: -1000000<=C/\C<=1000000:=by have:=aD9.out.1;have:=hCJ.out.1;omega);(have hII: -1000000<=J/\J<=1000000:=by have:=aD9.out.2;have:=hCJ.out.2;omega);(have hDb:0<=xG f.size/\xG f.size<=3000:=by unfold xG;split<;>omega);(have hdd:=fun W=>ag1 hfs W);obtain⟨D,hD⟩:∃D,xG f.size=D:=⟨_,rfl⟩;rw[hD]at hdd hDb;(have hpp:=fun W=>aaE (B:=C) (I:=J) (C:=D) (J:=1) hBB hII aD aD W);have aD5:=Lh hdd;have aD6:=Lh hpp;have dJ:=hS;have hE0:=And.intro y0 (And.intro y1 (And.intro z0 (And.intro z1 x1)));have hD':=Lh hD;unfold yN at*;clear hx hcell he hu hBb hk0 hB1 hB2 hB3 hBB hII hdd hpp hD hDb;go_wp2_with fail;refine aJ (S:=fun w'=>w'.cell? ⟨w2.heap.size,0,none⟩=some (iV C)/\w'.cell? ⟨w2.heap.size,1,none⟩=some (iV J)/\w'.cell? ⟨w.heap.size,0,none⟩=some (.slice A1 ns.length pR)/\w'.cell? ⟨w.heap.size,1,none⟩=some (.slice (some ⟨g,o,none⟩) fs.length pO)/\w'.cell? ⟨g,o+j*2+1,none⟩=some (.slice A f.size c9)) 10 ?_;refine aA 0 hE0 ?_;refine aA 1 hE0 ?_;refine aA 2 hE0 ?_;refine aA 3 hE0 ?_;refine aA 4 hE0 ?_;refine aA 5 hE0 ?_;refine aA 6 hE0 ?_;(refine bG 7 fun K hK=>?_);go_simp;refine hK _ _ (fun _=>And.intro y0 (And.intro y1 (And.intro z0 (And.intro z1 x1)))) ?_;clear hK K;(try simp only[Act.put,gD]);(refine bG 8 fun K hK=>?_);go_simp;go_at_call 59;refine(aD5.out _).mono ?_;rintro e w4 ⟨rfl,aD7⟩;have fC:=dJ.drew.pure aD7;obtain⟨q0,q1,q2,q3⟩:=hcl'.out _ _ _ fC;have avK:=And.intro q0 (And.intro q1 (And.intro q2 (And.intro q3 (hx'.out _ fC.below))));clear q0 q1 q2 q3;dsimp only;refine hK _ _ (fun _=>avK) ?_;clear hK K;(try simp only[Act.put,gD]);(refine bG 9 fun K hK=>?_);go_simp;go_at_call 58;refine(aD6.out _).mono ?_;rintro e w5 ⟨rfl,aD8⟩;have hS5:=fC.pure aD8;obtain⟨q0,q1,q2,q3⟩:=hcl'.out _ _ _ hS5;have avL:=And.intro q0 (And.intro q1 (And.intro q2 (And.intro q3 (hx'.out _ hS5.below))));clear q0 q1 q2 q3;dsimp only;refine hK _ _ (fun _=>avL) ?_;clear hK K;(try simp only[Act.put,gD]);obtain⟨q0,q1,q2,q3,q4⟩:=avL;have f0:=hS5.bF 0 rfl 0;have f1:=hS5.bF 0 rfl 1;refine aW 10 (fun h=>absurd rfl h) ?_;refine aR fZ ?_ _;have jS:=Lh ((hS5.bS 0 rfl 0 (.int .i64 (C+D))).bS 0 rfl 1 (.int .i64 (J+1)));clear q0 q1 q2 q3 q4 f0 f1 hS5 fC avK dJ hE0 hS;go_wp2_with fail;go_roundw
  case rel=>refine⟨j+1,C+D,J+1,by omega,by go_num,Lh ?_,jS.out⟩;have g1:=hsF.out;simp only[hD'.out]at g1;obtain⟨g3,g4⟩:=hCJ.out;unfold dfB at g3 ⊢;exact⟨by rw[g1,g3];omega,by rw[g4];omega⟩
  case measure=>(simp[intOf];omega)
 have d22:¬(j:Int)<(fs.length:Int):=by omega
 have hfin:C=wdB ns fs/\J=wdI ns fs:=by have e:fs.take j=fs:=tH aD;have h:=hCJ.out;rw[e]at h;have h2:=aD9.out;(have h3:j=fs.length:=by omega);unfold wdB wdI;exact⟨by rw[h.1,h2.1],by rw[h.2,h2.2,h3]⟩
 obtain⟨e1,e2⟩:=hfin;have e1':=Lh e1;have e2':=Lh e2;have q0:=hS.bC 1 rfl 0;have q1:=hS.bC 1 rfl 1;have f0:=hS.bF 1 rfl 0;have f1:=hS.bF 1 rfl 1;simp only[gA,gB,gC]at q0 q1;have jS:=(hS.bS 1 rfl 0 (.int .i64 C)).bS 1 rfl 1 (.int .i64 J);have r0:=jS.bC 1 rfl 0;have r1:=jS.bC 1 rfl 1;have r0':=Lh r0;have r1':=Lh r1;have U8:=Lh jS;clear jS r0 r1 hS e1 e2 hCJ;go_wp2_with fail;refine bodyPost_ret (IY rfl rfl r0'.out r1'.out) rfl ?_;exact⟨by rw[<-e1'.out,<-e2'.out];rfl,U8.out.below⟩
end Go.Proofs.YteihmbaimbogaaaGreat
