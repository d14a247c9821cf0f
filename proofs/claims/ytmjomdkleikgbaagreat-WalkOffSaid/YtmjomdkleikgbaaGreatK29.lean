/- Parts. -/
import Derived.Test.YtmjomdkleikgbaaGreatK28
set_option linter.unusedVariables false
set_option linter.unusedSimpArgs false
namespace Go.Proofs.YtmjomdkleikgbaaGreat
section
variable {S:VS} {g:LT} {ns:List TN} {fs:List FT} {dn:Key->Nat} {φ:Int->Nat}
theorem RX {L:uS} {z:List UInt8×Nat} {i:Nat} (h:i<L.length):tC (L++[z]) i=tC L i:=by unfold tC;rw[gH,gH,EI h]
theorem aaL {L:uS} {z:List UInt8×Nat} {i:Nat} (h:i<L.length):(kD L i++[z]).Perm (kD (L++[z]) i):=by have h1:=tQ h;have h2:=tQ (L:=L++[z]) (i:=i) (by rw[jM];omega);rw[RX h]at h2;have h3:(L++[z]).Perm (tC L i::(kD L i++[z])):=h1.append_right [z];exact(h3.symm.trans h2).cons_inv
theorem WY {n0:TN} {K:Key} (h:bE n0≠K):qG (ns++[n0]) K=qG ns K++[n0]:=by unfold qG;rw[FN];congr 1;rw[yM,if_pos (by simp[h])];rfl
theorem Z70 {P:Prop} (h:P:=by exact dD.I5 ⟨h.iP.rB,h.iP.rI⟩ h.iP.ph.use this.like this.ph this.m):P:=h
theorem Vt.rename (h:Vt S ns fs g dn φ) {p q:List UInt8} {n:TN} (hv:aV p=true) (hvq:aV q=true) (hn:kP ns (splitB p)=some n) (hP:dJ ns (splitB p).dropLast) (hf:n.file≠ -1)
  (hQ:dJ ns (splitB q).dropLast) (hno:kP ns (splitB q)=none):
  FC φ fs.length S (.ok (oI S (dn (splitB p).dropLast) (aL p) (dn (splitB q).dropLast) (aL q) (φ n.file))) (qG ns (splitB p)++[⟨q,n.file,0⟩]) fs/\QZ S (dn (splitB p).dropLast) (dn (splitB q).dropLast) p q (φ n.file):=by
 obtain⟨hnm,hnk⟩:=eY hn;obtain⟨ix,hi,hl,he⟩:=h.entry hn hP;have hbase:(aL p).length<=15:=by have:=rJ hv;omega
 have F7:(aL q).length<=15:=by have:=rJ hvq;omega
 obtain⟨hd1,hd2⟩:=h.rep.AR hP;obtain⟨he1,he2⟩:=h.rep.AR hQ;obtain⟨_,hj1,hj2,_,hj3⟩:=h.rep.file n hnm hf;have nT:dE dn φ n=φ n.file:=by unfold dE;rw[if_neg hf]
 have DI:=h.rep.akW hnm hf hQ hno;rw[nT]at he;obtain⟨d,hd⟩:∃d,d=dn (splitB p).dropLast:=⟨_,rfl⟩;obtain⟨d2,hdd⟩:∃d,d=dn (splitB q).dropLast:=⟨_,rfl⟩;obtain⟨j,hj⟩:∃j,j=φ n.file:=⟨_,rfl⟩;rw[<-hd]at hi hl he hd1 hd2;rw[<-hdd]at he1 he2;rw[<-hj]at he hj1 hj2 hj3;rw[<-hdd,<-hj]at DI;rw[<-hd,<-hdd,<-hj];have hjd:j≠d:=fun e=>by rw[e,hd2]at hj2;cases hj2
 have aw3:j≠d2:=fun e=>by rw[e,he2]at hj2;cases hj2
 have hkey:bE n=splitB p:=hnk;have hlast:(bE n).getLastD []=aL p:=by rw[hkey];rfl
 obtain⟨n0,hn0⟩:∃n0:TN,n0=⟨q,n.file,0⟩:=⟨_,rfl⟩;have hk0:bE n0=splitB q:=by rw[hn0];rfl
 rw[<-hn0]at DI ⊢;have hpq:bE n0≠splitB p:=fun e=>vG hno n hnm (by rw[hkey,<-e,hk0])
 obtain⟨ngA,hgA⟩:∃ngA,ngA=dP (dP g j {g j with links:=(g j).links+1}) d2 ((g d2).more (aL q) j):=⟨_,rfl⟩;rw[<-hgA]at DI;have hmem:n∈ns++[n0]:=vU _ hnm;have hR2:=DI.perm (uK DI.uniq hmem);rw[hnk,WY hpq]at hR2;have MZ:eP (qG ns (splitB p)++[n0]) (bE n)=[]:=by have:=K5 (n:=n) (DI.WX hmem hf);rw[hnk,WY hpq]at this;rw[hkey];exact this
 have gAd:(ngA d).bH=if d=d2 then(g d).bH++[(aL q,j)]else(g d).bH:=by
  by_cases e:d=d2
  ·rw[if_pos e,hgA,e,bM];rfl
  rw[if_neg e,hgA,bR _ _ e,bR _ _ (fun e2=>hjd e2.symm)]
 have hiA:ix<(ngA d).bH.length:=by
  rw[gAd];split
  ·rw[jM];omega
  exact hi
 have heA:tC (ngA d).bH ix=((bE n).getLastD [],j):=by
  rw[gAd,hlast];split
  ·rw[RX hi,he]
  exact he
 have gAj:ngA j= {g j with links:=(g j).links+1}:=by rw[hgA,bR _ _ aw3,bM]
 have hl3:=hR2.aAM (x:= {ngA j with links:=(ngA j).links-1}) (ix:=ix) MZ (.inl ⟨hf,by rw[nT,<-hj],n0,by simp,by rw[hn0]⟩) (by rw[hkey,<-hd];exact hiA) (by rw[hkey,<-hd,nT,<-hj,<-hkey];exact heA);rw[hkey,<-hd,nT,<-hj]at hl3
 --the blocks
 obtain⟨g1,hg1⟩:∃g1,g1=dP g d ((g d).less ix):=⟨_,rfl⟩;have hR:l6 (dP g1 d2 ((g1 d2).more (aL q) j)) S.names (qG ns (splitB p)++[n0]) fs dn φ:=by
  (refine hl3.congr fun m=>?_);by_cases m1:m=j
  ·subst m1;rw[bM,bR _ _ aw3,hg1,bR _ _ hjd,gAj];exact⟨rfl,rfl,rfl,rfl,EW _⟩
  rw[bR _ _ m1];by_cases m2:m=d
  ·subst m2;rw[bM];by_cases e:m=d2
   ·subst e;rw[bM,hg1,bM];(have e9:(ngA m).bH=(g m).bH++[(aL q,j)]:=by rw[gAd,if_pos rfl]);(have e8:ngA m=(g m).more (aL q) j:=by rw[hgA,bM]);refine⟨by rw[e8];rfl,by rw[e8];rfl,by rw[e8];rfl,by rw[e8];rfl,?_⟩;(show(kD (g m).bH ix++[(aL q,j)]).Perm (kD (ngA m).bH ix));rw[e9];exact aaL hi
   rw[bR _ _ e,hg1,bM];(have e8:ngA m=g m:=by rw[hgA,bR _ _ e,bR _ _ m1]);rw[e8];exact⟨rfl,rfl,rfl,rfl,EW _⟩
  rw[bR _ _ m2];by_cases e:m=d2
  ·subst e;(have e8:ngA m=(g m).more (aL q) j:=by rw[hgA,bM]);rw[bM,hg1,bR _ _ m2,e8];exact⟨rfl,rfl,rfl,rfl,EW _⟩
  (have e8:ngA m=g m:=by rw[hgA,bR _ _ e,bR _ _ m1]);rw[bR _ _ e,hg1,bR _ _ m2,e8];exact⟨rfl,rfl,rfl,rfl,EW _⟩
 have hL:=h.iP.ph.leave hd1 hd2 hi hl;have hlv:=h.iP.ph.aaE hd1 hd2 hbase hi hl;rw[<-hg1]at hL;obtain⟨S1,hS1⟩:∃S1,S1=cO S d (aL p):=⟨_,rfl⟩;have hL1:fC S S1:=by rw[hS1];exact oV _ _ _
 have hm1:S1.m<=4:=by exact Z44
 have hF1:qU S.cur S1:=by rw[hS1];exact(qU.refl S).cO _ _
 rw[<-hS1]at hL;have ad6:d2<S1.names:=by rw[hL1.names];exact he1
 have hk1:(g1 d2).kind=1:=by
  rw[hg1];by_cases e:d2=d
  ·rw[e,bM];exact hd2
  rw[bR _ _ e];exact he2
 have hsz:(g1 d2).bH.length<448:=by
  have h1:=h.iP.ph.aaD he1;have h2:=h.iP.few;have h3:(g1 d2).bH.length<=(g d2).bH.length:=by
   rw[hg1];by_cases e:d2=d
   ·rw[e,bM];(show(kD (g d).bH ix).length<=_);rw[o6];omega
   rw[bR _ _ e];exact iC _
  omega
 have ahZ:j<=65535:=by have:=h.iP.ph.qD;omega
 have hE:=hL.enter (dir:=d2) (n:=j) (name:=aL q) ad6 hk1 hsz F7 ahZ;have hlen:(qG ns (splitB p)++[n0]).length<=256:=by have h1:=(uK h.rep.uniq hnm).length_eq;rw[hnk,kH]at h1;rw[jM,oL];have:=h.nodes;have:=h.iP.few;omega
 have hfair:∀k<S.names,(dP g1 d2 ((g1 d2).more (aL q) j) k).fair:=fun k hk=>by
  by_cases e:k=d2
  ·rw[e,bM];exact LI.DW (hL.fair d2 ad6) hk1 hsz F7 ahZ
  rw[bR _ _ e];exact hL.fair k (by rw[hL1.names];exact hk)
 have hch:∀T,oI S d (aL p) d2 (aL q) j=some T->Chg S (dP g1 d2 ((g1 d2).more (aL q) j)) T:=fun T hT=>by unfold oI at hT;rw[<-hS1]at hT;refine⟨hE.1 T hT,hL1.trans (wJ hT),?_⟩;have:=hL.N9 ad6 hk1 hT;omega
 refine⟨⟨_,rfl,fun hx=>.inl ?_,fun T hT=>⟨?_,hlen,_,dn,φ,hch T hT,hR,fun _ _=>rfl⟩⟩,hlv,h.iP.ph.sv,?_,?_,fun T hT=>?_⟩
 ·unfold oI at hx;rw[<-hS1]at hx;have h1:=hE.2 hx;rw[hL1.count,hL1.names]at h1;have h2:=D9 hfair;rw[hR.wB hfair]at h2;rw[h.iP.rB];omega
 ·unfold oI at hT;rw[<-hS1]at hT;exact hF1.gV hT
 ·rw[<-hS1];exact hL.N8 ad6 hk1 hsz F7 ahZ
 ·rw[<-hS1];exact hL.sv
 have:=hch T hT;exact Z70
theorem Vt.link (h:Vt S ns fs g dn φ) {q:List UInt8} {n:TN} (hvq:aV q=true) (hnm:n∈ns) (hf:n.file≠ -1) (hQ:dJ ns (splitB q).dropLast) (hno:kP ns (splitB q)=none) (hroom:ns.length<256):
  FC φ fs.length S (.ok (zQ S (φ n.file) (dn (splitB q).dropLast) (aL q))) (ns++[⟨q,n.file,0⟩]) fs/\ahG S (dn (splitB q).dropLast) q (φ n.file):=by
 have F7:(aL q).length<=15:=by have:=rJ hvq;omega
 obtain⟨he1,he2⟩:=h.rep.AR hQ;obtain⟨_,hj1,hj2,_,hj3⟩:=h.rep.file n hnm hf;have DI:=h.rep.akW hnm hf hQ hno;obtain⟨d2,hdd⟩:∃d,d=dn (splitB q).dropLast:=⟨_,rfl⟩;obtain⟨j,hj⟩:∃j,j=φ n.file:=⟨_,rfl⟩;rw[<-hdd]at he1 he2;rw[<-hj]at hj1 hj2 hj3;rw[<-hdd,<-hj]at DI;rw[<-hdd,<-hj];have aw3:d2≠j:=fun e=>by rw[<-e,he2]at hj2;cases hj2
 have hfj:=h.iP.ph.fair j hj1;have hlk:(g j).links<=256:=by rw[hj3];have:=List.countP_le_length (p:=fun m:TN=>decide (m.file=n.file)) (l:=ns);omega
 obtain⟨x,hx⟩:∃x:LI,x= {g j with links:=(g j).links+1}:=⟨_,rfl⟩;have hxf:x.fair:=by rw[hx];exact⟨hfj.kind,hfj.bH,hfj.data,hfj.few,hfj.short,hfj.mode,by show(g j).links+1<65536;omega,hfj.names⟩
 have hM:=h.iP.ph.meta hj1 (x:=x) hxf (by rw[hx]) (by rw[hx]) (by rw[hx]);have hhead:=h.iP.ph.head j hj1;have hy:({aH S.cur j with links:=(aH S.cur j).links+1}:VI)=x.vi (aH S.cur j).aB:=by
  rw[hx]
  conv=>lhs;rw[hhead]
  rfl
 have hyl:(aH S.cur j).links=(g j).links:=by rw[hhead];rfl
 rw[<-hy]at hM;obtain⟨S1,hS1⟩:∃S1,S1=S.keep j {aH S.cur j with links:=(aH S.cur j).links+1}:=⟨_,rfl⟩;rw[<-hS1]at hM;rw[hx]at hM;have hL1:fC S S1:=by rw[hS1];exact(fC.refl S).keep _ _
 have hm1:S1.m=1:=by rw[hS1];show S.m+1=1;rw[h.m]
 have hF1:qU S.cur S1:=by rw[hS1];exact(qU.refl S).keep _ _
 have ad6:d2<S1.names:=by rw[hL1.names];exact he1
 have gd:dP g j {g j with links:=(g j).links+1} d2=g d2:=bR _ _ aw3;have hsz:(g d2).bH.length<448:=by have h1:=h.iP.ph.aaD he1;have h2:=h.iP.few;omega
 have ahZ:j<=65535:=by have:=h.iP.ph.qD;omega
 have hE:=hM.enter (dir:=d2) (n:=j) (name:=aL q) ad6 (by rw[gd];exact he2) (by rw[gd];exact hsz) F7 ahZ;rw[gd]at hE;have hfair:∀k<S.names,(dP (dP g j {g j with links:=(g j).links+1}) d2 ((g d2).more (aL q) j) k).fair:=fun k hk=>by
  by_cases e:k=d2
  ·rw[e,bM];exact LI.DW (h.iP.ph.fair d2 he1) he2 hsz F7 ahZ
  rw[bR _ _ e];exact hM.fair k (by rw[hL1.names];exact hk)
 have hch:∀T,zQ S j d2 (aL q)=some T->Chg S (dP (dP g j {g j with links:=(g j).links+1}) d2 ((g d2).more (aL q) j)) T:=fun T hT=>by unfold zQ at hT;rw[<-hS1]at hT;refine⟨hE.1 T hT,hL1.trans (wJ hT),?_⟩;have:=hM.N9 ad6 (by rw[gd];exact he2) hT;omega
 refine⟨⟨_,rfl,fun hx2=>.inl ?_,fun T hT=>⟨?_,by rw[jM,oL];omega,_,dn,φ,hch T hT,DI,fun _ _=>rfl⟩⟩,by rw[hyl];omega,h.iP.ph.sw,?_,?_,fun T hT=>?_⟩
 ·unfold zQ at hx2;rw[<-hS1]at hx2;have h1:=hE.2 hx2;rw[hL1.count,hL1.names]at h1;have h2:=D9 hfair;rw[DI.wB hfair]at h2;rw[h.iP.rB];omega
 ·unfold zQ at hT;rw[<-hS1]at hT;exact hF1.gV hT
 ·rw[<-hS1];exact hM.N8 ad6 (by rw[gd];exact he2) (by rw[gd];exact hsz) F7 ahZ
 ·rw[<-hS1];exact hM.sv
 have:=hch T hT;exact Z70
theorem Vt.ah0 (h:Vt S ns fs g dn φ) {j mode:Nat} (hj:j<S.names) (hm:mode<=511):Chg S (dP g j {g j with mode:=mode}) (sU S j mode):=by
 have hfj:=h.iP.ph.fair j hj;have hhead:=h.iP.ph.head j hj;have hxf:({g j with mode:=mode}:LI).fair:=⟨hfj.kind,hfj.bH,hfj.data,hfj.few,hfj.short,by show mode<65536;omega,hfj.links,hfj.names⟩;have hM:=h.iP.ph.meta hj (x:= {g j with mode:=mode}) hxf rfl rfl rfl;have hy:({aH S.cur j with mode:=mode}:VI)=({g j with mode:=mode}:LI).vi (aH S.cur j).aB:=by
  conv=>lhs;rw[hhead]
  rfl
 rw[<-hy]at hM;exact⟨hM,(fC.refl S).keep _ _,by show S.m+1<=40;rw[h.m];decide⟩
theorem Vt.ar5 (h:Vt S ns fs g dn φ) {n:TN} {mode:Nat} (hnm:n∈ns) (hf:n.file= -1) (hm:mode<=511):FC φ fs.length S (.ok (some (sU S (dn (bE n)) mode))) (⟨n.path, -1,mode⟩::qG ns (bE n)) fs:=by obtain⟨hj1,_⟩:=h.rep.dir n hnm hf;have hC:=h.ah0 hj1 hm;have hperm:=uK h.rep.uniq hnm;have hR:=(h.rep.perm hperm).aAN hf (mode:=mode);refine⟨_,rfl,fun e=>(by cases e),fun T hT=>?_⟩;cases hT;refine⟨(qU.refl S).keep _ _,?_,_,dn,φ,hC,hR,fun _ _=>rfl⟩;have h1:=hperm.length_eq;rw[kH]at h1 ⊢;have:=h.nodes;have:=h.iP.few;omega
theorem Vt.anN (h:Vt S ns fs g dn φ) {n:TN} {mode:Nat} (hnm:n∈ns) (hf:n.file≠ -1) (hm:mode<=511):FC φ fs.length S (.ok (some (sU S (φ n.file) mode))) ns (fs.set n.file.toNat ⟨mode,(g (φ n.file)).data⟩):=by obtain⟨_,hj1,_⟩:=h.rep.file n hnm hf;have hC:=h.ah0 hj1 hm;have hR:=h.rep.awX hnm hf (mode:=mode) (bs:=(g (φ n.file)).data);refine⟨_,rfl,fun e=>(by cases e),fun T hT=>?_⟩;cases hT;refine⟨(qU.refl S).keep _ _,?_,_,dn,φ,hC,hR,fun _ _=>rfl⟩;have:=h.nodes;have:=h.iP.few;omega
end
def kR (ns:List TN) (K:Key):Except Int TN:=match CG ns K with
 | .error e=>.error e
 | .ok none=>.error 21
 | .ok (some n)=>.ok n
def wD (ns:List TN) (K:Key):Except Int TN:=match kR ns K with
 | .error e=>.error e
 | .ok n=>if n.file= -1 then .error 24 else .ok n
def ES (ns:List TN) (K:Key):Int:=match CG ns K with
 | .error e=>e
 | .ok (some _)=>23
 | .ok none=>0
def rO (fs:List FT) (k:Int):List UInt8:=((fs[k.toNat]?).map (·.bs)).getD []
section
variable {S:VS} {g:LT} {ns:List TN} {fs:List FT} {dn:Key->Nat} {φ:Int->Nat}
theorem Vt.yB (h:Vt S ns fs g dn φ) {p:List UInt8} {d m:Nat} (hl:aU S.cur S.data 0 0 (splitB p)=((d:Int),(m:Int),0)):
  ∃n,CG ns (splitB p)= .ok (some n)/\d=dn (splitB p).dropLast/\m=dE dn φ n:=by
 have hL:=h.look p;rw[hl]at hL;cases ha:CG ns (splitB p)with
 |error e=>rw[ha]at hL;simp only at hL;have:=tX ha;have e1:(0:Int)=e:=congrArg (fun x:Int×Int×Int=>x.2.2) hL;omega
 |ok y=>
  cases y with
  |none=>rw[ha]at hL;simp only at hL;have e1:(m:Int)= -1:=congrArg (fun x:Int×Int×Int=>x.2.1) hL;omega
  |some n=>rw[ha]at hL;simp only at hL;have e1:(d:Int)=dn (splitB p).dropLast:=congrArg (fun x:Int×Int×Int=>x.1) hL;have e2:(m:Int)=dE dn φ n:=congrArg (fun x:Int×Int×Int=>x.2.1) hL;exact⟨n,rfl,by omega,by omega⟩
theorem Vt.WZ (h:Vt S ns fs g dn φ) {p:List UInt8} {d:Nat} (hl:aU S.cur S.data 0 0 (splitB p)=((d:Int), -1,0)):
  CG ns (splitB p)= .ok none/\d=dn (splitB p).dropLast:=by
 have hL:=h.look p;rw[hl]at hL;cases ha:CG ns (splitB p)with
 |error e=>rw[ha]at hL;simp only at hL;have e1:(-1:Int)=0:=congrArg (fun x:Int×Int×Int=>x.2.1) hL;omega
 |ok y=>
  cases y with
  |none=>rw[ha]at hL;simp only at hL;have e1:(d:Int)=dn (splitB p).dropLast:=congrArg (fun x:Int×Int×Int=>x.1) hL;exact⟨rfl,by omega⟩
  |some n=>rw[ha]at hL;simp only at hL;have e1:(-1:Int)=dE dn φ n:=congrArg (fun x:Int×Int×Int=>x.2.1) hL;omega
theorem Vt.JE (h:Vt S ns fs g dn φ) {n:TN} (hn:n∈ns):(aH S.cur (dE dn φ n)).kind=1↔n.file= -1:=by
 obtain⟨hk1,hk2⟩:=h.rep.MV hn;rw[h.iP.ph.kind hk1];rcases hk2 with⟨h1,h2⟩|⟨h1,h2⟩
 ·exact⟨fun _=>h1,fun _=>h2⟩
 exact⟨fun e=>(by rw[h2]at e;cases e),fun e=>absurd e h1⟩
theorem Vt.something (h:Vt S ns fs g dn φ) (p:List UInt8):dW (aU S.cur S.data 0 0 (splitB p))=match kR ns (splitB p)with| .error e=>some e| .ok _=>none:=by
 have hL:=h.look p;unfold kR;cases ha:CG ns (splitB p)with
 |error e=>rw[ha]at hL;simp only at hL;have:=tX ha;rw[hL];unfold dW;simp only;rw[if_neg aD]
 |ok y=>
  cases y with
  |none=>rw[ha]at hL;simp only at hL;rw[hL];rfl
  |some n=>rw[ha]at hL;simp only at hL;rw[hL];unfold dW;simp only;rw[if_pos trivial,if_neg aD]
theorem Vt.fileOf (h:Vt S ns fs g dn φ) (p:List UInt8):nP S.cur (aU S.cur S.data 0 0 (splitB p))=match wD ns (splitB p)with| .error e=>some e| .ok _=>none:=by
 have hL:=h.look p;unfold wD kR;cases ha:CG ns (splitB p)with
 |error e=>rw[ha]at hL;simp only at hL;have:=tX ha;rw[hL];unfold nP;simp only;rw[if_neg aD]
 |ok y=>
  cases y with
  |none=>rw[ha]at hL;simp only at hL;rw[hL];rfl
  |some n=>
   rw[ha]at hL;simp only at hL;obtain⟨_,hno,_⟩:=iT (S:=S) h.rep ha;have hk:=h.JE (eY hno.symm).1;rw[hL];unfold nP;simp only;rw[if_pos trivial,if_neg aD,nA];by_cases hf:n.file= -1
   ·rw[if_pos (hk.2 hf),if_pos hf]
   rw[if_neg (fun e=>hf (hk.1 e)),if_neg hf]
theorem Vt.nothing (h:Vt S ns fs g dn φ) (p:List UInt8):gP (aU S.cur S.data 0 0 (splitB p))=if ES ns (splitB p)=0 then none else some (ES ns (splitB p)):=by
 have hL:=h.look p;unfold ES;cases ha:CG ns (splitB p)with
 |error e=>rw[ha]at hL;simp only at hL;have:=tX ha;rw[hL];unfold gP;simp only;rw[if_neg aD,if_neg aD]
 |ok y=>
  cases y with
  |none=>rw[ha]at hL;simp only at hL;rw[hL];rfl
  |some n=>rw[ha]at hL;simp only at hL;rw[hL];unfold gP;simp only;rw[if_pos trivial,if_neg aD];rfl
end
def ad7 (ns:List TN) (fs:List FT) (op:Int) (p q:List UInt8) (mode:Nat) (bs:List UInt8):Except Int (List TN×List FT):=
 if op=1 then(if RF ns p=0 then .ok (yA ns fs 1 mode p,fs)else .error (RF ns p))
 else if op=2 then(match kR ns (splitB p)with
  | .error e=>.error e
  | .ok n=>if n.file≠ -1 then .error 22 else if 0<dM ns (splitB p)then .error 25 else .ok (qG ns (splitB p),fs))
 else if op=3 then(match wD ns (splitB p)with
  | .error e=>.error e
  | .ok n=>if ES ns (splitB q)=0 then .ok (qG ns (splitB p)++[⟨q,n.file,0⟩],fs)else .error (ES ns (splitB q)))
 else if op=4 then(match wD ns (splitB p)with
  | .error e=>.error e
  | .ok n=>if ES ns (splitB q)=0 then(if ns.length<256 then .ok (ns++[⟨q,n.file,0⟩],fs)else .error 31)else .error (ES ns (splitB q)))
 else if op=5 then(match wD ns (splitB p)with
  | .error e=>.error e
  | .ok n=>.ok (qG ns (splitB p),fs))
 else if op=6 then(if RF ns p=0 then .ok (yA ns fs 2 mode p,WT fs 2 mode bs)else .error (RF ns p))
 else if op=7 then(match wD ns (splitB p)with
  | .error e=>.error e
  | .ok n=>if ES ns (splitB q)=0 then(if ns.length<256 then .ok (yA ns fs 2 mode q,WT fs 2 mode (rO fs n.file))else .error 31)else .error (ES ns (splitB q)))
 else if op=8 then(match kR ns (splitB p)with
  | .error e=>.error e
  | .ok n=>if n.file= -1 then .ok (⟨n.path, -1,mode⟩::qG ns (splitB p),fs)else .ok (ns,fs.set n.file.toNat ⟨mode,rO fs n.file⟩))
 else .error 0
def AsT (φ:Int->Nat) (m:Nat) (S:VS) (r:Except Int (Option VS)):Except Int (List TN×List FT)->Prop
 | .error e=>r= .error e
 | .ok T=>FC φ m S r T.1 T.2
section
variable {S:VS} {g:LT} {ns:List TN} {fs:List FT} {dn:Key->Nat} {φ:Int->Nat}
theorem CJ {K:Key} {n:TN} (h:kR ns K= .ok n):CG ns K= .ok (some n):=by
 unfold kR at h;cases ha:CG ns K with
 |error e=>rw[ha]at h;cases h
 |ok y=>
  cases y with
  |none=>rw[ha]at h;cases h
  |some m=>rw[ha]at h;cases h;rfl
theorem JF {K:Key} {n:TN} (h:wD ns K= .ok n):CG ns K= .ok (some n)/\n.file≠ -1:=by
 unfold wD at h;cases ha:kR ns K with
 |error e=>rw[ha]at h;cases h
 |ok m=>
  rw[ha]at h;simp only at h;by_cases hf:m.file= -1
  ·rw[if_pos hf]at h;cases h
  rw[if_neg hf]at h;cases h;exact⟨CJ ha,hf⟩
theorem aaM {K:Key} (h:ES ns K=0):CG ns K= .ok none:=by
 unfold ES at h;cases ha:CG ns K with
 |error e=>rw[ha]at h;have:=tX ha;simp only at h;omega
 |ok y=>
  cases y with
  |none=>rfl
  |some m=>rw[ha]at h;cases h
theorem Vt.bytes (h:Vt S ns fs g dn φ) {n:TN} (hn:n∈ns) (hf:n.file≠ -1):rO fs n.file=(g (φ n.file)).data:=by obtain⟨_,_,_,⟨f,h4,_,h6⟩,_⟩:=h.rep.file n hn hf;unfold rO;rw[h4];exact h6.symm
theorem Vt.tY (h:Vt S ns fs g dn φ) {p:List UInt8} {n:TN} (ha:CG ns (splitB p)= .ok (some n)):aU S.cur S.data 0 0 (splitB p)=((dn (splitB p).dropLast:Int),(dE dn φ n:Int),0):=by have:=h.look p;rw[ha]at this;exact this
theorem Vt.ad8 (h:Vt S ns fs g dn φ) {p:List UInt8} (ha:CG ns (splitB p)= .ok none):aU S.cur S.data 0 0 (splitB p)=((dn (splitB p).dropLast:Int), -1,0):=by have:=h.look p;rw[ha]at this;exact this
theorem RY {n:TN} (hf:n.file≠ -1):dE dn φ n=φ n.file:=by unfold dE;rw[if_neg hf]
theorem ar6 {n:TN} (hf:n.file= -1):dE dn φ n=dn (bE n):=by unfold dE;rw[if_pos hf]
theorem Vt.azR (h:Vt S ns fs g dn φ) {op:Int} {p q:List UInt8} {mode:Nat} {bs:List UInt8} (hv:aV p=true)
  (hvq:op=3\/op=4\/op=7->aV q=true) (hm:mode<65536) (hb:op=6->bs.length<=8192):azI S op p q mode bs:=by
 refine⟨fun _ d hd hn=>?_,fun _ d m hm hd hk hz=>?_,fun e d m d2 hm hd hk he=>?_,fun e d m d2 hm hd hk he hn=>?_,fun _ d m hm hd hk=>?_,fun e d hd hn=>?_,fun e d m d2 hmm hd hk he hn=>?_,fun _ hm5=>⟨h.iP.ph.sw,fun d m hmm hd=>?_⟩⟩
 ·exact(h.new (kind:=1) (bs:=[]) (.inl ⟨rfl,rfl⟩) hv (dG hv) hm aR).1 d hd hn
 ·obtain⟨n,ha,rfl,rfl⟩:=h.yB hd;obtain⟨hP,hno,_⟩:=iT (S:=S) h.rep ha;have hn:=eY hno.symm;have hf:=(h.JE hn.1).1 hk;rw[ar6 hf,hn.2]at hz ⊢;have hD:dJ ns (splitB p):=.inr ⟨n,hn.1,hn.2,hf⟩;have h1:=(h.rep.wQ hD).2;rw[<-h.iP.ph.size (h.rep.AR hD).1,hz]at h1;exact(h.rmdir hv hno.symm hP hf (vS h1.symm)).2
 ·obtain⟨n,ha,rfl,rfl⟩:=h.yB hd;obtain⟨hP,hno,_⟩:=iT (S:=S) h.rep ha;obtain⟨hb2,rfl⟩:=h.WZ he;obtain⟨hQ,bZ,_⟩:=iT (S:=S) h.rep hb2;have hn:=eY hno.symm;(have hf:n.file≠ -1:=fun e=>hk ((h.JE hn.1).2 e));rw[RY hf];exact(h.rename hv (hvq aD) hno.symm hP hf hQ bZ.symm).2
 ·obtain⟨n,ha,rfl,rfl⟩:=h.yB hd;obtain⟨hP,hno,_⟩:=iT (S:=S) h.rep ha;obtain⟨hb2,rfl⟩:=h.WZ he;obtain⟨hQ,bZ,_⟩:=iT (S:=S) h.rep hb2;have hnm:=eY hno.symm;(have hf:n.file≠ -1:=fun e=>hk ((h.JE hnm.1).2 e));rw[RY hf];have:=h.nodes;exact(h.link (hvq aD) hnm.1 hf hQ bZ.symm aD).2
 ·obtain⟨n,ha,rfl,rfl⟩:=h.yB hd;obtain⟨hP,hno,_⟩:=iT (S:=S) h.rep ha;have hn:=eY hno.symm;(have hf:n.file≠ -1:=fun e=>hk ((h.JE hn.1).2 e));rw[RY hf];exact(h.ar4 hv hno.symm hP hf).2
 ·exact(h.new (kind:=2) (bs:=bs) (.inr rfl) hv (dG hv) hm (hb e)).1 d hd hn
 ·obtain⟨n,ha,rfl,rfl⟩:=h.yB hd;obtain⟨hP,hno,_⟩:=iT (S:=S) h.rep ha;have hnm:=eY hno.symm;(have hf:n.file≠ -1:=fun e=>hk ((h.JE hnm.1).2 e));obtain⟨_,hj1,hj2,_⟩:=h.rep.file n hnm.1 hf;have hd2:=h.iP.ph.data _ hj1 hj2;rw[RY hf]at hk ⊢;refine⟨h.iP.adP _ hj1 hk,?_⟩;rw[hd2];exact(h.new (kind:=2) (bs:=(g (φ n.file)).data) (.inr rfl) (hvq aD) (dG (hvq aD)) hm (h.iP.ph.fair _ hj1).short).1 d2 he hn
 have:=h.ah0 hmm hm5;exact Z70
theorem Vt.act (h:Vt S ns fs g dn φ) {op:Int} {p q:List UInt8} {mode:Nat} {bs:List UInt8} (hv:aV p=true)
  (hvq:op=3\/op=4\/op=7->aV q=true) (hm:op=1\/op=6\/op=7\/op=8->mode<=511) (hb:op=6->bs.length<=8192):AsT φ fs.length S (Q4 S op p q mode bs) (ad7 ns fs op p q mode bs):=by
 unfold Q4 ad7;by_cases h1:op=1
 ·simp only[if_pos h1];rcases(h.new (kind:=1) (mode:=mode) (bs:=[]) (.inl ⟨rfl,rfl⟩) hv (dG hv) (by have:=hm (.inl h1);omega) aR).2 with⟨h2,h3⟩|⟨h2,h3⟩
  ·rw[if_neg h2];exact h3
  rw[if_pos h2];exact h3
 simp only[if_neg h1];by_cases h2:op=2
 ·simp only[if_pos h2];unfold Q3;rw[h.something p];cases ha:kR ns (splitB p)with
  |error e=>exact rfl
  |ok n=>
   have ha2:=CJ ha;obtain⟨hP,hno,_⟩:=iT (S:=S) h.rep ha2;have hnm:=eY hno.symm;simp only;rw[h.tY ha2];simp only[nA];by_cases hf:n.file= -1
   ·rw[if_neg (show ¬(aH S.cur (dE dn φ n)).kind≠1 from fun e=>e ((h.JE hnm.1).2 hf)),if_neg (show ¬n.file≠ -1 from fun e=>e hf)];have hD:dJ ns (splitB p):=.inr ⟨n,hnm.1,hnm.2,hf⟩;have hz:=(h.rep.wQ hD).2;rw[<-h.iP.ph.size (h.rep.AR hD).1]at hz;rw[ar6 hf,hnm.2,hz];by_cases hk:0<dM ns (splitB p)
    ·rw[if_pos hk,if_pos hk];exact rfl
    rw[if_neg hk,if_neg hk];exact(h.rmdir hv hno.symm hP hf (vS (by unfold dM at hk;omega))).1
   rw[if_pos (show(aH S.cur (dE dn φ n)).kind≠1 from fun e=>hf ((h.JE hnm.1).1 e)),if_pos hf];exact rfl
 simp only[if_neg h2];by_cases h3:op=3
 ·simp only[if_pos h3];unfold IQ;rw[h.fileOf p];cases ha:wD ns (splitB p)with
  |error e=>exact rfl
  |ok n=>
   obtain⟨ha2,hf⟩:=JF ha;obtain⟨hP,hno,_⟩:=iT (S:=S) h.rep ha2;simp only;rw[h.nothing q];by_cases hva:ES ns (splitB q)=0
   ·rw[if_pos hva,if_pos hva];have hb2:=aaM hva;obtain⟨hQ,bZ,_⟩:=iT (S:=S) h.rep hb2;simp only;rw[h.tY ha2,h.ad8 hb2];simp only[nA];rw[RY hf];exact(h.rename hv (hvq aD) hno.symm hP hf hQ bZ.symm).1
   rw[if_neg hva,if_neg hva];exact rfl
 simp only[if_neg h3];by_cases h4:op=4
 ·simp only[if_pos h4];unfold adF;rw[h.fileOf p];cases ha:wD ns (splitB p)with
  |error e=>exact rfl
  |ok n=>
   obtain⟨ha2,hf⟩:=JF ha;obtain⟨hP,hno,_⟩:=iT (S:=S) h.rep ha2;have hnm:=eY hno.symm;simp only;rw[h.nothing q];by_cases hva:ES ns (splitB q)=0
   ·rw[if_pos hva,if_pos hva];have hb2:=aaM hva;obtain⟨hQ,bZ,_⟩:=iT (S:=S) h.rep hb2;simp only;have hnn:=h.nodes;by_cases hr:ns.length<256
    ·rw[if_pos (show S.nodes<256 by omega),if_pos hr,h.tY ha2,h.ad8 hb2];simp only[nA];rw[RY hf];exact(h.link (hvq aD) hnm.1 hf hQ bZ.symm hr).1
    rw[if_neg (show ¬S.nodes<256 by omega),if_neg hr];exact rfl
   rw[if_neg hva,if_neg hva];exact rfl
 simp only[if_neg h4];by_cases h5:op=5
 ·simp only[if_pos h5];unfold IP;rw[h.fileOf p];cases ha:wD ns (splitB p)with
  |error e=>exact rfl
  |ok n=>obtain⟨ha2,hf⟩:=JF ha;obtain⟨hP,hno,_⟩:=iT (S:=S) h.rep ha2;simp only;rw[h.tY ha2];simp only[nA];rw[RY hf];exact(h.ar4 hv hno.symm hP hf).1
 simp only[if_neg h5];by_cases h6:op=6
 ·simp only[if_pos h6];rcases(h.new (kind:=2) (mode:=mode) (bs:=bs) (.inr rfl) hv (dG hv) (by have:=hm (.inr (.inl h6));omega) (hb h6)).2 with⟨h7,h8⟩|⟨h7,h8⟩
  ·rw[if_neg h7];exact h8
  rw[if_pos h7];exact h8
 simp only[if_neg h6];by_cases h7:op=7
 ·simp only[if_pos h7];unfold aq7;rw[h.fileOf p];cases ha:wD ns (splitB p)with
  |error e=>exact rfl
  |ok n=>
   obtain⟨ha2,hf⟩:=JF ha;obtain⟨hP,hno,_⟩:=iT (S:=S) h.rep ha2;have hnm:=eY hno.symm;obtain⟨_,hj1,hj2,_⟩:=h.rep.file n hnm.1 hf;have hd2:=h.iP.ph.data _ hj1 hj2;have hnw:=(h.new (kind:=2) (mode:=mode) (p:=q) (bs:=(g (φ n.file)).data) (.inr rfl) (hvq aD) (dG (hvq aD)) (by have:=hm aD;omega) (h.iP.ph.fair _ hj1).short).2;simp only;rw[h.tY ha2];simp only[nA];rw[RY hf,hd2,h.bytes hnm.1 hf];unfold ND at hnw;rw[h.nothing q]at hnw ⊢;unfold RF at hnw;by_cases hva:ES ns (splitB q)=0
   ·have hb2:=aaM hva;rw[if_pos hva]at hnw ⊢;rw[if_pos hva];simp only[hb2]at hnw ⊢;have hnn:=h.nodes;by_cases hr:ns.length<256
    ·simp only[if_pos hr,if_pos (show S.nodes<256 by omega)]at hnw ⊢;rcases hnw with⟨h8,_⟩|⟨_,h9⟩
     ·exact absurd rfl h8
     exact h9
    simp only[if_neg hr,if_neg (show ¬S.nodes<256 by omega)]at hnw ⊢;exact rfl
   rw[if_neg hva,if_neg hva];exact rfl
 simp only[if_neg h7];by_cases h8:op=8
 ·simp only[if_pos h8];unfold QX;rw[h.something p];cases ha:kR ns (splitB p)with
  |error e=>exact rfl
  |ok n=>
   have ha2:=CJ ha;obtain⟨hP,hno,_⟩:=iT (S:=S) h.rep ha2;have hnm:=eY hno.symm;simp only;rw[h.tY ha2];simp only[nA];by_cases hf:n.file= -1
   ·rw[if_pos hf,ar6 hf];have:=h.ar5 hnm.1 hf (hm aD);rw[hnm.2]at this ⊢;exact this
   rw[if_neg hf,RY hf,h.bytes hnm.1 hf];exact h.anN hnm.1 hf (hm aD)
 simp only[if_neg h8];exact rfl
end
open Go.RowKit
section
variable {w0 w:World} {R:List aW} {f q p:Nat} {S:VS} {ns:List TN} {fs:List FT} {nb names:Nat}
structure jC (S:VS) (ns:List TN) (fs:List FT) (nb names:Nat):Prop where
 iP:qF S ns fs nb names
 off:S.D.off=false
 left:S.D.left= -1
theorem ad9 {n names:Nat} (h0:98+(names+7)/8<n) (h1:n<=4096) (h2:2<=names) (h3:names<=1024):jC (VS.new n names) [] [] n names:=
 ⟨⟨rfl,rfl,_,_,_,aAT h0 h1 h2 h3⟩,(RU n names).2.1,(RU n names).2.2⟩
theorem jC.base (h:jC S ns fs nb names):jC S.base ns fs nb names:=⟨h.iP.base,h.off,h.left⟩
theorem jC.ends {r:Except Int (Option VS)} {ns':List TN} {fs':List FT} {x:Int} {g:LT} {dn:Key->Nat} {φ:Int->Nat} (hL:jC S ns fs nb names) (hV:Vt S.base ns fs g dn φ) (hok:S.D.ok S.nb) (NU:96<S.nb) (hD:FC φ fs.length S.base r ns' fs') (h:wC f q p S.base r w0 w R x):
  if qE nb names ns' fs'=true then x=0/\∃S',jC S' ns' fs' nb names/\ar3 S S' ns' fs' φ fs.length/\Sep w0 w (bB f q p S'::R)
  else x=27/\∃S',jC S' ns fs nb names/\ar3 S S' ns fs φ fs.length/\Sep w0 w (bB f q p S'::R):=by
 have h1:=hL.iP.ends hV hok NU hD h;split
 ·rename_i hf;rw[if_pos hf]at h1;rcases h1 with⟨hx,S',hV',hI,hl,hS⟩|⟨_,h2,_⟩
  ·obtain⟨l1,l2⟩:=hl hL.off (by rw[hL.left];decide);exact⟨hx,S',⟨hV',l1,l2.trans hL.left⟩,hI,hS⟩
  exact absurd ⟨hL.off,by rw[hL.left];decide⟩ h2
 rename_i hf;rw[if_neg hf]at h1;exact⟨h1.1,S.base,hL.base,⟨.inl rfl,g,dn,φ,hV,fun _ _=>rfl⟩,h1.2⟩
theorem aFA (hL:jC S ns fs nb names) (h:Sep w0 w (bB f q p S::R)):
  Calls Tryz.prog 42 #[pV f] w fun e w'=>e= .returned (iW (qV nb names) names)/\w'=w:=by
 obtain⟨g,dn,φ,hV⟩:=hL.iP.vt;have hrB:S.rB=qV nb names:=by have:=hV.iP.rB;rw[show S.rB=S.base.rB from rfl,this];(show((S.nb-96-(2+(S.names+7)/8):Nat):Int)=_);rw[hL.iP.nm,hL.iP.nbe];rfl
 have hrI:S.rI=names:=by have:=hV.iP.rI;rw[show S.rI=S.base.rI from rfl,this];(show(S.names:Int)=_);rw[hL.iP.nm]
 have:=WR h;rw[hrB,hrI]at this;exact this
end
structure ar7 where
 e:Int
 ns:List TN
 fs:List FT
def wS (nb names:Nat) (ns:List TN) (fs:List FT):Except Int (List TN×List FT)->ar7
 | .error k=>⟨k,ns,fs⟩
 | .ok T=>if qE nb names T.1 T.2=true then⟨0,T.1,T.2⟩else⟨27,ns,fs⟩
def doX (nb names:Nat) (ns:List TN) (fs:List FT) (op:Int) (p q:List UInt8) (mode kk:Int) (n:Nat) (bs:List UInt8):ar7:=
 if N7 op p q mode kk n bs.length=0 then wS nb names ns fs (if op=9 then .error 0 else ad7 ns fs op p q mode.toNat bs)else⟨N7 op p q mode kk n bs.length,ns,fs⟩
section
variable {w0 w:World} {R:List aW} {f q p:Nat} {S:VS} {ns:List TN} {fs:List FT} {nb names:Nat}
theorem jC.asT {r:Except Int (Option VS)} {A:Except Int (List TN×List FT)} {x:Int} {g:LT} {dn:Key->Nat} {φ:Int->Nat} (hL:jC S ns fs nb names) (hV:Vt S.base ns fs g dn φ) (hok:S.D.ok S.nb) (NU:96<S.nb) (hA:AsT φ fs.length S.base r A) (h:wC f q p S.base r w0 w R x):
  x=(wS nb names ns fs A).e/\∃S',jC S' (wS nb names ns fs A).ns (wS nb names ns fs A).fs nb names/\ar3 S S' (wS nb names ns fs A).ns (wS nb names ns fs A).fs φ fs.length/\Sep w0 w (bB f q p S'::R):=by
 cases A with
 |error k=>have hr:r= .error k:=hA;rw[hr]at h;exact⟨h.1,S.base,hL.base,⟨.inl rfl,g,dn,φ,hV,fun _ _=>rfl⟩,h.2⟩
 |ok T=>
  have h1:=hL.ends hV hok NU hA h;unfold wS;simp only;split
  ·rename_i hf;rw[if_pos hf]at h1;exact h1
  rename_i hf;rw[if_neg hf]at h1;exact h1
theorem Z11 {P:Prop} (h:P:=by
 rcases facts h0 with rfl|⟨h9,hv,hvq,hm,hb⟩
 ·exact⟨fun e=>absurd e aR,fun e=>absurd e aR,fun e=>absurd e aR,fun e=>absurd e aR,fun e=>absurd e aR,fun e=>absurd e aR,fun e=>absurd e aR,fun e=>absurd e aR⟩
 by_cases hm5:mode.toNat<65536
 ·exact hV.azR hv hvq hm5 hb
 have hno:¬(op=1\/op=6\/op=7\/op=8):=fun e=>by have:=hm e;omega
 have h2:=hV.azR (op:=op) (mode:=0) (bs:=bs) hv hvq aR hb;exact⟨fun e=>absurd (.inl e) hno,h2.rm,h2.mv,h2.ln,h2.un,fun e=>absurd (.inr (.inl e)) hno,fun e=>absurd (.inr (.inr (.inl e))) hno,fun e=>absurd (.inr (.inr (.inr e))) hno⟩):P:=h
theorem Z66 {P:Prop} (h:P:=by
 rcases akQ h0 with h9|⟨_,h9,hk⟩
 ·exact .inl h9
 refine .inr ⟨h9,hk.valid,fun e=>hk.FZ ?_,fun e=>?_,fun e=>(hk.data e).2.2⟩
 ·rcases e with rfl|rfl|rfl<;>rfl
 have:=hk.mode (by rcases e with rfl|rfl|rfl|rfl<;>rfl);omega):P:=h
theorem Z85 {P:Prop} (h:P:=by
 rcases facts h0 with rfl|⟨h9,hv,hvq,hm,hb⟩
 ·exact rfl
 rw[if_neg h9];exact hV.act hv hvq hm hb):P:=h
theorem doI {g:LT} {dn:Key->Nat} {φ:Int->Nat} {op mode kk:Int} {path tz bs:List UInt8} {A:Option Addr} {n c:Nat} (hL:jC S ns fs nb names) (hV:Vt S.base ns fs g dn φ) (hp:path.length<=9223372036854775807) (ht:tz.length<=9223372036854775807) (hn:n<=9223372036854775807) (hlen:bs.length<=9223372036854775807)
  (hop: -9223372036854775808<=op/\op<=9223372036854775807) (hst:tV w0 R A n kk bs) (h:Sep w0 w (bB f q p S::R)):
  Calls Tryz.prog 18 #[pV f,.agg #[iV op,aC path,aC tz,iV mode,iV kk],.slice A n c] w fun e w'=>
   e= .returned (.int .i64 (doX nb names ns fs op path tz mode kk n bs).e)/\∃S',jC S' (doX nb names ns fs op path tz mode kk n bs).ns (doX nb names ns fs op path tz mode kk n bs).fs nb names/\ar3 S S' (doX nb names ns fs op path tz mode kk n bs).ns (doX nb names ns fs op path tz mode kk n bs).fs φ fs.length/\Sep w0 w' (bB f q p S'::R):=by
 have hok:=IY h
 have NU:=ad5 h
 have facts:N7 op path tz mode kk n bs.length=0->op=9\/(op≠9/\aV path=true/\(op=3\/op=4\/op=7->aV tz=true)/\(op=1\/op=6\/op=7\/op=8->mode.toNat<=511)/\(op=6->bs.length<=8192)):=fun h0=>by exact Z66
 refine(arC (op:=op) (mode:=mode) (kk:=kk) (path:=path) (tz:=tz) (bs:=bs) hp ht hn hlen hL.off hop hst hV.iP.vw (fun h0=>?_) h).mono ?_
 ·exact Z11
 ·rintro e w' ⟨x,rfl,hE⟩;unfold doR at hE;unfold doX;by_cases h0:N7 op path tz mode kk n bs.length=0
  ·rw[if_pos h0]at hE ⊢;(have hA:AsT φ fs.length S.base (Q4 S.base op path tz mode.toNat bs) (if op=9 then .error 0 else ad7 ns fs op path tz mode.toNat bs):=by exact Z85);obtain⟨h1,h2⟩:=hL.asT hV hok NU hA hE;rw[h1];exact⟨rfl,h2⟩
  rw[if_neg h0]at hE ⊢;exact⟨by rw[hE.1],S.base,hL.base,⟨.inl rfl,g,dn,φ,hV,fun _ _=>rfl⟩,hE.2⟩
theorem doT {op mode kk:Int} {path tz bs:List UInt8} {A:Option Addr} {n c:Nat} (hL:jC S ns fs nb names) (hp:path.length<=9223372036854775807) (ht:tz.length<=9223372036854775807) (hn:n<=9223372036854775807) (hlen:bs.length<=9223372036854775807)
  (hop: -9223372036854775808<=op/\op<=9223372036854775807) (hst:tV w0 R A n kk bs) (h:Sep w0 w (bB f q p S::R)):
  Calls Tryz.prog 18 #[pV f,.agg #[iV op,aC path,aC tz,iV mode,iV kk],.slice A n c] w fun e w'=>
   e= .returned (.int .i64 (doX nb names ns fs op path tz mode kk n bs).e)/\∃S',jC S' (doX nb names ns fs op path tz mode kk n bs).ns (doX nb names ns fs op path tz mode kk n bs).fs nb names/\Sep w0 w' (bB f q p S'::R):=by
 obtain⟨g,dn,φ,hV⟩:=hL.iP.vt
 refine(doI hL hV hp ht hn hlen hop hst h).mono ?_
 rintro e w' ⟨h1,S',h2,_,h3⟩
 exact⟨h1,S',h2,h3⟩
end
end Go.Proofs.YtmjomdkleikgbaaGreat
namespace Go.Proofs.YtmjomdkleikgbaaGreat
open Go.RowKit Go.Shelf
attribute [local go_sem] Oper.semAt_some
end Go.Proofs.YtmjomdkleikgbaaGreat
namespace Go.Proofs.YtmjomdkleikgbaaGreat
open Go.RowKit
theorem DK.yC (D:DK) (n:Int):(D.RL n).now=D.now/\(D.RL n).back=D.back:=by
 unfold DK.RL;split
 ·exact⟨rfl,rfl⟩
 split<;>exact⟨rfl,rfl⟩
section
variable {w0 w:World} {R:List aW} {f q p:Nat} {S:VS} {ns:List TN} {fs:List FT} {nb names:Nat}
theorem XA {sb:Option Nat} {SM:BM} {fo:Option Nat} {D:DK} (hR:VR S sb SM) (hok:D.ok S.nb) (UQ:D.now=S.D.now) (hb:D.back=[]) (h:Sep w0 w (aO p D::kF f q S sb (.map fo) false::aG q p false::dY sb SM::R)):Sep w0 w (bB f q p {S with D:=D}::R):=
 Sep.DV (S:= {S with D:=D}) (sb:=sb) (SM:=SM) (fo:=fo) ⟨hok,hR.big,fun x hx=>by have:=hR.seen x hx;rw[<-UQ]at this;exact this,hR.none,hb⟩ (Sep.dB [1,2,0,3] h aR (by simp[kF]))
theorem qF.swap (h:qF S ns fs nb names) {D:DK} (UQ:D.now=S.D.now):qF {S with D:=D} ns fs nb names:=by
 obtain⟨g,dn,φ,hV⟩:=h.vt;refine⟨h.nm,h.nbe,g,dn,φ,?_⟩;have e:S.base.cur=({S with D:=D}:VS).base.cur:=by show S.D.now.drop 96=D.now.drop 96;rw[UQ]
 exact Vt.of (hV.iP.ph.same rfl rfl e.symm rfl rfl rfl) hV.rep rfl (by have:=hV.nodes;have:=hV.iP.few;omega) hV.iP.rB hV.iP.rI rfl
theorem anO (n:Int) (hn:n<=9223372036854775807) (hL:qF S ns fs nb names) (h:Sep w0 w (bB f q p S::R)):
  Calls Tryz.prog 23 #[pV p,iV n] w fun e w'=>(∃v,e= .returned v)/\∃S',qF S' ns fs nb names/\Sep w0 w' (bB f q p S'::R):=by
 obtain⟨sb,SM,fo,hR,h1⟩:=h.mF;have h2:Sep w0 w (aO p S.D::kF f q S sb (.map fo) false::aG q p false::dY sb SM::R):=Sep.dB [2,0,1,3] h1 aR (by simp[kF]);refine(adV hR.nV n h2).mono ?_;rintro e w' ⟨rfl,h3⟩;exact⟨⟨_,rfl⟩,_,hL.swap (DK.yC _ _).1,XA hR (DK.akY hR.nV hn) (DK.yC _ _).1 ((DK.yC _ _).2.trans hR.back) h3⟩
end
def rdX (ns:List TN) (path:List UInt8):Int:=if dX path=0 then(match wD ns (splitB path)with| .error e=>e| .ok _=>0)else dX path
def rdB (ns:List TN) (fs:List FT) (path:List UInt8):List UInt8:=if dX path=0 then(match wD ns (splitB path)with| .error _=>[]| .ok n=>rO fs n.file)else []
section
variable {w0 w:World} {R:List aW} {f q p:Nat} {S:VS} {ns:List TN} {fs:List FT} {nb names:Nat}
theorem ar8 {K:Key} {e:Int} (h:wD ns K= .error e):e≠0:=by
 unfold wD kR at h;cases ha:CG ns K with
 |error k=>rw[ha]at h;cases h;have:=tX ha;omega
 |ok y=>
  rw[ha]at h;cases y with
  |none=>cases h;decide
  |some n=>
   simp only at h;split at h
   ·cases h;decide
   cases h
theorem Vt.read {g:LT} {dn:Key->Nat} {φ:Int->Nat} (h:Vt S ns fs g dn φ) (path:List UInt8):zU S path=rdX ns path/\Q6 S path=rdB ns fs path:=by
 have hX:zU S path=rdX ns path:=by
  unfold zU rdX;split
  ·rw[h.fileOf path];cases wD ns (splitB path)<;>rfl
  rfl
 refine⟨hX,?_⟩;unfold Q6;rw[hX];unfold rdX rdB;by_cases hE:dX path=0
 ·rw[if_pos hE,if_pos hE];cases ha:wD ns (splitB path)with
  |error e=>simp only;rw[if_neg (ar8 ha)]
  |ok n=>simp only;rw[if_pos trivial];obtain⟨ha2,hf⟩:=JF ha;obtain⟨_,hno,_⟩:=iT (S:=S) h.rep ha2;have hnm:=eY hno.symm;obtain⟨_,hj1,hj2,_⟩:=h.rep.file n hnm.1 hf;rw[h.tY ha2];simp only[nA];rw[RY hf,h.iP.ph.data _ hj1 hj2,h.bytes hnm.1 hf]
 rw[if_neg hE,if_neg hE,if_neg hE]
end
def lsX (ns:List TN) (path:List UInt8):Int:=if path=[]then 0 else if dX path=0 then(match kR ns (splitB path)with| .error e=>e| .ok n=>if n.file= -1 then 0 else 22)else dX path
def U4 (path:List UInt8):Key:=if path=[]then []else splitB path
def lsN (ns:List TN) (path:List UInt8):List (List UInt8):=if lsX ns path=0 then(eP ns (U4 path)).map fun n=>(bE n).getLastD []else []
section
variable {w0 w:World} {R:List aW} {f q p:Nat} {S:VS} {ns:List TN} {fs:List FT} {nb names:Nat}
theorem K6 {K:Key} {e:Int} (h:kR ns K= .error e):e≠0:=by
 unfold kR at h;cases ha:CG ns K with
 |error k=>rw[ha]at h;cases h;have:=tX ha;omega
 |ok y=>
  rw[ha]at h;cases y with
  |none=>cases h;decide
  |some n=>cases h
theorem Vt.list {g:LT} {dn:Key->Nat} {φ:Int->Nat} (h:Vt S ns fs g dn φ) (path:List UInt8):kX S path=lsX ns path/\(mX S path).Perm (lsN ns path)/\(mX S path).Pairwise fun x y=>x<=y:=by
 have hsort:(mX S path).Pairwise fun x y=>x<=y:=by
  unfold mX;split
  ·exact arL _
  exact List.Pairwise.nil
 have key:∀K,dJ ns K->(zW ((jX S.cur S.data (aH S.cur (dn K))).map (·.1))).Perm ((eP ns K).map fun n=>(bE n).getLastD []):=fun K hK=>by obtain⟨hd1,hd2⟩:=h.rep.AR hK;rw[h.iP.ph.bH _ hd1 hd2];refine(RI _).trans ?_;have h2:=(h.rep.bH K hK).map (·.1);rw[qO]at h2;exact h2
 by_cases e0:path=[]
 ·have hk:=h.iP.akT;(have hX:kX S path=0:=by unfold kX;rw[if_pos e0,if_pos hk]);(have hX2:lsX ns path=0:=by unfold lsX;rw[if_pos e0]);refine⟨hX.trans hX2.symm,?_,hsort⟩;have hk0:=key [] (.inl rfl);rw[h.rep.root]at hk0;unfold mX akX lsN U4;rw[if_pos hX,if_pos e0,if_pos hX2,if_pos e0];exact hk0
 by_cases hE:dX path=0
 ·have hsm:=h.something path;cases ha:kR ns (splitB path)with
  |error e=>rw[ha]at hsm;simp only at hsm;(have hX:kX S path=e:=by unfold kX;rw[if_neg e0,if_pos hE,hsm]);(have hX2:lsX ns path=e:=by unfold lsX;rw[if_neg e0,if_pos hE,ha]);have hne:=K6 ha;refine⟨hX.trans hX2.symm,?_,hsort⟩;unfold mX lsN;rw[hX,hX2,if_neg hne,if_neg hne]
  |ok n=>
   rw[ha]at hsm;simp only at hsm;have ha2:=CJ ha;obtain⟨_,hno,_⟩:=iT (S:=S) h.rep ha2;have hnm:=eY hno.symm;have hlk:=h.tY ha2;have hkd:=h.JE hnm.1;by_cases hf:n.file= -1
   ·(have hX:kX S path=0:=by unfold kX;rw[if_neg e0,if_pos hE,hsm,hlk];simp only[nA];rw[if_pos (hkd.2 hf)]);(have hX2:lsX ns path=0:=by unfold lsX;rw[if_neg e0,if_pos hE,ha];simp only;rw[if_pos hf]);refine⟨hX.trans hX2.symm,?_,hsort⟩;have hk0:=key (splitB path) (.inr ⟨n,hnm.1,hnm.2,hf⟩);unfold mX akX lsN U4;rw[if_pos hX,if_neg e0,if_pos hX2,if_neg e0,hlk];simp only[nA];rw[ar6 hf,hnm.2];exact hk0
   (have hX:kX S path=22:=by unfold kX;rw[if_neg e0,if_pos hE,hsm,hlk];simp only[nA];rw[if_neg (fun e=>hf (hkd.1 e))]);(have hX2:lsX ns path=22:=by unfold lsX;rw[if_neg e0,if_pos hE,ha];simp only;rw[if_neg hf]);refine⟨hX.trans hX2.symm,?_,hsort⟩;unfold mX lsN;rw[hX,hX2,if_neg aR,if_neg aR]
 have hX:kX S path=dX path:=by unfold kX;rw[if_neg e0,if_neg hE]
 have hX2:lsX ns path=dX path:=by unfold lsX;rw[if_neg e0,if_neg hE]
 refine⟨hX.trans hX2.symm,?_,hsort⟩;unfold mX lsN;rw[hX,hX2,if_neg hE,if_neg hE]
theorem aFB {path:List UInt8} (hL:jC S ns fs nb names) (hp:path.length<=9223372036854775807) (h:Sep w0 w (bB f q p S::R)):
  Calls Tryz.prog 40 #[pV f,aC path] w fun e w'=>∃v l S',e= .returned (.tuple #[v,iV (lsX ns path)])/\l.Perm (lsN ns path)/\(l.Pairwise fun x y=>x<=y)/\jC S' ns fs nb names/\Sep w0 w' (tF v l::bB f q p S'::R):=by
 obtain⟨g,dn,φ,hV⟩:=hL.iP.vt;obtain⟨h1,h2,h3⟩:=hV.list path;refine(RJ hp hL.off hV.iP.vw hV.iP.akT h).mono ?_;rintro e w' ⟨v,rfl,hS⟩;rw[h1];exact⟨v,_,S.base,rfl,h2,h3,hL.base,hS⟩
end
end Go.Proofs.YtmjomdkleikgbaaGreat
