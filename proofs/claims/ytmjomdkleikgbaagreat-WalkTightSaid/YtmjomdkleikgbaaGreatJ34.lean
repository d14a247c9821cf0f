/- Parts. -/
import Derived.Test.YtmjomdkleikgbaaGreatJ33
import Derived.Sort.LoopGhostIn
set_option linter.unusedVariables false
set_option linter.unusedSimpArgs false
set_option maxRecDepth 100000
set_option maxHeartbeats 20000000
namespace Go.Proofs.YtmjomdkleikgbaaGreat
open Go.RowKit Go.Shelf
attribute [local go_sem] Oper.semAt_some
structure Stats where
 k:TN->Int
 m:TN->Int
 l:TN->Int
 s:TN->Int
 i:TN->Int
def Stats.v (σ:Stats) (n:TN):Value:=.agg #[iV (σ.k n),iV (σ.m n),iV (σ.l n),iV (σ.s n),iV (σ.i n)]
structure ahW (St:List TN->List aZ->World->Prop) (ns:List TN) (f:Nat) (σ:Stats):Prop where
 sh:Shared St
 list:∀V Y W d,dI ns (WJ d)->d.length<=200->St V Y W->Calls Tryz.prog 40 #[pV f,aC d] W fun e w'=>∃(v:Value) (ks:List TN),e= .returned (.tuple #[v,iV 0])/\ks.Perm (eX ns (WJ d))/\St V (lF v (ks.map fun n=>(bD n).getLastD [])::Y) w'
 stat:∀V Y W n,n∈ns->St V Y W->Calls Tryz.prog 79 #[pV f,aC n.path] W fun e w'=>e= .returned (.tuple #[σ.v n,iV 0])/\St V Y w'
 kind:∀n∈ns,σ.k n=if n.file= -1 then 1 else 2
theorem ar6 (d x:List UInt8):((⟨d.toArray⟩++⟨#[47]⟩:ByteArray)++⟨x.toArray⟩)=⟨(d++47::x).toArray⟩:=by
 have e:((⟨d.toArray⟩++⟨#[47]⟩:ByteArray)++⟨x.toArray⟩).data.toList=d++47::x:=by simp
 generalize((⟨d.toArray⟩++⟨#[47]⟩:ByteArray)++⟨x.toArray⟩)=t at e;obtain⟨⟨l⟩⟩:=t;simp at e;rw[e]
def sP (V:List TN):List (List UInt8):=(V.filter fun n=>decide (n.file= -1)).map (·.path)
theorem ar7 {V:List TN} (h:∀n∈V,n.path≠[]):(sP V).map WJ=vF V:=by
 unfold sP vF;rw[qJ];apply uH;intro n hn;show WJ n.path=bD n
 unfold WJ bD;rw[if_neg (h n (List.mem_filter.1 hn).1)]
theorem XG (V:List TN) (n:TN):sP (V++[n])=if n.file= -1 then sP V++[n.path]else sP V:=by
 unfold sP;rw[E9,mV];by_cases h:n.file= -1
 ·rw[if_pos h];simp[h]
 rw[if_neg h];simp[h]
theorem ar8 (V:List TN):(sP V).length<=V.length:=by unfold sP;rw[iM];exact NV _ _
def DY (bf be eb f:Nat) (x:Int):List aZ:=[.box bf 37 #[pV f],.box be 96 #[pV eb],aJ eb x]
section
variable {St:List TN->List aZ->World->Prop} {bf be eb f:Nat} {xe:Int} {V:List TN} {X Z:List aZ} {W:World}
theorem vH (hS:Shared St) (h:St V (X++(DY bf be eb f xe++Z)) W):W.cell? ⟨bf,0,none⟩=some (pV f)/\W.cell? ⟨be,0,none⟩=some (pV eb)/\W.cell? ⟨eb,0,none⟩=some (iV xe)/\W.frozen? ⟨eb,0,none⟩=false:=by
 obtain⟨w0,R,h1,_⟩:=hS _ _ _ h;have e:∀k A,(DY bf be eb f xe)[k]? =some A->((X++(DY bf be eb f xe++Z))++R)[X.length+k]? =some A:=fun k A hk=>by have hl:=(gF.1 hk).1;rw[pJ,vM (Nat.le_add_right _ _),JM,pJ,D6 hl];exact hk
 exact⟨h1.bC _ (e 0 _ rfl) 0,h1.bC _ (e 1 _ rfl) 0,h1.bC _ (e 2 _ rfl) 0,h1.bF _ (e 2 _ rfl) 0⟩
theorem ad6 (hS:Shared St) (x:Int) (h:St V (X++(DY bf be eb f xe++Z)) W):St V (X++(DY bf be eb f x++Z)) (W.setCell ⟨eb,0,none⟩ (.int .i64 x)):=by
 obtain⟨w0,R,h1,h2⟩:=hS _ _ _ h;have e:((X++(DY bf be eb f xe++Z))++R)[X.length+2]? =some (aJ eb xe):=by rw[pJ,vM (Nat.le_add_right _ _),JM];rfl
 have h3:=h1.bS _ e 0 (.int .i64 x);refine h2 _ _ ?_;have e2:((X++(DY bf be eb f xe++Z))++R).set (X.length+2) (.box eb 40 (#[Value.int .i64 xe].setIfInBounds 0 (.int .i64 x)))=(X++(DY bf be eb f x++Z))++R:=by simp only[pJ];rw[aa4 _ _ (Nat.le_add_right _ _),JM];rfl
 rw[<-e2];exact h3
end
theorem ar9 {St:List TN->List aZ->World->Prop} {V:List TN} {Y:List aZ} {W:World} {b:Nat} {t:TypeId} {c0 c1 c2 c3 c4 v0 v1 v2 v3 v4:Value} (hS:Shared St) (h:St V (.box b t #[c0,c1,c2,c3,c4]::Y) W):
  St V (.box b t #[v0,v1,v2,v3,v4]::Y) (((((W.setCell ⟨b,0,none⟩ v0).setCell ⟨b,1,none⟩ v1).setCell ⟨b,2,none⟩ v2).setCell ⟨b,3,none⟩ v3).setCell ⟨b,4,none⟩ v4):=by
 obtain⟨w0,R,h1,h2⟩:=hS _ _ _ h;exact h2 _ _ (((((h1.bS 0 rfl 0 v0).bS 0 rfl 1 v1).bS 0 rfl 2 v2).bS 0 rfl 3 v3).bS 0 rfl 4 v4)
theorem ad7 {St:List TN->List aZ->World->Prop} {V:List TN} {Y:List aZ} {W:World} {b:Nat} {t:TypeId} {c0 c1 c2 c3 c4:Value} (hS:Shared St) (h:St V (.box b t #[c0,c1,c2,c3,c4]::Y) W):
  W.cell? ⟨b,0,none⟩=some c0/\W.cell? ⟨b,1,none⟩=some c1/\W.cell? ⟨b,2,none⟩=some c2/\W.cell? ⟨b,3,none⟩=some c3/\W.cell? ⟨b,4,none⟩=some c4/\∀j,W.frozen? ⟨b,j,none⟩=false:=by
 obtain⟨w0,R,h1,_⟩:=hS _ _ _ h;exact⟨h1.bC 0 rfl 0,h1.bC 0 rfl 1,h1.bC 0 rfl 2,h1.bC 0 rfl 3,h1.bC 0 rfl 4,h1.bF 0 rfl⟩
theorem asA {St:List TN->List aZ->World->Prop} {ns:List TN} {f:Nat} {σ:Stats} (hSt:ahW St ns f σ) (hu:(ns.map bD).Nodup) (hup:∀n∈ns,dI ns (bD n).dropLast) (hlen:∀n∈ns,n.path.length<=200) (hne:∀n∈ns,n.path≠[]) (l5:ns.length<=300)
  (l bf be eb n:Nat) (x0:Int) (Z:List aZ) (W:World)
  (hY:∀pre x Y W1,x∈ns->pre.length<ns.length->St pre (Y++Z) W1->YieldAt Fence.wide (n-1) Tryz.prog l #[aC x.path,σ.v x] W1 fun e W'=>e= .returned (.bool true)/\St (pre++[x]) (Y++Z) W')
  (h0:St [] (DY bf be eb f x0++Z) W):
  CallsIn Fence.wide n Tryz.prog 130 #[.func (.yield l) #[] #[],pV bf,pV be] W fun e W'=>(∃v,e= .returned v)/\∃xs,xs.Perm ns/\St xs (DY bf be eb f 0++Z) W':=by
 have hsh:=hSt.sh;have h1:St [] (.box W.heap.size 181 #[.slice none 0 0]::(DY bf be eb f x0++Z)) (W.alloc (.cells #[.slice none 0 0] 181)):=hsh.new h0 _;obtain⟨w0,R0,h2,h3⟩:=hsh _ _ _ h1;have h4:=h2.iO 9 1;have hps:=Lh (ad4 (x:=[]) (T:=[]) (h4.perm (List.Perm.swap _ _ _)) aV);have hcl:Hid (∀W' v',Sep w0 W' (.box W.heap.size 181 #[v']::lF v' ([]++[[]])::((DY bf be eb f x0++Z)++R0))->St [] (.box W.heap.size 181 #[v']::lF v' [[]]::(DY bf be eb f x0++Z)) W'):=Lh fun W' v' h=>h3 (.box W.heap.size 181 #[v']::lF v' [[]]::(DY bf be eb f x0++Z)) W' h
 clear h1 h2 h3 h4 h0;have hY':=Lh hY;have awJ:=Lh hSt;clear hY hSt;have aEX:Hid (∀V tv xe W,St V (.box W.heap.size 181 #[tv]::lF tv []::(DY bf be eb f xe++Z)) W->True):=Lh fun _ _ _ _ _=>trivial
 clear aEX;unfold aC at*;refine callsIn_of_wp Tryz.func130 rfl trivial ?_ rfl;simp only[Tryz.ntmps130,kE,kR,rT,Nat.reduceAdd,Nat.reduceSub,zL,zM,zO,zN,nG,kW]
 gi_wp2_with (refine⟨trivial,(fun h=>by cases h),?_⟩;gi_at_call 131;refine(callsIn_wide.2 hps.out).mono ?_;rintro e w1 ⟨rfl,v1,h⟩;have h5:=Lh (hcl.out _ _ h);clear h)
 obtain⟨bt,hbt⟩:∃bt,bt=W.heap.size:=⟨_,rfl⟩;rw[<-hbt]at h5 ⊢;clear hps hcl hbt
 gi_loopg [] (ns.length+1) (fun gg wr=>∃(V:List TN) (T:List (List UInt8)) (P:List Key) (tv:Value) (xe:Int),gg+P.length=ns.length+1/\Hid (nP ns V (T.map WJ) P/\(∀d∈T,d.length<=200)/\(P≠[]->xe=0))/\Hid (St V (.box bt 181 #[tv]::lF tv T::(DY bf be eb f xe++Z)) wr))
 case atStart=>exact⟨[],[[]],[],v1,x0,rfl,Lh ⟨nP.start ns,by simp,fun h=>absurd rfl h⟩,h5⟩
 obtain⟨V,T,P,tv,xe,hg,hI,hS⟩:=hrel;obtain⟨w9,R9,h6,h7⟩:=hsh _ _ _ hS.out;rcases aa2 T with rfl|⟨T0,d,hTd⟩
 ·have hpn:=Lh (ar5 h6);have hfin:Hid ((∃xs,xs.Perm ns/\St xs (DY bf be eb f 0++Z) wr)):=Lh (by obtain⟨i1,i2,i3⟩:=hI.out;(have aKD:P≠[]:=fun e=>by subst e;have:=i1.todo.length_eq;simp at this);have e0:=i3 aKD;subst e0;exact⟨V,i1.done hu hup,hsh.drop 2 hS.out⟩);clear h6 h7 hS hI h5 hY' awJ
  gi_wp2_with (refine⟨trivial,(fun h=>by cases h),?_⟩;gi_at_call 132;refine(callsIn_wide.2 hpn.out).mono ?_;rintro e w2 ⟨rfl,rfl⟩)
  refine bodyPost_ret (results_none rfl _ _ _) rfl ?_;exact⟨⟨_,rfl⟩,hfin.out⟩
 rw[aa3]at hTd;subst hTd;obtain⟨T,hT0⟩:∃T,T=T0:=⟨_,rfl⟩;subst hT0;have hT:T.length<=300:=by have:=hI.out.1.few hu;simp only[iM,jL,kR,rT]at this;omega
 have hpn:=Lh (awI (x:=d) h6 aD);have hd2:d.length<=200:=hI.out.2.1 d bL;have hdI:dI ns (WJ d):=hI.out.1.isDir bL;have hls:Hid (∀W' tv',Sep w9 W' (.box bt 181 #[tv']::lF tv' T::((DY bf be eb f xe++Z)++R9))->St V ([.box bt 181 #[tv'],lF tv' T]++(DY bf be eb f xe++Z)) W'):=Lh fun W' tv' h=>h7 ([.box bt 181 #[tv'],lF tv' T]++(DY bf be eb f xe++Z)) W' h
 have hlist:=Lh (fun W' tv' xe' (h:St V ([.box bt 181 #[tv'],lF tv' T]++(DY bf be eb f xe'++Z)) W')=>awJ.out.list V _ W' d hdI hd2 h);have hI':=hI;clear h6 h7 hS h5 hI;unfold aC at*
 gi_wp2_with (refine⟨trivial,(fun h=>by cases h),?_⟩;gi_at_call 132;refine(callsIn_wide.2 hpn.out).mono ?_;rintro e w2 ⟨rfl,tv2,h⟩;have h8:=Lh (hls.out _ _ h);clear h)
 clear hls hpn;have hS2:=Lh (hsh.drewN 1 h8.out);have hc:=vH hsh hS2.out;have hE:w2.drew.cell? ⟨be,0,none⟩=some (pV eb)/\w2.drew.cell? ⟨bf,0,none⟩=some (pV f):=⟨hc.2.1,hc.1⟩;refine EX (S:=fun w'=>w'.cell? ⟨be,0,none⟩=some (pV eb)/\w'.cell? ⟨bf,0,none⟩=some (pV f)) 9 fH ?_;simp only[kE,kR,rT,Nat.reduceAdd];refine aA 0 hE ?_;refine aA 1 hE ?_;refine aA 2 hE ?_;refine bI 3 fun K hK=>?_
 go_simp;go_at_call 40;refine(hlist.out _ _ _ hS2.out).mono ?_;rintro e w3 ⟨nv,ks,rfl,hks,dX⟩;obtain⟨A3,c3,N,e3,hN⟩:∃A c N,nv= .slice A N c/\N=ks.length:=by obtain⟨w7,R7,h6,_⟩:=hsh _ _ _ dX;obtain⟨A,c,e,_⟩:=h6.gJ 0 rfl;exact⟨A,c,_,e,iM _⟩
 subst e3;have vC:=Lh dX;have hc3:=vH hsh (X:=[lF _ _,.box bt 181 #[tv2],lF tv2 T]) dX;obtain⟨c30,c31,c32,c33⟩:=hc3;clear dX;refine hK _ _ (fun _=>⟨c31,c30⟩) ?_;clear hK K;try simp only[Act.put,gD]
 have NF:w3.cell? ⟨be,0,none⟩=some (pV eb)/\w3.cell? ⟨bf,0,none⟩=some (pV f):=⟨c31,c30⟩;refine bB 4 (fun _=>NF) ?_;refine aA 5 NF ?_;refine aA 6 NF ?_;refine bB 7 (fun _=>NF) ?_;refine bB 8 (fun _=>NF) ?_;refine bB 9 (fun h=>absurd rfl h) ?_;refine aQ fH ?_ _;have kD:=Lh (ad6 hsh 0 (X:=[lF _ _,.box bt 181 #[tv2],lF tv2 T]) vC.out);obtain⟨w4,hw4⟩:∃w4,w4=w3.setCell ⟨eb,0,none⟩ (.int .i64 0):=⟨_,rfl⟩;rw[<-hw4]at kD ⊢;clear vC c30 c31 c32 c33 NF hw4 hE hc hlist h8;have hc4:=vH hsh (X:=[lF _ _,.box bt 181 #[tv2],lF tv2 T]) kD.out;obtain⟨c40,c41,c42,c43⟩:=hc4;have hkl:N<=300:=by have h1:(eX ns (WJ d)).length<=ns.length:=NV _ _;have:=hks.length_eq;omega
 have hmem:Hid (∀n∈ks,n∈ns/\n.path=aaE d ((bD n).getLastD [])):=Lh fun n hn=>by obtain⟨h1,h2⟩:=xO.1 (hks.mem_iff.1 hn);exact⟨h1,(ar3 h2).symm⟩
 obtain⟨nms,asB⟩:∃l,l=ks.map fun n=>(bD n).getLastD []:=⟨_,rfl⟩
 rw[<-asB]at kD;replace asB:=Lh asB;replace hN:=Lh hN;replace hks:=Lh hks;have aQ7:(N:Int)<=300:=by omega
 clear hdI hS2
 gi_wp2
 gi_loopw [33] (fun iv wr=>∃(i:Nat) (tv3:Value),i<=N/\iv=iV i/\Hid (St (V++ks.take i) ([lF (.slice A3 N c3) nms,.box bt 181 #[tv3],lF tv3 (T++sP (ks.take i))]++(DY bf be eb f 0++Z)) wr)) (fun iv _=>N-(intOf iv).toNat)
 case atStart=>refine⟨0,tv2,gI _,rfl,Lh ?_⟩;(have e1:V++ks.take 0=V:=by rw[N7,yX44]);(have e2:T++sP (ks.take 0)=T:=by rw[N7];exact yX44 _);rw[e1,e2];exact kD.out
 obtain⟨i,tv3,hi,rfl,hS5⟩:=hrel;have q0:(0:Int)<=(i:Int):=by omega
 by_cases hlt:i<N
 ·(have q1:(i:Int)<(N:Int):=by omega);(have hil:i<ks.length:=by rw[<-hN.out];exact hlt);obtain⟨x,hx⟩:∃x,x=ks[i]:=⟨_,rfl⟩;obtain⟨hxn,hxp⟩:=hmem.out x (by rw[hx];exact nT _);(have hlp:(V++ks.take i).length<ns.length:=by obtain⟨i1,_,_⟩:=hI'.out;rw[mV]at i1;have h1:=(i1.next hu hks.out).len hu;rw[jL]at h1;rw[jL,qL];omega);obtain⟨nm,hnm⟩:∃nm,nm=(bD x).getLastD []:=⟨_,rfl⟩;rw[<-hnm]at hxp;obtain⟨w7,R7,h6,h7⟩:=hsh _ _ _ hS5.out;(have hnl:nms.length=N:=by rw[asB.out,iM,hN.out]);unfold lF at h6;rw[hnl]at h6;obtain⟨g,c',e,_⟩:=h6.j5 0 rfl aD;cases e;have cn:=h6.cellAt 0 rfl i aD;(have cn2:(nms.map aC)[i]? =some (aC nm):=by rw[asB.out,qJ,kV,gE hil,<-hx,hnm];rfl);rw[cn2]at cn;clear h6 h7 cn2;have lG:Hid (St (V++ks.take i) (.box wr.heap.size 105 #[iV 0,iV 0,iV 0,iV 0,iV 0]::([lF (sV g N c3) nms,.box bt 181 #[tv3],lF tv3 (T++sP (ks.take i))]++(DY bf be eb f 0++Z))) (wr.alloc (.cells #[iV 0,iV 0,iV 0,iV 0,iV 0] 105))):=Lh (hsh.new hS5.out _);obtain⟨bs,hbs⟩:∃bs,bs=wr.heap.size:=⟨_,rfl⟩;have hcase:(d=[]/\nm=x.path)\/(d≠[]/\x.path=d++47::nm):=by
   unfold aaE at hxp;by_cases hd:d=[]
   ·rw[if_pos hd]at hxp;exact .inl ⟨hd,hxp.symm⟩
   rw[if_neg hd]at hxp;exact .inr ⟨hd,hxp⟩
  clear hxp;replace hnm:=Lh hnm;replace hx:=Lh hx;unfold aC at*;rcases hcase with⟨hd,hnx⟩|⟨hd,hnx⟩
  focus
   subst hd
   subst hnx
   gi_wp2
  rotate_left
  focus
   have hj:=ar6 d nm
   rw[<-hnx]at hj
   have hxl:=hlen x hxn
   have hl3:x.path.length=d.length+(nm.length+1):=by rw[hnx,jL,kR]
   have hb1:¬9223372036854775807<d.length+1:=by omega
   have hb2:¬9223372036854775807<d.length+1+nm.length:=by omega
   have hb3:d.isEmpty=false:=by cases d<;>first |rfl|exact absurd rfl hd
   clear hl3 hxl hnx hd hd2
   gi_wp2
   clear hj hb1 hb2 hb3
  rotate_left;all_goals
   clear cn c40 c41 c42 c43
   rw[<-hbs]at lG ⊢
   obtain⟨w5,hw5⟩:∃w5,w5=wr.alloc (.cells #[iV 0,iV 0,iV 0,iV 0,iV 0] 105):=⟨_,rfl⟩
   rw[<-hw5]at lG ⊢
   clear hw5 hbs hS5
   have qG:=Lh (hsh.drewN 1 lG.out)
   have hc:=vH hsh (X:=_::[_,_,_]) qG.out
   have hE:w5.drew.cell? ⟨be,0,none⟩=some (pV eb)/\w5.drew.cell? ⟨bf,0,none⟩=some (pV f):=⟨hc.2.1,hc.1⟩
   refine EX (S:=fun w'=>w'.cell? ⟨be,0,none⟩=some (pV eb)/\w'.cell? ⟨bf,0,none⟩=some (pV f)) 9 fH ?_
   simp only[kE,kR,rT,Nat.reduceAdd]
   refine aA 0 hE ?_
   refine aA 1 hE ?_
   refine aA 2 hE ?_
   refine bI 3 fun K hK=>?_
   go_simp
   go_at_call 79
   refine(awJ.out.stat _ _ _ x hxn qG.out).mono ?_
   unfold Stats.v
   rintro e w8 ⟨rfl,zS⟩
   have hc8:=vH hsh (X:=_::[_,_,_]) zS
   have hE8:w8.cell? ⟨be,0,none⟩=some (pV eb)/\w8.cell? ⟨bf,0,none⟩=some (pV f):=⟨hc8.2.1,hc8.1⟩
   obtain⟨z0,z1,z2,z3,z4,zf⟩:=ad7 hsh zS
   obtain⟨_,_,aKF,aKG⟩:=hc8
   refine hK _ _ (fun _=>hE8) ?_
   clear hK K
   try simp only[Act.put,gD]
   refine bB 4 (fun _=>hE8) ?_
   refine aA 5 hE8 ?_
   refine aA 6 hE8 ?_
   have GH:=Lh (ar9 (v0:=.int .i64 (σ.k x)) (v1:=.int .i64 (σ.m x)) (v2:=.int .i64 (σ.l x)) (v3:=.int .i64 (σ.s x)) (v4:=.int .i64 (σ.i x)) hsh zS)
   have gZ:=vH hsh (X:=_::[_,_,_]) GH.out
   have hE9:=And.intro gZ.2.1 gZ.1
   obtain⟨_,hc91,aEZ,hc93⟩:=gZ
   refine bB 7 (fun _=>hE9) ?_
   obtain⟨w9,H9⟩:∃w9,w9=((((w8.setCell ⟨bs,0,none⟩ (.int .i64 (σ.k x))).setCell ⟨bs,1,none⟩ (.int .i64 (σ.m x))).setCell ⟨bs,2,none⟩ (.int .i64 (σ.l x))).setCell ⟨bs,3,none⟩ (.int .i64 (σ.s x))).setCell ⟨bs,4,none⟩ (.int .i64 (σ.i x)):=⟨_,rfl⟩
   rw[<-H9]at GH hE9 hc91 aEZ hc93 ⊢
   clear H9 zS z0 z1 z2 z3 z4 zf aKF aKG hE8 qG hc hE
   refine bB 8 (fun _=>hE9) ?_
   refine bB 9 (fun h=>absurd rfl h) ?_
   refine aQ fH ?_ _
   have RH:=Lh (ad6 hsh 0 (X:=_::[_,_,_]) GH.out)
   obtain⟨w10,aE0⟩:∃w10,w10=w9.setCell ⟨eb,0,none⟩ (.int .i64 0):=⟨_,rfl⟩
   rw[<-aE0]at RH ⊢
   clear aE0 GH hE9 hc91 aEZ hc93
   obtain⟨_,c51,c52,_⟩:=vH hsh (X:=_::[_,_,_]) RH.out
   obtain⟨z0,z1,z2,z3,z4,_⟩:=ad7 hsh RH.out
   have hkd:=awJ.out.kind x hxn
   have hnext:Hid (V++ks.take (i+1)=(V++ks.take i)++[x]):=Lh (by rw[pE,gE hil,<-hx.out,pJ];rfl)
   have awN:ks.take (i+1)=ks.take i++[x]:=by rw[pE,gE hil,<-hx.out];rfl
   by_cases hf:x.file= -1
   ·rw[if_pos hf]at hkd;rw[hkd]at z0 RH;obtain⟨wa,Ra,ha,hb⟩:=hsh _ _ _ RH.out;(have hlT:(T++sP (ks.take i)).length<=1000:=by have h1:=ar8 (ks.take i);rw[qL]at h1;rw[jL];omega);have hps:=Lh (ad4 (x:=x.path) (Sep.dE [2,3,0,1] ha aV bL) hlT);have hcl:Hid (∀W' v',Sep wa W' (.box bt 181 #[v']::lF v' ((T++sP (ks.take i))++[x.path])::(.box bs 105 #[iV 1,iV (σ.m x),iV (σ.l x),iV (σ.s x),iV (σ.i x)]::lF (sV g N c3) nms::((DY bf be eb f 0++Z)++Ra)))->
      St (V++ks.take i) ((.box bs 105 #[iV 1,iV (σ.m x),iV (σ.l x),iV (σ.s x),iV (σ.i x)]::lF (sV g N c3) nms:: .box bt 181 #[v']::lF v' (T++sP (ks.take (i+1)))::DY bf be eb f 0)++Z) W'):=Lh fun W' v' h=>by
     (have e1:(T++sP (ks.take i))++[x.path]=T++sP (ks.take (i+1)):=by rw[awN,XG,if_pos hf,pJ]);rw[e1]at h;exact hb _ _ (Sep.dE [2,3,0,1] h aV bL)
    have hyd:=Lh (fun W' v' h=>hY'.out (V++ks.take i) x (.box bs 105 #[iV 1,iV (σ.m x),iV (σ.l x),iV (σ.s x),iV (σ.i x)]::lF (sV g N c3) nms:: .box bt 181 #[v']::lF v' (T++sP (ks.take (i+1)))::DY bf be eb f 0) W' hxn hlp (hcl.out W' v' h));(have hz:Hid (∀W' v',Sep wa W' (.box bt 181 #[v']::lF v' ((T++sP (ks.take i))++[x.path])::(.box bs 105 #[iV 1,iV (σ.m x),iV (σ.l x),iV (σ.s x),iV (σ.i x)]::lF (sV g N c3) nms::((DY bf be eb f 0++Z)++Ra)))->W'.cell? ⟨bs,0,none⟩=some (iV 1)/\W'.cell? ⟨bs,1,none⟩=some (iV (σ.m x))/\W'.cell? ⟨bs,2,none⟩=some (iV (σ.l x))/\W'.cell? ⟨bs,3,none⟩=some (iV (σ.s x))/\W'.cell? ⟨bs,4,none⟩=some (iV (σ.i x))):=Lh fun W' v' h=>⟨h.bC 2 rfl 0,h.bC 2 rfl 1,h.bC 2 rfl 2,h.bC 2 rfl 3,h.bC 2 rfl 4⟩);clear ha hb RH hlT awN z1 z2 z3 z4;unfold aC at*
    gi_wp2_with (refine⟨trivial,(fun h=>by cases h),?_⟩;gi_at_call 131;refine(callsIn_wide.2 hps.out).mono ?_;rintro e w11 ⟨rfl,v9,h⟩;(obtain⟨y0,y1,y2,y3,y4⟩:=hz.out _ _ h);(obtain⟨fn,tmps,assign,body,hy,hR⟩:=hyd.out _ _ h);(have hR':=Lh hR);unfold Stats.v at hy;rw[hkd]at hy;clear h hR z0)
    refine⟨(fun h=>by cases h),?_⟩;refine hR'.out.mono ?_;rintro e W9 ⟨rfl,hJ⟩;have hJ':=Lh (hsh.drop 1 hJ);clear hJ hR' hy y0 y1 y2 y3 y4
    gi_wp2
    go_roundw
    case rel=>refine⟨i+1,v9,by omega,by simp,Lh ?_⟩;rw[hnext.out];exact hJ'.out
    case measure=>simp[intOf];omega
   ·rw[if_neg hf]at hkd;rw[hkd]at z0 RH;(have e1:T++sP (ks.take (i+1))=T++sP (ks.take i):=by rw[awN,XG,if_neg hf]);have hR0:=hY'.out (V++ks.take i) x (.box bs 105 #[iV 2,iV (σ.m x),iV (σ.l x),iV (σ.s x),iV (σ.i x)]::lF (sV g N c3) nms:: .box bt 181 #[tv3]::lF tv3 (T++sP (ks.take i))::DY bf be eb f 0) w10 hxn hlp RH.out;replace e1:=Lh e1;unfold aC at*;obtain⟨fn,tmps,assign,body,hy,hR⟩:=hR0;have hR':=Lh hR;unfold Stats.v at hy;rw[hkd]at hy;clear hR RH awN
    gi_wp2
    refine⟨(fun h=>by cases h),?_⟩;refine hR'.out.mono ?_;rintro e W9 ⟨rfl,hJ⟩;have hJ':=Lh (hsh.drop 1 hJ);clear hJ hR' hy z0 z1 z2 z3 z4
    gi_wp2
    go_roundw
    case rel=>refine⟨i+1,tv3,by omega,by simp,Lh ?_⟩;rw[hnext.out,e1.out];exact hJ'.out
    case measure=>simp[intOf];omega
 have hiN:i=N:=by omega
 have hin:i=ks.length:=by rw[hiN];exact hN.out
 have hno:¬(i:Int)<(N:Int):=by omega
 have bZ:¬i<N:=by omega
 have hfin:Hid (nP ns (V++ks) ((T++sP ks).map WJ) (P++[WJ d])/\∀q∈T++sP ks,q.length<=200):=Lh (by
  obtain⟨i1,i2,_⟩:=hI'.out;refine⟨?_,fun q hq=>?_⟩
  ·rw[mV,ar7 fun n hn=>hne n (hmem.out n hn).1];rw[mV]at i1;exact i1.next hu hks.out
  rcases iN.1 hq with hq|hq
  ·exact i2 q (vN _ hq)
  unfold sP at hq;obtain⟨n,hn,rfl⟩:=List.mem_map.1 hq;exact hlen n (hmem.out n (List.mem_filter.1 hn).1).1)
 have lG:Hid (St (V++ks) (.box bt 181 #[tv3]::lF tv3 (T++sP ks)::(DY bf be eb f 0++Z)) wr):=Lh (by have h:=hsh.drop 1 hS5.out;rw[hin,NY]at h;exact h);have hgg:gk+P.length=ns.length+1:=hg;have hpl:P.length+1<=ns.length+1:=by have h1:=hfin.out.1.few hu;rw[jL,oK]at h1;omega
 clear hS5 c40 c41 c42 c43 hI' kD
 gi_wp2
 gi_roundg (gk-1)
 case rel=>exact⟨_,_,_,_,_,by rw[jL,oK];omega,Lh ⟨hfin.out.1,hfin.out.2,fun _=>rfl⟩,lG⟩
 case measure=>omega
end Go.Proofs.YtmjomdkleikgbaaGreat
namespace Go.Proofs.YtmjomdkleikgbaaGreat
open Go.RowKit
section
variable {g:LT} {nm:Nat} {ns:List TN} {fs:List FT} {dn:Key->Nat} {φ:Int->Nat}
theorem lY.walkDir (h:lY g nm ns fs dn φ):∀(k:Nat) (K:Key),K.length=k->dI ns K->∃c,nY ns k K= .ok c/\lC c=true
 |0,K,hk,hK=>⟨none,rfl,rfl⟩
 |k+1,K,hk,hK=>by
  rcases hK with e|⟨n,hn,e,hf⟩
  ·rw[e]at hk;cases hk
  have hup:=h.up n hn;rw[e]at hup;obtain⟨c,h1,h2⟩:=h.walkDir k K.dropLast (by rw[aaW,hk];rfl) hup;refine⟨some n,?_,by show decide (n.file= -1)=true;rw[tX];exact hf⟩;(show(nY ns k K.dropLast).bind (stepT ns K)=_);rw[h1];(show stepT ns K c=_);unfold stepT;rw[if_pos h2,<-e,DJ h.uniq hn]
theorem lY.at_mem (h:lY g nm ns fs dn φ) {n:TN} (hn:n∈ns):BO ns (bD n)= .ok (some n):=by
 obtain⟨c,h1,h2⟩:=h.walkDir _ _ rfl (h.up n hn);unfold BO;rw[h1];show(if lC c=true then Except.ok (kK ns (bD n))else Except.error 22)=_
 rw[if_pos h2,DJ h.uniq hn]
theorem lY.RY (h:lY g nm ns fs dn φ) {n:TN} (hn:n∈ns):kL ns (bD n)= .ok n:=by unfold kL;rw[h.at_mem hn]
end
def stE (ns:List TN) (path:List UInt8):Int:=if dV path=0 then(match kL ns (splitB path)with| .error e=>e| .ok _=>0)else dV path
structure ahX (ns:List TN) (fs:List FT) (dn:Key->Nat) (φ:Int->Nat) (path:List UInt8) (k m l s i:Int):Prop where
 none:stE ns path≠0->k=0/\m=0/\l=0/\s=0/\i=0
 dir:∀n,dV path=0->kL ns (splitB path)= .ok n->n.file= -1->k=1/\m=n.mode/\l=1/\s=dM ns (splitB path)/\i=dn (splitB path)+1
 file:∀n,dV path=0->kL ns (splitB path)= .ok n->n.file≠ -1->k=2/\(∃f,fs[n.file.toNat]? =some f/\m=f.mode/\s=f.bs.length)/\l=(ns.countP fun x=>decide (x.file=n.file):Nat)/\i=φ n.file+1
section
variable {w0 w:World} {R:List aZ} {f q p:Nat} {S:VS} {ns:List TN} {fs:List FT} {nb names:Nat} {g:LT} {dn:Key->Nat} {φ:Int->Nat}
theorem Vt.xJ (hV:Vt S ns fs g dn φ) (path:List UInt8):xJ S path=stE ns path:=by unfold Go.Proofs.YtmjomdkleikgbaaGreat.xJ stE;rw[hV.something path];cases kL ns (splitB path)<;>rfl
theorem aAI (x:LI) (l:List Nat):(x.vi l).kind=x.kind/\(x.vi l).mode=x.mode/\(x.vi l).links=x.links/\(x.vi l).size=x.size:=⟨rfl,rfl,rfl,rfl⟩
theorem Vt.aAJ (hV:Vt S ns fs g dn φ) (path:List UInt8):∃k m l s i,statOf S path=IK k m l s i/\ahX ns fs dn φ path k m l s i:=by
 unfold statOf;rw[hV.xJ];by_cases h0:stE ns path=0
 ·have hpl:dV path=0:=by
   unfold stE at h0;by_cases h1:dV path=0
   ·exact h1
   rw[if_neg h1]at h0;exact h0
  rw[if_pos h0];obtain⟨n,hn⟩:∃n,kL ns (splitB path)= .ok n:=by
   unfold stE at h0;rw[if_pos hpl]at h0;cases hp:kL ns (splitB path)with
   |error e=>rw[hp]at h0;exact absurd h0 (KP hp)
   |ok n=>exact⟨n,rfl⟩
  have ha:=BP hn;obtain⟨hP,hno,_⟩:=iW (S:=S) hV.rep ha;obtain⟨hm,hk⟩:=eQ hno.symm;obtain⟨hi,hkind⟩:=hV.rep.MG hm;rw[hV.tQ ha];simp only[mW];obtain⟨v1,v2,v3,v4⟩:=aAI (g (dD dn φ n)) (aG S.cur (dD dn φ n)).aB;rw[hV.iT.ph.head _ hi,v1,v2,v3,v4];refine⟨_,_,_,_,_,rfl,fun h=>absurd h0 h,fun n2 _ e hf=>?_,fun n2 _ e hf=>?_⟩
  ·rw[hn]at e;cases e;obtain⟨d1,d2,d3,d4⟩:=hV.rep.dir n hm hf;have hD:dI ns (splitB path):=.inr ⟨n,hm,hk,hf⟩;have hz:=(hV.rep.wG hD).2;rw[arC hf,hk]at*;rw[hz,d2,d4];exact⟨rfl,d3,rfl,rfl,by omega⟩
  rw[hn]at e;cases e;obtain⟨f1,f2,f3,⟨ff,f4,f5,f6⟩,f7⟩:=hV.rep.file n hm hf;rw[Q7 hf]at*;(have hz:(g (φ n.file)).size=(g (φ n.file)).data.length:=by unfold LI.size;rw[f3,if_neg aV]);rw[f3,f7,hz,f6];exact⟨rfl,⟨ff,f4,f5,rfl⟩,rfl,by omega⟩
 rw[if_neg h0];refine⟨0,0,0,0,0,rfl,fun _=>⟨rfl,rfl,rfl,rfl,rfl⟩,fun n h1 h2 _=>?_,fun n h1 h2 _=>?_⟩
 ·exact absurd (by unfold stE;rw[if_pos h1,h2]) h0
 exact absurd (by unfold stE;rw[if_pos h1,h2]) h0
theorem aE2 {path:List UInt8} (hL:gY S ns fs nb names) (hV:Vt S.base ns fs g dn φ) (hp:path.length<=9223372036854775807) (h:Sep w0 w (bH f q p S::R)):
  Calls Tryz.prog 79 #[pV f,aC path] w fun e w'=>∃k m l s i,e= .returned (.tuple #[IK k m l s i,iV (stE ns path)])/\ahX ns fs dn φ path k m l s i/\Sep w0 w' (bH f q p S.base::R):=by
 refine(aqJ hp hL.off hV.iT.vw h).mono ?_;rintro e w' ⟨rfl,h1⟩;obtain⟨k,m,l,s,i,e1,h2⟩:=hV.aAJ path;rw[e1,hV.xJ];exact⟨k,m,l,s,i,rfl,h2,h1⟩
end
def o7 (ns:List TN) (fs:List FT) (dn:Key->Nat) (φ:Int->Nat):Stats where
 k:=fun n=>if n.file= -1 then 1 else 2
 m:=fun n=>if n.file= -1 then n.mode else((fs[n.file.toNat]?).map fun f=>(f.mode:Int)).getD 0
 l:=fun n=>if n.file= -1 then 1 else((ns.countP fun x=>decide (x.file=n.file):Nat):Int)
 s:=fun n=>if n.file= -1 then(dM ns (bD n):Int)else((fs[n.file.toNat]?).map fun f=>(f.bs.length:Int)).getD 0
 i:=fun n=>if n.file= -1 then(dn (bD n):Int)+1 else(φ n.file:Int)+1
theorem BX {p:List UInt8} (h:aU p=true):dV p=0:=by unfold dV;simp[h,nD h]
section
variable {ns:List TN} {fs:List FT} {dn:Key->Nat} {φ:Int->Nat} {g:LT} {T:VS}
theorem awO {n:TN} {k m l s i:Int} (hV:Vt T ns fs g dn φ) (hn:n∈ns) (hv:aU n.path=true) (h:ahX ns fs dn φ n.path k m l s i):IK k m l s i=(o7 ns fs dn φ).v n/\stE ns n.path=0:=by
 have hp:=BX hv;have hpr:kL ns (splitB n.path)= .ok n:=hV.rep.RY hn;refine⟨?_,by unfold stE;rw[if_pos hp,hpr]⟩;unfold IK Stats.v o7;simp only;by_cases hf:n.file= -1
 ·obtain⟨h1,h2,h3,h4,h5⟩:=h.dir n hp hpr hf;rw[h1,h2,h3,h4,h5,if_pos hf,if_pos hf,if_pos hf,if_pos hf,if_pos hf];rfl
 obtain⟨h1,⟨f,h2,h3,h4⟩,h5,h6⟩:=h.file n hp hpr hf;rw[h1,h3,h4,h5,h6,if_neg hf,if_neg hf,if_neg hf,if_neg hf,if_neg hf,h2];rfl
theorem asD (hV:Vt T ns fs g dn φ) (hv:∀n∈ns,aU n.path=true) {d:List UInt8} (h:dI ns (WJ d)):lsX ns d=0:=by
 unfold lsX;by_cases e:d=[]
 ·rw[if_pos e]
 rw[if_neg e];have hk:WJ d=splitB d:=by unfold WJ;rw[if_neg e]
 rw[hk]at h;rcases h with h|⟨n,hn,h2,hf⟩
 ·exact absurd h (gK d)
 have hp:n.path=d:=rH _ (iB _) h2;have hv2:=hv n hn;rw[hp]at hv2;rw[if_pos (BX hv2),<-h2,hV.rep.RY hn];simp only;rw[if_pos hf]
theorem awP (hV:Vt T ns fs g dn φ) {n:TN} (hn:n∈ns) (hv:aU n.path=true) (hf:n.file≠ -1):rdX ns n.path=0/\rdB ns fs n.path=rF fs n.file:=by
 have hp:=BX hv;have hfl:vS ns (splitB n.path)= .ok n:=by unfold vS;rw[show kL ns (splitB n.path)= .ok n from hV.rep.RY hn];simp only;rw[if_neg hf]
 unfold rdX rdB;rw[if_pos hp,if_pos hp,hfl];exact⟨rfl,rfl⟩
end
def xP (φ:Int->Nat) (V:List TN):List (Lit×Value):=(fA V).zipIdx.map fun x=>(Lit.int .i64 ((φ x.1:Int)+1),Value.int .i64 (x.2:Int))
theorem asE (φ:Int->Nat) (V:List TN):(xP φ V).length=(fA V).length:=by unfold xP;rw[iM,ai6]
theorem asF {φ:Int->Nat} {V:List TN} {p:Lit×Value} (h:p∈xP φ V):∃(id:Int) (k:Nat),(fA V)[k]? =some id/\p=(.int .i64 ((φ id:Int)+1),.int .i64 (k:Int)):=by obtain⟨x,hx,rfl⟩:=List.mem_map.1 h;obtain⟨id,k⟩:=x;rw[ak2]at hx;exact⟨id,k,hx,rfl⟩
def Inj (φ:Int->Nat) (V:List TN):Prop:=∀a∈V,∀b∈V,¬a.file<0->¬b.file<0->φ a.file=φ b.file->a.file=b.file
theorem asG {φ:Int->Nat} {V:List TN} {x:TN} (hi:Inj φ (V++[x])) (hK:mU (xP φ V)) (hx:¬x.file<0) (hm:x.file∈fA V):getM (xP φ V) (.int .i64 ((φ x.file:Int)+1))=some (.int .i64 ((fA V).idxOf x.file:Nat)):=by refine xQ hK ?_;have hl:=List.idxOf_lt_length_iff.2 hm;refine List.mem_map.2 ⟨(x.file,(fA V).idxOf x.file),?_,rfl⟩;rw[ak2];rw[gE hl,abA hl]
theorem asH {φ:Int->Nat} {V:List TN} {x:TN} (hi:Inj φ (V++[x])) (hx:¬x.file<0) (hm:x.file∉fA V) (hk:WideAt.IsKeyLit (.int .i64 ((φ x.file:Int)+1))):getM (xP φ V) (.int .i64 ((φ x.file:Int)+1))=none/\qK (xP φ V) (.int .i64 ((φ x.file:Int)+1)) (.int .i64 ((fA V).length:Nat))=xP φ (V++[x]):=by
 have hno:∀p∈xP φ V,p.1≠ .int .i64 ((φ x.file:Int)+1):=fun p hp e=>by obtain⟨id,k,h1,rfl⟩:=asF hp;simp only[Lit.int.injEq,true_and]at e;obtain⟨n,hn,h2,h3⟩:=yQ _ id (gG h1);have h4:=hi n (vN _ hn) x bL h3 hx (by rw[h2];omega);exact hm (by rw[<-h4,h2];exact gG h1)
 have hdel:nI (xP φ V) (.int .i64 ((φ x.file:Int)+1))=xP φ V:=by unfold nI;rw[EM];intro p hp;have h1:=lD (hno p hp);simpa using h1
 refine⟨getM_none hk hno,?_⟩;unfold qK;rw[hdel];unfold xP;rw[kF,if_neg hx,if_neg hm,ai7,mV];simp
def lL (nv fv:Value) (N:List TN) (F:List TF) (vs:List Value):List aZ:=.sl 68 3 nv N.length (cZ N):: .sl 71 2 fv F.length (iE F vs)::List.zipWith (fun v (f:TF)=>aI v f.bs) vs F
theorem Z38 {P:Prop} (h:P:=by have hlt:=(gF.1 hk).1;rw[vM (Nat.le_add_right _ _),JM,D6 hlt];exact hk):P:=h
theorem NQ {w0 w:World} {X R:List aZ} {nv fv:Value} {N:List TN} {F:List TF} {vs:List Value} (hl:vs.length=F.length) (h:Sep w0 w (X++(lL nv fv N F vs++R))):iF w nv fv N F vs:=by
 have at_:∀k A,(lL nv fv N F vs)[k]? =some A->(X++(lL nv fv N F vs++R))[X.length+k]? =some A:=fun k A hk=>by exact Z38
 refine⟨hl,h.rd _ (at_ 0 _ rfl),h.rd _ (at_ 1 _ rfl),fun k u f hu hf=>?_⟩;have hz:(lL nv fv N F vs)[k+2]? =some (aI u f.bs):=by(show(List.zipWith (fun v (f:TF)=>aI v f.bs) vs F)[k]? =_);exact ao7 hu hf
 exact⟨_,h.rd _ (at_ _ _ hz),fun y hy=>by obtain⟨x,_,rfl⟩:=List.mem_map.1 hy;rfl,rfl⟩
structure ad8 where
 f:Nat
 q:Nat
 p:Nat
 b1:Nat
 bt:Nat
 bm:Nat
 bk:Nat
def RZ (c:ad8) (φ:Int->Nat) (fs:List FT) (V:List TN) (nv fv:Value) (vs:List Value):List aZ:=
 .box c.b1 37 #[.pointer (some ⟨c.f,0,none⟩)]:: .box c.bt 25 #[nv,fv]:: .box c.bm 100 #[.map (some c.bk)]::mO 3 c.bk (xP φ V)::lL nv fv (fF V) (fU V fs) vs
def ad9 (w0:World) (R:List aZ) (T:VS) (ns:List TN) (fs:List FT) (nb names:Nat) (c:ad8) (φ:Int->Nat) (V:List TN) (Y:List aZ) (W:World):Prop:=
 ∃(S1:VS) (nv fv:Value) (vs:List Value),S1.base=T/\(gY S1 ns fs nb names/\∀n∈V,n∈ns)/\vs.length=(fU V fs).length/\Sep w0 W (bH c.f c.q c.p S1::(Y++(RZ c φ fs V nv fv vs++R)))
section
variable {w0:World} {R:List aZ} {T:VS} {ns:List TN} {fs:List FT} {nb names:Nat} {c:ad8} {φ:Int->Nat} {g:LT} {dn:Key->Nat}
theorem wK :Shared (ad9 w0 R T ns fs nb names c φ):=by rintro V Y W ⟨S1,nv,fv,vs,h1,h2,h3,h4⟩;refine⟨w0,bH c.f c.q c.p S1::(RZ c φ fs V nv fv vs++R),h4.perm lZ.symm,fun Y' W' h=>⟨S1,nv,fv,vs,h1,h2,h3,h.perm lZ⟩⟩
theorem awQ (hV:Vt T ns fs g dn φ) (hv:∀n∈ns,aU n.path=true) (hl:∀n∈ns,n.path.length<=200):ahW (ad9 w0 R T ns fs nb names c φ) ns c.f (o7 ns fs dn φ):=by
 refine⟨wK,?_,?_,fun n hn=>rfl⟩
 ·rintro V Y W d hd hdl ⟨S1,nv,fv,vs,h1,h2,h3,h4⟩;(have hV1:Vt S1.base ns fs g dn φ:=by rw[h1];exact hV);obtain⟨hx,hp,hs⟩:=hV1.list d;refine(ac4 (path:=d) aD h2.1.off hV1.iT.vw hV1.iT.aqL h4).mono ?_;rintro e w' ⟨v,rfl,hS⟩;rw[hx,asD hV hv hd];(have hls:lsN ns d=(eX ns (WJ d)).map fun n=>(bD n).getLastD []:=by unfold lsN;rw[if_pos (asD hV hv hd)]);rw[hls]at hp;obtain⟨ks,hk1,hk2⟩:=XE hp;refine⟨v,ks,rfl,hk1,S1.base,nv,fv,vs,?_,⟨h2.1.base,h2.2⟩,h3,?_⟩
  ·rw[<-h1];rfl
  rw[hk2];exact hS.perm (List.Perm.swap _ _ _)
 rintro V Y W n hn ⟨S1,nv,fv,vs,h1,h2,h3,h4⟩;have hV1:Vt S1.base ns fs g dn φ:=by rw[h1];exact hV
 refine(aE2 (path:=n.path) h2.1 hV1 (by have:=hl n hn;omega) h4).mono ?_;rintro e w' ⟨k,m,l,s,i,rfl,h5,h6⟩;obtain⟨e1,e2⟩:=awO hV hn (hv n hn) h5;rw[e1,e2];exact⟨rfl,S1.base,nv,fv,vs,by rw[<-h1];rfl,⟨h2.1.base,h2.2⟩,h3,h6⟩
end
end Go.Proofs.YtmjomdkleikgbaaGreat
