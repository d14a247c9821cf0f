/- Parts. -/
import Derived.Test.YtmjomdkleikgbaaGreatK33
import Derived.Sort.LoopGhostIn
set_option linter.unusedVariables false
set_option linter.unusedSimpArgs false
set_option maxRecDepth 100000
set_option maxHeartbeats 20000000
namespace Go.Proofs.YtmjomdkleikgbaaGreat
open Go.RowKit Go.Shelf
attribute [local go_sem] Oper.semAt_some
structure Stats where
 k:TN->Int
 m:TN->Int
 l:TN->Int
 s:TN->Int
 i:TN->Int
def Stats.v (σ:Stats) (n:TN):Value:=.agg #[iV (σ.k n),iV (σ.m n),iV (σ.l n),iV (σ.s n),iV (σ.i n)]
structure aiN (St:List TN->List aW->World->Prop) (ns:List TN) (f:Nat) (σ:Stats):Prop where
 sh:Shared St
 list:∀V Y W d,dJ ns (U4 d)->d.length<=200->St V Y W->Calls Tryz.prog 40 #[pV f,aC d] W fun e w'=>∃(v:Value) (ks:List TN),e= .returned (.tuple #[v,iV 0])/\ks.Perm (eP ns (U4 d))/\St V (kW v (ks.map fun n=>(bE n).getLastD [])::Y) w'
 stat:∀V Y W n,n∈ns->St V Y W->Calls Tryz.prog 79 #[pV f,aC n.path] W fun e w'=>e= .returned (.tuple #[σ.v n,iV 0])/\St V Y w'
 kind:∀n∈ns,σ.k n=if n.file= -1 then 1 else 2
theorem as3 (d x:List UInt8):((⟨d.toArray⟩++⟨#[47]⟩:ByteArray)++⟨x.toArray⟩)=⟨(d++47::x).toArray⟩:=by
 have e:((⟨d.toArray⟩++⟨#[47]⟩:ByteArray)++⟨x.toArray⟩).data.toList=d++47::x:=by simp
 generalize((⟨d.toArray⟩++⟨#[47]⟩:ByteArray)++⟨x.toArray⟩)=t at e;obtain⟨⟨l⟩⟩:=t;simp at e;rw[e]
def sW (V:List TN):List (List UInt8):=(V.filter fun n=>decide (n.file= -1)).map (·.path)
theorem as4 {V:List TN} (h:∀n∈V,n.path≠[]):(sW V).map U4=vM V:=by
 unfold sW vM;rw[qO];apply uO;intro n hn;show U4 n.path=bE n
 unfold U4 bE;rw[if_neg (h n (List.mem_filter.1 hn).1)]
theorem XZ (V:List TN) (n:TN):sW (V++[n])=if n.file= -1 then sW V++[n.path]else sW V:=by
 unfold sW;rw[FN,mZ];by_cases h:n.file= -1
 ·rw[if_pos h];simp[h]
 rw[if_neg h];simp[h]
theorem as5 (V:List TN):(sW V).length<=V.length:=by unfold sW;rw[iJ];exact OJ _ _
def yK (bf be eb f:Nat) (x:Int):List aW:=[.box bf 37 #[pV f],.box be 96 #[pV eb],aJ eb x]
section
variable {St:List TN->List aW->World->Prop} {bf be eb f:Nat} {xe:Int} {V:List TN} {X Z:List aW} {W:World}
theorem vN (hS:Shared St) (h:St V (X++(yK bf be eb f xe++Z)) W):W.cell? ⟨bf,0,none⟩=some (pV f)/\W.cell? ⟨be,0,none⟩=some (pV eb)/\W.cell? ⟨eb,0,none⟩=some (iV xe)/\W.frozen? ⟨eb,0,none⟩=false:=by
 obtain⟨w0,R,h1,_⟩:=hS _ _ _ h;have e:∀k A,(yK bf be eb f xe)[k]? =some A->((X++(yK bf be eb f xe++Z))++R)[X.length+k]? =some A:=fun k A hk=>by have hl:=(gF.1 hk).1;rw[pG,vT (Nat.le_add_right _ _),J2,pG,EI hl];exact hk
 exact⟨h1.bC _ (e 0 _ rfl) 0,h1.bC _ (e 1 _ rfl) 0,h1.bC _ (e 2 _ rfl) 0,h1.bF _ (e 2 _ rfl) 0⟩
theorem aeW (hS:Shared St) (x:Int) (h:St V (X++(yK bf be eb f xe++Z)) W):St V (X++(yK bf be eb f x++Z)) (W.setCell ⟨eb,0,none⟩ (.int .i64 x)):=by
 obtain⟨w0,R,h1,h2⟩:=hS _ _ _ h;have e:((X++(yK bf be eb f xe++Z))++R)[X.length+2]? =some (aJ eb xe):=by rw[pG,vT (Nat.le_add_right _ _),J2];rfl
 have h3:=h1.bS _ e 0 (.int .i64 x);refine h2 _ _ ?_;have e2:((X++(yK bf be eb f xe++Z))++R).set (X.length+2) (.box eb 40 (#[Value.int .i64 xe].setIfInBounds 0 (.int .i64 x)))=(X++(yK bf be eb f x++Z))++R:=by simp only[pG];rw[abU _ _ (Nat.le_add_right _ _),J2];rfl
 rw[<-e2];exact h3
end
theorem as6 {St:List TN->List aW->World->Prop} {V:List TN} {Y:List aW} {W:World} {b:Nat} {t:TypeId} {c0 c1 c2 c3 c4 v0 v1 v2 v3 v4:Value} (hS:Shared St) (h:St V (.box b t #[c0,c1,c2,c3,c4]::Y) W):
  St V (.box b t #[v0,v1,v2,v3,v4]::Y) (((((W.setCell ⟨b,0,none⟩ v0).setCell ⟨b,1,none⟩ v1).setCell ⟨b,2,none⟩ v2).setCell ⟨b,3,none⟩ v3).setCell ⟨b,4,none⟩ v4):=by
 obtain⟨w0,R,h1,h2⟩:=hS _ _ _ h;exact h2 _ _ (((((h1.bS 0 rfl 0 v0).bS 0 rfl 1 v1).bS 0 rfl 2 v2).bS 0 rfl 3 v3).bS 0 rfl 4 v4)
theorem aeX {St:List TN->List aW->World->Prop} {V:List TN} {Y:List aW} {W:World} {b:Nat} {t:TypeId} {c0 c1 c2 c3 c4:Value} (hS:Shared St) (h:St V (.box b t #[c0,c1,c2,c3,c4]::Y) W):
  W.cell? ⟨b,0,none⟩=some c0/\W.cell? ⟨b,1,none⟩=some c1/\W.cell? ⟨b,2,none⟩=some c2/\W.cell? ⟨b,3,none⟩=some c3/\W.cell? ⟨b,4,none⟩=some c4/\∀j,W.frozen? ⟨b,j,none⟩=false:=by
 obtain⟨w0,R,h1,_⟩:=hS _ _ _ h;exact⟨h1.bC 0 rfl 0,h1.bC 0 rfl 1,h1.bC 0 rfl 2,h1.bC 0 rfl 3,h1.bC 0 rfl 4,h1.bF 0 rfl⟩
theorem as7 {St:List TN->List aW->World->Prop} {ns:List TN} {f:Nat} {σ:Stats} (hSt:aiN St ns f σ) (hu:(ns.map bE).Nodup) (hup:∀n∈ns,dJ ns (bE n).dropLast) (hlen:∀n∈ns,n.path.length<=200) (hne:∀n∈ns,n.path≠[]) (l7:ns.length<=300)
  (l bf be eb n:Nat) (x0:Int) (Z:List aW) (W:World)
  (hY:∀pre x Y W1,x∈ns->pre.length<ns.length->St pre (Y++Z) W1->YieldAt Fence.wide (n-1) Tryz.prog l #[aC x.path,σ.v x] W1 fun e W'=>e= .returned (.bool true)/\St (pre++[x]) (Y++Z) W')
  (h0:St [] (yK bf be eb f x0++Z) W):
  CallsIn Fence.wide n Tryz.prog 130 #[.func (.yield l) #[] #[],pV bf,pV be] W fun e W'=>(∃v,e= .returned v)/\∃xs,xs.Perm ns/\St xs (yK bf be eb f 0++Z) W':=by
 have hsh:=hSt.sh;have h1:St [] (.box W.heap.size 181 #[.slice none 0 0]::(yK bf be eb f x0++Z)) (W.alloc (.cells #[.slice none 0 0] 181)):=hsh.new h0 _;obtain⟨w0,R0,h2,h3⟩:=hsh _ _ _ h1;have h4:=h2.gZ 9 1;have hps:=Lh (TB (x:=[]) (T:=[]) (h4.perm (List.Perm.swap _ _ _)) aR);have hcl:Hid (∀W' v',Sep w0 W' (.box W.heap.size 181 #[v']::kW v' ([]++[[]])::((yK bf be eb f x0++Z)++R0))->St [] (.box W.heap.size 181 #[v']::kW v' [[]]::(yK bf be eb f x0++Z)) W'):=Lh fun W' v' h=>h3 (.box W.heap.size 181 #[v']::kW v' [[]]::(yK bf be eb f x0++Z)) W' h
 clear h1 h2 h3 h4 h0;have hY':=Lh hY;have axI:=Lh hSt;clear hY hSt;have aFV:Hid (∀V tv xe W,St V (.box W.heap.size 181 #[tv]::kW tv []::(yK bf be eb f xe++Z)) W->True):=Lh fun _ _ _ _ _=>trivial
 clear aFV;unfold aC at*;refine callsIn_of_wp Tryz.func130 rfl trivial ?_ rfl;simp only[Tryz.ntmps130,uB,kH,qQ,Nat.reduceAdd,Nat.reduceSub,xD,xE,xH,xG,mI,kI]
 gi_wp2_with (refine⟨trivial,(fun h=>by cases h),?_⟩;gi_at_call 131;refine(callsIn_wide.2 hps.out).mono ?_;rintro e w1 ⟨rfl,v1,h⟩;have h5:=Lh (hcl.out _ _ h);clear h)
 obtain⟨bt,hbt⟩:∃bt,bt=W.heap.size:=⟨_,rfl⟩;rw[<-hbt]at h5 ⊢;clear hps hcl hbt
 gi_loopg [] (ns.length+1) (fun gg wr=>∃(V:List TN) (T:List (List UInt8)) (P:List Key) (tv:Value) (xe:Int),gg+P.length=ns.length+1/\Hid (nR ns V (T.map U4) P/\(∀d∈T,d.length<=200)/\(P≠[]->xe=0))/\Hid (St V (.box bt 181 #[tv]::kW tv T::(yK bf be eb f xe++Z)) wr))
 case atStart=>exact⟨[],[[]],[],v1,x0,rfl,Lh ⟨nR.start ns,by simp,fun h=>absurd rfl h⟩,h5⟩
 obtain⟨V,T,P,tv,xe,hg,hI,hS⟩:=hrel;obtain⟨w9,R9,h6,h7⟩:=hsh _ _ _ hS.out;rcases abS T with rfl|⟨T0,d,hTd⟩
 ·have hpn:=Lh (as2 h6);have hfin:Hid ((∃xs,xs.Perm ns/\St xs (yK bf be eb f 0++Z) wr)):=Lh (by obtain⟨i1,i2,i3⟩:=hI.out;(have aK8:P≠[]:=fun e=>by subst e;have:=i1.todo.length_eq;simp at this);have e0:=i3 aK8;subst e0;exact⟨V,i1.done hu hup,hsh.drop 2 hS.out⟩);clear h6 h7 hS hI h5 hY' axI
  gi_wp2_with (refine⟨trivial,(fun h=>by cases h),?_⟩;gi_at_call 132;refine(callsIn_wide.2 hpn.out).mono ?_;rintro e w2 ⟨rfl,rfl⟩)
  refine bodyPost_ret (results_none rfl _ _ _) rfl ?_;exact⟨⟨_,rfl⟩,hfin.out⟩
 rw[abT]at hTd;subst hTd;obtain⟨T,hT0⟩:∃T,T=T0:=⟨_,rfl⟩;subst hT0;have hT:T.length<=300:=by have:=hI.out.1.few hu;simp only[iJ,jM,kH,qQ]at this;omega
 have hpn:=Lh (alA (x:=d) h6 aD);have hd2:d.length<=200:=hI.out.2.1 d bK;have hdI:dJ ns (U4 d):=hI.out.1.isDir bK;have hls:Hid (∀W' tv',Sep w9 W' (.box bt 181 #[tv']::kW tv' T::((yK bf be eb f xe++Z)++R9))->St V ([.box bt 181 #[tv'],kW tv' T]++(yK bf be eb f xe++Z)) W'):=Lh fun W' tv' h=>h7 ([.box bt 181 #[tv'],kW tv' T]++(yK bf be eb f xe++Z)) W' h
 have hlist:=Lh (fun W' tv' xe' (h:St V ([.box bt 181 #[tv'],kW tv' T]++(yK bf be eb f xe'++Z)) W')=>axI.out.list V _ W' d hdI hd2 h);have hI':=hI;clear h6 h7 hS h5 hI;unfold aC at*
 gi_wp2_with (refine⟨trivial,(fun h=>by cases h),?_⟩;gi_at_call 132;refine(callsIn_wide.2 hpn.out).mono ?_;rintro e w2 ⟨rfl,tv2,h⟩;have h8:=Lh (hls.out _ _ h);clear h)
 clear hls hpn;have hS2:=Lh (hsh.drewN 1 h8.out);have hc:=vN hsh hS2.out;have hE:w2.drew.cell? ⟨be,0,none⟩=some (pV eb)/\w2.drew.cell? ⟨bf,0,none⟩=some (pV f):=⟨hc.2.1,hc.1⟩;refine xB (S:=fun w'=>w'.cell? ⟨be,0,none⟩=some (pV eb)/\w'.cell? ⟨bf,0,none⟩=some (pV f)) 9 fE ?_;simp only[uB,kH,qQ,Nat.reduceAdd];refine aA 0 hE ?_;refine aA 1 hE ?_;refine aA 2 hE ?_;refine bI 3 fun K hK=>?_
 go_simp;go_at_call 40;refine(hlist.out _ _ _ hS2.out).mono ?_;rintro e w3 ⟨nv,ks,rfl,hks,dQ⟩;obtain⟨A3,c3,N,e3,hN⟩:∃A c N,nv= .slice A N c/\N=ks.length:=by obtain⟨w7,R7,h6,_⟩:=hsh _ _ _ dQ;obtain⟨A,c,e,_⟩:=h6.gL 0 rfl;exact⟨A,c,_,e,iJ _⟩
 subst e3;have vI:=Lh dQ;have hc3:=vN hsh (X:=[kW _ _,.box bt 181 #[tv2],kW tv2 T]) dQ;obtain⟨c30,c31,c32,c33⟩:=hc3;clear dQ;refine hK _ _ (fun _=>⟨c31,c30⟩) ?_;clear hK K;try simp only[Act.put,gD]
 have E9:w3.cell? ⟨be,0,none⟩=some (pV eb)/\w3.cell? ⟨bf,0,none⟩=some (pV f):=⟨c31,c30⟩;refine bA 4 (fun _=>E9) ?_;refine aA 5 E9 ?_;refine aA 6 E9 ?_;refine bA 7 (fun _=>E9) ?_;refine bA 8 (fun _=>E9) ?_;refine bA 9 (fun h=>absurd rfl h) ?_;refine aQ fE ?_ _;have jT:=Lh (aeW hsh 0 (X:=[kW _ _,.box bt 181 #[tv2],kW tv2 T]) vI.out);obtain⟨w4,hw4⟩:∃w4,w4=w3.setCell ⟨eb,0,none⟩ (.int .i64 0):=⟨_,rfl⟩;rw[<-hw4]at jT ⊢;clear vI c30 c31 c32 c33 E9 hw4 hE hc hlist h8;have hc4:=vN hsh (X:=[kW _ _,.box bt 181 #[tv2],kW tv2 T]) jT.out;obtain⟨c40,c41,c42,c43⟩:=hc4;have hkl:N<=300:=by have h1:(eP ns (U4 d)).length<=ns.length:=OJ _ _;have:=hks.length_eq;omega
 have hmem:Hid (∀n∈ks,n∈ns/\n.path=aa2 d ((bE n).getLastD [])):=Lh fun n hn=>by obtain⟨h1,h2⟩:=yE.1 (hks.mem_iff.1 hn);exact⟨h1,(as0 h2).symm⟩
 obtain⟨nms,as8⟩:∃l,l=ks.map fun n=>(bE n).getLastD []:=⟨_,rfl⟩
 rw[<-as8]at jT;replace as8:=Lh as8;replace hN:=Lh hN;replace hks:=Lh hks;have aSF:(N:Int)<=300:=by omega
 clear hdI hS2
 gi_wp2
 gi_loopw [33] (fun iv wr=>∃(i:Nat) (tv3:Value),i<=N/\iv=iV i/\Hid (St (V++ks.take i) ([kW (.slice A3 N c3) nms,.box bt 181 #[tv3],kW tv3 (T++sW (ks.take i))]++(yK bf be eb f 0++Z)) wr)) (fun iv _=>N-(intOf iv).toNat)
 case atStart=>refine⟨0,tv2,fZ _,rfl,Lh ?_⟩;(have e1:V++ks.take 0=V:=by rw[OO,yX46]);(have e2:T++sW (ks.take 0)=T:=by rw[OO];exact yX46 _);rw[e1,e2];exact jT.out
 obtain⟨i,tv3,hi,rfl,hS5⟩:=hrel;have q0:(0:Int)<=(i:Int):=by omega
 by_cases hlt:i<N
 ·(have q1:(i:Int)<(N:Int):=by omega);(have hil:i<ks.length:=by rw[<-hN.out];exact hlt);obtain⟨x,hx⟩:∃x,x=ks[i]:=⟨_,rfl⟩;obtain⟨hxn,hxp⟩:=hmem.out x (by rw[hx];exact nW _);(have hlp:(V++ks.take i).length<ns.length:=by obtain⟨i1,_,_⟩:=hI'.out;rw[mZ]at i1;have h1:=(i1.next hu hks.out).len hu;rw[jM]at h1;rw[jM,qP];omega);obtain⟨nm,hnm⟩:∃nm,nm=(bE x).getLastD []:=⟨_,rfl⟩;rw[<-hnm]at hxp;obtain⟨w7,R7,h6,h7⟩:=hsh _ _ _ hS5.out;(have hnl:nms.length=N:=by rw[as8.out,iJ,hN.out]);unfold kW at h6;rw[hnl]at h6;obtain⟨g,c',e,_⟩:=h6.kC 0 rfl aD;cases e;have cn:=h6.cellAt 0 rfl i aD;(have cn2:(nms.map aC)[i]? =some (aC nm):=by rw[as8.out,qO,lC,gE hil,<-hx,hnm];rfl);rw[cn2]at cn;clear h6 h7 cn2;have kM:Hid (St (V++ks.take i) (.box wr.heap.size 105 #[iV 0,iV 0,iV 0,iV 0,iV 0]::([kW (sV g N c3) nms,.box bt 181 #[tv3],kW tv3 (T++sW (ks.take i))]++(yK bf be eb f 0++Z))) (wr.alloc (.cells #[iV 0,iV 0,iV 0,iV 0,iV 0] 105))):=Lh (hsh.new hS5.out _);obtain⟨bs,hbs⟩:∃bs,bs=wr.heap.size:=⟨_,rfl⟩;have hcase:(d=[]/\nm=x.path)\/(d≠[]/\x.path=d++47::nm):=by
   unfold aa2 at hxp;by_cases hd:d=[]
   ·rw[if_pos hd]at hxp;exact .inl ⟨hd,hxp.symm⟩
   rw[if_neg hd]at hxp;exact .inr ⟨hd,hxp⟩
  clear hxp;replace hnm:=Lh hnm;replace hx:=Lh hx;unfold aC at*;rcases hcase with⟨hd,hnx⟩|⟨hd,hnx⟩
  focus
   subst hd
   subst hnx
   gi_wp2
  rotate_left
  focus
   have hj:=as3 d nm
   rw[<-hnx]at hj
   have hxl:=hlen x hxn
   have hl3:x.path.length=d.length+(nm.length+1):=by rw[hnx,jM,kH]
   have hb1:¬9223372036854775807<d.length+1:=by omega
   have hb2:¬9223372036854775807<d.length+1+nm.length:=by omega
   have hb3:d.isEmpty=false:=by cases d<;>first |rfl|exact absurd rfl hd
   clear hl3 hxl hnx hd hd2
   gi_wp2
   clear hj hb1 hb2 hb3
  rotate_left;all_goals
   clear cn c40 c41 c42 c43
   rw[<-hbs]at kM ⊢
   obtain⟨w5,hw5⟩:∃w5,w5=wr.alloc (.cells #[iV 0,iV 0,iV 0,iV 0,iV 0] 105):=⟨_,rfl⟩
   rw[<-hw5]at kM ⊢
   clear hw5 hbs hS5
   have nI:=Lh (hsh.drewN 1 kM.out)
   have hc:=vN hsh (X:=_::[_,_,_]) nI.out
   have hE:w5.drew.cell? ⟨be,0,none⟩=some (pV eb)/\w5.drew.cell? ⟨bf,0,none⟩=some (pV f):=⟨hc.2.1,hc.1⟩
   refine xB (S:=fun w'=>w'.cell? ⟨be,0,none⟩=some (pV eb)/\w'.cell? ⟨bf,0,none⟩=some (pV f)) 9 fE ?_
   simp only[uB,kH,qQ,Nat.reduceAdd]
   refine aA 0 hE ?_
   refine aA 1 hE ?_
   refine aA 2 hE ?_
   refine bI 3 fun K hK=>?_
   go_simp
   go_at_call 79
   refine(axI.out.stat _ _ _ x hxn nI.out).mono ?_
   unfold Stats.v
   rintro e w8 ⟨rfl,vY⟩
   have hc8:=vN hsh (X:=_::[_,_,_]) vY
   have hE8:w8.cell? ⟨be,0,none⟩=some (pV eb)/\w8.cell? ⟨bf,0,none⟩=some (pV f):=⟨hc8.2.1,hc8.1⟩
   obtain⟨z0,z1,z2,z3,z4,zf⟩:=aeX hsh vY
   obtain⟨_,_,aLB,aLC⟩:=hc8
   refine hK _ _ (fun _=>hE8) ?_
   clear hK K
   try simp only[Act.put,gD]
   refine bA 4 (fun _=>hE8) ?_
   refine aA 5 hE8 ?_
   refine aA 6 hE8 ?_
   have zX:=Lh (as6 (v0:=.int .i64 (σ.k x)) (v1:=.int .i64 (σ.m x)) (v2:=.int .i64 (σ.l x)) (v3:=.int .i64 (σ.s x)) (v4:=.int .i64 (σ.i x)) hsh vY)
   have iA:=vN hsh (X:=_::[_,_,_]) zX.out
   have hE9:=And.intro iA.2.1 iA.1
   obtain⟨_,hc91,aFX,hc93⟩:=iA
   refine bA 7 (fun _=>hE9) ?_
   obtain⟨w9,IL⟩:∃w9,w9=((((w8.setCell ⟨bs,0,none⟩ (.int .i64 (σ.k x))).setCell ⟨bs,1,none⟩ (.int .i64 (σ.m x))).setCell ⟨bs,2,none⟩ (.int .i64 (σ.l x))).setCell ⟨bs,3,none⟩ (.int .i64 (σ.s x))).setCell ⟨bs,4,none⟩ (.int .i64 (σ.i x)):=⟨_,rfl⟩
   rw[<-IL]at zX hE9 hc91 aFX hc93 ⊢
   clear IL vY z0 z1 z2 z3 z4 zf aLB aLC hE8 nI hc hE
   refine bA 8 (fun _=>hE9) ?_
   refine bA 9 (fun h=>absurd rfl h) ?_
   refine aQ fE ?_ _
   have R5:=Lh (aeW hsh 0 (X:=_::[_,_,_]) zX.out)
   obtain⟨w10,aFY⟩:∃w10,w10=w9.setCell ⟨eb,0,none⟩ (.int .i64 0):=⟨_,rfl⟩
   rw[<-aFY]at R5 ⊢
   clear aFY zX hE9 hc91 aFX hc93
   obtain⟨_,c51,c52,_⟩:=vN hsh (X:=_::[_,_,_]) R5.out
   obtain⟨z0,z1,z2,z3,z4,_⟩:=aeX hsh R5.out
   have hkd:=axI.out.kind x hxn
   have hnext:Hid (V++ks.take (i+1)=(V++ks.take i)++[x]):=Lh (by rw[pI,gE hil,<-hx.out,pG];rfl)
   have axL:ks.take (i+1)=ks.take i++[x]:=by rw[pI,gE hil,<-hx.out];rfl
   by_cases hf:x.file= -1
   ·rw[if_pos hf]at hkd;rw[hkd]at z0 R5;obtain⟨wa,Ra,ha,hb⟩:=hsh _ _ _ R5.out;(have hlT:(T++sW (ks.take i)).length<=1000:=by have h1:=as5 (ks.take i);rw[qP]at h1;rw[jM];omega);have hps:=Lh (TB (x:=x.path) (Sep.dB [2,3,0,1] ha aR bK) hlT);have hcl:Hid (∀W' v',Sep wa W' (.box bt 181 #[v']::kW v' ((T++sW (ks.take i))++[x.path])::(.box bs 105 #[iV 1,iV (σ.m x),iV (σ.l x),iV (σ.s x),iV (σ.i x)]::kW (sV g N c3) nms::((yK bf be eb f 0++Z)++Ra)))->
      St (V++ks.take i) ((.box bs 105 #[iV 1,iV (σ.m x),iV (σ.l x),iV (σ.s x),iV (σ.i x)]::kW (sV g N c3) nms:: .box bt 181 #[v']::kW v' (T++sW (ks.take (i+1)))::yK bf be eb f 0)++Z) W'):=Lh fun W' v' h=>by
     (have e1:(T++sW (ks.take i))++[x.path]=T++sW (ks.take (i+1)):=by rw[axL,XZ,if_pos hf,pG]);rw[e1]at h;exact hb _ _ (Sep.dB [2,3,0,1] h aR bK)
    have hyd:=Lh (fun W' v' h=>hY'.out (V++ks.take i) x (.box bs 105 #[iV 1,iV (σ.m x),iV (σ.l x),iV (σ.s x),iV (σ.i x)]::kW (sV g N c3) nms:: .box bt 181 #[v']::kW v' (T++sW (ks.take (i+1)))::yK bf be eb f 0) W' hxn hlp (hcl.out W' v' h));(have hz:Hid (∀W' v',Sep wa W' (.box bt 181 #[v']::kW v' ((T++sW (ks.take i))++[x.path])::(.box bs 105 #[iV 1,iV (σ.m x),iV (σ.l x),iV (σ.s x),iV (σ.i x)]::kW (sV g N c3) nms::((yK bf be eb f 0++Z)++Ra)))->W'.cell? ⟨bs,0,none⟩=some (iV 1)/\W'.cell? ⟨bs,1,none⟩=some (iV (σ.m x))/\W'.cell? ⟨bs,2,none⟩=some (iV (σ.l x))/\W'.cell? ⟨bs,3,none⟩=some (iV (σ.s x))/\W'.cell? ⟨bs,4,none⟩=some (iV (σ.i x))):=Lh fun W' v' h=>⟨h.bC 2 rfl 0,h.bC 2 rfl 1,h.bC 2 rfl 2,h.bC 2 rfl 3,h.bC 2 rfl 4⟩);clear ha hb R5 hlT axL z1 z2 z3 z4;unfold aC at*
    gi_wp2_with (refine⟨trivial,(fun h=>by cases h),?_⟩;gi_at_call 131;refine(callsIn_wide.2 hps.out).mono ?_;rintro e w11 ⟨rfl,v9,h⟩;(obtain⟨y0,y1,y2,y3,y4⟩:=hz.out _ _ h);(obtain⟨fn,tmps,assign,body,hy,hR⟩:=hyd.out _ _ h);(have hR':=Lh hR);unfold Stats.v at hy;rw[hkd]at hy;clear h hR z0)
    refine⟨(fun h=>by cases h),?_⟩;refine hR'.out.mono ?_;rintro e W9 ⟨rfl,hJ⟩;have hJ':=Lh (hsh.drop 1 hJ);clear hJ hR' hy y0 y1 y2 y3 y4
    gi_wp2
    go_roundw
    case rel=>refine⟨i+1,v9,by omega,by simp,Lh ?_⟩;rw[hnext.out];exact hJ'.out
    case measure=>simp[intOf];omega
   ·rw[if_neg hf]at hkd;rw[hkd]at z0 R5;(have e1:T++sW (ks.take (i+1))=T++sW (ks.take i):=by rw[axL,XZ,if_neg hf]);have hR0:=hY'.out (V++ks.take i) x (.box bs 105 #[iV 2,iV (σ.m x),iV (σ.l x),iV (σ.s x),iV (σ.i x)]::kW (sV g N c3) nms:: .box bt 181 #[tv3]::kW tv3 (T++sW (ks.take i))::yK bf be eb f 0) w10 hxn hlp R5.out;replace e1:=Lh e1;unfold aC at*;obtain⟨fn,tmps,assign,body,hy,hR⟩:=hR0;have hR':=Lh hR;unfold Stats.v at hy;rw[hkd]at hy;clear hR R5 axL
    gi_wp2
    refine⟨(fun h=>by cases h),?_⟩;refine hR'.out.mono ?_;rintro e W9 ⟨rfl,hJ⟩;have hJ':=Lh (hsh.drop 1 hJ);clear hJ hR' hy z0 z1 z2 z3 z4
    gi_wp2
    go_roundw
    case rel=>refine⟨i+1,tv3,by omega,by simp,Lh ?_⟩;rw[hnext.out,e1.out];exact hJ'.out
    case measure=>simp[intOf];omega
 have hiN:i=N:=by omega
 have hin:i=ks.length:=by rw[hiN];exact hN.out
 have hno:¬(i:Int)<(N:Int):=by omega
 have bZ:¬i<N:=by omega
 have hfin:Hid (nR ns (V++ks) ((T++sW ks).map U4) (P++[U4 d])/\∀q∈T++sW ks,q.length<=200):=Lh (by
  obtain⟨i1,i2,_⟩:=hI'.out;refine⟨?_,fun q hq=>?_⟩
  ·rw[mZ,as4 fun n hn=>hne n (hmem.out n hn).1];rw[mZ]at i1;exact i1.next hu hks.out
  rcases iM.1 hq with hq|hq
  ·exact i2 q (vU _ hq)
  unfold sW at hq;obtain⟨n,hn,rfl⟩:=List.mem_map.1 hq;exact hlen n (hmem.out n (List.mem_filter.1 hn).1).1)
 have kM:Hid (St (V++ks) (.box bt 181 #[tv3]::kW tv3 (T++sW ks)::(yK bf be eb f 0++Z)) wr):=Lh (by have h:=hsh.drop 1 hS5.out;rw[hin,M7]at h;exact h);have hgg:gk+P.length=ns.length+1:=hg;have hpl:P.length+1<=ns.length+1:=by have h1:=hfin.out.1.few hu;rw[jM,oL]at h1;omega
 clear hS5 c40 c41 c42 c43 hI' jT
 gi_wp2
 gi_roundg (gk-1)
 case rel=>exact⟨_,_,_,_,_,by rw[jM,oL];omega,Lh ⟨hfin.out.1,hfin.out.2,fun _=>rfl⟩,kM⟩
 case measure=>omega
end Go.Proofs.YtmjomdkleikgbaaGreat
namespace Go.Proofs.YtmjomdkleikgbaaGreat
open Go.RowKit
section
variable {g:LT} {nm:Nat} {ns:List TN} {fs:List FT} {dn:Key->Nat} {φ:Int->Nat}
theorem l6.walkDir (h:l6 g nm ns fs dn φ):∀(k:Nat) (K:Key),K.length=k->dJ ns K->∃c,nZ ns k K= .ok c/\lH c=true
 |0,K,hk,hK=>⟨none,rfl,rfl⟩
 |k+1,K,hk,hK=>by
  rcases hK with e|⟨n,hn,e,hf⟩
  ·rw[e]at hk;cases hk
  have hup:=h.up n hn;rw[e]at hup;obtain⟨c,h1,h2⟩:=h.walkDir k K.dropLast (by rw[abN,hk];rfl) hup;refine⟨some n,?_,by show decide (n.file= -1)=true;rw[jN];exact hf⟩;(show(nZ ns k K.dropLast).bind (stepT ns K)=_);rw[h1];(show stepT ns K c=_);unfold stepT;rw[if_pos h2,<-e,D6 h.uniq hn]
theorem l6.at_mem (h:l6 g nm ns fs dn φ) {n:TN} (hn:n∈ns):CG ns (bE n)= .ok (some n):=by
 obtain⟨c,h1,h2⟩:=h.walkDir _ _ rfl (h.up n hn);unfold CG;rw[h1];show(if lH c=true then Except.ok (kP ns (bE n))else Except.error 22)=_
 rw[if_pos h2,D6 h.uniq hn]
theorem l6.TD (h:l6 g nm ns fs dn φ) {n:TN} (hn:n∈ns):kR ns (bE n)= .ok n:=by unfold kR;rw[h.at_mem hn]
end
def stE (ns:List TN) (path:List UInt8):Int:=if dX path=0 then(match kR ns (splitB path)with| .error e=>e| .ok _=>0)else dX path
structure aiO (ns:List TN) (fs:List FT) (dn:Key->Nat) (φ:Int->Nat) (path:List UInt8) (k m l s i:Int):Prop where
 none:stE ns path≠0->k=0/\m=0/\l=0/\s=0/\i=0
 dir:∀n,dX path=0->kR ns (splitB path)= .ok n->n.file= -1->k=1/\m=n.mode/\l=1/\s=dM ns (splitB path)/\i=dn (splitB path)+1
 file:∀n,dX path=0->kR ns (splitB path)= .ok n->n.file≠ -1->k=2/\(∃f,fs[n.file.toNat]? =some f/\m=f.mode/\s=f.bs.length)/\l=(ns.countP fun x=>decide (x.file=n.file):Nat)/\i=φ n.file+1
section
variable {w0 w:World} {R:List aW} {f q p:Nat} {S:VS} {ns:List TN} {fs:List FT} {nb names:Nat} {g:LT} {dn:Key->Nat} {φ:Int->Nat}
theorem Vt.xY (hV:Vt S ns fs g dn φ) (path:List UInt8):xY S path=stE ns path:=by unfold Go.Proofs.YtmjomdkleikgbaaGreat.xY stE;rw[hV.something path];cases kR ns (splitB path)<;>rfl
theorem aA9 (x:LI) (l:List Nat):(x.vi l).kind=x.kind/\(x.vi l).mode=x.mode/\(x.vi l).links=x.links/\(x.vi l).size=x.size:=⟨rfl,rfl,rfl,rfl⟩
theorem Vt.aBA (hV:Vt S ns fs g dn φ) (path:List UInt8):∃k m l s i,statOf S path=IZ k m l s i/\aiO ns fs dn φ path k m l s i:=by
 unfold statOf;rw[hV.xY];by_cases h0:stE ns path=0
 ·have hpl:dX path=0:=by
   unfold stE at h0;by_cases h1:dX path=0
   ·exact h1
   rw[if_neg h1]at h0;exact h0
  rw[if_pos h0];obtain⟨n,hn⟩:∃n,kR ns (splitB path)= .ok n:=by
   unfold stE at h0;rw[if_pos hpl]at h0;cases hp:kR ns (splitB path)with
   |error e=>rw[hp]at h0;exact absurd h0 (K6 hp)
   |ok n=>exact⟨n,rfl⟩
  have ha:=CJ hn;obtain⟨hP,hno,_⟩:=iT (S:=S) hV.rep ha;obtain⟨hm,hk⟩:=eY hno.symm;obtain⟨hi,hkind⟩:=hV.rep.MV hm;rw[hV.tY ha];simp only[nA];obtain⟨v1,v2,v3,v4⟩:=aA9 (g (dE dn φ n)) (aH S.cur (dE dn φ n)).aB;rw[hV.iP.ph.head _ hi,v1,v2,v3,v4];refine⟨_,_,_,_,_,rfl,fun h=>absurd h0 h,fun n2 _ e hf=>?_,fun n2 _ e hf=>?_⟩
  ·rw[hn]at e;cases e;obtain⟨d1,d2,d3,d4⟩:=hV.rep.dir n hm hf;have hD:dJ ns (splitB path):=.inr ⟨n,hm,hk,hf⟩;have hz:=(hV.rep.wQ hD).2;rw[ar6 hf,hk]at*;rw[hz,d2,d4];exact⟨rfl,d3,rfl,rfl,by omega⟩
  rw[hn]at e;cases e;obtain⟨f1,f2,f3,⟨ff,f4,f5,f6⟩,f7⟩:=hV.rep.file n hm hf;rw[RY hf]at*;(have hz:(g (φ n.file)).size=(g (φ n.file)).data.length:=by unfold LI.size;rw[f3,if_neg aR]);rw[f3,f7,hz,f6];exact⟨rfl,⟨ff,f4,f5,rfl⟩,rfl,by omega⟩
 rw[if_neg h0];refine⟨0,0,0,0,0,rfl,fun _=>⟨rfl,rfl,rfl,rfl,rfl⟩,fun n h1 h2 _=>?_,fun n h1 h2 _=>?_⟩
 ·exact absurd (by unfold stE;rw[if_pos h1,h2]) h0
 exact absurd (by unfold stE;rw[if_pos h1,h2]) h0
theorem aFZ {path:List UInt8} (hL:jC S ns fs nb names) (hV:Vt S.base ns fs g dn φ) (hp:path.length<=9223372036854775807) (h:Sep w0 w (bB f q p S::R)):
  Calls Tryz.prog 79 #[pV f,aC path] w fun e w'=>∃k m l s i,e= .returned (.tuple #[IZ k m l s i,iV (stE ns path)])/\aiO ns fs dn φ path k m l s i/\Sep w0 w' (bB f q p S.base::R):=by
 refine(arE hp hL.off hV.iP.vw h).mono ?_;rintro e w' ⟨rfl,h1⟩;obtain⟨k,m,l,s,i,e1,h2⟩:=hV.aBA path;rw[e1,hV.xY];exact⟨k,m,l,s,i,rfl,h2,h1⟩
end
def o9 (ns:List TN) (fs:List FT) (dn:Key->Nat) (φ:Int->Nat):Stats where
 k:=fun n=>if n.file= -1 then 1 else 2
 m:=fun n=>if n.file= -1 then n.mode else((fs[n.file.toNat]?).map fun f=>(f.mode:Int)).getD 0
 l:=fun n=>if n.file= -1 then 1 else((ns.countP fun x=>decide (x.file=n.file):Nat):Int)
 s:=fun n=>if n.file= -1 then(dM ns (bE n):Int)else((fs[n.file.toNat]?).map fun f=>(f.bs.length:Int)).getD 0
 i:=fun n=>if n.file= -1 then(dn (bE n):Int)+1 else(φ n.file:Int)+1
theorem CR {p:List UInt8} (h:aV p=true):dX p=0:=by unfold dX;simp[h,nG h]
section
variable {ns:List TN} {fs:List FT} {dn:Key->Nat} {φ:Int->Nat} {g:LT} {T:VS}
theorem axM {n:TN} {k m l s i:Int} (hV:Vt T ns fs g dn φ) (hn:n∈ns) (hv:aV n.path=true) (h:aiO ns fs dn φ n.path k m l s i):IZ k m l s i=(o9 ns fs dn φ).v n/\stE ns n.path=0:=by
 have hp:=CR hv;have hpr:kR ns (splitB n.path)= .ok n:=hV.rep.TD hn;refine⟨?_,by unfold stE;rw[if_pos hp,hpr]⟩;unfold IZ Stats.v o9;simp only;by_cases hf:n.file= -1
 ·obtain⟨h1,h2,h3,h4,h5⟩:=h.dir n hp hpr hf;rw[h1,h2,h3,h4,h5,if_pos hf,if_pos hf,if_pos hf,if_pos hf,if_pos hf];rfl
 obtain⟨h1,⟨f,h2,h3,h4⟩,h5,h6⟩:=h.file n hp hpr hf;rw[h1,h3,h4,h5,h6,if_neg hf,if_neg hf,if_neg hf,if_neg hf,if_neg hf,h2];rfl
theorem atA (hV:Vt T ns fs g dn φ) (hv:∀n∈ns,aV n.path=true) {d:List UInt8} (h:dJ ns (U4 d)):lsX ns d=0:=by
 unfold lsX;by_cases e:d=[]
 ·rw[if_pos e]
 rw[if_neg e];have hk:U4 d=splitB d:=by unfold U4;rw[if_neg e]
 rw[hk]at h;rcases h with h|⟨n,hn,h2,hf⟩
 ·exact absurd h (gJ d)
 have hp:n.path=d:=rQ _ (iC _) h2;have hv2:=hv n hn;rw[hp]at hv2;rw[if_pos (CR hv2),<-h2,hV.rep.TD hn];simp only;rw[if_pos hf]
theorem axN (hV:Vt T ns fs g dn φ) {n:TN} (hn:n∈ns) (hv:aV n.path=true) (hf:n.file≠ -1):rdX ns n.path=0/\rdB ns fs n.path=rO fs n.file:=by
 have hp:=CR hv;have hfl:wD ns (splitB n.path)= .ok n:=by unfold wD;rw[show kR ns (splitB n.path)= .ok n from hV.rep.TD hn];simp only;rw[if_neg hf]
 unfold rdX rdB;rw[if_pos hp,if_pos hp,hfl];exact⟨rfl,rfl⟩
end
def yF (φ:Int->Nat) (V:List TN):List (Lit×Value):=(fD V).zipIdx.map fun x=>(Lit.int .i64 ((φ x.1:Int)+1),Value.int .i64 (x.2:Int))
theorem atB (φ:Int->Nat) (V:List TN):(yF φ V).length=(fD V).length:=by unfold yF;rw[iJ,ajY]
theorem atC {φ:Int->Nat} {V:List TN} {p:Lit×Value} (h:p∈yF φ V):∃(id:Int) (k:Nat),(fD V)[k]? =some id/\p=(.int .i64 ((φ id:Int)+1),.int .i64 (k:Int)):=by obtain⟨x,hx,rfl⟩:=List.mem_map.1 h;obtain⟨id,k⟩:=x;rw[alX]at hx;exact⟨id,k,hx,rfl⟩
def Inj (φ:Int->Nat) (V:List TN):Prop:=∀a∈V,∀b∈V,¬a.file<0->¬b.file<0->φ a.file=φ b.file->a.file=b.file
theorem atD {φ:Int->Nat} {V:List TN} {x:TN} (hi:Inj φ (V++[x])) (hK:mY (yF φ V)) (hx:¬x.file<0) (hm:x.file∈fD V):getM (yF φ V) (.int .i64 ((φ x.file:Int)+1))=some (.int .i64 ((fD V).idxOf x.file:Nat)):=by refine yG hK ?_;have hl:=List.idxOf_lt_length_iff.2 hm;refine List.mem_map.2 ⟨(x.file,(fD V).idxOf x.file),?_,rfl⟩;rw[alX];rw[gE hl,ab0 hl]
theorem atE {φ:Int->Nat} {V:List TN} {x:TN} (hi:Inj φ (V++[x])) (hx:¬x.file<0) (hm:x.file∉fD V) (hk:WideAt.IsKeyLit (.int .i64 ((φ x.file:Int)+1))):getM (yF φ V) (.int .i64 ((φ x.file:Int)+1))=none/\qL (yF φ V) (.int .i64 ((φ x.file:Int)+1)) (.int .i64 ((fD V).length:Nat))=yF φ (V++[x]):=by
 have hno:∀p∈yF φ V,p.1≠ .int .i64 ((φ x.file:Int)+1):=fun p hp e=>by obtain⟨id,k,h1,rfl⟩:=atC hp;simp only[Lit.int.injEq,true_and]at e;obtain⟨n,hn,h2,h3⟩:=zD _ id (gG h1);have h4:=hi n (vU _ hn) x bK h3 hx (by rw[h2];omega);exact hm (by rw[<-h4,h2];exact gG h1)
 have hdel:nK (yF φ V) (.int .i64 ((φ x.file:Int)+1))=yF φ V:=by unfold nK;rw[EZ];intro p hp;have h1:=lI (hno p hp);simpa using h1
 refine⟨getM_none hk hno,?_⟩;unfold qL;rw[hdel];unfold yF;rw[kG,if_neg hx,if_neg hm,ajZ,mZ];simp
def l9 (nv fv:Value) (N:List TN) (F:List TF) (vs:List Value):List aW:=.sl 68 3 nv N.length (cZ N):: .sl 71 2 fv F.length (iF F vs)::List.zipWith (fun v (f:TF)=>aI v f.bs) vs F
theorem Z40 {P:Prop} (h:P:=by have hlt:=(gF.1 hk).1;rw[vT (Nat.le_add_right _ _),J2,EI hlt];exact hk):P:=h
theorem JO {w0 w:World} {X R:List aW} {nv fv:Value} {N:List TN} {F:List TF} {vs:List Value} (hl:vs.length=F.length) (h:Sep w0 w (X++(l9 nv fv N F vs++R))):gW w nv fv N F vs:=by
 have at_:∀k A,(l9 nv fv N F vs)[k]? =some A->(X++(l9 nv fv N F vs++R))[X.length+k]? =some A:=fun k A hk=>by exact Z40
 refine⟨hl,h.rd _ (at_ 0 _ rfl),h.rd _ (at_ 1 _ rfl),fun k u f hu hf=>?_⟩;have hz:(l9 nv fv N F vs)[k+2]? =some (aI u f.bs):=by(show(List.zipWith (fun v (f:TF)=>aI v f.bs) vs F)[k]? =_);exact apZ hu hf
 exact⟨_,h.rd _ (at_ _ _ hz),fun y hy=>by obtain⟨x,_,rfl⟩:=List.mem_map.1 hy;rfl,rfl⟩
structure aeY where
 f:Nat
 q:Nat
 p:Nat
 b1:Nat
 bt:Nat
 bm:Nat
 bk:Nat
def TE (c:aeY) (φ:Int->Nat) (fs:List FT) (V:List TN) (nv fv:Value) (vs:List Value):List aW:=
 .box c.b1 37 #[.pointer (some ⟨c.f,0,none⟩)]:: .box c.bt 25 #[nv,fv]:: .box c.bm 100 #[.map (some c.bk)]::lJ 3 c.bk (yF φ V)::l9 nv fv (fJ V) (fU V fs) vs
def aeZ (w0:World) (R:List aW) (T:VS) (ns:List TN) (fs:List FT) (nb names:Nat) (c:aeY) (φ:Int->Nat) (V:List TN) (Y:List aW) (W:World):Prop:=
 ∃(S1:VS) (nv fv:Value) (vs:List Value),S1.base=T/\(jC S1 ns fs nb names/\∀n∈V,n∈ns)/\vs.length=(fU V fs).length/\Sep w0 W (bB c.f c.q c.p S1::(Y++(TE c φ fs V nv fv vs++R)))
section
variable {w0:World} {R:List aW} {T:VS} {ns:List TN} {fs:List FT} {nb names:Nat} {c:aeY} {φ:Int->Nat} {g:LT} {dn:Key->Nat}
theorem wU :Shared (aeZ w0 R T ns fs nb names c φ):=by rintro V Y W ⟨S1,nv,fv,vs,h1,h2,h3,h4⟩;refine⟨w0,bB c.f c.q c.p S1::(TE c φ fs V nv fv vs++R),h4.perm lD.symm,fun Y' W' h=>⟨S1,nv,fv,vs,h1,h2,h3,h.perm lD⟩⟩
theorem axO (hV:Vt T ns fs g dn φ) (hv:∀n∈ns,aV n.path=true) (hl:∀n∈ns,n.path.length<=200):aiN (aeZ w0 R T ns fs nb names c φ) ns c.f (o9 ns fs dn φ):=by
 refine⟨wU,?_,?_,fun n hn=>rfl⟩
 ·rintro V Y W d hd hdl ⟨S1,nv,fv,vs,h1,h2,h3,h4⟩;(have hV1:Vt S1.base ns fs g dn φ:=by rw[h1];exact hV);obtain⟨hx,hp,hs⟩:=hV1.list d;refine(RJ (path:=d) aD h2.1.off hV1.iP.vw hV1.iP.akT h4).mono ?_;rintro e w' ⟨v,rfl,hS⟩;rw[hx,atA hV hv hd];(have hls:lsN ns d=(eP ns (U4 d)).map fun n=>(bE n).getLastD []:=by unfold lsN;rw[if_pos (atA hV hv hd)]);rw[hls]at hp;obtain⟨ks,hk1,hk2⟩:=XX hp;refine⟨v,ks,rfl,hk1,S1.base,nv,fv,vs,?_,⟨h2.1.base,h2.2⟩,h3,?_⟩
  ·rw[<-h1];rfl
  rw[hk2];exact hS.perm (List.Perm.swap _ _ _)
 rintro V Y W n hn ⟨S1,nv,fv,vs,h1,h2,h3,h4⟩;have hV1:Vt S1.base ns fs g dn φ:=by rw[h1];exact hV
 refine(aFZ (path:=n.path) h2.1 hV1 (by have:=hl n hn;omega) h4).mono ?_;rintro e w' ⟨k,m,l,s,i,rfl,h5,h6⟩;obtain⟨e1,e2⟩:=axM hV hn (hv n hn) h5;rw[e1,e2];exact⟨rfl,S1.base,nv,fv,vs,by rw[<-h1];rfl,⟨h2.1.base,h2.2⟩,h3,h6⟩
end
theorem Z46 {P:Prop} (h:P:=by
 haveI:DecidableEq aW:=fun a b=>Classical.propDecidable (a=b)
 rw[J3];intro y;simp only[OM];omega):P:=h
end Go.Proofs.YtmjomdkleikgbaaGreat
