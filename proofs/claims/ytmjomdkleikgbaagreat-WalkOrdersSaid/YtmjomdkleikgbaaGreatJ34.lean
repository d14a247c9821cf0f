/- Parts. -/
import Derived.Test.YtmjomdkleikgbaaGreatJ33
import Derived.Sort.LoopGhostIn
set_option linter.unusedVariables false
set_option linter.unusedSimpArgs false
set_option maxRecDepth 100000
set_option maxHeartbeats 20000000
namespace Go.Proofs.YtmjomdkleikgbaaGreat
open Go.RowKit Go.Shelf
attribute [local go_sem] Oper.semAt_some
structure Stats where
 k:TN->Int
 m:TN->Int
 l:TN->Int
 s:TN->Int
 i:TN->Int
def Stats.v (σ:Stats) (n:TN):Value:=.agg #[iV (σ.k n),iV (σ.m n),iV (σ.l n),iV (σ.s n),iV (σ.i n)]
structure afZ (St:List TN->List aV->World->Prop) (ns:List TN) (f:Nat) (σ:Stats):Prop where
 sh:Shared St
 list:∀V Y W d,dI ns (SH d)->d.length<=200->St V Y W->Calls Tryz.prog 40 #[pV f,aC d] W fun e w'=>∃(v:Value) (ks:List TN),e= .returned (.tuple #[v,iV 0])/\ks.Perm (eB ns (SH d))/\St V (kY v (ks.map fun n=>(aZ n).getLastD [])::Y) w'
 stat:∀V Y W n,n∈ns->St V Y W->Calls Tryz.prog 79 #[pV f,aC n.path] W fun e w'=>e= .returned (.tuple #[σ.v n,iV 0])/\St V Y w'
 kind:∀n∈ns,σ.k n=if n.file= -1 then 1 else 2
theorem apX (d x:List UInt8):((⟨d.toArray⟩++⟨#[47]⟩:ByteArray)++⟨x.toArray⟩)=⟨(d++47::x).toArray⟩:=by
 have e:((⟨d.toArray⟩++⟨#[47]⟩:ByteArray)++⟨x.toArray⟩).data.toList=d++47::x:=by simp
 generalize((⟨d.toArray⟩++⟨#[47]⟩:ByteArray)++⟨x.toArray⟩)=t at e;obtain⟨⟨l⟩⟩:=t;simp at e;rw[e]
def rR (V:List TN):List (List UInt8):=(V.filter fun n=>decide (n.file= -1)).map (·.path)
theorem apY {V:List TN} (h:∀n∈V,n.path≠[]):(rR V).map SH=uL V:=by
 unfold rR uL;rw[qU];apply vW;intro n hn;show SH n.path=aZ n
 unfold SH aZ;rw[if_neg (h n (List.mem_filter.1 hn).1)]
theorem VK (V:List TN) (n:TN):rR (V++[n])=if n.file= -1 then rR V++[n.path]else rR V:=by
 unfold rR;rw[FH,mM];by_cases h:n.file= -1
 ·rw[if_pos h];simp[h]
 rw[if_neg h];simp[h]
theorem apZ (V:List TN):(rR V).length<=V.length:=by unfold rR;rw[iT];exact RG _ _
def CY (bf be eb f:Nat) (x:Int):List aV:=[.box bf 37 #[pV f],.box be 96 #[pV eb],aH eb x]
section
variable {St:List TN->List aV->World->Prop} {bf be eb f:Nat} {xe:Int} {V:List TN} {X Z:List aV} {W:World}
theorem uN (hS:Shared St) (h:St V (X++(CY bf be eb f xe++Z)) W):W.cell? ⟨bf,0,none⟩=some (pV f)/\W.cell? ⟨be,0,none⟩=some (pV eb)/\W.cell? ⟨eb,0,none⟩=some (iV xe)/\W.frozen? ⟨eb,0,none⟩=false:=by
 obtain⟨w0,R,h1,_⟩:=hS _ _ _ h;have e:∀k A,(CY bf be eb f xe)[k]? =some A->((X++(CY bf be eb f xe++Z))++R)[X.length+k]? =some A:=fun k A hk=>by have hl:=(gF.1 hk).1;rw[nT,uS (Nat.le_add_right _ _),IQ,nT,C9 hl];exact hk
 exact⟨h1.bC _ (e 0 _ rfl) 0,h1.bC _ (e 1 _ rfl) 0,h1.bC _ (e 2 _ rfl) 0,h1.bF _ (e 2 _ rfl) 0⟩
theorem acN (hS:Shared St) (x:Int) (h:St V (X++(CY bf be eb f xe++Z)) W):St V (X++(CY bf be eb f x++Z)) (W.setCell ⟨eb,0,none⟩ (.int .i64 x)):=by
 obtain⟨w0,R,h1,h2⟩:=hS _ _ _ h;have e:((X++(CY bf be eb f xe++Z))++R)[X.length+2]? =some (aH eb xe):=by rw[nT,uS (Nat.le_add_right _ _),IQ];rfl
 have h3:=h1.bS _ e 0 (.int .i64 x);refine h2 _ _ ?_;have e2:((X++(CY bf be eb f xe++Z))++R).set (X.length+2) (.box eb 40 (#[Value.int .i64 xe].setIfInBounds 0 (.int .i64 x)))=(X++(CY bf be eb f x++Z))++R:=by simp only[nT];rw[TC _ _ (Nat.le_add_right _ _),IQ];rfl
 rw[<-e2];exact h3
end
theorem ap0 {St:List TN->List aV->World->Prop} {V:List TN} {Y:List aV} {W:World} {b:Nat} {t:TypeId} {c0 c1 c2 c3 c4 v0 v1 v2 v3 v4:Value} (hS:Shared St) (h:St V (.box b t #[c0,c1,c2,c3,c4]::Y) W):
  St V (.box b t #[v0,v1,v2,v3,v4]::Y) (((((W.setCell ⟨b,0,none⟩ v0).setCell ⟨b,1,none⟩ v1).setCell ⟨b,2,none⟩ v2).setCell ⟨b,3,none⟩ v3).setCell ⟨b,4,none⟩ v4):=by
 obtain⟨w0,R,h1,h2⟩:=hS _ _ _ h;exact h2 _ _ (((((h1.bS 0 rfl 0 v0).bS 0 rfl 1 v1).bS 0 rfl 2 v2).bS 0 rfl 3 v3).bS 0 rfl 4 v4)
theorem acO {St:List TN->List aV->World->Prop} {V:List TN} {Y:List aV} {W:World} {b:Nat} {t:TypeId} {c0 c1 c2 c3 c4:Value} (hS:Shared St) (h:St V (.box b t #[c0,c1,c2,c3,c4]::Y) W):
  W.cell? ⟨b,0,none⟩=some c0/\W.cell? ⟨b,1,none⟩=some c1/\W.cell? ⟨b,2,none⟩=some c2/\W.cell? ⟨b,3,none⟩=some c3/\W.cell? ⟨b,4,none⟩=some c4/\∀j,W.frozen? ⟨b,j,none⟩=false:=by
 obtain⟨w0,R,h1,_⟩:=hS _ _ _ h;exact⟨h1.bC 0 rfl 0,h1.bC 0 rfl 1,h1.bC 0 rfl 2,h1.bC 0 rfl 3,h1.bC 0 rfl 4,h1.bF 0 rfl⟩
theorem ap1 {St:List TN->List aV->World->Prop} {ns:List TN} {f:Nat} {σ:Stats} (hSt:afZ St ns f σ) (hu:(ns.map aZ).Nodup) (hup:∀n∈ns,dI ns (aZ n).dropLast) (hlen:∀n∈ns,n.path.length<=200) (hne:∀n∈ns,n.path≠[]) (lS:ns.length<=300)
  (l bf be eb n:Nat) (x0:Int) (Z:List aV) (W:World)
  (hY:∀pre x Y W1,x∈ns->pre.length<ns.length->St pre (Y++Z) W1->YieldAt Fence.wide (n-1) Tryz.prog l #[aC x.path,σ.v x] W1 fun e W'=>e= .returned (.bool true)/\St (pre++[x]) (Y++Z) W')
  (h0:St [] (CY bf be eb f x0++Z) W):
  CallsIn Fence.wide n Tryz.prog 130 #[.func (.yield l) #[] #[],pV bf,pV be] W fun e W'=>(∃v,e= .returned v)/\∃xs,xs.Perm ns/\St xs (CY bf be eb f 0++Z) W':=by
 have hsh:=hSt.sh;have h1:St [] (.box W.heap.size 181 #[.slice none 0 0]::(CY bf be eb f x0++Z)) (W.alloc (.cells #[.slice none 0 0] 181)):=hsh.new h0 _;obtain⟨w0,R0,h2,h3⟩:=hsh _ _ _ h1;have h4:=h2.iO 9 1;have hps:=Lh (acL (x:=[]) (T:=[]) (h4.perm (List.Perm.swap _ _ _)) aR);have hcl:Hid (∀W' v',Sep w0 W' (.box W.heap.size 181 #[v']::kY v' ([]++[[]])::((CY bf be eb f x0++Z)++R0))->St [] (.box W.heap.size 181 #[v']::kY v' [[]]::(CY bf be eb f x0++Z)) W'):=Lh fun W' v' h=>h3 (.box W.heap.size 181 #[v']::kY v' [[]]::(CY bf be eb f x0++Z)) W' h
 clear h1 h2 h3 h4 h0;have hY':=Lh hY;have atW:=Lh hSt;clear hY hSt;have aBO:Hid (∀V tv xe W,St V (.box W.heap.size 181 #[tv]::kY tv []::(CY bf be eb f xe++Z)) W->True):=Lh fun _ _ _ _ _=>trivial
 clear aBO;unfold aC at*;refine callsIn_of_wp Tryz.func130 rfl trivial ?_ rfl;simp only[Tryz.ntmps130,kJ,kM,rF,Nat.reduceAdd,Nat.reduceSub,yZ,y7,y9,y8,mP,kN]
 gi_wp2_with (refine⟨trivial,(fun h=>by cases h),?_⟩;gi_at_call 131;refine(callsIn_wide.2 hps.out).mono ?_;rintro e w1 ⟨rfl,v1,h⟩;have h5:=Lh (hcl.out _ _ h);clear h)
 obtain⟨bt,hbt⟩:∃bt,bt=W.heap.size:=⟨_,rfl⟩;rw[<-hbt]at h5 ⊢;clear hps hcl hbt
 gi_loopg [] (ns.length+1) (fun gg wr=>∃(V:List TN) (T:List (List UInt8)) (P:List Key) (tv:Value) (xe:Int),gg+P.length=ns.length+1/\Hid (nD ns V (T.map SH) P/\(∀d∈T,d.length<=200)/\(P≠[]->xe=0))/\Hid (St V (.box bt 181 #[tv]::kY tv T::(CY bf be eb f xe++Z)) wr))
 case atStart=>exact⟨[],[[]],[],v1,x0,rfl,Lh ⟨nD.start ns,by simp,fun h=>absurd rfl h⟩,h5⟩
 obtain⟨V,T,P,tv,xe,hg,hI,hS⟩:=hrel;obtain⟨w9,R9,h6,h7⟩:=hsh _ _ _ hS.out;rcases Y8 T with rfl|⟨T0,d,hTd⟩
 ·have hpn:=Lh (apW h6);have hfin:Hid ((∃xs,xs.Perm ns/\St xs (CY bf be eb f 0++Z) wr)):=Lh (by obtain⟨i1,i2,i3⟩:=hI.out;(have aG0:P≠[]:=fun e=>by subst e;have:=i1.todo.length_eq;simp at this);have e0:=i3 aG0;subst e0;exact⟨V,i1.done hu hup,hsh.drop 2 hS.out⟩);clear h6 h7 hS hI h5 hY' atW
  gi_wp2_with (refine⟨trivial,(fun h=>by cases h),?_⟩;gi_at_call 132;refine(callsIn_wide.2 hpn.out).mono ?_;rintro e w2 ⟨rfl,rfl⟩)
  refine bodyPost_ret (results_none rfl _ _ _) rfl ?_;exact⟨⟨_,rfl⟩,hfin.out⟩
 rw[Y9]at hTd;subst hTd;obtain⟨T,hT0⟩:∃T,T=T0:=⟨_,rfl⟩;subst hT0;have hT:T.length<=300:=by have:=hI.out.1.few hu;simp only[iT,jJ,kM,rF]at this;omega
 have hpn:=Lh (atV (x:=d) h6 aI);have hd2:d.length<=200:=hI.out.2.1 d bK;have hdI:dI ns (SH d):=hI.out.1.isDir bK;have hls:Hid (∀W' tv',Sep w9 W' (.box bt 181 #[tv']::kY tv' T::((CY bf be eb f xe++Z)++R9))->St V ([.box bt 181 #[tv'],kY tv' T]++(CY bf be eb f xe++Z)) W'):=Lh fun W' tv' h=>h7 ([.box bt 181 #[tv'],kY tv' T]++(CY bf be eb f xe++Z)) W' h
 have hlist:=Lh (fun W' tv' xe' (h:St V ([.box bt 181 #[tv'],kY tv' T]++(CY bf be eb f xe'++Z)) W')=>atW.out.list V _ W' d hdI hd2 h);have hI':=hI;clear h6 h7 hS h5 hI;unfold aC at*
 gi_wp2_with (refine⟨trivial,(fun h=>by cases h),?_⟩;gi_at_call 132;refine(callsIn_wide.2 hpn.out).mono ?_;rintro e w2 ⟨rfl,tv2,h⟩;have h8:=Lh (hls.out _ _ h);clear h)
 clear hls hpn;have hS2:=Lh (hsh.drewN 1 h8.out);have hc:=uN hsh hS2.out;have hE:w2.drew.cell? ⟨be,0,none⟩=some (pV eb)/\w2.drew.cell? ⟨bf,0,none⟩=some (pV f):=⟨hc.2.1,hc.1⟩;refine EC (S:=fun w'=>w'.cell? ⟨be,0,none⟩=some (pV eb)/\w'.cell? ⟨bf,0,none⟩=some (pV f)) 9 fT ?_;simp only[kJ,kM,rF,Nat.reduceAdd];refine aA 0 hE ?_;refine aA 1 hE ?_;refine aA 2 hE ?_;refine bH 3 fun K hK=>?_
 go_simp;go_at_call 40;refine(hlist.out _ _ _ hS2.out).mono ?_;rintro e w3 ⟨nv,ks,rfl,hks,eZ⟩;obtain⟨A3,c3,N,e3,hN⟩:∃A c N,nv= .slice A N c/\N=ks.length:=by obtain⟨w7,R7,h6,_⟩:=hsh _ _ _ eZ;obtain⟨A,c,e,_⟩:=h6.gT 0 rfl;exact⟨A,c,_,e,iT _⟩
 subst e3;have uH:=Lh eZ;have hc3:=uN hsh (X:=[kY _ _,.box bt 181 #[tv2],kY tv2 T]) eZ;obtain⟨c30,c31,c32,c33⟩:=hc3;clear eZ;refine hK _ _ (fun _=>⟨c31,c30⟩) ?_;clear hK K;try simp only[Act.put,gD]
 have UG:w3.cell? ⟨be,0,none⟩=some (pV eb)/\w3.cell? ⟨bf,0,none⟩=some (pV f):=⟨c31,c30⟩;refine bG 4 (fun _=>UG) ?_;refine aA 5 UG ?_;refine aA 6 UG ?_;refine bG 7 (fun _=>UG) ?_;refine bG 8 (fun _=>UG) ?_;refine bG 9 (fun h=>absurd rfl h) ?_;refine aS fT ?_ _;have lX:=Lh (acN hsh 0 (X:=[kY _ _,.box bt 181 #[tv2],kY tv2 T]) uH.out);obtain⟨w4,hw4⟩:∃w4,w4=w3.setCell ⟨eb,0,none⟩ (.int .i64 0):=⟨_,rfl⟩;rw[<-hw4]at lX ⊢;clear uH c30 c31 c32 c33 UG hw4 hE hc hlist h8;have hc4:=uN hsh (X:=[kY _ _,.box bt 181 #[tv2],kY tv2 T]) lX.out;obtain⟨c40,c41,c42,c43⟩:=hc4;have hkl:N<=300:=by have h1:(eB ns (SH d)).length<=ns.length:=RG _ _;have:=hks.length_eq;omega
 have hmem:Hid (∀n∈ks,n∈ns/\n.path=YI d ((aZ n).getLastD [])):=Lh fun n hn=>by obtain⟨h1,h2⟩:=xG.1 (hks.mem_iff.1 hn);exact⟨h1,(apU h2).symm⟩
 obtain⟨nms,ap2⟩:∃l,l=ks.map fun n=>(aZ n).getLastD []:=⟨_,rfl⟩
 rw[<-ap2]at lX;replace ap2:=Lh ap2;replace hN:=Lh hN;replace hks:=Lh hks;have aNN:(N:Int)<=300:=by omega
 clear hdI hS2
 gi_wp2
 gi_loopw [33] (fun iv wr=>∃(i:Nat) (tv3:Value),i<=N/\iv=iV i/\Hid (St (V++ks.take i) ([kY (.slice A3 N c3) nms,.box bt 181 #[tv3],kY tv3 (T++rR (ks.take i))]++(CY bf be eb f 0++Z)) wr)) (fun iv _=>N-(intOf iv).toNat)
 case atStart=>refine⟨0,tv2,fZ _,rfl,Lh ?_⟩;(have e1:V++ks.take 0=V:=by rw[MX,yX42]);(have e2:T++rR (ks.take 0)=T:=by rw[MX];exact yX42 _);rw[e1,e2];exact lX.out
 obtain⟨i,tv3,hi,rfl,hS5⟩:=hrel;have q0:(0:Int)<=(i:Int):=by omega
 by_cases hlt:i<N
 ·(have q1:(i:Int)<(N:Int):=by omega);(have hil:i<ks.length:=by rw[<-hN.out];exact hlt);obtain⟨x,hx⟩:∃x,x=ks[i]:=⟨_,rfl⟩;obtain⟨hxn,hxp⟩:=hmem.out x (by rw[hx];exact nJ _);(have hlp:(V++ks.take i).length<ns.length:=by obtain⟨i1,_,_⟩:=hI'.out;rw[mM]at i1;have h1:=(i1.next hu hks.out).len hu;rw[jJ]at h1;rw[jJ,qQ];omega);obtain⟨nm,hnm⟩:∃nm,nm=(aZ x).getLastD []:=⟨_,rfl⟩;rw[<-hnm]at hxp;obtain⟨w7,R7,h6,h7⟩:=hsh _ _ _ hS5.out;(have hnl:nms.length=N:=by rw[ap2.out,iT,hN.out]);unfold kY at h6;rw[hnl]at h6;obtain⟨g,c',e,_⟩:=h6.jX 0 rfl aI;cases e;have cn:=h6.cellAt 0 rfl i aI;(have cn2:(nms.map aC)[i]? =some (aC nm):=by rw[ap2.out,qU,kX,gE hil,<-hx,hnm];rfl);rw[cn2]at cn;clear h6 h7 cn2;have mG:Hid (St (V++ks.take i) (.box wr.heap.size 105 #[iV 0,iV 0,iV 0,iV 0,iV 0]::([kY (sV g N c3) nms,.box bt 181 #[tv3],kY tv3 (T++rR (ks.take i))]++(CY bf be eb f 0++Z))) (wr.alloc (.cells #[iV 0,iV 0,iV 0,iV 0,iV 0] 105))):=Lh (hsh.new hS5.out _);obtain⟨bs,hbs⟩:∃bs,bs=wr.heap.size:=⟨_,rfl⟩;have hcase:(d=[]/\nm=x.path)\/(d≠[]/\x.path=d++47::nm):=by
   unfold YI at hxp;by_cases hd:d=[]
   ·rw[if_pos hd]at hxp;exact .inl ⟨hd,hxp.symm⟩
   rw[if_neg hd]at hxp;exact .inr ⟨hd,hxp⟩
  clear hxp;replace hnm:=Lh hnm;replace hx:=Lh hx;unfold aC at*;rcases hcase with⟨hd,hnx⟩|⟨hd,hnx⟩
  focus
   subst hd
   subst hnx
   gi_wp2
  rotate_left
  focus
   have hj:=apX d nm
   rw[<-hnx]at hj
   have hxl:=hlen x hxn
   have hl3:x.path.length=d.length+(nm.length+1):=by rw[hnx,jJ,kM]
   have hb1:¬9223372036854775807<d.length+1:=by omega
   have hb2:¬9223372036854775807<d.length+1+nm.length:=by omega
   have hb3:d.isEmpty=false:=by cases d<;>first |rfl|exact absurd rfl hd
   clear hl3 hxl hnx hd hd2
   gi_wp2
   clear hj hb1 hb2 hb3
  rotate_left;all_goals
   clear cn c40 c41 c42 c43
   rw[<-hbs]at mG ⊢
   obtain⟨w5,hw5⟩:∃w5,w5=wr.alloc (.cells #[iV 0,iV 0,iV 0,iV 0,iV 0] 105):=⟨_,rfl⟩
   rw[<-hw5]at mG ⊢
   clear hw5 hbs hS5
   have rE:=Lh (hsh.drewN 1 mG.out)
   have hc:=uN hsh (X:=_::[_,_,_]) rE.out
   have hE:w5.drew.cell? ⟨be,0,none⟩=some (pV eb)/\w5.drew.cell? ⟨bf,0,none⟩=some (pV f):=⟨hc.2.1,hc.1⟩
   refine EC (S:=fun w'=>w'.cell? ⟨be,0,none⟩=some (pV eb)/\w'.cell? ⟨bf,0,none⟩=some (pV f)) 9 fT ?_
   simp only[kJ,kM,rF,Nat.reduceAdd]
   refine aA 0 hE ?_
   refine aA 1 hE ?_
   refine aA 2 hE ?_
   refine bH 3 fun K hK=>?_
   go_simp
   go_at_call 79
   refine(atW.out.stat _ _ _ x hxn rE.out).mono ?_
   unfold Stats.v
   rintro e w8 ⟨rfl,zG⟩
   have hc8:=uN hsh (X:=_::[_,_,_]) zG
   have hE8:w8.cell? ⟨be,0,none⟩=some (pV eb)/\w8.cell? ⟨bf,0,none⟩=some (pV f):=⟨hc8.2.1,hc8.1⟩
   obtain⟨z0,z1,z2,z3,z4,zf⟩:=acO hsh zG
   obtain⟨_,_,aG2,aG3⟩:=hc8
   refine hK _ _ (fun _=>hE8) ?_
   clear hK K
   try simp only[Act.put,gD]
   refine bG 4 (fun _=>hE8) ?_
   refine aA 5 hE8 ?_
   refine aA 6 hE8 ?_
   have FE:=Lh (ap0 (v0:=.int .i64 (σ.k x)) (v1:=.int .i64 (σ.m x)) (v2:=.int .i64 (σ.l x)) (v3:=.int .i64 (σ.s x)) (v4:=.int .i64 (σ.i x)) hsh zG)
   have gU:=uN hsh (X:=_::[_,_,_]) FE.out
   have hE9:=And.intro gU.2.1 gU.1
   obtain⟨_,hc91,aBQ,hc93⟩:=gU
   refine bG 7 (fun _=>hE9) ?_
   obtain⟨w9,GI⟩:∃w9,w9=((((w8.setCell ⟨bs,0,none⟩ (.int .i64 (σ.k x))).setCell ⟨bs,1,none⟩ (.int .i64 (σ.m x))).setCell ⟨bs,2,none⟩ (.int .i64 (σ.l x))).setCell ⟨bs,3,none⟩ (.int .i64 (σ.s x))).setCell ⟨bs,4,none⟩ (.int .i64 (σ.i x)):=⟨_,rfl⟩
   rw[<-GI]at FE hE9 hc91 aBQ hc93 ⊢
   clear GI zG z0 z1 z2 z3 z4 zf aG2 aG3 hE8 rE hc hE
   refine bG 8 (fun _=>hE9) ?_
   refine bG 9 (fun h=>absurd rfl h) ?_
   refine aS fT ?_ _
   have QA:=Lh (acN hsh 0 (X:=_::[_,_,_]) FE.out)
   obtain⟨w10,aBR⟩:∃w10,w10=w9.setCell ⟨eb,0,none⟩ (.int .i64 0):=⟨_,rfl⟩
   rw[<-aBR]at QA ⊢
   clear aBR FE hE9 hc91 aBQ hc93
   obtain⟨_,c51,c52,_⟩:=uN hsh (X:=_::[_,_,_]) QA.out
   obtain⟨z0,z1,z2,z3,z4,_⟩:=acO hsh QA.out
   have hkd:=atW.out.kind x hxn
   have hnext:Hid (V++ks.take (i+1)=(V++ks.take i)++[x]):=Lh (by rw[pX,gE hil,<-hx.out,nT];rfl)
   have atZ:ks.take (i+1)=ks.take i++[x]:=by rw[pX,gE hil,<-hx.out];rfl
   by_cases hf:x.file= -1
   ·rw[if_pos hf]at hkd;rw[hkd]at z0 QA;obtain⟨wa,Ra,ha,hb⟩:=hsh _ _ _ QA.out;(have hlT:(T++rR (ks.take i)).length<=1000:=by have h1:=apZ (ks.take i);rw[qQ]at h1;rw[jJ];omega);have hps:=Lh (acL (x:=x.path) (Sep.dC [2,3,0,1] ha aR bK) hlT);have hcl:Hid (∀W' v',Sep wa W' (.box bt 181 #[v']::kY v' ((T++rR (ks.take i))++[x.path])::(.box bs 105 #[iV 1,iV (σ.m x),iV (σ.l x),iV (σ.s x),iV (σ.i x)]::kY (sV g N c3) nms::((CY bf be eb f 0++Z)++Ra)))->
      St (V++ks.take i) ((.box bs 105 #[iV 1,iV (σ.m x),iV (σ.l x),iV (σ.s x),iV (σ.i x)]::kY (sV g N c3) nms:: .box bt 181 #[v']::kY v' (T++rR (ks.take (i+1)))::CY bf be eb f 0)++Z) W'):=Lh fun W' v' h=>by
     (have e1:(T++rR (ks.take i))++[x.path]=T++rR (ks.take (i+1)):=by rw[atZ,VK,if_pos hf,nT]);rw[e1]at h;exact hb _ _ (Sep.dC [2,3,0,1] h aR bK)
    have hyd:=Lh (fun W' v' h=>hY'.out (V++ks.take i) x (.box bs 105 #[iV 1,iV (σ.m x),iV (σ.l x),iV (σ.s x),iV (σ.i x)]::kY (sV g N c3) nms:: .box bt 181 #[v']::kY v' (T++rR (ks.take (i+1)))::CY bf be eb f 0) W' hxn hlp (hcl.out W' v' h));(have hz:Hid (∀W' v',Sep wa W' (.box bt 181 #[v']::kY v' ((T++rR (ks.take i))++[x.path])::(.box bs 105 #[iV 1,iV (σ.m x),iV (σ.l x),iV (σ.s x),iV (σ.i x)]::kY (sV g N c3) nms::((CY bf be eb f 0++Z)++Ra)))->W'.cell? ⟨bs,0,none⟩=some (iV 1)/\W'.cell? ⟨bs,1,none⟩=some (iV (σ.m x))/\W'.cell? ⟨bs,2,none⟩=some (iV (σ.l x))/\W'.cell? ⟨bs,3,none⟩=some (iV (σ.s x))/\W'.cell? ⟨bs,4,none⟩=some (iV (σ.i x))):=Lh fun W' v' h=>⟨h.bC 2 rfl 0,h.bC 2 rfl 1,h.bC 2 rfl 2,h.bC 2 rfl 3,h.bC 2 rfl 4⟩);clear ha hb QA hlT atZ z1 z2 z3 z4;unfold aC at*
    gi_wp2_with (refine⟨trivial,(fun h=>by cases h),?_⟩;gi_at_call 131;refine(callsIn_wide.2 hps.out).mono ?_;rintro e w11 ⟨rfl,v9,h⟩;(obtain⟨y0,y1,y2,y3,y4⟩:=hz.out _ _ h);(obtain⟨fn,tmps,assign,body,hy,hR⟩:=hyd.out _ _ h);(have hR':=Lh hR);unfold Stats.v at hy;rw[hkd]at hy;clear h hR z0)
    refine⟨(fun h=>by cases h),?_⟩;refine hR'.out.mono ?_;rintro e W9 ⟨rfl,hJ⟩;have hJ':=Lh (hsh.drop 1 hJ);clear hJ hR' hy y0 y1 y2 y3 y4
    gi_wp2
    go_roundw
    case rel=>refine⟨i+1,v9,by omega,by simp,Lh ?_⟩;rw[hnext.out];exact hJ'.out
    case measure=>simp[intOf];omega
   ·rw[if_neg hf]at hkd;rw[hkd]at z0 QA;(have e1:T++rR (ks.take (i+1))=T++rR (ks.take i):=by rw[atZ,VK,if_neg hf]);have hR0:=hY'.out (V++ks.take i) x (.box bs 105 #[iV 2,iV (σ.m x),iV (σ.l x),iV (σ.s x),iV (σ.i x)]::kY (sV g N c3) nms:: .box bt 181 #[tv3]::kY tv3 (T++rR (ks.take i))::CY bf be eb f 0) w10 hxn hlp QA.out;replace e1:=Lh e1;unfold aC at*;obtain⟨fn,tmps,assign,body,hy,hR⟩:=hR0;have hR':=Lh hR;unfold Stats.v at hy;rw[hkd]at hy;clear hR QA atZ
    gi_wp2
    refine⟨(fun h=>by cases h),?_⟩;refine hR'.out.mono ?_;rintro e W9 ⟨rfl,hJ⟩;have hJ':=Lh (hsh.drop 1 hJ);clear hJ hR' hy z0 z1 z2 z3 z4
    gi_wp2
    go_roundw
    case rel=>refine⟨i+1,tv3,by omega,by simp,Lh ?_⟩;rw[hnext.out,e1.out];exact hJ'.out
    case measure=>simp[intOf];omega
 have hiN:i=N:=by omega
 have hin:i=ks.length:=by rw[hiN];exact hN.out
 have hno:¬(i:Int)<(N:Int):=by omega
 have bX:¬i<N:=by omega
 have hfin:Hid (nD ns (V++ks) ((T++rR ks).map SH) (P++[SH d])/\∀q∈T++rR ks,q.length<=200):=Lh (by
  obtain⟨i1,i2,_⟩:=hI'.out;refine⟨?_,fun q hq=>?_⟩
  ·rw[mM,apY fun n hn=>hne n (hmem.out n hn).1];rw[mM]at i1;exact i1.next hu hks.out
  rcases iM.1 hq with hq|hq
  ·exact i2 q (uT _ hq)
  unfold rR at hq;obtain⟨n,hn,rfl⟩:=List.mem_map.1 hq;exact hlen n (hmem.out n (List.mem_filter.1 hn).1).1)
 have mG:Hid (St (V++ks) (.box bt 181 #[tv3]::kY tv3 (T++rR ks)::(CY bf be eb f 0++Z)) wr):=Lh (by have h:=hsh.drop 1 hS5.out;rw[hin,RI]at h;exact h);have hgg:gk+P.length=ns.length+1:=hg;have hpl:P.length+1<=ns.length+1:=by have h1:=hfin.out.1.few hu;rw[jJ,nZ]at h1;omega
 clear hS5 c40 c41 c42 c43 hI' lX
 gi_wp2
 gi_roundg (gk-1)
 case rel=>exact⟨_,_,_,_,_,by rw[jJ,nZ];omega,Lh ⟨hfin.out.1,hfin.out.2,fun _=>rfl⟩,mG⟩
 case measure=>omega
end Go.Proofs.YtmjomdkleikgbaaGreat
namespace Go.Proofs.YtmjomdkleikgbaaGreat
open Go.RowKit
section
variable {g:LT} {nm:Nat} {ns:List TN} {fs:List FT} {dn:Key->Nat} {φ:Int->Nat}
theorem lL.walkDir (h:lL g nm ns fs dn φ):∀(k:Nat) (K:Key),K.length=k->dI ns K->∃c,nN ns k K= .ok c/\kS c=true
 |0,K,hk,hK=>⟨none,rfl,rfl⟩
 |k+1,K,hk,hK=>by
  rcases hK with e|⟨n,hn,e,hf⟩
  ·rw[e]at hk;cases hk
  have hup:=h.up n hn;rw[e]at hup;obtain⟨c,h1,h2⟩:=h.walkDir k K.dropLast (by rw[YY,hk];rfl) hup;refine⟨some n,?_,by show decide (n.file= -1)=true;rw[uQ];exact hf⟩;(show(nN ns k K.dropLast).bind (stepT ns K)=_);rw[h1];(show stepT ns K c=_);unfold stepT;rw[if_pos h2,<-e,CQ h.uniq hn]
theorem lL.at_mem (h:lL g nm ns fs dn φ) {n:TN} (hn:n∈ns):zK ns (aZ n)= .ok (some n):=by
 obtain⟨c,h1,h2⟩:=h.walkDir _ _ rfl (h.up n hn);unfold zK;rw[h1];show(if kS c=true then Except.ok (jQ ns (aZ n))else Except.error 22)=_
 rw[if_pos h2,CQ h.uniq hn]
theorem lL.QM (h:lL g nm ns fs dn φ) {n:TN} (hn:n∈ns):kC ns (aZ n)= .ok n:=by unfold kC;rw[h.at_mem hn]
end
def stE (ns:List TN) (path:List UInt8):Int:=if cO path=0 then(match kC ns (splitB path)with| .error e=>e| .ok _=>0)else cO path
structure af0 (ns:List TN) (fs:List FT) (dn:Key->Nat) (φ:Int->Nat) (path:List UInt8) (k m l s i:Int):Prop where
 none:stE ns path≠0->k=0/\m=0/\l=0/\s=0/\i=0
 dir:∀n,cO path=0->kC ns (splitB path)= .ok n->n.file= -1->k=1/\m=n.mode/\l=1/\s=dZ ns (splitB path)/\i=dn (splitB path)+1
 file:∀n,cO path=0->kC ns (splitB path)= .ok n->n.file≠ -1->k=2/\(∃f,fs[n.file.toNat]? =some f/\m=f.mode/\s=f.bs.length)/\l=(ns.countP fun x=>decide (x.file=n.file):Nat)/\i=φ n.file+1
section
variable {w0 w:World} {R:List aV} {f q p:Nat} {S:VS} {ns:List TN} {fs:List FT} {nb names:Nat} {g:LT} {dn:Key->Nat} {φ:Int->Nat}
theorem Vt.xA (hV:Vt S ns fs g dn φ) (path:List UInt8):xA S path=stE ns path:=by unfold Go.Proofs.YtmjomdkleikgbaaGreat.xA stE;rw[hV.something path];cases kC ns (splitB path)<;>rfl
theorem axL (x:LI) (l:List Nat):(x.vi l).kind=x.kind/\(x.vi l).mode=x.mode/\(x.vi l).links=x.links/\(x.vi l).size=x.size:=⟨rfl,rfl,rfl,rfl⟩
theorem Vt.axM (hV:Vt S ns fs g dn φ) (path:List UInt8):∃k m l s i,statOf S path=GV k m l s i/\af0 ns fs dn φ path k m l s i:=by
 unfold statOf;rw[hV.xA];by_cases h0:stE ns path=0
 ·have hpl:cO path=0:=by
   unfold stE at h0;by_cases h1:cO path=0
   ·exact h1
   rw[if_neg h1]at h0;exact h0
  rw[if_pos h0];obtain⟨n,hn⟩:∃n,kC ns (splitB path)= .ok n:=by
   unfold stE at h0;rw[if_pos hpl]at h0;cases hp:kC ns (splitB path)with
   |error e=>rw[hp]at h0;exact absurd h0 (JU hp)
   |ok n=>exact⟨n,rfl⟩
  have ha:=BB hn;obtain⟨hP,hno,_⟩:=iE (S:=S) hV.rep ha;obtain⟨hm,hk⟩:=eD hno.symm;obtain⟨hi,hkind⟩:=hV.rep.G5 hm;rw[hV.sH ha];simp only[lM];obtain⟨v1,v2,v3,v4⟩:=axL (g (bY dn φ n)) (aF S.cur (bY dn φ n)).aB;rw[hV.iJ.ph.head _ hi,v1,v2,v3,v4];refine⟨_,_,_,_,_,rfl,fun h=>absurd h0 h,fun n2 _ e hf=>?_,fun n2 _ e hf=>?_⟩
  ·rw[hn]at e;cases e;obtain⟨d1,d2,d3,d4⟩:=hV.rep.dir n hm hf;have hD:dI ns (splitB path):=.inr ⟨n,hm,hk,hf⟩;have hz:=(hV.rep.vQ hD).2;rw[apI hf,hk]at*;rw[hz,d2,d4];exact⟨rfl,d3,rfl,rfl,by omega⟩
  rw[hn]at e;cases e;obtain⟨f1,f2,f3,⟨ff,f4,f5,f6⟩,f7⟩:=hV.rep.file n hm hf;rw[QB hf]at*;(have hz:(g (φ n.file)).size=(g (φ n.file)).data.length:=by unfold LI.size;rw[f3,if_neg aR]);rw[f3,f7,hz,f6];exact⟨rfl,⟨ff,f4,f5,rfl⟩,rfl,by omega⟩
 rw[if_neg h0];refine⟨0,0,0,0,0,rfl,fun _=>⟨rfl,rfl,rfl,rfl,rfl⟩,fun n h1 h2 _=>?_,fun n h1 h2 _=>?_⟩
 ·exact absurd (by unfold stE;rw[if_pos h1,h2]) h0
 exact absurd (by unfold stE;rw[if_pos h1,h2]) h0
theorem aBT {path:List UInt8} (hL:gX S ns fs nb names) (hV:Vt S.base ns fs g dn φ) (hp:path.length<=9223372036854775807) (h:Sep w0 w (bE f q p S::R)):
  Calls Tryz.prog 79 #[pV f,aC path] w fun e w'=>∃k m l s i,e= .returned (.tuple #[GV k m l s i,iV (stE ns path)])/\af0 ns fs dn φ path k m l s i/\Sep w0 w' (bE f q p S.base::R):=by
 refine(aoK hp hL.off hV.iJ.vw h).mono ?_;rintro e w' ⟨rfl,h1⟩;obtain⟨k,m,l,s,i,e1,h2⟩:=hV.axM path;rw[e1,hV.xA];exact⟨k,m,l,s,i,rfl,h2,h1⟩
end
def oP (ns:List TN) (fs:List FT) (dn:Key->Nat) (φ:Int->Nat):Stats where
 k:=fun n=>if n.file= -1 then 1 else 2
 m:=fun n=>if n.file= -1 then n.mode else((fs[n.file.toNat]?).map fun f=>(f.mode:Int)).getD 0
 l:=fun n=>if n.file= -1 then 1 else((ns.countP fun x=>decide (x.file=n.file):Nat):Int)
 s:=fun n=>if n.file= -1 then(dZ ns (aZ n):Int)else((fs[n.file.toNat]?).map fun f=>(f.bs.length:Int)).getD 0
 i:=fun n=>if n.file= -1 then(dn (aZ n):Int)+1 else(φ n.file:Int)+1
theorem BJ {p:List UInt8} (h:aU p=true):cO p=0:=by unfold cO;simp[h,nR h]
section
variable {ns:List TN} {fs:List FT} {dn:Key->Nat} {φ:Int->Nat} {g:LT} {T:VS}
theorem at0 {n:TN} {k m l s i:Int} (hV:Vt T ns fs g dn φ) (hn:n∈ns) (hv:aU n.path=true) (h:af0 ns fs dn φ n.path k m l s i):GV k m l s i=(oP ns fs dn φ).v n/\stE ns n.path=0:=by
 have hp:=BJ hv;have hpr:kC ns (splitB n.path)= .ok n:=hV.rep.QM hn;refine⟨?_,by unfold stE;rw[if_pos hp,hpr]⟩;unfold GV Stats.v oP;simp only;by_cases hf:n.file= -1
 ·obtain⟨h1,h2,h3,h4,h5⟩:=h.dir n hp hpr hf;rw[h1,h2,h3,h4,h5,if_pos hf,if_pos hf,if_pos hf,if_pos hf,if_pos hf];rfl
 obtain⟨h1,⟨f,h2,h3,h4⟩,h5,h6⟩:=h.file n hp hpr hf;rw[h1,h3,h4,h5,h6,if_neg hf,if_neg hf,if_neg hf,if_neg hf,if_neg hf,h2];rfl
theorem ap4 (hV:Vt T ns fs g dn φ) (hv:∀n∈ns,aU n.path=true) {d:List UInt8} (h:dI ns (SH d)):lsX ns d=0:=by
 unfold lsX;by_cases e:d=[]
 ·rw[if_pos e]
 rw[if_neg e];have hk:SH d=splitB d:=by unfold SH;rw[if_neg e]
 rw[hk]at h;rcases h with h|⟨n,hn,h2,hf⟩
 ·exact absurd h (gP d)
 have hp:n.path=d:=uJ _ (iU _) h2;have hv2:=hv n hn;rw[hp]at hv2;rw[if_pos (BJ hv2),<-h2,hV.rep.QM hn];simp only;rw[if_pos hf]
theorem at1 (hV:Vt T ns fs g dn φ) {n:TN} (hn:n∈ns) (hv:aU n.path=true) (hf:n.file≠ -1):rdX ns n.path=0/\rdB ns fs n.path=yE fs n.file:=by
 have hp:=BJ hv;have hfl:vC ns (splitB n.path)= .ok n:=by unfold vC;rw[show kC ns (splitB n.path)= .ok n from hV.rep.QM hn];simp only;rw[if_neg hf]
 unfold rdX rdB;rw[if_pos hp,if_pos hp,hfl];exact⟨rfl,rfl⟩
end
def xH (φ:Int->Nat) (V:List TN):List (Lit×Value):=(fP V).zipIdx.map fun x=>(Lit.int .i64 ((φ x.1:Int)+1),Value.int .i64 (x.2:Int))
theorem ap5 (φ:Int->Nat) (V:List TN):(xH φ V).length=(fP V).length:=by unfold xH;rw[iT,ag5]
theorem ap6 {φ:Int->Nat} {V:List TN} {p:Lit×Value} (h:p∈xH φ V):∃(id:Int) (k:Nat),(fP V)[k]? =some id/\p=(.int .i64 ((φ id:Int)+1),.int .i64 (k:Int)):=by obtain⟨x,hx,rfl⟩:=List.mem_map.1 h;obtain⟨id,k⟩:=x;rw[ai0]at hx;exact⟨id,k,hx,rfl⟩
def Inj (φ:Int->Nat) (V:List TN):Prop:=∀a∈V,∀b∈V,¬a.file<0->¬b.file<0->φ a.file=φ b.file->a.file=b.file
theorem ap7 {φ:Int->Nat} {V:List TN} {x:TN} (hi:Inj φ (V++[x])) (hK:mF (xH φ V)) (hx:¬x.file<0) (hm:x.file∈fP V):getM (xH φ V) (.int .i64 ((φ x.file:Int)+1))=some (.int .i64 ((fP V).idxOf x.file:Nat)):=by refine xI hK ?_;have hl:=List.idxOf_lt_length_iff.2 hm;refine List.mem_map.2 ⟨(x.file,(fP V).idxOf x.file),?_,rfl⟩;rw[ai0];rw[gE hl,ZH hl]
theorem ap8 {φ:Int->Nat} {V:List TN} {x:TN} (hi:Inj φ (V++[x])) (hx:¬x.file<0) (hm:x.file∉fP V) (hk:WideAt.IsKeyLit (.int .i64 ((φ x.file:Int)+1))):getM (xH φ V) (.int .i64 ((φ x.file:Int)+1))=none/\p8 (xH φ V) (.int .i64 ((φ x.file:Int)+1)) (.int .i64 ((fP V).length:Nat))=xH φ (V++[x]):=by
 have hno:∀p∈xH φ V,p.1≠ .int .i64 ((φ x.file:Int)+1):=fun p hp e=>by obtain⟨id,k,h1,rfl⟩:=ap6 hp;simp only[Lit.int.injEq,true_and]at e;obtain⟨n,hn,h2,h3⟩:=CW _ id (gG h1);have h4:=hi n (uT _ hn) x bK h3 hx (by rw[h2];omega);exact hm (by rw[<-h4,h2];exact gG h1)
 have hdel:mU (xH φ V) (.int .i64 ((φ x.file:Int)+1))=xH φ V:=by unfold mU;rw[D6];intro p hp;have h1:=kW (hno p hp);simpa using h1
 refine⟨getM_none hk hno,?_⟩;unfold p8;rw[hdel];unfold xH;rw[kU,if_neg hx,if_neg hm,ag6,mM];simp
def nE (nv fv:Value) (N:List TN) (F:List TF) (vs:List Value):List aV:=.sl 68 3 nv N.length (dG N):: .sl 71 2 fv F.length (iB F vs)::List.zipWith (fun v (f:TF)=>aJ v f.bs) vs F
theorem Z37 {P:Prop} (h:P:=by have hlt:=(gF.1 hk).1;rw[uS (Nat.le_add_right _ _),IQ,C9 hlt];exact hk):P:=h
theorem YJ {w0 w:World} {X R:List aV} {nv fv:Value} {N:List TN} {F:List TF} {vs:List Value} (hl:vs.length=F.length) (h:Sep w0 w (X++(nE nv fv N F vs++R))):iR w nv fv N F vs:=by
 have at_:∀k A,(nE nv fv N F vs)[k]? =some A->(X++(nE nv fv N F vs++R))[X.length+k]? =some A:=fun k A hk=>by exact Z37
 refine⟨hl,h.rd _ (at_ 0 _ rfl),h.rd _ (at_ 1 _ rfl),fun k u f hu hf=>?_⟩;have hz:(nE nv fv N F vs)[k+2]? =some (aJ u f.bs):=by(show(List.zipWith (fun v (f:TF)=>aJ v f.bs) vs F)[k]? =_);exact am8 hu hf
 exact⟨_,h.rd _ (at_ _ _ hz),fun y hy=>by obtain⟨x,_,rfl⟩:=List.mem_map.1 hy;rfl,rfl⟩
structure acP where
 f:Nat
 q:Nat
 p:Nat
 b1:Nat
 bt:Nat
 bm:Nat
 bk:Nat
def QN (c:acP) (φ:Int->Nat) (fs:List FT) (V:List TN) (nv fv:Value) (vs:List Value):List aV:=
 .box c.b1 37 #[.pointer (some ⟨c.f,0,none⟩)]:: .box c.bt 25 #[nv,fv]:: .box c.bm 100 #[.map (some c.bk)]::l8 3 c.bk (xH φ V)::nE nv fv (fA V) (fG V fs) vs
def acQ (w0:World) (R:List aV) (T:VS) (ns:List TN) (fs:List FT) (nb names:Nat) (c:acP) (φ:Int->Nat) (V:List TN) (Y:List aV) (W:World):Prop:=
 ∃(S1:VS) (nv fv:Value) (vs:List Value),S1.base=T/\(gX S1 ns fs nb names/\∀n∈V,n∈ns)/\vs.length=(fG V fs).length/\Sep w0 W (bE c.f c.q c.p S1::(Y++(QN c φ fs V nv fv vs++R)))
section
variable {w0:World} {R:List aV} {T:VS} {ns:List TN} {fs:List FT} {nb names:Nat} {c:acP} {φ:Int->Nat} {g:LT} {dn:Key->Nat}
theorem vV :Shared (acQ w0 R T ns fs nb names c φ):=by rintro V Y W ⟨S1,nv,fv,vs,h1,h2,h3,h4⟩;refine⟨w0,bE c.f c.q c.p S1::(QN c φ fs V nv fv vs++R),h4.perm lN.symm,fun Y' W' h=>⟨S1,nv,fv,vs,h1,h2,h3,h.perm lN⟩⟩
theorem at5 (hV:Vt T ns fs g dn φ) (hv:∀n∈ns,aU n.path=true) (hl:∀n∈ns,n.path.length<=200):afZ (acQ w0 R T ns fs nb names c φ) ns c.f (oP ns fs dn φ):=by
 refine⟨vV,?_,?_,fun n hn=>rfl⟩
 ·rintro V Y W d hd hdl ⟨S1,nv,fv,vs,h1,h2,h3,h4⟩;(have hV1:Vt S1.base ns fs g dn φ:=by rw[h1];exact hV);obtain⟨hx,hp,hs⟩:=hV1.list d;refine(abL (path:=d) aI h2.1.off hV1.iJ.vw hV1.iJ.aoP h4).mono ?_;rintro e w' ⟨v,rfl,hS⟩;rw[hx,ap4 hV hv hd];(have hls:lsN ns d=(eB ns (SH d)).map fun n=>(aZ n).getLastD []:=by unfold lsN;rw[if_pos (ap4 hV hv hd)]);rw[hls]at hp;obtain⟨ks,hk1,hk2⟩:=VH hp;refine⟨v,ks,rfl,hk1,S1.base,nv,fv,vs,?_,⟨h2.1.base,h2.2⟩,h3,?_⟩
  ·rw[<-h1];rfl
  rw[hk2];exact hS.perm (List.Perm.swap _ _ _)
 rintro V Y W n hn ⟨S1,nv,fv,vs,h1,h2,h3,h4⟩;have hV1:Vt S1.base ns fs g dn φ:=by rw[h1];exact hV
 refine(aBT (path:=n.path) h2.1 hV1 (by have:=hl n hn;omega) h4).mono ?_;rintro e w' ⟨k,m,l,s,i,rfl,h5,h6⟩;obtain⟨e1,e2⟩:=at0 hV hn (hv n hn) h5;rw[e1,e2];exact⟨rfl,S1.base,nv,fv,vs,by rw[<-h1];rfl,⟨h2.1.base,h2.2⟩,h3,h6⟩
end
def MR :List TN:=[⟨[97], -1,493⟩,⟨[97,47,120],0,0⟩,⟨[98],0,0⟩]
def SN :List TF:=[⟨420,[104,105]⟩]
section
variable {w0 w:World} {R:List aV}
theorem Sep.aBU (h:Sep w0 w R) (e:TypeId) (sz n:Nat) (cs:Array Value) (hs:cs.size=n*sz) (hm:n<=maxLen):Sep w0 (w.alloc (.cells cs e)) (.sl e sz (sV w.heap.size n n) n cs.toList::R):=by have hown:=World.ownsRow_lit (base:=0) (e:=e) (size:=sz) w cs n (fZ _) hm hs;exact Z30
theorem at6 (o1 o2:Obj) (C:Array Value) (n c:Nat) (w:World):(convert 69 69 (sV (w.heap.size+1+1) n c)).run Tryz.prog (((w.alloc o1).alloc o2).alloc (.cells C 5))= .ok (sV (w.heap.size+1+1) n c) (((w.alloc o1).alloc o2).alloc (.cells C 5 (C.size,C.size+1))):=
 Joins.run_convert_bytes_const_at _ _ _ C n c _ (by simp[World.size_alloc]) Tryz.underlying69 Tryz.underlying5
def smX (g:Nat):List aV:=[.sl 71 2 (sV (g+2) 1 1) 1 (iB SN [sV (g+1) 2 2]),.obj (g+1) (.cells ([104,105].map kK).toArray 5 (2,3)),.sl 68 3 (sV g 3 3) 3 (dG MR)]
theorem sm_at {g:Nat} {W:World} {Y:List aV} (h:Sep w0 W (Y++(smX g++R))):iR W (sV g 3 3) (sV (g+2) 1 1) MR SN [sV (g+1) 2 2]:=by
 have at_:∀k A,(smX g)[k]? =some A->(Y++(smX g++R))[Y.length+k]? =some A:=fun k A hk=>by exact Z37
 refine⟨rfl,h.rd _ (at_ 2 _ rfl),h.rd _ (at_ 0 _ rfl),fun k u f hu hf=>?_⟩;have hk:=(gF.1 hf).1;have hk0:k=0:=Nat.lt_one_iff.1 hk;subst hk0;cases hu;cases hf;have ht:iG w0 (.obj (g+1) (.cells (([104,105]:List UInt8).map kK).toArray 5 (2,3))::(.sl 68 3 (sV g 3 3) 3 (dG MR)::R)) (sV (g+1) 2 2) [104,105]:=acM aR;have hb:BytesAt W (sV (g+1) 2 2) [104,105]:=ht W (Y++[.sl 71 2 (sV (g+2) 1 1) 1 (iB SN [sV (g+1) 2 2])]) (by rw[nT];exact h);exact⟨_,hb,fun y hy=>(by obtain⟨x,_,rfl⟩:=List.mem_map.1 hy;rfl),rfl⟩
theorem at7 (a b c x:aV) (Y:List aV):(a::b::c::x::Y).Perm (x::a::b::c::Y):=by
 haveI:DecidableEq aV:=fun a b=>Classical.propDecidable (a=b)
 rw[LA];intro y;simp only[RJ];omega
theorem af1 (h:Sep w0 w R):Calls Tryz.prog 30 #[] w fun e w'=>∃g,e= .returned (.agg #[sV g 3 3,sV (g+2) 1 1])/\Sep w0 w' (smX g++R):=by have hcv:=at6;go_enter Tryz.func30,Tryz.ntmps30;go_wp2_with fail;have h1:=h.bN 25 #[sV (w.heap.size+1) 3 3,sV (w.heap.size+1+1+1) 1 1];have y0:=h1.bC 0 rfl 0;have h2:=h1.aBU 68 3 3 (dG MR).toArray rfl aR;have h3:=h2.aiG (.cells (([104,105]:List UInt8).map kK).toArray 5 (2,3));have h4:=h3.aBU 71 2 1 (iB SN [sV (w.heap.size+1+1) 2 2]).toArray rfl aR;simp only[World.size_alloc]at h2 h3 h4;have h5:=((h4.perm (at7 _ _ _ _ _)).drop 1);refine bodyPost_ret (v:=.agg #[sV (w.heap.size+1) 3 3,sV (w.heap.size+1+1+1) 1 1]) ?_ rfl ⟨w.heap.size+1,rfl,h5⟩;simp[results,Tryz.f30,go_sem]
end
theorem auA {w0 w:World} {R:List aV} {f eb:Nat} (h:Sep w0 w R):
  Calls Tryz.prog 65 #[pV f,pV eb] w fun e w'=>∃bf be,e= .returned (.func (.func 130) #[] #[pV bf,pV be])/\
   Sep w0 w' (.box bf 37 #[pV f]:: .box be 96 #[pV eb]::R):=by
 have h2:=Lh ((h.bN 37 #[pV f]).bN 96 #[pV eb])
 have hmk:∀(fn:Fn) (first cap:Array Value) (w:World),(Instr.makeFunc fn first cap).run Tryz.prog w= .ok (.func fn first cap) w:=fun _ _ _ _=>rfl
 clear h
 go_enter Tryz.func65,Tryz.ntmps65
 go_wp2_with fail
 go_ret
 refine⟨_,_,rfl,?_⟩
 have h3:=h2.out.perm (List.Perm.swap _ _ _)
 simpa using h3
end Go.Proofs.YtmjomdkleikgbaaGreat
