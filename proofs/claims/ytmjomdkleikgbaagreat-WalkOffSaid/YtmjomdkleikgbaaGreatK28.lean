/- Parts. -/
import Derived.Test.YtmjomdkleikgbaaGreatK27
set_option linter.unusedVariables false
set_option linter.unusedSimpArgs false
set_option maxRecDepth 100000
set_option maxHeartbeats 20000000
namespace Go.Proofs.YtmjomdkleikgbaaGreat
theorem dD.same {S T:VS} {g:LT} (h:dD S g) (h1:T.nb=S.nb) (h2:T.names=S.names) (h3:T.cur=S.cur) (h4:T.wB=S.wB) (h5:T.wI=S.wI) (h6:T.nodes=S.nodes):dD T g:=by obtain⟨nb,names,D,cur,wB,wI,nodes,rB,rI,m⟩:=S;obtain⟨nb',names',D',cur',wB',wI',nodes',rB',rI',m'⟩:=T;simp only at h1 h2 h3 h4 h5 h6;subst h1 h2 h3 h4 h5 h6;exact⟨⟨h.use.cur,⟨h.use.vf.names,h.use.vf.room⟩,h.use.nb⟩,h.n0,h.fair,h.head,h.len,h.lt,h.nodup,h.dis,h.bits,h.bH,h.data,h.wB,h.wI,h.nodes⟩
theorem dD.first {S:VS} {g:LT} (h:dD S g) {b:List UInt8} (hb:b.length=512):dD (S.put 0 b) g:=by
 have hne:∀k,k≠0->bk (S.put 0 b).cur k=bk S.cur k:=fun k hk=>dK _ _ hk
 have hin:∀n,aH (S.put 0 b).cur n=aH S.cur n:=fun n=>by unfold aH;rw[hne _ aD]
 have hbit:∀j,(S.put 0 b).bit j=S.bit j:=fun j=>by(show pJ (bk (S.put 0 b).cur 1) j=pJ (bk S.cur 1) j);rw[hne _ aD]
 have hdat:∀s,bk (S.put 0 b).cur (S.data+s)=bk S.cur (S.data+s):=fun s=>hne _ (by unfold VS.data;omega)
 refine⟨h.use.put 0 hb,h.n0,h.fair,fun n hn=>?_,fun n hn=>?_,fun n hn=>?_,fun n hn=>?_,fun n hn m hm e=>?_,fun j hj=>?_,fun n hn hk=>?_,fun n hn hk=>?_,h.wB,h.wI,h.nodes⟩
 ·rw[hin];exact h.head n hn
 ·rw[hin];exact h.len n hn
 ·rw[hin];exact h.lt n hn
 ·rw[hin];exact h.nodup n hn
 ·rw[hin,hin];exact h.dis n hn m hm e
 ·rw[hbit];refine(h.bits j hj).trans ⟨fun⟨n,hn,e⟩=>⟨n,hn,by rw[hin];exact e⟩,fun⟨n,hn,e⟩=>⟨n,hn,by rw[hin]at e;exact e⟩⟩
 ·rw[hin];(have e:=FW (c:=S.cur) (c':=(S.put 0 b).cur) (d:=S.data) (x:=aH S.cur n) (h.ZL hn hk) fun s _=>hdat s);exact e.trans (h.bH n hn hk)
 rw[hin];have e:=wW (c:=S.cur) (c':=(S.put 0 b).cur) (d:=S.data) (x:=aH S.cur n) fun s _=>hdat s
 exact e.trans (h.data n hn hk)
section
variable {n names:Nat}
theorem arW (j:Nat):pJ bX j=false:=by
 unfold pJ bX;by_cases h:j/8<512
 ·rw[gH,List.getElem?_replicate,if_pos h];simp
 rw[gH,FK (by rw[FL];omega)];simp
theorem arX (h0:98+(names+7)/8<n) (h1:n<=4096) (h2:2<=names) (h3:names<=1024):dD (VS.raw n names) fun _=>LI0:=by
 have hin:∀i<names,aH (VS.raw n names).cur i=⟨0,0,0,0,[]⟩:=fun i hi=>ad3 (KY aD)
 have hz:∀i<names,(aH (VS.raw n names).cur i).aB=[]:=fun i hi=>by rw[hin i hi]
 refine⟨⟨(arS (fb:=0) h0 h1).cur,arT h0 h3,h1⟩,by show 0<names;omega,fun _ _=>ac9,fun i hi=>?_,fun i hi=>?_,fun i hi s hs=>?_,fun i hi=>?_,fun i hi m hm _ s hs=>?_,fun j hj=>?_,fun i hi hk=>?_,fun i hi hk=>?_,?_,?_,?_⟩
 ·rw[hin i hi];rfl
 ·rw[hz i hi];rfl
 ·rw[hz i hi]at hs;cases hs
 ·rw[hz i hi];exact O0
 ·rw[hz i hi]at hs;cases hs
 ·(have e:(VS.raw n names).bit j=false:=by(show pJ (bk (VS.raw n names).cur 1) j=false);rw[KY aD,arW]);rw[e];constructor
  ·intro e2;cases e2
  rintro⟨i,hi,e2⟩;rw[hz i hi]at e2;cases e2
 ·cases hk
 ·cases hk
 ·exact(D7 fun i _=>rfl).symm
 ·exact(D7 fun i _=>rfl).symm
 exact(D7 fun i _=>rfl).symm
def ak0 :LT:=dP (fun _=>LI0) 0 ⟨1,0,0,[],[]⟩
theorem arY :∀ {c:gI} {i:Nat},i<c.length->c.set i (bk c i)=c:=fun {c i} h=>by
 refine VT (J7 ..) fun k h1 h2=>?_
 rw[List.getElem_set];split
 ·rename_i e;subst e;unfold bk;rw[gH,gE h2];rfl
 rfl
theorem anM (h0:98+(names+7)/8<n) (h1:n<=4096) (h2:2<=names) (h3:names<=1024):dD (VS.laid n names) ak0:=by
 have hp:=arX h0 h1 h2 h3;have hp1:=hp.first (RQ names);obtain⟨S,hS⟩:∃S,S=(VS.raw n names).put 0 (mJ names):=⟨_,rfl⟩;rw[<-hS]at hp1;have hcnt:0<S.count:=by rw[hS];show 0<n-96-(2+(names+7)/8);omega
 have hb1:bk S.cur 1=bX:=by rw[hS];(show bk ((VS.raw n names).cur.set 0 _) 1=_);rw[dK _ _ aR,KY aD]
 have hfree:j5 (bk S.cur 1) S.count=some 0:=by rw[hb1];exact WW hcnt
 have hN:=(hp1.aq3 (n:=0) (mode:=0) (links:=0) (by rw[hS];show 0<names;omega) rfl aR aR).1 0 hfree;have hdata:bk (S.put 1 (kZ (bk S.cur 1) 0)).cur (S.data+0)=bX:=by(show bk (S.cur.set 1 _) (S.data+0)=_);rw[dK _ _ (by unfold VS.data;omega),hS];(show bk ((VS.raw n names).cur.set 0 _) (2+(names+7)/8+0)=_);rw[dK _ _ aD,KY aD]
 have hlen:S.data+0<(S.put 1 (kZ (bk S.cur 1) 0)).cur.length:=by have:=(hp1.use.cur).len;(show S.data+0<(S.cur.set 1 _).length);rw[J7,this,hS];(show 2+(names+7)/8+0<n-96);omega
 have aE4:(gN S 0).cur=(S.put 1 (kZ (bk S.cur 1) 0)).cur:=by(show(S.put 1 (kZ (bk S.cur 1) 0)).cur.set (S.data+0) bX=_);have:=arY hlen;rw[hdata]at this;exact this
 have nT:aH (gN S 0).cur 0=aH (S.put 1 (kZ (bk S.cur 1) 0)).cur 0:=by rw[aE4]
 refine hN.same ?_ ?_ ?_ ?_ ?_ ?_
 ·rw[hS];rfl
 ·rw[hS];rfl
 ·(show vC ((VS.raw n names).put 0 (mJ names)|>.put 1 (kZ (bk ((VS.raw n names).put 0 (mJ names)).cur 1) 0)).cur 0 ⟨1,0,0,0,[0]⟩=vC (gN S 0).cur 0 ⟨1,0,0,0,[0]⟩);rw[aE4,hS]
 ·(show(VS.raw n names).wB-eO (aH (((VS.raw n names).put 0 (mJ names)).put 1 (kZ (bk ((VS.raw n names).put 0 (mJ names)).cur 1) 0)).cur 0).kind (aH (((VS.raw n names).put 0 (mJ names)).put 1 (kZ (bk ((VS.raw n names).put 0 (mJ names)).cur 1) 0)).cur 0).size+eO 1 0=S.wB-eO (aH (gN S 0).cur 0).kind (aH (gN S 0).cur 0).size+eO 1 0);rw[nT,hS];rfl
 ·(show(VS.raw n names).wI-nS (aH (((VS.raw n names).put 0 (mJ names)).put 1 (kZ (bk ((VS.raw n names).put 0 (mJ names)).cur 1) 0)).cur 0).kind+nS 1=S.wI-nS (aH (gN S 0).cur 0).kind+nS 1);rw[nT,hS];rfl
 rw[hS];rfl
theorem arZ (h2:0<names):l6 ak0 names [] [] (fun _=>0) (fun _=>0) where
 n0:=h2
 root:=rfl
 rk:=rfl
 uniq:=O0
 up n hn:=by cases hn
 dir n hn:=by cases hn
 file n hn:=by cases hn
 ne0 n hn:=by cases hn
 inj n hn:=by cases hn
 cover i hi hk:=by
  by_cases e:i=0
  ·exact .inl e
  unfold ak0 at hk;rw[bR _ _ e]at hk;exact absurd rfl hk
 bH K hK:=EW _
theorem RU (n names:Nat):(VS.laid n names).bJ.2=true/\(VS.new n names).D.off=false/\(VS.new n names).D.left= -1:=by have h:=wR (S:=VS.laid n names) rfl (show(-1:Int)<0 by decide);exact⟨h.1,h.2.1,h.2.2⟩
theorem aAT (h0:98+(names+7)/8<n) (h1:n<=4096) (h2:2<=names) (h3:names<=1024):Vt (VS.new n names).base [] [] ak0 (fun _=>0) (fun _=>0):=by
 have hp:=anM h0 h1 h2 h3;have hD:(VS.laid n names).D.ok (VS.laid n names).nb:=aaK (n:=n) aD h1;have NU:96<(VS.laid n names).nb:=by show 96<n;omega
 have l7:ER ((VS.laid n names).D.now.drop 96) (VS.laid n names):=(((ER.refl (VS.raw n names)).put _ _).put _ _).keep _ _;have hc:=(RU n names).1;have e:=CF hD NU hp.use.cur l7 (show 0+1+1+1<=40 by decide) hc;refine Vt.of (hp.same rfl rfl e rfl rfl rfl) (arZ (names:=names) aD) rfl aR rfl rfl rfl
end
open Go.RowKit
section
variable {w0 w:World} {R:List aW}
def aw2 :Array Value:=#[.pointer none,.map none,.map none,iV 0,.bool false,.complex .f64 0 0,iV 0,.complex .f64 0 0]
theorem ahW {p n names:Nat} (h0:98+(names+7)/8<n) (h1:n<=4096) (h2:2<=names) (h3:names<=1024) (h:Sep w0 w (aO p (DK.fresh n)::R)):
  Calls Tryz.prog 38 #[pV p,iV names] w fun e w'=>∃f q,e= .returned (.tuple #[pV f,iV 0])/\Sep w0 w' (bB f q p (VS.new n names)::R):=by
 obtain⟨bf,hbf⟩:∃b,b=w.heap.size:=⟨_,rfl⟩;have hok:(DK.fresh n).ok n:=DK.adU aD h1;have hS0:Hid (Sep w0 (((w.alloc (.cells #[pV (bf+1+1)] 37)).alloc (.cells #[iV 0] 40)).alloc (.cells aw2 119)) (aO p (DK.fresh n):: .box (bf+1+1) 119 aw2::aJ (bf+1) 0:: .box bf 37 #[pV (bf+1+1)]::R)):=Lh (by have:=((h.bN 37 #[pV (bf+1+1)]).bN 40 #[iV 0]).bN 119 aw2;simp only[World.size_alloc,<-hbf]at this;exact Sep.dB [3,0,1,2] this aR (by simp[aJ]));have hon:=arO hS0.out;have hbs:=JD 0 hok hS0.out rfl;have hlf:=adZ aD h1 hS0.out;have q1:(n:Int)<=4096:=by omega
 have q2:(2:Int)<=names:=by omega
 have q3:(names:Int)<=1024:=by omega
 have e0:Int.tdiv ((names:Int)+7) 8=((names+7)/8:Nat):=by rw[abK aD];omega
 have hpt:=fun W=>xP (n:=names) (by':=8) aD aD aD W
 have e1:((names+8-1)/8:Nat)=(names+7)/8:=by omega
 rw[e1]at hpt;obtain⟨P,hP⟩:∃P,P=(names+7)/8:=⟨_,rfl⟩;rw[<-hP]at hpt h0;have hP1:(P:Int)<=128:=by omega
 have h0':98+(P:Int)<n:=by omega
 clear e0;have hdf:(DK.fresh n).off=false:=rfl;rw[hdf]at hon;have hmf:∀(fn:Fn) (first cap:Array Value) (w:World),(Instr.makeFunc fn first cap).run Tryz.prog w= .ok (.func fn first cap) w:=fun _ _ _ _=>rfl
 have hcl:Hid (∀W Y,Sep w0 W (Y++ .box bf 37 #[pV (bf+1+1)]::R)->W.cell? ⟨bf,0,none⟩=some (pV (bf+1+1))):=Lh fun W Y hW=>by(have hi:(Y++ .box bf 37 #[pV (bf+1+1)]::R)[Y.length]? =some (.box bf 37 #[pV (bf+1+1)]):=by simp);exact hW.bC _ hi 0
 have hc0:=hcl.out _ [_,_,_] hS0.out;clear h hok;unfold aw2 at*;rw[hbf]at*
 go_enter_defers Tryz.func38,Tryz.ntmps38
 go_wp2_with(first |(go_at_call 93;refine hon.mono ?_;rintro e w9 ⟨rfl,h9⟩;obtain rfl:=h9.symm;clear hon)|(go_at_call 94;refine hbs.mono ?_;rintro e w9 ⟨rfl,h9⟩;obtain rfl:=h9.symm;clear hbs)|(go_at_call 95;refine(hpt _).mono ?_;rintro e w9 ⟨rfl,h9⟩;obtain rfl:=h9.symm)|(go_at_call 96;refine hlf.mono ?_;rintro e w9 ⟨q,rfl,h9⟩;(have k0:=h9.bC 3 rfl 0);(have k1:=h9.bF 3 rfl 0);(have h8:=h9.bS 3 rfl 0 (.int .i64 0));(have k2:=h8.bC 3 rfl 0);(have k3:=hcl.out _ [_,_,_,_] h8);simp only[gA,gB]at k0;clear hlf h9;replace h8:=Lh h8)|(go_at_call 54;refine(eQ _ _).mono ?_;rintro e w7 ⟨rfl,h7⟩;obtain rfl:=h7.symm));rename_i K1 hK1;refine lT ?_;apply ar0 (fun W=>Hid (Sep w0 W (aF (w.heap.size+1+1) q p (VS.raw n names) ⟨none,[],w9.heap.size,[]⟩::aJ (w.heap.size+1) 0:: .box w.heap.size 37 #[pV (w.heap.size+1+1)]::R)))
 ·refine eU (S:=fun w'=>w'.cell? ⟨w.heap.size,0,none⟩=some (pV (w.heap.size+1+1))) 24 fE ?_;intro wq hwq;(have hX:Hid (Sep w0 wq (aG q p false::aO p (DK.made n):: .box (w.heap.size+1+1) 119 #[.pointer none,.map none,.map none,iV 0,.bool false,.complex .f64 0 0,iV 0,.complex .f64 0 0]::aJ (w.heap.size+1) 0:: .box w.heap.size 37 #[pV (w.heap.size+1+1)]::R)):=by rw[hwq];exact Lh h8.out.drew);(have hsz0:wq.heap.size=w9.heap.size:=by rw[hwq];simp);have hfin:Hid (∀W,Sep w0 W (jK w9.heap.size []::aG q p false::aO p (DK.made n):: .box (w.heap.size+1+1) 119 #[pV q,.map none,.map (some w9.heap.size),iV names,.bool false,.complex .f64 0 0,iV 0,.complex .f64 0 0]::aJ (w.heap.size+1) 0:: .box w.heap.size 37 #[pV (w.heap.size+1+1)]::R)->
    Sep w0 W (aF (w.heap.size+1+1) q p (VS.raw n names) ⟨none,[],w9.heap.size,[]⟩::aJ (w.heap.size+1) 0:: .box w.heap.size 37 #[pV (w.heap.size+1+1)]::R)):=Lh fun W hW=>by
   (have h5:Sep w0 W (.emp::jK w9.heap.size []::aG q p false::aO p (DK.made n)::kF (w.heap.size+1+1) q (VS.raw n names) none (.map (some w9.heap.size)) false::aJ (w.heap.size+1) 0:: .box w.heap.size 37 #[pV (w.heap.size+1+1)]::R):=by unfold kF VS.raw iW;simp only[EA];exact hW.xK);have h6:Sep w0 W (pU (w.heap.size+1+1) q p (VS.raw n names) ⟨none,[],w9.heap.size,[]⟩++(aJ (w.heap.size+1) 0:: .box w.heap.size 37 #[pV (w.heap.size+1+1)]::R)):=Sep.dB [4,2,3,0,1] h5 aR bK;exact h6.dC
  clear hwq;have hc:=hcl.out _ [_,_,_,_] hX.out;have hmm:= @run_makeMap Tryz.prog;simp only[uB,kH,qQ,Nat.reduceAdd];refine aA 0 hc ?_;refine aA 1 hc ?_;refine aA 2 hc ?_;refine aA 3 hc ?_;refine aA 4 hc ?_;refine aA 6 hc ?_;refine aA 7 hc ?_;refine aA 8 hc ?_;refine aA 9 hc ?_;refine aA 10 hc ?_
  -- <<ways
  refine iX (i:=5) (j:=11) fE rfl rfl (fun K hK=>?_) (fun K hK=>?_)
  focus
   go_simp
   have g1:=hX.out.yT
   obtain⟨wx1,hw1⟩:∃x,x=wq.alloc (.map #[] 0):=⟨_,rfl⟩
   rw[hsz0]at g1
   try rw[hsz0]
   have hsz1:wx1.heap.size=w9.heap.size+1:=by rw[hw1];simp[hsz0]
   rw[<-hw1]at g1 ⊢
   replace g1:Hid (Sep w0 wx1 (jK w9.heap.size []::aG q p false::aO p (DK.made n):: .box (w.heap.size+1+1) 119 #[.pointer none,.map none,.map none,iV 0,.bool false,.complex .f64 0 0,iV 0,.complex .f64 0 0]::aJ (w.heap.size+1) 0:: .box w.heap.size 37 #[pV (w.heap.size+1+1)]::R)):=Lh g1
   have k1:=hcl.out _ [_,_,_,_,_] g1.out
   clear hw1
   try dsimp only
   refine hK _ _ (fun _=>k1) ?_
   clear hK K
   try simp only[Act.put,gD]
   refine bI 11 fun K hK=>?_
   have y2:=g1.out.bC 3 rfl 0
   have z2:=g1.out.bF 3 rfl 0
   have g2:=g1.out.bS 3 rfl 0 (pV q)
   try simp only[gA,gB,gC]at y2
   go_simp
   obtain⟨wx2,hw2⟩:∃x,x=wx1.setCell ⟨w.heap.size+1+1,0,none⟩ (pV q):=⟨_,rfl⟩
   have hsz2:wx2.heap.size=w9.heap.size+1:=by rw[hw2];simp[hsz1]
   rw[<-hw2]at g2 ⊢
   replace g2:Hid (Sep w0 wx2 (jK w9.heap.size []::aG q p false::aO p (DK.made n):: .box (w.heap.size+1+1) 119 #[pV q,.map none,.map none,iV 0,.bool false,.complex .f64 0 0,iV 0,.complex .f64 0 0]::aJ (w.heap.size+1) 0:: .box w.heap.size 37 #[pV (w.heap.size+1+1)]::R)):=Lh g2
   have k2:=hcl.out _ [_,_,_,_,_] g2.out
   clear hw2
   try dsimp only
   refine hK _ _ (fun _=>k2) ?_
   clear hK K
   try simp only[Act.put,gD]
   refine aA 12 k2 ?_
   refine aA 13 k2 ?_
   refine aA 14 k2 ?_
   refine aA 15 k2 ?_
   refine aA 16 k2 ?_
   refine bI 17 fun K hK=>?_
   have y3:=g2.out.bC 3 rfl 3
   have z3:=g2.out.bF 3 rfl 3
   have g3:=g2.out.bS 3 rfl 3 (.int .i64 names)
   try simp only[gA,gB,gC]at y3
   go_simp
   obtain⟨wx3,hw3⟩:∃x,x=wx2.setCell ⟨w.heap.size+1+1,3,none⟩ (.int .i64 names):=⟨_,rfl⟩
   have ahX:wx3.heap.size=w9.heap.size+1:=by rw[hw3];simp[hsz2]
   rw[<-hw3]at g3 ⊢
   replace g3:Hid (Sep w0 wx3 (jK w9.heap.size []::aG q p false::aO p (DK.made n):: .box (w.heap.size+1+1) 119 #[pV q,.map none,.map none,iV names,.bool false,.complex .f64 0 0,iV 0,.complex .f64 0 0]::aJ (w.heap.size+1) 0:: .box w.heap.size 37 #[pV (w.heap.size+1+1)]::R)):=Lh g3
   have k3:=hcl.out _ [_,_,_,_,_] g3.out
   clear hw3
   try dsimp only
   refine hK _ _ (fun _=>k3) ?_
   clear hK K
   try simp only[Act.put,gD]
   refine aA 18 k3 ?_
   refine aA 19 k3 ?_
   refine aA 20 k3 ?_
   refine aA 21 k3 ?_
   refine aA 22 k3 ?_
   refine bI 23 fun K hK=>?_
   have y4:=g3.out.bC 3 rfl 2
   have z4:=g3.out.bF 3 rfl 2
   have g4:=g3.out.bS 3 rfl 2 (.map (some w9.heap.size))
   try simp only[gA,gB,gC]at y4
   go_simp
   obtain⟨wx4,hw4⟩:∃x,x=wx3.setCell ⟨w.heap.size+1+1,2,none⟩ (.map (some w9.heap.size)):=⟨_,rfl⟩
   have K4:wx4.heap.size=w9.heap.size+1:=by rw[hw4];simp[ahX]
   rw[<-hw4]at g4 ⊢
   replace g4:Hid (Sep w0 wx4 (jK w9.heap.size []::aG q p false::aO p (DK.made n):: .box (w.heap.size+1+1) 119 #[pV q,.map none,.map (some w9.heap.size),iV names,.bool false,.complex .f64 0 0,iV 0,.complex .f64 0 0]::aJ (w.heap.size+1) 0:: .box w.heap.size 37 #[pV (w.heap.size+1+1)]::R)):=Lh g4
   have k4:=hcl.out _ [_,_,_,_,_] g4.out
   clear hw4
   try dsimp only
   refine hK _ _ (fun _=>k4) ?_
   clear hK K
   try simp only[Act.put,gD]
   refine aQ fE ?_ _
   refine⟨rfl,Lh (hfin.out _ g4.out)⟩
  focus
   have y1:=hX.out.bC 2 rfl 0
   have z1:=hX.out.bF 2 rfl 0
   have g1:=hX.out.bS 2 rfl 0 (pV q)
   try simp only[gA,gB,gC]at y1
   go_simp
   obtain⟨wx1,hw1⟩:∃x,x=wq.setCell ⟨w.heap.size+1+1,0,none⟩ (pV q):=⟨_,rfl⟩
   have hsz1:wx1.heap.size=w9.heap.size:=by rw[hw1];simp[hsz0]
   rw[<-hw1]at g1 ⊢
   replace g1:Hid (Sep w0 wx1 (aG q p false::aO p (DK.made n):: .box (w.heap.size+1+1) 119 #[pV q,.map none,.map none,iV 0,.bool false,.complex .f64 0 0,iV 0,.complex .f64 0 0]::aJ (w.heap.size+1) 0:: .box w.heap.size 37 #[pV (w.heap.size+1+1)]::R)):=Lh g1
   have k1:=hcl.out _ [_,_,_,_] g1.out
   clear hw1
   try dsimp only
   refine hK _ _ (fun _=>k1) ?_
   clear hK K
   try simp only[Act.put,gD]
   refine aA 12 k1 ?_
   refine aA 13 k1 ?_
   refine aA 14 k1 ?_
   refine aA 15 k1 ?_
   refine aA 16 k1 ?_
   refine iX (i:=5) (j:=17) fE rfl rfl (fun K hK=>?_) (fun K hK=>?_)
   focus
    go_simp
    have g2:=g1.out.yT
    obtain⟨wx2,hw2⟩:∃x,x=wx1.alloc (.map #[] 0):=⟨_,rfl⟩
    rw[hsz1]at g2
    try rw[hsz1]
    have hsz2:wx2.heap.size=w9.heap.size+1:=by rw[hw2];simp[hsz1]
    rw[<-hw2]at g2 ⊢
    replace g2:Hid (Sep w0 wx2 (jK w9.heap.size []::aG q p false::aO p (DK.made n):: .box (w.heap.size+1+1) 119 #[pV q,.map none,.map none,iV 0,.bool false,.complex .f64 0 0,iV 0,.complex .f64 0 0]::aJ (w.heap.size+1) 0:: .box w.heap.size 37 #[pV (w.heap.size+1+1)]::R)):=Lh g2
    have k2:=hcl.out _ [_,_,_,_,_] g2.out
    clear hw2
    try dsimp only
    refine hK _ _ (fun _=>k2) ?_
    clear hK K
    try simp only[Act.put,gD]
    refine bI 17 fun K hK=>?_
    have y3:=g2.out.bC 3 rfl 3
    have z3:=g2.out.bF 3 rfl 3
    have g3:=g2.out.bS 3 rfl 3 (.int .i64 names)
    try simp only[gA,gB,gC]at y3
    go_simp
    obtain⟨wx3,hw3⟩:∃x,x=wx2.setCell ⟨w.heap.size+1+1,3,none⟩ (.int .i64 names):=⟨_,rfl⟩
    have ahX:wx3.heap.size=w9.heap.size+1:=by rw[hw3];simp[hsz2]
    rw[<-hw3]at g3 ⊢
    replace g3:Hid (Sep w0 wx3 (jK w9.heap.size []::aG q p false::aO p (DK.made n):: .box (w.heap.size+1+1) 119 #[pV q,.map none,.map none,iV names,.bool false,.complex .f64 0 0,iV 0,.complex .f64 0 0]::aJ (w.heap.size+1) 0:: .box w.heap.size 37 #[pV (w.heap.size+1+1)]::R)):=Lh g3
    have k3:=hcl.out _ [_,_,_,_,_] g3.out
    clear hw3
    try dsimp only
    refine hK _ _ (fun _=>k3) ?_
    clear hK K
    try simp only[Act.put,gD]
    refine aA 18 k3 ?_
    refine aA 19 k3 ?_
    refine aA 20 k3 ?_
    refine aA 21 k3 ?_
    refine aA 22 k3 ?_
    refine bI 23 fun K hK=>?_
    have y4:=g3.out.bC 3 rfl 2
    have z4:=g3.out.bF 3 rfl 2
    have g4:=g3.out.bS 3 rfl 2 (.map (some w9.heap.size))
    try simp only[gA,gB,gC]at y4
    go_simp
    obtain⟨wx4,hw4⟩:∃x,x=wx3.setCell ⟨w.heap.size+1+1,2,none⟩ (.map (some w9.heap.size)):=⟨_,rfl⟩
    have K4:wx4.heap.size=w9.heap.size+1:=by rw[hw4];simp[ahX]
    rw[<-hw4]at g4 ⊢
    replace g4:Hid (Sep w0 wx4 (jK w9.heap.size []::aG q p false::aO p (DK.made n):: .box (w.heap.size+1+1) 119 #[pV q,.map none,.map (some w9.heap.size),iV names,.bool false,.complex .f64 0 0,iV 0,.complex .f64 0 0]::aJ (w.heap.size+1) 0:: .box w.heap.size 37 #[pV (w.heap.size+1+1)]::R)):=Lh g4
    have k4:=hcl.out _ [_,_,_,_,_] g4.out
    clear hw4
    try dsimp only
    refine hK _ _ (fun _=>k4) ?_
    clear hK K
    try simp only[Act.put,gD]
    refine aQ fE ?_ _
    refine⟨rfl,Lh (hfin.out _ g4.out)⟩
   focus
    have y2:=g1.out.bC 2 rfl 3
    have z2:=g1.out.bF 2 rfl 3
    have g2:=g1.out.bS 2 rfl 3 (.int .i64 names)
    try simp only[gA,gB,gC]at y2
    go_simp
    obtain⟨wx2,hw2⟩:∃x,x=wx1.setCell ⟨w.heap.size+1+1,3,none⟩ (.int .i64 names):=⟨_,rfl⟩
    have hsz2:wx2.heap.size=w9.heap.size:=by rw[hw2];simp[hsz1]
    rw[<-hw2]at g2 ⊢
    replace g2:Hid (Sep w0 wx2 (aG q p false::aO p (DK.made n):: .box (w.heap.size+1+1) 119 #[pV q,.map none,.map none,iV names,.bool false,.complex .f64 0 0,iV 0,.complex .f64 0 0]::aJ (w.heap.size+1) 0:: .box w.heap.size 37 #[pV (w.heap.size+1+1)]::R)):=Lh g2
    have k2:=hcl.out _ [_,_,_,_] g2.out
    clear hw2
    try dsimp only
    refine hK _ _ (fun _=>k2) ?_
    clear hK K
    try simp only[Act.put,gD]
    refine bI 5 fun K hK=>?_
    go_simp
    have g3:=g2.out.yT
    obtain⟨wx3,hw3⟩:∃x,x=wx2.alloc (.map #[] 0):=⟨_,rfl⟩
    rw[hsz2]at g3
    try rw[hsz2]
    have ahX:wx3.heap.size=w9.heap.size+1:=by rw[hw3];simp[hsz2]
    rw[<-hw3]at g3 ⊢
    replace g3:Hid (Sep w0 wx3 (jK w9.heap.size []::aG q p false::aO p (DK.made n):: .box (w.heap.size+1+1) 119 #[pV q,.map none,.map none,iV names,.bool false,.complex .f64 0 0,iV 0,.complex .f64 0 0]::aJ (w.heap.size+1) 0:: .box w.heap.size 37 #[pV (w.heap.size+1+1)]::R)):=Lh g3
    have k3:=hcl.out _ [_,_,_,_,_] g3.out
    clear hw3
    try dsimp only
    refine hK _ _ (fun _=>k3) ?_
    clear hK K
    try simp only[Act.put,gD]
    refine aA 18 k3 ?_
    refine aA 19 k3 ?_
    refine aA 20 k3 ?_
    refine aA 21 k3 ?_
    refine aA 22 k3 ?_
    refine bI 23 fun K hK=>?_
    have y4:=g3.out.bC 3 rfl 2
    have z4:=g3.out.bF 3 rfl 2
    have g4:=g3.out.bS 3 rfl 2 (.map (some w9.heap.size))
    try simp only[gA,gB,gC]at y4
    go_simp
    obtain⟨wx4,hw4⟩:∃x,x=wx3.setCell ⟨w.heap.size+1+1,2,none⟩ (.map (some w9.heap.size)):=⟨_,rfl⟩
    have K4:wx4.heap.size=w9.heap.size+1:=by rw[hw4];simp[ahX]
    rw[<-hw4]at g4 ⊢
    replace g4:Hid (Sep w0 wx4 (jK w9.heap.size []::aG q p false::aO p (DK.made n):: .box (w.heap.size+1+1) 119 #[pV q,.map none,.map (some w9.heap.size),iV names,.bool false,.complex .f64 0 0,iV 0,.complex .f64 0 0]::aJ (w.heap.size+1) 0:: .box w.heap.size 37 #[pV (w.heap.size+1+1)]::R)):=Lh g4
    have k4:=hcl.out _ [_,_,_,_,_] g4.out
    clear hw4
    try dsimp only
    refine hK _ _ (fun _=>k4) ?_
    clear hK K
    try simp only[Act.put,gD]
    refine aQ fE ?_ _
    refine⟨rfl,Lh (hfin.out _ g4.out)⟩
  --ways>>
 intro W hW0;have hlt0:98+(names+7)/8<n:=by omega
 simp only[pX];exact hK1 _ _ (ad4 hlt0 h1 h2 h3 hW0.out)
end
def qV (nb names:Nat):Nat:=nb-96-(2+(names+7)/8)
def qE (nb names:Nat) (ns:List TN) (fs:List FT):Bool:=decide (nC ns fs<=qV nb names)&&decide (kQ ns<=names)
structure qF (S:VS) (ns:List TN) (fs:List FT) (nb names:Nat):Prop where
 nm:S.names=names
 nbe:S.nb=nb
 vt:∃g dn φ,Vt S.base ns fs g dn φ
def Next (S S':VS):Prop:=S'=S.base\/∃S1:VS,S'=S1.settled/\S1.D=S.D/\S1.nb=S.nb/\S1.bJ.2=true/\bk S'.D.now 96=bk S.D.now 96
def ar3 (S S':VS) (ns':List TN) (fs':List FT) (φ:Int->Nat) (m:Nat):Prop:=Next S S'/\∃g' dn' φ',Vt S'.base ns' fs' g' dn' φ'/\Agr m φ φ'
section
variable {w0 w:World} {R:List aW} {f q p:Nat} {S:VS} {ns:List TN} {fs:List FT} {nb names:Nat}
theorem qF.base (h:qF S ns fs nb names):qF S.base ns fs nb names:=⟨h.nm,h.nbe,h.vt⟩
theorem ad5 (h:Sep w0 w (bB f q p S::R)):96<S.nb:=by obtain⟨_,_,_,hR,_⟩:=h.mF;exact hR.big
theorem qF.ends {r:Except Int (Option VS)} {ns':List TN} {fs':List FT} {x:Int} {g:LT} {dn:Key->Nat} {φ:Int->Nat} (hL:qF S ns fs nb names) (hV:Vt S.base ns fs g dn φ) (hok:S.D.ok S.nb) (NU:96<S.nb) (hD:FC φ fs.length S.base r ns' fs') (h:wC f q p S.base r w0 w R x):
  if qE nb names ns' fs'=true then
   (x=0/\∃S',qF S' ns' fs' nb names/\ar3 S S' ns' fs' φ fs.length/\(S.D.off=false->S.D.left<0->S'.D.off=false/\S'.D.left=S.D.left)/\Sep w0 w (bB f q p S'::R))\/
   (x=11/\¬(S.D.off=false/\S.D.left<0)/\∃S1:VS,S1.nb=nb/\S1.D=S.D/\kU (nb-96) S1.cur/\(jJ S1).length<=40/\S1.bJ.2=false/\Sep w0 w (iU f q p true::aO p S1.bJ.1::R))
  else x=27/\Sep w0 w (bB f q p S.base::R):=by
 obtain⟨y,rfl,hno,EM⟩:=hD;have hrB:(S.base.rB:Int)=qV nb names:=by rw[hV.iP.rB];(show((S.nb-96-(2+(S.names+7)/8):Nat):Int)=_);rw[hL.nm,hL.nbe];rfl
 have hrI:(S.base.rI:Int)=names:=by rw[hV.iP.rI];(show(S.names:Int)=_);rw[hL.nm]
 unfold wC at h;cases y with
 |none=>
  have h1:=hno rfl;rw[hrB,hrI]at h1;rw[if_neg]
  ·exact h
  unfold qE;rw[sP,jN,jN];omega
 |some S1=>
  obtain⟨l7,hlen,g',dn',φ',hC,hR,hAg⟩:=EM S1 rfl;have hnm:S1.names=S.base.names:=hC.like.names;(have hwB:S1.wB=nC ns' fs':=by rw[hC.ph.wB,hnm];exact hR.wB (by rw[<-hnm];exact hC.ph.fair));(have hwI:S1.wI=kQ ns':=by rw[hC.ph.wI,hnm];exact hR.wI (by rw[<-hnm];exact hC.ph.fair));have aE5:S1.rB=qV nb names:=hC.like.rB.trans hrB;have aE6:S1.rI=names:=hC.like.rI.trans hrI;(have hfits:zO S1=qE nb names ns' fs':=by unfold zO qE;rw[hwB,hwI,aE5,aE6]);simp only[hfits]at h;have hDe:S1.D=S.D:=hC.like.D;(have hD1:S1.D.ok S1.nb:=by rw[hDe,show S1.nb=S.nb from hC.like.nb];exact hok);(have aE7:96<S1.nb:=by rw[show S1.nb=S.nb from hC.like.nb];exact NU);(have ak2:qU (S1.D.now.drop 96) S1:=by rw[hDe];exact l7);by_cases hf:qE nb names ns' fs'=true
  ·rw[if_pos hf]at h ⊢;by_cases hc:S1.bJ.2=true
   ·rw[if_pos hc]at h;have hVt:Vt S1.settled.base ns' fs' g' dn' φ':=by
     refine Vt.of (hC.ph.settled hD1 aE7 ak2.1 hC.m hc) hR hnm hlen ?_ ?_ rfl
     ·(show S1.rB=((S1.nb-96-(2+(S1.names+7)/8):Nat):Int));rw[aE5,show S1.nb=nb from(hC.like.nb).trans hL.nbe,hnm,show S.base.names=names from hL.nm];rfl
     (show S1.rI=(S1.names:Int));rw[aE6,hnm,show S.base.names=names from hL.nm]
    (have aKG:bk S1.settled.D.now 96=bk S.D.now 96:=by have e1:=CF hD1 aE7 hC.ph.use.cur ak2.1 hC.m hc;have e2:bk (S1.settled.D.now.drop 96) 0=bk S1.cur 0:=congrArg (fun c=>bk c 0) e1;rw[DU,ak2.2,DU,hDe]at e2;exact e2);refine .inl ⟨h.1,S1.settled,⟨?_,?_,g',dn',φ',hVt⟩,⟨.inr ⟨S1,rfl,hDe,hC.like.nb,hc,aKG⟩,g',dn',φ',hVt,hAg⟩,fun ho hl=>?_,h.2⟩
    ·(show S1.names=names);rw[hnm];exact hL.nm
    ·(show S1.nb=nb);rw[show S1.nb=S.nb from hC.like.nb];exact hL.nbe
    have:=wR (S:=S1) (by rw[hDe];exact ho) (by rw[hDe];exact hl);exact⟨this.2.1,by rw[show S1.settled.D.left=S1.bJ.1.left from rfl,this.2.2,hDe]⟩
   rw[if_neg hc]at h;refine .inr ⟨h.1,fun⟨ho,hl⟩=>hc (wR (S:=S1) (by rw[hDe];exact ho) (by rw[hDe];exact hl)).1,S1,(hC.like.nb).trans hL.nbe,hDe,?_,AY ak2.1.puts hC.m,by simpa using hc,h.2⟩;have:=hC.ph.use.cur;rw[show S1.nb=nb from(hC.like.nb).trans hL.nbe]at this;exact this
  rw[if_neg hf]at h ⊢;exact h
end
end Go.Proofs.YtmjomdkleikgbaaGreat
namespace Go.Proofs.YtmjomdkleikgbaaGreat
def qG (ns:List TN) (K:Key):List TN:=ns.filter fun m=> !(bE m==K)
theorem uK :∀ {ns:List TN} {n:TN},(ns.map bE).Nodup->n∈ns->ns.Perm (n::qG ns (bE n))
 |a::t,n,hu,hn=>by
  rw[jV,xJ]at hu;unfold qG;rw[yM];rcases kE.1 hn with e|hn
  ·subst e;rw[if_neg bK];(have e2:t.filter (fun m=> !(bE m==bE n))=t:=by rw[EZ];intro m hm;(have:bE m≠bE n:=fun e=>hu.1 (List.mem_map.2 ⟨m,hm,e⟩));simp[this]);rw[e2]
  (have hne:bE a≠bE n:=fun e=>hu.1 (List.mem_map.2 ⟨n,hn,e.symm⟩));rw[if_pos (by simp[hne])];exact((uK hu.2 hn).cons a).trans (List.Perm.swap _ _ _)
theorem ahY (g:LT) (n:Nat) (x y:LI):dP (dP g n x) n y=dP g n y:=by funext i;unfold dP;split<;>rfl
section
variable {S:VS} {g:LT} {ns:List TN} {fs:List FT} {dn:Key->Nat} {φ:Int->Nat}
theorem Vt.entry (h:Vt S ns fs g dn φ) {p:List UInt8} {n:TN} (hn:kP ns (splitB p)=some n) (hP:dJ ns (splitB p).dropLast):
  ∃i,i<(g (dn (splitB p).dropLast)).bH.length/\(kJ (g (dn (splitB p).dropLast)).bH (aL p)).1=i/\tC (g (dn (splitB p).dropLast)).bH i=(aL p,dE dn φ n):=by
 have hf:=h.rep.find hP (aL p);rw[<-y8,hn]at hf;rcases CB (g (dn (splitB p).dropLast)).bH (aL p)with⟨i,h1,h2,h3,h4⟩|⟨_,h4⟩
 ·refine⟨i,h1,h3,?_⟩;rw[hf]at h4;have e1:dE dn φ n=(kJ (g (dn (splitB p).dropLast)).bH (aL p)).2:=ab3 h4;rw[h2,e1]
 rw[hf]at h4;cases h4
theorem l6.WX {nm:Nat} (h:l6 g nm ns fs dn φ) {n:TN} (hn:n∈ns) (hf:n.file≠ -1):eP ns (bE n)=[]:=by
 unfold eP;rw[ajU];intro m hm hk;have e:(bE m).dropLast=bE n:=by simpa using hk
 rcases h.up m hm with h1|⟨a,ha,h1,h2⟩
 ·exact aaF n (by rw[<-e,h1])
 have:a=n:=RA h.uniq ha hn (by rw[h1,e]);rw[this]at h2;exact hf h2
theorem K5 {n:TN} {K:Key} (h:eP ns K=[]):eP (qG ns (bE n)) K=[]:=by unfold eP qG at*;rw[ajU]at h ⊢;intro m hm;exact h m (List.mem_filter.1 hm).1
theorem Z44 {P:Prop} (h:P:=by rw[hS1];have:=h.iP.ph.awT (name:=aL p) hd1 hd2;rw[h.m]at this;omega):P:=h
theorem Vt.ar4 (h:Vt S ns fs g dn φ) {p:List UInt8} {n:TN} (hv:aV p=true) (hn:kP ns (splitB p)=some n) (hP:dJ ns (splitB p).dropLast) (hf:n.file≠ -1):
  FC φ fs.length S (.ok (some (oH S (dn (splitB p).dropLast) (aL p) (φ n.file)))) (qG ns (splitB p)) fs/\QY S (dn (splitB p).dropLast) p (φ n.file):=by
 obtain⟨hnm,hnk⟩:=eY hn;obtain⟨ix,hi,hl,he⟩:=h.entry hn hP;have hbase:(aL p).length<=15:=by have:=rJ hv;omega
 obtain⟨hd1,hd2⟩:=h.rep.AR hP;obtain⟨_,hj1,hj2,_,hj3⟩:=h.rep.file n hnm hf;have nT:dE dn φ n=φ n.file:=by unfold dE;rw[if_neg hf]
 rw[nT]at he;obtain⟨d,hd⟩:∃d,d=dn (splitB p).dropLast:=⟨_,rfl⟩;obtain⟨j,hj⟩:∃j,j=φ n.file:=⟨_,rfl⟩;rw[<-hd]at hi hl he hd1 hd2;rw[<-hj]at he hj1 hj2 hj3;rw[<-hd,<-hj];have hjd:j≠d:=fun e=>by rw[e,hd2]at hj2;cases hj2
 --the tree
 have hperm:=uK h.rep.uniq hnm;have hR0:=h.rep.perm hperm;rw[hnk]at hperm hR0;have hkey:bE n=splitB p:=hnk;have hlast:(bE n).getLastD []=aL p:=by rw[hkey];rfl
 have MZ:eP (qG ns (splitB p)) (bE n)=[]:=by have:=K5 (n:=n) (h.rep.WX hnm hf);rw[hnk]at this ⊢;exact this
 have RV:=fun(x:LI) hx=>hR0.aAM (x:=x) (ix:=ix) MZ hx (by rw[hkey,<-hd];exact hi) (by rw[hkey,<-hd,nT,<-hj];exact he.trans (by rw[<-hkey,hlast]))
 rw[hkey,<-hd,nT,<-hj]at RV;have hcnt:(g j).links=1+(qG ns (splitB p)).countP fun m=>decide (m.file=n.file):=by rw[hj3,hperm.countP_eq,LY,if_pos bK];omega
 --the blocks
 have hL:=h.iP.ph.leave hd1 hd2 hi hl;have hlv:=h.iP.ph.aaE hd1 hd2 hbase hi hl;obtain⟨S1,hS1⟩:∃S1,S1=cO S d (aL p):=⟨_,rfl⟩;have hL1:fC S S1:=by rw[hS1];exact oV _ _ _
 have hm1:S1.m<=4:=by exact Z44
 have hF1:qU S.cur S1:=by rw[hS1];exact(qU.refl S).cO _ _
 rw[<-hS1]at hL;obtain⟨g1,hg1⟩:∃g1,g1=dP g d ((g d).less ix):=⟨_,rfl⟩;rw[<-hg1]at hL RV;have U3:j<S1.names:=by rw[hL1.names];exact hj1
 have gj:g1 j=g j:=by rw[hg1,bR _ _ hjd]
 have hfair:=hL.fair j U3;obtain⟨x,hx⟩:∃x:LI,x= {g1 j with links:=(g1 j).links-1}:=⟨_,rfl⟩;have hxf:x.fair:=by rw[hx];exact⟨hfair.kind,hfair.bH,hfair.data,hfair.few,hfair.short,hfair.mode,by show(g1 j).links-1<65536;have:=hfair.links;omega,hfair.names⟩
 have hM:=hL.meta U3 (x:=x) hxf (by rw[hx]) (by rw[hx]) (by rw[hx]);have hy:({aH S1.cur j with links:=(aH S1.cur j).links-1}:VI)=x.vi (aH S1.cur j).aB:=by
  have:=hL.head j U3;rw[hx]
  conv=>lhs;rw[this]
  rfl
 have hyl:(aH S1.cur j).links=(g j).links:=by rw[hL.head j U3,gj];rfl
 have hsm:(aH S1.cur j).aB.length<=16:=by rw[hL.len j U3,gj];have:=(h.iP.ph.fair j hj1).short;unfold LI.need;rw[if_neg aD,if_pos hj2];omega
 rw[<-hy]at hM;obtain⟨S2,hS2⟩:∃S2,S2=S1.keep j {aH S1.cur j with links:=(aH S1.cur j).links-1}:=⟨_,rfl⟩;rw[<-hS2]at hM;have hL2:fC S S2:=by rw[hS2];exact hL1.keep _ _
 have hm2:S2.m<=5:=by rw[hS2];show S1.m+1<=5;omega
 have hF2:qU S.cur S2:=by rw[hS2];exact hF1.keep _ _
 have aRO:(aH S2.cur j).aB.length<=16:=by rw[hM.len j (by rw[hL2.names];exact hj1),bM,hx,gj];have:=(h.iP.ph.fair j hj1).short;unfold LI.need;rw[if_neg (by show ¬(g j).kind=1;omega),if_pos (by exact hj2)];(show((g j).data.length+511)/512<=16);omega
 have hun:oH S d (aL p) j=if(g j).links-1=0 then mV S2 j else S2:=by unfold oH;simp only;rw[<-hS1,<-hS2,hyl]
 have hlen:(qG ns (splitB p)).length<=256:=by have h1:=hperm.length_eq;rw[kH]at h1;have:=h.nodes;have:=h.iP.few;omega
 have aKI:∃g',Chg S g' (oH S d (aL p) j)/\l6 g' S.names (qG ns (splitB p)) fs dn φ:=by
  rw[hun];by_cases h0:(g j).links-1=0
  ·rw[if_pos h0];(have hc0:(qG ns (splitB p)).countP (fun m=>decide (m.file=n.file))=0:=by omega);have hno:∀m∈qG ns (splitB p),dE dn φ m≠j:=fun m hm e=>by
    have hmn:m∈ns:=(List.mem_filter.1 hm).1;(have hne:m.file≠n.file:=by simpa using List.countP_eq_zero.1 hc0 m hm);rcases h.rep.inj m hmn n hnm (by rw[e,nT,hj])with h8|h8
    ·exact hne (by rw[h8])
    exact hne h8.2
   have hDr:=hM.drop (n:=j) (by rw[hL2.names];exact hj1) (by rw[bM,hx,gj];exact(h.iP.ph.fair j hj1).bH aD);rw[ahY]at hDr;refine⟨_,⟨hDr,hL2.trans (P9 _ _),?_⟩,RV LI0 (.inr ⟨rfl,hno⟩)⟩;have:=arH S2 j;omega
  rw[if_neg h0];(have hex:∃m∈qG ns (splitB p),m.file=n.file:=by(have:0<(qG ns (splitB p)).countP fun m=>decide (m.file=n.file):=by omega);obtain⟨m,hm,e⟩:=List.countP_pos_iff.1 this;exact⟨m,hm,by simpa using e⟩);have hl2:=RV x (.inl ⟨hf,by rw[hx,gj],hex⟩);exact⟨_,⟨hM,hL2,by omega⟩,hl2⟩
 obtain⟨g',hC,hR⟩:=aKI;refine⟨⟨_,rfl,fun e=>(by cases e),fun T hT=>?_⟩,?_⟩
 ·cases hT;refine⟨?_,hlen,g',dn,φ,hC,hR,fun _ _=>rfl⟩;rw[hun];split
  ·exact hF2.mV _
  exact hF2
 refine⟨hlv,h.iP.ph.sv,?_,?_,?_,?_,?_,?_⟩
 ·rw[<-hS1];exact hL.adN U3
 ·rw[<-hS1,hyl];omega
 ·rw[<-hS1];exact hL.sw
 ·rw[<-hS1,<-hS2];exact hM.adN (by rw[hL2.names];exact hj1)
 ·rw[<-hS1,<-hS2];exact hM.sw
 exact dD.I5 ⟨h.iP.rB,h.iP.rI⟩ h.iP.ph.use hC.like hC.ph hC.m
theorem Vt.rmdir (h:Vt S ns fs g dn φ) {p:List UInt8} {n:TN} (hv:aV p=true) (hn:kP ns (splitB p)=some n) (hP:dJ ns (splitB p).dropLast) (hf:n.file= -1) (hk:eP ns (splitB p)=[]):
  FC φ fs.length S (.ok (some (mV (cO S (dn (splitB p).dropLast) (aL p)) (dn (splitB p))))) (qG ns (splitB p)) fs/\ZV S (dn (splitB p).dropLast) p (dn (splitB p)):=by
 obtain⟨hnm,hnk⟩:=eY hn;obtain⟨ix,hi,hl,he⟩:=h.entry hn hP;have hbase:(aL p).length<=15:=by have:=rJ hv;omega
 obtain⟨hd1,hd2⟩:=h.rep.AR hP;have hkey:bE n=splitB p:=hnk;obtain⟨hj1,hj2,_,_⟩:=h.rep.dir n hnm hf;have nT:dE dn φ n=dn (splitB p):=by unfold dE;rw[if_pos hf,hkey]
 have hne0:=h.rep.ne0 n hnm;rw[nT]at he hne0;rw[hkey]at hj1 hj2;have hsplit:splitB p≠[]:=gJ p;have hDp:dJ ns (splitB p):=.inr ⟨n,hnm,hkey,hf⟩;have hjd:dn (splitB p)≠dn (splitB p).dropLast:=fun e=>CE hsplit (h.rep.aaG hDp hP e).symm
 have hsz:=h.rep.dM hDp;have hsz0:(g (dn (splitB p))).bH.length=0:=by rw[hsz];unfold dM;rw[hk];rfl
 obtain⟨d,hd⟩:∃d,d=dn (splitB p).dropLast:=⟨_,rfl⟩;obtain⟨j,hj⟩:∃j,j=dn (splitB p):=⟨_,rfl⟩;rw[<-hd]at hi hl he hd1 hd2 hjd;rw[<-hj]at he hj1 hj2 hne0 hjd hsz0;rw[<-hd,<-hj];have hperm:=uK h.rep.uniq hnm;have hR0:=h.rep.perm hperm;rw[hnk]at hperm hR0;have hlast:(bE n).getLastD []=aL p:=by rw[hkey];rfl
 have MZ:eP (qG ns (splitB p)) (bE n)=[]:=by have:=K5 (n:=n) (K:=splitB p) hk;rw[hnk]at this;rw[hkey];exact this
 have hno:∀m∈qG ns (splitB p),dE dn φ m≠j:=fun m hm e=>by
  have hmn:m∈ns:=(List.mem_filter.1 hm).1;rcases h.rep.inj m hmn n hnm (by rw[e,nT,hj])with h8|h8
  ·have:=(List.mem_filter.1 hm).2;rw[h8,hkey]at this;simp at this
  exact h8.1 (by rw[h8.2,hf])
 have RV:=hR0.aAM (x:=LI0) (ix:=ix) MZ (.inr ⟨rfl,fun m hm=>by rw[nT,<-hj];exact hno m hm⟩) (by rw[hkey,<-hd];exact hi) (by rw[hkey,<-hd,nT,<-hj];exact he.trans (by rw[<-hkey,hlast]));rw[hkey,<-hd,nT,<-hj]at RV;have hL:=h.iP.ph.leave hd1 hd2 hi hl;have hlv:=h.iP.ph.aaE hd1 hd2 hbase hi hl;obtain⟨S1,hS1⟩:∃S1,S1=cO S d (aL p):=⟨_,rfl⟩;have hL1:fC S S1:=by rw[hS1];exact oV _ _ _
 have hm1:S1.m<=4:=by exact Z44
 have hF1:qU S.cur S1:=by rw[hS1];exact(qU.refl S).cO _ _
 rw[<-hS1]at hL;rw[<-hS1];have gj:dP g d ((g d).less ix) j=g j:=bR _ _ hjd;have U3:j<S1.names:=by rw[hL1.names];exact hj1
 have ac8:(g j).bH=[]:=vS hsz0;have hDr:=hL.drop (n:=j) U3 (by rw[gj];exact ac8);have hsm:(aH S1.cur j).aB.length<=1:=by rw[hL.len j U3,gj,lF hj2,hsz0];decide
 have hlen:(qG ns (splitB p)).length<=256:=by have h1:=hperm.length_eq;rw[kH]at h1;have:=h.nodes;have:=h.iP.few;omega
 have hC:Chg S (dP (dP g d ((g d).less ix)) j LI0) (mV S1 j):=⟨hDr,hL1.trans (P9 _ _),by have:=arH S1 j;omega⟩;refine⟨⟨_,rfl,fun e=>(by cases e),fun T hT=>?_⟩,hlv,h.iP.ph.sv,?_,?_,?_⟩
 ·cases hT;exact⟨hF1.mV _,hlen,_,dn,φ,hC,RV,fun _ _=>rfl⟩
 ·rw[<-hS1];exact hL.adN U3
 ·rw[<-hS1];exact hL.sw
 rw[<-hS1];exact dD.I5 ⟨h.iP.rB,h.iP.rI⟩ h.iP.ph.use hC.like hC.ph hC.m
end
end Go.Proofs.YtmjomdkleikgbaaGreat
