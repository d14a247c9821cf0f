/- Parts. -/
import Derived.Test.YteihmbaimbogaaaGreatJ4
import Derived.Maps.OwnSet
import Derived.Maps.Range
import Derived.Maps.RangeWalk
set_option linter.unusedVariables false
set_option linter.unusedSimpArgs false
set_option maxRecDepth 100000
set_option maxHeartbeats 20000000
namespace Go.Proofs.YteihmbaimbogaaaGreat
open Go.RowKit
def aaY (L:List Nat) (x:Int):Int:=if x∈L.map (fun(a:Nat)=>(a:Int))then 1 else 0
theorem aq6 (L:List Nat) (a:Nat):(fun x=>if x=(a:Int)then 1 else aaY L x)=aaY (L++[a]):=by
 funext x;unfold aaY;by_cases e:x=(a:Int)
 ·rw[if_pos e,if_pos];rw[kT,gX];exact .inr (by simp[e])
 rw[if_neg e];by_cases h:x∈L.map (fun(a:Nat)=>(a:Int))
 ·rw[if_pos h,if_pos];rw[kT,gX];exact .inl h
 rw[if_neg h,if_neg];rw[kT,gX];rintro(h'|h')
 ·exact h h'
 simp at h';exact e h'
theorem awW {L:List Nat} {a:Nat} (h:a∉L):aaY L (a:Int)=0:=by
 unfold aaY;rw[if_neg];intro hm;obtain⟨b,hb,e⟩:=List.mem_map.1 hm;have:b=a:=by omega
 exact h (this▸hb)
theorem awX {a:Nat} (h:a<=4096):(Lit.int .i64 (a:Int)).wf=true:=by simp[Lit.wf,IntKind.min,IntKind.max,IntKind.signed,IntKind.bits];omega
def J4 (ps:List (Nat×List UInt8)):List Int:=ps.map fun y=>(y.1:Int)
theorem aAC (ps:List (Nat×List UInt8)):J4 ps=(ps.map (·.1)).map (fun(p:Nat)=>(p:Int)):=by unfold J4;rw[DR];rfl
theorem awY (ps:List (Nat×List UInt8)):(J4 ps).length=ps.length:=kV ..
def aoD (b:Bool):Int:=if b=true then 0 else 11
theorem mZ {w0 w:World} {R:List bK} {q be:Nat} {p:Nat} {tmps:Array Value} {Post:Ending->World->Prop} (ht:tmps.getD 4 undef=pV be) (h:Sep w0 w (aG q p false::aI be 0::R))
  (hp:∀w',Sep w0 w' (aG q p true::R)->Post (.returned (iV 11)) w'):
  bodyPostD Tryz.prog Tryz.f144 Post (Exit.panic [{v:=AU 11,recovered:=false}]) {tmps:=tmps,defers:=[{target:=.fn (.func 128) #[],args:=#[pV q,pV be]}]} w:=by
 refine FN h fun w' hS=>?_
 have ec:=hS.bC 1 rfl 0;simp only[gA,gB]at ec;refine⟨.int .i64 11,?_,hp w' (Sep.drop 1 (Sep.dE [1,0] hS aQ bM))⟩;have hr:Tryz.f144.results=#[.cell 4 39]:=by kernel_rfl
 have ht':tmps[4]?.getD undef=pV be:=by simpa using ht
 simp[results,hr,go_sem,ht',ec]
theorem DK.aAD (D:DK) (i:Nat) (b:List UInt8):(D.wr i b).back.length=D.back.length+1:=by unfold DK.wr;rw[DK.AA];simp
theorem DK.amM (D:DK):D.fl.back=[]:=by unfold DK.fl;rw[DK.AA]
structure I6 (nb:Nat) (D E:DK) (xs:List uA) (m:Nat):Prop where
 run:lF xs D=(E,true)
 ok:E.ok nb
 back:E.back.length<=m
theorem I6.wr {nb m i:Nat} {D E:DK} {xs:List uA} {b:List UInt8} (h:I6 nb D E xs m) (ho:E.off=false) (hi:i<nb) (hb:b.length=512):I6 nb D (E.wr i b) (xs++[some (i,b)]) (m+1):=
 ⟨aaS h.run ho,DK.amT h.ok hi hb,by rw[DK.aAD];have:=h.back;omega⟩
theorem I6.fl {nb m:Nat} {D E:DK} {xs:List uA} (h:I6 nb D E xs m) (ho:E.off=false):I6 nb D E.fl (xs++[none]) 0:=
 ⟨aaS h.run ho,DK.aBO h.ok,by rw[DK.amM];exact jL _⟩
theorem ajH {w0 w:World} {R:List bK} {q p nb g n c:Nat} {D:DK} {ps:List (Nat×List UInt8)} {us:List Value} (hD:D.ok nb) (J9:96<nb) (hps:asL nb ps) (hin:asK w0 R g n ps us) (hnc:n<=c) (hcm:c<=maxLen) (hback:D.back.length<=60000) (h:Sep w0 w (aG q p false::aN p D::R)):
  Calls Tryz.prog 144 #[pV q,sV g n c] w fun e w'=>
   e= .returned (iV (aoD (lF (bT ps) D).2))/\Sep w0 w' (aG q p (!(lF (bT ps) D).2)::aN p (lF (bT ps) D).1::R):=by
 obtain⟨be,hbe⟩:∃be,w.heap.size=be:=⟨_,rfl⟩
 have h1:Sep w0 ((w.alloc (.cells #[iV 0] 39)).alloc (.map #[] 0)) (aaR (be+1) 0 (fun _=>0)::aG q p false::aN p D::aI be 0::R):=by have h2:Sep w0 (w.alloc (.cells #[iV 0] 39)) (aG q p false::aN p D::aI w.heap.size 0::R):=Sep.dE [1,2,0] (h.bN 39 #[iV 0]) aQ bM;have h3:=h2.av3;rw[<-hbe];simpa using h3
 have h1':=Lh h1
 have hmm:= @run_makeMap Tryz.prog
 have hn1:(1:Int)<=n:=by have:=hps.some;have:=hin.len;omega
 have hn2:(n:Int)<=40:=by have:=hps.few;have:=hin.len;omega
 have aiA:=Lh hps
 have hin':=Lh hin
 have hD':=Lh hD
 have ajG:=Lh hback
 clear h1 hback hcm
 go_enter_defers Tryz.func144,Tryz.ntmps144
 go_wp2_with fail
 simp only[hbe]at*
 have aKZ:∀k (hk:k<n),96+(ps[k]'(by rw[hin'.out.len];exact hk)).1<nb/\(ps[k]'(by rw[hin'.out.len];exact hk)).2.length=512:=fun k hk=>aiA.out.put _ (tK _)
 have anP:=Lh aKZ
 have hlp:=hin'.out.len
 have alQ:=Lh hlp
 have hnb:=hD'.out.few
 have hnb':=Lh hnb
 clear aKZ hlp hnb hps hin h hmm hD
 go_loopw[27] (fun i wr=>∃k:Nat,k<=n/\i=iV k/\Hid (Sep w0 wr (aaR (be+1) k (aaY ((ps.take k).map (·.1)))::aG q p false::aN p D::aI be 0::R))) (fun i _=>n-(intOf i).toNat)
 case atStart=>exact⟨0,iF _,rfl,h1'⟩
 case round=>
  obtain⟨k,hk,rfl,hS⟩:=hrel;by_cases hlt:k<n
  ·(have hkl:k<ps.length:=by rw[alQ.out];exact hlt);obtain⟨c0,c1⟩:=hin'.out.cell wr [_,_,_,_] hS.out k hlt;obtain⟨J5,FQ⟩:=anP.out k hlt;obtain⟨Au,cu,hu⟩:=hin'.out.form _ (tK (show k<us.length by rw[hin'.out.azO];exact hlt));rw[hu]at c1;obtain⟨a,ha⟩:∃a,ps[k].1=a:=⟨_,rfl⟩;rw[ha]at c0 J5;(have ha2:a<=4096:=by have:=hnb'.out;omega);have hwf:=awX ha2;have LH:=hS.out.alloc (.cells #[iV (a:Nat),.slice Au 512 cu] 190);(have hno:a∉(ps.take k).map (·.1):=by have hnd:=aiA.out.ne;intro hm;obtain⟨x,hx,e⟩:=List.mem_map.1 hm;obtain⟨j,hj,e2⟩:=QV hx;rw[tF]at hj;rw[List.getElem_take]at e2;(have hjk:j<k:=by omega);have:=(ad4.1 hnd);rw[IK]at this;have h3:=this j k (by rw[kV];omega) (by rw[kV];omega) hjk;rw[Q3,Q3,e2,e,ha]at h3;exact h3 rfl);have aK0:=LH.aqM 0 rfl (a:Int) hwf;rw[awW hno]at aK0;obtain⟨w1,hput,hS1⟩:=LH.av4 0 rfl oH (a:Int) 1 hwf aQ;rw[aq6]at hS1;(have e9:(ps.take k).map (·.1)++[a]=(ps.take (k+1)).map (·.1):=by rw[BC,gE hkl,kT,<-ha];rfl);rw[e9]at hS1;have azJ:=Lh hS1;(have q1:(k:Int)<n:=by omega);(have q0:(0:Int)<=k:=by omega);clear LH hno J5 FQ hwf e9 hS1 h1';go_wp2_with fail;refine⟨⟨k+1,by omega,rfl,azJ⟩,by simp[intOf];omega⟩
  (obtain rfl:n=k:=by omega);have hS2:Hid (Sep w0 wr (bA (.slice none 0 0) []::aG q p false::aN p D::aI be 0::R)):=Lh (YS (Sep.drop 1 hS.out));clear hS h1' hk hlt;go_wp2_with fail;go_loopw[8,50] (fun x i wr=>∃(k:Nat),k<=n/\i=iV k/\Hid (Sep w0 wr (bA x (J4 (ps.take k))::aG q p false::aN p D::aI be 0::R))) (fun _ i _=>n-(intOf i).toNat)
  case atStart=>exact⟨0,iF _,rfl,hS2⟩
  obtain⟨k,hk,rfl,hS⟩:=hrel;by_cases hlt:k<n
  ·(have hkl:k<ps.length:=by rw[alQ.out];exact hlt);obtain⟨c0,c1⟩:=hin'.out.cell wr [_,_,_,_] hS.out k hlt;obtain⟨J5,FQ⟩:=anP.out k hlt;obtain⟨Au,cu,hu⟩:=hin'.out.form _ (tK (show k<us.length by rw[hin'.out.azO];exact hlt));rw[hu]at c1;obtain⟨a,ha⟩:∃a,ps[k].1=a:=⟨_,rfl⟩;rw[ha]at c0 J5;have LH:=hS.out.alloc (.cells #[iV (a:Nat),.slice Au 512 cu] 190);(have q1:(k:Int)<n:=by omega);(have q0:(0:Int)<=k:=by omega);have hbl:=FL hD'.out aD (Sep.drop 1 (Sep.dE [0,1,2] LH.drew aQ bM));obtain⟨N,hN⟩:∃N,N=nb-96:=⟨_,rfl⟩;rw[<-hN]at hbl;have hd0:decide ((a:Int)<0)=false:=decide_eq_false aD;have hd1:decide ((N:Int)<=(a:Int))=false:=decide_eq_false aD;(have hd2:¬N<=a:=by omega);have aFH:=Lh LH;have ec:(wr.alloc (.cells #[iV (a:Nat),.slice Au 512 cu] 190)).drew.cell? ⟨wr.heap.size,0,none⟩=some (iV (a:Nat)):=cell_of_row _ _ 0 _ _ _ (heap_alloc_new wr _);have hfl:(Tryz.prog.info? 3).map (fun i=>(i.zero,i.size,i.bytes))=some (some (iV 0),1,8):=EW;obtain⟨k0,gN,hk0,hk1,hk2⟩:=lM hfl;clear LH J5 FQ hS2 hN hfl;go_wp2_with fail;refine fP ?_;refine aJ (S:=fun w'=>w'.cell? ⟨wr.heap.size,0,none⟩=some (iV (a:Nat))) 10 ?_;refine aW 0 (fun _=>ec) ?_;refine aW 1 (fun _=>ec) ?_;refine aW 2 (fun _=>ec) ?_;refine aW 3 (fun _=>ec) ?_;refine aA 4 ec ?_;refine aA 5 ec ?_;refine aA 6 ec ?_;(refine bG 7 fun K hK=>?_);go_simp;go_at_call 133;refine hbl.mono ?_;rintro e w9 ⟨rfl,h9⟩;obtain rfl:=h9.symm;refine hK _ _ (fun _=>ec) ?_;clear hK K;(try simp only[Act.put,gD]);refine aW 8 (fun _=>ec) ?_;refine aW 9 (fun _=>ec) ?_;refine aR fZ ?_ _;simp only[jT];clear hbl;have hSB:Hid (Sep w0 ((wr.alloc (.cells #[iV (a:Nat),.slice Au 512 cu] 190)).alloc (.cells #[iV (a:Nat)] 3)).drew (bA u8 (J4 (ps.take k))::aG q p false::aN p D::aI be 0::R)):=Lh (aFH.out.alloc (.cells #[iV (a:Nat)] 3)).drew;have hrd:Hid (Rd ((wr.alloc (.cells #[iV (a:Nat),.slice Au 512 cu] 190)).alloc (.cells #[iV (a:Nat)] 3)).drew 1 (sV (wr.heap.size+1) 1 1) 1 [.int .i64 (a:Nat)]):=Lh ⟨rfl,_,_,rfl,jL _,by unfold maxLen;omega,fun _=>⟨_,rfl,by simp,iA (wr.alloc (.cells #[iV (a:Nat),.slice Au 512 cu] 190)) #[iV (a:Nat)] 3 _ bM⟩⟩;(have hl8:(J4 (ps.take k)).length=k:=by rw[awY,tF];omega);rw[show(bA u8 (J4 (ps.take k)))= .sl 3 1 u8 k ((J4 (ps.take k)).map (.int .i64))by unfold bA;rw[hl8]]at hSB;go_wp2_with(at_builtin;refine aS 0 rfl _ _ 61 rfl 3 k0 (.int .i64 0) 1 8 Tryz.underlying61 gN hk0 hk1 hk2 rfl aQ hSB.out u8 k _ rfl rfl (sV (wr.heap.size+1) 1 1) 1 [.int .i64 (a:Nat)] rfl hrd.out Q8 oH aD ?_;intro v3 w3 dJ hz3);refine⟨⟨k+1,by omega,rfl,Lh ?_⟩,by simp[intOf];omega⟩;(have e9:J4 (ps.take (k+1))=J4 (ps.take k)++[(a:Int)]:=by unfold J4;rw[BC,gE hkl,kT,<-ha];rfl);rw[e9];unfold bA;rw[kN,hl8,kT];exact dJ
  (obtain rfl:n=k:=by omega);have dJ:=hS;rw[tH (by rw[alQ.out];exact jL _)]at dJ;have haw:=JY (Sep.drop 1 dJ.out);simp only[I8,if_false]at haw;clear hS hS2;go_wp2_with(go_at_call 129;refine haw.mono ?_;rintro e w9 ⟨rfl,h9⟩;obtain rfl:=h9.symm);(have hfin:Hid (∀(E:DK) (X:List bK) (xs ys:List uA) (x:uA) W,bT ps=xs++x::ys->lF xs D=(E,true)->E.off=true->Sep w0 W (aG q p true::aN p E::(X++R))->(Ending.returned (iV 11)= .returned (iV (aoD (lF (bT ps) D).2))/\Sep w0 W (aG q p (!(lF (bT ps) D).2)::aN p (lF (bT ps) D).1::R))):=Lh fun E X xs ys x W hc hr ho hS=>by rw[hc,aqN hr ho];refine⟨rfl,?_⟩;(have h1:Sep w0 W ((aG q p true::aN p E::X)++R):=by simpa using hS);have h2:Sep w0 W (X++(aG q p true::aN p E::R)):=h1.perm (by have:=(YK (l₁:=[aG q p true,aN p E]) (l₂:=X)).append_right R;simpa using this);exact h2.snd);have fC:Hid (∃E,I6 nb D E [] (D.back.length+0)/\Sep w0 wr (aG q p false::aN p E::aI be 0::bA u8 (J4 ps)::R)):=Lh ⟨D,⟨rfl,hD'.out,jL _⟩,Sep.dE [1,2,3,0] dJ.out aQ bM⟩;clear dJ haw;go_loopw[74] (fun i wr=>∃k:Nat,k<=n/\i=iV k/\Hid (∃E,I6 nb D E ((lX ps).take k) (D.back.length+k)/\Sep w0 wr (aG q p false::aN p E::aI be 0::bA u8 (J4 ps)::R))) (fun i _=>n-(intOf i).toNat)
  case atStart=>exact⟨0,iF _,rfl,fC⟩
  obtain⟨k,hk,rfl,hS⟩:=hrel;by_cases hlt:k<n
  ·(have hkl:k<ps.length:=by rw[alQ.out];exact hlt);obtain⟨E,hE,hS5⟩:=hS.out;obtain⟨c0,c1⟩:=hin'.out.cell wr [_,_,_,_] hS5 k hlt;obtain⟨J5,FQ⟩:=anP.out k hlt;have hdat:=hin'.out.data k hlt;obtain⟨Au,cu,hu⟩:=hin'.out.form _ (tK (show k<us.length by rw[hin'.out.azO];exact hlt));rw[hu]at c1 hdat;obtain⟨a,ha⟩:∃a,ps[k].1=a:=⟨_,rfl⟩;obtain⟨bs,hbs⟩:∃bs,ps[k].2=bs:=⟨_,rfl⟩;rw[ha]at c0;rw[hbs]at hdat FQ;have LH:=hS5.alloc (.cells #[iV (a:Nat),.slice Au 512 cu] 190);have hpre:bT ps=(lX ps).take k++some (1+k,bs)::((lX ps).drop (k+1)++(none::some (0,eQ (ps.map (·.1)))::none::(gU ps++[none,some (0,eQ []),none]))):=by
    have h1:=MI hkl;rw[hbs]at h1;unfold bT
    conv=>lhs;rw[<-DL (k+1) (lX ps),h1]
    simp
   (have h1k:1+k<nb:=by have:=aiA.out.few;omega);(have hfw:E.back.length<65536:=by have:=hE.back;have:=ajG.out;have:=aiA.out.few;omega);have hpre':=Lh hpre;have aFH:=Lh LH;have hE':=Lh hE;(have hcast:(1:Int)+(k:Int)=((1+k:Nat):Int):=by omega);(have q1:(k:Int)<n:=by omega);(have q0:(0:Int)<=k:=by omega);cases hoff:E.off with
   |true=>have hw:=CR (i:=1+k) hE.ok h1k FQ hfw (hdat.cons.cons) hoff LH;rw[<-hcast]at hw;clear LH hpre hS hS5 hfw hE hcast fC J5 FQ;go_wp2_with(go_at_call 138;refine hw.mono ?_;rintro e w9 ⟨rfl,h9⟩);(refine mZ (be:=be) rfl (Sep.dE [0,2,1] h9 aQ bM) fun w' hw'=>?_);exact hfin.out E [bA u8 (J4 ps)] _ _ _ w' hpre'.out hE'.out.run hoff hw'
   |false=>have hw:=wC (i:=1+k) hE.ok h1k FQ hfw (hdat.cons.cons) hoff LH;rw[<-hcast]at hw;have hE2:=Lh (hE.wr hoff h1k FQ);clear LH hpre hS hS5 hfw hE hcast fC J5 FQ;go_wp2_with(go_at_call 138;refine hw.mono ?_;rintro e w9 ⟨rfl,h9⟩);refine⟨⟨k+1,by omega,rfl,Lh ⟨_,?_,h9⟩⟩,by simp[intOf];omega⟩;rw[MI hkl,hbs];exact hE2.out
  (obtain rfl:n=k:=by omega);obtain⟨E,hE,hS5⟩:=hS.out;rw[tH (by unfold lX;rw[kV,List.length_zipIdx,alQ.out];exact jL _)]at hE;clear hS fC hlt hk;have hE':=Lh hE;have hok:=hE.ok;(have aq7:0<nb:=by omega);cases hoff:E.off with
  |true=>have hf:=CS hok hoff hS5;clear hS5 hE hok;go_wp2_with(go_at_call 134;refine hf.mono ?_;rintro e w9 ⟨rfl,h9⟩);(refine mZ (p:=p) (be:=be) rfl (Sep.dE [0,2,1] h9 aQ bM) fun w' hw'=>?_);exact hfin.out E [bA u8 (J4 ps)] _ _ none w' rfl hE'.out.run hoff hw'
  |false=>
  have hf:=qY hok hoff hS5;have hE2:=Lh (hE.fl hoff);clear hS5 hE hok;go_wp2_with(go_at_call 134;refine hf.mono ?_;rintro e w9 ⟨rfl,h9⟩);clear hf hE';have hints:=h9.ints 3 rfl;rw[aAC]at hints;have hhd:=UN hints (by rw[kV];have:=aiA.out.few;omega) (by intro y hy;obtain⟨x,hx,rfl⟩:=List.mem_map.1 hy;have:=aiA.out.put x hx;have:=hnb'.out;omega);clear hints;go_wp2_with(go_at_call 139;refine hhd.mono ?_;rintro e w10 ⟨u,rfl,hSu⟩);have jS:Sep w0 w10 (aG q p false::aN p E.fl::aI be 0::aL u (eQ (ps.map (·.1)))::R):=Sep.drop 1 (Sep.dE [4,1,2,3,0] (h9.join hSu) aQ bM);have hlh:(eQ (ps.map (·.1))).length=512:=qO (by rw[kV];have:=aiA.out.few;omega);clear hhd hSu h9;obtain⟨E2,aK2⟩:∃E2,E.fl=E2:=⟨_,rfl⟩;rw[aK2]at hE2 jS;have hok2:=hE2.out.ok;(have hfw2:E2.back.length<65536:=by have:=hE2.out.back;omega);cases UM:E2.off with
  |true=>have hf:=CR (i:=0) hok2 aq7 hlh hfw2 (jB.part 1 rfl) UM jS;clear jS hok2 hfw2 hlh;go_wp2_with(go_at_call 138;refine hf.mono ?_;rintro e w11 ⟨rfl,h11⟩);(refine mZ (p:=p) (be:=be) rfl (Sep.dE [0,2,1] h11 aQ bM) fun w' hw'=>?_);exact hfin.out E2 [aL u (eQ (ps.map (·.1)))] (lX ps++[none]) (none::(gU ps++[none,some (0,eQ []),none])) (some (0,eQ (ps.map (·.1)))) w' (by simp[bT]) hE2.out.run UM hw'
  |false=>
  have hf:=wC (i:=0) hok2 aq7 hlh hfw2 (jB.part 1 rfl) UM jS;have H7:=Lh (hE2.out.wr UM aq7 hlh);clear jS hok2 hfw2 hlh;go_wp2_with(go_at_call 138;refine hf.mono ?_;rintro e w11 ⟨rfl,h11⟩);clear hf hE2;have mJ:Sep w0 w11 (aG q p false::aN p (E2.wr 0 (eQ (ps.map (·.1))))::aI be 0::R):=Sep.drop 1 (Sep.dE [3,0,1,2] h11 aQ bM);obtain⟨E3,aK3⟩:∃E3,E2.wr 0 (eQ (ps.map (·.1)))=E3:=⟨_,rfl⟩;rw[aK3]at H7 mJ;clear h11 aK3 aK2;have alP:=H7.out.ok;cases anQ:E3.off with
  |true=>have hf:=CS alP anQ mJ;clear mJ alP;go_wp2_with(go_at_call 134;refine hf.mono ?_;rintro e w12 ⟨rfl,h12⟩);(refine mZ (p:=p) (be:=be) rfl (Sep.dE [0,2,1] h12 aQ bM) fun w' hw'=>?_);exact hfin.out E3 [] (lX ps++[none]++[some (0,eQ (ps.map (·.1)))]) (gU ps++[none,some (0,eQ []),none]) none w' (by simp[bT]) H7.out.run anQ hw'
  |false=>
  have hf:=qY alP anQ mJ;have M7:=Lh (H7.out.fl anQ);clear mJ alP;go_wp2_with(go_at_call 134;refine hf.mono ?_;rintro e w12 ⟨rfl,h12⟩);clear hf H7;have vD:Hid (∃E,I6 nb D E (lX ps++[none]++[some (0,eQ (ps.map (·.1)))]++[none]) (0+0)/\Sep w0 w12 (aG q p false::aN p E::aI be 0::R)):=Lh ⟨_,M7.out,h12⟩;obtain⟨XS,hXS⟩:∃XS,XS=lX ps++[none]++[some (0,eQ (ps.map (·.1)))]++[none]:=⟨_,rfl⟩;rw[<-hXS]at vD;have awZ:=Lh hXS;clear h12 M7 hXS;go_loopw[96] (fun i wr=>∃k:Nat,k<=n/\i=iV k/\Hid (∃E,I6 nb D E (XS++(gU ps).take k) (0+k)/\Sep w0 wr (aG q p false::aN p E::aI be 0::R))) (fun i _=>n-(intOf i).toNat)
  case atStart=>exact⟨0,iF _,rfl,by rw[OB,yX56];exact vD⟩
  obtain⟨k,hk,rfl,hS⟩:=hrel;by_cases hlt:k<n
  ·(have hkl:k<ps.length:=by rw[alQ.out];exact hlt);obtain⟨E4,M7,hS5⟩:=hS.out;obtain⟨c0,c1⟩:=hin'.out.cell wr [_,_,_] hS5 k hlt;obtain⟨J5,FQ⟩:=anP.out k hlt;have hdat:=hin'.out.data k hlt;obtain⟨Au,cu,hu⟩:=hin'.out.form _ (tK (show k<us.length by rw[hin'.out.azO];exact hlt));rw[hu]at c1 hdat;obtain⟨a,ha⟩:∃a,ps[k].1=a:=⟨_,rfl⟩;obtain⟨bs,hbs⟩:∃bs,ps[k].2=bs:=⟨_,rfl⟩;rw[ha]at c0 J5;rw[hbs]at hdat FQ;have LH:=hS5.alloc (.cells #[iV (a:Nat),.slice Au 512 cu] 190);have hpre:bT ps=(XS++(gU ps).take k)++some (96+a,bs)::((gU ps).drop (k+1)++[none,some (0,eQ []),none]):=by
    have h1:=MJ hkl;rw[hbs,ha]at h1;have h2:gU ps=(gU ps).take k++some (96+a,bs)::(gU ps).drop (k+1):=by
     conv=>lhs;rw[<-DL (k+1) (gU ps),h1]
     simp
    unfold bT
    conv=>lhs;rw[h2]
    rw[awZ.out];simp
   (have hfw:E4.back.length<65536:=by have:=M7.back;have:=aiA.out.few;omega);have hpre':=Lh hpre;have aFH:=Lh LH;have hE':=Lh M7;(have hcast:(96:Int)+(a:Int)=((96+a:Nat):Int):=by omega);(have q1:(k:Int)<n:=by omega);(have q0:(0:Int)<=k:=by omega);(have q2:(a:Int)<=4096:=by have:=hnb'.out;omega);cases MM:E4.off with
   |true=>have hw:=CR (i:=96+a) M7.ok J5 FQ hfw (hdat.cons) MM LH;rw[<-hcast]at hw;clear LH hpre hS hS5 hfw M7 hcast vD J5 FQ;go_wp2_with(go_at_call 138;refine hw.mono ?_;rintro e w9 ⟨rfl,h9⟩);(refine mZ (p:=p) (be:=be) rfl (Sep.dE [0,2,1] h9 aQ bM) fun w' hw'=>?_);exact hfin.out E4 [] _ _ _ w' hpre'.out hE'.out.run MM hw'
   |false=>have hw:=wC (i:=96+a) M7.ok J5 FQ hfw (hdat.cons) MM LH;rw[<-hcast]at hw;have hE2:=Lh (M7.wr MM J5 FQ);clear LH hpre hS hS5 hfw M7 hcast vD J5 FQ;go_wp2_with(go_at_call 138;refine hw.mono ?_;rintro e w9 ⟨rfl,h9⟩);refine⟨⟨k+1,by omega,rfl,Lh ⟨_,?_,h9⟩⟩,by simp[intOf];omega⟩;rw[MJ hkl,hbs,ha,<-uN];exact hE2.out
  (obtain rfl:n=k:=by omega);obtain⟨E4,M7,hS5⟩:=hS.out;rw[tH (by unfold gU;rw[kV,alQ.out];exact jL _)]at M7;have aK4:=Lh M7;clear hS vD hlt hk;have aAE:=M7.ok;cases MM:E4.off with
  |true=>have hf:=CS aAE MM hS5;clear hS5 aAE M7;go_wp2_with(go_at_call 134;refine hf.mono ?_;rintro e w12 ⟨rfl,h12⟩);(refine mZ (p:=p) (be:=be) rfl (Sep.dE [0,2,1] h12 aQ bM) fun w' hw'=>?_);exact hfin.out E4 [] (XS++gU ps) ([some (0,eQ []),none]) none w' (by rw[awZ.out];simp[bT]) aK4.out.run MM hw'
  |false=>
  have hf:=qY aAE MM hS5;have yB:=Lh (M7.fl MM);clear hS5 aAE M7 aK4;go_wp2_with(go_at_call 134;refine hf.mono ?_;rintro e w13 ⟨rfl,WJ⟩);clear hf;have hhd:=UN (w:=w13) (v:=.slice none 0 0) (ps:=[]) ⟨rfl,none,0,rfl,jL _,iF _,fun h=>absurd h (YL _)⟩ aQ bM;go_wp2_with(go_at_call 139;refine hhd.mono ?_;rintro e w14 ⟨u,rfl,hSu⟩);have jS:Sep w0 w14 (aG q p false::aN p E4.fl::aI be 0::aL u (eQ [])::R):=Sep.dE [1,2,3,0] (WJ.join hSu) aQ bM;have hlh:(eQ []).length=512:=qO aQ;clear hhd hSu WJ;obtain⟨E5,aK5⟩:∃E5,E4.fl=E5:=⟨_,rfl⟩;rw[aK5]at yB jS;clear aK5;have aAF:=yB.out.ok;(have aAG:E5.back.length<65536:=by have:=yB.out.back;omega);cases anR:E5.off with
  |true=>have hf:=CR (i:=0) aAF aq7 hlh aAG (jB.part 1 rfl) anR jS;clear jS aAF aAG hlh;go_wp2_with(go_at_call 138;refine hf.mono ?_;rintro e w11 ⟨rfl,h11⟩);(refine mZ (p:=p) (be:=be) rfl (Sep.dE [0,2,1] h11 aQ bM) fun w' hw'=>?_);exact hfin.out E5 [aL u (eQ [])] (XS++gU ps++[none]) [none] (some (0,eQ [])) w' (by rw[awZ.out];simp[bT]) yB.out.run anR hw'
  |false=>
  have hf:=wC (i:=0) aAF aq7 hlh aAG (jB.part 1 rfl) anR jS;have hE6:=Lh (yB.out.wr anR aq7 hlh);clear jS aAF aAG hlh;go_wp2_with(go_at_call 138;refine hf.mono ?_;rintro e w15 ⟨rfl,h15⟩);clear hf yB;have mJ:Sep w0 w15 (aG q p false::aN p (E5.wr 0 (eQ []))::aI be 0::R):=Sep.drop 1 (Sep.dE [3,0,1,2] h15 aQ bM);obtain⟨E6,aK6⟩:∃E6,E5.wr 0 (eQ [])=E6:=⟨_,rfl⟩;rw[aK6]at hE6 mJ;clear h15 aK6;have aAH:=hE6.out.ok;cases anS:E6.off with
  |true=>have hf:=CS aAH anS mJ;clear mJ aAH;go_wp2_with(go_at_call 134;refine hf.mono ?_;rintro e w12 ⟨rfl,h12⟩);(refine mZ (p:=p) (be:=be) rfl (Sep.dE [0,2,1] h12 aQ bM) fun w' hw'=>?_);exact hfin.out E6 [] (XS++gU ps++[none]++[some (0,eQ [])]) [] none w' (by rw[awZ.out];simp[bT]) hE6.out.run anS hw'
  |false=>
  have hf:=qY aAH anS mJ;have X8:=Lh (hE6.out.fl anS);clear mJ aAH;go_wp2_with(go_at_call 134;refine hf.mono ?_;rintro e w16 ⟨rfl,h16⟩;have k1:=h16.bC 2 rfl 0;have k2:=h16.bF 2 rfl 0;simp only[gA,gB]at k1);refine nS ?_;have h17:Sep w0 (w16.setCell ⟨be,0,none⟩ (.int .i64 0)) (aG q p false::aN p E6.fl::aI be 0::R):=h16.bS 2 rfl 0 (.int .i64 0);have ec:=h17.bC 2 rfl 0;simp only[gA,gB]at ec;(have hrun:lF (bT ps) D=(E6.fl,true):=by have:=X8.out.run;rw[awZ.out]at this;rw[<-this];congr 1;simp[bT]);refine⟨.int .i64 0,?_,?_,?_⟩
  ·(have hr:Tryz.f144.results=#[.cell 4 39]:=by kernel_rfl);simp[results,hr,go_sem,ec]
  ·rw[hrun];rfl
  rw[hrun];exact Sep.drop 1 (Sep.dE [2,0,1] h17 aQ bM)
def aiB (v:Value):Option (DataW Value×List MemPlace):=some (.held v,[])
def getM (L:List (Lit×Value)) (k:Lit):Option Value:=(L.find? fun p=>p.1.sameKey k).map (·.2)
def FR (L:List (Lit×Value)) (k:Lit):List (Lit×Value):=L.filter fun p=> !p.1.sameKey k
def YB (L:List (Lit×Value)) (k:Lit) (v:Value):List (Lit×Value):=FR L k++[(k,v)]
structure sJ (L:List (Lit×Value)):Prop where
 lit:∀p∈L,WideAt.IsKeyLit p.1
 ne:L.Pairwise fun p q=>p.1≠q.1
theorem sJ.nil :sJ []:=⟨by simp,List.Pairwise.nil⟩
theorem sJ.sub {L M:List (Lit×Value)} (h:sJ L) (hs:M.Sublist L):sJ M:=⟨fun p hp=>h.lit p (hs.subset hp),h.ne.sublist hs⟩
theorem sJ.del {L:List (Lit×Value)} (h:sJ L) (k:Lit):sJ (FR L k):=h.sub Q5
theorem sJ.put {L:List (Lit×Value)} (h:sJ L) {k:Lit} (hk:WideAt.IsKeyLit k) (v:Value):sJ (YB L k v):=by
 refine⟨fun p hp=>?_,?_⟩
 ·rcases gX.1 hp with hp|hp
  ·exact(h.del k).lit p hp
  rw[BB]at hp;subst hp;exact hk
 refine adZ.2 ⟨(h.del k).ne,by simp,fun p hp q hq=>?_⟩;rw[BB]at hq;subst hq;intro e;have h1:=(List.mem_filter.1 hp).2;rw[e,WideAt.sameKey_self hk]at h1;simp at h1
theorem aiC {L:List (Lit×Value)} (h:sJ L) {k:Lit} {v:Value} (hm:(k,v)∈L):getM L k=some v:=by
 unfold getM
 induction L with
 |nil=>cases hm
 |cons p L ih=>
  rw[MS];obtain⟨h1,h2⟩:=List.pairwise_cons.1 h.ne;rcases iX.1 hm with rfl|hm
  ·rw[show(k,v).1.sameKey k=true from WideAt.sameKey_self (h.lit (k,v) bM)];rfl
  have hne:p.1.sameKey k=false:=by
   cases hs:p.1.sameKey k with
   |false=>rfl
   |true=>exact absurd (WideAt.sameKey_eq hs) (h1 _ hm)
  rw[hne];exact ih (h.sub (List.sublist_cons_self _ _)) hm
theorem getM_some {L:List (Lit×Value)} {k:Lit} {v:Value} (h:getM L k=some v):(k,v)∈L:=by unfold getM at h;rw[QW]at h;obtain⟨p,h1,rfl⟩:=h;have h2:=WideAt.sameKey_eq (by simpa using aa6 h1);rw[<-h2];exact PM h1
def aFI (w:World) (k:TypeId) (b n:Nat) (L:List (Lit×Value)):Prop:=
 ∃D:DataW Value,w.ownsMap Tryz.prog k aiB b n D/\sJ L/\Maps.size D=L.length/\(∀kl,WideAt.IsKeyLit kl->Maps.has D kl=(getM L kl).isSome)/\∀kl zd,WideAt.IsKeyLit kl->D.atKey kl zd=match getM L kl with|some v=>.held v|none=>zd
def I7 (k:TypeId) (b n:Nat) (L:List (Lit×Value)):bK:=
 ⟨fun w F=>aFI w k b n L/\F=[b],
  fun w w' F ⟨⟨D,⟨es,clock,hb,hr⟩,h2⟩,hF⟩ hk=>⟨⟨D,⟨es,clock,by rw[hk b (by rw[hF];simp)];exact hb,hr⟩,h2⟩,hF⟩,
  fun w F ⟨⟨D,h1,_⟩,hF⟩=>by rw[hF];exact⟨by simp,fun b' hb=>by simp at hb;subst hb;exact h1.lt⟩⟩
theorem FU {k:Lit} (hk:WideAt.IsKeyLit k):k.sameKey k=true:=WideAt.sameKey_self hk
theorem AX {k k':Lit} (h:k'≠k):¬k'.sameKey k=true:=fun hs=>h (WideAt.sameKey_eq hs)
theorem Z37 {P:Prop} (h:P:=by
 unfold FR;rw[Maps.find_filter_keep];intro p hp;have:=WideAt.sameKey_eq hp;cases hs:p.1.sameKey k with
 |false=>rfl
 |true=>exact absurd (this.symm.trans (WideAt.sameKey_eq hs)) e):P:=h
theorem aiD {L:List (Lit×Value)} {k:Lit} (hk:WideAt.IsKeyLit k) (v:Value) (k':Lit) (hk':WideAt.IsKeyLit k'):getM (YB L k v) k'=if k'.sameKey k=true then some v else getM L k':=by
 unfold getM YB;rw[amD];by_cases e:k'=k
 ·subst e;rw[if_pos (FU hk')];(have h1:(FR L k').find? (fun p=>p.1.sameKey k')=none:=by rw[zI];intro p hp;have:=(List.mem_filter.1 hp).2;simpa using this);rw[h1];simp[WideAt.sameKey_self hk']
 rw[if_neg (AX e)];have h2:([(k,v)]:List (Lit×Value)).find? (fun p=>p.1.sameKey k')=none:=by
  have:k.sameKey k'=false:=by
   cases hs:k.sameKey k' with
   |false=>rfl
   |true=>exact absurd (WideAt.sameKey_eq hs).symm e
  simp[this]
 rw[h2,Option.or_none];exact Z37
theorem aw0 {L:List (Lit×Value)} {k:Lit} (hk:WideAt.IsKeyLit k) (k':Lit) (hk':WideAt.IsKeyLit k'):getM (FR L k) k'=if k'.sameKey k=true then none else getM L k':=by
 unfold getM;by_cases e:k'=k
 ·subst e;rw[if_pos (FU hk')];(have h1:(FR L k').find? (fun p=>p.1.sameKey k')=none:=by rw[zI];intro p hp;have:=(List.mem_filter.1 hp).2;simpa using this);rw[h1];rfl
 rw[if_neg (AX e)];exact Z37
theorem aw1 {L:List (Lit×Value)} (h:sJ L) {k:Lit} (hk:WideAt.IsKeyLit k):(FR L k).length+(if(getM L k).isSome then 1 else 0)=L.length:=by
 induction L with
 |nil=>rfl
 |cons p L ih=>
  obtain⟨h1,h2⟩:=List.pairwise_cons.1 h.ne;have ih':=ih (h.sub (List.sublist_cons_self _ _));cases hs:p.1.sameKey k with
  |true=>
   have e:=WideAt.sameKey_eq hs;have h3:FR L k=L:=List.filter_eq_self.2 fun q hq=>by
    cases hs2:q.1.sameKey k with
    |false=>rfl
    |true=>exact absurd (e.trans (WideAt.sameKey_eq hs2).symm) (h1 q hq)
   (have h4:getM (p::L) k=some p.2:=by unfold getM;rw[MS,hs];rfl);(have h5:FR (p::L) k=FR L k:=by unfold FR;rw[zG,hs];rfl);rw[h4,h5,h3];simp
  |false=>(have h4:getM (p::L) k=getM L k:=by unfold getM;rw[MS,hs]);(have h5:FR (p::L) k=p::FR L k:=by unfold FR;rw[zG,hs];rfl);rw[h4,h5];simp only[nV];omega
theorem aw2 {L:List (Lit×Value)} (h:sJ L) {k:Lit} (hk:WideAt.IsKeyLit k) (v:Value):(YB L k v).length=if(getM L k).isSome then L.length else L.length+1:=by
 have:=aw1 h hk;unfold YB;rw[kN,xL];split at this
 ·rename_i hc;rw[if_pos hc];omega
 rename_i hc;rw[if_neg hc];omega
section
variable {w0 w w':World} {As:List bK} {k e t:TypeId} {b n:Nat} {L:List (Lit×Value)}
theorem Sep.aw3 (h:Sep w0 w As) (k:TypeId):Sep w0 (w.alloc (.map #[] 0)) (I7 k w.heap.size 0 []::As):=
 h.new ((Below.refl _ _).alloc (jL _) _) (F:=[w.heap.size]) ⟨⟨.map [],World.ownsMap_made w _ _ _,sJ.nil,rfl,fun kl _=>rfl,fun kl _ _=>rfl⟩,rfl⟩ bM
theorem Sep.aq8 (i:Nat) (h:Sep w0 w As) (hi:As[i]? =some (I7 k b n L)):sJ L:=by obtain⟨F,⟨⟨D,_,h2,_⟩,_⟩,_⟩:=h.get i hi;exact h2
theorem Z43 {P:Prop} (h:P:=by
 rw[h5 kl _ hk]at hv;cases hg:getM L kl with
 |none=>rw[hg]at hv;simp[aiB]at hv;rw[hv.1];rfl
 |some u=>rw[hg]at hv;simp[aiB]at hv;rw[hv.1];rfl):P:=h
theorem Sep.aq9 (i:Nat) (h:Sep w0 w As) (hi:As[i]? =some (I7 k b n L)) (K:Maps.Keyed Tryz.prog k) (ht:Tryz.prog.underlying t=some (.map k e)) {z:Value} (hz:(zeroValue e).run Tryz.prog w= .ok z w) {key:Value} {kl:Lit} (hkey:keyOf Tryz.prog k key=some kl):
  (Instr.lookup t (.map (some b)) key false).run Tryz.prog w= .ok ((getM L kl).getD z) w:=by
 obtain⟨F,⟨⟨D,h1,h2,h3,h4,h5⟩,_⟩,_⟩:=h.get i hi;obtain⟨v,ps,hrun,hv⟩:=h1.lookup K ht hz (zd:=.held z) (zp:=[]) rfl hkey;rw[hrun];have hk:=K.key hkey;exact Z43
theorem Sep.aAI (i:Nat) (h:Sep w0 w As) (hi:As[i]? =some (I7 k b n L)) (K:Maps.Keyed Tryz.prog k) (ht:Tryz.prog.underlying t=some (.map k e)) {z:Value} (hz:(zeroValue e).run Tryz.prog w= .ok z w) {key:Value} {kl:Lit} (hkey:keyOf Tryz.prog k key=some kl):
  (Instr.lookup t (.map (some b)) key true).run Tryz.prog w= .ok (.tuple #[(getM L kl).getD z,.bool (getM L kl).isSome]) w:=by
 obtain⟨F,⟨⟨D,h1,h2,h3,h4,h5⟩,_⟩,_⟩:=h.get i hi;obtain⟨v,ps,hrun,hv⟩:=h1.look_ok K ht hz (zd:=.held z) (zp:=[]) rfl hkey;have hk:=K.key hkey;rw[hrun,h4 kl hk];exact Z43
theorem Sep.aw4 (i:Nat) (h:Sep w0 w As) (hi:As[i]? =some (I7 k b n L)) (K:Maps.Keyed Tryz.prog k) (ht:Tryz.prog.underlying t=some (.map k e)) (hn:n<maxLen) {key v:Value} {kl:Lit} (hkey:keyOf Tryz.prog k key=some kl):
  ∃w',(Instr.mapUpdate t (.map (some b)) key v).run Tryz.prog w= .ok () w'/\Sep w0 w' (As.set i (I7 k b (n+1) (YB L kl v))):=by
 obtain⟨F,⟨⟨D,h1,h2,h3,h4,h5⟩,hF⟩,_⟩:=h.get i hi;have hk:=K.key hkey;obtain⟨w',hrun,hown,hgrow⟩:=h1.update K ht hn (val:=v) (d:=.held v) (ps:=[]) hkey rfl;refine⟨w',hrun,h.step i hi fun F' ⟨_,hF'⟩ _=>⟨[b],⟨⟨_,hown,h2.put hk v,?_,fun k' hk'=>?_,fun k' zd hk'=>?_⟩,rfl⟩,fun x hx=>by rw[hF'];exact .inl hx,by rw[hF'];exact oD.wJ hgrow⟩⟩
 ·rw[Maps.size_put (h1.tidy K),aw2 h2 hk,h4 kl hk,h3]
 ·rw[aiD hk v k' hk'];by_cases he:k'=kl
  ·subst he;rw[if_pos (FU hk'),Maps.has_put_same h1.isMap hk];rfl
  rw[if_neg (AX he),Maps.has_put_other he,h4 k' hk']
 rw[aiD hk v k' hk'];by_cases he:k'=kl
 ·subst he;rw[if_pos (FU hk'),Maps.atKey_put_same h1.isMap hk]
 rw[if_neg (AX he),Maps.atKey_put_other he,h5 k' zd hk']
def BL (k:TypeId) (b r n:Nat) (L left:List (Lit×Value)):bK:=
 ⟨fun w F=>(∃(D:DataW Value) (lf:Lit->Bool) (cnt:Nat),w.ranges Tryz.prog k aiB b r n D lf cnt/\sJ L/\Maps.size D=L.length/\(∀kl,WideAt.IsKeyLit kl->Maps.has D kl=(getM L kl).isSome)/\(∀kl zd,WideAt.IsKeyLit kl->D.atKey kl zd=match getM L kl with|some v=>.held v|none=>zd)/\
   left.Sublist L/\(∀kl,WideAt.IsKeyLit kl->lf kl=(getM left kl).isSome))/\F=[b,r]/\b≠r,
  fun w w' F ⟨⟨D,lf,cnt,⟨es,clock,since,seen,c0,hb,F0,hs,hD,hr,r5⟩,h2⟩,hF,hne⟩ hk=>⟨⟨D,lf,cnt,⟨es,clock,since,seen,c0,by rw[hk b (by rw[hF];simp)];exact hb,F0,hs,hD,by rw[hk r (by rw[hF];simp)];exact hr,r5⟩,h2⟩,hF,hne⟩,
  fun w F ⟨⟨D,lf,cnt,h1,_⟩,hF,hne⟩=>by
   rw[hF];refine⟨by simp[hne],fun b' hb=>?_⟩;simp at hb;rcases hb with rfl|rfl
   ·exact h1.owns.lt
   exact h1.lt⟩
theorem Sep.alR (i:Nat) (h:Sep w0 w As) (hi:As[i]? =some (I7 k b n L)) (K:Maps.Keyed Tryz.prog k) (ht:Tryz.prog.underlying t=some (.map k e)):
  ∃w',(Instr.range t (.map (some b))).run Tryz.prog w= .ok (pV w.heap.size) w'/\Sep w0 w' (As.set i (BL k b w.heap.size n L L))/\w'.heap.size=w.heap.size+1:=by
 obtain⟨F,⟨⟨D,h1,h2,h3,h4,h5⟩,hF⟩,hlt⟩:=h.get i hi;obtain⟨w',hrun,hrg,hgrow,hsz⟩:=h1.range K ht;have hbl:=(hlt b (by rw[hF];simp)).2;refine⟨w',hrun,h.step i hi fun F' ⟨_,hF'⟩ _=>⟨[b,w.heap.size],⟨⟨D,_,_,hrg,h2,h3,h4,h5,Q0 _,fun kl hk=>h4 kl hk⟩,rfl,by omega⟩,fun x hx=>?_,?_⟩,hsz⟩
 ·rw[hF'];simp at hx;rcases hx with rfl|rfl
  ·left;simp
  right;omega
 have:=oD.wJ hgrow;exact⟨this.os,this.tape,this.output,this.size,fun j hj _=>this.block j hj bM⟩
theorem Sep.aeU {r:Nat} {left:List (Lit×Value)} (i:Nat) (h:Sep w0 w As) (hi:As[i]? =some (BL k b r n L left)) (K:Maps.Keyed Tryz.prog k) (ty:TypeId):
  (left=[]/\(Instr.next (pV r) false ty).run Tryz.prog w= .ok (.tuple #[.bool false]) w)\/
  ∃key v kl w',keyOf Tryz.prog k key=some kl/\(kl,v)∈left/\(Instr.next (.pointer (some ⟨r,0,none⟩)) false ty).run Tryz.prog w= .ok (.tuple #[.bool true,key,v]) w'/\
   Sep w0 w' (As.set i (BL k b r n L (FR left kl)))/\w'.heap.size=w.heap.size/\(Instr.entry (pV r)).run Tryz.prog w'= .ok (.tuple #[key,v]) w':=by
 obtain⟨F,⟨⟨D,lf,cnt,h1,h2,h3,h4,h5,h6,h7⟩,hF,hne⟩,hlt⟩:=h.get i hi
 rcases h1.next K ty with⟨_,hl,hrun⟩|⟨key,v,kl,y,w',cnt',hkey,hlk,hv,hat,hrun,hrg,_,hgrow,hsz,hen⟩
 ·left;refine⟨?_,hrun⟩;cases left with
  |nil=>rfl
  |cons p l=>have hkl:=h2.lit p (h6.subset bM);have:=h7 p.1 hkl;rw[hl,aiC (h2.sub h6) (v:=p.2) bM]at this;cases this
 ·right;have hk:=K.key hkey;(have hv':y=(.held v,[]):=by simp[aiB]at hv;exact hv.symm);have h8:=h7 kl hk;rw[hlk]at h8;obtain⟨u,hu⟩:=Option.isSome_iff_exists.1 h8.symm;have hm:=getM_some hu;have hg:=aiC h2 (h6.subset hm);(have hu2:u=v:=by have:=hat (.held u);rw[h5 kl _ hk,hg,hv']at this;simpa using this);subst hu2;refine⟨key,u,kl,w',hkey,hm,hrun,h.step i hi fun F' ⟨_,hF',_⟩ _=>⟨[b,r],⟨⟨D,_,cnt',hrg,h2,h3,h4,h5,Q5.trans h6,fun k' hk'=>?_⟩,rfl,hne⟩,fun x hx=>by rw[hF'];exact .inl hx,?_⟩,hsz,hen⟩
  ·rw[aw0 hk k' hk',h7 k' hk'];by_cases he:k'=kl
   ·subst he;rw[if_pos (FU hk),WideAt.sameKey_self hk];simp
   rw[if_neg (AX he)];have:k'.sameKey kl=false:=by
    cases hs:k'.sameKey kl with
    |false=>rfl
    |true=>exact absurd (WideAt.sameKey_eq hs) he
   rw[this];simp
  rw[hF'];have:=oD.wJ hgrow;exact⟨this.os,this.tape,this.output,this.size,fun j hj hjn=>this.block j hj (by simp at hjn ⊢;exact hjn.2)⟩
theorem Sep.alS {r:Nat} {left:List (Lit×Value)} (i:Nat) (h:Sep w0 w As) (hi:As[i]? =some (BL k b r n L left)):Sep w0 w (As.set i (I7 k b n L)):=by refine h.step i hi fun F ⟨⟨D,lf,cnt,h1,h2,h3,h4,h5,_⟩,hF,_⟩ _=>⟨[b],⟨⟨D,h1.owns,h2,h3,h4,h5⟩,rfl⟩,fun x hx=>by rw[hF];left;simp at hx ⊢;exact .inl hx,oD.refl _ _⟩
def rP (k:TypeId) (b:Nat) (L:List (Lit×Value)):bK:=I7 k b L.length L
theorem Sep.aw5 (i:Nat) (h:Sep w0 w As) (hi:As[i]? =some (I7 k b n L)):Sep w0 w (As.set i (rP k b L)):=by
 refine h.step i hi fun F ⟨⟨D,h1,h2,h3,h4,h5⟩,hF⟩ _=>⟨[b],⟨⟨D,?_,h2,h3,h4,h5⟩,rfl⟩,fun x hx=>by rw[hF];exact .inl hx,oD.refl _ _⟩
 obtain⟨es,clock,hb,F0,hs,hD⟩:=h1;refine⟨es,clock,hb,F0,?_,hD⟩;rw[<-h3,hD];simp[Maps.size,length_sorted]
theorem Sep.atF (h:Sep w0 w As) (k:TypeId):Sep w0 (w.alloc (.map #[] 0)) (rP k w.heap.size []::As):=h.aw3 k
theorem Sep.QC (i:Nat) (h:Sep w0 w As) (hi:As[i]? =some (rP k b L)):sJ L:=h.aq8 i hi
theorem Sep.ayL (i:Nat) (h:Sep w0 w As) (hi:As[i]? =some (rP k b L)) (K:Maps.Keyed Tryz.prog k) (ht:Tryz.prog.underlying t=some (.map k e)) {z:Value} (hz:(zeroValue e).run Tryz.prog w= .ok z w) {key:Value} {kl:Lit} (hkey:keyOf Tryz.prog k key=some kl):
 (Instr.lookup t (.map (some b)) key false).run Tryz.prog w= .ok ((getM L kl).getD z) w:=h.aq9 i hi K ht hz hkey
theorem Sep.aCE (i:Nat) (h:Sep w0 w As) (hi:As[i]? =some (rP k b L)) (K:Maps.Keyed Tryz.prog k) (ht:Tryz.prog.underlying t=some (.map k e)) {z:Value} (hz:(zeroValue e).run Tryz.prog w= .ok z w) {key:Value} {kl:Lit} (hkey:keyOf Tryz.prog k key=some kl):
 (Instr.lookup t (.map (some b)) key true).run Tryz.prog w= .ok (.tuple #[(getM L kl).getD z,.bool (getM L kl).isSome]) w:=h.aAI i hi K ht hz hkey
theorem Sep.uU (i:Nat) (h:Sep w0 w As) (hi:As[i]? =some (rP k b L)) (K:Maps.Keyed Tryz.prog k) (ht:Tryz.prog.underlying t=some (.map k e)) (hn:L.length<maxLen) {key v:Value} {kl:Lit} (hkey:keyOf Tryz.prog k key=some kl):
  ∃w',(Instr.mapUpdate t (.map (some b)) key v).run Tryz.prog w= .ok () w'/\Sep w0 w' (As.set i (rP k b (YB L kl v))):=by
 obtain⟨w',h1,h2⟩:=h.aw4 i hi K ht hn (v:=v) hkey;have hlt:=(gF.1 hi).1;have h3:=h2.aw5 i (by rw[MO hlt]);rw[YN]at h3;exact⟨w',h1,h3⟩
theorem Sep.ae0 (i:Nat) (h:Sep w0 w As) (hi:As[i]? =some (rP k b L)) (K:Maps.Keyed Tryz.prog k) (ht:Tryz.prog.underlying t=some (.map k e)):
 ∃w',(Instr.range t (.map (some b))).run Tryz.prog w= .ok (pV w.heap.size) w'/\Sep w0 w' (As.set i (BL k b w.heap.size L.length L L))/\w'.heap.size=w.heap.size+1:=h.alR i hi K ht
theorem Sep.asM {r:Nat} {left:List (Lit×Value)} (i:Nat) (h:Sep w0 w As) (hi:As[i]? =some (BL k b r L.length L left)):Sep w0 w (As.set i (rP k b L)):=h.alS i hi
end
end Go.Proofs.YteihmbaimbogaaaGreat
namespace Go.Proofs.YteihmbaimbogaaaGreat
open Go.RowKit Go.ChangeMaps Go.WideElems
theorem findIdx_push {p:MapEntry->Bool} {es:Array MapEntry} {e:MapEntry} (h:∀x∈es.toList,p x=false) (he:p e=true):(es.push e).findIdx? p=some es.size:=by
 have h0:es.findIdx? p=none:=by rw[Array.findIdx?_eq_none_iff];intro x hx;exact h x (by simpa using hx)
 rw[Array.findIdx?_push,h0];simp[he]
theorem aAJ {α:Type} (f:α->α) (a:α) (l:List α):(l++[a]).modify l.length f=l++[f a]:=by
 induction l with
 |nil=>rfl
 |cons b r ih=>rw[pF,nV,List.modify_succ_cons,ih];rfl
theorem Sep.aw6 {w0 w:World} {As:List bK} {k e t:TypeId} {b:Nat} {L:List (Lit×Value)} (i:Nat) (h:Sep w0 w As) (hi:As[i]? =some (rP k b L)) (K:Maps.Keyed Tryz.prog k) (ht:Tryz.prog.underlying t=some (.map k e)) {z:Value} (hz:∀w,(zeroValue e).run Tryz.prog w= .ok z w) (hn:L.length<maxLen) {key val:Value} {kl:Lit} (hkey:keyOf Tryz.prog k key=some kl) (hno:getM L kl=none):
  ∃st w1 w2,(Instr.mapEntry t (.map (some b)) key).run Tryz.prog w= .ok (.tuple #[z,iV st]) w1/\(Instr.entryStore t (.map (some b)) (.int .i64 st) val).run Tryz.prog w1= .ok () w2/\Sep w0 w2 (As.set i (rP k b (YB L kl val)))/\w2.heap.size=w.heap.size:=by
 obtain⟨w',hrun,hS⟩:=h.uU i hi K ht hn (v:=val) hkey;obtain⟨F,⟨⟨D,⟨es,clock,hb,hfit,hsz,hD⟩,h2,h3,h4,h5⟩,_⟩,_⟩:=h.get i hi;have hkl:=K.key hkey;have aXF:Maps.has D kl=false:=by rw[h4 kl hkl,hno];rfl
 rcases K.find w hkey es.toList (fun e he=>by obtain⟨y,hy⟩:=hfit.reads e he;exact⟨_,rd_key hy⟩)with⟨f1,f2⟩|⟨j,e0,f1,f2,f3⟩
 ·have hst:=hfit.stamped.1;have hidx:(es.push ⟨key,z,clock⟩).findIdx? (fun e=>((e.born:Nat):Int)==((clock:Nat):Int))=some es.size:=
   findIdx_push (fun x hx=>by have:=hst x hx;exact mM.2 aD) bM
  (have hmod:(es.push ⟨key,z,clock⟩).modify es.size (fun e=> {e with val:=val})=es.push ⟨key,val,clock⟩:=by apply Array.ext';rw[Array.toList_modify,Array.toList_push,Array.toList_push,<-Array.length_toList,aAJ]);have hw2:(setBlock w b (.map (es.push ⟨key,z,clock⟩) (clock+1))).heap[b]? =some (.map (es.push ⟨key,z,clock⟩) (clock+1)):=heap_setBlock_same hb _;(have hup:(Instr.mapUpdate t (.map (some b)) key val).run Tryz.prog w= .ok () (setBlock w b (.map (es.push ⟨key,val,clock⟩) (clock+1))):=by simp[Instr.mapUpdate,run_underlying ht,MapKept.run_getObj_map hb,K.check w false hkey,f1,MapKept.run_setObj_map _ hb,Result.andThen,setBlock]);rw[hup]at hrun;injection hrun with _ hw;refine⟨clock,setBlock w b (.map (es.push ⟨key,z,clock⟩) (clock+1)),w',?_,?_,hS,?_⟩
  ·simp[Instr.mapEntry,run_underlying ht,MapKept.run_getObj_map hb,K.check w false hkey,f1,hz,MapKept.run_setObj_map _ hb,Result.andThen,setBlock,goInt]
  ·rw[<-hw];(have hfin:setBlock (setBlock w b (.map (es.push ⟨key,z,clock⟩) (clock+1))) b (.map (es.push ⟨key,val,clock⟩) (clock+1))=setBlock w b (.map (es.push ⟨key,val,clock⟩) (clock+1)):=by simp[setBlock]);rw[<-hfin];generalize setBlock w b (.map (es.push ⟨key,z,clock⟩) (clock+1))=W1 at hw2;simp[Instr.entryStore,MapKept.run_getObj_map hw2,asInt,asIntOf,goInt,hidx,hmod,MapKept.run_setObj_map _ hw2,Result.andThen,setBlock]
  rw[<-hw];simp[setBlock]
 exfalso;have hlk:=h.aCE i hi K ht (hz w) hkey;rw[hno]at hlk;have hck:=fun em=>K.check w em hkey
 simp[Instr.lookup,run_underlying ht,MapKept.run_getObj_map hb,hck,f1,Result.andThen]at hlk
end Go.Proofs.YteihmbaimbogaaaGreat
