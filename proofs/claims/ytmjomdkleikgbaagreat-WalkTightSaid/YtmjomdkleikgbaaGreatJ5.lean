/- Parts. -/
import Derived.Test.YtmjomdkleikgbaaGreatJ4
import Derived.Maps.OwnSet
import Derived.Maps.Range
import Derived.Maps.RangeWalk
set_option linter.unusedVariables false
set_option linter.unusedSimpArgs false
set_option maxRecDepth 100000
set_option maxHeartbeats 20000000
namespace Go.Proofs.YtmjomdkleikgbaaGreat
open Go.RowKit
def X9 (L:List Nat) (x:Int):Int:=if x∈L.map (fun(a:Nat)=>(a:Int))then 1 else 0
theorem aoC (L:List Nat) (a:Nat):(fun x=>if x=(a:Int)then 1 else X9 L x)=X9 (L++[a]):=by
 funext x;unfold X9;by_cases e:x=(a:Int)
 ·rw[if_pos e,if_pos];rw[mV,iN];exact .inr (by simp[e])
 rw[if_neg e];by_cases h:x∈L.map (fun(a:Nat)=>(a:Int))
 ·rw[if_pos h,if_pos];rw[mV,iN];exact .inl h
 rw[if_neg h,if_neg];rw[mV,iN];rintro(h'|h')
 ·exact h h'
 simp at h';exact e h'
theorem atU {L:List Nat} {a:Nat} (h:a∉L):X9 L (a:Int)=0:=by
 unfold X9;rw[if_neg];intro hm;obtain⟨b,hb,e⟩:=List.mem_map.1 hm;have:b=a:=by omega
 exact h (this▸hb)
theorem atV {a:Nat} (h:a<=4096):(Lit.int .i64 (a:Int)).wf=true:=by simp[Lit.wf,IntKind.min,IntKind.max,IntKind.signed,IntKind.bits];omega
def F9 (ps:List (Nat×List UInt8)):List Int:=ps.map fun y=>(y.1:Int)
theorem axM (ps:List (Nat×List UInt8)):F9 ps=(ps.map (·.1)).map (fun(p:Nat)=>(p:Int)):=by unfold F9;rw[qJ];rfl
theorem atW (ps:List (Nat×List UInt8)):(F9 ps).length=ps.length:=iM ..
def alL (b:Bool):Int:=if b=true then 0 else 11
theorem lM {w0 w:World} {R:List aZ} {q be:Nat} {p:Nat} {tmps:Array Value} {Post:Ending->World->Prop} (ht:tmps.getD 4 undef=pV be) (h:Sep w0 w (aH q p false::aJ be 0::R))
  (hp:∀w',Sep w0 w' (aH q p true::R)->Post (.returned (iV 11)) w'):
  bodyPostD Tryz.prog Tryz.f167 Post (Exit.panic [{v:=xV 11,recovered:=false}]) {tmps:=tmps,defers:=[{target:=.fn (.func 151) #[],args:=#[pV q,pV be]}]} w:=by
 refine CL h fun w' hS=>?_
 have ec:=hS.bC 1 rfl 0;simp only[gA,gB]at ec;refine⟨.int .i64 11,?_,hp w' (Sep.drop 1 (Sep.dE [1,0] hS aV bL))⟩;have hr:Tryz.f167.results=#[.cell 4 40]:=by kernel_rfl
 have ht':tmps[4]?.getD undef=pV be:=by simpa using ht
 simp[results,hr,go_sem,ht',ec]
theorem DK.axN (D:DK) (i:Nat) (b:List UInt8):(D.wr i b).back.length=D.back.length+1:=by unfold DK.wr;rw[DK.DU];simp
theorem DK.ajO (D:DK):D.fl.back=[]:=by unfold DK.fl;rw[DK.DU]
structure EY (nb:Nat) (D E:DK) (xs:List tJ) (m:Nat):Prop where
 run:kN xs D=(E,true)
 ok:E.ok nb
 back:E.back.length<=m
theorem EY.wr {nb m i:Nat} {D E:DK} {xs:List tJ} {b:List UInt8} (h:EY nb D E xs m) (ho:E.off=false) (hi:i<nb) (hb:b.length=512):EY nb D (E.wr i b) (xs++[some (i,b)]) (m+1):=
 ⟨XV h.run ho,DK.ajW h.ok hi hb,by rw[DK.axN];have:=h.back;omega⟩
theorem EY.fl {nb m:Nat} {D E:DK} {xs:List tJ} (h:EY nb D E xs m) (ho:E.off=false):EY nb D E.fl (xs++[none]) 0:=
 ⟨XV h.run ho,DK.ayI h.ok,by rw[DK.ajO];exact iB _⟩
theorem af7 {w0 w:World} {R:List aZ} {q p nb g n c:Nat} {D:DK} {ps:List (Nat×List UInt8)} {us:List Value} (hD:D.ok nb) (YO:96<nb) (hps:apP nb ps) (hin:apO w0 R g n ps us) (hnc:n<=c) (hcm:c<=maxLen) (hback:D.back.length<=60000) (h:Sep w0 w (aH q p false::aO p D::R)):
  Calls Tryz.prog 167 #[pV q,sV g n c] w fun e w'=>
   e= .returned (iV (alL (kN (bY ps) D).2))/\Sep w0 w' (aH q p (!(kN (bY ps) D).2)::aO p (kN (bY ps) D).1::R):=by
 obtain⟨be,hbe⟩:∃be,w.heap.size=be:=⟨_,rfl⟩
 have h1:Sep w0 ((w.alloc (.cells #[iV 0] 40)).alloc (.map #[] 0)) (XU (be+1) 0 (fun _=>0)::aH q p false::aO p D::aJ be 0::R):=by have h2:Sep w0 (w.alloc (.cells #[iV 0] 40)) (aH q p false::aO p D::aJ w.heap.size 0::R):=Sep.dE [1,2,0] (h.bN 40 #[iV 0]) aV bL;have h3:=h2.atG;rw[<-hbe];simpa using h3
 have h1':=Lh h1
 have hmm:= @run_makeMap Tryz.prog
 have hn1:(1:Int)<=n:=by have:=hps.some;have:=hin.len;omega
 have hn2:(n:Int)<=40:=by have:=hps.few;have:=hin.len;omega
 have afH:=Lh hps
 have hin':=Lh hin
 have hD':=Lh hD
 have af6:=Lh hback
 clear h1 hback hcm
 go_enter_defers Tryz.func167,Tryz.ntmps167
 go_wp2_with fail
 simp only[hbe]at*
 have aF1:∀k (hk:k<n),96+(ps[k]'(by rw[hin'.out.len];exact hk)).1<nb/\(ps[k]'(by rw[hin'.out.len];exact hk)).2.length=512:=fun k hk=>afH.out.put _ (nT _)
 have akU:=Lh aF1
 have hlp:=hin'.out.len
 have aiR:=Lh hlp
 have hnb:=hD'.out.few
 have hnb':=Lh hnb
 clear aF1 hlp hnb hps hin h hmm hD
 go_loopw[27] (fun i wr=>∃k:Nat,k<=n/\i=iV k/\Hid (Sep w0 wr (XU (be+1) k (X9 ((ps.take k).map (·.1)))::aH q p false::aO p D::aJ be 0::R))) (fun i _=>n-(intOf i).toNat)
 case atStart=>exact⟨0,gI _,rfl,h1'⟩
 case round=>
  obtain⟨k,hk,rfl,hS⟩:=hrel;by_cases hlt:k<n
  ·(have hkl:k<ps.length:=by rw[aiR.out];exact hlt);obtain⟨c0,c1⟩:=hin'.out.cell wr [_,_,_,_] hS.out k hlt;obtain⟨GA,CQ⟩:=akU.out k hlt;obtain⟨Au,cu,hu⟩:=hin'.out.form _ (nT (show k<us.length by rw[hin'.out.aw6];exact hlt));rw[hu]at c1;obtain⟨a,ha⟩:∃a,ps[k].1=a:=⟨_,rfl⟩;rw[ha]at c0 GA;(have ha2:a<=4096:=by have:=hnb'.out;omega);have hwf:=atV ha2;have IP:=hS.out.alloc (.cells #[iV (a:Nat),.slice Au 512 cu] 208);(have hno:a∉(ps.take k).map (·.1):=by have hnd:=afH.out.ne;intro hm;obtain⟨x,hx,e⟩:=List.mem_map.1 hm;obtain⟨j,hj,e2⟩:=N9 hx;rw[qL]at hj;rw[List.getElem_take]at e2;(have hjk:j<k:=by omega);have:=(aa6.1 hnd);rw[EK]at this;have h3:=this j k (by rw[iM];omega) (by rw[iM];omega) hjk;rw[GM,GM,e2,e,ha]at h3;exact h3 rfl);have aF2:=IP.an4 0 rfl (a:Int) hwf;rw[atU hno]at aF2;obtain⟨w1,hput,hS1⟩:=IP.atH 0 rfl vQ (a:Int) 1 hwf aV;rw[aoC]at hS1;(have e9:(ps.take k).map (·.1)++[a]=(ps.take (k+1)).map (·.1):=by rw[pE,gE hkl,mV,<-ha];rfl);rw[e9]at hS1;have aK5:=Lh hS1;(have q1:(k:Int)<n:=by omega);(have q0:(0:Int)<=k:=by omega);clear IP hno GA CQ hwf e9 hS1 h1';go_wp2_with fail;refine⟨⟨k+1,by omega,rfl,aK5⟩,by simp[intOf];omega⟩
  (obtain rfl:n=k:=by omega);have hS2:Hid (Sep w0 wr (aR (.slice none 0 0) []::aH q p false::aO p D::aJ be 0::R)):=Lh (ak3 (Sep.drop 1 hS.out));clear hS h1' hk hlt;go_wp2_with fail;go_loopw[8,50] (fun x i wr=>∃(k:Nat),k<=n/\i=iV k/\Hid (Sep w0 wr (aR x (F9 (ps.take k))::aH q p false::aO p D::aJ be 0::R))) (fun _ i _=>n-(intOf i).toNat)
  case atStart=>exact⟨0,gI _,rfl,hS2⟩
  obtain⟨k,hk,rfl,hS⟩:=hrel;by_cases hlt:k<n
  ·(have hkl:k<ps.length:=by rw[aiR.out];exact hlt);obtain⟨c0,c1⟩:=hin'.out.cell wr [_,_,_,_] hS.out k hlt;obtain⟨GA,CQ⟩:=akU.out k hlt;obtain⟨Au,cu,hu⟩:=hin'.out.form _ (nT (show k<us.length by rw[hin'.out.aw6];exact hlt));rw[hu]at c1;obtain⟨a,ha⟩:∃a,ps[k].1=a:=⟨_,rfl⟩;rw[ha]at c0 GA;have IP:=hS.out.alloc (.cells #[iV (a:Nat),.slice Au 512 cu] 208);(have q1:(k:Int)<n:=by omega);(have q0:(0:Int)<=k:=by omega);have hbl:=CK hD'.out aD (Sep.drop 1 (Sep.dE [0,1,2] IP.drew aV bL));obtain⟨N,hN⟩:∃N,N=nb-96:=⟨_,rfl⟩;rw[<-hN]at hbl;have hd0:decide ((a:Int)<0)=false:=decide_eq_false aD;have hd1:decide ((N:Int)<=(a:Int))=false:=decide_eq_false aD;(have hd2:¬N<=a:=by omega);have aBC:=Lh IP;have ec:(wr.alloc (.cells #[iV (a:Nat),.slice Au 512 cu] 208)).drew.cell? ⟨wr.heap.size,0,none⟩=some (iV (a:Nat)):=cell_of_row _ _ 0 _ _ _ (heap_alloc_new wr _);have hfl:(Tryz.prog.info? 3).map (fun i=>(i.zero,i.size,i.bytes))=some (some (iV 0),1,8):=SN;obtain⟨k0,pO,hk0,hk1,hk2⟩:=iU hfl;clear IP GA CQ hS2 hN hfl;go_wp2_with fail;refine mX ?_;refine aP (S:=fun w'=>w'.cell? ⟨wr.heap.size,0,none⟩=some (iV (a:Nat))) 10 ?_;refine bB 0 (fun _=>ec) ?_;refine bB 1 (fun _=>ec) ?_;refine bB 2 (fun _=>ec) ?_;refine bB 3 (fun _=>ec) ?_;refine aA 4 ec ?_;refine aA 5 ec ?_;refine aA 6 ec ?_;(refine bI 7 fun K hK=>?_);go_simp;go_at_call 154;refine hbl.mono ?_;rintro e w9 ⟨rfl,h9⟩;obtain rfl:=h9.symm;refine hK _ _ (fun _=>ec) ?_;clear hK K;(try simp only[Act.put,gD]);refine bB 8 (fun _=>ec) ?_;refine bB 9 (fun _=>ec) ?_;refine aQ fH ?_ _;simp only[rO];clear hbl;have hSB:Hid (Sep w0 ((wr.alloc (.cells #[iV (a:Nat),.slice Au 512 cu] 208)).alloc (.cells #[iV (a:Nat)] 3)).drew (aR u8 (F9 (ps.take k))::aH q p false::aO p D::aJ be 0::R)):=Lh (aBC.out.alloc (.cells #[iV (a:Nat)] 3)).drew;have hrd:Hid (Rd ((wr.alloc (.cells #[iV (a:Nat),.slice Au 512 cu] 208)).alloc (.cells #[iV (a:Nat)] 3)).drew 1 (sV (wr.heap.size+1) 1 1) 1 [.int .i64 (a:Nat)]):=Lh ⟨rfl,_,_,rfl,iB _,by unfold maxLen;omega,fun _=>⟨_,rfl,by simp,jO (wr.alloc (.cells #[iV (a:Nat),.slice Au 512 cu] 208)) #[iV (a:Nat)] 3 _ bL⟩⟩;(have hl8:(F9 (ps.take k)).length=k:=by rw[atW,qL];omega);rw[show(aR u8 (F9 (ps.take k)))= .sl 3 1 u8 k ((F9 (ps.take k)).map (.int .i64))by unfold aR;rw[hl8]]at hSB;go_wp2_with(at_builtin;refine dH 0 rfl _ _ 127 rfl 3 k0 (.int .i64 0) 1 8 Tryz.underlying127 pO hk0 hk1 hk2 rfl aV hSB.out u8 k _ rfl rfl (sV (wr.heap.size+1) 1 1) 1 [.int .i64 (a:Nat)] rfl hrd.out oCl vQ aD ?_;intro v3 w3 dX hz3);refine⟨⟨k+1,by omega,rfl,Lh ?_⟩,by simp[intOf];omega⟩;(have e9:F9 (ps.take (k+1))=F9 (ps.take k)++[(a:Int)]:=by unfold F9;rw[pE,gE hkl,mV,<-ha];rfl);rw[e9];unfold aR;rw[jL,hl8,mV];exact dX
  (obtain rfl:n=k:=by omega);have dX:=hS;rw[qH (by rw[aiR.out];exact iB _)]at dX;have haw:=F5 (Sep.drop 1 dX.out);simp only[JO,if_false]at haw;clear hS hS2;go_wp2_with(go_at_call 168;refine haw.mono ?_;rintro e w9 ⟨rfl,h9⟩;obtain rfl:=h9.symm);(have hfin:Hid (∀(E:DK) (X:List aZ) (xs ys:List tJ) (x:tJ) W,bY ps=xs++x::ys->kN xs D=(E,true)->E.off=true->Sep w0 W (aH q p true::aO p E::(X++R))->(Ending.returned (iV 11)= .returned (iV (alL (kN (bY ps) D).2))/\Sep w0 W (aH q p (!(kN (bY ps) D).2)::aO p (kN (bY ps) D).1::R))):=Lh fun E X xs ys x W hc hr ho hS=>by rw[hc,an5 hr ho];refine⟨rfl,?_⟩;(have h1:Sep w0 W ((aH q p true::aO p E::X)++R):=by simpa using hS);have h2:Sep w0 W (X++(aH q p true::aO p E::R)):=h1.perm (by have:=(OI (l₁:=[aH q p true,aO p E]) (l₂:=X)).append_right R;simpa using this);exact h2.snd);have kD:Hid (∃E,EY nb D E [] (D.back.length+0)/\Sep w0 wr (aH q p false::aO p E::aJ be 0::aR u8 (F9 ps)::R)):=Lh ⟨D,⟨rfl,hD'.out,iB _⟩,Sep.dE [1,2,3,0] dX.out aV bL⟩;clear dX haw;go_loopw[74] (fun i wr=>∃k:Nat,k<=n/\i=iV k/\Hid (∃E,EY nb D E ((kI ps).take k) (D.back.length+k)/\Sep w0 wr (aH q p false::aO p E::aJ be 0::aR u8 (F9 ps)::R))) (fun i _=>n-(intOf i).toNat)
  case atStart=>exact⟨0,gI _,rfl,kD⟩
  obtain⟨k,hk,rfl,hS⟩:=hrel;by_cases hlt:k<n
  ·(have hkl:k<ps.length:=by rw[aiR.out];exact hlt);obtain⟨E,hE,hS5⟩:=hS.out;obtain⟨c0,c1⟩:=hin'.out.cell wr [_,_,_,_] hS5 k hlt;obtain⟨GA,CQ⟩:=akU.out k hlt;have hdat:=hin'.out.data k hlt;obtain⟨Au,cu,hu⟩:=hin'.out.form _ (nT (show k<us.length by rw[hin'.out.aw6];exact hlt));rw[hu]at c1 hdat;obtain⟨a,ha⟩:∃a,ps[k].1=a:=⟨_,rfl⟩;obtain⟨bs,hbs⟩:∃bs,ps[k].2=bs:=⟨_,rfl⟩;rw[ha]at c0;rw[hbs]at hdat CQ;have IP:=hS5.alloc (.cells #[iV (a:Nat),.slice Au 512 cu] 208);have hpre:bY ps=(kI ps).take k++some (1+k,bs)::((kI ps).drop (k+1)++(none::some (0,fQ (ps.map (·.1)))::none::(gQ ps++[none,some (0,fQ []),none]))):=by
    have h1:=JI hkl;rw[hbs]at h1;unfold bY
    conv=>lhs;rw[<-D7 (k+1) (kI ps),h1]
    simp
   (have h1k:1+k<nb:=by have:=afH.out.few;omega);(have hfw:E.back.length<65536:=by have:=hE.back;have:=af6.out;have:=afH.out.few;omega);have hpre':=Lh hpre;have aBC:=Lh IP;have hE':=Lh hE;(have hcast:(1:Int)+(k:Int)=((1+k:Nat):Int):=by omega);(have q1:(k:Int)<n:=by omega);(have q0:(0:Int)<=k:=by omega);cases hoff:E.off with
   |true=>have hw:=yR (i:=1+k) hE.ok h1k CQ hfw (hdat.cons.cons) hoff IP;rw[<-hcast]at hw;clear IP hpre hS hS5 hfw hE hcast kD GA CQ;go_wp2_with(go_at_call 161;refine hw.mono ?_;rintro e w9 ⟨rfl,h9⟩);(refine lM (be:=be) rfl (Sep.dE [0,2,1] h9 aV bL) fun w' hw'=>?_);exact hfin.out E [aR u8 (F9 ps)] _ _ _ w' hpre'.out hE'.out.run hoff hw'
   |false=>have hw:=uD (i:=1+k) hE.ok h1k CQ hfw (hdat.cons.cons) hoff IP;rw[<-hcast]at hw;have hE2:=Lh (hE.wr hoff h1k CQ);clear IP hpre hS hS5 hfw hE hcast kD GA CQ;go_wp2_with(go_at_call 161;refine hw.mono ?_;rintro e w9 ⟨rfl,h9⟩);refine⟨⟨k+1,by omega,rfl,Lh ⟨_,?_,h9⟩⟩,by simp[intOf];omega⟩;rw[JI hkl,hbs];exact hE2.out
  (obtain rfl:n=k:=by omega);obtain⟨E,hE,hS5⟩:=hS.out;rw[qH (by unfold kI;rw[iM,ai6,aiR.out];exact iB _)]at hE;clear hS kD hlt hk;have hE':=Lh hE;have hok:=hE.ok;(have aoD:0<nb:=by omega);cases hoff:E.off with
  |true=>have hf:=yS hok hoff hS5;clear hS5 hE hok;go_wp2_with(go_at_call 155;refine hf.mono ?_;rintro e w9 ⟨rfl,h9⟩);(refine lM (p:=p) (be:=be) rfl (Sep.dE [0,2,1] h9 aV bL) fun w' hw'=>?_);exact hfin.out E [aR u8 (F9 ps)] _ _ none w' rfl hE'.out.run hoff hw'
  |false=>
  have hf:=rE hok hoff hS5;have hE2:=Lh (hE.fl hoff);clear hS5 hE hok;go_wp2_with(go_at_call 155;refine hf.mono ?_;rintro e w9 ⟨rfl,h9⟩);clear hf hE';have hints:=h9.ints 3 rfl;rw[axM]at hints;have hhd:=QZ hints (by rw[iM];have:=afH.out.few;omega) (by intro y hy;obtain⟨x,hx,rfl⟩:=List.mem_map.1 hy;have:=afH.out.put x hx;have:=hnb'.out;omega);clear hints;go_wp2_with(go_at_call 162;refine hhd.mono ?_;rintro e w10 ⟨u,rfl,hSu⟩);have lG:Sep w0 w10 (aH q p false::aO p E.fl::aJ be 0::aI u (fQ (ps.map (·.1)))::R):=Sep.drop 1 (Sep.dE [4,1,2,3,0] (h9.join hSu) aV bL);have hlh:(fQ (ps.map (·.1))).length=512:=oO (by rw[iM];have:=afH.out.few;omega);clear hhd hSu h9;obtain⟨E2,aF4⟩:∃E2,E.fl=E2:=⟨_,rfl⟩;rw[aF4]at hE2 lG;have hok2:=hE2.out.ok;(have hfw2:E2.back.length<65536:=by have:=hE2.out.back;omega);cases QX:E2.off with
  |true=>have hf:=yR (i:=0) hok2 aoD hlh hfw2 (jG.part 1 rfl) QX lG;clear lG hok2 hfw2 hlh;go_wp2_with(go_at_call 161;refine hf.mono ?_;rintro e w11 ⟨rfl,h11⟩);(refine lM (p:=p) (be:=be) rfl (Sep.dE [0,2,1] h11 aV bL) fun w' hw'=>?_);exact hfin.out E2 [aI u (fQ (ps.map (·.1)))] (kI ps++[none]) (none::(gQ ps++[none,some (0,fQ []),none])) (some (0,fQ (ps.map (·.1)))) w' (by simp[bY]) hE2.out.run QX hw'
  |false=>
  have hf:=uD (i:=0) hok2 aoD hlh hfw2 (jG.part 1 rfl) QX lG;have NF:=Lh (hE2.out.wr QX aoD hlh);clear lG hok2 hfw2 hlh;go_wp2_with(go_at_call 161;refine hf.mono ?_;rintro e w11 ⟨rfl,h11⟩);clear hf hE2;have qG:Sep w0 w11 (aH q p false::aO p (E2.wr 0 (fQ (ps.map (·.1))))::aJ be 0::R):=Sep.drop 1 (Sep.dE [3,0,1,2] h11 aV bL);obtain⟨E3,aF5⟩:∃E3,E2.wr 0 (fQ (ps.map (·.1)))=E3:=⟨_,rfl⟩;rw[aF5]at NF qG;clear h11 aF5 aF4;have axO:=NF.out.ok;cases akV:E3.off with
  |true=>have hf:=yS axO akV qG;clear qG axO;go_wp2_with(go_at_call 155;refine hf.mono ?_;rintro e w12 ⟨rfl,h12⟩);(refine lM (p:=p) (be:=be) rfl (Sep.dE [0,2,1] h12 aV bL) fun w' hw'=>?_);exact hfin.out E3 [] (kI ps++[none]++[some (0,fQ (ps.map (·.1)))]) (gQ ps++[none,some (0,fQ []),none]) none w' (by simp[bY]) NF.out.run akV hw'
  |false=>
  have hf:=rE axO akV qG;have HY:=Lh (NF.out.fl akV);clear qG axO;go_wp2_with(go_at_call 155;refine hf.mono ?_;rintro e w12 ⟨rfl,h12⟩);clear hf NF;have zS:Hid (∃E,EY nb D E (kI ps++[none]++[some (0,fQ (ps.map (·.1)))]++[none]) (0+0)/\Sep w0 w12 (aH q p false::aO p E::aJ be 0::R)):=Lh ⟨_,HY.out,h12⟩;obtain⟨XS,hXS⟩:∃XS,XS=kI ps++[none]++[some (0,fQ (ps.map (·.1)))]++[none]:=⟨_,rfl⟩;rw[<-hXS]at zS;have atX:=Lh hXS;clear h12 HY hXS;go_loopw[96] (fun i wr=>∃k:Nat,k<=n/\i=iV k/\Hid (∃E,EY nb D E (XS++(gQ ps).take k) (0+k)/\Sep w0 wr (aH q p false::aO p E::aJ be 0::R))) (fun i _=>n-(intOf i).toNat)
  case atStart=>exact⟨0,gI _,rfl,by rw[N7,yX44];exact zS⟩
  obtain⟨k,hk,rfl,hS⟩:=hrel;by_cases hlt:k<n
  ·(have hkl:k<ps.length:=by rw[aiR.out];exact hlt);obtain⟨E4,HY,hS5⟩:=hS.out;obtain⟨c0,c1⟩:=hin'.out.cell wr [_,_,_] hS5 k hlt;obtain⟨GA,CQ⟩:=akU.out k hlt;have hdat:=hin'.out.data k hlt;obtain⟨Au,cu,hu⟩:=hin'.out.form _ (nT (show k<us.length by rw[hin'.out.aw6];exact hlt));rw[hu]at c1 hdat;obtain⟨a,ha⟩:∃a,ps[k].1=a:=⟨_,rfl⟩;obtain⟨bs,hbs⟩:∃bs,ps[k].2=bs:=⟨_,rfl⟩;rw[ha]at c0 GA;rw[hbs]at hdat CQ;have IP:=hS5.alloc (.cells #[iV (a:Nat),.slice Au 512 cu] 208);have hpre:bY ps=(XS++(gQ ps).take k)++some (96+a,bs)::((gQ ps).drop (k+1)++[none,some (0,fQ []),none]):=by
    have h1:=JJ hkl;rw[hbs,ha]at h1;have h2:gQ ps=(gQ ps).take k++some (96+a,bs)::(gQ ps).drop (k+1):=by
     conv=>lhs;rw[<-D7 (k+1) (gQ ps),h1]
     simp
    unfold bY
    conv=>lhs;rw[h2]
    rw[atX.out];simp
   (have hfw:E4.back.length<65536:=by have:=HY.back;have:=afH.out.few;omega);have hpre':=Lh hpre;have aBC:=Lh IP;have hE':=Lh HY;(have hcast:(96:Int)+(a:Int)=((96+a:Nat):Int):=by omega);(have q1:(k:Int)<n:=by omega);(have q0:(0:Int)<=k:=by omega);(have q2:(a:Int)<=4096:=by have:=hnb'.out;omega);cases JL:E4.off with
   |true=>have hw:=yR (i:=96+a) HY.ok GA CQ hfw (hdat.cons) JL IP;rw[<-hcast]at hw;clear IP hpre hS hS5 hfw HY hcast zS GA CQ;go_wp2_with(go_at_call 161;refine hw.mono ?_;rintro e w9 ⟨rfl,h9⟩);(refine lM (p:=p) (be:=be) rfl (Sep.dE [0,2,1] h9 aV bL) fun w' hw'=>?_);exact hfin.out E4 [] _ _ _ w' hpre'.out hE'.out.run JL hw'
   |false=>have hw:=uD (i:=96+a) HY.ok GA CQ hfw (hdat.cons) JL IP;rw[<-hcast]at hw;have hE2:=Lh (HY.wr JL GA CQ);clear IP hpre hS hS5 hfw HY hcast zS GA CQ;go_wp2_with(go_at_call 161;refine hw.mono ?_;rintro e w9 ⟨rfl,h9⟩);refine⟨⟨k+1,by omega,rfl,Lh ⟨_,?_,h9⟩⟩,by simp[intOf];omega⟩;rw[JJ hkl,hbs,ha,<-pJ];exact hE2.out
  (obtain rfl:n=k:=by omega);obtain⟨E4,HY,hS5⟩:=hS.out;rw[qH (by unfold gQ;rw[iM,aiR.out];exact iB _)]at HY;have aF7:=Lh HY;clear hS zS hlt hk;have axP:=HY.ok;cases JL:E4.off with
  |true=>have hf:=yS axP JL hS5;clear hS5 axP HY;go_wp2_with(go_at_call 155;refine hf.mono ?_;rintro e w12 ⟨rfl,h12⟩);(refine lM (p:=p) (be:=be) rfl (Sep.dE [0,2,1] h12 aV bL) fun w' hw'=>?_);exact hfin.out E4 [] (XS++gQ ps) ([some (0,fQ []),none]) none w' (by rw[atX.out];simp[bY]) aF7.out.run JL hw'
  |false=>
  have hf:=rE axP JL hS5;have rP:=Lh (HY.fl JL);clear hS5 axP HY aF7;go_wp2_with(go_at_call 155;refine hf.mono ?_;rintro e w13 ⟨rfl,h13⟩);clear hf;have hhd:=QZ (w:=w13) (v:=.slice none 0 0) (ps:=[]) ⟨rfl,none,0,rfl,iB _,gI _,fun h=>absurd h (Nat.lt_irrefl _)⟩ aV bL;go_wp2_with(go_at_call 162;refine hhd.mono ?_;rintro e w14 ⟨u,rfl,hSu⟩);have lG:Sep w0 w14 (aH q p false::aO p E4.fl::aJ be 0::aI u (fQ [])::R):=Sep.dE [1,2,3,0] (h13.join hSu) aV bL;have hlh:(fQ []).length=512:=oO aV;clear hhd hSu h13;obtain⟨E5,aF8⟩:∃E5,E4.fl=E5:=⟨_,rfl⟩;rw[aF8]at rP lG;clear aF8;have axQ:=rP.out.ok;(have axR:E5.back.length<65536:=by have:=rP.out.back;omega);cases akW:E5.off with
  |true=>have hf:=yR (i:=0) axQ aoD hlh axR (jG.part 1 rfl) akW lG;clear lG axQ axR hlh;go_wp2_with(go_at_call 161;refine hf.mono ?_;rintro e w11 ⟨rfl,h11⟩);(refine lM (p:=p) (be:=be) rfl (Sep.dE [0,2,1] h11 aV bL) fun w' hw'=>?_);exact hfin.out E5 [aI u (fQ [])] (XS++gQ ps++[none]) [none] (some (0,fQ [])) w' (by rw[atX.out];simp[bY]) rP.out.run akW hw'
  |false=>
  have hf:=uD (i:=0) axQ aoD hlh axR (jG.part 1 rfl) akW lG;have hE6:=Lh (rP.out.wr akW aoD hlh);clear lG axQ axR hlh;go_wp2_with(go_at_call 161;refine hf.mono ?_;rintro e w15 ⟨rfl,h15⟩);clear hf rP;have qG:Sep w0 w15 (aH q p false::aO p (E5.wr 0 (fQ []))::aJ be 0::R):=Sep.drop 1 (Sep.dE [3,0,1,2] h15 aV bL);obtain⟨E6,aF9⟩:∃E6,E5.wr 0 (fQ [])=E6:=⟨_,rfl⟩;rw[aF9]at hE6 qG;clear h15 aF9;have axS:=hE6.out.ok;cases akX:E6.off with
  |true=>have hf:=yS axS akX qG;clear qG axS;go_wp2_with(go_at_call 155;refine hf.mono ?_;rintro e w12 ⟨rfl,h12⟩);(refine lM (p:=p) (be:=be) rfl (Sep.dE [0,2,1] h12 aV bL) fun w' hw'=>?_);exact hfin.out E6 [] (XS++gQ ps++[none]++[some (0,fQ [])]) [] none w' (by rw[atX.out];simp[bY]) hE6.out.run akX hw'
  |false=>
  have hf:=rE axS akX qG;have hE7:=Lh (hE6.out.fl akX);clear qG axS;go_wp2_with(go_at_call 155;refine hf.mono ?_;rintro e w16 ⟨rfl,h16⟩;have k1:=h16.bC 2 rfl 0;have k2:=h16.bF 2 rfl 0;simp only[gA,gB]at k1);refine oI ?_;have h17:Sep w0 (w16.setCell ⟨be,0,none⟩ (.int .i64 0)) (aH q p false::aO p E6.fl::aJ be 0::R):=h16.bS 2 rfl 0 (.int .i64 0);have ec:=h17.bC 2 rfl 0;simp only[gA,gB]at ec;(have hrun:kN (bY ps) D=(E6.fl,true):=by have:=hE7.out.run;rw[atX.out]at this;rw[<-this];congr 1;simp[bY]);refine⟨.int .i64 0,?_,?_,?_⟩
  ·(have hr:Tryz.f167.results=#[.cell 4 40]:=by kernel_rfl);simp[results,hr,go_sem,ec]
  ·rw[hrun];rfl
  rw[hrun];exact Sep.drop 1 (Sep.dE [2,0,1] h17 aV bL)
def afI (v:Value):Option (DataW Value×List MemPlace):=some (.held v,[])
def getM (L:List (Lit×Value)) (k:Lit):Option Value:=(L.find? fun p=>p.1.sameKey k).map (·.2)
def nI (L:List (Lit×Value)) (k:Lit):List (Lit×Value):=L.filter fun p=> !p.1.sameKey k
def qK (L:List (Lit×Value)) (k:Lit) (v:Value):List (Lit×Value):=nI L k++[(k,v)]
structure mU (L:List (Lit×Value)):Prop where
 lit:∀p∈L,WideAt.IsKeyLit p.1
 ne:L.Pairwise fun p q=>p.1≠q.1
theorem mU.nil :mU []:=⟨by simp,List.Pairwise.nil⟩
theorem mU.sub {L M:List (Lit×Value)} (h:mU L) (hs:M.Sublist L):mU M:=⟨fun p hp=>h.lit p (hs.subset hp),h.ne.sublist hs⟩
theorem mU.del {L:List (Lit×Value)} (h:mU L) (k:Lit):mU (nI L k):=h.sub GR
theorem mU.put {L:List (Lit×Value)} (h:mU L) {k:Lit} (hk:WideAt.IsKeyLit k) (v:Value):mU (qK L k v):=by
 refine⟨fun p hp=>?_,?_⟩
 ·rcases iN.1 hp with hp|hp
  ·exact(h.del k).lit p hp
  rw[sW]at hp;subst hp;exact hk
 refine OE.2 ⟨(h.del k).ne,by simp,fun p hp q hq=>?_⟩;rw[sW]at hq;subst hq;intro e;have h1:=(List.mem_filter.1 hp).2;rw[e,WideAt.sameKey_self hk]at h1;simp at h1
theorem xQ {L:List (Lit×Value)} (h:mU L) {k:Lit} {v:Value} (hm:(k,v)∈L):getM L k=some v:=by
 unfold getM
 induction L with
 |nil=>cases hm
 |cons p L ih=>
  rw[JS];obtain⟨h1,h2⟩:=List.pairwise_cons.1 h.ne;rcases kC.1 hm with rfl|hm
  ·rw[show(k,v).1.sameKey k=true from WideAt.sameKey_self (h.lit (k,v) bL)];rfl
  have hne:p.1.sameKey k=false:=by
   cases hs:p.1.sameKey k with
   |false=>rfl
   |true=>exact absurd (WideAt.sameKey_eq hs) (h1 _ hm)
  rw[hne];exact ih (h.sub (List.sublist_cons_self _ _)) hm
theorem getM_some {L:List (Lit×Value)} {k:Lit} {v:Value} (h:getM L k=some v):(k,v)∈L:=by unfold getM at h;rw[OA]at h;obtain⟨p,h1,rfl⟩:=h;have h2:=WideAt.sameKey_eq (by simpa using GN h1);rw[<-h2];exact TJ h1
theorem getM_none {L:List (Lit×Value)} {k:Lit} (hk:WideAt.IsKeyLit k) (h:∀p∈L,p.1≠k):getM L k=none:=by unfold getM;rw[YD,wL];intro p hp hs;exact h p hp (WideAt.sameKey_eq (by simpa using hs))
def aBD (w:World) (k:TypeId) (b n:Nat) (L:List (Lit×Value)):Prop:=
 ∃D:DataW Value,w.ownsMap Tryz.prog k afI b n D/\mU L/\Maps.size D=L.length/\(∀kl,WideAt.IsKeyLit kl->Maps.has D kl=(getM L kl).isSome)/\∀kl zd,WideAt.IsKeyLit kl->D.atKey kl zd=match getM L kl with|some v=>.held v|none=>zd
def CB (k:TypeId) (b n:Nat) (L:List (Lit×Value)):aZ:=
 ⟨fun w F=>aBD w k b n L/\F=[b],
  fun w w' F ⟨⟨D,⟨es,clock,hb,hr⟩,h2⟩,hF⟩ hk=>⟨⟨D,⟨es,clock,by rw[hk b (by rw[hF];simp)];exact hb,hr⟩,h2⟩,hF⟩,
  fun w F ⟨⟨D,h1,_⟩,hF⟩=>by rw[hF];exact⟨by simp,fun b' hb=>by simp at hb;subst hb;exact h1.lt⟩⟩
theorem vI {k:Lit} (hk:WideAt.IsKeyLit k):k.sameKey k=true:=WideAt.sameKey_self hk
theorem lD {k k':Lit} (h:k'≠k):¬k'.sameKey k=true:=fun hs=>h (WideAt.sameKey_eq hs)
theorem Z30 {P:Prop} (h:P:=by
 unfold nI;rw[Maps.find_filter_keep];intro p hp;have:=WideAt.sameKey_eq hp;cases hs:p.1.sameKey k with
 |false=>rfl
 |true=>exact absurd (this.symm.trans (WideAt.sameKey_eq hs)) e):P:=h
theorem BZ {L:List (Lit×Value)} {k:Lit} (hk:WideAt.IsKeyLit k) (v:Value) (k':Lit) (hk':WideAt.IsKeyLit k'):getM (qK L k v) k'=if k'.sameKey k=true then some v else getM L k':=by
 unfold getM qK;rw[ajD];by_cases e:k'=k
 ·subst e;rw[if_pos (vI hk')];(have h1:(nI L k').find? (fun p=>p.1.sameKey k')=none:=by rw[wL];intro p hp;have:=(List.mem_filter.1 hp).2;simpa using this);rw[h1];simp[WideAt.sameKey_self hk']
 rw[if_neg (lD e)];have h2:([(k,v)]:List (Lit×Value)).find? (fun p=>p.1.sameKey k')=none:=by
  have:k.sameKey k'=false:=by
   cases hs:k.sameKey k' with
   |false=>rfl
   |true=>exact absurd (WideAt.sameKey_eq hs).symm e
  simp[this]
 rw[h2,Option.or_none];exact Z30
theorem atY {L:List (Lit×Value)} {k:Lit} (hk:WideAt.IsKeyLit k) (k':Lit) (hk':WideAt.IsKeyLit k'):getM (nI L k) k'=if k'.sameKey k=true then none else getM L k':=by
 unfold getM;by_cases e:k'=k
 ·subst e;rw[if_pos (vI hk')];(have h1:(nI L k').find? (fun p=>p.1.sameKey k')=none:=by rw[wL];intro p hp;have:=(List.mem_filter.1 hp).2;simpa using this);rw[h1];rfl
 rw[if_neg (lD e)];exact Z30
theorem atZ {L:List (Lit×Value)} (h:mU L) {k:Lit} (hk:WideAt.IsKeyLit k):(nI L k).length+(if(getM L k).isSome then 1 else 0)=L.length:=by
 induction L with
 |nil=>rfl
 |cons p L ih=>
  obtain⟨h1,h2⟩:=List.pairwise_cons.1 h.ne;have ih':=ih (h.sub (List.sublist_cons_self _ _));cases hs:p.1.sameKey k with
  |true=>
   have e:=WideAt.sameKey_eq hs;have h3:nI L k=L:=EM.2 fun q hq=>by
    cases hs2:q.1.sameKey k with
    |false=>rfl
    |true=>exact absurd (e.trans (WideAt.sameKey_eq hs2).symm) (h1 q hq)
   (have h4:getM (p::L) k=some p.2:=by unfold getM;rw[JS,hs];rfl);(have h5:nI (p::L) k=nI L k:=by unfold nI;rw[xY,hs];rfl);rw[h4,h5,h3];simp
  |false=>(have h4:getM (p::L) k=getM L k:=by unfold getM;rw[JS,hs]);(have h5:nI (p::L) k=p::nI L k:=by unfold nI;rw[xY,hs];rfl);rw[h4,h5];simp only[kR];omega
theorem at0 {L:List (Lit×Value)} (h:mU L) {k:Lit} (hk:WideAt.IsKeyLit k) (v:Value):(qK L k v).length=if(getM L k).isSome then L.length else L.length+1:=by
 have:=atZ h hk;unfold qK;rw[jL,oK];split at this
 ·rename_i hc;rw[if_pos hc];omega
 rename_i hc;rw[if_neg hc];omega
section
variable {w0 w w':World} {As:List aZ} {k e t:TypeId} {b n:Nat} {L:List (Lit×Value)}
theorem Sep.aeE (h:Sep w0 w As) (k:TypeId):Sep w0 (w.alloc (.map #[] 0)) (CB k w.heap.size 0 []::As):=
 h.new ((Below.refl _ _).alloc (iB _) _) (F:=[w.heap.size]) ⟨⟨.map [],World.ownsMap_made w _ _ _,mU.nil,rfl,fun kl _=>rfl,fun kl _ _=>rfl⟩,rfl⟩ bL
theorem Sep.aoE (i:Nat) (h:Sep w0 w As) (hi:As[i]? =some (CB k b n L)):mU L:=by obtain⟨F,⟨⟨D,_,h2,_⟩,_⟩,_⟩:=h.get i hi;exact h2
theorem Z36 {P:Prop} (h:P:=by
 rw[h5 kl _ hk]at hv;cases hg:getM L kl with
 |none=>rw[hg]at hv;simp[afI]at hv;rw[hv.1];rfl
 |some u=>rw[hg]at hv;simp[afI]at hv;rw[hv.1];rfl):P:=h
theorem Sep.rJ (i:Nat) (h:Sep w0 w As) (hi:As[i]? =some (CB k b n L)) (K:Maps.Keyed Tryz.prog k) (ht:Tryz.prog.underlying t=some (.map k e)) {z:Value} (hz:(zeroValue e).run Tryz.prog w= .ok z w) {key:Value} {kl:Lit} (hkey:keyOf Tryz.prog k key=some kl):
  (Instr.lookup t (.map (some b)) key false).run Tryz.prog w= .ok ((getM L kl).getD z) w:=by
 obtain⟨F,⟨⟨D,h1,h2,h3,h4,h5⟩,_⟩,_⟩:=h.get i hi;obtain⟨v,ps,hrun,hv⟩:=h1.lookup K ht hz (zd:=.held z) (zp:=[]) rfl hkey;rw[hrun];have hk:=K.key hkey;exact Z36
theorem Sep.axT (i:Nat) (h:Sep w0 w As) (hi:As[i]? =some (CB k b n L)) (K:Maps.Keyed Tryz.prog k) (ht:Tryz.prog.underlying t=some (.map k e)) {z:Value} (hz:(zeroValue e).run Tryz.prog w= .ok z w) {key:Value} {kl:Lit} (hkey:keyOf Tryz.prog k key=some kl):
  (Instr.lookup t (.map (some b)) key true).run Tryz.prog w= .ok (.tuple #[(getM L kl).getD z,.bool (getM L kl).isSome]) w:=by
 obtain⟨F,⟨⟨D,h1,h2,h3,h4,h5⟩,_⟩,_⟩:=h.get i hi;obtain⟨v,ps,hrun,hv⟩:=h1.look_ok K ht hz (zd:=.held z) (zp:=[]) rfl hkey;have hk:=K.key hkey;rw[hrun,h4 kl hk];exact Z36
theorem Sep.qF (i:Nat) (h:Sep w0 w As) (hi:As[i]? =some (CB k b n L)) (K:Maps.Keyed Tryz.prog k) (ht:Tryz.prog.underlying t=some (.map k e)) (hn:n<maxLen) {key v:Value} {kl:Lit} (hkey:keyOf Tryz.prog k key=some kl):
  ∃w',(Instr.mapUpdate t (.map (some b)) key v).run Tryz.prog w= .ok () w'/\Sep w0 w' (As.set i (CB k b (n+1) (qK L kl v))):=by
 obtain⟨F,⟨⟨D,h1,h2,h3,h4,h5⟩,hF⟩,_⟩:=h.get i hi;have hk:=K.key hkey;obtain⟨w',hrun,hown,hgrow⟩:=h1.update K ht hn (val:=v) (d:=.held v) (ps:=[]) hkey rfl;refine⟨w',hrun,h.step i hi fun F' ⟨_,hF'⟩ _=>⟨[b],⟨⟨_,hown,h2.put hk v,?_,fun k' hk'=>?_,fun k' zd hk'=>?_⟩,rfl⟩,fun x hx=>by rw[hF'];exact .inl hx,by rw[hF'];exact mI.uI hgrow⟩⟩
 ·rw[Maps.size_put (h1.tidy K),at0 h2 hk,h4 kl hk,h3]
 ·rw[BZ hk v k' hk'];by_cases he:k'=kl
  ·subst he;rw[if_pos (vI hk'),Maps.has_put_same h1.isMap hk];rfl
  rw[if_neg (lD he),Maps.has_put_other he,h4 k' hk']
 rw[BZ hk v k' hk'];by_cases he:k'=kl
 ·subst he;rw[if_pos (vI hk'),Maps.atKey_put_same h1.isMap hk]
 rw[if_neg (lD he),Maps.atKey_put_other he,h5 k' zd hk']
def vV (k:TypeId) (b r n:Nat) (L left:List (Lit×Value)):aZ:=
 ⟨fun w F=>(∃(D:DataW Value) (lf:Lit->Bool) (cnt:Nat),w.ranges Tryz.prog k afI b r n D lf cnt/\mU L/\Maps.size D=L.length/\(∀kl,WideAt.IsKeyLit kl->Maps.has D kl=(getM L kl).isSome)/\(∀kl zd,WideAt.IsKeyLit kl->D.atKey kl zd=match getM L kl with|some v=>.held v|none=>zd)/\
   left.Sublist L/\(∀kl,WideAt.IsKeyLit kl->lf kl=(getM left kl).isSome))/\F=[b,r]/\b≠r,
  fun w w' F ⟨⟨D,lf,cnt,⟨es,clock,since,seen,c0,hb,F0,hs,hD,hr,r5⟩,h2⟩,hF,hne⟩ hk=>⟨⟨D,lf,cnt,⟨es,clock,since,seen,c0,by rw[hk b (by rw[hF];simp)];exact hb,F0,hs,hD,by rw[hk r (by rw[hF];simp)];exact hr,r5⟩,h2⟩,hF,hne⟩,
  fun w F ⟨⟨D,lf,cnt,h1,_⟩,hF,hne⟩=>by
   rw[hF];refine⟨by simp[hne],fun b' hb=>?_⟩;simp at hb;rcases hb with rfl|rfl
   ·exact h1.owns.lt
   exact h1.lt⟩
theorem Sep.aiS (i:Nat) (h:Sep w0 w As) (hi:As[i]? =some (CB k b n L)) (K:Maps.Keyed Tryz.prog k) (ht:Tryz.prog.underlying t=some (.map k e)):
  ∃w',(Instr.range t (.map (some b))).run Tryz.prog w= .ok (pV w.heap.size) w'/\Sep w0 w' (As.set i (vV k b w.heap.size n L L))/\w'.heap.size=w.heap.size+1:=by
 obtain⟨F,⟨⟨D,h1,h2,h3,h4,h5⟩,hF⟩,hlt⟩:=h.get i hi;obtain⟨w',hrun,hrg,hgrow,hsz⟩:=h1.range K ht;have hbl:=(hlt b (by rw[hF];simp)).2;refine⟨w',hrun,h.step i hi fun F' ⟨_,hF'⟩ _=>⟨[b,w.heap.size],⟨⟨D,_,_,hrg,h2,h3,h4,h5,List.Sublist.refl _,fun kl hk=>h4 kl hk⟩,rfl,by omega⟩,fun x hx=>?_,?_⟩,hsz⟩
 ·rw[hF'];simp at hx;rcases hx with rfl|rfl
  ·left;simp
  right;omega
 have:=mI.uI hgrow;exact⟨this.os,this.tape,this.output,this.size,fun j hj _=>this.block j hj bL⟩
theorem Sep.LQ {r:Nat} {left:List (Lit×Value)} (i:Nat) (h:Sep w0 w As) (hi:As[i]? =some (vV k b r n L left)) (K:Maps.Keyed Tryz.prog k) (ty:TypeId):
  (left=[]/\(Instr.next (pV r) false ty).run Tryz.prog w= .ok (.tuple #[.bool false]) w)\/
  ∃key v kl w',keyOf Tryz.prog k key=some kl/\(kl,v)∈left/\(Instr.next (.pointer (some ⟨r,0,none⟩)) false ty).run Tryz.prog w= .ok (.tuple #[.bool true,key,v]) w'/\
   Sep w0 w' (As.set i (vV k b r n L (nI left kl)))/\w'.heap.size=w.heap.size/\(Instr.entry (pV r)).run Tryz.prog w'= .ok (.tuple #[key,v]) w':=by
 obtain⟨F,⟨⟨D,lf,cnt,h1,h2,h3,h4,h5,h6,h7⟩,hF,hne⟩,hlt⟩:=h.get i hi
 rcases h1.next K ty with⟨_,hl,hrun⟩|⟨key,v,kl,y,w',cnt',hkey,hlk,hv,hat,hrun,hrg,_,hgrow,hsz,hen⟩
 ·left;refine⟨?_,hrun⟩;cases left with
  |nil=>rfl
  |cons p l=>have hkl:=h2.lit p (h6.subset bL);have:=h7 p.1 hkl;rw[hl,xQ (h2.sub h6) (v:=p.2) bL]at this;cases this
 ·right;have hk:=K.key hkey;(have hv':y=(.held v,[]):=by simp[afI]at hv;exact hv.symm);have h8:=h7 kl hk;rw[hlk]at h8;obtain⟨u,hu⟩:=Option.isSome_iff_exists.1 h8.symm;have hm:=getM_some hu;have hg:=xQ h2 (h6.subset hm);(have hu2:u=v:=by have:=hat (.held u);rw[h5 kl _ hk,hg,hv']at this;simpa using this);subst hu2;refine⟨key,u,kl,w',hkey,hm,hrun,h.step i hi fun F' ⟨_,hF',_⟩ _=>⟨[b,r],⟨⟨D,_,cnt',hrg,h2,h3,h4,h5,GR.trans h6,fun k' hk'=>?_⟩,rfl,hne⟩,fun x hx=>by rw[hF'];exact .inl hx,?_⟩,hsz,hen⟩
  ·rw[atY hk k' hk',h7 k' hk'];by_cases he:k'=kl
   ·subst he;rw[if_pos (vI hk),WideAt.sameKey_self hk];simp
   rw[if_neg (lD he)];have:k'.sameKey kl=false:=by
    cases hs:k'.sameKey kl with
    |false=>rfl
    |true=>exact absurd (WideAt.sameKey_eq hs) he
   rw[this];simp
  rw[hF'];have:=mI.uI hgrow;exact⟨this.os,this.tape,this.output,this.size,fun j hj hjn=>this.block j hj (by simp at hjn ⊢;exact hjn.2)⟩
theorem Sep.aiT {r:Nat} {left:List (Lit×Value)} (i:Nat) (h:Sep w0 w As) (hi:As[i]? =some (vV k b r n L left)):Sep w0 w (As.set i (CB k b n L)):=by refine h.step i hi fun F ⟨⟨D,lf,cnt,h1,h2,h3,h4,h5,_⟩,hF,_⟩ _=>⟨[b],⟨⟨D,h1.owns,h2,h3,h4,h5⟩,rfl⟩,fun x hx=>by rw[hF];left;simp at hx ⊢;exact .inl hx,mI.refl _ _⟩
def mO (k:TypeId) (b:Nat) (L:List (Lit×Value)):aZ:=CB k b L.length L
theorem Sep.at1 (i:Nat) (h:Sep w0 w As) (hi:As[i]? =some (CB k b n L)):Sep w0 w (As.set i (mO k b L)):=by
 refine h.step i hi fun F ⟨⟨D,h1,h2,h3,h4,h5⟩,hF⟩ _=>⟨[b],⟨⟨D,?_,h2,h3,h4,h5⟩,rfl⟩,fun x hx=>by rw[hF];exact .inl hx,mI.refl _ _⟩
 obtain⟨es,clock,hb,F0,hs,hD⟩:=h1;refine⟨es,clock,hb,F0,?_,hD⟩;rw[<-h3,hD];simp[Maps.size,length_sorted]
theorem Sep.KC (h:Sep w0 w As) (k:TypeId):Sep w0 (w.alloc (.map #[] 0)) (mO k w.heap.size []::As):=h.aeE k
theorem Sep.tK (i:Nat) (h:Sep w0 w As) (hi:As[i]? =some (mO k b L)):mU L:=h.aoE i hi
theorem Sep.Y8 (i:Nat) (h:Sep w0 w As) (hi:As[i]? =some (mO k b L)) (K:Maps.Keyed Tryz.prog k) (ht:Tryz.prog.underlying t=some (.map k e)) {z:Value} (hz:(zeroValue e).run Tryz.prog w= .ok z w) {key:Value} {kl:Lit} (hkey:keyOf Tryz.prog k key=some kl):
 (Instr.lookup t (.map (some b)) key false).run Tryz.prog w= .ok ((getM L kl).getD z) w:=h.rJ i hi K ht hz hkey
theorem Sep.aeW (i:Nat) (h:Sep w0 w As) (hi:As[i]? =some (mO k b L)) (K:Maps.Keyed Tryz.prog k) (ht:Tryz.prog.underlying t=some (.map k e)) {z:Value} (hz:(zeroValue e).run Tryz.prog w= .ok z w) {key:Value} {kl:Lit} (hkey:keyOf Tryz.prog k key=some kl):
 (Instr.lookup t (.map (some b)) key true).run Tryz.prog w= .ok (.tuple #[(getM L kl).getD z,.bool (getM L kl).isSome]) w:=h.axT i hi K ht hz hkey
theorem Sep.mE (i:Nat) (h:Sep w0 w As) (hi:As[i]? =some (mO k b L)) (K:Maps.Keyed Tryz.prog k) (ht:Tryz.prog.underlying t=some (.map k e)) (hn:L.length<maxLen) {key v:Value} {kl:Lit} (hkey:keyOf Tryz.prog k key=some kl):
  ∃w',(Instr.mapUpdate t (.map (some b)) key v).run Tryz.prog w= .ok () w'/\Sep w0 w' (As.set i (mO k b (qK L kl v))):=by
 obtain⟨w',h1,h2⟩:=h.qF i hi K ht hn (v:=v) hkey;have hlt:=(gF.1 hi).1;have h3:=h2.at1 i (by rw[NU hlt]);rw[VB]at h3;exact⟨w',h1,h3⟩
theorem Sep.O8 (i:Nat) (h:Sep w0 w As) (hi:As[i]? =some (mO k b L)) (K:Maps.Keyed Tryz.prog k) (ht:Tryz.prog.underlying t=some (.map k e)):
 ∃w',(Instr.range t (.map (some b))).run Tryz.prog w= .ok (pV w.heap.size) w'/\Sep w0 w' (As.set i (vV k b w.heap.size L.length L L))/\w'.heap.size=w.heap.size+1:=h.aiS i hi K ht
theorem Sep.apQ {r:Nat} {left:List (Lit×Value)} (i:Nat) (h:Sep w0 w As) (hi:As[i]? =some (vV k b r L.length L left)):Sep w0 w (As.set i (mO k b L)):=h.aiT i hi
end
end Go.Proofs.YtmjomdkleikgbaaGreat
namespace Go.Proofs.YtmjomdkleikgbaaGreat
open Go.RowKit Go.ChangeMaps Go.WideElems
theorem findIdx_push {p:MapEntry->Bool} {es:Array MapEntry} {e:MapEntry} (h:∀x∈es.toList,p x=false) (he:p e=true):(es.push e).findIdx? p=some es.size:=by
 have h0:es.findIdx? p=none:=by rw[Array.findIdx?_eq_none_iff];intro x hx;exact h x (by simpa using hx)
 rw[Array.findIdx?_push,h0];simp[he]
theorem axU {α:Type} (f:α->α) (a:α) (l:List α):(l++[a]).modify l.length f=l++[f a]:=by
 induction l with
 |nil=>rfl
 |cons b r ih=>rw[kW,kR,List.modify_succ_cons,ih];rfl
theorem Sep.at5 {w0 w:World} {As:List aZ} {k e t:TypeId} {b:Nat} {L:List (Lit×Value)} (i:Nat) (h:Sep w0 w As) (hi:As[i]? =some (mO k b L)) (K:Maps.Keyed Tryz.prog k) (ht:Tryz.prog.underlying t=some (.map k e)) {z:Value} (hz:∀w,(zeroValue e).run Tryz.prog w= .ok z w) (hn:L.length<maxLen) {key val:Value} {kl:Lit} (hkey:keyOf Tryz.prog k key=some kl) (hno:getM L kl=none):
  ∃st w1 w2,(Instr.mapEntry t (.map (some b)) key).run Tryz.prog w= .ok (.tuple #[z,iV st]) w1/\(Instr.entryStore t (.map (some b)) (.int .i64 st) val).run Tryz.prog w1= .ok () w2/\Sep w0 w2 (As.set i (mO k b (qK L kl val)))/\w2.heap.size=w.heap.size:=by
 obtain⟨w',hrun,hS⟩:=h.mE i hi K ht hn (v:=val) hkey;obtain⟨F,⟨⟨D,⟨es,clock,hb,hfit,hsz,hD⟩,h2,h3,h4,h5⟩,_⟩,_⟩:=h.get i hi;have hkl:=K.key hkey;have aR6:Maps.has D kl=false:=by rw[h4 kl hkl,hno];rfl
 rcases K.find w hkey es.toList (fun e he=>by obtain⟨y,hy⟩:=hfit.reads e he;exact⟨_,rd_key hy⟩)with⟨f1,f2⟩|⟨j,e0,f1,f2,f3⟩
 ·have hst:=hfit.stamped.1;have hidx:(es.push ⟨key,z,clock⟩).findIdx? (fun e=>((e.born:Nat):Int)==((clock:Nat):Int))=some es.size:=
   findIdx_push (fun x hx=>by have:=hst x hx;exact jM.2 aD) bL
  (have hmod:(es.push ⟨key,z,clock⟩).modify es.size (fun e=> {e with val:=val})=es.push ⟨key,val,clock⟩:=by apply Array.ext';rw[Array.toList_modify,Array.toList_push,Array.toList_push,<-Array.length_toList,axU]);have hw2:(setBlock w b (.map (es.push ⟨key,z,clock⟩) (clock+1))).heap[b]? =some (.map (es.push ⟨key,z,clock⟩) (clock+1)):=heap_setBlock_same hb _;(have hup:(Instr.mapUpdate t (.map (some b)) key val).run Tryz.prog w= .ok () (setBlock w b (.map (es.push ⟨key,val,clock⟩) (clock+1))):=by simp[Instr.mapUpdate,run_underlying ht,MapKept.run_getObj_map hb,K.check w false hkey,f1,MapKept.run_setObj_map _ hb,Result.andThen,setBlock]);rw[hup]at hrun;injection hrun with _ hw;refine⟨clock,setBlock w b (.map (es.push ⟨key,z,clock⟩) (clock+1)),w',?_,?_,hS,?_⟩
  ·simp[Instr.mapEntry,run_underlying ht,MapKept.run_getObj_map hb,K.check w false hkey,f1,hz,MapKept.run_setObj_map _ hb,Result.andThen,setBlock,goInt]
  ·rw[<-hw];(have hfin:setBlock (setBlock w b (.map (es.push ⟨key,z,clock⟩) (clock+1))) b (.map (es.push ⟨key,val,clock⟩) (clock+1))=setBlock w b (.map (es.push ⟨key,val,clock⟩) (clock+1)):=by simp[setBlock]);rw[<-hfin];generalize setBlock w b (.map (es.push ⟨key,z,clock⟩) (clock+1))=W1 at hw2;simp[Instr.entryStore,MapKept.run_getObj_map hw2,asInt,asIntOf,goInt,hidx,hmod,MapKept.run_setObj_map _ hw2,Result.andThen,setBlock]
  rw[<-hw];simp[setBlock]
 exfalso;have hlk:=h.aeW i hi K ht (hz w) hkey;rw[hno]at hlk;have hck:=fun em=>K.check w em hkey
 simp[Instr.lookup,run_underlying ht,MapKept.run_getObj_map hb,hck,f1,Result.andThen]at hlk
end Go.Proofs.YtmjomdkleikgbaaGreat
