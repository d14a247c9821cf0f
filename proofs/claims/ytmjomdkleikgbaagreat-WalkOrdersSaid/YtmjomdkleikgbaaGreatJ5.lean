/- Parts. -/
import Derived.Test.YtmjomdkleikgbaaGreatJ4
import Derived.Maps.OwnSet
import Derived.Maps.Range
import Derived.Maps.RangeWalk
set_option linter.unusedVariables false
set_option linter.unusedSimpArgs false
set_option maxRecDepth 100000
set_option maxHeartbeats 20000000
namespace Go.Proofs.YtmjomdkleikgbaaGreat
open Go.RowKit
def V8 (L:List Nat) (x:Int):Int:=if x∈L.map (fun(a:Nat)=>(a:Int))then 1 else 0
theorem amD (L:List Nat) (a:Nat):(fun x=>if x=(a:Int)then 1 else V8 L x)=V8 (L++[a]):=by
 funext x;unfold V8;by_cases e:x=(a:Int)
 ·rw[if_pos e,if_pos];rw[mM,iM];exact .inr (by simp[e])
 rw[if_neg e];by_cases h:x∈L.map (fun(a:Nat)=>(a:Int))
 ·rw[if_pos h,if_pos];rw[mM,iM];exact .inl h
 rw[if_neg h,if_neg];rw[mM,iM];rintro(h'|h')
 ·exact h h'
 simp at h';exact e h'
theorem arI {L:List Nat} {a:Nat} (h:a∉L):V8 L (a:Int)=0:=by
 unfold V8;rw[if_neg];intro hm;obtain⟨b,hb,e⟩:=List.mem_map.1 hm;have:b=a:=by omega
 exact h (this▸hb)
theorem arJ {a:Nat} (h:a<=4096):(Lit.int .i64 (a:Int)).wf=true:=by simp[Lit.wf,IntKind.min,IntKind.max,IntKind.signed,IntKind.bits];omega
def E9 (ps:List (Nat×List UInt8)):List Int:=ps.map fun y=>(y.1:Int)
theorem auX (ps:List (Nat×List UInt8)):E9 ps=(ps.map (·.1)).map (fun(p:Nat)=>(p:Int)):=by unfold E9;rw[qU];rfl
theorem arK (ps:List (Nat×List UInt8)):(E9 ps).length=ps.length:=iT ..
def ajK (b:Bool):Int:=if b=true then 0 else 11
theorem lD {w0 w:World} {R:List aV} {q be:Nat} {p:Nat} {tmps:Array Value} {Post:Ending->World->Prop} (ht:tmps.getD 4 undef=pV be) (h:Sep w0 w (aG q p false::aH be 0::R))
  (hp:∀w',Sep w0 w' (aG q p true::R)->Post (.returned (iV 11)) w'):
  bodyPostD Tryz.prog Tryz.f167 Post (Exit.panic [{v:=xM 11,recovered:=false}]) {tmps:=tmps,defers:=[{target:=.fn (.func 151) #[],args:=#[pV q,pV be]}]} w:=by
 refine BQ h fun w' hS=>?_
 have ec:=hS.bC 1 rfl 0;simp only[gA,gB]at ec;refine⟨.int .i64 11,?_,hp w' (Sep.drop 1 (Sep.dC [1,0] hS aR bK))⟩;have hr:Tryz.f167.results=#[.cell 4 40]:=by kernel_rfl
 have ht':tmps[4]?.getD undef=pV be:=by simpa using ht
 simp[results,hr,go_sem,ht',ec]
theorem DK.auY (D:DK) (i:Nat) (b:List UInt8):(D.wr i b).back.length=D.back.length+1:=by unfold DK.wr;rw[DK.CV];simp
theorem DK.ahO (D:DK):D.fl.back=[]:=by unfold DK.fl;rw[DK.CV]
structure ED (nb:Nat) (D E:DK) (xs:List rZ) (m:Nat):Prop where
 run:kF xs D=(E,true)
 ok:E.ok nb
 back:E.back.length<=m
theorem ED.wr {nb m i:Nat} {D E:DK} {xs:List rZ} {b:List UInt8} (h:ED nb D E xs m) (ho:E.off=false) (hi:i<nb) (hb:b.length=512):ED nb D (E.wr i b) (xs++[some (i,b)]) (m+1):=
 ⟨V7 h.run ho,DK.ahY h.ok hi hb,by rw[DK.auY];have:=h.back;omega⟩
theorem ED.fl {nb m:Nat} {D E:DK} {xs:List rZ} (h:ED nb D E xs m) (ho:E.off=false):ED nb D E.fl (xs++[none]) 0:=
 ⟨V7 h.run ho,DK.avS h.ok,by rw[DK.ahO];exact iU _⟩
theorem aeD {w0 w:World} {R:List aV} {q p nb g n c:Nat} {D:DK} {ps:List (Nat×List UInt8)} {us:List Value} (hD:D.ok nb) (RQ:96<nb) (hps:anP nb ps) (hin:anO w0 R g n ps us) (hnc:n<=c) (hcm:c<=maxLen) (hback:D.back.length<=60000) (h:Sep w0 w (aG q p false::aN p D::R)):
  Calls Tryz.prog 167 #[pV q,sV g n c] w fun e w'=>
   e= .returned (iV (ajK (kF (bW ps) D).2))/\Sep w0 w' (aG q p (!(kF (bW ps) D).2)::aN p (kF (bW ps) D).1::R):=by
 obtain⟨be,hbe⟩:∃be,w.heap.size=be:=⟨_,rfl⟩
 have h1:Sep w0 ((w.alloc (.cells #[iV 0] 40)).alloc (.map #[] 0)) (V6 (be+1) 0 (fun _=>0)::aG q p false::aN p D::aH be 0::R):=by have h2:Sep w0 (w.alloc (.cells #[iV 0] 40)) (aG q p false::aN p D::aH w.heap.size 0::R):=Sep.dC [1,2,0] (h.bN 40 #[iV 0]) aR bK;have h3:=h2.arB;rw[<-hbe];simpa using h3
 have h1':=Lh h1
 have hmm:= @run_makeMap Tryz.prog
 have hn1:(1:Int)<=n:=by have:=hps.some;have:=hin.len;omega
 have hn2:(n:Int)<=40:=by have:=hps.few;have:=hin.len;omega
 have adN:=Lh hps
 have hin':=Lh hin
 have hD':=Lh hD
 have aeC:=Lh hback
 clear h1 hback hcm
 go_enter_defers Tryz.func167,Tryz.ntmps167
 go_wp2_with fail
 simp only[hbe]at*
 have aCO:∀k (hk:k<n),96+(ps[k]'(by rw[hin'.out.len];exact hk)).1<nb/\(ps[k]'(by rw[hin'.out.len];exact hk)).2.length=512:=fun k hk=>adN.out.put _ (nJ _)
 have aiS:=Lh aCO
 have hlp:=hin'.out.len
 have agR:=Lh hlp
 have hnb:=hD'.out.few
 have hnb':=Lh hnb
 clear aCO hlp hnb hps hin h hmm hD
 go_loopw[27] (fun i wr=>∃k:Nat,k<=n/\i=iV k/\Hid (Sep w0 wr (V6 (be+1) k (V8 ((ps.take k).map (·.1)))::aG q p false::aN p D::aH be 0::R))) (fun i _=>n-(intOf i).toNat)
 case atStart=>exact⟨0,fZ _,rfl,h1'⟩
 case round=>
  obtain⟨k,hk,rfl,hS⟩:=hrel;by_cases hlt:k<n
  ·(have hkl:k<ps.length:=by rw[agR.out];exact hlt);obtain⟨c0,c1⟩:=hin'.out.cell wr [_,_,_,_] hS.out k hlt;obtain⟨FB,BR⟩:=aiS.out k hlt;obtain⟨Au,cu,hu⟩:=hin'.out.form _ (nJ (show k<us.length by rw[hin'.out.auU];exact hlt));rw[hu]at c1;obtain⟨a,ha⟩:∃a,ps[k].1=a:=⟨_,rfl⟩;rw[ha]at c0 FB;(have ha2:a<=4096:=by have:=hnb'.out;omega);have hwf:=arJ ha2;have G6:=hS.out.alloc (.cells #[iV (a:Nat),.slice Au 512 cu] 208);(have hno:a∉(ps.take k).map (·.1):=by have hnd:=adN.out.ne;intro hm;obtain⟨x,hx,e⟩:=List.mem_map.1 hm;obtain⟨j,hj,e2⟩:=M0 hx;rw[qQ]at hj;rw[List.getElem_take]at e2;(have hjk:j<k:=by omega);have:=(ZB.1 hnd);rw[DY]at this;have h3:=this j k (by rw[iT];omega) (by rw[iT];omega) hjk;rw[WH,WH,e2,e,ha]at h3;exact h3 rfl);have aCP:=G6.al7 0 rfl (a:Int) hwf;rw[arI hno]at aCP;obtain⟨w1,hput,hS1⟩:=G6.arC 0 rfl vE (a:Int) 1 hwf aR;rw[amD]at hS1;(have e9:(ps.take k).map (·.1)++[a]=(ps.take (k+1)).map (·.1):=by rw[pX,gE hkl,mM,<-ha];rfl);rw[e9]at hS1;have aHP:=Lh hS1;(have q1:(k:Int)<n:=by omega);(have q0:(0:Int)<=k:=by omega);clear G6 hno FB BR hwf e9 hS1 h1';go_wp2_with fail;refine⟨⟨k+1,by omega,rfl,aHP⟩,by simp[intOf];omega⟩
  (obtain rfl:n=k:=by omega);have hS2:Hid (Sep w0 wr (aQ (.slice none 0 0) []::aG q p false::aN p D::aH be 0::R)):=Lh (ai2 (Sep.drop 1 hS.out));clear hS h1' hk hlt;go_wp2_with fail;go_loopw[8,50] (fun x i wr=>∃(k:Nat),k<=n/\i=iV k/\Hid (Sep w0 wr (aQ x (E9 (ps.take k))::aG q p false::aN p D::aH be 0::R))) (fun _ i _=>n-(intOf i).toNat)
  case atStart=>exact⟨0,fZ _,rfl,hS2⟩
  obtain⟨k,hk,rfl,hS⟩:=hrel;by_cases hlt:k<n
  ·(have hkl:k<ps.length:=by rw[agR.out];exact hlt);obtain⟨c0,c1⟩:=hin'.out.cell wr [_,_,_,_] hS.out k hlt;obtain⟨FB,BR⟩:=aiS.out k hlt;obtain⟨Au,cu,hu⟩:=hin'.out.form _ (nJ (show k<us.length by rw[hin'.out.auU];exact hlt));rw[hu]at c1;obtain⟨a,ha⟩:∃a,ps[k].1=a:=⟨_,rfl⟩;rw[ha]at c0 FB;have G6:=hS.out.alloc (.cells #[iV (a:Nat),.slice Au 512 cu] 208);(have q1:(k:Int)<n:=by omega);(have q0:(0:Int)<=k:=by omega);have hbl:=BP hD'.out aI (Sep.drop 1 (Sep.dC [0,1,2] G6.drew aR bK));obtain⟨N,hN⟩:∃N,N=nb-96:=⟨_,rfl⟩;rw[<-hN]at hbl;have hd0:decide ((a:Int)<0)=false:=decide_eq_false aI;have hd1:decide ((N:Int)<=(a:Int))=false:=decide_eq_false aI;(have hd2:¬N<=a:=by omega);have ayA:=Lh G6;have ec:(wr.alloc (.cells #[iV (a:Nat),.slice Au 512 cu] 208)).drew.cell? ⟨wr.heap.size,0,none⟩=some (iV (a:Nat)):=cell_of_row _ _ 0 _ _ _ (heap_alloc_new wr _);have hfl:(Tryz.prog.info? 3).map (fun i=>(i.zero,i.size,i.bytes))=some (some (iV 0),1,8):=Q0;obtain⟨k0,o7,hk0,hk1,hk2⟩:=iN hfl;clear G6 FB BR hS2 hN hfl;go_wp2_with fail;refine kH ?_;refine aO (S:=fun w'=>w'.cell? ⟨wr.heap.size,0,none⟩=some (iV (a:Nat))) 10 ?_;refine bG 0 (fun _=>ec) ?_;refine bG 1 (fun _=>ec) ?_;refine bG 2 (fun _=>ec) ?_;refine bG 3 (fun _=>ec) ?_;refine aA 4 ec ?_;refine aA 5 ec ?_;refine aA 6 ec ?_;(refine bH 7 fun K hK=>?_);go_simp;go_at_call 154;refine hbl.mono ?_;rintro e w9 ⟨rfl,h9⟩;obtain rfl:=h9.symm;refine hK _ _ (fun _=>ec) ?_;clear hK K;(try simp only[Act.put,gD]);refine bG 8 (fun _=>ec) ?_;refine bG 9 (fun _=>ec) ?_;refine aS fT ?_ _;simp only[nU];clear hbl;have hSB:Hid (Sep w0 ((wr.alloc (.cells #[iV (a:Nat),.slice Au 512 cu] 208)).alloc (.cells #[iV (a:Nat)] 3)).drew (aQ u8 (E9 (ps.take k))::aG q p false::aN p D::aH be 0::R)):=Lh (ayA.out.alloc (.cells #[iV (a:Nat)] 3)).drew;have hrd:Hid (Rd ((wr.alloc (.cells #[iV (a:Nat),.slice Au 512 cu] 208)).alloc (.cells #[iV (a:Nat)] 3)).drew 1 (sV (wr.heap.size+1) 1 1) 1 [.int .i64 (a:Nat)]):=Lh ⟨rfl,_,_,rfl,iU _,by unfold maxLen;omega,fun _=>⟨_,rfl,by simp,jH (wr.alloc (.cells #[iV (a:Nat),.slice Au 512 cu] 208)) #[iV (a:Nat)] 3 _ bK⟩⟩;(have hl8:(E9 (ps.take k)).length=k:=by rw[arK,qQ];omega);rw[show(aQ u8 (E9 (ps.take k)))= .sl 3 1 u8 k ((E9 (ps.take k)).map (.int .i64))by unfold aQ;rw[hl8]]at hSB;go_wp2_with(at_builtin;refine dH 0 rfl _ _ 127 rfl 3 k0 (.int .i64 0) 1 8 Tryz.underlying127 o7 hk0 hk1 hk2 rfl aR hSB.out u8 k _ rfl rfl (sV (wr.heap.size+1) 1 1) 1 [.int .i64 (a:Nat)] rfl hrd.out oCl vE aI ?_;intro v3 w3 eZ hz3);refine⟨⟨k+1,by omega,rfl,Lh ?_⟩,by simp[intOf];omega⟩;(have e9:E9 (ps.take (k+1))=E9 (ps.take k)++[(a:Int)]:=by unfold E9;rw[pX,gE hkl,mM,<-ha];rfl);rw[e9];unfold aQ;rw[jJ,hl8,mM];exact eZ
  (obtain rfl:n=k:=by omega);have eZ:=hS;rw[rG (by rw[agR.out];exact iU _)]at eZ;have haw:=EZ (Sep.drop 1 eZ.out);simp only[IV,if_false]at haw;clear hS hS2;go_wp2_with(go_at_call 168;refine haw.mono ?_;rintro e w9 ⟨rfl,h9⟩;obtain rfl:=h9.symm);(have hfin:Hid (∀(E:DK) (X:List aV) (xs ys:List rZ) (x:rZ) W,bW ps=xs++x::ys->kF xs D=(E,true)->E.off=true->Sep w0 W (aG q p true::aN p E::(X++R))->(Ending.returned (iV 11)= .returned (iV (ajK (kF (bW ps) D).2))/\Sep w0 W (aG q p (!(kF (bW ps) D).2)::aN p (kF (bW ps) D).1::R))):=Lh fun E X xs ys x W hc hr ho hS=>by rw[hc,al8 hr ho];refine⟨rfl,?_⟩;(have h1:Sep w0 W ((aG q p true::aN p E::X)++R):=by simpa using hS);have h2:Sep w0 W (X++(aG q p true::aN p E::R)):=h1.perm (by have:=(NB (l₁:=[aG q p true,aN p E]) (l₂:=X)).append_right R;simpa using this);exact h2.snd);have lX:Hid (∃E,ED nb D E [] (D.back.length+0)/\Sep w0 wr (aG q p false::aN p E::aH be 0::aQ u8 (E9 ps)::R)):=Lh ⟨D,⟨rfl,hD'.out,iU _⟩,Sep.dC [1,2,3,0] eZ.out aR bK⟩;clear eZ haw;go_loopw[74] (fun i wr=>∃k:Nat,k<=n/\i=iV k/\Hid (∃E,ED nb D E ((jZ ps).take k) (D.back.length+k)/\Sep w0 wr (aG q p false::aN p E::aH be 0::aQ u8 (E9 ps)::R))) (fun i _=>n-(intOf i).toNat)
  case atStart=>exact⟨0,fZ _,rfl,lX⟩
  obtain⟨k,hk,rfl,hS⟩:=hrel;by_cases hlt:k<n
  ·(have hkl:k<ps.length:=by rw[agR.out];exact hlt);obtain⟨E,hE,hS5⟩:=hS.out;obtain⟨c0,c1⟩:=hin'.out.cell wr [_,_,_,_] hS5 k hlt;obtain⟨FB,BR⟩:=aiS.out k hlt;have hdat:=hin'.out.data k hlt;obtain⟨Au,cu,hu⟩:=hin'.out.form _ (nJ (show k<us.length by rw[hin'.out.auU];exact hlt));rw[hu]at c1 hdat;obtain⟨a,ha⟩:∃a,ps[k].1=a:=⟨_,rfl⟩;obtain⟨bs,hbs⟩:∃bs,ps[k].2=bs:=⟨_,rfl⟩;rw[ha]at c0;rw[hbs]at hdat BR;have G6:=hS5.alloc (.cells #[iV (a:Nat),.slice Au 512 cu] 208);have hpre:bW ps=(jZ ps).take k++some (1+k,bs)::((jZ ps).drop (k+1)++(none::some (0,fE (ps.map (·.1)))::none::(gI ps++[none,some (0,fE []),none]))):=by
    have h1:=IK hkl;rw[hbs]at h1;unfold bW
    conv=>lhs;rw[<-DC (k+1) (jZ ps),h1]
    simp
   (have h1k:1+k<nb:=by have:=adN.out.few;omega);(have hfw:E.back.length<65536:=by have:=hE.back;have:=aeC.out;have:=adN.out.few;omega);have hpre':=Lh hpre;have ayA:=Lh G6;have hE':=Lh hE;(have hcast:(1:Int)+(k:Int)=((1+k:Nat):Int):=by omega);(have q1:(k:Int)<n:=by omega);(have q0:(0:Int)<=k:=by omega);cases hoff:E.off with
   |true=>have hw:=yJ (i:=1+k) hE.ok h1k BR hfw (hdat.cons.cons) hoff G6;rw[<-hcast]at hw;clear G6 hpre hS hS5 hfw hE hcast lX FB BR;go_wp2_with(go_at_call 161;refine hw.mono ?_;rintro e w9 ⟨rfl,h9⟩);(refine lD (be:=be) rfl (Sep.dC [0,2,1] h9 aR bK) fun w' hw'=>?_);exact hfin.out E [aQ u8 (E9 ps)] _ _ _ w' hpre'.out hE'.out.run hoff hw'
   |false=>have hw:=sS (i:=1+k) hE.ok h1k BR hfw (hdat.cons.cons) hoff G6;rw[<-hcast]at hw;have hE2:=Lh (hE.wr hoff h1k BR);clear G6 hpre hS hS5 hfw hE hcast lX FB BR;go_wp2_with(go_at_call 161;refine hw.mono ?_;rintro e w9 ⟨rfl,h9⟩);refine⟨⟨k+1,by omega,rfl,Lh ⟨_,?_,h9⟩⟩,by simp[intOf];omega⟩;rw[IK hkl,hbs];exact hE2.out
  (obtain rfl:n=k:=by omega);obtain⟨E,hE,hS5⟩:=hS.out;rw[rG (by unfold jZ;rw[iT,ag5,agR.out];exact iU _)]at hE;clear hS lX hlt hk;have hE':=Lh hE;have hok:=hE.ok;(have amE:0<nb:=by omega);cases hoff:E.off with
  |true=>have hf:=yK hok hoff hS5;clear hS5 hE hok;go_wp2_with(go_at_call 155;refine hf.mono ?_;rintro e w9 ⟨rfl,h9⟩);(refine lD (p:=p) (be:=be) rfl (Sep.dC [0,2,1] h9 aR bK) fun w' hw'=>?_);exact hfin.out E [aQ u8 (E9 ps)] _ _ none w' rfl hE'.out.run hoff hw'
  |false=>
  have hf:=qJ hok hoff hS5;have hE2:=Lh (hE.fl hoff);clear hS5 hE hok;go_wp2_with(go_at_call 155;refine hf.mono ?_;rintro e w9 ⟨rfl,h9⟩);clear hf hE';have hints:=h9.ints 3 rfl;rw[auX]at hints;have hhd:=PY hints (by rw[iT];have:=adN.out.few;omega) (by intro y hy;obtain⟨x,hx,rfl⟩:=List.mem_map.1 hy;have:=adN.out.put x hx;have:=hnb'.out;omega);clear hints;go_wp2_with(go_at_call 162;refine hhd.mono ?_;rintro e w10 ⟨u,rfl,hSu⟩);have mG:Sep w0 w10 (aG q p false::aN p E.fl::aH be 0::aJ u (fE (ps.map (·.1)))::R):=Sep.drop 1 (Sep.dC [4,1,2,3,0] (h9.join hSu) aR bK);have hlh:(fE (ps.map (·.1))).length=512:=oH (by rw[iT];have:=adN.out.few;omega);clear hhd hSu h9;obtain⟨E2,aCR⟩:∃E2,E.fl=E2:=⟨_,rfl⟩;rw[aCR]at hE2 mG;have hok2:=hE2.out.ok;(have hfw2:E2.back.length<65536:=by have:=hE2.out.back;omega);cases PW:E2.off with
  |true=>have hf:=yJ (i:=0) hok2 amE hlh hfw2 (iG.part 1 rfl) PW mG;clear mG hok2 hfw2 hlh;go_wp2_with(go_at_call 161;refine hf.mono ?_;rintro e w11 ⟨rfl,h11⟩);(refine lD (p:=p) (be:=be) rfl (Sep.dC [0,2,1] h11 aR bK) fun w' hw'=>?_);exact hfin.out E2 [aJ u (fE (ps.map (·.1)))] (jZ ps++[none]) (none::(gI ps++[none,some (0,fE []),none])) (some (0,fE (ps.map (·.1)))) w' (by simp[bW]) hE2.out.run PW hw'
  |false=>
  have hf:=sS (i:=0) hok2 amE hlh hfw2 (iG.part 1 rfl) PW mG;have UG:=Lh (hE2.out.wr PW amE hlh);clear mG hok2 hfw2 hlh;go_wp2_with(go_at_call 161;refine hf.mono ?_;rintro e w11 ⟨rfl,h11⟩);clear hf hE2;have rE:Sep w0 w11 (aG q p false::aN p (E2.wr 0 (fE (ps.map (·.1))))::aH be 0::R):=Sep.drop 1 (Sep.dC [3,0,1,2] h11 aR bK);obtain⟨E3,aCS⟩:∃E3,E2.wr 0 (fE (ps.map (·.1)))=E3:=⟨_,rfl⟩;rw[aCS]at UG rE;clear h11 aCS aCR;have auZ:=UG.out.ok;cases aiT:E3.off with
  |true=>have hf:=yK auZ aiT rE;clear rE auZ;go_wp2_with(go_at_call 155;refine hf.mono ?_;rintro e w12 ⟨rfl,h12⟩);(refine lD (p:=p) (be:=be) rfl (Sep.dC [0,2,1] h12 aR bK) fun w' hw'=>?_);exact hfin.out E3 [] (jZ ps++[none]++[some (0,fE (ps.map (·.1)))]) (gI ps++[none,some (0,fE []),none]) none w' (by simp[bW]) UG.out.run aiT hw'
  |false=>
  have hf:=qJ auZ aiT rE;have F8:=Lh (UG.out.fl aiT);clear rE auZ;go_wp2_with(go_at_call 155;refine hf.mono ?_;rintro e w12 ⟨rfl,h12⟩);clear hf UG;have zG:Hid (∃E,ED nb D E (jZ ps++[none]++[some (0,fE (ps.map (·.1)))]++[none]) (0+0)/\Sep w0 w12 (aG q p false::aN p E::aH be 0::R)):=Lh ⟨_,F8.out,h12⟩;obtain⟨XS,hXS⟩:∃XS,XS=jZ ps++[none]++[some (0,fE (ps.map (·.1)))]++[none]:=⟨_,rfl⟩;rw[<-hXS]at zG;have arL:=Lh hXS;clear h12 F8 hXS;go_loopw[96] (fun i wr=>∃k:Nat,k<=n/\i=iV k/\Hid (∃E,ED nb D E (XS++(gI ps).take k) (0+k)/\Sep w0 wr (aG q p false::aN p E::aH be 0::R))) (fun i _=>n-(intOf i).toNat)
  case atStart=>exact⟨0,fZ _,rfl,by rw[MX,yX42];exact zG⟩
  obtain⟨k,hk,rfl,hS⟩:=hrel;by_cases hlt:k<n
  ·(have hkl:k<ps.length:=by rw[agR.out];exact hlt);obtain⟨E4,F8,hS5⟩:=hS.out;obtain⟨c0,c1⟩:=hin'.out.cell wr [_,_,_] hS5 k hlt;obtain⟨FB,BR⟩:=aiS.out k hlt;have hdat:=hin'.out.data k hlt;obtain⟨Au,cu,hu⟩:=hin'.out.form _ (nJ (show k<us.length by rw[hin'.out.auU];exact hlt));rw[hu]at c1 hdat;obtain⟨a,ha⟩:∃a,ps[k].1=a:=⟨_,rfl⟩;obtain⟨bs,hbs⟩:∃bs,ps[k].2=bs:=⟨_,rfl⟩;rw[ha]at c0 FB;rw[hbs]at hdat BR;have G6:=hS5.alloc (.cells #[iV (a:Nat),.slice Au 512 cu] 208);have hpre:bW ps=(XS++(gI ps).take k)++some (96+a,bs)::((gI ps).drop (k+1)++[none,some (0,fE []),none]):=by
    have h1:=IL hkl;rw[hbs,ha]at h1;have h2:gI ps=(gI ps).take k++some (96+a,bs)::(gI ps).drop (k+1):=by
     conv=>lhs;rw[<-DC (k+1) (gI ps),h1]
     simp
    unfold bW
    conv=>lhs;rw[h2]
    rw[arL.out];simp
   (have hfw:E4.back.length<65536:=by have:=F8.back;have:=adN.out.few;omega);have hpre':=Lh hpre;have ayA:=Lh G6;have hE':=Lh F8;(have hcast:(96:Int)+(a:Int)=((96+a:Nat):Int):=by omega);(have q1:(k:Int)<n:=by omega);(have q0:(0:Int)<=k:=by omega);(have q2:(a:Int)<=4096:=by have:=hnb'.out;omega);cases IM:E4.off with
   |true=>have hw:=yJ (i:=96+a) F8.ok FB BR hfw (hdat.cons) IM G6;rw[<-hcast]at hw;clear G6 hpre hS hS5 hfw F8 hcast zG FB BR;go_wp2_with(go_at_call 161;refine hw.mono ?_;rintro e w9 ⟨rfl,h9⟩);(refine lD (p:=p) (be:=be) rfl (Sep.dC [0,2,1] h9 aR bK) fun w' hw'=>?_);exact hfin.out E4 [] _ _ _ w' hpre'.out hE'.out.run IM hw'
   |false=>have hw:=sS (i:=96+a) F8.ok FB BR hfw (hdat.cons) IM G6;rw[<-hcast]at hw;have hE2:=Lh (F8.wr IM FB BR);clear G6 hpre hS hS5 hfw F8 hcast zG FB BR;go_wp2_with(go_at_call 161;refine hw.mono ?_;rintro e w9 ⟨rfl,h9⟩);refine⟨⟨k+1,by omega,rfl,Lh ⟨_,?_,h9⟩⟩,by simp[intOf];omega⟩;rw[IL hkl,hbs,ha,<-nT];exact hE2.out
  (obtain rfl:n=k:=by omega);obtain⟨E4,F8,hS5⟩:=hS.out;rw[rG (by unfold gI;rw[iT,agR.out];exact iU _)]at F8;have aCU:=Lh F8;clear hS zG hlt hk;have au0:=F8.ok;cases IM:E4.off with
  |true=>have hf:=yK au0 IM hS5;clear hS5 au0 F8;go_wp2_with(go_at_call 155;refine hf.mono ?_;rintro e w12 ⟨rfl,h12⟩);(refine lD (p:=p) (be:=be) rfl (Sep.dC [0,2,1] h12 aR bK) fun w' hw'=>?_);exact hfin.out E4 [] (XS++gI ps) ([some (0,fE []),none]) none w' (by rw[arL.out];simp[bW]) aCU.out.run IM hw'
  |false=>
  have hf:=qJ au0 IM hS5;have IP:=Lh (F8.fl IM);clear hS5 au0 F8 aCU;go_wp2_with(go_at_call 155;refine hf.mono ?_;rintro e w13 ⟨rfl,h13⟩);clear hf;have hhd:=PY (w:=w13) (v:=.slice none 0 0) (ps:=[]) ⟨rfl,none,0,rfl,iU _,fZ _,fun h=>absurd h (Nat.lt_irrefl _)⟩ aR bK;go_wp2_with(go_at_call 162;refine hhd.mono ?_;rintro e w14 ⟨u,rfl,hSu⟩);have mG:Sep w0 w14 (aG q p false::aN p E4.fl::aH be 0::aJ u (fE [])::R):=Sep.dC [1,2,3,0] (h13.join hSu) aR bK;have hlh:(fE []).length=512:=oH aR;clear hhd hSu h13;obtain⟨E5,aCV⟩:∃E5,E4.fl=E5:=⟨_,rfl⟩;rw[aCV]at IP mG;clear aCV;have au1:=IP.out.ok;(have au2:E5.back.length<65536:=by have:=IP.out.back;omega);cases aiU:E5.off with
  |true=>have hf:=yJ (i:=0) au1 amE hlh au2 (iG.part 1 rfl) aiU mG;clear mG au1 au2 hlh;go_wp2_with(go_at_call 161;refine hf.mono ?_;rintro e w11 ⟨rfl,h11⟩);(refine lD (p:=p) (be:=be) rfl (Sep.dC [0,2,1] h11 aR bK) fun w' hw'=>?_);exact hfin.out E5 [aJ u (fE [])] (XS++gI ps++[none]) [none] (some (0,fE [])) w' (by rw[arL.out];simp[bW]) IP.out.run aiU hw'
  |false=>
  have hf:=sS (i:=0) au1 amE hlh au2 (iG.part 1 rfl) aiU mG;have hE6:=Lh (IP.out.wr aiU amE hlh);clear mG au1 au2 hlh;go_wp2_with(go_at_call 161;refine hf.mono ?_;rintro e w15 ⟨rfl,h15⟩);clear hf IP;have rE:Sep w0 w15 (aG q p false::aN p (E5.wr 0 (fE []))::aH be 0::R):=Sep.drop 1 (Sep.dC [3,0,1,2] h15 aR bK);obtain⟨E6,aCW⟩:∃E6,E5.wr 0 (fE [])=E6:=⟨_,rfl⟩;rw[aCW]at hE6 rE;clear h15 aCW;have au3:=hE6.out.ok;cases aiV:E6.off with
  |true=>have hf:=yK au3 aiV rE;clear rE au3;go_wp2_with(go_at_call 155;refine hf.mono ?_;rintro e w12 ⟨rfl,h12⟩);(refine lD (p:=p) (be:=be) rfl (Sep.dC [0,2,1] h12 aR bK) fun w' hw'=>?_);exact hfin.out E6 [] (XS++gI ps++[none]++[some (0,fE [])]) [] none w' (by rw[arL.out];simp[bW]) hE6.out.run aiV hw'
  |false=>
  have hf:=qJ au3 aiV rE;have hE7:=Lh (hE6.out.fl aiV);clear rE au3;go_wp2_with(go_at_call 155;refine hf.mono ?_;rintro e w16 ⟨rfl,h16⟩;have k1:=h16.bC 2 rfl 0;have k2:=h16.bF 2 rfl 0;simp only[gA,gB]at k1);refine nY ?_;have h17:Sep w0 (w16.setCell ⟨be,0,none⟩ (.int .i64 0)) (aG q p false::aN p E6.fl::aH be 0::R):=h16.bS 2 rfl 0 (.int .i64 0);have ec:=h17.bC 2 rfl 0;simp only[gA,gB]at ec;(have hrun:kF (bW ps) D=(E6.fl,true):=by have:=hE7.out.run;rw[arL.out]at this;rw[<-this];congr 1;simp[bW]);refine⟨.int .i64 0,?_,?_,?_⟩
  ·(have hr:Tryz.f167.results=#[.cell 4 40]:=by kernel_rfl);simp[results,hr,go_sem,ec]
  ·rw[hrun];rfl
  rw[hrun];exact Sep.drop 1 (Sep.dC [2,0,1] h17 aR bK)
def adO (v:Value):Option (DataW Value×List MemPlace):=some (.held v,[])
def getM (L:List (Lit×Value)) (k:Lit):Option Value:=(L.find? fun p=>p.1.sameKey k).map (·.2)
def mU (L:List (Lit×Value)) (k:Lit):List (Lit×Value):=L.filter fun p=> !p.1.sameKey k
def p8 (L:List (Lit×Value)) (k:Lit) (v:Value):List (Lit×Value):=mU L k++[(k,v)]
structure mF (L:List (Lit×Value)):Prop where
 lit:∀p∈L,WideAt.IsKeyLit p.1
 ne:L.Pairwise fun p q=>p.1≠q.1
theorem mF.nil :mF []:=⟨by simp,List.Pairwise.nil⟩
theorem mF.sub {L M:List (Lit×Value)} (h:mF L) (hs:M.Sublist L):mF M:=⟨fun p hp=>h.lit p (hs.subset hp),h.ne.sublist hs⟩
theorem mF.del {L:List (Lit×Value)} (h:mF L) (k:Lit):mF (mU L k):=h.sub FO
theorem mF.put {L:List (Lit×Value)} (h:mF L) {k:Lit} (hk:WideAt.IsKeyLit k) (v:Value):mF (p8 L k v):=by
 refine⟨fun p hp=>?_,?_⟩
 ·rcases iM.1 hp with hp|hp
  ·exact(h.del k).lit p hp
  rw[rW]at hp;subst hp;exact hk
 refine M9.2 ⟨(h.del k).ne,by simp,fun p hp q hq=>?_⟩;rw[rW]at hq;subst hq;intro e;have h1:=(List.mem_filter.1 hp).2;rw[e,WideAt.sameKey_self hk]at h1;simp at h1
theorem xI {L:List (Lit×Value)} (h:mF L) {k:Lit} {v:Value} (hm:(k,v)∈L):getM L k=some v:=by
 unfold getM
 induction L with
 |nil=>cases hm
 |cons p L ih=>
  rw[IZ];obtain⟨h1,h2⟩:=List.pairwise_cons.1 h.ne;rcases jU.1 hm with rfl|hm
  ·rw[show(k,v).1.sameKey k=true from WideAt.sameKey_self (h.lit (k,v) bK)];rfl
  have hne:p.1.sameKey k=false:=by
   cases hs:p.1.sameKey k with
   |false=>rfl
   |true=>exact absurd (WideAt.sameKey_eq hs) (h1 _ hm)
  rw[hne];exact ih (h.sub (List.sublist_cons_self _ _)) hm
theorem getM_some {L:List (Lit×Value)} {k:Lit} {v:Value} (h:getM L k=some v):(k,v)∈L:=by unfold getM at h;rw[M4]at h;obtain⟨p,h1,rfl⟩:=h;have h2:=WideAt.sameKey_eq (by simpa using FK h1);rw[<-h2];exact RF h1
theorem getM_none {L:List (Lit×Value)} {k:Lit} (hk:WideAt.IsKeyLit k) (h:∀p∈L,p.1≠k):getM L k=none:=by unfold getM;rw[WC,vY];intro p hp hs;exact h p hp (WideAt.sameKey_eq (by simpa using hs))
def ayB (w:World) (k:TypeId) (b n:Nat) (L:List (Lit×Value)):Prop:=
 ∃D:DataW Value,w.ownsMap Tryz.prog k adO b n D/\mF L/\Maps.size D=L.length/\(∀kl,WideAt.IsKeyLit kl->Maps.has D kl=(getM L kl).isSome)/\∀kl zd,WideAt.IsKeyLit kl->D.atKey kl zd=match getM L kl with|some v=>.held v|none=>zd
def BL (k:TypeId) (b n:Nat) (L:List (Lit×Value)):aV:=
 ⟨fun w F=>ayB w k b n L/\F=[b],
  fun w w' F ⟨⟨D,⟨es,clock,hb,hr⟩,h2⟩,hF⟩ hk=>⟨⟨D,⟨es,clock,by rw[hk b (by rw[hF];simp)];exact hb,hr⟩,h2⟩,hF⟩,
  fun w F ⟨⟨D,h1,_⟩,hF⟩=>by rw[hF];exact⟨by simp,fun b' hb=>by simp at hb;subst hb;exact h1.lt⟩⟩
theorem uO {k:Lit} (hk:WideAt.IsKeyLit k):k.sameKey k=true:=WideAt.sameKey_self hk
theorem kW {k k':Lit} (h:k'≠k):¬k'.sameKey k=true:=fun hs=>h (WideAt.sameKey_eq hs)
theorem Z28 {P:Prop} (h:P:=by
 unfold mU;rw[Maps.find_filter_keep];intro p hp;have:=WideAt.sameKey_eq hp;cases hs:p.1.sameKey k with
 |false=>rfl
 |true=>exact absurd (this.symm.trans (WideAt.sameKey_eq hs)) e):P:=h
theorem BK {L:List (Lit×Value)} {k:Lit} (hk:WideAt.IsKeyLit k) (v:Value) (k':Lit) (hk':WideAt.IsKeyLit k'):getM (p8 L k v) k'=if k'.sameKey k=true then some v else getM L k':=by
 unfold getM p8;rw[ahD];by_cases e:k'=k
 ·subst e;rw[if_pos (uO hk')];(have h1:(mU L k').find? (fun p=>p.1.sameKey k')=none:=by rw[vY];intro p hp;have:=(List.mem_filter.1 hp).2;simpa using this);rw[h1];simp[WideAt.sameKey_self hk']
 rw[if_neg (kW e)];have h2:([(k,v)]:List (Lit×Value)).find? (fun p=>p.1.sameKey k')=none:=by
  have:k.sameKey k'=false:=by
   cases hs:k.sameKey k' with
   |false=>rfl
   |true=>exact absurd (WideAt.sameKey_eq hs).symm e
  simp[this]
 rw[h2,Option.or_none];exact Z28
theorem arM {L:List (Lit×Value)} {k:Lit} (hk:WideAt.IsKeyLit k) (k':Lit) (hk':WideAt.IsKeyLit k'):getM (mU L k) k'=if k'.sameKey k=true then none else getM L k':=by
 unfold getM;by_cases e:k'=k
 ·subst e;rw[if_pos (uO hk')];(have h1:(mU L k').find? (fun p=>p.1.sameKey k')=none:=by rw[vY];intro p hp;have:=(List.mem_filter.1 hp).2;simpa using this);rw[h1];rfl
 rw[if_neg (kW e)];exact Z28
theorem arN {L:List (Lit×Value)} (h:mF L) {k:Lit} (hk:WideAt.IsKeyLit k):(mU L k).length+(if(getM L k).isSome then 1 else 0)=L.length:=by
 induction L with
 |nil=>rfl
 |cons p L ih=>
  obtain⟨h1,h2⟩:=List.pairwise_cons.1 h.ne;have ih':=ih (h.sub (List.sublist_cons_self _ _));cases hs:p.1.sameKey k with
  |true=>
   have e:=WideAt.sameKey_eq hs;have h3:mU L k=L:=D6.2 fun q hq=>by
    cases hs2:q.1.sameKey k with
    |false=>rfl
    |true=>exact absurd (e.trans (WideAt.sameKey_eq hs2).symm) (h1 q hq)
   (have h4:getM (p::L) k=some p.2:=by unfold getM;rw[IZ,hs];rfl);(have h5:mU (p::L) k=mU L k:=by unfold mU;rw[zA,hs];rfl);rw[h4,h5,h3];simp
  |false=>(have h4:getM (p::L) k=getM L k:=by unfold getM;rw[IZ,hs]);(have h5:mU (p::L) k=p::mU L k:=by unfold mU;rw[zA,hs];rfl);rw[h4,h5];simp only[kM];omega
theorem arO {L:List (Lit×Value)} (h:mF L) {k:Lit} (hk:WideAt.IsKeyLit k) (v:Value):(p8 L k v).length=if(getM L k).isSome then L.length else L.length+1:=by
 have:=arN h hk;unfold p8;rw[jJ,nZ];split at this
 ·rename_i hc;rw[if_pos hc];omega
 rename_i hc;rw[if_neg hc];omega
section
variable {w0 w w':World} {As:List aV} {k e t:TypeId} {b n:Nat} {L:List (Lit×Value)}
theorem Sep.ac2 (h:Sep w0 w As) (k:TypeId):Sep w0 (w.alloc (.map #[] 0)) (BL k w.heap.size 0 []::As):=
 h.new ((Below.refl _ _).alloc (iU _) _) (F:=[w.heap.size]) ⟨⟨.map [],World.ownsMap_made w _ _ _,mF.nil,rfl,fun kl _=>rfl,fun kl _ _=>rfl⟩,rfl⟩ bK
theorem Sep.amF (i:Nat) (h:Sep w0 w As) (hi:As[i]? =some (BL k b n L)):mF L:=by obtain⟨F,⟨⟨D,_,h2,_⟩,_⟩,_⟩:=h.get i hi;exact h2
theorem Z35 {P:Prop} (h:P:=by
 rw[h5 kl _ hk]at hv;cases hg:getM L kl with
 |none=>rw[hg]at hv;simp[adO]at hv;rw[hv.1];rfl
 |some u=>rw[hg]at hv;simp[adO]at hv;rw[hv.1];rfl):P:=h
theorem Sep.qL (i:Nat) (h:Sep w0 w As) (hi:As[i]? =some (BL k b n L)) (K:Maps.Keyed Tryz.prog k) (ht:Tryz.prog.underlying t=some (.map k e)) {z:Value} (hz:(zeroValue e).run Tryz.prog w= .ok z w) {key:Value} {kl:Lit} (hkey:keyOf Tryz.prog k key=some kl):
  (Instr.lookup t (.map (some b)) key false).run Tryz.prog w= .ok ((getM L kl).getD z) w:=by
 obtain⟨F,⟨⟨D,h1,h2,h3,h4,h5⟩,_⟩,_⟩:=h.get i hi;obtain⟨v,ps,hrun,hv⟩:=h1.lookup K ht hz (zd:=.held z) (zp:=[]) rfl hkey;rw[hrun];have hk:=K.key hkey;exact Z35
theorem Sep.au4 (i:Nat) (h:Sep w0 w As) (hi:As[i]? =some (BL k b n L)) (K:Maps.Keyed Tryz.prog k) (ht:Tryz.prog.underlying t=some (.map k e)) {z:Value} (hz:(zeroValue e).run Tryz.prog w= .ok z w) {key:Value} {kl:Lit} (hkey:keyOf Tryz.prog k key=some kl):
  (Instr.lookup t (.map (some b)) key true).run Tryz.prog w= .ok (.tuple #[(getM L kl).getD z,.bool (getM L kl).isSome]) w:=by
 obtain⟨F,⟨⟨D,h1,h2,h3,h4,h5⟩,_⟩,_⟩:=h.get i hi;obtain⟨v,ps,hrun,hv⟩:=h1.look_ok K ht hz (zd:=.held z) (zp:=[]) rfl hkey;have hk:=K.key hkey;rw[hrun,h4 kl hk];exact Z35
theorem Sep.pW (i:Nat) (h:Sep w0 w As) (hi:As[i]? =some (BL k b n L)) (K:Maps.Keyed Tryz.prog k) (ht:Tryz.prog.underlying t=some (.map k e)) (hn:n<maxLen) {key v:Value} {kl:Lit} (hkey:keyOf Tryz.prog k key=some kl):
  ∃w',(Instr.mapUpdate t (.map (some b)) key v).run Tryz.prog w= .ok () w'/\Sep w0 w' (As.set i (BL k b (n+1) (p8 L kl v))):=by
 obtain⟨F,⟨⟨D,h1,h2,h3,h4,h5⟩,hF⟩,_⟩:=h.get i hi;have hk:=K.key hkey;obtain⟨w',hrun,hown,hgrow⟩:=h1.update K ht hn (val:=v) (d:=.held v) (ps:=[]) hkey rfl;refine⟨w',hrun,h.step i hi fun F' ⟨_,hF'⟩ _=>⟨[b],⟨⟨_,hown,h2.put hk v,?_,fun k' hk'=>?_,fun k' zd hk'=>?_⟩,rfl⟩,fun x hx=>by rw[hF'];exact .inl hx,by rw[hF'];exact l7.tC hgrow⟩⟩
 ·rw[Maps.size_put (h1.tidy K),arO h2 hk,h4 kl hk,h3]
 ·rw[BK hk v k' hk'];by_cases he:k'=kl
  ·subst he;rw[if_pos (uO hk'),Maps.has_put_same h1.isMap hk];rfl
  rw[if_neg (kW he),Maps.has_put_other he,h4 k' hk']
 rw[BK hk v k' hk'];by_cases he:k'=kl
 ·subst he;rw[if_pos (uO hk'),Maps.atKey_put_same h1.isMap hk]
 rw[if_neg (kW he),Maps.atKey_put_other he,h5 k' zd hk']
def vH (k:TypeId) (b r n:Nat) (L left:List (Lit×Value)):aV:=
 ⟨fun w F=>(∃(D:DataW Value) (lf:Lit->Bool) (cnt:Nat),w.ranges Tryz.prog k adO b r n D lf cnt/\mF L/\Maps.size D=L.length/\(∀kl,WideAt.IsKeyLit kl->Maps.has D kl=(getM L kl).isSome)/\(∀kl zd,WideAt.IsKeyLit kl->D.atKey kl zd=match getM L kl with|some v=>.held v|none=>zd)/\
   left.Sublist L/\(∀kl,WideAt.IsKeyLit kl->lf kl=(getM left kl).isSome))/\F=[b,r]/\b≠r,
  fun w w' F ⟨⟨D,lf,cnt,⟨es,clock,since,seen,c0,hb,F0,hs,hD,hr,r5⟩,h2⟩,hF,hne⟩ hk=>⟨⟨D,lf,cnt,⟨es,clock,since,seen,c0,by rw[hk b (by rw[hF];simp)];exact hb,F0,hs,hD,by rw[hk r (by rw[hF];simp)];exact hr,r5⟩,h2⟩,hF,hne⟩,
  fun w F ⟨⟨D,lf,cnt,h1,_⟩,hF,hne⟩=>by
   rw[hF];refine⟨by simp[hne],fun b' hb=>?_⟩;simp at hb;rcases hb with rfl|rfl
   ·exact h1.owns.lt
   exact h1.lt⟩
theorem Sep.agS (i:Nat) (h:Sep w0 w As) (hi:As[i]? =some (BL k b n L)) (K:Maps.Keyed Tryz.prog k) (ht:Tryz.prog.underlying t=some (.map k e)):
  ∃w',(Instr.range t (.map (some b))).run Tryz.prog w= .ok (pV w.heap.size) w'/\Sep w0 w' (As.set i (vH k b w.heap.size n L L))/\w'.heap.size=w.heap.size+1:=by
 obtain⟨F,⟨⟨D,h1,h2,h3,h4,h5⟩,hF⟩,hlt⟩:=h.get i hi;obtain⟨w',hrun,hrg,hgrow,hsz⟩:=h1.range K ht;have hbl:=(hlt b (by rw[hF];simp)).2;refine⟨w',hrun,h.step i hi fun F' ⟨_,hF'⟩ _=>⟨[b,w.heap.size],⟨⟨D,_,_,hrg,h2,h3,h4,h5,List.Sublist.refl _,fun kl hk=>h4 kl hk⟩,rfl,by omega⟩,fun x hx=>?_,?_⟩,hsz⟩
 ·rw[hF'];simp at hx;rcases hx with rfl|rfl
  ·left;simp
  right;omega
 have:=l7.tC hgrow;exact⟨this.os,this.tape,this.output,this.size,fun j hj _=>this.block j hj bK⟩
theorem Sep.KO {r:Nat} {left:List (Lit×Value)} (i:Nat) (h:Sep w0 w As) (hi:As[i]? =some (vH k b r n L left)) (K:Maps.Keyed Tryz.prog k) (ty:TypeId):
  (left=[]/\(Instr.next (pV r) false ty).run Tryz.prog w= .ok (.tuple #[.bool false]) w)\/
  ∃key v kl w',keyOf Tryz.prog k key=some kl/\(kl,v)∈left/\(Instr.next (.pointer (some ⟨r,0,none⟩)) false ty).run Tryz.prog w= .ok (.tuple #[.bool true,key,v]) w'/\
   Sep w0 w' (As.set i (vH k b r n L (mU left kl)))/\w'.heap.size=w.heap.size/\(Instr.entry (pV r)).run Tryz.prog w'= .ok (.tuple #[key,v]) w':=by
 obtain⟨F,⟨⟨D,lf,cnt,h1,h2,h3,h4,h5,h6,h7⟩,hF,hne⟩,hlt⟩:=h.get i hi
 rcases h1.next K ty with⟨_,hl,hrun⟩|⟨key,v,kl,y,w',cnt',hkey,hlk,hv,hat,hrun,hrg,_,hgrow,hsz,hen⟩
 ·left;refine⟨?_,hrun⟩;cases left with
  |nil=>rfl
  |cons p l=>have hkl:=h2.lit p (h6.subset bK);have:=h7 p.1 hkl;rw[hl,xI (h2.sub h6) (v:=p.2) bK]at this;cases this
 ·right;have hk:=K.key hkey;(have hv':y=(.held v,[]):=by simp[adO]at hv;exact hv.symm);have h8:=h7 kl hk;rw[hlk]at h8;obtain⟨u,hu⟩:=Option.isSome_iff_exists.1 h8.symm;have hm:=getM_some hu;have hg:=xI h2 (h6.subset hm);(have hu2:u=v:=by have:=hat (.held u);rw[h5 kl _ hk,hg,hv']at this;simpa using this);subst hu2;refine⟨key,u,kl,w',hkey,hm,hrun,h.step i hi fun F' ⟨_,hF',_⟩ _=>⟨[b,r],⟨⟨D,_,cnt',hrg,h2,h3,h4,h5,FO.trans h6,fun k' hk'=>?_⟩,rfl,hne⟩,fun x hx=>by rw[hF'];exact .inl hx,?_⟩,hsz,hen⟩
  ·rw[arM hk k' hk',h7 k' hk'];by_cases he:k'=kl
   ·subst he;rw[if_pos (uO hk),WideAt.sameKey_self hk];simp
   rw[if_neg (kW he)];have:k'.sameKey kl=false:=by
    cases hs:k'.sameKey kl with
    |false=>rfl
    |true=>exact absurd (WideAt.sameKey_eq hs) he
   rw[this];simp
  rw[hF'];have:=l7.tC hgrow;exact⟨this.os,this.tape,this.output,this.size,fun j hj hjn=>this.block j hj (by simp at hjn ⊢;exact hjn.2)⟩
theorem Sep.agT {r:Nat} {left:List (Lit×Value)} (i:Nat) (h:Sep w0 w As) (hi:As[i]? =some (vH k b r n L left)):Sep w0 w (As.set i (BL k b n L)):=by refine h.step i hi fun F ⟨⟨D,lf,cnt,h1,h2,h3,h4,h5,_⟩,hF,_⟩ _=>⟨[b],⟨⟨D,h1.owns,h2,h3,h4,h5⟩,rfl⟩,fun x hx=>by rw[hF];left;simp at hx ⊢;exact .inl hx,l7.refl _ _⟩
def l8 (k:TypeId) (b:Nat) (L:List (Lit×Value)):aV:=BL k b L.length L
theorem Sep.arP (i:Nat) (h:Sep w0 w As) (hi:As[i]? =some (BL k b n L)):Sep w0 w (As.set i (l8 k b L)):=by
 refine h.step i hi fun F ⟨⟨D,h1,h2,h3,h4,h5⟩,hF⟩ _=>⟨[b],⟨⟨D,?_,h2,h3,h4,h5⟩,rfl⟩,fun x hx=>by rw[hF];exact .inl hx,l7.refl _ _⟩
 obtain⟨es,clock,hb,F0,hs,hD⟩:=h1;refine⟨es,clock,hb,F0,?_,hD⟩;rw[<-h3,hD];simp[Maps.size,length_sorted]
theorem Sep.JK (h:Sep w0 w As) (k:TypeId):Sep w0 (w.alloc (.map #[] 0)) (l8 k w.heap.size []::As):=h.ac2 k
theorem Sep.sD (i:Nat) (h:Sep w0 w As) (hi:As[i]? =some (l8 k b L)):mF L:=h.amF i hi
theorem Sep.XH (i:Nat) (h:Sep w0 w As) (hi:As[i]? =some (l8 k b L)) (K:Maps.Keyed Tryz.prog k) (ht:Tryz.prog.underlying t=some (.map k e)) {z:Value} (hz:(zeroValue e).run Tryz.prog w= .ok z w) {key:Value} {kl:Lit} (hkey:keyOf Tryz.prog k key=some kl):
 (Instr.lookup t (.map (some b)) key false).run Tryz.prog w= .ok ((getM L kl).getD z) w:=h.qL i hi K ht hz hkey
theorem Sep.acV (i:Nat) (h:Sep w0 w As) (hi:As[i]? =some (l8 k b L)) (K:Maps.Keyed Tryz.prog k) (ht:Tryz.prog.underlying t=some (.map k e)) {z:Value} (hz:(zeroValue e).run Tryz.prog w= .ok z w) {key:Value} {kl:Lit} (hkey:keyOf Tryz.prog k key=some kl):
 (Instr.lookup t (.map (some b)) key true).run Tryz.prog w= .ok (.tuple #[(getM L kl).getD z,.bool (getM L kl).isSome]) w:=h.au4 i hi K ht hz hkey
theorem Sep.l5 (i:Nat) (h:Sep w0 w As) (hi:As[i]? =some (l8 k b L)) (K:Maps.Keyed Tryz.prog k) (ht:Tryz.prog.underlying t=some (.map k e)) (hn:L.length<maxLen) {key v:Value} {kl:Lit} (hkey:keyOf Tryz.prog k key=some kl):
  ∃w',(Instr.mapUpdate t (.map (some b)) key v).run Tryz.prog w= .ok () w'/\Sep w0 w' (As.set i (l8 k b (p8 L kl v))):=by
 obtain⟨w',h1,h2⟩:=h.pW i hi K ht hn (v:=v) hkey;have hlt:=(gF.1 hi).1;have h3:=h2.arP i (by rw[MU hlt]);rw[TQ]at h3;exact⟨w',h1,h3⟩
theorem Sep.NY (i:Nat) (h:Sep w0 w As) (hi:As[i]? =some (l8 k b L)) (K:Maps.Keyed Tryz.prog k) (ht:Tryz.prog.underlying t=some (.map k e)):
 ∃w',(Instr.range t (.map (some b))).run Tryz.prog w= .ok (pV w.heap.size) w'/\Sep w0 w' (As.set i (vH k b w.heap.size L.length L L))/\w'.heap.size=w.heap.size+1:=h.agS i hi K ht
theorem Sep.anQ {r:Nat} {left:List (Lit×Value)} (i:Nat) (h:Sep w0 w As) (hi:As[i]? =some (vH k b r L.length L left)):Sep w0 w (As.set i (l8 k b L)):=h.agT i hi
end
end Go.Proofs.YtmjomdkleikgbaaGreat
namespace Go.Proofs.YtmjomdkleikgbaaGreat
open Go.RowKit Go.ChangeMaps Go.WideElems
theorem findIdx_push {p:MapEntry->Bool} {es:Array MapEntry} {e:MapEntry} (h:∀x∈es.toList,p x=false) (he:p e=true):(es.push e).findIdx? p=some es.size:=by
 have h0:es.findIdx? p=none:=by rw[Array.findIdx?_eq_none_iff];intro x hx;exact h x (by simpa using hx)
 rw[Array.findIdx?_push,h0];simp[he]
theorem au5 {α:Type} (f:α->α) (a:α) (l:List α):(l++[a]).modify l.length f=l++[f a]:=by
 induction l with
 |nil=>rfl
 |cons b r ih=>rw[kN,kM,List.modify_succ_cons,ih];rfl
theorem Sep.arQ {w0 w:World} {As:List aV} {k e t:TypeId} {b:Nat} {L:List (Lit×Value)} (i:Nat) (h:Sep w0 w As) (hi:As[i]? =some (l8 k b L)) (K:Maps.Keyed Tryz.prog k) (ht:Tryz.prog.underlying t=some (.map k e)) {z:Value} (hz:∀w,(zeroValue e).run Tryz.prog w= .ok z w) (hn:L.length<maxLen) {key val:Value} {kl:Lit} (hkey:keyOf Tryz.prog k key=some kl) (hno:getM L kl=none):
  ∃st w1 w2,(Instr.mapEntry t (.map (some b)) key).run Tryz.prog w= .ok (.tuple #[z,iV st]) w1/\(Instr.entryStore t (.map (some b)) (.int .i64 st) val).run Tryz.prog w1= .ok () w2/\Sep w0 w2 (As.set i (l8 k b (p8 L kl val)))/\w2.heap.size=w.heap.size:=by
 obtain⟨w',hrun,hS⟩:=h.l5 i hi K ht hn (v:=val) hkey;obtain⟨F,⟨⟨D,⟨es,clock,hb,hfit,hsz,hD⟩,h2,h3,h4,h5⟩,_⟩,_⟩:=h.get i hi;have hkl:=K.key hkey;have aOH:Maps.has D kl=false:=by rw[h4 kl hkl,hno];rfl
 rcases K.find w hkey es.toList (fun e he=>by obtain⟨y,hy⟩:=hfit.reads e he;exact⟨_,rd_key hy⟩)with⟨f1,f2⟩|⟨j,e0,f1,f2,f3⟩
 ·have hst:=hfit.stamped.1;have hidx:(es.push ⟨key,z,clock⟩).findIdx? (fun e=>((e.born:Nat):Int)==((clock:Nat):Int))=some es.size:=
   findIdx_push (fun x hx=>by have:=hst x hx;exact kD.2 aI) bK
  (have hmod:(es.push ⟨key,z,clock⟩).modify es.size (fun e=> {e with val:=val})=es.push ⟨key,val,clock⟩:=by apply Array.ext';rw[Array.toList_modify,Array.toList_push,Array.toList_push,<-Array.length_toList,au5]);have hw2:(setBlock w b (.map (es.push ⟨key,z,clock⟩) (clock+1))).heap[b]? =some (.map (es.push ⟨key,z,clock⟩) (clock+1)):=heap_setBlock_same hb _;(have hup:(Instr.mapUpdate t (.map (some b)) key val).run Tryz.prog w= .ok () (setBlock w b (.map (es.push ⟨key,val,clock⟩) (clock+1))):=by simp[Instr.mapUpdate,run_underlying ht,MapKept.run_getObj_map hb,K.check w false hkey,f1,MapKept.run_setObj_map _ hb,Result.andThen,setBlock]);rw[hup]at hrun;injection hrun with _ hw;refine⟨clock,setBlock w b (.map (es.push ⟨key,z,clock⟩) (clock+1)),w',?_,?_,hS,?_⟩
  ·simp[Instr.mapEntry,run_underlying ht,MapKept.run_getObj_map hb,K.check w false hkey,f1,hz,MapKept.run_setObj_map _ hb,Result.andThen,setBlock,goInt]
  ·rw[<-hw];(have hfin:setBlock (setBlock w b (.map (es.push ⟨key,z,clock⟩) (clock+1))) b (.map (es.push ⟨key,val,clock⟩) (clock+1))=setBlock w b (.map (es.push ⟨key,val,clock⟩) (clock+1)):=by simp[setBlock]);rw[<-hfin];generalize setBlock w b (.map (es.push ⟨key,z,clock⟩) (clock+1))=W1 at hw2;simp[Instr.entryStore,MapKept.run_getObj_map hw2,asInt,asIntOf,goInt,hidx,hmod,MapKept.run_setObj_map _ hw2,Result.andThen,setBlock]
  rw[<-hw];simp[setBlock]
 exfalso;have hlk:=h.acV i hi K ht (hz w) hkey;rw[hno]at hlk;have hck:=fun em=>K.check w em hkey
 simp[Instr.lookup,run_underlying ht,MapKept.run_getObj_map hb,hck,f1,Result.andThen]at hlk
end Go.Proofs.YtmjomdkleikgbaaGreat
