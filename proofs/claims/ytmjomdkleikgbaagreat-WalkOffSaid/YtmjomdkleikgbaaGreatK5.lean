/- Parts. -/
import Derived.Test.YtmjomdkleikgbaaGreatK4
import Derived.Maps.OwnSet
import Derived.Maps.Range
import Derived.Maps.RangeWalk
set_option linter.unusedVariables false
set_option linter.unusedSimpArgs false
set_option maxRecDepth 100000
set_option maxHeartbeats 20000000
namespace Go.Proofs.YtmjomdkleikgbaaGreat
open Go.RowKit
def YV (L:List Nat) (x:Int):Int:=if x∈L.map (fun(a:Nat)=>(a:Int))then 1 else 0
theorem ao3 (L:List Nat) (a:Nat):(fun x=>if x=(a:Int)then 1 else YV L x)=YV (L++[a]):=by
 funext x;unfold YV;by_cases e:x=(a:Int)
 ·rw[if_pos e,if_pos];rw[mZ,iM];exact .inr (by simp[e])
 rw[if_neg e];by_cases h:x∈L.map (fun(a:Nat)=>(a:Int))
 ·rw[if_pos h,if_pos];rw[mZ,iM];exact .inl h
 rw[if_neg h,if_neg];rw[mZ,iM];rintro(h'|h')
 ·exact h h'
 simp at h';exact e h'
theorem auY {L:List Nat} {a:Nat} (h:a∉L):YV L (a:Int)=0:=by
 unfold YV;rw[if_neg];intro hm;obtain⟨b,hb,e⟩:=List.mem_map.1 hm;have:b=a:=by omega
 exact h (this▸hb)
theorem auZ {a:Nat} (h:a<=4096):(Lit.int .i64 (a:Int)).wf=true:=by simp[Lit.wf,IntKind.min,IntKind.max,IntKind.signed,IntKind.bits];omega
def GN (ps:List (Nat×List UInt8)):List Int:=ps.map fun y=>(y.1:Int)
theorem ayJ (ps:List (Nat×List UInt8)):GN ps=(ps.map (·.1)).map (fun(p:Nat)=>(p:Int)):=by unfold GN;rw[qO];rfl
theorem au0 (ps:List (Nat×List UInt8)):(GN ps).length=ps.length:=iJ ..
def amF (b:Bool):Int:=if b=true then 0 else 11
theorem lN {w0 w:World} {R:List aW} {q be:Nat} {p:Nat} {tmps:Array Value} {Post:Ending->World->Prop} (ht:tmps.getD 4 undef=pV be) (h:Sep w0 w (aG q p false::aJ be 0::R))
  (hp:∀w',Sep w0 w' (aG q p true::R)->Post (.returned (iV 11)) w'):
  bodyPostD Tryz.prog Tryz.f167 Post (Exit.panic [{v:=yJ 11,recovered:=false}]) {tmps:=tmps,defers:=[{target:=.fn (.func 151) #[],args:=#[pV q,pV be]}]} w:=by
 refine C8 h fun w' hS=>?_
 have ec:=hS.bC 1 rfl 0;simp only[gA,gB]at ec;refine⟨.int .i64 11,?_,hp w' (Sep.drop 1 (Sep.dB [1,0] hS aR bK))⟩;have hr:Tryz.f167.results=#[.cell 4 40]:=by kernel_rfl
 have ht':tmps[4]?.getD undef=pV be:=by simpa using ht
 simp[results,hr,go_sem,ht',ec]
theorem DK.ayK (D:DK) (i:Nat) (b:List UInt8):(D.wr i b).back.length=D.back.length+1:=by unfold DK.wr;rw[DK.EB];simp
theorem DK.akF (D:DK):D.fl.back=[]:=by unfold DK.fl;rw[DK.EB]
structure FJ (nb:Nat) (D E:DK) (xs:List tO) (m:Nat):Prop where
 run:kT xs D=(E,true)
 ok:E.ok nb
 back:E.back.length<=m
theorem FJ.wr {nb m i:Nat} {D E:DK} {xs:List tO} {b:List UInt8} (h:FJ nb D E xs m) (ho:E.off=false) (hi:i<nb) (hb:b.length=512):FJ nb D (E.wr i b) (xs++[some (i,b)]) (m+1):=
 ⟨YM h.run ho,DK.akN h.ok hi hb,by rw[DK.ayK];have:=h.back;omega⟩
theorem FJ.fl {nb m:Nat} {D E:DK} {xs:List tO} (h:FJ nb D E xs m) (ho:E.off=false):FJ nb D E.fl (xs++[none]) 0:=
 ⟨YM h.run ho,DK.azF h.ok,by rw[DK.akF];exact iC _⟩
theorem agZ {w0 w:World} {R:List aW} {q p nb g n c:Nat} {D:DK} {ps:List (Nat×List UInt8)} {us:List Value} (hD:D.ok nb) (NU:96<nb) (hps:aqH nb ps) (hin:aqG w0 R g n ps us) (hnc:n<=c) (hcm:c<=maxLen) (hback:D.back.length<=60000) (h:Sep w0 w (aG q p false::aO p D::R)):
  Calls Tryz.prog 167 #[pV q,sV g n c] w fun e w'=>
   e= .returned (iV (amF (kT (bY ps) D).2))/\Sep w0 w' (aG q p (!(kT (bY ps) D).2)::aO p (kT (bY ps) D).1::R):=by
 obtain⟨be,hbe⟩:∃be,w.heap.size=be:=⟨_,rfl⟩
 have h1:Sep w0 ((w.alloc (.cells #[iV 0] 40)).alloc (.map #[] 0)) (YL (be+1) 0 (fun _=>0)::aG q p false::aO p D::aJ be 0::R):=by have h2:Sep w0 (w.alloc (.cells #[iV 0] 40)) (aG q p false::aO p D::aJ w.heap.size 0::R):=Sep.dB [1,2,0] (h.bN 40 #[iV 0]) aR bK;have h3:=h2.auJ;rw[<-hbe];simpa using h3
 have h1':=Lh h1
 have hmm:= @run_makeMap Tryz.prog
 have hn1:(1:Int)<=n:=by have:=hps.some;have:=hin.len;omega
 have hn2:(n:Int)<=40:=by have:=hps.few;have:=hin.len;omega
 have agC:=Lh hps
 have hin':=Lh hin
 have hD':=Lh hD
 have agY:=Lh hback
 clear h1 hback hcm
 go_enter_defers Tryz.func167,Tryz.ntmps167
 go_wp2_with fail
 simp only[hbe]at*
 have aGZ:∀k (hk:k<n),96+(ps[k]'(by rw[hin'.out.len];exact hk)).1<nb/\(ps[k]'(by rw[hin'.out.len];exact hk)).2.length=512:=fun k hk=>agC.out.put _ (nW _)
 have alP:=Lh aGZ
 have hlp:=hin'.out.len
 have ajI:=Lh hlp
 have hnb:=hD'.out.few
 have hnb':=Lh hnb
 clear aGZ hlp hnb hps hin h hmm hD
 go_loopw[27] (fun i wr=>∃k:Nat,k<=n/\i=iV k/\Hid (Sep w0 wr (YL (be+1) k (YV ((ps.take k).map (·.1)))::aG q p false::aO p D::aJ be 0::R))) (fun i _=>n-(intOf i).toNat)
 case atStart=>exact⟨0,fZ _,rfl,h1'⟩
 case round=>
  obtain⟨k,hk,rfl,hS⟩:=hrel;by_cases hlt:k<n
  ·(have hkl:k<ps.length:=by rw[ajI.out];exact hlt);obtain⟨c0,c1⟩:=hin'.out.cell wr [_,_,_,_] hS.out k hlt;obtain⟨GQ,DD⟩:=alP.out k hlt;obtain⟨Au,cu,hu⟩:=hin'.out.form _ (nW (show k<us.length by rw[hin'.out.axZ];exact hlt));rw[hu]at c1;obtain⟨a,ha⟩:∃a,ps[k].1=a:=⟨_,rfl⟩;rw[ha]at c0 GQ;(have ha2:a<=4096:=by have:=hnb'.out;omega);have hwf:=auZ ha2;have I7:=hS.out.alloc (.cells #[iV (a:Nat),.slice Au 512 cu] 208);(have hno:a∉(ps.take k).map (·.1):=by have hnd:=agC.out.ne;intro hm;obtain⟨x,hx,e⟩:=List.mem_map.1 hm;obtain⟨j,hj,e2⟩:=OQ hx;rw[qP]at hj;rw[List.getElem_take]at e2;(have hjk:j<k:=by omega);have:=(abW.1 hnd);rw[EX]at this;have h3:=this j k (by rw[iJ];omega) (by rw[iJ];omega) hjk;rw[G5,G5,e2,e,ha]at h3;exact h3 rfl);have aG0:=I7.aoP 0 rfl (a:Int) hwf;rw[auY hno]at aG0;obtain⟨w1,hput,hS1⟩:=I7.auK 0 rfl vX (a:Int) 1 hwf aR;rw[ao3]at hS1;(have e9:(ps.take k).map (·.1)++[a]=(ps.take (k+1)).map (·.1):=by rw[pI,gE hkl,mZ,<-ha];rfl);rw[e9]at hS1;have aL3:=Lh hS1;(have q1:(k:Int)<n:=by omega);(have q0:(0:Int)<=k:=by omega);clear I7 hno GQ DD hwf e9 hS1 h1';go_wp2_with fail;refine⟨⟨k+1,by omega,rfl,aL3⟩,by simp[intOf];omega⟩
  (obtain rfl:n=k:=by omega);have hS2:Hid (Sep w0 wr (aS (.slice none 0 0) []::aG q p false::aO p D::aJ be 0::R)):=Lh (alY (Sep.drop 1 hS.out));clear hS h1' hk hlt;go_wp2_with fail;go_loopw[8,50] (fun x i wr=>∃(k:Nat),k<=n/\i=iV k/\Hid (Sep w0 wr (aS x (GN (ps.take k))::aG q p false::aO p D::aJ be 0::R))) (fun _ i _=>n-(intOf i).toNat)
  case atStart=>exact⟨0,fZ _,rfl,hS2⟩
  obtain⟨k,hk,rfl,hS⟩:=hrel;by_cases hlt:k<n
  ·(have hkl:k<ps.length:=by rw[ajI.out];exact hlt);obtain⟨c0,c1⟩:=hin'.out.cell wr [_,_,_,_] hS.out k hlt;obtain⟨GQ,DD⟩:=alP.out k hlt;obtain⟨Au,cu,hu⟩:=hin'.out.form _ (nW (show k<us.length by rw[hin'.out.axZ];exact hlt));rw[hu]at c1;obtain⟨a,ha⟩:∃a,ps[k].1=a:=⟨_,rfl⟩;rw[ha]at c0 GQ;have I7:=hS.out.alloc (.cells #[iV (a:Nat),.slice Au 512 cu] 208);(have q1:(k:Int)<n:=by omega);(have q0:(0:Int)<=k:=by omega);have hbl:=CZ hD'.out aD (Sep.drop 1 (Sep.dB [0,1,2] I7.drew aR bK));obtain⟨N,hN⟩:∃N,N=nb-96:=⟨_,rfl⟩;rw[<-hN]at hbl;have hd0:decide ((a:Int)<0)=false:=decide_eq_false aD;have hd1:decide ((N:Int)<=(a:Int))=false:=decide_eq_false aD;(have hd2:¬N<=a:=by omega);have aB5:=Lh I7;have ec:(wr.alloc (.cells #[iV (a:Nat),.slice Au 512 cu] 208)).drew.cell? ⟨wr.heap.size,0,none⟩=some (iV (a:Nat)):=cell_of_row _ _ 0 _ _ _ (heap_alloc_new wr _);have hfl:(Tryz.prog.info? 3).map (fun i=>(i.zero,i.size,i.bytes))=some (some (iV 0),1,8):=TV;obtain⟨k0,pR,hk0,hk1,hk2⟩:=iR hfl;clear I7 GQ DD hS2 hN hfl;go_wp2_with fail;refine lT ?_;refine aP (S:=fun w'=>w'.cell? ⟨wr.heap.size,0,none⟩=some (iV (a:Nat))) 10 ?_;refine bA 0 (fun _=>ec) ?_;refine bA 1 (fun _=>ec) ?_;refine bA 2 (fun _=>ec) ?_;refine bA 3 (fun _=>ec) ?_;refine aA 4 ec ?_;refine aA 5 ec ?_;refine aA 6 ec ?_;(refine bI 7 fun K hK=>?_);go_simp;go_at_call 154;refine hbl.mono ?_;rintro e w9 ⟨rfl,h9⟩;obtain rfl:=h9.symm;refine hK _ _ (fun _=>ec) ?_;clear hK K;(try simp only[Act.put,gD]);refine bA 8 (fun _=>ec) ?_;refine bA 9 (fun _=>ec) ?_;refine aQ fE ?_ _;simp only[pX];clear hbl;have hSB:Hid (Sep w0 ((wr.alloc (.cells #[iV (a:Nat),.slice Au 512 cu] 208)).alloc (.cells #[iV (a:Nat)] 3)).drew (aS u8 (GN (ps.take k))::aG q p false::aO p D::aJ be 0::R)):=Lh (aB5.out.alloc (.cells #[iV (a:Nat)] 3)).drew;have hrd:Hid (Rd ((wr.alloc (.cells #[iV (a:Nat),.slice Au 512 cu] 208)).alloc (.cells #[iV (a:Nat)] 3)).drew 1 (sV (wr.heap.size+1) 1 1) 1 [.int .i64 (a:Nat)]):=Lh ⟨rfl,_,_,rfl,iC _,by unfold maxLen;omega,fun _=>⟨_,rfl,by simp,jP (wr.alloc (.cells #[iV (a:Nat),.slice Au 512 cu] 208)) #[iV (a:Nat)] 3 _ bK⟩⟩;(have hl8:(GN (ps.take k)).length=k:=by rw[au0,qP];omega);rw[show(aS u8 (GN (ps.take k)))= .sl 3 1 u8 k ((GN (ps.take k)).map (.int .i64))by unfold aS;rw[hl8]]at hSB;go_wp2_with(at_builtin;refine dI 0 rfl _ _ 127 rfl 3 k0 (.int .i64 0) 1 8 Tryz.underlying127 pR hk0 hk1 hk2 rfl aR hSB.out u8 k _ rfl rfl (sV (wr.heap.size+1) 1 1) 1 [.int .i64 (a:Nat)] rfl hrd.out oCl vX aD ?_;intro v3 w3 dQ hz3);refine⟨⟨k+1,by omega,rfl,Lh ?_⟩,by simp[intOf];omega⟩;(have e9:GN (ps.take (k+1))=GN (ps.take k)++[(a:Int)]:=by unfold GN;rw[pI,gE hkl,mZ,<-ha];rfl);rw[e9];unfold aS;rw[jM,hl8,mZ];exact dQ
  (obtain rfl:n=k:=by omega);have dQ:=hS;rw[pM (by rw[ajI.out];exact iC _)]at dQ;have haw:=GJ (Sep.drop 1 dQ.out);simp only[J4,if_false]at haw;clear hS hS2;go_wp2_with(go_at_call 168;refine haw.mono ?_;rintro e w9 ⟨rfl,h9⟩;obtain rfl:=h9.symm);(have hfin:Hid (∀(E:DK) (X:List aW) (xs ys:List tO) (x:tO) W,bY ps=xs++x::ys->kT xs D=(E,true)->E.off=true->Sep w0 W (aG q p true::aO p E::(X++R))->(Ending.returned (iV 11)= .returned (iV (amF (kT (bY ps) D).2))/\Sep w0 W (aG q p (!(kT (bY ps) D).2)::aO p (kT (bY ps) D).1::R))):=Lh fun E X xs ys x W hc hr ho hS=>by rw[hc,aoQ hr ho];refine⟨rfl,?_⟩;(have h1:Sep w0 W ((aG q p true::aO p E::X)++R):=by simpa using hS);have h2:Sep w0 W (X++(aG q p true::aO p E::R)):=h1.perm (by have:=(O3 (l₁:=[aG q p true,aO p E]) (l₂:=X)).append_right R;simpa using this);exact h2.snd);have jT:Hid (∃E,FJ nb D E [] (D.back.length+0)/\Sep w0 wr (aG q p false::aO p E::aJ be 0::aS u8 (GN ps)::R)):=Lh ⟨D,⟨rfl,hD'.out,iC _⟩,Sep.dB [1,2,3,0] dQ.out aR bK⟩;clear dQ haw;go_loopw[74] (fun i wr=>∃k:Nat,k<=n/\i=iV k/\Hid (∃E,FJ nb D E ((kL ps).take k) (D.back.length+k)/\Sep w0 wr (aG q p false::aO p E::aJ be 0::aS u8 (GN ps)::R))) (fun i _=>n-(intOf i).toNat)
  case atStart=>exact⟨0,fZ _,rfl,jT⟩
  obtain⟨k,hk,rfl,hS⟩:=hrel;by_cases hlt:k<n
  ·(have hkl:k<ps.length:=by rw[ajI.out];exact hlt);obtain⟨E,hE,hS5⟩:=hS.out;obtain⟨c0,c1⟩:=hin'.out.cell wr [_,_,_,_] hS5 k hlt;obtain⟨GQ,DD⟩:=alP.out k hlt;have hdat:=hin'.out.data k hlt;obtain⟨Au,cu,hu⟩:=hin'.out.form _ (nW (show k<us.length by rw[hin'.out.axZ];exact hlt));rw[hu]at c1 hdat;obtain⟨a,ha⟩:∃a,ps[k].1=a:=⟨_,rfl⟩;obtain⟨bs,hbs⟩:∃bs,ps[k].2=bs:=⟨_,rfl⟩;rw[ha]at c0;rw[hbs]at hdat DD;have I7:=hS5.alloc (.cells #[iV (a:Nat),.slice Au 512 cu] 208);have hpre:bY ps=(kL ps).take k++some (1+k,bs)::((kL ps).drop (k+1)++(none::some (0,fT (ps.map (·.1)))::none::(gQ ps++[none,some (0,fT []),none]))):=by
    have h1:=JW hkl;rw[hbs]at h1;unfold bY
    conv=>lhs;rw[<-EJ (k+1) (kL ps),h1]
    simp
   (have h1k:1+k<nb:=by have:=agC.out.few;omega);(have hfw:E.back.length<65536:=by have:=hE.back;have:=agY.out;have:=agC.out.few;omega);have hpre':=Lh hpre;have aB5:=Lh I7;have hE':=Lh hE;(have hcast:(1:Int)+(k:Int)=((1+k:Nat):Int):=by omega);(have q1:(k:Int)<n:=by omega);(have q0:(0:Int)<=k:=by omega);cases hoff:E.off with
   |true=>have hw:=zG (i:=1+k) hE.ok h1k DD hfw (hdat.cons.cons) hoff I7;rw[<-hcast]at hw;clear I7 hpre hS hS5 hfw hE hcast jT GQ DD;go_wp2_with(go_at_call 161;refine hw.mono ?_;rintro e w9 ⟨rfl,h9⟩);(refine lN (be:=be) rfl (Sep.dB [0,2,1] h9 aR bK) fun w' hw'=>?_);exact hfin.out E [aS u8 (GN ps)] _ _ _ w' hpre'.out hE'.out.run hoff hw'
   |false=>have hw:=uJ (i:=1+k) hE.ok h1k DD hfw (hdat.cons.cons) hoff I7;rw[<-hcast]at hw;have hE2:=Lh (hE.wr hoff h1k DD);clear I7 hpre hS hS5 hfw hE hcast jT GQ DD;go_wp2_with(go_at_call 161;refine hw.mono ?_;rintro e w9 ⟨rfl,h9⟩);refine⟨⟨k+1,by omega,rfl,Lh ⟨_,?_,h9⟩⟩,by simp[intOf];omega⟩;rw[JW hkl,hbs];exact hE2.out
  (obtain rfl:n=k:=by omega);obtain⟨E,hE,hS5⟩:=hS.out;rw[pM (by unfold kL;rw[iJ,ajY,ajI.out];exact iC _)]at hE;clear hS jT hlt hk;have hE':=Lh hE;have hok:=hE.ok;(have ao4:0<nb:=by omega);cases hoff:E.off with
  |true=>have hf:=zH hok hoff hS5;clear hS5 hE hok;go_wp2_with(go_at_call 155;refine hf.mono ?_;rintro e w9 ⟨rfl,h9⟩);(refine lN (p:=p) (be:=be) rfl (Sep.dB [0,2,1] h9 aR bK) fun w' hw'=>?_);exact hfin.out E [aS u8 (GN ps)] _ _ none w' rfl hE'.out.run hoff hw'
  |false=>
  have hf:=rM hok hoff hS5;have hE2:=Lh (hE.fl hoff);clear hS5 hE hok;go_wp2_with(go_at_call 155;refine hf.mono ?_;rintro e w9 ⟨rfl,h9⟩);clear hf hE';have hints:=h9.ints 3 rfl;rw[ayJ]at hints;have hhd:=RP hints (by rw[iJ];have:=agC.out.few;omega) (by intro y hy;obtain⟨x,hx,rfl⟩:=List.mem_map.1 hy;have:=agC.out.put x hx;have:=hnb'.out;omega);clear hints;go_wp2_with(go_at_call 162;refine hhd.mono ?_;rintro e w10 ⟨u,rfl,hSu⟩);have kM:Sep w0 w10 (aG q p false::aO p E.fl::aJ be 0::aI u (fT (ps.map (·.1)))::R):=Sep.drop 1 (Sep.dB [4,1,2,3,0] (h9.join hSu) aR bK);have hlh:(fT (ps.map (·.1))).length=512:=oQ (by rw[iJ];have:=agC.out.few;omega);clear hhd hSu h9;obtain⟨E2,aG2⟩:∃E2,E.fl=E2:=⟨_,rfl⟩;rw[aG2]at hE2 kM;have hok2:=hE2.out.ok;(have hfw2:E2.back.length<65536:=by have:=hE2.out.back;omega);cases RN:E2.off with
  |true=>have hf:=zG (i:=0) hok2 ao4 hlh hfw2 (jI.part 1 rfl) RN kM;clear kM hok2 hfw2 hlh;go_wp2_with(go_at_call 161;refine hf.mono ?_;rintro e w11 ⟨rfl,h11⟩);(refine lN (p:=p) (be:=be) rfl (Sep.dB [0,2,1] h11 aR bK) fun w' hw'=>?_);exact hfin.out E2 [aI u (fT (ps.map (·.1)))] (kL ps++[none]) (none::(gQ ps++[none,some (0,fT []),none])) (some (0,fT (ps.map (·.1)))) w' (by simp[bY]) hE2.out.run RN hw'
  |false=>
  have hf:=uJ (i:=0) hok2 ao4 hlh hfw2 (jI.part 1 rfl) RN kM;have E9:=Lh (hE2.out.wr RN ao4 hlh);clear kM hok2 hfw2 hlh;go_wp2_with(go_at_call 161;refine hf.mono ?_;rintro e w11 ⟨rfl,h11⟩);clear hf hE2;have nI:Sep w0 w11 (aG q p false::aO p (E2.wr 0 (fT (ps.map (·.1))))::aJ be 0::R):=Sep.drop 1 (Sep.dB [3,0,1,2] h11 aR bK);obtain⟨E3,aG3⟩:∃E3,E2.wr 0 (fT (ps.map (·.1)))=E3:=⟨_,rfl⟩;rw[aG3]at E9 nI;clear h11 aG3 aG2;have ayL:=E9.out.ok;cases alQ:E3.off with
  |true=>have hf:=zH ayL alQ nI;clear nI ayL;go_wp2_with(go_at_call 155;refine hf.mono ?_;rintro e w12 ⟨rfl,h12⟩);(refine lN (p:=p) (be:=be) rfl (Sep.dB [0,2,1] h12 aR bK) fun w' hw'=>?_);exact hfin.out E3 [] (kL ps++[none]++[some (0,fT (ps.map (·.1)))]) (gQ ps++[none,some (0,fT []),none]) none w' (by simp[bY]) E9.out.run alQ hw'
  |false=>
  have hf:=rM ayL alQ nI;have IC:=Lh (E9.out.fl alQ);clear nI ayL;go_wp2_with(go_at_call 155;refine hf.mono ?_;rintro e w12 ⟨rfl,h12⟩);clear hf E9;have vY:Hid (∃E,FJ nb D E (kL ps++[none]++[some (0,fT (ps.map (·.1)))]++[none]) (0+0)/\Sep w0 w12 (aG q p false::aO p E::aJ be 0::R)):=Lh ⟨_,IC.out,h12⟩;obtain⟨XS,hXS⟩:∃XS,XS=kL ps++[none]++[some (0,fT (ps.map (·.1)))]++[none]:=⟨_,rfl⟩;rw[<-hXS]at vY;have au1:=Lh hXS;clear h12 IC hXS;go_loopw[96] (fun i wr=>∃k:Nat,k<=n/\i=iV k/\Hid (∃E,FJ nb D E (XS++(gQ ps).take k) (0+k)/\Sep w0 wr (aG q p false::aO p E::aJ be 0::R))) (fun i _=>n-(intOf i).toNat)
  case atStart=>exact⟨0,fZ _,rfl,by rw[OO,yX46];exact vY⟩
  obtain⟨k,hk,rfl,hS⟩:=hrel;by_cases hlt:k<n
  ·(have hkl:k<ps.length:=by rw[ajI.out];exact hlt);obtain⟨E4,IC,hS5⟩:=hS.out;obtain⟨c0,c1⟩:=hin'.out.cell wr [_,_,_] hS5 k hlt;obtain⟨GQ,DD⟩:=alP.out k hlt;have hdat:=hin'.out.data k hlt;obtain⟨Au,cu,hu⟩:=hin'.out.form _ (nW (show k<us.length by rw[hin'.out.axZ];exact hlt));rw[hu]at c1 hdat;obtain⟨a,ha⟩:∃a,ps[k].1=a:=⟨_,rfl⟩;obtain⟨bs,hbs⟩:∃bs,ps[k].2=bs:=⟨_,rfl⟩;rw[ha]at c0 GQ;rw[hbs]at hdat DD;have I7:=hS5.alloc (.cells #[iV (a:Nat),.slice Au 512 cu] 208);have hpre:bY ps=(XS++(gQ ps).take k)++some (96+a,bs)::((gQ ps).drop (k+1)++[none,some (0,fT []),none]):=by
    have h1:=JX hkl;rw[hbs,ha]at h1;have h2:gQ ps=(gQ ps).take k++some (96+a,bs)::(gQ ps).drop (k+1):=by
     conv=>lhs;rw[<-EJ (k+1) (gQ ps),h1]
     simp
    unfold bY
    conv=>lhs;rw[h2]
    rw[au1.out];simp
   (have hfw:E4.back.length<65536:=by have:=IC.back;have:=agC.out.few;omega);have hpre':=Lh hpre;have aB5:=Lh I7;have hE':=Lh IC;(have hcast:(96:Int)+(a:Int)=((96+a:Nat):Int):=by omega);(have q1:(k:Int)<n:=by omega);(have q0:(0:Int)<=k:=by omega);(have q2:(a:Int)<=4096:=by have:=hnb'.out;omega);cases JZ:E4.off with
   |true=>have hw:=zG (i:=96+a) IC.ok GQ DD hfw (hdat.cons) JZ I7;rw[<-hcast]at hw;clear I7 hpre hS hS5 hfw IC hcast vY GQ DD;go_wp2_with(go_at_call 161;refine hw.mono ?_;rintro e w9 ⟨rfl,h9⟩);(refine lN (p:=p) (be:=be) rfl (Sep.dB [0,2,1] h9 aR bK) fun w' hw'=>?_);exact hfin.out E4 [] _ _ _ w' hpre'.out hE'.out.run JZ hw'
   |false=>have hw:=uJ (i:=96+a) IC.ok GQ DD hfw (hdat.cons) JZ I7;rw[<-hcast]at hw;have hE2:=Lh (IC.wr JZ GQ DD);clear I7 hpre hS hS5 hfw IC hcast vY GQ DD;go_wp2_with(go_at_call 161;refine hw.mono ?_;rintro e w9 ⟨rfl,h9⟩);refine⟨⟨k+1,by omega,rfl,Lh ⟨_,?_,h9⟩⟩,by simp[intOf];omega⟩;rw[JX hkl,hbs,ha,<-pG];exact hE2.out
  (obtain rfl:n=k:=by omega);obtain⟨E4,IC,hS5⟩:=hS.out;rw[pM (by unfold gQ;rw[iJ,ajI.out];exact iC _)]at IC;have aG4:=Lh IC;clear hS vY hlt hk;have ayM:=IC.ok;cases JZ:E4.off with
  |true=>have hf:=zH ayM JZ hS5;clear hS5 ayM IC;go_wp2_with(go_at_call 155;refine hf.mono ?_;rintro e w12 ⟨rfl,h12⟩);(refine lN (p:=p) (be:=be) rfl (Sep.dB [0,2,1] h12 aR bK) fun w' hw'=>?_);exact hfin.out E4 [] (XS++gQ ps) ([some (0,fT []),none]) none w' (by rw[au1.out];simp[bY]) aG4.out.run JZ hw'
  |false=>
  have hf:=rM ayM JZ hS5;have rV:=Lh (IC.fl JZ);clear hS5 ayM IC aG4;go_wp2_with(go_at_call 155;refine hf.mono ?_;rintro e w13 ⟨rfl,h13⟩);clear hf;have hhd:=RP (w:=w13) (v:=.slice none 0 0) (ps:=[]) ⟨rfl,none,0,rfl,iC _,fZ _,fun h=>absurd h (Nat.lt_irrefl _)⟩ aR bK;go_wp2_with(go_at_call 162;refine hhd.mono ?_;rintro e w14 ⟨u,rfl,hSu⟩);have kM:Sep w0 w14 (aG q p false::aO p E4.fl::aJ be 0::aI u (fT [])::R):=Sep.dB [1,2,3,0] (h13.join hSu) aR bK;have hlh:(fT []).length=512:=oQ aR;clear hhd hSu h13;obtain⟨E5,aG5⟩:∃E5,E4.fl=E5:=⟨_,rfl⟩;rw[aG5]at rV kM;clear aG5;have ayN:=rV.out.ok;(have ayO:E5.back.length<65536:=by have:=rV.out.back;omega);cases alR:E5.off with
  |true=>have hf:=zG (i:=0) ayN ao4 hlh ayO (jI.part 1 rfl) alR kM;clear kM ayN ayO hlh;go_wp2_with(go_at_call 161;refine hf.mono ?_;rintro e w11 ⟨rfl,h11⟩);(refine lN (p:=p) (be:=be) rfl (Sep.dB [0,2,1] h11 aR bK) fun w' hw'=>?_);exact hfin.out E5 [aI u (fT [])] (XS++gQ ps++[none]) [none] (some (0,fT [])) w' (by rw[au1.out];simp[bY]) rV.out.run alR hw'
  |false=>
  have hf:=uJ (i:=0) ayN ao4 hlh ayO (jI.part 1 rfl) alR kM;have hE6:=Lh (rV.out.wr alR ao4 hlh);clear kM ayN ayO hlh;go_wp2_with(go_at_call 161;refine hf.mono ?_;rintro e w15 ⟨rfl,h15⟩);clear hf rV;have nI:Sep w0 w15 (aG q p false::aO p (E5.wr 0 (fT []))::aJ be 0::R):=Sep.drop 1 (Sep.dB [3,0,1,2] h15 aR bK);obtain⟨E6,aG6⟩:∃E6,E5.wr 0 (fT [])=E6:=⟨_,rfl⟩;rw[aG6]at hE6 nI;clear h15 aG6;have ayP:=hE6.out.ok;cases alS:E6.off with
  |true=>have hf:=zH ayP alS nI;clear nI ayP;go_wp2_with(go_at_call 155;refine hf.mono ?_;rintro e w12 ⟨rfl,h12⟩);(refine lN (p:=p) (be:=be) rfl (Sep.dB [0,2,1] h12 aR bK) fun w' hw'=>?_);exact hfin.out E6 [] (XS++gQ ps++[none]++[some (0,fT [])]) [] none w' (by rw[au1.out];simp[bY]) hE6.out.run alS hw'
  |false=>
  have hf:=rM ayP alS nI;have hE7:=Lh (hE6.out.fl alS);clear nI ayP;go_wp2_with(go_at_call 155;refine hf.mono ?_;rintro e w16 ⟨rfl,h16⟩;have k1:=h16.bC 2 rfl 0;have k2:=h16.bF 2 rfl 0;simp only[gA,gB]at k1);refine oJ ?_;have h17:Sep w0 (w16.setCell ⟨be,0,none⟩ (.int .i64 0)) (aG q p false::aO p E6.fl::aJ be 0::R):=h16.bS 2 rfl 0 (.int .i64 0);have ec:=h17.bC 2 rfl 0;simp only[gA,gB]at ec;(have hrun:kT (bY ps) D=(E6.fl,true):=by have:=hE7.out.run;rw[au1.out]at this;rw[<-this];congr 1;simp[bY]);refine⟨.int .i64 0,?_,?_,?_⟩
  ·(have hr:Tryz.f167.results=#[.cell 4 40]:=by kernel_rfl);simp[results,hr,go_sem,ec]
  ·rw[hrun];rfl
  rw[hrun];exact Sep.drop 1 (Sep.dB [2,0,1] h17 aR bK)
def agD (v:Value):Option (DataW Value×List MemPlace):=some (.held v,[])
def getM (L:List (Lit×Value)) (k:Lit):Option Value:=(L.find? fun p=>p.1.sameKey k).map (·.2)
def nK (L:List (Lit×Value)) (k:Lit):List (Lit×Value):=L.filter fun p=> !p.1.sameKey k
def qL (L:List (Lit×Value)) (k:Lit) (v:Value):List (Lit×Value):=nK L k++[(k,v)]
structure mY (L:List (Lit×Value)):Prop where
 lit:∀p∈L,WideAt.IsKeyLit p.1
 ne:L.Pairwise fun p q=>p.1≠q.1
theorem mY.nil :mY []:=⟨by simp,List.Pairwise.nil⟩
theorem mY.sub {L M:List (Lit×Value)} (h:mY L) (hs:M.Sublist L):mY M:=⟨fun p hp=>h.lit p (hs.subset hp),h.ne.sublist hs⟩
theorem mY.del {L:List (Lit×Value)} (h:mY L) (k:Lit):mY (nK L k):=h.sub G8
theorem mY.put {L:List (Lit×Value)} (h:mY L) {k:Lit} (hk:WideAt.IsKeyLit k) (v:Value):mY (qL L k v):=by
 refine⟨fun p hp=>?_,?_⟩
 ·rcases iM.1 hp with hp|hp
  ·exact(h.del k).lit p hp
  rw[tJ]at hp;subst hp;exact hk
 refine OY.2 ⟨(h.del k).ne,by simp,fun p hp q hq=>?_⟩;rw[tJ]at hq;subst hq;intro e;have h1:=(List.mem_filter.1 hp).2;rw[e,WideAt.sameKey_self hk]at h1;simp at h1
theorem yG {L:List (Lit×Value)} (h:mY L) {k:Lit} {v:Value} (hm:(k,v)∈L):getM L k=some v:=by
 unfold getM
 induction L with
 |nil=>cases hm
 |cons p L ih=>
  rw[J8];obtain⟨h1,h2⟩:=List.pairwise_cons.1 h.ne;rcases kE.1 hm with rfl|hm
  ·rw[show(k,v).1.sameKey k=true from WideAt.sameKey_self (h.lit (k,v) bK)];rfl
  have hne:p.1.sameKey k=false:=by
   cases hs:p.1.sameKey k with
   |false=>rfl
   |true=>exact absurd (WideAt.sameKey_eq hs) (h1 _ hm)
  rw[hne];exact ih (h.sub (List.sublist_cons_self _ _)) hm
theorem getM_some {L:List (Lit×Value)} {k:Lit} {v:Value} (h:getM L k=some v):(k,v)∈L:=by unfold getM at h;rw[OT]at h;obtain⟨p,h1,rfl⟩:=h;have h2:=WideAt.sameKey_eq (by simpa using G6 h1);rw[<-h2];exact UH h1
theorem getM_none {L:List (Lit×Value)} {k:Lit} (hk:WideAt.IsKeyLit k) (h:∀p∈L,p.1≠k):getM L k=none:=by unfold getM;rw[YZ,wV];intro p hp hs;exact h p hp (WideAt.sameKey_eq (by simpa using hs))
def aB6 (w:World) (k:TypeId) (b n:Nat) (L:List (Lit×Value)):Prop:=
 ∃D:DataW Value,w.ownsMap Tryz.prog k agD b n D/\mY L/\Maps.size D=L.length/\(∀kl,WideAt.IsKeyLit kl->Maps.has D kl=(getM L kl).isSome)/\∀kl zd,WideAt.IsKeyLit kl->D.atKey kl zd=match getM L kl with|some v=>.held v|none=>zd
def CU (k:TypeId) (b n:Nat) (L:List (Lit×Value)):aW:=
 ⟨fun w F=>aB6 w k b n L/\F=[b],
  fun w w' F ⟨⟨D,⟨es,clock,hb,hr⟩,h2⟩,hF⟩ hk=>⟨⟨D,⟨es,clock,by rw[hk b (by rw[hF];simp)];exact hb,hr⟩,h2⟩,hF⟩,
  fun w F ⟨⟨D,h1,_⟩,hF⟩=>by rw[hF];exact⟨by simp,fun b' hb=>by simp at hb;subst hb;exact h1.lt⟩⟩
theorem vP {k:Lit} (hk:WideAt.IsKeyLit k):k.sameKey k=true:=WideAt.sameKey_self hk
theorem lI {k k':Lit} (h:k'≠k):¬k'.sameKey k=true:=fun hs=>h (WideAt.sameKey_eq hs)
theorem Z32 {P:Prop} (h:P:=by
 unfold nK;rw[Maps.find_filter_keep];intro p hp;have:=WideAt.sameKey_eq hp;cases hs:p.1.sameKey k with
 |false=>rfl
 |true=>exact absurd (this.symm.trans (WideAt.sameKey_eq hs)) e):P:=h
theorem CS {L:List (Lit×Value)} {k:Lit} (hk:WideAt.IsKeyLit k) (v:Value) (k':Lit) (hk':WideAt.IsKeyLit k'):getM (qL L k v) k'=if k'.sameKey k=true then some v else getM L k':=by
 unfold getM qL;rw[aj4];by_cases e:k'=k
 ·subst e;rw[if_pos (vP hk')];(have h1:(nK L k').find? (fun p=>p.1.sameKey k')=none:=by rw[wV];intro p hp;have:=(List.mem_filter.1 hp).2;simpa using this);rw[h1];simp[WideAt.sameKey_self hk']
 rw[if_neg (lI e)];have h2:([(k,v)]:List (Lit×Value)).find? (fun p=>p.1.sameKey k')=none:=by
  have:k.sameKey k'=false:=by
   cases hs:k.sameKey k' with
   |false=>rfl
   |true=>exact absurd (WideAt.sameKey_eq hs).symm e
  simp[this]
 rw[h2,Option.or_none];exact Z32
theorem au2 {L:List (Lit×Value)} {k:Lit} (hk:WideAt.IsKeyLit k) (k':Lit) (hk':WideAt.IsKeyLit k'):getM (nK L k) k'=if k'.sameKey k=true then none else getM L k':=by
 unfold getM;by_cases e:k'=k
 ·subst e;rw[if_pos (vP hk')];(have h1:(nK L k').find? (fun p=>p.1.sameKey k')=none:=by rw[wV];intro p hp;have:=(List.mem_filter.1 hp).2;simpa using this);rw[h1];rfl
 rw[if_neg (lI e)];exact Z32
theorem au3 {L:List (Lit×Value)} (h:mY L) {k:Lit} (hk:WideAt.IsKeyLit k):(nK L k).length+(if(getM L k).isSome then 1 else 0)=L.length:=by
 induction L with
 |nil=>rfl
 |cons p L ih=>
  obtain⟨h1,h2⟩:=List.pairwise_cons.1 h.ne;have ih':=ih (h.sub (List.sublist_cons_self _ _));cases hs:p.1.sameKey k with
  |true=>
   have e:=WideAt.sameKey_eq hs;have h3:nK L k=L:=EZ.2 fun q hq=>by
    cases hs2:q.1.sameKey k with
    |false=>rfl
    |true=>exact absurd (e.trans (WideAt.sameKey_eq hs2).symm) (h1 q hq)
   (have h4:getM (p::L) k=some p.2:=by unfold getM;rw[J8,hs];rfl);(have h5:nK (p::L) k=nK L k:=by unfold nK;rw[yM,hs];rfl);rw[h4,h5,h3];simp
  |false=>(have h4:getM (p::L) k=getM L k:=by unfold getM;rw[J8,hs]);(have h5:nK (p::L) k=p::nK L k:=by unfold nK;rw[yM,hs];rfl);rw[h4,h5];simp only[kH];omega
theorem au4 {L:List (Lit×Value)} (h:mY L) {k:Lit} (hk:WideAt.IsKeyLit k) (v:Value):(qL L k v).length=if(getM L k).isSome then L.length else L.length+1:=by
 have:=au3 h hk;unfold qL;rw[jM,oL];split at this
 ·rename_i hc;rw[if_pos hc];omega
 rename_i hc;rw[if_neg hc];omega
section
variable {w0 w w':World} {As:List aW} {k e t:TypeId} {b n:Nat} {L:List (Lit×Value)}
theorem Sep.ae4 (h:Sep w0 w As) (k:TypeId):Sep w0 (w.alloc (.map #[] 0)) (CU k w.heap.size 0 []::As):=
 h.new ((Below.refl _ _).alloc (iC _) _) (F:=[w.heap.size]) ⟨⟨.map [],World.ownsMap_made w _ _ _,mY.nil,rfl,fun kl _=>rfl,fun kl _ _=>rfl⟩,rfl⟩ bK
theorem Sep.ao5 (i:Nat) (h:Sep w0 w As) (hi:As[i]? =some (CU k b n L)):mY L:=by obtain⟨F,⟨⟨D,_,h2,_⟩,_⟩,_⟩:=h.get i hi;exact h2
theorem Z38 {P:Prop} (h:P:=by
 rw[h5 kl _ hk]at hv;cases hg:getM L kl with
 |none=>rw[hg]at hv;simp[agD]at hv;rw[hv.1];rfl
 |some u=>rw[hg]at hv;simp[agD]at hv;rw[hv.1];rfl):P:=h
theorem Sep.rR (i:Nat) (h:Sep w0 w As) (hi:As[i]? =some (CU k b n L)) (K:Maps.Keyed Tryz.prog k) (ht:Tryz.prog.underlying t=some (.map k e)) {z:Value} (hz:(zeroValue e).run Tryz.prog w= .ok z w) {key:Value} {kl:Lit} (hkey:keyOf Tryz.prog k key=some kl):
  (Instr.lookup t (.map (some b)) key false).run Tryz.prog w= .ok ((getM L kl).getD z) w:=by
 obtain⟨F,⟨⟨D,h1,h2,h3,h4,h5⟩,_⟩,_⟩:=h.get i hi;obtain⟨v,ps,hrun,hv⟩:=h1.lookup K ht hz (zd:=.held z) (zp:=[]) rfl hkey;rw[hrun];have hk:=K.key hkey;exact Z38
theorem Sep.ayQ (i:Nat) (h:Sep w0 w As) (hi:As[i]? =some (CU k b n L)) (K:Maps.Keyed Tryz.prog k) (ht:Tryz.prog.underlying t=some (.map k e)) {z:Value} (hz:(zeroValue e).run Tryz.prog w= .ok z w) {key:Value} {kl:Lit} (hkey:keyOf Tryz.prog k key=some kl):
  (Instr.lookup t (.map (some b)) key true).run Tryz.prog w= .ok (.tuple #[(getM L kl).getD z,.bool (getM L kl).isSome]) w:=by
 obtain⟨F,⟨⟨D,h1,h2,h3,h4,h5⟩,_⟩,_⟩:=h.get i hi;obtain⟨v,ps,hrun,hv⟩:=h1.look_ok K ht hz (zd:=.held z) (zp:=[]) rfl hkey;have hk:=K.key hkey;rw[hrun,h4 kl hk];exact Z38
theorem Sep.qM (i:Nat) (h:Sep w0 w As) (hi:As[i]? =some (CU k b n L)) (K:Maps.Keyed Tryz.prog k) (ht:Tryz.prog.underlying t=some (.map k e)) (hn:n<maxLen) {key v:Value} {kl:Lit} (hkey:keyOf Tryz.prog k key=some kl):
  ∃w',(Instr.mapUpdate t (.map (some b)) key v).run Tryz.prog w= .ok () w'/\Sep w0 w' (As.set i (CU k b (n+1) (qL L kl v))):=by
 obtain⟨F,⟨⟨D,h1,h2,h3,h4,h5⟩,hF⟩,_⟩:=h.get i hi;have hk:=K.key hkey;obtain⟨w',hrun,hown,hgrow⟩:=h1.update K ht hn (val:=v) (d:=.held v) (ps:=[]) hkey rfl;refine⟨w',hrun,h.step i hi fun F' ⟨_,hF'⟩ _=>⟨[b],⟨⟨_,hown,h2.put hk v,?_,fun k' hk'=>?_,fun k' zd hk'=>?_⟩,rfl⟩,fun x hx=>by rw[hF'];exact .inl hx,by rw[hF'];exact mP.uP hgrow⟩⟩
 ·rw[Maps.size_put (h1.tidy K),au4 h2 hk,h4 kl hk,h3]
 ·rw[CS hk v k' hk'];by_cases he:k'=kl
  ·subst he;rw[if_pos (vP hk'),Maps.has_put_same h1.isMap hk];rfl
  rw[if_neg (lI he),Maps.has_put_other he,h4 k' hk']
 rw[CS hk v k' hk'];by_cases he:k'=kl
 ·subst he;rw[if_pos (vP hk'),Maps.atKey_put_same h1.isMap hk]
 rw[if_neg (lI he),Maps.atKey_put_other he,h5 k' zd hk']
def wG (k:TypeId) (b r n:Nat) (L left:List (Lit×Value)):aW:=
 ⟨fun w F=>(∃(D:DataW Value) (lf:Lit->Bool) (cnt:Nat),w.ranges Tryz.prog k agD b r n D lf cnt/\mY L/\Maps.size D=L.length/\(∀kl,WideAt.IsKeyLit kl->Maps.has D kl=(getM L kl).isSome)/\(∀kl zd,WideAt.IsKeyLit kl->D.atKey kl zd=match getM L kl with|some v=>.held v|none=>zd)/\
   left.Sublist L/\(∀kl,WideAt.IsKeyLit kl->lf kl=(getM left kl).isSome))/\F=[b,r]/\b≠r,
  fun w w' F ⟨⟨D,lf,cnt,⟨es,clock,since,seen,c0,hb,F0,hs,hD,hr,r5⟩,h2⟩,hF,hne⟩ hk=>⟨⟨D,lf,cnt,⟨es,clock,since,seen,c0,by rw[hk b (by rw[hF];simp)];exact hb,F0,hs,hD,by rw[hk r (by rw[hF];simp)];exact hr,r5⟩,h2⟩,hF,hne⟩,
  fun w F ⟨⟨D,lf,cnt,h1,_⟩,hF,hne⟩=>by
   rw[hF];refine⟨by simp[hne],fun b' hb=>?_⟩;simp at hb;rcases hb with rfl|rfl
   ·exact h1.owns.lt
   exact h1.lt⟩
theorem Sep.ajJ (i:Nat) (h:Sep w0 w As) (hi:As[i]? =some (CU k b n L)) (K:Maps.Keyed Tryz.prog k) (ht:Tryz.prog.underlying t=some (.map k e)):
  ∃w',(Instr.range t (.map (some b))).run Tryz.prog w= .ok (pV w.heap.size) w'/\Sep w0 w' (As.set i (wG k b w.heap.size n L L))/\w'.heap.size=w.heap.size+1:=by
 obtain⟨F,⟨⟨D,h1,h2,h3,h4,h5⟩,hF⟩,hlt⟩:=h.get i hi;obtain⟨w',hrun,hrg,hgrow,hsz⟩:=h1.range K ht;have hbl:=(hlt b (by rw[hF];simp)).2;refine⟨w',hrun,h.step i hi fun F' ⟨_,hF'⟩ _=>⟨[b,w.heap.size],⟨⟨D,_,_,hrg,h2,h3,h4,h5,List.Sublist.refl _,fun kl hk=>h4 kl hk⟩,rfl,by omega⟩,fun x hx=>?_,?_⟩,hsz⟩
 ·rw[hF'];simp at hx;rcases hx with rfl|rfl
  ·left;simp
  right;omega
 have:=mP.uP hgrow;exact⟨this.os,this.tape,this.output,this.size,fun j hj _=>this.block j hj bK⟩
theorem Sep.MI {r:Nat} {left:List (Lit×Value)} (i:Nat) (h:Sep w0 w As) (hi:As[i]? =some (wG k b r n L left)) (K:Maps.Keyed Tryz.prog k) (ty:TypeId):
  (left=[]/\(Instr.next (pV r) false ty).run Tryz.prog w= .ok (.tuple #[.bool false]) w)\/
  ∃key v kl w',keyOf Tryz.prog k key=some kl/\(kl,v)∈left/\(Instr.next (.pointer (some ⟨r,0,none⟩)) false ty).run Tryz.prog w= .ok (.tuple #[.bool true,key,v]) w'/\
   Sep w0 w' (As.set i (wG k b r n L (nK left kl)))/\w'.heap.size=w.heap.size/\(Instr.entry (pV r)).run Tryz.prog w'= .ok (.tuple #[key,v]) w':=by
 obtain⟨F,⟨⟨D,lf,cnt,h1,h2,h3,h4,h5,h6,h7⟩,hF,hne⟩,hlt⟩:=h.get i hi
 rcases h1.next K ty with⟨_,hl,hrun⟩|⟨key,v,kl,y,w',cnt',hkey,hlk,hv,hat,hrun,hrg,_,hgrow,hsz,hen⟩
 ·left;refine⟨?_,hrun⟩;cases left with
  |nil=>rfl
  |cons p l=>have hkl:=h2.lit p (h6.subset bK);have:=h7 p.1 hkl;rw[hl,yG (h2.sub h6) (v:=p.2) bK]at this;cases this
 ·right;have hk:=K.key hkey;(have hv':y=(.held v,[]):=by simp[agD]at hv;exact hv.symm);have h8:=h7 kl hk;rw[hlk]at h8;obtain⟨u,hu⟩:=Option.isSome_iff_exists.1 h8.symm;have hm:=getM_some hu;have hg:=yG h2 (h6.subset hm);(have hu2:u=v:=by have:=hat (.held u);rw[h5 kl _ hk,hg,hv']at this;simpa using this);subst hu2;refine⟨key,u,kl,w',hkey,hm,hrun,h.step i hi fun F' ⟨_,hF',_⟩ _=>⟨[b,r],⟨⟨D,_,cnt',hrg,h2,h3,h4,h5,G8.trans h6,fun k' hk'=>?_⟩,rfl,hne⟩,fun x hx=>by rw[hF'];exact .inl hx,?_⟩,hsz,hen⟩
  ·rw[au2 hk k' hk',h7 k' hk'];by_cases he:k'=kl
   ·subst he;rw[if_pos (vP hk),WideAt.sameKey_self hk];simp
   rw[if_neg (lI he)];have:k'.sameKey kl=false:=by
    cases hs:k'.sameKey kl with
    |false=>rfl
    |true=>exact absurd (WideAt.sameKey_eq hs) he
   rw[this];simp
  rw[hF'];have:=mP.uP hgrow;exact⟨this.os,this.tape,this.output,this.size,fun j hj hjn=>this.block j hj (by simp at hjn ⊢;exact hjn.2)⟩
theorem Sep.ajK {r:Nat} {left:List (Lit×Value)} (i:Nat) (h:Sep w0 w As) (hi:As[i]? =some (wG k b r n L left)):Sep w0 w (As.set i (CU k b n L)):=by refine h.step i hi fun F ⟨⟨D,lf,cnt,h1,h2,h3,h4,h5,_⟩,hF,_⟩ _=>⟨[b],⟨⟨D,h1.owns,h2,h3,h4,h5⟩,rfl⟩,fun x hx=>by rw[hF];left;simp at hx ⊢;exact .inl hx,mP.refl _ _⟩
def lJ (k:TypeId) (b:Nat) (L:List (Lit×Value)):aW:=CU k b L.length L
theorem Sep.au5 (i:Nat) (h:Sep w0 w As) (hi:As[i]? =some (CU k b n L)):Sep w0 w (As.set i (lJ k b L)):=by
 refine h.step i hi fun F ⟨⟨D,h1,h2,h3,h4,h5⟩,hF⟩ _=>⟨[b],⟨⟨D,?_,h2,h3,h4,h5⟩,rfl⟩,fun x hx=>by rw[hF];exact .inl hx,mP.refl _ _⟩
 obtain⟨es,clock,hb,F0,hs,hD⟩:=h1;refine⟨es,clock,hb,F0,?_,hD⟩;rw[<-h3,hD];simp[Maps.size,length_sorted]
theorem Sep.BX (h:Sep w0 w As) (k:TypeId):Sep w0 (w.alloc (.map #[] 0)) (lJ k w.heap.size []::As):=h.ae4 k
theorem Sep.rU (i:Nat) (h:Sep w0 w As) (hi:As[i]? =some (lJ k b L)):mY L:=h.ao5 i hi
theorem Sep.ZW (i:Nat) (h:Sep w0 w As) (hi:As[i]? =some (lJ k b L)) (K:Maps.Keyed Tryz.prog k) (ht:Tryz.prog.underlying t=some (.map k e)) {z:Value} (hz:(zeroValue e).run Tryz.prog w= .ok z w) {key:Value} {kl:Lit} (hkey:keyOf Tryz.prog k key=some kl):
 (Instr.lookup t (.map (some b)) key false).run Tryz.prog w= .ok ((getM L kl).getD z) w:=h.rR i hi K ht hz hkey
theorem Sep.YD (i:Nat) (h:Sep w0 w As) (hi:As[i]? =some (lJ k b L)) (K:Maps.Keyed Tryz.prog k) (ht:Tryz.prog.underlying t=some (.map k e)) {z:Value} (hz:(zeroValue e).run Tryz.prog w= .ok z w) {key:Value} {kl:Lit} (hkey:keyOf Tryz.prog k key=some kl):
 (Instr.lookup t (.map (some b)) key true).run Tryz.prog w= .ok (.tuple #[(getM L kl).getD z,.bool (getM L kl).isSome]) w:=h.ayQ i hi K ht hz hkey
theorem Sep.lS (i:Nat) (h:Sep w0 w As) (hi:As[i]? =some (lJ k b L)) (K:Maps.Keyed Tryz.prog k) (ht:Tryz.prog.underlying t=some (.map k e)) (hn:L.length<maxLen) {key v:Value} {kl:Lit} (hkey:keyOf Tryz.prog k key=some kl):
  ∃w',(Instr.mapUpdate t (.map (some b)) key v).run Tryz.prog w= .ok () w'/\Sep w0 w' (As.set i (lJ k b (qL L kl v))):=by
 obtain⟨w',h1,h2⟩:=h.qM i hi K ht hn (v:=v) hkey;have hlt:=(gF.1 hi).1;have h3:=h2.au5 i (by rw[OI hlt]);rw[VZ]at h3;exact⟨w',h1,h3⟩
theorem Sep.PU (i:Nat) (h:Sep w0 w As) (hi:As[i]? =some (lJ k b L)) (K:Maps.Keyed Tryz.prog k) (ht:Tryz.prog.underlying t=some (.map k e)):
 ∃w',(Instr.range t (.map (some b))).run Tryz.prog w= .ok (pV w.heap.size) w'/\Sep w0 w' (As.set i (wG k b w.heap.size L.length L L))/\w'.heap.size=w.heap.size+1:=h.ajJ i hi K ht
theorem Sep.aqI {r:Nat} {left:List (Lit×Value)} (i:Nat) (h:Sep w0 w As) (hi:As[i]? =some (wG k b r L.length L left)):Sep w0 w (As.set i (lJ k b L)):=h.ajK i hi
end
end Go.Proofs.YtmjomdkleikgbaaGreat
namespace Go.Proofs.YtmjomdkleikgbaaGreat
open Go.RowKit Go.ChangeMaps Go.WideElems
theorem findIdx_push {p:MapEntry->Bool} {es:Array MapEntry} {e:MapEntry} (h:∀x∈es.toList,p x=false) (he:p e=true):(es.push e).findIdx? p=some es.size:=by
 have h0:es.findIdx? p=none:=by rw[Array.findIdx?_eq_none_iff];intro x hx;exact h x (by simpa using hx)
 rw[Array.findIdx?_push,h0];simp[he]
theorem ayR {α:Type} (f:α->α) (a:α) (l:List α):(l++[a]).modify l.length f=l++[f a]:=by
 induction l with
 |nil=>rfl
 |cons b r ih=>rw[kI,kH,List.modify_succ_cons,ih];rfl
theorem Sep.au6 {w0 w:World} {As:List aW} {k e t:TypeId} {b:Nat} {L:List (Lit×Value)} (i:Nat) (h:Sep w0 w As) (hi:As[i]? =some (lJ k b L)) (K:Maps.Keyed Tryz.prog k) (ht:Tryz.prog.underlying t=some (.map k e)) {z:Value} (hz:∀w,(zeroValue e).run Tryz.prog w= .ok z w) (hn:L.length<maxLen) {key val:Value} {kl:Lit} (hkey:keyOf Tryz.prog k key=some kl) (hno:getM L kl=none):
  ∃st w1 w2,(Instr.mapEntry t (.map (some b)) key).run Tryz.prog w= .ok (.tuple #[z,iV st]) w1/\(Instr.entryStore t (.map (some b)) (.int .i64 st) val).run Tryz.prog w1= .ok () w2/\Sep w0 w2 (As.set i (lJ k b (qL L kl val)))/\w2.heap.size=w.heap.size:=by
 obtain⟨w',hrun,hS⟩:=h.lS i hi K ht hn (v:=val) hkey;obtain⟨F,⟨⟨D,⟨es,clock,hb,hfit,hsz,hD⟩,h2,h3,h4,h5⟩,_⟩,_⟩:=h.get i hi;have hkl:=K.key hkey;have aTB:Maps.has D kl=false:=by rw[h4 kl hkl,hno];rfl
 rcases K.find w hkey es.toList (fun e he=>by obtain⟨y,hy⟩:=hfit.reads e he;exact⟨_,rd_key hy⟩)with⟨f1,f2⟩|⟨j,e0,f1,f2,f3⟩
 ·have hst:=hfit.stamped.1;have hidx:(es.push ⟨key,z,clock⟩).findIdx? (fun e=>((e.born:Nat):Int)==((clock:Nat):Int))=some es.size:=
   findIdx_push (fun x hx=>by have:=hst x hx;exact jU.2 aD) bK
  (have hmod:(es.push ⟨key,z,clock⟩).modify es.size (fun e=> {e with val:=val})=es.push ⟨key,val,clock⟩:=by apply Array.ext';rw[Array.toList_modify,Array.toList_push,Array.toList_push,<-Array.length_toList,ayR]);have hw2:(setBlock w b (.map (es.push ⟨key,z,clock⟩) (clock+1))).heap[b]? =some (.map (es.push ⟨key,z,clock⟩) (clock+1)):=heap_setBlock_same hb _;(have hup:(Instr.mapUpdate t (.map (some b)) key val).run Tryz.prog w= .ok () (setBlock w b (.map (es.push ⟨key,val,clock⟩) (clock+1))):=by simp[Instr.mapUpdate,run_underlying ht,MapKept.run_getObj_map hb,K.check w false hkey,f1,MapKept.run_setObj_map _ hb,Result.andThen,setBlock]);rw[hup]at hrun;injection hrun with _ hw;refine⟨clock,setBlock w b (.map (es.push ⟨key,z,clock⟩) (clock+1)),w',?_,?_,hS,?_⟩
  ·simp[Instr.mapEntry,run_underlying ht,MapKept.run_getObj_map hb,K.check w false hkey,f1,hz,MapKept.run_setObj_map _ hb,Result.andThen,setBlock,goInt]
  ·rw[<-hw];(have hfin:setBlock (setBlock w b (.map (es.push ⟨key,z,clock⟩) (clock+1))) b (.map (es.push ⟨key,val,clock⟩) (clock+1))=setBlock w b (.map (es.push ⟨key,val,clock⟩) (clock+1)):=by simp[setBlock]);rw[<-hfin];generalize setBlock w b (.map (es.push ⟨key,z,clock⟩) (clock+1))=W1 at hw2;simp[Instr.entryStore,MapKept.run_getObj_map hw2,asInt,asIntOf,goInt,hidx,hmod,MapKept.run_setObj_map _ hw2,Result.andThen,setBlock]
  rw[<-hw];simp[setBlock]
 exfalso;have hlk:=h.YD i hi K ht (hz w) hkey;rw[hno]at hlk;have hck:=fun em=>K.check w em hkey
 simp[Instr.lookup,run_underlying ht,MapKept.run_getObj_map hb,hck,f1,Result.andThen]at hlk
end Go.Proofs.YtmjomdkleikgbaaGreat
