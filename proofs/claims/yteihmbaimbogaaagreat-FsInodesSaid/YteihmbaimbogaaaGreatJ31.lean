/- Parts. -/
import Derived.Test.YteihmbaimbogaaaGreatJ28
import Derived.Scope
set_option linter.unusedVariables false
set_option linter.unusedSimpArgs false
set_option maxRecDepth 100000
set_option maxHeartbeats 20000000
namespace Go.Proofs.YteihmbaimbogaaaGreat
open Go.RowKit
section
variable {P:Program} {ops:Array Oper} {Q:Exit->Act->World->Prop} {S:World->Prop} {z:Nat} {md:Region.Mode}
theorem uY {i:Nat} {oi:Oper} {f:Nat} {l:Array Bool} {a:Act} {w:World} (hS:S w) (hi:ops[i]? =some oi)
  (h:OU P md ops Q S z f (l.setIfInBounds i true) (a.put oi.dst undef) w) (hz:lastB md ops z i=true:=by kernel_rfl) (hs:Region.noSelect ops=true:=by kernel_rfl) (hf:Region.free md ops l i=true:=by kernel_rfl) (hr:(Region.ready md ops l).contains i=true:=by kernel_rfl)
  (hw:Region.wanted oi (yielded ops a.tmps)=false:=by kernel_rfl) (hQ:∀c a w,Q (.panic c) (a.put oi.dst undef) w->Q (.panic c) a w:=by exact fun _ _ _ h=>h):OU P md ops Q S z (f+1) l a w:=
 TK hi hz hs hf hr hQ (Or.inr ⟨hw,rfl⟩) hS h
end
def agL (bs:List UInt8) (n:Nat):List Int:=(List.range n).map fun i=>(xD bs (22+2*i) 2:Int)
def apU (bs:List UInt8):Option (List Int):=
 if bs.take 16=LW/\(xD bs 16 4:Int)=IB (bs.drop 20)then(if 40<xD bs 20 2 then none else some (agL bs (xD bs 20 2)))else none
theorem agM (bs:List UInt8) (n:Nat):(agL bs n).length=n:=by simp[agL]
section
variable {w0 w:World} {R:List bK}
def akO (v:Value) (bs:List UInt8) (w0:World) (R:List bK) (e:Ending) (w':World):Prop:=match apU bs with
 |none=>e= .returned (.tuple #[.slice none 0 0,.bool false])/\Sep w0 w' (aL v bs::R)
 |some l=>∃u,e= .returned (.tuple #[u,.bool true])/\Sep w0 w' (bA u l::aL v bs::R)
theorem ayX {v:Value} {bs:List UInt8} (hl:bs.length=512) (h:Sep w0 w (aL v bs::R)):Calls Tryz.prog 132 #[v] w (akO v bs w0 R):=by
 obtain⟨g,cap,rfl,_,_,hc,hcm⟩:=h.iU 0 rfl (by rw[hl];decide);rw[hl]at hc;have hby:∀W,Sep w0 W (aL (sV g bs.length cap) bs::R)->BytesAt W (sV g 512 cap) bs:=fun W hW=>by have:=hW.rd 0 rfl;rw[<-hl];exact this
 have auU:∀W,Sep w0 W (aL (sV g bs.length cap) bs::R)->(convert 35 9 (sV g 16 cap)).run Tryz.prog W= .ok (.string ⟨(bs.take 16).toArray⟩) W:=fun W hW=>by have:=jX ((hby W hW).sub (o:=0) (m:=16) aD);exact this
 have hcr:Hid (∀W,Sep w0 W (aL (sV g bs.length cap) bs::R)->Calls Tryz.prog 171 #[.slice (some ⟨g,20,none⟩) 492 (cap-20)] W fun e w'=>e= .returned (iV (IB (bs.drop 20)))/\Sep w0 w' (aL (sV g bs.length cap) bs::R)):=Lh fun W hW=>by have h1:=(hby W hW).sub (o:=20) (m:=492) aD;rw[tH (by rw[pU];omega)]at h1;exact(am3 h1 (by rw[pU];omega)).mono fun e w' ⟨h2,h3⟩=>⟨h2,hW.pure h3⟩
 have hge:Hid (∀(i k:Nat) W,i+k<=512->k<=7->Sep w0 W (aL (sV g bs.length cap) bs::R)->Calls Tryz.prog 170 #[sV g 512 cap,iV i,iV k] W fun e w'=>e= .returned (iV (xD bs i k))/\w'=W):=Lh fun i k W hi hk hW=>
  ayY (hby W hW) aD hk aD
 have p16:(16:Int)<=(cap:Int):=by omega
 have h1:=Lh h;have hX:=h.drew;have hcv:=auU _ hX;have QO:=Lh hX;obtain⟨X,hXe⟩:∃X,X=aL (sV g bs.length cap) bs::R:=⟨_,rfl⟩;unfold akO apU;rw[hl]at*;by_cases hm:bs.take 16=LW
 case neg=>
  rw[if_neg (fun e=>hm e.1)];(have e2:(bs.take 16==[115,104,117,110,116,45,108,101,100,103,101,114,45,49,33,10])=false:=by rw[Bool.eq_false_iff];intro e;exact hm (eq_of_beq e));clear hm hX hge hcr hby auU h;go_enter Tryz.func132,Tryz.ntmps132;go_wp2_with fail;refine fP ?_;refine aJ (S:=fun W=>(convert 35 9 (sV g 16 cap)).run Tryz.prog W= .ok (.string ⟨(bs.take 16).toArray⟩) W) 12 ?_;refine aA 0 hcv ?_;refine aA 1 hcv ?_;refine aA 2 hcv ?_;refine aA 3 hcv ?_;refine aA 4 hcv ?_;refine uY (i:=5) hcv rfl ?_;simp only[Act.put,gD];refine uY (i:=6) hcv rfl ?_;simp only[Act.put,gD];refine uY (i:=7) hcv rfl ?_;simp only[Act.put,gD];refine uY (i:=8) hcv rfl ?_;simp only[Act.put,gD];refine uY (i:=9) hcv rfl ?_;simp only[Act.put,gD];refine uY (i:=10) hcv rfl ?_;simp only[Act.put,gD];refine aW 11 (fun _=>hcv) ?_;refine aR fZ ?_ _;simp only[jT];go_wp2_with fail
  go_ret2
  exact⟨rfl,h1.out.drew⟩
 have hmL:bs.take 16=[115,104,117,110,116,45,108,101,100,103,101,114,45,49,33,10]:=hm;obtain⟨G,hG⟩:∃G,G=xD bs 16 4:=⟨_,rfl⟩;obtain⟨C,hC⟩:∃C,C=IB (bs.drop 20):=⟨_,rfl⟩;obtain⟨N,hN⟩:∃N,N=xD bs 20 2:=⟨_,rfl⟩;have aV6:N<65536:=by rw[hN];exact am4 bs 20 2
 have hg1:=hge.out 16 4 _ aQ aQ hX;have hg2:Hid (∀W,Sep w0 W (aL (sV g 512 cap) bs::R)->Calls Tryz.prog 170 #[sV g 512 cap,iV 20,iV 2] W fun e w'=>e= .returned (iV N)/\w'=W):=Lh fun W hW=>by have:=hge.out 20 2 W aQ aQ hW;rw[<-hN]at this;exact this
 have hg3:Hid (∀W (k:Nat),k<240->Sep w0 W (aL (sV g 512 cap) bs::R)->Calls Tryz.prog 170 #[sV g 512 cap,iV (22+2*(k:Int)),iV 2] W fun e w'=>e= .returned (iV (xD bs (22+2*k) 2))/\w'=W):=Lh fun W k hk hW=>by have:=hge.out (22+2*k) 2 W aD aQ hW;(have e:((22+2*k:Nat):Int)=22+2*(k:Int):=by omega);rw[e]at this;exact this
 rw[<-hG,<-hC,<-hN];rw[<-hG]at hg1;simp only[<-hC]at hcr;rw[hmL]at hcv auU;have ZU:=Lh auU;have hm':=Lh hm;clear hX hge hby auU h hm hmL hG hC hN;have p20:¬cap=20:=by omega
 by_cases hq:(G:Int)=C
 case neg=>
  rw[if_neg (fun e=>hq e.2)];(have hq2:((G:Int)==C)=false:=by simpa using hq);clear hg2 hg3;go_enter Tryz.func132,Tryz.ntmps132;go_wp2_with fail;refine fP ?_;refine aJ (S:=fun W=>(convert 35 9 (sV g 16 cap)).run Tryz.prog W= .ok (.string ⟨#[115,104,117,110,116,45,108,101,100,103,101,114,45,49,33,10]⟩) W) 12 ?_;refine aA 0 hcv ?_;refine aA 1 hcv ?_;refine aA 2 hcv ?_;refine aA 3 hcv ?_;refine aA 4 hcv ?_;refine aA 5 hcv ?_;refine aA 7 hcv ?_;refine aA 8 hcv ?_;(refine bG 6 fun K hK=>?_);go_simp;go_at_call 170;refine hg1.mono ?_;rintro e w9 ⟨rfl,rfl⟩;refine hK _ _ (fun _=>hcv) ?_;clear hK K;(try simp only[Act.put,gD]);(refine bG 9 fun K hK=>?_);go_simp;go_at_call 171;refine(hcr.out _ QO.out).mono ?_;rintro e w9 ⟨rfl,nM⟩;have BN:=ZU.out _ nM;have h9:=Lh nM;clear nM hcv;refine hK _ _ (fun _=>BN) ?_;clear hK K;(try simp only[Act.put,gD]);refine aW 10 (fun _=>BN) ?_;refine aW 11 (fun _=>BN) ?_;refine aR fZ ?_ _;simp only[jT];clear BN ZU hcr QO hg1;go_wp2_with fail
  go_ret2
  exact⟨rfl,h9.out⟩
 rw[if_pos ⟨hm'.out,hq⟩];have hq2:((G:Int)==C)=true:=by simpa using hq
 clear hq;by_cases h40:40<N
 case pos=>
  rw[if_pos h40];(have aO9:(40:Int)<N:=by omega);go_enter Tryz.func132,Tryz.ntmps132;go_wp2_with fail;refine fP ?_;refine aJ (S:=fun W=>(convert 35 9 (sV g 16 cap)).run Tryz.prog W= .ok (.string ⟨#[115,104,117,110,116,45,108,101,100,103,101,114,45,49,33,10]⟩) W) 12 ?_;refine aA 0 hcv ?_;refine aA 1 hcv ?_;refine aA 2 hcv ?_;refine aA 3 hcv ?_;refine aA 4 hcv ?_;refine aA 5 hcv ?_;refine aA 7 hcv ?_;refine aA 8 hcv ?_;(refine bG 6 fun K hK=>?_);go_simp;go_at_call 170;refine hg1.mono ?_;rintro e w9 ⟨rfl,rfl⟩;refine hK _ _ (fun _=>hcv) ?_;clear hK K;(try simp only[Act.put,gD]);(refine bG 9 fun K hK=>?_);go_simp;go_at_call 171;refine(hcr.out _ QO.out).mono ?_;rintro e w9 ⟨rfl,nM⟩;have BN:=ZU.out _ nM;have h9:=Lh nM;clear nM hcv;refine hK _ _ (fun _=>BN) ?_;clear hK K;(try simp only[Act.put,gD]);refine aW 10 (fun _=>BN) ?_;refine aW 11 (fun _=>BN) ?_;refine aR fZ ?_ _;simp only[jT];clear BN ZU hcr QO hg1;go_wp2_with(first |(go_at_call 170;refine(hg2.out _ h9.out).mono ?_;rintro e w8 ⟨rfl,rfl⟩))
  go_ret2
  exact⟨rfl,h9.out⟩
 rw[if_neg h40];have aO9:¬(40:Int)<N:=by omega
 go_enter Tryz.func132,Tryz.ntmps132;go_wp2_with fail;refine fP ?_;refine aJ (S:=fun W=>(convert 35 9 (sV g 16 cap)).run Tryz.prog W= .ok (.string ⟨#[115,104,117,110,116,45,108,101,100,103,101,114,45,49,33,10]⟩) W) 12 ?_;refine aA 0 hcv ?_;refine aA 1 hcv ?_;refine aA 2 hcv ?_;refine aA 3 hcv ?_;refine aA 4 hcv ?_;refine aA 5 hcv ?_;refine aA 7 hcv ?_;refine aA 8 hcv ?_;refine bG 6 fun K hK=>?_
 go_simp;go_at_call 170;refine hg1.mono ?_;rintro e w9 ⟨rfl,rfl⟩;refine hK _ _ (fun _=>hcv) ?_;clear hK K;try simp only[Act.put,gD]
 refine bG 9 fun K hK=>?_
 go_simp;go_at_call 171;refine(hcr.out _ QO.out).mono ?_;rintro e w9 ⟨rfl,nM⟩;have BN:=ZU.out _ nM;have h9:=Lh nM;clear nM hcv;refine hK _ _ (fun _=>BN) ?_;clear hK K;try simp only[Act.put,gD]
 refine aW 10 (fun _=>BN) ?_;refine aW 11 (fun _=>BN) ?_;refine aR fZ ?_ _;simp only[jT];clear BN ZU hcr QO hg1;go_wp2_with(first |(go_at_call 170;refine(hg2.out _ h9.out).mono ?_;rintro e w8 ⟨rfl,rfl⟩));go_loopw[24,4] (fun iv x wr=>∃(k:Nat),k<=N/\iv=iV k/\Hid (Sep w0 wr (bA x (agL bs k)::aL (sV g 512 cap) bs::R))) (fun iv _ _=>N-(intOf iv).toNat)
 case atStart=>exact⟨0,iF _,rfl,Lh (YS h9.out)⟩
 clear h9;obtain⟨k,hk,rfl,hS⟩:=hrel;by_cases hlt:k<N
 ·(have q1:(k:Int)<N:=by omega);(have q0:(0:Int)<=k:=by omega);have hg3':=hg3.out wr k aD (Sep.drop 1 hS.out);obtain⟨G2,hG2⟩:∃G2,G2=xD bs (22+2*k) 2:=⟨_,rfl⟩;have aPA:=Lh hG2;rw[<-hG2]at hg3';have w1:IntKind.i64.wrap (2*(k:Int))=2*(k:Int):=IntWalk.i64_in _ aD;have w2:IntKind.i64.wrap (22+2*(k:Int))=22+2*(k:Int):=IntWalk.i64_in _ aD;have hfl:(Tryz.prog.info? 3).map (fun i=>(i.zero,i.size,i.bytes))=some (some (iV 0),1,8):=EW;obtain⟨k0,gN,hk0,hk1,hk2⟩:=lM hfl;have hSB:Hid (Sep w0 (wr.alloc (.cells #[iV (G2:Nat)] 3)) (.sl 3 1 u4 k ((agL bs k).map (.int .i64))::aL (sV g 512 cap) bs::R)):=Lh (by have:=hS.out.alloc (.cells #[iV (G2:Nat)] 3);unfold bA at this;rw[agM]at this;exact this);have hrd:Hid (Rd (wr.alloc (.cells #[iV (G2:Nat)] 3)) 1 (sV wr.heap.size 1 1) 1 [.int .i64 (G2:Nat)]):=Lh ⟨rfl,_,_,rfl,jL _,by unfold maxLen;omega,fun _=>⟨_,rfl,by simp,iA wr #[iV (G2:Nat)] _ _ rfl⟩⟩;clear hS hG2 hg3 hfl hg2;go_wp2_with(first |(go_at_call 170;refine hg3'.mono ?_;rintro e w8 ⟨rfl,rfl⟩)|(at_builtin;refine aS 0 rfl _ _ 61 rfl 3 k0 (.int .i64 0) 1 8 Tryz.underlying61 gN hk0 hk1 hk2 rfl aQ hSB.out u4 k _ rfl rfl (sV w8.heap.size 1 1) 1 [.int .i64 (G2:Nat)] rfl hrd.out Q8 oH aD ?_;intro v3 w3 dJ hz3));refine⟨⟨k+1,by omega,by go_num,Lh ?_⟩,?_⟩
  ·(have e9:agL bs (k+1)=agL bs k++[(G2:Int)]:=by unfold agL;rw[OA,kT,aPA.out];rfl);rw[e9];unfold bA;rw[kN,agM,kT];exact dJ
  (show N-((k:Int)+1).toNat<N-((k:Int)).toNat);omega
 obtain rfl:N=k:=by omega
 have q1:¬(N:Int)<(N:Int):=by omega
 clear hg2 hg3;go_wp2_with fail
 go_ret2
 exact⟨_,rfl,hS.out⟩
end
theorem acI :∀args w,(callFunc 131 args).run Tryz.prog w= .ok (.enter 131 args) w:=Go.Proofs.enters_of Tryz.func131 fZ rfl
theorem akP {w:World} {be bl:Nat} {u:FrameMode} (hc:w.cell? ⟨be,0,none⟩=some (iV 0)):
  CallsD Tryz.prog 131 #[pV be,pV bl] u w fun e u' w'=>u'=u/\e= .returned (.tuple #[])/\w'=w:=by
 refine(callsD_of_wp (R:=fun e w'=>e= .returned (.tuple #[])/\w'=w) Tryz.func131 rfl ?_).mono ?_
 ·simp only[Tryz.ntmps131,mK,nV,kW,Nat.reduceAdd,Nat.reduceSub,HV,HY,H6,HZ,pG,pF];go_wp2_with fail
  go_end0
  exact⟨rfl,rfl⟩
 rintro e u' w' ⟨h1,h2,h3⟩;exact⟨h1,h2,h3⟩
section
variable {w0 w:World} {R:List bK}
theorem apV {p nb:Nat} {D:DK} (hD:D.ok nb) (J9:96<nb) (ho:D.off=false) (auV:apU (bk D.now 0)=some []) (h:Sep w0 w (aN p D::R)):
  Calls Tryz.prog 78 #[pV p] w fun e w'=>∃q,e= .returned (.tuple #[pV q,iV 0])/\Sep w0 w' (aG q p false::aN p D.fl::R):=by
 obtain⟨bl,hbl⟩:∃b,b=w.heap.size:=⟨_,rfl⟩;have hS2:Hid (Sep w0 (((w.alloc (.cells #[pV (bl+1+1)] 97)).alloc (.cells #[iV 0] 39)).alloc (.cells #[.iface 23 (pV p),.bool false] 180)) (aG (bl+1+1) p false::aN p D::aI (bl+1) 0:: .box bl 97 #[pV (bl+1+1)]::R)):=Lh (by exact Z32);have MN:∀(fn:Fn) (first cap:Array Value) (w:World),(Instr.makeFunc fn first cap).run Tryz.prog w= .ok (.func fn first cap) w:=fun _ _ _ _=>rfl
 have uG:=aj8 (Sep.dE [1,0,2,3] hS2.out aQ bM);rw[ho]at uG;have at6:=BZ (nb:=nb) 1 hD hS2.out rfl;have hc2:=hS2.out.bC 3 rfl 0;simp only[gA,gB]at hc2;have hrd:=LQ (i:=0) hD aD ho hS2.out;have GQ:Hid (∀W v,Sep w0 W (aL v (bk D.now 0)::aG (bl+1+1) p false::aN p D::aI (bl+1) 0:: .box bl 97 #[pV (bl+1+1)]::R)->Calls Tryz.prog 132 #[v] W fun e w'=>∃A c,e= .returned (.tuple #[.slice A 0 c,.bool true])/\Sep w0 w' (aG (bl+1+1) p false::aN p D::aI (bl+1) 0:: .box bl 97 #[pV (bl+1+1)]::R)):=Lh fun W v hW=>by refine(ayX (kJ hD.now aD) hW).mono ?_;intro e w' hO;unfold akO at hO;rw[auV]at hO;obtain⟨u,rfl,hS⟩:=hO;obtain⟨A,c,rfl,_⟩:=hS.yR 0 rfl;exact⟨A,c,rfl,hS.drop 2⟩
 have hfl:Hid (∀W,Sep w0 W (aG (bl+1+1) p false::aN p D::aI (bl+1) 0:: .box bl 97 #[pV (bl+1+1)]::R)->Calls Tryz.prog 134 #[pV (bl+1+1)] W fun e w'=>e= .returned (.tuple #[])/\Sep w0 w' (aG (bl+1+1) p false::aN p D.fl::aI (bl+1) 0:: .box bl 97 #[pV (bl+1+1)]::R)):=Lh fun W hW=>qY hD ho hW
 have q0:¬(nb:Int)<=96:=by omega
 clear hD J9 ho auV h;rw[hbl]at*
 go_enter_defers Tryz.func78,Tryz.ntmps78
 go_wp2_with fail;refine wp_scope_straight ?_;go_wp2_with(first |(go_at_call 39;refine uG.mono ?_;rintro e w9 ⟨rfl,h9⟩;obtain rfl:=h9.symm;clear uG)|(go_at_call 84;refine at6.mono ?_;rintro e w9 ⟨rfl,h9⟩;obtain rfl:=h9.symm;clear at6)|(go_at_call 130;refine hrd.mono ?_;rintro e w9 ⟨u,rfl,h9⟩;have PV:=GQ.out _ _ h9;clear hrd h9 GQ)|(go_at_call 132;refine PV.mono ?_;rintro e w8 ⟨A,c,rfl,h8⟩;have h8':=Lh h8;have hc8:=h8.bC 3 rfl 0;simp only[gA,gB]at hc8;clear h8 PV));go_loopw[32] (fun iv wr=>iv=iV 0/\wr=w8) (fun _ _=>0)
 case atStart=>exact⟨rfl,rfl⟩
 obtain⟨rfl,rfl⟩:=hrel;go_wp2_with(first |(go_at_call 134;refine(hfl.out _ h8'.out).mono ?_;rintro e w4 ⟨rfl,h4⟩;(have x1:=h4.bC 3 rfl 0);(have x2:=h4.bF 3 rfl 0);(have h3:=h4.bS 3 rfl 0 (pV (w.heap.size+1+1)));(have x3:=h3.bC 2 rfl 0);(have x4:=h3.bF 2 rfl 0);(have h2:=h3.bS 2 rfl 0 (.int .i64 0));replace h2:=Lh h2;clear h3 h4 h8' hc8 hfl;try simp only[gA,gB]at x1 x3));refine nS ?_;have ec:=h2.out.bC 2 rfl 0;have el:=h2.out.bC 3 rfl 0;try simp only[gA,gB]at ec el
 refine leaves_cons (u:=.returning) bM (qK _ _ acI) ?_;refine(akP ec).mono ?_;rintro e u' w' ⟨rfl,rfl,rfl⟩;refine⟨.tuple #[pV (w.heap.size+1+1),iV 0],by simp[results,Tryz.results78,go_sem,ec,el],_,rfl,?_⟩;exact(Sep.dE [2,3,0,1] h2.out aQ bM:Sep w0 _ (_::_::aG (w.heap.size+1+1) p false::aN p D.fl::R)).drop 2
end
theorem agN :∀args w,(callFunc 77 args).run Tryz.prog w= .ok (.enter 77 args) w:=Go.Proofs.enters_of Tryz.func77 fZ rfl
theorem apW {w:World} {be bl:Nat} {u:FrameMode} (hc:w.cell? ⟨be,0,none⟩=some (iV 0)):
  CallsD Tryz.prog 77 #[pV be,pV bl] u w fun e u' w'=>u'=u/\e= .returned (.tuple #[])/\w'=w:=by
 refine(callsD_of_wp (R:=fun e w'=>e= .returned (.tuple #[])/\w'=w) Tryz.func77 rfl ?_).mono ?_
 ·simp only[Tryz.ntmps77,mK,nV,kW,Nat.reduceAdd,Nat.reduceSub,HV,HY,H6,HZ,pG,pF];go_wp2_with fail
  go_end0
  exact⟨rfl,rfl⟩
 rintro e u' w' ⟨h1,h2,h3⟩;exact⟨h1,h2,h3⟩
def NK (c:fO) (k:Nat):Int:=uD (fun n=>kD (aH c n).kind (aH c n).size) k
def NL (c:fO) (k:Nat):Int:=uD (fun n=>nP (aH c n).kind) k
def PY (c:fO):Nat->Nat
 |0=>0
 |k+1=>if(aH c k).kind=1 then PY c k+(aH c k).size else PY c k
theorem am5 {c:fO} {N k:Nat} (h:∀n<N,(aH c n).size<=65535) (hk:k<=N):0<=NK c k/\NK c k<=4100*k:=by
 induction k with
 |zero=>exact⟨by show(0:Int)<=0;decide,by show(0:Int)<=0;decide⟩
 |succ k ih=>have h1:=ih aD;have h2:=QP (kind:=(aH c k).kind) (h k aD);unfold NK at*;rw[kZ];omega
theorem am6 {c:fO} (k:Nat):0<=NL c k/\NL c k<=k:=by
 induction k with
 |zero=>exact⟨by show(0:Int)<=0;decide,by show(0:Int)<=0;decide⟩
 |succ k ih=>have h2:=LC (kind:=(aH c k).kind);unfold NL at*;rw[kZ];omega
theorem am7 {c:fO} {N k:Nat} (h:∀n<N,(aH c n).size<=65535) (hk:k<=N):PY c k<=65535*k:=by
 induction k with
 |zero=>exact jL _
 |succ k ih=>have h1:=ih aD;have h2:=h k aD;unfold PY;split<;>omega
def VS.bare (nb:Nat) (D:DK):VS:=⟨nb,0,D,D.now.drop 96,0,0,0,0,0,0⟩
def VS.O4 (nb N:Nat) (D:DK) (k:Nat):VS:=⟨nb,N,D,D.now.drop 96,NK (D.now.drop 96) k,NL (D.now.drop 96) k,PY (D.now.drop 96) k,(nb-96-(2+(N+7)/8):Nat),N,0⟩
structure ZV (nb N:Nat) (D:DK):Prop where
 pI:D.ok nb
 on:D.off=false
 back:D.back=[]
 n2:N<=1024
 room:98+(N+7)/8<nb
 mark:(bk D.now 96).take 16=vR
 names:r2 (bk D.now 96) 16=N
 aB:∀n<N,(aH (D.now.drop 96) n).aB.length<=28
 size:∀n<N,(aH (D.now.drop 96) n).size<=65535
 kind:∀n<N,(aH (D.now.drop 96) n).kind<=255
theorem ZV.bare {nb N fb:Nat} {D:DK} (h:ZV nb N D):VC (VS.bare nb D) ⟨none,[],fb,[]⟩:=
 ⟨h.pI,by have:=h.room;show 96<nb;omega,h.on,h.pI.now.drop 96,fun x hx=>absurd hx MR,fun x hx=>absurd hx MR,fun k hk _=>by(show bk (D.now.drop 96) k=_);rw[vM,Nat.add_comm];rfl,jL _,fun _=>rfl⟩
theorem VC.same {S S':VS} {a:VA} (h:VC S a) (h1:S'.nb=S.nb) (h2:S'.D=S.D) (h3:S'.cur=S.cur) (h4:S'.m=S.m):VC S' a:=by
 refine⟨?_,?_,?_,?_,?_,?_,?_,?_,h.none⟩
 ·rw[h1,h2];exact h.pI
 ·rw[h1];exact h.big
 ·rw[h2];exact h.on
 ·rw[h1,h3];exact h.cur
 ·rw[h1,h2];exact h.seen
 ·rw[h1,h3];exact h.fresh
 ·rw[h1,h2,h3];exact h.rest
 rw[h4];exact h.few
section
variable {w0 w W:World} {R:List bK}
theorem Sep.LX {f q p:Nat} {S S':VS} {a:VA} (h:Sep w0 w (aF f q p S a::R)) (j:Nat) (u:Value) (hD:S'.D=S.D)
  (hc:(#[pV q,.map a.sb,.map (some a.fb),iV S.names,.bool false,iH S.wB S.wI,iV S.nodes,iH S.rB S.rI]:Array Value).setIfInBounds j u=#[pV q,.map a.sb,.map (some a.fb),iV S'.names,.bool false,iH S'.wB S'.wI,iV S'.nodes,iH S'.rB S'.rI]):
  Sep w0 (w.setCell ⟨f,j,none⟩ u) (aF f q p S' a::R):=by
 have h1:=h.bE.bS 0 rfl j u;have h2:Sep w0 (w.setCell ⟨f,j,none⟩ u) (pK f q p S' a++R):=by rw[hc]at h1;unfold pK l7;rw[hD];exact h1
 exact h2.dG
noncomputable def ZW (k:Nat):Code:=(Tryz.f33.body.bind (ae3 k)).getD .skip
theorem akQ {p nb N F bf be q fb:Nat} {D:DK} {u1 u5 u6 u7 u8 u9 u10 u11 u12 u13 u14 u15 u16 u17 u18 u19 u20 u21 u22 u23 u24 u25 u26 u27 u28 u29 u30 u31 u32 u33 u34 u35 u36 u37 u38 u39 u40 u41 u42 u43 u44 u45 u46 u47 u48 u49 u50 u51 u52 u53 u54 u55 u56 u57 u58 u59 u60 u61 u62 u63 u64 u65 u66 u67 u68 u69 u70 u71 u72 u73 u74 u75 u76 u77 u78 u79 u80 u81 u82 u83 u84 u85 u86 u87 u88 u89 u90 u91 u92 u93 u94 u95 u96 u97 u98 u99 aC3 aC4 aC5 aC6 aC7 u105 aC8 aC9 aDA aDB aDC aDD aDE aPB aPC aPD aPE aPF aPG u119 aPH aPI aPJ aPK u124 aPL:Value} (hM:ZV nb N D) (hW:Sep w0 W (aF F q p (VS.bare nb D) ⟨none,[],fb,[]⟩::aI be 0:: .box bf 24 #[pV F]::R)):
  (ZW 9).wp Tryz.prog (bodyPostD Tryz.prog Tryz.f33 (fun e w'=>∃f q,e= .returned (.tuple #[pV f,iV 0])/\Sep w0 w' (bI f q p (VS.O4 nb N D N)::R))) {tmps:=#[pV p,u1,pV bf,pV be,pV q,u5,u6,u7,u8,u9,u10,u11,u12,u13,u14,u15,u16,u17,u18,u19,u20,u21,u22,u23,u24,u25,u26,u27,u28,u29,u30,u31,u32,u33,u34,u35,u36,u37,u38,u39,u40,u41,u42,u43,u44,u45,u46,u47,u48,u49,u50,u51,u52,u53,u54,u55,u56,u57,u58,u59,u60,u61,u62,u63,u64,u65,u66,u67,u68,u69,u70,u71,u72,u73,u74,u75,u76,u77,u78,u79,u80,u81,u82,u83,u84,u85,u86,u87,u88,u89,u90,u91,u92,u93,u94,u95,u96,u97,u98,u99,aC3,aC4,aC5,aC6,aC7,u105,aC8,aC9,aDA,aDB,aDC,aDD,aDE,aPB,aPC,aPD,aPE,aPF,aPG,u119,aPH,aPI,aPJ,aPK,u124,aPL],defers:=[{target:=.fn (.func 41) #[],args:=#[pV F,pV be]},{target:=.fn (.func 77) #[pV be,pV bf],args:=#[]}]} W:=by
 obtain⟨Z,hZ⟩:∃Z,Z=aI be 0:: .box bf 24 #[pV F]::R:=⟨_,rfl⟩;have hcz:Hid (∀W Y,Sep w0 W (Y++Z)->W.cell? ⟨bf,0,none⟩=some (pV F)):=Lh fun W Y hW=>by rw[hZ]at hW;exact hW.dO 1 rfl 0
 rw[<-hZ]at hW;have hC0:VC (VS.bare nb D) ⟨none,[],fb,[]⟩:=hM.bare;have hroom:=hM.room;have hn2:=hM.n2;have hgt:=KF (i:=0) hC0 (by show 0<nb-96;omega) hW;have hbk0:bk (VS.bare nb D).cur 0=bk D.now 96:=by(show bk (D.now.drop 96) 0=_);rw[vM]
 have hbl:(bk D.now 96).length=512:=kJ hM.pI.now aD
 --behind get
 have hg2:Hid (∀w9 v a',Reads (VS.bare nb D) ⟨none,[],fb,[]⟩ a'->EC F q p (VS.bare nb D) a' 0 v w0 w9 Z->∃g c,v=sV g 512 c/\512<=c/\(convert 35 9 (sV g 16 c)).run Tryz.prog w9= .ok (.string ⟨#[115,104,117,110,116,45,118,111,108,117,109,101,45,49,33,10]⟩) w9/\
   w9.cell? ⟨bf,0,none⟩=some (pV F)/\(Calls Tryz.prog 80 #[sV g 512 c,iV 16] w9.drew fun e w'=>e= .returned (iV N)/\∃n,w'=w9.drew.drewN n)/\VC (VS.bare nb D) a'/\Sep w0 w9 (aF F q p (VS.bare nb D) a'::Z)):=Lh fun w9 v a' hR hG=>by
  have h1:=hG.out;rw[hbk0]at h1;obtain⟨g,c,rfl,_,_,hc,_⟩:=h1.iU 0 rfl (by rw[hbl];decide);rw[hbl]at hc;(have hb:BytesAt w9 (sV g 512 c) (bk D.now 96):=by have:=h1.rd 0 rfl;rw[hbl]at this;unfold BytesAt;rw[hbl];exact this);refine⟨g,c,by rw[hbl],hc,?_,hcz.out w9 [_] hG.iJ,?_,hR.ok,hG.iJ⟩
  ·have:=jX (hb.sub (o:=0) (m:=16) aD);rw[YJ,hM.mark]at this;exact this
  have hb2:BytesAt w9.drew (sV g 512 c) (bk D.now 96):=hb.below (Below.refl _ _).drew;have:=MU (i:=16) hb2 aD aD;rw[hM.names]at this;exact this
 have hVF:VF (VS.O4 nb N D 0):=⟨hn2,by show 96+(2+(N+7)/8)<nb;omega⟩;have hc0:=hcz.out W [_] hW
 --the number of inodes
 have hnm:Hid (∀w9 a',VC (VS.bare nb D) a'->Sep w0 w9 (aF F q p (VS.bare nb D) a'::Z)->w9.frozen? ⟨F,3,none⟩=false/\w9.cell? ⟨F,3,none⟩=some (iV 0)/\∀S',S'= {VS.bare nb D with names:=N}->VC S' a'/\Sep w0 (w9.setCell ⟨F,3,none⟩ (.int .i64 N)) (aF F q p S' a'::Z)):=Lh fun w9 a' hC h9=>
  ⟨h9.bE.bF 0 rfl 3,h9.bE.bC 0 rfl 3,fun S' e=>by subst e;exact⟨hC.same rfl rfl rfl rfl,h9.LX (S':= {VS.bare nb D with names:=N}) 3 (.int .i64 N) rfl rfl⟩⟩
 clear hC0 hbk0 hbl hW;unfold ZW
 conv=>arg 2;whnf
 go_wp2_with fail;go_at_call 79;refine hgt.mono ?_;rintro e w9 ⟨v,a',rfl,hR,hG⟩;obtain⟨g,c,rfl,aTM,hcv,hcb,hrd,eG,h9⟩:=hg2.out _ _ _ hR hG;have hc16:(16:Int)<=(c:Int):=by omega
 clear hR hG hgt hg2 hc0;go_wp2_with fail;have aDQ:=hcz.out _ [_] h9.drew;refine fP ?_;refine aJ (S:=fun w'=>w'.cell? ⟨bf,0,none⟩=some (pV F)) 9 ?_;refine aA 0 aDQ ?_;refine aA 1 aDQ ?_;refine bG 2 fun K hK=>?_
 go_simp;go_at_call 80;refine hrd.mono ?_;rintro e w8 ⟨rfl,n8,h8⟩;obtain rfl:=h8.symm;have h10:=Lh (h9.drew.drewN n8);have agO:=hcz.out _ [_] h10.out;obtain⟨f3,c3,aDR⟩:=hnm.out _ _ eG h10.out;clear h9 hrd aDQ hcb hcv hnm;dsimp only;refine hK _ _ (fun _=>agO) ?_;clear hK K;try simp only[Act.put,gD]
 obtain⟨w10,apX⟩:∃w10,w10=w9.drew.drewN n8:=⟨_,rfl⟩;rw[<-apX]at h10 agO f3 c3 aDR ⊢;clear apX;refine aA 3 agO ?_;refine aA 4 agO ?_;refine aA 5 agO ?_;refine aA 6 agO ?_;refine aA 7 agO ?_;obtain⟨S1,hS1⟩:∃S1:VS,S1= {VS.bare nb D with names:=N}:=⟨_,rfl⟩;obtain⟨lU,h11⟩:=aDR S1 hS1;have ax5:=hcz.out _ [_] h11;replace h11:=Lh h11;clear aDR;refine aW 8 (fun _=>ax5) ?_;refine aR fZ ?_ _;simp only[jT];clear f3 c3 agO h10 eG;obtain⟨w11,aIY⟩:∃w11,w11=w10.setCell ⟨F,3,none⟩ (.int .i64 N):=⟨_,rfl⟩;rw[<-aIY]at h11 ax5 ⊢;clear aIY;have akB:VF S1:=by rw[hS1];exact⟨hVF.names,hVF.room⟩
 have hct:=zZ lU akB h11.out;obtain⟨M,hM1⟩:∃M,M=S1.count:=⟨_,rfl⟩;rw[<-hM1]at hct;have hMv:M=nb-96-(2+(N+7)/8):=by rw[hM1,hS1];rfl
 have hM0:(1:Int)<=M:=by omega
 have hM4:(M:Int)<=4096:=by have:=hM.pI.few;omega
 have aIZ:=Lh hct;clear hct hM1;go_wp2_with(go_at_call 81;refine aIZ.out.mono ?_;rintro e w7 ⟨rfl,h7⟩;obtain rfl:=h7.symm)
 --the room
 have yX:(w11.drew.cell? ⟨bf,0,none⟩=some (pV F)/\w11.drew.cell? ⟨F,3,none⟩=some (iV N)):=⟨hcz.out _ [_] h11.out.drew,by have:=h11.out.drew.bE.bC 0 rfl 3;rw[hS1]at this;exact this⟩;have h12:=Lh h11.out.drew;have anA:=zZ lU akB h12.out;rw[show S1.count=M by rw[hMv,hS1];rfl]at anA;have f7:=h12.out.bE.bF 0 rfl 7;have c7:=h12.out.bE.bC 0 rfl 7;have c7':w11.drew.cell? ⟨F,7,none⟩=some (.complex .f64 (fI 0) (fI 0)):=by rw[hS1]at c7;exact c7
 have aI1:=fun x y=>uB x y c7' f7
 have hC2:VC (VS.O4 nb N D 0) a':=lU.same (by rw[hS1];rfl) (by rw[hS1];rfl) (by rw[hS1];rfl) (by rw[hS1];rfl);have WJ:Hid (Sep w0 (w11.drew.setCell ⟨F,7,none⟩ (iH M N)) (aF F q p (VS.O4 nb N D 0) a'::Z)):=Lh (h12.out.LX (S':=VS.O4 nb N D 0) 7 (iH M N) (by rw[hS1];rfl) (by rw[hS1,hMv];rfl));have aDS:((w11.drew.setCell ⟨F,7,none⟩ (iH M N)).cell? ⟨bf,0,none⟩=some (pV F)/\(w11.drew.setCell ⟨F,7,none⟩ (iH M N)).cell? ⟨F,3,none⟩=some (iV N)):=⟨hcz.out _ [_] WJ.out,WJ.out.bE.bC 0 rfl 3⟩;have aV7:=Lh hMv;clear c7 c7' aIZ h11 ax5 hMv hS1;refine fP ?_;refine aJ (S:=fun w'=>w'.cell? ⟨bf,0,none⟩=some (pV F)/\w'.cell? ⟨F,3,none⟩=some (iV N)) 20 ?_;obtain⟨w12,aI2⟩:∃w12,w12=w11.drew:=⟨_,rfl⟩;rw[<-aI2]at yX h12 anA f7 aI1 WJ aDS ⊢;clear aI2 h12;refine aA 0 yX ?_;refine aA 1 yX ?_;refine aA 2 yX ?_;refine aA 3 yX ?_;refine aA 4 yX ?_;refine aA 5 yX ?_;refine aA 8 yX ?_;refine aA 9 yX ?_;refine aA 10 yX ?_;refine aA 11 yX ?_;refine aA 12 yX ?_;refine aA 13 yX ?_;refine aA 14 yX ?_;refine aA 15 yX ?_;refine bG 6 fun K hK=>?_
 go_simp;go_at_call 81;refine anA.mono ?_;rintro e w7 ⟨rfl,h7⟩;obtain rfl:=h7.symm;dsimp only;refine hK _ _ (fun _=>yX) ?_;clear hK K;try simp only[Act.put,gD]
 refine aW 7 (fun _=>yX) ?_;refine aW 16 (fun _=>yX) ?_;refine aW 17 (fun _=>yX) ?_;refine aW 18 (fun _=>yX) ?_;refine bG 19 fun K hK=>?_
 go_simp;have hfo:∀z:Int,floatOfInt FloatKind.f64 z=fI z:=fun _=>rfl
 rw[hfo,hfo];refine hK _ _ (fun _=>aDS) ?_;clear hK K;try simp only[Act.put,gD]
 refine aR fZ ?_ _;simp only[jT];obtain⟨w13,apO⟩:∃w13,w13=w12.setCell ⟨F,7,none⟩ (.complex .f64 (fI (M:Int)) (fI (N:Int))):=⟨_,rfl⟩;have h14:Hid (Sep w0 w13 (aF F q p (VS.O4 nb N D 0) a'::Z)):=by rw[apO];exact WJ
 rw[<-apO];clear apO WJ aDS aI1 f7 anA yX;have hc16:=hcz.out _ [_] h14.out;have hn3:w13.cell? ⟨F,3,none⟩=some (iV N):=h14.out.bE.bC 0 rfl 3;have hN3:(N:Int)<=1024:=by omega
 go_wp2_with fail;clear hn3 hc16;go_loopw[86] (fun iv wr=>∃(k:Nat) (a2:VA),iv=iV k/\k<=N/\VC (VS.O4 nb N D k) a2/\Hid (Sep w0 wr (aF F q p (VS.O4 nb N D k) a2::Z))) (fun iv _=>N-(intOf iv).toNat)
 case atStart=>exact⟨0,a',rfl,iF _,hC2,h14⟩
 clear h14 hC2;obtain⟨k,a2,rfl,hk,hC,hS⟩:=hrel;have hc0:=hcz.out _ [_] hS.out;by_cases hlt:k<N
 ·obtain⟨c,hcd⟩:∃c,c=D.now.drop 96:=⟨_,rfl⟩;have aPM:VF (VS.O4 nb N D k):=⟨hVF.names,hVF.room⟩;have hin:=jM (n:=k) hC aPM hlt (hM.aB k hlt) hS.out;obtain⟨x,hx⟩:∃x,x=aH (VS.O4 nb N D k).cur k:=⟨_,rfl⟩;rw[<-hx]at hin;(have hxs:x.size<=65535:=by rw[hx];exact hM.size k hlt);(have hxk:x.kind<=255:=by rw[hx];exact hM.kind k hlt);have hin':Hid (Calls Tryz.prog 64 #[pV F,iV k] wr fun e w'=>∃A n c a',e= .returned (.agg #[iV (x.kind:Nat),iV (x.mode:Nat),iV (x.links:Nat),iV (x.size:Nat),.slice A n c])/\VC (VS.O4 nb N D k) a'/\Sep w0 w' (aF F q p (VS.O4 nb N D k) a'::Z)):=Lh (hin.mono fun e w' ⟨v,a',h1,h2,h3⟩=>by obtain⟨A,c,rfl,_⟩:=h3.yR 0 rfl;exact⟨A,_,c,a',h1,h2.ok,h3.drop 1⟩);(have hwg:Hid (∀W A n c,Calls Tryz.prog 82 #[.agg #[iV (x.kind:Nat),iV (x.mode:Nat),iV (x.links:Nat),iV (x.size:Nat),.slice A n c]] W fun e w'=>e= .returned (iH (kD x.kind x.size) (nP x.kind))/\Below W.heap.size W w'):=Lh fun W A n c=>JP hxs hxk W);(have p1:(0:Int)<=(k:Int):=by omega);(have p2:(k:Int)<N:=by omega);have hB0:=am5 hM.size hk;have hB1:=am5 hM.size (show k+1<=N from hlt);have hI0:=am6 (c:=D.now.drop 96) k;have hI1:=am6 (c:=D.now.drop 96) (k+1);have hD0:=am7 hM.size hk;have hD1:=am7 hM.size (show k+1<=N from hlt);(have eB:NK (D.now.drop 96) (k+1)=NK (D.now.drop 96) k+kD x.kind x.size:=by rw[hx];unfold NK;rw[kZ];rfl);(have eI:NL (D.now.drop 96) (k+1)=NL (D.now.drop 96) k+nP x.kind:=by rw[hx];unfold NL;rw[kZ];rfl);(have eD:PY (D.now.drop 96) (k+1)=if x.kind=1 then PY (D.now.drop 96) k+x.size else PY (D.now.drop 96) k:=by rw[hx];rfl);have hwB:=QP (kind:=x.kind) hxs;have hwI:=LC (kind:=x.kind);(have aDT:∀W,(binOp .add 44 (iH (NK (D.now.drop 96) k) (NL (D.now.drop 96) k)) (iH (kD x.kind x.size) (nP x.kind))).run Tryz.prog W= .ok (iH (NK (D.now.drop 96) (k+1)) (NL (D.now.drop 96) (k+1))) W:=fun W=>by rw[eB,eI]at*;exact agP _ _ _ _ _ (by unfold eH;omega) (by unfold eH;omega) (by unfold eH;omega) (by unfold eH;omega) (by unfold eH;omega) (by unfold eH;omega) W);have hx':=Lh hx;have eB':=Lh eB;have eI':=Lh eI;have eD':=Lh eD;obtain⟨B1,hBe⟩:∃B,B=NK (D.now.drop 96) (k+1):=⟨_,rfl⟩;obtain⟨I1,hIe⟩:∃B,B=NL (D.now.drop 96) (k+1):=⟨_,rfl⟩;obtain⟨B0,aDU⟩:∃B,B=NK (D.now.drop 96) k:=⟨_,rfl⟩;obtain⟨I0,aDV⟩:∃B,B=NL (D.now.drop 96) k:=⟨_,rfl⟩;obtain⟨D0,aDW⟩:∃B,B=PY (D.now.drop 96) k:=⟨_,rfl⟩;rw[<-hBe,<-hIe,<-aDU,<-aDV]at aDT;replace aDT:∀W,(binOp .add 44 (iH B0 I0) (iH (kD x.kind x.size) (nP x.kind))).run Tryz.prog W= .ok (.complex .f64 (fI B1) (fI I1)) W:=aDT;rw[<-aDW]at hD0;have aI4:=Lh hBe;have aI5:=Lh hIe;have aI6:=Lh aDU;have aI7:=Lh aDV;have auW:=Lh aDW;clear hin hC hS hx eB eI eD hB0 hB1 hI0 hI1 hD1 hBe hIe aDU aDV aDW hwB hwI;go_wp2_with(go_at_call 64;refine hin'.out.mono ?_;rintro e w9 ⟨Av,nv,cv,a3,rfl,WI,h9⟩;have h10:=Lh (h9.bN 118 #[iV (x.kind:Nat),iV (x.mode:Nat),iV (x.links:Nat),iV (x.size:Nat),.slice Av nv cv]);clear h9 hin');obtain⟨w10,apX⟩:∃w10,w10=w9.alloc (.cells #[iV (x.kind:Nat),iV (x.mode:Nat),iV (x.links:Nat),iV (x.size:Nat),.slice Av nv cv] 118):=⟨_,rfl⟩;obtain⟨bx,hbx⟩:∃b,b=w9.heap.size:=⟨_,rfl⟩;rw[<-apX,<-hbx]at h10;rw[<-apX,<-hbx];clear apX hbx;have hE:Hid (∀W,Sep w0 W (.box bx 118 #[iV (x.kind:Nat),iV (x.mode:Nat),iV (x.links:Nat),iV (x.size:Nat),.slice Av nv cv]::aF F q p (VS.O4 nb N D k) a3::Z)->
    W.cell? ⟨bf,0,none⟩=some (pV F)/\W.cell? ⟨F,5,none⟩=some (iH B0 I0)/\W.cell? ⟨bx,0,none⟩=some (iV (x.kind:Nat))/\W.cell? ⟨bx,1,none⟩=some (iV (x.mode:Nat))/\W.cell? ⟨bx,2,none⟩=some (iV (x.links:Nat))/\W.cell? ⟨bx,3,none⟩=some (iV (x.size:Nat))/\W.cell? ⟨bx,4,none⟩=some (.slice Av nv cv)):=Lh fun W hW=>by
   refine⟨hcz.out W [_,_] hW,?_,hW.bC 0 rfl 0,hW.bC 0 rfl 1,hW.bC 0 rfl 2,hW.bC 0 rfl 3,hW.bC 0 rfl 4⟩;rw[aI6.out,aI7.out];exact(hW.drop 1).bE.bC 0 rfl 5
  have hE20:=hE.out _ h10.out.drew;refine fP ?_;refine aJ (S:=fun W=>W.cell? ⟨bf,0,none⟩=some (pV F)/\W.cell? ⟨F,5,none⟩=some (iH B0 I0)/\W.cell? ⟨bx,0,none⟩=some (iV (x.kind:Nat))/\W.cell? ⟨bx,1,none⟩=some (iV (x.mode:Nat))/\W.cell? ⟨bx,2,none⟩=some (iV (x.links:Nat))/\W.cell? ⟨bx,3,none⟩=some (iV (x.size:Nat))/\W.cell? ⟨bx,4,none⟩=some (.slice Av nv cv)) 13 ?_;refine aA 0 hE20 ?_;refine aA 1 hE20 ?_;refine aA 2 hE20 ?_;refine aA 3 hE20 ?_;refine aA 4 hE20 ?_;refine aA 5 hE20 ?_;refine aA 6 hE20 ?_;(refine bG 7 fun K hK=>?_);go_simp;go_at_call 82;refine(hwg.out _ _ _ _).mono ?_;rintro e w7 ⟨rfl,hb7⟩;have h11:=Lh (h10.out.drew.pure hb7);have agQ:=hE.out _ h11.out;clear hE20 h10 hb7;dsimp only;refine hK _ _ (fun _=>agQ) ?_;clear hK K;(try simp only[Act.put,gD]);refine aW 8 (fun _=>agQ) ?_;refine aW 9 (fun _=>agQ) ?_;refine aW 10 (fun _=>agQ) ?_;refine aW 11 (fun _=>agQ) ?_;refine aW 12 (fun _=>agQ) ?_;obtain⟨S5,hS5⟩:∃S5:VS,S5=⟨nb,N,D,D.now.drop 96,B1,I1,D0,(nb-96-(2+(N+7)/8):Nat),N,0⟩:=⟨_,rfl⟩;have aDX:=h11.out.perm (List.Perm.swap _ _ _);have f5:=aDX.bE.bF 0 rfl 5;have h12:=aDX.LX (S':=S5) 5 (iH B1 I1) (by rw[hS5];rfl) (by rw[hS5,auW.out];rfl);(have aPO:=fun x y=>uB x y agQ.2.1 f5);have J8:VC S5 a3:=WI.same (by rw[hS5];rfl) (by rw[hS5];rfl) (by rw[hS5];rfl) (by rw[hS5];rfl);have hcb:=hcz.out _ [_,_] h12;have hk0:=h12.bC 1 rfl 0;have hk3:=h12.bC 1 rfl 3;(have hn6:(w7.setCell ⟨F,5,none⟩ (iH B1 I1)).cell? ⟨F,6,none⟩=some (iV (D0:Nat)):=by have:=h12.bE.bC 0 rfl 6;rw[hS5]at this;exact this);simp only[gA,gB,gC]at hk0 hk3;replace h12:=Lh h12;clear aDX f5 h11 WI;refine aW 13 (fun h=>absurd rfl h) ?_;refine aR fZ ?_ _;simp only[jT];obtain⟨w8,hw8⟩:∃w8,w8=w7.setCell ⟨F,5,none⟩ (.complex .f64 (fI B1) (fI I1)):=⟨_,rfl⟩;have aI8:w8=w7.setCell ⟨F,5,none⟩ (iH B1 I1):=hw8;rw[<-hw8];rw[<-aI8]at h12 hcb hk0 hk3 hn6;clear hw8 aI8 aPO agQ;have akK:=Lh hS5;clear hS5;by_cases hkd:x.kind=1
  ·(have aPP:((x.kind:Nat):Int)=1:=by omega);(have hdone:VS.O4 nb N D (k+1)= {S5 with nodes:=D0+x.size}:=by rw[akK.out,aI4.out,aI5.out,auW.out];unfold VS.O4;rw[eD'.out,if_pos hkd,aeG]);have OI:Hid (VC (VS.O4 nb N D (k+1)) a3):=Lh (by rw[hdone];exact J8.same rfl rfl rfl rfl);(have b22:(D0:Int)<=100000000:=by omega);(have b23:(x.size:Int)<=65535:=by omega);have NM:(w8.drew.cell? ⟨bf,0,none⟩=some (pV F)/\w8.drew.cell? ⟨F,6,none⟩=some (iV (D0:Nat))/\w8.drew.cell? ⟨bx,3,none⟩=some (iV (x.size:Nat))):=⟨hcb,hn6,hk3⟩;have WJ:=Lh h12.out.drew;have f6:=WJ.out.bE.bF 0 rfl 6;have h14:Hid (Sep w0 (w8.drew.setCell ⟨F,6,none⟩ (.int .i64 ((D0:Int)+x.size))) (aF F q p (VS.O4 nb N D (k+1)) a3:: .box bx 118 #[iV (x.kind:Nat),iV (x.mode:Nat),iV (x.links:Nat),iV (x.size:Nat),.slice Av nv cv]::Z)):=Lh (by rw[hdone];exact WJ.out.LX (S':= {S5 with nodes:=D0+x.size}) 6 _ rfl (by rw[Array.setIfInBounds];simp));clear J8 hn6 h12 hcb hk3 hdone;go_wp2_with fail;refine fP ?_;refine aJ (S:=fun W=>W.cell? ⟨bf,0,none⟩=some (pV F)/\W.cell? ⟨F,6,none⟩=some (iV (D0:Nat))/\W.cell? ⟨bx,3,none⟩=some (iV (x.size:Nat))) 13 ?_;refine aA 0 NM ?_;refine aA 1 NM ?_;refine aA 2 NM ?_;refine aA 3 NM ?_;refine aA 4 NM ?_;refine aA 5 NM ?_;refine aA 6 NM ?_;refine aA 7 NM ?_;refine aA 8 NM ?_;refine aW 9 (fun _=>NM) ?_;refine aW 10 (fun _=>NM) ?_;refine aW 11 (fun _=>NM) ?_;refine aW 12 (fun _=>NM) ?_;refine aW 13 (fun h=>absurd rfl h) ?_;refine aR fZ ?_ _;simp only[jT];go_wp2_with fail;refine⟨⟨k+1,a3,by go_num,by omega,OI.out,?_⟩,?_⟩
   ·exact Lh ((h14.out.perm (List.Perm.swap _ _ _)).drop 1)
   (show N-((k:Int)+1).toNat<N-((k:Int)).toNat);omega
  (have aPP:(((x.kind:Nat):Int)==1)=false:=by rw[mM];omega);(have hdone:S5=VS.O4 nb N D (k+1):=by rw[akK.out,aI4.out,aI5.out,auW.out];unfold VS.O4;rw[eD'.out,if_neg hkd]);have OI:=Lh J8;clear J8 hn6;go_wp2_with fail;refine⟨⟨k+1,a3,by go_num,by omega,by rw[<-hdone];exact OI.out,?_⟩,?_⟩
  ·rw[<-hdone];exact Lh ((h12.out.perm (List.Perm.swap _ _ _)).drop 1)
  (show N-((k:Int)+1).toNat<N-((k:Int)).toNat);omega
 obtain rfl:N=k:=by omega
 have q1:¬(N:Int)<(N:Int):=by omega
 have hE:=hS.out;rw[hZ]at hE;have d1:=hE.bF 2 rfl 0;have hE2:=hE.bS 2 rfl 0 (pV F);have d2:=hE2.bC 1 rfl 0;have d3:=hE2.bF 1 rfl 0;have H7:=Lh (hE2.bS 1 rfl 0 (.int .i64 0));have eG:=Lh hC;clear hE hE2 hC hS;go_wp2_with fail;refine iY ?_;have ec:=H7.out.bC 1 rfl 0;have el:=H7.out.bC 2 rfl 0;try simp only[gA,gB]at ec el
 refine leaves_cons (u:=.returning) bM (qK _ _ agN) ?_;refine(apW ec).mono ?_;rintro e u' w' ⟨rfl,rfl,rfl⟩;refine⟨.tuple #[pV F,iV 0],by simp[results,Tryz.results33,go_sem,ec,el],F,rfl,q,?_⟩;have hv:Sep w0 _ (aF F q p (VS.O4 nb N D N) a2::R):=(Sep.dE [1,2,0] H7.out aQ bM:Sep w0 _ (_::_::aF F q p (VS.O4 nb N D N) a2::R)).drop 2;exact qW eG.out hM.back hv
end
end Go.Proofs.YteihmbaimbogaaaGreat
