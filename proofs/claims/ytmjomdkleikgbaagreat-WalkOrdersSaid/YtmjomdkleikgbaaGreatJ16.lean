/- Parts. -/
import Derived.Test.YtmjomdkleikgbaaGreatJ15
import Derived.OwnWalk
set_option linter.unusedVariables false
set_option linter.unusedSimpArgs false
set_option maxRecDepth 100000
set_option maxHeartbeats 20000000
namespace Go.Proofs.YtmjomdkleikgbaaGreat
open Go.RowKit
structure VW (S:VS):Prop where
 vf:VF S
 n0:0<S.names
 few:∀n<S.names,(aF S.cur n).aB.length<=28
 lt:∀n<S.names,∀s∈(aF S.cur n).aB,s<S.count
 dir:∀n<S.names,(aF S.cur n).kind=1->FR S (aF S.cur n)
 ent:∀n<S.names,(aF S.cur n).kind=1->∀e∈jL S.cur S.data (aF S.cur n),e.2<S.names/\e.1.length<=15
def aP (c:fK) (d:Nat):Nat->Nat->List (List UInt8)->Int×Int×Int
 |dir,n,[]=>(dir,n,0)
 |dir,n,name::l=>
  if(aF c n).kind=1 then
   (if 0<=(jY (jL c d (aF c n)) name).1 then aP c d n (jY (jL c d (aF c n)) name).2 l
   else if l=[]then(n, -1,0)else(0,0,21))
  else(0,0,22)
theorem KX (L:tJ) (name:List UInt8):(∃i:Nat,i<L.length/\(rT L i).1=name/\jY L name=((i:Int),(rT L i).2))\/((∀j<L.length,(rT L j).1≠name)/\jY L name=(-1,0)):=by
 unfold jY;cases h:L.findIdx? fun e=>e.1==name with
 |none=>right;rw[ZC]at h;refine⟨fun j hj=>?_,rfl⟩;have:=h _ (nJ hj);rw[tK]at this;simpa using this
 |some i=>left;rw[Y4]at h;obtain⟨h1,h2,_⟩:=h;rw[tK]at h2;exact⟨i,h1,by simpa using h2,rfl⟩
section
variable {w0 w:World} {R:List aV} {f q p:Nat} {S:VS} {a:VA}
theorem OE {path:List UInt8} (hC:VC S a) (hV:VW S) (hv:aU path=true) (avM:path.length<=1048576) (h:Sep w0 w (aD f q p S a::R)):
  Calls Tryz.prog 69 #[pV f,aC path] w fun e w'=>e= .returned (.tuple #[iV (aP S.cur S.data 0 0 (splitB path)).1,iV (aP S.cur S.data 0 0 (splitB path)).2.1,iV (aP S.cur S.data 0 0 (splitB path)).2.2])/\∃a',Reads S a a'/\Sep w0 w' (aD f q p S a'::R):=by
 have hnm:=aeF hv avM w;obtain⟨r,hr⟩:∃r,r=aP S.cur S.data 0 0 (splitB path):=⟨_,rfl⟩;obtain⟨L,hL⟩:∃L,L=splitB path:=⟨_,rfl⟩;have hL7:L.length<=1048577:=by rw[hL];have:=OC path;omega
 rw[<-hr];rw[<-hL]at hnm hr;obtain⟨N,hN⟩:∃N,N=L.length:=⟨_,rfl⟩;rw[<-hN]at hnm hL7;have hnm':Calls Tryz.prog 138 #[aC path] w fun e w'=>∃A c,e= .returned (.slice A N c)/\Sep w0 w' (aD f q p S a:: .sl 9 1 (.slice A N c) N (L.map aC)::R):=by refine hnm.mono ?_;rintro e w' ⟨v,rfl,hS⟩;have h1:=h.join hS;obtain⟨A,c,e⟩:=h1.dS 0 rfl;subst e;exact⟨A,c,rfl,h1.perm (List.Perm.swap _ _ _)⟩
 have N1:(N:Int)<=1048577:=by omega
 have hin:Hid (∀W n a1 R',n<S.names->VC S a1->Sep w0 W (aD f q p S a1::R')->Calls Tryz.prog 72 #[pV f,iV (n:Nat)] W fun e w'=>∃A c a2,e= .returned (.agg #[iV ((aF S.cur n).kind:Nat),iV ((aF S.cur n).mode:Nat),iV ((aF S.cur n).links:Nat),iV ((aF S.cur n).size:Nat),.slice A (aF S.cur n).aB.length c])/\Reads S a1 a2/\
   Sep w0 (w'.alloc (.cells #[iV ((aF S.cur n).kind:Nat),iV ((aF S.cur n).mode:Nat),iV ((aF S.cur n).links:Nat),iV ((aF S.cur n).size:Nat),.slice A (aF S.cur n).aB.length c] 129)) (aD f q p S a2:: .box w'.heap.size 129 (aM (aF S.cur n) (.slice A (aF S.cur n).aB.length c))::aQ (.slice A (aF S.cur n).aB.length c) (dX (aF S.cur n).aB)::R')):=Lh fun W n a1 R' hn kE hS=>by
  refine(iW kE hV.vf hn (hV.few n hn) hS).mono ?_;rintro e w' ⟨v,a2,rfl,hR,h9⟩;obtain⟨A,c,e9⟩:=h9.dS 0 rfl;(have hll:(dX (aF S.cur n).aB).length=(aF S.cur n).aB.length:=by unfold dX;rw[iT]);rw[hll]at e9;subst e9;exact⟨A,c,a2,rfl,hR,Sep.dC [2,0,1] (h9.bN 129 (aM (aF S.cur n) (.slice A (aF S.cur n).aB.length c))) aR bK⟩
 have hC':=Lh hC;have hV':=Lh hV;have hr':=Lh hr;have hN':=Lh hN;clear hC hV hv h hnm hr hL hN avM hL7;unfold aC at hnm' ⊢;go_enter Tryz.func69,Tryz.ntmps69;go_wp2_with(go_at_call 138;refine hnm'.mono ?_;rintro e w9 ⟨A9,c9,rfl,h9⟩;replace h9:=Lh h9;clear hnm');go_loopw[4,5,17] (fun d n i wr=>∃(k:Nat) (dir:Nat),k<=N/\i=iV k/\d=iV dir/\((∃m:Nat,m<S.names/\n=iV m/\Hid (aP S.cur S.data dir m (L.drop k)=r))\/(k=N/\n=iV (-1)/\Hid (r=((dir:Int), -1,0))))/\Hid (∃a1,Reads S a a1/\Sep w0 wr (aD f q p S a1:: .sl 9 1 (.slice A9 N c9) N (L.map fun p=>.string ⟨p.toArray⟩)::R))) (fun _ _ i _=>N-(intOf i).toNat)
 case atStart=>exact⟨0,0,fZ _,rfl,rfl,.inl ⟨0,hV'.out.n0,rfl,Lh hr'.out.symm⟩,Lh ⟨a,.refl hC'.out,h9.out⟩⟩
 obtain⟨k,dir,hk,rfl,rfl,hnn,hS⟩:=hrel;clear h9;obtain⟨a1,BU,hS1⟩:=hS.out;clear hS;by_cases hlt:k<N
 ·have hn2:∃m:Nat,m<S.names/\u5=iV m/\Hid (aP S.cur S.data dir m (L.drop k)=r):=by
   rcases hnn with h|⟨h,_⟩
   ·exact h
   omega
  obtain⟨m,hm,rfl,hlk⟩:=hn2;(have hkl:k<L.length:=by rw[<-hN'.out];exact hlt);obtain⟨name,hname⟩:∃name,name=L[k]:=⟨_,rfl⟩;(have hdrop:L.drop k=name::L.drop (k+1):=by rw[YX hkl,hname]);(have hcj:∃ad,A9=some ad/\wr.cell? (ad.add k)=some (.string ⟨name.toArray⟩):=by obtain⟨ad,c8,u9,e,h1,h2⟩:=Rd.at_ (hS1.rd 1 rfl) (k:=k) hlt;cases e;rw[kX,gE hkl,<-hname]at h1;cases h1;exact⟨ad,rfl,h2⟩);obtain⟨ad,rfl,hcj⟩:=hcj;(have q1:(k:Int)<N:=by omega);(have q0:(0:Int)<=k:=by omega);have hc:=hin.out wr m a1 _ hm BU.ok hS1;obtain⟨x,hx⟩:∃x,x=aF S.cur m:=⟨_,rfl⟩;rw[<-hx]at hc;rw[hdrop]at hlk;have hlk2:=hlk.out;rw[aP,<-hx]at hlk2;have hx':=Lh hx;have anC:=Lh BU;have hm':=Lh hm;have aEU:=Lh hdrop;clear hnn hlk hS1 BU hx hm hdrop hname;by_cases hkind:x.kind=1
  case neg=>
   rw[if_neg hkind]at hlk2;(have hk1:((x.kind:Int)==1)=false:=by rw[kD];omega);have ahR:=Lh hlk2;clear hkind hlk2;go_wp2_with(go_at_call 72;refine hc.mono ?_;rintro e w8 ⟨A8,c8,a2,rfl,hR2,h8⟩;(have d0:=(h8.dK 1 rfl).1);replace h8:=Lh h8;replace hR2:=Lh hR2;clear hc)
   go_ret3
   refine⟨?_,a2,anC.out.trans hR2.out,(Sep.dC [1,2,3,0] h8.out aR bK).drop 3⟩;rw[<-ahR.out];rfl
  rw[if_pos hkind]at hlk2;(have hk1:((x.kind:Int)==1)=true:=by rw[sZ];omega);(have hDx:FR S x:=by rw[hx'.out];exact hV'.out.dir m hm'.out (by rw[<-hx'.out];exact hkind));(have hent:∀i<(jL S.cur S.data x).length,(rT (jL S.cur S.data x) i).2<S.names:=fun i hi=>by have h1:=hV'.out.ent m hm'.out (by rw[<-hx'.out];exact hkind) ((jL S.cur S.data x)[i]) (by rw[<-hx'.out];exact nJ hi);rw[tK]at h1;exact h1.1);have hfd:Hid (∀W a2 bx u,VC S a2->Sep w0 W (aD f q p S a2:: .box bx 129 (aM x u)::aQ u (dX x.aB):: .sl 9 1 (.slice (some ad) N c9) N (L.map fun p=>.string ⟨p.toArray⟩)::R)->Calls Tryz.prog 139 #[pV f,.agg #[iV (x.kind:Nat),iV (x.mode:Nat),iV (x.links:Nat),iV (x.size:Nat),u],.string ⟨name.toArray⟩] W fun e w'=>e= .returned (.tuple #[iV (jY (jL S.cur S.data x) name).1,iV ((jY (jL S.cur S.data x) name).2:Nat)])/\∃a',Reads S a2 a'/\Sep w0 w' (aD f q p S a':: .box bx 129 (aM x u)::aQ u (dX x.aB):: .sl 9 1 (.slice (some ad) N c9) N (L.map fun p=>.string ⟨p.toArray⟩)::R)):=Lh fun W a2 bx u hC2 hS2=>
   ZT (name:=name) hC2 hV'.out.vf (jB 1 rfl) hDx hS2
  obtain⟨D,hD⟩:∃D,D=jY (jL S.cur S.data x) name:=⟨_,rfl⟩;rw[<-hD]at hfd hlk2;have hDc:(∃i:Nat,D.1=(i:Int)/\D.2<S.names/\i<=1000)\/D=(-1,0):=by
   rcases KX (jL S.cur S.data x) name with⟨i,h1,_,h2⟩|⟨_,h2⟩
   ·left;rw[hD,h2];have h3:=zT S.cur S.data x;have h4:=hDx.room;have h5:=hDx.few;exact⟨i,rfl,hent i h1,by omega⟩
   right;rw[hD,h2]
  obtain⟨D1,D2⟩:=D;simp only at hfd hlk2 hDc;have ahR:=Lh hlk2;have aLN:=Lh hDx;have aEW:=Lh hDc;clear hkind hlk2 hDx hent hD hDc;go_wp2_with(go_at_call 72;refine hc.mono ?_;rintro e w8 ⟨A8,c8,a2,rfl,hR2,h8⟩;(have d0:=h8.dK 1 rfl);(have awQ:=hfd.out _ _ _ _ hR2.ok h8.drew);replace h8:=Lh h8;replace hR2:=Lh hR2;clear hc);obtain⟨gx,hgx⟩:∃gx,gx=w8.heap.size:=⟨_,rfl⟩;obtain⟨w7,hw7⟩:∃w7,w7=w8.alloc (.cells #[iV (x.kind:Nat),iV (x.mode:Nat),iV (x.links:Nat),iV (x.size:Nat),.slice A8 x.aB.length c8] 129):=⟨_,rfl⟩;rw[<-hw7,<-hgx]at d0 awQ ⊢;clear hw7 hgx;have hE:w7.drew.cell? ⟨gx,0,none⟩=some (iV (x.kind:Nat))/\w7.drew.cell? ⟨gx,1,none⟩=some (iV (x.mode:Nat))/\w7.drew.cell? ⟨gx,2,none⟩=some (iV (x.links:Nat))/\w7.drew.cell? ⟨gx,3,none⟩=some (iV (x.size:Nat))/\w7.drew.cell? ⟨gx,4,none⟩=some (.slice A8 x.aB.length c8):=d0;refine aO (S:=fun w'=>w'.cell? ⟨gx,0,none⟩=some (iV (x.kind:Nat))/\w'.cell? ⟨gx,1,none⟩=some (iV (x.mode:Nat))/\w'.cell? ⟨gx,2,none⟩=some (iV (x.links:Nat))/\w'.cell? ⟨gx,3,none⟩=some (iV (x.size:Nat))/\w'.cell? ⟨gx,4,none⟩=some (.slice A8 x.aB.length c8)) 10 ?_;refine aA 0 hE ?_;refine aA 1 hE ?_;refine aA 2 hE ?_;refine aA 3 hE ?_;refine aA 4 hE ?_;(refine bH 5 fun K hK=>?_);go_simp;go_at_call 139;refine awQ.mono ?_;rintro e w6 ⟨rfl,a3,hR3,h6⟩;have hE2:=h6.dK 1 rfl;have mG:Sep w0 w6 (aD f q p S a3:: .sl 9 1 (.slice (some ad) N c9) N (L.map fun p=>.string ⟨p.toArray⟩)::R):=(Sep.dC [1,2,0] h6 aR bK).drop 2;replace mG:=Lh mG;have hR4:=Lh (anC.out.trans (hR2.out.trans hR3));clear awQ h6 hR3 hE d0;dsimp only;refine hK _ _ (fun _=>hE2) ?_;clear hK K;(try simp only[Act.put,gD]);refine bG 6 (fun _=>hE2) ?_;refine aA 7 hE2 ?_;refine aA 8 hE2 ?_;refine bG 9 (fun _=>hE2) ?_;refine bG 10 (fun h=>absurd rfl h) ?_;refine aS fT ?_ _;rcases aEW.out with⟨i,hi,h2,hi3⟩|hneg
  ·obtain rfl:D1=(i:Int):=hi;(have q3:(0:Int)<=i:=by omega);(have q4:(i:Int)<=1000:=by omega);have F4:=ahR.out;rw[if_pos q3]at F4;replace F4:=Lh F4;clear hi3;go_wp2_with fail;exact⟨⟨k+1,m,by omega,rfl,rfl,.inl ⟨D2,h2,rfl,Lh F4.out⟩,Lh ⟨a3,hR4.out,mG.out⟩⟩,by simp[intOf];omega⟩
  (obtain⟨rfl,rfl⟩:D1= -1/\D2=0:=by injection hneg with h1 h2;exact⟨h1,h2⟩);have F4:=ahR.out;rw[if_neg aR]at F4;by_cases hlast:k+1<N
  ·(have hne:¬L.drop (k+1)=[]:=by intro e;have:=List.drop_eq_nil_iff.1 e;rw[<-hN'.out]at this;omega);rw[if_neg hne]at F4;(have q5:(k:Int)+1<N:=by omega);replace F4:=Lh F4;clear hneg;go_wp2_with fail
   go_ret3
   refine⟨?_,a3,hR4.out,(Sep.dC [1,0] mG.out aR bK).drop 1⟩;rw[<-F4.out];rfl
  have hnil:L.drop (k+1)=[]:=List.drop_of_length_le (by rw[<-hN'.out];omega);rw[if_pos hnil]at F4;(have q5:(N:Int)<=(k:Int)+1:=by omega);(have hkN:k+1=N:=by omega);replace hkN:=Lh hkN;replace F4:=Lh F4;clear hneg hnil;go_wp2_with fail;exact⟨⟨k+1,m,by omega,rfl,rfl,.inr ⟨hkN.out,rfl,Lh F4.out.symm⟩,Lh ⟨a3,hR4.out,mG.out⟩⟩,by simp[intOf];omega⟩
 obtain rfl:k=N:=by omega
 rcases hnn with⟨m,hm,rfl,hlk⟩|⟨_,rfl,hlk⟩
 ·have e1:L.drop k=[]:=List.drop_of_length_le (by rw[hN'.out];exact iU _);rw[e1,aP]at hlk;go_wp2_with fail
  go_ret3
  refine⟨?_,a1,BU,(Sep.dC [1,0] hS1 aR bK).drop 1⟩;rw[<-hlk.out];rfl
 go_wp2_with fail
 go_ret3
 refine⟨?_,a1,BU,(Sep.dC [1,0] hS1 aR bK).drop 1⟩;rw[hlk.out];rfl
end
def pE (r:Int×Int×Int):Ending:=if r.2.2=0 then(if r.2.1<0 then .returned (iV r.1)else .panicked (eQ 23))else .panicked (eQ r.2.2)
def lH (r:Int×Int×Int):Ending:=if r.2.2=0 then(if r.2.1<0 then .panicked (eQ 21)else .returned (.tuple #[iV r.1,iV r.2.1]))else .panicked (eQ r.2.2)
def F5 (c:fK) (r:Int×Int×Int):Ending:=if r.2.2=0 then(if r.2.1<0 then .panicked (eQ 21)else if(aF c r.2.1.toNat).kind=1 then .panicked (eQ 24)else .returned (.tuple #[iV r.1,iV r.2.1]))else .panicked (eQ r.2.2)
theorem pF {S:VS} (hV:VW S):∀(l:List (List UInt8)) (dir n:Nat),dir<S.names->n<S.names->(aP S.cur S.data dir n l).2.2=0->
  (∃d<S.names,(aP S.cur S.data dir n l).1=(d:Int))/\((aP S.cur S.data dir n l).2.1= -1\/∃m<S.names,(aP S.cur S.data dir n l).2.1=(m:Int))
 |[],dir,n,hd,hn,h=>⟨⟨dir,hd,rfl⟩,.inr ⟨n,hn,rfl⟩⟩
 |name::l,dir,n,hd,hn,h=>by
  rw[aP]at h ⊢;by_cases hk:(aF S.cur n).kind=1
  ·rw[if_pos hk]at h ⊢;rcases KX (jL S.cur S.data (aF S.cur n)) name with⟨i,h1,h2,h3⟩|⟨_,h3⟩
   ·rw[h3]at h ⊢;simp only at h ⊢;(have h4:(0:Int)<=i:=by omega);rw[if_pos h4]at h ⊢;have h5:=hV.ent n hn hk _ (nJ h1);rw[tK]at h5;exact pF hV l n _ hn h5.1 h
   rw[h3]at h ⊢;simp only at h ⊢;rw[if_neg aR]at h ⊢;by_cases hl:l=[]
   ·rw[if_pos hl]at h ⊢;exact⟨⟨n,hn,rfl⟩,.inl rfl⟩
   rw[if_neg hl]at h;exact absurd h aR
  rw[if_neg hk]at h;exact absurd h aR
section
variable {w0 w:World} {R:List aV} {f q p:Nat} {S:VS} {a:VA}
theorem Z18 {P:Prop} (h:P:=by go_wp2_with(first |(go_at_call 69;refine hlk.mono ?_;rintro e w9 ⟨rfl,h9⟩;replace h9:=Lh h9;clear hlk)|(go_at_call 54;refine(dO _ _).mono ?_;rw[if_neg h3];rintro e w8 ⟨rfl,h8⟩;obtain rfl:=h8.symm));exact⟨rfl,rfl,h9.out⟩):P:=h
theorem Z58 {P:Prop} (h:P:=by go_wp2_with(first |(go_at_call 69;refine hlk.mono ?_;rintro e w9 ⟨rfl,h9⟩;replace h9:=Lh h9;clear hlk)|(go_at_call 54;refine(dO _ _).mono ?_;rintro e w8 ⟨rfl,h8⟩;obtain rfl:=h8.symm));exact⟨rfl,rfl,h9.out⟩):P:=h
theorem qW {path:List UInt8} (hC:VC S a) (hV:VW S) (hv:aU path=true) (hp:path.length<=1048576) (h:Sep w0 w (aD f q p S a::R)):
  Calls Tryz.prog 118 #[pV f,aC path] w fun e w'=>e=pE (aP S.cur S.data 0 0 (splitB path))/\∃a',Reads S a a'/\Sep w0 w' (aD f q p S a'::R):=by
 have hlk:=OE hC hV hv hp h;obtain⟨r,hr⟩:∃r,r=aP S.cur S.data 0 0 (splitB path):=⟨_,rfl⟩;rw[<-hr]at hlk ⊢;obtain⟨r1,r2,r3⟩:=r;unfold pE;simp only at hlk ⊢;clear hC hV hv hp h hr;unfold aC at*;by_cases h3:r3=0
 ·subst h3;rw[if_pos rfl];by_cases h2:r2<0
  ·rw[if_pos h2];go_enter Tryz.func118,Tryz.ntmps118;go_wp2_with(first |(go_at_call 69;refine hlk.mono ?_;rintro e w9 ⟨rfl,h9⟩;replace h9:=Lh h9;clear hlk)|(go_at_call 54;refine(dO _ _).mono ?_;rintro e w8 ⟨rfl,h8⟩;obtain rfl:=h8.symm));go_ret;exact⟨rfl,h9.out⟩
  rw[if_neg h2];(have h2':(0:Int)<=r2:=by omega);go_enter Tryz.func118,Tryz.ntmps118;exact Z58
 rw[if_neg h3];go_enter Tryz.func118,Tryz.ntmps118;exact Z18
theorem nL {path:List UInt8} (hC:VC S a) (hV:VW S) (hv:aU path=true) (hp:path.length<=1048576) (h:Sep w0 w (aD f q p S a::R)):
  Calls Tryz.prog 107 #[pV f,aC path] w fun e w'=>e=lH (aP S.cur S.data 0 0 (splitB path))/\∃a',Reads S a a'/\Sep w0 w' (aD f q p S a'::R):=by
 have hlk:=OE hC hV hv hp h;obtain⟨r,hr⟩:∃r,r=aP S.cur S.data 0 0 (splitB path):=⟨_,rfl⟩;rw[<-hr]at hlk ⊢;obtain⟨r1,r2,r3⟩:=r;unfold lH;simp only at hlk ⊢;clear hC hV hv hp h hr;unfold aC at*;by_cases h3:r3=0
 ·subst h3;rw[if_pos rfl];by_cases h2:r2<0
  ·rw[if_pos h2];go_enter Tryz.func107,Tryz.ntmps107;exact Z58
  rw[if_neg h2];(have h2':(0:Int)<=r2:=by omega);go_enter Tryz.func107,Tryz.ntmps107;go_wp2_with(first |(go_at_call 69;refine hlk.mono ?_;rintro e w9 ⟨rfl,h9⟩;replace h9:=Lh h9;clear hlk)|(go_at_call 54;refine(dO _ _).mono ?_;rintro e w8 ⟨rfl,h8⟩;obtain rfl:=h8.symm))
  go_ret2
  exact⟨rfl,h9.out⟩
 rw[if_neg h3];go_enter Tryz.func107,Tryz.ntmps107;exact Z18
theorem Z26 {P:Prop} (h:P:=by go_enter Tryz.func123,Tryz.ntmps123;go_wp2_with(go_at_call 107;refine hlk.mono ?_;rintro e w9 ⟨rfl,h9⟩;replace h9:=Lh h9;clear hlk);exact⟨rfl,rfl,h9.out⟩):P:=h
theorem zY {path:List UInt8} (hC:VC S a) (hV:VW S) (hv:aU path=true) (hp:path.length<=1048576) (h:Sep w0 w (aD f q p S a::R)):
  Calls Tryz.prog 123 #[pV f,aC path] w fun e w'=>e=F5 S.cur (aP S.cur S.data 0 0 (splitB path))/\∃a',Reads S a a'/\Sep w0 w' (aD f q p S a'::R):=by
 have hlk:=nL hC hV hv hp h;have hok:=pF hV (splitB path) 0 0 hV.n0 hV.n0;obtain⟨r,hr⟩:∃r,r=aP S.cur S.data 0 0 (splitB path):=⟨_,rfl⟩;rw[<-hr]at hlk hok ⊢;obtain⟨r1,r2,r3⟩:=r;unfold F5;unfold lH at hlk;simp only at hlk hok ⊢;have hin:Hid (∀W n a1,n<S.names->VC S a1->Sep w0 W (aD f q p S a1::R)->Calls Tryz.prog 72 #[pV f,iV (n:Nat)] W fun e w'=>∃v a2,e= .returned (.agg #[iV ((aF S.cur n).kind:Nat),iV ((aF S.cur n).mode:Nat),iV ((aF S.cur n).links:Nat),iV ((aF S.cur n).size:Nat),v])/\Reads S a1 a2/\Sep w0 w' (aD f q p S a2::R)):=Lh fun W n a1 hn kE hS=>by refine(iW kE hV.vf hn (hV.few n hn) hS).mono ?_;rintro e w' ⟨v,a2,rfl,hR,h9⟩;exact⟨v,a2,rfl,hR,h9.drop 1⟩
 have hfk:=EJ;clear hC hV hv hp h hr;unfold aC at*;by_cases h3:r3=0
 ·rw[if_pos h3]at hlk ⊢;by_cases h2:r2<0
  ·rw[if_pos h2]at hlk ⊢;exact Z26
  rw[if_neg h2]at hlk ⊢;obtain⟨m,hm,rfl⟩:∃m:Nat,m<S.names/\r2=(m:Int):=by
   rcases(hok h3).2 with h|⟨m,hm,h⟩
   ·omega
   exact⟨m,hm,h⟩
  rw[lM];clear hok h2 h3;by_cases hk:(aF S.cur m).kind=1
  ·rw[if_pos hk];(have hk1:(((aF S.cur m).kind:Int)==1)=true:=by rw[sZ];omega);have hm':=Lh hm;clear hk hm;go_enter Tryz.func123,Tryz.ntmps123;go_wp2_with(first |(go_at_call 107;refine hlk.mono ?_;rintro e w9 ⟨rfl,a1,BU,h9⟩;(have hc:=hin.out _ m _ hm'.out BU.ok h9);replace BU:=Lh BU;clear hlk h9 hin)|(go_at_call 72;refine hc.mono ?_;rintro e w8 ⟨v8,a2,rfl,hR2,h8⟩;(have hend:=Lh (And.intro (BU.out.trans hR2) h8));clear hc hR2 h8)|(go_at_call 54;refine(dO _ _).mono ?_;rintro e w7 ⟨rfl,h7⟩;obtain rfl:=h7.symm));exact⟨rfl,rfl,a2,hend.out.1,hend.out.2⟩
  rw[if_neg hk];(have hk1:(((aF S.cur m).kind:Int)==1)=false:=by rw[kD];omega);have hm':=Lh hm;clear hk hm;go_enter Tryz.func123,Tryz.ntmps123;go_wp2_with(first |(go_at_call 107;refine hlk.mono ?_;rintro e w9 ⟨rfl,a1,BU,h9⟩;(have hc:=hin.out _ m _ hm'.out BU.ok h9);replace BU:=Lh BU;clear hlk h9 hin)|(go_at_call 72;refine hc.mono ?_;rintro e w8 ⟨v8,a2,rfl,hR2,h8⟩;(have hend:=Lh (And.intro (BU.out.trans hR2) h8));clear hc hR2 h8))
  go_ret2
  exact⟨rfl,a2,hend.out.1,hend.out.2⟩
 rw[if_neg h3]at hlk ⊢;exact Z26
theorem F6 (h:Sep w0 w (aD f q p S a::R)):
  Calls Tryz.prog 70 #[pV f] w fun e w'=>e=(if S.nodes<256 then .returned (.tuple #[])else .panicked (eQ 31))/\w'=w:=by
 have c6:=h.fC.c6;clear h;by_cases hn:S.nodes<256
 ·rw[if_pos hn];go_enter Tryz.func70,Tryz.ntmps70;go_wp2_with fail
  go_end0
  exact⟨rfl,rfl⟩
 rw[if_neg hn];have hn':(256:Int)<=S.nodes:=by omega
 go_enter Tryz.func70,Tryz.ntmps70;go_wp2_with(go_at_call 54;refine(dO _ _).mono ?_;rintro e w8 ⟨rfl,h8⟩;obtain rfl:=h8.symm);exact⟨rfl,rfl,rfl⟩
end
def l9 (S:VS) (n:Nat):VS:=match jM S (aF S.cur n).aB 0 with
 |some (S1,_)=>S1.keep n VI0
 |none=>S
theorem zZ {S:VS} {n:Nat}:∃S1,jM S (aF S.cur n).aB 0=some (S1,[])/\l9 S n=S1.keep n VI0:=by obtain⟨S1,h⟩:=I9 (S:=S) (l:=(aF S.cur n).aB) (n:=0) (fZ _);rw[MX]at h;exact⟨S1,h,by unfold l9;rw[h]⟩
theorem eX.keep {S T:VS} (h:eX S T) (n:Nat) (x:VI):eX S (T.keep n x):=h.trans ⟨rfl,rfl,rfl,rfl,rfl⟩
theorem eX.node {S T:VS} (h:eX S T) (z:Int):eX S (T.node z):=h.trans ⟨rfl,rfl,rfl,rfl,rfl⟩
theorem eX.gZ {S T:VS} (h:eX S T) (s i:Nat) (name:List UInt8) (n:Nat):eX S (T.gZ s i name n):=h.put _ _
theorem oJ (S:VS) (dir:Nat) (name:List UInt8):eX S (bZ S dir name):=by
 unfold bZ;have h:=(KM S (aF S.cur dir) name).like;simp only;split
 ·exact h
 rename_i S4 l hf;exact((h.node _).trans (qC hf)).keep _ _
theorem OG (S:VS) (n:Nat):eX S (l9 S n):=by obtain⟨S1,h1,h2⟩:=zZ (S:=S) (n:=n);rw[h2];exact(qC h1).keep _ _
theorem vJ {S S1:VS} {dir n:Nat} {name:List UInt8} (h:gL S dir name n=some S1):eX S S1:=by
 unfold gL at h;split at h
 ·cases h
 rename_i T l hf;cases h;exact(((eX.refl S).node _).trans (qC hf)).keep _ _|>.gZ _ _ _ _
structure mZ (S:VS) (n:Nat):Prop where
 lt:n<S.names
 few:(aF S.cur n).aB.length<=28
 sp:∀s∈(aF S.cur n).aB,s<S.count
structure lI (S:VS):Prop where
 w:fF S
 n0: -1000000<=S.nodes
 n1:S.nodes<=1000000
structure vK (S:VS) (dir:Nat) (name:List UInt8):Prop where
 lt:dir<S.names
 ok:FR S (aF S.cur dir)
 short:name.length<=15
 found:∃i:Nat,i<(aF S.cur dir).size/\(jY (jL S.cur S.data (aF S.cur dir)) name).1=i
 last:(rT (jL S.cur S.data (aF S.cur dir)) ((aF S.cur dir).size-1)).1.length<=15
 room:(aF S.cur dir).aB.length=max 1 (((aF S.cur dir).size+15)/16)
structure nV (S:VS) (dir n:Nat) (name:List UInt8):Prop where
 ino:mZ S dir
 size:(aF S.cur dir).size<448
 short:name.length<=15
 num:n<=65535
section
variable {w0 w:World} {R:List aV} {f q p:Nat} {S:VS} {a:VA}
theorem ahS {n:Nat} (hC:VC S a) (hF:VF S) (hn:mZ S n) (hW:fF S) (h:Sep w0 w (aD f q p S a::R)):
  Calls Tryz.prog 122 #[pV f,iV n] w fun e w'=>e= .returned (.tuple #[])/\∃a',VC (l9 S n) a'/\Sep w0 w' (aD f q p (l9 S n) a'::R):=by
 obtain⟨S1,h1,h2⟩:=zZ (S:=S) (n:=n);rw[h2];exact anZ hC hF hn.lt hn.few hn.sp hW h1 h
theorem OH {dir:Nat} {name:List UInt8} (hC:VC S a) (hF:VF S) (hl:vK S dir name) (hs:lI S) (h:Sep w0 w (aD f q p S a::R)):
  Calls Tryz.prog 120 #[pV f,iV dir,aC name] w fun e w'=>e= .returned (.tuple #[])/\∃a',VC (bZ S dir name) a'/\Sep w0 w' (aD f q p (bZ S dir name) a'::R):=
 ajB hC hF hl.lt hl.ok hs.w ⟨hs.n0,hs.n1⟩ hl.short hl.found hl.last hl.room h
theorem F7 {dir n:Nat} {name:List UInt8} (hC:VC S a) (hF:VF S) (he:nV S dir n name) (hs:lI S) (h:Sep w0 w (aD f q p S a::R)):
  Calls Tryz.prog 125 #[pV f,iV dir,aC name,iV n] w (dY f q p S (gL S dir name n) w0 R):=
 ai9 hC hF he.ino.lt he.ino.few he.ino.sp he.size hs.w ⟨hs.n0,hs.n1⟩ he.short he.num h
theorem an0 {bf bn bb n:Nat} {v:Value} {bs:List UInt8} (hR:∀W Y,Sep w0 W (Y++R)->W.cell? ⟨bf,0,none⟩=some (pV f)/\W.cell? ⟨bn,0,none⟩=some (iV n)/\W.cell? ⟨bb,0,none⟩=some v)
  (hC:VC S a) (hF:VF S) (hn:mZ S n) (hW:fF S) (hbs:bs.length<=8192) (hv:iG w0 R v bs) (h:Sep w0 w (aD f q p S a::R)):
  Calls Tryz.prog 74 #[pV bf,pV bn,pV bb] w (dY f q p S (iF S n bs) w0 R):=by
 obtain⟨L,hL⟩:∃L,L=bs.length:=⟨_,rfl⟩;obtain⟨A0,c0,hv0⟩:∃A c,v= .slice A L c:=by obtain⟨_,A,c,e,_⟩:=hv w [_] h;exact⟨A,c,by rw[e,hL]⟩
 have hc:=hR w [_] h;have hE:w.drew.cell? ⟨bf,0,none⟩=some (pV f)/\w.drew.cell? ⟨bn,0,none⟩=some (iV n)/\w.drew.cell? ⟨bb,0,none⟩=some v:=hc;have hfi:=ZU hC hF hn.lt hn.few hn.sp hW hbs hv h.drew;have hS:∀e w',dY f q p S (iF S n bs) w0 R e w'->∀u,e= .returned u->w'.cell? ⟨bf,0,none⟩=some (pV f)/\w'.cell? ⟨bn,0,none⟩=some (iV n)/\w'.cell? ⟨bb,0,none⟩=some v:=fun e w' ho u he=>by
  unfold dY at ho;subst he;split at ho
  ·obtain⟨_,a1,_,h1⟩:=ho;exact hR w' [_] h1
  exact absurd ho.1 bK
 obtain⟨r,hr⟩:∃r,r=iF S n bs:=⟨_,rfl⟩;rw[<-hr]at hfi hS ⊢;replace hS:=Lh hS;clear hR hC hF hn hW hbs hv h hL hr hc;subst hv0;go_enter Tryz.func74,Tryz.ntmps74;go_wp2_with fail;refine aO (S:=fun w'=>w'.cell? ⟨bf,0,none⟩=some (pV f)/\w'.cell? ⟨bn,0,none⟩=some (iV n)/\w'.cell? ⟨bb,0,none⟩=some (.slice A0 L c0)) 7 ?_;refine aA 0 hE ?_;refine aA 1 hE ?_;refine aA 2 hE ?_;refine aA 3 hE ?_;refine aA 4 hE ?_;refine aA 5 hE ?_;refine bH 6 fun K hK=>?_
 go_simp;go_at_call 75;refine hfi.mono ?_;intro e w' ho;cases r with
 |none=>unfold dY at ho;obtain⟨rfl,ho⟩:=ho;unfold dY;exact⟨rfl,rfl,ho⟩
 |some S1=>
  have h1:=hS.out e w' ho;unfold dY at ho;obtain⟨rfl,a1,h2,h3⟩:=ho;have h4:=h1 _ rfl;dsimp only;refine hK _ _ (fun _=>h4) ?_;clear hK K;(try simp only[Act.put,gD]);refine aS fT ?_ _
  go_end0
  unfold dY;exact⟨rfl,a1,h2,h3⟩
theorem aeG {bf bd bi bn dir n:Nat} {path:List UInt8} (hR:∀W Y,Sep w0 W (Y++R)->W.cell? ⟨bf,0,none⟩=some (pV f)/\W.cell? ⟨bd,0,none⟩=some (iV dir)/\W.cell? ⟨bi,1,none⟩=some (aC path)/\W.cell? ⟨bn,0,none⟩=some (iV n))
  (hC:VC S a) (hF:VF S) (hv:aU path=true) (hp:path.length<=1048576) (hl:vK S dir (aL path)) (hs:lI S) (hn:mZ (bZ S dir (aL path)) n) (hW:fF (bZ S dir (aL path))) (h:Sep w0 w (aD f q p S a::R)):
  Calls Tryz.prog 119 #[pV bf,pV bd,pV bi,pV bn] w (dY f q p S (some (l9 (bZ S dir (aL path)) n)) w0 R):=by
 have hE:w.drew.cell? ⟨bf,0,none⟩=some (pV f)/\w.drew.cell? ⟨bd,0,none⟩=some (iV dir)/\w.drew.cell? ⟨bi,1,none⟩=some (aC path)/\w.drew.cell? ⟨bn,0,none⟩=some (iV n):=hR w [_] h;have hba:=tV hv hp w.drew;have hlv:Hid (∀W,Below w.heap.size w.drew W->(W.cell? ⟨bf,0,none⟩=some (pV f)/\W.cell? ⟨bd,0,none⟩=some (iV dir)/\W.cell? ⟨bi,1,none⟩=some (aC path)/\W.cell? ⟨bn,0,none⟩=some (iV n))/\
   Calls Tryz.prog 120 #[pV f,iV dir,aC (aL path)] W fun e w'=>e= .returned (.tuple #[])/\(w'.cell? ⟨bf,0,none⟩=some (pV f)/\w'.cell? ⟨bd,0,none⟩=some (iV dir)/\w'.cell? ⟨bi,1,none⟩=some (aC path)/\w'.cell? ⟨bn,0,none⟩=some (iV n))/\
    Calls Tryz.prog 122 #[pV f,iV n] w'.drew fun e w'=>e= .returned (.tuple #[])/\(w'.cell? ⟨bf,0,none⟩=some (pV f)/\w'.cell? ⟨bd,0,none⟩=some (iV dir)/\w'.cell? ⟨bi,1,none⟩=some (aC path)/\w'.cell? ⟨bn,0,none⟩=some (iV n))/\dY f q p S (some (l9 (bZ S dir (aL path)) n)) w0 R (.returned (.tuple #[])) w'):=Lh fun W hb=>by
  have hS:=h.drew.pure hb
  refine⟨hR W [_] hS,(OH hC hF hl hs hS).mono ?_⟩
  rintro e w' ⟨rfl,a1,kE,h1⟩
  refine⟨rfl,hR w' [_] h1,(ahS kE ((oJ S dir (aL path)).vf hF) hn hW h1.drew).mono ?_⟩
  rintro e w2 ⟨rfl,a2,hC2,h2⟩
  exact⟨rfl,hR w2 [_] h2,rfl,a2,hC2,h2⟩
 obtain⟨b,hb⟩:∃b,b=aL path:=⟨_,rfl⟩;rw[<-hb]at hba hlv ⊢;clear hR hC hF hv hp hl hs hn hW h hb;unfold aC at*;go_enter Tryz.func119,Tryz.ntmps119;go_wp2_with fail;refine aO (S:=fun w'=>w'.cell? ⟨bf,0,none⟩=some (pV f)/\w'.cell? ⟨bd,0,none⟩=some (iV dir)/\w'.cell? ⟨bi,1,none⟩=some (.string ⟨path.toArray⟩)/\w'.cell? ⟨bn,0,none⟩=some (iV n)) 8 ?_;refine aA 0 hE ?_;refine aA 1 hE ?_;refine aA 2 hE ?_;refine aA 3 hE ?_;refine aA 4 hE ?_;refine aA 5 hE ?_;refine bH 6 fun K hK=>?_
 go_simp;go_at_call 121;refine hba.mono ?_;rintro e w9 ⟨rfl,zO⟩;obtain⟨hE2,hc⟩:=hlv.out _ zO;clear hba hlv zO hE;dsimp only;refine hK _ _ (fun _=>hE2) ?_;clear hK K;try simp only[Act.put,gD]
 refine bH 7 fun K hK=>?_
 go_simp;go_at_call 120;refine hc.mono ?_;rintro e w8 ⟨rfl,UG,hd⟩;clear hc hE2;dsimp only;refine hK _ _ (fun _=>UG) ?_;clear hK K;try simp only[Act.put,gD]
 refine aS fT ?_ _;go_wp2_with fail;have F8:w8.drew.cell? ⟨bf,0,none⟩=some (pV f)/\w8.drew.cell? ⟨bd,0,none⟩=some (iV dir)/\w8.drew.cell? ⟨bi,1,none⟩=some (.string ⟨path.toArray⟩)/\w8.drew.cell? ⟨bn,0,none⟩=some (iV n):=UG;refine aO (S:=fun w'=>w'.cell? ⟨bf,0,none⟩=some (pV f)/\w'.cell? ⟨bd,0,none⟩=some (iV dir)/\w'.cell? ⟨bi,1,none⟩=some (.string ⟨path.toArray⟩)/\w'.cell? ⟨bn,0,none⟩=some (iV n)) 6 ?_;refine aA 0 F8 ?_;refine aA 1 F8 ?_;refine aA 2 F8 ?_;refine aA 3 F8 ?_;refine aA 4 F8 ?_;refine bH 5 fun K hK=>?_
 go_simp;go_at_call 122;refine hd.mono ?_;rintro e w7 ⟨rfl,IP,hend⟩;replace hend:=Lh hend;clear hd F8 UG;dsimp only;refine hK _ _ (fun _=>IP) ?_;clear hK K;try simp only[Act.put,gD]
 refine aS fT ?_ _
 go_end0
 exact hend.out
end
end Go.Proofs.YtmjomdkleikgbaaGreat
namespace Go.Proofs.YtmjomdkleikgbaaGreat
def VS.bit (S:VS) (j:Nat):Bool:=oV (bk S.cur 1) j
structure dW (S:VS):Prop where
 cur:kG (S.nb-96) S.cur
 vf:VF S
 nb:S.nb<=4096
theorem dW.asS {S:VS} (h:dW S):1<S.cur.length:=by have:=h.vf.room;unfold VS.data at this;rw[h.cur.len];omega
theorem dW.in1 {S:VS} (h:dW S) {j:Nat} (hj:j<S.count):j/8<(bk S.cur 1).length:=by have h1:=h.asS;rw[h.cur.len]at h1;rw[jK h.cur h1];have:=h.nb;unfold VS.count at hj;omega
theorem dW.put {S:VS} (h:dW S) (k:Nat) {u:List UInt8} (hu:u.length=512):dW (S.put k u):=⟨h.cur.set _ hu,⟨h.vf.names,h.vf.room⟩,h.nb⟩
theorem dW.one {S:VS} (h:dW S):(bk S.cur 1).length=512:=jK h.cur (by have:=h.asS;rw[h.cur.len]at this;exact this)
theorem dW.set {S:VS} (h:dW S) (j:Nat):dW (S.put 1 (kL (bk S.cur 1) j)):=h.put 1 (by rw[OI];exact h.one)
theorem dW.clr {S:VS} (h:dW S) (j:Nat):dW (S.put 1 (xW (bk S.cur 1) j)):=h.put 1 (by rw[OJ];exact h.one)
theorem F9 {S:VS} (h:dW S) {j:Nat} (hj:j<S.count) (i:Nat):(S.put 1 (kL (bk S.cur 1) j)).bit i=(decide (i=j)||S.bit i):=by
 show oV (bk (S.cur.set 1 _) 1) i=_
 rw[zV _ _ _ _ h.asS,if_pos rfl,asU (h.in1 hj)];rfl
theorem asV {S:VS} (h:dW S) {j:Nat} (hj:j<S.count) (i:Nat):(S.put 1 (xW (bk S.cur 1) j)).bit i=(!decide (i=j)&&S.bit i):=by
 show oV (bk (S.cur.set 1 _) 1) i=_
 rw[zV _ _ _ _ h.asS,if_pos rfl,asW (h.in1 hj)];rfl
theorem OL :∀(k:Nat) (S:VS) (l:List Nat),dW S->k<=l.length->(∀s∈l,s<S.count)->dW (mX k S l).1/\∀i,(mX k S l).1.bit i=(S.bit i&& !decide (i∈l.drop (l.length-k)))
 |0,S,l,h,_,_=>⟨h,fun i=>by(show S.bit i=_);rw[Nat.sub_zero,List.drop_length];simp⟩
 |k+1,S,l,h,hk,hl=>by
  rcases Y8 l with e|⟨l',z,e⟩
  ·subst e;simp at hk
  rw[Y9]at e;subst e;have hz:z<S.count:=hl z bK;(have e1:(l'++[z]).getLastD 0=z:=by simp);(have e2:(l'++[z]).dropLast=l':=by simp);(show dW (mX k (S.put 1 (xW (bk S.cur 1) ((l'++[z]).getLastD 0))) (l'++[z]).dropLast).1/\∀i,(mX k (S.put 1 (xW (bk S.cur 1) ((l'++[z]).getLastD 0))) (l'++[z]).dropLast).1.bit i=_);rw[e1,e2];rw[jJ,nZ]at hk;(obtain⟨h1,h2⟩:=OL k _ l' (h.clr z) aI fun s hs=>hl s (uT _ hs));refine⟨h1,fun i=>?_⟩;rw[h2,asV h hz];(have e3:(l'++[z]).drop ((l'++[z]).length-(k+1))=l'.drop (l'.length-k)++[z]:=by rw[jJ,nZ,show l'.length+1-(k+1)=l'.length-k by omega,am1 aI]);rw[e3];by_cases ei:i=z
  ·simp[ei]
  simp[ei]
theorem aaM :∀(k:Nat) (S:VS) (l:List Nat),dW S->
  (∀S1 l1,MG k S l=some (S1,l1)->dW S1/\∃t,l1=l++t/\t.length=k/\t.Nodup/\(∀j∈t,j<S.count/\S.bit j=false)/\∀i,S1.bit i=(S.bit i||decide (i∈t)))/\
  (MG k S l=none->∃t:List Nat,t.length<k/\∀j<S.count,S.bit j=true\/j∈t)
 |0,S,l,h=>⟨fun S1 l1 e=>by cases e;exact⟨h,[],by simp,rfl,.nil,fun j hj=>(DF hj).elim,fun i=>by simp⟩,fun e=>by cases e⟩
 |k+1,S,l,h=>by
  cases hf:jO (bk S.cur 1) S.count with
  |none=>(have e:MG (k+1) S l=none:=by unfold MG;rw[hf]);refine⟨fun S1 l1 e1=>(by rw[e]at e1;cases e1),fun _=>⟨[],by simp,fun j hj=>.inl (OM hf j hj)⟩⟩
  |some j=>
   have e:MG (k+1) S l=MG k (S.put 1 (kL (bk S.cur 1) j)) (l++[j]):=by
    conv=>lhs;unfold MG
    rw[hf]
   obtain⟨hj,hbj,_⟩:=xQ hf;obtain⟨h1,h2⟩:=aaM k (S.put 1 (kL (bk S.cur 1) j)) (l++[j]) (h.set j);rw[e];constructor
   ·intro S1 l1 e1;obtain⟨h3,t,h4,h5,h6,h7,h8⟩:=h1 S1 l1 e1;(have hjt:j∉t:=fun hm=>by have:=(h7 j hm).2;rw[F9 h hj]at this;simp at this);refine⟨h3,j::t,by rw[h4,nT];rfl,by rw[kM,h5],wK.2 ⟨hjt,h6⟩,fun i hi=>?_,fun i=>?_⟩
    ·rcases jU.1 hi with rfl|hi
     ·exact⟨hj,hbj⟩
     have:=h7 i hi;rw[F9 h hj]at this;simp at this;exact⟨this.1,this.2.2⟩
    rw[h8,F9 h hj];by_cases ei:i=j
    ·simp[ei]
    simp[ei]
   intro e1;obtain⟨t,h3,h4⟩:=h2 e1;refine⟨j::t,by rw[kM];omega,fun i hi=>?_⟩;rcases h4 i hi with h5|h5
   ·rw[F9 h hj]at h5;by_cases ei:i=j
    ·exact .inr (by rw[ei];exact mO ..)
    simp[ei]at h5;exact .inl h5
   exact .inr (vD _ h5)
theorem OO {S:VS} {l:List Nat} {n:Nat} (h:dW S) (hn:l.length<=n):
  (∀S1 l1,jM S l n=some (S1,l1)->dW S1/\∃t,l1=l++t/\t.length=n-l.length/\t.Nodup/\(∀j∈t,j<S.count/\S.bit j=false)/\∀i,S1.bit i=(S.bit i||decide (i∈t)))/\
  (jM S l n=none->∃t:List Nat,t.length<n-l.length/\∀j<S.count,S.bit j=true\/j∈t):=by
 have e:jM S l n=MG (n-l.length) S l:=by unfold jM;rw[Nat.sub_eq_zero_of_le hn];rfl
 rw[e];exact aaM _ _ _ h
theorem aaN {S:VS} {l:List Nat} {n:Nat} (h:dW S) (hn:n<=l.length) (hl:∀s∈l,s<S.count):
  ∃S1,jM S l n=some (S1,l.take n)/\dW S1/\∀i,S1.bit i=(S.bit i&& !decide (i∈l.drop n)):=by
 obtain⟨h1,h2⟩:=OL (l.length-n) S l h aI hl;have h3:=tL (l.length-n) S l;rw[show l.length-(l.length-n)=n by omega]at h2 h3;refine⟨(mX (l.length-n) S l).1,?_,h1,h2⟩;unfold jM;rw[h3,qQ,show n-min n l.length=0 by omega];rfl
def tX (f:Nat->Int) (n:Nat):Int:=((List.range n).map f).sum
theorem oK (f:Nat->Int) (n:Nat):tX f (n+1)=tX f n+f n:=by unfold tX;rw[M7,mM,M8];simp
theorem OP {f g:Nat->Int} {n:Nat} (h:∀i<n,f i=g i):tX f n=tX g n:=by
 induction n with
 |zero=>rfl
 |succ n ih=>rw[oK,oK,ih fun i hi=>h i aI,h n aI]
theorem z8 {f g:Nat->Int} {n k:Nat} (hk:k<n) (h:∀i<n,i≠k->g i=f i):tX g n=tX f n-f k+g k:=by
 induction n with
 |zero=>omega
 |succ n ih=>
  rw[oK,oK];by_cases e:k=n
  ·subst e;rw[OP fun i hi=>h i aI aI];omega
  rw[ih aI fun i hi=>h i aI,h n aI (fun e2=>e e2.symm)];omega
structure LI where
 kind:Nat
 mode:Nat
 links:Nat
 bB:tJ
 data:List UInt8
def LI.size (x:LI):Nat:=if x.kind=1 then x.bB.length else x.data.length
def LI.need (x:LI):Nat:=if x.kind=1 then max 1 ((x.bB.length+15)/16)else if x.kind=2 then(x.data.length+511)/512 else 0
def LI0 :LI:=⟨0,0,0,[],[]⟩
abbrev LT :=Nat->LI
def dM (g:LT) (n:Nat) (x:LI):LT:=fun i=>if i=n then x else g i
theorem bJ (g:LT) (n:Nat) (x:LI):dM g n x n=x:=if_pos rfl
theorem bL (g:LT) {n i:Nat} (x:LI) (h:i≠n):dM g n x i=g i:=if_neg h
structure LI.fair (x:LI):Prop where
 kind:x.kind<=2
 bB:x.kind≠1->x.bB=[]
 data:x.kind≠2->x.data=[]
 few:x.bB.length<=448
 short:x.data.length<=8192
 mode:x.mode<65536
 links:x.links<65536
 names:∀e∈x.bB,e.1.length<=15/\e.2<=65535
def LI.vi (x:LI) (l:List Nat):VI:=⟨x.kind,x.mode,x.links,x.size,l⟩
theorem LI.ahT {x:LI} (h:x.fair):x.need<=28:=by
 unfold LI.need;have:=h.few;have:=h.short;split
 ·omega
 split<;>omega
theorem LI.size_le {x:LI} (h:x.fair):x.size<=8192:=by unfold LI.size;have:=h.few;have:=h.short;split<;>omega
structure dB (S:VS) (g:LT):Prop where
 use:dW S
 n0:0<S.names
 fair:∀n<S.names,(g n).fair
 head:∀n<S.names,aF S.cur n=(g n).vi (aF S.cur n).aB
 len:∀n<S.names,(aF S.cur n).aB.length=(g n).need
 lt:∀n<S.names,∀s∈(aF S.cur n).aB,s<S.count
 nodup:∀n<S.names,(aF S.cur n).aB.Nodup
 dis:∀n<S.names,∀m<S.names,n≠m->∀s∈(aF S.cur n).aB,s∉(aF S.cur m).aB
 bits:∀j<S.count,S.bit j=true↔∃n<S.names,j∈(aF S.cur n).aB
 bB:∀n<S.names,(g n).kind=1->jL S.cur S.data (aF S.cur n)=(g n).bB
 data:∀n<S.names,(g n).kind=2->eU S.cur S.data (aF S.cur n)=(g n).data
 wB:S.wB=tX (fun n=>fJ (g n).kind (g n).size) S.names
 wI:S.wI=tX (fun n=>nG (g n).kind) S.names
 nodes:S.nodes=tX (fun n=>((g n).bB.length:Int)) S.names
theorem aaO {c c':fK} {d:Nat} {l:List Nat} (h:∀s∈l,bk c' (d+s)=bk c (d+s)):o6 c' d l=o6 c d l:=by
 unfold o6
 induction l with
 |nil=>rfl
 |cons s l ih=>rw[wJ,wJ,h s (mO ..),ih fun t ht=>h t (vD _ ht)]
theorem vZ {c c':fK} {d:Nat} {x:VI} (h:∀s∈x.aB,bk c' (d+s)=bk c (d+s)):eU c' d x=eU c d x:=by unfold eU;rw[aaO h]
theorem aaP {c c':fK} {d:Nat} {x:VI} {i:Nat} (hi:i<16*x.aB.length) (h:∀s∈x.aB,bk c' (d+s)=bk c (d+s)):gJ c' d x i=gJ c d x i:=by
 unfold gJ;have hk:i/16<x.aB.length:=by omega
 rw[h _ (by rw[gH,gE hk];exact nJ hk)]
theorem EK {c c':fK} {d:Nat} {x:VI} (hs:x.size<=16*x.aB.length) (h:∀s∈x.aB,bk c' (d+s)=bk c (d+s)):jL c' d x=jL c d x:=by
 unfold jL;refine vW fun i hi=>?_
 rw[aaP (by have:=List.mem_range.1 hi;omega) h]
theorem dB.few {S:VS} {g:LT} (h:dB S g) {n:Nat} (hn:n<S.names):(aF S.cur n).aB.length<=28:=by rw[h.len n hn];exact LI.ahT (h.fair n hn)
theorem dB.size {S:VS} {g:LT} (h:dB S g) {n:Nat} (hn:n<S.names):(aF S.cur n).size=(g n).size:=by rw[h.head n hn];rfl
theorem dB.kind {S:VS} {g:LT} (h:dB S g) {n:Nat} (hn:n<S.names):(aF S.cur n).kind=(g n).kind:=by rw[h.head n hn];rfl
theorem dB.WW {S:VS} {g:LT} (h:dB S g) {n:Nat} (hn:n<S.names) (hk:(g n).kind=1):(aF S.cur n).size<=16*(aF S.cur n).aB.length:=by rw[h.size hn,h.len n hn];unfold LI.size LI.need;rw[if_pos hk,if_pos hk];omega
structure Step (S S':VS) (g:LT) (n:Nat) (x:LI) (l:List Nat):Prop where
 use:dW S'
 names:S'.names=S.names
 nb:S'.nb=S.nb
 ino:∀m<S.names,aF S'.cur m=if m=n then x.vi l else aF S.cur m
 fair:x.fair
 len:l.length=x.need
 lt:∀s∈l,s<S.count
 nodup:l.Nodup
 dis:∀m<S.names,m≠n->∀s∈(aF S.cur m).aB,s∉l
 bits:∀j<S.count,S'.bit j=true↔j∈l\/∃m<S.names,m≠n/\j∈(aF S.cur m).aB
 blk:∀m<S.names,m≠n->∀s∈(aF S.cur m).aB,bk S'.cur (S.data+s)=bk S.cur (S.data+s)
 bB:x.kind=1->jL S'.cur S.data (x.vi l)=x.bB
 data:x.kind=2->eU S'.cur S.data (x.vi l)=x.data
 wB:S'.wB=S.wB-fJ (g n).kind (g n).size+fJ x.kind x.size
 wI:S'.wI=S.wI-nG (g n).kind+nG x.kind
 nodes:S'.nodes=S.nodes-(g n).bB.length+x.bB.length
theorem dB.step {S S':VS} {g:LT} {n:Nat} {x:LI} {l:List Nat} (h:dB S g) (hn:n<S.names) (st:Step S S' g n x l):dB S' (dM g n x):=by
 have hd:S'.data=S.data:=by unfold VS.data;rw[st.names]
 have hc:S'.count=S.count:=by unfold VS.count;rw[hd,st.nb]
 have hin:aF S'.cur n=x.vi l:=by rw[st.ino n hn,if_pos rfl]
 have nH:∀m,m<S.names->m≠n->aF S'.cur m=aF S.cur m:=fun m hm e=>by rw[st.ino m hm,if_neg e]
 refine⟨st.use,by rw[st.names];exact h.n0,?_,?_,?_,?_,?_,?_,?_,?_,?_,?_,?_,?_⟩<;>rw[st.names]at*
 ·intro m hm;by_cases e:m=n
  ·rw[e,bJ];exact st.fair
  rw[bL _ _ e];exact h.fair m hm
 ·intro m hm;by_cases e:m=n
  ·rw[e,bJ,hin];rfl
  rw[bL _ _ e,nH m hm e];exact h.head m hm
 ·intro m hm;by_cases e:m=n
  ·rw[e,bJ,hin];exact st.len
  rw[bL _ _ e,nH m hm e];exact h.len m hm
 ·intro m hm;rw[hc];by_cases e:m=n
  ·rw[e,hin];exact st.lt
  rw[nH m hm e];exact h.lt m hm
 ·intro m hm;by_cases e:m=n
  ·rw[e,hin];exact st.nodup
  rw[nH m hm e];exact h.nodup m hm
 ·intro m hm k hk hmk;by_cases e:m=n
  ·subst e;rw[hin,nH k hk (fun e=>hmk e.symm)];intro s hs hs2;exact st.dis k hk (fun e=>hmk e.symm) s hs2 hs
  rw[nH m hm e];by_cases e2:k=n
  ·subst e2;rw[hin];exact st.dis m hm e
  rw[nH k hk e2];exact h.dis m hm k hk hmk
 ·intro j hj;rw[hc]at hj;rw[st.bits j hj];constructor
  ·rintro(h1|⟨m,hm,e,h1⟩)
   ·exact⟨n,hn,by rw[hin];exact h1⟩
   exact⟨m,hm,by rw[nH m hm e];exact h1⟩
  rintro⟨m,hm,h1⟩;by_cases e:m=n
  ·subst e;rw[hin]at h1;exact .inl h1
  rw[nH m hm e]at h1;exact .inr ⟨m,hm,e,h1⟩
 ·intro m hm hk;rw[hd];by_cases e:m=n
  ·subst e;rw[bJ]at hk ⊢;rw[hin];exact st.bB hk
  rw[bL _ _ e]at hk ⊢;rw[nH m hm e,EK (h.WW hm hk) (st.blk m hm e)];exact h.bB m hm hk
 ·intro m hm hk;rw[hd];by_cases e:m=n
  ·subst e;rw[bJ]at hk ⊢;rw[hin];exact st.data hk
  rw[bL _ _ e]at hk ⊢;rw[nH m hm e,vZ (st.blk m hm e)];exact h.data m hm hk
 ·rw[st.wB,h.wB,z8 (f:=fun n=>fJ (g n).kind (g n).size) (g:=fun i=>fJ (dM g n x i).kind (dM g n x i).size) hn fun i _ e=>by rw[bL _ _ e]];simp only[bJ]
 ·rw[st.wI,h.wI,z8 (f:=fun n=>nG (g n).kind) (g:=fun i=>nG (dM g n x i).kind) hn fun i _ e=>by rw[bL _ _ e]];simp only[bJ]
 rw[st.nodes,h.nodes,z8 (f:=fun n=>((g n).bB.length:Int)) (g:=fun i=>((dM g n x i).bB.length:Int)) hn fun i _ e=>by rw[bL _ _ e]];simp only[bJ]
theorem dW.tab {S:VS} (h:dW S) {n:Nat} (hn:n<S.names):2+n/8<S.nb-96:=by have:=h.vf.room;unfold VS.data at this;omega
theorem dW.keep {S:VS} (h:dW S) {n:Nat} (hn:n<S.names) {x:VI} (hx:x.aB.length<=28):dW (S.keep n x):=
 ⟨an2 h.cur (h.tab hn) hx,⟨h.vf.names,h.vf.room⟩,h.nb⟩
theorem AA (c:fK) {n k:Nat} (x:VI) (h:k≠2+n/8):bk (tY c n x) k=bk c k:=dJ c _ h
theorem an3 (S:VS) (n:Nat) (x:VI) (j:Nat):(S.keep n x).bit j=S.bit j:=by
 show oV (bk (tY S.cur n x) 1) j=_
 rw[AA _ _ aI];rfl
theorem ajS {S:VS} {n:Nat} (hn:n<S.names) (x:VI) (s:Nat):bk (S.keep n x).cur (S.data+s)=bk S.cur (S.data+s):=
 AA _ _ (by unfold VS.data;omega)
theorem an4 {S:VS} (h:dW S) {n:Nat} (hn:n<S.names) {x:VI} (hx:x.ok) (m:Nat):aF (S.keep n x).cur m=if m=n then x else aF S.cur m:=
 ajT h.cur (h.tab hn) hx m
theorem LI.az3 {x:LI} (h:x.fair) {l:List Nat} (hl:l.length<=28) (h2:∀s∈l,s<65536):(x.vi l).ok:=
 ⟨by have:=h.kind;unfold LI.vi;simp only;omega,h.mode,h.links,by have:=LI.size_le h;unfold LI.vi;simp only;omega,hl,h2⟩
theorem dB.OQ {S:VS} {g:LT} (h:dB S g) {s:Nat} (hs:s<S.count):s<65536:=by have:=h.use.nb;unfold VS.count at hs;omega
end Go.Proofs.YtmjomdkleikgbaaGreat
