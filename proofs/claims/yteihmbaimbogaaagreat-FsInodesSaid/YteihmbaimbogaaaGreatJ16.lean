/- Parts. -/
import Derived.Test.YteihmbaimbogaaaGreatJ15
import Derived.OwnWalk
set_option linter.unusedVariables false
set_option linter.unusedSimpArgs false
set_option maxRecDepth 100000
set_option maxHeartbeats 20000000
namespace Go.Proofs.YteihmbaimbogaaaGreat
open Go.RowKit
structure VW (S:VS):Prop where
 vf:VF S
 n0:0<S.names
 few:∀n<S.names,(aH S.cur n).aB.length<=28
 lt:∀n<S.names,∀s∈(aH S.cur n).aB,s<S.count
 dir:∀n<S.names,(aH S.cur n).kind=1->KI S (aH S.cur n)
 ent:∀n<S.names,(aH S.cur n).kind=1->∀e∈lS S.cur S.data (aH S.cur n),e.2<S.names/\e.1.length<=15
def bB (c:fO) (d:Nat):Nat->Nat->List (List UInt8)->Int×Int×Int
 |dir,n,[]=>(dir,n,0)
 |dir,n,name::l=>
  if(aH c n).kind=1 then
   (if 0<=(lW (lS c d (aH c n)) name).1 then bB c d n (lW (lS c d (aH c n)) name).2 l
   else if l=[]then(n, -1,0)else(0,0,21))
  else(0,0,22)
theorem OQ (L:wM) (name:List UInt8):(∃i:Nat,i<L.length/\(vC L i).1=name/\lW L name=((i:Int),(vC L i).2))\/((∀j<L.length,(vC L j).1≠name)/\lW L name=(-1,0)):=by
 unfold lW;cases h:L.findIdx? fun e=>e.1==name with
 |none=>right;rw[ad6]at h;refine⟨fun j hj=>?_,rfl⟩;have:=h _ (tK hj);rw[wN]at this;simpa using this
 |some i=>left;rw[ad1]at h;obtain⟨h1,h2,_⟩:=h;rw[wN]at h2;exact⟨i,h1,by simpa using h2,rfl⟩
section
variable {w0 w:World} {R:List bK} {f q p:Nat} {S:VS} {a:VA}
theorem SE {path:List UInt8} (hC:VC S a) (hV:VW S) (hv:aU path=true) (aBJ:path.length<=1048576) (h:Sep w0 w (aF f q p S a::R)):
  Calls Tryz.prog 61 #[pV f,aC path] w fun e w'=>e= .returned (.tuple #[iV (bB S.cur S.data 0 0 (splitB path)).1,iV (bB S.cur S.data 0 0 (splitB path)).2.1,iV (bB S.cur S.data 0 0 (splitB path)).2.2])/\∃a',Reads S a a'/\Sep w0 w' (aF f q p S a'::R):=by
 have hnm:=ajK hv aBJ w;obtain⟨r,hr⟩:∃r,r=bB S.cur S.data 0 0 (splitB path):=⟨_,rfl⟩;obtain⟨L,hL⟩:∃L,L=splitB path:=⟨_,rfl⟩;have hL7:L.length<=1048577:=by rw[hL];have:=R9 path;omega
 rw[<-hr];rw[<-hL]at hnm hr;obtain⟨N,hN⟩:∃N,N=L.length:=⟨_,rfl⟩;rw[<-hN]at hnm hL7;have hnm':Calls Tryz.prog 116 #[aC path] w fun e w'=>∃A c,e= .returned (.slice A N c)/\Sep w0 w' (aF f q p S a:: .sl 9 1 (.slice A N c) N (L.map aC)::R):=by refine hnm.mono ?_;rintro e w' ⟨v,rfl,hS⟩;have h1:=h.join hS;obtain⟨A,c,e⟩:=h1.eF 0 rfl;subst e;exact⟨A,c,rfl,h1.perm (List.Perm.swap _ _ _)⟩
 have N1:(N:Int)<=1048577:=by omega
 have hin:Hid (∀W n a1 R',n<S.names->VC S a1->Sep w0 W (aF f q p S a1::R')->Calls Tryz.prog 64 #[pV f,iV (n:Nat)] W fun e w'=>∃A c a2,e= .returned (.agg #[iV ((aH S.cur n).kind:Nat),iV ((aH S.cur n).mode:Nat),iV ((aH S.cur n).links:Nat),iV ((aH S.cur n).size:Nat),.slice A (aH S.cur n).aB.length c])/\Reads S a1 a2/\
   Sep w0 (w'.alloc (.cells #[iV ((aH S.cur n).kind:Nat),iV ((aH S.cur n).mode:Nat),iV ((aH S.cur n).links:Nat),iV ((aH S.cur n).size:Nat),.slice A (aH S.cur n).aB.length c] 118)) (aF f q p S a2:: .box w'.heap.size 118 (aO (aH S.cur n) (.slice A (aH S.cur n).aB.length c))::bA (.slice A (aH S.cur n).aB.length c) (fB (aH S.cur n).aB)::R')):=Lh fun W n a1 R' hn lU hS=>by
  refine(jM lU hV.vf hn (hV.few n hn) hS).mono ?_;rintro e w' ⟨v,a2,rfl,hR,h9⟩;obtain⟨A,c,e9⟩:=h9.eF 0 rfl;(have hll:(fB (aH S.cur n).aB).length=(aH S.cur n).aB.length:=by unfold fB;rw[kV]);rw[hll]at e9;subst e9;exact⟨A,c,a2,rfl,hR,Sep.dE [2,0,1] (h9.bN 118 (aO (aH S.cur n) (.slice A (aH S.cur n).aB.length c))) aQ bM⟩
 have hC':=Lh hC;have hV':=Lh hV;have hr':=Lh hr;have hN':=Lh hN;clear hC hV hv h hnm hr hL hN aBJ hL7;unfold aC at hnm' ⊢;go_enter Tryz.func61,Tryz.ntmps61;go_wp2_with(go_at_call 116;refine hnm'.mono ?_;rintro e w9 ⟨A9,c9,rfl,h9⟩;replace h9:=Lh h9;clear hnm');go_loopw[4,5,17] (fun d n i wr=>∃(k:Nat) (dir:Nat),k<=N/\i=iV k/\d=iV dir/\((∃m:Nat,m<S.names/\n=iV m/\Hid (bB S.cur S.data dir m (L.drop k)=r))\/(k=N/\n=iV (-1)/\Hid (r=((dir:Int), -1,0))))/\Hid (∃a1,Reads S a a1/\Sep w0 wr (aF f q p S a1:: .sl 9 1 (.slice A9 N c9) N (L.map fun p=>.string ⟨p.toArray⟩)::R))) (fun _ _ i _=>N-(intOf i).toNat)
 case atStart=>exact⟨0,0,iF _,rfl,rfl,.inl ⟨0,hV'.out.n0,rfl,Lh hr'.out.symm⟩,Lh ⟨a,.refl hC'.out,h9.out⟩⟩
 obtain⟨k,dir,hk,rfl,rfl,hnn,hS⟩:=hrel;clear h9;obtain⟨a1,FW,hS1⟩:=hS.out;clear hS;by_cases hlt:k<N
 ·have hn2:∃m:Nat,m<S.names/\u5=iV m/\Hid (bB S.cur S.data dir m (L.drop k)=r):=by
   rcases hnn with h|⟨h,_⟩
   ·exact h
   omega
  obtain⟨m,hm,rfl,hlk⟩:=hn2;(have hkl:k<L.length:=by rw[<-hN'.out];exact hlt);obtain⟨name,hname⟩:∃name,name=L[k]:=⟨_,rfl⟩;(have hdrop:L.drop k=name::L.drop (k+1):=by rw[WX hkl,hname]);(have hcj:∃ad,A9=some ad/\wr.cell? (ad.add k)=some (.string ⟨name.toArray⟩):=by obtain⟨ad,c8,u9,e,h1,h2⟩:=Rd.at_ (hS1.rd 1 rfl) (k:=k) hlt;cases e;rw[lQ,gE hkl,<-hname]at h1;cases h1;exact⟨ad,rfl,h2⟩);obtain⟨ad,rfl,hcj⟩:=hcj;(have q1:(k:Int)<N:=by omega);(have q0:(0:Int)<=k:=by omega);have hc:=hin.out wr m a1 _ hm FW.ok hS1;obtain⟨x,hx⟩:∃x,x=aH S.cur m:=⟨_,rfl⟩;rw[<-hx]at hc;rw[hdrop]at hlk;have hlk2:=hlk.out;rw[bB,<-hx]at hlk2;have hx':=Lh hx;have ar9:=Lh FW;have hm':=Lh hm;have aM0:=Lh hdrop;clear hnn hlk hS1 FW hx hm hdrop hname;by_cases hkind:x.kind=1
  case neg=>
   rw[if_neg hkind]at hlk2;(have hk1:((x.kind:Int)==1)=false:=by rw[mM];omega);have amN:=Lh hlk2;clear hkind hlk2;go_wp2_with(go_at_call 64;refine hc.mono ?_;rintro e w8 ⟨A8,c8,a2,rfl,hR2,h8⟩;(have d0:=(h8.dR 1 rfl).1);replace h8:=Lh h8;replace hR2:=Lh hR2;clear hc)
   go_ret3
   refine⟨?_,a2,ar9.out.trans hR2.out,(Sep.dE [1,2,3,0] h8.out aQ bM).drop 3⟩;rw[<-amN.out];rfl
  rw[if_pos hkind]at hlk2;(have hk1:((x.kind:Int)==1)=true:=by rw[rJ];omega);(have hDx:KI S x:=by rw[hx'.out];exact hV'.out.dir m hm'.out (by rw[<-hx'.out];exact hkind));(have hent:∀i<(lS S.cur S.data x).length,(vC (lS S.cur S.data x) i).2<S.names:=fun i hi=>by have h1:=hV'.out.ent m hm'.out (by rw[<-hx'.out];exact hkind) ((lS S.cur S.data x)[i]) (by rw[<-hx'.out];exact tK hi);rw[wN]at h1;exact h1.1);have IM:Hid (∀W a2 bx u,VC S a2->Sep w0 W (aF f q p S a2:: .box bx 118 (aO x u)::bA u (fB x.aB):: .sl 9 1 (.slice (some ad) N c9) N (L.map fun p=>.string ⟨p.toArray⟩)::R)->Calls Tryz.prog 117 #[pV f,.agg #[iV (x.kind:Nat),iV (x.mode:Nat),iV (x.links:Nat),iV (x.size:Nat),u],.string ⟨name.toArray⟩] W fun e w'=>e= .returned (.tuple #[iV (lW (lS S.cur S.data x) name).1,iV ((lW (lS S.cur S.data x) name).2:Nat)])/\∃a',Reads S a2 a'/\Sep w0 w' (aF f q p S a':: .box bx 118 (aO x u)::bA u (fB x.aB):: .sl 9 1 (.slice (some ad) N c9) N (L.map fun p=>.string ⟨p.toArray⟩)::R)):=Lh fun W a2 bx u hC2 hS2=>
   aeN (name:=name) hC2 hV'.out.vf (kL 1 rfl) hDx hS2
  obtain⟨D,hD⟩:∃D,D=lW (lS S.cur S.data x) name:=⟨_,rfl⟩;rw[<-hD]at IM hlk2;have hDc:(∃i:Nat,D.1=(i:Int)/\D.2<S.names/\i<=1000)\/D=(-1,0):=by
   rcases OQ (lS S.cur S.data x) name with⟨i,h1,_,h2⟩|⟨_,h2⟩
   ·left;rw[hD,h2];have h3:=EB S.cur S.data x;have h4:=hDx.room;have h5:=hDx.few;exact⟨i,rfl,hent i h1,by omega⟩
   right;rw[hD,h2]
  obtain⟨D1,D2⟩:=D;simp only at IM hlk2 hDc;have amN:=Lh hlk2;have aVI:=Lh hDx;have aM2:=Lh hDc;clear hkind hlk2 hDx hent hD hDc;go_wp2_with(go_at_call 64;refine hc.mono ?_;rintro e w8 ⟨A8,c8,a2,rfl,hR2,h8⟩;(have d0:=h8.dR 1 rfl);(have aCK:=IM.out _ _ _ _ hR2.ok h8.drew);replace h8:=Lh h8;replace hR2:=Lh hR2;clear hc);obtain⟨gx,hgx⟩:∃gx,gx=w8.heap.size:=⟨_,rfl⟩;obtain⟨w7,hw7⟩:∃w7,w7=w8.alloc (.cells #[iV (x.kind:Nat),iV (x.mode:Nat),iV (x.links:Nat),iV (x.size:Nat),.slice A8 x.aB.length c8] 118):=⟨_,rfl⟩;rw[<-hw7,<-hgx]at d0 aCK ⊢;clear hw7 hgx;have hE:w7.drew.cell? ⟨gx,0,none⟩=some (iV (x.kind:Nat))/\w7.drew.cell? ⟨gx,1,none⟩=some (iV (x.mode:Nat))/\w7.drew.cell? ⟨gx,2,none⟩=some (iV (x.links:Nat))/\w7.drew.cell? ⟨gx,3,none⟩=some (iV (x.size:Nat))/\w7.drew.cell? ⟨gx,4,none⟩=some (.slice A8 x.aB.length c8):=d0;refine aJ (S:=fun w'=>w'.cell? ⟨gx,0,none⟩=some (iV (x.kind:Nat))/\w'.cell? ⟨gx,1,none⟩=some (iV (x.mode:Nat))/\w'.cell? ⟨gx,2,none⟩=some (iV (x.links:Nat))/\w'.cell? ⟨gx,3,none⟩=some (iV (x.size:Nat))/\w'.cell? ⟨gx,4,none⟩=some (.slice A8 x.aB.length c8)) 10 ?_;refine aA 0 hE ?_;refine aA 1 hE ?_;refine aA 2 hE ?_;refine aA 3 hE ?_;refine aA 4 hE ?_;(refine bG 5 fun K hK=>?_);go_simp;go_at_call 117;refine aCK.mono ?_;rintro e w6 ⟨rfl,a3,hR3,h6⟩;have hE2:=h6.dR 1 rfl;have jS:Sep w0 w6 (aF f q p S a3:: .sl 9 1 (.slice (some ad) N c9) N (L.map fun p=>.string ⟨p.toArray⟩)::R):=(Sep.dE [1,2,0] h6 aQ bM).drop 2;replace jS:=Lh jS;have hR4:=Lh (ar9.out.trans (hR2.out.trans hR3));clear aCK h6 hR3 hE d0;dsimp only;refine hK _ _ (fun _=>hE2) ?_;clear hK K;(try simp only[Act.put,gD]);refine aW 6 (fun _=>hE2) ?_;refine aA 7 hE2 ?_;refine aA 8 hE2 ?_;refine aW 9 (fun _=>hE2) ?_;refine aW 10 (fun h=>absurd rfl h) ?_;refine aR fZ ?_ _;rcases aM2.out with⟨i,hi,h2,hi3⟩|hneg
  ·obtain rfl:D1=(i:Int):=hi;(have q3:(0:Int)<=i:=by omega);(have q4:(i:Int)<=1000:=by omega);have KP:=amN.out;rw[if_pos q3]at KP;replace KP:=Lh KP;clear hi3;go_wp2_with fail;exact⟨⟨k+1,m,by omega,rfl,rfl,.inl ⟨D2,h2,rfl,Lh KP.out⟩,Lh ⟨a3,hR4.out,jS.out⟩⟩,by simp[intOf];omega⟩
  (obtain⟨rfl,rfl⟩:D1= -1/\D2=0:=by injection hneg with h1 h2;exact⟨h1,h2⟩);have KP:=amN.out;rw[if_neg aQ]at KP;by_cases hlast:k+1<N
  ·(have hne:¬L.drop (k+1)=[]:=by intro e;have:=List.drop_eq_nil_iff.1 e;rw[<-hN'.out]at this;omega);rw[if_neg hne]at KP;(have q5:(k:Int)+1<N:=by omega);replace KP:=Lh KP;clear hneg;go_wp2_with fail
   go_ret3
   refine⟨?_,a3,hR4.out,(Sep.dE [1,0] jS.out aQ bM).drop 1⟩;rw[<-KP.out];rfl
  have hnil:L.drop (k+1)=[]:=List.drop_of_length_le (by rw[<-hN'.out];omega);rw[if_pos hnil]at KP;(have q5:(N:Int)<=(k:Int)+1:=by omega);(have hkN:k+1=N:=by omega);replace hkN:=Lh hkN;replace KP:=Lh KP;clear hneg hnil;go_wp2_with fail;exact⟨⟨k+1,m,by omega,rfl,rfl,.inr ⟨hkN.out,rfl,Lh KP.out.symm⟩,Lh ⟨a3,hR4.out,jS.out⟩⟩,by simp[intOf];omega⟩
 obtain rfl:k=N:=by omega
 rcases hnn with⟨m,hm,rfl,hlk⟩|⟨_,rfl,hlk⟩
 ·have e1:L.drop k=[]:=List.drop_of_length_le (by rw[hN'.out];exact jL _);rw[e1,bB]at hlk;go_wp2_with fail
  go_ret3
  refine⟨?_,a1,FW,(Sep.dE [1,0] hS1 aQ bM).drop 1⟩;rw[<-hlk.out];rfl
 go_wp2_with fail
 go_ret3
 refine⟨?_,a1,FW,(Sep.dE [1,0] hS1 aQ bM).drop 1⟩;rw[hlk.out];rfl
end
def rQ (r:Int×Int×Int):Ending:=if r.2.2=0 then(if r.2.1<0 then .returned (iV r.1)else .panicked (gJ 23))else .panicked (gJ r.2.2)
def nE (r:Int×Int×Int):Ending:=if r.2.2=0 then(if r.2.1<0 then .panicked (gJ 21)else .returned (.tuple #[iV r.1,iV r.2.1]))else .panicked (gJ r.2.2)
def OT (c:fO) (r:Int×Int×Int):Ending:=if r.2.2=0 then(if r.2.1<0 then .panicked (gJ 21)else if(aH c r.2.1.toNat).kind=1 then .panicked (gJ 24)else .returned (.tuple #[iV r.1,iV r.2.1]))else .panicked (gJ r.2.2)
theorem rR {S:VS} (hV:VW S):∀(l:List (List UInt8)) (dir n:Nat),dir<S.names->n<S.names->(bB S.cur S.data dir n l).2.2=0->
  (∃d<S.names,(bB S.cur S.data dir n l).1=(d:Int))/\((bB S.cur S.data dir n l).2.1= -1\/∃m<S.names,(bB S.cur S.data dir n l).2.1=(m:Int))
 |[],dir,n,hd,hn,h=>⟨⟨dir,hd,rfl⟩,.inr ⟨n,hn,rfl⟩⟩
 |name::l,dir,n,hd,hn,h=>by
  rw[bB]at h ⊢;by_cases hk:(aH S.cur n).kind=1
  ·rw[if_pos hk]at h ⊢;rcases OQ (lS S.cur S.data (aH S.cur n)) name with⟨i,h1,h2,h3⟩|⟨_,h3⟩
   ·rw[h3]at h ⊢;simp only at h ⊢;(have h4:(0:Int)<=i:=by omega);rw[if_pos h4]at h ⊢;have h5:=hV.ent n hn hk _ (tK h1);rw[wN]at h5;exact rR hV l n _ hn h5.1 h
   rw[h3]at h ⊢;simp only at h ⊢;rw[if_neg aQ]at h ⊢;by_cases hl:l=[]
   ·rw[if_pos hl]at h ⊢;exact⟨⟨n,hn,rfl⟩,.inl rfl⟩
   rw[if_neg hl]at h;exact absurd h aQ
  rw[if_neg hk]at h;exact absurd h aQ
section
variable {w0 w:World} {R:List bK} {f q p:Nat} {S:VS} {a:VA}
theorem Z27 {P:Prop} (h:P:=by go_wp2_with(first |(go_at_call 61;refine hlk.mono ?_;rintro e w9 ⟨rfl,h9⟩;replace h9:=Lh h9;clear hlk)|(go_at_call 43;refine(dU _ _).mono ?_;rw[if_neg h3];rintro e w8 ⟨rfl,h8⟩;obtain rfl:=h8.symm));exact⟨rfl,rfl,h9.out⟩):P:=h
theorem Z76 {P:Prop} (h:P:=by go_wp2_with(first |(go_at_call 61;refine hlk.mono ?_;rintro e w9 ⟨rfl,h9⟩;replace h9:=Lh h9;clear hlk)|(go_at_call 43;refine(dU _ _).mono ?_;rintro e w8 ⟨rfl,h8⟩;obtain rfl:=h8.symm));exact⟨rfl,rfl,h9.out⟩):P:=h
theorem uC {path:List UInt8} (hC:VC S a) (hV:VW S) (hv:aU path=true) (hp:path.length<=1048576) (h:Sep w0 w (aF f q p S a::R)):
  Calls Tryz.prog 98 #[pV f,aC path] w fun e w'=>e=rQ (bB S.cur S.data 0 0 (splitB path))/\∃a',Reads S a a'/\Sep w0 w' (aF f q p S a'::R):=by
 have hlk:=SE hC hV hv hp h;obtain⟨r,hr⟩:∃r,r=bB S.cur S.data 0 0 (splitB path):=⟨_,rfl⟩;rw[<-hr]at hlk ⊢;obtain⟨r1,r2,r3⟩:=r;unfold rQ;simp only at hlk ⊢;clear hC hV hv hp h hr;unfold aC at*;by_cases h3:r3=0
 ·subst h3;rw[if_pos rfl];by_cases h2:r2<0
  ·rw[if_pos h2];go_enter Tryz.func98,Tryz.ntmps98;go_wp2_with(first |(go_at_call 61;refine hlk.mono ?_;rintro e w9 ⟨rfl,h9⟩;replace h9:=Lh h9;clear hlk)|(go_at_call 43;refine(dU _ _).mono ?_;rintro e w8 ⟨rfl,h8⟩;obtain rfl:=h8.symm));go_ret;exact⟨rfl,h9.out⟩
  rw[if_neg h2];(have h2':(0:Int)<=r2:=by omega);go_enter Tryz.func98,Tryz.ntmps98;exact Z76
 rw[if_neg h3];go_enter Tryz.func98,Tryz.ntmps98;exact Z27
theorem pW {path:List UInt8} (hC:VC S a) (hV:VW S) (hv:aU path=true) (hp:path.length<=1048576) (h:Sep w0 w (aF f q p S a::R)):
  Calls Tryz.prog 68 #[pV f,aC path] w fun e w'=>e=nE (bB S.cur S.data 0 0 (splitB path))/\∃a',Reads S a a'/\Sep w0 w' (aF f q p S a'::R):=by
 have hlk:=SE hC hV hv hp h;obtain⟨r,hr⟩:∃r,r=bB S.cur S.data 0 0 (splitB path):=⟨_,rfl⟩;rw[<-hr]at hlk ⊢;obtain⟨r1,r2,r3⟩:=r;unfold nE;simp only at hlk ⊢;clear hC hV hv hp h hr;unfold aC at*;by_cases h3:r3=0
 ·subst h3;rw[if_pos rfl];by_cases h2:r2<0
  ·rw[if_pos h2];go_enter Tryz.func68,Tryz.ntmps68;exact Z76
  rw[if_neg h2];(have h2':(0:Int)<=r2:=by omega);go_enter Tryz.func68,Tryz.ntmps68;go_wp2_with(first |(go_at_call 61;refine hlk.mono ?_;rintro e w9 ⟨rfl,h9⟩;replace h9:=Lh h9;clear hlk)|(go_at_call 43;refine(dU _ _).mono ?_;rintro e w8 ⟨rfl,h8⟩;obtain rfl:=h8.symm))
  go_ret2
  exact⟨rfl,h9.out⟩
 rw[if_neg h3];go_enter Tryz.func68,Tryz.ntmps68;exact Z27
theorem Z36 {P:Prop} (h:P:=by go_enter Tryz.func71,Tryz.ntmps71;go_wp2_with(go_at_call 68;refine hlk.mono ?_;rintro e w9 ⟨rfl,h9⟩;replace h9:=Lh h9;clear hlk);exact⟨rfl,rfl,h9.out⟩):P:=h
theorem KQ {path:List UInt8} (hC:VC S a) (hV:VW S) (hv:aU path=true) (hp:path.length<=1048576) (h:Sep w0 w (aF f q p S a::R)):
  Calls Tryz.prog 71 #[pV f,aC path] w fun e w'=>e=OT S.cur (bB S.cur S.data 0 0 (splitB path))/\∃a',Reads S a a'/\Sep w0 w' (aF f q p S a'::R):=by
 have hlk:=pW hC hV hv hp h;have hok:=rR hV (splitB path) 0 0 hV.n0 hV.n0;obtain⟨r,hr⟩:∃r,r=bB S.cur S.data 0 0 (splitB path):=⟨_,rfl⟩;rw[<-hr]at hlk hok ⊢;obtain⟨r1,r2,r3⟩:=r;unfold OT;unfold nE at hlk;simp only at hlk hok ⊢;have hin:Hid (∀W n a1,n<S.names->VC S a1->Sep w0 W (aF f q p S a1::R)->Calls Tryz.prog 64 #[pV f,iV (n:Nat)] W fun e w'=>∃v a2,e= .returned (.agg #[iV ((aH S.cur n).kind:Nat),iV ((aH S.cur n).mode:Nat),iV ((aH S.cur n).links:Nat),iV ((aH S.cur n).size:Nat),v])/\Reads S a1 a2/\Sep w0 w' (aF f q p S a2::R)):=Lh fun W n a1 hn lU hS=>by refine(jM lU hV.vf hn (hV.few n hn) hS).mono ?_;rintro e w' ⟨v,a2,rfl,hR,h9⟩;exact⟨v,a2,rfl,hR,h9.drop 1⟩
 have hfk:=JF;clear hC hV hv hp h hr;unfold aC at*;by_cases h3:r3=0
 ·rw[if_pos h3]at hlk ⊢;by_cases h2:r2<0
  ·rw[if_pos h2]at hlk ⊢;exact Z36
  rw[if_neg h2]at hlk ⊢;obtain⟨m,hm,rfl⟩:∃m:Nat,m<S.names/\r2=(m:Int):=by
   rcases(hok h3).2 with h|⟨m,hm,h⟩
   ·omega
   exact⟨m,hm,h⟩
  rw[nA];clear hok h2 h3;by_cases hk:(aH S.cur m).kind=1
  ·rw[if_pos hk];(have hk1:(((aH S.cur m).kind:Int)==1)=true:=by rw[rJ];omega);have hm':=Lh hm;clear hk hm;go_enter Tryz.func71,Tryz.ntmps71;go_wp2_with(first |(go_at_call 68;refine hlk.mono ?_;rintro e w9 ⟨rfl,a1,FW,h9⟩;(have hc:=hin.out _ m _ hm'.out FW.ok h9);replace FW:=Lh FW;clear hlk h9 hin)|(go_at_call 64;refine hc.mono ?_;rintro e w8 ⟨v8,a2,rfl,hR2,h8⟩;(have hend:=Lh (And.intro (FW.out.trans hR2) h8));clear hc hR2 h8)|(go_at_call 43;refine(dU _ _).mono ?_;rintro e w7 ⟨rfl,h7⟩;obtain rfl:=h7.symm));exact⟨rfl,rfl,a2,hend.out.1,hend.out.2⟩
  rw[if_neg hk];(have hk1:(((aH S.cur m).kind:Int)==1)=false:=by rw[mM];omega);have hm':=Lh hm;clear hk hm;go_enter Tryz.func71,Tryz.ntmps71;go_wp2_with(first |(go_at_call 68;refine hlk.mono ?_;rintro e w9 ⟨rfl,a1,FW,h9⟩;(have hc:=hin.out _ m _ hm'.out FW.ok h9);replace FW:=Lh FW;clear hlk h9 hin)|(go_at_call 64;refine hc.mono ?_;rintro e w8 ⟨v8,a2,rfl,hR2,h8⟩;(have hend:=Lh (And.intro (FW.out.trans hR2) h8));clear hc hR2 h8))
  go_ret2
  exact⟨rfl,a2,hend.out.1,hend.out.2⟩
 rw[if_neg h3]at hlk ⊢;exact Z36
theorem KR (h:Sep w0 w (aF f q p S a::R)):
  Calls Tryz.prog 62 #[pV f] w fun e w'=>e=(if S.nodes<256 then .returned (.tuple #[])else .panicked (gJ 31))/\w'=w:=by
 have c6:=h.gL.c6;clear h;by_cases hn:S.nodes<256
 ·rw[if_pos hn];go_enter Tryz.func62,Tryz.ntmps62;go_wp2_with fail
  go_end0
  exact⟨rfl,rfl⟩
 rw[if_neg hn];have hn':(256:Int)<=S.nodes:=by omega
 go_enter Tryz.func62,Tryz.ntmps62;go_wp2_with(go_at_call 43;refine(dU _ _).mono ?_;rintro e w8 ⟨rfl,h8⟩;obtain rfl:=h8.symm);exact⟨rfl,rfl,rfl⟩
end
def oF (S:VS) (n:Nat):VS:=match lD S (aH S.cur n).aB 0 with
 |some (S1,_)=>S1.keep n VI0
 |none=>S
theorem EJ {S:VS} {n:Nat}:∃S1,lD S (aH S.cur n).aB 0=some (S1,[])/\oF S n=S1.keep n VI0:=by obtain⟨S1,h⟩:=MX (S:=S) (l:=(aH S.cur n).aB) (n:=0) (iF _);rw[OB]at h;exact⟨S1,h,by unfold oF;rw[h]⟩
theorem gI.keep {S T:VS} (h:gI S T) (n:Nat) (x:VI):gI S (T.keep n x):=h.trans ⟨rfl,rfl,rfl,rfl,rfl⟩
theorem gI.node {S T:VS} (h:gI S T) (z:Int):gI S (T.node z):=h.trans ⟨rfl,rfl,rfl,rfl,rfl⟩
theorem gI.jA {S T:VS} (h:gI S T) (s i:Nat) (name:List UInt8) (n:Nat):gI S (T.jA s i name n):=h.put _ _
theorem qR (S:VS) (dir:Nat) (name:List UInt8):gI S (dH S dir name):=by
 unfold dH;have h:=(OH S (aH S.cur dir) name).like;simp only;split
 ·exact h
 rename_i S4 l hf;exact((h.node _).trans (tL hf)).keep _ _
theorem SF (S:VS) (n:Nat):gI S (oF S n):=by obtain⟨S1,h1,h2⟩:=EJ (S:=S) (n:=n);rw[h2];exact(tL h1).keep _ _
theorem xZ {S S1:VS} {dir n:Nat} {name:List UInt8} (h:iN S dir name n=some S1):gI S S1:=by
 unfold iN at h;split at h
 ·cases h
 rename_i T l hf;cases h;exact(((gI.refl S).node _).trans (tL hf)).keep _ _|>.jA _ _ _ _
structure o7 (S:VS) (n:Nat):Prop where
 lt:n<S.names
 few:(aH S.cur n).aB.length<=28
 sp:∀s∈(aH S.cur n).aB,s<S.count
structure nG (S:VS):Prop where
 w:gM S
 n0: -1000000<=S.nodes
 n1:S.nodes<=1000000
structure yA (S:VS) (dir:Nat) (name:List UInt8):Prop where
 lt:dir<S.names
 ok:KI S (aH S.cur dir)
 short:name.length<=15
 found:∃i:Nat,i<(aH S.cur dir).size/\(lW (lS S.cur S.data (aH S.cur dir)) name).1=i
 last:(vC (lS S.cur S.data (aH S.cur dir)) ((aH S.cur dir).size-1)).1.length<=15
 room:(aH S.cur dir).aB.length=max 1 (((aH S.cur dir).size+15)/16)
structure qD (S:VS) (dir n:Nat) (name:List UInt8):Prop where
 ino:o7 S dir
 size:(aH S.cur dir).size<448
 short:name.length<=15
 num:n<=65535
section
variable {w0 w:World} {R:List bK} {f q p:Nat} {S:VS} {a:VA}
theorem amO {n:Nat} (hC:VC S a) (hF:VF S) (hn:o7 S n) (hW:gM S) (h:Sep w0 w (aF f q p S a::R)):
  Calls Tryz.prog 102 #[pV f,iV n] w fun e w'=>e= .returned (.tuple #[])/\∃a',VC (oF S n) a'/\Sep w0 w' (aF f q p (oF S n) a'::R):=by
 obtain⟨S1,h1,h2⟩:=EJ (S:=S) (n:=n);rw[h2];exact asW hC hF hn.lt hn.few hn.sp hW h1 h
theorem SG {dir:Nat} {name:List UInt8} (hC:VC S a) (hF:VF S) (hl:yA S dir name) (hs:nG S) (h:Sep w0 w (aF f q p S a::R)):
  Calls Tryz.prog 100 #[pV f,iV dir,aC name] w fun e w'=>e= .returned (.tuple #[])/\∃a',VC (dH S dir name) a'/\Sep w0 w' (aF f q p (dH S dir name) a'::R):=
 an3 hC hF hl.lt hl.ok hs.w ⟨hs.n0,hs.n1⟩ hl.short hl.found hl.last hl.room h
theorem KS {dir n:Nat} {name:List UInt8} (hC:VC S a) (hF:VF S) (he:qD S dir n name) (hs:nG S) (h:Sep w0 w (aF f q p S a::R)):
  Calls Tryz.prog 104 #[pV f,iV dir,aC name,iV n] w (fD f q p S (iN S dir name n) w0 R):=
 an1 hC hF he.ino.lt he.ino.few he.ino.sp he.size hs.w ⟨hs.n0,hs.n1⟩ he.short he.num h
theorem asX {bf bn bb n:Nat} {v:Value} {bs:List UInt8} (hR:∀W Y,Sep w0 W (Y++R)->W.cell? ⟨bf,0,none⟩=some (pV f)/\W.cell? ⟨bn,0,none⟩=some (iV n)/\W.cell? ⟨bb,0,none⟩=some v)
  (hC:VC S a) (hF:VF S) (hn:o7 S n) (hW:gM S) (hbs:bs.length<=8192) (hv:jB w0 R v bs) (h:Sep w0 w (aF f q p S a::R)):
  Calls Tryz.prog 66 #[pV bf,pV bn,pV bb] w (fD f q p S (jI S n bs) w0 R):=by
 obtain⟨L,hL⟩:∃L,L=bs.length:=⟨_,rfl⟩;obtain⟨A0,c0,hv0⟩:∃A c,v= .slice A L c:=by obtain⟨_,A,c,e,_⟩:=hv w [_] h;exact⟨A,c,by rw[e,hL]⟩
 have hc:=hR w [_] h;have hE:w.drew.cell? ⟨bf,0,none⟩=some (pV f)/\w.drew.cell? ⟨bn,0,none⟩=some (iV n)/\w.drew.cell? ⟨bb,0,none⟩=some v:=hc;have hfi:=aeO hC hF hn.lt hn.few hn.sp hW hbs hv h.drew;have hS:∀e w',fD f q p S (jI S n bs) w0 R e w'->∀u,e= .returned u->w'.cell? ⟨bf,0,none⟩=some (pV f)/\w'.cell? ⟨bn,0,none⟩=some (iV n)/\w'.cell? ⟨bb,0,none⟩=some v:=fun e w' ho u he=>by
  unfold fD at ho;subst he;split at ho
  ·obtain⟨_,a1,_,h1⟩:=ho;exact hR w' [_] h1
  exact absurd ho.1 bM
 obtain⟨r,hr⟩:∃r,r=jI S n bs:=⟨_,rfl⟩;rw[<-hr]at hfi hS ⊢;replace hS:=Lh hS;clear hR hC hF hn hW hbs hv h hL hr hc;subst hv0;go_enter Tryz.func66,Tryz.ntmps66;go_wp2_with fail;refine aJ (S:=fun w'=>w'.cell? ⟨bf,0,none⟩=some (pV f)/\w'.cell? ⟨bn,0,none⟩=some (iV n)/\w'.cell? ⟨bb,0,none⟩=some (.slice A0 L c0)) 7 ?_;refine aA 0 hE ?_;refine aA 1 hE ?_;refine aA 2 hE ?_;refine aA 3 hE ?_;refine aA 4 hE ?_;refine aA 5 hE ?_;refine bG 6 fun K hK=>?_
 go_simp;go_at_call 67;refine hfi.mono ?_;intro e w' ho;cases r with
 |none=>unfold fD at ho;obtain⟨rfl,ho⟩:=ho;unfold fD;exact⟨rfl,rfl,ho⟩
 |some S1=>
  have h1:=hS.out e w' ho;unfold fD at ho;obtain⟨rfl,a1,h2,h3⟩:=ho;have h4:=h1 _ rfl;dsimp only;refine hK _ _ (fun _=>h4) ?_;clear hK K;(try simp only[Act.put,gD]);refine aR fZ ?_ _
  go_end0
  unfold fD;exact⟨rfl,a1,h2,h3⟩
theorem ajL {bf bd bi bn dir n:Nat} {path:List UInt8} (hR:∀W Y,Sep w0 W (Y++R)->W.cell? ⟨bf,0,none⟩=some (pV f)/\W.cell? ⟨bd,0,none⟩=some (iV dir)/\W.cell? ⟨bi,1,none⟩=some (aC path)/\W.cell? ⟨bn,0,none⟩=some (iV n))
  (hC:VC S a) (hF:VF S) (hv:aU path=true) (hp:path.length<=1048576) (hl:yA S dir (aM path)) (hs:nG S) (hn:o7 (dH S dir (aM path)) n) (hW:gM (dH S dir (aM path))) (h:Sep w0 w (aF f q p S a::R)):
  Calls Tryz.prog 99 #[pV bf,pV bd,pV bi,pV bn] w (fD f q p S (some (oF (dH S dir (aM path)) n)) w0 R):=by
 have hE:w.drew.cell? ⟨bf,0,none⟩=some (pV f)/\w.drew.cell? ⟨bd,0,none⟩=some (iV dir)/\w.drew.cell? ⟨bi,1,none⟩=some (aC path)/\w.drew.cell? ⟨bn,0,none⟩=some (iV n):=hR w [_] h;have hba:=wU hv hp w.drew;have hlv:Hid (∀W,Below w.heap.size w.drew W->(W.cell? ⟨bf,0,none⟩=some (pV f)/\W.cell? ⟨bd,0,none⟩=some (iV dir)/\W.cell? ⟨bi,1,none⟩=some (aC path)/\W.cell? ⟨bn,0,none⟩=some (iV n))/\
   Calls Tryz.prog 100 #[pV f,iV dir,aC (aM path)] W fun e w'=>e= .returned (.tuple #[])/\(w'.cell? ⟨bf,0,none⟩=some (pV f)/\w'.cell? ⟨bd,0,none⟩=some (iV dir)/\w'.cell? ⟨bi,1,none⟩=some (aC path)/\w'.cell? ⟨bn,0,none⟩=some (iV n))/\
    Calls Tryz.prog 102 #[pV f,iV n] w'.drew fun e w'=>e= .returned (.tuple #[])/\(w'.cell? ⟨bf,0,none⟩=some (pV f)/\w'.cell? ⟨bd,0,none⟩=some (iV dir)/\w'.cell? ⟨bi,1,none⟩=some (aC path)/\w'.cell? ⟨bn,0,none⟩=some (iV n))/\fD f q p S (some (oF (dH S dir (aM path)) n)) w0 R (.returned (.tuple #[])) w'):=Lh fun W hb=>by
  have hS:=h.drew.pure hb
  refine⟨hR W [_] hS,(SG hC hF hl hs hS).mono ?_⟩
  rintro e w' ⟨rfl,a1,lU,h1⟩
  refine⟨rfl,hR w' [_] h1,(amO lU ((qR S dir (aM path)).vf hF) hn hW h1.drew).mono ?_⟩
  rintro e w2 ⟨rfl,a2,hC2,h2⟩
  exact⟨rfl,hR w2 [_] h2,rfl,a2,hC2,h2⟩
 obtain⟨b,hb⟩:∃b,b=aM path:=⟨_,rfl⟩;rw[<-hb]at hba hlv ⊢;clear hR hC hF hv hp hl hs hn hW h hb;unfold aC at*;go_enter Tryz.func99,Tryz.ntmps99;go_wp2_with fail;refine aJ (S:=fun w'=>w'.cell? ⟨bf,0,none⟩=some (pV f)/\w'.cell? ⟨bd,0,none⟩=some (iV dir)/\w'.cell? ⟨bi,1,none⟩=some (.string ⟨path.toArray⟩)/\w'.cell? ⟨bn,0,none⟩=some (iV n)) 8 ?_;refine aA 0 hE ?_;refine aA 1 hE ?_;refine aA 2 hE ?_;refine aA 3 hE ?_;refine aA 4 hE ?_;refine aA 5 hE ?_;refine bG 6 fun K hK=>?_
 go_simp;go_at_call 101;refine hba.mono ?_;rintro e w9 ⟨rfl,J7⟩;obtain⟨hE2,hc⟩:=hlv.out _ J7;clear hba hlv J7 hE;dsimp only;refine hK _ _ (fun _=>hE2) ?_;clear hK K;try simp only[Act.put,gD]
 refine bG 7 fun K hK=>?_
 go_simp;go_at_call 100;refine hc.mono ?_;rintro e w8 ⟨rfl,H7,hd⟩;clear hc hE2;dsimp only;refine hK _ _ (fun _=>H7) ?_;clear hK K;try simp only[Act.put,gD]
 refine aR fZ ?_ _;go_wp2_with fail;have M7:w8.drew.cell? ⟨bf,0,none⟩=some (pV f)/\w8.drew.cell? ⟨bd,0,none⟩=some (iV dir)/\w8.drew.cell? ⟨bi,1,none⟩=some (.string ⟨path.toArray⟩)/\w8.drew.cell? ⟨bn,0,none⟩=some (iV n):=H7;refine aJ (S:=fun w'=>w'.cell? ⟨bf,0,none⟩=some (pV f)/\w'.cell? ⟨bd,0,none⟩=some (iV dir)/\w'.cell? ⟨bi,1,none⟩=some (.string ⟨path.toArray⟩)/\w'.cell? ⟨bn,0,none⟩=some (iV n)) 6 ?_;refine aA 0 M7 ?_;refine aA 1 M7 ?_;refine aA 2 M7 ?_;refine aA 3 M7 ?_;refine aA 4 M7 ?_;refine bG 5 fun K hK=>?_
 go_simp;go_at_call 102;refine hd.mono ?_;rintro e w7 ⟨rfl,yB,hend⟩;replace hend:=Lh hend;clear hd M7 H7;dsimp only;refine hK _ _ (fun _=>yB) ?_;clear hK K;try simp only[Act.put,gD]
 refine aR fZ ?_ _
 go_end0
 exact hend.out
end
end Go.Proofs.YteihmbaimbogaaaGreat
namespace Go.Proofs.YteihmbaimbogaaaGreat
def VS.bit (S:VS) (j:Nat):Bool:=rG (bk S.cur 1) j
structure fA (S:VS):Prop where
 cur:l8 (S.nb-96) S.cur
 vf:VF S
 nb:S.nb<=4096
theorem fA.ax7 {S:VS} (h:fA S):1<S.cur.length:=by have:=h.vf.room;unfold VS.data at this;rw[h.cur.len];omega
theorem fA.in1 {S:VS} (h:fA S) {j:Nat} (hj:j<S.count):j/8<(bk S.cur 1).length:=by have h1:=h.ax7;rw[h.cur.len]at h1;rw[kJ h.cur h1];have:=h.nb;unfold VS.count at hj;omega
theorem fA.put {S:VS} (h:fA S) (k:Nat) {u:List UInt8} (hu:u.length=512):fA (S.put k u):=⟨h.cur.set _ hu,⟨h.vf.names,h.vf.room⟩,h.nb⟩
theorem fA.one {S:VS} (h:fA S):(bk S.cur 1).length=512:=kJ h.cur (by have:=h.ax7;rw[h.cur.len]at this;exact this)
theorem fA.set {S:VS} (h:fA S) (j:Nat):fA (S.put 1 (mI (bk S.cur 1) j)):=h.put 1 (by rw[SH];exact h.one)
theorem fA.clr {S:VS} (h:fA S) (j:Nat):fA (S.put 1 (BO (bk S.cur 1) j)):=h.put 1 (by rw[SI];exact h.one)
theorem KT {S:VS} (h:fA S) {j:Nat} (hj:j<S.count) (i:Nat):(S.put 1 (mI (bk S.cur 1) j)).bit i=(decide (i=j)||S.bit i):=by
 show rG (bk (S.cur.set 1 _) 1) i=_
 rw[wR _ _ _ _ h.ax7,if_pos rfl,ax8 (h.in1 hj)];rfl
theorem ax9 {S:VS} (h:fA S) {j:Nat} (hj:j<S.count) (i:Nat):(S.put 1 (BO (bk S.cur 1) j)).bit i=(!decide (i=j)&&S.bit i):=by
 show rG (bk (S.cur.set 1 _) 1) i=_
 rw[wR _ _ _ _ h.ax7,if_pos rfl,ayA (h.in1 hj)];rfl
theorem SL :∀(k:Nat) (S:VS) (l:List Nat),fA S->k<=l.length->(∀s∈l,s<S.count)->fA (o6 k S l).1/\∀i,(o6 k S l).1.bit i=(S.bit i&& !decide (i∈l.drop (l.length-k)))
 |0,S,l,h,_,_=>⟨h,fun i=>by(show S.bit i=_);rw[Nat.sub_zero,List.drop_length];simp⟩
 |k+1,S,l,h,hk,hl=>by
  rcases al3 l with e|⟨l',z,e⟩
  ·subst e;simp at hk
  rw[al4]at e;subst e;have hz:z<S.count:=hl z bM;(have e1:(l'++[z]).getLastD 0=z:=by simp);(have e2:(l'++[z]).dropLast=l':=by simp);(show fA (o6 k (S.put 1 (BO (bk S.cur 1) ((l'++[z]).getLastD 0))) (l'++[z]).dropLast).1/\∀i,(o6 k (S.put 1 (BO (bk S.cur 1) ((l'++[z]).getLastD 0))) (l'++[z]).dropLast).1.bit i=_);rw[e1,e2];rw[kN,xL]at hk;(obtain⟨h1,h2⟩:=SL k _ l' (h.clr z) aD fun s hs=>hl s (G9 _ hs));refine⟨h1,fun i=>?_⟩;rw[h2,ax9 h hz];(have e3:(l'++[z]).drop ((l'++[z]).length-(k+1))=l'.drop (l'.length-k)++[z]:=by rw[kN,xL,show l'.length+1-(k+1)=l'.length-k by omega,arU aD]);rw[e3];by_cases ei:i=z
  ·simp[ei]
  simp[ei]
theorem ae8 :∀(k:Nat) (S:VS) (l:List Nat),fA S->
  (∀S1 l1,QB k S l=some (S1,l1)->fA S1/\∃t,l1=l++t/\t.length=k/\t.Nodup/\(∀j∈t,j<S.count/\S.bit j=false)/\∀i,S1.bit i=(S.bit i||decide (i∈t)))/\
  (QB k S l=none->∃t:List Nat,t.length<k/\∀j<S.count,S.bit j=true\/j∈t)
 |0,S,l,h=>⟨fun S1 l1 e=>by cases e;exact⟨h,[],by simp,rfl,.nil,fun j hj=>(MR hj).elim,fun i=>by simp⟩,fun e=>by cases e⟩
 |k+1,S,l,h=>by
  cases hf:lH (bk S.cur 1) S.count with
  |none=>(have e:QB (k+1) S l=none:=by unfold QB;rw[hf]);refine⟨fun S1 l1 e1=>(by rw[e]at e1;cases e1),fun _=>⟨[],by simp,fun j hj=>.inl (SN hf j hj)⟩⟩
  |some j=>
   have e:QB (k+1) S l=QB k (S.put 1 (mI (bk S.cur 1) j)) (l++[j]):=by
    conv=>lhs;unfold QB
    rw[hf]
   obtain⟨hj,hbj,_⟩:=BI hf;obtain⟨h1,h2⟩:=ae8 k (S.put 1 (mI (bk S.cur 1) j)) (l++[j]) (h.set j);rw[e];constructor
   ·intro S1 l1 e1;obtain⟨h3,t,h4,h5,h6,h7,h8⟩:=h1 S1 l1 e1;(have hjt:j∉t:=fun hm=>by have:=(h7 j hm).2;rw[KT h hj]at this;simp at this);refine⟨h3,j::t,by rw[h4,uN];rfl,by rw[nV,h5],I9.2 ⟨hjt,h6⟩,fun i hi=>?_,fun i=>?_⟩
    ·rcases iX.1 hi with rfl|hi
     ·exact⟨hj,hbj⟩
     have:=h7 i hi;rw[KT h hj]at this;simp at this;exact⟨this.1,this.2.2⟩
    rw[h8,KT h hj];by_cases ei:i=j
    ·simp[ei]
    simp[ei]
   intro e1;obtain⟨t,h3,h4⟩:=h2 e1;refine⟨j::t,by rw[nV];omega,fun i hi=>?_⟩;rcases h4 i hi with h5|h5
   ·rw[KT h hj]at h5;by_cases ei:i=j
    ·exact .inr (by rw[ei];exact sK ..)
    simp[ei]at h5;exact .inl h5
   exact .inr (AY _ h5)
theorem SQ {S:VS} {l:List Nat} {n:Nat} (h:fA S) (hn:l.length<=n):
  (∀S1 l1,lD S l n=some (S1,l1)->fA S1/\∃t,l1=l++t/\t.length=n-l.length/\t.Nodup/\(∀j∈t,j<S.count/\S.bit j=false)/\∀i,S1.bit i=(S.bit i||decide (i∈t)))/\
  (lD S l n=none->∃t:List Nat,t.length<n-l.length/\∀j<S.count,S.bit j=true\/j∈t):=by
 have e:lD S l n=QB (n-l.length) S l:=by unfold lD;rw[Nat.sub_eq_zero_of_le hn];rfl
 rw[e];exact ae8 _ _ _ h
theorem ae9 {S:VS} {l:List Nat} {n:Nat} (h:fA S) (hn:n<=l.length) (hl:∀s∈l,s<S.count):
  ∃S1,lD S l n=some (S1,l.take n)/\fA S1/\∀i,S1.bit i=(S.bit i&& !decide (i∈l.drop n)):=by
 obtain⟨h1,h2⟩:=SL (l.length-n) S l h aD hl;have h3:=wO (l.length-n) S l;rw[show l.length-(l.length-n)=n by omega]at h2 h3;refine⟨(o6 (l.length-n) S l).1,?_,h1,h2⟩;unfold lD;rw[h3,tF,show n-min n l.length=0 by omega];rfl
def uD (f:Nat->Int) (n:Nat):Int:=((List.range n).map f).sum
theorem kZ (f:Nat->Int) (n:Nat):uD f (n+1)=uD f n+f n:=by unfold uD;rw[OA,kT,aeD];simp
theorem BP {f g:Nat->Int} {n:Nat} (h:∀i<n,f i=g i):uD f n=uD g n:=by
 induction n with
 |zero=>rfl
 |succ n ih=>rw[kZ,kZ,ih fun i hi=>h i aD,h n aD]
theorem EK {f g:Nat->Int} {n k:Nat} (hk:k<n) (h:∀i<n,i≠k->g i=f i):uD g n=uD f n-f k+g k:=by
 induction n with
 |zero=>omega
 |succ n ih=>
  rw[kZ,kZ];by_cases e:k=n
  ·subst e;rw[BP fun i hi=>h i aD aD];omega
  rw[ih aD fun i hi=>h i aD,h n aD (fun e2=>e e2.symm)];omega
structure LI where
 kind:Nat
 mode:Nat
 links:Nat
 bJ:wM
 data:List UInt8
def LI.size (x:LI):Nat:=if x.kind=1 then x.bJ.length else x.data.length
def LI.need (x:LI):Nat:=if x.kind=1 then max 1 ((x.bJ.length+15)/16)else if x.kind=2 then(x.data.length+511)/512 else 0
def LI0 :LI:=⟨0,0,0,[],[]⟩
abbrev LT :=Nat->LI
def dS (g:LT) (n:Nat) (x:LI):LT:=fun i=>if i=n then x else g i
theorem bV (g:LT) (n:Nat) (x:LI):dS g n x n=x:=if_pos rfl
theorem bX (g:LT) {n i:Nat} (x:LI) (h:i≠n):dS g n x i=g i:=if_neg h
structure LI.fair (x:LI):Prop where
 kind:x.kind<=2
 bJ:x.kind≠1->x.bJ=[]
 data:x.kind≠2->x.data=[]
 few:x.bJ.length<=448
 short:x.data.length<=8192
 mode:x.mode<65536
 links:x.links<65536
 names:∀e∈x.bJ,e.1.length<=15/\e.2<=65535
def LI.vi (x:LI) (l:List Nat):VI:=⟨x.kind,x.mode,x.links,x.size,l⟩
theorem LI.amP {x:LI} (h:x.fair):x.need<=28:=by
 unfold LI.need;have:=h.few;have:=h.short;split
 ·omega
 split<;>omega
theorem LI.size_le {x:LI} (h:x.fair):x.size<=8192:=by unfold LI.size;have:=h.few;have:=h.short;split<;>omega
structure dK (S:VS) (g:LT):Prop where
 use:fA S
 n0:0<S.names
 fair:∀n<S.names,(g n).fair
 head:∀n<S.names,aH S.cur n=(g n).vi (aH S.cur n).aB
 len:∀n<S.names,(aH S.cur n).aB.length=(g n).need
 lt:∀n<S.names,∀s∈(aH S.cur n).aB,s<S.count
 nodup:∀n<S.names,(aH S.cur n).aB.Nodup
 dis:∀n<S.names,∀m<S.names,n≠m->∀s∈(aH S.cur n).aB,s∉(aH S.cur m).aB
 bits:∀j<S.count,S.bit j=true↔∃n<S.names,j∈(aH S.cur n).aB
 bJ:∀n<S.names,(g n).kind=1->lS S.cur S.data (aH S.cur n)=(g n).bJ
 data:∀n<S.names,(g n).kind=2->iO S.cur S.data (aH S.cur n)=(g n).data
 wB:S.wB=uD (fun n=>kD (g n).kind (g n).size) S.names
 wI:S.wI=uD (fun n=>nP (g n).kind) S.names
 nodes:S.nodes=uD (fun n=>((g n).bJ.length:Int)) S.names
theorem afA {c c':fO} {d:Nat} {l:List Nat} (h:∀s∈l,bk c' (d+s)=bk c (d+s)):rM c' d l=rM c d l:=by
 unfold rM
 induction l with
 |nil=>rfl
 |cons s l ih=>rw[zF,zF,h s (sK ..),ih fun t ht=>h t (AY _ ht)]
theorem yT {c c':fO} {d:Nat} {x:VI} (h:∀s∈x.aB,bk c' (d+s)=bk c (d+s)):iO c' d x=iO c d x:=by unfold iO;rw[afA h]
theorem afB {c c':fO} {d:Nat} {x:VI} {i:Nat} (hi:i<16*x.aB.length) (h:∀s∈x.aB,bk c' (d+s)=bk c (d+s)):iL c' d x i=iL c d x i:=by
 unfold iL;have hk:i/16<x.aB.length:=by omega
 rw[h _ (by rw[gH,gE hk];exact tK hk)]
theorem JG {c c':fO} {d:Nat} {x:VI} (hs:x.size<=16*x.aB.length) (h:∀s∈x.aB,bk c' (d+s)=bk c (d+s)):lS c' d x=lS c d x:=by
 unfold lS;refine BA fun i hi=>?_
 rw[afB (by have:=List.mem_range.1 hi;omega) h]
theorem dK.few {S:VS} {g:LT} (h:dK S g) {n:Nat} (hn:n<S.names):(aH S.cur n).aB.length<=28:=by rw[h.len n hn];exact LI.amP (h.fair n hn)
theorem dK.size {S:VS} {g:LT} (h:dK S g) {n:Nat} (hn:n<S.names):(aH S.cur n).size=(g n).size:=by rw[h.head n hn];rfl
theorem dK.kind {S:VS} {g:LT} (h:dK S g) {n:Nat} (hn:n<S.names):(aH S.cur n).kind=(g n).kind:=by rw[h.head n hn];rfl
theorem dK.abI {S:VS} {g:LT} (h:dK S g) {n:Nat} (hn:n<S.names) (hk:(g n).kind=1):(aH S.cur n).size<=16*(aH S.cur n).aB.length:=by rw[h.size hn,h.len n hn];unfold LI.size LI.need;rw[if_pos hk,if_pos hk];omega
structure Step (S S':VS) (g:LT) (n:Nat) (x:LI) (l:List Nat):Prop where
 use:fA S'
 names:S'.names=S.names
 nb:S'.nb=S.nb
 ino:∀m<S.names,aH S'.cur m=if m=n then x.vi l else aH S.cur m
 fair:x.fair
 len:l.length=x.need
 lt:∀s∈l,s<S.count
 nodup:l.Nodup
 dis:∀m<S.names,m≠n->∀s∈(aH S.cur m).aB,s∉l
 bits:∀j<S.count,S'.bit j=true↔j∈l\/∃m<S.names,m≠n/\j∈(aH S.cur m).aB
 blk:∀m<S.names,m≠n->∀s∈(aH S.cur m).aB,bk S'.cur (S.data+s)=bk S.cur (S.data+s)
 bJ:x.kind=1->lS S'.cur S.data (x.vi l)=x.bJ
 data:x.kind=2->iO S'.cur S.data (x.vi l)=x.data
 wB:S'.wB=S.wB-kD (g n).kind (g n).size+kD x.kind x.size
 wI:S'.wI=S.wI-nP (g n).kind+nP x.kind
 nodes:S'.nodes=S.nodes-(g n).bJ.length+x.bJ.length
theorem dK.step {S S':VS} {g:LT} {n:Nat} {x:LI} {l:List Nat} (h:dK S g) (hn:n<S.names) (st:Step S S' g n x l):dK S' (dS g n x):=by
 have hd:S'.data=S.data:=by unfold VS.data;rw[st.names]
 have hc:S'.count=S.count:=by unfold VS.count;rw[hd,st.nb]
 have hin:aH S'.cur n=x.vi l:=by rw[st.ino n hn,if_pos rfl]
 have pM:∀m,m<S.names->m≠n->aH S'.cur m=aH S.cur m:=fun m hm e=>by rw[st.ino m hm,if_neg e]
 refine⟨st.use,by rw[st.names];exact h.n0,?_,?_,?_,?_,?_,?_,?_,?_,?_,?_,?_,?_⟩<;>rw[st.names]at*
 ·intro m hm;by_cases e:m=n
  ·rw[e,bV];exact st.fair
  rw[bX _ _ e];exact h.fair m hm
 ·intro m hm;by_cases e:m=n
  ·rw[e,bV,hin];rfl
  rw[bX _ _ e,pM m hm e];exact h.head m hm
 ·intro m hm;by_cases e:m=n
  ·rw[e,bV,hin];exact st.len
  rw[bX _ _ e,pM m hm e];exact h.len m hm
 ·intro m hm;rw[hc];by_cases e:m=n
  ·rw[e,hin];exact st.lt
  rw[pM m hm e];exact h.lt m hm
 ·intro m hm;by_cases e:m=n
  ·rw[e,hin];exact st.nodup
  rw[pM m hm e];exact h.nodup m hm
 ·intro m hm k hk hmk;by_cases e:m=n
  ·subst e;rw[hin,pM k hk (fun e=>hmk e.symm)];intro s hs hs2;exact st.dis k hk (fun e=>hmk e.symm) s hs2 hs
  rw[pM m hm e];by_cases e2:k=n
  ·subst e2;rw[hin];exact st.dis m hm e
  rw[pM k hk e2];exact h.dis m hm k hk hmk
 ·intro j hj;rw[hc]at hj;rw[st.bits j hj];constructor
  ·rintro(h1|⟨m,hm,e,h1⟩)
   ·exact⟨n,hn,by rw[hin];exact h1⟩
   exact⟨m,hm,by rw[pM m hm e];exact h1⟩
  rintro⟨m,hm,h1⟩;by_cases e:m=n
  ·subst e;rw[hin]at h1;exact .inl h1
  rw[pM m hm e]at h1;exact .inr ⟨m,hm,e,h1⟩
 ·intro m hm hk;rw[hd];by_cases e:m=n
  ·subst e;rw[bV]at hk ⊢;rw[hin];exact st.bJ hk
  rw[bX _ _ e]at hk ⊢;rw[pM m hm e,JG (h.abI hm hk) (st.blk m hm e)];exact h.bJ m hm hk
 ·intro m hm hk;rw[hd];by_cases e:m=n
  ·subst e;rw[bV]at hk ⊢;rw[hin];exact st.data hk
  rw[bX _ _ e]at hk ⊢;rw[pM m hm e,yT (st.blk m hm e)];exact h.data m hm hk
 ·rw[st.wB,h.wB,EK (f:=fun n=>kD (g n).kind (g n).size) (g:=fun i=>kD (dS g n x i).kind (dS g n x i).size) hn fun i _ e=>by rw[bX _ _ e]];simp only[bV]
 ·rw[st.wI,h.wI,EK (f:=fun n=>nP (g n).kind) (g:=fun i=>nP (dS g n x i).kind) hn fun i _ e=>by rw[bX _ _ e]];simp only[bV]
 rw[st.nodes,h.nodes,EK (f:=fun n=>((g n).bJ.length:Int)) (g:=fun i=>((dS g n x i).bJ.length:Int)) hn fun i _ e=>by rw[bX _ _ e]];simp only[bV]
theorem fA.tab {S:VS} (h:fA S) {n:Nat} (hn:n<S.names):2+n/8<S.nb-96:=by have:=h.vf.room;unfold VS.data at this;omega
theorem fA.keep {S:VS} (h:fA S) {n:Nat} (hn:n<S.names) {x:VI} (hx:x.aB.length<=28):fA (S.keep n x):=
 ⟨asZ h.cur (h.tab hn) hx,⟨h.vf.names,h.vf.room⟩,h.nb⟩
theorem EL (c:fO) {n k:Nat} (x:VI) (h:k≠2+n/8):bk (vE c n x) k=bk c k:=dN c _ h
theorem as0 (S:VS) (n:Nat) (x:VI) (j:Nat):(S.keep n x).bit j=S.bit j:=by
 show rG (bk (vE S.cur n x) 1) j=_
 rw[EL _ _ aD];rfl
theorem aoK {S:VS} {n:Nat} (hn:n<S.names) (x:VI) (s:Nat):bk (S.keep n x).cur (S.data+s)=bk S.cur (S.data+s):=
 EL _ _ (by unfold VS.data;omega)
theorem as1 {S:VS} (h:fA S) {n:Nat} (hn:n<S.names) {x:VI} (hx:x.ok) (m:Nat):aH (S.keep n x).cur m=if m=n then x else aH S.cur m:=
 aoL h.cur (h.tab hn) hx m
theorem LI.aHA {x:LI} (h:x.fair) {l:List Nat} (hl:l.length<=28) (h2:∀s∈l,s<65536):(x.vi l).ok:=
 ⟨by have:=h.kind;unfold LI.vi;simp only;omega,h.mode,h.links,by have:=LI.size_le h;unfold LI.vi;simp only;omega,hl,h2⟩
theorem dK.SV {S:VS} {g:LT} (h:dK S g) {s:Nat} (hs:s<S.count):s<65536:=by have:=h.use.nb;unfold VS.count at hs;omega
end Go.Proofs.YteihmbaimbogaaaGreat
