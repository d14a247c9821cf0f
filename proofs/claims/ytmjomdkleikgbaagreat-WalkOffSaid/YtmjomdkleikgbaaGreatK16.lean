/- Parts. -/
import Derived.Test.YtmjomdkleikgbaaGreatK15
import Derived.OwnWalk
set_option linter.unusedVariables false
set_option linter.unusedSimpArgs false
set_option maxRecDepth 100000
set_option maxHeartbeats 20000000
namespace Go.Proofs.YtmjomdkleikgbaaGreat
open Go.RowKit
structure VW (S:VS):Prop where
 vf:VF S
 n0:0<S.names
 few:∀n<S.names,(aH S.cur n).aB.length<=28
 lt:∀n<S.names,∀s∈(aH S.cur n).aB,s<S.count
 dir:∀n<S.names,(aH S.cur n).kind=1->HY S (aH S.cur n)
 ent:∀n<S.names,(aH S.cur n).kind=1->∀e∈jX S.cur S.data (aH S.cur n),e.2<S.names/\e.1.length<=15
def aU (c:gI) (d:Nat):Nat->Nat->List (List UInt8)->Int×Int×Int
 |dir,n,[]=>(dir,n,0)
 |dir,n,name::l=>
  if(aH c n).kind=1 then
   (if 0<=(kJ (jX c d (aH c n)) name).1 then aU c d n (kJ (jX c d (aH c n)) name).2 l
   else if l=[]then(n, -1,0)else(0,0,21))
  else(0,0,22)
theorem MQ (L:uS) (name:List UInt8):(∃i:Nat,i<L.length/\(tC L i).1=name/\kJ L name=((i:Int),(tC L i).2))\/((∀j<L.length,(tC L j).1≠name)/\kJ L name=(-1,0)):=by
 unfold kJ;cases h:L.findIdx? fun e=>e.1==name with
 |none=>right;rw[abX]at h;refine⟨fun j hj=>?_,rfl⟩;have:=h _ (nW hj);rw[uT]at this;simpa using this
 |some i=>left;rw[abO]at h;obtain⟨h1,h2,_⟩:=h;rw[uT]at h2;exact⟨i,h1,by simpa using h2,rfl⟩
section
variable {w0 w:World} {R:List aW} {f q p:Nat} {S:VS} {a:VA}
theorem acU {path:List UInt8} (hC:VC S a) (hV:VW S) (hv:aV path=true) (ay9:path.length<=1048576) (h:Sep w0 w (aF f q p S a::R)):
  Calls Tryz.prog 69 #[pV f,aC path] w fun e w'=>e= .returned (.tuple #[iV (aU S.cur S.data 0 0 (splitB path)).1,iV (aU S.cur S.data 0 0 (splitB path)).2.1,iV (aU S.cur S.data 0 0 (splitB path)).2.2])/\∃a',Reads S a a'/\Sep w0 w' (aF f q p S a'::R):=by
 have hnm:=ag2 hv ay9 w;obtain⟨r,hr⟩:∃r,r=aU S.cur S.data 0 0 (splitB path):=⟨_,rfl⟩;obtain⟨L,hL⟩:∃L,L=splitB path:=⟨_,rfl⟩;have hL7:L.length<=1048577:=by rw[hL];have:=P6 path;omega
 rw[<-hr];rw[<-hL]at hnm hr;obtain⟨N,hN⟩:∃N,N=L.length:=⟨_,rfl⟩;rw[<-hN]at hnm hL7;have hnm':Calls Tryz.prog 138 #[aC path] w fun e w'=>∃A c,e= .returned (.slice A N c)/\Sep w0 w' (aF f q p S a:: .sl 9 1 (.slice A N c) N (L.map aC)::R):=by refine hnm.mono ?_;rintro e w' ⟨v,rfl,hS⟩;have h1:=h.join hS;obtain⟨A,c,e⟩:=h1.dV 0 rfl;subst e;exact⟨A,c,rfl,h1.perm (List.Perm.swap _ _ _)⟩
 have N1:(N:Int)<=1048577:=by omega
 have hin:Hid (∀W n a1 R',n<S.names->VC S a1->Sep w0 W (aF f q p S a1::R')->Calls Tryz.prog 72 #[pV f,iV (n:Nat)] W fun e w'=>∃A c a2,e= .returned (.agg #[iV ((aH S.cur n).kind:Nat),iV ((aH S.cur n).mode:Nat),iV ((aH S.cur n).links:Nat),iV ((aH S.cur n).size:Nat),.slice A (aH S.cur n).aB.length c])/\Reads S a1 a2/\
   Sep w0 (w'.alloc (.cells #[iV ((aH S.cur n).kind:Nat),iV ((aH S.cur n).mode:Nat),iV ((aH S.cur n).links:Nat),iV ((aH S.cur n).size:Nat),.slice A (aH S.cur n).aB.length c] 129)) (aF f q p S a2:: .box w'.heap.size 129 (aN (aH S.cur n) (.slice A (aH S.cur n).aB.length c))::aS (.slice A (aH S.cur n).aB.length c) (eB (aH S.cur n).aB)::R')):=Lh fun W n a1 R' hn kK hS=>by
  refine(jQ kK hV.vf hn (hV.few n hn) hS).mono ?_;rintro e w' ⟨v,a2,rfl,hR,h9⟩;obtain⟨A,c,e9⟩:=h9.dV 0 rfl;(have hll:(eB (aH S.cur n).aB).length=(aH S.cur n).aB.length:=by unfold eB;rw[iJ]);rw[hll]at e9;subst e9;exact⟨A,c,a2,rfl,hR,Sep.dB [2,0,1] (h9.bN 129 (aN (aH S.cur n) (.slice A (aH S.cur n).aB.length c))) aR bK⟩
 have hC':=Lh hC;have hV':=Lh hV;have hr':=Lh hr;have hN':=Lh hN;clear hC hV hv h hnm hr hL hN ay9 hL7;unfold aC at hnm' ⊢;go_enter Tryz.func69,Tryz.ntmps69;go_wp2_with(go_at_call 138;refine hnm'.mono ?_;rintro e w9 ⟨A9,c9,rfl,h9⟩;replace h9:=Lh h9;clear hnm');go_loopw[4,5,17] (fun d n i wr=>∃(k:Nat) (dir:Nat),k<=N/\i=iV k/\d=iV dir/\((∃m:Nat,m<S.names/\n=iV m/\Hid (aU S.cur S.data dir m (L.drop k)=r))\/(k=N/\n=iV (-1)/\Hid (r=((dir:Int), -1,0))))/\Hid (∃a1,Reads S a a1/\Sep w0 wr (aF f q p S a1:: .sl 9 1 (.slice A9 N c9) N (L.map fun p=>.string ⟨p.toArray⟩)::R))) (fun _ _ i _=>N-(intOf i).toNat)
 case atStart=>exact⟨0,0,fZ _,rfl,rfl,.inl ⟨0,hV'.out.n0,rfl,Lh hr'.out.symm⟩,Lh ⟨a,.refl hC'.out,h9.out⟩⟩
 obtain⟨k,dir,hk,rfl,rfl,hnn,hS⟩:=hrel;clear h9;obtain⟨a1,DI,hS1⟩:=hS.out;clear hS;by_cases hlt:k<N
 ·have hn2:∃m:Nat,m<S.names/\u5=iV m/\Hid (aU S.cur S.data dir m (L.drop k)=r):=by
   rcases hnn with h|⟨h,_⟩
   ·exact h
   omega
  obtain⟨m,hm,rfl,hlk⟩:=hn2;(have hkl:k<L.length:=by rw[<-hN'.out];exact hlt);obtain⟨name,hname⟩:∃name,name=L[k]:=⟨_,rfl⟩;(have hdrop:L.drop k=name::L.drop (k+1):=by rw[abL hkl,hname]);(have hcj:∃ad,A9=some ad/\wr.cell? (ad.add k)=some (.string ⟨name.toArray⟩):=by obtain⟨ad,c8,u9,e,h1,h2⟩:=Rd.at_ (hS1.rd 1 rfl) (k:=k) hlt;cases e;rw[lC,gE hkl,<-hname]at h1;cases h1;exact⟨ad,rfl,h2⟩);obtain⟨ad,rfl,hcj⟩:=hcj;(have q1:(k:Int)<N:=by omega);(have q0:(0:Int)<=k:=by omega);have hc:=hin.out wr m a1 _ hm DI.ok hS1;obtain⟨x,hx⟩:∃x,x=aH S.cur m:=⟨_,rfl⟩;rw[<-hx]at hc;rw[hdrop]at hlk;have hlk2:=hlk.out;rw[aU,<-hx]at hlk2;have hx':=Lh hx;have ap3:=Lh DI;have hm':=Lh hm;have aI3:=Lh hdrop;clear hnn hlk hS1 DI hx hm hdrop hname;by_cases hkind:x.kind=1
  case neg=>
   rw[if_neg hkind]at hlk2;(have hk1:((x.kind:Int)==1)=false:=by rw[jU];omega);have akH:=Lh hlk2;clear hkind hlk2;go_wp2_with(go_at_call 72;refine hc.mono ?_;rintro e w8 ⟨A8,c8,a2,rfl,hR2,h8⟩;(have d0:=(h8.dL 1 rfl).1);replace h8:=Lh h8;replace hR2:=Lh hR2;clear hc)
   go_ret3
   refine⟨?_,a2,ap3.out.trans hR2.out,(Sep.dB [1,2,3,0] h8.out aR bK).drop 3⟩;rw[<-akH.out];rfl
  rw[if_pos hkind]at hlk2;(have hk1:((x.kind:Int)==1)=true:=by rw[tL];omega);(have hDx:HY S x:=by rw[hx'.out];exact hV'.out.dir m hm'.out (by rw[<-hx'.out];exact hkind));(have hent:∀i<(jX S.cur S.data x).length,(tC (jX S.cur S.data x) i).2<S.names:=fun i hi=>by have h1:=hV'.out.ent m hm'.out (by rw[<-hx'.out];exact hkind) ((jX S.cur S.data x)[i]) (by rw[<-hx'.out];exact nW hi);rw[uT]at h1;exact h1.1);have hfd:Hid (∀W a2 bx u,VC S a2->Sep w0 W (aF f q p S a2:: .box bx 129 (aN x u)::aS u (eB x.aB):: .sl 9 1 (.slice (some ad) N c9) N (L.map fun p=>.string ⟨p.toArray⟩)::R)->Calls Tryz.prog 139 #[pV f,.agg #[iV (x.kind:Nat),iV (x.mode:Nat),iV (x.links:Nat),iV (x.size:Nat),u],.string ⟨name.toArray⟩] W fun e w'=>e= .returned (.tuple #[iV (kJ (jX S.cur S.data x) name).1,iV ((kJ (jX S.cur S.data x) name).2:Nat)])/\∃a',Reads S a2 a'/\Sep w0 w' (aF f q p S a':: .box bx 129 (aN x u)::aS u (eB x.aB):: .sl 9 1 (.slice (some ad) N c9) N (L.map fun p=>.string ⟨p.toArray⟩)::R)):=Lh fun W a2 bx u hC2 hS2=>
   acC (name:=name) hC2 hV'.out.vf (jF 1 rfl) hDx hS2
  obtain⟨D,hD⟩:∃D,D=kJ (jX S.cur S.data x) name:=⟨_,rfl⟩;rw[<-hD]at hfd hlk2;have hDc:(∃i:Nat,D.1=(i:Int)/\D.2<S.names/\i<=1000)\/D=(-1,0):=by
   rcases MQ (jX S.cur S.data x) name with⟨i,h1,_,h2⟩|⟨_,h2⟩
   ·left;rw[hD,h2];have h3:=BD S.cur S.data x;have h4:=hDx.room;have h5:=hDx.few;exact⟨i,rfl,hent i h1,by omega⟩
   right;rw[hD,h2]
  obtain⟨D1,D2⟩:=D;simp only at hfd hlk2 hDc;have akH:=Lh hlk2;have aQF:=Lh hDx;have aI5:=Lh hDc;clear hkind hlk2 hDx hent hD hDc;go_wp2_with(go_at_call 72;refine hc.mono ?_;rintro e w8 ⟨A8,c8,a2,rfl,hR2,h8⟩;(have d0:=h8.dL 1 rfl);(have aAA:=hfd.out _ _ _ _ hR2.ok h8.drew);replace h8:=Lh h8;replace hR2:=Lh hR2;clear hc);obtain⟨gx,hgx⟩:∃gx,gx=w8.heap.size:=⟨_,rfl⟩;obtain⟨w7,hw7⟩:∃w7,w7=w8.alloc (.cells #[iV (x.kind:Nat),iV (x.mode:Nat),iV (x.links:Nat),iV (x.size:Nat),.slice A8 x.aB.length c8] 129):=⟨_,rfl⟩;rw[<-hw7,<-hgx]at d0 aAA ⊢;clear hw7 hgx;have hE:w7.drew.cell? ⟨gx,0,none⟩=some (iV (x.kind:Nat))/\w7.drew.cell? ⟨gx,1,none⟩=some (iV (x.mode:Nat))/\w7.drew.cell? ⟨gx,2,none⟩=some (iV (x.links:Nat))/\w7.drew.cell? ⟨gx,3,none⟩=some (iV (x.size:Nat))/\w7.drew.cell? ⟨gx,4,none⟩=some (.slice A8 x.aB.length c8):=d0;refine aP (S:=fun w'=>w'.cell? ⟨gx,0,none⟩=some (iV (x.kind:Nat))/\w'.cell? ⟨gx,1,none⟩=some (iV (x.mode:Nat))/\w'.cell? ⟨gx,2,none⟩=some (iV (x.links:Nat))/\w'.cell? ⟨gx,3,none⟩=some (iV (x.size:Nat))/\w'.cell? ⟨gx,4,none⟩=some (.slice A8 x.aB.length c8)) 10 ?_;refine aA 0 hE ?_;refine aA 1 hE ?_;refine aA 2 hE ?_;refine aA 3 hE ?_;refine aA 4 hE ?_;(refine bI 5 fun K hK=>?_);go_simp;go_at_call 139;refine aAA.mono ?_;rintro e w6 ⟨rfl,a3,hR3,h6⟩;have hE2:=h6.dL 1 rfl;have kM:Sep w0 w6 (aF f q p S a3:: .sl 9 1 (.slice (some ad) N c9) N (L.map fun p=>.string ⟨p.toArray⟩)::R):=(Sep.dB [1,2,0] h6 aR bK).drop 2;replace kM:=Lh kM;have hR4:=Lh (ap3.out.trans (hR2.out.trans hR3));clear aAA h6 hR3 hE d0;dsimp only;refine hK _ _ (fun _=>hE2) ?_;clear hK K;(try simp only[Act.put,gD]);refine bA 6 (fun _=>hE2) ?_;refine aA 7 hE2 ?_;refine aA 8 hE2 ?_;refine bA 9 (fun _=>hE2) ?_;refine bA 10 (fun h=>absurd rfl h) ?_;refine aQ fE ?_ _;rcases aI5.out with⟨i,hi,h2,hi3⟩|hneg
  ·obtain rfl:D1=(i:Int):=hi;(have q3:(0:Int)<=i:=by omega);(have q4:(i:Int)<=1000:=by omega);have H9:=akH.out;rw[if_pos q3]at H9;replace H9:=Lh H9;clear hi3;go_wp2_with fail;exact⟨⟨k+1,m,by omega,rfl,rfl,.inl ⟨D2,h2,rfl,Lh H9.out⟩,Lh ⟨a3,hR4.out,kM.out⟩⟩,by simp[intOf];omega⟩
  (obtain⟨rfl,rfl⟩:D1= -1/\D2=0:=by injection hneg with h1 h2;exact⟨h1,h2⟩);have H9:=akH.out;rw[if_neg aR]at H9;by_cases hlast:k+1<N
  ·(have hne:¬L.drop (k+1)=[]:=by intro e;have:=List.drop_eq_nil_iff.1 e;rw[<-hN'.out]at this;omega);rw[if_neg hne]at H9;(have q5:(k:Int)+1<N:=by omega);replace H9:=Lh H9;clear hneg;go_wp2_with fail
   go_ret3
   refine⟨?_,a3,hR4.out,(Sep.dB [1,0] kM.out aR bK).drop 1⟩;rw[<-H9.out];rfl
  have hnil:L.drop (k+1)=[]:=List.drop_of_length_le (by rw[<-hN'.out];omega);rw[if_pos hnil]at H9;(have q5:(N:Int)<=(k:Int)+1:=by omega);(have hkN:k+1=N:=by omega);replace hkN:=Lh hkN;replace H9:=Lh H9;clear hneg hnil;go_wp2_with fail;exact⟨⟨k+1,m,by omega,rfl,rfl,.inr ⟨hkN.out,rfl,Lh H9.out.symm⟩,Lh ⟨a3,hR4.out,kM.out⟩⟩,by simp[intOf];omega⟩
 obtain rfl:k=N:=by omega
 rcases hnn with⟨m,hm,rfl,hlk⟩|⟨_,rfl,hlk⟩
 ·have e1:L.drop k=[]:=List.drop_of_length_le (by rw[hN'.out];exact iC _);rw[e1,aU]at hlk;go_wp2_with fail
  go_ret3
  refine⟨?_,a1,DI,(Sep.dB [1,0] hS1 aR bK).drop 1⟩;rw[<-hlk.out];rfl
 go_wp2_with fail
 go_ret3
 refine⟨?_,a1,DI,(Sep.dB [1,0] hS1 aR bK).drop 1⟩;rw[hlk.out];rfl
end
def pY (r:Int×Int×Int):Ending:=if r.2.2=0 then(if r.2.1<0 then .returned (iV r.1)else .panicked (fA 23))else .panicked (fA r.2.2)
def lV (r:Int×Int×Int):Ending:=if r.2.2=0 then(if r.2.1<0 then .panicked (fA 21)else .returned (.tuple #[iV r.1,iV r.2.1]))else .panicked (fA r.2.2)
def IA (c:gI) (r:Int×Int×Int):Ending:=if r.2.2=0 then(if r.2.1<0 then .panicked (fA 21)else if(aH c r.2.1.toNat).kind=1 then .panicked (fA 24)else .returned (.tuple #[iV r.1,iV r.2.1]))else .panicked (fA r.2.2)
theorem sH {S:VS} (hV:VW S):∀(l:List (List UInt8)) (dir n:Nat),dir<S.names->n<S.names->(aU S.cur S.data dir n l).2.2=0->
  (∃d<S.names,(aU S.cur S.data dir n l).1=(d:Int))/\((aU S.cur S.data dir n l).2.1= -1\/∃m<S.names,(aU S.cur S.data dir n l).2.1=(m:Int))
 |[],dir,n,hd,hn,h=>⟨⟨dir,hd,rfl⟩,.inr ⟨n,hn,rfl⟩⟩
 |name::l,dir,n,hd,hn,h=>by
  rw[aU]at h ⊢;by_cases hk:(aH S.cur n).kind=1
  ·rw[if_pos hk]at h ⊢;rcases MQ (jX S.cur S.data (aH S.cur n)) name with⟨i,h1,h2,h3⟩|⟨_,h3⟩
   ·rw[h3]at h ⊢;simp only at h ⊢;(have h4:(0:Int)<=i:=by omega);rw[if_pos h4]at h ⊢;have h5:=hV.ent n hn hk _ (nW h1);rw[uT]at h5;exact sH hV l n _ hn h5.1 h
   rw[h3]at h ⊢;simp only at h ⊢;rw[if_neg aR]at h ⊢;by_cases hl:l=[]
   ·rw[if_pos hl]at h ⊢;exact⟨⟨n,hn,rfl⟩,.inl rfl⟩
   rw[if_neg hl]at h;exact absurd h aR
  rw[if_neg hk]at h;exact absurd h aR
section
variable {w0 w:World} {R:List aW} {f q p:Nat} {S:VS} {a:VA}
theorem Z23 {P:Prop} (h:P:=by go_wp2_with(first |(go_at_call 69;refine hlk.mono ?_;rintro e w9 ⟨rfl,h9⟩;replace h9:=Lh h9;clear hlk)|(go_at_call 54;refine(eQ _ _).mono ?_;rw[if_neg h3];rintro e w8 ⟨rfl,h8⟩;obtain rfl:=h8.symm));exact⟨rfl,rfl,h9.out⟩):P:=h
theorem Z68 {P:Prop} (h:P:=by go_wp2_with(first |(go_at_call 69;refine hlk.mono ?_;rintro e w9 ⟨rfl,h9⟩;replace h9:=Lh h9;clear hlk)|(go_at_call 54;refine(eQ _ _).mono ?_;rintro e w8 ⟨rfl,h8⟩;obtain rfl:=h8.symm));exact⟨rfl,rfl,h9.out⟩):P:=h
theorem sI {path:List UInt8} (hC:VC S a) (hV:VW S) (hv:aV path=true) (hp:path.length<=1048576) (h:Sep w0 w (aF f q p S a::R)):
  Calls Tryz.prog 118 #[pV f,aC path] w fun e w'=>e=pY (aU S.cur S.data 0 0 (splitB path))/\∃a',Reads S a a'/\Sep w0 w' (aF f q p S a'::R):=by
 have hlk:=acU hC hV hv hp h;obtain⟨r,hr⟩:∃r,r=aU S.cur S.data 0 0 (splitB path):=⟨_,rfl⟩;rw[<-hr]at hlk ⊢;obtain⟨r1,r2,r3⟩:=r;unfold pY;simp only at hlk ⊢;clear hC hV hv hp h hr;unfold aC at*;by_cases h3:r3=0
 ·subst h3;rw[if_pos rfl];by_cases h2:r2<0
  ·rw[if_pos h2];go_enter Tryz.func118,Tryz.ntmps118;go_wp2_with(first |(go_at_call 69;refine hlk.mono ?_;rintro e w9 ⟨rfl,h9⟩;replace h9:=Lh h9;clear hlk)|(go_at_call 54;refine(eQ _ _).mono ?_;rintro e w8 ⟨rfl,h8⟩;obtain rfl:=h8.symm));go_ret;exact⟨rfl,h9.out⟩
  rw[if_neg h2];(have h2':(0:Int)<=r2:=by omega);go_enter Tryz.func118,Tryz.ntmps118;exact Z68
 rw[if_neg h3];go_enter Tryz.func118,Tryz.ntmps118;exact Z23
theorem nY {path:List UInt8} (hC:VC S a) (hV:VW S) (hv:aV path=true) (hp:path.length<=1048576) (h:Sep w0 w (aF f q p S a::R)):
  Calls Tryz.prog 107 #[pV f,aC path] w fun e w'=>e=lV (aU S.cur S.data 0 0 (splitB path))/\∃a',Reads S a a'/\Sep w0 w' (aF f q p S a'::R):=by
 have hlk:=acU hC hV hv hp h;obtain⟨r,hr⟩:∃r,r=aU S.cur S.data 0 0 (splitB path):=⟨_,rfl⟩;rw[<-hr]at hlk ⊢;obtain⟨r1,r2,r3⟩:=r;unfold lV;simp only at hlk ⊢;clear hC hV hv hp h hr;unfold aC at*;by_cases h3:r3=0
 ·subst h3;rw[if_pos rfl];by_cases h2:r2<0
  ·rw[if_pos h2];go_enter Tryz.func107,Tryz.ntmps107;exact Z68
  rw[if_neg h2];(have h2':(0:Int)<=r2:=by omega);go_enter Tryz.func107,Tryz.ntmps107;go_wp2_with(first |(go_at_call 69;refine hlk.mono ?_;rintro e w9 ⟨rfl,h9⟩;replace h9:=Lh h9;clear hlk)|(go_at_call 54;refine(eQ _ _).mono ?_;rintro e w8 ⟨rfl,h8⟩;obtain rfl:=h8.symm))
  go_ret2
  exact⟨rfl,h9.out⟩
 rw[if_neg h3];go_enter Tryz.func107,Tryz.ntmps107;exact Z23
theorem Z30 {P:Prop} (h:P:=by go_enter Tryz.func123,Tryz.ntmps123;go_wp2_with(go_at_call 107;refine hlk.mono ?_;rintro e w9 ⟨rfl,h9⟩;replace h9:=Lh h9;clear hlk);exact⟨rfl,rfl,h9.out⟩):P:=h
theorem BK {path:List UInt8} (hC:VC S a) (hV:VW S) (hv:aV path=true) (hp:path.length<=1048576) (h:Sep w0 w (aF f q p S a::R)):
  Calls Tryz.prog 123 #[pV f,aC path] w fun e w'=>e=IA S.cur (aU S.cur S.data 0 0 (splitB path))/\∃a',Reads S a a'/\Sep w0 w' (aF f q p S a'::R):=by
 have hlk:=nY hC hV hv hp h;have hok:=sH hV (splitB path) 0 0 hV.n0 hV.n0;obtain⟨r,hr⟩:∃r,r=aU S.cur S.data 0 0 (splitB path):=⟨_,rfl⟩;rw[<-hr]at hlk hok ⊢;obtain⟨r1,r2,r3⟩:=r;unfold IA;unfold lV at hlk;simp only at hlk hok ⊢;have hin:Hid (∀W n a1,n<S.names->VC S a1->Sep w0 W (aF f q p S a1::R)->Calls Tryz.prog 72 #[pV f,iV (n:Nat)] W fun e w'=>∃v a2,e= .returned (.agg #[iV ((aH S.cur n).kind:Nat),iV ((aH S.cur n).mode:Nat),iV ((aH S.cur n).links:Nat),iV ((aH S.cur n).size:Nat),v])/\Reads S a1 a2/\Sep w0 w' (aF f q p S a2::R)):=Lh fun W n a1 hn kK hS=>by refine(jQ kK hV.vf hn (hV.few n hn) hS).mono ?_;rintro e w' ⟨v,a2,rfl,hR,h9⟩;exact⟨v,a2,rfl,hR,h9.drop 1⟩
 have hfk:=P8;clear hC hV hv hp h hr;unfold aC at*;by_cases h3:r3=0
 ·rw[if_pos h3]at hlk ⊢;by_cases h2:r2<0
  ·rw[if_pos h2]at hlk ⊢;exact Z30
  rw[if_neg h2]at hlk ⊢;obtain⟨m,hm,rfl⟩:∃m:Nat,m<S.names/\r2=(m:Int):=by
   rcases(hok h3).2 with h|⟨m,hm,h⟩
   ·omega
   exact⟨m,hm,h⟩
  rw[nA];clear hok h2 h3;by_cases hk:(aH S.cur m).kind=1
  ·rw[if_pos hk];(have hk1:(((aH S.cur m).kind:Int)==1)=true:=by rw[tL];omega);have hm':=Lh hm;clear hk hm;go_enter Tryz.func123,Tryz.ntmps123;go_wp2_with(first |(go_at_call 107;refine hlk.mono ?_;rintro e w9 ⟨rfl,a1,DI,h9⟩;(have hc:=hin.out _ m _ hm'.out DI.ok h9);replace DI:=Lh DI;clear hlk h9 hin)|(go_at_call 72;refine hc.mono ?_;rintro e w8 ⟨v8,a2,rfl,hR2,h8⟩;(have hend:=Lh (And.intro (DI.out.trans hR2) h8));clear hc hR2 h8)|(go_at_call 54;refine(eQ _ _).mono ?_;rintro e w7 ⟨rfl,h7⟩;obtain rfl:=h7.symm));exact⟨rfl,rfl,a2,hend.out.1,hend.out.2⟩
  rw[if_neg hk];(have hk1:(((aH S.cur m).kind:Int)==1)=false:=by rw[jU];omega);have hm':=Lh hm;clear hk hm;go_enter Tryz.func123,Tryz.ntmps123;go_wp2_with(first |(go_at_call 107;refine hlk.mono ?_;rintro e w9 ⟨rfl,a1,DI,h9⟩;(have hc:=hin.out _ m _ hm'.out DI.ok h9);replace DI:=Lh DI;clear hlk h9 hin)|(go_at_call 72;refine hc.mono ?_;rintro e w8 ⟨v8,a2,rfl,hR2,h8⟩;(have hend:=Lh (And.intro (DI.out.trans hR2) h8));clear hc hR2 h8))
  go_ret2
  exact⟨rfl,a2,hend.out.1,hend.out.2⟩
 rw[if_neg h3]at hlk ⊢;exact Z30
theorem NV (h:Sep w0 w (aF f q p S a::R)):
  Calls Tryz.prog 70 #[pV f] w fun e w'=>e=(if S.nodes<256 then .returned (.tuple #[])else .panicked (fA 31))/\w'=w:=by
 have c6:=h.fO.c6;clear h;by_cases hn:S.nodes<256
 ·rw[if_pos hn];go_enter Tryz.func70,Tryz.ntmps70;go_wp2_with fail
  go_end0
  exact⟨rfl,rfl⟩
 rw[if_neg hn];have hn':(256:Int)<=S.nodes:=by omega
 go_enter Tryz.func70,Tryz.ntmps70;go_wp2_with(go_at_call 54;refine(eQ _ _).mono ?_;rintro e w8 ⟨rfl,h8⟩;obtain rfl:=h8.symm);exact⟨rfl,rfl,rfl⟩
end
def mV (S:VS) (n:Nat):VS:=match jY S (aH S.cur n).aB 0 with
 |some (S1,_)=>S1.keep n VI0
 |none=>S
theorem BL {S:VS} {n:Nat}:∃S1,jY S (aH S.cur n).aB 0=some (S1,[])/\mV S n=S1.keep n VI0:=by obtain⟨S1,h⟩:=KD (S:=S) (l:=(aH S.cur n).aB) (n:=0) (fZ _);rw[OO]at h;exact⟨S1,h,by unfold mV;rw[h]⟩
theorem fC.keep {S T:VS} (h:fC S T) (n:Nat) (x:VI):fC S (T.keep n x):=h.trans ⟨rfl,rfl,rfl,rfl,rfl⟩
theorem fC.node {S T:VS} (h:fC S T) (z:Int):fC S (T.node z):=h.trans ⟨rfl,rfl,rfl,rfl,rfl⟩
theorem fC.iD {S T:VS} (h:fC S T) (s i:Nat) (name:List UInt8) (n:Nat):fC S (T.iD s i name n):=h.put _ _
theorem oV (S:VS) (dir:Nat) (name:List UInt8):fC S (cO S dir name):=by
 unfold cO;have h:=(MG S (aH S.cur dir) name).like;simp only;split
 ·exact h
 rename_i S4 l hf;exact((h.node _).trans (qY hf)).keep _ _
theorem P9 (S:VS) (n:Nat):fC S (mV S n):=by obtain⟨S1,h1,h2⟩:=BL (S:=S) (n:=n);rw[h2];exact(qY h1).keep _ _
theorem wJ {S S1:VS} {dir n:Nat} {name:List UInt8} (h:gV S dir name n=some S1):fC S S1:=by
 unfold gV at h;split at h
 ·cases h
 rename_i T l hf;cases h;exact(((fC.refl S).node _).trans (qY hf)).keep _ _|>.iD _ _ _ _
structure p8 (S:VS) (n:Nat):Prop where
 lt:n<S.names
 few:(aH S.cur n).aB.length<=28
 sp:∀s∈(aH S.cur n).aB,s<S.count
structure lW (S:VS):Prop where
 w:gK S
 n0: -1000000<=S.nodes
 n1:S.nodes<=1000000
structure wK (S:VS) (dir:Nat) (name:List UInt8):Prop where
 lt:dir<S.names
 ok:HY S (aH S.cur dir)
 short:name.length<=15
 found:∃i:Nat,i<(aH S.cur dir).size/\(kJ (jX S.cur S.data (aH S.cur dir)) name).1=i
 last:(tC (jX S.cur S.data (aH S.cur dir)) ((aH S.cur dir).size-1)).1.length<=15
 room:(aH S.cur dir).aB.length=max 1 (((aH S.cur dir).size+15)/16)
structure oG (S:VS) (dir n:Nat) (name:List UInt8):Prop where
 ino:p8 S dir
 size:(aH S.cur dir).size<448
 short:name.length<=15
 num:n<=65535
section
variable {w0 w:World} {R:List aW} {f q p:Nat} {S:VS} {a:VA}
theorem akI {n:Nat} (hC:VC S a) (hF:VF S) (hn:p8 S n) (hW:gK S) (h:Sep w0 w (aF f q p S a::R)):
  Calls Tryz.prog 122 #[pV f,iV n] w fun e w'=>e= .returned (.tuple #[])/\∃a',VC (mV S n) a'/\Sep w0 w' (aF f q p (mV S n) a'::R):=by
 obtain⟨S1,h1,h2⟩:=BL (S:=S) (n:=n);rw[h2];exact aqS hC hF hn.lt hn.few hn.sp hW h1 h
theorem QA {dir:Nat} {name:List UInt8} (hC:VC S a) (hF:VF S) (hl:wK S dir name) (hs:lW S) (h:Sep w0 w (aF f q p S a::R)):
  Calls Tryz.prog 120 #[pV f,iV dir,aC name] w fun e w'=>e= .returned (.tuple #[])/\∃a',VC (cO S dir name) a'/\Sep w0 w' (aF f q p (cO S dir name) a'::R):=
 al7 hC hF hl.lt hl.ok hs.w ⟨hs.n0,hs.n1⟩ hl.short hl.found hl.last hl.room h
theorem IB {dir n:Nat} {name:List UInt8} (hC:VC S a) (hF:VF S) (he:oG S dir n name) (hs:lW S) (h:Sep w0 w (aF f q p S a::R)):
  Calls Tryz.prog 125 #[pV f,iV dir,aC name,iV n] w (fQ f q p S (gV S dir name n) w0 R):=
 al5 hC hF he.ino.lt he.ino.few he.ino.sp he.size hs.w ⟨hs.n0,hs.n1⟩ he.short he.num h
theorem ag3 {bf bd bi bn dir n:Nat} {path:List UInt8} (hR:∀W Y,Sep w0 W (Y++R)->W.cell? ⟨bf,0,none⟩=some (pV f)/\W.cell? ⟨bd,0,none⟩=some (iV dir)/\W.cell? ⟨bi,1,none⟩=some (aC path)/\W.cell? ⟨bn,0,none⟩=some (iV n))
  (hC:VC S a) (hF:VF S) (hv:aV path=true) (hp:path.length<=1048576) (hl:wK S dir (aL path)) (hs:lW S) (hn:p8 (cO S dir (aL path)) n) (hW:gK (cO S dir (aL path))) (h:Sep w0 w (aF f q p S a::R)):
  Calls Tryz.prog 119 #[pV bf,pV bd,pV bi,pV bn] w (fQ f q p S (some (mV (cO S dir (aL path)) n)) w0 R):=by
 have hE:w.drew.cell? ⟨bf,0,none⟩=some (pV f)/\w.drew.cell? ⟨bd,0,none⟩=some (iV dir)/\w.drew.cell? ⟨bi,1,none⟩=some (aC path)/\w.drew.cell? ⟨bn,0,none⟩=some (iV n):=hR w [_] h;have hba:=uZ hv hp w.drew;have hlv:Hid (∀W,Below w.heap.size w.drew W->(W.cell? ⟨bf,0,none⟩=some (pV f)/\W.cell? ⟨bd,0,none⟩=some (iV dir)/\W.cell? ⟨bi,1,none⟩=some (aC path)/\W.cell? ⟨bn,0,none⟩=some (iV n))/\
   Calls Tryz.prog 120 #[pV f,iV dir,aC (aL path)] W fun e w'=>e= .returned (.tuple #[])/\(w'.cell? ⟨bf,0,none⟩=some (pV f)/\w'.cell? ⟨bd,0,none⟩=some (iV dir)/\w'.cell? ⟨bi,1,none⟩=some (aC path)/\w'.cell? ⟨bn,0,none⟩=some (iV n))/\
    Calls Tryz.prog 122 #[pV f,iV n] w'.drew fun e w'=>e= .returned (.tuple #[])/\(w'.cell? ⟨bf,0,none⟩=some (pV f)/\w'.cell? ⟨bd,0,none⟩=some (iV dir)/\w'.cell? ⟨bi,1,none⟩=some (aC path)/\w'.cell? ⟨bn,0,none⟩=some (iV n))/\fQ f q p S (some (mV (cO S dir (aL path)) n)) w0 R (.returned (.tuple #[])) w'):=Lh fun W hb=>by
  have hS:=h.drew.pure hb
  refine⟨hR W [_] hS,(QA hC hF hl hs hS).mono ?_⟩
  rintro e w' ⟨rfl,a1,kK,h1⟩
  refine⟨rfl,hR w' [_] h1,(akI kK ((oV S dir (aL path)).vf hF) hn hW h1.drew).mono ?_⟩
  rintro e w2 ⟨rfl,a2,hC2,h2⟩
  exact⟨rfl,hR w2 [_] h2,rfl,a2,hC2,h2⟩
 obtain⟨b,hb⟩:∃b,b=aL path:=⟨_,rfl⟩;rw[<-hb]at hba hlv ⊢;clear hR hC hF hv hp hl hs hn hW h hb;unfold aC at*;go_enter Tryz.func119,Tryz.ntmps119;go_wp2_with fail;refine aP (S:=fun w'=>w'.cell? ⟨bf,0,none⟩=some (pV f)/\w'.cell? ⟨bd,0,none⟩=some (iV dir)/\w'.cell? ⟨bi,1,none⟩=some (.string ⟨path.toArray⟩)/\w'.cell? ⟨bn,0,none⟩=some (iV n)) 8 ?_;refine aA 0 hE ?_;refine aA 1 hE ?_;refine aA 2 hE ?_;refine aA 3 hE ?_;refine aA 4 hE ?_;refine aA 5 hE ?_;refine bI 6 fun K hK=>?_
 go_simp;go_at_call 121;refine hba.mono ?_;rintro e w9 ⟨rfl,xL⟩;obtain⟨hE2,hc⟩:=hlv.out _ xL;clear hba hlv xL hE;dsimp only;refine hK _ _ (fun _=>hE2) ?_;clear hK K;try simp only[Act.put,gD]
 refine bI 7 fun K hK=>?_
 go_simp;go_at_call 120;refine hc.mono ?_;rintro e w8 ⟨rfl,E9,hd⟩;clear hc hE2;dsimp only;refine hK _ _ (fun _=>E9) ?_;clear hK K;try simp only[Act.put,gD]
 refine aQ fE ?_ _;go_wp2_with fail;have IC:w8.drew.cell? ⟨bf,0,none⟩=some (pV f)/\w8.drew.cell? ⟨bd,0,none⟩=some (iV dir)/\w8.drew.cell? ⟨bi,1,none⟩=some (.string ⟨path.toArray⟩)/\w8.drew.cell? ⟨bn,0,none⟩=some (iV n):=E9;refine aP (S:=fun w'=>w'.cell? ⟨bf,0,none⟩=some (pV f)/\w'.cell? ⟨bd,0,none⟩=some (iV dir)/\w'.cell? ⟨bi,1,none⟩=some (.string ⟨path.toArray⟩)/\w'.cell? ⟨bn,0,none⟩=some (iV n)) 6 ?_;refine aA 0 IC ?_;refine aA 1 IC ?_;refine aA 2 IC ?_;refine aA 3 IC ?_;refine aA 4 IC ?_;refine bI 5 fun K hK=>?_
 go_simp;go_at_call 122;refine hd.mono ?_;rintro e w7 ⟨rfl,rV,hend⟩;replace hend:=Lh hend;clear hd IC E9;dsimp only;refine hK _ _ (fun _=>rV) ?_;clear hK K;try simp only[Act.put,gD]
 refine aQ fE ?_ _
 go_end0
 exact hend.out
end
end Go.Proofs.YtmjomdkleikgbaaGreat
namespace Go.Proofs.YtmjomdkleikgbaaGreat
def VS.bit (S:VS) (j:Nat):Bool:=pJ (bk S.cur 1) j
structure dZ (S:VS):Prop where
 cur:kU (S.nb-96) S.cur
 vf:VF S
 nb:S.nb<=4096
theorem dZ.awD {S:VS} (h:dZ S):1<S.cur.length:=by have:=h.vf.room;unfold VS.data at this;rw[h.cur.len];omega
theorem dZ.in1 {S:VS} (h:dZ S) {j:Nat} (hj:j<S.count):j/8<(bk S.cur 1).length:=by have h1:=h.awD;rw[h.cur.len]at h1;rw[jW h.cur h1];have:=h.nb;unfold VS.count at hj;omega
theorem dZ.put {S:VS} (h:dZ S) (k:Nat) {u:List UInt8} (hu:u.length=512):dZ (S.put k u):=⟨h.cur.set _ hu,⟨h.vf.names,h.vf.room⟩,h.nb⟩
theorem dZ.one {S:VS} (h:dZ S):(bk S.cur 1).length=512:=jW h.cur (by have:=h.awD;rw[h.cur.len]at this;exact this)
theorem dZ.set {S:VS} (h:dZ S) (j:Nat):dZ (S.put 1 (kZ (bk S.cur 1) j)):=h.put 1 (by rw[QB];exact h.one)
theorem dZ.clr {S:VS} (h:dZ S) (j:Nat):dZ (S.put 1 (yV (bk S.cur 1) j)):=h.put 1 (by rw[QC];exact h.one)
theorem IE {S:VS} (h:dZ S) {j:Nat} (hj:j<S.count) (i:Nat):(S.put 1 (kZ (bk S.cur 1) j)).bit i=(decide (i=j)||S.bit i):=by
 show pJ (bk (S.cur.set 1 _) 1) i=_
 rw[BG _ _ _ _ h.awD,if_pos rfl,awE (h.in1 hj)];rfl
theorem awF {S:VS} (h:dZ S) {j:Nat} (hj:j<S.count) (i:Nat):(S.put 1 (yV (bk S.cur 1) j)).bit i=(!decide (i=j)&&S.bit i):=by
 show pJ (bk (S.cur.set 1 _) 1) i=_
 rw[BG _ _ _ _ h.awD,if_pos rfl,awG (h.in1 hj)];rfl
theorem QD :∀(k:Nat) (S:VS) (l:List Nat),dZ S->k<=l.length->(∀s∈l,s<S.count)->dZ (nN k S l).1/\∀i,(nN k S l).1.bit i=(S.bit i&& !decide (i∈l.drop (l.length-k)))
 |0,S,l,h,_,_=>⟨h,fun i=>by(show S.bit i=_);rw[Nat.sub_zero,List.drop_length];simp⟩
 |k+1,S,l,h,hk,hl=>by
  rcases abS l with e|⟨l',z,e⟩
  ·subst e;simp at hk
  rw[abT]at e;subst e;have hz:z<S.count:=hl z bK;(have e1:(l'++[z]).getLastD 0=z:=by simp);(have e2:(l'++[z]).dropLast=l':=by simp);(show dZ (nN k (S.put 1 (yV (bk S.cur 1) ((l'++[z]).getLastD 0))) (l'++[z]).dropLast).1/\∀i,(nN k (S.put 1 (yV (bk S.cur 1) ((l'++[z]).getLastD 0))) (l'++[z]).dropLast).1.bit i=_);rw[e1,e2];rw[jM,oL]at hk;(obtain⟨h1,h2⟩:=QD k _ l' (h.clr z) aD fun s hs=>hl s (vU _ hs));refine⟨h1,fun i=>?_⟩;rw[h2,awF h hz];(have e3:(l'++[z]).drop ((l'++[z]).length-(k+1))=l'.drop (l'.length-k)++[z]:=by rw[jM,oL,show l'.length+1-(k+1)=l'.length-k by omega,apS aD]);rw[e3];by_cases ei:i=z
  ·simp[ei]
  simp[ei]
theorem acV :∀(k:Nat) (S:VS) (l:List Nat),dZ S->
  (∀S1 l1,NT k S l=some (S1,l1)->dZ S1/\∃t,l1=l++t/\t.length=k/\t.Nodup/\(∀j∈t,j<S.count/\S.bit j=false)/\∀i,S1.bit i=(S.bit i||decide (i∈t)))/\
  (NT k S l=none->∃t:List Nat,t.length<k/\∀j<S.count,S.bit j=true\/j∈t)
 |0,S,l,h=>⟨fun S1 l1 e=>by cases e;exact⟨h,[],by simp,rfl,.nil,fun j hj=>(EK hj).elim,fun i=>by simp⟩,fun e=>by cases e⟩
 |k+1,S,l,h=>by
  cases hf:j5 (bk S.cur 1) S.count with
  |none=>(have e:NT (k+1) S l=none:=by unfold NT;rw[hf]);refine⟨fun S1 l1 e1=>(by rw[e]at e1;cases e1),fun _=>⟨[],by simp,fun j hj=>.inl (QE hf j hj)⟩⟩
  |some j=>
   have e:NT (k+1) S l=NT k (S.put 1 (kZ (bk S.cur 1) j)) (l++[j]):=by
    conv=>lhs;unfold NT
    rw[hf]
   obtain⟨hj,hbj,_⟩:=yQ hf;obtain⟨h1,h2⟩:=acV k (S.put 1 (kZ (bk S.cur 1) j)) (l++[j]) (h.set j);rw[e];constructor
   ·intro S1 l1 e1;obtain⟨h3,t,h4,h5,h6,h7,h8⟩:=h1 S1 l1 e1;(have hjt:j∉t:=fun hm=>by have:=(h7 j hm).2;rw[IE h hj]at this;simp at this);refine⟨h3,j::t,by rw[h4,pG];rfl,by rw[kH,h5],xJ.2 ⟨hjt,h6⟩,fun i hi=>?_,fun i=>?_⟩
    ·rcases kE.1 hi with rfl|hi
     ·exact⟨hj,hbj⟩
     have:=h7 i hi;rw[IE h hj]at this;simp at this;exact⟨this.1,this.2.2⟩
    rw[h8,IE h hj];by_cases ei:i=j
    ·simp[ei]
    simp[ei]
   intro e1;obtain⟨t,h3,h4⟩:=h2 e1;refine⟨j::t,by rw[kH];omega,fun i hi=>?_⟩;rcases h4 i hi with h5|h5
   ·rw[IE h hj]at h5;by_cases ei:i=j
    ·exact .inr (by rw[ei];exact nH ..)
    simp[ei]at h5;exact .inl h5
   exact .inr (vR _ h5)
theorem QF {S:VS} {l:List Nat} {n:Nat} (h:dZ S) (hn:l.length<=n):
  (∀S1 l1,jY S l n=some (S1,l1)->dZ S1/\∃t,l1=l++t/\t.length=n-l.length/\t.Nodup/\(∀j∈t,j<S.count/\S.bit j=false)/\∀i,S1.bit i=(S.bit i||decide (i∈t)))/\
  (jY S l n=none->∃t:List Nat,t.length<n-l.length/\∀j<S.count,S.bit j=true\/j∈t):=by
 have e:jY S l n=NT (n-l.length) S l:=by unfold jY;rw[Nat.sub_eq_zero_of_le hn];rfl
 rw[e];exact acV _ _ _ h
theorem acW {S:VS} {l:List Nat} {n:Nat} (h:dZ S) (hn:n<=l.length) (hl:∀s∈l,s<S.count):
  ∃S1,jY S l n=some (S1,l.take n)/\dZ S1/\∀i,S1.bit i=(S.bit i&& !decide (i∈l.drop n)):=by
 obtain⟨h1,h2⟩:=QD (l.length-n) S l h aD hl;have h3:=uU (l.length-n) S l;rw[show l.length-(l.length-n)=n by omega]at h2 h3;refine⟨(nN (l.length-n) S l).1,?_,h1,h2⟩;unfold jY;rw[h3,qP,show n-min n l.length=0 by omega];rfl
def vB (f:Nat->Int) (n:Nat):Int:=((List.range n).map f).sum
theorem oW (f:Nat->Int) (n:Nat):vB f (n+1)=vB f n+f n:=by unfold vB;rw[OX,mZ,LZ];simp
theorem QG {f g:Nat->Int} {n:Nat} (h:∀i<n,f i=g i):vB f n=vB g n:=by
 induction n with
 |zero=>rfl
 |succ n ih=>rw[oW,oW,ih fun i hi=>h i aD,h n aD]
theorem BN {f g:Nat->Int} {n k:Nat} (hk:k<n) (h:∀i<n,i≠k->g i=f i):vB g n=vB f n-f k+g k:=by
 induction n with
 |zero=>omega
 |succ n ih=>
  rw[oW,oW];by_cases e:k=n
  ·subst e;rw[QG fun i hi=>h i aD aD];omega
  rw[ih aD fun i hi=>h i aD,h n aD (fun e2=>e e2.symm)];omega
structure LI where
 kind:Nat
 mode:Nat
 links:Nat
 bH:uS
 data:List UInt8
def LI.size (x:LI):Nat:=if x.kind=1 then x.bH.length else x.data.length
def LI.need (x:LI):Nat:=if x.kind=1 then max 1 ((x.bH.length+15)/16)else if x.kind=2 then(x.data.length+511)/512 else 0
def LI0 :LI:=⟨0,0,0,[],[]⟩
abbrev LT :=Nat->LI
def dP (g:LT) (n:Nat) (x:LI):LT:=fun i=>if i=n then x else g i
theorem bM (g:LT) (n:Nat) (x:LI):dP g n x n=x:=if_pos rfl
theorem bR (g:LT) {n i:Nat} (x:LI) (h:i≠n):dP g n x i=g i:=if_neg h
structure LI.fair (x:LI):Prop where
 kind:x.kind<=2
 bH:x.kind≠1->x.bH=[]
 data:x.kind≠2->x.data=[]
 few:x.bH.length<=448
 short:x.data.length<=8192
 mode:x.mode<65536
 links:x.links<65536
 names:∀e∈x.bH,e.1.length<=15/\e.2<=65535
def LI.vi (x:LI) (l:List Nat):VI:=⟨x.kind,x.mode,x.links,x.size,l⟩
theorem LI.akJ {x:LI} (h:x.fair):x.need<=28:=by
 unfold LI.need;have:=h.few;have:=h.short;split
 ·omega
 split<;>omega
theorem LI.size_le {x:LI} (h:x.fair):x.size<=8192:=by unfold LI.size;have:=h.few;have:=h.short;split<;>omega
structure dD (S:VS) (g:LT):Prop where
 use:dZ S
 n0:0<S.names
 fair:∀n<S.names,(g n).fair
 head:∀n<S.names,aH S.cur n=(g n).vi (aH S.cur n).aB
 len:∀n<S.names,(aH S.cur n).aB.length=(g n).need
 lt:∀n<S.names,∀s∈(aH S.cur n).aB,s<S.count
 nodup:∀n<S.names,(aH S.cur n).aB.Nodup
 dis:∀n<S.names,∀m<S.names,n≠m->∀s∈(aH S.cur n).aB,s∉(aH S.cur m).aB
 bits:∀j<S.count,S.bit j=true↔∃n<S.names,j∈(aH S.cur n).aB
 bH:∀n<S.names,(g n).kind=1->jX S.cur S.data (aH S.cur n)=(g n).bH
 data:∀n<S.names,(g n).kind=2->fB S.cur S.data (aH S.cur n)=(g n).data
 wB:S.wB=vB (fun n=>eO (g n).kind (g n).size) S.names
 wI:S.wI=vB (fun n=>nS (g n).kind) S.names
 nodes:S.nodes=vB (fun n=>((g n).bH.length:Int)) S.names
theorem acX {c c':gI} {d:Nat} {l:List Nat} (h:∀s∈l,bk c' (d+s)=bk c (d+s)):pQ c' d l=pQ c d l:=by
 unfold pQ
 induction l with
 |nil=>rfl
 |cons s l ih=>rw[xI,xI,h s (nH ..),ih fun t ht=>h t (vR _ ht)]
theorem wW {c c':gI} {d:Nat} {x:VI} (h:∀s∈x.aB,bk c' (d+s)=bk c (d+s)):fB c' d x=fB c d x:=by unfold fB;rw[acX h]
theorem acY {c c':gI} {d:Nat} {x:VI} {i:Nat} (hi:i<16*x.aB.length) (h:∀s∈x.aB,bk c' (d+s)=bk c (d+s)):gT c' d x i=gT c d x i:=by
 unfold gT;have hk:i/16<x.aB.length:=by omega
 rw[h _ (by rw[gH,gE hk];exact nW hk)]
theorem FW {c c':gI} {d:Nat} {x:VI} (hs:x.size<=16*x.aB.length) (h:∀s∈x.aB,bk c' (d+s)=bk c (d+s)):jX c' d x=jX c d x:=by
 unfold jX;refine uO fun i hi=>?_
 rw[acY (by have:=List.mem_range.1 hi;omega) h]
theorem dD.few {S:VS} {g:LT} (h:dD S g) {n:Nat} (hn:n<S.names):(aH S.cur n).aB.length<=28:=by rw[h.len n hn];exact LI.akJ (h.fair n hn)
theorem dD.size {S:VS} {g:LT} (h:dD S g) {n:Nat} (hn:n<S.names):(aH S.cur n).size=(g n).size:=by rw[h.head n hn];rfl
theorem dD.kind {S:VS} {g:LT} (h:dD S g) {n:Nat} (hn:n<S.names):(aH S.cur n).kind=(g n).kind:=by rw[h.head n hn];rfl
theorem dD.ZL {S:VS} {g:LT} (h:dD S g) {n:Nat} (hn:n<S.names) (hk:(g n).kind=1):(aH S.cur n).size<=16*(aH S.cur n).aB.length:=by rw[h.size hn,h.len n hn];unfold LI.size LI.need;rw[if_pos hk,if_pos hk];omega
structure Step (S S':VS) (g:LT) (n:Nat) (x:LI) (l:List Nat):Prop where
 use:dZ S'
 names:S'.names=S.names
 nb:S'.nb=S.nb
 ino:∀m<S.names,aH S'.cur m=if m=n then x.vi l else aH S.cur m
 fair:x.fair
 len:l.length=x.need
 lt:∀s∈l,s<S.count
 nodup:l.Nodup
 dis:∀m<S.names,m≠n->∀s∈(aH S.cur m).aB,s∉l
 bits:∀j<S.count,S'.bit j=true↔j∈l\/∃m<S.names,m≠n/\j∈(aH S.cur m).aB
 blk:∀m<S.names,m≠n->∀s∈(aH S.cur m).aB,bk S'.cur (S.data+s)=bk S.cur (S.data+s)
 bH:x.kind=1->jX S'.cur S.data (x.vi l)=x.bH
 data:x.kind=2->fB S'.cur S.data (x.vi l)=x.data
 wB:S'.wB=S.wB-eO (g n).kind (g n).size+eO x.kind x.size
 wI:S'.wI=S.wI-nS (g n).kind+nS x.kind
 nodes:S'.nodes=S.nodes-(g n).bH.length+x.bH.length
theorem dD.step {S S':VS} {g:LT} {n:Nat} {x:LI} {l:List Nat} (h:dD S g) (hn:n<S.names) (st:Step S S' g n x l):dD S' (dP g n x):=by
 have hd:S'.data=S.data:=by unfold VS.data;rw[st.names]
 have hc:S'.count=S.count:=by unfold VS.count;rw[hd,st.nb]
 have hin:aH S'.cur n=x.vi l:=by rw[st.ino n hn,if_pos rfl]
 have nT:∀m,m<S.names->m≠n->aH S'.cur m=aH S.cur m:=fun m hm e=>by rw[st.ino m hm,if_neg e]
 refine⟨st.use,by rw[st.names];exact h.n0,?_,?_,?_,?_,?_,?_,?_,?_,?_,?_,?_,?_⟩<;>rw[st.names]at*
 ·intro m hm;by_cases e:m=n
  ·rw[e,bM];exact st.fair
  rw[bR _ _ e];exact h.fair m hm
 ·intro m hm;by_cases e:m=n
  ·rw[e,bM,hin];rfl
  rw[bR _ _ e,nT m hm e];exact h.head m hm
 ·intro m hm;by_cases e:m=n
  ·rw[e,bM,hin];exact st.len
  rw[bR _ _ e,nT m hm e];exact h.len m hm
 ·intro m hm;rw[hc];by_cases e:m=n
  ·rw[e,hin];exact st.lt
  rw[nT m hm e];exact h.lt m hm
 ·intro m hm;by_cases e:m=n
  ·rw[e,hin];exact st.nodup
  rw[nT m hm e];exact h.nodup m hm
 ·intro m hm k hk hmk;by_cases e:m=n
  ·subst e;rw[hin,nT k hk (fun e=>hmk e.symm)];intro s hs hs2;exact st.dis k hk (fun e=>hmk e.symm) s hs2 hs
  rw[nT m hm e];by_cases e2:k=n
  ·subst e2;rw[hin];exact st.dis m hm e
  rw[nT k hk e2];exact h.dis m hm k hk hmk
 ·intro j hj;rw[hc]at hj;rw[st.bits j hj];constructor
  ·rintro(h1|⟨m,hm,e,h1⟩)
   ·exact⟨n,hn,by rw[hin];exact h1⟩
   exact⟨m,hm,by rw[nT m hm e];exact h1⟩
  rintro⟨m,hm,h1⟩;by_cases e:m=n
  ·subst e;rw[hin]at h1;exact .inl h1
  rw[nT m hm e]at h1;exact .inr ⟨m,hm,e,h1⟩
 ·intro m hm hk;rw[hd];by_cases e:m=n
  ·subst e;rw[bM]at hk ⊢;rw[hin];exact st.bH hk
  rw[bR _ _ e]at hk ⊢;rw[nT m hm e,FW (h.ZL hm hk) (st.blk m hm e)];exact h.bH m hm hk
 ·intro m hm hk;rw[hd];by_cases e:m=n
  ·subst e;rw[bM]at hk ⊢;rw[hin];exact st.data hk
  rw[bR _ _ e]at hk ⊢;rw[nT m hm e,wW (st.blk m hm e)];exact h.data m hm hk
 ·rw[st.wB,h.wB,BN (f:=fun n=>eO (g n).kind (g n).size) (g:=fun i=>eO (dP g n x i).kind (dP g n x i).size) hn fun i _ e=>by rw[bR _ _ e]];simp only[bM]
 ·rw[st.wI,h.wI,BN (f:=fun n=>nS (g n).kind) (g:=fun i=>nS (dP g n x i).kind) hn fun i _ e=>by rw[bR _ _ e]];simp only[bM]
 rw[st.nodes,h.nodes,BN (f:=fun n=>((g n).bH.length:Int)) (g:=fun i=>((dP g n x i).bH.length:Int)) hn fun i _ e=>by rw[bR _ _ e]];simp only[bM]
theorem dZ.tab {S:VS} (h:dZ S) {n:Nat} (hn:n<S.names):2+n/8<S.nb-96:=by have:=h.vf.room;unfold VS.data at this;omega
theorem dZ.keep {S:VS} (h:dZ S) {n:Nat} (hn:n<S.names) {x:VI} (hx:x.aB.length<=28):dZ (S.keep n x):=
 ⟨aqU h.cur (h.tab hn) hx,⟨h.vf.names,h.vf.room⟩,h.nb⟩
theorem BO (c:gI) {n k:Nat} (x:VI) (h:k≠2+n/8):bk (vC c n x) k=bk c k:=dK c _ h
theorem aqV (S:VS) (n:Nat) (x:VI) (j:Nat):(S.keep n x).bit j=S.bit j:=by
 show pJ (bk (vC S.cur n x) 1) j=_
 rw[BO _ _ aD];rfl
theorem amN {S:VS} {n:Nat} (hn:n<S.names) (x:VI) (s:Nat):bk (S.keep n x).cur (S.data+s)=bk S.cur (S.data+s):=
 BO _ _ (by unfold VS.data;omega)
theorem aqW {S:VS} (h:dZ S) {n:Nat} (hn:n<S.names) {x:VI} (hx:x.ok) (m:Nat):aH (S.keep n x).cur m=if m=n then x else aH S.cur m:=
 amO h.cur (h.tab hn) hx m
theorem LI.aD2 {x:LI} (h:x.fair) {l:List Nat} (hl:l.length<=28) (h2:∀s∈l,s<65536):(x.vi l).ok:=
 ⟨by have:=h.kind;unfold LI.vi;simp only;omega,h.mode,h.links,by have:=LI.size_le h;unfold LI.vi;simp only;omega,hl,h2⟩
theorem dD.QH {S:VS} {g:LT} (h:dD S g) {s:Nat} (hs:s<S.count):s<65536:=by have:=h.use.nb;unfold VS.count at hs;omega
end Go.Proofs.YtmjomdkleikgbaaGreat
