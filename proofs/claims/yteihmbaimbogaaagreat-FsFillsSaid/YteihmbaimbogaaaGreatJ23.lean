/- FuM, FuN, FuO, FvA, laid together. -/
import Derived.Test.YteihmbaimbogaaaGreatJ22
import Derived.OwnWalk
namespace Go.Proofs.YteihmbaimbogaaaGreat
open Go.RowKit
set_option linter.unusedVariables false
set_option linter.unusedSimpArgs false
structure VW (S:VS):Prop where
 vf:VF S
 n0:0<S.names
 few:∀n<S.names,(aF S.cur n).aB.length≤28
 lt:∀n<S.names,∀s∈(aF S.cur n).aB,s<S.count
 dir:∀n<S.names,(aF S.cur n).kind=1→zP S (aF S.cur n)
 ent:∀n<S.names,(aF S.cur n).kind=1→∀e∈iJ S.cur S.data (aF S.cur n),e.2<S.names∧e.1.length≤15
def aW (c:dW) (d:Nat):Nat→Nat→List (List UInt8)→Int×Int×Int
 |dir,n,[]=>(dir,n,0)
 |dir,n,name::l=>
  if(aF c n).kind=1 then
   (if 0≤(iR (iJ c d (aF c n)) name).1 then aW c d n (iR (iJ c d (aF c n)) name).2 l
   else if l=[]then(n, -1,0)else(0,0,21))
  else(0,0,22)
theorem DY (L:qZ) (name:List UInt8):(∃i:Nat,i<L.length∧(pI L i).1=name∧iR L name=((i:Int),(pI L i).2))∨((∀j<L.length,(pI L j).1≠name)∧iR L name=(-1,0)):=by
 unfold iR;cases h:L.findIdx? fun e=>e.1==name with
 |none=>right;rw[List.findIdx?_eq_none_iff]at h;refine⟨fun j hj=>?_,rfl⟩;have:=h _ (List.getElem_mem hj);rw[nW]at this;simpa using this
 |some i=>left;rw[List.findIdx?_eq_some_iff_getElem]at h;obtain⟨h1,h2,_⟩:=h;rw[nW]at h2;exact⟨i,h1,by simpa using h2,rfl⟩
section
variable {w0 w:World} {R:List aU} {f q p:Nat} {S:VS} {a:VA}
set_option maxRecDepth 100000 in
set_option maxHeartbeats 4000000 in
theorem RG {path:List UInt8} (hC:VC S a) (hV:VW S) (hv:aP path=true) (al0:path.length≤1048576) (h:Sep w0 w (aG f q p S a::R)):
  Calls Tryz.prog 61 #[.pointer (some ⟨f,0,none⟩),aM path] w fun e w'=>e= .returned (.tuple #[.int .i64 (aW S.cur S.data 0 0 (splitB path)).1,.int .i64 (aW S.cur S.data 0 0 (splitB path)).2.1,.int .i64 (aW S.cur S.data 0 0 (splitB path)).2.2])∧∃a',Reads S a a'∧Sep w0 w' (aG f q p S a'::R):=by
 have hnm:=VZ hv al0 w;obtain⟨r,hr⟩:∃r,r=aW S.cur S.data 0 0 (splitB path):=⟨_,rfl⟩;obtain⟨L,hL⟩:∃L,L=splitB path:=⟨_,rfl⟩;have hL7:L.length≤1048577:=by rw[hL];have:=H6 path;omega
 rw[←hr];rw[←hL]at hnm hr;obtain⟨N,hN⟩:∃N,N=L.length:=⟨_,rfl⟩;rw[←hN]at hnm hL7;have hnm':Calls Tryz.prog 116 #[aM path] w fun e w'=>∃A c,e= .returned (.slice A N c)∧Sep w0 w' (aG f q p S a:: .sl 9 1 (.slice A N c) N (L.map aM)::R):=by refine hnm.mono ?_;rintro e w' ⟨v,rfl,hS⟩;have h1:=h.join hS;obtain⟨A,c,e⟩:=h1.dA 0 rfl;subst e;exact⟨A,c,rfl,h1.perm (List.Perm.swap _ _ _)⟩
 have N1:(N:Int)≤1048577:=by omega
 have hin:Hid (∀W n a1 R',n<S.names→VC S a1→Sep w0 W (aG f q p S a1::R')→Calls Tryz.prog 64 #[.pointer (some ⟨f,0,none⟩),.int .i64 (n:Nat)] W fun e w'=>∃A c a2,e= .returned (.agg #[.int .i64 ((aF S.cur n).kind:Nat),.int .i64 ((aF S.cur n).mode:Nat),.int .i64 ((aF S.cur n).links:Nat),.int .i64 ((aF S.cur n).size:Nat),.slice A (aF S.cur n).aB.length c])∧Reads S a1 a2∧
   Sep w0 (w'.alloc (.cells #[.int .i64 ((aF S.cur n).kind:Nat),.int .i64 ((aF S.cur n).mode:Nat),.int .i64 ((aF S.cur n).links:Nat),.int .i64 ((aF S.cur n).size:Nat),.slice A (aF S.cur n).aB.length c] 118)) (aG f q p S a2:: .box w'.heap.size 118 (aL (aF S.cur n) (.slice A (aF S.cur n).aB.length c))::aQ (.slice A (aF S.cur n).aB.length c) (dR (aF S.cur n).aB)::R')):=Lh fun W n a1 R' hn jY hS=>by
  refine(jD jY hV.vf hn (hV.few n hn) hS).mono ?_;rintro e w' ⟨v,a2,rfl,hR,h9⟩;obtain⟨A,c,e9⟩:=h9.dA 0 rfl;(have hll:(dR (aF S.cur n).aB).length=(aF S.cur n).aB.length:=by unfold dR;rw[List.length_map]);rw[hll]at e9;subst e9;exact⟨A,c,a2,rfl,hR,Sep.bZ [2,0,1] (h9.bN 118 (aL (aF S.cur n) (.slice A (aF S.cur n).aB.length c))) (by decide) (by simp)⟩
 have hC':=Lh hC;have hV':=Lh hV;have hr':=Lh hr;have hN':=Lh hN;clear hC hV hv h hnm hr hL hN al0 hL7;unfold aM at hnm' ⊢;go_enter Tryz.func61,Tryz.ntmps61;go_wp2_with(go_at_call 116;refine hnm'.mono ?_;rintro e w9 ⟨A9,c9,rfl,h9⟩;replace h9:=Lh h9;clear hnm');go_loopw[4,5,17] (fun d n i wr=>∃(k:Nat) (dir:Nat),k≤N∧i= .int .i64 k∧d= .int .i64 dir∧((∃m:Nat,m<S.names∧n= .int .i64 m∧Hid (aW S.cur S.data dir m (L.drop k)=r))∨(k=N∧n= .int .i64 (-1)∧Hid (r=((dir:Int), -1,0))))∧Hid (∃a1,Reads S a a1∧Sep w0 wr (aG f q p S a1:: .sl 9 1 (.slice A9 N c9) N (L.map fun p=>.string ⟨p.toArray⟩)::R))) (fun _ _ i _=>N-(intOf i).toNat)
 case atStart=>exact⟨0,0,Nat.zero_le _,rfl,rfl,.inl ⟨0,hV'.out.n0,rfl,Lh hr'.out.symm⟩,Lh ⟨a,.refl hC'.out,h9.out⟩⟩
 obtain⟨k,dir,hk,rfl,rfl,hnn,hS⟩:=hrel;clear h9;obtain⟨a1,GG,hS1⟩:=hS.out;clear hS;by_cases hlt:k<N
 ·have hn2:∃m:Nat,m<S.names∧u5= .int .i64 m∧Hid (aW S.cur S.data dir m (L.drop k)=r):=by
   rcases hnn with h|⟨h,_⟩
   ·exact h
   omega
  obtain⟨m,hm,rfl,hlk⟩:=hn2;(have hkl:k<L.length:=by rw[←hN'.out];exact hlt);obtain⟨name,hname⟩:∃name,name=L[k]:=⟨_,rfl⟩;(have hdrop:L.drop k=name::L.drop (k+1):=by rw[List.drop_eq_getElem_cons hkl,hname]);(have hcj:∃ad,A9=some ad∧wr.cell? (ad.add k)=some (.string ⟨name.toArray⟩):=by obtain⟨ad,c8,u9,e,h1,h2⟩:=Rd.at_ (hS1.rd 1 rfl) (k:=k) hlt;cases e;rw[List.getElem?_map,gE hkl,←hname]at h1;cases h1;exact⟨ad,rfl,h2⟩);obtain⟨ad,rfl,hcj⟩:=hcj;(have q1:(k:Int)<N:=by omega);(have q0:(0:Int)≤k:=by omega);have hc:=hin.out wr m a1 _ hm GG.ok hS1;obtain⟨x,hx⟩:∃x,x=aF S.cur m:=⟨_,rfl⟩;rw[←hx]at hc;rw[hdrop]at hlk;have hlk2:=hlk.out;rw[aW,←hx]at hlk2;have hx':=Lh hx;have ad5:=Lh GG;have hm':=Lh hm;have av5:=Lh hdrop;clear hnn hlk hS1 GG hx hm hdrop hname;by_cases hkind:x.kind=1
  case neg=>
   rw[if_neg hkind]at hlk2;(have hk1:((x.kind:Int)==1)=false:=by rw[beq_eq_false_iff_ne];omega);have YL:=Lh hlk2;clear hkind hlk2;go_wp2_with(go_at_call 64;refine hc.mono ?_;rintro e w8 ⟨A8,c8,a2,rfl,hR2,h8⟩;(have d0:=(h8.gP 1 rfl).1);replace h8:=Lh h8;replace hR2:=Lh hR2;clear hc)
   go_ret3
   refine⟨?_,a2,ad5.out.trans hR2.out,(Sep.bZ [1,2,3,0] h8.out (by decide) (by simp)).drop 3⟩;rw[←YL.out];rfl
  rw[if_pos hkind]at hlk2;(have hk1:((x.kind:Int)==1)=true:=by rw[beq_iff_eq];omega);(have hDx:zP S x:=by rw[hx'.out];exact hV'.out.dir m hm'.out (by rw[←hx'.out];exact hkind));(have hent:∀i<(iJ S.cur S.data x).length,(pI (iJ S.cur S.data x) i).2<S.names:=fun i hi=>by have h1:=hV'.out.ent m hm'.out (by rw[←hx'.out];exact hkind) ((iJ S.cur S.data x)[i]) (by rw[←hx'.out];exact List.getElem_mem hi);rw[nW]at h1;exact h1.1);have qM:Hid (∀W a2 bx u,VC S a2→Sep w0 W (aG f q p S a2:: .box bx 118 (aL x u)::aQ u (dR x.aB):: .sl 9 1 (.slice (some ad) N c9) N (L.map fun p=>.string ⟨p.toArray⟩)::R)→Calls Tryz.prog 117 #[.pointer (some ⟨f,0,none⟩),.agg #[.int .i64 (x.kind:Nat),.int .i64 (x.mode:Nat),.int .i64 (x.links:Nat),.int .i64 (x.size:Nat),u],.string ⟨name.toArray⟩] W fun e w'=>e= .returned (.tuple #[.int .i64 (iR (iJ S.cur S.data x) name).1,.int .i64 ((iR (iJ S.cur S.data x) name).2:Nat)])∧∃a',Reads S a2 a'∧Sep w0 w' (aG f q p S a':: .box bx 118 (aL x u)::aQ u (dR x.aB):: .sl 9 1 (.slice (some ad) N c9) N (L.map fun p=>.string ⟨p.toArray⟩)::R)):=Lh fun W a2 bx u hC2 hS2=>
   QR (name:=name) hC2 hV'.out.vf (gN 1 rfl) hDx hS2
  obtain⟨D,hD⟩:∃D,D=iR (iJ S.cur S.data x) name:=⟨_,rfl⟩;rw[←hD]at qM hlk2;have hDc:(∃i:Nat,D.1=(i:Int)∧D.2<S.names∧i≤1000)∨D=(-1,0):=by
   rcases DY (iJ S.cur S.data x) name with⟨i,h1,_,h2⟩|⟨_,h2⟩
   ·left;rw[hD,h2];have h3:=vH S.cur S.data x;have h4:=hDx.room;have h5:=hDx.few;exact⟨i,rfl,hent i h1,by omega⟩
   right;rw[hD,h2]
  obtain⟨D1,D2⟩:=D;simp only at qM hlk2 hDc;have YL:=Lh hlk2;have aB1:=Lh hDx;have av7:=Lh hDc;clear hkind hlk2 hDx hent hD hDc;go_wp2_with(go_at_call 64;refine hc.mono ?_;rintro e w8 ⟨A8,c8,a2,rfl,hR2,h8⟩;(have d0:=h8.gP 1 rfl);(have am9:=qM.out _ _ _ _ hR2.ok h8.drew);replace h8:=Lh h8;replace hR2:=Lh hR2;clear hc);obtain⟨gx,hgx⟩:∃gx,gx=w8.heap.size:=⟨_,rfl⟩;obtain⟨w7,hw7⟩:∃w7,w7=w8.alloc (.cells #[.int .i64 (x.kind:Nat),.int .i64 (x.mode:Nat),.int .i64 (x.links:Nat),.int .i64 (x.size:Nat),.slice A8 x.aB.length c8] 118):=⟨_,rfl⟩;rw[←hw7,←hgx]at d0 am9 ⊢;clear hw7 hgx;have hE:w7.drew.cell? ⟨gx,0,none⟩=some (.int .i64 (x.kind:Nat))∧w7.drew.cell? ⟨gx,1,none⟩=some (.int .i64 (x.mode:Nat))∧w7.drew.cell? ⟨gx,2,none⟩=some (.int .i64 (x.links:Nat))∧w7.drew.cell? ⟨gx,3,none⟩=some (.int .i64 (x.size:Nat))∧w7.drew.cell? ⟨gx,4,none⟩=some (.slice A8 x.aB.length c8):=d0;refine aN (S:=fun w'=>w'.cell? ⟨gx,0,none⟩=some (.int .i64 (x.kind:Nat))∧w'.cell? ⟨gx,1,none⟩=some (.int .i64 (x.mode:Nat))∧w'.cell? ⟨gx,2,none⟩=some (.int .i64 (x.links:Nat))∧w'.cell? ⟨gx,3,none⟩=some (.int .i64 (x.size:Nat))∧w'.cell? ⟨gx,4,none⟩=some (.slice A8 x.aB.length c8)) 10 (by kernel_rfl) ?_;simp only[List.size_toArray,List.length_cons,List.length_nil,Nat.reduceAdd];refine aA (i:=0) (v:=?_) hE rfl ?_ ?_;rotate_left
  ·rintro w ⟨e1,e2,e3,e4,e5⟩;go_simp;try with_reducible rfl
  simp only[Act.put,gD];refine aA (i:=1) (v:=?_) hE rfl ?_ ?_;rotate_left
  ·rintro w ⟨e1,e2,e3,e4,e5⟩;go_simp;try with_reducible rfl
  simp only[Act.put,gD];refine aA (i:=2) (v:=?_) hE rfl ?_ ?_;rotate_left
  ·rintro w ⟨e1,e2,e3,e4,e5⟩;go_simp;try with_reducible rfl
  simp only[Act.put,gD];refine aA (i:=3) (v:=?_) hE rfl ?_ ?_;rotate_left
  ·rintro w ⟨e1,e2,e3,e4,e5⟩;go_simp;try with_reducible rfl
  simp only[Act.put,gD];refine aA (i:=4) (v:=?_) hE rfl ?_ ?_;rotate_left
  ·rintro w ⟨e1,e2,e3,e4,e5⟩;go_simp;try with_reducible rfl
  simp only[Act.put,gD];refine aC (i:=5) (by kernel_rfl) rfl (fun K hK=>?_);go_simp;go_at_call 117;refine am9.mono ?_;rintro e w6 ⟨rfl,a3,hR3,h6⟩;have hE2:=h6.gP 1 rfl;have kW:Sep w0 w6 (aG f q p S a3:: .sl 9 1 (.slice (some ad) N c9) N (L.map fun p=>.string ⟨p.toArray⟩)::R):=(Sep.bZ [1,2,0] h6 (by decide) (by simp)).drop 2;replace kW:=Lh kW;have hR4:=Lh (ad5.out.trans (hR2.out.trans hR3));clear am9 h6 hR3 hE d0;dsimp only;refine hK _ _ (fun _=>hE2) ?_;clear hK K;(try simp only[Act.put,gD]);refine aC (i:=6) (by kernel_rfl) rfl (fun K hK=>?_);go_simp;refine hK _ _ (fun _=>hE2) ?_;clear hK K;(try simp only[Act.put,gD]);refine aA (i:=7) (v:=?_) hE2 rfl ?_ ?_;rotate_left
  ·rintro w ⟨e1,e2,e3,e4,e5⟩;go_simp;try with_reducible rfl
  simp only[Act.put,gD];refine aA (i:=8) (v:=?_) hE2 rfl ?_ ?_;rotate_left
  ·rintro w ⟨e1,e2,e3,e4,e5⟩;go_simp;try with_reducible rfl
  simp only[Act.put,gD];refine aC (i:=9) (by kernel_rfl) rfl (fun K hK=>?_);go_simp;refine hK _ _ (fun _=>hE2) ?_;clear hK K;(try simp only[Act.put,gD]);refine aC (i:=10) (by kernel_rfl) rfl (fun K hK=>?_);go_simp;refine hK _ _ (fun h=>absurd rfl h) ?_;clear hK K;(try simp only[Act.put,gD]);refine aO (by kernel_rfl) ?_ _;rcases av7.out with⟨i,hi,h2,hi3⟩|hneg
  ·obtain rfl:D1=(i:Int):=hi;(have q3:(0:Int)≤i:=by omega);(have q4:(i:Int)≤1000:=by omega);have zS:=YL.out;rw[if_pos q3]at zS;replace zS:=Lh zS;clear hi3;go_wp2_with fail;exact⟨⟨k+1,m,by omega,rfl,rfl,.inl ⟨D2,h2,rfl,Lh zS.out⟩,Lh ⟨a3,hR4.out,kW.out⟩⟩,by simp[intOf];omega⟩
  (obtain⟨rfl,rfl⟩:D1= -1∧D2=0:=by injection hneg with h1 h2;exact⟨h1,h2⟩);have zS:=YL.out;rw[if_neg (by decide)]at zS;by_cases hlast:k+1<N
  ·(have hne:¬L.drop (k+1)=[]:=by intro e;have:=List.drop_eq_nil_iff.1 e;rw[←hN'.out]at this;omega);rw[if_neg hne]at zS;(have q5:(k:Int)+1<N:=by omega);replace zS:=Lh zS;clear hneg;go_wp2_with fail
   go_ret3
   refine⟨?_,a3,hR4.out,(Sep.bZ [1,0] kW.out (by decide) (by simp)).drop 1⟩;rw[←zS.out];rfl
  have hnil:L.drop (k+1)=[]:=List.drop_of_length_le (by rw[←hN'.out];omega);rw[if_pos hnil]at zS;(have q5:(N:Int)≤(k:Int)+1:=by omega);(have hkN:k+1=N:=by omega);replace hkN:=Lh hkN;replace zS:=Lh zS;clear hneg hnil;go_wp2_with fail;exact⟨⟨k+1,m,by omega,rfl,rfl,.inr ⟨hkN.out,rfl,Lh zS.out.symm⟩,Lh ⟨a3,hR4.out,kW.out⟩⟩,by simp[intOf];omega⟩
 obtain rfl:k=N:=by omega
 rcases hnn with⟨m,hm,rfl,hlk⟩|⟨_,rfl,hlk⟩
 ·have e1:L.drop k=[]:=List.drop_of_length_le (by rw[hN'.out];exact Nat.le_refl _);rw[e1,aW]at hlk;go_wp2_with fail
  go_ret3
  refine⟨?_,a1,GG,(Sep.bZ [1,0] hS1 (by decide) (by simp)).drop 1⟩;rw[←hlk.out];rfl
 go_wp2_with fail
 go_ret3
 refine⟨?_,a1,GG,(Sep.bZ [1,0] hS1 (by decide) (by simp)).drop 1⟩;rw[hlk.out];rfl
end
def rW (r:Int×Int×Int):Ending:=if r.2.2=0 then(if r.2.1<0 then .returned (.int .i64 r.1)else .panicked (eH 23))else .panicked (eH r.2.2)
def nA (r:Int×Int×Int):Ending:=if r.2.2=0 then(if r.2.1<0 then .panicked (eH 21)else .returned (.tuple #[.int .i64 r.1,.int .i64 r.2.1]))else .panicked (eH r.2.2)
def RH (c:dW) (r:Int×Int×Int):Ending:=if r.2.2=0 then(if r.2.1<0 then .panicked (eH 21)else if(aF c r.2.1.toNat).kind=1 then .panicked (eH 24)else .returned (.tuple #[.int .i64 r.1,.int .i64 r.2.1]))else .panicked (eH r.2.2)
theorem vK {S:VS} (hV:VW S):∀(l:List (List UInt8)) (dir n:Nat),dir<S.names→n<S.names→(aW S.cur S.data dir n l).2.2=0→
  (∃d<S.names,(aW S.cur S.data dir n l).1=(d:Int))∧((aW S.cur S.data dir n l).2.1= -1∨∃m<S.names,(aW S.cur S.data dir n l).2.1=(m:Int))
 |[],dir,n,hd,hn,h=>⟨⟨dir,hd,rfl⟩,.inr ⟨n,hn,rfl⟩⟩
 |name::l,dir,n,hd,hn,h=>by
  rw[aW]at h ⊢;by_cases hk:(aF S.cur n).kind=1
  ·rw[if_pos hk]at h ⊢;rcases DY (iJ S.cur S.data (aF S.cur n)) name with⟨i,h1,h2,h3⟩|⟨_,h3⟩
   ·rw[h3]at h ⊢;simp only at h ⊢;(have h4:(0:Int)≤i:=by omega);rw[if_pos h4]at h ⊢;have h5:=hV.ent n hn hk _ (List.getElem_mem h1);rw[nW]at h5;exact vK hV l n _ hn h5.1 h
   rw[h3]at h ⊢;simp only at h ⊢;rw[if_neg (by decide)]at h ⊢;by_cases hl:l=[]
   ·rw[if_pos hl]at h ⊢;exact⟨⟨n,hn,rfl⟩,.inl rfl⟩
   rw[if_neg hl]at h;exact absurd h (by decide)
  rw[if_neg hk]at h;exact absurd h (by decide)
section
variable {w0 w:World} {R:List aU} {f q p:Nat} {S:VS} {a:VA}
set_option maxRecDepth 100000 in
set_option maxHeartbeats 2000000 in
theorem DZ {path:List UInt8} (hC:VC S a) (hV:VW S) (hv:aP path=true) (hp:path.length≤1048576) (h:Sep w0 w (aG f q p S a::R)):
  Calls Tryz.prog 98 #[.pointer (some ⟨f,0,none⟩),aM path] w fun e w'=>e=rW (aW S.cur S.data 0 0 (splitB path))∧∃a',Reads S a a'∧Sep w0 w' (aG f q p S a'::R):=by
 have hlk:=RG hC hV hv hp h;obtain⟨r,hr⟩:∃r,r=aW S.cur S.data 0 0 (splitB path):=⟨_,rfl⟩;rw[←hr]at hlk ⊢;obtain⟨r1,r2,r3⟩:=r;unfold rW;simp only at hlk ⊢;clear hC hV hv hp h hr;unfold aM at*;by_cases h3:r3=0
 ·subst h3;rw[if_pos rfl];by_cases h2:r2<0
  ·rw[if_pos h2];go_enter Tryz.func98,Tryz.ntmps98;go_wp2_with(first |(go_at_call 61;refine hlk.mono ?_;rintro e w9 ⟨rfl,h9⟩;replace h9:=Lh h9;clear hlk)|(go_at_call 43;refine(dI _ _).mono ?_;rintro e w8 ⟨rfl,h8⟩;obtain rfl:=h8.symm));go_ret;exact⟨rfl,h9.out⟩
  rw[if_neg h2];(have h2':(0:Int)≤r2:=by omega);go_enter Tryz.func98,Tryz.ntmps98;go_wp2_with(first |(go_at_call 61;refine hlk.mono ?_;rintro e w9 ⟨rfl,h9⟩;replace h9:=Lh h9;clear hlk)|(go_at_call 43;refine(dI _ _).mono ?_;rintro e w8 ⟨rfl,h8⟩;obtain rfl:=h8.symm));exact⟨rfl,rfl,h9.out⟩
 rw[if_neg h3];go_enter Tryz.func98,Tryz.ntmps98;go_wp2_with(first |(go_at_call 61;refine hlk.mono ?_;rintro e w9 ⟨rfl,h9⟩;replace h9:=Lh h9;clear hlk)|(go_at_call 43;refine(dI _ _).mono ?_;rw[if_neg h3];rintro e w8 ⟨rfl,h8⟩;obtain rfl:=h8.symm));exact⟨rfl,rfl,h9.out⟩
set_option maxRecDepth 100000 in
set_option maxHeartbeats 2000000 in
theorem xU {path:List UInt8} (hC:VC S a) (hV:VW S) (hv:aP path=true) (hp:path.length≤1048576) (h:Sep w0 w (aG f q p S a::R)):
  Calls Tryz.prog 68 #[.pointer (some ⟨f,0,none⟩),aM path] w fun e w'=>e=nA (aW S.cur S.data 0 0 (splitB path))∧∃a',Reads S a a'∧Sep w0 w' (aG f q p S a'::R):=by
 have hlk:=RG hC hV hv hp h;obtain⟨r,hr⟩:∃r,r=aW S.cur S.data 0 0 (splitB path):=⟨_,rfl⟩;rw[←hr]at hlk ⊢;obtain⟨r1,r2,r3⟩:=r;unfold nA;simp only at hlk ⊢;clear hC hV hv hp h hr;unfold aM at*;by_cases h3:r3=0
 ·subst h3;rw[if_pos rfl];by_cases h2:r2<0
  ·rw[if_pos h2];go_enter Tryz.func68,Tryz.ntmps68;go_wp2_with(first |(go_at_call 61;refine hlk.mono ?_;rintro e w9 ⟨rfl,h9⟩;replace h9:=Lh h9;clear hlk)|(go_at_call 43;refine(dI _ _).mono ?_;rintro e w8 ⟨rfl,h8⟩;obtain rfl:=h8.symm));exact⟨rfl,rfl,h9.out⟩
  rw[if_neg h2];(have h2':(0:Int)≤r2:=by omega);go_enter Tryz.func68,Tryz.ntmps68;go_wp2_with(first |(go_at_call 61;refine hlk.mono ?_;rintro e w9 ⟨rfl,h9⟩;replace h9:=Lh h9;clear hlk)|(go_at_call 43;refine(dI _ _).mono ?_;rintro e w8 ⟨rfl,h8⟩;obtain rfl:=h8.symm))
  go_ret2
  exact⟨rfl,h9.out⟩
 rw[if_neg h3];go_enter Tryz.func68,Tryz.ntmps68;go_wp2_with(first |(go_at_call 61;refine hlk.mono ?_;rintro e w9 ⟨rfl,h9⟩;replace h9:=Lh h9;clear hlk)|(go_at_call 43;refine(dI _ _).mono ?_;rw[if_neg h3];rintro e w8 ⟨rfl,h8⟩;obtain rfl:=h8.symm));exact⟨rfl,rfl,h9.out⟩
set_option maxRecDepth 100000 in
set_option maxHeartbeats 2000000 in
theorem aeS {path:List UInt8} (hC:VC S a) (hV:VW S) (hv:aP path=true) (hp:path.length≤1048576) (h:Sep w0 w (aG f q p S a::R)):
  Calls Tryz.prog 71 #[.pointer (some ⟨f,0,none⟩),aM path] w fun e w'=>e=RH S.cur (aW S.cur S.data 0 0 (splitB path))∧∃a',Reads S a a'∧Sep w0 w' (aG f q p S a'::R):=by
 have hlk:=xU hC hV hv hp h;have hok:=vK hV (splitB path) 0 0 hV.n0 hV.n0;obtain⟨r,hr⟩:∃r,r=aW S.cur S.data 0 0 (splitB path):=⟨_,rfl⟩;rw[←hr]at hlk hok ⊢;obtain⟨r1,r2,r3⟩:=r;unfold RH;unfold nA at hlk;simp only at hlk hok ⊢;have hin:Hid (∀W n a1,n<S.names→VC S a1→Sep w0 W (aG f q p S a1::R)→Calls Tryz.prog 64 #[.pointer (some ⟨f,0,none⟩),.int .i64 (n:Nat)] W fun e w'=>∃v a2,e= .returned (.agg #[.int .i64 ((aF S.cur n).kind:Nat),.int .i64 ((aF S.cur n).mode:Nat),.int .i64 ((aF S.cur n).links:Nat),.int .i64 ((aF S.cur n).size:Nat),v])∧Reads S a1 a2∧Sep w0 w' (aG f q p S a2::R)):=Lh fun W n a1 hn jY hS=>by refine(jD jY hV.vf hn (hV.few n hn) hS).mono ?_;rintro e w' ⟨v,a2,rfl,hR,h9⟩;exact⟨v,a2,rfl,hR,h9.drop 1⟩
 have hfk:=GD;clear hC hV hv hp h hr;unfold aM at*;by_cases h3:r3=0
 ·rw[if_pos h3]at hlk ⊢;by_cases h2:r2<0
  ·rw[if_pos h2]at hlk ⊢;go_enter Tryz.func71,Tryz.ntmps71;go_wp2_with(go_at_call 68;refine hlk.mono ?_;rintro e w9 ⟨rfl,h9⟩;replace h9:=Lh h9;clear hlk);exact⟨rfl,rfl,h9.out⟩
  rw[if_neg h2]at hlk ⊢;obtain⟨m,hm,rfl⟩:∃m:Nat,m<S.names∧r2=(m:Int):=by
   rcases(hok h3).2 with h|⟨m,hm,h⟩
   ·omega
   exact⟨m,hm,h⟩
  rw[Int.toNat_natCast];clear hok h2 h3;by_cases hk:(aF S.cur m).kind=1
  ·rw[if_pos hk];(have hk1:(((aF S.cur m).kind:Int)==1)=true:=by rw[beq_iff_eq];omega);have hm':=Lh hm;clear hk hm;go_enter Tryz.func71,Tryz.ntmps71;go_wp2_with(first |(go_at_call 68;refine hlk.mono ?_;rintro e w9 ⟨rfl,a1,GG,h9⟩;(have hc:=hin.out _ m _ hm'.out GG.ok h9);replace GG:=Lh GG;clear hlk h9 hin)|(go_at_call 64;refine hc.mono ?_;rintro e w8 ⟨v8,a2,rfl,hR2,h8⟩;(have hend:=Lh (And.intro (GG.out.trans hR2) h8));clear hc hR2 h8)|(go_at_call 43;refine(dI _ _).mono ?_;rintro e w7 ⟨rfl,h7⟩;obtain rfl:=h7.symm));exact⟨rfl,rfl,a2,hend.out.1,hend.out.2⟩
  rw[if_neg hk];(have hk1:(((aF S.cur m).kind:Int)==1)=false:=by rw[beq_eq_false_iff_ne];omega);have hm':=Lh hm;clear hk hm;go_enter Tryz.func71,Tryz.ntmps71;go_wp2_with(first |(go_at_call 68;refine hlk.mono ?_;rintro e w9 ⟨rfl,a1,GG,h9⟩;(have hc:=hin.out _ m _ hm'.out GG.ok h9);replace GG:=Lh GG;clear hlk h9 hin)|(go_at_call 64;refine hc.mono ?_;rintro e w8 ⟨v8,a2,rfl,hR2,h8⟩;(have hend:=Lh (And.intro (GG.out.trans hR2) h8));clear hc hR2 h8))
  go_ret2
  exact⟨rfl,a2,hend.out.1,hend.out.2⟩
 rw[if_neg h3]at hlk ⊢;go_enter Tryz.func71,Tryz.ntmps71;go_wp2_with(go_at_call 68;refine hlk.mono ?_;rintro e w9 ⟨rfl,h9⟩;replace h9:=Lh h9;clear hlk);exact⟨rfl,rfl,h9.out⟩
set_option maxRecDepth 100000 in
theorem YM (h:Sep w0 w (aG f q p S a::R)):
  Calls Tryz.prog 62 #[.pointer (some ⟨f,0,none⟩)] w fun e w'=>e=(if S.nodes<256 then .returned (.tuple #[])else .panicked (eH 31))∧w'=w:=by
 have c6:=h.dK.c6;clear h;by_cases hn:S.nodes<256
 ·rw[if_pos hn];go_enter Tryz.func62,Tryz.ntmps62;go_wp2_with fail
  go_end0
  exact⟨rfl,rfl⟩
 rw[if_neg hn];have hn':(256:Int)≤S.nodes:=by omega
 go_enter Tryz.func62,Tryz.ntmps62;go_wp2_with(go_at_call 43;refine(dI _ _).mono ?_;rintro e w8 ⟨rfl,h8⟩;obtain rfl:=h8.symm);exact⟨rfl,rfl,rfl⟩
end
def nO (S:VS) (n:Nat):VS:=match iD S (aF S.cur n).aB 0 with
 |some (S1,_)=>S1.keep n VI0
 |none=>S
theorem vL {S:VS} {n:Nat}:∃S1,iD S (aF S.cur n).aB 0=some (S1,[])∧nO S n=S1.keep n VI0:=by obtain⟨S1,h⟩:=BV (S:=S) (l:=(aF S.cur n).aB) (n:=0) (Nat.zero_le _);rw[List.take_zero]at h;exact⟨S1,h,by unfold nO;rw[h]⟩
theorem dY.keep {S T:VS} (h:dY S T) (n:Nat) (x:VI):dY S (T.keep n x):=h.trans ⟨rfl,rfl,rfl,rfl,rfl⟩
theorem dY.node {S T:VS} (h:dY S T) (z:Int):dY S (T.node z):=h.trans ⟨rfl,rfl,rfl,rfl,rfl⟩
theorem dY.fE {S T:VS} (h:dY S T) (s i:Nat) (name:List UInt8) (n:Nat):dY S (T.fE s i name n):=h.put _ _
theorem D5 (S:VS) (dir:Nat) (name:List UInt8):dY S (bY S dir name):=by
 unfold bY;have h:=(DJ S (aF S.cur dir) name).like;simp only;split
 ·exact h
 rename_i S4 l hf;exact((h.node _).trans (mW hf)).keep _ _
theorem V3 (S:VS) (n:Nat):dY S (nO S n):=by obtain⟨S1,h1,h2⟩:=vL (S:=S) (n:=n);rw[h2];exact(mW h1).keep _ _
theorem D6 {S S1:VS} {dir n:Nat} {name:List UInt8} (h:fF S dir name n=some S1):dY S S1:=by
 unfold fF at h;split at h
 ·cases h
 rename_i T l hf;cases h;exact(((dY.refl S).node _).trans (mW hf)).keep _ _|>.fE _ _ _ _
structure oF (S:VS) (n:Nat):Prop where
 lt:n<S.names
 few:(aF S.cur n).aB.length≤28
 sp:∀s∈(aF S.cur n).aB,s<S.count
structure lJ (S:VS):Prop where
 w:fD S
 n0: -1000000≤S.nodes
 n1:S.nodes≤1000000
structure wV (S:VS) (dir:Nat) (name:List UInt8):Prop where
 lt:dir<S.names
 ok:zP S (aF S.cur dir)
 short:name.length≤15
 found:∃i:Nat,i<(aF S.cur dir).size∧(iR (iJ S.cur S.data (aF S.cur dir)) name).1=i
 last:(pI (iJ S.cur S.data (aF S.cur dir)) ((aF S.cur dir).size-1)).1.length≤15
 room:(aF S.cur dir).aB.length=max 1 (((aF S.cur dir).size+15)/16)
structure nL (S:VS) (dir n:Nat) (name:List UInt8):Prop where
 ino:oF S dir
 size:(aF S.cur dir).size<448
 short:name.length≤15
 num:n≤65535
section
variable {w0 w:World} {R:List aU} {f q p:Nat} {S:VS} {a:VA}
theorem ajJ {n:Nat} (hC:VC S a) (hF:VF S) (hn:oF S n) (hW:fD S) (h:Sep w0 w (aG f q p S a::R)):
  Calls Tryz.prog 102 #[.pointer (some ⟨f,0,none⟩),.int .i64 n] w fun e w'=>e= .returned (.tuple #[])∧∃a',VC (nO S n) a'∧Sep w0 w' (aG f q p (nO S n) a'::R):=by
 obtain⟨S1,h1,h2⟩:=vL (S:=S) (n:=n);rw[h2];exact ad1 hC hF hn.lt hn.few hn.sp hW h1 h
theorem aeT {dir:Nat} {name:List UInt8} (hC:VC S a) (hF:VF S) (hl:wV S dir name) (hs:lJ S) (h:Sep w0 w (aG f q p S a::R)):
  Calls Tryz.prog 100 #[.pointer (some ⟨f,0,none⟩),.int .i64 dir,aM name] w fun e w'=>e= .returned (.tuple #[])∧∃a',VC (bY S dir name) a'∧Sep w0 w' (aG f q p (bY S dir name) a'::R):=
 Z0 hC hF hl.lt hl.ok hs.w ⟨hs.n0,hs.n1⟩ hl.short hl.found hl.last hl.room h
theorem RJ {dir n:Nat} {name:List UInt8} (hC:VC S a) (hF:VF S) (he:nL S dir n name) (hs:lJ S) (h:Sep w0 w (aG f q p S a::R)):
  Calls Tryz.prog 104 #[.pointer (some ⟨f,0,none⟩),.int .i64 dir,aM name,.int .i64 n] w (fA f q p S (fF S dir name n) w0 R):=
 ZY hC hF he.ino.lt he.ino.few he.ino.sp he.size hs.w ⟨hs.n0,hs.n1⟩ he.short he.num h
end
end Go.Proofs.YteihmbaimbogaaaGreat
namespace Go.Proofs.YteihmbaimbogaaaGreat
set_option linter.unusedVariables false
set_option linter.unusedSimpArgs false
def VS.bit (S:VS) (j:Nat):Bool:=l6 (bk S.cur 1) j
structure dB (S:VS):Prop where
 cur:iX (S.nb-96) S.cur
 vf:VF S
 nb:S.nb≤4096
theorem dB.ajK {S:VS} (h:dB S):1<S.cur.length:=by have:=h.vf.room;unfold VS.data at this;rw[h.cur.len];omega
theorem dB.in1 {S:VS} (h:dB S) {j:Nat} (hj:j<S.count):j/8<(bk S.cur 1).length:=by have h1:=h.ajK;rw[h.cur.len]at h1;rw[iL h.cur h1];have:=h.nb;unfold VS.count at hj;omega
theorem dB.put {S:VS} (h:dB S) (k:Nat) {u:List UInt8} (hu:u.length=512):dB (S.put k u):=⟨h.cur.set _ hu,⟨h.vf.names,h.vf.room⟩,h.nb⟩
theorem dB.one {S:VS} (h:dB S):(bk S.cur 1).length=512:=iL h.cur (by have:=h.ajK;rw[h.cur.len]at this;exact this)
theorem dB.set {S:VS} (h:dB S) (j:Nat):dB (S.put 1 (jB (bk S.cur 1) j)):=h.put 1 (by rw[F7];exact h.one)
theorem dB.clr {S:VS} (h:dB S) (j:Nat):dB (S.put 1 (sW (bk S.cur 1) j)):=h.put 1 (by rw[F5];exact h.one)
theorem zT {S:VS} (h:dB S) {j:Nat} (hj:j<S.count) (i:Nat):(S.put 1 (jB (bk S.cur 1) j)).bit i=(decide (i=j)||S.bit i):=by
 show l6 (bk (S.cur.set 1 _) 1) i=_
 rw[vC _ _ _ _ h.ajK,if_pos rfl,ajB (h.in1 hj)];rfl
theorem ajL {S:VS} (h:dB S) {j:Nat} (hj:j<S.count) (i:Nat):(S.put 1 (sW (bk S.cur 1) j)).bit i=(!decide (i=j)&&S.bit i):=by
 show l6 (bk (S.cur.set 1 _) 1) i=_
 rw[vC _ _ _ _ h.ajK,if_pos rfl,ajC (h.in1 hj)];rfl
theorem H9 :∀(k:Nat) (S:VS) (l:List Nat),dB S→k≤l.length→(∀s∈l,s<S.count)→dB (kQ k S l).1∧∀i,(kQ k S l).1.bit i=(S.bit i&& !decide (i∈l.drop (l.length-k)))
 |0,S,l,h,_,_=>⟨h,fun i=>by(show S.bit i=_);rw[Nat.sub_zero,List.drop_length];simp⟩
 |k+1,S,l,h,hk,hl=>by
  rcases List.eq_nil_or_concat l with e|⟨l',z,e⟩
  ·subst e;simp at hk
  rw[List.concat_eq_append]at e;subst e;have hz:z<S.count:=hl z (by simp);(have e1:(l'++[z]).getLastD 0=z:=by simp);(have e2:(l'++[z]).dropLast=l':=by simp);(show dB (kQ k (S.put 1 (sW (bk S.cur 1) ((l'++[z]).getLastD 0))) (l'++[z]).dropLast).1∧∀i,(kQ k (S.put 1 (sW (bk S.cur 1) ((l'++[z]).getLastD 0))) (l'++[z]).dropLast).1.bit i=_);rw[e1,e2];rw[List.length_append,List.length_singleton]at hk;(obtain⟨h1,h2⟩:=H9 k _ l' (h.clr z) (by omega) fun s hs=>hl s (List.mem_append_left _ hs));refine⟨h1,fun i=>?_⟩;rw[h2,ajL h hz];(have e3:(l'++[z]).drop ((l'++[z]).length-(k+1))=l'.drop (l'.length-k)++[z]:=by rw[List.length_append,List.length_singleton,show l'.length+1-(k+1)=l'.length-k by omega,List.drop_append_of_le_length (by omega)]);rw[e3];by_cases ei:i=z
  ·simp[ei]
  simp[ei]
theorem RL :∀(k:Nat) (S:VS) (l:List Nat),dB S→
  (∀S1 l1,FI k S l=some (S1,l1)→dB S1∧∃t,l1=l++t∧t.length=k∧t.Nodup∧(∀j∈t,j<S.count∧S.bit j=false)∧∀i,S1.bit i=(S.bit i||decide (i∈t)))∧
  (FI k S l=none→∃t:List Nat,t.length<k∧∀j<S.count,S.bit j=true∨j∈t)
 |0,S,l,h=>⟨fun S1 l1 e=>by cases e;exact⟨h,[],by simp,rfl,.nil,fun j hj=>(List.not_mem_nil hj).elim,fun i=>by simp⟩,fun e=>by cases e⟩
 |k+1,S,l,h=>by
  cases hf:iC (bk S.cur 1) S.count with
  |none=>(have e:FI (k+1) S l=none:=by unfold FI;rw[hf]);refine⟨fun S1 l1 e1=>(by rw[e]at e1;cases e1),fun _=>⟨[],by simp,fun j hj=>.inl (GZ hf j hj)⟩⟩
  |some j=>
   have e:FI (k+1) S l=FI k (S.put 1 (jB (bk S.cur 1) j)) (l++[j]):=by
    conv=>lhs;unfold FI
    rw[hf]
   obtain⟨hj,hbj,_⟩:=tF hf;obtain⟨h1,h2⟩:=RL k (S.put 1 (jB (bk S.cur 1) j)) (l++[j]) (h.set j);rw[e];constructor
   ·intro S1 l1 e1;obtain⟨h3,t,h4,h5,h6,h7,h8⟩:=h1 S1 l1 e1;(have hjt:j∉t:=fun hm=>by have:=(h7 j hm).2;rw[zT h hj]at this;simp at this);refine⟨h3,j::t,by rw[h4,List.append_assoc];rfl,by rw[List.length_cons,h5],List.nodup_cons.2 ⟨hjt,h6⟩,fun i hi=>?_,fun i=>?_⟩
    ·rcases List.mem_cons.1 hi with rfl|hi
     ·exact⟨hj,hbj⟩
     have:=h7 i hi;rw[zT h hj]at this;simp at this;exact⟨this.1,this.2.2⟩
    rw[h8,zT h hj];by_cases ei:i=j
    ·simp[ei]
    simp[ei]
   intro e1;obtain⟨t,h3,h4⟩:=h2 e1;refine⟨j::t,by rw[List.length_cons];omega,fun i hi=>?_⟩;rcases h4 i hi with h5|h5
   ·rw[zT h hj]at h5;by_cases ei:i=j
    ·exact .inr (by rw[ei];exact List.mem_cons_self ..)
    simp[ei]at h5;exact .inl h5
   exact .inr (List.mem_cons_of_mem _ h5)
theorem IA {S:VS} {l:List Nat} {n:Nat} (h:dB S) (hn:l.length≤n):
  (∀S1 l1,iD S l n=some (S1,l1)→dB S1∧∃t,l1=l++t∧t.length=n-l.length∧t.Nodup∧(∀j∈t,j<S.count∧S.bit j=false)∧∀i,S1.bit i=(S.bit i||decide (i∈t)))∧
  (iD S l n=none→∃t:List Nat,t.length<n-l.length∧∀j<S.count,S.bit j=true∨j∈t):=by
 have e:iD S l n=FI (n-l.length) S l:=by unfold iD;rw[Nat.sub_eq_zero_of_le hn];rfl
 rw[e];exact RL _ _ _ h
theorem RN {S:VS} {l:List Nat} {n:Nat} (h:dB S) (hn:n≤l.length) (hl:∀s∈l,s<S.count):
  ∃S1,iD S l n=some (S1,l.take n)∧dB S1∧∀i,S1.bit i=(S.bit i&& !decide (i∈l.drop n)):=by
 obtain⟨h1,h2⟩:=H9 (l.length-n) S l h (by omega) hl;have h3:=pE (l.length-n) S l;rw[show l.length-(l.length-n)=n by omega]at h2 h3;refine⟨(kQ (l.length-n) S l).1,?_,h1,h2⟩;unfold iD;rw[h3,List.length_take,show n-min n l.length=0 by omega];rfl
def pO (f:Nat→Int) (n:Nat):Int:=((List.range n).map f).sum
theorem lQ (f:Nat→Int) (n:Nat):pO f (n+1)=pO f n+f n:=by unfold pO;rw[List.range_succ,List.map_append,List.sum_append];simp
theorem IB {f g:Nat→Int} {n:Nat} (h:∀i<n,f i=g i):pO f n=pO g n:=by
 induction n with
 |zero=>rfl
 |succ n ih=>rw[lQ,lQ,ih fun i hi=>h i (by omega),h n (by omega)]
theorem vM {f g:Nat→Int} {n k:Nat} (hk:k<n) (h:∀i<n,i≠k→g i=f i):pO g n=pO f n-f k+g k:=by
 induction n with
 |zero=>omega
 |succ n ih=>
  rw[lQ,lQ];by_cases e:k=n
  ·subst e;rw[IB fun i hi=>h i (by omega) (by omega)];omega
  rw[ih (by omega) fun i hi=>h i (by omega),h n (by omega) (fun e2=>e e2.symm)];omega
end Go.Proofs.YteihmbaimbogaaaGreat
