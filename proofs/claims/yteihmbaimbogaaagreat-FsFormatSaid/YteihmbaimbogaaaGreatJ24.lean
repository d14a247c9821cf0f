/- FuM, FuN, FuO, laid together. -/
import Derived.Test.YteihmbaimbogaaaGreatJ23
import Derived.OwnWalk
namespace Go.Proofs.YteihmbaimbogaaaGreat
open Go.RowKit
set_option linter.unusedVariables false
set_option linter.unusedSimpArgs false
structure VW (S:VS):Prop where
 vf:VF S
 n0:0<S.names
 few:∀n<S.names,(inoP S.cur n).spots.length≤28
 lt:∀n<S.names,∀s∈(inoP S.cur n).spots,s<S.count
 dir:∀n<S.names,(inoP S.cur n).kind=1→DirOk S (inoP S.cur n)
 ent:∀n<S.names,(inoP S.cur n).kind=1→∀e∈dirL S.cur S.data (inoP S.cur n),e.2<S.names∧e.1.length≤15
def lookP (c:Blks) (d:Nat):Nat→Nat→List (List UInt8)→Int×Int×Int
 |dir,n,[]=>(dir,n,0)
 |dir,n,name::l=>
  if(inoP c n).kind=1 then
   (if 0≤(lookE (dirL c d (inoP c n)) name).1 then lookP c d n (lookE (dirL c d (inoP c n)) name).2 l
   else if l=[]then(n, -1,0)else(0,0,21))
  else(0,0,22)
theorem lookE_cases (L:Ents) (name:List UInt8):(∃i:Nat,i<L.length∧(eat L i).1=name∧lookE L name=((i:Int),(eat L i).2))∨((∀j<L.length,(eat L j).1≠name)∧lookE L name=(-1,0)):=by
 unfold lookE;cases h:L.findIdx? fun e=>e.1==name with
 |none=>right;rw[List.findIdx?_eq_none_iff]at h;refine⟨fun j hj=>?_,rfl⟩;have:=h _ (List.getElem_mem hj);rw[eat_of]at this;simpa using this
 |some i=>left;rw[List.findIdx?_eq_some_iff_getElem]at h;obtain⟨h1,h2,_⟩:=h;rw[eat_of]at h2;exact⟨i,h1,by simpa using h2,rfl⟩
section
variable {w0 w:World} {R:List Asn} {f q p:Nat} {S:VS} {a:VA}
set_option maxRecDepth 100000 in
set_option maxHeartbeats 4000000 in
theorem look_any {path:List UInt8} (hC:VC S a) (hV:VW S) (hv:validL path=true) (hp100:path.length≤1048576) (h:Sep w0 w (volR f q p S a::R)):
  Calls Tryz.prog 61 #[.pointer (some ⟨f,0,none⟩),strV path] w fun e w'=>e= .returned (.tuple #[.int .i64 (lookP S.cur S.data 0 0 (splitB path)).1,.int .i64 (lookP S.cur S.data 0 0 (splitB path)).2.1,.int .i64 (lookP S.cur S.data 0 0 (splitB path)).2.2])∧∃a',Reads S a a'∧Sep w0 w' (volR f q p S a'::R):=by
 have hnm:=fnames_any hv hp100 w;obtain⟨r,hr⟩:∃r,r=lookP S.cur S.data 0 0 (splitB path):=⟨_,rfl⟩;obtain⟨L,hL⟩:∃L,L=splitB path:=⟨_,rfl⟩;have hL7:L.length≤1048577:=by rw[hL];have:=splitB_pos path;omega
 rw[←hr];rw[←hL]at hnm hr;obtain⟨N,hN⟩:∃N,N=L.length:=⟨_,rfl⟩;rw[←hN]at hnm hL7;have hnm':Calls Tryz.prog 116 #[strV path] w fun e w'=>∃A c,e= .returned (.slice A N c)∧Sep w0 w' (volR f q p S a:: .sl 9 1 (.slice A N c) N (L.map strV)::R):=by refine hnm.mono ?_;rintro e w' ⟨v,rfl,hS⟩;have h1:=h.join hS;obtain⟨A,c,e⟩:=h1.sl_shape 0 rfl;subst e;exact⟨A,c,rfl,h1.perm (List.Perm.swap _ _ _)⟩
 have N1:(N:Int)≤1048577:=by omega
 have hin:Hid (∀W n a1 R',n<S.names→VC S a1→Sep w0 W (volR f q p S a1::R')→Calls Tryz.prog 64 #[.pointer (some ⟨f,0,none⟩),.int .i64 (n:Nat)] W fun e w'=>∃A c a2,e= .returned (.agg #[.int .i64 ((inoP S.cur n).kind:Nat),.int .i64 ((inoP S.cur n).mode:Nat),.int .i64 ((inoP S.cur n).links:Nat),.int .i64 ((inoP S.cur n).size:Nat),.slice A (inoP S.cur n).spots.length c])∧Reads S a1 a2∧
   Sep w0 (w'.alloc (.cells #[.int .i64 ((inoP S.cur n).kind:Nat),.int .i64 ((inoP S.cur n).mode:Nat),.int .i64 ((inoP S.cur n).links:Nat),.int .i64 ((inoP S.cur n).size:Nat),.slice A (inoP S.cur n).spots.length c] 118)) (volR f q p S a2:: .box w'.heap.size 118 (infoC (inoP S.cur n) (.slice A (inoP S.cur n).spots.length c))::intsR (.slice A (inoP S.cur n).spots.length c) (spI (inoP S.cur n).spots)::R')):=Lh fun W n a1 R' hn hC1 hS=>by
  refine(inode_any hC1 hV.vf hn (hV.few n hn) hS).mono ?_;rintro e w' ⟨v,a2,rfl,hR,h9⟩;obtain⟨A,c,e9⟩:=h9.sl_shape 0 rfl;(have hll:(spI (inoP S.cur n).spots).length=(inoP S.cur n).spots.length:=by unfold spI;rw[List.length_map]);rw[hll]at e9;subst e9;exact⟨A,c,a2,rfl,hR,Sep.sel [2,0,1] (h9.bN 118 (infoC (inoP S.cur n) (.slice A (inoP S.cur n).spots.length c))) (by decide) (by simp)⟩
 have hC':=Lh hC;have hV':=Lh hV;have hr':=Lh hr;have hN':=Lh hN;clear hC hV hv h hnm hr hL hN hp100 hL7;unfold strV at hnm' ⊢;go_enter Tryz.func61,Tryz.ntmps61;go_wp2_with(go_at_call 116;refine hnm'.mono ?_;rintro e w9 ⟨A9,c9,rfl,h9⟩;replace h9:=Lh h9;clear hnm');go_loopw[4,5,17] (fun d n i wr=>∃(k:Nat) (dir:Nat),k≤N∧i= .int .i64 k∧d= .int .i64 dir∧((∃m:Nat,m<S.names∧n= .int .i64 m∧Hid (lookP S.cur S.data dir m (L.drop k)=r))∨(k=N∧n= .int .i64 (-1)∧Hid (r=((dir:Int), -1,0))))∧Hid (∃a1,Reads S a a1∧Sep w0 wr (volR f q p S a1:: .sl 9 1 (.slice A9 N c9) N (L.map fun p=>.string ⟨p.toArray⟩)::R))) (fun _ _ i _=>N-(intOf i).toNat)
 case atStart=>exact⟨0,0,Nat.zero_le _,rfl,rfl,.inl ⟨0,hV'.out.n0,rfl,Lh hr'.out.symm⟩,Lh ⟨a,.refl hC'.out,h9.out⟩⟩
 obtain⟨k,dir,hk,rfl,rfl,hnn,hS⟩:=hrel;clear h9;obtain⟨a1,hR1,hS1⟩:=hS.out;clear hS;by_cases hlt:k<N
 ·have hn2:∃m:Nat,m<S.names∧u5= .int .i64 m∧Hid (lookP S.cur S.data dir m (L.drop k)=r):=by
   rcases hnn with h|⟨h,_⟩
   ·exact h
   omega
  obtain⟨m,hm,rfl,hlk⟩:=hn2;(have hkl:k<L.length:=by rw[←hN'.out];exact hlt);obtain⟨name,hname⟩:∃name,name=L[k]:=⟨_,rfl⟩;(have hdrop:L.drop k=name::L.drop (k+1):=by rw[List.drop_eq_getElem_cons hkl,hname]);(have hcj:∃ad,A9=some ad∧wr.cell? (ad.add k)=some (.string ⟨name.toArray⟩):=by obtain⟨ad,c8,u9,e,h1,h2⟩:=Rd.at_ (hS1.rd 1 rfl) (k:=k) hlt;cases e;rw[List.getElem?_map,gE hkl,←hname]at h1;cases h1;exact⟨ad,rfl,h2⟩);obtain⟨ad,rfl,hcj⟩:=hcj;(have q1:(k:Int)<N:=by omega);(have q0:(0:Int)≤k:=by omega);have hc:=hin.out wr m a1 _ hm hR1.ok hS1;obtain⟨x,hx⟩:∃x,x=inoP S.cur m:=⟨_,rfl⟩;rw[←hx]at hc;rw[hdrop]at hlk;have hlk2:=hlk.out;rw[lookP,←hx]at hlk2;have hx':=Lh hx;have hR1':=Lh hR1;have hm':=Lh hm;have hdrop':=Lh hdrop;clear hnn hlk hS1 hR1 hx hm hdrop hname;by_cases hkind:x.kind=1
  case neg=>
   rw[if_neg hkind]at hlk2;(have hk1:((x.kind:Int)==1)=false:=by rw[beq_eq_false_iff_ne];omega);have hlk2':=Lh hlk2;clear hkind hlk2;go_wp2_with(go_at_call 64;refine hc.mono ?_;rintro e w8 ⟨A8,c8,a2,rfl,hR2,h8⟩;(have d0:=(h8.info_cells 1 rfl).1);replace h8:=Lh h8;replace hR2:=Lh hR2;clear hc)
   go_ret3
   refine⟨?_,a2,hR1'.out.trans hR2.out,(Sep.sel [1,2,3,0] h8.out (by decide) (by simp)).drop 3⟩;rw[←hlk2'.out];rfl
  rw[if_pos hkind]at hlk2;(have hk1:((x.kind:Int)==1)=true:=by rw[beq_iff_eq];omega);(have hDx:DirOk S x:=by rw[hx'.out];exact hV'.out.dir m hm'.out (by rw[←hx'.out];exact hkind));(have hent:∀i<(dirL S.cur S.data x).length,(eat (dirL S.cur S.data x) i).2<S.names:=fun i hi=>by have h1:=hV'.out.ent m hm'.out (by rw[←hx'.out];exact hkind) ((dirL S.cur S.data x)[i]) (by rw[←hx'.out];exact List.getElem_mem hi);rw[eat_of]at h1;exact h1.1);have hfd:Hid (∀W a2 bx u,VC S a2→Sep w0 W (volR f q p S a2:: .box bx 118 (infoC x u)::intsR u (spI x.spots):: .sl 9 1 (.slice (some ad) N c9) N (L.map fun p=>.string ⟨p.toArray⟩)::R)→Calls Tryz.prog 117 #[.pointer (some ⟨f,0,none⟩),.agg #[.int .i64 (x.kind:Nat),.int .i64 (x.mode:Nat),.int .i64 (x.links:Nat),.int .i64 (x.size:Nat),u],.string ⟨name.toArray⟩] W fun e w'=>e= .returned (.tuple #[.int .i64 (lookE (dirL S.cur S.data x) name).1,.int .i64 ((lookE (dirL S.cur S.data x) name).2:Nat)])∧∃a',Reads S a2 a'∧Sep w0 w' (volR f q p S a':: .box bx 118 (infoC x u)::intsR u (spI x.spots):: .sl 9 1 (.slice (some ad) N c9) N (L.map fun p=>.string ⟨p.toArray⟩)::R)):=Lh fun W a2 bx u hC2 hS2=>
   find_any (name:=name) hC2 hV'.out.vf (intsT_part 1 rfl) hDx hS2
  obtain⟨D,hD⟩:∃D,D=lookE (dirL S.cur S.data x) name:=⟨_,rfl⟩;rw[←hD]at hfd hlk2;have hDc:(∃i:Nat,D.1=(i:Int)∧D.2<S.names∧i≤1000)∨D=(-1,0):=by
   rcases lookE_cases (dirL S.cur S.data x) name with⟨i,h1,_,h2⟩|⟨_,h2⟩
   ·left;rw[hD,h2];have h3:=dirL_len S.cur S.data x;have h4:=hDx.room;have h5:=hDx.few;exact⟨i,rfl,hent i h1,by omega⟩
   right;rw[hD,h2]
  obtain⟨D1,D2⟩:=D;simp only at hfd hlk2 hDc;have hlk2':=Lh hlk2;have hDx':=Lh hDx;have hDc':=Lh hDc;clear hkind hlk2 hDx hent hD hDc;go_wp2_with(go_at_call 64;refine hc.mono ?_;rintro e w8 ⟨A8,c8,a2,rfl,hR2,h8⟩;(have d0:=h8.info_cells 1 rfl);(have hfd2:=hfd.out _ _ _ _ hR2.ok h8.drew);replace h8:=Lh h8;replace hR2:=Lh hR2;clear hc);obtain⟨gx,hgx⟩:∃gx,gx=w8.heap.size:=⟨_,rfl⟩;obtain⟨w7,hw7⟩:∃w7,w7=w8.alloc (.cells #[.int .i64 (x.kind:Nat),.int .i64 (x.mode:Nat),.int .i64 (x.links:Nat),.int .i64 (x.size:Nat),.slice A8 x.spots.length c8] 118):=⟨_,rfl⟩;rw[←hw7,←hgx]at d0 hfd2 ⊢;clear hw7 hgx;have hE:w7.drew.cell? ⟨gx,0,none⟩=some (.int .i64 (x.kind:Nat))∧w7.drew.cell? ⟨gx,1,none⟩=some (.int .i64 (x.mode:Nat))∧w7.drew.cell? ⟨gx,2,none⟩=some (.int .i64 (x.links:Nat))∧w7.drew.cell? ⟨gx,3,none⟩=some (.int .i64 (x.size:Nat))∧w7.drew.cell? ⟨gx,4,none⟩=some (.slice A8 x.spots.length c8):=d0;refine wp_region_E (S:=fun w'=>w'.cell? ⟨gx,0,none⟩=some (.int .i64 (x.kind:Nat))∧w'.cell? ⟨gx,1,none⟩=some (.int .i64 (x.mode:Nat))∧w'.cell? ⟨gx,2,none⟩=some (.int .i64 (x.links:Nat))∧w'.cell? ⟨gx,3,none⟩=some (.int .i64 (x.size:Nat))∧w'.cell? ⟨gx,4,none⟩=some (.slice A8 x.spots.length c8)) 10 (by kernel_rfl) ?_;simp only[List.size_toArray,List.length_cons,List.length_nil,Nat.reduceAdd];refine wpE_tk (i:=0) (v:=?_) hE rfl ?_ ?_;rotate_left
  ·rintro w ⟨e1,e2,e3,e4,e5⟩;go_simp;try with_reducible rfl
  simp only[Act.put,gD];refine wpE_tk (i:=1) (v:=?_) hE rfl ?_ ?_;rotate_left
  ·rintro w ⟨e1,e2,e3,e4,e5⟩;go_simp;try with_reducible rfl
  simp only[Act.put,gD];refine wpE_tk (i:=2) (v:=?_) hE rfl ?_ ?_;rotate_left
  ·rintro w ⟨e1,e2,e3,e4,e5⟩;go_simp;try with_reducible rfl
  simp only[Act.put,gD];refine wpE_tk (i:=3) (v:=?_) hE rfl ?_ ?_;rotate_left
  ·rintro w ⟨e1,e2,e3,e4,e5⟩;go_simp;try with_reducible rfl
  simp only[Act.put,gD];refine wpE_tk (i:=4) (v:=?_) hE rfl ?_ ?_;rotate_left
  ·rintro w ⟨e1,e2,e3,e4,e5⟩;go_simp;try with_reducible rfl
  simp only[Act.put,gD];refine wpE_one (i:=5) (by kernel_rfl) rfl (fun K hK=>?_);go_simp;go_at_call 117;refine hfd2.mono ?_;rintro e w6 ⟨rfl,a3,hR3,h6⟩;have hE2:=h6.info_cells 1 rfl;have hS6:Sep w0 w6 (volR f q p S a3:: .sl 9 1 (.slice (some ad) N c9) N (L.map fun p=>.string ⟨p.toArray⟩)::R):=(Sep.sel [1,2,0] h6 (by decide) (by simp)).drop 2;replace hS6:=Lh hS6;have hR4:=Lh (hR1'.out.trans (hR2.out.trans hR3));clear hfd2 h6 hR3 hE d0;dsimp only;refine hK _ _ (fun _=>hE2) ?_;clear hK K;(try simp only[Act.put,gD]);refine wpE_one (i:=6) (by kernel_rfl) rfl (fun K hK=>?_);go_simp;refine hK _ _ (fun _=>hE2) ?_;clear hK K;(try simp only[Act.put,gD]);refine wpE_tk (i:=7) (v:=?_) hE2 rfl ?_ ?_;rotate_left
  ·rintro w ⟨e1,e2,e3,e4,e5⟩;go_simp;try with_reducible rfl
  simp only[Act.put,gD];refine wpE_tk (i:=8) (v:=?_) hE2 rfl ?_ ?_;rotate_left
  ·rintro w ⟨e1,e2,e3,e4,e5⟩;go_simp;try with_reducible rfl
  simp only[Act.put,gD];refine wpE_one (i:=9) (by kernel_rfl) rfl (fun K hK=>?_);go_simp;refine hK _ _ (fun _=>hE2) ?_;clear hK K;(try simp only[Act.put,gD]);refine wpE_one (i:=10) (by kernel_rfl) rfl (fun K hK=>?_);go_simp;refine hK _ _ (fun h=>absurd rfl h) ?_;clear hK K;(try simp only[Act.put,gD]);refine wpE_done (by kernel_rfl) ?_ _;rcases hDc'.out with⟨i,hi,h2,hi3⟩|hneg
  ·obtain rfl:D1=(i:Int):=hi;(have q3:(0:Int)≤i:=by omega);(have q4:(i:Int)≤1000:=by omega);have hlk3:=hlk2'.out;rw[if_pos q3]at hlk3;replace hlk3:=Lh hlk3;clear hi3;go_wp2_with fail;exact⟨⟨k+1,m,by omega,rfl,rfl,.inl ⟨D2,h2,rfl,Lh hlk3.out⟩,Lh ⟨a3,hR4.out,hS6.out⟩⟩,by simp[intOf];omega⟩
  (obtain⟨rfl,rfl⟩:D1= -1∧D2=0:=by injection hneg with h1 h2;exact⟨h1,h2⟩);have hlk3:=hlk2'.out;rw[if_neg (by decide)]at hlk3;by_cases hlast:k+1<N
  ·(have hne:¬L.drop (k+1)=[]:=by intro e;have:=List.drop_eq_nil_iff.1 e;rw[←hN'.out]at this;omega);rw[if_neg hne]at hlk3;(have q5:(k:Int)+1<N:=by omega);replace hlk3:=Lh hlk3;clear hneg;go_wp2_with fail
   go_ret3
   refine⟨?_,a3,hR4.out,(Sep.sel [1,0] hS6.out (by decide) (by simp)).drop 1⟩;rw[←hlk3.out];rfl
  have hnil:L.drop (k+1)=[]:=List.drop_of_length_le (by rw[←hN'.out];omega);rw[if_pos hnil]at hlk3;(have q5:(N:Int)≤(k:Int)+1:=by omega);(have hkN:k+1=N:=by omega);replace hkN:=Lh hkN;replace hlk3:=Lh hlk3;clear hneg hnil;go_wp2_with fail;exact⟨⟨k+1,m,by omega,rfl,rfl,.inr ⟨hkN.out,rfl,Lh hlk3.out.symm⟩,Lh ⟨a3,hR4.out,hS6.out⟩⟩,by simp[intOf];omega⟩
 obtain rfl:k=N:=by omega
 rcases hnn with⟨m,hm,rfl,hlk⟩|⟨_,rfl,hlk⟩
 ·have e1:L.drop k=[]:=List.drop_of_length_le (by rw[hN'.out];exact Nat.le_refl _);rw[e1,lookP]at hlk;go_wp2_with fail
  go_ret3
  refine⟨?_,a1,hR1,(Sep.sel [1,0] hS1 (by decide) (by simp)).drop 1⟩;rw[←hlk.out];rfl
 go_wp2_with fail
 go_ret3
 refine⟨?_,a1,hR1,(Sep.sel [1,0] hS1 (by decide) (by simp)).drop 1⟩;rw[hlk.out];rfl
end
def nothingP (r:Int×Int×Int):Ending:=if r.2.2=0 then(if r.2.1<0 then .returned (.int .i64 r.1)else .panicked (stopF 23))else .panicked (stopF r.2.2)
def somethingP (r:Int×Int×Int):Ending:=if r.2.2=0 then(if r.2.1<0 then .panicked (stopF 21)else .returned (.tuple #[.int .i64 r.1,.int .i64 r.2.1]))else .panicked (stopF r.2.2)
def fileP (c:Blks) (r:Int×Int×Int):Ending:=if r.2.2=0 then(if r.2.1<0 then .panicked (stopF 21)else if(inoP c r.2.1.toNat).kind=1 then .panicked (stopF 24)else .returned (.tuple #[.int .i64 r.1,.int .i64 r.2.1]))else .panicked (stopF r.2.2)
theorem lookP_ok {S:VS} (hV:VW S):∀(l:List (List UInt8)) (dir n:Nat),dir<S.names→n<S.names→(lookP S.cur S.data dir n l).2.2=0→
  (∃d<S.names,(lookP S.cur S.data dir n l).1=(d:Int))∧((lookP S.cur S.data dir n l).2.1= -1∨∃m<S.names,(lookP S.cur S.data dir n l).2.1=(m:Int))
 |[],dir,n,hd,hn,h=>⟨⟨dir,hd,rfl⟩,.inr ⟨n,hn,rfl⟩⟩
 |name::l,dir,n,hd,hn,h=>by
  rw[lookP]at h ⊢;by_cases hk:(inoP S.cur n).kind=1
  ·rw[if_pos hk]at h ⊢;rcases lookE_cases (dirL S.cur S.data (inoP S.cur n)) name with⟨i,h1,h2,h3⟩|⟨_,h3⟩
   ·rw[h3]at h ⊢;simp only at h ⊢;(have h4:(0:Int)≤i:=by omega);rw[if_pos h4]at h ⊢;have h5:=hV.ent n hn hk _ (List.getElem_mem h1);rw[eat_of]at h5;exact lookP_ok hV l n _ hn h5.1 h
   rw[h3]at h ⊢;simp only at h ⊢;rw[if_neg (by decide)]at h ⊢;by_cases hl:l=[]
   ·rw[if_pos hl]at h ⊢;exact⟨⟨n,hn,rfl⟩,.inl rfl⟩
   rw[if_neg hl]at h;exact absurd h (by decide)
  rw[if_neg hk]at h;exact absurd h (by decide)
section
variable {w0 w:World} {R:List Asn} {f q p:Nat} {S:VS} {a:VA}
set_option maxRecDepth 100000 in
set_option maxHeartbeats 2000000 in
theorem nothing_any {path:List UInt8} (hC:VC S a) (hV:VW S) (hv:validL path=true) (hp:path.length≤1048576) (h:Sep w0 w (volR f q p S a::R)):
  Calls Tryz.prog 98 #[.pointer (some ⟨f,0,none⟩),strV path] w fun e w'=>e=nothingP (lookP S.cur S.data 0 0 (splitB path))∧∃a',Reads S a a'∧Sep w0 w' (volR f q p S a'::R):=by
 have hlk:=look_any hC hV hv hp h;obtain⟨r,hr⟩:∃r,r=lookP S.cur S.data 0 0 (splitB path):=⟨_,rfl⟩;rw[←hr]at hlk ⊢;obtain⟨r1,r2,r3⟩:=r;unfold nothingP;simp only at hlk ⊢;clear hC hV hv hp h hr;unfold strV at*;by_cases h3:r3=0
 ·subst h3;rw[if_pos rfl];by_cases h2:r2<0
  ·rw[if_pos h2];go_enter Tryz.func98,Tryz.ntmps98;go_wp2_with(first |(go_at_call 61;refine hlk.mono ?_;rintro e w9 ⟨rfl,h9⟩;replace h9:=Lh h9;clear hlk)|(go_at_call 43;refine(smust_any _ _).mono ?_;rintro e w8 ⟨rfl,h8⟩;obtain rfl:=h8.symm));go_ret;exact⟨rfl,h9.out⟩
  rw[if_neg h2];(have h2':(0:Int)≤r2:=by omega);go_enter Tryz.func98,Tryz.ntmps98;go_wp2_with(first |(go_at_call 61;refine hlk.mono ?_;rintro e w9 ⟨rfl,h9⟩;replace h9:=Lh h9;clear hlk)|(go_at_call 43;refine(smust_any _ _).mono ?_;rintro e w8 ⟨rfl,h8⟩;obtain rfl:=h8.symm));exact⟨rfl,rfl,h9.out⟩
 rw[if_neg h3];go_enter Tryz.func98,Tryz.ntmps98;go_wp2_with(first |(go_at_call 61;refine hlk.mono ?_;rintro e w9 ⟨rfl,h9⟩;replace h9:=Lh h9;clear hlk)|(go_at_call 43;refine(smust_any _ _).mono ?_;rw[if_neg h3];rintro e w8 ⟨rfl,h8⟩;obtain rfl:=h8.symm));exact⟨rfl,rfl,h9.out⟩
set_option maxRecDepth 100000 in
set_option maxHeartbeats 2000000 in
theorem something_any {path:List UInt8} (hC:VC S a) (hV:VW S) (hv:validL path=true) (hp:path.length≤1048576) (h:Sep w0 w (volR f q p S a::R)):
  Calls Tryz.prog 68 #[.pointer (some ⟨f,0,none⟩),strV path] w fun e w'=>e=somethingP (lookP S.cur S.data 0 0 (splitB path))∧∃a',Reads S a a'∧Sep w0 w' (volR f q p S a'::R):=by
 have hlk:=look_any hC hV hv hp h;obtain⟨r,hr⟩:∃r,r=lookP S.cur S.data 0 0 (splitB path):=⟨_,rfl⟩;rw[←hr]at hlk ⊢;obtain⟨r1,r2,r3⟩:=r;unfold somethingP;simp only at hlk ⊢;clear hC hV hv hp h hr;unfold strV at*;by_cases h3:r3=0
 ·subst h3;rw[if_pos rfl];by_cases h2:r2<0
  ·rw[if_pos h2];go_enter Tryz.func68,Tryz.ntmps68;go_wp2_with(first |(go_at_call 61;refine hlk.mono ?_;rintro e w9 ⟨rfl,h9⟩;replace h9:=Lh h9;clear hlk)|(go_at_call 43;refine(smust_any _ _).mono ?_;rintro e w8 ⟨rfl,h8⟩;obtain rfl:=h8.symm));exact⟨rfl,rfl,h9.out⟩
  rw[if_neg h2];(have h2':(0:Int)≤r2:=by omega);go_enter Tryz.func68,Tryz.ntmps68;go_wp2_with(first |(go_at_call 61;refine hlk.mono ?_;rintro e w9 ⟨rfl,h9⟩;replace h9:=Lh h9;clear hlk)|(go_at_call 43;refine(smust_any _ _).mono ?_;rintro e w8 ⟨rfl,h8⟩;obtain rfl:=h8.symm))
  go_ret2
  exact⟨rfl,h9.out⟩
 rw[if_neg h3];go_enter Tryz.func68,Tryz.ntmps68;go_wp2_with(first |(go_at_call 61;refine hlk.mono ?_;rintro e w9 ⟨rfl,h9⟩;replace h9:=Lh h9;clear hlk)|(go_at_call 43;refine(smust_any _ _).mono ?_;rw[if_neg h3];rintro e w8 ⟨rfl,h8⟩;obtain rfl:=h8.symm));exact⟨rfl,rfl,h9.out⟩
set_option maxRecDepth 100000 in
set_option maxHeartbeats 2000000 in
theorem file_any {path:List UInt8} (hC:VC S a) (hV:VW S) (hv:validL path=true) (hp:path.length≤1048576) (h:Sep w0 w (volR f q p S a::R)):
  Calls Tryz.prog 71 #[.pointer (some ⟨f,0,none⟩),strV path] w fun e w'=>e=fileP S.cur (lookP S.cur S.data 0 0 (splitB path))∧∃a',Reads S a a'∧Sep w0 w' (volR f q p S a'::R):=by
 have hlk:=something_any hC hV hv hp h;have hok:=lookP_ok hV (splitB path) 0 0 hV.n0 hV.n0;obtain⟨r,hr⟩:∃r,r=lookP S.cur S.data 0 0 (splitB path):=⟨_,rfl⟩;rw[←hr]at hlk hok ⊢;obtain⟨r1,r2,r3⟩:=r;unfold fileP;unfold somethingP at hlk;simp only at hlk hok ⊢;have hin:Hid (∀W n a1,n<S.names→VC S a1→Sep w0 W (volR f q p S a1::R)→Calls Tryz.prog 64 #[.pointer (some ⟨f,0,none⟩),.int .i64 (n:Nat)] W fun e w'=>∃v a2,e= .returned (.agg #[.int .i64 ((inoP S.cur n).kind:Nat),.int .i64 ((inoP S.cur n).mode:Nat),.int .i64 ((inoP S.cur n).links:Nat),.int .i64 ((inoP S.cur n).size:Nat),v])∧Reads S a1 a2∧Sep w0 w' (volR f q p S a2::R)):=Lh fun W n a1 hn hC1 hS=>by refine(inode_any hC1 hV.vf hn (hV.few n hn) hS).mono ?_;rintro e w' ⟨v,a2,rfl,hR,h9⟩;exact⟨v,a2,rfl,hR,h9.drop 1⟩
 have hfk:=field_kind;clear hC hV hv hp h hr;unfold strV at*;by_cases h3:r3=0
 ·rw[if_pos h3]at hlk ⊢;by_cases h2:r2<0
  ·rw[if_pos h2]at hlk ⊢;go_enter Tryz.func71,Tryz.ntmps71;go_wp2_with(go_at_call 68;refine hlk.mono ?_;rintro e w9 ⟨rfl,h9⟩;replace h9:=Lh h9;clear hlk);exact⟨rfl,rfl,h9.out⟩
  rw[if_neg h2]at hlk ⊢;obtain⟨m,hm,rfl⟩:∃m:Nat,m<S.names∧r2=(m:Int):=by
   rcases(hok h3).2 with h|⟨m,hm,h⟩
   ·omega
   exact⟨m,hm,h⟩
  rw[Int.toNat_natCast];clear hok h2 h3;by_cases hk:(inoP S.cur m).kind=1
  ·rw[if_pos hk];(have hk1:(((inoP S.cur m).kind:Int)==1)=true:=by rw[beq_iff_eq];omega);have hm':=Lh hm;clear hk hm;go_enter Tryz.func71,Tryz.ntmps71;go_wp2_with(first |(go_at_call 68;refine hlk.mono ?_;rintro e w9 ⟨rfl,a1,hR1,h9⟩;(have hc:=hin.out _ m _ hm'.out hR1.ok h9);replace hR1:=Lh hR1;clear hlk h9 hin)|(go_at_call 64;refine hc.mono ?_;rintro e w8 ⟨v8,a2,rfl,hR2,h8⟩;(have hend:=Lh (And.intro (hR1.out.trans hR2) h8));clear hc hR2 h8)|(go_at_call 43;refine(smust_any _ _).mono ?_;rintro e w7 ⟨rfl,h7⟩;obtain rfl:=h7.symm));exact⟨rfl,rfl,a2,hend.out.1,hend.out.2⟩
  rw[if_neg hk];(have hk1:(((inoP S.cur m).kind:Int)==1)=false:=by rw[beq_eq_false_iff_ne];omega);have hm':=Lh hm;clear hk hm;go_enter Tryz.func71,Tryz.ntmps71;go_wp2_with(first |(go_at_call 68;refine hlk.mono ?_;rintro e w9 ⟨rfl,a1,hR1,h9⟩;(have hc:=hin.out _ m _ hm'.out hR1.ok h9);replace hR1:=Lh hR1;clear hlk h9 hin)|(go_at_call 64;refine hc.mono ?_;rintro e w8 ⟨v8,a2,rfl,hR2,h8⟩;(have hend:=Lh (And.intro (hR1.out.trans hR2) h8));clear hc hR2 h8))
  go_ret2
  exact⟨rfl,a2,hend.out.1,hend.out.2⟩
 rw[if_neg h3]at hlk ⊢;go_enter Tryz.func71,Tryz.ntmps71;go_wp2_with(go_at_call 68;refine hlk.mono ?_;rintro e w9 ⟨rfl,h9⟩;replace h9:=Lh h9;clear hlk);exact⟨rfl,rfl,h9.out⟩
set_option maxRecDepth 100000 in
theorem one_any (h:Sep w0 w (volR f q p S a::R)):
  Calls Tryz.prog 62 #[.pointer (some ⟨f,0,none⟩)] w fun e w'=>e=(if S.nodes<256 then .returned (.tuple #[])else .panicked (stopF 31))∧w'=w:=by
 have c6:=h.fs_cells.c6;clear h;by_cases hn:S.nodes<256
 ·rw[if_pos hn];go_enter Tryz.func62,Tryz.ntmps62;go_wp2_with fail
  go_end0
  exact⟨rfl,rfl⟩
 rw[if_neg hn];have hn':(256:Int)≤S.nodes:=by omega
 go_enter Tryz.func62,Tryz.ntmps62;go_wp2_with(go_at_call 43;refine(smust_any _ _).mono ?_;rintro e w8 ⟨rfl,h8⟩;obtain rfl:=h8.symm);exact⟨rfl,rfl,rfl⟩
end
def dropP (S:VS) (n:Nat):VS:=match fitP S (inoP S.cur n).spots 0 with
 |some (S1,_)=>S1.keep n VI0
 |none=>S
theorem dropP_eq {S:VS} {n:Nat}:∃S1,fitP S (inoP S.cur n).spots 0=some (S1,[])∧dropP S n=S1.keep n VI0:=by obtain⟨S1,h⟩:=fitP_down (S:=S) (l:=(inoP S.cur n).spots) (n:=0) (Nat.zero_le _);rw[List.take_zero]at h;exact⟨S1,h,by unfold dropP;rw[h]⟩
theorem Like.keep {S T:VS} (h:Like S T) (n:Nat) (x:VI):Like S (T.keep n x):=h.trans ⟨rfl,rfl,rfl,rfl,rfl⟩
theorem Like.node {S T:VS} (h:Like S T) (z:Int):Like S (T.node z):=h.trans ⟨rfl,rfl,rfl,rfl,rfl⟩
theorem Like.setE {S T:VS} (h:Like S T) (s i:Nat) (name:List UInt8) (n:Nat):Like S (T.setE s i name n):=h.put _ _
theorem leaveP_like (S:VS) (dir:Nat) (name:List UInt8):Like S (leaveP S dir name):=by
 unfold leaveP;have h:=(leave2_laid S (inoP S.cur dir) name).like;simp only;split
 ·exact h
 rename_i S4 l hf;exact((h.node _).trans (fitP_like hf)).keep _ _
theorem enterP_like {S S1:VS} {dir n:Nat} {name:List UInt8} (h:enterP S dir name n=some S1):Like S S1:=by
 unfold enterP at h;split at h
 ·cases h
 rename_i T l hf;cases h;exact(((Like.refl S).node _).trans (fitP_like hf)).keep _ _|>.setE _ _ _ _
structure InoOk (S:VS) (n:Nat):Prop where
 lt:n<S.names
 few:(inoP S.cur n).spots.length≤28
 sp:∀s∈(inoP S.cur n).spots,s<S.count
structure SmallV (S:VS):Prop where
 w:SmallW S
 n0: -1000000≤S.nodes
 n1:S.nodes≤1000000
structure LeaveOk (S:VS) (dir:Nat) (name:List UInt8):Prop where
 lt:dir<S.names
 ok:DirOk S (inoP S.cur dir)
 short:name.length≤15
 found:∃i:Nat,i<(inoP S.cur dir).size∧(lookE (dirL S.cur S.data (inoP S.cur dir)) name).1=i
 last:(eat (dirL S.cur S.data (inoP S.cur dir)) ((inoP S.cur dir).size-1)).1.length≤15
 room:(inoP S.cur dir).spots.length=max 1 (((inoP S.cur dir).size+15)/16)
structure EnterOk (S:VS) (dir n:Nat) (name:List UInt8):Prop where
 ino:InoOk S dir
 size:(inoP S.cur dir).size<448
 short:name.length≤15
 num:n≤65535
section
variable {w0 w:World} {R:List Asn} {f q p:Nat} {S:VS} {a:VA}
theorem drop_no {n:Nat} (hC:VC S a) (hF:VF S) (hn:InoOk S n) (hW:SmallW S) (h:Sep w0 w (volR f q p S a::R)):
  Calls Tryz.prog 102 #[.pointer (some ⟨f,0,none⟩),.int .i64 n] w fun e w'=>e= .returned (.tuple #[])∧∃a',VC (dropP S n) a'∧Sep w0 w' (volR f q p (dropP S n) a'::R):=by
 obtain⟨S1,h1,h2⟩:=dropP_eq (S:=S) (n:=n);rw[h2];exact drop_any hC hF hn.lt hn.few hn.sp hW h1 h
theorem leave_no {dir:Nat} {name:List UInt8} (hC:VC S a) (hF:VF S) (hl:LeaveOk S dir name) (hs:SmallV S) (h:Sep w0 w (volR f q p S a::R)):
  Calls Tryz.prog 100 #[.pointer (some ⟨f,0,none⟩),.int .i64 dir,strV name] w fun e w'=>e= .returned (.tuple #[])∧∃a',VC (leaveP S dir name) a'∧Sep w0 w' (volR f q p (leaveP S dir name) a'::R):=
 leave_any hC hF hl.lt hl.ok hs.w ⟨hs.n0,hs.n1⟩ hl.short hl.found hl.last hl.room h
theorem enter_no {dir n:Nat} {name:List UInt8} (hC:VC S a) (hF:VF S) (he:EnterOk S dir n name) (hs:SmallV S) (h:Sep w0 w (volR f q p S a::R)):
  Calls Tryz.prog 104 #[.pointer (some ⟨f,0,none⟩),.int .i64 dir,strV name,.int .i64 n] w (opOut f q p S (enterP S dir name n) w0 R):=
 enter_any hC hF he.ino.lt he.ino.few he.ino.sp he.size hs.w ⟨hs.n0,hs.n1⟩ he.short he.num h
set_option maxRecDepth 100000 in
set_option maxHeartbeats 4000000 in
theorem rmdir1_any {bf bd bi bn dir n:Nat} {path:List UInt8} (hR:∀W Y,Sep w0 W (Y++R)→W.cell? ⟨bf,0,none⟩=some (.pointer (some ⟨f,0,none⟩))∧W.cell? ⟨bd,0,none⟩=some (.int .i64 dir)∧W.cell? ⟨bi,1,none⟩=some (strV path)∧W.cell? ⟨bn,0,none⟩=some (.int .i64 n))
  (hC:VC S a) (hF:VF S) (hv:validL path=true) (hp:path.length≤1048576) (hl:LeaveOk S dir (baseP path)) (hs:SmallV S) (hn:InoOk (leaveP S dir (baseP path)) n) (hW:SmallW (leaveP S dir (baseP path))) (h:Sep w0 w (volR f q p S a::R)):
  Calls Tryz.prog 99 #[.pointer (some ⟨bf,0,none⟩),.pointer (some ⟨bd,0,none⟩),.pointer (some ⟨bi,0,none⟩),.pointer (some ⟨bn,0,none⟩)] w (opOut f q p S (some (dropP (leaveP S dir (baseP path)) n)) w0 R):=by
 have hE:w.drew.cell? ⟨bf,0,none⟩=some (.pointer (some ⟨f,0,none⟩))∧w.drew.cell? ⟨bd,0,none⟩=some (.int .i64 dir)∧w.drew.cell? ⟨bi,1,none⟩=some (strV path)∧w.drew.cell? ⟨bn,0,none⟩=some (.int .i64 n):=hR w [_] h;have hba:=base_any hv hp w.drew;have hlv:Hid (∀W,Below w.heap.size w.drew W→(W.cell? ⟨bf,0,none⟩=some (.pointer (some ⟨f,0,none⟩))∧W.cell? ⟨bd,0,none⟩=some (.int .i64 dir)∧W.cell? ⟨bi,1,none⟩=some (strV path)∧W.cell? ⟨bn,0,none⟩=some (.int .i64 n))∧
   Calls Tryz.prog 100 #[.pointer (some ⟨f,0,none⟩),.int .i64 dir,strV (baseP path)] W fun e w'=>e= .returned (.tuple #[])∧(w'.cell? ⟨bf,0,none⟩=some (.pointer (some ⟨f,0,none⟩))∧w'.cell? ⟨bd,0,none⟩=some (.int .i64 dir)∧w'.cell? ⟨bi,1,none⟩=some (strV path)∧w'.cell? ⟨bn,0,none⟩=some (.int .i64 n))∧
    Calls Tryz.prog 102 #[.pointer (some ⟨f,0,none⟩),.int .i64 n] w'.drew fun e w'=>e= .returned (.tuple #[])∧(w'.cell? ⟨bf,0,none⟩=some (.pointer (some ⟨f,0,none⟩))∧w'.cell? ⟨bd,0,none⟩=some (.int .i64 dir)∧w'.cell? ⟨bi,1,none⟩=some (strV path)∧w'.cell? ⟨bn,0,none⟩=some (.int .i64 n))∧opOut f q p S (some (dropP (leaveP S dir (baseP path)) n)) w0 R (.returned (.tuple #[])) w'):=Lh fun W hb=>by
  have hS:=h.drew.pure hb
  refine⟨hR W [_] hS,(leave_no hC hF hl hs hS).mono ?_⟩
  rintro e w' ⟨rfl,a1,hC1,h1⟩
  refine⟨rfl,hR w' [_] h1,(drop_no hC1 ((leaveP_like S dir (baseP path)).vf hF) hn hW h1.drew).mono ?_⟩
  rintro e w2 ⟨rfl,a2,hC2,h2⟩
  exact⟨rfl,hR w2 [_] h2,rfl,a2,hC2,h2⟩
 obtain⟨b,hb⟩:∃b,b=baseP path:=⟨_,rfl⟩;rw[←hb]at hba hlv ⊢;clear hR hC hF hv hp hl hs hn hW h hb;unfold strV at*;go_enter Tryz.func99,Tryz.ntmps99;go_wp2_with fail;refine wp_region_E (S:=fun w'=>w'.cell? ⟨bf,0,none⟩=some (.pointer (some ⟨f,0,none⟩))∧w'.cell? ⟨bd,0,none⟩=some (.int .i64 dir)∧w'.cell? ⟨bi,1,none⟩=some (.string ⟨path.toArray⟩)∧w'.cell? ⟨bn,0,none⟩=some (.int .i64 n)) 8 (by kernel_rfl) ?_;simp only[List.size_toArray,List.length_cons,List.length_nil,Nat.reduceAdd];refine wpE_tk (i:=0) (v:=?_) hE rfl ?_ ?_;rotate_left
 ·rintro w ⟨e1,e2,e3,e4⟩;go_simp;try with_reducible rfl
 simp only[Act.put,gD];refine wpE_tk (i:=1) (v:=?_) hE rfl ?_ ?_;rotate_left
 ·rintro w ⟨e1,e2,e3,e4⟩;go_simp;try with_reducible rfl
 simp only[Act.put,gD];refine wpE_tk (i:=2) (v:=?_) hE rfl ?_ ?_;rotate_left
 ·rintro w ⟨e1,e2,e3,e4⟩;go_simp;try with_reducible rfl
 simp only[Act.put,gD];refine wpE_tk (i:=3) (v:=?_) hE rfl ?_ ?_;rotate_left
 ·rintro w ⟨e1,e2,e3,e4⟩;go_simp;try with_reducible rfl
 simp only[Act.put,gD];refine wpE_tk (i:=4) (v:=?_) hE rfl ?_ ?_;rotate_left
 ·rintro w ⟨e1,e2,e3,e4⟩;go_simp;try with_reducible rfl
 simp only[Act.put,gD];refine wpE_tk (i:=5) (v:=?_) hE rfl ?_ ?_;rotate_left
 ·rintro w ⟨e1,e2,e3,e4⟩;go_simp;try with_reducible rfl
 simp only[Act.put,gD];refine wpE_one (i:=6) (by kernel_rfl) rfl (fun K hK=>?_);go_simp;go_at_call 101;refine hba.mono ?_;rintro e w9 ⟨rfl,hb9⟩;obtain⟨hE2,hc⟩:=hlv.out _ hb9;clear hba hlv hb9 hE;dsimp only;refine hK _ _ (fun _=>hE2) ?_;clear hK K;try simp only[Act.put,gD]
 refine wpE_one (i:=7) (by kernel_rfl) rfl (fun K hK=>?_);go_simp;go_at_call 100;refine hc.mono ?_;rintro e w8 ⟨rfl,hE3,hd⟩;clear hc hE2;dsimp only;refine hK _ _ (fun _=>hE3) ?_;clear hK K;try simp only[Act.put,gD]
 refine wpE_done (by kernel_rfl) ?_ _;go_wp2_with fail;have hE4:w8.drew.cell? ⟨bf,0,none⟩=some (.pointer (some ⟨f,0,none⟩))∧w8.drew.cell? ⟨bd,0,none⟩=some (.int .i64 dir)∧w8.drew.cell? ⟨bi,1,none⟩=some (.string ⟨path.toArray⟩)∧w8.drew.cell? ⟨bn,0,none⟩=some (.int .i64 n):=hE3;refine wp_region_E (S:=fun w'=>w'.cell? ⟨bf,0,none⟩=some (.pointer (some ⟨f,0,none⟩))∧w'.cell? ⟨bd,0,none⟩=some (.int .i64 dir)∧w'.cell? ⟨bi,1,none⟩=some (.string ⟨path.toArray⟩)∧w'.cell? ⟨bn,0,none⟩=some (.int .i64 n)) 6 (by kernel_rfl) ?_;simp only[List.size_toArray,List.length_cons,List.length_nil,Nat.reduceAdd];refine wpE_tk (i:=0) (v:=?_) hE4 rfl ?_ ?_;rotate_left
 ·rintro w ⟨e1,e2,e3,e4⟩;go_simp;try with_reducible rfl
 simp only[Act.put,gD];refine wpE_tk (i:=1) (v:=?_) hE4 rfl ?_ ?_;rotate_left
 ·rintro w ⟨e1,e2,e3,e4⟩;go_simp;try with_reducible rfl
 simp only[Act.put,gD];refine wpE_tk (i:=2) (v:=?_) hE4 rfl ?_ ?_;rotate_left
 ·rintro w ⟨e1,e2,e3,e4⟩;go_simp;try with_reducible rfl
 simp only[Act.put,gD];refine wpE_tk (i:=3) (v:=?_) hE4 rfl ?_ ?_;rotate_left
 ·rintro w ⟨e1,e2,e3,e4⟩;go_simp;try with_reducible rfl
 simp only[Act.put,gD];refine wpE_tk (i:=4) (v:=?_) hE4 rfl ?_ ?_;rotate_left
 ·rintro w ⟨e1,e2,e3,e4⟩;go_simp;try with_reducible rfl
 simp only[Act.put,gD];refine wpE_one (i:=5) (by kernel_rfl) rfl (fun K hK=>?_);go_simp;go_at_call 102;refine hd.mono ?_;rintro e w7 ⟨rfl,hE5,hend⟩;replace hend:=Lh hend;clear hd hE4 hE3;dsimp only;refine hK _ _ (fun _=>hE5) ?_;clear hK K;try simp only[Act.put,gD]
 refine wpE_done (by kernel_rfl) ?_ _
 go_end0
 exact hend.out
end
end Go.Proofs.YteihmbaimbogaaaGreat
