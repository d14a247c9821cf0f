/- Parts. -/
import Derived.Test.YtmjomdkleikgbaaGreatK6
set_option linter.unusedVariables false
set_option linter.unusedSimpArgs false
set_option maxRecDepth 100000
set_option maxHeartbeats 20000000
namespace Go.Proofs.YtmjomdkleikgbaaGreat
open Go.RowKit
theorem Sep.G9 {w0 w:World} {R:List aW} {v:Value} {bs:List UInt8} (h:Sep w0 w (aI v bs::R)) (hl:bs.length=512):∃g c,v=sV g 512 c/\(512<=c/\c<=maxLen)/\Sep w0 w (.sl 5 1 (sV g 512 c) 512 (bs.map kY)::R):=by rw[bV hl]at h;obtain⟨g,c,rfl,_,_,h1,h2⟩:=h.kC 0 rfl aD;exact⟨g,c,rfl,⟨h1,h2⟩,h⟩
theorem Sep.xM {w0 w:World} {R:List aW} {g c:Nat} {bs:List UInt8} (i:Nat) {As:List aW} (h:Sep w0 w As) (hi:As[i]? =some (.sl 5 1 (sV g 512 c) 512 (bs.map kY))) (hl:bs.length=512) (j:Nat) (hj:j<512):w.cell? ⟨g,j,none⟩=some (.int .u8 ((bs.getD j 0).toNat:Nat)):=by have h1:=h.cellAt i hi j aD;rw[h1,lC,gH,gE aD];rfl
theorem agF :∀(x:Fin 256) (k:Fin 8),bits .andNot .u8 (x.1:Int) (IntKind.u8.wrap ((2:Int) ^ k.1))=((clB (UInt8.ofNat x.1) k.1).toNat:Int)/\bits .or .u8 (x.1:Int) (IntKind.u8.wrap ((2:Int) ^ k.1))=((orB (UInt8.ofNat x.1) k.1).toNat:Int):=by decide+kernel
theorem ayW (x:UInt8) (k:Nat) (hk:k<8):bits .andNot .u8 (x.toNat:Int) (IntKind.u8.wrap ((2:Int) ^ k))=((clB x k).toNat:Int):=by have h:=(agF ⟨x.toNat,x.toNat_lt⟩ ⟨k,hk⟩).1;simp only[UInt8.ofNat_toNat]at h;exact h
theorem ayX (x:UInt8) (k:Nat) (hk:k<8):bits .or .u8 (x.toNat:Int) (IntKind.u8.wrap ((2:Int) ^ k))=((orB x k).toNat:Int):=by have h:=(agF ⟨x.toNat,x.toNat_lt⟩ ⟨k,hk⟩).2;simp only[UInt8.ofNat_toNat]at h;exact h
section
variable {w0 w:World} {R:List aW} {f q p:Nat} {S:VS} {a:VA}
theorem avD {i:Nat} (hC:VC S a) (hF:VF S) (hi:i<S.count) (h:Sep w0 w (aF f q p S a::R)):
  Calls Tryz.prog 163 #[pV f,iV i] w fun e w'=>e= .returned (.tuple #[])/\∃a',VC (S.put 1 (yV (bk S.cur 1) i)) a'/\Sep w0 w' (aF f q p (S.put 1 (yV (bk S.cur 1) i)) a'::R):=by
 have h1:1<S.nb-96:=by have:=hF.room;unfold VS.data at this;omega
 have hg:=NS hC h1 h;have hlen:=jW hC.cur h1;have q0:(0:Int)<=i:=by omega
 have q1:(i:Int)<=4000:=by have:=hC.nV.few;unfold VS.count VS.data at hi;omega
 have hgo:∀W v a2,Reads S a a2->DL f q p S a2 1 v w0 W R->∃g c,v=sV g 512 c/\Hid (512<=c)/\W.cell? ⟨g,i/8,none⟩=some (.int .u8 (((bk S.cur 1).getD (i/8) 0).toNat:Nat))/\W.frozen? ⟨g,i/8,none⟩=false/\
   Calls Tryz.prog 98 #[pV f,iV 1,v] (W.setCell ⟨g,i/8,none⟩ (.int .u8 ((clB ((bk S.cur 1).getD (i/8) 0) (i%8)).toNat:Nat))).drew fun e w'=>e= .returned (.tuple #[])/\∃a',VC (S.put 1 (yV (bk S.cur 1) i)) a'/\Sep w0 w' (aF f q p (S.put 1 (yV (bk S.cur 1) i)) a'::R):=fun W v a2 hR hG=>by
  obtain⟨g,c,rfl,hc,hS⟩:=hG.out.G9 hlen;have hst:=hS.stored 0 rfl (i/8) (.int .u8 ((clB ((bk S.cur 1).getD (i/8) 0) (i%8)).toNat:Nat));refine⟨g,c,rfl,Lh hc.1,hS.xM (R:=[]) 0 rfl hlen _ aD,hS.frozenAt 0 rfl _,?_⟩;(have e:(((bk S.cur 1).map kY).set (i/8) (.int .u8 ((clB ((bk S.cur 1).getD (i/8) 0) (i%8)).toNat:Nat)))=(yV (bk S.cur 1) i).map kY:=by unfold yV;rw[O5];rfl);(have hS2:Sep w0 (W.setCell ⟨g,i/8,none⟩ (.int .u8 ((clB ((bk S.cur 1).getD (i/8) 0) (i%8)).toNat:Nat))) (aI (sV g 512 c) (yV (bk S.cur 1) i)::AP f q p S a2 1::R):=by rw[bV (n:=512) (by rw[QC];exact hlen),<-e];exact hst);refine(yP hR.ok h1 hS2.drew).mono ?_;rintro e w' ⟨rfl,h9⟩;exact⟨rfl,_,hR.ok.put _ h1 (by rw[QC];exact hlen),h9⟩
 obtain⟨X,hX⟩:∃X,X=S.put 1 (yV (bk S.cur 1) i):=⟨_,rfl⟩;obtain⟨j,hj⟩:∃j:Nat,j=i/8:=⟨_,rfl⟩;obtain⟨x,hx⟩:∃x:UInt8,x=(bk S.cur 1).getD j 0:=⟨_,rfl⟩;obtain⟨k,hk⟩:∃k:Nat,k=i%8:=⟨_,rfl⟩;have b8:(i:Int)/8=j:=by omega
 have m8:(i:Int)%8=k:=by omega
 have c8:(j:Int)<512:=by omega
 have d8:(k:Int)<8:=by omega
 have hwj:IntKind.i64.wrap (j:Int)=j:=IntWalk.i64_in _ aD;have hwk:IntKind.i64.wrap (k:Int)=k:=IntWalk.i64_in _ aD;have j0:(0:Int)<=j:=by omega
 have k0:(0:Int)<=k:=by omega
 have ht:(i:Int).tmod 8=(k:Int):=by rw[apV q0,m8]
 have han:=ayW x k aD;simp only[<-hX,<-hj,<-hk]at hgo ⊢;simp only[<-hx]at hgo;clear hC hF hi h h1 hlen hX hx hj hk;go_enter Tryz.func163,Tryz.ntmps163;go_wp2_with(first |(go_at_call 84;refine hg.mono ?_;rintro e w9 ⟨v,a2,rfl,hR,hG⟩;obtain⟨g,c,rfl,hc,k1,k2,hput⟩:=hgo _ _ _ hR hG)|(go_at_call 98;refine hput.mono ?_;rintro e w9 ⟨rfl,h9⟩));have k1':w9.drew.cell? ⟨g,j,none⟩=some (.int .u8 (x.toNat:Nat)):=k1;refine aP (S:=fun w'=>w'.cell? ⟨g,j,none⟩=some (.int .u8 (x.toNat:Nat))) 10 ?_;refine aA 0 k1' ?_;refine aA 1 k1' ?_;refine aA 2 k1' ?_;refine aA 3 k1' ?_;refine aA 4 k1' ?_;refine aA 5 k1' ?_;refine aA 6 k1' ?_;refine aA 7 k1' ?_;refine aA 8 k1' ?_;refine aA 9 k1' ?_;refine bA 10 (fun h=>absurd rfl h) ?_;refine aQ fE ?_ _;go_wp2_with(first |(go_at_call 98;refine hput.mono ?_;rintro e w9 ⟨rfl,h9⟩))
 go_end0
 exact⟨rfl,h9⟩
end
def fA (x:Int):List PanicEntry:=[{v:=.iface 171 (.agg #[iV x]),recovered:=false}]
section
variable {w0 w:World} {R:List aW} {f q p:Nat} {S:VS} {a:VA}
theorem apC {k:Nat} {v:Value} (hC:VC S a) (hF:VF S) (h:DL f q p S a k v w0 w R):
  Calls Tryz.prog 86 #[pV f] w fun e w'=>e= .returned (iV S.count)/\w'=w:=by
 rcases h with⟨_,h⟩|⟨_,h⟩
 ·exact K3 hC hF h
 exact K3 hC hF h
theorem DL.iP {k:Nat} {v:Value} (h:DL f q p S a k v w0 w R):Sep w0 w (aF f q p S a::R):=by
 rcases h with⟨_,h⟩|⟨_,h⟩
 ·exact h
 exact Sep.drop 1 (h.perm (List.Perm.swap _ _ _))
theorem apD :∀(k:Fin 8),(UInt8.toNat 255)/2 ^ k.1%2=1:=by decide
theorem avE :∀(x:Fin 256) (k:Fin 8),bits .and .u8 ((x.1:Int)/2 ^ k.1) 1=((x.1/2 ^ k.1%2:Nat):Int):=by decide+kernel
theorem avF {u:List UInt8} {n j:Nat} (h1:j<n) (h2:pJ u j=false) (h3:∀i<j,pJ u i=true):j5 u n=some j:=by unfold j5;rw[ajT];exact⟨by simp[h2],List.mem_range.2 h1,fun i hi=>by simp[h3 i hi]⟩
theorem agG {u:List UInt8} {n:Nat} (h:∀i<n,pJ u i=true):j5 u n=none:=by unfold j5;rw[wV];intro i hi;simp[h i (List.mem_range.1 hi)]
theorem alU (u:List UInt8) (m k:Nat) (hk:k<8):pJ u (8*m+k)=((u.getD m 0).toNat/2 ^ k%2==1):=by unfold pJ;rw[show(8*m+k)/8=m by omega,show(8*m+k)%8=k by omega]
def abG (f q p:Nat) (S:VS) (w0:World) (R:List aW) (e:Ending) (w':World):Prop:=
 match j5 (bk S.cur 1) S.count with
 |some j=>e= .returned (.int .i64 j)/\∃a',VC (S.put 1 (kZ (bk S.cur 1) j)) a'/\Sep w0 w' (aF f q p (S.put 1 (kZ (bk S.cur 1) j)) a'::R)
 |none=>e= .panicked (fA 27)/\∃a',VC S a'/\Sep w0 w' (aF f q p S a'::R)
theorem avG (hC:VC S a) (hF:VF S) (h:Sep w0 w (aF f q p S a::R)):
  Calls Tryz.prog 164 #[pV f] w (abG f q p S w0 R):=by
 have h1:1<S.nb-96:=by have:=hF.room;unfold VS.data at this;omega
 have hg:=NS hC h1 h;have hlen:=jW hC.cur h1;have hn:S.count<4096:=by have:=hC.nV.few;unfold VS.count VS.data;omega
 have hgo:∀W v a2,Reads S a a2->DL f q p S a2 1 v w0 W R->∃g c,v=sV g 512 c/\Hid (512<=c)/\(∀j,j<512->W.cell? ⟨g,j,none⟩=some (.int .u8 (((bk S.cur 1).getD j 0).toNat:Nat)))/\(∀j,W.frozen? ⟨g,j,none⟩=false)/\
   Calls Tryz.prog 86 #[pV f] W (fun e w'=>e= .returned (iV S.count)/\w'=W)/\
   (VC S a2/\Sep w0 W (aF f q p S a2::R))/\
   (∀j k,j<512->k<8->Calls Tryz.prog 98 #[pV f,iV 1,v] (W.setCell ⟨g,j,none⟩ (.int .u8 ((orB ((bk S.cur 1).getD j 0) k).toNat:Nat))).drew fun e w'=>e= .returned (.tuple #[])/\∃a',VC (S.put 1 (kZ (bk S.cur 1) (8*j+k))) a'/\Sep w0 w' (aF f q p (S.put 1 (kZ (bk S.cur 1) (8*j+k))) a'::R)):=fun W v a2 hR hG=>by
  have hco:=apC hR.ok hF hG;have PL:=hG.iP;obtain⟨g,c,rfl,hc,hS⟩:=hG.out.G9 hlen;refine⟨g,c,rfl,Lh hc.1,fun j hj=>hS.xM (R:=[]) 0 rfl hlen _ hj,fun j=>hS.frozenAt 0 rfl _,hco,⟨hR.ok,PL⟩,fun j k hj hk=>?_⟩;have hst:=hS.stored 0 rfl j (.int .u8 ((orB ((bk S.cur 1).getD j 0) k).toNat:Nat));(have e1:(8*j+k)/8=j:=by omega);(have e2:(8*j+k)%8=k:=by omega);(have e:(((bk S.cur 1).map kY).set j (.int .u8 ((orB ((bk S.cur 1).getD j 0) k).toNat:Nat)))=(kZ (bk S.cur 1) (8*j+k)).map kY:=by unfold kZ;rw[O5,e1,e2];rfl);(have hS2:Sep w0 (W.setCell ⟨g,j,none⟩ (.int .u8 ((orB ((bk S.cur 1).getD j 0) k).toNat:Nat))) (aI (sV g 512 c) (kZ (bk S.cur 1) (8*j+k))::AP f q p S a2 1::R):=by rw[bV (n:=512) (by rw[QB];exact hlen),<-e];exact hst);refine(yP hR.ok h1 hS2.drew).mono ?_;rintro e w' ⟨rfl,h9⟩;exact⟨rfl,_,hR.ok.put _ h1 (by rw[QB];exact hlen),h9⟩
 obtain⟨n,hn'⟩:∃n,n=S.count:=⟨_,rfl⟩;obtain⟨u,hu⟩:∃u,u=bk S.cur 1:=⟨_,rfl⟩;unfold abG;rw[<-hn',<-hu];rw[<-hn']at hn;simp only[<-hn',<-hu]at hgo;have n1:(n:Int)<4096:=by omega
 have hgo':=Lh hgo;clear hC hF h h1 hlen hn' hu hn hgo;go_enter Tryz.func164,Tryz.ntmps164;go_wp2_with fail;refine wp_scope_straight ?_;go_wp2_with(first |(go_at_call 84;refine hg.mono ?_;rintro e w9 ⟨v,a2,rfl,hR,hG⟩;obtain⟨g,c,rfl,hc,k1,k2,hco,hV,hput⟩:=hgo'.out _ _ _ hR hG;replace k1:=Lh k1;replace k2:=Lh k2;replace hput:=Lh hput;replace hV:=Lh hV;clear hG hR)|(go_at_call 86;refine hco.mono ?_;rintro e w8 ⟨rfl,h8⟩;obtain rfl:=h8.symm;clear hco hgo' hg));refine wp_label ?_;go_wp2_with fail;go_loop[14] (fun i=>∃m:Nat,m<=512/\i=iV m/\Hid (∀j<8*m,pJ u j=true)) (fun i=>512-(intOf i).toNat)
 case atStart=>exact⟨0,by omega,rfl,Lh fun j hj=>by omega⟩
 obtain⟨m,hm,rfl,hb⟩:=hrel;by_cases hlt:m<512
 case neg=>(obtain rfl:m=512:=by omega);(have hno:j5 u n=none:=agG fun i hi=>hb.out i aD);clear hb k1 k2 hput;go_wp2_with fail;exact⟨rfl,rfl,a2,hV.out⟩
 case pos=>
 have q1:(m:Int)<512:=by omega
 have q0:(0:Int)<=m:=by omega
 have c1:=k1.out m hlt;have f1:=k2.out m;obtain⟨x,hx⟩:∃x:UInt8,x=u.getD m 0:=⟨_,rfl⟩;rw[<-hx]at c1;have hx':=Lh hx;clear hx;by_cases aB7:x=255
 ·subst aB7;go_wp2_with fail;refine⟨⟨m+1,by omega,rfl,Lh fun j hj=>?_⟩,by simp[intOf];omega⟩;by_cases hjm:j<8*m
  ·exact hb.out j hjm
  obtain⟨k,rfl⟩:∃k,j=8*m+k:=⟨j-8*m,by omega⟩;rw[alU u m k aD,<-hx'.out];have:=apD ⟨k,by omega⟩;simpa using this
 have h2:((x.toNat:Int)==255)=false:=by rw[jU];intro h;exact aB7 (UInt8.toNat_inj.1 (by have e:(255:UInt8).toNat=255:=rfl;rw[e];omega))
 clear aB7;go_wp2_with fail;go_loop[21] (fun i=>∃k:Nat,k<=8/\i=iV k/\Hid (∀j<8*m+k,pJ u j=true)) (fun i=>8-(intOf i).toNat)
 case atStart=>exact⟨0,by omega,rfl,hb⟩
 obtain⟨k,hk,rfl,hb2⟩:=hrel;by_cases hlk:k<8
 case neg=>(obtain rfl:k=8:=by omega);go_wp2_with fail;exact⟨⟨m+1,by omega,rfl,Lh fun j hj=>hb2.out j aD⟩,by simp[intOf];omega⟩
 case pos=>
 have r1:(k:Int)<8:=by omega
 have r0:(0:Int)<=k:=by omega
 by_cases hend:8*m+k<n
 case neg=>(have hno:j5 u n=none:=agG fun i hi=>hb2.out i aD);have r2:decide ((n:Int)<=8*(m:Int)+k)=true:=decide_eq_true aD;clear hb k1 k2 hput;go_wp2_with fail;exact⟨rfl,rfl,a2,hV.out⟩
 case pos=>
 have r2:decide ((n:Int)<=8*(m:Int)+k)=false:=decide_eq_false aD;have hbit:=avE ⟨x.toNat,x.toNat_lt⟩ ⟨k,hlk⟩;simp only at hbit;have hat:=alU u m k hlk;rw[<-hx'.out]at hat;cases hb3:pJ u (8*m+k)with
 |true=>
  rw[hb3]at hat;(have h1:x.toNat/2 ^ k%2=1:=by simpa using hat.symm);rw[h1]at hbit;clear hat h1;go_wp2_with fail;refine⟨⟨k+1,by omega,rfl,Lh fun j hj=>?_⟩,by simp[intOf];omega⟩;by_cases hj2:j<8*m+k
  ·exact hb2.out j hj2
  rw[show j=8*m+k by omega];exact hb3
 |false=>rw[hb3]at hat;(have h1:x.toNat/2 ^ k%2=0:=by(have:x.toNat/2 ^ k%2≠1:=by simpa using hat.symm);omega);rw[h1]at hbit;have hfr:j5 u n=some (8*m+k):=avF hend hb3 hb2.out;have hpu:=hput.out m k hlt hlk;rw[<-hx'.out]at hpu;have han:=ayX x k hlk;have c1':w9.drew.cell? ⟨g,m,none⟩=some (.int .u8 (x.toNat:Nat)):=c1;have hwm:IntKind.i64.wrap (m:Int)=m:=IntWalk.i64_in _ aD;have hwk:IntKind.i64.wrap (k:Int)=k:=IntWalk.i64_in _ aD;(have hj:((8*m+k:Nat):Int)=8*(m:Int)+k:=by omega);have avH:=Lh hfr;have hj':=Lh hj;replace hpu:=Lh hpu;clear hat h1 hfr hend hj;go_wp2_with fail;refine aP (S:=fun w'=>w'.cell? ⟨g,m,none⟩=some (.int .u8 (x.toNat:Nat))) 8 ?_;refine aA 0 c1' ?_;refine aA 1 c1' ?_;refine aA 2 c1' ?_;refine aA 3 c1' ?_;refine aA 4 c1' ?_;refine aA 5 c1' ?_;refine aA 6 c1' ?_;refine aA 7 c1' ?_;refine bA 8 (fun h=>absurd rfl h) ?_;refine aQ fE ?_ _;go_wp2_with(first |(go_at_call 98;refine hpu.out.mono ?_;rintro e w7 ⟨rfl,h7⟩));simp only[Exit.noGoto_ret];go_ret;rw[avH.out];simp only[hj'.out];exact⟨rfl,h7⟩
end
theorem agH {n:Nat} (hn:n<=4096) (w:World):Calls Tryz.prog 143 #[iV n] w fun e w'=>e= .returned (.tuple #[iV (2+n/8:Nat),iV (n%8*64:Nat)])/\w'=w:=by
 have b0:(0:Int)<=n:=by omega
 have b1:(n:Int)<=4096:=by omega
 have e0:Int.tdiv (n:Int) 8=(n/8:Nat):=by rw[abK b0];omega
 have e1:Int.tmod (n:Int) 8=(n%8:Nat):=by rw[apV b0];omega
 have r0:(n/8:Nat)<=512:=by omega
 have r1:(n%8:Nat)<=7:=by omega
 rw[VV,Int.natCast_mul];generalize n/8=q at e0 r0 ⊢;generalize n%8=m at e1 r1 ⊢;go_enter Tryz.func143,Tryz.ntmps143;go_wp2_with fail
 go_ret2
 exact⟨rfl,rfl⟩
theorem xP {n by':Nat} (hn:n<=1048576) (h1:1<=by') (h2:by'<=1048576) (w:World):Calls Tryz.prog 95 #[iV n,iV by'] w fun e w'=>e= .returned (iV ((n+by'-1)/by':Nat))/\w'=w:=by
 have b0:(0:Int)<=n:=by omega
 have b1:(n:Int)<=1048576:=by omega
 have b2:(1:Int)<=by':=by omega
 have b3:(by':Int)<=1048576:=by omega
 have hne:¬(by':Int)=0:=by omega
 have e0:Int.tdiv ((n:Int)+by'-1) by'=((n+by'-1)/by':Nat):=by rw[abK aD,Int.natCast_ediv];congr 1;omega
 have r0:(((n+by'-1)/by':Nat):Int)<=2097152:=by have:=Nat.div_le_self (n+by'-1) by';omega
 go_enter Tryz.func95,Tryz.ntmps95;go_wp2_with fail;go_ret;have e1:wrap64 (((n+by'-1:Nat):Int)/by')=(((n+by'-1)/by':Nat):Int):=by rw[<-Int.natCast_ediv];generalize(n+by'-1)/by'=q at r0 ⊢;exact IntWalk.wrap64_in (q:Int) aD
 exact⟨congrArg (fun z=>Ending.returned (iV z)) e1,rfl⟩
theorem BytesAt.byte {w:World} {A:Option Addr} {L cap:Nat} {bs:List UInt8} (h:BytesAt w (.slice A L cap) bs) {j:Nat} (hj:j<bs.length):∃ad,A=some ad/\w.cell? (ad.add j)=some (.int .u8 ((bs.getD j 0).toNat:Nat)):=by obtain⟨ad,c,u,e,h1,h2⟩:=Rd.at_ h (k:=j) hj;cases e;rw[lC,gE hj]at h1;cases h1;refine⟨ad,rfl,?_⟩;rw[gH,gE hj];exact h2
theorem V7 {w:World} {v:Value} {bs:List UInt8} {i:Nat} (h:BytesAt w v bs) (hi:i+2<=bs.length) (hlen:bs.length<=1048576):
  Calls Tryz.prog 85 #[v,iV i] w fun e w'=>e= .returned (iV (r2 bs i))/\∃n,w'=w.drewN n:=by
 obtain⟨A,cap,hv,_⟩:=h.shape;subst hv;obtain⟨L,hL⟩:∃L,bs.length=L:=⟨_,rfl⟩;obtain⟨ad,rfl,c0⟩:=h.byte (j:=i) aD;obtain⟨ad',e,c1⟩:=h.byte (j:=i+1) aD;cases e;obtain⟨x,hx⟩:∃x,x=(bs.getD i 0).toNat:=⟨_,rfl⟩;obtain⟨y,hy⟩:∃y,y=(bs.getD (i+1) 0).toNat:=⟨_,rfl⟩;have hr:r2 bs i=x+256*y:=by unfold r2;rw[hx,hy]
 have x1:x<256:=by rw[hx];exact UInt8.toNat_lt _
 have y1:y<256:=by rw[hy];exact UInt8.toNat_lt _
 rw[hr];rw[<-hx]at c0;rw[<-hy]at c1;rw[hL]at hi hlen ⊢;have b1:(L:Int)<=1048576:=by omega
 have b2:(i:Int)+2<=L:=by omega
 have b3:(0:Int)<=i:=by omega
 have hj:=join_step (G:=x) (z:=y) (m:=1) aD y1 aD;have q3:((i:Int)+1).toNat=i+1:=by omega
 have b4:(i:Int)<L:=by omega
 have b5:(i:Int)+1<L:=by omega
 have b6:(0:Int)<=(i:Int)+1:=by omega
 have b7:IntKind.i64.wrap (i:Int)=i:=IntWalk.i64_in _ aD;have b8:IntKind.i64.wrap ((i:Int)+1)=i+1:=IntWalk.i64_in _ aD;have c2:w.cell? {block:=ad.block,off:=ad.off+(i+1)}=some (.int .u8 (y:Nat)):=c1;have b9:IntKind.i64.wrap (x:Int)=x:=IntWalk.i64_in _ aD;have b10:IntKind.i64.wrap (y:Int)=y:=IntWalk.i64_in _ aD;clear h hx hy hr hlen hi hL;have ew:wrap64 ((y:Int)*2 ^ (8*1))=(y:Int)*256:=IntWalk.wrap64_in _ aD;have hj2:bits .or .i64 (x:Int) ((y:Int)*256)=((x+256*y:Nat):Int):=by rw[ew]at hj;rw[hj];congr 1;omega
 have hj':=Lh hj2;clear hj ew hj2;go_enter Tryz.func85,Tryz.ntmps85;go_wp2_with fail;go_quiet (fail);go_wp2_with fail;go_ret;rw[<-hj'.out];exact⟨rfl,nq,rfl⟩
theorem avI {bs:List UInt8} {i:Nat} (h:i+2<=bs.length) (x y:UInt8):dR bs i [x,y]=(bs.set i x).set (i+1) y:=by
 have e1:dR bs i [x]=bs.set i x:=by have:=EG (b:=bs) (i:=i) (xs:=[]) (y:=x) E8;simpa[dR]using this.symm
 have:=EG (b:=bs) (i:=i) (xs:=[x]) (y:=y) E8;rw[e1]at this;exact this.symm
theorem FQ {w0 w:World} {R:List aW} {g c o m cap i n:Nat} {bs:List UInt8} (h:Sep w0 w (aI (sV g 512 c) bs::R)) (hl:bs.length=512) (ho:o+m<=512) (hi:i+2<=m) (hn:n<=1048576):
  Calls Tryz.prog 97 #[.slice (some ⟨g,o,none⟩) m cap,iV i,iV n] w fun e w'=>e= .returned (.tuple #[])/\Sep w0 w' (aI (sV g 512 c) (dR bs (o+i) (w2 n))::R):=by
 have h1:=h;rw[bV hl]at h1;have c0:=h1.xM (R:=[]) 0 rfl hl (o+i) aD;have f0:=h1.frozenAt 0 rfl (o+i);obtain⟨z,hz⟩:∃z:Int,z=((bs.getD (o+i) 0).toNat:Nat):=⟨_,rfl⟩;rw[<-hz]at c0;have e1:((n%256:Nat):Int)=(n:Int)%256:=by omega
 have h2:=h1.stored 0 rfl (o+i) (.int .u8 ((n%256:Nat):Int));have h2':Sep w0 (w.setCell ⟨g,o+i,none⟩ (.int .u8 ((n%256:Nat):Int))) (.sl 5 1 (sV g 512 c) 512 ((bs.set (o+i) (UInt8.ofNat n)).map kY)::R):=by rw[O5,PH,<-e1];exact h2
 have hl2:(bs.set (o+i) (UInt8.ofNat n)).length=512:=by rw[J7];exact hl
 have c1:=h2'.xM (R:=[]) 0 rfl hl2 (o+(i+1)) aD;have f1:=h2'.frozenAt 0 rfl (o+(i+1));have h3:=h2'.stored 0 rfl (o+(i+1)) (.int .u8 ((n/256%256:Nat):Int));have h4:Sep w0 ((w.setCell ⟨g,o+i,none⟩ (.int .u8 ((n%256:Nat):Int))).setCell ⟨g,o+(i+1),none⟩ (.int .u8 ((n/256%256:Nat):Int))) (aI (sV g 512 c) (dR bs (o+i) (w2 n))::R):=by rw[bV (n:=512) (by rw[fP (by simp[w2];omega)];exact hl)];unfold w2;rw[avI aD,O5,PH,show((n/256:Nat):Int)%256=((n/256%256:Nat):Int)by omega];exact h3
 obtain⟨y,hy⟩:∃y:Int,y=(((bs.set (o+i) (UInt8.ofNat n)).getD (o+(i+1)) 0).toNat:Nat):=⟨_,rfl⟩;rw[<-hy]at c1;have e2:((n/256%256:Nat):Int)=(n:Int)/256%256:=by omega
 rw[e1]at c1 f1 h4;rw[e2]at h4;have b1:(n:Int)<=1048576:=by omega
 have b2:(i:Int)+1<m:=by omega
 have b3:(i:Int)<m:=by omega
 have b0:(0:Int)<=i:=by omega
 have b5:(m:Int)<=512:=by omega
 have b6:(0:Int)<=(n:Int):=by omega
 have q3:((i:Int)+1).toNat=i+1:=by omega
 have h4':=Lh h4;clear h1 h2 h2' h3 h4 hz hy hl2 hl h e1 e2 hn ho hi;go_enter Tryz.func97,Tryz.ntmps97;go_wp2_with fail
 trace_state
 go_end0
 exact⟨rfl,h4'.out⟩
def eO (kind size:Nat):Int:=if kind=1 then max 1 (((size+15)/16:Nat):Int)else if kind=2 then(if 8<(size+511)/512 then(((size+511)/512:Nat):Int)+1 else(((size+511)/512:Nat):Int))else 0
def nS (kind:Nat):Int:=if kind=1 then 1 else if kind=2 then 1 else 0
theorem OG {kind size:Nat} (h:size<=65535):0<=eO kind size/\eO kind size<=4100:=by
 unfold eO;split
 ·omega
 split
 ·split<;>omega
 omega
theorem aaC {kind:Nat}:0<=nS kind/\nS kind<=1:=by
 unfold nS;split
 ·omega
 split<;>omega
theorem ajQ :fI 1=4607182418800017408:=by decide
theorem avJ (t:TypeId) (a b c d:Int) (ha:bW a) (hb:bW b) (hc:bW c) (hd:bW d) (h1:bW (a+c)) (h2:bW (b+d)) (w:World):
  (binOp .add t (iW a b) (iW c d)).run Tryz.prog w= .ok (iW (a+c) (b+d)) w:=by
 refine run_complex_sum (P:=Tryz.prog) (w:=w) .add (.inl rfl) t .f64 (fI a) (fI b) (fI c) (fI d) (fI (a+c)) (fI (b+d)) ?_;unfold cSumBits;rw[LM ha hc h1,LM hb hd h2];rfl
theorem apE (t:TypeId) (a b c d:Int) (ha:bW a) (hb:bW b) (hc:bW c) (hd:bW d) (h1:bW (a-c)) (h2:bW (b-d)) (w:World):
  (binOp .sub t (iW a b) (iW c d)).run Tryz.prog w= .ok (iW (a-c) (b-d)) w:=by
 refine run_complex_sum (P:=Tryz.prog) (w:=w) .sub (.inr rfl) t .f64 (fI a) (fI b) (fI c) (fI d) (fI (a-c)) (fI (b-d)) ?_;unfold cSumBits;rw[au8 ha hc h1,au8 hb hd h2];rfl
def aN (x:VI) (v:Value):Array Value:=#[iV (x.kind:Nat),iV (x.mode:Nat),iV (x.links:Nat),iV (x.size:Nat),v]
def fM (x:VI) (v:Value):Value:=.agg (aN x v)
theorem Z28 {P:Prop} (h:P:=by go_enter Tryz.func87,Tryz.ntmps87;go_wp2_with(go_at_call 95;refine(p16 _).mono ?_;rintro e w9 ⟨rfl,h9⟩;obtain rfl:=h9.symm);go_ret;refine⟨?_,aqP.out⟩;simp only[if_true];rw[iW,ajQ];rfl):P:=h
theorem UE {x:VI} {A:Option Addr} {n c:Nat} (hx:x.size<=65535) (hk:x.kind<=255) (w:World):
  Calls Tryz.prog 87 #[fM x (.slice A n c)] w fun e w'=>e= .returned (iW (eO x.kind x.size) (nS x.kind))/\Below w.heap.size w w':=by
 obtain⟨kind,mode,links,size,aB⟩:=x;simp only at hx hk;unfold fM aN;have b1:(size:Int)<=65535:=by omega
 have p16:=fun w=>xP (n:=size) (by':=16) aD aD aD w
 have aB8:=fun w=>xP (n:=size) (by':=512) aD aD aD w
 obtain⟨P,hP⟩:∃P,P=(size+15)/16:=⟨_,rfl⟩;obtain⟨Q,hQ⟩:∃Q,Q=(size+511)/512:=⟨_,rfl⟩;have e1:(size+16-1)/16=P:=by omega
 have e2:(size+512-1)/512=Q:=by omega
 simp only[e1]at p16;simp only[e2]at aB8;have bP:(P:Int)<=4096:=by omega
 have bQ:(Q:Int)<=128:=by omega
 unfold eO nS;simp only;rw[<-hP,<-hQ];have hal:=(Below.refl w.heap.size w).alloc (iC _) (.cells #[iV (kind:Nat),iV (mode:Nat),iV (links:Nat),iV (size:Nat),.slice A n c] 129);have aqP:=Lh hal;have hb:Tryz.prog.info? 129=Tryz.prog.info? 129:=rfl;clear hP hQ e1 e2 hx hal hb;have c0:(w.alloc (.cells #[iV (kind:Nat),iV (mode:Nat),iV (links:Nat),iV (size:Nat),.slice A n c] 129)).cell? ⟨w.heap.size,0,none⟩=some (iV (kind:Nat)):=cell_of_row _ _ 0 _ _ _ (heap_alloc_new w _);have c3:(w.alloc (.cells #[iV (kind:Nat),iV (mode:Nat),iV (links:Nat),iV (size:Nat),.slice A n c] 129)).cell? ⟨w.heap.size,3,none⟩=some (iV (size:Nat)):=cell_of_row _ _ 3 _ _ _ (heap_alloc_new w _);by_cases h1:kind=1
 ·subst h1;by_cases hp:2<=P
  ·have q:decide ((P:Int)<=1)=false:=decide_eq_false aD;(have q':¬(P:Int)<=1:=by omega);(have e:max 1 (P:Int)=P:=by omega);exact Z28
  (have q:(P:Int)<=1:=by omega);(have e:max 1 (P:Int)=1:=by omega);exact Z28
 have k1:((kind:Int)==1)=false:=by rw[jU];omega
 by_cases h2:kind=2
 ·subst h2;by_cases h8:8<Q
  ·(have q:(8:Int)<Q:=by omega);go_enter Tryz.func87,Tryz.ntmps87;go_wp2_with(go_at_call 95;refine(aB8 _).mono ?_;rintro e w9 ⟨rfl,h9⟩;obtain rfl:=h9.symm);go_ret;refine⟨?_,aqP.out⟩;simp only[h8,if_true];rw[iW,ajQ];rfl
  have q:decide ((8:Int)<Q)=false:=decide_eq_false aD;go_enter Tryz.func87,Tryz.ntmps87;go_wp2_with(go_at_call 95;refine(aB8 _).mono ?_;rintro e w9 ⟨rfl,h9⟩;obtain rfl:=h9.symm);go_ret;refine⟨?_,aqP.out⟩;simp only[h8,if_false];rw[iW,ajQ];rfl
 have k2:((kind:Int)==2)=false:=by rw[jU];omega
 go_enter Tryz.func87,Tryz.ntmps87;go_wp2_with fail;go_ret;refine⟨?_,aqP.out⟩;rw[iW,EA];rfl
end Go.Proofs.YtmjomdkleikgbaaGreat
