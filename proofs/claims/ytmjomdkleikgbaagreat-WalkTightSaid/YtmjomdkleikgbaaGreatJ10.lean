/- Parts. -/
import Derived.Test.YtmjomdkleikgbaaGreatJ9
import Derived.Laws.BytesArg
set_option linter.unusedVariables false
set_option linter.unusedSimpArgs false
set_option maxRecDepth 100000
set_option maxHeartbeats 20000000
namespace Go.Proofs.YtmjomdkleikgbaaGreat
open Go.RowKit
def pM (c:fZ) (d:Nat) (l:List Nat):List UInt8:=l.flatMap fun s=>bk c (d+s)
def eY (c:fZ) (d:Nat) (x:VI):List UInt8:=(pM c d x.aB).take x.size
theorem ak4 {c:fZ} {d:Nat} {l:List Nat} (h:∀s∈l,(bk c (d+s)).length=512):(pM c d l).length=512*l.length:=by
 induction l with
 |nil=>rfl
 |cons s l ih=>unfold pM at ih ⊢;rw[wU,jL,ih fun t ht=>h t (vK _ ht),h s (nE ..),kR];omega
theorem Rd.aCI {w:World} {A:Option Addr} {n c m:Nat} {cs:List Value} (h:Rd w 1 (.slice A n c) n cs) (hm:m<=n):Rd w 1 (.slice A m c) m (cs.take m):=by
 obtain⟨h0,A',c',e,h1,h2,h3⟩:=h;cases e;refine⟨by rw[qL];omega,_,_,rfl,by omega,h2,fun hn=>?_⟩;obtain⟨ad,e,hb,hc⟩:=h3 aD;refine⟨ad,e,hb,fun j u hj=>?_⟩;rw[vO]at hj;split at hj
 ·exact hc j u hj
 cases hj
section
variable {w0 w:World} {R:List aZ} {f q p:Nat} {S:VS} {a:VA}
theorem Z52 {P:Prop} (h:P:=by cases e;unfold dZ at h1;rw[kV,kV,hsk]at h1;cases h1;exact⟨ad,rfl,h2⟩):P:=h
theorem LJ {n:Nat} (hC:VC S a) (hF:VF S) (hn:n<S.names) (hok:(aG S.cur n).aB.length<=28) (hsp:∀s∈(aG S.cur n).aB,s<S.count) (hsz:(aG S.cur n).size<=512*(aG S.cur n).aB.length) (h:Sep w0 w (aF f q p S a::R)):
  Calls Tryz.prog 128 #[pV f,iV n] w fun e w'=>∃v a',e= .returned v/\Reads S a a'/\Sep w0 w' (aI v (eY S.cur S.data (aG S.cur n))::aF f q p S a'::R):=by
 have hin:=jP hC hF hn hok h;obtain⟨x,hx⟩:∃x,x=aG S.cur n:=⟨_,rfl⟩;rw[<-hx]at hin hok hsp hsz ⊢;obtain⟨k0,pO,hk0,hk1,hk2⟩:=iU l8;have hC':=Lh hC;have hF':=Lh hF;have ak5:=Lh hsp;have hok':=Lh hok;have hsz':=Lh hsz;clear hC hF hn hok hsp hsz h hx;unfold fJ at hin;go_enter Tryz.func128,Tryz.ntmps128;go_wp2_with(first |(go_at_call 72;refine hin.mono ?_;rintro e w9 ⟨v,a1,rfl,hR,h9⟩;obtain⟨A9,c9,e9⟩:=h9.dS 0 rfl;subst e9;have hs:=h9.bN 129 (aN x (.slice A9 (dZ x.aB).length c9));have c3:=hs.bC 0 rfl 3;have c4:=hs.bC 0 rfl 4;replace hs:=Lh hs;replace hR:=Lh hR;clear h9 hin;unfold aN at c3 c4 ⊢;simp only[gA,gB,gC]at c3 c4));obtain⟨L,hL⟩:∃L,L=x.aB.length:=⟨_,rfl⟩;have hll:(dZ x.aB).length=L:=by unfold dZ;rw[iM];exact hL.symm
 have L28:(L:Int)<=28:=by have:=hok'.out;omega
 have hS0:Hid (∃a',Reads S a a'/\Sep w0 (w9.alloc (.cells (aN x (.slice A9 (dZ x.aB).length c9)) 129)) (aI (.slice none 0 0) (pM S.cur S.data (x.aB.take 0))::aF f q p S a':: .box w9.heap.size 129 (aN x (.slice A9 (dZ x.aB).length c9))::aR (.slice A9 (dZ x.aB).length c9) (dZ x.aB)::R)):=Lh ⟨a1,hR.out,by have h1:=hs.out.iO 5 1;exact Sep.dE [0,3,1,2] h1 aV bL⟩;have hL':=Lh hL;have auY:=Lh hll;rw[hll];rw[hll]at c4 hS0;clear hs hR hL c3 c4;go_loopw[6,15] (fun b i wr=>∃k:Nat,k<=L/\i=iV k/\Hid (∃a',Reads S a a'/\Sep w0 wr (aI b (pM S.cur S.data (x.aB.take k))::aF f q p S a':: .box w9.heap.size 129 (aN x (.slice A9 L c9))::aR (.slice A9 L c9) (dZ x.aB)::R))) (fun _ i _=>L-(intOf i).toNat)
 case atStart=>exact⟨0,gI _,rfl,hS0⟩
 obtain⟨k,hk,rfl,hS⟩:=hrel;clear hS0;obtain⟨a2,hR2,hS2⟩:=hS.out;have hfl:(pM S.cur S.data (x.aB.take k)).length=512*k:=by rw[ak4 fun s hs=>jT hC'.out.cur (by have:=ak5.out s (zX hs);unfold VS.count at this;omega),qL];rw[xZ (by rw[<-hL'.out];exact hk)]
 obtain⟨Au,cu,eu⟩:=hS2.dS 0 rfl;rw[hfl]at eu;subst eu;by_cases hlt:k<L
 ·(have hlx:k<x.aB.length:=by rw[<-hL'.out];exact hlt);obtain⟨s,hs⟩:∃s,s=x.aB[k]:=⟨_,rfl⟩;(have hsk:x.aB[k]? =some s:=by rw[gE hlx,hs]);(have hsc:s<S.count:=by rw[hs];exact ak5.out _ (nT hlx));(have hcj:∃ad,A9=some ad/\wr.cell? (ad.add k)=some (iV (s:Nat)):=by obtain⟨ad,c8,u9,e,h1,h2⟩:=Rd.at_ (hS2.rd 3 rfl) (k:=k) (by rw[auY.out];exact hlt);exact Z52);obtain⟨ad,rfl,hcj⟩:=hcj;have hV:Sep w0 wr.drew (aF f q p S a2::aI (.slice Au (512*k) cu) (pM S.cur S.data (x.aB.take k)):: .box w9.heap.size 129 (aN x (.slice (some ad) L c9))::aR (.slice (some ad) L c9) (dZ x.aB)::R):=(hS2.perm (List.Perm.swap _ _ _)).drew;have MQ:=AB hR2.ok hF'.out hV.fK.c3;(have hbound:S.data+s<S.nb-96:=by unfold VS.count at hsc;omega);have hpk:=OT hR2.ok hbound hV;have hlen:=jT hC'.out.cur hbound;(have hd4:(S.data+s:Nat)<=4096:=by have:=hC'.out.pF.few;omega);obtain⟨d,hd⟩:∃d,d=S.data:=⟨_,rfl⟩;rw[<-hd]at MQ hd4;rw[<-hd,show((d+s:Nat):Int)=(d:Int)+s by omega]at hpk;(have e9:pM S.cur S.data (x.aB.take (k+1))=pM S.cur S.data (x.aB.take k)++bk S.cur (d+s):=by unfold pM;rw[pE,hsk,YE,hd];simp);rw[<-hd]at hlen;(have q1:(k:Int)<L:=by omega);(have q0:(0:Int)<=k:=by omega);have q3:IntKind.i64.wrap ((d:Int)+s)=d+s:=IntWalk.i64_in _ aD;have hd':=Lh hd;have e9':=Lh e9;have hlen':=Lh hlen;have ak6:=Lh hfl;have ak7:=Lh hR2;replace MQ:=Lh MQ;replace hpk:=Lh hpk;clear hV hS hS2 hs hsk hsc hbound hd4 hd e9 hlen hfl hR2 hlx;go_wp2_with fail;refine aP (S:=fun _=>True) 13 ?_;refine aA 0 trivial ?_;refine aA 1 trivial ?_;refine aA 2 trivial ?_;refine aA 3 trivial ?_;refine aA 4 trivial ?_;refine aA 5 trivial ?_;refine aA 6 trivial ?_;refine aA 8 trivial ?_;(refine bI 7 fun K hK=>?_);go_simp;go_at_call 142;refine MQ.out.mono ?_;rintro e w8 ⟨rfl,h8⟩;obtain rfl:=h8.symm;dsimp only;refine hK _ _ (fun _=>trivial) ?_;clear hK K;(try simp only[Act.put,gD]);refine bB 9 (fun _=>trivial) ?_;(refine bI 10 fun K hK=>?_);go_simp;go_at_call 144;refine hpk.out.mono ?_;rintro e w7 ⟨v7,a3,rfl,hR3,hP3,h7⟩;have hrd:=Lh (h7.NA hP3 hR3.ok.none);have hY:Hid (Sep w0 w7 (.sl 5 1 (.slice Au (512*k) cu) (512*k) ((pM S.cur S.data (x.aB.take k)).map kT)::aF f q p S a3:: .box w9.heap.size 129 (aN x (.slice (some ad) L c9))::aR (.slice (some ad) L c9) (dZ x.aB)::R)):=Lh (by rw[<-bW ak6.out,<-hd'.out];exact h7.perm (List.Perm.swap _ _ _));have hR4:=Lh (ak7.out.trans hR3);clear hP3 h7 hR3;dsimp only;refine hK _ _ (fun _=>trivial) ?_;clear hK K;(try simp only[Act.put,gD]);(refine bI 11 fun K hK=>?_);refine jF 0 D9 _ _ 69 D9 5 k0 (.int .u8 0) 1 1 Tryz.underlying69 pO hk0 hk1 hk2 rfl aV hY.out (.slice Au (512*k) cu) (512*k) _ D9 D9 v7 512 ((bk S.cur (d+s)).map kT) D9 (by have h1:=hrd.out;unfold BytesAt at h1;rw[hd'.out]at*;rw[hlen'.out]at h1;exact h1) rM vQ aD ?_;intro v4 w4 kD hz4;replace kD:=Lh kD;clear hY hrd;refine hK _ _ (fun _=>trivial) ?_;clear hK K;(try simp only[Act.put,gD]);refine bB 12 (fun _=>trivial) ?_;refine aQ fH ?_ _;go_wp2_with fail;refine⟨⟨k+1,by omega,rfl,Lh ⟨a3,hR4.out,?_⟩⟩,by simp[intOf];omega⟩;rw[e9'.out,bW (n:=512*k+512) (by rw[jL,ak6.out,hlen'.out]),mV];exact kD.out
 obtain rfl:k=L:=by omega
 have e1:x.aB.take k=x.aB:=qH (by rw[hL'.out];exact iB _);rw[e1]at hS2 hfl;have auZ:=hS2.rd 0 rfl;rw[show(pM S.cur S.data x.aB).length=512*k from hfl]at auZ;have hz:x.size<=512*k:=by have:=hsz'.out;rw[<-hL'.out]at this;exact this
 have hcu:x.size<=cu:=by obtain⟨_,A,c,e,h1,_⟩:=id auZ;cases e;omega
 have aHV:=Lh (Rd.aCI auZ hz);have c3:=hS2.bC 2 rfl 3;unfold aN at c3;simp only[gA,gB,gC]at c3;have hN:=Lh (hS2.iO 5 1);have ak7:=Lh hR2;have z1:(x.size:Int)<=cu:=by omega
 have z0:(0:Int)<=x.size:=by omega
 have zs:x.size<=14336:=by omega
 have hzs:=Lh zs;have ak6:=Lh hfl;have hz':=Lh hz;clear hS hS2 auZ hR2 e1 hfl hz zs;go_wp2_with(at_builtin;refine dH 0 rfl _ _ 69 rfl 5 k0 (.int .u8 0) 1 1 Tryz.underlying69 pO hk0 hk1 hk2 rfl aV hN.out _ 0 [] rfl rfl (.slice Au x.size cu) x.size _ rfl aHV.out (fun u hu=>rM u (zX hu)) (by have:=hzs.out;unfold maxLen;omega) (by have:=hzs.out;omega) ?_;intro v3 w3 dX hz3;replace dX:=Lh dX);go_ret;refine⟨_,a2,rfl,ak7.out,?_⟩;have hl:(eY S.cur S.data x).length=x.size:=by unfold eY;rw[qL,ak6.out];exact xZ hz'.out
 rw[bW hl];have h5:=dX.out;simp only[JN,GL,nG]at h5;have e2:(eY S.cur S.data x).map kT=((pM S.cur S.data x.aB).map kT).take x.size:=by unfold eY;rw[abH]
 rw[e2];exact(Sep.dE [1,3,4,0,2] h5 aV bL).drop 3
theorem abK {x:VI} {v:Value} {i s:Nat} (hC:VC S a) (hF:VF S) (hv:yZ w0 R v x.aB) (hi:x.aB[i/16]? =some s) (hs:s<S.count) (hx:x.aB.length<=28) (h:Sep w0 w (aF f q p S a::R)):
  Calls Tryz.prog 172 #[pV f,fJ x v,iV i] w fun e w'=>e= .returned (.tuple #[iV (S.data+s:Nat),iV (i%16*32:Nat)])/\Below w.heap.size w w':=by
 have hlt:=(gF.1 hi).1;obtain⟨A,c,hv0,ad,hA,hcell⟩:∃A c,v= .slice A x.aB.length c/\∃ad,A=some ad/\∀W,Below w.heap.size w W->W.cell? (ad.add (i/16))=some (iV (s:Nat)):=by obtain⟨ad,c,u,e,h1,_⟩:=Rd.at_ (hv w [_] h) (k:=i/16) hlt;refine⟨_,c,e,ad,rfl,fun W hW=>?_⟩;obtain⟨ad2,c2,u2,e2,h3,h4⟩:=Rd.at_ (hv W [_] (h.pure hW)) (k:=i/16) hlt;rw[e]at e2;cases e2;unfold dZ at h3;rw[kV,kV,hi]at h3;cases h3;exact h4
 subst hv0 hA;have hS1:Sep w0 (w.alloc (.cells (aN x (.slice (some ad) x.aB.length c)) 129)) (aF f q p S a:: .box w.heap.size 129 (aN x (.slice (some ad) x.aB.length c))::R):=(h.bN _ _).perm (List.Perm.swap _ _ _);have hb:Below w.heap.size w (w.alloc (.cells (aN x (.slice (some ad) x.aB.length c)) 129)):=(Below.refl _ _).alloc (iB _) _;have MQ:=fun n=>AB hC hF (hS1.drewN n).fK.c3
 have hc0:=hcell _ hb;have c4:=hS1.bC 1 rfl 4;have hd4:S.data+s<=4096:=by have:=hC.pF.few;have:=hF.room;unfold VS.count at hs;omega
 obtain⟨d,hd⟩:∃d,d=S.data:=⟨_,rfl⟩;obtain⟨j,hj⟩:∃j,j=i/16:=⟨_,rfl⟩;obtain⟨m,hm⟩:∃m,m=i%16:=⟨_,rfl⟩;obtain⟨L,hL⟩:∃L,L=x.aB.length:=⟨_,rfl⟩;have hjl:j<L:=by rw[hj,hL];exact hlt
 rw[<-hd]at MQ hd4 ⊢;rw[<-hj]at hc0;rw[<-hm];unfold fJ aN at*;rw[<-hL]at hc0 c4 hb MQ ⊢;simp only[gA,gB,gC]at c4;have q0:(0:Int)<=i:=by omega
 have t1:(i:Int).tdiv 16=j:=by rw[aaU q0];omega
 have t2:(i:Int).tmod 16=m:=by rw[ao3 q0];omega
 have q1:(0:Int)<=j:=by omega
 have q2:(j:Int)<L:=by omega
 have q3:(m:Int)<16:=by omega
 have q4:(0:Int)<=m:=by omega
 have w1:IntKind.i64.wrap (j:Int)=j:=IntWalk.i64_in _ aD;have w2:IntKind.i64.wrap ((d:Int)+s)=d+s:=IntWalk.i64_in _ aD;have w3:IntKind.i64.wrap ((m:Int)*32)=m*32:=IntWalk.i64_in _ aD;have hb':=Lh hb;have ak8:=Lh MQ;rw[show((d+s:Nat):Int)=(d:Int)+s by omega,show((m*32:Nat):Int)=(m:Int)*32 by omega];clear hC hF hv hi hs hx h hcell hS1 hb MQ hd4 hd hj hm hL hlt hjl;go_enter Tryz.func172,Tryz.ntmps172;go_wp2_with fail;go_quiet ((go_at_call 142;exact Calls.quiet_of_same (ak8.out _)));go_wp2_with fail
 go_ret2
 exact⟨rfl,(((Sep.nil w).alloc _).drewN nq).below⟩
end
end Go.Proofs.YtmjomdkleikgbaaGreat
namespace Go.Proofs.YtmjomdkleikgbaaGreat
def aC (p:List UInt8):Value:=.string ⟨p.toArray⟩
theorem iP (p:List UInt8):(⟨p.toArray⟩:ByteArray).size=p.length:=rfl
theorem tY (p:List UInt8):(⟨p.toArray⟩:ByteArray).data.toList=p:=rfl
open Go.RowKit
theorem gW {w:World} {u:Value} {bs:List UInt8} (h:BytesAt w u bs):(convert 69 9 u).run Tryz.prog w= .ok (aC bs) w:=by
 obtain⟨hl,A,c,rfl,h1,h2,h3⟩:=h;have e0:strOfNums (bs.map fun b=>(b.toNat:Int))=⟨bs.toArray⟩:=by
  unfold strOfNums;congr 2;rw[qJ]
  conv=>rhs;rw[<-List.map_id bs]
  (refine uH fun b _=>?_);simp[Function.comp]
 cases A with
 |none=>
  have h0:bs.length=0:=by
   rcases xW bs.length with h0|h0
   ·exact h0
   obtain⟨ad,e,_⟩:=h3 h0;cases e
  have:bs=[]:=vL h0;subst this;exact run_convert_bytes_nil (P:=Tryz.prog) w 69 5 Tryz.underlying69 Tryz.underlying5 0 c 9 Tryz.underlying9
 |some a=>(have hcell:∀j v,(bs.map kT)[j]? =some v->w.cell? (a.add j)=some v:=fun j v hj=>by have hlt:=(gF.1 hj).1;rw[iM]at hlt;obtain⟨ad,e,_,hc⟩:=h3 aD;cases e;exact hc j v hj);have h4:=run_loadCells_list (P:=Tryz.prog) w a (bs.map kT) hcell;(have e:bs.map kT=(bs.map fun b=>(b.toNat:Int)).map (Value.int .u8):=by rw[qJ];rfl);rw[iM,e]at h4;unfold aC;rw[<-e0,run_convert_bytes_string w 69 9 5 _ bs.length c Tryz.underlying69 Tryz.underlying5 Tryz.underlying9,run_bytesToString w a bs.length c _ h4,foldl_push_bytes];simp[strOfNums,ByteArray.empty,ByteArray.emptyWithCapacity];rfl
def zP (b:List UInt8) (i:Nat):List UInt8:=(b.drop (i%16*32)).take 32
def enN (e:List UInt8):List UInt8:=(e.drop 1).take (e.getD 0 0).toNat
def enI (e:List UInt8):Nat:=r2 e 16
theorem OU {α:Type} (l:List α) (a k n m:Nat) (h:k+n<=m):(((l.drop a).take m).drop k).take n=(l.drop (a+k)).take n:=by rw[List.drop_take,List.take_take,LD,xZ aD]
theorem uJ (l:List UInt8) (a m k:Nat) (h:k<m):((l.drop a).take m).getD k 0=l.getD (a+k) 0:=by rw[gH,gH,vO,if_pos h,zY]
theorem YH (l:List UInt8) (a m k:Nat) (h:k+1<m):r2 ((l.drop a).take m) k=r2 l (a+k):=by unfold r2;rw[uJ _ _ _ _ aD,uJ _ _ _ _ h];rfl
theorem yZ.cons {w0:World} {R:List aZ} {A:aZ} {v:Value} {l:List Nat} (h:yZ w0 R v l):yZ w0 (A::R) v l:=fun w' X hS=>h w' (X++[A]) (by simpa using hS)
section
variable {w0 w:World} {R:List aZ} {f q p:Nat} {S:VS} {a:VA}
theorem ak9 {x:VI} {v:Value} {i s:Nat} (hC:VC S a) (hF:VF S) (hv:yZ w0 R v x.aB) (hi:x.aB[i/16]? =some s) (hs:s<S.count) (hx:x.aB.length<=28) (hl:((zP (bk S.cur (S.data+s)) i).getD 0 0).toNat<=31) (h:Sep w0 w (aF f q p S a::R)):
  Calls Tryz.prog 108 #[pV f,fJ x v,iV i] w fun e w'=>e= .returned (.tuple #[aC (enN (zP (bk S.cur (S.data+s)) i)),.int .i64 (enI (zP (bk S.cur (S.data+s)) i):Nat)])/\∃a',Reads S a a'/\Sep w0 w' (aF f q p S a'::R):=by
 have hd4:S.data+s<S.nb-96:=by unfold VS.count at hs;omega
 have hlen:=jT hC.cur hd4;obtain⟨k,hk⟩:∃k,k=S.data+s:=⟨_,rfl⟩;obtain⟨b,hb⟩:∃b,b=bk S.cur k:=⟨_,rfl⟩;obtain⟨o,ho⟩:∃o,o=i%16*32:=⟨_,rfl⟩;have ho4:o+32<=512:=by omega
 rw[<-hk]at hl hd4 hlen ⊢;rw[<-hb]at hl hlen ⊢;have k4:k<=4096:=by have:=hC.pF.few;omega
 obtain⟨A0,c0,hv0⟩:∃A c,v= .slice A x.aB.length c:=by obtain⟨_,A,c,e,_⟩:=hv w [_] h;exact⟨A,c,e⟩
 have h0:Sep w0 (w.alloc (.cells (aN x v) 129)) (aF f q p S a:: .box w.heap.size 129 (aN x v)::R):=(h.bN _ _).perm (List.Perm.swap _ _ _);have hsp:=abK hC hF (hv.cons (A:=.box w.heap.size 129 (aN x v))) hi hs hx h0;rw[<-hk,<-ho]at hsp;have hpk:Hid (∀W,Below (w.alloc (.cells (aN x v) 129)).heap.size (w.alloc (.cells (aN x v) 129)) W->Calls Tryz.prog 144 #[pV f,iV k] W fun e w'=>∃u a',e= .returned u/\Reads S a a'/\BytesAt w' u b/\Sep w0 w' (aF f q p S a'::R)):=Lh fun W hW=>by refine(OT hC hd4 (h0.pure hW)).mono ?_;rintro e w' ⟨u,a',rfl,hR,hP,h9⟩;refine⟨u,a',rfl,hR,by rw[hb];exact h9.NA hP hR.ok.none,?_⟩;exact(Sep.dE [1,0] h9 aV bL).drop 1
 have e0:((zP b i).getD 0 0).toNat=(b.getD o 0).toNat:=by unfold zP;rw[uJ _ _ _ _ aD,<-ho,tF]
 obtain⟨z,hz⟩:∃z,z=(b.getD o 0).toNat:=⟨_,rfl⟩;have e1:enN (zP b i)=(b.drop (o+1)).take z:=by unfold enN;rw[e0,<-hz];unfold zP;rw[<-ho];exact OU _ _ _ _ _ (by rw[e0]at hl;omega)
 have e2:enI (zP b i)=r2 b (o+16):=by unfold enI zP;rw[<-ho];exact YH _ _ _ _ aD
 rw[e1,e2];rw[e0,<-hz]at hl;have z31:(z:Int)<=31:=by omega
 have z0:(0:Int)<=z:=by omega
 have ez:o+1+z-(o+1)=z:=by omega
 have r1:IntKind.i64.wrap (o:Int)=o:=IntWalk.i64_in _ aD;have r2':IntKind.i64.wrap ((o:Int)+1)=o+1:=IntWalk.i64_in _ aD;have r3:IntKind.i64.wrap (z:Int)=z:=IntWalk.i64_in _ aD;have r4:IntKind.i64.wrap ((o:Int)+1+z)=o+1+z:=IntWalk.i64_in _ aD;have r5:IntKind.i64.wrap ((o:Int)+16)=o+16:=IntWalk.i64_in _ aD;have o5:(o:Int)<512:=by omega
 have o1:(o:Int)+32<=512:=by omega
 have o0:(0:Int)<=o:=by omega
 have k0:(k:Int)<=4096:=by omega
 have hb':=Lh (show(∃bb:Nat,bb=0)from⟨0,rfl⟩);have hbz:Hid (∀W u,BytesAt W u b->∃ad c,u= .slice (some ad) 512 c/\512<=c/\W.cell? (ad.add o)=some (.int .u8 (z:Nat))/\(convert 69 9 (.slice (some {block:=ad.block,off:=ad.off+(o+1)}) z (c-(o+1)))).run Tryz.prog W= .ok (aC ((b.drop (o+1)).take z)) W/\∀n,(W.drewN n).cell? (ad.add o)=some (.int .u8 (z:Nat))/\(convert 69 9 (.slice (some {block:=ad.block,off:=ad.off+(o+1)}) z (c-(o+1)))).run Tryz.prog (W.drewN n)= .ok (aC ((b.drop (o+1)).take z)) (W.drewN n)/\Calls Tryz.prog 85 #[u,iV (o+16:Nat)] (W.drewN n) fun e w'=>e= .returned (iV (r2 b (o+16)))/\∃m,w'=(W.drewN n).drewN m):=Lh fun W u hB=>by
  (obtain⟨A,c,e⟩:∃A c,u= .slice A 512 c:=by obtain⟨_,A,c,e,_⟩:=hB;rw[hlen]at e;exact⟨A,c,e⟩);subst e;(have hc:512<=c:=by obtain⟨_,A,c',e,h1,_⟩:=hB;rw[hlen]at e h1;cases e;exact h1);obtain⟨ad,rfl,hcell⟩:=hB.byte (j:=o) aD;rw[<-hz]at hcell;(have ead:ad.add (o+1)= {block:=ad.block,off:=ad.off+(o+1)}:=by simp[Addr.add]);refine⟨ad,c,rfl,hc,hcell,by rw[<-ead];exact gW (hB.sub (o:=o+1) (m:=z) aD),fun n=>⟨hcell,?_,?_⟩⟩
  ·have hB2:BytesAt (W.drewN n) (.slice (some ad) 512 c) b:=hB.below ⟨rfl,rfl,rfl,iB _,fun _ _=>rfl⟩;rw[<-ead];exact gW (hB2.sub (o:=o+1) (m:=z) aD)
  have hB2:BytesAt (W.drewN n) (.slice (some ad) 512 c) b:=hB.below ⟨rfl,rfl,rfl,iB _,fun _ _=>rfl⟩;exact VJ hB2 aD aD
 have hz':=Lh hz;have s1:((o:Int)+1).toNat=o+1:=by omega
 have s2:((o:Int)+1+z).toNat=o+1+z:=by omega
 have s3:(0:Int)<=(o:Int)+1:=by omega
 have s4:(o:Int)+1<=(o:Int)+1+z:=by omega
 have s5:(o:Int)+1+z<=512:=by omega
 have s6:(0:Int)<=(o:Int)+1+z:=by omega
 clear hC hF hv hi hs hx hl h h0 hd4 hlen hk hb ho e0 e1 e2 hb' hz;subst hv0;unfold fJ aN at*;go_enter Tryz.func108,Tryz.ntmps108;go_wp2_with(first |(go_at_call 172;refine hsp.mono ?_;rintro e w9 ⟨rfl,wM⟩;have ao8:=hpk.out _ wM;clear wM hsp hpk)|(go_at_call 144;refine ao8.mono ?_;rintro e w8 ⟨u,a',rfl,hR,hB,h8⟩;obtain⟨ad,c,e9,hc,hc1,hcv,hq⟩:=hbz.out _ _ hB;(have hcn:=fun n=>(hq n).2.1);(have s7:(o:Int)+1+z<=c:=by omega);(have s8:¬c=o+1:=by omega);subst e9;replace hq:=Lh hq;replace hR:=Lh hR;replace h8:=Lh h8;clear hB hbz ao8));go_quiet ((go_at_call 85;exact Calls.quiet_of (hq.out _).2.2));go_wp2_with fail
 go_ret2
 exact⟨rfl,a',hR.out,h8.out.drewN _⟩
end
def zQ (name:List UInt8) (n:Nat):List UInt8:=dP (dP ((List.replicate 32 (0:UInt8)).set 0 (UInt8.ofNat name.length)) 1 name) 16 (w2 n)
theorem OV {name:List UInt8} {n:Nat} (h:name.length<=15):(zQ name n).length=32:=by
 unfold zQ;have h1:(dP ((List.replicate 32 (0:UInt8)).set 0 (UInt8.ofNat name.length)) 1 name).length=32:=by
  rw[fM]
  ·simp
  simp;omega
 rw[fM (by rw[h1,sM];omega),h1]
def VS.iC (S:VS) (s i:Nat) (name:List UInt8) (n:Nat):VS:=S.put (S.data+s) (dP (bk S.cur (S.data+s)) (i%16*32) (zQ name n))
section
variable {w0 w:World} {R:List aZ} {f q p:Nat} {S:VS} {a:VA}
theorem YI {x:VI} {v:Value} {i s n:Nat} {name:List UInt8} (hC:VC S a) (hF:VF S) (hv:yZ w0 R v x.aB) (hi:x.aB[i/16]? =some s) (hs:s<S.count) (hx:x.aB.length<=28) (hname:name.length<=15) (hn:n<=65535) (h:Sep w0 w (aF f q p S a::R)):
  Calls Tryz.prog 179 #[pV f,fJ x v,iV i,aC name,iV n] w fun e w'=>e= .returned (.tuple #[])/\∃a',VC (S.iC s i name n) a'/\Sep w0 w' (aF f q p (S.iC s i name n) a'::R):=by
 have hd4:S.data+s<S.nb-96:=by unfold VS.count at hs;omega
 have hlen:=jT hC.cur hd4;obtain⟨k,hk⟩:∃k,k=S.data+s:=⟨_,rfl⟩;obtain⟨b,hb⟩:∃b,b=bk S.cur k:=⟨_,rfl⟩;obtain⟨o,ho⟩:∃o,o=i%16*32:=⟨_,rfl⟩;have ho4:o+32<=512:=by omega
 have hset:S.iC s i name n=S.put k (dP b o (zQ name n)):=by unfold VS.iC;rw[hb,hk,ho]
 rw[hset];rw[<-hk]at hd4 hlen;rw[<-hb]at hlen;have k4:k<=4096:=by have:=hC.pF.few;omega
 obtain⟨A0,c0,hv0⟩:∃A c,v= .slice A x.aB.length c:=by obtain⟨_,A,c,e,_⟩:=hv w [_] h;exact⟨A,c,e⟩
 have h0:Sep w0 (w.alloc (.cells (aN x v) 129)) (aF f q p S a:: .box w.heap.size 129 (aN x v)::R):=(h.bN _ _).perm (List.Perm.swap _ _ _);have hsp:=abK hC hF (hv.cons (A:=.box w.heap.size 129 (aN x v))) hi hs hx h0;rw[<-hk,<-ho]at hsp;obtain⟨m,hm⟩:∃m,m=name.length:=⟨_,rfl⟩;have hyl:∀ys:List UInt8,ys.length=32->(dP b o ys).length=512:=fun ys hy=>by rw[fM (by rw[hlen,hy];omega)];exact hlen
 have hgt:Hid (∀W,Below (w.alloc (.cells (aN x v) 129)).heap.size (w.alloc (.cells (aN x v) 129)) W->Calls Tryz.prog 84 #[pV f,iV k] W fun e w'=>∃g c a',e= .returned (sV g 512 c)/\512<=c/\VC S a'/\
   ∃w1,(Builtin.clear_ #[69] 0 #[.slice (some ⟨g,o,none⟩) 32 (c-o)]).run Tryz.prog w'= .ok (.tuple #[]) w1/\w1.cell? ⟨g,o,none⟩=some (.int .u8 0)/\w1.frozen? ⟨g,o,none⟩=false/\
   ∃w2,(Builtin.copy_ #[69,9] 3 #[.slice (some ⟨g,o+1,none⟩) (511-o) (c-(o+1)),aC name]).run Tryz.prog (w1.setCell ⟨g,o,none⟩ (.int .u8 ((m:Nat):Int)))= .ok (goInt (m:Nat)) w2/\
   Calls Tryz.prog 97 #[sV g 512 c,iV (o+16:Nat),iV n] w2 fun e w3=>e= .returned (.tuple #[])/\
    Calls Tryz.prog 98 #[pV f,iV k,sV g 512 c] w3 fun e w4=>e= .returned (.tuple #[])/\∃a',VC (S.put k (dP b o (zQ name n))) a'/\Sep w0 w4 (aF f q p (S.put k (dP b o (zQ name n))) a'::R)):=Lh fun W hW=>by
  refine(NB hC hd4 (h0.pure hW)).mono ?_
  rintro e w' ⟨u,a',rfl,hR,hG⟩
  obtain⟨g,c,rfl,hc,hS⟩:=hG.out.GU (by rw[<-hb];exact hlen)
  rw[<-hb]at hS
  refine⟨g,c,a',rfl,hc.1,hR.ok,?_⟩
  obtain⟨w1,hcl,h1,_⟩:=hS.VK (P:=Tryz.prog) 0 rfl 69 0 (.int .u8 0) Tryz.underlying69 (fun w=>by kernel_rfl) D9 D9 o 32 (c-o) aD
  have e1:(dP b o (List.replicate 32 0)).map kT=oL (b.map kT) o (List.replicate 32 (.int .u8 0)):=by exact Z49
  have h1':Sep w0 w1 (.sl 5 1 (sV g 512 c) 512 ((dP b o (List.replicate 32 0)).map kT)::zR f q p S a' k:: .box w.heap.size 129 (aN x v)::R):=by rw[e1];exact h1
  have hc1:=h1'.wX (R:=[]) 0 rfl (hyl _ bL) o aD
  have hz:((dP b o (List.replicate 32 0)).getD o 0).toNat=0:=by rw[gH,uK (by rw[hlen,E8];omega),if_pos ⟨by omega,by rw[E8];omega⟩,FB];rfl
  rw[hz]at hc1
  refine⟨w1,hcl,hc1,h1'.frozenAt 0 rfl _,?_⟩
  have h2:=h1'.stored 0 rfl o (.int .u8 ((m:Nat):Int))
  have e2:((dP b o (List.replicate 32 0)).map kT).set o (.int .u8 ((m:Nat):Int))=(dP b o ((List.replicate 32 (0:UInt8)).set 0 (UInt8.ofNat m))).map kT:=by(have e:dP b o ((List.replicate 32 (0:UInt8)).set 0 (UInt8.ofNat m))=(dP b o (List.replicate 32 0)).set o (UInt8.ofNat m):=by rw[GV (b:=dP b o (List.replicate 32 0)) (by rw[hyl _ bL];omega),GV (b:=List.replicate 32 0) bL];have:=wY (b:=b) (ys:=List.replicate 32 0) (zs:=[UInt8.ofNat m]) (o:=o) (i:=0) (by rw[hlen];omega) bL;rw[<-this,tF]);rw[e,OL,OW,Int.emod_eq_of_lt aD aD]
  have h2':Sep w0 (w1.setCell ⟨g,o,none⟩ (.int .u8 ((m:Nat):Int))) (.sl 5 1 (sV g 512 c) 512 ((dP b o ((List.replicate 32 (0:UInt8)).set 0 (UInt8.ofNat m))).map kT)::zR f q p S a' k:: .box w.heap.size 129 (aN x v)::R):=by rw[<-e2];exact h2
  obtain⟨w2,hcp,h3,_⟩:=h2'.AJ (P:=Tryz.prog) 0 rfl 69 9 3 Tryz.underlying69 wZ (o+1) (511-o) (c-(o+1)) ⟨name.toArray⟩ (by rw[iP];omega) (by rw[iP];omega)
  rw[iP,<-hm]at hcp
  refine⟨w2,hcp,?_⟩
  have e3:oL ((dP b o ((List.replicate 32 (0:UInt8)).set 0 (UInt8.ofNat m))).map kT) (o+1) ((abL ⟨name.toArray⟩).map kT)=(dP b o (dP ((List.replicate 32 (0:UInt8)).set 0 (UInt8.ofNat m)) 1 name)).map kT:=by rw[<-AL];congr 1;have:=wY (b:=b) (ys:=(List.replicate 32 (0:UInt8)).set 0 (UInt8.ofNat m)) (zs:=name) (o:=o) (i:=1) (by rw[hlen];omega) EN;exact this
  have hl3:(dP ((List.replicate 32 (0:UInt8)).set 0 (UInt8.ofNat m)) 1 name).length=32:=by rw[fM EN];simp
  have h3':Sep w0 w2 (aI (sV g 512 c) (dP b o (dP ((List.replicate 32 (0:UInt8)).set 0 (UInt8.ofNat m)) 1 name))::zR f q p S a' k:: .box w.heap.size 129 (aN x v)::R):=by rw[bW (hyl _ hl3),<-e3];exact h3
  refine(FC (o:=0) (m:=512) (cap:=c) (i:=o+16) (n:=n) h3' (hyl _ hl3) aD aD aD).mono ?_
  rintro e w3 ⟨rfl,h4⟩
  refine⟨rfl,?_⟩
  rw[GL,wY (by rw[hlen];omega) (by rw[hl3,sM];omega)]at h4
  have h5:Sep w0 w3 (aI (sV g 512 c) (dP b o (zQ name n))::zR f q p S a' k::R):=by unfold zQ;rw[<-hm];exact(Sep.dE [2,0,1] h4 aV bL).drop 1
  refine(yB hR.ok hd4 h5).mono ?_
  rintro e w4 ⟨rfl,h6⟩
  exact⟨rfl,_,hR.ok.put _ hd4 (hyl _ (OV hname)),h6⟩
 have m15:(m:Int)<=15:=by omega
 have m0:(0:Int)<=m:=by omega
 have o1:(o:Int)+32<=512:=by omega
 have o0:(0:Int)<=o:=by omega
 have e32:o+32-o=32:=by omega
 have hsz:(⟨name.toArray⟩:ByteArray).size=m:=by rw[iP,hm]
 clear hC hF hv hi hs hx h h0 hd4 hlen hk hb ho hyl hset hname hm hn;subst hv0;unfold aC at*;unfold fJ aN at*;go_enter Tryz.func179,Tryz.ntmps179;go_wp2_with(first |(go_at_call 172;refine hsp.mono ?_;rintro e w9 ⟨rfl,wM⟩;have hgt2:=hgt.out _ wM;clear wM hsp hgt)|(go_at_call 84;refine hgt2.mono ?_;rintro e w8 ⟨g,c,a',rfl,hc,hC2,w1,hcl,k1,f1,w2,hcp,hw⟩;replace hC2:=Lh hC2;clear hgt2)|(go_at_call 97;refine hw.mono ?_;rintro e w7 ⟨rfl,hp⟩)|(go_at_call 98;refine hp.mono ?_;rintro e w6 ⟨rfl,h6⟩;replace h6:=Lh h6))
 trace_state
 go_end0
 exact⟨rfl,h6.out⟩
end
def gT (c:fZ) (d:Nat) (x:VI) (i:Nat):List UInt8:=zP (bk c (d+x.aB.getD (i/16) 0)) i
abbrev uL :=List (List UInt8×Nat)
def jU (c:fZ) (d:Nat) (x:VI):uL:=(List.range x.size).map fun i=>(enN (gT c d x i),enI (gT c d x i))
structure GX (S:VS) (x:VI):Prop where
 few:x.aB.length<=28
 room:x.size<=16*x.aB.length
 lt:∀s∈x.aB,s<S.count
 len:∀i<x.size,((gT S.cur S.data x i).getD 0 0).toNat<=31
def kG (L:uL) (name:List UInt8):Int×Nat:=
 match L.findIdx? fun e=>e.1==name with
 |some i=>(i,(L.getD i ([],0)).2)
 |none=>(-1,0)
def sQ (L:uL) (i:Nat):List UInt8×Nat:=L.getD i ([],0)
theorem uM {L:uL} {i:Nat} (h:i<L.length):L[i]=sQ L i:=by unfold sQ;rw[gH,gE h];rfl
theorem ao9 {L:uL} {name:List UInt8} {i:Nat} (h1:i<L.length) (h2:(sQ L i).1=name) (h3:∀j<i,(sQ L j).1≠name):kG L name=((i:Int),(sQ L i).2):=by
 unfold kG;have:(L.findIdx? fun e=>e.1==name)=some i:=by rw[aaY];exact⟨h1,by rw[uM];simp[h2],fun j hj=>by rw[uM];simpa using h3 j hj⟩
 rw[this];rfl
theorem apA {L:uL} {name:List UInt8} (h:∀j<L.length,(sQ L j).1≠name):kG L name=(-1,0):=by
 unfold kG;have:(L.findIdx? fun e=>e.1==name)=none:=by rw[aa7];intro e he;obtain⟨j,hj,rfl⟩:=N9 he;rw[uM];simpa using h j hj
 rw[this]
theorem AO (c:fZ) (d:Nat) (x:VI):(jU c d x).length=x.size:=by unfold jU;simp
theorem CR {c:fZ} {d:Nat} {x:VI} {i:Nat} (h:i<x.size):sQ (jU c d x) i=(enN (gT c d x i),enI (gT c d x i)):=by unfold jU sQ;rw[gH,kV,UY h];rfl
theorem GX.spot {S:VS} {x:VI} (h:GX S x) {i:Nat} (hi:i<x.size):∃s,x.aB[i/16]? =some s/\s<S.count/\x.aB.getD (i/16) 0=s:=by
 have h1:i/16<x.aB.length:=by have:=h.room;omega
 refine⟨x.aB[i/16],gE h1,h.lt _ (nT h1),?_⟩;rw[gH,gE h1];rfl
section
variable {w0 w:World} {R:List aZ} {f q p:Nat} {S:VS} {a:VA}
theorem JV {x:VI} {v:Value} {i:Nat} (hC:VC S a) (hF:VF S) (hv:yZ w0 R v x.aB) (hD:GX S x) (hi:i<x.size) (h:Sep w0 w (aF f q p S a::R)):
  Calls Tryz.prog 108 #[pV f,fJ x v,iV i] w fun e w'=>e= .returned (.tuple #[aC (enN (gT S.cur S.data x i)),iV (enI (gT S.cur S.data x i):Nat)])/\∃a',Reads S a a'/\Sep w0 w' (aF f q p S a'::R):=by
 obtain⟨s,h1,h2,h3⟩:=hD.spot hi;have hl:=hD.len i hi;unfold gT at hl ⊢;rw[h3]at hl ⊢;exact ak9 hC hF hv h1 h2 hD.few hl h
theorem abM {x:VI} {v:Value} {name:List UInt8} (hC:VC S a) (hF:VF S) (hv:yZ w0 R v x.aB) (hD:GX S x) (h:Sep w0 w (aF f q p S a::R)):
  Calls Tryz.prog 139 #[pV f,fJ x v,aC name] w fun e w'=>e= .returned (.tuple #[iV (kG (jU S.cur S.data x) name).1,iV ((kG (jU S.cur S.data x) name).2:Nat)])/\∃a',Reads S a a'/\Sep w0 w' (aF f q p S a'::R):=by
 obtain⟨A0,c0,hv0⟩:∃A c,v= .slice A x.aB.length c:=by obtain⟨_,A,c,e,_⟩:=hv w [_] h;exact⟨A,c,e⟩
 have h0:Sep w0 (w.alloc (.cells (aN x v) 129)) (aF f q p S a:: .box w.heap.size 129 (aN x v)::R):=(h.bN _ _).perm (List.Perm.swap _ _ _);obtain⟨bx,hbx⟩:∃bx,bx=w.heap.size:=⟨_,rfl⟩;obtain⟨N,hN⟩:∃N,N=x.size:=⟨_,rfl⟩;have hN5:N<=448:=by have:=hD.room;have:=hD.few;omega
 have N1:(N:Int)<=448:=by omega
 obtain⟨L,hL⟩:∃L,L=jU S.cur S.data x:=⟨_,rfl⟩;have hLn:L.length=N:=by rw[hL,AO,hN]
 have hen:Hid (∀W k a1,k<N->VC S a1->Sep w0 W (aF f q p S a1:: .box bx 129 (aN x v)::R)->Calls Tryz.prog 108 #[pV f,fJ x v,iV (k:Nat)] W fun e w'=>e= .returned (.tuple #[aC (sQ L k).1,iV ((sQ L k).2:Nat)])/\∃a',Reads S a1 a'/\Sep w0 w' (aF f q p S a':: .box bx 129 (aN x v)::R)):=Lh fun W k a1 hk kH hS=>by have:=JV (i:=k) kH hF (hv.cons (A:=.box bx 129 (aN x v))) hD aD hS;rw[hL,CR (by rw[<-hN];exact hk)];exact this
 rw[<-hL];rw[<-hbx]at h0;have hcs:Hid (∀W a1,Sep w0 W (aF f q p S a1:: .box bx 129 (aN x v)::R)->W.cell? ⟨bx,0,none⟩=some (iV (x.kind:Nat))/\W.cell? ⟨bx,1,none⟩=some (iV (x.mode:Nat))/\W.cell? ⟨bx,2,none⟩=some (iV (x.links:Nat))/\W.cell? ⟨bx,3,none⟩=some (iV (N:Nat))/\W.cell? ⟨bx,4,none⟩=some v):=Lh fun W a1 hS=>by(have z:=fun j=>hS.bC 1 rfl j);rw[hN];exact⟨z 0,z 1,z 2,z 3,z 4⟩
 have aCL:=Lh hLn;have hI0:Hid (Reads S a a/\Sep w0 (w.alloc (.cells (aN x v) 129)) (aF f q p S a:: .box bx 129 (aN x v)::R)):=Lh ⟨.refl hC,h0⟩;obtain⟨r,hr⟩:∃r,r=kG L name:=⟨_,rfl⟩;rw[<-hr];have hr':=Lh hr;clear hC hF hD h h0 hv hLn hL hN5 hr;subst hv0;unfold aC at*;unfold fJ aN at*;rw[<-hN]at hcs hI0 hen ⊢;clear hN;go_enter Tryz.func139,Tryz.ntmps139;go_wp2_with fail;try rw[<-hbx]
 clear hbx;go_loopw[13] (fun i wr=>∃k:Nat,k<=N/\i=iV k/\Hid (∀j<k,(sQ L j).1≠name)/\Hid (∃a1,Reads S a a1/\Sep w0 wr (aF f q p S a1:: .box bx 129 #[iV (x.kind:Nat),iV (x.mode:Nat),iV (x.links:Nat),iV (N:Nat),.slice A0 x.aB.length c0]::R))) (fun i _=>N-(intOf i).toNat)
 case atStart=>exact⟨0,gI _,rfl,Lh fun j hj=>by omega,Lh ⟨a,hI0.out.1,hI0.out.2⟩⟩
 obtain⟨k,hk,rfl,hno,hS⟩:=hrel;clear hI0;obtain⟨a1,CS,hS1⟩:=hS.out;clear hS;by_cases hlt:k<N
 ·obtain⟨k0,k1,k2,k3,k4⟩:=hcs.out _ _ hS1;have hc:=hen.out _ k a1 hlt CS.ok hS1;(have q1:(k:Int)<N:=by omega);(have q0:(0:Int)<=k:=by omega);obtain⟨u,hu⟩:∃u,u=(sQ L k).1:=⟨_,rfl⟩;obtain⟨z,hz⟩:∃z,z=(sQ L k).2:=⟨_,rfl⟩;rw[<-hu,<-hz]at hc;have hu':=Lh hu;have hz':=Lh hz;have apB:=Lh CS;clear hS1 CS hu hz;by_cases hname:u=name
  ·(have e1:(u==name)=true:=by simpa using hname);(have e2:(u.toArray==name.toArray)=true:=by rw[hname];simp);have hname':=Lh hname;clear hname;go_wp2_with(go_at_call 108;refine hc.mono ?_;rintro e w9 ⟨rfl,a2,hR2,h9⟩;replace h9:=Lh h9;replace hR2:=Lh hR2)
   go_ret2
   refine⟨?_,a2,apB.out.trans hR2.out,(Sep.dE [1,0] h9.out aV bL).drop 1⟩;rw[hr'.out,ao9 (i:=k) (by rw[aCL.out];exact hlt) (by rw[<-hu'.out];exact hname'.out) hno.out,<-hz'.out];rfl
  (have e1:(u==name)=false:=by simpa using hname);(have e2:(u.toArray==name.toArray)=false:=by simpa using hname);have hname':=Lh hname;clear hname;go_wp2_with(go_at_call 108;refine hc.mono ?_;rintro e w9 ⟨rfl,a2,hR2,h9⟩;replace h9:=Lh h9;replace hR2:=Lh hR2);refine⟨⟨k+1,by omega,rfl,Lh fun j hj=>?_,Lh ⟨a2,apB.out.trans hR2.out,h9.out⟩⟩,by simp[intOf];omega⟩;by_cases e:j=k
  ·rw[e,<-hu'.out];exact hname'.out
  exact hno.out j aD
 obtain rfl:k=N:=by omega
 go_wp2_with fail
 go_ret2
 refine⟨?_,a1,CS,(Sep.dE [1,0] hS1 aV bL).drop 1⟩;rw[hr'.out,apA fun j hj=>hno.out j (by rw[aCL.out]at hj;exact hj)];rfl
end
end Go.Proofs.YtmjomdkleikgbaaGreat
