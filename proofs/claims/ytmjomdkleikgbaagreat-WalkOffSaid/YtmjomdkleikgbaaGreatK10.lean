/- Parts. -/
import Derived.Test.YtmjomdkleikgbaaGreatK9
import Derived.Laws.BytesArg
set_option linter.unusedVariables false
set_option linter.unusedSimpArgs false
set_option maxRecDepth 100000
set_option maxHeartbeats 20000000
namespace Go.Proofs.YtmjomdkleikgbaaGreat
open Go.RowKit
def pQ (c:gI) (d:Nat) (l:List Nat):List UInt8:=l.flatMap fun s=>bk c (d+s)
def fB (c:gI) (d:Nat) (x:VI):List UInt8:=(pQ c d x.aB).take x.size
theorem alZ {c:gI} {d:Nat} {l:List Nat} (h:∀s∈l,(bk c (d+s)).length=512):(pQ c d l).length=512*l.length:=by
 induction l with
 |nil=>rfl
 |cons s l ih=>unfold pQ at ih ⊢;rw[xI,jM,ih fun t ht=>h t (vR _ ht),h s (nH ..),kH];omega
theorem Rd.aDA {w:World} {A:Option Addr} {n c m:Nat} {cs:List Value} (h:Rd w 1 (.slice A n c) n cs) (hm:m<=n):Rd w 1 (.slice A m c) m (cs.take m):=by
 obtain⟨h0,A',c',e,h1,h2,h3⟩:=h;cases e;refine⟨by rw[qP];omega,_,_,rfl,by omega,h2,fun hn=>?_⟩;obtain⟨ad,e,hb,hc⟩:=h3 aD;refine⟨ad,e,hb,fun j u hj=>?_⟩;rw[vV]at hj;split at hj
 ·exact hc j u hj
 cases hj
section
variable {w0 w:World} {R:List aW} {f q p:Nat} {S:VS} {a:VA}
theorem Z56 {P:Prop} (h:P:=by cases e;unfold eB at h1;rw[lC,lC,hsk]at h1;cases h1;exact⟨ad,rfl,h2⟩):P:=h
theorem ME {n:Nat} (hC:VC S a) (hF:VF S) (hn:n<S.names) (hok:(aH S.cur n).aB.length<=28) (hsp:∀s∈(aH S.cur n).aB,s<S.count) (hsz:(aH S.cur n).size<=512*(aH S.cur n).aB.length) (h:Sep w0 w (aF f q p S a::R)):
  Calls Tryz.prog 128 #[pV f,iV n] w fun e w'=>∃v a',e= .returned v/\Reads S a a'/\Sep w0 w' (aI v (fB S.cur S.data (aH S.cur n))::aF f q p S a'::R):=by
 have hin:=jQ hC hF hn hok h;obtain⟨x,hx⟩:∃x,x=aH S.cur n:=⟨_,rfl⟩;rw[<-hx]at hin hok hsp hsz ⊢;obtain⟨k0,pR,hk0,hk1,hk2⟩:=iR mE;have hC':=Lh hC;have hF':=Lh hF;have al0:=Lh hsp;have hok':=Lh hok;have hsz':=Lh hsz;clear hC hF hn hok hsp hsz h hx;unfold fM at hin;go_enter Tryz.func128,Tryz.ntmps128;go_wp2_with(first |(go_at_call 72;refine hin.mono ?_;rintro e w9 ⟨v,a1,rfl,hR,h9⟩;obtain⟨A9,c9,e9⟩:=h9.dV 0 rfl;subst e9;have hs:=h9.bN 129 (aN x (.slice A9 (eB x.aB).length c9));have c3:=hs.bC 0 rfl 3;have c4:=hs.bC 0 rfl 4;replace hs:=Lh hs;replace hR:=Lh hR;clear h9 hin;unfold aN at c3 c4 ⊢;simp only[gA,gB,gC]at c3 c4));obtain⟨L,hL⟩:∃L,L=x.aB.length:=⟨_,rfl⟩;have hll:(eB x.aB).length=L:=by unfold eB;rw[iJ];exact hL.symm
 have L28:(L:Int)<=28:=by have:=hok'.out;omega
 have hS0:Hid (∃a',Reads S a a'/\Sep w0 (w9.alloc (.cells (aN x (.slice A9 (eB x.aB).length c9)) 129)) (aI (.slice none 0 0) (pQ S.cur S.data (x.aB.take 0))::aF f q p S a':: .box w9.heap.size 129 (aN x (.slice A9 (eB x.aB).length c9))::aS (.slice A9 (eB x.aB).length c9) (eB x.aB)::R)):=Lh ⟨a1,hR.out,by have h1:=hs.out.gZ 5 1;exact Sep.dB [0,3,1,2] h1 aR bK⟩;have hL':=Lh hL;have av0:=Lh hll;rw[hll];rw[hll]at c4 hS0;clear hs hR hL c3 c4;go_loopw[6,15] (fun b i wr=>∃k:Nat,k<=L/\i=iV k/\Hid (∃a',Reads S a a'/\Sep w0 wr (aI b (pQ S.cur S.data (x.aB.take k))::aF f q p S a':: .box w9.heap.size 129 (aN x (.slice A9 L c9))::aS (.slice A9 L c9) (eB x.aB)::R))) (fun _ i _=>L-(intOf i).toNat)
 case atStart=>exact⟨0,fZ _,rfl,hS0⟩
 obtain⟨k,hk,rfl,hS⟩:=hrel;clear hS0;obtain⟨a2,hR2,hS2⟩:=hS.out;have hfl:(pQ S.cur S.data (x.aB.take k)).length=512*k:=by rw[alZ fun s hs=>jW hC'.out.cur (by have:=al0.out s (AJ hs);unfold VS.count at this;omega),qP];rw[yN (by rw[<-hL'.out];exact hk)]
 obtain⟨Au,cu,eu⟩:=hS2.dV 0 rfl;rw[hfl]at eu;subst eu;by_cases hlt:k<L
 ·(have hlx:k<x.aB.length:=by rw[<-hL'.out];exact hlt);obtain⟨s,hs⟩:∃s,s=x.aB[k]:=⟨_,rfl⟩;(have hsk:x.aB[k]? =some s:=by rw[gE hlx,hs]);(have hsc:s<S.count:=by rw[hs];exact al0.out _ (nW hlx));(have hcj:∃ad,A9=some ad/\wr.cell? (ad.add k)=some (iV (s:Nat)):=by obtain⟨ad,c8,u9,e,h1,h2⟩:=Rd.at_ (hS2.rd 3 rfl) (k:=k) (by rw[av0.out];exact hlt);exact Z56);obtain⟨ad,rfl,hcj⟩:=hcj;have hV:Sep w0 wr.drew (aF f q p S a2::aI (.slice Au (512*k) cu) (pQ S.cur S.data (x.aB.take k)):: .box w9.heap.size 129 (aN x (.slice (some ad) L c9))::aS (.slice (some ad) L c9) (eB x.aB)::R):=(hS2.perm (List.Perm.swap _ _ _)).drew;have NA:=BA hR2.ok hF'.out hV.fO.c3;(have hbound:S.data+s<S.nb-96:=by unfold VS.count at hsc;omega);have hpk:=PD hR2.ok hbound hV;have hlen:=jW hC'.out.cur hbound;(have hd4:(S.data+s:Nat)<=4096:=by have:=hC'.out.nV.few;omega);obtain⟨d,hd⟩:∃d,d=S.data:=⟨_,rfl⟩;rw[<-hd]at NA hd4;rw[<-hd,show((d+s:Nat):Int)=(d:Int)+s by omega]at hpk;(have e9:pQ S.cur S.data (x.aB.take (k+1))=pQ S.cur S.data (x.aB.take k)++bk S.cur (d+s):=by unfold pQ;rw[pI,hsk,Y3,hd];simp);rw[<-hd]at hlen;(have q1:(k:Int)<L:=by omega);(have q0:(0:Int)<=k:=by omega);have q3:IntKind.i64.wrap ((d:Int)+s)=d+s:=IntWalk.i64_in _ aD;have hd':=Lh hd;have e9':=Lh e9;have hlen':=Lh hlen;have al1:=Lh hfl;have al2:=Lh hR2;replace NA:=Lh NA;replace hpk:=Lh hpk;clear hV hS hS2 hs hsk hsc hbound hd4 hd e9 hlen hfl hR2 hlx;go_wp2_with fail;refine aP (S:=fun _=>True) 13 ?_;refine aA 0 trivial ?_;refine aA 1 trivial ?_;refine aA 2 trivial ?_;refine aA 3 trivial ?_;refine aA 4 trivial ?_;refine aA 5 trivial ?_;refine aA 6 trivial ?_;refine aA 8 trivial ?_;(refine bI 7 fun K hK=>?_);go_simp;go_at_call 142;refine NA.out.mono ?_;rintro e w8 ⟨rfl,h8⟩;obtain rfl:=h8.symm;dsimp only;refine hK _ _ (fun _=>trivial) ?_;clear hK K;(try simp only[Act.put,gD]);refine bA 9 (fun _=>trivial) ?_;(refine bI 10 fun K hK=>?_);go_simp;go_at_call 144;refine hpk.out.mono ?_;rintro e w7 ⟨v7,a3,rfl,hR3,hP3,h7⟩;have hrd:=Lh (h7.NR hP3 hR3.ok.none);have hY:Hid (Sep w0 w7 (.sl 5 1 (.slice Au (512*k) cu) (512*k) ((pQ S.cur S.data (x.aB.take k)).map kY)::aF f q p S a3:: .box w9.heap.size 129 (aN x (.slice (some ad) L c9))::aS (.slice (some ad) L c9) (eB x.aB)::R)):=Lh (by rw[<-bV al1.out,<-hd'.out];exact h7.perm (List.Perm.swap _ _ _));have hR4:=Lh (al2.out.trans hR3);clear hP3 h7 hR3;dsimp only;refine hK _ _ (fun _=>trivial) ?_;clear hK K;(try simp only[Act.put,gD]);(refine bI 11 fun K hK=>?_);refine jH 0 EL _ _ 69 EL 5 k0 (.int .u8 0) 1 1 Tryz.underlying69 pR hk0 hk1 hk2 rfl aR hY.out (.slice Au (512*k) cu) (512*k) _ EL EL v7 512 ((bk S.cur (d+s)).map kY) EL (by have h1:=hrd.out;unfold BytesAt at h1;rw[hd'.out]at*;rw[hlen'.out]at h1;exact h1) rT vX aD ?_;intro v4 w4 jT hz4;replace jT:=Lh jT;clear hY hrd;refine hK _ _ (fun _=>trivial) ?_;clear hK K;(try simp only[Act.put,gD]);refine bA 12 (fun _=>trivial) ?_;refine aQ fE ?_ _;go_wp2_with fail;refine⟨⟨k+1,by omega,rfl,Lh ⟨a3,hR4.out,?_⟩⟩,by simp[intOf];omega⟩;rw[e9'.out,bV (n:=512*k+512) (by rw[jM,al1.out,hlen'.out]),mZ];exact jT.out
 obtain rfl:k=L:=by omega
 have e1:x.aB.take k=x.aB:=pM (by rw[hL'.out];exact iC _);rw[e1]at hS2 hfl;have av2:=hS2.rd 0 rfl;rw[show(pQ S.cur S.data x.aB).length=512*k from hfl]at av2;have hz:x.size<=512*k:=by have:=hsz'.out;rw[<-hL'.out]at this;exact this
 have hcu:x.size<=cu:=by obtain⟨_,A,c,e,h1,_⟩:=id av2;cases e;omega
 have aIS:=Lh (Rd.aDA av2 hz);have c3:=hS2.bC 2 rfl 3;unfold aN at c3;simp only[gA,gB,gC]at c3;have hN:=Lh (hS2.gZ 5 1);have al2:=Lh hR2;have z1:(x.size:Int)<=cu:=by omega
 have z0:(0:Int)<=x.size:=by omega
 have zs:x.size<=14336:=by omega
 have hzs:=Lh zs;have al1:=Lh hfl;have hz':=Lh hz;clear hS hS2 av2 hR2 e1 hfl hz zs;go_wp2_with(at_builtin;refine dI 0 rfl _ _ 69 rfl 5 k0 (.int .u8 0) 1 1 Tryz.underlying69 pR hk0 hk1 hk2 rfl aR hN.out _ 0 [] rfl rfl (.slice Au x.size cu) x.size _ rfl aIS.out (fun u hu=>rT u (AJ hu)) (by have:=hzs.out;unfold maxLen;omega) (by have:=hzs.out;omega) ?_;intro v3 w3 dQ hz3;replace dQ:=Lh dQ);go_ret;refine⟨_,a2,rfl,al2.out,?_⟩;have hl:(fB S.cur S.data x).length=x.size:=by unfold fB;rw[qP,al1.out];exact yN hz'.out
 rw[bV hl];have h5:=dQ.out;simp only[GU,GZ,mI]at h5;have e2:(fB S.cur S.data x).map kY=((pQ S.cur S.data x.aB).map kY).take x.size:=by unfold fB;rw[ab7]
 rw[e2];exact(Sep.dB [1,3,4,0,2] h5 aR bK).drop 3
theorem acA {x:VI} {v:Value} {i s:Nat} (hC:VC S a) (hF:VF S) (hv:zN w0 R v x.aB) (hi:x.aB[i/16]? =some s) (hs:s<S.count) (hx:x.aB.length<=28) (h:Sep w0 w (aF f q p S a::R)):
  Calls Tryz.prog 172 #[pV f,fM x v,iV i] w fun e w'=>e= .returned (.tuple #[iV (S.data+s:Nat),iV (i%16*32:Nat)])/\Below w.heap.size w w':=by
 have hlt:=(gF.1 hi).1;obtain⟨A,c,hv0,ad,hA,hcell⟩:∃A c,v= .slice A x.aB.length c/\∃ad,A=some ad/\∀W,Below w.heap.size w W->W.cell? (ad.add (i/16))=some (iV (s:Nat)):=by obtain⟨ad,c,u,e,h1,_⟩:=Rd.at_ (hv w [_] h) (k:=i/16) hlt;refine⟨_,c,e,ad,rfl,fun W hW=>?_⟩;obtain⟨ad2,c2,u2,e2,h3,h4⟩:=Rd.at_ (hv W [_] (h.pure hW)) (k:=i/16) hlt;rw[e]at e2;cases e2;unfold eB at h3;rw[lC,lC,hi]at h3;cases h3;exact h4
 subst hv0 hA;have hS1:Sep w0 (w.alloc (.cells (aN x (.slice (some ad) x.aB.length c)) 129)) (aF f q p S a:: .box w.heap.size 129 (aN x (.slice (some ad) x.aB.length c))::R):=(h.bN _ _).perm (List.Perm.swap _ _ _);have hb:Below w.heap.size w (w.alloc (.cells (aN x (.slice (some ad) x.aB.length c)) 129)):=(Below.refl _ _).alloc (iC _) _;have NA:=fun n=>BA hC hF (hS1.drewN n).fO.c3
 have hc0:=hcell _ hb;have c4:=hS1.bC 1 rfl 4;have hd4:S.data+s<=4096:=by have:=hC.nV.few;have:=hF.room;unfold VS.count at hs;omega
 obtain⟨d,hd⟩:∃d,d=S.data:=⟨_,rfl⟩;obtain⟨j,hj⟩:∃j,j=i/16:=⟨_,rfl⟩;obtain⟨m,hm⟩:∃m,m=i%16:=⟨_,rfl⟩;obtain⟨L,hL⟩:∃L,L=x.aB.length:=⟨_,rfl⟩;have hjl:j<L:=by rw[hj,hL];exact hlt
 rw[<-hd]at NA hd4 ⊢;rw[<-hj]at hc0;rw[<-hm];unfold fM aN at*;rw[<-hL]at hc0 c4 hb NA ⊢;simp only[gA,gB,gC]at c4;have q0:(0:Int)<=i:=by omega
 have t1:(i:Int).tdiv 16=j:=by rw[abK q0];omega
 have t2:(i:Int).tmod 16=m:=by rw[apV q0];omega
 have q1:(0:Int)<=j:=by omega
 have q2:(j:Int)<L:=by omega
 have q3:(m:Int)<16:=by omega
 have q4:(0:Int)<=m:=by omega
 have w1:IntKind.i64.wrap (j:Int)=j:=IntWalk.i64_in _ aD;have w2:IntKind.i64.wrap ((d:Int)+s)=d+s:=IntWalk.i64_in _ aD;have w3:IntKind.i64.wrap ((m:Int)*32)=m*32:=IntWalk.i64_in _ aD;have hb':=Lh hb;have al3:=Lh NA;rw[show((d+s:Nat):Int)=(d:Int)+s by omega,show((m*32:Nat):Int)=(m:Int)*32 by omega];clear hC hF hv hi hs hx h hcell hS1 hb NA hd4 hd hj hm hL hlt hjl;go_enter Tryz.func172,Tryz.ntmps172;go_wp2_with fail;go_quiet ((go_at_call 142;exact Calls.quiet_of_same (al3.out _)));go_wp2_with fail
 go_ret2
 exact⟨rfl,(((Sep.nil w).alloc _).drewN nq).below⟩
end
end Go.Proofs.YtmjomdkleikgbaaGreat
namespace Go.Proofs.YtmjomdkleikgbaaGreat
def aC (p:List UInt8):Value:=.string ⟨p.toArray⟩
theorem iN (p:List UInt8):(⟨p.toArray⟩:ByteArray).size=p.length:=rfl
theorem uC (p:List UInt8):(⟨p.toArray⟩:ByteArray).data.toList=p:=rfl
open Go.RowKit
theorem gX {w:World} {u:Value} {bs:List UInt8} (h:BytesAt w u bs):(convert 69 9 u).run Tryz.prog w= .ok (aC bs) w:=by
 obtain⟨hl,A,c,rfl,h1,h2,h3⟩:=h;have e0:strOfNums (bs.map fun b=>(b.toNat:Int))=⟨bs.toArray⟩:=by
  unfold strOfNums;congr 2;rw[qO]
  conv=>rhs;rw[<-List.map_id bs]
  (refine uO fun b _=>?_);simp[Function.comp]
 cases A with
 |none=>
  have h0:bs.length=0:=by
   rcases yL bs.length with h0|h0
   ·exact h0
   obtain⟨ad,e,_⟩:=h3 h0;cases e
  have:bs=[]:=vS h0;subst this;exact run_convert_bytes_nil (P:=Tryz.prog) w 69 5 Tryz.underlying69 Tryz.underlying5 0 c 9 Tryz.underlying9
 |some a=>(have hcell:∀j v,(bs.map kY)[j]? =some v->w.cell? (a.add j)=some v:=fun j v hj=>by have hlt:=(gF.1 hj).1;rw[iJ]at hlt;obtain⟨ad,e,_,hc⟩:=h3 aD;cases e;exact hc j v hj);have h4:=run_loadCells_list (P:=Tryz.prog) w a (bs.map kY) hcell;(have e:bs.map kY=(bs.map fun b=>(b.toNat:Int)).map (Value.int .u8):=by rw[qO];rfl);rw[iJ,e]at h4;unfold aC;rw[<-e0,run_convert_bytes_string w 69 9 5 _ bs.length c Tryz.underlying69 Tryz.underlying5 Tryz.underlying9,run_bytesToString w a bs.length c _ h4,foldl_push_bytes];simp[strOfNums,ByteArray.empty,ByteArray.emptyWithCapacity];rfl
def AL (b:List UInt8) (i:Nat):List UInt8:=(b.drop (i%16*32)).take 32
def enN (e:List UInt8):List UInt8:=(e.drop 1).take (e.getD 0 0).toNat
def enI (e:List UInt8):Nat:=r2 e 16
theorem PE {α:Type} (l:List α) (a k n m:Nat) (h:k+n<=m):(((l.drop a).take m).drop k).take n=(l.drop (a+k)).take n:=by rw[List.drop_take,List.take_take,L6,yN aD]
theorem uQ (l:List UInt8) (a m k:Nat) (h:k<m):((l.drop a).take m).getD k 0=l.getD (a+k) 0:=by rw[gH,gH,vV,if_pos h,AV]
theorem Y6 (l:List UInt8) (a m k:Nat) (h:k+1<m):r2 ((l.drop a).take m) k=r2 l (a+k):=by unfold r2;rw[uQ _ _ _ _ aD,uQ _ _ _ _ h];rfl
theorem zN.cons {w0:World} {R:List aW} {A:aW} {v:Value} {l:List Nat} (h:zN w0 R v l):zN w0 (A::R) v l:=fun w' X hS=>h w' (X++[A]) (by simpa using hS)
section
variable {w0 w:World} {R:List aW} {f q p:Nat} {S:VS} {a:VA}
theorem al4 {x:VI} {v:Value} {i s:Nat} (hC:VC S a) (hF:VF S) (hv:zN w0 R v x.aB) (hi:x.aB[i/16]? =some s) (hs:s<S.count) (hx:x.aB.length<=28) (hl:((AL (bk S.cur (S.data+s)) i).getD 0 0).toNat<=31) (h:Sep w0 w (aF f q p S a::R)):
  Calls Tryz.prog 108 #[pV f,fM x v,iV i] w fun e w'=>e= .returned (.tuple #[aC (enN (AL (bk S.cur (S.data+s)) i)),.int .i64 (enI (AL (bk S.cur (S.data+s)) i):Nat)])/\∃a',Reads S a a'/\Sep w0 w' (aF f q p S a'::R):=by
 have hd4:S.data+s<S.nb-96:=by unfold VS.count at hs;omega
 have hlen:=jW hC.cur hd4;obtain⟨k,hk⟩:∃k,k=S.data+s:=⟨_,rfl⟩;obtain⟨b,hb⟩:∃b,b=bk S.cur k:=⟨_,rfl⟩;obtain⟨o,ho⟩:∃o,o=i%16*32:=⟨_,rfl⟩;have ho4:o+32<=512:=by omega
 rw[<-hk]at hl hd4 hlen ⊢;rw[<-hb]at hl hlen ⊢;have k4:k<=4096:=by have:=hC.nV.few;omega
 obtain⟨A0,c0,hv0⟩:∃A c,v= .slice A x.aB.length c:=by obtain⟨_,A,c,e,_⟩:=hv w [_] h;exact⟨A,c,e⟩
 have h0:Sep w0 (w.alloc (.cells (aN x v) 129)) (aF f q p S a:: .box w.heap.size 129 (aN x v)::R):=(h.bN _ _).perm (List.Perm.swap _ _ _);have hsp:=acA hC hF (hv.cons (A:=.box w.heap.size 129 (aN x v))) hi hs hx h0;rw[<-hk,<-ho]at hsp;have hpk:Hid (∀W,Below (w.alloc (.cells (aN x v) 129)).heap.size (w.alloc (.cells (aN x v) 129)) W->Calls Tryz.prog 144 #[pV f,iV k] W fun e w'=>∃u a',e= .returned u/\Reads S a a'/\BytesAt w' u b/\Sep w0 w' (aF f q p S a'::R)):=Lh fun W hW=>by refine(PD hC hd4 (h0.pure hW)).mono ?_;rintro e w' ⟨u,a',rfl,hR,hP,h9⟩;refine⟨u,a',rfl,hR,by rw[hb];exact h9.NR hP hR.ok.none,?_⟩;exact(Sep.dB [1,0] h9 aR bK).drop 1
 have e0:((AL b i).getD 0 0).toNat=(b.getD o 0).toNat:=by unfold AL;rw[uQ _ _ _ _ aD,<-ho,sF]
 obtain⟨z,hz⟩:∃z,z=(b.getD o 0).toNat:=⟨_,rfl⟩;have e1:enN (AL b i)=(b.drop (o+1)).take z:=by unfold enN;rw[e0,<-hz];unfold AL;rw[<-ho];exact PE _ _ _ _ _ (by rw[e0]at hl;omega)
 have e2:enI (AL b i)=r2 b (o+16):=by unfold enI AL;rw[<-ho];exact Y6 _ _ _ _ aD
 rw[e1,e2];rw[e0,<-hz]at hl;have z31:(z:Int)<=31:=by omega
 have z0:(0:Int)<=z:=by omega
 have ez:o+1+z-(o+1)=z:=by omega
 have r1:IntKind.i64.wrap (o:Int)=o:=IntWalk.i64_in _ aD;have r2':IntKind.i64.wrap ((o:Int)+1)=o+1:=IntWalk.i64_in _ aD;have r3:IntKind.i64.wrap (z:Int)=z:=IntWalk.i64_in _ aD;have r4:IntKind.i64.wrap ((o:Int)+1+z)=o+1+z:=IntWalk.i64_in _ aD;have r5:IntKind.i64.wrap ((o:Int)+16)=o+16:=IntWalk.i64_in _ aD;have o5:(o:Int)<512:=by omega
 have o1:(o:Int)+32<=512:=by omega
 have o0:(0:Int)<=o:=by omega
 have k0:(k:Int)<=4096:=by omega
 have hb':=Lh (show(∃bb:Nat,bb=0)from⟨0,rfl⟩);have hbz:Hid (∀W u,BytesAt W u b->∃ad c,u= .slice (some ad) 512 c/\512<=c/\W.cell? (ad.add o)=some (.int .u8 (z:Nat))/\(convert 69 9 (.slice (some {block:=ad.block,off:=ad.off+(o+1)}) z (c-(o+1)))).run Tryz.prog W= .ok (aC ((b.drop (o+1)).take z)) W/\∀n,(W.drewN n).cell? (ad.add o)=some (.int .u8 (z:Nat))/\(convert 69 9 (.slice (some {block:=ad.block,off:=ad.off+(o+1)}) z (c-(o+1)))).run Tryz.prog (W.drewN n)= .ok (aC ((b.drop (o+1)).take z)) (W.drewN n)/\Calls Tryz.prog 85 #[u,iV (o+16:Nat)] (W.drewN n) fun e w'=>e= .returned (iV (r2 b (o+16)))/\∃m,w'=(W.drewN n).drewN m):=Lh fun W u hB=>by
  (obtain⟨A,c,e⟩:∃A c,u= .slice A 512 c:=by obtain⟨_,A,c,e,_⟩:=hB;rw[hlen]at e;exact⟨A,c,e⟩);subst e;(have hc:512<=c:=by obtain⟨_,A,c',e,h1,_⟩:=hB;rw[hlen]at e h1;cases e;exact h1);obtain⟨ad,rfl,hcell⟩:=hB.byte (j:=o) aD;rw[<-hz]at hcell;(have ead:ad.add (o+1)= {block:=ad.block,off:=ad.off+(o+1)}:=by simp[Addr.add]);refine⟨ad,c,rfl,hc,hcell,by rw[<-ead];exact gX (hB.sub (o:=o+1) (m:=z) aD),fun n=>⟨hcell,?_,?_⟩⟩
  ·have hB2:BytesAt (W.drewN n) (.slice (some ad) 512 c) b:=hB.below ⟨rfl,rfl,rfl,iC _,fun _ _=>rfl⟩;rw[<-ead];exact gX (hB2.sub (o:=o+1) (m:=z) aD)
  have hB2:BytesAt (W.drewN n) (.slice (some ad) 512 c) b:=hB.below ⟨rfl,rfl,rfl,iC _,fun _ _=>rfl⟩;exact V7 hB2 aD aD
 have hz':=Lh hz;have s1:((o:Int)+1).toNat=o+1:=by omega
 have s2:((o:Int)+1+z).toNat=o+1+z:=by omega
 have s3:(0:Int)<=(o:Int)+1:=by omega
 have s4:(o:Int)+1<=(o:Int)+1+z:=by omega
 have s5:(o:Int)+1+z<=512:=by omega
 have s6:(0:Int)<=(o:Int)+1+z:=by omega
 clear hC hF hv hi hs hx hl h h0 hd4 hlen hk hb ho e0 e1 e2 hb' hz;subst hv0;unfold fM aN at*;go_enter Tryz.func108,Tryz.ntmps108;go_wp2_with(first |(go_at_call 172;refine hsp.mono ?_;rintro e w9 ⟨rfl,xL⟩;have ap0:=hpk.out _ xL;clear xL hsp hpk)|(go_at_call 144;refine ap0.mono ?_;rintro e w8 ⟨u,a',rfl,hR,hB,h8⟩;obtain⟨ad,c,e9,hc,hc1,hcv,hq⟩:=hbz.out _ _ hB;(have hcn:=fun n=>(hq n).2.1);(have s7:(o:Int)+1+z<=c:=by omega);(have s8:¬c=o+1:=by omega);subst e9;replace hq:=Lh hq;replace hR:=Lh hR;replace h8:=Lh h8;clear hB hbz ap0));go_quiet ((go_at_call 85;exact Calls.quiet_of (hq.out _).2.2));go_wp2_with fail
 go_ret2
 exact⟨rfl,a',hR.out,h8.out.drewN _⟩
end
def AO (name:List UInt8) (n:Nat):List UInt8:=dR (dR ((List.replicate 32 (0:UInt8)).set 0 (UInt8.ofNat name.length)) 1 name) 16 (w2 n)
theorem PG {name:List UInt8} {n:Nat} (h:name.length<=15):(AO name n).length=32:=by
 unfold AO;have h1:(dR ((List.replicate 32 (0:UInt8)).set 0 (UInt8.ofNat name.length)) 1 name).length=32:=by
  rw[fP]
  ·simp
  simp;omega
 rw[fP (by rw[h1,sQ];omega),h1]
def VS.iD (S:VS) (s i:Nat) (name:List UInt8) (n:Nat):VS:=S.put (S.data+s) (dR (bk S.cur (S.data+s)) (i%16*32) (AO name n))
section
variable {w0 w:World} {R:List aW} {f q p:Nat} {S:VS} {a:VA}
theorem Y7 {x:VI} {v:Value} {i s n:Nat} {name:List UInt8} (hC:VC S a) (hF:VF S) (hv:zN w0 R v x.aB) (hi:x.aB[i/16]? =some s) (hs:s<S.count) (hx:x.aB.length<=28) (hname:name.length<=15) (hn:n<=65535) (h:Sep w0 w (aF f q p S a::R)):
  Calls Tryz.prog 179 #[pV f,fM x v,iV i,aC name,iV n] w fun e w'=>e= .returned (.tuple #[])/\∃a',VC (S.iD s i name n) a'/\Sep w0 w' (aF f q p (S.iD s i name n) a'::R):=by
 have hd4:S.data+s<S.nb-96:=by unfold VS.count at hs;omega
 have hlen:=jW hC.cur hd4;obtain⟨k,hk⟩:∃k,k=S.data+s:=⟨_,rfl⟩;obtain⟨b,hb⟩:∃b,b=bk S.cur k:=⟨_,rfl⟩;obtain⟨o,ho⟩:∃o,o=i%16*32:=⟨_,rfl⟩;have ho4:o+32<=512:=by omega
 have hset:S.iD s i name n=S.put k (dR b o (AO name n)):=by unfold VS.iD;rw[hb,hk,ho]
 rw[hset];rw[<-hk]at hd4 hlen;rw[<-hb]at hlen;have k4:k<=4096:=by have:=hC.nV.few;omega
 obtain⟨A0,c0,hv0⟩:∃A c,v= .slice A x.aB.length c:=by obtain⟨_,A,c,e,_⟩:=hv w [_] h;exact⟨A,c,e⟩
 have h0:Sep w0 (w.alloc (.cells (aN x v) 129)) (aF f q p S a:: .box w.heap.size 129 (aN x v)::R):=(h.bN _ _).perm (List.Perm.swap _ _ _);have hsp:=acA hC hF (hv.cons (A:=.box w.heap.size 129 (aN x v))) hi hs hx h0;rw[<-hk,<-ho]at hsp;obtain⟨m,hm⟩:∃m,m=name.length:=⟨_,rfl⟩;have hyl:∀ys:List UInt8,ys.length=32->(dR b o ys).length=512:=fun ys hy=>by rw[fP (by rw[hlen,hy];omega)];exact hlen
 have hgt:Hid (∀W,Below (w.alloc (.cells (aN x v) 129)).heap.size (w.alloc (.cells (aN x v) 129)) W->Calls Tryz.prog 84 #[pV f,iV k] W fun e w'=>∃g c a',e= .returned (sV g 512 c)/\512<=c/\VC S a'/\
   ∃w1,(Builtin.clear_ #[69] 0 #[.slice (some ⟨g,o,none⟩) 32 (c-o)]).run Tryz.prog w'= .ok (.tuple #[]) w1/\w1.cell? ⟨g,o,none⟩=some (.int .u8 0)/\w1.frozen? ⟨g,o,none⟩=false/\
   ∃w2,(Builtin.copy_ #[69,9] 3 #[.slice (some ⟨g,o+1,none⟩) (511-o) (c-(o+1)),aC name]).run Tryz.prog (w1.setCell ⟨g,o,none⟩ (.int .u8 ((m:Nat):Int)))= .ok (goInt (m:Nat)) w2/\
   Calls Tryz.prog 97 #[sV g 512 c,iV (o+16:Nat),iV n] w2 fun e w3=>e= .returned (.tuple #[])/\
    Calls Tryz.prog 98 #[pV f,iV k,sV g 512 c] w3 fun e w4=>e= .returned (.tuple #[])/\∃a',VC (S.put k (dR b o (AO name n))) a'/\Sep w0 w4 (aF f q p (S.put k (dR b o (AO name n))) a'::R)):=Lh fun W hW=>by
  refine(NS hC hd4 (h0.pure hW)).mono ?_
  rintro e w' ⟨u,a',rfl,hR,hG⟩
  obtain⟨g,c,rfl,hc,hS⟩:=hG.out.G9 (by rw[<-hb];exact hlen)
  rw[<-hb]at hS
  refine⟨g,c,a',rfl,hc.1,hR.ok,?_⟩
  obtain⟨w1,hcl,h1,_⟩:=hS.V8 (P:=Tryz.prog) 0 rfl 69 0 (.int .u8 0) Tryz.underlying69 (fun w=>by kernel_rfl) EL EL o 32 (c-o) aD
  have e1:(dR b o (List.replicate 32 0)).map kY=oM (b.map kY) o (List.replicate 32 (.int .u8 0)):=by exact Z53
  have h1':Sep w0 w1 (.sl 5 1 (sV g 512 c) 512 ((dR b o (List.replicate 32 0)).map kY)::AP f q p S a' k:: .box w.heap.size 129 (aN x v)::R):=by rw[e1];exact h1
  have hc1:=h1'.xM (R:=[]) 0 rfl (hyl _ bK) o aD
  have hz:((dR b o (List.replicate 32 0)).getD o 0).toNat=0:=by rw[gH,uR (by rw[hlen,FL];omega),if_pos ⟨by omega,by rw[FL];omega⟩,FP];rfl
  rw[hz]at hc1
  refine⟨w1,hcl,hc1,h1'.frozenAt 0 rfl _,?_⟩
  have h2:=h1'.stored 0 rfl o (.int .u8 ((m:Nat):Int))
  have e2:((dR b o (List.replicate 32 0)).map kY).set o (.int .u8 ((m:Nat):Int))=(dR b o ((List.replicate 32 (0:UInt8)).set 0 (UInt8.ofNat m))).map kY:=by(have e:dR b o ((List.replicate 32 (0:UInt8)).set 0 (UInt8.ofNat m))=(dR b o (List.replicate 32 0)).set o (UInt8.ofNat m):=by rw[HV (b:=dR b o (List.replicate 32 0)) (by rw[hyl _ bK];omega),HV (b:=List.replicate 32 0) bK];have:=xN (b:=b) (ys:=List.replicate 32 0) (zs:=[UInt8.ofNat m]) (o:=o) (i:=0) (by rw[hlen];omega) bK;rw[<-this,sF]);rw[e,O5,PH,Int.emod_eq_of_lt aD aD]
  have h2':Sep w0 (w1.setCell ⟨g,o,none⟩ (.int .u8 ((m:Nat):Int))) (.sl 5 1 (sV g 512 c) 512 ((dR b o ((List.replicate 32 (0:UInt8)).set 0 (UInt8.ofNat m))).map kY)::AP f q p S a' k:: .box w.heap.size 129 (aN x v)::R):=by rw[<-e2];exact h2
  obtain⟨w2,hcp,h3,_⟩:=h2'.BB (P:=Tryz.prog) 0 rfl 69 9 3 Tryz.underlying69 xO (o+1) (511-o) (c-(o+1)) ⟨name.toArray⟩ (by rw[iN];omega) (by rw[iN];omega)
  rw[iN,<-hm]at hcp
  refine⟨w2,hcp,?_⟩
  have e3:oM ((dR b o ((List.replicate 32 (0:UInt8)).set 0 (UInt8.ofNat m))).map kY) (o+1) ((acB ⟨name.toArray⟩).map kY)=(dR b o (dR ((List.replicate 32 (0:UInt8)).set 0 (UInt8.ofNat m)) 1 name)).map kY:=by rw[<-BC];congr 1;have:=xN (b:=b) (ys:=(List.replicate 32 (0:UInt8)).set 0 (UInt8.ofNat m)) (zs:=name) (o:=o) (i:=1) (by rw[hlen];omega) E8;exact this
  have hl3:(dR ((List.replicate 32 (0:UInt8)).set 0 (UInt8.ofNat m)) 1 name).length=32:=by rw[fP E8];simp
  have h3':Sep w0 w2 (aI (sV g 512 c) (dR b o (dR ((List.replicate 32 (0:UInt8)).set 0 (UInt8.ofNat m)) 1 name))::AP f q p S a' k:: .box w.heap.size 129 (aN x v)::R):=by rw[bV (hyl _ hl3),<-e3];exact h3
  refine(FQ (o:=0) (m:=512) (cap:=c) (i:=o+16) (n:=n) h3' (hyl _ hl3) aD aD aD).mono ?_
  rintro e w3 ⟨rfl,h4⟩
  refine⟨rfl,?_⟩
  rw[GZ,xN (by rw[hlen];omega) (by rw[hl3,sQ];omega)]at h4
  have h5:Sep w0 w3 (aI (sV g 512 c) (dR b o (AO name n))::AP f q p S a' k::R):=by unfold AO;rw[<-hm];exact(Sep.dB [2,0,1] h4 aR bK).drop 1
  refine(yP hR.ok hd4 h5).mono ?_
  rintro e w4 ⟨rfl,h6⟩
  exact⟨rfl,_,hR.ok.put _ hd4 (hyl _ (PG hname)),h6⟩
 have m15:(m:Int)<=15:=by omega
 have m0:(0:Int)<=m:=by omega
 have o1:(o:Int)+32<=512:=by omega
 have o0:(0:Int)<=o:=by omega
 have e32:o+32-o=32:=by omega
 have hsz:(⟨name.toArray⟩:ByteArray).size=m:=by rw[iN,hm]
 clear hC hF hv hi hs hx h h0 hd4 hlen hk hb ho hyl hset hname hm hn;subst hv0;unfold aC at*;unfold fM aN at*;go_enter Tryz.func179,Tryz.ntmps179;go_wp2_with(first |(go_at_call 172;refine hsp.mono ?_;rintro e w9 ⟨rfl,xL⟩;have hgt2:=hgt.out _ xL;clear xL hsp hgt)|(go_at_call 84;refine hgt2.mono ?_;rintro e w8 ⟨g,c,a',rfl,hc,hC2,w1,hcl,k1,f1,w2,hcp,hw⟩;replace hC2:=Lh hC2;clear hgt2)|(go_at_call 97;refine hw.mono ?_;rintro e w7 ⟨rfl,hp⟩)|(go_at_call 98;refine hp.mono ?_;rintro e w6 ⟨rfl,h6⟩;replace h6:=Lh h6))
 trace_state
 go_end0
 exact⟨rfl,h6.out⟩
end
def gT (c:gI) (d:Nat) (x:VI) (i:Nat):List UInt8:=AL (bk c (d+x.aB.getD (i/16) 0)) i
abbrev uS :=List (List UInt8×Nat)
def jX (c:gI) (d:Nat) (x:VI):uS:=(List.range x.size).map fun i=>(enN (gT c d x i),enI (gT c d x i))
structure HY (S:VS) (x:VI):Prop where
 few:x.aB.length<=28
 room:x.size<=16*x.aB.length
 lt:∀s∈x.aB,s<S.count
 len:∀i<x.size,((gT S.cur S.data x i).getD 0 0).toNat<=31
def kJ (L:uS) (name:List UInt8):Int×Nat:=
 match L.findIdx? fun e=>e.1==name with
 |some i=>(i,(L.getD i ([],0)).2)
 |none=>(-1,0)
def tC (L:uS) (i:Nat):List UInt8×Nat:=L.getD i ([],0)
theorem uT {L:uS} {i:Nat} (h:i<L.length):L[i]=tC L i:=by unfold tC;rw[gH,gE h];rfl
theorem ap1 {L:uS} {name:List UInt8} {i:Nat} (h1:i<L.length) (h2:(tC L i).1=name) (h3:∀j<i,(tC L j).1≠name):kJ L name=((i:Int),(tC L i).2):=by
 unfold kJ;have:(L.findIdx? fun e=>e.1==name)=some i:=by rw[abO];exact⟨h1,by rw[uT];simp[h2],fun j hj=>by rw[uT];simpa using h3 j hj⟩
 rw[this];rfl
theorem ap2 {L:uS} {name:List UInt8} (h:∀j<L.length,(tC L j).1≠name):kJ L name=(-1,0):=by
 unfold kJ;have:(L.findIdx? fun e=>e.1==name)=none:=by rw[abX];intro e he;obtain⟨j,hj,rfl⟩:=OQ he;rw[uT];simpa using h j hj
 rw[this]
theorem BD (c:gI) (d:Nat) (x:VI):(jX c d x).length=x.size:=by unfold jX;simp
theorem DF {c:gI} {d:Nat} {x:VI} {i:Nat} (h:i<x.size):tC (jX c d x) i=(enN (gT c d x i),enI (gT c d x i)):=by unfold jX tC;rw[gH,lC,VN h];rfl
theorem HY.spot {S:VS} {x:VI} (h:HY S x) {i:Nat} (hi:i<x.size):∃s,x.aB[i/16]? =some s/\s<S.count/\x.aB.getD (i/16) 0=s:=by
 have h1:i/16<x.aB.length:=by have:=h.room;omega
 refine⟨x.aB[i/16],gE h1,h.lt _ (nW h1),?_⟩;rw[gH,gE h1];rfl
section
variable {w0 w:World} {R:List aW} {f q p:Nat} {S:VS} {a:VA}
theorem KA {x:VI} {v:Value} {i:Nat} (hC:VC S a) (hF:VF S) (hv:zN w0 R v x.aB) (hD:HY S x) (hi:i<x.size) (h:Sep w0 w (aF f q p S a::R)):
  Calls Tryz.prog 108 #[pV f,fM x v,iV i] w fun e w'=>e= .returned (.tuple #[aC (enN (gT S.cur S.data x i)),iV (enI (gT S.cur S.data x i):Nat)])/\∃a',Reads S a a'/\Sep w0 w' (aF f q p S a'::R):=by
 obtain⟨s,h1,h2,h3⟩:=hD.spot hi;have hl:=hD.len i hi;unfold gT at hl ⊢;rw[h3]at hl ⊢;exact al4 hC hF hv h1 h2 hD.few hl h
theorem acC {x:VI} {v:Value} {name:List UInt8} (hC:VC S a) (hF:VF S) (hv:zN w0 R v x.aB) (hD:HY S x) (h:Sep w0 w (aF f q p S a::R)):
  Calls Tryz.prog 139 #[pV f,fM x v,aC name] w fun e w'=>e= .returned (.tuple #[iV (kJ (jX S.cur S.data x) name).1,iV ((kJ (jX S.cur S.data x) name).2:Nat)])/\∃a',Reads S a a'/\Sep w0 w' (aF f q p S a'::R):=by
 obtain⟨A0,c0,hv0⟩:∃A c,v= .slice A x.aB.length c:=by obtain⟨_,A,c,e,_⟩:=hv w [_] h;exact⟨A,c,e⟩
 have h0:Sep w0 (w.alloc (.cells (aN x v) 129)) (aF f q p S a:: .box w.heap.size 129 (aN x v)::R):=(h.bN _ _).perm (List.Perm.swap _ _ _);obtain⟨bx,hbx⟩:∃bx,bx=w.heap.size:=⟨_,rfl⟩;obtain⟨N,hN⟩:∃N,N=x.size:=⟨_,rfl⟩;have hN5:N<=448:=by have:=hD.room;have:=hD.few;omega
 have N1:(N:Int)<=448:=by omega
 obtain⟨L,hL⟩:∃L,L=jX S.cur S.data x:=⟨_,rfl⟩;have hLn:L.length=N:=by rw[hL,BD,hN]
 have hen:Hid (∀W k a1,k<N->VC S a1->Sep w0 W (aF f q p S a1:: .box bx 129 (aN x v)::R)->Calls Tryz.prog 108 #[pV f,fM x v,iV (k:Nat)] W fun e w'=>e= .returned (.tuple #[aC (tC L k).1,iV ((tC L k).2:Nat)])/\∃a',Reads S a1 a'/\Sep w0 w' (aF f q p S a':: .box bx 129 (aN x v)::R)):=Lh fun W k a1 hk kK hS=>by have:=KA (i:=k) kK hF (hv.cons (A:=.box bx 129 (aN x v))) hD aD hS;rw[hL,DF (by rw[<-hN];exact hk)];exact this
 rw[<-hL];rw[<-hbx]at h0;have hcs:Hid (∀W a1,Sep w0 W (aF f q p S a1:: .box bx 129 (aN x v)::R)->W.cell? ⟨bx,0,none⟩=some (iV (x.kind:Nat))/\W.cell? ⟨bx,1,none⟩=some (iV (x.mode:Nat))/\W.cell? ⟨bx,2,none⟩=some (iV (x.links:Nat))/\W.cell? ⟨bx,3,none⟩=some (iV (N:Nat))/\W.cell? ⟨bx,4,none⟩=some v):=Lh fun W a1 hS=>by(have z:=fun j=>hS.bC 1 rfl j);rw[hN];exact⟨z 0,z 1,z 2,z 3,z 4⟩
 have aDD:=Lh hLn;have hI0:Hid (Reads S a a/\Sep w0 (w.alloc (.cells (aN x v) 129)) (aF f q p S a:: .box bx 129 (aN x v)::R)):=Lh ⟨.refl hC,h0⟩;obtain⟨r,hr⟩:∃r,r=kJ L name:=⟨_,rfl⟩;rw[<-hr];have hr':=Lh hr;clear hC hF hD h h0 hv hLn hL hN5 hr;subst hv0;unfold aC at*;unfold fM aN at*;rw[<-hN]at hcs hI0 hen ⊢;clear hN;go_enter Tryz.func139,Tryz.ntmps139;go_wp2_with fail;try rw[<-hbx]
 clear hbx;go_loopw[13] (fun i wr=>∃k:Nat,k<=N/\i=iV k/\Hid (∀j<k,(tC L j).1≠name)/\Hid (∃a1,Reads S a a1/\Sep w0 wr (aF f q p S a1:: .box bx 129 #[iV (x.kind:Nat),iV (x.mode:Nat),iV (x.links:Nat),iV (N:Nat),.slice A0 x.aB.length c0]::R))) (fun i _=>N-(intOf i).toNat)
 case atStart=>exact⟨0,fZ _,rfl,Lh fun j hj=>by omega,Lh ⟨a,hI0.out.1,hI0.out.2⟩⟩
 obtain⟨k,hk,rfl,hno,hS⟩:=hrel;clear hI0;obtain⟨a1,DI,hS1⟩:=hS.out;clear hS;by_cases hlt:k<N
 ·obtain⟨k0,k1,k2,k3,k4⟩:=hcs.out _ _ hS1;have hc:=hen.out _ k a1 hlt DI.ok hS1;(have q1:(k:Int)<N:=by omega);(have q0:(0:Int)<=k:=by omega);obtain⟨u,hu⟩:∃u,u=(tC L k).1:=⟨_,rfl⟩;obtain⟨z,hz⟩:∃z,z=(tC L k).2:=⟨_,rfl⟩;rw[<-hu,<-hz]at hc;have hu':=Lh hu;have hz':=Lh hz;have ap3:=Lh DI;clear hS1 DI hu hz;by_cases hname:u=name
  ·(have e1:(u==name)=true:=by simpa using hname);(have e2:(u.toArray==name.toArray)=true:=by rw[hname];simp);have hname':=Lh hname;clear hname;go_wp2_with(go_at_call 108;refine hc.mono ?_;rintro e w9 ⟨rfl,a2,hR2,h9⟩;replace h9:=Lh h9;replace hR2:=Lh hR2)
   go_ret2
   refine⟨?_,a2,ap3.out.trans hR2.out,(Sep.dB [1,0] h9.out aR bK).drop 1⟩;rw[hr'.out,ap1 (i:=k) (by rw[aDD.out];exact hlt) (by rw[<-hu'.out];exact hname'.out) hno.out,<-hz'.out];rfl
  (have e1:(u==name)=false:=by simpa using hname);(have e2:(u.toArray==name.toArray)=false:=by simpa using hname);have hname':=Lh hname;clear hname;go_wp2_with(go_at_call 108;refine hc.mono ?_;rintro e w9 ⟨rfl,a2,hR2,h9⟩;replace h9:=Lh h9;replace hR2:=Lh hR2);refine⟨⟨k+1,by omega,rfl,Lh fun j hj=>?_,Lh ⟨a2,ap3.out.trans hR2.out,h9.out⟩⟩,by simp[intOf];omega⟩;by_cases e:j=k
  ·rw[e,<-hu'.out];exact hname'.out
  exact hno.out j aD
 obtain rfl:k=N:=by omega
 go_wp2_with fail
 go_ret2
 refine⟨?_,a1,DI,(Sep.dB [1,0] hS1 aR bK).drop 1⟩;rw[hr'.out,ap2 fun j hj=>hno.out j (by rw[aDD.out]at hj;exact hj)];rfl
end
end Go.Proofs.YtmjomdkleikgbaaGreat
