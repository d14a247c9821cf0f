/- Parts. -/
import Derived.Test.YtmjomdkleikgbaaGreatJ9
import Derived.Laws.BytesArg
set_option linter.unusedVariables false
set_option linter.unusedSimpArgs false
set_option maxRecDepth 100000
set_option maxHeartbeats 20000000
namespace Go.Proofs.YtmjomdkleikgbaaGreat
open Go.RowKit
def o6 (c:fK) (d:Nat) (l:List Nat):List UInt8:=l.flatMap fun s=>bk c (d+s)
def eU (c:fK) (d:Nat) (x:VI):List UInt8:=(o6 c d x.aB).take x.size
theorem ai3 {c:fK} {d:Nat} {l:List Nat} (h:∀s∈l,(bk c (d+s)).length=512):(o6 c d l).length=512*l.length:=by
 induction l with
 |nil=>rfl
 |cons s l ih=>unfold o6 at ih ⊢;rw[wJ,jJ,ih fun t ht=>h t (vD _ ht),h s (mO ..),kM];omega
theorem Rd.azA {w:World} {A:Option Addr} {n c m:Nat} {cs:List Value} (h:Rd w 1 (.slice A n c) n cs) (hm:m<=n):Rd w 1 (.slice A m c) m (cs.take m):=by
 obtain⟨h0,A',c',e,h1,h2,h3⟩:=h;cases e;refine⟨by rw[qQ];omega,_,_,rfl,by omega,h2,fun hn=>?_⟩;obtain⟨ad,e,hb,hc⟩:=h3 aI;refine⟨ad,e,hb,fun j u hj=>?_⟩;rw[uU]at hj;split at hj
 ·exact hc j u hj
 cases hj
section
variable {w0 w:World} {R:List aV} {f q p:Nat} {S:VS} {a:VA}
theorem Z48 {P:Prop} (h:P:=by cases e;unfold dX at h1;rw[kX,kX,hsk]at h1;cases h1;exact⟨ad,rfl,h2⟩):P:=h
theorem KJ {n:Nat} (hC:VC S a) (hF:VF S) (hn:n<S.names) (hok:(aF S.cur n).aB.length<=28) (hsp:∀s∈(aF S.cur n).aB,s<S.count) (hsz:(aF S.cur n).size<=512*(aF S.cur n).aB.length) (h:Sep w0 w (aD f q p S a::R)):
  Calls Tryz.prog 128 #[pV f,iV n] w fun e w'=>∃v a',e= .returned v/\Reads S a a'/\Sep w0 w' (aJ v (eU S.cur S.data (aF S.cur n))::aD f q p S a'::R):=by
 have hin:=iW hC hF hn hok h;obtain⟨x,hx⟩:∃x,x=aF S.cur n:=⟨_,rfl⟩;rw[<-hx]at hin hok hsp hsz ⊢;obtain⟨k0,o7,hk0,hk1,hk2⟩:=iN lW;have hC':=Lh hC;have hF':=Lh hF;have ai4:=Lh hsp;have hok':=Lh hok;have hsz':=Lh hsz;clear hC hF hn hok hsp hsz h hx;unfold fB at hin;go_enter Tryz.func128,Tryz.ntmps128;go_wp2_with(first |(go_at_call 72;refine hin.mono ?_;rintro e w9 ⟨v,a1,rfl,hR,h9⟩;obtain⟨A9,c9,e9⟩:=h9.dS 0 rfl;subst e9;have hs:=h9.bN 129 (aM x (.slice A9 (dX x.aB).length c9));have c3:=hs.bC 0 rfl 3;have c4:=hs.bC 0 rfl 4;replace hs:=Lh hs;replace hR:=Lh hR;clear h9 hin;unfold aM at c3 c4 ⊢;simp only[gA,gB,gC]at c3 c4));obtain⟨L,hL⟩:∃L,L=x.aB.length:=⟨_,rfl⟩;have hll:(dX x.aB).length=L:=by unfold dX;rw[iT];exact hL.symm
 have L28:(L:Int)<=28:=by have:=hok'.out;omega
 have hS0:Hid (∃a',Reads S a a'/\Sep w0 (w9.alloc (.cells (aM x (.slice A9 (dX x.aB).length c9)) 129)) (aJ (.slice none 0 0) (o6 S.cur S.data (x.aB.take 0))::aD f q p S a':: .box w9.heap.size 129 (aM x (.slice A9 (dX x.aB).length c9))::aQ (.slice A9 (dX x.aB).length c9) (dX x.aB)::R)):=Lh ⟨a1,hR.out,by have h1:=hs.out.iO 5 1;exact Sep.dC [0,3,1,2] h1 aR bK⟩;have hL':=Lh hL;have asH:=Lh hll;rw[hll];rw[hll]at c4 hS0;clear hs hR hL c3 c4;go_loopw[6,15] (fun b i wr=>∃k:Nat,k<=L/\i=iV k/\Hid (∃a',Reads S a a'/\Sep w0 wr (aJ b (o6 S.cur S.data (x.aB.take k))::aD f q p S a':: .box w9.heap.size 129 (aM x (.slice A9 L c9))::aQ (.slice A9 L c9) (dX x.aB)::R))) (fun _ i _=>L-(intOf i).toNat)
 case atStart=>exact⟨0,fZ _,rfl,hS0⟩
 obtain⟨k,hk,rfl,hS⟩:=hrel;clear hS0;obtain⟨a2,hR2,hS2⟩:=hS.out;have hfl:(o6 S.cur S.data (x.aB.take k)).length=512*k:=by rw[ai3 fun s hs=>jK hC'.out.cur (by have:=ai4.out s (DD hs);unfold VS.count at this;omega),qQ];rw[I4 (by rw[<-hL'.out];exact hk)]
 obtain⟨Au,cu,eu⟩:=hS2.dS 0 rfl;rw[hfl]at eu;subst eu;by_cases hlt:k<L
 ·(have hlx:k<x.aB.length:=by rw[<-hL'.out];exact hlt);obtain⟨s,hs⟩:∃s,s=x.aB[k]:=⟨_,rfl⟩;(have hsk:x.aB[k]? =some s:=by rw[gE hlx,hs]);(have hsc:s<S.count:=by rw[hs];exact ai4.out _ (nJ hlx));(have hcj:∃ad,A9=some ad/\wr.cell? (ad.add k)=some (iV (s:Nat)):=by obtain⟨ad,c8,u9,e,h1,h2⟩:=Rd.at_ (hS2.rd 3 rfl) (k:=k) (by rw[asH.out];exact hlt);exact Z48);obtain⟨ad,rfl,hcj⟩:=hcj;have hV:Sep w0 wr.drew (aD f q p S a2::aJ (.slice Au (512*k) cu) (o6 S.cur S.data (x.aB.take k)):: .box w9.heap.size 129 (aM x (.slice (some ad) L c9))::aQ (.slice (some ad) L c9) (dX x.aB)::R):=(hS2.perm (List.Perm.swap _ _ _)).drew;have LG:=zQ hR2.ok hF'.out hV.fC.c3;(have hbound:S.data+s<S.nb-96:=by unfold VS.count at hsc;omega);have hpk:=NI hR2.ok hbound hV;have hlen:=jK hC'.out.cur hbound;(have hd4:(S.data+s:Nat)<=4096:=by have:=hC'.out.oU.few;omega);obtain⟨d,hd⟩:∃d,d=S.data:=⟨_,rfl⟩;rw[<-hd]at LG hd4;rw[<-hd,show((d+s:Nat):Int)=(d:Int)+s by omega]at hpk;(have e9:o6 S.cur S.data (x.aB.take (k+1))=o6 S.cur S.data (x.aB.take k)++bk S.cur (d+s):=by unfold o6;rw[pX,hsk,WE,hd];simp);rw[<-hd]at hlen;(have q1:(k:Int)<L:=by omega);(have q0:(0:Int)<=k:=by omega);have q3:IntKind.i64.wrap ((d:Int)+s)=d+s:=IntWalk.i64_in _ aI;have hd':=Lh hd;have e9':=Lh e9;have hlen':=Lh hlen;have ai5:=Lh hfl;have ai6:=Lh hR2;replace LG:=Lh LG;replace hpk:=Lh hpk;clear hV hS hS2 hs hsk hsc hbound hd4 hd e9 hlen hfl hR2 hlx;go_wp2_with fail;refine aO (S:=fun _=>True) 13 ?_;refine aA 0 trivial ?_;refine aA 1 trivial ?_;refine aA 2 trivial ?_;refine aA 3 trivial ?_;refine aA 4 trivial ?_;refine aA 5 trivial ?_;refine aA 6 trivial ?_;refine aA 8 trivial ?_;(refine bH 7 fun K hK=>?_);go_simp;go_at_call 142;refine LG.out.mono ?_;rintro e w8 ⟨rfl,h8⟩;obtain rfl:=h8.symm;dsimp only;refine hK _ _ (fun _=>trivial) ?_;clear hK K;(try simp only[Act.put,gD]);refine bG 9 (fun _=>trivial) ?_;(refine bH 10 fun K hK=>?_);go_simp;go_at_call 144;refine hpk.out.mono ?_;rintro e w7 ⟨v7,a3,rfl,hR3,hP3,h7⟩;have hrd:=Lh (h7.ME hP3 hR3.ok.none);have hY:Hid (Sep w0 w7 (.sl 5 1 (.slice Au (512*k) cu) (512*k) ((o6 S.cur S.data (x.aB.take k)).map kK)::aD f q p S a3:: .box w9.heap.size 129 (aM x (.slice (some ad) L c9))::aQ (.slice (some ad) L c9) (dX x.aB)::R)):=Lh (by rw[<-bT ai5.out,<-hd'.out];exact h7.perm (List.Perm.swap _ _ _));have hR4:=Lh (ai6.out.trans hR3);clear hP3 h7 hR3;dsimp only;refine hK _ _ (fun _=>trivial) ?_;clear hK K;(try simp only[Act.put,gD]);(refine bH 11 fun K hK=>?_);refine jD 0 DJ _ _ 69 DJ 5 k0 (.int .u8 0) 1 1 Tryz.underlying69 o7 hk0 hk1 hk2 rfl aR hY.out (.slice Au (512*k) cu) (512*k) _ DJ DJ v7 512 ((bk S.cur (d+s)).map kK) DJ (by have h1:=hrd.out;unfold BytesAt at h1;rw[hd'.out]at*;rw[hlen'.out]at h1;exact h1) qM vE aI ?_;intro v4 w4 lX hz4;replace lX:=Lh lX;clear hY hrd;refine hK _ _ (fun _=>trivial) ?_;clear hK K;(try simp only[Act.put,gD]);refine bG 12 (fun _=>trivial) ?_;refine aS fT ?_ _;go_wp2_with fail;refine⟨⟨k+1,by omega,rfl,Lh ⟨a3,hR4.out,?_⟩⟩,by simp[intOf];omega⟩;rw[e9'.out,bT (n:=512*k+512) (by rw[jJ,ai5.out,hlen'.out]),mM];exact lX.out
 obtain rfl:k=L:=by omega
 have e1:x.aB.take k=x.aB:=rG (by rw[hL'.out];exact iU _);rw[e1]at hS2 hfl;have asI:=hS2.rd 0 rfl;rw[show(o6 S.cur S.data x.aB).length=512*k from hfl]at asI;have hz:x.size<=512*k:=by have:=hsz'.out;rw[<-hL'.out]at this;exact this
 have hcu:x.size<=cu:=by obtain⟨_,A,c,e,h1,_⟩:=id asI;cases e;omega
 have aEJ:=Lh (Rd.azA asI hz);have c3:=hS2.bC 2 rfl 3;unfold aM at c3;simp only[gA,gB,gC]at c3;have hN:=Lh (hS2.iO 5 1);have ai6:=Lh hR2;have z1:(x.size:Int)<=cu:=by omega
 have z0:(0:Int)<=x.size:=by omega
 have zs:x.size<=14336:=by omega
 have hzs:=Lh zs;have ai5:=Lh hfl;have hz':=Lh hz;clear hS hS2 asI hR2 e1 hfl hz zs;go_wp2_with(at_builtin;refine dH 0 rfl _ _ 69 rfl 5 k0 (.int .u8 0) 1 1 Tryz.underlying69 o7 hk0 hk1 hk2 rfl aR hN.out _ 0 [] rfl rfl (.slice Au x.size cu) x.size _ rfl aEJ.out (fun u hu=>qM u (DD hu)) (by have:=hzs.out;unfold maxLen;omega) (by have:=hzs.out;omega) ?_;intro v3 w3 eZ hz3;replace eZ:=Lh eZ);go_ret;refine⟨_,a2,rfl,ai6.out,?_⟩;have hl:(eU S.cur S.data x).length=x.size:=by unfold eU;rw[qQ,ai5.out];exact I4 hz'.out
 rw[bT hl];have h5:=eZ.out;simp only[IU,I6,mP]at h5;have e2:(eU S.cur S.data x).map kK=((o6 S.cur S.data x.aB).map kK).take x.size:=by unfold eU;rw[ZN]
 rw[e2];exact(Sep.dC [1,3,4,0,2] h5 aR bK).drop 3
theorem ZQ {x:VI} {v:Value} {i s:Nat} (hC:VC S a) (hF:VF S) (hv:yM w0 R v x.aB) (hi:x.aB[i/16]? =some s) (hs:s<S.count) (hx:x.aB.length<=28) (h:Sep w0 w (aD f q p S a::R)):
  Calls Tryz.prog 172 #[pV f,fB x v,iV i] w fun e w'=>e= .returned (.tuple #[iV (S.data+s:Nat),iV (i%16*32:Nat)])/\Below w.heap.size w w':=by
 have hlt:=(gF.1 hi).1;obtain⟨A,c,hv0,ad,hA,hcell⟩:∃A c,v= .slice A x.aB.length c/\∃ad,A=some ad/\∀W,Below w.heap.size w W->W.cell? (ad.add (i/16))=some (iV (s:Nat)):=by obtain⟨ad,c,u,e,h1,_⟩:=Rd.at_ (hv w [_] h) (k:=i/16) hlt;refine⟨_,c,e,ad,rfl,fun W hW=>?_⟩;obtain⟨ad2,c2,u2,e2,h3,h4⟩:=Rd.at_ (hv W [_] (h.pure hW)) (k:=i/16) hlt;rw[e]at e2;cases e2;unfold dX at h3;rw[kX,kX,hi]at h3;cases h3;exact h4
 subst hv0 hA;have hS1:Sep w0 (w.alloc (.cells (aM x (.slice (some ad) x.aB.length c)) 129)) (aD f q p S a:: .box w.heap.size 129 (aM x (.slice (some ad) x.aB.length c))::R):=(h.bN _ _).perm (List.Perm.swap _ _ _);have hb:Below w.heap.size w (w.alloc (.cells (aM x (.slice (some ad) x.aB.length c)) 129)):=(Below.refl _ _).alloc (iU _) _;have LG:=fun n=>zQ hC hF (hS1.drewN n).fC.c3
 have hc0:=hcell _ hb;have c4:=hS1.bC 1 rfl 4;have hd4:S.data+s<=4096:=by have:=hC.oU.few;have:=hF.room;unfold VS.count at hs;omega
 obtain⟨d,hd⟩:∃d,d=S.data:=⟨_,rfl⟩;obtain⟨j,hj⟩:∃j,j=i/16:=⟨_,rfl⟩;obtain⟨m,hm⟩:∃m,m=i%16:=⟨_,rfl⟩;obtain⟨L,hL⟩:∃L,L=x.aB.length:=⟨_,rfl⟩;have hjl:j<L:=by rw[hj,hL];exact hlt
 rw[<-hd]at LG hd4 ⊢;rw[<-hj]at hc0;rw[<-hm];unfold fB aM at*;rw[<-hL]at hc0 c4 hb LG ⊢;simp only[gA,gB,gC]at c4;have q0:(0:Int)<=i:=by omega
 have t1:(i:Int).tdiv 16=j:=by rw[ai1 q0];omega
 have t2:(i:Int).tmod 16=m:=by rw[am4 q0];omega
 have q1:(0:Int)<=j:=by omega
 have q2:(j:Int)<L:=by omega
 have q3:(m:Int)<16:=by omega
 have q4:(0:Int)<=m:=by omega
 have w1:IntKind.i64.wrap (j:Int)=j:=IntWalk.i64_in _ aI;have w2:IntKind.i64.wrap ((d:Int)+s)=d+s:=IntWalk.i64_in _ aI;have w3:IntKind.i64.wrap ((m:Int)*32)=m*32:=IntWalk.i64_in _ aI;have hb':=Lh hb;have ai7:=Lh LG;rw[show((d+s:Nat):Int)=(d:Int)+s by omega,show((m*32:Nat):Int)=(m:Int)*32 by omega];clear hC hF hv hi hs hx h hcell hS1 hb LG hd4 hd hj hm hL hlt hjl;go_enter Tryz.func172,Tryz.ntmps172;go_wp2_with fail;go_quiet ((go_at_call 142;exact Calls.quiet_of_same (ai7.out _)));go_wp2_with fail
 go_ret2
 exact⟨rfl,(((Sep.nil w).alloc _).drewN nq).below⟩
end
end Go.Proofs.YtmjomdkleikgbaaGreat
namespace Go.Proofs.YtmjomdkleikgbaaGreat
def aC (p:List UInt8):Value:=.string ⟨p.toArray⟩
theorem iK (p:List UInt8):(⟨p.toArray⟩:ByteArray).size=p.length:=rfl
theorem sK (p:List UInt8):(⟨p.toArray⟩:ByteArray).data.toList=p:=rfl
open Go.RowKit
theorem gM {w:World} {u:Value} {bs:List UInt8} (h:BytesAt w u bs):(convert 69 9 u).run Tryz.prog w= .ok (aC bs) w:=by
 obtain⟨hl,A,c,rfl,h1,h2,h3⟩:=h;have e0:strOfNums (bs.map fun b=>(b.toNat:Int))=⟨bs.toArray⟩:=by
  unfold strOfNums;congr 2;rw[qU]
  conv=>rhs;rw[<-List.map_id bs]
  (refine vW fun b _=>?_);simp[Function.comp]
 cases A with
 |none=>
  have h0:bs.length=0:=by
   rcases xN bs.length with h0|h0
   ·exact h0
   obtain⟨ad,e,_⟩:=h3 h0;cases e
  have:bs=[]:=uR h0;subst this;exact run_convert_bytes_nil (P:=Tryz.prog) w 69 5 Tryz.underlying69 Tryz.underlying5 0 c 9 Tryz.underlying9
 |some a=>(have hcell:∀j v,(bs.map kK)[j]? =some v->w.cell? (a.add j)=some v:=fun j v hj=>by have hlt:=(gF.1 hj).1;rw[iT]at hlt;obtain⟨ad,e,_,hc⟩:=h3 aI;cases e;exact hc j v hj);have h4:=run_loadCells_list (P:=Tryz.prog) w a (bs.map kK) hcell;(have e:bs.map kK=(bs.map fun b=>(b.toNat:Int)).map (Value.int .u8):=by rw[qU];rfl);rw[iT,e]at h4;unfold aC;rw[<-e0,run_convert_bytes_string w 69 9 5 _ bs.length c Tryz.underlying69 Tryz.underlying5 Tryz.underlying9,run_bytesToString w a bs.length c _ h4,foldl_push_bytes];simp[strOfNums,ByteArray.empty,ByteArray.emptyWithCapacity];rfl
def zB (b:List UInt8) (i:Nat):List UInt8:=(b.drop (i%16*32)).take 32
def enN (e:List UInt8):List UInt8:=(e.drop 1).take (e.getD 0 0).toNat
def enI (e:List UInt8):Nat:=r2 e 16
theorem NJ {α:Type} (l:List α) (a k n m:Nat) (h:k+n<=m):(((l.drop a).take m).drop k).take n=(l.drop (a+k)).take n:=by rw[List.drop_take,List.take_take,KG,I4 aI]
theorem tF (l:List UInt8) (a m k:Nat) (h:k<m):((l.drop a).take m).getD k 0=l.getD (a+k) 0:=by rw[gH,gH,uU,if_pos h,zP]
theorem WI (l:List UInt8) (a m k:Nat) (h:k+1<m):r2 ((l.drop a).take m) k=r2 l (a+k):=by unfold r2;rw[tF _ _ _ _ aI,tF _ _ _ _ h];rfl
theorem yM.cons {w0:World} {R:List aV} {A:aV} {v:Value} {l:List Nat} (h:yM w0 R v l):yM w0 (A::R) v l:=fun w' X hS=>h w' (X++[A]) (by simpa using hS)
section
variable {w0 w:World} {R:List aV} {f q p:Nat} {S:VS} {a:VA}
theorem ai8 {x:VI} {v:Value} {i s:Nat} (hC:VC S a) (hF:VF S) (hv:yM w0 R v x.aB) (hi:x.aB[i/16]? =some s) (hs:s<S.count) (hx:x.aB.length<=28) (hl:((zB (bk S.cur (S.data+s)) i).getD 0 0).toNat<=31) (h:Sep w0 w (aD f q p S a::R)):
  Calls Tryz.prog 108 #[pV f,fB x v,iV i] w fun e w'=>e= .returned (.tuple #[aC (enN (zB (bk S.cur (S.data+s)) i)),.int .i64 (enI (zB (bk S.cur (S.data+s)) i):Nat)])/\∃a',Reads S a a'/\Sep w0 w' (aD f q p S a'::R):=by
 have hd4:S.data+s<S.nb-96:=by unfold VS.count at hs;omega
 have hlen:=jK hC.cur hd4;obtain⟨k,hk⟩:∃k,k=S.data+s:=⟨_,rfl⟩;obtain⟨b,hb⟩:∃b,b=bk S.cur k:=⟨_,rfl⟩;obtain⟨o,ho⟩:∃o,o=i%16*32:=⟨_,rfl⟩;have ho4:o+32<=512:=by omega
 rw[<-hk]at hl hd4 hlen ⊢;rw[<-hb]at hl hlen ⊢;have k4:k<=4096:=by have:=hC.oU.few;omega
 obtain⟨A0,c0,hv0⟩:∃A c,v= .slice A x.aB.length c:=by obtain⟨_,A,c,e,_⟩:=hv w [_] h;exact⟨A,c,e⟩
 have h0:Sep w0 (w.alloc (.cells (aM x v) 129)) (aD f q p S a:: .box w.heap.size 129 (aM x v)::R):=(h.bN _ _).perm (List.Perm.swap _ _ _);have hsp:=ZQ hC hF (hv.cons (A:=.box w.heap.size 129 (aM x v))) hi hs hx h0;rw[<-hk,<-ho]at hsp;have hpk:Hid (∀W,Below (w.alloc (.cells (aM x v) 129)).heap.size (w.alloc (.cells (aM x v) 129)) W->Calls Tryz.prog 144 #[pV f,iV k] W fun e w'=>∃u a',e= .returned u/\Reads S a a'/\BytesAt w' u b/\Sep w0 w' (aD f q p S a'::R)):=Lh fun W hW=>by refine(NI hC hd4 (h0.pure hW)).mono ?_;rintro e w' ⟨u,a',rfl,hR,hP,h9⟩;refine⟨u,a',rfl,hR,by rw[hb];exact h9.ME hP hR.ok.none,?_⟩;exact(Sep.dC [1,0] h9 aR bK).drop 1
 have e0:((zB b i).getD 0 0).toNat=(b.getD o 0).toNat:=by unfold zB;rw[tF _ _ _ _ aI,<-ho,uY]
 obtain⟨z,hz⟩:∃z,z=(b.getD o 0).toNat:=⟨_,rfl⟩;have e1:enN (zB b i)=(b.drop (o+1)).take z:=by unfold enN;rw[e0,<-hz];unfold zB;rw[<-ho];exact NJ _ _ _ _ _ (by rw[e0]at hl;omega)
 have e2:enI (zB b i)=r2 b (o+16):=by unfold enI zB;rw[<-ho];exact WI _ _ _ _ aI
 rw[e1,e2];rw[e0,<-hz]at hl;have z31:(z:Int)<=31:=by omega
 have z0:(0:Int)<=z:=by omega
 have ez:o+1+z-(o+1)=z:=by omega
 have r1:IntKind.i64.wrap (o:Int)=o:=IntWalk.i64_in _ aI;have r2':IntKind.i64.wrap ((o:Int)+1)=o+1:=IntWalk.i64_in _ aI;have r3:IntKind.i64.wrap (z:Int)=z:=IntWalk.i64_in _ aI;have r4:IntKind.i64.wrap ((o:Int)+1+z)=o+1+z:=IntWalk.i64_in _ aI;have r5:IntKind.i64.wrap ((o:Int)+16)=o+16:=IntWalk.i64_in _ aI;have o5:(o:Int)<512:=by omega
 have o1:(o:Int)+32<=512:=by omega
 have o0:(0:Int)<=o:=by omega
 have k0:(k:Int)<=4096:=by omega
 have hb':=Lh (show(∃bb:Nat,bb=0)from⟨0,rfl⟩);have hbz:Hid (∀W u,BytesAt W u b->∃ad c,u= .slice (some ad) 512 c/\512<=c/\W.cell? (ad.add o)=some (.int .u8 (z:Nat))/\(convert 69 9 (.slice (some {block:=ad.block,off:=ad.off+(o+1)}) z (c-(o+1)))).run Tryz.prog W= .ok (aC ((b.drop (o+1)).take z)) W/\∀n,(W.drewN n).cell? (ad.add o)=some (.int .u8 (z:Nat))/\(convert 69 9 (.slice (some {block:=ad.block,off:=ad.off+(o+1)}) z (c-(o+1)))).run Tryz.prog (W.drewN n)= .ok (aC ((b.drop (o+1)).take z)) (W.drewN n)/\Calls Tryz.prog 85 #[u,iV (o+16:Nat)] (W.drewN n) fun e w'=>e= .returned (iV (r2 b (o+16)))/\∃m,w'=(W.drewN n).drewN m):=Lh fun W u hB=>by
  (obtain⟨A,c,e⟩:∃A c,u= .slice A 512 c:=by obtain⟨_,A,c,e,_⟩:=hB;rw[hlen]at e;exact⟨A,c,e⟩);subst e;(have hc:512<=c:=by obtain⟨_,A,c',e,h1,_⟩:=hB;rw[hlen]at e h1;cases e;exact h1);obtain⟨ad,rfl,hcell⟩:=hB.byte (j:=o) aI;rw[<-hz]at hcell;(have ead:ad.add (o+1)= {block:=ad.block,off:=ad.off+(o+1)}:=by simp[Addr.add]);refine⟨ad,c,rfl,hc,hcell,by rw[<-ead];exact gM (hB.sub (o:=o+1) (m:=z) aI),fun n=>⟨hcell,?_,?_⟩⟩
  ·have hB2:BytesAt (W.drewN n) (.slice (some ad) 512 c) b:=hB.below ⟨rfl,rfl,rfl,iU _,fun _ _=>rfl⟩;rw[<-ead];exact gM (hB2.sub (o:=o+1) (m:=z) aI)
  have hB2:BytesAt (W.drewN n) (.slice (some ad) 512 c) b:=hB.below ⟨rfl,rfl,rfl,iU _,fun _ _=>rfl⟩;exact TW hB2 aI aI
 have hz':=Lh hz;have s1:((o:Int)+1).toNat=o+1:=by omega
 have s2:((o:Int)+1+z).toNat=o+1+z:=by omega
 have s3:(0:Int)<=(o:Int)+1:=by omega
 have s4:(o:Int)+1<=(o:Int)+1+z:=by omega
 have s5:(o:Int)+1+z<=512:=by omega
 have s6:(0:Int)<=(o:Int)+1+z:=by omega
 clear hC hF hv hi hs hx hl h h0 hd4 hlen hk hb ho e0 e1 e2 hb' hz;subst hv0;unfold fB aM at*;go_enter Tryz.func108,Tryz.ntmps108;go_wp2_with(first |(go_at_call 172;refine hsp.mono ?_;rintro e w9 ⟨rfl,zO⟩;have am9:=hpk.out _ zO;clear zO hsp hpk)|(go_at_call 144;refine am9.mono ?_;rintro e w8 ⟨u,a',rfl,hR,hB,h8⟩;obtain⟨ad,c,e9,hc,hc1,hcv,hq⟩:=hbz.out _ _ hB;(have hcn:=fun n=>(hq n).2.1);(have s7:(o:Int)+1+z<=c:=by omega);(have s8:¬c=o+1:=by omega);subst e9;replace hq:=Lh hq;replace hR:=Lh hR;replace h8:=Lh h8;clear hB hbz am9));go_quiet ((go_at_call 85;exact Calls.quiet_of (hq.out _).2.2));go_wp2_with fail
 go_ret2
 exact⟨rfl,a',hR.out,h8.out.drewN _⟩
end
def zC (name:List UInt8) (n:Nat):List UInt8:=dP (dP ((List.replicate 32 (0:UInt8)).set 0 (UInt8.ofNat name.length)) 1 name) 16 (w2 n)
theorem NK {name:List UInt8} {n:Nat} (h:name.length<=15):(zC name n).length=32:=by
 unfold zC;have h1:(dP ((List.replicate 32 (0:UInt8)).set 0 (UInt8.ofNat name.length)) 1 name).length=32:=by
  rw[fD]
  ·simp
  simp;omega
 rw[fD (by rw[h1,rJ];omega),h1]
def VS.gZ (S:VS) (s i:Nat) (name:List UInt8) (n:Nat):VS:=S.put (S.data+s) (dP (bk S.cur (S.data+s)) (i%16*32) (zC name n))
section
variable {w0 w:World} {R:List aV} {f q p:Nat} {S:VS} {a:VA}
theorem WJ {x:VI} {v:Value} {i s n:Nat} {name:List UInt8} (hC:VC S a) (hF:VF S) (hv:yM w0 R v x.aB) (hi:x.aB[i/16]? =some s) (hs:s<S.count) (hx:x.aB.length<=28) (hname:name.length<=15) (hn:n<=65535) (h:Sep w0 w (aD f q p S a::R)):
  Calls Tryz.prog 179 #[pV f,fB x v,iV i,aC name,iV n] w fun e w'=>e= .returned (.tuple #[])/\∃a',VC (S.gZ s i name n) a'/\Sep w0 w' (aD f q p (S.gZ s i name n) a'::R):=by
 have hd4:S.data+s<S.nb-96:=by unfold VS.count at hs;omega
 have hlen:=jK hC.cur hd4;obtain⟨k,hk⟩:∃k,k=S.data+s:=⟨_,rfl⟩;obtain⟨b,hb⟩:∃b,b=bk S.cur k:=⟨_,rfl⟩;obtain⟨o,ho⟩:∃o,o=i%16*32:=⟨_,rfl⟩;have ho4:o+32<=512:=by omega
 have hset:S.gZ s i name n=S.put k (dP b o (zC name n)):=by unfold VS.gZ;rw[hb,hk,ho]
 rw[hset];rw[<-hk]at hd4 hlen;rw[<-hb]at hlen;have k4:k<=4096:=by have:=hC.oU.few;omega
 obtain⟨A0,c0,hv0⟩:∃A c,v= .slice A x.aB.length c:=by obtain⟨_,A,c,e,_⟩:=hv w [_] h;exact⟨A,c,e⟩
 have h0:Sep w0 (w.alloc (.cells (aM x v) 129)) (aD f q p S a:: .box w.heap.size 129 (aM x v)::R):=(h.bN _ _).perm (List.Perm.swap _ _ _);have hsp:=ZQ hC hF (hv.cons (A:=.box w.heap.size 129 (aM x v))) hi hs hx h0;rw[<-hk,<-ho]at hsp;obtain⟨m,hm⟩:∃m,m=name.length:=⟨_,rfl⟩;have hyl:∀ys:List UInt8,ys.length=32->(dP b o ys).length=512:=fun ys hy=>by rw[fD (by rw[hlen,hy];omega)];exact hlen
 have hgt:Hid (∀W,Below (w.alloc (.cells (aM x v) 129)).heap.size (w.alloc (.cells (aM x v) 129)) W->Calls Tryz.prog 84 #[pV f,iV k] W fun e w'=>∃g c a',e= .returned (sV g 512 c)/\512<=c/\VC S a'/\
   ∃w1,(Builtin.clear_ #[69] 0 #[.slice (some ⟨g,o,none⟩) 32 (c-o)]).run Tryz.prog w'= .ok (.tuple #[]) w1/\w1.cell? ⟨g,o,none⟩=some (.int .u8 0)/\w1.frozen? ⟨g,o,none⟩=false/\
   ∃w2,(Builtin.copy_ #[69,9] 3 #[.slice (some ⟨g,o+1,none⟩) (511-o) (c-(o+1)),aC name]).run Tryz.prog (w1.setCell ⟨g,o,none⟩ (.int .u8 ((m:Nat):Int)))= .ok (goInt (m:Nat)) w2/\
   Calls Tryz.prog 97 #[sV g 512 c,iV (o+16:Nat),iV n] w2 fun e w3=>e= .returned (.tuple #[])/\
    Calls Tryz.prog 98 #[pV f,iV k,sV g 512 c] w3 fun e w4=>e= .returned (.tuple #[])/\∃a',VC (S.put k (dP b o (zC name n))) a'/\Sep w0 w4 (aD f q p (S.put k (dP b o (zC name n))) a'::R)):=Lh fun W hW=>by
  refine(MF hC hd4 (h0.pure hW)).mono ?_
  rintro e w' ⟨u,a',rfl,hR,hG⟩
  obtain⟨g,c,rfl,hc,hS⟩:=hG.out.FP (by rw[<-hb];exact hlen)
  rw[<-hb]at hS
  refine⟨g,c,a',rfl,hc.1,hR.ok,?_⟩
  obtain⟨w1,hcl,h1,_⟩:=hS.TY (P:=Tryz.prog) 0 rfl 69 0 (.int .u8 0) Tryz.underlying69 (fun w=>by kernel_rfl) DJ DJ o 32 (c-o) aI
  have e1:(dP b o (List.replicate 32 0)).map kK=oC (b.map kK) o (List.replicate 32 (.int .u8 0)):=by exact Z45
  have h1':Sep w0 w1 (.sl 5 1 (sV g 512 c) 512 ((dP b o (List.replicate 32 0)).map kK)::zD f q p S a' k:: .box w.heap.size 129 (aM x v)::R):=by rw[e1];exact h1
  have hc1:=h1'.wM (R:=[]) 0 rfl (hyl _ bK) o aI
  have hz:((dP b o (List.replicate 32 0)).getD o 0).toNat=0:=by rw[gH,tH (by rw[hlen,EF];omega),if_pos ⟨by omega,by rw[EF];omega⟩,DI];rfl
  rw[hz]at hc1
  refine⟨w1,hcl,hc1,h1'.frozenAt 0 rfl _,?_⟩
  have h2:=h1'.stored 0 rfl o (.int .u8 ((m:Nat):Int))
  have e2:((dP b o (List.replicate 32 0)).map kK).set o (.int .u8 ((m:Nat):Int))=(dP b o ((List.replicate 32 (0:UInt8)).set 0 (UInt8.ofNat m))).map kK:=by(have e:dP b o ((List.replicate 32 (0:UInt8)).set 0 (UInt8.ofNat m))=(dP b o (List.replicate 32 0)).set o (UInt8.ofNat m):=by rw[FQ (b:=dP b o (List.replicate 32 0)) (by rw[hyl _ bK];omega),FQ (b:=List.replicate 32 0) bK];have:=wN (b:=b) (ys:=List.replicate 32 0) (zs:=[UInt8.ofNat m]) (o:=o) (i:=0) (by rw[hlen];omega) bK;rw[<-this,uY]);rw[e,NC,NL,Int.emod_eq_of_lt aI aI]
  have h2':Sep w0 (w1.setCell ⟨g,o,none⟩ (.int .u8 ((m:Nat):Int))) (.sl 5 1 (sV g 512 c) 512 ((dP b o ((List.replicate 32 (0:UInt8)).set 0 (UInt8.ofNat m))).map kK)::zD f q p S a' k:: .box w.heap.size 129 (aM x v)::R):=by rw[<-e2];exact h2
  obtain⟨w2,hcp,h3,_⟩:=h2'.zR (P:=Tryz.prog) 0 rfl 69 9 3 Tryz.underlying69 wO (o+1) (511-o) (c-(o+1)) ⟨name.toArray⟩ (by rw[iK];omega) (by rw[iK];omega)
  rw[iK,<-hm]at hcp
  refine⟨w2,hcp,?_⟩
  have e3:oC ((dP b o ((List.replicate 32 (0:UInt8)).set 0 (UInt8.ofNat m))).map kK) (o+1) ((ZR ⟨name.toArray⟩).map kK)=(dP b o (dP ((List.replicate 32 (0:UInt8)).set 0 (UInt8.ofNat m)) 1 name)).map kK:=by rw[<-zS];congr 1;have:=wN (b:=b) (ys:=(List.replicate 32 (0:UInt8)).set 0 (UInt8.ofNat m)) (zs:=name) (o:=o) (i:=1) (by rw[hlen];omega) D7;exact this
  have hl3:(dP ((List.replicate 32 (0:UInt8)).set 0 (UInt8.ofNat m)) 1 name).length=32:=by rw[fD D7];simp
  have h3':Sep w0 w2 (aJ (sV g 512 c) (dP b o (dP ((List.replicate 32 (0:UInt8)).set 0 (UInt8.ofNat m)) 1 name))::zD f q p S a' k:: .box w.heap.size 129 (aM x v)::R):=by rw[bT (hyl _ hl3),<-e3];exact h3
  refine(EG (o:=0) (m:=512) (cap:=c) (i:=o+16) (n:=n) h3' (hyl _ hl3) aI aI aI).mono ?_
  rintro e w3 ⟨rfl,h4⟩
  refine⟨rfl,?_⟩
  rw[I6,wN (by rw[hlen];omega) (by rw[hl3,rJ];omega)]at h4
  have h5:Sep w0 w3 (aJ (sV g 512 c) (dP b o (zC name n))::zD f q p S a' k::R):=by unfold zC;rw[<-hm];exact(Sep.dC [2,0,1] h4 aR bK).drop 1
  refine(xP hR.ok hd4 h5).mono ?_
  rintro e w4 ⟨rfl,h6⟩
  exact⟨rfl,_,hR.ok.put _ hd4 (hyl _ (NK hname)),h6⟩
 have m15:(m:Int)<=15:=by omega
 have m0:(0:Int)<=m:=by omega
 have o1:(o:Int)+32<=512:=by omega
 have o0:(0:Int)<=o:=by omega
 have e32:o+32-o=32:=by omega
 have hsz:(⟨name.toArray⟩:ByteArray).size=m:=by rw[iK,hm]
 clear hC hF hv hi hs hx h h0 hd4 hlen hk hb ho hyl hset hname hm hn;subst hv0;unfold aC at*;unfold fB aM at*;go_enter Tryz.func179,Tryz.ntmps179;go_wp2_with(first |(go_at_call 172;refine hsp.mono ?_;rintro e w9 ⟨rfl,zO⟩;have hgt2:=hgt.out _ zO;clear zO hsp hgt)|(go_at_call 84;refine hgt2.mono ?_;rintro e w8 ⟨g,c,a',rfl,hc,hC2,w1,hcl,k1,f1,w2,hcp,hw⟩;replace hC2:=Lh hC2;clear hgt2)|(go_at_call 97;refine hw.mono ?_;rintro e w7 ⟨rfl,hp⟩)|(go_at_call 98;refine hp.mono ?_;rintro e w6 ⟨rfl,h6⟩;replace h6:=Lh h6))
 trace_state
 go_end0
 exact⟨rfl,h6.out⟩
end
def gJ (c:fK) (d:Nat) (x:VI) (i:Nat):List UInt8:=zB (bk c (d+x.aB.getD (i/16) 0)) i
abbrev tJ :=List (List UInt8×Nat)
def jL (c:fK) (d:Nat) (x:VI):tJ:=(List.range x.size).map fun i=>(enN (gJ c d x i),enI (gJ c d x i))
structure FR (S:VS) (x:VI):Prop where
 few:x.aB.length<=28
 room:x.size<=16*x.aB.length
 lt:∀s∈x.aB,s<S.count
 len:∀i<x.size,((gJ S.cur S.data x i).getD 0 0).toNat<=31
def jY (L:tJ) (name:List UInt8):Int×Nat:=
 match L.findIdx? fun e=>e.1==name with
 |some i=>(i,(L.getD i ([],0)).2)
 |none=>(-1,0)
def rT (L:tJ) (i:Nat):List UInt8×Nat:=L.getD i ([],0)
theorem tK {L:tJ} {i:Nat} (h:i<L.length):L[i]=rT L i:=by unfold rT;rw[gH,gE h];rfl
theorem anA {L:tJ} {name:List UInt8} {i:Nat} (h1:i<L.length) (h2:(rT L i).1=name) (h3:∀j<i,(rT L j).1≠name):jY L name=((i:Int),(rT L i).2):=by
 unfold jY;have:(L.findIdx? fun e=>e.1==name)=some i:=by rw[Y4];exact⟨h1,by rw[tK];simp[h2],fun j hj=>by rw[tK];simpa using h3 j hj⟩
 rw[this];rfl
theorem anB {L:tJ} {name:List UInt8} (h:∀j<L.length,(rT L j).1≠name):jY L name=(-1,0):=by
 unfold jY;have:(L.findIdx? fun e=>e.1==name)=none:=by rw[ZC];intro e he;obtain⟨j,hj,rfl⟩:=M0 he;rw[tK];simpa using h j hj
 rw[this]
theorem zT (c:fK) (d:Nat) (x:VI):(jL c d x).length=x.size:=by unfold jL;simp
theorem BS {c:fK} {d:Nat} {x:VI} {i:Nat} (h:i<x.size):rT (jL c d x) i=(enN (gJ c d x i),enI (gJ c d x i)):=by unfold jL rT;rw[gH,kX,TD h];rfl
theorem FR.spot {S:VS} {x:VI} (h:FR S x) {i:Nat} (hi:i<x.size):∃s,x.aB[i/16]? =some s/\s<S.count/\x.aB.getD (i/16) 0=s:=by
 have h1:i/16<x.aB.length:=by have:=h.room;omega
 refine⟨x.aB[i/16],gE h1,h.lt _ (nJ h1),?_⟩;rw[gH,gE h1];rfl
section
variable {w0 w:World} {R:List aV} {f q p:Nat} {S:VS} {a:VA}
theorem I7 {x:VI} {v:Value} {i:Nat} (hC:VC S a) (hF:VF S) (hv:yM w0 R v x.aB) (hD:FR S x) (hi:i<x.size) (h:Sep w0 w (aD f q p S a::R)):
  Calls Tryz.prog 108 #[pV f,fB x v,iV i] w fun e w'=>e= .returned (.tuple #[aC (enN (gJ S.cur S.data x i)),iV (enI (gJ S.cur S.data x i):Nat)])/\∃a',Reads S a a'/\Sep w0 w' (aD f q p S a'::R):=by
 obtain⟨s,h1,h2,h3⟩:=hD.spot hi;have hl:=hD.len i hi;unfold gJ at hl ⊢;rw[h3]at hl ⊢;exact ai8 hC hF hv h1 h2 hD.few hl h
theorem ZT {x:VI} {v:Value} {name:List UInt8} (hC:VC S a) (hF:VF S) (hv:yM w0 R v x.aB) (hD:FR S x) (h:Sep w0 w (aD f q p S a::R)):
  Calls Tryz.prog 139 #[pV f,fB x v,aC name] w fun e w'=>e= .returned (.tuple #[iV (jY (jL S.cur S.data x) name).1,iV ((jY (jL S.cur S.data x) name).2:Nat)])/\∃a',Reads S a a'/\Sep w0 w' (aD f q p S a'::R):=by
 obtain⟨A0,c0,hv0⟩:∃A c,v= .slice A x.aB.length c:=by obtain⟨_,A,c,e,_⟩:=hv w [_] h;exact⟨A,c,e⟩
 have h0:Sep w0 (w.alloc (.cells (aM x v) 129)) (aD f q p S a:: .box w.heap.size 129 (aM x v)::R):=(h.bN _ _).perm (List.Perm.swap _ _ _);obtain⟨bx,hbx⟩:∃bx,bx=w.heap.size:=⟨_,rfl⟩;obtain⟨N,hN⟩:∃N,N=x.size:=⟨_,rfl⟩;have hN5:N<=448:=by have:=hD.room;have:=hD.few;omega
 have N1:(N:Int)<=448:=by omega
 obtain⟨L,hL⟩:∃L,L=jL S.cur S.data x:=⟨_,rfl⟩;have hLn:L.length=N:=by rw[hL,zT,hN]
 have hen:Hid (∀W k a1,k<N->VC S a1->Sep w0 W (aD f q p S a1:: .box bx 129 (aM x v)::R)->Calls Tryz.prog 108 #[pV f,fB x v,iV (k:Nat)] W fun e w'=>e= .returned (.tuple #[aC (rT L k).1,iV ((rT L k).2:Nat)])/\∃a',Reads S a1 a'/\Sep w0 w' (aD f q p S a':: .box bx 129 (aM x v)::R)):=Lh fun W k a1 hk kE hS=>by have:=I7 (i:=k) kE hF (hv.cons (A:=.box bx 129 (aM x v))) hD aI hS;rw[hL,BS (by rw[<-hN];exact hk)];exact this
 rw[<-hL];rw[<-hbx]at h0;have hcs:Hid (∀W a1,Sep w0 W (aD f q p S a1:: .box bx 129 (aM x v)::R)->W.cell? ⟨bx,0,none⟩=some (iV (x.kind:Nat))/\W.cell? ⟨bx,1,none⟩=some (iV (x.mode:Nat))/\W.cell? ⟨bx,2,none⟩=some (iV (x.links:Nat))/\W.cell? ⟨bx,3,none⟩=some (iV (N:Nat))/\W.cell? ⟨bx,4,none⟩=some v):=Lh fun W a1 hS=>by(have z:=fun j=>hS.bC 1 rfl j);rw[hN];exact⟨z 0,z 1,z 2,z 3,z 4⟩
 have azD:=Lh hLn;have hI0:Hid (Reads S a a/\Sep w0 (w.alloc (.cells (aM x v) 129)) (aD f q p S a:: .box bx 129 (aM x v)::R)):=Lh ⟨.refl hC,h0⟩;obtain⟨r,hr⟩:∃r,r=jY L name:=⟨_,rfl⟩;rw[<-hr];have hr':=Lh hr;clear hC hF hD h h0 hv hLn hL hN5 hr;subst hv0;unfold aC at*;unfold fB aM at*;rw[<-hN]at hcs hI0 hen ⊢;clear hN;go_enter Tryz.func139,Tryz.ntmps139;go_wp2_with fail;try rw[<-hbx]
 clear hbx;go_loopw[13] (fun i wr=>∃k:Nat,k<=N/\i=iV k/\Hid (∀j<k,(rT L j).1≠name)/\Hid (∃a1,Reads S a a1/\Sep w0 wr (aD f q p S a1:: .box bx 129 #[iV (x.kind:Nat),iV (x.mode:Nat),iV (x.links:Nat),iV (N:Nat),.slice A0 x.aB.length c0]::R))) (fun i _=>N-(intOf i).toNat)
 case atStart=>exact⟨0,fZ _,rfl,Lh fun j hj=>by omega,Lh ⟨a,hI0.out.1,hI0.out.2⟩⟩
 obtain⟨k,hk,rfl,hno,hS⟩:=hrel;clear hI0;obtain⟨a1,BU,hS1⟩:=hS.out;clear hS;by_cases hlt:k<N
 ·obtain⟨k0,k1,k2,k3,k4⟩:=hcs.out _ _ hS1;have hc:=hen.out _ k a1 hlt BU.ok hS1;(have q1:(k:Int)<N:=by omega);(have q0:(0:Int)<=k:=by omega);obtain⟨u,hu⟩:∃u,u=(rT L k).1:=⟨_,rfl⟩;obtain⟨z,hz⟩:∃z,z=(rT L k).2:=⟨_,rfl⟩;rw[<-hu,<-hz]at hc;have hu':=Lh hu;have hz':=Lh hz;have anC:=Lh BU;clear hS1 BU hu hz;by_cases hname:u=name
  ·(have e1:(u==name)=true:=by simpa using hname);(have e2:(u.toArray==name.toArray)=true:=by rw[hname];simp);have hname':=Lh hname;clear hname;go_wp2_with(go_at_call 108;refine hc.mono ?_;rintro e w9 ⟨rfl,a2,hR2,h9⟩;replace h9:=Lh h9;replace hR2:=Lh hR2)
   go_ret2
   refine⟨?_,a2,anC.out.trans hR2.out,(Sep.dC [1,0] h9.out aR bK).drop 1⟩;rw[hr'.out,anA (i:=k) (by rw[azD.out];exact hlt) (by rw[<-hu'.out];exact hname'.out) hno.out,<-hz'.out];rfl
  (have e1:(u==name)=false:=by simpa using hname);(have e2:(u.toArray==name.toArray)=false:=by simpa using hname);have hname':=Lh hname;clear hname;go_wp2_with(go_at_call 108;refine hc.mono ?_;rintro e w9 ⟨rfl,a2,hR2,h9⟩;replace h9:=Lh h9;replace hR2:=Lh hR2);refine⟨⟨k+1,by omega,rfl,Lh fun j hj=>?_,Lh ⟨a2,anC.out.trans hR2.out,h9.out⟩⟩,by simp[intOf];omega⟩;by_cases e:j=k
  ·rw[e,<-hu'.out];exact hname'.out
  exact hno.out j aI
 obtain rfl:k=N:=by omega
 go_wp2_with fail
 go_ret2
 refine⟨?_,a1,BU,(Sep.dC [1,0] hS1 aR bK).drop 1⟩;rw[hr'.out,anB fun j hj=>hno.out j (by rw[azD.out]at hj;exact hj)];rfl
end
end Go.Proofs.YtmjomdkleikgbaaGreat
