/- FsR, FsV, FsW, laid together. -/
import Derived.Test.YteihmbaimbogaaaGreatJ8
import Derived.Test.YteihmbaimbogaaaGreatJ9
namespace Go.Proofs.YteihmbaimbogaaaGreat
open Go.RowKit
set_option linter.unusedVariables false
set_option linter.unusedSimpArgs false
abbrev BM :=List (Nat×Value×List UInt8)
def zI (n:Nat):Lit:=.int .i64 (n:Int)
def fC (M:BM):List (Lit×Value):=M.map fun x=>(zI x.1,x.2.1)
def bV (M:BM) (k:Nat):Option (Value×List UInt8):=(M.find? fun x=>x.1==k).map (·.2)
def eY (M:BM) (k:Nat):BM:=M.filter fun x=> !(x.1==k)
def dC (M:BM):List aU:=M.map fun x=>aH x.2.1 x.2.2
def iI (b:Nat) (M:BM):aU:=.star (l7 3 b (fC M)) (.bX (dC M))
def KL (b:Nat) (M:BM) (k:Nat):aU:=.star (l7 3 b (fC M)) (.bX (dC (eY M k)))
theorem adF (n:Nat):WideAt.IsKeyLit (zI n):=by simp[zI,WideAt.IsKeyLit]
theorem LJ (a b:Nat):(zI a).sameKey (zI b)=(a==b):=by
 by_cases h:a=b
 ·subst h;rw[WideAt.sameKey_self (adF a)];simp
 rw[beq_eq_false_iff_ne.2 h];cases hs:(zI a).sameKey (zI b)with
 |false=>rfl
 |true=>have:=WideAt.sameKey_eq hs;unfold zI at this;injection this with _ h2;exact absurd (by omega) h
theorem QF (M:BM) (k:Nat):getM (fC M) (zI k)=(bV M k).map (·.1):=by
 unfold getM bV fC
 induction M with
 |nil=>rfl
 |cons x M ih=>
  rw[List.map_cons,List.find?_cons,List.find?_cons];simp only[LJ];cases h:x.1==k with
  |true=>rfl
  |false=>exact ih
theorem QG (M:BM) (k:Nat):uP (fC M) (zI k)=fC (eY M k):=by unfold uP fC eY;rw[List.filter_map];congr 1;apply List.filter_congr;intro x _;simp[LJ]
theorem FW (M:BM) (k:Nat) (v:Value) (bs:List UInt8):KM (fC M) (zI k) v=fC (eY M k++[(k,v,bs)]):=by unfold KM;rw[QG];unfold fC;simp
theorem gY (n:Nat) (h:n≤100000):keyOf Tryz.prog 3 (.int .i64 n)=some (zI n):=Maps.keyOf_int_mk Tryz.underlying3 (by simp[Lit.wf,IntKind.min,IntKind.max,IntKind.signed,IntKind.bits];omega)
theorem FY (w:World):(zeroValue 35).run Tryz.prog w= .ok (.slice none 0 0) w:=by kernel_rfl
theorem jL {M:BM} {k:Nat} {x:Value×List UInt8} (h:bV M k=some x):(k,x)∈M:=by
 unfold bV at h;rw[Option.map_eq_some_iff]at h;obtain⟨y,h1,rfl⟩:=h;have h2:=List.find?_some h1;have h3:=List.mem_of_find?_eq_some h1;have:y.1=k:=by simpa using h2
 rw[←this];exact h3
theorem U7 {M:BM} {k:Nat} (h:bV M k=none):∀x∈M,x.1≠k:=by unfold bV at h;rw[Option.map_eq_none_iff,List.find?_eq_none]at h;intro x hx;simpa using h x hx
theorem BP {M:BM} {k:Nat} (h:bV M k=none):eY M k=M:=by unfold eY;rw[List.filter_eq_self];intro x hx;simpa using U7 h x hx
section
variable {w0 w:World} {As R:List aU} {b:Nat} {M:BM}
theorem Sep.U8 (i:Nat) (h:Sep w0 w As) (hi:As[i]? =some (iI b M)):Sep w0 w (l7 3 b (fC M):: .bX (dC M)::(As.take i++As.drop (i+1))):=by have e:=(nM hi).1;rw[e]at h;exact(h.perm List.perm_middle).gX
theorem Sep.FZ (i:Nat) (h:Sep w0 w As) (hi:As[i]? =some (iI b M)) (k:Nat) (hk:k≤100000):
  (Instr.lookup 98 (.map (some b)) (.int .i64 k) true).run Tryz.prog w= .ok (.tuple #[((bV M k).map (·.1)).getD (.slice none 0 0),.bool (bV M k).isSome]) w:=by
 have h1:=(h.U8 i hi).alP 0 rfl dX Tryz.underlying98 (FY w) (gY k hk);rw[QF]at h1;rw[h1];cases bV M k<;>rfl
theorem Sep.U9 (i:Nat) (h:Sep w0 w As) (hi:As[i]? =some (iI b M)) {k:Nat} {v:Value} {bs:List UInt8} (hf:bV M k=some (v,bs)):BytesAt w v bs:=by have h1:=(h.U8 i hi).drop 1;have h2:Sep w0 w (dC M++(As.take i++As.drop (i+1))):=h1.aS;obtain⟨j,hj,e⟩:=List.getElem_of_mem (jL hf);exact h2.rd (sz:=1) (e:=5) j (by rw[List.getElem?_append_left (by unfold dC;rw[List.length_map];exact hj)];unfold dC;rw[List.getElem?_map,gE hj,e];rfl)
theorem Sep.F3 (i:Nat) (h:Sep w0 w As) (hi:As[i]? =some (iI b M)):(M.map (·.1)).Nodup:=by
 have h1:=((h.U8 i hi).FE 0 rfl).ne;unfold fC at h1;rw[List.pairwise_map]at h1;rw[List.nodup_iff_pairwise_ne,List.pairwise_map];refine h1.imp fun h e=>h ?_
 simp only[e]
theorem ZL {M:BM} {k:Nat} {v:Value} {bs:List UInt8} (hn:(M.map (·.1)).Nodup) (hf:bV M k=some (v,bs)):(dC M).Perm (aH v bs::dC (eY M k)):=by
 induction M with
 |nil=>cases hf
 |cons x M ih=>
  rw[List.map_cons,List.nodup_cons]at hn;unfold bV at hf;rw[List.find?_cons]at hf;cases hx:x.1==k with
  |true=>rw[hx]at hf;simp at hf;(have hk:x.1=k:=by simpa using hx);(have hno:bV M k=none:=by unfold bV;rw[Option.map_eq_none_iff,List.find?_eq_none];intro y hy hyk;(have:y.1=k:=by simpa using hyk);exact hn.1 (List.mem_map.2 ⟨y,hy,by rw[this,hk]⟩));(have e1:eY (x::M) k=M:=by unfold eY;rw[List.filter_cons,hx];exact BP hno);rw[e1];unfold dC;rw[List.map_cons,hf]
  |false=>rw[hx]at hf;have h1:=ih hn.2 hf;(have e1:eY (x::M) k=x::eY M k:=by unfold eY;rw[List.filter_cons,hx];rfl);rw[e1];unfold dC at h1 ⊢;rw[List.map_cons,List.map_cons];exact(List.Perm.cons _ h1).trans (List.Perm.swap _ _ _)
theorem Sep.aiP {k:Nat} {v:Value} {bs:List UInt8} (h:Sep w0 w (iI b M::R)) (hf:bV M k=some (v,bs)):Sep w0 w (aH v bs::KL b M k::R):=by have hn:=h.F3 0 rfl;have h1:=h.gX;have h2:Sep w0 w (.bX (dC M)::l7 3 b (fC M)::R):=h1.perm (List.Perm.swap _ _ _);have h3:=h2.aS;have h4:Sep w0 w (aH v bs::(dC (eY M k)++(l7 3 b (fC M)::R))):=h3.perm ((ZL hn hf).append_right _);have h5:Sep w0 w (dC (eY M k)++(aH v bs::l7 3 b (fC M)::R)):=h4.perm List.perm_middle.symm;have h6:=h5.bM;have h7:Sep w0 w (l7 3 b (fC M):: .bX (dC (eY M k))::aH v bs::R):=Sep.bZ [2,0,1] h6 (by decide) (by simp);exact(h7.jU).perm (List.Perm.swap _ _ _)
theorem Sep.zJ {k:Nat} (h:Sep w0 w (iI b M::R)) (hf:bV M k=none):Sep w0 w (KL b M k::R):=by unfold KL;rw[BP hf];exact h
theorem Sep.aiQ {k:Nat} {v:Value} {bs:List UInt8} (h:Sep w0 w (KL b M k::aH v bs::R)) (hk:k≤100000) (hlen:M.length<100000):
  ∃w',(Instr.mapUpdate 98 (.map (some b)) (.int .i64 k) v).run Tryz.prog w= .ok () w'∧Sep w0 w' (iI b (eY M k++[(k,v,bs)])::R):=by
 have h1:=h.gX;obtain⟨w',hrun,h2⟩:=h1.nU 0 rfl dX Tryz.underlying98 (by unfold fC;rw[List.length_map];unfold maxLen;omega) (v:=v) (gY k hk);refine⟨w',hrun,?_⟩;rw[FW M k v bs]at h2;have h3:Sep w0 w' (.bX (dC (eY M k))::l7 3 b (fC (eY M k++[(k,v,bs)]))::aH v bs::R):=h2.perm (List.Perm.swap _ _ _);have h4:=h3.aS;have e:dC (eY M k++[(k,v,bs)])=dC (eY M k)++[aH v bs]:=by unfold dC;simp
 have h5:Sep w0 w' (dC (eY M k++[(k,v,bs)])++(l7 3 b (fC (eY M k++[(k,v,bs)]))::R)):=by rw[e,List.append_assoc];refine h4.perm (List.Perm.append_left _ ?_);exact List.Perm.swap _ _ _
 exact((h5.bM).perm (List.Perm.swap _ _ _)).jU
theorem Sep.wN {k:Nat} {v:Value} {bs:List UInt8} (h:Sep w0 w (iI b M::aH v bs::R)) (hk:k≤100000) (hlen:M.length<100000) (hf:bV M k=none):
  ∃st w1 w2,(Instr.mapEntry 98 (.map (some b)) (.int .i64 k)).run Tryz.prog w= .ok (.tuple #[.slice none 0 0,.int .i64 st]) w1∧(Instr.entryStore 98 (.map (some b)) (.int .i64 st) v).run Tryz.prog w1= .ok () w2∧Sep w0 w2 (iI b (M++[(k,v,bs)])::R):=by
 have h1:=h.gX;obtain⟨st,w1,w2,r1,r2,h2,_⟩:=h1.adG 0 rfl dX Tryz.underlying98 FY (by unfold fC;rw[List.length_map];unfold maxLen;omega) (val:=v) (gY k hk) (by rw[QF,hf];rfl);refine⟨st,w1,w2,r1,r2,?_⟩;rw[FW M k v bs,BP hf]at h2;have h3:Sep w0 w2 (.bX (dC M)::l7 3 b (fC (M++[(k,v,bs)]))::aH v bs::R):=h2.perm (List.Perm.swap _ _ _);have h4:=h3.aS;have e:dC (M++[(k,v,bs)])=dC M++[aH v bs]:=by unfold dC;simp
 have h5:Sep w0 w2 (dC (M++[(k,v,bs)])++(l7 3 b (fC (M++[(k,v,bs)]))::R)):=by rw[e,List.append_assoc];refine h4.perm (List.Perm.append_left _ ?_);exact List.Perm.swap _ _ _
 exact((h5.bM).perm (List.Perm.swap _ _ _)).jU
theorem Sep.sS (h:Sep w0 w R):Sep w0 (w.alloc (.map #[] 0)) (iI w.heap.size []::R):=by have h1:=h.adH 3;have h2:Sep w0 (w.alloc (.map #[] 0)) (.bX (dC [])::l7 3 w.heap.size (fC [])::R):=h1.rH;exact(h2.perm (List.Perm.swap _ _ _)).jU
end
structure VS where
 nb:Nat
 names:Nat
 D:DK
 cur:dW
 wB:Int
 wI:Int
 nodes:Int
 rB:Int
 rI:Int
 m:Nat
structure VA where
 sb:Option Nat
 SM:BM
 fb:Nat
 FM:BM
structure VC (S:VS) (a:VA):Prop where
 l8:S.D.ok S.nb
 big:96<S.nb
 on:S.D.off=false
 cur:iX (S.nb-96) S.cur
 seen:∀x∈a.SM,x.1<S.nb-96∧x.2.2=bk S.D.now (96+x.1)
 fresh:∀x∈a.FM,x.1<S.nb-96∧x.2.2=bk S.cur x.1
 rest:∀k,k<S.nb-96→bV a.FM k=none→bk S.cur k=bk S.D.now (96+k)
 few:a.FM.length≤S.m
 none:a.sb=none→a.SM=[]
def jG (f q:Nat) (S:VS) (sb:Option Nat) (fv:Value) (dead:Bool):aU:=
 .box f 106 #[.pointer (some ⟨q,0,none⟩),.map sb,fv,.int .i64 S.names,.bool dead,fP S.wB S.wI,.int .i64 S.nodes,fP S.rB S.rI]
def dH :Option Nat→BM→aU
 |none,_=>.emp
 |some b,M=>iI b M
def oH (f q p:Nat) (S:VS) (a:VA):List aU:=[jG f q S a.sb (.map (some a.fb)) false,aD q p false,aJ p S.D,dH a.sb a.SM,iI a.fb a.FM]
def aG (f q p:Nat) (S:VS) (a:VA):aU:=.bX (oH f q p S a)
def uQ (f q p:Nat) (S:VS) (a:VA) (k:Nat):aU:=.bX [jG f q S a.sb (.map (some a.fb)) false,aD q p false,aJ p S.D,dH a.sb a.SM,KL a.fb a.FM k]
def VB (a:VA) (k:Nat) (v:Value) (bs:List UInt8):Prop:=bV a.FM k=some (v,bs)∨(bV a.FM k=none∧bV a.SM k=some (v,bs))
section
variable {w0 w:World} {R:List aU} {f q p:Nat} {S:VS} {a:VA}
theorem VC.short (h:VC S a) (hn:(a.SM.map (·.1)).Nodup):a.SM.length≤4000:=by
 have h1:(a.SM.map (·.1)).length≤(List.range (S.nb-96)).length:=List.Nodup.length_le_of_subset hn fun x hx=>by obtain⟨y,hy,rfl⟩:=List.mem_map.1 hx;exact List.mem_range.2 (h.seen y hy).1
 have h2:=h.l8.few;rw[List.length_map,List.length_range]at h1;omega
theorem VC.adI (h:VC S a) (hn:(a.FM.map (·.1)).Nodup):a.FM.length≤4000:=by
 have h1:(a.FM.map (·.1)).length≤(List.range (S.nb-96)).length:=List.Nodup.length_le_of_subset hn fun x hx=>by obtain⟨y,hy,rfl⟩:=List.mem_map.1 hx;exact List.mem_range.2 (h.fresh y hy).1
 have h2:=h.l8.few;rw[List.length_map,List.length_range]at h1;omega
theorem Sep.NW (h:Sep w0 w (aG f q p S a::R)) {k:Nat} {v:Value} {bs:List UInt8} (hp:VB a k v bs) (hn:a.sb=none→a.SM=[]):BytesAt w v bs:=by
 have h1:=h.aS;rcases hp with hf|⟨_,hf⟩
 ·exact h1.U9 4 rfl hf
 cases hs:a.sb with
 |none=>rw[hn hs]at hf;cases hf
 |some b=>refine h1.U9 (b:=b) 3 ?_ hf;(show some (dH a.sb a.SM)=_);rw[hs];rfl
theorem VB.tells {k:Nat} {v:Value} {bs:List UInt8} (hp:VB a k v bs) (hn:a.sb=none→a.SM=[]):iB w0 (aG f q p S a::R) v bs:=fun w' X hS=>by have h1:Sep w0 w' (aG f q p S a::(X++R)):=hS.perm List.perm_middle;exact h1.NW hp hn
theorem VC.adJ (h:VC S a) {k:Nat} (hk:k<S.nb-96):(bk S.cur k).length=512:=iL h.cur hk
theorem VC.X5 (h:VC S a) {k:Nat} (hk:k<S.nb-96):(bk S.D.now (96+k)).length=512:=iL h.l8.now (by omega)
set_option maxRecDepth 100000 in
set_option maxHeartbeats 1000000 in
theorem aiR {i:Nat} {v:Value} {bs:List UInt8} (hC:VC S a) (hi:i<S.nb-96) (hf:bV a.SM i=some (v,bs)) (h:Sep w0 w (aG f q p S a::R)):
  Calls Tryz.prog 136 #[.pointer (some ⟨f,0,none⟩),.int .i64 i] w fun e w'=>e= .returned v∧w'=w:=by
 obtain⟨b,hb⟩:∃b,a.sb=some b:=by
  cases hs:a.sb with
  |none=>rw[hC.none hs]at hf;cases hf
  |some b=>exact⟨b,rfl⟩
 have h1:=h.aS;have hl:=h1.FZ (b:=b) (M:=a.SM) 3 (by show some (dH a.sb a.SM)=_;rw[hb];rfl) i (by have:=hC.l8.few;omega);rw[hf]at hl;simp only[Option.map_some,Option.getD_some,Option.isSome_some]at hl;have c1:=h1.bC 0 rfl 1;rw[hb]at c1;simp only[gA,gB,gC]at c1;clear h1 h hC;go_enter Tryz.func136,Tryz.ntmps136;go_wp2_with fail;go_ret;exact⟨rfl,rfl⟩
def VA.read (a:VA) (b i:Nat) (v:Value) (bs:List UInt8):VA:= {a with sb:=some b,SM:=a.SM++[(i,v,bs)]}
theorem BQ {M:BM} {k:Nat} {v:Value} {bs:List UInt8} (h:bV M k=none):bV (M++[(k,v,bs)]) k=some (v,bs):=by unfold bV at h ⊢;rw[Option.map_eq_none_iff]at h;rw[List.find?_append,h,List.find?_cons];simp
theorem VC.read (hC:VC S a) (b:Nat) {i:Nat} (v:Value) (hi:i<S.nb-96):VC S (a.read b i v (bk S.D.now (96+i))):=
 ⟨hC.l8,hC.big,hC.on,hC.cur,fun x hx=>by
  rcases List.mem_append.1 hx with hx|hx
  ·exact hC.seen x hx
  rw[List.mem_singleton]at hx;subst hx;exact⟨hi,rfl⟩,hC.fresh,hC.rest,hC.few,fun h=>by cases h⟩
theorem dI (x:Int) (w:World):Calls Tryz.prog 43 #[.int .i64 x] w fun e w'=>e=(if x=0 then .returned (.tuple #[])else .panicked [{v:=.iface 153 (.agg #[.int .i64 x]),recovered:=false}])∧w'=w:=by
 by_cases hx:x=0
 ·subst hx;go_enter Tryz.func43,Tryz.ntmps43;go_wp2_with fail
  go_end0
  exact⟨rfl,rfl⟩
 rw[if_neg hx];go_enter Tryz.func43,Tryz.ntmps43;go_wp2_with fail;exact⟨rfl,rfl,rfl⟩
theorem LK (b:Nat) (w:World):(binOp .eql 98 (.map (some b)) (.map none)).run Tryz.prog w= .ok (.bool false) w:=by kernel_rfl
theorem LM (w:World):(binOp .eql 98 (.map none) (.map none)).run Tryz.prog w= .ok (.bool true) w:=by kernel_rfl
theorem zK (k:Nat) (w:World):(Instr.lookup 98 (.map none) (.int .i64 k) true).run Tryz.prog w= .ok (.tuple #[.slice none 0 0,.bool false]) w:=by kernel_rfl
set_option maxRecDepth 100000 in
set_option maxHeartbeats 1000000 in
theorem adK {i b:Nat} (hC:VC S a) (hi:i<S.nb-96) (hf:bV a.SM i=none) (hb:a.sb=some b) (h:Sep w0 w (aG f q p S a::R)):
  Calls Tryz.prog 136 #[.pointer (some ⟨f,0,none⟩),.int .i64 i] w fun e w'=>∃v,e= .returned v∧Sep w0 w' (aG f q p S (a.read b i v (bk S.D.now (96+i)))::R):=by
 have h1:=h.aS;unfold oH at h1;rw[hb]at h1;have hnd:=h1.F3 (b:=b) (M:=a.SM) 3 rfl;have hlen:=hC.short hnd;have hi2:i≤100000:=by have:=hC.l8.few;omega
 have hl:=h1.FZ (b:=b) (M:=a.SM) 3 rfl i hi2;rw[hf]at hl;simp only[Option.map_none,Option.getD_none,Option.isSome_none]at hl;have c1:=h1.bC 0 rfl 1;have c0:=h1.bC 0 rfl 0;simp only[gA,gB,gC]at c0 c1;have hrd:=qL (i:=i) (R:=jG f q S (some b) (.map (some a.fb)) false::iI b a.SM::iI a.fb a.FM::R) hC.l8 hC.big (by omega) hC.on (Sep.bZ [1,2,0] h1 (by decide) (by simp));have hend:∀W v,Sep w0 W (aH v (bk S.D.now (96+i))::aD q p false::aJ p S.D::jG f q S (some b) (.map (some a.fb)) false::iI b a.SM::iI a.fb a.FM::R)→
   W.cell? ⟨f,1,none⟩=some (.map (some b))∧∃st w1 w2,(Instr.mapEntry 98 (.map (some b)) (.int .i64 i)).run Tryz.prog W= .ok (.tuple #[.slice none 0 0,.int .i64 st]) w1∧(Instr.entryStore 98 (.map (some b)) (.int .i64 st) v).run Tryz.prog w1= .ok () w2∧Sep w0 w2 (aG f q p S (a.read b i v (bk S.D.now (96+i)))::R):=fun W v hS=>by
  have k1:=hS.bC 3 rfl 1;simp only[gA,gB,gC]at k1;have h2:Sep w0 W (iI b a.SM::aH v (bk S.D.now (96+i))::jG f q S (some b) (.map (some a.fb)) false::aD q p false::aJ p S.D::iI a.fb a.FM::R):=Sep.bZ [4,0,3,1,2] hS (by decide) (by simp);obtain⟨st,w1,w2,r1,r2,h3⟩:=h2.wN hi2 (by omega) hf;refine⟨k1,st,w1,w2,r1,r2,?_⟩;have h4:Sep w0 w2 (oH f q p S (a.read b i v (bk S.D.now (96+i)))++R):=Sep.bZ [1,2,3,0] h3 (by decide) (by simp);exact h4.bM
 clear hC hlen hi2 hi hnd h;have hm0:=LK b;go_enter Tryz.func136,Tryz.ntmps136;go_wp2_with(first |(go_at_call 172;refine hrd.mono ?_;rintro e w9 ⟨v,rfl,h9⟩;obtain⟨k1,st,w1,w2,r1,r2,h7⟩:=hend _ _ h9)|(go_at_call 43;refine(dI _ _).mono ?_;rintro e w8 ⟨rfl,h8⟩;obtain rfl:=h8.symm));go_ret;exact⟨_,rfl,h7⟩
set_option maxRecDepth 100000 in
set_option maxHeartbeats 1000000 in
theorem aiS {i:Nat} (hC:VC S a) (hi:i<S.nb-96) (hb:a.sb=none) (h:Sep w0 w (aG f q p S a::R)):
  Calls Tryz.prog 136 #[.pointer (some ⟨f,0,none⟩),.int .i64 i] w fun e w'=>∃v b,e= .returned v∧Sep w0 w' (aG f q p S (a.read b i v (bk S.D.now (96+i)))::R):=by
 have h1:=h.aS;unfold oH at h1;rw[hb]at h1;have hi2:i≤100000:=by have:=hC.l8.few;omega
 have hl:=zK i w;have c1:=h1.bC 0 rfl 1;have c0:=h1.bC 0 rfl 0;simp only[gA,gB,gC]at c0 c1;have hrd:=qL (i:=i) (R:=jG f q S none (.map (some a.fb)) false::iI a.fb a.FM::R) hC.l8 hC.big (by omega) hC.on ((Sep.bZ [3,1,2,0] h1 (by decide) (by simp)).drop 1);have hSM:=hC.none hb;have hend:∀W v,Sep w0 W (aH v (bk S.D.now (96+i))::aD q p false::aJ p S.D::jG f q S none (.map (some a.fb)) false::iI a.fb a.FM::R)→
   W.cell? ⟨f,1,none⟩=some (.map none)∧(W.alloc (.map #[] 0)).frozen? ⟨f,1,none⟩=false∧(W.alloc (.map #[] 0)).cell? ⟨f,1,none⟩=some (.map none)∧
   ((W.alloc (.map #[] 0)).setCell ⟨f,1,none⟩ (.map (some W.heap.size))).cell? ⟨f,1,none⟩=some (.map (some W.heap.size))∧∃st w1 w2,(Instr.mapEntry 98 (.map (some W.heap.size)) (.int .i64 i)).run Tryz.prog ((W.alloc (.map #[] 0)).setCell ⟨f,1,none⟩ (.map (some W.heap.size)))= .ok (.tuple #[.slice none 0 0,.int .i64 st]) w1∧(Instr.entryStore 98 (.map (some W.heap.size)) (.int .i64 st) v).run Tryz.prog w1= .ok () w2∧Sep w0 w2 (aG f q p S (a.read W.heap.size i v (bk S.D.now (96+i)))::R):=fun W v hS=>by
  have k1:=hS.bC 3 rfl 1;have h2:=hS.sS;have k2:=h2.bC 4 rfl 1;have k3:=h2.bF 4 rfl 1;have h3:=h2.bS 4 rfl 1 (.map (some W.heap.size));have k4:=h3.bC 4 rfl 1;simp only[gA,gB,gC]at k1 k2;refine⟨k1,k3,k2,?_,?_⟩
  ·rw[k4];rfl
  have h4:Sep w0 ((W.alloc (.map #[] 0)).setCell ⟨f,1,none⟩ (.map (some W.heap.size))) (iI W.heap.size []::aH v (bk S.D.now (96+i))::jG f q S (some W.heap.size) (.map (some a.fb)) false::aD q p false::aJ p S.D::iI a.fb a.FM::R):=Sep.bZ [0,1,4,2,3] h3 (by decide) (by simp);obtain⟨st,w1,w2,r1,r2,h5⟩:=h4.wN (k:=i) hi2 (by simp) rfl;refine⟨st,w1,w2,r1,r2,?_⟩;(have h6:Sep w0 w2 (oH f q p S (a.read W.heap.size i v (bk S.D.now (96+i)))++R):=by unfold oH VA.read;rw[hSM];exact Sep.bZ [1,2,3,0] h5 (by decide) (by simp));exact h6.bM
 clear hC hi2 hi h h1;have hm0:=LM;have hmm:= @run_makeMap Tryz.prog;go_enter Tryz.func136,Tryz.ntmps136;go_wp2_with(first |(go_at_call 172;refine hrd.mono ?_;rintro e w9 ⟨v,rfl,h9⟩;obtain⟨k1,k2,k3,k4,st,w1,w2,r1,r2,h7⟩:=hend _ _ h9;clear c1)|(go_at_call 43;refine(dI _ _).mono ?_;rintro e w8 ⟨rfl,h8⟩;obtain rfl:=h8.symm));go_ret;exact⟨_,_,rfl,h7⟩
structure Reads (S:VS) (a a':VA):Prop where
 ok:VC S a'
 fb:a'.fb=a.fb
 FM:a'.FM=a.FM
 more:∀k x,bV a.SM k=some x→bV a'.SM k=some x
theorem Reads.refl (h:VC S a):Reads S a a:=⟨h,rfl,rfl,fun _ _ h=>h⟩
theorem Reads.trans {b c:VA} (h1:Reads S a b) (h2:Reads S b c):Reads S a c:=⟨h2.ok,h2.fb.trans h1.fb,h2.FM.trans h1.FM,fun k x h=>h2.more k x (h1.more k x h)⟩
theorem BR {M N:BM} {k:Nat} {x:Value×List UInt8} (h:bV M k=some x):bV (M++N) k=some x:=by unfold bV at h ⊢;rw[Option.map_eq_some_iff]at h;obtain⟨y,h1,h2⟩:=h;rw[List.find?_append,h1,Option.some_or,Option.map_some,h2]
theorem X6 {i:Nat} (hC:VC S a) (hi:i<S.nb-96) (h:Sep w0 w (aG f q p S a::R)):
  Calls Tryz.prog 136 #[.pointer (some ⟨f,0,none⟩),.int .i64 i] w fun e w'=>∃v a',e= .returned v∧Reads S a a'∧bV a'.SM i=some (v,bk S.D.now (96+i))∧Sep w0 w' (aG f q p S a'::R):=by
 cases hf:bV a.SM i with
 |some x=>have hx:=hC.seen _ (jL hf);refine(aiR hC hi (v:=x.1) (bs:=x.2) hf h).mono ?_;rintro e w' ⟨rfl,rfl⟩;refine⟨_,a,rfl,.refl hC,?_,h⟩;have h2:x.2=bk S.D.now (96+i):=hx.2;rw[hf,←h2]
 |none=>
  have key:∀b v,Reads S a (a.read b i v (bk S.D.now (96+i)))∧bV (a.read b i v (bk S.D.now (96+i))).SM i=some (v,bk S.D.now (96+i)):=fun b v=>
   ⟨⟨hC.read b v hi,rfl,rfl,fun k x hx=>BR hx⟩,BQ hf⟩
  cases hb:a.sb with
  |some b=>refine(adK hC hi hf hb h).mono ?_;rintro e w' ⟨v,rfl,h9⟩;exact⟨v,_,rfl,(key b v).1,(key b v).2,h9⟩
  |none=>refine(aiS hC hi hb h).mono ?_;rintro e w' ⟨v,b,rfl,h9⟩;exact⟨v,_,rfl,(key b v).1,(key b v).2,h9⟩
theorem F4 {i:Nat} (hC:VC S a) (hi:i<S.nb-96) (h:Sep w0 w (aG f q p S a::R)):
  w.cell? ⟨f,2,none⟩=some (.map (some a.fb))∧(Instr.lookup 98 (.map (some a.fb)) (.int .i64 i) true).run Tryz.prog w= .ok (.tuple #[((bV a.FM i).map (·.1)).getD (.slice none 0 0),.bool (bV a.FM i).isSome]) w:=by
 have h1:=h.aS;refine⟨?_,h1.FZ 4 rfl i (by have:=hC.l8.few;omega)⟩;have c1:=h1.bC 0 rfl 2;simpa using c1
set_option maxRecDepth 100000 in
set_option maxHeartbeats 1000000 in
theorem QH {i:Nat} (hC:VC S a) (hi:i<S.nb-96) (h:Sep w0 w (aG f q p S a::R)):
  Calls Tryz.prog 122 #[.pointer (some ⟨f,0,none⟩),.int .i64 i] w fun e w'=>∃v a',e= .returned v∧Reads S a a'∧VB a' i v (bk S.cur i)∧Sep w0 w' (aG f q p S a'::R):=by
 obtain⟨c2,hl⟩:=F4 hC hi h;have ho:=X6 hC hi h;cases hf:bV a.FM i with
 |some x=>rw[hf]at hl;simp only[Option.map_some,Option.getD_some,Option.isSome_some]at hl;have hx:x.2=bk S.cur i:=(hC.fresh _ (jL hf)).2;have hp:VB a i x.1 (bk S.cur i):=.inl (by rw[hf,←hx]);have hR:=Reads.refl hC;clear ho hC hi hf hx;go_enter Tryz.func122,Tryz.ntmps122;go_wp2_with fail;go_ret;exact⟨_,a,rfl,hR,hp,h⟩
 |none=>rw[hf]at hl;simp only[Option.map_none,Option.getD_none,Option.isSome_none]at hl;have hr:=hC.rest i hi hf;clear h;go_enter Tryz.func122,Tryz.ntmps122;go_wp2_with(go_at_call 136;refine ho.mono ?_;rintro e w9 ⟨v,a',rfl,hR,hs,h9⟩);go_ret;exact⟨_,a',rfl,hR,.inr ⟨by rw[hR.FM];exact hf,by rw[hr];exact hs⟩,h9⟩
def wO (f q p:Nat) (S:VS) (a:VA) (k:Nat) (v:Value) (w0 w:World) (R:List aU):Prop:=
 (bV a.FM k=some (v,bk S.cur k)∧Sep w0 w (aG f q p S a::R))∨(bV a.FM k=none∧Sep w0 w (aG f q p S a::aH v (bk S.cur k)::R))
theorem wO.out {k:Nat} {v:Value} (h:wO f q p S a k v w0 w R):Sep w0 w (aH v (bk S.cur k)::uQ f q p S a k::R):=by
 rcases h with⟨hf,h⟩|⟨hf,h⟩
 ·have h1:=h.aS;have h2:Sep w0 w (iI a.fb a.FM::jG f q S a.sb (.map (some a.fb)) false::aD q p false::aJ p S.D::dH a.sb a.SM::R):=Sep.bZ [4,0,1,2,3] h1 (by decide) (by simp[oH]);have h3:=h2.aiP hf;have h4:Sep w0 w ([jG f q S a.sb (.map (some a.fb)) false,aD q p false,aJ p S.D,dH a.sb a.SM,KL a.fb a.FM k]++(aH v (bk S.cur k)::R)):=Sep.bZ [2,3,4,5,1,0] h3 (by decide) (by simp);exact(h4.bM).perm (List.Perm.swap _ _ _)
 have h1:=h.aS;have h2:Sep w0 w (iI a.fb a.FM::jG f q S a.sb (.map (some a.fb)) false::aD q p false::aJ p S.D::dH a.sb a.SM::aH v (bk S.cur k)::R):=Sep.bZ [4,0,1,2,3] h1 (by decide) (by simp[oH]);have h3:=h2.zJ hf;have h4:Sep w0 w ([jG f q S a.sb (.map (some a.fb)) false,aD q p false,aJ p S.D,dH a.sb a.SM,KL a.fb a.FM k]++(aH v (bk S.cur k)::R)):=Sep.bZ [1,2,3,4,0] h3 (by decide) (by simp);exact(h4.bM).perm (List.Perm.swap _ _ _)
end
def VS.data (S:VS):Nat:=2+(S.names+7)/8
def VS.count (S:VS):Nat:=S.nb-96-S.data
structure VF (S:VS):Prop where
 names:S.names≤1024
 room:96+S.data<S.nb
def VS.put (S:VS) (k:Nat) (bs:List UInt8):VS:= {S with cur:=S.cur.set k bs,m:=S.m+1}
def VA.put (a:VA) (k:Nat) (v:Value) (bs:List UInt8):VA:= {a with FM:=eY a.FM k++[(k,v,bs)]}
theorem ZM {M:BM} {k:Nat}:bV (eY M k) k=none:=by unfold bV eY;rw[Option.map_eq_none_iff,List.find?_eq_none];intro x hx;have:=(List.mem_filter.1 hx).2;simpa using this
theorem NY {M:BM} {k j:Nat} (h:j≠k):bV (eY M k) j=bV M j:=by
 unfold bV eY;congr 1
 induction M with
 |nil=>rfl
 |cons x M ih=>
  rw[List.filter_cons];by_cases hx:x.1=k
  ·(have e1:(x.1==k)=true:=by simpa using hx);(have e2:(x.1==j)=false:=by simp;omega);rw[e1,List.find?_cons,e2];exact ih
  (have e1:(x.1==k)=false:=by simpa using hx);rw[e1];simp only[Bool.not_false,if_true];rw[List.find?_cons,List.find?_cons,ih]
theorem ZN {M:BM} {k:Nat} {v:Value} {bs:List UInt8} (j:Nat):bV (eY M k++[(k,v,bs)]) j=if j=k then some (v,bs)else bV M j:=by
 by_cases e:j=k
 ·subst e;rw[if_pos rfl,BQ ZM]
 rw[if_neg e];have h1:=NY (M:=M) e;cases hf:bV (eY M k) j with
 |some x=>rw[BR hf,←h1,hf]
 |none=>rw[←h1,hf];unfold bV at hf ⊢;rw[Option.map_eq_none_iff]at hf ⊢;rw[List.find?_append,hf,List.find?_cons];(have e2:(k==j)=false:=by simp;omega);simp[e2]
section
variable {w0 w:World} {R:List aU} {f q p:Nat} {S:VS} {a:VA}
theorem VC.put (hC:VC S a) {k:Nat} (v:Value) {bs:List UInt8} (hk:k<S.nb-96) (hbs:bs.length=512):VC (S.put k bs) (a.put k v bs) where
 l8:=hC.l8
 big:=hC.big
 on:=hC.on
 cur:=hC.cur.set k hbs
 seen:=hC.seen
 fresh:=fun x hx=>by
  (show x.1<S.nb-96∧x.2.2=bk (S.cur.set k bs) x.1);rw[vC _ _ _ _ (by rw[hC.cur.len];exact hk)];rcases List.mem_append.1 hx with hx|hx
  ·have h1:=List.mem_filter.1 hx;(have h2:x.1≠k:=by simpa using h1.2);rw[if_neg h2];exact hC.fresh x h1.1
  rw[List.mem_singleton]at hx;subst hx;exact⟨hk,by rw[if_pos rfl]⟩
 rest:=fun j hj hf=>by
  have hf':bV (eY a.FM k++[(k,v,bs)]) j=Option.none:=hf;rw[ZN]at hf';(show bk (S.cur.set k bs) j=_);by_cases e:j=k
  ·rw[if_pos e]at hf';cases hf'
  rw[if_neg e]at hf';rw[vC _ _ _ _ (by rw[hC.cur.len];exact hk),if_neg e];exact hC.rest j hj hf'
 few:=by have h1:(eY a.FM k).length≤a.FM.length:=List.length_filter_le _ _;have h2:=hC.few;(show(eY a.FM k++[(k,v,bs)]).length≤S.m+1);rw[List.length_append];simp only[List.length_singleton];omega
 none:=hC.none
set_option maxRecDepth 100000 in
set_option maxHeartbeats 1000000 in
theorem FH {i:Nat} (hC:VC S a) (hi:i<S.nb-96) (h:Sep w0 w (aG f q p S a::R)):
  Calls Tryz.prog 79 #[.pointer (some ⟨f,0,none⟩),.int .i64 i] w fun e w'=>∃v a',e= .returned v∧Reads S a a'∧wO f q p S a' i v w0 w' R:=by
 obtain⟨c2,hl⟩:=F4 hC hi h;have ho:=X6 hC hi h;cases hf:bV a.FM i with
 |some x=>rw[hf]at hl;simp only[Option.map_some,Option.getD_some,Option.isSome_some]at hl;have hx:x.2=bk S.cur i:=(hC.fresh _ (jL hf)).2;(have hp:bV a.FM i=some (x.1,bk S.cur i):=by rw[hf,←hx]);have hR:=Reads.refl hC;clear ho hC hi hf hx;go_enter Tryz.func79,Tryz.ntmps79;go_wp2_with fail;go_ret;exact⟨_,a,rfl,hR,.inl ⟨hp,h⟩⟩
 |none=>rw[hf]at hl;simp only[Option.map_none,Option.getD_none,Option.isSome_none]at hl;have hr:=hC.rest i hi hf;have hlen:=hC.X5 hi;obtain⟨k0,iM,hk0,hk1,hk2⟩:=iQ jV;clear h hi;go_enter Tryz.func79,Tryz.ntmps79;go_wp2_with(first |(go_at_call 136;refine ho.mono ?_;rintro e w9 ⟨v,a',rfl,hR,hs,h9⟩;have hS:=Lh (h9.fO 5 1);have hrd:=Lh (h9.NW (.inr ⟨by rw[hR.FM];exact hf,hs⟩) hR.ok.none))|(at_builtin;refine bL 0 rfl _ _ 35 rfl 5 k0 (.int .u8 0) 1 1 Tryz.underlying35 iM hk0 hk1 hk2 rfl (by decide) hS.out _ 0 [] rfl rfl v 512 ((bk S.D.now (96+i)).map jP) rfl (by rw[←hlen];exact hrd.out) sU (by unfold maxLen;omega) (by omega) ?_;intro v3 w3 bG hz3));go_ret;refine⟨_,a',rfl,hR,.inr ⟨by rw[hR.FM];exact hf,?_⟩⟩;rw[hr];(have h8:Sep w0 w3 (aH v3 (bk S.D.now (96+i))::aG f q p S a'::R):=by rw[bE hlen];exact bG);exact h8.perm (List.Perm.swap _ _ _)
set_option maxRecDepth 100000 in
set_option maxHeartbeats 1000000 in
theorem sV {i:Nat} {v:Value} {bs:List UInt8} (hC:VC S a) (hi:i<S.nb-96) (h:Sep w0 w (aH v bs::uQ f q p S a i::R)):
  Calls Tryz.prog 88 #[.pointer (some ⟨f,0,none⟩),.int .i64 i,v] w fun e w'=>e= .returned (.tuple #[])∧Sep w0 w' (aG f q p (S.put i bs) (a.put i v bs)::R):=by
 have h1:Sep w0 w ([jG f q S a.sb (.map (some a.fb)) false,aD q p false,aJ p S.D,dH a.sb a.SM,KL a.fb a.FM i]++(aH v bs::R)):=(h.perm (List.Perm.swap _ _ _)).aS;have c2:=h1.bC 0 rfl 2;simp only[gA,gB,gC]at c2;have hkey:Sep w0 w (l7 3 a.fb (fC a.FM):: .bX (dC (eY a.FM i))::jG f q S a.sb (.map (some a.fb)) false::aD q p false::aJ p S.D::dH a.sb a.SM::aH v bs::R):=Sep.gX (Sep.bZ [4,0,1,2,3,5] h1 (by decide) (by simp));have hnd:(a.FM.map (·.1)).Nodup:=by have h1:=(hkey.FE 0 rfl).ne;unfold fC at h1;rw[List.pairwise_map]at h1;rw[List.nodup_iff_pairwise_ne,List.pairwise_map];(refine h1.imp fun h e=>h ?_);simp only[e]
 have h3:Sep w0 w (KL a.fb a.FM i::aH v bs::jG f q S a.sb (.map (some a.fb)) false::aD q p false::aJ p S.D::dH a.sb a.SM::R):=Sep.bZ [4,5,0,1,2,3] h1 (by decide) (by simp);obtain⟨w1,hrun,h4⟩:=h3.aiQ (by have:=hC.l8.few;omega) (by have:=hC.adI hnd;omega);have h5:Sep w0 w1 (aG f q p (S.put i bs) (a.put i v bs)::R):=by have h6:Sep w0 w1 (oH f q p (S.put i bs) (a.put i v bs)++R):=Sep.bZ [1,2,3,4,0] h4 (by decide) (by simp);exact h6.bM
 clear hkey h3 h h1 hC hi h4;go_enter Tryz.func88,Tryz.ntmps88;go_wp2_with fail
 go_end0
 exact⟨rfl,h5⟩
theorem zL (hC:VC S a) (hF:VF S) (h:w.cell? ⟨f,3,none⟩=some (.int .i64 S.names)):
  Calls Tryz.prog 120 #[.pointer (some ⟨f,0,none⟩)] w fun e w'=>e= .returned (.int .i64 S.data)∧w'=w:=by
 have hn:=hF.names;have e1:((S.data:Nat):Int)=2+((S.names:Int)+7)/8:=by unfold VS.data;omega
 rw[e1];obtain⟨N,hN⟩:∃N:Int,N=S.names:=⟨_,rfl⟩;have b0:0≤N:=by omega
 have b1:N≤1024:=by omega
 rw[←hN]at h ⊢;have q1:IntKind.i64.wrap (N+8)=N+8:=IntWalk.i64_in _ (by omega);have q2:IntKind.i64.wrap (N+7)=N+7:=IntWalk.i64_in _ (by omega);have q3:IntKind.i64.wrap ((N+7)/8)=(N+7)/8:=IntWalk.i64_in _ (by omega);have q4:IntKind.i64.wrap (2+(N+7)/8)=2+(N+7)/8:=IntWalk.i64_in _ (by omega);clear hC hF hn e1;go_enter Tryz.func120,Tryz.ntmps120;go_wp2_with fail;go_ret;refine⟨?_,rfl⟩;show Ending.returned (Value.int IntKind.i64 (2+((S.names:Int)+8-1)/8))=_
 rw[←hN,show N+8-1=N+7 by omega]
structure FsC (w:World) (f q:Nat) (S:VS) (a:VA):Prop where
 c0:w.cell? ⟨f,0,none⟩=some (.pointer (some ⟨q,0,none⟩))
 c1:w.cell? ⟨f,1,none⟩=some (.map a.sb)
 c2:w.cell? ⟨f,2,none⟩=some (.map (some a.fb))
 c3:w.cell? ⟨f,3,none⟩=some (.int .i64 S.names)
 c4:w.cell? ⟨f,4,none⟩=some (.bool false)
 c5:w.cell? ⟨f,5,none⟩=some (fP S.wB S.wI)
 c6:w.cell? ⟨f,6,none⟩=some (.int .i64 S.nodes)
 c7:w.cell? ⟨f,7,none⟩=some (fP S.rB S.rI)
theorem Sep.dK (h:Sep w0 w (aG f q p S a::R)):FsC w f q S a:=by
 have h1:=h.aS;have c:=fun j=>h1.bC 0 rfl j
 have c0:=c 0;have c1:=c 1;have c2:=c 2;have c3:=c 3;have c4:=c 4;have c5:=c 5;have c6:=c 6;have c7:=c 7;simp only[gA,gB,gC]at c0 c1 c2 c3 c4 c5 c6 c7;exact⟨c0,c1,c2,c3,c4,c5,c6,c7⟩
theorem wO.dK {k:Nat} {v:Value} (h:wO f q p S a k v w0 w R):FsC w f q S a:=by
 rcases h with⟨_,h⟩|⟨_,h⟩
 ·exact h.dK
 exact h.dK
set_option maxRecDepth 100000 in
theorem BS (hC:VC S a) (hF:VF S) (h:Sep w0 w (aG f q p S a::R)):
  Calls Tryz.prog 81 #[.pointer (some ⟨f,0,none⟩)] w fun e w'=>e= .returned (.int .i64 S.count)∧w'=w:=by
 have hc:=h.dK;have hd:=zL hC hF hc.c3;have c0:=hc.c0;have hbl:=vD (q:=q) (p:=p) (dead:=false) (R:=jG f q S a.sb (.map (some a.fb)) false::dH a.sb a.SM::iI a.fb a.FM::R) hC.l8 (by have:=hC.big;omega) (Sep.bZ [1,2,0,3,4] (h.aS) (by decide) (by simp[oH]));have hr:=hF.room;have e1:((S.count:Nat):Int)=((S.nb-96:Nat):Int)-S.data:=by unfold VS.count;omega
 have e2:((S.nb-96:Nat):Int)≤4096:=by have:=hC.l8.few;omega
 have e3:(0:Int)≤(S.data:Int):=by omega
 have e4:(S.data:Int)≤4096:=by have:=hC.l8.few;omega
 have e5:(0:Int)≤((S.nb-96:Nat):Int):=by omega
 rw[e1];obtain⟨N,hN⟩:∃N,N=S.nb-96:=⟨_,rfl⟩;obtain⟨M,hM⟩:∃M,M=S.data:=⟨_,rfl⟩;rw[←hN]at hbl e2 e5 ⊢;rw[←hM]at hd e3 e4 ⊢;clear e1 hr hN hM hc;go_enter Tryz.func81,Tryz.ntmps81;go_wp2_with(first |(go_at_call 133;refine hbl.mono ?_;rintro e w9 ⟨rfl,h9⟩;obtain rfl:=h9.symm)|(go_at_call 120;refine hd.mono ?_;rintro e w9 ⟨rfl,h9⟩;obtain rfl:=h9.symm));go_ret;exact⟨rfl,rfl⟩
end
end Go.Proofs.YteihmbaimbogaaaGreat
