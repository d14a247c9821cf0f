/- FsR, FsV, FsW, laid together. -/
import Derived.Test.YteihmbaimbogaaaGreatJ8
import Derived.Test.YteihmbaimbogaaaGreatJ9
namespace Go.Proofs.YteihmbaimbogaaaGreat
open Go.RowKit
set_option linter.unusedVariables false
set_option linter.unusedSimpArgs false
abbrev BM :=List (Nat×Value×List UInt8)
def keyB (n:Nat):Lit:=.int .i64 (n:Int)
def blkL (M:BM):List (Lit×Value):=M.map fun x=>(keyB x.1,x.2.1)
def findB (M:BM) (k:Nat):Option (Value×List UInt8):=(M.find? fun x=>x.1==k).map (·.2)
def delB (M:BM) (k:Nat):BM:=M.filter fun x=> !(x.1==k)
def blkP (M:BM):List Asn:=M.map fun x=>bytesR x.2.1 x.2.2
def blkM (b:Nat) (M:BM):Asn:=.star (gmR 3 b (blkL M)) (.starL (blkP M))
def blkO (b:Nat) (M:BM) (k:Nat):Asn:=.star (gmR 3 b (blkL M)) (.starL (blkP (delB M k)))
theorem keyB_key (n:Nat):WideAt.IsKeyLit (keyB n):=by simp[keyB,WideAt.IsKeyLit]
theorem keyB_same (a b:Nat):(keyB a).sameKey (keyB b)=(a==b):=by
 by_cases h:a=b
 ·subst h;rw[WideAt.sameKey_self (keyB_key a)];simp
 rw[beq_eq_false_iff_ne.2 h];cases hs:(keyB a).sameKey (keyB b)with
 |false=>rfl
 |true=>have:=WideAt.sameKey_eq hs;unfold keyB at this;injection this with _ h2;exact absurd (by omega) h
theorem getM_blk (M:BM) (k:Nat):getM (blkL M) (keyB k)=(findB M k).map (·.1):=by
 unfold getM findB blkL
 induction M with
 |nil=>rfl
 |cons x M ih=>
  rw[List.map_cons,List.find?_cons,List.find?_cons];simp only[keyB_same];cases h:x.1==k with
  |true=>rfl
  |false=>exact ih
theorem delM_blk (M:BM) (k:Nat):delM (blkL M) (keyB k)=blkL (delB M k):=by unfold delM blkL delB;rw[List.filter_map];congr 1;apply List.filter_congr;intro x _;simp[keyB_same]
theorem putM_blk (M:BM) (k:Nat) (v:Value) (bs:List UInt8):putM (blkL M) (keyB k) v=blkL (delB M k++[(k,v,bs)]):=by unfold putM;rw[delM_blk];unfold blkL;simp
theorem keyOf_blk (n:Nat) (h:n≤100000):keyOf Tryz.prog 3 (.int .i64 n)=some (keyB n):=Maps.keyOf_int_mk Tryz.underlying3 (by simp[Lit.wf,IntKind.min,IntKind.max,IntKind.signed,IntKind.bits];omega)
theorem zero_bytes (w:World):(zeroValue 35).run Tryz.prog w= .ok (.slice none 0 0) w:=by kernel_rfl
theorem findB_some {M:BM} {k:Nat} {x:Value×List UInt8} (h:findB M k=some x):(k,x)∈M:=by
 unfold findB at h;rw[Option.map_eq_some_iff]at h;obtain⟨y,h1,rfl⟩:=h;have h2:=List.find?_some h1;have h3:=List.mem_of_find?_eq_some h1;have:y.1=k:=by simpa using h2
 rw[←this];exact h3
theorem findB_none {M:BM} {k:Nat} (h:findB M k=none):∀x∈M,x.1≠k:=by unfold findB at h;rw[Option.map_eq_none_iff,List.find?_eq_none]at h;intro x hx;simpa using h x hx
theorem delB_none {M:BM} {k:Nat} (h:findB M k=none):delB M k=M:=by unfold delB;rw[List.filter_eq_self];intro x hx;simpa using findB_none h x hx
section
variable {w0 w:World} {As R:List Asn} {b:Nat} {M:BM}
theorem Sep.blk_gm (i:Nat) (h:Sep w0 w As) (hi:As[i]? =some (blkM b M)):Sep w0 w (gmR 3 b (blkL M):: .starL (blkP M)::(As.take i++As.drop (i+1))):=by have e:=(split_at hi).1;rw[e]at h;exact(h.perm List.perm_middle).star_open
theorem Sep.blk_ok (i:Nat) (h:Sep w0 w As) (hi:As[i]? =some (blkM b M)) (k:Nat) (hk:k≤100000):
  (Instr.lookup 98 (.map (some b)) (.int .i64 k) true).run Tryz.prog w= .ok (.tuple #[((findB M k).map (·.1)).getD (.slice none 0 0),.bool (findB M k).isSome]) w:=by
 have h1:=(h.blk_gm i hi).gm_ok 0 rfl keyed_int Tryz.underlying98 (zero_bytes w) (keyOf_blk k hk);rw[getM_blk]at h1;rw[h1];cases findB M k<;>rfl
theorem Sep.blk_rd (i:Nat) (h:Sep w0 w As) (hi:As[i]? =some (blkM b M)) {k:Nat} {v:Value} {bs:List UInt8} (hf:findB M k=some (v,bs)):BytesAt w v bs:=by have h1:=(h.blk_gm i hi).drop 1;have h2:Sep w0 w (blkP M++(As.take i++As.drop (i+1))):=h1.starL_open;obtain⟨j,hj,e⟩:=List.getElem_of_mem (findB_some hf);exact h2.rd (sz:=1) (e:=5) j (by rw[List.getElem?_append_left (by unfold blkP;rw[List.length_map];exact hj)];unfold blkP;rw[List.getElem?_map,gE hj,e];rfl)
theorem Sep.blk_keys (i:Nat) (h:Sep w0 w As) (hi:As[i]? =some (blkM b M)):(M.map (·.1)).Nodup:=by
 have h1:=((h.blk_gm i hi).gm_keys 0 rfl).ne;unfold blkL at h1;rw[List.pairwise_map]at h1;rw[List.nodup_iff_pairwise_ne,List.pairwise_map];refine h1.imp fun h e=>h ?_
 simp only[e]
theorem blkP_perm {M:BM} {k:Nat} {v:Value} {bs:List UInt8} (hn:(M.map (·.1)).Nodup) (hf:findB M k=some (v,bs)):(blkP M).Perm (bytesR v bs::blkP (delB M k)):=by
 induction M with
 |nil=>cases hf
 |cons x M ih=>
  rw[List.map_cons,List.nodup_cons]at hn;unfold findB at hf;rw[List.find?_cons]at hf;cases hx:x.1==k with
  |true=>rw[hx]at hf;simp at hf;(have hk:x.1=k:=by simpa using hx);(have hno:findB M k=none:=by unfold findB;rw[Option.map_eq_none_iff,List.find?_eq_none];intro y hy hyk;(have:y.1=k:=by simpa using hyk);exact hn.1 (List.mem_map.2 ⟨y,hy,by rw[this,hk]⟩));(have e1:delB (x::M) k=M:=by unfold delB;rw[List.filter_cons,hx];exact delB_none hno);rw[e1];unfold blkP;rw[List.map_cons,hf]
  |false=>rw[hx]at hf;have h1:=ih hn.2 hf;(have e1:delB (x::M) k=x::delB M k:=by unfold delB;rw[List.filter_cons,hx];rfl);rw[e1];unfold blkP at h1 ⊢;rw[List.map_cons,List.map_cons];exact(List.Perm.cons _ h1).trans (List.Perm.swap _ _ _)
theorem Sep.blk_out {k:Nat} {v:Value} {bs:List UInt8} (h:Sep w0 w (blkM b M::R)) (hf:findB M k=some (v,bs)):Sep w0 w (bytesR v bs::blkO b M k::R):=by have hn:=h.blk_keys 0 rfl;have h1:=h.star_open;have h2:Sep w0 w (.starL (blkP M)::gmR 3 b (blkL M)::R):=h1.perm (List.Perm.swap _ _ _);have h3:=h2.starL_open;have h4:Sep w0 w (bytesR v bs::(blkP (delB M k)++(gmR 3 b (blkL M)::R))):=h3.perm ((blkP_perm hn hf).append_right _);have h5:Sep w0 w (blkP (delB M k)++(bytesR v bs::gmR 3 b (blkL M)::R)):=h4.perm List.perm_middle.symm;have h6:=h5.starL_shut;have h7:Sep w0 w (gmR 3 b (blkL M):: .starL (blkP (delB M k))::bytesR v bs::R):=Sep.sel [2,0,1] h6 (by decide) (by simp);exact(h7.star_shut).perm (List.Perm.swap _ _ _)
theorem Sep.blk_out_none {k:Nat} (h:Sep w0 w (blkM b M::R)) (hf:findB M k=none):Sep w0 w (blkO b M k::R):=by unfold blkO;rw[delB_none hf];exact h
theorem Sep.blk_put {k:Nat} {v:Value} {bs:List UInt8} (h:Sep w0 w (blkO b M k::bytesR v bs::R)) (hk:k≤100000) (hlen:M.length<100000):
  ∃w',(Instr.mapUpdate 98 (.map (some b)) (.int .i64 k) v).run Tryz.prog w= .ok () w'∧Sep w0 w' (blkM b (delB M k++[(k,v,bs)])::R):=by
 have h1:=h.star_open;obtain⟨w',hrun,h2⟩:=h1.gm_put 0 rfl keyed_int Tryz.underlying98 (by unfold blkL;rw[List.length_map];unfold maxLen;omega) (v:=v) (keyOf_blk k hk);refine⟨w',hrun,?_⟩;rw[putM_blk M k v bs]at h2;have h3:Sep w0 w' (.starL (blkP (delB M k))::gmR 3 b (blkL (delB M k++[(k,v,bs)]))::bytesR v bs::R):=h2.perm (List.Perm.swap _ _ _);have h4:=h3.starL_open;have e:blkP (delB M k++[(k,v,bs)])=blkP (delB M k)++[bytesR v bs]:=by unfold blkP;simp
 have h5:Sep w0 w' (blkP (delB M k++[(k,v,bs)])++(gmR 3 b (blkL (delB M k++[(k,v,bs)]))::R)):=by rw[e,List.append_assoc];refine h4.perm (List.Perm.append_left _ ?_);exact List.Perm.swap _ _ _
 exact((h5.starL_shut).perm (List.Perm.swap _ _ _)).star_shut
theorem Sep.blk_entry {k:Nat} {v:Value} {bs:List UInt8} (h:Sep w0 w (blkM b M::bytesR v bs::R)) (hk:k≤100000) (hlen:M.length<100000) (hf:findB M k=none):
  ∃st w1 w2,(Instr.mapEntry 98 (.map (some b)) (.int .i64 k)).run Tryz.prog w= .ok (.tuple #[.slice none 0 0,.int .i64 st]) w1∧(Instr.entryStore 98 (.map (some b)) (.int .i64 st) v).run Tryz.prog w1= .ok () w2∧Sep w0 w2 (blkM b (M++[(k,v,bs)])::R):=by
 have h1:=h.star_open;obtain⟨st,w1,w2,r1,r2,h2,_⟩:=h1.gm_entry 0 rfl keyed_int Tryz.underlying98 zero_bytes (by unfold blkL;rw[List.length_map];unfold maxLen;omega) (val:=v) (keyOf_blk k hk) (by rw[getM_blk,hf];rfl);refine⟨st,w1,w2,r1,r2,?_⟩;rw[putM_blk M k v bs,delB_none hf]at h2;have h3:Sep w0 w2 (.starL (blkP M)::gmR 3 b (blkL (M++[(k,v,bs)]))::bytesR v bs::R):=h2.perm (List.Perm.swap _ _ _);have h4:=h3.starL_open;have e:blkP (M++[(k,v,bs)])=blkP M++[bytesR v bs]:=by unfold blkP;simp
 have h5:Sep w0 w2 (blkP (M++[(k,v,bs)])++(gmR 3 b (blkL (M++[(k,v,bs)]))::R)):=by rw[e,List.append_assoc];refine h4.perm (List.Perm.append_left _ ?_);exact List.Perm.swap _ _ _
 exact((h5.starL_shut).perm (List.Perm.swap _ _ _)).star_shut
theorem Sep.blk_new (h:Sep w0 w R):Sep w0 (w.alloc (.map #[] 0)) (blkM w.heap.size []::R):=by have h1:=h.gm_new 3;have h2:Sep w0 (w.alloc (.map #[] 0)) (.starL (blkP [])::gmR 3 w.heap.size (blkL [])::R):=h1.emp_shut;exact(h2.perm (List.Perm.swap _ _ _)).star_shut
end
structure VS where
 nb:Nat
 names:Nat
 D:DK
 cur:Blks
 wB:Int
 wI:Int
 nodes:Int
 rB:Int
 rI:Int
 m:Nat
structure VA where
 sb:Option Nat
 SM:BM
 fb:Nat
 FM:BM
structure VC (S:VS) (a:VA):Prop where
 dok:S.D.ok S.nb
 big:96<S.nb
 on:S.D.off=false
 cur:BlksOk (S.nb-96) S.cur
 seen:∀x∈a.SM,x.1<S.nb-96∧x.2.2=bk S.D.now (96+x.1)
 fresh:∀x∈a.FM,x.1<S.nb-96∧x.2.2=bk S.cur x.1
 rest:∀k,k<S.nb-96→findB a.FM k=none→bk S.cur k=bk S.D.now (96+k)
 few:a.FM.length≤S.m
 none:a.sb=none→a.SM=[]
def fsB (f q:Nat) (S:VS) (sb:Option Nat) (fv:Value) (dead:Bool):Asn:=
 .box f 106 #[.pointer (some ⟨q,0,none⟩),.map sb,fv,.int .i64 S.names,.bool dead,cplx S.wB S.wI,.int .i64 S.nodes,cplx S.rB S.rI]
def seenR :Option Nat→BM→Asn
 |none,_=>.emp
 |some b,M=>blkM b M
def volP (f q p:Nat) (S:VS) (a:VA):List Asn:=[fsB f q S a.sb (.map (some a.fb)) false,ledgerR q p false,diskR p S.D,seenR a.sb a.SM,blkM a.fb a.FM]
def volR (f q p:Nat) (S:VS) (a:VA):Asn:=.starL (volP f q p S a)
def volO (f q p:Nat) (S:VS) (a:VA) (k:Nat):Asn:=.starL [fsB f q S a.sb (.map (some a.fb)) false,ledgerR q p false,diskR p S.D,seenR a.sb a.SM,blkO a.fb a.FM k]
def Peek (a:VA) (k:Nat) (v:Value) (bs:List UInt8):Prop:=findB a.FM k=some (v,bs)∨(findB a.FM k=none∧findB a.SM k=some (v,bs))
section
variable {w0 w:World} {R:List Asn} {f q p:Nat} {S:VS} {a:VA}
theorem VC.short (h:VC S a) (hn:(a.SM.map (·.1)).Nodup):a.SM.length≤4000:=by
 have h1:(a.SM.map (·.1)).length≤(List.range (S.nb-96)).length:=List.Nodup.length_le_of_subset hn fun x hx=>by obtain⟨y,hy,rfl⟩:=List.mem_map.1 hx;exact List.mem_range.2 (h.seen y hy).1
 have h2:=h.dok.few;rw[List.length_map,List.length_range]at h1;omega
theorem VC.shortF (h:VC S a) (hn:(a.FM.map (·.1)).Nodup):a.FM.length≤4000:=by
 have h1:(a.FM.map (·.1)).length≤(List.range (S.nb-96)).length:=List.Nodup.length_le_of_subset hn fun x hx=>by obtain⟨y,hy,rfl⟩:=List.mem_map.1 hx;exact List.mem_range.2 (h.fresh y hy).1
 have h2:=h.dok.few;rw[List.length_map,List.length_range]at h1;omega
theorem Sep.peek_at (h:Sep w0 w (volR f q p S a::R)) {k:Nat} {v:Value} {bs:List UInt8} (hp:Peek a k v bs) (hn:a.sb=none→a.SM=[]):BytesAt w v bs:=by
 have h1:=h.starL_open;rcases hp with hf|⟨_,hf⟩
 ·exact h1.blk_rd 4 rfl hf
 cases hs:a.sb with
 |none=>rw[hn hs]at hf;cases hf
 |some b=>refine h1.blk_rd (b:=b) 3 ?_ hf;(show some (seenR a.sb a.SM)=_);rw[hs];rfl
theorem Peek.tells {k:Nat} {v:Value} {bs:List UInt8} (hp:Peek a k v bs) (hn:a.sb=none→a.SM=[]):Tells w0 (volR f q p S a::R) v bs:=fun w' X hS=>by have h1:Sep w0 w' (volR f q p S a::(X++R)):=hS.perm List.perm_middle;exact h1.peek_at hp hn
theorem VC.peek_len (h:VC S a) {k:Nat} (hk:k<S.nb-96):(bk S.cur k).length=512:=bk_len h.cur hk
theorem VC.now_len (h:VC S a) {k:Nat} (hk:k<S.nb-96):(bk S.D.now (96+k)).length=512:=bk_len h.dok.now (by omega)
set_option maxRecDepth 100000 in
set_option maxHeartbeats 1000000 in
theorem old_hit {i:Nat} {v:Value} {bs:List UInt8} (hC:VC S a) (hi:i<S.nb-96) (hf:findB a.SM i=some (v,bs)) (h:Sep w0 w (volR f q p S a::R)):
  Calls Tryz.prog 136 #[.pointer (some ⟨f,0,none⟩),.int .i64 i] w fun e w'=>e= .returned v∧w'=w:=by
 obtain⟨b,hb⟩:∃b,a.sb=some b:=by
  cases hs:a.sb with
  |none=>rw[hC.none hs]at hf;cases hf
  |some b=>exact⟨b,rfl⟩
 have h1:=h.starL_open;have hl:=h1.blk_ok (b:=b) (M:=a.SM) 3 (by show some (seenR a.sb a.SM)=_;rw[hb];rfl) i (by have:=hC.dok.few;omega);rw[hf]at hl;simp only[Option.map_some,Option.getD_some,Option.isSome_some]at hl;have c1:=h1.bC 0 rfl 1;rw[hb]at c1;simp only[gA,gB,gC]at c1;clear h1 h hC;go_enter Tryz.func136,Tryz.ntmps136;go_wp2_with fail;go_ret;exact⟨rfl,rfl⟩
def VA.read (a:VA) (b i:Nat) (v:Value) (bs:List UInt8):VA:= {a with sb:=some b,SM:=a.SM++[(i,v,bs)]}
theorem findB_new {M:BM} {k:Nat} {v:Value} {bs:List UInt8} (h:findB M k=none):findB (M++[(k,v,bs)]) k=some (v,bs):=by unfold findB at h ⊢;rw[Option.map_eq_none_iff]at h;rw[List.find?_append,h,List.find?_cons];simp
theorem VC.read (hC:VC S a) (b:Nat) {i:Nat} (v:Value) (hi:i<S.nb-96):VC S (a.read b i v (bk S.D.now (96+i))):=
 ⟨hC.dok,hC.big,hC.on,hC.cur,fun x hx=>by
  rcases List.mem_append.1 hx with hx|hx
  ·exact hC.seen x hx
  rw[List.mem_singleton]at hx;subst hx;exact⟨hi,rfl⟩,hC.fresh,hC.rest,hC.few,fun h=>by cases h⟩
theorem smust_any (x:Int) (w:World):Calls Tryz.prog 43 #[.int .i64 x] w fun e w'=>e=(if x=0 then .returned (.tuple #[])else .panicked [{v:=.iface 153 (.agg #[.int .i64 x]),recovered:=false}])∧w'=w:=by
 by_cases hx:x=0
 ·subst hx;go_enter Tryz.func43,Tryz.ntmps43;go_wp2_with fail
  go_end0
  exact⟨rfl,rfl⟩
 rw[if_neg hx];go_enter Tryz.func43,Tryz.ntmps43;go_wp2_with fail;exact⟨rfl,rfl,rfl⟩
theorem map_isnil (b:Nat) (w:World):(binOp .eql 98 (.map (some b)) (.map none)).run Tryz.prog w= .ok (.bool false) w:=by kernel_rfl
theorem map_nonil (w:World):(binOp .eql 98 (.map none) (.map none)).run Tryz.prog w= .ok (.bool true) w:=by kernel_rfl
theorem map_nil_look (k:Nat) (w:World):(Instr.lookup 98 (.map none) (.int .i64 k) true).run Tryz.prog w= .ok (.tuple #[.slice none 0 0,.bool false]) w:=by kernel_rfl
set_option maxRecDepth 100000 in
set_option maxHeartbeats 1000000 in
theorem old_miss {i b:Nat} (hC:VC S a) (hi:i<S.nb-96) (hf:findB a.SM i=none) (hb:a.sb=some b) (h:Sep w0 w (volR f q p S a::R)):
  Calls Tryz.prog 136 #[.pointer (some ⟨f,0,none⟩),.int .i64 i] w fun e w'=>∃v,e= .returned v∧Sep w0 w' (volR f q p S (a.read b i v (bk S.D.now (96+i)))::R):=by
 have h1:=h.starL_open;unfold volP at h1;rw[hb]at h1;have hnd:=h1.blk_keys (b:=b) (M:=a.SM) 3 rfl;have hlen:=hC.short hnd;have hi2:i≤100000:=by have:=hC.dok.few;omega
 have hl:=h1.blk_ok (b:=b) (M:=a.SM) 3 rfl i hi2;rw[hf]at hl;simp only[Option.map_none,Option.getD_none,Option.isSome_none]at hl;have c1:=h1.bC 0 rfl 1;have c0:=h1.bC 0 rfl 0;simp only[gA,gB,gC]at c0 c1;have hrd:=lReadAt_any (i:=i) (R:=fsB f q S (some b) (.map (some a.fb)) false::blkM b a.SM::blkM a.fb a.FM::R) hC.dok hC.big (by omega) hC.on (Sep.sel [1,2,0] h1 (by decide) (by simp));have hend:∀W v,Sep w0 W (bytesR v (bk S.D.now (96+i))::ledgerR q p false::diskR p S.D::fsB f q S (some b) (.map (some a.fb)) false::blkM b a.SM::blkM a.fb a.FM::R)→
   W.cell? ⟨f,1,none⟩=some (.map (some b))∧∃st w1 w2,(Instr.mapEntry 98 (.map (some b)) (.int .i64 i)).run Tryz.prog W= .ok (.tuple #[.slice none 0 0,.int .i64 st]) w1∧(Instr.entryStore 98 (.map (some b)) (.int .i64 st) v).run Tryz.prog w1= .ok () w2∧Sep w0 w2 (volR f q p S (a.read b i v (bk S.D.now (96+i)))::R):=fun W v hS=>by
  have k1:=hS.bC 3 rfl 1;simp only[gA,gB,gC]at k1;have h2:Sep w0 W (blkM b a.SM::bytesR v (bk S.D.now (96+i))::fsB f q S (some b) (.map (some a.fb)) false::ledgerR q p false::diskR p S.D::blkM a.fb a.FM::R):=Sep.sel [4,0,3,1,2] hS (by decide) (by simp);obtain⟨st,w1,w2,r1,r2,h3⟩:=h2.blk_entry hi2 (by omega) hf;refine⟨k1,st,w1,w2,r1,r2,?_⟩;have h4:Sep w0 w2 (volP f q p S (a.read b i v (bk S.D.now (96+i)))++R):=Sep.sel [1,2,3,0] h3 (by decide) (by simp);exact h4.starL_shut
 clear hC hlen hi2 hi hnd h;have hm0:=map_isnil b;go_enter Tryz.func136,Tryz.ntmps136;go_wp2_with(first |(go_at_call 172;refine hrd.mono ?_;rintro e w9 ⟨v,rfl,h9⟩;obtain⟨k1,st,w1,w2,r1,r2,h7⟩:=hend _ _ h9)|(go_at_call 43;refine(smust_any _ _).mono ?_;rintro e w8 ⟨rfl,h8⟩;obtain rfl:=h8.symm));go_ret;exact⟨_,rfl,h7⟩
set_option maxRecDepth 100000 in
set_option maxHeartbeats 1000000 in
theorem old_nil {i:Nat} (hC:VC S a) (hi:i<S.nb-96) (hb:a.sb=none) (h:Sep w0 w (volR f q p S a::R)):
  Calls Tryz.prog 136 #[.pointer (some ⟨f,0,none⟩),.int .i64 i] w fun e w'=>∃v b,e= .returned v∧Sep w0 w' (volR f q p S (a.read b i v (bk S.D.now (96+i)))::R):=by
 have h1:=h.starL_open;unfold volP at h1;rw[hb]at h1;have hi2:i≤100000:=by have:=hC.dok.few;omega
 have hl:=map_nil_look i w;have c1:=h1.bC 0 rfl 1;have c0:=h1.bC 0 rfl 0;simp only[gA,gB,gC]at c0 c1;have hrd:=lReadAt_any (i:=i) (R:=fsB f q S none (.map (some a.fb)) false::blkM a.fb a.FM::R) hC.dok hC.big (by omega) hC.on ((Sep.sel [3,1,2,0] h1 (by decide) (by simp)).drop 1);have hSM:=hC.none hb;have hend:∀W v,Sep w0 W (bytesR v (bk S.D.now (96+i))::ledgerR q p false::diskR p S.D::fsB f q S none (.map (some a.fb)) false::blkM a.fb a.FM::R)→
   W.cell? ⟨f,1,none⟩=some (.map none)∧(W.alloc (.map #[] 0)).frozen? ⟨f,1,none⟩=false∧(W.alloc (.map #[] 0)).cell? ⟨f,1,none⟩=some (.map none)∧
   ((W.alloc (.map #[] 0)).setCell ⟨f,1,none⟩ (.map (some W.heap.size))).cell? ⟨f,1,none⟩=some (.map (some W.heap.size))∧∃st w1 w2,(Instr.mapEntry 98 (.map (some W.heap.size)) (.int .i64 i)).run Tryz.prog ((W.alloc (.map #[] 0)).setCell ⟨f,1,none⟩ (.map (some W.heap.size)))= .ok (.tuple #[.slice none 0 0,.int .i64 st]) w1∧(Instr.entryStore 98 (.map (some W.heap.size)) (.int .i64 st) v).run Tryz.prog w1= .ok () w2∧Sep w0 w2 (volR f q p S (a.read W.heap.size i v (bk S.D.now (96+i)))::R):=fun W v hS=>by
  have k1:=hS.bC 3 rfl 1;have h2:=hS.blk_new;have k2:=h2.bC 4 rfl 1;have k3:=h2.bF 4 rfl 1;have h3:=h2.bS 4 rfl 1 (.map (some W.heap.size));have k4:=h3.bC 4 rfl 1;simp only[gA,gB,gC]at k1 k2;refine⟨k1,k3,k2,?_,?_⟩
  ·rw[k4];rfl
  have h4:Sep w0 ((W.alloc (.map #[] 0)).setCell ⟨f,1,none⟩ (.map (some W.heap.size))) (blkM W.heap.size []::bytesR v (bk S.D.now (96+i))::fsB f q S (some W.heap.size) (.map (some a.fb)) false::ledgerR q p false::diskR p S.D::blkM a.fb a.FM::R):=Sep.sel [0,1,4,2,3] h3 (by decide) (by simp);obtain⟨st,w1,w2,r1,r2,h5⟩:=h4.blk_entry (k:=i) hi2 (by simp) rfl;refine⟨st,w1,w2,r1,r2,?_⟩;(have h6:Sep w0 w2 (volP f q p S (a.read W.heap.size i v (bk S.D.now (96+i)))++R):=by unfold volP VA.read;rw[hSM];exact Sep.sel [1,2,3,0] h5 (by decide) (by simp));exact h6.starL_shut
 clear hC hi2 hi h h1;have hm0:=map_nonil;have hmm:= @run_makeMap Tryz.prog;go_enter Tryz.func136,Tryz.ntmps136;go_wp2_with(first |(go_at_call 172;refine hrd.mono ?_;rintro e w9 ⟨v,rfl,h9⟩;obtain⟨k1,k2,k3,k4,st,w1,w2,r1,r2,h7⟩:=hend _ _ h9;clear c1)|(go_at_call 43;refine(smust_any _ _).mono ?_;rintro e w8 ⟨rfl,h8⟩;obtain rfl:=h8.symm));go_ret;exact⟨_,_,rfl,h7⟩
structure Reads (S:VS) (a a':VA):Prop where
 ok:VC S a'
 fb:a'.fb=a.fb
 FM:a'.FM=a.FM
 more:∀k x,findB a.SM k=some x→findB a'.SM k=some x
theorem Reads.refl (h:VC S a):Reads S a a:=⟨h,rfl,rfl,fun _ _ h=>h⟩
theorem Reads.trans {b c:VA} (h1:Reads S a b) (h2:Reads S b c):Reads S a c:=⟨h2.ok,h2.fb.trans h1.fb,h2.FM.trans h1.FM,fun k x h=>h2.more k x (h1.more k x h)⟩
theorem findB_app {M N:BM} {k:Nat} {x:Value×List UInt8} (h:findB M k=some x):findB (M++N) k=some x:=by unfold findB at h ⊢;rw[Option.map_eq_some_iff]at h;obtain⟨y,h1,h2⟩:=h;rw[List.find?_append,h1,Option.some_or,Option.map_some,h2]
theorem old_any {i:Nat} (hC:VC S a) (hi:i<S.nb-96) (h:Sep w0 w (volR f q p S a::R)):
  Calls Tryz.prog 136 #[.pointer (some ⟨f,0,none⟩),.int .i64 i] w fun e w'=>∃v a',e= .returned v∧Reads S a a'∧findB a'.SM i=some (v,bk S.D.now (96+i))∧Sep w0 w' (volR f q p S a'::R):=by
 cases hf:findB a.SM i with
 |some x=>have hx:=hC.seen _ (findB_some hf);refine(old_hit hC hi (v:=x.1) (bs:=x.2) hf h).mono ?_;rintro e w' ⟨rfl,rfl⟩;refine⟨_,a,rfl,.refl hC,?_,h⟩;have h2:x.2=bk S.D.now (96+i):=hx.2;rw[hf,←h2]
 |none=>
  have key:∀b v,Reads S a (a.read b i v (bk S.D.now (96+i)))∧findB (a.read b i v (bk S.D.now (96+i))).SM i=some (v,bk S.D.now (96+i)):=fun b v=>
   ⟨⟨hC.read b v hi,rfl,rfl,fun k x hx=>findB_app hx⟩,findB_new hf⟩
  cases hb:a.sb with
  |some b=>refine(old_miss hC hi hf hb h).mono ?_;rintro e w' ⟨v,rfl,h9⟩;exact⟨v,_,rfl,(key b v).1,(key b v).2,h9⟩
  |none=>refine(old_nil hC hi hb h).mono ?_;rintro e w' ⟨v,b,rfl,h9⟩;exact⟨v,_,rfl,(key b v).1,(key b v).2,h9⟩
theorem fresh_look {i:Nat} (hC:VC S a) (hi:i<S.nb-96) (h:Sep w0 w (volR f q p S a::R)):
  w.cell? ⟨f,2,none⟩=some (.map (some a.fb))∧(Instr.lookup 98 (.map (some a.fb)) (.int .i64 i) true).run Tryz.prog w= .ok (.tuple #[((findB a.FM i).map (·.1)).getD (.slice none 0 0),.bool (findB a.FM i).isSome]) w:=by
 have h1:=h.starL_open;refine⟨?_,h1.blk_ok 4 rfl i (by have:=hC.dok.few;omega)⟩;have c1:=h1.bC 0 rfl 2;simpa using c1
set_option maxRecDepth 100000 in
set_option maxHeartbeats 1000000 in
theorem peek_any {i:Nat} (hC:VC S a) (hi:i<S.nb-96) (h:Sep w0 w (volR f q p S a::R)):
  Calls Tryz.prog 122 #[.pointer (some ⟨f,0,none⟩),.int .i64 i] w fun e w'=>∃v a',e= .returned v∧Reads S a a'∧Peek a' i v (bk S.cur i)∧Sep w0 w' (volR f q p S a'::R):=by
 obtain⟨c2,hl⟩:=fresh_look hC hi h;have ho:=old_any hC hi h;cases hf:findB a.FM i with
 |some x=>rw[hf]at hl;simp only[Option.map_some,Option.getD_some,Option.isSome_some]at hl;have hx:x.2=bk S.cur i:=(hC.fresh _ (findB_some hf)).2;have hp:Peek a i x.1 (bk S.cur i):=.inl (by rw[hf,←hx]);have hR:=Reads.refl hC;clear ho hC hi hf hx;go_enter Tryz.func122,Tryz.ntmps122;go_wp2_with fail;go_ret;exact⟨_,a,rfl,hR,hp,h⟩
 |none=>rw[hf]at hl;simp only[Option.map_none,Option.getD_none,Option.isSome_none]at hl;have hr:=hC.rest i hi hf;clear h;go_enter Tryz.func122,Tryz.ntmps122;go_wp2_with(go_at_call 136;refine ho.mono ?_;rintro e w9 ⟨v,a',rfl,hR,hs,h9⟩);go_ret;exact⟨_,a',rfl,hR,.inr ⟨by rw[hR.FM];exact hf,by rw[hr];exact hs⟩,h9⟩
def Got (f q p:Nat) (S:VS) (a:VA) (k:Nat) (v:Value) (w0 w:World) (R:List Asn):Prop:=
 (findB a.FM k=some (v,bk S.cur k)∧Sep w0 w (volR f q p S a::R))∨(findB a.FM k=none∧Sep w0 w (volR f q p S a::bytesR v (bk S.cur k)::R))
theorem Got.out {k:Nat} {v:Value} (h:Got f q p S a k v w0 w R):Sep w0 w (bytesR v (bk S.cur k)::volO f q p S a k::R):=by
 rcases h with⟨hf,h⟩|⟨hf,h⟩
 ·have h1:=h.starL_open;have h2:Sep w0 w (blkM a.fb a.FM::fsB f q S a.sb (.map (some a.fb)) false::ledgerR q p false::diskR p S.D::seenR a.sb a.SM::R):=Sep.sel [4,0,1,2,3] h1 (by decide) (by simp[volP]);have h3:=h2.blk_out hf;have h4:Sep w0 w ([fsB f q S a.sb (.map (some a.fb)) false,ledgerR q p false,diskR p S.D,seenR a.sb a.SM,blkO a.fb a.FM k]++(bytesR v (bk S.cur k)::R)):=Sep.sel [2,3,4,5,1,0] h3 (by decide) (by simp);exact(h4.starL_shut).perm (List.Perm.swap _ _ _)
 have h1:=h.starL_open;have h2:Sep w0 w (blkM a.fb a.FM::fsB f q S a.sb (.map (some a.fb)) false::ledgerR q p false::diskR p S.D::seenR a.sb a.SM::bytesR v (bk S.cur k)::R):=Sep.sel [4,0,1,2,3] h1 (by decide) (by simp[volP]);have h3:=h2.blk_out_none hf;have h4:Sep w0 w ([fsB f q S a.sb (.map (some a.fb)) false,ledgerR q p false,diskR p S.D,seenR a.sb a.SM,blkO a.fb a.FM k]++(bytesR v (bk S.cur k)::R)):=Sep.sel [1,2,3,4,0] h3 (by decide) (by simp);exact(h4.starL_shut).perm (List.Perm.swap _ _ _)
end
def VS.data (S:VS):Nat:=2+(S.names+7)/8
def VS.count (S:VS):Nat:=S.nb-96-S.data
structure VF (S:VS):Prop where
 names:S.names≤1024
 room:96+S.data<S.nb
def VS.put (S:VS) (k:Nat) (bs:List UInt8):VS:= {S with cur:=S.cur.set k bs,m:=S.m+1}
def VA.put (a:VA) (k:Nat) (v:Value) (bs:List UInt8):VA:= {a with FM:=delB a.FM k++[(k,v,bs)]}
theorem findB_del {M:BM} {k:Nat}:findB (delB M k) k=none:=by unfold findB delB;rw[Option.map_eq_none_iff,List.find?_eq_none];intro x hx;have:=(List.mem_filter.1 hx).2;simpa using this
theorem findB_del_ne {M:BM} {k j:Nat} (h:j≠k):findB (delB M k) j=findB M j:=by
 unfold findB delB;congr 1
 induction M with
 |nil=>rfl
 |cons x M ih=>
  rw[List.filter_cons];by_cases hx:x.1=k
  ·(have e1:(x.1==k)=true:=by simpa using hx);(have e2:(x.1==j)=false:=by simp;omega);rw[e1,List.find?_cons,e2];exact ih
  (have e1:(x.1==k)=false:=by simpa using hx);rw[e1];simp only[Bool.not_false,if_true];rw[List.find?_cons,List.find?_cons,ih]
theorem findB_put {M:BM} {k:Nat} {v:Value} {bs:List UInt8} (j:Nat):findB (delB M k++[(k,v,bs)]) j=if j=k then some (v,bs)else findB M j:=by
 by_cases e:j=k
 ·subst e;rw[if_pos rfl,findB_new findB_del]
 rw[if_neg e];have h1:=findB_del_ne (M:=M) e;cases hf:findB (delB M k) j with
 |some x=>rw[findB_app hf,←h1,hf]
 |none=>rw[←h1,hf];unfold findB at hf ⊢;rw[Option.map_eq_none_iff]at hf ⊢;rw[List.find?_append,hf,List.find?_cons];(have e2:(k==j)=false:=by simp;omega);simp[e2]
section
variable {w0 w:World} {R:List Asn} {f q p:Nat} {S:VS} {a:VA}
theorem VC.put (hC:VC S a) {k:Nat} (v:Value) {bs:List UInt8} (hk:k<S.nb-96) (hbs:bs.length=512):VC (S.put k bs) (a.put k v bs) where
 dok:=hC.dok
 big:=hC.big
 on:=hC.on
 cur:=hC.cur.set k hbs
 seen:=hC.seen
 fresh:=fun x hx=>by
  (show x.1<S.nb-96∧x.2.2=bk (S.cur.set k bs) x.1);rw[bk_set _ _ _ _ (by rw[hC.cur.len];exact hk)];rcases List.mem_append.1 hx with hx|hx
  ·have h1:=List.mem_filter.1 hx;(have h2:x.1≠k:=by simpa using h1.2);rw[if_neg h2];exact hC.fresh x h1.1
  rw[List.mem_singleton]at hx;subst hx;exact⟨hk,by rw[if_pos rfl]⟩
 rest:=fun j hj hf=>by
  have hf':findB (delB a.FM k++[(k,v,bs)]) j=Option.none:=hf;rw[findB_put]at hf';(show bk (S.cur.set k bs) j=_);by_cases e:j=k
  ·rw[if_pos e]at hf';cases hf'
  rw[if_neg e]at hf';rw[bk_set _ _ _ _ (by rw[hC.cur.len];exact hk),if_neg e];exact hC.rest j hj hf'
 few:=by have h1:(delB a.FM k).length≤a.FM.length:=List.length_filter_le _ _;have h2:=hC.few;(show(delB a.FM k++[(k,v,bs)]).length≤S.m+1);rw[List.length_append];simp only[List.length_singleton];omega
 none:=hC.none
set_option maxRecDepth 100000 in
set_option maxHeartbeats 1000000 in
theorem get_blk {i:Nat} (hC:VC S a) (hi:i<S.nb-96) (h:Sep w0 w (volR f q p S a::R)):
  Calls Tryz.prog 79 #[.pointer (some ⟨f,0,none⟩),.int .i64 i] w fun e w'=>∃v a',e= .returned v∧Reads S a a'∧Got f q p S a' i v w0 w' R:=by
 obtain⟨c2,hl⟩:=fresh_look hC hi h;have ho:=old_any hC hi h;cases hf:findB a.FM i with
 |some x=>rw[hf]at hl;simp only[Option.map_some,Option.getD_some,Option.isSome_some]at hl;have hx:x.2=bk S.cur i:=(hC.fresh _ (findB_some hf)).2;(have hp:findB a.FM i=some (x.1,bk S.cur i):=by rw[hf,←hx]);have hR:=Reads.refl hC;clear ho hC hi hf hx;go_enter Tryz.func79,Tryz.ntmps79;go_wp2_with fail;go_ret;exact⟨_,a,rfl,hR,.inl ⟨hp,h⟩⟩
 |none=>rw[hf]at hl;simp only[Option.map_none,Option.getD_none,Option.isSome_none]at hl;have hr:=hC.rest i hi hf;have hlen:=hC.now_len hi;obtain⟨k0,hknf,hk0,hk1,hk2⟩:=info_of info_byte;clear h hi;go_enter Tryz.func79,Tryz.ntmps79;go_wp2_with(first |(go_at_call 136;refine ho.mono ?_;rintro e w9 ⟨v,a',rfl,hR,hs,h9⟩;have hS:=Lh (h9.sl_nil 5 1);have hrd:=Lh (h9.peek_at (.inr ⟨by rw[hR.FM];exact hf,hs⟩) hR.ok.none))|(at_builtin;refine wpList_append_any_sep 0 rfl _ _ 35 rfl 5 k0 (.int .u8 0) 1 1 Tryz.underlying35 hknf hk0 hk1 hk2 rfl (by decide) hS.out _ 0 [] rfl rfl v 512 ((bk S.D.now (96+i)).map byt) rfl (by rw[←hlen];exact hrd.out) byt_one (by unfold maxLen;omega) (by omega) ?_;intro v3 w3 hS3 hz3));go_ret;refine⟨_,a',rfl,hR,.inr ⟨by rw[hR.FM];exact hf,?_⟩⟩;rw[hr];(have h8:Sep w0 w3 (bytesR v3 (bk S.D.now (96+i))::volR f q p S a'::R):=by rw[bytesR_of hlen];exact hS3);exact h8.perm (List.Perm.swap _ _ _)
set_option maxRecDepth 100000 in
set_option maxHeartbeats 1000000 in
theorem put_blk {i:Nat} {v:Value} {bs:List UInt8} (hC:VC S a) (hi:i<S.nb-96) (h:Sep w0 w (bytesR v bs::volO f q p S a i::R)):
  Calls Tryz.prog 88 #[.pointer (some ⟨f,0,none⟩),.int .i64 i,v] w fun e w'=>e= .returned (.tuple #[])∧Sep w0 w' (volR f q p (S.put i bs) (a.put i v bs)::R):=by
 have h1:Sep w0 w ([fsB f q S a.sb (.map (some a.fb)) false,ledgerR q p false,diskR p S.D,seenR a.sb a.SM,blkO a.fb a.FM i]++(bytesR v bs::R)):=(h.perm (List.Perm.swap _ _ _)).starL_open;have c2:=h1.bC 0 rfl 2;simp only[gA,gB,gC]at c2;have hkey:Sep w0 w (gmR 3 a.fb (blkL a.FM):: .starL (blkP (delB a.FM i))::fsB f q S a.sb (.map (some a.fb)) false::ledgerR q p false::diskR p S.D::seenR a.sb a.SM::bytesR v bs::R):=Sep.star_open (Sep.sel [4,0,1,2,3,5] h1 (by decide) (by simp));have hnd:(a.FM.map (·.1)).Nodup:=by have h1:=(hkey.gm_keys 0 rfl).ne;unfold blkL at h1;rw[List.pairwise_map]at h1;rw[List.nodup_iff_pairwise_ne,List.pairwise_map];(refine h1.imp fun h e=>h ?_);simp only[e]
 have h3:Sep w0 w (blkO a.fb a.FM i::bytesR v bs::fsB f q S a.sb (.map (some a.fb)) false::ledgerR q p false::diskR p S.D::seenR a.sb a.SM::R):=Sep.sel [4,5,0,1,2,3] h1 (by decide) (by simp);obtain⟨w1,hrun,h4⟩:=h3.blk_put (by have:=hC.dok.few;omega) (by have:=hC.shortF hnd;omega);have h5:Sep w0 w1 (volR f q p (S.put i bs) (a.put i v bs)::R):=by have h6:Sep w0 w1 (volP f q p (S.put i bs) (a.put i v bs)++R):=Sep.sel [1,2,3,4,0] h4 (by decide) (by simp);exact h6.starL_shut
 clear hkey h3 h h1 hC hi h4;go_enter Tryz.func88,Tryz.ntmps88;go_wp2_with fail
 go_end0
 exact⟨rfl,h5⟩
theorem data_any (hC:VC S a) (hF:VF S) (h:w.cell? ⟨f,3,none⟩=some (.int .i64 S.names)):
  Calls Tryz.prog 120 #[.pointer (some ⟨f,0,none⟩)] w fun e w'=>e= .returned (.int .i64 S.data)∧w'=w:=by
 have hn:=hF.names;have e1:((S.data:Nat):Int)=2+((S.names:Int)+7)/8:=by unfold VS.data;omega
 rw[e1];obtain⟨N,hN⟩:∃N:Int,N=S.names:=⟨_,rfl⟩;have b0:0≤N:=by omega
 have b1:N≤1024:=by omega
 rw[←hN]at h ⊢;have q1:IntKind.i64.wrap (N+8)=N+8:=IntWalk.i64_in _ (by omega);have q2:IntKind.i64.wrap (N+7)=N+7:=IntWalk.i64_in _ (by omega);have q3:IntKind.i64.wrap ((N+7)/8)=(N+7)/8:=IntWalk.i64_in _ (by omega);have q4:IntKind.i64.wrap (2+(N+7)/8)=2+(N+7)/8:=IntWalk.i64_in _ (by omega);clear hC hF hn e1;go_enter Tryz.func120,Tryz.ntmps120;go_wp2_with fail;go_ret;refine⟨?_,rfl⟩;show Ending.returned (Value.int IntKind.i64 (2+((S.names:Int)+8-1)/8))=_
 rw[←hN,show N+8-1=N+7 by omega]
structure FsC (w:World) (f q:Nat) (S:VS) (a:VA):Prop where
 c0:w.cell? ⟨f,0,none⟩=some (.pointer (some ⟨q,0,none⟩))
 c1:w.cell? ⟨f,1,none⟩=some (.map a.sb)
 c2:w.cell? ⟨f,2,none⟩=some (.map (some a.fb))
 c3:w.cell? ⟨f,3,none⟩=some (.int .i64 S.names)
 c4:w.cell? ⟨f,4,none⟩=some (.bool false)
 c5:w.cell? ⟨f,5,none⟩=some (cplx S.wB S.wI)
 c6:w.cell? ⟨f,6,none⟩=some (.int .i64 S.nodes)
 c7:w.cell? ⟨f,7,none⟩=some (cplx S.rB S.rI)
theorem Sep.fs_cells (h:Sep w0 w (volR f q p S a::R)):FsC w f q S a:=by
 have h1:=h.starL_open;have c:=fun j=>h1.bC 0 rfl j
 have c0:=c 0;have c1:=c 1;have c2:=c 2;have c3:=c 3;have c4:=c 4;have c5:=c 5;have c6:=c 6;have c7:=c 7;simp only[gA,gB,gC]at c0 c1 c2 c3 c4 c5 c6 c7;exact⟨c0,c1,c2,c3,c4,c5,c6,c7⟩
theorem Got.fs_cells {k:Nat} {v:Value} (h:Got f q p S a k v w0 w R):FsC w f q S a:=by
 rcases h with⟨_,h⟩|⟨_,h⟩
 ·exact h.fs_cells
 exact h.fs_cells
set_option maxRecDepth 100000 in
theorem count_any (hC:VC S a) (hF:VF S) (h:Sep w0 w (volR f q p S a::R)):
  Calls Tryz.prog 81 #[.pointer (some ⟨f,0,none⟩)] w fun e w'=>e= .returned (.int .i64 S.count)∧w'=w:=by
 have hc:=h.fs_cells;have hd:=data_any hC hF hc.c3;have c0:=hc.c0;have hbl:=lblocks_any (q:=q) (p:=p) (dead:=false) (R:=fsB f q S a.sb (.map (some a.fb)) false::seenR a.sb a.SM::blkM a.fb a.FM::R) hC.dok (by have:=hC.big;omega) (Sep.sel [1,2,0,3,4] (h.starL_open) (by decide) (by simp[volP]));have hr:=hF.room;have e1:((S.count:Nat):Int)=((S.nb-96:Nat):Int)-S.data:=by unfold VS.count;omega
 have e2:((S.nb-96:Nat):Int)≤4096:=by have:=hC.dok.few;omega
 have e3:(0:Int)≤(S.data:Int):=by omega
 have e4:(S.data:Int)≤4096:=by have:=hC.dok.few;omega
 have e5:(0:Int)≤((S.nb-96:Nat):Int):=by omega
 rw[e1];obtain⟨N,hN⟩:∃N,N=S.nb-96:=⟨_,rfl⟩;obtain⟨M,hM⟩:∃M,M=S.data:=⟨_,rfl⟩;rw[←hN]at hbl e2 e5 ⊢;rw[←hM]at hd e3 e4 ⊢;clear e1 hr hN hM hc;go_enter Tryz.func81,Tryz.ntmps81;go_wp2_with(first |(go_at_call 133;refine hbl.mono ?_;rintro e w9 ⟨rfl,h9⟩;obtain rfl:=h9.symm)|(go_at_call 120;refine hd.mono ?_;rintro e w9 ⟨rfl,h9⟩;obtain rfl:=h9.symm));go_ret;exact⟨rfl,rfl⟩
end
end Go.Proofs.YteihmbaimbogaaaGreat
