/- OrderGB, Arg, Arg2, ArgT, laid together. -/
import Derived.Test.YtimkjnbihlgbiaaGreatJ44
import Derived.Test.YtimkjnbihlgbiaaGreatRows
import Derived.ProofKit
import Derived.OpenShut
import Derived.Below
import Derived.ChangeSame
import Derived.WideKeyArgs
import Derived.Deep.Matrix
namespace Go.Proofs.YtimkjnbihlgbiaaGreat
open Go.RowKit
set_option linter.unusedVariables false
set_option maxRecDepth 100000 in
theorem order_loose {w:World} {vn:Value} (b:Bool) {nv fv av sv:Value} {ns:List TN} {fs:List TF} {vs:List Value} (h:TreeAt w nv fv ns fs vs) (hts:TreeSm ns fs) (hlz:looseP ns fs≠0) {Ak Aa:Option Addr} {nk ck m ca:Nat}:
  Calls Tryz.prog 11 #[.agg #[nv,fv],.slice Aa m ca,vn,.slice Ak nk ck,.bool b] w fun e w'=>e= .returned (.tuple #[.slice none 0 0,.int .i64 (looseP ns fs)])∧Below w.heap.size w w':=by
 have hlo:=fun W (hW:Below w.heap.size w W)=>loose_any (h.below hW) hts
 obtain⟨er,her⟩:∃er,looseP ns fs=er:=⟨_,rfl⟩;have hq:(er !=0)=true:=by rw[←her];simpa using hlz
 rw[her]at hlo ⊢;have hlo':=Lh hlo;obtain⟨A1,c1,rfl,hm1⟩:=h.nodes.shape;obtain⟨A2,c2,rfl,hm2⟩:=h.files.shape;have hB0:Below w.heap.size w (((w.alloc (.cells #[.slice A1 ns.length c1,.slice A2 fs.length c2] 25)).alloc (.cells #[.slice Aa m ca] 26)).alloc (.cells #[.slice Ak nk ck] 28)):=(((Below.refl _ _).alloc (Nat.le_refl _) _).alloc (by simp) _).alloc (by simp;omega) _;have hB0':=Lh hB0;clear hlo h hts hlz her hB0;go_enter Tryz.func11,Tryz.ntmps11;go_wp2_with(go_at_call 18;refine(hlo'.out _ hB0'.out).mono ?_;rintro e w1 ⟨rfl,hb1⟩;have hb1':=Lh (hB0'.out.trans (hb1.mono hB0'.out.size));clear hb1)
 go_ret2
 exact⟨rfl,hb1'.out⟩
set_option maxRecDepth 100000 in
set_option maxHeartbeats 1000000 in
theorem order_badG {xss:List (List Int)} {w:World} {vn:Value} {Aa:Option Addr} {m ca:Nat} (b:Bool) {nv fv:Value} {ns:List TN} {fs:List TF} {vs:List Value} (h:TreeAt w nv fv ns fs vs) (hts:TreeSm ns fs) (hlz:looseP ns fs=0) {Ak:Option Addr} {nk ck:Nat} (hn:RowsAt w vn xss) (hm:m≤1048576) (he:orderE xss m≠0):
  Calls Tryz.prog 11 #[.agg #[nv,fv],.slice Aa m ca,vn,.slice Ak nk ck,.bool b] w fun e w'=>e= .returned (.tuple #[.slice none 0 0,.int .i64 (orderE xss m)])∧Below w.heap.size w w':=by
 have hlo:=fun W (hW:Below w.heap.size w W)=>loose_any (h.below hW) hts
 rw[hlz]at hlo;have hlo':=Lh hlo;obtain⟨A1,c1,rfl,hm1⟩:=h.nodes.shape;obtain⟨A2,c2,rfl,hm2⟩:=h.files.shape;clear hlo h hts hlz;have hro:=fun W (hW:Below w.heap.size w W)=>round_any (hn.below hW)
 obtain⟨An,cn,rfl,hmn⟩:=hn.shape;have hro':=Lh hro;obtain⟨E,hE⟩:∃E,E=orderE xss m:=⟨_,rfl⟩;rw[←hE]at he ⊢;have hB0:Below w.heap.size w (((w.alloc (.cells #[.slice A1 ns.length c1,.slice A2 fs.length c2] 25)).alloc (.cells #[.slice Aa m ca] 26)).alloc (.cells #[.slice Ak nk ck] 28)):=(((Below.refl _ _).alloc (Nat.le_refl _) _).alloc (by simp) _).alloc (by simp;omega) _;have hB0':=Lh hB0;clear hro hn hB0;by_cases hx:refused xss=0
 case neg=>
  unfold orderE at hE;rw[if_pos hx]at hE;rw[←hE]at hro' hx;(have b1:(E !=0)=true:=by simpa using hx);clear hE hx he;go_enter Tryz.func11,Tryz.ntmps11;go_wp2_with(first |(go_at_call 18;refine(hlo'.out _ hB0'.out).mono ?_;rintro e w1 ⟨rfl,hb1⟩;have hb1':=Lh (hB0'.out.trans (hb1.mono hB0'.out.size));clear hb1)|(go_at_call 19;refine(hro'.out _ hb1'.out).mono ?_;rintro e w2 ⟨v,rfl,hR⟩;have hb2':=Lh (hb1'.out.trans (hR.below.mono hb1'.out.size));clear hR))
  go_ret2
  exact⟨rfl,hb2'.out⟩
 have hcell:∀W,Below (((w.alloc (.cells #[.slice A1 ns.length c1,.slice A2 fs.length c2] 25)).alloc (.cells #[.slice Aa m ca] 26)).alloc (.cells #[.slice Ak nk ck] 28)).heap.size (((w.alloc (.cells #[.slice A1 ns.length c1,.slice A2 fs.length c2] 25)).alloc (.cells #[.slice Aa m ca] 26)).alloc (.cells #[.slice Ak nk ck] 28)) W→W.cell? ⟨w.heap.size+1,0,none⟩=some (.slice Aa m ca):=by intro W hW;rw[hW.cell (p:=⟨w.heap.size+1,0,none⟩) (by simp),World.cell?_of_block ((Below.new _ _).block _ (by simp))];have h1:=heap_alloc_new (w.alloc (.cells #[.slice A1 ns.length c1,.slice A2 fs.length c2] 25)) (.cells #[.slice Aa m ca] 26);simp only[World.size_alloc]at h1;exact cell_of_row _ _ 0 _ _ _ h1
 have hcell':=Lh hcell;clear hcell;have hx':=Lh hx;by_cases hlen:xss.length=m
 case neg=>
  unfold orderE at hE;rw[if_neg (by simpa using hx),if_pos hlen]at hE;subst hE;(have b1:((xss.length:Int) !=(m:Int))=true:=by simp;omega);rw[hx]at hro';clear hx hlen he;go_enter Tryz.func11,Tryz.ntmps11;go_wp2_with(first |(go_at_call 18;refine(hlo'.out _ hB0'.out).mono ?_;rintro e w1 ⟨rfl,hb1⟩;have hb0':=Lh hb1;have hb1':=Lh (hB0'.out.trans (hb1.mono hB0'.out.size));clear hb1)|(go_at_call 19;refine(hro'.out _ hb1'.out).mono ?_;rintro e w2 ⟨v,rfl,hR⟩;have d6:=hcell'.out _ (hb0'.out.trans (hR.below.mono hb0'.out.size));have hb2':=Lh (hb1'.out.trans (hR.below.mono hb1'.out.size));clear hR))
  go_ret2
  exact⟨rfl,hb2'.out⟩
 unfold orderE at hE;rw[if_neg (by simpa using hx),if_neg (by simpa using hlen)]at hE;have hr:roundRows xss≠[]:=by intro h;rw[h]at hE;exact he hE
 rw[if_pos hr]at hE;subst hE;have b1:((xss.length:Int) !=(m:Int))=false:=by simp;omega
 rw[hx]at hro';obtain⟨rr,hrr⟩:∃r,r=(roundRows xss).length:=⟨_,rfl⟩;have hpos:(0:Int)<(rr:Int):=by have:=List.length_pos_iff.2 hr;omega
 have hrr':=Lh hrr;clear hx hlen he hr hrr;go_enter Tryz.func11,Tryz.ntmps11;go_wp2_with(first |(go_at_call 18;refine(hlo'.out _ hB0'.out).mono ?_;rintro e w1 ⟨rfl,hb1⟩;have hb0':=Lh hb1;have hb1':=Lh (hB0'.out.trans (hb1.mono hB0'.out.size));clear hb1)|(go_at_call 19;refine(hro'.out _ hb1'.out).mono ?_;rintro e w2 ⟨v,rfl,hR⟩;obtain⟨A9,c9,rfl,_⟩:=(hR.rows 0 rfl).shape;rw[←hrr'.out];have d6:=hcell'.out _ (hb0'.out.trans (hR.below.mono hb0'.out.size));have hb2':=Lh (hb1'.out.trans (hR.below.mono hb1'.out.size));clear hR))
 go_ret2
 exact⟨rfl,hb2'.out⟩
end Go.Proofs.YtimkjnbihlgbiaaGreat
namespace Go.Proofs.YtimkjnbihlgbiaaGreat
open Go.ChangeShapes Go.WideShapes Go.ChangeAt Go.RowKit Go.Deep
set_option linter.unusedVariables false
theorem Tryz.own :ownKnob Tryz.prog.godebug=none:=by kernel_rfl
theorem Tryz.laidOut :laidOutB Tryz.prog=true:=by kernel_rfl
theorem Tryz.cellsInts :Tryz.prog.cellsOf 36=1:=by kernel_rfl
theorem Tryz.cellsInt :Tryz.prog.cellsOf 3=1:=by kernel_rfl
theorem ints_take {w:World} {A:Option Addr} {L C:Nat} {Z:List Int} (h1:L≤C) (h2:C≤maxLen) (h3:Z.length=C) (h4:A=none→C=0)
  (h5:∀a',A=some a'→∀c,c<C→w.cell? (a'.add c)=some (.int .i64 (Z.getD c 0))):IntsAt w (.slice A L C) (Z.take L):=by
 have hl:(Z.take L).length=L:=by rw[List.length_take];omega
 have key:Rd w 1 (.slice A L C) L ((Z.take L).map (Value.int .i64)):=by
  refine⟨by simp only[List.length_map];omega,A,C,rfl,h1,h2,fun hpos=>?_⟩;cases A with
  |none=>have:=h4 rfl;omega
  |some ad=>
   have hc:=h5 ad rfl;refine⟨ad,rfl,?_,fun j u hu=>?_⟩
   ·have:=World.block_lt_of_cell? w _ (hc 0 (by omega))
    rwa [block_of_add]at this
   rw[List.getElem?_map,Option.map_eq_some_iff]at hu;obtain⟨x,hx,rfl⟩:=hu;(have hj:j<L:=by obtain⟨h,_⟩:=gF.1 hx;omega);rw[hc j (by omega)];rw[List.getElem?_take_of_lt hj]at hx;simp[List.getD,hx]
 unfold IntsAt;rw[hl];exact key
section
variable {H:Type} {enc:TypeId×Value→H} {P:Program}
theorem post_below {f:Func} {s:ChangeSpec} {apart fresh handsOn again:Bool} {W W':World} {args:Array Value} {v:Value} {ds gs:List (DataW H)} {before pa pv:List MemPlace}
  (hW:DataW.Whole enc P f.params.toList s.vars apart W args.toList ds gs before)
  (hres:∀(b:Nat) (sp:Nat→Bool) (hd:Bool),DataW.TrodAll enc P W' b sp hd f.resultTypes.toList (v.resultList f.resultTypes.size) (s.fn H (ds++gs)).results [])
  (hargs:∀sp:Nat→Bool,(∀p∈before,sp p.block=true)→DataW.TrodAll enc P W' 0 sp true f.params.toList args.toList (s.fn H (ds++gs)).args pa)
  (hvars:∀sp:Nat→Bool,(∀p∈before,sp p.block=true)→DataW.TrodVars enc P W' sp s.vars (s.fn H (ds++gs)).vars pv)
  (hps:before=pa++pv) (hb:Below W.heap.size W W')
  (hok:∀(j:Nat) (t:TypeId) (r:Value),f.resultTypes[j]? =some t→(v.resultList f.resultTypes.size)[j]? =some r→Value.okWide P W' .any 0 t r):
  s.post enc P f apart fresh handsOn again W args v W':=by
 have hlt:∀p∈before,p.block<W.heap.size:=fun p hp=>hW.lt p hp
 have hold:∀p∈before,(fun b=>decide (b<W.heap.size)) p.block=true:=fun p hp=>by simpa using hlt p hp
 refine⟨ds,gs,before,[],pa,pv,hW,hres _ _ _,hargs _ hold,hvars _ hold,World.keptBut_mono (fun p hp=>⟨hp,?_⟩) (hb.frame (· ∈before)),fun _=>?_⟩
 ·rw[hps,List.mem_append]at hp;exact Or.inr hp
 obtain⟨_,_,_,_,_,hz,hn⟩:=hW;refine⟨hok,_,_,([]++pa)++pv,⟨[]++pa,pv,trodAll_append (hargs _ (fun _ _=>rfl)) (hres _ _ _),hvars _ (fun _ _=>rfl),rfl,?_,?_⟩,?_⟩
 ·intro b off hp;(have hin:MemPlace.cell b off∈before:=by rw[hps];simpa using hp);rw[hb.frozen (hlt _ hin)];exact hz b off hin
 ·intro ha;have:=hn ha;rw[hps]at this;simpa using this
 intro p hp _;rw[hps];simpa using hp
end
theorem bulk_one {H:Type} (d:DataW H):1≤Rows.uptoBulk d:=by
 cases d with
 |lit l=>cases l<;>simp[Rows.uptoBulk]
 |nil=>simp[Rows.uptoBulk]
 |ptr d=>simp[Rows.uptoBulk]
 |slice elems spare=>simp[Rows.uptoBulk]
 |agg parts=>simp[Rows.uptoBulk]
 |iface t d=>simp[Rows.uptoBulk]
 |map entries=>simp[Rows.uptoBulk]
 |held h=>simp[Rows.uptoBulk]
theorem bulk_part {H:Type} {d:DataW H} {l:List (DataW H)} (h:d∈l):Rows.uptoBulk d≤Rows.uptoBulkAll l:=by
 induction l with
 |nil=>cases h
 |cons x r ih=>
  simp only[Rows.uptoBulkAll];cases List.mem_cons.1 h with
  |inl e=>subst e;omega
  |inr e=>have:=ih e;omega
theorem bulk_len {H:Type} (l:List (DataW H)):l.length≤Rows.uptoBulkAll l:=by
 induction l with
 |nil=>simp[Rows.uptoBulkAll]
 |cons x r ih=>have:=bulk_one x;simp only[Rows.uptoBulkAll,List.length_cons];omega
set_option maxRecDepth 100000 in
theorem arg_rows_small {H:Type} {enc:TypeId×Value→H} {W:World} {base:Nat} {v:Value} {d:DataW H} {p:List MemPlace}
  (hok:Value.okWide Tryz.prog W .any base 27 v) (h0:DataW.Trod enc Tryz.prog W 0 (fun _=>true) true 27 v d p):∃xss:List (List Int),RowsAt W v xss∧∀j (hj:j<xss.length),xss[j].length≤Rows.uptoBulk d:=by
 obtain⟨a0,len,cap,rfl⟩:=okWide_slice Tryz.underlying27 hok;obtain⟨fuel,hf⟩:=h0;rcases open_int_rows Tryz.underlying27 Tryz.underlying36 Tryz.underlying3 Tryz.cellsInts Tryz.cellsInt hf with⟨hcs,_⟩|⟨a,len',cap',A,L,C,Z,hcs,_,hl,hm,hd,hrows⟩
 ·simp[Value.cells]at hcs;obtain⟨rfl,rfl,rfl⟩:=hcs;exact⟨[],⟨[],⟨rfl,none,0,rfl,Nat.le_refl _,Nat.zero_le _,fun h=>absurd h (Nat.lt_irrefl _)⟩,fun k u x hu=>by simp at hu⟩,fun j hj=>absurd hj (Nat.not_lt_zero _)⟩
 simp[Value.cells]at hcs;obtain⟨rfl,rfl,rfl⟩:=hcs;refine⟨(List.range len).map fun r=>(Z r).take (L r),⟨(List.range len).map fun r=>.slice (A r) (L r) (C r),?_,fun k u x hu hx=>?_⟩,fun j hj=>?_⟩
 ·rw[List.length_map,List.length_range];refine⟨by simp,some a,cap,rfl,hl,hm,fun hpos=>⟨a,rfl,?_,fun j u hu=>?_⟩⟩
  ·have:=World.block_lt_of_cell? W _ (hrows 0 (by omega)).1
   rwa [block_of_add]at this
  rw[List.getElem?_map,Option.map_eq_some_iff]at hu;obtain⟨r,hr,rfl⟩:=hu;obtain⟨hj,e⟩:=gF.1 hr;simp at hj e;subst e;exact(hrows _ (by omega)).1
 ·rw[List.getElem?_map,Option.map_eq_some_iff]at hu hx;obtain⟨r,hr,rfl⟩:=hu;obtain⟨r',hr',rfl⟩:=hx;obtain rfl:r=r':=Option.some.inj (hr.symm.trans hr');obtain⟨hj,e⟩:=gF.1 hr;simp at hj e;subst e;obtain⟨_,h1,h2,h3,_,h4,h5⟩:=hrows k (by omega);exact ints_take h1 h2 h3 h4 fun a' ha=>(h5 a' ha).2
 have hj':j<len:=by simpa using hj
 obtain⟨_,h1,h2,h3,_,h4,h5⟩:=hrows j (by omega);have hd1:d= .slice ((List.range len).map fun r=>intRow .i64 (A r) (L r) (Z r)) ((List.range (cap-len)).map fun j=>intRow .i64 (A (len+j)) (L (len+j)) (Z (len+j))):=congrArg Prod.fst hd;have hin:intRow (H:=H) .i64 (A j) (L j) (Z j)∈(List.range len).map fun r=>intRow (H:=H) .i64 (A r) (L r) (Z r):=List.mem_map.2 ⟨j,List.mem_range.2 hj',rfl⟩
 have b1:=bulk_part hin;have b2:Rows.uptoBulkAll ((List.range len).map fun r=>intRow (H:=H) .i64 (A r) (L r) (Z r))≤Rows.uptoBulk d:=by rw[hd1];simp only[Rows.uptoBulk];omega
 have b3:(Z j).length≤Rows.uptoBulk (intRow (H:=H) .i64 (A j) (L j) (Z j)):=by
  cases hA:A j with
  |none=>have:=h4 hA;omega
  |some a'=>have e1:=bulk_len (ChangeShapes.lits (H:=H) .i64 ((Z j).take (L j)));have e2:=bulk_len (ChangeShapes.lits (H:=H) .i64 ((Z j).drop (L j)));(have l1:(ChangeShapes.lits (H:=H) .i64 ((Z j).take (L j))).length=((Z j).take (L j)).length:=by simp[ChangeShapes.lits]);(have l2:(ChangeShapes.lits (H:=H) .i64 ((Z j).drop (L j))).length=((Z j).drop (L j)).length:=by simp[ChangeShapes.lits]);(have e3:(Z j).length=((Z j).take (L j)).length+((Z j).drop (L j)).length:=by rw[←List.length_append,List.take_append_drop]);simp only[intRow,Rows.uptoBulk];omega
 simp only[List.getElem_map,List.getElem_range];rw[List.length_take];omega
theorem cellsInsT :Tryz.prog.cellsOf 49=5:=by kernel_rfl
theorem cellsNodeT :Tryz.prog.cellsOf 51=3:=by kernel_rfl
theorem cellsFileT :Tryz.prog.cellsOf 54=2:=by kernel_rfl
theorem cellsTreeT :Tryz.prog.cellsOf 25=2:=by kernel_rfl
theorem cellsStrT :Tryz.prog.cellsOf 9=1:=by kernel_rfl
theorem cellsByteT :Tryz.prog.cellsOf 5=1:=by kernel_rfl
theorem cellsBytesT :Tryz.prog.cellsOf 52=1:=by kernel_rfl
theorem cellsNodesT :Tryz.prog.cellsOf 22=1:=by kernel_rfl
theorem cellsFilesT :Tryz.prog.cellsOf 23=1:=by kernel_rfl
def byt (b:UInt8):Value:=.int .u8 b.toNat
def bytC (b:UInt8):List Value:=[byt b]
theorem flat_byt (bs:List UInt8):bs.flatMap bytC=bs.map byt:=by
 induction bs with
 |nil=>rfl
 |cons x xs ih=>rw[List.flatMap_cons,ih];rfl
def BytesAt (w:World) (v:Value) (bs:List UInt8):Prop:=Rd w 1 v bs.length (bs.map byt)
def BRowsAt (w:World) (v:Value) (bss:List (List UInt8)):Prop:=ListAt BytesAt w v bss
theorem BytesAt.below {w w':World} {v:Value} {bs:List UInt8} (h:BytesAt w v bs) (hb:Below w.heap.size w w'):BytesAt w' v bs:=Rd.below h hb
theorem BytesAt.data {w:World} {v:Value} {bs:List UInt8} (h:BytesAt w v bs):DataAt w v bs.length:=⟨_,h,fun u hu=>by obtain⟨b,_,rfl⟩:=List.mem_map.1 hu;rfl⟩
section
variable {H:Type} {enc:TypeId×Value→H} {W:World} {sp:Nat→Bool} {held:Bool}
theorem arg_slice {t e:TypeId} {sz:Nat} (ht:Tryz.prog.underlying t=some (.slice e)) (hsz:Tryz.prog.cellsOf e=sz) (h0:0<sz) {α:Type} (z:α) (One:α→List Value) (hO:∀x,(One x).length=sz) (Q:α→DataW H→Prop)
  (one:∀(n:Nat) (cs:List Value) (y:DataW H×List MemPlace),DataW.trod enc Tryz.prog W 0 sp held n e cs=some y→∃x,cs=One x∧Q x y.1)
  {fuel:Nat} {cs0:List Value} {x0:DataW H×List MemPlace} (hf:DataW.trod enc Tryz.prog W 0 sp held fuel t cs0=some x0):
  ∃(A:Option Addr) (cap:Nat) (xs:List α),cs0=[.slice A xs.length cap]∧Rd W sz (.slice A xs.length cap) xs.length (xs.flatMap One)∧xs.length≤Rows.uptoBulk x0.1∧∀a∈xs,∃d',Q a d'∧Rows.uptoBulk d'≤Rows.uptoBulk x0.1:=by
 rcases DataW.trod_slice ht hf with⟨rfl,_⟩|⟨a,len,cap,elems,rest,n,_,rfl,hd,hb,hl,hm,hlen,hel,_,_⟩
 ·exact⟨none,0,[],rfl,⟨by simp,none,0,rfl,Nat.le_refl _,Nat.zero_le _,fun h=>absurd h (Nat.lt_irrefl _)⟩,Nat.zero_le _,by simp⟩
 have e1:x0.1= .slice (elems.map (·.1)) (rest.map (·.1)):=congrArg Prod.fst hd;have key:∀i,∃x:α,i<len→(∀f,f<sz→W.cell? (a.add (i*sz+f))=(One x)[f]?)∧∃d',Q x d'∧Rows.uptoBulk d'≤Rows.uptoBulk x0.1:=by
  intro i;by_cases hi:i<len
  ·have h1:=hel i hi;obtain⟨y,hy⟩:∃y,elems[i]? =some y:=⟨_,gE (by omega)⟩;rw[hy,Option.bind_eq_some_iff,hsz]at h1;obtain⟨cs,hc,ht⟩:=h1;obtain⟨x,rfl,hq⟩:=one _ _ _ ht;obtain⟨_,_,hcell⟩:=World.cells?_some hc;refine⟨x,fun _=>⟨fun f hf=>?_,y.1,hq,?_⟩⟩
   ·rw[←hcell f hf,add_of_add]
   have b1:=bulk_part (List.mem_map.2 ⟨y,gG hy,rfl⟩:y.1∈elems.map (·.1));rw[e1];simp only[Rows.uptoBulk];omega
  exact⟨z,fun h=>absurd h hi⟩
 obtain⟨X,hX⟩:=Classical.axiomOfChoice key;have hlenX:((List.range len).map X).length=len:=by simp
 have hat:∀i,i<len→((List.range len).map X)[i]? =some (X i):=by intro i hi;rw[List.getElem?_map,List.getElem?_range hi];rfl
 refine⟨some a,cap,(List.range len).map X,by rw[hlenX],?_,?_,fun x hx=>?_⟩
 ·rw[hlenX];refine⟨by rw[chunk_len One sz hO,hlenX],some a,cap,rfl,hl,hm,fun hpos=>⟨a,rfl,?_,fun j u hu=>?_⟩⟩
  ·have h1:=((hX 0) hpos).1 0 h0;obtain⟨z9,hz⟩:∃z9,(One (X 0))[0]? =some z9:=⟨_,gE (by rw[hO];exact h0)⟩;rw[hz]at h1;have:=World.block_lt_of_cell? W _ h1
   rwa [block_of_add]at this
  have hj:j<len*sz:=by
   have:=(gF.1 hu).1
   rwa [chunk_len One sz hO,hlenX]at this
  have hi:j/sz<len:=Nat.div_lt_of_lt_mul (by rw[Nat.mul_comm];exact hj);have hr:j%sz<sz:=Nat.mod_lt _ h0;(have e:j=j/sz*sz+j%sz:=by rw[Nat.mul_comm];exact(Nat.div_add_mod j sz).symm);rw[e]at hu ⊢;rw[chunk_at One sz hO (hat _ hi) _ hr]at hu;rw[((hX _) hi).1 _ hr,hu]
 ·rw[hlenX,e1];have:=bulk_len (elems.map (·.1));rw[List.length_map,hlen]at this;simp only[Rows.uptoBulk];omega
 obtain⟨i,hi,rfl⟩:=List.mem_map.1 hx;exact((hX i) (List.mem_range.1 hi)).2
set_option maxRecDepth 100000 in
theorem one_byte (n:Nat) (cs:List Value) (y:DataW H×List MemPlace) (h:DataW.trod enc Tryz.prog W 0 sp held n 5 cs=some y):∃b:UInt8,cs=bytC b∧True:=by
 obtain⟨n,rfl,_,hw⟩:=DataW.trod_int Tryz.underlying5 h;have hr:0≤n∧n≤255:=by unfold Lit.wf at hw;rw[Bool.and_eq_true,decide_eq_true_iff,decide_eq_true_iff]at hw;(have e1:IntKind.u8.min=0:=by decide);(have e2:IntKind.u8.max=255:=by decide);omega
 refine⟨UInt8.ofNat n.toNat,?_,trivial⟩;unfold bytC byt;have:(UInt8.ofNat n.toNat).toNat=n.toNat:=by rw[UInt8.toNat_ofNat'];omega
 rw[this,Int.toNat_of_nonneg hr.1]
set_option maxRecDepth 100000 in
theorem arg_bytes {fuel:Nat} {cs0:List Value} {x0:DataW H×List MemPlace} (hf:DataW.trod enc Tryz.prog W 0 sp held fuel 52 cs0=some x0):∃(u:Value) (bs:List UInt8),cs0=[u]∧BytesAt W u bs∧bs.length≤Rows.uptoBulk x0.1:=by obtain⟨A,cap,xs,e,hr,hl,_⟩:=arg_slice Tryz.underlying52 cellsByteT (by decide) (0:UInt8) bytC (fun _=>rfl) (fun _ _=>True) one_byte hf;rw[flat_byt]at hr;exact⟨_,xs,e,hr,hl⟩
theorem one_bytes (n:Nat) (cs:List Value) (y:DataW H×List MemPlace) (h:DataW.trod enc Tryz.prog W 0 sp held n 52 cs=some y):∃x:Value×List UInt8,cs=[x.1]∧(BytesAt W x.1 x.2∧x.2.length≤Rows.uptoBulk y.1):=by obtain⟨u,bs,e,h1,h2⟩:=arg_bytes h;exact⟨(u,bs),e,h1,h2⟩
set_option maxRecDepth 100000 in
theorem one_nodeT (n:Nat) (cs:List Value) (y:DataW H×List MemPlace) (h:DataW.trod enc Tryz.prog W 0 sp held n 51 cs=some y):∃x:TN,cs=tnC x∧x.path.length≤Rows.uptoBulk y.1:=by
 obtain⟨xs,n,rfl,rfl,hl,hxl,hx⟩:=DataW.trod_struct Tryz.underlying51 h;rw[cellsNodeT]at hl;obtain⟨c0,c1,c2,rfl⟩:∃c0 c1 c2,cs=[c0,c1,c2]:=by
  match cs,hl with
  |[c0,c1,c2],_=>exact⟨c0,c1,c2,rfl⟩
 obtain⟨x0,x1,x2,rfl⟩:∃x0 x1 x2,xs=[x0,x1,x2]:=by
  match xs,hxl with
  |[x0,x1,x2],_=>exact⟨x0,x1,x2,rfl⟩
 have h0:DataW.trod enc Tryz.prog W 0 sp held n 9 (([c0,c1,c2].drop 0).take (Tryz.prog.cellsOf 9))=some x0:=hx 0 _ rfl;rw[cellsStrT]at h0;have h1:DataW.trod enc Tryz.prog W 0 sp held n 3 (([c0,c1,c2].drop 1).take (Tryz.prog.cellsOf 3))=some x1:=hx 1 _ rfl;rw[Tryz.cellsInt]at h1;have h2:DataW.trod enc Tryz.prog W 0 sp held n 3 (([c0,c1,c2].drop 2).take (Tryz.prog.cellsOf 3))=some x2:=hx 2 _ rfl;rw[Tryz.cellsInt]at h2;simp only[List.drop_zero,List.drop_succ_cons,List.take_succ_cons,List.take_zero]at h0 h1 h2;obtain⟨s0,e0,rfl,_⟩:=DataW.trod_string Tryz.underlying9 h0;obtain⟨n1,e1,rfl,_⟩:=DataW.trod_int Tryz.underlying3 h1;obtain⟨n2,e2,rfl,_⟩:=DataW.trod_int Tryz.underlying3 h2;simp only[List.cons.injEq,and_true]at e0 e1 e2;subst e0 e1 e2;refine⟨⟨s0.data.toList,n1,n2⟩,?_,?_⟩
 ·unfold tnC strV;rw[←pth_arr]
 simp only[List.map_cons,List.map_nil,Rows.uptoBulk,Rows.uptoBulkAll];omega
def filC (x:Int×Value×List UInt8):List Value:=[.int .i64 x.1,x.2.1]
set_option maxRecDepth 100000 in
theorem one_fileT (n:Nat) (cs:List Value) (y:DataW H×List MemPlace) (h:DataW.trod enc Tryz.prog W 0 sp held n 54 cs=some y):∃x:Int×Value×List UInt8,cs=filC x∧(BytesAt W x.2.1 x.2.2∧x.2.2.length≤Rows.uptoBulk y.1):=by
 obtain⟨xs,n,rfl,rfl,hl,hxl,hx⟩:=DataW.trod_struct Tryz.underlying54 h;rw[cellsFileT]at hl;obtain⟨c0,c1,rfl⟩:∃c0 c1,cs=[c0,c1]:=by
  match cs,hl with
  |[c0,c1],_=>exact⟨c0,c1,rfl⟩
 obtain⟨x0,x1,rfl⟩:∃x0 x1,xs=[x0,x1]:=by
  match xs,hxl with
  |[x0,x1],_=>exact⟨x0,x1,rfl⟩
 have h0:DataW.trod enc Tryz.prog W 0 sp held n 3 (([c0,c1].drop 0).take (Tryz.prog.cellsOf 3))=some x0:=hx 0 _ rfl;rw[Tryz.cellsInt]at h0;have h1:DataW.trod enc Tryz.prog W 0 sp held n 52 (([c0,c1].drop 1).take (Tryz.prog.cellsOf 52))=some x1:=hx 1 _ rfl;rw[cellsBytesT]at h1;simp only[List.drop_zero,List.drop_succ_cons,List.take_succ_cons,List.take_zero]at h0 h1;obtain⟨n0,e0,rfl,_⟩:=DataW.trod_int Tryz.underlying3 h0;obtain⟨u,bs,e1,hb,hbl⟩:=arg_bytes h1;simp only[List.cons.injEq,and_true]at e0 e1;subst e0 e1;refine⟨(n0,c1,bs),rfl,hb,?_⟩;simp only[List.map_cons,List.map_nil,Rows.uptoBulk,Rows.uptoBulkAll];omega
set_option maxRecDepth 100000 in
theorem one_insT (n:Nat) (cs:List Value) (y:DataW H×List MemPlace) (h:DataW.trod enc Tryz.prog W 0 sp held n 49 cs=some y):
  ∃x:Ins,cs=x.cells∧((-9223372036854775808≤x.op∧x.op≤9223372036854775807)∧x.path.size≤Rows.uptoBulk y.1∧x.tz.size≤Rows.uptoBulk y.1):=by
 obtain⟨xs,n,rfl,rfl,hl,hxl,hx⟩:=DataW.trod_struct Tryz.underlying49 h;rw[cellsInsT]at hl;obtain⟨c0,c1,c2,c3,c4,rfl⟩:∃c0 c1 c2 c3 c4,cs=[c0,c1,c2,c3,c4]:=by
  match cs,hl with
  |[c0,c1,c2,c3,c4],_=>exact⟨c0,c1,c2,c3,c4,rfl⟩
 obtain⟨x0,x1,x2,x3,x4,rfl⟩:∃x0 x1 x2 x3 x4,xs=[x0,x1,x2,x3,x4]:=by
  match xs,hxl with
  |[x0,x1,x2,x3,x4],_=>exact⟨x0,x1,x2,x3,x4,rfl⟩
 have h0:DataW.trod enc Tryz.prog W 0 sp held n 3 (([c0,c1,c2,c3,c4].drop 0).take (Tryz.prog.cellsOf 3))=some x0:=hx 0 _ rfl;rw[Tryz.cellsInt]at h0;have h1:DataW.trod enc Tryz.prog W 0 sp held n 9 (([c0,c1,c2,c3,c4].drop 1).take (Tryz.prog.cellsOf 9))=some x1:=hx 1 _ rfl;rw[cellsStrT]at h1;have h2:DataW.trod enc Tryz.prog W 0 sp held n 9 (([c0,c1,c2,c3,c4].drop 2).take (Tryz.prog.cellsOf 9))=some x2:=hx 2 _ rfl;rw[cellsStrT]at h2;have h3:DataW.trod enc Tryz.prog W 0 sp held n 3 (([c0,c1,c2,c3,c4].drop 3).take (Tryz.prog.cellsOf 3))=some x3:=hx 3 _ rfl;rw[Tryz.cellsInt]at h3;have h4:DataW.trod enc Tryz.prog W 0 sp held n 3 (([c0,c1,c2,c3,c4].drop 4).take (Tryz.prog.cellsOf 3))=some x4:=hx 4 _ rfl;rw[Tryz.cellsInt]at h4;simp only[List.drop_zero,List.drop_succ_cons,List.take_succ_cons,List.take_zero]at h0 h1 h2 h3 h4;obtain⟨n0,e0,rfl,hw⟩:=DataW.trod_int Tryz.underlying3 h0;obtain⟨s1,e1,rfl,_⟩:=DataW.trod_string Tryz.underlying9 h1;obtain⟨s2,e2,rfl,_⟩:=DataW.trod_string Tryz.underlying9 h2;obtain⟨n3,e3,rfl,_⟩:=DataW.trod_int Tryz.underlying3 h3;obtain⟨n4,e4,rfl,_⟩:=DataW.trod_int Tryz.underlying3 h4;simp only[List.cons.injEq,and_true]at e0 e1 e2 e3 e4;subst e0 e1 e2 e3 e4;refine⟨⟨n0,s1,s2,n3,n4⟩,rfl,?_,?_,?_⟩
 ·unfold Lit.wf at hw;rw[Bool.and_eq_true,decide_eq_true_iff,decide_eq_true_iff]at hw;(have e1:IntKind.i64.min= -9223372036854775808:=by decide);(have e2:IntKind.i64.max=9223372036854775807:=by decide);(show -9223372036854775808≤n0∧n0≤9223372036854775807);omega
 ·simp only[List.map_cons,List.map_nil,Rows.uptoBulk,Rows.uptoBulkAll];have:s1.data.toList.length=s1.size:=Array.length_toList;(show s1.size≤_);omega
 simp only[List.map_cons,List.map_nil,Rows.uptoBulk,Rows.uptoBulkAll];have:s2.data.toList.length=s2.size:=Array.length_toList;show s2.size≤_
 omega
end
theorem flat_one (xs:List (Value×List UInt8)):xs.flatMap (fun x=>[x.1])=xs.map (·.1):=by
 induction xs with
 |nil=>rfl
 |cons x xs ih=>rw[List.flatMap_cons,ih];rfl
theorem flat_files (ys:List (Int×Value×List UInt8)):ys.flatMap filC=tfCells (ys.map (fun y=>⟨y.1,y.2.2.length⟩)) (ys.map (·.2.1)):=by
 induction ys with
 |nil=>rfl
 |cons y ys ih=>rw[List.flatMap_cons,ih];rfl
structure TreeC (w:World) (nv fv:Value) (ns:List TN) (fs:List TF) (vs:List Value) (bss:List (List UInt8)):Prop where
 tree:TreeAt w nv fv ns fs vs
 len:bss.length=fs.length
 bytes:∀(k:Nat) u b,vs[k]? =some u→bss[k]? =some b→BytesAt w u b
 size:∀(k:Nat) f b,fs[k]? =some f→bss[k]? =some b→f.size=b.length
structure StockC (w:World) (sv:Value) (cs:List Value) (bss:List (List UInt8)):Prop where
 rd:Rd w 1 sv cs.length cs
 len:bss.length=cs.length
 bytes:∀(k:Nat) u b,cs[k]? =some u→bss[k]? =some b→BytesAt w u b
theorem TreeC.below {w w':World} {nv fv:Value} {ns:List TN} {fs:List TF} {vs:List Value} {bss:List (List UInt8)} (h:TreeC w nv fv ns fs vs bss) (hb:Below w.heap.size w w'):TreeC w' nv fv ns fs vs bss:=
 ⟨h.tree.below hb,h.len,fun k u b hu hx=>(h.bytes k u b hu hx).below hb,h.size⟩
theorem StockC.below {w w':World} {sv:Value} {cs:List Value} {bss:List (List UInt8)} (h:StockC w sv cs bss) (hb:Below w.heap.size w w'):StockC w' sv cs bss:=
 ⟨h.rd.below hb,h.len,fun k u b hu hx=>(h.bytes k u b hu hx).below hb⟩
theorem StockC.rows {w:World} {sv:Value} {cs:List Value} {bss:List (List UInt8)} (h:StockC w sv cs bss):BRowsAt w sv bss:=⟨cs,by rw[h.len];exact h.rd,h.bytes⟩
theorem BRowsAt.shape {w:World} {v:Value} {bss:List (List UInt8)} (h:BRowsAt w v bss):∃A c,v= .slice A bss.length c∧bss.length≤maxLen:=ListAt.shape h
theorem BytesAt.shape {w:World} {v:Value} {bs:List UInt8} (h:BytesAt w v bs):∃A c,v= .slice A bs.length c∧bs.length≤maxLen:=Rd.shape h
theorem BRowsAt.below {w w':World} {v:Value} {bss:List (List UInt8)} (h:BRowsAt w v bss) (hb:Below w.heap.size w w'):BRowsAt w' v bss:=ListAt.below h (fun _ _ h=>BytesAt.below h hb) hb
theorem BRowsAt.all {w0:World} {v:Value} {xss:List (List UInt8)} {k:Nat} (h:BRowsAt w0 v xss) (hk:k<xss.length):
  ∃ad c u,v= .slice (some ad) xss.length c∧BytesAt w0 u xss[k]∧∀w',Below w0.heap.size w0 w'→w'.cell? (ad.add k)=some u:=by
 obtain⟨vs,h1,h2⟩:=h;obtain⟨ad,c,u,rfl,hc,hd⟩:=Rd.at_ h1 hk;refine⟨ad,c,u,rfl,h2 k u _ hc (gE hk),fun w' hb=>?_⟩;obtain⟨ad',c',u',e,hc',hd'⟩:=Rd.at_ (Rd.below h1 hb) hk;rw[hc]at hc';injection hc' with hc';injection e with e1 e2 e3;injection e1 with e1;rw[e1,hc'];exact hd'
section
variable {H:Type} {enc:TypeId×Value→H} {W:World}
set_option maxRecDepth 100000 in
theorem arg_insT {v:Value} {d:DataW H} {p:List MemPlace} {base:Nat} (hok:Value.okWide Tryz.prog W .any base 26 v) (h0:DataW.Trod enc Tryz.prog W 0 (fun _=>true) true 26 v d p):
  ∃xs:List Ins,InsAt W v xs∧∀x∈xs,(-9223372036854775808≤x.op∧x.op≤9223372036854775807)∧x.path.size≤Rows.uptoBulk d∧x.tz.size≤Rows.uptoBulk d:=by
 obtain⟨a0,len,cap,rfl⟩:=okWide_slice Tryz.underlying26 hok;obtain⟨fuel,hf⟩:=h0;obtain⟨A,c,xs,e,hr,_,hq⟩:=arg_slice Tryz.underlying26 cellsInsT (by decide) (⟨0,⟨#[]⟩,⟨#[]⟩,0,0⟩:Ins) Ins.cells (fun _=>rfl) (fun x d=>(-9223372036854775808≤x.op∧x.op≤9223372036854775807)∧x.path.size≤Rows.uptoBulk d∧x.tz.size≤Rows.uptoBulk d) one_insT hf;simp[Value.cells]at e;obtain⟨rfl,rfl,rfl⟩:=e;refine⟨xs,hr,fun x hx=>?_⟩;obtain⟨d',⟨h1,h2,h3⟩,h4⟩:=hq x hx;have h5:Rows.uptoBulk d'≤Rows.uptoBulk d:=h4;exact⟨h1,by omega,by omega⟩
set_option maxRecDepth 100000 in
theorem arg_stockT {v:Value} {d:DataW H} {p:List MemPlace} {base:Nat} (hok:Value.okWide Tryz.prog W .any base 28 v) (h0:DataW.Trod enc Tryz.prog W 0 (fun _=>true) true 28 v d p):
  ∃(cs:List Value) (bss:List (List UInt8)),StockC W v cs bss∧∀b∈bss,b.length≤Rows.uptoBulk d:=by
 obtain⟨a0,len,cap,rfl⟩:=okWide_slice Tryz.underlying28 hok;obtain⟨fuel,hf⟩:=h0;obtain⟨A,c,xs,e,hr,_,hq⟩:=arg_slice Tryz.underlying28 cellsBytesT (by decide) ((.nilFunc,[]):Value×List UInt8) (fun x=>[x.1]) (fun _=>rfl) (fun x d=>BytesAt W x.1 x.2∧x.2.length≤Rows.uptoBulk d) one_bytes hf;simp[Value.cells]at e;obtain⟨rfl,rfl,rfl⟩:=e;refine⟨xs.map (·.1),xs.map (·.2),⟨?_,by simp,fun k u b hu hb=>?_⟩,fun b hb=>?_⟩
 ·rw[List.length_map];rw[flat_one]at hr;exact hr
 ·rw[List.getElem?_map,Option.map_eq_some_iff]at hu hb;obtain⟨x,hx,rfl⟩:=hu;obtain⟨x',hx',rfl⟩:=hb;obtain rfl:x=x':=Option.some.inj (hx.symm.trans hx');obtain⟨_,h1,_⟩:=hq x (gG hx);exact h1.1
 obtain⟨x,hx,rfl⟩:=List.mem_map.1 hb;obtain⟨d',h1,h2⟩:=hq x hx;have:=h1.2;have h5:Rows.uptoBulk d'≤Rows.uptoBulk d:=h2;omega
set_option maxRecDepth 100000 in
theorem arg_treeT {v:Value} {d:DataW H} {p:List MemPlace} {base:Nat} (hok:Value.okWide Tryz.prog W .any base 25 v) (h0:DataW.Trod enc Tryz.prog W 0 (fun _=>true) true 25 v d p):
  ∃(nv fv:Value) (ns:List TN) (fs:List TF) (vs:List Value) (bss:List (List UInt8)),v= .agg #[nv,fv]∧TreeC W nv fv ns fs vs bss∧(∀n∈ns,n.path.length≤Rows.uptoBulk d)∧∀b∈bss,b.length≤Rows.uptoBulk d:=by
 obtain⟨cs,rfl,hsz⟩:=okWide_struct Tryz.underlying25 hok;obtain⟨fuel,hf⟩:=h0;obtain⟨xs,n,rfl,hd,hl,hxl,hx⟩:=DataW.trod_struct Tryz.underlying25 hf;rw[cellsTreeT]at hsz;obtain⟨c0,c1,rfl⟩:∃c0 c1,cs=#[c0,c1]:=by
  obtain⟨l⟩:=cs
  match l,hsz with
  |[c0,c1],_=>exact⟨c0,c1,rfl⟩
 obtain⟨x0,x1,rfl⟩:∃x0 x1,xs=[x0,x1]:=by
  match xs,hxl with
  |[x0,x1],_=>exact⟨x0,x1,rfl⟩
 have hd1:d= .agg [x0.1,x1.1]:=congrArg Prod.fst hd;have h0:DataW.trod enc Tryz.prog W 0 (fun _=>true) true n 22 (([c0,c1].drop 0).take (Tryz.prog.cellsOf 22))=some x0:=hx 0 _ rfl;rw[cellsNodesT]at h0;have h1:DataW.trod enc Tryz.prog W 0 (fun _=>true) true n 23 (([c0,c1].drop 1).take (Tryz.prog.cellsOf 23))=some x1:=hx 1 _ rfl;rw[cellsFilesT]at h1;simp only[List.drop_zero,List.drop_succ_cons,List.take_succ_cons,List.take_zero]at h0 h1;obtain⟨A,cN,ns,e0,hrN,_,hqN⟩:=arg_slice Tryz.underlying22 cellsNodeT (by decide) (⟨[],0,0⟩:TN) tnC (fun _=>rfl) (fun x d=>x.path.length≤Rows.uptoBulk d) one_nodeT h0;obtain⟨B,cF,ys,e1,hrF,_,hqF⟩:=arg_slice Tryz.underlying23 cellsFileT (by decide) ((0,.nilFunc,[]):Int×Value×List UInt8) filC (fun _=>rfl) (fun x d=>BytesAt W x.2.1 x.2.2∧x.2.2.length≤Rows.uptoBulk d) one_fileT h1;simp only[List.cons.injEq,and_true]at e0 e1;subst e0 e1;have hbk0:Rows.uptoBulk x0.1≤Rows.uptoBulk d:=by rw[hd1];simp only[Rows.uptoBulk,Rows.uptoBulkAll];omega
 have hbk1:Rows.uptoBulk x1.1≤Rows.uptoBulk d:=by rw[hd1];simp only[Rows.uptoBulk,Rows.uptoBulkAll];omega
 have hb:∀y∈ys,BytesAt W y.2.1 y.2.2∧y.2.2.length≤Rows.uptoBulk d:=fun y hy=>by obtain⟨d',⟨h2,h3⟩,h4⟩:=hqF y hy;exact⟨h2,by omega⟩
 refine⟨_,_,ns,ys.map (fun y=>⟨y.1,y.2.2.length⟩),ys.map (·.2.1),ys.map (·.2.2),rfl,⟨⟨by simp,hrN,?_,fun k u f hu hf=>?_⟩,by simp,fun k u b hu hb2=>?_,fun k f b hf hb2=>?_⟩,fun m hm=>?_,fun b hb2=>?_⟩
 ·rw[List.length_map];rw[flat_files]at hrF;exact hrF
 ·rw[List.getElem?_map,Option.map_eq_some_iff]at hu hf;obtain⟨y,hy,rfl⟩:=hu;obtain⟨y',hy',rfl⟩:=hf;obtain rfl:y=y':=Option.some.inj (hy.symm.trans hy');exact(hb y (gG hy)).1.data
 ·rw[List.getElem?_map,Option.map_eq_some_iff]at hu hb2;obtain⟨y,hy,rfl⟩:=hu;obtain⟨y',hy',rfl⟩:=hb2;obtain rfl:y=y':=Option.some.inj (hy.symm.trans hy');exact(hb y (gG hy)).1
 ·rw[List.getElem?_map,Option.map_eq_some_iff]at hf hb2;obtain⟨y,hy,rfl⟩:=hf;obtain⟨y',hy',rfl⟩:=hb2;obtain rfl:y=y':=Option.some.inj (hy.symm.trans hy');rfl
 ·obtain⟨d',h2,h3⟩:=hqN m hm;have h2':m.path.length≤Rows.uptoBulk d':=h2;omega
 obtain⟨y,hy,rfl⟩:=List.mem_map.1 hb2;exact(hb y hy).2
end
end Go.Proofs.YtimkjnbihlgbiaaGreat
