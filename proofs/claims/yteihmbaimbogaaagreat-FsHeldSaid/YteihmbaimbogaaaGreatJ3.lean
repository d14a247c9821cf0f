/- ArgF, FxM, laid together. -/
import Derived.Test.YteihmbaimbogaaaGreatJ2
namespace Go.Proofs.YteihmbaimbogaaaGreat
open Go.ChangeShapes Go.WideShapes Go.ChangeAt Go.RowKit Go.Deep
set_option linter.unusedVariables false
theorem cellsStepF :Tryz.prog.cellsOf 63=9:=by kernel_rfl
theorem cellsInsF :Tryz.prog.cellsOf 38=5:=by kernel_rfl
theorem cellsStrF :Tryz.prog.cellsOf 9=1:=by kernel_rfl
theorem cellsIntF :Tryz.prog.cellsOf 3=1:=by kernel_rfl
theorem cellsIntsF :Tryz.prog.cellsOf 61=1:=by kernel_rfl
theorem cellsByteF :Tryz.prog.cellsOf 5=1:=by kernel_rfl
theorem cellsBytesF :Tryz.prog.cellsOf 35=1:=by kernel_rfl
theorem chunkF_len {α:Type} (f:α→List Value) (m:Nat) (hf:∀x,(f x).length=m) (xs:List α):(xs.flatMap f).length=xs.length*m:=by
 induction xs with
 |nil=>simp
 |cons x xs ih=>rw[List.flatMap_cons,List.length_append,ih,hf,List.length_cons,Nat.add_mul,Nat.one_mul,Nat.add_comm]
theorem chunkF_at {α:Type} (f:α→List Value) (m:Nat) (hf:∀x,(f x).length=m) {xs:List α} {i:Nat} {x:α} (h:xs[i]? =some x) (j:Nat) (hj:j<m):(xs.flatMap f)[i*m+j]? =(f x)[j]? :=by
 induction xs generalizing i with
 |nil=>simp at h
 |cons y xs ih=>
  rw[List.flatMap_cons];cases i with
  |zero=>simp at h;subst h;rw[Nat.zero_mul,Nat.zero_add,List.getElem?_append_left (by rw[hf];exact hj)]
  |succ i=>(have e:(i+1)*m+j-(f y).length=i*m+j:=by rw[hf,Nat.add_mul];omega);rw[List.getElem?_append_right (by rw[hf,Nat.add_mul];omega),e];exact ih (by simpa using h)
theorem spotF_none {w:World} {ad:Addr} {u:Value} (h:w.cell? ad=some u):ad.spot=none:=by
 unfold World.cell? at h;split at h
 ·split at h
  ·cases h
  rename_i hs;cases hb:ad.spot with
  |none=>rfl
  |some s=>rw[hb]at hs;simp at hs
 cases h
theorem Rd.placeF {w:World} {sz n:Nat} {v:Value} {cs:List Value} (h:Rd w sz v n cs) (h0:0<n) (hsz:0<sz):
  ∃g o c,v= .slice (some ⟨g,o,none⟩) n c∧n≤c∧c≤maxLen∧g<w.heap.size∧∀w',Below w.heap.size w w'→∀j,j<n*sz→w'.cell? ⟨g,o+j,none⟩=cs[j]? :=by
 obtain⟨hl,A,c,rfl,h1,h2,h3⟩:=h;obtain⟨ad,rfl,hb,hc⟩:=h3 h0;have hpos:0<cs.length:=by rw[hl];exact Nat.mul_pos h0 hsz
 have hsp:ad.spot=none:=by have h4:=hc 0 _ (gE hpos);rw[show ad.add 0=ad by simp[Addr.add]]at h4;exact spotF_none h4
 obtain⟨g,o,s⟩:=ad;simp only at hsp;subst hsp;refine⟨g,o,c,rfl,h1,h2,hb,fun w' hw' j hj=>?_⟩;have hj':j<cs.length:=by rw[hl];exact hj
 have h4:=hc j _ (gE hj');rw[Addr.add_lit]at h4;rw[gE hj',←h4];exact hw'.cell hb
def bytC (b:UInt8):List Value:=[byt b]
theorem flat_byt (bs:List UInt8):bs.flatMap bytC=bs.map byt:=by
 induction bs with
 |nil=>rfl
 |cons x xs ih=>rw[List.flatMap_cons,ih];rfl
theorem flat_int (xs:List Int):xs.flatMap (fun x=>[Value.int .i64 x])=xs.map (Value.int .i64):=by
 induction xs with
 |nil=>rfl
 |cons x xs ih=>rw[List.flatMap_cons,ih];rfl
def I64 (n:Int):Prop:= -9223372036854775808≤n∧n≤9223372036854775807
structure Stp where
 kind:Int
 num:Int
 op:Int
 path:List UInt8
 tz:List UInt8
 mode:Int
 ref:Int
 dv:Value
 kv:Value
 data:List UInt8
 keep:List Int
def insV (op:Int) (path tz:List UInt8) (mode ref:Int):List Value:=[.int .i64 op,strV path,strV tz,.int .i64 mode,.int .i64 ref]
def Stp.cells (x:Stp):List Value:=[.int .i64 x.kind,.int .i64 x.num,.int .i64 x.op,strV x.path,strV x.tz,.int .i64 x.mode,.int .i64 x.ref,x.dv,x.kv]
structure StpOk (W:World) (x:Stp):Prop where
 kind:I64 x.kind
 num:I64 x.num
 op:I64 x.op
 mode:I64 x.mode
 ref:I64 x.ref
 path:x.path.length≤9223372036854775807
 tz:x.tz.length≤9223372036854775807
 data:BytesAt W x.dv x.data
 keep:Rd W 1 x.kv x.keep.length (x.keep.map (Value.int .i64))
 ints:∀k∈x.keep,I64 k
theorem pth_arrF (x:ByteArray):Value.string x=strV x.data.toList:=by unfold strV;congr 1
theorem i64_of {n:Int} (hw:(Lit.wf (.int .i64 n))=true):I64 n:=by
 unfold Lit.wf at hw;rw[Bool.and_eq_true,decide_eq_true_iff,decide_eq_true_iff]at hw;have e1:IntKind.i64.min= -9223372036854775808:=by decide
 have e2:IntKind.i64.max=9223372036854775807:=by decide
 unfold I64;omega
theorem wrap64_ok (n:Int):I64 (RowKit.wrap64 n):=by unfold I64 RowKit.wrap64;omega
section
variable {H:Type} {enc:TypeId×Value→H} {W:World} {sp:Nat→Bool} {held:Bool}
theorem arg_sliceF {t e:TypeId} {sz:Nat} (ht:Tryz.prog.underlying t=some (.slice e)) (hsz:Tryz.prog.cellsOf e=sz) (h0:0<sz) {α:Type} (z:α) (One:α→List Value) (hO:∀x,(One x).length=sz) (Q:α→Prop)
  (one:∀(n:Nat) (cs:List Value) (y:DataW H×List MemPlace),DataW.trod enc Tryz.prog W 0 sp held n e cs=some y→∃x,cs=One x∧Q x)
  {fuel:Nat} {cs0:List Value} {x0:DataW H×List MemPlace} (hf:DataW.trod enc Tryz.prog W 0 sp held fuel t cs0=some x0):
  ∃(A:Option Addr) (cap:Nat) (xs:List α),cs0=[.slice A xs.length cap]∧Rd W sz (.slice A xs.length cap) xs.length (xs.flatMap One)∧∀a∈xs,Q a:=by
 rcases DataW.trod_slice ht hf with⟨rfl,_⟩|⟨a,len,cap,elems,rest,n,_,rfl,hd,hb,hl,hm,hlen,hel,_,_⟩
 ·exact⟨none,0,[],rfl,⟨by simp,none,0,rfl,Nat.le_refl _,Nat.zero_le _,fun h=>absurd h (Nat.lt_irrefl _)⟩,by simp⟩
 have key:∀i,∃x:α,i<len→(∀f,f<sz→W.cell? (a.add (i*sz+f))=(One x)[f]?)∧Q x:=by
  intro i;by_cases hi:i<len
  ·have h1:=hel i hi;obtain⟨y,hy⟩:∃y,elems[i]? =some y:=⟨_,gE (by omega)⟩;rw[hy,Option.bind_eq_some_iff,hsz]at h1;obtain⟨cs,hc,ht⟩:=h1;obtain⟨x,rfl,hq⟩:=one _ _ _ ht;obtain⟨_,_,hcell⟩:=World.cells?_some hc;refine⟨x,fun _=>⟨fun f hf=>?_,hq⟩⟩;rw[←hcell f hf,add_of_add]
  exact⟨z,fun h=>absurd h hi⟩
 obtain⟨X,hX⟩:=Classical.axiomOfChoice key;have hlenX:((List.range len).map X).length=len:=by simp
 have hat:∀i,i<len→((List.range len).map X)[i]? =some (X i):=by intro i hi;rw[List.getElem?_map,List.getElem?_range hi];rfl
 refine⟨some a,cap,(List.range len).map X,by rw[hlenX],?_,fun x hx=>?_⟩
 ·rw[hlenX];refine⟨by rw[chunkF_len One sz hO,hlenX],some a,cap,rfl,hl,hm,fun hpos=>⟨a,rfl,?_,fun j u hu=>?_⟩⟩
  ·have h1:=((hX 0) hpos).1 0 h0;obtain⟨z9,hz⟩:∃z9,(One (X 0))[0]? =some z9:=⟨_,gE (by rw[hO];exact h0)⟩;rw[hz]at h1;have:=World.block_lt_of_cell? W _ h1
   rwa [block_of_add]at this
  have hj:j<len*sz:=by
   have:=(gF.1 hu).1
   rwa [chunkF_len One sz hO,hlenX]at this
  have hi:j/sz<len:=Nat.div_lt_of_lt_mul (by rw[Nat.mul_comm];exact hj);have hr:j%sz<sz:=Nat.mod_lt _ h0;(have e:j=j/sz*sz+j%sz:=by rw[Nat.mul_comm];exact(Nat.div_add_mod j sz).symm);rw[e]at hu ⊢;rw[chunkF_at One sz hO (hat _ hi) _ hr]at hu;rw[((hX _) hi).1 _ hr,hu]
 obtain⟨i,hi,rfl⟩:=List.mem_map.1 hx;exact((hX i) (List.mem_range.1 hi)).2
set_option maxRecDepth 100000 in
theorem one_byteF (n:Nat) (cs:List Value) (y:DataW H×List MemPlace) (h:DataW.trod enc Tryz.prog W 0 sp held n 5 cs=some y):∃b:UInt8,cs=bytC b∧True:=by
 obtain⟨n,rfl,_,hw⟩:=DataW.trod_int Tryz.underlying5 h;have hr:0≤n∧n≤255:=by unfold Lit.wf at hw;rw[Bool.and_eq_true,decide_eq_true_iff,decide_eq_true_iff]at hw;(have e1:IntKind.u8.min=0:=by decide);(have e2:IntKind.u8.max=255:=by decide);omega
 refine⟨UInt8.ofNat n.toNat,?_,trivial⟩;unfold bytC byt;have:(UInt8.ofNat n.toNat).toNat=n.toNat:=by rw[UInt8.toNat_ofNat'];omega
 rw[this,Int.toNat_of_nonneg hr.1]
set_option maxRecDepth 100000 in
theorem one_bytesF (n:Nat) (cs:List Value) (y:DataW H×List MemPlace) (h:DataW.trod enc Tryz.prog W 0 sp held n 35 cs=some y):∃x:Value×List UInt8,cs=[x.1]∧BytesAt W x.1 x.2:=by obtain⟨A,cap,xs,e,hr,_⟩:=arg_sliceF Tryz.underlying35 cellsByteF (by decide) (0:UInt8) bytC (fun _=>rfl) (fun _=>True) one_byteF h;rw[flat_byt]at hr;exact⟨(_,xs),e,hr⟩
set_option maxRecDepth 100000 in
theorem one_intF (n:Nat) (cs:List Value) (y:DataW H×List MemPlace) (h:DataW.trod enc Tryz.prog W 0 sp held n 3 cs=some y):∃b:Int,cs=[.int .i64 b]∧I64 b:=by obtain⟨n,rfl,_,hw⟩:=DataW.trod_int Tryz.underlying3 h;exact⟨n,rfl,i64_of hw⟩
set_option maxRecDepth 100000 in
theorem one_intsF (n:Nat) (cs:List Value) (y:DataW H×List MemPlace) (h:DataW.trod enc Tryz.prog W 0 sp held n 61 cs=some y):∃(u:Value) (xs:List Int),cs=[u]∧Rd W 1 u xs.length (xs.map (Value.int .i64))∧∀k∈xs,I64 k:=by obtain⟨A,cap,xs,e,hr,hq⟩:=arg_sliceF Tryz.underlying61 cellsIntF (by decide) (0:Int) (fun x=>[Value.int .i64 x]) (fun _=>rfl) I64 one_intF h;rw[flat_int]at hr;exact⟨_,xs,e,hr,hq⟩
set_option maxRecDepth 100000 in
theorem one_strF (n:Nat) (cs:List Value) (y:DataW H×List MemPlace) (h:DataW.trod enc Tryz.prog W 0 sp held n 9 cs=some y):∃s:List UInt8,cs=[strV s]∧s.length≤9223372036854775807:=by obtain⟨s,rfl,_,hl⟩:=DataW.trod_string Tryz.underlying9 h;refine⟨s.data.toList,by rw[pth_arrF],?_⟩;have:s.data.toList.length=s.size:=Array.length_toList;rw[this];exact hl
set_option maxRecDepth 100000 in
theorem one_insF (n:Nat) (cs:List Value) (y:DataW H×List MemPlace) (h:DataW.trod enc Tryz.prog W 0 sp held n 38 cs=some y):
  ∃op path tz mode ref,cs=insV op path tz mode ref∧I64 op∧path.length≤9223372036854775807∧tz.length≤9223372036854775807∧I64 mode∧I64 ref:=by
 obtain⟨xs,n,rfl,rfl,hl,hxl,hx⟩:=DataW.trod_struct Tryz.underlying38 h;rw[cellsInsF]at hl;obtain⟨c0,c1,c2,c3,c4,rfl⟩:∃c0 c1 c2 c3 c4,cs=[c0,c1,c2,c3,c4]:=by
  match cs,hl with
  |[c0,c1,c2,c3,c4],_=>exact⟨c0,c1,c2,c3,c4,rfl⟩
 obtain⟨x0,x1,x2,x3,x4,rfl⟩:∃x0 x1 x2 x3 x4,xs=[x0,x1,x2,x3,x4]:=by
  match xs,hxl with
  |[x0,x1,x2,x3,x4],_=>exact⟨x0,x1,x2,x3,x4,rfl⟩
 have h0:DataW.trod enc Tryz.prog W 0 sp held n 3 (([c0,c1,c2,c3,c4].drop 0).take (Tryz.prog.cellsOf 3))=some x0:=hx 0 _ rfl;rw[cellsIntF]at h0;have h1:DataW.trod enc Tryz.prog W 0 sp held n 9 (([c0,c1,c2,c3,c4].drop 1).take (Tryz.prog.cellsOf 9))=some x1:=hx 1 _ rfl;rw[cellsStrF]at h1;have h2:DataW.trod enc Tryz.prog W 0 sp held n 9 (([c0,c1,c2,c3,c4].drop 2).take (Tryz.prog.cellsOf 9))=some x2:=hx 2 _ rfl;rw[cellsStrF]at h2;have h3:DataW.trod enc Tryz.prog W 0 sp held n 3 (([c0,c1,c2,c3,c4].drop 3).take (Tryz.prog.cellsOf 3))=some x3:=hx 3 _ rfl;rw[cellsIntF]at h3;have h4:DataW.trod enc Tryz.prog W 0 sp held n 3 (([c0,c1,c2,c3,c4].drop 4).take (Tryz.prog.cellsOf 3))=some x4:=hx 4 _ rfl;rw[cellsIntF]at h4;simp only[List.drop_zero,List.drop_succ_cons,List.take_succ_cons,List.take_zero]at h0 h1 h2 h3 h4;obtain⟨n0,e0,k0⟩:=one_intF _ _ _ h0;obtain⟨n1,e1,k1⟩:=one_strF _ _ _ h1;obtain⟨n2,e2,k2⟩:=one_strF _ _ _ h2;obtain⟨n3,e3,k3⟩:=one_intF _ _ _ h3;obtain⟨n4,e4,k4⟩:=one_intF _ _ _ h4;simp only[List.cons.injEq,and_true]at e0 e1 e2 e3 e4;subst e0 e1 e2 e3 e4;exact⟨n0,n1,n2,n3,n4,rfl,k0,k1,k2,k3,k4⟩
set_option maxRecDepth 100000 in
theorem one_stepF (n:Nat) (cs:List Value) (y:DataW H×List MemPlace) (h:DataW.trod enc Tryz.prog W 0 sp held n 63 cs=some y):∃x:Stp,cs=x.cells∧StpOk W x:=by
 obtain⟨xs,n,rfl,rfl,hl,hxl,hx⟩:=DataW.trod_struct Tryz.underlying63 h;rw[cellsStepF]at hl;obtain⟨c0,c1,c2,c3,c4,c5,c6,c7,c8,rfl⟩:∃c0 c1 c2 c3 c4 c5 c6 c7 c8,cs=[c0,c1,c2,c3,c4,c5,c6,c7,c8]:=by
  match cs,hl with
  |[c0,c1,c2,c3,c4,c5,c6,c7,c8],_=>exact⟨c0,c1,c2,c3,c4,c5,c6,c7,c8,rfl⟩
 obtain⟨x0,x1,x2,x3,x4,rfl⟩:∃x0 x1 x2 x3 x4,xs=[x0,x1,x2,x3,x4]:=by
  match xs,hxl with
  |[x0,x1,x2,x3,x4],_=>exact⟨x0,x1,x2,x3,x4,rfl⟩
 have h0:DataW.trod enc Tryz.prog W 0 sp held n 3 (([c0,c1,c2,c3,c4,c5,c6,c7,c8].drop 0).take (Tryz.prog.cellsOf 3))=some x0:=hx 0 _ rfl;rw[cellsIntF]at h0;have h1:DataW.trod enc Tryz.prog W 0 sp held n 3 (([c0,c1,c2,c3,c4,c5,c6,c7,c8].drop 1).take (Tryz.prog.cellsOf 3))=some x1:=hx 1 _ rfl;rw[cellsIntF]at h1;have h2:DataW.trod enc Tryz.prog W 0 sp held n 38 (([c0,c1,c2,c3,c4,c5,c6,c7,c8].drop 2).take (Tryz.prog.cellsOf 38))=some x2:=hx 2 _ rfl;rw[cellsInsF]at h2;have h3:DataW.trod enc Tryz.prog W 0 sp held n 35 (([c0,c1,c2,c3,c4,c5,c6,c7,c8].drop 7).take (Tryz.prog.cellsOf 35))=some x3:=hx 3 _ rfl;rw[cellsBytesF]at h3;have h4:DataW.trod enc Tryz.prog W 0 sp held n 61 (([c0,c1,c2,c3,c4,c5,c6,c7,c8].drop 8).take (Tryz.prog.cellsOf 61))=some x4:=hx 4 _ rfl;rw[cellsIntsF]at h4;simp only[List.drop_zero,List.drop_succ_cons,List.take_succ_cons,List.take_zero]at h0 h1 h2 h3 h4;obtain⟨n0,e0,k0⟩:=one_intF _ _ _ h0;obtain⟨n1,e1,k1⟩:=one_intF _ _ _ h1;obtain⟨op,path,tz,mode,ref,e2,k2,k3,k4,k5,k6⟩:=one_insF _ _ _ h2;obtain⟨⟨dv,bs⟩,e3,k7⟩:=one_bytesF _ _ _ h3;obtain⟨kv,ks,e4,k8,k9⟩:=one_intsF _ _ _ h4;unfold insV at e2;simp only[List.cons.injEq,and_true]at e0 e1 e2 e3 e4;obtain⟨e20,e21,e22,e23,e24⟩:=e2;subst e0 e1 e20 e21 e22 e23 e24 e3 e4;exact⟨⟨n0,n1,op,path,tz,mode,ref,c7,c8,bs,ks⟩,rfl,⟨k0,k1,k2,k5,k6,k3,k4,k7,k8,k9⟩⟩
end
def StepsAt (w:World) (v:Value) (xs:List Stp):Prop:=Rd w 9 v xs.length (xs.flatMap Stp.cells)
structure StockF (w:World) (sv:Value) (cs:List Value) (bss:List (List UInt8)):Prop where
 rd:Rd w 1 sv cs.length cs
 len:bss.length=cs.length
 bytes:∀(k:Nat) u b,cs[k]? =some u→bss[k]? =some b→BytesAt w u b
theorem StepsAt.below {w w':World} {v:Value} {xs:List Stp} (h:StepsAt w v xs) (hb:Below w.heap.size w w'):StepsAt w' v xs:=Rd.below h hb
theorem StpOk.below {w w':World} {x:Stp} (h:StpOk w x) (hb:Below w.heap.size w w'):StpOk w' x:=⟨h.kind,h.num,h.op,h.mode,h.ref,h.path,h.tz,h.data.below hb,h.keep.below hb,h.ints⟩
theorem StockF.below {w w':World} {sv:Value} {cs:List Value} {bss:List (List UInt8)} (h:StockF w sv cs bss) (hb:Below w.heap.size w w'):StockF w' sv cs bss:=
 ⟨h.rd.below hb,h.len,fun k u b hu hx=>(h.bytes k u b hu hx).below hb⟩
section
variable {H:Type} {enc:TypeId×Value→H} {W:World}
theorem flat_oneF (xs:List (Value×List UInt8)):xs.flatMap (fun x=>[x.1])=xs.map (·.1):=by
 induction xs with
 |nil=>rfl
 |cons x xs ih=>rw[List.flatMap_cons,ih];rfl
set_option maxRecDepth 100000 in
theorem arg_steps {v:Value} {d:DataW H} {p:List MemPlace} {base:Nat} (hok:Value.okWide Tryz.prog W .any base 57 v) (h0:DataW.Trod enc Tryz.prog W 0 (fun _=>true) true 57 v d p):
  ∃xs:List Stp,StepsAt W v xs∧∀x∈xs,StpOk W x:=by
 obtain⟨a0,len,cap,rfl⟩:=okWide_slice Tryz.underlying57 hok;obtain⟨fuel,hf⟩:=h0;obtain⟨A,c,xs,e,hr,hq⟩:=arg_sliceF Tryz.underlying57 cellsStepF (by decide) (⟨0,0,0,[],[],0,0,.nilFunc,.nilFunc,[],[]⟩:Stp) Stp.cells (fun _=>rfl) (StpOk W) one_stepF hf;simp[Value.cells]at e;obtain⟨rfl,rfl,rfl⟩:=e;exact⟨xs,hr,hq⟩
set_option maxRecDepth 100000 in
theorem arg_stockF {v:Value} {d:DataW H} {p:List MemPlace} {base:Nat} (hok:Value.okWide Tryz.prog W .any base 36 v) (h0:DataW.Trod enc Tryz.prog W 0 (fun _=>true) true 36 v d p):
  ∃(cs:List Value) (bss:List (List UInt8)),StockF W v cs bss:=by
 obtain⟨a0,len,cap,rfl⟩:=okWide_slice Tryz.underlying36 hok;obtain⟨fuel,hf⟩:=h0;obtain⟨A,c,xs,e,hr,hq⟩:=arg_sliceF Tryz.underlying36 cellsBytesF (by decide) ((.nilFunc,[]):Value×List UInt8) (fun x=>[x.1]) (fun _=>rfl) (fun x=>BytesAt W x.1 x.2) one_bytesF hf;simp[Value.cells]at e;obtain⟨rfl,rfl,rfl⟩:=e;refine⟨xs.map (·.1),xs.map (·.2),⟨?_,by simp,fun k u b hu hb=>?_⟩⟩
 ·rw[List.length_map];rw[flat_oneF]at hr;exact hr
 rw[List.getElem?_map,Option.map_eq_some_iff]at hu hb;obtain⟨x,hx,rfl⟩:=hu;obtain⟨x',hx',rfl⟩:=hb;obtain rfl:x=x':=Option.some.inj (hx.symm.trans hx');exact hq x (gG hx)
end
end Go.Proofs.YteihmbaimbogaaaGreat
namespace Go.Proofs.YteihmbaimbogaaaGreat
open Go.RowKit
set_option linter.unusedVariables false
set_option linter.unusedSimpArgs false
theorem step_at {xs:List Stp} {i:Nat} {x:Stp} (h:xs[i]? =some x) (j:Nat) (hj:j<9):(xs.flatMap Stp.cells)[i*9+j]? =x.cells[j]? :=
 chunkF_at Stp.cells 9 (fun _=>rfl) h j hj
set_option maxRecDepth 100000 in
set_option maxHeartbeats 8000000 in
theorem much_any {w:World} {v sv:Value} {xs:List Stp} {cs:List Value} {bss:List (List UInt8)} (hx:StepsAt w v xs) (hok:∀x∈xs,StpOk w x) (hs:StockF w sv cs bss):
  Calls Tryz.prog 24 #[v,sv] w fun e w'=>∃b,e= .returned (.bool b)∧(b=false→xs.length≤80)∧Below w.heap.size w w':=by
 obtain⟨Ax,cx,rfl,hxl⟩:=Rd.shape hx;obtain⟨As,c9,rfl,hsl⟩:=Rd.shape hs.rd;have b1:(xs.length:Int)≤9223372036854775807:=by unfold maxLen at hxl;omega
 have b2:(cs.length:Int)≤9223372036854775807:=by unfold maxLen at hsl;omega
 have hx':=Lh hx;have hok':=Lh hok;have hs':=Lh hs;clear hx hok hs hxl hsl;go_enter Tryz.func24,Tryz.ntmps24;go_wp2;go_loopw[5,6] (fun nv iv wr=>∃(m:Int) (i:Nat),nv= .int .i64 m∧I64 m∧iv= .int .i64 i∧i≤xs.length∧Below w.heap.size w wr) (fun _ iv _=>xs.length-(intOf iv).toNat)
 case atStart=>exact⟨0,0,rfl,by unfold I64;omega,rfl,Nat.zero_le _,Below.refl _ _⟩
 obtain⟨m,i,rfl,hm,rfl,hi,hb⟩:=hrel;by_cases hlt:i<xs.length
 case neg=>
  (have q1:¬(i:Int)<(xs.length:Int):=by omega);clear hx' hok';go_wp2;go_loopw[5,7] (fun nv iv wr2=>∃(m:Int) (i:Nat),nv= .int .i64 m∧I64 m∧iv= .int .i64 i∧i≤cs.length∧Below w.heap.size w wr2) (fun _ iv _=>cs.length-(intOf iv).toNat)
  case atStart=>exact⟨m,0,rfl,hm,rfl,Nat.zero_le _,hb⟩
  clear hm hi hb q1;obtain⟨m,i,rfl,hm,rfl,hi,hb⟩:=hrel;by_cases hlt2:i<cs.length
  case neg=>
   (have q1:¬(i:Int)<(cs.length:Int):=by omega);clear hs';by_cases r1:100000<m
   ·go_wp2;go_ret;exact .inr ⟨rfl,hb⟩
   by_cases r2:80<(xs.length:Int)
   ·go_wp2;go_ret;exact .inr ⟨rfl,hb⟩
   go_wp2;go_ret;exact .inl ⟨rfl,by omega,hb⟩
  (have q1:(i:Int)<(cs.length:Int):=by omega);by_cases h2:m≤100000
  case neg=>(have r1:100000<m:=by omega);clear hs';go_wp2;go_ret;exact .inr ⟨rfl,hb⟩
  obtain⟨u,hu⟩:∃u,cs[i]? =some u:=⟨_,gE hlt2⟩;obtain⟨b9,hb9⟩:∃b,bss[i]? =some b:=⟨_,gE (by rw[hs'.out.len];exact hlt2)⟩;obtain⟨Au,cu,rfl,hul⟩:=Rd.shape (hs'.out.bytes i u b9 hu hb9);obtain⟨g,o,ca,e,_,_,hgl,hcell⟩:=Rd.placeF (Rd.below hs'.out.rd hb) (by omega) (by decide);simp only[Value.slice.injEq]at e;obtain⟨rfl,_,rfl⟩:=e;have hc1:wr.cell? ⟨g,o+i,none⟩=some (.slice Au b9.length cu):=(hcell _ (Below.refl _ _) i (by omega)).trans hu;(have p1:(0:Int)≤(i:Int):=by omega);clear hs' hcell hul hu hb9;go_wp2;refine⟨⟨_,i+1,rfl,?_,by go_num,by omega,hb⟩,?_⟩
  ·first |exact wrap64_ok _|(simp only[IntWalk.i64_left];exact wrap64_ok _)
  (show cs.length-((i:Int)+1).toNat<cs.length-((i:Int)).toNat);omega
 by_cases h1:m≤100000
 case neg=>
  (have q1:(i:Int)<(xs.length:Int):=by omega);clear hx' hok';go_wp2;go_loopw[5,7] (fun nv iv wr2=>∃(m:Int) (i:Nat),nv= .int .i64 m∧I64 m∧iv= .int .i64 i∧i≤cs.length∧Below w.heap.size w wr2) (fun _ iv _=>cs.length-(intOf iv).toNat)
  case atStart=>exact⟨m,0,rfl,hm,rfl,Nat.zero_le _,hb⟩
  clear hm hi hb q1;obtain⟨m,i,rfl,hm,rfl,hi,hb⟩:=hrel;by_cases hlt2:i<cs.length
  case neg=>
   (have q1:¬(i:Int)<(cs.length:Int):=by omega);clear hs';by_cases r1:100000<m
   ·go_wp2;go_ret;exact .inr ⟨rfl,hb⟩
   by_cases r2:80<(xs.length:Int)
   ·go_wp2;go_ret;exact .inr ⟨rfl,hb⟩
   go_wp2;go_ret;exact .inl ⟨rfl,by omega,hb⟩
  (have q1:(i:Int)<(cs.length:Int):=by omega);by_cases h2:m≤100000
  case neg=>(have r1:100000<m:=by omega);clear hs';go_wp2;go_ret;exact .inr ⟨rfl,hb⟩
  obtain⟨u,hu⟩:∃u,cs[i]? =some u:=⟨_,gE hlt2⟩;obtain⟨b9,hb9⟩:∃b,bss[i]? =some b:=⟨_,gE (by rw[hs'.out.len];exact hlt2)⟩;obtain⟨Au,cu,rfl,hul⟩:=Rd.shape (hs'.out.bytes i u b9 hu hb9);obtain⟨g,o,ca,e,_,_,hgl,hcell⟩:=Rd.placeF (Rd.below hs'.out.rd hb) (by omega) (by decide);simp only[Value.slice.injEq]at e;obtain⟨rfl,_,rfl⟩:=e;have hc1:wr.cell? ⟨g,o+i,none⟩=some (.slice Au b9.length cu):=(hcell _ (Below.refl _ _) i (by omega)).trans hu;(have p1:(0:Int)≤(i:Int):=by omega);clear hs' hcell hul hu hb9;go_wp2;refine⟨⟨_,i+1,rfl,?_,by go_num,by omega,hb⟩,?_⟩
  ·first |exact wrap64_ok _|(simp only[IntWalk.i64_left];exact wrap64_ok _)
  (show cs.length-((i:Int)+1).toNat<cs.length-((i:Int)).toNat);omega
 obtain⟨x,hxi⟩:∃x,xs[i]? =some x:=⟨_,gE hlt⟩;have hXo:=hok'.out x (gG hxi);obtain⟨g,o,ca,e,_,_,hgl,hcell⟩:=Rd.placeF (Rd.below hx'.out hb) (by omega) (by decide);simp only[Value.slice.injEq]at e;obtain⟨rfl,_,rfl⟩:=e;obtain⟨Ad,cd,hdv,hdl⟩:=Rd.shape hXo.data;obtain⟨Ak,ck,hkv,hkl⟩:=Rd.shape hXo.keep;have m1:∀W:World,Below wr.heap.size wr W→W.cell? ⟨g,o+i*9+7,none⟩=some (.slice Ad x.data.length cd)∧W.cell? ⟨g,o+i*9+8,none⟩=some (.slice Ak x.keep.length ck)∧W.cell? ⟨g,o+i*9+3,none⟩=some (.string ⟨x.path.toArray⟩)∧W.cell? ⟨g,o+i*9+4,none⟩=some (.string ⟨x.tz.toArray⟩):=fun W hW=>by(have hic:=fun(j:Nat) (hj:j<9)=>(hcell W hW (i*9+j) (by omega)).trans (step_at hxi j hj));have e3:=hic 3 (by omega);have e4:=hic 4 (by omega);have e7:=hic 7 (by omega);have e8:=hic 8 (by omega);simp only[Stp.cells,hdv,hkv,strV,Nat.add_zero,←Nat.add_assoc,gB,gC]at e3 e4 e7 e8;exact⟨e7,e8,e3,e4⟩
 have hE0:=m1 _ (Below.refl _ _).drew;have p1:(0:Int)≤(i:Int):=by omega
 have p2:(i:Int)<(xs.length:Int):=by omega
 have s3:(⟨x.path.toArray⟩:ByteArray).size=x.path.length:=rfl;have s4:(⟨x.tz.toArray⟩:ByteArray).size=x.tz.length:=rfl;clear hx' hs' hok' hcell hXo hdv hkv m1 hdl hkl;go_wp2_with fail;refine wp_region_E (S:=fun W=>W.cell? ⟨g,o+i*9+7,none⟩=some (.slice Ad x.data.length cd)∧W.cell? ⟨g,o+i*9+8,none⟩=some (.slice Ak x.keep.length ck)∧W.cell? ⟨g,o+i*9+3,none⟩=some (.string ⟨x.path.toArray⟩)∧W.cell? ⟨g,o+i*9+4,none⟩=some (.string ⟨x.tz.toArray⟩)) 32 (by kernel_rfl) ?_;simp only[List.size_toArray,List.length_cons,List.length_nil,Nat.reduceAdd];refine wpE_tk (i:=0) (v:=?_) hE0 rfl ?_ ?_;rotate_left
 ·rintro w ⟨e1,e2,e3,e4⟩;go_simp;try with_reducible rfl
 simp only[Act.put,gD];refine wpE_tk (i:=1) (v:=?_) hE0 rfl ?_ ?_;rotate_left
 ·rintro w ⟨e1,e2,e3,e4⟩;go_simp;try with_reducible rfl
 simp only[Act.put,gD];refine wpE_tk (i:=2) (v:=?_) hE0 rfl ?_ ?_;rotate_left
 ·rintro w ⟨e1,e2,e3,e4⟩;go_simp;try with_reducible rfl
 simp only[Act.put,gD];refine wpE_tk (i:=3) (v:=?_) hE0 rfl ?_ ?_;rotate_left
 ·rintro w ⟨e1,e2,e3,e4⟩;go_simp;try with_reducible rfl
 simp only[Act.put,gD];refine wpE_tk (i:=4) (v:=?_) hE0 rfl ?_ ?_;rotate_left
 ·rintro w ⟨e1,e2,e3,e4⟩;go_simp;try with_reducible rfl
 simp only[Act.put,gD];refine wpE_tk (i:=5) (v:=?_) hE0 rfl ?_ ?_;rotate_left
 ·rintro w ⟨e1,e2,e3,e4⟩;go_simp;try with_reducible rfl
 simp only[Act.put,gD];refine wpE_tk (i:=6) (v:=?_) hE0 rfl ?_ ?_;rotate_left
 ·rintro w ⟨e1,e2,e3,e4⟩;go_simp;try with_reducible rfl
 simp only[Act.put,gD];refine wpE_tk (i:=7) (v:=?_) hE0 rfl ?_ ?_;rotate_left
 ·rintro w ⟨e1,e2,e3,e4⟩;go_simp;try with_reducible rfl
 simp only[Act.put,gD];refine wpE_tk (i:=8) (v:=?_) hE0 rfl ?_ ?_;rotate_left
 ·rintro w ⟨e1,e2,e3,e4⟩;go_simp;try with_reducible rfl
 simp only[Act.put,gD];refine wpE_tk (i:=9) (v:=?_) hE0 rfl ?_ ?_;rotate_left
 ·rintro w ⟨e1,e2,e3,e4⟩;go_simp;try with_reducible rfl
 simp only[Act.put,gD];refine wpE_tk (i:=10) (v:=?_) hE0 rfl ?_ ?_;rotate_left
 ·rintro w ⟨e1,e2,e3,e4⟩;go_simp;try with_reducible rfl
 simp only[Act.put,gD];refine wpE_tk (i:=11) (v:=?_) hE0 rfl ?_ ?_;rotate_left
 ·rintro w ⟨e1,e2,e3,e4⟩;go_simp;try with_reducible rfl
 simp only[Act.put,gD];refine wpE_tk (i:=12) (v:=?_) hE0 rfl ?_ ?_;rotate_left
 ·rintro w ⟨e1,e2,e3,e4⟩;go_simp;try with_reducible rfl
 simp only[Act.put,gD];refine wpE_tk (i:=13) (v:=?_) hE0 rfl ?_ ?_;rotate_left
 ·rintro w ⟨e1,e2,e3,e4⟩;go_simp;try with_reducible rfl
 simp only[Act.put,gD];refine wpE_tk (i:=14) (v:=?_) hE0 rfl ?_ ?_;rotate_left
 ·rintro w ⟨e1,e2,e3,e4⟩;go_simp;try with_reducible rfl
 simp only[Act.put,gD];refine wpE_tk (i:=15) (v:=?_) hE0 rfl ?_ ?_;rotate_left
 ·rintro w ⟨e1,e2,e3,e4⟩;go_simp;try with_reducible rfl
 simp only[Act.put,gD];refine wpE_tk (i:=16) (v:=?_) hE0 rfl ?_ ?_;rotate_left
 ·rintro w ⟨e1,e2,e3,e4⟩;go_simp;try with_reducible rfl
 simp only[Act.put,gD];refine wpE_tk (i:=17) (v:=?_) hE0 rfl ?_ ?_;rotate_left
 ·rintro w ⟨e1,e2,e3,e4⟩;go_simp;try with_reducible rfl
 simp only[Act.put,gD];refine wpE_tk (i:=18) (v:=?_) hE0 rfl ?_ ?_;rotate_left
 ·rintro w ⟨e1,e2,e3,e4⟩;go_simp;try with_reducible rfl
 simp only[Act.put,gD];refine wpE_tk (i:=19) (v:=?_) hE0 rfl ?_ ?_;rotate_left
 ·rintro w ⟨e1,e2,e3,e4⟩;go_simp;try with_reducible rfl
 simp only[Act.put,gD];refine wpE_tk (i:=20) (v:=?_) hE0 rfl ?_ ?_;rotate_left
 ·rintro w ⟨e1,e2,e3,e4⟩;go_simp;try with_reducible rfl
 simp only[Act.put,gD];refine wpE_tk (i:=21) (v:=?_) hE0 rfl ?_ ?_;rotate_left
 ·rintro w ⟨e1,e2,e3,e4⟩;go_simp;try with_reducible rfl
 simp only[Act.put,gD];refine wpE_tk (i:=22) (v:=?_) hE0 rfl ?_ ?_;rotate_left
 ·rintro w ⟨e1,e2,e3,e4⟩;go_simp;try with_reducible rfl
 simp only[Act.put,gD];refine wpE_tk (i:=23) (v:=?_) hE0 rfl ?_ ?_;rotate_left
 ·rintro w ⟨e1,e2,e3,e4⟩;go_simp;try with_reducible rfl
 simp only[Act.put,gD];refine wpE_tk (i:=24) (v:=?_) hE0 rfl ?_ ?_;rotate_left
 ·rintro w ⟨e1,e2,e3,e4⟩;go_simp;try with_reducible rfl
 simp only[Act.put,gD];refine wpE_tk (i:=25) (v:=?_) hE0 rfl ?_ ?_;rotate_left
 ·rintro w ⟨e1,e2,e3,e4⟩;go_simp;try with_reducible rfl
 simp only[Act.put,gD];refine wpE_tk (i:=26) (v:=?_) hE0 rfl ?_ ?_;rotate_left
 ·rintro w ⟨e1,e2,e3,e4⟩;go_simp;try with_reducible rfl
 simp only[Act.put,gD];refine wpE_tk (i:=27) (v:=?_) hE0 rfl ?_ ?_;rotate_left
 ·rintro w ⟨e1,e2,e3,e4⟩;go_simp;try with_reducible rfl
 simp only[Act.put,gD];refine wpE_tk (i:=28) (v:=?_) hE0 rfl ?_ ?_;rotate_left
 ·rintro w ⟨e1,e2,e3,e4⟩;go_simp;try with_reducible rfl
 simp only[Act.put,gD];refine wpE_tk (i:=29) (v:=?_) hE0 rfl ?_ ?_;rotate_left
 ·rintro w ⟨e1,e2,e3,e4⟩;go_simp;try with_reducible rfl
 simp only[Act.put,gD];refine wpE_tk (i:=30) (v:=?_) hE0 rfl ?_ ?_;rotate_left
 ·rintro w ⟨e1,e2,e3,e4⟩;go_simp;try with_reducible rfl
 simp only[Act.put,gD];refine wpE_tk (i:=31) (v:=?_) hE0 rfl ?_ ?_;rotate_left
 ·rintro w ⟨e1,e2,e3,e4⟩;go_simp;try with_reducible rfl
 simp only[Act.put,gD];refine wpE_one (i:=32) (by kernel_rfl) rfl (fun K hK=>?_);go_simp;refine hK _ _ (fun h=>absurd rfl h) ?_;clear hK K;try simp only[Act.put,gD]
 refine wpE_done (by kernel_rfl) ?_ _;go_wp2;refine⟨⟨_,i+1,rfl,?_,by go_num,by omega,hb.drew⟩,?_⟩
 ·first |exact wrap64_ok _|(simp only[IntWalk.i64_left];exact wrap64_ok _)
 show xs.length-((i:Int)+1).toNat<xs.length-((i:Int)).toNat
 omega
end Go.Proofs.YteihmbaimbogaaaGreat
