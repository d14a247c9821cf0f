/- TreeG, LooseF, LooseG, LooseA, LooseP, Vals, PathS, laid together. -/
import Derived.Test.YtimkjnbihlgbiaaGreatJ9
import Derived.RangeFuncNested
import Derived.RangeFuncBound
import Derived.RangeFuncCalls
import Derived.RangeFuncLeaves
import Derived.RangeFuncBox
import Derived.Shelf.Abstract
import Derived.OwnWalkIn
import Derived.TacticsInMore
import Derived.LoopNIn
import Derived.LoopIn
import Derived.Maps.AppendAt
namespace Go.Proofs.YtimkjnbihlgbiaaGreat
open Go.RowKit Go.Shelf
set_option linter.unusedVariables false
structure TN where
 path:List UInt8
 file:Int
 mode:Int
deriving DecidableEq
structure TF where
 mode:Int
 size:Nat
deriving DecidableEq
def tnC (n:TN):List Value:=[strV n.path,.int .i64 n.file,.int .i64 n.mode]
def tnCells (ns:List TN):List Value:=ns.flatMap tnC
def tfC (x:TF×Value):List Value:=[.int .i64 x.1.mode,x.2]
def tfCells (fs:List TF) (vs:List Value):List Value:=(fs.zip vs).flatMap tfC
theorem tnCells_len (ns:List TN):(tnCells ns).length=ns.length*3:=by rw[tnCells,chunk_len tnC 3 (fun _=>rfl)]
theorem tnCells_at {ns:List TN} {i:Nat} {n:TN} (h:ns[i]? =some n) (j:Nat) (hj:j<3):(tnCells ns)[i*3+j]? =(tnC n)[j]? :=
 chunk_at tnC 3 (fun _=>rfl) h j hj
theorem tfCells_len {fs:List TF} {vs:List Value} (h:vs.length=fs.length):(tfCells fs vs).length=fs.length*2:=by rw[tfCells,chunk_len tfC 2 (fun _=>rfl),List.length_zip,h,Nat.min_self]
theorem tfCells_at {fs:List TF} {vs:List Value} {i:Nat} {f:TF} {u:Value} (h:fs[i]? =some f) (hu:vs[i]? =some u) (j:Nat) (hj:j<2):(tfCells fs vs)[i*2+j]? =(tfC (f,u))[j]? :=
 chunk_at tfC 2 (fun _=>rfl) (by rw[List.getElem?_zip_eq_some];exact⟨h,hu⟩) j hj
structure TreeAt (w:World) (nv fv:Value) (ns:List TN) (fs:List TF) (vs:List Value):Prop where
 len:vs.length=fs.length
 nodes:Rd w 3 nv ns.length (tnCells ns)
 files:Rd w 2 fv fs.length (tfCells fs vs)
 data:∀(k:Nat) u f,vs[k]? =some u→fs[k]? =some f→DataAt w u f.size
theorem TreeAt.below {w w':World} {nv fv:Value} {ns:List TN} {fs:List TF} {vs:List Value} (h:TreeAt w nv fv ns fs vs) (hb:Below w.heap.size w w'):TreeAt w' nv fv ns fs vs:=
 ⟨h.len,h.nodes.below hb,h.files.below hb,fun k u e hu he=>(h.data k u e hu he).below hb⟩
structure TreeSm (ns:List TN) (fs:List TF):Prop where
 few:ns.length≤300
 few2:fs.length≤300
 short:∀n∈ns,n.path.length≤40000
 size:∀f∈fs,f.size≤1048576
def slashP (p:List UInt8):Nat:=(max 0 (Lib.lastIndexByte ⟨p.toArray⟩ 47)).toNat
def parentL (p:List UInt8):List UInt8:=if validL p=true then p.take (slashP p)else []
theorem slashP_le (p:List UInt8):slashP p≤p.length:=by
 unfold slashP;rcases Lib.lastIndexByte_spec ⟨p.toArray⟩ 47 with⟨h,_⟩|⟨i,hi,h,_⟩
 ·rw[h];omega
 have hi':i<p.length:=hi;rw[h];omega
theorem parentL_len (p:List UInt8):(parentL p).length≤p.length:=by
 unfold parentL;split
 ·rw[List.length_take];omega
 simp
theorem extract_take (p:List UInt8) (n:Nat):(⟨p.toArray⟩:ByteArray).extract 0 n=⟨(p.take n).toArray⟩:=by
 have e:((⟨p.toArray⟩:ByteArray).extract 0 n).data.toList=p.take n:=by rw[Lib.extract_data];simp
 generalize(⟨p.toArray⟩:ByteArray).extract 0 n=t at e;obtain⟨⟨l⟩⟩:=t;simp at e;rw[e]
theorem parent_any {p:List UInt8} (h:p.length≤4000000) (w:World):Calls Tryz.prog 39 #[strV p] w fun e w'=>e= .returned (strV (parentL p))∧Below w.heap.size w w':=by
 have hv:=valid_any ⟨p.toArray⟩ w (by rw[strV_size];omega);rw[strV_data]at hv;cases hval:validL p with
 |false=>rw[hval]at hv;(have e:parentL p=[]:=by unfold parentL;rw[hval];rfl);rw[e];clear e;unfold strV at*;go_enter Tryz.func39,Tryz.ntmps39;go_wp2_with(go_at_call 38;refine hv.mono ?_;rintro e w1 ⟨rfl,hb⟩);go_ret;exact⟨rfl,hb⟩
 |true=>rw[hval]at hv;(have hl:=fun W=>Go.Proofs.Any.strings_LastIndexByte Go.Proofs.Tryz.lastIndexByte ⟨p.toArray⟩ 47 (by rw[strV_size];omega) W);(have e:parentL p=p.take (slashP p):=by unfold parentL;rw[hval];rfl);rw[e];clear e;have hle:=slashP_le p;unfold slashP at*;generalize hlx:Lib.lastIndexByte ⟨p.toArray⟩ 47=x at hl hle ⊢;(have hl':∀W,Calls Tryz.prog 74 #[strV p,.int .u8 47] W fun e w'=>e= .returned (.int .i64 x)∧w'=W:=by intro W;exact hl W);clear hl hlx;unfold strV at*;(have hx1:max 0 x≤(p.length:Int):=by omega);(have hx2:0≤max 0 x:=by omega);clear hle;go_enter Tryz.func39,Tryz.ntmps39;go_wp2_with(first |(go_at_call 38;refine hv.mono ?_;rintro e w1 ⟨rfl,hb⟩)|(go_at_call 74;refine(hl' _).mono ?_;rintro e w2 ⟨rfl,hw2⟩;have hw3:=hw2.symm;clear hw2;subst hw3));go_ret;refine⟨?_,hb⟩;rw[extract_take];rfl
theorem small_any {n:Nat} (h:n≤1048576) (m:Int) (A:Option Addr) (c:Nat) (w:World):Calls Tryz.prog 73 #[.agg #[.int .i64 m,.slice A n c]] w fun e w'=>e= .returned (.bool (decide (8192<n)))∧Below w.heap.size w w':=by
 have hb:=Lh (Below.new w (.cells #[.int .i64 m,.slice A n c] 54));have b1:decide ((8192:Int)<(n:Int))=decide (8192<n):=by simp;omega
 go_enter Tryz.func73,Tryz.ntmps73;go_wp2_with fail;go_ret;refine⟨?_,hb.out⟩;first |rfl|(rw[b1])
def bigF (f:TF):Bool:=decide (8192<f.size)
def boundP (ns:List TN) (fs:List TF):Bool:=(decide (256<ns.length)||decide (256<fs.length))||fs.any bigF
set_option maxRecDepth 100000 in
theorem fileidx_any {w:World} {nv fv:Value} {ns:List TN} {fs:List TF} {vs:List Value} (h:TreeAt w nv fv ns fs vs) (hf:fs.length≤300) (hs:∀f∈fs,f.size≤1048576):
  Calls Tryz.prog 101 #[fv,.func (.func 73) #[] #[]] w fun e w'=>(∃r:Int,e= .returned (.int .i64 r)∧decide (0≤r)=fs.any bigF)∧Below w.heap.size w w':=by
 rcases Nat.eq_zero_or_pos fs.length with h0|h0
 ·obtain⟨A,c,rfl,_⟩:=h.files.shape;have hb:=Lh (Below.refl w.heap.size w);have e0:fs=[]:=List.eq_nil_of_length_eq_zero h0;subst e0;clear h hf h0;go_enter Tryz.func101,Tryz.ntmps101;go_wp2_with fail;refine wp_loop_rounds 1 ?_;rw[rounds_succ];go_wp2_with fail;go_ret;exact⟨⟨_,rfl,rfl⟩,hb.out⟩
 obtain⟨g,o,c,rfl,hc,hcm,hg,hcell⟩:=h.files.place h0 (by decide);have hcell':=Lh hcell;have h':=Lh h;have hs':=Lh hs;have b1:(fs.length:Int)≤300:=by omega
 clear hcell h hs;go_enter Tryz.func101,Tryz.ntmps101;go_wp2_with fail;go_loopw[8] (fun iv wr=>∃k:Nat,k≤fs.length∧iv= .int .i64 k∧Hid (∀j f,j<k→fs[j]? =some f→bigF f=false)∧Below w.heap.size w wr) (fun iv _=>fs.length-(intOf iv).toNat)
 case atStart=>exact⟨0,Nat.zero_le _,rfl,(fun j f hj=>by omega),Below.refl _ _⟩
 obtain⟨k,hk,rfl,hno,hb⟩:=hrel;have q1:(0:Int)≤(k:Int):=by omega
 have hb':=Lh hb;by_cases hlt:k<fs.length
 ·(have q2:(k:Int)<(fs.length:Int):=by omega);obtain⟨f,he⟩:∃f,fs[k]? =some f:=⟨_,gE hlt⟩;obtain⟨u,hu⟩:∃u,vs[k]? =some u:=⟨_,gE (by rw[h'.out.len];exact hlt)⟩;obtain⟨A,c9,rfl,_⟩:=(h'.out.data k u f hu he).shape;have c0:=(hcell'.out wr hb (k*2) (by omega)).trans (tfCells_at he hu 0 (by omega));have c1:=(hcell'.out wr hb (k*2+1) (by omega)).trans (tfCells_at he hu 1 (by omega));simp only[tfC,gB,gC,←Nat.add_assoc]at c0 c1;(have hone:=fun W=>small_any (hs'.out f (gG he)) f.mode A c9 W);have he':=Lh he;have hbg:bigF f=decide (8192<f.size):=rfl;rw[←hbg]at hone;have hone':=Lh hone;clear hone he hu hb hbg;generalize hbf:bigF f=bf at hone';have hbf':=Lh hbf;clear hbf;cases bf with
  |true=>go_wp2_with(go_at_call 73;refine(hone'.out _).mono ?_;rintro e w2 ⟨rfl,hb2⟩;have hb3:=Lh (hb'.out.trans (hb2.mono hb'.out.size));clear hb2);go_ret;exact⟨⟨_,rfl,by rw[show decide (0≤(k:Int))=true by simp];exact(List.any_eq_true.2 ⟨f,gG he'.out,hbf'.out⟩).symm⟩,hb3.out⟩
  |false=>
   go_wp2_with(go_at_call 73;refine(hone'.out _).mono ?_;rintro e w2 ⟨rfl,hb2⟩;have hb3:=Lh (hb'.out.trans (hb2.mono hb'.out.size));clear hb2);go_roundw
   case rel=>
    refine⟨k+1,by omega,by go_num,fun j g hj hg=>?_,hb3.out⟩;by_cases hjk:j=k
    ·subst hjk;have e1:=hg.symm.trans he'.out;cases e1;exact hbf'.out
    exact hno.out j g (by omega) hg
   case measure=>simp[intOf];omega
 obtain rfl:k=fs.length:=by omega
 have hall:fs.any bigF=false:=by rw[List.any_eq_false];intro f hf;obtain⟨j,hj⟩:=List.mem_iff_getElem?.1 hf;rw[hno.out j f (gF.1 hj).1 hj];simp
 have hall':=Lh hall;clear hb hall hno;go_wp2_with fail;go_ret;exact⟨⟨_,rfl,by rw[hall'.out];rfl⟩,hb'.out⟩
theorem contains_any' {w:World} {nv fv:Value} {ns:List TN} {fs:List TF} {vs:List Value} (h:TreeAt w nv fv ns fs vs) (hf:fs.length≤300) (hs:∀f∈fs,f.size≤1048576):
  Calls Tryz.prog 72 #[fv,.func (.func 73) #[] #[]] w fun e w'=>e= .returned (.bool (fs.any bigF))∧Below w.heap.size w w':=by
 have hi:=Lh (fileidx_any h hf hs);obtain⟨A,c,rfl,_⟩:=h.files.shape;go_enter Tryz.func72,Tryz.ntmps72;go_wp2_with(go_at_call 101;refine hi.out.mono ?_;rintro e w' ⟨⟨r,rfl,hr⟩,hb⟩);go_ret;refine⟨?_,hb⟩;rw[←hr];rfl
set_option maxRecDepth 100000 in
theorem bound_any {w:World} {nv fv:Value} {ns:List TN} {fs:List TF} {vs:List Value} (h:TreeAt w nv fv ns fs vs) (hm:TreeSm ns fs):
  Calls Tryz.prog 37 #[.agg #[nv,fv]] w fun e w'=>e= .returned (.bool (boundP ns fs))∧Below w.heap.size w w':=by
 have hb0:=Below.new w (.cells #[nv,fv] 25);have hi:=Lh (contains_any' (h.below hb0) hm.few2 hm.size);have hb0':=Lh hb0;obtain⟨A,c,rfl,_⟩:=h.files.shape;obtain⟨A2,c2,rfl,_⟩:=h.nodes.shape;have hf:=hm.few;have hf2:=hm.few2;clear h hm hb0;unfold boundP;by_cases g1:256<ns.length
 ·(have b1:(256:Int)<(ns.length:Int):=by omega);rw[decide_eq_true g1,Bool.true_or,Bool.true_or];go_enter Tryz.func37,Tryz.ntmps37;go_wp2_with fail;go_ret;exact⟨rfl,hb0'.out⟩
 have b1:¬(256:Int)<(ns.length:Int):=by omega
 by_cases g2:256<fs.length
 ·(have b2:(256:Int)<(fs.length:Int):=by omega);rw[decide_eq_true g2,Bool.or_true,Bool.true_or];go_enter Tryz.func37,Tryz.ntmps37;go_wp2_with fail;go_ret;exact⟨rfl,hb0'.out⟩
 have b2:¬(256:Int)<(fs.length:Int):=by omega
 rw[decide_eq_false g1,decide_eq_false g2,Bool.false_or,Bool.false_or];go_enter Tryz.func37,Tryz.ntmps37;go_wp2_with(first |(go_at_call 72;refine hi.out.mono ?_;rintro e w' ⟨rfl,hb⟩)|fail);go_ret;exact⟨rfl,hb0'.out.trans (hb.mono hb0'.out.size)⟩
end Go.Proofs.YtimkjnbihlgbiaaGreat
namespace Go.Proofs.YtimkjnbihlgbiaaGreat
open Go.RowKit
set_option linter.unusedVariables false
theorem keyed_str :Maps.Keyed Tryz.prog 9:=Maps.string_keyed Tryz.underlying9
theorem keyOf_strV (p:List UInt8) (h:p.length≤maxLen):keyOf Tryz.prog 9 (strV p)=some (.string p):=by rw[keyOf_string Tryz.underlying9];simp[mapKey,Tryz.underlying9,strV,ByteArray.size,h]
theorem zero_int' (w:World):(zeroValue 3).run Tryz.prog w= .ok (.int .i64 0) w:=by kernel_rfl
theorem bl_irrefl (p:List UInt8):Op.bytesLess p p=false:=by
 induction p with
 |nil=>rfl
 |cons a p ih=>simp[Op.bytesLess,ih]
theorem bl_asymm :∀ {p q:List UInt8},Op.bytesLess p q=true→Op.bytesLess q p=false
 |[],[],h=>by simp[Op.bytesLess]at h
 |[],_::_,_=>rfl
 |_::_,[],h=>by simp[Op.bytesLess]at h
 |a::p,b::q,h=>by
  unfold Op.bytesLess at h ⊢;rw[Bool.or_eq_true,Bool.and_eq_true,beq_iff_eq,decide_eq_true_eq]at h;rcases h with h|⟨rfl,h⟩
  ·(have h1:¬b<a:=fun h2=>by have:=UInt8.lt_iff_toNat_lt.1 h;have:=UInt8.lt_iff_toNat_lt.1 h2;omega);(have h2:b≠a:=fun e=>by subst e;exact absurd h (by simp));simp[h1,h2]
  simp[bl_asymm h]
def modeOk (m:Int):Bool:=decide (0≤m)&&decide (m≤511)
def kindP (pre:List TN) (p:List UInt8):Int:=pre.foldl (fun k m=>if m.path=p then(if m.file= -1 then 1 else 2)else k) (if p=[]then 1 else 0)
theorem kindP_snoc (pre:List TN) (n:TN) (p:List UInt8):kindP (pre++[n]) p=if n.path=p then(if n.file= -1 then 1 else 2)else kindP pre p:=by unfold kindP;rw[List.foldl_append];rfl
def lastQ (ns:List TN):Nat→List UInt8
 |0=>[]
 |i+1=>((ns[i]?).map (·.path)).getD []
def leB (p q:List UInt8):Bool:=Op.bytesLess p q||p==q
def nodeOk (pre:List TN) (last:List UInt8) (k:Nat) (n:TN):Bool:=
 ((((validL n.path&& !leB n.path last)&&decide (kindP pre (parentL n.path)=1))&&decide (-1≤n.file))&&decide (n.file≤(k:Int)))&&(if n.file= -1 then modeOk n.mode else decide (n.mode=0))
def nextK (k:Nat) (n:TN):Nat:=if n.file=(k:Int)then k+1 else k
def runK (ns:List TN):Nat→Option Nat
 |0=>some 0
 |i+1=>match runK ns i with
  |none=>none
  |some k=>match ns[i]? with
   |none=>some k
   |some n=>if nodeOk (ns.take i) (lastQ ns i) k n=true then some (nextK k n)else none
def looseP (ns:List TN) (fs:List TF):Int:=if boundP ns fs=true then 31 else if runK ns ns.length=some fs.length∧fs.all (fun f=>modeOk f.mode)=true then 0 else 30
theorem runK_succ {ns:List TN} {i k:Nat} {n:TN} (h:runK ns i=some k) (hn:ns[i]? =some n):runK ns (i+1)=if nodeOk (ns.take i) (lastQ ns i) k n=true then some (nextK k n)else none:=by
 show(match runK ns i with
  |none=>none
  |some k=>match ns[i]? with
   |none=>some k
   |some n=>if nodeOk (ns.take i) (lastQ ns i) k n=true then some (nextK k n)else none)=_
 rw[h];simp only;rw[hn]
theorem runK_none {ns:List TN} {i:Nat} (h:runK ns i=none):∀j,runK ns (i+j)=none:=by
 intro j
 induction j with
 |zero=>exact h
 |succ j ih=>
  show(match runK ns (i+j)with
   |none=>none
   |some k=>match ns[i+j]? with
    |none=>some k
    |some n=>if nodeOk (ns.take (i+j)) (lastQ ns (i+j)) k n=true then some (nextK k n)else none)=none
  rw[ih]
theorem loose_30 {ns:List TN} {fs:List TF} (hb:boundP ns fs=false) {i k:Nat} {n:TN} (h:runK ns i=some k) (hn:ns[i]? =some n) (ho:nodeOk (ns.take i) (lastQ ns i) k n=false):looseP ns fs=30:=by have h1:=runK_succ h hn;rw[ho,if_neg (by decide)]at h1;have hi:=(gF.1 hn).1;have h2:=runK_none h1 (ns.length-(i+1));rw[show i+1+(ns.length-(i+1))=ns.length by omega]at h2;unfold looseP;rw[hb,if_neg (by decide),if_neg (by rw[h2];rintro⟨h,_⟩;cases h)]
theorem loose_30' {ns:List TN} {fs:List TF} (hb:boundP ns fs=false) (h:¬(runK ns ns.length=some fs.length∧fs.all (fun f=>modeOk f.mode)=true)):looseP ns fs=30:=by unfold looseP;rw[hb,if_neg (by decide),if_neg h]
theorem loose_0 {ns:List TN} {fs:List TF} (hb:boundP ns fs=false) (h:runK ns ns.length=some fs.length) (h2:fs.all (fun f=>modeOk f.mode)=true):looseP ns fs=0:=by unfold looseP;rw[hb,if_neg (by decide),if_pos ⟨h,h2⟩]
theorem runK_le {ns:List TN}:∀i k,runK ns i=some k→k≤i:=by
 intro i
 induction i with
 |zero=>intro k h;cases h;exact Nat.le_refl _
 |succ i ih=>
  intro k h;change (match runK ns i with
   |none=>none
   |some k=>match ns[i]? with
    |none=>some k
    |some n=>if nodeOk (ns.take i) (lastQ ns i) k n=true then some (nextK k n)else none)=some k at h
  cases hr:runK ns i with
  |none=>rw[hr]at h;cases h
  |some k0=>
   have:=ih k0 hr;rw[hr]at h;simp only at h;cases hn:ns[i]? with
   |none=>rw[hn]at h;cases h;omega
   |some n=>
    rw[hn]at h;simp only at h;split at h
    ·cases h;unfold nextK;split<;>omega
    cases h
def KindsOk (L:List (Lit×Value)) (pre:List TN):Prop:=∀p:List UInt8,(getM L (.string p)).getD (.int .i64 0)= .int .i64 (kindP pre p)
theorem kinds_file {L:List (Lit×Value)} {pre:List TN} (h:KindsOk L pre) {n:TN} (hn:n.file≠ -1):KindsOk (putM L (.string n.path) (.int .i64 2)) (pre++[n]):=by
 intro p;rw[getM_put (by simp[WideAt.IsKeyLit]) _ _ (by simp[WideAt.IsKeyLit]),kindP_snoc];by_cases e:n.path=p
 ·subst e;rw[if_pos (by simp[Lit.sameKey]),if_pos rfl,if_neg hn];rfl
 rw[if_neg (by simp[Lit.sameKey];exact fun h=>e h.symm),if_neg e];exact h p
theorem kinds_dir {L:List (Lit×Value)} {pre:List TN} (h:KindsOk L pre) {n:TN} (hn:n.file= -1):KindsOk (putM (putM L (.string n.path) (.int .i64 2)) (.string n.path) (.int .i64 1)) (pre++[n]):=by
 intro p;rw[getM_put (by simp[WideAt.IsKeyLit]) _ _ (by simp[WideAt.IsKeyLit]),kindP_snoc];by_cases e:n.path=p
 ·subst e;rw[if_pos (by simp[Lit.sameKey]),if_pos rfl,if_pos hn];rfl
 rw[if_neg (by simp[Lit.sameKey];exact fun h=>e h.symm),if_neg e,getM_put (by simp[WideAt.IsKeyLit]) _ _ (by simp[WideAt.IsKeyLit]),if_neg (by simp[Lit.sameKey];exact fun h=>e h.symm)];exact h p
theorem kinds_start :KindsOk [(.string [],.int .i64 1)] []:=by
 intro p;unfold kindP;by_cases e:p=[]
 ·subst e;rfl
 have:getM [(Lit.string [],Value.int .i64 1)] (.string p)=none:=by simp[getM,Lit.sameKey];first |exact fun h=>e h.symm|exact fun h=>e h|exact e
 rw[this,if_neg e];rfl
theorem bl_tri :∀ {p q:List UInt8},Op.bytesLess p q=false→p≠q→Op.bytesLess q p=true
 |[],[],_,h=>absurd rfl h
 |[],_::_,h,_=>by simp[Op.bytesLess]at h
 |_::_,[],_,_=>by simp[Op.bytesLess]
 |a::p,b::q,h,hne=>by
  unfold Op.bytesLess at h ⊢;rw[Bool.or_eq_false_iff,Bool.and_eq_false_iff,decide_eq_false_iff_not]at h;obtain⟨h1,h2⟩:=h;by_cases e:a=b
  ·subst e;have h3:Op.bytesLess p q=false:=by
    rcases h2 with h2|h2
    ·simp at h2
    exact h2
   have:=bl_tri h3 (fun e=>hne (by rw[e]));simp[this]
  (have h4:b<a:=by rw[UInt8.lt_iff_toNat_lt]at h1 ⊢;(have:a.toNat≠b.toNat:=fun h=>e (UInt8.toNat_inj.1 h));omega);simp[h4]
theorem leB_false {p q:List UInt8} (h:leB p q=false):Op.bytesLess q p=true:=by unfold leB at h;rw[Bool.or_eq_false_iff]at h;exact bl_tri h.1 (by simpa using h.2)
theorem bl_trans :∀ {p q r:List UInt8},Op.bytesLess p q=true→Op.bytesLess q r=true→Op.bytesLess p r=true
 |_,_,[],_,h=>by cases ‹List UInt8› <;>simp[Op.bytesLess]at h
 |[],_,_::_,_,_=>by simp[Op.bytesLess]
 |_::_,[],_::_,h,_=>by simp[Op.bytesLess]at h
 |a::p,b::q,c::r,h1,h2=>by
  unfold Op.bytesLess at h1 h2 ⊢;rw[Bool.or_eq_true,Bool.and_eq_true,beq_iff_eq,decide_eq_true_eq]at h1 h2 ⊢;rcases h1 with h1|⟨rfl,h1⟩
  ·rcases h2 with h2|⟨rfl,h2⟩
   ·exact Or.inl (by rw[UInt8.lt_iff_toNat_lt]at*;omega)
   exact Or.inl h1
  rcases h2 with h2|⟨rfl,h2⟩
  ·exact Or.inl h2
  exact Or.inr ⟨rfl,bl_trans h1 h2⟩
structure LooseOk (ns:List TN) (fs:List TF):Prop where
 few:ns.length≤256
 few2:fs.length≤256
 size:∀f∈fs,f.size≤8192
 fmode:∀f∈fs,modeOk f.mode=true
 run:runK ns ns.length=some fs.length
theorem loose_ok {ns:List TN} {fs:List TF} (h:looseP ns fs=0):LooseOk ns fs:=by
 unfold looseP at h;cases hb:boundP ns fs with
 |true=>rw[hb,if_pos rfl]at h;cases h
 |false=>
  rw[hb,if_neg (by decide)]at h;split at h
  ·rename_i h2;unfold boundP at hb;rw[Bool.or_eq_false_iff,Bool.or_eq_false_iff,decide_eq_false_iff_not,decide_eq_false_iff_not,List.any_eq_false]at hb;refine⟨by omega,by omega,fun f hf=>?_,fun f hf=>List.all_eq_true.1 h2.2 f hf,h2.1⟩;have:=hb.2 f hf;unfold bigF at this;rw[decide_eq_true_eq]at this;omega
  cases h
theorem ok_loose {ns:List TN} {fs:List TF} (h:LooseOk ns fs):looseP ns fs=0:=by refine loose_0 ?_ h.run (List.all_eq_true.2 h.fmode);unfold boundP;rw[Bool.or_eq_false_iff,Bool.or_eq_false_iff,decide_eq_false_iff_not,decide_eq_false_iff_not,List.any_eq_false];refine⟨⟨by have:=h.few;omega,by have:=h.few2;omega⟩,fun f hf=>?_⟩;have:=h.size f hf;unfold bigF;rw[decide_eq_true_eq];omega
theorem nextK_le (k:Nat) (n:TN):k≤nextK k n:=by unfold nextK;split<;>omega
theorem run_at {ns:List TN}:∀ {j m:Nat},runK ns j=some m→∀i,i<j→∀n,ns[i]? =some n→∃k,runK ns i=some k∧nodeOk (ns.take i) (lastQ ns i) k n=true∧nextK k n≤m:=by
 intro j
 induction j with
 |zero=>intro m _ i hi;omega
 |succ j ih=>
  intro m h i hi n hn;cases hr:runK ns j with
  |none=>rw[runK_none hr 1]at h;cases h
  |some k=>
   cases hj:ns[j]? with
   |none=>
    have hlt:=(gF.1 hn).1;have:ns.length≤j:=List.getElem?_eq_none_iff.1 hj;have h2:runK ns (j+1)=some k:=by
     show(match runK ns j with
      |none=>none
      |some k=>match ns[j]? with
       |none=>some k
       |some n=>if nodeOk (ns.take j) (lastQ ns j) k n=true then some (nextK k n)else none)=_
     rw[hr,hj]
    rw[h2]at h;cases h;exact ih hr i (by omega) n hn
   |some nj=>
    rw[runK_succ hr hj]at h;split at h
    ·rename_i ho;cases h;by_cases hij:i=j
     ·subst hij;rw[hj]at hn;cases hn;exact⟨k,hr,ho,Nat.le_refl _⟩
     obtain⟨k2,h1,h2,h3⟩:=ih hr i (by omega) n hn;exact⟨k2,h1,h2,by have:=nextK_le k nj;omega⟩
    cases h
theorem nodeOk_parts {pre:List TN} {last:List UInt8} {k:Nat} {n:TN} (h:nodeOk pre last k n=true):
  validL n.path=true∧Op.bytesLess last n.path=true∧kindP pre (parentL n.path)=1∧ -1≤n.file∧n.file≤(k:Int)∧(n.file= -1→modeOk n.mode=true)∧(n.file≠ -1→n.mode=0):=by
 unfold nodeOk at h;simp only[Bool.and_eq_true,decide_eq_true_eq,Bool.not_eq_true']at h;obtain⟨⟨⟨⟨⟨h1,h2⟩,h3⟩,h4⟩,h5⟩,h6⟩:=h;refine⟨h1,leB_false h2,h3,h4,h5,fun e=>?_,fun e=>?_⟩
 ·rw[if_pos e]at h6;exact h6
 rw[if_neg e]at h6;simpa using h6
theorem LooseOk.at_ {ns:List TN} {fs:List TF} (h:LooseOk ns fs) {i:Nat} {n:TN} (hn:ns[i]? =some n):
  validL n.path=true∧Op.bytesLess (lastQ ns i) n.path=true∧kindP (ns.take i) (parentL n.path)=1∧ -1≤n.file∧n.file<(fs.length:Int)∧(n.file= -1→modeOk n.mode=true)∧(n.file≠ -1→n.mode=0):=by
 obtain⟨k,h1,h2,h3⟩:=run_at h.run i (gF.1 hn).1 n hn;obtain⟨a,b,c,d,e,f,g⟩:=nodeOk_parts h2;refine⟨a,b,c,d,?_,f,g⟩;unfold nextK at h3;split at h3<;>omega
theorem LooseOk.mem {ns:List TN} {fs:List TF} (h:LooseOk ns fs) {n:TN} (hn:n∈ns):
  validL n.path=true∧ -1≤n.file∧n.file<(fs.length:Int)∧(n.file= -1→modeOk n.mode=true)∧(n.file≠ -1→n.mode=0):=by
 obtain⟨i,hi⟩:=List.mem_iff_getElem?.1 hn;obtain⟨a,b,c,d,e,f,g⟩:=h.at_ hi;exact⟨a,d,e,f,g⟩
theorem LooseOk.up {ns:List TN} {fs:List TF} (h:LooseOk ns fs):ns.Pairwise fun a b=>Op.bytesLess a.path b.path=true:=by
 rw[List.pairwise_iff_getElem];intro i j hi hj hij;obtain⟨d,rfl⟩:∃d,j=i+1+d:=⟨j-i-1,by omega⟩;clear hij
 induction d with
 |zero=>have:=(h.at_ (gE hj)).2.1;(have e:lastQ ns (i+1)=ns[i].path:=by(show((ns[i]?).map (·.path)).getD []=_);rw[gE hi];rfl);change Op.bytesLess (lastQ ns (i+1)) _=true at this;rw[e]at this;exact this
 |succ d ih=>have h1:=ih (by omega);have h2:=(h.at_ (gE hj)).2.1;(have e:lastQ ns (i+1+(d+1))=(ns[i+1+d]'(by omega)).path:=by(show((ns[i+1+d]?).map (·.path)).getD []=_);rw[gE (by omega)];rfl);rw[e]at h2;exact bl_trans h1 h2
theorem LooseOk.ne {ns:List TN} {fs:List TF} (h:LooseOk ns fs):ns.Pairwise fun a b=>a.path≠b.path:=
 h.up.imp fun {a b} hl e=>by rw[e,bl_irrefl]at hl;cases hl
def cntF (ns:List TN) (k:Nat):Nat:=ns.countP fun n=>decide (n.file=(k:Int))
def cntK (ns:List TN) (p:List UInt8):Nat:=ns.countP fun n=>decide (parentL n.path=p)
def KidsOk (L:List (Lit×Value)) (ns:List TN):Prop:=∀p:List UInt8,(getM L (.string p)).getD (.int .i64 0)= .int .i64 (cntK ns p:Nat)
theorem cntK_snoc (ns:List TN) (n:TN) (p:List UInt8):cntK (ns++[n]) p=if parentL n.path=p then cntK ns p+1 else cntK ns p:=by unfold cntK;rw[List.countP_append,List.countP_singleton];by_cases h:parentL n.path=p<;>simp[h]
theorem cntF_snoc (ns:List TN) (n:TN) (k:Nat):cntF (ns++[n]) k=if n.file=(k:Int)then cntF ns k+1 else cntF ns k:=by unfold cntF;rw[List.countP_append,List.countP_singleton];by_cases h:n.file=(k:Int)<;>simp[h]
theorem kids_snoc {L:List (Lit×Value)} {ns:List TN} (h:KidsOk L ns) (n:TN):KidsOk (putM L (.string (parentL n.path)) (.int .i64 ((cntK ns (parentL n.path):Nat)+1:Int))) (ns++[n]):=by
 intro p;rw[getM_put (by simp[WideAt.IsKeyLit]) _ _ (by simp[WideAt.IsKeyLit]),cntK_snoc];by_cases e:parentL n.path=p
 ·subst e;rw[if_pos (by simp[Lit.sameKey]),if_pos rfl];simp
 rw[if_neg (by simp[Lit.sameKey];exact fun h=>e h.symm),if_neg e];exact h p
end Go.Proofs.YtimkjnbihlgbiaaGreat
namespace Go.Proofs.YtimkjnbihlgbiaaGreat
open Go.RowKit Go.Shelf
set_option linter.unusedVariables false
attribute [local go_sem] Oper.semAt_some
def CellsLow (n₀:Nat) (W:World) (A:Option Addr) (xs:List Int):Prop:=∀k (hk:k<xs.length),∃ad,A=some ad∧ad.block<n₀∧W.cell? (ad.add k)=some (.int .i64 xs[k])
theorem CellsLow.below {n₀:Nat} {W W':World} {A:Option Addr} {xs:List Int} (h:CellsLow n₀ W A xs) (hb:Below n₀ W W'):CellsLow n₀ W' A xs:=fun k hk=>by obtain⟨ad,e,hl,hc⟩:=h k hk;refine⟨ad,e,hl,(hb.cell (p:=ad.add k) ?_).trans hc⟩;rw[block_of_add];exact hl
set_option maxRecDepth 100000 in
set_option maxHeartbeats 2000000 in
theorem vals1_in (F:Fence) (n:Nat) (h7:F.fn 47) (hro:F.round=none) (hn:1≤n) (l Bs n₀ cap:Nat) (A:Option Addr) (xs:List Int) (hreach:xs.length≤maxLen) (J Jx:List Int→World→Prop)
  (hY:∀pre x W,J pre W→pre.length<xs.length→YieldAt F (n-1) Tryz.prog l #[.int .i64 x] W fun e W'=>
   (e= .returned (.bool true)∧J (pre++[x]) W'∧Below n₀ W W')∨(e= .returned (.bool false)∧Jx (pre++[x]) W'))
  (W:World) (hBs:W.cell? ⟨Bs,0,none⟩=some (.slice A xs.length cap)) (hc:CellsLow n₀ W A xs) (h0:J [] W):
  CallsIn F n Tryz.prog 47 #[.func (.yield l) #[] #[],.pointer (some ⟨Bs,0,none⟩)] W fun e W'=>(∃v,e= .returned v)∧
   ((∃ys,ys=xs∧J ys W')∨(∃pre,pre<+:xs∧Jx pre W')):=by
 unfold maxLen at hreach
 refine callsIn_of_wp Tryz.func47 rfl h7 ?_ hro
 simp only[Tryz.ntmps47,List.size_toArray,List.length_cons,List.length_nil,Nat.reduceAdd,Nat.reduceSub,Array.replicate_succ,Array.replicate_zero,List.push_toArray,List.append_toArray,List.nil_append,List.cons_append]
 have hm:(xs.length:Int)≤9223372036854775807:=by omega
 gi_wp2
 gi_loopw [7] (fun i wr=>∃k:Nat,k≤xs.length∧i= .int .i64 k∧J (xs.take k) wr∧Below n₀ W wr)
  (fun i _=>xs.length-(intOf i).toNat)
 case atStart=>exact⟨0,Nat.zero_le _,rfl,by simpa using h0,Below.refl _ _⟩
 case round=>
  obtain⟨k,hk,rfl,hJs,hnx⟩:=hrel;by_cases hlt:k<xs.length
  ·obtain⟨ad,rfl,hl,hcx⟩:=(hc.below hnx) k hlt;obtain⟨fn,tmps,assign,body,hy,hR⟩:=hY _ xs[k] wr hJs (by rw[List.length_take];omega);(have hb1:(0:Int)≤(k:Int):=by omega);have hb2:(k:Int)<(xs.length:Int):=by omega
   gi_wp2
   refine hR.mono ?_;rintro e W3 (⟨rfl,hJ3,hk3⟩|⟨rfl,hJx3⟩)
   ·gi_wp2
    go_roundw
    case rel=>exact⟨k+1,by omega,by simp,by rw[List.take_add_one,gE hlt];exact hJ3,hnx.trans hk3⟩
    case measure=>simp[intOf];omega
   gi_wp2
   refine bodyPost_ret (results_none rfl _ _ _) rfl ?_;exact⟨⟨_,rfl⟩,.inr ⟨_,by(have e:xs.take k++[xs[k]]=xs.take (k+1):=by rw[List.take_add_one,gE hlt];rfl);rw[e];exact List.take_prefix _ _,hJx3⟩⟩
  obtain rfl:k=xs.length:=by omega
  gi_wp2
  go_end0
  exact⟨⟨_,rfl⟩,.inl ⟨_,rfl,by rw[List.take_length]at hJs;exact hJs⟩⟩
theorem vals_stops (F:Fence) (n:Nat) (h7:F.fn 47) (hro:F.round=none) (hn:1≤n) (Bs n₀ cap:Nat) (A:Option Addr) (xs:List Int) (hreach:xs.length≤maxLen) (w:World) (hBs:Bs<w.heap.size) (hn₀:n₀≤w.heap.size)
  (hc:w.cell? ⟨Bs,0,none⟩=some (.slice A xs.length cap)) (hI:CellsLow n₀ w A xs):
  SeqStopsK F n Tryz.prog 47 #[.pointer (some ⟨Bs,0,none⟩)] (fun x:Int=>#[Value.int .i64 x]) (Below n₀) (fun ys=>ys=xs) (fun pre=>pre<+:xs) xs.length w:=fun l J Jx W hW _ _ hY h0=>by
 have hc':=(hW.cell (p:=⟨Bs,0,none⟩) hBs).trans hc;exact vals1_in F n h7 hro hn l Bs n₀ cap A xs hreach J Jx hY W hc' (hI.below (hW.mono hn₀)) h0
theorem values_any (A:Option Addr) (n c:Nat) (w:World):
  Calls Tryz.prog 23 #[.slice A n c] w fun e w'=>e= .returned (.func (.func 47) #[] #[.pointer (some ⟨w.heap.size,0,none⟩)])∧w'=w.alloc (.cells #[.slice A n c] 36):=by
 go_enter Tryz.func23,Tryz.ntmps23;go_wp2;go_ret;exact⟨rfl,rfl⟩
set_option maxRecDepth 100000 in
set_option maxHeartbeats 2000000 in
theorem appendSeq_in (F:Fence) (n:Nat) (h3:F.fn 80) (h5:F.fn 47) (hro:F.round=none) (hn:3≤n) (Bs cap:Nat) (A:Option Addr) (xs:List Int) (hlen:xs.length≤maxLen) (hbytes:xs.length*8≤140737488355328) (w:World)
  (hBs:Bs<w.heap.size) (hc:w.cell? ⟨Bs,0,none⟩=some (.slice A xs.length cap)) (hI:CellsLow w.heap.size w A xs):
  CallsIn F n Tryz.prog 80 #[.slice none 0 0,.func (.func 47) #[] #[.pointer (some ⟨Bs,0,none⟩)]] w fun e W'=>∃v,e= .returned v∧W'.ownsRow w.heap.size 3 1 v xs.length (xs.map (Value.int .i64))∧Below w.heap.size w W':=by
 have h1:1≤n:=by omega
 obtain⟨i0,hi,hz0,hz1,hz2⟩:=info_parts info_int;refine callsIn_of_wp_marks Tryz.func80 rfl h3 ?_ hro;simp only[Tryz.ntmps80,List.size_toArray,List.length_cons,List.length_nil,Nat.reduceAdd,Nat.reduceSub,Array.replicate_succ,Array.replicate_zero,List.push_toArray,List.append_toArray,List.nil_append,List.cons_append]
 gi_wp2
 have bO:=Boxed.new w 36 (.slice none 0 0);have hB0:Below w.heap.size w (w.alloc (.cells #[.slice none 0 0] 36)):=(Below.refl _ w).alloc (Nat.le_refl _) _;refine wpIn_rangeFunc_ownG hro h1 (gf:=47) (lb:=#[.pointer (some ⟨Bs,0,none⟩)]) rfl h5 (enters_of Tryz.func47 (by kernel_rfl) rfl)
  (vals_stops F (n-1) h5 hro (by omega) Bs w.heap.size cap A xs hlen _ (by simp;omega) (by simp) ((hB0.cell (p:=⟨Bs,0,none⟩) hBs).trans hc) (hI.below hB0)) belowK_t (belowK_b (by simp)) (Below.refl _ _) (fun _=>rfl)
  (fun pre W=>(∃v,Boxed W w.heap.size 36 v∧W.ownsRow w.heap.size 3 1 v pre.length (pre.map (Value.int .i64))∧True)∧Below w.heap.size w W)
  (fun _ _ _=>False)
  (OwnFrom.and (Own.from (holdsRow_own w.heap.size w.heap.size 36 3 1 (fun pre:List Int=>pre.length) (fun pre=>pre.map (Value.int .i64)) (fun _ _=>True)) _) (ownFrom_below (Nat.le_refl _) (by simp)))
  (fun _ _ _ _ _ hs _ _=>hs)
  ⟨⟨_,bO,World.ownsRow_nil _ _ _ _,trivial⟩,hB0⟩
  (fun x=> {tmps:=#[.slice none 0 0,.func (.func 47) #[] #[.pointer (some ⟨Bs,0,none⟩)],.pointer (some ⟨w.heap.size,0,none⟩),undef,.slice none 0 0,.int .i64 x,.func (.func 47) #[] #[.pointer (some ⟨Bs,0,none⟩)],.int .i64 x,undef,undef,undef,undef,undef],defers:=[]}) ?assign ?body ?done ?stop
 case assign=>
  intro l x W K hK
  gi_wp2
  exact hK
 case body=>
  rintro l pre x W ⟨⟨v,hv,hrow,_⟩,hB⟩ hlt;have hcv:=hv.cell
  gi_wp2_with (gi_at_builtin;refine wpListIn_append_own _ rfl _ _ 36 rfl w.heap.size 3 i0 (.int .i64 0) 1 8 Tryz.underlying36 hi hz0 hz1 hz2 rfl (by decide) _ _ _ rfl (hrow.alloc _) ⟨W.heap.size,0,none⟩ 1 1 [.int .i64 x] rfl rfl (cell_one_new _ _ _) (by simp[Value.oneCell']) (by omega) (by omega) (by have:=hB.size;simp;omega) ?_;intro v' w1 hown' hgrow _;obtain⟨g',cap',rfl⟩:=ownsRow_succ hown';obtain⟨hv1,hv2,hr2,hk2,hb2⟩:=hv.appended (by decide) hrow hB.size (Nat.le_refl _) hown' hgrow;have hc1:=hv1.cell;have hf1:=hv1.frozen)
  exact⟨hk2.from _,hb2,⟨_,hv2,by simpa using hr2,trivial⟩,hB.trans hb2⟩
 case done=>
  rintro D ys W hD rfl ⟨⟨v,hv,hrow,_⟩,hB⟩ hK;have hcv:=hv.cell
  gi_wp2
  refine⟨by simp,.inl ⟨_,_,rfl,run_takeDeferred hK,?_⟩⟩;exact⟨_,results_tmp rfl _ _ _,v,rfl,ownsRow_putObj hrow _ hK rfl,hB.trans (belowK_b (w:=w) (Nat.le_refl _) W D _ _ (by simp at hD;omega) hK rfl rfl)⟩
 rintro D c pre W _ _ h _;exact h.elim
end Go.Proofs.YtimkjnbihlgbiaaGreat
namespace Go.Proofs.YtimkjnbihlgbiaaGreat
set_option linter.unusedVariables false
def splitB :List UInt8→List (List UInt8)
 |[]=>[[]]
 |c::l=>if c=47 then []::splitB l else match splitB l with
  |[]=>[[c]]
  |h::t=>(c::h)::t
theorem splitB_cons (c:UInt8) (l:List UInt8):splitB (c::l)=if c=47 then []::splitB l else match splitB l with
 |[]=>[[c]]
 |h::t=>(c::h)::t:=rfl
theorem splitB_ne (l:List UInt8):splitB l≠[]:=by
 cases l with
 |nil=>simp[splitB]
 |cons c l=>
  unfold splitB;split
  ·simp
  split<;>simp
theorem splitB_none {l:List UInt8} (h:(47:UInt8)∉l):splitB l=[l]:=by
 induction l with
 |nil=>rfl
 |cons c l ih=>(have h1:c≠47:=fun e=>h (by simp[e]));(have h2:(47:UInt8)∉l:=fun e=>h (List.mem_cons_of_mem _ e));unfold splitB;rw[if_neg h1,ih h2]
theorem splitB_some {a b:List UInt8} (h:(47:UInt8)∉a):splitB (a++47::b)=a::splitB b:=by
 induction a with
 |nil=>rfl
 |cons c a ih=>(have h1:c≠47:=fun e=>h (by simp[e]));(have h2:(47:UInt8)∉a:=fun e=>h (List.mem_cons_of_mem _ e));rw[List.cons_append,splitB_cons,if_neg h1,ih h2]
end Go.Proofs.YtimkjnbihlgbiaaGreat
