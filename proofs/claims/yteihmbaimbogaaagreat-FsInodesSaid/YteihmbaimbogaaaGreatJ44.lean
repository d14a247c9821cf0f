/- Parts. -/
import Derived.Test.YteihmbaimbogaaaGreatJ43
import Derived.Lib.SlBytesConst
set_option linter.unusedVariables false
set_option linter.unusedSimpArgs false
set_option maxRecDepth 100000
set_option maxHeartbeats 20000000
namespace Go.Proofs.YteihmbaimbogaaaGreat
open Go.ChangeShapes Go.WideShapes Go.ChangeAt Go.RowKit Go.Deep
theorem V6 :Tryz.prog.cellsOf 63=9:=by kernel_rfl
theorem aaU :Tryz.prog.cellsOf 38=5:=by kernel_rfl
theorem aaV :Tryz.prog.cellsOf 9=1:=by kernel_rfl
theorem wG :Tryz.prog.cellsOf 3=1:=by kernel_rfl
theorem alJ :Tryz.prog.cellsOf 61=1:=by kernel_rfl
theorem alK :Tryz.prog.cellsOf 5=1:=by kernel_rfl
theorem PI :Tryz.prog.cellsOf 35=1:=by kernel_rfl
theorem V7 {α:Type} (f:α->List Value) (m:Nat) (hf:∀x,(f x).length=m) (xs:List α):(xs.flatMap f).length=xs.length*m:=by exact Z46
theorem aaW {α:Type} (f:α->List Value) (m:Nat) (hf:∀x,(f x).length=m) {xs:List α} {i:Nat} {x:α} (h:xs[i]? =some x) (j:Nat) (hj:j<m):(xs.flatMap f)[i*m+j]? =(f x)[j]? :=by exact Z22
theorem alL {w:World} {ad:Addr} {u:Value} (h:w.cell? ad=some u):ad.spot=none:=by exact Z39
theorem Rd.adD {w:World} {sz n:Nat} {v:Value} {cs:List Value} (h:Rd w sz v n cs) (h0:0<n) (hsz:0<sz):
  ∃g o c,v= .slice (some ⟨g,o,none⟩) n c/\n<=c/\c<=maxLen/\g<w.heap.size/\∀w',Below w.heap.size w w'->∀j,j<n*sz->w'.cell? ⟨g,o+j,none⟩=cs[j]? :=by
 obtain⟨hl,A,c,rfl,h1,h2,h3⟩:=h;obtain⟨ad,rfl,hb,hc⟩:=h3 h0;have hpos:0<cs.length:=by rw[hl];exact Q6 h0 hsz
 have hsp:ad.spot=none:=by have h4:=hc 0 _ (gE hpos);rw[show ad.add 0=ad by simp[Addr.add]]at h4;exact alL h4
 exact Z26
def az7 (b:UInt8):List Value:=[mR b]
theorem awN (bs:List UInt8):bs.flatMap az7=bs.map mR:=by
 induction bs with
 |nil=>rfl
 |cons x xs ih=>rw[zF,ih];rfl
theorem awO (xs:List Int):xs.flatMap (fun x=>[Value.int .i64 x])=xs.map (Value.int .i64):=by
 induction xs with
 |nil=>rfl
 |cons x xs ih=>rw[zF,ih];rfl
def I64 (n:Int):Prop:= -9223372036854775808<=n/\n<=9223372036854775807
structure Stp where
 kind:Int
 num:Int
 op:Int
 path:List UInt8
 tz:List UInt8
 mode:Int
 ref:Int
 dv:Value
 kv:Value
 data:List UInt8
 keep:List Int
def aKT (op:Int) (path tz:List UInt8) (mode ref:Int):List Value:=[.int .i64 op,aC path,aC tz,.int .i64 mode,.int .i64 ref]
def Stp.cells (x:Stp):List Value:=[.int .i64 x.kind,.int .i64 x.num,.int .i64 x.op,aC x.path,aC x.tz,.int .i64 x.mode,.int .i64 x.ref,x.dv,x.kv]
structure PK (W:World) (x:Stp):Prop where
 kind:I64 x.kind
 num:I64 x.num
 op:I64 x.op
 mode:I64 x.mode
 ref:I64 x.ref
 path:x.path.length<=9223372036854775807
 tz:x.tz.length<=9223372036854775807
 data:BytesAt W x.dv x.data
 keep:Rd W 1 x.kv x.keep.length (x.keep.map (Value.int .i64))
 ints:∀k∈x.keep,I64 k
theorem awP (x:ByteArray):Value.string x=aC x.data.toList:=by unfold aC;congr 1
theorem aFD {n:Int} (hw:(Lit.wf (.int .i64 n))=true):I64 n:=by
 unfold Lit.wf at hw;rw[tJ,decide_eq_true_iff,decide_eq_true_iff]at hw;have e1:IntKind.i64.min= -9223372036854775808:=by decide
 have e2:IntKind.i64.max=9223372036854775807:=by decide
 unfold I64;omega
theorem G5 (n:Int):I64 (RowKit.wrap64 n):=by unfold I64 RowKit.wrap64;omega
section
variable {H:Type} {enc:TypeId×Value->H} {W:World} {sp:Nat->Bool} {held:Bool}
theorem CV {t e:TypeId} {sz:Nat} (ht:Tryz.prog.underlying t=some (.slice e)) (hsz:Tryz.prog.cellsOf e=sz) (h0:0<sz) {α:Type} (z:α) (One:α->List Value) (hO:∀x,(One x).length=sz) (Q:α->Prop)
  (one:∀(n:Nat) (cs:List Value) (y:DataW H×List MemPlace),DataW.trod enc Tryz.prog W 0 sp held n e cs=some y->∃x,cs=One x/\Q x)
  {fuel:Nat} {cs0:List Value} {x0:DataW H×List MemPlace} (hf:DataW.trod enc Tryz.prog W 0 sp held fuel t cs0=some x0):
  ∃(A:Option Addr) (cap:Nat) (xs:List α),cs0=[.slice A xs.length cap]/\Rd W sz (.slice A xs.length cap) xs.length (xs.flatMap One)/\∀a∈xs,Q a:=by
 rcases DataW.trod_slice ht hf with⟨rfl,_⟩|⟨a,len,cap,elems,rest,n,_,rfl,hd,hb,hl,hm,hlen,hel,_,_⟩
 ·exact⟨none,0,[],rfl,⟨by simp,none,0,rfl,jL _,iF _,fun h=>absurd h (YL _)⟩,by simp⟩
 have key:∀i,∃x:α,i<len->(∀f,f<sz->W.cell? (a.add (i*sz+f))=(One x)[f]?)/\Q x:=by
  intro i;by_cases hi:i<len
  ·have h1:=hel i hi;obtain⟨y,hy⟩:∃y,elems[i]? =some y:=⟨_,gE aD⟩;rw[hy,Option.bind_eq_some_iff,hsz]at h1;obtain⟨cs,hc,ht⟩:=h1;obtain⟨x,rfl,hq⟩:=one _ _ _ ht;obtain⟨_,_,hcell⟩:=World.cells?_some hc;refine⟨x,fun _=>⟨fun f hf=>?_,hq⟩⟩;rw[<-hcell f hf,ai5]
  exact⟨z,fun h=>absurd h hi⟩
 obtain⟨X,hX⟩:=Classical.axiomOfChoice key;have anL:((List.range len).map X).length=len:=by simp
 have hat:∀i,i<len->((List.range len).map X)[i]? =some (X i):=by intro i hi;rw[lQ,adX hi];rfl
 refine⟨some a,cap,(List.range len).map X,by rw[anL],?_,fun x hx=>?_⟩
 ·rw[anL];refine⟨by rw[V7 One sz hO,anL],some a,cap,rfl,hl,hm,fun hpos=>⟨a,rfl,?_,fun j u hu=>?_⟩⟩
  ·have h1:=((hX 0) hpos).1 0 h0;obtain⟨z9,hz⟩:∃z9,(One (X 0))[0]? =some z9:=⟨_,gE (by rw[hO];exact h0)⟩;rw[hz]at h1;have:=World.block_lt_of_cell? W _ h1
   rwa [BG]at this
  have hj:j<len*sz:=by
   have:=(gF.1 hu).1
   rwa [V7 One sz hO,anL]at this
  have hi:j/sz<len:=Nat.div_lt_of_lt_mul (by rw[Nat.mul_comm];exact hj);have hr:j%sz<sz:=Q7 _ h0;(have e:j=j/sz*sz+j%sz:=by rw[Nat.mul_comm];exact(Nat.div_add_mod j sz).symm);rw[e]at hu ⊢;rw[aaW One sz hO (hat _ hi) _ hr]at hu;rw[((hX _) hi).1 _ hr,hu]
 obtain⟨i,hi,rfl⟩:=List.mem_map.1 hx;exact((hX i) (List.mem_range.1 hi)).2
theorem aqX (n:Nat) (cs:List Value) (y:DataW H×List MemPlace) (h:DataW.trod enc Tryz.prog W 0 sp held n 5 cs=some y):∃b:UInt8,cs=az7 b/\True:=by
 obtain⟨n,rfl,_,hw⟩:=DataW.trod_int Tryz.underlying5 h;have hr:0<=n/\n<=255:=by unfold Lit.wf at hw;rw[tJ,decide_eq_true_iff,decide_eq_true_iff]at hw;(have e1:IntKind.u8.min=0:=by decide);(have e2:IntKind.u8.max=255:=by decide);omega
 refine⟨UInt8.ofNat n.toNat,?_,trivial⟩;unfold az7 mR;have:(UInt8.ofNat n.toNat).toNat=n.toNat:=by rw[UInt8.toNat_ofNat'];omega
 rw[this,Int.toNat_of_nonneg hr.1]
theorem V8 (n:Nat) (cs:List Value) (y:DataW H×List MemPlace) (h:DataW.trod enc Tryz.prog W 0 sp held n 35 cs=some y):∃x:Value×List UInt8,cs=[x.1]/\BytesAt W x.1 x.2:=by obtain⟨A,cap,xs,e,hr,_⟩:=CV Tryz.underlying35 alK aQ (0:UInt8) az7 (fun _=>rfl) (fun _=>True) aqX h;rw[awN]at hr;exact⟨(_,xs),e,hr⟩
theorem AV (n:Nat) (cs:List Value) (y:DataW H×List MemPlace) (h:DataW.trod enc Tryz.prog W 0 sp held n 3 cs=some y):∃b:Int,cs=[.int .i64 b]/\I64 b:=by obtain⟨n,rfl,_,hw⟩:=DataW.trod_int Tryz.underlying3 h;exact⟨n,rfl,aFD hw⟩
theorem aqY (n:Nat) (cs:List Value) (y:DataW H×List MemPlace) (h:DataW.trod enc Tryz.prog W 0 sp held n 61 cs=some y):∃(u:Value) (xs:List Int),cs=[u]/\Rd W 1 u xs.length (xs.map (Value.int .i64))/\∀k∈xs,I64 k:=by obtain⟨A,cap,xs,e,hr,hq⟩:=CV Tryz.underlying61 wG aQ (0:Int) (fun x=>[Value.int .i64 x]) (fun _=>rfl) I64 AV h;rw[awO]at hr;exact⟨_,xs,e,hr,hq⟩
theorem ah5 (n:Nat) (cs:List Value) (y:DataW H×List MemPlace) (h:DataW.trod enc Tryz.prog W 0 sp held n 9 cs=some y):∃s:List UInt8,cs=[aC s]/\s.length<=9223372036854775807:=by obtain⟨s,rfl,_,hl⟩:=DataW.trod_string Tryz.underlying9 h;refine⟨s.data.toList,by rw[awP],?_⟩;have:s.data.toList.length=s.size:=Array.length_toList;rw[this];exact hl
theorem awQ (n:Nat) (cs:List Value) (y:DataW H×List MemPlace) (h:DataW.trod enc Tryz.prog W 0 sp held n 38 cs=some y):
  ∃op path tz mode ref,cs=aKT op path tz mode ref/\I64 op/\path.length<=9223372036854775807/\tz.length<=9223372036854775807/\I64 mode/\I64 ref:=by
 obtain⟨xs,n,rfl,rfl,hl,hxl,hx⟩:=DataW.trod_struct Tryz.underlying38 h;rw[aaU]at hl;obtain⟨c0,c1,c2,c3,c4,rfl⟩:∃c0 c1 c2 c3 c4,cs=[c0,c1,c2,c3,c4]:=by
  match cs,hl with
  |[c0,c1,c2,c3,c4],_=>exact⟨c0,c1,c2,c3,c4,rfl⟩
 obtain⟨x0,x1,x2,x3,x4,rfl⟩:∃x0 x1 x2 x3 x4,xs=[x0,x1,x2,x3,x4]:=by
  match xs,hxl with
  |[x0,x1,x2,x3,x4],_=>exact⟨x0,x1,x2,x3,x4,rfl⟩
 have h0:DataW.trod enc Tryz.prog W 0 sp held n 3 (([c0,c1,c2,c3,c4].drop 0).take (Tryz.prog.cellsOf 3))=some x0:=hx 0 _ rfl;rw[wG]at h0;have h1:DataW.trod enc Tryz.prog W 0 sp held n 9 (([c0,c1,c2,c3,c4].drop 1).take (Tryz.prog.cellsOf 9))=some x1:=hx 1 _ rfl;rw[aaV]at h1;have h2:DataW.trod enc Tryz.prog W 0 sp held n 9 (([c0,c1,c2,c3,c4].drop 2).take (Tryz.prog.cellsOf 9))=some x2:=hx 2 _ rfl;rw[aaV]at h2;have h3:DataW.trod enc Tryz.prog W 0 sp held n 3 (([c0,c1,c2,c3,c4].drop 3).take (Tryz.prog.cellsOf 3))=some x3:=hx 3 _ rfl;rw[wG]at h3;have h4:DataW.trod enc Tryz.prog W 0 sp held n 3 (([c0,c1,c2,c3,c4].drop 4).take (Tryz.prog.cellsOf 3))=some x4:=hx 4 _ rfl;rw[wG]at h4;simp only[YJ,al6,ad7,OB]at h0 h1 h2 h3 h4;obtain⟨n0,e0,k0⟩:=AV _ _ _ h0;obtain⟨n1,e1,k1⟩:=ah5 _ _ _ h1;obtain⟨n2,e2,k2⟩:=ah5 _ _ _ h2;obtain⟨n3,e3,k3⟩:=AV _ _ _ h3;obtain⟨n4,e4,k4⟩:=AV _ _ _ h4;simp only[List.cons.injEq,and_true]at e0 e1 e2 e3 e4;subst e0 e1 e2 e3 e4;exact⟨n0,n1,n2,n3,n4,rfl,k0,k1,k2,k3,k4⟩
theorem aqZ (n:Nat) (cs:List Value) (y:DataW H×List MemPlace) (h:DataW.trod enc Tryz.prog W 0 sp held n 63 cs=some y):∃x:Stp,cs=x.cells/\PK W x:=by
 obtain⟨xs,n,rfl,rfl,hl,hxl,hx⟩:=DataW.trod_struct Tryz.underlying63 h;rw[V6]at hl;obtain⟨c0,c1,c2,c3,c4,c5,c6,c7,c8,rfl⟩:∃c0 c1 c2 c3 c4 c5 c6 c7 c8,cs=[c0,c1,c2,c3,c4,c5,c6,c7,c8]:=by
  match cs,hl with
  |[c0,c1,c2,c3,c4,c5,c6,c7,c8],_=>exact⟨c0,c1,c2,c3,c4,c5,c6,c7,c8,rfl⟩
 obtain⟨x0,x1,x2,x3,x4,rfl⟩:∃x0 x1 x2 x3 x4,xs=[x0,x1,x2,x3,x4]:=by
  match xs,hxl with
  |[x0,x1,x2,x3,x4],_=>exact⟨x0,x1,x2,x3,x4,rfl⟩
 have h0:DataW.trod enc Tryz.prog W 0 sp held n 3 (([c0,c1,c2,c3,c4,c5,c6,c7,c8].drop 0).take (Tryz.prog.cellsOf 3))=some x0:=hx 0 _ rfl;rw[wG]at h0;have h1:DataW.trod enc Tryz.prog W 0 sp held n 3 (([c0,c1,c2,c3,c4,c5,c6,c7,c8].drop 1).take (Tryz.prog.cellsOf 3))=some x1:=hx 1 _ rfl;rw[wG]at h1;have h2:DataW.trod enc Tryz.prog W 0 sp held n 38 (([c0,c1,c2,c3,c4,c5,c6,c7,c8].drop 2).take (Tryz.prog.cellsOf 38))=some x2:=hx 2 _ rfl;rw[aaU]at h2;have h3:DataW.trod enc Tryz.prog W 0 sp held n 35 (([c0,c1,c2,c3,c4,c5,c6,c7,c8].drop 7).take (Tryz.prog.cellsOf 35))=some x3:=hx 3 _ rfl;rw[PI]at h3;have h4:DataW.trod enc Tryz.prog W 0 sp held n 61 (([c0,c1,c2,c3,c4,c5,c6,c7,c8].drop 8).take (Tryz.prog.cellsOf 61))=some x4:=hx 4 _ rfl;rw[alJ]at h4;simp only[YJ,al6,ad7,OB]at h0 h1 h2 h3 h4;obtain⟨n0,e0,k0⟩:=AV _ _ _ h0;obtain⟨n1,e1,k1⟩:=AV _ _ _ h1;obtain⟨op,path,tz,mode,ref,e2,k2,k3,k4,k5,k6⟩:=awQ _ _ _ h2;obtain⟨⟨dv,bs⟩,e3,k7⟩:=V8 _ _ _ h3;obtain⟨kv,ks,e4,k8,k9⟩:=aqY _ _ _ h4;unfold aKT at e2;simp only[List.cons.injEq,and_true]at e0 e1 e2 e3 e4;obtain⟨e20,e21,e22,e23,e24⟩:=e2;subst e0 e1 e20 e21 e22 e23 e24 e3 e4;exact⟨⟨n0,n1,op,path,tz,mode,ref,c7,c8,bs,ks⟩,rfl,⟨k0,k1,k2,k5,k6,k3,k4,k7,k8,k9⟩⟩
end
def G6 (w:World) (v:Value) (xs:List Stp):Prop:=Rd w 9 v xs.length (xs.flatMap Stp.cells)
structure y9 (w:World) (sv:Value) (cs:List Value) (bss:List (List UInt8)):Prop where
 rd:Rd w 1 sv cs.length cs
 len:bss.length=cs.length
 bytes:∀(k:Nat) u b,cs[k]? =some u->bss[k]? =some b->BytesAt w u b
theorem G6.below {w w':World} {v:Value} {xs:List Stp} (h:G6 w v xs) (hb:Below w.heap.size w w'):G6 w' v xs:=Rd.below h hb
theorem PK.below {w w':World} {x:Stp} (h:PK w x) (hb:Below w.heap.size w w'):PK w' x:=⟨h.kind,h.num,h.op,h.mode,h.ref,h.path,h.tz,h.data.below hb,h.keep.below hb,h.ints⟩
theorem y9.below {w w':World} {sv:Value} {cs:List Value} {bss:List (List UInt8)} (h:y9 w sv cs bss) (hb:Below w.heap.size w w'):y9 w' sv cs bss:=
 ⟨h.rd.below hb,h.len,fun k u b hu hx=>(h.bytes k u b hu hx).below hb⟩
section
variable {H:Type} {enc:TypeId×Value->H} {W:World}
theorem aq0 (xs:List (Value×List UInt8)):xs.flatMap (fun x=>[x.1])=xs.map (·.1):=by
 induction xs with
 |nil=>rfl
 |cons x xs ih=>rw[zF,ih];rfl
theorem arg_steps {v:Value} {d:DataW H} {p:List MemPlace} {base:Nat} (hok:Value.okWide Tryz.prog W .any base 57 v) (h0:DataW.Trod enc Tryz.prog W 0 (fun _=>true) true 57 v d p):
  ∃xs:List Stp,G6 W v xs/\∀x∈xs,PK W x:=by
 obtain⟨a0,len,cap,rfl⟩:=okWide_slice Tryz.underlying57 hok;obtain⟨fuel,hf⟩:=h0;obtain⟨A,c,xs,e,hr,hq⟩:=CV Tryz.underlying57 V6 aQ (⟨0,0,0,[],[],0,0,.nilFunc,.nilFunc,[],[]⟩:Stp) Stp.cells (fun _=>rfl) (PK W) aqZ hf;simp[Value.cells]at e;obtain⟨rfl,rfl,rfl⟩:=e;exact⟨xs,hr,hq⟩
theorem arg_stockF {v:Value} {d:DataW H} {p:List MemPlace} {base:Nat} (hok:Value.okWide Tryz.prog W .any base 36 v) (h0:DataW.Trod enc Tryz.prog W 0 (fun _=>true) true 36 v d p):
  ∃(cs:List Value) (bss:List (List UInt8)),y9 W v cs bss:=by
 obtain⟨a0,len,cap,rfl⟩:=okWide_slice Tryz.underlying36 hok;obtain⟨fuel,hf⟩:=h0;obtain⟨A,c,xs,e,hr,hq⟩:=CV Tryz.underlying36 PI aQ ((.nilFunc,[]):Value×List UInt8) (fun x=>[x.1]) (fun _=>rfl) (fun x=>BytesAt W x.1 x.2) V8 hf;simp[Value.cells]at e;obtain⟨rfl,rfl,rfl⟩:=e;refine⟨xs.map (·.1),xs.map (·.2),⟨?_,by simp,fun k u b hu hb=>?_⟩⟩
 ·rw[kV];rw[aq0]at hr;exact hr
 rw[lQ,QW]at hu hb;obtain⟨x,hx,rfl⟩:=hu;obtain⟨x',hx',rfl⟩:=hb;obtain rfl:x=x':=Option.some.inj (hx.symm.trans hx');exact hq x (gG hx)
end
end Go.Proofs.YteihmbaimbogaaaGreat
namespace Go.Proofs.YteihmbaimbogaaaGreat
open Go.RowKit
theorem anM {xs:List Stp} {i:Nat} {x:Stp} (h:xs[i]? =some x) (j:Nat) (hj:j<9):(xs.flatMap Stp.cells)[i*9+j]? =x.cells[j]? :=
 aaW Stp.cells 9 (fun _=>rfl) h j hj
theorem Z7 {P:Prop} (h:P:=by
 clear hx' hok';go_wp2;go_loopw[5,7] (fun nv iv wr2=>∃(m:Int) (i:Nat),nv=iV m/\I64 m/\iv=iV i/\i<=cs.length/\Below w.heap.size w wr2) (fun _ iv _=>cs.length-(intOf iv).toNat)
 case atStart=>exact⟨m,0,rfl,hm,rfl,iF _,hb⟩
 clear hm hi hb q1;obtain⟨m,i,rfl,hm,rfl,hi,hb⟩:=hrel;by_cases hlt2:i<cs.length
 case neg=>
  (have q1:¬(i:Int)<(cs.length:Int):=by omega);clear hs';by_cases r1:100000<m
  ·go_wp2;go_ret;exact .inr ⟨rfl,hb⟩
  by_cases r2:80<(xs.length:Int)
  ·go_wp2;go_ret;exact .inr ⟨rfl,hb⟩
  go_wp2;go_ret;exact .inl ⟨rfl,by omega,hb⟩
 have q1:(i:Int)<(cs.length:Int):=by omega
 by_cases h2:m<=100000
 case neg=>(have r1:100000<m:=by omega);clear hs';go_wp2;go_ret;exact .inr ⟨rfl,hb⟩
 obtain⟨u,hu⟩:∃u,cs[i]? =some u:=⟨_,gE hlt2⟩;obtain⟨b9,J7⟩:∃b,bss[i]? =some b:=⟨_,gE (by rw[hs'.out.len];exact hlt2)⟩;obtain⟨Au,cu,rfl,hul⟩:=Rd.shape (hs'.out.bytes i u b9 hu J7);obtain⟨g,o,ca,e,_,_,hgl,hcell⟩:=Rd.adD (Rd.below hs'.out.rd hb) aD aQ;simp only[Value.slice.injEq]at e;obtain⟨rfl,_,rfl⟩:=e;have hc1:wr.cell? ⟨g,o+i,none⟩=some (.slice Au b9.length cu):=(hcell _ (Below.refl _ _) i aD).trans hu;have p1:(0:Int)<=(i:Int):=by omega
 clear hs' hcell hul hu J7;go_wp2;refine⟨⟨_,i+1,rfl,?_,by go_num,by omega,hb⟩,?_⟩
 ·first |exact G5 _|(simp only[IntWalk.i64_left];exact G5 _)
 show cs.length-((i:Int)+1).toNat<cs.length-((i:Int)).toNat
 omega):P:=h
theorem awR {w:World} {v sv:Value} {xs:List Stp} {cs:List Value} {bss:List (List UInt8)} (hx:G6 w v xs) (hok:∀x∈xs,PK w x) (hs:y9 w sv cs bss):
  Calls Tryz.prog 24 #[v,sv] w fun e w'=>∃b,e= .returned (.bool b)/\(b=false->xs.length<=80)/\Below w.heap.size w w':=by
 obtain⟨Ax,cx,rfl,hxl⟩:=Rd.shape hx;obtain⟨As,c9,rfl,hsl⟩:=Rd.shape hs.rd;have b1:(xs.length:Int)<=9223372036854775807:=by unfold maxLen at hxl;omega
 have b2:(cs.length:Int)<=9223372036854775807:=by unfold maxLen at hsl;omega
 have hx':=Lh hx;have hok':=Lh hok;have hs':=Lh hs;clear hx hok hs hxl hsl;go_enter Tryz.func24,Tryz.ntmps24;go_wp2;go_loopw[5,6] (fun nv iv wr=>∃(m:Int) (i:Nat),nv=iV m/\I64 m/\iv=iV i/\i<=xs.length/\Below w.heap.size w wr) (fun _ iv _=>xs.length-(intOf iv).toNat)
 case atStart=>exact⟨0,0,rfl,by unfold I64;omega,rfl,iF _,Below.refl _ _⟩
 obtain⟨m,i,rfl,hm,rfl,hi,hb⟩:=hrel;by_cases hlt:i<xs.length
 case neg=>(have q1:¬(i:Int)<(xs.length:Int):=by omega);exact Z7
 by_cases h1:m<=100000
 case neg=>(have q1:(i:Int)<(xs.length:Int):=by omega);exact Z7
 obtain⟨x,hxi⟩:∃x,xs[i]? =some x:=⟨_,gE hlt⟩;have hXo:=hok'.out x (gG hxi);obtain⟨g,o,ca,e,_,_,hgl,hcell⟩:=Rd.adD (Rd.below hx'.out hb) aD aQ;simp only[Value.slice.injEq]at e;obtain⟨rfl,_,rfl⟩:=e;obtain⟨Ad,cd,hdv,hdl⟩:=Rd.shape hXo.data;obtain⟨Ak,ck,hkv,hkl⟩:=Rd.shape hXo.keep;have m1:∀W:World,Below wr.heap.size wr W->W.cell? ⟨g,o+i*9+7,none⟩=some (.slice Ad x.data.length cd)/\W.cell? ⟨g,o+i*9+8,none⟩=some (.slice Ak x.keep.length ck)/\W.cell? ⟨g,o+i*9+3,none⟩=some (.string ⟨x.path.toArray⟩)/\W.cell? ⟨g,o+i*9+4,none⟩=some (.string ⟨x.tz.toArray⟩):=fun W hW=>by(have hic:=fun(j:Nat) (hj:j<9)=>(hcell W hW (i*9+j) aD).trans (anM hxi j hj));have e3:=hic 3 aD;have e4:=hic 4 aD;have e7:=hic 7 aD;have e8:=hic 8 aD;simp only[Stp.cells,hdv,hkv,aC,sM,<-uS,gB,gC]at e3 e4 e7 e8;exact⟨e7,e8,e3,e4⟩
 have hE0:=m1 _ (Below.refl _ _).drew;have p1:(0:Int)<=(i:Int):=by omega
 have p2:(i:Int)<(xs.length:Int):=by omega
 have s3:(⟨x.path.toArray⟩:ByteArray).size=x.path.length:=rfl;have s4:(⟨x.tz.toArray⟩:ByteArray).size=x.tz.length:=rfl;clear hx' hs' hok' hcell hXo hdv hkv m1 hdl hkl;go_wp2_with fail;refine aJ (S:=fun W=>W.cell? ⟨g,o+i*9+7,none⟩=some (.slice Ad x.data.length cd)/\W.cell? ⟨g,o+i*9+8,none⟩=some (.slice Ak x.keep.length ck)/\W.cell? ⟨g,o+i*9+3,none⟩=some (.string ⟨x.path.toArray⟩)/\W.cell? ⟨g,o+i*9+4,none⟩=some (.string ⟨x.tz.toArray⟩)) 32 ?_;refine aA 0 hE0 ?_;refine aA 1 hE0 ?_;refine aA 2 hE0 ?_;refine aA 3 hE0 ?_;refine aA 4 hE0 ?_;refine aA 5 hE0 ?_;refine aA 6 hE0 ?_;refine aA 7 hE0 ?_;refine aA 8 hE0 ?_;refine aA 9 hE0 ?_;refine aA 10 hE0 ?_;refine aA 11 hE0 ?_;refine aA 12 hE0 ?_;refine aA 13 hE0 ?_;refine aA 14 hE0 ?_;refine aA 15 hE0 ?_;refine aA 16 hE0 ?_;refine aA 17 hE0 ?_;refine aA 18 hE0 ?_;refine aA 19 hE0 ?_;refine aA 20 hE0 ?_;refine aA 21 hE0 ?_;refine aA 22 hE0 ?_;refine aA 23 hE0 ?_;refine aA 24 hE0 ?_;refine aA 25 hE0 ?_;refine aA 26 hE0 ?_;refine aA 27 hE0 ?_;refine aA 28 hE0 ?_;refine aA 29 hE0 ?_;refine aA 30 hE0 ?_;refine aA 31 hE0 ?_;refine aW 32 (fun h=>absurd rfl h) ?_;refine aR fZ ?_ _;go_wp2;refine⟨⟨_,i+1,rfl,?_,by go_num,by omega,hb.drew⟩,?_⟩
 ·first |exact G5 _|(simp only[IntWalk.i64_left];exact G5 _)
 show xs.length-((i:Int)+1).toNat<xs.length-((i:Int)).toNat
 omega
end Go.Proofs.YteihmbaimbogaaaGreat
namespace Go.Proofs.YteihmbaimbogaaaGreat
def alM :List UInt8:=[111,116,104,101,114]
open Go.RowKit
section
variable {w0 w:World} {R:List bK} {f q p:Nat} {S:VS} {ns:List TN} {fs:List FT} {nb names:Nat}
theorem Sep.az8 (h:Sep w0 w R) (o:Obj):Sep w0 (w.alloc o) (.obj w.heap.size o::R):=
 h.new (F:=[w.heap.size]) ((Below.refl _ _).alloc (jL _) _) ⟨heap_alloc_new w o,rfl⟩ bM
theorem ah6 {b:Nat} {bs:List UInt8} {fr:Nat×Nat} (hl:bs.length<=maxLen):jB w0 (.obj b (.cells (bs.map mR).toArray 5 fr)::R) (sV b bs.length bs.length) bs:=fun w' X hS=>by have h1:=hS.aBY X.length (by rw[D6 (jL _),oO];rfl);refine⟨by simp,_,_,rfl,jL _,hl,fun _=>⟨_,rfl,lt_of_heap h1,fun j u hu=>?_⟩⟩;have:=cell_of_row w' b j _ _ _ h1;rw[Addr.add_lit,BF,this];simpa using hu
theorem awS {As:Option Addr} {c9:Nat} {cs:List Value} {bss:List (List UInt8)} (hs:y9 w0 (.slice As cs.length c9) cs bss) (kk:Int):GG w0 R As cs.length kk (bss.getD kk.toNat []):=by
 intro k hk hkn;subst hk;obtain⟨u,hu⟩:∃u,cs[k]? =some u:=⟨_,gE hkn⟩;obtain⟨b,hb⟩:∃b,bss[k]? =some b:=⟨_,gE (by rw[hs.len];exact hkn)⟩;have e:bss.getD (k:Int).toNat []=b:=by rw[nA,gH,hb];rfl
 rw[e];have hby:=hs.bytes k u b hu hb;obtain⟨B,cc,rfl,_⟩:=Rd.shape hby;obtain⟨g,o,ca,e2,_,_,_,hcell⟩:=Rd.adD hs.rd aD aQ;simp only[Value.slice.injEq]at e2;obtain⟨rfl,_,rfl⟩:=e2;refine⟨_,B,cc,rfl,fun W Y hW=>?_,jB.arg (w:=w0) hby⟩;rw[Addr.add_lit];exact(hcell W hW.below k aD).trans hu
theorem aq1 {As:Option Addr} {c9:Nat} {cs:List Value} {bss:List (List UInt8)} (hs:y9 w0 (.slice As cs.length c9) cs bss) (k:Nat):(bss.getD k []).length<=9223372036854775807:=by
 rw[gH];cases hb:bss[k]? with
 |none=>exact iF _
 |some b=>have hk:=(gF.1 hb).1;obtain⟨u,hu⟩:∃u,cs[k]? =some u:=⟨_,gE (by rw[<-hs.len];exact hk)⟩;have:=JI (As:=[]) (w0:=w0) (hs.bytes k u b hu hb);unfold maxLen at this;exact this
end
section
variable {w0 w:World} {R:List bK}
theorem V9 {T:TR} {ns:List TN} {fs:List FT} {nv fv sv:Value} {cs:List Value} {nb names:Nat} {op:Int} {p tz:List UInt8} {mode ref:Int} {bs:List UInt8} (hS:yP T ns fs) (hlen:op=6->0<=ref->ref<cs.length->IX (cs.getD ref.toNat (.slice none 0 0))=bs.length)
  (hact:1<=op/\op<=8->aU p=true->(op=3\/op=4\/op=7->aU tz=true)->(op=1\/op=6\/op=7\/op=8->0<=mode/\mode<=511)->(op=6->bs.length<=8192/\IX (cs.getD ref.toNat (.slice none 0 0))=bs.length)->jW (y7 op p tz T.1) (NZ op p tz mode T) (VY op p tz mode bs T) (H9 ns fs op p tz mode.toNat bs))
  (hrd:∀vs,bY w nv fv T.1 T.2 vs->∀W,Below w.heap.size w W->awM nv fv sv T op p tz mode ref cs bs W) (h:Sep w0 w (rE nv fv T::R)):
  Calls Tryz.prog 15 #[.agg #[nv,fv,iV (sZ nb names:Nat),iV (names:Nat)],.agg #[iV op,aC p,aC tz,iV mode,iV ref],sv] w fun e w'=>
   ∃E9 fv' T',e= .returned (.tuple #[.agg #[E9,fv'],iV (IA nb names ns fs op p tz mode ref cs.length bs).e])/\yP T' (IA nb names ns fs op p tz mode ref cs.length bs).ns (IA nb names ns fs op p tz mode ref cs.length bs).fs/\Sep w0 w' (rE E9 fv' T'::R):=by
 obtain⟨h1,h2⟩:=X9 hS nb names (op:=op) (p:=p) (q:=tz) (mode:=mode) (ref:=ref) (cs:=cs) (bs:=bs) hlen hact
 obtain⟨vs,hT⟩:=Sep.kept (P:=fun W=>∃vs,bY W nv fv T.1 T.2 vs) 0 h rfl
 refine(alI (B:=(sZ nb names:Nat)) (I:=(names:Nat)) hT hS.loose (hrd vs hT)).mono ?_
 rintro e w' (⟨E9,fv',rfl,h9,h0,hs⟩|⟨rfl,hno,hb2⟩)
 ·refine⟨E9,fv',y8 op p tz mode bs T,by rw[<-h1,h0],?_,?_⟩
  ·unfold worldT at h2;rw[if_pos ⟨h9,h0⟩]at h2;exact h2
  have:=(h.join hs).perm (List.Perm.swap _ _ _);exact this.drop 1
 ·refine⟨nv,fv,T,by rw[h1],?_,h.pure hb2⟩;unfold worldT at h2;rw[if_neg hno]at h2;exact h2
theorem ah7 {T:TR} {ns:List TN} {fs:List FT} {nv fv sv:Value} {cs:List Value} {nb names:Nat} {op:Int} {p tz:List UInt8} {mode ref:Int} {bs:List UInt8} (hS:yP T ns fs) (VK:p.length<=9223372036854775807) (VL:tz.length<=9223372036854775807) (hsv:kU w sv cs)
  (hb:op=6->0<=ref->ref<(cs.length:Int)->qM w (cs.getD ref.toNat (.slice none 0 0)) bs.length bs/\bs.length<=9223372036854775807) (h:Sep w0 w (rE nv fv T::R)):
  Calls Tryz.prog 15 #[.agg #[nv,fv,iV (sZ nb names:Nat),iV (names:Nat)],.agg #[iV op,aC p,aC tz,iV mode,iV ref],sv] w fun e w'=>
   ∃E9 fv' T',e= .returned (.tuple #[.agg #[E9,fv'],iV (IA nb names ns fs op p tz mode ref cs.length bs).e])/\yP T' (IA nb names ns fs op p tz mode ref cs.length bs).ns (IA nb names ns fs op p tz mode ref cs.length bs).fs/\Sep w0 w' (rE E9 fv' T'::R):=by
 exact V9 hS (fun a1 a2 a3=>by obtain⟨A,c,e,_⟩:=(hb a1 a2 a3).1.shape;rw[e];rfl) (fun h18 hv GN hm hb=>awC hS h18 hv GN hm hb)
  (fun vs hT W hW=>aqV (hT.below hW) hS.loose op VK VL mode ref (hsv.below hW) (fun a1 a2 a3=>⟨(hb a1 a2 a3).1.below hW,(hb a1 a2 a3).2⟩)) h
theorem anN (w:World) (sz:Nat):Rd w sz (.slice none 0 0) 0 []:=⟨by simp,none,0,rfl,jL _,iF _,fun h=>absurd h aQ⟩
theorem awT :yP ([],[]) [] []:=⟨⟨⟨List.Pairwise.nil,fun n hn=>(by cases hn),fun n hn=>(by cases hn),fun n hn=>(by cases hn)⟩,by decide,fun n hn=>(by cases hn)⟩,rfl⟩
theorem awU (h:Sep w0 w R):Sep w0 w (rE (.slice none 0 0) (.slice none 0 0) ([],[])::R):=
 Sep.keep (X:=[]) (Y:=R) h fun _ W _=>⟨[],rfl,anN _ 3,anN _ 2,fun k u f hu _=>absurd hu bM⟩
end
structure kI (S:VS) (ns:List TN) (fs:List FT) (nb names:Nat) (φ:Int->Nat):Prop where
 live:kH S ns fs nb names
 vt:∃g dn,Vt S.base ns fs g dn φ
 on:OnD S names
theorem aq2 {n names:Nat} (h0:98+(names+7)/8<n) (h1:n<=4096) (h2:2<=names) (h3:names<=1024):kI (VS.new n names) [] [] n names (fun _=>0):=
 ⟨agK h0 h1 h2 h3,⟨_,_,auG h0 h1 h2 h3⟩,aD2 h0 h1 h2 h3⟩
theorem kI.base {S:VS} {ns:List TN} {fs:List FT} {nb names:Nat} {φ:Int->Nat} (h:kI S ns fs nb names φ):kI S.base ns fs nb names φ:=
 ⟨h.live.base,h.vt,⟨h.on.sync,h.on.head,h.on.mark,h.on.size⟩⟩
section
variable {w0 w:World} {R:List bK} {f q p:Nat} {S:VS} {ns:List TN} {fs:List FT} {nb names:Nat} {φ:Int->Nat}
theorem ah8 (h:Sep w0 w (bI f q p S::R)):0<S.D.now.length:=by have h1:=zS h;have h2:=LV h;rw[h1.now.len];omega
theorem Z50 {P:Prop} (h:P:=by rintro e w' ⟨h1,S',h2,⟨h3,g',ZH,φ',h4,h5⟩,h6⟩;exact⟨h1,S',φ',⟨h2,⟨g',ZH,h4⟩,hL.on.next h3 hln⟩,h5,h6⟩):P:=h
theorem aRG {op mode kk:Int} {path tz bs:List UInt8} {A:Option Addr} {n c:Nat} (hL:kI S ns fs nb names φ) (hp:path.length<=9223372036854775807) (ht:tz.length<=9223372036854775807) (hn:n<=9223372036854775807) (hlen:bs.length<=9223372036854775807)
  (hop: -9223372036854775808<=op/\op<=9223372036854775807) (hst:GG w0 R A n kk bs) (h:Sep w0 w (bI f q p S::R)):
  Calls Tryz.prog 14 #[pV f,.agg #[iV op,aC path,aC tz,iV mode,iV kk],.slice A n c] w fun e w'=>
   e= .returned (.int .i64 (IA nb names ns fs op path tz mode kk n bs).e)/\∃S' φ',kI S' (IA nb names ns fs op path tz mode kk n bs).ns (IA nb names ns fs op path tz mode kk n bs).fs nb names φ'/\Agr fs.length φ φ'/\Sep w0 w' (bI f q p S'::R):=by
 obtain⟨g,dn,hV⟩:=hL.vt
 have hln:=ah8 h
 refine(doI hL.live hV hp ht hn hlen hop hst h).mono ?_
 exact Z50
theorem aKU {path bs:List UInt8} {A:Option Addr} {c:Nat} (hL:kI S ns fs nb names φ) (hp:path.length<=9223372036854775807) (hlen:bs.length<=4611686018427387903) (hst:jB w0 R (.slice A bs.length c) bs) (h:Sep w0 w (bI f q p S::R)):
  Calls Tryz.prog 21 #[pV f,aC path,.slice A bs.length c] w fun e w'=>
   e= .returned (.int .i64 (DY nb names ns fs path bs).e)/\∃S' φ',kI S' (DY nb names ns fs path bs).ns (DY nb names ns fs path bs).fs nb names φ'/\Agr fs.length φ φ'/\Sep w0 w' (bI f q p S'::R):=by
 obtain⟨g,dn,hV⟩:=hL.vt
 have hln:=ah8 h
 refine(aO8 hL.live hV hp hlen hst h).mono ?_
 exact Z50
theorem aq3 {path bs:List UInt8} (hL:kI S ns fs nb names φ) (hp:path.length<=9223372036854775807) (hlen:bs.length<=8192) (h:Sep w0 w (bI f q p S::R)):
  Calls Tryz.prog 21 #[pV f,aC path,sV w.heap.size bs.length bs.length] (w.alloc (.cells (bs.map mR).toArray 5 (bs.length,bs.length+1))) fun e w'=>
   e= .returned (.int .i64 (DY nb names ns fs path bs).e)/\∃S' φ',kI S' (DY nb names ns fs path bs).ns (DY nb names ns fs path bs).fs nb names φ'/\Agr fs.length φ φ'/\Sep w0 w' (bI f q p S'::R):=by
 have aRH:=(h.az8 (.cells (bs.map mR).toArray 5 (bs.length,bs.length+1))).perm (List.Perm.swap _ _ _)
 refine(aKU (path:=path) (bs:=bs) (A:=some ⟨w.heap.size,0,none⟩) (c:=bs.length) hL hp aD (ah6 oH) aRH).mono ?_
 rintro e w' ⟨h1,S',φ',h2,h3,h4⟩
 exact⟨h1,S',φ',h2,h3,(h4.perm (List.Perm.swap _ _ _)).drop 1⟩
theorem aFE {path:List UInt8} (hL:kI S ns fs nb names φ) (hp:path.length<=9223372036854775807) (h:Sep w0 w (bI f q p S::R)):
  Calls Tryz.prog 29 #[pV f,aC path] w fun e w'=>∃k m l s i,e= .returned (.tuple #[OY k m l s i,iV (stE ns path)])/\(∃dn,lK ns fs dn φ path k m l s i)/\kI S.base ns fs nb names φ/\Sep w0 w' (bI f q p S.base::R):=by
 obtain⟨g,dn,hV⟩:=hL.vt;refine(aIX hL.live hV hp h).mono ?_;rintro e w' ⟨k,m,l,s,i,h1,h2,h3⟩;exact⟨k,m,l,s,i,h1,⟨dn,h2⟩,hL.base,h3⟩
theorem aFF (hL:kI S ns fs nb names φ) (h:Sep w0 w (bI f q p S::R)):
  Calls Tryz.prog 30 #[pV f] w fun e w'=>e= .returned (iV 0)/\kI S.base ns fs nb names φ/\Sep w0 w' (bI f q p S.base::R):=by
 refine(ayM hL.live.off h).mono ?_;rintro e w' ⟨h1,h2⟩;exact⟨h1,hL.base,h2⟩
theorem az9 (hL:kI S ns fs nb names φ) (h:Sep w0 w (bI f q p S::R)):
  Calls Tryz.prog 33 #[pV p] w fun e w'=>∃f' q' S',e= .returned (.tuple #[pV f',iV 0])/\kI S' ns fs nb names φ/\Sep w0 w' (bI f' q' p S'::R):=by
 obtain⟨g,dn,hV⟩:=hL.vt;refine(aD3 hL.live hV hL.on h).mono ?_;rintro e w' ⟨f',q',S',h1,h2,h3,h4,h5⟩;exact⟨f',q',S',h1,⟨h2,⟨g,dn,h3⟩,h4⟩,h5⟩
theorem kI.keep {d1 d2:Key->Nat} {S':VS} {φ':Int->Nat} {op mode kk:Int} {p q bs:List UInt8} {n:Nat} (hL:kI S ns fs nb names φ) (he:(IA nb names ns fs op p q mode kk n bs).e=0)
  (hL':kI S' (IA nb names ns fs op p q mode kk n bs).ns (IA nb names ns fs op p q mode kk n bs).fs nb names φ') (hA:Agr fs.length φ φ')
  (avE:op=3\/op=4\/op=8) {k m l s i k' m' l' s' i':Int} (h1:lK ns fs d1 φ p k m l s i) (hk:k=2)
  (h2:lK (IA nb names ns fs op p q mode kk n bs).ns (IA nb names ns fs op p q mode kk n bs).fs d2 φ' (if op=3\/op=4 then q else p) k' m' l' s' i'):i'=i:=by
 obtain⟨g,dn,hV⟩:=hL.vt;obtain⟨g',ZH,hV'⟩:=hL'.vt;exact ak2 hV he hV' hA avE h1 hk h2
theorem kI.aAA {d1 d2:Key->Nat} {φ':Int->Nat} {p bs:List UInt8} {nb2 nm2:Nat} (hL:kI S ns fs nb names φ) (hA:Agr fs.length φ φ') {k m l s i k' m' l' s' i':Int} (h1:lK ns fs d1 φ p k m l s i) (hk:k=2)
  (h2:lK (DY nb2 nm2 ns fs p bs).ns (DY nb2 nm2 ns fs p bs).fs d2 φ' p k' m' l' s' i'):i'=i/\k'=2:=by
 obtain⟨g,dn,hV⟩:=hL.vt;obtain⟨hpl,x,hx,hf,hi,_⟩:=h1.ak1 hk;have hxm:=(fF (jH (S:=S.base) hV.rep (xC hx)).2.1.symm);have hfl:=hV.rep.ZG hxm.1 hf;have e:=aD0 (nb:=nb2) (names:=nm2) (fs:=fs) (bs:=bs) hx;have hx2:kQ (DY nb2 nm2 ns fs p bs).ns (splitB p)= .ok x:=by rw[e];exact hx
 have h3:=(h2.ofFile hpl hx2 hf).1;exact⟨by rw[h3,hi,hA _ aD],(h2.file x hpl hx2 hf).1⟩
theorem lK.same {d1 d2:Key->Nat} {p:List UInt8} {k m l s i k' m' l' s' i':Int} (h1:lK ns fs d1 φ p k m l s i) (hk:k=2) (h2:lK ns fs d2 φ p k' m' l' s' i'):i'=i/\s'=s:=by obtain⟨hpl,x,hx,hf,hi,f,hf1,hf2⟩:=h1.ak1 hk;obtain⟨h3,f',h4,h5⟩:=h2.ofFile hpl hx hf;rw[hf1]at h4;cases h4;exact⟨by rw[h3,hi],by rw[h5,hf2]⟩
theorem awV {w:World} {sv:Value} {cs:List Value} {bss:List (List UInt8)} (hs:y9 w sv cs bss):kU w sv cs:=by refine⟨hs.rd,fun u hu=>?_⟩;obtain⟨k,hk,rfl⟩:=List.mem_iff_getElem.1 hu;obtain⟨b,hb⟩:∃b,bss[k]? =some b:=⟨_,gE (by rw[hs.len];exact hk)⟩;have h1:=hs.bytes k _ b (gE hk) hb;have h2:=JI (As:=[]) (w0:=w) h1;unfold maxLen at h2;exact⟨b.length,b,⟨_,h1,fun y hy=>by obtain⟨x,_,rfl⟩:=List.mem_map.1 hy;rfl,rfl⟩,h2⟩
theorem ah9 {w:World} {sv:Value} {cs:List Value} {bss:List (List UInt8)} (hs:y9 w sv cs bss) {ref:Int} (h0:0<=ref) (h1:ref<(cs.length:Int)):
  qM w (cs.getD ref.toNat (.slice none 0 0)) (bss.getD ref.toNat []).length (bss.getD ref.toNat [])/\(bss.getD ref.toNat []).length<=9223372036854775807:=by
 obtain⟨k,rfl⟩:∃k:Nat,ref=(k:Int):=⟨ref.toNat,by omega⟩;have hk:k<cs.length:=by omega
 obtain⟨b,hb⟩:∃b,bss[k]? =some b:=⟨_,gE (by rw[hs.len];exact hk)⟩;have h3:=hs.bytes k _ b (gE hk) hb;have h2:=JI (As:=[]) (w0:=w) h3;unfold maxLen at h2;rw[nA,gH,gE hk,PO,gH,hb,PO];exact⟨⟨_,h3,fun y hy=>by obtain⟨x,_,rfl⟩:=List.mem_map.1 hy;rfl,rfl⟩,h2⟩
end
def sI (wb:Nat) (nv fv:Value) (b i:Nat):bK:=.box wb 34 #[nv,fv,iV (b:Nat),iV (i:Nat)]
end Go.Proofs.YteihmbaimbogaaaGreat
