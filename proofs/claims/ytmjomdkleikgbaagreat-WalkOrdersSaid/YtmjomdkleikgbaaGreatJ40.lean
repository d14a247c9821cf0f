/- Parts. -/
import Derived.Test.YtmjomdkleikgbaaGreatJ39
set_option linter.unusedVariables false
set_option linter.unusedSimpArgs false
set_option maxRecDepth 100000
set_option maxHeartbeats 20000000
namespace Go.Proofs.YtmjomdkleikgbaaGreat
open Go.RowKit
theorem arD :0<(eB (ES 120 16 [] [] [122] []).ns []).length:=of_decide_eq_true fT
theorem ax8 :(ES 120 16 [] [] [122] []).e=0:=by kernel_rfl
theorem auV :ES 120 16 [] [] [122] []=⟨0,(ES 120 16 [] [] [122] []).ns,(ES 120 16 [] [] [122] []).fs⟩:=by have h:=ax8;revert h;generalize ES 120 16 [] [] [122] []=X;intro h;cases X;simp only at h;subst h;rfl
theorem orders9_any {w:World} {nv fv:Value} {Ns:List TN} {F:List TF} {vs:List Value} (hT:iR w nv fv Ns F vs) (hp:∀n∈Ns,n.path.length<=9223372036854775807) (hs:∀f∈F,f.size<=9223372036854775807):
  Calls Tryz.prog 6 #[.agg #[nv,fv]] w fun e w'=>e= .returned (.bool true)/\Below w.heap.size w w':=by
 have h0:=(Sep.nil w).bN 25 #[nv,fv];have hal:=Lh (agL h0);have hbg:Hid (∀W,Below w.heap.size w W->Calls Tryz.prog 9 #[.agg #[nv,fv]] W fun e w'=>(e= .returned (.bool true)\/(e= .returned (.bool false)/\Ns.length<=300/\F.length<=300))/\Below W.heap.size W w'):=Lh fun W hW=>auQ (hT.below hW)
 have hfr:Hid (∀W Y,Sep w W Y->Calls Tryz.prog 14 #[iV 20,iV 16] W fun e w'=>∃f q p,e= .returned (.tuple #[pV p,pV f,.bool true])/\Sep w w' (bE f q p (VS.new 120 16)::Y)):=Lh fun W Y hW=>QX (b:=20) (i:=16) (n:=120) rfl aR aR aR aR hW
 have hL0:=ab5 (n:=120) (names:=16) aR aR aR aR;obtain⟨S0,hS0⟩:∃S0,S0=VS.new 120 16:=⟨_,rfl⟩;rw[<-hS0]at hfr hL0;obtain⟨zN,zF,hzl,hzx⟩:∃zN zF,0<(eB zN []).length/\ES 120 16 [] [] [122] []=⟨0,zN,zF⟩:=⟨_,_,arD,auV⟩;have hpt:Hid (∀W f q p Y,Sep w W (bE f q p S0::Y)->Calls Tryz.prog 24 #[pV f,.string ⟨#[122]⟩,.slice none 0 0] W fun e w'=>e= .returned (iV 0)/\∃S',gX S' zN zF 120 16/\Sep w w' (bE f q p S'::Y)):=Lh fun W f q p Y hW=>by have h:=aGP (path:=[122]) (bs:=[]) (A:=none) (c:=0) hL0 aR aR UN hW;rw[hzx]at h;exact h
 have hly:Hid (∀W f q p S' Y,wD Ns F->Below w.heap.size w W->gX S' zN zF 120 16->Sep w W (bE f q p S'::Y)->Calls Tryz.prog 15 #[pV f,.agg #[nv,fv]] W fun e w'=>e= .returned (iV (if gW Ns F=0 then 25 else gW Ns F))/\∃S',Sep w w' (bE f q p S'::Y)):=Lh fun W f q p S' Y hm hW hL hS=>
  (adG hL hS (hT.below hW) hm (.inr hzl)).mono fun e w' ⟨h1,S2,_,h2⟩=>⟨h1,S2,h2⟩
 have hlo:Hid (∀W,wD Ns F->Below w.heap.size w W->Calls Tryz.prog 11 #[.agg #[nv,fv]] W fun e w'=>e= .returned (iV (gW Ns F))/\Below W.heap.size W w'):=Lh fun W hm hW=>by have h:=YG (hT.below hW) hm;rw[afV]at h;exact h
 have hsm:Hid (Ns.length<=300/\F.length<=300->wD Ns F):=Lh fun h=>⟨h.1,h.2,hp,hs⟩
 obtain⟨L,hLe⟩:∃L,gW Ns F=L:=⟨_,rfl⟩;rw[hLe]at hly hlo;clear h0 hS0 hL0 hzl hzx hp hs hLe hT;go_enter Tryz.func6,Tryz.ntmps6;go_wp2_with(first |(go_at_call 8;go_loud (refine hal.out.mono ?_;rintro e w1 ⟨rfl,hS⟩;(have h1:=Lh hS);(have z0:=hS.bC 0 rfl 0);(have z1:=hS.bC 0 rfl 1);simp only[gA,gB,gC]at z0 z1;clear hS hal))|(go_at_call 9;go_loud (refine(hbg.out _ h1.out.below).mono ?_;rintro e w2 ⟨(rfl|⟨rfl,zO⟩),hb⟩<;>(have h2:=Lh (h1.out.pure hb))<;>clear hb h1 hbg z0 z1)))
 ·go_wp2_with fail;go_ret;exact⟨rfl,h2.out.below⟩
 have hm:=hsm.out zO;have y0:=h2.out.bC 0 rfl 0;have y1:=h2.out.bC 0 rfl 1;simp only[gA,gB,gC]at y0 y1;by_cases h0:L=0
 ·(have arE:Hid (∀W f q p S' Y,Below w.heap.size w W->gX S' zN zF 120 16->Sep w W (bE f q p S'::Y)->Calls Tryz.prog 15 #[pV f,.agg #[nv,fv]] W fun e w'=>e= .returned (iV 25)/\∃S',Sep w w' (bE f q p S'::Y)):=Lh fun W f q p S' Y hW hL hS=>by have h:=hly.out W f q p S' Y hm hW hL hS;rw[if_pos h0]at h;exact h);rw[h0]at hlo;clear hly;go_wp2_with(first |(go_at_call 14;go_loud (refine(hfr.out _ _ h2.out).mono ?_;rintro e w3 ⟨f,q,p,rfl,hS⟩;(have h3:=Lh hS);clear hS h2 hfr y0 y1))|(go_at_call 24;go_loud (refine(hpt.out _ _ _ _ _ h3.out).mono ?_;rintro e w4 ⟨rfl,S4,hL4,hS⟩;(have h4:=Lh hS);(replace hL4:=Lh hL4);(have y0:=hS.bC 1 rfl 0);(have y1:=hS.bC 1 rfl 1);simp only[gA,gB,gC]at y0 y1;clear hS h3 hpt))|(go_at_call 15;go_loud (refine(arE.out _ _ _ _ _ _ h4.out.below hL4.out h4.out).mono ?_;rintro e w5 ⟨rfl,S5,hS⟩;(have h5:=Lh hS);(have y0:=hS.bC 1 rfl 0);(have y1:=hS.bC 1 rfl 1);simp only[gA,gB,gC]at y0 y1;clear hS h4 hL4 arE))|(go_at_call 11;go_loud (refine(hlo.out _ hm h5.out.below).mono ?_;rintro e w6 ⟨rfl,hb⟩;(have h6:=Lh (h5.out.pure hb));clear hb h5 hlo y0 y1))|(go_at_call 16;refine(BN _ _).mono ?_;rintro e w7 ⟨rfl,rfl⟩));go_ret;exact⟨rfl,h6.out.below⟩
 have arE:Hid (∀W f q p S' Y,Below w.heap.size w W->gX S' zN zF 120 16->Sep w W (bE f q p S'::Y)->Calls Tryz.prog 15 #[pV f,.agg #[nv,fv]] W fun e w'=>e= .returned (iV L)/\∃S',Sep w w' (bE f q p S'::Y)):=Lh fun W f q p S' Y hW hL hS=>by have h:=hly.out W f q p S' Y hm hW hL hS;rw[if_neg h0]at h;exact h
 have hl0:(L==0)=false:=by rw[kD];exact h0
 clear hly h0;go_wp2_with(first |(go_at_call 14;go_loud (refine(hfr.out _ _ h2.out).mono ?_;rintro e w3 ⟨f,q,p,rfl,hS⟩;(have h3:=Lh hS);clear hS h2 hfr y0 y1))|(go_at_call 24;go_loud (refine(hpt.out _ _ _ _ _ h3.out).mono ?_;rintro e w4 ⟨rfl,S4,hL4,hS⟩;(have h4:=Lh hS);(replace hL4:=Lh hL4);(have y0:=hS.bC 1 rfl 0);(have y1:=hS.bC 1 rfl 1);simp only[gA,gB,gC]at y0 y1;clear hS h3 hpt))|(go_at_call 15;go_loud (refine(arE.out _ _ _ _ _ _ h4.out.below hL4.out h4.out).mono ?_;rintro e w5 ⟨rfl,S5,hS⟩;(have h5:=Lh hS);(have y0:=hS.bC 1 rfl 0);(have y1:=hS.bC 1 rfl 1);simp only[gA,gB,gC]at y0 y1;clear hS h4 hL4 arE))|(go_at_call 11;go_loud (refine(hlo.out _ hm h5.out.below).mono ?_;rintro e w6 ⟨rfl,hb⟩;(have h6:=Lh (h5.out.pure hb));clear hb h5 hlo y0 y1))|(go_at_call 16;refine(BN _ _).mono ?_;rintro e w7 ⟨rfl,rfl⟩));go_ret;exact⟨by first |rfl|simp,h6.out.below⟩
end Go.Proofs.YtmjomdkleikgbaaGreat
namespace Go.Proofs.YtmjomdkleikgbaaGreat
open Go.ChangeShapes Go.WideShapes Go.ChangeAt Go.RowKit Go.Deep
theorem Q3 :Tryz.prog.cellsOf 68=3:=by kernel_rfl
theorem Q4 :Tryz.prog.cellsOf 71=2:=by kernel_rfl
theorem agO :Tryz.prog.cellsOf 25=2:=by kernel_rfl
theorem al9 :Tryz.prog.cellsOf 9=1:=by kernel_rfl
theorem J9 :Tryz.prog.cellsOf 3=1:=by kernel_rfl
theorem agP :Tryz.prog.cellsOf 5=1:=by kernel_rfl
theorem adJ :Tryz.prog.cellsOf 69=1:=by kernel_rfl
theorem adK :Tryz.prog.cellsOf 22=1:=by kernel_rfl
theorem adL :Tryz.prog.cellsOf 23=1:=by kernel_rfl
def auW (b:UInt8):List Value:=[kK b]
theorem arF (bs:List UInt8):bs.flatMap auW=bs.map kK:=by
 induction bs with
 |nil=>rfl
 |cons x xs ih=>rw[wJ,ih];rfl
theorem arG (x:ByteArray):Value.string x=aC x.data.toList:=by unfold aC;congr 1
section
variable {H:Type} {enc:TypeId×Value->H} {W:World} {sp:Nat->Bool} {held:Bool}
theorem E8 {t e:TypeId} {sz:Nat} (ht:Tryz.prog.underlying t=some (.slice e)) (hsz:Tryz.prog.cellsOf e=sz) (h0:0<sz) {α:Type} (z:α) (One:α->List Value) (hO:∀x,(One x).length=sz) (Q:α->Prop)
  (one:∀(n:Nat) (cs:List Value) (y:DataW H×List MemPlace),DataW.trod enc Tryz.prog W 0 sp held n e cs=some y->∃x,cs=One x/\Q x)
  {fuel:Nat} {cs0:List Value} {x0:DataW H×List MemPlace} (hf:DataW.trod enc Tryz.prog W 0 sp held fuel t cs0=some x0):
  ∃(A:Option Addr) (cap:Nat) (xs:List α),cs0=[.slice A xs.length cap]/\Rd W sz (.slice A xs.length cap) xs.length (xs.flatMap One)/\∀a∈xs,Q a:=by
 rcases DataW.trod_slice ht hf with⟨rfl,_⟩|⟨a,len,cap,elems,rest,n,_,rfl,hd,hb,hl,hm,hlen,hel,_,_⟩
 ·exact⟨none,0,[],rfl,⟨by simp,none,0,rfl,iU _,fZ _,fun h=>absurd h (Nat.lt_irrefl _)⟩,by simp⟩
 have key:∀i,∃x:α,i<len->(∀f,f<sz->W.cell? (a.add (i*sz+f))=(One x)[f]?)/\Q x:=by
  intro i;by_cases hi:i<len
  ·have h1:=hel i hi;obtain⟨y,hy⟩:∃y,elems[i]? =some y:=⟨_,gE aI⟩;rw[hy,Option.bind_eq_some_iff,hsz]at h1;obtain⟨cs,hc,ht⟩:=h1;obtain⟨x,rfl,hq⟩:=one _ _ _ ht;obtain⟨_,_,hcell⟩:=World.cells?_some hc;refine⟨x,fun _=>⟨fun f hf=>?_,hq⟩⟩;rw[<-hcell f hf,adZ]
  exact⟨z,fun h=>absurd h hi⟩
 obtain⟨X,hX⟩:=Classical.axiomOfChoice key;have aiR:((List.range len).map X).length=len:=by simp
 have hat:∀i,i<len->((List.range len).map X)[i]? =some (X i):=by intro i hi;rw[kX,TD hi];rfl
 refine⟨some a,cap,(List.range len).map X,by rw[aiR],?_,fun x hx=>?_⟩
 ·rw[aiR];refine⟨by rw[JV One sz hO,aiR],some a,cap,rfl,hl,hm,fun hpos=>⟨a,rfl,?_,fun j u hu=>?_⟩⟩
  ·have h1:=((hX 0) hpos).1 0 h0;obtain⟨z9,hz⟩:∃z9,(One (X 0))[0]? =some z9:=⟨_,gE (by rw[hO];exact h0)⟩;rw[hz]at h1;have:=World.block_lt_of_cell? W _ h1
   rwa [xO]at this
  have hj:j<len*sz:=by
   have:=(gF.1 hu).1
   rwa [JV One sz hO,aiR]at this
  have hi:j/sz<len:=Nat.div_lt_of_lt_mul (by rw[Nat.mul_comm];exact hj);have hr:j%sz<sz:=Nat.mod_lt _ h0;(have e:j=j/sz*sz+j%sz:=by rw[Nat.mul_comm];exact(Nat.div_add_mod j sz).symm);rw[e]at hu ⊢;rw[QC One sz hO (hat _ hi) _ hr]at hu;rw[((hX _) hi).1 _ hr,hu]
 obtain⟨i,hi,rfl⟩:=List.mem_map.1 hx;exact((hX i) (List.mem_range.1 hi)).2
theorem amA (n:Nat) (cs:List Value) (y:DataW H×List MemPlace) (h:DataW.trod enc Tryz.prog W 0 sp held n 5 cs=some y):∃b:UInt8,cs=auW b/\True:=by
 obtain⟨n,rfl,_,hw⟩:=DataW.trod_int Tryz.underlying5 h;have hr:0<=n/\n<=255:=by unfold Lit.wf at hw;rw[rH,decide_eq_true_iff,decide_eq_true_iff]at hw;(have e1:IntKind.u8.min=0:=by decide);(have e2:IntKind.u8.max=255:=by decide);omega
 refine⟨UInt8.ofNat n.toNat,?_,trivial⟩;unfold auW kK;have:(UInt8.ofNat n.toNat).toNat=n.toNat:=by rw[UInt8.toNat_ofNat'];omega
 rw[this,ag4 hr.1]
theorem agQ (n:Nat) (cs:List Value) (y:DataW H×List MemPlace) (h:DataW.trod enc Tryz.prog W 0 sp held n 69 cs=some y):∃x:Value×List UInt8,cs=[x.1]/\BytesAt W x.1 x.2:=by obtain⟨A,cap,xs,e,hr,_⟩:=E8 Tryz.underlying69 agP aR (0:UInt8) auW (fun _=>rfl) (fun _=>True) amA h;rw[arF]at hr;exact⟨(_,xs),e,hr⟩
theorem arH (n:Nat) (cs:List Value) (y:DataW H×List MemPlace) (h:DataW.trod enc Tryz.prog W 0 sp held n 9 cs=some y):∃s:List UInt8,cs=[aC s]/\s.length<=9223372036854775807:=by obtain⟨s,rfl,_,hl⟩:=DataW.trod_string Tryz.underlying9 h;refine⟨s.data.toList,by rw[arG],?_⟩;have:s.data.toList.length=s.size:=Array.length_toList;rw[this];exact hl
theorem amB (n:Nat) (cs:List Value) (y:DataW H×List MemPlace) (h:DataW.trod enc Tryz.prog W 0 sp held n 68 cs=some y):∃x:TN,cs=K6 x/\x.path.length<=9223372036854775807:=by
 obtain⟨xs,n,rfl,rfl,hl,hxl,hx⟩:=DataW.trod_struct Tryz.underlying68 h;rw[Q3]at hl;obtain⟨c0,c1,c2,rfl⟩:∃c0 c1 c2,cs=[c0,c1,c2]:=by
  match cs,hl with
  |[c0,c1,c2],_=>exact⟨c0,c1,c2,rfl⟩
 obtain⟨x0,x1,x2,rfl⟩:∃x0 x1 x2,xs=[x0,x1,x2]:=by
  match xs,hxl with
  |[x0,x1,x2],_=>exact⟨x0,x1,x2,rfl⟩
 have h0:DataW.trod enc Tryz.prog W 0 sp held n 9 (([c0,c1,c2].drop 0).take (Tryz.prog.cellsOf 9))=some x0:=hx 0 _ rfl;rw[al9]at h0;have h1:DataW.trod enc Tryz.prog W 0 sp held n 3 (([c0,c1,c2].drop 1).take (Tryz.prog.cellsOf 3))=some x1:=hx 1 _ rfl;rw[J9]at h1;have h2:DataW.trod enc Tryz.prog W 0 sp held n 3 (([c0,c1,c2].drop 2).take (Tryz.prog.cellsOf 3))=some x2:=hx 2 _ rfl;rw[J9]at h2;simp only[ZM,ZG,TE,MX]at h0 h1 h2;obtain⟨s0,e0,k0⟩:=arH _ _ _ h0;obtain⟨n1,e1,rfl,_⟩:=DataW.trod_int Tryz.underlying3 h1;obtain⟨n2,e2,rfl,_⟩:=DataW.trod_int Tryz.underlying3 h2;simp only[List.cons.injEq,and_true]at e0 e1 e2;subst e0 e1 e2;exact⟨⟨s0,n1,n2⟩,rfl,k0⟩
def ax9 (x:Int×Value×List UInt8):List Value:=[.int .i64 x.1,x.2.1]
theorem amC (n:Nat) (cs:List Value) (y:DataW H×List MemPlace) (h:DataW.trod enc Tryz.prog W 0 sp held n 71 cs=some y):∃x:Int×Value×List UInt8,cs=ax9 x/\BytesAt W x.2.1 x.2.2:=by
 obtain⟨xs,n,rfl,rfl,hl,hxl,hx⟩:=DataW.trod_struct Tryz.underlying71 h;rw[Q4]at hl;obtain⟨c0,c1,rfl⟩:∃c0 c1,cs=[c0,c1]:=by
  match cs,hl with
  |[c0,c1],_=>exact⟨c0,c1,rfl⟩
 obtain⟨x0,x1,rfl⟩:∃x0 x1,xs=[x0,x1]:=by
  match xs,hxl with
  |[x0,x1],_=>exact⟨x0,x1,rfl⟩
 have h0:DataW.trod enc Tryz.prog W 0 sp held n 3 (([c0,c1].drop 0).take (Tryz.prog.cellsOf 3))=some x0:=hx 0 _ rfl;rw[J9]at h0;have h1:DataW.trod enc Tryz.prog W 0 sp held n 69 (([c0,c1].drop 1).take (Tryz.prog.cellsOf 69))=some x1:=hx 1 _ rfl;rw[adJ]at h1;simp only[ZM,ZG,TE,MX]at h0 h1;obtain⟨n0,e0,rfl,_⟩:=DataW.trod_int Tryz.underlying3 h0;obtain⟨⟨u,bs⟩,e1,hb⟩:=agQ _ _ _ h1;simp only[List.cons.injEq,and_true]at e0 e1;subst e0 e1;exact⟨(n0,c1,bs),rfl,hb⟩
end
theorem adM (ys:List (Int×Value×List UInt8)):ys.flatMap ax9=iB (ys.map (fun y=>⟨y.1,y.2.2⟩)) (ys.map (·.2.1)):=by
 induction ys with
 |nil=>rfl
 |cons y ys ih=>rw[wJ,ih];rfl
section
variable {H:Type} {enc:TypeId×Value->H} {W:World}
theorem arg_treeW {v:Value} {d:DataW H} {p:List MemPlace} {base:Nat} (hok:Value.okWide Tryz.prog W .any base 25 v) (h0:DataW.Trod enc Tryz.prog W 0 (fun _=>true) true 25 v d p):
  ∃(nv fv:Value) (ns:List TN) (fs:List TF) (vs:List Value),v= .agg #[nv,fv]/\iR W nv fv ns fs vs/\(∀n∈ns,n.path.length<=9223372036854775807)/\∀f∈fs,f.size<=9223372036854775807:=by
 obtain⟨cs,rfl,hsz⟩:=okWide_struct Tryz.underlying25 hok;obtain⟨fuel,hf⟩:=h0;obtain⟨xs,n,rfl,hd,hl,hxl,hx⟩:=DataW.trod_struct Tryz.underlying25 hf;rw[agO]at hsz;obtain⟨c0,c1,rfl⟩:∃c0 c1,cs=#[c0,c1]:=by
  obtain⟨l⟩:=cs
  match l,hsz with
  |[c0,c1],_=>exact⟨c0,c1,rfl⟩
 obtain⟨x0,x1,rfl⟩:∃x0 x1,xs=[x0,x1]:=by
  match xs,hxl with
  |[x0,x1],_=>exact⟨x0,x1,rfl⟩
 have h0:DataW.trod enc Tryz.prog W 0 (fun _=>true) true n 22 (([c0,c1].drop 0).take (Tryz.prog.cellsOf 22))=some x0:=hx 0 _ rfl;rw[adK]at h0;have h1:DataW.trod enc Tryz.prog W 0 (fun _=>true) true n 23 (([c0,c1].drop 1).take (Tryz.prog.cellsOf 23))=some x1:=hx 1 _ rfl;rw[adL]at h1;simp only[ZM,ZG,TE,MX]at h0 h1;obtain⟨A,cN,ns,e0,XV,hqN⟩:=E8 Tryz.underlying22 Q3 aR (⟨[],0,0⟩:TN) K6 (fun _=>rfl) (fun x=>x.path.length<=9223372036854775807) amB h0;obtain⟨B,cF,ys,e1,hrF,hqF⟩:=E8 Tryz.underlying23 Q4 aR ((0,.nilFunc,[]):Int×Value×List UInt8) ax9 (fun _=>rfl) (fun x=>BytesAt W x.2.1 x.2.2) amC h1;simp only[List.cons.injEq,and_true]at e0 e1;subst e0 e1;refine⟨_,_,ns,ys.map (fun y=>⟨y.1,y.2.2⟩),ys.map (·.2.1),rfl,⟨by simp,XV,?_,fun k u f hu hf=>?_⟩,hqN,fun f hf=>?_⟩
 ·rw[iT];rw[adM]at hrF;exact hrF
 ·rw[kX,M4]at hu hf;obtain⟨y,hy,rfl⟩:=hu;obtain⟨y',hy',rfl⟩:=hf;obtain rfl:y=y':=Option.some.inj (hy.symm.trans hy');exact⟨_,hqF y (gG hy),fun u hu=>(by obtain⟨x,_,rfl⟩:=List.mem_map.1 hu;rfl),rfl⟩
 obtain⟨y,hy,rfl⟩:=List.mem_map.1 hf;obtain⟨_,_,_,h2⟩:=Rd.shape (hqF y hy);unfold maxLen at h2;show y.2.2.length<=_
 omega
end
end Go.Proofs.YtmjomdkleikgbaaGreat
