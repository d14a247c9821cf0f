/- Parts. -/
import Derived.Test.YtmjomdkleikgbaaGreatK34
set_option linter.unusedVariables false
set_option linter.unusedSimpArgs false
set_option maxRecDepth 100000
set_option maxHeartbeats 20000000
namespace Go.Proofs.YtmjomdkleikgbaaGreat
open Go.RowKit Go.Shelf
theorem Below.new (w:World) (o:Obj):Below w.heap.size w (w.alloc o):=(Below.refl _ _).alloc (iC _) o
theorem ae0 (m:Int) (w:World):Calls Tryz.prog 106 #[iV m] w fun e w'=>e= .returned (.bool (decide (0<=m)&&decide (m<=511)))/\w'=w:=by
 by_cases h:0<=m
 ·go_enter Tryz.func106,Tryz.ntmps106;go_wp2_with fail;go_ret;exact⟨by simp[h],rfl⟩
 have h2:m<0:=by omega
 have e1:decide (0<=m)=false:=by simpa using h2
 rw[e1];clear e1;go_enter Tryz.func106,Tryz.ntmps106;go_wp2_with fail;go_ret;exact⟨rfl,rfl⟩
theorem fG :Maps.Keyed Tryz.prog 9:=Maps.string_keyed Tryz.underlying9
theorem eZ (p:List UInt8) (h:p.length<=maxLen):keyOf Tryz.prog 9 (aC p)=some (.string p):=by rw[keyOf_string Tryz.underlying9];simp[mapKey,Tryz.underlying9,aC,ByteArray.size,h]
theorem pE (w:World):(zeroValue 3).run Tryz.prog w= .ok (.int .i64 0) w:=by kernel_rfl
theorem aoD (p:List UInt8):nD p<=p.length:=by
 unfold nD;rcases Lib.lastIndexByte_spec ⟨p.toArray⟩ 47 with⟨h,_⟩|⟨i,hi,h,_⟩
 ·rw[h];omega
 have hi':i<p.length:=hi;rw[h];omega
theorem ae1 (p:List UInt8):(aZ p).length<=p.length:=by
 unfold aZ;split
 ·rw[qP];omega
 simp
theorem TG {p:List UInt8} (h:p.length<=9223372036854775807) (w:World):Calls Tryz.prog 105 #[aC p] w fun e w'=>e= .returned (aC (aZ p))/\Below w.heap.size w w':=by
 have hv:=uD ⟨p.toArray⟩ w (by rw[iN];omega);rw[uC]at hv;cases hval:aV p with
 |false=>rw[hval]at hv;(have e:aZ p=[]:=by unfold aZ;rw[hval];rfl);rw[e];clear e;unfold aC at*;go_enter Tryz.func105,Tryz.ntmps105;go_wp2_with(go_at_call 104;refine hv.mono ?_;rintro e w1 ⟨rfl,hb⟩);go_ret;exact⟨rfl,hb⟩
 |true=>rw[hval]at hv;have h:=dG hval;(have hl:=fun W=>Go.Proofs.Any.strings_LastIndexByte Go.Proofs.Tryz.lastIndexByte ⟨p.toArray⟩ 47 (by rw[iN];omega) W);(have e:aZ p=p.take (nD p):=by unfold aZ;rw[hval];rfl);rw[e];clear e;have hle:=aoD p;unfold nD at*;generalize hlx:Lib.lastIndexByte ⟨p.toArray⟩ 47=x at hl hle ⊢;(have hl':∀W,Calls Tryz.prog 171 #[aC p,.int .u8 47] W fun e w'=>e= .returned (iV x)/\w'=W:=by intro W;exact hl W);clear hl hlx;unfold aC at*;(have hx1:max 0 x<=(p.length:Int):=by omega);(have hx2:0<=max 0 x:=by omega);clear hle;go_enter Tryz.func105,Tryz.ntmps105;go_wp2_with(first |(go_at_call 104;refine hv.mono ?_;rintro e w1 ⟨rfl,hb⟩)|(go_at_call 171;refine(hl' _).mono ?_;rintro e w2 ⟨rfl,hw2⟩;have hw3:=hw2.symm;clear hw2;subst hw3));go_ret;refine⟨?_,hb⟩;rw[JH];rfl
theorem aoE {n:Nat} (h:n<=9223372036854775807) (m:Int) (A:Option Addr) (c:Nat) (w:World):Calls Tryz.prog 170 #[.agg #[iV m,.slice A n c]] w fun e w'=>e= .returned (.bool (decide (8192<n)))/\Below w.heap.size w w':=by
 have hb:=Lh (Below.new w (.cells #[iV m,.slice A n c] 71));have b1:decide ((8192:Int)<(n:Int))=decide (8192<n):=by simp;omega
 go_enter Tryz.func170,Tryz.ntmps170;go_wp2_with fail;go_ret;refine⟨?_,hb.out⟩;first |rfl|(rw[b1])
theorem ae2 {w:World} {nv fv:Value} {ns:List TN} {fs:List TF} {vs:List Value} (h:gW w nv fv ns fs vs) (hf:fs.length<=300) (hs:∀f∈fs,f.size<=9223372036854775807):
  Calls Tryz.prog 190 #[fv,.func (.func 170) #[] #[]] w fun e w'=>(∃r:Int,e= .returned (iV r)/\decide (0<=r)=fs.any K9)/\Below w.heap.size w w':=by
 rcases yL fs.length with h0|h0
 ·obtain⟨A,c,rfl,_⟩:=h.files.shape;have hb:=Lh (Below.refl w.heap.size w);have e0:fs=[]:=vS h0;subst e0;clear h hf h0;go_enter Tryz.func190,Tryz.ntmps190;go_wp2_with fail;refine wp_loop_rounds 1 ?_;rw[rounds_succ];go_wp2_with fail;go_ret;exact⟨⟨_,rfl,rfl⟩,hb.out⟩
 obtain⟨g,o,c,rfl,hc,hcm,hg,hcell⟩:=h.files.place h0 aR;have hcell':=Lh hcell;have h':=Lh h;have hs':=Lh hs;have b1:(fs.length:Int)<=300:=by omega
 clear hcell h hs;go_enter Tryz.func190,Tryz.ntmps190;go_wp2_with fail;go_loopw[8] (fun iv wr=>∃k:Nat,k<=fs.length/\iv=iV k/\Hid (∀j f,j<k->fs[j]? =some f->K9 f=false)/\Below w.heap.size w wr) (fun iv _=>fs.length-(intOf iv).toNat)
 case atStart=>exact⟨0,fZ _,rfl,(fun j f hj=>by omega),Below.refl _ _⟩
 obtain⟨k,hk,rfl,hno,hb⟩:=hrel;have q1:(0:Int)<=(k:Int):=by omega
 have hb':=Lh hb;by_cases hlt:k<fs.length
 ·(have q2:(k:Int)<(fs.length:Int):=by omega);obtain⟨f,he⟩:∃f,fs[k]? =some f:=⟨_,gE hlt⟩;obtain⟨u,hu⟩:∃u,vs[k]? =some u:=⟨_,gE (by rw[h'.out.len];exact hlt)⟩;obtain⟨A,c9,rfl,_⟩:=(h'.out.data k u f hu he).shape;have c0:=(hcell'.out wr hb (k*2) aD).trans (eD he hu 0 aD);have c1:=(hcell'.out wr hb (k*2+1) aD).trans (eD he hu 1 aD);simp only[tfC,gB,gC,<-sD]at c0 c1;(have hone:=fun W=>aoE (hs'.out f (gG he)) f.mode A c9 W);have he':=Lh he;have hbg:K9 f=decide (8192<f.size):=rfl;rw[<-hbg]at hone;have hone':=Lh hone;clear hone he hu hb hbg;generalize hbf:K9 f=bf at hone';have aF0:=Lh hbf;clear hbf;cases bf with
  |true=>go_wp2_with(go_at_call 170;refine(hone'.out _).mono ?_;rintro e w2 ⟨rfl,hb2⟩;have hb3:=Lh (hb'.out.trans (hb2.mono hb'.out.size));clear hb2);go_ret;exact⟨⟨_,rfl,by rw[show decide (0<=(k:Int))=true by simp];exact(List.any_eq_true.2 ⟨f,gG he'.out,aF0.out⟩).symm⟩,hb3.out⟩
  |false=>
   go_wp2_with(go_at_call 170;refine(hone'.out _).mono ?_;rintro e w2 ⟨rfl,hb2⟩;have hb3:=Lh (hb'.out.trans (hb2.mono hb'.out.size));clear hb2);go_roundw
   case rel=>
    refine⟨k+1,by omega,by go_num,fun j g hj hg=>?_,hb3.out⟩;by_cases hjk:j=k
    ·subst hjk;have e1:=hg.symm.trans he'.out;cases e1;exact aF0.out
    exact hno.out j g aD hg
   case measure=>simp[intOf];omega
 obtain rfl:k=fs.length:=by omega
 have hall:fs.any K9=false:=by rw[aj5];intro f hf;obtain⟨j,hj⟩:=List.mem_iff_getElem?.1 hf;rw[hno.out j f (gF.1 hj).1 hj];simp
 have aF1:=Lh hall;clear hb hall hno;go_wp2_with fail;go_ret;exact⟨⟨_,rfl,by rw[aF1.out];rfl⟩,hb'.out⟩
theorem VB {w:World} {nv fv:Value} {ns:List TN} {fs:List TF} {vs:List Value} (h:gW w nv fv ns fs vs) (hf:fs.length<=300) (hs:∀f∈fs,f.size<=9223372036854775807):
  Calls Tryz.prog 169 #[fv,.func (.func 170) #[] #[]] w fun e w'=>e= .returned (.bool (fs.any K9))/\Below w.heap.size w w':=by
 have hi:=Lh (ae2 h hf hs);obtain⟨A,c,rfl,_⟩:=h.files.shape;go_enter Tryz.func169,Tryz.ntmps169;go_wp2_with(go_at_call 190;refine hi.out.mono ?_;rintro e w' ⟨⟨r,rfl,hr⟩,hb⟩);go_ret;refine⟨?_,hb⟩;rw[<-hr];rfl
theorem X0 {w:World} {nv fv:Value} {ns:List TN} {fs:List TF} {vs:List Value} (h:gW w nv fv ns fs vs) (hm:zB ns fs):
  Calls Tryz.prog 103 #[.agg #[nv,fv]] w fun e w'=>e= .returned (.bool (lY ns fs))/\Below w.heap.size w w':=by
 have hb0:=Below.new w (.cells #[nv,fv] 25);have hi:=Lh (VB (h.below hb0) hm.CK hm.size);have JP:=Lh hb0;obtain⟨A,c,rfl,_⟩:=h.files.shape;obtain⟨A2,c2,rfl,_⟩:=h.nodes.shape;have hf:=hm.few;have hf2:=hm.CK;clear h hm hb0;unfold lY;by_cases g1:256<ns.length
 ·(have b1:(256:Int)<(ns.length:Int):=by omega);rw[decide_eq_true g1,O6,O6];go_enter Tryz.func103,Tryz.ntmps103;go_wp2_with fail;go_ret;exact⟨rfl,JP.out⟩
 have b1:¬(256:Int)<(ns.length:Int):=by omega
 by_cases g2:256<fs.length
 ·(have b2:(256:Int)<(fs.length:Int):=by omega);rw[decide_eq_true g2,Bool.or_true,O6];go_enter Tryz.func103,Tryz.ntmps103;go_wp2_with fail;go_ret;exact⟨rfl,JP.out⟩
 have b2:¬(256:Int)<(fs.length:Int):=by omega
 rw[decide_eq_false g1,decide_eq_false g2,AX,AX];go_enter Tryz.func103,Tryz.ntmps103;go_wp2_with(first |(go_at_call 169;refine hi.out.mono ?_;rintro e w' ⟨rfl,hb⟩)|fail);go_ret;exact⟨rfl,JP.out.trans (hb.mono JP.out.size)⟩
def uA (L:List (Lit×Value)) (pre:List TN):Prop:=∀p:List UInt8,(getM L (.string p)).getD (.int .i64 0)= .int .i64 (qH pre p)
theorem ae3 :uA [(.string [],.int .i64 1)] []:=by
 intro p;unfold qH;by_cases e:p=[]
 ·subst e;rfl
 have:getM [(Lit.string [],Value.int .i64 1)] (.string p)=none:=by simp[getM,Lit.sameKey];first |exact fun h=>e h.symm|exact fun h=>e h|exact e
 rw[this,if_neg e];rfl
theorem aoF {L:List (Lit×Value)} {pre:List TN} (h:uA L pre) {n:TN} (hn:n.file= -1):uA (qL (qL L (.string n.path) (.int .i64 2)) (.string n.path) (.int .i64 1)) (pre++[n]):=by
 intro p;rw[CS (by simp[WideAt.IsKeyLit]) _ _ (by simp[WideAt.IsKeyLit]),vJ];by_cases e:n.path=p
 ·subst e;rw[if_pos (by simp[Lit.sameKey]),if_pos rfl,if_pos hn];rfl
 rw[if_neg (by simp[Lit.sameKey];exact fun h=>e h.symm),if_neg e,CS (by simp[WideAt.IsKeyLit]) _ _ (by simp[WideAt.IsKeyLit]),if_neg (by simp[Lit.sameKey];exact fun h=>e h.symm)];exact h p
theorem TH {L:List (Lit×Value)} {pre:List TN} (h:uA L pre) {n:TN} (hn:n.file≠ -1):uA (qL L (.string n.path) (.int .i64 2)) (pre++[n]):=by
 intro p;rw[CS (by simp[WideAt.IsKeyLit]) _ _ (by simp[WideAt.IsKeyLit]),vJ];by_cases e:n.path=p
 ·subst e;rw[if_pos (by simp[Lit.sameKey]),if_pos rfl,if_neg hn];rfl
 rw[if_neg (by simp[Lit.sameKey];exact fun h=>e h.symm),if_neg e];exact h p
theorem aa3 {ns:List TN}:∀i k,runK ns i=some k->k<=i:=by
 intro i
 induction i with
 |zero=>intro k h;cases h;exact iC _
 |succ i ih=>
  intro k h;change (match runK ns i with
   |none=>none
   |some k=>match ns[i]? with
    |none=>some k
    |some n=>if iQ (ns.take i) (iH ns i) k n=true then some (gU k n)else none)=some k at h
  cases hr:runK ns i with
  |none=>rw[hr]at h;cases h
  |some k0=>have:=ih k0 hr;exact Z29
theorem X7 {ns:List TN} {fs:List TF} (hb:lY ns fs=false) (h:¬(runK ns ns.length=some fs.length/\fs.all (fun f=>iB f.mode)=true)):iI ns fs=30:=by unfold iI;rw[hb,if_neg aR,if_neg h]
theorem atF {ns:List TN} {fs:List TF} (hb:lY ns fs=false) {i k:Nat} {n:TN} (h:runK ns i=some k) (hn:ns[i]? =some n) (ho:iQ (ns.take i) (iH ns i) k n=false):iI ns fs=30:=by have h1:=rP h hn;rw[ho,if_neg aR]at h1;have hi:=(gF.1 hn).1;have h2:=XF h1 (ns.length-(i+1));rw[show i+1+(ns.length-(i+1))=ns.length by omega]at h2;unfold iI;rw[hb,if_neg aR,if_neg (by rw[h2];rintro⟨h,_⟩;cases h)]
theorem Z4 {P:Prop} (h:P:=by go_wp2_with(first |(go_at_call 104;refine(wZ.out _).mono ?_;rintro e3 w3 ⟨rfl,hb3⟩;(have rD:=hX.out.pure hb3);(have y0:=rD.bC 0 rfl 0);(have y1:=rD.bC 0 rfl 1);simp only[gA,gB,gC]at y0 y1;(have LF:=Lh rD);clear rD hb3)|(go_at_call 105;refine(GD.out _).mono ?_;rintro e4 w4 ⟨rfl,hb4⟩;(have nO:=LF.out.pure hb4);(have z0:=nO.bC 0 rfl 0);(have z1:=nO.bC 0 rfl 1);(have z2:=nO.bC 0 rfl 2);(have hlk:=nO.rR 1 rfl fG Tryz.underlying157 (pE _) (eZ (aZ n.path) aoG));rw[hkd.out]at hlk;skip;simp only[gA,gB,gC,aC]at z0 z1 z2 hlk;(have aa4:=Lh nO);clear nO hb4 y0 y1));refine wp_goto ?_;exact⟨0,rfl,⟨rfl,rfl,rfl⟩,h30.out hno,aa4.out.below⟩):P:=h
theorem Z61 {P:Prop} (h:P:=by go_wp2_with(go_at_call 104;refine(wZ.out _).mono ?_;rintro e3 w3 ⟨rfl,hb3⟩;(have rD:=hX.out.pure hb3);(have y0:=rD.bC 0 rfl 0);(have y1:=rD.bC 0 rfl 1);simp only[gA,gB,gC]at y0 y1;(have LF:=Lh rD);clear rD hb3);refine wp_goto ?_;exact⟨0,rfl,⟨rfl,rfl,rfl⟩,h30.out hno,LF.out.below⟩):P:=h
theorem uM {w:World} {nv fv:Value} {ns:List TN} {fs:List TF} {vs:List Value} (h:gW w nv fv ns fs vs) (hm:zB ns fs):
  Calls Tryz.prog 39 #[.agg #[nv,fv]] w fun e w'=>e= .returned (iV (iI ns fs))/\Below w.heap.size w w':=by
 have hS0:=(Sep.nil w).bN 25 #[nv,fv];have hbo:=Lh (X0 (h.below hS0.below) hm);obtain⟨A1,c1,rfl,hm1⟩:=h.nodes.shape;obtain⟨A2,c2,rfl,hm2⟩:=h.files.shape;have nU:=Lh hS0;have h':=Lh h;have hm':=Lh hm;have hf:=hm.few;have hf2:=hm.CK;have b0:(ns.length:Int)<=300:=by omega
 have b00:(fs.length:Int)<=300:=by omega
 have hmm:= @run_makeMap Tryz.prog;clear h hm hS0;cases hbd:lY ns fs with
 |true=>rw[hbd]at hbo;(have e0:iI ns fs=31:=by unfold iI;rw[hbd];rfl);rw[e0];clear e0 hbd;go_enter Tryz.func39,Tryz.ntmps39;go_wp2_with fail;refine zP (fun _=>.skip) (fun _ _ _ _=>False) (fun _ _ _ _ h=>h.elim) ?_ (fun _ _ _ _ h=>h.elim);go_wp2_with(go_at_call 103;refine hbo.out.mono ?_;rintro e w1 ⟨rfl,hb1⟩;(have hS1:=Lh (nU.out.pure hb1));clear hb1);simp only[acQ];go_ret;exact⟨rfl,hS1.out.below⟩
 |false=>
  rw[hbd]at hbo;have ZH:=Lh hbd;clear hbd;go_enter Tryz.func39,Tryz.ntmps39;go_wp2_with fail;refine zP (fun _=>?rest) (fun _ l a w'=>l=0/\Fm 94 a []/\iI ns fs=30/\Below w.heap.size w w') ?hf ?first ?pass
  case hf=>rintro m l a w' ⟨rfl,_⟩;rfl
  case pass=>rintro m l a w' ⟨rfl,hF,hL,hB⟩;have hL':=Lh hL;clear hL;obtain⟨f,rfl⟩:=hF.lit (m:=94) rfl;simp only[lits,Nat.reduceAdd,mI];go_wp2_with fail;simp only[acQ];go_ret;exact⟨by rw[hL'.out];rfl,hB⟩
  go_wp2_with(go_at_call 103;refine hbo.out.mono ?_;rintro e w1 ⟨rfl,hb1⟩;(have hS1:=(nU.out.pure hb1).ae4 9);obtain⟨w2,hmu,hS2⟩:=hS1.qM 0 rfl fG Tryz.underlying157 vX (v:=.int .i64 1) (eZ [] bK);(have d0:w2.cell? ⟨w.heap.size,0,none⟩=some (.slice A1 ns.length c1):=by rw[hS2.bC 1 rfl 0];rfl);(have d1:w2.cell? ⟨w.heap.size,1,none⟩=some (.slice A2 fs.length c2):=by rw[hS2.bC 1 rfl 1];rfl);simp only[aC]at hmu;(have aeD:=Lh hS2);clear hS1 hS2 hb1);generalize xL:w1.heap.size=b at aeD ⊢;clear xL hmu hbo hmm;go_loopw[4,5,17] (fun fl la iv wr=>∃(i k m:Nat) (L:List (Lit×Value)),i<=ns.length/\iv= .int .i64 i/\fl= .int .i64 k/\la=aC (iH ns i)/\m<=2*i+1/\Hid (runK ns i=some k)/\Hid (uA L (ns.take i))/\Sep w wr [CU 9 b m L,.box w.heap.size 25 #[.slice A1 ns.length c1,.slice A2 fs.length c2]]) (fun _ _ iv _=>ns.length-(intOf iv).toNat)
  case atStart=>exact⟨0,0,1,_,fZ _,rfl,rfl,rfl,by omega,Lh rfl,Lh ae3,aeD.out⟩
  obtain⟨i,k,m,L,hi,rfl,rfl,rfl,hm,hrun,hkk,hS⟩:=hrel;(have q1:(0:Int)<=(i:Int):=by omega);have hki:k<=i:=aa3 _ _ hrun.out;by_cases hlt:i<ns.length
  ·(have q2:(i:Int)<(ns.length:Int):=by omega);obtain⟨g,o,c,e,hc,hcm,hg,hcell⟩:=h'.out.nodes.place aD aR;simp only[Value.slice.injEq]at e;obtain⟨rfl,_,rfl⟩:=e;obtain⟨n,he⟩:∃n,ns[i]? =some n:=⟨_,gE hlt⟩;have x0:=(hcell wr hS.below (i*3) aD).trans (bL he 0 aD);have x1:=(hcell wr hS.below (i*3+1) aD).trans (bL he 1 aD);have x2:=(hcell wr hS.below (i*3+2) aD).trans (bL he 2 aD);simp only[F8,aC,gB,gC,<-sD]at x0 x1 x2;have hX:=Lh (hS.bN 68 #[aC n.path,iV n.file,iV n.mode]);have hlen:=hm'.out.short n (gG he);(have hva:=fun W=>uD ⟨n.path.toArray⟩ W (by rw[iN];omega));simp only at hva;(have KP:=fun W=>TG (p:=n.path) aD W);(have hsh:n.path.length<=maxLen:=by unfold maxLen;omega);(have aoG:(aZ n.path).length<=maxLen:=by have:=ae1 n.path;omega);have GD:=Lh KP;(have h30:Hid (iQ (ns.take i) (iH ns i) k n=false->iI ns fs=30):=fun ho=>atF ZH.out hrun.out he ho);(have hnx:Hid (iQ (ns.take i) (iH ns i) k n=true->runK ns (i+1)=some (gU k n)):=fun ho=>by rw[rP hrun.out he,ho,if_pos rfl]);(have hlast:Hid (iH ns (i+1)=n.path):=by show((ns[i]?).map (·.path)).getD []=_;rw[he];rfl);(have htk:Hid (ns.take (i+1)=ns.take i++[n]):=by show _=_;rw[pI,he];rfl);have hkd:=Lh (hkk.out (aZ n.path));clear hS hcell KP he;unfold aC at*;cases hval:aV n.path with
   |false=>rw[hval]at hva;have wZ:=Lh hva;(have hno:iQ (ns.take i) (iH ns i) k n=false:=by unfold iQ;rw[hval];rfl);clear hva hval;exact Z61
   |true=>
    rw[hval]at hva;have wZ:=Lh hva;have hval':=Lh hval;clear hva hval;cases hle:ah5 n.path (iH ns i)with
    |true=>have hle2:(Op.bytesLess n.path (iH ns i)||n.path==iH ns i)=true:=hle;(have hno:iQ (ns.take i) (iH ns i) k n=false:=by unfold iQ;rw[hval'.out,hle];rfl);clear hle;exact Z61
    |false=>
     have hle2:(Op.bytesLess n.path (iH ns i)||n.path==iH ns i)=false:=hle;have axP:=Lh hle;clear hle;by_cases hk1:qH (ns.take i) (aZ n.path)=1
     case neg=>(have hk2:(qH (ns.take i) (aZ n.path)==1)=false:=by simpa using hk1);(have hk3:decide (qH (ns.take i) (aZ n.path)=1)=false:=by simpa using hk1);(have hno:iQ (ns.take i) (iH ns i) k n=false:=by unfold iQ;rw[hval'.out,axP.out,hk3];rfl);clear hk3;exact Z4
     rw[hk1]at hkd;by_cases hf1:n.file< -1
     case pos=>(have hf2:decide (-1<=n.file)=false:=by simp;omega);(have hno:iQ (ns.take i) (iH ns i) k n=false:=by unfold iQ;rw[hval'.out,axP.out,hk1,hf2];rfl);clear hf2 hk1;exact Z4
     by_cases hf3:(k:Int)<n.file
     case pos=>(have hf2:decide (n.file<=(k:Int))=false:=by simp;omega);(have hno:iQ (ns.take i) (iH ns i) k n=false:=by unfold iQ;rw[hval'.out,axP.out,hk1,hf2];simp);clear hf2 hk1;exact Z4
     (have hhead:Hid (iQ (ns.take i) (iH ns i) k n=if n.file= -1 then iB n.mode else decide (n.mode=0)):=by(show _=_);unfold iQ;rw[hval'.out,axP.out,hk1,show decide (-1<=n.file)=true by simp;omega,show decide (n.file<=(k:Int))=true by simp;omega];simp);clear hk1;by_cases hd:n.file= -1
     ·(have hmd:=fun W=>ae0 n.mode W);have hmo:(decide (0<=n.mode)&&decide (n.mode<=511))=iB n.mode:=rfl;simp only[hmo]at hmd;have hd':=Lh hd;(have hd2:(n.file== -1)=true:=by simpa using hd);clear hd;have hd:=hd';cases hmv:iB n.mode with
      |false=>rw[hmv]at hmd;have aaW:=Lh hmd;(have hno:iQ (ns.take i) (iH ns i) k n=false:=by rw[hhead.out,if_pos hd.out,hmv]);clear hmd hmv hmo;go_wp2_with(first |(go_at_call 104;refine(wZ.out _).mono ?_;rintro e3 w3 ⟨rfl,hb3⟩;(have rD:=hX.out.pure hb3);(have y0:=rD.bC 0 rfl 0);(have y1:=rD.bC 0 rfl 1);simp only[gA,gB,gC]at y0 y1;(have LF:=Lh rD);clear rD hb3)|(go_at_call 105;refine(GD.out _).mono ?_;rintro e4 w4 ⟨rfl,hb4⟩;(have nO:=LF.out.pure hb4);(have z0:=nO.bC 0 rfl 0);(have z1:=nO.bC 0 rfl 1);(have z2:=nO.bC 0 rfl 2);(have hlk:=nO.rR 1 rfl fG Tryz.underlying157 (pE _) (eZ (aZ n.path) aoG));rw[hkd.out]at hlk;obtain⟨w5,hup,EO⟩:=nO.qM 1 rfl fG Tryz.underlying157 vX (v:=.int .i64 2) (eZ n.path hsh);(have u0:=EO.bC 0 rfl 0);(have u1:=EO.bC 0 rfl 1);(have u2:=EO.bC 0 rfl 2);obtain⟨w6,aBB,VD⟩:=EO.qM 1 rfl fG Tryz.underlying157 vX (v:=.int .i64 1) (eZ n.path hsh);(have r0:=VD.bC 0 rfl 0);(have r1:=VD.bC 0 rfl 1);(have r2:=VD.bC 0 rfl 2);(have NI:=Lh VD);clear EO VD;simp only[gA,gB,gC,aC]at z0 z1 z2 u0 u1 u2 r0 r1 r2 hlk hup aBB;(have aa4:=Lh nO);clear nO hb4 y0 y1)|(go_at_call 106;refine(aaW.out _).mono ?_;rintro e7 w7 ⟨rfl,hw7⟩;subst hw7));refine wp_goto ?_;exact⟨0,rfl,⟨rfl,rfl,rfl⟩,h30.out hno,NI.out.below⟩
      |true=>
       rw[hmv]at hmd;have aaW:=Lh hmd;have EM:=hnx.out (by rw[hhead.out,if_pos hd.out,hmv]);(have hnk:gU k n=k:=by unfold gU;rw[if_neg (by have:=hd.out;omega)]);rw[hnk]at EM;have ae5:=Lh EM;clear hmd hmv hmo EM hnk;go_wp2_with(first |(go_at_call 104;refine(wZ.out _).mono ?_;rintro e3 w3 ⟨rfl,hb3⟩;(have rD:=hX.out.pure hb3);(have y0:=rD.bC 0 rfl 0);(have y1:=rD.bC 0 rfl 1);simp only[gA,gB,gC]at y0 y1;(have LF:=Lh rD);clear rD hb3)|(go_at_call 105;refine(GD.out _).mono ?_;rintro e4 w4 ⟨rfl,hb4⟩;(have nO:=LF.out.pure hb4);(have z0:=nO.bC 0 rfl 0);(have z1:=nO.bC 0 rfl 1);(have z2:=nO.bC 0 rfl 2);(have hlk:=nO.rR 1 rfl fG Tryz.underlying157 (pE _) (eZ (aZ n.path) aoG));rw[hkd.out]at hlk;obtain⟨w5,hup,EO⟩:=nO.qM 1 rfl fG Tryz.underlying157 vX (v:=.int .i64 2) (eZ n.path hsh);(have u0:=EO.bC 0 rfl 0);(have u1:=EO.bC 0 rfl 1);(have u2:=EO.bC 0 rfl 2);obtain⟨w6,aBB,VD⟩:=EO.qM 1 rfl fG Tryz.underlying157 vX (v:=.int .i64 1) (eZ n.path hsh);(have r0:=VD.bC 0 rfl 0);(have r1:=VD.bC 0 rfl 1);(have r2:=VD.bC 0 rfl 2);(have NI:=Lh VD);clear EO VD;simp only[gA,gB,gC,aC]at z0 z1 z2 u0 u1 u2 r0 r1 r2 hlk hup aBB;(have aa4:=Lh nO);clear nO hb4 y0 y1)|(go_at_call 106;refine(aaW.out _).mono ?_;rintro e7 w7 ⟨rfl,hw7⟩;subst hw7));go_roundw
       case rel=>exact⟨i+1,k,m+2,_,by omega,by go_num,rfl,by rw[hlast.out],by omega,ae5,by show uA _ _;rw[htk.out];exact aoF hkk.out hd.out,Sep.drop 1 NI.out⟩
       case measure=>simp[intOf];omega
     have hd':=Lh hd;(have hd2:(n.file== -1)=false:=by simpa using hd);by_cases hm0:n.mode=0
     case neg=>(have hno:iQ (ns.take i) (iH ns i) k n=false:=by rw[hhead.out,if_neg hd];simpa using hm0);(have hm2:(n.mode !=0)=true:=by simpa using hm0);go_wp2_with(first |(go_at_call 104;refine(wZ.out _).mono ?_;rintro e3 w3 ⟨rfl,hb3⟩;(have rD:=hX.out.pure hb3);(have y0:=rD.bC 0 rfl 0);(have y1:=rD.bC 0 rfl 1);simp only[gA,gB,gC]at y0 y1;(have LF:=Lh rD);clear rD hb3)|(go_at_call 105;refine(GD.out _).mono ?_;rintro e4 w4 ⟨rfl,hb4⟩;(have nO:=LF.out.pure hb4);(have z0:=nO.bC 0 rfl 0);(have z1:=nO.bC 0 rfl 1);(have z2:=nO.bC 0 rfl 2);(have hlk:=nO.rR 1 rfl fG Tryz.underlying157 (pE _) (eZ (aZ n.path) aoG));rw[hkd.out]at hlk;obtain⟨w5,hup,EO⟩:=nO.qM 1 rfl fG Tryz.underlying157 vX (v:=.int .i64 2) (eZ n.path hsh);(have u0:=EO.bC 0 rfl 0);(have u1:=EO.bC 0 rfl 1);(have u2:=EO.bC 0 rfl 2);(have atG:=Lh EO);clear EO;simp only[gA,gB,gC,aC]at z0 z1 z2 u0 u1 u2 hlk hup;(have aa4:=Lh nO);clear nO hb4 y0 y1));refine wp_goto ?_;exact⟨0,rfl,⟨rfl,rfl,rfl⟩,h30.out hno,atG.out.below⟩
     (have hm2:(n.mode !=0)=false:=by simp[hm0]);have EM:=hnx.out (by rw[hhead.out,if_neg hd];simpa using hm0);clear hm0;by_cases hfk:n.file=(k:Int)
     ·(have hnk:gU k n=k+1:=by unfold gU;rw[if_pos hfk]);(have aLE:(n.file==(k:Int))=true:=by simpa using hfk);clear hfk;rw[hnk]at EM;have ae5:=Lh EM;have hw1:IntKind.i64.wrap ((k:Int)+1)=(k:Int)+1:=IntWalk.i64_in _ aD;clear EM hnk;go_wp2_with(first |(go_at_call 104;refine(wZ.out _).mono ?_;rintro e3 w3 ⟨rfl,hb3⟩;(have rD:=hX.out.pure hb3);(have y0:=rD.bC 0 rfl 0);(have y1:=rD.bC 0 rfl 1);simp only[gA,gB,gC]at y0 y1;(have LF:=Lh rD);clear rD hb3)|(go_at_call 105;refine(GD.out _).mono ?_;rintro e4 w4 ⟨rfl,hb4⟩;(have nO:=LF.out.pure hb4);(have z0:=nO.bC 0 rfl 0);(have z1:=nO.bC 0 rfl 1);(have z2:=nO.bC 0 rfl 2);(have hlk:=nO.rR 1 rfl fG Tryz.underlying157 (pE _) (eZ (aZ n.path) aoG));rw[hkd.out]at hlk;obtain⟨w5,hup,EO⟩:=nO.qM 1 rfl fG Tryz.underlying157 vX (v:=.int .i64 2) (eZ n.path hsh);(have u0:=EO.bC 0 rfl 0);(have u1:=EO.bC 0 rfl 1);(have u2:=EO.bC 0 rfl 2);(have atG:=Lh EO);clear EO;simp only[gA,gB,gC,aC]at z0 z1 z2 u0 u1 u2 hlk hup;(have aa4:=Lh nO);clear nO hb4 y0 y1));go_roundw
      case rel=>exact⟨i+1,k+1,m+1,_,by omega,by go_num,by go_num,by rw[hlast.out],by omega,ae5,by show uA _ _;rw[htk.out];exact TH hkk.out hd'.out,Sep.drop 1 atG.out⟩
      case measure=>simp[intOf];omega
     (have hnk:gU k n=k:=by unfold gU;rw[if_neg hfk]);rw[hnk]at EM;have ae5:=Lh EM;(have aLE:(n.file==(k:Int))=false:=by simpa using hfk);clear EM hnk;go_wp2_with(first |(go_at_call 104;refine(wZ.out _).mono ?_;rintro e3 w3 ⟨rfl,hb3⟩;(have rD:=hX.out.pure hb3);(have y0:=rD.bC 0 rfl 0);(have y1:=rD.bC 0 rfl 1);simp only[gA,gB,gC]at y0 y1;(have LF:=Lh rD);clear rD hb3)|(go_at_call 105;refine(GD.out _).mono ?_;rintro e4 w4 ⟨rfl,hb4⟩;(have nO:=LF.out.pure hb4);(have z0:=nO.bC 0 rfl 0);(have z1:=nO.bC 0 rfl 1);(have z2:=nO.bC 0 rfl 2);(have hlk:=nO.rR 1 rfl fG Tryz.underlying157 (pE _) (eZ (aZ n.path) aoG));rw[hkd.out]at hlk;obtain⟨w5,hup,EO⟩:=nO.qM 1 rfl fG Tryz.underlying157 vX (v:=.int .i64 2) (eZ n.path hsh);(have u0:=EO.bC 0 rfl 0);(have u1:=EO.bC 0 rfl 1);(have u2:=EO.bC 0 rfl 2);(have atG:=Lh EO);clear EO;simp only[gA,gB,gC,aC]at z0 z1 z2 u0 u1 u2 hlk hup;(have aa4:=Lh nO);clear nO hb4 y0 y1));go_roundw
     case rel=>exact⟨i+1,k,m+1,_,by omega,by go_num,rfl,by rw[hlast.out],by omega,ae5,by show uA _ _;rw[htk.out];exact TH hkk.out hd'.out,Sep.drop 1 atG.out⟩
     case measure=>simp[intOf];omega
  (obtain rfl:i=ns.length:=by omega);have t0:=hS.bC 1 rfl 1;simp only[gA,gB,gC]at t0;have zX:=Lh hS;unfold aC at*;clear hS;by_cases hkf:k=fs.length
  case neg=>have hno:=X7 ZH.out (fun h=>hkf (by have h1:=hrun.out.symm.trans h.1;cases h1;rfl));have hno':=Lh hno;(have hk2:((k:Int) !=(fs.length:Int))=true:=by simp;omega);clear hno;go_wp2_with fail;refine wp_goto ?_;exact⟨0,rfl,⟨rfl,rfl,rfl⟩,hno'.out,zX.out.below⟩
  (have hk2:((k:Int) !=(fs.length:Int))=false:=by simp[hkf]);rw[hkf]at hrun;clear hkf;go_wp2_with fail;go_loopw[85] (fun iv wr2=>∃j:Nat,j<=fs.length/\iv=iV j/\Hid (∀f∈fs.take j,iB f.mode=true)/\Below w.heap.size w wr2) (fun iv _=>fs.length-(intOf iv).toNat)
  case atStart=>exact⟨0,fZ _,rfl,(fun f hf=>by simp at hf),zX.out.below⟩
  obtain⟨j,hj,rfl,hmo,hb⟩:=hrel;(have q1:(0:Int)<=(j:Int):=by omega);have hb':=Lh hb;by_cases hlt:j<fs.length
  ·(have q2:(j:Int)<(fs.length:Int):=by omega);obtain⟨g,o,c,e,hc,hcm,hg,hcell⟩:=h'.out.files.place aD aR;simp only[Value.slice.injEq]at e;obtain⟨rfl,_,rfl⟩:=e;obtain⟨f,he⟩:∃f,fs[j]? =some f:=⟨_,gE hlt⟩;obtain⟨u,hu⟩:∃u,vs[j]? =some u:=⟨_,gE (by rw[h'.out.len];exact hlt)⟩;have c0:=(hcell _ hb (j*2) aD).trans (eD he hu 0 aD);have c1':=(hcell _ hb (j*2+1) aD).trans (eD he hu 1 aD);simp only[tfC,gB,gC,<-sD]at c0 c1';obtain⟨A,c9,rfl,_⟩:=(h'.out.data j u f hu he).shape;(have hmd:=fun W=>ae0 f.mode W);have aF2:(decide (0<=f.mode)&&decide (f.mode<=511))=iB f.mode:=rfl;simp only[aF2]at hmd;have he':=Lh he;clear hcell he hu hb aF2;cases hmv:iB f.mode with
   |false=>rw[hmv]at hmd;have aaW:=Lh hmd;have hno':=Lh (X7 ZH.out (fun h=>by have:=List.all_eq_true.1 h.2 f (gG he'.out);rw[hmv]at this;cases this));clear hmd hmv;go_wp2_with(go_at_call 106;refine(aaW.out _).mono ?_;rintro e3 w3 ⟨rfl,hw3⟩;subst hw3);refine wp_goto ?_;exact⟨0,rfl,⟨rfl,rfl,rfl⟩,hno'.out,hb'.out.alloc hb'.out.size _⟩
   |true=>
    rw[hmv]at hmd;have aaW:=Lh hmd;have aLF:Hid (∀g∈fs.take (j+1),iB g.mode=true):=fun g hg=>by
     rw[pI,he'.out]at hg;rcases iM.1 hg with hg|hg
     ·exact hmo.out g hg
     (have:g=f:=by simpa using hg);rw[this];exact hmv
    clear hmd hmv hmo;go_wp2_with(go_at_call 106;refine(aaW.out _).mono ?_;rintro e3 w3 ⟨rfl,hw3⟩;subst hw3);exact⟨⟨j+1,by omega,by go_num,aLF,hb'.out.alloc hb'.out.size _⟩,by simp[intOf];omega⟩
  (obtain rfl:j=fs.length:=by omega);have h00:=Lh (aw4 ZH.out hrun.out (List.all_eq_true.2 fun f hf=>hmo.out f (by rw[M7];exact hf)));clear hb hmo;go_wp2_with fail;simp only[acQ];go_ret;exact⟨by rw[h00.out];rfl,hb'.out⟩
end Go.Proofs.YtmjomdkleikgbaaGreat
namespace Go.Proofs.YtmjomdkleikgbaaGreat
open Go.RowKit
theorem TI {α:Type} {f:α->Int} (h0:∀x,0<=f x):∀m:List α,0<=(m.map f).sum
 |[]=>O7 _
 |a::m=>by have h1:=h0 a;have h2:=TI h0 m;rw[jV,qN];omega
theorem aa5 {α:Type} [DecidableEq α] {f:α->Int} (h0:∀x,0<=f x):∀ {l m:List α},l.Nodup->(∀x∈l,x∈m)->(l.map f).sum<=(m.map f).sum
 |[],m,_,_=>TI h0 m
 |a::l,m,hn,hs=>by
  rw[xJ]at hn;obtain⟨s,t,rfl⟩:=aj1 (hs a nH);have:=aa5 h0 (l:=l) (m:=s++t) hn.2 fun x hx=>by
   have h1:=hs x (vR _ hx);rw[iM,kE]at h1;rw[iM];rcases h1 with h1|h1|h1
   ·exact .inl h1
   ·subst h1;exact absurd hx hn.1
   exact .inr h1
  simp only[mZ,jV,LZ,qN]at this ⊢;omega
theorem atH {α:Type} {f g:α->Int}:∀ {l:List α},(∀x∈l,f x<=g x)->(l.map f).sum<=(l.map g).sum
 |[],_=>O7 _
 |a::l,h=>by(have h1:=atH fun x hx=>h x (vR _ hx));have h2:=h a nH;simp only[jV,qN];omega
theorem X9 {k m n:Nat} (h:m<=n):eO k m<=eO k n:=by
 unfold eO;split
 ·omega
 split
 ·split<;>split<;>omega
 exact O7 _
theorem ae6 (k n:Nat):0<=eO k n:=by
 unfold eO;split
 ·omega
 split
 ·split<;>omega
 exact O7 _
section
variable {ns ms:List TN} {fs gs:List FT}
theorem JQ (K:Key):dM ns K<=dM (ns++ms) K:=by unfold dM eP;rw[FN,jM];omega
theorem YA {k:Int} (h:k∈fH ns):k∈fH (ns++ms):=by rw[jG]at h ⊢;obtain⟨h1,n,h2,h3⟩:=h;exact⟨h1,n,vU _ h2,h3⟩
theorem aiP (hf:∀n∈ns,n.file≠ -1->0<=n.file/\n.file<fs.length):nC ns fs<=nC (ns++ms) (fs++gs):=by
 unfold nC;have h1:eO 1 (dM ns [])<=eO 1 (dM (ns++ms) []):=X9 (JQ _);have h2:((jL ns).map fun n=>eO 1 (dM ns (bE n))).sum<=((jL (ns++ms)).map fun n=>eO 1 (dM (ns++ms) (bE n))).sum:=by have e:jL (ns++ms)=jL ns++jL ms:=FN ..;rw[e,mZ,LZ];(have h3:((jL ns).map fun n=>eO 1 (dM ns (bE n))).sum<=((jL ns).map fun n=>eO 1 (dM (ns++ms) (bE n))).sum:=atH fun n _=>X9 (JQ _));have h4:=aa5 (f:=fun n=>eO 1 (dM (ns++ms) (bE n))) (fun n=>ae6 _ _) (l:=[]) (m:=jL ms) O0 bK;simp only[zL,List.sum_nil]at h4;omega
 have h3:((fH ns).map fun k=>eO 2 (I8 fs k)).sum<=((fH (ns++ms)).map fun k=>eO 2 (I8 (fs++gs) k)).sum:=by refine Int.le_trans (Int.le_of_eq ?_) (aa5 (f:=fun k=>eO 2 (I8 (fs++gs) k)) (fun k=>ae6 _ _) (lX ns) fun k hk=>YA hk);congr 1;apply uO;intro k hk;obtain⟨h1,n,h2,rfl⟩:=jG.1 hk;obtain⟨h4,h5⟩:=hf n h2 h1;unfold I8;rw[EI aD]
 omega
theorem aiQ :kQ ns<=kQ (ns++ms):=by
 unfold kQ;have e:jL (ns++ms)=jL ns++jL ms:=FN ..;have h1:=EE (lX ns) fun k hk=>YA (ms:=ms) hk
 rw[e,jM];omega
theorem aoH {nb names:Nat} (hf:∀n∈ns,n.file≠ -1->0<=n.file/\n.file<fs.length) (h:qE nb names (ns++ms) (fs++gs)=true):qE nb names ns fs=true:=by unfold qE at*;rw[sP,jN,jN]at h ⊢;have h1:=aiP (ms:=ms) (gs:=gs) hf;have h2:=aiQ (ns:=ns) (ms:=ms);omega
end
section
variable {Ns:List TN}
theorem alC (hu:(Ns.map bE).Nodup) (hup:∀n∈Ns,dJ Ns (bE n).dropLast):∀(k:Nat) (K:Key),K.length=k->dJ Ns K->∃c,nZ Ns k K= .ok c/\lH c=true
 |0,K,hk,hK=>⟨none,rfl,rfl⟩
 |k+1,K,hk,hK=>by
  rcases hK with e|⟨n,hn,e,hf⟩
  ·rw[e]at hk;cases hk
  have hu2:=hup n hn;rw[e]at hu2;obtain⟨c,h1,h2⟩:=alC hu hup k K.dropLast (by rw[abN,hk];rfl) hu2;refine⟨some n,?_,by show decide (n.file= -1)=true;rw[jN];exact hf⟩;(show(nZ Ns k K.dropLast).bind (stepT Ns K)=_);rw[h1];(show stepT Ns K c=_);unfold stepT;rw[if_pos h2,<-e,D6 hu hn]
theorem atI (hu:(Ns.map bE).Nodup) (hup:∀n∈Ns,dJ Ns (bE n).dropLast) {K:Key} (hK:dJ Ns K.dropLast):CG Ns K= .ok (kP Ns K):=by
 obtain⟨c,h1,h2⟩:=alC hu hup _ _ rfl hK;unfold CG;rw[h1];show(if lH c=true then Except.ok (kP Ns K)else Except.error 22)=_
 rw[if_pos h2]
theorem JR (h:AA Ns):∀n∈Ns,dJ Ns (bE n).dropLast:=fun n hn=>by
 have hv:=h.valid n hn;rcases kS n.path with⟨_,_,h1⟩|⟨a,b,e,_,h2,h1⟩
 ·exact .inl (by unfold bE;rw[h1];rfl)
 have hp:aZ n.path=a:=by unfold aZ;rw[if_pos hv,h2,e,VX];rfl
 have hk:(bE n).dropLast=splitB a:=by unfold bE;rw[h1,UI]
 rw[hk];rcases h.up n hn with h3|⟨m,hm,h3,h4⟩
 ·exfalso;rw[hp]at h3;subst h3;(have hv2:NG n.path=true:=by rw[vH];exact hv);unfold NG at hv2;simp only[sP]at hv2;(have hm:([]:List UInt8)∈splitB n.path:=by rw[h1];exact vU _ (by simp[splitB]));have:=List.all_eq_true.1 hv2.2.2 _ hm;unfold iL at this;simp at this
 exact .inr ⟨m,hm,by unfold bE;rw[h3,hp],h4⟩
theorem yH (h:AA Ns):(Ns.map bE).Nodup:=by rw[List.Nodup,GY];exact h.ne.imp fun {a b} e e2=>e (rQ _ (iC _) e2)
end
def jB (F:List TF):List FT:=F.map fun f=>⟨f.mode.toNat,f.bs⟩
theorem JS (F:List TF):(jB F).length=F.length:=iJ _
theorem CV {F:List TF} (h:∀f∈F,iB f.mode=true):SY (jB F)=F:=by
 unfold SY jB;rw[qO]
 conv=>rhs;rw[<-List.map_id F]
 apply uO;intro f hf;have:=h f hf;unfold iB at this;rw[sP,jN,jN]at this;show(⟨((f.mode.toNat:Nat):Int),f.bs⟩:TF)=f
 rw[ajW this.1]
section
variable {ns:List TN} {F:List TF} {nb names:Nat}
theorem yI (ho:fF ns F) (i:Nat):AA (ns.take i):=by
 have h:=good_start ho;refine⟨h.ne.sublist (aj3 _ _),fun n hn=>h.valid n (AJ hn),fun n hn=>?_,fun n hn=>h.file n (AJ hn)⟩;rcases h.up n (AJ hn)with h1|⟨m,hm,h1,h2⟩
 ·exact .inl h1
 right;refine⟨m,?_,h1,h2⟩;obtain⟨j,hj⟩:=List.mem_iff_getElem?.1 hn;rw[vV]at hj;split at hj
 ·rename_i hji;obtain⟨l,hl⟩:=List.mem_iff_getElem?.1 hm;have hjl:=(gF.1 hj).1;have hll:=(gF.1 hl).1;(have hless:Op.bytesLess m.path n.path=true:=by rw[h1];exact CP (h.valid n (gG hj)));have hlj:l<j:=by
   rcases UK l j with h9|h9|h9
   ·exact h9
   ·subst h9;rw[hj]at hl;cases hl;rw[mH]at hless;cases hless
   have h8:=EX.1 ho.up j l hjl hll h9;rw[(gF.1 hj).2,(gF.1 hl).2]at h8;have:=qI h8 hless;rw[mH]at this;cases this
  rw[List.mem_iff_getElem?];exact⟨l,by rw[vV,if_pos aD,hl]⟩
 cases hj
theorem aoI (ho:fF ns F) {i k:Nat} (h:runK ns i=some k):∀n∈ns.take i,n.file≠ -1->0<=n.file/\n.file<(k:Int):=fun n hn hf=>by
 obtain⟨j,hj⟩:=List.mem_iff_getElem?.1 hn;rw[vV]at hj;split at hj
 ·rename_i hji;obtain⟨k2,h1,h2,h3⟩:=SF h j hji n hj;obtain⟨_,_,_,h4,h5,_⟩:=qJ h2;unfold gU at h3;split at h3<;>omega
 cases hj
theorem axQ (ho:fF ns F) {i:Nat} {n:TN} (hn:ns[i]? =some n):CG (ns.take i) (splitB n.path)= .ok none:=by
 have hg:=yI ho i;have hg1:=yI ho (i+1);have htk:ns.take (i+1)=ns.take i++[n]:=by rw[pI,hn];rfl
 have hup:=JR hg1 n (by rw[htk];simp);rw[htk]at hg1 hup;have hk1:=yH hg1;rw[mZ,M5,tK]at hk1;have hno:∀m∈ns.take i,bE m≠bE n:=fun m hm e=>hk1.2.2 _ (List.mem_map.2 ⟨m,hm,rfl⟩) _ (tJ.2 rfl) e
 have hK:dJ (ns.take i) (splitB n.path).dropLast:=by
  rcases hup with e|⟨m,hm,e,hf⟩
  ·exact .inl e
  rcases iM.1 hm with hm|hm
  ·exact .inr ⟨m,hm,e,hf⟩
  rw[tJ]at hm;subst hm;have:=congrArg List.length e;rw[abN]at this;have h2:=List.length_pos_iff.2 (aiL m);omega
 rw[atI (yH hg) (JR hg) hK];congr 1;unfold kP;rw[wV];intro m hm;have:=hno m hm;unfold bE at this ⊢;simpa using this
structure aF3 (ns:List TN) (F:List TF) (nb names:Nat) (i k:Nat) (n:TN):Prop where
 dir:n.file= -1->runK ns (i+1)=some k/\∃mode:Nat,n.mode=mode/\∀kk,doX nb names (ns.take i) ((jB F).take k) 1 n.path [] n.mode kk 0 []=⟨0,ns.take (i+1),(jB F).take k⟩
 new:n.file=(k:Int)->runK ns (i+1)=some (k+1)/\∃f,F[k]? =some f/\doX nb names (ns.take i) ((jB F).take k) 6 n.path [] f.mode 0 1 f.bs=⟨0,ns.take (i+1),(jB F).take (k+1)⟩
 link:0<=n.file->n.file<(k:Int)->runK ns (i+1)=some k/\∀m∈ns.take i,m.file=n.file->∀kk,doX nb names (ns.take i) ((jB F).take k) 4 m.path n.path 0 kk 0 []=⟨0,ns.take (i+1),(jB F).take k⟩
 range: -1<=n.file/\n.file<=(k:Int)
theorem atJ (ho:fF ns F) (hfit:qE nb names ns (jB F)=true) {i k:Nat} {n:TN} (hn:ns[i]? =some n) (hr:runK ns i=some k):aF3 ns F nb names i k n:=by
 obtain⟨k0,hr0,hno,hnk⟩:=SF ho.run i (gF.1 hn).1 n hn;rw[hr]at hr0;cases hr0;obtain⟨hv,_,_,hf1,hf2,hmo,hm0⟩:=qJ hno;have hr1:=rP hr hn;rw[if_pos hno]at hr1;have hat:=axQ ho hn;have hil:=(gF.1 hn).1;have aF4:(ns.take i).length<256:=by rw[qP];have:=ho.few;omega
 have htk:ns.take (i+1)=ns.take i++[n]:=by rw[pI,hn];rfl
 have hne:=nG hv;have hnew:RF (ns.take i) n.path=0:=by unfold RF;rw[hat];simp only;rw[if_pos aF4]
 have aLG:ES (ns.take i) (splitB n.path)=0:=by unfold ES;rw[hat]
 have hkl:((jB F).take k).length=k:=by rw[qP,JS];have:=SE k n;omega
 have hroom:∀(k2:Nat),runK ns (i+1)=some k2->k2<=F.length->qE nb names (ns.take (i+1)) ((jB F).take k2)=true:=fun k2 h2 h3=>by(have hk2:((jB F).take k2).length=k2:=by rw[qP,JS];omega);refine aoH (ms:=ns.drop (i+1)) (gs:=(jB F).drop k2) (fun m hm hf=>?_) (by rw[EJ,EJ];exact hfit);rw[hk2];exact aoI ho h2 m hm hf
 refine⟨fun e=>?_,fun e=>?_,fun h0 hlt=>?_,hf1,hf2⟩
 ·(have hk1:gU k n=k:=by unfold gU;rw[if_neg aD]);rw[hk1]at hr1 hnk;have hM:=hmo e;unfold iB at hM;rw[sP,jN,jN]at hM;refine⟨hr1,n.mode.toNat,by omega,fun kk=>?_⟩;(have hck:N7 1 n.path [] n.mode kk 0 ([]:List UInt8).length=0:=by unfold N7 wY;have e1:(bT 1).2.2=true:=rfl;have e2:(bT 1).1=false:=rfl;rw[e1,e2,if_neg aR,if_neg aR,if_neg aD,if_neg (by simp[hne]),if_neg (by simp[hv]),if_pos aR]);unfold doX;rw[if_pos hck,if_neg aR];unfold ad7;rw[if_pos rfl,if_pos hnew];(have hN:yA (ns.take i) ((jB F).take k) 1 n.mode.toNat n.path=ns.take (i+1):=by unfold yA;rw[htk,if_pos rfl,ajW hM.1];obtain⟨p,f,m⟩:=n;simp only at e;rw[e]);rw[hN];unfold wS;simp only;rw[if_pos (hroom k hr1 aD)]
 ·(have hk1:gU k n=k+1:=by unfold gU;rw[if_pos e]);rw[hk1]at hr1 hnk;(have hkF:k<F.length:=by omega);refine⟨hr1,F[k],gE hkF,?_⟩;have hM:=ho.SC _ (nW hkF);unfold iB at hM;rw[sP,jN,jN]at hM;have hsz:=ho.size _ (nW hkF);(have hck:N7 6 n.path [] F[k].mode 0 1 F[k].bs.length=0:=by unfold N7 wY;have e1:(bT 6).2.2=true:=rfl;have e2:(bT 6).1=false:=rfl;rw[e1,e2,if_neg aR,if_neg aR,if_neg aD,if_neg (by simp[hne]),if_neg (by simp[hv]),if_neg aR,if_neg aR,if_neg (by have:F[k].bs.length<=8192:=hsz;omega)]);unfold doX;rw[if_pos hck,if_neg aR];unfold ad7;rw[if_neg aR,if_neg aR,if_neg aR,if_neg aR,if_neg aR,if_pos rfl,if_pos hnew];(have hN:yA (ns.take i) ((jB F).take k) 2 F[k].mode.toNat n.path=ns.take (i+1):=by unfold yA;rw[htk,if_neg aR,hkl];have h9:=hm0 aD;obtain⟨p,f,m⟩:=n;simp only at e h9;rw[e,h9]);(have hN2:WT ((jB F).take k) 2 F[k].mode.toNat F[k].bs=(jB F).take (k+1):=by unfold WT;rw[if_neg aR,pI];congr 1;unfold jB;rw[lC,gE hkF];rfl);rw[hN,hN2];unfold wS;simp only;rw[if_pos (hroom (k+1) hr1 aD)]
 have hk1:gU k n=k:=by unfold gU;rw[if_neg aD]
 rw[hk1]at hr1 hnk;refine⟨hr1,fun m hm hmf kk=>?_⟩;have hg:=yI ho i;have hvm:=hg.valid m hm;have hck:N7 4 m.path n.path 0 kk 0 ([]:List UInt8).length=0:=by unfold N7 wY;have e1:(bT 4).2.2=true:=rfl;have e2:(bT 4).1=true:=rfl;have e3:(bT 4).2.1=false:=rfl;rw[e1,e2,e3,if_neg aR,if_neg aR,if_neg bK,if_neg (by simp[hne,nG hvm]),if_neg (by simp[hv,hvm]),if_pos aR]
 have hfil:wD (ns.take i) (splitB m.path)= .ok m:=by(have h1:CG (ns.take i) (splitB m.path)= .ok (some m):=by(show CG (ns.take i) (bE m)=_);rw[atI (yH hg) (JR hg) (JR hg m hm)];congr 1;exact D6 (yH hg) hm);unfold wD kR;rw[h1];simp only;rw[if_neg aD]
 unfold doX;rw[if_pos hck,if_neg aR];unfold ad7;rw[if_neg aR,if_neg aR,if_neg aR,if_pos rfl,hfil];simp only;rw[if_pos aLG,if_pos aF4];have hN:ns.take i++[⟨n.path,m.file,0⟩]=ns.take (i+1):=by rw[htk,hmf];have h9:=hm0 aD;obtain⟨p,f,m⟩:=n;simp only at h9;rw[h9]
 rw[hN];unfold wS;simp only;rw[if_pos (hroom k hr1 aD)]
end
theorem Z91 {P:Prop} (h:P:=by refine⟨wa,_::Ra,h3.perm lD.symm,fun Y' W' h=>⟨bs,h1,h4 (_::Y') W' (h.perm lD)⟩⟩):P:=h
theorem Sep.YB {w0 w:World} {As:List aW} (h:Sep w0 w As) (e:TypeId) (sz:Nat):Sep w0 (w.alloc (.cells #[] e)) (.sl e sz (sV w.heap.size 0 0) 0 []::As):=by have hown:=World.ownsRow_lit (base:=0) (e:=e) (size:=sz) w #[] 0 (fZ _) (fZ _) bK;exact Z34
theorem NJ {w:World} {v:Value} {ns:List TN} (h:Rd w 3 v ns.length (cZ ns)) (hl:ns.length<=300):
  Calls Tryz.prog 133 #[v] w fun e w'=>∃v',e= .returned v'/\Sep w w' [.sl 68 3 v' ns.length (cZ ns)]:=by
 obtain⟨i0,KE,hz0,hz1,hz2⟩:=info_parts aiI;obtain⟨A,c,rfl,_⟩:=h.shape;have h':=Lh h;have re:=fun(W:World) (a:Option Addr) (n c:Nat)=>Lib.run_eql_slice_nil (P:=Tryz.prog) W 22 68 a n c 0 0 Tryz.underlying22
 cases A with
 |none=>
  have h0:ns=[]:=by
   rcases yL ns.length with h0|h0
   ·exact vS h0
   obtain⟨_,A,c',e,_,_,h3⟩:=h;cases e;obtain⟨ad,e,_⟩:=h3 h0;cases e
  clear h;subst h0;go_enter Tryz.func133,Tryz.ntmps133;go_wp2_with fail;go_ret;exact⟨_,rfl,(Sep.nil w).gZ _ _⟩
 |some ad=>clear h;have hS:=Lh ((Sep.nil w).YB 68 3);go_enter Tryz.func133,Tryz.ntmps133;go_wp2_with(at_builtin;refine dI 0 rfl _ _ 22 rfl 68 i0 _ 3 32 Tryz.underlying22 KE hz0 hz1 hz2 rfl aR hS.out _ 0 [] rfl rfl (.slice (some ad) ns.length c) ns.length (cZ ns) rfl (h'.out.below hS.out.below) (fun u hu=>NH ns u hu) vX aD ?_);intro v' w' hS2 hsz;(have dQ:Sep w w' [.sl 68 3 v' ns.length (cZ ns)]:=by simpa using hS2);have vI:=Lh dQ;clear hS2 dQ hS hsz;go_wp2_with fail;go_ret;exact⟨v',rfl,vI.out⟩
theorem NK {w:World} {v:Value} {bs:List UInt8} (h:Rd w 1 v bs.length (bs.map kY)) (hl:bs.length<=1048576):
  Calls Tryz.prog 137 #[v] w fun e w'=>∃v',e= .returned v'/\Sep w w' [aI v' bs]:=by
 obtain⟨i0,KE,hz0,hz1,hz2⟩:=info_parts aiH;obtain⟨A,c,rfl,_⟩:=h.shape;have h':=Lh h;have re:=fun(W:World) (a:Option Addr) (n c:Nat)=>Lib.run_eql_slice_nil (P:=Tryz.prog) W 69 5 a n c 0 0 Tryz.underlying69
 cases A with
 |none=>
  have h0:bs=[]:=by
   rcases yL bs.length with h0|h0
   ·exact vS h0
   obtain⟨_,A,c',e,_,_,h3⟩:=h;cases e;obtain⟨ad,e,_⟩:=h3 h0;cases e
  clear h;subst h0;go_enter Tryz.func137,Tryz.ntmps137;go_wp2_with fail;go_ret;exact⟨_,rfl,(Sep.nil w).gZ _ _⟩
 |some ad=>clear h;have hS:=Lh ((Sep.nil w).YB 5 1);go_enter Tryz.func137,Tryz.ntmps137;go_wp2_with(at_builtin;refine dI 0 rfl _ _ 69 rfl 5 i0 _ 1 1 Tryz.underlying69 KE hz0 hz1 hz2 rfl aR hS.out _ 0 [] rfl rfl (.slice (some ad) bs.length c) bs.length (bs.map kY) rfl (h'.out.below hS.out.below) rT vX aD ?_);intro v' w' hS2 hsz;(have dQ:Sep w w' [aI v' bs]:=by simpa[aI]using hS2);have vI:=Lh dQ;clear hS2 dQ hS hsz;go_wp2_with fail;go_ret;exact⟨v',rfl,vI.out⟩
end Go.Proofs.YtmjomdkleikgbaaGreat
