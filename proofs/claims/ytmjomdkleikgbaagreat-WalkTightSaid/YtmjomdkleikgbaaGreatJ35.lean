/- Parts. -/
import Derived.Test.YtmjomdkleikgbaaGreatJ34
set_option linter.unusedVariables false
set_option linter.unusedSimpArgs false
set_option maxRecDepth 100000
set_option maxHeartbeats 20000000
namespace Go.Proofs.YtmjomdkleikgbaaGreat
open Go.RowKit Go.Shelf
theorem Below.new (w:World) (o:Obj):Below w.heap.size w (w.alloc o):=(Below.refl _ _).alloc (iB _) o
theorem aeA (m:Int) (w:World):Calls Tryz.prog 106 #[iV m] w fun e w'=>e= .returned (.bool (decide (0<=m)&&decide (m<=511)))/\w'=w:=by
 by_cases h:0<=m
 ·go_enter Tryz.func106,Tryz.ntmps106;go_wp2_with fail;go_ret;exact⟨by simp[h],rfl⟩
 have h2:m<0:=by omega
 have e1:decide (0<=m)=false:=by simpa using h2
 rw[e1];clear e1;go_enter Tryz.func106,Tryz.ntmps106;go_wp2_with fail;go_ret;exact⟨rfl,rfl⟩
theorem fC :Maps.Keyed Tryz.prog 9:=Maps.string_keyed Tryz.underlying9
theorem eT (p:List UInt8) (h:p.length<=maxLen):keyOf Tryz.prog 9 (aC p)=some (.string p):=by rw[keyOf_string Tryz.underlying9];simp[mapKey,Tryz.underlying9,aC,ByteArray.size,h]
theorem o8 (w:World):(zeroValue 3).run Tryz.prog w= .ok (.int .i64 0) w:=by kernel_rfl
theorem anL (p:List UInt8):nA p<=p.length:=by
 unfold nA;rcases Lib.lastIndexByte_spec ⟨p.toArray⟩ 47 with⟨h,_⟩|⟨i,hi,h,_⟩
 ·rw[h];omega
 have hi':i<p.length:=hi;rw[h];omega
theorem aeB (p:List UInt8):(aW p).length<=p.length:=by
 unfold aW;split
 ·rw[qL];omega
 simp
theorem R3 {p:List UInt8} (h:p.length<=9223372036854775807) (w:World):Calls Tryz.prog 105 #[aC p] w fun e w'=>e= .returned (aC (aW p))/\Below w.heap.size w w':=by
 have hv:=tZ ⟨p.toArray⟩ w (by rw[iP];omega);rw[tY]at hv;cases hval:aU p with
 |false=>rw[hval]at hv;(have e:aW p=[]:=by unfold aW;rw[hval];rfl);rw[e];clear e;unfold aC at*;go_enter Tryz.func105,Tryz.ntmps105;go_wp2_with(go_at_call 104;refine hv.mono ?_;rintro e w1 ⟨rfl,hb⟩);go_ret;exact⟨rfl,hb⟩
 |true=>rw[hval]at hv;have h:=dL hval;(have hl:=fun W=>Go.Proofs.Any.strings_LastIndexByte Go.Proofs.Tryz.lastIndexByte ⟨p.toArray⟩ 47 (by rw[iP];omega) W);(have e:aW p=p.take (nA p):=by unfold aW;rw[hval];rfl);rw[e];clear e;have hle:=anL p;unfold nA at*;generalize hlx:Lib.lastIndexByte ⟨p.toArray⟩ 47=x at hl hle ⊢;(have hl':∀W,Calls Tryz.prog 171 #[aC p,.int .u8 47] W fun e w'=>e= .returned (iV x)/\w'=W:=by intro W;exact hl W);clear hl hlx;unfold aC at*;(have hx1:max 0 x<=(p.length:Int):=by omega);(have hx2:0<=max 0 x:=by omega);clear hle;go_enter Tryz.func105,Tryz.ntmps105;go_wp2_with(first |(go_at_call 104;refine hv.mono ?_;rintro e w1 ⟨rfl,hb⟩)|(go_at_call 171;refine(hl' _).mono ?_;rintro e w2 ⟨rfl,hw2⟩;have hw3:=hw2.symm;clear hw2;subst hw3));go_ret;refine⟨?_,hb⟩;rw[I5];rfl
theorem anM {n:Nat} (h:n<=9223372036854775807) (m:Int) (A:Option Addr) (c:Nat) (w:World):Calls Tryz.prog 170 #[.agg #[iV m,.slice A n c]] w fun e w'=>e= .returned (.bool (decide (8192<n)))/\Below w.heap.size w w':=by
 have hb:=Lh (Below.new w (.cells #[iV m,.slice A n c] 71));have b1:decide ((8192:Int)<(n:Int))=decide (8192<n):=by simp;omega
 go_enter Tryz.func170,Tryz.ntmps170;go_wp2_with fail;go_ret;refine⟨?_,hb.out⟩;first |rfl|(rw[b1])
theorem aeC {w:World} {nv fv:Value} {ns:List TN} {fs:List TF} {vs:List Value} (h:iF w nv fv ns fs vs) (hf:fs.length<=300) (hs:∀f∈fs,f.size<=9223372036854775807):
  Calls Tryz.prog 190 #[fv,.func (.func 170) #[] #[]] w fun e w'=>(∃r:Int,e= .returned (iV r)/\decide (0<=r)=fs.any KS)/\Below w.heap.size w w':=by
 rcases xW fs.length with h0|h0
 ·obtain⟨A,c,rfl,_⟩:=h.files.shape;have hb:=Lh (Below.refl w.heap.size w);have e0:fs=[]:=vL h0;subst e0;clear h hf h0;go_enter Tryz.func190,Tryz.ntmps190;go_wp2_with fail;refine wp_loop_rounds 1 ?_;rw[rounds_succ];go_wp2_with fail;go_ret;exact⟨⟨_,rfl,rfl⟩,hb.out⟩
 obtain⟨g,o,c,rfl,hc,hcm,hg,hcell⟩:=h.files.place h0 aV;have hcell':=Lh hcell;have h':=Lh h;have hs':=Lh hs;have b1:(fs.length:Int)<=300:=by omega
 clear hcell h hs;go_enter Tryz.func190,Tryz.ntmps190;go_wp2_with fail;go_loopw[8] (fun iv wr=>∃k:Nat,k<=fs.length/\iv=iV k/\Hid (∀j f,j<k->fs[j]? =some f->KS f=false)/\Below w.heap.size w wr) (fun iv _=>fs.length-(intOf iv).toNat)
 case atStart=>exact⟨0,gI _,rfl,(fun j f hj=>by omega),Below.refl _ _⟩
 obtain⟨k,hk,rfl,hno,hb⟩:=hrel;have q1:(0:Int)<=(k:Int):=by omega
 have hb':=Lh hb;by_cases hlt:k<fs.length
 ·(have q2:(k:Int)<(fs.length:Int):=by omega);obtain⟨f,he⟩:∃f,fs[k]? =some f:=⟨_,gE hlt⟩;obtain⟨u,hu⟩:∃u,vs[k]? =some u:=⟨_,gE (by rw[h'.out.len];exact hlt)⟩;obtain⟨A,c9,rfl,_⟩:=(h'.out.data k u f hu he).shape;have c0:=(hcell'.out wr hb (k*2) aD).trans (fE he hu 0 aD);have c1:=(hcell'.out wr hb (k*2+1) aD).trans (fE he hu 1 aD);simp only[tfC,gB,gC,<-tC]at c0 c1;(have hone:=fun W=>anM (hs'.out f (gG he)) f.mode A c9 W);have he':=Lh he;have hbg:KS f=decide (8192<f.size):=rfl;rw[<-hbg]at hone;have hone':=Lh hone;clear hone he hu hb hbg;generalize hbf:KS f=bf at hone';have aE3:=Lh hbf;clear hbf;cases bf with
  |true=>go_wp2_with(go_at_call 170;refine(hone'.out _).mono ?_;rintro e w2 ⟨rfl,hb2⟩;have hb3:=Lh (hb'.out.trans (hb2.mono hb'.out.size));clear hb2);go_ret;exact⟨⟨_,rfl,by rw[show decide (0<=(k:Int))=true by simp];exact(List.any_eq_true.2 ⟨f,gG he'.out,aE3.out⟩).symm⟩,hb3.out⟩
  |false=>
   go_wp2_with(go_at_call 170;refine(hone'.out _).mono ?_;rintro e w2 ⟨rfl,hb2⟩;have hb3:=Lh (hb'.out.trans (hb2.mono hb'.out.size));clear hb2);go_roundw
   case rel=>
    refine⟨k+1,by omega,by go_num,fun j g hj hg=>?_,hb3.out⟩;by_cases hjk:j=k
    ·subst hjk;have e1:=hg.symm.trans he'.out;cases e1;exact aE3.out
    exact hno.out j g aD hg
   case measure=>simp[intOf];omega
 obtain rfl:k=fs.length:=by omega
 have hall:fs.any KS=false:=by rw[ajE];intro f hf;obtain⟨j,hj⟩:=List.mem_iff_getElem?.1 hf;rw[hno.out j f (gF.1 hj).1 hj];simp
 have aE4:=Lh hall;clear hb hall hno;go_wp2_with fail;go_ret;exact⟨⟨_,rfl,by rw[aE4.out];rfl⟩,hb'.out⟩
theorem UM {w:World} {nv fv:Value} {ns:List TN} {fs:List TF} {vs:List Value} (h:iF w nv fv ns fs vs) (hf:fs.length<=300) (hs:∀f∈fs,f.size<=9223372036854775807):
  Calls Tryz.prog 169 #[fv,.func (.func 170) #[] #[]] w fun e w'=>e= .returned (.bool (fs.any KS))/\Below w.heap.size w w':=by
 have hi:=Lh (aeC h hf hs);obtain⟨A,c,rfl,_⟩:=h.files.shape;go_enter Tryz.func169,Tryz.ntmps169;go_wp2_with(go_at_call 190;refine hi.out.mono ?_;rintro e w' ⟨⟨r,rfl,hr⟩,hb⟩);go_ret;refine⟨?_,hb⟩;rw[<-hr];rfl
theorem XH {w:World} {nv fv:Value} {ns:List TN} {fs:List TF} {vs:List Value} (h:iF w nv fv ns fs vs) (hm:BQ ns fs):
  Calls Tryz.prog 103 #[.agg #[nv,fv]] w fun e w'=>e= .returned (.bool (lV ns fs))/\Below w.heap.size w w':=by
 have hb0:=Below.new w (.cells #[nv,fv] 25);have hi:=Lh (UM (h.below hb0) hm.EG hm.size);have JD:=Lh hb0;obtain⟨A,c,rfl,_⟩:=h.files.shape;obtain⟨A2,c2,rfl,_⟩:=h.nodes.shape;have hf:=hm.few;have hf2:=hm.EG;clear h hm hb0;unfold lV;by_cases g1:256<ns.length
 ·(have b1:(256:Int)<(ns.length:Int):=by omega);rw[decide_eq_true g1,OM,OM];go_enter Tryz.func103,Tryz.ntmps103;go_wp2_with fail;go_ret;exact⟨rfl,JD.out⟩
 have b1:¬(256:Int)<(ns.length:Int):=by omega
 by_cases g2:256<fs.length
 ·(have b2:(256:Int)<(fs.length:Int):=by omega);rw[decide_eq_true g2,Bool.or_true,OM];go_enter Tryz.func103,Tryz.ntmps103;go_wp2_with fail;go_ret;exact⟨rfl,JD.out⟩
 have b2:¬(256:Int)<(fs.length:Int):=by omega
 rw[decide_eq_false g1,decide_eq_false g2,zZ,zZ];go_enter Tryz.func103,Tryz.ntmps103;go_wp2_with(first |(go_at_call 169;refine hi.out.mono ?_;rintro e w' ⟨rfl,hb⟩)|fail);go_ret;exact⟨rfl,JD.out.trans (hb.mono JD.out.size)⟩
def tV (L:List (Lit×Value)) (pre:List TN):Prop:=∀p:List UInt8,(getM L (.string p)).getD (.int .i64 0)= .int .i64 (qB pre p)
theorem aeD :tV [(.string [],.int .i64 1)] []:=by
 intro p;unfold qB;by_cases e:p=[]
 ·subst e;rfl
 have:getM [(Lit.string [],Value.int .i64 1)] (.string p)=none:=by simp[getM,Lit.sameKey];first |exact fun h=>e h.symm|exact fun h=>e h|exact e
 rw[this,if_neg e];rfl
theorem anN {L:List (Lit×Value)} {pre:List TN} (h:tV L pre) {n:TN} (hn:n.file= -1):tV (qK (qK L (.string n.path) (.int .i64 2)) (.string n.path) (.int .i64 1)) (pre++[n]):=by
 intro p;rw[BZ (by simp[WideAt.IsKeyLit]) _ _ (by simp[WideAt.IsKeyLit]),vB];by_cases e:n.path=p
 ·subst e;rw[if_pos (by simp[Lit.sameKey]),if_pos rfl,if_pos hn];rfl
 rw[if_neg (by simp[Lit.sameKey];exact fun h=>e h.symm),if_neg e,BZ (by simp[WideAt.IsKeyLit]) _ _ (by simp[WideAt.IsKeyLit]),if_neg (by simp[Lit.sameKey];exact fun h=>e h.symm)];exact h p
theorem R4 {L:List (Lit×Value)} {pre:List TN} (h:tV L pre) {n:TN} (hn:n.file≠ -1):tV (qK L (.string n.path) (.int .i64 2)) (pre++[n]):=by
 intro p;rw[BZ (by simp[WideAt.IsKeyLit]) _ _ (by simp[WideAt.IsKeyLit]),vB];by_cases e:n.path=p
 ·subst e;rw[if_pos (by simp[Lit.sameKey]),if_pos rfl,if_neg hn];rfl
 rw[if_neg (by simp[Lit.sameKey];exact fun h=>e h.symm),if_neg e];exact h p
theorem akF {ns:List TN}:∀i k,runK ns i=some k->k<=i:=by
 intro i
 induction i with
 |zero=>intro k h;cases h;exact iB _
 |succ i ih=>
  intro k h;change (match runK ns i with
   |none=>none
   |some k=>match ns[i]? with
    |none=>some k
    |some n=>if iR (ns.take i) (iH ns i) k n=true then some (gU k n)else none)=some k at h
  cases hr:runK ns i with
  |none=>rw[hr]at h;cases h
  |some k0=>have:=ih k0 hr;exact Z27
theorem XI {ns:List TN} {fs:List TF} (hb:lV ns fs=false) (h:¬(runK ns ns.length=some fs.length/\fs.all (fun f=>iA f.mode)=true)):iI ns fs=30:=by unfold iI;rw[hb,if_neg aV,if_neg h]
theorem asI {ns:List TN} {fs:List TF} (hb:lV ns fs=false) {i k:Nat} {n:TN} (h:runK ns i=some k) (hn:ns[i]? =some n) (ho:iR (ns.take i) (iH ns i) k n=false):iI ns fs=30:=by have h1:=rG h hn;rw[ho,if_neg aV]at h1;have hi:=(gF.1 hn).1;have h2:=WK h1 (ns.length-(i+1));rw[show i+1+(ns.length-(i+1))=ns.length by omega]at h2;unfold iI;rw[hb,if_neg aV,if_neg (by rw[h2];rintro⟨h,_⟩;cases h)]
theorem Z4 {P:Prop} (h:P:=by go_wp2_with(first |(go_at_call 104;refine(wR.out _).mono ?_;rintro e3 w3 ⟨rfl,hb3⟩;(have qW:=hX.out.pure hb3);(have y0:=qW.bC 0 rfl 0);(have y1:=qW.bC 0 rfl 1);simp only[gA,gB,gC]at y0 y1;(have KX:=Lh qW);clear qW hb3)|(go_at_call 105;refine(FW.out _).mono ?_;rintro e4 w4 ⟨rfl,hb4⟩;(have nM:=KX.out.pure hb4);(have z0:=nM.bC 0 rfl 0);(have z1:=nM.bC 0 rfl 1);(have z2:=nM.bC 0 rfl 2);(have hlk:=nM.rJ 1 rfl fC Tryz.underlying157 (o8 _) (eT (aW n.path) anO));rw[hkd.out]at hlk;skip;simp only[gA,gB,gC,aC]at z0 z1 z2 hlk;(have aaF:=Lh nM);clear nM hb4 y0 y1));refine wp_goto ?_;exact⟨0,rfl,⟨rfl,rfl,rfl⟩,h30.out hno,aaF.out.below⟩):P:=h
theorem Z56 {P:Prop} (h:P:=by go_wp2_with(go_at_call 104;refine(wR.out _).mono ?_;rintro e3 w3 ⟨rfl,hb3⟩;(have qW:=hX.out.pure hb3);(have y0:=qW.bC 0 rfl 0);(have y1:=qW.bC 0 rfl 1);simp only[gA,gB,gC]at y0 y1;(have KX:=Lh qW);clear qW hb3);refine wp_goto ?_;exact⟨0,rfl,⟨rfl,rfl,rfl⟩,h30.out hno,KX.out.below⟩):P:=h
theorem xR {w:World} {nv fv:Value} {ns:List TN} {fs:List TF} {vs:List Value} (h:iF w nv fv ns fs vs) (hm:BQ ns fs):
  Calls Tryz.prog 39 #[.agg #[nv,fv]] w fun e w'=>e= .returned (iV (iI ns fs))/\Below w.heap.size w w':=by
 have hS0:=(Sep.nil w).bN 25 #[nv,fv];have hbo:=Lh (XH (h.below hS0.below) hm);obtain⟨A1,c1,rfl,hm1⟩:=h.nodes.shape;obtain⟨A2,c2,rfl,hm2⟩:=h.files.shape;have nS:=Lh hS0;have h':=Lh h;have hm':=Lh hm;have hf:=hm.few;have hf2:=hm.EG;have b0:(ns.length:Int)<=300:=by omega
 have b00:(fs.length:Int)<=300:=by omega
 have hmm:= @run_makeMap Tryz.prog;clear h hm hS0;cases hbd:lV ns fs with
 |true=>rw[hbd]at hbo;(have e0:iI ns fs=31:=by unfold iI;rw[hbd];rfl);rw[e0];clear e0 hbd;go_enter Tryz.func39,Tryz.ntmps39;go_wp2_with fail;refine y8 (fun _=>.skip) (fun _ _ _ _=>False) (fun _ _ _ _ h=>h.elim) ?_ (fun _ _ _ _ h=>h.elim);go_wp2_with(go_at_call 103;refine hbo.out.mono ?_;rintro e w1 ⟨rfl,hb1⟩;(have hS1:=Lh (nS.out.pure hb1));clear hb1);simp only[ab0];go_ret;exact⟨rfl,hS1.out.below⟩
 |false=>
  rw[hbd]at hbo;have YR:=Lh hbd;clear hbd;go_enter Tryz.func39,Tryz.ntmps39;go_wp2_with fail;refine y8 (fun _=>?rest) (fun _ l a w'=>l=0/\Fm 94 a []/\iI ns fs=30/\Below w.heap.size w w') ?hf ?first ?pass
  case hf=>rintro m l a w' ⟨rfl,_⟩;rfl
  case pass=>rintro m l a w' ⟨rfl,hF,hL,hB⟩;have hL':=Lh hL;clear hL;obtain⟨f,rfl⟩:=hF.lit (m:=94) rfl;simp only[lits,Nat.reduceAdd,nG];go_wp2_with fail;simp only[ab0];go_ret;exact⟨by rw[hL'.out];rfl,hB⟩
  go_wp2_with(go_at_call 103;refine hbo.out.mono ?_;rintro e w1 ⟨rfl,hb1⟩;(have hS1:=(nS.out.pure hb1).aeE 9);obtain⟨w2,hmu,hS2⟩:=hS1.qF 0 rfl fC Tryz.underlying157 vQ (v:=.int .i64 1) (eT [] bL);(have d0:w2.cell? ⟨w.heap.size,0,none⟩=some (.slice A1 ns.length c1):=by rw[hS2.bC 1 rfl 0];rfl);(have d1:w2.cell? ⟨w.heap.size,1,none⟩=some (.slice A2 fs.length c2):=by rw[hS2.bC 1 rfl 1];rfl);simp only[aC]at hmu;(have adM:=Lh hS2);clear hS1 hS2 hb1);generalize wM:w1.heap.size=b at adM ⊢;clear wM hmu hbo hmm;go_loopw[4,5,17] (fun fl la iv wr=>∃(i k m:Nat) (L:List (Lit×Value)),i<=ns.length/\iv= .int .i64 i/\fl= .int .i64 k/\la=aC (iH ns i)/\m<=2*i+1/\Hid (runK ns i=some k)/\Hid (tV L (ns.take i))/\Sep w wr [CB 9 b m L,.box w.heap.size 25 #[.slice A1 ns.length c1,.slice A2 fs.length c2]]) (fun _ _ iv _=>ns.length-(intOf iv).toNat)
  case atStart=>exact⟨0,0,1,_,gI _,rfl,rfl,rfl,by omega,Lh rfl,Lh aeD,adM.out⟩
  obtain⟨i,k,m,L,hi,rfl,rfl,rfl,hm,hrun,hkk,hS⟩:=hrel;(have q1:(0:Int)<=(i:Int):=by omega);have hki:k<=i:=akF _ _ hrun.out;by_cases hlt:i<ns.length
  ·(have q2:(i:Int)<(ns.length:Int):=by omega);obtain⟨g,o,c,e,hc,hcm,hg,hcell⟩:=h'.out.nodes.place aD aV;simp only[Value.slice.injEq]at e;obtain⟨rfl,_,rfl⟩:=e;obtain⟨n,he⟩:∃n,ns[i]? =some n:=⟨_,gE hlt⟩;have x0:=(hcell wr hS.below (i*3) aD).trans (bR he 0 aD);have x1:=(hcell wr hS.below (i*3+1) aD).trans (bR he 1 aD);have x2:=(hcell wr hS.below (i*3+2) aD).trans (bR he 2 aD);simp only[GG,aC,gB,gC,<-tC]at x0 x1 x2;have hX:=Lh (hS.bN 68 #[aC n.path,iV n.file,iV n.mode]);have hlen:=hm'.out.short n (gG he);(have hva:=fun W=>tZ ⟨n.path.toArray⟩ W (by rw[iP];omega));simp only at hva;(have J9:=fun W=>R3 (p:=n.path) aD W);(have hsh:n.path.length<=maxLen:=by unfold maxLen;omega);(have anO:(aW n.path).length<=maxLen:=by have:=aeB n.path;omega);have FW:=Lh J9;(have h30:Hid (iR (ns.take i) (iH ns i) k n=false->iI ns fs=30):=fun ho=>asI YR.out hrun.out he ho);(have hnx:Hid (iR (ns.take i) (iH ns i) k n=true->runK ns (i+1)=some (gU k n)):=fun ho=>by rw[rG hrun.out he,ho,if_pos rfl]);(have hlast:Hid (iH ns (i+1)=n.path):=by show((ns[i]?).map (·.path)).getD []=_;rw[he];rfl);(have htk:Hid (ns.take (i+1)=ns.take i++[n]):=by show _=_;rw[pE,he];rfl);have hkd:=Lh (hkk.out (aW n.path));clear hS hcell J9 he;unfold aC at*;cases hval:aU n.path with
   |false=>rw[hval]at hva;have wR:=Lh hva;(have hno:iR (ns.take i) (iH ns i) k n=false:=by unfold iR;rw[hval];rfl);clear hva hval;exact Z56
   |true=>
    rw[hval]at hva;have wR:=Lh hva;have hval':=Lh hval;clear hva hval;cases hle:ahC n.path (iH ns i)with
    |true=>have hle2:(Op.bytesLess n.path (iH ns i)||n.path==iH ns i)=true:=hle;(have hno:iR (ns.take i) (iH ns i) k n=false:=by unfold iR;rw[hval'.out,hle];rfl);clear hle;exact Z56
    |false=>
     have hle2:(Op.bytesLess n.path (iH ns i)||n.path==iH ns i)=false:=hle;have awR:=Lh hle;clear hle;by_cases hk1:qB (ns.take i) (aW n.path)=1
     case neg=>(have hk2:(qB (ns.take i) (aW n.path)==1)=false:=by simpa using hk1);(have hk3:decide (qB (ns.take i) (aW n.path)=1)=false:=by simpa using hk1);(have hno:iR (ns.take i) (iH ns i) k n=false:=by unfold iR;rw[hval'.out,awR.out,hk3];rfl);clear hk3;exact Z4
     rw[hk1]at hkd;by_cases hf1:n.file< -1
     case pos=>(have hf2:decide (-1<=n.file)=false:=by simp;omega);(have hno:iR (ns.take i) (iH ns i) k n=false:=by unfold iR;rw[hval'.out,awR.out,hk1,hf2];rfl);clear hf2 hk1;exact Z4
     by_cases hf3:(k:Int)<n.file
     case pos=>(have hf2:decide (n.file<=(k:Int))=false:=by simp;omega);(have hno:iR (ns.take i) (iH ns i) k n=false:=by unfold iR;rw[hval'.out,awR.out,hk1,hf2];simp);clear hf2 hk1;exact Z4
     (have hhead:Hid (iR (ns.take i) (iH ns i) k n=if n.file= -1 then iA n.mode else decide (n.mode=0)):=by(show _=_);unfold iR;rw[hval'.out,awR.out,hk1,show decide (-1<=n.file)=true by simp;omega,show decide (n.file<=(k:Int))=true by simp;omega];simp);clear hk1;by_cases hd:n.file= -1
     ·(have hmd:=fun W=>aeA n.mode W);have hmo:(decide (0<=n.mode)&&decide (n.mode<=511))=iA n.mode:=rfl;simp only[hmo]at hmd;have hd':=Lh hd;(have hd2:(n.file== -1)=true:=by simpa using hd);clear hd;have hd:=hd';cases hmv:iA n.mode with
      |false=>rw[hmv]at hmd;have ZY:=Lh hmd;(have hno:iR (ns.take i) (iH ns i) k n=false:=by rw[hhead.out,if_pos hd.out,hmv]);clear hmd hmv hmo;go_wp2_with(first |(go_at_call 104;refine(wR.out _).mono ?_;rintro e3 w3 ⟨rfl,hb3⟩;(have qW:=hX.out.pure hb3);(have y0:=qW.bC 0 rfl 0);(have y1:=qW.bC 0 rfl 1);simp only[gA,gB,gC]at y0 y1;(have KX:=Lh qW);clear qW hb3)|(go_at_call 105;refine(FW.out _).mono ?_;rintro e4 w4 ⟨rfl,hb4⟩;(have nM:=KX.out.pure hb4);(have z0:=nM.bC 0 rfl 0);(have z1:=nM.bC 0 rfl 1);(have z2:=nM.bC 0 rfl 2);(have hlk:=nM.rJ 1 rfl fC Tryz.underlying157 (o8 _) (eT (aW n.path) anO));rw[hkd.out]at hlk;obtain⟨w5,hup,EC⟩:=nM.qF 1 rfl fC Tryz.underlying157 vQ (v:=.int .i64 2) (eT n.path hsh);(have u0:=EC.bC 0 rfl 0);(have u1:=EC.bC 0 rfl 1);(have u2:=EC.bC 0 rfl 2);obtain⟨w6,aAK,UN⟩:=EC.qF 1 rfl fC Tryz.underlying157 vQ (v:=.int .i64 1) (eT n.path hsh);(have r0:=UN.bC 0 rfl 0);(have r1:=UN.bC 0 rfl 1);(have r2:=UN.bC 0 rfl 2);(have MZ:=Lh UN);clear EC UN;simp only[gA,gB,gC,aC]at z0 z1 z2 u0 u1 u2 r0 r1 r2 hlk hup aAK;(have aaF:=Lh nM);clear nM hb4 y0 y1)|(go_at_call 106;refine(ZY.out _).mono ?_;rintro e7 w7 ⟨rfl,hw7⟩;subst hw7));refine wp_goto ?_;exact⟨0,rfl,⟨rfl,rfl,rfl⟩,h30.out hno,MZ.out.below⟩
      |true=>
       rw[hmv]at hmd;have ZY:=Lh hmd;have EA:=hnx.out (by rw[hhead.out,if_pos hd.out,hmv]);(have hnk:gU k n=k:=by unfold gU;rw[if_neg (by have:=hd.out;omega)]);rw[hnk]at EA;have aeF:=Lh EA;clear hmd hmv hmo EA hnk;go_wp2_with(first |(go_at_call 104;refine(wR.out _).mono ?_;rintro e3 w3 ⟨rfl,hb3⟩;(have qW:=hX.out.pure hb3);(have y0:=qW.bC 0 rfl 0);(have y1:=qW.bC 0 rfl 1);simp only[gA,gB,gC]at y0 y1;(have KX:=Lh qW);clear qW hb3)|(go_at_call 105;refine(FW.out _).mono ?_;rintro e4 w4 ⟨rfl,hb4⟩;(have nM:=KX.out.pure hb4);(have z0:=nM.bC 0 rfl 0);(have z1:=nM.bC 0 rfl 1);(have z2:=nM.bC 0 rfl 2);(have hlk:=nM.rJ 1 rfl fC Tryz.underlying157 (o8 _) (eT (aW n.path) anO));rw[hkd.out]at hlk;obtain⟨w5,hup,EC⟩:=nM.qF 1 rfl fC Tryz.underlying157 vQ (v:=.int .i64 2) (eT n.path hsh);(have u0:=EC.bC 0 rfl 0);(have u1:=EC.bC 0 rfl 1);(have u2:=EC.bC 0 rfl 2);obtain⟨w6,aAK,UN⟩:=EC.qF 1 rfl fC Tryz.underlying157 vQ (v:=.int .i64 1) (eT n.path hsh);(have r0:=UN.bC 0 rfl 0);(have r1:=UN.bC 0 rfl 1);(have r2:=UN.bC 0 rfl 2);(have MZ:=Lh UN);clear EC UN;simp only[gA,gB,gC,aC]at z0 z1 z2 u0 u1 u2 r0 r1 r2 hlk hup aAK;(have aaF:=Lh nM);clear nM hb4 y0 y1)|(go_at_call 106;refine(ZY.out _).mono ?_;rintro e7 w7 ⟨rfl,hw7⟩;subst hw7));go_roundw
       case rel=>exact⟨i+1,k,m+2,_,by omega,by go_num,rfl,by rw[hlast.out],by omega,aeF,by show tV _ _;rw[htk.out];exact anN hkk.out hd.out,Sep.drop 1 MZ.out⟩
       case measure=>simp[intOf];omega
     have hd':=Lh hd;(have hd2:(n.file== -1)=false:=by simpa using hd);by_cases hm0:n.mode=0
     case neg=>(have hno:iR (ns.take i) (iH ns i) k n=false:=by rw[hhead.out,if_neg hd];simpa using hm0);(have hm2:(n.mode !=0)=true:=by simpa using hm0);go_wp2_with(first |(go_at_call 104;refine(wR.out _).mono ?_;rintro e3 w3 ⟨rfl,hb3⟩;(have qW:=hX.out.pure hb3);(have y0:=qW.bC 0 rfl 0);(have y1:=qW.bC 0 rfl 1);simp only[gA,gB,gC]at y0 y1;(have KX:=Lh qW);clear qW hb3)|(go_at_call 105;refine(FW.out _).mono ?_;rintro e4 w4 ⟨rfl,hb4⟩;(have nM:=KX.out.pure hb4);(have z0:=nM.bC 0 rfl 0);(have z1:=nM.bC 0 rfl 1);(have z2:=nM.bC 0 rfl 2);(have hlk:=nM.rJ 1 rfl fC Tryz.underlying157 (o8 _) (eT (aW n.path) anO));rw[hkd.out]at hlk;obtain⟨w5,hup,EC⟩:=nM.qF 1 rfl fC Tryz.underlying157 vQ (v:=.int .i64 2) (eT n.path hsh);(have u0:=EC.bC 0 rfl 0);(have u1:=EC.bC 0 rfl 1);(have u2:=EC.bC 0 rfl 2);(have asJ:=Lh EC);clear EC;simp only[gA,gB,gC,aC]at z0 z1 z2 u0 u1 u2 hlk hup;(have aaF:=Lh nM);clear nM hb4 y0 y1));refine wp_goto ?_;exact⟨0,rfl,⟨rfl,rfl,rfl⟩,h30.out hno,asJ.out.below⟩
     (have hm2:(n.mode !=0)=false:=by simp[hm0]);have EA:=hnx.out (by rw[hhead.out,if_neg hd];simpa using hm0);clear hm0;by_cases hfk:n.file=(k:Int)
     ·(have hnk:gU k n=k+1:=by unfold gU;rw[if_pos hfk]);(have aKI:(n.file==(k:Int))=true:=by simpa using hfk);clear hfk;rw[hnk]at EA;have aeF:=Lh EA;have hw1:IntKind.i64.wrap ((k:Int)+1)=(k:Int)+1:=IntWalk.i64_in _ aD;clear EA hnk;go_wp2_with(first |(go_at_call 104;refine(wR.out _).mono ?_;rintro e3 w3 ⟨rfl,hb3⟩;(have qW:=hX.out.pure hb3);(have y0:=qW.bC 0 rfl 0);(have y1:=qW.bC 0 rfl 1);simp only[gA,gB,gC]at y0 y1;(have KX:=Lh qW);clear qW hb3)|(go_at_call 105;refine(FW.out _).mono ?_;rintro e4 w4 ⟨rfl,hb4⟩;(have nM:=KX.out.pure hb4);(have z0:=nM.bC 0 rfl 0);(have z1:=nM.bC 0 rfl 1);(have z2:=nM.bC 0 rfl 2);(have hlk:=nM.rJ 1 rfl fC Tryz.underlying157 (o8 _) (eT (aW n.path) anO));rw[hkd.out]at hlk;obtain⟨w5,hup,EC⟩:=nM.qF 1 rfl fC Tryz.underlying157 vQ (v:=.int .i64 2) (eT n.path hsh);(have u0:=EC.bC 0 rfl 0);(have u1:=EC.bC 0 rfl 1);(have u2:=EC.bC 0 rfl 2);(have asJ:=Lh EC);clear EC;simp only[gA,gB,gC,aC]at z0 z1 z2 u0 u1 u2 hlk hup;(have aaF:=Lh nM);clear nM hb4 y0 y1));go_roundw
      case rel=>exact⟨i+1,k+1,m+1,_,by omega,by go_num,by go_num,by rw[hlast.out],by omega,aeF,by show tV _ _;rw[htk.out];exact R4 hkk.out hd'.out,Sep.drop 1 asJ.out⟩
      case measure=>simp[intOf];omega
     (have hnk:gU k n=k:=by unfold gU;rw[if_neg hfk]);rw[hnk]at EA;have aeF:=Lh EA;(have aKI:(n.file==(k:Int))=false:=by simpa using hfk);clear EA hnk;go_wp2_with(first |(go_at_call 104;refine(wR.out _).mono ?_;rintro e3 w3 ⟨rfl,hb3⟩;(have qW:=hX.out.pure hb3);(have y0:=qW.bC 0 rfl 0);(have y1:=qW.bC 0 rfl 1);simp only[gA,gB,gC]at y0 y1;(have KX:=Lh qW);clear qW hb3)|(go_at_call 105;refine(FW.out _).mono ?_;rintro e4 w4 ⟨rfl,hb4⟩;(have nM:=KX.out.pure hb4);(have z0:=nM.bC 0 rfl 0);(have z1:=nM.bC 0 rfl 1);(have z2:=nM.bC 0 rfl 2);(have hlk:=nM.rJ 1 rfl fC Tryz.underlying157 (o8 _) (eT (aW n.path) anO));rw[hkd.out]at hlk;obtain⟨w5,hup,EC⟩:=nM.qF 1 rfl fC Tryz.underlying157 vQ (v:=.int .i64 2) (eT n.path hsh);(have u0:=EC.bC 0 rfl 0);(have u1:=EC.bC 0 rfl 1);(have u2:=EC.bC 0 rfl 2);(have asJ:=Lh EC);clear EC;simp only[gA,gB,gC,aC]at z0 z1 z2 u0 u1 u2 hlk hup;(have aaF:=Lh nM);clear nM hb4 y0 y1));go_roundw
     case rel=>exact⟨i+1,k,m+1,_,by omega,by go_num,rfl,by rw[hlast.out],by omega,aeF,by show tV _ _;rw[htk.out];exact R4 hkk.out hd'.out,Sep.drop 1 asJ.out⟩
     case measure=>simp[intOf];omega
  (obtain rfl:i=ns.length:=by omega);have t0:=hS.bC 1 rfl 1;simp only[gA,gB,gC]at t0;have GH:=Lh hS;unfold aC at*;clear hS;by_cases hkf:k=fs.length
  case neg=>have hno:=XI YR.out (fun h=>hkf (by have h1:=hrun.out.symm.trans h.1;cases h1;rfl));have hno':=Lh hno;(have hk2:((k:Int) !=(fs.length:Int))=true:=by simp;omega);clear hno;go_wp2_with fail;refine wp_goto ?_;exact⟨0,rfl,⟨rfl,rfl,rfl⟩,hno'.out,GH.out.below⟩
  (have hk2:((k:Int) !=(fs.length:Int))=false:=by simp[hkf]);rw[hkf]at hrun;clear hkf;go_wp2_with fail;go_loopw[85] (fun iv wr2=>∃j:Nat,j<=fs.length/\iv=iV j/\Hid (∀f∈fs.take j,iA f.mode=true)/\Below w.heap.size w wr2) (fun iv _=>fs.length-(intOf iv).toNat)
  case atStart=>exact⟨0,gI _,rfl,(fun f hf=>by simp at hf),GH.out.below⟩
  obtain⟨j,hj,rfl,hmo,hb⟩:=hrel;(have q1:(0:Int)<=(j:Int):=by omega);have hb':=Lh hb;by_cases hlt:j<fs.length
  ·(have q2:(j:Int)<(fs.length:Int):=by omega);obtain⟨g,o,c,e,hc,hcm,hg,hcell⟩:=h'.out.files.place aD aV;simp only[Value.slice.injEq]at e;obtain⟨rfl,_,rfl⟩:=e;obtain⟨f,he⟩:∃f,fs[j]? =some f:=⟨_,gE hlt⟩;obtain⟨u,hu⟩:∃u,vs[j]? =some u:=⟨_,gE (by rw[h'.out.len];exact hlt)⟩;have c0:=(hcell _ hb (j*2) aD).trans (fE he hu 0 aD);have c1':=(hcell _ hb (j*2+1) aD).trans (fE he hu 1 aD);simp only[tfC,gB,gC,<-tC]at c0 c1';obtain⟨A,c9,rfl,_⟩:=(h'.out.data j u f hu he).shape;(have hmd:=fun W=>aeA f.mode W);have aE5:(decide (0<=f.mode)&&decide (f.mode<=511))=iA f.mode:=rfl;simp only[aE5]at hmd;have he':=Lh he;clear hcell he hu hb aE5;cases hmv:iA f.mode with
   |false=>rw[hmv]at hmd;have ZY:=Lh hmd;have hno':=Lh (XI YR.out (fun h=>by have:=List.all_eq_true.1 h.2 f (gG he'.out);rw[hmv]at this;cases this));clear hmd hmv;go_wp2_with(go_at_call 106;refine(ZY.out _).mono ?_;rintro e3 w3 ⟨rfl,hw3⟩;subst hw3);refine wp_goto ?_;exact⟨0,rfl,⟨rfl,rfl,rfl⟩,hno'.out,hb'.out.alloc hb'.out.size _⟩
   |true=>
    rw[hmv]at hmd;have ZY:=Lh hmd;have aKJ:Hid (∀g∈fs.take (j+1),iA g.mode=true):=fun g hg=>by
     rw[pE,he'.out]at hg;rcases iN.1 hg with hg|hg
     ·exact hmo.out g hg
     (have:g=f:=by simpa using hg);rw[this];exact hmv
    clear hmd hmv hmo;go_wp2_with(go_at_call 106;refine(ZY.out _).mono ?_;rintro e3 w3 ⟨rfl,hw3⟩;subst hw3);exact⟨⟨j+1,by omega,by go_num,aKJ,hb'.out.alloc hb'.out.size _⟩,by simp[intOf];omega⟩
  (obtain rfl:j=fs.length:=by omega);have h00:=Lh (av2 YR.out hrun.out (List.all_eq_true.2 fun f hf=>hmo.out f (by rw[NY];exact hf)));clear hb hmo;go_wp2_with fail;simp only[ab0];go_ret;exact⟨by rw[h00.out];rfl,hb'.out⟩
end Go.Proofs.YtmjomdkleikgbaaGreat
namespace Go.Proofs.YtmjomdkleikgbaaGreat
open Go.RowKit
theorem R5 {α:Type} {f:α->Int} (h0:∀x,0<=f x):∀m:List α,0<=(m.map f).sum
 |[]=>OO _
 |a::m=>by have h1:=h0 a;have h2:=R5 h0 m;rw[jS,qI];omega
theorem aaG {α:Type} [DecidableEq α] {f:α->Int} (h0:∀x,0<=f x):∀ {l m:List α},l.Nodup->(∀x∈l,x∈m)->(l.map f).sum<=(m.map f).sum
 |[],m,_,_=>R5 h0 m
 |a::l,m,hn,hs=>by
  rw[wV]at hn;obtain⟨s,t,rfl⟩:=ai9 (hs a nE);have:=aaG h0 (l:=l) (m:=s++t) hn.2 fun x hx=>by
   have h1:=hs x (vK _ hx);rw[iN,kC]at h1;rw[iN];rcases h1 with h1|h1|h1
   ·exact .inl h1
   ·subst h1;exact absurd hx hn.1
   exact .inr h1
  simp only[mV,jS,LC,qI]at this ⊢;omega
theorem asK {α:Type} {f g:α->Int}:∀ {l:List α},(∀x∈l,f x<=g x)->(l.map f).sum<=(l.map g).sum
 |[],_=>OO _
 |a::l,h=>by(have h1:=asK fun x hx=>h x (vK _ hx));have h2:=h a nE;simp only[jS,qI];omega
theorem XJ {k m n:Nat} (h:m<=n):eD k m<=eD k n:=by
 unfold eD;split
 ·omega
 split
 ·split<;>split<;>omega
 exact OO _
theorem aeG (k n:Nat):0<=eD k n:=by
 unfold eD;split
 ·omega
 split
 ·split<;>omega
 exact OO _
section
variable {ns ms:List TN} {fs gs:List FT}
theorem JE (K:Key):dM ns K<=dM (ns++ms) K:=by unfold dM eX;rw[E9,jL];omega
theorem XK {k:Int} (h:k∈fD ns):k∈fD (ns++ms):=by rw[jE]at h ⊢;obtain⟨h1,n,h2,h3⟩:=h;exact⟨h1,n,vN _ h2,h3⟩
theorem ahY (hf:∀n∈ns,n.file≠ -1->0<=n.file/\n.file<fs.length):lJ ns fs<=lJ (ns++ms) (fs++gs):=by
 unfold lJ;have h1:eD 1 (dM ns [])<=eD 1 (dM (ns++ms) []):=XJ (JE _);have h2:((jK ns).map fun n=>eD 1 (dM ns (bD n))).sum<=((jK (ns++ms)).map fun n=>eD 1 (dM (ns++ms) (bD n))).sum:=by have e:jK (ns++ms)=jK ns++jK ms:=E9 ..;rw[e,mV,LC];(have h3:((jK ns).map fun n=>eD 1 (dM ns (bD n))).sum<=((jK ns).map fun n=>eD 1 (dM (ns++ms) (bD n))).sum:=asK fun n _=>XJ (JE _));have h4:=aaG (f:=fun n=>eD 1 (dM (ns++ms) (bD n))) (fun n=>aeG _ _) (l:=[]) (m:=jK ms) OG bL;simp only[yX,List.sum_nil]at h4;omega
 have h3:((fD ns).map fun k=>eD 2 (IQ fs k)).sum<=((fD (ns++ms)).map fun k=>eD 2 (IQ (fs++gs) k)).sum:=by refine Int.le_trans (Int.le_of_eq ?_) (aaG (f:=fun k=>eD 2 (IQ (fs++gs) k)) (fun k=>aeG _ _) (lU ns) fun k hk=>XK hk);congr 1;apply uH;intro k hk;obtain⟨h1,n,h2,rfl⟩:=jE.1 hk;obtain⟨h4,h5⟩:=hf n h2 h1;unfold IQ;rw[D6 aD]
 omega
theorem ahZ :jY ns<=jY (ns++ms):=by
 unfold jY;have e:jK (ns++ms)=jK ns++jK ms:=E9 ..;have h1:=DX (lU ns) fun k hk=>XK (ms:=ms) hk
 rw[e,jL];omega
theorem anP {nb names:Nat} (hf:∀n∈ns,n.file≠ -1->0<=n.file/\n.file<fs.length) (h:sI nb names (ns++ms) (fs++gs)=true):sI nb names ns fs=true:=by unfold sI at*;rw[sJ,tX,tX]at h ⊢;have h1:=ahY (ms:=ms) (gs:=gs) hf;have h2:=ahZ (ns:=ns) (ms:=ms);omega
end
section
variable {Ns:List TN}
theorem akG (hu:(Ns.map bD).Nodup) (hup:∀n∈Ns,dI Ns (bD n).dropLast):∀(k:Nat) (K:Key),K.length=k->dI Ns K->∃c,nY Ns k K= .ok c/\lC c=true
 |0,K,hk,hK=>⟨none,rfl,rfl⟩
 |k+1,K,hk,hK=>by
  rcases hK with e|⟨n,hn,e,hf⟩
  ·rw[e]at hk;cases hk
  have hu2:=hup n hn;rw[e]at hu2;obtain⟨c,h1,h2⟩:=akG hu hup k K.dropLast (by rw[aaW,hk];rfl) hu2;refine⟨some n,?_,by show decide (n.file= -1)=true;rw[tX];exact hf⟩;(show(nY Ns k K.dropLast).bind (stepT Ns K)=_);rw[h1];(show stepT Ns K c=_);unfold stepT;rw[if_pos h2,<-e,DJ hu hn]
theorem asL (hu:(Ns.map bD).Nodup) (hup:∀n∈Ns,dI Ns (bD n).dropLast) {K:Key} (hK:dI Ns K.dropLast):BO Ns K= .ok (kK Ns K):=by
 obtain⟨c,h1,h2⟩:=akG hu hup _ _ rfl hK;unfold BO;rw[h1];show(if lC c=true then Except.ok (kK Ns K)else Except.error 22)=_
 rw[if_pos h2]
theorem JF (h:zJ Ns):∀n∈Ns,dI Ns (bD n).dropLast:=fun n hn=>by
 have hv:=h.valid n hn;rcases kM n.path with⟨_,_,h1⟩|⟨a,b,e,_,h2,h1⟩
 ·exact .inl (by unfold bD;rw[h1];rfl)
 have hp:aW n.path=a:=by unfold aW;rw[if_pos hv,h2,e,U6];rfl
 have hk:(bD n).dropLast=splitB a:=by unfold bD;rw[h1,TK]
 rw[hk];rcases h.up n hn with h3|⟨m,hm,h3,h4⟩
 ·exfalso;rw[hp]at h3;subst h3;(have hv2:MW n.path=true:=by rw[uZ];exact hv);unfold MW at hv2;simp only[sJ]at hv2;(have hm:([]:List UInt8)∈splitB n.path:=by rw[h1];exact vN _ (by simp[splitB]));have:=List.all_eq_true.1 hv2.2.2 _ hm;unfold iL at this;simp at this
 exact .inr ⟨m,hm,by unfold bD;rw[h3,hp],h4⟩
theorem xS (h:zJ Ns):(Ns.map bD).Nodup:=by rw[List.Nodup,GJ];exact h.ne.imp fun {a b} e e2=>e (rH _ (iB _) e2)
end
def jJ (F:List TF):List FT:=F.map fun f=>⟨f.mode.toNat,f.bs⟩
theorem R6 (F:List TF):(jJ F).length=F.length:=iM _
theorem CE {F:List TF} (h:∀f∈F,iA f.mode=true):RS (jJ F)=F:=by
 unfold RS jJ;rw[qJ]
 conv=>rhs;rw[<-List.map_id F]
 apply uH;intro f hf;have:=h f hf;unfold iA at this;rw[sJ,tX,tX]at this;show(⟨((f.mode.toNat:Nat):Int),f.bs⟩:TF)=f
 rw[ai5 this.1]
section
variable {ns:List TN} {F:List TF} {nb names:Nat}
theorem xU (ho:fT ns F) (i:Nat):zJ (ns.take i):=by
 have h:=good_start ho;refine⟨h.ne.sublist (ajC _ _),fun n hn=>h.valid n (zX hn),fun n hn=>?_,fun n hn=>h.file n (zX hn)⟩;rcases h.up n (zX hn)with h1|⟨m,hm,h1,h2⟩
 ·exact .inl h1
 right;refine⟨m,?_,h1,h2⟩;obtain⟨j,hj⟩:=List.mem_iff_getElem?.1 hn;rw[vO]at hj;split at hj
 ·rename_i hji;obtain⟨l,hl⟩:=List.mem_iff_getElem?.1 hm;have hjl:=(gF.1 hj).1;have hll:=(gF.1 hl).1;(have hless:Op.bytesLess m.path n.path=true:=by rw[h1];exact BU (h.valid n (gG hj)));have hlj:l<j:=by
   rcases TM l j with h9|h9|h9
   ·exact h9
   ·subst h9;rw[hj]at hl;cases hl;rw[mD]at hless;cases hless
   have h8:=EK.1 ho.up j l hjl hll h9;rw[(gF.1 hj).2,(gF.1 hl).2]at h8;have:=qC h8 hless;rw[mD]at this;cases this
  rw[List.mem_iff_getElem?];exact⟨l,by rw[vO,if_pos aD,hl]⟩
 cases hj
theorem anQ (ho:fT ns F) {i k:Nat} (h:runK ns i=some k):∀n∈ns.take i,n.file≠ -1->0<=n.file/\n.file<(k:Int):=fun n hn hf=>by
 obtain⟨j,hj⟩:=List.mem_iff_getElem?.1 hn;rw[vO]at hj;split at hj
 ·rename_i hji;obtain⟨k2,h1,h2,h3⟩:=RF h j hji n hj;obtain⟨_,_,_,h4,h5,_⟩:=qD h2;unfold gU at h3;split at h3<;>omega
 cases hj
theorem awS (ho:fT ns F) {i:Nat} {n:TN} (hn:ns[i]? =some n):BO (ns.take i) (splitB n.path)= .ok none:=by
 have hg:=xU ho i;have hg1:=xU ho (i+1);have htk:ns.take (i+1)=ns.take i++[n]:=by rw[pE,hn];rfl
 have hup:=JF hg1 n (by rw[htk];simp);rw[htk]at hg1 hup;have hk1:=xS hg1;rw[mV,MN,sZ]at hk1;have hno:∀m∈ns.take i,bD m≠bD n:=fun m hm e=>hk1.2.2 _ (List.mem_map.2 ⟨m,hm,rfl⟩) _ (sW.2 rfl) e
 have hK:dI (ns.take i) (splitB n.path).dropLast:=by
  rcases hup with e|⟨m,hm,e,hf⟩
  ·exact .inl e
  rcases iN.1 hm with hm|hm
  ·exact .inr ⟨m,hm,e,hf⟩
  rw[sW]at hm;subst hm;have:=congrArg List.length e;rw[aaW]at this;have h2:=List.length_pos_iff.2 (ahU m);omega
 rw[asL (xS hg) (JF hg) hK];congr 1;unfold kK;rw[wL];intro m hm;have:=hno m hm;unfold bD at this ⊢;simpa using this
structure aE6 (ns:List TN) (F:List TF) (nb names:Nat) (i k:Nat) (n:TN):Prop where
 dir:n.file= -1->runK ns (i+1)=some k/\∃mode:Nat,n.mode=mode/\∀kk,doX nb names (ns.take i) ((jJ F).take k) 1 n.path [] n.mode kk 0 []=⟨0,ns.take (i+1),(jJ F).take k⟩
 new:n.file=(k:Int)->runK ns (i+1)=some (k+1)/\∃f,F[k]? =some f/\doX nb names (ns.take i) ((jJ F).take k) 6 n.path [] f.mode 0 1 f.bs=⟨0,ns.take (i+1),(jJ F).take (k+1)⟩
 link:0<=n.file->n.file<(k:Int)->runK ns (i+1)=some k/\∀m∈ns.take i,m.file=n.file->∀kk,doX nb names (ns.take i) ((jJ F).take k) 4 m.path n.path 0 kk 0 []=⟨0,ns.take (i+1),(jJ F).take k⟩
 range: -1<=n.file/\n.file<=(k:Int)
theorem aAL (ho:fT ns F) (hfit:sI nb names ns (jJ F)=true) {i k:Nat} {n:TN} (hn:ns[i]? =some n) (hr:runK ns i=some k):aE6 ns F nb names i k n:=by
 obtain⟨k0,hr0,hno,hnk⟩:=RF ho.run i (gF.1 hn).1 n hn;rw[hr]at hr0;cases hr0;obtain⟨hv,_,_,hf1,hf2,hmo,hm0⟩:=qD hno;have hr1:=rG hr hn;rw[if_pos hno]at hr1;have hat:=awS ho hn;have hil:=(gF.1 hn).1;have aE7:(ns.take i).length<256:=by rw[qL];have:=ho.few;omega
 have htk:ns.take (i+1)=ns.take i++[n]:=by rw[pE,hn];rfl
 have hne:=nD hv;have hnew:QT (ns.take i) n.path=0:=by unfold QT;rw[hat];simp only;rw[if_pos aE7]
 have aKK:EF (ns.take i) (splitB n.path)=0:=by unfold EF;rw[hat]
 have hkl:((jJ F).take k).length=k:=by rw[qL,R6];have:=RD k n;omega
 have hroom:∀(k2:Nat),runK ns (i+1)=some k2->k2<=F.length->sI nb names (ns.take (i+1)) ((jJ F).take k2)=true:=fun k2 h2 h3=>by(have hk2:((jJ F).take k2).length=k2:=by rw[qL,R6];omega);refine anP (ms:=ns.drop (i+1)) (gs:=(jJ F).drop k2) (fun m hm hf=>?_) (by rw[D7,D7];exact hfit);rw[hk2];exact anQ ho h2 m hm hf
 refine⟨fun e=>?_,fun e=>?_,fun h0 hlt=>?_,hf1,hf2⟩
 ·(have hk1:gU k n=k:=by unfold gU;rw[if_neg aD]);rw[hk1]at hr1 hnk;have hM:=hmo e;unfold iA at hM;rw[sJ,tX,tX]at hM;refine⟨hr1,n.mode.toNat,by omega,fun kk=>?_⟩;(have hck:TI 1 n.path [] n.mode kk 0 ([]:List UInt8).length=0:=by unfold TI wP;have e1:(bV 1).2.2=true:=rfl;have e2:(bV 1).1=false:=rfl;rw[e1,e2,if_neg aV,if_neg aV,if_neg aD,if_neg (by simp[hne]),if_neg (by simp[hv]),if_pos aV]);unfold doX;rw[if_pos hck,if_neg aV];unfold ag9;rw[if_pos rfl,if_pos hnew];(have hN:xL (ns.take i) ((jJ F).take k) 1 n.mode.toNat n.path=ns.take (i+1):=by unfold xL;rw[htk,if_pos rfl,ai5 hM.1];obtain⟨p,f,m⟩:=n;simp only at e;rw[e]);rw[hN];unfold ER;simp only;rw[if_pos (hroom k hr1 aD)]
 ·(have hk1:gU k n=k+1:=by unfold gU;rw[if_pos e]);rw[hk1]at hr1 hnk;(have hkF:k<F.length:=by omega);refine⟨hr1,F[k],gE hkF,?_⟩;have hM:=ho.RA _ (nT hkF);unfold iA at hM;rw[sJ,tX,tX]at hM;have hsz:=ho.size _ (nT hkF);(have hck:TI 6 n.path [] F[k].mode 0 1 F[k].bs.length=0:=by unfold TI wP;have e1:(bV 6).2.2=true:=rfl;have e2:(bV 6).1=false:=rfl;rw[e1,e2,if_neg aV,if_neg aV,if_neg aD,if_neg (by simp[hne]),if_neg (by simp[hv]),if_neg aV,if_neg aV,if_neg (by have:F[k].bs.length<=8192:=hsz;omega)]);unfold doX;rw[if_pos hck,if_neg aV];unfold ag9;rw[if_neg aV,if_neg aV,if_neg aV,if_neg aV,if_neg aV,if_pos rfl,if_pos hnew];(have hN:xL (ns.take i) ((jJ F).take k) 2 F[k].mode.toNat n.path=ns.take (i+1):=by unfold xL;rw[htk,if_neg aV,hkl];have h9:=hm0 aD;obtain⟨p,f,m⟩:=n;simp only at e h9;rw[e,h9]);(have hN2:WA ((jJ F).take k) 2 F[k].mode.toNat F[k].bs=(jJ F).take (k+1):=by unfold WA;rw[if_neg aV,pE];congr 1;unfold jJ;rw[kV,gE hkF];rfl);rw[hN,hN2];unfold ER;simp only;rw[if_pos (hroom (k+1) hr1 aD)]
 have hk1:gU k n=k:=by unfold gU;rw[if_neg aD]
 rw[hk1]at hr1 hnk;refine⟨hr1,fun m hm hmf kk=>?_⟩;have hg:=xU ho i;have hvm:=hg.valid m hm;have hck:TI 4 m.path n.path 0 kk 0 ([]:List UInt8).length=0:=by unfold TI wP;have e1:(bV 4).2.2=true:=rfl;have e2:(bV 4).1=true:=rfl;have e3:(bV 4).2.1=false:=rfl;rw[e1,e2,e3,if_neg aV,if_neg aV,if_neg bL,if_neg (by simp[hne,nD hvm]),if_neg (by simp[hv,hvm]),if_pos aV]
 have hfil:vS (ns.take i) (splitB m.path)= .ok m:=by(have h1:BO (ns.take i) (splitB m.path)= .ok (some m):=by(show BO (ns.take i) (bD m)=_);rw[asL (xS hg) (JF hg) (JF hg m hm)];congr 1;exact DJ (xS hg) hm);unfold vS kL;rw[h1];simp only;rw[if_neg aD]
 unfold doX;rw[if_pos hck,if_neg aV];unfold ag9;rw[if_neg aV,if_neg aV,if_neg aV,if_pos rfl,hfil];simp only;rw[if_pos aKK,if_pos aE7];have hN:ns.take i++[⟨n.path,m.file,0⟩]=ns.take (i+1):=by rw[htk,hmf];have h9:=hm0 aD;obtain⟨p,f,m⟩:=n;simp only at h9;rw[h9]
 rw[hN];unfold ER;simp only;rw[if_pos (hroom k hr1 aD)]
end
theorem Z81 {P:Prop} (h:P:=by refine⟨wa,_::Ra,h3.perm lZ.symm,fun Y' W' h=>⟨bs,h1,h4 (_::Y') W' (h.perm lZ)⟩⟩):P:=h
theorem Sep.XL {w0 w:World} {As:List aZ} (h:Sep w0 w As) (e:TypeId) (sz:Nat):Sep w0 (w.alloc (.cells #[] e)) (.sl e sz (sV w.heap.size 0 0) 0 []::As):=by have hown:=World.ownsRow_lit (base:=0) (e:=e) (size:=sz) w #[] 0 (gI _) (gI _) bL;exact Z32
theorem M0 {w:World} {v:Value} {ns:List TN} (h:Rd w 3 v ns.length (cZ ns)) (hl:ns.length<=300):
  Calls Tryz.prog 133 #[v] w fun e w'=>∃v',e= .returned v'/\Sep w w' [.sl 68 3 v' ns.length (cZ ns)]:=by
 obtain⟨i0,JY,hz0,hz1,hz2⟩:=info_parts ahR;obtain⟨A,c,rfl,_⟩:=h.shape;have h':=Lh h;have re:=fun(W:World) (a:Option Addr) (n c:Nat)=>Lib.run_eql_slice_nil (P:=Tryz.prog) W 22 68 a n c 0 0 Tryz.underlying22
 cases A with
 |none=>
  have h0:ns=[]:=by
   rcases xW ns.length with h0|h0
   ·exact vL h0
   obtain⟨_,A,c',e,_,_,h3⟩:=h;cases e;obtain⟨ad,e,_⟩:=h3 h0;cases e
  clear h;subst h0;go_enter Tryz.func133,Tryz.ntmps133;go_wp2_with fail;go_ret;exact⟨_,rfl,(Sep.nil w).iO _ _⟩
 |some ad=>clear h;have hS:=Lh ((Sep.nil w).XL 68 3);go_enter Tryz.func133,Tryz.ntmps133;go_wp2_with(at_builtin;refine dH 0 rfl _ _ 22 rfl 68 i0 _ 3 32 Tryz.underlying22 JY hz0 hz1 hz2 rfl aV hS.out _ 0 [] rfl rfl (.slice (some ad) ns.length c) ns.length (cZ ns) rfl (h'.out.below hS.out.below) (fun u hu=>MX ns u hu) vQ aD ?_);intro v' w' hS2 hsz;(have dX:Sep w w' [.sl 68 3 v' ns.length (cZ ns)]:=by simpa using hS2);have vC:=Lh dX;clear hS2 dX hS hsz;go_wp2_with fail;go_ret;exact⟨v',rfl,vC.out⟩
theorem M3 {w:World} {v:Value} {bs:List UInt8} (h:Rd w 1 v bs.length (bs.map kT)) (hl:bs.length<=1048576):
  Calls Tryz.prog 137 #[v] w fun e w'=>∃v',e= .returned v'/\Sep w w' [aI v' bs]:=by
 obtain⟨i0,JY,hz0,hz1,hz2⟩:=info_parts ahQ;obtain⟨A,c,rfl,_⟩:=h.shape;have h':=Lh h;have re:=fun(W:World) (a:Option Addr) (n c:Nat)=>Lib.run_eql_slice_nil (P:=Tryz.prog) W 69 5 a n c 0 0 Tryz.underlying69
 cases A with
 |none=>
  have h0:bs=[]:=by
   rcases xW bs.length with h0|h0
   ·exact vL h0
   obtain⟨_,A,c',e,_,_,h3⟩:=h;cases e;obtain⟨ad,e,_⟩:=h3 h0;cases e
  clear h;subst h0;go_enter Tryz.func137,Tryz.ntmps137;go_wp2_with fail;go_ret;exact⟨_,rfl,(Sep.nil w).iO _ _⟩
 |some ad=>clear h;have hS:=Lh ((Sep.nil w).XL 5 1);go_enter Tryz.func137,Tryz.ntmps137;go_wp2_with(at_builtin;refine dH 0 rfl _ _ 69 rfl 5 i0 _ 1 1 Tryz.underlying69 JY hz0 hz1 hz2 rfl aV hS.out _ 0 [] rfl rfl (.slice (some ad) bs.length c) bs.length (bs.map kT) rfl (h'.out.below hS.out.below) rM vQ aD ?_);intro v' w' hS2 hsz;(have dX:Sep w w' [aI v' bs]:=by simpa[aI]using hS2);have vC:=Lh dX;clear hS2 dX hS hsz;go_wp2_with fail;go_ret;exact⟨v',rfl,vC.out⟩
end Go.Proofs.YtmjomdkleikgbaaGreat
