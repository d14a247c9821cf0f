/- Parts. -/
import Derived.Test.YtmjomdkleikgbaaGreatJ32
set_option linter.unusedVariables false
set_option linter.unusedSimpArgs false
set_option maxRecDepth 100000
set_option maxHeartbeats 20000000
namespace Go.Proofs
open Go.Shelf
def Tryz.insNodes_ren :Go.Shelf.Ren:=⟨fun|20=>205|n=>n,fun|24=>68|22=>22|3=>3|25=>186|4=>4|0=>0|n=>n,fun|n=>n⟩
theorem Tryz.insNodes :Go.Proofs.SlLaysF0.n20 Tryz.prog Tryz.insNodes_ren:= {
 mixed:=by kernel_rfl
 f20:=⟨Tryz.f205.name,by decide,Tryz.func205.trans (congrArg some (by kernel_rfl))⟩
 t0:=Tryz.underlying0
 a0:=Tryz.isAgg0
 z0:=Tryz.sizeOf0
 v0:=Tryz.zeroValue0
 t3:=Tryz.underlying3
 a3:=Tryz.isAgg3
 z3:=Tryz.sizeOf3
 v3:=Tryz.zeroValue3
 t4:=Tryz.underlying4
 a4:=Tryz.isAgg4
 z4:=Tryz.sizeOf4
 v4:=Tryz.zeroValue4
 t22:=Tryz.underlying22
 a22:=Tryz.isAgg22
 z22:=Tryz.sizeOf22
 v22:=Tryz.zeroValue22
 t25:=Tryz.underlying186
 a25:=Tryz.isAgg186
 z25:=Tryz.sizeOf186
 v25:=Tryz.zeroValue186}
def Tryz.strCompare_ren :Go.Shelf.Ren:=⟨fun|106=>136|213=>181|265=>207|n=>n,fun|9=>9|3=>3|n=>n,fun|n=>n⟩
theorem Tryz.strCompare :Go.Proofs.Lays.n106 Tryz.prog Tryz.strCompare_ren:= {
 mixed:=by kernel_rfl
 f106:=Tryz.func136.trans (congrArg some (by kernel_rfl))
 f213:=Tryz.func181.trans (congrArg some (by kernel_rfl))
 f265:=Tryz.func207.trans (congrArg some (by kernel_rfl))
 t3:=Tryz.underlying3
 a3:=Tryz.isAgg3
 z3:=Tryz.sizeOf3
 v3:=Tryz.zeroValue3
 t9:=Tryz.underlying9
 a9:=Tryz.isAgg9
 z9:=Tryz.sizeOf9
 v9:=Tryz.zeroValue9}
end Go.Proofs
namespace Go.Proofs.YtmjomdkleikgbaaGreat
open Go.RowKit Go.Sort
instance :Inhabited TN:=⟨⟨[],0,0⟩⟩
theorem acW :∀a b:List UInt8,decide (Lib.compareBytes a b<0)=Op.bytesLess a b
 |[],[]=>rfl
 |[],_::_=>rfl
 |_::_,[]=>rfl
 |a::l,b::m=>by
  unfold Lib.compareBytes Op.bytesLess;by_cases h1:a<b
  ·rw[if_pos h1];simp[h1]
  rw[if_neg h1];by_cases h2:b<a
  ·rw[if_pos h2];(have:a≠b:=fun e=>by subst e;exact h1 h2);simp[h1,this]
  rw[if_neg h2];(have:a=b:=by apply UInt8.toNat_inj.1;rw[UInt8.lt_iff_toNat_lt]at h1 h2;omega);subst this;rw[acW l m];simp
def cfN (x y:TN):Int:=Lib.compareBytes x.path y.path
theorem ltN (x y:TN):Go.Proofs.ltOf cfN x y=Op.bytesLess x.path y.path:=acW _ _
theorem aHD :SWO (Go.Proofs.ltOf cfN):=by
 refine⟨fun x=>by rw[ltN];exact lZ _,fun x y z h1 h2=>?_,fun x y z h1 h2=>?_⟩
 ·rw[ltN]at*;exact pO h1 h2
 rw[ltN]at*;cases h3:Op.bytesLess x.path z.path with
 |false=>rfl
 |true=>
  by_cases e:x.path=y.path
  ·rw[e,h2]at h3;cases h3
  have h4:=QD h1 e;rw[pO h4 h3]at h2;cases h2
theorem af7 (w:World):(isAgg 68).run Tryz.prog w= .ok true w:=by kernel_rfl
theorem acX (w:World):(Go.sizeOf 68).run Tryz.prog w= .ok 3 w:=by kernel_rfl
theorem aqK (x y:TN) (W:World):Calls Tryz.prog 135 #[.agg #[aC x.path,iV x.file,iV x.mode],.agg #[aC y.path,iV y.file,iV y.mode]] W fun e w'=>e= .returned (iV (cfN x y))/\∃q os',w'=grow (W.drewN q) os':=by
 have hc:=fun W=>Go.Proofs.Any.strings_Compare Go.Proofs.Tryz.strCompare ⟨x.path.toArray⟩ ⟨y.path.toArray⟩ W
 unfold aC at*;go_enter Tryz.func135,Tryz.ntmps135;go_wp2_with(go_at_call 136;refine(hc _).mono ?_;rintro e w' ⟨rfl,hw⟩;(have hw':=hw.symm);subst hw');go_ret;exact⟨rfl,0,_,by rw[alloc_eq_grow,alloc_eq_grow,grow_grow];rfl⟩
def wG (v:Value) (d:Array TN):aV:=.sl 68 3 v d.size (dG d.toList)
theorem auC {w0 w:World} {R:List aV} {g cap a b:Nat} {d:Array TN} (h:Sep w0 w (wG (sV g d.size cap) d::R)) (hd:d.size<=5000) (hab:a<=b) (hb:b<=d.size) (hpos:0<d.size):
  Calls Tryz.prog 205 #[sV g d.size cap,iV a,iV b,.func (.func 135) #[] #[]] w fun e w'=>e= .returned (.tuple #[])/\∃d',PermIn a b d d'/\SortedIn (Go.Proofs.ltOf cfN) a b d'/\Sep w0 w' (wG (sV g d'.size cap) d'::R):=by
 obtain⟨g',c',e,_,hg,hc1,hc2⟩:=h.jX 0 rfl hpos;cases e;have hk:∀x:TN,(K6 x).length=3:=fun _=>rfl
 have h1:∀x:TN,∀v∈K6 x,v.oneCell'=true:=fun x v hv=>by simp only[K6,jU,DF,or_false]at hv;rcases hv with rfl|rfl|rfl<;>rfl
 have hH:HoldsK K6 3 w g 0 d:=fun j hj=>by rw[I6];(have hj':j<d.size*3:=by simpa using hj);refine⟨?_,h.frozenAt 0 rfl j⟩;rw[h.cellAt 0 rfl j aI];(show(dG d.toList)[j]? =_);unfold dG;rw[<-xV hk aR d,getElem!_pos _ j hj];simp at hj ⊢
 have eg:∀args w,(callFunc 135 args).run Tryz.prog w= .ok (.enter 135 args) w:=Go.Proofs.enters_of Tryz.func135 fT rfl;have hcon:=Go.Proofs.AnyQ.insertionSortCmpFunc Go.Proofs.Tryz.insNodes 3 af7 acX K6 hk h1 cfN 135 #[] g 0 cap a b d w eg (fun _ _ _ _ x y=>aqK x y _) hH hg hab hb aI;change Calls Tryz.prog 205 _ _ _ at hcon;refine hcon.mono ?_;rintro e w' ⟨rfl,n,os,rfl⟩;obtain⟨p1,p2⟩:=insertionSort_holds aHD d a b hab hb;refine⟨rfl,_,p1,p2,?_⟩;have h5:=h.ahH 0 rfl n (flatK K6 3 (Go.Sort.insertionSort (Go.Proofs.ltOf cfN) d a b)) (by simp[p1.1]) os;rw[xV hk aR]at h5;unfold wG;rw[p1.1];exact h5
theorem auD {w:World} {A:Option Addr} {cap:Nat}:Calls Tryz.prog 205 #[.slice A 0 cap,iV 0,iV 0,.func (.func 135) #[] #[]] w fun e w'=>e= .returned (.tuple #[])/\w'=w:=by have hcon:=Go.Proofs.AnyF.insertionSortCmpFunc_none (P:=Tryz.prog) Go.Proofs.Tryz.insNodes A cap (.func (.func 135) #[] #[]) w;exact hcon
theorem YL {w0 w:World} {R:List aV} {v:Value} {d:Array TN} (h:Sep w0 w (wG v d::R)) (hd:d.size<20):
  Calls Tryz.prog 134 #[v,.func (.func 135) #[] #[]] w fun e w'=>e= .returned (.tuple #[])/\∃d',PermIn 0 d.size d d'/\SortedIn (Go.Proofs.ltOf cfN) 0 d.size d'/\Sep w0 w' (wG v d'::R):=by
 have hin:∃A c,v= .slice A d.size c/\Hid (∀W,Sep w0 W (wG v d::R)->Calls Tryz.prog 205 #[.slice A d.size c,iV 0,iV d.size,.func (.func 135) #[] #[]] W fun e w'=>e= .returned (.tuple #[])/\∃d',PermIn 0 d.size d d'/\SortedIn (Go.Proofs.ltOf cfN) 0 d.size d'/\Sep w0 w' (wG v d'::R)):=by
  rcases xN d.size with h0|hpos
  ·obtain⟨A,c,rfl,_⟩:=h.gT 0 rfl;refine⟨A,c,rfl,Lh fun W hW=>?_⟩;rw[h0]at hW ⊢;refine(auD (w:=W) (A:=A) (cap:=c)).mono ?_;rintro e w' ⟨rfl,rfl⟩;exact⟨rfl,d,permIn_refl _ _ _,fun i j _ _ hj=>by omega,hW⟩
  obtain⟨g,c,rfl,_⟩:=h.jX 0 rfl hpos;refine⟨_,c,rfl,Lh fun W hW=>?_⟩;refine(auC hW aI (fZ _) (iU _) hpos).mono ?_;rintro e w' ⟨rfl,d',h1,h2,h3⟩;refine⟨rfl,d',h1,h2,?_⟩;rw[h1.1]at h3;exact h3
 obtain⟨A,c,rfl,hin⟩:=hin;have hS:=Lh h;have q1:(d.size:Int)<20:=by omega
 have q0:(0:Int)<=(d.size:Int):=by omega
 obtain⟨n,hn⟩:∃n,n=d.size:=⟨_,rfl⟩;rw[<-hn]at q1 q0 hin ⊢;have hst:Hid (∀W,Sep w0 W (wG (.slice A n c) d::R)->Calls Tryz.prog 180 #[.slice A n c,iV n,.func (.func 135) #[] #[]] W fun e w'=>e= .returned (.tuple #[])/\∃d',PermIn 0 n d d'/\SortedIn (Go.Proofs.ltOf cfN) 0 n d'/\Sep w0 w' (wG (.slice A n c) d'::R)):=Lh fun W hW=>by
  have hi:=Lh (hin.out W hW);clear hin hS h hW hn;go_enter Tryz.func180,Tryz.ntmps180;go_wp2_with fail;refine wp_loop_rounds 1 ?_;rw[rounds_succ];go_wp2_with(go_at_call 205;refine hi.out.mono ?_;rintro e w1 ⟨rfl,d',h1,h2,h3⟩;(have h4:=Lh h1);(have h5:=Lh h2);(have h6:=Lh h3);clear h1 h2 h3);refine wp_loop_rounds 1 ?_;rw[rounds_succ];go_wp2_with fail
  go_end0
  exact⟨rfl,d',h4.out,h5.out,h6.out⟩
 have hs2:=Lh (hst.out w (by rw[hn];exact h));clear hst hin hS h hn;go_enter Tryz.func134,Tryz.ntmps134;go_wp2_with(go_at_call 180;refine hs2.out.mono ?_;rintro e w1 ⟨rfl,d',h1,h2,h3⟩;(have h4:=Lh h1);(have h5:=Lh h2);(have h6:=Lh h3);clear h1 h2 h3)
 go_end0
 exact⟨rfl,d',h4.out,h5.out,h6.out⟩
end Go.Proofs.YtmjomdkleikgbaaGreat
namespace Go.Proofs.YtmjomdkleikgbaaGreat
open Go.RowKit Go.Shelf
theorem Below.new (w:World) (o:Obj):Below w.heap.size w (w.alloc o):=(Below.refl _ _).alloc (iU _) o
theorem acY (m:Int) (w:World):Calls Tryz.prog 106 #[iV m] w fun e w'=>e= .returned (.bool (decide (0<=m)&&decide (m<=511)))/\w'=w:=by
 by_cases h:0<=m
 ·go_enter Tryz.func106,Tryz.ntmps106;go_wp2_with fail;go_ret;exact⟨by simp[h],rfl⟩
 have h2:m<0:=by omega
 have e1:decide (0<=m)=false:=by simpa using h2
 rw[e1];clear e1;go_enter Tryz.func106,Tryz.ntmps106;go_wp2_with fail;go_ret;exact⟨rfl,rfl⟩
theorem eY :Maps.Keyed Tryz.prog 9:=Maps.string_keyed Tryz.underlying9
theorem eP (p:List UInt8) (h:p.length<=maxLen):keyOf Tryz.prog 9 (aC p)=some (.string p):=by rw[keyOf_string Tryz.underlying9];simp[mapKey,Tryz.underlying9,aC,ByteArray.size,h]
theorem oQ (w:World):(zeroValue 3).run Tryz.prog w= .ok (.int .i64 0) w:=by kernel_rfl
theorem alP (p:List UInt8):mH p<=p.length:=by
 unfold mH;rcases Lib.lastIndexByte_spec ⟨p.toArray⟩ 47 with⟨h,_⟩|⟨i,hi,h,_⟩
 ·rw[h];omega
 have hi':i<p.length:=hi;rw[h];omega
theorem acZ (p:List UInt8):(bA p).length<=p.length:=by
 unfold bA;split
 ·rw[qQ];omega
 simp
theorem QT {p:List UInt8} (h:p.length<=9223372036854775807) (w:World):Calls Tryz.prog 105 #[aC p] w fun e w'=>e= .returned (aC (bA p))/\Below w.heap.size w w':=by
 have hv:=sM ⟨p.toArray⟩ w (by rw[iK];omega);rw[sK]at hv;cases hval:aU p with
 |false=>rw[hval]at hv;(have e:bA p=[]:=by unfold bA;rw[hval];rfl);rw[e];clear e;unfold aC at*;go_enter Tryz.func105,Tryz.ntmps105;go_wp2_with(go_at_call 104;refine hv.mono ?_;rintro e w1 ⟨rfl,hb⟩);go_ret;exact⟨rfl,hb⟩
 |true=>rw[hval]at hv;have h:=dD hval;(have hl:=fun W=>Go.Proofs.Any.strings_LastIndexByte Go.Proofs.Tryz.lastIndexByte ⟨p.toArray⟩ 47 (by rw[iK];omega) W);(have e:bA p=p.take (mH p):=by unfold bA;rw[hval];rfl);rw[e];clear e;have hle:=alP p;unfold mH at*;generalize hlx:Lib.lastIndexByte ⟨p.toArray⟩ 47=x at hl hle ⊢;(have hl':∀W,Calls Tryz.prog 171 #[aC p,.int .u8 47] W fun e w'=>e= .returned (iV x)/\w'=W:=by intro W;exact hl W);clear hl hlx;unfold aC at*;(have hx1:max 0 x<=(p.length:Int):=by omega);(have hx2:0<=max 0 x:=by omega);clear hle;go_enter Tryz.func105,Tryz.ntmps105;go_wp2_with(first |(go_at_call 104;refine hv.mono ?_;rintro e w1 ⟨rfl,hb⟩)|(go_at_call 171;refine(hl' _).mono ?_;rintro e w2 ⟨rfl,hw2⟩;have hw3:=hw2.symm;clear hw2;subst hw3));go_ret;refine⟨?_,hb⟩;rw[H6];rfl
theorem alQ {n:Nat} (h:n<=9223372036854775807) (m:Int) (A:Option Addr) (c:Nat) (w:World):Calls Tryz.prog 170 #[.agg #[iV m,.slice A n c]] w fun e w'=>e= .returned (.bool (decide (8192<n)))/\Below w.heap.size w w':=by
 have hb:=Lh (Below.new w (.cells #[iV m,.slice A n c] 71));have b1:decide ((8192:Int)<(n:Int))=decide (8192<n):=by simp;omega
 go_enter Tryz.func170,Tryz.ntmps170;go_wp2_with fail;go_ret;refine⟨?_,hb.out⟩;first |rfl|(rw[b1])
theorem ac0 {w:World} {nv fv:Value} {ns:List TN} {fs:List TF} {vs:List Value} (h:iR w nv fv ns fs vs) (hf:fs.length<=300) (hs:∀f∈fs,f.size<=9223372036854775807):
  Calls Tryz.prog 190 #[fv,.func (.func 170) #[] #[]] w fun e w'=>(∃r:Int,e= .returned (iV r)/\decide (0<=r)=fs.any JY)/\Below w.heap.size w w':=by
 rcases xN fs.length with h0|h0
 ·obtain⟨A,c,rfl,_⟩:=h.files.shape;have hb:=Lh (Below.refl w.heap.size w);have e0:fs=[]:=uR h0;subst e0;clear h hf h0;go_enter Tryz.func190,Tryz.ntmps190;go_wp2_with fail;refine wp_loop_rounds 1 ?_;rw[rounds_succ];go_wp2_with fail;go_ret;exact⟨⟨_,rfl,rfl⟩,hb.out⟩
 obtain⟨g,o,c,rfl,hc,hcm,hg,hcell⟩:=h.files.place h0 aR;have hcell':=Lh hcell;have h':=Lh h;have hs':=Lh hs;have b1:(fs.length:Int)<=300:=by omega
 clear hcell h hs;go_enter Tryz.func190,Tryz.ntmps190;go_wp2_with fail;go_loopw[8] (fun iv wr=>∃k:Nat,k<=fs.length/\iv=iV k/\Hid (∀j f,j<k->fs[j]? =some f->JY f=false)/\Below w.heap.size w wr) (fun iv _=>fs.length-(intOf iv).toNat)
 case atStart=>exact⟨0,fZ _,rfl,(fun j f hj=>by omega),Below.refl _ _⟩
 obtain⟨k,hk,rfl,hno,hb⟩:=hrel;have q1:(0:Int)<=(k:Int):=by omega
 have hb':=Lh hb;by_cases hlt:k<fs.length
 ·(have q2:(k:Int)<(fs.length:Int):=by omega);obtain⟨f,he⟩:∃f,fs[k]? =some f:=⟨_,gE hlt⟩;obtain⟨u,hu⟩:∃u,vs[k]? =some u:=⟨_,gE (by rw[h'.out.len];exact hlt)⟩;obtain⟨A,c9,rfl,_⟩:=(h'.out.data k u f hu he).shape;have c0:=(hcell'.out wr hb (k*2) aI).trans (fM he hu 0 aI);have c1:=(hcell'.out wr hb (k*2+1) aI).trans (fM he hu 1 aI);simp only[tfC,gB,gC,<-vX]at c0 c1;(have hone:=fun W=>alQ (hs'.out f (gG he)) f.mode A c9 W);have he':=Lh he;have hbg:JY f=decide (8192<f.size):=rfl;rw[<-hbg]at hone;have hone':=Lh hone;clear hone he hu hb hbg;generalize hbf:JY f=bf at hone';have aBY:=Lh hbf;clear hbf;cases bf with
  |true=>go_wp2_with(go_at_call 170;refine(hone'.out _).mono ?_;rintro e w2 ⟨rfl,hb2⟩;have hb3:=Lh (hb'.out.trans (hb2.mono hb'.out.size));clear hb2);go_ret;exact⟨⟨_,rfl,by rw[show decide (0<=(k:Int))=true by simp];exact(List.any_eq_true.2 ⟨f,gG he'.out,aBY.out⟩).symm⟩,hb3.out⟩
  |false=>
   go_wp2_with(go_at_call 170;refine(hone'.out _).mono ?_;rintro e w2 ⟨rfl,hb2⟩;have hb3:=Lh (hb'.out.trans (hb2.mono hb'.out.size));clear hb2);go_roundw
   case rel=>
    refine⟨k+1,by omega,by go_num,fun j g hj hg=>?_,hb3.out⟩;by_cases hjk:j=k
    ·subst hjk;have e1:=hg.symm.trans he'.out;cases e1;exact aBY.out
    exact hno.out j g aI hg
   case measure=>simp[intOf];omega
 obtain rfl:k=fs.length:=by omega
 have hall:fs.any JY=false:=by rw[ahB];intro f hf;obtain⟨j,hj⟩:=List.mem_iff_getElem?.1 hf;rw[hno.out j f (gF.1 hj).1 hj];simp
 have aBZ:=Lh hall;clear hb hall hno;go_wp2_with fail;go_ret;exact⟨⟨_,rfl,by rw[aBZ.out];rfl⟩,hb'.out⟩
theorem SV {w:World} {nv fv:Value} {ns:List TN} {fs:List TF} {vs:List Value} (h:iR w nv fv ns fs vs) (hf:fs.length<=300) (hs:∀f∈fs,f.size<=9223372036854775807):
  Calls Tryz.prog 169 #[fv,.func (.func 170) #[] #[]] w fun e w'=>e= .returned (.bool (fs.any JY))/\Below w.heap.size w w':=by
 have hi:=Lh (ac0 h hf hs);obtain⟨A,c,rfl,_⟩:=h.files.shape;go_enter Tryz.func169,Tryz.ntmps169;go_wp2_with(go_at_call 190;refine hi.out.mono ?_;rintro e w' ⟨⟨r,rfl,hr⟩,hb⟩);go_ret;refine⟨?_,hb⟩;rw[<-hr];rfl
theorem VQ {w:World} {nv fv:Value} {ns:List TN} {fs:List TF} {vs:List Value} (h:iR w nv fv ns fs vs) (hm:wD ns fs):
  Calls Tryz.prog 103 #[.agg #[nv,fv]] w fun e w'=>e= .returned (.bool (lJ ns fs))/\Below w.heap.size w w':=by
 have hb0:=Below.new w (.cells #[nv,fv] 25);have hi:=Lh (SV (h.below hb0) hm.JX hm.size);have II:=Lh hb0;obtain⟨A,c,rfl,_⟩:=h.files.shape;obtain⟨A2,c2,rfl,_⟩:=h.nodes.shape;have hf:=hm.few;have hf2:=hm.JX;clear h hm hb0;unfold lJ;by_cases g1:256<ns.length
 ·(have b1:(256:Int)<(ns.length:Int):=by omega);rw[decide_eq_true g1,ND,ND];go_enter Tryz.func103,Tryz.ntmps103;go_wp2_with fail;go_ret;exact⟨rfl,II.out⟩
 have b1:¬(256:Int)<(ns.length:Int):=by omega
 by_cases g2:256<fs.length
 ·(have b2:(256:Int)<(fs.length:Int):=by omega);rw[decide_eq_true g2,Bool.or_true,ND];go_enter Tryz.func103,Tryz.ntmps103;go_wp2_with fail;go_ret;exact⟨rfl,II.out⟩
 have b2:¬(256:Int)<(fs.length:Int):=by omega
 rw[decide_eq_false g1,decide_eq_false g2,MZ,MZ];go_enter Tryz.func103,Tryz.ntmps103;go_wp2_with(first |(go_at_call 169;refine hi.out.mono ?_;rintro e w' ⟨rfl,hb⟩)|fail);go_ret;exact⟨rfl,II.out.trans (hb.mono II.out.size)⟩
def sJ (L:List (Lit×Value)) (pre:List TN):Prop:=∀p:List UInt8,(getM L (.string p)).getD (.int .i64 0)= .int .i64 (pM pre p)
theorem ac1 :sJ [(.string [],.int .i64 1)] []:=by
 intro p;unfold pM;by_cases e:p=[]
 ·subst e;rfl
 have:getM [(Lit.string [],Value.int .i64 1)] (.string p)=none:=by simp[getM,Lit.sameKey];first |exact fun h=>e h.symm|exact fun h=>e h|exact e
 rw[this,if_neg e];rfl
theorem alR {L:List (Lit×Value)} {pre:List TN} (h:sJ L pre) {n:TN} (hn:n.file= -1):sJ (p8 (p8 L (.string n.path) (.int .i64 2)) (.string n.path) (.int .i64 1)) (pre++[n]):=by
 intro p;rw[BK (by simp[WideAt.IsKeyLit]) _ _ (by simp[WideAt.IsKeyLit]),uI];by_cases e:n.path=p
 ·subst e;rw[if_pos (by simp[Lit.sameKey]),if_pos rfl,if_pos hn];rfl
 rw[if_neg (by simp[Lit.sameKey];exact fun h=>e h.symm),if_neg e,BK (by simp[WideAt.IsKeyLit]) _ _ (by simp[WideAt.IsKeyLit]),if_neg (by simp[Lit.sameKey];exact fun h=>e h.symm)];exact h p
theorem QU {L:List (Lit×Value)} {pre:List TN} (h:sJ L pre) {n:TN} (hn:n.file≠ -1):sJ (p8 L (.string n.path) (.int .i64 2)) (pre++[n]):=by
 intro p;rw[BK (by simp[WideAt.IsKeyLit]) _ _ (by simp[WideAt.IsKeyLit]),uI];by_cases e:n.path=p
 ·subst e;rw[if_pos (by simp[Lit.sameKey]),if_pos rfl,if_neg hn];rfl
 rw[if_neg (by simp[Lit.sameKey];exact fun h=>e h.symm),if_neg e];exact h p
theorem aiI {ns:List TN}:∀i k,runK ns i=some k->k<=i:=by
 intro i
 induction i with
 |zero=>intro k h;cases h;exact iU _
 |succ i ih=>
  intro k h;change (match runK ns i with
   |none=>none
   |some k=>match ns[i]? with
    |none=>some k
    |some n=>if iL (ns.take i) (iD ns i) k n=true then some (gK k n)else none)=some k at h
  cases hr:runK ns i with
  |none=>rw[hr]at h;cases h
  |some k0=>have:=ih k0 hr;exact Z25
theorem VT {ns:List TN} {fs:List TF} (hb:lJ ns fs=false) (h:¬(runK ns ns.length=some fs.length/\fs.all (fun f=>gV f.mode)=true)):gW ns fs=30:=by unfold gW;rw[hb,if_neg aR,if_neg h]
theorem aqL {ns:List TN} {fs:List TF} (hb:lJ ns fs=false) {i k:Nat} {n:TN} (h:runK ns i=some k) (hn:ns[i]? =some n) (ho:iL (ns.take i) (iD ns i) k n=false):gW ns fs=30:=by have h1:=qK h hn;rw[ho,if_neg aR]at h1;have hi:=(gF.1 hn).1;have h2:=U3 h1 (ns.length-(i+1));rw[show i+1+(ns.length-(i+1))=ns.length by omega]at h2;unfold gW;rw[hb,if_neg aR,if_neg (by rw[h2];rintro⟨h,_⟩;cases h)]
theorem Z4 {P:Prop} (h:P:=by go_wp2_with(first |(go_at_call 104;refine(wE.out _).mono ?_;rintro e3 w3 ⟨rfl,hb3⟩;(have qE:=hX.out.pure hb3);(have y0:=qE.bC 0 rfl 0);(have y1:=qE.bC 0 rfl 1);simp only[gA,gB,gC]at y0 y1;(have J3:=Lh qE);clear qE hb3)|(go_at_call 105;refine(LU.out _).mono ?_;rintro e4 w4 ⟨rfl,hb4⟩;(have mY:=J3.out.pure hb4);(have z0:=mY.bC 0 rfl 0);(have z1:=mY.bC 0 rfl 1);(have z2:=mY.bC 0 rfl 2);(have hlk:=mY.qL 1 rfl eY Tryz.underlying157 (oQ _) (eP (bA n.path) alS));rw[hkd.out]at hlk;skip;simp only[gA,gB,gC,aC]at z0 z1 z2 hlk;(have YM:=Lh mY);clear mY hb4 y0 y1));refine wp_goto ?_;exact⟨0,rfl,⟨rfl,rfl,rfl⟩,h30.out hno,YM.out.below⟩):P:=h
theorem Z52 {P:Prop} (h:P:=by go_wp2_with(go_at_call 104;refine(wE.out _).mono ?_;rintro e3 w3 ⟨rfl,hb3⟩;(have qE:=hX.out.pure hb3);(have y0:=qE.bC 0 rfl 0);(have y1:=qE.bC 0 rfl 1);simp only[gA,gB,gC]at y0 y1;(have J3:=Lh qE);clear qE hb3);refine wp_goto ?_;exact⟨0,rfl,⟨rfl,rfl,rfl⟩,h30.out hno,J3.out.below⟩):P:=h
theorem xL {w:World} {nv fv:Value} {ns:List TN} {fs:List TF} {vs:List Value} (h:iR w nv fv ns fs vs) (hm:wD ns fs):
  Calls Tryz.prog 39 #[.agg #[nv,fv]] w fun e w'=>e= .returned (iV (gW ns fs))/\Below w.heap.size w w':=by
 have hS0:=(Sep.nil w).bN 25 #[nv,fv];have hbo:=Lh (VQ (h.below hS0.below) hm);obtain⟨A1,c1,rfl,hm1⟩:=h.nodes.shape;obtain⟨A2,c2,rfl,hm2⟩:=h.files.shape;have rQ:=Lh hS0;have h':=Lh h;have hm':=Lh hm;have hf:=hm.few;have hf2:=hm.JX;have b0:(ns.length:Int)<=300:=by omega
 have b00:(fs.length:Int)<=300:=by omega
 have hmm:= @run_makeMap Tryz.prog;clear h hm hS0;cases hbd:lJ ns fs with
 |true=>rw[hbd]at hbo;(have e0:gW ns fs=31:=by unfold gW;rw[hbd];rfl);rw[e0];clear e0 hbd;go_enter Tryz.func39,Tryz.ntmps39;go_wp2_with fail;refine yO (fun _=>.skip) (fun _ _ _ _=>False) (fun _ _ _ _ h=>h.elim) ?_ (fun _ _ _ _ h=>h.elim);go_wp2_with(go_at_call 103;refine hbo.out.mono ?_;rintro e w1 ⟨rfl,hb1⟩;(have hS1:=Lh (rQ.out.pure hb1));clear hb1);simp only[aaI];go_ret;exact⟨rfl,hS1.out.below⟩
 |false=>
  rw[hbd]at hbo;have WS:=Lh hbd;clear hbd;go_enter Tryz.func39,Tryz.ntmps39;go_wp2_with fail;refine yO (fun _=>?rest) (fun _ l a w'=>l=0/\Fm 94 a []/\gW ns fs=30/\Below w.heap.size w w') ?hf ?first ?pass
  case hf=>rintro m l a w' ⟨rfl,_⟩;rfl
  case pass=>rintro m l a w' ⟨rfl,hF,hL,hB⟩;have hL':=Lh hL;clear hL;obtain⟨f,rfl⟩:=hF.lit (m:=94) rfl;simp only[lits,Nat.reduceAdd,mP];go_wp2_with fail;simp only[aaI];go_ret;exact⟨by rw[hL'.out];rfl,hB⟩
  go_wp2_with(go_at_call 103;refine hbo.out.mono ?_;rintro e w1 ⟨rfl,hb1⟩;(have hS1:=(rQ.out.pure hb1).ac2 9);obtain⟨w2,hmu,hS2⟩:=hS1.pW 0 rfl eY Tryz.underlying157 vE (v:=.int .i64 1) (eP [] bK);(have d0:w2.cell? ⟨w.heap.size,0,none⟩=some (.slice A1 ns.length c1):=by rw[hS2.bC 1 rfl 0];rfl);(have d1:w2.cell? ⟨w.heap.size,1,none⟩=some (.slice A2 fs.length c2):=by rw[hS2.bC 1 rfl 1];rfl);simp only[aC]at hmu;(have ab3:=Lh hS2);clear hS1 hS2 hb1);generalize zO:w1.heap.size=b at ab3 ⊢;clear zO hmu hbo hmm;go_loopw[4,5,17] (fun fl la iv wr=>∃(i k m:Nat) (L:List (Lit×Value)),i<=ns.length/\iv= .int .i64 i/\fl= .int .i64 k/\la=aC (iD ns i)/\m<=2*i+1/\Hid (runK ns i=some k)/\Hid (sJ L (ns.take i))/\Sep w wr [BL 9 b m L,.box w.heap.size 25 #[.slice A1 ns.length c1,.slice A2 fs.length c2]]) (fun _ _ iv _=>ns.length-(intOf iv).toNat)
  case atStart=>exact⟨0,0,1,_,fZ _,rfl,rfl,rfl,by omega,Lh rfl,Lh ac1,ab3.out⟩
  obtain⟨i,k,m,L,hi,rfl,rfl,rfl,hm,hrun,hkk,hS⟩:=hrel;(have q1:(0:Int)<=(i:Int):=by omega);have hki:k<=i:=aiI _ _ hrun.out;by_cases hlt:i<ns.length
  ·(have q2:(i:Int)<(ns.length:Int):=by omega);obtain⟨g,o,c,e,hc,hcm,hg,hcell⟩:=h'.out.nodes.place aI aR;simp only[Value.slice.injEq]at e;obtain⟨rfl,_,rfl⟩:=e;obtain⟨n,he⟩:∃n,ns[i]? =some n:=⟨_,gE hlt⟩;have x0:=(hcell wr hS.below (i*3) aI).trans (dE he 0 aI);have x1:=(hcell wr hS.below (i*3+1) aI).trans (dE he 1 aI);have x2:=(hcell wr hS.below (i*3+2) aI).trans (dE he 2 aI);simp only[K6,aC,gB,gC,<-vX]at x0 x1 x2;have hX:=Lh (hS.bN 68 #[aC n.path,iV n.file,iV n.mode]);have hlen:=hm'.out.short n (gG he);(have hva:=fun W=>sM ⟨n.path.toArray⟩ W (by rw[iK];omega));simp only at hva;(have MK:=fun W=>QT (p:=n.path) aI W);(have hsh:n.path.length<=maxLen:=by unfold maxLen;omega);(have alS:(bA n.path).length<=maxLen:=by have:=acZ n.path;omega);have LU:=Lh MK;(have h30:Hid (iL (ns.take i) (iD ns i) k n=false->gW ns fs=30):=fun ho=>aqL WS.out hrun.out he ho);(have hnx:Hid (iL (ns.take i) (iD ns i) k n=true->runK ns (i+1)=some (gK k n)):=fun ho=>by rw[qK hrun.out he,ho,if_pos rfl]);(have hlast:Hid (iD ns (i+1)=n.path):=by show((ns[i]?).map (·.path)).getD []=_;rw[he];rfl);(have htk:Hid (ns.take (i+1)=ns.take i++[n]):=by show _=_;rw[pX,he];rfl);have hkd:=Lh (hkk.out (bA n.path));clear hS hcell MK he;unfold aC at*;cases hval:aU n.path with
   |false=>rw[hval]at hva;have wE:=Lh hva;(have hno:iL (ns.take i) (iD ns i) k n=false:=by unfold iL;rw[hval];rfl);clear hva hval;exact Z52
   |true=>
    rw[hval]at hva;have wE:=Lh hva;have hval':=Lh hval;clear hva hval;cases hle:afJ n.path (iD ns i)with
    |true=>have hle2:(Op.bytesLess n.path (iD ns i)||n.path==iD ns i)=true:=hle;(have hno:iL (ns.take i) (iD ns i) k n=false:=by unfold iL;rw[hval'.out,hle];rfl);clear hle;exact Z52
    |false=>
     have hle2:(Op.bytesLess n.path (iD ns i)||n.path==iD ns i)=false:=hle;have auE:=Lh hle;clear hle;by_cases hk1:pM (ns.take i) (bA n.path)=1
     case neg=>(have hk2:(pM (ns.take i) (bA n.path)==1)=false:=by simpa using hk1);(have hk3:decide (pM (ns.take i) (bA n.path)=1)=false:=by simpa using hk1);(have hno:iL (ns.take i) (iD ns i) k n=false:=by unfold iL;rw[hval'.out,auE.out,hk3];rfl);clear hk3;exact Z4
     rw[hk1]at hkd;by_cases hf1:n.file< -1
     case pos=>(have hf2:decide (-1<=n.file)=false:=by simp;omega);(have hno:iL (ns.take i) (iD ns i) k n=false:=by unfold iL;rw[hval'.out,auE.out,hk1,hf2];rfl);clear hf2 hk1;exact Z4
     by_cases hf3:(k:Int)<n.file
     case pos=>(have hf2:decide (n.file<=(k:Int))=false:=by simp;omega);(have hno:iL (ns.take i) (iD ns i) k n=false:=by unfold iL;rw[hval'.out,auE.out,hk1,hf2];simp);clear hf2 hk1;exact Z4
     (have hhead:Hid (iL (ns.take i) (iD ns i) k n=if n.file= -1 then gV n.mode else decide (n.mode=0)):=by(show _=_);unfold iL;rw[hval'.out,auE.out,hk1,show decide (-1<=n.file)=true by simp;omega,show decide (n.file<=(k:Int))=true by simp;omega];simp);clear hk1;by_cases hd:n.file= -1
     ·(have hmd:=fun W=>acY n.mode W);have hmo:(decide (0<=n.mode)&&decide (n.mode<=511))=gV n.mode:=rfl;simp only[hmo]at hmd;have hd':=Lh hd;(have hd2:(n.file== -1)=true:=by simpa using hd);clear hd;have hd:=hd';cases hmv:gV n.mode with
      |false=>rw[hmv]at hmd;have YF:=Lh hmd;(have hno:iL (ns.take i) (iD ns i) k n=false:=by rw[hhead.out,if_pos hd.out,hmv]);clear hmd hmv hmo;go_wp2_with(first |(go_at_call 104;refine(wE.out _).mono ?_;rintro e3 w3 ⟨rfl,hb3⟩;(have qE:=hX.out.pure hb3);(have y0:=qE.bC 0 rfl 0);(have y1:=qE.bC 0 rfl 1);simp only[gA,gB,gC]at y0 y1;(have J3:=Lh qE);clear qE hb3)|(go_at_call 105;refine(LU.out _).mono ?_;rintro e4 w4 ⟨rfl,hb4⟩;(have mY:=J3.out.pure hb4);(have z0:=mY.bC 0 rfl 0);(have z1:=mY.bC 0 rfl 1);(have z2:=mY.bC 0 rfl 2);(have hlk:=mY.qL 1 rfl eY Tryz.underlying157 (oQ _) (eP (bA n.path) alS));rw[hkd.out]at hlk;obtain⟨w5,hup,DN⟩:=mY.pW 1 rfl eY Tryz.underlying157 vE (v:=.int .i64 2) (eP n.path hsh);(have u0:=DN.bC 0 rfl 0);(have u1:=DN.bC 0 rfl 1);(have u2:=DN.bC 0 rfl 2);obtain⟨w6,axQ,SY⟩:=DN.pW 1 rfl eY Tryz.underlying157 vE (v:=.int .i64 1) (eP n.path hsh);(have r0:=SY.bC 0 rfl 0);(have r1:=SY.bC 0 rfl 1);(have r2:=SY.bC 0 rfl 2);(have LZ:=Lh SY);clear DN SY;simp only[gA,gB,gC,aC]at z0 z1 z2 u0 u1 u2 r0 r1 r2 hlk hup axQ;(have YM:=Lh mY);clear mY hb4 y0 y1)|(go_at_call 106;refine(YF.out _).mono ?_;rintro e7 w7 ⟨rfl,hw7⟩;subst hw7));refine wp_goto ?_;exact⟨0,rfl,⟨rfl,rfl,rfl⟩,h30.out hno,LZ.out.below⟩
      |true=>
       rw[hmv]at hmd;have YF:=Lh hmd;have DL:=hnx.out (by rw[hhead.out,if_pos hd.out,hmv]);(have hnk:gK k n=k:=by unfold gK;rw[if_neg (by have:=hd.out;omega)]);rw[hnk]at DL;have ac3:=Lh DL;clear hmd hmv hmo DL hnk;go_wp2_with(first |(go_at_call 104;refine(wE.out _).mono ?_;rintro e3 w3 ⟨rfl,hb3⟩;(have qE:=hX.out.pure hb3);(have y0:=qE.bC 0 rfl 0);(have y1:=qE.bC 0 rfl 1);simp only[gA,gB,gC]at y0 y1;(have J3:=Lh qE);clear qE hb3)|(go_at_call 105;refine(LU.out _).mono ?_;rintro e4 w4 ⟨rfl,hb4⟩;(have mY:=J3.out.pure hb4);(have z0:=mY.bC 0 rfl 0);(have z1:=mY.bC 0 rfl 1);(have z2:=mY.bC 0 rfl 2);(have hlk:=mY.qL 1 rfl eY Tryz.underlying157 (oQ _) (eP (bA n.path) alS));rw[hkd.out]at hlk;obtain⟨w5,hup,DN⟩:=mY.pW 1 rfl eY Tryz.underlying157 vE (v:=.int .i64 2) (eP n.path hsh);(have u0:=DN.bC 0 rfl 0);(have u1:=DN.bC 0 rfl 1);(have u2:=DN.bC 0 rfl 2);obtain⟨w6,axQ,SY⟩:=DN.pW 1 rfl eY Tryz.underlying157 vE (v:=.int .i64 1) (eP n.path hsh);(have r0:=SY.bC 0 rfl 0);(have r1:=SY.bC 0 rfl 1);(have r2:=SY.bC 0 rfl 2);(have LZ:=Lh SY);clear DN SY;simp only[gA,gB,gC,aC]at z0 z1 z2 u0 u1 u2 r0 r1 r2 hlk hup axQ;(have YM:=Lh mY);clear mY hb4 y0 y1)|(go_at_call 106;refine(YF.out _).mono ?_;rintro e7 w7 ⟨rfl,hw7⟩;subst hw7));go_roundw
       case rel=>exact⟨i+1,k,m+2,_,by omega,by go_num,rfl,by rw[hlast.out],by omega,ac3,by show sJ _ _;rw[htk.out];exact alR hkk.out hd.out,Sep.drop 1 LZ.out⟩
       case measure=>simp[intOf];omega
     have hd':=Lh hd;(have hd2:(n.file== -1)=false:=by simpa using hd);by_cases hm0:n.mode=0
     case neg=>(have hno:iL (ns.take i) (iD ns i) k n=false:=by rw[hhead.out,if_neg hd];simpa using hm0);(have hm2:(n.mode !=0)=true:=by simpa using hm0);go_wp2_with(first |(go_at_call 104;refine(wE.out _).mono ?_;rintro e3 w3 ⟨rfl,hb3⟩;(have qE:=hX.out.pure hb3);(have y0:=qE.bC 0 rfl 0);(have y1:=qE.bC 0 rfl 1);simp only[gA,gB,gC]at y0 y1;(have J3:=Lh qE);clear qE hb3)|(go_at_call 105;refine(LU.out _).mono ?_;rintro e4 w4 ⟨rfl,hb4⟩;(have mY:=J3.out.pure hb4);(have z0:=mY.bC 0 rfl 0);(have z1:=mY.bC 0 rfl 1);(have z2:=mY.bC 0 rfl 2);(have hlk:=mY.qL 1 rfl eY Tryz.underlying157 (oQ _) (eP (bA n.path) alS));rw[hkd.out]at hlk;obtain⟨w5,hup,DN⟩:=mY.pW 1 rfl eY Tryz.underlying157 vE (v:=.int .i64 2) (eP n.path hsh);(have u0:=DN.bC 0 rfl 0);(have u1:=DN.bC 0 rfl 1);(have u2:=DN.bC 0 rfl 2);(have aqM:=Lh DN);clear DN;simp only[gA,gB,gC,aC]at z0 z1 z2 u0 u1 u2 hlk hup;(have YM:=Lh mY);clear mY hb4 y0 y1));refine wp_goto ?_;exact⟨0,rfl,⟨rfl,rfl,rfl⟩,h30.out hno,aqM.out.below⟩
     (have hm2:(n.mode !=0)=false:=by simp[hm0]);have DL:=hnx.out (by rw[hhead.out,if_neg hd];simpa using hm0);clear hm0;by_cases hfk:n.file=(k:Int)
     ·(have hnk:gK k n=k+1:=by unfold gK;rw[if_pos hfk]);(have aHE:(n.file==(k:Int))=true:=by simpa using hfk);clear hfk;rw[hnk]at DL;have ac3:=Lh DL;have hw1:IntKind.i64.wrap ((k:Int)+1)=(k:Int)+1:=IntWalk.i64_in _ aI;clear DL hnk;go_wp2_with(first |(go_at_call 104;refine(wE.out _).mono ?_;rintro e3 w3 ⟨rfl,hb3⟩;(have qE:=hX.out.pure hb3);(have y0:=qE.bC 0 rfl 0);(have y1:=qE.bC 0 rfl 1);simp only[gA,gB,gC]at y0 y1;(have J3:=Lh qE);clear qE hb3)|(go_at_call 105;refine(LU.out _).mono ?_;rintro e4 w4 ⟨rfl,hb4⟩;(have mY:=J3.out.pure hb4);(have z0:=mY.bC 0 rfl 0);(have z1:=mY.bC 0 rfl 1);(have z2:=mY.bC 0 rfl 2);(have hlk:=mY.qL 1 rfl eY Tryz.underlying157 (oQ _) (eP (bA n.path) alS));rw[hkd.out]at hlk;obtain⟨w5,hup,DN⟩:=mY.pW 1 rfl eY Tryz.underlying157 vE (v:=.int .i64 2) (eP n.path hsh);(have u0:=DN.bC 0 rfl 0);(have u1:=DN.bC 0 rfl 1);(have u2:=DN.bC 0 rfl 2);(have aqM:=Lh DN);clear DN;simp only[gA,gB,gC,aC]at z0 z1 z2 u0 u1 u2 hlk hup;(have YM:=Lh mY);clear mY hb4 y0 y1));go_roundw
      case rel=>exact⟨i+1,k+1,m+1,_,by omega,by go_num,by go_num,by rw[hlast.out],by omega,ac3,by show sJ _ _;rw[htk.out];exact QU hkk.out hd'.out,Sep.drop 1 aqM.out⟩
      case measure=>simp[intOf];omega
     (have hnk:gK k n=k:=by unfold gK;rw[if_neg hfk]);rw[hnk]at DL;have ac3:=Lh DL;(have aHE:(n.file==(k:Int))=false:=by simpa using hfk);clear DL hnk;go_wp2_with(first |(go_at_call 104;refine(wE.out _).mono ?_;rintro e3 w3 ⟨rfl,hb3⟩;(have qE:=hX.out.pure hb3);(have y0:=qE.bC 0 rfl 0);(have y1:=qE.bC 0 rfl 1);simp only[gA,gB,gC]at y0 y1;(have J3:=Lh qE);clear qE hb3)|(go_at_call 105;refine(LU.out _).mono ?_;rintro e4 w4 ⟨rfl,hb4⟩;(have mY:=J3.out.pure hb4);(have z0:=mY.bC 0 rfl 0);(have z1:=mY.bC 0 rfl 1);(have z2:=mY.bC 0 rfl 2);(have hlk:=mY.qL 1 rfl eY Tryz.underlying157 (oQ _) (eP (bA n.path) alS));rw[hkd.out]at hlk;obtain⟨w5,hup,DN⟩:=mY.pW 1 rfl eY Tryz.underlying157 vE (v:=.int .i64 2) (eP n.path hsh);(have u0:=DN.bC 0 rfl 0);(have u1:=DN.bC 0 rfl 1);(have u2:=DN.bC 0 rfl 2);(have aqM:=Lh DN);clear DN;simp only[gA,gB,gC,aC]at z0 z1 z2 u0 u1 u2 hlk hup;(have YM:=Lh mY);clear mY hb4 y0 y1));go_roundw
     case rel=>exact⟨i+1,k,m+1,_,by omega,by go_num,rfl,by rw[hlast.out],by omega,ac3,by show sJ _ _;rw[htk.out];exact QU hkk.out hd'.out,Sep.drop 1 aqM.out⟩
     case measure=>simp[intOf];omega
  (obtain rfl:i=ns.length:=by omega);have t0:=hS.bC 1 rfl 1;simp only[gA,gB,gC]at t0;have FE:=Lh hS;unfold aC at*;clear hS;by_cases hkf:k=fs.length
  case neg=>have hno:=VT WS.out (fun h=>hkf (by have h1:=hrun.out.symm.trans h.1;cases h1;rfl));have hno':=Lh hno;(have hk2:((k:Int) !=(fs.length:Int))=true:=by simp;omega);clear hno;go_wp2_with fail;refine wp_goto ?_;exact⟨0,rfl,⟨rfl,rfl,rfl⟩,hno'.out,FE.out.below⟩
  (have hk2:((k:Int) !=(fs.length:Int))=false:=by simp[hkf]);rw[hkf]at hrun;clear hkf;go_wp2_with fail;go_loopw[85] (fun iv wr2=>∃j:Nat,j<=fs.length/\iv=iV j/\Hid (∀f∈fs.take j,gV f.mode=true)/\Below w.heap.size w wr2) (fun iv _=>fs.length-(intOf iv).toNat)
  case atStart=>exact⟨0,fZ _,rfl,(fun f hf=>by simp at hf),FE.out.below⟩
  obtain⟨j,hj,rfl,hmo,hb⟩:=hrel;(have q1:(0:Int)<=(j:Int):=by omega);have hb':=Lh hb;by_cases hlt:j<fs.length
  ·(have q2:(j:Int)<(fs.length:Int):=by omega);obtain⟨g,o,c,e,hc,hcm,hg,hcell⟩:=h'.out.files.place aI aR;simp only[Value.slice.injEq]at e;obtain⟨rfl,_,rfl⟩:=e;obtain⟨f,he⟩:∃f,fs[j]? =some f:=⟨_,gE hlt⟩;obtain⟨u,hu⟩:∃u,vs[j]? =some u:=⟨_,gE (by rw[h'.out.len];exact hlt)⟩;have c0:=(hcell _ hb (j*2) aI).trans (fM he hu 0 aI);have c1':=(hcell _ hb (j*2+1) aI).trans (fM he hu 1 aI);simp only[tfC,gB,gC,<-vX]at c0 c1';obtain⟨A,c9,rfl,_⟩:=(h'.out.data j u f hu he).shape;(have hmd:=fun W=>acY f.mode W);have aB0:(decide (0<=f.mode)&&decide (f.mode<=511))=gV f.mode:=rfl;simp only[aB0]at hmd;have he':=Lh he;clear hcell he hu hb aB0;cases hmv:gV f.mode with
   |false=>rw[hmv]at hmd;have YF:=Lh hmd;have hno':=Lh (VT WS.out (fun h=>by have:=List.all_eq_true.1 h.2 f (gG he'.out);rw[hmv]at this;cases this));clear hmd hmv;go_wp2_with(go_at_call 106;refine(YF.out _).mono ?_;rintro e3 w3 ⟨rfl,hw3⟩;subst hw3);refine wp_goto ?_;exact⟨0,rfl,⟨rfl,rfl,rfl⟩,hno'.out,hb'.out.alloc hb'.out.size _⟩
   |true=>
    rw[hmv]at hmd;have YF:=Lh hmd;have aHF:Hid (∀g∈fs.take (j+1),gV g.mode=true):=fun g hg=>by
     rw[pX,he'.out]at hg;rcases iM.1 hg with hg|hg
     ·exact hmo.out g hg
     (have:g=f:=by simpa using hg);rw[this];exact hmv
    clear hmd hmv hmo;go_wp2_with(go_at_call 106;refine(YF.out _).mono ?_;rintro e3 w3 ⟨rfl,hw3⟩;subst hw3);exact⟨⟨j+1,by omega,by go_num,aHF,hb'.out.alloc hb'.out.size _⟩,by simp[intOf];omega⟩
  (obtain rfl:j=fs.length:=by omega);have h00:=Lh (atI WS.out hrun.out (List.all_eq_true.2 fun f hf=>hmo.out f (by rw[RI];exact hf)));clear hb hmo;go_wp2_with fail;simp only[aaI];go_ret;exact⟨by rw[h00.out];rfl,hb'.out⟩
end Go.Proofs.YtmjomdkleikgbaaGreat
