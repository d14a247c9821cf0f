/- FwK, FvR, laid together. -/
import Derived.Test.YteihmbaimbogaaaGreatJ33
import Derived.Test.YteihmbaimbogaaaGreatJ35
namespace Go.Proofs.YteihmbaimbogaaaGreat
open Go.RowKit
set_option linter.unusedVariables false
set_option linter.unusedSimpArgs false
def FP :List UInt8:=[115,104,117,110,116,45,118,111,108,117,109,101,45,49,33,10]
def jZ (names:Nat):List UInt8:=bW (bW bB 0 FP) 16 (w2 names)
theorem JJ (names:Nat):(jZ names).length=512:=by
 unfold jZ;have h:(bW bB 0 FP).length=512:=by rw[dL]<;>rw[dP];decide
 rw[dL (by rw[h,nV];decide),h]
def VS.raw (n names:Nat):VS:=⟨n,names,DK.made n,(DK.made n).now.drop 96,0,0,0,0,0,0⟩
def VS.laid (n names:Nat):VS:=(((VS.raw n names).put 0 (jZ names)).put 1 (jB (bk ((VS.raw n names).put 0 (jZ names)).cur 1) 0)).keep 0 ⟨1,0,0,0,[0]⟩
def VS.new (n names:Nat):VS:= {(VS.laid n names).settled with rB:=(VS.laid n names).count,rI:=names}
theorem TM :∀args w,(callFunc 83 args).run Tryz.prog w= .ok (.enter 83 args) w:=Go.Proofs.enters_of Tryz.func83 (by kernel_rfl) rfl
theorem abN {w:World} {be bl:Nat} {u:FrameMode} (hc:w.cell? ⟨be,0,none⟩=some (.int .i64 0)):
  CallsD Tryz.prog 83 #[.pointer (some ⟨be,0,none⟩),.pointer (some ⟨bl,0,none⟩)] u w fun e u' w'=>u'=u∧e= .returned (.tuple #[])∧w'=w:=by
 refine(callsD_of_wp (R:=fun e w'=>e= .returned (.tuple #[])∧w'=w) Tryz.func83 rfl ?_).mono ?_
 ·simp only[Tryz.ntmps83,List.size_toArray,List.length_cons,List.length_nil,Nat.reduceAdd,Nat.reduceSub,Array.replicate_succ,Array.replicate_zero,List.push_toArray,List.append_toArray,List.nil_append,List.cons_append];go_wp2_with fail
  go_end0
  exact⟨rfl,rfl⟩
 rintro e u' w' ⟨h1,h2,h3⟩;exact⟨h1,h2,h3⟩
theorem O8 {n:Nat} (h0:1≤n) (h1:n≤4096):(DK.made n).ok n:=
 ⟨(tV n).set 0 (lM (ps:=[]) (by decide)),(tV n).set 0 (lM (ps:=[]) (by decide)),h1,h0,fun x hx=>absurd hx List.not_mem_nil,by show(-1:Int)≤ -1∧(-1:Int)≤9223372036854775807;omega⟩
theorem aj3 {n i:Nat} (h:i<n) (h0:0<i):bk (DK.made n).now i=bB:=by unfold DK.made;simp only;rw[bR _ _ (by omega),afX h]
theorem afY {n names fb:Nat} (h0:98+(names+7)/8<n) (h1:n≤4096):VC (VS.raw n names) ⟨none,[],fb,[]⟩:=
 ⟨O8 (n:=n) (by omega) h1,by show 96<n;omega,rfl,(O8 (n:=n) (by omega) h1).now.drop 96,fun x hx=>absurd hx List.not_mem_nil,fun x hx=>absurd hx List.not_mem_nil,fun k _ _=>wU _ _ _,Nat.le_refl _,fun _=>rfl⟩
theorem afZ {n names:Nat} (h0:98+(names+7)/8<n) (h3:names≤1024):VF (VS.raw n names):=⟨h3,by show 96+(2+(names+7)/8)<n;omega⟩
theorem af2 {D:DK} (x:oJ) (ho:D.off=false) (hl:D.left<0):(D.act x).off=false∧(D.act x).left=D.left:=by
 cases x with
 |none=>(show(DK.step _).off=_∧(DK.step _).left=_);unfold DK.step;rw[if_neg (by simp only;omega)];exact⟨ho,rfl⟩
 |some x=>(show(DK.step _).off=_∧(DK.step _).left=_);unfold DK.step;rw[if_neg (by simp only;omega)];exact⟨ho,rfl⟩
theorem M0 :∀(l:List oJ) {D:DK},D.off=false→D.left<0→(iY l D).2=true∧(iY l D).1.off=false∧(iY l D).1.left=D.left
 |[],D,ho,_=>⟨rfl,ho,rfl⟩
 |x::l,D,ho,hl=>by obtain⟨h1,h2⟩:=af2 x ho hl;rw[iY,if_neg (by rw[ho];decide)];obtain⟨h3,h4,h5⟩:=M0 l h1 (by rw[h2];exact hl);exact⟨h3,h4,h5.trans h2⟩
theorem qV {S:VS} (ho:S.D.off=false) (hl:S.D.left<0):S.aV.2=true∧S.aV.1.off=false∧S.aV.1.left=S.D.left:=by
 unfold VS.aV;split
 ·exact⟨rfl,ho,rfl⟩
 exact M0 _ ho hl
theorem M3 {n:Nat} (h:0<n):iC bB n=some 0:=by unfold iC;rw[List.find?_range_eq_some];exact⟨by decide,List.mem_range.2 h,fun i hi=>absurd hi (Nat.not_lt_zero _)⟩
theorem CP {n names k:Nat} (h:96+k<n):bk (VS.raw n names).cur k=bB:=by
 show bk ((DK.made n).now.drop 96) k=_
 rw[wU,aj3 h (by omega)]
theorem TP {c:dW} {n:Nat} (h:bk c (2+n/8)=bB):aF c n=⟨0,0,0,0,[]⟩:=by
 unfold aF;rw[h];have e:(bB.drop (n%8*64)).take 64=List.replicate 64 0:=by unfold bB;rw[List.drop_replicate,List.take_replicate,show min 64 (512-n%8*64)=64 by omega]
 rw[e];rfl
section
variable {w0 W:World} {R:List aU}
noncomputable def JK (k:Nat):Code:=(Tryz.f34.body.bind (YK k)).getD .skip
set_option maxRecDepth 100000 in
set_option maxHeartbeats 4000000 in
theorem TQ {p n names F bf be q fb:Nat} {u2 u3 u7 u8 u9 u10 u11 u12 u13 u14 u15 u16 u17 u18 u19 u20 u21 u22 u23 u24 u25 u26 u27 u28 u29 u30 u31 u32 u33 u34 u35 u36 u37 u38 u39 u40 u41 u42 u43 u44 u45 u46 u47 u48 u49 u50 u51 u52 u53 u54 u55 u56 u57 u58 u59 u60 u61 u62 u63 u64 u65 u66 u67 u68 u69 u70 u71 u72 u73 u74 u75 u76 u77 u78 u79 u80 u81 u82 u83 u84 u85 u86 u87 u88 u89 u90 u91 u92 u93 u94 u95 u96 u97 u98 u99 aw3 aw4 aw5 aw6 aw7 u105 aw8 aw9 axA axB axC axD axE:Value} (h0:98+(names+7)/8<n) (h1:n≤4096) (h2:2≤names) (h3:names≤1024) (hW:Sep w0 W (aG F q p (VS.raw n names) ⟨none,[],fb,[]⟩::aI be 0:: .box bf 24 #[.pointer (some ⟨F,0,none⟩)]::R)):
  (JK 13).wp Tryz.prog (bodyPostD Tryz.prog Tryz.f34 (fun e w'=>∃f q,e= .returned (.tuple #[.pointer (some ⟨f,0,none⟩),.int .i64 0])∧Sep w0 w' (bJ f q p (VS.new n names)::R))) {tmps:=#[.pointer (some ⟨p,0,none⟩),.int .i64 names,u2,u3,.pointer (some ⟨bf,0,none⟩),.pointer (some ⟨be,0,none⟩),.pointer (some ⟨q,0,none⟩),u7,u8,u9,u10,u11,u12,u13,u14,u15,u16,u17,u18,u19,u20,u21,u22,u23,u24,u25,u26,u27,u28,u29,u30,u31,u32,u33,u34,u35,u36,u37,u38,u39,u40,u41,u42,u43,u44,u45,u46,u47,u48,u49,u50,u51,u52,u53,u54,u55,u56,u57,u58,u59,u60,u61,u62,u63,u64,u65,u66,u67,u68,u69,u70,u71,u72,u73,u74,u75,u76,u77,u78,u79,u80,u81,u82,u83,u84,u85,u86,u87,u88,u89,u90,u91,u92,u93,u94,u95,u96,u97,u98,u99,aw3,aw4,aw5,aw6,aw7,u105,aw8,aw9,axA,axB,axC,axD,axE],defers:=[{target:=.fn (.func 41) #[],args:=#[.pointer (some ⟨F,0,none⟩),.pointer (some ⟨be,0,none⟩)]},{target:=.fn (.func 83) #[.pointer (some ⟨be,0,none⟩),.pointer (some ⟨bf,0,none⟩)],args:=#[]}]} W:=by
 obtain⟨h1,h2,h3⟩:(n≤4096)∧2≤names∧names≤1024:=⟨h1,h2,h3⟩;obtain⟨k0,iM,hk0,hk1,hk2⟩:=iQ jV;have hmk:∀W,(Instr.makeSlice 35 (.int .i64 512) (.int .i64 512)).run Tryz.prog W= .ok (.slice (some ⟨W.heap.size,0,none⟩) 512 512) (W.alloc (.cells (madeCells #[.int .u8 0] 512) 5)):=fun W=>kF (P:=Tryz.prog) 35 5 k0 (.int .u8 0) 1 Tryz.underlying35 iM hk0 hk1 hk2 rfl .i64 .i64 512 (by omega) (by unfold maxLen;omega) W
 obtain⟨Z,hZ⟩:∃Z,Z=aI be 0:: .box bf 24 #[.pointer (some ⟨F,0,none⟩)]::R:=⟨_,rfl⟩;have hcz:Hid (∀W Y,Sep w0 W (Y++Z)→W.cell? ⟨bf,0,none⟩=some (.pointer (some ⟨F,0,none⟩))∧W.cell? ⟨be,0,none⟩=some (.int .i64 0)):=Lh fun W Y hW=>by rw[hZ]at hW;exact⟨hW.gQ 1 rfl 0,hW.gQ 0 rfl 0⟩
 rw[←hZ]at hW;have hE:=hW.made 5 (.int .u8 0) 512 (by unfold maxLen;omega);obtain⟨w1,hcp,hS1,_⟩:=hE.vF (P:=Tryz.prog) 0 rfl 35 9 3 Tryz.underlying35 (by kernel_rfl) 0 512 512 ⟨#[115,104,117,110,116,45,118,111,108,117,109,101,45,49,33,10]⟩ (by decide) (by decide);have hS2:Sep w0 w1 (aH (.slice (some ⟨W.heap.size,0,none⟩) 512 512) (bW bB 0 FP)::aG F q p (VS.raw n names) ⟨none,[],fb,[]⟩::Z):=by rw[bE (by rw[dL,dP];rw[dP];decide)];exact hS1
 have hw2:=yH (g:=W.heap.size) (c:=512) (o:=0) (m:=512) (cap:=512) (i:=16) (n:=names) hS2 (by rw[dL,dP];rw[dP];decide) (by decide) (by decide) (by omega);rw[show bW (bW bB 0 FP) (0+16) (w2 names)=jZ names from rfl]at hw2;have af3:98+(names+7)/8<n:=by omega
 have af4:VC (VS.raw n names) ⟨none,[],fb,[]⟩:=afY af3 h1;have anR:=afZ af3 h3;have ar8:Hid (∀W2,Sep w0 W2 (aH (.slice (some ⟨W.heap.size,0,none⟩) 512 512) (jZ names)::aG F q p (VS.raw n names) ⟨none,[],fb,[]⟩::Z)→Calls Tryz.prog 88 #[.pointer (some ⟨F,0,none⟩),.int .i64 0,.slice (some ⟨W.heap.size,0,none⟩) 512 512] W2 fun e w'=>e= .returned (.tuple #[])∧∃a1,VC ((VS.raw n names).put 0 (jZ names)) a1∧Sep w0 w' (aG F q p ((VS.raw n names).put 0 (jZ names)) a1::Z)):=Lh fun W2 hW2=>by have h5:=((hW2.perm (List.Perm.swap _ _ _)).OJ af4 0).perm (List.Perm.swap _ _ _);refine(sV (i:=0) af4 (by show 0<n-96;omega) h5).mono ?_;rintro e w' ⟨rfl,h6⟩;exact⟨rfl,_,af4.put _ (by show 0<n-96;omega) (JJ names),h6⟩
 obtain⟨S1,yU⟩:∃S1,S1=(VS.raw n names).put 0 (jZ names):=⟨_,rfl⟩;rw[←yU]at ar8;have aj4:VF S1:=by rw[yU];exact⟨anR.names,anR.room⟩
 have hb1:bk S1.cur 1=bB:=by rw[yU];(show bk ((VS.raw n names).cur.set 0 _) 1=_);rw[bR _ _ (by decide),CP (by omega)]
 have hcn:0<S1.count:=by rw[yU];show 0<n-96-(2+(names+7)/8);omega
 have anS:iD S1 [] 1=some (S1.put 1 (jB (bk S1.cur 1) 0),[0]):=by rw[IL,hb1,M3 hcn]
 obtain⟨S2,CQ⟩:∃S2,S2=S1.put 1 (jB (bk S1.cur 1) 0):=⟨_,rfl⟩;rw[←CQ]at anS;have aj5:VF S2:=by rw[CQ];exact⟨aj4.names,aj4.room⟩
 obtain⟨S3,KZ⟩:∃S3,S3=S2.keep 0 ⟨1,0,0,0,[0]⟩:=⟨_,rfl⟩;have hnew:VS.new n names= {S3.settled with rB:=S3.count,rI:=names}:=by rw[KZ,CQ,yU];rfl
 have hi2:aF S2.cur 0=⟨0,0,0,0,[]⟩:=by refine TP ?_;rw[CQ];(show bk (S1.cur.set 1 _) 2=_);rw[bR _ _ (by decide),yU];(show bk ((VS.raw n names).cur.set 0 _) 2=_);rw[bR _ _ (by decide),CP (by omega)]
 have ar9:fD S2:=by rw[CQ,yU];exact⟨by show(-1000000:Int)≤0;decide,by show(0:Int)≤1000000;decide,by show(-1000000:Int)≤0;decide,by show(0:Int)≤1000000;decide⟩
 have yI:Hid (∀W2 a1 bx,VC S1 a1→Sep w0 W2 (.box bx 118 #[.int .i64 1,.int .i64 0,.int .i64 0,.int .i64 0,.slice none 0 0]::aG F q p S1 a1::Z)→Calls Tryz.prog 89 #[.pointer (some ⟨F,0,none⟩),.pointer (some ⟨bx,0,none⟩),.int .i64 1] W2 fun e w'=>e= .returned (.tuple #[])∧∃a2 A c,VC S2 a2∧Sep w0 w' (aG F q p S2 a2:: .box bx 118 #[.int .i64 1,.int .i64 0,.int .i64 0,.int .i64 0,.slice A 1 c]::aQ (.slice A 1 c) (dR [0])::Z)):=Lh fun W2 a1 bx hC hW2=>by have h5:Sep w0 W2 (aG F q p S1 a1:: .box bx 118 (aL ⟨1,0,0,0,[]⟩ (.slice none 0 0))::aQ (.slice none 0 0) (dR [])::Z):=Sep.bZ [2,1,0] (hW2.fO 3 1) (by decide) (by simp);refine(tC (x:=⟨1,0,0,0,[]⟩) (n:=1) hC aj4 (by decide) (by decide) (fun s hs=>by cases hs) h5).mono ?_;intro e w' ho;unfold mD at ho;simp only[anS]at ho;obtain⟨rfl,a2,v,_,hC2,h6⟩:=ho;obtain⟨A,c,e9⟩:=h6.dA 2 rfl;have e10:(dR [0]).length=1:=rfl;rw[e10]at e9;subst e9;exact⟨rfl,a2,A,c,hC2,h6⟩
 have tH:Hid (∀W2 a2 bx A c,VC S2 a2→Sep w0 W2 (aG F q p S2 a2:: .box bx 118 #[.int .i64 1,.int .i64 0,.int .i64 0,.int .i64 0,.slice A 1 c]::aQ (.slice A 1 c) (dR [0])::Z)→Calls Tryz.prog 90 #[.pointer (some ⟨F,0,none⟩),.int .i64 0,.agg #[.int .i64 1,.int .i64 0,.int .i64 0,.int .i64 0,.slice A 1 c]] W2 fun e w'=>e= .returned (.tuple #[])∧∃a3,VC S3 a3∧Sep w0 w' (aG F q p S3 a3:: .box bx 118 #[.int .i64 1,.int .i64 0,.int .i64 0,.int .i64 0,.slice A 1 c]::aQ (.slice A 1 c) (dR [0])::Z)):=Lh fun W2 a2 bx A c hC hW2=>by refine(o9 (n:=0) (x:=⟨1,0,0,0,[0]⟩) (v:=.slice A 1 c) hC aj5 (by rw[CQ,yU];show 0<names;omega) ⟨by decide,by decide,by decide,by decide,by decide,fun k hk=>by simp at hk;omega⟩ (by rw[hi2];decide) ar9 (gN 1 rfl) hW2).mono ?_;rintro e w' ⟨rfl,a3,OC,h6⟩;rw[←KZ]at OC h6;exact⟨rfl,a3,OC,h6⟩
 have hlive:=qV (S:=S3) (by rw[KZ,CQ,yU];rfl) (by rw[KZ,CQ,yU];show(-1:Int)<0;decide);have amD:Hid (∀W2 a3,VC S3 a3→Sep w0 W2 (aG F q p S3 a3::Z)→Calls Tryz.prog 91 #[.pointer (some ⟨F,0,none⟩)] W2 fun e w'=>e= .returned (.tuple #[])∧∃a4,VC S3.settled a4∧Sep w0 w' (aG F q p S3.settled a4::Z)):=Lh fun W2 a3 hC hW2=>by refine(G6 hC (by rw[KZ,CQ,yU];show(0+1+1+1:Nat)≤40;decide) (by rw[KZ,CQ,yU];show(0:Nat)≤60000;decide) hW2).mono ?_;intro e w' ho;unfold kM at ho;rw[if_pos hlive.1]at ho;obtain⟨rfl,a4,hV4,h6⟩:=ho;exact⟨rfl,a4,hV4.on hlive.2.1,h6⟩
 have asA:VF S3.settled:=by rw[KZ];exact⟨aj5.names,aj5.room⟩
 have hsy2:Hid (∀W2 a4,VC S3.settled a4→Sep w0 W2 (aG F q p S3.settled a4::Z)→Calls Tryz.prog 76 #[.pointer (some ⟨q,0,none⟩)] W2 fun e w'=>e= .returned (.int .i64 0)∧Sep w0 w' (aG F q p S3.settled a4::Z)):=Lh fun W2 a4 hC hW2=>by have h5:=hW2.aS;have hoff:S3.settled.D.off=false:=hlive.2.1;have:=MK (q:=q) (p:=p) (dead:=false) hC.l8 (Sep.bZ [1,2,0,3,4] h5 (by decide) (by simp[oH]):Sep w0 W2 (aD q p false::aJ p S3.settled.D::jG F q S3.settled a4.sb (.map (some a4.fb)) false::dH a4.sb a4.SM::iI a4.fb a4.FM::Z));rw[hoff]at this;refine this.mono ?_;rintro e w' ⟨rfl,h9⟩;refine⟨rfl,?_⟩;have h6:Sep w0 w' (oH F q p S3.settled a4++Z):=Sep.bZ [2,0,1,3,4] h9 (by decide) (by simp);exact h6.bM
 have asB:Hid (∀W2 a4,VC S3.settled a4→Sep w0 W2 (aG F q p S3.settled a4::Z)→Calls Tryz.prog 81 #[.pointer (some ⟨F,0,none⟩)] W2 fun e w'=>e= .returned (.int .i64 S3.count)∧w'=W2):=Lh fun W2 a4 hC hW2=>BS (S:=S3.settled) hC asA hW2
 have hrm:Hid (∀W2 a4,VC S3.settled a4→Sep w0 W2 (aG F q p S3.settled a4::Z)→W2.frozen? ⟨F,7,none⟩=false∧W2.cell? ⟨F,7,none⟩=some (.complex .f64 (fI S3.rB) (fI S3.rI))∧Sep w0 (W2.setCell ⟨F,7,none⟩ (.complex .f64 (fI (S3.count:Int)) (fI (names:Int)))) (bJ F q p (VS.new n names)::Z)):=Lh fun W2 a4 hC hW2=>by have h5:=hW2.aS;refine⟨h5.bF 0 rfl 7,h5.bC 0 rfl 7,?_⟩;have h6:=h5.bS 0 rfl 7 (.complex .f64 (fI (S3.count:Int)) (fI (names:Int)));(have h7:Sep w0 (W2.setCell ⟨F,7,none⟩ (.complex .f64 (fI (S3.count:Int)) (fI (names:Int)))) (oH F q p (VS.new n names) a4++Z):=by rw[hnew];exact h6);(have kE:VC (VS.new n names) a4:=by rw[hnew];exact⟨hC.l8,hC.big,hC.on,hC.cur,hC.seen,hC.fresh,hC.rest,hC.few,hC.none⟩);refine wY kE ?_ h7.bM;rw[hnew];exact DR hlive.1 (by rw[KZ,CQ,yU];rfl)
 have hcount:(S3.count:Int)≤4096:=by rw[KZ,CQ,yU];show((n-96-(2+(names+7)/8):Nat):Int)≤4096;omega
 have asC:=Lh af4;clear af4 asC anR aj4 aj5 hb1 hcn anS hi2 ar9 hlive asA hS1 hE hW yU CQ KZ af3 hnew;unfold JK
 conv=>arg 2;whnf
 go_wp2_with(first |(go_at_call 87;refine hw2.mono ?_;rintro e w2 ⟨rfl,h2⟩;(obtain⟨y0,y1⟩:=hcz.out _ [_,_] h2);(have hp2:=ar8.out _ h2);clear hw2 h2)|(go_at_call 88;refine hp2.mono ?_;rintro e w3 ⟨rfl,a1,jY,h3⟩;(have h4:=h3.bN 118 #[.int .i64 1,.int .i64 0,.int .i64 0,.int .i64 0,.slice none 0 0]);(obtain⟨x0,x1⟩:=hcz.out _ [_,_] h4);(have hf4:=yI.out _ _ _ jY h4);clear hp2 h3 h4 y0 y1 jY)|(go_at_call 89;refine hf4.mono ?_;rintro e w5 ⟨rfl,a2,A5,c5,hC2,h5⟩;replace h5:=Lh h5;replace hC2:=Lh hC2;clear hf4 x0 x1));obtain⟨bx,hbx⟩:∃bx,bx=w3.heap.size:=⟨_,rfl⟩;rw[←hbx]at h5 ⊢;clear hbx;have hE:=h5.out.drew;have hc19:=hcz.out _ [_,_,_] hE;have WS:=And.intro hc19.1 (And.intro (hE.bC 1 rfl 0) (And.intro (hE.bC 1 rfl 1) (And.intro (hE.bC 1 rfl 2) (And.intro (hE.bC 1 rfl 3) (hE.bC 1 rfl 4)))));simp only[gA,gB,gC]at WS;have hk5:=tH.out _ _ _ _ _ hC2.out hE;clear hE hc19 h5 hC2 tH;refine jM ?_;refine aN (S:=fun w'=>w'.cell? ⟨bf,0,none⟩=some (.pointer (some ⟨F,0,none⟩))∧w'.cell? ⟨bx,0,none⟩=some (.int .i64 1)∧w'.cell? ⟨bx,1,none⟩=some (.int .i64 0)∧w'.cell? ⟨bx,2,none⟩=some (.int .i64 0)∧w'.cell? ⟨bx,3,none⟩=some (.int .i64 0)∧w'.cell? ⟨bx,4,none⟩=some (.slice A5 1 c5)) 6 (by kernel_rfl) ?_;simp only[List.size_toArray,List.length_cons,List.length_nil,Nat.reduceAdd];refine aA (i:=0) (v:=?_) WS rfl ?_ ?_;rotate_left
 ·rintro w ⟨e1,e2,e3,e4,e5,e6⟩;go_simp;try with_reducible rfl
 simp only[Act.put,gD];refine aA (i:=1) (v:=?_) WS rfl ?_ ?_;rotate_left
 ·rintro w ⟨e1,e2,e3,e4,e5,e6⟩;go_simp;try with_reducible rfl
 simp only[Act.put,gD];refine aA (i:=2) (v:=?_) WS rfl ?_ ?_;rotate_left
 ·rintro w ⟨e1,e2,e3,e4,e5,e6⟩;go_simp;try with_reducible rfl
 simp only[Act.put,gD];refine aA (i:=3) (v:=?_) WS rfl ?_ ?_;rotate_left
 ·rintro w ⟨e1,e2,e3,e4,e5,e6⟩;go_simp;try with_reducible rfl
 simp only[Act.put,gD];refine aA (i:=4) (v:=?_) WS rfl ?_ ?_;rotate_left
 ·rintro w ⟨e1,e2,e3,e4,e5,e6⟩;go_simp;try with_reducible rfl
 simp only[Act.put,gD];refine aC (i:=5) (by kernel_rfl) rfl (fun K hK=>?_);go_simp;go_at_call 90;refine hk5.mono ?_;rintro e w6 ⟨rfl,a3,OC,h6⟩;obtain⟨y0,y1⟩:=hcz.out _ [_,_,_] h6;have hs6:=amD.out _ _ OC ((Sep.bZ [1,2,0] h6 (by decide) (by simp)).drop 2);have JL:=And.intro y0 (And.intro (h6.bC 1 rfl 0) (And.intro (h6.bC 1 rfl 1) (And.intro (h6.bC 1 rfl 2) (And.intro (h6.bC 1 rfl 3) (h6.bC 1 rfl 4)))));simp only[gA,gB,gC]at JL;clear WS hk5 h6 OC amD;dsimp only;refine hK _ _ (fun _=>JL) ?_;clear hK K;try simp only[Act.put,gD]
 refine aO (by kernel_rfl) ?_ _;simp only[mF];go_wp2_with(first |(go_at_call 91;refine hs6.mono ?_;rintro e w7 ⟨rfl,a4,KH,h7⟩;(have hy7:=hsy2.out _ _ KH h7);replace KH:=Lh KH;clear hs6 h7 y0 y1)|(go_at_call 76;refine hy7.mono ?_;rintro e w8 ⟨rfl,h8⟩;(have axF:=(hcz.out _ [_] h8.drew).1);replace h8:=Lh h8;clear hy7)|(go_at_call 43;refine(dI _ _).mono ?_;rintro e w9 ⟨rfl,h9⟩;obtain rfl:=h9.symm));refine jM ?_;refine fZ (S:=fun w'=>w'.cell? ⟨bf,0,none⟩=some (.pointer (some ⟨F,0,none⟩))) 14 (by kernel_rfl) ?_;intro wq hwq;have h9:Hid (Sep w0 wq (aG F q p S3.settled a4::Z)):=by rw[hwq];exact Lh h8.out.drew
 clear hwq h8 axF;have lT:=(hcz.out _ [_] h9.out).1;have anT:=asB.out _ _ KH.out h9.out;obtain⟨f7,c7,hR7⟩:=hrm.out _ _ KH.out h9.out;have hst:=fun x y=>rP x y c7 f7
 have asD:=(hcz.out _ [_] hR7).1;simp only[List.size_toArray,List.length_cons,List.length_nil,Nat.reduceAdd];obtain⟨M,hM⟩:∃M,M=S3.count:=⟨_,rfl⟩;rw[←hM]at anT hR7 hcount asD;have hend:Hid (Sep w0 (wq.setCell ⟨F,7,none⟩ (.complex .f64 (fI (M:Int)) (fI (names:Int)))) (bJ F q p (VS.new n names)::Z)):=Lh hR7;clear hR7 hM h9 asB hrm KH;refine aA (i:=0) (v:=?_) lT rfl ?_ ?_;rotate_left
 ·rintro w e1;go_simp;try with_reducible rfl
 simp only[Act.put,gD];refine aA (i:=1) (v:=?_) lT rfl ?_ ?_;rotate_left
 ·rintro w e1;go_simp;try with_reducible rfl
 simp only[Act.put,gD];refine aA (i:=2) (v:=?_) lT rfl ?_ ?_;rotate_left
 ·rintro w e1;go_simp;try with_reducible rfl
 simp only[Act.put,gD];refine aA (i:=3) (v:=?_) lT rfl ?_ ?_;rotate_left
 ·rintro w e1;go_simp;try with_reducible rfl
 simp only[Act.put,gD];refine aA (i:=4) (v:=?_) lT rfl ?_ ?_;rotate_left
 ·rintro w e1;go_simp;try with_reducible rfl
 simp only[Act.put,gD];refine aA (i:=5) (v:=?_) lT rfl ?_ ?_;rotate_left
 ·rintro w e1;go_simp;try with_reducible rfl
 simp only[Act.put,gD];refine aA (i:=8) (v:=?_) lT rfl ?_ ?_;rotate_left
 ·rintro w e1;go_simp;try with_reducible rfl
 simp only[Act.put,gD];refine aA (i:=9) (v:=?_) lT rfl ?_ ?_;rotate_left
 ·rintro w e1;go_simp;try with_reducible rfl
 simp only[Act.put,gD];refine aC (i:=6) (by kernel_rfl) rfl (fun K hK=>?_);go_simp;go_at_call 81;refine anT.mono ?_;rintro e w7 ⟨rfl,h7⟩;obtain rfl:=h7.symm;dsimp only;refine hK _ _ (fun _=>lT) ?_;clear hK K;try simp only[Act.put,gD]
 refine aC (i:=7) (by kernel_rfl) rfl (fun K hK=>?_);go_simp;try dsimp only
 refine hK _ _ (fun _=>lT) ?_;clear hK K;try simp only[Act.put,gD]
 refine aC (i:=10) (by kernel_rfl) rfl (fun K hK=>?_);go_simp;try dsimp only
 refine hK _ _ (fun _=>lT) ?_;clear hK K;try simp only[Act.put,gD]
 refine aC (i:=11) (by kernel_rfl) rfl (fun K hK=>?_);go_simp;try dsimp only
 refine hK _ _ (fun _=>lT) ?_;clear hK K;try simp only[Act.put,gD]
 refine aC (i:=12) (by kernel_rfl) rfl (fun K hK=>?_);go_simp;try dsimp only
 refine hK _ _ (fun _=>lT) ?_;clear hK K;try simp only[Act.put,gD]
 refine aC (i:=13) (by kernel_rfl) rfl (fun K hK=>?_);go_simp;have hfo:∀z:Int,floatOfInt FloatKind.f64 z=fI z:=fun _=>rfl
 rw[hfo,hfo];refine hK _ _ (fun _=>asD) ?_;clear hK K;try simp only[Act.put,gD]
 refine aO (by kernel_rfl) ?_ _;simp only[mF];have hE:=hend.out;rw[hZ]at hE;have d1:=hE.bF 2 rfl 0;have hE2:=hE.bS 2 rfl 0 (.pointer (some ⟨F,0,none⟩));have d2:=hE2.bC 1 rfl 0;have d3:=hE2.bF 1 rfl 0;have xE:=Lh (hE2.bS 1 rfl 0 (.int .i64 0));clear hE hE2 hend hst c7 f7 lT anT hcz;go_wp2_with fail;refine nK ?_;have ec:=xE.out.bC 1 rfl 0;have el:=xE.out.bC 2 rfl 0;try simp only[gA,gB]at ec el
 refine leaves_cons (u:=.returning) (by simp) (pK _ _ TM) ?_;refine(abN ec).mono ?_;rintro e u' w' ⟨rfl,rfl,rfl⟩;refine⟨.tuple #[.pointer (some ⟨F,0,none⟩),.int .i64 0],by simp[results,Tryz.results34,go_sem,ec,el],F,rfl,q,?_⟩;exact(Sep.bZ [1,2,0] xE.out (by decide) (by simp):Sep w0 _ (_::_::bJ F q p (VS.new n names)::R)).drop 2
end
end Go.Proofs.YteihmbaimbogaaaGreat
namespace Go.Proofs.YteihmbaimbogaaaGreat
set_option linter.unusedVariables false
set_option linter.unusedSimpArgs false
theorem bI.same {S T:VS} {g:LT} (h:bI S g) (h1:T.nb=S.nb) (h2:T.names=S.names) (h3:T.cur=S.cur) (h4:T.wB=S.wB) (h5:T.wI=S.wI) (h6:T.nodes=S.nodes):bI T g:=by obtain⟨nb,names,D,cur,wB,wI,nodes,rB,rI,m⟩:=S;obtain⟨nb',names',D',cur',wB',wI',nodes',rB',rI',m'⟩:=T;simp only at h1 h2 h3 h4 h5 h6;subst h1 h2 h3 h4 h5 h6;exact⟨⟨h.use.cur,⟨h.use.vf.names,h.use.vf.room⟩,h.use.nb⟩,h.n0,h.fair,h.head,h.len,h.lt,h.nodup,h.dis,h.bits,h.aY,h.data,h.wB,h.wI,h.nodes⟩
theorem bI.first {S:VS} {g:LT} (h:bI S g) {b:List UInt8} (hb:b.length=512):bI (S.put 0 b) g:=by
 have hne:∀k,k≠0→bk (S.put 0 b).cur k=bk S.cur k:=fun k hk=>bR _ _ hk
 have hin:∀n,aF (S.put 0 b).cur n=aF S.cur n:=fun n=>by unfold aF;rw[hne _ (by omega)]
 have hbit:∀j,(S.put 0 b).bit j=S.bit j:=fun j=>by(show l6 (bk (S.put 0 b).cur 1) j=l6 (bk S.cur 1) j);rw[hne _ (by omega)]
 have hdat:∀s,bk (S.put 0 b).cur (S.data+s)=bk S.cur (S.data+s):=fun s=>hne _ (by unfold VS.data;omega)
 refine⟨h.use.put 0 hb,h.n0,h.fair,fun n hn=>?_,fun n hn=>?_,fun n hn=>?_,fun n hn=>?_,fun n hn m hm e=>?_,fun j hj=>?_,fun n hn hk=>?_,fun n hn hk=>?_,h.wB,h.wI,h.nodes⟩
 ·rw[hin];exact h.head n hn
 ·rw[hin];exact h.len n hn
 ·rw[hin];exact h.lt n hn
 ·rw[hin];exact h.nodup n hn
 ·rw[hin,hin];exact h.dis n hn m hm e
 ·rw[hbit];refine(h.bits j hj).trans ⟨fun⟨n,hn,e⟩=>⟨n,hn,by rw[hin];exact e⟩,fun⟨n,hn,e⟩=>⟨n,hn,by rw[hin]at e;exact e⟩⟩
 ·rw[hin];(have e:=yO (c:=S.cur) (c':=(S.put 0 b).cur) (d:=S.data) (x:=aF S.cur n) (h.OQ hn hk) fun s _=>hdat s);exact e.trans (h.aY n hn hk)
 rw[hin];have e:=rC (c:=S.cur) (c':=(S.put 0 b).cur) (d:=S.data) (x:=aF S.cur n) fun s _=>hdat s
 exact e.trans (h.data n hn hk)
section
variable {n names:Nat}
theorem af5 (j:Nat):l6 bB j=false:=by
 unfold l6 bB;by_cases h:j/8<512
 ·rw[gH,List.getElem?_replicate,if_pos h];simp
 rw[gH,List.getElem?_eq_none (by rw[List.length_replicate];omega)];simp
theorem af6 (h0:98+(names+7)/8<n) (h1:n≤4096) (h2:2≤names) (h3:names≤1024):bI (VS.raw n names) fun _=>LI0:=by
 have hin:∀i<names,aF (VS.raw n names).cur i=⟨0,0,0,0,[]⟩:=fun i hi=>TP (CP (by omega))
 have hz:∀i<names,(aF (VS.raw n names).cur i).aB=[]:=fun i hi=>by rw[hin i hi]
 refine⟨⟨(afY (fb:=0) h0 h1).cur,afZ h0 h3,h1⟩,by show 0<names;omega,fun _ _=>R3,fun i hi=>?_,fun i hi=>?_,fun i hi s hs=>?_,fun i hi=>?_,fun i hi m hm _ s hs=>?_,fun j hj=>?_,fun i hi hk=>?_,fun i hi hk=>?_,?_,?_,?_⟩
 ·rw[hin i hi];rfl
 ·rw[hz i hi];rfl
 ·rw[hz i hi]at hs;cases hs
 ·rw[hz i hi];exact List.nodup_nil
 ·rw[hz i hi]at hs;cases hs
 ·(have e:(VS.raw n names).bit j=false:=by(show l6 (bk (VS.raw n names).cur 1) j=false);rw[CP (by omega),af5]);rw[e];constructor
  ·intro e2;cases e2
  rintro⟨i,hi,e2⟩;rw[hz i hi]at e2;cases e2
 ·cases hk
 ·cases hk
 ·exact(xB fun i _=>rfl).symm
 ·exact(xB fun i _=>rfl).symm
 exact(xB fun i _=>rfl).symm
def YZ :LT:=dO (fun _=>LI0) 0 ⟨1,0,0,[],[]⟩
theorem af7 :∀ {c:dW} {i:Nat},i<c.length→c.set i (bk c i)=c:=fun {c i} h=>by
 refine List.ext_getElem (List.length_set ..) fun k h1 h2=>?_
 rw[List.getElem_set];split
 ·rename_i e;subst e;unfold bk;rw[gH,gE h2];rfl
 rfl
theorem abO (h0:98+(names+7)/8<n) (h1:n≤4096) (h2:2≤names) (h3:names≤1024):bI (VS.laid n names) YZ:=by
 have hp:=af6 h0 h1 h2 h3;have hp1:=hp.first (JJ names);obtain⟨S,hS⟩:∃S,S=(VS.raw n names).put 0 (jZ names):=⟨_,rfl⟩;rw[←hS]at hp1;have hcnt:0<S.count:=by rw[hS];show 0<n-96-(2+(names+7)/8);omega
 have hb1:bk S.cur 1=bB:=by rw[hS];(show bk ((VS.raw n names).cur.set 0 _) 1=_);rw[bR _ _ (by decide),CP (by omega)]
 have hfree:iC (bk S.cur 1) S.count=some 0:=by rw[hb1];exact M3 hcnt
 have hN:=(hp1.ae7 (n:=0) (mode:=0) (links:=0) (by rw[hS];show 0<names;omega) rfl (by decide) (by decide)).1 0 hfree;have hdata:bk (S.put 1 (jB (bk S.cur 1) 0)).cur (S.data+0)=bB:=by(show bk (S.cur.set 1 _) (S.data+0)=_);rw[bR _ _ (by unfold VS.data;omega),hS];(show bk ((VS.raw n names).cur.set 0 _) (2+(names+7)/8+0)=_);rw[bR _ _ (by omega),CP (by omega)]
 have hlen:S.data+0<(S.put 1 (jB (bk S.cur 1) 0)).cur.length:=by have:=(hp1.use.cur).len;(show S.data+0<(S.cur.set 1 _).length);rw[List.length_set,this,hS];(show 2+(names+7)/8+0<n-96);omega
 have asE:(eP S 0).cur=(S.put 1 (jB (bk S.cur 1) 0)).cur:=by(show(S.put 1 (jB (bk S.cur 1) 0)).cur.set (S.data+0) bB=_);have:=af7 hlen;rw[hdata]at this;exact this
 have qJ:aF (eP S 0).cur 0=aF (S.put 1 (jB (bk S.cur 1) 0)).cur 0:=by rw[asE]
 refine hN.same ?_ ?_ ?_ ?_ ?_ ?_
 ·rw[hS];rfl
 ·rw[hS];rfl
 ·(show o8 ((VS.raw n names).put 0 (jZ names)|>.put 1 (jB (bk ((VS.raw n names).put 0 (jZ names)).cur 1) 0)).cur 0 ⟨1,0,0,0,[0]⟩=o8 (eP S 0).cur 0 ⟨1,0,0,0,[0]⟩);rw[asE,hS]
 ·(show(VS.raw n names).wB-eO (aF (((VS.raw n names).put 0 (jZ names)).put 1 (jB (bk ((VS.raw n names).put 0 (jZ names)).cur 1) 0)).cur 0).kind (aF (((VS.raw n names).put 0 (jZ names)).put 1 (jB (bk ((VS.raw n names).put 0 (jZ names)).cur 1) 0)).cur 0).size+eO 1 0=S.wB-eO (aF (eP S 0).cur 0).kind (aF (eP S 0).cur 0).size+eO 1 0);rw[qJ,hS];rfl
 ·(show(VS.raw n names).wI-kT (aF (((VS.raw n names).put 0 (jZ names)).put 1 (jB (bk ((VS.raw n names).put 0 (jZ names)).cur 1) 0)).cur 0).kind+kT 1=S.wI-kT (aF (eP S 0).cur 0).kind+kT 1);rw[qJ,hS];rfl
 rw[hS];rfl
theorem af8 (h2:0<names):mI YZ names [] [] (fun _=>0) (fun _=>0) where
 n0:=h2
 root:=rfl
 rk:=rfl
 uniq:=List.nodup_nil
 up n hn:=by cases hn
 dir n hn:=by cases hn
 file n hn:=by cases hn
 ne0 n hn:=by cases hn
 inj n hn:=by cases hn
 cover i hi hk:=by
  by_cases e:i=0
  ·exact .inl e
  unfold YZ at hk;rw[eU _ _ e]at hk;exact absurd rfl hk
 aY K hK:=List.Perm.refl _
theorem JM (n names:Nat):(VS.laid n names).aV.2=true∧(VS.new n names).D.off=false∧(VS.new n names).D.left= -1:=by have h:=qV (S:=VS.laid n names) rfl (show(-1:Int)<0 by decide);exact⟨h.1,h.2.1,h.2.2⟩
theorem anU (h0:98+(names+7)/8<n) (h1:n≤4096) (h2:2≤names) (h3:names≤1024):Vt (VS.new n names).base [] [] YZ (fun _=>0) (fun _=>0):=by
 have hp:=abO h0 h1 h2 h3;have hD:(VS.laid n names).D.ok (VS.laid n names).nb:=O8 (n:=n) (by omega) h1;have KR:96<(VS.laid n names).nb:=by show 96<n;omega
 have mE:xO ((VS.laid n names).D.now.drop 96) (VS.laid n names):=(((xO.refl (VS.raw n names)).put _ _).put _ _).keep _ _;have hc:=(JM n names).1;have e:=vT hD KR hp.use.cur mE (show 0+1+1+1≤40 by decide) hc;refine Vt.of (hp.same rfl rfl e rfl rfl rfl) (af8 (names:=names) (by omega)) rfl (by decide) rfl rfl rfl
end
end Go.Proofs.YteihmbaimbogaaaGreat
