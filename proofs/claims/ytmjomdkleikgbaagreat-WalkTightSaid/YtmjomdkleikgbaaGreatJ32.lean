/- Parts. -/
import Derived.Test.YtmjomdkleikgbaaGreatJ31
import Derived.Shelf.Slices.CompactI
import Derived.Lib.SlicesCompact
set_option linter.unusedVariables false
set_option linter.unusedSimpArgs false
set_option maxRecDepth 100000
set_option maxHeartbeats 20000000
namespace Go.Proofs.YtmjomdkleikgbaaGreat
open Go.RowKit
def zH (ns:List TN) (p:List UInt8):List (List UInt8):=(ns.filter fun n=>decide (aW n.path=p)).map (·.path)
theorem ahO {ns:List TN} {i:Nat} {n:TN} (h:ns[i]? =some n) (p:List UInt8):zH (ns.take (i+1)) p=if aW n.path=p then zH (ns.take i) p++[n.path]else zH (ns.take i) p:=by
 unfold zH;rw[pE,h,E9,mV];by_cases hp:aW n.path=p
 ·rw[if_pos hp];simp[hp]
 rw[if_neg hp];simp[hp]
theorem arR (ns:List TN) (p:List UInt8):(zH ns p).length<=ns.length:=by unfold zH;rw[iM];exact NV _ _
theorem am7 (ns:List TN) (p:List UInt8):(zH ns p).length=pI ns p:=by unfold zH pI;rw[iM];first |rfl|(rw[<-ao1];try congr 1)
theorem adV {w:World} {nv fv:Value} {ns:List TN} {fs:List TF} {vs:List Value} (h:iF w nv fv ns fs vs) (hm:mZ ns fs) (p:List UInt8):
  Calls Tryz.prog 34 #[.agg #[nv,fv],aC p] w fun e w'=>∃v,e= .returned v/\Sep w w' [.sl 9 1 v (zH ns p).length ((zH ns p).map aC)]:=by
 have hS0:=(Sep.nil w).bN 25 #[nv,fv];have hnp:=h.nodes;obtain⟨A1,c1,rfl,hm1⟩:=h.nodes.shape;have arP:=fun(n:TN) (hn:n∈ns) (W:World)=>EU (p:=n.path) W (by have:=hm.short n hn;omega)
 have akA:=Lh arP;have nS:=Lh hS0;have b1:(ns.length:Int)<=300:=by have:=hm.few;omega
 have UJ:=Lh hnp;have hlen:=hm.few;obtain⟨i0,hif,hz0,hz1,hz2⟩:=info_parts WO;clear hm hS0 h hnp arP;unfold aC at*;go_enter Tryz.func34,Tryz.ntmps34;go_wp2_with fail;go_loopw[5,6] (fun ov iv wr=>∃(L:List Value) (i:Nat),i<=ns.length/\iv=iV i/\Hid (L=(zH (ns.take i) p).map aC)/\Sep w wr [.sl 9 1 ov L.length L,.box w.heap.size 25 #[.slice A1 ns.length c1,fv]]) (fun _ iv _=>ns.length-(intOf iv).toNat)
 case atStart=>exact⟨[],0,gI _,rfl,Lh rfl,nS.out.iO _ _⟩
 obtain⟨L,i,hi,rfl,hL,hS⟩:=hrel;have c0:(0:Int)<=(i:Int):=by omega
 have z0:=hS.bC 1 rfl 0;simp only[gA,gB,gC]at z0;by_cases hlt:i<ns.length
 ·(have c2:(i:Int)<(ns.length:Int):=by omega);obtain⟨g,o,c,e,_,_,_,hcell⟩:=UJ.out.place aD aV;cases e;obtain⟨n,he⟩:∃n,ns[i]? =some n:=⟨_,gE hlt⟩;(have hx:=fun(W:World) (hW:Below w.heap.size w W)=>(hcell _ hW (i*3+0) aD).trans (bR he 0 aD));simp only[GG,aC,gB,gC,<-tC,tF]at hx;have x0:=hx _ hS.below;have J9:=akA.out n (gG he);have FW:=Lh J9;have hx':=Lh hx;have hS':=Lh hS;have hck:=Lh (ahO he p);(have hLl:L.length<=300:=by have:=arR (ns.take i) p;rw[hL.out,iM];rw[qL]at this;omega);clear J9 hx hcell hS he;by_cases hp:aW n.path=p
  ·subst hp;rw[if_pos rfl]at hck;go_wp2_with(first |(go_at_call 89;refine(FW.out _).mono ?_;rintro e w2 ⟨rfl,hb2⟩;(have hS2:=hS'.out.pure hb2);(have y0:=hS2.bC 1 rfl 0);simp only[gA,gB,gC]at y0;(have y1:=hx'.out _ hS2.below);(have dX:=hS2.alloc (.cells #[.string ⟨n.path.toArray⟩] 9));clear hS2 hb2)|(at_builtin;refine mJ 0 rfl _ _ 73 rfl 9 i0 (.string ⟨#[]⟩) 1 16 Tryz.underlying73 hif hz0 hz1 hz2 rfl aV dX _ _ _ rfl rfl ⟨w2.heap.size,0,none⟩ 1 1 [.string ⟨n.path.toArray⟩] rfl rfl (cell_one_new _ _ _) oCl aV vQ aD ?_));intro gg cc w3 kD hz;have au4:=Lh kD;clear kD hz dX;go_wp2_with fail;go_roundw
   case rel=>exact⟨L++[.string ⟨n.path.toArray⟩],i+1,by omega,by go_num,(by(show _=_);rw[hck.out,mV,hL.out];rfl),(by rw[jL];exact au4.out)⟩
   case measure=>(simp[intOf];omega)
  rw[if_neg hp]at hck;(have bp:(aW n.path==p)=false:=by simpa using hp);have hp':=Lh hp;clear hp;go_wp2_with(go_at_call 89;refine(FW.out _).mono ?_;rintro e w2 ⟨rfl,hb2⟩;(have hS2:=hS'.out.pure hb2);replace hS2:=Lh hS2;clear hb2);go_roundw
  case rel=>exact⟨L,i+1,by omega,by go_num,(by(show _=_);rw[hck.out];exact hL.out),hS2.out⟩
  case measure=>(simp[intOf];omega)
 have c22:¬(i:Int)<(ns.length:Int):=by omega
 have hfin:L=(zH ns p).map aC:=by rw[hL.out,qH aD]
 obtain⟨A9,c9,rfl,_⟩:=(hS.rd 0 rfl).shape;have hS':=Lh hS;have ay0:=Lh hfin;clear hS hfin hL;go_wp2_with fail;go_ret;refine⟨_,rfl,?_⟩;have h9:=Sep.fst (X:=[_]) (Y:=[_]) hS'.out;rw[ay0.out,iM]at h9;rw[ay0.out,iM];exact h9
theorem adW {w:World} {nv fv:Value} {ns:List TN} {fs:List TF} {vs:List Value} (h:iF w nv fv ns fs vs) (hm:mZ ns fs) (p:List UInt8):
  Calls Tryz.prog 34 #[.agg #[nv,fv],aC p] w fun e w'=>∃A c,e= .returned (.slice A (pI ns p) c)/\Below w.heap.size w w':=by
 refine(adV h hm p).mono ?_;rintro e w' ⟨v,rfl,hS⟩;obtain⟨A,c,rfl,_⟩:=(hS.rd 0 rfl).shape;exact⟨A,c,by rw[am7],hS.below⟩
def dnB (K:List UInt8->Nat) (xs:List TN):Int:=(xs.map fun n=>if n.file= -1 then yP (K n.path)else 0).sum
def dnI (xs:List TN):Int:=(xs.map fun n=>if n.file= -1 then(1:Int)else 0).sum
def dfB (fs:List TF):Int:=(fs.map fun f=>vD f.size).sum
def wdB (ns:List TN) (fs:List TF):Int:=yP (pI ns [])+dnB (pI ns) ns+dfB fs
def wdI (ns:List TN) (fs:List TF):Int:=1+dnI ns+fs.length
theorem RN {α:Type} (f:α->Int) {l:List α} {i:Nat} {x:α} (h:l[i]? =some x):((l.take (i+1)).map f).sum=((l.take i).map f).sum+f x:=by rw[pE,h,mV,LC];simp
theorem DW {α:Type} (f:α->Int) (M:Int):∀(l:List α),(∀x∈l,0<=f x/\f x<=M)->0<=(l.map f).sum/\(l.map f).sum<=M*l.length
 |[],_=>by simp
 |x::l,h=>by obtain⟨h1,h2⟩:=h x bL;(obtain⟨h3,h4⟩:=DW f M l fun y hy=>h y (vK _ hy));rw[jS,qI,kR];refine⟨by omega,?_⟩;(have:M*((l.length+1:Nat):Int)=M*l.length+M:=by rw[U5,Int.mul_add];simp);omega
theorem NN (k:Nat):1<=yP k/\yP k<=k+1:=by rw[am5];exact av6 k
theorem WU {K:List UInt8->Nat} (hK:∀p,K p<=300) (xs:List TN):0<=dnB K xs/\dnB K xs<=301*xs.length:=by
 refine DW _ 301 xs fun n _=>?_
 have:=NN (K n.path);have:=hK n.path;split<;>omega
theorem WV (xs:List TN):0<=dnI xs/\dnI xs<=1*xs.length:=by
 refine DW _ 1 xs fun n _=>?_
 split<;>omega
theorem am8 {fs:List TF} (h:∀f∈fs,f.size<=1048576):0<=dfB fs/\dfB fs<=3000*fs.length:=by
 refine DW _ 3000 fs fun f hf=>?_
 have:=h f hf;unfold vD;split<;>omega
theorem Z9 {P:Prop} (h:P:=by rintro w ⟨e1,e2,e3,e4,e5⟩;go_simp;try with_reducible rfl):P:=h
theorem Z69 {P:Prop} (h:P:=by obtain⟨g3,g4⟩:=hBI.out;simp only[dnB,dnI]at g3 g4 ⊢;exact⟨by rw[g1,g3];omega,by rw[g2,g4];omega⟩):P:=h
theorem UK {w:World} {nv fv:Value} {ns:List TN} {fs:List TF} {vs:List Value} (h:iF w nv fv ns fs vs) (hm:mZ ns fs):
  Calls Tryz.prog 13 #[.agg #[nv,fv]] w fun e w'=>e= .returned (zG (wdB ns fs) (wdI ns fs))/\Below w.heap.size w w':=by
 have hS0:=((Sep.nil w).bN 25 #[nv,fv]).bN 33 #[iV 0,iV 0];simp only[World.size_alloc]at hS0;have hnp:=h.nodes;have hfp:=h.files;have MJ:=fun(W:World) (hW:Below w.heap.size w W) (p:List UInt8)=>adW (h.below hW) hm p
 obtain⟨A1,ca1,rfl,hm1⟩:=h.nodes.shape;obtain⟨A2,ca2,rfl,hm2⟩:=h.files.shape;have hK9:∀p,pI ns p<=300:=fun p=>z8 (av9 ns p) hm.few
 have b1:(ns.length:Int)<=300:=by have:=hm.few;omega
 have b2:(fs.length:Int)<=300:=by have:=hm.EG;omega
 have hsz:=hm.size;have arS:=Lh MJ;have nS:=Lh hS0;have UJ:=Lh hnp;have EB:=Lh hfp;have h':=Lh h;have ahP:=Lh hK9;have hsz':=Lh hsz;have z0:=hS0.bC 1 rfl 0;have z1:=hS0.bC 1 rfl 1;simp only[gA,gB,gC]at z0 z1;clear hS0 h hm hnp hfp MJ hK9 hsz;go_enter Tryz.func13,Tryz.ntmps13;unfold aC at*;have hk0:=arS.out _ nS.out.below [];go_wp2_with(first |(go_at_call 34;refine hk0.mono ?_;rintro e w1 ⟨Ak,ck,rfl,hb1⟩;(have hS1:=nS.out.pure hb1);replace hS1:=Lh hS1;clear hb1)|(go_at_call 33;refine(RI (by have:=ahP.out [];omega) _).mono ?_;rintro e w2 ⟨rfl,hb2⟩;(have hS2:=(hS1.out.pure hb2).bN 33 #[iV (yP (pI ns [])),iV 1]);replace hS2:=Lh hS2;clear hb2;unfold zG));clear z0 z1 hk0;go_loopw[4] (fun iv wr=>∃(i:Nat) (B I:Int),i<=ns.length/\iv=iV i/\Hid (B=yP (pI ns [])+dnB (pI ns) (ns.take i)/\I=1+dnI (ns.take i))/\Sep w wr [.box w2.heap.size 33 #[iV B,iV I],.box (w.heap.size+1) 33 #[iV 0,iV 0],.box w.heap.size 25 #[.slice A1 ns.length ca1,.slice A2 fs.length ca2]]) (fun iv _=>ns.length-(intOf iv).toNat)
 case atStart=>exact⟨0,yP (pI ns []),1,gI _,rfl,Lh (by simp[dnB,dnI]),hS2.out⟩
 obtain⟨i,B,I,hi,rfl,hBI,hS⟩:=hrel;have c0:(0:Int)<=(i:Int):=by omega
 have hcl:=fun(W:World) (B I:Int) (hS:Sep w W [.box w2.heap.size 33 #[iV B,iV I],.box (w.heap.size+1) 33 #[iV 0,iV 0],.box w.heap.size 25 #[.slice A1 ns.length ca1,.slice A2 fs.length ca2]])=>And.intro (hS.bC 0 rfl 0) (And.intro (hS.bC 0 rfl 1) (And.intro (hS.bC 2 rfl 0) (hS.bC 2 rfl 1)))
 simp only[gA,gB,gC]at hcl;obtain⟨y0,y1,z0,z1⟩:=hcl _ _ _ hS;have hcl':=Lh hcl;clear hcl;by_cases hlt:i<ns.length
 ·(have c2:(i:Int)<(ns.length:Int):=by omega);obtain⟨g,o,c,e,_,_,_,hcell⟩:=UJ.out.place aD aV;cases e;obtain⟨n,he⟩:∃n,ns[i]? =some n:=⟨_,gE hlt⟩;(have hx:=fun(W:World) (hW:Below w.heap.size w W)=>And.intro ((hcell _ hW (i*3+0) aD).trans (bR he 0 aD)) ((hcell _ hW (i*3+1) aD).trans (bR he 1 aD)));simp only[GG,aC,gB,gC,<-tC,tF]at hx;obtain⟨x0,x1⟩:=hx _ hS.below;have hx':=Lh hx;have hS':=Lh hS;have hsB:=Lh (RN (fun n:TN=>if n.file= -1 then yP (pI ns n.path)else 0) he);have hsI:=Lh (RN (fun n:TN=>if n.file= -1 then(1:Int)else 0) he);have hBb:=NN (pI ns []);have hk0:=ahP.out [];have hB1:=WU ahP.out (ns.take i);have hB2:=WV (ns.take i);rw[qL,xZ aD]at hB1 hB2;(have hBB: -1000000<=B/\B<=1000000:=by have:=hBI.out.1;omega);(have hII: -1000000<=I/\I<=1000000:=by have:=hBI.out.2;omega);have aJ7:=Lh hBB;have aJ8:=Lh hII;clear hx hcell hS he hBb hk0 hB1 hB2 hBB hII;by_cases hd:n.file= -1
  ·(have hq:(n.file== -1)=true:=by rw[hd];rfl);have hd':=Lh hd;(have hkk:=fun W hW=>arS.out W hW n.path);(have hdd:=fun W=>RI (k:=pI ns n.path) (by have:=ahP.out n.path;omega) W);have hDb:=NN (pI ns n.path);have aET:=ahP.out n.path;obtain⟨D,hD⟩:∃D,yP (pI ns n.path)=D:=⟨_,rfl⟩;rw[hD]at hdd hDb;obtain⟨kk,aEU⟩:∃kk,pI ns n.path=kk:=⟨_,rfl⟩;rw[aEU]at hkk hdd hDb aET;(have hpp:=fun W=>WS (B:=B) (I:=I) (C:=D) (J:=1) aJ7.out aJ8.out aD aD W);have aJ9:=Lh hkk;have aAA:=Lh hdd;have aAB:=Lh hpp;have hE0:=And.intro y0 (And.intro y1 (And.intro z0 (And.intro z1 x0)));have hD':=Lh hD;unfold zG at*;clear hd hkk hdd hpp hD aEU hDb aET;go_wp2_with fail;refine rZ (S:=fun w'=>w'.cell? ⟨w2.heap.size,0,none⟩=some (iV B)/\w'.cell? ⟨w2.heap.size,1,none⟩=some (iV I)/\w'.cell? ⟨w.heap.size,0,none⟩=some (.slice (some ⟨g,o,none⟩) ns.length ca1)/\w'.cell? ⟨w.heap.size,1,none⟩=some (.slice A2 fs.length ca2)/\w'.cell? ⟨g,o+i*3,none⟩=some (.string ⟨n.path.toArray⟩)) 12 fH ?_;simp only[kE,kR,rT,Nat.reduceAdd];refine oM (i:=0) (v:=?_) hE0 rfl ?_ ?_;rotate_left
   ·exact Z9
   simp only[Act.put,gD];refine oM (i:=1) (v:=?_) hE0 rfl ?_ ?_;rotate_left
   ·exact Z9
   simp only[Act.put,gD];refine oM (i:=2) (v:=?_) hE0 rfl ?_ ?_;rotate_left
   ·exact Z9
   simp only[Act.put,gD];refine oM (i:=3) (v:=?_) hE0 rfl ?_ ?_;rotate_left
   ·exact Z9
   simp only[Act.put,gD];refine oM (i:=4) (v:=?_) hE0 rfl ?_ ?_;rotate_left
   ·exact Z9
   simp only[Act.put,gD];refine oM (i:=5) (v:=?_) hE0 rfl ?_ ?_;rotate_left
   ·exact Z9
   simp only[Act.put,gD];refine oM (i:=6) (v:=?_) hE0 rfl ?_ ?_;rotate_left
   ·exact Z9
   simp only[Act.put,gD];refine oM (i:=7) (v:=?_) hE0 rfl ?_ ?_;rotate_left
   ·exact Z9
   simp only[Act.put,gD];refine pX (i:=8) fH rfl (fun K hK=>?_);go_simp;go_at_call 34;refine(aJ9.out _ hS'.out.drew.below).mono ?_;rintro e w3 ⟨Ak2,ck2,rfl,hb3⟩;have dX:=hS'.out.drew.pure hb3;obtain⟨q0,q1,q2,q3⟩:=hcl'.out _ _ _ dX;have NF:=And.intro q0 (And.intro q1 (And.intro q2 (And.intro q3 ((hx'.out _ dX.below).1))));clear q0 q1 q2 q3;dsimp only;refine hK _ _ (fun _=>NF) ?_;clear hK K;(try simp only[Act.put,gD]);refine pX (i:=9) fH rfl (fun K hK=>?_);go_simp;refine hK _ _ (fun _=>NF) ?_;clear hK K;(try simp only[Act.put,gD]);refine pX (i:=10) fH rfl (fun K hK=>?_);go_simp;go_at_call 33;refine(aAA.out _).mono ?_;rintro e w4 ⟨rfl,aAC⟩;have kD:=dX.pure aAC;obtain⟨q0,q1,q2,q3⟩:=hcl'.out _ _ _ kD;have arT:=And.intro q0 (And.intro q1 (And.intro q2 (And.intro q3 ((hx'.out _ kD.below).1))));clear q0 q1 q2 q3;dsimp only;refine hK _ _ (fun _=>arT) ?_;clear hK K;(try simp only[Act.put,gD]);refine pX (i:=11) fH rfl (fun K hK=>?_);go_simp;go_at_call 35;refine(aAB.out _).mono ?_;rintro e w5 ⟨rfl,aAD⟩;have hS5:=kD.pure aAD;obtain⟨q0,q1,q2,q3⟩:=hcl'.out _ _ _ hS5;have arU:=And.intro q0 (And.intro q1 (And.intro q2 (And.intro q3 ((hx'.out _ hS5.below).1))));clear q0 q1 q2 q3;dsimp only;refine hK _ _ (fun _=>arU) ?_;clear hK K;(try simp only[Act.put,gD]);obtain⟨q0,q1,q2,q3,q4⟩:=arU;have f0:=hS5.bF 0 rfl 0;have f1:=hS5.bF 0 rfl 1;refine pX (i:=12) fH rfl (fun K hK=>?_);go_simp;refine hK _ _ (fun h=>absurd rfl h) ?_;clear hK K;(try simp only[Act.put,gD]);refine aQ fH ?_ _;have lG:=Lh ((hS5.bS 0 rfl 0 (.int .i64 (B+D))).bS 0 rfl 1 (.int .i64 (I+1)));clear q0 q1 q2 q3 q4 f0 f1 hS5 kD arT dX NF hE0;go_wp2_with fail;go_roundw
   case rel=>refine⟨i+1,B+D,I+1,by omega,by go_num,Lh ?_,lG.out⟩;have g1:=hsB.out;have g2:=hsI.out;simp only[if_pos hd'.out,hD'.out]at g1 g2;exact Z69
   case measure=>(simp[intOf];omega)
  (have hq:(n.file== -1)=false:=by simpa using hd);have hd':=Lh hd;clear hd;go_wp2_with fail;go_roundw
  case rel=>refine⟨i+1,B,I,by omega,by go_num,Lh ?_,hS'.out⟩;have g1:=hsB.out;have g2:=hsI.out;simp only[if_neg hd'.out]at g1 g2;exact Z69
  case measure=>(simp[intOf];omega)
 have c22:¬(i:Int)<(ns.length:Int):=by omega
 have aAE:Hid (B=yP (pI ns [])+dnB (pI ns) ns/\I=1+dnI ns):=by have e:ns.take i=ns:=qH aD;have h:=hBI.out;rw[e]at h;exact h
 have hS':=Lh hS;clear hS hBI;go_wp2_with fail;clear z0 z1 y0 y1;go_loopw[5] (fun iv wr=>∃(j:Nat) (C J:Int),j<=fs.length/\iv=iV j/\Hid (C=B+dfB (fs.take j)/\J=I+j)/\Sep w wr [.box w2.heap.size 33 #[iV C,iV J],.box (w.heap.size+1) 33 #[iV 0,iV 0],.box w.heap.size 25 #[.slice A1 ns.length ca1,.slice A2 fs.length ca2]]) (fun iv _=>fs.length-(intOf iv).toNat)
 case atStart=>exact⟨0,B,I,gI _,rfl,Lh (by simp[dfB]),hS'.out⟩
 obtain⟨j,C,J,hj,rfl,hCJ,hS⟩:=hrel;have d0:(0:Int)<=(j:Int):=by omega
 obtain⟨y0,y1,z0,z1⟩:=hcl'.out _ _ _ hS;by_cases hlt2:j<fs.length
 ·(have d2:(j:Int)<(fs.length:Int):=by omega);obtain⟨g,o,c,e,_,_,_,hcell⟩:=EB.out.place aD aV;cases e;obtain⟨f,he⟩:∃f,fs[j]? =some f:=⟨_,gE hlt2⟩;obtain⟨u,hu⟩:∃u,vs[j]? =some u:=⟨_,gE (by rw[h'.out.len];exact hlt2)⟩;obtain⟨A,c9,rfl,_⟩:=(h'.out.data j u f hu he).shape;(have hx:=fun(W:World) (hW:Below w.heap.size w W)=>(hcell _ hW (j*2+1) aD).trans (fE he hu 1 aD));simp only[tfC,gB,gC,<-tC]at hx;have x1:=hx _ hS.below;have hx':=Lh hx;have hfs:=hsz'.out f (gG he);have hsF:=Lh (RN (fun f:TF=>vD f.size) he);have hBb:=NN (pI ns []);have hk0:=ahP.out [];have hB1:=WU ahP.out ns;have hB2:=WV ns;(have hB3:=am8 (fs:=fs.take j) fun f hf=>hsz'.out f (zX hf));rw[qL,xZ aD]at hB3;(have hBB: -1000000<=C/\C<=1000000:=by have:=aAE.out.1;have:=hCJ.out.1;omega);(have hII: -1000000<=J/\J<=1000000:=by have:=aAE.out.2;have:=hCJ.out.2;omega);(have hDb:0<=vD f.size/\vD f.size<=3000:=by unfold vD;split<;>omega);(have hdd:=fun W=>adQ hfs W);obtain⟨D,hD⟩:∃D,vD f.size=D:=⟨_,rfl⟩;rw[hD]at hdd hDb;(have hpp:=fun W=>WS (B:=C) (I:=J) (C:=D) (J:=1) hBB hII aD aD W);have aAA:=Lh hdd;have aAB:=Lh hpp;have dX:=hS;have hE0:=And.intro y0 (And.intro y1 (And.intro z0 (And.intro z1 x1)));have hD':=Lh hD;unfold zG at*;clear hx hcell he hu hBb hk0 hB1 hB2 hB3 hBB hII hdd hpp hD hDb;go_wp2_with fail;refine rZ (S:=fun w'=>w'.cell? ⟨w2.heap.size,0,none⟩=some (iV C)/\w'.cell? ⟨w2.heap.size,1,none⟩=some (iV J)/\w'.cell? ⟨w.heap.size,0,none⟩=some (.slice A1 ns.length ca1)/\w'.cell? ⟨w.heap.size,1,none⟩=some (.slice (some ⟨g,o,none⟩) fs.length ca2)/\w'.cell? ⟨g,o+j*2+1,none⟩=some (.slice A f.size c9)) 10 fH ?_;simp only[kE,kR,rT,Nat.reduceAdd];refine oM (i:=0) (v:=?_) hE0 rfl ?_ ?_;rotate_left
  ·exact Z9
  simp only[Act.put,gD];refine oM (i:=1) (v:=?_) hE0 rfl ?_ ?_;rotate_left
  ·exact Z9
  simp only[Act.put,gD];refine oM (i:=2) (v:=?_) hE0 rfl ?_ ?_;rotate_left
  ·exact Z9
  simp only[Act.put,gD];refine oM (i:=3) (v:=?_) hE0 rfl ?_ ?_;rotate_left
  ·exact Z9
  simp only[Act.put,gD];refine oM (i:=4) (v:=?_) hE0 rfl ?_ ?_;rotate_left
  ·exact Z9
  simp only[Act.put,gD];refine oM (i:=5) (v:=?_) hE0 rfl ?_ ?_;rotate_left
  ·exact Z9
  simp only[Act.put,gD];refine oM (i:=6) (v:=?_) hE0 rfl ?_ ?_;rotate_left
  ·exact Z9
  simp only[Act.put,gD];refine pX (i:=7) fH rfl (fun K hK=>?_);go_simp;refine hK _ _ (fun _=>And.intro y0 (And.intro y1 (And.intro z0 (And.intro z1 x1)))) ?_;clear hK K;(try simp only[Act.put,gD]);refine pX (i:=8) fH rfl (fun K hK=>?_);go_simp;go_at_call 36;refine(aAA.out _).mono ?_;rintro e w4 ⟨rfl,aAC⟩;have kD:=dX.drew.pure aAC;obtain⟨q0,q1,q2,q3⟩:=hcl'.out _ _ _ kD;have arT:=And.intro q0 (And.intro q1 (And.intro q2 (And.intro q3 (hx'.out _ kD.below))));clear q0 q1 q2 q3;dsimp only;refine hK _ _ (fun _=>arT) ?_;clear hK K;(try simp only[Act.put,gD]);refine pX (i:=9) fH rfl (fun K hK=>?_);go_simp;go_at_call 35;refine(aAB.out _).mono ?_;rintro e w5 ⟨rfl,aAD⟩;have hS5:=kD.pure aAD;obtain⟨q0,q1,q2,q3⟩:=hcl'.out _ _ _ hS5;have arU:=And.intro q0 (And.intro q1 (And.intro q2 (And.intro q3 (hx'.out _ hS5.below))));clear q0 q1 q2 q3;dsimp only;refine hK _ _ (fun _=>arU) ?_;clear hK K;(try simp only[Act.put,gD]);obtain⟨q0,q1,q2,q3,q4⟩:=arU;have f0:=hS5.bF 0 rfl 0;have f1:=hS5.bF 0 rfl 1;refine pX (i:=10) fH rfl (fun K hK=>?_);go_simp;refine hK _ _ (fun h=>absurd rfl h) ?_;clear hK K;(try simp only[Act.put,gD]);refine aQ fH ?_ _;have lG:=Lh ((hS5.bS 0 rfl 0 (.int .i64 (C+D))).bS 0 rfl 1 (.int .i64 (J+1)));clear q0 q1 q2 q3 q4 f0 f1 hS5 kD arT dX hE0 hS;go_wp2_with fail;go_roundw
  case rel=>refine⟨j+1,C+D,J+1,by omega,by go_num,Lh ?_,lG.out⟩;have g1:=hsF.out;simp only[hD'.out]at g1;obtain⟨g3,g4⟩:=hCJ.out;unfold dfB at g3 ⊢;exact⟨by rw[g1,g3];omega,by rw[g4];omega⟩
  case measure=>(simp[intOf];omega)
 have d22:¬(j:Int)<(fs.length:Int):=by omega
 have hfin:C=wdB ns fs/\J=wdI ns fs:=by have e:fs.take j=fs:=qH aD;have h:=hCJ.out;rw[e]at h;have h2:=aAE.out;(have h3:j=fs.length:=by omega);unfold wdB wdI;exact⟨by rw[h.1,h2.1],by rw[h.2,h2.2,h3]⟩
 obtain⟨e1,e2⟩:=hfin;have e1':=Lh e1;have e2':=Lh e2;have q0:=hS.bC 1 rfl 0;have q1:=hS.bC 1 rfl 1;have f0:=hS.bF 1 rfl 0;have f1:=hS.bF 1 rfl 1;simp only[gA,gB,gC]at q0 q1;have lG:=(hS.bS 1 rfl 0 (.int .i64 C)).bS 1 rfl 1 (.int .i64 J);have r0:=lG.bC 1 rfl 0;have r1:=lG.bC 1 rfl 1;have r0':=Lh r0;have r1':=Lh r1;have aAF:=Lh lG;clear lG r0 r1 hS e1 e2 hCJ;go_wp2_with fail;refine bodyPost_ret (EW rfl rfl r0'.out r1'.out) rfl ?_;exact⟨by rw[<-e1'.out,<-e2'.out];rfl,aAF.out.below⟩
end Go.Proofs.YtmjomdkleikgbaaGreat
namespace Go.Proofs.YtmjomdkleikgbaaGreat
theorem rH :∀(k:Nat) {p q:List UInt8},p.length<=k->splitB p=splitB q->p=q
 |k,p,q,hk,h=>by
  rcases kM p with⟨_,_,h1⟩|⟨a,b,e,_,_,h1⟩<;>rcases kM q with⟨_,_,h2⟩|⟨c,d,e2,_,_,h2⟩
  ·rw[h1,h2]at h;exact(List.cons.inj h).1
  ·rw[h1,h2]at h;have:=congrArg List.length h;have h5:=gK c;(have h6:(splitB c).length≠0:=fun e=>h5 (vL e));rw[jL,oK,oK]at this;omega
  ·rw[h1,h2]at h;have:=congrArg List.length h;have h5:=gK a;(have h6:(splitB a).length≠0:=fun e=>h5 (vL e));rw[jL,oK,oK]at this;omega
  rw[h1,h2]at h;obtain⟨h3,h4⟩:=List.append_inj' h rfl;cases k with
  |zero=>rw[e]at hk;simp at hk
  |succ k=>have:=rH k (p:=a) (q:=c) (by rw[e]at hk;simp at hk;omega) h3;rw[e,e2,this,(List.cons.inj h4).1]
theorem arV (ns:List TN) (hv:∀n∈ns,aU n.path=true) {p:List UInt8} (hp:p≠[]):dM ns (splitB p)=pI ns p:=by
 unfold dM eX pI;rw[<-ao1];apply List.countP_congr;intro n hn;rw[sK,tX];unfold bD aW;rw[if_pos (hv n hn)];rcases kM n.path with⟨_,h2,h1⟩|⟨a,b,e,_,h2,h1⟩
 ·rw[h1,h2];constructor
  ·intro h;exact absurd h.symm (gK p)
  intro h;exact absurd h.symm hp
 rw[h1,TK,h2];have e5:n.path.take a.length=a:=by rw[e,U6];rfl
 rw[e5];exact⟨fun h=>rH _ (iB _) h,fun h=>by rw[h]⟩
theorem arW (ns:List TN) (hv:∀n∈ns,aU n.path=true):dM ns []=pI ns []:=by
 unfold dM eX pI;rw[<-ao1];apply List.countP_congr;intro n hn;rw[sK,tX];unfold bD aW;rw[if_pos (hv n hn)];rcases kM n.path with⟨_,h2,h1⟩|⟨a,b,e,_,h2,h1⟩
 ·rw[h1,h2];exact⟨fun _=>rfl,fun _=>rfl⟩
 rw[h1,TK,h2];have e5:n.path.take a.length=a:=by rw[e,U6];rfl
 rw[e5];constructor
 ·intro h;exact absurd h (gK a)
 intro h;have hv2:=hv n hn;rw[e,h]at hv2;exact absurd hv2 (by simp[aU,FH])
open Go.RowKit
theorem ahQ :(Tryz.prog.info? 5).map (fun i=>(i.zero,i.size,i.bytes))=some (some (.int .u8 0),1,1):=by kernel_rfl
theorem ahR :(Tryz.prog.info? 68).map (fun i=>(i.zero,i.size,i.bytes))=some (some (.agg #[.string ⟨#[]⟩,iV 0,iV 0]),3,32):=by kernel_rfl
theorem ahS :(Tryz.prog.info? 71).map (fun i=>(i.zero,i.size,i.bytes))=some (some (.agg #[iV 0,.slice none 0 0]),2,32):=by kernel_rfl
theorem UL {α β:Type} (E:α->β) {l:List α} {i:Nat} {p:α} (h:l[i]? =some p):(l.take (i+1)).map E=(l.take i).map E++[E p]:=by rw[pE,h,mV];rfl
theorem oC {α:Type} {P:List α->Prop} (h0:P []) (h1:∀xs x,P xs->P (xs++[x])) (xs:List α):P xs:=by
 rw[<-List.reverse_reverse xs]
 induction xs.reverse with
 |nil=>exact h0
 |cons a l ih=>rw[List.reverse_cons];exact h1 _ _ ih
theorem awC {ids:List Int} {a:Int} (h:a∈ids) (l:List Int):(ids++l).idxOf a=ids.idxOf a:=by rw[List.idxOf_append,if_pos h]
def fA (xs:List TN):List Int:=xs.foldl (fun ids n=>if n.file<0 then ids else if n.file∈ids then ids else ids++[n.file]) []
theorem kF (xs:List TN) (n:TN):fA (xs++[n])=if n.file<0 then fA xs else if n.file∈fA xs then fA xs else fA xs++[n.file]:=by unfold fA;rw[OC];rfl
def lK (ids:List Int) (n:TN):TN:=if n.file<0 then n else⟨n.path,(ids.idxOf n.file:Nat),n.mode⟩
theorem nC (xs:List TN):∀n∈xs,¬n.file<0->n.file∈fA xs:=by
 refine oC (P:=fun xs=>∀n∈xs,¬n.file<0->n.file∈fA xs) ?_ ?_ xs
 ·intro n hn;cases hn
 intro xs m ih;intro n hn hf;rw[kF];rcases iN.1 hn with hn|hn
 ·have:=ih n hn hf;split
  ·exact this
  split
  ·exact this
  exact vN _ this
 have e:n=m:=by simpa using hn
 subst e;rw[if_neg hf];split
 ·assumption
 simp
theorem yQ (xs:List TN):∀id∈fA xs,∃n∈xs,n.file=id/\¬n.file<0:=by
 refine oC (P:=fun xs=>∀id∈fA xs,∃n∈xs,n.file=id/\¬n.file<0) ?_ ?_ xs
 ·intro id h;cases h
 intro xs m ih;intro id h;rw[kF]at h;have key:id∈fA xs->∃n∈xs++[m],n.file=id/\¬n.file<0:=fun h=>by obtain⟨n,h1,h2⟩:=ih id h;exact⟨n,vN _ h1,h2⟩
 split at h
 ·exact key h
 split at h
 ·exact key h
 rcases iN.1 h with h|h
 ·exact key h
 have e:id=m.file:=by simpa using h
 subst e;exact⟨m,by simp,rfl,by assumption⟩
theorem RO (xs:List TN):(fA xs).length<=xs.length:=by
 refine oC (P:=fun xs=>(fA xs).length<=xs.length) ?_ ?_ xs
 ·exact iB _
 intro xs m ih;rw[kF,jL,oK];split
 ·omega
 split
 ·omega
 rw[jL,oK];omega
theorem WW {xs:List TN} {ids:List Int} (h:∀n∈xs,¬n.file<0->n.file∈ids) (id:Int):xs.map (lK (ids++[id]))=xs.map (lK ids):=by
 apply uH;intro n hn;unfold lK;split
 ·rfl
 rename_i hf;rw[awC (h n hn hf)]
theorem aaC {fs:List TF} {vs:List Value} (h:vs.length=fs.length) (f:TF) (u:Value):iE (fs++[f]) (vs++[u])=iE fs vs++[.int .i64 f.mode,u]:=by unfold iE;rw[List.zip_append h.symm,YE];rfl
def JC (xs:List TN) (p:List UInt8):Nat:=(xs.takeWhile fun m=>Op.bytesLess m.path p).length
def am9 (xs:List TN) (n:TN):List TN:=xs.take (JC xs n.path)++n::xs.drop (JC xs n.path)
def jA (ns:List TN):List TN:=ns.foldl am9 []
theorem RP (xs:List TN) (n:TN):jA (xs++[n])=am9 (jA xs) n:=by unfold jA;rw[OC];rfl
theorem anA (xs:List TN) (n:TN):(am9 xs n).Perm (n::xs):=by unfold am9;refine lZ.trans ?_;rw[D7]
theorem lX (ns:List TN):(jA ns).Perm ns:=by refine oC (P:=fun ns=>(jA ns).Perm ns) (EJ _) (fun xs x ih=>?_) ns;rw[RP];exact(anA _ _).trans ((ih.cons x).trans (aaZ _ _).symm)
theorem WX (ns:List TN):(jA ns).length=ns.length:=(lX ns).length_eq
theorem BS (xs ys:List TN):cZ (xs++ys)=cZ xs++cZ ys:=by unfold cZ;rw[YE]
theorem ay3 (n:TN):cZ [n]=[aC n.path,.int .i64 n.file,.int .i64 n.mode]:=rfl
theorem MX (xs:List TN):∀u∈cZ xs,u.oneCell'=true:=by intro u hu;unfold cZ at hu;rw[List.mem_flatMap]at hu;obtain⟨n,_,h⟩:=hu;simp only[GG,kC,D8,or_false]at h;rcases h with rfl|rfl|rfl<;>rfl
def mG (fs:List TF) (id:Int):TF:=fs.getD id.toNat ⟨0,[]⟩
def KU (ns:List TN):List TN:=(jA ns).map (lK (fA (jA ns)))
def KV (ns:List TN) (fs:List TF):List TF:=(fA (jA ns)).map (mG fs)
def wS (xs:List TN) (ids:List Int) (i:Nat):List TN:=(xs.take i).map (lK ids)++xs.drop i
theorem NP {xs:List TN} {ids:List Int} {i:Nat} {n:TN} (h:xs[i]? =some n):(wS xs ids i)[i]? =some n:=by have hi:=(gF.1 h).1;unfold wS;rw[vM EN,iM,qL,xZ aD,FB,zY];simpa using h
theorem WY {xs:List TN} {ids:List Int} {i:Nat} {n:TN} (h:xs[i]? =some n):wS xs ids (i+1)=(wS xs ids i).set i (lK ids n):=by have hi:=(gF.1 h).1;unfold wS;rw[UL _ h,aa4 _ _ EN,iM,qL,xZ aD,FB,aaV hi,pJ];rfl
theorem arX (xs:List TN) (ids:List Int):wS xs ids xs.length=xs.map (lK ids):=by unfold wS;rw[NY,List.drop_length,yX44]
theorem arY {xs:List TN} {ids:List Int} {i:Nat} (h:∀n∈xs.take i,¬n.file<0->n.file∈ids) (id:Int):wS xs (ids++[id]) i=wS xs ids i:=by unfold wS;rw[WW h]
theorem zI {xs:List TN} {i:Nat} {n:TN} (h:xs[i]? =some n) (x:Int):(cZ xs).set (i*3+1) (.int .i64 x)=cZ (xs.set i ⟨n.path,x,n.mode⟩):=by
 have hi:=(gF.1 h).1;have e1:xs=xs.take i++n::xs.drop (i+1):=(rV h).1;have e2:xs.set i ⟨n.path,x,n.mode⟩=xs.take i++⟨n.path,x,n.mode⟩::xs.drop (i+1):=(rV h).2 _;have hl:(cZ (xs.take i)).length=i*3:=by rw[adH,qL,xZ aD]
 rw[e2]
 conv=>lhs;rw[e1]
 rw[BS,BS,aa4 _ _ aD,hl,show i*3+1-i*3=1 by omega];rfl
theorem nD {p:List UInt8} (h:aU p=true):p≠[]:=fun e=>by subst e;revert h;decide
theorem WZ :∀(p:List UInt8) (k:Nat),k<p.length->Op.bytesLess (p.take k) p=true
 |[],k,h=>by simp at h
 |a::p,0,_=>by simp[Op.bytesLess]
 |a::p,k+1,h=>by rw[UZ];unfold Op.bytesLess;rw[WZ p k (by simpa using h)];simp
theorem anB {p:List UInt8} (h:p≠[]):nA p<p.length:=by
 rcases kM p with⟨_,h0,_⟩|⟨a,b,e,_,hs,_⟩
 ·rw[h0];exact List.length_pos_iff.2 h
 rw[hs];have:=congrArg List.length e;rw[jL,kR]at this;omega
theorem BU {p:List UInt8} (h:aU p=true):Op.bytesLess (aW p) p=true:=by unfold aW;rw[if_pos h];exact WZ p _ (anB (nD h))
theorem aAG {p q:List UInt8} (h:Op.bytesLess q p=true):ahC p q=false:=by unfold ahC;rw[adI h,zZ,jM];intro e;rw[e,mD]at h;cases h
theorem RQ {pre:List TN} {p:List UInt8} (h:∀m∈pre,m.path≠p):qB pre p=if p=[]then 1 else 0:=by
 revert h;refine oC (P:=fun pre=>(∀m∈pre,m.path≠p)->qB pre p=if p=[]then 1 else 0) ?_ ?_ pre
 ·intro _;rfl
 intro xs x ih h;rw[vB,if_neg (h x bL)];exact ih fun m hm=>h m (vN _ hm)
theorem XA {pre:List TN} {m:TN} (hne:pre.Pairwise fun a b=>a.path≠b.path) (h:m∈pre):qB pre m.path=if m.file= -1 then 1 else 2:=by
 revert hne h;refine oC (P:=fun pre=>pre.Pairwise (fun a b=>a.path≠b.path)->m∈pre->qB pre m.path=if m.file= -1 then 1 else 2) ?_ ?_ pre
 ·intro _ h;cases h
 intro xs x ih hne h;rw[vB];rw[OE]at hne;rcases iN.1 h with h|h
 ·rw[if_neg (fun e=>hne.2.2 m h x bL e.symm)];exact ih hne.1 h
 have e:m=x:=by simpa using h
 subst e;rw[if_pos rfl]
theorem awD {ns:List TN} {fl:Nat}:∀ {j m:Nat},nO ns fl j=some m->j<=ns.length->∀i,i<j->∀n,ns[i]? =some n->∃k,nO ns fl i=some k/\sU ns fl i k n=true/\gU k n<=m:=by
 intro j
 induction j with
 |zero=>intro m _ _ i hi;omega
 |succ j ih=>
  intro m h hjl i hi n hn;cases hr:nO ns fl j with
  |none=>rw[WT hr 1]at h;cases h
  |some k=>
   have hj:ns[j]? =some ns[j]:=gE aD;rw[xN hr hj]at h;split at h
   ·rename_i ho;cases h;by_cases hij:i=j
    ·subst hij;rw[hj]at hn;cases hn;exact⟨k,hr,ho,iB _⟩
    obtain⟨k2,h1,h2,h3⟩:=ih hr aD i aD n hn;exact⟨k2,h1,h2,by have:=RD k ns[j];omega⟩
   cases h
theorem anC {ns:List TN} (h:∀(i:Nat) (n:TN),0<i->ns[i]? =some n->Op.bytesLess (iH ns i) n.path=true):ns.Pairwise fun a b=>Op.bytesLess a.path b.path=true:=by
 rw[EK];intro i j hi hj hij;obtain⟨d,rfl⟩:∃d,j=i+1+d:=⟨j-i-1,by omega⟩;clear hij
 induction d with
 |zero=>have h1:=h (i+1) _ aD (gE hj);rw[FV (gE hi)]at h1;exact h1
 |succ d ih=>have h1:=ih aD;have h2:=h (i+1+d+1) _ aD (gE hj);rw[FV (gE (by omega:i+1+d<ns.length))]at h2;exact qC h1 h2
theorem anD {ns:List TN} (hne:ns.Pairwise fun a b=>a.path≠b.path) {m:TN} (hm:m∈ns):I9 ns m.path=some m:=by
 induction ns with
 |nil=>cases hm
 |cons a ns ih=>
  obtain⟨h1,h2⟩:=List.pairwise_cons.1 hne;unfold I9 at ih ⊢;rw[JS];rcases kC.1 hm with rfl|hm
  ·simp
  (have:(a.path==m.path)=false:=by simpa using h1 m hm);rw[this];exact ih h2 hm
theorem anE {ns:List TN} {fl:Nat} (h:nO ns fl ns.length=some fl):runK ns ns.length=some fl:=by
 have hat:=fun i n hn=>awD h (iB _) i (gF.1 hn).1 n hn
 have hsort:=anC fun i n hi hn=>by
  obtain⟨k,_,h2,_⟩:=hat i n hn;rcases(qE.1 h2).1.1.2 with h3|h3
  ·omega
  exact h3
 have hne:ns.Pairwise fun a b=>a.path≠b.path:=hsort.imp fun {a b} hl e=>by rw[e,mD]at hl;cases hl
 have hval:∀n∈ns,aU n.path=true:=fun n hn=>by obtain⟨i,hi⟩:=List.mem_iff_getElem?.1 hn;obtain⟨k,_,h2,_⟩:=hat i n hi;exact(qE.1 h2).1.1.1
 have key:∀i,i<=ns.length->runK ns i=nO ns fl i:=by
  intro i
  induction i with
  |zero=>intro _;rfl
  |succ i ih=>
   intro hi;have hn:ns[i]? =some ns[i]:=gE aD;obtain⟨k,h1,h2,_⟩:=hat i _ hn;have h3:=ih aD;rw[h1]at h3;rw[rG h3 hn,xN h1 hn,h2,if_pos rfl,if_pos];obtain⟨⟨⟨hv,aKA⟩,hup⟩,RL⟩:=qE.1 h2;(have htk:(ns.take i).Pairwise fun a b=>a.path≠b.path:=hne.sublist (ajC _ _));have hk1:qB (ns.take i) (aW ns[i].path)=1:=by
    unfold KT at hup;rw[MO,tX]at hup;rcases hup with h0|h0
    ·rw[h0,RQ fun m hm=>nD (hval m (zX hm))];rfl
    cases hf:I9 ns (aW ns[i].path)with
    |none=>rw[hf]at h0;cases h0
    |some m=>
     rw[hf]at h0;(have hmf:m.file= -1:=by simpa using h0);obtain⟨hmm,hmp⟩:=arQ hf;obtain⟨j,hj⟩:=List.mem_iff_getElem?.1 hmm;obtain⟨hjl,hje⟩:=gF.1 hj;have hless:=BU hv;have hji:j<i:=by
      rcases TM j i with h9|h9|h9
      ·exact h9
      ·subst h9;rw[hje]at hless hmp;rw[<-hmp,mD]at hless;cases hless
      have h8:=EK.1 hsort i j aD hjl h9;rw[hje,hmp]at h8;have:=qC h8 hless;rw[mD]at this;cases this
     (have hmt:m∈ns.take i:=by rw[List.mem_iff_getElem?];exact⟨j,by rw[vO,if_pos hji];exact hj⟩);rw[<-hmp,XA htk hmt,if_pos hmf]
   unfold iR;simp only[sJ,LA,tX];refine⟨⟨⟨⟨⟨hv,?_⟩,hk1⟩,?_⟩,?_⟩,?_⟩
   ·rcases aKA with h0|h0
    ·subst h0;unfold ahC;(have:Op.bytesLess ns[0].path (iH ns 0)=false:=by(show Op.bytesLess ns[0].path []=false);cases ns[0].path<;>simp[Op.bytesLess]);rw[this,zZ,jM];exact nD hv
    exact aAG h0
   ·rcases RL with⟨h0,_⟩|⟨_,_,h0,_⟩<;>omega
   ·rcases RL with⟨h0,_⟩|⟨_,_,_,h0,_⟩<;>omega
   rcases RL with⟨h0,h5⟩|⟨h0,h5,_⟩
   ·rw[if_pos h0];exact h5
   rw[if_neg h0];simpa using h5
 rw[key _ (iB _)];exact h
theorem anF {ns:List TN} {fl:Nat} (hn9:ns.length<=256) (hf9:fl<=256) (h:runK ns ns.length=some fl):nO ns fl ns.length=some fl:=by
 have ho:fT ns (List.replicate fl ⟨0,[]⟩):=⟨hn9,by rw[E8];exact hf9,fun f hf=>by rw[(List.mem_replicate.1 hf).2];exact gI _,fun f hf=>by rw[(List.mem_replicate.1 hf).2];rfl,by rw[E8];exact h⟩;have hne:=ho.ne;have key:∀i,i<=ns.length->nO ns fl i=runK ns i:=by
  intro i
  induction i with
  |zero=>intro _;rfl
  |succ i ih=>
   intro hi;have hn:ns[i]? =some ns[i]:=gE aD;obtain⟨k,h1,h2,h4⟩:=RF h i aD _ hn;have h3:=ih aD;rw[h1]at h3;rw[xN h3 hn,rG h1 hn,h2,if_pos rfl,if_pos];obtain⟨a,b,c,d,e,f,g⟩:=qD h2;refine qE.2 ⟨⟨⟨a,?_⟩,?_⟩,?_⟩
   ·rcases xW i with h0|h0
    ·exact Or.inl h0
    exact Or.inr b
   ·unfold KT;rw[MO,tX];by_cases h0:aW ns[i].path=[]
    ·exact Or.inl h0
    right;(have hex:∃m∈ns.take i,m.path=aW ns[i].path:=by(refine Decidable.byContradiction fun hno=>?_);(have h5:=RQ (pre:=ns.take i) (p:=aW ns[i].path) fun m hm e=>hno ⟨m,hm,e⟩);rw[c,if_neg h0]at h5;cases h5);obtain⟨m,hm,hmp⟩:=hex;have h5:=XA (hne.sublist (ajC i _)) hm;rw[hmp,c]at h5;(have hmf:m.file= -1:=by(refine Decidable.byContradiction fun hno=>?_);rw[if_neg hno]at h5;cases h5);rw[<-hmp,anD hne (zX hm)];simpa using hmf
   by_cases h0:ns[i].file= -1
   ·exact Or.inl ⟨h0,f h0⟩
   refine Or.inr ⟨h0,g h0,by omega,e,?_⟩;unfold gU at h4;split at h4<;>omega
 rw[key _ (iB _)];exact h
theorem ahT (ns:List TN) (fs:List TF):(if lV ns fs=true then 31 else if o6 ns fs=true then 0 else 30)=iI ns fs:=by
 unfold iI;cases hb:lV ns fs with
 |true=>rw[if_pos rfl,if_pos rfl]
 |false=>
  simp only[JO,if_false];unfold lV at hb;rw[YG,YG,afS,afS]at hb;obtain⟨⟨h1,h2⟩,_⟩:=hb;(have:o6 ns fs=true↔runK ns ns.length=some fs.length/\fs.all (fun f=>iA f.mode)=true:=by unfold o6;rw[sJ,tX];exact⟨fun⟨a,b⟩=>⟨anE a,b⟩,fun⟨a,b⟩=>⟨anF aD aD a,b⟩⟩);by_cases h:o6 ns fs=true
  ·rw[if_pos h,if_pos (this.1 h)]
  rw[if_neg h,if_neg (fun h3=>h (this.2 h3))]
end Go.Proofs.YtmjomdkleikgbaaGreat
