/- Parts. -/
import Derived.Test.YtmjomdkleikgbaaGreatK31
import Derived.Shelf.Slices.CompactI
import Derived.Lib.SlicesCompact
set_option linter.unusedVariables false
set_option linter.unusedSimpArgs false
set_option maxRecDepth 100000
set_option maxHeartbeats 20000000
namespace Go.Proofs.YtmjomdkleikgbaaGreat
open Go.RowKit
def zZ (ns:List TN) (p:List UInt8):List (List UInt8):=(ns.filter fun n=>decide (aZ n.path=p)).map (·.path)
theorem aiE {ns:List TN} {i:Nat} {n:TN} (h:ns[i]? =some n) (p:List UInt8):zZ (ns.take (i+1)) p=if aZ n.path=p then zZ (ns.take i) p++[n.path]else zZ (ns.take i) p:=by
 unfold zZ;rw[pI,h,FN,mZ];by_cases hp:aZ n.path=p
 ·rw[if_pos hp];simp[hp]
 rw[if_neg hp];simp[hp]
theorem asN (ns:List TN) (p:List UInt8):(zZ ns p).length<=ns.length:=by unfold zZ;rw[iJ];exact OJ _ _
theorem anZ (ns:List TN) (p:List UInt8):(zZ ns p).length=pK ns p:=by unfold zZ pK;rw[iJ];first |rfl|(rw[<-apT];try congr 1)
theorem aeO {w:World} {nv fv:Value} {ns:List TN} {fs:List TF} {vs:List Value} (h:gW w nv fv ns fs vs) (hm:mK ns fs) (p:List UInt8):
  Calls Tryz.prog 34 #[.agg #[nv,fv],aC p] w fun e w'=>∃v,e= .returned v/\Sep w w' [.sl 9 1 v (zZ ns p).length ((zZ ns p).map aC)]:=by
 have hS0:=(Sep.nil w).bN 25 #[nv,fv];have hnp:=h.nodes;obtain⟨A1,c1,rfl,hm1⟩:=h.nodes.shape;have asL:=fun(n:TN) (hn:n∈ns) (W:World)=>FH (p:=n.path) W (by have:=hm.short n hn;omega)
 have ak6:=Lh asL;have nU:=Lh hS0;have b1:(ns.length:Int)<=300:=by have:=hm.few;omega
 have U7:=Lh hnp;have hlen:=hm.few;obtain⟨i0,hif,hz0,hz1,hz2⟩:=info_parts XG;clear hm hS0 h hnp asL;unfold aC at*;go_enter Tryz.func34,Tryz.ntmps34;go_wp2_with fail;go_loopw[5,6] (fun ov iv wr=>∃(L:List Value) (i:Nat),i<=ns.length/\iv=iV i/\Hid (L=(zZ (ns.take i) p).map aC)/\Sep w wr [.sl 9 1 ov L.length L,.box w.heap.size 25 #[.slice A1 ns.length c1,fv]]) (fun _ iv _=>ns.length-(intOf iv).toNat)
 case atStart=>exact⟨[],0,fZ _,rfl,Lh rfl,nU.out.gZ _ _⟩
 obtain⟨L,i,hi,rfl,hL,hS⟩:=hrel;have c0:(0:Int)<=(i:Int):=by omega
 have z0:=hS.bC 1 rfl 0;simp only[gA,gB,gC]at z0;by_cases hlt:i<ns.length
 ·(have c2:(i:Int)<(ns.length:Int):=by omega);obtain⟨g,o,c,e,_,_,_,hcell⟩:=U7.out.place aD aR;cases e;obtain⟨n,he⟩:∃n,ns[i]? =some n:=⟨_,gE hlt⟩;(have hx:=fun(W:World) (hW:Below w.heap.size w W)=>(hcell _ hW (i*3+0) aD).trans (bL he 0 aD));simp only[F8,aC,gB,gC,<-sD,sF]at hx;have x0:=hx _ hS.below;have KP:=ak6.out n (gG he);have GD:=Lh KP;have hx':=Lh hx;have hS':=Lh hS;have hck:=Lh (aiE he p);(have hLl:L.length<=300:=by have:=asN (ns.take i) p;rw[hL.out,iJ];rw[qP]at this;omega);clear KP hx hcell hS he;by_cases hp:aZ n.path=p
  ·subst hp;rw[if_pos rfl]at hck;go_wp2_with(first |(go_at_call 89;refine(GD.out _).mono ?_;rintro e w2 ⟨rfl,hb2⟩;(have hS2:=hS'.out.pure hb2);(have y0:=hS2.bC 1 rfl 0);simp only[gA,gB,gC]at y0;(have y1:=hx'.out _ hS2.below);(have dQ:=hS2.alloc (.cells #[.string ⟨n.path.toArray⟩] 9));clear hS2 hb2)|(at_builtin;refine mQ 0 rfl _ _ 73 rfl 9 i0 (.string ⟨#[]⟩) 1 16 Tryz.underlying73 hif hz0 hz1 hz2 rfl aR dQ _ _ _ rfl rfl ⟨w2.heap.size,0,none⟩ 1 1 [.string ⟨n.path.toArray⟩] rfl rfl (cell_one_new _ _ _) oCl aR vX aD ?_));intro gg cc w3 jT hz;have ZG:=Lh jT;clear jT hz dQ;go_wp2_with fail;go_roundw
   case rel=>exact⟨L++[.string ⟨n.path.toArray⟩],i+1,by omega,by go_num,(by(show _=_);rw[hck.out,mZ,hL.out];rfl),(by rw[jM];exact ZG.out)⟩
   case measure=>(simp[intOf];omega)
  rw[if_neg hp]at hck;(have bp:(aZ n.path==p)=false:=by simpa using hp);have hp':=Lh hp;clear hp;go_wp2_with(go_at_call 89;refine(GD.out _).mono ?_;rintro e w2 ⟨rfl,hb2⟩;(have hS2:=hS'.out.pure hb2);replace hS2:=Lh hS2;clear hb2);go_roundw
  case rel=>exact⟨L,i+1,by omega,by go_num,(by(show _=_);rw[hck.out];exact hL.out),hS2.out⟩
  case measure=>(simp[intOf];omega)
 have c22:¬(i:Int)<(ns.length:Int):=by omega
 have hfin:L=(zZ ns p).map aC:=by rw[hL.out,pM aD]
 obtain⟨A9,c9,rfl,_⟩:=(hS.rd 0 rfl).shape;have hS':=Lh hS;have azU:=Lh hfin;clear hS hfin hL;go_wp2_with fail;go_ret;refine⟨_,rfl,?_⟩;have h9:=Sep.fst (X:=[_]) (Y:=[_]) hS'.out;rw[azU.out,iJ]at h9;rw[azU.out,iJ];exact h9
theorem aeP {w:World} {nv fv:Value} {ns:List TN} {fs:List TF} {vs:List Value} (h:gW w nv fv ns fs vs) (hm:mK ns fs) (p:List UInt8):
  Calls Tryz.prog 34 #[.agg #[nv,fv],aC p] w fun e w'=>∃A c,e= .returned (.slice A (pK ns p) c)/\Below w.heap.size w w':=by
 refine(aeO h hm p).mono ?_;rintro e w' ⟨v,rfl,hS⟩;obtain⟨A,c,rfl,_⟩:=(hS.rd 0 rfl).shape;exact⟨A,c,by rw[anZ],hS.below⟩
def dnB (K:List UInt8->Nat) (xs:List TN):Int:=(xs.map fun n=>if n.file= -1 then zC (K n.path)else 0).sum
def dnI (xs:List TN):Int:=(xs.map fun n=>if n.file= -1 then(1:Int)else 0).sum
def dfB (fs:List TF):Int:=(fs.map fun f=>vK f.size).sum
def wdB (ns:List TN) (fs:List TF):Int:=zC (pK ns [])+dnB (pK ns) ns+dfB fs
def wdI (ns:List TN) (fs:List TF):Int:=1+dnI ns+fs.length
theorem SL {α:Type} (f:α->Int) {l:List α} {i:Nat} {x:α} (h:l[i]? =some x):((l.take (i+1)).map f).sum=((l.take i).map f).sum+f x:=by rw[pI,h,mZ,LZ];simp
theorem ED {α:Type} (f:α->Int) (M:Int):∀(l:List α),(∀x∈l,0<=f x/\f x<=M)->0<=(l.map f).sum/\(l.map f).sum<=M*l.length
 |[],_=>by simp
 |x::l,h=>by obtain⟨h1,h2⟩:=h x bK;(obtain⟨h3,h4⟩:=ED f M l fun y hy=>h y (vR _ hy));rw[jV,qN,kH];refine⟨by omega,?_⟩;(have:M*((l.length+1:Nat):Int)=M*l.length+M:=by rw[VV,Int.mul_add];simp);omega
theorem OC (k:Nat):1<=zC k/\zC k<=k+1:=by rw[anX];exact aw8 k
theorem XL {K:List UInt8->Nat} (hK:∀p,K p<=300) (xs:List TN):0<=dnB K xs/\dnB K xs<=301*xs.length:=by
 refine ED _ 301 xs fun n _=>?_
 have:=OC (K n.path);have:=hK n.path;split<;>omega
theorem XM (xs:List TN):0<=dnI xs/\dnI xs<=1*xs.length:=by
 refine ED _ 1 xs fun n _=>?_
 split<;>omega
theorem an0 {fs:List TF} (h:∀f∈fs,f.size<=1048576):0<=dfB fs/\dfB fs<=3000*fs.length:=by
 refine ED _ 3000 fs fun f hf=>?_
 have:=h f hf;unfold vK;split<;>omega
theorem Z10 {P:Prop} (h:P:=by rintro w ⟨e1,e2,e3,e4,e5⟩;go_simp;try with_reducible rfl):P:=h
theorem Z75 {P:Prop} (h:P:=by obtain⟨g3,g4⟩:=hBI.out;simp only[dnB,dnI]at g3 g4 ⊢;exact⟨by rw[g1,g3];omega,by rw[g2,g4];omega⟩):P:=h
theorem U8 {w:World} {nv fv:Value} {ns:List TN} {fs:List TF} {vs:List Value} (h:gW w nv fv ns fs vs) (hm:mK ns fs):
  Calls Tryz.prog 13 #[.agg #[nv,fv]] w fun e w'=>e= .returned (zY (wdB ns fs) (wdI ns fs))/\Below w.heap.size w w':=by
 have hS0:=((Sep.nil w).bN 25 #[nv,fv]).bN 33 #[iV 0,iV 0];simp only[World.size_alloc]at hS0;have hnp:=h.nodes;have hfp:=h.files;have MZ:=fun(W:World) (hW:Below w.heap.size w W) (p:List UInt8)=>aeP (h.below hW) hm p
 obtain⟨A1,ca1,rfl,hm1⟩:=h.nodes.shape;obtain⟨A2,ca2,rfl,hm2⟩:=h.files.shape;have hK9:∀p,pK ns p<=300:=fun p=>AY (axB ns p) hm.few
 have b1:(ns.length:Int)<=300:=by have:=hm.few;omega
 have b2:(fs.length:Int)<=300:=by have:=hm.CK;omega
 have hsz:=hm.size;have asO:=Lh MZ;have nU:=Lh hS0;have U7:=Lh hnp;have EN:=Lh hfp;have h':=Lh h;have aiG:=Lh hK9;have hsz':=Lh hsz;have z0:=hS0.bC 1 rfl 0;have z1:=hS0.bC 1 rfl 1;simp only[gA,gB,gC]at z0 z1;clear hS0 h hm hnp hfp MZ hK9 hsz;go_enter Tryz.func13,Tryz.ntmps13;unfold aC at*;have hk0:=asO.out _ nU.out.below [];go_wp2_with(first |(go_at_call 34;refine hk0.mono ?_;rintro e w1 ⟨Ak,ck,rfl,hb1⟩;(have hS1:=nU.out.pure hb1);replace hS1:=Lh hS1;clear hb1)|(go_at_call 33;refine(SG (by have:=aiG.out [];omega) _).mono ?_;rintro e w2 ⟨rfl,hb2⟩;(have hS2:=(hS1.out.pure hb2).bN 33 #[iV (zC (pK ns [])),iV 1]);replace hS2:=Lh hS2;clear hb2;unfold zY));clear z0 z1 hk0;go_loopw[4] (fun iv wr=>∃(i:Nat) (B I:Int),i<=ns.length/\iv=iV i/\Hid (B=zC (pK ns [])+dnB (pK ns) (ns.take i)/\I=1+dnI (ns.take i))/\Sep w wr [.box w2.heap.size 33 #[iV B,iV I],.box (w.heap.size+1) 33 #[iV 0,iV 0],.box w.heap.size 25 #[.slice A1 ns.length ca1,.slice A2 fs.length ca2]]) (fun iv _=>ns.length-(intOf iv).toNat)
 case atStart=>exact⟨0,zC (pK ns []),1,fZ _,rfl,Lh (by simp[dnB,dnI]),hS2.out⟩
 obtain⟨i,B,I,hi,rfl,hBI,hS⟩:=hrel;have c0:(0:Int)<=(i:Int):=by omega
 have hcl:=fun(W:World) (B I:Int) (hS:Sep w W [.box w2.heap.size 33 #[iV B,iV I],.box (w.heap.size+1) 33 #[iV 0,iV 0],.box w.heap.size 25 #[.slice A1 ns.length ca1,.slice A2 fs.length ca2]])=>And.intro (hS.bC 0 rfl 0) (And.intro (hS.bC 0 rfl 1) (And.intro (hS.bC 2 rfl 0) (hS.bC 2 rfl 1)))
 simp only[gA,gB,gC]at hcl;obtain⟨y0,y1,z0,z1⟩:=hcl _ _ _ hS;have hcl':=Lh hcl;clear hcl;by_cases hlt:i<ns.length
 ·(have c2:(i:Int)<(ns.length:Int):=by omega);obtain⟨g,o,c,e,_,_,_,hcell⟩:=U7.out.place aD aR;cases e;obtain⟨n,he⟩:∃n,ns[i]? =some n:=⟨_,gE hlt⟩;(have hx:=fun(W:World) (hW:Below w.heap.size w W)=>And.intro ((hcell _ hW (i*3+0) aD).trans (bL he 0 aD)) ((hcell _ hW (i*3+1) aD).trans (bL he 1 aD)));simp only[F8,aC,gB,gC,<-sD,sF]at hx;obtain⟨x0,x1⟩:=hx _ hS.below;have hx':=Lh hx;have hS':=Lh hS;have hsB:=Lh (SL (fun n:TN=>if n.file= -1 then zC (pK ns n.path)else 0) he);have hsI:=Lh (SL (fun n:TN=>if n.file= -1 then(1:Int)else 0) he);have hBb:=OC (pK ns []);have hk0:=aiG.out [];have hB1:=XL aiG.out (ns.take i);have hB2:=XM (ns.take i);rw[qP,yN aD]at hB1 hB2;(have hBB: -1000000<=B/\B<=1000000:=by have:=hBI.out.1;omega);(have hII: -1000000<=I/\I<=1000000:=by have:=hBI.out.2;omega);have aK2:=Lh hBB;have aK3:=Lh hII;clear hx hcell hS he hBb hk0 hB1 hB2 hBB hII;by_cases hd:n.file= -1
  ·(have hq:(n.file== -1)=true:=by rw[hd];rfl);have hd':=Lh hd;(have hkk:=fun W hW=>asO.out W hW n.path);(have hdd:=fun W=>SG (k:=pK ns n.path) (by have:=aiG.out n.path;omega) W);have hDb:=OC (pK ns n.path);have aFR:=aiG.out n.path;obtain⟨D,hD⟩:∃D,zC (pK ns n.path)=D:=⟨_,rfl⟩;rw[hD]at hdd hDb;obtain⟨kk,aFS⟩:∃kk,pK ns n.path=kk:=⟨_,rfl⟩;rw[aFS]at hkk hdd hDb aFR;(have hpp:=fun W=>XJ (B:=B) (I:=I) (C:=D) (J:=1) aK2.out aK3.out aD aD W);have aK4:=Lh hkk;have aA0:=Lh hdd;have aA1:=Lh hpp;have hE0:=And.intro y0 (And.intro y1 (And.intro z0 (And.intro z1 x0)));have hD':=Lh hD;unfold zY at*;clear hd hkk hdd hpp hD aFS hDb aFR;go_wp2_with fail;refine sJ (S:=fun w'=>w'.cell? ⟨w2.heap.size,0,none⟩=some (iV B)/\w'.cell? ⟨w2.heap.size,1,none⟩=some (iV I)/\w'.cell? ⟨w.heap.size,0,none⟩=some (.slice (some ⟨g,o,none⟩) ns.length ca1)/\w'.cell? ⟨w.heap.size,1,none⟩=some (.slice A2 fs.length ca2)/\w'.cell? ⟨g,o+i*3,none⟩=some (.string ⟨n.path.toArray⟩)) 12 fE ?_;simp only[uB,kH,qQ,Nat.reduceAdd];refine oN (i:=0) (v:=?_) hE0 rfl ?_ ?_;rotate_left
   ·exact Z10
   simp only[Act.put,gD];refine oN (i:=1) (v:=?_) hE0 rfl ?_ ?_;rotate_left
   ·exact Z10
   simp only[Act.put,gD];refine oN (i:=2) (v:=?_) hE0 rfl ?_ ?_;rotate_left
   ·exact Z10
   simp only[Act.put,gD];refine oN (i:=3) (v:=?_) hE0 rfl ?_ ?_;rotate_left
   ·exact Z10
   simp only[Act.put,gD];refine oN (i:=4) (v:=?_) hE0 rfl ?_ ?_;rotate_left
   ·exact Z10
   simp only[Act.put,gD];refine oN (i:=5) (v:=?_) hE0 rfl ?_ ?_;rotate_left
   ·exact Z10
   simp only[Act.put,gD];refine oN (i:=6) (v:=?_) hE0 rfl ?_ ?_;rotate_left
   ·exact Z10
   simp only[Act.put,gD];refine oN (i:=7) (v:=?_) hE0 rfl ?_ ?_;rotate_left
   ·exact Z10
   simp only[Act.put,gD];refine p9 (i:=8) fE rfl (fun K hK=>?_);go_simp;go_at_call 34;refine(aK4.out _ hS'.out.drew.below).mono ?_;rintro e w3 ⟨Ak2,ck2,rfl,hb3⟩;have dQ:=hS'.out.drew.pure hb3;obtain⟨q0,q1,q2,q3⟩:=hcl'.out _ _ _ dQ;have E9:=And.intro q0 (And.intro q1 (And.intro q2 (And.intro q3 ((hx'.out _ dQ.below).1))));clear q0 q1 q2 q3;dsimp only;refine hK _ _ (fun _=>E9) ?_;clear hK K;(try simp only[Act.put,gD]);refine p9 (i:=9) fE rfl (fun K hK=>?_);go_simp;refine hK _ _ (fun _=>E9) ?_;clear hK K;(try simp only[Act.put,gD]);refine p9 (i:=10) fE rfl (fun K hK=>?_);go_simp;go_at_call 33;refine(aA0.out _).mono ?_;rintro e w4 ⟨rfl,aA2⟩;have jT:=dQ.pure aA2;obtain⟨q0,q1,q2,q3⟩:=hcl'.out _ _ _ jT;have asP:=And.intro q0 (And.intro q1 (And.intro q2 (And.intro q3 ((hx'.out _ jT.below).1))));clear q0 q1 q2 q3;dsimp only;refine hK _ _ (fun _=>asP) ?_;clear hK K;(try simp only[Act.put,gD]);refine p9 (i:=11) fE rfl (fun K hK=>?_);go_simp;go_at_call 35;refine(aA1.out _).mono ?_;rintro e w5 ⟨rfl,aA3⟩;have hS5:=jT.pure aA3;obtain⟨q0,q1,q2,q3⟩:=hcl'.out _ _ _ hS5;have asQ:=And.intro q0 (And.intro q1 (And.intro q2 (And.intro q3 ((hx'.out _ hS5.below).1))));clear q0 q1 q2 q3;dsimp only;refine hK _ _ (fun _=>asQ) ?_;clear hK K;(try simp only[Act.put,gD]);obtain⟨q0,q1,q2,q3,q4⟩:=asQ;have f0:=hS5.bF 0 rfl 0;have f1:=hS5.bF 0 rfl 1;refine p9 (i:=12) fE rfl (fun K hK=>?_);go_simp;refine hK _ _ (fun h=>absurd rfl h) ?_;clear hK K;(try simp only[Act.put,gD]);refine aQ fE ?_ _;have kM:=Lh ((hS5.bS 0 rfl 0 (.int .i64 (B+D))).bS 0 rfl 1 (.int .i64 (I+1)));clear q0 q1 q2 q3 q4 f0 f1 hS5 jT asP dQ E9 hE0;go_wp2_with fail;go_roundw
   case rel=>refine⟨i+1,B+D,I+1,by omega,by go_num,Lh ?_,kM.out⟩;have g1:=hsB.out;have g2:=hsI.out;simp only[if_pos hd'.out,hD'.out]at g1 g2;exact Z75
   case measure=>(simp[intOf];omega)
  (have hq:(n.file== -1)=false:=by simpa using hd);have hd':=Lh hd;clear hd;go_wp2_with fail;go_roundw
  case rel=>refine⟨i+1,B,I,by omega,by go_num,Lh ?_,hS'.out⟩;have g1:=hsB.out;have g2:=hsI.out;simp only[if_neg hd'.out]at g1 g2;exact Z75
  case measure=>(simp[intOf];omega)
 have c22:¬(i:Int)<(ns.length:Int):=by omega
 have aA4:Hid (B=zC (pK ns [])+dnB (pK ns) ns/\I=1+dnI ns):=by have e:ns.take i=ns:=pM aD;have h:=hBI.out;rw[e]at h;exact h
 have hS':=Lh hS;clear hS hBI;go_wp2_with fail;clear z0 z1 y0 y1;go_loopw[5] (fun iv wr=>∃(j:Nat) (C J:Int),j<=fs.length/\iv=iV j/\Hid (C=B+dfB (fs.take j)/\J=I+j)/\Sep w wr [.box w2.heap.size 33 #[iV C,iV J],.box (w.heap.size+1) 33 #[iV 0,iV 0],.box w.heap.size 25 #[.slice A1 ns.length ca1,.slice A2 fs.length ca2]]) (fun iv _=>fs.length-(intOf iv).toNat)
 case atStart=>exact⟨0,B,I,fZ _,rfl,Lh (by simp[dfB]),hS'.out⟩
 obtain⟨j,C,J,hj,rfl,hCJ,hS⟩:=hrel;have d0:(0:Int)<=(j:Int):=by omega
 obtain⟨y0,y1,z0,z1⟩:=hcl'.out _ _ _ hS;by_cases hlt2:j<fs.length
 ·(have d2:(j:Int)<(fs.length:Int):=by omega);obtain⟨g,o,c,e,_,_,_,hcell⟩:=EN.out.place aD aR;cases e;obtain⟨f,he⟩:∃f,fs[j]? =some f:=⟨_,gE hlt2⟩;obtain⟨u,hu⟩:∃u,vs[j]? =some u:=⟨_,gE (by rw[h'.out.len];exact hlt2)⟩;obtain⟨A,c9,rfl,_⟩:=(h'.out.data j u f hu he).shape;(have hx:=fun(W:World) (hW:Below w.heap.size w W)=>(hcell _ hW (j*2+1) aD).trans (eD he hu 1 aD));simp only[tfC,gB,gC,<-sD]at hx;have x1:=hx _ hS.below;have hx':=Lh hx;have hfs:=hsz'.out f (gG he);have hsF:=Lh (SL (fun f:TF=>vK f.size) he);have hBb:=OC (pK ns []);have hk0:=aiG.out [];have hB1:=XL aiG.out ns;have hB2:=XM ns;(have hB3:=an0 (fs:=fs.take j) fun f hf=>hsz'.out f (AJ hf));rw[qP,yN aD]at hB3;(have hBB: -1000000<=C/\C<=1000000:=by have:=aA4.out.1;have:=hCJ.out.1;omega);(have hII: -1000000<=J/\J<=1000000:=by have:=aA4.out.2;have:=hCJ.out.2;omega);(have hDb:0<=vK f.size/\vK f.size<=3000:=by unfold vK;split<;>omega);(have hdd:=fun W=>aeJ hfs W);obtain⟨D,hD⟩:∃D,vK f.size=D:=⟨_,rfl⟩;rw[hD]at hdd hDb;(have hpp:=fun W=>XJ (B:=C) (I:=J) (C:=D) (J:=1) hBB hII aD aD W);have aA0:=Lh hdd;have aA1:=Lh hpp;have dQ:=hS;have hE0:=And.intro y0 (And.intro y1 (And.intro z0 (And.intro z1 x1)));have hD':=Lh hD;unfold zY at*;clear hx hcell he hu hBb hk0 hB1 hB2 hB3 hBB hII hdd hpp hD hDb;go_wp2_with fail;refine sJ (S:=fun w'=>w'.cell? ⟨w2.heap.size,0,none⟩=some (iV C)/\w'.cell? ⟨w2.heap.size,1,none⟩=some (iV J)/\w'.cell? ⟨w.heap.size,0,none⟩=some (.slice A1 ns.length ca1)/\w'.cell? ⟨w.heap.size,1,none⟩=some (.slice (some ⟨g,o,none⟩) fs.length ca2)/\w'.cell? ⟨g,o+j*2+1,none⟩=some (.slice A f.size c9)) 10 fE ?_;simp only[uB,kH,qQ,Nat.reduceAdd];refine oN (i:=0) (v:=?_) hE0 rfl ?_ ?_;rotate_left
  ·exact Z10
  simp only[Act.put,gD];refine oN (i:=1) (v:=?_) hE0 rfl ?_ ?_;rotate_left
  ·exact Z10
  simp only[Act.put,gD];refine oN (i:=2) (v:=?_) hE0 rfl ?_ ?_;rotate_left
  ·exact Z10
  simp only[Act.put,gD];refine oN (i:=3) (v:=?_) hE0 rfl ?_ ?_;rotate_left
  ·exact Z10
  simp only[Act.put,gD];refine oN (i:=4) (v:=?_) hE0 rfl ?_ ?_;rotate_left
  ·exact Z10
  simp only[Act.put,gD];refine oN (i:=5) (v:=?_) hE0 rfl ?_ ?_;rotate_left
  ·exact Z10
  simp only[Act.put,gD];refine oN (i:=6) (v:=?_) hE0 rfl ?_ ?_;rotate_left
  ·exact Z10
  simp only[Act.put,gD];refine p9 (i:=7) fE rfl (fun K hK=>?_);go_simp;refine hK _ _ (fun _=>And.intro y0 (And.intro y1 (And.intro z0 (And.intro z1 x1)))) ?_;clear hK K;(try simp only[Act.put,gD]);refine p9 (i:=8) fE rfl (fun K hK=>?_);go_simp;go_at_call 36;refine(aA0.out _).mono ?_;rintro e w4 ⟨rfl,aA2⟩;have jT:=dQ.drew.pure aA2;obtain⟨q0,q1,q2,q3⟩:=hcl'.out _ _ _ jT;have asP:=And.intro q0 (And.intro q1 (And.intro q2 (And.intro q3 (hx'.out _ jT.below))));clear q0 q1 q2 q3;dsimp only;refine hK _ _ (fun _=>asP) ?_;clear hK K;(try simp only[Act.put,gD]);refine p9 (i:=9) fE rfl (fun K hK=>?_);go_simp;go_at_call 35;refine(aA1.out _).mono ?_;rintro e w5 ⟨rfl,aA3⟩;have hS5:=jT.pure aA3;obtain⟨q0,q1,q2,q3⟩:=hcl'.out _ _ _ hS5;have asQ:=And.intro q0 (And.intro q1 (And.intro q2 (And.intro q3 (hx'.out _ hS5.below))));clear q0 q1 q2 q3;dsimp only;refine hK _ _ (fun _=>asQ) ?_;clear hK K;(try simp only[Act.put,gD]);obtain⟨q0,q1,q2,q3,q4⟩:=asQ;have f0:=hS5.bF 0 rfl 0;have f1:=hS5.bF 0 rfl 1;refine p9 (i:=10) fE rfl (fun K hK=>?_);go_simp;refine hK _ _ (fun h=>absurd rfl h) ?_;clear hK K;(try simp only[Act.put,gD]);refine aQ fE ?_ _;have kM:=Lh ((hS5.bS 0 rfl 0 (.int .i64 (C+D))).bS 0 rfl 1 (.int .i64 (J+1)));clear q0 q1 q2 q3 q4 f0 f1 hS5 jT asP dQ hE0 hS;go_wp2_with fail;go_roundw
  case rel=>refine⟨j+1,C+D,J+1,by omega,by go_num,Lh ?_,kM.out⟩;have g1:=hsF.out;simp only[hD'.out]at g1;obtain⟨g3,g4⟩:=hCJ.out;unfold dfB at g3 ⊢;exact⟨by rw[g1,g3];omega,by rw[g4];omega⟩
  case measure=>(simp[intOf];omega)
 have d22:¬(j:Int)<(fs.length:Int):=by omega
 have hfin:C=wdB ns fs/\J=wdI ns fs:=by have e:fs.take j=fs:=pM aD;have h:=hCJ.out;rw[e]at h;have h2:=aA4.out;(have h3:j=fs.length:=by omega);unfold wdB wdI;exact⟨by rw[h.1,h2.1],by rw[h.2,h2.2,h3]⟩
 obtain⟨e1,e2⟩:=hfin;have e1':=Lh e1;have e2':=Lh e2;have q0:=hS.bC 1 rfl 0;have q1:=hS.bC 1 rfl 1;have f0:=hS.bF 1 rfl 0;have f1:=hS.bF 1 rfl 1;simp only[gA,gB,gC]at q0 q1;have kM:=(hS.bS 1 rfl 0 (.int .i64 C)).bS 1 rfl 1 (.int .i64 J);have r0:=kM.bC 1 rfl 0;have r1:=kM.bC 1 rfl 1;have r0':=Lh r0;have r1':=Lh r1;have aA5:=Lh kM;clear kM r0 r1 hS e1 e2 hCJ;go_wp2_with fail;refine bodyPost_ret (FI rfl rfl r0'.out r1'.out) rfl ?_;exact⟨by rw[<-e1'.out,<-e2'.out];rfl,aA5.out.below⟩
end Go.Proofs.YtmjomdkleikgbaaGreat
namespace Go.Proofs.YtmjomdkleikgbaaGreat
theorem rQ :∀(k:Nat) {p q:List UInt8},p.length<=k->splitB p=splitB q->p=q
 |k,p,q,hk,h=>by
  rcases kS p with⟨_,_,h1⟩|⟨a,b,e,_,_,h1⟩<;>rcases kS q with⟨_,_,h2⟩|⟨c,d,e2,_,_,h2⟩
  ·rw[h1,h2]at h;exact(List.cons.inj h).1
  ·rw[h1,h2]at h;have:=congrArg List.length h;have h5:=gJ c;(have h6:(splitB c).length≠0:=fun e=>h5 (vS e));rw[jM,oL,oL]at this;omega
  ·rw[h1,h2]at h;have:=congrArg List.length h;have h5:=gJ a;(have h6:(splitB a).length≠0:=fun e=>h5 (vS e));rw[jM,oL,oL]at this;omega
  rw[h1,h2]at h;obtain⟨h3,h4⟩:=List.append_inj' h rfl;cases k with
  |zero=>rw[e]at hk;simp at hk
  |succ k=>have:=rQ k (p:=a) (q:=c) (by rw[e]at hk;simp at hk;omega) h3;rw[e,e2,this,(List.cons.inj h4).1]
theorem asR (ns:List TN) (hv:∀n∈ns,aV n.path=true) {p:List UInt8} (hp:p≠[]):dM ns (splitB p)=pK ns p:=by
 unfold dM eP pK;rw[<-apT];apply List.countP_congr;intro n hn;rw[tL,jN];unfold bE aZ;rw[if_pos (hv n hn)];rcases kS n.path with⟨_,h2,h1⟩|⟨a,b,e,_,h2,h1⟩
 ·rw[h1,h2];constructor
  ·intro h;exact absurd h.symm (gJ p)
  intro h;exact absurd h.symm hp
 rw[h1,UI,h2];have e5:n.path.take a.length=a:=by rw[e,VX];rfl
 rw[e5];exact⟨fun h=>rQ _ (iC _) h,fun h=>by rw[h]⟩
theorem asS (ns:List TN) (hv:∀n∈ns,aV n.path=true):dM ns []=pK ns []:=by
 unfold dM eP pK;rw[<-apT];apply List.countP_congr;intro n hn;rw[tL,jN];unfold bE aZ;rw[if_pos (hv n hn)];rcases kS n.path with⟨_,h2,h1⟩|⟨a,b,e,_,h2,h1⟩
 ·rw[h1,h2];exact⟨fun _=>rfl,fun _=>rfl⟩
 rw[h1,UI,h2];have e5:n.path.take a.length=a:=by rw[e,VX];rfl
 rw[e5];constructor
 ·intro h;exact absurd h (gJ a)
 intro h;have hv2:=hv n hn;rw[e,h]at hv2;exact absurd hv2 (by simp[aV,FV])
open Go.RowKit
theorem aiH :(Tryz.prog.info? 5).map (fun i=>(i.zero,i.size,i.bytes))=some (some (.int .u8 0),1,1):=by kernel_rfl
theorem aiI :(Tryz.prog.info? 68).map (fun i=>(i.zero,i.size,i.bytes))=some (some (.agg #[.string ⟨#[]⟩,iV 0,iV 0]),3,32):=by kernel_rfl
theorem aiJ :(Tryz.prog.info? 71).map (fun i=>(i.zero,i.size,i.bytes))=some (some (.agg #[iV 0,.slice none 0 0]),2,32):=by kernel_rfl
theorem U9 {α β:Type} (E:α->β) {l:List α} {i:Nat} {p:α} (h:l[i]? =some p):(l.take (i+1)).map E=(l.take i).map E++[E p]:=by rw[pI,h,mZ];rfl
theorem oD {α:Type} {P:List α->Prop} (h0:P []) (h1:∀xs x,P xs->P (xs++[x])) (xs:List α):P xs:=by
 rw[<-List.reverse_reverse xs]
 induction xs.reverse with
 |nil=>exact h0
 |cons a l ih=>rw[List.reverse_cons];exact h1 _ _ ih
theorem axC {ids:List Int} {a:Int} (h:a∈ids) (l:List Int):(ids++l).idxOf a=ids.idxOf a:=by rw[List.idxOf_append,if_pos h]
def fD (xs:List TN):List Int:=xs.foldl (fun ids n=>if n.file<0 then ids else if n.file∈ids then ids else ids++[n.file]) []
theorem kG (xs:List TN) (n:TN):fD (xs++[n])=if n.file<0 then fD xs else if n.file∈fD xs then fD xs else fD xs++[n.file]:=by unfold fD;rw[OW];rfl
def lM (ids:List Int) (n:TN):TN:=if n.file<0 then n else⟨n.path,(ids.idxOf n.file:Nat),n.mode⟩
theorem nE (xs:List TN):∀n∈xs,¬n.file<0->n.file∈fD xs:=by
 refine oD (P:=fun xs=>∀n∈xs,¬n.file<0->n.file∈fD xs) ?_ ?_ xs
 ·intro n hn;cases hn
 intro xs m ih;intro n hn hf;rw[kG];rcases iM.1 hn with hn|hn
 ·have:=ih n hn hf;split
  ·exact this
  split
  ·exact this
  exact vU _ this
 have e:n=m:=by simpa using hn
 subst e;rw[if_neg hf];split
 ·assumption
 simp
theorem zD (xs:List TN):∀id∈fD xs,∃n∈xs,n.file=id/\¬n.file<0:=by
 refine oD (P:=fun xs=>∀id∈fD xs,∃n∈xs,n.file=id/\¬n.file<0) ?_ ?_ xs
 ·intro id h;cases h
 intro xs m ih;intro id h;rw[kG]at h;have key:id∈fD xs->∃n∈xs++[m],n.file=id/\¬n.file<0:=fun h=>by obtain⟨n,h1,h2⟩:=ih id h;exact⟨n,vU _ h1,h2⟩
 split at h
 ·exact key h
 split at h
 ·exact key h
 rcases iM.1 h with h|h
 ·exact key h
 have e:id=m.file:=by simpa using h
 subst e;exact⟨m,by simp,rfl,by assumption⟩
theorem SN (xs:List TN):(fD xs).length<=xs.length:=by
 refine oD (P:=fun xs=>(fD xs).length<=xs.length) ?_ ?_ xs
 ·exact iC _
 intro xs m ih;rw[kG,jM,oL];split
 ·omega
 split
 ·omega
 rw[jM,oL];omega
theorem XN {xs:List TN} {ids:List Int} (h:∀n∈xs,¬n.file<0->n.file∈ids) (id:Int):xs.map (lM (ids++[id]))=xs.map (lM ids):=by
 apply uO;intro n hn;unfold lM;split
 ·rfl
 rename_i hf;rw[axC (h n hn hf)]
theorem aa0 {fs:List TF} {vs:List Value} (h:vs.length=fs.length) (f:TF) (u:Value):iF (fs++[f]) (vs++[u])=iF fs vs++[.int .i64 f.mode,u]:=by unfold iF;rw[List.zip_append h.symm,Y3];rfl
def JN (xs:List TN) (p:List UInt8):Nat:=(xs.takeWhile fun m=>Op.bytesLess m.path p).length
def an1 (xs:List TN) (n:TN):List TN:=xs.take (JN xs n.path)++n::xs.drop (JN xs n.path)
def jA (ns:List TN):List TN:=ns.foldl an1 []
theorem SQ (xs:List TN) (n:TN):jA (xs++[n])=an1 (jA xs) n:=by unfold jA;rw[OW];rfl
theorem an2 (xs:List TN) (n:TN):(an1 xs n).Perm (n::xs):=by unfold an1;refine lD.trans ?_;rw[EJ]
theorem l5 (ns:List TN):(jA ns).Perm ns:=by refine oD (P:=fun ns=>(jA ns).Perm ns) (EW _) (fun xs x ih=>?_) ns;rw[SQ];exact(an2 _ _).trans ((ih.cons x).trans (abP _ _).symm)
theorem XO (ns:List TN):(jA ns).length=ns.length:=(l5 ns).length_eq
theorem CO (xs ys:List TN):cZ (xs++ys)=cZ xs++cZ ys:=by unfold cZ;rw[Y3]
theorem azX (n:TN):cZ [n]=[aC n.path,.int .i64 n.file,.int .i64 n.mode]:=rfl
theorem NH (xs:List TN):∀u∈cZ xs,u.oneCell'=true:=by intro u hu;unfold cZ at hu;rw[List.mem_flatMap]at hu;obtain⟨n,_,h⟩:=hu;simp only[F8,kE,EK,or_false]at h;rcases h with rfl|rfl|rfl<;>rfl
def mM (fs:List TF) (id:Int):TF:=fs.getD id.toNat ⟨0,[]⟩
def LB (ns:List TN):List TN:=(jA ns).map (lM (fD (jA ns)))
def LC (ns:List TN) (fs:List TF):List TF:=(fD (jA ns)).map (mM fs)
def xA (xs:List TN) (ids:List Int) (i:Nat):List TN:=(xs.take i).map (lM ids)++xs.drop i
theorem OD {xs:List TN} {ids:List Int} {i:Nat} {n:TN} (h:xs[i]? =some n):(xA xs ids i)[i]? =some n:=by have hi:=(gF.1 h).1;unfold xA;rw[vT E8,iJ,qP,yN aD,FP,AV];simpa using h
theorem XP {xs:List TN} {ids:List Int} {i:Nat} {n:TN} (h:xs[i]? =some n):xA xs ids (i+1)=(xA xs ids i).set i (lM ids n):=by have hi:=(gF.1 h).1;unfold xA;rw[U9 _ h,abU _ _ E8,iJ,qP,yN aD,FP,abL hi,pG];rfl
theorem asU (xs:List TN) (ids:List Int):xA xs ids xs.length=xs.map (lM ids):=by unfold xA;rw[M7,List.drop_length,yX46]
theorem asV {xs:List TN} {ids:List Int} {i:Nat} (h:∀n∈xs.take i,¬n.file<0->n.file∈ids) (id:Int):xA xs (ids++[id]) i=xA xs ids i:=by unfold xA;rw[XN h]
theorem z8 {xs:List TN} {i:Nat} {n:TN} (h:xs[i]? =some n) (x:Int):(cZ xs).set (i*3+1) (.int .i64 x)=cZ (xs.set i ⟨n.path,x,n.mode⟩):=by
 have hi:=(gF.1 h).1;have e1:xs=xs.take i++n::xs.drop (i+1):=(sG h).1;have e2:xs.set i ⟨n.path,x,n.mode⟩=xs.take i++⟨n.path,x,n.mode⟩::xs.drop (i+1):=(sG h).2 _;have hl:(cZ (xs.take i)).length=i*3:=by rw[aeE,qP,yN aD]
 rw[e2]
 conv=>lhs;rw[e1]
 rw[CO,CO,abU _ _ aD,hl,show i*3+1-i*3=1 by omega];rfl
theorem nG {p:List UInt8} (h:aV p=true):p≠[]:=fun e=>by subst e;revert h;decide
theorem XQ :∀(p:List UInt8) (k:Nat),k<p.length->Op.bytesLess (p.take k) p=true
 |[],k,h=>by simp at h
 |a::p,0,_=>by simp[Op.bytesLess]
 |a::p,k+1,h=>by rw[VO];unfold Op.bytesLess;rw[XQ p k (by simpa using h)];simp
theorem an3 {p:List UInt8} (h:p≠[]):nD p<p.length:=by
 rcases kS p with⟨_,h0,_⟩|⟨a,b,e,_,hs,_⟩
 ·rw[h0];exact List.length_pos_iff.2 h
 rw[hs];have:=congrArg List.length e;rw[jM,kH]at this;omega
theorem CP {p:List UInt8} (h:aV p=true):Op.bytesLess (aZ p) p=true:=by unfold aZ;rw[if_pos h];exact XQ p _ (an3 (nG h))
theorem aA6 {p q:List UInt8} (h:Op.bytesLess q p=true):ah5 p q=false:=by unfold ah5;rw[aeF h,AX,jU];intro e;rw[e,mH]at h;cases h
theorem SV {pre:List TN} {p:List UInt8} (h:∀m∈pre,m.path≠p):qH pre p=if p=[]then 1 else 0:=by
 revert h;refine oD (P:=fun pre=>(∀m∈pre,m.path≠p)->qH pre p=if p=[]then 1 else 0) ?_ ?_ pre
 ·intro _;rfl
 intro xs x ih h;rw[vJ,if_neg (h x bK)];exact ih fun m hm=>h m (vU _ hm)
theorem XR {pre:List TN} {m:TN} (hne:pre.Pairwise fun a b=>a.path≠b.path) (h:m∈pre):qH pre m.path=if m.file= -1 then 1 else 2:=by
 revert hne h;refine oD (P:=fun pre=>pre.Pairwise (fun a b=>a.path≠b.path)->m∈pre->qH pre m.path=if m.file= -1 then 1 else 2) ?_ ?_ pre
 ·intro _ h;cases h
 intro xs x ih hne h;rw[vJ];rw[OY]at hne;rcases iM.1 h with h|h
 ·rw[if_neg (fun e=>hne.2.2 m h x bK e.symm)];exact ih hne.1 h
 have e:m=x:=by simpa using h
 subst e;rw[if_pos rfl]
theorem axD {ns:List TN} {fl:Nat}:∀ {j m:Nat},nQ ns fl j=some m->j<=ns.length->∀i,i<j->∀n,ns[i]? =some n->∃k,nQ ns fl i=some k/\tH ns fl i k n=true/\gU k n<=m:=by
 intro j
 induction j with
 |zero=>intro m _ _ i hi;omega
 |succ j ih=>
  intro m h hjl i hi n hn;cases hr:nQ ns fl j with
  |none=>rw[XK hr 1]at h;cases h
  |some k=>
   have hj:ns[j]? =some ns[j]:=gE aD;rw[yD hr hj]at h;split at h
   ·rename_i ho;cases h;by_cases hij:i=j
    ·subst hij;rw[hj]at hn;cases hn;exact⟨k,hr,ho,iC _⟩
    obtain⟨k2,h1,h2,h3⟩:=ih hr aD i aD n hn;exact⟨k2,h1,h2,by have:=SE k ns[j];omega⟩
   cases h
theorem an4 {ns:List TN} (h:∀(i:Nat) (n:TN),0<i->ns[i]? =some n->Op.bytesLess (iH ns i) n.path=true):ns.Pairwise fun a b=>Op.bytesLess a.path b.path=true:=by
 rw[EX];intro i j hi hj hij;obtain⟨d,rfl⟩:∃d,j=i+1+d:=⟨j-i-1,by omega⟩;clear hij
 induction d with
 |zero=>have h1:=h (i+1) _ aD (gE hj);rw[GA (gE hi)]at h1;exact h1
 |succ d ih=>have h1:=ih aD;have h2:=h (i+1+d+1) _ aD (gE hj);rw[GA (gE (by omega:i+1+d<ns.length))]at h2;exact qI h1 h2
theorem an5 {ns:List TN} (hne:ns.Pairwise fun a b=>a.path≠b.path) {m:TN} (hm:m∈ns):JK ns m.path=some m:=by
 induction ns with
 |nil=>cases hm
 |cons a ns ih=>
  obtain⟨h1,h2⟩:=List.pairwise_cons.1 hne;unfold JK at ih ⊢;rw[J8];rcases kE.1 hm with rfl|hm
  ·simp
  (have:(a.path==m.path)=false:=by simpa using h1 m hm);rw[this];exact ih h2 hm
theorem an6 {ns:List TN} {fl:Nat} (h:nQ ns fl ns.length=some fl):runK ns ns.length=some fl:=by
 have hat:=fun i n hn=>axD h (iC _) i (gF.1 hn).1 n hn
 have hsort:=an4 fun i n hi hn=>by
  obtain⟨k,_,h2,_⟩:=hat i n hn;rcases(qK.1 h2).1.1.2 with h3|h3
  ·omega
  exact h3
 have hne:ns.Pairwise fun a b=>a.path≠b.path:=hsort.imp fun {a b} hl e=>by rw[e,mH]at hl;cases hl
 have hval:∀n∈ns,aV n.path=true:=fun n hn=>by obtain⟨i,hi⟩:=List.mem_iff_getElem?.1 hn;obtain⟨k,_,h2,_⟩:=hat i n hi;exact(qK.1 h2).1.1.1
 have key:∀i,i<=ns.length->runK ns i=nQ ns fl i:=by
  intro i
  induction i with
  |zero=>intro _;rfl
  |succ i ih=>
   intro hi;have hn:ns[i]? =some ns[i]:=gE aD;obtain⟨k,h1,h2,_⟩:=hat i _ hn;have h3:=ih aD;rw[h1]at h3;rw[rP h3 hn,yD h1 hn,h2,if_pos rfl,if_pos];obtain⟨⟨⟨hv,aK5⟩,hup⟩,SI⟩:=qK.1 h2;(have htk:(ns.take i).Pairwise fun a b=>a.path≠b.path:=hne.sublist (aj3 _ _));have hk1:qH (ns.take i) (aZ ns[i].path)=1:=by
    unfold LA at hup;rw[M8,jN]at hup;rcases hup with h0|h0
    ·rw[h0,SV fun m hm=>nG (hval m (AJ hm))];rfl
    cases hf:JK ns (aZ ns[i].path)with
    |none=>rw[hf]at h0;cases h0
    |some m=>
     rw[hf]at h0;(have hmf:m.file= -1:=by simpa using h0);obtain⟨hmm,hmp⟩:=asM hf;obtain⟨j,hj⟩:=List.mem_iff_getElem?.1 hmm;obtain⟨hjl,hje⟩:=gF.1 hj;have hless:=CP hv;have hji:j<i:=by
      rcases UK j i with h9|h9|h9
      ·exact h9
      ·subst h9;rw[hje]at hless hmp;rw[<-hmp,mH]at hless;cases hless
      have h8:=EX.1 hsort i j aD hjl h9;rw[hje,hmp]at h8;have:=qI h8 hless;rw[mH]at this;cases this
     (have hmt:m∈ns.take i:=by rw[List.mem_iff_getElem?];exact⟨j,by rw[vV,if_pos hji];exact hj⟩);rw[<-hmp,XR htk hmt,if_pos hmf]
   unfold iQ;simp only[sP,LX,jN];refine⟨⟨⟨⟨⟨hv,?_⟩,hk1⟩,?_⟩,?_⟩,?_⟩
   ·rcases aK5 with h0|h0
    ·subst h0;unfold ah5;(have:Op.bytesLess ns[0].path (iH ns 0)=false:=by(show Op.bytesLess ns[0].path []=false);cases ns[0].path<;>simp[Op.bytesLess]);rw[this,AX,jU];exact nG hv
    exact aA6 h0
   ·rcases SI with⟨h0,_⟩|⟨_,_,h0,_⟩<;>omega
   ·rcases SI with⟨h0,_⟩|⟨_,_,_,h0,_⟩<;>omega
   rcases SI with⟨h0,h5⟩|⟨h0,h5,_⟩
   ·rw[if_pos h0];exact h5
   rw[if_neg h0];simpa using h5
 rw[key _ (iC _)];exact h
theorem an7 {ns:List TN} {fl:Nat} (hn9:ns.length<=256) (hf9:fl<=256) (h:runK ns ns.length=some fl):nQ ns fl ns.length=some fl:=by
 have ho:fF ns (List.replicate fl ⟨0,[]⟩):=⟨hn9,by rw[FL];exact hf9,fun f hf=>by rw[(List.mem_replicate.1 hf).2];exact fZ _,fun f hf=>by rw[(List.mem_replicate.1 hf).2];rfl,by rw[FL];exact h⟩;have hne:=ho.ne;have key:∀i,i<=ns.length->nQ ns fl i=runK ns i:=by
  intro i
  induction i with
  |zero=>intro _;rfl
  |succ i ih=>
   intro hi;have hn:ns[i]? =some ns[i]:=gE aD;obtain⟨k,h1,h2,h4⟩:=SF h i aD _ hn;have h3:=ih aD;rw[h1]at h3;rw[yD h3 hn,rP h1 hn,h2,if_pos rfl,if_pos];obtain⟨a,b,c,d,e,f,g⟩:=qJ h2;refine qK.2 ⟨⟨⟨a,?_⟩,?_⟩,?_⟩
   ·rcases yL i with h0|h0
    ·exact Or.inl h0
    exact Or.inr b
   ·unfold LA;rw[M8,jN];by_cases h0:aZ ns[i].path=[]
    ·exact Or.inl h0
    right;(have hex:∃m∈ns.take i,m.path=aZ ns[i].path:=by(refine Decidable.byContradiction fun hno=>?_);(have h5:=SV (pre:=ns.take i) (p:=aZ ns[i].path) fun m hm e=>hno ⟨m,hm,e⟩);rw[c,if_neg h0]at h5;cases h5);obtain⟨m,hm,hmp⟩:=hex;have h5:=XR (hne.sublist (aj3 i _)) hm;rw[hmp,c]at h5;(have hmf:m.file= -1:=by(refine Decidable.byContradiction fun hno=>?_);rw[if_neg hno]at h5;cases h5);rw[<-hmp,an5 hne (AJ hm)];simpa using hmf
   by_cases h0:ns[i].file= -1
   ·exact Or.inl ⟨h0,f h0⟩
   refine Or.inr ⟨h0,g h0,by omega,e,?_⟩;unfold gU at h4;split at h4<;>omega
 rw[key _ (iC _)];exact h
theorem aiK (ns:List TN) (fs:List TF):(if lY ns fs=true then 31 else if o8 ns fs=true then 0 else 30)=iI ns fs:=by
 unfold iI;cases hb:lY ns fs with
 |true=>rw[if_pos rfl,if_pos rfl]
 |false=>
  simp only[J4,if_false];unfold lY at hb;rw[Y5,Y5,agL,agL]at hb;obtain⟨⟨h1,h2⟩,_⟩:=hb;(have:o8 ns fs=true↔runK ns ns.length=some fs.length/\fs.all (fun f=>iB f.mode)=true:=by unfold o8;rw[sP,jN];exact⟨fun⟨a,b⟩=>⟨an6 a,b⟩,fun⟨a,b⟩=>⟨an7 aD aD a,b⟩⟩);by_cases h:o8 ns fs=true
  ·rw[if_pos h,if_pos (this.1 h)]
  rw[if_neg h,if_neg (fun h3=>h (this.2 h3))]
end Go.Proofs.YtmjomdkleikgbaaGreat
