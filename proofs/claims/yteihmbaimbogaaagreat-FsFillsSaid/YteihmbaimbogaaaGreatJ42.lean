/- QModelTake, QModelGG, QDocE, laid together. -/
import Derived.Test.YteihmbaimbogaaaGreatJ41
namespace Go.Proofs.YteihmbaimbogaaaGreat
open Go.RowKit
set_option linter.unusedVariables false
set_option linter.unusedSimpArgs false
theorem Sep.sublist {w0 w:World} {As Bs:List aU} (h:Sep w0 w As) (hs:Bs.Sublist As):Sep w0 w Bs:=by
 refine h.same fun Fs hf hn=>?_
 have key:∃Gs,jA w Bs Gs∧Gs.Sublist Fs:=by
  clear hn h
  induction hs generalizing Fs with
  |slnil=>exact⟨Fs,hf,List.Sublist.refl _⟩
  |cons a _ ih=>obtain⟨F,Gs,rfl,h1,h2⟩:=hf;obtain⟨Hs,g1,g2⟩:=ih Gs h2;exact⟨Hs,g1,g2.cons _⟩
  |cons_cons a _ ih=>obtain⟨F,Gs,rfl,h1,h2⟩:=hf;obtain⟨Hs,g1,g2⟩:=ih Gs h2;exact⟨F::Hs,⟨F,Hs,rfl,h1,g1⟩,g2.cons_cons _⟩
 obtain⟨Gs,g1,g2⟩:=key;have g3:Gs.flatten.Sublist Fs.flatten:=by
  clear hn hf g1
  induction g2 with
  |slnil=>exact List.Sublist.refl _
  |cons a _ ih=>rw[List.flatten_cons];exact ih.trans (List.sublist_append_right _ _)
  |cons_cons a _ ih=>rw[List.flatten_cons,List.flatten_cons];exact(List.Sublist.refl _).append ih
 exact⟨Gs,g1,hn.sublist g3,fun b hb=>g3.subset hb⟩
end Go.Proofs.YteihmbaimbogaaaGreat
namespace Go.Proofs.YteihmbaimbogaaaGreat
open Go.RowKit
set_option linter.unusedVariables false
theorem sI {Ns:List TN} {p:List UInt8} {n:TN} (h:iH Ns p=some n):n∈Ns∧n.path=p:=by unfold iH at h;exact⟨List.mem_of_find?_eq_some h,by simpa using List.find?_some h⟩
theorem Y6 (Ns:List TN) (p:List UInt8):jT Ns p≤Ns.length:=List.countP_le_length
set_option linter.unusedSimpArgs false
theorem ab7 {ns:List TN} {i:Nat} {n:TN} (h:ns[i]? =some n) (p:List UInt8):jT (ns.take (i+1)) p=if dE n.path=p then jT (ns.take i) p+1 else jT (ns.take i) p:=by rw[List.take_add_one,h];exact abZ _ _ _
set_option maxRecDepth 100000 in
theorem UG {w:World} {nv fv:Value} {ns:List TN} {fs:List TF} {vs:List Value} (h:dS w nv fv ns fs vs) (hm:nI ns fs) (p:List UInt8):
  Calls Tryz.prog 57 #[.agg #[nv,fv],aM p] w fun e w'=>∃A c,e= .returned (.slice A (jT ns p) c)∧Below w.heap.size w w':=by
 have hS0:=(Sep.nil w).bN 32 #[nv,fv];have QC:=h.nodes;obtain⟨A1,c1,rfl,hm1⟩:=h.nodes.shape;have agR:=fun(n:TN) (hn:n∈ns) (W:World)=>yA (p:=n.path) W (by have:=hm.short n hn;omega)
 have Y5:=Lh agR;have gZ:=Lh hS0;have b1:(ns.length:Int)≤300:=by have:=hm.few;omega
 have EW:=Lh QC;have hlen:=hm.few;obtain⟨i0,hif,hz0,hz1,hz2⟩:=info_parts M7;clear hm hS0 h QC agR;unfold aM at*;go_enter Tryz.func57,Tryz.ntmps57;go_wp2_with fail;go_loopw[5,6] (fun ov iv wr=>∃(L:List Value) (i:Nat),i≤ns.length∧iv= .int .i64 i∧Hid (L.length=jT (ns.take i) p)∧Sep w wr [.sl 9 1 ov L.length L,.box w.heap.size 32 #[.slice A1 ns.length c1,fv]]) (fun _ iv _=>ns.length-(intOf iv).toNat)
 case atStart=>exact⟨[],0,Nat.zero_le _,rfl,Lh rfl,gZ.out.fO _ _⟩
 obtain⟨L,i,hi,rfl,hL,hS⟩:=hrel;have c0:(0:Int)≤(i:Int):=by omega
 have z0:=hS.bC 1 rfl 0;simp only[gA,gB,gC]at z0;by_cases hlt:i<ns.length
 ·(have c2:(i:Int)<(ns.length:Int):=by omega);obtain⟨g,o,c,e,_,_,_,hcell⟩:=EW.out.place (by omega) (by decide);cases e;obtain⟨n,he⟩:∃n,ns[i]? =some n:=⟨_,gE hlt⟩;(have hx:=fun(W:World) (hW:Below w.heap.size w W)=>(hcell _ hW (i*3+0) (by omega)).trans (eZ he 0 (by omega)));simp only[KJ,aM,gB,gC,←Nat.add_assoc,Nat.add_zero]at hx;have x0:=hx _ hS.below;have MQ:=Y5.out n (gG he);have EY:=Lh MQ;have hx':=Lh hx;have hS':=Lh hS;have hck:=Lh (ab7 he p);(have hLl:L.length≤300:=by have:=Y6 (ns.take i) p;rw[hL.out];rw[List.length_take]at this;omega);clear MQ hx hcell hS he;by_cases hp:dE n.path=p
  ·subst hp;rw[if_pos rfl]at hck;go_wp2_with(first |(go_at_call 115;refine(EY.out _).mono ?_;rintro e w2 ⟨rfl,hb2⟩;(have hS2:=hS'.out.pure hb2);(have y0:=hS2.bC 1 rfl 0);simp only[gA,gB,gC]at y0;(have y1:=hx'.out _ hS2.below);(have bG:=hS2.alloc (.cells #[.string ⟨n.path.toArray⟩] 9));clear hS2 hb2)|(at_builtin;refine gK 0 rfl _ _ 52 rfl 9 i0 (.string ⟨#[]⟩) 1 16 Tryz.underlying52 hif hz0 hz1 hz2 rfl (by decide) bG _ _ _ rfl rfl ⟨w2.heap.size,0,none⟩ 1 1 [.string ⟨n.path.toArray⟩] rfl rfl (cell_one_new _ _ _) (by simp[Value.oneCell']) (by decide) (by unfold maxLen;omega) (by omega) ?_));intro gg cc w3 iW hz;have uR:=Lh iW;clear iW hz bG;go_wp2_with fail;go_roundw
   case rel=>exact⟨L++[.string ⟨n.path.toArray⟩],i+1,by omega,by go_num,(by(show _=_);rw[hck.out,List.length_append,hL.out];rfl),(by rw[List.length_append];exact uR.out)⟩
   case measure=>(simp[intOf];omega)
  rw[if_neg hp]at hck;(have bp:(dE n.path==p)=false:=by simpa using hp);have hp':=Lh hp;clear hp;go_wp2_with(go_at_call 115;refine(EY.out _).mono ?_;rintro e w2 ⟨rfl,hb2⟩;(have hS2:=hS'.out.pure hb2);replace hS2:=Lh hS2;clear hb2);go_roundw
  case rel=>exact⟨L,i+1,by omega,by go_num,(by(show _=_);rw[hck.out];exact hL.out),hS2.out⟩
  case measure=>(simp[intOf];omega)
 have c22:¬(i:Int)<(ns.length:Int):=by omega
 have hfin:L.length=jT ns p:=by rw[hL.out,List.take_of_length_le (by omega)]
 obtain⟨A9,c9,rfl,_⟩:=(hS.rd 0 rfl).shape;have hS':=Lh hS;have asU:=Lh hfin;clear hS hfin hL;go_wp2_with fail;go_ret;exact⟨⟨A9,c9,by rw[←asU.out];rfl⟩,hS'.out.below⟩
def dnB (K:List UInt8→Nat) (xs:List TN):Int:=(xs.map fun n=>if n.file= -1 then tZ (K n.path)else 0).sum
def dnI (xs:List TN):Int:=(xs.map fun n=>if n.file= -1 then(1:Int)else 0).sum
def dfB (fs:List TF):Int:=(fs.map fun f=>qA f.size).sum
def wdB (ns:List TN) (fs:List TF):Int:=tZ (jT ns [])+dnB (jT ns) ns+dfB fs
def wdI (ns:List TN) (fs:List TF):Int:=1+dnI ns+fs.length
theorem JU {α:Type} (f:α→Int) {l:List α} {i:Nat} {x:α} (h:l[i]? =some x):((l.take (i+1)).map f).sum=((l.take i).map f).sum+f x:=by rw[List.take_add_one,h,List.map_append,List.sum_append];simp
theorem xH {α:Type} (f:α→Int) (M:Int):∀(l:List α),(∀x∈l,0≤f x∧f x≤M)→0≤(l.map f).sum∧(l.map f).sum≤M*l.length
 |[],_=>by simp
 |x::l,h=>by obtain⟨h1,h2⟩:=h x (by simp);(obtain⟨h3,h4⟩:=xH f M l fun y hy=>h y (List.mem_cons_of_mem _ hy));rw[List.map_cons,List.sum_cons,List.length_cons];refine⟨by omega,?_⟩;(have:M*((l.length+1:Nat):Int)=M*l.length+M:=by rw[Int.natCast_add,Int.mul_add];simp);omega
theorem FQ (k:Nat):1≤tZ k∧tZ k≤k+1:=by rw[ab6];exact akH k
theorem NC {K:List UInt8→Nat} (hK:∀p,K p≤300) (xs:List TN):0≤dnB K xs∧dnB K xs≤301*xs.length:=by
 refine xH _ 301 xs fun n _=>?_
 have:=FQ (K n.path);have:=hK n.path;split<;>omega
theorem ND (xs:List TN):0≤dnI xs∧dnI xs≤1*xs.length:=by
 refine xH _ 1 xs fun n _=>?_
 split<;>omega
theorem ab8 {fs:List TF} (h:∀f∈fs,f.size≤1048576):0≤dfB fs∧dfB fs≤3000*fs.length:=by
 refine xH _ 3000 fs fun f hf=>?_
 have:=h f hf;unfold qA;split<;>omega
set_option maxRecDepth 100000 in
set_option maxHeartbeats 3000000 in
theorem yC {w:World} {nv fv:Value} {ns:List TN} {fs:List TF} {vs:List Value} (h:dS w nv fv ns fs vs) (hm:nI ns fs):
  Calls Tryz.prog 20 #[.agg #[nv,fv]] w fun e w'=>e= .returned (qX (wdB ns fs) (wdI ns fs))∧Below w.heap.size w w':=by
 have hS0:=((Sep.nil w).bN 32 #[nv,fv]).bN 28 #[.int .i64 0,.int .i64 0];simp only[World.size_alloc]at hS0;have QC:=h.nodes;have hfp:=h.files;have Y1:=fun(W:World) (hW:Below w.heap.size w W) (p:List UInt8)=>UG (h.below hW) hm p
 obtain⟨A1,sQ,rfl,hm1⟩:=h.nodes.shape;obtain⟨A2,rG,rfl,hm2⟩:=h.files.shape;have hK9:∀p,jT ns p≤300:=fun p=>Nat.le_trans (Y6 ns p) hm.few
 have b1:(ns.length:Int)≤300:=by have:=hm.few;omega
 have b2:(fs.length:Int)≤300:=by have:=hm.O9;omega
 have hsz:=hm.size;have agW:=Lh Y1;have gZ:=Lh hS0;have EW:=Lh QC;have nX:=Lh hfp;have h':=Lh h;have XF:=Lh hK9;have hsz':=Lh hsz;have z0:=hS0.bC 1 rfl 0;have z1:=hS0.bC 1 rfl 1;simp only[gA,gB,gC]at z0 z1;clear hS0 h hm QC hfp Y1 hK9 hsz;go_enter Tryz.func20,Tryz.ntmps20;unfold aM at*;have hk0:=agW.out _ gZ.out.below [];go_wp2_with(first |(go_at_call 57;refine hk0.mono ?_;rintro e w1 ⟨Ak,ck,rfl,hb1⟩;(have hS1:=gZ.out.pure hb1);replace hS1:=Lh hS1;clear hb1)|(go_at_call 56;refine(JQ (by have:=XF.out [];omega) _).mono ?_;rintro e w2 ⟨rfl,hb2⟩;(have hS2:=(hS1.out.pure hb2).bN 28 #[.int .i64 (tZ (jT ns [])),.int .i64 1]);replace hS2:=Lh hS2;clear hb2;unfold qX));clear z0 z1 hk0;go_loopw[4] (fun iv wr=>∃(i:Nat) (B I:Int),i≤ns.length∧iv= .int .i64 i∧Hid (B=tZ (jT ns [])+dnB (jT ns) (ns.take i)∧I=1+dnI (ns.take i))∧Sep w wr [.box w2.heap.size 28 #[.int .i64 B,.int .i64 I],.box (w.heap.size+1) 28 #[.int .i64 0,.int .i64 0],.box w.heap.size 32 #[.slice A1 ns.length sQ,.slice A2 fs.length rG]]) (fun iv _=>ns.length-(intOf iv).toNat)
 case atStart=>exact⟨0,tZ (jT ns []),1,Nat.zero_le _,rfl,Lh (by simp[dnB,dnI]),hS2.out⟩
 obtain⟨i,B,I,hi,rfl,hBI,hS⟩:=hrel;have c0:(0:Int)≤(i:Int):=by omega
 have hcl:=fun(W:World) (B I:Int) (hS:Sep w W [.box w2.heap.size 28 #[.int .i64 B,.int .i64 I],.box (w.heap.size+1) 28 #[.int .i64 0,.int .i64 0],.box w.heap.size 32 #[.slice A1 ns.length sQ,.slice A2 fs.length rG]])=>And.intro (hS.bC 0 rfl 0) (And.intro (hS.bC 0 rfl 1) (And.intro (hS.bC 2 rfl 0) (hS.bC 2 rfl 1)))
 simp only[gA,gB,gC]at hcl;obtain⟨y0,y1,z0,z1⟩:=hcl _ _ _ hS;have hcl':=Lh hcl;clear hcl;by_cases hlt:i<ns.length
 ·(have c2:(i:Int)<(ns.length:Int):=by omega);obtain⟨g,o,c,e,_,_,_,hcell⟩:=EW.out.place (by omega) (by decide);cases e;obtain⟨n,he⟩:∃n,ns[i]? =some n:=⟨_,gE hlt⟩;(have hx:=fun(W:World) (hW:Below w.heap.size w W)=>And.intro ((hcell _ hW (i*3+0) (by omega)).trans (eZ he 0 (by omega))) ((hcell _ hW (i*3+1) (by omega)).trans (eZ he 1 (by omega))));simp only[KJ,aM,gB,gC,←Nat.add_assoc,Nat.add_zero]at hx;obtain⟨x0,x1⟩:=hx _ hS.below;have hx':=Lh hx;have hS':=Lh hS;have hsB:=Lh (JU (fun n:TN=>if n.file= -1 then tZ (jT ns n.path)else 0) he);have hsI:=Lh (JU (fun n:TN=>if n.file= -1 then(1:Int)else 0) he);have hBb:=FQ (jT ns []);have hk0:=XF.out [];have hB1:=NC XF.out (ns.take i);have hB2:=ND (ns.take i);rw[List.length_take,Nat.min_eq_left (by omega)]at hB1 hB2;(have hBB: -1000000≤B∧B≤1000000:=by have:=hBI.out.1;omega);(have hII: -1000000≤I∧I≤1000000:=by have:=hBI.out.2;omega);have axS:=Lh hBB;have axT:=Lh hII;clear hx hcell hS he hBb hk0 hB1 hB2 hBB hII;by_cases hd:n.file= -1
  ·(have hq:(n.file== -1)=true:=by rw[hd];rfl);have hd':=Lh hd;(have hkk:=fun W hW=>agW.out W hW n.path);(have hdd:=fun W=>JQ (k:=jT ns n.path) (by have:=XF.out n.path;omega) W);have hDb:=FQ (jT ns n.path);have asX:=XF.out n.path;obtain⟨D,hD⟩:∃D,tZ (jT ns n.path)=D:=⟨_,rfl⟩;rw[hD]at hdd hDb;obtain⟨kk,asY⟩:∃kk,jT ns n.path=kk:=⟨_,rfl⟩;rw[asY]at hkk hdd hDb asX;(have hpp:=fun W=>NA (B:=B) (I:=I) (C:=D) (J:=1) axS.out axT.out (by omega) (by omega) W);have axU:=Lh hkk;have an0:=Lh hdd;have an1:=Lh hpp;have hE0:=And.intro y0 (And.intro y1 (And.intro z0 (And.intro z1 x0)));have hD':=Lh hD;unfold qX at*;clear hd hkk hdd hpp hD asY hDb asX;go_wp2_with fail;refine aN (S:=fun w'=>w'.cell? ⟨w2.heap.size,0,none⟩=some (.int .i64 B)∧w'.cell? ⟨w2.heap.size,1,none⟩=some (.int .i64 I)∧w'.cell? ⟨w.heap.size,0,none⟩=some (.slice (some ⟨g,o,none⟩) ns.length sQ)∧w'.cell? ⟨w.heap.size,1,none⟩=some (.slice A2 fs.length rG)∧w'.cell? ⟨g,o+i*3,none⟩=some (.string ⟨n.path.toArray⟩)) 12 (by kernel_rfl) ?_;simp only[List.size_toArray,List.length_cons,List.length_nil,Nat.reduceAdd];refine aA (i:=0) (v:=?_) hE0 rfl ?_ ?_;rotate_left
   ·rintro w ⟨e1,e2,e3,e4,e5⟩;go_simp;try with_reducible rfl
   simp only[Act.put,gD];refine aA (i:=1) (v:=?_) hE0 rfl ?_ ?_;rotate_left
   ·rintro w ⟨e1,e2,e3,e4,e5⟩;go_simp;try with_reducible rfl
   simp only[Act.put,gD];refine aA (i:=2) (v:=?_) hE0 rfl ?_ ?_;rotate_left
   ·rintro w ⟨e1,e2,e3,e4,e5⟩;go_simp;try with_reducible rfl
   simp only[Act.put,gD];refine aA (i:=3) (v:=?_) hE0 rfl ?_ ?_;rotate_left
   ·rintro w ⟨e1,e2,e3,e4,e5⟩;go_simp;try with_reducible rfl
   simp only[Act.put,gD];refine aA (i:=4) (v:=?_) hE0 rfl ?_ ?_;rotate_left
   ·rintro w ⟨e1,e2,e3,e4,e5⟩;go_simp;try with_reducible rfl
   simp only[Act.put,gD];refine aA (i:=5) (v:=?_) hE0 rfl ?_ ?_;rotate_left
   ·rintro w ⟨e1,e2,e3,e4,e5⟩;go_simp;try with_reducible rfl
   simp only[Act.put,gD];refine aA (i:=6) (v:=?_) hE0 rfl ?_ ?_;rotate_left
   ·rintro w ⟨e1,e2,e3,e4,e5⟩;go_simp;try with_reducible rfl
   simp only[Act.put,gD];refine aA (i:=7) (v:=?_) hE0 rfl ?_ ?_;rotate_left
   ·rintro w ⟨e1,e2,e3,e4,e5⟩;go_simp;try with_reducible rfl
   simp only[Act.put,gD];refine aC (i:=8) (by kernel_rfl) rfl (fun K hK=>?_);go_simp;go_at_call 57;refine(axU.out _ hS'.out.drew.below).mono ?_;rintro e w3 ⟨Ak2,ck2,rfl,hb3⟩;have bG:=hS'.out.drew.pure hb3;obtain⟨q0,q1,q2,q3⟩:=hcl'.out _ _ _ bG;have xE:=And.intro q0 (And.intro q1 (And.intro q2 (And.intro q3 ((hx'.out _ bG.below).1))));clear q0 q1 q2 q3;dsimp only;refine hK _ _ (fun _=>xE) ?_;clear hK K;(try simp only[Act.put,gD]);refine aC (i:=9) (by kernel_rfl) rfl (fun K hK=>?_);go_simp;refine hK _ _ (fun _=>xE) ?_;clear hK K;(try simp only[Act.put,gD]);refine aC (i:=10) (by kernel_rfl) rfl (fun K hK=>?_);go_simp;go_at_call 56;refine(an0.out _).mono ?_;rintro e w4 ⟨rfl,an2⟩;have iW:=bG.pure an2;obtain⟨q0,q1,q2,q3⟩:=hcl'.out _ _ _ iW;have agX:=And.intro q0 (And.intro q1 (And.intro q2 (And.intro q3 ((hx'.out _ iW.below).1))));clear q0 q1 q2 q3;dsimp only;refine hK _ _ (fun _=>agX) ?_;clear hK K;(try simp only[Act.put,gD]);refine aC (i:=11) (by kernel_rfl) rfl (fun K hK=>?_);go_simp;go_at_call 58;refine(an1.out _).mono ?_;rintro e w5 ⟨rfl,an3⟩;have hS5:=iW.pure an3;obtain⟨q0,q1,q2,q3⟩:=hcl'.out _ _ _ hS5;have agY:=And.intro q0 (And.intro q1 (And.intro q2 (And.intro q3 ((hx'.out _ hS5.below).1))));clear q0 q1 q2 q3;dsimp only;refine hK _ _ (fun _=>agY) ?_;clear hK K;(try simp only[Act.put,gD]);obtain⟨q0,q1,q2,q3,q4⟩:=agY;have f0:=hS5.bF 0 rfl 0;have f1:=hS5.bF 0 rfl 1;refine aC (i:=12) (by kernel_rfl) rfl (fun K hK=>?_);go_simp;refine hK _ _ (fun h=>absurd rfl h) ?_;clear hK K;(try simp only[Act.put,gD]);refine aO (by kernel_rfl) ?_ _;have kW:=Lh ((hS5.bS 0 rfl 0 (.int .i64 (B+D))).bS 0 rfl 1 (.int .i64 (I+1)));clear q0 q1 q2 q3 q4 f0 f1 hS5 iW agX bG xE hE0;go_wp2_with fail;go_roundw
   case rel=>refine⟨i+1,B+D,I+1,by omega,by go_num,Lh ?_,kW.out⟩;have g1:=hsB.out;have g2:=hsI.out;simp only[if_pos hd'.out,hD'.out]at g1 g2;obtain⟨g3,g4⟩:=hBI.out;simp only[dnB,dnI]at g3 g4 ⊢;exact⟨by rw[g1,g3];omega,by rw[g2,g4];omega⟩
   case measure=>(simp[intOf];omega)
  (have hq:(n.file== -1)=false:=by simpa using hd);have hd':=Lh hd;clear hd;go_wp2_with fail;go_roundw
  case rel=>refine⟨i+1,B,I,by omega,by go_num,Lh ?_,hS'.out⟩;have g1:=hsB.out;have g2:=hsI.out;simp only[if_neg hd'.out]at g1 g2;obtain⟨g3,g4⟩:=hBI.out;simp only[dnB,dnI]at g3 g4 ⊢;exact⟨by rw[g1,g3];omega,by rw[g2,g4];omega⟩
  case measure=>(simp[intOf];omega)
 have c22:¬(i:Int)<(ns.length:Int):=by omega
 have an4:Hid (B=tZ (jT ns [])+dnB (jT ns) ns∧I=1+dnI ns):=by have e:ns.take i=ns:=List.take_of_length_le (by omega);have h:=hBI.out;rw[e]at h;exact h
 have hS':=Lh hS;clear hS hBI;go_wp2_with fail;clear z0 z1 y0 y1;go_loopw[5] (fun iv wr=>∃(j:Nat) (C J:Int),j≤fs.length∧iv= .int .i64 j∧Hid (C=B+dfB (fs.take j)∧J=I+j)∧Sep w wr [.box w2.heap.size 28 #[.int .i64 C,.int .i64 J],.box (w.heap.size+1) 28 #[.int .i64 0,.int .i64 0],.box w.heap.size 32 #[.slice A1 ns.length sQ,.slice A2 fs.length rG]]) (fun iv _=>fs.length-(intOf iv).toNat)
 case atStart=>exact⟨0,B,I,Nat.zero_le _,rfl,Lh (by simp[dfB]),hS'.out⟩
 obtain⟨j,C,J,hj,rfl,hCJ,hS⟩:=hrel;have d0:(0:Int)≤(j:Int):=by omega
 obtain⟨y0,y1,z0,z1⟩:=hcl'.out _ _ _ hS;by_cases hlt2:j<fs.length
 ·(have d2:(j:Int)<(fs.length:Int):=by omega);obtain⟨g,o,c,e,_,_,_,hcell⟩:=nX.out.place (by omega) (by decide);cases e;obtain⟨f,he⟩:∃f,fs[j]? =some f:=⟨_,gE hlt2⟩;obtain⟨u,hu⟩:∃u,vs[j]? =some u:=⟨_,gE (by rw[h'.out.len];exact hlt2)⟩;obtain⟨A,c9,rfl,_⟩:=(h'.out.data j u f hu he).shape;(have hx:=fun(W:World) (hW:Below w.heap.size w W)=>(hcell _ hW (j*2+1) (by omega)).trans (p8 he hu 1 (by omega)));simp only[tfC,gB,gC,←Nat.add_assoc]at hx;have x1:=hx _ hS.below;have hx':=Lh hx;have hfs:=hsz'.out f (gG he);have hsF:=Lh (JU (fun f:TF=>qA f.size) he);have hBb:=FQ (jT ns []);have hk0:=XF.out [];have hB1:=NC XF.out ns;have hB2:=ND ns;(have hB3:=ab8 (fs:=fs.take j) fun f hf=>hsz'.out f (List.mem_of_mem_take hf));rw[List.length_take,Nat.min_eq_left (by omega)]at hB3;(have hBB: -1000000≤C∧C≤1000000:=by have:=an4.out.1;have:=hCJ.out.1;omega);(have hII: -1000000≤J∧J≤1000000:=by have:=an4.out.2;have:=hCJ.out.2;omega);(have hDb:0≤qA f.size∧qA f.size≤3000:=by unfold qA;split<;>omega);(have hdd:=fun W=>UE hfs W);obtain⟨D,hD⟩:∃D,qA f.size=D:=⟨_,rfl⟩;rw[hD]at hdd hDb;(have hpp:=fun W=>NA (B:=C) (I:=J) (C:=D) (J:=1) hBB hII (by omega) (by omega) W);have an0:=Lh hdd;have an1:=Lh hpp;have bG:=hS;have hE0:=And.intro y0 (And.intro y1 (And.intro z0 (And.intro z1 x1)));have hD':=Lh hD;unfold qX at*;clear hx hcell he hu hBb hk0 hB1 hB2 hB3 hBB hII hdd hpp hD hDb;go_wp2_with fail;refine aN (S:=fun w'=>w'.cell? ⟨w2.heap.size,0,none⟩=some (.int .i64 C)∧w'.cell? ⟨w2.heap.size,1,none⟩=some (.int .i64 J)∧w'.cell? ⟨w.heap.size,0,none⟩=some (.slice A1 ns.length sQ)∧w'.cell? ⟨w.heap.size,1,none⟩=some (.slice (some ⟨g,o,none⟩) fs.length rG)∧w'.cell? ⟨g,o+j*2+1,none⟩=some (.slice A f.size c9)) 10 (by kernel_rfl) ?_;simp only[List.size_toArray,List.length_cons,List.length_nil,Nat.reduceAdd];refine aA (i:=0) (v:=?_) hE0 rfl ?_ ?_;rotate_left
  ·rintro w ⟨e1,e2,e3,e4,e5⟩;go_simp;try with_reducible rfl
  simp only[Act.put,gD];refine aA (i:=1) (v:=?_) hE0 rfl ?_ ?_;rotate_left
  ·rintro w ⟨e1,e2,e3,e4,e5⟩;go_simp;try with_reducible rfl
  simp only[Act.put,gD];refine aA (i:=2) (v:=?_) hE0 rfl ?_ ?_;rotate_left
  ·rintro w ⟨e1,e2,e3,e4,e5⟩;go_simp;try with_reducible rfl
  simp only[Act.put,gD];refine aA (i:=3) (v:=?_) hE0 rfl ?_ ?_;rotate_left
  ·rintro w ⟨e1,e2,e3,e4,e5⟩;go_simp;try with_reducible rfl
  simp only[Act.put,gD];refine aA (i:=4) (v:=?_) hE0 rfl ?_ ?_;rotate_left
  ·rintro w ⟨e1,e2,e3,e4,e5⟩;go_simp;try with_reducible rfl
  simp only[Act.put,gD];refine aA (i:=5) (v:=?_) hE0 rfl ?_ ?_;rotate_left
  ·rintro w ⟨e1,e2,e3,e4,e5⟩;go_simp;try with_reducible rfl
  simp only[Act.put,gD];refine aA (i:=6) (v:=?_) hE0 rfl ?_ ?_;rotate_left
  ·rintro w ⟨e1,e2,e3,e4,e5⟩;go_simp;try with_reducible rfl
  simp only[Act.put,gD];refine aC (i:=7) (by kernel_rfl) rfl (fun K hK=>?_);go_simp;refine hK _ _ (fun _=>And.intro y0 (And.intro y1 (And.intro z0 (And.intro z1 x1)))) ?_;clear hK K;(try simp only[Act.put,gD]);refine aC (i:=8) (by kernel_rfl) rfl (fun K hK=>?_);go_simp;go_at_call 59;refine(an0.out _).mono ?_;rintro e w4 ⟨rfl,an2⟩;have iW:=bG.drew.pure an2;obtain⟨q0,q1,q2,q3⟩:=hcl'.out _ _ _ iW;have agX:=And.intro q0 (And.intro q1 (And.intro q2 (And.intro q3 (hx'.out _ iW.below))));clear q0 q1 q2 q3;dsimp only;refine hK _ _ (fun _=>agX) ?_;clear hK K;(try simp only[Act.put,gD]);refine aC (i:=9) (by kernel_rfl) rfl (fun K hK=>?_);go_simp;go_at_call 58;refine(an1.out _).mono ?_;rintro e w5 ⟨rfl,an3⟩;have hS5:=iW.pure an3;obtain⟨q0,q1,q2,q3⟩:=hcl'.out _ _ _ hS5;have agY:=And.intro q0 (And.intro q1 (And.intro q2 (And.intro q3 (hx'.out _ hS5.below))));clear q0 q1 q2 q3;dsimp only;refine hK _ _ (fun _=>agY) ?_;clear hK K;(try simp only[Act.put,gD]);obtain⟨q0,q1,q2,q3,q4⟩:=agY;have f0:=hS5.bF 0 rfl 0;have f1:=hS5.bF 0 rfl 1;refine aC (i:=10) (by kernel_rfl) rfl (fun K hK=>?_);go_simp;refine hK _ _ (fun h=>absurd rfl h) ?_;clear hK K;(try simp only[Act.put,gD]);refine aO (by kernel_rfl) ?_ _;have kW:=Lh ((hS5.bS 0 rfl 0 (.int .i64 (C+D))).bS 0 rfl 1 (.int .i64 (J+1)));clear q0 q1 q2 q3 q4 f0 f1 hS5 iW agX bG hE0 hS;go_wp2_with fail;go_roundw
  case rel=>refine⟨j+1,C+D,J+1,by omega,by go_num,Lh ?_,kW.out⟩;have g1:=hsF.out;simp only[hD'.out]at g1;obtain⟨g3,g4⟩:=hCJ.out;unfold dfB at g3 ⊢;exact⟨by rw[g1,g3];omega,by rw[g4];omega⟩
  case measure=>(simp[intOf];omega)
 have d22:¬(j:Int)<(fs.length:Int):=by omega
 have hfin:C=wdB ns fs∧J=wdI ns fs:=by have e:fs.take j=fs:=List.take_of_length_le (by omega);have h:=hCJ.out;rw[e]at h;have h2:=an4.out;(have h3:j=fs.length:=by omega);unfold wdB wdI;exact⟨by rw[h.1,h2.1],by rw[h.2,h2.2,h3]⟩
 obtain⟨e1,e2⟩:=hfin;have e1':=Lh e1;have e2':=Lh e2;have q0:=hS.bC 1 rfl 0;have q1:=hS.bC 1 rfl 1;have f0:=hS.bF 1 rfl 0;have f1:=hS.bF 1 rfl 1;simp only[gA,gB,gC]at q0 q1;have kW:=(hS.bS 1 rfl 0 (.int .i64 C)).bS 1 rfl 1 (.int .i64 J);have r0:=kW.bC 1 rfl 0;have r1:=kW.bC 1 rfl 1;have r0':=Lh r0;have r1':=Lh r1;have PK:=Lh kW;clear kW r0 r1 hS e1 e2 hCJ;go_wp2_with fail;refine bodyPost_ret (jX rfl rfl r0'.out r1'.out) rfl ?_;exact⟨by rw[←e1'.out,←e2'.out];rfl,PK.out.below⟩
end Go.Proofs.YteihmbaimbogaaaGreat
