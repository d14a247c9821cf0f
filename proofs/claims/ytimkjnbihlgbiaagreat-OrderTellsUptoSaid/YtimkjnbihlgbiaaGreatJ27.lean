/- DocM, DocE, laid together. -/
import Derived.Test.YtimkjnbihlgbiaaGreatJ26
namespace Go.Proofs.YtimkjnbihlgbiaaGreat
open Go.RowKit
set_option linter.unusedVariables false
set_option linter.unusedSimpArgs false
noncomputable def refE (ns:List TN) (fs:List TF) (xss:List (List Int)) (m:Nat):Int:=if looseP ns fs=0 then orderE xss m else looseP ns fs
set_option maxRecDepth 100000 in
set_option maxHeartbeats 2000000 in
theorem reforder_refused {w:World} {nv fv vn:Value} {ns:List TN} {fs:List TF} {vs:List Value} (h:TreeAt w nv fv ns fs vs) (hm:TreeSm ns fs) {xss:List (List Int)} (hn:RowsAt w vn xss) (hn9:xss.length≤1048576) {Aa:Option Addr} {m ca:Nat} (hm9:m≤1048576):
  Calls Tryz.prog 32 #[.agg #[nv,fv],.slice Aa m ca,vn] w fun e w'=>e= .returned (.int .i64 (refE ns fs xss m))∧Below w.heap.size w w':=by
 have hS0:=(Sep.nil w).bN 25 #[nv,fv];have hlo:=fun(W:World) (hW:Below w.heap.size w W)=>refloose_any (h.below hW) hm
 rw[form_loose]at hlo;have hrf:=fun(W:World) (hW:Below w.heap.size w W)=>refused_any W vn xss (hn.below hW)
 have hro:=fun(hx:refused xss=0) (W:World) (hW:Below w.heap.size w W)=>refround_rows hx (hn.below hW)
 obtain⟨A1,ca1,rfl,hm1⟩:=h.nodes.shape;obtain⟨A2,ca2,rfl,hm2⟩:=h.files.shape;obtain⟨An,cn,rfl,hmn⟩:=hn.shape;have z0:=hS0.bC 0 rfl 0;have z1:=hS0.bC 0 rfl 1;simp only[gA,gB,gC]at z0 z1;have hS0':=Lh hS0;have hro':=Lh hro;obtain⟨RE,hRE⟩:∃x,refE ns fs xss m=x:=⟨_,rfl⟩;rw[hRE];unfold refE at hRE;generalize looseP ns fs=LE at hlo hRE;have hlo':=Lh hlo;have hRE':=Lh hRE;have hrf':=Lh hrf;clear hlo h hm hn hS0 hRE hrf hro hm1 hm2 hmn;by_cases hz:LE=0
 case neg=>(have hb0:(LE==0)=false:=by simpa using hz);(have hre:Hid (RE=LE):=by have h:=hRE'.out;rw[if_neg hz]at h;exact h.symm);clear hz;go_enter Tryz.func32,Tryz.ntmps32;go_wp2_with(go_at_call 57;refine(hlo'.out _ hS0'.out.below).mono ?_;rintro e w1 ⟨rfl,hb1⟩;(have hS1:=hS0'.out.pure hb1);replace hS1:=Lh hS1;clear hb1);go_ret;exact⟨by rw[hre.out];rfl,hS1.out.below⟩
 subst hz;have hre0:=hRE'.out;rw[if_pos rfl]at hre0;unfold orderE at hre0;by_cases hx:refused xss=0
 case neg=>rw[if_pos hx]at hre0;have hre:=Lh hre0;(have hb0:(refused xss==0)=false:=by simpa using hx);clear hre0 hx;go_enter Tryz.func32,Tryz.ntmps32;go_wp2_with(first |(go_at_call 57;refine(hlo'.out _ hS0'.out.below).mono ?_;rintro e w1 ⟨rfl,hb1⟩;(have hS1:=hS0'.out.pure hb1);replace hS1:=Lh hS1;clear hb1)|(go_at_call 58;refine(hrf'.out _ hS1.out.below).mono ?_;rintro e w2 ⟨rfl,hw2⟩;subst hw2));go_ret;exact⟨by rw[←hre.out];rfl,hS1.out.below⟩
 rw[if_neg (by simpa using hx)]at hre0;have hro2:=hro'.out hx;have hro2':=Lh hro2;rw[hx]at hrf';clear hro2 hx;by_cases hl:xss.length=m
 case neg=>rw[if_pos hl]at hre0;have hre:=Lh hre0;(have hb0:((m:Int) !=(xss.length:Int))=true:=by simp;omega);clear hre0 hl;go_enter Tryz.func32,Tryz.ntmps32;go_wp2_with(first |(go_at_call 57;refine(hlo'.out _ hS0'.out.below).mono ?_;rintro e w1 ⟨rfl,hb1⟩;(have hS1:=hS0'.out.pure hb1);replace hS1:=Lh hS1;clear hb1)|(go_at_call 58;refine(hrf'.out _ hS1.out.below).mono ?_;rintro e w2 ⟨rfl,hw2⟩;subst hw2));go_ret;exact⟨by rw[←hre.out];rfl,hS1.out.below⟩
 rw[if_neg (by simpa using hl)]at hre0;have hb0:((m:Int) !=(xss.length:Int))=false:=by simp;omega
 obtain⟨rr,hrr⟩:∃r,r=(roundRows xss).length:=⟨_,rfl⟩;have hrr':=Lh hrr;clear hl;by_cases hr:roundRows xss=[]
 ·rw[if_neg (by simpa using hr)]at hre0;have hre:=Lh hre0;(have hr0:¬(0:Int)<(rr:Int):=by rw[hrr,hr];simp);(have hr1:¬0<rr:=by omega);clear hre0 hr hrr;go_enter Tryz.func32,Tryz.ntmps32;go_wp2_with(first |(go_at_call 57;refine(hlo'.out _ hS0'.out.below).mono ?_;rintro e w1 ⟨rfl,hb1⟩;(have hS1:=hS0'.out.pure hb1);replace hS1:=Lh hS1;clear hb1)|(go_at_call 58;refine(hrf'.out _ hS1.out.below).mono ?_;rintro e w2 ⟨rfl,hw2⟩;subst hw2)|(go_at_call 59;refine(hro2'.out _ hS1.out.below).mono ?_;rintro e w3 ⟨v3,rfl,hS3⟩;obtain⟨A9,c9,rfl,_⟩:=(hS3.rows 0 rfl).shape;(have hS4:=hS1.out.pure (hS3.below));rw[←hrr'.out];replace hS4:=Lh hS4;clear hS3));go_ret;exact⟨by rw[←hre.out];rfl,hS4.out.below⟩
 rw[if_pos hr]at hre0;have hre:=Lh hre0;have hr1:0<rr:=by rw[hrr];exact List.length_pos_iff.2 hr
 have hr0:(0:Int)<(rr:Int):=by omega
 clear hre0 hr hrr;go_enter Tryz.func32,Tryz.ntmps32;go_wp2_with(first |(go_at_call 57;refine(hlo'.out _ hS0'.out.below).mono ?_;rintro e w1 ⟨rfl,hb1⟩;(have hS1:=hS0'.out.pure hb1);replace hS1:=Lh hS1;clear hb1)|(go_at_call 58;refine(hrf'.out _ hS1.out.below).mono ?_;rintro e w2 ⟨rfl,hw2⟩;subst hw2)|(go_at_call 59;refine(hro2'.out _ hS1.out.below).mono ?_;rintro e w3 ⟨v3,rfl,hS3⟩;obtain⟨A9,c9,rfl,_⟩:=(hS3.rows 0 rfl).shape;(have hS4:=hS1.out.pure (hS3.below));rw[←hrr'.out];replace hS4:=Lh hS4;clear hS3));go_ret;exact⟨by rw[←hre.out];rfl,hS4.out.below⟩
theorem cntK_take {ns:List TN} {i:Nat} {n:TN} (h:ns[i]? =some n) (p:List UInt8):cntK (ns.take (i+1)) p=if parentL n.path=p then cntK (ns.take i) p+1 else cntK (ns.take i) p:=by rw[List.take_add_one,h];exact cntK_snoc _ _ _
set_option maxRecDepth 100000 in
theorem refkids_any {w:World} {nv fv:Value} {ns:List TN} {fs:List TF} {vs:List Value} (h:TreeAt w nv fv ns fs vs) (hm:TreeSm ns fs) (p:List UInt8):
  Calls Tryz.prog 66 #[.agg #[nv,fv],strV p] w fun e w'=>∃A c,e= .returned (.slice A (cntK ns p) c)∧Below w.heap.size w w':=by
 have hS0:=(Sep.nil w).bN 25 #[nv,fv];have hnp:=h.nodes;obtain⟨A1,c1,rfl,hm1⟩:=h.nodes.shape;have hpar:=fun(n:TN) (hn:n∈ns) (W:World)=>refparent_any (p:=n.path) W (by have:=hm.short n hn;omega)
 have hpar':=Lh hpar;have hS0':=Lh hS0;have b1:(ns.length:Int)≤300:=by have:=hm.few;omega
 have hnp':=Lh hnp;have hlen:=hm.few;obtain⟨i0,hif,hz0,hz1,hz2⟩:=info_parts info_strQ;clear hm hS0 h hnp hpar;unfold strV at*;go_enter Tryz.func66,Tryz.ntmps66;go_wp2_with fail;go_loopw[5,6] (fun ov iv wr=>∃(L:List Value) (i:Nat),i≤ns.length∧iv= .int .i64 i∧Hid (L.length=cntK (ns.take i) p)∧Sep w wr [.sl 9 1 ov L.length L,.box w.heap.size 25 #[.slice A1 ns.length c1,fv]]) (fun _ iv _=>ns.length-(intOf iv).toNat)
 case atStart=>exact⟨[],0,Nat.zero_le _,rfl,Lh rfl,hS0'.out.sl_nil _ _⟩
 obtain⟨L,i,hi,rfl,hL,hS⟩:=hrel;have c0:(0:Int)≤(i:Int):=by omega
 have z0:=hS.bC 1 rfl 0;simp only[gA,gB,gC]at z0;by_cases hlt:i<ns.length
 ·(have c2:(i:Int)<(ns.length:Int):=by omega);obtain⟨g,o,c,e,_,_,_,hcell⟩:=hnp'.out.place (by omega) (by decide);cases e;obtain⟨n,he⟩:∃n,ns[i]? =some n:=⟨_,gE hlt⟩;(have hx:=fun(W:World) (hW:Below w.heap.size w W)=>(hcell _ hW (i*3+0) (by omega)).trans (tnCells_at he 0 (by omega)));simp only[tnC,strV,gB,gC,←Nat.add_assoc,Nat.add_zero]at hx;have x0:=hx _ hS.below;have hpa:=hpar'.out n (gG he);have hpa':=Lh hpa;have hx':=Lh hx;have hS':=Lh hS;have hck:=Lh (cntK_take he p);(have hLl:L.length≤300:=by have:=cntK_le (ns.take i) p;rw[hL.out];rw[List.length_take]at this;omega);clear hpa hx hcell hS he;by_cases hp:parentL n.path=p
  ·subst hp;rw[if_pos rfl]at hck;go_wp2_with(first |(go_at_call 99;refine(hpa'.out _).mono ?_;rintro e w2 ⟨rfl,hb2⟩;(have hS2:=hS'.out.pure hb2);(have y0:=hS2.bC 1 rfl 0);simp only[gA,gB,gC]at y0;(have y1:=hx'.out _ hS2.below);(have hS3:=hS2.alloc (.cells #[.string ⟨n.path.toArray⟩] 9));clear hS2 hb2)|(at_builtin;refine wpList_append_sep 0 rfl _ _ 114 rfl 9 i0 (.string ⟨#[]⟩) 1 16 Tryz.underlying114 hif hz0 hz1 hz2 rfl (by decide) hS3 _ _ _ rfl rfl ⟨w2.heap.size,0,none⟩ 1 1 [.string ⟨n.path.toArray⟩] rfl rfl (cell_one_new _ _ _) (by simp[Value.oneCell']) (by decide) (by unfold maxLen;omega) (by omega) ?_));intro gg cc w3 hS4 hz;have hS4':=Lh hS4;clear hS4 hz hS3;go_wp2_with fail;go_roundw
   case rel=>exact⟨L++[.string ⟨n.path.toArray⟩],i+1,by omega,by go_num,(by(show _=_);rw[hck.out,List.length_append,hL.out];rfl),(by rw[List.length_append];exact hS4'.out)⟩
   case measure=>(simp[intOf];omega)
  rw[if_neg hp]at hck;(have bp:(parentL n.path==p)=false:=by simpa using hp);have hp':=Lh hp;clear hp;go_wp2_with(go_at_call 99;refine(hpa'.out _).mono ?_;rintro e w2 ⟨rfl,hb2⟩;(have hS2:=hS'.out.pure hb2);replace hS2:=Lh hS2;clear hb2);go_roundw
  case rel=>exact⟨L,i+1,by omega,by go_num,(by(show _=_);rw[hck.out];exact hL.out),hS2.out⟩
  case measure=>(simp[intOf];omega)
 have c22:¬(i:Int)<(ns.length:Int):=by omega
 have hfin:L.length=cntK ns p:=by rw[hL.out,List.take_of_length_le (by omega)]
 obtain⟨A9,c9,rfl,_⟩:=(hS.rd 0 rfl).shape;have hS':=Lh hS;have hfin':=Lh hfin;clear hS hfin hL;go_wp2_with fail;go_ret;exact⟨⟨A9,c9,by rw[←hfin'.out];rfl⟩,hS'.out.below⟩
def dnB (K:List UInt8→Nat) (xs:List TN):Int:=(xs.map fun n=>if n.file= -1 then dirB (K n.path)else 0).sum
def dnI (xs:List TN):Int:=(xs.map fun n=>if n.file= -1 then(1:Int)else 0).sum
def dfB (fs:List TF):Int:=(fs.map fun f=>fileB f.size).sum
def wdB (ns:List TN) (fs:List TF):Int:=dirB (cntK ns [])+dnB (cntK ns) ns+dfB fs
def wdI (ns:List TN) (fs:List TF):Int:=1+dnI ns+fs.length
theorem sum_take {α:Type} (f:α→Int) {l:List α} {i:Nat} {x:α} (h:l[i]? =some x):((l.take (i+1)).map f).sum=((l.take i).map f).sum+f x:=by rw[List.take_add_one,h,List.map_append,List.sum_append];simp
theorem sum_bound {α:Type} (f:α→Int) (M:Int):∀(l:List α),(∀x∈l,0≤f x∧f x≤M)→0≤(l.map f).sum∧(l.map f).sum≤M*l.length
 |[],_=>by simp
 |x::l,h=>by obtain⟨h1,h2⟩:=h x (by simp);(obtain⟨h3,h4⟩:=sum_bound f M l fun y hy=>h y (List.mem_cons_of_mem _ hy));rw[List.map_cons,List.sum_cons,List.length_cons];refine⟨by omega,?_⟩;(have:M*((l.length+1:Nat):Int)=M*l.length+M:=by rw[Int.natCast_add,Int.mul_add];simp);omega
theorem dirB_le (k:Nat):1≤dirB k∧dirB k≤k+1:=by rw[dirB_dirW];exact dirW_le k
theorem dnB_bound {K:List UInt8→Nat} (hK:∀p,K p≤300) (xs:List TN):0≤dnB K xs∧dnB K xs≤301*xs.length:=by
 refine sum_bound _ 301 xs fun n _=>?_
 have:=dirB_le (K n.path);have:=hK n.path;split<;>omega
theorem dnI_bound (xs:List TN):0≤dnI xs∧dnI xs≤1*xs.length:=by
 refine sum_bound _ 1 xs fun n _=>?_
 split<;>omega
theorem dfB_bound {fs:List TF} (h:∀f∈fs,f.size≤1048576):0≤dfB fs∧dfB fs≤3000*fs.length:=by
 refine sum_bound _ 3000 fs fun f hf=>?_
 have:=h f hf;unfold fileB;split<;>omega
set_option maxRecDepth 100000 in
set_option maxHeartbeats 3000000 in
theorem refweight_any {w:World} {nv fv:Value} {ns:List TN} {fs:List TF} {vs:List Value} (h:TreeAt w nv fv ns fs vs) (hm:TreeSm ns fs):
  Calls Tryz.prog 35 #[.agg #[nv,fv]] w fun e w'=>e= .returned (tollV (wdB ns fs) (wdI ns fs))∧Below w.heap.size w w':=by
 have hS0:=((Sep.nil w).bN 25 #[nv,fv]).bN 80 #[.int .i64 0,.int .i64 0];simp only[World.size_alloc]at hS0;have hnp:=h.nodes;have hfp:=h.files;have hkids:=fun(W:World) (hW:Below w.heap.size w W) (p:List UInt8)=>refkids_any (h.below hW) hm p
 obtain⟨A1,ca1,rfl,hm1⟩:=h.nodes.shape;obtain⟨A2,ca2,rfl,hm2⟩:=h.files.shape;have hK9:∀p,cntK ns p≤300:=fun p=>Nat.le_trans (cntK_le ns p) hm.few
 have b1:(ns.length:Int)≤300:=by have:=hm.few;omega
 have b2:(fs.length:Int)≤300:=by have:=hm.few2;omega
 have hsz:=hm.size;have hkids':=Lh hkids;have hS0':=Lh hS0;have hnp':=Lh hnp;have hfp':=Lh hfp;have h':=Lh h;have hK9':=Lh hK9;have hsz':=Lh hsz;have z0:=hS0.bC 1 rfl 0;have z1:=hS0.bC 1 rfl 1;simp only[gA,gB,gC]at z0 z1;clear hS0 h hm hnp hfp hkids hK9 hsz;go_enter Tryz.func35,Tryz.ntmps35;unfold strV at*;have hk0:=hkids'.out _ hS0'.out.below [];go_wp2_with(first |(go_at_call 66;refine hk0.mono ?_;rintro e w1 ⟨Ak,ck,rfl,hb1⟩;(have hS1:=hS0'.out.pure hb1);replace hS1:=Lh hS1;clear hb1)|(go_at_call 69;refine(refdir_any (by have:=hK9'.out [];omega) _).mono ?_;rintro e w2 ⟨rfl,hb2⟩;(have hS2:=(hS1.out.pure hb2).bN 80 #[.int .i64 (dirB (cntK ns [])),.int .i64 1]);replace hS2:=Lh hS2;clear hb2;unfold tollV));clear z0 z1 hk0;go_loopw[4] (fun iv wr=>∃(i:Nat) (B I:Int),i≤ns.length∧iv= .int .i64 i∧Hid (B=dirB (cntK ns [])+dnB (cntK ns) (ns.take i)∧I=1+dnI (ns.take i))∧Sep w wr [.box w2.heap.size 80 #[.int .i64 B,.int .i64 I],.box (w.heap.size+1) 80 #[.int .i64 0,.int .i64 0],.box w.heap.size 25 #[.slice A1 ns.length ca1,.slice A2 fs.length ca2]]) (fun iv _=>ns.length-(intOf iv).toNat)
 case atStart=>exact⟨0,dirB (cntK ns []),1,Nat.zero_le _,rfl,Lh (by simp[dnB,dnI]),hS2.out⟩
 obtain⟨i,B,I,hi,rfl,hBI,hS⟩:=hrel;have c0:(0:Int)≤(i:Int):=by omega
 have hcl:=fun(W:World) (B I:Int) (hS:Sep w W [.box w2.heap.size 80 #[.int .i64 B,.int .i64 I],.box (w.heap.size+1) 80 #[.int .i64 0,.int .i64 0],.box w.heap.size 25 #[.slice A1 ns.length ca1,.slice A2 fs.length ca2]])=>And.intro (hS.bC 0 rfl 0) (And.intro (hS.bC 0 rfl 1) (And.intro (hS.bC 2 rfl 0) (hS.bC 2 rfl 1)))
 simp only[gA,gB,gC]at hcl;obtain⟨y0,y1,z0,z1⟩:=hcl _ _ _ hS;have hcl':=Lh hcl;clear hcl;by_cases hlt:i<ns.length
 ·(have c2:(i:Int)<(ns.length:Int):=by omega);obtain⟨g,o,c,e,_,_,_,hcell⟩:=hnp'.out.place (by omega) (by decide);cases e;obtain⟨n,he⟩:∃n,ns[i]? =some n:=⟨_,gE hlt⟩;(have hx:=fun(W:World) (hW:Below w.heap.size w W)=>And.intro ((hcell _ hW (i*3+0) (by omega)).trans (tnCells_at he 0 (by omega))) ((hcell _ hW (i*3+1) (by omega)).trans (tnCells_at he 1 (by omega))));simp only[tnC,strV,gB,gC,←Nat.add_assoc,Nat.add_zero]at hx;obtain⟨x0,x1⟩:=hx _ hS.below;have hx':=Lh hx;have hS':=Lh hS;have hsB:=Lh (sum_take (fun n:TN=>if n.file= -1 then dirB (cntK ns n.path)else 0) he);have hsI:=Lh (sum_take (fun n:TN=>if n.file= -1 then(1:Int)else 0) he);have hBb:=dirB_le (cntK ns []);have hk0:=hK9'.out [];have hB1:=dnB_bound hK9'.out (ns.take i);have hB2:=dnI_bound (ns.take i);rw[List.length_take,Nat.min_eq_left (by omega)]at hB1 hB2;(have hBB: -1000000≤B∧B≤1000000:=by have:=hBI.out.1;omega);(have hII: -1000000≤I∧I≤1000000:=by have:=hBI.out.2;omega);have hBB':=Lh hBB;have hII':=Lh hII;clear hx hcell hS he hBb hk0 hB1 hB2 hBB hII;by_cases hd:n.file= -1
  ·(have hq:(n.file== -1)=true:=by rw[hd];rfl);have hd':=Lh hd;(have hkk:=fun W hW=>hkids'.out W hW n.path);(have hdd:=fun W=>refdir_any (k:=cntK ns n.path) (by have:=hK9'.out n.path;omega) W);have hDb:=dirB_le (cntK ns n.path);have hDb2:=hK9'.out n.path;obtain⟨D,hD⟩:∃D,dirB (cntK ns n.path)=D:=⟨_,rfl⟩;rw[hD]at hdd hDb;obtain⟨kk,hkkk⟩:∃kk,cntK ns n.path=kk:=⟨_,rfl⟩;rw[hkkk]at hkk hdd hDb hDb2;(have hpp:=fun W=>tplus_any (B:=B) (I:=I) (C:=D) (J:=1) hBB'.out hII'.out (by omega) (by omega) W);have hkk':=Lh hkk;have hdd':=Lh hdd;have hpp':=Lh hpp;have hE0:=And.intro y0 (And.intro y1 (And.intro z0 (And.intro z1 x0)));have hD':=Lh hD;unfold tollV at*;clear hd hkk hdd hpp hD hkkk hDb hDb2;go_wp2_with fail;refine wp_region_E (S:=fun w'=>w'.cell? ⟨w2.heap.size,0,none⟩=some (.int .i64 B)∧w'.cell? ⟨w2.heap.size,1,none⟩=some (.int .i64 I)∧w'.cell? ⟨w.heap.size,0,none⟩=some (.slice (some ⟨g,o,none⟩) ns.length ca1)∧w'.cell? ⟨w.heap.size,1,none⟩=some (.slice A2 fs.length ca2)∧w'.cell? ⟨g,o+i*3,none⟩=some (.string ⟨n.path.toArray⟩)) 12 (by kernel_rfl) ?_;simp only[List.size_toArray,List.length_cons,List.length_nil,Nat.reduceAdd];refine wpE_tk (i:=0) (v:=?_) hE0 rfl ?_ ?_;rotate_left
   ·rintro w ⟨e1,e2,e3,e4,e5⟩;go_simp;try with_reducible rfl
   simp only[Act.put,gD];refine wpE_tk (i:=1) (v:=?_) hE0 rfl ?_ ?_;rotate_left
   ·rintro w ⟨e1,e2,e3,e4,e5⟩;go_simp;try with_reducible rfl
   simp only[Act.put,gD];refine wpE_tk (i:=2) (v:=?_) hE0 rfl ?_ ?_;rotate_left
   ·rintro w ⟨e1,e2,e3,e4,e5⟩;go_simp;try with_reducible rfl
   simp only[Act.put,gD];refine wpE_tk (i:=3) (v:=?_) hE0 rfl ?_ ?_;rotate_left
   ·rintro w ⟨e1,e2,e3,e4,e5⟩;go_simp;try with_reducible rfl
   simp only[Act.put,gD];refine wpE_tk (i:=4) (v:=?_) hE0 rfl ?_ ?_;rotate_left
   ·rintro w ⟨e1,e2,e3,e4,e5⟩;go_simp;try with_reducible rfl
   simp only[Act.put,gD];refine wpE_tk (i:=5) (v:=?_) hE0 rfl ?_ ?_;rotate_left
   ·rintro w ⟨e1,e2,e3,e4,e5⟩;go_simp;try with_reducible rfl
   simp only[Act.put,gD];refine wpE_tk (i:=6) (v:=?_) hE0 rfl ?_ ?_;rotate_left
   ·rintro w ⟨e1,e2,e3,e4,e5⟩;go_simp;try with_reducible rfl
   simp only[Act.put,gD];refine wpE_tk (i:=7) (v:=?_) hE0 rfl ?_ ?_;rotate_left
   ·rintro w ⟨e1,e2,e3,e4,e5⟩;go_simp;try with_reducible rfl
   simp only[Act.put,gD];refine wpE_one (i:=8) (by kernel_rfl) rfl (fun K hK=>?_);go_simp;go_at_call 66;refine(hkk'.out _ hS'.out.drew.below).mono ?_;rintro e w3 ⟨Ak2,ck2,rfl,hb3⟩;have hS3:=hS'.out.drew.pure hb3;obtain⟨q0,q1,q2,q3⟩:=hcl'.out _ _ _ hS3;have hE3:=And.intro q0 (And.intro q1 (And.intro q2 (And.intro q3 ((hx'.out _ hS3.below).1))));clear q0 q1 q2 q3;dsimp only;refine hK _ _ (fun _=>hE3) ?_;clear hK K;(try simp only[Act.put,gD]);refine wpE_one (i:=9) (by kernel_rfl) rfl (fun K hK=>?_);go_simp;refine hK _ _ (fun _=>hE3) ?_;clear hK K;(try simp only[Act.put,gD]);refine wpE_one (i:=10) (by kernel_rfl) rfl (fun K hK=>?_);go_simp;go_at_call 69;refine(hdd'.out _).mono ?_;rintro e w4 ⟨rfl,hbw4⟩;have hS4:=hS3.pure hbw4;obtain⟨q0,q1,q2,q3⟩:=hcl'.out _ _ _ hS4;have EhS4:=And.intro q0 (And.intro q1 (And.intro q2 (And.intro q3 ((hx'.out _ hS4.below).1))));clear q0 q1 q2 q3;dsimp only;refine hK _ _ (fun _=>EhS4) ?_;clear hK K;(try simp only[Act.put,gD]);refine wpE_one (i:=11) (by kernel_rfl) rfl (fun K hK=>?_);go_simp;go_at_call 70;refine(hpp'.out _).mono ?_;rintro e w5 ⟨rfl,hbw5⟩;have hS5:=hS4.pure hbw5;obtain⟨q0,q1,q2,q3⟩:=hcl'.out _ _ _ hS5;have EhS5:=And.intro q0 (And.intro q1 (And.intro q2 (And.intro q3 ((hx'.out _ hS5.below).1))));clear q0 q1 q2 q3;dsimp only;refine hK _ _ (fun _=>EhS5) ?_;clear hK K;(try simp only[Act.put,gD]);obtain⟨q0,q1,q2,q3,q4⟩:=EhS5;have f0:=hS5.bF 0 rfl 0;have f1:=hS5.bF 0 rfl 1;refine wpE_one (i:=12) (by kernel_rfl) rfl (fun K hK=>?_);go_simp;refine hK _ _ (fun h=>absurd rfl h) ?_;clear hK K;(try simp only[Act.put,gD]);refine wpE_done (by kernel_rfl) ?_ _;have hS6:=Lh ((hS5.bS 0 rfl 0 (.int .i64 (B+D))).bS 0 rfl 1 (.int .i64 (I+1)));clear q0 q1 q2 q3 q4 f0 f1 hS5 hS4 EhS4 hS3 hE3 hE0;go_wp2_with fail;go_roundw
   case rel=>refine⟨i+1,B+D,I+1,by omega,by go_num,Lh ?_,hS6.out⟩;have g1:=hsB.out;have g2:=hsI.out;simp only[if_pos hd'.out,hD'.out]at g1 g2;obtain⟨g3,g4⟩:=hBI.out;simp only[dnB,dnI]at g3 g4 ⊢;exact⟨by rw[g1,g3];omega,by rw[g2,g4];omega⟩
   case measure=>(simp[intOf];omega)
  (have hq:(n.file== -1)=false:=by simpa using hd);have hd':=Lh hd;clear hd;go_wp2_with fail;go_roundw
  case rel=>refine⟨i+1,B,I,by omega,by go_num,Lh ?_,hS'.out⟩;have g1:=hsB.out;have g2:=hsI.out;simp only[if_neg hd'.out]at g1 g2;obtain⟨g3,g4⟩:=hBI.out;simp only[dnB,dnI]at g3 g4 ⊢;exact⟨by rw[g1,g3];omega,by rw[g2,g4];omega⟩
  case measure=>(simp[intOf];omega)
 have c22:¬(i:Int)<(ns.length:Int):=by omega
 have hBI2:Hid (B=dirB (cntK ns [])+dnB (cntK ns) ns∧I=1+dnI ns):=by have e:ns.take i=ns:=List.take_of_length_le (by omega);have h:=hBI.out;rw[e]at h;exact h
 have hS':=Lh hS;clear hS hBI;go_wp2_with fail;clear z0 z1 y0 y1;go_loopw[5] (fun iv wr=>∃(j:Nat) (C J:Int),j≤fs.length∧iv= .int .i64 j∧Hid (C=B+dfB (fs.take j)∧J=I+j)∧Sep w wr [.box w2.heap.size 80 #[.int .i64 C,.int .i64 J],.box (w.heap.size+1) 80 #[.int .i64 0,.int .i64 0],.box w.heap.size 25 #[.slice A1 ns.length ca1,.slice A2 fs.length ca2]]) (fun iv _=>fs.length-(intOf iv).toNat)
 case atStart=>exact⟨0,B,I,Nat.zero_le _,rfl,Lh (by simp[dfB]),hS'.out⟩
 obtain⟨j,C,J,hj,rfl,hCJ,hS⟩:=hrel;have d0:(0:Int)≤(j:Int):=by omega
 obtain⟨y0,y1,z0,z1⟩:=hcl'.out _ _ _ hS;by_cases hlt2:j<fs.length
 ·(have d2:(j:Int)<(fs.length:Int):=by omega);obtain⟨g,o,c,e,_,_,_,hcell⟩:=hfp'.out.place (by omega) (by decide);cases e;obtain⟨f,he⟩:∃f,fs[j]? =some f:=⟨_,gE hlt2⟩;obtain⟨u,hu⟩:∃u,vs[j]? =some u:=⟨_,gE (by rw[h'.out.len];exact hlt2)⟩;obtain⟨A,c9,rfl,_⟩:=(h'.out.data j u f hu he).shape;(have hx:=fun(W:World) (hW:Below w.heap.size w W)=>(hcell _ hW (j*2+1) (by omega)).trans (tfCells_at he hu 1 (by omega)));simp only[tfC,gB,gC,←Nat.add_assoc]at hx;have x1:=hx _ hS.below;have hx':=Lh hx;have hfs:=hsz'.out f (gG he);have hsF:=Lh (sum_take (fun f:TF=>fileB f.size) he);have hBb:=dirB_le (cntK ns []);have hk0:=hK9'.out [];have hB1:=dnB_bound hK9'.out ns;have hB2:=dnI_bound ns;(have hB3:=dfB_bound (fs:=fs.take j) fun f hf=>hsz'.out f (List.mem_of_mem_take hf));rw[List.length_take,Nat.min_eq_left (by omega)]at hB3;(have hBB: -1000000≤C∧C≤1000000:=by have:=hBI2.out.1;have:=hCJ.out.1;omega);(have hII: -1000000≤J∧J≤1000000:=by have:=hBI2.out.2;have:=hCJ.out.2;omega);(have hDb:0≤fileB f.size∧fileB f.size≤3000:=by unfold fileB;split<;>omega);(have hdd:=fun W=>reffile_any hfs W);obtain⟨D,hD⟩:∃D,fileB f.size=D:=⟨_,rfl⟩;rw[hD]at hdd hDb;(have hpp:=fun W=>tplus_any (B:=C) (I:=J) (C:=D) (J:=1) hBB hII (by omega) (by omega) W);have hdd':=Lh hdd;have hpp':=Lh hpp;have hS3:=hS;have hE0:=And.intro y0 (And.intro y1 (And.intro z0 (And.intro z1 x1)));have hD':=Lh hD;unfold tollV at*;clear hx hcell he hu hBb hk0 hB1 hB2 hB3 hBB hII hdd hpp hD hDb;go_wp2_with fail;refine wp_region_E (S:=fun w'=>w'.cell? ⟨w2.heap.size,0,none⟩=some (.int .i64 C)∧w'.cell? ⟨w2.heap.size,1,none⟩=some (.int .i64 J)∧w'.cell? ⟨w.heap.size,0,none⟩=some (.slice A1 ns.length ca1)∧w'.cell? ⟨w.heap.size,1,none⟩=some (.slice (some ⟨g,o,none⟩) fs.length ca2)∧w'.cell? ⟨g,o+j*2+1,none⟩=some (.slice A f.size c9)) 10 (by kernel_rfl) ?_;simp only[List.size_toArray,List.length_cons,List.length_nil,Nat.reduceAdd];refine wpE_tk (i:=0) (v:=?_) hE0 rfl ?_ ?_;rotate_left
  ·rintro w ⟨e1,e2,e3,e4,e5⟩;go_simp;try with_reducible rfl
  simp only[Act.put,gD];refine wpE_tk (i:=1) (v:=?_) hE0 rfl ?_ ?_;rotate_left
  ·rintro w ⟨e1,e2,e3,e4,e5⟩;go_simp;try with_reducible rfl
  simp only[Act.put,gD];refine wpE_tk (i:=2) (v:=?_) hE0 rfl ?_ ?_;rotate_left
  ·rintro w ⟨e1,e2,e3,e4,e5⟩;go_simp;try with_reducible rfl
  simp only[Act.put,gD];refine wpE_tk (i:=3) (v:=?_) hE0 rfl ?_ ?_;rotate_left
  ·rintro w ⟨e1,e2,e3,e4,e5⟩;go_simp;try with_reducible rfl
  simp only[Act.put,gD];refine wpE_tk (i:=4) (v:=?_) hE0 rfl ?_ ?_;rotate_left
  ·rintro w ⟨e1,e2,e3,e4,e5⟩;go_simp;try with_reducible rfl
  simp only[Act.put,gD];refine wpE_tk (i:=5) (v:=?_) hE0 rfl ?_ ?_;rotate_left
  ·rintro w ⟨e1,e2,e3,e4,e5⟩;go_simp;try with_reducible rfl
  simp only[Act.put,gD];refine wpE_tk (i:=6) (v:=?_) hE0 rfl ?_ ?_;rotate_left
  ·rintro w ⟨e1,e2,e3,e4,e5⟩;go_simp;try with_reducible rfl
  simp only[Act.put,gD];refine wpE_one (i:=7) (by kernel_rfl) rfl (fun K hK=>?_);go_simp;refine hK _ _ (fun _=>And.intro y0 (And.intro y1 (And.intro z0 (And.intro z1 x1)))) ?_;clear hK K;(try simp only[Act.put,gD]);refine wpE_one (i:=8) (by kernel_rfl) rfl (fun K hK=>?_);go_simp;go_at_call 71;refine(hdd'.out _).mono ?_;rintro e w4 ⟨rfl,hbw4⟩;have hS4:=hS3.drew.pure hbw4;obtain⟨q0,q1,q2,q3⟩:=hcl'.out _ _ _ hS4;have EhS4:=And.intro q0 (And.intro q1 (And.intro q2 (And.intro q3 (hx'.out _ hS4.below))));clear q0 q1 q2 q3;dsimp only;refine hK _ _ (fun _=>EhS4) ?_;clear hK K;(try simp only[Act.put,gD]);refine wpE_one (i:=9) (by kernel_rfl) rfl (fun K hK=>?_);go_simp;go_at_call 70;refine(hpp'.out _).mono ?_;rintro e w5 ⟨rfl,hbw5⟩;have hS5:=hS4.pure hbw5;obtain⟨q0,q1,q2,q3⟩:=hcl'.out _ _ _ hS5;have EhS5:=And.intro q0 (And.intro q1 (And.intro q2 (And.intro q3 (hx'.out _ hS5.below))));clear q0 q1 q2 q3;dsimp only;refine hK _ _ (fun _=>EhS5) ?_;clear hK K;(try simp only[Act.put,gD]);obtain⟨q0,q1,q2,q3,q4⟩:=EhS5;have f0:=hS5.bF 0 rfl 0;have f1:=hS5.bF 0 rfl 1;refine wpE_one (i:=10) (by kernel_rfl) rfl (fun K hK=>?_);go_simp;refine hK _ _ (fun h=>absurd rfl h) ?_;clear hK K;(try simp only[Act.put,gD]);refine wpE_done (by kernel_rfl) ?_ _;have hS6:=Lh ((hS5.bS 0 rfl 0 (.int .i64 (C+D))).bS 0 rfl 1 (.int .i64 (J+1)));clear q0 q1 q2 q3 q4 f0 f1 hS5 hS4 EhS4 hS3 hE0 hS;go_wp2_with fail;go_roundw
  case rel=>refine⟨j+1,C+D,J+1,by omega,by go_num,Lh ?_,hS6.out⟩;have g1:=hsF.out;simp only[hD'.out]at g1;obtain⟨g3,g4⟩:=hCJ.out;unfold dfB at g3 ⊢;exact⟨by rw[g1,g3];omega,by rw[g4];omega⟩
  case measure=>(simp[intOf];omega)
 have d22:¬(j:Int)<(fs.length:Int):=by omega
 have hfin:C=wdB ns fs∧J=wdI ns fs:=by have e:fs.take j=fs:=List.take_of_length_le (by omega);have h:=hCJ.out;rw[e]at h;have h2:=hBI2.out;(have h3:j=fs.length:=by omega);unfold wdB wdI;exact⟨by rw[h.1,h2.1],by rw[h.2,h2.2,h3]⟩
 obtain⟨e1,e2⟩:=hfin;have e1':=Lh e1;have e2':=Lh e2;have q0:=hS.bC 1 rfl 0;have q1:=hS.bC 1 rfl 1;have f0:=hS.bF 1 rfl 0;have f1:=hS.bF 1 rfl 1;simp only[gA,gB,gC]at q0 q1;have hS6:=(hS.bS 1 rfl 0 (.int .i64 C)).bS 1 rfl 1 (.int .i64 J);have r0:=hS6.bC 1 rfl 0;have r1:=hS6.bC 1 rfl 1;have r0':=Lh r0;have r1':=Lh r1;have hS6':=Lh hS6;clear hS6 r0 r1 hS e1 e2 hCJ;go_wp2_with fail;refine bodyPost_ret (toll_results1 rfl rfl r0'.out r1'.out) rfl ?_;exact⟨by rw[←e1'.out,←e2'.out];rfl,hS6'.out.below⟩
end Go.Proofs.YtimkjnbihlgbiaaGreat
