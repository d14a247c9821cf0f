/- FvM, FvN, FvP, FvK, FvL, NamesPlain, laid together. -/
import Derived.Test.YteihmbaimbogaaaGreatJ42
namespace Go.Proofs.YteihmbaimbogaaaGreat
set_option linter.unusedVariables false
set_option linter.unusedSimpArgs false
theorem fillP_like {S S1:VS} {n:Nat} {bs:List UInt8} (h:fillP S n bs=some S1):Like S S1:=by
 unfold fillP at h;split at h
 ·cases h
 rename_i S2 l h1;cases h;exact((fitP_like h1).trans (laysP_laid bs l 0 S2).like).keep n _
structure Chg (S:VS) (g':LT) (S1:VS):Prop where
 ph:Phys S1 g'
 like:Like S S1
 m:S1.m≤40
def newLI (kind mode:Nat) (bs:List UInt8):LI:=⟨kind,mode,1,[],bs⟩
theorem newLI_fair {kind mode:Nat} {bs:List UInt8} (hk:kind=1∧bs=[]∨kind=2) (hm:mode<65536) (hb:bs.length≤8192):(newLI kind mode bs).fair:=
 ⟨by show kind≤2;omega,fun _=>rfl,fun h=>by rcases hk with hk|hk;exact hk.2;exact absurd hk h,by show 0≤448;omega,hb,hm,by show 1<65536;omega,fun e he=>by cases he⟩
section
variable {S:VS} {g:LT}
theorem Phys.free_some (h:Phys S g) {n:Nat} (hn:freeI S.cur S.names=some n):n<S.names∧(g n).kind=0:=by have h1:=freeI_lt hn;refine⟨h1,?_⟩;have h2:=List.find?_some hn;rw[h.kind h1]at h2;simpa using h2
theorem Phys.free_none (h:Phys S g) (hn:freeI S.cur S.names=none):∀i<S.names,(g i).kind≠0:=fun i hi e=>by have:=List.find?_eq_none.1 hn i (List.mem_range.2 hi);rw[h.kind hi,e]at this;exact this rfl
theorem Phys.madeFile (h:Phys S g) (hm0:S.m=0) {dir n mode:Nat} {name bs:List UInt8} (hd:dir<S.names) (hk:(g dir).kind=1) (hsz:(g dir).ents.length<448) (hname:name.length≤15) (hmode:mode<65536) (hbs:bs.length≤8192)
  (hn:freeI S.cur S.names=some n):
  (∀S1,madeFileP S n (⟨2,mode,1,0,[]⟩:VI) bs dir name=some S1→Chg S (updT (updT g n (newLI 2 mode bs)) dir ((g dir).more name n)) S1)∧
  (madeFileP S n (⟨2,mode,1,0,[]⟩:VI) bs dir name=none→S.count<needN (updT (updT g n (newLI 2 mode bs)) dir ((g dir).more name n)) S.names)∧
  (InoOk (S.keep n (⟨2,mode,1,0,[]⟩:VI)) n∧SmallW (S.keep n (⟨2,mode,1,0,[]⟩:VI))∧∀S2,fillP (S.keep n (⟨2,mode,1,0,[]⟩:VI)) n bs=some S2→Like S S2∧EnterOk S2 dir n name∧SmallV S2):=by
 obtain⟨hn1,hn0⟩:=h.free_some hn;have hnd:dir≠n:=fun e=>by rw[e,hn0]at hk;cases hk
 obtain⟨hsp,hA⟩:=h.newFile (n:=n) (mode:=mode) (links:=1) hn1 hn0 hmode (by omega);obtain⟨SA,hSA⟩:∃SA,SA=S.keep n (⟨2,mode,1,0,[]⟩:VI):=⟨_,rfl⟩;rw[←hSA]at hA ⊢;have hLA:Like S SA:=by rw[hSA];exact(Like.refl S).keep n _
 have hnA:SA.names=S.names:=hLA.names;have hmA:SA.m=1:=by rw[hSA];show S.m+1=1;rw[hm0]
 have hn65:n≤65535:=by have:=h.names_le;omega
 have gAn:updT g n ⟨2,mode,1,[],[]⟩ n=⟨2,mode,1,[],[]⟩:=updT_same _ _ _;obtain⟨hF1,hF2⟩:=hA.fill (n:=n) (bs:=bs) (by rw[hnA];exact hn1) (by rw[gAn]) hbs;have eg:updT (updT g n ⟨2,mode,1,[],[]⟩) n {updT g n ⟨2,mode,1,[],[]⟩ n with data:=bs}=updT g n (newLI 2 mode bs):=by rw[gAn];funext i;unfold updT;split<;>rfl
 rw[eg]at hF1 hF2;have gd:updT g n (newLI 2 mode bs) dir=g dir:=updT_ne _ _ hnd;have hsA:(inoP SA.cur n).spots=[]:=List.eq_nil_of_length_eq_zero (by rw[hA.len n (by rw[hnA];exact hn1),gAn];simp[LI.need]);have hcnt:SA.count=S.count:=hLA.count;have two:∀S2,fillP SA n bs=some S2→Phys S2 (updT g n (newLI 2 mode bs))∧Like S S2∧S2.m≤34:=fun S2 hS2=>by refine⟨hF1 S2 hS2,hLA.trans (fillP_like hS2),?_⟩;have:=fill_m hS2;rw[hsA,hmA]at this;simp only[List.length_nil]at this;omega
 refine⟨fun S1 hS1=>?_,fun hno=>?_,hA.inoOk (by rw[hnA];exact hn1),hA.sw,fun S2 hS2=>?_⟩
 ·unfold madeFileP at hS1;rw[←hSA]at hS1;split at hS1
  ·cases hS1
  rename_i S2 hS2;obtain⟨h2,hL2,hm2⟩:=two S2 hS2;have hE:=(h2.enter (dir:=dir) (n:=n) (name:=name) (by rw[hL2.names];exact hd) (by rw[gd];exact hk) (by rw[gd];exact hsz) hname hn65).1 S1 hS1;rw[gd]at hE;refine⟨hE,hL2.trans (enterP_like hS1),?_⟩;have:=h2.enter_m (by rw[hL2.names];exact hd) (by rw[gd];exact hk) hS1;omega
 ·unfold madeFileP at hno;rw[←hSA]at hno;split at hno
  ·rename_i hf;have:=hF2 hf;rw[hcnt,hnA]at this;refine Nat.lt_of_lt_of_le this ?_;have h1:=needN_upd (g:=updT g n (newLI 2 mode bs)) hd ((g dir).more name n);(have h2:(updT g n (newLI 2 mode bs) dir).need≤((g dir).more name n).need:=by rw[gd,dir_need hk,dir_need (x:=(g dir).more name n) hk];have e:((g dir).more name n).ents.length=(g dir).ents.length+1:=List.length_append;rw[e];omega);omega
  rename_i S2 hS2;obtain⟨h2,hL2,hm2⟩:=two S2 hS2;have hE:=(h2.enter (dir:=dir) (n:=n) (name:=name) (by rw[hL2.names];exact hd) (by rw[gd];exact hk) (by rw[gd];exact hsz) hname hn65).2 hno;rw[gd,hL2.count,hL2.names]at hE;exact hE
 obtain⟨h2,hL2,hm2⟩:=two S2 hS2;exact⟨hL2,h2.enterOk (by rw[hL2.names];exact hd) (by rw[gd];exact hk) (by rw[gd];exact hsz) hname hn65,h2.sv⟩
theorem madeBlk_ino (S:VS) (j:Nat) {m:Nat} (hm:m<S.names):inoP (madeBlkP S j).cur m=inoP S.cur m:=by
 unfold inoP;show viD (((bk ((S.cur.set 1 _).set (S.data+j) zeroB) (2+m/8)).drop (m%8*64)).take 64)=_
 rw[bk_set_ne _ _ (by unfold VS.data;omega),bk_set_ne _ _ (by omega)]
theorem more_need {x:LI} (hk:x.kind=1) (name:List UInt8) (n:Nat):x.need≤(x.more name n).need:=by rw[dir_need hk,dir_need (x:=x.more name n) hk];have e:(x.more name n).ents.length=x.ents.length+1:=List.length_append;rw[e];omega
theorem Phys.madeDir (h:Phys S g) (hm0:S.m=0) {dir n mode:Nat} {name:List UInt8} (hd:dir<S.names) (hk:(g dir).kind=1) (hsz:(g dir).ents.length<448) (hname:name.length≤15) (hmode:mode<65536)
  (hn:freeI S.cur S.names=some n):
  (∀j,freeL (bk S.cur 1) S.count=some j→
   (∀S1,enterP (madeDirP S n (⟨1,mode,1,0,[]⟩:VI) j) dir name n=some S1→Chg S (updT (updT g n (newLI 1 mode [])) dir ((g dir).more name n)) S1)∧
   (enterP (madeDirP S n (⟨1,mode,1,0,[]⟩:VI) j) dir name n=none→S.count<needN (updT (updT g n (newLI 1 mode [])) dir ((g dir).more name n)) S.names)∧
   ((⟨1,mode,1,0,[j]⟩:VI).ok∧InoOk (madeBlkP S j) n∧SmallW (madeBlkP S j)∧EnterOk (madeDirP S n (⟨1,mode,1,0,[]⟩:VI) j) dir n name∧SmallV (madeDirP S n (⟨1,mode,1,0,[]⟩:VI) j)))∧
  (freeL (bk S.cur 1) S.count=none→S.count<needN (updT (updT g n (newLI 1 mode [])) dir ((g dir).more name n)) S.names):=by
 obtain⟨hn1,hn0⟩:=h.free_some hn;have hnd:dir≠n:=fun e=>by rw[e,hn0]at hk;cases hk
 have hn65:n≤65535:=by have:=h.names_le;omega
 obtain⟨hA,hB⟩:=h.newDir (n:=n) (mode:=mode) (links:=1) hn1 hn0 hmode (by omega);have gd:updT g n (newLI 1 mode []) dir=g dir:=updT_ne _ _ hnd;have hsp:(inoP S.cur n).spots=[]:=List.eq_nil_of_length_eq_zero (by rw[h.len n hn1];unfold LI.need;rw[if_neg (by omega),if_neg (by omega)]);constructor
 ·intro j hj;have h2:=hA j hj;have hj1:=freeL_lt2 hj;obtain⟨SA,hSA⟩:∃SA,SA=madeDirP S n (⟨1,mode,1,0,[]⟩:VI) j:=⟨_,rfl⟩;rw[←hSA]at h2 ⊢;have h2':Phys SA (updT g n (newLI 1 mode [])):=h2;(have hL2:Like S SA:=by rw[hSA];exact(((Like.refl S).put _ _).put _ _).keep n _);(have hm2:SA.m=3:=by rw[hSA];show S.m+1+1+1=3;rw[hm0]);have hE:=h2'.enter (dir:=dir) (n:=n) (name:=name) (by rw[hL2.names];exact hd) (by rw[gd];exact hk) (by rw[gd];exact hsz) hname hn65;rw[gd,hL2.count,hL2.names]at hE;refine⟨fun S1 hS1=>⟨hE.1 S1 hS1,hL2.trans (enterP_like hS1),?_⟩,hE.2,⟨by show 1<256;omega,hmode,by show 1<65536;omega,by show 0<65536;omega,by show 1≤28;omega,fun k hk=>?_⟩,⟨hn1,?_,?_⟩,⟨h.sw.b0,h.sw.b1,h.sw.i0,h.sw.i1⟩,h2'.enterOk (by rw[hL2.names];exact hd) (by rw[gd];exact hk) (by rw[gd];exact hsz) hname hn65,h2'.sv⟩
  ·have:=h2'.enter_m (by rw[hL2.names];exact hd) (by rw[gd];exact hk) hS1;omega
  ·rw[List.mem_singleton]at hk;rw[hk];exact h.spot_small hj1
  ·rw[madeBlk_ino S j hn1,hsp];exact Nat.zero_le _
  rw[madeBlk_ino S j hn1,hsp];intro s hs;cases hs
 intro hno;have h1:=hB hno;have h2:=needN_upd (g:=updT g n (newLI 1 mode [])) hd ((g dir).more name n);rw[gd]at h2;have h3:=more_need hk name n;have h4:S.count<needN (updT g n (newLI 1 mode [])) S.names:=h1;omega
theorem Phys.made (h:Phys S g) (hm0:S.m=0) (hr:S.rB=S.count∧S.rI=S.names) {kind dir mode:Nat} {path bs:List UInt8} (hkd:kind=1∧bs=[]∨kind=2) (hd:dir<S.names) (hk:(g dir).kind=1) (hsz:(g dir).ents.length<448)
  (hv:validL path=true) (hp:path.length≤1048576) (hname:(baseP path).length≤15) (hmode:mode<65536) (hbs:bs.length≤8192):
  MadeOk S (⟨kind,mode,1,0,[]⟩:VI) bs dir path∧
  ((freeI S.cur S.names=none∧madeP S (⟨kind,mode,1,0,[]⟩:VI) bs dir (baseP path)=none)∨
  ∃n,freeI S.cur S.names=some n∧
   (∀S1,madeP S (⟨kind,mode,1,0,[]⟩:VI) bs dir (baseP path)=some S1→Chg S (updT (updT g n (newLI kind mode bs)) dir ((g dir).more (baseP path) n)) S1)∧
   (madeP S (⟨kind,mode,1,0,[]⟩:VI) bs dir (baseP path)=none→S.count<needN (updT (updT g n (newLI kind mode bs)) dir ((g dir).more (baseP path) n)) S.names)):=by
 have hsec:(freeI S.cur S.names=none∧madeP S (⟨kind,mode,1,0,[]⟩:VI) bs dir (baseP path)=none)∨
  ∃n,freeI S.cur S.names=some n∧
   (∀S1,madeP S (⟨kind,mode,1,0,[]⟩:VI) bs dir (baseP path)=some S1→Chg S (updT (updT g n (newLI kind mode bs)) dir ((g dir).more (baseP path) n)) S1)∧
   (madeP S (⟨kind,mode,1,0,[]⟩:VI) bs dir (baseP path)=none→S.count<needN (updT (updT g n (newLI kind mode bs)) dir ((g dir).more (baseP path) n)) S.names):=by
  rcases hn:freeI S.cur S.names with _|n
  ·exact .inl ⟨rfl,by unfold madeP;rw[hn]⟩
  ·refine .inr ⟨n,rfl,?_⟩;rcases hkd with⟨rfl,rfl⟩|rfl
   ·have hD:=h.madeDir hm0 (name:=baseP path) hd hk hsz hname hmode hn;unfold madeP;rw[hn];simp only[if_true];rcases hj:freeL (bk S.cur 1) S.count with _|j
    ·exact⟨fun S1 e=>(by cases e),fun _=>hD.2 hj⟩
    exact⟨(hD.1 j hj).1,(hD.1 j hj).2.1⟩
   have hF:=h.madeFile hm0 (name:=baseP path) hd hk hsz hname hmode hbs hn;unfold madeP;rw[hn];exact⟨hF.1,hF.2.1⟩
 refine⟨⟨h.tabOk,h.sw,hv,hp,?_,rfl,?_,hbs,?_,?_,?_⟩,hsec⟩
 ·(show kind=1∨kind=2);omega
 ·exact⟨by show kind<256;omega,hmode,by show 1<65536;omega,by show 0<65536;omega,Nat.zero_le _,fun k hk=>by cases hk⟩
 ·intro n hn hk2;have hk2':kind=2:=hk2;subst hk2';exact(h.madeFile hm0 (name:=baseP path) hd hk hsz hname hmode hbs hn).2.2
 ·intro n j hn hj hk1;have hk1':kind=1:=hk1;subst hk1';exact((h.madeDir hm0 (name:=baseP path) hd hk hsz hname hmode hn).1 j hj).2.2
 ·intro S1 hS1;rcases hsec with⟨_,h1⟩|⟨n,_,h1,_⟩
  ·rw[h1]at hS1;cases hS1
  have:=h1 S1 hS1;exact Phys.changeOk hr h.use this.like this.ph this.m
end
def Few (c:Blks) (S:VS):Prop:=∃ks:List Nat,ks.length≤S.m∧∀k,k∉ks→bk S.cur k=bk c k
section
variable {c:Blks} {S S1:VS}
theorem Few.refl (S:VS):Few S.cur S:=⟨[],Nat.zero_le _,fun _ _=>rfl⟩
theorem Few.put (h:Few c S) (k:Nat) (bs:List UInt8):Few c (S.put k bs):=by
 obtain⟨ks,h1,h2⟩:=h;refine⟨k::ks,by show ks.length+1≤S.m+1;omega,fun j hj=>?_⟩;rw[List.mem_cons,not_or]at hj;show bk (S.cur.set k bs) j=_
 rw[bk_set_ne _ _ hj.1,h2 j hj.2]
theorem Few.node (h:Few c S) (z:Int):Few c (S.node z):=h
theorem Few.keep (h:Few c S) (n:Nat) (x:VI):Few c (S.keep n x):=by
 obtain⟨ks,h1,h2⟩:=h;refine⟨(2+n/8)::ks,by show ks.length+1≤S.m+1;omega,fun j hj=>?_⟩;rw[List.mem_cons,not_or]at hj;show bk (keepP S.cur n x) j=_
 rw[keep_blk _ _ hj.1,h2 j hj.2]
theorem Few.setE (h:Few c S) (s i:Nat) (name:List UInt8) (n:Nat):Few c (S.setE s i name n):=h.put _ _
theorem Few.fitP {l l1:List Nat} {n:Nat} (h:Few c S) (hf:fitP S l n=some (S1,l1)):Few c S1:=by
 have hd:∀(k:Nat) (S:VS) (l:List Nat),Few c S→Few c (downP k S l).1:=fun k=>by
  induction k with
  |zero=>exact fun S l h=>h
  |succ k ih=>exact fun S l h=>ih _ _ (h.put 1 _)
 have hu:∀(k:Nat) (S:VS) (l:List Nat) {S1:VS} {l1:List Nat},Few c S→upP k S l=some (S1,l1)→Few c S1:=fun k=>by
  induction k with
  |zero=>intro S l S1 l1 h e;cases e;exact h
  |succ k ih=>
   intro S l S1 l1 h e;unfold upP at e;split at e
   ·cases e
   exact ih _ _ (h.put 1 _) e
 exact hu _ _ _ (hd _ _ _ h) hf
theorem Few.laysP (bs:List UInt8):∀(l:List Nat) (k:Nat) {S:VS},Few c S→Few c (laysP bs l k S)
 |[],_,_,h=>h
 |s::l,k,_,h=>Few.laysP bs l (k+1) (h.put _ _)
theorem Few.fillP {n:Nat} {bs:List UInt8} (h:Few c S) (hf:fillP S n bs=some S1):Few c S1:=by
 unfold Go.Proofs.YteihmbaimbogaaaGreat.fillP at hf;split at hf
 ·cases hf
 rename_i S2 l h1;cases hf;exact((h.fitP h1).laysP bs l 0).keep n _
theorem Few.enterP {dir n:Nat} {name:List UInt8} (h:Few c S) (hf:enterP S dir name n=some S1):Few c S1:=by
 unfold Go.Proofs.YteihmbaimbogaaaGreat.enterP at hf;split at hf
 ·cases hf
 rename_i S2 l h1;cases hf;exact(((h.node _).fitP h1).keep dir _).setE _ _ _ _
theorem Few.madeP {x:VI} {bs:List UInt8} {dir:Nat} {name:List UInt8} (h:Few c S) (hf:madeP S x bs dir name=some S1):Few c S1:=by
 unfold Go.Proofs.YteihmbaimbogaaaGreat.madeP at hf;split at hf
 ·cases hf
 rename_i n h1;split at hf
 ·split at hf
  ·cases hf
  exact Few.enterP (((h.put 1 _).put _ _).keep _ _) hf
 unfold madeFileP at hf;split at hf
 ·cases hf
 rename_i S2 h2;exact((h.keep _ _).fillP h2).enterP hf
theorem Few.puts (h:Few (S.D.now.drop 96) S):(putsP S).length≤S.m:=by
 obtain⟨ks,h1,h2⟩:=h;have h3:(putsP S).length=(((List.range (S.nb-96)).filter fun k=>bk S.cur k !=bk S.D.now (96+k))).length:=List.length_map _;rw[h3];refine Nat.le_trans (List.Nodup.length_le_of_subset ((List.nodup_range).filter _) fun k hk=>?_) h1;have h4:=(List.mem_filter.1 hk).2;refine Classical.byContradiction fun hno=>?_
 have h5:=h2 k hno;rw[bk_drop]at h5;rw[h5]at h4;simp at h4
theorem Phys.with {g:LT} (h:Phys S g) (D:DK) (m:Nat):Phys {S with D:=D,m:=m} g:=
 ⟨⟨h.use.cur,⟨h.use.vf.names,h.use.vf.room⟩,h.use.nb⟩,h.n0,h.fair,h.head,h.len,h.lt,h.nodup,h.dis,h.bits,h.ents,h.data,h.wB,h.wI,h.nodes⟩
theorem settled_cur (hD:S.D.ok S.nb) (h96:96<S.nb) (hcur:BlksOk (S.nb-96) S.cur) (hfew:Few (S.D.now.drop 96) S) (hm:S.m≤40) (hc:S.commit.2=true):S.settled.base.cur=S.cur:=by
 have hp:(putsP S).length≤40:=Nat.le_trans hfew.puts hm;have hok:=commit_ok hD h96 hcur hp;show S.commit.1.now.drop 96=S.cur
 refine List.ext_getElem (by rw[List.length_drop,hok.now.len,hcur.len]) fun k h1 h2=>?_
 have hk:k<S.nb-96:=by rw[←hcur.len];exact h2
 have:=commit_now hD.now.len hp hc hk;unfold bk at this;rw[gH,gH,gE h2,gE (by rw[List.length_drop]at h1;omega)]at this;rw[List.getElem_drop];exact this
theorem Phys.settled {g:LT} (h:Phys S g) (hD:S.D.ok S.nb) (h96:96<S.nb) (hfew:Few (S.D.now.drop 96) S) (hm:S.m≤40) (hc:S.commit.2=true):Phys S.settled.base g:=by
 have e:S.settled.base= {S with D:=S.commit.1,m:=0}:=by have:=settled_cur hD h96 h.use.cur hfew hm hc;(show({S with D:=S.commit.1,cur:=S.settled.base.cur,m:=0}:VS)=_);rw[this]
 rw[e];exact h.with _ _
end
def lenF (fs:List FT) (k:Int):Nat:=((fs[k.toNat]?).map fun f=>f.bs.length).getD 0
def kidsLen (ns:List TN) (K:Key):Nat:=(kidsN ns K).length
def treeB (ns:List TN) (fs:List FT):Int:=wghB 1 (kidsLen ns [])+((dirsN ns).map fun n=>wghB 1 (kidsLen ns (keyN n))).sum+((filesN ns).map fun k=>wghB 2 (lenF fs k)).sum
def treeI (ns:List TN):Int:=1+(dirsN ns).length+(filesN ns).length
theorem sum_one {α:Type}:∀ {l:List α} {F:α→Int},(∀x∈l,F x=1)→(l.map F).sum=l.length
 |[],_,_=>rfl
 |a::t,F,h=>by rw[List.map_cons,List.sum_cons,h a List.mem_cons_self,sum_one fun x hx=>h x (List.mem_cons_of_mem _ hx),List.length_cons];omega
theorem sum_zero {α:Type}:∀ {l:List α} {F:α→Int},(∀x∈l,F x=0)→(l.map F).sum=0
 |[],_,_=>rfl
 |a::t,F,h=>by rw[List.map_cons,List.sum_cons,h a List.mem_cons_self,sum_zero fun x hx=>h x (List.mem_cons_of_mem _ hx)];rfl
theorem sum_add {α:Type} (F G:α→Int):∀(l:List α),(l.map fun x=>F x+G x).sum=(l.map F).sum+(l.map G).sum
 |[]=>rfl
 |a::t=>by rw[List.map_cons,List.sum_cons,sum_add F G t,List.map_cons,List.sum_cons,List.map_cons,List.sum_cons];omega
theorem sum_pick :∀ {l:List Key} {K:Key},l.Nodup→K∈l→(l.map fun L=>if K=L then(1:Int)else 0).sum=1
 |a::t,K,hu,hm=>by
  rw[List.nodup_cons]at hu;rw[List.map_cons,List.sum_cons];rcases List.mem_cons.1 hm with e|hm
  ·rw[if_pos e,sum_zero fun x hx=>if_neg fun e2=>hu.1 (by rw[←e,e2];exact hx)];rfl
  rw[if_neg fun e=>hu.1 (by rw[←e];exact hm),sum_pick hu.2 hm];rfl
theorem sum_kids {l:List Key} (hu:l.Nodup):∀ {ns:List TN},(∀n∈ns,(keyN n).dropLast∈l)→(l.map fun K=>(kidsLen ns K:Int)).sum=ns.length
 |[],_=>sum_zero fun _ _=>rfl
 |n::t,h=>by
  have h1:(fun K=>(kidsLen (n::t) K:Int))=fun K=>(if(keyN n).dropLast=K then(1:Int)else 0)+(kidsLen t K:Int):=by
   funext K;unfold kidsLen kidsN;rw[List.filter_cons];by_cases e:(keyN n).dropLast=K
   ·rw[if_pos (by simp[e]),if_pos e,List.length_cons];omega
   rw[if_neg (by simp[e]),if_neg e];omega
  rw[h1,sum_add,sum_pick hu (h n List.mem_cons_self),sum_kids hu fun m hm=>h m (List.mem_cons_of_mem _ hm),List.length_cons];omega
section
variable {g:LT} {nm:Nat} {ns:List TN} {fs:List FT} {dn:Key→Nat} {φ:Int→Nat}
theorem Rep.kidsLen (h:Rep g nm ns fs dn φ) {K:Key} (hK:IsDir ns K):(g (dn K)).ents.length=kidsLen ns K:=by rw[(h.ents K hK).length_eq,List.length_map];rfl
theorem Rep.dirSize (h:Rep g nm ns fs dn φ) {K:Key} (hK:IsDir ns K):(g (dn K)).kind=1∧(g (dn K)).size=Go.Proofs.YteihmbaimbogaaaGreat.kidsLen ns K:=by have h1:=(h.dirI hK).2;refine⟨h1,?_⟩;unfold LI.size;rw[if_pos h1,h.kidsLen hK]
theorem Rep.fileSize (h:Rep g nm ns fs dn φ) {k:Int} (hk:k∈filesN ns):(g (φ k)).kind=2∧(g (φ k)).size=lenF fs k:=by obtain⟨h1,n,hn,e⟩:=mem_filesN.1 hk;rw[←e]at h1 ⊢;obtain⟨_,_,h3,⟨f,h4,_,h6⟩,_⟩:=h.file n hn h1;refine⟨h3,?_⟩;unfold LI.size lenF;rw[if_neg (by rw[h3];decide),h4,h6];rfl
theorem dirs_is {n:TN} (hn:n∈dirsN ns):IsDir ns (keyN n):=.inr ⟨n,(mem_dirsN.1 hn).1,rfl,(mem_dirsN.1 hn).2⟩
theorem Rep.wB (h:Rep g nm ns fs dn φ) (hfair:∀i<nm,(g i).fair):sumN (fun i=>wghB (g i).kind (g i).size) nm=treeB ns fs:=by
 rw[h.sum (fun x=>wghB x.kind x.size) (fun x hx=>by unfold wghB;rw[hx];rfl) hfair];unfold treeB;have h0:=h.dirSize (.inl rfl);rw[h.root]at h0;rw[h0.1,h0.2];congr 1
 ·congr 1;congr 1;exact List.map_congr_left fun n hn=>by rw[(h.dirSize (dirs_is hn)).1,(h.dirSize (dirs_is hn)).2]
 congr 1;exact List.map_congr_left fun k hk=>by rw[(h.fileSize hk).1,(h.fileSize hk).2]
theorem Rep.wI (h:Rep g nm ns fs dn φ) (hfair:∀i<nm,(g i).fair):sumN (fun i=>wghI (g i).kind) nm=treeI ns:=by rw[h.sum (fun x=>wghI x.kind) (fun x hx=>by unfold wghI;rw[hx];rfl) hfair,sum_one fun n hn=>by rw[(h.dirSize (dirs_is hn)).1];rfl,sum_one fun k hk=>by rw[(h.fileSize hk).1];rfl,h.rk];unfold treeI wghI;simp
theorem Rep.count (h:Rep g nm ns fs dn φ) (hfair:∀i<nm,(g i).fair):sumN (fun i=>((g i).ents.length:Int)) nm=ns.length:=by
 rw[sumN_congr (g:=fun i=>if(g i).kind=1 then((g i).ents.length:Int)else 0) fun i hi=>by
  by_cases e:(g i).kind=1
  ·rw[if_pos e]
  rw[if_neg e,(hfair i hi).ents e];rfl]
 rw[h.sum (fun x=>if x.kind=1 then(x.ents.length:Int)else 0) (fun x hx=>if_neg (by omega)) hfair];rw[sum_zero (F:=fun k=>if(g (φ k)).kind=1 then((g (φ k)).ents.length:Int)else 0) fun k hk=>if_neg (by rw[(h.fileSize hk).1];decide),if_pos h.rk];have h0:=h.kidsLen (.inl rfl);rw[h.root]at h0;rw[h0];have hu:([]::(dirsN ns).map keyN).Nodup:=by rw[List.nodup_cons];refine⟨fun hm=>?_,h.uniq.sublist (List.Sublist.map _ List.filter_sublist)⟩;obtain⟨n,_,e⟩:=List.mem_map.1 hm;exact keyN_ne n e
 have hs:=sum_kids hu (ns:=ns) fun n hn=>by
  rcases h.up n hn with e|⟨m,hm,e,hf⟩
  ·rw[e];exact List.mem_cons_self
  rw[←e];exact List.mem_cons_of_mem _ (List.mem_map.2 ⟨m,mem_dirsN.2 ⟨hm,hf⟩,rfl⟩)
 rw[List.map_cons,List.sum_cons,List.map_map]at hs;rw[←hs,Int.add_zero];congr 1;congr 1;exact List.map_congr_left fun n hn=>by rw[if_pos (h.dirSize (dirs_is hn)).1,h.kidsLen (dirs_is hn)];rfl
theorem need_wgh {x:LI} (h:x.fair):(x.need:Int)≤wghB x.kind x.size:=by
 unfold LI.need wghB LI.size;have:=h.kind;by_cases k1:x.kind=1
 ·rw[if_pos k1,if_pos k1,if_pos k1];omega
 rw[if_neg k1,if_neg k1];by_cases k2:x.kind=2
 ·rw[if_pos k2,if_pos k2,if_neg k1];split<;>omega
 rw[if_neg k2,if_neg k2];decide
theorem needN_wgh :∀ {nm:Nat},(∀i<nm,(g i).fair)→(needN g nm:Int)≤sumN (fun i=>wghB (g i).kind (g i).size) nm
 |0,_=>by simp[needN,sumN]
 |n+1,h=>by rw[needN_succ,sumN_succ];(have h1:=needN_wgh (nm:=n) fun i hi=>h i (by omega));have h2:=need_wgh (h n (by omega));omega
end
end Go.Proofs.YteihmbaimbogaaaGreat
namespace Go.Proofs.YteihmbaimbogaaaGreat
set_option linter.unusedVariables false
def nameB (s:List UInt8):Bool:=decide (0<s.length)&&decide (s.length≤14)&& !dots s&&s.all fun c=>charOk c.toNat
theorem splitB_head (p:List UInt8):∃h t,splitB p=h::t:=by
 induction p with
 |nil=>exact⟨[],[],rfl⟩
 |cons c l ih=>
  obtain⟨h,t,e⟩:=ih;rw[splitB_cons];split
  ·exact⟨_,_,rfl⟩
  rw[e];exact⟨_,_,rfl⟩
theorem runV_names :∀(p:List UInt8) (n:Nat) (cur:List UInt8),(cur.all fun c=>charOk c.toNat)=true→cur.length≤14→
  ∀h t,splitB p=h::t→runV p n cur=(nameB (cur++h)&&t.all nameB&&decide (n+t.length≤6))
 |[],n,cur,hc,hl,h,t,e=>by cases e;unfold runV nameB;rw[List.append_nil,hc];simp[hl]
 |c::cs,n,cur,hc,hl,h,t,e=>by
  obtain⟨h',t',e'⟩:=splitB_head cs;rw[splitB_cons,e']at e;unfold runV;by_cases h47:c=47
  ·rw[if_pos h47]at e ⊢;cases e;have ih:=runV_names cs (n+1) [] (by simp) (by simp) h' t' e';rw[ih,List.append_nil,List.nil_append];by_cases h0:cur.length=0∨dots cur=true
   ·rw[if_pos h0];have:nameB cur=false:=by
     unfold nameB;rcases h0 with h0|h0
     ·simp[h0]
     simp[h0]
    simp[this]
   rw[if_neg h0];(have:nameB cur=true:=by unfold nameB;rw[hc];simp only[not_or]at h0;simp only[Bool.and_true,Bool.and_eq_true,decide_eq_true_eq,Bool.not_eq_true'];refine⟨⟨by omega,hl⟩,by simpa using h0.2⟩);rw[this,List.all_cons,List.length_cons,Bool.true_and];(have e2:(n+1+t'.length≤6)↔(n+(t'.length+1)≤6):=by omega);simp only[e2]
  rw[if_neg h47]at e ⊢;cases e;by_cases hch:charOk c.toNat=false
  ·rw[if_pos hch];(have:nameB (cur++c::h')=false:=by unfold nameB;rw[List.all_append,List.all_cons,hch];simp);rw[this];simp
  rw[if_neg hch];by_cases h14:14<cur.length+1
  ·rw[if_pos h14];(have:nameB (cur++c::h')=false:=by unfold nameB;(have:¬(cur++c::h').length≤14:=by simp;omega);simp only[this,decide_false,Bool.and_false,Bool.false_and]);rw[this];simp
  rw[if_neg h14];have ih:=runV_names cs n (cur++[c]) (by rw[List.all_append,hc];simpa using hch) (by simp;omega) h' _ e';rw[ih,List.append_assoc];rfl
def refV (p:List UInt8):Bool:=decide (p.length≤100)&&(decide ((splitB p).length≤6)&&(splitB p).all nameB)
theorem splitB_len (p:List UInt8):p.length+1=((splitB p).map fun s=>s.length+1).sum:=by
 induction p with
 |nil=>rfl
 |cons c l ih=>
  obtain⟨h,t,e⟩:=splitB_head l;rw[splitB_cons,e];rw[e]at ih;split
  ·simp only[List.map_cons,List.sum_cons,List.length_cons,List.length_nil]at ih ⊢;omega
  simp only[List.map_cons,List.sum_cons,List.length_cons]at ih ⊢;omega
theorem names_sum (l:List (List UInt8)) (h:l.all nameB=true):(l.map fun s=>s.length+1).sum≤15*l.length:=by
 induction l with
 |nil=>simp
 |cons a l ih=>rw[List.all_cons,Bool.and_eq_true]at h;have:=ih h.2;(have h2:a.length≤14:=by have:=h.1;unfold nameB at this;simp only[Bool.and_eq_true,decide_eq_true_eq]at this;exact this.1.1.2);simp only[List.map_cons,List.sum_cons,List.length_cons];omega
theorem refV_valid (p:List UInt8):refV p=validL p:=by
 obtain⟨h,t,e⟩:=splitB_head p;have hv:validL p=(decide ((splitB p).length≤6)&&(splitB p).all nameB):=by unfold validL;rw[runV_names p 1 [] (by simp) (by simp) h t e,e,List.nil_append,List.all_cons,List.length_cons,Bool.and_comm];(have e2:(1+t.length≤6)↔(t.length+1≤6):=by omega);simp only[e2]
 unfold refV;rw[hv];cases hx:(decide ((splitB p).length≤6)&&(splitB p).all nameB)with
 |false=>simp
 |true=>rw[Bool.and_eq_true,decide_eq_true_eq]at hx;have h1:=splitB_len p;have h2:=names_sum _ hx.2;(have h3:p.length≤100:=by omega);simp[h3]
end Go.Proofs.YteihmbaimbogaaaGreat
