/- FvQ, FvR, FvS, FvT, laid together. -/
import Derived.Test.YteihmbaimbogaaaGreatJ43
namespace Go.Proofs.YteihmbaimbogaaaGreat
set_option linter.unusedVariables false
set_option linter.unusedSimpArgs false
theorem base_short {p:List UInt8} (h:validL p=true):(baseP p).length≤14:=by
 rw[←refV_valid]at h;unfold refV at h;simp only[Bool.and_eq_true]at h;have hm:baseP p∈splitB p:=by have:=split_base p;rw[this];exact List.mem_append_right _ (by simp)
 have:=List.all_eq_true.1 h.2.2 _ hm;unfold nameB at this;simp only[Bool.and_eq_true,decide_eq_true_eq]at this;exact this.1.1.2
def atT (ns:List TN) (K:Key):Except Int (Option TN):=(treeW ns K.dropLast.length K.dropLast).bind fun c=>if isDirO c=true then .ok (nodeK ns K)else .error 22
structure Vt (S:VS) (ns:List TN) (fs:List FT) (g:LT) (dn:Key→Nat) (φ:Int→Nat):Prop where
 vol:Vol S g
 rep:Rep g S.names ns fs dn φ
 m:S.m=0
section
variable {S:VS} {g:LT} {ns:List TN} {fs:List FT} {dn:Key→Nat} {φ:Int→Nat}
theorem Vt.nodes (h:Vt S ns fs g dn φ):S.nodes=ns.length:=by rw[h.vol.ph.nodes,h.rep.count h.vol.ph.fair]
theorem Vt.wB (h:Vt S ns fs g dn φ):S.wB=treeB ns fs:=by rw[h.vol.ph.wB,h.rep.wB h.vol.ph.fair]
theorem Vt.wI (h:Vt S ns fs g dn φ):S.wI=treeI ns:=by rw[h.vol.ph.wI,h.rep.wI h.vol.ph.fair]
theorem Rep.entLt {nm:Nat} (h:Rep g nm ns fs dn φ) (hfair:∀i<nm,(g i).fair):∀n<nm,∀e∈(g n).ents,e.2<nm:=fun n hn e he=>by
 by_cases hk:(g n).kind=1
 ·have hD:∃K,IsDir ns K∧dn K=n:=by
   rcases h.cover n hn (by rw[hk];decide)with e1|⟨m,hm,e1⟩
   ·exact⟨[],.inl rfl,by rw[h.root,e1]⟩
   rcases(h.kindN hm).2 with⟨hf,_⟩|⟨_,h2⟩
   ·refine⟨keyN m,.inr ⟨m,hm,rfl,hf⟩,?_⟩;unfold inoN at e1;rw[if_pos hf]at e1;exact e1
   rw[e1,hk]at h2;cases h2
  obtain⟨K,hK,e1⟩:=hD;rw[←e1]at he;have:=(h.ents K hK).mem_iff.1 he;obtain⟨m,hm,e2⟩:=List.mem_map.1 this;rw[←e2];exact(h.kindN (List.mem_filter.1 hm).1).1
 rw[(hfair n hn).ents hk]at he;cases he
theorem Vt.of {S1:VS} {nm:Nat} {g':LT} {ns':List TN} {fs':List FT} {dn':Key→Nat} {φ':Int→Nat} (hp:Phys S1 g') (hr:Rep g' nm ns' fs' dn' φ') (hnm:S1.names=nm) (hlen:ns'.length≤256) (hB:S1.rB=S1.count) (hI:S1.rI=S1.names) (hm:S1.m=0):Vt S1 ns' fs' g' dn' φ':=by subst hnm;exact⟨⟨hp,hr.entLt hp.fair,hr.rk,by rw[hp.nodes,hr.count hp.fair];omega,hB,hI⟩,hr,hm⟩
theorem atT_dir (h:Rep g S.names ns fs dn φ) {K:Key} {x:Option TN} (ha:atT ns K= .ok x):IsDir ns K.dropLast∧x=nodeK ns K∧∃c,treeW ns K.dropLast.length K.dropLast= .ok c∧isDirO c=true:=by
 unfold atT at ha;cases hc:treeW ns K.dropLast.length K.dropLast with
 |error e=>rw[hc]at ha;cases ha
 |ok c=>
  rw[hc]at ha;change (if isDirO c=true then Except.ok (nodeK ns K)else Except.error 22)= .ok x at ha;by_cases hd:isDirO c=true
  ·rw[if_pos hd]at ha;cases ha;refine⟨?_,rfl,c,rfl,hd⟩;rcases treeW_dir h hc with⟨_,e⟩|⟨n,e,hn,hk⟩
   ·exact .inl e
   rw[e]at hd;exact .inr ⟨n,hn,hk,by simpa[isDirO]using hd⟩
  rw[if_neg hd]at ha;cases ha
theorem treeW_ino (h:Rep g S.names ns fs dn φ) {K:Key} {c:Option TN} (hc:treeW ns K.length K= .ok c) (hd:isDirO c=true):inoO dn φ c=dn K:=by
 rcases treeW_dir h hc with⟨e,e2⟩|⟨n,e,hn,hk⟩
 ·rw[e,e2];exact h.root.symm
 rw[e]at hd ⊢;have hf:n.file= -1:=by simpa[isDirO]using hd
 show inoN dn φ n=_
 unfold inoN;rw[if_pos hf,hk]
theorem isDirO_kind (h:Rep g S.names ns fs dn φ) {K:Key} {c:Option TN} (hc:treeW ns K.length K= .ok c):isDirO c=true↔(g (inoO dn φ c)).kind=1:=by
 rcases treeW_dir h hc with⟨e,e2⟩|⟨n,e,hn,hk⟩
 ·rw[e];exact⟨fun _=>h.rk,fun _=>rfl⟩
 rw[e];show decide (n.file= -1)=true↔(g (inoN dn φ n)).kind=1
 rw[decide_eq_true_eq];rcases(h.kindN hn).2 with⟨h1,h2⟩|⟨h1,h2⟩
 ·exact⟨fun _=>h2,fun _=>h1⟩
 exact⟨fun e=>absurd e h1,fun e=>by rw[h2]at e;cases e⟩
theorem Vt.look (h:Vt S ns fs g dn φ) (p:List UInt8):lookP S.cur S.data 0 0 (splitB p)=match atT ns (splitB p)with
  | .error e=>(0,0,e)
  | .ok none=>((dn (splitB p).dropLast:Int), -1,0)
  | .ok (some n)=>((dn (splitB p).dropLast:Int),(inoN dn φ n:Int),0):=by
 obtain⟨P,hP⟩:∃P,P=(splitB p).dropLast:=⟨_,rfl⟩;have hs:splitB p=P++[baseP p]:=by rw[hP];exact split_base p
 rw[←hP,hs,lookP_walk h.vol _ _ _ _ h.vol.ph.n0,h.rep.walk P.length P rfl];unfold atT;rw[List.dropLast_concat];cases hc:treeW ns P.length P with
 |error e=>rfl
 |ok c=>
  show lastG g (baseP p) (.ok (inoO dn φ c))=match (if isDirO c=true then Except.ok (nodeK ns (P++[baseP p]))else Except.error 22:Except Int (Option TN))with
   | .error e=>((0:Int),(0:Int),e)
   | .ok none=>((dn P:Int), -1,0)
   | .ok (some n)=>((dn P:Int),(inoN dn φ n:Int),0)
  have hk:=isDirO_kind (S:=S) h.rep hc;unfold lastG;by_cases hd:isDirO c=true
  ·have hi:=treeW_ino (S:=S) h.rep hc hd;have hK:IsDir ns P:=by
    rcases treeW_dir h.rep hc with⟨_,e⟩|⟨n,e,hn,hk⟩
    ·exact .inl e
    rw[e]at hd;exact .inr ⟨n,hn,hk,by simpa[isDirO]using hd⟩
   simp only[if_pos hd,if_pos (hk.1 hd)];rw[hi,h.rep.find hK];cases nodeK ns (P++[baseP p])<;>rfl
  simp only[if_neg hd,if_neg fun e=>hd (hk.2 e)]
def DoneT (S:VS) (r:Except Int (Option VS)) (ns':List TN) (fs':List FT):Prop:=
 ∃x,r= .ok x∧(x=none→S.rB<treeB ns' fs'∨S.rI<treeI ns')∧∀S1,x=some S1→Few S.cur S1∧ns'.length≤256∧∃g' dn' φ',Chg S g' S1∧Rep g' S.names ns' fs' dn' φ'
def newT (ns:List TN) (p:List UInt8):Int:=match atT ns (splitB p)with
 | .error e=>e
 | .ok (some _)=>23
 | .ok none=>if ns.length<256 then 0 else 31
theorem treeW_err {ns:List TN}:∀(k:Nat) (K:Key) {e:Int},treeW ns k K= .error e→e=21∨e=22
 |0,K,e,h=>by cases h
 |k+1,K,e,h=>by
  unfold treeW at h;cases h1:treeW ns k K.dropLast with
  |error e1=>rw[h1]at h;cases h;exact treeW_err k _ h1
  |ok c=>
   rw[h1]at h;change stepT ns K c= .error e at h;unfold stepT at h;split at h
   ·split at h
    ·cases h
    cases h;exact .inl rfl
   cases h;exact .inr rfl
theorem atT_err {ns:List TN} {K:Key} {e:Int} (h:atT ns K= .error e):e=21∨e=22:=by
 unfold atT at h;cases hc:treeW ns K.dropLast.length K.dropLast with
 |error e1=>rw[hc]at h;cases h;exact treeW_err _ _ hc
 |ok c=>
  rw[hc]at h;change (if isDirO c=true then Except.ok (nodeK ns K)else Except.error 22)= .error e at h;split at h
  ·cases h
  cases h;exact .inr rfl
theorem filesN_dir :∀ {ns:List TN} {n:TN},n.file= -1→filesN (ns++[n])=filesN ns
 |[],n,h=>by(show filesN [n]=[]);unfold filesN;rw[if_pos (.inl h)];rfl
 |a::t,n,h=>by rw[List.cons_append];unfold filesN;rw[filesN_dir h]
theorem filesN_new :∀ {ns:List TN} {n:TN},n.file≠ -1→(∀m∈ns,m.file≠n.file)→filesN (ns++[n])=filesN ns++[n.file]
 |[],n,h,_=>by(show filesN [n]=[n.file]);unfold filesN;rw[if_neg (by rw[not_or];exact⟨h,by simp[filesN]⟩)];rfl
 |a::t,n,h,hm=>by
  have ha:=hm a List.mem_cons_self;rw[List.cons_append];unfold filesN;rw[filesN_new h fun m hmm=>hm m (List.mem_cons_of_mem _ hmm)];by_cases e:a.file= -1∨a.file∈filesN t
  ·rw[if_pos e,if_pos (e.imp id fun h=>List.mem_append_left _ h)]
  rw[if_neg e,if_neg (fun e2=>e (e2.imp id fun h=>(List.mem_append.1 h).resolve_right fun h2=>ha (by rwa [List.mem_singleton]at h2))),List.cons_append]
def newNs (ns:List TN) (fs:List FT) (kind mode:Nat) (p:List UInt8):List TN:=ns++[if kind=1 then⟨p, -1,mode⟩else⟨p,fs.length,0⟩]
def newFs (fs:List FT) (kind mode:Nat) (bs:List UInt8):List FT:=if kind=1 then fs else fs++[⟨mode,bs⟩]
theorem treeI_new {ns:List TN} {fs:List FT} {kind mode:Nat} {p:List UInt8} (h:∀n∈ns,n.file≠ -1→n.file<fs.length):treeI (newNs ns fs kind mode p)=treeI ns+1:=by
 unfold treeI newNs;by_cases hk:kind=1
 ·rw[if_pos hk,filesN_dir rfl];unfold dirsN;rw[List.filter_append];simp;omega
 rw[if_neg hk];have hne:(fs.length:Int)≠ -1:=by omega
 rw[filesN_new (n:=⟨p,fs.length,0⟩) hne fun m hm e=>by have e':m.file=(fs.length:Int):=e;have:=h m hm (by omega);omega];unfold dirsN;rw[List.filter_append];have e:([⟨p,fs.length,0⟩]:List TN).filter (fun n=>decide (n.file= -1))=[]:=by rw[List.filter_cons,if_neg (by simp only[decide_eq_true_eq];exact hne)];rfl
 rw[e];simp;omega
theorem Vt.newOne (h:Vt S ns fs g dn φ) {kind mode:Nat} {p bs:List UInt8} (hkd:kind=1∧bs=[]∨kind=2) {i:Nat} (hi:i<S.names) (h0:(g i).kind=0) (ha:atT ns (splitB p)= .ok none):
  ∃dn' φ',Rep (updT (updT g i (newLI kind mode bs)) (dn (splitB p).dropLast) ((g (dn (splitB p).dropLast)).more (baseP p) i)) S.names (newNs ns fs kind mode p) (newFs fs kind mode bs) dn' φ':=by
 obtain⟨hP,hno,_⟩:=atT_dir (S:=S) h.rep ha;rcases hkd with⟨rfl,rfl⟩|rfl
 ·exact⟨_,_,h.rep.addDir hi h0 hP hno.symm⟩
 exact⟨_,_,h.rep.addFile hi h0 hP hno.symm⟩
theorem Vt.new (h:Vt S ns fs g dn φ) {kind mode:Nat} {p bs:List UInt8} (hkd:kind=1∧bs=[]∨kind=2) (hv:validL p=true) (hp:p.length≤1048576) (hmode:mode<65536) (hbs:bs.length≤8192):
  (∀d:Nat,lookP S.cur S.data 0 0 (splitB p)=((d:Int), -1,0)→S.nodes<256→MadeOk S (⟨kind,mode,1,0,[]⟩:VI) bs d p)∧
  ((newT ns p≠0∧newP S p (⟨kind,mode,1,0,[]⟩:VI) bs= .error (newT ns p))∨(newT ns p=0∧DoneT S (newP S p (⟨kind,mode,1,0,[]⟩:VI) bs) (newNs ns fs kind mode p) (newFs fs kind mode bs))):=by
 have hL:=h.look p;have hbase:(baseP p).length≤15:=by have:=base_short hv;omega
 unfold newT newP;cases ha:atT ns (splitB p)with
 |error e=>
  rw[ha]at hL;have he:=atT_err ha;simp only at hL;rw[hL];refine⟨fun d hd=>?_,.inl ⟨by show e≠0;omega,?_⟩⟩
  ·have e1:(0:Int)= -1:=congrArg (fun x:Int×Int×Int=>x.2.1) hd;exact absurd e1 (by decide)
  unfold nothingE;rw[if_neg (show ¬e=0 by omega)]
 |ok x=>
  cases x with
  |some n=>
   rw[ha]at hL;simp only at hL;rw[hL];refine⟨fun d hd=>?_,.inl ⟨by show(23:Int)≠0;decide,?_⟩⟩
   ·have e1:(inoN dn φ n:Int)= -1:=congrArg (fun x:Int×Int×Int=>x.2.1) hd;omega
   unfold nothingE;rw[if_pos (show(0:Int)=0 from rfl),if_neg (show ¬(inoN dn φ n:Int)<0 by omega)]
  |none=>
   rw[ha]at hL;simp only at hL;rw[hL];obtain⟨hP,hno,_⟩:=atT_dir (S:=S) h.rep ha;obtain⟨hd1,hd2⟩:=h.rep.dirI hP;obtain⟨d,hd⟩:∃d,d=dn (splitB p).dropLast:=⟨_,rfl⟩;(have hone:=fun i=>h.newOne (i:=i) (mode:=mode) hkd (p:=p));rw[←hd]at hd1 hd2 hone ⊢;(have hsz:S.nodes<256→(g d).ents.length<448:=fun hn=>by have:=h.vol.ph.ents_le hd1;omega);(have hmade:=fun hn:S.nodes<256=>h.vol.ph.made h.m ⟨h.vol.rB,h.vol.rI⟩ (kind:=kind) (dir:=d) (mode:=mode) (path:=p) (bs:=bs) hkd hd1 hd2 (hsz hn) hv hp hbase hmode hbs);have hnn:=h.nodes;refine⟨fun d' hd' hn=>?_,?_⟩
   ·have e1:(d:Int)=d':=congrArg (fun x:Int×Int×Int=>x.1) hd';(have e2:d=d':=by omega);rw[←e2];exact(hmade hn).1
   have e0:nothingE ((d:Int),(-1:Int),(0:Int))=none:=rfl;rw[e0];by_cases hn:ns.length<256
   ·(have hn':S.nodes<256:=by omega);simp only[if_pos hn,if_pos hn'];refine .inr ⟨trivial,_,rfl,?_,?_⟩
    ·intro hx;rw[Int.toNat_natCast]at hx;rcases(hmade hn').2 with⟨h1,_⟩|⟨i,hi,_,h2⟩
     ·--no inode is free
      right;have hall:=h.vol.ph.free_none h1;have h3:S.wI=S.names:=by
       rw[h.vol.ph.wI];have e:∀i<S.names,wghI (g i).kind=1:=fun i hi=>by
        have:=hall i hi;have:=(h.vol.ph.fair i hi).kind;unfold wghI;split
        ·rfl
        rw[if_pos (by omega)]
       (have e2:=sumN_bound (f:=fun n=>wghI (g n).kind) (n:=S.names) (a:=1) (b:=1) fun i hi=>by rw[e i hi];omega);omega
      have h4:=h.wI;(have h5:treeI (newNs ns fs kind mode p)=treeI ns+1:=treeI_new fun n hn hf=>(h.rep.lt_fs hn hf).2);rw[h.vol.rI];omega
     left;obtain⟨hi1,hi0⟩:=h.vol.ph.free_some hi;obtain⟨dn',φ',hR⟩:=hone i hi1 hi0 ha;have h3:=h2 hx;have hfair:∀j<S.names,(updT (updT g i (newLI kind mode bs)) d ((g d).more (baseP p) i) j).fair:=fun j hj=>by
      by_cases e1:j=d
      ·rw[e1,updT_same];exact LI.more_fair (h.vol.ph.fair d hd1) hd2 (hsz hn') hbase (by have:=h.vol.ph.names_le;omega)
      rw[updT_ne _ _ e1];by_cases e2:j=i
      ·rw[e2,updT_same];exact newLI_fair hkd hmode hbs
      rw[updT_ne _ _ e2];exact h.vol.ph.fair j hj
     have h4:=needN_wgh hfair;rw[hR.wB hfair]at h4;rw[h.vol.rB];omega
    intro S1 hS1;rw[Int.toNat_natCast]at hS1;rcases(hmade hn').2 with⟨_,h1⟩|⟨i,hi,h1,_⟩
    ·rw[h1]at hS1;cases hS1
    obtain⟨hi1,hi0⟩:=h.vol.ph.free_some hi;obtain⟨dn',φ',hR⟩:=hone i hi1 hi0 ha;refine⟨(Few.refl S).madeP hS1,?_,_,dn',φ',h1 S1 hS1,hR⟩;unfold newNs;rw[List.length_append,List.length_singleton];omega
   (have hn':¬S.nodes<256:=by omega);simp only[if_neg hn,if_neg hn'];exact .inl ⟨by decide,trivial⟩
end
theorem Phys.same {S T:VS} {g:LT} (h:Phys S g) (h1:T.nb=S.nb) (h2:T.names=S.names) (h3:T.cur=S.cur) (h4:T.wB=S.wB) (h5:T.wI=S.wI) (h6:T.nodes=S.nodes):Phys T g:=by obtain⟨nb,names,D,cur,wB,wI,nodes,rB,rI,m⟩:=S;obtain⟨nb',names',D',cur',wB',wI',nodes',rB',rI',m'⟩:=T;simp only at h1 h2 h3 h4 h5 h6;subst h1 h2 h3 h4 h5 h6;exact⟨⟨h.use.cur,⟨h.use.vf.names,h.use.vf.room⟩,h.use.nb⟩,h.n0,h.fair,h.head,h.len,h.lt,h.nodup,h.dis,h.bits,h.ents,h.data,h.wB,h.wI,h.nodes⟩
theorem Phys.first {S:VS} {g:LT} (h:Phys S g) {b:List UInt8} (hb:b.length=512):Phys (S.put 0 b) g:=by
 have hne:∀k,k≠0→bk (S.put 0 b).cur k=bk S.cur k:=fun k hk=>bk_set_ne _ _ hk
 have hin:∀n,inoP (S.put 0 b).cur n=inoP S.cur n:=fun n=>by unfold inoP;rw[hne _ (by omega)]
 have hbit:∀j,(S.put 0 b).bit j=S.bit j:=fun j=>by(show bitB (bk (S.put 0 b).cur 1) j=bitB (bk S.cur 1) j);rw[hne _ (by omega)]
 have hdat:∀s,bk (S.put 0 b).cur (S.data+s)=bk S.cur (S.data+s):=fun s=>hne _ (by unfold VS.data;omega)
 refine⟨h.use.put 0 hb,h.n0,h.fair,fun n hn=>?_,fun n hn=>?_,fun n hn=>?_,fun n hn=>?_,fun n hn m hm e=>?_,fun j hj=>?_,fun n hn hk=>?_,fun n hn hk=>?_,h.wB,h.wI,h.nodes⟩
 ·rw[hin];exact h.head n hn
 ·rw[hin];exact h.len n hn
 ·rw[hin];exact h.lt n hn
 ·rw[hin];exact h.nodup n hn
 ·rw[hin,hin];exact h.dis n hn m hm e
 ·rw[hbit];refine(h.bits j hj).trans ⟨fun⟨n,hn,e⟩=>⟨n,hn,by rw[hin];exact e⟩,fun⟨n,hn,e⟩=>⟨n,hn,by rw[hin]at e;exact e⟩⟩
 ·rw[hin];(have e:=dirL_congr (c:=S.cur) (c':=(S.put 0 b).cur) (d:=S.data) (x:=inoP S.cur n) (h.dirRoom hn hk) fun s _=>hdat s);exact e.trans (h.ents n hn hk)
 rw[hin];have e:=content_congr (c:=S.cur) (c':=(S.put 0 b).cur) (d:=S.data) (x:=inoP S.cur n) fun s _=>hdat s
 exact e.trans (h.data n hn hk)
section
variable {n names:Nat}
theorem bit_zero (j:Nat):bitB zeroB j=false:=by
 unfold bitB zeroB;by_cases h:j/8<512
 ·rw[gH,List.getElem?_replicate,if_pos h];simp
 rw[gH,List.getElem?_eq_none (by rw[List.length_replicate];omega)];simp
theorem raw_phys (h0:98+(names+7)/8<n) (h1:n≤4096) (h2:2≤names) (h3:names≤1024):Phys (VS.raw n names) fun _=>LI0:=by
 have hin:∀i<names,inoP (VS.raw n names).cur i=⟨0,0,0,0,[]⟩:=fun i hi=>zero_ino (raw_bk (by omega))
 have hz:∀i<names,(inoP (VS.raw n names).cur i).spots=[]:=fun i hi=>by rw[hin i hi]
 refine⟨⟨(raw_vc (fb:=0) h0 h1).cur,raw_vf h0 h3,h1⟩,by show 0<names;omega,fun _ _=>LI0_fair,fun i hi=>?_,fun i hi=>?_,fun i hi s hs=>?_,fun i hi=>?_,fun i hi m hm _ s hs=>?_,fun j hj=>?_,fun i hi hk=>?_,fun i hi hk=>?_,?_,?_,?_⟩
 ·rw[hin i hi];rfl
 ·rw[hz i hi];rfl
 ·rw[hz i hi]at hs;cases hs
 ·rw[hz i hi];exact List.nodup_nil
 ·rw[hz i hi]at hs;cases hs
 ·(have e:(VS.raw n names).bit j=false:=by(show bitB (bk (VS.raw n names).cur 1) j=false);rw[raw_bk (by omega),bit_zero]);rw[e];constructor
  ·intro e2;cases e2
  rintro⟨i,hi,e2⟩;rw[hz i hi]at e2;cases e2
 ·cases hk
 ·cases hk
 ·exact(sumN_zero fun i _=>rfl).symm
 ·exact(sumN_zero fun i _=>rfl).symm
 exact(sumN_zero fun i _=>rfl).symm
def rootG :LT:=updT (fun _=>LI0) 0 ⟨1,0,0,[],[]⟩
theorem set_same :∀ {c:Blks} {i:Nat},i<c.length→c.set i (bk c i)=c:=fun {c i} h=>by
 refine List.ext_getElem (List.length_set ..) fun k h1 h2=>?_
 rw[List.getElem_set];split
 ·rename_i e;subst e;unfold bk;rw[gH,gE h2];rfl
 rfl
theorem laid_phys (h0:98+(names+7)/8<n) (h1:n≤4096) (h2:2≤names) (h3:names≤1024):Phys (VS.laid n names) rootG:=by
 have hp:=raw_phys h0 h1 h2 h3;have hp1:=hp.first (firstB_len names);obtain⟨S,hS⟩:∃S,S=(VS.raw n names).put 0 (firstB names):=⟨_,rfl⟩;rw[←hS]at hp1;have hcnt:0<S.count:=by rw[hS];show 0<n-96-(2+(names+7)/8);omega
 have hb1:bk S.cur 1=zeroB:=by rw[hS];(show bk ((VS.raw n names).cur.set 0 _) 1=_);rw[bk_set_ne _ _ (by decide),raw_bk (by omega)]
 have hfree:freeL (bk S.cur 1) S.count=some 0:=by rw[hb1];exact free_zero hcnt
 have hN:=(hp1.newDir (n:=0) (mode:=0) (links:=0) (by rw[hS];show 0<names;omega) rfl (by decide) (by decide)).1 0 hfree;have hdata:bk (S.put 1 (setB (bk S.cur 1) 0)).cur (S.data+0)=zeroB:=by(show bk (S.cur.set 1 _) (S.data+0)=_);rw[bk_set_ne _ _ (by unfold VS.data;omega),hS];(show bk ((VS.raw n names).cur.set 0 _) (2+(names+7)/8+0)=_);rw[bk_set_ne _ _ (by omega),raw_bk (by omega)]
 have hlen:S.data+0<(S.put 1 (setB (bk S.cur 1) 0)).cur.length:=by have:=(hp1.use.cur).len;(show S.data+0<(S.cur.set 1 _).length);rw[List.length_set,this,hS];(show 2+(names+7)/8+0<n-96);omega
 have ecur:(madeBlkP S 0).cur=(S.put 1 (setB (bk S.cur 1) 0)).cur:=by(show(S.put 1 (setB (bk S.cur 1) 0)).cur.set (S.data+0) zeroB=_);have:=set_same hlen;rw[hdata]at this;exact this
 have hino:inoP (madeBlkP S 0).cur 0=inoP (S.put 1 (setB (bk S.cur 1) 0)).cur 0:=by rw[ecur]
 refine hN.same ?_ ?_ ?_ ?_ ?_ ?_
 ·rw[hS];rfl
 ·rw[hS];rfl
 ·(show keepP ((VS.raw n names).put 0 (firstB names)|>.put 1 (setB (bk ((VS.raw n names).put 0 (firstB names)).cur 1) 0)).cur 0 ⟨1,0,0,0,[0]⟩=keepP (madeBlkP S 0).cur 0 ⟨1,0,0,0,[0]⟩);rw[ecur,hS]
 ·(show(VS.raw n names).wB-wghB (inoP (((VS.raw n names).put 0 (firstB names)).put 1 (setB (bk ((VS.raw n names).put 0 (firstB names)).cur 1) 0)).cur 0).kind (inoP (((VS.raw n names).put 0 (firstB names)).put 1 (setB (bk ((VS.raw n names).put 0 (firstB names)).cur 1) 0)).cur 0).size+wghB 1 0=S.wB-wghB (inoP (madeBlkP S 0).cur 0).kind (inoP (madeBlkP S 0).cur 0).size+wghB 1 0);rw[hino,hS];rfl
 ·(show(VS.raw n names).wI-wghI (inoP (((VS.raw n names).put 0 (firstB names)).put 1 (setB (bk ((VS.raw n names).put 0 (firstB names)).cur 1) 0)).cur 0).kind+wghI 1=S.wI-wghI (inoP (madeBlkP S 0).cur 0).kind+wghI 1);rw[hino,hS];rfl
 rw[hS];rfl
theorem root_rep (h2:0<names):Rep rootG names [] [] (fun _=>0) (fun _=>0) where
 n0:=h2
 root:=rfl
 rk:=rfl
 uniq:=List.nodup_nil
 up n hn:=by cases hn
 dir n hn:=by cases hn
 file n hn:=by cases hn
 ne0 n hn:=by cases hn
 inj n hn:=by cases hn
 cover i hi hk:=by
  by_cases e:i=0
  ·exact .inl e
  unfold rootG at hk;rw[updT_ne _ _ e]at hk;exact absurd rfl hk
 ents K hK:=List.Perm.refl _
theorem new_live (n names:Nat):(VS.laid n names).commit.2=true∧(VS.new n names).D.off=false∧(VS.new n names).D.left= -1:=by have h:=commit_live (S:=VS.laid n names) rfl (show(-1:Int)<0 by decide);exact⟨h.1,h.2.1,h.2.2⟩
theorem new_vt (h0:98+(names+7)/8<n) (h1:n≤4096) (h2:2≤names) (h3:names≤1024):Vt (VS.new n names).base [] [] rootG (fun _=>0) (fun _=>0):=by
 have hp:=laid_phys h0 h1 h2 h3;have hD:(VS.laid n names).D.ok (VS.laid n names).nb:=made_ok (n:=n) (by omega) h1;have h96:96<(VS.laid n names).nb:=by show 96<n;omega
 have hfew:Few ((VS.laid n names).D.now.drop 96) (VS.laid n names):=(((Few.refl (VS.raw n names)).put _ _).put _ _).keep _ _;have hc:=(new_live n names).1;have e:=settled_cur hD h96 hp.use.cur hfew (show 0+1+1+1≤40 by decide) hc;refine Vt.of (hp.same rfl rfl e rfl rfl rfl) (root_rep (names:=names) (by omega)) rfl (by decide) rfl rfl rfl
end
open Go.RowKit
def roomB (nb names:Nat):Nat:=nb-96-(2+(names+7)/8)
def fitsT (nb names:Nat) (ns:List TN) (fs:List FT):Bool:=decide (treeB ns fs≤roomB nb names)&&decide (treeI ns≤names)
structure VolT (S:VS) (ns:List TN) (fs:List FT) (nb names:Nat):Prop where
 nm:S.names=names
 nbe:S.nb=nb
 vt:∃g dn φ,Vt S.base ns fs g dn φ
section
variable {w0 w:World} {R:List Asn} {f q p:Nat} {S:VS} {ns:List TN} {fs:List FT} {nb names:Nat}
theorem VolT.base (h:VolT S ns fs nb names):VolT S.base ns fs nb names:=⟨h.nm,h.nbe,h.vt⟩
theorem rest_big (h:Sep w0 w (restR f q p S::R)):96<S.nb:=by obtain⟨_,_,_,hR,_⟩:=h.rest_open;exact hR.big
theorem VolT.ends {r:Except Int (Option VS)} {ns':List TN} {fs':List FT} {x:Int} (hL:VolT S ns fs nb names) (hok:S.D.ok S.nb) (h96:96<S.nb) (hD:DoneT S.base r ns' fs') (h:endS f q p S.base r w0 w R x):
  if fitsT nb names ns' fs'=true then
   (x=0∧∃S',VolT S' ns' fs' nb names∧(S.D.off=false→S.D.left<0→S'.D.off=false∧S'.D.left=S.D.left)∧Sep w0 w (restR f q p S'::R))∨
   (x=11∧¬(S.D.off=false∧S.D.left<0)∧∃S1:VS,S1.nb=nb∧S1.D=S.D∧BlksOk (nb-96) S1.cur∧(putsP S1).length≤40∧S1.commit.2=false∧Sep w0 w (goneR f q p true::diskR p S1.commit.1::R))
  else x=27∧Sep w0 w (restR f q p S.base::R):=by
 obtain⟨g,dn,φ,hV⟩:=hL.vt;obtain⟨y,rfl,hno,hyes⟩:=hD;have hrB:(S.base.rB:Int)=roomB nb names:=by rw[hV.vol.rB];(show((S.nb-96-(2+(S.names+7)/8):Nat):Int)=_);rw[hL.nm,hL.nbe];rfl
 have hrI:(S.base.rI:Int)=names:=by rw[hV.vol.rI];(show(S.names:Int)=_);rw[hL.nm]
 unfold endS at h;cases y with
 |none=>
  have h1:=hno rfl;rw[hrB,hrI]at h1;rw[if_neg]
  ·exact h
  unfold fitsT;rw[Bool.and_eq_true,decide_eq_true_eq,decide_eq_true_eq];omega
 |some S1=>
  obtain⟨hfew,hlen,g',dn',φ',hC,hR⟩:=hyes S1 rfl;have hnm:S1.names=S.base.names:=hC.like.names;(have hwB:S1.wB=treeB ns' fs':=by rw[hC.ph.wB,hnm];exact hR.wB (by rw[←hnm];exact hC.ph.fair));(have hwI:S1.wI=treeI ns':=by rw[hC.ph.wI,hnm];exact hR.wI (by rw[←hnm];exact hC.ph.fair));have hrB1:S1.rB=roomB nb names:=hC.like.rB.trans hrB;have hrI1:S1.rI=names:=hC.like.rI.trans hrI;(have hfits:fitsP S1=fitsT nb names ns' fs':=by unfold fitsP fitsT;rw[hwB,hwI,hrB1,hrI1]);simp only[hfits]at h;have hDe:S1.D=S.D:=hC.like.D;(have hD1:S1.D.ok S1.nb:=by rw[hDe,show S1.nb=S.nb from hC.like.nb];exact hok);(have h961:96<S1.nb:=by rw[show S1.nb=S.nb from hC.like.nb];exact h96);(have hfew1:Few (S1.D.now.drop 96) S1:=by rw[hDe];exact hfew);by_cases hf:fitsT nb names ns' fs'=true
  ·rw[if_pos hf]at h ⊢;by_cases hc:S1.commit.2=true
   ·rw[if_pos hc]at h;refine .inl ⟨h.1,S1.settled,⟨?_,?_,g',dn',φ',?_⟩,fun ho hl=>?_,h.2⟩
    ·(show S1.names=names);rw[hnm];exact hL.nm
    ·(show S1.nb=nb);rw[show S1.nb=S.nb from hC.like.nb];exact hL.nbe
    ·refine Vt.of (hC.ph.settled hD1 h961 hfew1 hC.m hc) hR hnm hlen ?_ ?_ rfl
     ·(show S1.rB=((S1.nb-96-(2+(S1.names+7)/8):Nat):Int));rw[hrB1,show S1.nb=nb from(hC.like.nb).trans hL.nbe,hnm,show S.base.names=names from hL.nm];rfl
     (show S1.rI=(S1.names:Int));rw[hrI1,hnm,show S.base.names=names from hL.nm]
    have:=commit_live (S:=S1) (by rw[hDe];exact ho) (by rw[hDe];exact hl);exact⟨this.2.1,by rw[show S1.settled.D.left=S1.commit.1.left from rfl,this.2.2,hDe]⟩
   rw[if_neg hc]at h;refine .inr ⟨h.1,fun⟨ho,hl⟩=>hc (commit_live (S:=S1) (by rw[hDe];exact ho) (by rw[hDe];exact hl)).1,S1,(hC.like.nb).trans hL.nbe,hDe,?_,Nat.le_trans hfew1.puts hC.m,by simpa using hc,h.2⟩;have:=hC.ph.use.cur;rw[show S1.nb=nb from(hC.like.nb).trans hL.nbe]at this;exact this
  rw[if_neg hf]at h ⊢;exact h
end
theorem num8_any (x:Int) (w:World):Calls Tryz.prog 16 #[.int .i64 x] w fun e w'=>e= .returned (.int .i64 x)∧w=w':=by go_enter Tryz.func16,Tryz.ntmps16;go_wp2;go_ret;exact⟨rfl,rfl⟩
section
variable {w0 w:World} {R:List Asn}
set_option maxRecDepth 100000 in
set_option maxHeartbeats 4000000 in
theorem fresh_any {b i n:Nat} (hn:n=98+(i+7)/8+b) (hb:1≤b) (hn4:n≤4096) (hi:2≤i) (hi2:i≤1024) (h:Sep w0 w R):
  Calls Tryz.prog 13 #[.int .i64 b,.int .i64 i] w fun e w'=>∃f q p,e= .returned (.tuple #[.pointer (some ⟨p,0,none⟩),.pointer (some ⟨f,0,none⟩),.bool true])∧Sep w0 w' (restR f q p (VS.new n i)::R):=by
 have hnew:Hid (∀W,Sep w0 W R→Calls Tryz.prog 32 #[.int .i64 n] W fun e w'=>∃p,e= .returned (.tuple #[.pointer (some ⟨p,0,none⟩),.int .i64 0])∧Sep w0 w' (diskR p (DK.fresh n)::R)):=Lh fun W hW=>new_any (by omega) hn4 hW
 have hfmt:Hid (∀W p,Sep w0 W (diskR p (DK.fresh n)::R)→Calls Tryz.prog 34 #[.pointer (some ⟨p,0,none⟩),.int .i64 i] W fun e w'=>∃f q,e= .returned (.tuple #[.pointer (some ⟨f,0,none⟩),.int .i64 0])∧Sep w0 w' (restR f q p (VS.new n i)::R)):=Lh fun W p hW=>format_any (by omega) hn4 hi hi2 hW
 have q0:(1:Int)≤b:=by omega
 have q1:(n:Int)≤4096:=by omega
 have q2:(2:Int)≤i:=by omega
 have q3:(i:Int)≤1024:=by omega
 have e0:Int.tdiv ((i:Int)+7) 8=((i+7)/8:Nat):=by rw[Int.tdiv_eq_ediv_of_nonneg (by omega)];omega
 obtain⟨P,hP⟩:∃P,P=(i+7)/8:=⟨_,rfl⟩;rw[←hP]at hn e0;have q4:(P:Int)≤129:=by omega
 have e1:(98:Int)+(P:Int)+b=n:=by omega
 have w1:IntKind.i64.wrap ((i:Int)+7)=(i:Int)+7:=IntWalk.i64_in _ (by omega);have w2:IntKind.i64.wrap ((98:Int)+P)=(98:Int)+P:=IntWalk.i64_in _ (by omega);have w3:IntKind.i64.wrap ((98:Int)+P+b)=n:=by rw[e1];exact IntWalk.i64_in _ (by omega)
 have h1:=Lh h;have w4:IntKind.i64.wrap (P:Int)=P:=IntWalk.i64_in _ (by omega);clear hn hb hn4 hi hi2 h hP;go_enter Tryz.func13,Tryz.ntmps13;go_wp2_with(first |(go_at_call 32;refine(hnew.out _ h1.out).mono ?_;rintro e wn ⟨p,rfl,hS⟩;have h2:=Lh hS;clear hS h1 hnew)|(go_at_call 34;refine(hfmt.out _ _ h2.out).mono ?_;rintro e wf ⟨f,q,rfl,hS⟩;have h3:=Lh hS;clear hS h2 hfmt)|(go_at_call 16;refine(num8_any _ _).mono ?_;rintro e w2 ⟨rfl,rfl⟩))
 go_ret3
 exact⟨f,q,p,rfl,h3.out⟩
end
end Go.Proofs.YteihmbaimbogaaaGreat
