/- FvL, NamesPlain, FvQ, SortP, StrSort, laid together. -/
import Derived.Test.YteihmbaimbogaaaGreatJ39
import Derived.Shelf.SortM.Plain
import Derived.Shelf.SortM.SortNone
import Derived.Sort.EncStr
namespace Go.Proofs.YteihmbaimbogaaaGreat
set_option linter.unusedVariables false
set_option linter.unusedSimpArgs false
section
variable {g:LT} {nm:Nat} {ns:List TN} {fs:List FT} {dn:Key→Nat} {φ:Int→Nat}
theorem Rep.lose {n:TN} (h:Rep g nm (n::ns) fs dn φ) {x:LI} {ix:Nat} (hk:kidsN ns (keyN n)=[])
  (hx:(n.file≠ -1∧x= {g (inoN dn φ n)with links:=(g (inoN dn φ n)).links-1}∧∃m∈ns,m.file=n.file)∨(x=LI0∧∀m∈ns,inoN dn φ m≠inoN dn φ n))
  (hi:ix<(g (dn (keyN n).dropLast)).ents.length) (he:eat (g (dn (keyN n).dropLast)).ents ix=((keyN n).getLastD [],inoN dn φ n)):
  Rep (updT (updT g (dn (keyN n).dropLast) ((g (dn (keyN n).dropLast)).less ix)) (inoN dn φ n) x) nm ns fs dn φ:=by
 obtain⟨P,hPe⟩:∃P,P=(keyN n).dropLast:=⟨_,rfl⟩;rw[←hPe]at hi he ⊢;obtain⟨i,hie⟩:∃i,i=inoN dn φ n:=⟨_,rfl⟩;rw[←hie]at hx he ⊢;obtain⟨d,hd⟩:∃d,d=dn P:=⟨_,rfl⟩;rw[←hd]at hi he ⊢;obtain⟨g',hg'⟩:∃g',g'=updT (updT g d ((g d).less ix)) i x:=⟨_,rfl⟩;rw[←hg'];have hu:=h.uniq;rw[List.map_cons,List.nodup_cons]at hu;have hn0:n∈n::ns:=List.mem_cons_self;have dirb:∀K,IsDir ns K→IsDir (n::ns) K:=fun K hK=>by
  rcases hK with e|⟨m,hm,e⟩
  ·exact .inl e
  exact .inr ⟨m,List.mem_cons_of_mem _ hm,e⟩
 have dirf:∀K,IsDir (n::ns) K→K≠keyN n→IsDir ns K:=fun K hK hne=>by
  rcases hK with e|⟨m,hm,e,hf⟩
  ·exact .inl e
  rcases List.mem_cons.1 hm with e2|hm
  ·rw[e2]at e;exact absurd e.symm hne
  exact .inr ⟨m,hm,e,hf⟩
 have hP:IsDir ns P:=dirf P (by rw[hPe];exact h.up n hn0) (by rw[hPe];exact key_drop_ne (keyN_ne n));have hi0:i≠0:=by rw[hie];exact h.ne0 n hn0
 have kind2:n.file≠ -1→(g i).kind=2:=fun hf=>by
  rcases(h.kindN hn0).2 with⟨h1,_⟩|⟨_,h1⟩
  ·exact absurd h1 hf
  rw[hie];exact h1
 have dni:∀K,IsDir ns K→dn K≠i:=fun K hK e=>by
  rcases hx with⟨hf,_⟩|⟨_,hx⟩
  ·have:=(h.dirI (dirb K hK)).2;rw[e,kind2 hf]at this;cases this
  rcases hK with e1|⟨m,hm,e1,hf⟩
  ·rw[e1,h.root]at e;exact hi0 e.symm
  refine hx m hm ?_;unfold inoN;rw[if_pos hf,e1,e]
 have hdi:d≠i:=by rw[hd];exact dni P hP
 have gi:g' i=x:=by rw[hg',updT_same]
 have gd:g' d=(g d).less ix:=by rw[hg',updT_ne _ _ hdi,updT_same]
 have go:∀m,m≠d→m≠i→g' m=g m:=fun m h1 h2=>by rw[hg',updT_ne _ _ h2,updT_ne _ _ h1]
 have gk:∀m,m≠i→(g' m).kind=(g m).kind∧(g' m).mode=(g m).mode∧(g' m).links=(g m).links∧(g' m).data=(g m).data:=fun m h2=>by
  by_cases h1:m=d
  ·rw[h1,gd];exact⟨rfl,rfl,rfl,rfl⟩
  rw[go m h1 h2];exact⟨rfl,rfl,rfl,rfl⟩
 have fi:∀m∈ns,m.file≠ -1→m.file≠n.file→φ m.file≠i:=fun m hm hf hne e=>by
  (have e1:inoN dn φ m=inoN dn φ n:=by rw[←hie,←e];unfold inoN;rw[if_neg hf]);rcases h.inj m (List.mem_cons_of_mem _ hm) n hn0 e1 with h1|h1
  ·rw[h1]at hne;exact hne rfl
  exact hne h1.2
 refine⟨h.n0,h.root,?_,hu.2,?_,?_,?_,?_,?_,?_,?_⟩
 ·rw[(gk 0 (fun e=>hi0 e.symm)).1];exact h.rk
 ·intro m hm;(refine dirf _ (h.up m (List.mem_cons_of_mem _ hm)) fun e=>?_);have:m∈kidsN ns (keyN n):=List.mem_filter.2 ⟨hm,by simp[e]⟩;rw[hk]at this;cases this
 ·intro m hm hf;have h2:=gk (dn (keyN m)) (dni _ (.inr ⟨m,hm,rfl,hf⟩));rw[h2.1,h2.2.1,h2.2.2.1];exact h.dir m (List.mem_cons_of_mem _ hm) hf
 ·intro m hm hf;obtain⟨h1,h2,h3,h4,h7⟩:=h.file m (List.mem_cons_of_mem _ hm) hf;rw[List.countP_cons]at h7;by_cases e:m.file=n.file
  ·rcases hx with⟨hfn,hx,_⟩|⟨_,hx⟩
   ·(have e1:φ m.file=i:=by rw[hie,e];unfold inoN;rw[if_neg hfn]);rw[e1]at h2 h3 h4 h7 ⊢;rw[gi,hx];refine⟨h1,h2,h3,h4,?_⟩;rw[if_pos (by simp[e])]at h7;(show(g i).links-1=_);omega
   exfalso;refine hx m hm ?_;rw[hie];unfold inoN;rw[←e,if_neg hf,if_neg hf]
  have h8:=gk (φ m.file) (fi m hm hf e);rw[h8.1,h8.2.1,h8.2.2.1,h8.2.2.2];refine⟨h1,h2,h3,h4,?_⟩;rw[if_neg (by simp only[decide_eq_true_eq];exact fun e2=>e e2.symm)]at h7;exact h7
 ·intro m hm;exact h.ne0 m (List.mem_cons_of_mem _ hm)
 ·intro m hm k hk e;exact h.inj m (List.mem_cons_of_mem _ hm) k (List.mem_cons_of_mem _ hk) e
 ·intro k hkm hkk;by_cases e:k=i
  ·rw[e,gi]at hkk;rcases hx with⟨hf,_,m,hm,hmf⟩|⟨hx,_⟩
   ·refine .inr ⟨m,hm,?_⟩;rw[e,hie];unfold inoN;rw[hmf,if_neg hf,if_neg hf]
   rw[hx]at hkk;exact absurd rfl hkk
  rw[(gk k e).1]at hkk;rcases h.cover k hkm hkk with h1|⟨m,hm,h1⟩
  ·exact .inl h1
  rcases List.mem_cons.1 hm with e2|hm
  ·rw[e2,←hie]at h1;exact absurd h1.symm e
  exact .inr ⟨m,hm,h1⟩
 intro K hK;have hE:=h.ents K (dirb K hK);by_cases e:P=K
 ·subst e;rw[←hd]at hE ⊢;rw[gd];(have e1:kidsN (n::ns) P=n::kidsN ns P:=by unfold kidsN;rw[List.filter_cons,if_pos (by simp[hPe])]);rw[e1,List.map_cons,←hie]at hE;have h2:=swapDel_perm hi;rw[he]at h2;exact(h2.symm.trans hE).cons_inv
 have e1:kidsN (n::ns) K=kidsN ns K:=by unfold kidsN;rw[List.filter_cons,if_neg (by simp only[beq_iff_eq];rw[←hPe];exact e)]
 rw[e1]at hE;rw[go _ (fun e2=>e ?_) (dni K hK)]
 ·exact hE
 exact(h.dn_inj (dirb K hK) (dirb P hP) (by rw[e2,hd])).symm
theorem Rep.setFile (h:Rep g nm ns fs dn φ) {n:TN} (hn:n∈ns) (hf:n.file≠ -1) {mode:Nat} {bs:List UInt8}:
  Rep (updT g (φ n.file) {g (φ n.file)with mode:=mode,data:=bs}) nm ns (fs.set n.file.toNat ⟨mode,bs⟩) dn φ:=by
 obtain⟨i,hi⟩:∃i,i=φ n.file:=⟨_,rfl⟩;rw[←hi];obtain⟨g',hg'⟩:∃g',g'=updT g i {g i with mode:=mode,data:=bs}:=⟨_,rfl⟩;rw[←hg'];have gi:g' i= {g i with mode:=mode,data:=bs}:=by rw[hg',updT_same]
 have go:∀m,m≠i→g' m=g m:=fun m h2=>by rw[hg',updT_ne _ _ h2]
 have gk:∀m,(g' m).kind=(g m).kind∧(g' m).links=(g m).links∧(g' m).ents=(g m).ents:=fun m=>by
  by_cases h2:m=i
  ·rw[h2,gi];exact⟨rfl,rfl,rfl⟩
  rw[go m h2];exact⟨rfl,rfl,rfl⟩
 have hF:=h.file n hn hf;rw[←hi]at hF;have hlt:=h.lt_fs hn hf;have dni:∀K,IsDir ns K→dn K≠i:=fun K hK e=>by have:=(h.dirI hK).2;rw[e,hF.2.2.1]at this;cases this
 refine⟨h.n0,h.root,by rw[(gk 0).1];exact h.rk,h.uniq,h.up,?_,?_,h.ne0,h.inj,fun k h1 h2=>h.cover k h1 (by rw[←(gk k).1];exact h2),fun K hK=>by rw[(gk _).2.2];exact h.ents K hK⟩
 ·intro m hm hf;rw[go _ (dni _ (.inr ⟨m,hm,rfl,hf⟩))];exact h.dir m hm hf
 intro m hm hfm;obtain⟨h1,h2,h3,⟨f,h4,h5,h6⟩,h7⟩:=h.file m hm hfm;by_cases e:m.file=n.file
 ·rw[e,←hi]at h2 h3 h7 ⊢;rw[gi];refine⟨hlt.1,h2,h3,⟨⟨mode,bs⟩,?_,rfl,rfl⟩,h7⟩;rw[List.getElem?_set_self (by omega)]
 have hne:φ m.file≠i:=fun e2=>by
  (have e3:inoN dn φ m=inoN dn φ n:=by unfold inoN;rw[if_neg hfm,if_neg hf,e2,hi]);rcases h.inj m hm n hn e3 with h8|h8
  ·exact e (by rw[h8])
  exact e h8.2
 rw[go _ hne];refine⟨h1,h2,h3,⟨f,?_,h5,h6⟩,h7⟩;rw[List.getElem?_set_ne (by omega)];exact h4
theorem Rep.setDir {n:TN} (h:Rep g nm (n::ns) fs dn φ) (hf:n.file= -1) {mode:Nat}:
  Rep (updT g (dn (keyN n)) {g (dn (keyN n))with mode:=mode}) nm (⟨n.path, -1,mode⟩::ns) fs dn φ:=by
 obtain⟨n0,hn0⟩:∃n0:TN,n0=⟨n.path, -1,mode⟩:=⟨_,rfl⟩;rw[←hn0];have hk0:keyN n0=keyN n:=by rw[hn0];rfl
 have hf0:n0.file= -1:=by rw[hn0]
 have hm0:n0.mode=mode:=by rw[hn0]
 obtain⟨i,hi⟩:∃i,i=dn (keyN n):=⟨_,rfl⟩;rw[←hi];obtain⟨g',hg'⟩:∃g',g'=updT g i {g i with mode:=mode}:=⟨_,rfl⟩;rw[←hg'];have gi:g' i= {g i with mode:=mode}:=by rw[hg',updT_same]
 have go:∀m,m≠i→g' m=g m:=fun m h2=>by rw[hg',updT_ne _ _ h2]
 have gk:∀m,(g' m).kind=(g m).kind∧(g' m).links=(g m).links∧(g' m).ents=(g m).ents∧(g' m).data=(g m).data:=fun m=>by
  by_cases h2:m=i
  ·rw[h2,gi];exact⟨rfl,rfl,rfl,rfl⟩
  rw[go m h2];exact⟨rfl,rfl,rfl,rfl⟩
 have i0:inoN dn φ n0=inoN dn φ n:=by unfold inoN;rw[if_pos hf,if_pos hf0,hk0]
 have i1:inoN dn φ n=i:=by unfold inoN;rw[if_pos hf,hi]
 have old:∀m∈n0::ns,∃m'∈n::ns,keyN m'=keyN m∧m'.file=m.file∧inoN dn φ m'=inoN dn φ m∧(m=n0∧m'=n∨m=m'):=fun m hm=>by
  rcases List.mem_cons.1 hm with e|hm
  ·exact⟨n,List.mem_cons_self,by rw[e,hk0],by rw[e,hf0,hf],by rw[e,i0],.inl ⟨e,rfl⟩⟩
  exact⟨m,List.mem_cons_of_mem _ hm,rfl,rfl,rfl,.inr rfl⟩
 have dirs:∀K,IsDir (n0::ns) K↔IsDir (n::ns) K:=fun K=>by unfold IsDir;simp only[List.mem_cons,exists_eq_or_imp,hk0,hf0,hf]
 have hu:=h.uniq;rw[List.map_cons,←hk0,←List.map_cons (f:=keyN)]at hu;have hcnt:∀k:Int,(n0::ns).countP (fun m=>decide (m.file=k))=(n::ns).countP fun m=>decide (m.file=k):=fun k=>by rw[List.countP_cons,List.countP_cons,hf0,hf]
 refine⟨h.n0,h.root,by rw[(gk 0).1];exact h.rk,hu,?_,?_,?_,?_,?_,?_,?_⟩
 ·intro m hm;obtain⟨m',hm',h1,h2,_⟩:=old m hm;rw[←h1,dirs];exact h.up m' hm'
 ·intro m hm hfm;rw[(gk _).1,(gk _).2.1];rcases List.mem_cons.1 hm with e|hm
  ·rw[e,hk0,←hi,gi,hm0];have:=h.dir n List.mem_cons_self hf;rw[←hi]at this;exact⟨this.1,this.2.1,rfl,this.2.2.2⟩
  have h1:=h.dir m (List.mem_cons_of_mem _ hm) hfm;refine⟨h1.1,h1.2.1,?_,h1.2.2.2⟩;have hne:dn (keyN m)≠i:=fun e=>by
   (have e3:inoN dn φ m=inoN dn φ n:=by rw[i1];unfold inoN;rw[if_pos hfm,e]);have h8:m=n:=by
    rcases h.inj m (List.mem_cons_of_mem _ hm) n List.mem_cons_self e3 with h8|h8
    ·exact h8
    exact absurd hfm h8.1
   have hq:=h.uniq;rw[List.map_cons,List.nodup_cons]at hq;exact hq.1 (List.mem_map.2 ⟨m,hm,by rw[h8]⟩)
  rw[go _ hne];exact h1.2.2.1
 ·intro m hm hfm;have hm':m∈n::ns:=by
   rcases List.mem_cons.1 hm with e|hm
   ·rw[e]at hfm;exact absurd hf0 hfm
   exact List.mem_cons_of_mem _ hm
  have h1:=h.file m hm' hfm;(have hne:φ m.file≠i:=fun e=>by have h2:=h.dir n List.mem_cons_self hf;rw[←hi,←e,h1.2.2.1]at h2;cases h2.2.1);rw[go _ hne,hcnt];exact h1
 ·intro m hm;obtain⟨m',hm',h1,h2,h3,_⟩:=old m hm;rw[←h3];exact h.ne0 m' hm'
 ·intro m hm k hk e;obtain⟨m',hm',h1,h2,h3,h4⟩:=old m hm;obtain⟨k',hk',j1,j2,j3,j4⟩:=old k hk;rcases h.inj m' hm' k' hk' (by rw[h3,j3,e])with h5|h5
  ·exact .inl (keys_inj hu hm hk (by rw[←h1,←j1,h5]))
  rw[h2,j2]at h5;exact .inr h5
 ·intro k h1 h2;rcases h.cover k h1 (by rw[←(gk k).1];exact h2)with h3|⟨m,hm,h3⟩
  ·exact .inl h3
  rcases List.mem_cons.1 hm with e|hm
  ·exact .inr ⟨n0,List.mem_cons_self,by rw[i0,←e,h3]⟩
  exact .inr ⟨m,List.mem_cons_of_mem _ hm,h3⟩
 intro K hK;rw[(gk _).2.2.1];have hE:=h.ents K ((dirs K).1 hK);have e1:(kidsN (n0::ns) K).map (fun n=>((keyN n).getLastD [],inoN dn φ n))=(kidsN (n::ns) K).map fun n=>((keyN n).getLastD [],inoN dn φ n):=by
  unfold kidsN;rw[List.filter_cons,List.filter_cons,hk0];split
  ·rw[List.map_cons,List.map_cons,hk0,i0]
  rfl
 rw[e1];exact hE
end
end Go.Proofs.YteihmbaimbogaaaGreat
namespace Go.Proofs.YteihmbaimbogaaaGreat
set_option linter.unusedVariables false
def nameB (s:List UInt8):Bool:=decide (0<s.length)&&decide (s.length≤14)&& !dots s&&s.all fun c=>charOk c.toNat
theorem splitB_head (p:List UInt8):∃h t,splitB p=h::t:=by
 induction p with
 |nil=>exact⟨[],[],rfl⟩
 |cons c l ih=>
  obtain⟨h,t,e⟩:=ih;rw[splitB_cons];split
  ·exact⟨_,_,rfl⟩
  rw[e];exact⟨_,_,rfl⟩
theorem runV_names :∀(p:List UInt8) (n:Nat) (cur:List UInt8),(cur.all fun c=>charOk c.toNat)=true→cur.length≤14→
  ∀h t,splitB p=h::t→runV p n cur=(nameB (cur++h)&&t.all nameB&&decide (n+t.length≤6))
 |[],n,cur,hc,hl,h,t,e=>by cases e;unfold runV nameB;rw[List.append_nil,hc];simp[hl]
 |c::cs,n,cur,hc,hl,h,t,e=>by
  obtain⟨h',t',e'⟩:=splitB_head cs;rw[splitB_cons,e']at e;unfold runV;by_cases h47:c=47
  ·rw[if_pos h47]at e ⊢;cases e;have ih:=runV_names cs (n+1) [] (by simp) (by simp) h' t' e';rw[ih,List.append_nil,List.nil_append];by_cases h0:cur.length=0∨dots cur=true
   ·rw[if_pos h0];have:nameB cur=false:=by
     unfold nameB;rcases h0 with h0|h0
     ·simp[h0]
     simp[h0]
    simp[this]
   rw[if_neg h0];(have:nameB cur=true:=by unfold nameB;rw[hc];simp only[not_or]at h0;simp only[Bool.and_true,Bool.and_eq_true,decide_eq_true_eq,Bool.not_eq_true'];refine⟨⟨by omega,hl⟩,by simpa using h0.2⟩);rw[this,List.all_cons,List.length_cons,Bool.true_and];(have e2:(n+1+t'.length≤6)↔(n+(t'.length+1)≤6):=by omega);simp only[e2]
  rw[if_neg h47]at e ⊢;cases e;by_cases hch:charOk c.toNat=false
  ·rw[if_pos hch];(have:nameB (cur++c::h')=false:=by unfold nameB;rw[List.all_append,List.all_cons,hch];simp);rw[this];simp
  rw[if_neg hch];by_cases h14:14<cur.length+1
  ·rw[if_pos h14];(have:nameB (cur++c::h')=false:=by unfold nameB;(have:¬(cur++c::h').length≤14:=by simp;omega);simp only[this,decide_false,Bool.and_false,Bool.false_and]);rw[this];simp
  rw[if_neg h14];have ih:=runV_names cs n (cur++[c]) (by rw[List.all_append,hc];simpa using hch) (by simp;omega) h' _ e';rw[ih,List.append_assoc];rfl
def refV (p:List UInt8):Bool:=decide (p.length≤100)&&(decide ((splitB p).length≤6)&&(splitB p).all nameB)
theorem splitB_len (p:List UInt8):p.length+1=((splitB p).map fun s=>s.length+1).sum:=by
 induction p with
 |nil=>rfl
 |cons c l ih=>
  obtain⟨h,t,e⟩:=splitB_head l;rw[splitB_cons,e];rw[e]at ih;split
  ·simp only[List.map_cons,List.sum_cons,List.length_cons,List.length_nil]at ih ⊢;omega
  simp only[List.map_cons,List.sum_cons,List.length_cons]at ih ⊢;omega
theorem names_sum (l:List (List UInt8)) (h:l.all nameB=true):(l.map fun s=>s.length+1).sum≤15*l.length:=by
 induction l with
 |nil=>simp
 |cons a l ih=>rw[List.all_cons,Bool.and_eq_true]at h;have:=ih h.2;(have h2:a.length≤14:=by have:=h.1;unfold nameB at this;simp only[Bool.and_eq_true,decide_eq_true_eq]at this;exact this.1.1.2);simp only[List.map_cons,List.sum_cons,List.length_cons];omega
theorem refV_valid (p:List UInt8):refV p=validL p:=by
 obtain⟨h,t,e⟩:=splitB_head p;have hv:validL p=(decide ((splitB p).length≤6)&&(splitB p).all nameB):=by unfold validL;rw[runV_names p 1 [] (by simp) (by simp) h t e,e,List.nil_append,List.all_cons,List.length_cons,Bool.and_comm];(have e2:(1+t.length≤6)↔(t.length+1≤6):=by omega);simp only[e2]
 unfold refV;rw[hv];cases hx:(decide ((splitB p).length≤6)&&(splitB p).all nameB)with
 |false=>simp
 |true=>rw[Bool.and_eq_true,decide_eq_true_eq]at hx;have h1:=splitB_len p;have h2:=names_sum _ hx.2;(have h3:p.length≤100:=by omega);simp[h3]
set_option linter.unusedSimpArgs false
theorem base_short {p:List UInt8} (h:validL p=true):(baseP p).length≤14:=by
 rw[←refV_valid]at h;unfold refV at h;simp only[Bool.and_eq_true]at h;have hm:baseP p∈splitB p:=by have:=split_base p;rw[this];exact List.mem_append_right _ (by simp)
 have:=List.all_eq_true.1 h.2.2 _ hm;unfold nameB at this;simp only[Bool.and_eq_true,decide_eq_true_eq]at this;exact this.1.1.2
def atT (ns:List TN) (K:Key):Except Int (Option TN):=(treeW ns K.dropLast.length K.dropLast).bind fun c=>if isDirO c=true then .ok (nodeK ns K)else .error 22
structure Vt (S:VS) (ns:List TN) (fs:List FT) (g:LT) (dn:Key→Nat) (φ:Int→Nat):Prop where
 vol:Vol S g
 rep:Rep g S.names ns fs dn φ
 m:S.m=0
section
variable {S:VS} {g:LT} {ns:List TN} {fs:List FT} {dn:Key→Nat} {φ:Int→Nat}
theorem Vt.nodes (h:Vt S ns fs g dn φ):S.nodes=ns.length:=by rw[h.vol.ph.nodes,h.rep.count h.vol.ph.fair]
theorem Vt.wB (h:Vt S ns fs g dn φ):S.wB=treeB ns fs:=by rw[h.vol.ph.wB,h.rep.wB h.vol.ph.fair]
theorem Vt.wI (h:Vt S ns fs g dn φ):S.wI=treeI ns:=by rw[h.vol.ph.wI,h.rep.wI h.vol.ph.fair]
theorem Rep.entLt {nm:Nat} (h:Rep g nm ns fs dn φ) (hfair:∀i<nm,(g i).fair):∀n<nm,∀e∈(g n).ents,e.2<nm:=fun n hn e he=>by
 by_cases hk:(g n).kind=1
 ·have hD:∃K,IsDir ns K∧dn K=n:=by
   rcases h.cover n hn (by rw[hk];decide)with e1|⟨m,hm,e1⟩
   ·exact⟨[],.inl rfl,by rw[h.root,e1]⟩
   rcases(h.kindN hm).2 with⟨hf,_⟩|⟨_,h2⟩
   ·refine⟨keyN m,.inr ⟨m,hm,rfl,hf⟩,?_⟩;unfold inoN at e1;rw[if_pos hf]at e1;exact e1
   rw[e1,hk]at h2;cases h2
  obtain⟨K,hK,e1⟩:=hD;rw[←e1]at he;have:=(h.ents K hK).mem_iff.1 he;obtain⟨m,hm,e2⟩:=List.mem_map.1 this;rw[←e2];exact(h.kindN (List.mem_filter.1 hm).1).1
 rw[(hfair n hn).ents hk]at he;cases he
theorem Vt.of {S1:VS} {nm:Nat} {g':LT} {ns':List TN} {fs':List FT} {dn':Key→Nat} {φ':Int→Nat} (hp:Phys S1 g') (hr:Rep g' nm ns' fs' dn' φ') (hnm:S1.names=nm) (hlen:ns'.length≤256) (hB:S1.rB=S1.count) (hI:S1.rI=S1.names) (hm:S1.m=0):Vt S1 ns' fs' g' dn' φ':=by subst hnm;exact⟨⟨hp,hr.entLt hp.fair,hr.rk,by rw[hp.nodes,hr.count hp.fair];omega,hB,hI⟩,hr,hm⟩
theorem atT_dir (h:Rep g S.names ns fs dn φ) {K:Key} {x:Option TN} (ha:atT ns K= .ok x):IsDir ns K.dropLast∧x=nodeK ns K∧∃c,treeW ns K.dropLast.length K.dropLast= .ok c∧isDirO c=true:=by
 unfold atT at ha;cases hc:treeW ns K.dropLast.length K.dropLast with
 |error e=>rw[hc]at ha;cases ha
 |ok c=>
  rw[hc]at ha;change (if isDirO c=true then Except.ok (nodeK ns K)else Except.error 22)= .ok x at ha;by_cases hd:isDirO c=true
  ·rw[if_pos hd]at ha;cases ha;refine⟨?_,rfl,c,rfl,hd⟩;rcases treeW_dir h hc with⟨_,e⟩|⟨n,e,hn,hk⟩
   ·exact .inl e
   rw[e]at hd;exact .inr ⟨n,hn,hk,by simpa[isDirO]using hd⟩
  rw[if_neg hd]at ha;cases ha
theorem treeW_ino (h:Rep g S.names ns fs dn φ) {K:Key} {c:Option TN} (hc:treeW ns K.length K= .ok c) (hd:isDirO c=true):inoO dn φ c=dn K:=by
 rcases treeW_dir h hc with⟨e,e2⟩|⟨n,e,hn,hk⟩
 ·rw[e,e2];exact h.root.symm
 rw[e]at hd ⊢;have hf:n.file= -1:=by simpa[isDirO]using hd
 show inoN dn φ n=_
 unfold inoN;rw[if_pos hf,hk]
theorem isDirO_kind (h:Rep g S.names ns fs dn φ) {K:Key} {c:Option TN} (hc:treeW ns K.length K= .ok c):isDirO c=true↔(g (inoO dn φ c)).kind=1:=by
 rcases treeW_dir h hc with⟨e,e2⟩|⟨n,e,hn,hk⟩
 ·rw[e];exact⟨fun _=>h.rk,fun _=>rfl⟩
 rw[e];show decide (n.file= -1)=true↔(g (inoN dn φ n)).kind=1
 rw[decide_eq_true_eq];rcases(h.kindN hn).2 with⟨h1,h2⟩|⟨h1,h2⟩
 ·exact⟨fun _=>h2,fun _=>h1⟩
 exact⟨fun e=>absurd e h1,fun e=>by rw[h2]at e;cases e⟩
theorem Vt.look (h:Vt S ns fs g dn φ) (p:List UInt8):lookP S.cur S.data 0 0 (splitB p)=match atT ns (splitB p)with
  | .error e=>(0,0,e)
  | .ok none=>((dn (splitB p).dropLast:Int), -1,0)
  | .ok (some n)=>((dn (splitB p).dropLast:Int),(inoN dn φ n:Int),0):=by
 obtain⟨P,hP⟩:∃P,P=(splitB p).dropLast:=⟨_,rfl⟩;have hs:splitB p=P++[baseP p]:=by rw[hP];exact split_base p
 rw[←hP,hs,lookP_walk h.vol _ _ _ _ h.vol.ph.n0,h.rep.walk P.length P rfl];unfold atT;rw[List.dropLast_concat];cases hc:treeW ns P.length P with
 |error e=>rfl
 |ok c=>
  show lastG g (baseP p) (.ok (inoO dn φ c))=match (if isDirO c=true then Except.ok (nodeK ns (P++[baseP p]))else Except.error 22:Except Int (Option TN))with
   | .error e=>((0:Int),(0:Int),e)
   | .ok none=>((dn P:Int), -1,0)
   | .ok (some n)=>((dn P:Int),(inoN dn φ n:Int),0)
  have hk:=isDirO_kind (S:=S) h.rep hc;unfold lastG;by_cases hd:isDirO c=true
  ·have hi:=treeW_ino (S:=S) h.rep hc hd;have hK:IsDir ns P:=by
    rcases treeW_dir h.rep hc with⟨_,e⟩|⟨n,e,hn,hk⟩
    ·exact .inl e
    rw[e]at hd;exact .inr ⟨n,hn,hk,by simpa[isDirO]using hd⟩
   simp only[if_pos hd,if_pos (hk.1 hd)];rw[hi,h.rep.find hK];cases nodeK ns (P++[baseP p])<;>rfl
  simp only[if_neg hd,if_neg fun e=>hd (hk.2 e)]
def DoneT (S:VS) (r:Except Int (Option VS)) (ns':List TN) (fs':List FT):Prop:=
 ∃x,r= .ok x∧(x=none→S.rB<treeB ns' fs'∨S.rI<treeI ns')∧∀S1,x=some S1→Few S.cur S1∧ns'.length≤256∧∃g' dn' φ',Chg S g' S1∧Rep g' S.names ns' fs' dn' φ'
def newT (ns:List TN) (p:List UInt8):Int:=match atT ns (splitB p)with
 | .error e=>e
 | .ok (some _)=>23
 | .ok none=>if ns.length<256 then 0 else 31
theorem treeW_err {ns:List TN}:∀(k:Nat) (K:Key) {e:Int},treeW ns k K= .error e→e=21∨e=22
 |0,K,e,h=>by cases h
 |k+1,K,e,h=>by
  unfold treeW at h;cases h1:treeW ns k K.dropLast with
  |error e1=>rw[h1]at h;cases h;exact treeW_err k _ h1
  |ok c=>
   rw[h1]at h;change stepT ns K c= .error e at h;unfold stepT at h;split at h
   ·split at h
    ·cases h
    cases h;exact .inl rfl
   cases h;exact .inr rfl
theorem atT_err {ns:List TN} {K:Key} {e:Int} (h:atT ns K= .error e):e=21∨e=22:=by
 unfold atT at h;cases hc:treeW ns K.dropLast.length K.dropLast with
 |error e1=>rw[hc]at h;cases h;exact treeW_err _ _ hc
 |ok c=>
  rw[hc]at h;change (if isDirO c=true then Except.ok (nodeK ns K)else Except.error 22)= .error e at h;split at h
  ·cases h
  cases h;exact .inr rfl
theorem filesN_dir :∀ {ns:List TN} {n:TN},n.file= -1→filesN (ns++[n])=filesN ns
 |[],n,h=>by(show filesN [n]=[]);unfold filesN;rw[if_pos (.inl h)];rfl
 |a::t,n,h=>by rw[List.cons_append];unfold filesN;rw[filesN_dir h]
theorem filesN_new :∀ {ns:List TN} {n:TN},n.file≠ -1→(∀m∈ns,m.file≠n.file)→filesN (ns++[n])=filesN ns++[n.file]
 |[],n,h,_=>by(show filesN [n]=[n.file]);unfold filesN;rw[if_neg (by rw[not_or];exact⟨h,by simp[filesN]⟩)];rfl
 |a::t,n,h,hm=>by
  have ha:=hm a List.mem_cons_self;rw[List.cons_append];unfold filesN;rw[filesN_new h fun m hmm=>hm m (List.mem_cons_of_mem _ hmm)];by_cases e:a.file= -1∨a.file∈filesN t
  ·rw[if_pos e,if_pos (e.imp id fun h=>List.mem_append_left _ h)]
  rw[if_neg e,if_neg (fun e2=>e (e2.imp id fun h=>(List.mem_append.1 h).resolve_right fun h2=>ha (by rwa [List.mem_singleton]at h2))),List.cons_append]
def newNs (ns:List TN) (fs:List FT) (kind mode:Nat) (p:List UInt8):List TN:=ns++[if kind=1 then⟨p, -1,mode⟩else⟨p,fs.length,0⟩]
def newFs (fs:List FT) (kind mode:Nat) (bs:List UInt8):List FT:=if kind=1 then fs else fs++[⟨mode,bs⟩]
theorem treeI_new {ns:List TN} {fs:List FT} {kind mode:Nat} {p:List UInt8} (h:∀n∈ns,n.file≠ -1→n.file<fs.length):treeI (newNs ns fs kind mode p)=treeI ns+1:=by
 unfold treeI newNs;by_cases hk:kind=1
 ·rw[if_pos hk,filesN_dir rfl];unfold dirsN;rw[List.filter_append];simp;omega
 rw[if_neg hk];have hne:(fs.length:Int)≠ -1:=by omega
 rw[filesN_new (n:=⟨p,fs.length,0⟩) hne fun m hm e=>by have e':m.file=(fs.length:Int):=e;have:=h m hm (by omega);omega];unfold dirsN;rw[List.filter_append];have e:([⟨p,fs.length,0⟩]:List TN).filter (fun n=>decide (n.file= -1))=[]:=by rw[List.filter_cons,if_neg (by simp only[decide_eq_true_eq];exact hne)];rfl
 rw[e];simp;omega
theorem Vt.newOne (h:Vt S ns fs g dn φ) {kind mode:Nat} {p bs:List UInt8} (hkd:kind=1∧bs=[]∨kind=2) {i:Nat} (hi:i<S.names) (h0:(g i).kind=0) (ha:atT ns (splitB p)= .ok none):
  ∃dn' φ',Rep (updT (updT g i (newLI kind mode bs)) (dn (splitB p).dropLast) ((g (dn (splitB p).dropLast)).more (baseP p) i)) S.names (newNs ns fs kind mode p) (newFs fs kind mode bs) dn' φ':=by
 obtain⟨hP,hno,_⟩:=atT_dir (S:=S) h.rep ha;rcases hkd with⟨rfl,rfl⟩|rfl
 ·exact⟨_,_,h.rep.addDir hi h0 hP hno.symm⟩
 exact⟨_,_,h.rep.addFile hi h0 hP hno.symm⟩
theorem Vt.new (h:Vt S ns fs g dn φ) {kind mode:Nat} {p bs:List UInt8} (hkd:kind=1∧bs=[]∨kind=2) (hv:validL p=true) (hp:p.length≤1048576) (hmode:mode<65536) (hbs:bs.length≤8192):
  (∀d:Nat,lookP S.cur S.data 0 0 (splitB p)=((d:Int), -1,0)→S.nodes<256→MadeOk S (⟨kind,mode,1,0,[]⟩:VI) bs d p)∧
  ((newT ns p≠0∧newP S p (⟨kind,mode,1,0,[]⟩:VI) bs= .error (newT ns p))∨(newT ns p=0∧DoneT S (newP S p (⟨kind,mode,1,0,[]⟩:VI) bs) (newNs ns fs kind mode p) (newFs fs kind mode bs))):=by
 have hL:=h.look p;have hbase:(baseP p).length≤15:=by have:=base_short hv;omega
 unfold newT newP;cases ha:atT ns (splitB p)with
 |error e=>
  rw[ha]at hL;have he:=atT_err ha;simp only at hL;rw[hL];refine⟨fun d hd=>?_,.inl ⟨by show e≠0;omega,?_⟩⟩
  ·have e1:(0:Int)= -1:=congrArg (fun x:Int×Int×Int=>x.2.1) hd;exact absurd e1 (by decide)
  unfold nothingE;rw[if_neg (show ¬e=0 by omega)]
 |ok x=>
  cases x with
  |some n=>
   rw[ha]at hL;simp only at hL;rw[hL];refine⟨fun d hd=>?_,.inl ⟨by show(23:Int)≠0;decide,?_⟩⟩
   ·have e1:(inoN dn φ n:Int)= -1:=congrArg (fun x:Int×Int×Int=>x.2.1) hd;omega
   unfold nothingE;rw[if_pos (show(0:Int)=0 from rfl),if_neg (show ¬(inoN dn φ n:Int)<0 by omega)]
  |none=>
   rw[ha]at hL;simp only at hL;rw[hL];obtain⟨hP,hno,_⟩:=atT_dir (S:=S) h.rep ha;obtain⟨hd1,hd2⟩:=h.rep.dirI hP;obtain⟨d,hd⟩:∃d,d=dn (splitB p).dropLast:=⟨_,rfl⟩;(have hone:=fun i=>h.newOne (i:=i) (mode:=mode) hkd (p:=p));rw[←hd]at hd1 hd2 hone ⊢;(have hsz:S.nodes<256→(g d).ents.length<448:=fun hn=>by have:=h.vol.ph.ents_le hd1;omega);(have hmade:=fun hn:S.nodes<256=>h.vol.ph.made h.m ⟨h.vol.rB,h.vol.rI⟩ (kind:=kind) (dir:=d) (mode:=mode) (path:=p) (bs:=bs) hkd hd1 hd2 (hsz hn) hv hp hbase hmode hbs);have hnn:=h.nodes;refine⟨fun d' hd' hn=>?_,?_⟩
   ·have e1:(d:Int)=d':=congrArg (fun x:Int×Int×Int=>x.1) hd';(have e2:d=d':=by omega);rw[←e2];exact(hmade hn).1
   have e0:nothingE ((d:Int),(-1:Int),(0:Int))=none:=rfl;rw[e0];by_cases hn:ns.length<256
   ·(have hn':S.nodes<256:=by omega);simp only[if_pos hn,if_pos hn'];refine .inr ⟨trivial,_,rfl,?_,?_⟩
    ·intro hx;rw[Int.toNat_natCast]at hx;rcases(hmade hn').2 with⟨h1,_⟩|⟨i,hi,_,h2⟩
     ·--no inode is free
      right;have hall:=h.vol.ph.free_none h1;have h3:S.wI=S.names:=by
       rw[h.vol.ph.wI];have e:∀i<S.names,wghI (g i).kind=1:=fun i hi=>by
        have:=hall i hi;have:=(h.vol.ph.fair i hi).kind;unfold wghI;split
        ·rfl
        rw[if_pos (by omega)]
       (have e2:=sumN_bound (f:=fun n=>wghI (g n).kind) (n:=S.names) (a:=1) (b:=1) fun i hi=>by rw[e i hi];omega);omega
      have h4:=h.wI;(have h5:treeI (newNs ns fs kind mode p)=treeI ns+1:=treeI_new fun n hn hf=>(h.rep.lt_fs hn hf).2);rw[h.vol.rI];omega
     left;obtain⟨hi1,hi0⟩:=h.vol.ph.free_some hi;obtain⟨dn',φ',hR⟩:=hone i hi1 hi0 ha;have h3:=h2 hx;have hfair:∀j<S.names,(updT (updT g i (newLI kind mode bs)) d ((g d).more (baseP p) i) j).fair:=fun j hj=>by
      by_cases e1:j=d
      ·rw[e1,updT_same];exact LI.more_fair (h.vol.ph.fair d hd1) hd2 (hsz hn') hbase (by have:=h.vol.ph.names_le;omega)
      rw[updT_ne _ _ e1];by_cases e2:j=i
      ·rw[e2,updT_same];exact newLI_fair hkd hmode hbs
      rw[updT_ne _ _ e2];exact h.vol.ph.fair j hj
     have h4:=needN_wgh hfair;rw[hR.wB hfair]at h4;rw[h.vol.rB];omega
    intro S1 hS1;rw[Int.toNat_natCast]at hS1;rcases(hmade hn').2 with⟨_,h1⟩|⟨i,hi,h1,_⟩
    ·rw[h1]at hS1;cases hS1
    obtain⟨hi1,hi0⟩:=h.vol.ph.free_some hi;obtain⟨dn',φ',hR⟩:=hone i hi1 hi0 ha;refine⟨(Few.refl S).madeP hS1,?_,_,dn',φ',h1 S1 hS1,hR⟩;unfold newNs;rw[List.length_append,List.length_singleton];omega
   (have hn':¬S.nodes<256:=by omega);simp only[if_neg hn,if_neg hn'];exact .inl ⟨by decide,trivial⟩
end
end Go.Proofs.YteihmbaimbogaaaGreat
namespace Go.Proofs.YteihmbaimbogaaaGreat
open Go.RowKit
set_option linter.unusedVariables false
theorem heap_sorted {α:Type} [Inhabited α] (enc:α→Value) (w:World) (g n:Nat) (d:Array α) (os:Array Obj) (b:Nat) (hb:b<w.heap.size):
  (Go.Proofs.sortWorld enc w g 0 n d os).heap[b]? =if g=b then w.heap[b]?.map (Go.Sort.onCells (Go.Sort.putCells enc 0 d))else w.heap[b]? :=by
 unfold Go.Proofs.sortWorld Go.Sort.grow Go.Sort.putRow Go.Sort.mapBlock Go.Sort.ahead;simp only;rw[Array.getElem?_append_left (by simpa using hb),Array.getElem?_modify]
theorem Sep.sorted {α:Type} [Inhabited α] (enc:α→Value) {w0 w:World} {As:List Asn} {e:TypeId} {g m cap:Nat} {cs:List Value} (k:Nat) (h:Sep w0 w As)
  (hi:As[k]? =some (.sl e 1 (.slice (some ⟨g,0,none⟩) m cap) m cs)) (n:Nat) (d:Array α) (hd:d.size=m) (os:Array Obj):
  Sep w0 (Go.Proofs.sortWorld enc w g 0 n d os) (As.set k (.sl e 1 (.slice (some ⟨g,0,none⟩) m cap) m (d.toList.map enc))):=by
 refine h.step k hi fun F ⟨ho,hF⟩ _=>⟨F,⟨⟨by simp[hd],?_⟩,hF⟩,fun b hb=>.inl hb,?_⟩
 ·rcases ho.2 with⟨h',_⟩|⟨g',cap',cur,h',hb,hg,hc,hm,hs,ht⟩
  ·simp at h'
  simp only[Value.slice.injEq,Option.some.injEq,Addr.mk.injEq,and_true,true_and]at h';obtain⟨rfl,rfl⟩:=h';refine .inr ⟨g,cap,Go.Sort.putCells enc 0 d cur,rfl,hb,?_,hc,hm,by simpa[Go.Sort.putCells]using hs,?_⟩
  ·rw[heap_sorted enc w g n d os g (lt_of_heap hg),if_pos rfl,hg];rfl
  apply List.ext_getElem?;intro i;by_cases hi:i<m
  ·(have hc2:i<cur.size:=by omega);simp[Go.Sort.putCells,hd,hi,hc2]
  rw[List.getElem?_eq_none (by simp;omega),List.getElem?_eq_none (by simp;omega)]
 refine⟨rfl,rfl,rfl,by simp[Go.Proofs.sortWorld,Go.Sort.grow,Go.Sort.putRow,Go.Sort.mapBlock,Go.Sort.ahead],fun b hb hn=>?_⟩;rw[heap_sorted enc w g n d os b hb,if_neg];intro e;subst e;exact hn (by rw[hF];simp[Value.ownBlock])
def strsR (v:Value) (ps:List (List UInt8)):Asn:=.sl 9 1 v ps.length (ps.map strV)
def sortS (ps:List (List UInt8)):List (List UInt8):=ps.mergeSort fun x y=>decide (x≤y)
theorem sortS_perm (ps:List (List UInt8)):(sortS ps).Perm ps:=List.mergeSort_perm _ _
theorem sortS_le (ps:List (List UInt8)):(sortS ps).Pairwise fun x y=>x≤y:=by have h:=List.pairwise_mergeSort (le:=fun(x y:List UInt8)=>decide (x≤y)) (fun a b c h1 h2=>by simp only[decide_eq_true_eq]at h1 h2 ⊢;exact List.le_trans h1 h2) (fun a b=>by simp only[Bool.or_eq_true,decide_eq_true_eq];exact List.le_total a b) ps;exact h.imp fun h=>by simpa using h
theorem strs_holds {w0 w:World} {As:List Asn} {g n c:Nat} {ps:List (List UInt8)} (k:Nat) (h:Sep w0 w As) (hk:As[k]? =some (.sl 9 1 (.slice (some ⟨g,0,none⟩) n c) n (ps.map strV))) (hn:ps.length=n):Go.Sort.Holds Go.Proofs.encStr w g 0 ps.toArray:=fun j hj=>by
 have hj':j<ps.length:=by simpa using hj
 rw[Nat.zero_add];refine⟨?_,h.frozenAt k hk j⟩;rw[h.cellAt k hk j (by omega),getElem!_pos _ j hj];simp[hj'];rfl
theorem sortstrs_any {w0 w:World} {As:List Asn} {v:Value} {ps:List (List UInt8)} (k:Nat) (h:Sep w0 w As) (hk:As[k]? =some (strsR v ps)) (hl:ps.length≤1048576):
  Calls Tryz.prog 70 #[v] w fun e w'=>e= .returned (.tuple #[])∧Sep w0 w' (As.set k (strsR v (sortS ps))):=by
 have hlen:(sortS ps).length=ps.length:=(sortS_perm ps).length_eq;rcases Nat.eq_zero_or_pos ps.length with h0|hpos
 ·obtain rfl:ps=[]:=List.eq_nil_of_length_eq_zero h0;obtain⟨A,c,rfl,_⟩:=(h.rd k hk).shape;have hcon:=Go.Proofs.AnyM.slices_Sort_string_none Go.Proofs.Tryz.sortStrings A c w;change Calls Tryz.prog 70 _ _ _ at hcon;refine hcon.mono ?_;rintro e w' ⟨rfl,rfl⟩;refine⟨rfl,?_⟩;obtain⟨hlt,e⟩:=gF.1 hk;have e2:sortS []=[]:=List.eq_nil_of_length_eq_zero (by rw[hlen];rfl);rw[e2,←e,List.set_getElem_self];exact h
 obtain⟨g,c,rfl,_,hg,_⟩:=h.sl_form k hk hpos;have hH:=strs_holds k h hk rfl;have hcon:=Go.Proofs.AnyM.slices_Sort_string Go.Proofs.Tryz.sortStrings g 0 c ps w hH hg (by omega);change Calls Tryz.prog 70 _ _ _ at hcon;refine hcon.mono ?_;rintro e w' ⟨rfl,n,os,rfl⟩;refine⟨rfl,?_⟩;have hS:=h.sorted (α:=List UInt8) Go.Proofs.encStr k hk n (sortS ps).toArray (by simpa using hlen) os;have e1:strsR (.slice (some ⟨g,0,none⟩) ps.length c) (sortS ps)= .sl 9 1 (.slice (some ⟨g,0,none⟩) ps.length c) ps.length ((sortS ps).toArray.toList.map Go.Proofs.encStr):=by unfold strsR;rw[hlen];rfl
 rw[e1];exact hS
end Go.Proofs.YteihmbaimbogaaaGreat
