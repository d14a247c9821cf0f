/- FvY, FvZ, FxA, laid together. -/
import Derived.Test.YteihmbaimbogaaaGreatJ44
namespace Go.Proofs.YteihmbaimbogaaaGreat
set_option linter.unusedVariables false
set_option linter.unusedSimpArgs false
def delT (ns:List TN) (K:Key):List TN:=ns.filter fun m=> !(keyN m==K)
theorem delT_perm :∀ {ns:List TN} {n:TN},(ns.map keyN).Nodup→n∈ns→ns.Perm (n::delT ns (keyN n))
 |a::t,n,hu,hn=>by
  rw[List.map_cons,List.nodup_cons]at hu;unfold delT;rw[List.filter_cons];rcases List.mem_cons.1 hn with e|hn
  ·subst e;rw[if_neg (by simp)];(have e2:t.filter (fun m=> !(keyN m==keyN n))=t:=by rw[List.filter_eq_self];intro m hm;(have:keyN m≠keyN n:=fun e=>hu.1 (List.mem_map.2 ⟨m,hm,e⟩));simp[this]);rw[e2]
  (have hne:keyN a≠keyN n:=fun e=>hu.1 (List.mem_map.2 ⟨n,hn,e.symm⟩));rw[if_pos (by simp[hne])];exact((delT_perm hu.2 hn).cons a).trans (List.Perm.swap _ _ _)
theorem updT_twice (g:LT) (n:Nat) (x y:LI):updT (updT g n x) n y=updT g n y:=by funext i;unfold updT;split<;>rfl
section
variable {S:VS} {g:LT} {ns:List TN} {fs:List FT} {dn:Key→Nat} {φ:Int→Nat}
theorem Vt.entry (h:Vt S ns fs g dn φ) {p:List UInt8} {n:TN} (hn:nodeK ns (splitB p)=some n) (hP:IsDir ns (splitB p).dropLast):
  ∃i,i<(g (dn (splitB p).dropLast)).ents.length∧(lookE (g (dn (splitB p).dropLast)).ents (baseP p)).1=i∧eat (g (dn (splitB p).dropLast)).ents i=(baseP p,inoN dn φ n):=by
 have hf:=h.rep.find hP (baseP p);rw[←split_base,hn]at hf;rcases lookE_findG (g (dn (splitB p).dropLast)).ents (baseP p)with⟨i,h1,h2,h3,h4⟩|⟨_,h4⟩
 ·refine⟨i,h1,h3,?_⟩;rw[hf]at h4;have e1:inoN dn φ n=(lookE (g (dn (splitB p).dropLast)).ents (baseP p)).2:=Option.some.inj h4;rw[h2,e1]
 rw[hf]at h4;cases h4
theorem Rep.file_kids {nm:Nat} (h:Rep g nm ns fs dn φ) {n:TN} (hn:n∈ns) (hf:n.file≠ -1):kidsN ns (keyN n)=[]:=by
 unfold kidsN;rw[List.filter_eq_nil_iff];intro m hm hk;have e:(keyN m).dropLast=keyN n:=by simpa using hk
 rcases h.up m hm with h1|⟨a,ha,h1,h2⟩
 ·exact keyN_ne n (by rw[←e,h1])
 have:a=n:=keys_inj h.uniq ha hn (by rw[h1,e]);rw[this]at h2;exact hf h2
theorem delT_kids {n:TN} {K:Key} (h:kidsN ns K=[]):kidsN (delT ns (keyN n)) K=[]:=by unfold kidsN delT at*;rw[List.filter_eq_nil_iff]at h ⊢;intro m hm;exact h m (List.mem_filter.1 hm).1
theorem Vt.unname (h:Vt S ns fs g dn φ) {p:List UInt8} {n:TN} (hv:validL p=true) (hn:nodeK ns (splitB p)=some n) (hP:IsDir ns (splitB p).dropLast) (hf:n.file≠ -1):
  DoneT S (.ok (some (unlinkP S (dn (splitB p).dropLast) (baseP p) (φ n.file)))) (delT ns (splitB p)) fs∧UnlinkOk S (dn (splitB p).dropLast) p (φ n.file):=by
 obtain⟨hnm,hnk⟩:=nodeK_some hn;obtain⟨ix,hi,hl,he⟩:=h.entry hn hP;have hbase:(baseP p).length≤15:=by have:=base_short hv;omega
 obtain⟨hd1,hd2⟩:=h.rep.dirI hP;obtain⟨_,hj1,hj2,_,hj3⟩:=h.rep.file n hnm hf;have hino:inoN dn φ n=φ n.file:=by unfold inoN;rw[if_neg hf]
 rw[hino]at he;obtain⟨d,hd⟩:∃d,d=dn (splitB p).dropLast:=⟨_,rfl⟩;obtain⟨j,hj⟩:∃j,j=φ n.file:=⟨_,rfl⟩;rw[←hd]at hi hl he hd1 hd2;rw[←hj]at he hj1 hj2 hj3;rw[←hd,←hj];have hjd:j≠d:=fun e=>by rw[e,hd2]at hj2;cases hj2
 --the tree
 have hperm:=delT_perm h.rep.uniq hnm;have hR0:=h.rep.perm hperm;rw[hnk]at hperm hR0;have hkey:keyN n=splitB p:=hnk;have hlast:(keyN n).getLastD []=baseP p:=by rw[hkey];rfl
 have hkids:kidsN (delT ns (splitB p)) (keyN n)=[]:=by have:=delT_kids (n:=n) (h.rep.file_kids hnm hf);rw[hnk]at this ⊢;exact this
 have hlose:=fun(x:LI) hx=>hR0.lose (x:=x) (ix:=ix) hkids hx (by rw[hkey,←hd];exact hi) (by rw[hkey,←hd,hino,←hj];exact he.trans (by rw[←hkey,hlast]))
 rw[hkey,←hd,hino,←hj]at hlose;have hcnt:(g j).links=1+(delT ns (splitB p)).countP fun m=>decide (m.file=n.file):=by rw[hj3,hperm.countP_eq,List.countP_cons,if_pos (by simp)];omega
 --the blocks
 have hL:=h.vol.ph.leave hd1 hd2 hi hl;have hlv:=h.vol.ph.leaveOk hd1 hd2 hbase hi hl;obtain⟨S1,hS1⟩:∃S1,S1=leaveP S d (baseP p):=⟨_,rfl⟩;have hL1:Like S S1:=by rw[hS1];exact leaveP_like _ _ _
 have hm1:S1.m≤4:=by rw[hS1];have:=h.vol.ph.leave_m (name:=baseP p) hd1 hd2;rw[h.m]at this;omega
 have hF1:Few S.cur S1:=by rw[hS1];exact(Few.refl S).leaveP _ _
 rw[←hS1]at hL;obtain⟨g1,hg1⟩:∃g1,g1=updT g d ((g d).less ix):=⟨_,rfl⟩;rw[←hg1]at hL hlose;have hj1':j<S1.names:=by rw[hL1.names];exact hj1
 have gj:g1 j=g j:=by rw[hg1,updT_ne _ _ hjd]
 have hfair:=hL.fair j hj1';obtain⟨x,hx⟩:∃x:LI,x= {g1 j with links:=(g1 j).links-1}:=⟨_,rfl⟩;have hxf:x.fair:=by rw[hx];exact⟨hfair.kind,hfair.ents,hfair.data,hfair.few,hfair.short,hfair.mode,by show(g1 j).links-1<65536;have:=hfair.links;omega,hfair.names⟩
 have hM:=hL.meta hj1' (x:=x) hxf (by rw[hx]) (by rw[hx]) (by rw[hx]);have hy:({inoP S1.cur j with links:=(inoP S1.cur j).links-1}:VI)=x.vi (inoP S1.cur j).spots:=by
  have:=hL.head j hj1';rw[hx]
  conv=>lhs;rw[this]
  rfl
 have hyl:(inoP S1.cur j).links=(g j).links:=by rw[hL.head j hj1',gj];rfl
 have hsm:(inoP S1.cur j).spots.length≤16:=by rw[hL.len j hj1',gj];have:=(h.vol.ph.fair j hj1).short;unfold LI.need;rw[if_neg (by omega),if_pos hj2];omega
 rw[←hy]at hM;obtain⟨S2,hS2⟩:∃S2,S2=S1.keep j {inoP S1.cur j with links:=(inoP S1.cur j).links-1}:=⟨_,rfl⟩;rw[←hS2]at hM;have hL2:Like S S2:=by rw[hS2];exact hL1.keep _ _
 have hm2:S2.m≤5:=by rw[hS2];show S1.m+1≤5;omega
 have hF2:Few S.cur S2:=by rw[hS2];exact hF1.keep _ _
 have hsm2:(inoP S2.cur j).spots.length≤16:=by rw[hM.len j (by rw[hL2.names];exact hj1),updT_same,hx,gj];have:=(h.vol.ph.fair j hj1).short;unfold LI.need;rw[if_neg (by show ¬(g j).kind=1;omega),if_pos (by exact hj2)];(show((g j).data.length+511)/512≤16);omega
 have hun:unlinkP S d (baseP p) j=if(g j).links-1=0 then dropP S2 j else S2:=by unfold unlinkP;simp only;rw[←hS1,←hS2,hyl]
 have hlen:(delT ns (splitB p)).length≤256:=by have h1:=hperm.length_eq;rw[List.length_cons]at h1;have:=h.nodes;have:=h.vol.few;omega
 have hchg:∃g',Chg S g' (unlinkP S d (baseP p) j)∧Rep g' S.names (delT ns (splitB p)) fs dn φ:=by
  rw[hun];by_cases h0:(g j).links-1=0
  ·rw[if_pos h0];(have hc0:(delT ns (splitB p)).countP (fun m=>decide (m.file=n.file))=0:=by omega);have hno:∀m∈delT ns (splitB p),inoN dn φ m≠j:=fun m hm e=>by
    have hmn:m∈ns:=(List.mem_filter.1 hm).1;(have hne:m.file≠n.file:=by simpa using List.countP_eq_zero.1 hc0 m hm);rcases h.rep.inj m hmn n hnm (by rw[e,hino,hj])with h8|h8
    ·exact hne (by rw[h8])
    exact hne h8.2
   have hDr:=hM.drop (n:=j) (by rw[hL2.names];exact hj1) (by rw[updT_same,hx,gj];exact(h.vol.ph.fair j hj1).ents (by omega));rw[updT_twice]at hDr;refine⟨_,⟨hDr,hL2.trans (dropP_like _ _),?_⟩,hlose LI0 (.inr ⟨rfl,hno⟩)⟩;have:=drop_m S2 j;omega
  rw[if_neg h0];(have hex:∃m∈delT ns (splitB p),m.file=n.file:=by(have:0<(delT ns (splitB p)).countP fun m=>decide (m.file=n.file):=by omega);obtain⟨m,hm,e⟩:=List.countP_pos_iff.1 this;exact⟨m,hm,by simpa using e⟩);have hl2:=hlose x (.inl ⟨hf,by rw[hx,gj],hex⟩);exact⟨_,⟨hM,hL2,by omega⟩,hl2⟩
 obtain⟨g',hC,hR⟩:=hchg;refine⟨⟨_,rfl,fun e=>(by cases e),fun T hT=>?_⟩,?_⟩
 ·cases hT;refine⟨?_,hlen,g',dn,φ,hC,hR⟩;rw[hun];split
  ·exact hF2.dropP _
  exact hF2
 refine⟨hlv,h.vol.ph.sv,?_,?_,?_,?_,?_,?_⟩
 ·rw[←hS1];exact hL.inoOk hj1'
 ·rw[←hS1,hyl];omega
 ·rw[←hS1];exact hL.sw
 ·rw[←hS1,←hS2];exact hM.inoOk (by rw[hL2.names];exact hj1)
 ·rw[←hS1,←hS2];exact hM.sw
 exact Phys.changeOk ⟨h.vol.rB,h.vol.rI⟩ h.vol.ph.use hC.like hC.ph hC.m
theorem Vt.rmdir (h:Vt S ns fs g dn φ) {p:List UInt8} {n:TN} (hv:validL p=true) (hn:nodeK ns (splitB p)=some n) (hP:IsDir ns (splitB p).dropLast) (hf:n.file= -1) (hk:kidsN ns (splitB p)=[]):
  DoneT S (.ok (some (dropP (leaveP S (dn (splitB p).dropLast) (baseP p)) (dn (splitB p))))) (delT ns (splitB p)) fs∧RmdirOk S (dn (splitB p).dropLast) p (dn (splitB p)):=by
 obtain⟨hnm,hnk⟩:=nodeK_some hn;obtain⟨ix,hi,hl,he⟩:=h.entry hn hP;have hbase:(baseP p).length≤15:=by have:=base_short hv;omega
 obtain⟨hd1,hd2⟩:=h.rep.dirI hP;have hkey:keyN n=splitB p:=hnk;obtain⟨hj1,hj2,_,_⟩:=h.rep.dir n hnm hf;have hino:inoN dn φ n=dn (splitB p):=by unfold inoN;rw[if_pos hf,hkey]
 have hne0:=h.rep.ne0 n hnm;rw[hino]at he hne0;rw[hkey]at hj1 hj2;have hsplit:splitB p≠[]:=splitB_ne p;have hDp:IsDir ns (splitB p):=.inr ⟨n,hnm,hkey,hf⟩;have hjd:dn (splitB p)≠dn (splitB p).dropLast:=fun e=>key_drop_ne hsplit (h.rep.dn_inj hDp hP e).symm
 have hsz:=h.rep.kidsLen hDp;have hsz0:(g (dn (splitB p))).ents.length=0:=by rw[hsz];unfold kidsLen;rw[hk];rfl
 obtain⟨d,hd⟩:∃d,d=dn (splitB p).dropLast:=⟨_,rfl⟩;obtain⟨j,hj⟩:∃j,j=dn (splitB p):=⟨_,rfl⟩;rw[←hd]at hi hl he hd1 hd2 hjd;rw[←hj]at he hj1 hj2 hne0 hjd hsz0;rw[←hd,←hj];have hperm:=delT_perm h.rep.uniq hnm;have hR0:=h.rep.perm hperm;rw[hnk]at hperm hR0;have hlast:(keyN n).getLastD []=baseP p:=by rw[hkey];rfl
 have hkids:kidsN (delT ns (splitB p)) (keyN n)=[]:=by have:=delT_kids (n:=n) (K:=splitB p) hk;rw[hnk]at this;rw[hkey];exact this
 have hno:∀m∈delT ns (splitB p),inoN dn φ m≠j:=fun m hm e=>by
  have hmn:m∈ns:=(List.mem_filter.1 hm).1;rcases h.rep.inj m hmn n hnm (by rw[e,hino,hj])with h8|h8
  ·have:=(List.mem_filter.1 hm).2;rw[h8,hkey]at this;simp at this
  exact h8.1 (by rw[h8.2,hf])
 have hlose:=hR0.lose (x:=LI0) (ix:=ix) hkids (.inr ⟨rfl,fun m hm=>by rw[hino,←hj];exact hno m hm⟩) (by rw[hkey,←hd];exact hi) (by rw[hkey,←hd,hino,←hj];exact he.trans (by rw[←hkey,hlast]));rw[hkey,←hd,hino,←hj]at hlose;have hL:=h.vol.ph.leave hd1 hd2 hi hl;have hlv:=h.vol.ph.leaveOk hd1 hd2 hbase hi hl;obtain⟨S1,hS1⟩:∃S1,S1=leaveP S d (baseP p):=⟨_,rfl⟩;have hL1:Like S S1:=by rw[hS1];exact leaveP_like _ _ _
 have hm1:S1.m≤4:=by rw[hS1];have:=h.vol.ph.leave_m (name:=baseP p) hd1 hd2;rw[h.m]at this;omega
 have hF1:Few S.cur S1:=by rw[hS1];exact(Few.refl S).leaveP _ _
 rw[←hS1]at hL;rw[←hS1];have gj:updT g d ((g d).less ix) j=g j:=updT_ne _ _ hjd;have hj1':j<S1.names:=by rw[hL1.names];exact hj1
 have hents:(g j).ents=[]:=List.eq_nil_of_length_eq_zero hsz0;have hDr:=hL.drop (n:=j) hj1' (by rw[gj];exact hents);have hsm:(inoP S1.cur j).spots.length≤1:=by rw[hL.len j hj1',gj,dir_need hj2,hsz0];decide
 have hlen:(delT ns (splitB p)).length≤256:=by have h1:=hperm.length_eq;rw[List.length_cons]at h1;have:=h.nodes;have:=h.vol.few;omega
 have hC:Chg S (updT (updT g d ((g d).less ix)) j LI0) (dropP S1 j):=⟨hDr,hL1.trans (dropP_like _ _),by have:=drop_m S1 j;omega⟩;refine⟨⟨_,rfl,fun e=>(by cases e),fun T hT=>?_⟩,hlv,h.vol.ph.sv,?_,?_,?_⟩
 ·cases hT;exact⟨hF1.dropP _,hlen,_,dn,φ,hC,hlose⟩
 ·rw[←hS1];exact hL.inoOk hj1'
 ·rw[←hS1];exact hL.sw
 rw[←hS1];exact Phys.changeOk ⟨h.vol.rB,h.vol.rI⟩ h.vol.ph.use hC.like hC.ph hC.m
end
section
variable {S:VS} {g:LT} {ns:List TN} {fs:List FT} {dn:Key→Nat} {φ:Int→Nat}
theorem eat_append {L:Ents} {z:List UInt8×Nat} {i:Nat} (h:i<L.length):eat (L++[z]) i=eat L i:=by unfold eat;rw[gH,gH,List.getElem?_append_left h]
theorem swapDel_snoc {L:Ents} {z:List UInt8×Nat} {i:Nat} (h:i<L.length):(swapDel L i++[z]).Perm (swapDel (L++[z]) i):=by have h1:=swapDel_perm h;have h2:=swapDel_perm (L:=L++[z]) (i:=i) (by rw[List.length_append];omega);rw[eat_append h]at h2;have h3:(L++[z]).Perm (eat L i::(swapDel L i++[z])):=h1.append_right [z];exact(h3.symm.trans h2).cons_inv
theorem delT_snoc {n0:TN} {K:Key} (h:keyN n0≠K):delT (ns++[n0]) K=delT ns K++[n0]:=by unfold delT;rw[List.filter_append];congr 1;rw[List.filter_cons,if_pos (by simp[h])];rfl
theorem Vt.rename (h:Vt S ns fs g dn φ) {p q:List UInt8} {n:TN} (hv:validL p=true) (hvq:validL q=true) (hn:nodeK ns (splitB p)=some n) (hP:IsDir ns (splitB p).dropLast) (hf:n.file≠ -1)
  (hQ:IsDir ns (splitB q).dropLast) (hno:nodeK ns (splitB q)=none):
  DoneT S (.ok (renameP S (dn (splitB p).dropLast) (baseP p) (dn (splitB q).dropLast) (baseP q) (φ n.file))) (delT ns (splitB p)++[⟨q,n.file,0⟩]) fs∧RenameOk S (dn (splitB p).dropLast) (dn (splitB q).dropLast) p q (φ n.file):=by
 obtain⟨hnm,hnk⟩:=nodeK_some hn;obtain⟨ix,hi,hl,he⟩:=h.entry hn hP;have hbase:(baseP p).length≤15:=by have:=base_short hv;omega
 have hbase2:(baseP q).length≤15:=by have:=base_short hvq;omega
 obtain⟨hd1,hd2⟩:=h.rep.dirI hP;obtain⟨he1,he2⟩:=h.rep.dirI hQ;obtain⟨_,hj1,hj2,_,hj3⟩:=h.rep.file n hnm hf;have hino:inoN dn φ n=φ n.file:=by unfold inoN;rw[if_neg hf]
 have hR1:=h.rep.addName hnm hf hQ hno;rw[hino]at he;obtain⟨d,hd⟩:∃d,d=dn (splitB p).dropLast:=⟨_,rfl⟩;obtain⟨d2,hdd⟩:∃d,d=dn (splitB q).dropLast:=⟨_,rfl⟩;obtain⟨j,hj⟩:∃j,j=φ n.file:=⟨_,rfl⟩;rw[←hd]at hi hl he hd1 hd2;rw[←hdd]at he1 he2;rw[←hj]at he hj1 hj2 hj3;rw[←hdd,←hj]at hR1;rw[←hd,←hdd,←hj];have hjd:j≠d:=fun e=>by rw[e,hd2]at hj2;cases hj2
 have hjd2:j≠d2:=fun e=>by rw[e,he2]at hj2;cases hj2
 have hkey:keyN n=splitB p:=hnk;have hlast:(keyN n).getLastD []=baseP p:=by rw[hkey];rfl
 obtain⟨n0,hn0⟩:∃n0:TN,n0=⟨q,n.file,0⟩:=⟨_,rfl⟩;have hk0:keyN n0=splitB q:=by rw[hn0];rfl
 rw[←hn0]at hR1 ⊢;have hpq:keyN n0≠splitB p:=fun e=>nodeK_none hno n hnm (by rw[hkey,←e,hk0])
 obtain⟨ngA,hgA⟩:∃ngA,ngA=updT (updT g j {g j with links:=(g j).links+1}) d2 ((g d2).more (baseP q) j):=⟨_,rfl⟩;rw[←hgA]at hR1;have hmem:n∈ns++[n0]:=List.mem_append_left _ hnm;have hR2:=hR1.perm (delT_perm hR1.uniq hmem);rw[hnk,delT_snoc hpq]at hR2;have hkids:kidsN (delT ns (splitB p)++[n0]) (keyN n)=[]:=by have:=delT_kids (n:=n) (hR1.file_kids hmem hf);rw[hnk,delT_snoc hpq]at this;rw[hkey];exact this
 have gAd:(ngA d).ents=if d=d2 then(g d).ents++[(baseP q,j)]else(g d).ents:=by
  by_cases e:d=d2
  ·rw[if_pos e,hgA,e,updT_same];rfl
  rw[if_neg e,hgA,updT_ne _ _ e,updT_ne _ _ (fun e2=>hjd e2.symm)]
 have hiA:ix<(ngA d).ents.length:=by
  rw[gAd];split
  ·rw[List.length_append];omega
  exact hi
 have heA:eat (ngA d).ents ix=((keyN n).getLastD [],j):=by
  rw[gAd,hlast];split
  ·rw[eat_append hi,he]
  exact he
 have gAj:ngA j= {g j with links:=(g j).links+1}:=by rw[hgA,updT_ne _ _ hjd2,updT_same]
 have hl3:=hR2.lose (x:= {ngA j with links:=(ngA j).links-1}) (ix:=ix) hkids (.inl ⟨hf,by rw[hino,←hj],n0,by simp,by rw[hn0]⟩) (by rw[hkey,←hd];exact hiA) (by rw[hkey,←hd,hino,←hj,←hkey];exact heA);rw[hkey,←hd,hino,←hj]at hl3
 --the blocks
 obtain⟨g1,hg1⟩:∃g1,g1=updT g d ((g d).less ix):=⟨_,rfl⟩;have hR:Rep (updT g1 d2 ((g1 d2).more (baseP q) j)) S.names (delT ns (splitB p)++[n0]) fs dn φ:=by
  (refine hl3.congr fun m=>?_);by_cases m1:m=j
  ·subst m1;rw[updT_same,updT_ne _ _ hjd2,hg1,updT_ne _ _ hjd,gAj];exact⟨rfl,rfl,rfl,rfl,List.Perm.refl _⟩
  rw[updT_ne _ _ m1];by_cases m2:m=d
  ·subst m2;rw[updT_same];by_cases e:m=d2
   ·subst e;rw[updT_same,hg1,updT_same];(have e9:(ngA m).ents=(g m).ents++[(baseP q,j)]:=by rw[gAd,if_pos rfl]);(have e8:ngA m=(g m).more (baseP q) j:=by rw[hgA,updT_same]);refine⟨by rw[e8];rfl,by rw[e8];rfl,by rw[e8];rfl,by rw[e8];rfl,?_⟩;(show(swapDel (g m).ents ix++[(baseP q,j)]).Perm (swapDel (ngA m).ents ix));rw[e9];exact swapDel_snoc hi
   rw[updT_ne _ _ e,hg1,updT_same];(have e8:ngA m=g m:=by rw[hgA,updT_ne _ _ e,updT_ne _ _ m1]);rw[e8];exact⟨rfl,rfl,rfl,rfl,List.Perm.refl _⟩
  rw[updT_ne _ _ m2];by_cases e:m=d2
  ·subst e;(have e8:ngA m=(g m).more (baseP q) j:=by rw[hgA,updT_same]);rw[updT_same,hg1,updT_ne _ _ m2,e8];exact⟨rfl,rfl,rfl,rfl,List.Perm.refl _⟩
  (have e8:ngA m=g m:=by rw[hgA,updT_ne _ _ e,updT_ne _ _ m1]);rw[updT_ne _ _ e,hg1,updT_ne _ _ m2,e8];exact⟨rfl,rfl,rfl,rfl,List.Perm.refl _⟩
 have hL:=h.vol.ph.leave hd1 hd2 hi hl;have hlv:=h.vol.ph.leaveOk hd1 hd2 hbase hi hl;rw[←hg1]at hL;obtain⟨S1,hS1⟩:∃S1,S1=leaveP S d (baseP p):=⟨_,rfl⟩;have hL1:Like S S1:=by rw[hS1];exact leaveP_like _ _ _
 have hm1:S1.m≤4:=by rw[hS1];have:=h.vol.ph.leave_m (name:=baseP p) hd1 hd2;rw[h.m]at this;omega
 have hF1:Few S.cur S1:=by rw[hS1];exact(Few.refl S).leaveP _ _
 rw[←hS1]at hL;have he1':d2<S1.names:=by rw[hL1.names];exact he1
 have hk1:(g1 d2).kind=1:=by
  rw[hg1];by_cases e:d2=d
  ·rw[e,updT_same];exact hd2
  rw[updT_ne _ _ e];exact he2
 have hsz:(g1 d2).ents.length<448:=by
  have h1:=h.vol.ph.ents_le he1;have h2:=h.vol.few;have h3:(g1 d2).ents.length≤(g d2).ents.length:=by
   rw[hg1];by_cases e:d2=d
   ·rw[e,updT_same];(show(swapDel (g d).ents ix).length≤_);rw[swapDel_len];omega
   rw[updT_ne _ _ e];exact Nat.le_refl _
  omega
 have hj65:j≤65535:=by have:=h.vol.ph.names_le;omega
 have hE:=hL.enter (dir:=d2) (n:=j) (name:=baseP q) he1' hk1 hsz hbase2 hj65;have hlen:(delT ns (splitB p)++[n0]).length≤256:=by have h1:=(delT_perm h.rep.uniq hnm).length_eq;rw[hnk,List.length_cons]at h1;rw[List.length_append,List.length_singleton];have:=h.nodes;have:=h.vol.few;omega
 have hfair:∀k<S.names,(updT g1 d2 ((g1 d2).more (baseP q) j) k).fair:=fun k hk=>by
  by_cases e:k=d2
  ·rw[e,updT_same];exact LI.more_fair (hL.fair d2 he1') hk1 hsz hbase2 hj65
  rw[updT_ne _ _ e];exact hL.fair k (by rw[hL1.names];exact hk)
 have hch:∀T,renameP S d (baseP p) d2 (baseP q) j=some T→Chg S (updT g1 d2 ((g1 d2).more (baseP q) j)) T:=fun T hT=>by unfold renameP at hT;rw[←hS1]at hT;refine⟨hE.1 T hT,hL1.trans (enterP_like hT),?_⟩;have:=hL.enter_m he1' hk1 hT;omega
 refine⟨⟨_,rfl,fun hx=>.inl ?_,fun T hT=>⟨?_,hlen,_,dn,φ,hch T hT,hR⟩⟩,hlv,h.vol.ph.sv,?_,?_,fun T hT=>?_⟩
 ·unfold renameP at hx;rw[←hS1]at hx;have h1:=hE.2 hx;rw[hL1.count,hL1.names]at h1;have h2:=needN_wgh hfair;rw[hR.wB hfair]at h2;rw[h.vol.rB];omega
 ·unfold renameP at hT;rw[←hS1]at hT;exact hF1.enterP hT
 ·rw[←hS1];exact hL.enterOk he1' hk1 hsz hbase2 hj65
 ·rw[←hS1];exact hL.sv
 have:=hch T hT;exact Phys.changeOk ⟨h.vol.rB,h.vol.rI⟩ h.vol.ph.use this.like this.ph this.m
theorem Vt.link (h:Vt S ns fs g dn φ) {q:List UInt8} {n:TN} (hvq:validL q=true) (hnm:n∈ns) (hf:n.file≠ -1) (hQ:IsDir ns (splitB q).dropLast) (hno:nodeK ns (splitB q)=none) (hroom:ns.length<256):
  DoneT S (.ok (linkP S (φ n.file) (dn (splitB q).dropLast) (baseP q))) (ns++[⟨q,n.file,0⟩]) fs∧LinkOk S (dn (splitB q).dropLast) q (φ n.file):=by
 have hbase2:(baseP q).length≤15:=by have:=base_short hvq;omega
 obtain⟨he1,he2⟩:=h.rep.dirI hQ;obtain⟨_,hj1,hj2,_,hj3⟩:=h.rep.file n hnm hf;have hR1:=h.rep.addName hnm hf hQ hno;obtain⟨d2,hdd⟩:∃d,d=dn (splitB q).dropLast:=⟨_,rfl⟩;obtain⟨j,hj⟩:∃j,j=φ n.file:=⟨_,rfl⟩;rw[←hdd]at he1 he2;rw[←hj]at hj1 hj2 hj3;rw[←hdd,←hj]at hR1;rw[←hdd,←hj];have hjd2:d2≠j:=fun e=>by rw[←e,he2]at hj2;cases hj2
 have hfj:=h.vol.ph.fair j hj1;have hlk:(g j).links≤256:=by rw[hj3];have:=List.countP_le_length (p:=fun m:TN=>decide (m.file=n.file)) (l:=ns);omega
 obtain⟨x,hx⟩:∃x:LI,x= {g j with links:=(g j).links+1}:=⟨_,rfl⟩;have hxf:x.fair:=by rw[hx];exact⟨hfj.kind,hfj.ents,hfj.data,hfj.few,hfj.short,hfj.mode,by show(g j).links+1<65536;omega,hfj.names⟩
 have hM:=h.vol.ph.meta hj1 (x:=x) hxf (by rw[hx]) (by rw[hx]) (by rw[hx]);have hhead:=h.vol.ph.head j hj1;have hy:({inoP S.cur j with links:=(inoP S.cur j).links+1}:VI)=x.vi (inoP S.cur j).spots:=by
  rw[hx]
  conv=>lhs;rw[hhead]
  rfl
 have hyl:(inoP S.cur j).links=(g j).links:=by rw[hhead];rfl
 rw[←hy]at hM;obtain⟨S1,hS1⟩:∃S1,S1=S.keep j {inoP S.cur j with links:=(inoP S.cur j).links+1}:=⟨_,rfl⟩;rw[←hS1]at hM;rw[hx]at hM;have hL1:Like S S1:=by rw[hS1];exact(Like.refl S).keep _ _
 have hm1:S1.m=1:=by rw[hS1];show S.m+1=1;rw[h.m]
 have hF1:Few S.cur S1:=by rw[hS1];exact(Few.refl S).keep _ _
 have he1':d2<S1.names:=by rw[hL1.names];exact he1
 have gd:updT g j {g j with links:=(g j).links+1} d2=g d2:=updT_ne _ _ hjd2;have hsz:(g d2).ents.length<448:=by have h1:=h.vol.ph.ents_le he1;have h2:=h.vol.few;omega
 have hj65:j≤65535:=by have:=h.vol.ph.names_le;omega
 have hE:=hM.enter (dir:=d2) (n:=j) (name:=baseP q) he1' (by rw[gd];exact he2) (by rw[gd];exact hsz) hbase2 hj65;rw[gd]at hE;have hfair:∀k<S.names,(updT (updT g j {g j with links:=(g j).links+1}) d2 ((g d2).more (baseP q) j) k).fair:=fun k hk=>by
  by_cases e:k=d2
  ·rw[e,updT_same];exact LI.more_fair (h.vol.ph.fair d2 he1) he2 hsz hbase2 hj65
  rw[updT_ne _ _ e];exact hM.fair k (by rw[hL1.names];exact hk)
 have hch:∀T,linkP S j d2 (baseP q)=some T→Chg S (updT (updT g j {g j with links:=(g j).links+1}) d2 ((g d2).more (baseP q) j)) T:=fun T hT=>by unfold linkP at hT;rw[←hS1]at hT;refine⟨hE.1 T hT,hL1.trans (enterP_like hT),?_⟩;have:=hM.enter_m he1' (by rw[gd];exact he2) hT;omega
 refine⟨⟨_,rfl,fun hx2=>.inl ?_,fun T hT=>⟨?_,by rw[List.length_append,List.length_singleton];omega,_,dn,φ,hch T hT,hR1⟩⟩,by rw[hyl];omega,h.vol.ph.sw,?_,?_,fun T hT=>?_⟩
 ·unfold linkP at hx2;rw[←hS1]at hx2;have h1:=hE.2 hx2;rw[hL1.count,hL1.names]at h1;have h2:=needN_wgh hfair;rw[hR1.wB hfair]at h2;rw[h.vol.rB];omega
 ·unfold linkP at hT;rw[←hS1]at hT;exact hF1.enterP hT
 ·rw[←hS1];exact hM.enterOk he1' (by rw[gd];exact he2) (by rw[gd];exact hsz) hbase2 hj65
 ·rw[←hS1];exact hM.sv
 have:=hch T hT;exact Phys.changeOk ⟨h.vol.rB,h.vol.rI⟩ h.vol.ph.use this.like this.ph this.m
theorem Vt.remode (h:Vt S ns fs g dn φ) {j mode:Nat} (hj:j<S.names) (hm:mode≤511):Chg S (updT g j {g j with mode:=mode}) (chmodP S j mode):=by
 have hfj:=h.vol.ph.fair j hj;have hhead:=h.vol.ph.head j hj;have hxf:({g j with mode:=mode}:LI).fair:=⟨hfj.kind,hfj.ents,hfj.data,hfj.few,hfj.short,by show mode<65536;omega,hfj.links,hfj.names⟩;have hM:=h.vol.ph.meta hj (x:= {g j with mode:=mode}) hxf rfl rfl rfl;have hy:({inoP S.cur j with mode:=mode}:VI)=({g j with mode:=mode}:LI).vi (inoP S.cur j).spots:=by
  conv=>lhs;rw[hhead]
  rfl
 rw[←hy]at hM;exact⟨hM,(Like.refl S).keep _ _,by show S.m+1≤40;rw[h.m];decide⟩
theorem Vt.chmodDir (h:Vt S ns fs g dn φ) {n:TN} {mode:Nat} (hnm:n∈ns) (hf:n.file= -1) (hm:mode≤511):DoneT S (.ok (some (chmodP S (dn (keyN n)) mode))) (⟨n.path, -1,mode⟩::delT ns (keyN n)) fs:=by obtain⟨hj1,_⟩:=h.rep.dir n hnm hf;have hC:=h.remode hj1 hm;have hperm:=delT_perm h.rep.uniq hnm;have hR:=(h.rep.perm hperm).setDir hf (mode:=mode);refine⟨_,rfl,fun e=>(by cases e),fun T hT=>?_⟩;cases hT;refine⟨(Few.refl S).keep _ _,?_,_,dn,φ,hC,hR⟩;have h1:=hperm.length_eq;rw[List.length_cons]at h1 ⊢;have:=h.nodes;have:=h.vol.few;omega
theorem Vt.chmodFile (h:Vt S ns fs g dn φ) {n:TN} {mode:Nat} (hnm:n∈ns) (hf:n.file≠ -1) (hm:mode≤511):DoneT S (.ok (some (chmodP S (φ n.file) mode))) ns (fs.set n.file.toNat ⟨mode,(g (φ n.file)).data⟩):=by obtain⟨_,hj1,_⟩:=h.rep.file n hnm hf;have hC:=h.remode hj1 hm;have hR:=h.rep.setFile hnm hf (mode:=mode) (bs:=(g (φ n.file)).data);refine⟨_,rfl,fun e=>(by cases e),fun T hT=>?_⟩;cases hT;refine⟨(Few.refl S).keep _ _,?_,_,dn,φ,hC,hR⟩;have:=h.nodes;have:=h.vol.few;omega
end
def presT (ns:List TN) (K:Key):Except Int TN:=match atT ns K with
 | .error e=>.error e
 | .ok none=>.error 21
 | .ok (some n)=>.ok n
def filT (ns:List TN) (K:Key):Except Int TN:=match presT ns K with
 | .error e=>.error e
 | .ok n=>if n.file= -1 then .error 24 else .ok n
def vacT (ns:List TN) (K:Key):Int:=match atT ns K with
 | .error e=>e
 | .ok (some _)=>23
 | .ok none=>0
def bytesF (fs:List FT) (k:Int):List UInt8:=((fs[k.toNat]?).map (·.bs)).getD []
section
variable {S:VS} {g:LT} {ns:List TN} {fs:List FT} {dn:Key→Nat} {φ:Int→Nat}
theorem Vt.look_some (h:Vt S ns fs g dn φ) {p:List UInt8} {d m:Nat} (hl:lookP S.cur S.data 0 0 (splitB p)=((d:Int),(m:Int),0)):
  ∃n,atT ns (splitB p)= .ok (some n)∧d=dn (splitB p).dropLast∧m=inoN dn φ n:=by
 have hL:=h.look p;rw[hl]at hL;cases ha:atT ns (splitB p)with
 |error e=>rw[ha]at hL;simp only at hL;have:=atT_err ha;have e1:(0:Int)=e:=congrArg (fun x:Int×Int×Int=>x.2.2) hL;omega
 |ok y=>
  cases y with
  |none=>rw[ha]at hL;simp only at hL;have e1:(m:Int)= -1:=congrArg (fun x:Int×Int×Int=>x.2.1) hL;omega
  |some n=>rw[ha]at hL;simp only at hL;have e1:(d:Int)=dn (splitB p).dropLast:=congrArg (fun x:Int×Int×Int=>x.1) hL;have e2:(m:Int)=inoN dn φ n:=congrArg (fun x:Int×Int×Int=>x.2.1) hL;exact⟨n,rfl,by omega,by omega⟩
theorem Vt.look_none (h:Vt S ns fs g dn φ) {p:List UInt8} {d:Nat} (hl:lookP S.cur S.data 0 0 (splitB p)=((d:Int), -1,0)):
  atT ns (splitB p)= .ok none∧d=dn (splitB p).dropLast:=by
 have hL:=h.look p;rw[hl]at hL;cases ha:atT ns (splitB p)with
 |error e=>rw[ha]at hL;simp only at hL;have e1:(-1:Int)=0:=congrArg (fun x:Int×Int×Int=>x.2.1) hL;omega
 |ok y=>
  cases y with
  |none=>rw[ha]at hL;simp only at hL;have e1:(d:Int)=dn (splitB p).dropLast:=congrArg (fun x:Int×Int×Int=>x.1) hL;exact⟨rfl,by omega⟩
  |some n=>rw[ha]at hL;simp only at hL;have e1:(-1:Int)=inoN dn φ n:=congrArg (fun x:Int×Int×Int=>x.2.1) hL;omega
theorem Vt.kindF (h:Vt S ns fs g dn φ) {n:TN} (hn:n∈ns):(inoP S.cur (inoN dn φ n)).kind=1↔n.file= -1:=by
 obtain⟨hk1,hk2⟩:=h.rep.kindN hn;rw[h.vol.ph.kind hk1];rcases hk2 with⟨h1,h2⟩|⟨h1,h2⟩
 ·exact⟨fun _=>h1,fun _=>h2⟩
 exact⟨fun e=>(by rw[h2]at e;cases e),fun e=>absurd e h1⟩
theorem Vt.something (h:Vt S ns fs g dn φ) (p:List UInt8):somethingE (lookP S.cur S.data 0 0 (splitB p))=match presT ns (splitB p)with| .error e=>some e| .ok _=>none:=by
 have hL:=h.look p;unfold presT;cases ha:atT ns (splitB p)with
 |error e=>rw[ha]at hL;simp only at hL;have:=atT_err ha;rw[hL];unfold somethingE;simp only;rw[if_neg (by omega)]
 |ok y=>
  cases y with
  |none=>rw[ha]at hL;simp only at hL;rw[hL];rfl
  |some n=>rw[ha]at hL;simp only at hL;rw[hL];unfold somethingE;simp only;rw[if_pos trivial,if_neg (by omega)]
theorem Vt.fileOf (h:Vt S ns fs g dn φ) (p:List UInt8):fileE S.cur (lookP S.cur S.data 0 0 (splitB p))=match filT ns (splitB p)with| .error e=>some e| .ok _=>none:=by
 have hL:=h.look p;unfold filT presT;cases ha:atT ns (splitB p)with
 |error e=>rw[ha]at hL;simp only at hL;have:=atT_err ha;rw[hL];unfold fileE;simp only;rw[if_neg (by omega)]
 |ok y=>
  cases y with
  |none=>rw[ha]at hL;simp only at hL;rw[hL];rfl
  |some n=>
   rw[ha]at hL;simp only at hL;obtain⟨_,hno,_⟩:=atT_dir (S:=S) h.rep ha;have hk:=h.kindF (nodeK_some hno.symm).1;rw[hL];unfold fileE;simp only;rw[if_pos trivial,if_neg (by omega),Int.toNat_natCast];by_cases hf:n.file= -1
   ·rw[if_pos (hk.2 hf),if_pos hf]
   rw[if_neg (fun e=>hf (hk.1 e)),if_neg hf]
theorem Vt.nothing (h:Vt S ns fs g dn φ) (p:List UInt8):nothingE (lookP S.cur S.data 0 0 (splitB p))=if vacT ns (splitB p)=0 then none else some (vacT ns (splitB p)):=by
 have hL:=h.look p;unfold vacT;cases ha:atT ns (splitB p)with
 |error e=>rw[ha]at hL;simp only at hL;have:=atT_err ha;rw[hL];unfold nothingE;simp only;rw[if_neg (by omega),if_neg (by omega)]
 |ok y=>
  cases y with
  |none=>rw[ha]at hL;simp only at hL;rw[hL];rfl
  |some n=>rw[ha]at hL;simp only at hL;rw[hL];unfold nothingE;simp only;rw[if_pos trivial,if_neg (by omega)];rfl
end
end Go.Proofs.YteihmbaimbogaaaGreat
