/- FvJ, FvO, FvM, laid together. -/
import Derived.Test.YteihmbaimbogaaaGreatJ31
namespace Go.Proofs.YteihmbaimbogaaaGreat
set_option linter.unusedVariables false
set_option linter.unusedSimpArgs false
section
variable {g:LT} {nm:Nat} {ns:List TN} {fs:List FT} {dn:Key→Nat} {φ:Int→Nat}
theorem MW (n:TN) (K:Key):fU (ns++[n]) K=fU ns K++(if(bK n).dropLast=K then [n]else []):=by
 unfold fU;rw[List.filter_append];congr 1;by_cases e:(bK n).dropLast=K
 ·rw[if_pos e];simp[e]
 rw[if_neg e];simp[e]
theorem fH.snoc {K:Key} (h:fH ns K) (n:TN):fH (ns++[n]) K:=by
 rcases h with h|⟨m,hm,h⟩
 ·exact .inl h
 exact .inr ⟨m,List.mem_append_left _ hm,h⟩
theorem mI.SV (h:mI g nm ns fs dn φ) {K:Key} (hK:fH ns K):dn K<nm∧(g (dn K)).kind=1:=by
 rcases hK with e|⟨n,hn,e,hf⟩
 ·rw[e,h.root];exact⟨h.n0,h.rk⟩
 have:=h.dir n hn hf;rw[e]at this;exact⟨this.1,this.2.1⟩
theorem mI.O5 (h:mI g nm ns fs dn φ) {K L:Key} (hK:fH ns K) (hL:fH ns L) (e:dn K=dn L):K=L:=by
 have key:∀n∈ns,n.file= -1→dJ dn φ n=dn (bK n):=fun n _ hf=>by unfold dJ;rw[if_pos hf]
 rcases hK with e1|⟨n,hn,e1,hf1⟩
 ·rcases hL with e2|⟨m,hm,e2,hf2⟩
  ·rw[e1,e2]
  have:=h.ne0 m hm;rw[key m hm hf2,e2,←e,e1,h.root]at this;exact absurd rfl this
 rcases hL with e2|⟨m,hm,e2,hf2⟩
 ·have:=h.ne0 n hn;rw[key n hn hf1,e1,e,e2,h.root]at this;exact absurd rfl this
 rcases h.inj n hn m hm (by rw[key n hn hf1,key m hm hf2,e1,e2,e])with h1|h1
 ·rw[←e1,←e2,h1]
 exact absurd hf1 h1.1
theorem mI.I8 (h:mI g nm ns fs dn φ) {n:TN} (hn:n∈ns):dJ dn φ n<nm∧((n.file= -1∧(g (dJ dn φ n)).kind=1)∨(n.file≠ -1∧(g (dJ dn φ n)).kind=2)):=by
 unfold dJ;by_cases hf:n.file= -1
 ·rw[if_pos hf];exact⟨(h.dir n hn hf).1,.inl ⟨hf,(h.dir n hn hf).2.1⟩⟩
 rw[if_neg hf];exact⟨(h.file n hn hf).2.1,.inr ⟨hf,(h.file n hn hf).2.2.1⟩⟩
theorem mI.afN (h:mI g nm ns fs dn φ) {n:TN} (hn:n∈ns) (hf:n.file≠ -1):0≤n.file∧n.file<fs.length:=by obtain⟨h1,_,_,⟨f,h2,_⟩,_⟩:=h.file n hn hf;have:=(gF.1 h2).1;omega
theorem yQ {K:Key} (h:gW ns K=none):∀n∈ns,bK n≠K:=fun n hn e=>by have:=List.find?_eq_none.1 h n hn;simp[e]at this
theorem mI.ajZ (h:mI g nm ns fs dn φ) {K:Key} (hK:K≠[]) (hno:gW ns K=none):fU ns K=[]:=by
 unfold fU;rw[List.filter_eq_nil_iff];intro n hn hk;have e:(bK n).dropLast=K:=by simpa using hk
 rcases h.up n hn with h1|⟨m,hm,h1,_⟩
 ·exact hK (by rw[←e,h1])
 exact yQ hno m hm (by rw[h1,e])
theorem EC {K:Key} (hK:K≠[]):K.dropLast≠K:=fun e=>by have:=congrArg List.length e;rw[List.length_dropLast]at this;have:0<K.length:=List.length_pos_iff.2 hK;omega
theorem mI.O6 (h:mI g nm ns fs dn φ) {p:List UInt8} {i mode:Nat} {bs:List UInt8} (hi:i<nm) (h0:(g i).kind=0) (hP:fH ns (splitB p).dropLast) (hno:gW ns (splitB p)=none):
  mI (dO (dO g i ⟨2,mode,1,[],bs⟩) (dn (splitB p).dropLast) ((g (dn (splitB p).dropLast)).more (aR p) i)) nm (ns++[⟨p,fs.length,0⟩]) (fs++[⟨mode,bs⟩]) dn (fun k:Int=>if k=(fs.length:Int)then i else φ k):=by
 obtain⟨P,WL⟩:∃P,P=(splitB p).dropLast:=⟨_,rfl⟩;rw[←WL]at hP ⊢;obtain⟨hd1,hd2⟩:=h.SV hP;obtain⟨d,hd⟩:∃d,d=dn P:=⟨_,rfl⟩;rw[←hd]at hd1 hd2 ⊢;obtain⟨n0,hn0⟩:∃n0:TN,n0=⟨p,fs.length,0⟩:=⟨_,rfl⟩;have hk0:bK n0=splitB p:=by rw[hn0];rfl
 have hf0:n0.file=fs.length:=by rw[hn0]
 have hne1:n0.file≠ -1:=by rw[hf0];omega
 rw[←hn0];obtain⟨ψ,hψ⟩:∃ψ:Int→Nat,ψ=fun k:Int=>if k=(fs.length:Int)then i else φ k:=⟨_,rfl⟩
 rw[←hψ];obtain⟨g',hg'⟩:∃g',g'=dO (dO g i ⟨2,mode,1,[],bs⟩) d ((g d).more (aR p) i):=⟨_,rfl⟩;rw[←hg'];have hid:i≠d:=fun e=>by rw[e,hd2]at h0;cases h0
 have hi0:i≠0:=fun e=>by rw[e,h.rk]at h0;cases h0
 have gd:g' d=(g d).more (aR p) i:=by rw[hg',dQ]
 have gi:g' i=⟨2,mode,1,[],bs⟩:=by rw[hg',eU _ _ hid,dQ]
 have go:∀m,m≠d→m≠i→g' m=g m:=fun m h1 h2=>by rw[hg',eU _ _ h1,eU _ _ h2]
 have gk:∀m,m≠i→(g' m).kind=(g m).kind∧(g' m).mode=(g m).mode∧(g' m).links=(g m).links∧(g' m).data=(g m).data:=fun m h2=>by
  by_cases h1:m=d
  ·rw[h1,gd];exact⟨rfl,rfl,rfl,rfl⟩
  rw[go m h1 h2];exact⟨rfl,rfl,rfl,rfl⟩
 have ψo:∀n∈ns,n.file≠ -1→ψ n.file=φ n.file:=fun n hn hf=>by rw[hψ];exact if_neg (by have:=(h.afN hn hf).2;omega)
 have io:∀n∈ns,dJ dn ψ n=dJ dn φ n:=fun n hn=>by
  unfold dJ;by_cases hf:n.file= -1
  ·rw[if_pos hf,if_pos hf]
  rw[if_neg hf,if_neg hf,ψo n hn hf]
 have i0:dJ dn ψ n0=i:=by unfold dJ;rw[if_neg hne1,hψ];exact if_pos hf0
 have ni:∀n∈ns,dJ dn φ n≠i:=fun n hn e=>by rcases(h.I8 hn).2 with⟨_,h1⟩|⟨_,h1⟩<;>rw[e,h0]at h1<;>cases h1
 have dni:∀K,fH ns K→dn K≠i:=fun K hK e=>by have:=(h.SV hK).2;rw[e,h0]at this;cases this
 have abE:=yQ hno;have SY:∀K,fH (ns++[n0]) K→fH ns K:=fun K hK=>by
  rcases hK with e|⟨n,hn,e,hf⟩
  ·exact .inl e
  rcases List.mem_append.1 hn with hn|hn
  ·exact .inr ⟨n,hn,e,hf⟩
  rw[List.mem_singleton]at hn;rw[hn]at hf;exact absurd hf hne1
 have mem:∀n∈ns++[n0],n∈ns∨n=n0:=fun n hn=>by simpa using hn
 have hnot:∀n∈ns,n.file≠n0.file:=fun n hn e=>by
  by_cases hf:n.file= -1
  ·rw[hf]at e;exact hne1 e.symm
  have:=(h.afN hn hf).2;omega
 refine⟨h.n0,h.root,?_,?_,?_,?_,?_,?_,?_,?_,?_⟩
 ·rw[(gk 0 (fun e=>hi0 e.symm)).1];exact h.rk
 ·rw[List.map_append,List.map_singleton,List.nodup_append];refine⟨h.uniq,by simp,fun a ha b hb e=>?_⟩;obtain⟨n,hn,e1⟩:=List.mem_map.1 ha;rw[List.mem_singleton]at hb;exact abE n hn (by rw[e1,e,hb,hk0])
 ·intro n hn;rcases mem n hn with hn|en
  ·exact(h.up n hn).snoc _
  (try rw[en]at hf);(try rw[en]at e);(try rw[en]);rw[hk0,←WL];exact hP.snoc _
 ·intro n hn hf;rcases mem n hn with hn|en
  ·have h1:=h.dir n hn hf;have h2:=gk (dn (bK n)) (dni _ (.inr ⟨n,hn,rfl,hf⟩));rw[h2.1,h2.2.1,h2.2.2.1];exact h1
  (try rw[en]at hf);(try rw[en]at e);(try rw[en]);exact absurd hf hne1
 ·intro n hn hf;rcases mem n hn with hn|en
  ·obtain⟨h1,h2,h3,⟨f,h4,h5,h6⟩,h7⟩:=h.file n hn hf;have h8:=gk (φ n.file) (fun e=>by rw[e,h0]at h3;cases h3);rw[ψo n hn hf,h8.1,h8.2.1,h8.2.2.1,h8.2.2.2];refine⟨h1,h2,h3,⟨f,?_,h5,h6⟩,?_⟩
   ·rw[List.getElem?_append_left (gF.1 h4).1];exact h4
   rw[h7,List.countP_append];(have e1:[n0].countP (fun m=>decide (m.file=n.file))=0:=by rw[List.countP_cons,List.countP_nil];simp only[decide_eq_true_eq,if_neg (fun e:n0.file=n.file=>hnot n hn e.symm)]);rw[e1];rfl
  (try rw[en]at hf);(try rw[en]at e);(try rw[en]);(have e1:ψ n0.file=i:=by rw[hψ];exact if_pos hf0);rw[e1,gi];refine⟨by rw[hf0];omega,hi,rfl,⟨⟨mode,bs⟩,?_,rfl,rfl⟩,?_⟩
  ·rw[hf0,Int.toNat_natCast,List.getElem?_append_right (Nat.le_refl _),Nat.sub_self];rfl
  rw[List.countP_append];(have e2:ns.countP (fun m=>decide (m.file=n0.file))=0:=by rw[List.countP_eq_zero];intro m hm;simp[hnot m hm]);rw[e2,List.countP_cons,List.countP_nil];simp
 ·intro n hn;rcases mem n hn with hn|en
  ·rw[io n hn];exact h.ne0 n hn
  (try rw[en]at hf);(try rw[en]at e);(try rw[en]);rw[i0];exact hi0
 ·intro n hn m hm e;rcases mem n hn with hn|en
  ·rcases mem m hm with hm|em
   ·rw[io n hn,io m hm]at e;exact h.inj n hn m hm e
   (try rw[em]at hf);(try rw[em]at e);(try rw[em]);rw[io n hn,i0]at e;exact absurd e (ni n hn)
  (try rw[en]at hf);(try rw[en]at e);(try rw[en]);rcases mem m hm with hm|em
  ·rw[io m hm,i0]at e;exact absurd e.symm (ni m hm)
  (try rw[em]at hf);(try rw[em]at e);(try rw[em]);exact .inl rfl
 ·intro m hm hk;by_cases e:m=i
  ·exact .inr ⟨n0,by simp,by rw[i0,e]⟩
  rw[(gk m e).1]at hk;rcases h.cover m hm hk with h1|⟨n,hn,h1⟩
  ·exact .inl h1
  exact .inr ⟨n,List.mem_append_left _ hn,by rw[io n hn,h1]⟩
 intro K hK;have hK':=SY K hK;rw[MW,List.map_append];have e1:(fU ns K).map (fun n=>((bK n).getLastD [],dJ dn ψ n))=(fU ns K).map fun n=>((bK n).getLastD [],dJ dn φ n):=
  List.map_congr_left fun n hn=>by rw[io n (List.mem_filter.1 hn).1]
 rw[e1];have hE:=h.aY K hK';by_cases e:P=K
 ·subst e;rw[if_pos (by rw[hk0];exact WL.symm),←hd,gd];(show((g d).aY++[(aR p,i)]).Perm _);rw[←hd]at hE;refine hE.append ?_;rw[List.map_singleton,i0,hk0];exact List.Perm.refl _
 rw[if_neg (by rw[hk0,←WL];exact e),List.map_nil,List.append_nil,go _ (fun e2=>e ?_) (dni K hK')]
 ·exact hE
 exact(h.O5 hK' hP (by rw[e2,hd])).symm
theorem mI.anN (h:mI g nm ns fs dn φ) {p:List UInt8} {i mode:Nat} (hi:i<nm) (h0:(g i).kind=0) (hP:fH ns (splitB p).dropLast) (hno:gW ns (splitB p)=none):
  mI (dO (dO g i ⟨1,mode,1,[],[]⟩) (dn (splitB p).dropLast) ((g (dn (splitB p).dropLast)).more (aR p) i)) nm (ns++[⟨p, -1,mode⟩]) fs (fun K=>if K=splitB p then i else dn K) φ:=by
 have hpn:splitB p≠[]:=fQ p;obtain⟨P,WL⟩:∃P,P=(splitB p).dropLast:=⟨_,rfl⟩;rw[←WL]at hP ⊢;obtain⟨hd1,hd2⟩:=h.SV hP;obtain⟨d,hd⟩:∃d,d=dn P:=⟨_,rfl⟩;rw[←hd]at hd1 hd2 ⊢;obtain⟨n0,hn0⟩:∃n0:TN,n0=⟨p, -1,mode⟩:=⟨_,rfl⟩;have hk0:bK n0=splitB p:=by rw[hn0];rfl
 have hf0:n0.file= -1:=by rw[hn0]
 rw[←hn0];obtain⟨dm,hdm⟩:∃dm:Key→Nat,dm=fun K=>if K=splitB p then i else dn K:=⟨_,rfl⟩
 rw[←hdm];obtain⟨g',hg'⟩:∃g',g'=dO (dO g i ⟨1,mode,1,[],[]⟩) d ((g d).more (aR p) i):=⟨_,rfl⟩;rw[←hg'];have hid:i≠d:=fun e=>by rw[e,hd2]at h0;cases h0
 have hi0:i≠0:=fun e=>by rw[e,h.rk]at h0;cases h0
 have gd:g' d=(g d).more (aR p) i:=by rw[hg',dQ]
 have gi:g' i=⟨1,mode,1,[],[]⟩:=by rw[hg',eU _ _ hid,dQ]
 have go:∀m,m≠d→m≠i→g' m=g m:=fun m h1 h2=>by rw[hg',eU _ _ h1,eU _ _ h2]
 have gk:∀m,m≠i→(g' m).kind=(g m).kind∧(g' m).mode=(g m).mode∧(g' m).links=(g m).links∧(g' m).data=(g m).data:=fun m h2=>by
  by_cases h1:m=d
  ·rw[h1,gd];exact⟨rfl,rfl,rfl,rfl⟩
  rw[go m h1 h2];exact⟨rfl,rfl,rfl,rfl⟩
 have abE:=yQ hno;have dmo:∀K,K≠splitB p→dm K=dn K:=fun K hK=>by rw[hdm];exact if_neg hK
 have dm0:dm (splitB p)=i:=by rw[hdm];exact if_pos rfl
 have awU:∀K,fH ns K→K≠splitB p:=fun K hK e=>by
  rcases hK with e1|⟨n,hn,e1,_⟩
  ·exact hpn (by rw[←e,e1])
  exact abE n hn (by rw[e1,e])
 have io:∀n∈ns,dJ dm φ n=dJ dn φ n:=fun n hn=>by unfold dJ;rw[dmo _ (abE n hn)]
 have i0:dJ dm φ n0=i:=by unfold dJ;rw[if_pos hf0,hk0,dm0]
 have ni:∀n∈ns,dJ dn φ n≠i:=fun n hn e=>by rcases(h.I8 hn).2 with⟨_,h1⟩|⟨_,h1⟩<;>rw[e,h0]at h1<;>cases h1
 have dni:∀K,fH ns K→dn K≠i:=fun K hK e=>by have:=(h.SV hK).2;rw[e,h0]at this;cases this
 have SY:∀K,fH (ns++[n0]) K→fH ns K∨K=splitB p:=fun K hK=>by
  rcases hK with e|⟨n,hn,e,hf⟩
  ·exact .inl (.inl e)
  rcases List.mem_append.1 hn with hn|hn
  ·exact .inl (.inr ⟨n,hn,e,hf⟩)
  rw[List.mem_singleton]at hn;rw[hn,hk0]at e;exact .inr e.symm
 have mem:∀n∈ns++[n0],n∈ns∨n=n0:=fun n hn=>by simpa using hn
 refine⟨h.n0,by rw[dmo _ (fun e=>hpn e.symm)];exact h.root,?_,?_,?_,?_,?_,?_,?_,?_,?_⟩
 ·rw[(gk 0 (fun e=>hi0 e.symm)).1];exact h.rk
 ·rw[List.map_append,List.map_singleton,List.nodup_append];refine⟨h.uniq,by simp,fun a ha b hb e=>?_⟩;obtain⟨n,hn,e1⟩:=List.mem_map.1 ha;rw[List.mem_singleton]at hb;exact abE n hn (by rw[e1,e,hb,hk0])
 ·intro n hn;rcases mem n hn with hn|en
  ·exact(h.up n hn).snoc _
  (try rw[en]at hf);(try rw[en]at e);(try rw[en]);rw[hk0,←WL];exact hP.snoc _
 ·intro n hn hf;rcases mem n hn with hn|en
  ·have h1:=h.dir n hn hf;have h2:=gk (dn (bK n)) (dni _ (.inr ⟨n,hn,rfl,hf⟩));rw[dmo _ (abE n hn),h2.1,h2.2.1,h2.2.2.1];exact h1
  (try rw[en]at hf);(try rw[en]at e);(try rw[en]);rw[hk0,dm0,gi];exact⟨hi,rfl,by rw[hn0],rfl⟩
 ·intro n hn hf;rcases mem n hn with hn|en
  ·obtain⟨h1,h2,h3,h4,h7⟩:=h.file n hn hf;have h8:=gk (φ n.file) (fun e=>by rw[e,h0]at h3;cases h3);rw[h8.1,h8.2.1,h8.2.2.1,h8.2.2.2];refine⟨h1,h2,h3,h4,?_⟩;rw[h7,List.countP_append];(have e1:[n0].countP (fun m=>decide (m.file=n.file))=0:=by rw[List.countP_cons,List.countP_nil];simp only[decide_eq_true_eq,if_neg (fun e:n0.file=n.file=>hf (by rw[←e,hf0]))]);rw[e1];rfl
  (try rw[en]at hf);(try rw[en]at e);(try rw[en]);exact absurd hf0 hf
 ·intro n hn;rcases mem n hn with hn|en
  ·rw[io n hn];exact h.ne0 n hn
  (try rw[en]at hf);(try rw[en]at e);(try rw[en]);rw[i0];exact hi0
 ·intro n hn m hm e;rcases mem n hn with hn|en
  ·rcases mem m hm with hm|em
   ·rw[io n hn,io m hm]at e;exact h.inj n hn m hm e
   (try rw[em]at hf);(try rw[em]at e);(try rw[em]);rw[io n hn,i0]at e;exact absurd e (ni n hn)
  (try rw[en]at hf);(try rw[en]at e);(try rw[en]);rcases mem m hm with hm|em
  ·rw[io m hm,i0]at e;exact absurd e.symm (ni m hm)
  (try rw[em]at hf);(try rw[em]at e);(try rw[em]);exact .inl rfl
 ·intro m hm hk;by_cases e:m=i
  ·exact .inr ⟨n0,by simp,by rw[i0,e]⟩
  rw[(gk m e).1]at hk;rcases h.cover m hm hk with h1|⟨n,hn,h1⟩
  ·exact .inl h1
  exact .inr ⟨n,List.mem_append_left _ hn,by rw[io n hn,h1]⟩
 intro K hK;rw[MW,List.map_append];have e1:(fU ns K).map (fun n=>((bK n).getLastD [],dJ dm φ n))=(fU ns K).map fun n=>((bK n).getLastD [],dJ dn φ n):=
  List.map_congr_left fun n hn=>by rw[io n (List.mem_filter.1 hn).1]
 rw[e1];rcases SY K hK with hK'|hK'
 ·have hE:=h.aY K hK';rw[dmo K (awU K hK')];by_cases e:P=K
  ·subst e;rw[if_pos (by rw[hk0];exact WL.symm),←hd,gd];(show((g d).aY++[(aR p,i)]).Perm _);rw[←hd]at hE;refine hE.append ?_;rw[List.map_singleton,i0,hk0];exact List.Perm.refl _
  rw[if_neg (by rw[hk0,←WL];exact e),List.map_nil,List.append_nil,go _ (fun e2=>e ?_) (dni K hK')]
  ·exact hE
  exact(h.O5 hK' hP (by rw[e2,hd])).symm
 rw[hK',dm0,gi,h.ajZ hpn hno,if_neg (by rw[hk0];exact EC hpn)];exact List.Perm.nil
end
theorem xB {F:Nat→Int} {n:Nat} (h:∀i<n,F i=0):pO F n=0:=by
 induction n with
 |zero=>rfl
 |succ n ih=>rw[lQ,ih fun i hi=>h i (by omega),h n (by omega)];rfl
theorem ED :∀ {l:List Nat} {F:Nat→Int} {n:Nat},l.Nodup→(∀i∈l,i<n)→(∀i<n,F i≠0→i∈l)→pO F n=(l.map F).sum
 |[],F,n,_,_,hc=>xB fun i hi=>Classical.byContradiction fun h=>by cases hc i hi h
 |a::t,F,n,hu,hl,hc=>by
  rw[List.nodup_cons]at hu;have ha:a<n:=hl a List.mem_cons_self;have h1:=ED (l:=t) (F:=fun i=>if i=a then 0 else F i) (n:=n) hu.2 (fun i hi=>hl i (List.mem_cons_of_mem _ hi)) fun i hi hne=>by
   by_cases e:i=a
   ·simp only[e,if_true]at hne;exact absurd rfl hne
   simp only[if_neg e]at hne;rcases List.mem_cons.1 (hc i hi hne)with h|h
   ·exact absurd h e
   exact h
  (have h2:=vM (f:=F) (g:=fun i=>if i=a then 0 else F i) ha fun i _ hne=>if_neg hne);(have h3:t.map (fun i=>if i=a then 0 else F i)=t.map F:=List.map_congr_left fun i hi=>if_neg fun e=>hu.1 (by rw[←e];exact hi));rw[h1,h3]at h2;simp only[if_true]at h2;rw[List.map_cons,List.sum_cons];omega
def eF :List TN→List Int
 |[]=>[]
 |n::t=>if n.file= -1∨n.file∈eF t then eF t else n.file::eF t
theorem jO :∀ {ns:List TN} {k:Int},k∈eF ns↔k≠ -1∧∃n∈ns,n.file=k
 |[],k=>by simp[eF]
 |n::t,k=>by
  unfold eF;by_cases h:n.file= -1∨n.file∈eF t
  ·rw[if_pos h,jO];constructor
   ·rintro⟨h1,m,hm,e⟩;exact⟨h1,m,List.mem_cons_of_mem _ hm,e⟩
   rintro⟨h1,m,hm,e⟩;refine⟨h1,?_⟩;rcases List.mem_cons.1 hm with e2|hm
   ·rw[e2]at e;rcases h with h|h
    ·exact absurd (e.symm.trans h) h1
    rw[e]at h;exact(jO.1 h).2
   exact⟨m,hm,e⟩
  rw[if_neg h,List.mem_cons,jO];constructor
  ·rintro(h1|⟨h1,m,hm,e⟩)
   ·rw[h1];exact⟨fun e=>h (.inl e),n,List.mem_cons_self,rfl⟩
   exact⟨h1,m,List.mem_cons_of_mem _ hm,e⟩
  rintro⟨h1,m,hm,e⟩;rcases List.mem_cons.1 hm with e2|hm
  ·rw[e2]at e;exact .inl e.symm
  exact .inr ⟨h1,m,hm,e⟩
theorem oL :∀(ns:List TN),(eF ns).Nodup
 |[]=>List.nodup_nil
 |n::t=>by
  unfold eF;split
  ·exact oL t
  rename_i h;rw[not_or]at h;exact List.nodup_cons.2 ⟨h.2,oL t⟩
def lV (ns:List TN):List TN:=ns.filter fun n=>decide (n.file= -1)
theorem fT {ns:List TN} {n:TN}:n∈lV ns↔n∈ns∧n.file= -1:=by unfold lV;rw[List.mem_filter,decide_eq_true_eq]
section
variable {g:LT} {nm:Nat} {ns:List TN} {fs:List FT} {dn:Key→Nat} {φ:Int→Nat}
theorem mI.aj1 (h:mI g nm ns fs dn φ) {n m:TN} (hn:n∈ns) (hm:m∈ns) (hf:n.file≠ -1) (hg:m.file≠ -1) (e:φ n.file=φ m.file):n.file=m.file:=by
 rcases h.inj n hn m hm (by unfold dJ;rw[if_neg hf,if_neg hg,e])with h1|h1
 ·rw[h1]
 exact h1.2
def I9 (ns:List TN) (dn:Key→Nat) (φ:Int→Nat):List Nat:=(0::(lV ns).map fun n=>dn (bK n))++(eF ns).map φ
theorem mI.awV (h:mI g nm ns fs dn φ):(I9 ns dn φ).Nodup∧(∀i∈I9 ns dn φ,i<nm)∧∀i<nm,(g i).kind≠0→i∈I9 ns dn φ:=by
 have key:∀n∈lV ns,dJ dn φ n=dn (bK n):=fun n hn=>by unfold dJ;rw[if_pos (fT.1 hn).2]
 have kd:∀n∈lV ns,(g (dn (bK n))).kind=1:=fun n hn=>(h.dir n (fT.1 hn).1 (fT.1 hn).2).2.1
 have kf:∀k∈eF ns,(g (φ k)).kind=2∧φ k<nm:=fun k hk=>by obtain⟨h1,n,hn,e⟩:=jO.1 hk;rw[←e]at h1 ⊢;exact⟨(h.file n hn h1).2.2.1,(h.file n hn h1).2.1⟩
 refine⟨?_,?_,?_⟩
 ·unfold I9;rw[List.nodup_append];refine⟨?_,?_,?_⟩
  ·rw[List.nodup_cons];constructor
   ·intro h0;obtain⟨n,hn,e⟩:=List.mem_map.1 h0;refine h.ne0 n (fT.1 hn).1 ?_;rw[key n hn];exact e
   have hu:((lV ns).map bK).Nodup:=h.uniq.sublist (List.Sublist.map _ List.filter_sublist);rw[List.nodup_iff_pairwise_ne,List.pairwise_map]at hu ⊢;refine List.Pairwise.imp_of_mem (fun {a b} ha hb hab e=>hab ?_) hu;exact h.O5 (.inr ⟨a,(fT.1 ha).1,rfl,(fT.1 ha).2⟩) (.inr ⟨b,(fT.1 hb).1,rfl,(fT.1 hb).2⟩) e
  ·have hu:=oL ns;rw[List.nodup_iff_pairwise_ne]at hu ⊢;rw[List.pairwise_map];refine List.Pairwise.imp_of_mem (fun {a b} ha hb hab e=>hab ?_) hu;obtain⟨h1,n,hn,e1⟩:=jO.1 ha;obtain⟨h2,m,hm,e2⟩:=jO.1 hb;rw[←e1]at h1 e ⊢;rw[←e2]at h2 e ⊢;exact h.aj1 hn hm h1 h2 e
  intro a ha b hb e;obtain⟨k,hk,e1⟩:=List.mem_map.1 hb;have hb2:=(kf k hk).1;rw[e1,←e]at hb2;rcases List.mem_cons.1 ha with e2|ha
  ·rw[e2,h.rk]at hb2;cases hb2
  obtain⟨n,hn,e3⟩:=List.mem_map.1 ha;have:=kd n hn;have e3':dn (bK n)=a:=e3;rw[e3',hb2]at this;cases this
 ·intro i hi;unfold I9 at hi;rcases List.mem_append.1 hi with hi|hi
  ·rcases List.mem_cons.1 hi with e|hi
   ·rw[e];exact h.n0
   obtain⟨n,hn,e⟩:=List.mem_map.1 hi;rw[←e];exact(h.dir n (fT.1 hn).1 (fT.1 hn).2).1
  obtain⟨k,hk,e⟩:=List.mem_map.1 hi;rw[←e];exact(kf k hk).2
 intro i hi hk;unfold I9;rw[List.mem_append,List.mem_cons];rcases h.cover i hi hk with e|⟨n,hn,e⟩
 ·exact .inl (.inl e)
 unfold dJ at e;by_cases hf:n.file= -1
 ·rw[if_pos hf]at e;exact .inl (.inr (List.mem_map.2 ⟨n,fT.2 ⟨hn,hf⟩,e⟩))
 rw[if_neg hf]at e;exact .inr (List.mem_map.2 ⟨n.file,jO.2 ⟨hf,n,hn,rfl⟩,e⟩)
theorem mI.sum (h:mI g nm ns fs dn φ) (G:LI→Int) (hG:∀x:LI,x.kind=0→G x=0) (hfair:∀i<nm,(g i).fair):
  pO (fun i=>G (g i)) nm=G (g 0)+((lV ns).map fun n=>G (g (dn (bK n)))).sum+((eF ns).map fun k=>G (g (φ k))).sum:=by
 obtain⟨h1,h2,h3⟩:=h.awV;rw[ED (F:=fun i=>G (g i)) h1 h2 fun i hi hne=>h3 i hi fun e=>hne (hG _ e)];unfold I9;rw[List.map_append,List.sum_append,List.map_cons,List.sum_cons,List.map_map,List.map_map];rfl
end
theorem WM {S S1:VS} {n:Nat} {bs:List UInt8} (h:j5 S n bs=some S1):dY S S1:=by
 unfold j5 at h;split at h
 ·cases h
 rename_i S2 l h1;cases h;exact((mW h1).trans (mX bs l 0 S2).like).keep n _
structure Chg (S:VS) (g':LT) (S1:VS):Prop where
 ph:bI S1 g'
 like:dY S S1
 m:S1.m≤40
def kZ (kind mode:Nat) (bs:List UInt8):LI:=⟨kind,mode,1,[],bs⟩
theorem WN {kind mode:Nat} {bs:List UInt8} (hk:kind=1∧bs=[]∨kind=2) (hm:mode<65536) (hb:bs.length≤8192):(kZ kind mode bs).fair:=
 ⟨by show kind≤2;omega,fun _=>rfl,fun h=>by rcases hk with hk|hk;exact hk.2;exact absurd hk h,by show 0≤448;omega,hb,hm,by show 1<65536;omega,fun e he=>by cases he⟩
section
variable {S:VS} {g:LT}
theorem bI.xC (h:bI S g) {n:Nat} (hn:jQ S.cur S.names=some n):n<S.names∧(g n).kind=0:=by have h1:=IK hn;refine⟨h1,?_⟩;have h2:=List.find?_some hn;rw[h.kind h1]at h2;simpa using h2
theorem bI.abF (h:bI S g) (hn:jQ S.cur S.names=none):∀i<S.names,(g i).kind≠0:=fun i hi e=>by have:=List.find?_eq_none.1 hn i (List.mem_range.2 hi);rw[h.kind hi,e]at this;exact this rfl
theorem bI.S9 (h:bI S g) (hm0:S.m=0) {dir n mode:Nat} {name bs:List UInt8} (hd:dir<S.names) (hk:(g dir).kind=1) (hsz:(g dir).aY.length<448) (hname:name.length≤15) (hmode:mode<65536) (hbs:bs.length≤8192)
  (hn:jQ S.cur S.names=some n):
  (∀S1,jW S n (⟨2,mode,1,0,[]⟩:VI) bs dir name=some S1→Chg S (dO (dO g n (kZ 2 mode bs)) dir ((g dir).more name n)) S1)∧
  (jW S n (⟨2,mode,1,0,[]⟩:VI) bs dir name=none→S.count<lS (dO (dO g n (kZ 2 mode bs)) dir ((g dir).more name n)) S.names)∧
  (oF (S.keep n (⟨2,mode,1,0,[]⟩:VI)) n∧fD (S.keep n (⟨2,mode,1,0,[]⟩:VI))∧∀S2,j5 (S.keep n (⟨2,mode,1,0,[]⟩:VI)) n bs=some S2→dY S S2∧nL S2 dir n name∧lJ S2):=by
 obtain⟨hn1,hn0⟩:=h.xC hn;have hnd:dir≠n:=fun e=>by rw[e,hn0]at hk;cases hk
 obtain⟨hsp,hA⟩:=h.ajM (n:=n) (mode:=mode) (links:=1) hn1 hn0 hmode (by omega);obtain⟨SA,AO⟩:∃SA,SA=S.keep n (⟨2,mode,1,0,[]⟩:VI):=⟨_,rfl⟩;rw[←AO]at hA ⊢;have hLA:dY S SA:=by rw[AO];exact(dY.refl S).keep n _
 have hnA:SA.names=S.names:=hLA.names;have hmA:SA.m=1:=by rw[AO];show S.m+1=1;rw[hm0]
 have abG:n≤65535:=by have:=h.pW;omega
 have gAn:dO g n ⟨2,mode,1,[],[]⟩ n=⟨2,mode,1,[],[]⟩:=dQ _ _ _;obtain⟨hF1,hF2⟩:=hA.fill (n:=n) (bs:=bs) (by rw[hnA];exact hn1) (by rw[gAn]) hbs;have eg:dO (dO g n ⟨2,mode,1,[],[]⟩) n {dO g n ⟨2,mode,1,[],[]⟩ n with data:=bs}=dO g n (kZ 2 mode bs):=by rw[gAn];funext i;unfold dO;split<;>rfl
 rw[eg]at hF1 hF2;have gd:dO g n (kZ 2 mode bs) dir=g dir:=eU _ _ hnd;have hsA:(aF SA.cur n).aB=[]:=List.eq_nil_of_length_eq_zero (by rw[hA.len n (by rw[hnA];exact hn1),gAn];simp[LI.need]);have hcnt:SA.count=S.count:=hLA.count;have two:∀S2,j5 SA n bs=some S2→bI S2 (dO g n (kZ 2 mode bs))∧dY S S2∧S2.m≤34:=fun S2 hS2=>by refine⟨hF1 S2 hS2,hLA.trans (WM hS2),?_⟩;have:=anM hS2;rw[hsA,hmA]at this;simp only[List.length_nil]at this;omega
 refine⟨fun S1 hS1=>?_,fun hno=>?_,hA.YU (by rw[hnA];exact hn1),hA.sw,fun S2 hS2=>?_⟩
 ·unfold jW at hS1;rw[←AO]at hS1;split at hS1
  ·cases hS1
  rename_i S2 hS2;obtain⟨h2,hL2,hm2⟩:=two S2 hS2;have hE:=(h2.enter (dir:=dir) (n:=n) (name:=name) (by rw[hL2.names];exact hd) (by rw[gd];exact hk) (by rw[gd];exact hsz) hname abG).1 S1 hS1;rw[gd]at hE;refine⟨hE,hL2.trans (D6 hS1),?_⟩;have:=h2.YW (by rw[hL2.names];exact hd) (by rw[gd];exact hk) hS1;omega
 ·unfold jW at hno;rw[←AO]at hno;split at hno
  ·rename_i hf;have:=hF2 hf;rw[hcnt,hnA]at this;refine Nat.lt_of_lt_of_le this ?_;have h1:=rY (g:=dO g n (kZ 2 mode bs)) hd ((g dir).more name n);(have h2:(dO g n (kZ 2 mode bs) dir).need≤((g dir).more name n).need:=by rw[gd,jS hk,jS (x:=(g dir).more name n) hk];have e:((g dir).more name n).aY.length=(g dir).aY.length+1:=List.length_append;rw[e];omega);omega
  rename_i S2 hS2;obtain⟨h2,hL2,hm2⟩:=two S2 hS2;have hE:=(h2.enter (dir:=dir) (n:=n) (name:=name) (by rw[hL2.names];exact hd) (by rw[gd];exact hk) (by rw[gd];exact hsz) hname abG).2 hno;rw[gd,hL2.count,hL2.names]at hE;exact hE
 obtain⟨h2,hL2,hm2⟩:=two S2 hS2;exact⟨hL2,h2.YV (by rw[hL2.names];exact hd) (by rw[gd];exact hk) (by rw[gd];exact hsz) hname abG,h2.sv⟩
theorem EE (S:VS) (j:Nat) {m:Nat} (hm:m<S.names):aF (eP S j).cur m=aF S.cur m:=by
 unfold aF;show wQ (((bk ((S.cur.set 1 _).set (S.data+j) bB) (2+m/8)).drop (m%8*64)).take 64)=_
 rw[bR _ _ (by unfold VS.data;omega),bR _ _ (by omega)]
theorem abH {x:LI} (hk:x.kind=1) (name:List UInt8) (n:Nat):x.need≤(x.more name n).need:=by rw[jS hk,jS (x:=x.more name n) hk];have e:(x.more name n).aY.length=x.aY.length+1:=List.length_append;rw[e];omega
theorem bI.YX (h:bI S g) (hm0:S.m=0) {dir n mode:Nat} {name:List UInt8} (hd:dir<S.names) (hk:(g dir).kind=1) (hsz:(g dir).aY.length<448) (hname:name.length≤15) (hmode:mode<65536)
  (hn:jQ S.cur S.names=some n):
  (∀j,iC (bk S.cur 1) S.count=some j→
   (∀S1,fF (iU S n (⟨1,mode,1,0,[]⟩:VI) j) dir name n=some S1→Chg S (dO (dO g n (kZ 1 mode [])) dir ((g dir).more name n)) S1)∧
   (fF (iU S n (⟨1,mode,1,0,[]⟩:VI) j) dir name n=none→S.count<lS (dO (dO g n (kZ 1 mode [])) dir ((g dir).more name n)) S.names)∧
   ((⟨1,mode,1,0,[j]⟩:VI).ok∧oF (eP S j) n∧fD (eP S j)∧nL (iU S n (⟨1,mode,1,0,[]⟩:VI) j) dir n name∧lJ (iU S n (⟨1,mode,1,0,[]⟩:VI) j)))∧
  (iC (bk S.cur 1) S.count=none→S.count<lS (dO (dO g n (kZ 1 mode [])) dir ((g dir).more name n)) S.names):=by
 obtain⟨hn1,hn0⟩:=h.xC hn;have hnd:dir≠n:=fun e=>by rw[e,hn0]at hk;cases hk
 have abG:n≤65535:=by have:=h.pW;omega
 obtain⟨hA,hB⟩:=h.ae7 (n:=n) (mode:=mode) (links:=1) hn1 hn0 hmode (by omega);have gd:dO g n (kZ 1 mode []) dir=g dir:=eU _ _ hnd;have hsp:(aF S.cur n).aB=[]:=List.eq_nil_of_length_eq_zero (by rw[h.len n hn1];unfold LI.need;rw[if_neg (by omega),if_neg (by omega)]);constructor
 ·intro j hj;have h2:=hA j hj;have hj1:=MN hj;obtain⟨SA,AO⟩:∃SA,SA=iU S n (⟨1,mode,1,0,[]⟩:VI) j:=⟨_,rfl⟩;rw[←AO]at h2 ⊢;have h2':bI SA (dO g n (kZ 1 mode [])):=h2;(have hL2:dY S SA:=by rw[AO];exact(((dY.refl S).put _ _).put _ _).keep n _);(have hm2:SA.m=3:=by rw[AO];show S.m+1+1+1=3;rw[hm0]);have hE:=h2'.enter (dir:=dir) (n:=n) (name:=name) (by rw[hL2.names];exact hd) (by rw[gd];exact hk) (by rw[gd];exact hsz) hname abG;rw[gd,hL2.count,hL2.names]at hE;refine⟨fun S1 hS1=>⟨hE.1 S1 hS1,hL2.trans (D6 hS1),?_⟩,hE.2,⟨by show 1<256;omega,hmode,by show 1<65536;omega,by show 0<65536;omega,by show 1≤28;omega,fun k hk=>?_⟩,⟨hn1,?_,?_⟩,⟨h.sw.b0,h.sw.b1,h.sw.i0,h.sw.i1⟩,h2'.YV (by rw[hL2.names];exact hd) (by rw[gd];exact hk) (by rw[gd];exact hsz) hname abG,h2'.sv⟩
  ·have:=h2'.YW (by rw[hL2.names];exact hd) (by rw[gd];exact hk) hS1;omega
  ·rw[List.mem_singleton]at hk;rw[hk];exact h.IC hj1
  ·rw[EE S j hn1,hsp];exact Nat.zero_le _
  rw[EE S j hn1,hsp];intro s hs;cases hs
 intro hno;have h1:=hB hno;have h2:=rY (g:=dO g n (kZ 1 mode [])) hd ((g dir).more name n);rw[gd]at h2;have h3:=abH hk name n;have h4:S.count<lS (dO g n (kZ 1 mode [])) S.names:=h1;omega
theorem bI.made (h:bI S g) (hm0:S.m=0) (hr:S.rB=S.count∧S.rI=S.names) {kind dir mode:Nat} {path bs:List UInt8} (hkd:kind=1∧bs=[]∨kind=2) (hd:dir<S.names) (hk:(g dir).kind=1) (hsz:(g dir).aY.length<448)
  (hv:aP path=true) (hp:path.length≤1048576) (hname:(aR path).length≤15) (hmode:mode<65536) (hbs:bs.length≤8192):
  tN S (⟨kind,mode,1,0,[]⟩:VI) bs dir path∧
  ((jQ S.cur S.names=none∧j6 S (⟨kind,mode,1,0,[]⟩:VI) bs dir (aR path)=none)∨
  ∃n,jQ S.cur S.names=some n∧
   (∀S1,j6 S (⟨kind,mode,1,0,[]⟩:VI) bs dir (aR path)=some S1→Chg S (dO (dO g n (kZ kind mode bs)) dir ((g dir).more (aR path) n)) S1)∧
   (j6 S (⟨kind,mode,1,0,[]⟩:VI) bs dir (aR path)=none→S.count<lS (dO (dO g n (kZ kind mode bs)) dir ((g dir).more (aR path) n)) S.names)):=by
 have arU:(jQ S.cur S.names=none∧j6 S (⟨kind,mode,1,0,[]⟩:VI) bs dir (aR path)=none)∨
  ∃n,jQ S.cur S.names=some n∧
   (∀S1,j6 S (⟨kind,mode,1,0,[]⟩:VI) bs dir (aR path)=some S1→Chg S (dO (dO g n (kZ kind mode bs)) dir ((g dir).more (aR path) n)) S1)∧
   (j6 S (⟨kind,mode,1,0,[]⟩:VI) bs dir (aR path)=none→S.count<lS (dO (dO g n (kZ kind mode bs)) dir ((g dir).more (aR path) n)) S.names):=by
  rcases hn:jQ S.cur S.names with _|n
  ·exact .inl ⟨rfl,by unfold j6;rw[hn]⟩
  ·refine .inr ⟨n,rfl,?_⟩;rcases hkd with⟨rfl,rfl⟩|rfl
   ·have hD:=h.YX hm0 (name:=aR path) hd hk hsz hname hmode hn;unfold j6;rw[hn];simp only[if_true];rcases hj:iC (bk S.cur 1) S.count with _|j
    ·exact⟨fun S1 e=>(by cases e),fun _=>hD.2 hj⟩
    exact⟨(hD.1 j hj).1,(hD.1 j hj).2.1⟩
   have hF:=h.S9 hm0 (name:=aR path) hd hk hsz hname hmode hbs hn;unfold j6;rw[hn];exact⟨hF.1,hF.2.1⟩
 refine⟨⟨h.arR,h.sw,hv,hp,?_,rfl,?_,hbs,?_,?_,?_⟩,arU⟩
 ·(show kind=1∨kind=2);omega
 ·exact⟨by show kind<256;omega,hmode,by show 1<65536;omega,by show 0<65536;omega,Nat.zero_le _,fun k hk=>by cases hk⟩
 ·intro n hn hk2;have awY:kind=2:=hk2;subst awY;exact(h.S9 hm0 (name:=aR path) hd hk hsz hname hmode hbs hn).2.2
 ·intro n j hn hj hk1;have awZ:kind=1:=hk1;subst awZ;exact((h.YX hm0 (name:=aR path) hd hk hsz hname hmode hn).1 j hj).2.2
 ·intro S1 hS1;rcases arU with⟨_,h1⟩|⟨n,_,h1,_⟩
  ·rw[h1]at hS1;cases hS1
  have:=h1 S1 hS1;exact bI.SQ hr h.use this.like this.ph this.m
end
end Go.Proofs.YteihmbaimbogaaaGreat
