/- ModelGG, ModelOps, ModelOG, ModelOH, laid together. -/
import Derived.Test.YtimkjnbihlgbiaaGreatJ18
namespace Go.Proofs.YtimkjnbihlgbiaaGreat
open Go.RowKit
set_option linter.unusedVariables false
structure GGood (Ns:List TN) (Fs:List FEnt) (Lk:List (Lit×Value)) (next:Nat):Prop where
 ne:Ns.Pairwise fun a b=>a.path≠b.path
 kids:KidsOk Lk Ns
 few:Ns.length≤300
 ids:Fs.Pairwise fun a b=>a.id≠b.id
 below:∀f∈Fs,f.id<next
 next9:next≤300
 names:∀f∈Fs,f.names=((cntF Ns f.id:Nat):Int)∧1≤cntF Ns f.id
 node:∀n∈Ns,n.file= -1∨∃f∈Fs,n.file=(f.id:Int)∧n.mode=0
 dv:DvOk Fs
 valid:∀n∈Ns,validL n.path=true
def cont (f:FEnt):Nat×Int×Value:=(f.id,f.mode,f.dv)
theorem find_mem {Ns:List TN} {p:List UInt8} {n:TN} (h:findN Ns p=some n):n∈Ns∧n.path=p:=by unfold findN at h;exact⟨List.mem_of_find?_eq_some h,by simpa using List.find?_some h⟩
theorem has_find {Ns:List TN} {p:List UInt8} (h:hasG Ns p=true):∃n,findN Ns p=some n∧nodeOr Ns p=n:=by unfold hasG at h;obtain⟨n,hn⟩:=Option.isSome_iff_exists.1 h;exact⟨n,hn,by unfold nodeOr;rw[hn];rfl⟩
theorem not_has {Ns:List TN} {p:List UInt8} (h:hasG Ns p=false):∀n∈Ns,n.path≠p:=by
 unfold hasG findN at h;intro n hn e;have h1:Ns.find? (fun n=>n.path==p)=none:=by
  cases hf:Ns.find? (fun n=>n.path==p)with
  |none=>rfl
  |some m=>rw[hf]at h;cases h
 have:=List.find?_eq_none.1 h1 n hn;rw[e]at this;simp at this
theorem putG_new {Ns:List TN} {n:TN} (h:hasG Ns n.path=false):putG Ns n=Ns++[n]:=by unfold putG;rw[List.filter_eq_self.2];intro m hm;have:=not_has h m hm;simpa using this
theorem delG_notin {Ns:List TN} {p:List UInt8} (h:∀n∈Ns,n.path≠p):delG Ns p=Ns:=by unfold delG;rw[List.filter_eq_self.2];intro m hm;simpa using h m hm
theorem count_del {q:TN→Bool} {Ns:List TN} (hne:Ns.Pairwise fun a b=>a.path≠b.path) {n:TN} (hn:n∈Ns):(delG Ns n.path).countP q+(if q n=true then 1 else 0)=Ns.countP q∧(delG Ns n.path).length+1=Ns.length:=by
 induction Ns with
 |nil=>cases hn
 |cons m Ns ih=>
  obtain⟨h1,h2⟩:=List.pairwise_cons.1 hne;rcases List.mem_cons.1 hn with rfl|hm
  ·(have e:delG (n::Ns) n.path=Ns:=by have h3:=delG_notin (Ns:=Ns) (p:=n.path) (fun x hx e=>h1 x hx e.symm);unfold delG at h3 ⊢;rw[List.filter_cons];simp[h3]);rw[e,List.countP_cons,List.length_cons];exact⟨rfl,rfl⟩
  obtain⟨i1,i2⟩:=ih h2 hm;(have hne2:(m.path==n.path)=false:=by simpa using h1 n hm);(have e:delG (m::Ns) n.path=m::delG Ns n.path:=by unfold delG;rw[List.filter_cons];simp[hne2]);rw[e,List.countP_cons,List.countP_cons,List.length_cons,List.length_cons];exact⟨by omega,by omega⟩
theorem cntF_del {Ns:List TN} (hne:Ns.Pairwise fun a b=>a.path≠b.path) {n:TN} (hn:n∈Ns) (k:Nat):cntF (delG Ns n.path) k+(if n.file=(k:Int)then 1 else 0)=cntF Ns k:=by have:=(count_del (q:=fun n=>decide (n.file=(k:Int))) hne hn).1;unfold cntF;simpa using this
theorem cntK_del {Ns:List TN} (hne:Ns.Pairwise fun a b=>a.path≠b.path) {n:TN} (hn:n∈Ns) (p:List UInt8):cntK (delG Ns n.path) p+(if parentL n.path=p then 1 else 0)=cntK Ns p:=by have:=(count_del (q:=fun n=>decide (parentL n.path=p)) hne hn).1;unfold cntK;simpa using this
theorem kids_del {L:List (Lit×Value)} {Ns:List TN} (hk:KidsOk L Ns) (hne:Ns.Pairwise fun a b=>a.path≠b.path) {n:TN} (hn:n∈Ns):KidsOk (putM L (.string (parentL n.path)) (.int .i64 ((cntK Ns (parentL n.path):Nat)-1:Int))) (delG Ns n.path):=by
 intro p;have h1:=cntK_del hne hn p;rw[getM_put (by simp[WideAt.IsKeyLit]) _ _ (by simp[WideAt.IsKeyLit])];by_cases e:parentL n.path=p
 ·subst e;rw[if_pos rfl]at h1;rw[if_pos (by simp[Lit.sameKey])];(show Value.int .i64 _=Value.int .i64 _);congr 1;omega
 rw[if_neg e,Nat.add_zero]at h1;rw[if_neg (by simp[Lit.sameKey];exact fun h=>e h.symm),h1];exact hk p
theorem kids_pos {Ns:List TN} {n:TN} (hn:n∈Ns):1≤cntK Ns (parentL n.path):=by unfold cntK;exact List.countP_pos_iff.2 ⟨n,hn,by simp⟩
theorem cntK_le (Ns:List TN) (p:List UInt8):cntK Ns p≤Ns.length:=List.countP_le_length
theorem cntF_le (Ns:List TN) (k:Nat):cntF Ns k≤Ns.length:=List.countP_le_length
theorem cntF_pos {Ns:List TN} {n:TN} {k:Nat} (hn:n∈Ns) (h:n.file=(k:Int)):1≤cntF Ns k:=by unfold cntF;exact List.countP_pos_iff.2 ⟨n,hn,by simpa using h⟩
theorem kids_snoc' {L:List (Lit×Value)} {ns:List TN} (h:KidsOk L ns) (n:TN):KidsOk (putM L (.string (parentL n.path)) (.int .i64 (((cntK ns (parentL n.path):Nat):Int)+1))) (ns++[n]):=kids_snoc h n
section
variable {Ns:List TN} {Fs:List FEnt} {Lk:List (Lit×Value)} {next:Nat}
theorem GGood.ne_snoc (h:GGood Ns Fs Lk next) {n:TN} (hp:hasG Ns n.path=false):(Ns++[n]).Pairwise fun a b=>a.path≠b.path:=by
 rw[List.pairwise_append];refine⟨h.ne,by simp,fun a ha b hb=>?_⟩;have:b=n:=by simpa using hb
 subst this;exact not_has hp a ha
theorem good_dir (h:GGood Ns Fs Lk next) {n:TN} (hp:hasG Ns n.path=false) (hf:n.file= -1) (hv:validL n.path=true) (hl:Ns.length<300):
  GGood (Ns++[n]) Fs (putM Lk (.string (parentL n.path)) (.int .i64 (((cntK Ns (parentL n.path):Nat):Int)+1))) next:=
 ⟨h.ne_snoc hp,kids_snoc' h.kids n,by rw[List.length_append,List.length_singleton];omega,h.ids,h.below,h.next9,
  fun f hf2=>by obtain⟨h1,h2⟩:=h.names f hf2;rw[cntF_snoc,if_neg (by omega)];exact⟨h1,h2⟩,
  fun m hm=>by
   rcases List.mem_append.1 hm with hm|hm
   ·exact h.node m hm
   (have:m=n:=by simpa using hm);subst this;exact Or.inl hf,
  h.dv,fun m hm=>by
   rcases List.mem_append.1 hm with hm|hm
   ·exact h.valid m hm
   (have:m=n:=by simpa using hm);subst this;exact hv⟩
theorem set_mem {Fs:List FEnt} (hids:Fs.Pairwise fun a b=>a.id≠b.id) {j:Nat} {f g:FEnt} (hf:Fs[j]? =some f) (hid:g.id=f.id) {x:FEnt} (hx:x∈Fs.set j g):x=g∨(x∈Fs∧x.id≠f.id):=by
 obtain⟨k,hk⟩:=List.mem_iff_getElem?.1 hx;have hj:=(gF.1 hf).1;by_cases e:j=k
 ·subst e;rw[List.getElem?_set_self hj]at hk;cases hk;exact Or.inl rfl
 rw[List.getElem?_set_ne e]at hk;right;refine⟨gG hk,?_⟩;obtain⟨hk2,rfl⟩:=gF.1 hk;obtain⟨_,rfl⟩:=gF.1 hf;rcases Nat.lt_or_ge j k with h1|h1
 ·exact fun e2=>List.pairwise_iff_getElem.1 hids j k hj hk2 h1 e2.symm
 exact List.pairwise_iff_getElem.1 hids k j hk2 hj (by omega)
theorem set_ids {Fs:List FEnt} {j:Nat} {f g:FEnt} (hf:Fs[j]? =some f) (hid:g.id=f.id):(Fs.set j g).map FEnt.id=Fs.map FEnt.id:=by rw[List.map_set];exact List.set_getElem_self' (by rw[List.getElem?_map,hf,hid];rfl)
theorem ids_map {Fs Gs:List FEnt} (h:Fs.map FEnt.id=Gs.map FEnt.id) (hG:Gs.Pairwise fun a b=>a.id≠b.id):Fs.Pairwise fun a b=>a.id≠b.id:=by have h1:(Gs.map FEnt.id).Pairwise (· ≠ ·):=List.pairwise_map.2 hG;rw[←h]at h1;exact List.pairwise_map.1 h1
theorem good_name (h:GGood Ns Fs Lk next) {n:TN} (hp:hasG Ns n.path=false) {j:Nat} {f:FEnt} (hf:Fs[j]? =some f) (hn:n.file=(f.id:Int)) (hm:n.mode=0) (hv:validL n.path=true) (hl:Ns.length<300):
  GGood (Ns++[n]) (Fs.set j {f with names:=f.names+1}) (putM Lk (.string (parentL n.path)) (.int .i64 (((cntK Ns (parentL n.path):Nat):Int)+1))) next:=by
 have hfm:=gG hf;refine⟨h.ne_snoc hp,kids_snoc' h.kids n,by rw[List.length_append,List.length_singleton];omega,ids_map (set_ids hf rfl) h.ids,fun g hg=>?_,h.next9,fun g hg=>?_,fun m hm2=>?_,fun g hg=>?_,fun m hm2=>?_⟩
 ·rcases set_mem h.ids hf (by rfl) hg with rfl|⟨hg,_⟩
  ·exact h.below f hfm
  exact h.below g hg
 ·rcases set_mem h.ids hf (by rfl) hg with rfl|⟨hg,hne⟩
  ·obtain⟨h1,h2⟩:=h.names f hfm;(show f.names+1=((cntF (Ns++[n]) f.id:Nat):Int)∧1≤cntF (Ns++[n]) f.id);rw[cntF_snoc,if_pos hn];omega
  obtain⟨h1,h2⟩:=h.names g hg;rw[cntF_snoc,if_neg (by omega)];exact⟨h1,h2⟩
 ·(have key:∀f0∈Fs,∃g∈Fs.set j {f with names:=f.names+1},g.id=f0.id:=fun f0 h0=>by(have:f0.id∈(Fs.set j {f with names:=f.names+1}).map FEnt.id:=by rw[set_ids (g:= {f with names:=f.names+1}) hf rfl];exact List.mem_map_of_mem h0);obtain⟨g,hg,e⟩:=List.mem_map.1 this;exact⟨g,hg,e⟩);rcases List.mem_append.1 hm2 with hm2|hm2
  ·rcases h.node m hm2 with h1|⟨f0,h0,h1,h2⟩
   ·exact Or.inl h1
   obtain⟨g,hg,e⟩:=key f0 h0;exact Or.inr ⟨g,hg,by rw[e];exact h1,h2⟩
  (have:m=n:=by simpa using hm2);subst this;obtain⟨g,hg,e⟩:=key f hfm;exact Or.inr ⟨g,hg,by rw[e];exact hn,hm⟩
 ·rcases set_mem h.ids hf (by rfl) hg with rfl|⟨hg,_⟩
  ·exact h.dv f hfm
  exact h.dv g hg
 rcases List.mem_append.1 hm2 with hm2|hm2
 ·exact h.valid m hm2
 have:m=n:=by simpa using hm2
 subst this;exact hv
theorem good_new (h:GGood Ns Fs Lk next) {n:TN} (hp:hasG Ns n.path=false) {f:FEnt} (hn:n.file=(next:Int)) (hm:n.mode=0) (hid:f.id=next) (hnm:f.names=1) (hdv:∃A k c,f.dv= .slice A k c∧k≤8192) (hv:validL n.path=true) (hl:Ns.length<300) (hnx:next<300):
  GGood (Ns++[n]) (Fs++[f]) (putM Lk (.string (parentL n.path)) (.int .i64 (((cntK Ns (parentL n.path):Nat):Int)+1))) (next+1):=by
 have hz:cntF Ns next=0:=by
  unfold cntF;rw[List.countP_eq_zero];intro m hm2 e;(have e2:m.file=(next:Int):=by simpa using e);rcases h.node m hm2 with h1|⟨f0,h0,h1,_⟩
  ·omega
  have:=h.below f0 h0;omega
 refine⟨h.ne_snoc hp,kids_snoc' h.kids n,by rw[List.length_append,List.length_singleton];omega,?_,fun g hg=>?_,by omega,fun g hg=>?_,fun m hm2=>?_,fun g hg=>?_,fun m hm2=>?_⟩
 ·rw[List.pairwise_append];refine⟨h.ids,by simp,fun a ha b hb=>?_⟩;(have:b=f:=by simpa using hb);subst this;have:=h.below a ha;omega
 ·rcases List.mem_append.1 hg with hg|hg
  ·have:=h.below g hg;omega
  (have:g=f:=by simpa using hg);subst this;omega
 ·rw[cntF_snoc];rcases List.mem_append.1 hg with hg|hg
  ·have:=h.below g hg;rw[if_neg (by omega)];exact h.names g hg
  (have:g=f:=by simpa using hg);subst this;rw[if_pos (by rw[hn,hid]),hid,hz,hnm];exact⟨rfl,Nat.le_refl _⟩
 ·rcases List.mem_append.1 hm2 with hm2|hm2
  ·rcases h.node m hm2 with h1|⟨f0,h0,h1,h2⟩
   ·exact Or.inl h1
   exact Or.inr ⟨f0,List.mem_append_left _ h0,h1,h2⟩
  (have:m=n:=by simpa using hm2);subst this;exact Or.inr ⟨f,by simp,by rw[hn,hid],hm⟩
 ·rcases List.mem_append.1 hg with hg|hg
  ·exact h.dv g hg
  (have:g=f:=by simpa using hg);subst this;exact hdv
 rcases List.mem_append.1 hm2 with hm2|hm2
 ·exact h.valid m hm2
 have:m=n:=by simpa using hm2
 subst this;exact hv
theorem del_sub {Ns:List TN} {p:List UInt8}:(delG Ns p).Sublist Ns:=List.filter_sublist
theorem delF_sub {Fs:List FEnt} {i:Nat}:(delF Fs i).Sublist Fs:=List.filter_sublist
theorem del_few (h:GGood Ns Fs Lk next) {p:List UInt8}:(delG Ns p).length≤300:=by have:=(del_sub (Ns:=Ns) (p:=p)).length_le;have:=h.few;omega
theorem good_del_dir (h:GGood Ns Fs Lk next) {n:TN} (hn:n∈Ns) (hf:n.file= -1):
  GGood (delG Ns n.path) Fs (putM Lk (.string (parentL n.path)) (.int .i64 (((cntK Ns (parentL n.path):Nat):Int)-1))) next:=
 ⟨h.ne.sublist del_sub,kids_del h.kids h.ne hn,del_few h,h.ids,h.below,h.next9,
  fun f hf2=>by obtain⟨h1,h2⟩:=h.names f hf2;have h3:=cntF_del h.ne hn f.id;rw[if_neg (by omega),Nat.add_zero]at h3;rw[h3];exact⟨h1,h2⟩,
  fun m hm=>h.node m (del_sub.subset hm),h.dv,fun m hm=>h.valid m (del_sub.subset hm)⟩
theorem good_del_many (h:GGood Ns Fs Lk next) {n:TN} (hn:n∈Ns) {j:Nat} {f:FEnt} (hf:Fs[j]? =some f) (hnf:n.file=(f.id:Int)) (h2:2≤f.names):
  GGood (delG Ns n.path) (Fs.set j {f with names:=f.names-1}) (putM Lk (.string (parentL n.path)) (.int .i64 (((cntK Ns (parentL n.path):Nat):Int)-1))) next:=by
 have hfm:=gG hf;refine⟨h.ne.sublist del_sub,kids_del h.kids h.ne hn,del_few h,ids_map (set_ids hf rfl) h.ids,fun g hg=>?_,h.next9,fun g hg=>?_,fun m hm2=>?_,fun g hg=>?_,fun m hm=>h.valid m (del_sub.subset hm)⟩
 ·rcases set_mem h.ids hf (by rfl) hg with rfl|⟨hg,_⟩
  ·exact h.below f hfm
  exact h.below g hg
 ·rcases set_mem h.ids hf (by rfl) hg with rfl|⟨hg,hne⟩
  ·obtain⟨h1,h4⟩:=h.names f hfm;have h3:=cntF_del h.ne hn f.id;rw[if_pos hnf]at h3;(show f.names-1=((cntF (delG Ns n.path) f.id:Nat):Int)∧1≤cntF (delG Ns n.path) f.id);omega
  obtain⟨h1,h4⟩:=h.names g hg;have h3:=cntF_del h.ne hn g.id;rw[if_neg (by omega),Nat.add_zero]at h3;rw[h3];exact⟨h1,h4⟩
 ·rcases h.node m (del_sub.subset hm2)with h1|⟨f0,h0,h1,h2⟩
  ·exact Or.inl h1
  (have:f0.id∈(Fs.set j {f with names:=f.names-1}).map FEnt.id:=by rw[set_ids (g:= {f with names:=f.names-1}) hf rfl];exact List.mem_map_of_mem h0);obtain⟨g,hg,e⟩:=List.mem_map.1 this;exact Or.inr ⟨g,hg,by rw[e];exact h1,h2⟩
 rcases set_mem h.ids hf (by rfl) hg with rfl|⟨hg,_⟩
 ·exact h.dv f hfm
 exact h.dv g hg
theorem good_del_last (h:GGood Ns Fs Lk next) {n:TN} (hn:n∈Ns) {f:FEnt} (hfm:f∈Fs) (hnf:n.file=(f.id:Int)) (h2:f.names=1):
  GGood (delG Ns n.path) (delF Fs f.id) (putM Lk (.string (parentL n.path)) (.int .i64 (((cntK Ns (parentL n.path):Nat):Int)-1))) next:=by
 refine⟨h.ne.sublist del_sub,kids_del h.kids h.ne hn,del_few h,h.ids.sublist delF_sub,fun g hg=>h.below g (delF_sub.subset hg),h.next9,fun g hg=>?_,fun m hm2=>?_,fun g hg=>h.dv g (delF_sub.subset hg),fun m hm=>h.valid m (del_sub.subset hm)⟩
 ·(have hne:g.id≠f.id:=by have:=(List.mem_filter.1 hg).2;simpa using this);obtain⟨h1,h4⟩:=h.names g (delF_sub.subset hg);have h3:=cntF_del h.ne hn g.id;rw[if_neg (by omega),Nat.add_zero]at h3;rw[h3];exact⟨h1,h4⟩
 rcases h.node m (del_sub.subset hm2)with h1|⟨f0,h0,h1,h5⟩
 ·exact Or.inl h1
 refine Or.inr ⟨f0,List.mem_filter.2 ⟨h0,?_⟩,h1,h5⟩;have hne:f0.id≠f.id:=fun e=>by have h3:=cntF_del h.ne hn f.id;rw[if_pos hnf]at h3;have h6:=(h.names f hfm).1;have h7:=cntF_pos (k:=f.id) hm2 (by rw[h1,e]);omega
 simpa using hne
theorem good_chdir (h:GGood Ns Fs Lk next) {n:TN} (hn:n∈Ns) (hf:n.file= -1) (m:Int):
  GGood (putG Ns ⟨n.path, -1,m⟩) Fs Lk next:=by
 have e:putG Ns ⟨n.path, -1,m⟩=delG Ns n.path++[⟨n.path, -1,m⟩]:=rfl;rw[e];have hcl:=(count_del (q:=fun _=>true) h.ne hn).2;refine⟨?_,fun p=>?_,by rw[List.length_append,List.length_singleton,hcl];exact h.few,h.ids,h.below,h.next9,fun f hf2=>?_,fun x hx=>?_,h.dv,fun x hx=>?_⟩
 ·rw[List.pairwise_append];refine⟨h.ne.sublist del_sub,by simp,fun a ha b hb=>?_⟩;(have:b=⟨n.path, -1,m⟩:=by simpa using hb);subst this;have:=(List.mem_filter.1 ha).2;simpa using this
 ·rw[h.kids p];have h3:=cntK_del h.ne hn p;rw[cntK_snoc];(show Value.int .i64 _=Value.int .i64 _);congr 2;(show cntK Ns p=if parentL n.path=p then _ else _);split at h3<;>rename_i hp
  ·rw[if_pos hp];omega
  rw[if_neg hp];omega
 ·obtain⟨h1,h2⟩:=h.names f hf2;have h3:=cntF_del h.ne hn f.id;rw[if_neg (by omega),Nat.add_zero]at h3;rw[cntF_snoc,if_neg (by show ¬(-1:Int)=_;omega),h3];exact⟨h1,h2⟩
 ·rcases List.mem_append.1 hx with hx|hx
  ·exact h.node x (del_sub.subset hx)
  (have:x=⟨n.path, -1,m⟩:=by simpa using hx);subst this;exact Or.inl rfl
 rcases List.mem_append.1 hx with hx|hx
 ·exact h.valid x (del_sub.subset hx)
 have:x=⟨n.path, -1,m⟩:=by simpa using hx
 subst this;exact h.valid n hn
theorem good_chfile (h:GGood Ns Fs Lk next) {j:Nat} {f:FEnt} (hf:Fs[j]? =some f) (m:Int):GGood Ns (Fs.set j {f with mode:=m}) Lk next:=by
 have hfm:=gG hf;refine⟨h.ne,h.kids,h.few,ids_map (set_ids hf rfl) h.ids,fun g hg=>?_,h.next9,fun g hg=>?_,fun x hx=>?_,fun g hg=>?_,h.valid⟩
 ·rcases set_mem h.ids hf (by rfl) hg with rfl|⟨hg,_⟩
  ·exact h.below f hfm
  exact h.below g hg
 ·rcases set_mem h.ids hf (by rfl) hg with rfl|⟨hg,_⟩
  ·exact h.names f hfm
  exact h.names g hg
 ·rcases h.node x hx with h1|⟨f0,h0,h1,h2⟩
  ·exact Or.inl h1
  (have:f0.id∈(Fs.set j {f with mode:=m}).map FEnt.id:=by rw[set_ids (g:= {f with mode:=m}) hf rfl];exact List.mem_map_of_mem h0);obtain⟨g,hg,e⟩:=List.mem_map.1 this;exact Or.inr ⟨g,hg,by rw[e];exact h1,h2⟩
 rcases set_mem h.ids hf (by rfl) hg with rfl|⟨hg,_⟩
 ·exact h.dv f hfm
 exact h.dv g hg
theorem GGood.file_at (h:GGood Ns Fs Lk next) {n:TN} (hn:n∈Ns) (hf:¬n.file<0):∃(j:Nat) (f:FEnt),Fs[j]? =some f∧n.file=(f.id:Int)∧n.mode=0:=by
 rcases h.node n hn with h1|⟨f,h0,h1,h2⟩
 ·omega
 obtain⟨j,hj⟩:=List.mem_iff_getElem?.1 h0;exact⟨j,f,hj,h1,h2⟩
theorem file_ok {p:List UInt8} (h:fileE Ns p=0):∃n,findN Ns p=some n∧nodeL Ns p=n∧¬n.file<0:=by
 unfold fileE at h;split at h
 ·rename_i hp;unfold presentE at hp;split at hp
  ·rename_i hl;split at hp
   ·rename_i hh;obtain⟨n,h1,h2⟩:=has_find hh;(have e:nodeL Ns p=n:=by unfold nodeL;rw[if_pos hl];exact h2);refine⟨n,h1,e,fun hf=>?_⟩;rw[e,if_pos hf]at h;cases h
   cases hp
  rename_i hl;exact absurd hp hl
 rename_i hp;exact absurd h hp
theorem present_ok {p:List UInt8} (h:presentE Ns p=0):∃n,findN Ns p=some n∧nodeL Ns p=n:=by
 unfold presentE at h;split at h
 ·rename_i hl;split at h
  ·rename_i hh;obtain⟨n,h1,h2⟩:=has_find hh;exact⟨n,h1,by unfold nodeL;rw[if_pos hl];exact h2⟩
  cases h
 rename_i hl;exact absurd h hl
theorem absent_ok {p:List UInt8} (h:absentE Ns p=0):hasG Ns p=false:=by
 unfold absentE at h;split at h
 ·split at h
  ·cases h
  rename_i hh;simpa using hh
 rename_i hl;exact absurd h hl
end
def insV (op:Int) (p tz:List UInt8) (mode ref:Int):Value:=.agg #[.int .i64 op,strV p,strV tz,.int .i64 mode,.int .i64 ref]
def insC (op:Int) (p tz:List UInt8) (mode ref:Int):Array Value:=#[.int .i64 op,strV p,strV tz,.int .i64 mode,.int .i64 ref]
structure WSt where
 e:Int
 Ns:List TN
 Cs:List (Nat×Int×Value)
 next:Nat
def GW (w0 w:World) (W bn bf bk:Nat) (R:List Asn) (S:WSt):Prop:=∃Fs Lk,Fs.map cont=S.Cs∧GGood S.Ns Fs Lk S.next∧Sep w0 w (gAs W bn bf bk S.next S.Ns Fs Lk R)
def contAt (Cs:List (Nat×Int×Value)) (i:Int):Value:=((Cs.find? fun c=>decide ((c.1:Int)=i)).map (·.2.2)).getD (.slice none 0 0)
def mkdirP (p:List UInt8) (mode:Int) (S:WSt):WSt:=if absentE S.Ns p=0 then⟨0,S.Ns++[⟨p, -1,mode⟩],S.Cs,S.next⟩else {S with e:=absentE S.Ns p}
def writeP (p:List UInt8) (mode:Int) (dv:Value) (S:WSt):WSt:=if absentE S.Ns p=0 then⟨0,S.Ns++[⟨p,S.next,0⟩],S.Cs++[(S.next,mode,dv)],S.next+1⟩else {S with e:=absentE S.Ns p}
def rmdirP (p:List UInt8) (S:WSt):WSt:=if presentE S.Ns p=0 then(if 0≤(nodeL S.Ns p).file then {S with e:=22} else if 0<cntK S.Ns p then {S with e:=25} else⟨0,delG S.Ns p,S.Cs,S.next⟩)else {S with e:=presentE S.Ns p}
def unlinkP (p:List UInt8) (S:WSt):WSt:=if fileE S.Ns p=0 then⟨0,delG S.Ns p,S.Cs.filter (fun c=>decide (2≤cntF S.Ns c.1)|| !decide ((c.1:Int)=(nodeL S.Ns p).file)),S.next⟩else {S with e:=fileE S.Ns p}
def chmodP (p:List UInt8) (mode:Int) (S:WSt):WSt:=if presentE S.Ns p=0 then(if(nodeL S.Ns p).file<0 then⟨0,putG S.Ns ⟨p, -1,mode⟩,S.Cs,S.next⟩else⟨0,S.Ns,S.Cs.map (fun c=>if(c.1:Int)=(nodeL S.Ns p).file then(c.1,mode,c.2.2)else c),S.next⟩)else {S with e:=presentE S.Ns p}
def renameP (p tz:List UInt8) (S:WSt):WSt:=if bothE S.Ns p tz=0 then⟨0,delG (S.Ns++[⟨tz,(nodeL S.Ns p).file,0⟩]) p,S.Cs,S.next⟩else {S with e:=bothE S.Ns p tz}
def linkP (p tz:List UInt8) (S:WSt):WSt:=if bothE S.Ns p tz=0 then⟨0,S.Ns++[⟨tz,(nodeL S.Ns p).file,0⟩],S.Cs,S.next⟩else {S with e:=bothE S.Ns p tz}
def copyP (p tz:List UInt8) (mode:Int) (S:WSt):WSt:=if bothE S.Ns p tz=0 then⟨0,S.Ns++[⟨tz,S.next,0⟩],S.Cs++[(S.next,mode,contAt S.Cs (nodeL S.Ns p).file)],S.next+1⟩else {S with e:=bothE S.Ns p tz}
theorem insC_pop {w0 w:World} {W bn bf bk next:Nat} {Ns:List TN} {Fs:List FEnt} {Lk:List (Lit×Value)} {R:List Asn} {X:Asn} (h:Sep w0 w (gAs W bn bf bk next Ns Fs Lk (R++[X]))):Sep w0 w (gAs W bn bf bk next Ns Fs Lk R):=Sep.drop 1 (gAs_pop h)
section
variable {w0 w:World} {W bn bf bk next:Nat} {Ns:List TN} {Fs:List FEnt} {Lk:List (Lit×Value)} {R:List Asn}
theorem mkdir_g (hS:Sep w0 w (gAs W bn bf bk next Ns Fs Lk R)) (hG:GGood Ns Fs Lk next) (hLk:Lk.length≤1000) (hl:Ns.length<300) {p tz:List UInt8} {op mode ref:Int} (dv:Value) (hp:validL p=true) (hp9:p.length≤1048576):
  Calls Tryz.prog 128 #[.pointer (some ⟨W,0,none⟩),insV op p tz mode ref,dv] w fun e w'=>e= .returned (.int .i64 (mkdirP p mode ⟨0,Ns,Fs.map cont,next⟩).e)∧GW w0 w' W bn bf bk R (mkdirP p mode ⟨0,Ns,Fs.map cont,next⟩):=by
 have ha:=valid_ascii hp;have hS0:=hS.bN 49 (insC op p tz mode ref);have c1:=hS0.bC 0 rfl 1;simp only[insC,strV,gA,gB,gC]at c1;have hab:=absent_g (gAs_push hS0) hp9 ha;have hG':=Lh hG;unfold mkdirP;simp only;by_cases h0:absentE Ns p=0
 ·rw[if_pos h0];rw[h0]at hab;have hh:=Lh (absent_ok h0);have hab':=Lh hab;unfold insC insV strV at*;clear hS hS0 hab h0 hG;go_enter Tryz.func128,Tryz.ntmps128;go_wp2_with(first |(go_at_call 137;refine hab'.out.mono ?_;rintro e w1 ⟨rfl,hS1⟩;(have d1:=(gAs_pop hS1).bC 0 rfl 1);(have d3:=(gAs_pop hS1).bC 0 rfl 3);simp only[gA,gB,gC]at d1 d3;(have hmd:=Lh (gputd_any hS1 hp9 mode (hG'.out.kids (parentL p)) (by have:=cntK_le Ns (parentL p);omega) (by omega) (by omega)));clear hS1)|(go_at_call 85;unfold strV at hmd;refine hmd.out.mono ?_;rintro e w2 ⟨rfl,hS3⟩;replace hS3:=Lh hS3;dsimp only));go_ret;refine⟨rfl,Fs,_,rfl,good_dir (n:=⟨p, -1,mode⟩) hG'.out hh.out rfl hp hl,?_⟩;have h9:=insC_pop hS3.out;rw[putG_new (n:=⟨p, -1,mode⟩) hh.out]at h9;exact h9
 rw[if_neg h0];have hq:(absentE Ns p==0)=false:=by simpa using h0
 generalize absentE Ns p=er at hab hq;have hab':=Lh hab;unfold insC insV strV at*;clear hS hS0 hab h0 hG;go_enter Tryz.func128,Tryz.ntmps128;go_wp2_with(go_at_call 137;refine hab'.out.mono ?_;rintro e w1 ⟨rfl,hS1⟩;replace hS1:=Lh hS1);go_ret;exact⟨rfl,Fs,Lk,rfl,hG'.out,insC_pop hS1.out⟩
theorem write_g (hS:Sep w0 w (gAs W bn bf bk next Ns Fs Lk R)) (hG:GGood Ns Fs Lk next) (hLk:Lk.length≤1000) (hl:Ns.length<300) (hnx:next<300) (hFl:Fs.length≤300) {p tz:List UInt8} {op mode ref:Int} {A:Option Addr} {n c:Nat} (hn:n≤8192) (hp:validL p=true) (hp9:p.length≤1048576):
  Calls Tryz.prog 133 #[.pointer (some ⟨W,0,none⟩),insV op p tz mode ref,.slice A n c] w fun e w'=>e= .returned (.int .i64 (writeP p mode (.slice A n c) ⟨0,Ns,Fs.map cont,next⟩).e)∧GW w0 w' W bn bf bk R (writeP p mode (.slice A n c) ⟨0,Ns,Fs.map cont,next⟩):=by
 have ha:=valid_ascii hp;have hS0:=hS.bN 49 (insC op p tz mode ref);have c1:=hS0.bC 0 rfl 1;simp only[insC,strV,gA,gB,gC]at c1;have hab:=absent_g (gAs_push hS0) hp9 ha;have hG':=Lh hG;unfold writeP;simp only;by_cases h0:absentE Ns p=0
 ·rw[if_pos h0];rw[h0]at hab;have hh:=Lh (absent_ok h0);have hab':=Lh hab;unfold insC insV strV at*;clear hS hS0 hab h0 hG;go_enter Tryz.func133,Tryz.ntmps133;go_wp2_with(first |(go_at_call 137;refine hab'.out.mono ?_;rintro e w1 ⟨rfl,hS1⟩;(have d1:=(gAs_pop hS1).bC 0 rfl 1);(have d3:=(gAs_pop hS1).bC 0 rfl 3);simp only[gA,gB,gC]at d1 d3;(have hmd:=Lh (made_g hS1 hp9 mode A n c (by omega) (fun g hg=>by have:=hG'.out.below g hg;omega) (by omega) (hG'.out.kids (parentL p)) (by have:=cntK_le Ns (parentL p);omega) (by omega) (by omega)));clear hS1)|(go_at_call 157;unfold strV at hmd;refine hmd.out.mono ?_;rintro e w2 ⟨rfl,ptr,hS3⟩;replace hS3:=Lh hS3;dsimp only));go_ret;refine⟨rfl,Fs++[⟨next,ptr,mode,1,.slice A n c⟩],_,by rw[List.map_append];rfl,good_new (n:=⟨p,next,0⟩) hG'.out hh.out rfl rfl rfl rfl ⟨A,n,c,rfl,hn⟩ hp hl hnx,?_⟩;have h9:=insC_pop hS3.out;rw[putG_new (n:=⟨p,next,0⟩) hh.out]at h9;exact h9
 rw[if_neg h0];have hq:(absentE Ns p==0)=false:=by simpa using h0
 generalize absentE Ns p=er at hab hq;have hab':=Lh hab;unfold insC insV strV at*;clear hS hS0 hab h0 hG;go_enter Tryz.func133,Tryz.ntmps133;go_wp2_with(go_at_call 137;refine hab'.out.mono ?_;rintro e w1 ⟨rfl,hS1⟩;replace hS1:=Lh hS1);go_ret;exact⟨rfl,Fs,Lk,rfl,hG'.out,insC_pop hS1.out⟩
end
section
variable {w0 w:World} {W bn bf bk next:Nat} {Ns:List TN} {Fs:List FEnt} {Lk:List (Lit×Value)} {R:List Asn}
theorem nodeV_or {n:TN} {p:List UInt8} (h:findN Ns p=some n):nodeV (nodeOr Ns p)= .agg #[.int .i64 n.file,.int .i64 n.mode]:=by unfold nodeOr;rw[h];rfl
set_option maxRecDepth 100000 in
theorem rmdir_g (hS:Sep w0 w (gAs W bn bf bk next Ns Fs Lk R)) (hG:GGood Ns Fs Lk next) (hLk:Lk.length≤1000) {p tz:List UInt8} {op mode ref:Int} (dv:Value) (hp:validL p=true) (hp9:p.length≤1048576):
  Calls Tryz.prog 129 #[.pointer (some ⟨W,0,none⟩),insV op p tz mode ref,dv] w fun e w'=>e= .returned (.int .i64 (rmdirP p ⟨0,Ns,Fs.map cont,next⟩).e)∧GW w0 w' W bn bf bk R (rmdirP p ⟨0,Ns,Fs.map cont,next⟩):=by
 have ha:=valid_ascii hp;have hS0:=hS.bN 49 (insC op p tz mode ref);have c1:=hS0.bC 0 rfl 1;simp only[insC,strV,gA,gB,gC]at c1;have hab:=present_g (gAs_push hS0) hp9 ha;have hG':=Lh hG;have hsh:p.length≤maxLen:=by unfold maxLen;omega
 unfold rmdirP;simp only;by_cases h0:presentE Ns p=0
 ·rw[if_pos h0];rw[h0]at hab;obtain⟨n,hfn,hnl⟩:=present_ok h0;rw[hnl]at hab ⊢;obtain⟨hnm,hnp⟩:=find_mem hfn;have hnv:=nodeV_or hfn;unfold nodeV at hab;have hnm':=Lh hnm;have hnp':=Lh hnp;have hnv':=Lh hnv;clear h0 hnl hfn hnm hnp hnv;by_cases hf:0≤n.file
  ·rw[if_pos hf];have hab':=Lh hab;generalize n.file=fi at hf hab';generalize n.mode=md at hab';unfold insC insV strV at*;clear hS hS0 hab hG;go_enter Tryz.func129,Tryz.ntmps129;go_wp2_with(go_at_call 154;refine hab'.out.mono ?_;rintro e w1 ⟨rfl,hS1⟩;(have hS2:=hS1.bN 137 #[.int .i64 fi,.int .i64 md]);replace hS2:=Lh hS2;clear hS1);go_ret;exact⟨rfl,Fs,Lk,rfl,hG'.out,insC_pop (Sep.drop 1 hS2.out)⟩
  rw[if_neg hf];have hfe:n.file= -1:=by
   rcases hG.node n hnm'.out with h1|⟨f,_,h1,_⟩
   ·exact h1
   omega
  have hfe':=Lh hfe;(have hf2:n.file<0:=by omega);have hab':=Lh hab;generalize hfi:n.file=fi at hf hab' hf2 hnv';generalize n.mode=md at hab' hnv';(have hK9:cntK Ns p≤10000:=by have:=cntK_le Ns p;have:=hG.few;omega);by_cases hk:0<cntK Ns p
  ·rw[if_pos hk];(have hk2:(0:Int)<((cntK Ns p:Nat):Int):=by omega);have hkd:=Lh (hG.kids p);generalize cntK Ns p=kk at hk2 hkd;unfold insC insV strV at*;clear hS hS0 hab hG hk hfe hfi hK9;go_enter Tryz.func129,Tryz.ntmps129;go_wp2_with(go_at_call 154;refine hab'.out.mono ?_;rintro e w1 ⟨rfl,hS1⟩;(have hS2:=(gAs_pop hS1).bN 137 #[.int .i64 fi,.int .i64 md]);(have g1:=hS2.bC 1 rfl 1);(have g2:=hS2.bC 2 rfl 2);simp only[worldCells,gA,gB,gC]at g1 g2;(have hlq:∀q,(Instr.lookup 86 (.map (some bk)) (.string ⟨p.toArray⟩) false).run Tryz.prog ((w1.alloc (.cells #[.int .i64 fi,.int .i64 md] 137)).drewN q)= .ok (.int .i64 kk) ((w1.alloc (.cells #[.int .i64 fi,.int .i64 md] 137)).drewN q):=(fun q=>by(have h:=(hS2.drewN q).gm_look 5 rfl keyed_str Tryz.underlying86 (zero_int' _) (keyOf_strV p hsh));rw[hkd.out]at h;exact h));(have hS2':=Lh hS2);clear hS1 hS2);go_quiet (fail);go_wp2_with fail;go_ret;exact⟨rfl,Fs,Lk,rfl,hG'.out,Sep.drop 2 (hS2'.out.drewN _)⟩
  rw[if_neg hk];(have hk2:¬(0:Int)<((cntK Ns p:Nat):Int):=by omega);have hkd:=Lh (hG.kids p);generalize cntK Ns p=kk at hk2 hkd;unfold insC insV strV at*;clear hS hS0 hab hG hk hfe hfi hK9;go_enter Tryz.func129,Tryz.ntmps129;go_wp2_with(go_at_call 154;refine hab'.out.mono ?_;rintro e w1 ⟨rfl,hS1⟩;(have hS2:=(gAs_pop hS1).bN 137 #[.int .i64 fi,.int .i64 md]);(have g1:=hS2.bC 1 rfl 1);(have g2:=hS2.bC 2 rfl 2);simp only[worldCells,gA,gB,gC]at g1 g2;(have hlq:∀q,(Instr.lookup 86 (.map (some bk)) (.string ⟨p.toArray⟩) false).run Tryz.prog ((w1.alloc (.cells #[.int .i64 fi,.int .i64 md] 137)).drewN q)= .ok (.int .i64 kk) ((w1.alloc (.cells #[.int .i64 fi,.int .i64 md] 137)).drewN q):=(fun q=>by(have h:=(hS2.drewN q).gm_look 5 rfl keyed_str Tryz.underlying86 (zero_int' _) (keyOf_strV p hsh));rw[hkd.out]at h;exact h));(have hS2':=Lh hS2);clear hS1 hS2);go_quiet (fail);have htk:=gtaked_any (gAs_pushs (S:=[_,_]) (hS2'.out.drewN nq)) hp9 hf2 hnv'.out (hG'.out.kids (parentL p)) (by have:=kids_pos hnm'.out;rw[hnp'.out]at this;exact this) (by have:=cntK_le Ns (parentL p);have:=hG'.out.few;omega) (by have:=hG'.out.few;omega) (by omega);have htk':=Lh htk;clear htk;go_wp2_with(go_at_call 155;unfold strV at htk';refine htk'.out.mono ?_;rintro e w2 ⟨rfl,hS3⟩;replace hS3:=Lh hS3;dsimp only);go_ret;have hgd:=good_del_dir hG'.out hnm'.out hfe'.out;rw[hnp'.out]at hgd;exact⟨rfl,Fs,_,rfl,hgd,Sep.drop 2 (gAs_pops hS3.out)⟩
 rw[if_neg h0];have hq:(presentE Ns p !=0)=true:=by simpa using h0
 unfold nodeV at hab;generalize presentE Ns p=er at hab hq;have hab':=Lh hab;generalize(nodeL Ns p).file=fi at hab';generalize(nodeL Ns p).mode=md at hab';unfold insC insV strV at*;clear hS hS0 hab h0 hG;go_enter Tryz.func129,Tryz.ntmps129;go_wp2_with(go_at_call 154;refine hab'.out.mono ?_;rintro e w1 ⟨rfl,hS1⟩;(have hS2:=hS1.bN 137 #[.int .i64 fi,.int .i64 md]);replace hS2:=Lh hS2;clear hS1);go_ret;exact⟨rfl,Fs,Lk,rfl,hG'.out,insC_pop (Sep.drop 1 hS2.out)⟩
theorem cont_set {j:Nat} {f g:FEnt} (hf:Fs[j]? =some f) (hc:cont g=cont f):(Fs.set j g).map cont=Fs.map cont:=by rw[List.map_set];exact List.set_getElem_self' (by rw[List.getElem?_map,hf,hc];rfl)
theorem cont_last {f:FEnt} {fi:Int} (hfi:fi=(f.id:Int)) (h1:cntF Ns f.id=1):(delF Fs f.id).map cont=(Fs.map cont).filter fun c=>decide (2≤cntF Ns c.1)|| !decide ((c.1:Int)=fi):=by
 unfold delF;rw[List.filter_map];congr 1;refine List.filter_congr fun g _=>?_
 show(!decide (g.id=f.id))=(decide (2≤cntF Ns g.id)|| !decide ((g.id:Int)=fi))
 by_cases e:g.id=f.id
 ·rw[e,h1,hfi];simp
 have e2:¬(g.id:Int)=fi:=by omega
 simp[e,e2]
theorem cont_many {k:Nat} {fi:Int} (hfi:fi=(k:Int)) (h1:2≤cntF Ns k):Fs.map cont=(Fs.map cont).filter fun c=>decide (2≤cntF Ns c.1)|| !decide ((c.1:Int)=fi):=by
 rw[List.filter_eq_self.2];intro c hc;by_cases e:c.1=k
 ·rw[e];simp[h1]
 have e2:¬(c.1:Int)=fi:=by omega
 simp[e2]
set_option maxRecDepth 100000 in
theorem unlink_g (hS:Sep w0 w (gAs W bn bf bk next Ns Fs Lk R)) (hG:GGood Ns Fs Lk next) (hLk:Lk.length≤1000) {p tz:List UInt8} {op mode ref:Int} (dv:Value) (hp:validL p=true) (hp9:p.length≤1048576):
  Calls Tryz.prog 132 #[.pointer (some ⟨W,0,none⟩),insV op p tz mode ref,dv] w fun e w'=>e= .returned (.int .i64 (unlinkP p ⟨0,Ns,Fs.map cont,next⟩).e)∧GW w0 w' W bn bf bk R (unlinkP p ⟨0,Ns,Fs.map cont,next⟩):=by
 have ha:=valid_ascii hp;have hS0:=hS.bN 49 (insC op p tz mode ref);have c1:=hS0.bC 0 rfl 1;simp only[insC,strV,gA,gB,gC]at c1;have hab:=file_g (gAs_push hS0) hp9 ha;have hG':=Lh hG;unfold unlinkP;simp only;by_cases h0:fileE Ns p=0
 ·rw[if_pos h0];rw[h0]at hab;obtain⟨n,hfn,hnl,hnf⟩:=file_ok h0;rw[hnl]at hab ⊢;obtain⟨hnm,hnp⟩:=find_mem hfn;obtain⟨j,f,hj,hfid,hmd⟩:=hG.file_at hnm hnf;have hnv:=nodeV_or hfn;unfold nodeV at hab;rw[hfid,hmd]at hab hnv;have hfm:=gG hj;obtain⟨hn1,hn2⟩:=hG.names f hfm;have hcf:=cntF_le Ns f.id;have hfw:=hG.few;(have hid9:f.id≤10000:=by have:=hG.below f hfm;have:=hG.next9;omega);have hnm':=Lh hnm;have hnp':=Lh hnp;have hnv':=Lh hnv;have hj':=Lh hj;have hfid':=Lh hfid;have hab':=Lh hab;have hn1':=Lh hn1;(have hkp:1≤cntK Ns (parentL p):=by have:=kids_pos hnm;rw[hnp]at this;exact this);(have hk9:cntK Ns (parentL p)≤10000:=by have:=cntK_le Ns (parentL p);omega);by_cases h1:cntF Ns f.id=1
  ·(have hnames:f.names=1:=by rw[hn1,h1];rfl);have hnames':=Lh hnames;have h1':=Lh h1;have hkd:=Lh (hG.kids (parentL p));have e0:((f.id:Nat):Int)=(f.id:Int):=rfl;unfold insC insV strV at*;clear hS hS0 hab hG h0 hfn hnl hnm hnp hj hfid hmd hnv hfm hn1 hn2 hcf h1 hnames e0 hnf;go_enter Tryz.func132,Tryz.ntmps132;go_wp2_with(first |(go_at_call 136;refine hab'.out.mono ?_;rintro e w1 ⟨rfl,hS1⟩;(have hS2:=(gAs_pop hS1).bN 137 #[.int .i64 f.id,.int .i64 0]);(have d1:=hS2.bC 1 rfl 1);simp only[gA,gB,gC]at d1;(have htk:=Lh (gtake1_any (gAs_pushs (S:=[_,_]) hS2) hp9 hj'.out hid9 hnames'.out hnv'.out hkd.out hkp hk9 (by omega) (by omega)));clear hS1 hS2)|(go_at_call 155;unfold strV at htk;refine htk.out.mono ?_;rintro e w2 ⟨rfl,hS3⟩;replace hS3:=Lh hS3;dsimp only));go_ret;have hgd:=good_del_last hG'.out hnm'.out (gG hj'.out) hfid'.out hnames'.out;rw[hnp'.out]at hgd;exact⟨rfl,_,_,cont_last hfid'.out h1'.out,hgd,Sep.drop 2 (gAs_pops hS3.out)⟩
  (have hnames:2≤f.names∧f.names≤10000:=by omega);have hnames':=Lh hnames;have h1':=Lh (show 2≤cntF Ns f.id by omega);have hkd:=Lh (hG.kids (parentL p));unfold insC insV strV at*;clear hS hS0 hab hG h0 hfn hnl hnm hnp hj hfid hmd hnv hfm hn1 hn2 hcf h1 hnames hnf;go_enter Tryz.func132,Tryz.ntmps132;go_wp2_with(first |(go_at_call 136;refine hab'.out.mono ?_;rintro e w1 ⟨rfl,hS1⟩;(have hS2:=(gAs_pop hS1).bN 137 #[.int .i64 f.id,.int .i64 0]);(have d1:=hS2.bC 1 rfl 1);simp only[gA,gB,gC]at d1;(have htk:=Lh (gtakeM_any (gAs_pushs (S:=[_,_]) hS2) hp9 hj'.out hid9 hnames'.out hnv'.out hkd.out hkp hk9 (by omega) (by omega)));clear hS1 hS2)|(go_at_call 155;unfold strV at htk;refine htk.out.mono ?_;rintro e w2 ⟨rfl,hS3⟩;replace hS3:=Lh hS3;dsimp only));go_ret;have hgd:=good_del_many hG'.out hnm'.out hj'.out hfid'.out hnames'.out.1;rw[hnp'.out]at hgd;exact⟨rfl,_,_,(cont_set hj'.out (by rfl)).trans (cont_many hfid'.out h1'.out),hgd,Sep.drop 2 (gAs_pops hS3.out)⟩
 rw[if_neg h0];have hq:(fileE Ns p==0)=false:=by simpa using h0
 unfold nodeV at hab;generalize fileE Ns p=er at hab hq;have hab':=Lh hab;generalize(nodeL Ns p).file=fi at hab';generalize(nodeL Ns p).mode=md at hab';unfold insC insV strV at*;clear hS hS0 hab h0 hG;go_enter Tryz.func132,Tryz.ntmps132;go_wp2_with(go_at_call 136;refine hab'.out.mono ?_;rintro e w1 ⟨rfl,hS1⟩;(have hS2:=hS1.bN 137 #[.int .i64 fi,.int .i64 md]);replace hS2:=Lh hS2;clear hS1);go_ret;exact⟨rfl,Fs,Lk,rfl,hG'.out,insC_pop (Sep.drop 1 hS2.out)⟩
end
end Go.Proofs.YtimkjnbihlgbiaaGreat
