/- DoDocA, laid together. -/
import Derived.Test.YtimkjnbihlgbiaaGreatJ41
namespace Go.Proofs.YtimkjnbihlgbiaaGreat
open Go.RowKit
set_option linter.unusedVariables false
set_option linter.unusedSimpArgs false
theorem look_down {Ns:List TN} {p:List UInt8} {k:Nat} (h:lookE Ns p (k+1)=0):lookE Ns p k=0:=by
 unfold lookE at h;split at h
 ·split at h
  ·cases h
  split at h
  ·cases h
  exact h
 exact h
theorem look_downs {Ns:List TN} {p:List UInt8} {k:Nat}:∀d,lookE Ns p (k+d)=0→lookE Ns p k=0
 |0,h=>h
 |d+1,h=>look_downs d (look_down h)
def UpAt (Ns:List TN) (p:List UInt8):Prop:=parentL p=[]∨∃m∈Ns,m.path=parentL p∧m.file= -1
theorem look_upD {Ns:List TN} (hf:∀n∈Ns, -1≤n.file) {p:List UInt8} (hv:validL p=true) (h:lookE Ns p p.length=0):UpAt Ns p:=by
 unfold UpAt parentL;rw[if_pos hv];rcases slash_split p with⟨_,h0,_⟩|⟨a,b,e,hb,hs,_⟩
 ·left;rw[h0];rfl
 right;have hl:p.length=(b.length+1)+a.length:=by rw[e];simp;omega
 rw[hl]at h;have h1:=look_downs _ h;rw[lookE_slash Ns e]at h1;have ht:p.take (slashP p)=a:=by rw[hs,e,List.take_left'];rfl
 rw[ht];cases hfd:findN Ns a with
 |none=>rw[hfd]at h1;cases h1
 |some n=>
  rw[hfd]at h1;obtain⟨m1,m2⟩:=find_mem hfd;have:=hf n m1;by_cases h9:0≤n.file
  ·simp only at h1;rw[if_pos h9]at h1;cases h1
  exact⟨n,m1,m2,by omega⟩
structure COk (Ns:List TN) (Cs:List (Nat×Int×Value)) (next:Nat):Prop where
 ids:Cs.Pairwise fun a b=>a.1≠b.1
 below:∀c∈Cs,c.1<next
 named:∀c∈Cs,∃n∈Ns,n.file=(c.1:Int)
 node:∀n∈Ns,n.file= -1∨∃c∈Cs,n.file=(c.1:Int)
 ok:∀c∈Cs,modeOk c.2.1=true∧dvLen c.2.2≤8192
theorem fC_at {Cs:List (Nat×Int×Value)} (h:Cs.Pairwise fun a b=>a.1≠b.1) {c:Nat×Int×Value} (hc:c∈Cs):fC Cs (c.1:Int)=⟨c.2.1,dvLen c.2.2⟩:=by
 unfold fC;have:Cs.find? (fun d=>decide ((d.1:Int)=(c.1:Int)))=some c:=by
  induction Cs with
  |nil=>cases hc
  |cons a Cs ih=>
   obtain⟨h1,h2⟩:=List.pairwise_cons.1 h;rw[List.find?_cons];rcases List.mem_cons.1 hc with rfl|hc
   ·simp
   have hne:=h1 c hc;(have:decide ((a.1:Int)=(c.1:Int))=false:=by simp;omega);rw[this];exact ih h2 hc
 rw[this]
theorem contAt_at {Cs:List (Nat×Int×Value)} (h:Cs.Pairwise fun a b=>a.1≠b.1) {c:Nat×Int×Value} (hc:c∈Cs):contAt Cs (c.1:Int)=c.2.2:=by
 unfold contAt;have:Cs.find? (fun d=>decide ((d.1:Int)=(c.1:Int)))=some c:=by
  induction Cs with
  |nil=>cases hc
  |cons a Cs ih=>
   obtain⟨h1,h2⟩:=List.pairwise_cons.1 h;rw[List.find?_cons];rcases List.mem_cons.1 hc with rfl|hc
   ·simp
   have hne:=h1 c hc;(have:decide ((a.1:Int)=(c.1:Int))=false:=by simp;omega);rw[this];exact ih h2 hc
 rw[this];rfl
section
variable {ns:List TN} {fs:List TF} {vs:List Value}
theorem cs0_get (hl:vs.length=fs.length) (k:Nat):(cs0 fs vs)[k]? =(fs[k]?).bind fun f=>(vs[k]?).map fun v=>(k,f.mode,v):=by
 unfold cs0;rw[List.getElem?_map,List.getElem?_zipIdx];cases hk:fs[k]? with
 |none=>have:fs.length≤k:=List.getElem?_eq_none_iff.1 hk;rw[List.getElem?_eq_none (by rw[List.length_zip];omega)];rfl
 |some f=>have hlt:=(gF.1 hk).1;have hv:vs[k]? =some vs[k]:=gE (by omega);(have hz:(fs.zip vs)[k]? =some (f,vs[k]):=by rw[List.getElem?_zip_eq_some];exact⟨hk,hv⟩);rw[hz,hv];simp
theorem cs0_mem (hl:vs.length=fs.length) {c:Nat×Int×Value} (hc:c∈cs0 fs vs):∃f v,fs[c.1]? =some f∧vs[c.1]? =some v∧c=(c.1,f.mode,v):=by
 obtain⟨k,hk⟩:=List.mem_iff_getElem?.1 hc;rw[cs0_get hl k]at hk;cases hf:fs[k]? with
 |none=>rw[hf]at hk;cases hk
 |some f=>
  cases hv:vs[k]? with
  |none=>rw[hf,hv]at hk;cases hk
  |some v=>rw[hf,hv]at hk;simp at hk;subst hk;exact⟨f,v,hf,hv,rfl⟩
theorem cs0_at (hl:vs.length=fs.length) {k:Nat} {f:TF} (hf:fs[k]? =some f):∃v,vs[k]? =some v∧(k,f.mode,v)∈cs0 fs vs:=by have hlt:=(gF.1 hf).1;have hv:vs[k]? =some vs[k]:=gE (by omega);refine⟨vs[k],hv,List.mem_iff_getElem?.2 ⟨k,?_⟩⟩;rw[cs0_get hl k,hf,hv];rfl
theorem cs0_ids (hl:vs.length=fs.length):(cs0 fs vs).Pairwise fun a b=>a.1≠b.1:=by
 rw[List.pairwise_iff_getElem];intro i j hi hj hij;have h1:=gE hi;have h2:=gE hj;rw[cs0_get hl i]at h1;rw[cs0_get hl j]at h2;have e1:(cs0 fs vs)[i].1=i:=by
  cases hf:fs[i]? with
  |none=>rw[hf]at h1;cases h1
  |some f=>
   cases hv:vs[i]? with
   |none=>rw[hf,hv]at h1;cases h1
   |some v=>rw[hf,hv]at h1;simp at h1;rw[←h1]
 have e2:(cs0 fs vs)[j].1=j:=by
  cases hf:fs[j]? with
  |none=>rw[hf]at h2;cases h2
  |some f=>
   cases hv:vs[j]? with
   |none=>rw[hf,hv]at h2;cases h2
   |some v=>rw[hf,hv]at h2;simp at h2;rw[←h2]
 omega
theorem LooseOk.le {ns:List TN} {fs:List TF} (ho:LooseOk ns fs):fs.length≤ns.length:=runK_le _ _ ho.run
def SizesOk (fs:List TF) (vs:List Value):Prop:=∀(k:Nat) (u:Value) (f:TF),vs[k]? =some u→fs[k]? =some f→dvLen u=f.size
theorem cs0_fC (hl:vs.length=fs.length) (hs:SizesOk fs vs) {k:Nat} (hk:k<fs.length):fC (cs0 fs vs) (k:Int)=fsAt fs (k:Int):=by obtain⟨f,hf⟩:∃f,fs[k]? =some f:=⟨_,gE hk⟩;obtain⟨v,hv,hm⟩:=cs0_at hl hf;have h1:=fC_at (cs0_ids hl) hm;rw[h1];unfold fsAt;rw[gH,Int.toNat_natCast,hf,Option.getD_some,hs k v f hv hf]
theorem cOk_start (ho:LooseOk ns fs) (hl:vs.length=fs.length) (hs:SizesOk fs vs):COk ns (cs0 fs vs) fs.length:=by
 refine⟨cs0_ids hl,fun c hc=>?_,fun c hc=>?_,fun n hn=>?_,fun c hc=>?_⟩
 ·obtain⟨f,v,h1,_⟩:=cs0_mem hl hc;exact(gF.1 h1).1
 ·obtain⟨f,v,h1,_⟩:=cs0_mem hl hc;obtain⟨n,hn,hf⟩:=run_named _ _ ho.run c.1 (gF.1 h1).1;exact⟨n,List.mem_of_mem_take hn,hf⟩
 ·obtain⟨_,h1,h2,_⟩:=ho.mem hn;by_cases e:n.file= -1
  ·exact .inl e
  right;obtain⟨k,hk⟩:∃k:Nat,n.file=(k:Int):=⟨n.file.toNat,by omega⟩;(have hkl:k<fs.length:=by omega);obtain⟨v,_,hm⟩:=cs0_at hl (gE hkl);exact⟨_,hm,hk⟩
 obtain⟨f,v,h1,h2,e⟩:=cs0_mem hl hc;rw[e];have hfm:=gG h1;exact⟨ho.fmode f hfm,by rw[hs _ v f h2 h1];exact ho.size f hfm⟩
theorem good_start (ho:LooseOk ns fs):GoodN ns:=by
 have hm:=fun n hn=>ho.mem (n:=n) hn
 refine⟨ho.ne,fun n hn=>(hm n hn).1,fun n hn=>?_,fun n hn=>?_⟩
 ·obtain⟨i,hi⟩:=List.mem_iff_getElem?.1 hn;obtain⟨_,_,hk,_⟩:=ho.at_ hi;by_cases h0:parentL n.path=[]
  ·exact .inl h0
  right;(have hex:∃m∈ns.take i,m.path=parentL n.path:=by(refine Decidable.byContradiction fun hno=>?_);(have h5:=kindP_none (pre:=ns.take i) (p:=parentL n.path) fun m hm e=>hno ⟨m,hm,e⟩);rw[hk,if_neg h0]at h5;cases h5);obtain⟨m,hm2,hmp⟩:=hex;have h5:=kindP_mem (ho.ne.sublist (List.take_sublist i _)) hm2;rw[hmp,hk]at h5;refine⟨m,List.mem_of_mem_take hm2,hmp,?_⟩;(refine Decidable.byContradiction fun hno=>?_);rw[if_neg hno]at h5;cases h5
 obtain⟨_,h1,_,h3,h4⟩:=hm n hn;by_cases e:n.file= -1
 ·exact .inl ⟨e,h3 e⟩
 exact .inr ⟨by omega,h4 e⟩
end
section
variable {Ns:List TN}
theorem GoodN.file1 (h:GoodN Ns):∀n∈Ns, -1≤n.file:=fun n hn=>by rcases h.file n hn with⟨h1,_⟩|⟨h1,_⟩<;>omega
theorem GoodN.add (h:GoodN Ns) {n:TN} (hp:hasG Ns n.path=false) (hv:validL n.path=true) (hu:UpAt Ns n.path) (hf:(n.file= -1∧modeOk n.mode=true)∨(0≤n.file∧n.mode=0)):GoodN (Ns++[n]):=by
 refine⟨?_,fun m hm=>?_,fun m hm=>?_,fun m hm=>?_⟩
 ·rw[List.pairwise_append];refine⟨h.ne,by simp,fun a ha b hb=>?_⟩;(have:b=n:=by simpa using hb);subst this;exact not_has hp a ha
 ·rcases List.mem_append.1 hm with hm|hm
  ·exact h.valid m hm
  (have:m=n:=by simpa using hm);subst this;exact hv
 ·rcases List.mem_append.1 hm with hm|hm
  ·rcases h.up m hm with h1|⟨x,hx,h2⟩
   ·exact .inl h1
   exact .inr ⟨x,List.mem_append_left _ hx,h2⟩
  (have:m=n:=by simpa using hm);subst this;rcases hu with h1|⟨x,hx,h2⟩
  ·exact .inl h1
  exact .inr ⟨x,List.mem_append_left _ hx,h2⟩
 rcases List.mem_append.1 hm with hm|hm
 ·exact h.file m hm
 have:m=n:=by simpa using hm
 subst this;exact hf
theorem delG_mem {p:List UInt8} {m:TN}:m∈delG Ns p↔m∈Ns∧m.path≠p:=by unfold delG;rw[List.mem_filter];simp
theorem GoodN.del (h:GoodN Ns) {n:TN} (hn:n∈Ns) (hk:n.file= -1→∀m∈Ns,parentL m.path≠n.path):GoodN (delG Ns n.path):=by
 refine⟨h.ne.sublist del_sub,fun m hm=>h.valid m (del_sub.subset hm),fun m hm=>?_,fun m hm=>h.file m (del_sub.subset hm)⟩;have hmN:=(delG_mem.1 hm).1;rcases h.up m hmN with h1|⟨x,hx,h2,h3⟩
 ·exact .inl h1
 refine .inr ⟨x,delG_mem.2 ⟨hx,fun e=>?_⟩,h2,h3⟩;have hxn:x=n:=by have e1:=find_uniq h.ne hx;have e2:=find_uniq h.ne hn;rw[e]at e1;rw[e1]at e2;cases e2;rfl
 subst hxn;exact hk h3 m hmN h2.symm
theorem uniq_path (h:Ns.Pairwise fun a b=>a.path≠b.path) {n x:TN} (hn:n∈Ns) (hx:x∈Ns) (e:x.path=n.path):x=n:=by have e1:=find_uniq h hx;have e2:=find_uniq h hn;rw[e]at e1;rw[e1]at e2;cases e2;rfl
theorem at_split (h:Ns.Pairwise fun a b=>a.path≠b.path) {k:Nat} {n:TN} (hk:Ns[k]? =some n):delG Ns n.path=Ns.take k++Ns.drop (k+1):=by
 obtain⟨hkl,hke⟩:=gF.1 hk;have e:Ns=Ns.take k++n::Ns.drop (k+1):=by(have h1:Ns.drop k=n::Ns.drop (k+1):=by rw[List.drop_eq_getElem_cons hkl,hke]);rw[←h1,List.take_append_drop]
 have h2:=h;rw[e,List.pairwise_append,List.pairwise_cons]at h2;obtain⟨h3,⟨h4,h5⟩,h6⟩:=h2;unfold delG
 conv=>lhs;rw[e]
 rw[List.filter_append,List.filter_cons];have e1:(Ns.take k).filter (fun m=> !(m.path==n.path))=Ns.take k:=List.filter_eq_self.2 fun m hm=>by have:=h6 m hm n (by simp);simpa using this
 have e2:(Ns.drop (k+1)).filter (fun m=> !(m.path==n.path))=Ns.drop (k+1):=List.filter_eq_self.2 fun m hm=>by have:=h4 m hm;simpa using fun e=>this e.symm
 rw[e1,e2];simp
theorem path_found {p:List UInt8} {n:TN} (h:findN Ns p=some n):Ns[pathI Ns p]? =some n∧n.path=p∧nodeOr Ns p=n∧n∈Ns:=by
 rcases findI_find Ns p with⟨h1,_⟩|⟨k,m,h1,h2,h3,h4⟩
 ·rw[h1]at h;cases h
 rw[h]at h1;cases h1;unfold pathI;rw[h3,Int.toNat_natCast];exact⟨h2,h4,by unfold nodeOr;rw[h];rfl,gG h2⟩
theorem set_perm {k:Nat} {n x:TN} (hk:Ns[k]? =some n):(Ns.set k x).Perm ((Ns.take k++Ns.drop (k+1))++[x]):=by rw[(split_at hk).2 x];refine List.perm_middle.trans ?_;exact(List.perm_append_singleton _ _).symm
end
theorem present_two {ns:List TN} {p:List UInt8} (h:presentE ns p=0):lookE ns p p.length=0∧∃n,findN ns p=some n∧nodeL ns p=n∧nodeOr ns p=n:=by
 obtain⟨n,h1,h2⟩:=present_ok h;unfold presentE at h;by_cases hl:lookE ns p p.length=0
 ·exact⟨hl,n,h1,h2,by unfold nodeOr;rw[h1];rfl⟩
 rw[if_neg hl]at h;exact absurd h hl
theorem absent_two {ns:List TN} {p:List UInt8} (h:absentE ns p=0):lookE ns p p.length=0∧hasG ns p=false:=by
 refine⟨?_,absent_ok h⟩;unfold absentE at h;by_cases hl:lookE ns p p.length=0
 ·exact hl
 rw[if_neg hl]at h;exact absurd h hl
theorem file_two {ns:List TN} {p:List UInt8} (h:fileE ns p=0):presentE ns p=0∧∃n,findN ns p=some n∧nodeL ns p=n∧nodeOr ns p=n∧0≤n.file:=by
 unfold fileE at h;by_cases hp:presentE ns p=0
 ·rw[if_pos hp]at h;obtain⟨_,n,h1,h2,h3⟩:=present_two hp;refine⟨hp,n,h1,h2,h3,?_⟩;rw[h2]at h;(refine Decidable.byContradiction fun hno=>?_);rw[if_pos (by omega)]at h;cases h
 rw[if_neg hp]at h;exact absurd h hp
theorem both_two {ns:List TN} {p tz:List UInt8} (h:bothE ns p tz=0):fileE ns p=0∧absentE ns tz=0:=by
 unfold bothE at h;by_cases hp:fileE ns p=0
 ·rw[if_pos hp]at h;exact⟨hp,h⟩
 rw[if_neg hp]at h;exact absurd h hp
theorem doE_zero {f e:Int} {N:List TN} {F:List TF}:doE f e N F=0↔f=0∧e=0∧canD N F=0:=by
 unfold doE;by_cases hf:f=0
 ·rw[if_pos hf];by_cases he:e=0
  ·rw[if_pos he];by_cases hc:canD N F=0
   ·rw[if_pos hc];exact⟨fun _=>⟨hf,he,hc⟩,fun _=>rfl⟩
   rw[if_neg hc];exact⟨fun h=>(by cases h),fun h=>absurd h.2.2 hc⟩
  rw[if_neg he];exact⟨fun h=>absurd h he,fun h=>absurd h.2.1 he⟩
 rw[if_neg hf];exact⟨fun h=>absurd h hf,fun h=>absurd h.1 hf⟩
theorem doF_zero {f:Int} {S S':WSt}:(doF f S S').e=0↔f=0∧S'.e=0:=by
 unfold doF;by_cases hf:f=0
 ·rw[if_pos hf];exact⟨fun h=>⟨hf,h⟩,fun h=>h.2⟩
 rw[if_neg hf];exact⟨fun h=>absurd h hf,fun h=>absurd h.1 hf⟩
theorem doF_eq {f:Int} {S S':WSt} (h:f=0):doF f S S'=S':=by unfold doF;rw[if_pos h]
theorem fullE_ne (two:Bool) (Ns:List TN) (p tz:List UInt8):fullE two Ns p tz≠0:=by
 unfold fullE;intro h;split at h
 ·split at h
  ·split at h
   ·cases h
   rename_i h1;exact h1 h
  rename_i h1;exact h1 h
 split at h
 ·cases h
 rename_i h1;exact h1 h
theorem doG_zero {two:Bool} {p tz:List UInt8} {S S':WSt}:(doG two p tz S S').e=0↔S.Ns.length<256∧S'.e=0:=by
 unfold doG;by_cases h:256≤S.Ns.length
 ·rw[if_pos h];exact⟨fun h2=>absurd h2 (fullE_ne _ _ _ _),fun h2=>by omega⟩
 rw[if_neg h];exact⟨fun h2=>⟨by omega,h2⟩,fun h2=>h2.2⟩
theorem doG_eq {two:Bool} {p tz:List UInt8} {S S':WSt} (h:S.Ns.length<256):doG two p tz S S'=S':=by unfold doG;rw[if_neg (by omega)]
theorem can_fin {N Ns:List TN} {F:List TF} {Cs:List (Nat×Int×Value)} {next:Nat} (hp:N.Perm Ns) (h:GoodN Ns) (hc:COk Ns Cs next) (hf:∀n∈Ns,¬n.file<0→fC Cs n.file=fsAt F n.file) (h9:Ns.length≤256) (hF:F.length≤256) (hF2:∀f∈F,f.size≤8192):
  canD N F=0∧dnT N=canNs Ns∧dfT N F=canCs Ns Cs∧LooseOk (canNs Ns) (canCs Ns Cs):=by
 have hc2:∀n∈Ns,¬n.file<0→(fC Cs n.file).size≤8192∧modeOk (fC Cs n.file).mode=true:=fun n hn hnf=>by
  rcases hc.node n hn with h1|⟨c,h1,h2⟩
  ·omega
  rw[h2,fC_at hc.ids h1];obtain⟨h3,h4⟩:=hc.ok c h1;exact⟨h4,h3⟩
 have h1:=canD_of hp h hf hc2;have hb:boundP N F=false:=by unfold boundP;rw[Bool.or_eq_false_iff,Bool.or_eq_false_iff,decide_eq_false_iff_not,decide_eq_false_iff_not,List.any_eq_false];refine⟨⟨by have:=hp.length_eq;omega,by omega⟩,fun f hf2=>?_⟩;have:=hF2 f hf2;unfold bigF;rw[decide_eq_true_eq];omega
 rw[hb,if_neg (by decide)]at h1;obtain⟨h2,h3⟩:=can_doc hp h.ne hf;exact⟨h1,h2,h3,can_loose h h9 hc2⟩
theorem can_big {N:List TN} {F:List TF} (h:256<N.length):canD N F≠0:=by unfold canD boundP;rw[decide_eq_true h,Bool.true_or,Bool.true_or,if_pos rfl];decide
end Go.Proofs.YtimkjnbihlgbiaaGreat
