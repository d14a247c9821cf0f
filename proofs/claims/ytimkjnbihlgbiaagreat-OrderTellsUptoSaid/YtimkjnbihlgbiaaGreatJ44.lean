/- DoDocC, laid together. -/
import Derived.Test.YtimkjnbihlgbiaaGreatJ43
namespace Go.Proofs.YtimkjnbihlgbiaaGreat
open Go.RowKit
set_option linter.unusedVariables false
set_option linter.unusedSimpArgs false
theorem sum_perm {α:Type} (f:α→Int) {l m:List α} (h:l.Perm m):(l.map f).sum=(m.map f).sum:=by
 induction h with
 |nil=>rfl
 |cons x _ ih=>rw[List.map_cons,List.map_cons,List.sum_cons,List.sum_cons,ih]
 |swap x y l=>simp only[List.map_cons,List.sum_cons];omega
 |trans _ _ h1 h2=>exact h1.trans h2
theorem idsP_nodup (xs:List TN):(idsP xs).Nodup:=by
 refine snoc_rec (P:=fun xs=>(idsP xs).Nodup) List.nodup_nil (fun xs x ih=>?_) xs;rw[idsP_snoc];split
 ·exact ih
 split
 ·exact ih
 rename_i h1 h2;rw[List.nodup_append];exact⟨ih,by simp,fun a ha b hb=>by(have:b=x.file:=by simpa using hb);subst this;exact fun e=>h2 (e▸ha)⟩
theorem can_perm {Ns:List TN} (h:GoodN Ns):(sortT Ns).Perm Ns:=by rw[←isort_sortT (List.Perm.refl Ns) h.ne];exact isort_perm Ns
theorem can_cntK {Ns:List TN} (h:GoodN Ns) (p:List UInt8):cntK (canNs Ns) p=cntK Ns p:=by
 unfold cntK canNs;rw[List.countP_map,←(can_perm h).countP_eq];apply List.countP_congr;intro n _;show(decide (parentL (renum _ n).path=p))=true↔_
 rw[renum_path]
theorem renum_dir (ids:List Int) (n:TN) (hn: -1≤n.file):(renum ids n).file= -1↔n.file= -1:=by
 unfold renum;by_cases h:n.file<0
 ·rw[if_pos h]
 rw[if_neg h];show((ids.idxOf n.file:Nat):Int)= -1↔_
 constructor
 ·intro h1;omega
 intro h1;omega
theorem can_sum {Ns:List TN} (h:GoodN Ns) (g:List UInt8→Int):((canNs Ns).map fun n=>if n.file= -1 then g n.path else 0).sum=(Ns.map fun n=>if n.file= -1 then g n.path else 0).sum:=by
 unfold canNs;rw[List.map_map,←sum_perm _ (can_perm h)];congr 1;apply List.map_congr_left;intro n hn;show(if(renum _ n).file= -1 then g (renum _ n).path else 0)=_
 rw[renum_path];have h1:=renum_dir (idsP (sortT Ns)) n (h.file1 n ((mem_sortT h.ne).1 hn));by_cases h2:n.file= -1
 ·rw[if_pos h2,if_pos (h1.2 h2)]
 rw[if_neg h2,if_neg fun h3=>h2 (h1.1 h3)]
theorem can_files {Ns:List TN} {Cs:List (Nat×Int×Value)} {next:Nat} (h:GoodN Ns) (hc:COk Ns Cs next):(Cs.map fun c=>(c.1:Int)).Perm (idsP (sortT Ns)):=by
 refine(List.perm_ext_iff_of_nodup (List.pairwise_map.2 (hc.ids.imp fun h=>by omega)) (idsP_nodup _)).2 fun i=>?_
 constructor
 ·intro hi;obtain⟨c,hcm,rfl⟩:=List.mem_map.1 hi;obtain⟨n,hn,e⟩:=hc.named c hcm;rw[←e];exact idsP_mem _ n ((mem_sortT h.ne).2 hn) (by omega)
 intro hi;obtain⟨n,hn,rfl,hnf⟩:=idsP_of _ _ hi;rcases hc.node n ((mem_sortT h.ne).1 hn)with h1|⟨c,h1,h2⟩
 ·omega
 rw[h2];exact List.mem_map_of_mem h1
theorem wgt_can {Ns:List TN} {Cs:List (Nat×Int×Value)} {next:Nat} (h:GoodN Ns) (hc:COk Ns Cs next):wgtB Ns Cs=wdB (canNs Ns) (canCs Ns Cs)∧wgtI Ns Cs=wdI (canNs Ns) (canCs Ns Cs):=by
 obtain⟨h1,h2⟩:=nB_dnB (cntK Ns) h.file1;have hK:cntK (canNs Ns)=cntK Ns:=funext fun p=>can_cntK h p
 have hp:=can_files h hc;constructor
 ·unfold wgtB wdB;rw[h1,hK,dirB_dirW];(have e1:dnB (cntK Ns) (canNs Ns)=dnB (cntK Ns) Ns:=can_sum h fun p=>dirB (cntK Ns p));(have e2:dfB (canCs Ns Cs)=wC Cs:=by have e3:=sum_perm (fun i:Int=>fileB (fC Cs i).size) hp;(have e4:(Cs.map fun c=>(c.1:Int)).map (fun i:Int=>fileB (fC Cs i).size)=Cs.map fun c=>fileB (dvLen c.2.2):=by simp only[List.map_map,Function.comp_def];apply List.map_congr_left;intro c hcm;rw[fC_at hc.ids hcm]);rw[e4]at e3;rw[wC_sum,e3];unfold dfB canCs;simp only[List.map_map,Function.comp_def]);rw[e1,e2]
 unfold wgtI wdI;have e1:dnI (canNs Ns)=dnI Ns:=can_sum h fun _=>1
 have e2:(canCs Ns Cs).length=Cs.length:=by unfold canCs;rw[List.length_map,←hp.length_eq,List.length_map]
 rw[h2,e1,e2]
def pthI (x:Ins):List UInt8:=x.path.data.toList
def tooI (x:Ins):List UInt8:=x.tz.data.toList
def grD (xs:List Ins) (cs:List Value) (T:TR) (i:Int):Int×Int:=match xs[i.toNat]? with
 |none=>(0,0)
 |some x=>if docE x.op (pthI x) (tooI x) x.mode x.ref cs T=0 then(wdB (docT x.op (pthI x) (tooI x) x.mode x.ref cs T).1 (docT x.op (pthI x) (tooI x) x.mode x.ref cs T).2-wdB T.1 T.2,wdI (docT x.op (pthI x) (tooI x) x.mode x.ref cs T).1 (docT x.op (pthI x) (tooI x) x.mode x.ref cs T).2-wdI T.1 T.2)else(0,0)
def nxD (xs:List Ins) (cs:List Value) (T:TR) (i:Int):TR:=match xs[i.toNat]? with
 |none=>T
 |some x=>if docE x.op (pthI x) (tooI x) x.mode x.ref cs T=0 then docT x.op (pthI x) (tooI x) x.mode x.ref cs T else T
theorem grD_at {xs:List Ins} {cs:List Value} {T:TR} {i:Nat} {x:Ins} (h:xs[i]? =some x):grD xs cs T i=if docE x.op (pthI x) (tooI x) x.mode x.ref cs T=0 then(wdB (docT x.op (pthI x) (tooI x) x.mode x.ref cs T).1 (docT x.op (pthI x) (tooI x) x.mode x.ref cs T).2-wdB T.1 T.2,wdI (docT x.op (pthI x) (tooI x) x.mode x.ref cs T).1 (docT x.op (pthI x) (tooI x) x.mode x.ref cs T).2-wdI T.1 T.2)else(0,0):=by unfold grD;rw[Int.toNat_natCast,h]
theorem nxD_at {xs:List Ins} {cs:List Value} {T:TR} {i:Nat} {x:Ins} (h:xs[i]? =some x):nxD xs cs T i=if docE x.op (pthI x) (tooI x) x.mode x.ref cs T=0 then docT x.op (pthI x) (tooI x) x.mode x.ref cs T else T:=by unfold nxD;rw[Int.toNat_natCast,h]
def fakeV (fs:List TF):List Value:=fs.map fun f=>.slice none f.size 0
theorem fake_len (fs:List TF):(fakeV fs).length=fs.length:=by simp[fakeV]
theorem fake_sizes (fs:List TF):SizesOk fs (fakeV fs):=by intro k u f hu hf;unfold fakeV at hu;rw[List.getElem?_map,hf]at hu;cases hu;rfl
theorem doc_loose {op:Int} {p tz:List UInt8} {mode ref:Int} {cs:List Value} {T:TR} (ho:LooseOk T.1 T.2) (h:docE op p tz mode ref cs T=0):LooseOk (docT op p tz mode ref cs T).1 (docT op p tz mode ref cs T).2:=by obtain⟨h1,h2⟩:=sameD_any ho (fake_len T.2) (fake_sizes T.2) p tz mode ref cs op;obtain⟨_,_,h3,h4⟩:=h2 (h1.2 h);rw[h4];exact h3
theorem LooseOk.sm {ns:List TN} {fs:List TF} (ho:LooseOk ns fs):TreeSm ns fs:=
 ⟨by have:=ho.few;omega,by have:=ho.few2;omega,fun n hn=>by have:=valid_len (ho.mem hn).1;omega,fun f hf=>by have:=ho.size f hf;omega⟩
def InsOk (xs:List Ins):Prop:=∀x∈xs,(-9223372036854775808≤x.op∧x.op≤9223372036854775807)∧x.path.size≤1048576∧x.tz.size≤1048576
theorem pth_arr (x:ByteArray):x=⟨x.data.toList.toArray⟩:=by obtain⟨⟨l⟩⟩:=x;rfl
theorem stepsD {xs:List Ins} (hx:InsOk xs) (cs:List Value):StepsG xs cs (grD xs cs) (nxD xs cs) fun T=>LooseOk T.1 T.2:=by
 refine⟨fun T hT=>⟨hT.sm,hT⟩,fun i x hix=>?_,fun T hT i=>?_⟩
 ·obtain⟨ho,hp,ht⟩:=hx x (gG hix);refine⟨pthI x,tooI x,pth_arr _,pth_arr _,ho,by rw[pthI,Array.length_toList];exact hp,by rw[tooI,Array.length_toList];exact ht,fun T hT vs hl hs=>?_⟩;obtain⟨h1,h2⟩:=sameD_any hT hl hs (pthI x) (tooI x) x.mode x.ref cs x.op;generalize hst:doA x.op (pthI x) (tooI x) x.mode x.ref cs ⟨0,T.1,cs0 T.2 vs,T.2.length⟩=st at h1 h2 ⊢;have hw:=wgt_doc (fun n hn=>(hT.mem hn).2.1) hl hs;rw[grD_at hix,nxD_at hix];by_cases hz:st.e=0
  ·obtain⟨a,b,c,d⟩:=h2 hz;have hw2:=wgt_can a b;have e:docT x.op (pthI x) (tooI x) x.mode x.ref cs T=(canNs st.Ns,canCs st.Ns st.Cs):=d;have e0:docE x.op (pthI x) (tooI x) x.mode x.ref cs T=0:=h1.1 hz;rw[if_pos e0,if_pos e0,e];refine⟨?_,?_,fun h=>absurd hz h,fun _=>⟨rfl,fun n hn=>by have:=valid_len (a.valid n hn);omega⟩⟩
   ·unfold growB;rw[if_pos hz,hw2.1,hw.1]
   unfold growI;rw[if_pos hz,hw2.2,hw.2]
  (have e0:¬docE x.op (pthI x) (tooI x) x.mode x.ref cs T=0:=fun h=>hz (h1.2 h));rw[if_neg e0,if_neg e0];refine⟨?_,?_,fun _=>rfl,fun h=>absurd h hz⟩
  ·unfold growB;rw[if_neg hz]
  unfold growI;rw[if_neg hz]
 show LooseOk (nxD xs cs T i).1 (nxD xs cs T i).2
 unfold nxD;split
 ·exact hT
 split
 ·rename_i h;exact doc_loose hT h
 exact hT
end Go.Proofs.YtimkjnbihlgbiaaGreat
