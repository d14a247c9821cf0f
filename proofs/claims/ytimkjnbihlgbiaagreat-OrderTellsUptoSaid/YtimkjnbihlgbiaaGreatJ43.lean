/- DoDocB, laid together. -/
import Derived.Test.YtimkjnbihlgbiaaGreatJ42
namespace Go.Proofs.YtimkjnbihlgbiaaGreat
open Go.RowKit
set_option linter.unusedVariables false
set_option linter.unusedSimpArgs false
def SameD (st:WSt) (d:Int) (T:TR):Prop:=(st.e=0↔d=0)∧(st.e=0→GoodN st.Ns∧COk st.Ns st.Cs st.next∧LooseOk (canNs st.Ns) (canCs st.Ns st.Cs)∧T=(canNs st.Ns,canCs st.Ns st.Cs))
section
variable {ns:List TN} {fs:List TF} {vs:List Value}
theorem same_add {f er:Int} {two:Bool} {p tz:List UInt8} {S0 S':WSt} {N:List TN} {F:List TF} (h0:S0.Ns=ns) (hS':S'.e=0↔er=0) (hN:N.length=ns.length+1)
  (key:f=0→er=0→ns.length<256→N.Perm S'.Ns∧GoodN S'.Ns∧COk S'.Ns S'.Cs S'.next∧(∀n∈S'.Ns,¬n.file<0→fC S'.Cs n.file=fsAt F n.file)∧F.length≤256∧∀f∈F,f.size≤8192):
  SameD (doF f S0 (doG two p tz S0 S')) (doE f er N F) (dnT N,dfT N F):=by
 have fin:f=0→er=0→ns.length<256→canD N F=0∧dnT N=canNs S'.Ns∧dfT N F=canCs S'.Ns S'.Cs∧LooseOk (canNs S'.Ns) (canCs S'.Ns S'.Cs):=fun a b c=>by obtain⟨k1,k2,k3,k4,k5,k6⟩:=key a b c;exact can_fin k1 k2 k3 k4 (by have:=k1.length_eq;omega) k5 k6
 constructor
 ·rw[doF_zero,doG_zero,doE_zero,h0,hS'];constructor
  ·rintro⟨a,b,c⟩;exact⟨a,c,(fin a c b).1⟩
  rintro⟨a,b,c⟩;refine⟨a,?_,b⟩;(refine Decidable.byContradiction fun hno=>?_);exact can_big (by omega) c
 intro h;rw[doF_zero,doG_zero,h0,hS']at h;obtain⟨a,b,c⟩:=h;rw[doF_eq a,doG_eq (by rw[h0];exact b)];obtain⟨k1,k2,k3,_⟩:=key a c b;obtain⟨_,f2,f3,f4⟩:=fin a c b;exact⟨k2,k3,f4,by rw[f2,f3]⟩
theorem same_keep {f er:Int} {S0 S':WSt} {N:List TN} {F:List TF} (hS':S'.e=0↔er=0)
  (key:f=0→er=0→N.Perm S'.Ns∧GoodN S'.Ns∧COk S'.Ns S'.Cs S'.next∧(∀n∈S'.Ns,¬n.file<0→fC S'.Cs n.file=fsAt F n.file)∧S'.Ns.length≤256∧F.length≤256∧∀f∈F,f.size≤8192):
  SameD (doF f S0 S') (doE f er N F) (dnT N,dfT N F):=by
 have fin:f=0→er=0→canD N F=0∧dnT N=canNs S'.Ns∧dfT N F=canCs S'.Ns S'.Cs∧LooseOk (canNs S'.Ns) (canCs S'.Ns S'.Cs):=fun a b=>by obtain⟨k1,k2,k3,k4,k7,k5,k6⟩:=key a b;exact can_fin k1 k2 k3 k4 k7 k5 k6
 constructor
 ·rw[doF_zero,doE_zero,hS'];constructor
  ·rintro⟨a,b⟩;exact⟨a,b,(fin a b).1⟩
  rintro⟨a,b,_⟩;exact⟨a,b⟩
 intro h;rw[doF_zero,hS']at h;obtain⟨a,b⟩:=h;rw[doF_eq a];obtain⟨k1,k2,k3,_⟩:=key a b;obtain⟨_,f2,f3,f4⟩:=fin a b;exact⟨k2,k3,f4,by rw[f2,f3]⟩
theorem COk.dir {Ns:List TN} {Cs:List (Nat×Int×Value)} {next:Nat} (h:COk Ns Cs next) {n:TN} (hf:n.file= -1):COk (Ns++[n]) Cs next:=by
 refine⟨h.ids,h.below,fun c hc=>?_,fun m hm=>?_,h.ok⟩
 ·obtain⟨x,hx,e⟩:=h.named c hc;exact⟨x,List.mem_append_left _ hx,e⟩
 rcases List.mem_append.1 hm with hm|hm
 ·exact h.node m hm
 have:m=n:=by simpa using hm
 subst this;exact .inl hf
theorem COk.name {Ns:List TN} {Cs:List (Nat×Int×Value)} {next:Nat} (h:COk Ns Cs next) {n:TN} {c:Nat×Int×Value} (hc:c∈Cs) (hf:n.file=(c.1:Int)):COk (Ns++[n]) Cs next:=by
 refine⟨h.ids,h.below,fun c hc=>?_,fun m hm=>?_,h.ok⟩
 ·obtain⟨x,hx,e⟩:=h.named c hc;exact⟨x,List.mem_append_left _ hx,e⟩
 rcases List.mem_append.1 hm with hm|hm
 ·exact h.node m hm
 have:m=n:=by simpa using hm
 subst this;exact .inr ⟨c,hc,hf⟩
theorem COk.new {Ns:List TN} {Cs:List (Nat×Int×Value)} {next:Nat} (h:COk Ns Cs next) {n:TN} {c:Nat×Int×Value} (hf:n.file=(next:Int)) (hc:c.1=next) (hm:modeOk c.2.1=true) (hd:dvLen c.2.2≤8192):COk (Ns++[n]) (Cs++[c]) (next+1):=by
 refine⟨?_,fun x hx=>?_,fun x hx=>?_,fun m hm=>?_,fun x hx=>?_⟩
 ·rw[List.pairwise_append];refine⟨h.ids,by simp,fun a ha b hb=>?_⟩;(have:b=c:=by simpa using hb);subst this;have:=h.below a ha;omega
 ·rcases List.mem_append.1 hx with hx|hx
  ·have:=h.below x hx;omega
  (have:x=c:=by simpa using hx);subst this;omega
 ·rcases List.mem_append.1 hx with hx|hx
  ·obtain⟨y,hy,e⟩:=h.named x hx;exact⟨y,List.mem_append_left _ hy,e⟩
  (have:x=c:=by simpa using hx);subst this;exact⟨n,by simp,by rw[hf,hc]⟩
 ·rcases List.mem_append.1 hm with hm|hm
  ·rcases h.node m hm with h1|⟨x,hx,e⟩
   ·exact .inl h1
   exact .inr ⟨x,List.mem_append_left _ hx,e⟩
  (have:m=n:=by simpa using hm);subst this;exact .inr ⟨c,by simp,by rw[hf,hc]⟩
 rcases List.mem_append.1 hx with hx|hx
 ·exact h.ok x hx
 have:x=c:=by simpa using hx
 subst this;exact⟨hm,hd⟩
theorem COk.del {Ns:List TN} {Cs:List (Nat×Int×Value)} {next:Nat} (h:COk Ns Cs next) {q:List UInt8} (hq:∀c∈Cs,∀x∈Ns,x.path=q→x.file=(c.1:Int)→∃m∈Ns,m.path≠q∧m.file=(c.1:Int)):COk (delG Ns q) Cs next:=by
 refine⟨h.ids,h.below,fun c hc=>?_,fun m hm=>h.node m (delG_mem.1 hm).1,h.ok⟩;obtain⟨x,hx,e⟩:=h.named c hc;by_cases hp:x.path=q
 ·obtain⟨m,h1,h2,h3⟩:=hq c hc x hx hp e;exact⟨m,delG_mem.2 ⟨h1,h2⟩,h3⟩
 exact⟨x,delG_mem.2 ⟨hx,hp⟩,e⟩
theorem fC_app {Cs:List (Nat×Int×Value)} {c:Nat×Int×Value} {i:Int} (h:(c.1:Int)≠i):fC (Cs++[c]) i=fC Cs i:=by
 unfold fC;rw[List.find?_append];have:[c].find? (fun d=>decide ((d.1:Int)=i))=none:=by rw[List.find?_cons];(have:decide ((c.1:Int)=i)=false:=by simpa using h);rw[this];rfl
 rw[this];cases Cs.find? (fun d=>decide ((d.1:Int)=i))<;>rfl
theorem fsAt_app {F:List TF} {x:TF} {i:Int} (h0:0≤i) (h:i<(F.length:Int)):fsAt (F++[x]) i=fsAt F i:=by unfold fsAt;rw[gH,gH,List.getElem?_append_left (by omega)]
theorem fsAt_new {F:List TF} {x:TF}:fsAt (F++[x]) (F.length:Int)=x:=by unfold fsAt;rw[gH,Int.toNat_natCast,List.getElem?_append_right (Nat.le_refl _),Nat.sub_self];rfl
theorem old_fC (ho:LooseOk ns fs) (hl:vs.length=fs.length) (hs:SizesOk fs vs) {n:TN} (hn:n∈ns) (hf:¬n.file<0):(∃k:Nat,n.file=(k:Int)∧k<fs.length)∧fC (cs0 fs vs) n.file=fsAt fs n.file:=by obtain⟨_,h1,h2,_⟩:=ho.mem hn;obtain⟨k,hk⟩:∃k:Nat,n.file=(k:Int):=⟨n.file.toNat,by omega⟩;refine⟨⟨k,hk,by omega⟩,?_⟩;rw[hk];exact cs0_fC hl hs (by omega)
theorem new_fC (ho:LooseOk ns fs) (hl:vs.length=fs.length) (hs:SizesOk fs vs) {q:List UInt8} {c:Nat×Int×Value} {x:TF} (hc:c.1=fs.length) (hx:x=⟨c.2.1,dvLen c.2.2⟩) (hids:(cs0 fs vs++[c]).Pairwise fun a b=>a.1≠b.1):∀n∈ns++[⟨q,(fs.length:Int),0⟩],¬n.file<0→fC (cs0 fs vs++[c]) n.file=fsAt (fs++[x]) n.file:=by
 intro n hn hf;rcases List.mem_append.1 hn with hn|hn
 ·obtain⟨⟨k,hk,hkl⟩,h1⟩:=old_fC ho hl hs hn hf;rw[fC_app (by omega),fsAt_app (by omega) (by omega)];exact h1
 have:n=⟨q,(fs.length:Int),0⟩:=by simpa using hn
 subst this;show fC (cs0 fs vs++[c]) (fs.length:Int)=fsAt (fs++[x]) (fs.length:Int)
 rw[fsAt_new,←hc,fC_at hids (by simp),hx]
end
def docErr (op:Int) (p tz:List UInt8) (ns:List TN):Int:=
 if op=1 then absentE ns p
 else if op=2 then(if presentE ns p=0 then(if(nodeOr ns p).file= -1 then(if cntK ns p=0 then 0 else 25)else 22)else presentE ns p)
 else if op=3 then bothE ns p tz
 else if op=4 then bothE ns p tz
 else if op=5 then(if presentE ns p=0 then(if(nodeOr ns p).file= -1 then 24 else 0)else presentE ns p)
 else if op=6 then absentE ns p
 else if op=7 then bothE ns p tz
 else presentE ns p
def docN (op:Int) (p tz:List UInt8) (mode:Int) (T:TR):List TN:=
 if op=1 then T.1++[⟨p, -1,mode⟩]
 else if op=2 then T.1.take (pathI T.1 p)++T.1.drop (pathI T.1 p+1)
 else if op=3 then T.1.set (pathI T.1 p) ⟨tz,(nodeOr T.1 p).file,(nodeOr T.1 p).mode⟩
 else if op=4 then T.1++[⟨tz,(nodeOr T.1 p).file,0⟩]
 else if op=5 then T.1.take (pathI T.1 p)++T.1.drop (pathI T.1 p+1)
 else if op=6 then T.1++[⟨p,T.2.length,0⟩]
 else if op=7 then T.1++[⟨tz,T.2.length,0⟩]
 else if(nodeOr T.1 p).file= -1 then T.1.set (pathI T.1 p) ⟨(nodeOr T.1 p).path, -1,mode⟩else T.1
def docF (op:Int) (p tz:List UInt8) (mode ref:Int) (cs:List Value) (T:TR):List TF:=
 if op=6 then T.2++[⟨mode,dvLen (cs.getD ref.toNat (.slice none 0 0))⟩]
 else if op=7 then T.2++[⟨mode,(fsAt T.2 (nodeOr T.1 p).file).size⟩]
 else if op=8 then(if(nodeOr T.1 p).file= -1 then T.2 else T.2.set (nodeOr T.1 p).file.toNat ⟨mode,(fsAt T.2 (nodeOr T.1 p).file).size⟩)
 else T.2
def docE (op:Int) (p tz:List UInt8) (mode ref:Int) (cs:List Value) (T:TR):Int:=
 if op<1∨9<op then 34 else if op=9 then 0 else doE (firstD op p tz mode ref cs) (docErr op p tz T.1) (docN op p tz mode T) (docF op p tz mode ref cs T)
def docT (op:Int) (p tz:List UInt8) (mode ref:Int) (cs:List Value) (T:TR):TR:=
 if op=9 then T else(dnT (docN op p tz mode T),dfT (docN op p tz mode T) (docF op p tz mode ref cs T))
section
variable {ns:List TN} {fs:List TF} {vs:List Value} (ho:LooseOk ns fs) (hl:vs.length=fs.length) (hs:SizesOk fs vs) (p tz:List UInt8) (mode ref:Int) (cs:List Value)
include ho hl hs
theorem same_1 :SameD (doP1 p tz mode ref cs ⟨0,ns,cs0 fs vs,fs.length⟩) (doE (firstP true false 1 p tz mode ref cs) (absentE ns p) (ns++[⟨p, -1,mode⟩]) fs) (dnT (ns++[⟨p, -1,mode⟩]),dfT (ns++[⟨p, -1,mode⟩]) fs):=by
 unfold doP1;refine same_add (ns:=ns) rfl ?_ (by simp) fun hf he h9=>?_
 ·unfold mkdirP;by_cases h:absentE ns p=0
  ·rw[if_pos h];exact⟨fun _=>h,fun _=>rfl⟩
  rw[if_neg h]
 obtain⟨f1,_,f3,_⟩:=firstP_ok hf;obtain⟨a1,a2⟩:=absent_two he;obtain⟨m0,m1⟩:=f3 rfl;have e:mkdirP p mode ⟨0,ns,cs0 fs vs,fs.length⟩=⟨0,ns++[⟨p, -1,mode⟩],cs0 fs vs,fs.length⟩:=by unfold mkdirP;rw[if_pos he]
 rw[e];have hg:=good_start ho;refine⟨.refl _,hg.add a2 f1 (look_upD hg.file1 f1 a1) (.inl ⟨rfl,by unfold modeOk;simp;omega⟩),(cOk_start ho hl hs).dir rfl,fun n hn hnf=>?_,ho.few2,ho.size⟩;rcases List.mem_append.1 hn with hn|hn
 ·exact(old_fC ho hl hs hn hnf).2
 have:n=⟨p, -1,mode⟩:=by simpa using hn
 subst this;exact absurd (by show(-1:Int)<0;omega) hnf
theorem same_6 :SameD (doP6 p tz mode ref cs ⟨0,ns,cs0 fs vs,fs.length⟩) (doE (firstP true false 6 p tz mode ref cs) (absentE ns p) (ns++[⟨p,fs.length,0⟩]) (fs++[⟨mode,dvLen (cs.getD ref.toNat (.slice none 0 0))⟩])) (dnT (ns++[⟨p,fs.length,0⟩]),dfT (ns++[⟨p,fs.length,0⟩]) (fs++[⟨mode,dvLen (cs.getD ref.toNat (.slice none 0 0))⟩])):=by
 unfold doP6;generalize hdv:cs.getD ref.toNat (.slice none 0 0)=dv;refine same_add (ns:=ns) rfl ?_ (by simp) fun hf he h9=>?_
 ·unfold writeP;by_cases h:absentE ns p=0
  ·rw[if_pos h];exact⟨fun _=>h,fun _=>rfl⟩
  rw[if_neg h]
 obtain⟨f1,_,f3,f4⟩:=firstP_ok hf;obtain⟨a1,a2⟩:=absent_two he;obtain⟨m0,m1⟩:=f3 rfl;obtain⟨_,_,r3⟩:=f4 rfl;rw[hdv]at r3;have e:writeP p mode dv ⟨0,ns,cs0 fs vs,fs.length⟩=⟨0,ns++[⟨p,fs.length,0⟩],cs0 fs vs++[(fs.length,mode,dv)],fs.length+1⟩:=by unfold writeP;rw[if_pos he]
 rw[e];have hg:=good_start ho;have hc:=(cOk_start ho hl hs).new (n:=⟨p,fs.length,0⟩) (c:=(fs.length,mode,dv)) rfl rfl (by unfold modeOk;simp;omega) r3;refine⟨.refl _,hg.add a2 f1 (look_upD hg.file1 f1 a1) (.inr ⟨by show(0:Int)≤(fs.length:Int);omega,rfl⟩),hc,new_fC ho hl hs rfl rfl hc.ids,by have:=ho.le;rw[List.length_append,List.length_singleton];omega,fun f hf2=>?_⟩;rcases List.mem_append.1 hf2 with hf2|hf2
 ·exact ho.size f hf2
 have:f=⟨mode,dvLen dv⟩:=by simpa using hf2
 subst this;exact r3
theorem file_cont {n:TN} (hn:n∈ns) (hnf:0≤n.file):∃c∈cs0 fs vs,n.file=(c.1:Int)∧contAt (cs0 fs vs) n.file=c.2.2∧dvLen c.2.2=(fsAt fs n.file).size∧c.2.1=(fsAt fs n.file).mode∧n.mode=0:=by
 have hc:=cOk_start ho hl hs;rcases hc.node n hn with h1|⟨c,h1,h2⟩
 ·omega
 have h3:=(old_fC ho hl hs hn (by omega)).2;have h4:=fC_at hc.ids h1;rw[h2]at h3;refine⟨c,h1,h2,by rw[h2];exact contAt_at hc.ids h1,?_,?_,?_⟩
 ·rw[h2,←h3,h4]
 ·rw[h2,←h3,h4]
 obtain⟨_,_,_,_,h5⟩:=ho.mem hn;exact h5 (by omega)
theorem same_7 :SameD (doP7 p tz mode ref cs ⟨0,ns,cs0 fs vs,fs.length⟩) (doE (firstP true true 7 p tz mode ref cs) (bothE ns p tz) (ns++[⟨tz,fs.length,0⟩]) (fs++[⟨mode,(fsAt fs (nodeOr ns p).file).size⟩])) (dnT (ns++[⟨tz,fs.length,0⟩]),dfT (ns++[⟨tz,fs.length,0⟩]) (fs++[⟨mode,(fsAt fs (nodeOr ns p).file).size⟩])):=by
 unfold doP7;refine same_add (ns:=ns) rfl ?_ (by simp) fun hf he h9=>?_
 ·unfold copyP;by_cases h:bothE ns p tz=0
  ·rw[if_pos h];exact⟨fun _=>h,fun _=>rfl⟩
  rw[if_neg h]
 obtain⟨f1,f2,f3,_⟩:=firstP_ok hf;obtain⟨b1,b2⟩:=both_two he;obtain⟨a1,a2⟩:=absent_two b2;obtain⟨_,n,n1,n2,n3,n4⟩:=file_two b1;obtain⟨m0,m1⟩:=f3 rfl;have hnm:=(find_mem n1).1;obtain⟨c,c1,c2,c3,c4,c5,_⟩:=file_cont ho hl hs hnm n4;have e:copyP p tz mode ⟨0,ns,cs0 fs vs,fs.length⟩=⟨0,ns++[⟨tz,fs.length,0⟩],cs0 fs vs++[(fs.length,mode,c.2.2)],fs.length+1⟩:=by unfold copyP;rw[if_pos he];(show WSt.mk 0 _ (cs0 fs vs++[(fs.length,mode,contAt (cs0 fs vs) (nodeL ns p).file)]) _=_);rw[n2,c3]
 rw[e,n3];have hg:=good_start ho;have hv:=f2 rfl;have hsz:=(cOk_start ho hl hs).ok c c1;have hc:=(cOk_start ho hl hs).new (n:=⟨tz,fs.length,0⟩) (c:=(fs.length,mode,c.2.2)) rfl rfl (by unfold modeOk;simp;omega) hsz.2;refine⟨.refl _,hg.add a2 hv (look_upD hg.file1 hv a1) (.inr ⟨by show(0:Int)≤(fs.length:Int);omega,rfl⟩),hc,new_fC ho hl hs rfl (by rw[←c4]) hc.ids,by have:=ho.le;rw[List.length_append,List.length_singleton];omega,fun f hf2=>?_⟩;rcases List.mem_append.1 hf2 with hf2|hf2
 ·exact ho.size f hf2
 have:f=⟨mode,(fsAt fs n.file).size⟩:=by simpa using hf2
 subst this;show(fsAt fs n.file).size≤8192
 rw[←c4];exact hsz.2
theorem same_4 :SameD (doP4 p tz mode ref cs ⟨0,ns,cs0 fs vs,fs.length⟩) (doE (firstP false true 4 p tz mode ref cs) (bothE ns p tz) (ns++[⟨tz,(nodeOr ns p).file,0⟩]) fs) (dnT (ns++[⟨tz,(nodeOr ns p).file,0⟩]),dfT (ns++[⟨tz,(nodeOr ns p).file,0⟩]) fs):=by
 unfold doP4;refine same_add (ns:=ns) rfl ?_ (by simp) fun hf he h9=>?_
 ·unfold linkP;by_cases h:bothE ns p tz=0
  ·rw[if_pos h];exact⟨fun _=>h,fun _=>rfl⟩
  rw[if_neg h]
 obtain⟨f1,f2,f3,_⟩:=firstP_ok hf;obtain⟨b1,b2⟩:=both_two he;obtain⟨a1,a2⟩:=absent_two b2;obtain⟨_,n,n1,n2,n3,n4⟩:=file_two b1;have hnm:=(find_mem n1).1;obtain⟨c,c1,c2,c3,c4,c5,_⟩:=file_cont ho hl hs hnm n4;have e:linkP p tz ⟨0,ns,cs0 fs vs,fs.length⟩=⟨0,ns++[⟨tz,n.file,0⟩],cs0 fs vs,fs.length⟩:=by unfold linkP;rw[if_pos he];(show WSt.mk 0 (ns++[⟨tz,(nodeL ns p).file,0⟩]) _ _=_);rw[n2]
 rw[e,n3];have hg:=good_start ho;have hv:=f2 rfl;refine⟨.refl _,hg.add a2 hv (look_upD hg.file1 hv a1) (.inr ⟨n4,rfl⟩),(cOk_start ho hl hs).name c1 c2,fun x hx hxf=>?_,ho.few2,ho.size⟩;rcases List.mem_append.1 hx with hx|hx
 ·exact(old_fC ho hl hs hx hxf).2
 have:x=⟨tz,n.file,0⟩:=by simpa using hx
 subst this;exact(old_fC ho hl hs hnm (by omega)).2
theorem same_3 :SameD (doP3 p tz mode ref cs ⟨0,ns,cs0 fs vs,fs.length⟩) (doE (firstP false true 3 p tz mode ref cs) (bothE ns p tz) (ns.set (pathI ns p) ⟨tz,(nodeOr ns p).file,(nodeOr ns p).mode⟩) fs) (dnT (ns.set (pathI ns p) ⟨tz,(nodeOr ns p).file,(nodeOr ns p).mode⟩),dfT (ns.set (pathI ns p) ⟨tz,(nodeOr ns p).file,(nodeOr ns p).mode⟩) fs):=by
 unfold doP3;refine same_keep ?_ fun hf he=>?_
 ·unfold renameP;by_cases h:bothE ns p tz=0
  ·rw[if_pos h];exact⟨fun _=>h,fun _=>rfl⟩
  rw[if_neg h]
 obtain⟨f1,f2,f3,_⟩:=firstP_ok hf;obtain⟨b1,b2⟩:=both_two he;obtain⟨a1,a2⟩:=absent_two b2;obtain⟨_,n,n1,n2,n3,n4⟩:=file_two b1;have hnm:=(find_mem n1).1;have hnp:=(find_mem n1).2;obtain⟨c,c1,c2,c3,c4,c5,c6⟩:=file_cont ho hl hs hnm n4;have hto:tz≠p:=fun e=>by have:=not_has a2 n hnm;exact this (by rw[hnp,e])
 have e:renameP p tz ⟨0,ns,cs0 fs vs,fs.length⟩=⟨0,delG (ns++[⟨tz,n.file,0⟩]) p,cs0 fs vs,fs.length⟩:=by unfold renameP;rw[if_pos he];(show WSt.mk 0 (delG (ns++[⟨tz,(nodeL ns p).file,0⟩]) p) _ _=_);rw[n2]
 rw[e,n3,c6];have hg:=good_start ho;have hv:=f2 rfl;have hadd:=hg.add (n:=⟨tz,n.file,0⟩) a2 hv (look_upD hg.file1 hv a1) (.inr ⟨n4,rfl⟩);have hca:=(cOk_start ho hl hs).name (n:=⟨tz,n.file,0⟩) c1 c2;have hpf:=path_found n1;have e2:delG (ns++[⟨tz,n.file,0⟩]) p=delG ns p++[⟨tz,n.file,0⟩]:=by unfold delG;rw[List.filter_append];congr 1;rw[List.filter_cons,if_pos (by simpa using hto)];rfl
 have hsp:=at_split ho.ne hpf.1;rw[hnp]at hsp;refine⟨?_,?_,?_,fun x hx hxf=>?_,?_,ho.few2,ho.size⟩
 ·(show(ns.set (pathI ns p) ⟨tz,n.file,0⟩).Perm (delG (ns++[⟨tz,n.file,0⟩]) p));rw[e2,hsp];exact set_perm hpf.1
 ·have h1:=hadd.del (n:=n) (List.mem_append_left _ hnm) (fun h=>by omega);rw[hnp]at h1;exact h1
 ·(refine hca.del fun c' hc' x hx hxp hxf=>?_);have hxn:x=n:=uniq_path hadd.ne (List.mem_append_left _ hnm) hx (by rw[hxp,hnp]);subst hxn;exact⟨⟨tz,x.file,0⟩,by simp,hto,hxf⟩
 ·have hx1:=(delG_mem.1 hx).1;rcases List.mem_append.1 hx1 with hx1|hx1
  ·exact(old_fC ho hl hs hx1 hxf).2
  (have:x=⟨tz,n.file,0⟩:=by simpa using hx1);subst this;exact(old_fC ho hl hs hnm (by omega)).2
 have h1:(ns.set (pathI ns p) ⟨tz,n.file,0⟩).length=(delG (ns++[⟨tz,n.file,0⟩]) p).length:=by rw[e2,hsp];exact(set_perm hpf.1).length_eq
 rw[List.length_set]at h1;have:=ho.few;show(delG (ns++[⟨tz,n.file,0⟩]) p).length≤256
 omega
theorem same_2 :SameD (doP2 p tz mode ref cs ⟨0,ns,cs0 fs vs,fs.length⟩) (doE (firstP false false 2 p tz mode ref cs) (if presentE ns p=0 then(if(nodeOr ns p).file= -1 then(if cntK ns p=0 then 0 else 25)else 22)else presentE ns p) (ns.take (pathI ns p)++ns.drop (pathI ns p+1)) fs) (dnT (ns.take (pathI ns p)++ns.drop (pathI ns p+1)),dfT (ns.take (pathI ns p)++ns.drop (pathI ns p+1)) fs):=by
 unfold doP2;have hg:=good_start ho;refine same_keep ?_ fun hf he=>?_
 ·unfold rmdirP;by_cases h:presentE ns p=0
  ·rw[if_pos h,if_pos h];obtain⟨_,n,n1,n2,n3⟩:=present_two h;have hnm:=(find_mem n1).1;have h1:=hg.file1 n hnm;(show(if 0≤(nodeL ns p).file then _ else _:WSt).e=0↔_);rw[n2,n3];by_cases hf:n.file= -1
   ·rw[if_neg (by omega),if_pos hf];by_cases hk:cntK ns p=0
    ·rw[if_pos hk,if_neg (by show ¬0<cntK ns p;omega)]
    rw[if_neg hk,if_pos (by show 0<cntK ns p;omega)]
   rw[if_pos (by omega),if_neg hf]
  rw[if_neg h,if_neg h]
 by_cases h:presentE ns p=0
 case neg=>rw[if_neg h]at he;exact absurd he h
 rw[if_pos h]at he;obtain⟨_,n,n1,n2,n3⟩:=present_two h;have hnm:=(find_mem n1).1;have hnp:=(find_mem n1).2;rw[n3]at he;have hnf:n.file= -1:=Decidable.byContradiction fun hno=>by rw[if_neg hno]at he;cases he
 rw[if_pos hnf]at he;have hk:cntK ns p=0:=Decidable.byContradiction fun hno=>by rw[if_neg hno]at he;cases he
 have e:rmdirP p ⟨0,ns,cs0 fs vs,fs.length⟩=⟨0,delG ns p,cs0 fs vs,fs.length⟩:=by unfold rmdirP;rw[if_pos h];(show(if 0≤(nodeL ns p).file then _ else if 0<cntK ns p then _ else _:WSt)=_);rw[n2,if_neg (by omega),if_neg (by omega)]
 rw[e];have hpf:=path_found n1;have hsp:=at_split ho.ne hpf.1;rw[hnp]at hsp;refine⟨?_,?_,?_,fun x hx hxf=>(old_fC ho hl hs (delG_mem.1 hx).1 hxf).2,?_,ho.few2,ho.size⟩
 ·(show(ns.take (pathI ns p)++ns.drop (pathI ns p+1)).Perm (delG ns p));rw[hsp]
 ·(have h1:=hg.del hnm fun _ m hm e=>by unfold cntK at hk;rw[List.countP_eq_zero]at hk;exact hk m hm (by rw[e,hnp];simp));rw[hnp]at h1;exact h1
 ·(refine(cOk_start ho hl hs).del fun c hc x hx hxp hxf=>?_);have hxn:x=n:=uniq_path ho.ne hnm hx (by rw[hxp,hnp]);subst hxn;omega
 have h1:=(del_sub (Ns:=ns) (p:=p)).length_le;have:=ho.few;show(delG ns p).length≤256
 omega
theorem same_5 :SameD (doP5 p tz mode ref cs ⟨0,ns,cs0 fs vs,fs.length⟩) (doE (firstP false false 5 p tz mode ref cs) (if presentE ns p=0 then(if(nodeOr ns p).file= -1 then 24 else 0)else presentE ns p) (ns.take (pathI ns p)++ns.drop (pathI ns p+1)) fs) (dnT (ns.take (pathI ns p)++ns.drop (pathI ns p+1)),dfT (ns.take (pathI ns p)++ns.drop (pathI ns p+1)) fs):=by
 unfold doP5;have hg:=good_start ho;refine same_keep ?_ fun hf he=>?_
 ·have e0:(unlinkP p ⟨0,ns,cs0 fs vs,fs.length⟩).e=0↔fileE ns p=0:=by
   unfold unlinkP;by_cases h:fileE ns p=0
   ·rw[if_pos h];exact⟨fun _=>h,fun _=>rfl⟩
   rw[if_neg h]
  rw[e0];unfold fileE;by_cases h:presentE ns p=0
  ·rw[if_pos h,if_pos h];obtain⟨_,n,n1,n2,n3⟩:=present_two h;have hnm:=(find_mem n1).1;have h1:=hg.file1 n hnm;rw[n2,n3];by_cases hf:n.file= -1
   ·rw[if_pos (by omega),if_pos hf]
   rw[if_neg (by omega),if_neg hf]
  rw[if_neg h,if_neg h]
 by_cases h:presentE ns p=0
 case neg=>rw[if_neg h]at he;exact absurd he h
 rw[if_pos h]at he;obtain⟨_,n,n1,n2,n3⟩:=present_two h;have hnm:=(find_mem n1).1;have hnp:=(find_mem n1).2;rw[n3]at he;have hnf:¬n.file= -1:=fun hno=>by rw[if_pos hno]at he;cases he
 have hn1:=hg.file1 n hnm;have hfe:fileE ns p=0:=by unfold fileE;rw[if_pos h,n2,if_neg (by omega)]
 obtain⟨C,hC⟩:∃C,(cs0 fs vs).filter (fun c=>decide (2≤cntF ns c.1)|| !decide ((c.1:Int)=n.file))=C:=⟨_,rfl⟩;have e:unlinkP p ⟨0,ns,cs0 fs vs,fs.length⟩=⟨0,delG ns p,C,fs.length⟩:=by unfold unlinkP;rw[if_pos hfe];(show WSt.mk 0 (delG ns p) ((cs0 fs vs).filter (fun c=>decide (2≤cntF ns c.1)|| !decide ((c.1:Int)=(nodeL ns p).file))) _=_);rw[n2,hC]
 rw[e];have hpf:=path_found n1;have hsp:=at_split ho.ne hpf.1;rw[hnp]at hsp;have hc:=cOk_start ho hl hs;have hmC:∀c,c∈C↔c∈cs0 fs vs∧(2≤cntF ns c.1∨(c.1:Int)≠n.file):=fun c=>by rw[←hC,List.mem_filter,Bool.or_eq_true,decide_eq_true_iff,Bool.not_eq_true',decide_eq_false_iff_not]
 have hids:C.Pairwise fun a b=>a.1≠b.1:=by rw[←hC];exact hc.ids.sublist List.filter_sublist
 have hleft:∀x∈delG ns p,∀c∈cs0 fs vs,x.file=(c.1:Int)→c∈C:=fun x hx c hcm hxf=>by
  rw[hmC];refine⟨hcm,?_⟩;by_cases hcn:(c.1:Int)=n.file
  ·left;have h1:=cntF_del ho.ne hnm c.1;rw[if_pos hcn.symm,hnp]at h1;have h2:=cntF_pos (k:=c.1) hx hxf;omega
  exact .inr hcn
 refine⟨?_,?_,⟨hids,fun c hc2=>hc.below c ((hmC c).1 hc2).1,fun c hc2=>?_,fun x hx=>?_,fun c hc2=>hc.ok c ((hmC c).1 hc2).1⟩,fun x hx hxf=>?_,?_,ho.few2,ho.size⟩
 ·(show(ns.take (pathI ns p)++ns.drop (pathI ns p+1)).Perm (delG ns p));rw[hsp]
 ·(have h1:=hg.del hnm fun h=>absurd h hnf);rw[hnp]at h1;exact h1
 ·obtain⟨c1,c2⟩:=(hmC c).1 hc2;obtain⟨x,hx,hxf⟩:=hc.named c c1;by_cases hxn:x.path=p
  ·have:x=n:=uniq_path ho.ne hnm hx (by rw[hxn,hnp]);subst this;rcases c2 with c2|c2
   ·have h1:=cntF_del ho.ne hx c.1;rw[if_pos hxf,hnp]at h1;(have h2:0<cntF (delG ns p) c.1:=by omega);unfold cntF at h2;obtain⟨y,hy,hyf⟩:=List.countP_pos_iff.1 h2;exact⟨y,hy,by simpa using hyf⟩
   exact absurd hxf.symm c2
  exact⟨x,delG_mem.2 ⟨hx,hxn⟩,hxf⟩
 ·rcases hc.node x (delG_mem.1 hx).1 with h1|⟨c,h1,h2⟩
  ·exact .inl h1
  exact .inr ⟨c,hleft x hx c h1 h2,h2⟩
 ·(show fC C x.file=_);have hx1:=(delG_mem.1 hx).1;rcases hc.node x hx1 with h1|⟨c,h1,h2⟩
  ·omega
  have h3:=(old_fC ho hl hs hx1 hxf).2;rw[←h3,h2,fC_at hids (hleft x hx c h1 h2),fC_at hc.ids h1]
 have h1:=(del_sub (Ns:=ns) (p:=p)).length_le;have:=ho.few;show(delG ns p).length≤256
 omega
theorem same_8 :SameD (doP8 p tz mode ref cs ⟨0,ns,cs0 fs vs,fs.length⟩) (doE (firstP true false 8 p tz mode ref cs) (presentE ns p) (if(nodeOr ns p).file= -1 then ns.set (pathI ns p) ⟨(nodeOr ns p).path, -1,mode⟩else ns) (if(nodeOr ns p).file= -1 then fs else fs.set (nodeOr ns p).file.toNat ⟨mode,(fsAt fs (nodeOr ns p).file).size⟩)) (dnT (if(nodeOr ns p).file= -1 then ns.set (pathI ns p) ⟨(nodeOr ns p).path, -1,mode⟩else ns),dfT (if(nodeOr ns p).file= -1 then ns.set (pathI ns p) ⟨(nodeOr ns p).path, -1,mode⟩else ns) (if(nodeOr ns p).file= -1 then fs else fs.set (nodeOr ns p).file.toNat ⟨mode,(fsAt fs (nodeOr ns p).file).size⟩)):=by
 unfold doP8;have hg:=good_start ho;refine same_keep ?_ fun hf he=>?_
 ·unfold chmodP;by_cases h:presentE ns p=0
  ·rw[if_pos h];(show(if(nodeL ns p).file<0 then _ else _:WSt).e=0↔_);split
   ·exact⟨fun _=>h,fun _=>rfl⟩
   exact⟨fun _=>h,fun _=>rfl⟩
  rw[if_neg h]
 obtain⟨_,n,n1,n2,n3⟩:=present_two he;obtain⟨f1,_,f3,_⟩:=firstP_ok hf;obtain⟨m0,m1⟩:=f3 rfl;have hmo:modeOk mode=true:=by unfold modeOk;simp;omega
 have hnm:=(find_mem n1).1;have hnp:=(find_mem n1).2;have hn1:=hg.file1 n hnm;have hpf:=path_found n1;have hc:=cOk_start ho hl hs;rw[n3];by_cases hnf:n.file= -1
 ·rw[if_pos hnf,if_pos hnf,hnp];(have e:chmodP p mode ⟨0,ns,cs0 fs vs,fs.length⟩=⟨0,delG ns p++[⟨p, -1,mode⟩],cs0 fs vs,fs.length⟩:=by unfold chmodP;rw[if_pos he];(show(if(nodeL ns p).file<0 then _ else _:WSt)=_);rw[n2,if_pos (by omega)];rfl);rw[e];have hsp:=at_split ho.ne hpf.1;rw[hnp]at hsp;(have hperm:(ns.set (pathI ns p) ⟨p, -1,mode⟩).Perm (delG ns p++[⟨p, -1,mode⟩]):=by rw[hsp];exact set_perm hpf.1);refine⟨hperm,⟨?_,fun m hm=>?_,fun m hm=>?_,fun m hm=>?_⟩,⟨hc.ids,hc.below,fun c hc2=>?_,fun m hm=>?_,hc.ok⟩,fun x hx hxf=>?_,?_,ho.few2,ho.size⟩
  ·rw[List.pairwise_append];refine⟨ho.ne.sublist del_sub,by simp,fun a ha b hb=>?_⟩;(have:b=⟨p, -1,mode⟩:=by simpa using hb);subst this;exact(delG_mem.1 ha).2
  ·rcases List.mem_append.1 hm with hm|hm
   ·exact hg.valid m (delG_mem.1 hm).1
   (have:m=⟨p, -1,mode⟩:=by simpa using hm);subst this;exact f1
  ·have hup:UpAt ns m.path:=by
    rcases List.mem_append.1 hm with hm|hm
    ·exact hg.up m (delG_mem.1 hm).1
    (have:m=⟨p, -1,mode⟩:=by simpa using hm);subst this;have:=hg.up n hnm;rw[hnp]at this;exact this
   rcases hup with h1|⟨x,hx,h2,h3⟩
   ·exact .inl h1
   by_cases hxp:x.path=p
   ·exact .inr ⟨⟨p, -1,mode⟩,by simp,by rw[←h2,hxp],rfl⟩
   exact .inr ⟨x,List.mem_append_left _ (delG_mem.2 ⟨hx,hxp⟩),h2,h3⟩
  ·rcases List.mem_append.1 hm with hm|hm
   ·exact hg.file m (delG_mem.1 hm).1
   (have:m=⟨p, -1,mode⟩:=by simpa using hm);subst this;exact .inl ⟨rfl,hmo⟩
  ·obtain⟨x,hx,hxf⟩:=hc.named c hc2;refine⟨x,List.mem_append_left _ (delG_mem.2 ⟨hx,fun hxp=>?_⟩),hxf⟩;have:x=n:=uniq_path ho.ne hnm hx (by rw[hxp,hnp]);subst this;omega
  ·rcases List.mem_append.1 hm with hm|hm
   ·exact hc.node m (delG_mem.1 hm).1
   (have:m=⟨p, -1,mode⟩:=by simpa using hm);subst this;exact .inl rfl
  ·rcases List.mem_append.1 hx with hx|hx
   ·exact(old_fC ho hl hs (delG_mem.1 hx).1 hxf).2
   (have:x=⟨p, -1,mode⟩:=by simpa using hx);subst this;exact absurd (by show(-1:Int)<0;omega) hxf
  have h1:=hperm.length_eq;rw[List.length_set]at h1;have:=ho.few;(show(delG ns p++[(⟨p, -1,mode⟩:TN)]).length≤256);omega
 rw[if_neg hnf,if_neg hnf];obtain⟨⟨k,hk,hkl⟩,_⟩:=old_fC ho hl hs hnm (by omega);obtain⟨C,hC⟩:∃C,(cs0 fs vs).map (fun c=>if(c.1:Int)=n.file then(c.1,mode,c.2.2)else c)=C:=⟨_,rfl⟩;have e:chmodP p mode ⟨0,ns,cs0 fs vs,fs.length⟩=⟨0,ns,C,fs.length⟩:=by unfold chmodP;rw[if_pos he];(show(if(nodeL ns p).file<0 then _ else WSt.mk 0 ns ((cs0 fs vs).map (fun c=>if(c.1:Int)=(nodeL ns p).file then(c.1,mode,c.2.2)else c)) _:WSt)=_);rw[n2,if_neg (by omega),hC]
 rw[e];have hfst:∀c:Nat×Int×Value,(if(c.1:Int)=n.file then(c.1,mode,c.2.2)else c).1=c.1:=fun c=>by split<;>rfl
 have hids:C.Pairwise fun a b=>a.1≠b.1:=by rw[←hC,List.pairwise_map];exact hc.ids.imp fun {a b} h=>by rw[hfst,hfst];exact h
 have hof:∀c∈C,∃d∈cs0 fs vs,c=if(d.1:Int)=n.file then(d.1,mode,d.2.2)else d:=fun c hc2=>by rw[←hC]at hc2;obtain⟨d,hd,e⟩:=List.mem_map.1 hc2;exact⟨d,hd,e.symm⟩
 have hto:∀d∈cs0 fs vs,(if(d.1:Int)=n.file then(d.1,mode,d.2.2)else d)∈C:=fun d hd=>by rw[←hC];exact List.mem_map_of_mem hd
 refine⟨.refl _,hg,⟨hids,fun c hc2=>?_,fun c hc2=>?_,fun m hm=>?_,fun c hc2=>?_⟩,fun x hx hxf=>?_,ho.few,by rw[List.length_set];exact ho.few2,fun f hf2=>?_⟩
 ·obtain⟨d,hd,rfl⟩:=hof c hc2;rw[hfst];exact hc.below d hd
 ·obtain⟨d,hd,rfl⟩:=hof c hc2;rw[hfst];exact hc.named d hd
 ·rcases hc.node m hm with h1|⟨d,h1,h2⟩
  ·exact .inl h1
  exact .inr ⟨_,hto d h1,by rw[hfst];exact h2⟩
 ·obtain⟨d,hd,rfl⟩:=hof c hc2;have:=hc.ok d hd;split
  ·exact⟨hmo,this.2⟩
  exact this
 ·obtain⟨⟨j,hj,hjl⟩,h3⟩:=old_fC ho hl hs hx hxf;rcases hc.node x hx with h1|⟨d,h1,h2⟩
  ·omega
  have h4:=fC_at hids (hto d h1);rw[hfst]at h4;have h5:=fC_at hc.ids h1;rw[←h2]at h4 h5;rw[h5]at h3;(show fC C x.file=_);rw[h4];by_cases hd:x.file=n.file
  ·rw[if_pos hd];rw[hd]at h3 ⊢;unfold fsAt;rw[gH,List.getElem?_set_self (by omega),Option.getD_some];unfold fsAt at h3;rw[←h3]
  rw[if_neg hd,h3];unfold fsAt;rw[gH,gH,List.getElem?_set_ne (by omega)]
 obtain⟨j,hj⟩:=List.mem_iff_getElem?.1 hf2;by_cases hjn:n.file.toNat=j
 ·subst hjn;rw[List.getElem?_set_self (by omega)]at hj;cases hj;(show(fsAt fs n.file).size≤8192);unfold fsAt;rw[gH,gE (by omega)];exact ho.size _ (List.getElem_mem _)
 rw[List.getElem?_set_ne hjn]at hj;exact ho.size f (gG hj)
theorem can_self :canNs ns=ns∧canCs ns (cs0 fs vs)=fs:=by
 have hsrt:sortT ns=ns:=by rw[←isort_sortT (List.Perm.refl ns) ho.ne];exact List.Perm.eq_of_pairwise (le:=LessT) (fun a b _ _ h1 h2=>by unfold LessT at h1 h2;have:=bl_trans h1 h2;rw[bl_irrefl]at this;cases this) (isort_sorted ho.ne) ho.up (isort_perm ns)
 have hids:∀i,i≤ns.length→∀m,runK ns i=some m→idsP (ns.take i)=(List.range m).map fun(v:Nat)=>(v:Int):=by
  intro i
  induction i with
  |zero=>intro _ m h;cases h;rfl
  |succ i ih=>
   intro hi m h;have hn:ns[i]? =some ns[i]:=gE (by omega);obtain⟨k,h1,h2,_⟩:=run_at h i (by omega) _ hn;rw[runK_succ h1 hn,h2,if_pos rfl]at h;cases h;have ih2:=ih (by omega) k h1;rw[List.take_add_one,hn];(show idsP (ns.take i++[ns[i]])=_);rw[idsP_snoc,ih2];obtain⟨_,_,_,d1,d2,_⟩:=nodeOk_parts h2;unfold nextK;by_cases hneg:ns[i].file<0
   ·rw[if_pos hneg,if_neg (by omega)]
   rw[if_neg hneg];by_cases hk:ns[i].file=(k:Int)
   ·rw[if_pos hk,if_neg,List.range_succ,List.map_append,hk]
    ·rfl
    rw[hk];intro hm;obtain⟨v,hv,e⟩:=List.mem_map.1 hm;rw[List.mem_range]at hv;omega
   rw[if_neg hk,if_pos];exact List.mem_map.2 ⟨ns[i].file.toNat,List.mem_range.2 (by omega),by omega⟩
 have hid:=hids ns.length (Nat.le_refl _) fs.length ho.run;rw[List.take_length]at hid;constructor
 ·unfold canNs;rw[hsrt,hid]
  conv=>rhs;rw[←List.map_id ns]
  apply List.map_congr_left;intro n hn;unfold renum;by_cases hneg:n.file<0
  ·rw[if_pos hneg];rfl
  rw[if_neg hneg];obtain⟨⟨k,hk,hkl⟩,_⟩:=old_fC ho hl hs hn hneg;(have:((List.range fs.length).map fun(v:Nat)=>(v:Int)).idxOf n.file=k:=by rw[hk];have hnd:((List.range fs.length).map fun(v:Nat)=>(v:Int)).Nodup:=List.pairwise_map.2 (List.nodup_range.imp fun h=>by omega);have h1:=hnd.idxOf_getElem k (by simpa using hkl);simp only[List.getElem_map,List.getElem_range]at h1;exact h1);rw[this,←hk];rfl
 unfold canCs;rw[hsrt,hid,List.map_map];apply List.ext_getElem
 ·simp
 intro k h1 h2;rw[List.getElem_map,List.getElem_range];show fC (cs0 fs vs) (k:Int)=_
 rw[cs0_fC hl hs h2];unfold fsAt;rw[gH,Int.toNat_natCast,gE h2];rfl
theorem sameD_any (op:Int):SameD (doA op p tz mode ref cs ⟨0,ns,cs0 fs vs,fs.length⟩) (docE op p tz mode ref cs (ns,fs)) (docT op p tz mode ref cs (ns,fs)):=by
 unfold doA;by_cases h1:op=1
 ·subst h1;exact same_1 ho hl hs p tz mode ref cs
 rw[if_neg h1];by_cases h2:op=2
 ·subst h2;exact same_2 ho hl hs p tz mode ref cs
 rw[if_neg h2];by_cases h3:op=3
 ·subst h3;exact same_3 ho hl hs p tz mode ref cs
 rw[if_neg h3];by_cases h4:op=4
 ·subst h4;exact same_4 ho hl hs p tz mode ref cs
 rw[if_neg h4];by_cases h5:op=5
 ·subst h5;exact same_5 ho hl hs p tz mode ref cs
 rw[if_neg h5];by_cases h6:op=6
 ·subst h6;exact same_6 ho hl hs p tz mode ref cs
 rw[if_neg h6];by_cases h7:op=7
 ·subst h7;exact same_7 ho hl hs p tz mode ref cs
 rw[if_neg h7];by_cases h8:op=8
 ·subst h8;exact same_8 ho hl hs p tz mode ref cs
 rw[if_neg h8];unfold docE docT;by_cases h9:op=9
 ·rw[if_pos h9,if_neg (by omega),if_pos h9,if_pos h9];obtain⟨c1,c2⟩:=can_self ho hl hs;exact⟨Iff.rfl,fun _=>⟨good_start ho,cOk_start ho hl hs,by show LooseOk (canNs ns) (canCs ns (cs0 fs vs));rw[c1,c2];exact ho,by show(ns,fs)=(canNs ns,canCs ns (cs0 fs vs));rw[c1,c2]⟩⟩
 rw[if_neg h9,if_pos (by omega)];exact⟨⟨fun h=>(by have h':(34:Int)=0:=h;omega),fun h=>(by omega)⟩,fun h=>(by have h':(34:Int)=0:=h;omega)⟩
end
end Go.Proofs.YtimkjnbihlgbiaaGreat
