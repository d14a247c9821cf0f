/- Kit14, Path1, ShelfT, Lent0, InsKit, TreeF, laid together. -/
import Derived.Test.YtimkjnbihlgbiaaGreatJ8
import Derived.Laws.RangeAny
import Derived.ScopeJumps
import Derived.WalkMore
import Derived.LoopTactic
import Derived.Lib.Strings
import Derived.Lib.SmallJoins
import Derived.Shelf.SlLaysM
import Derived.Shelf.Lays
import Derived.Ground.SlgmProg
import Derived.Ground.NamesProg
import Derived.Lib.SliceRun
import Derived.Shelf.Strings.LastIndex
namespace Go.Proofs.YtimkjnbihlgbiaaGreat
open Go.RowKit
set_option linter.unusedVariables false
def RP (xss:List (List Int)) (i j:Nat):Prop:=∃u,u∈adjOf xss i∧Tarjan.Reach (adjOf xss) u j
def pot (xss:List (List Int)) (f:Nat→Bool):Nat:=((List.range xss.length).map fun v=>if f v=true then 0 else(adjOf xss v).length).sum
def updB (f:Nat→Bool) (x:Nat) (b:Bool):Nat→Bool:=fun v=>if v=x then b else f v
theorem sum_upd (h:Nat→Nat) (f:Nat→Bool) (x:Nat) (h0:f x=false):∀n,x<n→
  ((List.range n).map fun v=>if updB f x true v=true then 0 else h v).sum+h x=((List.range n).map fun v=>if f v=true then 0 else h v).sum:=by
 have low:∀n,n≤x→((List.range n).map fun v=>if updB f x true v=true then 0 else h v)=((List.range n).map fun v=>if f v=true then 0 else h v):=by intro n hn;apply List.map_congr_left;intro v hv;have:=List.mem_range.1 hv;(have:v≠x:=by omega);simp[updB,this]
 intro n
 induction n with
 |zero=>intro hx;omega
 |succ m ih=>
  intro hx;simp only[List.range_succ,List.map_append,List.sum_append,List.map_cons,List.map_nil,List.sum_cons,List.sum_nil];by_cases e:x=m
  ·subst e;rw[low x (Nat.le_refl _)];simp[updB,h0]
  have:=ih (by omega);(have hm:¬m=x:=fun h=>e h.symm);(have e2:updB f x true m=f m:=by simp[updB,hm]);rw[e2];omega
theorem pot_upd {xss:List (List Int)} {f:Nat→Bool} {x:Nat} (hx:x<xss.length) (h0:f x=false):pot xss (updB f x true)+(adjOf xss x).length=pot xss f:=
 sum_upd (fun v=>(adjOf xss v).length) f x h0 _ hx
theorem sum_le (h:Nat→Nat) (b:Nat):∀n,(∀v,v<n→h v≤b)→((List.range n).map h).sum≤n*b:=by
 intro n
 induction n with
 |zero=>intro _;simp
 |succ m ih=>intro hb;simp only[List.range_succ,List.map_append,List.sum_append,List.map_cons,List.map_nil,List.sum_cons,List.sum_nil];(have h1:=ih fun v hv=>hb v (by omega));have h2:=hb m (by omega);rw[Nat.succ_mul];omega
theorem adj_len {xss:List (List Int)} {v:Nat} (hv:v<xss.length):(adjOf xss v).length=(xss[v]).length:=by rw[adjOf_at hv,List.length_map]
theorem adj_back {xss:List (List Int)} (hx:refused xss=0) {v:Nat} (hv:v<xss.length):(adjOf xss v).map (fun(u:Nat)=>(u:Int))=xss[v]:=by obtain⟨_,_,hg⟩:=refused_zero hx;rw[adjOf_at hv,List.map_map];apply List.ext_getElem (by simp);intro k h1 h2;have:=hg v hv k h2;simp;omega
theorem pot_le {xss:List (List Int)} (hx:refused xss=0) (f:Nat→Bool):pot xss f≤1048576:=by
 obtain⟨h1,h2,_⟩:=refused_zero hx;have:=sum_le (fun v=>if f v=true then 0 else(adjOf xss v).length) 1024 xss.length fun v hv=>by
  split
  ·omega
  rw[adj_len hv];exact h2 v hv
 have h3:xss.length*1024≤1024*1024:=Nat.mul_le_mul_right _ h1;unfold pot;omega
structure RI (xss:List (List Int)) (i:Nat) (f:Nat→Bool) (L:List Nat):Prop where
 stack:∀x,x∈L→x<xss.length∧RP xss i x
 seen:∀x,f x=true→x<xss.length∧RP xss i x
 from':∀u,u∈adjOf xss i→f u=true∨u∈L
 shut:∀x,f x=true→∀u,u∈adjOf xss x→f u=true∨u∈L
theorem RP.next {xss:List (List Int)} {i x u:Nat} (h:RP xss i x) (hu:u∈adjOf xss x):RP xss i u:=by obtain⟨y,hy,hr⟩:=h;exact⟨y,hy,hr.trans (.step hu (.refl _))⟩
theorem RI.start {xss:List (List Int)} (hx:refused xss=0) {i:Nat} (hi:i<xss.length):RI xss i (fun _=>false) (adjOf xss i):=
 ⟨fun x h=>⟨adj_lt hx hi h,x,h,.refl _⟩,fun x h=>by simp at h,fun u h=>.inr h,fun x h=>by simp at h⟩
theorem RI.old {xss:List (List Int)} {i x:Nat} {f:Nat→Bool} {L:List Nat} (h:RI xss i f (L++[x])) (hf:f x=true):RI xss i f L:=by
 have key:∀u,(f u=true∨u∈L++[x])→f u=true∨u∈L:=by
  intro u hu;rcases hu with hu|hu
  ·exact .inl hu
  rcases List.mem_append.1 hu with hu|hu
  ·exact .inr hu
  simp only[List.mem_singleton]at hu;exact .inl (hu▸hf)
 exact⟨fun y hy=>h.stack y (List.mem_append_left _ hy),h.seen,fun u hu=>key u (h.from' u hu),fun y hy u hu=>key u (h.shut y hy u hu)⟩
theorem RI.new {xss:List (List Int)} (hx:refused xss=0) {i x:Nat} {f:Nat→Bool} {L:List Nat} (h:RI xss i f (L++[x])) (hf:f x=false):RI xss i (updB f x true) (L++adjOf xss x):=by
 obtain⟨h1,h2⟩:=h.stack x (by simp);have key:∀u,(f u=true∨u∈L++[x])→updB f x true u=true∨u∈L++adjOf xss x:=by
  intro u hu;by_cases e:u=x
  ·left;simp[updB,e]
  rcases hu with hu|hu
  ·left;simp[updB,e,hu]
  rcases List.mem_append.1 hu with hu|hu
  ·exact .inr (List.mem_append_left _ hu)
  simp only[List.mem_singleton]at hu;exact absurd hu e
 refine⟨fun y hy=>?_,fun y hy=>?_,fun u hu=>key u (h.from' u hu),fun y hy u hu=>?_⟩
 ·rcases List.mem_append.1 hy with hy|hy
  ·exact h.stack y (List.mem_append_left _ hy)
  exact⟨adj_lt hx h1 hy,h2.next hy⟩
 ·by_cases e:y=x
  ·subst e;exact⟨h1,h2⟩
  simp[updB,e]at hy;exact h.seen y hy
 by_cases e:y=x
 ·subst e;exact .inr (List.mem_append_right _ hu)
 simp[updB,e]at hy;exact key u (h.shut y hy u hu)
theorem RI.done {xss:List (List Int)} {i:Nat} {f:Nat→Bool} (h:RI xss i f []) (j:Nat):f j=true↔RP xss i j:=by
 constructor
 ·intro hj;exact(h.seen j hj).2
 rintro⟨u,hu,hr⟩;have h0:f u=true:=by
  rcases h.from' u hu with h1|h1
  ·exact h1
  cases h1
 clear hu
 induction hr with
 |refl=>exact h0
 |step e _ ih=>
  apply ih;rcases h.shut _ h0 _ e with h1|h1
  ·exact h1
  cases h1
def barr (g n:Nat) (f:Nat→Bool):Asn:=.sl 4 1 (.slice (some ⟨g,0,none⟩) n n) n ((List.range n).map fun v=>Value.bool (f v))
theorem barr_at {w0 w:World} {As:List Asn} {g n:Nat} {f:Nat→Bool} (i:Nat) (h:Sep w0 w As) (hi:As[i]? =some (barr g n f)) (k:Nat) (hk:k<n):w.cell? ⟨g,k,none⟩=some (.bool (f k)):=by rw[h.cellAt i hi k (by omega)];simp[hk]
theorem barr_set (g n:Nat) (f:Nat→Bool) (k:Nat) (b:Bool):Asn.sl 4 1 (.slice (some ⟨g,0,none⟩) n n) n (((List.range n).map fun v=>Value.bool (f v)).set k (.bool b))=barr g n (updB f k b):=by rw[map_range_set,barr];congr 1;apply List.map_congr_left;intro v _;simp only[updB];split<;>rfl
theorem boolsR_barr (g n:Nat) (f:Nat→Bool):boolsR (.slice (some ⟨g,0,none⟩) n n) ((List.range n).map f)=barr g n f:=by unfold boolsR barr;rw[List.length_map,List.length_range,List.map_map];rfl
theorem barr_made (g n:Nat):Asn.sl 4 1 (.slice (some ⟨g,0,none⟩) n n) n (List.replicate n (.bool false))=barr g n (fun _=>false):=by unfold barr;congr 1;apply List.ext_getElem?;intro i;by_cases hi:i<n<;>simp[hi]
noncomputable def rpB (xss:List (List Int)) (i j:Nat):Bool:= @decide (RP xss i j) (Classical.propDecidable _)
theorem rpB_iff {xss:List (List Int)} {i j:Nat}:rpB xss i j=true↔RP xss i j:=by unfold rpB;exact @decide_eq_true_iff _ (Classical.propDecidable _)
theorem rpB_eq {xss:List (List Int)} {i:Nat} {f:Nat→Bool} (h:∀j,f j=true↔RP xss i j):f=rpB xss i:=by funext j;rw[Bool.eq_iff_iff,h j,rpB_iff]
noncomputable def both (xss:List (List Int)) (i k:Nat):Bool:=rpB xss i k&&rpB xss k i
noncomputable def partsRep (xss:List (List Int)) (i:Nat):Nat:=((List.range i).find? (both xss i)).getD i
theorem both_mut {xss:List (List Int)} {i k:Nat} (h:k≠i):both xss i k=true↔Mut xss k i:=by
 have key:∀ {a b:Nat},a≠b→(RP xss a b↔Tarjan.Reach (adjOf xss) a b):=by
  intro a b hab;constructor
  ·rintro⟨u,hu,hr⟩;exact .step hu hr
  intro hr;cases hr with
  |refl=>exact absurd rfl hab
  |step e h=>exact⟨_,e,h⟩
 simp only[both,Bool.and_eq_true,rpB_iff];rw[key h.symm,key h];exact⟨fun⟨a,b⟩=>⟨b,a⟩,fun⟨a,b⟩=>⟨b,a⟩⟩
theorem Mut.rfl' {xss:List (List Int)} (i:Nat):Mut xss i i:=⟨.refl _,.refl _⟩
theorem partsRep_some {xss:List (List Int)} {i k:Nat} (hk:k<i) (h1:both xss i k=true) (h0:∀j,j<k→both xss i j=false):partsRep xss i=k:=by
 unfold partsRep;have:(List.range i).find? (both xss i)=some k:=by rw[List.find?_range_eq_some];exact⟨h1,List.mem_range.2 hk,fun j hj=>by simp[h0 j hj]⟩
 rw[this];rfl
theorem partsRep_none {xss:List (List Int)} {i:Nat} (h0:∀j,j<i→both xss i j=false):partsRep xss i=i:=by
 unfold partsRep;have:(List.range i).find? (both xss i)=none:=by rw[List.find?_eq_none];intro j hj;simp[h0 j (List.mem_range.1 hj)]
 rw[this];rfl
theorem partsRep_isRep (xss:List (List Int)):IsRep xss (partsRep xss):=by
 intro i hi;by_cases hex:∃k,k<i∧both xss i k=true
 ·obtain⟨k,hk,hb,hmin⟩:∃k,k<i∧both xss i k=true∧∀j,j<k→both xss i j=false:=by
   obtain⟨k,hk,hb⟩:=hex
   induction k using Nat.strongRecOn with
   |ind k ih=>
    by_cases h:∃j,j<k∧both xss i j=true
    ·obtain⟨j,hj,hbj⟩:=h;exact ih j hj (by omega) hbj
    exact⟨k,hk,hb,fun j hj=>by
     cases e:both xss i j with
     |false=>rfl
     |true=>exact absurd ⟨j,hj,e⟩ h⟩
  rw[partsRep_some hk hb hmin];have hm:=(both_mut (by omega)).1 hb;refine⟨by omega,hm,fun u hu hmu=>?_⟩;apply Classical.byContradiction;intro hlt;have h1:both xss i u=true:=(both_mut (by omega)).2 hmu;rw[hmin u (by omega)]at h1;cases h1
 have h0:∀j,j<i→both xss i j=false:=fun j hj=>by
  cases e:both xss i j with
  |false=>rfl
  |true=>exact absurd ⟨j,hj,e⟩ hex
 rw[partsRep_none h0];refine⟨hi,Mut.rfl' i,fun u hu hmu=>?_⟩;apply Classical.byContradiction;intro hlt;exact hex ⟨u,by omega,(both_mut (by omega)).2 hmu⟩
theorem mem_succ (n:Nat) (rep:Nat→Nat) (x:Nat):mem (n+1) rep x=mem n rep x++if rep n=x then [n]else []:=by unfold mem;rw[List.range_succ,List.filter_append];congr 1;by_cases h:rep n=x<;>simp[h]
theorem mem_len (n:Nat) (rep:Nat→Nat) (x:Nat):(mem n rep x).length≤n:=by have:=List.length_filter_le (fun v=>rep v==x) (List.range n);simpa[mem]using this
def repL (n:Nat) (rep:Nat→Nat):List Int:=(List.range n).map fun i=>(rep i:Int)
noncomputable def roundTo (xss:List (List Int)) (k:Nat):List (List Int):=((List.range k).filter fun i=>(partsRep xss i==i)&&rpB xss i i).map fun i=>(mem xss.length (partsRep xss) i).map fun(v:Nat)=>(v:Int)
theorem roundTo_succ (xss:List (List Int)) (k:Nat):roundTo xss (k+1)=roundTo xss k++if(partsRep xss k==k)&&rpB xss k k then [(mem xss.length (partsRep xss) k).map fun(v:Nat)=>(v:Int)]else []:=by unfold roundTo;rw[List.range_succ,List.filter_append,List.map_append];congr 1;cases h:((partsRep xss k==k)&&rpB xss k k)<;>simp[h]
theorem roundTo_len (xss:List (List Int)) (k:Nat):(roundTo xss k).length≤k:=by have:=List.length_filter_le (fun i=>(partsRep xss i==i)&&rpB xss i i) (List.range k);simpa[roundTo]using this
theorem Below.new (w:World) (o:Obj):Below w.heap.size w (w.alloc o):=(Below.refl _ _).alloc (Nat.le_refl _) o
theorem add_zero' (a:Addr):a.add 0=a:=by simp[Addr.add]
def charOk (c:Nat):Bool:=(decide (97≤c)&&decide (c≤122))||(decide (48≤c)&&decide (c≤57))||c==46||c==95||c==45
def dots (cur:List UInt8):Bool:=cur==[46]||cur==[46,46]
def runV :List UInt8→Nat→List UInt8→Bool
 |[],n,cur=>decide (0<cur.length)&& !dots cur&&decide (n≤6)
 |c::cs,n,cur=>
  if c=47 then(if cur.length=0∨dots cur=true then false else runV cs (n+1) [])
  else if charOk c.toNat=false then false else if 14<cur.length+1 then false else runV cs n (cur++[c])
def validL (p:List UInt8):Bool:=runV p 1 []
set_option maxRecDepth 100000 in
set_option maxHeartbeats 4000000 in
theorem valid_any (s:ByteArray) (w:World) (hs:s.size≤4611686018427387904):
  Calls Tryz.prog 38 #[.string s] w fun e w'=>e= .returned (.bool (validL s.data.toList))∧Below w.heap.size w w':=by
 have bs:(s.size:Int)≤4611686018427387904:=by omega
 go_enter Tryz.func38,Tryz.ntmps38;go_wp2;refine wp_scope_jumps 0 (fun a' w'=>Hid (validL s.data.toList=false)∧Fm 80 a' [.string s]∧∃p,w'=w.iter s p) (fun _ _=>0) rfl ?_ ?_
 ·go_wp2;go_loopw[3,4,5] (fun v3 v4 v5 wr=>∃(pos n:Nat) (cb:ByteArray),wr=w.iter s pos∧v3= .int .i64 n∧v4= .int .i64 cb.size∧v5= .string cb∧cb.size≤14∧n≤pos+1∧pos≤s.size∧Hid (validL s.data.toList=runV (s.data.toList.drop pos) n cb.data.toList))
   (fun _ _ _ wr=>s.size-wr.iterPos w.heap.size)
  case atStart=>exact⟨0,1,⟨#[]⟩,rfl,rfl,rfl,rfl,by decide,by omega,by omega,rfl⟩
  obtain⟨pos,n,cb,rfl,rfl,rfl,rfl,hc14,hn,hps,hv⟩:=hrel;(have b1:(n:Int)≤4611686018427387905:=by omega);(have b2:(cb.size:Int)≤14:=by omega);have htl:cb.toList=cb.data.toList:=Lib.toList_data cb;have hsz:cb.size=cb.data.toList.length:=Lib.size_eq cb;have hss:s.size=s.data.toList.length:=Lib.size_eq s;by_cases hp:pos<s.size
  case neg=>
   (have hnx:∀ty,(Instr.next (.pointer (some ⟨w.heap.size,0,none⟩)) true ty).run Tryz.prog (w.iter s pos)=_:=fun ty=>run_next_end w s pos ty hp);(have hv2:Hid (validL s.data.toList=(decide (0<cb.size)&& !dots cb.toList&&decide (n≤6))):=by have h:=hv.out;rw[List.drop_eq_nil_of_le (by omega),runV]at h;(show _=_);rw[h,hsz,htl]);have htl':=Lh htl;clear htl hv hsz hss;go_wp2;all_goals
    simp only[Exit.jump]
    go_ret
    refine⟨?_,(Below.refl _ _).alloc (Nat.le_refl _) _⟩
    rw[hv2.out]
    have e6:decide ((n:Int)≤6)=decide (n≤6):=decide_eq_decide.2 (by omega)
    congr 2
    simp[dots, *]
  obtain⟨c,hc⟩:∃c,c=s[pos]'hp:=⟨_,rfl⟩;(have hdr:s.data.toList.drop pos=c::s.data.toList.drop (pos+1):=by rw[List.drop_eq_getElem_cons (by omega),hc];rfl);have hv1:=hv.out;rw[hdr,runV]at hv1;have hcl:c.toNat<256:=c.toNat_lt;by_cases hasc:c.toNat<128
  case neg=>
   (have hnx:∀ty,(Instr.next (.pointer (some ⟨w.heap.size,0,none⟩)) true ty).run Tryz.prog (w.iter s pos)=_:=fun ty=>run_next_any w s pos ty hp);have hhi:=(decode_high s pos hp (by rw[←hc];omega)).1;have hle:=decode_le s pos;(have hbad:Hid (validL s.data.toList=false):=by(show _=_);rw[hv1,if_neg (by intro e;rw[e]at hasc;exact hasc (by decide)),if_pos (by unfold charOk;simp;omega)]);generalize(Utf8.decode s pos).1=r at hnx hhi hle;generalize(Utf8.decode s pos).2=wd at hnx;(have q1:((r:Int)==47)=false:=by simp;omega);(have q2:((r:Int)==46)=false:=by simp;omega);(have q3:((r:Int)==95)=false:=by simp;omega);(have q4:((r:Int)==45)=false:=by simp;omega);(have q5:decide ((r:Int)≤122)=false:=by simp;omega);(have q6:decide ((r:Int)≤57)=false:=by simp;omega);(have q7:(97:Int)≤(r:Int):=by omega);(have q8:(48:Int)≤(r:Int):=by omega);clear hv hv1 hdr htl hsz hss;go_wp2
   go_step3
   exact⟨rfl,hbad,⟨rfl,rfl,rfl⟩,_,rfl⟩
  (have hnx:∀ty,(Instr.next (.pointer (some ⟨w.heap.size,0,none⟩)) true ty).run Tryz.prog (w.iter s pos)= .ok (.tuple #[.bool true,.int .i64 pos,.int .i32 (c.toNat:Nat)]) (w.iter s (pos+1)):=fun ty=>by rw[hc];exact run_next_ascii w s pos ty hp (by rw[←hc];exact hasc));have hcn:(c=47)↔c.toNat=47:=by
   constructor
   ·rintro rfl;rfl
   intro h;exact UInt8.toNat_inj.1 h
  have hpos1:pos+1≤s.size:=hp;by_cases h47:c=47
  case pos=>
   subst h47;rw[if_pos rfl]at hv1;have q47:((47:Nat):Int)=47:=rfl;have hnx':∀ty,(Instr.next (.pointer (some ⟨w.heap.size,0,none⟩)) true ty).run Tryz.prog (w.iter s pos)= .ok (.tuple #[.bool true,.int .i64 pos,.int .i32 47]) (w.iter s (pos+1)):=hnx;clear hnx hdr hcn hasc hcl hv;by_cases h0:cb.size=0
   case pos=>
    (have hbad:Hid (validL s.data.toList=false):=by(show _=_);rw[hv1,if_pos (.inl (by omega))]);have z0:((cb.size:Int)==0)=true:=beq_iff_eq.2 (by omega);have z1:cb.data.toList=[]:=List.eq_nil_of_length_eq_zero (by omega);clear hv1 htl hsz hss z1;go_wp2;all_goals
     go_step3
     exact⟨rfl,hbad,⟨rfl,rfl,rfl⟩,_,rfl⟩
   have z0:((cb.size:Int)==0)=false:=beq_eq_false_iff_ne.2 (by omega);by_cases hd:dots cb.data.toList=true
   case pos=>
    (have hbad:Hid (validL s.data.toList=false):=by(show _=_);rw[hv1,if_pos (.inr hd)]);(have hd2:cb.toList=[46]∨cb.toList=[46,46]:=by rw[htl];simpa[dots]using hd);clear hv1 htl hsz hss hd;(rcases hd2 with hd2|hd2);all_goals
     have hd3:=Lh hd2
     go_wp2
     all_goals
      go_step3
      exact⟨rfl,hbad,⟨rfl,rfl,rfl⟩,_,rfl⟩
   (have hd2:¬cb.toList=[46]∧¬cb.toList=[46,46]:=by rw[htl];simpa[dots]using hd);have hd3:(cb.toList==[46])=false:=beq_eq_false_iff_ne.2 hd2.1;have hd4:(cb.toList==[46,46])=false:=beq_eq_false_iff_ne.2 hd2.2;clear hd2;(have hnew:Hid (validL s.data.toList=runV (s.data.toList.drop (pos+1)) (n+1) []):=by(show _=_);rw[hv1,if_neg (by simp only[not_or];exact⟨by omega,hd⟩)]);clear hv1 htl hsz hss hd;go_wp2;go_roundw
   case rel=>exact⟨pos+1,n+1,⟨#[]⟩,rfl,by go_num,rfl,rfl,by decide,by omega,hpos1,hnew⟩
   case measure=>simp;omega
  rw[if_neg h47]at hv1;(have hk47:c.toNat≠47:=fun e=>h47 (hcn.2 e));(have hext:(cb++s.extract pos (pos+1)).data.toList=cb.data.toList++[c]:=by rw[Go.Joins.data_append,Lib.extract_data,hdr];simp);(have hexs:(cb++s.extract pos (pos+1)).size=cb.size+1:=by rw[Lib.size_eq,hext,List.length_append,←hsz];rfl);have hext':=Lh hext;have hexs':=Lh hexs;clear hext hexs;generalize hkk:c.toNat=k at hnx hasc hk47 hv1;(have key:k<45∨k=45∨k=46∨(48≤k∧k≤57)∨(58≤k∧k≤94)∨k=95∨k=96∨(97≤k∧k≤122)∨123≤k:=by omega);by_cases hco:charOk k=false
  case pos=>
   (have hbad:Hid (validL s.data.toList=false):=by(show _=_);rw[hv1,if_pos hco]);(have hco2:¬(97≤k∧k≤122)∧¬(48≤k∧k≤57)∧k≠46∧k≠95∧k≠45:=by unfold charOk at hco;simp at hco;omega);(have q47:((k:Int)==47)=false:=by simp;omega);(have q46:((k:Int)==46)=false:=by simp;omega);(have q95:((k:Int)==95)=false:=by simp;omega);(have q45:((k:Int)==45)=false:=by simp;omega);clear hv hv1 hdr htl hsz hss hcn hco hkk hc;(have key2:k<48∨(58≤k∧k≤96)∨123≤k:=by omega);clear key hco2;rcases key2 with h|h|h
   ·(have q1:decide ((97:Int)≤(k:Int))=false:=by simp;omega);(have q2:decide ((48:Int)≤(k:Int))=false:=by simp;omega);go_wp2
    go_step3
    exact⟨rfl,hbad,⟨rfl,rfl,rfl⟩,_,rfl⟩
   ·(have q1:decide ((97:Int)≤(k:Int))=false:=by simp;omega);(have q2:decide ((48:Int)≤(k:Int))=true:=by simp;omega);(have q3:decide ((k:Int)≤57)=false:=by simp;omega);go_wp2
    go_step3
    exact⟨rfl,hbad,⟨rfl,rfl,rfl⟩,_,rfl⟩
   (have q1:decide ((97:Int)≤(k:Int))=true:=by simp;omega);(have q2:decide ((48:Int)≤(k:Int))=true:=by simp;omega);(have q3:decide ((k:Int)≤57)=false:=by simp;omega);(have q4:decide ((k:Int)≤122)=false:=by simp;omega);go_wp2
   go_step3
   exact⟨rfl,hbad,⟨rfl,rfl,rfl⟩,_,rfl⟩
  rw[if_neg hco]at hv1;(have hco2:(97≤k∧k≤122)∨(48≤k∧k≤57)∨k=46∨k=95∨k=45:=by unfold charOk at hco;simp at hco;omega);(have q47:((k:Int)==47)=false:=by simp;omega);(have hlong:Hid (14<cb.size+1→validL s.data.toList=false):=fun h=>by rw[hv1,if_pos (by omega)]);(have hok:Hid (¬14<cb.size+1→validL s.data.toList=runV (s.data.toList.drop (pos+1)) n (cb++s.extract pos (pos+1)).data.toList):=fun h=>by rw[hv1,if_neg (by omega),hext'.out]);clear hv hv1 hdr htl hsz hss hcn hco hkk hc key;have hlen:(14<cb.size+1)∨¬(14<cb.size+1):=Decidable.em _;rcases hco2 with h|h|h|h|h
  ·(have q1:decide ((97:Int)≤(k:Int))=true:=by simp;omega);(have q2:decide ((k:Int)≤122)=true:=by simp;omega);rcases hlen with hl|hl
   ·have hbad:=Lh (hlong.out hl);(have q9:(14:Int)<(cb.size:Int)+1:=by omega);go_wp2
    go_step3
    exact⟨rfl,hbad,⟨rfl,rfl,rfl⟩,_,rfl⟩
   have hnew:=Lh (hok.out hl);(have q9:¬(14:Int)<(cb.size:Int)+1:=by omega);go_wp2;go_roundw
   case rel=>exact⟨pos+1,n,cb++s.extract pos (pos+1),rfl,rfl,by rw[hexs'.out];go_num,rfl,by rw[hexs'.out];omega,by omega,hpos1,hnew⟩
   case measure=>simp;omega
  ·(have q1:decide ((97:Int)≤(k:Int))=false:=by simp;omega);(have q2:decide ((48:Int)≤(k:Int))=true:=by simp;omega);(have q3:decide ((k:Int)≤57)=true:=by simp;omega);rcases hlen with hl|hl
   ·have hbad:=Lh (hlong.out hl);(have q9:(14:Int)<(cb.size:Int)+1:=by omega);go_wp2
    go_step3
    exact⟨rfl,hbad,⟨rfl,rfl,rfl⟩,_,rfl⟩
   have hnew:=Lh (hok.out hl);(have q9:¬(14:Int)<(cb.size:Int)+1:=by omega);go_wp2;go_roundw
   case rel=>exact⟨pos+1,n,cb++s.extract pos (pos+1),rfl,rfl,by rw[hexs'.out];go_num,rfl,by rw[hexs'.out];omega,by omega,hpos1,hnew⟩
   case measure=>simp;omega
  ·(have q1:decide ((97:Int)≤(k:Int))=false:=by simp;omega);(have q2:decide ((48:Int)≤(k:Int))=false:=by simp;omega);(have q3:((k:Int)==46)=true:=by simp;omega);rcases hlen with hl|hl
   ·have hbad:=Lh (hlong.out hl);(have q9:(14:Int)<(cb.size:Int)+1:=by omega);go_wp2
    go_step3
    exact⟨rfl,hbad,⟨rfl,rfl,rfl⟩,_,rfl⟩
   have hnew:=Lh (hok.out hl);(have q9:¬(14:Int)<(cb.size:Int)+1:=by omega);go_wp2;go_roundw
   case rel=>exact⟨pos+1,n,cb++s.extract pos (pos+1),rfl,rfl,by rw[hexs'.out];go_num,rfl,by rw[hexs'.out];omega,by omega,hpos1,hnew⟩
   case measure=>simp;omega
  ·(have q1:decide ((97:Int)≤(k:Int))=false:=by simp;omega);(have q2:decide ((48:Int)≤(k:Int))=true:=by simp;omega);(have q3:decide ((k:Int)≤57)=false:=by simp;omega);(have q4:((k:Int)==46)=false:=by simp;omega);(have q5:((k:Int)==95)=true:=by simp;omega);rcases hlen with hl|hl
   ·have hbad:=Lh (hlong.out hl);(have q9:(14:Int)<(cb.size:Int)+1:=by omega);go_wp2
    go_step3
    exact⟨rfl,hbad,⟨rfl,rfl,rfl⟩,_,rfl⟩
   have hnew:=Lh (hok.out hl);(have q9:¬(14:Int)<(cb.size:Int)+1:=by omega);go_wp2;go_roundw
   case rel=>exact⟨pos+1,n,cb++s.extract pos (pos+1),rfl,rfl,by rw[hexs'.out];go_num,rfl,by rw[hexs'.out];omega,by omega,hpos1,hnew⟩
   case measure=>simp;omega
  (have q1:decide ((97:Int)≤(k:Int))=false:=by simp;omega);(have q2:decide ((48:Int)≤(k:Int))=false:=by simp;omega);(have q4:((k:Int)==46)=false:=by simp;omega);(have q5:((k:Int)==95)=false:=by simp;omega);(have q6:((k:Int)==45)=true:=by simp;omega);rcases hlen with hl|hl
  ·have hbad:=Lh (hlong.out hl);(have q9:(14:Int)<(cb.size:Int)+1:=by omega);go_wp2
   go_step3
   exact⟨rfl,hbad,⟨rfl,rfl,rfl⟩,_,rfl⟩
  have hnew:=Lh (hok.out hl);(have q9:¬(14:Int)<(cb.size:Int)+1:=by omega);go_wp2;go_roundw
  case rel=>exact⟨pos+1,n,cb++s.extract pos (pos+1),rfl,rfl,by rw[hexs'.out];go_num,rfl,by rw[hexs'.out];omega,by omega,hpos1,hnew⟩
  case measure=>simp;omega
 rintro a' w' ⟨hv,hF,p,rfl⟩;obtain⟨f,rfl⟩:=Fm.lit (m:=79) hF rfl;simp only[lits,Nat.reduceAdd,List.cons_append,List.nil_append];go_wp2;simp only[Exit.jump];go_ret;exact⟨by rw[hv.out];rfl,(Below.refl _ _).alloc (Nat.le_refl _) _⟩
end Go.Proofs.YtimkjnbihlgbiaaGreat
namespace Go.Proofs
open Go.Shelf
def Tryz.sortStrings_ren :Go.Shelf.Ren:=⟨fun|6=>89|8=>79|9=>138|19=>116|20=>117|21=>159|22=>160|23=>161|24=>162|25=>163|26=>164|27=>165|28=>166|29=>167|36=>170|31=>145|32=>146|37=>171|38=>172|39=>173|41=>174|n=>n,fun|27=>114|29=>9|3=>3|32=>128|26=>114|0=>0|44=>178|46=>180|4=>4|36=>172|35=>171|41=>94|5=>5|9=>9|53=>197|57=>195|63=>215|64=>111|n=>n,fun|n=>n⟩
theorem Tryz.sortStrings :Go.Proofs.SlLaysM.n6 Tryz.prog Tryz.sortStrings_ren:= {
 mixed:=by kernel_rfl
 f6:=⟨Tryz.f89.name,by decide,Tryz.func89.trans (congrArg some (by kernel_rfl))⟩
 f8:=Tryz.func79.trans (congrArg some (by kernel_rfl))
 f9:=⟨Tryz.f138.name,by decide,Tryz.func138.trans (congrArg some (by kernel_rfl))⟩
 f19:=Tryz.func116.trans (congrArg some (by kernel_rfl))
 f20:=Tryz.func117.trans (congrArg some (by kernel_rfl))
 f21:=⟨Tryz.f159.name,by decide,Tryz.func159.trans (congrArg some (by kernel_rfl))⟩
 f22:=⟨Tryz.f160.name,by decide,Tryz.func160.trans (congrArg some (by kernel_rfl))⟩
 f23:=⟨Tryz.f161.name,by decide,Tryz.func161.trans (congrArg some (by kernel_rfl))⟩
 f24:=⟨Tryz.f162.name,by decide,Tryz.func162.trans (congrArg some (by kernel_rfl))⟩
 f25:=⟨Tryz.f163.name,by decide,Tryz.func163.trans (congrArg some (by kernel_rfl))⟩
 f26:=⟨Tryz.f164.name,by decide,Tryz.func164.trans (congrArg some (by kernel_rfl))⟩
 f27:=⟨Tryz.f165.name,by decide,Tryz.func165.trans (congrArg some (by kernel_rfl))⟩
 f28:=⟨Tryz.f166.name,by decide,Tryz.func166.trans (congrArg some (by kernel_rfl))⟩
 f29:=⟨Tryz.f167.name,by decide,Tryz.func167.trans (congrArg some (by kernel_rfl))⟩
 f31:=Tryz.func145.trans (congrArg some (by kernel_rfl))
 f32:=Tryz.func146.trans (congrArg some (by kernel_rfl))
 f36:=⟨Tryz.f170.name,by decide,Tryz.func170.trans (congrArg some (by kernel_rfl))⟩
 f37:=⟨Tryz.f171.name,by decide,Tryz.func171.trans (congrArg some (by kernel_rfl))⟩
 f38:=⟨Tryz.f172.name,by decide,Tryz.func172.trans (congrArg some (by kernel_rfl))⟩
 f39:=⟨Tryz.f173.name,by decide,Tryz.func173.trans (congrArg some (by kernel_rfl))⟩
 f41:=⟨Tryz.f174.name,by decide,Tryz.func174.trans (congrArg some (by kernel_rfl))⟩
 t0:=Tryz.underlying0
 a0:=Tryz.isAgg0
 z0:=Tryz.sizeOf0
 v0:=Tryz.zeroValue0
 t3:=Tryz.underlying3
 a3:=Tryz.isAgg3
 z3:=Tryz.sizeOf3
 v3:=Tryz.zeroValue3
 t4:=Tryz.underlying4
 a4:=Tryz.isAgg4
 z4:=Tryz.sizeOf4
 v4:=Tryz.zeroValue4
 t5:=Tryz.underlying5
 a5:=Tryz.isAgg5
 z5:=Tryz.sizeOf5
 v5:=Tryz.zeroValue5
 t9:=Tryz.underlying9
 a9:=Tryz.isAgg9
 z9:=Tryz.sizeOf9
 v9:=Tryz.zeroValue9
 t26:=Tryz.underlying114
 a26:=Tryz.isAgg114
 z26:=Tryz.sizeOf114
 v26:=Tryz.zeroValue114
 t27:=Tryz.underlying114
 a27:=Tryz.isAgg114
 z27:=Tryz.sizeOf114
 v27:=Tryz.zeroValue114
 t29:=Tryz.underlying9
 a29:=Tryz.isAgg9
 z29:=Tryz.sizeOf9
 v29:=Tryz.zeroValue9
 t32:=Tryz.underlying128
 a32:=Tryz.isAgg128
 z32:=Tryz.sizeOf128
 v32:=Tryz.zeroValue128
 t35:=Tryz.underlying171
 a35:=Tryz.isAgg171
 z35:=Tryz.sizeOf171
 v35:=Tryz.zeroValue171
 t36:=Tryz.underlying172
 a36:=Tryz.isAgg172
 z36:=Tryz.sizeOf172
 v36:=Tryz.zeroValue172
 t41:=Tryz.underlying94
 a41:=Tryz.isAgg94
 z41:=Tryz.sizeOf94
 v41:=Tryz.zeroValue94
 t44:=Tryz.underlying178
 a44:=Tryz.isAgg178
 z44:=Tryz.sizeOf178
 v44:=Tryz.zeroValue178
 t46:=Tryz.underlying180
 a46:=Tryz.isAgg180
 z46:=Tryz.sizeOf180
 v46:=Tryz.zeroValue180
 t53:=Tryz.underlying197
 a53:=Tryz.isAgg197
 z53:=Tryz.sizeOf197
 v53:=Tryz.zeroValue197
 t57:=Tryz.underlying195
 a57:=Tryz.isAgg195
 z57:=Tryz.sizeOf195
 v57:=Tryz.zeroValue195
 t63:=Tryz.underlying215
 a63:=Tryz.isAgg215
 z63:=Tryz.sizeOf215
 v63:=Tryz.zeroValue215
 t64:=Tryz.underlying111
 a64:=Tryz.isAgg111
 z64:=Tryz.sizeOf111
 v64:=Tryz.zeroValue111}
def Tryz.lastIndexByte_ren :Go.Shelf.Ren:=⟨fun|149=>74|222=>102|n=>n,fun|9=>9|5=>5|3=>3|4=>4|n=>n,fun|n=>n⟩
theorem Tryz.lastIndexByte :Go.Proofs.Lays.n149 Tryz.prog Tryz.lastIndexByte_ren:= {
 mixed:=by kernel_rfl
 f149:=Tryz.func74.trans (congrArg some (by kernel_rfl))
 f222:=Tryz.func102.trans (congrArg some (by kernel_rfl))
 t3:=Tryz.underlying3
 a3:=Tryz.isAgg3
 z3:=Tryz.sizeOf3
 v3:=Tryz.zeroValue3
 t4:=Tryz.underlying4
 a4:=Tryz.isAgg4
 z4:=Tryz.sizeOf4
 v4:=Tryz.zeroValue4
 t5:=Tryz.underlying5
 a5:=Tryz.isAgg5
 z5:=Tryz.sizeOf5
 v5:=Tryz.zeroValue5
 t9:=Tryz.underlying9
 a9:=Tryz.isAgg9
 z9:=Tryz.sizeOf9
 v9:=Tryz.zeroValue9}
end Go.Proofs
namespace Go.Proofs.YtimkjnbihlgbiaaGreat
open Go.RowKit
set_option linter.unusedVariables false
def more :Value→Value
 | .slice A n c=>.slice A (n+1) c
 |v=>v
theorem more_form {v:Value} {A:Option Addr} {n c:Nat} (h:more v= .slice A (n+1) c):v= .slice A n c:=by cases v<;>simp[more]at h;obtain⟨rfl,rfl,rfl⟩:=h;rfl
theorem Rd.fst {w:World} {sz n m c:Nat} {A:Option Addr} {cs ds:List Value} (h:Rd w sz (.slice A (n+m) c) (n+m) (cs++ds)) (hl:cs.length=n*sz):Rd w sz (.slice A n c) n cs:=by obtain⟨_,A',c',e,h1,h2,h3⟩:=h;cases e;refine⟨hl,A,c,rfl,by omega,h2,fun hn=>?_⟩;obtain⟨ad,e,hb,hc⟩:=h3 (by omega);refine⟨ad,e,hb,fun j u hu=>hc j u ?_⟩;rw[List.getElem?_append_left (by rcases gF.1 hu with⟨h,_⟩;exact h)];exact hu
theorem Rd.news {w:World} {sz n c:Nat} {ad:Addr} {cs:List Value} (h:Rd w sz (.slice (some ad) n c) n cs):∀j u,cs[j]? =some u→w.cell? (ad.add j)=some u:=by
 obtain⟨hl,A,c',e,_,_,h3⟩:=h;cases e;intro j u hu;have hn:0<n:=by
  rcases Nat.eq_zero_or_pos n with h0|h0
  ·subst h0;rw[Nat.zero_mul]at hl;rw[List.eq_nil_of_length_eq_zero hl]at hu;simp at hu
  exact h0
 obtain⟨ad',e,_,hc⟩:=h3 hn;cases e;exact hc j u hu
section
variable {w0 w:World} {As R:List Asn}
theorem Sep.lit (h:Sep w0 w As) (e:TypeId) (cs:Array Value) (hm:cs.size≤maxLen):Sep w0 (w.alloc (.cells cs e)) (.sl e 1 (.slice (some ⟨w.heap.size,0,none⟩) cs.size cs.size) cs.size cs.toList::As):=by have hown:=World.ownsRow_lit (base:=0) (e:=e) (size:=1) w cs cs.size (Nat.zero_le _) hm (by omega);exact h.new (F:=[w.heap.size]) ((Below.refl _ _).alloc (Nat.le_refl _) _) ⟨hown,rfl⟩ (by simp)
end
theorem Sep.lit_empty {w0 w:World} {As:List Asn} (h:Sep w0 w As) (e:TypeId) (sz:Nat):Sep w0 (w.alloc (.cells #[] e)) (.sl e sz (.slice (some ⟨w.heap.size,0,none⟩) 0 0) 0 []::As):=by have hown:=World.ownsRow_lit (base:=0) (e:=e) (size:=sz) w #[] 0 (Nat.zero_le _) (Nat.zero_le _) (by simp);exact h.new (F:=[w.heap.size]) ((Below.refl _ _).alloc (Nat.le_refl _) _) ⟨hown,rfl⟩ (by simp)
structure Ins where
 op:Int
 path:ByteArray
 tz:ByteArray
 mode:Int
 ref:Int
def Ins.cells (x:Ins):List Value:=[.int .i64 x.op,.string x.path,.string x.tz,.int .i64 x.mode,.int .i64 x.ref]
theorem Ins.cells_len (x:Ins):x.cells.length=5:=rfl
def insCells (xs:List Ins):List Value:=xs.flatMap Ins.cells
theorem insCells_at {xs:List Ins} {i:Nat} {x:Ins} (h:xs[i]? =some x) (f:Nat) (hf:f<5):(insCells xs)[i*5+f]? =x.cells[f]? :=by
 induction xs generalizing i with
 |nil=>simp at h
 |cons y xs ih=>
  unfold insCells;rw[List.flatMap_cons];cases i with
  |zero=>simp at h;subst h;rw[List.getElem?_append_left (by rw[Ins.cells_len];omega)];congr 1;omega
  |succ i=>(have h':xs[i]? =some x:=by simpa using h);(have e:(i+1)*5+f-y.cells.length=i*5+f:=by rw[Ins.cells_len];omega);rw[List.getElem?_append_right (by rw[Ins.cells_len];omega),e];exact ih h'
def InsAt (w:World) (v:Value) (xs:List Ins):Prop:=Rd w 5 v xs.length (insCells xs)
theorem InsAt.shape {w:World} {v:Value} {xs:List Ins} (h:InsAt w v xs):∃A c,v= .slice A xs.length c∧xs.length≤maxLen:=Rd.shape h
theorem InsAt.below {w w':World} {v:Value} {xs:List Ins} (h:InsAt w v xs) (hb:Below w.heap.size w w'):InsAt w' v xs:=Rd.below h hb
end Go.Proofs.YtimkjnbihlgbiaaGreat
namespace Go.Proofs.YtimkjnbihlgbiaaGreat
open Go.RowKit Go.Shelf
set_option linter.unusedVariables false
theorem chunk_len {α:Type} (f:α→List Value) (m:Nat) (hf:∀x,(f x).length=m) (xs:List α):(xs.flatMap f).length=xs.length*m:=by
 induction xs with
 |nil=>simp
 |cons x xs ih=>rw[List.flatMap_cons,List.length_append,ih,hf,List.length_cons,Nat.add_mul,Nat.one_mul,Nat.add_comm]
theorem chunk_at {α:Type} (f:α→List Value) (m:Nat) (hf:∀x,(f x).length=m) {xs:List α} {i:Nat} {x:α} (h:xs[i]? =some x) (j:Nat) (hj:j<m):(xs.flatMap f)[i*m+j]? =(f x)[j]? :=by
 induction xs generalizing i with
 |nil=>simp at h
 |cons y xs ih=>
  rw[List.flatMap_cons];cases i with
  |zero=>simp at h;subst h;rw[Nat.zero_mul,Nat.zero_add,List.getElem?_append_left (by rw[hf];exact hj)]
  |succ i=>(have e:(i+1)*m+j-(f y).length=i*m+j:=by rw[hf,Nat.add_mul];omega);rw[List.getElem?_append_right (by rw[hf,Nat.add_mul];omega),e];exact ih (by simpa using h)
theorem spot_none' {w:World} {ad:Addr} {u:Value} (h:w.cell? ad=some u):ad.spot=none:=by
 unfold World.cell? at h;split at h
 ·split at h
  ·cases h
  rename_i hs;cases hb:ad.spot with
  |none=>rfl
  |some s=>rw[hb]at hs;simp at hs
 cases h
theorem Rd.place {w:World} {sz n:Nat} {v:Value} {cs:List Value} (h:Rd w sz v n cs) (h0:0<n) (hsz:0<sz):
  ∃g o c,v= .slice (some ⟨g,o,none⟩) n c∧n≤c∧c≤maxLen∧g<w.heap.size∧∀w',Below w.heap.size w w'→∀j,j<n*sz→w'.cell? ⟨g,o+j,none⟩=cs[j]? :=by
 obtain⟨hl,A,c,rfl,h1,h2,h3⟩:=h;obtain⟨ad,rfl,hb,hc⟩:=h3 h0;have hpos:0<cs.length:=by rw[hl];exact Nat.mul_pos h0 hsz
 have hsp:ad.spot=none:=by have h4:=hc 0 _ (gE hpos);rw[add_zero']at h4;exact spot_none' h4
 obtain⟨g,o,s⟩:=ad;simp only at hsp;subst hsp;refine⟨g,o,c,rfl,h1,h2,hb,fun w' hw' j hj=>?_⟩;have hj':j<cs.length:=by rw[hl];exact hj
 have h4:=hc j _ (gE hj');rw[Addr.add_lit]at h4;rw[gE hj',←h4];exact hw'.cell hb
def strV (p:List UInt8):Value:=.string ⟨p.toArray⟩
def DataAt (w:World) (v:Value) (n:Nat):Prop:=∃cs,Rd w 1 v n cs∧∀u∈cs,u.oneCell'=true
theorem DataAt.below {w w':World} {v:Value} {n:Nat} (h:DataAt w v n) (hb:Below w.heap.size w w'):DataAt w' v n:=by obtain⟨cs,h1,h2⟩:=h;exact⟨cs,h1.below hb,h2⟩
theorem DataAt.shape {w:World} {v:Value} {n:Nat} (h:DataAt w v n):∃A c,v= .slice A n c∧n≤maxLen:=by obtain⟨cs,h1,_⟩:=h;exact h1.shape
theorem strV_size (p:List UInt8):(⟨p.toArray⟩:ByteArray).size=p.length:=rfl
theorem strV_data (p:List UInt8):(⟨p.toArray⟩:ByteArray).data.toList=p:=rfl
theorem mode_any (m:Int) (w:World):Calls Tryz.prog 40 #[.int .i64 m] w fun e w'=>e= .returned (.bool (decide (0≤m)&&decide (m≤511)))∧w'=w:=by
 by_cases h:0≤m
 ·go_enter Tryz.func40,Tryz.ntmps40;go_wp2_with fail;go_ret;exact⟨by simp[h],rfl⟩
 have h2:m<0:=by omega
 have e1:decide (0≤m)=false:=by simpa using h2
 rw[e1];clear e1;go_enter Tryz.func40,Tryz.ntmps40;go_wp2_with fail;go_ret;exact⟨rfl,rfl⟩
end Go.Proofs.YtimkjnbihlgbiaaGreat
