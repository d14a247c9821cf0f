/- Pile, Tarjan, Plain, laid together. -/
import Derived.Test.YtimkjnbihlgbiaaGreatJ2
import Derived.Deep.RegionHeld3
import Derived.Deep.RegionLaw
import Derived.Deep.DrawnRows
namespace Go.Proofs.YtimkjnbihlgbiaaGreat
open Go.RowKit
set_option linter.unusedVariables false
theorem info_int :(Tryz.prog.info? 3).map (fun i=>(i.zero,i.size,i.bytes))=some (some (.int .i64 0),1,8):=by kernel_rfl
theorem info_frame :(Tryz.prog.info? 166).map (fun i=>(i.zero,i.size,i.bytes))=some (some (.agg #[.int .i64 0,.int .i64 0]),2,16):=by kernel_rfl
def fcells (fs:List (Int×Int)):List Value:=fs.flatMap fun p=>[.int .i64 p.1,.int .i64 p.2]
def framesR (v:Value) (fs:List (Int×Int)):Asn:=.sl 166 2 v fs.length (fcells fs)
set_option maxHeartbeats 400000 in
theorem push_int {w0 w:World} {R:List Asn} (b:Nat) (v:Value) (xs:List Int) (x:Int) (hx:xs.length≤1000000) (hS:Sep w0 w (.box b 162 #[v]::intsR v xs::R)):
  Calls Tryz.prog 103 #[.pointer (some ⟨b,0,none⟩),.int .i64 x] w fun e w'=>∃v',e= .returned (.tuple #[])∧Sep w0 w' (.box b 162 #[v']::intsR v' (xs++[x])::R):=by
 obtain⟨i0,hi,hz0,hz1,hz2⟩:=info_parts info_int;have hb:w.cell? ⟨b,0,none⟩=some v:=by rw[hS.bC 0 rfl 0];rfl
 have hlt:=(hS.boxAt 0 rfl).2.2;have hS1:=hS.alloc (.cells #[.int .i64 x] 3);go_enter Tryz.func103,Tryz.ntmps103;go_wp2_with(at_builtin;refine wpList_append_sep 1 rfl _ _ 36 rfl 3 i0 (.int .i64 0) 1 8 Tryz.underlying36 hi hz0 hz1 hz2 rfl (by decide) hS1 _ _ _ rfl rfl ⟨w.heap.size,0,none⟩ 1 1 [.int .i64 x] rfl rfl (cell_one_new _ _ _) (by simp[Value.oneCell']) (by decide) (by unfold maxLen;omega) (by omega) ?_);intro g cap w1 hS2 hsz;have hb1:w1.cell? ⟨b,0,none⟩=some v:=by rw[hS2.bC 0 rfl 0];rfl
 have hf1:w1.frozen? ⟨b,0,none⟩=false:=hS2.bF 0 rfl 0;go_wp2_with fail
 go_end0
 refine⟨.slice (some ⟨g,0,none⟩) (xs.length+1) cap,rfl,?_⟩;have:=hS2.bS 0 rfl 0 (.slice (some ⟨g,0,none⟩) (xs.length+1) cap);simpa[intsR]using this
set_option maxHeartbeats 400000 in
theorem top_int {w0 w:World} {R:List Asn} (b:Nat) (g cap:Nat) (xs:List Int) (hx:0<xs.length) (hm:xs.length≤1000000)
  (hS:Sep w0 w (.box b 162 #[.slice (some ⟨g,0,none⟩) xs.length cap]::intsR (.slice (some ⟨g,0,none⟩) xs.length cap) xs::R)):
  Calls Tryz.prog 143 #[.pointer (some ⟨b,0,none⟩)] w fun e w'=>e= .returned (.pointer (some ⟨g,xs.length-1,none⟩))∧∃n,w'=w.drewN n:=by
 have hb:w.cell? ⟨b,0,none⟩=some (.slice (some ⟨g,0,none⟩) xs.length cap):=by rw[hS.bC 0 rfl 0];rfl
 have h1:(0:Int)≤(xs.length:Int)-1:=by omega
 have h2:(xs.length:Int)-1<(xs.length:Int):=by omega
 go_enter Tryz.func143,Tryz.ntmps143;go_wp2_with fail;go_quiet (fail);go_wp2_with fail;go_ret;exact⟨rfl,nq,rfl⟩
set_option maxHeartbeats 400000 in
theorem pop_int {w0 w:World} {R:List Asn} (b:Nat) (v:Value) (xs:List Int) (x:Int) (hm:xs.length<1000000)
  (hS:Sep w0 w (.box b 162 #[v]::intsR v (xs++[x])::R)):
  Calls Tryz.prog 106 #[.pointer (some ⟨b,0,none⟩)] w fun e w'=>∃v',e= .returned (.int .i64 x)∧Sep w0 w' (.box b 162 #[v']::intsR v' xs::R):=by
 obtain⟨g,cap,rfl,hg,hgl,hcap,hmax⟩:=hS.sl_form 1 rfl (by simp);have hlen:(xs++[x]).length=xs.length+1:=by simp
 have hb:w.cell? ⟨b,0,none⟩=some (.slice (some ⟨g,0,none⟩) (xs.length+1) cap):=by rw[hS.bC 0 rfl 0];simp
 have hx:w.cell? ⟨g,xs.length,none⟩=some (.int .i64 x):=by rw[hS.cellAt 1 rfl xs.length (by simp)];simp
 have hf:w.frozen? ⟨b,0,none⟩=false:=hS.bF 0 rfl 0;have ht:=fun n=>top_int b g cap (xs++[x]) (by simp) (by simp;omega) (hS.drewN n)
 simp only[hlen,Nat.add_sub_cancel]at ht;have h1:(0:Int)≤(xs.length:Int):=by omega
 have hcap':xs.length+1≤cap:=by simpa using hcap
 have h2:(xs.length:Int)≤(cap:Int):=by omega
 have h3:(cap:Int)≤9223372036854775807:=by have:=hmax;simp only[maxLen]at this;omega
 clear hlen;go_enter Tryz.func106,Tryz.ntmps106;go_wp2_with(go_at_call 143;refine(ht 0).mono ?_;rintro e w' ⟨rfl,n,rfl⟩);refine wp_quiet_tail 14 (by kernel_rfl) (by kernel_rfl) ?_;simp only[List.take_succ_cons,List.take_zero,List.drop_succ_cons,List.drop_zero];repeat(go_big_quiet_step (fail))
 refine wpQuiet_nil ?_;rintro _ ⟨nq,rfl⟩;go_wp2_with fail;go_ret;refine⟨.slice (some ⟨g,0,none⟩) xs.length cap,rfl,?_⟩;have:=((hS.drewN (n+nq)).sl_cut 1 rfl xs.length (by simp)).bS 0 rfl 0 (.slice (some ⟨g,0,none⟩) xs.length cap);simpa[intsR]using this
theorem fcells_length (fs:List (Int×Int)):(fcells fs).length=fs.length*2:=by
 induction fs with
 |nil=>rfl
 |cons p fs ih=>simp[fcells]at ih ⊢;omega
theorem fcells_append (fs gs:List (Int×Int)):fcells (fs++gs)=fcells fs++fcells gs:=by simp[fcells]
set_option maxHeartbeats 400000 in
theorem top_frame {w0 w:World} {R:List Asn} (b:Nat) (g cap n:Nat) (hx:0<n) (hm:n≤1000000)
  (hS:Sep w0 w (.box b 160 #[.slice (some ⟨g,0,none⟩) n cap]::R)):
  Calls Tryz.prog 105 #[.pointer (some ⟨b,0,none⟩)] w fun e w'=>e= .returned (.pointer (some ⟨g,(n-1)*2,none⟩))∧∃n,w'=w.drewN n:=by
 have hb:w.cell? ⟨b,0,none⟩=some (.slice (some ⟨g,0,none⟩) n cap):=by rw[hS.bC 0 rfl 0];rfl
 have h1:(0:Int)≤(n:Int)-1:=by omega
 have h2:(n:Int)-1<(n:Int):=by omega
 go_enter Tryz.func105,Tryz.ntmps105;go_wp2_with fail;go_quiet (fail);go_wp2_with fail;go_ret;exact⟨rfl,nq,rfl⟩
set_option maxHeartbeats 400000 in
theorem push_frame {w0 w:World} {R:List Asn} (b:Nat) (v:Value) (fs:List (Int×Int)) (k a:Int) (hx:fs.length≤1000000) (hS:Sep w0 w (.box b 160 #[v]::framesR v fs::R)):
  Calls Tryz.prog 104 #[.pointer (some ⟨b,0,none⟩),.agg #[.int .i64 k,.int .i64 a]] w fun e w'=>
   ∃v',e= .returned (.tuple #[])∧Sep w0 w' (.box b 160 #[v']::framesR v' (fs++[(k,a)])::R):=by
 obtain⟨i0,hi,hz0,hz1,hz2⟩:=info_parts info_frame
 have hb:w.cell? ⟨b,0,none⟩=some v:=by rw[hS.bC 0 rfl 0];rfl
 have hlt:=(hS.boxAt 0 rfl).2.2
 have hS1:Sep w0 (w.alloc (.cells #[.int .i64 k,.int .i64 a] 166)) (.box b 160 #[v]::framesR v fs:: .box w.heap.size 166 #[.int .i64 k,.int .i64 a]::R):=
  (hS.bN 166 #[.int .i64 k,.int .i64 a]).sel [1,2,0] (by decide) (by simp)
 have hb1:(w.alloc (.cells #[.int .i64 k,.int .i64 a] 166)).cell? ⟨b,0,none⟩=some v:=by rw[hS1.bC 0 rfl 0];rfl
 have hnews:∀(j:Nat) u,[Value.int .i64 k,.int .i64 a][j]? =some u→(((w.alloc (.cells #[.int .i64 k,.int .i64 a] 166)).alloc (.cells #[.int .i64 k,.int .i64 a] 166)).drew).cell? ((⟨w.heap.size+1,0,none⟩:Addr).add j)=some u:=
  cells_new (w.alloc (.cells #[.int .i64 k,.int .i64 a] 166)) #[.int .i64 k,.int .i64 a] _ _ (by simp)
 have hnews:=Lh hnews
 go_enter Tryz.func104,Tryz.ntmps104
 go_wp2_with fail
 go_region_law ((refine step_append_sep (w0:=w0) (As:=.box b 160 #[v]::framesR v fs:: .box w.heap.size 166 #[.int .i64 k,.int .i64 a]::R) 1 (by rfl) _ _ _ (by rfl) 166 i0 _ 2 16 Tryz.underlying158 hi hz0 hz1 hz2 rfl (by decide) ((hS1.alloc (.cells #[.int .i64 k,.int .i64 a] 166)).drew) v fs.length (fcells fs) rfl (by rfl) ⟨w.heap.size+1,0,none⟩ 1 1 [.int .i64 k,.int .i64 a] (by rfl) rfl hnews.out (by simp[Value.oneCell']) (by decide) (by unfold maxLen;omega) (by omega) ?_;intro g cap w1 hS2 hsz;have hb2:w1.cell? ⟨b,0,none⟩=some v:=(by rw[hS2.bC 0 rfl 0];rfl);have hf1:w1.frozen? ⟨b,0,none⟩=false:=hS2.bF 0 rfl 0))
 all_goals go_wp2_with fail
 all_goals go_end0
 all_goals
  refine⟨.slice (some ⟨g,0,none⟩) (fs.length+1) cap,rfl,?_⟩
  have:=((hS2.bS 0 rfl 0 (.slice (some ⟨g,0,none⟩) (fs.length+1) cap)).sel [2,0,1] (by decide) (by simp)).drop 1
  simpa[framesR,fcells_append,fcells]using this
set_option maxHeartbeats 400000 in
theorem pop_frame {w0 w:World} {R:List Asn} (b:Nat) (v:Value) (fs:List (Int×Int)) (k a:Int) (hm:fs.length<1000000)
  (hS:Sep w0 w (.box b 160 #[v]::framesR v (fs++[(k,a)])::R)):
  Calls Tryz.prog 107 #[.pointer (some ⟨b,0,none⟩)] w fun e w'=>∃v',e= .returned (.agg #[.int .i64 k,.int .i64 a])∧Sep w0 w' (.box b 160 #[v']::framesR v' fs::R):=by
 obtain⟨g,cap,rfl,hg,hgl,hcap,hmax⟩:=hS.sl_form 1 rfl (by simp);have hlen:(fs++[(k,a)]).length=fs.length+1:=by simp
 have hb:w.cell? ⟨b,0,none⟩=some (.slice (some ⟨g,0,none⟩) (fs.length+1) cap):=by rw[hS.bC 0 rfl 0];simp
 have hbl:=(hS.boxAt 0 rfl).2.2;have hx:w.cell? ⟨g,fs.length*2,none⟩=some (.int .i64 k):=by rw[hS.cellAt 1 rfl (fs.length*2) (by simp),fcells_append,List.getElem?_append_right (by rw[fcells_length];exact Nat.le_refl _),fcells_length];simp[fcells]
 have hy:w.cell? ⟨g,fs.length*2+1,none⟩=some (.int .i64 a):=by rw[hS.cellAt 1 rfl (fs.length*2+1) (by simp;omega),fcells_append,List.getElem?_append_right (by rw[fcells_length];omega),fcells_length,show fs.length*2+1-fs.length*2=1 by omega];simp[fcells]
 have hf:w.frozen? ⟨b,0,none⟩=false:=hS.bF 0 rfl 0;have hS1:=hS.alloc (.cells #[.int .i64 0,.int .i64 0] 166);have ht:=top_frame b g cap (fs.length+1) (by omega) (by omega) (by rw[←hlen];exact hS1);rw[Nat.add_sub_cancel]at ht;have h1:(0:Int)≤(fs.length:Int):=by omega
 have hcap':fs.length+1≤cap:=by simpa using hcap
 have h2:(fs.length:Int)≤(cap:Int):=by omega
 have h3:(cap:Int)≤9223372036854775807:=by have:=hmax;simp only[maxLen]at this;omega
 clear hlen;go_enter Tryz.func107,Tryz.ntmps107;go_wp2_with(go_at_call 105;refine ht.mono ?_;rintro e w' ⟨rfl,n,rfl⟩);refine wp_quiet_tail 14 (by kernel_rfl) (by kernel_rfl) ?_;simp only[List.take_succ_cons,List.take_zero,List.drop_succ_cons,List.drop_zero];repeat(go_big_quiet_step (fail))
 refine wpQuiet_nil ?_;rintro _ ⟨nq,rfl⟩;go_wp2_with fail;have hF:=(((((((hS.bN 166 #[.int .i64 0,.int .i64 0]).drewN n).alloc (.cells #[.int .i64 k,.int .i64 a] 166)).drewN nq).sl_cut 2 rfl fs.length (by simp)).bS 1 rfl 0 (.slice (some ⟨g,0,none⟩) fs.length cap)).bS 0 rfl 0 (.int .i64 k)).bS 0 rfl 1 (.int .i64 a);have q0:=hF.bC 0 rfl 0;have q1:=hF.bC 0 rfl 1;refine bodyPost_ret (v:=.agg #[.int .i64 k,.int .i64 a]) (by simp[results,Tryz.results107,go_sem,q0,q1]) rfl ⟨.slice (some ⟨g,0,none⟩) fs.length cap,rfl,?_⟩;have:=hF.drop 1;simpa[framesR,fcells_append,←fcells_length]using this
end Go.Proofs.YtimkjnbihlgbiaaGreat
namespace Go.Proofs.YtimkjnbihlgbiaaGreat.Tarjan
inductive Reach (adj:Nat→List Nat):Nat→Nat→Prop
 |refl (x:Nat):Reach adj x x
 |step {x y z:Nat}:y∈adj x→Reach adj y z→Reach adj x z
theorem Reach.trans {adj:Nat→List Nat} {x y z:Nat} (h:Reach adj x y) (k:Reach adj y z):Reach adj x z:=by
 induction h with
 |refl=>exact k
 |step e _ ih=>exact .step e (ih k)
theorem Reach.edge {adj:Nat→List Nat} {x y:Nat} (h:y∈adj x):Reach adj x y:=.step h (.refl _)
structure St where
 seen:Nat→Nat
 low:Nat→Nat
 of:Nat→Int
 now:Nat
 count:Nat
def upd {α:Type} (f:Nat→α) (k:Nat) (x:α):Nat→α:=fun v=>if v=k then x else f v
theorem upd_same {α:Type} (f:Nat→α) (k:Nat) (x:α):upd f k x k=x:=by simp[upd]
theorem upd_other {α:Type} (f:Nat→α) {k v:Nat} (x:α) (h:v≠k):upd f k x v=f v:=by simp[upd,h]
def St.live (s:St) (v:Nat):Prop:=0<s.seen v∧s.of v<0
structure Fr (adj:Nat→List Nat) (s:St) (U:Nat) (act:Bool) (d a:Nat) (rest:List (Nat×Nat)):Prop where
 lt:s.seen d<U
 live:s.live d
 len:a≤(adj d).length
 pos:act=true→0<a
 edges:∀i w,(adj d)[i]? =some w→i<a→(act=true→i+1<a)→0<s.seen w∧(s.live w→s.low d≤s.seen w)
 body:∀v,s.live v→s.seen d<s.seen v→s.seen v<U→Reach adj d v∧Reach adj v d∧∀w,w∈adj v→0<s.seen w∧(s.live w→s.low d≤s.seen w)
 low_le:s.low d≤s.seen d
 low_at:∃u,s.live u∧s.seen u=s.low d∧Reach adj d u
 link:∀d' a' r',rest=(d',a')::r'→(adj d')[a'-1]? =some d
def Seg (adj:Nat→List Nat) (s:St):Nat→Bool→List (Nat×Nat)→Prop
 |U,_,[]=>∀v,s.live v→U≤s.seen v
 |U,act,(d,a)::rest=>Fr adj s U act d a rest∧Seg adj s (s.seen d) true rest
def unv (n:Nat) (f:Nat→Nat):Nat:=(List.range n).countP fun v=>decide (f v=0)
structure Inv (adj:Nat→List Nat) (n:Nat) (s:St) (O:List Nat) (D:List (Nat×Nat)) (act:Bool):Prop where
 inj:∀u v,0<s.seen u→s.seen u=s.seen v→u=v
 le:∀v,s.seen v≤s.now
 dom:∀v,0<s.seen v→v<n
 vis:∀v,0≤s.of v→0<s.seen v
 sorted:O.Pairwise fun x y=>s.seen y<s.seen x
 mem:∀v,v∈O↔s.live v
 seg:Seg adj s (s.now+1) act D
 clos:∀v,0≤s.of v→∀w,w∈adj v→0≤s.of w∧s.of w≤s.of v
 cnt:∀v,s.of v<s.count
 full:∀c:Nat,c<s.count→∃v,s.of v=c
 scc:∀u v,0≤s.of u→s.of u=s.of v→Reach adj u v
 num:s.count+D.length≤s.now
 olen:O.length≤s.now
 rest:s.now+unv n s.seen=n
section
variable {adj:Nat→List Nat} {n:Nat} {s s':St} {O:List Nat} {D r:List (Nat×Nat)} {act:Bool} {U d a k:Nat}
theorem Seg.move :∀ {D:List (Nat×Nat)} {U:Nat} {act:Bool},Seg adj s U act D→
  (∀v,s'.live v→s'.seen v<U→s.live v∧s.seen v=s'.seen v)→
  (∀v,s.live v→s.seen v<U→s'.live v∧s'.seen v=s.seen v∧s'.low v=s.low v)→
  (∀v,0<s.seen v→0<s'.seen v)→
  (∀w,s'.live w→(s.live w∧s'.seen w=s.seen w)∨U≤s'.seen w)→Seg adj s' U act D
 |[],U,act,h,hA,_,_,_=>fun v hv=>by
  rcases Nat.lt_or_ge (s'.seen v) U with hlt|hge
  ·obtain⟨h1,h2⟩:=hA v hv hlt;have:=h v h1;omega
  exact hge
 |(d,a)::rest,U,act,⟨f,hr⟩,hA,hB,hC,hD=>by
  obtain⟨b1,b2,b3⟩:=hB d f.live f.lt;have bound:∀w,(s.live w→s.low d≤s.seen w)→s'.live w→s'.low d≤s'.seen w:=fun w hw hl=>by
   rcases hD w hl with⟨h1,h2⟩|h1
   ·rw[b3,h2];exact hw h1
   have:=f.low_le;have:=f.lt;omega
  refine⟨⟨by rw[b2];exact f.lt,b1,f.len,f.pos,fun i w hi hia hact=>?_,fun v hv h1 h2=>?_,by rw[b2,b3];exact f.low_le,?_,f.link⟩,?_⟩
  ·obtain⟨e1,e2⟩:=f.edges i w hi hia hact;exact⟨hC w e1,bound w e2⟩
  ·obtain⟨c1,c2⟩:=hA v hv h2;obtain⟨e1,e2,e3⟩:=f.body v c1 (by omega) (by omega);exact⟨e1,e2,fun w hw=>⟨hC w (e3 w hw).1,bound w (e3 w hw).2⟩⟩
  ·obtain⟨u,u1,u2,u3⟩:=f.low_at;have:=f.low_le;have:=f.lt;obtain⟨e1,e2,_⟩:=hB u u1 (by omega);exact⟨u,e1,by rw[e2,b3];exact u2,u3⟩
  rw[b2];have hlt:=f.lt;exact Seg.move hr (fun v hv hl=>hA v hv (by omega)) (fun v hv hl=>hB v hv (by omega)) hC (fun w hw=>by
   rcases hD w hw with h|h
   ·exact .inl h
   exact .inr (by omega))
theorem tail_reach (inj:∀u v,0<s.seen u→s.seen u=s.seen v→u=v):∀ {r:List (Nat×Nat)} {U:Nat} {act:Bool} {d a:Nat},Seg adj s U act ((d,a)::r)→∀u,s.live u→s.seen u<U→Reach adj u d
 |r,U,act,d,a,⟨f,hr⟩,u,hu,hlt=>by
  rcases Nat.lt_trichotomy (s.seen u) (s.seen d)with h|h|h
  ·match r,hr,f.link with
   |[],hr,_=>exact absurd (hr u hu) (by omega)
   |(d2,a2)::r2,hr,hl=>have h1:=tail_reach inj hr u hu h;have h2:=gG (hl d2 a2 r2 rfl);exact h1.trans (.edge h2)
  ·obtain rfl:=inj u d hu.1 h;exact .refl _
  exact(f.body u hu h hlt).2.1
theorem unv_upd :∀(n:Nat) (f:Nat→Nat) (k x:Nat),k<n→f k=0→0<x→unv n (upd f k x)+1=unv n f:=by
 intro n
 induction n with
 |zero=>intro f k x h;omega
 |succ n ih=>
  intro f k x hk h0 hx;simp only[unv,List.range_succ,List.countP_append,List.countP_cons,List.countP_nil];by_cases e:k=n
  ·subst e;(have:(List.range k).countP (fun v=>decide (upd f k x v=0))=(List.range k).countP (fun v=>decide (f v=0)):=by apply List.countP_congr;intro v hv;(have:v≠k:=by have:=List.mem_range.1 hv;omega);rw[upd_other _ _ this]);rw[this,upd_same];(have hx':¬x=0:=by omega);simp[hx',h0]
  have h1:=ih f k x (by omega) h0 hx;simp only[unv]at h1;rw[upd_other _ _ (Ne.symm e)];omega
theorem inv_start (adj:Nat→List Nat) (n:Nat) (low:Nat→Nat):Inv adj n ⟨fun _=>0,low,fun _=> -1,0,0⟩ [] [] false where
 inj:=fun u v h=>by simp at h
 le:=fun v=>by simp
 dom:=fun v h=>by simp at h
 vis:=fun v h=>by simp at h
 sorted:=.nil
 mem:=fun v=>by simp[St.live]
 seg:=fun v h=>by simp[St.live]at h
 clos:=fun v h=>by simp at h
 cnt:=fun v=>by simp
 full:=fun c h=>by simp at h
 scc:=fun u v h=>by simp at h
 num:=by simp
 olen:=by simp
 rest:=by simp[unv]
theorem Inv.enter (h:Inv adj n s O D act) (hk:k<n) (h0:s.seen k=0)
  (hD:D=[]∨(act=true∧∀d a r,D=(d,a)::r→(adj d)[a-1]? =some k)):
  Inv adj n {s with seen:=upd s.seen k (s.now+1),low:=upd s.low k (s.now+1),now:=s.now+1} (k::O) ((k,0)::D) false:=by
 have hof:s.of k<0:=by
  rcases Int.lt_or_le (s.of k) 0 with h1|h1
  ·exact h1
  have:=h.vis k h1;omega
 have ne:∀v,0<s.seen v→v≠k:=fun v hv e=>by subst e;omega
 have live:∀v,(St.live {s with seen:=upd s.seen k (s.now+1),low:=upd s.low k (s.now+1),now:=s.now+1} v)↔(v=k∨s.live v):=by
  intro v;simp only[St.live];by_cases e:v=k
  ·subst e;simp[upd_same,hof]
  simp[upd_other _ _ e,e]
 have hmove:∀ {act},Seg adj s (s.now+1) act D→Seg adj {s with seen:=upd s.seen k (s.now+1),low:=upd s.low k (s.now+1),now:=s.now+1} (s.now+1) act D:=fun hs=>by
  refine hs.move (fun v hv hl=>?_) (fun v hv hl=>?_) (fun v hv=>?_) (fun w hw=>?_)
  ·rcases(live v).1 hv with rfl|hv'
   ·simp[upd_same]at hl
   exact⟨hv',by simp[upd_other _ _ (ne v hv'.1)]⟩
  ·have:=ne v hv.1;exact⟨(live v).2 (.inr hv),by simp[upd_other _ _ this],by simp[upd_other _ _ this]⟩
  ·simpa[upd_other _ _ (ne v hv)]using hv
  rcases(live w).1 hw with rfl|hw'
  ·right;simp[upd_same]
  left;exact⟨hw',by simp[upd_other _ _ (ne w hw'.1)]⟩
 constructor
 ·intro u v hu huv;by_cases e1:u=k<;>by_cases e2:v=k
  ·rw[e1,e2]
  ·subst e1;simp only[upd_same,upd_other _ _ e2]at huv;have:=h.le v;omega
  ·subst e2;simp only[upd_same,upd_other _ _ e1]at huv;have:=h.le u;omega
  simp only[upd_other _ _ e1,upd_other _ _ e2]at hu huv;exact h.inj u v hu huv
 ·intro v;by_cases e:v=k
  ·subst e;simp[upd_same]
  simp only[upd_other _ _ e];have:=h.le v;omega
 ·intro v hv;by_cases e:v=k
  ·subst e;exact hk
  simp only[upd_other _ _ e]at hv;exact h.dom v hv
 ·intro v hv;have hv':=h.vis v hv;simpa[upd_other _ _ (ne v hv')]using hv'
 ·rw[List.pairwise_cons];refine⟨fun v hv=>?_,h.sorted.imp_of_mem fun {x y} hx hy hxy=>?_⟩
  ·have:=(h.mem v).1 hv;simp only[upd_same,upd_other _ _ (ne v this.1)];have:=h.le v;omega
  (show upd s.seen k (s.now+1) y<upd s.seen k (s.now+1) x);rw[upd_other _ _ (ne x ((h.mem x).1 hx).1),upd_other _ _ (ne y ((h.mem y).1 hy).1)];exact hxy
 ·intro v;rw[List.mem_cons,live v,h.mem v]
 ·refine⟨⟨by simp[upd_same],(live k).2 (.inl rfl),Nat.zero_le _,(by simp),(fun i w _ hi=>absurd hi (Nat.not_lt_zero _)),(fun v hv h1 h2=>?_),by simp[upd_same],⟨k,(live k).2 (.inl rfl),by simp[upd_same],.refl _⟩,fun d' a' r' e=>?_⟩,?_⟩
  ·simp only[upd_same]at h1 h2;omega
  ·rcases hD with hD|⟨_,hD⟩
   ·rw[hD]at e;cases e
   exact hD d' a' r' e
  simp only[upd_same];rcases hD with hD|⟨hact,_⟩
  ·subst hD;exact hmove (act:=true) h.seg
  exact hmove (hact▸h.seg)
 ·exact h.clos
 ·exact h.cnt
 ·exact h.full
 ·exact h.scc
 ·have:=h.num;simp;omega
 ·have:=h.olen;simp;omega
 have h1:=unv_upd n s.seen k (s.now+1) hk h0 (by omega);have:=h.rest;simp only;omega
theorem Inv.edge_new (h:Inv adj n s O ((d,a)::r) false) (ha:a<(adj d).length):Inv adj n s O ((d,a+1)::r) true:=by
 obtain⟨f,hr⟩:=h.seg;exact {h with
  seg:=⟨{f with len:=ha,pos:=fun _=>by omega,edges:=fun i w hi hia hact=>f.edges i w hi (by have:=hact rfl;omega) (by simp)},hr⟩
  num:=h.num}
theorem Inv.edge_old (h:Inv adj n s O ((d,a)::r) false) (hk:(adj d)[a]? =some k) (h0:0<s.seen k) (hof:0≤s.of k):Inv adj n s O ((d,a+1)::r) false:=by
 obtain⟨f,hr⟩:=h.seg;have ha:a<(adj d).length:=(gF.1 hk).1;have hedge:∀i w,(adj d)[i]? =some w→i<a+1→(false=true→i+1<a+1)→0<s.seen w∧(s.live w→s.low d≤s.seen w):=by
  intro i w hi hia _;rcases Nat.lt_or_ge i a with hl|hg
  ·exact f.edges i w hi hl (by simp)
  (obtain rfl:i=a:=by omega);(obtain rfl:k=w:=by rw[hk]at hi;exact Option.some.inj hi);exact⟨h0,fun hl=>by have:=hl.2;omega⟩
 exact {h with seg:=⟨{f with len:=ha,pos:=by simp,edges:=hedge},hr⟩,num:=h.num}
theorem Inv.edge_live (h:Inv adj n s O ((d,a)::r) false) (hk:(adj d)[a]? =some k) (h0:0<s.seen k) (hof:s.of k<0):
  Inv adj n {s with low:=upd s.low d (min (s.low d) (s.seen k))} O ((d,a+1)::r) false:=by
 obtain⟨f,hr⟩:=h.seg;have ha:a<(adj d).length:=(gF.1 hk).1;have hlive:s.live k:=⟨h0,hof⟩;have he:Reach adj d k:=.edge (gG hk);refine⟨h.inj,h.le,h.dom,h.vis,h.sorted,h.mem,⟨⟨f.lt,f.live,ha,by simp,fun i w hi hia hact=>?_,fun v hv h1 h2=>?_,?_,?_,f.link⟩,?_⟩,h.clos,h.cnt,h.full,h.scc,h.num,h.olen,h.rest⟩
 ·simp only[upd_same];rcases Nat.lt_or_ge i a with hl|hg
  ·obtain⟨e1,e2⟩:=f.edges i w hi hl (by simp);exact⟨e1,fun hw=>Nat.le_trans (Nat.min_le_left _ _) (e2 hw)⟩
  (obtain rfl:i=a:=by omega);(obtain rfl:k=w:=by rw[hk]at hi;exact Option.some.inj hi);exact⟨h0,fun _=>Nat.min_le_right _ _⟩
 ·obtain⟨e1,e2,e3⟩:=f.body v hv h1 h2;refine⟨e1,e2,fun w hw=>⟨(e3 w hw).1,fun hl=>?_⟩⟩;simp only[upd_same];exact Nat.le_trans (Nat.min_le_left _ _) ((e3 w hw).2 hl)
 ·simp only[upd_same];exact Nat.le_trans (Nat.min_le_left _ _) f.low_le
 ·simp only[upd_same];rcases Nat.le_total (s.low d) (s.seen k)with hl|hl
  ·rw[Nat.min_eq_left hl];exact f.low_at
  rw[Nat.min_eq_right hl];exact⟨k,hlive,rfl,he⟩
 exact hr.move (fun v hv _=>⟨hv,rfl⟩) (fun v hv hl=>⟨hv,rfl,by(have:v≠d:=fun e=>by subst e;exact Nat.lt_irrefl _ hl);simp[upd_other _ _ this]⟩) (fun v hv=>hv) (fun w hw=>.inl ⟨hw,rfl⟩)
theorem Inv.up (h:Inv adj n s O ((d,a)::r) false) (ha:(adj d).length≤a) (hne:s.low d≠s.seen d):
  ∃d' a' r',r=(d',a')::r'∧Inv adj n {s with low:=upd s.low d' (min (s.low d') (s.low d))} O ((d',a')::r') false:=by
 obtain⟨f,hr⟩:=h.seg;have hlt:s.low d<s.seen d:=Nat.lt_of_le_of_ne f.low_le hne;obtain⟨u,u1,u2,u3⟩:=f.low_at
 match r,hr,f.link,h.num with
 |[],hr,_,_=>exact absurd (hr u u1) (by omega)
 |(d',a')::r',hr,hlink,hnum=>
  refine⟨d',a',r',rfl,?_⟩;have hreach:=tail_reach h.inj hr u u1 (by omega);obtain⟨g,hr'⟩:=hr;have hl:=hlink d' a' r' rfl;have hed:Reach adj d' d:=.edge (gG hl);have hdd:Reach adj d d':=u3.trans hreach;(have hds:∀w,w∈adj d→0<s.seen w∧(s.live w→s.low d≤s.seen w):=fun w hw=>by obtain⟨i,hi,e⟩:=List.mem_iff_getElem.1 hw;exact f.edges i w (by rw[gE hi,e]) (by omega) (by simp));refine⟨h.inj,h.le,h.dom,h.vis,h.sorted,h.mem,⟨⟨?_,g.live,g.len,by simp,fun i w hi hia _=>?_,fun v hv h1 h2=>?_,?_,?_,g.link⟩,?_⟩,h.clos,h.cnt,h.full,h.scc,by simp only[List.length_cons]at hnum ⊢;omega,h.olen,h.rest⟩
  ·have:=h.le d';simp only;omega
  ·simp only[upd_same];by_cases hlast:i+1<a'
   ·obtain⟨e1,e2⟩:=g.edges i w hi hia (fun _=>hlast);exact⟨e1,fun hw=>Nat.le_trans (Nat.min_le_left _ _) (e2 hw)⟩
   (obtain rfl:i=a'-1:=by omega);(obtain rfl:d=w:=by rw[hl]at hi;exact Option.some.inj hi);exact⟨f.live.1,fun _=>Nat.le_trans (Nat.min_le_right _ _) f.low_le⟩
  ·simp only[upd_same];simp only at h1 h2;rcases Nat.lt_trichotomy (s.seen v) (s.seen d)with hv'|hv'|hv'
   ·obtain⟨e1,e2,e3⟩:=g.body v hv h1 hv';exact⟨e1,e2,fun w hw=>⟨(e3 w hw).1,fun hw'=>Nat.le_trans (Nat.min_le_left _ _) ((e3 w hw).2 hw')⟩⟩
   ·obtain rfl:=h.inj v d hv.1 hv';exact⟨hed,hdd,fun w hw=>⟨(hds w hw).1,fun hw'=>Nat.le_trans (Nat.min_le_right _ _) ((hds w hw).2 hw')⟩⟩
   obtain⟨e1,e2,e3⟩:=f.body v hv hv' h2;exact⟨hed.trans e1,e2.trans hdd,fun w hw=>⟨(e3 w hw).1,fun hw'=>Nat.le_trans (Nat.min_le_right _ _) ((e3 w hw).2 hw')⟩⟩
  ·simp only[upd_same];exact Nat.le_trans (Nat.min_le_left _ _) g.low_le
  ·simp only[upd_same];rcases Nat.le_total (s.low d') (s.low d)with hl'|hl'
   ·rw[Nat.min_eq_left hl'];exact g.low_at
   rw[Nat.min_eq_right hl'];exact⟨u,u1,u2,hed.trans u3⟩
  exact hr'.move (fun v hv _=>⟨hv,rfl⟩) (fun v hv hl=>⟨hv,rfl,by(have:v≠d':=fun e=>by subst e;exact Nat.lt_irrefl _ hl);simp[upd_other _ _ this]⟩) (fun v hv=>hv) (fun w hw=>.inl ⟨hw,rfl⟩)
theorem Inv.close (h:Inv adj n s O ((d,a)::r) false) (ha:(adj d).length≤a) (heq:s.low d=s.seen d) {S O':List Nat} (hO:O=S++d::O') (hS:d∉S):
  Inv adj n {s with of:=fun v=>if v∈S∨v=d then(s.count:Int)else s.of v,count:=s.count+1} O' r false∧
  ∀d' a' r',r=(d',a')::r'→s.low d'≤s.low d:=by
 obtain⟨f,hr⟩:=h.seg;have hsort:=h.sorted;rw[hO,List.pairwise_append,List.pairwise_cons]at hsort;obtain⟨_,⟨s2,s3⟩,s4⟩:=hsort;have hSlt:∀v,v∈S→s.seen d<s.seen v:=fun v hv=>s4 v hv d (by simp)
 have hOlt:∀v,v∈O'→s.seen v<s.seen d:=fun v hv=>s2 v hv
 have hSlive:∀v,v∈S∨v=d→s.live v:=fun v hv=>(h.mem v).1 (by
  rw[hO];rcases hv with hv|rfl
  ·simp[hv]
  simp)
 have hnot:∀v,s.live v→s.seen v<s.seen d→¬(v∈S∨v=d):=fun v _ hl hv=>by
  rcases hv with hv|rfl
  ·have:=hSlt v hv;omega
  omega
 have hin:∀v,s.live v→s.seen d≤s.seen v→v∈S∨v=d:=fun v hv hl=>by
  have:=(h.mem v).2 hv;rw[hO]at this;simp only[List.mem_append,List.mem_cons]at this;rcases this with h1|h1|h1
  ·exact .inl h1
  ·exact .inr h1
  have:=hOlt v h1;omega
 have live:∀v,(St.live {s with of:=fun v=>if v∈S∨v=d then(s.count:Int)else s.of v,count:=s.count+1} v)↔(s.live v∧s.seen v<s.seen d):=by
  intro v;simp only[St.live];by_cases e:v∈S∨v=d
  ·rw[if_pos e];constructor
   ·rintro⟨_,h2⟩;omega
   rintro⟨h1,h2⟩;exact absurd e (hnot v h1 h2)
  rw[if_neg e];constructor
  ·intro h1;refine⟨h1,?_⟩;rcases Nat.lt_or_ge (s.seen v) (s.seen d)with hl|hg
   ·exact hl
   exact absurd (hin v h1 hg) e
  exact fun h1=>h1.1
 have hdead:∀v,0≤s.of v→¬(v∈S∨v=d):=fun v hv e=>by have:=(hSlive v e).2;omega
 have hneed:∀v,v∈S∨v=d→∀w,w∈adj v→0<s.seen w∧(s.live w→s.seen d≤s.seen w):=fun v hv w hw=>by
  rcases hv with hv|rfl
  ·have hle:=h.le v;have:=(f.body v (hSlive v (.inl hv)) (hSlt v hv) (by omega)).2.2 w hw;rw[heq]at this;exact this
  obtain⟨i,hi,e⟩:=List.mem_iff_getElem.1 hw;have:=f.edges i w (by rw[gE hi,e]) (by omega) (by simp);rw[heq]at this;exact this
 have hreach:∀v,v∈S∨v=d→Reach adj d v∧Reach adj v d:=fun v hv=>by
  rcases hv with hv|rfl
  ·have hle:=h.le v;have:=f.body v (hSlive v (.inl hv)) (hSlt v hv) (by omega);exact⟨this.1,this.2.1⟩
  exact⟨.refl _,.refl _⟩
 refine⟨⟨h.inj,h.le,h.dom,fun v hv=>?_,s3,fun v=>?_,?_,fun v hv w hw=>?_,fun v=>?_,fun c hc=>?_,fun u v hu huv=>?_,?_,?_,h.rest⟩,?_⟩
 ·simp only at hv;split at hv
  ·exact(hSlive v ‹_›).1
  exact h.vis v hv
 ·rw[live v];constructor
  ·intro hv;exact⟨(h.mem v).1 (by rw[hO];simp[hv]),hOlt v hv⟩
  rintro⟨h1,h2⟩;have:=(h.mem v).2 h1;rw[hO]at this;simp only[List.mem_append,List.mem_cons]at this;rcases this with h3|h3|h3
  ·exact absurd (.inl h3) (hnot v h1 h2)
  ·exact absurd (.inr h3) (hnot v h1 h2)
  exact h3
 ·match r,hr,f.link with
  |[],hr,_=>intro v hv;obtain⟨h1,h2⟩:=(live v).1 hv;have:=hr v h1;omega
  |(d',a')::r',⟨g,hr'⟩,hlink=>
   have hl:=hlink d' a' r' rfl;refine⟨⟨?_,(live d').2 ⟨g.live,g.lt⟩,g.len,by simp,fun i w hi hia _=>?_,fun v hv h1 h2=>?_,g.low_le,?_,g.link⟩,?_⟩
   ·have:=h.le d';simp only;omega
   ·by_cases hlast:i+1<a'
    ·obtain⟨e1,e2⟩:=g.edges i w hi hia (fun _=>hlast);exact⟨e1,fun hw=>e2 ((live w).1 hw).1⟩
    (obtain rfl:i=a'-1:=by omega);(obtain rfl:d=w:=by rw[hl]at hi;exact Option.some.inj hi);exact⟨f.live.1,fun hw=>absurd ((live d).1 hw).2 (Nat.lt_irrefl _)⟩
   ·obtain⟨c1,c2⟩:=(live v).1 hv;obtain⟨e1,e2,e3⟩:=g.body v c1 h1 c2;exact⟨e1,e2,fun w hw=>⟨(e3 w hw).1,fun hw'=>(e3 w hw).2 ((live w).1 hw').1⟩⟩
   ·obtain⟨u,u1,u2,u3⟩:=g.low_at;have:=g.low_le;have:=g.lt;exact⟨u,(live u).2 ⟨u1,by omega⟩,u2,u3⟩
   have hglt:=g.lt;exact hr'.move (fun v hv _=>⟨((live v).1 hv).1,rfl⟩) (fun v hv hl=>⟨(live v).2 ⟨hv,by omega⟩,rfl,rfl⟩) (fun v hv=>hv) (fun w hw=>.inl ⟨((live w).1 hw).1,rfl⟩)
 ·simp only at hv ⊢;by_cases e:v∈S∨v=d
  ·rw[if_pos e];obtain⟨e1,e2⟩:=hneed v e w hw;by_cases ew:w∈S∨w=d
   ·rw[if_pos ew];omega
   rw[if_neg ew];(have hnl:¬s.live w:=fun hl=>ew (hin w hl (e2 hl)));have h0:0≤s.of w:=by
    rcases Int.lt_or_le (s.of w) 0 with h1|h1
    ·exact absurd ⟨e1,h1⟩ hnl
    exact h1
   have:=h.cnt w;omega
  rw[if_neg e]at hv ⊢;obtain⟨e1,e2⟩:=h.clos v hv w hw;rw[if_neg (hdead w e1)];exact⟨e1,e2⟩
 ·have:=h.cnt v;simp only;split<;>omega
 ·simp only at hc ⊢;by_cases e:c=s.count
  ·subst e;exact⟨d,by simp⟩
  obtain⟨v,hv⟩:=h.full c (by omega);exact⟨v,by rw[if_neg (hdead v (by omega))];exact hv⟩
 ·simp only at hu huv;by_cases e1:u∈S∨u=d<;>by_cases e2:v∈S∨v=d
  ·exact(hreach u e1).2.trans (hreach v e2).1
  ·rw[if_pos e1,if_neg e2]at huv;have:=h.cnt v;omega
  ·rw[if_neg e1,if_pos e2]at huv;have:=h.cnt u;omega
  rw[if_neg e1,if_neg e2]at huv;rw[if_neg e1]at hu;exact h.scc u v hu huv
 ·have:=h.num;simp only[List.length_cons]at this ⊢;omega
 ·have:=h.olen;rw[hO]at this;simp only[List.length_append,List.length_cons]at this ⊢;omega
 rintro d' a' r' rfl;obtain⟨g,_⟩:=hr;have:=g.low_le;have:=g.lt;omega
theorem Inv.done (h:Inv adj n s O [] act) (hall:∀v,v<n→0<s.seen v):∀v,v<n→0≤s.of v:=by
 intro v hv;rcases Int.lt_or_le (s.of v) 0 with h1|h1
 ·have:=h.seg v ⟨hall v hv,h1⟩;have:=h.le v;omega
 exact h1
theorem Inv.nil_open (h:Inv adj n s O [] act):O=[]:=by apply List.eq_nil_iff_forall_not_mem.2;intro v hv;have h1:=h.seg v ((h.mem v).1 hv);have:=h.le v;omega
def work (adj:Nat→List Nat) (n:Nat) (f:Nat→Nat) (D:List (Nat×Nat)):Nat:=
 ((List.range n).map fun v=>if f v=0 then(adj v).length+2 else 0).sum+(D.map fun p=>(adj p.1).length-p.2+1).sum
theorem sum_upd :∀(n:Nat) (f:Nat→Nat) (g:Nat→Nat) (k x:Nat),k<n→f k=0→0<x→
  ((List.range n).map fun v=>if upd f k x v=0 then g v+2 else 0).sum+(g k+2)=((List.range n).map fun v=>if f v=0 then g v+2 else 0).sum:=by
 intro n
 induction n with
 |zero=>intro f g k x h;omega
 |succ n ih=>
  intro f g k x hk h0 hx;simp only[List.range_succ,List.map_append,List.sum_append,List.map_cons,List.map_nil,List.sum_cons,List.sum_nil];by_cases e:k=n
  ·subst e;(have:(List.range k).map (fun v=>if upd f k x v=0 then g v+2 else 0)=(List.range k).map (fun v=>if f v=0 then g v+2 else 0):=by apply List.map_congr_left;intro v hv;(have:v≠k:=by have:=List.mem_range.1 hv;omega);rw[upd_other _ _ this]);rw[this,upd_same];(have hx':¬x=0:=by omega);simp[hx',h0]
  have h1:=ih f g k x (by omega) h0 hx;rw[upd_other _ _ (Ne.symm e)];omega
theorem work_enter (hk:k<n) {f:Nat→Nat} (h0:f k=0) {x:Nat} (hx:0<x):work adj n (upd f k x) ((k,0)::D)<work adj n f D:=by have:=sum_upd n f (fun v=>(adj v).length) k x hk h0 hx;simp only[work,List.map_cons,List.sum_cons];omega
theorem work_edge {f:Nat→Nat} (ha:a<(adj d).length):work adj n f ((d,a+1)::r)<work adj n f ((d,a)::r):=by simp only[work,List.map_cons,List.sum_cons];omega
theorem work_pop {f:Nat→Nat}:work adj n f r<work adj n f ((d,a)::r):=by simp only[work,List.map_cons,List.sum_cons];omega
end
end Go.Proofs.YtimkjnbihlgbiaaGreat.Tarjan
namespace Go.Proofs.YtimkjnbihlgbiaaGreat
def refused (xss:List (List Int)):Int:=
 if 1024<xss.length then 2 else if xss.any (fun l=>decide (1024<l.length))then 2
 else if xss.any (fun l=>l.any fun k=>decide (k<0)||decide ((xss.length:Int)≤k))then 1 else 0
theorem refused_long {xss:List (List Int)} (h:1024<xss.length):refused xss=2:=by simp[refused,h]
theorem refused_row {xss:List (List Int)} {k:Nat} (hk:k<xss.length) (h:1024<xss[k].length):refused xss=2:=by
 unfold refused;have:xss.any (fun l=>decide (1024<l.length))=true:=by rw[List.any_eq_true];exact⟨xss[k],List.getElem_mem hk,by simpa using h⟩
 simp[this]
theorem any_long_false {xss:List (List Int)} (h:∀j (hj:j<xss.length),xss[j].length≤1024):xss.any (fun l=>decide (1024<l.length))=false:=by rw[List.any_eq_false];intro l hl;obtain⟨j,hj,rfl⟩:=List.mem_iff_getElem.1 hl;have:=h j hj;simpa using this
theorem refused_bad {xss:List (List Int)} (h0:xss.length≤1024) (h:∀j (hj:j<xss.length),xss[j].length≤1024) {k i:Nat} (hk:k<xss.length) (hi:i<xss[k].length)
  (hb:xss[k][i]<0∨(xss.length:Int)≤xss[k][i]):refused xss=1:=by
 unfold refused;rw[if_neg (by omega),any_long_false h];have:xss.any (fun l=>l.any fun k=>decide (k<0)||decide ((xss.length:Int)≤k))=true:=by rw[List.any_eq_true];refine⟨xss[k],List.getElem_mem hk,?_⟩;rw[List.any_eq_true];exact⟨xss[k][i],List.getElem_mem hi,by simpa using hb⟩
 simp[this]
theorem refused_none {xss:List (List Int)} (h0:xss.length≤1024) (h:∀j (hj:j<xss.length),xss[j].length≤1024)
  (hg:∀j (hj:j<xss.length) i (hi:i<xss[j].length),0≤xss[j][i]∧xss[j][i]<(xss.length:Int)):refused xss=0:=by
 unfold refused;rw[if_neg (by omega),any_long_false h];have:xss.any (fun l=>l.any fun k=>decide (k<0)||decide ((xss.length:Int)≤k))=false:=by rw[List.any_eq_false];intro l hl;obtain⟨j,hj,rfl⟩:=List.mem_iff_getElem.1 hl;rw[Bool.not_eq_true,List.any_eq_false];intro k hk;obtain⟨i,hi,rfl⟩:=List.mem_iff_getElem.1 hk;have:=hg j hj i hi;simp only[Bool.or_eq_true,decide_eq_true_eq];omega
 simp[this]
theorem refused_zero {xss:List (List Int)} (h:refused xss=0):xss.length≤1024∧(∀j (hj:j<xss.length),xss[j].length≤1024)∧
  ∀j (hj:j<xss.length) i (hi:i<xss[j].length),0≤xss[j][i]∧xss[j][i]<(xss.length:Int):=by
 have h0:xss.length≤1024:=by
  rcases Nat.lt_or_ge 1024 xss.length with h'|h'
  ·rw[refused_long h']at h;omega
  exact h'
 have h1:∀j (hj:j<xss.length),xss[j].length≤1024:=by
  intro j hj;rcases Nat.lt_or_ge 1024 xss[j].length with h'|h'
  ·rw[refused_row hj h']at h;omega
  exact h'
 refine⟨h0,h1,fun j hj i hi=>?_⟩;by_cases hb:xss[j][i]<0∨(xss.length:Int)≤xss[j][i]
 ·rw[refused_bad h0 h1 hj hi hb]at h;omega
 omega
end Go.Proofs.YtimkjnbihlgbiaaGreat
