/- ModelGW, ModelOpen, ModelGO, laid together. -/
import Derived.Test.YtimkjnbihlgbiaaGreatJ12
namespace Go.Proofs.YtimkjnbihlgbiaaGreat
open Go.RowKit
set_option linter.unusedVariables false
set_option linter.unusedSimpArgs false
def nodeV (n:TN):Value:=.agg #[.int .i64 n.file,.int .i64 n.mode]
def nodesG (Ns:List TN):List (Lit×Value):=Ns.map fun n=>(.string n.path,nodeV n)
def gAs (W bn bf bk next:Nat) (Ns:List TN) (Fs:List FEnt) (Lk:List (Lit×Value)) (R:List Asn):List Asn:=
 .box W 135 (worldCells bn bf bk next)::gmR 9 bn (nodesG Ns)::gmR 3 bf (filesL Fs)::gmR 9 bk Lk::(Fs.map fileBox++R)
def putG (Ns:List TN) (n:TN):List TN:=Ns.filter (fun m=> !(m.path==n.path))++[n]
theorem nodesG_put {Ns:List TN} {n:TN} {v:Value} (h:v=nodeV n):putM (nodesG Ns) (.string n.path) v=nodesG (putG Ns n):=by subst h;unfold putM delM nodesG putG;rw[List.map_append,List.filter_map];rfl
set_option maxRecDepth 100000 in
theorem gputf_any {w0 w:World} {W bn bf bk next:Nat} {Ns:List TN} {Fs:List FEnt} {Lk:List (Lit×Value)} {R:List Asn} (hS:Sep w0 w (gAs W bn bf bk next Ns Fs Lk R)) {p:List UInt8} (hp:p.length≤1048576) (md:Int) {j:Nat} {f:FEnt} (hf:Fs[j]? =some f) (hid:f.id≤10000) (hn:f.names≤10000∧0≤f.names) {k:Nat} (hk:(getM Lk (.string (parentL p))).getD (.int .i64 0)= .int .i64 k) (hk9:k≤10000) (hNs:Ns.length≤10000) (hLk:Lk.length≤10000):
  Calls Tryz.prog 85 #[.pointer (some ⟨W,0,none⟩),strV p,.agg #[.int .i64 f.id,.int .i64 md]] w fun e w'=>e= .returned (.tuple #[])∧Sep w0 w' (gAs W bn bf bk next (putG Ns ⟨p,f.id,md⟩) (Fs.set j {f with names:=f.names+1}) (putM Lk (.string (parentL p)) (.int .i64 ((k:Int)+1))) R):=by
 have hsh:p.length≤maxLen:=by unfold maxLen;omega
 have hshp:(parentL p).length≤maxLen:=by have:=parentL_len p;omega
 have hX:=(hS.bN 137 #[.int .i64 f.id,.int .i64 md]).drew;have m1:∀(As:List Asn) (w':World),Sep w0 w' As→As[1]? =some (.box W 135 (worldCells bn bf bk next))→As[0]? =some (.box w.heap.size 137 #[.int .i64 f.id,.int .i64 md])→w'.cell? ⟨W,0,none⟩=some (.map (some bn))∧w'.cell? ⟨w.heap.size,0,none⟩=some (.int .i64 f.id)∧w'.cell? ⟨w.heap.size,1,none⟩=some (.int .i64 md):=by intro As w' h h1 h0;exact⟨by rw[h.bC 1 h1 0];rfl,by rw[h.bC 0 h0 0];rfl,by rw[h.bC 0 h0 1];rfl⟩
 have hE:=m1 _ _ hX rfl rfl;obtain⟨w2,hup,hX2⟩:=hX.gm_put 2 rfl keyed_str Tryz.underlying132 (by simp[nodesG];unfold maxLen;omega) (v:=.agg #[.int .i64 f.id,.int .i64 md]) (keyOf_strV p hsh);have hX2':=Lh hX2;have hE2:=Lh m1;have hpa:=fun W=>parent_any (p:=p) (by omega) W
 have hpa':=Lh hpa;have q0:(0:Int)≤(f.id:Int):=by omega
 have hw1:IntKind.i64.wrap ((k:Int)+1)=(k:Int)+1:=IntWalk.i64_in _ (by omega);have hw2:IntKind.i64.wrap (f.names+1)=f.names+1:=IntWalk.i64_in _ (by omega);unfold strV at*;clear hX hX2 m1 hS hpa;go_enter Tryz.func85,Tryz.ntmps85;go_wp2_with fail;refine wp_region_E (S:=fun w'=>w'.cell? ⟨W,0,none⟩=some (.map (some bn))∧w'.cell? ⟨w.heap.size,0,none⟩=some (.int .i64 f.id)∧w'.cell? ⟨w.heap.size,1,none⟩=some (.int .i64 md)) 6 (by kernel_rfl) ?_;simp only[List.size_toArray,List.length_cons,List.length_nil,Nat.reduceAdd];refine wpE_tk (i:=0) (v:=?_) hE rfl ?_ ?_;rotate_left
 ·rintro w ⟨e1,e2,e3⟩;go_simp;try with_reducible rfl
 simp only[Act.put,gD];refine wpE_tk (i:=1) (v:=?_) hE rfl ?_ ?_;rotate_left
 ·rintro w ⟨e1,e2,e3⟩;go_simp;try with_reducible rfl
 simp only[Act.put,gD];refine wpE_tk (i:=2) (v:=?_) hE rfl ?_ ?_;rotate_left
 ·rintro w ⟨e1,e2,e3⟩;go_simp;try with_reducible rfl
 simp only[Act.put,gD];refine wpE_tk (i:=3) (v:=?_) hE rfl ?_ ?_;rotate_left
 ·rintro w ⟨e1,e2,e3⟩;go_simp;try with_reducible rfl
 simp only[Act.put,gD];refine wpE_tk (i:=4) (v:=?_) hE rfl ?_ ?_;rotate_left
 ·rintro w ⟨e1,e2,e3⟩;go_simp;try with_reducible rfl
 simp only[Act.put,gD];refine wpE_tk (i:=5) (v:=?_) hE rfl ?_ ?_;rotate_left
 ·rintro w ⟨e1,e2,e3⟩;go_simp;try with_reducible rfl
 simp only[Act.put,gD];refine wpE_one (i:=6) (by kernel_rfl) rfl (fun K hK=>?_);go_simp;refine hK _ _ (fun h=>absurd rfl h) ?_;clear hK K;try simp only[Act.put,gD]
 refine wpE_done (by kernel_rfl) ?_ _;have hX3:=hX2'.out.drew;have hE3:w2.drew.cell? ⟨W,2,none⟩=some (.map (some bk)):=by rw[hX3.bC 1 rfl 2];rfl
 go_wp2_with fail;refine wp_region_E (S:=fun w'=>w'.cell? ⟨W,2,none⟩=some (.map (some bk))) 8 (by kernel_rfl) ?_;simp only[List.size_toArray,List.length_cons,List.length_nil,Nat.reduceAdd];refine wpE_tk (i:=0) (v:=?_) hE3 rfl ?_ ?_;rotate_left
 ·rintro w e1;go_simp;try with_reducible rfl
 simp only[Act.put,gD];refine wpE_tk (i:=1) (v:=?_) hE3 rfl ?_ ?_;rotate_left
 ·rintro w e1;go_simp;try with_reducible rfl
 simp only[Act.put,gD];refine wpE_tk (i:=2) (v:=?_) hE3 rfl ?_ ?_;rotate_left
 ·rintro w e1;go_simp;try with_reducible rfl
 simp only[Act.put,gD];refine wpE_tk (i:=3) (v:=?_) hE3 rfl ?_ ?_;rotate_left
 ·rintro w e1;go_simp;try with_reducible rfl
 simp only[Act.put,gD];refine wpE_tk (i:=4) (v:=?_) hE3 rfl ?_ ?_;rotate_left
 ·rintro w e1;go_simp;try with_reducible rfl
 simp only[Act.put,gD];refine wpE_one (i:=5) (by kernel_rfl) rfl (fun K hK=>?_);go_simp;go_at_call 39;refine(hpa'.out _).mono ?_;rintro e w3 ⟨rfl,hb3⟩;have hX4:=hX3.pure hb3;have s4:w3.cell? ⟨W,2,none⟩=some (.map (some bk)):=by rw[hX4.bC 1 rfl 2];rfl
 have hlk:=hX4.gm_look 4 rfl keyed_str Tryz.underlying86 (zero_int' _) (keyOf_strV (parentL p) hshp);rw[hk]at hlk;obtain⟨w5,hup2,hX5⟩:=hX4.gm_put 4 rfl keyed_str Tryz.underlying86 (by unfold maxLen;omega) (v:=.int .i64 ((k:Int)+1)) (keyOf_strV (parentL p) hshp);unfold strV at hlk hup2;have hX5':=Lh hX5;clear hX5 hX4 hX3 hb3;dsimp only;refine hK _ _ (fun _=>s4) ?_;clear hK K;try simp only[Act.put,gD]
 refine wpE_one (i:=6) (by kernel_rfl) rfl (fun K hK=>?_);go_simp;refine hK _ _ (fun _=>s4) ?_;clear hK K;try simp only[Act.put,gD]
 refine wpE_one (i:=7) (by kernel_rfl) rfl (fun K hK=>?_);go_simp;refine hK _ _ (fun _=>s4) ?_;clear hK K;try simp only[Act.put,gD]
 refine wpE_one (i:=8) (by kernel_rfl) rfl (fun K hK=>?_);go_simp;refine hK _ _ (fun h=>absurd rfl h) ?_;clear hK K;try simp only[Act.put,gD]
 refine wpE_done (by kernel_rfl) ?_ _;have u0:=hX5'.out.bC 0 rfl 0;simp only[gA,gB]at u0;have hfi:(gAs W bn bf bk next (putG Ns ⟨p,f.id,md⟩) Fs (putM Lk (.string (parentL p)) (.int .i64 ((k:Int)+1))) R)[j+4]? =some (fileBox f):=by(show(Fs.map fileBox++R)[j]? =_);have hj:=(gF.1 hf).1;rw[List.getElem?_append_left (by simpa using hj),List.getElem?_map,hf];rfl
 have hX6:Sep w0 w5.drew (.box w.heap.size 137 #[.int .i64 f.id,.int .i64 md]::gAs W bn bf bk next (putG Ns ⟨p,f.id,md⟩) Fs (putM Lk (.string (parentL p)) (.int .i64 ((k:Int)+1))) R):=by have h9:=hX5'.out.drew;rw[nodesG_put (n:=⟨p,f.id,md⟩) (by rfl)]at h9;exact h9
 have hlf:=hX6.gm_look 3 rfl (Maps.int_keyed Tryz.underlying3) Tryz.underlying133 (zero_pfile _) (keyOf_id f.id (by omega));rw[getM_mem (hX6.gm_keys 3 rfl) (v:=.pointer (some ⟨f.ptr,0,none⟩)) (List.mem_map.2 ⟨f,gG hf,rfl⟩),Option.getD_some]at hlf;have hE5:w5.drew.cell? ⟨W,1,none⟩=some (.map (some bf))∧w5.drew.cell? ⟨w.heap.size,0,none⟩=some (.int .i64 f.id)∧w5.drew.cell? ⟨f.ptr,1,none⟩=some (.int .i64 f.names)∧(Instr.lookup 133 (.map (some bf)) (.int .i64 f.id) false).run Tryz.prog w5.drew= .ok (.pointer (some ⟨f.ptr,0,none⟩)) w5.drew:=
  ⟨by rw[hX6.bC 1 rfl 1];rfl,by rw[hX6.bC 0 rfl 0];rfl,by rw[hX6.bC (j+5) hfi 1];rfl,hlf⟩
 have hfz:=hX6.bF (j+5) hfi 1;have hX6':=Lh hX6;have hfi':=Lh hfi;clear hX6 hX5' hlf hfi;go_wp2_with fail;refine wp_region_E (S:=fun w'=>w'.cell? ⟨W,1,none⟩=some (.map (some bf))∧w'.cell? ⟨w.heap.size,0,none⟩=some (.int .i64 f.id)∧w'.cell? ⟨f.ptr,1,none⟩=some (.int .i64 f.names)∧(Instr.lookup 133 (.map (some bf)) (.int .i64 f.id) false).run Tryz.prog w'= .ok (.pointer (some ⟨f.ptr,0,none⟩)) w') 13 (by kernel_rfl) ?_;simp only[List.size_toArray,List.length_cons,List.length_nil,Nat.reduceAdd];refine wpE_tk (i:=0) (v:=?_) hE5 rfl ?_ ?_;rotate_left
 ·rintro w ⟨e1,e2,e3,e4⟩;go_simp;try with_reducible rfl
 simp only[Act.put,gD];refine wpE_tk (i:=1) (v:=?_) hE5 rfl ?_ ?_;rotate_left
 ·rintro w ⟨e1,e2,e3,e4⟩;go_simp;try with_reducible rfl
 simp only[Act.put,gD];refine wpE_tk (i:=2) (v:=?_) hE5 rfl ?_ ?_;rotate_left
 ·rintro w ⟨e1,e2,e3,e4⟩;go_simp;try with_reducible rfl
 simp only[Act.put,gD];refine wpE_tk (i:=3) (v:=?_) hE5 rfl ?_ ?_;rotate_left
 ·rintro w ⟨e1,e2,e3,e4⟩;go_simp;try with_reducible rfl
 simp only[Act.put,gD];refine wpE_tk (i:=4) (v:=?_) hE5 rfl ?_ ?_;rotate_left
 ·rintro w ⟨e1,e2,e3,e4⟩;go_simp;try with_reducible rfl
 simp only[Act.put,gD];refine wpE_tk (i:=5) (v:=?_) hE5 rfl ?_ ?_;rotate_left
 ·rintro w ⟨e1,e2,e3,e4⟩;go_simp;try with_reducible rfl
 simp only[Act.put,gD];obtain⟨x1,x2,x3,x4⟩:=id hE5;refine wpE_one (i:=6) (by kernel_rfl) rfl (fun K hK=>?_);go_simp;refine hK _ _ (fun _=>hE5) ?_;clear hK K;try simp only[Act.put,gD]
 refine wpE_tk (i:=7) (v:=?_) hE5 rfl ?_ ?_;rotate_left
 ·rintro w ⟨e1,e2,e3,e4⟩;go_simp;try with_reducible rfl
 simp only[Act.put,gD];refine wpE_tk (i:=8) (v:=?_) hE5 rfl ?_ ?_;rotate_left
 ·rintro w ⟨e1,e2,e3,e4⟩;go_simp;try with_reducible rfl
 simp only[Act.put,gD];refine wpE_tk (i:=9) (v:=?_) hE5 rfl ?_ ?_;rotate_left
 ·rintro w ⟨e1,e2,e3,e4⟩;go_simp;try with_reducible rfl
 simp only[Act.put,gD];refine wpE_tk (i:=10) (v:=?_) hE5 rfl ?_ ?_;rotate_left
 ·rintro w ⟨e1,e2,e3,e4⟩;go_simp;try with_reducible rfl
 simp only[Act.put,gD];refine wpE_one (i:=11) (by kernel_rfl) rfl (fun K hK=>?_);go_simp;refine hK _ _ (fun _=>hE5) ?_;clear hK K;try simp only[Act.put,gD]
 refine wpE_one (i:=12) (by kernel_rfl) rfl (fun K hK=>?_);go_simp;refine hK _ _ (fun _=>hE5) ?_;clear hK K;try simp only[Act.put,gD]
 refine wpE_one (i:=13) (by kernel_rfl) rfl (fun K hK=>?_);go_simp;refine hK _ _ (fun h=>absurd rfl h) ?_;clear hK K;try simp only[Act.put,gD]
 refine wpE_done (by kernel_rfl) ?_ _;go_wp2_with fail
 go_end0
 refine⟨rfl,?_⟩;have h1:=Sep.drop 1 (hX6'.out.bS (j+5) hfi'.out 1 (.int .i64 (f.names+1)));have hj:=(gF.1 hf).1;have e1:(Fs.set j {f with names:=f.names+1}).map fileBox=(Fs.map fileBox).set j (.box f.ptr 140 #[.int .i64 f.mode,.int .i64 (f.names+1),f.dv]):=by rw[List.map_set];rfl
 have e2:filesL (Fs.set j {f with names:=f.names+1})=filesL Fs:=by unfold filesL;rw[List.map_set];exact List.set_getElem_self' (by rw[List.getElem?_map,hf];rfl)
 unfold gAs;rw[e2,e1,←List.set_append_left _ _ (by simpa using hj)];exact h1
set_option maxRecDepth 100000 in
theorem gputd_any {w0 w:World} {W bn bf bk next:Nat} {Ns:List TN} {Fs:List FEnt} {Lk:List (Lit×Value)} {R:List Asn} (hS:Sep w0 w (gAs W bn bf bk next Ns Fs Lk R)) {p:List UInt8} (hp:p.length≤1048576) (md:Int) {k:Nat} (hk:(getM Lk (.string (parentL p))).getD (.int .i64 0)= .int .i64 k) (hk9:k≤10000) (hNs:Ns.length≤10000) (hLk:Lk.length≤10000):
  Calls Tryz.prog 85 #[.pointer (some ⟨W,0,none⟩),strV p,.agg #[.int .i64 (-1),.int .i64 md]] w fun e w'=>e= .returned (.tuple #[])∧Sep w0 w' (gAs W bn bf bk next (putG Ns ⟨p, -1,md⟩) Fs (putM Lk (.string (parentL p)) (.int .i64 ((k:Int)+1))) R):=by
 have hsh:p.length≤maxLen:=by unfold maxLen;omega
 have hshp:(parentL p).length≤maxLen:=by have:=parentL_len p;omega
 have hX:=(hS.bN 137 #[.int .i64 (-1),.int .i64 md]).drew;have m1:∀(As:List Asn) (w':World),Sep w0 w' As→As[1]? =some (.box W 135 (worldCells bn bf bk next))→As[0]? =some (.box w.heap.size 137 #[.int .i64 (-1),.int .i64 md])→w'.cell? ⟨W,0,none⟩=some (.map (some bn))∧w'.cell? ⟨w.heap.size,0,none⟩=some (.int .i64 (-1))∧w'.cell? ⟨w.heap.size,1,none⟩=some (.int .i64 md):=by intro As w' h h1 h0;exact⟨by rw[h.bC 1 h1 0];rfl,by rw[h.bC 0 h0 0];rfl,by rw[h.bC 0 h0 1];rfl⟩
 have hE:=m1 _ _ hX rfl rfl;obtain⟨w2,hup,hX2⟩:=hX.gm_put 2 rfl keyed_str Tryz.underlying132 (by simp[nodesG];unfold maxLen;omega) (v:=.agg #[.int .i64 (-1),.int .i64 md]) (keyOf_strV p hsh);have hX2':=Lh hX2;have hE2:=Lh m1;have hpa:=fun W=>parent_any (p:=p) (by omega) W
 have hpa':=Lh hpa;have hw1:IntKind.i64.wrap ((k:Int)+1)=(k:Int)+1:=IntWalk.i64_in _ (by omega);unfold strV at*;clear hX hX2 m1 hS hpa;go_enter Tryz.func85,Tryz.ntmps85;go_wp2_with fail;refine wp_region_E (S:=fun w'=>w'.cell? ⟨W,0,none⟩=some (.map (some bn))∧w'.cell? ⟨w.heap.size,0,none⟩=some (.int .i64 (-1))∧w'.cell? ⟨w.heap.size,1,none⟩=some (.int .i64 md)) 6 (by kernel_rfl) ?_;simp only[List.size_toArray,List.length_cons,List.length_nil,Nat.reduceAdd];refine wpE_tk (i:=0) (v:=?_) hE rfl ?_ ?_;rotate_left
 ·rintro w ⟨e1,e2,e3⟩;go_simp;try with_reducible rfl
 simp only[Act.put,gD];refine wpE_tk (i:=1) (v:=?_) hE rfl ?_ ?_;rotate_left
 ·rintro w ⟨e1,e2,e3⟩;go_simp;try with_reducible rfl
 simp only[Act.put,gD];refine wpE_tk (i:=2) (v:=?_) hE rfl ?_ ?_;rotate_left
 ·rintro w ⟨e1,e2,e3⟩;go_simp;try with_reducible rfl
 simp only[Act.put,gD];refine wpE_tk (i:=3) (v:=?_) hE rfl ?_ ?_;rotate_left
 ·rintro w ⟨e1,e2,e3⟩;go_simp;try with_reducible rfl
 simp only[Act.put,gD];refine wpE_tk (i:=4) (v:=?_) hE rfl ?_ ?_;rotate_left
 ·rintro w ⟨e1,e2,e3⟩;go_simp;try with_reducible rfl
 simp only[Act.put,gD];refine wpE_tk (i:=5) (v:=?_) hE rfl ?_ ?_;rotate_left
 ·rintro w ⟨e1,e2,e3⟩;go_simp;try with_reducible rfl
 simp only[Act.put,gD];refine wpE_one (i:=6) (by kernel_rfl) rfl (fun K hK=>?_);go_simp;refine hK _ _ (fun h=>absurd rfl h) ?_;clear hK K;try simp only[Act.put,gD]
 refine wpE_done (by kernel_rfl) ?_ _;have hX3:=hX2'.out.drew;have hE3:w2.drew.cell? ⟨W,2,none⟩=some (.map (some bk)):=by rw[hX3.bC 1 rfl 2];rfl
 go_wp2_with fail;refine wp_region_E (S:=fun w'=>w'.cell? ⟨W,2,none⟩=some (.map (some bk))) 8 (by kernel_rfl) ?_;simp only[List.size_toArray,List.length_cons,List.length_nil,Nat.reduceAdd];refine wpE_tk (i:=0) (v:=?_) hE3 rfl ?_ ?_;rotate_left
 ·rintro w e1;go_simp;try with_reducible rfl
 simp only[Act.put,gD];refine wpE_tk (i:=1) (v:=?_) hE3 rfl ?_ ?_;rotate_left
 ·rintro w e1;go_simp;try with_reducible rfl
 simp only[Act.put,gD];refine wpE_tk (i:=2) (v:=?_) hE3 rfl ?_ ?_;rotate_left
 ·rintro w e1;go_simp;try with_reducible rfl
 simp only[Act.put,gD];refine wpE_tk (i:=3) (v:=?_) hE3 rfl ?_ ?_;rotate_left
 ·rintro w e1;go_simp;try with_reducible rfl
 simp only[Act.put,gD];refine wpE_tk (i:=4) (v:=?_) hE3 rfl ?_ ?_;rotate_left
 ·rintro w e1;go_simp;try with_reducible rfl
 simp only[Act.put,gD];refine wpE_one (i:=5) (by kernel_rfl) rfl (fun K hK=>?_);go_simp;go_at_call 39;refine(hpa'.out _).mono ?_;rintro e w3 ⟨rfl,hb3⟩;have hX4:=hX3.pure hb3;have s4:w3.cell? ⟨W,2,none⟩=some (.map (some bk)):=by rw[hX4.bC 1 rfl 2];rfl
 have hlk:=hX4.gm_look 4 rfl keyed_str Tryz.underlying86 (zero_int' _) (keyOf_strV (parentL p) hshp);rw[hk]at hlk;obtain⟨w5,hup2,hX5⟩:=hX4.gm_put 4 rfl keyed_str Tryz.underlying86 (by unfold maxLen;omega) (v:=.int .i64 ((k:Int)+1)) (keyOf_strV (parentL p) hshp);unfold strV at hlk hup2;have hX5':=Lh hX5;clear hX5 hX4 hX3 hb3;dsimp only;refine hK _ _ (fun _=>s4) ?_;clear hK K;try simp only[Act.put,gD]
 refine wpE_one (i:=6) (by kernel_rfl) rfl (fun K hK=>?_);go_simp;refine hK _ _ (fun _=>s4) ?_;clear hK K;try simp only[Act.put,gD]
 refine wpE_one (i:=7) (by kernel_rfl) rfl (fun K hK=>?_);go_simp;refine hK _ _ (fun _=>s4) ?_;clear hK K;try simp only[Act.put,gD]
 refine wpE_one (i:=8) (by kernel_rfl) rfl (fun K hK=>?_);go_simp;refine hK _ _ (fun h=>absurd rfl h) ?_;clear hK K;try simp only[Act.put,gD]
 refine wpE_done (by kernel_rfl) ?_ _;have hX6:Sep w0 w5 (.box w.heap.size 137 #[.int .i64 (-1),.int .i64 md]::gAs W bn bf bk next (putG Ns ⟨p, -1,md⟩) Fs (putM Lk (.string (parentL p)) (.int .i64 ((k:Int)+1))) R):=by have h9:=hX5'.out;rw[nodesG_put (n:=⟨p, -1,md⟩) (by rfl)]at h9;exact h9
 have u0:=hX5'.out.bC 0 rfl 0;simp only[gA,gB]at u0;have hX6':=Lh hX6;clear hX6 hX5';go_wp2_with fail
 go_end0
 exact⟨rfl,Sep.drop 1 hX6'.out⟩
theorem filesL_put {Fs:List FEnt} {f:FEnt} (h:∀g∈Fs,g.id≠f.id):putM (filesL Fs) (.int .i64 f.id) (.pointer (some ⟨f.ptr,0,none⟩))=filesL (Fs++[f]):=by unfold putM filesL;rw[List.map_append];congr 1;unfold delM;rw[List.filter_eq_self.2];intro p hp;obtain⟨g,hg,rfl⟩:=List.mem_map.1 hp;have:=h g hg;simp[Lit.sameKey];omega
theorem keyed_int' :Maps.Keyed Tryz.prog 3:=Maps.int_keyed Tryz.underlying3
structure FsG (fs:List TF) (vs:List Value) (ns:List TN) (m:Nat) (Fs:List FEnt):Prop where
 len:Fs.length=m
 at_:∀k f,Fs[k]? =some f→∃e u,fs[k]? =some e∧vs[k]? =some u∧f.id=k∧f.mode=e.mode∧f.dv=u∧f.names=((cntF ns k:Nat):Int)
theorem FsG.dir {fs:List TF} {vs:List Value} {ns:List TN} {m:Nat} {Fs:List FEnt} (h:FsG fs vs ns m Fs) {n:TN} (hn:n.file<0):FsG fs vs (ns++[n]) m Fs:=
 ⟨h.len,fun k f hk=>by obtain⟨e,u,h1,h2,h3,h4,h5,h6⟩:=h.at_ k f hk;refine⟨e,u,h1,h2,h3,h4,h5,?_⟩;rw[cntF_snoc,if_neg (by omega)];exact h6⟩
theorem FsG.file {fs:List TF} {vs:List Value} {ns:List TN} {m:Nat} {Fs:List FEnt} (h:FsG fs vs ns m Fs) {n:TN} {j:Nat} {g:FEnt} (hn:n.file=(j:Int)) (hg:Fs[j]? =some g):FsG fs vs (ns++[n]) m (Fs.set j {g with names:=g.names+1}):=by
 have hj:=(gF.1 hg).1;refine⟨by rw[List.length_set];exact h.len,fun k f hk=>?_⟩;by_cases e:j=k
 ·subst e;rw[List.getElem?_set_self hj]at hk;cases hk;obtain⟨e,u,h1,h2,h3,h4,h5,h6⟩:=h.at_ j g hg;refine⟨e,u,h1,h2,h3,h4,h5,?_⟩;rw[cntF_snoc,if_pos hn];(show g.names+1=_);rw[h6];omega
 rw[List.getElem?_set_ne e]at hk;obtain⟨e2,u,h1,h2,h3,h4,h5,h6⟩:=h.at_ k f hk;refine⟨e2,u,h1,h2,h3,h4,h5,?_⟩;rw[cntF_snoc,if_neg (by omega)];exact h6
theorem putG_take {ns:List TN} (h:ns.Pairwise fun a b=>a.path≠b.path) {i:Nat} {n:TN} (hn:ns[i]? =some n):putG (ns.take i) n=ns.take (i+1):=by
 unfold putG;rw[List.filter_eq_self.2,List.take_add_one,hn]
 ·rfl
 intro m hm;obtain⟨k,hk⟩:=List.mem_iff_getElem?.1 hm;rw[List.getElem?_take]at hk;split at hk
 ·rename_i hlt;obtain⟨h1,rfl⟩:=gF.1 hk;obtain⟨h2,rfl⟩:=gF.1 hn;have:=List.pairwise_iff_getElem.1 h k i h1 h2 hlt;simpa using this
 cases hk
theorem putM_le (L:List (Lit×Value)) (k:Lit) (v:Value):(putM L k v).length≤L.length+1:=by unfold putM delM;rw[List.length_append,List.length_singleton];have:=List.length_filter_le (fun p:Lit×Value=> !p.1.sameKey k) L;omega
theorem gAs_file {w0 w:World} {W bn bf bk next:Nat} {Ns:List TN} {Fs:List FEnt} {Lk:List (Lit×Value)} {R:List Asn} {f:FEnt} {X:Asn} (h:∀g∈Fs,g.id≠f.id)
  (hS:Sep w0 w (fileBox f::X:: .box W 135 (worldCells bn bf bk next)::gmR 9 bn (nodesG Ns)::gmR 3 bf (putM (filesL Fs) (.int .i64 f.id) (.pointer (some ⟨f.ptr,0,none⟩)))::gmR 9 bk Lk::(Fs.map fileBox++R))):Sep w0 w (gAs W bn bf bk next Ns (Fs++[f]) Lk R):=by
 rw[filesL_put h]at hS;have h1:=Sep.drop 1 (hS.perm (List.Perm.swap _ _ _));unfold gAs;rw[List.map_append,List.append_assoc];exact h1.perm (List.perm_middle (l₁:=.box W 135 (worldCells bn bf bk next)::gmR 9 bn (nodesG Ns)::gmR 3 bf (filesL (Fs++[f]))::gmR 9 bk Lk::Fs.map fileBox) (l₂:=R) (a:=fileBox f)).symm
theorem gAs_last {W bn bf bk next m:Nat} {Ns:List TN} {Fs:List FEnt} {Lk:List (Lit×Value)} {X:Asn} (h:Fs.length=m):(gAs W bn bf bk next Ns Fs Lk [X])[m+4]? =some X:=by
 show(Fs.map fileBox++[X])[m]? =_
 rw[List.getElem?_append_right (by simp;omega),List.length_map,h,Nat.sub_self];rfl
set_option maxRecDepth 100000 in
set_option maxHeartbeats 4000000 in
theorem open_ok {w:World} {nv fv:Value} {ns:List TN} {fs:List TF} {vs:List Value} (h:TreeAt w nv fv ns fs vs) (hm:TreeSm ns fs) (ho:LooseOk ns fs):
  Calls Tryz.prog 54 #[.agg #[nv,fv]] w fun e w'=>∃W bn bf bk Fs,e= .returned (.tuple #[.pointer (some ⟨W,0,none⟩),.int .i64 0])∧FsG fs vs ns fs.length Fs∧∃Lk,KidsOk Lk ns∧Lk.length≤ns.length∧Sep w w' (gAs W bn bf bk fs.length ns Fs Lk []):=by
 have hS0:=(Sep.nil w).bN 25 #[nv,fv];have hbo:=loose_any (h.below hS0.below) hm;rw[ok_loose ho]at hbo;replace hbo:=Lh hbo;obtain⟨A1,c1,rfl,hm1⟩:=h.nodes.shape;obtain⟨A2,c2,rfl,hm2⟩:=h.files.shape;have hsm:=Lh hm;have hS0':=Lh hS0;have h':=Lh h;have ho':=Lh ho;have hf:=ho.few;have hf2:=ho.few2;have b0:(fs.length:Int)≤256:=by omega
 have b00:(ns.length:Int)≤256:=by omega
 have hmm:= @run_makeMap Tryz.prog;clear h ho hS0 hm;go_enter Tryz.func54,Tryz.ntmps54;go_wp2_with(go_at_call 18;refine hbo.out.mono ?_;rintro e w1 ⟨rfl,hb1⟩;(have hS1:=hS0'.out.pure hb1);(have hS2:=((hS1.gm_new 9).gm_new 3).gm_new 9);simp only[World.size_alloc]at hS2;(have d1:(((w1.alloc (.map #[] 0)).alloc (.map #[] 0)).alloc (.map #[] 0)).cell? ⟨w.heap.size,1,none⟩=some (.slice A2 fs.length c2):=by rw[hS2.bC 3 rfl 1];rfl);(have hS3:=hS2.bN 135 #[.map (some w1.heap.size),.map (some (w1.heap.size+1)),.map (some (w1.heap.size+1+1)),.int .i64 (fs.length:Int)]);simp only[World.size_alloc]at hS3;(have d2:=hS3.bC 4 rfl 1);simp only[gA,gB,gC]at d2;(have hS3':=Lh hS3);clear hS1 hS2 hS3 hb1);have hW:Sep w ((((w1.alloc (.map #[] 0)).alloc (.map #[] 0)).alloc (.map #[] 0)).alloc (.cells #[.map (some w1.heap.size),.map (some (w1.heap.size+1)),.map (some (w1.heap.size+1+1)),.int .i64 (fs.length:Int)] 135)) (gAs (w1.heap.size+1+1+1) w1.heap.size (w1.heap.size+1) (w1.heap.size+1+1) fs.length [] [] [] [.box w.heap.size 25 #[.slice A1 ns.length c1,.slice A2 fs.length c2]]):=Sep.sel [0,3,2,1,4] hS3'.out (by decide) (by simp);generalize((((w1.alloc (.map #[] 0)).alloc (.map #[] 0)).alloc (.map #[] 0)).alloc (.cells #[.map (some w1.heap.size),.map (some (w1.heap.size+1)),.map (some (w1.heap.size+1+1)),.int .i64 (fs.length:Int)] 135))=w4 at hW d2 ⊢;generalize hbf:w1.heap.size+1=bf at hW ⊢;generalize hbk:bf+1=bk at hW ⊢;generalize hbw:bk+1=W at hW ⊢;generalize hbn:w1.heap.size=bn at hW ⊢;have hW':=Lh hW;clear hW hS3' d1 hbf hbk hbw hbn hbo hmm d2;go_loopw[26] (fun iv wr=>∃(i:Nat) (Fs:List FEnt),i≤fs.length∧iv= .int .i64 i∧FsG fs vs [] i Fs∧Sep w wr (gAs W bn bf bk fs.length [] Fs [] [.box w.heap.size 25 #[.slice A1 ns.length c1,.slice A2 fs.length c2]])) (fun iv _=>fs.length-(intOf iv).toNat)
 case atStart=>exact⟨0,[],Nat.zero_le _,rfl,⟨rfl,fun k f hk=>by simp at hk⟩,hW'.out⟩
 obtain⟨i,Fs,hi,rfl,hFs,hS⟩:=hrel;have q1:(0:Int)≤(i:Int):=by omega
 by_cases hlt:i<fs.length
 ·(have q2:(i:Int)<(fs.length:Int):=by omega);obtain⟨g,o,c,e,hc,hcm,hg,hcell⟩:=h'.out.files.place (by omega) (by decide);simp only[Value.slice.injEq]at e;obtain⟨rfl,_,rfl⟩:=e;obtain⟨e,he⟩:∃e,fs[i]? =some e:=⟨_,gE hlt⟩;obtain⟨u,hu⟩:∃u,vs[i]? =some u:=⟨_,gE (by rw[h'.out.len];exact hlt)⟩;have x0:=(hcell _ hS.below (i*2) (by omega)).trans (tfCells_at he hu 0 (by omega));have x1:=(hcell _ hS.below (i*2+1) (by omega)).trans (tfCells_at he hu 1 (by omega));simp only[tfC,gB,gC,←Nat.add_assoc]at x0 x1;obtain⟨A,c9,rfl,_⟩:=(h'.out.data i u e hu he).shape;have hX1:=hS.bN 54 #[.int .i64 e.mode,.slice A e.size c9];have hX:=hX1.drew;(have m1:∀(d:Nat) (As:List Asn) (w':World),Sep w w' As→As[d+1]? =some (.box W 135 (worldCells bn bf bk fs.length))→As[d]? =some (.box wr.heap.size 54 #[.int .i64 e.mode,.slice A e.size c9])→w'.cell? ⟨W,1,none⟩=some (.map (some bf))∧w'.cell? ⟨wr.heap.size,0,none⟩=some (.int .i64 e.mode)∧w'.cell? ⟨wr.heap.size,1,none⟩=some (.slice A e.size c9):=by intro d As w' h h1 h0;exact⟨by rw[h.bC _ h1 1];rfl,by rw[h.bC _ h0 0];rfl,by rw[h.bC _ h0 1];rfl⟩);have hE:=m1 0 _ _ hX rfl rfl;have hXb:=(hX1.bN 140 #[.int .i64 e.mode,.int .i64 0,.slice A e.size c9]).drew;have hEb:=m1 1 _ _ hXb rfl rfl;obtain⟨w5,hup,hX5⟩:=hXb.gm_put 4 rfl keyed_int' Tryz.underlying133 (by simp[filesL,hFs.len];unfold maxLen;omega) (v:=.pointer (some ⟨wr.heap.size+1,0,none⟩)) (keyOf_id i (by omega));simp only[World.size_alloc]at hup hX5 hEb;have hX5':=Lh hX5;have hFs':=Lh hFs;have he':=Lh he;have hu':=Lh hu;clear hXb hX5 hX hX1 hS hFs he hu hcell m1;go_wp2_with fail;refine wp_region_E (S:=fun w'=>w'.cell? ⟨W,1,none⟩=some (.map (some bf))∧w'.cell? ⟨wr.heap.size,0,none⟩=some (.int .i64 e.mode)∧w'.cell? ⟨wr.heap.size,1,none⟩=some (.slice A e.size c9)) 11 (by kernel_rfl) ?_;simp only[List.size_toArray,List.length_cons,List.length_nil,Nat.reduceAdd];refine wpE_tk (i:=0) (v:=?_) hE rfl ?_ ?_;rotate_left
  ·rintro w ⟨e1,e2,e3⟩;go_simp;try with_reducible rfl
  simp only[Act.put,gD];refine wpE_tk (i:=1) (v:=?_) hE rfl ?_ ?_;rotate_left
  ·rintro w ⟨e1,e2,e3⟩;go_simp;try with_reducible rfl
  simp only[Act.put,gD];refine wpE_tk (i:=2) (v:=?_) hE rfl ?_ ?_;rotate_left
  ·rintro w ⟨e1,e2,e3⟩;go_simp;try with_reducible rfl
  simp only[Act.put,gD];refine wpE_tk (i:=3) (v:=?_) hE rfl ?_ ?_;rotate_left
  ·rintro w ⟨e1,e2,e3⟩;go_simp;try with_reducible rfl
  simp only[Act.put,gD];refine wpE_tk (i:=4) (v:=?_) hE rfl ?_ ?_;rotate_left
  ·rintro w ⟨e1,e2,e3⟩;go_simp;try with_reducible rfl
  simp only[Act.put,gD];refine wpE_tk (i:=5) (v:=?_) hE rfl ?_ ?_;rotate_left
  ·rintro w ⟨e1,e2,e3⟩;go_simp;try with_reducible rfl
  simp only[Act.put,gD];refine wpE_tk (i:=6) (v:=?_) hE rfl ?_ ?_;rotate_left
  ·rintro w ⟨e1,e2,e3⟩;go_simp;try with_reducible rfl
  simp only[Act.put,gD];refine wpE_tk (i:=7) (v:=?_) hE rfl ?_ ?_;rotate_left
  ·rintro w ⟨e1,e2,e3⟩;go_simp;try with_reducible rfl
  simp only[Act.put,gD];refine wpE_tk (i:=8) (v:=?_) hE rfl ?_ ?_;rotate_left
  ·rintro w ⟨e1,e2,e3⟩;go_simp;try with_reducible rfl
  simp only[Act.put,gD];refine wpE_tk (i:=9) (v:=?_) hE rfl ?_ ?_;rotate_left
  ·rintro w ⟨e1,e2,e3⟩;go_simp;try with_reducible rfl
  simp only[Act.put,gD];refine wpE_one (i:=10) (by kernel_rfl) rfl (fun K hK=>?_);go_simp;refine hK _ _ (fun _=>hEb) ?_;clear hK K;(try simp only[Act.put,gD]);refine wpE_one (i:=11) (by kernel_rfl) rfl (fun K hK=>?_);go_simp;refine hK _ _ (fun h=>absurd rfl h) ?_;clear hK K;(try simp only[Act.put,gD]);refine wpE_done (by kernel_rfl) ?_ _;go_wp2_with fail;go_roundw
  case rel=>
   have hlen:=hFs'.out.len;have hfin:∃(i':Nat) (Fs':List FEnt),i'≤fs.length∧Value.int .i64 ((i:Int)+1)= .int .i64 i'∧FsG fs vs [] i' Fs'∧Sep w w5 (gAs W bn bf bk fs.length [] Fs' [] [.box w.heap.size 25 #[.slice A1 ns.length c1,.slice (some ⟨g,o,none⟩) fs.length c2]]):=by
    refine⟨i+1,Fs++[⟨i,wr.heap.size+1,e.mode,0,.slice A e.size c9⟩],by omega,by go_num,⟨by rw[List.length_append,hlen];rfl,fun k f hk=>?_⟩,gAs_file (f:=⟨i,wr.heap.size+1,e.mode,0,.slice A e.size c9⟩) ?_ hX5'.out⟩
    ·by_cases hki:k<i
     ·rw[List.getElem?_append_left (by omega)]at hk;exact hFs'.out.at_ k f hk
     (have:k=i:=by have:=(gF.1 hk).1;rw[List.length_append,hlen]at this;simp at this;omega);subst this;rw[List.getElem?_append_right (by omega),hlen,Nat.sub_self]at hk;simp at hk;subst hk;exact⟨e,_,he'.out,hu'.out,rfl,rfl,rfl,rfl⟩
    intro f hf;obtain⟨k,hk⟩:=List.mem_iff_getElem?.1 hf;obtain⟨_,_,_,_,h5,_⟩:=hFs'.out.at_ k f hk;have:=(gF.1 hk).1;(show f.id≠i);omega
   first
    |exact hfin
    |(repeat apply Exists.intro;exact⟨hfin,rfl⟩)
  case measure=>simp[intOf];omega
 obtain rfl:i=fs.length:=by omega
 have t0:=hS.bC (fs.length+4) (gAs_last hFs.len) 0;simp only[gA,gB]at t0;have hS':=Lh hS;have hFs':=Lh hFs;clear hS hFs;go_wp2_with fail;go_loopw[46] (fun iv wr=>∃(i:Nat) (Fs:List FEnt) (Lk:List (Lit×Value)),i≤ns.length∧iv= .int .i64 i∧Hid (FsG fs vs (ns.take i) fs.length Fs)∧Hid (KidsOk Lk (ns.take i))∧Lk.length≤i∧Sep w wr (gAs W bn bf bk fs.length (ns.take i) Fs Lk [.box w.heap.size 25 #[.slice A1 ns.length c1,.slice A2 fs.length c2]])) (fun iv _=>ns.length-(intOf iv).toNat)
 case atStart=>exact⟨0,Fs,[],Nat.zero_le _,rfl,hFs'.out,(fun p=>rfl),Nat.zero_le _,hS'.out⟩
 clear hFs' hS' t0;obtain⟨i,Fs,Lk,hi,rfl,hFs,hKd,hLl,hS⟩:=hrel;have q1:(0:Int)≤(i:Int):=by omega
 by_cases hlt:i<ns.length
 ·(have q2:(i:Int)<(ns.length:Int):=by omega);obtain⟨g,o,c,e,hc,hcm,hg,hcell⟩:=h'.out.nodes.place (by omega) (by decide);simp only[Value.slice.injEq]at e;obtain⟨rfl,_,rfl⟩:=e;obtain⟨n,he⟩:∃n,ns[i]? =some n:=⟨_,gE hlt⟩;have x0:=(hcell wr hS.below (i*3) (by omega)).trans (tnCells_at he 0 (by omega));have x1:=(hcell wr hS.below (i*3+1) (by omega)).trans (tnCells_at he 1 (by omega));have x2:=(hcell wr hS.below (i*3+2) (by omega)).trans (tnCells_at he 2 (by omega));simp only[tnC,strV,gB,gC,←Nat.add_assoc]at x0 x1 x2;have hlen:=hsm.out.short n (gG he);obtain⟨_,hn1,hn2,_,_⟩:=ho'.out.mem (gG he);(have hcK:cntK (ns.take i) (parentL n.path)≤10000:=by have:=List.countP_le_length (p:=fun m:TN=>decide (parentL m.path=parentL n.path)) (l:=ns.take i);rw[List.length_take]at this;unfold cntK;omega);(have hNl:(ns.take i).length≤10000:=by rw[List.length_take];omega);have hput9:=putG_take ho'.out.ne he;(have htk:Hid (ns.take (i+1)=ns.take i++[n]):=by show _=_;rw[List.take_add_one,he];rfl);(have hKd2:Hid (KidsOk (putM Lk (.string (parentL n.path)) (.int .i64 ((cntK (ns.take i) (parentL n.path):Nat)+1:Int))) (ns.take (i+1))):=by(show KidsOk _ _);rw[htk.out];exact kids_snoc hKd.out n);have hLl2:=putM_le Lk (.string (parentL n.path)) (.int .i64 ((cntK (ns.take i) (parentL n.path):Nat)+1:Int));by_cases hd:n.file= -1
  ·have hA:=hS.alloc (.cells #[strV n.path,.int .i64 (-1),.int .i64 n.mode] 51);have hput:=gputd_any hA (p:=n.path) (by omega) n.mode (hKd.out (parentL n.path)) hcK hNl (by omega);(have en:(⟨n.path, -1,n.mode⟩:TN)=n:=by rw[←hd]);rw[en,hput9]at hput;(have hFs3:Hid (FsG fs vs (ns.take (i+1)) fs.length Fs):=by(show FsG _ _ _ _ _);rw[htk.out];exact hFs.out.dir (by omega));have hput':=Lh hput;rw[hd]at x1;unfold strV at*;clear hput hFs hKd hA hS hcell hput9 he hd en htk hn1 hn2 hcK hNl;go_wp2_with(go_at_call 85;refine hput'.out.mono ?_;rintro e3 w3 ⟨rfl,hS3⟩;replace hS3:=Lh hS3);go_roundw
   case rel=>
    have hfin:∃(i':Nat) (Fs':List FEnt) (Lk':List (Lit×Value)),i'≤ns.length∧Value.int .i64 ((i:Int)+1)= .int .i64 i'∧Hid (FsG fs vs (ns.take i') fs.length Fs')∧Hid (KidsOk Lk' (ns.take i'))∧Lk'.length≤i'∧Sep w w3 (gAs W bn bf bk fs.length (ns.take i') Fs' Lk' [.box w.heap.size 25 #[.slice (some ⟨g,o,none⟩) ns.length c1,.slice A2 fs.length c2]]):=
     ⟨i+1,_,_,by omega,by go_num,hFs3,hKd2,by omega,hS3.out⟩
    first
     |exact hfin
     |(repeat apply Exists.intro;exact⟨hfin,rfl⟩)
   case measure=>simp[intOf];omega
  obtain⟨j,hj⟩:∃j:Nat,n.file=(j:Int):=⟨n.file.toNat,by omega⟩;(have hjl:j<fs.length:=by omega);obtain⟨f,hf⟩:∃f,Fs[j]? =some f:=⟨_,gE (by rw[hFs.out.len];exact hjl)⟩;obtain⟨e2,u2,he2,hu2,f1,f2,f3,f4⟩:=hFs.out.at_ j f hf;(have hjd:(Fs.set j {f with names:=f.names+1})=Fs.set j {f with id:=j,names:=f.names+1}:=by rw[←f1]);(have hcF:cntF (ns.take i) j≤10000:=by have:=List.countP_le_length (p:=fun m:TN=>decide (m.file=(j:Int))) (l:=ns.take i);rw[List.length_take]at this;unfold cntF;omega);have hA:=hS.alloc (.cells #[strV n.path,.int .i64 j,.int .i64 n.mode] 51);have hput:=gputf_any hA (p:=n.path) (by omega) n.mode hf (by omega) (by omega) (hKd.out (parentL n.path)) hcK hNl (by omega);(have en:(⟨n.path,(f.id:Int),n.mode⟩:TN)=n:=by rw[f1,←hj]);rw[en,hput9,hjd,f1]at hput;(have hFs3:Hid (FsG fs vs (ns.take (i+1)) fs.length (Fs.set j {f with id:=j,names:=f.names+1})):=by(show FsG _ _ _ _ _);rw[htk.out,←hjd];exact hFs.out.file hj hf);have hput':=Lh hput;rw[hj]at x1;unfold strV at*;clear hput hFs hKd hA hS hcell hput9 he hd en htk hn1 hn2 hcK hNl hj hjl hf he2 hu2 f1 f2 f3 f4 hcF hjd;go_wp2_with(go_at_call 85;refine hput'.out.mono ?_;rintro e3 w3 ⟨rfl,hS3⟩;replace hS3:=Lh hS3);go_roundw
  case rel=>
   have hfin:∃(i':Nat) (Fs':List FEnt) (Lk':List (Lit×Value)),i'≤ns.length∧Value.int .i64 ((i:Int)+1)= .int .i64 i'∧Hid (FsG fs vs (ns.take i') fs.length Fs')∧Hid (KidsOk Lk' (ns.take i'))∧Lk'.length≤i'∧Sep w w3 (gAs W bn bf bk fs.length (ns.take i') Fs' Lk' [.box w.heap.size 25 #[.slice (some ⟨g,o,none⟩) ns.length c1,.slice A2 fs.length c2]]):=
    ⟨i+1,_,_,by omega,by go_num,hFs3,hKd2,by omega,hS3.out⟩
   first
    |exact hfin
    |(repeat apply Exists.intro;exact⟨hfin,rfl⟩)
  case measure=>simp[intOf];omega
 obtain rfl:i=ns.length:=by omega
 rw[List.take_length]at hFs hKd hS;have hS':=Lh hS;clear hS;go_wp2_with fail
 go_ret2
 exact⟨W,bn,bf,bk,Fs,rfl,hFs.out,Lk,hKd.out,hLl,Sep.fst (X:=gAs W bn bf bk fs.length ns Fs Lk []) (Y:=[.box w.heap.size 25 #[.slice A1 ns.length c1,.slice A2 fs.length c2]]) (by unfold gAs;rw[List.append_nil];exact hS'.out)⟩
end Go.Proofs.YtimkjnbihlgbiaaGreat
