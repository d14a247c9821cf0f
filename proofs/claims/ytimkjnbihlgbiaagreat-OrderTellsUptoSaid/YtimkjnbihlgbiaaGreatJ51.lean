/- LawD, LawE, Much, Lent, Stay0, OrderPlainP, laid together. -/
import Derived.Test.YtimkjnbihlgbiaaGreatJ50
namespace Go.Proofs.YtimkjnbihlgbiaaGreat
open Go.RowKit
set_option linter.unusedVariables false
set_option linter.unusedSimpArgs false
set_option maxRecDepth 100000 in
set_option maxHeartbeats 4000000 in
theorem exact_any {w:World} {nv fv nv' fv':Value} {ns:List TN} {fs:List TF} {vs vs':List Value} {bss:List (List UInt8)} (h1:TreeC w nv fv ns fs vs bss) (h2:TreeC w nv' fv' ns fs vs' bss) (hm:TreeSm ns fs):
  Calls Tryz.prog 30 #[.agg #[nv,fv],.agg #[nv',fv']] w fun e w'=>e= .returned (.bool true)∧Below w.heap.size w w':=by
 have hS0:=((Sep.nil w).bN 25 #[nv,fv]).bN 25 #[nv',fv'];simp only[World.size_alloc]at hS0;obtain⟨A1,ca1,rfl,_⟩:=h1.tree.nodes.shape;obtain⟨A2,ca2,rfl,_⟩:=h1.tree.files.shape;obtain⟨B1,cb1,rfl,_⟩:=h2.tree.nodes.shape;obtain⟨B2,cb2,rfl,_⟩:=h2.tree.files.shape;have b1:(ns.length:Int)≤300:=by have:=hm.few;omega
 have b2:(fs.length:Int)≤300:=by have:=hm.few2;omega
 have e1:((ns.length:Int) !=(ns.length:Int))=false:=by simp
 have e2:((fs.length:Int) !=(fs.length:Int))=false:=by simp
 have hcl:∀W,Below ((w.alloc (.cells #[.slice A1 ns.length ca1,.slice A2 fs.length ca2] 25)).alloc (.cells #[.slice B1 ns.length cb1,.slice B2 fs.length cb2] 25)).heap.size ((w.alloc (.cells #[.slice A1 ns.length ca1,.slice A2 fs.length ca2] 25)).alloc (.cells #[.slice B1 ns.length cb1,.slice B2 fs.length cb2] 25)) W→(W.cell? ⟨w.heap.size,0,none⟩=some (.slice A1 ns.length ca1)∧W.cell? ⟨w.heap.size,1,none⟩=some (.slice A2 fs.length ca2)∧W.cell? ⟨w.heap.size+1,0,none⟩=some (.slice B1 ns.length cb1)∧W.cell? ⟨w.heap.size+1,1,none⟩=some (.slice B2 fs.length cb2))∧Below w.heap.size w W:=fun W hW=>by have h:=hS0.pure hW;exact⟨⟨h.bC 1 rfl 0,h.bC 1 rfl 1,h.bC 0 rfl 0,h.bC 0 rfl 1⟩,h.below⟩
 have hcl':=Lh hcl;obtain⟨⟨z0,z1,z2,z3⟩,_⟩:=hcl _ (Below.refl _ _);have h1':=Lh h1;have h2':=Lh h2;have hm':=Lh hm;clear hS0 hcl h1 h2 hm;go_enter Tryz.func30,Tryz.ntmps30;go_wp2_with fail;generalize hW0:(w.alloc (.cells #[.slice A1 ns.length ca1,.slice A2 fs.length ca2] 25)).alloc (.cells #[.slice B1 ns.length cb1,.slice B2 fs.length cb2] 25)=w0 at hcl' ⊢;clear hW0 z0 z1 z2 z3;go_loopw[5] (fun iv wr=>∃i:Nat,i≤ns.length∧iv= .int .i64 i∧Below w0.heap.size w0 wr) (fun iv _=>ns.length-(intOf iv).toNat)
 case atStart=>exact⟨0,Nat.zero_le _,rfl,Below.refl _ _⟩
 obtain⟨i,hi,rfl,hb⟩:=hrel;have q0:(0:Int)≤(i:Int):=by omega
 obtain⟨⟨z0,z1,z2,z3⟩,hbw⟩:=hcl'.out wr hb;have hbq:∀n,Below w0.heap.size w0 (wr.drewN n):=fun n=>hb.trans ((((Sep.nil wr).drewN n).below).mono hb.size)
 by_cases hlt:i<ns.length
 ·(have q1:(i:Int)<(ns.length:Int):=by omega);(have hcq:=fun n=>(hcl'.out _ (hbq n)).1);(have hcq0:=fun n=>(hcq n).1);(have hcq2:=fun n=>(hcq n).2.2.1);obtain⟨ga,oa,cca,ea,_,_,_,hca⟩:=h1'.out.tree.nodes.place (by omega) (by decide);cases ea;obtain⟨gb,ob,ccb,eb,_,_,_,hcb⟩:=h2'.out.tree.nodes.place (by omega) (by decide);cases eb;obtain⟨n,hn⟩:∃n,ns[i]? =some n:=⟨_,gE hlt⟩;(have ca:∀W,Below w.heap.size w W→W.cell? ⟨ga,oa+i*3,none⟩=some (strV n.path)∧W.cell? ⟨ga,oa+i*3+1,none⟩=some (.int .i64 n.file)∧W.cell? ⟨ga,oa+i*3+2,none⟩=some (.int .i64 n.mode):=fun W hW=>by have x0:=(hca W hW (i*3+0) (by omega)).trans (tnCells_at hn 0 (by omega));have x1:=(hca W hW (i*3+1) (by omega)).trans (tnCells_at hn 1 (by omega));have x2:=(hca W hW (i*3+2) (by omega)).trans (tnCells_at hn 2 (by omega));simp only[tnC,gB,gC,←Nat.add_assoc,Nat.add_zero]at x0 x1 x2;exact⟨x0,x1,x2⟩);(have cb:∀W,Below w.heap.size w W→W.cell? ⟨gb,ob+i*3,none⟩=some (strV n.path)∧W.cell? ⟨gb,ob+i*3+1,none⟩=some (.int .i64 n.file)∧W.cell? ⟨gb,ob+i*3+2,none⟩=some (.int .i64 n.mode):=fun W hW=>by have x0:=(hcb W hW (i*3+0) (by omega)).trans (tnCells_at hn 0 (by omega));have x1:=(hcb W hW (i*3+1) (by omega)).trans (tnCells_at hn 1 (by omega));have x2:=(hcb W hW (i*3+2) (by omega)).trans (tnCells_at hn 2 (by omega));simp only[tnC,gB,gC,←Nat.add_assoc,Nat.add_zero]at x0 x1 x2;exact⟨x0,x1,x2⟩);(have hbwq:=fun n=>(hcl'.out _ (hbq n)).2);obtain⟨p0,p1,p2⟩:=ca wr hbw;obtain⟨r0,r1,r2⟩:=cb wr hbw;(have P0:=fun n=>(ca _ (hbwq n)).1);(have P1:=fun n=>(ca _ (hbwq n)).2.1);(have P2:=fun n=>(ca _ (hbwq n)).2.2);(have R0:=fun n=>(cb _ (hbwq n)).1);(have R1:=fun n=>(cb _ (hbwq n)).2.1);(have R2:=fun n=>(cb _ (hbwq n)).2.2);have hbq':=Lh hbq;unfold strV at*;clear hca hcb hn ca cb hbwq hcq hb hbq hbw;go_wp2_with fail;go_quiet (fail);go_wp2_with fail;go_roundw
  case rel=>exact⟨i+1,by omega,by go_num,hbq'.out _⟩
  case measure=>simp[intOf];omega
 have hie:i=ns.length:=by omega
 subst hie;have hb':=Lh hb;clear hb hbq hbw;go_wp2_with fail;clear z0 z1 z2 z3;go_loopw[6] (fun iv wr=>∃j:Nat,j≤fs.length∧iv= .int .i64 j∧Below w0.heap.size w0 wr) (fun iv _=>fs.length-(intOf iv).toNat)
 case atStart=>exact⟨0,Nat.zero_le _,rfl,hb'.out⟩
 clear hb';obtain⟨j,hj,rfl,hb⟩:=hrel;have s0:(0:Int)≤(j:Int):=by omega
 obtain⟨⟨z0,z1,z2,z3⟩,hbw⟩:=hcl'.out wr hb;have hbq:∀n,Below w0.heap.size w0 (wr.drewN n):=fun n=>hb.trans ((((Sep.nil wr).drewN n).below).mono hb.size)
 by_cases hlt:j<fs.length
 ·(have s1:(j:Int)<(fs.length:Int):=by omega);(have hcq:=fun n=>(hcl'.out _ (hbq n)).1);(have hcq1:=fun n=>(hcq n).2.1);(have hcq3:=fun n=>(hcq n).2.2.2);obtain⟨ga,oa,cca,ea,_,_,_,hca⟩:=h1'.out.tree.files.place (by omega) (by decide);cases ea;obtain⟨gb,ob,ccb,eb,_,_,_,hcb⟩:=h2'.out.tree.files.place (by omega) (by decide);cases eb;obtain⟨f,hf⟩:∃f,fs[j]? =some f:=⟨_,gE hlt⟩;obtain⟨u,hu⟩:∃u,vs[j]? =some u:=⟨_,gE (by rw[h1'.out.tree.len];exact hlt)⟩;obtain⟨u2,hu2⟩:∃u,vs'[j]? =some u:=⟨_,gE (by rw[h2'.out.tree.len];exact hlt)⟩;obtain⟨bs,hbs⟩:∃b,bss[j]? =some b:=⟨_,gE (by rw[h1'.out.len];exact hlt)⟩;have by1:=h1'.out.bytes j u bs hu hbs;have by2:=h2'.out.bytes j u2 bs hu2 hbs;obtain⟨Au,cu,rfl,_⟩:=BytesAt.shape by1;obtain⟨Bu,du,rfl,_⟩:=BytesAt.shape by2;(have ca:∀W,Below w.heap.size w W→W.cell? ⟨ga,oa+j*2,none⟩=some (.int .i64 f.mode)∧W.cell? ⟨ga,oa+j*2+1,none⟩=some (.slice Au bs.length cu):=fun W hW=>by have x0:=(hca W hW (j*2+0) (by omega)).trans (tfCells_at hf hu 0 (by omega));have x1:=(hca W hW (j*2+1) (by omega)).trans (tfCells_at hf hu 1 (by omega));simp only[tfC,gB,gC,←Nat.add_assoc,Nat.add_zero]at x0 x1;exact⟨x0,x1⟩);(have cb:∀W,Below w.heap.size w W→W.cell? ⟨gb,ob+j*2,none⟩=some (.int .i64 f.mode)∧W.cell? ⟨gb,ob+j*2+1,none⟩=some (.slice Bu bs.length du):=fun W hW=>by have x0:=(hcb W hW (j*2+0) (by omega)).trans (tfCells_at hf hu2 0 (by omega));have x1:=(hcb W hW (j*2+1) (by omega)).trans (tfCells_at hf hu2 1 (by omega));simp only[tfC,gB,gC,←Nat.add_assoc,Nat.add_zero]at x0 x1;exact⟨x0,x1⟩);(have hbwq:=fun n=>(hcl'.out _ (hbq n)).2);obtain⟨p0,p1⟩:=ca wr hbw;obtain⟨r0,r1⟩:=cb wr hbw;(have P0:=fun n=>(ca _ (hbwq n)).1);(have P1:=fun n=>(ca _ (hbwq n)).2);(have R0:=fun n=>(cb _ (hbwq n)).1);(have R1:=fun n=>(cb _ (hbwq n)).2);(have v1:=fun n=>conv_bytes (by1.below (hbwq n)));(have v2:=fun n=>conv_bytes (by2.below (hbwq n)));have v10:=conv_bytes (by1.below hbw);have v20:=conv_bytes (by2.below hbw);have hbq':=Lh hbq;(have em:(f.mode !=f.mode)=false:=by simp);generalize strB bs=S at*;generalize bs.length=n at*;clear hca hcb hf hu hu2 hbs by1 by2 ca cb hbwq hcq hb hbq hbw;go_wp2_with fail;go_quiet (fail);go_wp2_with fail;go_roundw
  case rel=>exact⟨j+1,by omega,by go_num,hbq'.out _⟩
  case measure=>simp[intOf];omega
 have hje:j=fs.length:=by omega
 subst hje;have hbw':=Lh hbw;clear hb hbq hbw;go_wp2_with fail;go_ret;exact⟨rfl,hbw'.out⟩
structure LentT (w:World) (gn cn gf cf:Nat) (ns:List TN) (fs:List TF) (us:List Value) (bss:List (List UInt8)):Prop where
 n1:ns.length+1≤cn
 n2:cn≤maxLen
 f1:fs.length+1≤cf
 f2:cf≤maxLen
 tree:TreeC w (.slice (some ⟨gn,0,none⟩) ns.length cn) (.slice (some ⟨gf,0,none⟩) fs.length cf) ns fs us bss
 lastN:w.cell? ⟨gn,ns.length*3+1,none⟩=some (.int .i64 (-71))
 lastF:w.cell? ⟨gf,fs.length*2,none⟩=some (.int .i64 (-72))
 row:∀(i:Nat) (b:List UInt8),bss[i]? =some b→∃gi ci,us[i]? =some (.slice (some ⟨gi,0,none⟩) b.length ci)∧b.length+1≤ci∧ci≤maxLen∧w.cell? ⟨gi,b.length,none⟩=some (.int .u8 167)
theorem LentT.below {w W:World} {gn cn gf cf:Nat} {ns:List TN} {fs:List TF} {us:List Value} {bss:List (List UInt8)} (h:LentT w gn cn gf cf ns fs us bss) (hW:Below w.heap.size w W):LentT W gn cn gf cf ns fs us bss:=
 ⟨h.n1,h.n2,h.f1,h.f2,h.tree.below hW,cell_below hW h.lastN,cell_below hW h.lastF,fun i b hb=>by obtain⟨gi,ci,x1,x2,x3,x4⟩:=h.row i b hb;exact⟨gi,ci,x1,x2,x3,cell_below hW x4⟩⟩
theorem lentT_of {w0 w w1:World} {nv fv:Value} {gn cn gf cf:Nat} {ns:List TN} {fs:List TF} {vs us:List Value} {bss:List (List UInt8)} (hC:TreeC w1 nv fv ns fs vs bss) (hul:us.length=fs.length) (n1:ns.length+1≤cn) (n2:cn≤maxLen)
  (h:Sep w0 w (.sl 54 2 (.slice (some ⟨gf,0,none⟩) (fs.length+1) cf) (fs.length+1) (tfCells fs us++[.int .i64 (-72),.slice none 0 0])::lentN gn cn ns::List.zipWith lentRow7 us bss)):LentT w gn cn gf cf ns fs us bss:=by
 obtain⟨g',cap',e',_,_,f1,f2⟩:=h.sl_form 0 rfl (by omega);cases e';have hbl:bss.length=fs.length:=hC.len;have hrow:∀(i:Nat) (b:List UInt8) (u:Value),bss[i]? =some b→us[i]? =some u→∃gi ci,u= .slice (some ⟨gi,0,none⟩) b.length ci∧b.length+1≤ci∧ci≤maxLen∧w.cell? ⟨gi,b.length,none⟩=some (.int .u8 167)∧BytesAt w u b:=fun i b u hb hu=>by have hz:(List.zipWith lentRow7 us bss)[i]? =some (lentRow7 u b):=zip_some (f:=lentRow7) hu hb;obtain⟨gi,ci,ei,_,_,h5,h6⟩:=h.sl_form (i+2) hz (Nat.succ_pos _);obtain⟨F,ho,_⟩:=h.get (i+2) hz;have hby:=lentRow7_at ho;refine⟨gi,ci,more_form ei,h5,h6,?_,hby⟩;unfold lentRow7 at hz;rw[ei]at hz;rw[h.cellAt (i+2) hz b.length (by omega)];simp
 have hu:∀(i:Nat) (b:List UInt8),bss[i]? =some b→∃u,us[i]? =some u:=fun i b hb=>⟨_,gE (by have:=(gF.1 hb).1;omega)⟩
 refine⟨n1,n2,f1,f2,⟨⟨hul,?_,?_,fun k u f hu2 hf=>?_⟩,hbl,fun k u b hu2 hb=>?_,hC.size⟩,?_,?_,fun i b hb=>?_⟩
 ·exact Rd.fst (m:=1) (h.rd 1 rfl) (tnCells_len ns)
 ·exact Rd.fst (m:=1) (h.rd 0 rfl) (tfCells_len hul)
 ·obtain⟨b,hb⟩:∃b,bss[k]? =some b:=⟨_,gE (by have:=(gF.1 hf).1;omega)⟩;obtain⟨_,_,_,_,_,_,h7⟩:=hrow k b u hb hu2;rw[hC.size k f b hf hb];exact h7.data
 ·obtain⟨_,_,_,_,_,_,h7⟩:=hrow k b u hb hu2;exact h7
 ·rw[h.cellAt 1 rfl (ns.length*3+1) (by omega),List.getElem?_append_right (by rw[tnCells_len];omega),tnCells_len,show ns.length*3+1-ns.length*3=1 by omega];rfl
 ·rw[h.cellAt 0 rfl (fs.length*2) (by omega),List.getElem?_append_right (by rw[tfCells_len hul];exact Nat.le_refl _),tfCells_len hul,Nat.sub_self];rfl
 obtain⟨u,hu2⟩:=hu i b hb;obtain⟨gi,ci,x1,x2,x3,x4,_⟩:=hrow i b u hb hu2;exact⟨gi,ci,by rw[hu2,x1],x2,x3,x4⟩
set_option maxRecDepth 100000 in
set_option maxHeartbeats 4000000 in
theorem stays6_any {w:World} {nv fv:Value} {gn cn gf cf:Nat} {ns:List TN} {fs:List TF} {vs us:List Value} {bss:List (List UInt8)} (hL:LentT w gn cn gf cf ns fs us bss) (h2:TreeC w nv fv ns fs vs bss) (hm:TreeSm ns fs):
  Calls Tryz.prog 12 #[.agg #[.slice (some ⟨gn,0,none⟩) ns.length cn,.slice (some ⟨gf,0,none⟩) fs.length cf],.agg #[nv,fv]] w fun e w'=>e= .returned (.bool true)∧Below w.heap.size w w':=by
 have hS0:=((Sep.nil w).bN 25 #[.slice (some ⟨gn,0,none⟩) ns.length cn,.slice (some ⟨gf,0,none⟩) fs.length cf]).bN 25 #[nv,fv];simp only[World.size_alloc]at hS0;have hex:=exact_any (hL.tree.below hS0.below) (h2.below hS0.below) hm;obtain⟨B1,cb1,rfl,_⟩:=h2.tree.nodes.shape;obtain⟨B2,cb2,rfl,_⟩:=h2.tree.files.shape;have b1:(ns.length:Int)≤300:=by have:=hm.few;omega
 have b2:(fs.length:Int)≤300:=by have:=hm.few2;omega
 have n1:=hL.n1;have n2:=hL.n2;have f1:=hL.f1;have f2:=hL.f2;unfold maxLen at n2 f2;have b3:(ns.length:Int)+1≤(cn:Int):=by omega
 have b4:(cn:Int)≤9223372036854775807:=by omega
 have b5:(fs.length:Int)+1≤(cf:Int):=by omega
 have b6:(cf:Int)≤9223372036854775807:=by omega
 have hcl:∀W,Below ((w.alloc (.cells #[.slice (some ⟨gn,0,none⟩) ns.length cn,.slice (some ⟨gf,0,none⟩) fs.length cf] 25)).alloc (.cells #[.slice B1 ns.length cb1,.slice B2 fs.length cb2] 25)).heap.size ((w.alloc (.cells #[.slice (some ⟨gn,0,none⟩) ns.length cn,.slice (some ⟨gf,0,none⟩) fs.length cf] 25)).alloc (.cells #[.slice B1 ns.length cb1,.slice B2 fs.length cb2] 25)) W→(W.cell? ⟨w.heap.size,0,none⟩=some (.slice (some ⟨gn,0,none⟩) ns.length cn)∧W.cell? ⟨w.heap.size,1,none⟩=some (.slice (some ⟨gf,0,none⟩) fs.length cf)∧W.cell? ⟨w.heap.size+1,0,none⟩=some (.slice B1 ns.length cb1)∧W.cell? ⟨w.heap.size+1,1,none⟩=some (.slice B2 fs.length cb2))∧Below w.heap.size w W:=fun W hW=>by have h:=hS0.pure hW;exact⟨⟨h.bC 1 rfl 0,h.bC 1 rfl 1,h.bC 0 rfl 0,h.bC 0 rfl 1⟩,h.below⟩
 have hcl':=Lh hcl;obtain⟨⟨z0,z1,z2,z3⟩,_⟩:=hcl _ (Below.refl _ _);have hex':=Lh hex;have hL':=Lh hL;have h2':=Lh h2;have hm':=Lh hm;clear hS0 hcl hex hL h2 hm n1 n2 f1 f2;go_enter Tryz.func12,Tryz.ntmps12;go_wp2_with(go_at_call 30;refine hex'.out.mono ?_;rintro e w1 ⟨rfl,hb1⟩;clear z0 z1 z2 z3;obtain⟨⟨z0,z1,z2,z3⟩,hbw⟩:=hcl'.out w1 hb1;(have l1:=(hL'.out.below hbw).lastN);(have l2:=(hL'.out.below hbw).lastF);replace hb1:=Lh hb1;clear hbw);clear l1 l2 z0 z1 z2 z3;generalize hW0:(w.alloc (.cells #[.slice (some ⟨gn,0,none⟩) ns.length cn,.slice (some ⟨gf,0,none⟩) fs.length cf] 25)).alloc (.cells #[.slice B1 ns.length cb1,.slice B2 fs.length cb2] 25)=w0 at hcl' hb1 ⊢;clear hW0;go_loopw[8] (fun iv wr=>∃i:Nat,i≤fs.length∧iv= .int .i64 i∧Below w0.heap.size w0 wr) (fun iv _=>fs.length-(intOf iv).toNat)
 case atStart=>exact⟨0,Nat.zero_le _,rfl,hb1.out⟩
 clear hb1;obtain⟨i,hi,rfl,hb⟩:=hrel;have q0:(0:Int)≤(i:Int):=by omega
 obtain⟨⟨z0,z1,z2,z3⟩,hbw⟩:=hcl'.out wr hb;by_cases hlt:i<fs.length
 ·(have q1:(i:Int)<(fs.length:Int):=by omega);obtain⟨gb,ob,ccb,eb,_,_,_,hcb⟩:=h2'.out.tree.files.place (by omega) (by decide);cases eb;obtain⟨f,hf⟩:∃f,fs[i]? =some f:=⟨_,gE hlt⟩;obtain⟨u2,hu2⟩:∃u,vs[i]? =some u:=⟨_,gE (by rw[h2'.out.tree.len];exact hlt)⟩;obtain⟨bs,hbs⟩:∃b,bss[i]? =some b:=⟨_,gE (by rw[h2'.out.len];exact hlt)⟩;have by2:=h2'.out.bytes i u2 bs hu2 hbs;obtain⟨Bu,du,rfl,_⟩:=BytesAt.shape by2;obtain⟨gi,ci,hus,j1,j2,j3⟩:=(hL'.out.below hbw).row i bs hbs;obtain⟨ga,oa,cca,ea,_,_,_,hca⟩:=(hL'.out.below hbw).tree.tree.files.place (by omega) (by decide);cases ea;have x1:=(hca wr (Below.refl _ _) (i*2+1) (by omega)).trans (tfCells_at hf hus 1 (by omega));have x2:=(hcb wr hbw (i*2+1) (by omega)).trans (tfCells_at hf hu2 1 (by omega));simp only[tfC,gB,gC,←Nat.add_assoc,Nat.add_zero,Nat.zero_add]at x1 x2;have hsz:=hm'.out.size f (gG hf);rw[h2'.out.size i f bs hf hbs]at hsz;generalize bs.length=n at*;unfold maxLen at j2;(have c3:(n:Int)+1≤(ci:Int):=by omega);(have c4:(n:Int)≤1048576:=by omega);(have c5:(ci:Int)≤9223372036854775807:=by omega);have hb':=Lh hb;clear hca hcb hf hus hu2 hbs by2 hsz hb hbw;go_wp2_with fail;go_roundw
  case rel=>exact⟨i+1,by omega,by go_num,hb'.out⟩
  case measure=>simp[intOf];omega
 have hie:i=fs.length:=by omega
 subst hie;have hbw':=Lh hbw;clear hb hbw;go_wp2_with fail;go_ret;exact⟨rfl,hbw'.out⟩
end Go.Proofs.YtimkjnbihlgbiaaGreat
namespace Go.Proofs.YtimkjnbihlgbiaaGreat
open Go.RowKit
set_option linter.unusedVariables false
def muchN :Int→List (List Int)→Int
 |n,[]=>n
 |n,r::l=>if n≤3000 then muchN (wrap64 (wrap64 (n+1)+(r.length:Int))) l else n
def muchB (xss:List (List Int)):Bool:=decide (3000<muchN 0 xss)||decide (80<xss.length)
theorem much_any {xss:List (List Int)} {w:World} {nv:Value} (hn:RowsAt w nv xss):
  Calls Tryz.prog 6 #[nv] w fun e w'=>e= .returned (.bool (muchB xss))∧w=w':=by
 obtain⟨A,c,rfl,hm⟩:=hn.shape;unfold maxLen at hm;have hm':(xss.length:Int)≤9223372036854775807:=by omega
 go_enter Tryz.func6,Tryz.ntmps6;go_wp2_with fail;go_loop[3,4] (fun n i=>∃(x:Int) (k:Nat),k≤xss.length∧n= .int .i64 x∧i= .int .i64 k∧Hid (muchN 0 xss=muchN x (xss.drop k))) (fun _ i=>xss.length-(intOf i).toNat)
 case atStart=>exact⟨0,0,Nat.zero_le _,rfl,rfl,rfl⟩
 obtain⟨x,k,hk,rfl,rfl,hd⟩:=hrel;by_cases hlt:k<xss.length
 ·obtain⟨ad,c',u,e,h3,h4⟩:=hn.at_ hlt;cases e;obtain⟨A',c'',rfl,hm2⟩:=h4.shape;unfold maxLen at hm2;(have b1:(k:Int)<(xss.length:Int):=by omega);(have b2:(0:Int)≤(k:Int):=by omega);have hd2:=hd.out;rw[List.drop_eq_getElem_cons hlt,muchN]at hd2;by_cases h3:x≤3000
  ·rw[if_pos h3]at hd2;have hd':=Lh hd2;clear hd hd2;go_wp2_with fail;all_goals exact⟨⟨_,k+1,by omega,rfl,by go_num,hd'⟩,by simp[intOf];omega⟩
  rw[if_neg h3]at hd2;(have e:Value.bool true= .bool (muchB xss):=by unfold muchB;rw[hd2];simp;omega);have e':=Lh e;clear hd hd2 e;(have h3':3000<x:=by omega);go_wp2_with fail;go_ret;exact⟨by rw[←e'.out];rfl,rfl⟩
 obtain rfl:k=xss.length:=by omega
 have hd2:=hd.out;rw[List.drop_length,muchN]at hd2;by_cases h3:x≤3000
 ·(have e:Value.bool (decide (3000<x)||decide (80<(xss.length:Int)))= .bool (muchB xss):=by unfold muchB;rw[hd2];have e1:decide (80<(xss.length:Int))=decide (80<xss.length):=decide_eq_decide.2 (by omega);rw[e1]);have e':=Lh e;clear hd hd2 e;go_wp2_with fail;go_ret;rw[←e'.out];exact⟨rfl,rfl⟩
 have e:Value.bool true= .bool (muchB xss):=by unfold muchB;rw[hd2];simp;omega
 have e':=Lh e;clear hd hd2 e;have h3':3000<x:=by omega
 go_wp2_with fail;go_ret;exact⟨by rw[←e'.out];rfl,rfl⟩
def lentRow (v:Value) (xs:List Int):Asn:=.sl 3 1 (more v) (xs.length+1) (xs.map (.int .i64)++[.int .i64 (-71)])
theorem lentRow_at {w:World} {F:List Nat} {v:Value} {xs:List Int} (h:(lentRow v xs).on w F):IntsAt w v xs:=by have h1:=sl_rd h;obtain⟨_,A,c,e,_⟩:=id h1;rw[e]at h1;rw[more_form e];exact Rd.fst h1 (by simp)
def lentAll (v:Value) (vs:List Value) (last:Value) (xss:List (List Int)):List Asn:=
 .sl 36 1 (more v) (xss.length+1) (vs++[last]):: .sl 3 1 last 1 [.int .i64 (-72)]::List.zipWith lentRow vs xss
theorem lent_rows {w0 w:World} {v last:Value} {vs:List Value} {xss:List (List Int)} {R:List Asn} (hl:vs.length=xss.length) (h:Sep w0 w (lentAll v vs last xss++R)):RowsAt w v xss:=by
 have h0:=h.rd 0 rfl;obtain⟨_,A,c,e,_⟩:=id h0;rw[e]at h0;rw[more_form e];refine⟨vs,Rd.fst h0 (by simp[hl]),fun k u xs hu hx=>?_⟩;have hk:(lentAll v vs last xss++R)[k+2]? =some (lentRow u xs):=by have hz:=zip_some (f:=lentRow) hu hx;(show(List.zipWith lentRow vs xss++R)[k]? =_);rw[List.getElem?_append_left (by rcases gF.1 hz with⟨h,_⟩;exact h)];exact hz
 obtain⟨F,ho,_⟩:=h.get (k+2) hk;exact lentRow_at ho
attribute [local go_sem ↓] Go.wp_at_zero Go.wp_at_succ
set_option maxHeartbeats 2000000 in
theorem lent_any {xss:List (List Int)} {w:World} {nv:Value} (hl:xss.length≤1024) (hr:∀j (hj:j<xss.length),xss[j].length≤1048576) (hn:RowsAt w nv xss):
  Calls Tryz.prog 9 #[nv] w fun e w'=>∃v vs last,e= .returned v∧vs.length=xss.length∧Sep w w' (lentAll v vs last xss):=by
 obtain⟨i0,hi,hz0,hz1,hz2⟩:=info_parts info_int;obtain⟨i1,hi1,hz10,hz11,hz12⟩:=info_parts info_ints;obtain⟨A,c,rfl,_⟩:=hn.shape;have hn':=Lh hn;have hr':=Lh hr;clear hn hr;have bn:(xss.length:Int)≤1024:=by omega
 go_enter Tryz.func9,Tryz.ntmps9;go_wp2_with fail;go_loopg[3,4] xss.length (fun g ov ii wr=>∃i:Nat,i≤xss.length∧Hid (g=xss.length-i)∧ii= .int .i64 i∧∃vs:List Value,vs.length=i∧Sep w wr (.sl 36 1 ov i vs::List.zipWith lentRow vs (xss.take i)))
 case atStart=>exact⟨0,Nat.zero_le _,rfl,rfl,[],rfl,by simpa using(Sep.nil w).sl_nil _ _⟩
 obtain⟨i,hi',hm,rfl,vs,hvl,hS⟩:=hrel;by_cases hlt:i<xss.length
 case neg=>(obtain rfl:i=xss.length:=by omega);rw[List.take_length]at hS;have hvl':vs.length=xss.length:=hvl;have hS1:=((hS.lit 3 #[.int .i64 (-72)] (by simp[maxLen])).alloc (.cells #[.slice (some ⟨wr.heap.size,0,none⟩) 1 1] 36));have hS1':=Lh hS1;clear hS hS1;go_wp2_with(at_builtin;refine wpList_append_sep 1 rfl _ _ 27 rfl 36 i1 (.slice none 0 0) 1 24 Tryz.underlying27 hi1 hz10 hz11 hz12 rfl (by decide) hS1'.out u3 xss.length vs rfl rfl ⟨wr.heap.size+1,0,none⟩ 1 1 [.slice (some ⟨wr.heap.size,0,none⟩) 1 1] rfl rfl (cells_new _ _ _ _ (by simp)) (by simp[Value.oneCell']) (by decide) (by unfold maxLen;omega) (by omega) ?_);intro g cap w2 hS2 hsz;obtain⟨g',cap',e,_,_,hcap,hcm⟩:=hS2.sl_form 1 rfl (by omega);cases e;unfold maxLen at hcm;have hS3:Sep w w2 (lentAll (.slice (some ⟨g,0,none⟩) xss.length cap) vs (.slice (some ⟨wr.heap.size,0,none⟩) 1 1) xss):=hS2.perm (List.Perm.swap _ _ _);have hS3':=Lh hS3;clear hS2 hS3 hS1' hsz;go_wp2_with fail;go_ret;exact⟨_,vs,_,rfl,hvl',hS3'.out⟩
 obtain⟨ad,c',un,e,hun,hcn⟩:=hn'.out.all hlt;cases e;have hrl:=hr'.out i hlt;obtain⟨Au,cu,rfl,hum⟩:=hun.shape;have hcn':=Lh hcn;have a0:=hcn wr hS.below;have b1:(0:Int)≤(i:Int):=by omega
 have b2:(i:Int)<(xss.length:Int):=by omega
 obtain⟨xs,hxs⟩:∃xs,xs=xss[i]:=⟨_,rfl⟩;have hxs':=Lh hxs;rw[←hxs]at hun hrl a0 hcn hum;have bx0:(0:Int)≤(xs.length:Int):=by omega
 have bx1:(xs.length:Int)≤1048576:=by omega
 have hun':=Lh hun;have hS':=Lh hS;clear hxs hun hS hcn';have hcn':=Lh hcn;clear hcn;go_wp2_with fail
 go_region_held3 (fun w'=>w'.cell? (ad.add i)=some (.slice Au xs.length cu))
  (first |(exact hcn'.out _ (hSd.out).below)|(exact hcn'.out _ (hSc.out.alloc _).below)|(exact hcn'.out _ hSc.out.below)|(exact hcn'.out _ (hSa.out.alloc _).below)|(exact hcn'.out _ hSa.out.below)|go_keep)
  (first |((refine step_append_any_sep 0 (by rfl) _ _ 36 (by rfl) 3 i0 (.int .i64 0) 1 8 Tryz.underlying36 hi hz0 hz1 hz2 rfl (by decide) (hS'.out.drew.sl_nil 3 1) (.slice none 0 0) 0 [] (by rfl) (by rfl) (.slice Au xs.length cu) xs.length (xs.map (.int .i64)) (by rfl) (hun'.out.below hS'.out.drew.below) (by simp[Value.oneCell']) (by unfold maxLen;omega) (by omega) ?_);intro va w1 hSa hza;simp only[List.set_cons_zero,Nat.zero_add,List.nil_append]at hSa;replace hSa:=Lh hSa;clear hza)|((refine step_append_sep 0 (by rfl) _ _ 36 (by rfl) 3 i0 (.int .i64 0) 1 8 Tryz.underlying36 hi hz0 hz1 hz2 rfl (by decide) (hSa.out.alloc (.cells #[.int .i64 (-71)] 3)) va xs.length (xs.map (.int .i64)) (by rfl) (by rfl) ⟨w1.heap.size,0,none⟩ 1 1 [.int .i64 (-71)] (by rfl) (by rfl) (cell_one_new _ _ _) (by simp[Value.oneCell']) (by decide) (by unfold maxLen;omega) (by omega) ?_);intro g cap w2 hSc hzc;simp only[List.set_cons_zero]at hSc;replace hSc:=Lh hSc;clear hzc;obtain⟨g',cap',e,_,_,hcap,hcm⟩:=hSc.out.sl_form 0 rfl (by omega);cases e;unfold maxLen at hcm;have hcap1:(xs.length:Int)≤(cap:Int):=(by omega);have hcap2:(cap:Int)≤9223372036854775807:=(by omega))|((refine step_append_any_sep 0 (by rfl) _ _ 36 (by rfl) 3 i0 (.int .i64 0) 1 8 Tryz.underlying36 hi hz0 hz1 hz2 rfl (by decide) ((hS'.out.lit 3 #[.int .i64 (-71)] (by simp[maxLen])).drew.sl_nil 3 1) (.slice none 0 0) 0 [] (by rfl) (by rfl) (.slice Au xs.length cu) xs.length (xs.map (.int .i64)) (by rfl) (hun'.out.below (hS'.out.alloc _).drew.below) (by simp[Value.oneCell']) (by unfold maxLen;omega) (by omega) ?_);intro va w1 hSa hza;simp only[List.set_cons_zero,Nat.zero_add,List.nil_append]at hSa;replace hSa:=Lh hSa;clear hza)|((refine step_append_sep 0 (by rfl) _ _ 36 (by rfl) 3 i0 (.int .i64 0) 1 8 Tryz.underlying36 hi hz0 hz1 hz2 rfl (by decide) hSa.out va xs.length (xs.map (.int .i64)) (by rfl) (by rfl) ⟨wr.heap.size,0,none⟩ 1 1 [.int .i64 (-71)] (by rfl) (by rfl) (Rd.news (hSa.out.rd 1 rfl)) (by simp[Value.oneCell']) (by decide) (by unfold maxLen;omega) (by omega) ?_);intro g cap w2 hSc0 hzc;have hSc:=Lh (Sep.drop 1 (Sep.sel [1,0] hSc0 (by decide) (by simp)));clear hSc0 hzc;obtain⟨g',cap',e,_,_,hcap,hcm⟩:=hSc.out.sl_form 0 rfl (by omega);cases e;unfold maxLen at hcm;have hcap1:(xs.length:Int)≤(cap:Int):=(by omega);have hcap2:(cap:Int)≤9223372036854775807:=(by omega))|((refine step_append_sep 1 (by rfl) _ _ 27 (by rfl) 36 i1 (.slice none 0 0) 1 24 Tryz.underlying27 hi1 hz10 hz11 hz12 rfl (by decide) (hSc.out.alloc (.cells #[.slice (some ⟨g,0,none⟩) xs.length cap] 36)) u3 i vs (by rfl) (by rfl) ⟨w2.heap.size,0,none⟩ 1 1 [.slice (some ⟨g,0,none⟩) xs.length cap] (by rfl) (by rfl) (cell_one_new _ _ _) (by simp[Value.oneCell']) (by decide) (by unfold maxLen;omega) (by omega) ?_);intro g2 cap2 w3 hSd hzd;replace hSd:=Lh hSd;clear hzd))
 all_goals
  have hSe:Sep w w3 (.sl 36 1 (.slice (some ⟨g2,0,none⟩) (i+1) cap2) (i+1) (vs++[.slice (some ⟨g,0,none⟩) xs.length cap])::List.zipWith lentRow (vs++[.slice (some ⟨g,0,none⟩) xs.length cap]) (xss.take (i+1))):=by(have e:xss.take (i+1)=xss.take i++[xs]:=by rw[List.take_add_one,gE hlt,←hxs'.out];rfl);(have hl2:vs.length=(xss.take i).length:=by rw[List.length_take];omega);rw[e,List.zipWith_append hl2];exact hSd.out.perm ((List.Perm.swap _ _ _).trans (.cons _ (List.perm_append_singleton _ _).symm))
  have hSe':=Lh hSe
  clear hSe hSd hSc hSa hcn' hS'
  go_wp2_with fail
  go_roundg (xss.length-(i+1))
  case measure=>rw[hm.out];omega
  case rel=>exact⟨i+1,by omega,rfl,by go_num,_,by simp[hvl],hSe'.out⟩
end Go.Proofs.YtimkjnbihlgbiaaGreat
namespace Go.Proofs.YtimkjnbihlgbiaaGreat
open Go.RowKit
set_option linter.unusedVariables false
theorem lent_cells {w0 w:World} {v last:Value} {vs:List Value} {xss:List (List Int)} {R:List Asn} (hvl:vs.length=xss.length) (h:Sep w0 w (lentAll v vs last xss++R)):
  ∃g cap gl cl,v= .slice (some ⟨g,0,none⟩) xss.length cap∧xss.length+1≤cap∧cap≤maxLen∧(∀m,(w.drewN m).cell? ⟨g,xss.length,none⟩=some (.slice (some ⟨gl,0,none⟩) 1 cl))∧(∀m,(w.drewN m).cell? ⟨gl,0,none⟩=some (.int .i64 (-72)))∧
   ∀i (hi:i<xss.length),∃gi ci,xss[i].length+1≤ci∧ci≤maxLen∧(∀m,(w.drewN m).cell? ⟨g,i,none⟩=some (.slice (some ⟨gi,0,none⟩) xss[i].length ci))∧∀m,(w.drewN m).cell? ⟨gi,xss[i].length,none⟩=some (.int .i64 (-71)):=by
 obtain⟨g,cap,e,_,_,h1,h2⟩:=h.sl_form 0 rfl (Nat.succ_pos _)
 obtain⟨gl,cl,e2,_,_,h3,h4⟩:=h.sl_form 1 rfl (by decide)
 subst e2
 have h0:∀m,Sep w0 (w.drewN m) (.sl 36 1 (.slice (some ⟨g,0,none⟩) (xss.length+1) cap) (xss.length+1) (vs++[.slice (some ⟨gl,0,none⟩) 1 cl]):: .sl 3 1 (.slice (some ⟨gl,0,none⟩) 1 cl) 1 [.int .i64 (-72)]::(List.zipWith lentRow vs xss++R)):=fun m=>by have:=h.drewN m;unfold lentAll at this;rw[e]at this;exact this
 refine⟨g,cap,gl,cl,more_form e,h1,h2,fun m=>?_,fun m=>?_,fun i hi=>?_⟩
 ·rw[(h0 m).cellAt 0 rfl xss.length (by omega),←hvl];simp
 ·exact(h0 m).cellAt 1 rfl 0 (by decide)
 ·have hz:(List.zipWith lentRow vs xss++R)[i]? =some (lentRow (vs[i]'(by omega)) xss[i]):=zip_at hvl hi R;obtain⟨gi,ci,ei,_,_,h5,h6⟩:=(h0 0).sl_form (i+2) hz (Nat.succ_pos _);have ei':=more_form ei;refine⟨gi,ci,h5,h6,fun m=>?_,fun m=>?_⟩
  ·rw[(h0 m).cellAt 0 rfl i (by omega),←ei',List.getElem?_append_left (by omega)];exact gE _
  unfold lentRow at hz;rw[ei]at hz;rw[(h0 m).cellAt (i+2) hz xss[i].length (by omega)];simp
set_option maxHeartbeats 1000000 in
theorem stay_any {xss:List (List Int)} {w0 w:World} {v nv last:Value} {vs:List Value} {R:List Asn} (hl:xss.length≤1024) (hr:∀j (hj:j<xss.length),xss[j].length≤1048576) (hvl:vs.length=xss.length)
  (h:Sep w0 w (lentAll v vs last xss++R)) (hn:RowsAt w nv xss):
  Calls Tryz.prog 13 #[v,nv] w fun e w'=>e= .returned (.bool true)∧∃m,w'=w.drewN m:=by
 have hsame:=Lh (same_any (lent_rows hvl h) hn);rw[decide_eq_true (show xss=xss from rfl)]at hsame;obtain⟨g,cap,gl,cl,rfl,h1,h2,h3,h4,h5⟩:=lent_cells hvl h;obtain⟨A,c,rfl,_⟩:=hn.shape;unfold maxLen at h2;have b1:(xss.length:Int)≤1024:=by omega
 have b2:(xss.length:Int)+1≤(cap:Int):=by omega
 have b3:(cap:Int)≤9223372036854775807:=by omega
 have hn':=Lh hn;have hr':=Lh hr;have h5':=Lh h5;clear h hn hr h5 hvl;go_enter Tryz.func13,Tryz.ntmps13;go_wp2_with(go_at_call 31;refine hsame.out.mono ?_;rintro e w1 ⟨rfl,m,rfl⟩);go_loop[7] (fun ii=>∃i:Nat,i≤xss.length∧ii= .int .i64 i) (fun ii=>xss.length-(intOf ii).toNat)
 case atStart=>exact⟨0,Nat.zero_le _,rfl⟩
 obtain⟨i,hi,rfl⟩:=hrel;by_cases hlt:i<xss.length
 case neg=>(obtain rfl:i=xss.length:=by omega);go_wp2_with fail;go_ret;exact⟨rfl,m,rfl⟩
 obtain⟨gi,ci,k1,k2,k3,k4⟩:=h5'.out i hlt;obtain⟨ad,c',un,e,hun,hcn⟩:=hn'.out.all hlt;cases e;have hrl:=hr'.out i hlt;have a0:=hcn (w.drewN m) ((Sep.nil w).drewN m).below;obtain⟨Au,cu,rfl,_⟩:=hun.shape;clear hun hcn;generalize xss[i].length=n at k1 k3 k4 hrl a0;unfold maxLen at k2;have c1:(0:Int)≤(i:Int):=by omega
 have c2:(i:Int)<(xss.length:Int):=by omega
 have c3:(n:Int)+1≤(ci:Int):=by omega
 have c4:(n:Int)≤1048576:=by omega
 have c5:(ci:Int)≤9223372036854775807:=by omega
 have k3':=k3 m;have k4':=k4 m;clear k3 k4;go_wp2_with fail;go_round
 case rel=>exact⟨i+1,by omega,by go_num⟩
 case measure=>simp[intOf];omega
end Go.Proofs.YtimkjnbihlgbiaaGreat
namespace Go.Proofs.YtimkjnbihlgbiaaGreat
set_option linter.unusedVariables false
section
variable {n:Nat}
theorem back_ok (hn:n≤1000):refused (longX n false)=0:=by
 refine refused_none (by rw[longX_len];omega) (fun j hj=>?_) (fun j hj i hi=>?_)
 ·rw[longX_at hj];split<;>simp
 rw[longX_len]at hj ⊢;have e:=longX_at (n:=n) (round:=false) (i:=j) (by rw[longX_len];exact hj);have hm:=List.getElem_mem hi;generalize(longX n false)[j][i]=y at hm ⊢;rw[e]at hm;split at hm
 ·rw[List.mem_singleton]at hm;omega
 simp at hm
theorem back_none (hn:n≤1000):roundRows (longX n false)=[]:=by
 refine none_round (fun v=>n-v) (fun v hv u hu=>?_) (back_ok hn);rw[longX_len]at hv;rcases(longX_adj hv u).1 hu with⟨h,rfl⟩|⟨_,h,_⟩
 ·omega
 cases h
end
end Go.Proofs.YtimkjnbihlgbiaaGreat
