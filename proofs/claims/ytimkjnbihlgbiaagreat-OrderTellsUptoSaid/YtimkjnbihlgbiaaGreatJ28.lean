/- DocF, DocH, laid together. -/
import Derived.Test.YtimkjnbihlgbiaaGreatJ27
namespace Go.Proofs.YtimkjnbihlgbiaaGreat
open Go.RowKit
set_option linter.unusedVariables false
set_option linter.unusedSimpArgs false
theorem lookE_skip (Ns:List TN) (p:List UInt8):∀(h:List UInt8) (x y:List UInt8),p=x++(h++y)→(47:UInt8)∉h→lookE Ns p (h++y).length=lookE Ns p y.length
 |[],_,_,_,_=>rfl
 |c::h,x,y,e,hn=>by
  (have h1:c≠47:=fun e=>hn (by simp[e]));have ih:=lookE_skip Ns p h (x++[c]) y (by rw[e];simp) (fun hm=>hn (List.mem_cons_of_mem _ hm));rw[←ih];show lookE Ns p ((h++y).length+1)=_
  conv=>lhs;unfold lookE
  (have e2:p[p.length-((h++y).length+1)]? =some c:=by(have:p.length-((h++y).length+1)=x.length:=by rw[e];simp);rw[this,e,List.getElem?_append_right (Nat.le_refl _),Nat.sub_self];rfl);rw[e2,if_neg (by simpa using h1)]
theorem lookE_slash (Ns:List TN) {p a r:List UInt8} (e:p=a++47::r):lookE Ns p (r.length+1)=match findN Ns a with
  |none=>21
  |some n=>if 0≤n.file then 22 else lookE Ns p r.length:=by
 have hl:p.length-(r.length+1)=a.length:=by rw[e];simp
 have e2:p[p.length-(r.length+1)]? =some 47:=by rw[hl,e,List.getElem?_append_right (Nat.le_refl _),Nat.sub_self];rfl
 have e3:p.take (p.length-(r.length+1))=a:=by rw[hl,e];simp
 conv=>lhs;unfold lookE
 rw[e2,if_pos rfl,e3];rfl
theorem lookE_end (Ns:List TN) {p a r:List UInt8} (e:p=a++r) (h:(47:UInt8)∉r):lookE Ns p r.length=0:=by have:=lookE_skip Ns p r a [] (by simpa using e) h;rw[List.append_nil]at this;exact this
theorem splitB_next {r:List UInt8} {s:List UInt8} {t:List (List UInt8)} (h:splitB r=s::t):(47:UInt8)∉s∧((t=[]∧r=s)∨∃r',t≠[]∧r=s++47::r'∧splitB r'=t):=by
 induction r generalizing s t with
 |nil=>change [[]]=s::t at h;cases h;exact⟨by simp,Or.inl ⟨rfl,rfl⟩⟩
 |cons c r ih=>
  rw[splitB_cons]at h;split at h
  ·rename_i hc;cases h;exact⟨by simp,Or.inr ⟨r,splitB_ne r,by rw[hc];rfl,rfl⟩⟩
  rename_i hc;cases hr:splitB r with
  |nil=>exact absurd hr (splitB_ne r)
  |cons x y=>
   rw[hr]at h;cases h;obtain⟨h1,h2⟩:=ih hr;refine⟨fun hm=>?_,?_⟩
   ·rcases List.mem_cons.1 hm with e|e
    ·exact hc e.symm
    exact h1 e
   rcases h2 with⟨h3,h4⟩|⟨r',h3,h4,h5⟩
   ·exact Or.inl ⟨h3,by rw[h4]⟩
   exact Or.inr ⟨r',h3,by rw[h4];rfl,h5⟩
set_option maxRecDepth 100000 in
set_option maxHeartbeats 1000000 in
theorem reflook_any {w:World} {nv fv:Value} {ns:List TN} {fs:List TF} {vs:List Value} (h:TreeAt w nv fv ns fs vs) (hm:TreeSm ns fs) (hfi:∀n∈ns, -1≤n.file) {p:List UInt8} (hv:validL p=true):
  Calls Tryz.prog 65 #[.agg #[nv,fv],strV p] w fun e w'=>e= .returned (.tuple #[.int .i64 (if lookE ns p p.length=0 then findI ns p else -1),.int .i64 (lookE ns p p.length)])∧Below w.heap.size w w':=by
 have hS0:=(Sep.nil w).bN 25 #[nv,fv];have h100:=valid_len hv;have hfnd:=fun(W:World) (hW:Below w.heap.size w W) (x:ByteArray)=>reffind_any (h.below hW) hm.few x.data.toList
 have hnp:=h.nodes;obtain⟨A1,ca1,rfl,hm1⟩:=h.nodes.shape;obtain⟨A2,ca2,rfl,hm2⟩:=h.files.shape;have hnm:=refnames_any (p:=p) (w.alloc (.cells #[.slice A1 ns.length ca1,.slice A2 fs.length ca2] 25)) (by omega);have hnl:namesL p=splitB p:=by unfold namesL;rw[if_pos hv]
 rw[hnl]at hnm;obtain⟨LE,hLE⟩:∃x,lookE ns p p.length=x:=⟨_,rfl⟩;rw[hLE];obtain⟨RI,hRI⟩:∃x,(if LE=0 then findI ns p else -1)=x:=⟨_,rfl⟩;rw[hRI];have hRI':=Lh hRI;clear hRI;have hfnd':=Lh hfnd;have hnm':=Lh hnm;have hS0':=Lh hS0;have hnp':=Lh hnp;have hfi':=Lh hfi;have hLE':=Lh hLE;have b1:(ns.length:Int)≤300:=by have:=hm.few;omega
 have hcnt:=Lh (splitB_count p);clear h hm hS0 hfnd hnm hnl hnp hfi hLE hv;unfold strV at*;go_enter Tryz.func65,Tryz.ntmps65;go_wp2_with(go_at_call 97;refine hnm'.out.mono ?_;rintro e w1 ⟨lv,L,rfl,hL,hSL⟩;(have hS1:=hS0'.out.join hSL);(have hll:L.length≤101:=by(have h1:=congrArg List.length hL);(have h2:=hcnt.out);rw[List.length_map]at h1;omega);(have hpos:0<L.length:=by(have h1:=congrArg List.length hL);rw[List.length_map]at h1;(have:=List.length_pos_iff.2 (splitB_ne p));omega);obtain⟨gl,cl,rfl,_,_⟩:=hS1.sl_form 0 rfl hpos;replace hS1:=Lh hS1;replace hL:=Lh hL;clear hSL);have hLl:Hid (L.length≤101):=hll;go_loopw[7,8] (fun av iv wr=>∃(x:ByteArray) (i:Nat) (r:List UInt8),i<L.length∧av= .string x∧iv= .int .i64 i∧Hid ((i=0∧x.data.toList=[]∧r=p)∨(0<i∧p=x.data.toList++47::r))∧Hid (LE=lookE ns p r.length)∧Hid (splitB r=(L.drop i).map bytesL)∧Sep w wr [strR (.slice (some ⟨gl,0,none⟩) L.length cl) L,.box w.heap.size 25 #[.slice A1 ns.length ca1,.slice A2 fs.length ca2]]) (fun _ iv _=>L.length-(intOf iv).toNat)
 case atStart=>exact⟨⟨#[]⟩,0,p,hpos,rfl,rfl,Or.inl ⟨rfl,rfl,rfl⟩,hLE'.out.symm,(by show _=_;rw[List.drop_zero];exact hL.out.symm),hS1.out⟩
 obtain⟨x,i,r,hi,rfl,rfl,hxr,hlr,hsr,hS⟩:=hrel;have c0:(0:Int)≤(i:Int):=by omega
 have z0:=hS.bC 1 rfl 0;have z1:=hS.bC 1 rfl 1;simp only[gA,gB,gC]at z0 z1;have cl1:(1:Int)≤(L.length:Int):=by omega
 obtain⟨s,hs⟩:∃s,L[i]? =some s:=⟨_,gE hi⟩;have hsp:splitB r=bytesL s::(L.drop (i+1)).map bytesL:=by have h:=hsr.out;rw[List.drop_eq_getElem_cons hi,List.map_cons]at h;rw[gE hi]at hs;cases hs;exact h
 obtain⟨hn47,hnx⟩:=splitB_next hsp;by_cases hlt:i<L.length-1
 ·(have c2:(i:Int)<(L.length:Int)-1:=by omega);(have c3:(i:Int)<(L.length:Int):=by omega);(have s0:wr.cell? ⟨gl,i,none⟩=some (.string s):=by rw[hS.cellAt 0 rfl i (by omega),List.getElem?_map,hs];rfl);have hS':=Lh hS;(have hne:(L.drop (i+1)).map bytesL≠[]:=by intro h;have:=congrArg List.length h;rw[List.length_map,List.length_drop]at this;simp at this;omega);obtain⟨r',h1,h2,h3⟩:∃r',(L.drop (i+1)).map bytesL≠[]∧r=bytesL s++47::r'∧splitB r'=(L.drop (i+1)).map bytesL:=by
   rcases hnx with⟨h,_⟩|h
   ·exact absurd h hne
   exact h
  have hsr2:=Lh h3;have hss:s.size≤100:=by
   have e1:=Lib.size_eq s;have e2:r.length≤p.length:=by
    rcases hxr.out with⟨_,_,e⟩|⟨_,e⟩
    ·rw[e];exact Nat.le_refl _
    rw[e];simp;omega
   (have e3:(bytesL s).length≤r.length:=by rw[h2];simp);have e4:(bytesL s).length=s.data.toList.length:=rfl;omega
  clear hsp hne h1 h3 hs hnx hS;rcases hxr.out with⟨hi0,hx0,hr0⟩|⟨hi0,hpx⟩
  ·(have c9:¬(0:Int)<(i:Int):=by omega);(have c10:¬0<i:=by omega);have hfp':=Lh (hfnd'.out _ hS'.out.below (x++s));obtain⟨Y,hY⟩:∃Y,Y=(x++s).data.toList:=⟨_,rfl⟩;have hYd:=Lh hY.symm;(have hpy:p=Y++47::r':=by rw[hY,Go.Joins.data_append,hx0,←hr0,h2];rfl);(have hLE3:LE=lookE ns p (r'.length+1):=by rw[hlr.out,h2];exact lookE_skip ns p (bytesL s) [] (47::r') (by rw[←hr0,h2];rfl) hn47);(have hxx:x.size≤100:=by have e1:=Lib.size_eq x;rw[e1,hx0];simp);clear hi0 hx0 hr0 h2 hn47 hxr hlr hsr hY;have hpy':=Lh hpy;have hLE2:LE=match findN ns Y with
     |none=>21
     |some n=>if 0≤n.file then 22 else lookE ns p r'.length:=by
    rw[hLE3];exact lookE_slash ns hpy
   clear hpy hLE3;rcases findI_find ns Y with⟨hf1,hf9⟩|⟨kk,m,hf1,hf8,hf9,hf7⟩
   ·(have hz:Hid (LE=21):=by rw[hf1]at hLE2;exact hLE2);have hf9':=Lh hf9;clear hf1 hf9 hLE2;go_wp2_with(go_at_call 98;refine hfp'.out.mono ?_;rintro e w3 ⟨rfl,hb3⟩;rw[hYd.out,hf9'.out];(have hS3:=hS'.out.pure hb3);(have y0:=hS3.bC 1 rfl 0);(have y1:=hS3.bC 1 rfl 1);simp only[gA,gB,gC]at y0 y1;replace hS3:=Lh hS3;clear hb3)
    go_ret2
    exact⟨by rw[←hRI'.out,hz.out];rfl,hS3.out.below⟩
   have hkl:=(gF.1 hf8).1;obtain⟨g,o,c,e,_,_,_,hcell⟩:=hnp'.out.place (by omega) (by decide);cases e;(have hx:=fun(W:World) (hW:Below w.heap.size w W)=>(hcell _ hW (kk*3+1) (by omega)).trans (tnCells_at hf8 1 (by omega)));simp only[tnC,strV,gB,gC,←Nat.add_assoc,Nat.add_zero]at hx;have hx':=Lh hx;(have k0:(0:Int)≤(kk:Int):=by omega);(have k1:(kk:Int)<(ns.length:Int):=by omega);have hmf:=hfi'.out m (gG hf8);have hf9':=Lh hf9;by_cases hmd:m.file= -1
   ·(have hmb:(m.file != -1)=false:=by rw[hmd];rfl);(have hz:Hid (LE=lookE ns p r'.length):=by rw[hf1]at hLE2;simp only at hLE2;rw[if_neg (by omega)]at hLE2;exact hLE2);clear hf1 hf8 hf9 hf7 hx hcell hmf hkl hmd hLE2;go_wp2_with(go_at_call 98;refine hfp'.out.mono ?_;rintro e w3 ⟨rfl,hb3⟩;rw[hYd.out,hf9'.out];(have hS3:=hS'.out.pure hb3);(have y0:=hS3.bC 1 rfl 0);(have y1:=hS3.bC 1 rfl 1);simp only[gA,gB,gC]at y0 y1;(have y2:=hx'.out _ hS3.below);replace hS3:=Lh hS3;clear hb3);go_roundw
    case rel=>exact⟨_,i+1,r',by omega,rfl,by go_num,Or.inr ⟨by omega,hYd.out▸hpy'.out⟩,hz,hsr2.out,hS3.out⟩
    case measure=>(simp[intOf];omega)
   (have hmb:(m.file != -1)=true:=by simpa using hmd);(have hz:Hid (LE=22):=by rw[hf1]at hLE2;simp only at hLE2;rw[if_pos (by omega)]at hLE2;exact hLE2);clear hf1 hf8 hf9 hf7 hx hcell hmf hkl hmd hLE2;go_wp2_with(go_at_call 98;refine hfp'.out.mono ?_;rintro e w3 ⟨rfl,hb3⟩;rw[hYd.out,hf9'.out];(have hS3:=hS'.out.pure hb3);(have y0:=hS3.bC 1 rfl 0);(have y1:=hS3.bC 1 rfl 1);simp only[gA,gB,gC]at y0 y1;(have y2:=hx'.out _ hS3.below);replace hS3:=Lh hS3;clear hb3)
   go_ret2
   exact⟨by rw[←hRI'.out,hz.out];rfl,hS3.out.below⟩
  (have c9:(0:Int)<(i:Int):=by omega);have hfp':=Lh (hfnd'.out _ hS'.out.below (x++⟨#[47]⟩++s));obtain⟨Y,hY⟩:∃Y,Y=(x++⟨#[47]⟩++s).data.toList:=⟨_,rfl⟩;have hYd:=Lh hY.symm;(have hpy:p=Y++47::r':=by rw[hY,Go.Joins.data_append,Go.Joins.data_append,hpx,h2];(show _=(x.data.toList++[47]++bytesL s)++47::r');simp);(have hxx:x.size≤100:=by have e1:=Lib.size_eq x;(have e2:x.data.toList.length≤p.length:=by rw[hpx];simp);omega);(have hxy:(x++⟨#[47]⟩:ByteArray).size≤101:=by rw[ByteArray.size_append];have:(⟨#[47]⟩:ByteArray).size=1:=rfl;omega);(have hLE3:LE=lookE ns p (r'.length+1):=by rw[hlr.out,h2];exact lookE_skip ns p (bytesL s) (x.data.toList++[47]) (47::r') (by rw[hpx,h2];simp) hn47);clear hpx h2 hn47 hxr hlr hsr hY;have hpy':=Lh hpy;have hLE2:LE=match findN ns Y with
    |none=>21
    |some n=>if 0≤n.file then 22 else lookE ns p r'.length:=by
   rw[hLE3];exact lookE_slash ns hpy
  clear hpy hLE3;rcases findI_find ns Y with⟨hf1,hf9⟩|⟨kk,m,hf1,hf8,hf9,hf7⟩
  ·(have hz:Hid (LE=21):=by rw[hf1]at hLE2;exact hLE2);have hf9':=Lh hf9;clear hf1 hf9 hLE2;go_wp2_with(go_at_call 98;refine hfp'.out.mono ?_;rintro e w3 ⟨rfl,hb3⟩;rw[hYd.out,hf9'.out];(have hS3:=hS'.out.pure hb3);(have y0:=hS3.bC 1 rfl 0);(have y1:=hS3.bC 1 rfl 1);simp only[gA,gB,gC]at y0 y1;replace hS3:=Lh hS3;clear hb3)
   go_ret2
   exact⟨by rw[←hRI'.out,hz.out];rfl,hS3.out.below⟩
  have hkl:=(gF.1 hf8).1;obtain⟨g,o,c,e,_,_,_,hcell⟩:=hnp'.out.place (by omega) (by decide);cases e;(have hx:=fun(W:World) (hW:Below w.heap.size w W)=>(hcell _ hW (kk*3+1) (by omega)).trans (tnCells_at hf8 1 (by omega)));simp only[tnC,strV,gB,gC,←Nat.add_assoc,Nat.add_zero]at hx;have hx':=Lh hx;(have k0:(0:Int)≤(kk:Int):=by omega);(have k1:(kk:Int)<(ns.length:Int):=by omega);have hmf:=hfi'.out m (gG hf8);have hf9':=Lh hf9;by_cases hmd:m.file= -1
  ·(have hmb:(m.file != -1)=false:=by rw[hmd];rfl);(have hz:Hid (LE=lookE ns p r'.length):=by rw[hf1]at hLE2;simp only at hLE2;rw[if_neg (by omega)]at hLE2;exact hLE2);clear hf1 hf8 hf9 hf7 hx hcell hmf hkl hmd hLE2;go_wp2_with(go_at_call 98;refine hfp'.out.mono ?_;rintro e w3 ⟨rfl,hb3⟩;rw[hYd.out,hf9'.out];(have hS3:=hS'.out.pure hb3);(have y0:=hS3.bC 1 rfl 0);(have y1:=hS3.bC 1 rfl 1);simp only[gA,gB,gC]at y0 y1;(have y2:=hx'.out _ hS3.below);replace hS3:=Lh hS3;clear hb3);go_roundw
   case rel=>exact⟨_,i+1,r',by omega,rfl,by go_num,Or.inr ⟨by omega,hYd.out▸hpy'.out⟩,hz,hsr2.out,hS3.out⟩
   case measure=>(simp[intOf];omega)
  (have hmb:(m.file != -1)=true:=by simpa using hmd);(have hz:Hid (LE=22):=by rw[hf1]at hLE2;simp only at hLE2;rw[if_pos (by omega)]at hLE2;exact hLE2);clear hf1 hf8 hf9 hf7 hx hcell hmf hkl hmd hLE2;go_wp2_with(go_at_call 98;refine hfp'.out.mono ?_;rintro e w3 ⟨rfl,hb3⟩;rw[hYd.out,hf9'.out];(have hS3:=hS'.out.pure hb3);(have y0:=hS3.bC 1 rfl 0);(have y1:=hS3.bC 1 rfl 1);simp only[gA,gB,gC]at y0 y1;(have y2:=hx'.out _ hS3.below);replace hS3:=Lh hS3;clear hb3)
  go_ret2
  exact⟨by rw[←hRI'.out,hz.out];rfl,hS3.out.below⟩
 have c2:¬(i:Int)<(L.length:Int)-1:=by omega
 have hnil:(L.drop (i+1)).map bytesL=[]:=by rw[List.drop_eq_nil_of_le (by omega)];rfl
 have hz:Hid (LE=0):=by
  rcases hnx with⟨_,h⟩|⟨_,h,_⟩
  ·(have h4:(47:UInt8)∉r:=by rw[h];exact hn47);(show _=_);rw[hlr.out];rcases hxr.out with⟨_,_,e⟩|⟨_,e⟩
   ·rw[e]at h4 ⊢;exact lookE_end ns (a:=[]) rfl h4
   exact lookE_end ns (a:=x.data.toList++[47]) (by simpa using e) h4
  exact absurd hnil h
 have hfp:=hfnd'.out _ hS.below ⟨p.toArray⟩;have hfp':=Lh hfp;have hS':=Lh hS;clear hS hfp hsp hnx hn47 hnil hs;go_wp2_with(go_at_call 98;refine hfp'.out.mono ?_;rintro e w3 ⟨rfl,hb3⟩;(have hS3:=hS'.out.pure hb3);replace hS3:=Lh hS3;clear hb3)
 go_ret2
 exact⟨by rw[←hRI'.out,hz.out];rfl,hS3.out.below⟩
theorem refvacant_any {w:World} {nv fv:Value} {ns:List TN} {fs:List TF} {vs:List Value} (h:TreeAt w nv fv ns fs vs) (hm:TreeSm ns fs) (hfi:∀n∈ns, -1≤n.file) {p:List UInt8} (hv:validL p=true):
  Calls Tryz.prog 64 #[.agg #[nv,fv],strV p] w fun e w'=>e= .returned (.int .i64 (absentE ns p))∧Below w.heap.size w w':=by
 have hS0:=(Sep.nil w).bN 25 #[nv,fv];have hlk:=reflook_any (h.below hS0.below) hm hfi hv;have hnp:=h.nodes;obtain⟨A1,ca1,rfl,hm1⟩:=h.nodes.shape;obtain⟨A2,ca2,rfl,hm2⟩:=h.files.shape;have hS0':=Lh hS0;have hh:absentE ns p=if lookE ns p p.length=0 then(if 0≤findI ns p then 23 else 0)else lookE ns p p.length:=by
  unfold absentE hasG;rcases findI_find ns p with⟨h1,h2⟩|⟨k,m,h1,_,h2,_⟩
  ·rw[h1,h2];rfl
  rw[h1,h2,if_pos (show(0:Int)≤(k:Int)by omega)];rfl
 obtain⟨AE,hAE⟩:∃x,absentE ns p=x:=⟨_,rfl⟩;rw[hAE]at hh ⊢;clear hAE;generalize lookE ns p p.length=LE at hlk hh;generalize findI ns p=k at hlk hh;unfold strV at*;by_cases hz:LE=0
 ·subst hz;rw[if_pos rfl]at hlk hh;have hlk':=Lh hlk;have hh':=Lh hh;clear hlk hh hS0 h;by_cases hk:0≤k
  ·go_enter Tryz.func64,Tryz.ntmps64;go_wp2_with(go_at_call 65;refine hlk'.out.mono ?_;rintro e w1 ⟨rfl,hb1⟩;(have hS1:=hS0'.out.pure hb1);(have y0:=hS1.bC 0 rfl 0);(have y1:=hS1.bC 0 rfl 1);simp only[gA,gB,gC]at y0 y1;replace hS1:=Lh hS1;clear hb1);go_ret;exact⟨by rw[hh'.out,if_pos hk];rfl,hS1.out.below⟩
  go_enter Tryz.func64,Tryz.ntmps64;go_wp2_with(go_at_call 65;refine hlk'.out.mono ?_;rintro e w1 ⟨rfl,hb1⟩;(have hS1:=hS0'.out.pure hb1);(have y0:=hS1.bC 0 rfl 0);(have y1:=hS1.bC 0 rfl 1);simp only[gA,gB,gC]at y0 y1;replace hS1:=Lh hS1;clear hb1);go_ret;exact⟨by rw[hh'.out,if_neg (by omega)];rfl,hS1.out.below⟩
 rw[if_neg hz]at hlk hh;have hzb:(LE !=0)=true:=by simpa using hz
 have hlk':=Lh hlk;have hh':=Lh hh;clear hlk hh hS0 hz h;go_enter Tryz.func64,Tryz.ntmps64;go_wp2_with(go_at_call 65;refine hlk'.out.mono ?_;rintro e w1 ⟨rfl,hb1⟩;(have hS1:=hS0'.out.pure hb1);(have y0:=hS1.bC 0 rfl 0);(have y1:=hS1.bC 0 rfl 1);simp only[gA,gB,gC]at y0 y1;replace hS1:=Lh hS1;clear hb1);go_ret;exact⟨by rw[hh'.out];rfl,hS1.out.below⟩
theorem reffileat_any {w:World} {nv fv:Value} {ns:List TN} {fs:List TF} {vs:List Value} (h:TreeAt w nv fv ns fs vs) (hm:TreeSm ns fs) (hfi:∀n∈ns, -1≤n.file) {p:List UInt8} (hv:validL p=true):
  Calls Tryz.prog 63 #[.agg #[nv,fv],strV p] w fun e w'=>e= .returned (.tuple #[.int .i64 (if fileE ns p=0 then findI ns p else -1),.int .i64 (fileE ns p)])∧Below w.heap.size w w':=by
 have hS0:=(Sep.nil w).bN 25 #[nv,fv];have hlk:=reflook_any (h.below hS0.below) hm hfi hv;have hnp:=h.nodes;obtain⟨A1,ca1,rfl,hm1⟩:=h.nodes.shape;obtain⟨A2,ca2,rfl,hm2⟩:=h.files.shape;have hS0':=Lh hS0;have hnp':=Lh hnp;unfold strV at*;by_cases hz:lookE ns p p.length=0
 ·rw[hz,if_pos rfl]at hlk;rcases findI_find ns p with⟨h1,h2⟩|⟨k,m,h1,h8,h2,h7⟩
  ·(have hfe:fileE ns p=21:=by unfold fileE presentE hasG;rw[hz,h1];rfl);rw[hfe,if_neg (by decide)];rw[h2]at hlk;have hlk':=Lh hlk;clear hlk hS0 h hfe h1 h2 hnp;go_enter Tryz.func63,Tryz.ntmps63;go_wp2_with(go_at_call 65;refine hlk'.out.mono ?_;rintro e w1 ⟨rfl,hb1⟩;(have hS1:=hS0'.out.pure hb1);(have y0:=hS1.bC 0 rfl 0);(have y1:=hS1.bC 0 rfl 1);simp only[gA,gB,gC]at y0 y1;replace hS1:=Lh hS1;clear hb1)
   go_ret2
   exact⟨rfl,hS1.out.below⟩
  (have hpr:presentE ns p=0:=by unfold presentE hasG;rw[hz,h1];rfl);(have hnl:nodeL ns p=m:=by unfold nodeL nodeOr;rw[if_pos hz,h1];rfl);have hmf:=hfi m (gG h8);have hkl:=(gF.1 h8).1;obtain⟨g,o,c,e,_,_,_,hcell⟩:=hnp'.out.place (by omega) (by decide);cases e;(have hx:=fun(W:World) (hW:Below w.heap.size w W)=>(hcell _ hW (k*3+1) (by omega)).trans (tnCells_at h8 1 (by omega)));simp only[tnC,strV,gB,gC,←Nat.add_assoc,Nat.add_zero]at hx;have hx':=Lh hx;(have k0:(0:Int)≤(k:Int):=by omega);(have k1:(k:Int)<(ns.length:Int):=by omega);(have b1:(ns.length:Int)≤300:=by have:=hm.few;omega);rw[h2]at hlk;have hlk':=Lh hlk;by_cases hd:m.file= -1
  ·(have hfe:fileE ns p=24:=by unfold fileE;rw[hpr,if_pos rfl,hnl,if_pos (by omega)]);(have hdb:(m.file== -1)=true:=by rw[hd];rfl);rw[hfe,if_neg (by decide)];clear hlk hS0 h hfe h1 h2 hnp hx hcell hpr hnl hd hmf h7 h8;go_enter Tryz.func63,Tryz.ntmps63;go_wp2_with(go_at_call 65;refine hlk'.out.mono ?_;rintro e w1 ⟨rfl,hb1⟩;(have hS1:=hS0'.out.pure hb1);(have y0:=hS1.bC 0 rfl 0);(have y1:=hS1.bC 0 rfl 1);simp only[gA,gB,gC]at y0 y1;(have y2:=hx'.out _ hS1.below);replace hS1:=Lh hS1;clear hb1)
   go_ret2
   exact⟨rfl,hS1.out.below⟩
  (have hfe:fileE ns p=0:=by unfold fileE;rw[hpr,if_pos rfl,hnl,if_neg (by omega)]);(have hdb:(m.file== -1)=false:=by simpa using hd);rw[hfe,if_pos rfl,h2];clear hlk hS0 h hfe h1 h2 hnp hx hcell hpr hnl hd hmf h7 h8;go_enter Tryz.func63,Tryz.ntmps63;go_wp2_with(go_at_call 65;refine hlk'.out.mono ?_;rintro e w1 ⟨rfl,hb1⟩;(have hS1:=hS0'.out.pure hb1);(have y0:=hS1.bC 0 rfl 0);(have y1:=hS1.bC 0 rfl 1);simp only[gA,gB,gC]at y0 y1;(have y2:=hx'.out _ hS1.below);replace hS1:=Lh hS1;clear hb1)
  go_ret2
  exact⟨rfl,hS1.out.below⟩
 have hfe:fileE ns p=lookE ns p p.length:=by unfold fileE presentE;rw[if_neg hz,if_neg hz]
 rw[hfe,if_neg hz];rw[if_neg hz]at hlk;generalize lookE ns p p.length=LE at hlk hz ⊢;have hzb:(LE !=0)=true:=by simpa using hz
 have hlk':=Lh hlk;clear hlk hS0 hz h hfe;go_enter Tryz.func63,Tryz.ntmps63;go_wp2_with(go_at_call 65;refine hlk'.out.mono ?_;rintro e w1 ⟨rfl,hb1⟩;(have hS1:=hS0'.out.pure hb1);(have y0:=hS1.bC 0 rfl 0);(have y1:=hS1.bC 0 rfl 1);simp only[gA,gB,gC]at y0 y1;replace hS1:=Lh hS1;clear hb1)
 go_ret2
 exact⟨rfl,hS1.out.below⟩
def posT (xs:List TN) (p:List UInt8):Nat:=(xs.takeWhile fun m=>Op.bytesLess m.path p).length
def insT (xs:List TN) (n:TN):List TN:=xs.take (posT xs n.path)++n::xs.drop (posT xs n.path)
def isortT (ns:List TN):List TN:=ns.foldl insT []
theorem posT_lt {p:List UInt8}:∀ {xs:List TN} {j:Nat} {m:TN},j<posT xs p→xs[j]? =some m→Op.bytesLess m.path p=true
 |[],j,m,h,_=>by simp[posT]at h
 |x::xs,j,m,h,hj=>by
  unfold posT at h;rw[List.takeWhile_cons]at h;split at h
  ·rename_i hx;cases j with
   |zero=>cases hj;exact hx
   |succ j=>exact posT_lt (xs:=xs) (j:=j) (by unfold posT;simpa using h) (by simpa using hj)
  simp at h
theorem posT_at {p:List UInt8}:∀ {xs:List TN} {k:Nat},(∀(j:Nat) (m:TN),j<k→xs[j]? =some m→Op.bytesLess m.path p=true)→k≤xs.length→(∀m,xs[k]? =some m→Op.bytesLess m.path p=false)→posT xs p=k
 |[],k,_,hk,_=>by simp at hk;subst hk;rfl
 |x::xs,0,_,_,h2=>by unfold posT;rw[List.takeWhile_cons,h2 x rfl];rfl
 |x::xs,k+1,h1,hk,h2=>by have ih:=posT_at (xs:=xs) (k:=k) (fun j m hj hm=>h1 (j+1) m (by omega) (by simpa using hm)) (by simpa using hk) (fun m hm=>h2 m (by simpa using hm));have hx:=h1 0 x (by omega) rfl;unfold posT at ih ⊢;rw[List.takeWhile_cons,if_pos hx,List.length_cons,ih]
theorem isort_snoc (xs:List TN) (n:TN):isortT (xs++[n])=insT (isortT xs) n:=by unfold isortT;rw[List.foldl_append];rfl
theorem isort_take {ns:List TN} {i:Nat} {n:TN} (h:ns[i]? =some n):isortT (ns.take (i+1))=insT (isortT (ns.take i)) n:=by rw[List.take_add_one,h];exact isort_snoc _ _
theorem insT_perm (xs:List TN) (n:TN):(insT xs n).Perm (n::xs):=by unfold insT;refine List.perm_middle.trans ?_;rw[List.take_append_drop]
theorem isort_perm (ns:List TN):(isortT ns).Perm ns:=by refine snoc_rec (P:=fun ns=>(isortT ns).Perm ns) (List.Perm.refl _) (fun xs x ih=>?_) ns;rw[isort_snoc];exact(insT_perm _ _).trans ((ih.cons x).trans (List.perm_append_singleton _ _).symm)
theorem isort_len (ns:List TN):(isortT ns).length=ns.length:=(isort_perm ns).length_eq
theorem tnCells_app (xs ys:List TN):tnCells (xs++ys)=tnCells xs++tnCells ys:=by unfold tnCells;rw[List.flatMap_append]
theorem tnCells_take (xs:List TN) (k:Nat) (hk:k≤xs.length):(tnCells xs).take (k*3)=tnCells (xs.take k):=by
 conv=>lhs;rw[←List.take_append_drop k xs,tnCells_app]
 have:k*3=(tnCells (xs.take k)).length:=by rw[tnCells_len,List.length_take,Nat.min_eq_left hk]
 rw[this,List.take_left'];rfl
theorem tnCells_drop (xs:List TN) (k:Nat) (hk:k≤xs.length):(tnCells xs).drop (k*3)=tnCells (xs.drop k):=by
 conv=>lhs;rw[←List.take_append_drop k xs,tnCells_app]
 have:k*3=(tnCells (xs.take k)).length:=by rw[tnCells_len,List.length_take,Nat.min_eq_left hk]
 rw[this,List.drop_left'];rfl
theorem tnCells_oneCell (xs:List TN):∀u∈tnCells xs,u.oneCell'=true:=by intro u hu;unfold tnCells at hu;rw[List.mem_flatMap]at hu;obtain⟨n,_,h⟩:=hu;simp only[tnC,List.mem_cons,List.not_mem_nil,or_false]at h;rcases h with rfl|rfl|rfl<;>rfl
theorem Rd.tail {w:World} {sz g n c k:Nat} {cs:List Value} (h:Rd w sz (.slice (some ⟨g,0,none⟩) n c) n cs) (hn:0<n) (hk:k≤n):Rd w sz (.slice (some ⟨g,k*sz,none⟩) (n-k) (c-k)) (n-k) (cs.drop (k*sz)):=by
 obtain⟨hl,A,c',e,h1,h2,h3⟩:=h;cases e;refine⟨?_,_,_,rfl,by omega,by omega,fun hp=>?_⟩
 ·rw[List.length_drop,hl,Nat.sub_mul]
 obtain⟨ad,e,hb,hc⟩:=h3 hn;cases e;refine⟨_,rfl,hb,fun j u hu=>?_⟩;rw[List.getElem?_drop]at hu;have:=hc (k*sz+j) u hu;rw[←this];congr 1;unfold Addr.add;by_cases hj:j=0
 ·subst hj;by_cases hk0:k*sz=0<;>simp[hk0]
 have hne:¬k*sz+j=0:=by omega
 simp[hj,hne]
def fsAt (fs:List TF) (id:Int):TF:=fs.getD id.toNat ⟨0,0⟩
def dnT (ns:List TN):List TN:=(isortT ns).map (renum (idsP (isortT ns)))
def dfT (ns:List TN) (fs:List TF):List TF:=(idsP (isortT ns)).map (fsAt fs)
def canD (ns:List TN) (fs:List TF):Int:=if boundP ns fs=true then 31 else if formD (dnT ns) (dfT ns fs)=true then 0 else 30
def toL (m:Nat) (ids:List Int):List Int:=(List.range m).map fun(f:Nat)=>if(f:Int)∈ids then((ids.idxOf (f:Int):Nat):Int)else -1
theorem toL_at {m f:Nat} (ids:List Int) (h:f<m):(toL m ids)[f]? =some (if(f:Int)∈ids then((ids.idxOf (f:Int):Nat):Int)else -1):=by unfold toL;rw[List.getElem?_map,List.getElem?_range h];rfl
theorem toL_nil (m:Nat):toL m []=List.replicate m (-1):=by
 apply List.ext_getElem
 ·simp[toL]
 intro j h1 h2;simp[toL]
theorem toL_put {m f:Nat} {ids:List Int} (h:f<m) (hn:(f:Int)∉ids):(toL m ids).set f (ids.length:Int)=toL m (ids++[(f:Int)]):=by
 apply List.ext_getElem
 ·simp[toL]
 intro j h1 h2;rw[List.getElem_set];by_cases e:f=j
 ·subst e;simp[toL,List.idxOf_append,hn]
 rw[if_neg e];have e2:¬(j:Int)=(f:Int):=by omega
 simp only[toL,List.getElem_map,List.getElem_range,List.mem_append,List.mem_singleton];by_cases hj:(j:Int)∈ids
 ·rw[if_pos hj,if_pos (Or.inl hj),List.idxOf_append,if_pos hj]
 rw[if_neg hj,if_neg (by rintro(h|h);exact hj h;exact e2 h)]
def midT (xs:List TN) (ids:List Int) (i:Nat):List TN:=(xs.take i).map (renum ids)++xs.drop i
theorem midT_at {xs:List TN} {ids:List Int} {i:Nat} {n:TN} (h:xs[i]? =some n):(midT xs ids i)[i]? =some n:=by have hi:=(gF.1 h).1;unfold midT;rw[List.getElem?_append_right (by simp;omega),List.length_map,List.length_take,Nat.min_eq_left (by omega),Nat.sub_self,List.getElem?_drop];simpa using h
theorem midT_step {xs:List TN} {ids:List Int} {i:Nat} {n:TN} (h:xs[i]? =some n):midT xs ids (i+1)=(midT xs ids i).set i (renum ids n):=by have hi:=(gF.1 h).1;unfold midT;rw[take_succ_map _ h,List.set_append_right _ _ (by simp;omega),List.length_map,List.length_take,Nat.min_eq_left (by omega),Nat.sub_self,List.drop_eq_getElem_cons hi,List.append_assoc];rfl
theorem midT_all (xs:List TN) (ids:List Int):midT xs ids xs.length=xs.map (renum ids):=by unfold midT;rw[List.take_length,List.drop_length,List.append_nil]
theorem midT_app {xs:List TN} {ids:List Int} {i:Nat} (h:∀n∈xs.take i,¬n.file<0→n.file∈ids) (id:Int):midT xs (ids++[id]) i=midT xs ids i:=by unfold midT;rw[renum_app h]
theorem tnCells_setFile {xs:List TN} {i:Nat} {n:TN} (h:xs[i]? =some n) (x:Int):(tnCells xs).set (i*3+1) (.int .i64 x)=tnCells (xs.set i ⟨n.path,x,n.mode⟩):=by
 have hi:=(gF.1 h).1;have e1:xs=xs.take i++n::xs.drop (i+1):=(split_at h).1;have e2:xs.set i ⟨n.path,x,n.mode⟩=xs.take i++⟨n.path,x,n.mode⟩::xs.drop (i+1):=(split_at h).2 _;have hl:(tnCells (xs.take i)).length=i*3:=by rw[tnCells_len,List.length_take,Nat.min_eq_left (by omega)]
 rw[e2]
 conv=>lhs;rw[e1]
 rw[tnCells_app,tnCells_app,List.set_append_right _ _ (by omega),hl,show i*3+1-i*3=1 by omega];rfl
end Go.Proofs.YtimkjnbihlgbiaaGreat
