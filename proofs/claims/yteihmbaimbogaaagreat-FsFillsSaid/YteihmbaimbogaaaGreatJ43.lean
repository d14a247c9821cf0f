/- QDocF, FzB, QModelOps, QModelFG, QModelDG, QSortS, QModelTell, QTellP, laid together. -/
import Derived.Test.YteihmbaimbogaaaGreatJ42
import Derived.Shelf.Slices.CompactI
import Derived.Lib.SlicesCompact
namespace Go.Proofs.YteihmbaimbogaaaGreat
open Go.RowKit
set_option linter.unusedVariables false
set_option linter.unusedSimpArgs false
theorem uC (Ns:List TN) (p:List UInt8):∀(h:List UInt8) (x y:List UInt8),p=x++(h++y)→(47:UInt8)∉h→bT Ns p (h++y).length=bT Ns p y.length
 |[],_,_,_,_=>rfl
 |c::h,x,y,e,hn=>by
  (have h1:c≠47:=fun e=>hn (by simp[e]));have ih:=uC Ns p h (x++[c]) y (by rw[e];simp) (fun hm=>hn (List.mem_cons_of_mem _ hm));rw[←ih];show bT Ns p ((h++y).length+1)=_
  conv=>lhs;unfold bT
  (have e2:p[p.length-((h++y).length+1)]? =some c:=by(have:p.length-((h++y).length+1)=x.length:=by rw[e];simp);rw[this,e,List.getElem?_append_right (Nat.le_refl _),Nat.sub_self];rfl);rw[e2,if_neg (by simpa using h1)]
theorem qY (Ns:List TN) {p a r:List UInt8} (e:p=a++47::r):bT Ns p (r.length+1)=match iH Ns a with
  |none=>21
  |some n=>if 0≤n.file then 22 else bT Ns p r.length:=by
 have hl:p.length-(r.length+1)=a.length:=by rw[e];simp
 have e2:p[p.length-(r.length+1)]? =some 47:=by rw[hl,e,List.getElem?_append_right (Nat.le_refl _),Nat.sub_self];rfl
 have e3:p.take (p.length-(r.length+1))=a:=by rw[hl,e];simp
 conv=>lhs;unfold bT
 rw[e2,if_pos rfl,e3];rfl
theorem xI (Ns:List TN) {p a r:List UInt8} (e:p=a++r) (h:(47:UInt8)∉r):bT Ns p r.length=0:=by have:=uC Ns p r a [] (by simpa using e) h;rw[List.append_nil]at this;exact this
theorem UH {r:List UInt8} {s:List UInt8} {t:List (List UInt8)} (h:splitB r=s::t):(47:UInt8)∉s∧((t=[]∧r=s)∨∃r',t≠[]∧r=s++47::r'∧splitB r'=t):=by
 induction r generalizing s t with
 |nil=>change [[]]=s::t at h;cases h;exact⟨by simp,Or.inl ⟨rfl,rfl⟩⟩
 |cons c r ih=>
  rw[fB]at h;split at h
  ·rename_i hc;cases h;exact⟨by simp,Or.inr ⟨r,fQ r,by rw[hc];rfl,rfl⟩⟩
  rename_i hc;cases hr:splitB r with
  |nil=>exact absurd hr (fQ r)
  |cons x y=>
   rw[hr]at h;cases h;obtain⟨h1,h2⟩:=ih hr;refine⟨fun hm=>?_,?_⟩
   ·rcases List.mem_cons.1 hm with e|e
    ·exact hc e.symm
    exact h1 e
   rcases h2 with⟨h3,h4⟩|⟨r',h3,h4,h5⟩
   ·exact Or.inl ⟨h3,by rw[h4]⟩
   exact Or.inr ⟨r',h3,by rw[h4];rfl,h5⟩
set_option maxRecDepth 100000 in
set_option maxHeartbeats 1000000 in
theorem UI {w:World} {nv fv:Value} {ns:List TN} {fs:List TF} {vs:List Value} (h:dS w nv fv ns fs vs) (hm:nI ns fs) (hfi:∀n∈ns, -1≤n.file) {p:List UInt8} (hv:aP p=true):
  Calls Tryz.prog 94 #[.agg #[nv,fv],aM p] w fun e w'=>e= .returned (.tuple #[.int .i64 (if bT ns p p.length=0 then qW ns p else -1),.int .i64 (bT ns p p.length)])∧Below w.heap.size w w':=by
 have hS0:=(Sep.nil w).bN 32 #[nv,fv];have asP:=sG hv;have agS:=fun(W:World) (hW:Below w.heap.size w W) (x:ByteArray)=>EH (h.below hW) hm.few x.data.toList
 have QC:=h.nodes;obtain⟨A1,sQ,rfl,hm1⟩:=h.nodes.shape;obtain⟨A2,rG,rfl,hm2⟩:=h.files.shape;have hnm:=BC (p:=p) (w.alloc (.cells #[.slice A1 ns.length sQ,.slice A2 fs.length rG] 32)) (by omega);have hnl:tY p=splitB p:=by unfold tY;rw[if_pos hv]
 rw[hnl]at hnm;obtain⟨LE,hLE⟩:∃x,bT ns p p.length=x:=⟨_,rfl⟩;rw[hLE];obtain⟨RI,hRI⟩:∃x,(if LE=0 then qW ns p else -1)=x:=⟨_,rfl⟩;rw[hRI];have agZ:=Lh hRI;clear hRI;have yB:=Lh agS;have hnm':=Lh hnm;have gZ:=Lh hS0;have EW:=Lh QC;have xP:=Lh hfi;have axX:=Lh hLE;have b1:(ns.length:Int)≤300:=by have:=hm.few;omega
 have hcnt:=Lh (BA p);clear h hm hS0 agS hnm hnl QC hfi hLE hv;unfold aM at*;go_enter Tryz.func94,Tryz.ntmps94;go_wp2_with(go_at_call 149;refine hnm'.out.mono ?_;rintro e w1 ⟨lv,L,rfl,hL,hSL⟩;(have hS1:=gZ.out.join hSL);(have hll:L.length≤101:=by(have h1:=congrArg List.length hL);(have h2:=hcnt.out);rw[List.length_map]at h1;omega);(have hpos:0<L.length:=by(have h1:=congrArg List.length hL);rw[List.length_map]at h1;(have:=List.length_pos_iff.2 (fQ p));omega);obtain⟨gl,cl,rfl,_,_⟩:=hS1.iP 0 rfl hpos;replace hS1:=Lh hS1;replace hL:=Lh hL;clear hSL);have hLl:Hid (L.length≤101):=hll;go_loopw[7,8] (fun av iv wr=>∃(x:ByteArray) (i:Nat) (r:List UInt8),i<L.length∧av= .string x∧iv= .int .i64 i∧Hid ((i=0∧x.data.toList=[]∧r=p)∨(0<i∧p=x.data.toList++47::r))∧Hid (LE=bT ns p r.length)∧Hid (splitB r=(L.drop i).map eQ)∧Sep w wr [K3 (.slice (some ⟨gl,0,none⟩) L.length cl) L,.box w.heap.size 32 #[.slice A1 ns.length sQ,.slice A2 fs.length rG]]) (fun _ iv _=>L.length-(intOf iv).toNat)
 case atStart=>exact⟨⟨#[]⟩,0,p,hpos,rfl,rfl,Or.inl ⟨rfl,rfl,rfl⟩,axX.out.symm,(by show _=_;rw[List.drop_zero];exact hL.out.symm),hS1.out⟩
 obtain⟨x,i,r,hi,rfl,rfl,hxr,hlr,hsr,hS⟩:=hrel;have c0:(0:Int)≤(i:Int):=by omega
 have z0:=hS.bC 1 rfl 0;have z1:=hS.bC 1 rfl 1;simp only[gA,gB,gC]at z0 z1;have cl1:(1:Int)≤(L.length:Int):=by omega
 obtain⟨s,hs⟩:∃s,L[i]? =some s:=⟨_,gE hi⟩;have hsp:splitB r=eQ s::(L.drop (i+1)).map eQ:=by have h:=hsr.out;rw[List.drop_eq_getElem_cons hi,List.map_cons]at h;rw[gE hi]at hs;cases hs;exact h
 obtain⟨hn47,hnx⟩:=UH hsp;by_cases hlt:i<L.length-1
 ·(have c2:(i:Int)<(L.length:Int)-1:=by omega);(have c3:(i:Int)<(L.length:Int):=by omega);(have s0:wr.cell? ⟨gl,i,none⟩=some (.string s):=by rw[hS.cellAt 0 rfl i (by omega),List.getElem?_map,hs];rfl);have hS':=Lh hS;(have hne:(L.drop (i+1)).map eQ≠[]:=by intro h;have:=congrArg List.length h;rw[List.length_map,List.length_drop]at this;simp at this;omega);obtain⟨r',h1,h2,h3⟩:∃r',(L.drop (i+1)).map eQ≠[]∧r=eQ s++47::r'∧splitB r'=(L.drop (i+1)).map eQ:=by
   rcases hnx with⟨h,_⟩|h
   ·exact absurd h hne
   exact h
  have as3:=Lh h3;have hss:s.size≤100:=by
   have e1:=Lib.size_eq s;have e2:r.length≤p.length:=by
    rcases hxr.out with⟨_,_,e⟩|⟨_,e⟩
    ·rw[e];exact Nat.le_refl _
    rw[e];simp;omega
   (have e3:(eQ s).length≤r.length:=by rw[h2];simp);have e4:(eQ s).length=s.data.toList.length:=rfl;omega
  clear hsp hne h1 h3 hs hnx hS;rcases hxr.out with⟨hi0,hx0,hr0⟩|⟨hi0,hpx⟩
  ·(have c9:¬(0:Int)<(i:Int):=by omega);(have c10:¬0<i:=by omega);have nX:=Lh (yB.out _ hS'.out.below (x++s));obtain⟨Y,hY⟩:∃Y,Y=(x++s).data.toList:=⟨_,rfl⟩;have hYd:=Lh hY.symm;(have hpy:p=Y++47::r':=by rw[hY,Go.Joins.data_append,hx0,←hr0,h2];rfl);(have ag0:LE=bT ns p (r'.length+1):=by rw[hlr.out,h2];exact uC ns p (eQ s) [] (47::r') (by rw[←hr0,h2];rfl) hn47);(have hxx:x.size≤100:=by have e1:=Lib.size_eq x;rw[e1,hx0];simp);clear hi0 hx0 hr0 h2 hn47 hxr hlr hsr hY;have an5:=Lh hpy;have nJ:LE=match iH ns Y with
     |none=>21
     |some n=>if 0≤n.file then 22 else bT ns p r'.length:=by
    rw[ag0];exact qY ns hpy
   clear hpy ag0;rcases qD ns Y with⟨hf1,BG⟩|⟨kk,m,hf1,vU,BG,hf7⟩
   ·(have hz:Hid (LE=21):=by rw[hf1]at nJ;exact nJ);have PL:=Lh BG;clear hf1 BG nJ;go_wp2_with(go_at_call 150;refine nX.out.mono ?_;rintro e w3 ⟨rfl,hb3⟩;rw[hYd.out,PL.out];(have bG:=hS'.out.pure hb3);(have y0:=bG.bC 1 rfl 0);(have y1:=bG.bC 1 rfl 1);simp only[gA,gB,gC]at y0 y1;replace bG:=Lh bG;clear hb3)
    go_ret2
    exact⟨by rw[←agZ.out,hz.out];rfl,bG.out.below⟩
   have hkl:=(gF.1 vU).1;obtain⟨g,o,c,e,_,_,_,hcell⟩:=EW.out.place (by omega) (by decide);cases e;(have hx:=fun(W:World) (hW:Below w.heap.size w W)=>(hcell _ hW (kk*3+1) (by omega)).trans (eZ vU 1 (by omega)));simp only[KJ,aM,gB,gC,←Nat.add_assoc,Nat.add_zero]at hx;have hx':=Lh hx;(have k0:(0:Int)≤(kk:Int):=by omega);(have k1:(kk:Int)<(ns.length:Int):=by omega);have QA:=xP.out m (gG vU);have PL:=Lh BG;by_cases hmd:m.file= -1
   ·(have hmb:(m.file != -1)=false:=by rw[hmd];rfl);(have hz:Hid (LE=bT ns p r'.length):=by rw[hf1]at nJ;simp only at nJ;rw[if_neg (by omega)]at nJ;exact nJ);clear hf1 vU BG hf7 hx hcell QA hkl hmd nJ;go_wp2_with(go_at_call 150;refine nX.out.mono ?_;rintro e w3 ⟨rfl,hb3⟩;rw[hYd.out,PL.out];(have bG:=hS'.out.pure hb3);(have y0:=bG.bC 1 rfl 0);(have y1:=bG.bC 1 rfl 1);simp only[gA,gB,gC]at y0 y1;(have y2:=hx'.out _ bG.below);replace bG:=Lh bG;clear hb3);go_roundw
    case rel=>exact⟨_,i+1,r',by omega,rfl,by go_num,Or.inr ⟨by omega,hYd.out▸an5.out⟩,hz,as3.out,bG.out⟩
    case measure=>(simp[intOf];omega)
   (have hmb:(m.file != -1)=true:=by simpa using hmd);(have hz:Hid (LE=22):=by rw[hf1]at nJ;simp only at nJ;rw[if_pos (by omega)]at nJ;exact nJ);clear hf1 vU BG hf7 hx hcell QA hkl hmd nJ;go_wp2_with(go_at_call 150;refine nX.out.mono ?_;rintro e w3 ⟨rfl,hb3⟩;rw[hYd.out,PL.out];(have bG:=hS'.out.pure hb3);(have y0:=bG.bC 1 rfl 0);(have y1:=bG.bC 1 rfl 1);simp only[gA,gB,gC]at y0 y1;(have y2:=hx'.out _ bG.below);replace bG:=Lh bG;clear hb3)
   go_ret2
   exact⟨by rw[←agZ.out,hz.out];rfl,bG.out.below⟩
  (have c9:(0:Int)<(i:Int):=by omega);have nX:=Lh (yB.out _ hS'.out.below (x++⟨#[47]⟩++s));obtain⟨Y,hY⟩:∃Y,Y=(x++⟨#[47]⟩++s).data.toList:=⟨_,rfl⟩;have hYd:=Lh hY.symm;(have hpy:p=Y++47::r':=by rw[hY,Go.Joins.data_append,Go.Joins.data_append,hpx,h2];(show _=(x.data.toList++[47]++eQ s)++47::r');simp);(have hxx:x.size≤100:=by have e1:=Lib.size_eq x;(have e2:x.data.toList.length≤p.length:=by rw[hpx];simp);omega);(have hxy:(x++⟨#[47]⟩:ByteArray).size≤101:=by rw[ByteArray.size_append];have:(⟨#[47]⟩:ByteArray).size=1:=rfl;omega);(have ag0:LE=bT ns p (r'.length+1):=by rw[hlr.out,h2];exact uC ns p (eQ s) (x.data.toList++[47]) (47::r') (by rw[hpx,h2];simp) hn47);clear hpx h2 hn47 hxr hlr hsr hY;have an5:=Lh hpy;have nJ:LE=match iH ns Y with
    |none=>21
    |some n=>if 0≤n.file then 22 else bT ns p r'.length:=by
   rw[ag0];exact qY ns hpy
  clear hpy ag0;rcases qD ns Y with⟨hf1,BG⟩|⟨kk,m,hf1,vU,BG,hf7⟩
  ·(have hz:Hid (LE=21):=by rw[hf1]at nJ;exact nJ);have PL:=Lh BG;clear hf1 BG nJ;go_wp2_with(go_at_call 150;refine nX.out.mono ?_;rintro e w3 ⟨rfl,hb3⟩;rw[hYd.out,PL.out];(have bG:=hS'.out.pure hb3);(have y0:=bG.bC 1 rfl 0);(have y1:=bG.bC 1 rfl 1);simp only[gA,gB,gC]at y0 y1;replace bG:=Lh bG;clear hb3)
   go_ret2
   exact⟨by rw[←agZ.out,hz.out];rfl,bG.out.below⟩
  have hkl:=(gF.1 vU).1;obtain⟨g,o,c,e,_,_,_,hcell⟩:=EW.out.place (by omega) (by decide);cases e;(have hx:=fun(W:World) (hW:Below w.heap.size w W)=>(hcell _ hW (kk*3+1) (by omega)).trans (eZ vU 1 (by omega)));simp only[KJ,aM,gB,gC,←Nat.add_assoc,Nat.add_zero]at hx;have hx':=Lh hx;(have k0:(0:Int)≤(kk:Int):=by omega);(have k1:(kk:Int)<(ns.length:Int):=by omega);have QA:=xP.out m (gG vU);have PL:=Lh BG;by_cases hmd:m.file= -1
  ·(have hmb:(m.file != -1)=false:=by rw[hmd];rfl);(have hz:Hid (LE=bT ns p r'.length):=by rw[hf1]at nJ;simp only at nJ;rw[if_neg (by omega)]at nJ;exact nJ);clear hf1 vU BG hf7 hx hcell QA hkl hmd nJ;go_wp2_with(go_at_call 150;refine nX.out.mono ?_;rintro e w3 ⟨rfl,hb3⟩;rw[hYd.out,PL.out];(have bG:=hS'.out.pure hb3);(have y0:=bG.bC 1 rfl 0);(have y1:=bG.bC 1 rfl 1);simp only[gA,gB,gC]at y0 y1;(have y2:=hx'.out _ bG.below);replace bG:=Lh bG;clear hb3);go_roundw
   case rel=>exact⟨_,i+1,r',by omega,rfl,by go_num,Or.inr ⟨by omega,hYd.out▸an5.out⟩,hz,as3.out,bG.out⟩
   case measure=>(simp[intOf];omega)
  (have hmb:(m.file != -1)=true:=by simpa using hmd);(have hz:Hid (LE=22):=by rw[hf1]at nJ;simp only at nJ;rw[if_pos (by omega)]at nJ;exact nJ);clear hf1 vU BG hf7 hx hcell QA hkl hmd nJ;go_wp2_with(go_at_call 150;refine nX.out.mono ?_;rintro e w3 ⟨rfl,hb3⟩;rw[hYd.out,PL.out];(have bG:=hS'.out.pure hb3);(have y0:=bG.bC 1 rfl 0);(have y1:=bG.bC 1 rfl 1);simp only[gA,gB,gC]at y0 y1;(have y2:=hx'.out _ bG.below);replace bG:=Lh bG;clear hb3)
  go_ret2
  exact⟨by rw[←agZ.out,hz.out];rfl,bG.out.below⟩
 have c2:¬(i:Int)<(L.length:Int)-1:=by omega
 have hnil:(L.drop (i+1)).map eQ=[]:=by rw[List.drop_eq_nil_of_le (by omega)];rfl
 have hz:Hid (LE=0):=by
  rcases hnx with⟨_,h⟩|⟨_,h,_⟩
  ·(have h4:(47:UInt8)∉r:=by rw[h];exact hn47);(show _=_);rw[hlr.out];rcases hxr.out with⟨_,_,e⟩|⟨_,e⟩
   ·rw[e]at h4 ⊢;exact xI ns (a:=[]) rfl h4
   exact xI ns (a:=x.data.toList++[47]) (by simpa using e) h4
  exact absurd hnil h
 have hfp:=yB.out _ hS.below ⟨p.toArray⟩;have nX:=Lh hfp;have hS':=Lh hS;clear hS hfp hsp hnx hn47 hnil hs;go_wp2_with(go_at_call 150;refine nX.out.mono ?_;rintro e w3 ⟨rfl,hb3⟩;(have bG:=hS'.out.pure hb3);replace bG:=Lh bG;clear hb3)
 go_ret2
 exact⟨by rw[←agZ.out,hz.out];rfl,bG.out.below⟩
theorem K5 {w:World} {nv fv:Value} {ns:List TN} {fs:List TF} {vs:List Value} (h:dS w nv fv ns fs vs) (hm:nI ns fs) (hfi:∀n∈ns, -1≤n.file) {p:List UInt8} (hv:aP p=true):
  Calls Tryz.prog 112 #[.agg #[nv,fv],aM p] w fun e w'=>e= .returned (.int .i64 (dN ns p))∧Below w.heap.size w w':=by
 have hS0:=(Sep.nil w).bN 32 #[nv,fv];have hlk:=UI (h.below hS0.below) hm hfi hv;have QC:=h.nodes;obtain⟨A1,sQ,rfl,hm1⟩:=h.nodes.shape;obtain⟨A2,rG,rfl,hm2⟩:=h.files.shape;have gZ:=Lh hS0;have hh:dN ns p=if bT ns p p.length=0 then(if 0≤qW ns p then 23 else 0)else bT ns p p.length:=by
  unfold dN ET;rcases qD ns p with⟨h1,h2⟩|⟨k,m,h1,_,h2,_⟩
  ·rw[h1,h2];rfl
  rw[h1,h2,if_pos (show(0:Int)≤(k:Int)by omega)];rfl
 obtain⟨AE,hAE⟩:∃x,dN ns p=x:=⟨_,rfl⟩;rw[hAE]at hh ⊢;clear hAE;generalize bT ns p p.length=LE at hlk hh;generalize qW ns p=k at hlk hh;unfold aM at*;by_cases hz:LE=0
 ·subst hz;rw[if_pos rfl]at hlk hh;have akM:=Lh hlk;have hh':=Lh hh;clear hlk hh hS0 h;by_cases hk:0≤k
  ·go_enter Tryz.func112,Tryz.ntmps112;go_wp2_with(go_at_call 94;refine akM.out.mono ?_;rintro e w1 ⟨rfl,hb1⟩;(have hS1:=gZ.out.pure hb1);(have y0:=hS1.bC 0 rfl 0);(have y1:=hS1.bC 0 rfl 1);simp only[gA,gB,gC]at y0 y1;replace hS1:=Lh hS1;clear hb1);go_ret;exact⟨by rw[hh'.out,if_pos hk];rfl,hS1.out.below⟩
  go_enter Tryz.func112,Tryz.ntmps112;go_wp2_with(go_at_call 94;refine akM.out.mono ?_;rintro e w1 ⟨rfl,hb1⟩;(have hS1:=gZ.out.pure hb1);(have y0:=hS1.bC 0 rfl 0);(have y1:=hS1.bC 0 rfl 1);simp only[gA,gB,gC]at y0 y1;replace hS1:=Lh hS1;clear hb1);go_ret;exact⟨by rw[hh'.out,if_neg (by omega)];rfl,hS1.out.below⟩
 rw[if_neg hz]at hlk hh;have hzb:(LE !=0)=true:=by simpa using hz
 have akM:=Lh hlk;have hh':=Lh hh;clear hlk hh hS0 hz h;go_enter Tryz.func112,Tryz.ntmps112;go_wp2_with(go_at_call 94;refine akM.out.mono ?_;rintro e w1 ⟨rfl,hb1⟩;(have hS1:=gZ.out.pure hb1);(have y0:=hS1.bC 0 rfl 0);(have y1:=hS1.bC 0 rfl 1);simp only[gA,gB,gC]at y0 y1;replace hS1:=Lh hS1;clear hb1);go_ret;exact⟨by rw[hh'.out];rfl,hS1.out.below⟩
end Go.Proofs.YteihmbaimbogaaaGreat
namespace Go.Proofs.YteihmbaimbogaaaGreat
set_option linter.unusedVariables false
set_option linter.unusedSimpArgs false
theorem yZ :∀(k:Nat) {p q:List UInt8},p.length≤k→splitB p=splitB q→p=q
 |k,p,q,hk,h=>by
  rcases jI p with⟨_,_,h1⟩|⟨a,b,e,_,_,h1⟩<;>rcases jI q with⟨_,_,h2⟩|⟨c,d,e2,_,_,h2⟩
  ·rw[h1,h2]at h;exact(List.cons.inj h).1
  ·rw[h1,h2]at h;have:=congrArg List.length h;have h5:=fQ c;(have h6:(splitB c).length≠0:=fun e=>h5 (List.eq_nil_of_length_eq_zero e));rw[List.length_append,List.length_singleton,List.length_singleton]at this;omega
  ·rw[h1,h2]at h;have:=congrArg List.length h;have h5:=fQ a;(have h6:(splitB a).length≠0:=fun e=>h5 (List.eq_nil_of_length_eq_zero e));rw[List.length_append,List.length_singleton,List.length_singleton]at this;omega
  rw[h1,h2]at h;obtain⟨h3,h4⟩:=List.append_inj' h rfl;cases k with
  |zero=>rw[e]at hk;simp at hk
  |succ k=>have:=yZ k (p:=a) (q:=c) (by rw[e]at hk;simp at hk;omega) h3;rw[e,e2,this,(List.cons.inj h4).1]
theorem ab9 {n:TN} {p:List UInt8}:bK n=splitB p↔n.path=p:=
 ⟨fun h=>yZ _ (Nat.le_refl _) h,fun h=>by unfold bK;rw[h]⟩
theorem NF (ns:List TN) (p:List UInt8):gW ns (splitB p)=iH ns p:=by unfold gW iH;congr 1;funext n;rw[Bool.eq_iff_iff,beq_iff_eq,beq_iff_eq];exact ab9
theorem xJ (Ns:List TN) (p:List UInt8) (k:Nat):bT Ns p (k+1)=if p[p.length-(k+1)]? =some 47 then(match iH Ns (p.take (p.length-(k+1)))with
 |none=>21
 |some n=>if 0≤n.file then 22 else bT Ns p k)else bT Ns p k:=rfl
theorem XG (ns:List TN) (k:Nat) (K:Key):kC ns (k+1) K=(kC ns k K.dropLast).bind (stepT ns K):=rfl
theorem UJ (Ns:List TN) {p a b:List UInt8} (e:p=a++47::b):∀k,k≤a.length→bT Ns p (k+(b.length+1))=if bT Ns a k=0 then bT Ns p (b.length+1)else bT Ns a k
 |0,_=>by rw[Nat.zero_add];(show _=if(0:Int)=0 then _ else _);rw[if_pos rfl]
 |k+1,hk=>by
  (have e1:k+1+(b.length+1)=k+(b.length+1)+1:=by omega);rw[e1];(have hpl:p.length=a.length+(b.length+1):=by rw[e];simp);(have e2:p.length-(k+(b.length+1)+1)=a.length-(k+1):=by omega);have ih:=UJ Ns e k (by omega);rw[xJ,xJ Ns a,e2];(have e3:p[a.length-(k+1)]? =a[a.length-(k+1)]? :=by rw[e,List.getElem?_append_left (by omega)]);(have e4:p.take (a.length-(k+1))=a.take (a.length-(k+1)):=by rw[e,List.take_append_of_le_length (by omega)]);rw[e3,e4];by_cases h:a[a.length-(k+1)]? =some 47
  ·rw[if_pos h,if_pos h];cases hf:iH Ns (a.take (a.length-(k+1)))with
   |none=>simp
   |some n=>
    simp only;by_cases h0:0≤n.file
    ·rw[if_pos h0,if_pos h0];simp
    rw[if_neg h0,if_neg h0,ih]
  rw[if_neg h,if_neg h,ih]
def upT (ns:List TN) (K:Key):Int:=match kC ns K.length K with
 | .error e=>e
 | .ok c=>if gU c=true then 0 else 22
theorem Y7 {ns:List TN} (hf:∀n∈ns, -1≤n.file):∀(k:Nat) (p:List UInt8),p.length≤k→bT ns p p.length=upT ns (splitB p).dropLast
 |k,p,hk=>by
  rcases jI p with⟨hs,_,h1⟩|⟨a,b,e,hb,_,h1⟩
  ·rw[h1];exact xI ns (a:=[]) (r:=p) rfl hs
  cases k with
  |zero=>rw[e]at hk;simp at hk
  |succ k=>
   have ih:=Y7 hf k a (by rw[e]at hk;simp at hk;omega);(have hpl:p.length=a.length+(b.length+1):=by rw[e];simp);have h2:=UJ ns e a.length (Nat.le_refl _);rw[qY ns e,xI ns (a:=a++[47]) (r:=b) (by rw[e];simp) hb]at h2;rw[hpl,h2,h1,List.dropLast_concat,ih];obtain⟨K,x,hK⟩:∃K x,splitB a=K++[x]:=⟨_,_,pX a⟩;(have hl:(splitB a).length=K.length+1:=by rw[hK];simp);have e3:upT ns (splitB a)=match kC ns K.length K with
     | .error e=>e
     | .ok c=>if gU c=true then(match gW ns (splitB a)with|none=>21|some n=>if n.file= -1 then 0 else 22)else 22:=by
    unfold upT;rw[hl,XG];(have e4:(splitB a).dropLast=K:=by rw[hK,List.dropLast_concat]);rw[e4];cases ht:kC ns K.length K with
    |error e=>rfl
    |ok c=>
     (show(match stepT ns (splitB a) c with| .error e=>e| .ok c=>if gU c=true then(0:Int)else 22)=_);unfold stepT;by_cases hc:gU c=true
     ·simp only[hc,if_true];cases hn:gW ns (splitB a)with
      |none=>rfl
      |some n=>simp only[gU,decide_eq_true_eq]
     simp only[hc,if_neg,Bool.false_eq_true,not_false_eq_true]
   rw[e3];(have e4:(splitB a).dropLast=K:=by rw[hK,List.dropLast_concat]);rw[e4];unfold upT;cases ht:kC ns K.length K with
   |error e=>simp only;rw[if_neg];rcases xD _ _ ht with rfl|rfl<;>decide
   |ok c=>
    simp only;by_cases hc:gU c=true
    ·rw[if_pos hc,if_pos rfl,if_pos hc,NF];cases hn:iH ns a with
     |none=>rfl
     |some n=>
      have hm:=hf n (List.mem_of_find?_eq_some hn);simp only;by_cases h0:0≤n.file
      ·rw[if_pos h0,if_neg (by omega)]
      rw[if_neg h0,if_pos (by omega)]
    rw[if_neg hc,if_neg (by decide),if_neg hc]
section
variable {ns:List TN} (hf:∀n∈ns, -1≤n.file) (p:List UInt8)
include hf
theorem akN :KI ns (splitB p)=if bT ns p p.length=0 then .ok (iH ns p)else .error (bT ns p p.length):=by
 rw[Y7 hf _ p (Nat.le_refl _),←NF];unfold KI upT;cases ht:kC ns (splitB p).dropLast.length (splitB p).dropLast with
 |error e=>
  simp only;rw[if_neg]
  ·rfl
  rcases xD _ _ ht with rfl|rfl<;>decide
 |ok c=>
  (show(if gU c=true then _ else _)=_);by_cases hc:gU c=true
  ·simp only[hc,if_true]
  simp only[hc,if_neg,Bool.false_eq_true,not_false_eq_true];rfl
end
theorem ag1 (ns:List TN) (hv:∀n∈ns,aP n.path=true) {p:List UInt8} (hp:p≠[]):gI ns (splitB p)=jT ns p:=by
 unfold gI fU jT;rw[←List.countP_eq_length_filter];apply List.countP_congr;intro n hn;rw[beq_iff_eq,decide_eq_true_eq];unfold bK dE;rw[if_pos (hv n hn)];rcases jI n.path with⟨_,h2,h1⟩|⟨a,b,e,_,h2,h1⟩
 ·rw[h1,h2];constructor
  ·intro h;exact absurd h.symm (fQ p)
  intro h;exact absurd h.symm hp
 rw[h1,List.dropLast_concat,h2];have e5:n.path.take a.length=a:=by rw[e,List.take_left'];rfl
 rw[e5];exact⟨fun h=>yZ _ (Nat.le_refl _) h,fun h=>by rw[h]⟩
theorem ag2 (ns:List TN) (hv:∀n∈ns,aP n.path=true):gI ns []=jT ns []:=by
 unfold gI fU jT;rw[←List.countP_eq_length_filter];apply List.countP_congr;intro n hn;rw[beq_iff_eq,decide_eq_true_eq];unfold bK dE;rw[if_pos (hv n hn)];rcases jI n.path with⟨_,h2,h1⟩|⟨a,b,e,_,h2,h1⟩
 ·rw[h1,h2];exact⟨fun _=>rfl,fun _=>rfl⟩
 rw[h1,List.dropLast_concat,h2];have e5:n.path.take a.length=a:=by rw[e,List.take_left'];rfl
 rw[e5];constructor
 ·intro h;exact absurd h (fQ a)
 intro h;have hv2:=hv n hn;rw[e,h]at hv2;exact absurd hv2 (by simp[aP,yN])
end Go.Proofs.YteihmbaimbogaaaGreat
namespace Go.Proofs.YteihmbaimbogaaaGreat
open Go.RowKit
set_option linter.unusedVariables false
def JV (op:Int) (p tz:List UInt8) (mode ref:Int):Value:=.agg #[.int .i64 op,aM p,aM tz,.int .i64 mode,.int .i64 ref]
def K6 (op:Int) (p tz:List UInt8) (mode ref:Int):Array Value:=#[.int .i64 op,aM p,aM tz,.int .i64 mode,.int .i64 ref]
def wC (rm rt:Bool) (op:Int) (p tz:List UInt8) (mode ref:Int) (cs:List Value):Int:=
 if rm=true∧(mode<0∨511<mode)then 28
 else if p=[]∨(rt=true∧tz=[])then 26
 else if aP p=false∨(rt=true∧aP tz=false)then 20
 else if op=6 then(if ref<0∨(cs.length:Int)≤ref then 32 else if 8192<BD (cs.getD ref.toNat (.slice none 0 0))then 2 else 0)
 else 0
def mO (w:World) (sv:Value) (cs:List Value):Prop:=Rd w 1 sv cs.length cs∧∀u∈cs,∃n bs,lK w u n bs∧n≤9223372036854775807
theorem mO.below {w w':World} {sv:Value} {cs:List Value} (h:mO w sv cs) (hb:Below w.heap.size w w'):mO w' sv cs:=
 ⟨h.1.below hb,fun u hu=>by obtain⟨n,bs,h1,h2⟩:=h.2 u hu;exact⟨n,bs,h1.below hb,h2⟩⟩
theorem mO.at_ {w:World} {sv:Value} {cs:List Value} (h:mO w sv cs) {k:Nat} (hk:k<cs.length):∃A n c,cs[k]? =some (.slice A n c)∧n≤9223372036854775807:=by obtain⟨n,bs,h1,h2⟩:=h.2 cs[k] (List.getElem_mem hk);obtain⟨A,c,e,_⟩:=h1.shape;exact⟨A,n,c,by rw[gE hk,e],h2⟩
section
variable {w0 w:World} {W bn bf bk next:Nat} {Ns:List TN} {Lk:List (Lit×Value)} {R:List aU}
theorem acA {rm rt:Bool} {op:Int} {p tz:List UInt8} {mode ref:Int} {cs:List Value} (h:wC rm rt op p tz mode ref cs=0):
  aP p=true∧(rt=true→aP tz=true)∧(rm=true→0≤mode∧mode≤511)∧(op=6→0≤ref∧ref<(cs.length:Int)∧BD (cs.getD ref.toNat (.slice none 0 0))≤8192):=by
 unfold wC at h;split at h
 ·cases h
 rename_i h1;split at h
 ·cases h
 split at h
 ·cases h
 rename_i h3;refine⟨?_,fun e=>?_,fun e=>?_,fun e=>?_⟩
 ·cases hv:aP p with
  |true=>rfl
  |false=>exact absurd (Or.inl hv) h3
 ·cases hv:aP tz with
  |true=>rfl
  |false=>exact absurd (Or.inr ⟨e,hv⟩) h3
 ·refine⟨?_,?_⟩
  ·rcases Int.lt_or_le mode 0 with h5|h5
   ·exact absurd ⟨e,Or.inl h5⟩ h1
   exact h5
  rcases Int.lt_or_le 511 mode with h5|h5
  ·exact absurd ⟨e,Or.inr h5⟩ h1
  exact h5
 rw[if_pos e]at h;split at h
 ·cases h
 rename_i h5;split at h
 ·cases h
 rename_i h6;omega
end
def aU.keep (P:World→Prop):aU:=
 ⟨fun w F=>F.Nodup∧(∀b,b∈F→b<w.heap.size)∧∀w',(∀b,b∈F→w'.heap[b]? =w.heap[b]?)→P w',
  fun w w' F ⟨h1,h2,h3⟩ hk=>⟨h1,fun b hb=>by have h4:=hk b hb;rw[Array.getElem?_eq_getElem (h2 b hb)]at h4;exact(Array.getElem?_eq_some_iff.1 h4).1,fun w'' h4=>h3 w'' fun b hb=>(h4 b hb).trans (hk b hb)⟩,
  fun w F ⟨h1,h2,_⟩=>⟨h1,h2⟩⟩
section
variable {w0 w w':World} {As X Y:List aU}
theorem jA.sep {Fs:List (List Nat)} (h:jA w As Fs) (hn:Fs.flatten.Nodup):Sep {w with heap:=#[]} w As:=
 ⟨⟨rfl,rfl,rfl,by simp,fun j hj=>by simp at hj⟩,Fs,h,hn,fun b hb=>by simp⟩
theorem Sep.keep {P:World→Prop} (h:Sep w0 w (X++Y)) (hP:∀w0' w',Sep w0' w' X→P w'):Sep w0 w (aU.keep P::Y):=h.same fun Fs hf hn=>by obtain⟨Gs,Hs,rfl,h6,h7⟩:=jA.append.1 hf;rw[List.flatten_append]at hn;refine⟨Gs.flatten::Hs,⟨Gs.flatten,Hs,rfl,⟨(List.nodup_append.1 hn).1,fun b hb=>jA.lt h6 b hb,fun w' hw'=>hP _ w' ((jA.loc h6 hw').sep (List.nodup_append.1 hn).1)⟩,h7⟩,by simpa using hn,fun b hb=>by simpa using hb⟩
theorem Sep.kept {P:World→Prop} (i:Nat) (h:Sep w0 w As) (hi:As[i]? =some (aU.keep P)):P w:=by obtain⟨F,⟨_,_,h3⟩,_⟩:=h.get i hi;exact h3 w fun _ _=>rfl
end
theorem XH :(Tryz.prog.info? 5).map (fun i=>(i.zero,i.size,i.bytes))=some (some (.int .u8 0),1,1):=by kernel_rfl
set_option linter.unusedSimpArgs false
theorem JW :(Tryz.prog.info? 110).map (fun i=>(i.zero,i.size,i.bytes))=some (some (.agg #[.string ⟨#[]⟩,.int .i64 0,.int .i64 0]),3,32):=by kernel_rfl
theorem JX :(Tryz.prog.info? 112).map (fun i=>(i.zero,i.size,i.bytes))=some (some (.agg #[.int .i64 0,.slice none 0 0]),2,32):=by kernel_rfl
theorem K7 {w:World} {b:Nat} {x y:Value} (h0:w.cell? ⟨b,0,none⟩=some x) (h1:w.cell? ⟨b,1,none⟩=some y):(loadVar 32 ⟨b,0,none⟩).run Tryz.prog w= .ok (.agg #[x,y]) w:=by simp[loadVar,go_sem,h0,h1]
theorem dV {fn:Func} {p u:Tmp} (h:fn.results=#[.cell p 32,.tmp u]) {tmps:Array Value} {w:World} {b:Nat} {x y:Value} (hp:tmps.getD p undef= .pointer (some ⟨b,0,none⟩)) (h0:w.cell? ⟨b,0,none⟩=some x) (h1:w.cell? ⟨b,1,none⟩=some y):
  (results fn tmps).run Tryz.prog w= .ok (.tuple #[.agg #[x,y],tmps.getD u undef]) w:=by
 have hp2:tmps[p]?.getD undef= .pointer (some ⟨b,0,none⟩):=by simpa using hp
 simp only[results,h];simp[Result.andThen,hp2,asAddr,K7 h0 h1]
theorem K8 {α β:Type} (E:α→β) {l:List α} {i:Nat} {p:α} (h:l[i]? =some p):(l.take (i+1)).map E=(l.take i).map E++[E p]:=by rw[List.take_add_one,h,List.map_append];rfl
end Go.Proofs.YteihmbaimbogaaaGreat
namespace Go.Proofs.YteihmbaimbogaaaGreat
open Go.RowKit
set_option linter.unusedVariables false
theorem lD {α:Type} {P:List α→Prop} (h0:P []) (h1:∀xs x,P xs→P (xs++[x])) (xs:List α):P xs:=by
 rw[←List.reverse_reverse xs]
 induction xs.reverse with
 |nil=>exact h0
 |cons a l ih=>rw[List.reverse_cons];exact h1 _ _ ih
theorem akO {ids:List Int} {a:Int} (h:a∈ids) (l:List Int):(ids++l).idxOf a=ids.idxOf a:=by rw[List.idxOf_append,if_pos h]
def dU (xs:List TN):List Int:=xs.foldl (fun ids n=>if n.file<0 then ids else if n.file∈ids then ids else ids++[n.file]) []
theorem kP (xs:List TN) (n:TN):dU (xs++[n])=if n.file<0 then dU xs else if n.file∈dU xs then dU xs else dU xs++[n.file]:=by unfold dU;rw[List.foldl_append];rfl
def eB (ids:List Int) (n:TN):TN:=if n.file<0 then n else⟨n.path,(ids.idxOf n.file:Nat),n.mode⟩
theorem wD (xs:List TN):∀n∈xs,¬n.file<0→n.file∈dU xs:=by
 refine lD (P:=fun xs=>∀n∈xs,¬n.file<0→n.file∈dU xs) ?_ ?_ xs
 ·intro n hn;cases hn
 intro xs m ih;intro n hn hf;rw[kP];rcases List.mem_append.1 hn with hn|hn
 ·have:=ih n hn hf;split
  ·exact this
  split
  ·exact this
  exact List.mem_append_left _ this
 have e:n=m:=by simpa using hn
 subst e;rw[if_neg hf];split
 ·assumption
 simp
theorem xK (xs:List TN):∀id∈dU xs,∃n∈xs,n.file=id∧¬n.file<0:=by
 refine lD (P:=fun xs=>∀id∈dU xs,∃n∈xs,n.file=id∧¬n.file<0) ?_ ?_ xs
 ·intro id h;cases h
 intro xs m ih;intro id h;rw[kP]at h;have key:id∈dU xs→∃n∈xs++[m],n.file=id∧¬n.file<0:=fun h=>by obtain⟨n,h1,h2⟩:=ih id h;exact⟨n,List.mem_append_left _ h1,h2⟩
 split at h
 ·exact key h
 split at h
 ·exact key h
 rcases List.mem_append.1 h with h|h
 ·exact key h
 have e:id=m.file:=by simpa using h
 subst e;exact⟨m,by simp,rfl,by assumption⟩
theorem BH (xs:List TN):(dU xs).length≤xs.length:=by
 refine lD (P:=fun xs=>(dU xs).length≤xs.length) ?_ ?_ xs
 ·exact Nat.le_refl _
 intro xs m ih;rw[kP,List.length_append,List.length_singleton];split
 ·omega
 split
 ·omega
 rw[List.length_append,List.length_singleton];omega
theorem acB {xs:List TN} {ids:List Int} (h:∀n∈xs,¬n.file<0→n.file∈ids) (id:Int):xs.map (eB (ids++[id]))=xs.map (eB ids):=by
 apply List.map_congr_left;intro n hn;unfold eB;split
 ·rfl
 rename_i hf;rw[akO (h n hn hf)]
theorem BI {fs:List TF} {vs:List Value} (h:vs.length=fs.length) (f:TF) (u:Value):jC (fs++[f]) (vs++[u])=jC fs vs++[.int .i64 f.mode,u]:=by unfold jC;rw[List.zip_append h.symm,List.flatMap_append];rfl
theorem PM (ns:List TN) (n:TN):aZ (ns++[n])=aZ ns++[aM n.path,.int .i64 n.file,.int .i64 n.mode]:=by unfold aZ;rw[List.flatMap_append];simp[KJ]
def JY (u:Value) (f:TF):aU:=.keep fun w=>lK w u f.size f.bs
theorem akP {w0 w:World} {ns:List TN} {fs:List TF} {vs:List Value} {nv fv:Value} (hl:vs.length=fs.length) (h:Sep w0 w (.sl 112 2 fv fs.length (jC fs vs):: .sl 110 3 nv ns.length (aZ ns)::List.zipWith JY vs fs)):dS w nv fv ns fs vs:=
 ⟨hl,h.rd 1 rfl,h.rd 0 rfl,fun k u f hu hf=>h.kept (P:=fun w=>lK w u f.size f.bs) (k+2) (by(show(List.zipWith _ vs fs)[k]? =_);rw[List.getElem?_zipWith,hu,hf];rfl)⟩
end Go.Proofs.YteihmbaimbogaaaGreat
