/- FxE, FxL, FxF, FxG, FvV, FvW, FvX, FxH, FxN, laid together. -/
import Derived.Test.YteihmbaimbogaaaGreatJ3
import Derived.Test.YteihmbaimbogaaaGreatJ46
import Derived.Lib.SlBytesConst
namespace Go.Proofs.YteihmbaimbogaaaGreat
open Go.RowKit
set_option linter.unusedVariables false
set_option linter.unusedSimpArgs false
def lsX (ns:List TN) (path:List UInt8):Int:=if path=[]then 0 else if plainE path=0 then(match presT ns (splitB path)with| .error e=>e| .ok n=>if n.file= -1 then 0 else 22)else plainE path
def lsK (path:List UInt8):Key:=if path=[]then []else splitB path
def lsN (ns:List TN) (path:List UInt8):List (List UInt8):=if lsX ns path=0 then(kidsN ns (lsK path)).map fun n=>(keyN n).getLastD []else []
section
variable {w0 w:World} {R:List Asn} {f q p:Nat} {S:VS} {ns:List TN} {fs:List FT} {nb names:Nat}
theorem presT_err {K:Key} {e:Int} (h:presT ns K= .error e):e≠0:=by
 unfold presT at h;cases ha:atT ns K with
 |error k=>rw[ha]at h;cases h;have:=atT_err ha;omega
 |ok y=>
  rw[ha]at h;cases y with
  |none=>cases h;decide
  |some n=>cases h
theorem Vt.list {g:LT} {dn:Key→Nat} {φ:Int→Nat} (h:Vt S ns fs g dn φ) (path:List UInt8):listX S path=lsX ns path∧(listN S path).Perm (lsN ns path)∧(listN S path).Pairwise fun x y=>x≤y:=by
 have hsort:(listN S path).Pairwise fun x y=>x≤y:=by
  unfold listN;split
  ·exact sortS_le _
  exact List.Pairwise.nil
 have key:∀K,IsDir ns K→(sortS ((dirL S.cur S.data (inoP S.cur (dn K))).map (·.1))).Perm ((kidsN ns K).map fun n=>(keyN n).getLastD []):=fun K hK=>by obtain⟨hd1,hd2⟩:=h.rep.dirI hK;rw[h.vol.ph.ents _ hd1 hd2];refine(sortS_perm _).trans ?_;have h2:=(h.rep.ents K hK).map (·.1);rw[List.map_map]at h2;exact h2
 by_cases e0:path=[]
 ·have hk:=h.vol.rootI;(have hX:listX S path=0:=by unfold listX;rw[if_pos e0,if_pos hk]);(have hX2:lsX ns path=0:=by unfold lsX;rw[if_pos e0]);refine⟨hX.trans hX2.symm,?_,hsort⟩;have hk0:=key [] (.inl rfl);rw[h.rep.root]at hk0;unfold listN listI lsN lsK;rw[if_pos hX,if_pos e0,if_pos hX2,if_pos e0];exact hk0
 by_cases hE:plainE path=0
 ·have hsm:=h.something path;cases ha:presT ns (splitB path)with
  |error e=>rw[ha]at hsm;simp only at hsm;(have hX:listX S path=e:=by unfold listX;rw[if_neg e0,if_pos hE,hsm]);(have hX2:lsX ns path=e:=by unfold lsX;rw[if_neg e0,if_pos hE,ha]);have hne:=presT_err ha;refine⟨hX.trans hX2.symm,?_,hsort⟩;unfold listN lsN;rw[hX,hX2,if_neg hne,if_neg hne]
  |ok n=>
   rw[ha]at hsm;simp only at hsm;have ha2:=presT_ok ha;obtain⟨_,hno,_⟩:=atT_dir (S:=S) h.rep ha2;have hnm:=nodeK_some hno.symm;have hlk:=h.look_is ha2;have hkd:=h.kindF hnm.1;by_cases hf:n.file= -1
   ·(have hX:listX S path=0:=by unfold listX;rw[if_neg e0,if_pos hE,hsm,hlk];simp only[Int.toNat_natCast];rw[if_pos (hkd.2 hf)]);(have hX2:lsX ns path=0:=by unfold lsX;rw[if_neg e0,if_pos hE,ha];simp only;rw[if_pos hf]);refine⟨hX.trans hX2.symm,?_,hsort⟩;have hk0:=key (splitB path) (.inr ⟨n,hnm.1,hnm.2,hf⟩);unfold listN listI lsN lsK;rw[if_pos hX,if_neg e0,if_pos hX2,if_neg e0,hlk];simp only[Int.toNat_natCast];rw[inoD hf,hnm.2];exact hk0
   (have hX:listX S path=22:=by unfold listX;rw[if_neg e0,if_pos hE,hsm,hlk];simp only[Int.toNat_natCast];rw[if_neg (fun e=>hf (hkd.1 e))]);(have hX2:lsX ns path=22:=by unfold lsX;rw[if_neg e0,if_pos hE,ha];simp only;rw[if_neg hf]);refine⟨hX.trans hX2.symm,?_,hsort⟩;unfold listN lsN;rw[hX,hX2,if_neg (by decide),if_neg (by decide)]
 have hX:listX S path=plainE path:=by unfold listX;rw[if_neg e0,if_neg hE]
 have hX2:lsX ns path=plainE path:=by unfold lsX;rw[if_neg e0,if_neg hE]
 refine⟨hX.trans hX2.symm,?_,hsort⟩;unfold listN lsN;rw[hX,hX2,if_neg hE,if_neg hE]
theorem listL {path:List UInt8} (hL:LiveT S ns fs nb names) (hp:path.length≤1048576) (h:Sep w0 w (restR f q p S::R)):
  Calls Tryz.prog 23 #[.pointer (some ⟨f,0,none⟩),strV path] w fun e w'=>∃v l S',e= .returned (.tuple #[v,.int .i64 (lsX ns path)])∧l.Perm (lsN ns path)∧(l.Pairwise fun x y=>x≤y)∧LiveT S' ns fs nb names∧Sep w0 w' (strsR v l::restR f q p S'::R):=by
 obtain⟨g,dn,φ,hV⟩:=hL.vol.vt;obtain⟨h1,h2,h3⟩:=hV.list path;refine(list_any hp hL.off hV.vol.vw hV.vol.rootI h).mono ?_;rintro e w' ⟨v,rfl,hS⟩;rw[h1];exact⟨v,_,S.base,rfl,h2,h3,hL.base,hS⟩
end
end Go.Proofs.YteihmbaimbogaaaGreat
namespace Go.Proofs.YteihmbaimbogaaaGreat
set_option linter.unusedVariables false
set_option linter.unusedSimpArgs false
def pA :List UInt8:=[97]
def pB :List UInt8:=[98]
theorem at_top (ns:List TN) {p:List UInt8} (hk:splitB p=[p]):atT ns (splitB p)= .ok (nodeK ns [p]):=by rw[hk];rfl
theorem put_read {nb names:Nat} {ns:List TN} {fs:List FT} {p bs:List UInt8} (hk:splitB p=[p]) (hv:plainE p=0) (hr:∀n∈ns,n.file≠ -1→n.file.toNat<fs.length) (h:(putX nb names ns fs p bs).e=0):
  rdX (putX nb names ns fs p bs).ns p=0∧rdB (putX nb names ns fs p bs).ns (putX nb names ns fs p bs).fs p=bs:=by
 unfold putX at h ⊢;by_cases h0:putT ns p bs.length=0
 ·rw[if_pos h0]at h ⊢;unfold roomX at h ⊢;simp only at h ⊢;split at h
  ·rename_i hf;rw[if_pos hf];simp only;unfold putT at h0;rw[if_pos hv]at h0;split at h0
   ·cases h0
   rw[at_top ns hk]at h0;(try simp only at h0);have key:∃n,filT (putNs ns fs p) (splitB p)= .ok n∧bytesF (putFs ns fs p bs) n.file=bs:=by
    unfold filT presT;rw[at_top _ hk];unfold putNs putFs;rw[hk];cases hn:nodeK ns [p]with
    |none=>(have e:nodeK (newNs ns fs 2 384 p) [p]=some ⟨p,fs.length,0⟩:=by unfold nodeK newNs at*;rw[List.find?_append,hn];simp[keyN,hk]);simp only[e];(have hne:¬((fs.length:Int)= -1):=by omega);rw[if_neg hne];refine⟨_,rfl,?_⟩;unfold bytesF newFs;simp
    |some n=>rw[hn]at h0;simp only at h0;simp only[hn];(have hf1:¬n.file= -1:=fun e=>by rw[if_pos e]at h0;cases h0);rw[if_neg hf1];refine⟨n,rfl,?_⟩;have:=hr n (nodeK_some hn).1 hf1;unfold bytesF;rw[List.getElem?_set_self this];rfl
   obtain⟨n,h1,h2⟩:=key;unfold rdX rdB;rw[if_pos hv,if_pos hv,h1];exact⟨rfl,h2⟩
  cases h
 rw[if_neg h0]at h;exact absurd h h0
theorem LiveT.inFs {S:VS} {ns:List TN} {fs:List FT} {nb names:Nat} (hL:LiveT S ns fs nb names):∀n∈ns,n.file≠ -1→n.file.toNat<fs.length:=fun n hn hf=>by obtain⟨g,dn,φ,hV⟩:=hL.vol.vt;obtain⟨_,_,_,⟨f,h1,_⟩,_⟩:=hV.rep.file n hn hf;exact(gF.1 h1).1
def firstH :List UInt8:=[102,105,114,115,116]
def secondH :List UInt8:=[115,101,99,111,110,100]
def otherH :List UInt8:=[111,116,104,101,114]
def heldN :List TN:=[⟨[97],0,0⟩,⟨[98],1,0⟩]
def heldF :List FT:=[⟨384,firstH⟩,⟨384,secondH⟩]
set_option maxRecDepth 100000 in
theorem held_put1 :putX 306 64 [] [] pA firstH=⟨0,[⟨[97],0,0⟩],[⟨384,firstH⟩]⟩:=by rfl
set_option maxRecDepth 100000 in
theorem held_put2 :putX 306 64 [⟨[97],0,0⟩] [⟨384,firstH⟩] pB secondH=⟨0,heldN,heldF⟩:=by rfl
set_option maxRecDepth 100000 in
theorem held_read1 :rdX heldN pA=0∧rdB heldN heldF pA=firstH:=⟨rfl,rfl⟩
set_option maxRecDepth 100000 in
theorem held_read2 :rdX heldN pB=0∧rdB heldN heldF pB=secondH:=⟨rfl,rfl⟩
set_option maxRecDepth 100000 in
theorem held_list {l:List (List UInt8)} (h1:l.Perm (lsN heldN [])) (h2:l.Pairwise fun x y=>x≤y):l=[[97],[98]]:=by
 have e:lsN heldN []=[[97],[98]]:=by rfl
 rw[e]at h1;exact h1.eq_of_pairwise (fun a b _ _ h3 h4=>List.le_antisymm h3 h4) h2 (by decide)
open Go.RowKit Go.Shelf
attribute [local go_sem] Oper.semAt_some
end Go.Proofs.YteihmbaimbogaaaGreat
namespace Go.Proofs.YteihmbaimbogaaaGreat
open Go.RowKit
set_option linter.unusedVariables false
set_option linter.unusedSimpArgs false
def U8s (cs:List Value):Prop:=∀(i:Nat) u,cs[i]? =some u→∃z:Int,u= .int .u8 z
theorem U8s.set {cs:List Value} (h:U8s cs) (i:Nat) (z:Int):U8s (cs.set i (.int .u8 z)):=fun k u hu=>by
 rw[List.getElem?_set]at hu;split at hu
 ·split at hu
  ·exact⟨z,(Option.some.inj hu).symm⟩
  cases hu
 exact h k u hu
theorem U8s.byt (bs:List UInt8):U8s (bs.map byt):=fun k u hu=>by rw[List.getElem?_map,Option.map_eq_some_iff]at hu;obtain⟨b,_,rfl⟩:=hu;exact⟨_,rfl⟩
section
variable {w0 w:World} {R:List Asn} {f q p:Nat} {S:VS} {ns:List TN} {fs:List FT} {nb names:Nat}
theorem Sep.obj_new (h:Sep w0 w R) (o:Obj):Sep w0 (w.alloc o) (.obj w.heap.size o::R):=
 h.new (F:=[w.heap.size]) ((Below.refl _ _).alloc (Nat.le_refl _) _) ⟨heap_alloc_new w o,rfl⟩ (by simp)
theorem tells_const {b:Nat} {bs:List UInt8} {fr:Nat×Nat} (hl:bs.length≤maxLen):Tells w0 (.obj b (.cells (bs.map byt).toArray 5 fr)::R) (.slice (some ⟨b,0,none⟩) bs.length bs.length) bs:=fun w' X hS=>by have h1:=hS.objAt X.length (by rw[List.getElem?_append_right (Nat.le_refl _),Nat.sub_self];rfl);refine⟨by simp,_,_,rfl,Nat.le_refl _,hl,fun _=>⟨_,rfl,lt_of_heap h1,fun j u hu=>?_⟩⟩;have:=cell_of_row w' b j _ _ _ h1;rw[Addr.add_lit,Nat.zero_add,this];simpa using hu
theorem put_lit {path bs:List UInt8} (hL:LiveT S ns fs nb names) (hp:path.length≤1048576) (hlen:bs.length≤8192) (h:Sep w0 w (restR f q p S::R)):
  Calls Tryz.prog 21 #[.pointer (some ⟨f,0,none⟩),strV path,.slice (some ⟨w.heap.size,0,none⟩) bs.length bs.length] (w.alloc (.cells (bs.map byt).toArray 5 (bs.length,bs.length+1))) fun e w'=>
   e= .returned (.int .i64 (putX nb names ns fs path bs).e)∧∃S',LiveT S' (putX nb names ns fs path bs).ns (putX nb names ns fs path bs).fs nb names∧Sep w0 w' (restR f q p S'::R):=by
 have hlit:=(h.obj_new (.cells (bs.map byt).toArray 5 (bs.length,bs.length+1))).perm (List.Perm.swap _ _ _)
 refine(putL (path:=path) (bs:=bs) (A:=some ⟨w.heap.size,0,none⟩) (c:=bs.length) hL hp (by omega) (tells_const (by unfold maxLen;omega)) hlit).mono ?_
 rintro e w' ⟨h1,S',h2,h3⟩
 exact⟨h1,S',h2,(h3.perm (List.Perm.swap _ _ _)).drop 1⟩
theorem stock_in {As:Option Addr} {c9:Nat} {cs:List Value} {bss:List (List UInt8)} (hs:StockF w0 (.slice As cs.length c9) cs bss) (kk:Int):StockIn w0 R As cs.length kk (bss.getD kk.toNat []):=by
 intro k hk hkn;subst hk;obtain⟨u,hu⟩:∃u,cs[k]? =some u:=⟨_,gE hkn⟩;obtain⟨b,hb⟩:∃b,bss[k]? =some b:=⟨_,gE (by rw[hs.len];exact hkn)⟩;have e:bss.getD (k:Int).toNat []=b:=by rw[Int.toNat_natCast,gH,hb];rfl
 rw[e];have hby:=hs.bytes k u b hu hb;obtain⟨B,cc,rfl,_⟩:=Rd.shape hby;obtain⟨g,o,ca,e2,_,_,_,hcell⟩:=Rd.placeF hs.rd (by omega) (by decide);simp only[Value.slice.injEq]at e2;obtain⟨rfl,_,rfl⟩:=e2;refine⟨_,B,cc,rfl,fun W Y hW=>?_,Tells.arg (w:=w0) hby⟩;rw[Addr.add_lit];exact(hcell W hW.below k (by omega)).trans hu
theorem stock_len {As:Option Addr} {c9:Nat} {cs:List Value} {bss:List (List UInt8)} (hs:StockF w0 (.slice As cs.length c9) cs bss) (k:Nat):(bss.getD k []).length≤9223372036854775807:=by
 rw[gH];cases hb:bss[k]? with
 |none=>exact Nat.zero_le _
 |some b=>have hk:=(gF.1 hb).1;obtain⟨u,hu⟩:∃u,cs[k]? =some u:=⟨_,gE (by rw[←hs.len];exact hk)⟩;have:=bytesR_len (As:=[]) (w0:=w0) (hs.bytes k u b hu hb);unfold maxLen at this;exact this
set_option maxRecDepth 100000 in
set_option maxHeartbeats 8000000 in
theorem held_any {v sv:Value} {xs:List Stp} {cs:List Value} {bss:List (List UInt8)} (hx:StepsAt w v xs) (hok:∀x∈xs,StpOk w x) (hs:StockF w sv cs bss):
  Calls Tryz.prog 5 #[v,sv] w fun e w'=>e= .returned (.bool true)∧Below w.heap.size w w':=by
 obtain⟨Ax,cx,rfl,hxl⟩:=Rd.shape hx;obtain⟨As,c9,rfl,hsl⟩:=Rd.shape hs.rd;have b1:(xs.length:Int)≤9223372036854775807:=by unfold maxLen at hxl;omega
 have b2:(cs.length:Int)≤9223372036854775807:=by unfold maxLen at hsl;omega
 have hal:=Lh (alive8_any (Sep.nil w));have hmu:Hid (∀W,Sep w W []→Calls Tryz.prog 24 #[.slice Ax xs.length cx,.slice As cs.length c9] W fun e w'=>∃b,e= .returned (.bool b)∧(b=false→xs.length≤80)∧Sep w w' []):=Lh fun W hW=>
  (much_any (hx.below hW.below) (fun x h=>(hok x h).below hW.below) (hs.below hW.below)).mono fun e w' ⟨b,h1,h2,h3⟩=>⟨b,h1,h2,hW.pure h3⟩
 have hfr:Hid (∀W,Sep w W []→Calls Tryz.prog 13 #[.int .i64 200,.int .i64 64] W fun e w'=>∃f q p S,e= .returned (.tuple #[.pointer (some ⟨p,0,none⟩),.pointer (some ⟨f,0,none⟩),.bool true])∧LiveT S [] [] 306 64∧Sep w w' [restR f q p S]):=Lh fun W hW=>
  (fresh_any (b:=200) (i:=64) (n:=306) rfl (by decide) (by decide) (by decide) (by decide) hW).mono fun e w' ⟨f,q,p,h1,h2⟩=>⟨f,q,p,_,h1,live_new (n:=306) (names:=64) (by decide) (by decide) (by decide) (by decide),h2⟩
 have hx':=Lh hx;have hok':=Lh hok;have hs':=Lh hs;clear hx hok hs hxl hsl;go_enter Tryz.func5,Tryz.ntmps5;go_wp2_with(first |(go_at_call 12;refine hal.out.mono ?_;rintro e wn ⟨rfl,hS⟩;have h1:=Lh hS;clear hS hal));go_at_call 24;refine(hmu.out _ h1.out).mono ?_;rintro e wn ⟨b,rfl,h80,hS⟩;have h2:=Lh hS;clear hS h1 hmu;cases b with
 |true=>clear hfr hx' hok' hs';go_wp2_with fail;go_ret;exact⟨rfl,h2.out.below⟩
 |false=>
  have hx80:=h80 rfl;clear h80;have hp1:Hid (∀W f q p S,LiveT S [] [] 306 64→Sep w W [restR f q p S]→Calls Tryz.prog 21 #[.pointer (some ⟨f,0,none⟩),.string ⟨#[97]⟩,.slice (some ⟨W.heap.size,0,none⟩) 5 5] (W.alloc (.cells #[.int .u8 102,.int .u8 105,.int .u8 114,.int .u8 115,.int .u8 116] 5 (5,6))) fun e w'=>
    e= .returned (.int .i64 0)∧∃S',LiveT S' [⟨[97],0,0⟩] [⟨384,firstH⟩] 306 64∧Sep w w' [restR f q p S']):=Lh fun W f q p S hL hW=>by
   have:=put_lit (path:=pA) (bs:=firstH) hL (by decide) (by decide) hW;rw[held_put1]at this;exact this
  have hp2:Hid (∀W f q p S,LiveT S [⟨[97],0,0⟩] [⟨384,firstH⟩] 306 64→Sep w W [restR f q p S]→Calls Tryz.prog 21 #[.pointer (some ⟨f,0,none⟩),.string ⟨#[98]⟩,.slice (some ⟨W.heap.size,0,none⟩) 6 6] (W.alloc (.cells #[.int .u8 115,.int .u8 101,.int .u8 99,.int .u8 111,.int .u8 110,.int .u8 100] 5 (6,7))) fun e w'=>
    e= .returned (.int .i64 0)∧∃S',LiveT S' heldN heldF 306 64∧Sep w w' [restR f q p S']):=Lh fun W f q p S hL hW=>by
   have:=put_lit (path:=pB) (bs:=secondH) hL (by decide) (by decide) hW;rw[held_put2]at this;exact this
  have hr1:Hid (∀W f q p S,LiveT S heldN heldF 306 64→Sep w W [restR f q p S]→Calls Tryz.prog 25 #[.pointer (some ⟨f,0,none⟩),.string ⟨#[97]⟩] W fun e w'=>∃v S',e= .returned (.tuple #[v,.int .i64 0])∧LiveT S' heldN heldF 306 64∧Sep w w' [restR f q p S',bytesR v firstH]):=Lh fun W f q p S hL hW=>
   (readT (path:=pA) hL (by decide) hW).mono fun e w' ⟨v,S',h1,h2,h3⟩=>by rw[held_read1.1]at h1;rw[held_read1.2]at h3;exact⟨v,S',h1,h2,h3.perm (List.Perm.swap _ _ _)⟩
  have hr2:Hid (∀W f q p S vx,LiveT S heldN heldF 306 64→Sep w W [restR f q p S,bytesR vx firstH]→Calls Tryz.prog 25 #[.pointer (some ⟨f,0,none⟩),.string ⟨#[98]⟩] W fun e w'=>∃v S',e= .returned (.tuple #[v,.int .i64 0])∧LiveT S' heldN heldF 306 64∧Sep w w' [restR f q p S',bytesR v secondH,bytesR vx firstH]):=Lh fun W f q p S vx hL hW=>
   (readT (path:=pB) hL (by decide) hW).mono fun e w' ⟨v,S',h1,h2,h3⟩=>by rw[held_read2.1]at h1;rw[held_read2.2]at h3;exact⟨v,S',h1,h2,h3.perm (List.Perm.swap _ _ _)⟩
  have hl1:Hid (∀W f q p S X,LiveT S heldN heldF 306 64→Sep w W (restR f q p S::X)→Calls Tryz.prog 23 #[.pointer (some ⟨f,0,none⟩),.string ⟨#[]⟩] W fun e w'=>∃v S',e= .returned (.tuple #[v,.int .i64 0])∧LiveT S' heldN heldF 306 64∧Sep w w' (restR f q p S'::strsR v [[97],[98]]::X)):=Lh fun W f q p S X hL hW=>
   (listL (path:=[]) hL (by decide) hW).mono fun e w' ⟨v,l,S',h1,h2,h3,h4,h5⟩=>by have e1:=held_list h2 h3;subst e1;exact⟨v,S',h1,h4,h5.perm (List.Perm.swap _ _ _)⟩
  (have kc:=fun(W:World) (C:Array Value) (n c:Nat)=>Lib.run_convert_bytes_const (P:=Tryz.prog) W 35 5 C n c Tryz.underlying35 Tryz.underlying5);go_wp2_with(first |(go_at_call 13;refine(hfr.out _ h2.out).mono ?_;rintro e wn ⟨f,q,p,S,rfl,hL,hS⟩;have h3:=Lh hS;have hL3:=Lh hL;clear hS hL hfr h2)|(go_at_call 21;refine(hp1.out _ _ _ _ _ hL3.out h3.out).mono ?_;rintro e wn ⟨rfl,S1,hL,hS⟩;have h4:=Lh hS;have hL4:=Lh hL;clear hS hL hp1 h3 hL3)|(go_at_call 21;refine(hp2.out _ _ _ _ _ hL4.out h4.out).mono ?_;rintro e wn ⟨rfl,S2,hL,hS⟩;have h5:=Lh hS;have hL5:=Lh hL;clear hS hL hp2 h4 hL4)|(go_at_call 25;refine(hr1.out _ _ _ _ _ hL5.out h5.out).mono ?_;rintro e wn ⟨vx,S3,rfl,hL,hS⟩;have h6:=Lh hS;have hL6:=Lh hL;clear hS hL hr1 h5 hL5)|(go_at_call 25;refine(hr2.out _ _ _ _ _ _ hL6.out h6.out).mono ?_;rintro e wn ⟨vy,S4,rfl,hL,hS⟩;have h7:=Lh hS;have hL7:=Lh hL;clear hS hL hr2 h6 hL6)|(go_at_call 23;refine(hl1.out _ _ _ _ _ _ hL7.out h7.out).mono ?_;rintro e wn ⟨vl,S5,rfl,hL,hS⟩;have h8:=Lh hS;have hL8:=Lh hL;clear hS hL hl1 h7 hL7));have hdo:Hid (∀W S ns fs X (x:Stp),x∈xs→LiveT S ns fs 306 64→Sep w W (restR f q p S::X)→Calls Tryz.prog 14 #[.pointer (some ⟨f,0,none⟩),.agg #[.int .i64 x.op,.string ⟨x.path.toArray⟩,.string ⟨x.tz.toArray⟩,.int .i64 x.mode,.int .i64 x.ref],.slice As cs.length c9] W fun e w'=>
    (∃n,e= .returned n)∧∃S' ns' fs',LiveT S' ns' fs' 306 64∧Sep w w' (restR f q p S'::X)):=Lh fun W S ns fs X x hm hL hW=>by
   have hx1:=hok'.out x hm;refine(doT (op:=x.op) (mode:=x.mode) (kk:=x.ref) (path:=x.path) (tz:=x.tz) (bs:=bss.getD x.ref.toNat []) (A:=As) (n:=cs.length) (c:=c9) hL hx1.path hx1.tz (by omega) (stock_len hs'.out _) hx1.op (stock_in hs'.out _) hW).mono ?_;rintro e w' ⟨h1,S',h2,h3⟩;exact⟨⟨_,h1⟩,S',_,_,h2,h3⟩
  go_loopw[15] (fun iv wr=>∃(i:Nat) (S:VS) (ns:List TN) (fs:List FT),iv= .int .i64 i∧i≤xs.length∧LiveT S ns fs 306 64∧Sep w wr [restR f q p S,strsR vl [[97],[98]],bytesR vy secondH,bytesR vx firstH]) (fun iv _=>xs.length-(intOf iv).toNat)
  case atStart=>exact⟨0,S5,_,_,rfl,Nat.zero_le _,hL8.out,h8.out⟩
  clear h8 hL8;obtain⟨i,S,ns,fs,rfl,hi,hL,hS⟩:=hrel;by_cases hlt:i<xs.length
  ·obtain⟨x,hxi⟩:∃x,xs[i]? =some x:=⟨_,gE hlt⟩;obtain⟨g,o,ca,e,_,_,hgl,hcell⟩:=Rd.placeF hx'.out (by omega) (by decide);simp only[Value.slice.injEq]at e;obtain⟨rfl,_,rfl⟩:=e;have hdo1:=Lh (hdo.out wr S ns fs _ x (gG hxi) hL hS);(have hic:=fun(j:Nat) (hj:j<9)=>(hcell wr hS.below (i*9+j) (by omega)).trans (step_at hxi j hj));have e2:=hic 2 (by omega);have e3:=hic 3 (by omega);have e4:=hic 4 (by omega);have e5:=hic 5 (by omega);have e6:=hic 6 (by omega);simp only[Stp.cells,strV,Nat.add_zero,←Nat.add_assoc,gB,gC]at e2 e3 e4 e5 e6;(have p1:(0:Int)≤(i:Int):=by omega);(have p2:(i:Int)<(xs.length:Int):=by omega);clear hic hcell hx' hok' hs' hL hS hdo hgl;go_wp2_with(first |(go_at_call 14;refine hdo1.out.mono ?_;rintro e wm ⟨⟨n9,rfl⟩,S6,ns6,fs6,hL6,hS6⟩;have g1:=Lh hS6;have gL:=Lh hL6;clear hS6 hL6 hdo1));refine⟨⟨i+1,S6,ns6,fs6,by go_num,by omega,gL.out,g1.out⟩,?_⟩;(show xs.length-((i:Int)+1).toNat<xs.length-((i:Int)).toNat);omega
  (have q1:¬(i:Int)<(xs.length:Int):=by omega);have g1:=Lh hS;have gL:=Lh hL;clear hS hL hx' hok' hs' hdo;have hpr:=put_read (nb:=306) (names:=64) (p:=pA) (bs:=otherH) rfl rfl gL.out.inFs;obtain⟨E,hE⟩:∃E,E=(putX 306 64 ns fs pA otherH).e:=⟨_,rfl⟩;obtain⟨N1,hN1⟩:∃N,N=(putX 306 64 ns fs pA otherH).ns:=⟨_,rfl⟩;obtain⟨F1,hF1⟩:∃F,F=(putX 306 64 ns fs pA otherH).fs:=⟨_,rfl⟩;have hpo:Hid (∀W X,Sep w W (restR f q p S::X)→Calls Tryz.prog 21 #[.pointer (some ⟨f,0,none⟩),.string ⟨#[97]⟩,.slice (some ⟨W.heap.size,0,none⟩) 5 5] (W.alloc (.cells #[.int .u8 111,.int .u8 116,.int .u8 104,.int .u8 101,.int .u8 114] 5 (5,6))) fun e w'=>
    e= .returned (.int .i64 E)∧∃S',LiveT S' N1 F1 306 64∧Sep w w' (restR f q p S'::X)):=Lh fun W X hW=>by
   have:=put_lit (path:=pA) (bs:=otherH) gL.out (by decide) (by decide) hW;rw[←hE,←hN1,←hF1]at this;exact this
  rw[←hE,←hN1,←hF1]at hpr;have hpr':=Lh hpr;clear hpr hE hN1 hF1;obtain⟨rx,hrx⟩:∃r,r=rdX N1 pA:=⟨_,rfl⟩;obtain⟨rb,hrb⟩:∃r,r=rdB N1 F1 pA:=⟨_,rfl⟩;have hra:Hid (∀W S X,LiveT S N1 F1 306 64→Sep w W (restR f q p S::X)→Calls Tryz.prog 25 #[.pointer (some ⟨f,0,none⟩),.string ⟨#[97]⟩] W fun e w'=>∃v S',e= .returned (.tuple #[v,.int .i64 rx])∧LiveT S' N1 F1 306 64∧Sep w w' (restR f q p S'::bytesR v rb::X)):=Lh fun W S X hL hW=>
   (readT (path:=pA) hL (by decide) hW).mono fun e w' ⟨v,S',h1,h2,h3⟩=>by rw[←hrx]at h1;rw[←hrb]at h3;exact⟨v,S',h1,h2,h3.perm (List.Perm.swap _ _ _)⟩
  have hla:Hid (∀W S X,LiveT S N1 F1 306 64→Sep w W (restR f q p S::X)→Calls Tryz.prog 23 #[.pointer (some ⟨f,0,none⟩),.string ⟨#[]⟩] W fun e w'=>∃v l x S',e= .returned (.tuple #[v,.int .i64 x])∧LiveT S' N1 F1 306 64∧Sep w w' (restR f q p S'::strsR v l::X)):=Lh fun W S X hL hW=>
   (listL (path:=[]) hL (by decide) hW).mono fun e w' ⟨v,l,S',h1,h2,h3,h4,h5⟩=>⟨v,l,_,S',h1,h4,h5.perm (List.Perm.swap _ _ _)⟩
  (have hpr2:Hid (E=0→rb=otherH):=Lh fun h0=>by rw[hrb];exact(hpr'.out h0).2);clear hpr' hrx hrb gL;go_wp2_with(first |(go_at_call 21;refine(hpo.out _ _ g1.out).mono ?_;rintro e wn ⟨rfl,S6,hL,hS⟩;have g2:=Lh hS;have gL2:=Lh hL;clear hS hL hpo g1)|(go_at_call 25;refine(hra.out _ _ _ gL2.out g2.out).mono ?_;rintro e wn ⟨vz,S7,rfl,hL,hS⟩;have g3:=Lh hS;have gL3:=Lh hL;clear hS hL g2 gL2)|(go_at_call 23;refine(hla.out _ _ _ gL3.out g3.out).mono ?_;rintro e wn ⟨vm,ml,mx,S8,rfl,hL,hS⟩;have g4:=Lh hS;have gL4:=Lh hL;clear hS hL g3 gL3 hla));obtain⟨Az,cz,rfl,hz1,hz2,_⟩:=g4.out.sl_any 2 rfl;obtain⟨Am,cm,rfl,hm1,hm2,_⟩:=g4.out.sl_any 1 rfl;obtain⟨Ay,cy,rfl,hy1,hy2,_⟩:=g4.out.sl_any 4 rfl;obtain⟨Lz,hLz⟩:∃L,L=rb.length:=⟨_,rfl⟩;obtain⟨Lm,hLm⟩:∃L,L=ml.length:=⟨_,rfl⟩;have g5:Hid (Sep w wn [restR f q p S8,.sl 9 1 (.slice Am Lm cm) Lm (ml.map strV),.sl 5 1 (.slice Az Lz cz) Lz (rb.map byt),strsR vl [[97],[98]],.sl 5 1 (.slice Ay 6 cy) 6 (secondH.map byt),bytesR vx firstH]):=Lh (by rw[hLz,hLm];exact g4.out);rw[←hLz]at hz1 ⊢;rw[←hLm]at hm1 ⊢;(have bz:(Lz:Int)≤9223372036854775807:=by unfold maxLen at hz2;omega);(have bm:(Lm:Int)≤9223372036854775807:=by unfold maxLen at hm2;omega);clear g4 hz1 hz2 hm1 hm2 hy1 hy2 hLz hLm;go_loopw[21] (fun iv wr=>∃(i:Nat) (cs:List Value),iv= .int .i64 i∧i≤Lz∧U8s cs∧Sep w wr [restR f q p S8,.sl 9 1 (.slice Am Lm cm) Lm (ml.map strV),.sl 5 1 (.slice Az Lz cz) Lz cs,strsR vl [[97],[98]],.sl 5 1 (.slice Ay 6 cy) 6 (secondH.map byt),bytesR vx firstH]) (fun iv _=>Lz-(intOf iv).toNat)
  case atStart=>exact⟨0,_,rfl,Nat.zero_le _,U8s.byt _,g5.out⟩
  clear g5;obtain⟨i,cs1,rfl,hi,hu,hS⟩:=hrel;by_cases hlt:i<Lz
  ·obtain⟨gz,c9,e,_,_,_,_⟩:=hS.sl_form 2 rfl (by omega);simp only[Value.slice.injEq]at e;obtain⟨rfl,_,rfl⟩:=e;obtain⟨_,_,_,_,_,hcl⟩:=hS.sl_any 2 rfl;obtain⟨u,huu⟩:∃u,cs1[i]? =some u:=⟨_,gE (by omega)⟩;obtain⟨z,rfl⟩:=hu i u huu;have a0:wr.cell? ⟨gz,i,none⟩=some (.int .u8 z):=(hS.cellAt 2 rfl i (by omega)).trans huu;have a1:=hS.frozenAt 2 rfl i;(have p1:(0:Int)≤(i:Int):=by omega);(have p2:(i:Int)<(Lz:Int):=by omega);have hu':=Lh hu;have hS':=Lh hS;clear hu hS hcl huu hra;go_wp2_with fail;refine⟨⟨i+1,_,by go_num,by omega,hu'.out.set i _,hS'.out.stored 2 rfl i _⟩,?_⟩;(show Lz-((i:Int)+1).toNat<Lz-((i:Int)).toNat);omega
  (have q1:¬(i:Int)<(Lz:Int):=by omega);have g6:=Lh hS;clear hS hu;go_wp2_with fail;go_loopw[22] (fun iv wr=>∃(i:Nat) (cs:List Value),iv= .int .i64 i∧i≤Lm∧Sep w wr [restR f q p S8,.sl 9 1 (.slice Am Lm cm) Lm cs,.sl 5 1 (.slice Az Lz cz) Lz cs1,strsR vl [[97],[98]],.sl 5 1 (.slice Ay 6 cy) 6 (secondH.map byt),bytesR vx firstH]) (fun iv _=>Lm-(intOf iv).toNat)
  case atStart=>exact⟨0,_,rfl,Nat.zero_le _,g6.out⟩
  clear g6;obtain⟨i,cs2,rfl,hi,hS⟩:=hrel;by_cases hlt:i<Lm
  ·obtain⟨gm,c9,e,_,_,_,_⟩:=hS.sl_form 1 rfl (by omega);simp only[Value.slice.injEq]at e;obtain⟨rfl,_,rfl⟩:=e;obtain⟨_,_,_,_,_,hcl⟩:=hS.sl_any 1 rfl;obtain⟨u,huu⟩:∃u,cs2[i]? =some u:=⟨_,gE (by omega)⟩;have a0:wr.cell? ⟨gm,i,none⟩=some u:=(hS.cellAt 1 rfl i (by omega)).trans huu;have a1:=hS.frozenAt 1 rfl i;(have p1:(0:Int)≤(i:Int):=by omega);(have p2:(i:Int)<(Lm:Int):=by omega);have hS':=Lh hS;clear hS hcl huu hra;go_wp2_with fail;refine⟨⟨i+1,_,by go_num,by omega,hS'.out.stored 1 rfl i _⟩,?_⟩;(show Lm-((i:Int)+1).toNat<Lm-((i:Int)).toNat);omega
  (have q1:¬(i:Int)<(Lm:Int):=by omega);have g7:=Lh hS;clear hS;go_wp2_with fail;go_loopw[23] (fun iv wr=>∃(i:Nat) (cs:List Value),iv= .int .i64 i∧i≤6∧U8s cs∧Sep w wr [restR f q p S8,.sl 9 1 (.slice Am Lm cm) Lm cs2,.sl 5 1 (.slice Az Lz cz) Lz cs1,strsR vl [[97],[98]],.sl 5 1 (.slice Ay 6 cy) 6 cs,bytesR vx firstH]) (fun iv _=>6-(intOf iv).toNat)
  case atStart=>exact⟨0,_,rfl,Nat.zero_le _,U8s.byt _,g7.out⟩
  clear g7;obtain⟨i,cs3,rfl,hi,hu,hS⟩:=hrel;by_cases hlt:i<6
  ·obtain⟨gz,c9,e,_,_,_,_⟩:=hS.sl_form 4 rfl (by omega);simp only[Value.slice.injEq]at e;obtain⟨rfl,_,rfl⟩:=e;obtain⟨_,_,_,_,_,hcl⟩:=hS.sl_any 4 rfl;obtain⟨u,huu⟩:∃u,cs3[i]? =some u:=⟨_,gE (by omega)⟩;obtain⟨z,rfl⟩:=hu i u huu;have a0:wr.cell? ⟨gz,i,none⟩=some (.int .u8 z):=(hS.cellAt 4 rfl i (by omega)).trans huu;have a1:=hS.frozenAt 4 rfl i;(have p1:(0:Int)≤(i:Int):=by omega);(have p2:(i:Int)<6:=by omega);have hu':=Lh hu;have hS':=Lh hS;clear hu hS hcl huu hra;go_wp2_with fail;refine⟨⟨i+1,_,by go_num,by omega,hu'.out.set i _,hS'.out.stored 4 rfl i _⟩,?_⟩;(show 6-((i:Int)+1).toNat<6-((i:Int)).toNat);omega
  (have q1:¬(i:Int)<6:=by omega);have g8:=Lh hS;clear hS hu;go_wp2_with(first |(go_at_call 25;refine(hra.out _ _ _ gL4.out g8.out).mono ?_;rintro e wn ⟨vb,S9,rfl,hL,hS⟩;have hcx:(convert 35 9 vx).run Tryz.prog wn= .ok (.string ⟨#[102,105,114,115,116]⟩) wn:=conv_bytesV (hS.rd 6 rfl);have hcb:=conv_bytesV (hS.rd 1 rfl);obtain⟨gl,cl,rfl,_,_,_,_⟩:=hS.sl_form 4 rfl (by decide);have k0:wn.cell? ⟨gl,0,none⟩=some (.string ⟨#[97]⟩):=hS.cellAt 4 rfl 0 (by decide);have k1:wn.cell? ⟨gl,1,none⟩=some (.string ⟨#[98]⟩):=hS.cellAt 4 rfl 1 (by decide);have g9:=Lh hS;clear hS hL hra g8 gL4));by_cases h0:E=0
  ·(have hcb2:(convert 35 9 vb).run Tryz.prog wn= .ok (.string ⟨#[111,116,104,101,114]⟩) wn:=by rw[hpr2.out h0]at hcb;exact hcb);subst h0;clear hcb hpr2;go_wp2_with(first |(go_at_call 16;refine(num8_any _ _).mono ?_;rintro e w2 ⟨rfl,rfl⟩));go_ret;exact⟨rfl,g9.out.below⟩
  (have hE2:(E==0)=false:=by simpa using h0);clear hcb hpr2;go_wp2_with(first |(go_at_call 16;refine(num8_any _ _).mono ?_;rintro e w2 ⟨rfl,rfl⟩));go_ret;exact⟨rfl,g9.out.below⟩
end
end Go.Proofs.YteihmbaimbogaaaGreat
