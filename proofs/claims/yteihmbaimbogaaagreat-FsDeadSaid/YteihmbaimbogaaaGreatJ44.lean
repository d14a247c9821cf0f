/- FvW, FvX, laid together. -/
import Derived.Test.YteihmbaimbogaaaGreatJ43
namespace Go.Proofs.YteihmbaimbogaaaGreat
open Go.RowKit
set_option linter.unusedVariables false
set_option linter.unusedSimpArgs false
theorem DK.fuse_now (D:DK) (n:Int):(D.fuse n).now=D.now∧(D.fuse n).back=D.back:=by
 unfold DK.fuse;split
 ·exact⟨rfl,rfl⟩
 split<;>exact⟨rfl,rfl⟩
section
variable {w0 w:World} {R:List Asn} {f q p:Nat} {S:VS} {ns:List TN} {fs:List FT} {nb names:Nat}
theorem rest_swap {sb:Option Nat} {SM:BM} {fo:Option Nat} {D:DK} (hR:VR S sb SM) (hok:D.ok S.nb) (hnow:D.now=S.D.now) (hb:D.back=[]) (h:Sep w0 w (diskR p D::fsB f q S sb (.map fo) false::ledgerR q p false::seenR sb SM::R)):Sep w0 w (restR f q p {S with D:=D}::R):=
 Sep.rest_shut (S:= {S with D:=D}) (sb:=sb) (SM:=SM) (fo:=fo) ⟨hok,hR.big,fun x hx=>by have:=hR.seen x hx;rw[←hnow]at this;exact this,hR.none,hb⟩ (Sep.sel [1,2,0,3] h (by decide) (by simp[fsB]))
theorem VolT.swap (h:VolT S ns fs nb names) {D:DK} (hnow:D.now=S.D.now):VolT {S with D:=D} ns fs nb names:=by
 obtain⟨g,dn,φ,hV⟩:=h.vt;refine⟨h.nm,h.nbe,g,dn,φ,?_⟩;have e:S.base.cur=({S with D:=D}:VS).base.cur:=by show S.D.now.drop 96=D.now.drop 96;rw[hnow]
 exact Vt.of (hV.vol.ph.same rfl rfl e.symm rfl rfl rfl) hV.rep rfl (by have:=hV.nodes;have:=hV.vol.few;omega) hV.vol.rB hV.vol.rI rfl
theorem rest_fuse (n:Int) (hn:n≤9223372036854775807) (hL:VolT S ns fs nb names) (h:Sep w0 w (restR f q p S::R)):
  Calls Tryz.prog 26 #[.pointer (some ⟨p,0,none⟩),.int .i64 n] w fun e w'=>(∃v,e= .returned v)∧∃S',VolT S' ns fs nb names∧Sep w0 w' (restR f q p S'::R):=by
 obtain⟨sb,SM,fo,hR,h1⟩:=h.rest_open;have h2:Sep w0 w (diskR p S.D::fsB f q S sb (.map fo) false::ledgerR q p false::seenR sb SM::R):=Sep.sel [2,0,1,3] h1 (by decide) (by simp[fsB]);refine(fuse_any hR.dok n h2).mono ?_;rintro e w' ⟨rfl,h3⟩;exact⟨⟨_,rfl⟩,_,hL.swap (DK.fuse_now _ _).1,rest_swap hR (DK.fuse_ok hR.dok hn) (DK.fuse_now _ _).1 ((DK.fuse_now _ _).2.trans hR.back) h3⟩
theorem rest_flush (hL:VolT S ns fs nb names) (h:Sep w0 w (restR f q p S::R)):
  Calls Tryz.prog 27 #[.pointer (some ⟨p,0,none⟩)] w fun e w'=>(∃v,e= .returned v)∧∃S',VolT S' ns fs nb names∧Sep w0 w' (restR f q p S'::R):=by
 obtain⟨sb,SM,fo,hR,h1⟩:=h.rest_open;have h2:Sep w0 w (diskR p S.D::fsB f q S sb (.map fo) false::ledgerR q p false::seenR sb SM::R):=Sep.sel [2,0,1,3] h1 (by decide) (by simp[fsB]);refine(dflush_any hR.dok h2).mono ?_;rintro e w' ⟨rfl,h3⟩;by_cases ho:S.D.off=true
 ·rw[if_pos ho]at h3;exact⟨⟨_,rfl⟩,_,hL.swap rfl,rest_swap hR hR.dok rfl hR.back h3⟩
 rw[if_neg ho]at h3;have e1:S.D.fl.now=S.D.now:=by unfold DK.fl;rw[DK.step_now]
 exact⟨⟨_,rfl⟩,_,hL.swap e1,rest_swap hR (DK.fl_ok hR.dok) e1 (DK.fl_back _) h3⟩
theorem gone_flush {D:DK} (hD:D.ok nb) (h:Sep w0 w (goneR f q p true::diskR p D::R)):
  Calls Tryz.prog 27 #[.pointer (some ⟨p,0,none⟩)] w fun e w'=>(∃v,e= .returned v)∧∃D',DK.ok nb D'∧Sep w0 w' (goneR f q p true::diskR p D'::R):=by
 refine(dflush_any hD (h.perm (List.Perm.swap _ _ _))).mono ?_;rintro e w' ⟨rfl,h3⟩;refine⟨⟨_,rfl⟩,_,?_,h3.perm (List.Perm.swap _ _ _)⟩;split
 ·exact hD
 exact DK.fl_ok hD
theorem gone_crash {D:DK} (hD:D.ok nb) (h:Sep w0 w (goneR f q p true::diskR p D::R)):
  Calls Tryz.prog 28 #[.pointer (some ⟨p,0,none⟩),.slice none 0 0] w fun e w'=>e= .returned (.tuple #[])∧Sep w0 w' (goneR f q p true::R):=by
 refine(crash0_any hD (h.perm (List.Perm.swap _ _ _))).mono ?_;rintro e w' ⟨rfl,h3⟩;exact⟨rfl,h3.drop 1⟩
theorem put_fuse {path bs:List UInt8} {A:Option Addr} {c:Nat} (hL:VolT S ns fs nb names) (hp:path.length≤1048576) (hlen:bs.length≤4611686018427387903) (hst:Tells w0 R (.slice A bs.length c) bs)
  (hE:putT ns path bs.length=0) (hf:fitsT nb names (putNs ns fs path) (putFs ns fs path bs)=true) (h:Sep w0 w (restR f q p S::R)):
  Calls Tryz.prog 21 #[.pointer (some ⟨f,0,none⟩),strV path,.slice A bs.length c] w fun e w'=>
   (e= .returned (.int .i64 0)∧∃S',VolT S' (putNs ns fs path) (putFs ns fs path bs) nb names∧Sep w0 w' (restR f q p S'::R))∨
   (e= .returned (.int .i64 11)∧∃D,DK.ok nb D∧Sep w0 w' (goneR f q p true::diskR p D::R)):=by
 have hok:=rest_dok h
 have h96:=rest_big h
 by_cases ho:S.D.off=true
 ·refine(put_no (nopow_off ho) h).mono ?_;rintro e w' ⟨rfl,h1⟩;exact .inr ⟨rfl,S.D,by rw[←hL.nbe];exact hok,h1⟩
 ·(have ho':S.D.off=false:=by simpa using ho);obtain⟨g,dn,φ,hV⟩:=hL.vt;have hP:=hV.put (bs:=bs) hp;refine(putf_any hp hlen ho' hV.vol.vw hst hP.1 h).mono ?_;rintro e w' ⟨x,rfl,hEnd⟩;rcases hP.2 with⟨hne,_⟩|⟨_,hD⟩
  ·exact absurd hE hne
  have h1:=hL.ends hok h96 hD hEnd;rw[if_pos hf]at h1;rcases h1 with⟨rfl,S',hV',_,hS⟩|⟨rfl,_,S1,e1,e2,e3,e4,_,hS⟩
  ·exact .inl ⟨rfl,S',hV',hS⟩
  refine .inr ⟨rfl,S1.commit.1,?_,hS⟩;rw[←e1];refine commit_ok (by rw[e2,e1,←hL.nbe];exact hok) (by rw[e1,←hL.nbe];exact h96) (by rw[e1];exact e3) e4
end
def OneT (ns:List TN) (fs:List FT):Prop:=(ns=[]∧fs=[])∨(ns=newNs [] [] 2 384 [97]∧∃b:UInt8,fs=[⟨384,[b]⟩])
theorem OneT.put {ns:List TN} {fs:List FT} (h:OneT ns fs) (b:UInt8):putT ns [97] ([b]:List UInt8).length=0∧fitsT 202 32 (putNs ns fs [97]) (putFs ns fs [97] [b])=true∧OneT (putNs ns fs [97]) (putFs ns fs [97] [b]):=by
 rcases h with⟨rfl,rfl⟩|⟨rfl,c,rfl⟩
 ·exact⟨by kernel_rfl,by kernel_rfl,.inr ⟨by kernel_rfl,b,by kernel_rfl⟩⟩
 exact⟨by kernel_rfl,by kernel_rfl,.inr ⟨by kernel_rfl,b,by kernel_rfl⟩⟩
section
variable {w0 w:World}
theorem Sep.lit_byte {R:List Asn} (h:Sep w0 w R) (b:UInt8):Sep w0 (w.alloc (.cells #[byt b] 5)) (bytesR (.slice (some ⟨w.heap.size,0,none⟩) 1 1) [b]::R):=by have hown:=World.ownsRow_lit (base:=0) (e:=5) (size:=1) w #[byt b] 1 (Nat.zero_le _) (by simp[maxLen]) rfl;exact h.new (F:=[w.heap.size]) ((Below.refl _ _).alloc (Nat.le_refl _) _) ⟨hown,rfl⟩ (by simp)
theorem cplx_00 :cplx 0 0= .complex .f64 0 0:=by kernel_rfl
set_option maxRecDepth 100000 in
set_option maxHeartbeats 8000000 in
theorem dead_any (n:Int):Calls Tryz.prog 6 #[.int .i64 n] w fun e w'=>e= .returned (.bool true)∧Below w.heap.size w w':=by
 have hal:=Lh (alive8_any (Sep.nil w));have hfr:Hid (∀W,Sep w W []→Calls Tryz.prog 13 #[.int .i64 100,.int .i64 32] W fun e w'=>∃f q p S,e= .returned (.tuple #[.pointer (some ⟨p,0,none⟩),.pointer (some ⟨f,0,none⟩),.bool true])∧VolT S [] [] 202 32∧Sep w w' [restR f q p S]):=Lh fun W hW=>
  (fresh_any (b:=100) (i:=32) (n:=202) rfl (by decide) (by decide) (by decide) (by decide) hW).mono fun e w' ⟨f,q,p,h1,h2⟩=>⟨f,q,p,_,h1,(live_new (n:=202) (names:=32) (by decide) (by decide) (by decide) (by decide)).vol,h2⟩
 by_cases hr:n<0∨60<n
 ·go_enter Tryz.func6,Tryz.ntmps6;rcases hr with hr|hr
  ·go_wp2_with(go_at_call 12;refine hal.out.mono ?_;rintro e wn ⟨rfl,hS⟩;have h1:=Lh hS;clear hS hal);go_ret;exact⟨rfl,h1.out.below⟩
  (have hr0:¬n<0:=by omega);go_wp2_with(go_at_call 12;refine hal.out.mono ?_;rintro e wn ⟨rfl,hS⟩;have h1:=Lh hS;clear hS hal);go_ret;exact⟨rfl,h1.out.below⟩
 have hr0:¬n<0:=by omega
 have hr1:¬60<n:=by omega
 clear hr;have hfu:Hid (∀W f q p S,VolT S [] [] 202 32→Sep w W [restR f q p S]→Calls Tryz.prog 26 #[.pointer (some ⟨p,0,none⟩),.int .i64 n] W fun e w'=>(∃v,e= .returned v)∧∃S',VolT S' [] [] 202 32∧Sep w w' [restR f q p S']):=Lh fun W f q p S hL hW=>rest_fuse n (by omega) hL hW
 go_enter Tryz.func6,Tryz.ntmps6;go_wp2_with(first |(go_at_call 12;refine hal.out.mono ?_;rintro e wn ⟨rfl,hS⟩;have h1:=Lh hS;clear hS hal)|(go_at_call 13;refine(hfr.out _ h1.out).mono ?_;rintro e wn ⟨f,q,p,S,rfl,hL,hS⟩;have h2:=Lh hS;have hL2:=Lh hL;clear hS hL hfr h1)|(go_at_call 26;refine(hfu.out _ _ _ _ _ hL2.out h2.out).mono ?_;rintro e wn ⟨⟨v,rfl⟩,S1,hL,hS⟩;have h3:=Lh hS;have hL3:=Lh hL;clear hS hL hfu h2 hL2));go_loopw[7] (fun iv wr=>∃(k:Nat) (S:VS) (ns:List TN) (fs:List FT),iv= .int .i64 k∧k≤200∧VolT S ns fs 202 32∧OneT ns fs∧Sep w wr [restR f q p S]) (fun iv _=>200-(intOf iv).toNat)
 case atStart=>exact⟨0,S1,[],[],rfl,Nat.zero_le _,hL3.out,.inl ⟨rfl,rfl⟩,h3.out⟩
 clear h3 hL3;obtain⟨k,S,ns,fs,rfl,hk,hL,hT,hS⟩:=hrel;by_cases hlt:k<200
 ·(have q2:(0:Int)≤(k:Int):=by omega);(have q3:(k:Int)<200:=by omega);obtain⟨b,hb⟩:∃b,b=UInt8.ofNat k:=⟨_,rfl⟩;(have hbk:b.toNat=k:=by rw[hb,UInt8.toNat_ofNat'];omega);(have hby:byt b= .int .u8 (k:Int):=by unfold byt;rw[hbk]);obtain⟨hE,hF,hT'⟩:=hT.put b;have hlit:=hS.lit_byte b;rw[hby]at hlit;have hput:Hid (Calls Tryz.prog 21 #[.pointer (some ⟨f,0,none⟩),.string ⟨#[97]⟩,.slice (some ⟨wr.heap.size,0,none⟩) 1 1] (wr.alloc (.cells #[.int .u8 (k:Int)] 5)) fun e w'=>
    (e= .returned (.int .i64 0)∧∃S',VolT S' (putNs ns fs [97]) (putFs ns fs [97] [b]) 202 32∧Sep w w' [restR f q p S'])∨(e= .returned (.int .i64 11)∧∃D,DK.ok 202 D∧Sep w w' [goneR f q p true,diskR p D])):=Lh (by
   refine(put_fuse (path:=[97]) (bs:=[b]) (A:=some ⟨wr.heap.size,0,none⟩) (c:=1) (R:=[bytesR (.slice (some ⟨wr.heap.size,0,none⟩) 1 1) [b]]) hL (by decide) (by show 1≤4611686018427387903;decide) (Tells.part 0 rfl) hE hF (hlit.perm (List.Perm.swap _ _ _))).mono ?_;rintro e w' (⟨h1,S',h2,h3⟩|⟨h1,D,h2,h3⟩)
   ·exact .inl ⟨h1,S',h2,(h3.perm (List.Perm.swap _ _ _)).drop 1⟩
   exact .inr ⟨h1,D,h2,(Sep.sel [2,0,1] h3 (by decide) (by simp)).drop 1⟩)
  (have hfl:Hid (∀W S,VolT S (putNs ns fs [97]) (putFs ns fs [97] [b]) 202 32→Sep w W [restR f q p S]→Calls Tryz.prog 27 #[.pointer (some ⟨p,0,none⟩)] W fun e w'=>(∃v,e= .returned v)∧∃S',VolT S' (putNs ns fs [97]) (putFs ns fs [97] [b]) 202 32∧Sep w w' [restR f q p S']):=Lh fun W S hL hW=>rest_flush hL hW);(have hfg:Hid (∀W D,DK.ok 202 D→Sep w W [goneR f q p true,diskR p D]→Calls Tryz.prog 27 #[.pointer (some ⟨p,0,none⟩)] W fun e w'=>(∃v,e= .returned v)∧∃D',DK.ok 202 D'∧Sep w w' [goneR f q p true,diskR p D']):=Lh fun W D hD hW=>gone_flush hD hW);(have hcr:Hid (∀W D,DK.ok 202 D→Sep w W [goneR f q p true,diskR p D]→Calls Tryz.prog 28 #[.pointer (some ⟨p,0,none⟩),.slice none 0 0] W fun e w'=>e= .returned (.tuple #[])∧Sep w w' [goneR f q p true]):=Lh fun W D hD hW=>gone_crash hD hW);(have hrd:Hid (∀W v,Sep w W [goneR f q p true]→Calls Tryz.prog 25 #[.pointer (some ⟨f,0,none⟩),v] W fun e w'=>e= .returned (.tuple #[.slice none 0 0,.int .i64 11])∧Sep w w' [goneR f q p true]):=Lh fun W v hW=>read_no nopow_dead hW);(have hst:Hid (∀W v,Sep w W [goneR f q p true]→Calls Tryz.prog 29 #[.pointer (some ⟨f,0,none⟩),v] W fun e w'=>e= .returned (.tuple #[.agg #[.int .i64 0,.int .i64 0,.int .i64 0,.int .i64 0,.int .i64 0],.int .i64 11])∧Sep w w' [goneR f q p true]):=Lh fun W v hW=>stat_no nopow_dead hW);(have hls:Hid (∀W v,Sep w W [goneR f q p true]→Calls Tryz.prog 23 #[.pointer (some ⟨f,0,none⟩),v] W fun e w'=>e= .returned (.tuple #[.slice none 0 0,.int .i64 11])∧Sep w w' [goneR f q p true]):=Lh fun W v hW=>list_no nopow_dead hW);(have hpn:Hid (∀W v,Sep w W [goneR f q p true]→Calls Tryz.prog 21 #[.pointer (some ⟨f,0,none⟩),v,.slice none 0 0] W fun e w'=>e= .returned (.int .i64 11)∧Sep w w' [goneR f q p true]):=Lh fun W v hW=>put_no nopow_dead hW);(have hdn:Hid (∀W,Sep w W [goneR f q p true]→Calls Tryz.prog 14 #[.pointer (some ⟨f,0,none⟩),.agg #[.int .i64 1,.string ⟨#[98]⟩,.string ⟨#[]⟩,.int .i64 0,.int .i64 0],.slice none 0 0] W fun e w'=>e= .returned (.int .i64 11)∧Sep w w' [goneR f q p true]):=Lh fun W hW=>do_no (path:=[98]) (tz:=[]) nopow_dead hW);(have hsn:Hid (∀W,Sep w W [goneR f q p true]→Calls Tryz.prog 30 #[.pointer (some ⟨f,0,none⟩)] W fun e w'=>e= .returned (.int .i64 11)∧Sep w w' [goneR f q p true]):=Lh fun W hW=>sync_no nopow_dead hW);(have hrg:Hid (∀W,Sep w W [goneR f q p true]→Calls Tryz.prog 31 #[.pointer (some ⟨f,0,none⟩)] W fun e w'=>e= .returned (.complex .f64 0 0)∧W=w'):=Lh fun W hW=>(room_gone hW).mono fun e w' ⟨h1,h2⟩=>⟨h1.trans (congrArg _ cplx_00),h2.symm⟩);(have hfr:Hid (∀W,Sep w W [goneR f q p true]→Calls Tryz.prog 17 #[.pointer (some ⟨f,0,none⟩)] W fun e w'=>e= .returned (.complex .f64 0 0)∧W=w'):=Lh fun W hW=>(free_gone hW).mono fun e w' ⟨h1,h2⟩=>⟨h1.trans (congrArg _ cplx_00),h2.symm⟩);have hTT:=Lh hT';clear hT hT' hL hS hlit hE hF hb hby hbk;go_wp2_with(first |(go_at_call 21;refine hput.out.mono ?_;rintro e wp (⟨rfl,S2,hL2,hS2⟩|⟨rfl,D2,hD2,hS2⟩)))
  ·have h4:=Lh hS2;have hL4:=Lh hL2;clear hS2 hL2 hput hfg hcr hrd hst hls hpn hdn hsn hrg hfr;go_wp2_with(first |(go_at_call 16;refine(num8_any _ _).mono ?_;rintro e w2 ⟨rfl,rfl⟩)|(go_at_call 27;refine(hfl.out _ _ hL4.out h4.out).mono ?_;rintro e wn ⟨⟨v,rfl⟩,S3,hL,hS⟩;have h5:=Lh hS;have hL5:=Lh hL;clear hS hL h4 hL4 hfl));refine⟨⟨k+1,S3,_,_,by simp,by omega,hL5.out,hTT.out,h5.out⟩,?_⟩;have e1:intOf (Value.int IntKind.i64 ((k:Int)+1))=(k:Int)+1:=rfl;have e2:intOf (Value.int IntKind.i64 (k:Int))=(k:Int):=rfl;rw[e1,e2];omega
  have h4:=Lh hS2;have hD4:=Lh hD2;clear hS2 hD2 hput hfl;go_wp2_with(first |(go_at_call 16;refine(num8_any _ _).mono ?_;rintro e w2 ⟨rfl,rfl⟩)|(go_at_call 27;refine(hfg.out _ _ hD4.out h4.out).mono ?_;rintro e wn ⟨⟨v,rfl⟩,D3,hD,hS⟩;have h5:=Lh hS;have hD5:=Lh hD;clear hS hD h4 hD4 hfg)|(go_at_call 28;refine(hcr.out _ _ hD5.out h5.out).mono ?_;rintro e wn ⟨rfl,hS⟩;have g1:=Lh hS;clear hS h5 hD5 hcr)|(go_at_call 25;refine(hrd.out _ _ g1.out).mono ?_;rintro e wn ⟨rfl,hS⟩;have g2:=Lh hS;clear hS g1 hrd)|(go_at_call 29;refine(hst.out _ _ g2.out).mono ?_;rintro e wn ⟨rfl,hS⟩;have g3:=Lh ((hS.bN 68 #[.int .i64 0,.int .i64 0,.int .i64 0,.int .i64 0,.int .i64 0]).drop 1);clear hS g2 hst)|(go_at_call 23;refine(hls.out _ _ g3.out).mono ?_;rintro e wn ⟨rfl,hS⟩;have g4:=Lh hS;clear hS g3 hls)|(go_at_call 21;refine(hpn.out _ _ g4.out).mono ?_;rintro e wn ⟨rfl,hS⟩;have g5:=Lh hS;clear hS g4 hpn)|(go_at_call 14;refine(hdn.out _ g5.out).mono ?_;rintro e wn ⟨rfl,hS⟩;have g6:=Lh hS;clear hS g5 hdn)|(go_at_call 30;refine(hsn.out _ g6.out).mono ?_;rintro e wn ⟨rfl,hS⟩;have g7:=Lh hS;clear hS g6 hsn)|(go_at_call 31;refine(hrg.out _ g7.out).mono ?_;rintro e w2 ⟨rfl,rfl⟩)|(go_at_call 17;refine(hfr.out _ g7.out).mono ?_;rintro e w2 ⟨rfl,rfl⟩));go_ret;exact⟨rfl,g7.out.below⟩
 have q3:¬(k:Int)<200:=by omega
 have h4:=Lh hS.below;clear hS hL hT;go_wp2_with fail;go_ret;exact⟨rfl,h4.out⟩
end
end Go.Proofs.YteihmbaimbogaaaGreat
