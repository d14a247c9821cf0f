/- FuS, FuT, FuU, FuV, FuW, laid together. -/
import Derived.Test.YteihmbaimbogaaaGreatJ27
namespace Go.Proofs.YteihmbaimbogaaaGreat
open Go.RowKit
set_option linter.unusedVariables false
set_option linter.unusedSimpArgs false
theorem pU {f q p:Nat} {S:VS} {r:Option VS} {w0:World} {Y R:List aU} {e:Ending} {w':World} (h:cZ f q p S r w0 (Y++R) e w'):cZ f q p S r w0 R e w':=by
 have hd:∀(A:aU),Sep w0 w' (A::(Y++R))→Sep w0 w' (A::R):=fun A hA=>by have h1:Sep w0 w' (Y++(A::R)):=hA.perm List.perm_middle.symm;have h2:=h1.drop Y.length;rw[List.drop_left]at h2;exact h2
 unfold cZ at*;cases r with
 |none=>exact⟨h.1,hd _ h.2⟩
 |some S1=>
  simp only at h ⊢;split
  ·rename_i h1;rw[if_pos h1]at h;split
   ·rename_i h2;rw[if_pos h2]at h;exact⟨h.1,hd _ h.2⟩
   rename_i h2;rw[if_neg h2]at h;refine⟨h.1,?_⟩;have h1:Sep w0 w' (Y++(DN f q p false::aJ p S1.aV.1::R)):=h.2.perm ((List.perm_middle (l₁:=Y) (a:=aJ p S1.aV.1) (l₂:=R)).symm.cons _|>.trans List.perm_middle.symm);have h2:=h1.drop Y.length;rw[List.drop_left]at h2;exact h2
  rename_i h1;rw[if_neg h1]at h;exact⟨h.1,hd _ h.2⟩
theorem aaY {f q p:Nat} {S:VS} {r:Option VS} {w0:World} {R:List aU} {e:Ending} {w':World} (h:cZ f q p S r w0 R e w'):∃Y,Sep w0 w' (Y++R):=by
 unfold cZ at h;cases r with
 |none=>exact⟨[_],h.2⟩
 |some S1=>
  simp only at h;split at h
  ·split at h
   ·exact⟨[_],h.2⟩
   exact⟨[_,_],h.2⟩
  exact⟨[_],h.2⟩
def vO (f q p:Nat) (S:VS) (r:Except Int (Option VS)) (w0:World) (R:List aU) (e:Ending) (w':World):Prop:=
 match r with
 | .error k=>e= .panicked (eH k)∧∃a',VC S a'∧Sep w0 w' (aG f q p S a'::R)
 | .ok r=>cZ f q p S r w0 R e w'
def iF (r:Int×Int×Int):Option Int:=if r.2.2=0 then(if r.2.1<0 then none else some 23)else some r.2.2
theorem D9 (r:Int×Int×Int):rW r=match iF r with|some k=>.panicked (eH k)|none=>.returned (.int .i64 r.1):=by
 unfold rW iF;by_cases h1:r.2.2=0
 ·rw[if_pos h1,if_pos h1];by_cases h2:r.2.1<0
  ·rw[if_pos h2,if_pos h2]
  rw[if_neg h2,if_neg h2]
 rw[if_neg h1,if_neg h1]
theorem EA {r:Int×Int×Int} (h:iF r=none):r.2.2=0∧r.2.1<0:=by
 unfold iF at h;by_cases h1:r.2.2=0
 ·rw[if_pos h1]at h;by_cases h2:r.2.1<0
  ·exact⟨h1,h2⟩
  rw[if_neg h2]at h;cases h
 rw[if_neg h1]at h;cases h
def IQ (S:VS) (path:List UInt8) (x:VI) (bs:List UInt8):Except Int (Option VS):=
 match iF (aW S.cur S.data 0 0 (splitB path))with
 |some k=>.error k
 |none=>if S.nodes<256 then .ok (j6 S x bs (aW S.cur S.data 0 0 (splitB path)).1.toNat (aR path))else .error 31
section
variable {w0 w:World} {R:List aU} {f q p:Nat} {S:VS} {a:VA}
theorem aaZ {w0:World} {R:List aU}:iB w0 R (.slice none 0 0) []:=fun w' X h=>(h.fO 5 1).rd 0 rfl
set_option maxRecDepth 100000 in
set_option maxHeartbeats 4000000 in
theorem aa0 {vs:Value} {op kk:Int} {mode:Nat} {path tz:List UInt8} (hC:VC S a) (hV:VW S) (hb:S.D.back=[]) (hv:aP path=true) (hp:path.length≤1048576)
  (hm:∀d:Nat,aW S.cur S.data 0 0 (splitB path)=((d:Int), -1,0)→S.nodes<256→tN S (⟨1,mode,1,0,[]⟩:VI) [] d path) (h:Sep w0 w (aG f q p S a::R)):
  Calls Tryz.prog 45 #[.pointer (some ⟨f,0,none⟩),.agg #[.int .i64 op,aM path,aM tz,.int .i64 mode,.int .i64 kk],vs] w (vO f q p S (IQ S path (⟨1,mode,1,0,[]⟩:VI) []) w0 R):=by
 have hno:Hid (∀W b,Sep w0 W (aG f q p S a:: .box b 38 #[.int .i64 op,aM path,aM tz,.int .i64 mode,.int .i64 kk]::R)→Calls Tryz.prog 98 #[.pointer (some ⟨f,0,none⟩),aM path] W fun e w'=>e=rW (aW S.cur S.data 0 0 (splitB path))∧∃a',VC S a'∧Sep w0 w' (aG f q p S a':: .box b 38 #[.int .i64 op,aM path,aM tz,.int .i64 mode,.int .i64 kk]::R)):=Lh fun W b hW=>
  (DZ hC hV hv hp hW).mono fun e w' ⟨h1,a',h2,h3⟩=>⟨h1,a',h2.ok,h3⟩
 have hon:Hid (∀W b a1,Sep w0 W (aG f q p S a1:: .box b 38 #[.int .i64 op,aM path,aM tz,.int .i64 mode,.int .i64 kk]::R)→Calls Tryz.prog 62 #[.pointer (some ⟨f,0,none⟩)] W fun e w'=>e=(if S.nodes<256 then .returned (.tuple #[])else .panicked (eH 31))∧w'=W):=Lh fun W b a1 hW=>YM hW
 have hmd:Hid (∀d:Nat,aW S.cur S.data 0 0 (splitB path)=((d:Int), -1,0)→S.nodes<256→∀W b a1,VC S a1→Sep w0 W (aG f q p S a1:: .box b 38 #[.int .i64 op,aM path,aM tz,.int .i64 mode,.int .i64 kk]::R)→Calls Tryz.prog 63 #[.pointer (some ⟨f,0,none⟩),.int .i64 d,aM path,.agg #[.int .i64 1,.int .i64 mode,.int .i64 1,.int .i64 0,.slice none 0 0],.slice none 0 0] W fun e w'=>cZ f q p S (j6 S (⟨1,mode,1,0,[]⟩:VI) [] d (aR path)) w0 R e w'):=Lh fun d h1 h2 W b a1 h3 hW=>
  (R6 (x:=(⟨1,mode,1,0,[]⟩:VI)) h3 hV.vf hb (hm d h1 h2) (aaZ) hW).mono fun e w' ho=>pU (Y:=[_]) ho
 have hok:=vK hV (splitB path) 0 0 hV.n0 hV.n0;have hcs:Hid (∀W b Y,Sep w0 W (Y++(.box b 38 #[.int .i64 op,aM path,aM tz,.int .i64 mode,.int .i64 kk]::R))→W.cell? ⟨b,1,none⟩=some (aM path)∧W.cell? ⟨b,3,none⟩=some (.int .i64 mode)):=Lh fun W b Y hW=>⟨hW.gQ 0 rfl 1,hW.gQ 0 rfl 3⟩
 have hX:Hid (Sep w0 (w.alloc (.cells #[.int .i64 op,aM path,aM tz,.int .i64 mode,.int .i64 kk] 38)) (aG f q p S a:: .box w.heap.size 38 #[.int .i64 op,aM path,aM tz,.int .i64 mode,.int .i64 kk]::R)):=Lh ((h.bN _ _).perm (List.Perm.swap _ _ _));have iG:=hno.out _ _ hX.out;have hc:=hcs.out _ _ [_] hX.out;obtain⟨b,hbb⟩:∃b,b=w.heap.size:=⟨_,rfl⟩;rw[←hbb]at iG hc;have anC:=Lh hbb;obtain⟨r,hr⟩:∃r,r=aW S.cur S.data 0 0 (splitB path):=⟨_,rfl⟩;unfold IQ;rw[←hr]at iG hmd hok ⊢;obtain⟨nb,hnb⟩:∃x,x=aR path:=⟨_,rfl⟩;rw[←hnb]at hmd ⊢;clear hC hV hb hv hp hm h hno hr hnb hX;rw[D9]at iG;cases hn:iF r with
 |some k=>rw[hn]at iG;clear hok hmd hn hon;unfold aM at*;simp only at iG;rw[hbb]at iG hc;go_enter Tryz.func45,Tryz.ntmps45;go_wp2_with(go_at_call 98;refine iG.mono ?_;rintro e w9 ⟨rfl,a9,kE,h9⟩;have hend:=Lh (And.intro kE h9);clear kE h9 iG);unfold vO;exact⟨rfl,rfl,_,hend.out.1,(hend.out.2.perm (List.Perm.swap _ _ _)).drop 1⟩
 |none=>
  rw[hn]at iG;obtain⟨hr0,hr1⟩:=EA hn;obtain⟨⟨d,hdl,hd⟩,hd2⟩:=hok hr0;have hd3:r.2.1= -1:=by
   rcases hd2 with hd2|⟨m,_,hd2⟩
   ·exact hd2
   omega
  (have hre:r=((d:Int), -1,0):=by obtain⟨r1,r2,r3⟩:=r;simp only at hd hd3 hr0;rw[hd,hd3,hr0]);subst hre;simp only[Int.toNat_natCast]at*;clear hok hn hr0 hr1 hd hd2 hd3 hdl;by_cases hnn:S.nodes<256
  ·rw[if_pos hnn]at hon ⊢;have V9:=Lh (hmd.out d rfl hnn);obtain⟨rX,KS⟩:∃rX,rX=j6 S (⟨1,mode,1,0,[]⟩:VI) [] d nb:=⟨_,rfl⟩;rw[←KS]at V9 ⊢;clear hmd hnn KS;unfold aM at*;rw[hbb]at iG hc;go_enter Tryz.func45,Tryz.ntmps45;go_wp2_with(first |(go_at_call 98;refine iG.mono ?_;rintro e w9 ⟨rfl,a9,kE,h9⟩;clear hc;rw[←hbb]at h9 ⊢;have hc:=hcs.out _ _ [_] h9;have hX:=Lh h9;have hVC:=Lh kE;have zY:=hon.out _ _ _ h9;clear kE h9 iG hbb)|(go_at_call 62;refine zY.mono ?_;rintro e w8 ⟨rfl,h8⟩;obtain rfl:=h8.symm;clear zY;have ajP:=V9.out _ _ _ hVC.out hX.out;clear hX hVC V9)|(go_at_call 63;refine ajP.mono ?_;intro e w7 ho;rcases lU ho with rfl|⟨k,rfl⟩))
   ·go_end0
    exact ho
   exact⟨rfl,ho⟩
  rw[if_neg hnn]at hon ⊢;clear hmd hnn;unfold aM at*;rw[hbb]at iG hc;go_enter Tryz.func45,Tryz.ntmps45;go_wp2_with(first |(go_at_call 98;refine iG.mono ?_;rintro e w9 ⟨rfl,a9,kE,h9⟩;have zY:=hon.out _ _ _ h9;have hend:=Lh (And.intro kE h9);clear kE h9 iG)|(go_at_call 62;refine zY.mono ?_;rintro e w8 ⟨rfl,h8⟩;obtain rfl:=h8.symm;clear zY));unfold vO;exact⟨rfl,rfl,_,hend.out.1,(hend.out.2.perm (List.Perm.swap _ _ _)).drop 1⟩
set_option maxRecDepth 100000 in
set_option maxHeartbeats 4000000 in
theorem aa1 {sa:Addr} {nn cc kk:Nat} {v:Value} {bs:List UInt8} {op:Int} {mode:Nat} {path tz:List UInt8} (hC:VC S a) (hV:VW S) (hb:S.D.back=[]) (hv:aP path=true) (hp:path.length≤1048576) (hst:∀W Y,Sep w0 W (Y++R)→W.cell? (sa.add kk)=some v) (hkk:kk<nn) (hnn:nn<9223372036854775808) (hbv:iB w0 R v bs)
  (hm:∀d:Nat,aW S.cur S.data 0 0 (splitB path)=((d:Int), -1,0)→S.nodes<256→tN S (⟨2,mode,1,0,[]⟩:VI) bs d path) (h:Sep w0 w (aG f q p S a::R)):
  Calls Tryz.prog 50 #[.pointer (some ⟨f,0,none⟩),.agg #[.int .i64 op,aM path,aM tz,.int .i64 mode,.int .i64 kk],.slice (some sa) nn cc] w (vO f q p S (IQ S path (⟨2,mode,1,0,[]⟩:VI) bs) w0 R):=by
 have hno:Hid (∀W b,Sep w0 W (aG f q p S a:: .box b 38 #[.int .i64 op,aM path,aM tz,.int .i64 mode,.int .i64 kk]::R)→Calls Tryz.prog 98 #[.pointer (some ⟨f,0,none⟩),aM path] W fun e w'=>e=rW (aW S.cur S.data 0 0 (splitB path))∧∃a',VC S a'∧Sep w0 w' (aG f q p S a':: .box b 38 #[.int .i64 op,aM path,aM tz,.int .i64 mode,.int .i64 kk]::R)):=Lh fun W b hW=>
  (DZ hC hV hv hp hW).mono fun e w' ⟨h1,a',h2,h3⟩=>⟨h1,a',h2.ok,h3⟩
 have hon:Hid (∀W b a1,Sep w0 W (aG f q p S a1:: .box b 38 #[.int .i64 op,aM path,aM tz,.int .i64 mode,.int .i64 kk]::R)→Calls Tryz.prog 62 #[.pointer (some ⟨f,0,none⟩)] W fun e w'=>e=(if S.nodes<256 then .returned (.tuple #[])else .panicked (eH 31))∧w'=W):=Lh fun W b a1 hW=>YM hW
 have hmd:Hid (∀d:Nat,aW S.cur S.data 0 0 (splitB path)=((d:Int), -1,0)→S.nodes<256→∀W b a1,VC S a1→Sep w0 W (aG f q p S a1:: .box b 38 #[.int .i64 op,aM path,aM tz,.int .i64 mode,.int .i64 kk]::R)→Calls Tryz.prog 63 #[.pointer (some ⟨f,0,none⟩),.int .i64 d,aM path,.agg #[.int .i64 2,.int .i64 mode,.int .i64 1,.int .i64 0,.slice none 0 0],v] W fun e w'=>cZ f q p S (j6 S (⟨2,mode,1,0,[]⟩:VI) bs d (aR path)) w0 R e w'∧∃Y,Sep w0 w' (Y++(.box b 38 #[.int .i64 op,aM path,aM tz,.int .i64 mode,.int .i64 kk]::R))):=Lh fun d h1 h2 W b a1 h3 hW=>
  (R6 (x:=(⟨2,mode,1,0,[]⟩:VI)) h3 hV.vf hb (hm d h1 h2) (hbv.cons) hW).mono fun e w' ho=>⟨pU (Y:=[_]) ho,aaY ho⟩
 have hok:=vK hV (splitB path) 0 0 hV.n0 hV.n0;have hcs:Hid (∀W b Y,Sep w0 W (Y++(.box b 38 #[.int .i64 op,aM path,aM tz,.int .i64 mode,.int .i64 kk]::R))→W.cell? ⟨b,1,none⟩=some (aM path)∧W.cell? ⟨b,3,none⟩=some (.int .i64 mode)∧W.cell? ⟨b,4,none⟩=some (.int .i64 kk)∧W.cell? (sa.add kk)=some v):=Lh fun W b Y hW=>⟨hW.gQ 0 rfl 1,hW.gQ 0 rfl 3,hW.gQ 0 rfl 4,hst W (Y++[_]) (by rw[List.append_assoc];exact hW)⟩
 have hX:Hid (Sep w0 (w.alloc (.cells #[.int .i64 op,aM path,aM tz,.int .i64 mode,.int .i64 kk] 38)) (aG f q p S a:: .box w.heap.size 38 #[.int .i64 op,aM path,aM tz,.int .i64 mode,.int .i64 kk]::R)):=Lh ((h.bN _ _).perm (List.Perm.swap _ _ _));have iG:=hno.out _ _ hX.out;have hc:=hcs.out _ _ [_] hX.out;obtain⟨b,hbb⟩:∃b,b=w.heap.size:=⟨_,rfl⟩;rw[←hbb]at iG hc;have anC:=Lh hbb;obtain⟨r,hr⟩:∃r,r=aW S.cur S.data 0 0 (splitB path):=⟨_,rfl⟩;unfold IQ;rw[←hr]at iG hmd hok ⊢;obtain⟨nb,hnb⟩:∃x,x=aR path:=⟨_,rfl⟩;rw[←hnb]at hmd ⊢;obtain⟨A9,L9,c9,hv9⟩:∃A L c,v= .slice A L c:=by obtain⟨_,A,c,e,_⟩:=hbv w [_] h;exact⟨A,_,c,e⟩
 subst hv9;have q0:(0:Int)≤kk:=by omega
 have q1:(kk:Int)<nn:=by omega
 clear hC hV hb hv hp hm h hno hr hnb hX hst hbv;rw[D9]at iG;cases hn:iF r with
 |some k=>rw[hn]at iG;clear hok hmd hn hon;unfold aM at*;simp only at iG;rw[hbb]at iG hc;go_enter Tryz.func50,Tryz.ntmps50;go_wp2_with(go_at_call 98;refine iG.mono ?_;rintro e w9 ⟨rfl,a9,kE,h9⟩;have hend:=Lh (And.intro kE h9);clear kE h9 iG);unfold vO;exact⟨rfl,rfl,_,hend.out.1,(hend.out.2.perm (List.Perm.swap _ _ _)).drop 1⟩
 |none=>
  rw[hn]at iG;obtain⟨hr0,hr1⟩:=EA hn;obtain⟨⟨d,hdl,hd⟩,hd2⟩:=hok hr0;have hd3:r.2.1= -1:=by
   rcases hd2 with hd2|⟨m,_,hd2⟩
   ·exact hd2
   omega
  (have hre:r=((d:Int), -1,0):=by obtain⟨r1,r2,r3⟩:=r;simp only at hd hd3 hr0;rw[hd,hd3,hr0]);subst hre;simp only[Int.toNat_natCast]at*;clear hok hn hr0 hr1 hd hd2 hd3 hdl;by_cases hnn:S.nodes<256
  ·rw[if_pos hnn]at hon ⊢;have V9:=Lh (hmd.out d rfl hnn);obtain⟨rX,KS⟩:∃rX,rX=j6 S (⟨2,mode,1,0,[]⟩:VI) bs d nb:=⟨_,rfl⟩;rw[←KS]at V9 ⊢;clear hmd hnn KS;unfold aM at*;rw[hbb]at iG hc;go_enter Tryz.func50,Tryz.ntmps50;go_wp2_with(first |(go_at_call 98;refine iG.mono ?_;rintro e w9 ⟨rfl,a9,kE,h9⟩;clear hc;rw[←hbb]at h9 ⊢;have hc:=hcs.out _ _ [_] h9;have hX:=Lh h9;have hVC:=Lh kE;have zY:=hon.out _ _ _ h9;clear kE h9 iG hbb)|(go_at_call 62;refine zY.mono ?_;rintro e w8 ⟨rfl,h8⟩;obtain rfl:=h8.symm;clear zY)|(go_at_call 63;refine ajP.mono ?_;intro e w7 ho;rcases lU ho with rfl|⟨k,rfl⟩));have hc2:w9.drew.cell? ⟨b,1,none⟩=some (.string ⟨path.toArray⟩)∧w9.drew.cell? ⟨b,3,none⟩=some (.int .i64 mode)∧w9.drew.cell? ⟨b,4,none⟩=some (.int .i64 kk)∧w9.drew.cell? (sa.add kk)=some (.slice A9 L9 c9):=hc;have ajP:=V9.out _ _ _ hVC.out hX.out.drew;clear hc hX hVC V9;refine aN (S:=fun w'=>w'.cell? ⟨b,1,none⟩=some (.string ⟨path.toArray⟩)∧w'.cell? ⟨b,3,none⟩=some (.int .i64 mode)∧w'.cell? ⟨b,4,none⟩=some (.int .i64 kk)∧w'.cell? (sa.add kk)=some (.slice A9 L9 c9)) 13 (by kernel_rfl) ?_;simp only[List.size_toArray,List.length_cons,List.length_nil,Nat.reduceAdd];refine aA (i:=0) (v:=?_) hc2 rfl ?_ ?_;rotate_left
   ·rintro w ⟨e1,e2,e3,e4⟩;go_simp;try with_reducible rfl
   simp only[Act.put,gD];refine aA (i:=1) (v:=?_) hc2 rfl ?_ ?_;rotate_left
   ·rintro w ⟨e1,e2,e3,e4⟩;go_simp;try with_reducible rfl
   simp only[Act.put,gD];refine aA (i:=2) (v:=?_) hc2 rfl ?_ ?_;rotate_left
   ·rintro w ⟨e1,e2,e3,e4⟩;go_simp;try with_reducible rfl
   simp only[Act.put,gD];refine aA (i:=3) (v:=?_) hc2 rfl ?_ ?_;rotate_left
   ·rintro w ⟨e1,e2,e3,e4⟩;go_simp;try with_reducible rfl
   simp only[Act.put,gD];refine aA (i:=4) (v:=?_) hc2 rfl ?_ ?_;rotate_left
   ·rintro w ⟨e1,e2,e3,e4⟩;go_simp;try with_reducible rfl
   simp only[Act.put,gD];refine aA (i:=5) (v:=?_) hc2 rfl ?_ ?_;rotate_left
   ·rintro w ⟨e1,e2,e3,e4⟩;go_simp;try with_reducible rfl
   simp only[Act.put,gD];refine aA (i:=6) (v:=?_) hc2 rfl ?_ ?_;rotate_left
   ·rintro w ⟨e1,e2,e3,e4⟩;go_simp;try with_reducible rfl
   simp only[Act.put,gD];refine aA (i:=7) (v:=?_) hc2 rfl ?_ ?_;rotate_left
   ·rintro w ⟨e1,e2,e3,e4⟩;go_simp;try with_reducible rfl
   simp only[Act.put,gD];refine aA (i:=8) (v:=?_) hc2 rfl ?_ ?_;rotate_left
   ·rintro w ⟨e1,e2,e3,e4⟩;go_simp;try with_reducible rfl
   simp only[Act.put,gD];refine aA (i:=9) (v:=?_) hc2 rfl ?_ ?_;rotate_left
   ·rintro w ⟨e1,e2,e3,e4⟩;go_simp;try with_reducible rfl
   simp only[Act.put,gD];refine aA (i:=10) (v:=?_) hc2 rfl ?_ ?_;rotate_left
   ·rintro w ⟨e1,e2,e3,e4⟩;go_simp;try with_reducible rfl
   simp only[Act.put,gD];refine aA (i:=11) (v:=?_) hc2 rfl ?_ ?_;rotate_left
   ·rintro w ⟨e1,e2,e3,e4⟩;go_simp;try with_reducible rfl
   simp only[Act.put,gD];refine aC (i:=12) (by kernel_rfl) rfl (fun K hK=>?_);go_simp;go_at_call 63;refine ajP.mono ?_;rintro e w7 ⟨ho,Y,hY⟩;have hc3:=hcs.out _ _ _ hY;rcases lU ho with rfl|⟨k,rfl⟩
   ·dsimp only;refine hK _ _ (fun _=>hc3) ?_;clear hK K;(try simp only[Act.put,gD]);refine aO (by kernel_rfl) ?_ _
    go_end0
    exact ho
   exact⟨rfl,ho⟩
  rw[if_neg hnn]at hon ⊢;clear hmd hnn;unfold aM at*;rw[hbb]at iG hc;go_enter Tryz.func50,Tryz.ntmps50;go_wp2_with(first |(go_at_call 98;refine iG.mono ?_;rintro e w9 ⟨rfl,a9,kE,h9⟩;have zY:=hon.out _ _ _ h9;have hend:=Lh (And.intro kE h9);clear kE h9 iG)|(go_at_call 62;refine zY.mono ?_;rintro e w8 ⟨rfl,h8⟩;obtain rfl:=h8.symm;clear zY));unfold vO;exact⟨rfl,rfl,_,hend.out.1,(hend.out.2.perm (List.Perm.swap _ _ _)).drop 1⟩
end
def eD (r:Int×Int×Int):Option Int:=if r.2.2=0 then(if r.2.1<0 then some 21 else none)else some r.2.2
def qR (c:dW) (r:Int×Int×Int):Option Int:=if r.2.2=0 then(if r.2.1<0 then some 21 else if(aF c r.2.1.toNat).kind=1 then some 24 else none)else some r.2.2
theorem KU (r:Int×Int×Int):nA r=match eD r with|some k=>.panicked (eH k)|none=>.returned (.tuple #[.int .i64 r.1,.int .i64 r.2.1]):=by
 unfold nA eD;by_cases h1:r.2.2=0
 ·rw[if_pos h1,if_pos h1];by_cases h2:r.2.1<0
  ·rw[if_pos h2,if_pos h2]
  rw[if_neg h2,if_neg h2]
 rw[if_neg h1,if_neg h1]
theorem ae8 (c:dW) (r:Int×Int×Int):RH c r=match qR c r with|some k=>.panicked (eH k)|none=>.returned (.tuple #[.int .i64 r.1,.int .i64 r.2.1]):=by
 unfold RH qR;by_cases h1:r.2.2=0
 ·rw[if_pos h1,if_pos h1];by_cases h2:r.2.1<0
  ·rw[if_pos h2,if_pos h2]
  rw[if_neg h2,if_neg h2];by_cases h3:(aF c r.2.1.toNat).kind=1
  ·rw[if_pos h3,if_pos h3]
  rw[if_neg h3,if_neg h3]
 rw[if_neg h1,if_neg h1]
theorem KV {r:Int×Int×Int} (h:eD r=none):r.2.2=0∧¬r.2.1<0:=by
 unfold eD at h;by_cases h1:r.2.2=0
 ·rw[if_pos h1]at h;by_cases h2:r.2.1<0
  ·rw[if_pos h2]at h;cases h
  exact⟨h1,h2⟩
 rw[if_neg h1]at h;cases h
theorem ae9 {c:dW} {r:Int×Int×Int} (h:qR c r=none):r.2.2=0∧¬r.2.1<0∧¬(aF c r.2.1.toNat).kind=1:=by
 unfold qR at h;by_cases h1:r.2.2=0
 ·rw[if_pos h1]at h;by_cases h2:r.2.1<0
  ·rw[if_pos h2]at h;cases h
  rw[if_neg h2]at h;by_cases h3:(aF c r.2.1.toNat).kind=1
  ·rw[if_pos h3]at h;cases h
  exact⟨h1,h2,h3⟩
 rw[if_neg h1]at h;cases h
theorem R7 {S:VS} (hV:VW S) {path:List UInt8} (h1:(aW S.cur S.data 0 0 (splitB path)).2.2=0) (h2:¬(aW S.cur S.data 0 0 (splitB path)).2.1<0):
  ∃d m:Nat,d<S.names∧m<S.names∧aW S.cur S.data 0 0 (splitB path)=((d:Int),(m:Int),0):=by
 obtain⟨⟨d,hd,e1⟩,h3⟩:=vK hV (splitB path) 0 0 hV.n0 hV.n0 h1;rcases h3 with h3|⟨m,hm,e2⟩
 ·omega
 exact⟨d,m,hd,hm,by rw[←e1,←e2,←h1]⟩
theorem IU :∀args w,(callFunc 106 args).run Tryz.prog w= .ok (.enter 106 args) w:=Go.Proofs.enters_of Tryz.func106 (by kernel_rfl) rfl
section
variable {w0 w:World} {R:List aU} {f q p:Nat} {S:VS} {a:VA}
def afA (S:VS) (path:List UInt8) (mode:Nat):Except Int (Option VS):=
 match eD (aW S.cur S.data 0 0 (splitB path))with
 |some k=>.error k
 |none=>.ok (some (aeZ S (aW S.cur S.data 0 0 (splitB path)).2.1.toNat mode))
def zZ (S:VS) (path:List UInt8):Except Int (Option VS):=
 match qR S.cur (aW S.cur S.data 0 0 (splitB path))with
 |some k=>.error k
 |none=>.ok (some (lG S (aW S.cur S.data 0 0 (splitB path)).1.toNat (aR path) (aW S.cur S.data 0 0 (splitB path)).2.1.toNat))
structure IV (S:VS) (dir:Nat) (path:List UInt8) (n:Nat):Prop where
 lv:wV S dir (aR path)
 sm:lJ S
 ino:oF (bY S dir (aR path)) n
 links:1≤(aF (bY S dir (aR path)).cur n).links
 w:fD (bY S dir (aR path))
 drop:oF ((bY S dir (aR path)).keep n {aF (bY S dir (aR path)).cur n with links:=(aF (bY S dir (aR path)).cur n).links-1}) n
 dw:fD ((bY S dir (aR path)).keep n {aF (bY S dir (aR path)).cur n with links:=(aF (bY S dir (aR path)).cur n).links-1})
 chg:mG S (lG S dir (aR path) n)
set_option maxRecDepth 100000 in
set_option maxHeartbeats 4000000 in
theorem WA {vs:Value} {op mode kk:Int} {path tz:List UInt8} (hC:VC S a) (hV:VW S) (hb:S.D.back=[]) (hv:aP path=true) (hp:path.length≤1048576)
  (hch:∀d m:Nat,m<S.names→aW S.cur S.data 0 0 (splitB path)=((d:Int),(m:Int),0)→¬(aF S.cur m).kind=1→IV S d path m) (h:Sep w0 w (aG f q p S a::R)):
  Calls Tryz.prog 49 #[.pointer (some ⟨f,0,none⟩),.agg #[.int .i64 op,aM path,aM tz,.int .i64 mode,.int .i64 kk],vs] w (vO f q p S (zZ S path) w0 R):=by
 have hno:Hid (∀W bi bf,Sep w0 W (.box bi 38 #[.int .i64 op,aM path,aM tz,.int .i64 mode,.int .i64 kk]:: .box bf 24 #[.pointer (some ⟨f,0,none⟩)]::aG f q p S a::R)→W.cell? ⟨bf,0,none⟩=some (.pointer (some ⟨f,0,none⟩))∧W.cell? ⟨bi,1,none⟩=some (aM path)∧Calls Tryz.prog 71 #[.pointer (some ⟨f,0,none⟩),aM path] W fun e w'=>e=RH S.cur (aW S.cur S.data 0 0 (splitB path))∧∃a',VC S a'∧Sep w0 w' (aG f q p S a':: .box bi 38 #[.int .i64 op,aM path,aM tz,.int .i64 mode,.int .i64 kk]:: .box bf 24 #[.pointer (some ⟨f,0,none⟩)]::R)):=Lh fun W bi bf hW=>
  ⟨hW.bC 1 rfl 0,hW.bC 0 rfl 1,(aeS hC hV hv hp (Sep.bZ [2,0,1] hW (by decide) (by simp))).mono fun e w' ⟨h1,a',h2,h3⟩=>⟨h1,a',h2.ok,h3⟩⟩
 have hcg:Hid (∀d m:Nat,m<S.names→aW S.cur S.data 0 0 (splitB path)=((d:Int),(m:Int),0)→¬(aF S.cur m).kind=1→∀W bn bd bi bf a1,VC S a1→Sep w0 W (.box bn 3 #[.int .i64 m]:: .box bd 3 #[.int .i64 d]::aG f q p S a1:: .box bi 38 #[.int .i64 op,aM path,aM tz,.int .i64 mode,.int .i64 kk]:: .box bf 24 #[.pointer (some ⟨f,0,none⟩)]::R)→W.cell? ⟨bf,0,none⟩=some (.pointer (some ⟨f,0,none⟩))∧Calls Tryz.prog 65 #[.pointer (some ⟨f,0,none⟩),.func (.func 106) #[] #[.pointer (some ⟨bf,0,none⟩),.pointer (some ⟨bd,0,none⟩),.pointer (some ⟨bi,0,none⟩),.pointer (some ⟨bn,0,none⟩)]] W (cZ f q p S (some (lG S d (aR path) m)) w0 R)):=Lh fun d m hm hl hk W bn bd bi bf a1 jY hW=>by refine⟨hW.bC 4 rfl 0,?_⟩;have h1:Sep w0 W (aG f q p S a1:: .box bn 3 #[.int .i64 m]:: .box bd 3 #[.int .i64 d]:: .box bi 38 #[.int .i64 op,aM path,aM tz,.int .i64 mode,.int .i64 kk]:: .box bf 24 #[.pointer (some ⟨f,0,none⟩)]::R):=Sep.bZ [2,0,1] hW (by decide) (by simp);have ho:=hch d m hm hl hk;(refine(H5 (R':=.box bn 3 #[.int .i64 m]:: .box bd 3 #[.int .i64 d]:: .box bi 38 #[.int .i64 op,aM path,aM tz,.int .i64 mode,.int .i64 kk]:: .box bf 24 #[.pointer (some ⟨f,0,none⟩)]::R) IU jY hb (fun S1 e=>by cases e;exact ho.chg) (fun W2 X hX=>?_) h1).mono fun e w' ho=>pU (Y:=[_,_,_,_]) ho);exact RY (fun W3 Y hY=>by(have hY2:Sep w0 W3 ((Y++X)++(.box bn 3 #[.int .i64 m]:: .box bd 3 #[.int .i64 d]:: .box bi 38 #[.int .i64 op,aM path,aM tz,.int .i64 mode,.int .i64 kk]:: .box bf 24 #[.pointer (some ⟨f,0,none⟩)]::R)):=by rw[List.append_assoc];exact hY);exact⟨hY2.gQ 3 rfl 0,hY2.gQ 1 rfl 0,hY2.gQ 2 rfl 1,hY2.gQ 0 rfl 0⟩) jY hV.vf hv hp ho.lv ho.sm ho.ino ho.links ho.w ho.drop ho.dw hX
 have hln:=R7 hV (path:=path);have hX0:Hid (Sep w0 ((w.alloc (.cells #[.pointer (some ⟨f,0,none⟩)] 24)).alloc (.cells #[.int .i64 op,aM path,aM tz,.int .i64 mode,.int .i64 kk] 38)) (.box (w.heap.size+1) 38 #[.int .i64 op,aM path,aM tz,.int .i64 mode,.int .i64 kk]:: .box w.heap.size 24 #[.pointer (some ⟨f,0,none⟩)]::aG f q p S a::R)):=Lh (by have h1:=(h.bN 24 #[.pointer (some ⟨f,0,none⟩)]).bN 38 #[.int .i64 op,aM path,aM tz,.int .i64 mode,.int .i64 kk];rw[OX]at h1;exact h1);obtain⟨d0,d1,iG⟩:=hno.out _ _ _ hX0.out;obtain⟨r,hr⟩:∃r,r=aW S.cur S.data 0 0 (splitB path):=⟨_,rfl⟩;unfold zZ;rw[←hr]at iG hcg hln ⊢;clear hC hV hb hv hp hch h hno hr hX0;rw[ae8]at iG;cases hn:qR S.cur r with
 |some k=>rw[hn]at iG;clear hcg hln hn;unfold aM at*;simp only at iG;go_enter Tryz.func49,Tryz.ntmps49;go_wp2_with(go_at_call 71;refine iG.mono ?_;rintro e w9 ⟨rfl,a9,kE,h9⟩;have hend:=Lh (And.intro kE h9);clear kE h9 iG);unfold vO;exact⟨rfl,rfl,_,hend.out.1,(Sep.bZ [1,2,0] hend.out.2 (by decide) (by simp)).drop 2⟩
 |none=>
  rw[hn]at iG;obtain⟨hr0,hr1,hr2⟩:=ae9 hn;obtain⟨d,m,hdl,hml,hre⟩:=hln hr0 hr1;rw[hre]at hr2;have afB:=hcg.out d m hml hre hr2;rw[hre]at iG ⊢;simp only[Int.toNat_natCast]at iG ⊢;obtain⟨rX,KS⟩:∃rX,rX=some (lG S d (aR path) m):=⟨_,rfl⟩;rw[←KS]at afB ⊢;replace afB:=Lh afB;clear hcg hln hn hr0 hr1 hr2 hdl hml hre KS;unfold aM at*;unfold vO;go_enter Tryz.func49,Tryz.ntmps49;go_wp2_with(first |(go_at_call 71;refine iG.mono ?_;rintro e w9 ⟨rfl,a9,kE,h9⟩;have h8:=(h9.bN 3 #[.int .i64 d]).bN 3 #[.int .i64 m];rw[OX]at h8;obtain⟨d3,hcall⟩:=afB.out _ _ _ _ _ _ kE h8;clear h8 kE h9 iG d0 d1 afB)|(go_at_call 65;refine hcall.mono ?_;intro e w7 ho;rcases lU ho with rfl|⟨k,rfl⟩))
  ·go_end0
   exact ho
  exact⟨rfl,ho⟩
def YQ (S:VS) (path nQ:List UInt8):Except Int (Option VS):=
 match qR S.cur (aW S.cur S.data 0 0 (splitB path))with
 |some k=>.error k
 |none=>match iF (aW S.cur S.data 0 0 (splitB nQ))with
  |some k=>.error k
  |none=>.ok (YO S (aW S.cur S.data 0 0 (splitB path)).1.toNat (aR path) (aW S.cur S.data 0 0 (splitB nQ)).1.toNat (aR nQ) (aW S.cur S.data 0 0 (splitB path)).2.1.toNat)
structure afC (S:VS) (d d2:Nat) (path nQ:List UInt8) (n:Nat):Prop where
 lv:wV S d (aR path)
 sm:lJ S
 en:nL (bY S d (aR path)) d2 n (aR nQ)
 sm2:lJ (bY S d (aR path))
 chg:∀S1,YO S d (aR path) d2 (aR nQ) n=some S1→mG S S1
def al6 (S:VS) (path nQ:List UInt8):Except Int (Option VS):=
 match qR S.cur (aW S.cur S.data 0 0 (splitB path))with
 |some k=>.error k
 |none=>match iF (aW S.cur S.data 0 0 (splitB nQ))with
  |some k=>.error k
  |none=>if S.nodes<256 then .ok (al2 S (aW S.cur S.data 0 0 (splitB path)).2.1.toNat (aW S.cur S.data 0 0 (splitB nQ)).1.toNat (aR nQ))else .error 31
structure anE (S:VS) (d2:Nat) (nQ:List UInt8) (n:Nat):Prop where
 links:(aF S.cur n).links<65535
 w:fD S
 en:nL (S.keep n {aF S.cur n with links:=(aF S.cur n).links+1}) d2 n (aR nQ)
 sm2:lJ (S.keep n {aF S.cur n with links:=(aF S.cur n).links+1})
 chg:∀S1,al2 S n d2 (aR nQ)=some S1→mG S S1
end
section
variable {w0 w:World} {R:List aU} {f q p:Nat} {S:VS} {a:VA}
def arP (S:VS) (path nQ:List UInt8) (mode:Nat):Except Int (Option VS):=
 match qR S.cur (aW S.cur S.data 0 0 (splitB path))with
 |some k=>.error k
 |none=>match iF (aW S.cur S.data 0 0 (splitB nQ))with
  |some k=>.error k
  |none=>if S.nodes<256 then .ok (j6 S (⟨2,mode,1,0,[]⟩:VI) (jR S.cur S.data (aF S.cur (aW S.cur S.data 0 0 (splitB path)).2.1.toNat)) (aW S.cur S.data 0 0 (splitB nQ)).1.toNat (aR nQ))else .error 31
end
section
variable {w0 w:World} {R:List aU} {f q p:Nat} {S:VS} {a:VA}
def afD (S:VS) (path:List UInt8):Except Int (Option VS):=
 match eD (aW S.cur S.data 0 0 (splitB path))with
 |some k=>.error k
 |none=>
  if(aF S.cur (aW S.cur S.data 0 0 (splitB path)).2.1.toNat).kind≠1 then .error 22
  else if 0<(aF S.cur (aW S.cur S.data 0 0 (splitB path)).2.1.toNat).size then .error 25
  else .ok (some (nO (bY S (aW S.cur S.data 0 0 (splitB path)).1.toNat (aR path)) (aW S.cur S.data 0 0 (splitB path)).2.1.toNat))
structure ajQ (S:VS) (dir:Nat) (path:List UInt8) (n:Nat):Prop where
 lv:wV S dir (aR path)
 sm:lJ S
 ino:oF (bY S dir (aR path)) n
 w:fD (bY S dir (aR path))
 chg:mG S (nO (bY S dir (aR path)) n)
end
def bA (op:Int):Bool×Bool×Bool:=
 if(op==3||op==4)=true then(true,false,true)else if(op==7)=true then(true,true,true)else if(op==1||op==6||op==8)=true then(false,true,true)
 else if(op==2||op==5||op==9)=true then(false,false,true)else(false,false,false)
set_option maxRecDepth 100000 in
set_option maxHeartbeats 1000000 in
theorem WB (op:Int) (w:World):
  Calls Tryz.prog 96 #[.int .i64 op] w fun e w'=>e= .returned (.tuple #[.bool (bA op).1,.bool (bA op).2.1,.bool (bA op).2.2])∧w'=w:=by
 cases h3:(op==3)with
 |true=>
  (have hf:bA op=(true,false,true):=by simp[bA,h3]);rw[hf];clear hf;go_enter Tryz.func96,Tryz.ntmps96;go_wp2_with fail
  go_ret3
  exact⟨rfl,rfl⟩
 |false=>
  cases h4:(op==4)with
  |true=>
   (have hf:bA op=(true,false,true):=by simp[bA,h3,h4]);rw[hf];clear hf;go_enter Tryz.func96,Tryz.ntmps96;go_wp2_with fail
   go_ret3
   exact⟨rfl,rfl⟩
  |false=>
   cases h7:(op==7)with
   |true=>
    (have hf:bA op=(true,true,true):=by simp[bA,h3,h4,h7]);rw[hf];clear hf;go_enter Tryz.func96,Tryz.ntmps96;go_wp2_with fail
    go_ret3
    exact⟨rfl,rfl⟩
   |false=>
    cases h1:(op==1)with
    |true=>
     (have hf:bA op=(false,true,true):=by simp[bA,h3,h4,h7,h1]);rw[hf];clear hf;go_enter Tryz.func96,Tryz.ntmps96;go_wp2_with fail
     go_ret3
     exact⟨rfl,rfl⟩
    |false=>
     cases h6:(op==6)with
     |true=>
      (have hf:bA op=(false,true,true):=by simp[bA,h3,h4,h7,h1,h6]);rw[hf];clear hf;go_enter Tryz.func96,Tryz.ntmps96;go_wp2_with fail
      go_ret3
      exact⟨rfl,rfl⟩
     |false=>
      cases h8:(op==8)with
      |true=>
       (have hf:bA op=(false,true,true):=by simp[bA,h3,h4,h7,h1,h6,h8]);rw[hf];clear hf;go_enter Tryz.func96,Tryz.ntmps96;go_wp2_with fail
       go_ret3
       exact⟨rfl,rfl⟩
      |false=>
       cases h2:(op==2)with
       |true=>
        (have hf:bA op=(false,false,true):=by simp[bA,h3,h4,h7,h1,h6,h8,h2]);rw[hf];clear hf;go_enter Tryz.func96,Tryz.ntmps96;go_wp2_with fail
        go_ret3
        exact⟨rfl,rfl⟩
       |false=>
        cases h5:(op==5)with
        |true=>
         (have hf:bA op=(false,false,true):=by simp[bA,h3,h4,h7,h1,h6,h8,h2,h5]);rw[hf];clear hf;go_enter Tryz.func96,Tryz.ntmps96;go_wp2_with fail
         go_ret3
         exact⟨rfl,rfl⟩
        |false=>
         cases h9:(op==9)with
         |true=>
          (have hf:bA op=(false,false,true):=by simp[bA,h3,h4,h7,h1,h6,h8,h2,h5,h9]);rw[hf];clear hf;go_enter Tryz.func96,Tryz.ntmps96;go_wp2_with fail
          go_ret3
          exact⟨rfl,rfl⟩
         |false=>
          (have hf:bA op=(false,false,false):=by simp[bA,h3,h4,h7,h1,h6,h8,h2,h5,h9]);rw[hf];clear hf;go_enter Tryz.func96,Tryz.ntmps96;go_wp2_with fail
          go_ret3
          exact⟨rfl,rfl⟩
end Go.Proofs.YteihmbaimbogaaaGreat
