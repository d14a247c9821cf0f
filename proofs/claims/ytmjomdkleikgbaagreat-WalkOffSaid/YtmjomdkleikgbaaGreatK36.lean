/- Parts. -/
import Derived.Test.YtmjomdkleikgbaaGreatK32
import Derived.Sort.LotA
set_option linter.unusedVariables false
set_option linter.unusedSimpArgs false
set_option maxRecDepth 100000
set_option maxHeartbeats 20000000
namespace Go.Proofs
open Go.Shelf
def Tryz.insNodes_ren :Go.Shelf.Ren:=⟨fun|20=>205|n=>n,fun|24=>68|22=>22|3=>3|25=>186|4=>4|0=>0|n=>n,fun|n=>n⟩
theorem Tryz.insNodes :Go.Proofs.SlLaysF0.n20 Tryz.prog Tryz.insNodes_ren:= {
 mixed:=by kernel_rfl
 f20:=⟨Tryz.f205.name,by decide,Tryz.func205.trans (congrArg some (by kernel_rfl))⟩
 t0:=Tryz.underlying0
 a0:=Tryz.isAgg0
 z0:=Tryz.sizeOf0
 v0:=Tryz.zeroValue0
 t3:=Tryz.underlying3
 a3:=Tryz.isAgg3
 z3:=Tryz.sizeOf3
 v3:=Tryz.zeroValue3
 t4:=Tryz.underlying4
 a4:=Tryz.isAgg4
 z4:=Tryz.sizeOf4
 v4:=Tryz.zeroValue4
 t22:=Tryz.underlying22
 a22:=Tryz.isAgg22
 z22:=Tryz.sizeOf22
 v22:=Tryz.zeroValue22
 t25:=Tryz.underlying186
 a25:=Tryz.isAgg186
 z25:=Tryz.sizeOf186
 v25:=Tryz.zeroValue186}
def Tryz.strCompare_ren :Go.Shelf.Ren:=⟨fun|106=>136|213=>181|265=>207|n=>n,fun|9=>9|3=>3|n=>n,fun|n=>n⟩
theorem Tryz.strCompare :Go.Proofs.Lays.n106 Tryz.prog Tryz.strCompare_ren:= {
 mixed:=by kernel_rfl
 f106:=Tryz.func136.trans (congrArg some (by kernel_rfl))
 f213:=Tryz.func181.trans (congrArg some (by kernel_rfl))
 f265:=Tryz.func207.trans (congrArg some (by kernel_rfl))
 t3:=Tryz.underlying3
 a3:=Tryz.isAgg3
 z3:=Tryz.sizeOf3
 v3:=Tryz.zeroValue3
 t9:=Tryz.underlying9
 a9:=Tryz.isAgg9
 z9:=Tryz.sizeOf9
 v9:=Tryz.zeroValue9}
end Go.Proofs
namespace Go.Proofs.YtmjomdkleikgbaaGreat
open Go.RowKit Go.Sort
instance :Inhabited TN:=⟨⟨[],0,0⟩⟩
theorem ae7 :∀a b:List UInt8,decide (Lib.compareBytes a b<0)=Op.bytesLess a b
 |[],[]=>rfl
 |[],_::_=>rfl
 |_::_,[]=>rfl
 |a::l,b::m=>by
  unfold Lib.compareBytes Op.bytesLess;by_cases h1:a<b
  ·rw[if_pos h1];simp[h1]
  rw[if_neg h1];by_cases h2:b<a
  ·rw[if_pos h2];(have:a≠b:=fun e=>by subst e;exact h1 h2);simp[h1,this]
  rw[if_neg h2];(have:a=b:=by apply UInt8.toNat_inj.1;rw[UInt8.lt_iff_toNat_lt]at h1 h2;omega);subst this;rw[ae7 l m];simp
def cfN (x y:TN):Int:=Lib.compareBytes x.path y.path
theorem ltN (x y:TN):Go.Proofs.ltOf cfN x y=Op.bytesLess x.path y.path:=ae7 _ _
theorem aa6 :SWO (Go.Proofs.ltOf cfN):=by
 refine⟨fun x=>by rw[ltN];exact mH _,fun x y z h1 h2=>?_,fun x y z h1 h2=>?_⟩
 ·rw[ltN]at*;exact qI h1 h2
 rw[ltN]at*;cases h3:Op.bytesLess x.path z.path with
 |false=>rfl
 |true=>
  by_cases e:x.path=y.path
  ·rw[e,h2]at h3;cases h3
  have h4:=R8 h1 e;rw[qI h4 h3]at h2;cases h2
theorem aiR (w:World):(isAgg 68).run Tryz.prog w= .ok true w:=by kernel_rfl
theorem ae8 (w:World):(Go.sizeOf 68).run Tryz.prog w= .ok 3 w:=by kernel_rfl
theorem atK (x y:TN) (W:World):Calls Tryz.prog 135 #[.agg #[aC x.path,iV x.file,iV x.mode],.agg #[aC y.path,iV y.file,iV y.mode]] W fun e w'=>e= .returned (iV (cfN x y))/\∃q os',w'=grow (W.drewN q) os':=by
 have hc:=fun W=>Go.Proofs.Any.strings_Compare Go.Proofs.Tryz.strCompare ⟨x.path.toArray⟩ ⟨y.path.toArray⟩ W
 unfold aC at*;go_enter Tryz.func135,Tryz.ntmps135;go_wp2_with(go_at_call 136;refine(hc _).mono ?_;rintro e w' ⟨rfl,hw⟩;(have hw':=hw.symm);subst hw');go_ret;exact⟨rfl,0,_,by rw[alloc_eq_grow,alloc_eq_grow,grow_grow];rfl⟩
def dA (v:Value) (d:Array TN):aW:=.sl 68 3 v d.size (cZ d.toList)
theorem alD {w0 w:World} {R:List aW} {g cap a b:Nat} {d:Array TN} (h:Sep w0 w (dA (sV g d.size cap) d::R)) (hd:d.size<=5000) (hab:a<=b) (hb:b<=d.size) (hpos:0<d.size):
  Calls Tryz.prog 205 #[sV g d.size cap,iV a,iV b,.func (.func 135) #[] #[]] w fun e w'=>e= .returned (.tuple #[])/\∃d',PermIn a b d d'/\SortedIn (Go.Proofs.ltOf cfN) a b d'/\Sep w0 w' (dA (sV g d'.size cap) d'::R):=by
 obtain⟨g',c',e,_,hg,hc1,hc2⟩:=h.kC 0 rfl hpos;cases e;have hk:∀x:TN,(F8 x).length=3:=fun _=>rfl
 have h1:∀x:TN,∀v∈F8 x,v.oneCell'=true:=fun x v hv=>by simp only[F8,kE,EK,or_false]at hv;rcases hv with rfl|rfl|rfl<;>rfl
 have hH:HoldsK F8 3 w g 0 d:=fun j hj=>by rw[GZ];(have hj':j<d.size*3:=by simpa using hj);refine⟨?_,h.frozenAt 0 rfl j⟩;rw[h.cellAt 0 rfl j aD];(show(cZ d.toList)[j]? =_);unfold cZ;rw[<-yU hk aR d,getElem!_pos _ j hj];simp at hj ⊢
 have eg:∀args w,(callFunc 135 args).run Tryz.prog w= .ok (.enter 135 args) w:=Go.Proofs.enters_of Tryz.func135 fE rfl;have hcon:=Go.Proofs.AnyQ.insertionSortCmpFunc Go.Proofs.Tryz.insNodes 3 aiR ae8 F8 hk h1 cfN 135 #[] g 0 cap a b d w eg (fun _ _ _ _ x y=>atK x y _) hH hg hab hb aD;change Calls Tryz.prog 205 _ _ _ at hcon;refine hcon.mono ?_;rintro e w' ⟨rfl,n,os,rfl⟩;obtain⟨p1,p2⟩:=insertionSort_holds aa6 d a b hab hb;refine⟨rfl,_,p1,p2,?_⟩;have h5:=h.aj8 0 rfl n (flatK F8 3 (Go.Sort.insertionSort (Go.Proofs.ltOf cfN) d a b)) (by simp[p1.1]) os;rw[yU hk aR]at h5;unfold dA;rw[p1.1];exact h5
theorem axR {w:World} {A:Option Addr} {cap:Nat}:Calls Tryz.prog 205 #[.slice A 0 cap,iV 0,iV 0,.func (.func 135) #[] #[]] w fun e w'=>e= .returned (.tuple #[])/\w'=w:=by have hcon:=Go.Proofs.AnyF.insertionSortCmpFunc_none (P:=Tryz.prog) Go.Proofs.Tryz.insNodes A cap (.func (.func 135) #[] #[]) w;exact hcon
theorem Z22 {P:Prop} (h:P:=by
 go_enter Tryz.func134,Tryz.ntmps134;go_wp2_with(go_at_call 180;refine hs2.out.mono ?_;rintro e w1 ⟨rfl,d',h1,h2,h3⟩;(have h4:=Lh h1);(have h5:=Lh h2);(have h6:=Lh h3);clear h1 h2 h3)
 go_end0
 exact⟨rfl,d',h4.out,h5.out,h6.out⟩):P:=h
theorem aa7 {w0 w:World} {R:List aW} {v:Value} {d:Array TN} (h:Sep w0 w (dA v d::R)) (hd:d.size<20):
  Calls Tryz.prog 134 #[v,.func (.func 135) #[] #[]] w fun e w'=>e= .returned (.tuple #[])/\∃d',PermIn 0 d.size d d'/\SortedIn (Go.Proofs.ltOf cfN) 0 d.size d'/\Sep w0 w' (dA v d'::R):=by
 have hin:∃A c,v= .slice A d.size c/\Hid (∀W,Sep w0 W (dA v d::R)->Calls Tryz.prog 205 #[.slice A d.size c,iV 0,iV d.size,.func (.func 135) #[] #[]] W fun e w'=>e= .returned (.tuple #[])/\∃d',PermIn 0 d.size d d'/\SortedIn (Go.Proofs.ltOf cfN) 0 d.size d'/\Sep w0 w' (dA v d'::R)):=by
  rcases yL d.size with h0|hpos
  ·obtain⟨A,c,rfl,_⟩:=h.gL 0 rfl;refine⟨A,c,rfl,Lh fun W hW=>?_⟩;rw[h0]at hW ⊢;refine(axR (w:=W) (A:=A) (cap:=c)).mono ?_;rintro e w' ⟨rfl,rfl⟩;exact⟨rfl,d,permIn_refl _ _ _,fun i j _ _ hj=>by omega,hW⟩
  obtain⟨g,c,rfl,_⟩:=h.kC 0 rfl hpos;refine⟨_,c,rfl,Lh fun W hW=>?_⟩;refine(alD hW aD (fZ _) (iC _) hpos).mono ?_;rintro e w' ⟨rfl,d',h1,h2,h3⟩;refine⟨rfl,d',h1,h2,?_⟩;rw[h1.1]at h3;exact h3
 obtain⟨A,c,rfl,hin⟩:=hin;have hS:=Lh h;have q1:(d.size:Int)<20:=by omega
 have q0:(0:Int)<=(d.size:Int):=by omega
 obtain⟨n,hn⟩:∃n,n=d.size:=⟨_,rfl⟩;rw[<-hn]at q1 q0 hin ⊢;have hst:Hid (∀W,Sep w0 W (dA (.slice A n c) d::R)->Calls Tryz.prog 180 #[.slice A n c,iV n,.func (.func 135) #[] #[]] W fun e w'=>e= .returned (.tuple #[])/\∃d',PermIn 0 n d d'/\SortedIn (Go.Proofs.ltOf cfN) 0 n d'/\Sep w0 w' (dA (.slice A n c) d'::R)):=Lh fun W hW=>by
  have hi:=Lh (hin.out W hW);clear hin hS h hW hn;go_enter Tryz.func180,Tryz.ntmps180;go_wp2_with fail;refine wp_loop_rounds 1 ?_;rw[rounds_succ];go_wp2_with(go_at_call 205;refine hi.out.mono ?_;rintro e w1 ⟨rfl,d',h1,h2,h3⟩;(have h4:=Lh h1);(have h5:=Lh h2);(have h6:=Lh h3);clear h1 h2 h3);refine wp_loop_rounds 1 ?_;rw[rounds_succ];go_wp2_with fail
  go_end0
  exact⟨rfl,d',h4.out,h5.out,h6.out⟩
 have hs2:=Lh (hst.out w (by rw[hn];exact h));clear hst hin hS h hn;exact Z22
end Go.Proofs.YtmjomdkleikgbaaGreat
namespace Go.Proofs.YtmjomdkleikgbaaGreat
open Go.Sort
section
variable {α:Type} [Inhabited α]
structure Swr (d d':Array α) (a b n:Nat):Prop where
 size:d'.size=d.size
 left:∀k,k<n->d'[a+k]! =d[b+k]!
 right:∀k,k<n->d'[b+k]! =d[a+k]!
 other:∀k,(k<a\/a+n<=k)->(k<b\/b+n<=k)->d'[k]! =d[k]!
theorem Swr.zero (d:Array α) (a b:Nat):Swr d d a b 0:=⟨rfl,fun k h=>absurd h (FO _),fun k h=>absurd h (FO _),fun _ _ _=>rfl⟩
theorem Swr.succ {d d':Array α} {a b n:Nat} (h:Swr d d' a b n) (hab:a+n<b) (hb:b+n<d.size):Swr d (swp d' (a+n) (b+n)) a b (n+1):=by
 have g:=swp_get d' (i:=a+n) (j:=b+n) (by rw[h.size];omega) (by rw[h.size];omega);refine⟨by rw[swp_size,h.size],fun k hk=>?_,fun k hk=>?_,fun k h1 h2=>?_⟩
 ·rw[g];by_cases e:k=n
  ·subst e;rw[if_neg aD,if_pos rfl,h.other (b+k) aD aD]
  rw[if_neg aD,if_neg aD,h.left k aD]
 ·rw[g];by_cases e:k=n
  ·subst e;rw[if_pos rfl,h.other (a+k) aD aD]
  rw[if_neg aD,if_neg aD,h.right k aD]
 rw[g,if_neg aD,if_neg aD,h.other k aD aD]
structure YC (d d':Array α) (a m b:Nat):Prop where
 size:d'.size=d.size
 left:∀k,k<b-m->d'[a+k]! =d[m+k]!
 right:∀k,k<m-a->d'[a+(b-m)+k]! =d[a+k]!
 other:∀k,k<a\/b<=k->d'[k]! =d[k]!
theorem YC.left_step {d d1 d':Array α} {m i j:Nat} (hm:i<=m) (hij:j<i) (h1:Swr d d1 (m-i) m j) (h2:YC d1 d' (m-(i-j)) m (m+j)):YC d d' (m-i) m (m+j):=by
 refine⟨h2.size.trans h1.size,fun k hk=>?_,fun k hk=>?_,fun k hk=>?_⟩
 ·rw[h2.other _ aD,h1.left k aD]
 ·by_cases hkj:k<j
  ·(have e:m-i+(m+j-m)+k=m-(i-j)+k:=by omega);rw[e,h2.left k aD,h1.right k hkj]
  (have e:m-i+(m+j-m)+k=m-(i-j)+(m+j-m)+(k-j):=by omega);rw[e,h2.right (k-j) aD,h1.other _ aD aD];congr 1;omega
 rw[h2.other _ aD,h1.other _ aD aD]
theorem YC.right_step {d d1 d':Array α} {m i j:Nat} (hm:i<=m) (hij:i<j) (h1:Swr d d1 (m-i) (m+j-i) i) (h2:YC d1 d' (m-i) m (m+(j-i))):YC d d' (m-i) m (m+j):=by
 refine⟨h2.size.trans h1.size,fun k hk=>?_,fun k hk=>?_,fun k hk=>?_⟩
 ·by_cases hkj:k<j-i
  ·rw[h2.left k aD,h1.other _ aD aD]
  (have e:m-i+k=m-i+(m+(j-i)-m)+(k-(j-i)):=by omega);rw[e,h2.right _ aD,h1.left _ aD];congr 1;omega
 ·(have e:m-i+(m+j-m)+k=m+j-i+k:=by omega);rw[e,h2.other _ aD,h1.right k aD]
 rw[h2.other _ aD,h1.other _ aD aD]
theorem YC.last {d d1:Array α} {m i:Nat} (hm:i<=m) (h1:Swr d d1 (m-i) m i):YC d d1 (m-i) m (m+i):=by
 refine⟨h1.size,fun k hk=>h1.left k aD,fun k hk=>?_,fun k hk=>h1.other _ aD aD⟩;have e:m-i+(m+i-m)+k=m+k:=by omega
 rw[e,h1.right k aD]
variable {lt:α->α->Bool}
theorem CW {a b:Nat} {d d':Array α} (h:SortedIn lt a b d) (hs:∀k,a<=k->k<b->d'[k]! =d[k]!):SortedIn lt a b d':=fun i j hi hij hj=>by rw[hs i hi aD,hs j aD hj];exact h i j hi hij hj
theorem atL {a m b:Nat} {d:Array α} (h1:SortedIn lt a m d) (h2:SortedIn lt m b d) (h:∀i j,a<=i->i<m->m<=j->j<b->lt d[j]! d[i]! =false):SortedIn lt a b d:=fun i j hi hij hj=>by
 by_cases e1:j<m
 ·exact h1 i j hi hij e1
 by_cases e2:m<=i
 ·exact h2 i j e2 hij hj
 exact h i j hi aD aD hj
structure atM (lt:α->α->Bool) (d:Array α) (a m b mid s:Nat):Prop where
 low:a<=s
 aBC:s<=m
 aF5:s<=mid
 hi:mid+m-s<=b
 him:m<=mid+m-s
 before:a<s->mid+m-s<b->lt d[mid+m-s]! d[s-1]! =false
 behind:s<m->m<mid+m-s->lt d[mid+m-s-1]! d[s]! =true
theorem aiS (hS:SWO lt) {d d':Array α} {a m b mid s:Nat} (hc:atM lt d a m b mid s) (h1:SortedIn lt a m d) (h2:SortedIn lt m b d) (hr:YC d d' s m (mid+m-s)) (ham:a<=mid) (hmb:mid<=b):
  SortedIn lt a s d'/\SortedIn lt s mid d'/\SortedIn lt mid (mid+m-s) d'/\SortedIn lt (mid+m-s) b d'/\∀i j,a<=i->i<mid->mid<=j->j<b->lt d'[j]! d'[i]! =false:=by
 obtain⟨c1,c2,c3,c4,c5,c6,c7⟩:=hc;have gl:∀k,s<=k->k<mid->d'[k]! =d[m+(k-s)]! :=fun k h3 h4=>by
  have:=hr.left (k-s) aD
  rwa [show s+(k-s)=k by omega]at this
 have gr:∀k,mid<=k->k<mid+m-s->d'[k]! =d[s+(k-mid)]! :=fun k h3 h4=>by
  have:=hr.right (k-mid) aD
  rwa [show s+(mid+m-s-m)+(k-mid)=k by omega]at this
 have go:∀k,k<s\/mid+m-s<=k->d'[k]! =d[k]! :=fun k h3=>hr.other k h3
 have le1:∀i j,a<=i->i<=j->j<m->lt d[j]! d[i]! =false:=fun i j hi hij hj=>by
  by_cases e:i=j
  ·subst e;exact hS.irrefl _
  exact h1 i j hi aD hj
 have le2:∀i j,m<=i->i<=j->j<b->lt d[j]! d[i]! =false:=fun i j hi hij hj=>by
  by_cases e:i=j
  ·subst e;exact hS.irrefl _
  exact h2 i j hi aD hj
 refine⟨fun i j hi hij hj=>?_,fun i j hi hij hj=>?_,fun i j hi hij hj=>?_,fun i j hi hij hj=>?_,fun i j hi him hj hjb=>?_⟩
 ·rw[go i aD,go j aD];exact h1 i j hi hij aD
 ·rw[gl i aD aD,gl j aD aD];exact h2 _ _ aD aD aD
 ·rw[gr i aD aD,gr j aD aD];exact h1 _ _ aD aD aD
 ·rw[go i aD,go j aD];exact h2 i j aD hij hj
 by_cases e1:i<s
 ·rw[go i aD];by_cases e2:j<mid+m-s
  ·rw[gr j aD aD];exact le1 _ _ hi aD aD
  rw[go j aD];have h3:=c6 aD aD;exact hS.ntrans _ _ _ (hS.ntrans _ _ _ (le2 (mid+m-s) j aD aD hjb) h3) (le1 i (s-1) hi aD aD)
 rw[gl i aD aD];by_cases e2:j<mid+m-s
 ·rw[gr j aD aD];have h3:=hS.asymmA (c7 aD aD);exact hS.ntrans _ _ _ (hS.ntrans _ _ _ (le1 s (s+(j-mid)) aD aD aD) h3) (le2 (m+(i-s)) (mid+m-s-1) aD aD aD)
 rw[go j aD];exact le2 _ _ aD aD hjb
theorem merged (hS:SWO lt) {d d1 d2:Array α} {a mid b:Nat} (hb:b<=d.size) (ham:a<=mid) (hmb:mid<=b) (hx:∀i j,a<=i->i<mid->mid<=j->j<b->lt d[j]! d[i]! =false)
  (p1:PermIn a mid d d1) (s1:SortedIn lt a mid d1) (p2:PermIn mid b d1 d2) (s2:SortedIn lt mid b d2):PermIn a b d d2/\SortedIn lt a b d2:=by
 have hsz:d1.size=d.size:=p1.1;refine⟨permIn_trans _ _ _ _ _ (permIn_mono _ _ _ _ _ _ (iC _) hmb hb p1) (permIn_mono _ _ _ _ _ _ ham (iC _) aD p2),?_⟩;have g1:∀k,a<=k->k<mid->d2[k]! =d1[k]! :=fun k h3 h4=>p2.2.1 k (.inl h4)
 have g2:∀k,mid<=k->k<b->d1[k]! =d[k]! :=fun k h3 h4=>p1.2.1 k (.inr h3)
 refine atL (CW s1 g1) s2 fun i j hi him hj hjb=>?_
 rw[g1 i hi him];have q1:∀j',mid<=j'->j'<b->lt d[j']! d1[i]! =false:=fun j' h3 h4=>permIn_all d d1 a mid (fun x=>lt d[j']! x=false) aD p1 (fun i' h5 h6=>hx i' j' h5 h6 h3 h4) i hi him
 refine permIn_all d1 d2 mid b (fun x=>lt x d1[i]! =false) aD p2 (fun j' h5 h6=>?_) j hj hjb;rw[g2 j' h5 h6];exact q1 j' h5 h6
structure aa8 (d d':Array α) (a k:Nat):Prop where
 size:d'.size=d.size
 left:∀i,a<=i->i<k->d'[i]! =d[i+1]!
 at_:d'[k]! =d[a]!
 other:∀i,i<a\/k<i->d'[i]! =d[i]!
theorem aa8.start (d:Array α) (a:Nat):aa8 d d a a:=⟨rfl,fun i h1 h2=>by omega,rfl,fun _ _=>rfl⟩
theorem aa8.succ {d d':Array α} {a k:Nat} (h:aa8 d d' a k) (hak:a<=k) (hk:k+1<d.size):aa8 d (swp d' k (k+1)) a (k+1):=by
 have g:=swp_get d' (i:=k) (j:=k+1) (by rw[h.size];omega) (by rw[h.size];omega);refine⟨by rw[swp_size,h.size],fun i h1 h2=>?_,?_,fun i hi=>?_⟩
 ·rw[g,if_neg aD];by_cases e:i=k
  ·subst e;rw[if_pos rfl,h.other _ aD]
  rw[if_neg e,h.left i h1 aD]
 ·rw[g,if_pos rfl,h.at_]
 rw[g,if_neg aD,if_neg aD,h.other i aD]
theorem aa8.sorted (hS:SWO lt) {d d':Array α} {a b k:Nat} (h:aa8 d d' a k) (hak:a<=k) (hkb:k<b) (h2:SortedIn lt (a+1) b d) (hlo:∀i,a<i->i<=k->lt d[i]! d[a]! =true) (hhi:∀i,k<i->i<b->lt d[i]! d[a]! =false):SortedIn lt a b d':=by
 intro i j hi hij hj;rcases UK i k with e|e|e
 ·rw[h.left i hi e];rcases UK j k with e2|e2|e2
  ·rw[h.left j aD e2];exact h2 _ _ aD aD aD
  ·subst e2;rw[h.at_];exact hS.asymmA (hlo _ aD aD)
  rw[h.other j aD];exact h2 _ _ aD aD hj
 ·subst e;rw[h.at_,h.other j aD];exact hhi j aD hj
 rw[h.other i aD,h.other j aD];exact h2 i j aD hij hj
structure VE (d d':Array α) (k m:Nat):Prop where
 size:d'.size=d.size
 right:∀i,k<i->i<=m->d'[i]! =d[i-1]!
 at_:d'[k]! =d[m]!
 other:∀i,i<k\/m<i->d'[i]! =d[i]!
theorem VE.start (d:Array α) (m:Nat):VE d d m m:=⟨rfl,fun i h1 h2=>by omega,rfl,fun _ _=>rfl⟩
theorem VE.succ {d d':Array α} {k m:Nat} (h:VE d d' (k+1) m) (hk:k+1<=m) (hm:m<d.size):VE d (swp d' (k+1) k) k m:=by
 have g:=swp_get d' (i:=k+1) (j:=k) (by rw[h.size];omega) (by rw[h.size];omega);refine⟨by rw[swp_size,h.size],fun i h1 h2=>?_,?_,fun i hi=>?_⟩
 ·rw[g,if_neg aD];by_cases e:i=k+1
  ·subst e;rw[if_pos rfl,h.other _ aD];rfl
  rw[if_neg e,h.right i aD h2]
 ·rw[g,if_pos rfl,h.at_]
 rw[g,if_neg aD,if_neg aD,h.other i aD]
theorem VE.sorted (hS:SWO lt) {d d':Array α} {a k m:Nat} (h:VE d d' k m) (hak:a<=k) (hkm:k<=m) (h2:SortedIn lt a m d) (hlo:∀i,a<=i->i<k->lt d[m]! d[i]! =false) (hhi:∀i,k<=i->i<m->lt d[m]! d[i]! =true):SortedIn lt a (m+1) d':=by
 intro i j hi hij hj;rcases UK i k with e|e|e
 ·rw[h.other i aD];rcases UK j k with e2|e2|e2
  ·rw[h.other j aD];exact h2 _ _ hi hij aD
  ·subst e2;rw[h.at_];exact hlo i hi aD
  rw[h.right j e2 aD];exact h2 _ _ hi aD aD
 ·subst e;rw[h.at_,h.right j aD aD];exact hS.asymmA (hhi _ aD aD)
 rw[h.right i e aD,h.right j aD aD];exact h2 _ _ aD aD aD
end
end Go.Proofs.YtmjomdkleikgbaaGreat
namespace Go.Proofs.YtmjomdkleikgbaaGreat
open Go.RowKit Go.Sort
theorem aLJ (d:Array TN) {i:Nat} (h:i<d.size):d.toList[i]? =some d[i]! :=by rw[Array.getElem?_toList,Array.getElem?_eq_getElem h,getElem!_pos d i h]
theorem aF6 {l:List TN} {i:Nat} (hi:i<l.length) (x:TN):(((cZ l).set (i*3) (aC x.path)).set (i*3+1) (.int .i64 x.file)).set (i*3+2) (.int .i64 x.mode)=cZ (l.set i x):=by
 induction l generalizing i with
 |nil=>exact absurd hi (FO _)
 |cons y l ih=>
  cases i with
  |zero=>rfl
  |succ i=>have h1:=ih (i:=i) (by simpa using hi);(show(((F8 y++cZ l).set ((i+1)*3) _).set ((i+1)*3+1) _).set ((i+1)*3+2) _=F8 y++cZ (l.set i x));rw[<-h1];(have e:(i+1)*3=i*3+1+1+1:=by omega);rw[e];rfl
def aBD (w:World) (g k:Nat) (x:TN):World:=((w.setCell ⟨g,k,none⟩ (aC x.path)).setCell ⟨g,k+1,none⟩ (.int .i64 x.file)).setCell ⟨g,k+2,none⟩ (.int .i64 x.mode)
section
variable {w0 w:World} {R:List aW} {g cap:Nat} {d:Array TN}
theorem ae9 {n i:Nat} (hn:n=d.size) (h:Sep w0 w (dA (sV g n cap) d::R)) (hi:i<d.size) (x:TN):Sep w0 (aBD w g (i*3) x) (dA (sV g n cap) (d.setIfInBounds i x)::R):=by subst hn;have h1:=((h.stored 0 rfl (i*3) (aC x.path)).stored 0 rfl (i*3+1) (.int .i64 x.file)).stored 0 rfl (i*3+2) (.int .i64 x.mode);rw[aF6 (by simpa using hi) x]at h1;unfold dA;rw[Array.size_setIfInBounds,Array.toList_setIfInBounds];exact h1
theorem GH {n i j:Nat} (hn:n=d.size) (h:Sep w0 w (dA (sV g n cap) d::R)) (hi:i<d.size) (hj:j<d.size):Sep w0 (aBD (aBD w g (i*3) d[j]!) g (j*3) d[i]!) (dA (sV g n cap) (swp d i j)::R):=by have h1:=ae9 hn h hi d[j]!;have h2:=ae9 (d:=d.setIfInBounds i d[j]!) (by simpa using hn) h1 (i:=j) (by simpa using hj) d[i]!;exact h2
theorem fK {n i:Nat} (hn:n=d.size) (h:Sep w0 w (dA (sV g n cap) d::R)) (hi:i<d.size):w.cell? ⟨g,i*3,none⟩=some (aC d[i]!.path)/\w.cell? ⟨g,i*3+1,none⟩=some (.int .i64 d[i]!.file)/\w.cell? ⟨g,i*3+2,none⟩=some (.int .i64 d[i]!.mode):=by subst hn;have hk:=aLJ d hi;have x0:=(h.cellAt 0 rfl (i*3+0) aD).trans (bL hk 0 aD);have x1:=(h.cellAt 0 rfl (i*3+1) aD).trans (bL hk 1 aD);have x2:=(h.cellAt 0 rfl (i*3+2) aD).trans (bL hk 2 aD);exact⟨x0,x1,x2⟩
theorem CX {n:Nat} (hn:n=d.size) (h:Sep w0 w (dA (sV g n cap) d::R)):∀j,w.frozen? ⟨g,j,none⟩=false:=fun j=>by subst hn;exact h.frozenAt 0 rfl j
theorem axT {a b n N:Nat} {cv:Value} (hN:N=d.size) (h:Sep w0 w (dA (sV g N cap) d::R)) (hd:N<=5000) (hab:a+n<=b) (hb:b+n<=N):
  Calls Tryz.prog 235 #[sV g N cap,iV a,iV b,iV n,cv] w fun e w'=>e= .returned (.tuple #[])/\∃d',Swr d d' a b n/\PermIn a (b+n) d d'/\Sep w0 w' (dA (sV g N cap) d'::R):=by
 have h':=Lh h;have hN':=Lh hN;have b1:(N:Int)<=5000:=by omega
 have b2:(a:Int)+n<=b:=by omega
 have b3:(b:Int)+n<=N:=by omega
 clear h hN;go_enter Tryz.func235,Tryz.ntmps235;go_wp2_with fail;go_loopw[10] (fun iv wr=>∃(i:Nat) (d1:Array TN),i<=n/\iv=iV i/\Hid (Swr d d1 a b i)/\Hid (PermIn a (b+n) d d1)/\Sep w0 wr (dA (sV g N cap) d1::R)) (fun iv _=>n-(intOf iv).toNat)
 case atStart=>exact⟨0,d,fZ _,rfl,Lh (Swr.zero d a b),Lh (permIn_refl _ _ _),h'.out⟩
 obtain⟨i,d1,hi,rfl,hs,hp,hS⟩:=hrel;clear h';have q0:(0:Int)<=(i:Int):=by omega
 by_cases hlt:i<n
 ·(have q1:(i:Int)<(n:Int):=by omega);(have hsz:N=d1.size:=by rw[hs.out.size];exact hN'.out);have hA:=fK hsz hS (i:=a+i) aD;have hB:=fK hsz hS (i:=b+i) aD;have hE:=And.intro hA.1 (And.intro hA.2.1 (And.intro hA.2.2 (And.intro hB.1 (And.intro hB.2.1 hB.2.2))));have hfz:=CX hsz hS;have hnew:=GH hsz hS (i:=a+i) (j:=b+i) aD aD;have hs2:=Lh (hs.out.succ aD (by rw[<-hN'.out];omega));have hp2:Hid (PermIn a (b+n) d (swp d1 (a+i) (b+i))):=Lh (permIn_trans _ _ _ _ _ hp.out (swp_permIn _ _ _ _ _ aD aD aD aD (by rw[<-hsz];omega)));obtain⟨x,hx⟩:∃x,x=d1[a+i]! :=⟨_,rfl⟩;obtain⟨y,hy⟩:∃y,y=d1[b+i]! :=⟨_,rfl⟩;rw[<-hx,<-hy]at hE hnew;have JU:=Lh hnew;(have u1:IntKind.i64.wrap ((a:Int)+i)=((a+i:Nat):Int):=by rw[IntWalk.i64_in _ aD];omega);(have u2:IntKind.i64.wrap ((b:Int)+i)=((b+i:Nat):Int):=by rw[IntWalk.i64_in _ aD];omega);(have u3:(0:Int)<=((a+i:Nat):Int):=by omega);(have u4:(0:Int)<=((b+i:Nat):Int):=by omega);(have u5:((a+i:Nat):Int)<(N:Int):=by omega);(have u6:((b+i:Nat):Int)<(N:Int):=by omega);obtain⟨A9,hA9⟩:∃A9,A9=a+i:=⟨_,rfl⟩;obtain⟨B9,hB9⟩:∃B9,B9=b+i:=⟨_,rfl⟩;rw[<-hA9]at u1 u3 u5 hE JU hs2 hp2;rw[<-hB9]at u2 u4 u6 hE JU hs2 hp2;(have hdf:A9*3+2<B9*3:=by omega);clear hA9 hB9;clear hA hB hnew hS hs hp hx hy hsz;unfold aC at*;go_wp2_with fail;obtain⟨e1,e2,e3,e4,e5,e6⟩:=hE;refine aP (S:=fun _=>True) 24 ?_;refine aA 0 trivial ?_;refine aA 1 trivial ?_;refine aA 2 trivial ?_;refine aA 3 trivial ?_;refine aA 4 trivial ?_;refine aA 5 trivial ?_;refine aA 6 trivial ?_;refine aA 7 trivial ?_;refine aA 8 trivial ?_;refine aA 9 trivial ?_;refine aA 10 trivial ?_;refine aA 11 trivial ?_;refine aA 12 trivial ?_;refine aA 14 trivial ?_;refine aA 15 trivial ?_;refine aA 16 trivial ?_;refine aA 17 trivial ?_;refine aA 18 trivial ?_;refine iX (i:=13) (j:=19) fE rfl rfl (fun K hK=>?_) (fun K hK=>?_)
  focus
   go_simp
   refine hK _ _ (fun _=>trivial) ?_
   clear hK K
   try simp only[Act.put,gD]
   refine bA 19 (fun _=>trivial) ?_
  rotate_left
  focus
   go_simp
   refine hK _ _ (fun _=>trivial) ?_
   clear hK K
   try simp only[Act.put,gD]
   refine bA 13 (fun _=>trivial) ?_
  all_goals
   refine bA 20 (fun _=>trivial) ?_
   refine bA 21 (fun _=>trivial) ?_
   refine bA 22 (fun _=>trivial) ?_
   refine bA 23 (fun _=>trivial) ?_
   refine aQ fE ?_ _
   go_wp2_with fail
   go_roundw
   case rel=>refine⟨i+1,_,by omega,by go_num,hs2,hp2,?_⟩;exact JU.out.drew
   case measure=>simp[intOf];omega
 have hie:i=n:=by omega
 subst hie;have hS':=Lh hS;clear hS;go_wp2_with fail
 go_end0
 exact⟨rfl,d1,hs.out,hp.out,hS'.out⟩
theorem pF {a b a' b':Nat} {d d':Array TN} (h:PermIn a b d d') (h1:a'<=a) (h2:b<=b') (h3:b'<=d.size):PermIn a' b' d d':=permIn_mono _ _ _ _ _ _ h1 h2 h3 h
theorem axU {a m b N:Nat} {cv:Value} (hN:N=d.size) (h:Sep w0 w (dA (sV g N cap) d::R)) (hd:N<=5000) (ham:a<m) (hmb:m<b) (hb:b<=N):
  Calls Tryz.prog 228 #[sV g N cap,iV a,iV m,iV b,cv] w fun e w'=>e= .returned (.tuple #[])/\∃d',YC d d' a m b/\PermIn a b d d'/\Sep w0 w' (dA (sV g N cap) d'::R):=by
 have h':=Lh h;have hN':=Lh hN;have b1:(N:Int)<=5000:=by omega
 have hsw:Hid (∀(W:World) (d1:Array TN) (x y k:Nat),N=d1.size->Sep w0 W (dA (sV g N cap) d1::R)->x+k<=y->y+k<=N->Calls Tryz.prog 235 #[sV g N cap,iV x,iV y,iV k,cv] W fun e w'=>e= .returned (.tuple #[])/\∃d',Swr d1 d' x y k/\PermIn x (y+k) d1 d'/\Sep w0 w' (dA (sV g N cap) d'::R)):=Lh fun W d1 x y k h1 h2 h3 h4=>axT h1 h2 hd h3 h4
 have c1:(a:Int)<m:=by omega
 have c2:(m:Int)<b:=by omega
 have c3:(b:Int)<=N:=by omega
 clear h hN;have u1:IntKind.i64.wrap ((m:Int)-a)=((m-a:Nat):Int):=by rw[IntWalk.i64_in _ aD];omega
 have u2:IntKind.i64.wrap ((b:Int)-m)=((b-m:Nat):Int):=by rw[IntWalk.i64_in _ aD];omega
 obtain⟨I0,hI0⟩:∃x,x=m-a:=⟨_,rfl⟩;obtain⟨J0,hJ0⟩:∃x,x=b-m:=⟨_,rfl⟩;rw[<-hI0]at u1;rw[<-hJ0]at u2;replace hI0:=Lh hI0;replace hJ0:=Lh hJ0;go_enter Tryz.func228,Tryz.ntmps228;go_wp2_with fail;clear u1 u2;go_loopw[10,11] (fun iv jv wr=>∃(i j:Nat) (d1:Array TN),(0<i/\0<j/\i<=m-a/\j<=b-m)/\iv=iV i/\jv=iV j/\Hid (∀d',YC d1 d' (m-i) m (m+j)->YC d d' a m b)/\Hid (PermIn a b d d1)/\Sep w0 wr (dA (sV g N cap) d1::R)) (fun iv jv _=>(intOf iv).toNat+(intOf jv).toNat)
 case atStart=>have e1:=hI0.out;have e2:=hJ0.out;refine⟨I0,J0,d,by omega,rfl,rfl,Lh fun d' hr=>?_,Lh (permIn_refl _ _ _),h'.out⟩;rw[e1,e2,show m-(m-a)=a by omega,show m+(b-m)=b by omega]at hr;exact hr
 obtain⟨i,j,d1,⟨hi0,hj0,hi,hj⟩,rfl,rfl,hr,hp,hS⟩:=hrel;clear h';have hsz:N=d1.size:=by rw[hp.out.1];exact hN'.out
 by_cases hij:i=j
 ·subst hij;have hsc:=hsw.out _ d1 (m-i) m i hsz hS aD aD;rw[show((m-i:Nat):Int)=(m:Int)-i by omega]at hsc;replace hsc:=Lh hsc;have hsz':=Lh hsz;clear hS hsw hsz;go_wp2_with(go_at_call 235;go_loud (refine hsc.out.mono ?_;rintro e w5 ⟨rfl,d5,h5,h6,h7⟩;(replace h5:=Lh h5);(replace h6:=Lh h6);(replace h7:=Lh h7);clear hsc))
  go_end0
  have hsz:=hsz'.out;exact⟨rfl,d5,hr.out _ (YC.last aD h5.out),permIn_trans _ _ _ _ _ hp.out (pF h6.out aD aD aD),h7.out⟩
 rcases Nat.lt_or_gt_of_ne hij with hlt|hgt
 ·(have q1:((i:Int)==j)=false:=by rw[jU];omega);(have q2:¬(j:Int)<i:=by omega);have hsc:=hsw.out _ d1 (m-i) (m+j-i) i hsz hS aD aD;rw[show((m-i:Nat):Int)=(m:Int)-i by omega,show((m+j-i:Nat):Int)=(m:Int)+j-i by omega]at hsc;replace hsc:=Lh hsc;have hsz':=Lh hsz;(have i1:(i:Int)<j:=by omega);(have i2:(0:Int)<i:=by omega);(have i3:(j:Int)<=b-m:=by omega);(have i4:(i:Int)<=m-a:=by omega);clear hS hij hsz;go_wp2_with(go_at_call 235;go_loud (refine hsc.out.mono ?_;rintro e w5 ⟨rfl,d5,h5,h6,h7⟩;(replace h5:=Lh h5);(replace h6:=Lh h6);(replace h7:=Lh h7);clear hsc));go_roundw
  case rel=>have hsz:=hsz'.out;refine⟨i,j-i,d5,by omega,rfl,by go_num,Lh fun d' h3=>?_,Lh (permIn_trans _ _ _ _ _ hp.out (pF h6.out aD aD aD)),h7.out⟩;exact hr.out _ (YC.right_step aD hlt h5.out h3)
  case measure=>(simp[intOf];omega)
 have q1:((i:Int)==j)=false:=by rw[jU];omega
 have q2:(j:Int)<i:=by omega
 have hsc:=hsw.out _ d1 (m-i) m j hsz hS aD aD;rw[show((m-i:Nat):Int)=(m:Int)-i by omega]at hsc;replace hsc:=Lh hsc;have hsz':=Lh hsz;have i2:(0:Int)<j:=by omega
 have i3:(j:Int)<=b-m:=by omega
 have i4:(i:Int)<=m-a:=by omega
 clear hS hij hsz;go_wp2_with(go_at_call 235;go_loud (refine hsc.out.mono ?_;rintro e w5 ⟨rfl,d5,h5,h6,h7⟩;(replace h5:=Lh h5);(replace h6:=Lh h6);(replace h7:=Lh h7);clear hsc));go_roundw
 case rel=>have hsz:=hsz'.out;refine⟨i-j,j,d5,by omega,by go_num,rfl,Lh fun d' h3=>?_,Lh (permIn_trans _ _ _ _ _ hp.out (pF h6.out aD aD aD)),h7.out⟩;exact hr.out _ (YC.left_step aD hgt h5.out h3)
 case measure=>(simp[intOf];omega)
end
def ET :Value:=.func (.func 135) #[] #[]
theorem TJ (x y:TN) (W:World):Calls Tryz.prog 135 #[.agg #[aC x.path,iV x.file,iV x.mode],.agg #[aC y.path,iV y.file,iV y.mode]] W fun e w'=>e= .returned (iV (cfN x y))/\Below W.heap.size W w':=by
 have hc:=fun W=>Go.Proofs.Any.strings_Compare Go.Proofs.Tryz.strCompare ⟨x.path.toArray⟩ ⟨y.path.toArray⟩ W
 unfold aC at*;go_enter Tryz.func135,Tryz.ntmps135;go_wp2_with(go_at_call 136;refine(hc _).mono ?_;rintro e w' ⟨rfl,hw⟩;(have hw':=hw.symm);subst hw');go_ret;exact⟨rfl,((Below.refl _ _).alloc (iC _) _).alloc (by rw[World.size_alloc];omega) _⟩
section
variable {w0 w:World} {R:List aW} {g cap:Nat} {d:Array TN}
abbrev oK :TN->TN->Bool:=Go.Proofs.ltOf cfN
theorem aF7 {d:Array TN} {m b h k:Nat} {x:TN} (hs:SortedIn oK m b d) (hh:h<b) (hl:oK d[h]! x=true) (hk:m<=k) (hkh:k<=h):oK d[k]! x=true:=by
 rcases AZ k h with h1|h1
 ·cases e:oK d[k]! x with
  |true=>rfl
  |false=>have:=aa6.ntrans _ _ _ (hs k h hk h1 hh) e;rw[show oK d[h]! x=false from this]at hl;cases hl
 obtain rfl:k=h:=by omega
 exact hl
theorem axV {d:Array TN} {m b h k:Nat} {x:TN} (hs:SortedIn oK m b d) (hm:m<=h) (hl:oK d[h]! x=false) (hk:h<=k) (hkb:k<b):oK d[k]! x=false:=by
 rcases AZ h k with h1|h1
 ·exact aa6.ntrans _ _ _ (hs h k hm h1 hkb) hl
 obtain rfl:k=h:=by omega
 exact hl
theorem atN {a m b N:Nat} (hN:N=d.size) (h:Sep w0 w (dA (sV g N cap) d::R)) (hd:N<=5000) (ham:m=a+1) (hmb:m<b) (hb:b<=N) (hs:SortedIn oK m b d):
  Calls Tryz.prog 206 #[.slice (some ⟨g,0,none⟩) N cap,.int .i64 a,.int .i64 m,.int .i64 b,ET] w fun e w'=>e= .returned (.tuple #[])/\∃d',PermIn a b d d'/\SortedIn oK a b d'/\Sep w0 w' (dA (.slice (some ⟨g,0,none⟩) N cap) d'::R):=by
 have h':=Lh h;have hN':=Lh hN;have b1:(N:Int)<=5000:=by omega
 have c2:(m:Int)<b:=by omega
 have c3:(b:Int)<=N:=by omega
 have c4:(m:Int)-a=1:=by omega
 have c5:(0:Int)<=a:=by omega
 have aoJ:=Lh ham;clear h hN ham;unfold ET;go_enter Tryz.func206,Tryz.ntmps206;go_wp2_with fail;go_loopw[10,11] (fun iv jv wr=>∃(i j:Nat),(m<=i/\i<=j/\j<=b)/\iv=iV i/\jv=iV j/\Hid (∀k,m<=k->k<i->oK d[k]! d[a]! =true)/\Hid (∀k,j<=k->k<b->oK d[k]! d[a]! =false)/\Sep w0 wr (dA (sV g N cap) d::R)) (fun iv jv _=>(intOf jv).toNat-(intOf iv).toNat)
 case atStart=>exact⟨m,b,by omega,rfl,rfl,Lh fun k h1 h2=>by omega,Lh fun k h1 h2=>by omega,h'.out⟩
 obtain⟨i,j,⟨hi,hij,hj⟩,rfl,rfl,hlo,hhi,hS⟩:=hrel;clear h';by_cases hlt:i<j
 ·(have q1:(i:Int)<(j:Int):=by omega);(have q0:(0:Int)<=(i:Int):=by omega);(have q2:(j:Int)<=N:=by omega);have hS':=Lh hS;have eH:Hid (((i:Int)+j)/2=(((i+j)/2:Nat):Int)):=Lh aD;clear hS;go_wp2_with fail;rw[eH.out];(have hH1:i<=(i+j)/2:=by omega);(have hH2:(i+j)/2<j:=by omega);obtain⟨H,hH⟩:∃H,H=(i+j)/2:=⟨_,rfl⟩;rw[<-hH]at hH1 hH2 ⊢;clear eH hH;(have q3:(H:Int)<N:=by omega);(have q4:(0:Int)<=H:=by omega);(have q5:(a:Int)<N:=by have:=aoJ.out;omega);have hQ:=hS'.out.drew;have hA:=fK hN'.out hQ (i:=H) (by have:=hN'.out;omega);have hB:=fK hN'.out hQ (i:=a) (by have:=hN'.out;have:=aoJ.out;omega);obtain⟨x,hx⟩:∃x,x=d[H]! :=⟨_,rfl⟩;obtain⟨y,hy⟩:∃y,y=d[a]! :=⟨_,rfl⟩;rw[<-hx]at hA;rw[<-hy]at hB;have hE:=And.intro hA.1 (And.intro hA.2.1 (And.intro hA.2.2 (And.intro hB.1 (And.intro hB.2.1 hB.2.2))));(have hcc:=fun(W:World) (X:Sep w0 W (dA (sV g N cap) d::R))=>And.intro (fK hN'.out X (i:=H) (by have:=hN'.out;omega)) (fK hN'.out X (i:=a) (by have:=hN'.out;have:=aoJ.out;omega)));rw[<-hx,<-hy]at hcc;replace hQ:=Lh hQ;replace hcc:=Lh hcc;replace hx:=Lh hx;replace hy:=Lh hy;clear hA hB hS';unfold aC at hE;refine aP (S:=fun w'=>w'.cell? ⟨g,H*3,none⟩=some (.string ⟨x.path.toArray⟩)/\w'.cell? ⟨g,H*3+1,none⟩=some (iV x.file)/\w'.cell? ⟨g,H*3+2,none⟩=some (iV x.mode)/\w'.cell? ⟨g,a*3,none⟩=some (.string ⟨y.path.toArray⟩)/\w'.cell? ⟨g,a*3+1,none⟩=some (iV y.file)/\w'.cell? ⟨g,a*3+2,none⟩=some (iV y.mode)) 11 ?_;refine aA 0 hE ?_;refine aA 1 hE ?_;refine aA 2 hE ?_;refine aA 3 hE ?_;refine aA 4 hE ?_;refine aA 5 hE ?_;refine aA 6 hE ?_;refine aA 7 hE ?_;refine aA 8 hE ?_;(refine bI 9 fun K hK=>?_);go_simp;go_at_call 135;refine(TJ x y _).mono ?_;rintro e w5 ⟨rfl,hb5⟩;have hS5:=hQ.out.pure hb5;have rV:=hcc.out _ hS5;replace rV:=And.intro rV.1.1 (And.intro rV.1.2.1 (And.intro rV.1.2.2 (And.intro rV.2.1 (And.intro rV.2.2.1 rV.2.2.2))));replace hS5:=Lh hS5;unfold aC at rV;clear hb5 hQ hcc hE;dsimp only;refine hK _ _ (fun _=>rV) ?_;clear hK K;(try simp only[Act.put,gD]);refine bA 10 (fun _=>rV) ?_;refine aQ fE ?_ _;clear rV;by_cases hc:cfN x y<0
  ·go_wp2_with fail;go_roundw
   case rel=>refine⟨H+1,j,by omega,by go_num,rfl,Lh fun k h1 h2=>?_,hhi,hS5.out⟩;(have hl:oK d[H]! d[a]! =true:=by rw[<-hx.out,<-hy.out];exact decide_eq_true hc);exact aF7 hs aD hl h1 aD
   case measure=>(simp[intOf];omega)
  go_wp2_with fail;go_roundw
  case rel=>refine⟨i,H,by omega,rfl,rfl,hlo,Lh fun k h1 h2=>?_,hS5.out⟩;(have hl:oK d[H]! d[a]! =false:=by rw[<-hx.out,<-hy.out];exact decide_eq_false hc);exact axV hs aD hl h1 h2
  case measure=>(simp[intOf];omega)
 have hie:j=i:=by omega
 subst hie;have hS':=Lh hS;have i1:(0:Int)<=(j:Int)-1:=by have:=aoJ.out;omega
 have i2:(j:Int)<=N:=by omega
 clear hS;go_wp2_with fail;go_loopw[13] (fun kv wr=>∃(k:Nat) (d1:Array TN),(a<=k/\k+1<=j)/\kv=iV k/\Hid (aa8 d d1 a k)/\Hid (PermIn a b d d1)/\Sep w0 wr (dA (sV g N cap) d1::R)) (fun kv _=>j-(intOf kv).toNat)
 case atStart=>exact⟨a,d,by have:=aoJ.out;omega,rfl,Lh (aa8.start d a),Lh (permIn_refl _ _ _),hS'.out⟩
 clear hS';obtain⟨k,d1,⟨hk1,hk2⟩,rfl,hmv,hp,hS⟩:=hrel;have q0:(0:Int)<=(k:Int):=by omega
 by_cases hlt2:k+1<j
 ·(have q1:(k:Int)<(j:Int)-1:=by omega);(have hsz:N=d1.size:=by rw[hmv.out.size];exact hN'.out);have hA:=fK hsz hS (i:=k) aD;have hB:=fK hsz hS (i:=k+1) aD;have hfz:=CX hsz hS;have hnew:=GH hsz hS (i:=k) (j:=k+1) aD aD;have afA:=Lh (hmv.out.succ hk1 (by rw[<-hN'.out];omega));have hp2:Hid (PermIn a b d (swp d1 k (k+1))):=Lh (permIn_trans _ _ _ _ _ hp.out (swp_permIn _ _ _ _ _ aD aD aD aD (by rw[<-hsz];omega)));obtain⟨x,hx⟩:∃x,x=d1[k]! :=⟨_,rfl⟩;obtain⟨y,hy⟩:∃y,y=d1[k+1]! :=⟨_,rfl⟩;rw[<-hx]at hA hnew;rw[<-hy]at hB hnew;have JU:=Lh hnew;(have u1:IntKind.i64.wrap ((k:Int)+1)=((k+1:Nat):Int):=by rw[IntWalk.i64_in _ aD];omega);(have u3:(0:Int)<=((k+1:Nat):Int):=by omega);(have u5:((k+1:Nat):Int)<(N:Int):=by omega);(have u6:(k:Int)<(N:Int):=by omega);obtain⟨K1,hK1⟩:∃K1,K1=k+1:=⟨_,rfl⟩;rw[<-hK1]at u1 u3 u5 hB JU afA hp2;(have hdf:k*3+2<K1*3:=by omega);replace hK1:=Lh hK1;obtain⟨e1,e2,e3⟩:=hA;obtain⟨e4,e5,e6⟩:=hB;clear hnew hS hmv hp hx hy hsz;unfold aC at*;go_wp2_with fail;refine aP (S:=fun _=>True) 18 ?_;refine aA 0 trivial ?_;refine aA 1 trivial ?_;refine aA 2 trivial ?_;refine aA 3 trivial ?_;refine aA 4 trivial ?_;refine aA 5 trivial ?_;refine aA 6 trivial ?_;refine aA 7 trivial ?_;refine aA 8 trivial ?_;refine aA 10 trivial ?_;refine aA 11 trivial ?_;refine aA 12 trivial ?_;refine iX (i:=9) (j:=13) fE rfl rfl (fun K hK=>?_) (fun K hK=>?_)
  focus
   go_simp
   refine hK _ _ (fun _=>trivial) ?_
   clear hK K
   try simp only[Act.put,gD]
   refine bA 13 (fun _=>trivial) ?_
  rotate_left
  focus
   go_simp
   refine hK _ _ (fun _=>trivial) ?_
   clear hK K
   try simp only[Act.put,gD]
   refine bA 9 (fun _=>trivial) ?_
  all_goals
   refine bA 14 (fun _=>trivial) ?_
   refine bA 15 (fun _=>trivial) ?_
   refine bA 16 (fun _=>trivial) ?_
   refine bA 17 (fun _=>trivial) ?_
   refine aQ fE ?_ _
   go_wp2_with fail
   go_roundw
   case rel=>have hk:=hK1.out;refine⟨K1,_,by omega,by first |rfl|go_num,afA,hp2,?_⟩;exact JU.out.drew
   case measure=>have hk:=hK1.out;simp[intOf];omega
 have hke:k+1=j:=by omega
 have q1:¬(k:Int)<(j:Int)-1:=by omega
 have hS':=Lh hS;clear hS;go_wp2_with fail;have h1:=aoJ.out;refine bodyPost_ret (results_none rfl _ _ _) rfl ⟨rfl,d1,hp.out,hmv.out.sorted aa6 hk1 aD (by rw[<-h1];exact hs) (fun x h2 h3=>hlo.out x aD aD) (fun x h2 h3=>hhi.out x aD h3),hS'.out⟩
end
end Go.Proofs.YtmjomdkleikgbaaGreat
