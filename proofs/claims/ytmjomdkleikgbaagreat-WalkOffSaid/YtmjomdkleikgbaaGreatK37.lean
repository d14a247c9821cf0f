/- Parts. -/
import Derived.Test.YtmjomdkleikgbaaGreatK36
set_option linter.unusedVariables false
set_option linter.unusedSimpArgs false
set_option maxRecDepth 100000
set_option maxHeartbeats 20000000
namespace Go.Proofs.YtmjomdkleikgbaaGreat
open Go.RowKit Go.Sort
section
variable {w0 w:World} {R:List aW} {g cap:Nat} {d:Array TN}
theorem aBF {d:Array TN} {a m h k:Nat} {x:TN} (hs:SortedIn oK a m d) (hh:h<m) (hl:oK x d[h]! =false) (hk:a<=k) (hkh:k<=h):oK x d[k]! =false:=by
 rcases AZ k h with h1|h1
 ·exact aa6.ntrans _ _ _ hl (hs k h hk h1 hh)
 obtain rfl:k=h:=by omega
 exact hl
theorem atO {d:Array TN} {a m h k:Nat} {x:TN} (hs:SortedIn oK a m d) (ha:a<=h) (hl:oK x d[h]! =true) (hk:h<=k) (hkm:k<m):oK x d[k]! =true:=by
 rcases AZ h k with h1|h1
 ·cases e:oK x d[k]! with
  |true=>rfl
  |false=>have:=aa6.ntrans _ _ _ e (hs h k ha h1 hkm);rw[show oK x d[h]! =false from this]at hl;cases hl
 obtain rfl:k=h:=by omega
 exact hl
theorem aoK {a m b N:Nat} (hN:N=d.size) (h:Sep w0 w (dA (sV g N cap) d::R)) (hd:N<=5000) (ham:a+1<m) (hmb:b=m+1) (hb:b<=N) (hs:SortedIn oK a m d):
  Calls Tryz.prog 206 #[.slice (some ⟨g,0,none⟩) N cap,.int .i64 a,.int .i64 m,.int .i64 b,ET] w fun e w'=>e= .returned (.tuple #[])/\∃d',PermIn a b d d'/\SortedIn oK a b d'/\Sep w0 w' (dA (.slice (some ⟨g,0,none⟩) N cap) d'::R):=by
 have h':=Lh h;have hN':=Lh hN;have b1:(N:Int)<=5000:=by omega
 have c2:(a:Int)+1<m:=by omega
 have c3:(b:Int)<=N:=by omega
 have c4:(b:Int)-m=1:=by omega
 have c5:(0:Int)<=a:=by omega
 have c6:((m:Int)-a==1)=false:=by rw[jU];omega
 have afB:=Lh hmb;clear h hN hmb;unfold ET;go_enter Tryz.func206,Tryz.ntmps206;go_wp2_with fail;go_loopw[14,15] (fun iv jv wr=>∃(i j:Nat),(a<=i/\i<=j/\j<=m)/\iv=iV i/\jv=iV j/\Hid (∀k,a<=k->k<i->oK d[m]! d[k]! =false)/\Hid (∀k,j<=k->k<m->oK d[m]! d[k]! =true)/\Sep w0 wr (dA (sV g N cap) d::R)) (fun iv jv _=>(intOf jv).toNat-(intOf iv).toNat)
 case atStart=>exact⟨a,m,by omega,rfl,rfl,Lh fun k h1 h2=>by omega,Lh fun k h1 h2=>by omega,h'.out⟩
 obtain⟨i,j,⟨hi,hij,hj⟩,rfl,rfl,hlo,hhi,hS⟩:=hrel;clear h';by_cases hlt:i<j
 ·(have q1:(i:Int)<(j:Int):=by omega);(have q0:(0:Int)<=(i:Int):=by omega);(have q2:(j:Int)<=m:=by omega);(have q6:(m:Int)<N:=by have:=afB.out;omega);have hS':=Lh hS;have eH:Hid (((i:Int)+j)/2=(((i+j)/2:Nat):Int)):=Lh aD;clear hS;go_wp2_with fail;rw[eH.out];(have hH1:i<=(i+j)/2:=by omega);(have hH2:(i+j)/2<j:=by omega);obtain⟨H,hH⟩:∃H,H=(i+j)/2:=⟨_,rfl⟩;rw[<-hH]at hH1 hH2 ⊢;clear eH hH;(have q3:(H:Int)<N:=by omega);(have q4:(0:Int)<=H:=by omega);have hQ:=hS'.out.drew;have hA:=fK hN'.out hQ (i:=m) (by have:=hN'.out;have:=afB.out;omega);have hB:=fK hN'.out hQ (i:=H) (by have:=hN'.out;have:=afB.out;omega);obtain⟨x,hx⟩:∃x,x=d[m]! :=⟨_,rfl⟩;obtain⟨y,hy⟩:∃y,y=d[H]! :=⟨_,rfl⟩;rw[<-hx]at hA;rw[<-hy]at hB;have hE:=And.intro hA.1 (And.intro hA.2.1 (And.intro hA.2.2 (And.intro hB.1 (And.intro hB.2.1 hB.2.2))));(have hcc:=fun(W:World) (X:Sep w0 W (dA (sV g N cap) d::R))=>And.intro (fK hN'.out X (i:=m) (by have:=hN'.out;have:=afB.out;omega)) (fK hN'.out X (i:=H) (by have:=hN'.out;have:=afB.out;omega)));rw[<-hx,<-hy]at hcc;replace hQ:=Lh hQ;replace hcc:=Lh hcc;replace hx:=Lh hx;replace hy:=Lh hy;clear hA hB hS';unfold aC at hE;refine aP (S:=fun w'=>w'.cell? ⟨g,m*3,none⟩=some (.string ⟨x.path.toArray⟩)/\w'.cell? ⟨g,m*3+1,none⟩=some (iV x.file)/\w'.cell? ⟨g,m*3+2,none⟩=some (iV x.mode)/\w'.cell? ⟨g,H*3,none⟩=some (.string ⟨y.path.toArray⟩)/\w'.cell? ⟨g,H*3+1,none⟩=some (iV y.file)/\w'.cell? ⟨g,H*3+2,none⟩=some (iV y.mode)) 12 ?_;refine aA 0 hE ?_;refine aA 1 hE ?_;refine aA 2 hE ?_;refine aA 3 hE ?_;refine aA 4 hE ?_;refine aA 5 hE ?_;refine aA 6 hE ?_;refine aA 7 hE ?_;refine aA 8 hE ?_;(refine bI 9 fun K hK=>?_);go_simp;go_at_call 135;refine(TJ x y _).mono ?_;rintro e w5 ⟨rfl,hb5⟩;have hS5:=hQ.out.pure hb5;have rV:=hcc.out _ hS5;replace rV:=And.intro rV.1.1 (And.intro rV.1.2.1 (And.intro rV.1.2.2 (And.intro rV.2.1 (And.intro rV.2.2.1 rV.2.2.2))));replace hS5:=Lh hS5;unfold aC at rV;clear hb5 hQ hcc hE;dsimp only;refine hK _ _ (fun _=>rV) ?_;clear hK K;(try simp only[Act.put,gD]);refine bA 10 (fun _=>rV) ?_;refine bA 11 (fun _=>rV) ?_;refine aQ fE ?_ _;clear rV;by_cases hc:cfN x y<0
  ·go_wp2_with fail;all_goals(rename_i hq;rw[decide_eq_true hc]at hq)
   focus cases hq
   go_roundw
   case rel=>refine⟨i,H,by omega,rfl,rfl,hlo,Lh fun k h1 h2=>?_,hS5.out⟩;(have hl:oK d[m]! d[H]! =true:=by rw[<-hx.out,<-hy.out];exact decide_eq_true hc);exact atO hs aD hl h1 h2
   case measure=>(simp[intOf];omega)
  go_wp2_with fail;(all_goals(rename_i hq;rw[decide_eq_false hc]at hq));rotate_left
  focus cases hq
  go_roundw
  case rel=>refine⟨H+1,j,by omega,by go_num,rfl,Lh fun k h1 h2=>?_,hhi,hS5.out⟩;(have hl:oK d[m]! d[H]! =false:=by rw[<-hx.out,<-hy.out];exact decide_eq_false hc);exact aBF hs aD hl h1 aD
  case measure=>(simp[intOf];omega)
 have hie:j=i:=by omega
 subst hie;have hS':=Lh hS;have i2:(m:Int)<N:=by have:=afB.out;omega
 clear hS;go_wp2_with fail;go_loopw[17] (fun kv wr=>∃(k:Nat) (d1:Array TN),(j<=k/\k<=m)/\kv=iV k/\Hid (VE d d1 k m)/\Hid (PermIn a b d d1)/\Sep w0 wr (dA (sV g N cap) d1::R)) (fun kv _=>(intOf kv).toNat)
 case atStart=>exact⟨m,d,by omega,rfl,Lh (VE.start d m),Lh (permIn_refl _ _ _),hS'.out⟩
 clear hS';obtain⟨k,d1,⟨hk1,hk2⟩,rfl,hmv,hp,hS⟩:=hrel;have q0:(0:Int)<=(k:Int):=by omega
 by_cases hlt2:j<k
 ·(have q1:(j:Int)<(k:Int):=by omega);(have hsz:N=d1.size:=by rw[hmv.out.size];exact hN'.out);have hmb:=afB.out;have hA:=fK hsz hS (i:=k) aD;have hB:=fK hsz hS (i:=k-1) aD;have hfz:=CX hsz hS;have hnew:=GH hsz hS (i:=k) (j:=k-1) aD aD;(have aF8:VE d d1 (k-1+1) m:=by rw[show k-1+1=k by omega];exact hmv.out);have afA:=aF8.succ aD (by rw[<-hN'.out];omega);rw[show k-1+1=k by omega]at afA;replace afA:=Lh afA;have hp2:Hid (PermIn a b d (swp d1 k (k-1))):=Lh (permIn_trans _ _ _ _ _ hp.out (swp_permIn _ _ _ _ _ aD aD aD aD (by rw[<-hsz];omega)));obtain⟨x,hx⟩:∃x,x=d1[k]! :=⟨_,rfl⟩;obtain⟨y,hy⟩:∃y,y=d1[k-1]! :=⟨_,rfl⟩;rw[<-hx]at hA hnew;rw[<-hy]at hB hnew;have JU:=Lh hnew;(have u1:IntKind.i64.wrap ((k:Int)-1)=((k-1:Nat):Int):=by rw[IntWalk.i64_in _ aD];omega);(have u3:(0:Int)<=((k-1:Nat):Int):=by omega);(have u5:((k-1:Nat):Int)<(N:Int):=by omega);(have u6:(k:Int)<(N:Int):=by omega);obtain⟨K1,hK1⟩:∃K1,K1=k-1:=⟨_,rfl⟩;rw[<-hK1]at u1 u3 u5 hB JU afA hp2;(have hdf:K1*3+2<k*3:=by omega);replace hK1:=Lh hK1;obtain⟨e1,e2,e3⟩:=hA;obtain⟨e4,e5,e6⟩:=hB;clear hnew hS hmv hp hx hy hsz aF8 hmb;unfold aC at*;go_wp2_with fail;refine aP (S:=fun _=>True) 18 ?_;refine aA 0 trivial ?_;refine aA 1 trivial ?_;refine aA 2 trivial ?_;refine aA 3 trivial ?_;refine aA 4 trivial ?_;refine aA 5 trivial ?_;refine aA 6 trivial ?_;refine aA 7 trivial ?_;refine aA 8 trivial ?_;refine aA 10 trivial ?_;refine aA 11 trivial ?_;refine aA 12 trivial ?_;refine iX (i:=9) (j:=13) fE rfl rfl (fun K hK=>?_) (fun K hK=>?_)
  focus
   go_simp
   refine hK _ _ (fun _=>trivial) ?_
   clear hK K
   try simp only[Act.put,gD]
   refine bA 13 (fun _=>trivial) ?_
  rotate_left
  focus
   go_simp
   refine hK _ _ (fun _=>trivial) ?_
   clear hK K
   try simp only[Act.put,gD]
   refine bA 9 (fun _=>trivial) ?_
  all_goals
   refine bA 14 (fun _=>trivial) ?_
   refine bA 15 (fun _=>trivial) ?_
   refine bA 16 (fun _=>trivial) ?_
   refine bA 17 (fun _=>trivial) ?_
   refine aQ fE ?_ _
   go_wp2_with fail
   go_roundw
   case rel=>have hk:=hK1.out;refine⟨K1,_,by omega,by first |rfl|go_num|(congr 1;omega),afA,hp2,?_⟩;exact JU.out.drew
   case measure=>have hk:=hK1.out;simp[intOf];omega
 have hke:k=j:=by omega
 have q1:¬(j:Int)<(k:Int):=by omega
 have hS':=Lh hS;clear hS;go_wp2_with fail;have h1:=hmv.out.sorted aa6 aD hk2 hs (fun x h2 h3=>hlo.out x h2 aD) (fun x h2 h3=>hhi.out x aD h3);rw[<-afB.out]at h1;refine bodyPost_ret (results_none rfl _ _ _) rfl ⟨rfl,d1,hp.out,h1,hS'.out⟩
end
def atP (w0:World) (R:List aW) (g cap N K:Nat):Prop:=∀(W:World) (d:Array TN) (a m b:Nat),b-a<=K->N=d.size->Sep w0 W (dA (sV g N cap) d::R)->a<m->m<b->b<=N->SortedIn oK a m d->SortedIn oK m b d->
 Calls Tryz.prog 206 #[.slice (some ⟨g,0,none⟩) N cap,.int .i64 a,.int .i64 m,.int .i64 b,ET] W fun e w'=>e= .returned (.tuple #[])/\∃d',PermIn a b d d'/\SortedIn oK a b d'/\Sep w0 w' (dA (.slice (some ⟨g,0,none⟩) N cap) d'::R)
section
variable {w0 w:World} {R:List aW} {g cap N:Nat}
def afC (w0:World) (R:List aW) (g cap N:Nat) (d:Array TN) (a m b M s:Nat) (W:World):Prop:=∃d1,YC d d1 s m (M+m-s)/\PermIn a b d d1/\Sep w0 W (dA (sV g N cap) d1::R)
def afD (w0:World) (R:List aW) (g cap N:Nat) (d:Array TN) (a m b M s:Nat) (W:World):Prop:=∃d1 d2,YC d d1 s m (M+m-s)/\PermIn a b d d1/\PermIn a M d1 d2/\SortedIn oK a M d2/\Sep w0 W (dA (sV g N cap) d2::R)
def azZ (w0:World) (R:List aW) (g cap N:Nat) (d:Array TN) (a b:Nat) (W:World):Prop:=∃d',PermIn a b d d'/\SortedIn oK a b d'/\Sep w0 W (dA (sV g N cap) d'::R)
structure TK (d:Array TN) (N a m b M s:Nat):Prop where
 size:N=d.size
 am:a<m
 mb:m<b
 bNn:b<=N
 aM:a<M
 Mb:M<b
 s1:SortedIn oK a m d
 s2:SortedIn oK m b d
 cut:atM oK d a m b M s
section
variable {d:Array TN} {a m b M s:Nat} (H:TK d N a m b M s)
include H
theorem TK.aBG (h:¬(s<m/\s<M)) (hS:Sep w0 w (dA (sV g N cap) d::R)):afC w0 R g cap N d a m b M s w:=by
 have hc:=H.cut;have h1:=hc.aBC;have h2:=hc.aF5;refine⟨d,⟨rfl,fun k hk=>?_,fun k hk=>?_,fun _ _=>rfl⟩,permIn_refl _ _ _,hS⟩
 ·(have e:s=m:=by omega);rw[e]
 have e:s=M:=by omega
 subst e;rw[show s+(s+m-s-m)+k=s+k by omega]
theorem TK.rot (hd:N<=5000) (h1:s<m) (h2:s<M) (hS:Sep w0 w (dA (sV g N cap) d::R)):
  Calls Tryz.prog 228 #[.slice (some ⟨g,0,none⟩) N cap,.int .i64 s,.int .i64 m,.int .i64 ((M:Int)+m-s),ET] w fun e w'=>e= .returned (.tuple #[])/\afC w0 R g cap N d a m b M s w':=by
 have hc:=H.cut;have h3:=hc.hi;have h4:=H.bNn;have h:=axU (a:=s) (m:=m) (b:=M+m-s) (cv:=ET) H.size hS hd h1 aD aD;rw[show((M+m-s:Nat):Int)=(M:Int)+m-s by omega]at h;refine h.mono ?_;rintro e w' ⟨rfl,d1,hr,hp,hS1⟩;exact⟨rfl,d1,hr,pF hp hc.low h3 (by rw[<-H.size];exact h4),hS1⟩
theorem TK.halves {d1:Array TN} (hr:YC d d1 s m (M+m-s)):SortedIn oK a s d1/\SortedIn oK s M d1/\SortedIn oK M (M+m-s) d1/\SortedIn oK (M+m-s) b d1/\∀i j,a<=i->i<M->M<=j->j<b->oK d1[j]! d1[i]! =false:=aiS aa6 H.cut H.s1 H.s2 hr (by have:=H.aM;omega) (by have:=H.Mb;omega)
theorem TK.alE (h:¬(a<s/\s<M)) (hP:afC w0 R g cap N d a m b M s w):afD w0 R g cap N d a m b M s w:=by
 obtain⟨d1,hr,hp,hS⟩:=hP;obtain⟨k1,k2,k3,k4,k5⟩:=H.halves hr;have h1:=H.cut.low;have h2:=H.cut.aF5;refine⟨d1,d1,hr,hp,permIn_refl _ _ _,?_,hS⟩;by_cases e:a<s
 ·(have e2:s=M:=by omega);rw[<-e2];exact k1
 have e2:s=a:=by omega
 rw[<-e2];exact k2
theorem TK.left {K:Nat} (ih:atP w0 R g cap N K) (hK:b-a<=K+1) (h1:a<s) (h2:s<M) (hP:afC w0 R g cap N d a m b M s w):
  Calls Tryz.prog 206 #[.slice (some ⟨g,0,none⟩) N cap,.int .i64 a,.int .i64 s,.int .i64 M,ET] w fun e w'=>e= .returned (.tuple #[])/\afD w0 R g cap N d a m b M s w':=by
 obtain⟨d1,hr,hp,hS⟩:=hP;obtain⟨k1,k2,k3,k4,k5⟩:=H.halves hr;have h3:=H.Mb;have h4:=H.bNn;refine(ih w d1 a s M aD (by rw[hr.size];exact H.size) hS h1 h2 aD k1 k2).mono ?_;rintro e w' ⟨rfl,d2,h5,h6,h7⟩;exact⟨rfl,d1,d2,hr,hp,h5,h6,h7⟩
theorem TK.end_ {d1 d2 d3:Array TN} (hr:YC d d1 s m (M+m-s)) (hp:PermIn a b d d1) (p1:PermIn a M d1 d2) (q1:SortedIn oK a M d2) (p2:PermIn M b d2 d3) (q2:SortedIn oK M b d3):PermIn a b d d3/\SortedIn oK a b d3:=by obtain⟨k1,k2,k3,k4,k5⟩:=H.halves hr;have h3:=H.Mb;have h4:=H.bNn;have h5:=H.aM;have h6:=merged aa6 (by rw[hr.size,<-H.size];exact h4) aD aD k5 p1 q1 p2 q2;exact⟨permIn_trans _ _ _ _ _ hp h6.1,h6.2⟩
theorem TK.parts {d1 d2:Array TN} (hr:YC d d1 s m (M+m-s)) (p1:PermIn a M d1 d2):SortedIn oK M (M+m-s) d2/\SortedIn oK (M+m-s) b d2:=by obtain⟨k1,k2,k3,k4,k5⟩:=H.halves hr;have h1:=H.cut.aBC;exact⟨CW k3 fun k h _=>p1.2.1 k (.inr h),CW k4 fun k h _=>p1.2.1 k (.inr aD)⟩
theorem TK.afE (h:¬(s<m/\M+m-s<b)) (hP:afD w0 R g cap N d a m b M s w):azZ w0 R g cap N d a b w:=by
 obtain⟨d1,d2,hr,hp,p1,q1,hS⟩:=hP;obtain⟨k3,k4⟩:=H.parts hr p1;have h1:=H.cut.aBC;have h2:=H.cut.hi;have q2:SortedIn oK M b d2:=by
  by_cases e:s<m
  ·(have e2:M+m-s=b:=by omega);rw[<-e2];exact k3
  (have e2:M+m-s=M:=by omega);rw[e2]at k4;exact k4
 obtain⟨r1,r2⟩:=H.end_ hr hp p1 q1 (permIn_refl _ _ _) q2;exact⟨d2,r1,r2,hS⟩
theorem TK.right {K:Nat} (ih:atP w0 R g cap N K) (hK:b-a<=K+1) (h1:s<m) (h2:M+m-s<b) (hP:afD w0 R g cap N d a m b M s w):
  Calls Tryz.prog 206 #[.slice (some ⟨g,0,none⟩) N cap,.int .i64 M,.int .i64 ((M:Int)+m-s),.int .i64 b,ET] w fun e w'=>e= .returned (.tuple #[])/\azZ w0 R g cap N d a b w':=by
 obtain⟨d1,d2,hr,hp,p1,q1,hS⟩:=hP;obtain⟨k3,k4⟩:=H.parts hr p1;have h3:=H.aM;have h4:=H.bNn;have h:=ih w d2 M (M+m-s) b aD (by rw[p1.1,hr.size];exact H.size) hS aD h2 h4 k3 k4;rw[show((M+m-s:Nat):Int)=(M:Int)+m-s by omega]at h;refine h.mono ?_;rintro e w' ⟨rfl,d3,h5,h6,h7⟩;obtain⟨r1,r2⟩:=H.end_ hr hp p1 q1 h5 h6;exact⟨rfl,d3,r1,r2,h7⟩
end
theorem atQ {K:Nat} (hd:N<=5000) (ih:atP w0 R g cap N K):atP w0 R g cap N (K+1):=by
 intro w d a m b hK hN h ham hmb hb hs1 hs2;by_cases e1:m=a+1
 ·exact atN hN h hd e1 hmb hb hs2
 by_cases e2:b=m+1
 ·exact aoK hN h hd aD e2 hb hs1
 have h':=Lh h;have hN':=Lh hN;have ih':=Lh ih;have b1:(N:Int)<=5000:=by omega
 have c1:(a:Int)<m:=by omega
 have c2:(m:Int)<b:=by omega
 have c3:(b:Int)<=N:=by omega
 have c5:(0:Int)<=a:=by omega
 have c6:((m:Int)-a==1)=false:=by rw[jU];omega
 have c7:((b:Int)-m==1)=false:=by rw[jU];omega
 obtain⟨M,hM⟩:∃M,M=(a+b)/2:=⟨_,rfl⟩;have eM:((a:Int)+b)/2=(M:Int):=by omega
 have m1:a<M:=by omega
 have m2:M<b:=by omega
 obtain⟨s0,r0,hsr⟩:∃s0 r0:Nat,(M<m/\s0=M+m-b/\r0=M)\/(m<=M/\s0=a/\r0=m):=by
  by_cases e:M<m
  ·exact⟨_,_,.inl ⟨e,rfl,rfl⟩⟩
  exact⟨_,_,.inr ⟨by omega,rfl,rfl⟩⟩
 have hf:Hid ((s0<=r0/\a<=s0/\r0<=m/\r0<=M/\M+m-s0<=b)/\(s0=a\/M+m-s0=b)/\(r0=m\/r0=M)):=Lh aD;have eM':=Lh eM;have hM':=Lh hM;have i1:(a:Int)<M:=by omega
 have i2:(M:Int)<b:=by omega
 clear h hN ih hM;unfold ET;go_enter Tryz.func206,Tryz.ntmps206;have aLK:(M<m/\Hid ((M:Int)+m-b=s0)/\Hid ((M:Int)=r0))\/(¬M<m/\Hid ((a:Int)=s0)/\Hid ((m:Int)=r0)):=by
  rcases hsr with⟨t1,t2,t3⟩|⟨t1,t2,t3⟩
  ·exact .inl ⟨t1,Lh aD,Lh aD⟩
  exact .inr ⟨by omega,Lh aD,Lh aD⟩
 clear hsr;rcases aLK with⟨t1,hs0,hr0⟩|⟨t1,hs0,hr0⟩
 focus have f0:((a:Int)+b)/2<m:=by omega
 rotate_left
 focus have f0:¬((a:Int)+b)/2<m:=by omega
 all_goals
  clear eM t1
  go_wp2_with fail
  rw[eM'.out]
  clear f0
  go_loopw[20,21] (fun sv rv wr=>∃(s r:Nat),(s0<=s/\s<=r/\r<=r0)/\sv=iV s/\rv=iV r/\Hid (s=s0\/oK d[M+m-s]! d[s-1]! =false)/\Hid (r=r0\/oK d[M+m-1-r]! d[r]! =true)/\Sep w0 wr (dA (sV g N cap) d::R)) (fun sv rv _=>(intOf rv).toNat-(intOf sv).toNat)
  case atStart=>exact⟨s0,r0,⟨iC _,hf.out.1.1,iC _⟩,by rw[hs0.out],by rw[hr0.out],Lh (.inl rfl),Lh (.inl rfl),h'.out⟩
  case round=>
   obtain⟨s,r,⟨hs,hsr,hr⟩,rfl,rfl,hlo,hhi,hS⟩:=hrel;clear h';obtain⟨⟨g1,g2,g3,g4,g5⟩,g6,g7⟩:=hf.out;by_cases hlt:s<r
   ·(have q1:(s:Int)<(r:Int):=by omega);(have q0:(0:Int)<=(s:Int):=by omega);(have q2:(r:Int)<=m:=by omega);(have q7:(r:Int)<=M:=by omega);have hS':=Lh hS;have eC:Hid (((s:Int)+r)/2=(((s+r)/2:Nat):Int)):=Lh aD;clear hS;replace g6:=Lh g6;replace g7:=Lh g7;go_wp2_with fail;rw[eC.out];(have kK:s<=(s+r)/2:=by omega);(have hC2:(s+r)/2<r:=by omega);obtain⟨C,hC⟩:∃C,C=(s+r)/2:=⟨_,rfl⟩;rw[<-hC]at kK hC2 ⊢;clear eC hC;(have q3:(C:Int)<N:=by omega);(have q4:(0:Int)<=C:=by omega);(have u1:IntKind.i64.wrap ((M:Int)+m-1-C)=((M+m-1-C:Nat):Int):=by rw[IntWalk.i64_in _ aD];omega);(have u3:(0:Int)<=((M+m-1-C:Nat):Int):=by omega);(have u5:((M+m-1-C:Nat):Int)<(N:Int):=by omega);(have hPl:M+m-1-C<N:=by omega);obtain⟨P1,hP1⟩:∃P1,P1=M+m-1-C:=⟨_,rfl⟩;rw[<-hP1]at u1 u3 u5 hPl;replace hP1:=Lh hP1;have hQ:=hS'.out.drew;have hA:=fK hN'.out hQ (i:=P1) (by have:=hN'.out;omega);have hB:=fK hN'.out hQ (i:=C) (by have:=hN'.out;omega);obtain⟨x,hx⟩:∃x,x=d[P1]! :=⟨_,rfl⟩;obtain⟨y,hy⟩:∃y,y=d[C]! :=⟨_,rfl⟩;rw[<-hx]at hA;rw[<-hy]at hB;have hE:=And.intro hA.1 (And.intro hA.2.1 (And.intro hA.2.2 (And.intro hB.1 (And.intro hB.2.1 hB.2.2))));(have hcc:=fun(W:World) (X:Sep w0 W (dA (sV g N cap) d::R))=>And.intro (fK hN'.out X (i:=P1) (by have:=hN'.out;omega)) (fK hN'.out X (i:=C) (by have:=hN'.out;omega)));rw[<-hx,<-hy]at hcc;replace hQ:=Lh hQ;replace hcc:=Lh hcc;replace hx:=Lh hx;replace hy:=Lh hy;clear hA hB hS';unfold aC at hE;refine aP (S:=fun w'=>w'.cell? ⟨g,P1*3,none⟩=some (.string ⟨x.path.toArray⟩)/\w'.cell? ⟨g,P1*3+1,none⟩=some (iV x.file)/\w'.cell? ⟨g,P1*3+2,none⟩=some (iV x.mode)/\w'.cell? ⟨g,C*3,none⟩=some (.string ⟨y.path.toArray⟩)/\w'.cell? ⟨g,C*3+1,none⟩=some (iV y.file)/\w'.cell? ⟨g,C*3+2,none⟩=some (iV y.mode)) 14 ?_;refine aA 0 hE ?_;refine aA 1 hE ?_;refine aA 2 hE ?_;refine aA 3 hE ?_;refine aA 4 hE ?_;refine aA 5 hE ?_;refine aA 6 hE ?_;refine aA 7 hE ?_;refine aA 8 hE ?_;refine aA 9 hE ?_;refine aA 10 hE ?_;(refine bI 11 fun K hK=>?_);go_simp;go_at_call 135;refine(TJ x y _).mono ?_;rintro e w5 ⟨rfl,hb5⟩;have hS5:=hQ.out.pure hb5;have rV:=hcc.out _ hS5;replace rV:=And.intro rV.1.1 (And.intro rV.1.2.1 (And.intro rV.1.2.2 (And.intro rV.2.1 (And.intro rV.2.2.1 rV.2.2.2))));replace hS5:=Lh hS5;unfold aC at rV;clear hb5 hQ hcc hE;dsimp only;refine hK _ _ (fun _=>rV) ?_;clear hK K;(try simp only[Act.put,gD]);refine bA 12 (fun _=>rV) ?_;refine bA 13 (fun _=>rV) ?_;refine aQ fE ?_ _;clear rV;by_cases hc:cfN x y<0
    ·go_wp2_with fail;all_goals(rename_i hq;rw[decide_eq_true hc]at hq)
     focus cases hq
     go_roundw
     case rel=>refine⟨s,C,by omega,rfl,rfl,hlo,Lh (.inr ?_),hS5.out⟩;(have hl:oK d[P1]! d[C]! =true:=by rw[<-hx.out,<-hy.out];exact decide_eq_true hc);rw[<-hP1.out];exact hl
     case measure=>(simp[intOf];omega)
    go_wp2_with fail;(all_goals(rename_i hq;rw[decide_eq_false hc]at hq));rotate_left
    focus cases hq
    go_roundw
    case rel=>refine⟨C+1,r,by omega,by go_num,rfl,Lh (.inr ?_),hhi,hS5.out⟩;(have hl:oK d[P1]! d[C]! =false:=by rw[<-hx.out,<-hy.out];exact decide_eq_false hc);rw[show M+m-(C+1)=P1 by have:=hP1.out;omega,show C+1-1=C by omega];exact hl
    case measure=>(simp[intOf];omega)
   (have hie:s=r:=by omega);subst hie;have hcut:atM oK d a m b M s:=by
    refine⟨by omega,by omega,by omega,by omega,by omega,fun k1 k2=>?_,fun k1 k2=>?_⟩
    ·rcases hlo.out with e|e
     ·exfalso;omega
     exact e
    rcases hhi.out with e|e
    ·exfalso;omega
    rw[show M+m-s-1=M+m-1-s by omega];exact e
   have H:=Lh (TK.mk hN'.out ham hmb hb m1 m2 hs1 hs2 hcut);have hrt:=Lh (fun(k1:s<m) (k2:s<M) (W:World) (X:Sep w0 W (dA (sV g N cap) d::R))=>H.out.rot (cap:=cap) hd k1 k2 X);have hll:=Lh (fun(k1:a<s) (k2:s<M) (W:World) (X:afC w0 R g cap N d a m b M s W)=>H.out.left ih'.out hK k1 k2 X);have hrr:=Lh (fun(k1:s<m) (k2:M+m-s<b) (W:World) (X:afD w0 R g cap N d a m b M s W)=>H.out.right ih'.out hK k1 k2 X);unfold ET at hrt hll hrr;have hS':=Lh hS;(have l1:s<=m:=by omega);(have l2:s<=M:=by omega);(have l3:M+m-s<=b:=by omega);(have l4:a<=s:=by omega);clear hS hcut hlo hhi g1 g2 g3 g4 g5 g6 g7 hs0 hr0 hf hs hr hsr hlt eM' hM' e1 e2;(by_cases f1:(s:Int)<m<;>by_cases f2:(m:Int)<(M:Int)+m-s<;>by_cases f3:(a:Int)<s<;>by_cases f4:(s:Int)<M<;>by_cases f5:(M:Int)<(M:Int)+m-s<;>by_cases f6:(M:Int)+m-s<b<;>try(exfalso;omega));all_goals
    (try have h1:=Lh (H.out.aBG aD hS'.out))
    (try(have k:¬(a<s/\s<M):=aD;clear hll k))
    (try(have k:¬(s<m/\M+m-s<b):=aD;clear hrr k))
    go_wp2_with(first |(go_at_call 228;refine(hrt.out aD aD _ hS'.out).mono ?_;rintro e w3 ⟨rfl,hp⟩;(have h1:=Lh hp);clear hp hrt)|(go_at_call 206;refine(hll.out aD aD _ h1.out).mono ?_;rintro e w4 ⟨rfl,hp⟩;(have h2:=Lh hp);clear hp h1 hll)|(go_at_call 206;refine(hrr.out aD aD _ (by first |exact h2.out|exact H.out.alE aD h1.out)).mono ?_;rintro e w5 ⟨rfl,hp⟩;(have h3:=Lh hp);clear hp hrr))
    go_end0
    refine⟨rfl,?_⟩
    first
     |exact h3.out
     |exact H.out.afE aD h2.out
     |exact H.out.afE aD (H.out.alE aD h1.out)
theorem alF (hd:N<=5000):∀K,atP w0 R g cap N K
 |0=>fun W d a m b h0 hN hS h1 h2=>by omega
 |K+1=>atQ hd (alF hd K)
end
def JV (s n:Nat) (d:Array TN):Prop:=∀k,k*s<n->SortedIn oK (k*s) (min (k*s+s) n) d
def NL (s n i:Nat) (d:Array TN):Prop:=∀k,k<i->SortedIn oK (k*s) (min (k*s+s) n) d
def VG (s n A:Nat) (d:Array TN):Prop:=∀k,A<=k*s->k*s<n->SortedIn oK (k*s) (min (k*s+s) n) d
theorem afF {k i s:Nat} (h:k<i):k*s+s<=i*s:=by have:=OP s h;rw[VY]at this;exact this
theorem NL.next {s n i A B:Nat} {d d':Array TN} (h:NL s n i d) (hA:A=i*s) (hB:B=min (A+s) n) (hp:PermIn A B d d') (hs:SortedIn oK A B d'):NL s n (i+1) d':=fun k hk=>by
 rcases AZ k i with h1|h1
 ·have h2:=afF (s:=s) h1;exact CW (h k h1) fun x h3 h4=>hp.2.1 x (.inl aD)
 obtain rfl:k=i:=by omega
 rw[<-hA,<-hB];exact hs
theorem NL.all {s n i:Nat} {d:Array TN} (h:NL s n (i+1) d) (hi:n<=i*s+s):JV s n d:=fun k hk=>by
 rcases AZ k (i+1)with h1|h1
 ·exact h k h1
 have h2:=afF (s:=s) (k:=i) (i:=k) aD;omega
theorem NL.full {s n i:Nat} {d:Array TN} (h:NL s n i d) (hi:n<=i*s):JV s n d:=fun k hk=>by
 rcases AZ k i with h1|h1
 ·exact h k h1
 have h2:=OP s h1;omega
theorem JV.one {s n:Nat} {d:Array TN} (h:JV s n d) (hn:n<=s) (h0:0<n):SortedIn oK 0 n d:=by have h1:=h 0 aD;rw[L8,GZ,VU hn]at h1;exact h1
theorem JV.later {s n:Nat} {d:Array TN} (h:JV s n d) (A:Nat):VG s n A d:=fun k _ hk=>h k hk
theorem VG.at_ {s n A i:Nat} {d:Array TN} (h:VG s n A d) (hA:A=i*(2*s)) (hn:A<n):SortedIn oK A (min (A+s) n) d:=by
 have e:(2*i)*s=A:=by rw[hA,O4 2 i,ab6]
 have:=h (2*i) aD aD;rw[e]at this;exact this
theorem VG.at2 {s n A i:Nat} {d:Array TN} (h:VG s n A d) (hA:A=i*(2*s)) (hn:A+s<n):SortedIn oK (A+s) (min (A+2*s) n) d:=by
 have e:(2*i+1)*s=A+s:=by rw[VY,hA,O4 2 i,ab6]
 have:=h (2*i+1) aD aD;rw[e,show A+s+s=A+2*s by omega]at this;exact this
theorem VG.next {s n A B:Nat} {d d':Array TN} (h:VG s n A d) (hAB:A<=B) (hp:PermIn A B d d'):VG s n B d':=fun k h1 h2=>CW (h k aD h2) fun x h3 h4=>hp.2.1 x (.inr aD)
section
variable {w0 w:World} {R:List aW} {g cap:Nat} {d:Array TN}
theorem aa9 {N:Nat} (hN:N=d.size) (h:Sep w0 w (dA (sV g N cap) d::R)) (hd:N<=2000) (h20:20<=N):
  Calls Tryz.prog 180 #[.slice (some ⟨g,0,none⟩) N cap,.int .i64 N,ET] w fun e w'=>e= .returned (.tuple #[])/\∃d',PermIn 0 N d d'/\SortedIn oK 0 N d'/\Sep w0 w' (dA (.slice (some ⟨g,0,none⟩) N cap) d'::R):=by
 have h':=Lh h;have hN':=Lh hN;have b1:(N:Int)<=2000:=by omega
 have b2:(20:Int)<=N:=by omega
 have hin:Hid (∀W (d1:Array TN) (a b:Nat),N=d1.size->Sep w0 W (dA (.slice (some ⟨g,0,none⟩) N cap) d1::R)->a<=b->b<=N->Calls Tryz.prog 205 #[.slice (some ⟨g,0,none⟩) N cap,.int .i64 a,.int .i64 b,ET] W fun e w'=>e= .returned (.tuple #[])/\∃d',PermIn a b d1 d'/\SortedIn oK a b d'/\Sep w0 w' (dA (.slice (some ⟨g,0,none⟩) N cap) d'::R)):=Lh fun W d1 a b h1 h2 h3 h4=>by subst h1;refine(alD h2 aD h3 h4 aD).mono ?_;rintro e w' ⟨rfl,d',p1,p2,p3⟩;rw[p1.1]at p3;exact⟨rfl,d',p1,p2,p3⟩
 have hsy:Hid (∀W (d1:Array TN) (a m b:Nat),N=d1.size->Sep w0 W (dA (.slice (some ⟨g,0,none⟩) N cap) d1::R)->a<m->m<b->b<=N->SortedIn oK a m d1->SortedIn oK m b d1->Calls Tryz.prog 206 #[.slice (some ⟨g,0,none⟩) N cap,.int .i64 a,.int .i64 m,.int .i64 b,ET] W fun e w'=>e= .returned (.tuple #[])/\∃d',PermIn a b d1 d'/\SortedIn oK a b d'/\Sep w0 w' (dA (.slice (some ⟨g,0,none⟩) N cap) d'::R)):=Lh fun W d1 a m b h1 h2 h3 h4 h5 h6 h7=>
  alF (N:=N) aD _ W d1 a m b (iC _) h1 h2 h3 h4 h5 h6 h7
 clear h hN;unfold ET at*;go_enter Tryz.func180,Tryz.ntmps180;go_wp2_with fail;go_loopw[7,8] (fun av bv wr=>∃(i A:Nat) (d1:Array TN),Hid (A=i*20)/\A<=N/\av=iV A/\bv=iV ((A:Int)+20)/\Hid (NL 20 N i d1)/\Hid (PermIn 0 N d d1)/\Sep w0 wr (dA (sV g N cap) d1::R)) (fun av _ _=>N+20-(intOf av).toNat)
 case atStart=>exact⟨0,0,d,Lh rfl,fZ _,rfl,rfl,Lh fun k hk=>absurd hk (FO _),Lh (permIn_refl _ _ _),h'.out⟩
 obtain⟨i,A,d1,hA,hAN,rfl,rfl,hbk,hp,hS⟩:=hrel;clear h';have hsz:N=d1.size:=by rw[hp.out.1];exact hN'.out
 have q0:(0:Int)<=(A:Int):=by omega
 by_cases hb:A+20<=N
 ·(have q1:(A:Int)+20<=N:=by omega);have hc:=hin.out _ d1 A (A+20) hsz hS aD hb;rw[show((A+20:Nat):Int)=(A:Int)+20 by omega]at hc;replace hc:=Lh hc;replace hsz:=Lh hsz;clear hS;go_wp2_with(go_at_call 205;go_loud (refine hc.out.mono ?_;rintro e w3 ⟨rfl,d2,h5,h6,h7⟩;(replace h5:=Lh h5);(replace h6:=Lh h6);(replace h7:=Lh h7);clear hc));go_roundw
  case rel=>have e1:=hA.out;have h8:NL 20 N (i+1) d2:=hbk.out.next e1 (by rw[yN hb]) h5.out h6.out;refine⟨i+1,A+20,d2,Lh aD,hb,by go_num,by first |rfl|go_num|(congr 1;omega),Lh h8,Lh (permIn_trans _ _ _ _ _ hp.out (pF h5.out aD hb (by rw[<-hsz.out];exact iC _))),h7.out⟩
  case measure=>(simp[intOf];omega)
 have q1:¬(A:Int)+20<=N:=by omega
 have hc:=Lh (hin.out _ d1 A N hsz hS hAN (iC _));replace hsz:=Lh hsz;clear hS;go_wp2_with(go_at_call 205;go_loud (refine hc.out.mono ?_;rintro e w3 ⟨rfl,d2,h5,h6,h7⟩;(replace h5:=Lh h5);(replace h6:=Lh h6);(replace h7:=Lh h7);clear hc));have hb2:Hid (JV 20 N d2):=Lh ((hbk.out.next hA.out (by rw[VU aD]) h5.out h6.out).all (by have:=hA.out;omega));have hp2:Hid (PermIn 0 N d d2):=Lh (permIn_trans _ _ _ _ _ hp.out (pF h5.out aD (iC _) (by rw[<-hsz.out];exact iC _)));clear hA hbk hp h5 h6 hin;go_loopw[6] (fun sv wr=>∃(s:Nat) (d3:Array TN),(0<s/\s<=2*N)/\sv=iV s/\Hid (JV s N d3)/\Hid (PermIn 0 N d d3)/\Sep w0 wr (dA (sV g N cap) d3::R)) (fun sv _=>2*N+1-(intOf sv).toNat)
 case atStart=>exact⟨20,d2,by omega,rfl,hb2,hp2,h7.out⟩
 clear h7 hb2 hp2;obtain⟨s,d3,⟨hs0,hs2⟩,rfl,hbk,hp,hS⟩:=hrel;have r0:(0:Int)<(s:Int):=by omega
 by_cases hsn:s<N
 ·(have r1:(s:Int)<N:=by omega);have hS':=Lh hS;clear hS;go_wp2_with fail;go_loopw[7,8] (fun av bv wr=>∃(j A2:Nat) (d4:Array TN),Hid (A2=j*(2*s))/\A2<=N/\av=iV A2/\bv=iV ((A2:Int)+2*s)/\Hid (NL (2*s) N j d4)/\Hid (VG s N A2 d4)/\Hid (PermIn 0 N d d4)/\Sep w0 wr (dA (sV g N cap) d4::R)) (fun av _ _=>N+1-(intOf av).toNat)
  case atStart=>exact⟨0,0,d3,Lh (L8 _).symm,fZ _,rfl,by first |rfl|go_num|(congr 1;omega),Lh fun k hk=>absurd hk (FO _),Lh (hbk.out.later 0),hp,hS'.out⟩
  clear hS' hbk hp;obtain⟨j,A2,d4,hA2,aSK,rfl,rfl,hbf,hbl,hp,hS⟩:=hrel;(have K4:N=d4.size:=by rw[hp.out.1];exact hN'.out);(have t0:(0:Int)<=(A2:Int):=by omega);by_cases hb4:A2+2*s<=N
  ·(have t1:(A2:Int)+2*s<=N:=by omega);have k1:=hbl.out.at_ hA2.out aD;have k2:=hbl.out.at2 hA2.out aD;rw[yN aD]at k1 k2;have hc:=hsy.out _ d4 A2 (A2+s) (A2+2*s) K4 hS aD aD hb4 k1 k2;rw[show((A2+s:Nat):Int)=(A2:Int)+s by omega,show((A2+2*s:Nat):Int)=(A2:Int)+2*s by omega]at hc;replace hc:=Lh hc;replace K4:=Lh K4;clear hS k1 k2;go_wp2_with(go_at_call 206;go_loud (refine hc.out.mono ?_;rintro e w5 ⟨rfl,d5,h5,h6,h7⟩;(replace h5:=Lh h5);(replace h6:=Lh h6);(replace h7:=Lh h7);clear hc));go_roundw
   case rel=>have h8:NL (2*s) N (j+1) d5:=hbf.out.next hA2.out (by rw[yN hb4]) h5.out h6.out;have h9:VG s N (A2+2*s) d5:=hbl.out.next aD h5.out;refine⟨j+1,A2+2*s,d5,Lh (by have:=hA2.out;rw[Nat.add_one_mul j (2*s)];omega),hb4,by go_num,by first |rfl|go_num|(congr 1;omega),Lh h8,Lh h9,Lh (permIn_trans _ _ _ _ _ hp.out (pF h5.out aD hb4 (by rw[<-K4.out];exact iC _))),h7.out⟩
   case measure=>(simp[intOf];omega)
  (have t1:¬(A2:Int)+2*s<=N:=by omega);by_cases hm:A2+s<N
  ·(have t2:(A2:Int)+s<N:=by omega);have k1:=hbl.out.at_ hA2.out aD;have k2:=hbl.out.at2 hA2.out hm;rw[yN aD]at k1;rw[VU aD]at k2;have hc:=hsy.out _ d4 A2 (A2+s) N K4 hS aD hm (iC _) k1 k2;rw[show((A2+s:Nat):Int)=(A2:Int)+s by omega]at hc;replace hc:=Lh hc;replace K4:=Lh K4;clear hS k1 k2;go_wp2_with(go_at_call 206;go_loud (refine hc.out.mono ?_;rintro e w5 ⟨rfl,d5,h5,h6,h7⟩;(replace h5:=Lh h5);(replace h6:=Lh h6);(replace h7:=Lh h7);clear hc));go_roundw
   case rel=>have h8:NL (2*s) N (j+1) d5:=hbf.out.next hA2.out (by rw[VU aD]) h5.out h6.out;refine⟨2*s,d5,by omega,by first |rfl|go_num|(congr 1;omega),Lh (h8.all (by have:=hA2.out;omega)),Lh (permIn_trans _ _ _ _ _ hp.out (pF h5.out aD (iC _) (by rw[<-K4.out];exact iC _))),h7.out⟩
   case measure=>(simp[intOf];omega)
  (have t2:¬(A2:Int)+s<N:=by omega);have hS':=Lh hS;replace K4:=Lh K4;clear hS;have h8:Hid (JV (2*s) N d4):=by
   rcases AZ A2 N with h9|h9
   ·have k1:=hbl.out.at_ hA2.out h9;rw[VU aD]at k1;exact Lh ((hbf.out.next (B:=N) hA2.out (by rw[VU aD]) (permIn_refl _ _ _) k1).all (by have:=hA2.out;omega))
   exact Lh (hbf.out.full (by have:=hA2.out;omega))
  go_wp2_with fail;go_roundw
  case rel=>exact⟨2*s,d4,by omega,by first |rfl|go_num|(congr 1;omega),h8,hp,hS'.out⟩
  case measure=>(simp[intOf];omega)
 have r1:¬(s:Int)<N:=by omega
 have hS':=Lh hS;clear hS;go_wp2_with fail
 go_end0
 exact⟨rfl,d3,hp.out,hbk.out.one aD aD,hS'.out⟩
theorem aiT {v:Value} (h:Sep w0 w (dA v d::R)) (hd:d.size<=2000):
  Calls Tryz.prog 134 #[v,.func (.func 135) #[] #[]] w fun e w'=>e= .returned (.tuple #[])/\∃d',PermIn 0 d.size d d'/\SortedIn (Go.Proofs.ltOf cfN) 0 d.size d'/\Sep w0 w' (dA v d'::R):=by
 by_cases h20:d.size<20
 ·exact aa7 h h20
 obtain⟨g,c,rfl,_⟩:=h.kC 0 rfl aD;have hst:=aa9 rfl h hd aD;obtain⟨n,hn⟩:∃n,n=d.size:=⟨_,rfl⟩;rw[<-hn]at hst ⊢;unfold ET at hst;have hs2:=Lh hst;clear hst h hn;exact Z22
end
end Go.Proofs.YtmjomdkleikgbaaGreat
