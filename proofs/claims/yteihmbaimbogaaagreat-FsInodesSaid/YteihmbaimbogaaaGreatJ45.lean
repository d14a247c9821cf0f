/- Parts. -/
import Derived.Test.YteihmbaimbogaaaGreatJ44
set_option linter.unusedVariables false
set_option linter.unusedSimpArgs false
set_option maxRecDepth 100000
set_option maxHeartbeats 20000000
namespace Go.Proofs.YteihmbaimbogaaaGreat
open Go.RowKit
def aq4 (xb:Nat) (x:Stp):bK:=.box xb 38 #[iV x.op,.string ⟨x.path.toArray⟩,.string ⟨x.tz.toArray⟩,iV x.mode,iV x.ref]
def FP (tb:Nat) (a b:Value):bK:=.box tb 32 #[a,b]
def ML (sb:Nat) (k m l s i:Int):bK:=.box sb 68 #[iV k,iV m,iV l,iV s,iV i]
structure aKV (W:World) (xb tb wb:Nat) (x:Stp) (a b nv fv:Value):Prop where
 x0:W.cell? ⟨xb,0,none⟩=some (iV x.op)
 x1:W.cell? ⟨xb,1,none⟩=some (.string ⟨x.path.toArray⟩)
 x2:W.cell? ⟨xb,2,none⟩=some (.string ⟨x.tz.toArray⟩)
 x3:W.cell? ⟨xb,3,none⟩=some (iV x.mode)
 x4:W.cell? ⟨xb,4,none⟩=some (iV x.ref)
 t0:W.cell? ⟨tb,0,none⟩=some a
 t1:W.cell? ⟨tb,1,none⟩=some b
 w0:W.cell? ⟨wb,0,none⟩=some nv
 w1:W.cell? ⟨wb,1,none⟩=some fv
 f0:W.frozen? ⟨wb,0,none⟩=false
 f1:W.frozen? ⟨wb,1,none⟩=false
section
variable {w0 W:World} {X:bK} {xb tb wb:Nat} {x:Stp} {a b nv fv:Value} {T:TR} {i j:Nat}
theorem aCD (h:Sep w0 W [X,aq4 xb x,FP tb a b,rE a b T,sI wb nv fv i j]):aKV W xb tb wb x a b nv fv:=
 ⟨h.bC 1 rfl 0,h.bC 1 rfl 1,h.bC 1 rfl 2,h.bC 1 rfl 3,h.bC 1 rfl 4,h.bC 2 rfl 0,h.bC 2 rfl 1,h.bC 4 rfl 0,h.bC 4 rfl 1,h.bF 4 rfl 0,h.bF 4 rfl 1⟩
theorem alN {Y:bK} (h:Sep w0 W [X,Y,aq4 xb x,FP tb a b,rE a b T,sI wb nv fv i j]):aKV W xb tb wb x a b nv fv:=
 aCD (Sep.dE [0,2,3,4,5,1] h aQ bM|>.perm (by exact XC _)|>fun h=>(Sep.fst (X:=[X,aq4 xb x,FP tb a b,rE a b T,sI wb nv fv i j]) (Y:=[Y]) h))
theorem alO {sb:Nat} {k m l s t:Int} {Y:List bK} (h:Sep w0 W (X::ML sb k m l s t::Y)):W.cell? ⟨sb,0,none⟩=some (iV k)/\W.cell? ⟨sb,3,none⟩=some (iV s)/\W.cell? ⟨sb,4,none⟩=some (iV t):=
 ⟨h.bC 1 rfl 0,h.bC 1 rfl 3,h.bC 1 rfl 4⟩
end
section
variable {w:World}
theorem Z15 {P:Prop} (h:P:=by refine⟨⟨i+1,S8,_,_,_,_,T',φ5,by go_num,by omega,hL8.out,hT2.out,Sep.fst (X:=[_,_,_]) (Y:=[_,_,_,_]) (Sep.dE [0,6,5,1,2,3,4] WJ.out aQ bM)⟩,?_⟩;simp only[intOf];omega):P:=h
theorem Z70 {P:Prop} (h:P:=by clear hkeep hst hok1;go_wp2_with(first |(go_at_call 16;refine(sF _ _).mono ?_;rintro e w9 ⟨rfl,rfl⟩));refine⟨⟨i+1,S5,_,_,_,_,T',φ5,by go_num,by omega,hL5.out,hT2.out,Sep.fst (X:=[_,_,_]) (Y:=[_,_,_]) (Sep.dE [0,5,4,1,2,3] h10.out aQ bM)⟩,?_⟩;simp only[intOf];omega):P:=h
theorem Z85 {P:Prop} (h:P:=by clear hpk hsame hok1 hok2 alP;go_wp2_with(first |(go_at_call 16;refine(sF _ _).mono ?_;rintro e w9 ⟨rfl,rfl⟩));go_ret;exact⟨rfl,h15.out.below⟩):P:=h
theorem inodes_any {v sv:Value} {xs:List Stp} {cs:List Value} {bss:List (List UInt8)} {pth:List UInt8} (hx:G6 w v xs) (hok:∀x∈xs,PK w x) (hs:y9 w sv cs bss) (aKW:pth.length<=9223372036854775807):
  Calls Tryz.prog 8 #[v,sv,aC pth] w fun e w'=>e= .returned (.bool true)/\Below w.heap.size w w':=by
 obtain⟨Ax,cx,rfl,hxl⟩:=Rd.shape hx;obtain⟨As,c9,rfl,hsl⟩:=Rd.shape hs.rd;have b1:(xs.length:Int)<=9223372036854775807:=by unfold maxLen at hxl;omega
 have b2:(cs.length:Int)<=9223372036854775807:=by unfold maxLen at hsl;omega
 have hal:=Lh (akN (Sep.nil w));have hmu:Hid (∀W,Sep w W []->Calls Tryz.prog 24 #[.slice Ax xs.length cx,.slice As cs.length c9] W fun e w'=>∃b,e= .returned (.bool b)/\Sep w w' []):=Lh fun W hW=>
  (awR (hx.below hW.below) (fun x h=>(hok x h).below hW.below) (hs.below hW.below)).mono fun e w' ⟨b,h1,h2,h3⟩=>⟨b,h1,hW.pure h3⟩
 have hfr:Hid (∀W,Sep w W []->Calls Tryz.prog 13 #[iV 200,iV 64] W fun e w'=>∃f q p S φ,e= .returned (.tuple #[pV p,pV f,.bool true])/\kI S [] [] 306 64 φ/\Sep w w' [bI f q p S]):=Lh fun W hW=>
  (ZR (b:=200) (i:=64) (n:=306) rfl aQ aQ aQ aQ hW).mono fun e w' ⟨f,q,p,h1,h2⟩=>⟨f,q,p,_,_,h1,aq2 (n:=306) (names:=64) aQ aQ aQ aQ,h2⟩
 have hst:Hid (∀(pt:List UInt8) W f q p S ns fs φ X,pt.length<=9223372036854775807->kI S ns fs 306 64 φ->Sep w W (bI f q p S::X)->Calls Tryz.prog 29 #[pV f,.string ⟨pt.toArray⟩] W fun e w'=>
   ∃k m l s t S',e= .returned (.tuple #[.agg #[iV k,iV m,iV l,iV s,iV t],iV (stE ns pt)])/\(∃dn,lK ns fs dn φ pt k m l s t)/\kI S' ns fs 306 64 φ/\Sep w w' (bI f q p S'::X)):=Lh fun pt W f q p S ns fs φ X hp hL hW=>
  (aFE hL hp hW).mono fun e w' ⟨k,m,l,s,t,h1,h2,h3,h4⟩=>⟨k,m,l,s,t,_,h1,h2,h3,h4⟩
 have hx':=Lh hx;have hok':=Lh hok;have hs':=Lh hs;have anO:=Lh aKW;clear hx hok hs hxl hsl aKW;unfold aC;go_enter Tryz.func8,Tryz.ntmps8;go_wp2_with(first |(go_at_call 12;refine hal.out.mono ?_;rintro e wn ⟨rfl,hS⟩;have h1:=Lh hS;clear hS hal));go_at_call 24;refine(hmu.out _ h1.out).mono ?_;rintro e wn ⟨b,rfl,hS⟩;have h2:=Lh hS;clear hS h1 hmu;cases b with
 |true=>clear hfr hx' hok' hs' hst;go_wp2_with fail;go_ret;exact⟨rfl,h2.out.below⟩
 |false=>
  go_wp2_with(first |(go_at_call 13;refine(hfr.out _ h2.out).mono ?_;rintro e wn ⟨f,q,p,S0,φ0,rfl,hL,hS⟩;have hL0:=Lh hL;have h3:=Lh (awU (hS.bN 34 #[.slice none 0 0,.slice none 0 0,iV 200,iV 64]));clear hS hL hfr h2));have h4:Hid (Sep w _ [bI f q p S0,sI wn.heap.size (.slice none 0 0) (.slice none 0 0) 200 64,rE (.slice none 0 0) (.slice none 0 0) ([],[])]):=Lh (Sep.dE [2,1,0] h3.out aQ bM);obtain⟨wb,hwb⟩:∃x,x=wn.heap.size:=⟨_,rfl⟩;rw[<-hwb]at h4 ⊢;clear h3;go_loopw[13] (fun iv wr=>∃(i:Nat) (S:VS) (ns:List TN) (fs:List FT) (nv fv:Value) (T:TR) (φ:Int->Nat),iv=iV i/\i<=xs.length/\kI S ns fs 306 64 φ/\yP T ns fs/\Sep w wr [bI f q p S,sI wb nv fv 200 64,rE nv fv T]) (fun iv _=>xs.length-(intOf iv).toNat)
  case atStart=>exact⟨0,S0,_,_,_,_,_,φ0,rfl,iF _,hL0.out,awT,h4.out⟩
  clear h4 hL0 hwb;obtain⟨i,S,ns,fs,nv,fv,T,φ,rfl,hi,hLI,hT,hS⟩:=hrel;by_cases hlt:i<xs.length
  ·obtain⟨x,hxi⟩:∃x,xs[i]? =some x:=⟨_,gE hlt⟩;obtain⟨g,o,ca,e,_,_,hgl,hcell⟩:=Rd.adD hx'.out aD aQ;simp only[Value.slice.injEq]at e;obtain⟨rfl,_,rfl⟩:=e;have hxo:=hok'.out x (gG hxi);obtain⟨bs,hbs⟩:∃b,b=bss.getD x.ref.toNat []:=⟨_,rfl⟩;obtain⟨X,hX⟩:∃X,X=IA 306 64 ns fs x.op x.path x.tz x.mode x.ref cs.length bs:=⟨_,rfl⟩;have hdo:Hid (∀W S' Y,kI S' ns fs 306 64 φ->Sep w W (bI f q p S'::Y)->Calls Tryz.prog 14 #[pV f,.agg #[iV x.op,.string ⟨x.path.toArray⟩,.string ⟨x.tz.toArray⟩,iV x.mode,iV x.ref],.slice As cs.length c9] W fun e w'=>
     e= .returned (iV X.e)/\∃S2 φ',kI S2 X.ns X.fs 306 64 φ'/\Agr fs.length φ φ'/\Sep w w' (bI f q p S2::Y)):=Lh fun W S' Y hL hW=>by
    rw[hX,hbs];exact aRG (op:=x.op) (mode:=x.mode) (kk:=x.ref) (path:=x.path) (tz:=x.tz) (bs:=bss.getD x.ref.toNat []) (A:=As) (n:=cs.length) (c:=c9) hL hxo.path hxo.tz aD (aq1 hs'.out _) hxo.op (awS hs'.out _) hW
   have hwd:Hid (∀W Y,Sep w W (rE nv fv T::Y)->Calls Tryz.prog 15 #[.agg #[nv,fv,iV 200,iV 64],.agg #[iV x.op,.string ⟨x.path.toArray⟩,.string ⟨x.tz.toArray⟩,iV x.mode,iV x.ref],.slice As cs.length c9] W fun e w'=>
     ∃A3 n3 c3 A4 n4 c4 T',e= .returned (.tuple #[.agg #[.slice A3 n3 c3,.slice A4 n4 c4],iV X.e])/\yP T' X.ns X.fs/\Sep w w' (rE (.slice A3 n3 c3) (.slice A4 n4 c4) T'::Y)):=Lh fun W Y hW=>by
    have hsb:=hs'.out.below hW.below;have h:=ah7 (nb:=306) (names:=64) (op:=x.op) (p:=x.path) (tz:=x.tz) (mode:=x.mode) (ref:=x.ref) (bs:=bs) hT hxo.path hxo.tz (awV hsb) (fun _ h0 h1=>by rw[hbs];exact ah9 hsb h0 h1) hW;rw[<-hX]at h;refine h.mono ?_;rintro e w' ⟨E9,fv',T',h1,h2,h3⟩;obtain⟨vs,hT3⟩:=Sep.kept (P:=fun W=>∃vs,bY W E9 fv' T'.1 T'.2 vs) 0 h3 rfl;obtain⟨A3,c3,e3,_⟩:=hT3.nodes.shape;obtain⟨A4,c4,e4,_⟩:=hT3.files.shape;subst e3;subst e4;exact⟨A3,_,c3,A4,_,c4,T',h1,h2,h3⟩
   (have hkeep:Hid (∀S2 φ' k m l s t k' m' l' s' t',(∃dn,lK ns fs dn φ x.path k m l s t)->k=2->X.e=0->kI S2 X.ns X.fs 306 64 φ'->Agr fs.length φ φ'->(x.op=3\/x.op=4\/x.op=8)->(∃dn,lK X.ns X.fs dn φ' (if x.op=3\/x.op=4 then x.tz else x.path) k' m' l' s' t')->t'=t):=Lh fun S2 φ' k m l s t k' m' l' s' t' ⟨d1,h1⟩ hk h0 hL2 hA avE ⟨d2,h2⟩=>by rw[hX]at h0 hL2 h2;exact hLI.keep h0 hL2 hA avE h1 hk h2);(have hic:Hid (∀W,Below w.heap.size w W->W.cell? ⟨g,o+i*9+2,none⟩=some (iV x.op)/\W.cell? ⟨g,o+i*9+3,none⟩=some (.string ⟨x.path.toArray⟩)/\W.cell? ⟨g,o+i*9+4,none⟩=some (.string ⟨x.tz.toArray⟩)/\W.cell? ⟨g,o+i*9+5,none⟩=some (iV x.mode)/\W.cell? ⟨g,o+i*9+6,none⟩=some (iV x.ref)):=Lh fun W hW=>by(have hic:=fun(j:Nat) (hj:j<9)=>(hcell W hW (i*9+j) aD).trans (anM hxi j hj));have e2:=hic 2 aD;have e3:=hic 3 aD;have e4:=hic 4 aD;have e5:=hic 5 aD;have e6:=hic 6 aD;simp only[Stp.cells,aC,<-uS,gB,gC]at e2 e3 e4 e5 e6;exact⟨e2,e3,e4,e5,e6⟩);(have hcc:Hid (∀W P S',Sep w W (P++[bI f q p S',sI wb nv fv 200 64])->(W.cell? ⟨wb,0,none⟩=some nv/\W.cell? ⟨wb,1,none⟩=some fv/\W.cell? ⟨wb,2,none⟩=some (iV 200)/\W.cell? ⟨wb,3,none⟩=some (iV 64)/\W.cell? ⟨g,o+i*9+2,none⟩=some (iV x.op)/\W.cell? ⟨g,o+i*9+3,none⟩=some (.string ⟨x.path.toArray⟩)/\W.cell? ⟨g,o+i*9+4,none⟩=some (.string ⟨x.tz.toArray⟩)/\W.cell? ⟨g,o+i*9+5,none⟩=some (iV x.mode)/\W.cell? ⟨g,o+i*9+6,none⟩=some (iV x.ref))):=Lh fun W P S' hW=>by(have e:(P++[bI f q p S',sI wb nv fv 200 64])[P.length+1]? =some (sI wb nv fv 200 64):=by rw[D6 aD];simp);exact⟨hW.bC _ e 0,hW.bC _ e 1,hW.bC _ e 2,hW.bC _ e 3,hic.out W hW.below⟩);(have p1:(0:Int)<=(i:Int):=by omega);(have p2:(i:Int)<(xs.length:Int):=by omega);have hpp:=Lh (And.intro hxo.path hxo.tz);have aq5:=Lh hLI;have hS0:Hid (Sep w wr.drew [rE nv fv T,bI f q p S,sI wb nv fv 200 64]):=Lh (Sep.dE [2,0,1] hS.drew aQ bM);obtain⟨E,hE⟩:∃E,E=X.e:=⟨_,rfl⟩;rw[<-hE]at hdo hwd hkeep;obtain⟨N2,hN2⟩:∃N,N=X.ns:=⟨_,rfl⟩;obtain⟨F2,hF2⟩:∃N,N=X.fs:=⟨_,rfl⟩;rw[<-hN2,<-hF2]at hdo hwd hkeep;clear hE hN2 hF2 hX hbs hxo hLI hT hS hcell hgl hx' hok' hs' hxi hi;go_wp2_with fail;refine eU (S:=fun w'=>w'.cell? ⟨wb,0,none⟩=some nv/\w'.cell? ⟨wb,1,none⟩=some fv/\w'.cell? ⟨wb,2,none⟩=some (iV 200)/\w'.cell? ⟨wb,3,none⟩=some (iV 64)/\w'.cell? ⟨g,o+i*9+2,none⟩=some (iV x.op)/\w'.cell? ⟨g,o+i*9+3,none⟩=some (.string ⟨x.path.toArray⟩)/\w'.cell? ⟨g,o+i*9+4,none⟩=some (.string ⟨x.tz.toArray⟩)/\w'.cell? ⟨g,o+i*9+5,none⟩=some (iV x.mode)/\w'.cell? ⟨g,o+i*9+6,none⟩=some (iV x.ref)) 13 fZ ?_;simp only[mK,nV,kW,Nat.reduceAdd];intro wq hwq;rw[<-hwq]at hS0;have hc:=hcc.out wq [_] S hS0.out;clear hwq;refine aA 0 hc ?_;refine aA 1 hc ?_;refine aA 2 hc ?_;refine aA 3 hc ?_;refine aA 4 hc ?_;refine aA 5 hc ?_;refine aA 6 hc ?_;refine kP (i:=7) (j:=11) fZ rfl rfl (fun K hK=>?_) (fun K hK=>?_)
   focus
    go_simp
    go_at_call 15
    refine(hwd.out _ _ hS0.out).mono ?_
    rintro e wc ⟨A3,n3,c3,A4,n4,c4,T',rfl,hT',hY⟩
    have hc:=hcc.out wc [_] S hY
    have hY2:=hY.bN 32 #[.slice none 0 0,.slice none 0 0]
    have k0:=hY2.bF 0 rfl 0
    have k1:=hY2.bF 0 rfl 1
    have k2:=hY2.bC 0 rfl 0
    have k3:=hY2.bC 0 rfl 1
    have hY3:=hY.bN 32 #[.slice A3 n3 c3,.slice A4 n4 c4]
    have hc2:=hcc.out _ [_,_] S hY2
    have hc3:=hcc.out _ [_,_] S hY3
    have hS1:=Lh hY3
    have hT2:=Lh hT'
    clear hY hY2 hY3 hT' hS0
    refine hK _ _ (fun _=>hc) ?_
    clear hK K
    try simp only[Act.put,gD]
    refine aA 8 hc ?_
    refine aA 9 hc ?_
    refine aA 10 hc ?_
    refine aW 11 (fun _=>hc2) ?_
    refine aW 12 (fun _=>hc3) ?_
    refine aW 13 (fun h=>absurd rfl h) ?_
    refine aR fZ ?_ _
    clear hc hc2 hc3 k0 k1 k2 k3
    obtain⟨w2,hw2⟩:∃W,W=wc.alloc (.cells #[.slice A3 n3 c3,.slice A4 n4 c4] 32):=⟨_,rfl⟩
    rw[<-hw2]at hS1 ⊢
    obtain⟨tb,htb⟩:∃b,b=wc.heap.size:=⟨_,rfl⟩
    rw[<-htb]at hS1 ⊢
    clear hw2 htb
   rotate_left
   focus
    go_simp
    have hY2:=hS0.out.bN 32 #[.slice none 0 0,.slice none 0 0]
    have hc2:=hcc.out _ [_,_] S hY2
    have hS2:Hid (Sep w _ [rE nv fv T,FP wq.heap.size (.slice none 0 0) (.slice none 0 0),bI f q p S,sI wb nv fv 200 64]):=Lh (Sep.dE [1,0,2,3] hY2 aQ bM)
    clear hY2 hS0
    refine hK _ _ (fun _=>hc2) ?_
    clear hK K
    try simp only[Act.put,gD]
    refine bG 7 fun K hK=>?_
    go_simp
    go_at_call 15
    refine(hwd.out _ _ hS2.out).mono ?_
    rintro e wc ⟨A3,n3,c3,A4,n4,c4,T',rfl,hT',hY⟩
    have hc:=hcc.out wc [_,_] S hY
    have k0:=hY.bF 1 rfl 0
    have k1:=hY.bF 1 rfl 1
    have k2:=hY.bC 1 rfl 0
    have k3:=hY.bC 1 rfl 1
    have hY3:=(hY.bS 1 rfl 0 (.slice A3 n3 c3)).bS 1 rfl 1 (.slice A4 n4 c4)
    have hc3:=hcc.out _ [_,_] S hY3
    have hS1:Hid (Sep w _ [FP wq.heap.size (.slice A3 n3 c3) (.slice A4 n4 c4),rE (.slice A3 n3 c3) (.slice A4 n4 c4) T',bI f q p S,sI wb nv fv 200 64]):=Lh (Sep.dE [1,0,2,3] hY3 aQ bM)
    have hT2:=Lh hT'
    clear hY hY3 hT' hS2
    refine hK _ _ (fun _=>hc) ?_
    clear hK K
    try simp only[Act.put,gD]
    refine aA 8 hc ?_
    refine aA 9 hc ?_
    refine aA 10 hc ?_
    refine aW 12 (fun _=>hc3) ?_
    refine aW 13 (fun h=>absurd rfl h) ?_
    refine aR fZ ?_ _
    clear hc hc2 hc3 k0 k1 k2 k3
    obtain⟨w2,hw2⟩:∃W,W=(wc.setCell ⟨wq.heap.size,0,none⟩ (.slice A3 n3 c3)).setCell ⟨wq.heap.size,1,none⟩ (.slice A4 n4 c4):=⟨_,rfl⟩
    rw[<-hw2]at hS1 ⊢
    obtain⟨tb,htb⟩:∃b,b=wq.heap.size:=⟨_,rfl⟩
    rw[<-htb]at hS1 ⊢
    clear hw2 htb
   all_goals
    clear hwd hcc
    obtain⟨d2,d3,d4,d5,d6⟩:=hic.out _ hS1.out.below
    have h6:Hid (Sep w _ [bI f q p S,aq4 w2.heap.size x,FP tb (.slice A3 n3 c3) (.slice A4 n4 c4),rE (.slice A3 n3 c3) (.slice A4 n4 c4) T',sI wb nv fv 200 64]):=Lh (Sep.dE [3,0,1,2,4] (hS1.out.bN 38 #[iV x.op,.string ⟨x.path.toArray⟩,.string ⟨x.tz.toArray⟩,iV x.mode,iV x.ref]) aQ bM)
    obtain⟨x0,x1,x2,x3,x4,t0,t1,y0,y1,f0,f1⟩:=aCD h6.out
    clear hS1 hic
    go_wp2_with fail
    obtain⟨xb,hxb⟩:∃b,b=w2.heap.size:=⟨_,rfl⟩
    rw[<-hxb]at h6 x0 x1 x2 x3 x4 ⊢
    clear hxb d2 d3 d4 d5 d6 x0 x1 x2 x3 x4 t0 t1 y0 y1 f0 f1
    go_at_call 29
    refine(hst.out x.path _ _ _ _ _ _ _ _ _ hpp.out.1 aq5.out h6.out).mono ?_
    rintro e w4 ⟨k1,m1,l1,s1,i1,S4,rfl,hok1,hL4,h7⟩
    replace hok1:=Lh hok1
    replace hL4:=Lh hL4
    have h8:Hid (Sep w _ [bI f q p S4,ML w4.heap.size k1 m1 l1 s1 i1,aq4 xb x,FP tb (.slice A3 n3 c3) (.slice A4 n4 c4),rE (.slice A3 n3 c3) (.slice A4 n4 c4) T',sI wb nv fv 200 64]):=Lh (Sep.dE [1,0,2,3,4,5] (h7.bN 68 #[iV k1,iV m1,iV l1,iV s1,iV i1]) aQ bM)
    obtain⟨sb,hsb⟩:∃b,b=w4.heap.size:=⟨_,rfl⟩
    rw[<-hsb]at h8
    obtain⟨x0,x1,x2,x3,x4,t0,t1,y0,y1,f0,f1⟩:=alN h8.out
    obtain⟨z0,z1,z2⟩:=alO h8.out
    clear h7 h6 aq5
    have hsp:E≠0\/(E=0/\k1≠2)\/(E=0/\k1=2/\x.op=3)\/(E=0/\k1=2/\x.op≠3/\x.op=4)\/(E=0/\k1=2/\x.op≠3/\x.op≠4/\x.op=8)\/(E=0/\k1=2/\x.op≠3/\x.op≠4/\x.op≠8):=by omega
    go_wp2_with fail
    rw[<-hsb]
    clear hsb
    go_at_call 14
    refine(hdo.out _ _ _ hL4.out h8.out).mono ?_
    rintro e w6 ⟨rfl,S5,φ5,hL5,hA5,h9⟩
    clear x0 x1 x2 x3 x4 t0 t1 y0 y1 f0 f1 z0 z1 z2
    obtain⟨x0,x1,x2,x3,x4,t0,t1,y0,y1,f0,f1⟩:=alN h9
    obtain⟨z0,z1,z2⟩:=alO h9
    have h10:Hid (Sep w _ [bI f q p S5,ML sb k1 m1 l1 s1 i1,aq4 xb x,FP tb (.slice A3 n3 c3) (.slice A4 n4 c4),rE (.slice A3 n3 c3) (.slice A4 n4 c4) T',sI wb (.slice A3 n3 c3) (.slice A4 n4 c4) 200 64]):=Lh ((h9.bS 5 rfl 0 (.slice A3 n3 c3)).bS 5 rfl 1 (.slice A4 n4 c4))
    obtain⟨X0,X1,X2,_,_,_,_,_,_,_,_⟩:=alN h10.out
    obtain⟨Z0,_,Z2⟩:=alO h10.out
    replace hL5:=Lh hL5
    replace hA5:=Lh hA5
    clear h9 h8 hdo hL4
    rcases hsp with hE|⟨hE,hk⟩|⟨hE,hk,h3⟩|⟨hE,hk,h3,h4⟩|⟨hE,hk,h3,h4,h5⟩|⟨hE,hk,h3,h4,h5⟩
    ·(have be:(E !=0)=true:=by simpa using hE);exact Z70
    ·(have be:(E !=0)=false:=by simpa using hE);(have bk:(k1 !=2)=true:=by simpa using hk);exact Z70
    ·(have be:(E !=0)=false:=by simpa using hE);(have bk:(k1 !=2)=false:=by simpa using hk);replace hE:=Lh hE;replace hk:=Lh hk;(have b3:(x.op==3)=true:=by simpa using h3);replace h3:=Lh h3;go_wp2_with(first |(go_at_call 16;refine(sF _ _).mono ?_;rintro e w9 ⟨rfl,rfl⟩)|(go_at_call 29;refine(hst.out x.tz _ _ _ _ _ _ _ _ _ hpp.out.2 hL5.out h10.out).mono ?_;rintro e w8 ⟨k2,m2,l2,s2,i2,S8,rfl,hok2,hL8,h11⟩;have h12:=Sep.dE [1,0,2,3,4,5,6] (h11.bN 68 #[iV k2,iV m2,iV l2,iV s2,iV i2]) aQ bM;have v0:=h12.bC 1 rfl 4;have v1:=h12.bC 2 rfl 4;have v2:=h12.bC 3 rfl 0;simp only[gA,gB,gC]at v0 v1 v2;have hii:=hkeep.out _ _ _ _ _ _ _ _ _ _ _ _ hok1.out hk.out hE.out hL8 hA5.out (.inl h3.out) (by rw[if_pos (Or.inl h3.out)];exact hok2);subst hii;have WJ:=Lh h12;replace hL8:=Lh hL8;clear h11 h12 hok2 h10));exact Z15
    ·(have be:(E !=0)=false:=by simpa using hE);(have bk:(k1 !=2)=false:=by simpa using hk);replace hE:=Lh hE;replace hk:=Lh hk;(have b3:(x.op==3)=false:=by simpa using h3);(have b4:(x.op==4)=true:=by simpa using h4);replace h4:=Lh h4;go_wp2_with(first |(go_at_call 16;refine(sF _ _).mono ?_;rintro e w9 ⟨rfl,rfl⟩)|(go_at_call 29;refine(hst.out x.tz _ _ _ _ _ _ _ _ _ hpp.out.2 hL5.out h10.out).mono ?_;rintro e w8 ⟨k2,m2,l2,s2,i2,S8,rfl,hok2,hL8,h11⟩;have h12:=Sep.dE [1,0,2,3,4,5,6] (h11.bN 68 #[iV k2,iV m2,iV l2,iV s2,iV i2]) aQ bM;have v0:=h12.bC 1 rfl 4;have v1:=h12.bC 2 rfl 4;have v2:=h12.bC 3 rfl 0;simp only[gA,gB,gC]at v0 v1 v2;have hii:=hkeep.out _ _ _ _ _ _ _ _ _ _ _ _ hok1.out hk.out hE.out hL8 hA5.out (.inr (.inl h4.out)) (by rw[if_pos (Or.inr h4.out)];exact hok2);subst hii;have WJ:=Lh h12;replace hL8:=Lh hL8;clear h11 h12 hok2 h10));exact Z15
    ·(have be:(E !=0)=false:=by simpa using hE);(have bk:(k1 !=2)=false:=by simpa using hk);replace hE:=Lh hE;replace hk:=Lh hk;(have b3:(x.op==3)=false:=by simpa using h3);(have b4:(x.op==4)=false:=by simpa using h4);(have b8:(x.op==8)=true:=by simpa using h5);replace h5:=Lh h5;go_wp2_with(first |(go_at_call 16;refine(sF _ _).mono ?_;rintro e w9 ⟨rfl,rfl⟩)|(go_at_call 29;refine(hst.out x.path _ _ _ _ _ _ _ _ _ hpp.out.1 hL5.out h10.out).mono ?_;rintro e w8 ⟨k2,m2,l2,s2,i2,S8,rfl,hok2,hL8,h11⟩;have h12:=Sep.dE [1,0,2,3,4,5,6] (h11.bN 68 #[iV k2,iV m2,iV l2,iV s2,iV i2]) aQ bM;have v0:=h12.bC 1 rfl 4;have v1:=h12.bC 2 rfl 4;have v2:=h12.bC 3 rfl 0;simp only[gA,gB,gC]at v0 v1 v2;have hii:=hkeep.out _ _ _ _ _ _ _ _ _ _ _ _ hok1.out hk.out hE.out hL8 hA5.out (.inr (.inr h5.out)) (by rw[if_neg (by rintro(h|h)<;>contradiction)];exact hok2);subst hii;have WJ:=Lh h12;replace hL8:=Lh hL8;clear h11 h12 hok2 h10));exact Z15
    ·(have be:(E !=0)=false:=by simpa using hE);(have bk:(k1 !=2)=false:=by simpa using hk);replace hE:=Lh hE;replace hk:=Lh hk;(have b3:(x.op==3)=false:=by simpa using h3);(have b4:(x.op==4)=false:=by simpa using h4);(have b8:(x.op==8)=false:=by simpa using h5);go_wp2_with(first |(go_at_call 16;refine(sF _ _).mono ?_;rintro e w9 ⟨rfl,rfl⟩)|(go_at_call 29;refine(hst.out x.path _ _ _ _ _ _ _ _ _ hpp.out.1 hL5.out h10.out).mono ?_;rintro e w8 ⟨k2,m2,l2,s2,i2,S8,rfl,hok2,hL8,h11⟩;have h12:=Sep.dE [1,0,2,3,4,5,6] (h11.bN 68 #[iV k2,iV m2,iV l2,iV s2,iV i2]) aQ bM;have v0:=h12.bC 1 rfl 4;have v1:=h12.bC 2 rfl 4;have v2:=h12.bC 3 rfl 0;simp only[gA,gB,gC]at v0 v1 v2;have WJ:=Lh h12;replace hL8:=Lh hL8;clear h11 h12 hok2 h10));exact Z15
  (have q1:¬(i:Int)<(xs.length:Int):=by omega);have aq5:=Lh hLI;have hS':=Lh hS;clear hLI hS hT hx' hok' hs' hi;(have kc:=fun(W:World) (C:Array Value) (n c:Nat)=>Lib.run_convert_bytes_const (P:=Tryz.prog) W 35 5 C n c Tryz.underlying35 Tryz.underlying5);obtain⟨N2,hN2⟩:∃N,N=(DY 306 64 ns fs pth alM).ns:=⟨_,rfl⟩;obtain⟨F2,hF2⟩:∃N,N=(DY 306 64 ns fs pth alM).fs:=⟨_,rfl⟩;have hput:Hid (∀W S' X,kI S' ns fs 306 64 φ->Sep w W (bI f q p S'::X)->Calls Tryz.prog 21 #[pV f,.string ⟨pth.toArray⟩,sV W.heap.size 5 5] (W.alloc (.cells #[.int .u8 111,.int .u8 116,.int .u8 104,.int .u8 101,.int .u8 114] 5 (5,6))) fun e w'=>
    (∃n,e= .returned n)/\∃S2 φ',kI S2 N2 F2 306 64 φ'/\Agr fs.length φ φ'/\Sep w w' (bI f q p S2::X)):=Lh fun W S' X hL hW=>by
   have h:=aq3 (path:=pth) (bs:=alM) hL anO.out aQ hW;rw[<-hN2,<-hF2]at h;exact h.mono fun e w' ⟨h1,h2⟩=>⟨⟨_,h1⟩,h2⟩
  have hsy:Hid (∀W S' φ X,kI S' N2 F2 306 64 φ->Sep w W (bI f q p S'::X)->Calls Tryz.prog 30 #[pV f] W fun e w'=>e= .returned (iV 0)/\∃S2,kI S2 N2 F2 306 64 φ/\Sep w w' (bI f q p S2::X)):=Lh fun W S' φ X hL hW=>
   (aFF hL hW).mono fun e w' ⟨h1,h2,h3⟩=>⟨h1,_,h2,h3⟩
  (have hmo:Hid (∀W S' φ X,kI S' N2 F2 306 64 φ->Sep w W (bI f q p S'::X)->Calls Tryz.prog 33 #[pV p] W fun e w'=>∃f' q' S2,e= .returned (.tuple #[pV f',iV 0])/\kI S2 N2 F2 306 64 φ/\Sep w w' (bI f' q' p S2::X)):=Lh fun W S' φ X hL hW=>az9 hL hW);(have hpk:Hid (∀φ' k m l s t k' m' l' s' t',Agr fs.length φ φ'->(∃dn,lK ns fs dn φ pth k m l s t)->k=2->(∃dn,lK N2 F2 dn φ' pth k' m' l' s' t')->t'=t/\k'=2):=Lh fun φ' k m l s t k' m' l' s' t' hA ⟨d1,h1⟩ hk ⟨d2,h2⟩=>by rw[hN2,hF2]at h2;exact aq5.out.aAA hA h1 hk h2);(have hsame:Hid (∀φ' k m l s t k' m' l' s' t',(∃dn,lK N2 F2 dn φ' pth k m l s t)->k=2->(∃dn,lK N2 F2 dn φ' pth k' m' l' s' t')->t'=t/\s'=s):=Lh fun φ' k m l s t k' m' l' s' t' ⟨d1,h1⟩ hk ⟨d2,h2⟩=>h1.same hk h2);clear hN2 hF2;go_wp2_with(first |(go_at_call 29;refine(hst.out pth _ _ _ _ _ _ _ _ _ anO.out aq5.out hS'.out).mono ?_;rintro e w4 ⟨k1,m1,l1,s1,i1,S4,rfl,hok1,hL4,h7⟩;have h8:Hid (Sep w _ [bI f q p S4,ML w4.heap.size k1 m1 l1 s1 i1]):=Lh (Sep.fst (X:=[_,_]) (Y:=[_,_]) (Sep.dE [1,0,2,3] (h7.bN 68 #[iV k1,iV m1,iV l1,iV s1,iV i1]) aQ bM));replace hok1:=Lh hok1;replace hL4:=Lh hL4;clear h7 hS' aq5));obtain⟨w5,O8⟩:∃W,W=w4.alloc (.cells #[iV k1,iV m1,iV l1,iV s1,iV i1] 68):=⟨_,rfl⟩;(have hsz:w4.heap.size+1=w5.heap.size:=by rw[O8,World.size_alloc]);obtain⟨sb,hsb⟩:∃b,b=w4.heap.size:=⟨_,rfl⟩;rw[<-O8]at h8 ⊢;rw[hsz];rw[<-hsb]at h8 ⊢;clear O8 hsz hsb;rw[kc];go_wp2_with(first |(go_at_call 21;refine(hput.out _ _ _ hL4.out h8.out).mono ?_;rintro e w5' ⟨⟨n5,rfl⟩,S5,φ5,hL5,hA5,h9⟩;replace hL5:=Lh hL5;replace hA5:=Lh hA5;replace h9:=Lh h9;clear h8 hL4 hput)|(go_at_call 29;refine(hst.out pth _ _ _ _ _ _ _ _ _ anO.out hL5.out h9.out).mono ?_;rintro e w6 ⟨k2,m2,l2,s2,i2,S6,rfl,hok2,hL6,h10⟩;have h11:Hid (Sep w _ [bI f q p S6,ML w6.heap.size k2 m2 l2 s2 i2,ML sb k1 m1 l1 s1 i1]):=Lh (Sep.dE [1,0,2] (h10.bN 68 #[iV k2,iV m2,iV l2,iV s2,iV i2]) aQ bM);replace hok2:=Lh hok2;replace hL6:=Lh hL6;clear h10 h9 hL5)|(go_at_call 30;refine(hsy.out _ _ _ _ hL6.out h11.out).mono ?_;rintro e w7 ⟨rfl,S7,hL7,h12⟩;replace hL7:=Lh hL7;replace h12:=Lh h12;clear h11 hL6 hsy)|(go_at_call 33;refine(hmo.out _ _ _ _ hL7.out h12.out).mono ?_;rintro e w8 ⟨f8,q8,S8,rfl,hL8,WJ⟩;replace hL8:=Lh hL8;replace WJ:=Lh WJ;clear h12 hL7 hmo)|(go_at_call 16;refine(sF _ _).mono ?_;rintro e w9 ⟨rfl,rfl⟩));obtain⟨sb2,aKY⟩:∃b,b=w6.heap.size:=⟨_,rfl⟩;rw[<-aKY]at WJ ⊢;clear aKY;go_at_call 29;refine(hst.out pth _ _ _ _ _ _ _ _ _ anO.out hL8.out WJ.out).mono ?_;rintro e w10 ⟨k3,m3,l3,s3,i3,S9,rfl,alP,hL9,h14⟩;have h15:Hid (Sep w _ [bI f8 q8 p S9,ML w10.heap.size k3 m3 l3 s3 i3,ML sb2 k2 m2 l2 s2 i2,ML sb k1 m1 l1 s1 i1]):=Lh (Sep.dE [1,0,2,3] (h14.bN 68 #[iV k3,iV m3,iV l3,iV s3,iV i3]) aQ bM);have c0:=h15.out.bC 3 rfl 0;have c1:=h15.out.bC 3 rfl 4;have c2:=h15.out.bC 2 rfl 3;have c3:=h15.out.bC 2 rfl 4;have c4:=h15.out.bC 1 rfl 3;have c5:=h15.out.bC 1 rfl 4;simp only[gA,gB,gC]at c0 c1 c2 c3 c4 c5;clear h14 WJ hL8 hL9 hst;obtain⟨E1,hE1⟩:∃x,x=stE ns pth:=⟨_,rfl⟩;rw[<-hE1];clear hE1;(have hsp:E1≠0\/(E1=0/\k1≠2)\/(E1=0/\k1=2):=by omega);rcases hsp with hE|⟨hE,hk⟩|⟨hE,hk⟩
  ·(have be:(E1 !=0)=true:=by simpa using hE);exact Z85
  ·(have be:(E1 !=0)=false:=by simpa using hE);(have bk:(k1 !=2)=true:=by simpa using hk);exact Z85
  (have be:(E1 !=0)=false:=by simpa using hE);(have bk:(k1 !=2)=false:=by simpa using hk);obtain⟨g1,g2⟩:=hpk.out _ _ _ _ _ _ _ _ _ _ _ hA5.out hok1.out hk hok2.out;obtain⟨g3,g4⟩:=hsame.out _ _ _ _ _ _ _ _ _ _ _ hok2.out g2 alP;subst g3 g4 g1;exact Z85
end
end Go.Proofs.YteihmbaimbogaaaGreat
