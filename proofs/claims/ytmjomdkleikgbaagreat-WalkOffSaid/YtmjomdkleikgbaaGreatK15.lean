/- Parts. -/
import Derived.Test.YtmjomdkleikgbaaGreatK14
import Derived.Laws.RangeAny
import Derived.ScopeJumps
import Derived.WalkMore
import Derived.Lib.Strings
import Derived.Lib.SmallJoins
import Derived.Maps.AppendAt
import Derived.Shelf.Strings.Prefix
import Derived.Shelf.Small.Strs
import Derived.Shelf.Strconv.Itoa3
import Derived.Shelf.Strings.LastIndex
import Derived.Deep.DeepMust
set_option linter.unusedVariables false
set_option linter.unusedSimpArgs false
set_option maxRecDepth 100000
set_option maxHeartbeats 20000000
namespace Go.Proofs.YtmjomdkleikgbaaGreat
open Go.RowKit
section
variable {w0 w:World} {R:List aW} {f q p:Nat} {S:VS} {a:VA}
theorem rC {R':List aW} {MM:FuncId} {acN:Array Value} {r:Option VS} (hent:∀args w,(callFunc MM args).run Tryz.prog w= .ok (.enter MM args) w) (hC:VC S a) (hb:S.D.back=[]) (hr:∀S1,r=some S1->nX S S1)
  (hdo:∀W X,Sep w0 W (aF f q p S a::(X++R))->Calls Tryz.prog MM acN W (fQ f q p S r w0 (X++R'))) (h:Sep w0 w (aF f q p S a::R)):
  Calls Tryz.prog 73 #[pV f,.func (.func MM) #[] acN] w (dH f q p S r w0 R'):=by
 have h1:Sep w0 (w.alloc (.cells #[pV f] 37)) (aF f q p S a:: .box w.heap.size 37 #[pV f]::R):=(h.bN _ _).perm (List.Perm.swap _ _ _);obtain⟨bf,hbf⟩:∃bf,bf=w.heap.size:=⟨_,rfl⟩;rw[<-hbf]at h1;have hct:=fun(u0 u3 u6 u7 u8 u9 u10 u11 u12 u13 u14 u15 u16 u17 u18 u19 u20 u21 u22 u23 u24 u25 u26 u27 u28 u29 u30 u31 u32 u33 u34 u35 u36 u37 u38 u39 u40 u41 u42 u43 u44 u45 u46 u47 u48 u49 u50 u51 u52 u53 u54 u55 u56 u57:Value) (bw bn:Nat) (W:World) hW=>acP (R':=R') (u0:=u0) (u3:=u3) (u6:=u6) (u7:=u7) (u8:=u8) (u9:=u9) (u10:=u10) (u11:=u11) (u12:=u12) (u13:=u13) (u14:=u14) (u15:=u15) (u16:=u16) (u17:=u17) (u18:=u18) (u19:=u19) (u20:=u20) (u21:=u21) (u22:=u22) (u23:=u23) (u24:=u24) (u25:=u25) (u26:=u26) (u27:=u27) (u28:=u28) (u29:=u29) (u30:=u30) (u31:=u31) (u32:=u32) (u33:=u33) (u34:=u34) (u35:=u35) (u36:=u36) (u37:=u37) (u38:=u38) (u39:=u39) (u40:=u40) (u41:=u41) (u42:=u42) (u43:=u43) (u44:=u44) (u45:=u45) (u46:=u46) (u47:=u47) (u48:=u48) (u49:=u49) (u50:=u50) (u51:=u51) (u52:=u52) (u53:=u53) (u54:=u54) (u55:=u55) (u56:=u56) (u57:=u57) (bf:=bf) (bw:=bw) (bn:=bn) (w:=W) hent hC hb hr hdo hW
 replace hct:=Lh hct;have hcs:Hid (∀W Y,Sep w0 W (Y++(aF f q p S a:: .box bf 37 #[pV f]::R))->W.cell? ⟨bf,0,none⟩=some (pV f)/\W.cell? ⟨f,5,none⟩=some (.complex .f64 (fI S.wB) (fI S.wI))/\W.cell? ⟨f,6,none⟩=some (iV S.nodes)):=Lh fun W Y hW=>by have h2:Sep w0 W (aF f q p S a::(Y++ .box bf 37 #[pV f]::R)):=hW.perm lD;have h3:=h2.bC (Y.length+1) (by rw[gC,vT (iC _),FP];rfl) 0;exact⟨h3,h2.fO.c5,h2.fO.c6⟩
 replace h1:=Lh h1;clear hC hb hr hdo h hent
 go_enter_defers Tryz.func73,Tryz.ntmps73
 go_wp2_with fail;rename_i K1 hK1;rw[<-hbf];refine lT ?_;refine eU (S:=fun w'=>w'.cell? ⟨bf,0,none⟩=some (pV f)/\w'.cell? ⟨f,5,none⟩=some (.complex .f64 (fI S.wB) (fI S.wI))/\w'.cell? ⟨f,6,none⟩=some (iV S.nodes)) 15 fE ?_;intro wq hwq;have hX:Hid (Sep w0 wq (aF f q p S a:: .box bf 37 #[pV f]::R)):=by rw[hwq];exact Lh h1.out.drew
 clear hwq h1 hbf;have hc:=hcs.out wq [] hX.out;simp only[uB,kH,qQ,Nat.reduceAdd];refine aA 0 hc ?_;refine aA 1 hc ?_;refine aA 2 hc ?_;refine aA 3 hc ?_;refine aA 4 hc ?_;refine aA 5 hc ?_;refine aA 6 hc ?_;refine aA 7 hc ?_;refine aA 8 hc ?_;refine aA 9 hc ?_;refine aA 10 hc ?_;refine aA 11 hc ?_;refine iX (i:=12) (j:=13) fE rfl rfl (fun K hK=>?_) (fun K hK=>?_)
 focus
  go_simp
  have hX2:=Lh (hX.out.bN 53 #[.complex .f64 0 0])
  have hc2:=hcs.out _ [_] hX2.out
  try dsimp only
  refine hK _ _ (fun _=>hc2) ?_
  clear hK K
  try simp only[Act.put,gD]
  obtain⟨g2,hg2⟩:∃g,g=wq.heap.size:=⟨_,rfl⟩
  obtain⟨w2,hw2⟩:∃w2,w2=wq.alloc (.cells #[.complex .f64 0 0] 53):=⟨_,rfl⟩
  rw[<-hw2]at hX2 hc2 ⊢
  rw[<-hg2]at hX2 ⊢
  clear hw2 hg2 hX hc
  have rD:=Lh (hX2.out.bN 3 #[iV 0])
  have hc3:=hcs.out _ [_,_] rD.out
  refine bA 13 (fun _=>hc3) ?_
  obtain⟨g3,hg3⟩:∃g,g=w2.heap.size:=⟨_,rfl⟩
  obtain⟨w3,hw3⟩:∃w3,w3=w2.alloc (.cells #[iV 0] 3):=⟨_,rfl⟩
  rw[<-hw3]at rD hc3 ⊢
  rw[<-hg3]at rD ⊢
  clear hw3 hg3 hX2 hc2
  have e4:w3.cell? ⟨g2,0,none⟩=some (.complex .f64 0 0):=rD.out.bC 1 rfl 0
  have f4:=rD.out.bF 1 rfl 0
  have hst:=fun x y=>xU x y e4 f4
  have nO:=Lh (rD.out.bS 1 rfl 0 (.complex .f64 (fI S.wB) (fI S.wI)))
  have hc4:=hcs.out _ [_,_] nO.out
  refine bA 14 (fun _=>hc4) ?_
  obtain⟨w4,hw4⟩:∃w4,w4=w3.setCell ⟨g2,0,none⟩ (.complex .f64 (fI S.wB) (fI S.wI)):=⟨_,rfl⟩
  rw[<-hw4]at nO hc4 ⊢
  clear hw4 e4 f4 hst rD hc3
  have e5:w4.cell? ⟨g3,0,none⟩=some (iV 0):=nO.out.bC 0 rfl 0
  have f5:=nO.out.bF 0 rfl 0
  have EO:=Lh (nO.out.bS 0 rfl 0 (.int .i64 S.nodes))
  refine bA 15 (fun h=>absurd rfl h) ?_
  refine aQ fE ?_ _
  simp only[pX]
  apply hK1
  exact hct.out _ _ _ _ _ _ _ _ _ _ _ _ _ _ _ _ _ _ _ _ _ _ _ _ _ _ _ _ _ _ _ _ _ _ _ _ _ _ _ _ _ _ _ _ _ _ _ _ _ _ _ _ _ _ g2 g3 _ (Sep.dB [2,3,1,0] EO.out aR bK)
 focus
  go_simp
  have hX2:=Lh (hX.out.bN 3 #[iV 0])
  have hc2:=hcs.out _ [_] hX2.out
  try dsimp only
  refine hK _ _ (fun _=>hc2) ?_
  clear hK K
  try simp only[Act.put,gD]
  obtain⟨g2,hg2⟩:∃g,g=wq.heap.size:=⟨_,rfl⟩
  obtain⟨w2,hw2⟩:∃w2,w2=wq.alloc (.cells #[iV 0] 3):=⟨_,rfl⟩
  rw[<-hw2]at hX2 hc2 ⊢
  rw[<-hg2]at hX2 ⊢
  clear hw2 hg2 hX hc
  have rD:=Lh (hX2.out.bN 53 #[.complex .f64 0 0])
  have hc3:=hcs.out _ [_,_] rD.out
  refine bA 12 (fun _=>hc3) ?_
  obtain⟨g3,hg3⟩:∃g,g=w2.heap.size:=⟨_,rfl⟩
  obtain⟨w3,hw3⟩:∃w3,w3=w2.alloc (.cells #[.complex .f64 0 0] 53):=⟨_,rfl⟩
  rw[<-hw3]at rD hc3 ⊢
  rw[<-hg3]at rD ⊢
  clear hw3 hg3 hX2 hc2
  have e4:w3.cell? ⟨g3,0,none⟩=some (.complex .f64 0 0):=rD.out.bC 0 rfl 0
  have f4:=rD.out.bF 0 rfl 0
  have hst:=fun x y=>xU x y e4 f4
  have nO:=Lh (rD.out.bS 0 rfl 0 (.complex .f64 (fI S.wB) (fI S.wI)))
  have hc4:=hcs.out _ [_,_] nO.out
  refine bA 14 (fun _=>hc4) ?_
  obtain⟨w4,hw4⟩:∃w4,w4=w3.setCell ⟨g3,0,none⟩ (.complex .f64 (fI S.wB) (fI S.wI)):=⟨_,rfl⟩
  rw[<-hw4]at nO hc4 ⊢
  clear hw4 e4 f4 hst rD hc3
  have e5:w4.cell? ⟨g2,0,none⟩=some (iV 0):=nO.out.bC 1 rfl 0
  have f5:=nO.out.bF 1 rfl 0
  have EO:=Lh (nO.out.bS 1 rfl 0 (.int .i64 S.nodes))
  refine bA 15 (fun h=>absurd rfl h) ?_
  refine aQ fE ?_ _
  simp only[pX]
  apply hK1
  exact hct.out _ _ _ _ _ _ _ _ _ _ _ _ _ _ _ _ _ _ _ _ _ _ _ _ _ _ _ _ _ _ _ _ _ _ _ _ _ _ _ _ _ _ _ _ _ _ _ _ _ _ _ _ _ _ g3 g2 _ (Sep.dB [2,3,0,1] EO.out aR bK)
end
end Go.Proofs.YtmjomdkleikgbaaGreat
namespace Go.Proofs.YtmjomdkleikgbaaGreat
open Go Go.RowKit
def Fm (n:Nat) (a:Act) (ks:List Value):Prop:=a.defers=[]/\a.tmps.size=n/\a.tmps.toList.take ks.length=ks
def lits (f:Nat->Value):Nat->Nat->List Value
 |_,0=>[]
 |k,m+1=>f k::lits f (k+1) m
theorem av9 (us:List Value):∀(k:Nat) (pre:List Value),pre.length=k->us=lits (fun i=>(pre++us).getD i undef) k us.length:=by
 induction us with
 |nil=>intro k pre _;rfl
 |cons u us ih=>intro k pre hk;simp only[kH,lits];(have h1:(pre++u::us).getD k undef=u:=by subst hk;simp[List.getD]);rw[h1];have h2:=ih (k+1) (pre++[u]) (by simp[hk]);simp only[pG,kI,mI]at h2;rw[<-h2]
theorem Fm.lit {n m:Nat} {a:Act} {ks:List Value} (h:Fm n a ks) (hm:n=ks.length+m):∃f:Nat->Value,a=⟨(ks++lits f 0 m).toArray,[]⟩:=by
 obtain⟨h1,h2,h3⟩:=h;obtain⟨⟨l⟩,d⟩:=a;simp only at h1 h2 h3;subst h1;have hl:(l.drop ks.length).length=m:=by simp at h2 ⊢;omega
 refine⟨fun i=>(l.drop ks.length).getD i undef,?_⟩;have h4:=av9 (l.drop ks.length) 0 [] rfl;rw[hl]at h4;simp only[mI]at h4;rw[<-h4]
 conv=>lhs;rw[<-EJ ks.length l]
 rw[show List.take ks.length l=ks from h3]
def acQ (J:Nat->Act->World->Prop) (Q:Exit->Act->World->Prop):Exit->Act->World->Prop
 | .goto l,a,w=>J l a w
 |e,a,w=>Q e a w
theorem zP {P:Program} {a:Act} {w:World} {Q:Exit->Act->World->Prop} {c:Code} (rest:Nat->Code) (J:Nat->Nat->Act->World->Prop)
  (hf:∀m l a w,J m l a w->findLabel c l=some (rest l))
  (first:c.wp P (acQ (fun l a w=>∃m,J m l a w) Q) a w)
  (pass:∀m l a w,J m l a w->(rest l).wp P (acQ (fun l' a' w'=>∃m',m'<m/\J m' l' a' w') Q) a w):(Code.scope c).wp P Q a w:=by
 intro b k cs;have hg:∀l r,findLabel c l=some r->gotoIn l (.inScope c::k)=some (.code r:: .inScope c::k):=fun l r h=>by simp[gotoIn,h]
 have key:∀m l a w,J m l a w->∃e a' w',Q e a' w'/\Arrives P (lone (b.at a (.code (rest l):: .inScope c::k)) cs w) b k cs e a' w':=by
  intro m
  induction m using Nat.strongRecOn with
  |_ m ih=>
   intro l a w hJ;obtain⟨e,a₁,w₁,hq,harr⟩:=pass m l a w hJ b (.inScope c::k) cs;cases e with
   |normal=>exact⟨.normal,a₁,w₁,hq,Steps.trans harr (.one step_inScope)⟩
   |exit id=>exact⟨.exit id,a₁,w₁,hq,fun k' hk=>harr k' (by simp[exitTo,hk])⟩
   |goto l'=>obtain⟨m',hlt,hJ'⟩:=hq;obtain⟨e₂,a₂,w₂,hq₂,harr₂⟩:=ih m' hlt l' a₁ w₁ hJ';exact⟨e₂,a₂,w₂,hq₂,.of_steps (harr _ (hg l' _ (hf m' l' a₁ w₁ hJ'))) harr₂⟩
   |ret=>exact⟨_,a₁,w₁,hq,harr⟩
   |panic ch=>exact⟨_,a₁,w₁,hq,harr⟩
   |outgrown=>exact⟨_,a₁,w₁,hq,harr⟩
 obtain⟨e,a₁,w₁,hq,harr⟩:=first b (.inScope c::k) cs
 cases e with
 |normal=>exact⟨.normal,a₁,w₁,hq,.head step_scope (Steps.trans harr (.one step_inScope))⟩
 |exit id=>exact⟨.exit id,a₁,w₁,hq,fun k' hk=>.head step_scope (harr k' (by simp[exitTo,hk]))⟩
 |goto l'=>obtain⟨m',hJ'⟩:=hq;obtain⟨e₂,a₂,w₂,hq₂,harr₂⟩:=key m' l' a₁ w₁ hJ';exact⟨e₂,a₂,w₂,hq₂,.of_steps (.head step_scope (harr _ (hg l' _ (hf m' l' a₁ w₁ hJ')))) harr₂⟩
 |ret=>exact⟨_,a₁,w₁,hq,.of_steps (.one step_scope) harr⟩
 |panic ch=>exact⟨_,a₁,w₁,hq,.of_steps (.one step_scope) harr⟩
 |outgrown=>exact⟨_,a₁,w₁,hq,.of_steps (.one step_scope) harr⟩
end Go.Proofs.YtmjomdkleikgbaaGreat
namespace Go.Proofs.YtmjomdkleikgbaaGreat
open Go.RowKit
def lU (c:Nat):Bool:=(decide (97<=c)&&decide (c<=122))||(decide (48<=c)&&decide (c<=57))||c==46||c==95||c==45
def dots (cur:List UInt8):Bool:=cur==[46]||cur==[46,46]
def FV :List UInt8->Nat->List UInt8->Bool
 |[],n,cur=>decide (0<cur.length)&& !dots cur&&decide (n<=6)
 |c::cs,n,cur=>
  if c=47 then(if cur.length=0\/dots cur=true then false else FV cs (n+1) [])
  else if lU c.toNat=false then false else if 14<cur.length+1 then false else FV cs n (cur++[c])
def aV (p:List UInt8):Bool:=FV p 1 []
theorem KM :∀(p:List UInt8) (n:Nat) (cur:List UInt8),cur.length<=14->FV p n cur=true->n<=6/\p.length+cur.length<=(6-n)*15+14
 |[],n,cur,hc,h=>by unfold FV at h;simp only[sP,jN]at h;have:=h.2;simp only[qQ];omega
 |c::cs,n,cur,hc,h=>by
  unfold FV at h;split at h
  ·split at h
   ·cases h
   have ih:=KM cs (n+1) [] bK h;simp only[qQ,kH]at ih ⊢;(have e:6-n=(6-(n+1))+1:=by omega);rw[e,Nat.add_mul];omega
  split at h
  ·cases h
  split at h
  ·cases h
  have ih:=KM cs n (cur++[c]) E8 h;simp only[jM,kH,qQ]at ih ⊢;omega
theorem dG {p:List UInt8} (h:aV p=true):p.length<=1048576:=by have h1:=(KM p 1 [] bK h).2;simp only[qQ]at h1;omega
theorem Z3 {P:Prop} (h:P:=by
 rcases hlen with hl|hl
 ·have hbad:=Lh (hlong.out hl);(have q9:(14:Int)<(cb.size:Int)+1:=by omega);go_wp2
  go_step3
  exact⟨rfl,hbad,⟨rfl,rfl,rfl⟩,_,rfl⟩
 have hnew:=Lh (hok.out hl);have q9:¬(14:Int)<(cb.size:Int)+1:=by omega
 go_wp2;go_roundw
 case rel=>exact⟨pos+1,n,cb++s.extract pos (pos+1),rfl,rfl,by rw[aqN.out];go_num,rfl,by rw[aqN.out];omega,by rw[aqN.out];omega,ay7,hnew⟩
 case measure=>simp;omega):P:=h
theorem uD (s:ByteArray) (w:World) (hs:s.size<=9223372036854775807):
  Calls Tryz.prog 104 #[.string s] w fun e w'=>e= .returned (.bool (aV s.data.toList))/\Below w.heap.size w w':=by
 have bs:(s.size:Int)<=9223372036854775807:=by omega
 go_enter Tryz.func104,Tryz.ntmps104;go_wp2;refine wp_scope_jumps 0 (fun a' w'=>Hid (aV s.data.toList=false)/\Fm 80 a' [.string s]/\∃p,w'=w.iter s p) (fun _ _=>0) rfl ?_ ?_
 ·go_wp2;go_loopw[3,4,5] (fun v3 v4 v5 wr=>∃(pos n:Nat) (cb:ByteArray),wr=w.iter s pos/\v3=iV n/\v4=iV cb.size/\v5= .string cb/\cb.size<=14/\2*n+cb.size<=pos+2/\pos<=s.size/\Hid (aV s.data.toList=FV (s.data.toList.drop pos) n cb.data.toList))
   (fun _ _ _ wr=>s.size-wr.iterPos w.heap.size)
  case atStart=>exact⟨0,1,⟨#[]⟩,rfl,rfl,rfl,rfl,by decide,by decide,by omega,rfl⟩
  obtain⟨pos,n,cb,rfl,rfl,rfl,rfl,aQA,hn,hps,hv⟩:=hrel;(have b1:(n:Int)<=4611686018427387905:=by omega);(have b2:(cb.size:Int)<=14:=by omega);have htl:cb.toList=cb.data.toList:=Lib.toList_data cb;have hsz:cb.size=cb.data.toList.length:=Lib.size_eq cb;have hss:s.size=s.data.toList.length:=Lib.size_eq s;by_cases hp:pos<s.size
  case neg=>
   (have hnx:∀ty,(Instr.next (pV w.heap.size) true ty).run Tryz.prog (w.iter s pos)=_:=fun ty=>run_next_end w s pos ty hp);(have hv2:Hid (aV s.data.toList=(decide (0<cb.size)&& !dots cb.toList&&decide (n<=6))):=by have h:=hv.out;rw[abQ aD,FV]at h;(show _=_);rw[h,hsz,htl]);have aQB:=Lh htl;clear htl hv hsz hss;go_wp2;all_goals
    simp only[Exit.jump]
    go_ret
    refine⟨?_,(Below.refl _ _).alloc (iC _) _⟩
    rw[hv2.out]
    have e6:decide ((n:Int)<=6)=decide (n<=6):=decide_eq_decide.2 aD
    congr 2
    simp[dots, *]
  obtain⟨c,hc⟩:∃c,c=s[pos]'hp:=⟨_,rfl⟩;(have hdr:s.data.toList.drop pos=c::s.data.toList.drop (pos+1):=by rw[abL aD,hc];rfl);have hv1:=hv.out;rw[hdr,FV]at hv1;have hcl:c.toNat<256:=c.toNat_lt;by_cases hasc:c.toNat<128
  case neg=>
   (have hnx:∀ty,(Instr.next (pV w.heap.size) true ty).run Tryz.prog (w.iter s pos)=_:=fun ty=>run_next_any w s pos ty hp);have hhi:=(decode_high s pos hp (by rw[<-hc];omega)).1;have hle:=decode_le s pos;(have hbad:Hid (aV s.data.toList=false):=by(show _=_);rw[hv1,if_neg (by intro e;rw[e]at hasc;exact hasc aR),if_pos (by unfold lU;simp;omega)]);generalize(Utf8.decode s pos).1=r at hnx hhi hle;generalize(Utf8.decode s pos).2=wd at hnx;(have q1:((r:Int)==47)=false:=by simp;omega);(have q2:((r:Int)==46)=false:=by simp;omega);(have q3:((r:Int)==95)=false:=by simp;omega);(have q4:((r:Int)==45)=false:=by simp;omega);(have q5:decide ((r:Int)<=122)=false:=by simp;omega);(have q6:decide ((r:Int)<=57)=false:=by simp;omega);(have q7:(97:Int)<=(r:Int):=by omega);(have q8:(48:Int)<=(r:Int):=by omega);clear hv hv1 hdr htl hsz hss;go_wp2
   go_step3
   exact⟨rfl,hbad,⟨rfl,rfl,rfl⟩,_,rfl⟩
  (have hnx:∀ty,(Instr.next (pV w.heap.size) true ty).run Tryz.prog (w.iter s pos)= .ok (.tuple #[.bool true,iV pos,.int .i32 (c.toNat:Nat)]) (w.iter s (pos+1)):=fun ty=>by rw[hc];exact run_next_ascii w s pos ty hp (by rw[<-hc];exact hasc));have hcn:(c=47)↔c.toNat=47:=by
   constructor
   ·rintro rfl;rfl
   intro h;exact UInt8.toNat_inj.1 h
  have ay7:pos+1<=s.size:=hp;by_cases h47:c=47
  case pos=>
   subst h47;rw[if_pos rfl]at hv1;have q47:((47:Nat):Int)=47:=rfl;have aQC:∀ty,(Instr.next (pV w.heap.size) true ty).run Tryz.prog (w.iter s pos)= .ok (.tuple #[.bool true,iV pos,.int .i32 47]) (w.iter s (pos+1)):=hnx;clear hnx hdr hcn hasc hcl hv;by_cases h0:cb.size=0
   case pos=>
    (have hbad:Hid (aV s.data.toList=false):=by(show _=_);rw[hv1,if_pos (.inl aD)]);have z0:((cb.size:Int)==0)=true:=tL.2 aD;have z1:cb.data.toList=[]:=vS aD;clear hv1 htl hsz hss z1;go_wp2;all_goals
     go_step3
     exact⟨rfl,hbad,⟨rfl,rfl,rfl⟩,_,rfl⟩
   have z0:((cb.size:Int)==0)=false:=jU.2 aD;by_cases hd:dots cb.data.toList=true
   case pos=>
    (have hbad:Hid (aV s.data.toList=false):=by(show _=_);rw[hv1,if_pos (.inr hd)]);(have hd2:cb.toList=[46]\/cb.toList=[46,46]:=by rw[htl];simpa[dots]using hd);clear hv1 htl hsz hss hd;(rcases hd2 with hd2|hd2);all_goals
     have hd3:=Lh hd2
     go_wp2
     all_goals
      go_step3
      exact⟨rfl,hbad,⟨rfl,rfl,rfl⟩,_,rfl⟩
   (have hd2:¬cb.toList=[46]/\¬cb.toList=[46,46]:=by rw[htl];simpa[dots]using hd);have hd3:(cb.toList==[46])=false:=jU.2 hd2.1;have hd4:(cb.toList==[46,46])=false:=jU.2 hd2.2;clear hd2;(have hnew:Hid (aV s.data.toList=FV (s.data.toList.drop (pos+1)) (n+1) []):=by(show _=_);rw[hv1,if_neg (by simp only[not_or];exact⟨by omega,hd⟩)]);clear hv1 htl hsz hss hd;go_wp2;go_roundw
   case rel=>exact⟨pos+1,n+1,⟨#[]⟩,rfl,by go_num,rfl,rfl,by decide,by show 2*(n+1)+0<=pos+1+2;omega,ay7,hnew⟩
   case measure=>simp;omega
  rw[if_neg h47]at hv1;(have aI1:c.toNat≠47:=fun e=>h47 (hcn.2 e));(have az8:(cb++s.extract pos (pos+1)).data.toList=cb.data.toList++[c]:=by rw[Go.Joins.data_append,Lib.extract_data,hdr];simp);(have aDW:(cb++s.extract pos (pos+1)).size=cb.size+1:=by rw[Lib.size_eq,az8,jM,<-hsz];rfl);have aDX:=Lh az8;have aqN:=Lh aDW;clear az8 aDW;generalize hkk:c.toNat=k at hnx hasc aI1 hv1;(have key:k<45\/k=45\/k=46\/(48<=k/\k<=57)\/(58<=k/\k<=94)\/k=95\/k=96\/(97<=k/\k<=122)\/123<=k:=by omega);by_cases hco:lU k=false
  case pos=>
   (have hbad:Hid (aV s.data.toList=false):=by(show _=_);rw[hv1,if_pos hco]);(have az9:¬(97<=k/\k<=122)/\¬(48<=k/\k<=57)/\k≠46/\k≠95/\k≠45:=by unfold lU at hco;simp at hco;omega);(have q47:((k:Int)==47)=false:=by simp;omega);(have q46:((k:Int)==46)=false:=by simp;omega);(have q95:((k:Int)==95)=false:=by simp;omega);(have q45:((k:Int)==45)=false:=by simp;omega);clear hv hv1 hdr htl hsz hss hcn hco hkk hc;(have aI2:k<48\/(58<=k/\k<=96)\/123<=k:=by omega);clear key az9;rcases aI2 with h|h|h
   ·(have q1:decide ((97:Int)<=(k:Int))=false:=by simp;omega);(have q2:decide ((48:Int)<=(k:Int))=false:=by simp;omega);go_wp2
    go_step3
    exact⟨rfl,hbad,⟨rfl,rfl,rfl⟩,_,rfl⟩
   ·(have q1:decide ((97:Int)<=(k:Int))=false:=by simp;omega);(have q2:decide ((48:Int)<=(k:Int))=true:=by simp;omega);(have q3:decide ((k:Int)<=57)=false:=by simp;omega);go_wp2
    go_step3
    exact⟨rfl,hbad,⟨rfl,rfl,rfl⟩,_,rfl⟩
   (have q1:decide ((97:Int)<=(k:Int))=true:=by simp;omega);(have q2:decide ((48:Int)<=(k:Int))=true:=by simp;omega);(have q3:decide ((k:Int)<=57)=false:=by simp;omega);(have q4:decide ((k:Int)<=122)=false:=by simp;omega);go_wp2
   go_step3
   exact⟨rfl,hbad,⟨rfl,rfl,rfl⟩,_,rfl⟩
  rw[if_neg hco]at hv1;(have az9:(97<=k/\k<=122)\/(48<=k/\k<=57)\/k=46\/k=95\/k=45:=by unfold lU at hco;simp at hco;omega);(have q47:((k:Int)==47)=false:=by simp;omega);(have hlong:Hid (14<cb.size+1->aV s.data.toList=false):=fun h=>by rw[hv1,if_pos aD]);(have hok:Hid (¬14<cb.size+1->aV s.data.toList=FV (s.data.toList.drop (pos+1)) n (cb++s.extract pos (pos+1)).data.toList):=fun h=>by rw[hv1,if_neg aD,aDX.out]);clear hv hv1 hdr htl hsz hss hcn hco hkk hc key;have hlen:(14<cb.size+1)\/¬(14<cb.size+1):=Decidable.em _;rcases az9 with h|h|h|h|h
  ·(have q1:decide ((97:Int)<=(k:Int))=true:=by simp;omega);(have q2:decide ((k:Int)<=122)=true:=by simp;omega);exact Z3
  ·(have q1:decide ((97:Int)<=(k:Int))=false:=by simp;omega);(have q2:decide ((48:Int)<=(k:Int))=true:=by simp;omega);(have q3:decide ((k:Int)<=57)=true:=by simp;omega);exact Z3
  ·(have q1:decide ((97:Int)<=(k:Int))=false:=by simp;omega);(have q2:decide ((48:Int)<=(k:Int))=false:=by simp;omega);(have q3:((k:Int)==46)=true:=by simp;omega);exact Z3
  ·(have q1:decide ((97:Int)<=(k:Int))=false:=by simp;omega);(have q2:decide ((48:Int)<=(k:Int))=true:=by simp;omega);(have q3:decide ((k:Int)<=57)=false:=by simp;omega);(have q4:((k:Int)==46)=false:=by simp;omega);(have q5:((k:Int)==95)=true:=by simp;omega);exact Z3
  (have q1:decide ((97:Int)<=(k:Int))=false:=by simp;omega);(have q2:decide ((48:Int)<=(k:Int))=false:=by simp;omega);(have q4:((k:Int)==46)=false:=by simp;omega);(have q5:((k:Int)==95)=false:=by simp;omega);(have q6:((k:Int)==45)=true:=by simp;omega);exact Z3
 rintro a' w' ⟨hv,hF,p,rfl⟩;obtain⟨f,rfl⟩:=Fm.lit (m:=79) hF rfl;simp only[lits,Nat.reduceAdd,kI,mI];go_wp2;simp only[Exit.jump];go_ret;exact⟨by rw[hv.out];rfl,(Below.refl _ _).alloc (iC _) _⟩
end Go.Proofs.YtmjomdkleikgbaaGreat
namespace Go.Proofs.YtmjomdkleikgbaaGreat
def splitB :List UInt8->List (List UInt8)
 |[]=>[[]]
 |c::l=>if c=47 then []::splitB l else match splitB l with
  |[]=>[[c]]
  |h::t=>(c::h)::t
theorem iG (c:UInt8) (l:List UInt8):splitB (c::l)=if c=47 then []::splitB l else match splitB l with
 |[]=>[[c]]
 |h::t=>(c::h)::t:=rfl
theorem gJ (l:List UInt8):splitB l≠[]:=by
 cases l with
 |nil=>simp[splitB]
 |cons c l=>
  unfold splitB;split
  ·simp
  split<;>simp
theorem oU {l:List UInt8} (h:(47:UInt8)∉l):splitB l=[l]:=by
 induction l with
 |nil=>rfl
 |cons c l ih=>(have h1:c≠47:=fun e=>h (by simp[e]));(have h2:(47:UInt8)∉l:=fun e=>h (vR _ e));unfold splitB;rw[if_neg h1,ih h2]
theorem MN {a b:List UInt8} (h:(47:UInt8)∉a):splitB (a++47::b)=a::splitB b:=by
 induction a with
 |nil=>rfl
 |cons c a ih=>(have h1:c≠47:=fun e=>h (by simp[e]));(have h2:(47:UInt8)∉a:=fun e=>h (vR _ e));rw[kI,iG,if_neg h1,ih h2]
end Go.Proofs.YtmjomdkleikgbaaGreat

namespace Go.Proofs.YtmjomdkleikgbaaGreat
open Go.RowKit Go.Shelf
attribute [local go_sem] Oper.semAt_some
theorem acR (l:List UInt8):((47:UInt8)∉l/\Lib.indexByte l 47= -1)\/∃a b,l=a++47::b/\(47:UInt8)∉a/\Lib.indexByte l 47=(a.length:Int):=by
 induction l with
 |nil=>exact .inl ⟨by simp,rfl⟩
 |cons c l ih=>
  by_cases e:c=47
  ·subst e;exact .inr ⟨[],l,rfl,by simp,by simp[Lib.indexByte]⟩
  have e':(c==47)=false:=jU.2 e;rcases ih with⟨h1,h2⟩|⟨a,b,rfl,h1,h2⟩
  ·refine .inl ⟨fun h=>?_,by simp[Lib.indexByte,e,h2]⟩;rcases kE.1 h with h|h
   ·exact e h.symm
   exact h1 h
  refine .inr ⟨c::a,b,rfl,fun h=>?_,?_⟩
  ·rcases kE.1 h with h|h
   ·exact e h.symm
   exact h1 h
  have hne:((a.length:Int)== -1)=false:=jU.2 aD;unfold Lib.indexByte;rw[e',h2,hne];simp
def nm (x:Nat×ByteArray):List UInt8:=x.2.data.toList
end Go.Proofs.YtmjomdkleikgbaaGreat
namespace Go.Proofs.YtmjomdkleikgbaaGreat
open Go.RowKit Go.Shelf
attribute [local go_sem] Oper.semAt_some
theorem amJ (F:Fence) (n:Nat) (h7:F.fn 208) (h65:F.fn 209) (hix:∀(s:ByteArray) W,CallsIn F (n-1) Tryz.prog 209 #[.string s,.int .u8 47] W fun e w'=>e= .returned (iV (Lib.indexByte s.data.toList 47))/\w'=W) (hro:F.round=none) (hn:1<=n) (l Bs n₀ B:Nat) (hne:Bs≠B) (p:ByteArray) (hs:p.size<=4611686018427387904) (J Jx:List (Nat×ByteArray)->World->Prop)
  (hY:∀pre x W,J pre W->pre.length<(splitB p.data.toList).length->YieldAt F (n-1) Tryz.prog l #[iV (x.1:Int),.string x.2] W fun e W'=>
   (e= .returned (.bool true)/\J (pre++[x]) W'/\xC n₀ [B] W W')\/(e= .returned (.bool false)/\Jx (pre++[x]) W'))
  (W:World) (hb:Bs<n₀) (hBs:W.cell? ⟨Bs,0,none⟩=some (.string p)) (h0:J [] W):
  CallsIn F n Tryz.prog 208 #[.func (.yield l) #[] #[],pV Bs] W fun e W'=>(∃v,e= .returned v)/\
   ((∃ys:List (Nat×ByteArray),ys.map nm=splitB p.data.toList/\J ys W')\/(∃pre:List (Nat×ByteArray),(∃rest,pre.map nm++rest=splitB p.data.toList)/\Jx pre W')):=by
 have hsz:p.size=p.data.toList.length:=Lib.size_eq p
 have bs:(p.size:Int)<=4611686018427387904:=by omega
 refine callsIn_of_wp Tryz.func208 rfl h7 ?_ hro
 simp only[Tryz.ntmps208,uB,kH,qQ,Nat.reduceAdd,Nat.reduceSub,xD,xE,xH,xG,mI,kI]
 gi_wp2
 gi_loopw [3] (fun i wr=>∃(from_:Nat) (pre:List (Nat×ByteArray)),i=iV from_/\J pre wr/\xC n₀ [B] W wr/\((from_<=p.size/\pre.map nm++splitB (p.data.toList.drop from_)=splitB p.data.toList)\/(from_=p.size+1/\pre.map nm=splitB p.data.toList)))
  (fun i _=>p.size+1-(intOf i).toNat)
 case atStart=>exact⟨0,[],rfl,h0,xC.refl _ _ _,.inl ⟨fZ _,by simp⟩⟩
 case round=>
  obtain⟨from_,pre,rfl,hJs,hnx,hst⟩:=hrel;have hcx:wr.cell? ⟨Bs,0,none⟩=some (.string p):=(hnx.cell (a:=⟨Bs,0,none⟩) hb (by simpa using hne)).trans hBs;rcases hst with⟨hle,hsp⟩|⟨hgt,hsp⟩
  case inr=>
   (have q1:¬(from_:Int)<=(p.size:Int):=by omega);(have q2:(p.size:Int)<(from_:Int):=by omega);clear hgt hsz
   gi_wp2
   go_end0
   exact⟨⟨_,rfl⟩,.inl ⟨_,hsp,hJs⟩⟩
  (have q1:(from_:Int)<=(p.size:Int):=by omega);(have q0:(0:Int)<=(from_:Int):=by omega);(have hpl:pre.length<(splitB p.data.toList).length:=by rw[<-hsp,jM,iJ];have:=List.length_pos_iff.2 (gJ (p.data.toList.drop from_));omega);(have hix:=fun W=>hix (p.extract from_ p.size) W);(have hex:(p.extract from_ p.size).data.toList=p.data.toList.drop from_:=by rw[Lib.extract_data,pM (by rw[rZ];omega)]);rw[hex]at hix;rcases acR (p.data.toList.drop from_)with⟨hno,hval⟩|⟨a,b,hab,hno,hval⟩
  ·rw[hval]at hix;have hnm:nm (p.size,p.extract from_ p.size)=p.data.toList.drop from_:=hex;(have hend:(pre++[(p.size,p.extract from_ p.size)]).map nm=splitB p.data.toList:=by rw[mZ,<-hsp,oU hno,jV,zL,hnm]);obtain⟨fn,tmps,assign,body,hy,hR⟩:=hY pre (p.size,p.extract from_ p.size) wr hJs hpl;dsimp only at hy;have hend':=Lh hend;clear hend hnm hsp hex hno hval hsz
   gi_wp2_with (gi_at_call 209;refine(hix _).mono ?_;rintro e w' ⟨rfl,rfl⟩)
   refine hR.mono ?_;rintro e W3 (⟨rfl,hJ3,hk3⟩|⟨rfl,hJx3⟩)
   ·gi_wp2
    go_roundw
    case rel=>exact⟨p.size+1,_,by simp,hJ3,hnx.trans hk3,.inr ⟨rfl,hend'⟩⟩
    case measure=>simp[intOf];omega
   gi_wp2
   refine bodyPost_ret (results_none rfl _ _ _) rfl ?_;exact⟨⟨_,rfl⟩,.inr ⟨_,⟨[],(yX46 _).trans hend'⟩,hJx3⟩⟩
  rw[hval]at hix;(have hal:a.length<p.data.toList.length-from_:=by rw[<-rZ,hab,jM,kH];omega);(have q3:(from_:Int)+(a.length:Int)<(p.size:Int):=by omega);(have q4:(0:Int)<=(a.length:Int):=by omega);(have q5:(from_:Int)<=(from_:Int)+(a.length:Int):=by omega);(have aDY:nm (from_+a.length,p.extract from_ (from_+a.length))=a:=by(show(p.extract from_ (from_+a.length)).data.toList=a);rw[Lib.extract_data,J2,hab,VX];rfl);(have hb':p.data.toList.drop (from_+a.length+1)=b:=by rw[sD,<-L6,hab,<-L6];simp);(have hnext:(pre++[(from_+a.length,p.extract from_ (from_+a.length))]).map nm++splitB (p.data.toList.drop (from_+a.length+1))=splitB p.data.toList:=by rw[mZ,jV,zL,aDY,hb',<-hsp,hab,MN hno,pG];rfl);obtain⟨fn,tmps,assign,body,hy,hR⟩:=hY pre (from_+a.length,p.extract from_ (from_+a.length)) wr hJs hpl;simp only[VV]at hy;have aqO:=Lh hnext;have aqP:=Lh hal;clear hnext hal hsp hex hno hval aDY hb' hab hsz hpl
  gi_wp2_with (gi_at_call 209;refine(hix _).mono ?_;rintro e w' ⟨rfl,rfl⟩)
  refine hR.mono ?_;rintro e W3 (⟨rfl,hJ3,hk3⟩|⟨rfl,hJx3⟩)
  ·gi_wp2
   go_roundw
   case rel=>exact⟨from_+a.length+1,_,by simp,hJ3,hnx.trans hk3,.inl ⟨by omega,aqO⟩⟩
   case measure=>simp[intOf];omega
  gi_wp2
  refine bodyPost_ret (results_none rfl _ _ _) rfl ?_;exact⟨⟨_,rfl⟩,.inr ⟨_,⟨_,aqO⟩,hJx3⟩⟩
theorem acS (F:Fence) (n:Nat) (h7:F.fn 208) (h65:F.fn 209) (hix:∀m (s:ByteArray) W,CallsIn F m Tryz.prog 209 #[.string s,.int .u8 47] W fun e w'=>e= .returned (iV (Lib.indexByte s.data.toList 47))/\w'=W) (hro:F.round=none) (hn:1<=n) (Bs n₀ B:Nat) (hne:Bs≠B) (p:ByteArray) (hs:p.size<=4611686018427387904) (w:World) (hBs:Bs<n₀) (hn₀:n₀<=w.heap.size)
  (hc:w.cell? ⟨Bs,0,none⟩=some (.string p)):
  SeqStopsK F n Tryz.prog 208 #[pV Bs] (fun x:Nat×ByteArray=>#[Value.int .i64 (x.1:Int),.string x.2]) (xC n₀ [B]) (fun ys=>ys.map nm=splitB p.data.toList) (fun pre=>∃rest,pre.map nm++rest=splitB p.data.toList) (splitB p.data.toList).length w:=fun l J Jx W hW _ _ hY h0=>by
 have hc':=(hW.cell (p:=⟨Bs,0,none⟩) (VP hBs hn₀)).trans hc;exact amJ F n h7 h65 (fun s W=>hix _ s W) hro hn l Bs n₀ B hne p hs J Jx hY W hBs hc' h0
theorem awC (F:Fence) (n:Nat) (h41:F.fn 182) (hro:F.round=none) (p:ByteArray) (w:World):
  CallsIn F n Tryz.prog 182 #[.string p] w fun e w'=>e= .returned (.func (.func 208) #[] #[pV w.heap.size])/\w'=w.alloc (.cells #[.string p] 9):=by
 refine callsIn_of_wp Tryz.func182 rfl h41 ?_ hro;simp only[Tryz.ntmps182,uB,kH,qQ,Nat.reduceAdd,Nat.reduceSub,xD,xE,xH,xG,mI,kI]
 gi_wp2
 go_ret;exact⟨rfl,rfl⟩
theorem xC.setCell {n₀ B:Nat} (W:World) (v:Value):xC n₀ [B] W (W.setCell ⟨B,0,none⟩ v):=
 ⟨rfl,rfl,rfl,by simp[World.setCell],fun k _ hn=>Below.heap_setCell W ⟨B,0,none⟩ v k (by simpa using hn)⟩
theorem Boxed.amK {W w1:World} {n₀ B:Nat} {t e:TypeId} {size:Nat} {v v':Value} {k m:Nat} {xs ys:List Value} {tmp:Obj}
  (hv:Boxed W B t v) (hte:t≠e) (hrow:W.ownsRow n₀ e size v k xs) (hn₀:n₀<=W.heap.size)
  (hown':w1.ownsRow n₀ e size v' m ys) (hgrow:(W.alloc tmp).grownBy w1 v.ownBlock):
  Boxed w1 B t v/\Boxed (w1.setCell ⟨B,0,none⟩ v') B t v'/\(w1.setCell ⟨B,0,none⟩ v').ownsRow n₀ e size v' m ys/\KeepsOthers W (w1.setCell ⟨B,0,none⟩ v')/\xC n₀ [B] W (w1.setCell ⟨B,0,none⟩ v'):=by
 have hv1:Boxed w1 B t v:=(hv.alloc tmp).kept hgrow (hv.not_row hte hrow);refine⟨hv1,hv1.set v',hown'.kept (grownBy_setCell' w1 B v') (.inr (hv1.not_row hte hown').symm),?_,?_⟩
 ·refine((KeepsOthers.alloc W tmp).trans (KeepsOthers.of_grownBy hgrow fun j o ej hj=>?_)).trans (KeepsOthers.setCell _ _ _);rcases(hrow.alloc tmp).2 with⟨rfl,_⟩|⟨g,cap,cur,rfl,_,hgb,_⟩
  ·simp[Value.ownBlock]at ej
  (obtain rfl:g=j:=by simpa[Value.ownBlock]using ej);rw[hgb]at hj;cases hj;rfl
 refine(xC.below (((Below.refl n₀ W).alloc hn₀ tmp).grown hgrow E8 fun j ej=>?_)).trans (xC.setCell _ _);rcases hrow.2 with⟨rfl,_⟩|⟨g,cap,cur,rfl,hb,_,_⟩
 ·simp[Value.ownBlock]at ej
 obtain rfl:g=j:=by simpa[Value.ownBlock]using ej
 exact hb
theorem MO {W:World} {b b':Nat} {e:TypeId} {size:Nat} {v:Value} {k:Nat} {xs:List Value} (hb:b'<=b) (h:W.ownsRow b e size v k xs):W.ownsRow b' e size v k xs:=by
 refine⟨h.1,?_⟩;rcases h.2 with h|⟨g,cap,cur,hv,h1,h2⟩
 ·exact .inl h
 exact .inr ⟨g,cap,cur,hv,AY hb h1,h2⟩
theorem xC.acT {n₀ B m:Nat} {W W':World} (h:xC n₀ [B] W W') (h1:m<=n₀) (h2:m<=B):Below m W W':=
 ⟨h.os,h.tape,h.output,h.size,fun k hk=>h.block k aD E8⟩
theorem MP :(Tryz.prog.info? 9).map (fun i=>(i.zero,i.size,i.bytes))=some (some (.string ⟨#[]⟩),1,16):=by kernel_rfl
def aqQ (x:Nat×ByteArray):Value:=.string x.2
theorem aqR (F:Fence) (n:Nat) (h26:F.fn 138) (h40:F.fn 104) (h41:F.fn 182) (h7:F.fn 208) (h65:F.fn 209) (hro:F.round=none) (hn:3<=n) (p:ByteArray) (hs:p.size<=1048576)
  (hix:∀m (s:ByteArray) W,CallsIn F m Tryz.prog 209 #[.string s,.int .u8 47] W fun e w'=>e= .returned (iV (Lib.indexByte s.data.toList 47))/\w'=W)
  (hva:∀m W,CallsIn F m Tryz.prog 104 #[.string p] W fun e w'=>e= .returned (.bool true)/\Below W.heap.size W w')
  (hsl:(splitB p.data.toList).length<=1048577) (w:World):
  CallsIn F n Tryz.prog 138 #[.string p] w fun e w'=>∃(v:Value) (ys:List (Nat×ByteArray)),e= .returned v/\ys.map nm=splitB p.data.toList/\w'.ownsRow w.heap.size 9 1 v ys.length (ys.map aqQ)/\Below w.heap.size w w':=by
 have h1:1<=n:=by omega
 obtain⟨i0,hi,hz0,hz1,hz2⟩:=iR MP;refine callsIn_of_wp_marks Tryz.func138 rfl h26 ?_ hro;simp only[Tryz.ntmps138,uB,kH,qQ,Nat.reduceAdd,Nat.reduceSub,xD,xE,xH,xG,mI,kI]
 gi_wp2_with (first |(gi_at_call 104;refine(hva _ _).mono ?_;rintro e w1 ⟨rfl,hb1⟩)|(gi_at_call 182;refine(awC F _ h41 hro _ _).mono ?_;rintro e w2 ⟨rfl,rfl⟩))
 have bO:=Boxed.new w1 73 (.slice none 0 0);have hbase:w.heap.size<=w1.heap.size:=hb1.size;have hB0:Below w.heap.size w ((w1.alloc (.cells #[.slice none 0 0] 73)).alloc (.cells #[.string p] 9)):=(hb1.alloc aD _).alloc E8 _;have hB1:Below (w1.heap.size+1) (w1.alloc (.cells #[.slice none 0 0] 73)) ((w1.alloc (.cells #[.slice none 0 0] 73)).alloc (.cells #[.string p] 9)):=(Below.refl _ _).alloc bK _;have bO2:=bO.alloc (.cells #[.string p] 9);have hbN:=Boxed.new (w1.alloc (.cells #[.slice none 0 0] 73)) 9 (.string p);refine wpIn_rangeFunc_ownG hro h1 (gf:=208) (lb:=#[pV (w1.heap.size+1)]) rfl h7 (enters_of Tryz.func208 fE rfl)
  (acS F (n-1) h7 h65 hix hro aD (w1.heap.size+1) (w1.heap.size+2) w1.heap.size aD p aD _ aD bK (by have:=hbN.cell;rw[World.size_alloc]at this;exact this)) xC.trans (xC.putObj bK) (Below.refl _ _) (fun _=>rfl)
  (fun pre W=>(∃v,Boxed W w1.heap.size 73 v/\W.ownsRow (w1.heap.size+2) 9 1 v pre.length (pre.map aqQ)/\True)/\(Below w.heap.size w W/\Below 0 ((w1.alloc (.cells #[.slice none 0 0] 73)).alloc (.cells #[.string p] 9)) W))
  (fun _ _ _=>False)
  (OwnFrom.and (Own.from (holdsRow_own (w1.heap.size+2) w1.heap.size 73 9 1 (fun pre:List (Nat×ByteArray)=>pre.length) (fun pre=>pre.map aqQ) (fun _ _=>True)) _) (OwnFrom.and (ownFrom_below (iC _) E8) (ownFrom_below (fZ _) bK)))
  (fun _ _ _ _ _ hs _ _=>hs)
  ⟨⟨_,bO2,World.ownsRow_nil _ _ _ _,trivial⟩,hB0,Below.refl _ _⟩
  (fun x=> {tmps:=#[.string p,undef,.slice none 0 0,pV w1.heap.size,undef,.string x.2,.string p,.bool true,.bool false,.string p,.func (.func 208) #[] #[pV (w1.heap.size+1)],iV (x.1:Int),.string x.2,undef,undef,undef,undef,undef],defers:=[]}) ?assign ?body ?done ?stop
 case assign=>
  intro l x W K hK
  gi_wp2
  exact hK
 case body=>
  rintro l pre x W ⟨⟨v,hv,hrow,_⟩,hB,hB2⟩ hlt;have hcv:=hv.cell;have hsz2:w1.heap.size+2<=W.heap.size:=by have:=hB2.size;simpa using this
  gi_wp2_with (gi_at_builtin;go_loud (refine wpListIn_append_own _ rfl _ _ 73 rfl (w1.heap.size+2) 9 i0 (.string ⟨#[]⟩) 1 16 Tryz.underlying73 hi hz0 hz1 hz2 rfl aR _ _ _ rfl (hrow.alloc _) ⟨W.heap.size,0,none⟩ 1 1 [.string x.2] rfl rfl (cell_one_new _ _ _) oCl (by first |omega|(unfold maxLen;omega)) (by first |omega|(unfold maxLen;omega)) E8 ?_);intro v' w2 hown' hgrow _;obtain⟨g',cap',rfl⟩:=ownsRow_succ hown';obtain⟨hv1,hv2,hr2,hk2,hb2⟩:=Boxed.amK hv aR hrow hsz2 hown' hgrow;have hc1:=hv1.cell;have hf1:=hv1.frozen)
  exact⟨hk2.from _,hb2,⟨_,hv2,by simpa[aqQ]using hr2,trivial⟩,hB.trans (hb2.acT aD aD),hB2.trans (hb2.acT (fZ _) (fZ _))⟩
 case done=>
  rintro D ys W hD hys ⟨⟨v,hv,hrow,_⟩,hB,_⟩ hK;have hcv:=hv.cell
  gi_wp2
  refine⟨by simp,.inl ⟨_,_,rfl,run_takeDeferred hK,?_⟩⟩;exact⟨_,results_tmp rfl _ _ _,v,ys,rfl,hys,MO aD (ownsRow_putObj hrow _ hK rfl),hB.trans (belowK_b (w:=w) (iC _) W D _ _ (by simp at hD;omega) hK rfl rfl)⟩
 rintro D c pre W _ _ h _;exact h.elim
theorem P6 (l:List UInt8):(splitB l).length<=l.length+1:=by
 induction l with
 |nil=>simp[splitB]
 |cons c l ih=>
  rw[iG];split
  ·simp;omega
  split
  ·simp
  rename_i h t e;rw[e]at ih;simp at ih ⊢;omega
theorem ag2 {p:List UInt8} (hv:aV p=true) (hs:p.length<=1048576) (w:World):
  Calls Tryz.prog 138 #[aC p] w fun e w'=>∃v,e= .returned v/\Sep w w' [.sl 9 1 v (splitB p).length ((splitB p).map aC)]:=by
 have h1:=aqR Fence.wide 3 trivial trivial trivial trivial trivial rfl aD ⟨p.toArray⟩ (by rw[iN];exact hs) (fun m s W=>callsIn_wide.2 (Any.strings_IndexByte Tryz.indexByte s 47 W)) (fun m W=>callsIn_wide.2 (by have:=uD ⟨p.toArray⟩ W (by rw[iN];omega);rw[uC,hv]at this;exact this)) (by rw[uC];have:=P6 p;omega) w;refine((callsIn_wide (n:=3)).1 h1).mono ?_;rintro e w' ⟨v,ys,rfl,h2,h3,h4⟩;rw[uC]at h2;refine⟨v,rfl,?_⟩;have e1:ys.map aqQ=(splitB p).map aC:=by rw[<-h2,qO];(refine uO fun x _=>?_);(show Value.string x.2= .string ⟨(x.2.data.toList).toArray⟩);rw[Array.toArray_toList]
 have e2:ys.length=(splitB p).length:=by rw[<-h2,iJ]
 rw[e1,e2]at h3;refine(Sep.nil w).new (F:=v.ownBlock.toList) h4 ⟨MO (fZ _) h3,rfl⟩ fun b hb=>?_
 have hb':v.ownBlock=some b:=by simpa using hb
 exact(h3.lt b hb').1
theorem P7 {b:List UInt8} (h:(47:UInt8)∉b):∀a:List UInt8,(splitB (a++47::b)).getLastD []=b
 |[]=>by(show(splitB (47::b)).getLastD []=b);rw[iG,if_pos rfl,oU h];rfl
 |c::a=>by
  have ih:=P7 h a;have hne:=gJ (a++47::b);rw[kI,iG];split
  ·cases hs:splitB (a++47::b)with
   |nil=>exact absurd hs hne
   |cons x t=>rw[hs]at ih;exact ih
  cases hs:splitB (a++47::b)with
  |nil=>exact absurd hs hne
  |cons x t=>
   rw[hs]at ih;cases t with
   |nil=>
    exfalso;have h2:∀l:List UInt8,(47:UInt8)∈l->2<=(splitB l).length:=fun l=>by
     induction l with
     |nil=>intro h;cases h
     |cons d l ih2=>
      intro h;rw[iG];split
      ·have:=List.length_pos_iff.2 (gJ l);simp;omega
      rename_i hd;have h3:(47:UInt8)∈l:=by
       rcases kE.1 h with e|h
       ·exact absurd e.symm hd
       exact h
      have h4:=ih2 h3;split
      ·rename_i e;rw[e]at h4;simp at h4
      rename_i e;rw[e]at h4;simp at h4 ⊢;omega
    have h5:=h2 (a++47::b) bK;rw[hs]at h5;simp at h5
   |cons y t=>exact ih
def aL (p:List UInt8):List UInt8:=(splitB p).getLastD []
theorem extract_drop (p:List UInt8) (n:Nat):(⟨p.toArray⟩:ByteArray).extract n p.length=⟨(p.drop n).toArray⟩:=by
 have e:((⟨p.toArray⟩:ByteArray).extract n p.length).data.toList=p.drop n:=by rw[Lib.extract_data];(show(p.drop n).take (p.length-n)=_);rw[pM (by rw[rZ];exact iC _)]
 generalize(⟨p.toArray⟩:ByteArray).extract n p.length=t at e;obtain⟨⟨l⟩⟩:=t;simp at e;rw[e]
theorem ZK (p:List UInt8) (j:Nat) (hj:j<p.length):(({data:=p.toArray}:ByteArray).data[j]!).toNat=(p[j]).toNat:=by rw[getElem!_pos p.toArray j (by simpa using hj)];simp
theorem amL (p:List UInt8):∃m:Nat,m<=p.length/\Lib.lastIndexByte ⟨p.toArray⟩ 47=(m:Int)-1/\p.drop m=aL p:=by
 rcases Lib.lastIndexByte_spec ⟨p.toArray⟩ 47 with⟨h,h2⟩|⟨i,hi,h,h2,h3⟩
 ·refine⟨0,fZ _,by rw[h];rfl,?_⟩;(have hno:(47:UInt8)∉p:=by intro hm;obtain⟨j,hj,e⟩:=OQ hm;refine h2 j hj ?_;rw[ZK p j hj,e];rfl);unfold aL;rw[oU hno];rfl
 have hi':i<p.length:=hi;refine⟨i+1,hi,by rw[h];omega,?_⟩;have e1:p[i]=47:=by rw[ZK p i hi']at h2;exact UInt8.toNat_inj.1 (by have e:(47:UInt8).toNat=47:=rfl;rw[e];omega)
 have hno:(47:UInt8)∉p.drop (i+1):=by intro hm;obtain⟨j,hj,e⟩:=OQ hm;rw[rZ]at hj;rw[ab1]at e;refine h3 (i+1+j) aD (by show i+1+j<p.length;omega) ?_;rw[ZK p _ aD,e];rfl
 have e2:p=p.take i++47::p.drop (i+1):=by conv=>lhs;rw[<-EJ i p,abL hi',e1]
 unfold aL
 conv=>rhs;rw[e2]
 rw[P7 hno]
theorem uZ {p:List UInt8} (hval:aV p=true) (h:p.length<=1048576) (w:World):Calls Tryz.prog 121 #[aC p] w fun e w'=>e= .returned (aC (aL p))/\Below w.heap.size w w':=by
 have hv:=uD ⟨p.toArray⟩ w (by rw[iN];omega);rw[uC,hval]at hv;obtain⟨m,h1,h2,h3⟩:=amL p;have hl:∀W,Calls Tryz.prog 171 #[aC p,.int .u8 47] W fun e w'=>e= .returned (iV ((m:Int)-1))/\w'=W:=fun W=>by have:=Go.Proofs.Any.strings_LastIndexByte Go.Proofs.Tryz.lastIndexByte ⟨p.toArray⟩ 47 (by rw[iN];omega) W;rw[h2]at this;exact this
 have q1:(m:Int)<=p.length:=by omega
 have q2:(p.length:Int)<=1048576:=by omega
 have hsz:(⟨p.toArray⟩:ByteArray).size=p.length:=rfl;rw[<-h3];have hex:=extract_drop p m;clear h2 h3 hval h h1;unfold aC at*;go_enter Tryz.func121,Tryz.ntmps121;go_wp2_with(first |(go_at_call 104;refine hv.mono ?_;rintro e w1 ⟨rfl,hb⟩)|(go_at_call 171;refine(hl _).mono ?_;rintro e w2 ⟨rfl,hw2⟩;have hw3:=hw2.symm;clear hw2;subst hw3));go_ret;refine⟨?_,hb⟩
 trace_state
 rw[<-hex];rfl
end Go.Proofs.YtmjomdkleikgbaaGreat
