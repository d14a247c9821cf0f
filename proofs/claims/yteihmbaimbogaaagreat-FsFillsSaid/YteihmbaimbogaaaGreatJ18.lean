/- FuA, ShelfF, FuB, FuC, laid together. -/
import Derived.Test.YteihmbaimbogaaaGreatJ17
import Derived.Shelf.SlLaysF0
import Derived.Shelf.SlLaysM
import Derived.Shelf.Lays
import Derived.Ground.SlsfProg
import Derived.Ground.SlgmProg
import Derived.Ground.NamesProg
import Derived.Shelf.SlSortCmp.NoneTotal
namespace Go.Proofs.YteihmbaimbogaaaGreat
open Go.RowKit
set_option linter.unusedVariables false
set_option linter.unusedSimpArgs false
def zQ (f q p:Nat) (S:VS) (a:VA) (M:aU):List aU:=[jG f q S a.sb (.map (some a.fb)) false,aD q p false,aJ p S.D,dH a.sb a.SM,M]
def vI (f q p:Nat) (S:VS) (a:VA) (M:aU):aU:=.bX (zQ f q p S a M)
section
variable {w0 w:World} {R:List aU} {f q p:Nat} {S:VS} {a:VA}
set_option maxRecDepth 100000 in
set_option maxHeartbeats 1000000 in
theorem aeB {i:Nat} {M:aU} {v:Value} {bs:List UInt8} (hC:VC S a) (hi:i<S.nb-96) (hf:bV a.SM i=some (v,bs)) (h:Sep w0 w (vI f q p S a M::R)):
  Calls Tryz.prog 136 #[.pointer (some ⟨f,0,none⟩),.int .i64 i] w fun e w'=>e= .returned v∧w'=w:=by
 obtain⟨b,hb⟩:∃b,a.sb=some b:=by
  cases hs:a.sb with
  |none=>rw[hC.none hs]at hf;cases hf
  |some b=>exact⟨b,rfl⟩
 have h1:=h.aS;have hl:=h1.FZ (b:=b) (M:=a.SM) 3 (by show some (dH a.sb a.SM)=_;rw[hb];rfl) i (by have:=hC.l8.few;omega);rw[hf]at hl;simp only[Option.map_some,Option.getD_some,Option.isSome_some]at hl;have c1:=h1.bC 0 rfl 1;rw[hb]at c1;simp only[gA,gB,gC]at c1;clear h1 h hC;go_enter Tryz.func136,Tryz.ntmps136;go_wp2_with fail;go_ret;exact⟨rfl,rfl⟩
set_option maxRecDepth 100000 in
set_option maxHeartbeats 1000000 in
theorem Z6 {i b:Nat} {M:aU} (hC:VC S a) (hi:i<S.nb-96) (hf:bV a.SM i=none) (hb:a.sb=some b) (h:Sep w0 w (vI f q p S a M::R)):
  Calls Tryz.prog 136 #[.pointer (some ⟨f,0,none⟩),.int .i64 i] w fun e w'=>∃v,e= .returned v∧Sep w0 w' (vI f q p S (a.read b i v (bk S.D.now (96+i))) M::R):=by
 have h1:=h.aS;unfold zQ at h1;rw[hb]at h1;have hnd:=h1.F3 (b:=b) (M:=a.SM) 3 rfl;have hlen:=hC.short hnd;have hi2:i≤100000:=by have:=hC.l8.few;omega
 have hl:=h1.FZ (b:=b) (M:=a.SM) 3 rfl i hi2;rw[hf]at hl;simp only[Option.map_none,Option.getD_none,Option.isSome_none]at hl;have c1:=h1.bC 0 rfl 1;have c0:=h1.bC 0 rfl 0;simp only[gA,gB,gC]at c0 c1;have hrd:=qL (i:=i) (R:=jG f q S (some b) (.map (some a.fb)) false::iI b a.SM::M::R) hC.l8 hC.big (by omega) hC.on (Sep.bZ [1,2,0] h1 (by decide) (by simp));have hend:∀W v,Sep w0 W (aH v (bk S.D.now (96+i))::aD q p false::aJ p S.D::jG f q S (some b) (.map (some a.fb)) false::iI b a.SM::M::R)→
   W.cell? ⟨f,1,none⟩=some (.map (some b))∧∃st w1 w2,(Instr.mapEntry 98 (.map (some b)) (.int .i64 i)).run Tryz.prog W= .ok (.tuple #[.slice none 0 0,.int .i64 st]) w1∧(Instr.entryStore 98 (.map (some b)) (.int .i64 st) v).run Tryz.prog w1= .ok () w2∧Sep w0 w2 (vI f q p S (a.read b i v (bk S.D.now (96+i))) M::R):=fun W v hS=>by
  have k1:=hS.bC 3 rfl 1;simp only[gA,gB,gC]at k1;have h2:Sep w0 W (iI b a.SM::aH v (bk S.D.now (96+i))::jG f q S (some b) (.map (some a.fb)) false::aD q p false::aJ p S.D::M::R):=Sep.bZ [4,0,3,1,2] hS (by decide) (by simp);obtain⟨st,w1,w2,r1,r2,h3⟩:=h2.wN hi2 (by omega) hf;refine⟨k1,st,w1,w2,r1,r2,?_⟩;have h4:Sep w0 w2 (zQ f q p S (a.read b i v (bk S.D.now (96+i))) M++R):=Sep.bZ [1,2,3,0] h3 (by decide) (by simp);exact h4.bM
 clear hC hlen hi2 hi hnd h;have hm0:=LK b;go_enter Tryz.func136,Tryz.ntmps136;go_wp2_with(first |(go_at_call 172;refine hrd.mono ?_;rintro e w9 ⟨v,rfl,h9⟩;obtain⟨k1,st,w1,w2,r1,r2,h7⟩:=hend _ _ h9)|(go_at_call 43;refine(dI _ _).mono ?_;rintro e w8 ⟨rfl,h8⟩;obtain rfl:=h8.symm));go_ret;exact⟨_,rfl,h7⟩
set_option maxRecDepth 100000 in
set_option maxHeartbeats 1000000 in
theorem aeC {i:Nat} {M:aU} (hC:VC S a) (hi:i<S.nb-96) (hb:a.sb=none) (h:Sep w0 w (vI f q p S a M::R)):
  Calls Tryz.prog 136 #[.pointer (some ⟨f,0,none⟩),.int .i64 i] w fun e w'=>∃v b,e= .returned v∧Sep w0 w' (vI f q p S (a.read b i v (bk S.D.now (96+i))) M::R):=by
 have h1:=h.aS;unfold zQ at h1;rw[hb]at h1;have hi2:i≤100000:=by have:=hC.l8.few;omega
 have hl:=zK i w;have c1:=h1.bC 0 rfl 1;have c0:=h1.bC 0 rfl 0;simp only[gA,gB,gC]at c0 c1;have hrd:=qL (i:=i) (R:=jG f q S none (.map (some a.fb)) false::M::R) hC.l8 hC.big (by omega) hC.on ((Sep.bZ [3,1,2,0] h1 (by decide) (by simp)).drop 1);have hSM:=hC.none hb;have hend:∀W v,Sep w0 W (aH v (bk S.D.now (96+i))::aD q p false::aJ p S.D::jG f q S none (.map (some a.fb)) false::M::R)→
   W.cell? ⟨f,1,none⟩=some (.map none)∧(W.alloc (.map #[] 0)).frozen? ⟨f,1,none⟩=false∧(W.alloc (.map #[] 0)).cell? ⟨f,1,none⟩=some (.map none)∧
   ((W.alloc (.map #[] 0)).setCell ⟨f,1,none⟩ (.map (some W.heap.size))).cell? ⟨f,1,none⟩=some (.map (some W.heap.size))∧∃st w1 w2,(Instr.mapEntry 98 (.map (some W.heap.size)) (.int .i64 i)).run Tryz.prog ((W.alloc (.map #[] 0)).setCell ⟨f,1,none⟩ (.map (some W.heap.size)))= .ok (.tuple #[.slice none 0 0,.int .i64 st]) w1∧(Instr.entryStore 98 (.map (some W.heap.size)) (.int .i64 st) v).run Tryz.prog w1= .ok () w2∧Sep w0 w2 (vI f q p S (a.read W.heap.size i v (bk S.D.now (96+i))) M::R):=fun W v hS=>by
  have k1:=hS.bC 3 rfl 1;have h2:=hS.sS;have k2:=h2.bC 4 rfl 1;have k3:=h2.bF 4 rfl 1;have h3:=h2.bS 4 rfl 1 (.map (some W.heap.size));have k4:=h3.bC 4 rfl 1;simp only[gA,gB,gC]at k1 k2;refine⟨k1,k3,k2,?_,?_⟩
  ·rw[k4];rfl
  have h4:Sep w0 ((W.alloc (.map #[] 0)).setCell ⟨f,1,none⟩ (.map (some W.heap.size))) (iI W.heap.size []::aH v (bk S.D.now (96+i))::jG f q S (some W.heap.size) (.map (some a.fb)) false::aD q p false::aJ p S.D::M::R):=Sep.bZ [0,1,4,2,3] h3 (by decide) (by simp);obtain⟨st,w1,w2,r1,r2,h5⟩:=h4.wN (k:=i) hi2 (by simp) rfl;refine⟨st,w1,w2,r1,r2,?_⟩;(have h6:Sep w0 w2 (zQ f q p S (a.read W.heap.size i v (bk S.D.now (96+i))) M++R):=by unfold zQ VA.read;rw[hSM];exact Sep.bZ [1,2,3,0] h5 (by decide) (by simp));exact h6.bM
 clear hC hi2 hi h h1;have hm0:=LM;have hmm:= @run_makeMap Tryz.prog;go_enter Tryz.func136,Tryz.ntmps136;go_wp2_with(first |(go_at_call 172;refine hrd.mono ?_;rintro e w9 ⟨v,rfl,h9⟩;obtain⟨k1,k2,k3,k4,st,w1,w2,r1,r2,h7⟩:=hend _ _ h9;clear c1)|(go_at_call 43;refine(dI _ _).mono ?_;rintro e w8 ⟨rfl,h8⟩;obtain rfl:=h8.symm));go_ret;exact⟨_,_,rfl,h7⟩
theorem aeD {i:Nat} {M:aU} (hC:VC S a) (hi:i<S.nb-96) (h:Sep w0 w (vI f q p S a M::R)):
  Calls Tryz.prog 136 #[.pointer (some ⟨f,0,none⟩),.int .i64 i] w fun e w'=>∃v a',e= .returned v∧Reads S a a'∧bV a'.SM i=some (v,bk S.D.now (96+i))∧Sep w0 w' (vI f q p S a' M::R):=by
 cases hf:bV a.SM i with
 |some x=>have hx:=hC.seen _ (jL hf);refine(aeB hC hi (v:=x.1) (bs:=x.2) hf h).mono ?_;rintro e w' ⟨rfl,rfl⟩;refine⟨_,a,rfl,.refl hC,?_,h⟩;have h2:x.2=bk S.D.now (96+i):=hx.2;rw[hf,←h2]
 |none=>
  have key:∀b v,Reads S a (a.read b i v (bk S.D.now (96+i)))∧bV (a.read b i v (bk S.D.now (96+i))).SM i=some (v,bk S.D.now (96+i)):=fun b v=>
   ⟨⟨hC.read b v hi,rfl,rfl,fun k x hx=>BR hx⟩,BQ hf⟩
  cases hb:a.sb with
  |some b=>refine(Z6 hC hi hf hb h).mono ?_;rintro e w' ⟨v,rfl,h9⟩;exact⟨v,_,rfl,(key b v).1,(key b v).2,h9⟩
  |none=>refine(aeC hC hi hb h).mono ?_;rintro e w' ⟨v,b,rfl,h9⟩;exact⟨v,_,rfl,(key b v).1,(key b v).2,h9⟩
end
end Go.Proofs.YteihmbaimbogaaaGreat
namespace Go.Proofs
open Go.Shelf
def Tryz.sortPuts_ren :Go.Shelf.Ren:=⟨fun|6=>142|15=>126|14=>174|28=>167|29=>168|20=>187|21=>188|22=>189|23=>190|24=>191|25=>192|26=>193|27=>194|46=>198|47=>181|48=>182|49=>199|50=>200|57=>202|n=>n,fun|22=>188|24=>190|25=>192|3=>3|39=>175|0=>0|53=>213|55=>215|4=>4|46=>205|45=>204|50=>210|5=>5|9=>9|66=>225|70=>229|76=>237|77=>122|n=>n,fun|n=>n⟩
theorem Tryz.sortPuts :Go.Proofs.SlLaysF0.n6 Tryz.prog Tryz.sortPuts_ren:= {
 mixed:=by kernel_rfl
 f6:=⟨Tryz.f142.name,by decide,Tryz.func142.trans (congrArg some (by kernel_rfl))⟩
 f14:=⟨Tryz.f174.name,by decide,Tryz.func174.trans (congrArg some (by kernel_rfl))⟩
 f15:=Tryz.func126.trans (congrArg some (by kernel_rfl))
 f20:=⟨Tryz.f187.name,by decide,Tryz.func187.trans (congrArg some (by kernel_rfl))⟩
 f21:=⟨Tryz.f188.name,by decide,Tryz.func188.trans (congrArg some (by kernel_rfl))⟩
 f22:=⟨Tryz.f189.name,by decide,Tryz.func189.trans (congrArg some (by kernel_rfl))⟩
 f23:=⟨Tryz.f190.name,by decide,Tryz.func190.trans (congrArg some (by kernel_rfl))⟩
 f24:=⟨Tryz.f191.name,by decide,Tryz.func191.trans (congrArg some (by kernel_rfl))⟩
 f25:=⟨Tryz.f192.name,by decide,Tryz.func192.trans (congrArg some (by kernel_rfl))⟩
 f26:=⟨Tryz.f193.name,by decide,Tryz.func193.trans (congrArg some (by kernel_rfl))⟩
 f27:=⟨Tryz.f194.name,by decide,Tryz.func194.trans (congrArg some (by kernel_rfl))⟩
 f28:=Tryz.func167.trans (congrArg some (by kernel_rfl))
 f29:=Tryz.func168.trans (congrArg some (by kernel_rfl))
 f46:=⟨Tryz.f198.name,by decide,Tryz.func198.trans (congrArg some (by kernel_rfl))⟩
 f47:=Tryz.func181.trans (congrArg some (by kernel_rfl))
 f48:=Tryz.func182.trans (congrArg some (by kernel_rfl))
 f49:=⟨Tryz.f199.name,by decide,Tryz.func199.trans (congrArg some (by kernel_rfl))⟩
 f50:=⟨Tryz.f200.name,by decide,Tryz.func200.trans (congrArg some (by kernel_rfl))⟩
 f57:=⟨Tryz.f202.name,by decide,Tryz.func202.trans (congrArg some (by kernel_rfl))⟩
 t0:=Tryz.underlying0
 a0:=Tryz.isAgg0
 z0:=Tryz.sizeOf0
 v0:=Tryz.zeroValue0
 t3:=Tryz.underlying3
 a3:=Tryz.isAgg3
 z3:=Tryz.sizeOf3
 v3:=Tryz.zeroValue3
 t4:=Tryz.underlying4
 a4:=Tryz.isAgg4
 z4:=Tryz.sizeOf4
 v4:=Tryz.zeroValue4
 t5:=Tryz.underlying5
 a5:=Tryz.isAgg5
 z5:=Tryz.sizeOf5
 v5:=Tryz.zeroValue5
 t9:=Tryz.underlying9
 a9:=Tryz.isAgg9
 z9:=Tryz.sizeOf9
 v9:=Tryz.zeroValue9
 t22:=Tryz.underlying188
 a22:=Tryz.isAgg188
 z22:=Tryz.sizeOf188
 v22:=Tryz.zeroValue188
 t25:=Tryz.underlying192
 a25:=Tryz.isAgg192
 z25:=Tryz.sizeOf192
 v25:=Tryz.zeroValue192
 t39:=Tryz.underlying175
 a39:=Tryz.isAgg175
 z39:=Tryz.sizeOf175
 v39:=Tryz.zeroValue175
 t45:=Tryz.underlying204
 a45:=Tryz.isAgg204
 z45:=Tryz.sizeOf204
 v45:=Tryz.zeroValue204
 t46:=Tryz.underlying205
 a46:=Tryz.isAgg205
 z46:=Tryz.sizeOf205
 v46:=Tryz.zeroValue205
 t50:=Tryz.underlying210
 a50:=Tryz.isAgg210
 z50:=Tryz.sizeOf210
 v50:=Tryz.zeroValue210
 t53:=Tryz.underlying213
 a53:=Tryz.isAgg213
 z53:=Tryz.sizeOf213
 v53:=Tryz.zeroValue213
 t55:=Tryz.underlying215
 a55:=Tryz.isAgg215
 z55:=Tryz.sizeOf215
 v55:=Tryz.zeroValue215
 t66:=Tryz.underlying225
 a66:=Tryz.isAgg225
 z66:=Tryz.sizeOf225
 v66:=Tryz.zeroValue225
 t70:=Tryz.underlying229
 a70:=Tryz.isAgg229
 z70:=Tryz.sizeOf229
 v70:=Tryz.zeroValue229
 t76:=Tryz.underlying237
 a76:=Tryz.isAgg237
 z76:=Tryz.sizeOf237
 v76:=Tryz.zeroValue237
 t77:=Tryz.underlying122
 a77:=Tryz.isAgg122
 z77:=Tryz.sizeOf122
 v77:=Tryz.zeroValue122}
def Tryz.sortStrings_ren :Go.Shelf.Ren:=⟨fun|6=>70|8=>126|9=>125|19=>167|20=>168|21=>158|22=>159|23=>160|24=>161|25=>162|26=>163|27=>164|28=>165|29=>166|36=>180|31=>181|32=>182|37=>183|38=>184|39=>185|41=>196|n=>n,fun|27=>52|29=>9|3=>3|32=>175|26=>52|0=>0|44=>213|46=>215|4=>4|36=>205|35=>204|41=>210|5=>5|9=>9|53=>225|57=>229|63=>237|64=>122|n=>n,fun|n=>n⟩
theorem Tryz.sortStrings :Go.Proofs.SlLaysM.n6 Tryz.prog Tryz.sortStrings_ren:= {
 mixed:=by kernel_rfl
 f6:=⟨Tryz.f70.name,by decide,Tryz.func70.trans (congrArg some (by kernel_rfl))⟩
 f8:=Tryz.func126.trans (congrArg some (by kernel_rfl))
 f9:=⟨Tryz.f125.name,by decide,Tryz.func125.trans (congrArg some (by kernel_rfl))⟩
 f19:=Tryz.func167.trans (congrArg some (by kernel_rfl))
 f20:=Tryz.func168.trans (congrArg some (by kernel_rfl))
 f21:=⟨Tryz.f158.name,by decide,Tryz.func158.trans (congrArg some (by kernel_rfl))⟩
 f22:=⟨Tryz.f159.name,by decide,Tryz.func159.trans (congrArg some (by kernel_rfl))⟩
 f23:=⟨Tryz.f160.name,by decide,Tryz.func160.trans (congrArg some (by kernel_rfl))⟩
 f24:=⟨Tryz.f161.name,by decide,Tryz.func161.trans (congrArg some (by kernel_rfl))⟩
 f25:=⟨Tryz.f162.name,by decide,Tryz.func162.trans (congrArg some (by kernel_rfl))⟩
 f26:=⟨Tryz.f163.name,by decide,Tryz.func163.trans (congrArg some (by kernel_rfl))⟩
 f27:=⟨Tryz.f164.name,by decide,Tryz.func164.trans (congrArg some (by kernel_rfl))⟩
 f28:=⟨Tryz.f165.name,by decide,Tryz.func165.trans (congrArg some (by kernel_rfl))⟩
 f29:=⟨Tryz.f166.name,by decide,Tryz.func166.trans (congrArg some (by kernel_rfl))⟩
 f31:=Tryz.func181.trans (congrArg some (by kernel_rfl))
 f32:=Tryz.func182.trans (congrArg some (by kernel_rfl))
 f36:=⟨Tryz.f180.name,by decide,Tryz.func180.trans (congrArg some (by kernel_rfl))⟩
 f37:=⟨Tryz.f183.name,by decide,Tryz.func183.trans (congrArg some (by kernel_rfl))⟩
 f38:=⟨Tryz.f184.name,by decide,Tryz.func184.trans (congrArg some (by kernel_rfl))⟩
 f39:=⟨Tryz.f185.name,by decide,Tryz.func185.trans (congrArg some (by kernel_rfl))⟩
 f41:=⟨Tryz.f196.name,by decide,Tryz.func196.trans (congrArg some (by kernel_rfl))⟩
 t0:=Tryz.underlying0
 a0:=Tryz.isAgg0
 z0:=Tryz.sizeOf0
 v0:=Tryz.zeroValue0
 t3:=Tryz.underlying3
 a3:=Tryz.isAgg3
 z3:=Tryz.sizeOf3
 v3:=Tryz.zeroValue3
 t4:=Tryz.underlying4
 a4:=Tryz.isAgg4
 z4:=Tryz.sizeOf4
 v4:=Tryz.zeroValue4
 t5:=Tryz.underlying5
 a5:=Tryz.isAgg5
 z5:=Tryz.sizeOf5
 v5:=Tryz.zeroValue5
 t9:=Tryz.underlying9
 a9:=Tryz.isAgg9
 z9:=Tryz.sizeOf9
 v9:=Tryz.zeroValue9
 t26:=Tryz.underlying52
 a26:=Tryz.isAgg52
 z26:=Tryz.sizeOf52
 v26:=Tryz.zeroValue52
 t27:=Tryz.underlying52
 a27:=Tryz.isAgg52
 z27:=Tryz.sizeOf52
 v27:=Tryz.zeroValue52
 t29:=Tryz.underlying9
 a29:=Tryz.isAgg9
 z29:=Tryz.sizeOf9
 v29:=Tryz.zeroValue9
 t32:=Tryz.underlying175
 a32:=Tryz.isAgg175
 z32:=Tryz.sizeOf175
 v32:=Tryz.zeroValue175
 t35:=Tryz.underlying204
 a35:=Tryz.isAgg204
 z35:=Tryz.sizeOf204
 v35:=Tryz.zeroValue204
 t36:=Tryz.underlying205
 a36:=Tryz.isAgg205
 z36:=Tryz.sizeOf205
 v36:=Tryz.zeroValue205
 t41:=Tryz.underlying210
 a41:=Tryz.isAgg210
 z41:=Tryz.sizeOf210
 v41:=Tryz.zeroValue210
 t44:=Tryz.underlying213
 a44:=Tryz.isAgg213
 z44:=Tryz.sizeOf213
 v44:=Tryz.zeroValue213
 t46:=Tryz.underlying215
 a46:=Tryz.isAgg215
 z46:=Tryz.sizeOf215
 v46:=Tryz.zeroValue215
 t53:=Tryz.underlying225
 a53:=Tryz.isAgg225
 z53:=Tryz.sizeOf225
 v53:=Tryz.zeroValue225
 t57:=Tryz.underlying229
 a57:=Tryz.isAgg229
 z57:=Tryz.sizeOf229
 v57:=Tryz.zeroValue229
 t63:=Tryz.underlying237
 a63:=Tryz.isAgg237
 z63:=Tryz.sizeOf237
 v63:=Tryz.zeroValue237
 t64:=Tryz.underlying122
 a64:=Tryz.isAgg122
 z64:=Tryz.sizeOf122
 v64:=Tryz.zeroValue122}
def Tryz.lastIndexByte_ren :Go.Shelf.Ren:=⟨fun|149=>152|222=>176|n=>n,fun|9=>9|5=>5|3=>3|4=>4|n=>n,fun|n=>n⟩
theorem Tryz.lastIndexByte :Go.Proofs.Lays.n149 Tryz.prog Tryz.lastIndexByte_ren:= {
 mixed:=by kernel_rfl
 f149:=Tryz.func152.trans (congrArg some (by kernel_rfl))
 f222:=Tryz.func176.trans (congrArg some (by kernel_rfl))
 t3:=Tryz.underlying3
 a3:=Tryz.isAgg3
 z3:=Tryz.sizeOf3
 v3:=Tryz.zeroValue3
 t4:=Tryz.underlying4
 a4:=Tryz.isAgg4
 z4:=Tryz.sizeOf4
 v4:=Tryz.zeroValue4
 t5:=Tryz.underlying5
 a5:=Tryz.isAgg5
 z5:=Tryz.sizeOf5
 v5:=Tryz.zeroValue5
 t9:=Tryz.underlying9
 a9:=Tryz.isAgg9
 z9:=Tryz.sizeOf9
 v9:=Tryz.zeroValue9}
def Tryz.indexByte_ren :Go.Shelf.Ren:=⟨fun|137=>179|217=>195|266=>201|n=>n,fun|9=>9|5=>5|3=>3|n=>n,fun|n=>n⟩
theorem Tryz.indexByte :Go.Proofs.Lays.n137 Tryz.prog Tryz.indexByte_ren:= {
 mixed:=by kernel_rfl
 f137:=Tryz.func179.trans (congrArg some (by kernel_rfl))
 f217:=Tryz.func195.trans (congrArg some (by kernel_rfl))
 f266:=Tryz.func201.trans (congrArg some (by kernel_rfl))
 t3:=Tryz.underlying3
 a3:=Tryz.isAgg3
 z3:=Tryz.sizeOf3
 v3:=Tryz.zeroValue3
 t5:=Tryz.underlying5
 a5:=Tryz.isAgg5
 z5:=Tryz.sizeOf5
 v5:=Tryz.zeroValue5
 t9:=Tryz.underlying9
 a9:=Tryz.isAgg9
 z9:=Tryz.sizeOf9
 v9:=Tryz.zeroValue9}
end Go.Proofs
namespace Go.Proofs.YteihmbaimbogaaaGreat
open Go.RowKit Go.Sort
set_option linter.unusedVariables false
set_option linter.unusedSimpArgs false
theorem Sep.ai6 {w0 w:World} {As:List aU} {e:TypeId} {sz g m cap:Nat} {cs:List Value} (k:Nat) (h:Sep w0 w As)
  (hi:As[k]? =some (.sl e sz (.slice (some ⟨g,0,none⟩) m cap) m cs)) (n:Nat) (F:Array Value) (hF0:F.size=m*sz) (os:Array Obj):
  Sep w0 (Go.Proofs.sortWorld id w g 0 n F os) (As.set k (.sl e sz (.slice (some ⟨g,0,none⟩) m cap) m F.toList)):=by
 have hhp:∀b,b<w.heap.size→(Go.Proofs.sortWorld id w g 0 n F os).heap[b]? =if g=b then w.heap[b]?.map (Go.Sort.onCells (Go.Sort.putCells id 0 F))else w.heap[b]? :=fun b hb=>by unfold Go.Proofs.sortWorld Go.Sort.grow Go.Sort.putRow Go.Sort.mapBlock Go.Sort.ahead;simp only;rw[Array.getElem?_append_left (by simpa using hb),Array.getElem?_modify]
 refine h.step k hi fun F' ⟨ho,hF⟩ _=>⟨F',⟨⟨by simp[hF0],?_⟩,hF⟩,fun b hb=>.inl hb,?_⟩
 ·rcases ho.2 with⟨h',_⟩|⟨g',cap',cur,h',hb,hg,hc,hm,hs,ht⟩
  ·simp at h'
  simp only[Value.slice.injEq,Option.some.injEq,Addr.mk.injEq,and_true,true_and]at h';obtain⟨rfl,rfl⟩:=h';refine .inr ⟨g,cap,Go.Sort.putCells id 0 F cur,rfl,hb,?_,hc,hm,by simpa[Go.Sort.putCells]using hs,?_⟩
  ·rw[hhp g (lt_of_heap hg),if_pos rfl,hg];rfl
  (have hle:m*sz≤cur.size:=by rw[hs];exact Nat.mul_le_mul_right _ hc);apply List.ext_getElem?;intro i;by_cases hi:i<m*sz
  ·(have hc2:i<cur.size:=by omega);simp[Go.Sort.putCells,hF0,hi,hc2]
  rw[List.getElem?_eq_none (by simp;omega),List.getElem?_eq_none (by simp;omega)]
 refine⟨rfl,rfl,rfl,by simp[Go.Proofs.sortWorld,Go.Sort.grow,Go.Sort.putRow,Go.Sort.mapBlock,Go.Sort.ahead],fun b hb hn=>?_⟩;rw[hhp b hb,if_neg];intro e;subst e;exact hn (by rw[hF];simp[Value.ownBlock])
theorem flat_get {α:Type} {enc:α→List Value} {k:Nat} (hk:∀x,(enc x).length=k):∀(l:List α) (i j:Nat),j<k→(l.flatMap enc)[i*k+j]? =(l[i]?).bind fun x=>(enc x)[j]?
 |[],i,j,_=>by simp
 |x::l,0,j,hj=>by rw[List.flatMap_cons,Nat.zero_mul,Nat.zero_add,List.getElem?_append_left (by rw[hk];exact hj)];rfl
 |x::l,i+1,j,hj=>by rw[List.flatMap_cons,List.getElem?_append_right (by rw[hk,Nat.succ_mul];omega),hk,show(i+1)*k+j-k=i*k+j by rw[Nat.succ_mul];omega];exact flat_get hk l i j hj
theorem QU {α:Type} {enc:α→List Value} {k:Nat} (hk:∀x,(enc x).length=k) (l:List α):(l.flatMap enc).length=l.length*k:=by
 induction l with
 |nil=>simp
 |cons x l ih=>rw[List.flatMap_cons,List.length_append,hk,ih,List.length_cons,Nat.succ_mul];omega
theorem GN {α:Type} [Inhabited α] {enc:α→List Value} {k:Nat} (hk:∀x,(enc x).length=k) (hk0:0<k) (d:Array α):(flatK enc k d).toList=d.toList.flatMap enc:=by
 apply List.ext_getElem?;intro t;by_cases ht:t<d.size*k
 ·(have e:t=t/k*k+t%k:=by rw[Nat.mul_comm];exact(Nat.div_add_mod t k).symm);have h1:t/k<d.size:=Nat.div_lt_of_lt_mul (by rw[Nat.mul_comm];exact ht);have h2:t%k<k:=Nat.mod_lt _ hk0;have h3:(d.toList.flatMap enc)[t]? =(enc (d[t/k]'h1))[t%k]? :=by
   conv=>lhs;rw[e]
   rw[flat_get hk _ _ _ h2];simp[h1]
  rw[h3];(have h4:t<(flatK enc k d).toList.length:=by simpa using ht);rw[gE h4,gE (by rw[hk];exact h2)];have:=get_flatK enc k d t ht;rw[getElem!_pos (flatK enc k d) t (by simpa using ht),getElem!_pos d (t/k) h1,getElem!_pos (enc _) (t%k) (by rw[hk];exact h2)]at this;simpa using this
 rw[List.getElem?_eq_none (by simp;omega),List.getElem?_eq_none (by rw[QU hk];simp;omega)]
def rT :Type:= {x:Nat×Value//x.1≤4096∧∃A n c,x.2= .slice A n c}
instance :Inhabited rT:=⟨⟨(0,.slice none 0 0),by decide,none,0,0,rfl⟩⟩
def oI (x:rT):List Value:=[.int .i64 (x.1.1:Nat),x.1.2]
def cfP (x y:rT):Int:=(x.1.1:Int)-y.1.1
theorem ltP (x y:rT):Go.Proofs.ltOf cfP x y=decide (x.1.1<y.1.1):=by unfold Go.Proofs.ltOf cfP;rw[Bool.eq_iff_iff,decide_eq_true_eq,decide_eq_true_eq];omega
theorem avV :Go.Sort.SWO (Go.Proofs.ltOf cfP):=⟨fun x=>by rw[ltP];simp,fun x y z h1 h2=>by rw[ltP]at*;simp at*;omega,fun x y z h1 h2=>by rw[ltP]at*;simp at*;omega⟩
theorem Z7 (w:World):(isAgg 190).run Tryz.prog w= .ok true w:=by kernel_rfl
theorem VM (w:World):(Go.sizeOf 190).run Tryz.prog w= .ok 2 w:=by kernel_rfl
set_option maxHeartbeats 1000000 in
theorem aeE (x y:rT) (W:World):Calls Tryz.prog 143 #[.agg #[.int .i64 (x.1.1:Nat),x.1.2],.agg #[.int .i64 (y.1.1:Nat),y.1.2]] W fun e w'=>e= .returned (.int .i64 (cfP x y))∧∃q os',w'=grow (W.drewN q) os':=by
 obtain⟨⟨xa,xv⟩,hx,A,n,c,e⟩:=x;obtain⟨⟨ya,yv⟩,hy,B,m,d,e2⟩:=y;simp only at hx hy e e2;subst e e2;have b1:(xa:Int)≤4096:=by omega
 have b2:(ya:Int)≤4096:=by omega
 unfold cfP;simp only;go_enter Tryz.func143,Tryz.ntmps143;go_wp2_with fail;go_ret;exact⟨rfl,0,_,by rw[alloc_eq_grow,alloc_eq_grow,grow_grow];rfl⟩
theorem Z8 {w0 w:World} {R:List aU} {v:Value} {P:List rT} (h:Sep w0 w (.sl 190 2 v P.length (P.flatMap oI)::R)) (hP:P.length≤5000):
  Calls Tryz.prog 142 #[v,.func (.func 143) #[] #[]] w fun e w'=>e= .returned (.tuple #[])∧∃P':List rT,P.Perm P'∧P'.Pairwise (fun x y=>x.1.1≤y.1.1)∧Sep w0 w' (.sl 190 2 v P.length (P'.flatMap oI)::R):=by
 rcases Nat.eq_zero_or_pos P.length with h0|hpos
 ·obtain rfl:P=[]:=List.eq_nil_of_length_eq_zero h0;obtain⟨A,cap,rfl,_⟩:=h.vB 0 rfl;have hcon:=Go.Proofs.AnyF.slices_SortFunc_none (P:=Tryz.prog) Go.Proofs.Tryz.sortPuts A cap (.func (.func 143) #[] #[]) w;change Calls Tryz.prog 142 _ _ _ at hcon;refine hcon.mono ?_;rintro e w' ⟨rfl,rfl⟩;exact⟨rfl,[],.refl _,.nil,h⟩
 obtain⟨g,cap,rfl,_,hg,hc1,hc2⟩:=h.iP 0 rfl hpos;have hk:∀x,(oI x).length=2:=fun _=>rfl
 have h1:∀x,∀v∈oI x,v.oneCell'=true:=fun x v hv=>by obtain⟨⟨xa,xv⟩,_,A,n,c,e⟩:=x;simp only at e;subst e;simp[oI]at hv;rcases hv with rfl|rfl<;>rfl
 have hH:HoldsK oI 2 w g 0 P.toArray:=fun j hj=>by rw[Nat.zero_add];(have hj':j<P.length*2:=by simpa using hj);refine⟨?_,h.frozenAt 0 rfl j⟩;rw[h.cellAt 0 rfl j (by omega),←GN hk (by decide) P.toArray];rw[getElem!_pos _ j hj];simp at hj ⊢
 have eg:∀args w,(callFunc 143 args).run Tryz.prog w= .ok (.enter 143 args) w:=Go.Proofs.enters_of Tryz.func143 (by kernel_rfl) rfl;have hcon:=Go.Proofs.AnyQ.slices_SortFunc Go.Proofs.Tryz.sortPuts 2 Z7 VM oI hk h1 cfP avV 143 #[] g 0 cap P.toArray w eg (fun _ _ _ _ x y=>aeE x y _) hH hg (by simp;omega);change Calls Tryz.prog 142 _ _ _ at hcon;simp only[List.size_toArray]at hcon;refine hcon.mono ?_;rintro e w' ⟨rfl,d',n,os,hp,hs,rfl⟩;have hds:d'.size=P.length:=hp.1;have hperm:P.Perm d'.toList:=by have h9:=hp.2.2;(have e1:d'.extract 0 P.length=d':=by rw[←hds];exact Array.extract_size);rw[e1]at h9;(have e2:(P.toArray.extract 0 P.length).toList=P:=by simp);rw[e2]at h9;exact h9.symm
 refine⟨rfl,d'.toList,hperm,?_,?_⟩
 ·rw[List.pairwise_iff_getElem];intro i j hi hj hij;have:=hs i j (by omega) hij (by simpa[hds]using hj);rw[ltP]at this;simp at this hi hj ⊢;rw[getElem!_pos d' i (by omega),getElem!_pos d' j (by omega)]at this;exact this
 have h5:=h.ai6 0 rfl n (flatK oI 2 d') (by simp[hds]) os;rw[GN hk (by decide)]at h5;exact h5
theorem aeF :(Tryz.prog.info? 190).map (fun i=>(i.zero,i.size,i.bytes))=some (some (.agg #[.int .i64 0,.slice none 0 0]),2,32):=by kernel_rfl
def qN (S:VS) (x:Nat×Value×List UInt8):Bool:= !(x.2.2==bk S.D.now (96+x.1))
abbrev KP (fb r:Nat) (FM Ms:BM):aU:=tK 3 fb r (fC FM).length (fC FM) (fC Ms)
section
variable {w0 w:World} {R:List aU} {f q p:Nat} {S:VS} {a:VA}
theorem Sep.VN {A B C:aU} (h:Sep w0 w (C::vI f q p S a (.star A B)::R)):Sep w0 w (A::B::jG f q S a.sb (.map (some a.fb)) false::aD q p false::aJ p S.D::dH a.sb a.SM::C::R):=by have h1:Sep w0 w (zQ f q p S a (.star A B)++(C::R)):=(h.perm (List.Perm.swap _ _ _)).aS;have h2:Sep w0 w (.star A B::jG f q S a.sb (.map (some a.fb)) false::aD q p false::aJ p S.D::dH a.sb a.SM::C::R):=Sep.bZ [4,0,1,2,3,5] h1 (by decide) (by simp[zQ]);exact h2.gX
theorem Sep.alT {A B C:aU} (h:Sep w0 w (A::B::jG f q S a.sb (.map (some a.fb)) false::aD q p false::aJ p S.D::dH a.sb a.SM::C::R)):Sep w0 w (C::vI f q p S a (.star A B)::R):=by have h2:=h.jU;have h3:Sep w0 w (zQ f q p S a (.star A B)++(C::R)):=Sep.bZ [1,2,3,4,0,5] h2 (by decide) (by simp);exact(h3.bM).perm (List.Perm.swap _ _ _)
theorem Sep.YE {M:BM} {x:Nat×Value×List UInt8} (h:Sep w0 w (.bX (dC M)::R)) (hx:x∈M):BytesAt w x.2.1 x.2.2:=by have h2:Sep w0 w (dC M++R):=h.aS;obtain⟨j,hj,e⟩:=List.getElem_of_mem hx;exact h2.rd (sz:=1) (e:=5) j (by rw[List.getElem?_append_left (by unfold dC;rw[List.length_map];exact hj)];unfold dC;rw[List.getElem?_map,gE hj,e];rfl)
theorem Sep.ai7 {M:aU} (h:Sep w0 w (vI f q p S a M::R)) {k:Nat} {v:Value} {bs:List UInt8} (hf:bV a.SM k=some (v,bs)) (hn:a.sb=none→a.SM=[]):BytesAt w v bs:=by
 have h1:=h.aS;cases hs:a.sb with
 |none=>rw[hn hs]at hf;cases hf
 |some b=>refine h1.U9 (b:=b) 3 ?_ hf;(show some (dH a.sb a.SM)=_);rw[hs];rfl
theorem Sep.GQ {As:List aU} {fb r:Nat} {FM Ms:BM} (h:Sep w0 w (KP fb r FM Ms::As)) (ty:TypeId):
  (Ms=[]∧(Instr.next (.pointer (some ⟨r,0,none⟩)) false ty).run Tryz.prog w= .ok (.tuple #[.bool false]) w)∨
  ∃x w',x∈Ms∧(Instr.next (.pointer (some ⟨r,0,none⟩)) false ty).run Tryz.prog w= .ok (.tuple #[.bool true,.int .i64 (x.1:Nat),x.2.1]) w'∧Sep w0 w' (KP fb r FM (eY Ms x.1)::As)∧(Instr.entry (.pointer (some ⟨r,0,none⟩))).run Tryz.prog w'= .ok (.tuple #[.int .i64 (x.1:Nat),x.2.1]) w':=by
 rcases h.QV 0 rfl dX ty with⟨h1,h2⟩|⟨key,v,kl,w',h1,h2,h3,h4,_,h5⟩
 ·refine .inl ⟨?_,h2⟩;unfold fC at h1;exact List.map_eq_nil_iff.1 h1
 right;unfold fC at h2;obtain⟨x,hx,e⟩:=List.mem_map.1 h2;obtain⟨y,e1,e2,_⟩:=Maps.keyOf_int_inv Tryz.underlying3 h1;injection e with e3 e4;rw[e2]at e3;unfold zI at e3;injection e3 with _ e5;subst e5 e4;subst e1;refine⟨x,w',hx,h3,?_,h5⟩;have e6:kl=zI x.1:=e2;rw[e6,QG]at h4;exact h4
theorem LZ {M:BM} {x:Nat×Value×List UInt8} (hn:(M.map (·.1)).Nodup) (hx:x∈M):M.Perm (x::eY M x.1):=by
 induction M with
 |nil=>cases hx
 |cons y M ih=>
  rw[List.map_cons,List.nodup_cons]at hn;rcases List.mem_cons.1 hx with rfl|hx
  ·(have e:eY (x::M) x.1=M:=by unfold eY;rw[List.filter_cons];simp only[beq_self_eq_true,Bool.not_true,Bool.false_eq_true,if_false];rw[List.filter_eq_self];intro z hz;simp only[Bool.not_eq_true',beq_eq_false_iff_ne];intro e;exact hn.1 (List.mem_map.2 ⟨z,hz,e⟩));rw[e]
  (have hne:y.1≠x.1:=fun e=>hn.1 (List.mem_map.2 ⟨x,hx,e.symm⟩));(have e:eY (y::M) x.1=y::eY M x.1:=by unfold eY;rw[List.filter_cons];simp[hne]);rw[e];exact(List.Perm.cons _ (ih hn.2 hx)).trans (List.Perm.swap _ _ _)
structure ER (f q p:Nat) (S:VS) (a:VA) (r:Nat) (w0 wr:World) (R:List aU) (v:Value) (Ms V:BM) (P:List rT) (b:VA):Prop where
 reads:Reads S a b
 perm:(V++Ms).Perm a.FM
 puts:P.map (·.1)=(V.filter (qN S)).map fun x=>(x.1,x.2.1)
 read:V≠[]→b.SM≠[]
 sep:Sep w0 wr (.sl 190 2 v P.length (P.flatMap oI)::vI f q p S b (.star (KP a.fb r a.FM Ms) (.bX (dC a.FM)))::R)
theorem ER.wT {r:Nat} {wr:World} {v:Value} {Ms V:BM} {P:List rT} {b:VA} {x:Nat×Value×List UInt8} (h:ER f q p S a r w0 wr R v Ms V P b) (hnd:(a.FM.map (·.1)).Nodup) (hx:x∈Ms):((V++[x])++eY Ms x.1).Perm a.FM∧(eY Ms x.1).length<Ms.length:=by
 have h1:((V++Ms).map (·.1)).Nodup:=(h.perm.map (·.1)).nodup_iff.2 hnd;rw[List.map_append,List.nodup_append]at h1;have h2:=LZ h1.2.1 hx;refine⟨?_,?_⟩
 ·rw[List.append_assoc];exact((List.Perm.append_left V h2).symm).trans h.perm
 have:=h2.length_eq;rw[List.length_cons]at this;omega
theorem QW {M:BM} {k:Nat} {y:Value×List UInt8} (h:bV M k=some y):M≠[]:=by rintro rfl;cases h
theorem ER.Z9 {r:Nat} {wr wr':World} {v v':Value} {Ms V:BM} {P:List rT} {b b2:VA} {x:Nat×Value×List UInt8} (h:ER f q p S a r w0 wr R v Ms V P b) (hnd:(a.FM.map (·.1)).Nodup) (hx:x∈Ms) (hd:qN S x=false) (hR:Reads S b b2) (hne:b2.SM≠[])
  (hs:Sep w0 wr' (.sl 190 2 v' P.length (P.flatMap oI)::vI f q p S b2 (.star (KP a.fb r a.FM (eY Ms x.1)) (.bX (dC a.FM)))::R)):ER f q p S a r w0 wr' R v' (eY Ms x.1) (V++[x]) P b2:=
 ⟨h.reads.trans hR,(h.wT hnd hx).1,by rw[h.puts,List.filter_append,List.filter_cons,hd];simp,fun _=>hne,hs⟩
theorem ER.aaA {r:Nat} {wr wr':World} {v v':Value} {Ms V:BM} {P:List rT} {b b2:VA} {x:Nat×Value×List UInt8} {px:rT} (h:ER f q p S a r w0 wr R v Ms V P b) (hnd:(a.FM.map (·.1)).Nodup) (hx:x∈Ms) (hd:qN S x=true) (hpx:px.1=(x.1,x.2.1)) (hR:Reads S b b2) (hne:b2.SM≠[])
  (hs:Sep w0 wr' (.sl 190 2 v' (P.length+1) (P.flatMap oI++oI px)::vI f q p S b2 (.star (KP a.fb r a.FM (eY Ms x.1)) (.bX (dC a.FM)))::R)):ER f q p S a r w0 wr' R v' (eY Ms x.1) (V++[x]) (P++[px]) b2:=
 ⟨h.reads.trans hR,(h.wT hnd hx).1,by rw[List.map_append,h.puts,List.filter_append,List.filter_cons,hd];simp[hpx],fun _=>hne,by rw[List.length_append,List.flatMap_append];simp only[List.length_singleton,List.flatMap_cons,List.flatMap_nil,List.append_nil];exact hs⟩
end
end Go.Proofs.YteihmbaimbogaaaGreat
