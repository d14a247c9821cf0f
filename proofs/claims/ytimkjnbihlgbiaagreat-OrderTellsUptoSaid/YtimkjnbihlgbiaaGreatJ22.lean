/- ModelDG, laid together. -/
import Derived.Test.YtimkjnbihlgbiaaGreatJ21
namespace Go.Proofs.YtimkjnbihlgbiaaGreat
open Go.RowKit
set_option linter.unusedVariables false
def fullE (two:Bool) (Ns:List TN) (p tz:List UInt8):Int:=
 if two=true then(if fileE Ns p=0 then(if absentE Ns tz=0 then 31 else absentE Ns tz)else fileE Ns p)else(if absentE Ns p=0 then 31 else absentE Ns p)
section
variable {w0 w:World} {W bn bf bk next:Nat} {Ns:List TN} {Fs:List FEnt} {Lk:List (Lit×Value)} {R:List Asn}
theorem GW_pops {S:List Asn} {st:WSt} (h:GW w0 w W bn bf bk (R++S) st):GW w0 w W bn bf bk R st:=by obtain⟨Fs,Lk,h1,h2,h3⟩:=h;have h4:=Sep.drop S.length (gAs_pops h3);rw[List.drop_left]at h4;exact⟨Fs,Lk,h1,h2,h4⟩
theorem firstP_ok {rm rt:Bool} {op:Int} {p tz:List UInt8} {mode ref:Int} {cs:List Value} (h:firstP rm rt op p tz mode ref cs=0):
  validL p=true∧(rt=true→validL tz=true)∧(rm=true→0≤mode∧mode≤511)∧(op=6→0≤ref∧ref<(cs.length:Int)∧dvLen (cs.getD ref.toNat (.slice none 0 0))≤8192):=by
 unfold firstP at h;split at h
 ·cases h
 rename_i h1;split at h
 ·cases h
 split at h
 ·cases h
 rename_i h3;refine⟨?_,fun e=>?_,fun e=>?_,fun e=>?_⟩
 ·cases hv:validL p with
  |true=>rfl
  |false=>exact absurd (Or.inl hv) h3
 ·cases hv:validL tz with
  |true=>rfl
  |false=>exact absurd (Or.inr ⟨e,hv⟩) h3
 ·refine⟨?_,?_⟩
  ·rcases Int.lt_or_le mode 0 with h5|h5
   ·exact absurd ⟨e,Or.inl h5⟩ h1
   exact h5
  rcases Int.lt_or_le 511 mode with h5|h5
  ·exact absurd ⟨e,Or.inr h5⟩ h1
  exact h5
 rw[if_pos e]at h;split at h
 ·cases h
 rename_i h5;split at h
 ·cases h
 rename_i h6;omega
set_option maxRecDepth 100000 in
theorem full_one {op:Int} (hop:¬op=4∧¬op=7) (hS:Sep w0 w (gAs W bn bf bk next Ns Fs Lk R)) {p tz:List UInt8} (mode ref:Int) (hp:validL p=true) (hp9:p.length≤1048576):
  Calls Tryz.prog 88 #[.pointer (some ⟨W,0,none⟩),insV op p tz mode ref] w fun e w'=>e= .returned (.int .i64 (fullE false Ns p tz))∧Sep w0 w' (gAs W bn bf bk next Ns Fs Lk R):=by
 have ha:=valid_ascii hp;have hS0:=hS.bN 49 (insC op p tz mode ref);have c0:=hS0.bC 0 rfl 0;have c1:=hS0.bC 0 rfl 1;have c2:=hS0.bC 0 rfl 2;simp only[insC,strV,gA,gB,gC]at c0 c1 c2;unfold fullE;have hX:=gAs_push hS0;have hX':=Lh hX;clear hX;rw[if_neg (by decide)];have hab:=fun(W':World) (h:Sep w0 W' (gAs W bn bf bk next Ns Fs Lk (R++[.box w.heap.size 49 (insC op p tz mode ref)])))=>absent_g h hp9 ha
 generalize absentE Ns p=e2 at hab ⊢;have hab':=Lh hab;clear hab;have o4:(op==4)=false:=by simpa using hop.1
 have o7:(op==7)=false:=by simpa using hop.2
 clear hop;by_cases z2:e2=0
 ·subst z2;rw[if_pos rfl];unfold insC insV strV at*;clear hS hS0 ha;go_enter Tryz.func88,Tryz.ntmps88;go_wp2_with fail;go_quiet (fail);have hY':=Lh (hX'.out.drewN nq);go_wp2_with(go_at_call 137;refine(hab'.out _ hY'.out).mono ?_;rintro e w2 ⟨rfl,hS2⟩;replace hS2:=Lh hS2);go_ret;exact⟨rfl,insC_pop hS2.out⟩
 rw[if_neg z2];have z2b:(e2==0)=false:=by simpa using z2
 clear z2;unfold insC insV strV at*;clear hS hS0 ha;go_enter Tryz.func88,Tryz.ntmps88;go_wp2_with fail;go_quiet (fail);have hY':=Lh (hX'.out.drewN nq);go_wp2_with(go_at_call 137;refine(hab'.out _ hY'.out).mono ?_;rintro e w2 ⟨rfl,hS2⟩;replace hS2:=Lh hS2);go_ret;exact⟨rfl,insC_pop hS2.out⟩
set_option maxRecDepth 100000 in
theorem full_two {op:Int} (hop:op=4∨op=7) (hS:Sep w0 w (gAs W bn bf bk next Ns Fs Lk R)) {p tz:List UInt8} (mode ref:Int) (hp:validL p=true) (hp9:p.length≤1048576) (ht:validL tz=true) (ht9:tz.length≤1048576):
  Calls Tryz.prog 88 #[.pointer (some ⟨W,0,none⟩),insV op p tz mode ref] w fun e w'=>e= .returned (.int .i64 (fullE true Ns p tz))∧Sep w0 w' (gAs W bn bf bk next Ns Fs Lk R):=by
 have ha:=valid_ascii hp;have hat:=valid_ascii ht;have hS0:=hS.bN 49 (insC op p tz mode ref);have c0:=hS0.bC 0 rfl 0;have c1:=hS0.bC 0 rfl 1;have c2:=hS0.bC 0 rfl 2;simp only[insC,strV,gA,gB,gC]at c0 c1 c2;unfold fullE;have hX:=gAs_push hS0;have hX':=Lh hX;clear hX;rw[if_pos rfl];have hab:=fun(W':World) (h:Sep w0 W' (gAs W bn bf bk next Ns Fs Lk (R++[.box w.heap.size 49 (insC op p tz mode ref)])))=>absent_g h ht9 hat
 have hfa:=fun(W':World) (h:Sep w0 W' (gAs W bn bf bk next Ns Fs Lk (R++[.box w.heap.size 49 (insC op p tz mode ref)])))=>file_g h hp9 ha
 unfold nodeV at hfa;generalize(nodeL Ns p).file=fi at hfa;generalize(nodeL Ns p).mode=md at hfa;generalize fileE Ns p=e1 at hfa ⊢;generalize absentE Ns tz=e2 at hab ⊢;have hfa':=Lh hfa;have hab':=Lh hab;clear hfa hab;have hop4:(op==4)=true∨(op==4)=false∧(op==7)=true:=by rcases hop with rfl|rfl<;>simp
 clear hop;rcases hop4 with o4|⟨o4,o7⟩
 ·by_cases z1:e1=0
  ·subst z1;rw[if_pos rfl];by_cases z2:e2=0
   ·subst z2;rw[if_pos rfl];unfold insC insV strV at*;clear hS hS0 ha hat;go_enter Tryz.func88,Tryz.ntmps88;go_wp2_with fail;go_quiet (fail);have hY':=Lh (hX'.out.drewN nq);go_wp2_with(first |(go_at_call 136;refine(hfa'.out _ hY'.out).mono ?_;rintro e w1 ⟨rfl,hS1⟩;(have d1:=(gAs_pop hS1).bC 0 rfl 2);simp only[gA,gB,gC]at d1;replace hS1:=Lh hS1)|(go_at_call 137;refine(hab'.out _ hS1.out).mono ?_;rintro e w2 ⟨rfl,hS2⟩;replace hS2:=Lh hS2));go_ret;exact⟨rfl,insC_pop hS2.out⟩
   rw[if_neg z2];(have z2b:(e2==0)=false:=by simpa using z2);clear z2;unfold insC insV strV at*;clear hS hS0 ha hat;go_enter Tryz.func88,Tryz.ntmps88;go_wp2_with fail;go_quiet (fail);have hY':=Lh (hX'.out.drewN nq);go_wp2_with(first |(go_at_call 136;refine(hfa'.out _ hY'.out).mono ?_;rintro e w1 ⟨rfl,hS1⟩;(have d1:=(gAs_pop hS1).bC 0 rfl 2);simp only[gA,gB,gC]at d1;replace hS1:=Lh hS1)|(go_at_call 137;refine(hab'.out _ hS1.out).mono ?_;rintro e w2 ⟨rfl,hS2⟩;replace hS2:=Lh hS2));go_ret;exact⟨rfl,insC_pop hS2.out⟩
  rw[if_neg z1];(have z1b:(e1==0)=false:=by simpa using z1);clear z1;unfold insC insV strV at*;clear hS hS0 ha hat;go_enter Tryz.func88,Tryz.ntmps88;go_wp2_with fail;go_quiet (fail);have hY':=Lh (hX'.out.drewN nq);go_wp2_with(go_at_call 136;refine(hfa'.out _ hY'.out).mono ?_;rintro e w1 ⟨rfl,hS1⟩;(have d1:=(gAs_pop hS1).bC 0 rfl 2);simp only[gA,gB,gC]at d1;replace hS1:=Lh hS1);go_ret;exact⟨rfl,insC_pop hS1.out⟩
 by_cases z1:e1=0
 ·subst z1;rw[if_pos rfl];by_cases z2:e2=0
  ·subst z2;rw[if_pos rfl];unfold insC insV strV at*;clear hS hS0 ha hat;go_enter Tryz.func88,Tryz.ntmps88;go_wp2_with fail;go_quiet (fail);have hY':=Lh (hX'.out.drewN nq);go_wp2_with(first |(go_at_call 136;refine(hfa'.out _ hY'.out).mono ?_;rintro e w1 ⟨rfl,hS1⟩;(have d1:=(gAs_pop hS1).bC 0 rfl 2);simp only[gA,gB,gC]at d1;replace hS1:=Lh hS1)|(go_at_call 137;refine(hab'.out _ hS1.out).mono ?_;rintro e w2 ⟨rfl,hS2⟩;replace hS2:=Lh hS2));go_ret;exact⟨rfl,insC_pop hS2.out⟩
  rw[if_neg z2];(have z2b:(e2==0)=false:=by simpa using z2);clear z2;unfold insC insV strV at*;clear hS hS0 ha hat;go_enter Tryz.func88,Tryz.ntmps88;go_wp2_with fail;go_quiet (fail);have hY':=Lh (hX'.out.drewN nq);go_wp2_with(first |(go_at_call 136;refine(hfa'.out _ hY'.out).mono ?_;rintro e w1 ⟨rfl,hS1⟩;(have d1:=(gAs_pop hS1).bC 0 rfl 2);simp only[gA,gB,gC]at d1;replace hS1:=Lh hS1)|(go_at_call 137;refine(hab'.out _ hS1.out).mono ?_;rintro e w2 ⟨rfl,hS2⟩;replace hS2:=Lh hS2));go_ret;exact⟨rfl,insC_pop hS2.out⟩
 rw[if_neg z1];have z1b:(e1==0)=false:=by simpa using z1
 clear z1;unfold insC insV strV at*;clear hS hS0 ha hat;go_enter Tryz.func88,Tryz.ntmps88;go_wp2_with fail;go_quiet (fail);have hY':=Lh (hX'.out.drewN nq);go_wp2_with(go_at_call 136;refine(hfa'.out _ hY'.out).mono ?_;rintro e w1 ⟨rfl,hS1⟩;(have d1:=(gAs_pop hS1).bC 0 rfl 2);simp only[gA,gB,gC]at d1;replace hS1:=Lh hS1);go_ret;exact⟨rfl,insC_pop hS1.out⟩
end
end Go.Proofs.YtimkjnbihlgbiaaGreat
