/- FzL, laid together. -/
import Derived.Test.YteihmbaimbogaaaGreatJ49
namespace Go.Proofs.YteihmbaimbogaaaGreat
open Go.RowKit
set_option linter.unusedVariables false
set_option maxRecDepth 100000 in
set_option maxHeartbeats 4000000 in
theorem fills_all (b i s:Int) (w:World):Calls Tryz.prog 3 #[.int .i64 b,.int .i64 i,.int .i64 s] w fun e w'=>e= .returned (.bool true)∧Below w.heap.size w w':=by
 by_cases hr:b<1∨60<b∨i<2∨40<i∨s<0∨8192<s
 ·have hal:=Lh (JO (Sep.nil w));go_enter Tryz.func3,Tryz.ntmps3;go_wp2_with(go_at_call 12;refine hal.out.mono ?_;rintro e wn ⟨rfl,hS⟩;have h1:=Lh hS;clear hS hal);all_goals first |(exfalso;omega)|(go_ret;exact⟨rfl,h1.out.below⟩)
 obtain⟨b,rfl⟩:∃m:Nat,b=(m:Int):=⟨b.toNat,by omega⟩;obtain⟨i,rfl⟩:∃m:Nat,i=(m:Int):=⟨i.toNat,by omega⟩;obtain⟨s,rfl⟩:∃m:Nat,s=(m:Int):=⟨s.toNat,by omega⟩;exact ac0 (bs:=List.replicate s 0) (by simp) (by omega) (by omega) (by omega) (by omega) (by rw[List.length_replicate];omega) (by rw[List.map_replicate,List.length_replicate];rfl)
end Go.Proofs.YteihmbaimbogaaaGreat
