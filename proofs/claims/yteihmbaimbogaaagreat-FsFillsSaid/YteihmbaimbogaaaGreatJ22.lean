/- Path1, PathS, Shelf15, Path2, FuL, laid together. -/
import Derived.Test.YteihmbaimbogaaaGreatJ21
import Derived.Laws.RangeAny
import Derived.ScopeJumps
import Derived.WalkMore
import Derived.Lib.Strings
import Derived.Lib.SmallJoins
import Derived.Maps.AppendAt
import Derived.Shelf.Strings.Prefix
import Derived.Shelf.Small.Strs
import Derived.Shelf.Strconv.Itoa3
import Derived.Shelf.Strings.LastIndex
import Derived.Deep.DeepMust
namespace Go.Proofs.YteihmbaimbogaaaGreat
open Go.RowKit
set_option linter.unusedVariables false
def jN (c:Nat):Bool:=(decide (97≤c)&&decide (c≤122))||(decide (48≤c)&&decide (c≤57))||c==46||c==95||c==45
def dots (cur:List UInt8):Bool:=cur==[46]||cur==[46,46]
def yN :List UInt8→Nat→List UInt8→Bool
 |[],n,cur=>decide (0<cur.length)&& !dots cur&&decide (n≤6)
 |c::cs,n,cur=>
  if c=47 then(if cur.length=0∨dots cur=true then false else yN cs (n+1) [])
  else if jN c.toNat=false then false else if 14<cur.length+1 then false else yN cs n (cur++[c])
def aP (p:List UInt8):Bool:=yN p 1 []
theorem CG :∀(p:List UInt8) (n:Nat) (cur:List UInt8),cur.length≤14→yN p n cur=true→n≤6∧p.length+cur.length≤(6-n)*15+14
 |[],n,cur,hc,h=>by unfold yN at h;simp only[Bool.and_eq_true,decide_eq_true_eq]at h;have:=h.2;simp only[List.length_nil];omega
 |c::cs,n,cur,hc,h=>by
  unfold yN at h;split at h
  ·split at h
   ·cases h
   have ih:=CG cs (n+1) [] (by simp) h;simp only[List.length_nil,List.length_cons]at ih ⊢;(have e:6-n=(6-(n+1))+1:=by omega);rw[e,Nat.add_mul];omega
  split at h
  ·cases h
  split at h
  ·cases h
  have ih:=CG cs n (cur++[c]) (by simp;omega) h;simp only[List.length_append,List.length_cons,List.length_nil]at ih ⊢;omega
theorem kG {p:List UInt8} (h:aP p=true):p.length≤1048576:=by have h1:=(CG p 1 [] (by simp) h).2;simp only[List.length_nil]at h1;omega
set_option maxRecDepth 100000 in
set_option maxHeartbeats 4000000 in
theorem rV (s:ByteArray) (w:World) (hs:s.size≤9223372036854775807):
  Calls Tryz.prog 97 #[.string s] w fun e w'=>e= .returned (.bool (aP s.data.toList))∧Below w.heap.size w w':=by
 have bs:(s.size:Int)≤9223372036854775807:=by omega
 go_enter Tryz.func97,Tryz.ntmps97;go_wp2;refine wp_scope_jumps 0 (fun a' w'=>Hid (aP s.data.toList=false)∧Fm 80 a' [.string s]∧∃p,w'=w.iter s p) (fun _ _=>0) rfl ?_ ?_
 ·go_wp2;go_loopw[3,4,5] (fun v3 v4 v5 wr=>∃(pos n:Nat) (cb:ByteArray),wr=w.iter s pos∧v3= .int .i64 n∧v4= .int .i64 cb.size∧v5= .string cb∧cb.size≤14∧2*n+cb.size≤pos+2∧pos≤s.size∧Hid (aP s.data.toList=yN (s.data.toList.drop pos) n cb.data.toList))
   (fun _ _ _ wr=>s.size-wr.iterPos w.heap.size)
  case atStart=>exact⟨0,1,⟨#[]⟩,rfl,rfl,rfl,rfl,by decide,by decide,by omega,rfl⟩
  obtain⟨pos,n,cb,rfl,rfl,rfl,rfl,aBX,hn,hps,hv⟩:=hrel;(have b1:(n:Int)≤4611686018427387905:=by omega);(have b2:(cb.size:Int)≤14:=by omega);have htl:cb.toList=cb.data.toList:=Lib.toList_data cb;have hsz:cb.size=cb.data.toList.length:=Lib.size_eq cb;have hss:s.size=s.data.toList.length:=Lib.size_eq s;by_cases hp:pos<s.size
  case neg=>
   (have hnx:∀ty,(Instr.next (.pointer (some ⟨w.heap.size,0,none⟩)) true ty).run Tryz.prog (w.iter s pos)=_:=fun ty=>run_next_end w s pos ty hp);(have hv2:Hid (aP s.data.toList=(decide (0<cb.size)&& !dots cb.toList&&decide (n≤6))):=by have h:=hv.out;rw[List.drop_eq_nil_of_le (by omega),yN]at h;(show _=_);rw[h,hsz,htl]);have av2:=Lh htl;clear htl hv hsz hss;go_wp2;all_goals
    simp only[Exit.jump]
    go_ret
    refine⟨?_,(Below.refl _ _).alloc (Nat.le_refl _) _⟩
    rw[hv2.out]
    have e6:decide ((n:Int)≤6)=decide (n≤6):=decide_eq_decide.2 (by omega)
    congr 2
    simp[dots, *]
  obtain⟨c,hc⟩:∃c,c=s[pos]'hp:=⟨_,rfl⟩;(have hdr:s.data.toList.drop pos=c::s.data.toList.drop (pos+1):=by rw[List.drop_eq_getElem_cons (by omega),hc];rfl);have hv1:=hv.out;rw[hdr,yN]at hv1;have hcl:c.toNat<256:=c.toNat_lt;by_cases hasc:c.toNat<128
  case neg=>
   (have hnx:∀ty,(Instr.next (.pointer (some ⟨w.heap.size,0,none⟩)) true ty).run Tryz.prog (w.iter s pos)=_:=fun ty=>run_next_any w s pos ty hp);have hhi:=(decode_high s pos hp (by rw[←hc];omega)).1;have hle:=decode_le s pos;(have hbad:Hid (aP s.data.toList=false):=by(show _=_);rw[hv1,if_neg (by intro e;rw[e]at hasc;exact hasc (by decide)),if_pos (by unfold jN;simp;omega)]);generalize(Utf8.decode s pos).1=r at hnx hhi hle;generalize(Utf8.decode s pos).2=wd at hnx;(have q1:((r:Int)==47)=false:=by simp;omega);(have q2:((r:Int)==46)=false:=by simp;omega);(have q3:((r:Int)==95)=false:=by simp;omega);(have q4:((r:Int)==45)=false:=by simp;omega);(have q5:decide ((r:Int)≤122)=false:=by simp;omega);(have q6:decide ((r:Int)≤57)=false:=by simp;omega);(have q7:(97:Int)≤(r:Int):=by omega);(have q8:(48:Int)≤(r:Int):=by omega);clear hv hv1 hdr htl hsz hss;go_wp2
   go_step3
   exact⟨rfl,hbad,⟨rfl,rfl,rfl⟩,_,rfl⟩
  (have hnx:∀ty,(Instr.next (.pointer (some ⟨w.heap.size,0,none⟩)) true ty).run Tryz.prog (w.iter s pos)= .ok (.tuple #[.bool true,.int .i64 pos,.int .i32 (c.toNat:Nat)]) (w.iter s (pos+1)):=fun ty=>by rw[hc];exact run_next_ascii w s pos ty hp (by rw[←hc];exact hasc));have hcn:(c=47)↔c.toNat=47:=by
   constructor
   ·rintro rfl;rfl
   intro h;exact UInt8.toNat_inj.1 h
  have ML:pos+1≤s.size:=hp;by_cases h47:c=47
  case pos=>
   subst h47;rw[if_pos rfl]at hv1;have q47:((47:Nat):Int)=47:=rfl;have aBY:∀ty,(Instr.next (.pointer (some ⟨w.heap.size,0,none⟩)) true ty).run Tryz.prog (w.iter s pos)= .ok (.tuple #[.bool true,.int .i64 pos,.int .i32 47]) (w.iter s (pos+1)):=hnx;clear hnx hdr hcn hasc hcl hv;by_cases h0:cb.size=0
   case pos=>
    (have hbad:Hid (aP s.data.toList=false):=by(show _=_);rw[hv1,if_pos (.inl (by omega))]);have z0:((cb.size:Int)==0)=true:=beq_iff_eq.2 (by omega);have z1:cb.data.toList=[]:=List.eq_nil_of_length_eq_zero (by omega);clear hv1 htl hsz hss z1;go_wp2;all_goals
     go_step3
     exact⟨rfl,hbad,⟨rfl,rfl,rfl⟩,_,rfl⟩
   have z0:((cb.size:Int)==0)=false:=beq_eq_false_iff_ne.2 (by omega);by_cases hd:dots cb.data.toList=true
   case pos=>
    (have hbad:Hid (aP s.data.toList=false):=by(show _=_);rw[hv1,if_pos (.inr hd)]);(have hd2:cb.toList=[46]∨cb.toList=[46,46]:=by rw[htl];simpa[dots]using hd);clear hv1 htl hsz hss hd;(rcases hd2 with hd2|hd2);all_goals
     have hd3:=Lh hd2
     go_wp2
     all_goals
      go_step3
      exact⟨rfl,hbad,⟨rfl,rfl,rfl⟩,_,rfl⟩
   (have hd2:¬cb.toList=[46]∧¬cb.toList=[46,46]:=by rw[htl];simpa[dots]using hd);have hd3:(cb.toList==[46])=false:=beq_eq_false_iff_ne.2 hd2.1;have hd4:(cb.toList==[46,46])=false:=beq_eq_false_iff_ne.2 hd2.2;clear hd2;(have hnew:Hid (aP s.data.toList=yN (s.data.toList.drop (pos+1)) (n+1) []):=by(show _=_);rw[hv1,if_neg (by simp only[not_or];exact⟨by omega,hd⟩)]);clear hv1 htl hsz hss hd;go_wp2;go_roundw
   case rel=>exact⟨pos+1,n+1,⟨#[]⟩,rfl,by go_num,rfl,rfl,by decide,by show 2*(n+1)+0≤pos+1+2;omega,ML,hnew⟩
   case measure=>simp;omega
  rw[if_neg h47]at hv1;(have av3:c.toNat≠47:=fun e=>h47 (hcn.2 e));(have am7:(cb++s.extract pos (pos+1)).data.toList=cb.data.toList++[c]:=by rw[Go.Joins.data_append,Lib.extract_data,hdr];simp);(have aq2:(cb++s.extract pos (pos+1)).size=cb.size+1:=by rw[Lib.size_eq,am7,List.length_append,←hsz];rfl);have aq3:=Lh am7;have pM:=Lh aq2;clear am7 aq2;generalize hkk:c.toNat=k at hnx hasc av3 hv1;(have key:k<45∨k=45∨k=46∨(48≤k∧k≤57)∨(58≤k∧k≤94)∨k=95∨k=96∨(97≤k∧k≤122)∨123≤k:=by omega);by_cases hco:jN k=false
  case pos=>
   (have hbad:Hid (aP s.data.toList=false):=by(show _=_);rw[hv1,if_pos hco]);(have am8:¬(97≤k∧k≤122)∧¬(48≤k∧k≤57)∧k≠46∧k≠95∧k≠45:=by unfold jN at hco;simp at hco;omega);(have q47:((k:Int)==47)=false:=by simp;omega);(have q46:((k:Int)==46)=false:=by simp;omega);(have q95:((k:Int)==95)=false:=by simp;omega);(have q45:((k:Int)==45)=false:=by simp;omega);clear hv hv1 hdr htl hsz hss hcn hco hkk hc;(have av4:k<48∨(58≤k∧k≤96)∨123≤k:=by omega);clear key am8;rcases av4 with h|h|h
   ·(have q1:decide ((97:Int)≤(k:Int))=false:=by simp;omega);(have q2:decide ((48:Int)≤(k:Int))=false:=by simp;omega);go_wp2
    go_step3
    exact⟨rfl,hbad,⟨rfl,rfl,rfl⟩,_,rfl⟩
   ·(have q1:decide ((97:Int)≤(k:Int))=false:=by simp;omega);(have q2:decide ((48:Int)≤(k:Int))=true:=by simp;omega);(have q3:decide ((k:Int)≤57)=false:=by simp;omega);go_wp2
    go_step3
    exact⟨rfl,hbad,⟨rfl,rfl,rfl⟩,_,rfl⟩
   (have q1:decide ((97:Int)≤(k:Int))=true:=by simp;omega);(have q2:decide ((48:Int)≤(k:Int))=true:=by simp;omega);(have q3:decide ((k:Int)≤57)=false:=by simp;omega);(have q4:decide ((k:Int)≤122)=false:=by simp;omega);go_wp2
   go_step3
   exact⟨rfl,hbad,⟨rfl,rfl,rfl⟩,_,rfl⟩
  rw[if_neg hco]at hv1;(have am8:(97≤k∧k≤122)∨(48≤k∧k≤57)∨k=46∨k=95∨k=45:=by unfold jN at hco;simp at hco;omega);(have q47:((k:Int)==47)=false:=by simp;omega);(have hlong:Hid (14<cb.size+1→aP s.data.toList=false):=fun h=>by rw[hv1,if_pos (by omega)]);(have hok:Hid (¬14<cb.size+1→aP s.data.toList=yN (s.data.toList.drop (pos+1)) n (cb++s.extract pos (pos+1)).data.toList):=fun h=>by rw[hv1,if_neg (by omega),aq3.out]);clear hv hv1 hdr htl hsz hss hcn hco hkk hc key;have hlen:(14<cb.size+1)∨¬(14<cb.size+1):=Decidable.em _;rcases am8 with h|h|h|h|h
  ·(have q1:decide ((97:Int)≤(k:Int))=true:=by simp;omega);(have q2:decide ((k:Int)≤122)=true:=by simp;omega);rcases hlen with hl|hl
   ·have hbad:=Lh (hlong.out hl);(have q9:(14:Int)<(cb.size:Int)+1:=by omega);go_wp2
    go_step3
    exact⟨rfl,hbad,⟨rfl,rfl,rfl⟩,_,rfl⟩
   have hnew:=Lh (hok.out hl);(have q9:¬(14:Int)<(cb.size:Int)+1:=by omega);go_wp2;go_roundw
   case rel=>exact⟨pos+1,n,cb++s.extract pos (pos+1),rfl,rfl,by rw[pM.out];go_num,rfl,by rw[pM.out];omega,by rw[pM.out];omega,ML,hnew⟩
   case measure=>simp;omega
  ·(have q1:decide ((97:Int)≤(k:Int))=false:=by simp;omega);(have q2:decide ((48:Int)≤(k:Int))=true:=by simp;omega);(have q3:decide ((k:Int)≤57)=true:=by simp;omega);rcases hlen with hl|hl
   ·have hbad:=Lh (hlong.out hl);(have q9:(14:Int)<(cb.size:Int)+1:=by omega);go_wp2
    go_step3
    exact⟨rfl,hbad,⟨rfl,rfl,rfl⟩,_,rfl⟩
   have hnew:=Lh (hok.out hl);(have q9:¬(14:Int)<(cb.size:Int)+1:=by omega);go_wp2;go_roundw
   case rel=>exact⟨pos+1,n,cb++s.extract pos (pos+1),rfl,rfl,by rw[pM.out];go_num,rfl,by rw[pM.out];omega,by rw[pM.out];omega,ML,hnew⟩
   case measure=>simp;omega
  ·(have q1:decide ((97:Int)≤(k:Int))=false:=by simp;omega);(have q2:decide ((48:Int)≤(k:Int))=false:=by simp;omega);(have q3:((k:Int)==46)=true:=by simp;omega);rcases hlen with hl|hl
   ·have hbad:=Lh (hlong.out hl);(have q9:(14:Int)<(cb.size:Int)+1:=by omega);go_wp2
    go_step3
    exact⟨rfl,hbad,⟨rfl,rfl,rfl⟩,_,rfl⟩
   have hnew:=Lh (hok.out hl);(have q9:¬(14:Int)<(cb.size:Int)+1:=by omega);go_wp2;go_roundw
   case rel=>exact⟨pos+1,n,cb++s.extract pos (pos+1),rfl,rfl,by rw[pM.out];go_num,rfl,by rw[pM.out];omega,by rw[pM.out];omega,ML,hnew⟩
   case measure=>simp;omega
  ·(have q1:decide ((97:Int)≤(k:Int))=false:=by simp;omega);(have q2:decide ((48:Int)≤(k:Int))=true:=by simp;omega);(have q3:decide ((k:Int)≤57)=false:=by simp;omega);(have q4:((k:Int)==46)=false:=by simp;omega);(have q5:((k:Int)==95)=true:=by simp;omega);rcases hlen with hl|hl
   ·have hbad:=Lh (hlong.out hl);(have q9:(14:Int)<(cb.size:Int)+1:=by omega);go_wp2
    go_step3
    exact⟨rfl,hbad,⟨rfl,rfl,rfl⟩,_,rfl⟩
   have hnew:=Lh (hok.out hl);(have q9:¬(14:Int)<(cb.size:Int)+1:=by omega);go_wp2;go_roundw
   case rel=>exact⟨pos+1,n,cb++s.extract pos (pos+1),rfl,rfl,by rw[pM.out];go_num,rfl,by rw[pM.out];omega,by rw[pM.out];omega,ML,hnew⟩
   case measure=>simp;omega
  (have q1:decide ((97:Int)≤(k:Int))=false:=by simp;omega);(have q2:decide ((48:Int)≤(k:Int))=false:=by simp;omega);(have q4:((k:Int)==46)=false:=by simp;omega);(have q5:((k:Int)==95)=false:=by simp;omega);(have q6:((k:Int)==45)=true:=by simp;omega);rcases hlen with hl|hl
  ·have hbad:=Lh (hlong.out hl);(have q9:(14:Int)<(cb.size:Int)+1:=by omega);go_wp2
   go_step3
   exact⟨rfl,hbad,⟨rfl,rfl,rfl⟩,_,rfl⟩
  have hnew:=Lh (hok.out hl);(have q9:¬(14:Int)<(cb.size:Int)+1:=by omega);go_wp2;go_roundw
  case rel=>exact⟨pos+1,n,cb++s.extract pos (pos+1),rfl,rfl,by rw[pM.out];go_num,rfl,by rw[pM.out];omega,by rw[pM.out];omega,ML,hnew⟩
  case measure=>simp;omega
 rintro a' w' ⟨hv,hF,p,rfl⟩;obtain⟨f,rfl⟩:=Fm.lit (m:=79) hF rfl;simp only[lits,Nat.reduceAdd,List.cons_append,List.nil_append];go_wp2;simp only[Exit.jump];go_ret;exact⟨by rw[hv.out];rfl,(Below.refl _ _).alloc (Nat.le_refl _) _⟩
end Go.Proofs.YteihmbaimbogaaaGreat
namespace Go.Proofs.YteihmbaimbogaaaGreat
set_option linter.unusedVariables false
def splitB :List UInt8→List (List UInt8)
 |[]=>[[]]
 |c::l=>if c=47 then []::splitB l else match splitB l with
  |[]=>[[c]]
  |h::t=>(c::h)::t
theorem fB (c:UInt8) (l:List UInt8):splitB (c::l)=if c=47 then []::splitB l else match splitB l with
 |[]=>[[c]]
 |h::t=>(c::h)::t:=rfl
theorem fQ (l:List UInt8):splitB l≠[]:=by
 cases l with
 |nil=>simp[splitB]
 |cons c l=>
  unfold splitB;split
  ·simp
  split<;>simp
theorem lN {l:List UInt8} (h:(47:UInt8)∉l):splitB l=[l]:=by
 induction l with
 |nil=>rfl
 |cons c l ih=>(have h1:c≠47:=fun e=>h (by simp[e]));(have h2:(47:UInt8)∉l:=fun e=>h (List.mem_cons_of_mem _ e));unfold splitB;rw[if_neg h1,ih h2]
theorem DV {a b:List UInt8} (h:(47:UInt8)∉a):splitB (a++47::b)=a::splitB b:=by
 induction a with
 |nil=>rfl
 |cons c a ih=>(have h1:c≠47:=fun e=>h (by simp[e]));(have h2:(47:UInt8)∉a:=fun e=>h (List.mem_cons_of_mem _ e));rw[List.cons_append,fB,if_neg h1,ih h2]
end Go.Proofs.YteihmbaimbogaaaGreat

namespace Go.Proofs.YteihmbaimbogaaaGreat
open Go.RowKit Go.Shelf
set_option linter.unusedVariables false
attribute [local go_sem] Oper.semAt_some
theorem RB (l:List UInt8):((47:UInt8)∉l∧Lib.indexByte l 47= -1)∨∃a b,l=a++47::b∧(47:UInt8)∉a∧Lib.indexByte l 47=(a.length:Int):=by
 induction l with
 |nil=>exact .inl ⟨by simp,rfl⟩
 |cons c l ih=>
  by_cases e:c=47
  ·subst e;exact .inr ⟨[],l,rfl,by simp,by simp[Lib.indexByte]⟩
  have e':(c==47)=false:=beq_eq_false_iff_ne.2 e;rcases ih with⟨h1,h2⟩|⟨a,b,rfl,h1,h2⟩
  ·refine .inl ⟨fun h=>?_,by simp[Lib.indexByte,e,h2]⟩;rcases List.mem_cons.1 h with h|h
   ·exact e h.symm
   exact h1 h
  refine .inr ⟨c::a,b,rfl,fun h=>?_,?_⟩
  ·rcases List.mem_cons.1 h with h|h
   ·exact e h.symm
   exact h1 h
  have hne:((a.length:Int)== -1)=false:=beq_eq_false_iff_ne.2 (by omega);unfold Lib.indexByte;rw[e',h2,hne];simp
def nm (x:Nat×ByteArray):List UInt8:=x.2.data.toList
end Go.Proofs.YteihmbaimbogaaaGreat
namespace Go.Proofs.YteihmbaimbogaaaGreat
open Go.RowKit Go.Shelf
set_option linter.unusedVariables false
attribute [local go_sem] Oper.semAt_some
set_option maxRecDepth 100000 in
set_option maxHeartbeats 2000000 in
theorem aaK (F:Fence) (n:Nat) (h7:F.fn 178) (h65:F.fn 179) (hix:∀(s:ByteArray) W,CallsIn F (n-1) Tryz.prog 179 #[.string s,.int .u8 47] W fun e w'=>e= .returned (.int .i64 (Lib.indexByte s.data.toList 47))∧w'=W) (hro:F.round=none) (hn:1≤n) (l Bs n₀ B:Nat) (hne:Bs≠B) (p:ByteArray) (hs:p.size≤4611686018427387904) (J Jx:List (Nat×ByteArray)→World→Prop)
  (hY:∀pre x W,J pre W→pre.length<(splitB p.data.toList).length→YieldAt F (n-1) Tryz.prog l #[.int .i64 (x.1:Int),.string x.2] W fun e W'=>
   (e= .returned (.bool true)∧J (pre++[x]) W'∧rF n₀ [B] W W')∨(e= .returned (.bool false)∧Jx (pre++[x]) W'))
  (W:World) (hb:Bs<n₀) (hBs:W.cell? ⟨Bs,0,none⟩=some (.string p)) (h0:J [] W):
  CallsIn F n Tryz.prog 178 #[.func (.yield l) #[] #[],.pointer (some ⟨Bs,0,none⟩)] W fun e W'=>(∃v,e= .returned v)∧
   ((∃ys:List (Nat×ByteArray),ys.map nm=splitB p.data.toList∧J ys W')∨(∃pre:List (Nat×ByteArray),(∃rest,pre.map nm++rest=splitB p.data.toList)∧Jx pre W')):=by
 have hsz:p.size=p.data.toList.length:=Lib.size_eq p
 have bs:(p.size:Int)≤4611686018427387904:=by omega
 refine callsIn_of_wp Tryz.func178 rfl h7 ?_ hro
 simp only[Tryz.ntmps178,List.size_toArray,List.length_cons,List.length_nil,Nat.reduceAdd,Nat.reduceSub,Array.replicate_succ,Array.replicate_zero,List.push_toArray,List.append_toArray,List.nil_append,List.cons_append]
 gi_wp2
 gi_loopw [3] (fun i wr=>∃(from_:Nat) (pre:List (Nat×ByteArray)),i= .int .i64 from_∧J pre wr∧rF n₀ [B] W wr∧((from_≤p.size∧pre.map nm++splitB (p.data.toList.drop from_)=splitB p.data.toList)∨(from_=p.size+1∧pre.map nm=splitB p.data.toList)))
  (fun i _=>p.size+1-(intOf i).toNat)
 case atStart=>exact⟨0,[],rfl,h0,rF.refl _ _ _,.inl ⟨Nat.zero_le _,by simp⟩⟩
 case round=>
  obtain⟨from_,pre,rfl,hJs,hnx,hst⟩:=hrel;have hcx:wr.cell? ⟨Bs,0,none⟩=some (.string p):=(hnx.cell (a:=⟨Bs,0,none⟩) hb (by simpa using hne)).trans hBs;rcases hst with⟨hle,hsp⟩|⟨hgt,hsp⟩
  case inr=>
   (have q1:¬(from_:Int)≤(p.size:Int):=by omega);(have q2:(p.size:Int)<(from_:Int):=by omega);clear hgt hsz
   gi_wp2
   go_end0
   exact⟨⟨_,rfl⟩,.inl ⟨_,hsp,hJs⟩⟩
  (have q1:(from_:Int)≤(p.size:Int):=by omega);(have q0:(0:Int)≤(from_:Int):=by omega);(have hpl:pre.length<(splitB p.data.toList).length:=by rw[←hsp,List.length_append,List.length_map];have:=List.length_pos_iff.2 (fQ (p.data.toList.drop from_));omega);(have hix:=fun W=>hix (p.extract from_ p.size) W);(have hex:(p.extract from_ p.size).data.toList=p.data.toList.drop from_:=by rw[Lib.extract_data,List.take_of_length_le (by rw[List.length_drop];omega)]);rw[hex]at hix;rcases RB (p.data.toList.drop from_)with⟨hno,hval⟩|⟨a,b,hab,hno,hval⟩
  ·rw[hval]at hix;have hnm:nm (p.size,p.extract from_ p.size)=p.data.toList.drop from_:=hex;(have hend:(pre++[(p.size,p.extract from_ p.size)]).map nm=splitB p.data.toList:=by rw[List.map_append,←hsp,lN hno,List.map_cons,List.map_nil,hnm]);obtain⟨fn,tmps,assign,body,hy,hR⟩:=hY pre (p.size,p.extract from_ p.size) wr hJs hpl;dsimp only at hy;have hend':=Lh hend;clear hend hnm hsp hex hno hval hsz
   gi_wp2_with (gi_at_call 179;refine(hix _).mono ?_;rintro e w' ⟨rfl,rfl⟩)
   refine hR.mono ?_;rintro e W3 (⟨rfl,hJ3,hk3⟩|⟨rfl,hJx3⟩)
   ·gi_wp2
    go_roundw
    case rel=>exact⟨p.size+1,_,by simp,hJ3,hnx.trans hk3,.inr ⟨rfl,hend'⟩⟩
    case measure=>simp[intOf];omega
   gi_wp2
   refine bodyPost_ret (results_none rfl _ _ _) rfl ?_;exact⟨⟨_,rfl⟩,.inr ⟨_,⟨[],(List.append_nil _).trans hend'⟩,hJx3⟩⟩
  rw[hval]at hix;(have hal:a.length<p.data.toList.length-from_:=by rw[←List.length_drop,hab,List.length_append,List.length_cons];omega);(have q3:(from_:Int)+(a.length:Int)<(p.size:Int):=by omega);(have q4:(0:Int)≤(a.length:Int):=by omega);(have q5:(from_:Int)≤(from_:Int)+(a.length:Int):=by omega);(have aq4:nm (from_+a.length,p.extract from_ (from_+a.length))=a:=by(show(p.extract from_ (from_+a.length)).data.toList=a);rw[Lib.extract_data,Nat.add_sub_cancel_left,hab,List.take_left'];rfl);(have hb':p.data.toList.drop (from_+a.length+1)=b:=by rw[Nat.add_assoc,←List.drop_drop,hab,←List.drop_drop];simp);(have hnext:(pre++[(from_+a.length,p.extract from_ (from_+a.length))]).map nm++splitB (p.data.toList.drop (from_+a.length+1))=splitB p.data.toList:=by rw[List.map_append,List.map_cons,List.map_nil,aq4,hb',←hsp,hab,DV hno,List.append_assoc];rfl);obtain⟨fn,tmps,assign,body,hy,hR⟩:=hY pre (from_+a.length,p.extract from_ (from_+a.length)) wr hJs hpl;simp only[Int.natCast_add]at hy;have aeP:=Lh hnext;have ZQ:=Lh hal;clear hnext hal hsp hex hno hval aq4 hb' hab hsz hpl
  gi_wp2_with (gi_at_call 179;refine(hix _).mono ?_;rintro e w' ⟨rfl,rfl⟩)
  refine hR.mono ?_;rintro e W3 (⟨rfl,hJ3,hk3⟩|⟨rfl,hJx3⟩)
  ·gi_wp2
   go_roundw
   case rel=>exact⟨from_+a.length+1,_,by simp,hJ3,hnx.trans hk3,.inl ⟨by omega,aeP⟩⟩
   case measure=>simp[intOf];omega
  gi_wp2
  refine bodyPost_ret (results_none rfl _ _ _) rfl ?_;exact⟨⟨_,rfl⟩,.inr ⟨_,⟨_,aeP⟩,hJx3⟩⟩
theorem RD (F:Fence) (n:Nat) (h7:F.fn 178) (h65:F.fn 179) (hix:∀m (s:ByteArray) W,CallsIn F m Tryz.prog 179 #[.string s,.int .u8 47] W fun e w'=>e= .returned (.int .i64 (Lib.indexByte s.data.toList 47))∧w'=W) (hro:F.round=none) (hn:1≤n) (Bs n₀ B:Nat) (hne:Bs≠B) (p:ByteArray) (hs:p.size≤4611686018427387904) (w:World) (hBs:Bs<n₀) (hn₀:n₀≤w.heap.size)
  (hc:w.cell? ⟨Bs,0,none⟩=some (.string p)):
  SeqStopsK F n Tryz.prog 178 #[.pointer (some ⟨Bs,0,none⟩)] (fun x:Nat×ByteArray=>#[Value.int .i64 (x.1:Int),.string x.2]) (rF n₀ [B]) (fun ys=>ys.map nm=splitB p.data.toList) (fun pre=>∃rest,pre.map nm++rest=splitB p.data.toList) (splitB p.data.toList).length w:=fun l J Jx W hW _ _ hY h0=>by
 have hc':=(hW.cell (p:=⟨Bs,0,none⟩) (Nat.lt_of_lt_of_le hBs hn₀)).trans hc;exact aaK F n h7 h65 (fun s W=>hix _ s W) hro hn l Bs n₀ B hne p hs J Jx hY W hBs hc' h0
theorem ajI (F:Fence) (n:Nat) (h41:F.fn 157) (hro:F.round=none) (p:ByteArray) (w:World):
  CallsIn F n Tryz.prog 157 #[.string p] w fun e w'=>e= .returned (.func (.func 178) #[] #[.pointer (some ⟨w.heap.size,0,none⟩)])∧w'=w.alloc (.cells #[.string p] 9):=by
 refine callsIn_of_wp Tryz.func157 rfl h41 ?_ hro;simp only[Tryz.ntmps157,List.size_toArray,List.length_cons,List.length_nil,Nat.reduceAdd,Nat.reduceSub,Array.replicate_succ,Array.replicate_zero,List.push_toArray,List.append_toArray,List.nil_append,List.cons_append]
 gi_wp2
 go_ret;exact⟨rfl,rfl⟩
theorem rF.setCell {n₀ B:Nat} (W:World) (v:Value):rF n₀ [B] W (W.setCell ⟨B,0,none⟩ v):=
 ⟨rfl,rfl,rfl,by simp[World.setCell],fun k _ hn=>Below.heap_setCell W ⟨B,0,none⟩ v k (by simpa using hn)⟩
theorem Boxed.aaL {W w1:World} {n₀ B:Nat} {t e:TypeId} {size:Nat} {v v':Value} {k m:Nat} {xs ys:List Value} {tmp:Obj}
  (hv:Boxed W B t v) (hte:t≠e) (hrow:W.ownsRow n₀ e size v k xs) (hn₀:n₀≤W.heap.size)
  (hown':w1.ownsRow n₀ e size v' m ys) (hgrow:(W.alloc tmp).grownBy w1 v.ownBlock):
  Boxed w1 B t v∧Boxed (w1.setCell ⟨B,0,none⟩ v') B t v'∧(w1.setCell ⟨B,0,none⟩ v').ownsRow n₀ e size v' m ys∧KeepsOthers W (w1.setCell ⟨B,0,none⟩ v')∧rF n₀ [B] W (w1.setCell ⟨B,0,none⟩ v'):=by
 have hv1:Boxed w1 B t v:=(hv.alloc tmp).kept hgrow (hv.not_row hte hrow);refine⟨hv1,hv1.set v',hown'.kept (grownBy_setCell' w1 B v') (.inr (hv1.not_row hte hown').symm),?_,?_⟩
 ·refine((KeepsOthers.alloc W tmp).trans (KeepsOthers.of_grownBy hgrow fun j o ej hj=>?_)).trans (KeepsOthers.setCell _ _ _);rcases(hrow.alloc tmp).2 with⟨rfl,_⟩|⟨g,cap,cur,rfl,_,hgb,_⟩
  ·simp[Value.ownBlock]at ej
  (obtain rfl:g=j:=by simpa[Value.ownBlock]using ej);rw[hgb]at hj;cases hj;rfl
 refine(rF.below (((Below.refl n₀ W).alloc hn₀ tmp).grown hgrow (by simp;omega) fun j ej=>?_)).trans (rF.setCell _ _);rcases hrow.2 with⟨rfl,_⟩|⟨g,cap,cur,rfl,hb,_,_⟩
 ·simp[Value.ownBlock]at ej
 obtain rfl:g=j:=by simpa[Value.ownBlock]using ej
 exact hb
theorem DW {W:World} {b b':Nat} {e:TypeId} {size:Nat} {v:Value} {k:Nat} {xs:List Value} (hb:b'≤b) (h:W.ownsRow b e size v k xs):W.ownsRow b' e size v k xs:=by
 refine⟨h.1,?_⟩;rcases h.2 with h|⟨g,cap,cur,hv,h1,h2⟩
 ·exact .inl h
 exact .inr ⟨g,cap,cur,hv,Nat.le_trans hb h1,h2⟩
theorem rF.RF {n₀ B m:Nat} {W W':World} (h:rF n₀ [B] W W') (h1:m≤n₀) (h2:m≤B):Below m W W':=
 ⟨h.os,h.tape,h.output,h.size,fun k hk=>h.block k (by omega) (by simp;omega)⟩
theorem DX :(Tryz.prog.info? 9).map (fun i=>(i.zero,i.size,i.bytes))=some (some (.string ⟨#[]⟩),1,16):=by kernel_rfl
def aeQ (x:Nat×ByteArray):Value:=.string x.2
set_option maxRecDepth 100000 in
set_option maxHeartbeats 4000000 in
theorem aeR (F:Fence) (n:Nat) (h26:F.fn 116) (h40:F.fn 97) (h41:F.fn 157) (h7:F.fn 178) (h65:F.fn 179) (hro:F.round=none) (hn:3≤n) (p:ByteArray) (hs:p.size≤1048576)
  (hix:∀m (s:ByteArray) W,CallsIn F m Tryz.prog 179 #[.string s,.int .u8 47] W fun e w'=>e= .returned (.int .i64 (Lib.indexByte s.data.toList 47))∧w'=W)
  (hva:∀m W,CallsIn F m Tryz.prog 97 #[.string p] W fun e w'=>e= .returned (.bool true)∧Below W.heap.size W w')
  (hsl:(splitB p.data.toList).length≤1048577) (w:World):
  CallsIn F n Tryz.prog 116 #[.string p] w fun e w'=>∃(v:Value) (ys:List (Nat×ByteArray)),e= .returned v∧ys.map nm=splitB p.data.toList∧w'.ownsRow w.heap.size 9 1 v ys.length (ys.map aeQ)∧Below w.heap.size w w':=by
 have h1:1≤n:=by omega
 obtain⟨i0,hi,hz0,hz1,hz2⟩:=iQ DX;refine callsIn_of_wp_marks Tryz.func116 rfl h26 ?_ hro;simp only[Tryz.ntmps116,List.size_toArray,List.length_cons,List.length_nil,Nat.reduceAdd,Nat.reduceSub,Array.replicate_succ,Array.replicate_zero,List.push_toArray,List.append_toArray,List.nil_append,List.cons_append]
 gi_wp2_with (first |(gi_at_call 97;refine(hva _ _).mono ?_;rintro e w1 ⟨rfl,hb1⟩)|(gi_at_call 157;refine(ajI F _ h41 hro _ _).mono ?_;rintro e w2 ⟨rfl,rfl⟩))
 have bO:=Boxed.new w1 52 (.slice none 0 0);have hbase:w.heap.size≤w1.heap.size:=hb1.size;have hB0:Below w.heap.size w ((w1.alloc (.cells #[.slice none 0 0] 52)).alloc (.cells #[.string p] 9)):=(hb1.alloc (by omega) _).alloc (by simp;omega) _;have hB1:Below (w1.heap.size+1) (w1.alloc (.cells #[.slice none 0 0] 52)) ((w1.alloc (.cells #[.slice none 0 0] 52)).alloc (.cells #[.string p] 9)):=(Below.refl _ _).alloc (by simp) _;have bO2:=bO.alloc (.cells #[.string p] 9);have hbN:=Boxed.new (w1.alloc (.cells #[.slice none 0 0] 52)) 9 (.string p);refine wpIn_rangeFunc_ownG hro h1 (gf:=178) (lb:=#[.pointer (some ⟨w1.heap.size+1,0,none⟩)]) rfl h7 (enters_of Tryz.func178 (by kernel_rfl) rfl)
  (RD F (n-1) h7 h65 hix hro (by omega) (w1.heap.size+1) (w1.heap.size+2) w1.heap.size (by omega) p (by omega) _ (by omega) (by simp) (by have:=hbN.cell;rw[World.size_alloc]at this;exact this)) rF.trans (rF.putObj (by simp)) (Below.refl _ _) (fun _=>rfl)
  (fun pre W=>(∃v,Boxed W w1.heap.size 52 v∧W.ownsRow (w1.heap.size+2) 9 1 v pre.length (pre.map aeQ)∧True)∧(Below w.heap.size w W∧Below 0 ((w1.alloc (.cells #[.slice none 0 0] 52)).alloc (.cells #[.string p] 9)) W))
  (fun _ _ _=>False)
  (OwnFrom.and (Own.from (holdsRow_own (w1.heap.size+2) w1.heap.size 52 9 1 (fun pre:List (Nat×ByteArray)=>pre.length) (fun pre=>pre.map aeQ) (fun _ _=>True)) _) (OwnFrom.and (ownFrom_below (Nat.le_refl _) (by simp;omega)) (ownFrom_below (Nat.zero_le _) (by simp))))
  (fun _ _ _ _ _ hs _ _=>hs)
  ⟨⟨_,bO2,World.ownsRow_nil _ _ _ _,trivial⟩,hB0,Below.refl _ _⟩
  (fun x=> {tmps:=#[.string p,undef,.slice none 0 0,.pointer (some ⟨w1.heap.size,0,none⟩),undef,.string x.2,.string p,.bool true,.bool false,.string p,.func (.func 178) #[] #[.pointer (some ⟨w1.heap.size+1,0,none⟩)],.int .i64 (x.1:Int),.string x.2,undef,undef,undef,undef,undef],defers:=[]}) ?assign ?body ?done ?stop
 case assign=>
  intro l x W K hK
  gi_wp2
  exact hK
 case body=>
  rintro l pre x W ⟨⟨v,hv,hrow,_⟩,hB,hB2⟩ hlt;have hcv:=hv.cell;have hsz2:w1.heap.size+2≤W.heap.size:=by have:=hB2.size;simpa using this
  gi_wp2_with (gi_at_builtin;go_loud (refine wpListIn_append_own _ rfl _ _ 52 rfl (w1.heap.size+2) 9 i0 (.string ⟨#[]⟩) 1 16 Tryz.underlying52 hi hz0 hz1 hz2 rfl (by decide) _ _ _ rfl (hrow.alloc _) ⟨W.heap.size,0,none⟩ 1 1 [.string x.2] rfl rfl (cell_one_new _ _ _) (by simp[Value.oneCell']) (by first |omega|(unfold maxLen;omega)) (by first |omega|(unfold maxLen;omega)) (by simp;omega) ?_);intro v' w2 hown' hgrow _;obtain⟨g',cap',rfl⟩:=ownsRow_succ hown';obtain⟨hv1,hv2,hr2,hk2,hb2⟩:=Boxed.aaL hv (by decide) hrow hsz2 hown' hgrow;have hc1:=hv1.cell;have hf1:=hv1.frozen)
  exact⟨hk2.from _,hb2,⟨_,hv2,by simpa[aeQ]using hr2,trivial⟩,hB.trans (hb2.RF (by omega) (by omega)),hB2.trans (hb2.RF (Nat.zero_le _) (Nat.zero_le _))⟩
 case done=>
  rintro D ys W hD hys ⟨⟨v,hv,hrow,_⟩,hB,_⟩ hK;have hcv:=hv.cell
  gi_wp2
  refine⟨by simp,.inl ⟨_,_,rfl,run_takeDeferred hK,?_⟩⟩;exact⟨_,results_tmp rfl _ _ _,v,ys,rfl,hys,DW (by omega) (ownsRow_putObj hrow _ hK rfl),hB.trans (belowK_b (w:=w) (Nat.le_refl _) W D _ _ (by simp at hD;omega) hK rfl rfl)⟩
 rintro D c pre W _ _ h _;exact h.elim
theorem H6 (l:List UInt8):(splitB l).length≤l.length+1:=by
 induction l with
 |nil=>simp[splitB]
 |cons c l ih=>
  rw[fB];split
  ·simp;omega
  split
  ·simp
  rename_i h t e;rw[e]at ih;simp at ih ⊢;omega
theorem VZ {p:List UInt8} (hv:aP p=true) (hs:p.length≤1048576) (w:World):
  Calls Tryz.prog 116 #[aM p] w fun e w'=>∃v,e= .returned v∧Sep w w' [.sl 9 1 v (splitB p).length ((splitB p).map aM)]:=by
 have h1:=aeR Fence.wide 3 trivial trivial trivial trivial trivial rfl (by omega) ⟨p.toArray⟩ (by rw[gL];exact hs) (fun m s W=>callsIn_wide.2 (Any.strings_IndexByte Tryz.indexByte s 47 W)) (fun m W=>callsIn_wide.2 (by have:=rV ⟨p.toArray⟩ W (by rw[gL];omega);rw[oO,hv]at this;exact this)) (by rw[oO];have:=H6 p;omega) w;refine((callsIn_wide (n:=3)).1 h1).mono ?_;rintro e w' ⟨v,ys,rfl,h2,h3,h4⟩;rw[oO]at h2;refine⟨v,rfl,?_⟩;have e1:ys.map aeQ=(splitB p).map aM:=by rw[←h2,List.map_map];(refine List.map_congr_left fun x _=>?_);(show Value.string x.2= .string ⟨(x.2.data.toList).toArray⟩);rw[Array.toArray_toList]
 have e2:ys.length=(splitB p).length:=by rw[←h2,List.length_map]
 rw[e1,e2]at h3;refine(Sep.nil w).new (F:=v.ownBlock.toList) h4 ⟨DW (Nat.zero_le _) h3,rfl⟩ fun b hb=>?_
 have hb':v.ownBlock=some b:=by simpa using hb
 exact(h3.lt b hb').1
theorem H7 {b:List UInt8} (h:(47:UInt8)∉b):∀a:List UInt8,(splitB (a++47::b)).getLastD []=b
 |[]=>by(show(splitB (47::b)).getLastD []=b);rw[fB,if_pos rfl,lN h];rfl
 |c::a=>by
  have ih:=H7 h a;have hne:=fQ (a++47::b);rw[List.cons_append,fB];split
  ·cases hs:splitB (a++47::b)with
   |nil=>exact absurd hs hne
   |cons x t=>rw[hs]at ih;exact ih
  cases hs:splitB (a++47::b)with
  |nil=>exact absurd hs hne
  |cons x t=>
   rw[hs]at ih;cases t with
   |nil=>
    exfalso;have h2:∀l:List UInt8,(47:UInt8)∈l→2≤(splitB l).length:=fun l=>by
     induction l with
     |nil=>intro h;cases h
     |cons d l ih2=>
      intro h;rw[fB];split
      ·have:=List.length_pos_iff.2 (fQ l);simp;omega
      rename_i hd;have h3:(47:UInt8)∈l:=by
       rcases List.mem_cons.1 h with e|h
       ·exact absurd e.symm hd
       exact h
      have h4:=ih2 h3;split
      ·rename_i e;rw[e]at h4;simp at h4
      rename_i e;rw[e]at h4;simp at h4 ⊢;omega
    have h5:=h2 (a++47::b) (by simp);rw[hs]at h5;simp at h5
   |cons y t=>exact ih
def aR (p:List UInt8):List UInt8:=(splitB p).getLastD []
theorem extract_drop (p:List UInt8) (n:Nat):(⟨p.toArray⟩:ByteArray).extract n p.length=⟨(p.drop n).toArray⟩:=by
 have e:((⟨p.toArray⟩:ByteArray).extract n p.length).data.toList=p.drop n:=by rw[Lib.extract_data];(show(p.drop n).take (p.length-n)=_);rw[List.take_of_length_le (by rw[List.length_drop];exact Nat.le_refl _)]
 generalize(⟨p.toArray⟩:ByteArray).extract n p.length=t at e;obtain⟨⟨l⟩⟩:=t;simp at e;rw[e]
theorem OP (p:List UInt8) (j:Nat) (hj:j<p.length):(({data:=p.toArray}:ByteArray).data[j]!).toNat=(p[j]).toNat:=by rw[getElem!_pos p.toArray j (by simpa using hj)];simp
theorem aaM (p:List UInt8):∃m:Nat,m≤p.length∧Lib.lastIndexByte ⟨p.toArray⟩ 47=(m:Int)-1∧p.drop m=aR p:=by
 rcases Lib.lastIndexByte_spec ⟨p.toArray⟩ 47 with⟨h,h2⟩|⟨i,hi,h,h2,h3⟩
 ·refine⟨0,Nat.zero_le _,by rw[h];rfl,?_⟩;(have hno:(47:UInt8)∉p:=by intro hm;obtain⟨j,hj,e⟩:=List.getElem_of_mem hm;refine h2 j hj ?_;rw[OP p j hj,e];rfl);unfold aR;rw[lN hno];rfl
 have hi':i<p.length:=hi;refine⟨i+1,hi,by rw[h];omega,?_⟩;have e1:p[i]=47:=by rw[OP p i hi']at h2;exact UInt8.toNat_inj.1 (by have e:(47:UInt8).toNat=47:=rfl;rw[e];omega)
 have hno:(47:UInt8)∉p.drop (i+1):=by intro hm;obtain⟨j,hj,e⟩:=List.getElem_of_mem hm;rw[List.length_drop]at hj;rw[List.getElem_drop]at e;refine h3 (i+1+j) (by omega) (by show i+1+j<p.length;omega) ?_;rw[OP p _ (by omega),e];rfl
 have e2:p=p.take i++47::p.drop (i+1):=by conv=>lhs;rw[←List.take_append_drop i p,List.drop_eq_getElem_cons hi',e1]
 unfold aR
 conv=>rhs;rw[e2]
 rw[H7 hno]
theorem H8 {p:List UInt8} (hval:aP p=true) (h:p.length≤1048576) (w:World):Calls Tryz.prog 101 #[aM p] w fun e w'=>e= .returned (aM (aR p))∧Below w.heap.size w w':=by
 have hv:=rV ⟨p.toArray⟩ w (by rw[gL];omega);rw[oO,hval]at hv;obtain⟨m,h1,h2,h3⟩:=aaM p;have hl:∀W,Calls Tryz.prog 152 #[aM p,.int .u8 47] W fun e w'=>e= .returned (.int .i64 ((m:Int)-1))∧w'=W:=fun W=>by have:=Go.Proofs.Any.strings_LastIndexByte Go.Proofs.Tryz.lastIndexByte ⟨p.toArray⟩ 47 (by rw[gL];omega) W;rw[h2]at this;exact this
 have q1:(m:Int)≤p.length:=by omega
 have q2:(p.length:Int)≤1048576:=by omega
 have hsz:(⟨p.toArray⟩:ByteArray).size=p.length:=rfl;rw[←h3];have hex:=extract_drop p m;clear h2 h3 hval h h1;unfold aM at*;go_enter Tryz.func101,Tryz.ntmps101;go_wp2_with(first |(go_at_call 97;refine hv.mono ?_;rintro e w1 ⟨rfl,hb⟩)|(go_at_call 152;refine(hl _).mono ?_;rintro e w2 ⟨rfl,hw2⟩;have hw3:=hw2.symm;clear hw2;subst hw3));go_ret;refine⟨?_,hb⟩
 trace_state
 rw[←hex];rfl
end Go.Proofs.YteihmbaimbogaaaGreat
