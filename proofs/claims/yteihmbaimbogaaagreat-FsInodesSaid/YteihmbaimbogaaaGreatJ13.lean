/- Parts. -/
import Derived.Test.YteihmbaimbogaaaGreatJ12
import Derived.Shelf.SlLaysF0
import Derived.Shelf.SlLaysM
import Derived.Shelf.Lays
import Derived.Ground.SlsfProg
import Derived.Ground.SlgmProg
import Derived.Ground.NamesProg
import Derived.Shelf.SlSortCmp.NoneTotal
set_option linter.unusedVariables false
set_option linter.unusedSimpArgs false
set_option maxRecDepth 100000
set_option maxHeartbeats 20000000
namespace Go.Proofs
open Go.Shelf
def Tryz.sortPuts_ren :Go.Shelf.Ren:=⟨fun|6=>142|15=>126|14=>174|28=>167|29=>168|20=>187|21=>188|22=>189|23=>190|24=>191|25=>192|26=>193|27=>194|46=>198|47=>181|48=>182|49=>199|50=>200|57=>202|n=>n,fun|22=>188|24=>190|25=>192|3=>3|39=>175|0=>0|53=>213|55=>215|4=>4|46=>205|45=>204|50=>210|5=>5|9=>9|66=>225|70=>229|76=>237|77=>122|n=>n,fun|n=>n⟩
theorem Tryz.sortPuts :Go.Proofs.SlLaysF0.n6 Tryz.prog Tryz.sortPuts_ren:= {
 mixed:=by kernel_rfl
 f6:=⟨Tryz.f142.name,by decide,Tryz.func142.trans (congrArg some (by kernel_rfl))⟩
 f14:=⟨Tryz.f174.name,by decide,Tryz.func174.trans (congrArg some (by kernel_rfl))⟩
 f15:=Tryz.func126.trans (congrArg some (by kernel_rfl))
 f20:=⟨Tryz.f187.name,by decide,Tryz.func187.trans (congrArg some (by kernel_rfl))⟩
 f21:=⟨Tryz.f188.name,by decide,Tryz.func188.trans (congrArg some (by kernel_rfl))⟩
 f22:=⟨Tryz.f189.name,by decide,Tryz.func189.trans (congrArg some (by kernel_rfl))⟩
 f23:=⟨Tryz.f190.name,by decide,Tryz.func190.trans (congrArg some (by kernel_rfl))⟩
 f24:=⟨Tryz.f191.name,by decide,Tryz.func191.trans (congrArg some (by kernel_rfl))⟩
 f25:=⟨Tryz.f192.name,by decide,Tryz.func192.trans (congrArg some (by kernel_rfl))⟩
 f26:=⟨Tryz.f193.name,by decide,Tryz.func193.trans (congrArg some (by kernel_rfl))⟩
 f27:=⟨Tryz.f194.name,by decide,Tryz.func194.trans (congrArg some (by kernel_rfl))⟩
 f28:=Tryz.func167.trans (congrArg some (by kernel_rfl))
 f29:=Tryz.func168.trans (congrArg some (by kernel_rfl))
 f46:=⟨Tryz.f198.name,by decide,Tryz.func198.trans (congrArg some (by kernel_rfl))⟩
 f47:=Tryz.func181.trans (congrArg some (by kernel_rfl))
 f48:=Tryz.func182.trans (congrArg some (by kernel_rfl))
 f49:=⟨Tryz.f199.name,by decide,Tryz.func199.trans (congrArg some (by kernel_rfl))⟩
 f50:=⟨Tryz.f200.name,by decide,Tryz.func200.trans (congrArg some (by kernel_rfl))⟩
 f57:=⟨Tryz.f202.name,by decide,Tryz.func202.trans (congrArg some (by kernel_rfl))⟩
 t0:=Tryz.underlying0
 a0:=Tryz.isAgg0
 z0:=Tryz.sizeOf0
 v0:=Tryz.zeroValue0
 t3:=Tryz.underlying3
 a3:=Tryz.isAgg3
 z3:=Tryz.sizeOf3
 v3:=Tryz.zeroValue3
 t4:=Tryz.underlying4
 a4:=Tryz.isAgg4
 z4:=Tryz.sizeOf4
 v4:=Tryz.zeroValue4
 t5:=Tryz.underlying5
 a5:=Tryz.isAgg5
 z5:=Tryz.sizeOf5
 v5:=Tryz.zeroValue5
 t9:=Tryz.underlying9
 a9:=Tryz.isAgg9
 z9:=Tryz.sizeOf9
 v9:=Tryz.zeroValue9
 t22:=Tryz.underlying188
 a22:=Tryz.isAgg188
 z22:=Tryz.sizeOf188
 v22:=Tryz.zeroValue188
 t25:=Tryz.underlying192
 a25:=Tryz.isAgg192
 z25:=Tryz.sizeOf192
 v25:=Tryz.zeroValue192
 t39:=Tryz.underlying175
 a39:=Tryz.isAgg175
 z39:=Tryz.sizeOf175
 v39:=Tryz.zeroValue175
 t45:=Tryz.underlying204
 a45:=Tryz.isAgg204
 z45:=Tryz.sizeOf204
 v45:=Tryz.zeroValue204
 t46:=Tryz.underlying205
 a46:=Tryz.isAgg205
 z46:=Tryz.sizeOf205
 v46:=Tryz.zeroValue205
 t50:=Tryz.underlying210
 a50:=Tryz.isAgg210
 z50:=Tryz.sizeOf210
 v50:=Tryz.zeroValue210
 t53:=Tryz.underlying213
 a53:=Tryz.isAgg213
 z53:=Tryz.sizeOf213
 v53:=Tryz.zeroValue213
 t55:=Tryz.underlying215
 a55:=Tryz.isAgg215
 z55:=Tryz.sizeOf215
 v55:=Tryz.zeroValue215
 t66:=Tryz.underlying225
 a66:=Tryz.isAgg225
 z66:=Tryz.sizeOf225
 v66:=Tryz.zeroValue225
 t70:=Tryz.underlying229
 a70:=Tryz.isAgg229
 z70:=Tryz.sizeOf229
 v70:=Tryz.zeroValue229
 t76:=Tryz.underlying237
 a76:=Tryz.isAgg237
 z76:=Tryz.sizeOf237
 v76:=Tryz.zeroValue237
 t77:=Tryz.underlying122
 a77:=Tryz.isAgg122
 z77:=Tryz.sizeOf122
 v77:=Tryz.zeroValue122}
def Tryz.sortStrings_ren :Go.Shelf.Ren:=⟨fun|6=>70|8=>126|9=>125|19=>167|20=>168|21=>158|22=>159|23=>160|24=>161|25=>162|26=>163|27=>164|28=>165|29=>166|36=>180|31=>181|32=>182|37=>183|38=>184|39=>185|41=>196|n=>n,fun|27=>52|29=>9|3=>3|32=>175|26=>52|0=>0|44=>213|46=>215|4=>4|36=>205|35=>204|41=>210|5=>5|9=>9|53=>225|57=>229|63=>237|64=>122|n=>n,fun|n=>n⟩
theorem Tryz.sortStrings :Go.Proofs.SlLaysM.n6 Tryz.prog Tryz.sortStrings_ren:= {
 mixed:=by kernel_rfl
 f6:=⟨Tryz.f70.name,by decide,Tryz.func70.trans (congrArg some (by kernel_rfl))⟩
 f8:=Tryz.func126.trans (congrArg some (by kernel_rfl))
 f9:=⟨Tryz.f125.name,by decide,Tryz.func125.trans (congrArg some (by kernel_rfl))⟩
 f19:=Tryz.func167.trans (congrArg some (by kernel_rfl))
 f20:=Tryz.func168.trans (congrArg some (by kernel_rfl))
 f21:=⟨Tryz.f158.name,by decide,Tryz.func158.trans (congrArg some (by kernel_rfl))⟩
 f22:=⟨Tryz.f159.name,by decide,Tryz.func159.trans (congrArg some (by kernel_rfl))⟩
 f23:=⟨Tryz.f160.name,by decide,Tryz.func160.trans (congrArg some (by kernel_rfl))⟩
 f24:=⟨Tryz.f161.name,by decide,Tryz.func161.trans (congrArg some (by kernel_rfl))⟩
 f25:=⟨Tryz.f162.name,by decide,Tryz.func162.trans (congrArg some (by kernel_rfl))⟩
 f26:=⟨Tryz.f163.name,by decide,Tryz.func163.trans (congrArg some (by kernel_rfl))⟩
 f27:=⟨Tryz.f164.name,by decide,Tryz.func164.trans (congrArg some (by kernel_rfl))⟩
 f28:=⟨Tryz.f165.name,by decide,Tryz.func165.trans (congrArg some (by kernel_rfl))⟩
 f29:=⟨Tryz.f166.name,by decide,Tryz.func166.trans (congrArg some (by kernel_rfl))⟩
 f31:=Tryz.func181.trans (congrArg some (by kernel_rfl))
 f32:=Tryz.func182.trans (congrArg some (by kernel_rfl))
 f36:=⟨Tryz.f180.name,by decide,Tryz.func180.trans (congrArg some (by kernel_rfl))⟩
 f37:=⟨Tryz.f183.name,by decide,Tryz.func183.trans (congrArg some (by kernel_rfl))⟩
 f38:=⟨Tryz.f184.name,by decide,Tryz.func184.trans (congrArg some (by kernel_rfl))⟩
 f39:=⟨Tryz.f185.name,by decide,Tryz.func185.trans (congrArg some (by kernel_rfl))⟩
 f41:=⟨Tryz.f196.name,by decide,Tryz.func196.trans (congrArg some (by kernel_rfl))⟩
 t0:=Tryz.underlying0
 a0:=Tryz.isAgg0
 z0:=Tryz.sizeOf0
 v0:=Tryz.zeroValue0
 t3:=Tryz.underlying3
 a3:=Tryz.isAgg3
 z3:=Tryz.sizeOf3
 v3:=Tryz.zeroValue3
 t4:=Tryz.underlying4
 a4:=Tryz.isAgg4
 z4:=Tryz.sizeOf4
 v4:=Tryz.zeroValue4
 t5:=Tryz.underlying5
 a5:=Tryz.isAgg5
 z5:=Tryz.sizeOf5
 v5:=Tryz.zeroValue5
 t9:=Tryz.underlying9
 a9:=Tryz.isAgg9
 z9:=Tryz.sizeOf9
 v9:=Tryz.zeroValue9
 t26:=Tryz.underlying52
 a26:=Tryz.isAgg52
 z26:=Tryz.sizeOf52
 v26:=Tryz.zeroValue52
 t27:=Tryz.underlying52
 a27:=Tryz.isAgg52
 z27:=Tryz.sizeOf52
 v27:=Tryz.zeroValue52
 t29:=Tryz.underlying9
 a29:=Tryz.isAgg9
 z29:=Tryz.sizeOf9
 v29:=Tryz.zeroValue9
 t32:=Tryz.underlying175
 a32:=Tryz.isAgg175
 z32:=Tryz.sizeOf175
 v32:=Tryz.zeroValue175
 t35:=Tryz.underlying204
 a35:=Tryz.isAgg204
 z35:=Tryz.sizeOf204
 v35:=Tryz.zeroValue204
 t36:=Tryz.underlying205
 a36:=Tryz.isAgg205
 z36:=Tryz.sizeOf205
 v36:=Tryz.zeroValue205
 t41:=Tryz.underlying210
 a41:=Tryz.isAgg210
 z41:=Tryz.sizeOf210
 v41:=Tryz.zeroValue210
 t44:=Tryz.underlying213
 a44:=Tryz.isAgg213
 z44:=Tryz.sizeOf213
 v44:=Tryz.zeroValue213
 t46:=Tryz.underlying215
 a46:=Tryz.isAgg215
 z46:=Tryz.sizeOf215
 v46:=Tryz.zeroValue215
 t53:=Tryz.underlying225
 a53:=Tryz.isAgg225
 z53:=Tryz.sizeOf225
 v53:=Tryz.zeroValue225
 t57:=Tryz.underlying229
 a57:=Tryz.isAgg229
 z57:=Tryz.sizeOf229
 v57:=Tryz.zeroValue229
 t63:=Tryz.underlying237
 a63:=Tryz.isAgg237
 z63:=Tryz.sizeOf237
 v63:=Tryz.zeroValue237
 t64:=Tryz.underlying122
 a64:=Tryz.isAgg122
 z64:=Tryz.sizeOf122
 v64:=Tryz.zeroValue122}
def Tryz.lastIndexByte_ren :Go.Shelf.Ren:=⟨fun|149=>152|222=>176|n=>n,fun|9=>9|5=>5|3=>3|4=>4|n=>n,fun|n=>n⟩
theorem Tryz.lastIndexByte :Go.Proofs.Lays.n149 Tryz.prog Tryz.lastIndexByte_ren:= {
 mixed:=by kernel_rfl
 f149:=Tryz.func152.trans (congrArg some (by kernel_rfl))
 f222:=Tryz.func176.trans (congrArg some (by kernel_rfl))
 t3:=Tryz.underlying3
 a3:=Tryz.isAgg3
 z3:=Tryz.sizeOf3
 v3:=Tryz.zeroValue3
 t4:=Tryz.underlying4
 a4:=Tryz.isAgg4
 z4:=Tryz.sizeOf4
 v4:=Tryz.zeroValue4
 t5:=Tryz.underlying5
 a5:=Tryz.isAgg5
 z5:=Tryz.sizeOf5
 v5:=Tryz.zeroValue5
 t9:=Tryz.underlying9
 a9:=Tryz.isAgg9
 z9:=Tryz.sizeOf9
 v9:=Tryz.zeroValue9}
def Tryz.indexByte_ren :Go.Shelf.Ren:=⟨fun|137=>179|217=>195|266=>201|n=>n,fun|9=>9|5=>5|3=>3|n=>n,fun|n=>n⟩
theorem Tryz.indexByte :Go.Proofs.Lays.n137 Tryz.prog Tryz.indexByte_ren:= {
 mixed:=by kernel_rfl
 f137:=Tryz.func179.trans (congrArg some (by kernel_rfl))
 f217:=Tryz.func195.trans (congrArg some (by kernel_rfl))
 f266:=Tryz.func201.trans (congrArg some (by kernel_rfl))
 t3:=Tryz.underlying3
 a3:=Tryz.isAgg3
 z3:=Tryz.sizeOf3
 v3:=Tryz.zeroValue3
 t5:=Tryz.underlying5
 a5:=Tryz.isAgg5
 z5:=Tryz.sizeOf5
 v5:=Tryz.zeroValue5
 t9:=Tryz.underlying9
 a9:=Tryz.isAgg9
 z9:=Tryz.sizeOf9
 v9:=Tryz.zeroValue9}
end Go.Proofs
namespace Go.Proofs.YteihmbaimbogaaaGreat
open Go.RowKit Go.Sort
theorem Sep.axY {w0 w:World} {As:List bK} {e:TypeId} {sz g m cap:Nat} {cs:List Value} (k:Nat) (h:Sep w0 w As)
  (hi:As[k]? =some (.sl e sz (sV g m cap) m cs)) (n:Nat) (F:Array Value) (hF0:F.size=m*sz) (os:Array Obj):
  Sep w0 (Go.Proofs.sortWorld id w g 0 n F os) (As.set k (.sl e sz (sV g m cap) m F.toList)):=by
 have hhp:∀b,b<w.heap.size->(Go.Proofs.sortWorld id w g 0 n F os).heap[b]? =if g=b then w.heap[b]?.map (Go.Sort.onCells (Go.Sort.putCells id 0 F))else w.heap[b]? :=fun b hb=>by exact Z42
 refine h.step k hi fun F' ⟨ho,hF⟩ _=>⟨F',⟨⟨by simp[hF0],?_⟩,hF⟩,fun b hb=>.inl hb,?_⟩
 ·rcases ho.2 with⟨h',_⟩|⟨g',cap',cur,h',hb,hg,hc,hm,hs,ht⟩
  ·simp at h'
  simp only[Value.slice.injEq,YG,Addr.mk.injEq,and_true,true_and]at h';obtain⟨rfl,rfl⟩:=h';refine .inr ⟨g,cap,Go.Sort.putCells id 0 F cur,rfl,hb,?_,hc,hm,by simpa[Go.Sort.putCells]using hs,?_⟩
  ·rw[hhp g (lt_of_heap hg),if_pos rfl,hg];rfl
  (have hle:m*sz<=cur.size:=by rw[hs];exact aiZ _ hc);apply DN;intro i;by_cases hi:i<m*sz
  ·(have hc2:i<cur.size:=by omega);simp[Go.Sort.putCells,hF0,hi,hc2]
  rw[D7 IL,D7 IL]
 refine⟨rfl,rfl,rfl,by simp[Go.Proofs.sortWorld,Go.Sort.grow,Go.Sort.putRow,Go.Sort.mapBlock,Go.Sort.ahead],fun b hb hn=>?_⟩;rw[hhp b hb,if_neg];intro e;subst e;exact hn (by rw[hF];simp[Value.ownBlock])
theorem flat_get {α:Type} {enc:α->List Value} {k:Nat} (hk:∀x,(enc x).length=k):∀(l:List α) (i j:Nat),j<k->(l.flatMap enc)[i*k+j]? =(l[i]?).bind fun x=>(enc x)[j]?
 |[],i,j,_=>by simp
 |x::l,0,j,hj=>by rw[zF,Nat.zero_mul,BF,G8 (by rw[hk];exact hj)];rfl
 |x::l,i+1,j,hj=>by rw[zF,D6 (by rw[hk,Nat.succ_mul];omega),hk,show(i+1)*k+j-k=i*k+j by rw[Nat.succ_mul];omega];exact flat_get hk l i j hj
theorem aeS {α:Type} {enc:α->List Value} {k:Nat} (hk:∀x,(enc x).length=k) (l:List α):(l.flatMap enc).length=l.length*k:=by
 induction l with
 |nil=>simp
 |cons x l ih=>rw[zF,kN,hk,ih,nV,Nat.succ_mul];omega
theorem RQ {α:Type} [Inhabited α] {enc:α->List Value} {k:Nat} (hk:∀x,(enc x).length=k) (hk0:0<k) (d:Array α):(flatK enc k d).toList=d.toList.flatMap enc:=by
 apply DN;intro t;by_cases ht:t<d.size*k
 ·(have e:t=t/k*k+t%k:=by rw[Nat.mul_comm];exact(Nat.div_add_mod t k).symm);have h1:t/k<d.size:=Nat.div_lt_of_lt_mul (by rw[Nat.mul_comm];exact ht);have h2:t%k<k:=Q7 _ hk0;have h3:(d.toList.flatMap enc)[t]? =(enc (d[t/k]'h1))[t%k]? :=by
   conv=>lhs;rw[e]
   rw[flat_get hk _ _ _ h2];simp[h1]
  rw[h3];(have h4:t<(flatK enc k d).toList.length:=by simpa using ht);rw[gE h4,gE (by rw[hk];exact h2)];have:=get_flatK enc k d t ht;rw[getElem!_pos (flatK enc k d) t (by simpa using ht),getElem!_pos d (t/k) h1,getElem!_pos (enc _) (t%k) (by rw[hk];exact h2)]at this;simpa using this
 rw[D7 IL,D7 (by rw[aeS hk];simp;omega)]
def zN :Type:= {x:Nat×Value//x.1<=4096/\∃A n c,x.2= .slice A n c}
instance :Inhabited zN:=⟨⟨(0,.slice none 0 0),by decide,none,0,0,rfl⟩⟩
def vL (x:zN):List Value:=[.int .i64 (x.1.1:Nat),x.1.2]
def cfP (x y:zN):Int:=(x.1.1:Int)-y.1.1
theorem ltP (x y:zN):Go.Proofs.ltOf cfP x y=decide (x.1.1<y.1.1):=by unfold Go.Proofs.ltOf cfP;rw[aeF,uP,uP];omega
theorem aMR :Go.Sort.SWO (Go.Proofs.ltOf cfP):=⟨fun x=>by rw[ltP];simp,fun x y z h1 h2=>by rw[ltP]at*;simp at*;omega,fun x y z h1 h2=>by rw[ltP]at*;simp at*;omega⟩
theorem an7 (w:World):(isAgg 190).run Tryz.prog w= .ok true w:=by kernel_rfl
theorem ai9 (w:World):(Go.sizeOf 190).run Tryz.prog w= .ok 2 w:=by kernel_rfl
theorem asH (x y:zN) (W:World):Calls Tryz.prog 143 #[.agg #[iV (x.1.1:Nat),x.1.2],.agg #[iV (y.1.1:Nat),y.1.2]] W fun e w'=>e= .returned (iV (cfP x y))/\∃q os',w'=grow (W.drewN q) os':=by
 obtain⟨⟨xa,xv⟩,hx,A,n,c,e⟩:=x;obtain⟨⟨ya,yv⟩,hy,B,m,d,e2⟩:=y;simp only at hx hy e e2;subst e e2;have b1:(xa:Int)<=4096:=by omega
 have b2:(ya:Int)<=4096:=by omega
 unfold cfP;simp only;go_enter Tryz.func143,Tryz.ntmps143;go_wp2_with fail;go_ret;exact⟨rfl,0,_,by rw[alloc_eq_grow,alloc_eq_grow,grow_grow];rfl⟩
theorem an8 {w0 w:World} {R:List bK} {v:Value} {P:List zN} (h:Sep w0 w (.sl 190 2 v P.length (P.flatMap vL)::R)) (hP:P.length<=5000):
  Calls Tryz.prog 142 #[v,.func (.func 143) #[] #[]] w fun e w'=>e= .returned (.tuple #[])/\∃P':List zN,P.Perm P'/\P'.Pairwise (fun x y=>x.1.1<=y.1.1)/\Sep w0 w' (.sl 190 2 v P.length (P'.flatMap vL)::R):=by
 rcases H5 P.length with h0|hpos
 ·obtain rfl:P=[]:=zC h0;obtain⟨A,cap,rfl,_⟩:=h.yR 0 rfl;have hcon:=Go.Proofs.AnyF.slices_SortFunc_none (P:=Tryz.prog) Go.Proofs.Tryz.sortPuts A cap (.func (.func 143) #[] #[]) w;change Calls Tryz.prog 142 _ _ _ at hcon;refine hcon.mono ?_;rintro e w' ⟨rfl,rfl⟩;exact⟨rfl,[],.refl _,.nil,h⟩
 obtain⟨g,cap,rfl,_,hg,hc1,hc2⟩:=h.iU 0 rfl hpos;have hk:∀x,(vL x).length=2:=fun _=>rfl
 have h1:∀x,∀v∈vL x,v.oneCell'=true:=fun x v hv=>by obtain⟨⟨xa,xv⟩,_,A,n,c,e⟩:=x;simp only at e;subst e;simp[vL]at hv;rcases hv with rfl|rfl<;>rfl
 have hH:HoldsK vL 2 w g 0 P.toArray:=fun j hj=>by rw[BF];(have hj':j<P.length*2:=by simpa using hj);refine⟨?_,h.frozenAt 0 rfl j⟩;rw[h.cellAt 0 rfl j aD,<-RQ hk aQ P.toArray];rw[getElem!_pos _ j hj];simp at hj ⊢
 have eg:∀args w,(callFunc 143 args).run Tryz.prog w= .ok (.enter 143 args) w:=Go.Proofs.enters_of Tryz.func143 fZ rfl;have hcon:=Go.Proofs.AnyQ.slices_SortFunc Go.Proofs.Tryz.sortPuts 2 an7 ai9 vL hk h1 cfP aMR 143 #[] g 0 cap P.toArray w eg (fun _ _ _ _ x y=>asH x y _) hH hg IL;change Calls Tryz.prog 142 _ _ _ at hcon;simp only[mK]at hcon;refine hcon.mono ?_;rintro e w' ⟨rfl,d',n,os,hp,hs,rfl⟩;have hds:d'.size=P.length:=hp.1;have hperm:P.Perm d'.toList:=by have h9:=hp.2.2;(have e1:d'.extract 0 P.length=d':=by rw[<-hds];exact Array.extract_size);rw[e1]at h9;(have e2:(P.toArray.extract 0 P.length).toList=P:=by simp);rw[e2]at h9;exact h9.symm
 refine⟨rfl,d'.toList,hperm,?_,?_⟩
 ·rw[IK];intro i j hi hj hij;have:=hs i j aD hij (by simpa[hds]using hj);rw[ltP]at this;simp at this hi hj ⊢;rw[getElem!_pos d' i aD,getElem!_pos d' j aD]at this;exact this
 have h5:=h.axY 0 rfl n (flatK vL 2 d') (by simp[hds]) os;rw[RQ hk aQ]at h5;exact h5
end Go.Proofs.YteihmbaimbogaaaGreat
namespace Go.Proofs.YteihmbaimbogaaaGreat
open Go.RowKit
theorem asI :(Tryz.prog.info? 190).map (fun i=>(i.zero,i.size,i.bytes))=some (some (.agg #[iV 0,.slice none 0 0]),2,32):=by kernel_rfl
def xV (S:VS) (x:Nat×Value×List UInt8):Bool:= !(x.2.2==bk S.D.now (96+x.1))
abbrev XG (fb r:Nat) (FM Ms:BM):bK:=BL 3 fb r (jK FM).length (jK FM) (jK Ms)
section
variable {w0 w:World} {R:List bK} {f q p:Nat} {S:VS} {a:VA}
theorem Sep.ajA {A B C:bK} (h:Sep w0 w (C::ED f q p S a (.star A B)::R)):Sep w0 w (A::B::l7 f q S a.sb (.map (some a.fb)) false::aG q p false::aN p S.D::fH a.sb a.SM::C::R):=by have h1:Sep w0 w (KL f q p S a (.star A B)++(C::R)):=(h.perm (List.Perm.swap _ _ _)).bE;have h2:Sep w0 w (.star A B::l7 f q S a.sb (.map (some a.fb)) false::aG q p false::aN p S.D::fH a.sb a.SM::C::R):=Sep.dE [4,0,1,2,3,5] h1 aQ (by simp[KL]);exact h2.kX
theorem Sep.aAU {A B C:bK} (h:Sep w0 w (A::B::l7 f q S a.sb (.map (some a.fb)) false::aG q p false::aN p S.D::fH a.sb a.SM::C::R)):Sep w0 w (C::ED f q p S a (.star A B)::R):=by have h2:=h.nW;have h3:Sep w0 w (KL f q p S a (.star A B)++(C::R)):=Sep.dE [1,2,3,4,0,5] h2 aQ bM;exact(h3.dG).perm (List.Perm.swap _ _ _)
theorem Sep.amH {M:BM} {x:Nat×Value×List UInt8} (h:Sep w0 w (.dZ (fG M)::R)) (hx:x∈M):BytesAt w x.2.1 x.2.2:=by have h2:Sep w0 w (fG M++R):=h.bE;obtain⟨j,hj,e⟩:=QV hx;exact Z35
theorem Sep.axZ {M:bK} (h:Sep w0 w (ED f q p S a M::R)) {k:Nat} {v:Value} {bs:List UInt8} (hf:dV a.SM k=some (v,bs)) (hn:a.sb=none->a.SM=[]):BytesAt w v bs:=by have h1:=h.bE;exact Z47
theorem Sep.aeT {As:List bK} {fb r:Nat} {FM Ms:BM} (h:Sep w0 w (XG fb r FM Ms::As)) (ty:TypeId):
  (Ms=[]/\(Instr.next (pV r) false ty).run Tryz.prog w= .ok (.tuple #[.bool false]) w)\/
  ∃x w',x∈Ms/\(Instr.next (pV r) false ty).run Tryz.prog w= .ok (.tuple #[.bool true,iV (x.1:Nat),x.2.1]) w'/\Sep w0 w' (XG fb r FM (iP Ms x.1)::As)/\(Instr.entry (pV r)).run Tryz.prog w'= .ok (.tuple #[iV (x.1:Nat),x.2.1]) w':=by
 rcases h.aeU 0 rfl gT ty with⟨h1,h2⟩|⟨key,v,kl,w',h1,h2,h3,h4,_,h5⟩
 ·refine .inl ⟨?_,h2⟩;unfold jK at h1;exact List.map_eq_nil_iff.1 h1
 right;unfold jK at h2;obtain⟨x,hx,e⟩:=List.mem_map.1 h2;obtain⟨y,e1,e2,_⟩:=Maps.keyOf_int_inv Tryz.underlying3 h1;injection e with e3 e4;rw[e2]at e3;unfold KN at e3;injection e3 with _ e5;subst e5 e4;subst e1;refine⟨x,w',hx,h3,?_,h5⟩;have e6:kl=KN x.1:=e2;rw[e6,aeV]at h4;exact h4
theorem YV {M:BM} {x:Nat×Value×List UInt8} (hn:(M.map (·.1)).Nodup) (hx:x∈M):M.Perm (x::iP M x.1):=by
 induction M with
 |nil=>cases hx
 |cons y M ih=>
  rw[mH,I9]at hn;rcases iX.1 hx with rfl|hx
  ·(have e:iP (x::M) x.1=M:=by unfold iP;rw[zG];simp only[beq_self_eq_true,Bool.not_true,I8,if_false];rw[List.filter_eq_self];intro z hz;simp only[aa4,mM];intro e;exact hn.1 (List.mem_map.2 ⟨z,hz,e⟩));rw[e]
  (have hne:y.1≠x.1:=fun e=>hn.1 (List.mem_map.2 ⟨x,hx,e.symm⟩));(have e:iP (y::M) x.1=y::iP M x.1:=by unfold iP;rw[zG];simp[hne]);rw[e];exact(List.Perm.cons _ (ih hn.2 hx)).trans (List.Perm.swap _ _ _)
structure PU (f q p:Nat) (S:VS) (a:VA) (r:Nat) (w0 wr:World) (R:List bK) (v:Value) (Ms V:BM) (P:List zN) (b:VA):Prop where
 reads:Reads S a b
 perm:(V++Ms).Perm a.FM
 puts:P.map (·.1)=(V.filter (xV S)).map fun x=>(x.1,x.2.1)
 read:V≠[]->b.SM≠[]
 sep:Sep w0 wr (.sl 190 2 v P.length (P.flatMap vL)::ED f q p S b (.star (XG a.fb r a.FM Ms) (.dZ (fG a.FM)))::R)
theorem PU.F5 {r:Nat} {wr:World} {v:Value} {Ms V:BM} {P:List zN} {b:VA} {x:Nat×Value×List UInt8} (h:PU f q p S a r w0 wr R v Ms V P b) (hnd:(a.FM.map (·.1)).Nodup) (hx:x∈Ms):((V++[x])++iP Ms x.1).Perm a.FM/\(iP Ms x.1).length<Ms.length:=by
 have h1:((V++Ms).map (·.1)).Nodup:=(h.perm.map (·.1)).nodup_iff.2 hnd;rw[kT,xM]at h1;have h2:=YV h1.2.1 hx;refine⟨?_,?_⟩
 ·rw[uN];exact((YD V h2).symm).trans h.perm
 have:=h2.length_eq;rw[nV]at this;omega
theorem aeW {M:BM} {k:Nat} {y:Value×List UInt8} (h:dV M k=some y):M≠[]:=by rintro rfl;cases h
theorem PU.an9 {r:Nat} {wr wr':World} {v v':Value} {Ms V:BM} {P:List zN} {b b2:VA} {x:Nat×Value×List UInt8} (h:PU f q p S a r w0 wr R v Ms V P b) (hnd:(a.FM.map (·.1)).Nodup) (hx:x∈Ms) (hd:xV S x=false) (hR:Reads S b b2) (hne:b2.SM≠[])
  (hs:Sep w0 wr' (.sl 190 2 v' P.length (P.flatMap vL)::ED f q p S b2 (.star (XG a.fb r a.FM (iP Ms x.1)) (.dZ (fG a.FM)))::R)):PU f q p S a r w0 wr' R v' (iP Ms x.1) (V++[x]) P b2:=
 ⟨h.reads.trans hR,(h.F5 hnd hx).1,by rw[h.puts,aa3,zG,hd];simp,fun _=>hne,hs⟩
theorem PU.aoA {r:Nat} {wr wr':World} {v v':Value} {Ms V:BM} {P:List zN} {b b2:VA} {x:Nat×Value×List UInt8} {px:zN} (h:PU f q p S a r w0 wr R v Ms V P b) (hnd:(a.FM.map (·.1)).Nodup) (hx:x∈Ms) (hd:xV S x=true) (hpx:px.1=(x.1,x.2.1)) (hR:Reads S b b2) (hne:b2.SM≠[])
  (hs:Sep w0 wr' (.sl 190 2 v' (P.length+1) (P.flatMap vL++vL px)::ED f q p S b2 (.star (XG a.fb r a.FM (iP Ms x.1)) (.dZ (fG a.FM)))::R)):PU f q p S a r w0 wr' R v' (iP Ms x.1) (V++[x]) (P++[px]) b2:=
 ⟨h.reads.trans hR,(h.F5 hnd hx).1,by rw[kT,h.puts,aa3,zG,hd];simp[hpx],fun _=>hne,by rw[kN,adY];simp only[xL,zF,List.flatMap_nil,yX56];exact hs⟩
end
def jR (S:VS):List (Nat×List UInt8):=((List.range (S.nb-96)).filter fun k=>bk S.cur k !=bk S.D.now (96+k)).map fun k=>(k,bk S.cur k)
def VS.bL (S:VS):DK×Bool:=if jR S=[]then(S.D,true)else lF (bT (jR S)) S.D
def wQ :List uA->fO->fO
 |[],c=>c
 |some x::l,c=>wQ l (c.set x.1 x.2)
 |none::l,c=>wQ l c
theorem KO :∀ {l:List uA} {D D':DK},lF l D=(D',true)->D'.now=wQ l D.now
 |[],D,D',h=>by cases h;rfl
 |none::l,D,D',h=>by
  rw[lF]at h;split at h
  ·cases h
  rw[KO h];(show wQ l (D.fl).now=wQ l D.now);unfold DK.fl;rw[DK.EE]
 |some x::l,D,D',h=>by
  rw[lF]at h;split at h
  ·cases h
  rw[KO h];(show wQ l (D.wr x.1 x.2).now=wQ l (D.now.set x.1 x.2));unfold DK.wr;rw[DK.EE]
theorem xW (xs ys:List uA) (c:fO):wQ (xs++ys) c=wQ ys (wQ xs c):=by
 induction xs generalizing c with
 |nil=>rfl
 |cons x xs ih=>
  cases x with
  |none=>exact ih c
  |some y=>exact ih _
theorem asJ {l:List uA} {c:fO} {j:Nat} (h:∀x∈l,∀i b,x=some (i,b)->i≠j):bk (wQ l c) j=bk c j:=by
 induction l generalizing c with
 |nil=>rfl
 |cons x l ih=>
  cases x with
  |none=>exact ih fun y hy=>h y (AY _ hy)
  |some y=>(show bk (wQ l (c.set y.1 y.2)) j=_);rw[ih fun z hz=>h z (AY _ hz),dN _ _ (fun e=>h (some y) (sK ..) y.1 y.2 rfl e.symm)]
theorem YW :∀(ps:List (Nat×List UInt8)) (c:fO) (k:Nat),(ps.map (·.1)).Nodup->96+k<c.length->bk (wQ (gU ps) c) (96+k)=match ps.find? fun x=>x.1==k with
  |some x=>x.2
  |none=>bk c (96+k)
 |[],c,k,_,_=>rfl
 |x::ps,c,k,hn,hk=>by
  rw[mH,I9]at hn;(show bk (wQ (gU ps) (c.set (96+x.1) x.2)) (96+k)=_);rw[YW ps _ k hn.2 (by rw[uR];exact hk),MS];by_cases e:x.1=k
  ·(have hno:ps.find? (fun y=>y.1==k)=none:=by rw[zI];intro y hy hyk;(have:y.1=k:=by simpa using hyk);exact hn.1 (List.mem_map.2 ⟨y,hy,by rw[this,e]⟩));rw[hno];simp only[e,beq_self_eq_true];rw[wR _ _ _ _ aD,if_pos rfl]
  (have e2:(x.1==k)=false:=by simpa using e);rw[e2];simp only;cases hf:ps.find? (fun y=>y.1==k)with
  |some y=>rfl
  |none=>(show bk (c.set (96+x.1) x.2) (96+k)=_);rw[dN _ _ aD]
theorem EF (l:List uA) (c:fO):(wQ l c).length=c.length:=by
 induction l generalizing c with
 |nil=>rfl
 |cons x l ih=>
  cases x with
  |none=>exact ih c
  |some y=>exact(ih _).trans (uR ..)
theorem aeX {ps:List (Nat×List UInt8)} {c:fO} {k:Nat} (hn:(ps.map (·.1)).Nodup) (hlen:ps.length<=40) (hk:96+k<c.length):bk (wQ (bT ps) c) (96+k)=match ps.find? fun x=>x.1==k with
  |some x=>x.2
  |none=>bk c (96+k):=by
 unfold bT;rw[xW];have e1:∀c':fO,wQ (none::some (0,eQ (ps.map (·.1)))::none::(gU ps++[none,some (0,eQ []),none])) c'=(wQ (gU ps) (c'.set 0 (eQ (ps.map (·.1))))).set 0 (eQ []):=fun c'=>by(show wQ (gU ps++[none,some (0,eQ []),none]) _=_);rw[xW];rfl
 rw[e1,dN _ _ aD,YW ps _ k hn (by rw[uR,EF];exact hk)];have e2:bk ((wQ (lX ps) c).set 0 (eQ (ps.map (·.1)))) (96+k)=bk c (96+k):=by rw[dN _ _ aD];(refine asJ fun x hx i b e=>?_);unfold lX at hx;obtain⟨y,hy,e3⟩:=List.mem_map.1 hx;rw[e]at e3;injection e3 with e4;injection e4 with e5 _;have:=List.snd_lt_of_mem_zipIdx hy;omega
 cases hf:ps.find? (fun y=>y.1==k)with
 |some y=>rfl
 |none=>exact e2
theorem wS (S:VS):(jR S).map (·.1)=(List.range (S.nb-96)).filter fun k=>bk S.cur k !=bk S.D.now (96+k):=by unfold jR;rw[DR];exact List.map_id _
theorem xY (S:VS):((jR S).map (·.1)).Nodup:=by rw[wS];exact List.nodup_range.filter _
theorem M3 {S:VS} {x:Nat×List UInt8} (h:x∈jR S):x.1<S.nb-96/\x.2=bk S.cur x.1/\bk S.cur x.1≠bk S.D.now (96+x.1):=by unfold jR at h;obtain⟨k,hk,rfl⟩:=List.mem_map.1 h;obtain⟨h1,h2⟩:=List.mem_filter.1 hk;exact⟨List.mem_range.1 h1,rfl,by simpa using h2⟩
theorem RS (S:VS) {k:Nat} (hk:k<S.nb-96):(match (jR S).find? fun x=>x.1==k with
  |some x=>x.2
  |none=>bk S.D.now (96+k))=bk S.cur k:=by
 cases hf:(jR S).find? (fun y=>y.1==k)with
 |some y=>(have h1:y.1=k:=by simpa using aa6 hf);have h2:=(M3 (PM hf)).2.1;rw[h1]at h2;exact h2
 |none=>
  rw[zI]at hf;(show bk S.D.now (96+k)=_);by_cases e:bk S.cur k=bk S.D.now (96+k)
  ·exact e.symm
  refine absurd ?_ (hf (k,bk S.cur k) ?_)
  ·simp
  unfold jR;exact List.mem_map.2 ⟨k,List.mem_filter.2 ⟨List.mem_range.2 hk,by simpa using e⟩,rfl⟩
theorem RU {S:VS} (hlen:S.D.now.length=S.nb) (qJ:(jR S).length<=40) (h:S.bL.2=true) {k:Nat} (hk:k<S.nb-96):bk S.bL.1.now (96+k)=bk S.cur k:=by
 unfold VS.bL at h ⊢;by_cases e:jR S=[]
 ·rw[if_pos e];have:=RS S hk;rw[e]at this;exact this
 rw[if_neg e]at h ⊢;have h1:lF (bT (jR S)) S.D=((lF (bT (jR S)) S.D).1,true):=by rw[<-h]
 rw[KO h1,aeX (xY S) qJ aD,RS S hk]
theorem XH {nb:Nat} {ps:List (Nat×List UInt8)} (J9:96<nb) (hps:∀x∈ps,96+x.1<nb/\x.2.length=512) (hlen:ps.length<=40):∀x∈bT ps,∀i b,x=some (i,b)->i<nb/\b.length=512:=by
 intro x hx i b e;subst e;unfold bT at hx;rcases gX.1 hx with hx|hx
 ·unfold lX at hx;obtain⟨y,hy,e⟩:=List.mem_map.1 hx;injection e with e1;injection e1 with e2 e3;subst e2 e3;have h1:=List.snd_lt_of_mem_zipIdx hy;have h2:=List.fst_mem_of_mem_zipIdx hy;exact⟨by omega,(hps _ h2).2⟩
 simp only[iX,gX,reduceCtorEq,YG,Prod.mk.injEq,false_or,MR,or_false]at hx;rcases hx with⟨rfl,rfl⟩|hx|⟨rfl,rfl⟩
 ·exact⟨by omega,qO (by rw[kV];omega)⟩
 ·unfold gU at hx;obtain⟨y,hy,e⟩:=List.mem_map.1 hx;injection e with e1;injection e1 with e2 e3;subst e2 e3;exact hps _ hy
 exact⟨by omega,qO bM⟩
theorem YX {S:VS} (hD:S.D.ok S.nb) (J9:96<S.nb) (aeY:l8 (S.nb-96) S.cur) (qJ:(jR S).length<=40):S.bL.1.ok S.nb:=by
 unfold VS.bL;split
 ·exact hD
 refine amI hD (XH J9 (fun x hx=>?_) qJ);obtain⟨h1,h2,_⟩:=M3 hx;exact⟨by omega,by rw[h2];exact kJ aeY h1⟩
def lG (M V:BM):BM:=V.foldl (fun M x=>iP M x.1++[x]) M
theorem ajB (M V:BM) (x:Nat×Value×List UInt8):lG M (V++[x])=iP (lG M V) x.1++[x]:=by unfold lG;rw[QZ];rfl
theorem YY {M V:BM} {x:Nat×Value×List UInt8} (h:x∈lG M V):x∈V\/(x∈M/\∀y∈V,y.1≠x.1):=by
 induction V generalizing M with
 |nil=>exact .inr ⟨h,fun y hy=>by cases hy⟩
 |cons y V ih=>
  have h2:x∈lG (iP M y.1++[y]) V:=h;rcases ih h2 with h3|⟨h3,h4⟩
  ·exact .inl (AY _ h3)
  rcases gX.1 h3 with h3|h3
  ·unfold iP at h3;obtain⟨h5,h6⟩:=List.mem_filter.1 h3;(have h7:x.1≠y.1:=by simpa using h6);refine .inr ⟨h5,fun z hz=>?_⟩;rcases iX.1 hz with rfl|hz
   ·exact fun e=>h7 e.symm
   exact h4 z hz
  rw[BB]at h3;exact .inl (by rw[h3];exact sK ..)
theorem ajC (M V:BM):∃rest:BM,(lG M V++rest).Perm (M++V):=by
 induction V generalizing M with
 |nil=>exact⟨[],by simp[lG]⟩
 |cons y V ih=>obtain⟨r,hr⟩:=ih (iP M y.1++[y]);refine⟨r++M.filter (fun x=>x.1==y.1),?_⟩;(have e1:(lG M (y::V)++(r++M.filter fun x=>x.1==y.1)).Perm ((iP M y.1++[y])++V++M.filter fun x=>x.1==y.1):=by rw[<-uN];exact hr.append_right _);refine e1.trans ?_;have e2:(M.filter (fun x=>x.1==y.1)++iP M y.1).Perm M:=List.filter_append_perm (fun x=>x.1==y.1) M;(have e3:((iP M y.1++[y])++V++M.filter fun x=>x.1==y.1).Perm ((M.filter fun x=>x.1==y.1)++(iP M y.1++(y::V))):=by refine YK.trans ?_;simp only[uN,List.singleton_append];exact .refl _);refine e3.trans ?_;rw[<-uN];exact e2.append_right _
def VCw (S:VS) (a:VA):Prop:=VC {S with D:= {S.D with off:=false}} a
theorem VCw.on {S:VS} {a:VA} (h:VCw S a) (ho:S.D.off=false):VC S a:=
 ⟨⟨h.pI.now,h.pI.fast,h.pI.few,h.pI.some,h.pI.back,h.pI.left⟩,h.big,ho,h.cur,h.seen,h.fresh,h.rest,h.few,h.none⟩
def VS.settled (S:VS):VS:= {S with D:=S.bL.1,m:=0}
section
variable {w0 w:World} {R:List bK} {f q p:Nat} {S:VS} {a:VA}
theorem RV {l1 l2:List Nat} (h:l1.Perm l2) (h1:l1.Pairwise (· <= ·)) (h2:l2.Pairwise (· <= ·)):l1=l2:=
 h.eq_of_pairwise (fun a b _ _ h3 h4=>Nat.le_antisymm h3 h4) h1 h2
theorem aeZ {V:BM} {P P':List zN} (hC:VC S a) (hnd:(a.FM.map (·.1)).Nodup) (hV:V.Perm a.FM) (hP:P.map (·.1)=(V.filter (xV S)).map fun x=>(x.1,x.2.1)) (hp:P.Perm P') (hs:P'.Pairwise fun x y=>x.1.1<=y.1.1):
  P'.map (fun x=>(x.1.1,bk S.cur x.1.1))=jR S:=by
 have hk:P.map (·.1.1)=(V.filter (xV S)).map (·.1):=by have:=congrArg (List.map Prod.fst) hP;rw[DR,DR]at this;exact this
 have aMS:(V.map (·.1)).Nodup:=(hV.map (·.1)).nodup_iff.2 hnd;have e:P'.map (·.1.1)=(jR S).map (·.1):=by
  refine RV ?_ ?_ ?_
  ·(have h1:(P'.map (·.1.1)).Perm ((V.filter (xV S)).map (·.1)):=by rw[<-hk];exact(hp.map _).symm);refine h1.trans ?_;rw[List.perm_ext_iff_of_nodup (aMS.sublist (Q5.map _)) (xY S)];intro k;rw[wS];constructor
   ·intro hm;obtain⟨x,hx,rfl⟩:=List.mem_map.1 hm;obtain⟨h2,h3⟩:=List.mem_filter.1 hx;have h4:=hC.fresh x (hV.subset h2);refine List.mem_filter.2 ⟨List.mem_range.2 h4.1,?_⟩;unfold xV at h3;rw[h4.2]at h3;exact h3
   intro hm;obtain⟨h2,h3⟩:=List.mem_filter.1 hm;cases hf:dV a.FM k with
   |none=>have:=hC.rest k (List.mem_range.1 h2) hf;rw[this]at h3;simp at h3
   |some y=>have h5:=nC hf;refine List.mem_map.2 ⟨(k,y),List.mem_filter.2 ⟨hV.symm.subset h5,?_⟩,rfl⟩;unfold xV;rw[(hC.fresh _ h5).2];exact h3
  ·rw[XA];exact hs
  rw[wS];exact(List.pairwise_lt_range.imp Nat.le_of_lt).filter _
 have h2:P'.map (fun x=>(x.1.1,bk S.cur x.1.1))=(P'.map (·.1.1)).map fun k=>(k,bk S.cur k):=by rw[DR];rfl
 rw[h2,e,wS];rfl
theorem Sep.abD {As:List bK} {M:BM} {x:Nat×Value×List UInt8} (i:Nat) (h:Sep w0 w As) (hi:As[i]? =some (.dZ (fG M))) (hx:x∈M):BytesAt w x.2.1 x.2.2:=by have e:=(oI hi).1;rw[e]at h;exact(h.perm rF).amH hx
theorem ax0 {V:BM} {P P':List zN} {g n c:Nat} {R':List bK} (hC:VC S a) (hV:V.Perm a.FM) (hP:P.map (·.1)=(V.filter (xV S)).map fun x=>(x.1,x.2.1)) (hp:P.Perm P') (hn:P'.length=n)
  (hS0:Sep w0 w R') (i j:Nat) (hi:R'[i]? =some (.sl 190 2 (sV g n c) n (P'.flatMap vL))) (hj:R'[j]? =some (.dZ (fG a.FM))):
  asK w0 R' g n (P'.map fun x=>(x.1.1,bk S.cur x.1.1)) (P'.map (·.1.2)):=by
 have hmem:∀x∈P',∃y∈a.FM,y.1=x.1.1/\y.2.1=x.1.2/\y.2.2=bk S.cur x.1.1/\y.1<S.nb-96:=fun x hx=>by have h1:x.1∈P.map (·.1):=List.mem_map.2 ⟨x,hp.symm.subset hx,rfl⟩;rw[hP]at h1;obtain⟨y,hy,e⟩:=List.mem_map.1 h1;have h2:=hV.subset (List.mem_filter.1 hy).1;have h3:=hC.fresh y h2;(have e1:y.1=x.1.1:=by rw[<-e]);exact⟨y,h2,e1,by rw[<-e],by rw[<-e1];exact h3.2,h3.1⟩
 have hat:∀(w':World) (X:List bK) (k:Nat),(X++R')[X.length+k]? =R'[k]? :=fun w' X k=>by rw[D6 aD,PN]
 have hk2:∀x,(vL x).length=2:=fun _=>rfl
 refine⟨by rw[kV];exact hn,by rw[kV];exact hn,fun w' X hS k hk=>?_,fun k hk=>?_,fun u hu=>?_⟩
 ·(have h1:=fun j hj=>hS.cellAt (X.length+i) ((hat w' X i).trans hi) j hj);have h2:P'[k]? =some P'[k]:=gE aD;refine⟨?_,?_⟩
  ·have h3:=h1 (k*2) aD;have h4:=flat_get hk2 P' k 0 aQ;rw[sM]at h4;rw[h3,h4,h2];simp[vL]
  have h3:=h1 (k*2+1) aD;rw[h3,flat_get hk2 P' k 1 aQ,h2];simp[vL]
 ·intro w' X hS;obtain⟨y,hy,_,e2,e3,_⟩:=hmem (P'[k]'aD) (tK _);have h5:=hS.abD (X.length+j) ((hat w' X j).trans hj) hy;rw[e2,e3]at h5;simpa using h5
 obtain⟨x,hx,rfl⟩:=List.mem_map.1 hu;obtain⟨y,hy,e1,e2,e3,e4⟩:=hmem x hx;have h5:=hS0.abD j hj hy;obtain⟨_,A,c',e,_⟩:=h5;rw[e3,kJ hC.cur (by rw[<-e1];exact e4),e2]at e;exact⟨A,c',e⟩
theorem ax1 {V:BM} {P P':List zN} (hC:VC S a) (hps:P'.map (fun x=>(x.1.1,bk S.cur x.1.1))=jR S) (h1:1<=P'.length) (h40:P'.length<=40):asL S.nb (P'.map fun x=>(x.1.1,bk S.cur x.1.1)):=by
 refine⟨by rw[kV];exact h1,by rw[kV];exact h40,fun x hx=>?_,?_⟩
 ·rw[hps]at hx;obtain⟨h2,h3,_⟩:=M3 hx;have:=hC.big;exact⟨by omega,by rw[h3];exact kJ hC.cur h2⟩
 rw[hps];exact xY S
def YZ :Option Nat->BM->bK
 |none,_=>.emp
 |some b,M=>rP 3 b (jK M)
theorem Sep.ajD {sb:Option Nat} {M:BM} (hn:sb=none->M=[]) (h:Sep w0 w (fH sb M::R)):Sep w0 w (YZ sb M:: .dZ (fG M)::R):=by
 cases sb with
 |none=>rw[hn rfl];exact(h.aeJ).wK.wK
 |some b=>exact h.kX
theorem Sep.aoB {sb:Option Nat} {M V FM:BM} (hV:V.Perm FM) (hn:sb=none->M=[]/\V=[]) (h:Sep w0 w (YZ sb (lG M V):: .dZ (fG M):: .dZ (fG FM)::R)):Sep w0 w (fH sb (lG M V)::R):=by
 cases sb with
 |none=>exact((h.drop 3).wK)
 |some b=>obtain⟨rest,hr⟩:=ajC M V;have h1:Sep w0 w (.dZ (fG M):: .dZ (fG FM)::rP 3 b (jK (lG M V))::R):=Sep.dE [1,2,0] h aQ bM;have h2:Sep w0 w (fG M++(.dZ (fG FM)::rP 3 b (jK (lG M V))::R)):=h1.bE;have h3:Sep w0 w (.dZ (fG FM)::(fG M++(rP 3 b (jK (lG M V))::R))):=h2.perm rF;have h4:Sep w0 w (fG FM++(fG M++(rP 3 b (jK (lG M V))::R))):=h3.bE;(have e:(fG FM++(fG M++(rP 3 b (jK (lG M V))::R))).Perm (fG (lG M V)++(fG rest++(rP 3 b (jK (lG M V))::R))):=by rw[<-uN,<-uN];refine List.Perm.append_right _ ?_;(have h5:(fG (lG M V)++fG rest).Perm (fG M++fG V):=by have:=hr.map (fun x:Nat×Value×List UInt8=>aL x.2.1 x.2.2);rw[kT,kT]at this;exact this);exact(YK.trans (YD _ (hV.symm.map _))).trans h5.symm);have h5:=h4.perm e;have h6:Sep w0 w (fG rest++(.dZ (fG (lG M V))::rP 3 b (jK (lG M V))::R)):=(h5.dG).perm rF.symm;have h7:=h6.drop (fG rest).length;rw[XD]at h7;exact(h7.perm (List.Perm.swap _ _ _)).nW
theorem ajE {b:VA} {V:BM} (hC:VC S a) (hR:Reads S a b) (hV:V.Perm a.FM) (hm:S.m<=40) (hc:S.bL.2=true) (hne:a.FM≠[]->b.SM≠[]) (nb:Nat):VCw S.settled ⟨b.sb,lG b.SM V,nb,[]⟩:=by
 have qJ:(jR S).length<=40:=by
  have h1:((jR S).map (·.1)).length<=(a.FM.map (·.1)).length:=anW (xY S) fun k hk=>by
   rw[wS]at hk;obtain⟨h2,h3⟩:=List.mem_filter.1 hk;cases hf:dV a.FM k with
   |none=>rw[hC.rest k (List.mem_range.1 h2) hf]at h3;simp at h3
   |some y=>exact List.mem_map.2 ⟨(k,y),nC hf,rfl⟩
  rw[kV,kV]at h1;have:=hC.few;omega
 have aoC:=fun k hk=>RU (S:=S) hC.pI.now.len qJ hc (k:=k) hk
 have hok:=YX hC.pI hC.big hC.cur qJ;refine⟨⟨hok.now,hok.fast,hok.few,hok.some,hok.back,hok.left⟩,hC.big,rfl,hC.cur,fun x hx=>?_,(fun x hx=>absurd hx MR),fun k hk _=>(aoC k hk).symm,iF _,fun hs=>?_⟩
 ·rcases YY hx with h1|⟨h1,h2⟩
  ·have h3:=hC.fresh x (hV.subset h1);exact⟨h3.1,by rw[h3.2];exact(aoC _ h3.1).symm⟩
  have h3:=hR.ok.seen x h1;refine⟨h3.1,?_⟩;have hf:dV a.FM x.1=none:=by
   cases hf:dV a.FM x.1 with
   |none=>rfl
   |some y=>exact(h2 (x.1,y) (hV.symm.subset (nC hf)) rfl).elim
  rw[h3.2,<-hC.rest x.1 h3.1 hf];exact(aoC _ h3.1).symm
 have h1:=hR.ok.none hs;have h2:a.FM=[]:=by
  by_cases e:a.FM=[]
  ·exact e
  exact absurd h1 (hne e)
 have h3:V=[]:=by rw[h2]at hV;exact List.Perm.eq_nil hV
 show lG b.SM V=[]
 rw[h1,h3];rfl
structure ajF (f q p:Nat) (S:VS) (a b:VA) (D:DK) (r:Nat) (w0 wr:World) (R:List bK) (Ms V:BM):Prop where
 perm:(V++Ms).Perm a.FM
 sep:Sep w0 wr (XG a.fb r a.FM Ms::YZ b.sb (lG b.SM V):: .dZ (fG b.SM):: .dZ (fG a.FM)::l7 f q S b.sb (.map (some a.fb)) false::aG q p false::aN p D::R)
end
end Go.Proofs.YteihmbaimbogaaaGreat
