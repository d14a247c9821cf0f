/- Parts. -/
import Derived.Test.YtmjomdkleikgbaaGreatK12
import Derived.Shelf.SlLaysF0
import Derived.Shelf.SlLaysM
import Derived.Shelf.Lays
import Derived.Ground.SlsfProg
import Derived.Ground.SlgmProg
import Derived.Ground.NamesProg
import Derived.Shelf.SlSortCmp.NoneTotal
set_option linter.unusedVariables false
set_option linter.unusedSimpArgs false
set_option maxRecDepth 100000
set_option maxHeartbeats 20000000
namespace Go.Proofs
open Go.Shelf
def Tryz.sortPuts_ren :Go.Shelf.Ren:=⟨fun|6=>165|15=>174|14=>189|28=>201|29=>202|20=>211|21=>212|22=>213|23=>214|24=>215|25=>216|26=>217|27=>218|46=>231|47=>220|48=>221|49=>232|50=>233|57=>237|n=>n,fun|22=>206|24=>208|25=>210|3=>3|39=>204|0=>0|53=>246|55=>248|4=>4|46=>239|45=>238|50=>106|5=>5|9=>9|66=>260|70=>264|76=>272|77=>90|n=>n,fun|n=>n⟩
theorem Tryz.sortPuts :Go.Proofs.SlLaysF0.n6 Tryz.prog Tryz.sortPuts_ren:= {
 mixed:=by kernel_rfl
 f6:=⟨Tryz.f165.name,by decide,Tryz.func165.trans (congrArg some (by kernel_rfl))⟩
 f14:=⟨Tryz.f189.name,by decide,Tryz.func189.trans (congrArg some (by kernel_rfl))⟩
 f15:=Tryz.func174.trans (congrArg some (by kernel_rfl))
 f20:=⟨Tryz.f211.name,by decide,Tryz.func211.trans (congrArg some (by kernel_rfl))⟩
 f21:=⟨Tryz.f212.name,by decide,Tryz.func212.trans (congrArg some (by kernel_rfl))⟩
 f22:=⟨Tryz.f213.name,by decide,Tryz.func213.trans (congrArg some (by kernel_rfl))⟩
 f23:=⟨Tryz.f214.name,by decide,Tryz.func214.trans (congrArg some (by kernel_rfl))⟩
 f24:=⟨Tryz.f215.name,by decide,Tryz.func215.trans (congrArg some (by kernel_rfl))⟩
 f25:=⟨Tryz.f216.name,by decide,Tryz.func216.trans (congrArg some (by kernel_rfl))⟩
 f26:=⟨Tryz.f217.name,by decide,Tryz.func217.trans (congrArg some (by kernel_rfl))⟩
 f27:=⟨Tryz.f218.name,by decide,Tryz.func218.trans (congrArg some (by kernel_rfl))⟩
 f28:=Tryz.func201.trans (congrArg some (by kernel_rfl))
 f29:=Tryz.func202.trans (congrArg some (by kernel_rfl))
 f46:=⟨Tryz.f231.name,by decide,Tryz.func231.trans (congrArg some (by kernel_rfl))⟩
 f47:=Tryz.func220.trans (congrArg some (by kernel_rfl))
 f48:=Tryz.func221.trans (congrArg some (by kernel_rfl))
 f49:=⟨Tryz.f232.name,by decide,Tryz.func232.trans (congrArg some (by kernel_rfl))⟩
 f50:=⟨Tryz.f233.name,by decide,Tryz.func233.trans (congrArg some (by kernel_rfl))⟩
 f57:=⟨Tryz.f237.name,by decide,Tryz.func237.trans (congrArg some (by kernel_rfl))⟩
 t0:=Tryz.underlying0
 a0:=Tryz.isAgg0
 z0:=Tryz.sizeOf0
 v0:=Tryz.zeroValue0
 t3:=Tryz.underlying3
 a3:=Tryz.isAgg3
 z3:=Tryz.sizeOf3
 v3:=Tryz.zeroValue3
 t4:=Tryz.underlying4
 a4:=Tryz.isAgg4
 z4:=Tryz.sizeOf4
 v4:=Tryz.zeroValue4
 t5:=Tryz.underlying5
 a5:=Tryz.isAgg5
 z5:=Tryz.sizeOf5
 v5:=Tryz.zeroValue5
 t9:=Tryz.underlying9
 a9:=Tryz.isAgg9
 z9:=Tryz.sizeOf9
 v9:=Tryz.zeroValue9
 t22:=Tryz.underlying206
 a22:=Tryz.isAgg206
 z22:=Tryz.sizeOf206
 v22:=Tryz.zeroValue206
 t25:=Tryz.underlying210
 a25:=Tryz.isAgg210
 z25:=Tryz.sizeOf210
 v25:=Tryz.zeroValue210
 t39:=Tryz.underlying204
 a39:=Tryz.isAgg204
 z39:=Tryz.sizeOf204
 v39:=Tryz.zeroValue204
 t45:=Tryz.underlying238
 a45:=Tryz.isAgg238
 z45:=Tryz.sizeOf238
 v45:=Tryz.zeroValue238
 t46:=Tryz.underlying239
 a46:=Tryz.isAgg239
 z46:=Tryz.sizeOf239
 v46:=Tryz.zeroValue239
 t50:=Tryz.underlying106
 a50:=Tryz.isAgg106
 z50:=Tryz.sizeOf106
 v50:=Tryz.zeroValue106
 t53:=Tryz.underlying246
 a53:=Tryz.isAgg246
 z53:=Tryz.sizeOf246
 v53:=Tryz.zeroValue246
 t55:=Tryz.underlying248
 a55:=Tryz.isAgg248
 z55:=Tryz.sizeOf248
 v55:=Tryz.zeroValue248
 t66:=Tryz.underlying260
 a66:=Tryz.isAgg260
 z66:=Tryz.sizeOf260
 v66:=Tryz.zeroValue260
 t70:=Tryz.underlying264
 a70:=Tryz.isAgg264
 z70:=Tryz.sizeOf264
 v70:=Tryz.zeroValue264
 t76:=Tryz.underlying272
 a76:=Tryz.isAgg272
 z76:=Tryz.sizeOf272
 v76:=Tryz.zeroValue272
 t77:=Tryz.underlying90
 a77:=Tryz.isAgg90
 z77:=Tryz.sizeOf90
 v77:=Tryz.zeroValue90}
def Tryz.sortStrings_ren :Go.Shelf.Ren:=⟨fun|6=>109|8=>174|9=>173|19=>201|20=>202|21=>192|22=>193|23=>194|24=>195|25=>196|26=>197|27=>198|28=>199|29=>200|36=>219|31=>220|32=>221|37=>222|38=>223|39=>224|41=>234|n=>n,fun|27=>73|29=>9|3=>3|32=>204|26=>73|0=>0|44=>246|46=>248|4=>4|36=>239|35=>238|41=>106|5=>5|9=>9|53=>260|57=>264|63=>272|64=>90|n=>n,fun|n=>n⟩
theorem Tryz.sortStrings :Go.Proofs.SlLaysM.n6 Tryz.prog Tryz.sortStrings_ren:= {
 mixed:=by kernel_rfl
 f6:=⟨Tryz.f109.name,by decide,Tryz.func109.trans (congrArg some (by kernel_rfl))⟩
 f8:=Tryz.func174.trans (congrArg some (by kernel_rfl))
 f9:=⟨Tryz.f173.name,by decide,Tryz.func173.trans (congrArg some (by kernel_rfl))⟩
 f19:=Tryz.func201.trans (congrArg some (by kernel_rfl))
 f20:=Tryz.func202.trans (congrArg some (by kernel_rfl))
 f21:=⟨Tryz.f192.name,by decide,Tryz.func192.trans (congrArg some (by kernel_rfl))⟩
 f22:=⟨Tryz.f193.name,by decide,Tryz.func193.trans (congrArg some (by kernel_rfl))⟩
 f23:=⟨Tryz.f194.name,by decide,Tryz.func194.trans (congrArg some (by kernel_rfl))⟩
 f24:=⟨Tryz.f195.name,by decide,Tryz.func195.trans (congrArg some (by kernel_rfl))⟩
 f25:=⟨Tryz.f196.name,by decide,Tryz.func196.trans (congrArg some (by kernel_rfl))⟩
 f26:=⟨Tryz.f197.name,by decide,Tryz.func197.trans (congrArg some (by kernel_rfl))⟩
 f27:=⟨Tryz.f198.name,by decide,Tryz.func198.trans (congrArg some (by kernel_rfl))⟩
 f28:=⟨Tryz.f199.name,by decide,Tryz.func199.trans (congrArg some (by kernel_rfl))⟩
 f29:=⟨Tryz.f200.name,by decide,Tryz.func200.trans (congrArg some (by kernel_rfl))⟩
 f31:=Tryz.func220.trans (congrArg some (by kernel_rfl))
 f32:=Tryz.func221.trans (congrArg some (by kernel_rfl))
 f36:=⟨Tryz.f219.name,by decide,Tryz.func219.trans (congrArg some (by kernel_rfl))⟩
 f37:=⟨Tryz.f222.name,by decide,Tryz.func222.trans (congrArg some (by kernel_rfl))⟩
 f38:=⟨Tryz.f223.name,by decide,Tryz.func223.trans (congrArg some (by kernel_rfl))⟩
 f39:=⟨Tryz.f224.name,by decide,Tryz.func224.trans (congrArg some (by kernel_rfl))⟩
 f41:=⟨Tryz.f234.name,by decide,Tryz.func234.trans (congrArg some (by kernel_rfl))⟩
 t0:=Tryz.underlying0
 a0:=Tryz.isAgg0
 z0:=Tryz.sizeOf0
 v0:=Tryz.zeroValue0
 t3:=Tryz.underlying3
 a3:=Tryz.isAgg3
 z3:=Tryz.sizeOf3
 v3:=Tryz.zeroValue3
 t4:=Tryz.underlying4
 a4:=Tryz.isAgg4
 z4:=Tryz.sizeOf4
 v4:=Tryz.zeroValue4
 t5:=Tryz.underlying5
 a5:=Tryz.isAgg5
 z5:=Tryz.sizeOf5
 v5:=Tryz.zeroValue5
 t9:=Tryz.underlying9
 a9:=Tryz.isAgg9
 z9:=Tryz.sizeOf9
 v9:=Tryz.zeroValue9
 t26:=Tryz.underlying73
 a26:=Tryz.isAgg73
 z26:=Tryz.sizeOf73
 v26:=Tryz.zeroValue73
 t27:=Tryz.underlying73
 a27:=Tryz.isAgg73
 z27:=Tryz.sizeOf73
 v27:=Tryz.zeroValue73
 t29:=Tryz.underlying9
 a29:=Tryz.isAgg9
 z29:=Tryz.sizeOf9
 v29:=Tryz.zeroValue9
 t32:=Tryz.underlying204
 a32:=Tryz.isAgg204
 z32:=Tryz.sizeOf204
 v32:=Tryz.zeroValue204
 t35:=Tryz.underlying238
 a35:=Tryz.isAgg238
 z35:=Tryz.sizeOf238
 v35:=Tryz.zeroValue238
 t36:=Tryz.underlying239
 a36:=Tryz.isAgg239
 z36:=Tryz.sizeOf239
 v36:=Tryz.zeroValue239
 t41:=Tryz.underlying106
 a41:=Tryz.isAgg106
 z41:=Tryz.sizeOf106
 v41:=Tryz.zeroValue106
 t44:=Tryz.underlying246
 a44:=Tryz.isAgg246
 z44:=Tryz.sizeOf246
 v44:=Tryz.zeroValue246
 t46:=Tryz.underlying248
 a46:=Tryz.isAgg248
 z46:=Tryz.sizeOf248
 v46:=Tryz.zeroValue248
 t53:=Tryz.underlying260
 a53:=Tryz.isAgg260
 z53:=Tryz.sizeOf260
 v53:=Tryz.zeroValue260
 t57:=Tryz.underlying264
 a57:=Tryz.isAgg264
 z57:=Tryz.sizeOf264
 v57:=Tryz.zeroValue264
 t63:=Tryz.underlying272
 a63:=Tryz.isAgg272
 z63:=Tryz.sizeOf272
 v63:=Tryz.zeroValue272
 t64:=Tryz.underlying90
 a64:=Tryz.isAgg90
 z64:=Tryz.sizeOf90
 v64:=Tryz.zeroValue90}
def Tryz.lastIndexByte_ren :Go.Shelf.Ren:=⟨fun|149=>171|222=>191|n=>n,fun|9=>9|5=>5|3=>3|4=>4|n=>n,fun|n=>n⟩
theorem Tryz.lastIndexByte :Go.Proofs.Lays.n149 Tryz.prog Tryz.lastIndexByte_ren:= {
 mixed:=by kernel_rfl
 f149:=Tryz.func171.trans (congrArg some (by kernel_rfl))
 f222:=Tryz.func191.trans (congrArg some (by kernel_rfl))
 t3:=Tryz.underlying3
 a3:=Tryz.isAgg3
 z3:=Tryz.sizeOf3
 v3:=Tryz.zeroValue3
 t4:=Tryz.underlying4
 a4:=Tryz.isAgg4
 z4:=Tryz.sizeOf4
 v4:=Tryz.zeroValue4
 t5:=Tryz.underlying5
 a5:=Tryz.isAgg5
 z5:=Tryz.sizeOf5
 v5:=Tryz.zeroValue5
 t9:=Tryz.underlying9
 a9:=Tryz.isAgg9
 z9:=Tryz.sizeOf9
 v9:=Tryz.zeroValue9}
def Tryz.indexByte_ren :Go.Shelf.Ren:=⟨fun|137=>209|217=>229|266=>236|n=>n,fun|9=>9|5=>5|3=>3|n=>n,fun|n=>n⟩
theorem Tryz.indexByte :Go.Proofs.Lays.n137 Tryz.prog Tryz.indexByte_ren:= {
 mixed:=by kernel_rfl
 f137:=Tryz.func209.trans (congrArg some (by kernel_rfl))
 f217:=Tryz.func229.trans (congrArg some (by kernel_rfl))
 f266:=Tryz.func236.trans (congrArg some (by kernel_rfl))
 t3:=Tryz.underlying3
 a3:=Tryz.isAgg3
 z3:=Tryz.sizeOf3
 v3:=Tryz.zeroValue3
 t5:=Tryz.underlying5
 a5:=Tryz.isAgg5
 z5:=Tryz.sizeOf5
 v5:=Tryz.zeroValue5
 t9:=Tryz.underlying9
 a9:=Tryz.isAgg9
 z9:=Tryz.sizeOf9
 v9:=Tryz.zeroValue9}
end Go.Proofs
namespace Go.Proofs.YtmjomdkleikgbaaGreat
open Go.RowKit Go.Sort
theorem Sep.aj8 {w0 w:World} {As:List aW} {e:TypeId} {sz g m cap:Nat} {cs:List Value} (k:Nat) (h:Sep w0 w As)
  (hi:As[k]? =some (.sl e sz (sV g m cap) m cs)) (n:Nat) (F:Array Value) (hF0:F.size=m*sz) (os:Array Obj):
  Sep w0 (Go.Proofs.sortWorld id w g 0 n F os) (As.set k (.sl e sz (sV g m cap) m F.toList)):=by
 have hhp:∀b,b<w.heap.size->(Go.Proofs.sortWorld id w g 0 n F os).heap[b]? =if g=b then w.heap[b]?.map (Go.Sort.onCells (Go.Sort.putCells id 0 F))else w.heap[b]? :=fun b hb=>by exact Z37
 refine h.step k hi fun F' ⟨ho,hF⟩ _=>⟨F',⟨⟨by simp[hF0],?_⟩,hF⟩,fun b hb=>.inl hb,?_⟩
 ·rcases ho.2 with⟨h',_⟩|⟨g',cap',cur,h',hb,hg,hc,hm,hs,ht⟩
  ·simp at h'
  simp only[Value.slice.injEq,VQ,Addr.mk.injEq,and_true,true_and]at h';obtain⟨rfl,rfl⟩:=h';refine .inr ⟨g,cap,Go.Sort.putCells id 0 F cur,rfl,hb,?_,hc,hm,by simpa[Go.Sort.putCells]using hs,?_⟩
  ·rw[hhp g (lt_of_heap hg),if_pos rfl,hg];rfl
  (have hle:m*sz<=cur.size:=by rw[hs];exact OP _ hc);apply GV;intro i;by_cases hi:i<m*sz
  ·(have hc2:i<cur.size:=by omega);simp[Go.Sort.putCells,hF0,hi,hc2]
  rw[FK E8,FK E8]
 refine⟨rfl,rfl,rfl,by simp[Go.Proofs.sortWorld,Go.Sort.grow,Go.Sort.putRow,Go.Sort.mapBlock,Go.Sort.ahead],fun b hb hn=>?_⟩;rw[hhp b hb,if_neg];intro e;subst e;exact hn (by rw[hF];simp[Value.ownBlock])
theorem flat_get {α:Type} {enc:α->List Value} {k:Nat} (hk:∀x,(enc x).length=k):∀(l:List α) (i j:Nat),j<k->(l.flatMap enc)[i*k+j]? =(l[i]?).bind fun x=>(enc x)[j]?
 |[],i,j,_=>by simp
 |x::l,0,j,hj=>by rw[xI,L8,GZ,EI (by rw[hk];exact hj)];rfl
 |x::l,i+1,j,hj=>by rw[xI,vT (by rw[hk,VY];omega),hk,show(i+1)*k+j-k=i*k+j by rw[VY];omega];exact flat_get hk l i j hj
theorem acG {α:Type} {enc:α->List Value} {k:Nat} (hk:∀x,(enc x).length=k) (l:List α):(l.flatMap enc).length=l.length*k:=by
 induction l with
 |nil=>simp
 |cons x l ih=>rw[xI,jM,hk,ih,kH,VY];omega
theorem yU {α:Type} [Inhabited α] {enc:α->List Value} {k:Nat} (hk:∀x,(enc x).length=k) (hk0:0<k) (d:Array α):(flatK enc k d).toList=d.toList.flatMap enc:=by
 apply GV;intro t;by_cases ht:t<d.size*k
 ·(have e:t=t/k*k+t%k:=by rw[O4];exact(Nat.div_add_mod t k).symm);have h1:t/k<d.size:=Nat.div_lt_of_lt_mul (by rw[O4];exact ht);have h2:t%k<k:=Nat.mod_lt _ hk0;have h3:(d.toList.flatMap enc)[t]? =(enc (d[t/k]'h1))[t%k]? :=by
   conv=>lhs;rw[e]
   rw[flat_get hk _ _ _ h2];simp[h1]
  rw[h3];(have h4:t<(flatK enc k d).toList.length:=by simpa using ht);rw[gE h4,gE (by rw[hk];exact h2)];have:=get_flatK enc k d t ht;rw[getElem!_pos (flatK enc k d) t (by simpa using ht),getElem!_pos d (t/k) h1,getElem!_pos (enc _) (t%k) (by rw[hk];exact h2)]at this;simpa using this
 rw[FK E8,FK (by rw[acG hk];simp;omega)]
def xQ :Type:= {x:Nat×Value//x.1<=4096/\∃A n c,x.2= .slice A n c}
instance :Inhabited xQ:=⟨⟨(0,.slice none 0 0),by decide,none,0,0,rfl⟩⟩
def tN (x:xQ):List Value:=[.int .i64 (x.1.1:Nat),x.1.2]
def cfP (x y:xQ):Int:=(x.1.1:Int)-y.1.1
theorem ltP (x y:xQ):Go.Proofs.ltOf cfP x y=decide (x.1.1<y.1.1):=by unfold Go.Proofs.ltOf cfP;rw[Bool.eq_iff_iff,jN,jN];omega
theorem aIV :Go.Sort.SWO (Go.Proofs.ltOf cfP):=⟨fun x=>by rw[ltP];simp,fun x y z h1 h2=>by rw[ltP]at*;simp at*;omega,fun x y z h1 h2=>by rw[ltP]at*;simp at*;omega⟩
theorem amA (w:World):(isAgg 208).run Tryz.prog w= .ok true w:=by kernel_rfl
theorem agR (w:World):(Go.sizeOf 208).run Tryz.prog w= .ok 2 w:=by kernel_rfl
theorem aqC (x y:xQ) (W:World):Calls Tryz.prog 166 #[.agg #[iV (x.1.1:Nat),x.1.2],.agg #[iV (y.1.1:Nat),y.1.2]] W fun e w'=>e= .returned (iV (cfP x y))/\∃q os',w'=grow (W.drewN q) os':=by
 obtain⟨⟨xa,xv⟩,hx,A,n,c,e⟩:=x;obtain⟨⟨ya,yv⟩,hy,B,m,d,e2⟩:=y;simp only at hx hy e e2;subst e e2;have b1:(xa:Int)<=4096:=by omega
 have b2:(ya:Int)<=4096:=by omega
 unfold cfP;simp only;go_enter Tryz.func166,Tryz.ntmps166;go_wp2_with fail;go_ret;exact⟨rfl,0,_,by rw[alloc_eq_grow,alloc_eq_grow,grow_grow];rfl⟩
theorem amB {w0 w:World} {R:List aW} {v:Value} {P:List xQ} (h:Sep w0 w (.sl 208 2 v P.length (P.flatMap tN)::R)) (hP:P.length<=5000):
  Calls Tryz.prog 165 #[v,.func (.func 166) #[] #[]] w fun e w'=>e= .returned (.tuple #[])/\∃P':List xQ,P.Perm P'/\P'.Pairwise (fun x y=>x.1.1<=y.1.1)/\Sep w0 w' (.sl 208 2 v P.length (P'.flatMap tN)::R):=by
 rcases yL P.length with h0|hpos
 ·obtain rfl:P=[]:=vS h0;obtain⟨A,cap,rfl,_⟩:=h.gL 0 rfl;have hcon:=Go.Proofs.AnyF.slices_SortFunc_none (P:=Tryz.prog) Go.Proofs.Tryz.sortPuts A cap (.func (.func 166) #[] #[]) w;change Calls Tryz.prog 165 _ _ _ at hcon;refine hcon.mono ?_;rintro e w' ⟨rfl,rfl⟩;exact⟨rfl,[],.refl _,.nil,h⟩
 obtain⟨g,cap,rfl,_,hg,hc1,hc2⟩:=h.kC 0 rfl hpos;have hk:∀x,(tN x).length=2:=fun _=>rfl
 have h1:∀x,∀v∈tN x,v.oneCell'=true:=fun x v hv=>by obtain⟨⟨xa,xv⟩,_,A,n,c,e⟩:=x;simp only at e;subst e;simp[tN]at hv;rcases hv with rfl|rfl<;>rfl
 have hH:HoldsK tN 2 w g 0 P.toArray:=fun j hj=>by rw[GZ];(have hj':j<P.length*2:=by simpa using hj);refine⟨?_,h.frozenAt 0 rfl j⟩;rw[h.cellAt 0 rfl j aD,<-yU hk aR P.toArray];rw[getElem!_pos _ j hj];simp at hj ⊢
 have eg:∀args w,(callFunc 166 args).run Tryz.prog w= .ok (.enter 166 args) w:=Go.Proofs.enters_of Tryz.func166 fE rfl;have hcon:=Go.Proofs.AnyQ.slices_SortFunc Go.Proofs.Tryz.sortPuts 2 amA agR tN hk h1 cfP aIV 166 #[] g 0 cap P.toArray w eg (fun _ _ _ _ x y=>aqC x y _) hH hg E8;change Calls Tryz.prog 165 _ _ _ at hcon;simp only[uB]at hcon;refine hcon.mono ?_;rintro e w' ⟨rfl,d',n,os,hp,hs,rfl⟩;have hds:d'.size=P.length:=hp.1;have hperm:P.Perm d'.toList:=by have h9:=hp.2.2;(have e1:d'.extract 0 P.length=d':=by rw[<-hds];exact Array.extract_size);rw[e1]at h9;(have e2:(P.toArray.extract 0 P.length).toList=P:=by simp);rw[e2]at h9;exact h9.symm
 refine⟨rfl,d'.toList,hperm,?_,?_⟩
 ·rw[EX];intro i j hi hj hij;have:=hs i j aD hij (by simpa[hds]using hj);rw[ltP]at this;simp at this hi hj ⊢;rw[getElem!_pos d' i aD,getElem!_pos d' j aD]at this;exact this
 have h5:=h.aj8 0 rfl n (flatK tN 2 d') (by simp[hds]) os;rw[yU hk aR]at h5;exact h5
end Go.Proofs.YtmjomdkleikgbaaGreat
namespace Go.Proofs.YtmjomdkleikgbaaGreat
open Go.RowKit
theorem aqD :(Tryz.prog.info? 208).map (fun i=>(i.zero,i.size,i.bytes))=some (some (.agg #[iV 0,.slice none 0 0]),2,32):=by kernel_rfl
def wF (S:VS) (x:Nat×Value×List UInt8):Bool:= !(x.2.2==bk S.D.now (96+x.1))
abbrev UN (fb r:Nat) (FM Ms:BM):aW:=wG 3 fb r (iK FM).length (iK FM) (iK Ms)
section
variable {w0 w:World} {R:List aW} {f q p:Nat} {S:VS} {a:VA}
theorem Sep.agS {A B C:aW} (h:Sep w0 w (C::BF f q p S a (.star A B)::R)):Sep w0 w (A::B::kF f q S a.sb (.map (some a.fb)) false::aG q p false::aO p S.D::dY a.sb a.SM::C::R):=by have h1:Sep w0 w (H5 f q p S a (.star A B)++(C::R)):=(h.perm (List.Perm.swap _ _ _)).bG;have h2:Sep w0 w (.star A B::kF f q S a.sb (.map (some a.fb)) false::aG q p false::aO p S.D::dY a.sb a.SM::C::R):=Sep.dB [4,0,1,2,3,5] h1 aR (by simp[H5]);exact h2.jO
theorem Sep.ay2 {A B C:aW} (h:Sep w0 w (A::B::kF f q S a.sb (.map (some a.fb)) false::aG q p false::aO p S.D::dY a.sb a.SM::C::R)):Sep w0 w (C::BF f q p S a (.star A B)::R):=by have h2:=h.mD;have h3:Sep w0 w (H5 f q p S a (.star A B)++(C::R)):=Sep.dB [1,2,3,4,0,5] h2 aR bK;exact(h3.dC).perm (List.Perm.swap _ _ _)
theorem Sep.aj9 {M:BM} {x:Nat×Value×List UInt8} (h:Sep w0 w (.dU (eG M)::R)) (hx:x∈M):BytesAt w x.2.1 x.2.2:=by have h2:Sep w0 w (eG M++R):=h.bG;obtain⟨j,hj,e⟩:=OQ hx;exact Z31
theorem Sep.av4 {M:aW} (h:Sep w0 w (BF f q p S a M::R)) {k:Nat} {v:Value} {bs:List UInt8} (hf:dO a.SM k=some (v,bs)) (hn:a.sb=none->a.SM=[]):BytesAt w v bs:=by have h1:=h.bG;exact Z42
theorem Sep.acH {As:List aW} {fb r:Nat} {FM Ms:BM} (h:Sep w0 w (UN fb r FM Ms::As)) (ty:TypeId):
  (Ms=[]/\(Instr.next (pV r) false ty).run Tryz.prog w= .ok (.tuple #[.bool false]) w)\/
  ∃x w',x∈Ms/\(Instr.next (pV r) false ty).run Tryz.prog w= .ok (.tuple #[.bool true,iV (x.1:Nat),x.2.1]) w'/\Sep w0 w' (UN fb r FM (gY Ms x.1)::As)/\(Instr.entry (pV r)).run Tryz.prog w'= .ok (.tuple #[iV (x.1:Nat),x.2.1]) w':=by
 rcases h.MI 0 rfl dN ty with⟨h1,h2⟩|⟨key,v,kl,w',h1,h2,h3,h4,_,h5⟩
 ·refine .inl ⟨?_,h2⟩;unfold iK at h1;exact List.map_eq_nil_iff.1 h1
 right;unfold iK at h2;obtain⟨x,hx,e⟩:=List.mem_map.1 h2;obtain⟨y,e1,e2,_⟩:=Maps.keyOf_int_inv Tryz.underlying3 h1;injection e with e3 e4;rw[e2]at e3;unfold H7 at e3;injection e3 with _ e5;subst e5 e4;subst e1;refine⟨x,w',hx,h3,?_,h5⟩;have e6:kl=H7 x.1:=e2;rw[e6,acI]at h4;exact h4
theorem WB {M:BM} {x:Nat×Value×List UInt8} (hn:(M.map (·.1)).Nodup) (hx:x∈M):M.Perm (x::gY M x.1):=by
 induction M with
 |nil=>cases hx
 |cons y M ih=>
  rw[jV,xJ]at hn;rcases kE.1 hx with rfl|hx
  ·(have e:gY (x::M) x.1=M:=by unfold gY;rw[yM];simp only[beq_self_eq_true,Bool.not_true,J4,if_false];rw[EZ];intro z hz;simp only[LX,jU];intro e;exact hn.1 (List.mem_map.2 ⟨z,hz,e⟩));rw[e]
  (have hne:y.1≠x.1:=fun e=>hn.1 (List.mem_map.2 ⟨x,hx,e.symm⟩));(have e:gY (y::M) x.1=y::gY M x.1:=by unfold gY;rw[yM];simp[hne]);rw[e];exact(List.Perm.cons _ (ih hn.2 hx)).trans (List.Perm.swap _ _ _)
structure NB (f q p:Nat) (S:VS) (a:VA) (r:Nat) (w0 wr:World) (R:List aW) (v:Value) (Ms V:BM) (P:List xQ) (b:VA):Prop where
 reads:Reads S a b
 perm:(V++Ms).Perm a.FM
 puts:P.map (·.1)=(V.filter (wF S)).map fun x=>(x.1,x.2.1)
 read:V≠[]->b.SM≠[]
 sep:Sep w0 wr (.sl 208 2 v P.length (P.flatMap tN)::BF f q p S b (.star (UN a.fb r a.FM Ms) (.dU (eG a.FM)))::R)
theorem NB.DT {r:Nat} {wr:World} {v:Value} {Ms V:BM} {P:List xQ} {b:VA} {x:Nat×Value×List UInt8} (h:NB f q p S a r w0 wr R v Ms V P b) (hnd:(a.FM.map (·.1)).Nodup) (hx:x∈Ms):((V++[x])++gY Ms x.1).Perm a.FM/\(gY Ms x.1).length<Ms.length:=by
 have h1:((V++Ms).map (·.1)).Nodup:=(h.perm.map (·.1)).nodup_iff.2 hnd;rw[mZ,tK]at h1;have h2:=WB h1.2.1 hx;refine⟨?_,?_⟩
 ·rw[pG];exact((abM V h2).symm).trans h.perm
 have:=h2.length_eq;rw[kH]at this;omega
theorem acJ {M:BM} {k:Nat} {y:Value×List UInt8} (h:dO M k=some y):M≠[]:=by rintro rfl;cases h
theorem NB.amC {r:Nat} {wr wr':World} {v v':Value} {Ms V:BM} {P:List xQ} {b b2:VA} {x:Nat×Value×List UInt8} (h:NB f q p S a r w0 wr R v Ms V P b) (hnd:(a.FM.map (·.1)).Nodup) (hx:x∈Ms) (hd:wF S x=false) (hR:Reads S b b2) (hne:b2.SM≠[])
  (hs:Sep w0 wr' (.sl 208 2 v' P.length (P.flatMap tN)::BF f q p S b2 (.star (UN a.fb r a.FM (gY Ms x.1)) (.dU (eG a.FM)))::R)):NB f q p S a r w0 wr' R v' (gY Ms x.1) (V++[x]) P b2:=
 ⟨h.reads.trans hR,(h.DT hnd hx).1,by rw[h.puts,FN,yM,hd];simp,fun _=>hne,hs⟩
theorem NB.amD {r:Nat} {wr wr':World} {v v':Value} {Ms V:BM} {P:List xQ} {b b2:VA} {x:Nat×Value×List UInt8} {px:xQ} (h:NB f q p S a r w0 wr R v Ms V P b) (hnd:(a.FM.map (·.1)).Nodup) (hx:x∈Ms) (hd:wF S x=true) (hpx:px.1=(x.1,x.2.1)) (hR:Reads S b b2) (hne:b2.SM≠[])
  (hs:Sep w0 wr' (.sl 208 2 v' (P.length+1) (P.flatMap tN++tN px)::BF f q p S b2 (.star (UN a.fb r a.FM (gY Ms x.1)) (.dU (eG a.FM)))::R)):NB f q p S a r w0 wr' R v' (gY Ms x.1) (V++[x]) (P++[px]) b2:=
 ⟨h.reads.trans hR,(h.DT hnd hx).1,by rw[mZ,h.puts,FN,yM,hd];simp[hpx],fun _=>hne,by rw[jM,Y3];simp only[oL,xI,List.flatMap_nil,yX46];exact hs⟩
end
def jJ (S:VS):List (Nat×List UInt8):=((List.range (S.nb-96)).filter fun k=>bk S.cur k !=bk S.D.now (96+k)).map fun k=>(k,bk S.cur k)
def VS.bJ (S:VS):DK×Bool:=if jJ S=[]then(S.D,true)else kT (bY (jJ S)) S.D
def xR :List tO->gI->gI
 |[],c=>c
 |some x::l,c=>xR l (c.set x.1 x.2)
 |none::l,c=>xR l c
theorem PN :∀ {l:List tO} {D D':DK},kT l D=(D',true)->D'.now=xR l D.now
 |[],D,D',h=>by cases h;rfl
 |none::l,D,D',h=>by
  rw[kT]at h;split at h
  ·cases h
  rw[PN h];(show xR l (D.fl).now=xR l D.now);unfold DK.fl;rw[DK.H8]
 |some x::l,D,D',h=>by
  rw[kT]at h;split at h
  ·cases h
  rw[PN h];(show xR l (D.wr x.1 x.2).now=xR l (D.now.set x.1 x.2));unfold DK.wr;rw[DK.H8]
theorem MJ (xs ys:List tO) (c:gI):xR (xs++ys) c=xR ys (xR xs c):=by
 induction xs generalizing c with
 |nil=>rfl
 |cons x xs ih=>
  cases x with
  |none=>exact ih c
  |some y=>exact ih _
theorem aqE {l:List tO} {c:gI} {j:Nat} (h:∀x∈l,∀i b,x=some (i,b)->i≠j):bk (xR l c) j=bk c j:=by
 induction l generalizing c with
 |nil=>rfl
 |cons x l ih=>
  cases x with
  |none=>exact ih fun y hy=>h y (vR _ hy)
  |some y=>(show bk (xR l (c.set y.1 y.2)) j=_);rw[ih fun z hz=>h z (vR _ hz),dK _ _ (fun e=>h (some y) (nH ..) y.1 y.2 rfl e.symm)]
theorem WC :∀(ps:List (Nat×List UInt8)) (c:gI) (k:Nat),(ps.map (·.1)).Nodup->96+k<c.length->bk (xR (gQ ps) c) (96+k)=match ps.find? fun x=>x.1==k with
  |some x=>x.2
  |none=>bk c (96+k)
 |[],c,k,_,_=>rfl
 |x::ps,c,k,hn,hk=>by
  rw[jV,xJ]at hn;(show bk (xR (gQ ps) (c.set (96+x.1) x.2)) (96+k)=_);rw[WC ps _ k hn.2 (by rw[J7];exact hk),J8];by_cases e:x.1=k
  ·(have hno:ps.find? (fun y=>y.1==k)=none:=by rw[wV];intro y hy hyk;(have:y.1=k:=by simpa using hyk);exact hn.1 (List.mem_map.2 ⟨y,hy,by rw[this,e]⟩));rw[hno];simp only[e,beq_self_eq_true];rw[BG _ _ _ _ aD,if_pos rfl]
  (have e2:(x.1==k)=false:=by simpa using e);rw[e2];simp only;cases hf:ps.find? (fun y=>y.1==k)with
  |some y=>rfl
  |none=>(show bk (c.set (96+x.1) x.2) (96+k)=_);rw[dK _ _ aD]
theorem acK (l:List tO) (c:gI):(xR l c).length=c.length:=by
 induction l generalizing c with
 |nil=>rfl
 |cons x l ih=>
  cases x with
  |none=>exact ih c
  |some y=>exact(ih _).trans (J7 ..)
theorem acL {ps:List (Nat×List UInt8)} {c:gI} {k:Nat} (hn:(ps.map (·.1)).Nodup) (hlen:ps.length<=40) (hk:96+k<c.length):bk (xR (bY ps) c) (96+k)=match ps.find? fun x=>x.1==k with
  |some x=>x.2
  |none=>bk c (96+k):=by
 unfold bY;rw[MJ];have e1:∀c':gI,xR (none::some (0,fT (ps.map (·.1)))::none::(gQ ps++[none,some (0,fT []),none])) c'=(xR (gQ ps) (c'.set 0 (fT (ps.map (·.1))))).set 0 (fT []):=fun c'=>by(show xR (gQ ps++[none,some (0,fT []),none]) _=_);rw[MJ];rfl
 rw[e1,dK _ _ aD,WC ps _ k hn (by rw[J7,acK];exact hk)];have e2:bk ((xR (kL ps) c).set 0 (fT (ps.map (·.1)))) (96+k)=bk c (96+k):=by rw[dK _ _ aD];(refine aqE fun x hx i b e=>?_);unfold kL at hx;obtain⟨y,hy,e3⟩:=List.mem_map.1 hx;rw[e]at e3;injection e3 with e4;injection e4 with e5 _;have:=List.snd_lt_of_mem_zipIdx hy;omega
 cases hf:ps.find? (fun y=>y.1==k)with
 |some y=>rfl
 |none=>exact e2
theorem uW (S:VS):(jJ S).map (·.1)=(List.range (S.nb-96)).filter fun k=>bk S.cur k !=bk S.D.now (96+k):=by unfold jJ;rw[qO];exact List.map_id _
theorem wH (S:VS):((jJ S).map (·.1)).Nodup:=by rw[uW];exact List.nodup_range.filter _
theorem KH {S:VS} {x:Nat×List UInt8} (h:x∈jJ S):x.1<S.nb-96/\x.2=bk S.cur x.1/\bk S.cur x.1≠bk S.D.now (96+x.1):=by unfold jJ at h;obtain⟨k,hk,rfl⟩:=List.mem_map.1 h;obtain⟨h1,h2⟩:=List.mem_filter.1 hk;exact⟨List.mem_range.1 h1,rfl,by simpa using h2⟩
theorem PO (S:VS) {k:Nat} (hk:k<S.nb-96):(match (jJ S).find? fun x=>x.1==k with
  |some x=>x.2
  |none=>bk S.D.now (96+k))=bk S.cur k:=by
 cases hf:(jJ S).find? (fun y=>y.1==k)with
 |some y=>(have h1:y.1=k:=by simpa using G6 hf);have h2:=(KH (UH hf)).2.1;rw[h1]at h2;exact h2
 |none=>
  rw[wV]at hf;(show bk S.D.now (96+k)=_);by_cases e:bk S.cur k=bk S.D.now (96+k)
  ·exact e.symm
  refine absurd ?_ (hf (k,bk S.cur k) ?_)
  ·simp
  unfold jJ;exact List.mem_map.2 ⟨k,List.mem_filter.2 ⟨List.mem_range.2 hk,by simpa using e⟩,rfl⟩
theorem PQ {S:VS} (hlen:S.D.now.length=S.nb) (l7:(jJ S).length<=40) (h:S.bJ.2=true) {k:Nat} (hk:k<S.nb-96):bk S.bJ.1.now (96+k)=bk S.cur k:=by
 unfold VS.bJ at h ⊢;by_cases e:jJ S=[]
 ·rw[if_pos e];have:=PO S hk;rw[e]at this;exact this
 rw[if_neg e]at h ⊢;have h1:kT (bY (jJ S)) S.D=((kT (bY (jJ S)) S.D).1,true):=by rw[<-h]
 rw[PN h1,acL (wH S) l7 aD,PO S hk]
theorem UO {nb:Nat} {ps:List (Nat×List UInt8)} (NU:96<nb) (hps:∀x∈ps,96+x.1<nb/\x.2.length=512) (hlen:ps.length<=40):∀x∈bY ps,∀i b,x=some (i,b)->i<nb/\b.length=512:=by
 intro x hx i b e;subst e;unfold bY at hx;rcases iM.1 hx with hx|hx
 ·unfold kL at hx;obtain⟨y,hy,e⟩:=List.mem_map.1 hx;injection e with e1;injection e1 with e2 e3;subst e2 e3;have h1:=List.snd_lt_of_mem_zipIdx hy;have h2:=List.fst_mem_of_mem_zipIdx hy;exact⟨by omega,(hps _ h2).2⟩
 simp only[kE,iM,reduceCtorEq,VQ,Prod.mk.injEq,false_or,EK,or_false]at hx;rcases hx with⟨rfl,rfl⟩|hx|⟨rfl,rfl⟩
 ·exact⟨by omega,oQ (by rw[iJ];omega)⟩
 ·unfold gQ at hx;obtain⟨y,hy,e⟩:=List.mem_map.1 hx;injection e with e1;injection e1 with e2 e3;subst e2 e3;exact hps _ hy
 exact⟨by omega,oQ bK⟩
theorem KI {S:VS} (hD:S.D.ok S.nb) (NU:96<S.nb) (aqF:kU (S.nb-96) S.cur) (l7:(jJ S).length<=40):S.bJ.1.ok S.nb:=by
 unfold VS.bJ;split
 ·exact hD
 refine akA hD (UO NU (fun x hx=>?_) l7);obtain⟨h1,h2,_⟩:=KH hx;exact⟨by omega,by rw[h2];exact jW aqF h1⟩
def jZ (M V:BM):BM:=V.foldl (fun M x=>gY M x.1++[x]) M
theorem agT (M V:BM) (x:Nat×Value×List UInt8):jZ M (V++[x])=gY (jZ M V) x.1++[x]:=by unfold jZ;rw[OW];rfl
theorem WE {M V:BM} {x:Nat×Value×List UInt8} (h:x∈jZ M V):x∈V\/(x∈M/\∀y∈V,y.1≠x.1):=by
 induction V generalizing M with
 |nil=>exact .inr ⟨h,fun y hy=>by cases hy⟩
 |cons y V ih=>
  have h2:x∈jZ (gY M y.1++[y]) V:=h;rcases ih h2 with h3|⟨h3,h4⟩
  ·exact .inl (vR _ h3)
  rcases iM.1 h3 with h3|h3
  ·unfold gY at h3;obtain⟨h5,h6⟩:=List.mem_filter.1 h3;(have h7:x.1≠y.1:=by simpa using h6);refine .inr ⟨h5,fun z hz=>?_⟩;rcases kE.1 hz with rfl|hz
   ·exact fun e=>h7 e.symm
   exact h4 z hz
  rw[tJ]at h3;exact .inl (by rw[h3];exact nH ..)
theorem agU (M V:BM):∃rest:BM,(jZ M V++rest).Perm (M++V):=by
 induction V generalizing M with
 |nil=>exact⟨[],by simp[jZ]⟩
 |cons y V ih=>obtain⟨r,hr⟩:=ih (gY M y.1++[y]);refine⟨r++M.filter (fun x=>x.1==y.1),?_⟩;(have e1:(jZ M (y::V)++(r++M.filter fun x=>x.1==y.1)).Perm ((gY M y.1++[y])++V++M.filter fun x=>x.1==y.1):=by rw[<-pG];exact hr.append_right _);refine e1.trans ?_;have e2:(M.filter (fun x=>x.1==y.1)++gY M y.1).Perm M:=List.filter_append_perm (fun x=>x.1==y.1) M;(have e3:((gY M y.1++[y])++V++M.filter fun x=>x.1==y.1).Perm ((M.filter fun x=>x.1==y.1)++(gY M y.1++(y::V))):=by refine O3.trans ?_;simp only[pG,List.singleton_append];exact .refl _);refine e3.trans ?_;rw[<-pG];exact e2.append_right _
def VCw (S:VS) (a:VA):Prop:=VC {S with D:= {S.D with off:=false}} a
theorem VCw.on {S:VS} {a:VA} (h:VCw S a) (ho:S.D.off=false):VC S a:=
 ⟨⟨h.nV.now,h.nV.fast,h.nV.few,h.nV.some,h.nV.back,h.nV.left⟩,h.big,ho,h.cur,h.seen,h.fresh,h.rest,h.few,h.none⟩
def VS.settled (S:VS):VS:= {S with D:=S.bJ.1,m:=0}
section
variable {w0 w:World} {R:List aW} {f q p:Nat} {S:VS} {a:VA}
theorem PR {l1 l2:List Nat} (h:l1.Perm l2) (h1:l1.Pairwise (· <= ·)) (h2:l2.Pairwise (· <= ·)):l1=l2:=
 h.eq_of_pairwise (fun a b _ _ h3 h4=>Nat.le_antisymm h3 h4) h1 h2
theorem acM {V:BM} {P P':List xQ} (hC:VC S a) (hnd:(a.FM.map (·.1)).Nodup) (hV:V.Perm a.FM) (hP:P.map (·.1)=(V.filter (wF S)).map fun x=>(x.1,x.2.1)) (hp:P.Perm P') (hs:P'.Pairwise fun x y=>x.1.1<=y.1.1):
  P'.map (fun x=>(x.1.1,bk S.cur x.1.1))=jJ S:=by
 have hk:P.map (·.1.1)=(V.filter (wF S)).map (·.1):=by have:=congrArg (List.map Prod.fst) hP;rw[qO,qO]at this;exact this
 have aIW:(V.map (·.1)).Nodup:=(hV.map (·.1)).nodup_iff.2 hnd;have e:P'.map (·.1.1)=(jJ S).map (·.1):=by
  refine PR ?_ ?_ ?_
  ·(have h1:(P'.map (·.1.1)).Perm ((V.filter (wF S)).map (·.1)):=by rw[<-hk];exact(hp.map _).symm);refine h1.trans ?_;rw[ajS (aIW.sublist (G8.map _)) (wH S)];intro k;rw[uW];constructor
   ·intro hm;obtain⟨x,hx,rfl⟩:=List.mem_map.1 hm;obtain⟨h2,h3⟩:=List.mem_filter.1 hx;have h4:=hC.fresh x (hV.subset h2);refine List.mem_filter.2 ⟨List.mem_range.2 h4.1,?_⟩;unfold wF at h3;rw[h4.2]at h3;exact h3
   intro hm;obtain⟨h2,h3⟩:=List.mem_filter.1 hm;cases hf:dO a.FM k with
   |none=>have:=hC.rest k (List.mem_range.1 h2) hf;rw[this]at h3;simp at h3
   |some y=>have h5:=lQ hf;refine List.mem_map.2 ⟨(k,y),List.mem_filter.2 ⟨hV.symm.subset h5,?_⟩,rfl⟩;unfold wF;rw[(hC.fresh _ h5).2];exact h3
  ·rw[GY];exact hs
  rw[uW];exact(List.pairwise_lt_range.imp Nat.le_of_lt).filter _
 have h2:P'.map (fun x=>(x.1.1,bk S.cur x.1.1))=(P'.map (·.1.1)).map fun k=>(k,bk S.cur k):=by rw[qO];rfl
 rw[h2,e,uW];rfl
theorem Sep.ZE {As:List aW} {M:BM} {x:Nat×Value×List UInt8} (i:Nat) (h:Sep w0 w As) (hi:As[i]? =some (.dU (eG M))) (hx:x∈M):BytesAt w x.2.1 x.2.2:=by have e:=(sG hi).1;rw[e]at h;exact(h.perm lD).aj9 hx
theorem av5 {V:BM} {P P':List xQ} {g n c:Nat} {R':List aW} (hC:VC S a) (hV:V.Perm a.FM) (hP:P.map (·.1)=(V.filter (wF S)).map fun x=>(x.1,x.2.1)) (hp:P.Perm P') (hn:P'.length=n)
  (hS0:Sep w0 w R') (i j:Nat) (hi:R'[i]? =some (.sl 208 2 (sV g n c) n (P'.flatMap tN))) (hj:R'[j]? =some (.dU (eG a.FM))):
  aqG w0 R' g n (P'.map fun x=>(x.1.1,bk S.cur x.1.1)) (P'.map (·.1.2)):=by
 have hmem:∀x∈P',∃y∈a.FM,y.1=x.1.1/\y.2.1=x.1.2/\y.2.2=bk S.cur x.1.1/\y.1<S.nb-96:=fun x hx=>by have h1:x.1∈P.map (·.1):=List.mem_map.2 ⟨x,hp.symm.subset hx,rfl⟩;rw[hP]at h1;obtain⟨y,hy,e⟩:=List.mem_map.1 h1;have h2:=hV.subset (List.mem_filter.1 hy).1;have h3:=hC.fresh y h2;(have e1:y.1=x.1.1:=by rw[<-e]);exact⟨y,h2,e1,by rw[<-e],by rw[<-e1];exact h3.2,h3.1⟩
 have hat:∀(w':World) (X:List aW) (k:Nat),(X++R')[X.length+k]? =R'[k]? :=fun w' X k=>by rw[vT aD,J2]
 have hk2:∀x,(tN x).length=2:=fun _=>rfl
 refine⟨by rw[iJ];exact hn,by rw[iJ];exact hn,fun w' X hS k hk=>?_,fun k hk=>?_,fun u hu=>?_⟩
 ·(have h1:=fun j hj=>hS.cellAt (X.length+i) ((hat w' X i).trans hi) j hj);have h2:P'[k]? =some P'[k]:=gE aD;refine⟨?_,?_⟩
  ·have h3:=h1 (k*2) aD;have h4:=flat_get hk2 P' k 0 aR;rw[sF]at h4;rw[h3,h4,h2];simp[tN]
  have h3:=h1 (k*2+1) aD;rw[h3,flat_get hk2 P' k 1 aR,h2];simp[tN]
 ·intro w' X hS;obtain⟨y,hy,_,e2,e3,_⟩:=hmem (P'[k]'aD) (nW _);have h5:=hS.ZE (X.length+j) ((hat w' X j).trans hj) hy;rw[e2,e3]at h5;simpa using h5
 obtain⟨x,hx,rfl⟩:=List.mem_map.1 hu;obtain⟨y,hy,e1,e2,e3,e4⟩:=hmem x hx;have h5:=hS0.ZE j hj hy;obtain⟨_,A,c',e,_⟩:=h5;rw[e3,jW hC.cur (by rw[<-e1];exact e4),e2]at e;exact⟨A,c',e⟩
theorem av6 {V:BM} {P P':List xQ} (hC:VC S a) (hps:P'.map (fun x=>(x.1.1,bk S.cur x.1.1))=jJ S) (h1:1<=P'.length) (h40:P'.length<=40):aqH S.nb (P'.map fun x=>(x.1.1,bk S.cur x.1.1)):=by
 refine⟨by rw[iJ];exact h1,by rw[iJ];exact h40,fun x hx=>?_,?_⟩
 ·rw[hps]at hx;obtain⟨h2,h3,_⟩:=KH hx;have:=hC.big;exact⟨by omega,by rw[h3];exact jW hC.cur h2⟩
 rw[hps];exact wH S
def WG :Option Nat->BM->aW
 |none,_=>.emp
 |some b,M=>lJ 3 b (iK M)
theorem Sep.agV {sb:Option Nat} {M:BM} (hn:sb=none->M=[]) (h:Sep w0 w (dY sb M::R)):Sep w0 w (WG sb M:: .dU (eG M)::R):=by
 cases sb with
 |none=>rw[hn rfl];exact(h.ab9).xK.xK
 |some b=>exact h.jO
theorem Sep.amE {sb:Option Nat} {M V FM:BM} (hV:V.Perm FM) (hn:sb=none->M=[]/\V=[]) (h:Sep w0 w (WG sb (jZ M V):: .dU (eG M):: .dU (eG FM)::R)):Sep w0 w (dY sb (jZ M V)::R):=by
 cases sb with
 |none=>exact((h.drop 3).xK)
 |some b=>obtain⟨rest,hr⟩:=agU M V;have h1:Sep w0 w (.dU (eG M):: .dU (eG FM)::lJ 3 b (iK (jZ M V))::R):=Sep.dB [1,2,0] h aR bK;have h2:Sep w0 w (eG M++(.dU (eG FM)::lJ 3 b (iK (jZ M V))::R)):=h1.bG;have h3:Sep w0 w (.dU (eG FM)::(eG M++(lJ 3 b (iK (jZ M V))::R))):=h2.perm lD;have h4:Sep w0 w (eG FM++(eG M++(lJ 3 b (iK (jZ M V))::R))):=h3.bG;(have e:(eG FM++(eG M++(lJ 3 b (iK (jZ M V))::R))).Perm (eG (jZ M V)++(eG rest++(lJ 3 b (iK (jZ M V))::R))):=by rw[<-pG,<-pG];refine List.Perm.append_right _ ?_;(have h5:(eG (jZ M V)++eG rest).Perm (eG M++eG V):=by have:=hr.map (fun x:Nat×Value×List UInt8=>aI x.2.1 x.2.2);rw[mZ,mZ]at this;exact this);exact(O3.trans (abM _ (hV.symm.map _))).trans h5.symm);have h5:=h4.perm e;have h6:Sep w0 w (eG rest++(.dU (eG (jZ M V))::lJ 3 b (iK (jZ M V))::R)):=(h5.dC).perm lD.symm;have h7:=h6.drop (eG rest).length;rw[G7]at h7;exact(h7.perm (List.Perm.swap _ _ _)).mD
theorem agW {b:VA} {V:BM} (hC:VC S a) (hR:Reads S a b) (hV:V.Perm a.FM) (hm:S.m<=40) (hc:S.bJ.2=true) (hne:a.FM≠[]->b.SM≠[]) (nb:Nat):VCw S.settled ⟨b.sb,jZ b.SM V,nb,[]⟩:=by
 have l7:(jJ S).length<=40:=by
  have h1:((jJ S).map (·.1)).length<=(a.FM.map (·.1)).length:=alW (wH S) fun k hk=>by
   rw[uW]at hk;obtain⟨h2,h3⟩:=List.mem_filter.1 hk;cases hf:dO a.FM k with
   |none=>rw[hC.rest k (List.mem_range.1 h2) hf]at h3;simp at h3
   |some y=>exact List.mem_map.2 ⟨(k,y),lQ hf,rfl⟩
  rw[iJ,iJ]at h1;have:=hC.few;omega
 have UQ:=fun k hk=>PQ (S:=S) hC.nV.now.len l7 hc (k:=k) hk
 have hok:=KI hC.nV hC.big hC.cur l7;refine⟨⟨hok.now,hok.fast,hok.few,hok.some,hok.back,hok.left⟩,hC.big,rfl,hC.cur,fun x hx=>?_,(fun x hx=>absurd hx EK),fun k hk _=>(UQ k hk).symm,fZ _,fun hs=>?_⟩
 ·rcases WE hx with h1|⟨h1,h2⟩
  ·have h3:=hC.fresh x (hV.subset h1);exact⟨h3.1,by rw[h3.2];exact(UQ _ h3.1).symm⟩
  have h3:=hR.ok.seen x h1;refine⟨h3.1,?_⟩;have hf:dO a.FM x.1=none:=by
   cases hf:dO a.FM x.1 with
   |none=>rfl
   |some y=>exact(h2 (x.1,y) (hV.symm.subset (lQ hf)) rfl).elim
  rw[h3.2,<-hC.rest x.1 h3.1 hf];exact(UQ _ h3.1).symm
 have h1:=hR.ok.none hs;have h2:a.FM=[]:=by
  by_cases e:a.FM=[]
  ·exact e
  exact absurd h1 (hne e)
 have h3:V=[]:=by rw[h2]at hV;exact List.Perm.eq_nil hV
 show jZ b.SM V=[]
 rw[h1,h3];rfl
structure agX (f q p:Nat) (S:VS) (a b:VA) (D:DK) (r:Nat) (w0 wr:World) (R:List aW) (Ms V:BM):Prop where
 perm:(V++Ms).Perm a.FM
 sep:Sep w0 wr (UN a.fb r a.FM Ms::WG b.sb (jZ b.SM V):: .dU (eG b.SM):: .dU (eG a.FM)::kF f q S b.sb (.map (some a.fb)) false::aG q p false::aO p D::R)
end
end Go.Proofs.YtmjomdkleikgbaaGreat
