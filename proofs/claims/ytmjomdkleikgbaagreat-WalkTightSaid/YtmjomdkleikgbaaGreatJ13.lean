/- Parts. -/
import Derived.Test.YtmjomdkleikgbaaGreatJ12
import Derived.Shelf.SlLaysF0
import Derived.Shelf.SlLaysM
import Derived.Shelf.Lays
import Derived.Ground.SlsfProg
import Derived.Ground.SlgmProg
import Derived.Ground.NamesProg
import Derived.Shelf.SlSortCmp.NoneTotal
set_option linter.unusedVariables false
set_option linter.unusedSimpArgs false
set_option maxRecDepth 100000
set_option maxHeartbeats 20000000
namespace Go.Proofs
open Go.Shelf
def Tryz.sortPuts_ren :Go.Shelf.Ren:=⟨fun|6=>165|15=>174|14=>189|28=>201|29=>202|20=>211|21=>212|22=>213|23=>214|24=>215|25=>216|26=>217|27=>218|46=>231|47=>220|48=>221|49=>232|50=>233|57=>237|n=>n,fun|22=>206|24=>208|25=>210|3=>3|39=>204|0=>0|53=>246|55=>248|4=>4|46=>239|45=>238|50=>106|5=>5|9=>9|66=>260|70=>264|76=>272|77=>90|n=>n,fun|n=>n⟩
theorem Tryz.sortPuts :Go.Proofs.SlLaysF0.n6 Tryz.prog Tryz.sortPuts_ren:= {
 mixed:=by kernel_rfl
 f6:=⟨Tryz.f165.name,by decide,Tryz.func165.trans (congrArg some (by kernel_rfl))⟩
 f14:=⟨Tryz.f189.name,by decide,Tryz.func189.trans (congrArg some (by kernel_rfl))⟩
 f15:=Tryz.func174.trans (congrArg some (by kernel_rfl))
 f20:=⟨Tryz.f211.name,by decide,Tryz.func211.trans (congrArg some (by kernel_rfl))⟩
 f21:=⟨Tryz.f212.name,by decide,Tryz.func212.trans (congrArg some (by kernel_rfl))⟩
 f22:=⟨Tryz.f213.name,by decide,Tryz.func213.trans (congrArg some (by kernel_rfl))⟩
 f23:=⟨Tryz.f214.name,by decide,Tryz.func214.trans (congrArg some (by kernel_rfl))⟩
 f24:=⟨Tryz.f215.name,by decide,Tryz.func215.trans (congrArg some (by kernel_rfl))⟩
 f25:=⟨Tryz.f216.name,by decide,Tryz.func216.trans (congrArg some (by kernel_rfl))⟩
 f26:=⟨Tryz.f217.name,by decide,Tryz.func217.trans (congrArg some (by kernel_rfl))⟩
 f27:=⟨Tryz.f218.name,by decide,Tryz.func218.trans (congrArg some (by kernel_rfl))⟩
 f28:=Tryz.func201.trans (congrArg some (by kernel_rfl))
 f29:=Tryz.func202.trans (congrArg some (by kernel_rfl))
 f46:=⟨Tryz.f231.name,by decide,Tryz.func231.trans (congrArg some (by kernel_rfl))⟩
 f47:=Tryz.func220.trans (congrArg some (by kernel_rfl))
 f48:=Tryz.func221.trans (congrArg some (by kernel_rfl))
 f49:=⟨Tryz.f232.name,by decide,Tryz.func232.trans (congrArg some (by kernel_rfl))⟩
 f50:=⟨Tryz.f233.name,by decide,Tryz.func233.trans (congrArg some (by kernel_rfl))⟩
 f57:=⟨Tryz.f237.name,by decide,Tryz.func237.trans (congrArg some (by kernel_rfl))⟩
 t0:=Tryz.underlying0
 a0:=Tryz.isAgg0
 z0:=Tryz.sizeOf0
 v0:=Tryz.zeroValue0
 t3:=Tryz.underlying3
 a3:=Tryz.isAgg3
 z3:=Tryz.sizeOf3
 v3:=Tryz.zeroValue3
 t4:=Tryz.underlying4
 a4:=Tryz.isAgg4
 z4:=Tryz.sizeOf4
 v4:=Tryz.zeroValue4
 t5:=Tryz.underlying5
 a5:=Tryz.isAgg5
 z5:=Tryz.sizeOf5
 v5:=Tryz.zeroValue5
 t9:=Tryz.underlying9
 a9:=Tryz.isAgg9
 z9:=Tryz.sizeOf9
 v9:=Tryz.zeroValue9
 t22:=Tryz.underlying206
 a22:=Tryz.isAgg206
 z22:=Tryz.sizeOf206
 v22:=Tryz.zeroValue206
 t25:=Tryz.underlying210
 a25:=Tryz.isAgg210
 z25:=Tryz.sizeOf210
 v25:=Tryz.zeroValue210
 t39:=Tryz.underlying204
 a39:=Tryz.isAgg204
 z39:=Tryz.sizeOf204
 v39:=Tryz.zeroValue204
 t45:=Tryz.underlying238
 a45:=Tryz.isAgg238
 z45:=Tryz.sizeOf238
 v45:=Tryz.zeroValue238
 t46:=Tryz.underlying239
 a46:=Tryz.isAgg239
 z46:=Tryz.sizeOf239
 v46:=Tryz.zeroValue239
 t50:=Tryz.underlying106
 a50:=Tryz.isAgg106
 z50:=Tryz.sizeOf106
 v50:=Tryz.zeroValue106
 t53:=Tryz.underlying246
 a53:=Tryz.isAgg246
 z53:=Tryz.sizeOf246
 v53:=Tryz.zeroValue246
 t55:=Tryz.underlying248
 a55:=Tryz.isAgg248
 z55:=Tryz.sizeOf248
 v55:=Tryz.zeroValue248
 t66:=Tryz.underlying260
 a66:=Tryz.isAgg260
 z66:=Tryz.sizeOf260
 v66:=Tryz.zeroValue260
 t70:=Tryz.underlying264
 a70:=Tryz.isAgg264
 z70:=Tryz.sizeOf264
 v70:=Tryz.zeroValue264
 t76:=Tryz.underlying272
 a76:=Tryz.isAgg272
 z76:=Tryz.sizeOf272
 v76:=Tryz.zeroValue272
 t77:=Tryz.underlying90
 a77:=Tryz.isAgg90
 z77:=Tryz.sizeOf90
 v77:=Tryz.zeroValue90}
def Tryz.sortStrings_ren :Go.Shelf.Ren:=⟨fun|6=>109|8=>174|9=>173|19=>201|20=>202|21=>192|22=>193|23=>194|24=>195|25=>196|26=>197|27=>198|28=>199|29=>200|36=>219|31=>220|32=>221|37=>222|38=>223|39=>224|41=>234|n=>n,fun|27=>73|29=>9|3=>3|32=>204|26=>73|0=>0|44=>246|46=>248|4=>4|36=>239|35=>238|41=>106|5=>5|9=>9|53=>260|57=>264|63=>272|64=>90|n=>n,fun|n=>n⟩
theorem Tryz.sortStrings :Go.Proofs.SlLaysM.n6 Tryz.prog Tryz.sortStrings_ren:= {
 mixed:=by kernel_rfl
 f6:=⟨Tryz.f109.name,by decide,Tryz.func109.trans (congrArg some (by kernel_rfl))⟩
 f8:=Tryz.func174.trans (congrArg some (by kernel_rfl))
 f9:=⟨Tryz.f173.name,by decide,Tryz.func173.trans (congrArg some (by kernel_rfl))⟩
 f19:=Tryz.func201.trans (congrArg some (by kernel_rfl))
 f20:=Tryz.func202.trans (congrArg some (by kernel_rfl))
 f21:=⟨Tryz.f192.name,by decide,Tryz.func192.trans (congrArg some (by kernel_rfl))⟩
 f22:=⟨Tryz.f193.name,by decide,Tryz.func193.trans (congrArg some (by kernel_rfl))⟩
 f23:=⟨Tryz.f194.name,by decide,Tryz.func194.trans (congrArg some (by kernel_rfl))⟩
 f24:=⟨Tryz.f195.name,by decide,Tryz.func195.trans (congrArg some (by kernel_rfl))⟩
 f25:=⟨Tryz.f196.name,by decide,Tryz.func196.trans (congrArg some (by kernel_rfl))⟩
 f26:=⟨Tryz.f197.name,by decide,Tryz.func197.trans (congrArg some (by kernel_rfl))⟩
 f27:=⟨Tryz.f198.name,by decide,Tryz.func198.trans (congrArg some (by kernel_rfl))⟩
 f28:=⟨Tryz.f199.name,by decide,Tryz.func199.trans (congrArg some (by kernel_rfl))⟩
 f29:=⟨Tryz.f200.name,by decide,Tryz.func200.trans (congrArg some (by kernel_rfl))⟩
 f31:=Tryz.func220.trans (congrArg some (by kernel_rfl))
 f32:=Tryz.func221.trans (congrArg some (by kernel_rfl))
 f36:=⟨Tryz.f219.name,by decide,Tryz.func219.trans (congrArg some (by kernel_rfl))⟩
 f37:=⟨Tryz.f222.name,by decide,Tryz.func222.trans (congrArg some (by kernel_rfl))⟩
 f38:=⟨Tryz.f223.name,by decide,Tryz.func223.trans (congrArg some (by kernel_rfl))⟩
 f39:=⟨Tryz.f224.name,by decide,Tryz.func224.trans (congrArg some (by kernel_rfl))⟩
 f41:=⟨Tryz.f234.name,by decide,Tryz.func234.trans (congrArg some (by kernel_rfl))⟩
 t0:=Tryz.underlying0
 a0:=Tryz.isAgg0
 z0:=Tryz.sizeOf0
 v0:=Tryz.zeroValue0
 t3:=Tryz.underlying3
 a3:=Tryz.isAgg3
 z3:=Tryz.sizeOf3
 v3:=Tryz.zeroValue3
 t4:=Tryz.underlying4
 a4:=Tryz.isAgg4
 z4:=Tryz.sizeOf4
 v4:=Tryz.zeroValue4
 t5:=Tryz.underlying5
 a5:=Tryz.isAgg5
 z5:=Tryz.sizeOf5
 v5:=Tryz.zeroValue5
 t9:=Tryz.underlying9
 a9:=Tryz.isAgg9
 z9:=Tryz.sizeOf9
 v9:=Tryz.zeroValue9
 t26:=Tryz.underlying73
 a26:=Tryz.isAgg73
 z26:=Tryz.sizeOf73
 v26:=Tryz.zeroValue73
 t27:=Tryz.underlying73
 a27:=Tryz.isAgg73
 z27:=Tryz.sizeOf73
 v27:=Tryz.zeroValue73
 t29:=Tryz.underlying9
 a29:=Tryz.isAgg9
 z29:=Tryz.sizeOf9
 v29:=Tryz.zeroValue9
 t32:=Tryz.underlying204
 a32:=Tryz.isAgg204
 z32:=Tryz.sizeOf204
 v32:=Tryz.zeroValue204
 t35:=Tryz.underlying238
 a35:=Tryz.isAgg238
 z35:=Tryz.sizeOf238
 v35:=Tryz.zeroValue238
 t36:=Tryz.underlying239
 a36:=Tryz.isAgg239
 z36:=Tryz.sizeOf239
 v36:=Tryz.zeroValue239
 t41:=Tryz.underlying106
 a41:=Tryz.isAgg106
 z41:=Tryz.sizeOf106
 v41:=Tryz.zeroValue106
 t44:=Tryz.underlying246
 a44:=Tryz.isAgg246
 z44:=Tryz.sizeOf246
 v44:=Tryz.zeroValue246
 t46:=Tryz.underlying248
 a46:=Tryz.isAgg248
 z46:=Tryz.sizeOf248
 v46:=Tryz.zeroValue248
 t53:=Tryz.underlying260
 a53:=Tryz.isAgg260
 z53:=Tryz.sizeOf260
 v53:=Tryz.zeroValue260
 t57:=Tryz.underlying264
 a57:=Tryz.isAgg264
 z57:=Tryz.sizeOf264
 v57:=Tryz.zeroValue264
 t63:=Tryz.underlying272
 a63:=Tryz.isAgg272
 z63:=Tryz.sizeOf272
 v63:=Tryz.zeroValue272
 t64:=Tryz.underlying90
 a64:=Tryz.isAgg90
 z64:=Tryz.sizeOf90
 v64:=Tryz.zeroValue90}
def Tryz.lastIndexByte_ren :Go.Shelf.Ren:=⟨fun|149=>171|222=>191|n=>n,fun|9=>9|5=>5|3=>3|4=>4|n=>n,fun|n=>n⟩
theorem Tryz.lastIndexByte :Go.Proofs.Lays.n149 Tryz.prog Tryz.lastIndexByte_ren:= {
 mixed:=by kernel_rfl
 f149:=Tryz.func171.trans (congrArg some (by kernel_rfl))
 f222:=Tryz.func191.trans (congrArg some (by kernel_rfl))
 t3:=Tryz.underlying3
 a3:=Tryz.isAgg3
 z3:=Tryz.sizeOf3
 v3:=Tryz.zeroValue3
 t4:=Tryz.underlying4
 a4:=Tryz.isAgg4
 z4:=Tryz.sizeOf4
 v4:=Tryz.zeroValue4
 t5:=Tryz.underlying5
 a5:=Tryz.isAgg5
 z5:=Tryz.sizeOf5
 v5:=Tryz.zeroValue5
 t9:=Tryz.underlying9
 a9:=Tryz.isAgg9
 z9:=Tryz.sizeOf9
 v9:=Tryz.zeroValue9}
def Tryz.indexByte_ren :Go.Shelf.Ren:=⟨fun|137=>209|217=>229|266=>236|n=>n,fun|9=>9|5=>5|3=>3|n=>n,fun|n=>n⟩
theorem Tryz.indexByte :Go.Proofs.Lays.n137 Tryz.prog Tryz.indexByte_ren:= {
 mixed:=by kernel_rfl
 f137:=Tryz.func209.trans (congrArg some (by kernel_rfl))
 f217:=Tryz.func229.trans (congrArg some (by kernel_rfl))
 f266:=Tryz.func236.trans (congrArg some (by kernel_rfl))
 t3:=Tryz.underlying3
 a3:=Tryz.isAgg3
 z3:=Tryz.sizeOf3
 v3:=Tryz.zeroValue3
 t5:=Tryz.underlying5
 a5:=Tryz.isAgg5
 z5:=Tryz.sizeOf5
 v5:=Tryz.zeroValue5
 t9:=Tryz.underlying9
 a9:=Tryz.isAgg9
 z9:=Tryz.sizeOf9
 v9:=Tryz.zeroValue9}
end Go.Proofs
namespace Go.Proofs.YtmjomdkleikgbaaGreat
open Go.RowKit Go.Sort
theorem Sep.ajH {w0 w:World} {As:List aZ} {e:TypeId} {sz g m cap:Nat} {cs:List Value} (k:Nat) (h:Sep w0 w As)
  (hi:As[k]? =some (.sl e sz (sV g m cap) m cs)) (n:Nat) (F:Array Value) (hF0:F.size=m*sz) (os:Array Obj):
  Sep w0 (Go.Proofs.sortWorld id w g 0 n F os) (As.set k (.sl e sz (sV g m cap) m F.toList)):=by
 have hhp:∀b,b<w.heap.size->(Go.Proofs.sortWorld id w g 0 n F os).heap[b]? =if g=b then w.heap[b]?.map (Go.Sort.onCells (Go.Sort.putCells id 0 F))else w.heap[b]? :=fun b hb=>by exact Z35
 refine h.step k hi fun F' ⟨ho,hF⟩ _=>⟨F',⟨⟨by simp[hF0],?_⟩,hF⟩,fun b hb=>.inl hb,?_⟩
 ·rcases ho.2 with⟨h',_⟩|⟨g',cap',cur,h',hb,hg,hc,hm,hs,ht⟩
  ·simp at h'
  simp only[Value.slice.injEq,U2,Addr.mk.injEq,and_true,true_and]at h';obtain⟨rfl,rfl⟩:=h';refine .inr ⟨g,cap,Go.Sort.putCells id 0 F cur,rfl,hb,?_,hc,hm,by simpa[Go.Sort.putCells]using hs,?_⟩
  ·rw[hhp g (lt_of_heap hg),if_pos rfl,hg];rfl
  (have hle:m*sz<=cur.size:=by rw[hs];exact N8 _ hc);apply GI;intro i;by_cases hi:i<m*sz
  ·(have hc2:i<cur.size:=by omega);simp[Go.Sort.putCells,hF0,hi,hc2]
  rw[EZ EN,EZ EN]
 refine⟨rfl,rfl,rfl,by simp[Go.Proofs.sortWorld,Go.Sort.grow,Go.Sort.putRow,Go.Sort.mapBlock,Go.Sort.ahead],fun b hb hn=>?_⟩;rw[hhp b hb,if_neg];intro e;subst e;exact hn (by rw[hF];simp[Value.ownBlock])
theorem flat_get {α:Type} {enc:α->List Value} {k:Nat} (hk:∀x,(enc x).length=k):∀(l:List α) (i j:Nat),j<k->(l.flatMap enc)[i*k+j]? =(l[i]?).bind fun x=>(enc x)[j]?
 |[],i,j,_=>by simp
 |x::l,0,j,hj=>by rw[wU,LF,GL,D6 (by rw[hk];exact hj)];rfl
 |x::l,i+1,j,hj=>by rw[wU,vM (by rw[hk,U9];omega),hk,show(i+1)*k+j-k=i*k+j by rw[U9];omega];exact flat_get hk l i j hj
theorem abQ {α:Type} {enc:α->List Value} {k:Nat} (hk:∀x,(enc x).length=k) (l:List α):(l.flatMap enc).length=l.length*k:=by
 induction l with
 |nil=>simp
 |cons x l ih=>rw[wU,jL,hk,ih,kR,U9];omega
theorem yG {α:Type} [Inhabited α] {enc:α->List Value} {k:Nat} (hk:∀x,(enc x).length=k) (hk0:0<k) (d:Array α):(flatK enc k d).toList=d.toList.flatMap enc:=by
 apply GI;intro t;by_cases ht:t<d.size*k
 ·(have e:t=t/k*k+t%k:=by rw[OJ];exact(Nat.div_add_mod t k).symm);have h1:t/k<d.size:=Nat.div_lt_of_lt_mul (by rw[OJ];exact ht);have h2:t%k<k:=Nat.mod_lt _ hk0;have h3:(d.toList.flatMap enc)[t]? =(enc (d[t/k]'h1))[t%k]? :=by
   conv=>lhs;rw[e]
   rw[flat_get hk _ _ _ h2];simp[h1]
  rw[h3];(have h4:t<(flatK enc k d).toList.length:=by simpa using ht);rw[gE h4,gE (by rw[hk];exact h2)];have:=get_flatK enc k d t ht;rw[getElem!_pos (flatK enc k d) t (by simpa using ht),getElem!_pos d (t/k) h1,getElem!_pos (enc _) (t%k) (by rw[hk];exact h2)]at this;simpa using this
 rw[EZ EN,EZ (by rw[abQ hk];simp;omega)]
def xB :Type:= {x:Nat×Value//x.1<=4096/\∃A n c,x.2= .slice A n c}
instance :Inhabited xB:=⟨⟨(0,.slice none 0 0),by decide,none,0,0,rfl⟩⟩
def tH (x:xB):List Value:=[.int .i64 (x.1.1:Nat),x.1.2]
def cfP (x y:xB):Int:=(x.1.1:Int)-y.1.1
theorem ltP (x y:xB):Go.Proofs.ltOf cfP x y=decide (x.1.1<y.1.1):=by unfold Go.Proofs.ltOf cfP;rw[Bool.eq_iff_iff,tX,tX];omega
theorem aHY :Go.Sort.SWO (Go.Proofs.ltOf cfP):=⟨fun x=>by rw[ltP];simp,fun x y z h1 h2=>by rw[ltP]at*;simp at*;omega,fun x y z h1 h2=>by rw[ltP]at*;simp at*;omega⟩
theorem alF (w:World):(isAgg 208).run Tryz.prog w= .ok true w:=by kernel_rfl
theorem afZ (w:World):(Go.sizeOf 208).run Tryz.prog w= .ok 2 w:=by kernel_rfl
theorem apK (x y:xB) (W:World):Calls Tryz.prog 166 #[.agg #[iV (x.1.1:Nat),x.1.2],.agg #[iV (y.1.1:Nat),y.1.2]] W fun e w'=>e= .returned (iV (cfP x y))/\∃q os',w'=grow (W.drewN q) os':=by
 obtain⟨⟨xa,xv⟩,hx,A,n,c,e⟩:=x;obtain⟨⟨ya,yv⟩,hy,B,m,d,e2⟩:=y;simp only at hx hy e e2;subst e e2;have b1:(xa:Int)<=4096:=by omega
 have b2:(ya:Int)<=4096:=by omega
 unfold cfP;simp only;go_enter Tryz.func166,Tryz.ntmps166;go_wp2_with fail;go_ret;exact⟨rfl,0,_,by rw[alloc_eq_grow,alloc_eq_grow,grow_grow];rfl⟩
theorem alG {w0 w:World} {R:List aZ} {v:Value} {P:List xB} (h:Sep w0 w (.sl 208 2 v P.length (P.flatMap tH)::R)) (hP:P.length<=5000):
  Calls Tryz.prog 165 #[v,.func (.func 166) #[] #[]] w fun e w'=>e= .returned (.tuple #[])/\∃P':List xB,P.Perm P'/\P'.Pairwise (fun x y=>x.1.1<=y.1.1)/\Sep w0 w' (.sl 208 2 v P.length (P'.flatMap tH)::R):=by
 rcases xW P.length with h0|hpos
 ·obtain rfl:P=[]:=vL h0;obtain⟨A,cap,rfl,_⟩:=h.gJ 0 rfl;have hcon:=Go.Proofs.AnyF.slices_SortFunc_none (P:=Tryz.prog) Go.Proofs.Tryz.sortPuts A cap (.func (.func 166) #[] #[]) w;change Calls Tryz.prog 165 _ _ _ at hcon;refine hcon.mono ?_;rintro e w' ⟨rfl,rfl⟩;exact⟨rfl,[],.refl _,.nil,h⟩
 obtain⟨g,cap,rfl,_,hg,hc1,hc2⟩:=h.j5 0 rfl hpos;have hk:∀x,(tH x).length=2:=fun _=>rfl
 have h1:∀x,∀v∈tH x,v.oneCell'=true:=fun x v hv=>by obtain⟨⟨xa,xv⟩,_,A,n,c,e⟩:=x;simp only at e;subst e;simp[tH]at hv;rcases hv with rfl|rfl<;>rfl
 have hH:HoldsK tH 2 w g 0 P.toArray:=fun j hj=>by rw[GL];(have hj':j<P.length*2:=by simpa using hj);refine⟨?_,h.frozenAt 0 rfl j⟩;rw[h.cellAt 0 rfl j aD,<-yG hk aV P.toArray];rw[getElem!_pos _ j hj];simp at hj ⊢
 have eg:∀args w,(callFunc 166 args).run Tryz.prog w= .ok (.enter 166 args) w:=Go.Proofs.enters_of Tryz.func166 fH rfl;have hcon:=Go.Proofs.AnyQ.slices_SortFunc Go.Proofs.Tryz.sortPuts 2 alF afZ tH hk h1 cfP aHY 166 #[] g 0 cap P.toArray w eg (fun _ _ _ _ x y=>apK x y _) hH hg EN;change Calls Tryz.prog 165 _ _ _ at hcon;simp only[kE]at hcon;refine hcon.mono ?_;rintro e w' ⟨rfl,d',n,os,hp,hs,rfl⟩;have hds:d'.size=P.length:=hp.1;have hperm:P.Perm d'.toList:=by have h9:=hp.2.2;(have e1:d'.extract 0 P.length=d':=by rw[<-hds];exact Array.extract_size);rw[e1]at h9;(have e2:(P.toArray.extract 0 P.length).toList=P:=by simp);rw[e2]at h9;exact h9.symm
 refine⟨rfl,d'.toList,hperm,?_,?_⟩
 ·rw[EK];intro i j hi hj hij;have:=hs i j aD hij (by simpa[hds]using hj);rw[ltP]at this;simp at this hi hj ⊢;rw[getElem!_pos d' i aD,getElem!_pos d' j aD]at this;exact this
 have h5:=h.ajH 0 rfl n (flatK tH 2 d') (by simp[hds]) os;rw[yG hk aV]at h5;exact h5
end Go.Proofs.YtmjomdkleikgbaaGreat
namespace Go.Proofs.YtmjomdkleikgbaaGreat
open Go.RowKit
theorem apL :(Tryz.prog.info? 208).map (fun i=>(i.zero,i.size,i.bytes))=some (some (.agg #[iV 0,.slice none 0 0]),2,32):=by kernel_rfl
def vU (S:VS) (x:Nat×Value×List UInt8):Bool:= !(x.2.2==bk S.D.now (96+x.1))
abbrev TT (fb r:Nat) (FM Ms:BM):aZ:=vV 3 fb r (iJ FM).length (iJ FM) (iJ Ms)
section
variable {w0 w:World} {R:List aZ} {f q p:Nat} {S:VS} {a:VA}
theorem Sep.af0 {A B C:aZ} (h:Sep w0 w (C::AP f q p S a (.star A B)::R)):Sep w0 w (A::B::kX f q S a.sb (.map (some a.fb)) false::aH q p false::aO p S.D::eU a.sb a.SM::C::R):=by have h1:Sep w0 w (GZ f q p S a (.star A B)++(C::R)):=(h.perm (List.Perm.swap _ _ _)).bE;have h2:Sep w0 w (.star A B::kX f q S a.sb (.map (some a.fb)) false::aH q p false::aO p S.D::eU a.sb a.SM::C::R):=Sep.dE [4,0,1,2,3,5] h1 aV (by simp[GZ]);exact h2.jN
theorem Sep.ax5 {A B C:aZ} (h:Sep w0 w (A::B::kX f q S a.sb (.map (some a.fb)) false::aH q p false::aO p S.D::eU a.sb a.SM::C::R)):Sep w0 w (C::AP f q p S a (.star A B)::R):=by have h2:=h.l7;have h3:Sep w0 w (GZ f q p S a (.star A B)++(C::R)):=Sep.dE [1,2,3,4,0,5] h2 aV bL;exact(h3.dB).perm (List.Perm.swap _ _ _)
theorem Sep.ajI {M:BM} {x:Nat×Value×List UInt8} (h:Sep w0 w (.dR (eB M)::R)) (hx:x∈M):BytesAt w x.2.1 x.2.2:=by have h2:Sep w0 w (eB M++R):=h.bE;obtain⟨j,hj,e⟩:=N9 hx;exact Z29
theorem Sep.au1 {M:aZ} (h:Sep w0 w (AP f q p S a M::R)) {k:Nat} {v:Value} {bs:List UInt8} (hf:dN a.SM k=some (v,bs)) (hn:a.sb=none->a.SM=[]):BytesAt w v bs:=by have h1:=h.bE;exact Z40
theorem Sep.abR {As:List aZ} {fb r:Nat} {FM Ms:BM} (h:Sep w0 w (TT fb r FM Ms::As)) (ty:TypeId):
  (Ms=[]/\(Instr.next (pV r) false ty).run Tryz.prog w= .ok (.tuple #[.bool false]) w)\/
  ∃x w',x∈Ms/\(Instr.next (pV r) false ty).run Tryz.prog w= .ok (.tuple #[.bool true,iV (x.1:Nat),x.2.1]) w'/\Sep w0 w' (TT fb r FM (gX Ms x.1)::As)/\(Instr.entry (pV r)).run Tryz.prog w'= .ok (.tuple #[iV (x.1:Nat),x.2.1]) w':=by
 rcases h.LQ 0 rfl dW ty with⟨h1,h2⟩|⟨key,v,kl,w',h1,h2,h3,h4,_,h5⟩
 ·refine .inl ⟨?_,h2⟩;unfold iJ at h1;exact List.map_eq_nil_iff.1 h1
 right;unfold iJ at h2;obtain⟨x,hx,e⟩:=List.mem_map.1 h2;obtain⟨y,e1,e2,_⟩:=Maps.keyOf_int_inv Tryz.underlying3 h1;injection e with e3 e4;rw[e2]at e3;unfold G6 at e3;injection e3 with _ e5;subst e5 e4;subst e1;refine⟨x,w',hx,h3,?_,h5⟩;have e6:kl=G6 x.1:=e2;rw[e6,abS]at h4;exact h4
theorem VN {M:BM} {x:Nat×Value×List UInt8} (hn:(M.map (·.1)).Nodup) (hx:x∈M):M.Perm (x::gX M x.1):=by
 induction M with
 |nil=>cases hx
 |cons y M ih=>
  rw[jS,wV]at hn;rcases kC.1 hx with rfl|hx
  ·(have e:gX (x::M) x.1=M:=by unfold gX;rw[xY];simp only[beq_self_eq_true,abF,JO,if_false];rw[EM];intro z hz;simp only[LA,jM];intro e;exact hn.1 (List.mem_map.2 ⟨z,hz,e⟩));rw[e]
  (have hne:y.1≠x.1:=fun e=>hn.1 (List.mem_map.2 ⟨x,hx,e.symm⟩));(have e:gX (y::M) x.1=y::gX M x.1:=by unfold gX;rw[xY];simp[hne]);rw[e];exact(List.Perm.cons _ (ih hn.2 hx)).trans (List.Perm.swap _ _ _)
structure MR (f q p:Nat) (S:VS) (a:VA) (r:Nat) (w0 wr:World) (R:List aZ) (v:Value) (Ms V:BM) (P:List xB) (b:VA):Prop where
 reads:Reads S a b
 perm:(V++Ms).Perm a.FM
 puts:P.map (·.1)=(V.filter (vU S)).map fun x=>(x.1,x.2.1)
 read:V≠[]->b.SM≠[]
 sep:Sep w0 wr (.sl 208 2 v P.length (P.flatMap tH)::AP f q p S b (.star (TT a.fb r a.FM Ms) (.dR (eB a.FM)))::R)
theorem MR.CY {r:Nat} {wr:World} {v:Value} {Ms V:BM} {P:List xB} {b:VA} {x:Nat×Value×List UInt8} (h:MR f q p S a r w0 wr R v Ms V P b) (hnd:(a.FM.map (·.1)).Nodup) (hx:x∈Ms):((V++[x])++gX Ms x.1).Perm a.FM/\(gX Ms x.1).length<Ms.length:=by
 have h1:((V++Ms).map (·.1)).Nodup:=(h.perm.map (·.1)).nodup_iff.2 hnd;rw[mV,sZ]at h1;have h2:=VN h1.2.1 hx;refine⟨?_,?_⟩
 ·rw[pJ];exact((afT V h2).symm).trans h.perm
 have:=h2.length_eq;rw[kR]at this;omega
theorem abT {M:BM} {k:Nat} {y:Value×List UInt8} (h:dN M k=some y):M≠[]:=by rintro rfl;cases h
theorem MR.alH {r:Nat} {wr wr':World} {v v':Value} {Ms V:BM} {P:List xB} {b b2:VA} {x:Nat×Value×List UInt8} (h:MR f q p S a r w0 wr R v Ms V P b) (hnd:(a.FM.map (·.1)).Nodup) (hx:x∈Ms) (hd:vU S x=false) (hR:Reads S b b2) (hne:b2.SM≠[])
  (hs:Sep w0 wr' (.sl 208 2 v' P.length (P.flatMap tH)::AP f q p S b2 (.star (TT a.fb r a.FM (gX Ms x.1)) (.dR (eB a.FM)))::R)):MR f q p S a r w0 wr' R v' (gX Ms x.1) (V++[x]) P b2:=
 ⟨h.reads.trans hR,(h.CY hnd hx).1,by rw[h.puts,E9,xY,hd];simp,fun _=>hne,hs⟩
theorem MR.alI {r:Nat} {wr wr':World} {v v':Value} {Ms V:BM} {P:List xB} {b b2:VA} {x:Nat×Value×List UInt8} {px:xB} (h:MR f q p S a r w0 wr R v Ms V P b) (hnd:(a.FM.map (·.1)).Nodup) (hx:x∈Ms) (hd:vU S x=true) (hpx:px.1=(x.1,x.2.1)) (hR:Reads S b b2) (hne:b2.SM≠[])
  (hs:Sep w0 wr' (.sl 208 2 v' (P.length+1) (P.flatMap tH++tH px)::AP f q p S b2 (.star (TT a.fb r a.FM (gX Ms x.1)) (.dR (eB a.FM)))::R)):MR f q p S a r w0 wr' R v' (gX Ms x.1) (V++[x]) (P++[px]) b2:=
 ⟨h.reads.trans hR,(h.CY hnd hx).1,by rw[mV,h.puts,E9,xY,hd];simp[hpx],fun _=>hne,by rw[jL,YE];simp only[oK,wU,List.flatMap_nil,yX44];exact hs⟩
end
def jH (S:VS):List (Nat×List UInt8):=((List.range (S.nb-96)).filter fun k=>bk S.cur k !=bk S.D.now (96+k)).map fun k=>(k,bk S.cur k)
def VS.bJ (S:VS):DK×Bool:=if jH S=[]then(S.D,true)else kN (bY (jH S)) S.D
def xC :List tJ->fZ->fZ
 |[],c=>c
 |some x::l,c=>xC l (c.set x.1 x.2)
 |none::l,c=>xC l c
theorem O1 :∀ {l:List tJ} {D D':DK},kN l D=(D',true)->D'.now=xC l D.now
 |[],D,D',h=>by cases h;rfl
 |none::l,D,D',h=>by
  rw[kN]at h;split at h
  ·cases h
  rw[O1 h];(show xC l (D.fl).now=xC l D.now);unfold DK.fl;rw[DK.G7]
 |some x::l,D,D',h=>by
  rw[kN]at h;split at h
  ·cases h
  rw[O1 h];(show xC l (D.wr x.1 x.2).now=xC l (D.now.set x.1 x.2));unfold DK.wr;rw[DK.G7]
theorem LU (xs ys:List tJ) (c:fZ):xC (xs++ys) c=xC ys (xC xs c):=by
 induction xs generalizing c with
 |nil=>rfl
 |cons x xs ih=>
  cases x with
  |none=>exact ih c
  |some y=>exact ih _
theorem apM {l:List tJ} {c:fZ} {j:Nat} (h:∀x∈l,∀i b,x=some (i,b)->i≠j):bk (xC l c) j=bk c j:=by
 induction l generalizing c with
 |nil=>rfl
 |cons x l ih=>
  cases x with
  |none=>exact ih fun y hy=>h y (vK _ hy)
  |some y=>(show bk (xC l (c.set y.1 y.2)) j=_);rw[ih fun z hz=>h z (vK _ hz),dJ _ _ (fun e=>h (some y) (nE ..) y.1 y.2 rfl e.symm)]
theorem VO :∀(ps:List (Nat×List UInt8)) (c:fZ) (k:Nat),(ps.map (·.1)).Nodup->96+k<c.length->bk (xC (gQ ps) c) (96+k)=match ps.find? fun x=>x.1==k with
  |some x=>x.2
  |none=>bk c (96+k)
 |[],c,k,_,_=>rfl
 |x::ps,c,k,hn,hk=>by
  rw[jS,wV]at hn;(show bk (xC (gQ ps) (c.set (96+x.1) x.2)) (96+k)=_);rw[VO ps _ k hn.2 (by rw[JR];exact hk),JS];by_cases e:x.1=k
  ·(have hno:ps.find? (fun y=>y.1==k)=none:=by rw[wL];intro y hy hyk;(have:y.1=k:=by simpa using hyk);exact hn.1 (List.mem_map.2 ⟨y,hy,by rw[this,e]⟩));rw[hno];simp only[e,beq_self_eq_true];rw[AQ _ _ _ _ aD,if_pos rfl]
  (have e2:(x.1==k)=false:=by simpa using e);rw[e2];simp only;cases hf:ps.find? (fun y=>y.1==k)with
  |some y=>rfl
  |none=>(show bk (c.set (96+x.1) x.2) (96+k)=_);rw[dJ _ _ aD]
theorem abU (l:List tJ) (c:fZ):(xC l c).length=c.length:=by
 induction l generalizing c with
 |nil=>rfl
 |cons x l ih=>
  cases x with
  |none=>exact ih c
  |some y=>exact(ih _).trans (JR ..)
theorem abV {ps:List (Nat×List UInt8)} {c:fZ} {k:Nat} (hn:(ps.map (·.1)).Nodup) (hlen:ps.length<=40) (hk:96+k<c.length):bk (xC (bY ps) c) (96+k)=match ps.find? fun x=>x.1==k with
  |some x=>x.2
  |none=>bk c (96+k):=by
 unfold bY;rw[LU];have e1:∀c':fZ,xC (none::some (0,fQ (ps.map (·.1)))::none::(gQ ps++[none,some (0,fQ []),none])) c'=(xC (gQ ps) (c'.set 0 (fQ (ps.map (·.1))))).set 0 (fQ []):=fun c'=>by(show xC (gQ ps++[none,some (0,fQ []),none]) _=_);rw[LU];rfl
 rw[e1,dJ _ _ aD,VO ps _ k hn (by rw[JR,abU];exact hk)];have e2:bk ((xC (kI ps) c).set 0 (fQ (ps.map (·.1)))) (96+k)=bk c (96+k):=by rw[dJ _ _ aD];(refine apM fun x hx i b e=>?_);unfold kI at hx;obtain⟨y,hy,e3⟩:=List.mem_map.1 hx;rw[e]at e3;injection e3 with e4;injection e4 with e5 _;have:=List.snd_lt_of_mem_zipIdx hy;omega
 cases hf:ps.find? (fun y=>y.1==k)with
 |some y=>rfl
 |none=>exact e2
theorem uP (S:VS):(jH S).map (·.1)=(List.range (S.nb-96)).filter fun k=>bk S.cur k !=bk S.D.now (96+k):=by unfold jH;rw[qJ];exact List.map_id _
theorem vW (S:VS):((jH S).map (·.1)).Nodup:=by rw[uP];exact List.nodup_range.filter _
theorem J3 {S:VS} {x:Nat×List UInt8} (h:x∈jH S):x.1<S.nb-96/\x.2=bk S.cur x.1/\bk S.cur x.1≠bk S.D.now (96+x.1):=by unfold jH at h;obtain⟨k,hk,rfl⟩:=List.mem_map.1 h;obtain⟨h1,h2⟩:=List.mem_filter.1 hk;exact⟨List.mem_range.1 h1,rfl,by simpa using h2⟩
theorem O3 (S:VS) {k:Nat} (hk:k<S.nb-96):(match (jH S).find? fun x=>x.1==k with
  |some x=>x.2
  |none=>bk S.D.now (96+k))=bk S.cur k:=by
 cases hf:(jH S).find? (fun y=>y.1==k)with
 |some y=>(have h1:y.1=k:=by simpa using GN hf);have h2:=(J3 (TJ hf)).2.1;rw[h1]at h2;exact h2
 |none=>
  rw[wL]at hf;(show bk S.D.now (96+k)=_);by_cases e:bk S.cur k=bk S.D.now (96+k)
  ·exact e.symm
  refine absurd ?_ (hf (k,bk S.cur k) ?_)
  ·simp
  unfold jH;exact List.mem_map.2 ⟨k,List.mem_filter.2 ⟨List.mem_range.2 hk,by simpa using e⟩,rfl⟩
theorem O4 {S:VS} (hlen:S.D.now.length=S.nb) (l5:(jH S).length<=40) (h:S.bJ.2=true) {k:Nat} (hk:k<S.nb-96):bk S.bJ.1.now (96+k)=bk S.cur k:=by
 unfold VS.bJ at h ⊢;by_cases e:jH S=[]
 ·rw[if_pos e];have:=O3 S hk;rw[e]at this;exact this
 rw[if_neg e]at h ⊢;have h1:kN (bY (jH S)) S.D=((kN (bY (jH S)) S.D).1,true):=by rw[<-h]
 rw[O1 h1,abV (vW S) l5 aD,O3 S hk]
theorem TU {nb:Nat} {ps:List (Nat×List UInt8)} (YO:96<nb) (hps:∀x∈ps,96+x.1<nb/\x.2.length=512) (hlen:ps.length<=40):∀x∈bY ps,∀i b,x=some (i,b)->i<nb/\b.length=512:=by
 intro x hx i b e;subst e;unfold bY at hx;rcases iN.1 hx with hx|hx
 ·unfold kI at hx;obtain⟨y,hy,e⟩:=List.mem_map.1 hx;injection e with e1;injection e1 with e2 e3;subst e2 e3;have h1:=List.snd_lt_of_mem_zipIdx hy;have h2:=List.fst_mem_of_mem_zipIdx hy;exact⟨by omega,(hps _ h2).2⟩
 simp only[kC,iN,reduceCtorEq,U2,Prod.mk.injEq,false_or,D8,or_false]at hx;rcases hx with⟨rfl,rfl⟩|hx|⟨rfl,rfl⟩
 ·exact⟨by omega,oO (by rw[iM];omega)⟩
 ·unfold gQ at hx;obtain⟨y,hy,e⟩:=List.mem_map.1 hx;injection e with e1;injection e1 with e2 e3;subst e2 e3;exact hps _ hy
 exact⟨by omega,oO bL⟩
theorem VP {S:VS} (hD:S.D.ok S.nb) (YO:96<S.nb) (apN:kP (S.nb-96) S.cur) (l5:(jH S).length<=40):S.bJ.1.ok S.nb:=by
 unfold VS.bJ;split
 ·exact hD
 refine ajJ hD (TU YO (fun x hx=>?_) l5);obtain⟨h1,h2,_⟩:=J3 hx;exact⟨by omega,by rw[h2];exact jT apN h1⟩
def jW (M V:BM):BM:=V.foldl (fun M x=>gX M x.1++[x]) M
theorem af1 (M V:BM) (x:Nat×Value×List UInt8):jW M (V++[x])=gX (jW M V) x.1++[x]:=by unfold jW;rw[OC];rfl
theorem VQ {M V:BM} {x:Nat×Value×List UInt8} (h:x∈jW M V):x∈V\/(x∈M/\∀y∈V,y.1≠x.1):=by
 induction V generalizing M with
 |nil=>exact .inr ⟨h,fun y hy=>by cases hy⟩
 |cons y V ih=>
  have h2:x∈jW (gX M y.1++[y]) V:=h;rcases ih h2 with h3|⟨h3,h4⟩
  ·exact .inl (vK _ h3)
  rcases iN.1 h3 with h3|h3
  ·unfold gX at h3;obtain⟨h5,h6⟩:=List.mem_filter.1 h3;(have h7:x.1≠y.1:=by simpa using h6);refine .inr ⟨h5,fun z hz=>?_⟩;rcases kC.1 hz with rfl|hz
   ·exact fun e=>h7 e.symm
   exact h4 z hz
  rw[sW]at h3;exact .inl (by rw[h3];exact nE ..)
theorem af2 (M V:BM):∃rest:BM,(jW M V++rest).Perm (M++V):=by
 induction V generalizing M with
 |nil=>exact⟨[],by simp[jW]⟩
 |cons y V ih=>obtain⟨r,hr⟩:=ih (gX M y.1++[y]);refine⟨r++M.filter (fun x=>x.1==y.1),?_⟩;(have e1:(jW M (y::V)++(r++M.filter fun x=>x.1==y.1)).Perm ((gX M y.1++[y])++V++M.filter fun x=>x.1==y.1):=by rw[<-pJ];exact hr.append_right _);refine e1.trans ?_;have e2:(M.filter (fun x=>x.1==y.1)++gX M y.1).Perm M:=List.filter_append_perm (fun x=>x.1==y.1) M;(have e3:((gX M y.1++[y])++V++M.filter fun x=>x.1==y.1).Perm ((M.filter fun x=>x.1==y.1)++(gX M y.1++(y::V))):=by refine OI.trans ?_;simp only[pJ,List.singleton_append];exact .refl _);refine e3.trans ?_;rw[<-pJ];exact e2.append_right _
def VCw (S:VS) (a:VA):Prop:=VC {S with D:= {S.D with off:=false}} a
theorem VCw.on {S:VS} {a:VA} (h:VCw S a) (ho:S.D.off=false):VC S a:=
 ⟨⟨h.pF.now,h.pF.fast,h.pF.few,h.pF.some,h.pF.back,h.pF.left⟩,h.big,ho,h.cur,h.seen,h.fresh,h.rest,h.few,h.none⟩
def VS.settled (S:VS):VS:= {S with D:=S.bJ.1,m:=0}
section
variable {w0 w:World} {R:List aZ} {f q p:Nat} {S:VS} {a:VA}
theorem O5 {l1 l2:List Nat} (h:l1.Perm l2) (h1:l1.Pairwise (· <= ·)) (h2:l2.Pairwise (· <= ·)):l1=l2:=
 h.eq_of_pairwise (fun a b _ _ h3 h4=>Nat.le_antisymm h3 h4) h1 h2
theorem abW {V:BM} {P P':List xB} (hC:VC S a) (hnd:(a.FM.map (·.1)).Nodup) (hV:V.Perm a.FM) (hP:P.map (·.1)=(V.filter (vU S)).map fun x=>(x.1,x.2.1)) (hp:P.Perm P') (hs:P'.Pairwise fun x y=>x.1.1<=y.1.1):
  P'.map (fun x=>(x.1.1,bk S.cur x.1.1))=jH S:=by
 have hk:P.map (·.1.1)=(V.filter (vU S)).map (·.1):=by have:=congrArg (List.map Prod.fst) hP;rw[qJ,qJ]at this;exact this
 have aHZ:(V.map (·.1)).Nodup:=(hV.map (·.1)).nodup_iff.2 hnd;have e:P'.map (·.1.1)=(jH S).map (·.1):=by
  refine O5 ?_ ?_ ?_
  ·(have h1:(P'.map (·.1.1)).Perm ((V.filter (vU S)).map (·.1)):=by rw[<-hk];exact(hp.map _).symm);refine h1.trans ?_;rw[ai1 (aHZ.sublist (GR.map _)) (vW S)];intro k;rw[uP];constructor
   ·intro hm;obtain⟨x,hx,rfl⟩:=List.mem_map.1 hm;obtain⟨h2,h3⟩:=List.mem_filter.1 hx;have h4:=hC.fresh x (hV.subset h2);refine List.mem_filter.2 ⟨List.mem_range.2 h4.1,?_⟩;unfold vU at h3;rw[h4.2]at h3;exact h3
   intro hm;obtain⟨h2,h3⟩:=List.mem_filter.1 hm;cases hf:dN a.FM k with
   |none=>have:=hC.rest k (List.mem_range.1 h2) hf;rw[this]at h3;simp at h3
   |some y=>have h5:=lN hf;refine List.mem_map.2 ⟨(k,y),List.mem_filter.2 ⟨hV.symm.subset h5,?_⟩,rfl⟩;unfold vU;rw[(hC.fresh _ h5).2];exact h3
  ·rw[GJ];exact hs
  rw[uP];exact(List.pairwise_lt_range.imp Nat.le_of_lt).filter _
 have h2:P'.map (fun x=>(x.1.1,bk S.cur x.1.1))=(P'.map (·.1.1)).map fun k=>(k,bk S.cur k):=by rw[qJ];rfl
 rw[h2,e,uP];rfl
theorem Sep.YP {As:List aZ} {M:BM} {x:Nat×Value×List UInt8} (i:Nat) (h:Sep w0 w As) (hi:As[i]? =some (.dR (eB M))) (hx:x∈M):BytesAt w x.2.1 x.2.2:=by have e:=(rV hi).1;rw[e]at h;exact(h.perm lZ).ajI hx
theorem au2 {V:BM} {P P':List xB} {g n c:Nat} {R':List aZ} (hC:VC S a) (hV:V.Perm a.FM) (hP:P.map (·.1)=(V.filter (vU S)).map fun x=>(x.1,x.2.1)) (hp:P.Perm P') (hn:P'.length=n)
  (hS0:Sep w0 w R') (i j:Nat) (hi:R'[i]? =some (.sl 208 2 (sV g n c) n (P'.flatMap tH))) (hj:R'[j]? =some (.dR (eB a.FM))):
  apO w0 R' g n (P'.map fun x=>(x.1.1,bk S.cur x.1.1)) (P'.map (·.1.2)):=by
 have hmem:∀x∈P',∃y∈a.FM,y.1=x.1.1/\y.2.1=x.1.2/\y.2.2=bk S.cur x.1.1/\y.1<S.nb-96:=fun x hx=>by have h1:x.1∈P.map (·.1):=List.mem_map.2 ⟨x,hp.symm.subset hx,rfl⟩;rw[hP]at h1;obtain⟨y,hy,e⟩:=List.mem_map.1 h1;have h2:=hV.subset (List.mem_filter.1 hy).1;have h3:=hC.fresh y h2;(have e1:y.1=x.1.1:=by rw[<-e]);exact⟨y,h2,e1,by rw[<-e],by rw[<-e1];exact h3.2,h3.1⟩
 have hat:∀(w':World) (X:List aZ) (k:Nat),(X++R')[X.length+k]? =R'[k]? :=fun w' X k=>by rw[vM aD,JM]
 have hk2:∀x,(tH x).length=2:=fun _=>rfl
 refine⟨by rw[iM];exact hn,by rw[iM];exact hn,fun w' X hS k hk=>?_,fun k hk=>?_,fun u hu=>?_⟩
 ·(have h1:=fun j hj=>hS.cellAt (X.length+i) ((hat w' X i).trans hi) j hj);have h2:P'[k]? =some P'[k]:=gE aD;refine⟨?_,?_⟩
  ·have h3:=h1 (k*2) aD;have h4:=flat_get hk2 P' k 0 aV;rw[tF]at h4;rw[h3,h4,h2];simp[tH]
  have h3:=h1 (k*2+1) aD;rw[h3,flat_get hk2 P' k 1 aV,h2];simp[tH]
 ·intro w' X hS;obtain⟨y,hy,_,e2,e3,_⟩:=hmem (P'[k]'aD) (nT _);have h5:=hS.YP (X.length+j) ((hat w' X j).trans hj) hy;rw[e2,e3]at h5;simpa using h5
 obtain⟨x,hx,rfl⟩:=List.mem_map.1 hu;obtain⟨y,hy,e1,e2,e3,e4⟩:=hmem x hx;have h5:=hS0.YP j hj hy;obtain⟨_,A,c',e,_⟩:=h5;rw[e3,jT hC.cur (by rw[<-e1];exact e4),e2]at e;exact⟨A,c',e⟩
theorem au3 {V:BM} {P P':List xB} (hC:VC S a) (hps:P'.map (fun x=>(x.1.1,bk S.cur x.1.1))=jH S) (h1:1<=P'.length) (h40:P'.length<=40):apP S.nb (P'.map fun x=>(x.1.1,bk S.cur x.1.1)):=by
 refine⟨by rw[iM];exact h1,by rw[iM];exact h40,fun x hx=>?_,?_⟩
 ·rw[hps]at hx;obtain⟨h2,h3,_⟩:=J3 hx;have:=hC.big;exact⟨by omega,by rw[h3];exact jT hC.cur h2⟩
 rw[hps];exact vW S
def VT :Option Nat->BM->aZ
 |none,_=>.emp
 |some b,M=>mO 3 b (iJ M)
theorem Sep.af3 {sb:Option Nat} {M:BM} (hn:sb=none->M=[]) (h:Sep w0 w (eU sb M::R)):Sep w0 w (VT sb M:: .dR (eB M)::R):=by
 cases sb with
 |none=>rw[hn rfl];exact(h.abJ).wW.wW
 |some b=>exact h.jN
theorem Sep.alJ {sb:Option Nat} {M V FM:BM} (hV:V.Perm FM) (hn:sb=none->M=[]/\V=[]) (h:Sep w0 w (VT sb (jW M V):: .dR (eB M):: .dR (eB FM)::R)):Sep w0 w (eU sb (jW M V)::R):=by
 cases sb with
 |none=>exact((h.drop 3).wW)
 |some b=>obtain⟨rest,hr⟩:=af2 M V;have h1:Sep w0 w (.dR (eB M):: .dR (eB FM)::mO 3 b (iJ (jW M V))::R):=Sep.dE [1,2,0] h aV bL;have h2:Sep w0 w (eB M++(.dR (eB FM)::mO 3 b (iJ (jW M V))::R)):=h1.bE;have h3:Sep w0 w (.dR (eB FM)::(eB M++(mO 3 b (iJ (jW M V))::R))):=h2.perm lZ;have h4:Sep w0 w (eB FM++(eB M++(mO 3 b (iJ (jW M V))::R))):=h3.bE;(have e:(eB FM++(eB M++(mO 3 b (iJ (jW M V))::R))).Perm (eB (jW M V)++(eB rest++(mO 3 b (iJ (jW M V))::R))):=by rw[<-pJ,<-pJ];refine List.Perm.append_right _ ?_;(have h5:(eB (jW M V)++eB rest).Perm (eB M++eB V):=by have:=hr.map (fun x:Nat×Value×List UInt8=>aI x.2.1 x.2.2);rw[mV,mV]at this;exact this);exact(OI.trans (afT _ (hV.symm.map _))).trans h5.symm);have h5:=h4.perm e;have h6:Sep w0 w (eB rest++(.dR (eB (jW M V))::mO 3 b (iJ (jW M V))::R)):=(h5.dB).perm lZ.symm;have h7:=h6.drop (eB rest).length;rw[GQ]at h7;exact(h7.perm (List.Perm.swap _ _ _)).l7
theorem af4 {b:VA} {V:BM} (hC:VC S a) (hR:Reads S a b) (hV:V.Perm a.FM) (hm:S.m<=40) (hc:S.bJ.2=true) (hne:a.FM≠[]->b.SM≠[]) (nb:Nat):VCw S.settled ⟨b.sb,jW b.SM V,nb,[]⟩:=by
 have l5:(jH S).length<=40:=by
  have h1:((jH S).map (·.1)).length<=(a.FM.map (·.1)).length:=ak1 (vW S) fun k hk=>by
   rw[uP]at hk;obtain⟨h2,h3⟩:=List.mem_filter.1 hk;cases hf:dN a.FM k with
   |none=>rw[hC.rest k (List.mem_range.1 h2) hf]at h3;simp at h3
   |some y=>exact List.mem_map.2 ⟨(k,y),lN hf,rfl⟩
  rw[iM,iM]at h1;have:=hC.few;omega
 have alK:=fun k hk=>O4 (S:=S) hC.pF.now.len l5 hc (k:=k) hk
 have hok:=VP hC.pF hC.big hC.cur l5;refine⟨⟨hok.now,hok.fast,hok.few,hok.some,hok.back,hok.left⟩,hC.big,rfl,hC.cur,fun x hx=>?_,(fun x hx=>absurd hx D8),fun k hk _=>(alK k hk).symm,gI _,fun hs=>?_⟩
 ·rcases VQ hx with h1|⟨h1,h2⟩
  ·have h3:=hC.fresh x (hV.subset h1);exact⟨h3.1,by rw[h3.2];exact(alK _ h3.1).symm⟩
  have h3:=hR.ok.seen x h1;refine⟨h3.1,?_⟩;have hf:dN a.FM x.1=none:=by
   cases hf:dN a.FM x.1 with
   |none=>rfl
   |some y=>exact(h2 (x.1,y) (hV.symm.subset (lN hf)) rfl).elim
  rw[h3.2,<-hC.rest x.1 h3.1 hf];exact(alK _ h3.1).symm
 have h1:=hR.ok.none hs;have h2:a.FM=[]:=by
  by_cases e:a.FM=[]
  ·exact e
  exact absurd h1 (hne e)
 have h3:V=[]:=by rw[h2]at hV;exact List.Perm.eq_nil hV
 show jW b.SM V=[]
 rw[h1,h3];rfl
structure af5 (f q p:Nat) (S:VS) (a b:VA) (D:DK) (r:Nat) (w0 wr:World) (R:List aZ) (Ms V:BM):Prop where
 perm:(V++Ms).Perm a.FM
 sep:Sep w0 wr (TT a.fb r a.FM Ms::VT b.sb (jW b.SM V):: .dR (eB b.SM):: .dR (eB a.FM)::kX f q S b.sb (.map (some a.fb)) false::aH q p false::aO p D::R)
end
end Go.Proofs.YtmjomdkleikgbaaGreat
