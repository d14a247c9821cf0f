/- Parts. -/
import Derived.Test.YtmjomdkleikgbaaGreatJ29
import Derived.IntWalk
import Derived.Laws.RangeString
import Derived.Laws.ResultCell
import Derived.Handy
set_option linter.unusedVariables false
set_option linter.unusedSimpArgs false
set_option maxRecDepth 100000
set_option maxHeartbeats 20000000
namespace Go.Proofs.YtmjomdkleikgbaaGreat
open Go.RowKit
theorem adN {l:List UInt8} (h:l.length<1):iL l=false:=by
 have:¬0<l.length:=by omega
 unfold iL;simp only[this,decide_false,OH]
theorem ahG {l:List UInt8} (h:14<l.length):iL l=false:=by
 have:¬l.length<=14:=by omega
 unfold iL;simp only[this,decide_false,Bool.and_false,OH]
theorem ahH {l:List UInt8} (h:dots l=true):iL l=false:=by unfold iL;simp only[h,abF,Bool.and_false,OH]
theorem am0 {l:List UInt8} (h0:1<=l.length) (h1:l.length<=14) (hd:dots l=false):iL l=l.all fun c=>lQ c.toNat:=by have h0':0<l.length:=h0;unfold iL;simp only[h0',h1,hd,decide_true,U7,Bool.and_true,Bool.true_and]
theorem av3 {l:List UInt8} (h:dots l=false):(l==[46])=false/\(l==[46,46])=false:=by unfold dots at h;exact YG.1 h
theorem arH {D:List UInt8} {q:UInt8->Bool} {i:Nat} (hi:i<D.length) (h:(D.take i).all q=true) (hq:q D[i]=true):(D.take (i+1)).all q=true:=by rw[pE,gE hi,List.all_append,h];simp[hq]
theorem av4 {D:List UInt8} {q:UInt8->Bool} {i:Nat} (hi:i<D.length) (hq:q D[i]=false):D.all q=false:=by
 cases h:D.all q with
 |false=>rfl
 |true=>rw[List.all_eq_true.1 h _ (nT hi)]at hq;cases hq
theorem ahI (x:Int):x=46\/x=45\/(x<48/\x≠46/\x≠45)\/(48<=x/\x<=57)\/x=95\/(57<x/\x<97/\x≠95)\/(97<=x/\x<=122)\/122<x:=by omega
theorem ahJ {x:Nat} (h:(97<=(x:Int)/\(x:Int)<=122)\/(48<=(x:Int)/\(x:Int)<=57)\/(x:Int)=46\/(x:Int)=95\/(x:Int)=45):lQ x=true:=by unfold lQ;simp only[MO,sJ,tX,sK];omega
theorem am1 {x:Nat} (h:¬((97<=(x:Int)/\(x:Int)<=122)\/(48<=(x:Int)/\(x:Int)<=57)\/(x:Int)=46\/(x:Int)=95\/(x:Int)=45)):lQ x=false:=by
 cases e:lQ x with
 |false=>rfl
 |true=>unfold lQ at e;simp only[MO,sJ,tX,sK]at e;omega
theorem Z25 {P:Prop} (h:P:=by go_enter Tryz.func159,Tryz.ntmps159;go_wp2_with fail;go_ret;exact⟨rfl,rfl⟩):P:=h
theorem adO (s:ByteArray) (w:World) (hs:s.size<=4611686018427387904):
  Calls Tryz.prog 159 #[.string s] w fun e w'=>e= .returned (.bool (iL s.data.toList))/\w'=w:=by
 have hsz:s.size=s.data.toList.length:=Lib.size_eq s;have htl:s.toList=s.data.toList:=Lib.toList_data s;by_cases h0:s.size<1
 case pos=>(have b1:(s.size:Int)<1:=by omega);have hr:=adN (hsz▸h0);rw[hr];clear hsz htl;exact Z25
 by_cases h1:14<s.size
 case pos=>(have b1:¬(s.size:Int)<1:=by omega);(have b2:(14:Int)<(s.size:Int):=by omega);have hr:=ahG (hsz▸h1);rw[hr];clear hsz htl;exact Z25
 have b1:¬(s.size:Int)<1:=by omega
 have b2:¬(14:Int)<(s.size:Int):=by omega
 by_cases hd:dots s.data.toList=true
 case pos=>
  have hr:=ahH hd;rw[hr];unfold dots at hd;rw[<-htl,MO]at hd;clear hsz htl;have hd:(s.toList==[46])=true\/((s.toList==[46])=false/\(s.toList==[46,46])=true):=by
   cases h:s.toList==[46]with
   |true=>exact .inl rfl
   |false=>rw[h]at hd;exact .inr ⟨rfl,by simpa using hd⟩
  rcases hd with hd|⟨hd,hd3⟩
  ·exact Z25
  exact Z25
 have hd':dots s.data.toList=false:=by simpa using hd
 obtain⟨hd1,hd2⟩:=av3 hd';have hr:=am0 aD aD hd';rw[<-htl]at hd1 hd2;rw[hr];obtain⟨R,hR⟩:∃R,R=s.data.toList.all fun c=>lQ c.toNat:=⟨_,rfl⟩
 rw[<-hR];have hR':=Lh hR;have hsz':=Lh hsz;clear hsz htl hd hr hd' hR;go_enter Tryz.func159,Tryz.ntmps159;go_wp2_with fail;go_loopg[3] s.size (fun g ii wr=>∃i:Nat,i<=s.size/\Hid (g=s.size-i)/\ii=iV i/\wr=w/\Hid (((s.data.toList.take i).all fun c=>lQ c.toNat)=true))
 case atStart=>exact⟨0,by omega,rfl,rfl,rfl,rfl⟩
 obtain⟨i,hi,hm,rfl,rfl,hal⟩:=hrel;by_cases hlt:i<s.size
 case pos=>
  (have c1:(0:Int)<=(i:Int):=by omega);(have c2:(i:Int)<(s.size:Int):=by omega);have hil:=Lh (hsz'.out▸hlt);(have hnext:Hid (lQ s[i].toNat=true->((s.data.toList.take (i+1)).all fun c=>lQ c.toNat)=true):=fun h=>arH (D:=s.data.toList) hil.out hal.out h);(have hbad:Hid (lQ s[i].toNat=false->R=false):=fun h=>hR'.out.trans (av4 (D:=s.data.toList) hil.out h));clear hal;(rcases ahI (s[i].toNat:Int)with h|h|h|h|h|h|h|h);all_goals
   first |(have b46:((s[i].toNat:Int)==46)=true:=sK.2 aD)|(have b46:((s[i].toNat:Int)==46)=false:=jM.2 aD)
   first |(have b45:((s[i].toNat:Int)==45)=true:=sK.2 aD)|(have b45:((s[i].toNat:Int)==45)=false:=jM.2 aD)
   first |(have b95:((s[i].toNat:Int)==95)=true:=sK.2 aD)|(have b95:((s[i].toNat:Int)==95)=false:=jM.2 aD)
   first |(have b97:97<=(s[i].toNat:Int):=by omega)|(have b97:(s[i].toNat:Int)<97:=by omega)
   first |(have b48:48<=(s[i].toNat:Int):=by omega)|(have b48:(s[i].toNat:Int)<48:=by omega)
   first |(have aJ1:(s[i].toNat:Int)<=122:=by omega)|(have aJ1:122<(s[i].toNat:Int):=by omega)
   first |(have b57:(s[i].toNat:Int)<=57:=by omega)|(have b57:57<(s[i].toNat:Int):=by omega)
   have h':=Lh h
   clear h
   go_wp2_with fail
   all_goals first
    |(go_roundg (s.size-(i+1))
      case measure=>rw[hm.out];omega
      case rel=>exact⟨i+1,by omega,rfl,by go_num,rfl,hnext.out (ahJ (by have:=h'.out;omega))⟩)
    |(go_ret
      refine⟨?_,rfl⟩
      rw[hbad.out (am1 (by have:=h'.out;omega))]
      rfl)
    |(exfalso
      simp_all
      done)
    |(exfalso
      simp_all
      omega)
 have e:i=s.size:=by omega
 have hfin:Hid (R=true):=by have h:=hal.out;rw[e,hsz'.out,NY]at h;exact hR'.out.trans h
 have c2:¬(i:Int)<(s.size:Int):=by omega
 clear hal;go_wp2_with fail;go_ret;refine⟨?_,rfl⟩;rw[hfin.out];rfl
theorem WO :(Tryz.prog.info? 9).map (fun i=>(i.zero,i.size,i.bytes))=some (some (.string ⟨#[]⟩),1,16):=by kernel_rfl
def ZV (v:Value) (L:List ByteArray):aZ:=.sl 9 1 v L.length (L.map .string)
def lW (b:ByteArray):List UInt8:=b.data.toList
theorem ahK {D:List UInt8} {f i:Nat} (hf:f<=i) (hi:i<D.length) (h47:D[i]=47) (hno:∀k (hk:k<D.length),f<=k->k<i->D[k]≠47):
  splitB (D.drop f)=(D.drop f).take (i-f)::splitB (D.drop (i+1)):=by
 have e:D.drop f=(D.drop f).take (i-f)++47::D.drop (i+1):=by
  conv=>lhs;rw[<-D7 (i-f) (D.drop f)]
  rw[LD,show f+(i-f)=i by omega,aaV hi,h47]
 conv=>lhs;rw[e]
 refine LZ fun hm=>?_
 obtain⟨k,hk,ek⟩:=List.mem_iff_getElem.1 hm;rw[List.getElem_take,abB]at ek;rw[qL,rU]at hk;exact hno (f+k) aD aD aD ek
theorem am2 {D:List UInt8} {f:Nat} (hno:∀k (hk:k<D.length),f<=k->D[k]≠47):splitB (D.drop f)=[D.drop f]:=by
 refine oP fun hm=>?_
 obtain⟨k,hk,ek⟩:=List.mem_iff_getElem.1 hm;rw[abB]at ek;rw[rU]at hk;exact hno (f+k) aD aD ek
theorem ZW (p:List UInt8):(splitB p).length<=p.length+1:=by
 induction p with
 |nil=>exact iB _
 |cons c l ih=>obtain⟨h,t,e⟩:=sH l;rw[iG,e];rw[e]at ih;split<;>simp only[kR]at ih ⊢ <;>omega
theorem I7 (p:ByteArray) (w:World) (hp:p.size<=100):
  Calls Tryz.prog 158 #[.string p] w fun e w'=>∃v L,e= .returned v/\L.map lW=splitB p.data.toList/\Sep w w' [ZV v L]:=by
 have hsz:=Lh (Lib.size_eq p);obtain⟨i0,hif,hz0,hz1,hz2⟩:=info_parts WO;go_enter Tryz.func158,Tryz.ntmps158;go_wp2_with fail;go_loopw[3,4,5] (fun vo vf vi wr=>∃(L:List ByteArray) (f i:Nat),f<=i/\i<=p.size/\vf=iV f/\vi=iV i/\L.length<=i/\Hid (splitB p.data.toList=L.map lW++splitB (p.data.toList.drop f))/\Hid (∀k (hk:k<p.data.toList.length),f<=k->k<i->p.data.toList[k]≠47)/\Sep w wr [ZV vo L]) (fun _ _ vi _=>p.size-(intOf vi).toNat)
 case atStart=>exact⟨[],0,0,by omega,by omega,rfl,rfl,by simp,by simp[Hid],(fun k hk h1 h2=>absurd h2 aD),(Sep.nil w).iO _ _⟩
 obtain⟨L,f,i,hfi,hi,rfl,rfl,hLi,hsp,hno,hS⟩:=hrel;by_cases hlt:i<p.size
 case pos=>
  (have c1:(0:Int)<=(i:Int):=by omega);(have c2:(i:Int)<(p.size:Int):=by omega);(have c3:(0:Int)<=(f:Int):=by omega);(have c4:(f:Int)<=(i:Int):=by omega);(have c5:(i:Int)<=(p.size:Int):=by omega);by_cases h47:p[i]=47
  case pos=>
   (have b47:((p[i].toNat:Int)==47)=true:=by rw[h47];rfl);have hS1:=hS.alloc (.cells #[.string (p.extract f i)] 9);go_wp2_with(at_builtin;refine mJ 0 rfl _ _ 73 rfl 9 i0 (.string ⟨#[]⟩) 1 16 Tryz.underlying73 hif hz0 hz1 hz2 rfl aV hS1 _ _ _ rfl rfl ⟨wr.heap.size,0,none⟩ 1 1 [.string (p.extract f i)] rfl rfl (cell_one_new _ _ _) oCl aV vQ aD ?_);intro g c w2 hS2 hz;(have dX:Sep w w2 [ZV (sV g (L.length+1) c) (L++[p.extract f i])]:=by unfold ZV;rw[mV,jL];exact hS2);have vC:=Lh dX;have hl:=hsz.out;(have hex:lW (p.extract f i)=(p.data.toList.drop f).take (i-f):=by(show(p.extract f i).data.toList=_);rw[Lib.extract_data]);(have hsp2:Hid (splitB p.data.toList=(L++[p.extract f i]).map lW++splitB (p.data.toList.drop (i+1))):=by have h:=hsp.out;rw[ahK hfi aD h47 hno.out]at h;(show _=_);rw[h,mV,pJ,jS,yX,hex];rfl);(have bZ:Hid (∀k (hk:k<p.data.toList.length),i+1<=k->k<i+1->p.data.toList[k]≠47):=fun k hk h1 h2=>absurd h2 aD);clear hS hS1 hS2 hz dX hl hex hsp hno;go_wp2_with fail;go_roundw
   ·exact⟨_,i+1,i+1,by omega,by omega,by go_num,by go_num,by rw[jL,oK];omega,hsp2,bZ,vC.out⟩
   simp[intOf];omega
  (have b47:((p[i].toNat:Int)==47)=false:=by rw[jM];intro h;exact h47 (UInt8.toNat_inj.1 (by show p[i].toNat=47;omega)));have bZ:Hid (∀k (hk:k<p.data.toList.length),f<=k->k<i+1->p.data.toList[k]≠47):=fun k hk h1 h2=>by
   by_cases e:k=i
   ·subst e;exact h47
   exact hno.out k hk h1 aD
  have hS':=Lh hS;clear hS hno;go_wp2_with fail;go_roundw
  ·exact⟨L,f,i+1,by omega,by omega,rfl,by go_num,by omega,hsp,bZ,hS'.out⟩
  simp[intOf];omega
 have c2:¬(i:Int)<(p.size:Int):=by omega
 have c3:(0:Int)<=(f:Int):=by omega
 have c4:(f:Int)<=(p.size:Int):=by omega
 have hl:=hsz.out;have hex:lW (p.extract f p.size)=p.data.toList.drop f:=by(show(p.extract f p.size).data.toList=_);rw[Lib.extract_data,qH (by rw[rU];omega)]
 have hfin:Hid ((L++[p.extract f p.size]).map lW=splitB p.data.toList):=by have h:=hsp.out;rw[am2 (fun k hk h1=>hno.out k hk h1 aD)]at h;(show _=_);rw[h,mV,jS,yX,hex]
 have hS1:=hS.alloc (.cells #[.string (p.extract f p.size)] 9);clear hex hl hsp hno;go_wp2_with(at_builtin;refine mJ 0 rfl _ _ 73 rfl 9 i0 (.string ⟨#[]⟩) 1 16 Tryz.underlying73 hif hz0 hz1 hz2 rfl aV hS1 _ _ _ rfl rfl ⟨wr.heap.size,0,none⟩ 1 1 [.string (p.extract f p.size)] rfl rfl (cell_one_new _ _ _) oCl aV vQ aD ?_);intro g c w2 hS2 hz;have dX:Sep w w2 [ZV (sV g (L.length+1) c) (L++[p.extract f p.size])]:=by unfold ZV;rw[mV,jL];exact hS2
 have vC:=Lh dX;clear hS hS1 hS2 hz dX;go_wp2_with fail;go_ret;exact⟨_,_,rfl,hfin.out,vC.out⟩
theorem MK {b:List UInt8} (h:(47:UInt8)∉b):∀a:List UInt8,splitB (a++47::b)=splitB a++[b]
 |[]=>by(show splitB (47::b)=[[]]++[b]);rw[iG,if_pos rfl,oP h];rfl
 |c::a=>by
  have ih:=MK h a;rw[kW,iG,iG,ih];split
  ·rfl
  obtain⟨x,t,e⟩:=sH a;rw[e];rfl
theorem kM (p:List UInt8):((47:UInt8)∉p/\nA p=0/\splitB p=[p])\/∃a b,p=a++47::b/\(47:UInt8)∉b/\nA p=a.length/\splitB p=splitB a++[b]:=by
 have key:∀j (hj:j<p.length),(((⟨p.toArray⟩:ByteArray).data[j]!).toNat:Int)=(p[j].toNat:Int):=fun j hj=>by(show((p.toArray[j]!).toNat:Int)=_);rw[getElem!_pos p.toArray j (by simpa using hj)];simp
 unfold nA;rcases Lib.lastIndexByte_spec ⟨p.toArray⟩ 47 with⟨h,hn⟩|⟨i,hi,h,h47,hn⟩
 ·left;(have h0:(47:UInt8)∉p:=fun hm=>by obtain⟨j,hj,e⟩:=List.mem_iff_getElem.1 hm;refine hn j hj ?_;rw[key j hj,e];rfl);exact⟨h0,by rw[h];rfl,oP h0⟩
 right;have hi':i<p.length:=hi;have e47:p[i]=47:=UInt8.toNat_inj.1 (by have:=key i hi';show p[i].toNat=47;omega);have hb:(47:UInt8)∉p.drop (i+1):=fun hm=>by obtain⟨j,hj,e⟩:=List.mem_iff_getElem.1 hm;rw[abB]at e;rw[rU]at hj;refine hn (i+1+j) aD (show i+1+j<p.length by omega) ?_;rw[key (i+1+j) aD,e];rfl
 have e:p=p.take i++47::p.drop (i+1):=by conv=>lhs;rw[<-D7 i p,aaV hi',e47]
 refine⟨p.take i,p.drop (i+1),e,hb,?_,?_⟩
 ·rw[h,qL];omega
 conv=>lhs;rw[e]
 exact MK hb _
theorem WQ {p:List UInt8} {L:List (List UInt8)} (h:splitB p=L):(L.length<2->nA p=0)/\∀(h2:0<L.length),2<=L.length->nA p+(L[L.length-1]'aD).length+1=p.length:=by
 subst h;rcases kM p with⟨_,h0,e⟩|⟨a,b,e,hb,hs,e2⟩
 ·refine⟨fun _=>h0,fun h1 h2=>?_⟩;rw[e]at h2;exact absurd h2 bL
 have h1:=gK a;have h3:0<(splitB a).length:=List.length_pos_iff.2 h1;refine⟨fun h=>?_,fun h2 h4=>?_⟩
 ·rw[e2,jL,oK]at h;omega
 have e3:(splitB p)[(splitB p).length-1]'aD=b:=by(have:(splitB p)[(splitB p).length-1]? =some b:=by rw[e2,jL,oK,OB,vM (iB _)];simp);obtain⟨_,h⟩:=gF.1 this;exact h
 rw[e3,hs];have:=congrArg List.length e;rw[jL,kR]at this;omega
theorem WR {w0 w:World} {v:Value} {L:List ByteArray} (h:0<L.length) (hS:Sep w0 w [ZV v L]):∃g c,v=sV g L.length c/\∀k (hk:k<L.length),w.cell? ⟨g,k,none⟩=some (.string L[k]):=by unfold ZV at hS;obtain⟨g,c,rfl,_⟩:=hS.j5 0 rfl h;refine⟨g,c,rfl,fun k hk=>?_⟩;have:=hS.cellAt 0 rfl k aD;rw[kV,gE hk]at this;exact this
theorem am3 {L:List ByteArray} {i:Nat} (hi:i<L.length) (h:((L.take i).all fun b=>iL (lW b))=true) (hq:iL (lW L[i])=true):((L.take (i+1)).all fun b=>iL (lW b))=true:=by rw[pE,gE hi,List.all_append,h];simp[hq]
theorem av5 {l:List (List UInt8)} {x:List UInt8} (h:x∈l):x.length+1<=(l.map fun s=>s.length+1).sum:=by
 induction l with
 |nil=>cases h
 |cons a l ih=>
  rw[jS,qI];rcases kC.1 h with rfl|h
  ·omega
  have:=ih h;omega
theorem am4 {p:ByteArray} {L:List ByteArray} (h:L.map lW=splitB p.data.toList) {i:Nat} (hi:i<L.length):L[i].size<=p.size:=by
 have h1:lW L[i]∈splitB p.data.toList:=by rw[<-h];exact List.mem_map_of_mem (nT hi)
 have h2:=av5 h1;rw[<-QS]at h2;have h3:L[i].size=(lW L[i]).length:=Lib.size_eq _;have h4:p.size=p.data.toList.length:=Lib.size_eq p;omega
theorem I8 (p:ByteArray) (w:World) (hs:p.size<=9223372036854775807):
  Calls Tryz.prog 88 #[.string p] w fun e w'=>e= .returned (.bool (aU p.data.toList))/\Below w.heap.size w w':=by
 have hsz:=Lib.size_eq p;rw[<-uZ];by_cases aJ2:100<p.size
 case pos=>(have b1:(100:Int)<(p.size:Int):=by omega);(have hr:MW p.data.toList=false:=by(have:¬p.data.toList.length<=100:=by omega);unfold MW;simp only[this,decide_false,OH]);rw[hr];clear hsz;go_enter Tryz.func88,Tryz.ntmps88;go_wp2_with fail;go_ret;exact⟨rfl,Below.refl _ _⟩
 have b1:¬(100:Int)<(p.size:Int):=by omega
 have hr:MW p.data.toList=(decide ((splitB p.data.toList).length<=6)&&(splitB p.data.toList).all iL):=by(have:p.data.toList.length<=100:=by omega);unfold MW;simp only[this,decide_true,Bool.true_and]
 rw[hr];obtain⟨R,hR⟩:∃R,R=(decide ((splitB p.data.toList).length<=6)&&(splitB p.data.toList).all iL):=⟨_,rfl⟩;rw[<-hR];have hR':=Lh hR;have hsp:=Lh (I7 p w aD);clear hsz hr hR;go_enter Tryz.func88,Tryz.ntmps88;go_wp2_with(go_at_call 158;refine hsp.out.mono ?_;rintro e w1 ⟨v,L,rfl,hL,hS⟩;have hL':=Lh hL;clear hL;obtain⟨g,c,rfl,hc⟩:=WR (by have h:=congrArg List.length hL'.out;rw[iM]at h;rw[h];exact List.length_pos_iff.2 (gK _)) hS;have hc':=Lh hc;have hb:=Lh hS.below;clear hS hc)
 ·(have h6:(6:Int)<(L.length:Int):=by assumption);(have hf:R=false:=by have h1:=congrArg List.length hL'.out;rw[iM]at h1;(have h2:¬(splitB p.data.toList).length<=6:=by omega);rw[hR'.out];simp only[h2,decide_false,OH]);subst hf;go_ret;exact⟨rfl,hb.out⟩
 have h6:(L.length:Int)<=6:=by assumption
 have hRL:Hid (R=L.all fun b=>iL (lW b)):=by have h1:=congrArg List.length hL'.out;rw[iM]at h1;(have h2:(splitB p.data.toList).length<=6:=by omega);(show _=_);rw[hR'.out,<-hL'.out,List.all_map];rw[<-hL'.out]at h2;simp only[h2,decide_true,Bool.true_and];rfl
 have hps:=Lh (fun i (hi:i<L.length)=>z8 (am4 hL'.out hi) (show p.size<=4611686018427387904 by omega));clear hR' hsp;go_loopg[4] L.length (fun gk ii wr=>∃i:Nat,i<=L.length/\Hid (gk=L.length-i)/\ii=iV i/\wr=w1/\Hid (((L.take i).all fun b=>iL (lW b))=true))
 case atStart=>exact⟨0,by omega,rfl,rfl,rfl,rfl⟩
 obtain⟨i,hi,hm,rfl,rfl,hal⟩:=hrel;by_cases hlt:i<L.length
 case pos=>
  (have c1:(0:Int)<=(i:Int):=by omega);(have c2:(i:Int)<(L.length:Int):=by omega);have d0:=hc'.out i hlt;have hname:=Lh (adO L[i] wr (hps.out i hlt));have hn2:L[i].data.toList=lW L[i]:=rfl;rw[hn2]at hname;cases hq:iL (lW L[i])with
  |true=>
   have aJ3:=Lh (am3 hlt hal.out hq);rw[hq]at hname;clear hq hn2 hal;go_wp2_with(go_at_call 159;refine hname.out.mono ?_;rintro e w3 ⟨rfl,rfl⟩);go_roundg (L.length-(i+1))
   case measure=>rw[hm.out];omega
   case rel=>exact⟨i+1,by omega,rfl,by go_num,rfl,aJ3⟩
  |false=>
   have hf:R=false:=by
    rw[hRL.out];cases h:L.all fun b=>iL (lW b)with
    |false=>rfl
    |true=>rw[List.all_eq_true.1 h _ (nT hlt)]at hq;cases hq
   subst hf;rw[hq]at hname;clear hq hn2 hal hRL;go_wp2_with(go_at_call 159;refine hname.out.mono ?_;rintro e w3 ⟨rfl,rfl⟩);go_ret;exact⟨rfl,hb.out⟩
 have hf:R=true:=by have h:=hal.out;rw[qH aD]at h;rw[hRL.out];exact h
 subst hf;have c2:¬(i:Int)<(L.length:Int):=by omega
 clear hal hRL;go_wp2_with fail;go_ret;exact⟨rfl,hb.out⟩
def FU (p:List UInt8):List (List UInt8):=if aU p=true then splitB p else []
theorem DV {p:List UInt8} (h:aU p=true):p.length<=100:=by have h2:=uZ p;rw[h]at h2;unfold MW at h2;simp only[sJ,tX]at h2;exact h2.1
theorem ZX {p:List UInt8} (w:World) (hs:p.length<=9223372036854775807):
  Calls Tryz.prog 115 #[aC p] w fun e w'=>∃v L,e= .returned v/\L.map lW=FU p/\Sep w w' [ZV v L]:=by
 have hv:=I8 ⟨p.toArray⟩ w (by rw[iP];omega);rw[tY]at hv;unfold FU;cases hval:aU p with
 |false=>rw[hval]at hv;have hv':=Lh hv;rw[if_neg aV];unfold aC at*;clear hv hval;go_enter Tryz.func115,Tryz.ntmps115;go_wp2_with(go_at_call 88;refine hv'.out.mono ?_;rintro e w1 ⟨rfl,hb⟩;replace hb:=Lh hb);go_ret;exact⟨_,[],rfl,rfl,((Sep.nil w).pure hb.out).iO _ _⟩
 |true=>rw[hval]at hv;have hv':=Lh hv;have aJ2:=DV hval;(have hsp:=fun W=>I7 ⟨p.toArray⟩ W (by rw[iP];omega));have ak5:=Lh hsp;rw[if_pos rfl];obtain⟨R,hR⟩:∃R,R=splitB p:=⟨_,rfl⟩;rw[<-hR];have hR':=Lh hR;unfold aC at*;clear hv hsp hval hR;go_enter Tryz.func115,Tryz.ntmps115;go_wp2_with(first |(go_at_call 88;refine hv'.out.mono ?_;rintro e w1 ⟨rfl,hb⟩;replace hb:=Lh hb)|(go_at_call 158;refine(ak5.out _).mono ?_;rintro e w2 ⟨v,L,rfl,hL,hS⟩;replace hL:=Lh hL;replace hS:=Lh hS));go_ret;refine⟨_,L,rfl,?_,(((Sep.nil w).pure hb.out).join hS.out)⟩;rw[hR'.out];exact hL.out
theorem EU {p:List UInt8} (w:World) (hs:p.length<=9223372036854775807):
  Calls Tryz.prog 89 #[aC p] w fun e w'=>e= .returned (aC (aW p))/\Below w.heap.size w w':=by
 have hn':=Lh (ZX (p:=p) w hs);by_cases h2:(FU p).length<2
 ·have e0:aW p=[]:=by
   unfold aW;split
   ·rename_i hv;unfold FU at h2;rw[if_pos hv]at h2;rw[(WQ rfl).1 h2];rfl
   rfl
  rw[e0];have h2':=Lh h2;unfold aC at*;clear h2 e0;go_enter Tryz.func89,Tryz.ntmps89;go_wp2_with(go_at_call 115;refine hn'.out.mono ?_;rintro e w1 ⟨v,L,rfl,hL,hS⟩;obtain⟨A,c,rfl,_⟩:=(hS.rd 0 rfl).shape;(have hLl:(L.length:Int)<2:=by(have h:=congrArg List.length hL);rw[iM]at h;(have:=h2'.out);omega);replace hS:=Lh hS;clear hL);go_ret;exact⟨rfl,hS.out.below⟩
 have hv:aU p=true:=by
  cases hv:aU p with
  |true=>rfl
  |false=>unfold FU at h2;rw[hv]at h2;exact absurd bL h2
 replace hs:p.length<=1000000:=by have:=DV hv;omega
 have e0:aW p=p.take (nA p):=by unfold aW;rw[if_pos hv]
 have hnl:FU p=splitB p:=by unfold FU;rw[if_pos hv]
 rw[e0];obtain⟨q,hq⟩:∃q,q=p.take (nA p):=⟨_,rfl⟩;rw[<-hq];have hq':=Lh hq;have aJ4:=Lh hnl;have h2':=Lh h2;unfold aC at*;clear h2 e0 hv hq hnl;go_enter Tryz.func89,Tryz.ntmps89;go_wp2_with(go_at_call 115;refine hn'.out.mono ?_;rintro e w1 ⟨v,L,rfl,hL,hS⟩;rw[aJ4.out]at hL h2';(have hLl:L.length=(splitB p).length:=by(have h:=congrArg List.length hL);rw[iM]at h;exact h);(have h9:=h2'.out);obtain⟨g,c,rfl,hc⟩:=WR aD hS;(have hcl:=hc (L.length-1) aD);(have hx:nA p+(L[L.length-1]'aD).size+1=p.length:=by(have h:=(WQ hL.symm).2 (by rw[iM];omega) (by rw[iM];omega));simp only[iM,GM,lW]at h;(have e7:(L[L.length-1]'aD).size=(L[L.length-1]'aD).data.toList.length:=Lib.size_eq _);omega);(have ez:((⟨p.toArray⟩:ByteArray).size:Int)=p.length:=by rw[iP]);(have hL2:¬((L.length:Int)<2):=by omega);(have hL3:2<=(L.length:Int):=by omega);(have hL4:(L.length:Int)<=1000001:=by(have h:=ZW p);omega);(have hls:((L[L.length-1]'aD).size:Int)<=1000000:=by omega);(have hx2:((p.length:Int)-((L[L.length-1]'aD).size:Int))-1=nA p:=by omega);(have q2:((L.length:Int)-1).toNat=L.length-1:=by omega);(have q3:nA p<=p.length:=by omega);(have hsl:Hid (Int.toNat ((p.length:Int)-((L[L.length-1]'aD).size:Int)-1)=nA p):=by(show _=_);omega);generalize L[L.length-1]'aD=lst at hcl hx hx2 hsl hls;replace hS:=Lh hS;clear hL h9 hc hLl);go_ret;refine⟨?_,hS.out.below⟩;rw[hq'.out,<-I5];rfl
def vD (n:Nat):Int:=if 8<((n:Int)+512-1)/512 then((n:Int)+512-1)/512+1 else((n:Int)+512-1)/512
def I9 (Ns:List TN) (q:List UInt8):Option TN:=Ns.find? fun n=>n.path==q
def arI (n:Nat):Int:=max 1 (((n:Int)+16-1)/16)
theorem av6 (n:Nat):1<=arI n/\arI n<=n+1:=by unfold arI;omega
def JA (ns:List TN) (p:List UInt8):Int:=match ns.findIdx? (fun n=>n.path==p)with
 |some k=>(k:Int)
 |none=> -1
theorem arJ {ns:List TN} {p:List UInt8} {k:Nat} {n:TN} (hn:ns[k]? =some n) (hp:n.path=p) (hno:∀(j:Nat) (m:TN),j<k->ns[j]? =some m->m.path≠p):JA ns p=k:=by
 obtain⟨hk,hk2⟩:=gF.1 hn;have:ns.findIdx? (fun n=>n.path==p)=some k:=by rw[aaY];refine⟨hk,by rw[hk2,hp];simp,fun j hj=>?_⟩;have:=hno j ns[j] hj (gE aD);simpa using this
 unfold JA;rw[this]
theorem arK {ns:List TN} {p:List UInt8} (hno:∀(j:Nat) (m:TN),ns[j]? =some m->m.path≠p):JA ns p= -1:=by
 have:ns.findIdx? (fun n=>n.path==p)=none:=by rw[aa7];intro m hm;obtain⟨j,hj⟩:=List.mem_iff_getElem?.1 hm;simpa using hno j m hj
 unfold JA;rw[this]
theorem adP {w:World} {nv fv:Value} {ns:List TN} {fs:List TF} {vs:List Value} (h:iF w nv fv ns fs vs) (hf:ns.length<=300) (p:List UInt8):
  Calls Tryz.prog 90 #[.agg #[nv,fv],aC p] w fun e w'=>e= .returned (iV (JA ns p))/\Below w.heap.size w w':=by
 have hS0:=(Sep.nil w).bN 25 #[nv,fv];obtain⟨A1,c1,rfl,hm1⟩:=h.nodes.shape;have nS:=Lh hS0;have h':=Lh h;have b1:(ns.length:Int)<=300:=by omega
 have z0:=hS0.bC 0 rfl 0;simp only[gA,gB]at z0;obtain⟨R,hR⟩:∃R,R=JA ns p:=⟨_,rfl⟩;rw[<-hR];have hR':=Lh hR;unfold aC at*;clear h hS0 hR;go_enter Tryz.func90,Tryz.ntmps90;go_wp2_with fail;go_loopw[5] (fun iv wr=>∃i:Nat,i<=ns.length/\iv=iV i/\wr=w.alloc (.cells #[.slice A1 ns.length c1,fv] 25)/\Hid (∀(j:Nat) (m:TN),j<i->ns[j]? =some m->m.path≠p)) (fun iv _=>ns.length-(intOf iv).toNat)
 case atStart=>exact⟨0,gI _,rfl,rfl,fun j m hj=>absurd hj (GK _)⟩
 obtain⟨i,hi,rfl,rfl,hno⟩:=hrel;have c0:(0:Int)<=(i:Int):=by omega
 by_cases hlt:i<ns.length
 ·(have c2:(i:Int)<(ns.length:Int):=by omega);obtain⟨g,o,c,e,_,_,_,hcell⟩:=h'.out.nodes.place aD aV;cases e;obtain⟨n,he⟩:∃n,ns[i]? =some n:=⟨_,gE hlt⟩;have x0:=(hcell _ nS.out.below (i*3) aD).trans (bR he 0 aD);simp only[GG,aC,gB]at x0;have he':=Lh he;clear hcell he;by_cases hp:n.path=p
  ·(have hp2:(n.path==p)=true:=by simpa using hp);have hp':=Lh hp;clear hp;go_wp2_with fail;go_ret;refine⟨?_,nS.out.below⟩;rw[hR'.out,arJ he'.out hp'.out hno.out];rfl
  (have hp2:(n.path==p)=false:=by simpa using hp);have hp':=Lh hp;clear hp;go_wp2_with fail;go_roundw
  case rel=>
   refine⟨i+1,by omega,by go_num,by trivial,fun j m hj hm=>?_⟩;by_cases hji:j=i
   ·subst hji;have e1:=hm.symm.trans he'.out;cases e1;exact hp'.out
   exact hno.out j m aD hm
  case measure=>simp[intOf];omega
 have c2:¬(i:Int)<(ns.length:Int):=by omega
 go_wp2_with fail;go_ret;refine⟨?_,nS.out.below⟩;rw[hR'.out,arK fun j m hm=>hno.out j m (by have:=(gF.1 hm).1;omega) hm];rfl
theorem wJ (m:Int) (w:World):Calls Tryz.prog 91 #[iV m] w fun e w'=>e= .returned (.bool (iA m))/\w'=w:=by
 unfold iA;go_enter Tryz.func91,Tryz.ntmps91;go_wp2_with fail;all_goals go_ret
 all_goals refine⟨?_,rfl⟩
 all_goals(first |rfl|(congr 2;simp;done)|(congr 2;simp;omega)|(congr 1;show Value.bool _=Value.bool _;congr 1;simp_all;done)|(congr 1;show Value.bool _=Value.bool _;congr 1;rw[Bool.eq_iff_iff];simp;omega))
def zG (B I:Int):Value:=.agg #[iV B,iV I]
theorem UI {w:World} {b:Nat} {x y:Value} (h0:w.cell? ⟨b,0,none⟩=some x) (h1:w.cell? ⟨b,1,none⟩=some y):(loadVar 33 ⟨b,0,none⟩).run Tryz.prog w= .ok (.agg #[x,y]) w:=by simp[loadVar,go_sem,h0,h1]
theorem EW {fn:Func} {p:Tmp} (h:fn.results=#[.cell p 33]) {tmps:Array Value} {w:World} {b:Nat} {x y:Value} (hp:tmps.getD p undef=pV b) (h0:w.cell? ⟨b,0,none⟩=some x) (h1:w.cell? ⟨b,1,none⟩=some y):
  (results fn tmps).run Tryz.prog w= .ok (.agg #[x,y]) w:=by
 have hp2:tmps[p]?.getD undef=pV b:=by simpa using hp
 simp only[results,h];simp[hp2,asAddr,UI h0 h1]
def yP (k:Nat):Int:=if k=0 then 1 else((k:Int)+15)/16
theorem am5 (k:Nat):yP k=arI k:=by unfold yP arI;split<;>omega
theorem Z11 {P:Prop} (h:P:=by have y0:=dX.bC 0 rfl 0;have y1:=dX.bC 0 rfl 1;refine bodyPost_ret (EW rfl rfl y0 y1) rfl ?_;exact⟨rfl,dX.below⟩):P:=h
theorem RI {k:Nat} (hk:k<=1000) (w:World):Calls Tryz.prog 33 #[iV k] w fun e w'=>e= .returned (zG (yP k) 1)/\Below w.heap.size w w':=by
 have hS0:=(Sep.nil w).bN 33 #[iV 0,iV 0];have c0:=hS0.bC 0 rfl 0;have c1:=hS0.bC 0 rfl 1;have z0:=hS0.bF 0 rfl 0;have z1:=hS0.bF 0 rfl 1;simp only[gA,gB,gC]at c0 c1;have nS:=Lh hS0;clear hS0;have q0:(0:Int)<=(k:Int):=by omega
 have q1:(k:Int)<=1000:=by omega
 unfold yP zG;by_cases h0:k=0
 ·subst h0;rw[if_pos rfl];go_enter Tryz.func33,Tryz.ntmps33;go_wp2_with fail;have dX:=(Sep.nil w).bN 33 #[iV 1,iV 1];exact Z11
 rw[if_neg h0];have b0:((k:Int)==0)=false:=by rw[jM];omega
 have e0:Int.tdiv ((k:Int)+15) 16=((k:Int)+15)/16:=aaU aD;go_enter Tryz.func33,Tryz.ntmps33;go_wp2_with fail;have dX:=(Sep.nil w).bN 33 #[iV (((k:Int)+15)/16),iV 1];exact Z11
theorem adQ {n:Nat} (hn:n<=1048576) (w:World):Calls Tryz.prog 36 #[iV n] w fun e w'=>e= .returned (zG (vD n) 1)/\Below w.heap.size w w':=by
 have hS0:=(Sep.nil w).bN 33 #[iV 0,iV 0];have c0:=hS0.bC 0 rfl 0;have c1:=hS0.bC 0 rfl 1;have z0:=hS0.bF 0 rfl 0;have z1:=hS0.bF 0 rfl 1;simp only[gA,gB,gC]at c0 c1;have nS:=Lh hS0;clear hS0;have e0:Int.tdiv ((n:Int)+511) 512=((n:Int)+511)/512:=aaU aD;have hf:vD n=if 8<((n:Int)+511)/512 then((n:Int)+511)/512+1 else((n:Int)+511)/512:=by unfold vD;(have e1:((n:Int)+512-1)=(n:Int)+511:=by omega);first |rfl|(rw[e1])
 have q0:(0:Int)<=(n:Int):=by omega
 have q1:(n:Int)<=1048576:=by omega
 have q2:0<=((n:Int)+511)/512/\((n:Int)+511)/512<=2049:=by omega
 rw[hf];obtain⟨b,hb⟩:∃b,((n:Int)+511)/512=b:=⟨_,rfl⟩;rw[hb]at e0 q2 ⊢;obtain⟨q3,q4⟩:=q2;clear hb hf;unfold zG;by_cases h8:8<b
 ·rw[if_pos h8];go_enter Tryz.func36,Tryz.ntmps36;go_wp2_with fail;have dX:=(Sep.nil w).bN 33 #[iV (b+1),iV 1];exact Z11
 rw[if_neg h8];go_enter Tryz.func36,Tryz.ntmps36;go_wp2_with fail;have dX:=(Sep.nil w).bN 33 #[iV b,iV 1];exact Z11
theorem arL (w:World) (B I C J:Int):Hid (∃hS:Sep w (((w.alloc (.cells #[iV B,iV I] 33)).alloc (.cells #[iV C,iV J] 33)).alloc (.cells #[iV 0,iV 0] 33)) [.box (w.heap.size+1+1) 33 #[iV 0,iV 0],.box (w.heap.size+1) 33 #[iV C,iV J],.box w.heap.size 33 #[iV B,iV I]],True):=by refine Lh ⟨?_,trivial⟩;have h:=(((Sep.nil w).bN 33 #[iV B,iV I]).bN 33 #[iV C,iV J]).bN 33 #[iV 0,iV 0];simp only[World.size_alloc]at h;exact h
theorem WS {B I C J:Int} (h1: -1000000<=B/\B<=1000000) (h2: -1000000<=I/\I<=1000000) (h3: -1000000<=C/\C<=1000000) (h4: -1000000<=J/\J<=1000000) (w:World):
  Calls Tryz.prog 35 #[zG B I,zG C J] w fun e w'=>e= .returned (zG (B+C) (I+J))/\Below w.heap.size w w':=by
 obtain⟨hS0,_⟩:=(arL w B I C J).out;have c0:=hS0.bC 0 rfl 0;have c1:=hS0.bC 0 rfl 1;have c2:=hS0.bC 1 rfl 0;have c3:=hS0.bC 1 rfl 1;have c4:=hS0.bC 2 rfl 0;have c5:=hS0.bC 2 rfl 1;have z0:=hS0.bF 0 rfl 0;have z1:=hS0.bF 0 rfl 1;simp only[gA,gB,gC]at c0 c1 c2 c3 c4 c5;have nS:=Lh hS0;clear hS0;obtain⟨a1,a2⟩:=h1;obtain⟨a3,a4⟩:=h2;obtain⟨a5,a6⟩:=h3;obtain⟨a7,a8⟩:=h4;unfold zG;go_enter Tryz.func35,Tryz.ntmps35;go_wp2_with fail;have dX:=(((Sep.nil w).bN 33 #[iV B,iV I]).bN 33 #[iV C,iV J]).bN 33 #[iV (B+C),iV (I+J)];simp only[World.size_alloc]at dX;exact Z11
end Go.Proofs.YtmjomdkleikgbaaGreat
