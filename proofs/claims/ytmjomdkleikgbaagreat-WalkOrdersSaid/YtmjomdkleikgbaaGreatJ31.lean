/- Parts. -/
import Derived.Test.YtmjomdkleikgbaaGreatJ30
import Derived.IntWalk
import Derived.Laws.RangeString
import Derived.Laws.ResultCell
import Derived.Handy
set_option linter.unusedVariables false
set_option linter.unusedSimpArgs false
set_option maxRecDepth 100000
set_option maxHeartbeats 20000000
namespace Go.Proofs.YtmjomdkleikgbaaGreat
open Go.RowKit
theorem ab9 {l:List UInt8} (h:l.length<1):iI l=false:=by
 have:¬0<l.length:=by omega
 unfold iI;simp only[this,decide_false,NA]
theorem afK {l:List UInt8} (h:14<l.length):iI l=false:=by
 have:¬l.length<=14:=by omega
 unfold iI;simp only[this,decide_false,Bool.and_false,NA]
theorem afL {l:List UInt8} (h:dots l=true):iI l=false:=by unfold iI;simp only[h,Bool.not_true,Bool.and_false,NA]
theorem ak1 {l:List UInt8} (h0:1<=l.length) (h1:l.length<=14) (hd:dots l=false):iI l=l.all fun c=>lG c.toNat:=by have h0':0<l.length:=h0;unfold iI;simp only[h0',h1,hd,decide_true,Bool.not_false,Bool.and_true,Bool.true_and]
theorem atJ {l:List UInt8} (h:dots l=false):(l==[46])=false/\(l==[46,46])=false:=by unfold dots at h;exact WG.1 h
theorem apL {D:List UInt8} {q:UInt8->Bool} {i:Nat} (hi:i<D.length) (h:(D.take i).all q=true) (hq:q D[i]=true):(D.take (i+1)).all q=true:=by rw[pX,gE hi,List.all_append,h];simp[hq]
theorem atK {D:List UInt8} {q:UInt8->Bool} {i:Nat} (hi:i<D.length) (hq:q D[i]=false):D.all q=false:=by
 cases h:D.all q with
 |false=>rfl
 |true=>rw[List.all_eq_true.1 h _ (nJ hi)]at hq;cases hq
theorem afM (x:Int):x=46\/x=45\/(x<48/\x≠46/\x≠45)\/(48<=x/\x<=57)\/x=95\/(57<x/\x<97/\x≠95)\/(97<=x/\x<=122)\/122<x:=by omega
theorem afN {x:Nat} (h:(97<=(x:Int)/\(x:Int)<=122)\/(48<=(x:Int)/\(x:Int)<=57)\/(x:Int)=46\/(x:Int)=95\/(x:Int)=45):lG x=true:=by unfold lG;simp only[LC,rH,uQ,sZ];omega
theorem ak2 {x:Nat} (h:¬((97<=(x:Int)/\(x:Int)<=122)\/(48<=(x:Int)/\(x:Int)<=57)\/(x:Int)=46\/(x:Int)=95\/(x:Int)=45)):lG x=false:=by
 cases e:lG x with
 |false=>rfl
 |true=>unfold lG at e;simp only[LC,rH,uQ,sZ]at e;omega
theorem Z23 {P:Prop} (h:P:=by go_enter Tryz.func159,Tryz.ntmps159;go_wp2_with fail;go_ret;exact⟨rfl,rfl⟩):P:=h
theorem acA (s:ByteArray) (w:World) (hs:s.size<=4611686018427387904):
  Calls Tryz.prog 159 #[.string s] w fun e w'=>e= .returned (.bool (iI s.data.toList))/\w'=w:=by
 have hsz:s.size=s.data.toList.length:=Lib.size_eq s;have htl:s.toList=s.data.toList:=Lib.toList_data s;by_cases h0:s.size<1
 case pos=>(have b1:(s.size:Int)<1:=by omega);have hr:=ab9 (hsz▸h0);rw[hr];clear hsz htl;exact Z23
 by_cases h1:14<s.size
 case pos=>(have b1:¬(s.size:Int)<1:=by omega);(have b2:(14:Int)<(s.size:Int):=by omega);have hr:=afK (hsz▸h1);rw[hr];clear hsz htl;exact Z23
 have b1:¬(s.size:Int)<1:=by omega
 have b2:¬(14:Int)<(s.size:Int):=by omega
 by_cases hd:dots s.data.toList=true
 case pos=>
  have hr:=afL hd;rw[hr];unfold dots at hd;rw[<-htl,LC]at hd;clear hsz htl;have hd:(s.toList==[46])=true\/((s.toList==[46])=false/\(s.toList==[46,46])=true):=by
   cases h:s.toList==[46]with
   |true=>exact .inl rfl
   |false=>rw[h]at hd;exact .inr ⟨rfl,by simpa using hd⟩
  rcases hd with hd|⟨hd,hd3⟩
  ·exact Z23
  exact Z23
 have hd':dots s.data.toList=false:=by simpa using hd
 obtain⟨hd1,hd2⟩:=atJ hd';have hr:=ak1 aI aI hd';rw[<-htl]at hd1 hd2;rw[hr];obtain⟨R,hR⟩:∃R,R=s.data.toList.all fun c=>lG c.toNat:=⟨_,rfl⟩
 rw[<-hR];have hR':=Lh hR;have hsz':=Lh hsz;clear hsz htl hd hr hd' hR;go_enter Tryz.func159,Tryz.ntmps159;go_wp2_with fail;go_loopg[3] s.size (fun g ii wr=>∃i:Nat,i<=s.size/\Hid (g=s.size-i)/\ii=iV i/\wr=w/\Hid (((s.data.toList.take i).all fun c=>lG c.toNat)=true))
 case atStart=>exact⟨0,by omega,rfl,rfl,rfl,rfl⟩
 obtain⟨i,hi,hm,rfl,rfl,hal⟩:=hrel;by_cases hlt:i<s.size
 case pos=>
  (have c1:(0:Int)<=(i:Int):=by omega);(have c2:(i:Int)<(s.size:Int):=by omega);have hil:=Lh (hsz'.out▸hlt);(have hnext:Hid (lG s[i].toNat=true->((s.data.toList.take (i+1)).all fun c=>lG c.toNat)=true):=fun h=>apL (D:=s.data.toList) hil.out hal.out h);(have hbad:Hid (lG s[i].toNat=false->R=false):=fun h=>hR'.out.trans (atK (D:=s.data.toList) hil.out h));clear hal;(rcases afM (s[i].toNat:Int)with h|h|h|h|h|h|h|h);all_goals
   first |(have b46:((s[i].toNat:Int)==46)=true:=sZ.2 aI)|(have b46:((s[i].toNat:Int)==46)=false:=kD.2 aI)
   first |(have b45:((s[i].toNat:Int)==45)=true:=sZ.2 aI)|(have b45:((s[i].toNat:Int)==45)=false:=kD.2 aI)
   first |(have b95:((s[i].toNat:Int)==95)=true:=sZ.2 aI)|(have b95:((s[i].toNat:Int)==95)=false:=kD.2 aI)
   first |(have b97:97<=(s[i].toNat:Int):=by omega)|(have b97:(s[i].toNat:Int)<97:=by omega)
   first |(have b48:48<=(s[i].toNat:Int):=by omega)|(have b48:(s[i].toNat:Int)<48:=by omega)
   first |(have aGR:(s[i].toNat:Int)<=122:=by omega)|(have aGR:122<(s[i].toNat:Int):=by omega)
   first |(have b57:(s[i].toNat:Int)<=57:=by omega)|(have b57:57<(s[i].toNat:Int):=by omega)
   have h':=Lh h
   clear h
   go_wp2_with fail
   all_goals first
    |(go_roundg (s.size-(i+1))
      case measure=>rw[hm.out];omega
      case rel=>exact⟨i+1,by omega,rfl,by go_num,rfl,hnext.out (afN (by have:=h'.out;omega))⟩)
    |(go_ret
      refine⟨?_,rfl⟩
      rw[hbad.out (ak2 (by have:=h'.out;omega))]
      rfl)
    |(exfalso
      simp_all
      done)
    |(exfalso
      simp_all
      omega)
 have e:i=s.size:=by omega
 have hfin:Hid (R=true):=by have h:=hal.out;rw[e,hsz'.out,RI]at h;exact hR'.out.trans h
 have c2:¬(i:Int)<(s.size:Int):=by omega
 clear hal;go_wp2_with fail;go_ret;refine⟨?_,rfl⟩;rw[hfin.out];rfl
theorem ak3 :(Tryz.prog.info? 9).map (fun i=>(i.zero,i.size,i.bytes))=some (some (.string ⟨#[]⟩),1,16):=by kernel_rfl
def YC (v:Value) (L:List ByteArray):aV:=.sl 9 1 v L.length (L.map .string)
def lK (b:ByteArray):List UInt8:=b.data.toList
theorem afO {D:List UInt8} {f i:Nat} (hf:f<=i) (hi:i<D.length) (h47:D[i]=47) (hno:∀k (hk:k<D.length),f<=k->k<i->D[k]≠47):
  splitB (D.drop f)=(D.drop f).take (i-f)::splitB (D.drop (i+1)):=by
 have e:D.drop f=(D.drop f).take (i-f)++47::D.drop (i+1):=by
  conv=>lhs;rw[<-DC (i-f) (D.drop f)]
  rw[KG,show f+(i-f)=i by omega,YX hi,h47]
 conv=>lhs;rw[e]
 refine KU fun hm=>?_
 obtain⟨k,hk,ek⟩:=List.mem_iff_getElem.1 hm;rw[List.getElem_take,ZI]at ek;rw[qQ,qR]at hk;exact hno (f+k) aI aI aI ek
theorem ak4 {D:List UInt8} {f:Nat} (hno:∀k (hk:k<D.length),f<=k->D[k]≠47):splitB (D.drop f)=[D.drop f]:=by
 refine oI fun hm=>?_
 obtain⟨k,hk,ek⟩:=List.mem_iff_getElem.1 hm;rw[ZI]at ek;rw[qR]at hk;exact hno (f+k) aI aI ek
theorem YD (p:List UInt8):(splitB p).length<=p.length+1:=by
 induction p with
 |nil=>exact iU _
 |cons c l ih=>obtain⟨h,t,e⟩:=rD l;rw[iC,e];rw[e]at ih;split<;>simp only[kM]at ih ⊢ <;>omega
theorem H7 (p:ByteArray) (w:World) (hp:p.size<=100):
  Calls Tryz.prog 158 #[.string p] w fun e w'=>∃v L,e= .returned v/\L.map lK=splitB p.data.toList/\Sep w w' [YC v L]:=by
 have hsz:=Lh (Lib.size_eq p);obtain⟨i0,hif,hz0,hz1,hz2⟩:=info_parts ak3;go_enter Tryz.func158,Tryz.ntmps158;go_wp2_with fail;go_loopw[3,4,5] (fun vo vf vi wr=>∃(L:List ByteArray) (f i:Nat),f<=i/\i<=p.size/\vf=iV f/\vi=iV i/\L.length<=i/\Hid (splitB p.data.toList=L.map lK++splitB (p.data.toList.drop f))/\Hid (∀k (hk:k<p.data.toList.length),f<=k->k<i->p.data.toList[k]≠47)/\Sep w wr [YC vo L]) (fun _ _ vi _=>p.size-(intOf vi).toNat)
 case atStart=>exact⟨[],0,0,by omega,by omega,rfl,rfl,by simp,by simp[Hid],(fun k hk h1 h2=>absurd h2 aI),(Sep.nil w).iO _ _⟩
 obtain⟨L,f,i,hfi,hi,rfl,rfl,hLi,hsp,hno,hS⟩:=hrel;by_cases hlt:i<p.size
 case pos=>
  (have c1:(0:Int)<=(i:Int):=by omega);(have c2:(i:Int)<(p.size:Int):=by omega);(have c3:(0:Int)<=(f:Int):=by omega);(have c4:(f:Int)<=(i:Int):=by omega);(have c5:(i:Int)<=(p.size:Int):=by omega);by_cases h47:p[i]=47
  case pos=>
   (have b47:((p[i].toNat:Int)==47)=true:=by rw[h47];rfl);have hS1:=hS.alloc (.cells #[.string (p.extract f i)] 9);go_wp2_with(at_builtin;refine oW 0 rfl _ _ 73 rfl 9 i0 (.string ⟨#[]⟩) 1 16 Tryz.underlying73 hif hz0 hz1 hz2 rfl aR hS1 _ _ _ rfl rfl ⟨wr.heap.size,0,none⟩ 1 1 [.string (p.extract f i)] rfl rfl (cell_one_new _ _ _) oCl aR vE aI ?_);intro g c w2 hS2 hz;(have eZ:Sep w w2 [YC (sV g (L.length+1) c) (L++[p.extract f i])]:=by unfold YC;rw[mM,jJ];exact hS2);have uH:=Lh eZ;have hl:=hsz.out;(have hex:lK (p.extract f i)=(p.data.toList.drop f).take (i-f):=by(show(p.extract f i).data.toList=_);rw[Lib.extract_data]);(have hsp2:Hid (splitB p.data.toList=(L++[p.extract f i]).map lK++splitB (p.data.toList.drop (i+1))):=by have h:=hsp.out;rw[afO hfi aI h47 hno.out]at h;(show _=_);rw[h,mM,nT,jW,LD,hex];rfl);(have bX:Hid (∀k (hk:k<p.data.toList.length),i+1<=k->k<i+1->p.data.toList[k]≠47):=fun k hk h1 h2=>absurd h2 aI);clear hS hS1 hS2 hz eZ hl hex hsp hno;go_wp2_with fail;go_roundw
   ·exact⟨_,i+1,i+1,by omega,by omega,by go_num,by go_num,by rw[jJ,nZ];omega,hsp2,bX,uH.out⟩
   simp[intOf];omega
  (have b47:((p[i].toNat:Int)==47)=false:=by rw[kD];intro h;exact h47 (UInt8.toNat_inj.1 (by show p[i].toNat=47;omega)));have bX:Hid (∀k (hk:k<p.data.toList.length),f<=k->k<i+1->p.data.toList[k]≠47):=fun k hk h1 h2=>by
   by_cases e:k=i
   ·subst e;exact h47
   exact hno.out k hk h1 aI
  have hS':=Lh hS;clear hS hno;go_wp2_with fail;go_roundw
  ·exact⟨L,f,i+1,by omega,by omega,rfl,by go_num,by omega,hsp,bX,hS'.out⟩
  simp[intOf];omega
 have c2:¬(i:Int)<(p.size:Int):=by omega
 have c3:(0:Int)<=(f:Int):=by omega
 have c4:(f:Int)<=(p.size:Int):=by omega
 have hl:=hsz.out;have hex:lK (p.extract f p.size)=p.data.toList.drop f:=by(show(p.extract f p.size).data.toList=_);rw[Lib.extract_data,rG (by rw[qR];omega)]
 have hfin:Hid ((L++[p.extract f p.size]).map lK=splitB p.data.toList):=by have h:=hsp.out;rw[ak4 (fun k hk h1=>hno.out k hk h1 aI)]at h;(show _=_);rw[h,mM,jW,LD,hex]
 have hS1:=hS.alloc (.cells #[.string (p.extract f p.size)] 9);clear hex hl hsp hno;go_wp2_with(at_builtin;refine oW 0 rfl _ _ 73 rfl 9 i0 (.string ⟨#[]⟩) 1 16 Tryz.underlying73 hif hz0 hz1 hz2 rfl aR hS1 _ _ _ rfl rfl ⟨wr.heap.size,0,none⟩ 1 1 [.string (p.extract f p.size)] rfl rfl (cell_one_new _ _ _) oCl aR vE aI ?_);intro g c w2 hS2 hz;have eZ:Sep w w2 [YC (sV g (L.length+1) c) (L++[p.extract f p.size])]:=by unfold YC;rw[mM,jJ];exact hS2
 have uH:=Lh eZ;clear hS hS1 hS2 hz eZ;go_wp2_with fail;go_ret;exact⟨_,_,rfl,hfin.out,uH.out⟩
theorem K7 {b:List UInt8} (h:(47:UInt8)∉b):∀a:List UInt8,splitB (a++47::b)=splitB a++[b]
 |[]=>by(show splitB (47::b)=[[]]++[b]);rw[iC,if_pos rfl,oI h];rfl
 |c::a=>by
  have ih:=K7 h a;rw[kN,iC,iC,ih];split
  ·rfl
  obtain⟨x,t,e⟩:=rD a;rw[e];rfl
theorem mI (p:List UInt8):((47:UInt8)∉p/\mH p=0/\splitB p=[p])\/∃a b,p=a++47::b/\(47:UInt8)∉b/\mH p=a.length/\splitB p=splitB a++[b]:=by
 have key:∀j (hj:j<p.length),(((⟨p.toArray⟩:ByteArray).data[j]!).toNat:Int)=(p[j].toNat:Int):=fun j hj=>by(show((p.toArray[j]!).toNat:Int)=_);rw[getElem!_pos p.toArray j (by simpa using hj)];simp
 unfold mH;rcases Lib.lastIndexByte_spec ⟨p.toArray⟩ 47 with⟨h,hn⟩|⟨i,hi,h,h47,hn⟩
 ·left;(have h0:(47:UInt8)∉p:=fun hm=>by obtain⟨j,hj,e⟩:=List.mem_iff_getElem.1 hm;refine hn j hj ?_;rw[key j hj,e];rfl);exact⟨h0,by rw[h];rfl,oI h0⟩
 right;have hi':i<p.length:=hi;have e47:p[i]=47:=UInt8.toNat_inj.1 (by have:=key i hi';show p[i].toNat=47;omega);have hb:(47:UInt8)∉p.drop (i+1):=fun hm=>by obtain⟨j,hj,e⟩:=List.mem_iff_getElem.1 hm;rw[ZI]at e;rw[qR]at hj;refine hn (i+1+j) aI (show i+1+j<p.length by omega) ?_;rw[key (i+1+j) aI,e];rfl
 have e:p=p.take i++47::p.drop (i+1):=by conv=>lhs;rw[<-DC i p,YX hi',e47]
 refine⟨p.take i,p.drop (i+1),e,hb,?_,?_⟩
 ·rw[h,qQ];omega
 conv=>lhs;rw[e]
 exact K7 hb _
theorem U4 {p:List UInt8} {L:List (List UInt8)} (h:splitB p=L):(L.length<2->mH p=0)/\∀(h2:0<L.length),2<=L.length->mH p+(L[L.length-1]'aI).length+1=p.length:=by
 subst h;rcases mI p with⟨_,h0,e⟩|⟨a,b,e,hb,hs,e2⟩
 ·refine⟨fun _=>h0,fun h1 h2=>?_⟩;rw[e]at h2;exact absurd h2 bK
 have h1:=gP a;have h3:0<(splitB a).length:=List.length_pos_iff.2 h1;refine⟨fun h=>?_,fun h2 h4=>?_⟩
 ·rw[e2,jJ,nZ]at h;omega
 have e3:(splitB p)[(splitB p).length-1]'aI=b:=by(have:(splitB p)[(splitB p).length-1]? =some b:=by rw[e2,jJ,nZ,M5,uS (iU _)];simp);obtain⟨_,h⟩:=gF.1 this;exact h
 rw[e3,hs];have:=congrArg List.length e;rw[jJ,kM]at this;omega
theorem U5 {w0 w:World} {v:Value} {L:List ByteArray} (h:0<L.length) (hS:Sep w0 w [YC v L]):∃g c,v=sV g L.length c/\∀k (hk:k<L.length),w.cell? ⟨g,k,none⟩=some (.string L[k]):=by unfold YC at hS;obtain⟨g,c,rfl,_⟩:=hS.jX 0 rfl h;refine⟨g,c,rfl,fun k hk=>?_⟩;have:=hS.cellAt 0 rfl k aI;rw[kX,gE hk]at this;exact this
theorem ak5 {L:List ByteArray} {i:Nat} (hi:i<L.length) (h:((L.take i).all fun b=>iI (lK b))=true) (hq:iI (lK L[i])=true):((L.take (i+1)).all fun b=>iI (lK b))=true:=by rw[pX,gE hi,List.all_append,h];simp[hq]
theorem atL {l:List (List UInt8)} {x:List UInt8} (h:x∈l):x.length+1<=(l.map fun s=>s.length+1).sum:=by
 induction l with
 |nil=>cases h
 |cons a l ih=>
  rw[jW,uX];rcases jU.1 h with rfl|h
  ·omega
  have:=ih h;omega
theorem ak6 {p:ByteArray} {L:List ByteArray} (h:L.map lK=splitB p.data.toList) {i:Nat} (hi:i<L.length):L[i].size<=p.size:=by
 have h1:lK L[i]∈splitB p.data.toList:=by rw[<-h];exact List.mem_map_of_mem (nJ hi)
 have h2:=atL h1;rw[<-PR]at h2;have h3:L[i].size=(lK L[i]).length:=Lib.size_eq _;have h4:p.size=p.data.toList.length:=Lib.size_eq p;omega
theorem H8 (p:ByteArray) (w:World) (hs:p.size<=9223372036854775807):
  Calls Tryz.prog 88 #[.string p] w fun e w'=>e= .returned (.bool (aU p.data.toList))/\Below w.heap.size w w':=by
 have hsz:=Lib.size_eq p;rw[<-uG];by_cases aGS:100<p.size
 case pos=>(have b1:(100:Int)<(p.size:Int):=by omega);(have hr:LP p.data.toList=false:=by(have:¬p.data.toList.length<=100:=by omega);unfold LP;simp only[this,decide_false,NA]);rw[hr];clear hsz;go_enter Tryz.func88,Tryz.ntmps88;go_wp2_with fail;go_ret;exact⟨rfl,Below.refl _ _⟩
 have b1:¬(100:Int)<(p.size:Int):=by omega
 have hr:LP p.data.toList=(decide ((splitB p.data.toList).length<=6)&&(splitB p.data.toList).all iI):=by(have:p.data.toList.length<=100:=by omega);unfold LP;simp only[this,decide_true,Bool.true_and]
 rw[hr];obtain⟨R,hR⟩:∃R,R=(decide ((splitB p.data.toList).length<=6)&&(splitB p.data.toList).all iI):=⟨_,rfl⟩;rw[<-hR];have hR':=Lh hR;have hsp:=Lh (H7 p w aI);clear hsz hr hR;go_enter Tryz.func88,Tryz.ntmps88;go_wp2_with(go_at_call 158;refine hsp.out.mono ?_;rintro e w1 ⟨v,L,rfl,hL,hS⟩;have hL':=Lh hL;clear hL;obtain⟨g,c,rfl,hc⟩:=U5 (by have h:=congrArg List.length hL'.out;rw[iT]at h;rw[h];exact List.length_pos_iff.2 (gP _)) hS;have hc':=Lh hc;have hb:=Lh hS.below;clear hS hc)
 ·(have h6:(6:Int)<(L.length:Int):=by assumption);(have hf:R=false:=by have h1:=congrArg List.length hL'.out;rw[iT]at h1;(have h2:¬(splitB p.data.toList).length<=6:=by omega);rw[hR'.out];simp only[h2,decide_false,NA]);subst hf;go_ret;exact⟨rfl,hb.out⟩
 have h6:(L.length:Int)<=6:=by assumption
 have hRL:Hid (R=L.all fun b=>iI (lK b)):=by have h1:=congrArg List.length hL'.out;rw[iT]at h1;(have h2:(splitB p.data.toList).length<=6:=by omega);(show _=_);rw[hR'.out,<-hL'.out,List.all_map];rw[<-hL'.out]at h2;simp only[h2,decide_true,Bool.true_and];rfl
 have hps:=Lh (fun i (hi:i<L.length)=>DZ (ak6 hL'.out hi) (show p.size<=4611686018427387904 by omega));clear hR' hsp;go_loopg[4] L.length (fun gk ii wr=>∃i:Nat,i<=L.length/\Hid (gk=L.length-i)/\ii=iV i/\wr=w1/\Hid (((L.take i).all fun b=>iI (lK b))=true))
 case atStart=>exact⟨0,by omega,rfl,rfl,rfl,rfl⟩
 obtain⟨i,hi,hm,rfl,rfl,hal⟩:=hrel;by_cases hlt:i<L.length
 case pos=>
  (have c1:(0:Int)<=(i:Int):=by omega);(have c2:(i:Int)<(L.length:Int):=by omega);have d0:=hc'.out i hlt;have hname:=Lh (acA L[i] wr (hps.out i hlt));have hn2:L[i].data.toList=lK L[i]:=rfl;rw[hn2]at hname;cases hq:iI (lK L[i])with
  |true=>
   have aGT:=Lh (ak5 hlt hal.out hq);rw[hq]at hname;clear hq hn2 hal;go_wp2_with(go_at_call 159;refine hname.out.mono ?_;rintro e w3 ⟨rfl,rfl⟩);go_roundg (L.length-(i+1))
   case measure=>rw[hm.out];omega
   case rel=>exact⟨i+1,by omega,rfl,by go_num,rfl,aGT⟩
  |false=>
   have hf:R=false:=by
    rw[hRL.out];cases h:L.all fun b=>iI (lK b)with
    |false=>rfl
    |true=>rw[List.all_eq_true.1 h _ (nJ hlt)]at hq;cases hq
   subst hf;rw[hq]at hname;clear hq hn2 hal hRL;go_wp2_with(go_at_call 159;refine hname.out.mono ?_;rintro e w3 ⟨rfl,rfl⟩);go_ret;exact⟨rfl,hb.out⟩
 have hf:R=true:=by have h:=hal.out;rw[rG aI]at h;rw[hRL.out];exact h
 subst hf;have c2:¬(i:Int)<(L.length:Int):=by omega
 clear hal hRL;go_wp2_with fail;go_ret;exact⟨rfl,hb.out⟩
def ET (p:List UInt8):List (List UInt8):=if aU p=true then splitB p else []
theorem U6 {p:List UInt8} (h:aU p=true):p.length<=100:=by have h2:=uG p;rw[h]at h2;unfold LP at h2;simp only[rH,uQ]at h2;exact h2.1
theorem YE {p:List UInt8} (w:World) (hs:p.length<=9223372036854775807):
  Calls Tryz.prog 115 #[aC p] w fun e w'=>∃v L,e= .returned v/\L.map lK=ET p/\Sep w w' [YC v L]:=by
 have hv:=H8 ⟨p.toArray⟩ w (by rw[iK];omega);rw[sK]at hv;unfold ET;cases hval:aU p with
 |false=>rw[hval]at hv;have hv':=Lh hv;rw[if_neg aR];unfold aC at*;clear hv hval;go_enter Tryz.func115,Tryz.ntmps115;go_wp2_with(go_at_call 88;refine hv'.out.mono ?_;rintro e w1 ⟨rfl,hb⟩;replace hb:=Lh hb);go_ret;exact⟨_,[],rfl,rfl,((Sep.nil w).pure hb.out).iO _ _⟩
 |true=>rw[hval]at hv;have hv':=Lh hv;have aGS:=U6 hval;(have hsp:=fun W=>H7 ⟨p.toArray⟩ W (by rw[iK];omega));have ai4:=Lh hsp;rw[if_pos rfl];obtain⟨R,hR⟩:∃R,R=splitB p:=⟨_,rfl⟩;rw[<-hR];have hR':=Lh hR;unfold aC at*;clear hv hsp hval hR;go_enter Tryz.func115,Tryz.ntmps115;go_wp2_with(first |(go_at_call 88;refine hv'.out.mono ?_;rintro e w1 ⟨rfl,hb⟩;replace hb:=Lh hb)|(go_at_call 158;refine(ai4.out _).mono ?_;rintro e w2 ⟨v,L,rfl,hL,hS⟩;replace hL:=Lh hL;replace hS:=Lh hS));go_ret;refine⟨_,L,rfl,?_,(((Sep.nil w).pure hb.out).join hS.out)⟩;rw[hR'.out];exact hL.out
theorem SI {p:List UInt8} (w:World) (hs:p.length<=9223372036854775807):
  Calls Tryz.prog 89 #[aC p] w fun e w'=>e= .returned (aC (bA p))/\Below w.heap.size w w':=by
 have hn':=Lh (YE (p:=p) w hs);by_cases h2:(ET p).length<2
 ·have e0:bA p=[]:=by
   unfold bA;split
   ·rename_i hv;unfold ET at h2;rw[if_pos hv]at h2;rw[(U4 rfl).1 h2];rfl
   rfl
  rw[e0];have h2':=Lh h2;unfold aC at*;clear h2 e0;go_enter Tryz.func89,Tryz.ntmps89;go_wp2_with(go_at_call 115;refine hn'.out.mono ?_;rintro e w1 ⟨v,L,rfl,hL,hS⟩;obtain⟨A,c,rfl,_⟩:=(hS.rd 0 rfl).shape;(have hLl:(L.length:Int)<2:=by(have h:=congrArg List.length hL);rw[iT]at h;(have:=h2'.out);omega);replace hS:=Lh hS;clear hL);go_ret;exact⟨rfl,hS.out.below⟩
 have hv:aU p=true:=by
  cases hv:aU p with
  |true=>rfl
  |false=>unfold ET at h2;rw[hv]at h2;exact absurd bK h2
 replace hs:p.length<=1000000:=by have:=U6 hv;omega
 have e0:bA p=p.take (mH p):=by unfold bA;rw[if_pos hv]
 have hnl:ET p=splitB p:=by unfold ET;rw[if_pos hv]
 rw[e0];obtain⟨q,hq⟩:∃q,q=p.take (mH p):=⟨_,rfl⟩;rw[<-hq];have hq':=Lh hq;have aGU:=Lh hnl;have h2':=Lh h2;unfold aC at*;clear h2 e0 hv hq hnl;go_enter Tryz.func89,Tryz.ntmps89;go_wp2_with(go_at_call 115;refine hn'.out.mono ?_;rintro e w1 ⟨v,L,rfl,hL,hS⟩;rw[aGU.out]at hL h2';(have hLl:L.length=(splitB p).length:=by(have h:=congrArg List.length hL);rw[iT]at h;exact h);(have h9:=h2'.out);obtain⟨g,c,rfl,hc⟩:=U5 aI hS;(have hcl:=hc (L.length-1) aI);(have hx:mH p+(L[L.length-1]'aI).size+1=p.length:=by(have h:=(U4 hL.symm).2 (by rw[iT];omega) (by rw[iT];omega));simp only[iT,WH,lK]at h;(have e7:(L[L.length-1]'aI).size=(L[L.length-1]'aI).data.toList.length:=Lib.size_eq _);omega);(have ez:((⟨p.toArray⟩:ByteArray).size:Int)=p.length:=by rw[iK]);(have hL2:¬((L.length:Int)<2):=by omega);(have hL3:2<=(L.length:Int):=by omega);(have hL4:(L.length:Int)<=1000001:=by(have h:=YD p);omega);(have hls:((L[L.length-1]'aI).size:Int)<=1000000:=by omega);(have hx2:((p.length:Int)-((L[L.length-1]'aI).size:Int))-1=mH p:=by omega);(have q2:((L.length:Int)-1).toNat=L.length-1:=by omega);(have q3:mH p<=p.length:=by omega);(have hsl:Hid (Int.toNat ((p.length:Int)-((L[L.length-1]'aI).size:Int)-1)=mH p):=by(show _=_);omega);generalize L[L.length-1]'aI=lst at hcl hx hx2 hsl hls;replace hS:=Lh hS;clear hL h9 hc hLl);go_ret;refine⟨?_,hS.out.below⟩;rw[hq'.out,<-H6];rfl
def H9 (Ns:List TN) (q:List UInt8):Option TN:=Ns.find? fun n=>n.path==q
def IA (ns:List TN) (p:List UInt8):Int:=match ns.findIdx? (fun n=>n.path==p)with
 |some k=>(k:Int)
 |none=> -1
theorem apM {ns:List TN} {p:List UInt8} {k:Nat} {n:TN} (hn:ns[k]? =some n) (hp:n.path=p) (hno:∀(j:Nat) (m:TN),j<k->ns[j]? =some m->m.path≠p):IA ns p=k:=by
 obtain⟨hk,hk2⟩:=gF.1 hn;have:ns.findIdx? (fun n=>n.path==p)=some k:=by rw[Y4];refine⟨hk,by rw[hk2,hp];simp,fun j hj=>?_⟩;have:=hno j ns[j] hj (gE aI);simpa using this
 unfold IA;rw[this]
theorem apN {ns:List TN} {p:List UInt8} (hno:∀(j:Nat) (m:TN),ns[j]? =some m->m.path≠p):IA ns p= -1:=by
 have:ns.findIdx? (fun n=>n.path==p)=none:=by rw[ZC];intro m hm;obtain⟨j,hj⟩:=List.mem_iff_getElem?.1 hm;simpa using hno j m hj
 unfold IA;rw[this]
theorem acB {w:World} {nv fv:Value} {ns:List TN} {fs:List TF} {vs:List Value} (h:iR w nv fv ns fs vs) (hf:ns.length<=300) (p:List UInt8):
  Calls Tryz.prog 90 #[.agg #[nv,fv],aC p] w fun e w'=>e= .returned (iV (IA ns p))/\Below w.heap.size w w':=by
 have hS0:=(Sep.nil w).bN 25 #[nv,fv];obtain⟨A1,c1,rfl,hm1⟩:=h.nodes.shape;have rQ:=Lh hS0;have h':=Lh h;have b1:(ns.length:Int)<=300:=by omega
 have z0:=hS0.bC 0 rfl 0;simp only[gA,gB]at z0;obtain⟨R,hR⟩:∃R,R=IA ns p:=⟨_,rfl⟩;rw[<-hR];have hR':=Lh hR;unfold aC at*;clear h hS0 hR;go_enter Tryz.func90,Tryz.ntmps90;go_wp2_with fail;go_loopw[5] (fun iv wr=>∃i:Nat,i<=ns.length/\iv=iV i/\wr=w.alloc (.cells #[.slice A1 ns.length c1,fv] 25)/\Hid (∀(j:Nat) (m:TN),j<i->ns[j]? =some m->m.path≠p)) (fun iv _=>ns.length-(intOf iv).toNat)
 case atStart=>exact⟨0,fZ _,rfl,rfl,fun j m hj=>absurd hj (FL _)⟩
 obtain⟨i,hi,rfl,rfl,hno⟩:=hrel;have c0:(0:Int)<=(i:Int):=by omega
 by_cases hlt:i<ns.length
 ·(have c2:(i:Int)<(ns.length:Int):=by omega);obtain⟨g,o,c,e,_,_,_,hcell⟩:=h'.out.nodes.place aI aR;cases e;obtain⟨n,he⟩:∃n,ns[i]? =some n:=⟨_,gE hlt⟩;have x0:=(hcell _ rQ.out.below (i*3) aI).trans (dE he 0 aI);simp only[K6,aC,gB]at x0;have he':=Lh he;clear hcell he;by_cases hp:n.path=p
  ·(have hp2:(n.path==p)=true:=by simpa using hp);have hp':=Lh hp;clear hp;go_wp2_with fail;go_ret;refine⟨?_,rQ.out.below⟩;rw[hR'.out,apM he'.out hp'.out hno.out];rfl
  (have hp2:(n.path==p)=false:=by simpa using hp);have hp':=Lh hp;clear hp;go_wp2_with fail;go_roundw
  case rel=>
   refine⟨i+1,by omega,by go_num,by trivial,fun j m hj hm=>?_⟩;by_cases hji:j=i
   ·subst hji;have e1:=hm.symm.trans he'.out;cases e1;exact hp'.out
   exact hno.out j m aI hm
  case measure=>simp[intOf];omega
 have c2:¬(i:Int)<(ns.length:Int):=by omega
 go_wp2_with fail;go_ret;refine⟨?_,rQ.out.below⟩;rw[hR'.out,apN fun j m hm=>hno.out j m (by have:=(gF.1 hm).1;omega) hm];rfl
theorem vU (m:Int) (w:World):Calls Tryz.prog 91 #[iV m] w fun e w'=>e= .returned (.bool (gV m))/\w'=w:=by
 unfold gV;go_enter Tryz.func91,Tryz.ntmps91;go_wp2_with fail;all_goals go_ret
 all_goals refine⟨?_,rfl⟩
 all_goals(first |rfl|(congr 2;simp;done)|(congr 2;simp;omega)|(congr 1;show Value.bool _=Value.bool _;congr 1;simp_all;done)|(congr 1;show Value.bool _=Value.bool _;congr 1;rw[Bool.eq_iff_iff];simp;omega))
end Go.Proofs.YtmjomdkleikgbaaGreat
