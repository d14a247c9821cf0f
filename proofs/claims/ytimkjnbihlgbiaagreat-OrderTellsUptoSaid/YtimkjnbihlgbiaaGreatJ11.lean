/- NamesPlain, RefName, RefSplit, DocP, RefValid, DocA, laid together. -/
import Derived.Test.YtimkjnbihlgbiaaGreatJ10
namespace Go.Proofs.YtimkjnbihlgbiaaGreat
set_option linter.unusedVariables false
def nameB (s:List UInt8):Bool:=decide (0<s.length)&&decide (s.length≤14)&& !dots s&&s.all fun c=>charOk c.toNat
theorem splitB_head (p:List UInt8):∃h t,splitB p=h::t:=by
 induction p with
 |nil=>exact⟨[],[],rfl⟩
 |cons c l ih=>
  obtain⟨h,t,e⟩:=ih;rw[splitB_cons];split
  ·exact⟨_,_,rfl⟩
  rw[e];exact⟨_,_,rfl⟩
theorem runV_names :∀(p:List UInt8) (n:Nat) (cur:List UInt8),(cur.all fun c=>charOk c.toNat)=true→cur.length≤14→
  ∀h t,splitB p=h::t→runV p n cur=(nameB (cur++h)&&t.all nameB&&decide (n+t.length≤6))
 |[],n,cur,hc,hl,h,t,e=>by cases e;unfold runV nameB;rw[List.append_nil,hc];simp[hl]
 |c::cs,n,cur,hc,hl,h,t,e=>by
  obtain⟨h',t',e'⟩:=splitB_head cs;rw[splitB_cons,e']at e;unfold runV;by_cases h47:c=47
  ·rw[if_pos h47]at e ⊢;cases e;have ih:=runV_names cs (n+1) [] (by simp) (by simp) h' t' e';rw[ih,List.append_nil,List.nil_append];by_cases h0:cur.length=0∨dots cur=true
   ·rw[if_pos h0];have:nameB cur=false:=by
     unfold nameB;rcases h0 with h0|h0
     ·simp[h0]
     simp[h0]
    simp[this]
   rw[if_neg h0];(have:nameB cur=true:=by unfold nameB;rw[hc];simp only[not_or]at h0;simp only[Bool.and_true,Bool.and_eq_true,decide_eq_true_eq,Bool.not_eq_true'];refine⟨⟨by omega,hl⟩,by simpa using h0.2⟩);rw[this,List.all_cons,List.length_cons,Bool.true_and];(have e2:(n+1+t'.length≤6)↔(n+(t'.length+1)≤6):=by omega);simp only[e2]
  rw[if_neg h47]at e ⊢;cases e;by_cases hch:charOk c.toNat=false
  ·rw[if_pos hch];(have:nameB (cur++c::h')=false:=by unfold nameB;rw[List.all_append,List.all_cons,hch];simp);rw[this];simp
  rw[if_neg hch];by_cases h14:14<cur.length+1
  ·rw[if_pos h14];(have:nameB (cur++c::h')=false:=by unfold nameB;(have:¬(cur++c::h').length≤14:=by simp;omega);simp only[this,decide_false,Bool.and_false,Bool.false_and]);rw[this];simp
  rw[if_neg h14];have ih:=runV_names cs n (cur++[c]) (by rw[List.all_append,hc];simpa using hch) (by simp;omega) h' _ e';rw[ih,List.append_assoc];rfl
def refV (p:List UInt8):Bool:=decide (p.length≤100)&&(decide ((splitB p).length≤6)&&(splitB p).all nameB)
theorem splitB_len (p:List UInt8):p.length+1=((splitB p).map fun s=>s.length+1).sum:=by
 induction p with
 |nil=>rfl
 |cons c l ih=>
  obtain⟨h,t,e⟩:=splitB_head l;rw[splitB_cons,e];rw[e]at ih;split
  ·simp only[List.map_cons,List.sum_cons,List.length_cons,List.length_nil]at ih ⊢;omega
  simp only[List.map_cons,List.sum_cons,List.length_cons]at ih ⊢;omega
theorem names_sum (l:List (List UInt8)) (h:l.all nameB=true):(l.map fun s=>s.length+1).sum≤15*l.length:=by
 induction l with
 |nil=>simp
 |cons a l ih=>rw[List.all_cons,Bool.and_eq_true]at h;have:=ih h.2;(have h2:a.length≤14:=by have:=h.1;unfold nameB at this;simp only[Bool.and_eq_true,decide_eq_true_eq]at this;exact this.1.1.2);simp only[List.map_cons,List.sum_cons,List.length_cons];omega
theorem refV_valid (p:List UInt8):refV p=validL p:=by
 obtain⟨h,t,e⟩:=splitB_head p;have hv:validL p=(decide ((splitB p).length≤6)&&(splitB p).all nameB):=by unfold validL;rw[runV_names p 1 [] (by simp) (by simp) h t e,e,List.nil_append,List.all_cons,List.length_cons,Bool.and_comm];(have e2:(1+t.length≤6)↔(t.length+1≤6):=by omega);simp only[e2]
 unfold refV;rw[hv];cases hx:(decide ((splitB p).length≤6)&&(splitB p).all nameB)with
 |false=>simp
 |true=>rw[Bool.and_eq_true,decide_eq_true_eq]at hx;have h1:=splitB_len p;have h2:=names_sum _ hx.2;(have h3:p.length≤100:=by omega);simp[h3]
open Go.RowKit
theorem nameB_short {l:List UInt8} (h:l.length<1):nameB l=false:=by
 have:¬0<l.length:=by omega
 unfold nameB;simp only[this,decide_false,Bool.false_and]
theorem nameB_long {l:List UInt8} (h:14<l.length):nameB l=false:=by
 have:¬l.length≤14:=by omega
 unfold nameB;simp only[this,decide_false,Bool.and_false,Bool.false_and]
theorem nameB_dots {l:List UInt8} (h:dots l=true):nameB l=false:=by unfold nameB;simp only[h,Bool.not_true,Bool.and_false,Bool.false_and]
theorem nameB_mid {l:List UInt8} (h0:1≤l.length) (h1:l.length≤14) (hd:dots l=false):nameB l=l.all fun c=>charOk c.toNat:=by have h0':0<l.length:=h0;unfold nameB;simp only[h0',h1,hd,decide_true,Bool.not_false,Bool.and_true,Bool.true_and]
theorem dots_no {l:List UInt8} (h:dots l=false):(l==[46])=false∧(l==[46,46])=false:=by unfold dots at h;exact Bool.or_eq_false_iff.1 h
theorem all_next {D:List UInt8} {q:UInt8→Bool} {i:Nat} (hi:i<D.length) (h:(D.take i).all q=true) (hq:q D[i]=true):(D.take (i+1)).all q=true:=by rw[List.take_add_one,gE hi,List.all_append,h];simp[hq]
theorem all_bad {D:List UInt8} {q:UInt8→Bool} {i:Nat} (hi:i<D.length) (hq:q D[i]=false):D.all q=false:=by
 cases h:D.all q with
 |false=>rfl
 |true=>rw[List.all_eq_true.1 h _ (List.getElem_mem hi)]at hq;cases hq
theorem byte_cases (x:Int):x=46∨x=45∨(x<48∧x≠46∧x≠45)∨(48≤x∧x≤57)∨x=95∨(57<x∧x<97∧x≠95)∨(97≤x∧x≤122)∨122<x:=by omega
theorem charOk_yes {x:Nat} (h:(97≤(x:Int)∧(x:Int)≤122)∨(48≤(x:Int)∧(x:Int)≤57)∨(x:Int)=46∨(x:Int)=95∨(x:Int)=45):charOk x=true:=by unfold charOk;simp only[Bool.or_eq_true,Bool.and_eq_true,decide_eq_true_eq,beq_iff_eq];omega
theorem charOk_no {x:Nat} (h:¬((97≤(x:Int)∧(x:Int)≤122)∨(48≤(x:Int)∧(x:Int)≤57)∨(x:Int)=46∨(x:Int)=95∨(x:Int)=45)):charOk x=false:=by
 cases e:charOk x with
 |false=>rfl
 |true=>unfold charOk at e;simp only[Bool.or_eq_true,Bool.and_eq_true,decide_eq_true_eq,beq_iff_eq]at e;omega
set_option maxRecDepth 100000 in
set_option maxHeartbeats 2000000 in
theorem refname_any (s:ByteArray) (w:World) (hs:s.size≤4611686018427387904):
  Calls Tryz.prog 142 #[.string s] w fun e w'=>e= .returned (.bool (nameB s.data.toList))∧w'=w:=by
 have hsz:s.size=s.data.toList.length:=Lib.size_eq s;have htl:s.toList=s.data.toList:=Lib.toList_data s;by_cases h0:s.size<1
 case pos=>(have b1:(s.size:Int)<1:=by omega);have hr:=nameB_short (hsz▸h0);rw[hr];clear hsz htl;go_enter Tryz.func142,Tryz.ntmps142;go_wp2_with fail;go_ret;exact⟨rfl,rfl⟩
 by_cases h1:14<s.size
 case pos=>(have b1:¬(s.size:Int)<1:=by omega);(have b2:(14:Int)<(s.size:Int):=by omega);have hr:=nameB_long (hsz▸h1);rw[hr];clear hsz htl;go_enter Tryz.func142,Tryz.ntmps142;go_wp2_with fail;go_ret;exact⟨rfl,rfl⟩
 have b1:¬(s.size:Int)<1:=by omega
 have b2:¬(14:Int)<(s.size:Int):=by omega
 by_cases hd:dots s.data.toList=true
 case pos=>
  have hr:=nameB_dots hd;rw[hr];unfold dots at hd;rw[←htl,Bool.or_eq_true]at hd;clear hsz htl;have hd:(s.toList==[46])=true∨((s.toList==[46])=false∧(s.toList==[46,46])=true):=by
   cases h:s.toList==[46]with
   |true=>exact .inl rfl
   |false=>rw[h]at hd;exact .inr ⟨rfl,by simpa using hd⟩
  rcases hd with hd|⟨hd,hd3⟩
  ·go_enter Tryz.func142,Tryz.ntmps142;go_wp2_with fail;go_ret;exact⟨rfl,rfl⟩
  go_enter Tryz.func142,Tryz.ntmps142;go_wp2_with fail;go_ret;exact⟨rfl,rfl⟩
 have hd':dots s.data.toList=false:=by simpa using hd
 obtain⟨hd1,hd2⟩:=dots_no hd';have hr:=nameB_mid (by omega) (by omega) hd';rw[←htl]at hd1 hd2;rw[hr];obtain⟨R,hR⟩:∃R,R=s.data.toList.all fun c=>charOk c.toNat:=⟨_,rfl⟩
 rw[←hR];have hR':=Lh hR;have hsz':=Lh hsz;clear hsz htl hd hr hd' hR;go_enter Tryz.func142,Tryz.ntmps142;go_wp2_with fail;go_loopg[3] s.size (fun g ii wr=>∃i:Nat,i≤s.size∧Hid (g=s.size-i)∧ii= .int .i64 i∧wr=w∧Hid (((s.data.toList.take i).all fun c=>charOk c.toNat)=true))
 case atStart=>exact⟨0,by omega,rfl,rfl,rfl,rfl⟩
 obtain⟨i,hi,hm,rfl,rfl,hal⟩:=hrel;by_cases hlt:i<s.size
 case pos=>
  (have c1:(0:Int)≤(i:Int):=by omega);(have c2:(i:Int)<(s.size:Int):=by omega);have hil:=Lh (hsz'.out▸hlt);(have hnext:Hid (charOk s[i].toNat=true→((s.data.toList.take (i+1)).all fun c=>charOk c.toNat)=true):=fun h=>all_next (D:=s.data.toList) hil.out hal.out h);(have hbad:Hid (charOk s[i].toNat=false→R=false):=fun h=>hR'.out.trans (all_bad (D:=s.data.toList) hil.out h));clear hal;(rcases byte_cases (s[i].toNat:Int)with h|h|h|h|h|h|h|h);all_goals
   first |(have b46:((s[i].toNat:Int)==46)=true:=beq_iff_eq.2 (by omega))|(have b46:((s[i].toNat:Int)==46)=false:=beq_eq_false_iff_ne.2 (by omega))
   first |(have b45:((s[i].toNat:Int)==45)=true:=beq_iff_eq.2 (by omega))|(have b45:((s[i].toNat:Int)==45)=false:=beq_eq_false_iff_ne.2 (by omega))
   first |(have b95:((s[i].toNat:Int)==95)=true:=beq_iff_eq.2 (by omega))|(have b95:((s[i].toNat:Int)==95)=false:=beq_eq_false_iff_ne.2 (by omega))
   first |(have b97:97≤(s[i].toNat:Int):=by omega)|(have b97:(s[i].toNat:Int)<97:=by omega)
   first |(have b48:48≤(s[i].toNat:Int):=by omega)|(have b48:(s[i].toNat:Int)<48:=by omega)
   first |(have b122:(s[i].toNat:Int)≤122:=by omega)|(have b122:122<(s[i].toNat:Int):=by omega)
   first |(have b57:(s[i].toNat:Int)≤57:=by omega)|(have b57:57<(s[i].toNat:Int):=by omega)
   have h':=Lh h
   clear h
   go_wp2_with fail
   all_goals first
    |(go_roundg (s.size-(i+1))
      case measure=>rw[hm.out];omega
      case rel=>exact⟨i+1,by omega,rfl,by go_num,rfl,hnext.out (charOk_yes (by have:=h'.out;omega))⟩)
    |(go_ret
      refine⟨?_,rfl⟩
      rw[hbad.out (charOk_no (by have:=h'.out;omega))]
      rfl)
    |(exfalso
      simp_all
      done)
    |(exfalso
      simp_all
      omega)
 have e:i=s.size:=by omega
 have hfin:Hid (R=true):=by have h:=hal.out;rw[e,hsz'.out,List.take_length]at h;exact hR'.out.trans h
 have c2:¬(i:Int)<(s.size:Int):=by omega
 clear hal;go_wp2_with fail;go_ret;refine⟨?_,rfl⟩;rw[hfin.out];rfl
theorem info_strQ :(Tryz.prog.info? 9).map (fun i=>(i.zero,i.size,i.bytes))=some (some (.string ⟨#[]⟩),1,16):=by kernel_rfl
def strR (v:Value) (L:List ByteArray):Asn:=.sl 9 1 v L.length (L.map .string)
def bytesL (b:ByteArray):List UInt8:=b.data.toList
theorem split_at47 {D:List UInt8} {f i:Nat} (hf:f≤i) (hi:i<D.length) (h47:D[i]=47) (hno:∀k (hk:k<D.length),f≤k→k<i→D[k]≠47):
  splitB (D.drop f)=(D.drop f).take (i-f)::splitB (D.drop (i+1)):=by
 have e:D.drop f=(D.drop f).take (i-f)++47::D.drop (i+1):=by
  conv=>lhs;rw[←List.take_append_drop (i-f) (D.drop f)]
  rw[List.drop_drop,show f+(i-f)=i by omega,List.drop_eq_getElem_cons hi,h47]
 conv=>lhs;rw[e]
 refine splitB_some fun hm=>?_
 obtain⟨k,hk,ek⟩:=List.mem_iff_getElem.1 hm;rw[List.getElem_take,List.getElem_drop]at ek;rw[List.length_take,List.length_drop]at hk;exact hno (f+k) (by omega) (by omega) (by omega) ek
theorem split_end {D:List UInt8} {f:Nat} (hno:∀k (hk:k<D.length),f≤k→D[k]≠47):splitB (D.drop f)=[D.drop f]:=by
 refine splitB_none fun hm=>?_
 obtain⟨k,hk,ek⟩:=List.mem_iff_getElem.1 hm;rw[List.getElem_drop]at ek;rw[List.length_drop]at hk;exact hno (f+k) (by omega) (by omega) ek
theorem splitB_count (p:List UInt8):(splitB p).length≤p.length+1:=by
 induction p with
 |nil=>exact Nat.le_refl _
 |cons c l ih=>obtain⟨h,t,e⟩:=splitB_head l;rw[splitB_cons,e];rw[e]at ih;split<;>simp only[List.length_cons]at ih ⊢ <;>omega
set_option maxRecDepth 100000 in
set_option maxHeartbeats 2000000 in
theorem refsplit_any (p:ByteArray) (w:World) (hp:p.size≤100):
  Calls Tryz.prog 141 #[.string p] w fun e w'=>∃v L,e= .returned v∧L.map bytesL=splitB p.data.toList∧Sep w w' [strR v L]:=by
 have hsz:=Lh (Lib.size_eq p);obtain⟨i0,hif,hz0,hz1,hz2⟩:=info_parts info_strQ;go_enter Tryz.func141,Tryz.ntmps141;go_wp2_with fail;go_loopw[3,4,5] (fun vo vf vi wr=>∃(L:List ByteArray) (f i:Nat),f≤i∧i≤p.size∧vf= .int .i64 f∧vi= .int .i64 i∧L.length≤i∧Hid (splitB p.data.toList=L.map bytesL++splitB (p.data.toList.drop f))∧Hid (∀k (hk:k<p.data.toList.length),f≤k→k<i→p.data.toList[k]≠47)∧Sep w wr [strR vo L]) (fun _ _ vi _=>p.size-(intOf vi).toNat)
 case atStart=>exact⟨[],0,0,by omega,by omega,rfl,rfl,by simp,by simp[Hid],(fun k hk h1 h2=>absurd h2 (by omega)),(Sep.nil w).sl_nil _ _⟩
 obtain⟨L,f,i,hfi,hi,rfl,rfl,hLi,hsp,hno,hS⟩:=hrel;by_cases hlt:i<p.size
 case pos=>
  (have c1:(0:Int)≤(i:Int):=by omega);(have c2:(i:Int)<(p.size:Int):=by omega);(have c3:(0:Int)≤(f:Int):=by omega);(have c4:(f:Int)≤(i:Int):=by omega);(have c5:(i:Int)≤(p.size:Int):=by omega);by_cases h47:p[i]=47
  case pos=>
   (have b47:((p[i].toNat:Int)==47)=true:=by rw[h47];rfl);have hS1:=hS.alloc (.cells #[.string (p.extract f i)] 9);go_wp2_with(at_builtin;refine wpList_append_sep 0 rfl _ _ 114 rfl 9 i0 (.string ⟨#[]⟩) 1 16 Tryz.underlying114 hif hz0 hz1 hz2 rfl (by decide) hS1 _ _ _ rfl rfl ⟨wr.heap.size,0,none⟩ 1 1 [.string (p.extract f i)] rfl rfl (cell_one_new _ _ _) (by simp[Value.oneCell']) (by decide) (by unfold maxLen;omega) (by omega) ?_);intro g c w2 hS2 hz;(have hS3:Sep w w2 [strR (.slice (some ⟨g,0,none⟩) (L.length+1) c) (L++[p.extract f i])]:=by unfold strR;rw[List.map_append,List.length_append];exact hS2);have hS3':=Lh hS3;have hl:=hsz.out;(have hex:bytesL (p.extract f i)=(p.data.toList.drop f).take (i-f):=by(show(p.extract f i).data.toList=_);rw[Lib.extract_data]);(have hsp2:Hid (splitB p.data.toList=(L++[p.extract f i]).map bytesL++splitB (p.data.toList.drop (i+1))):=by have h:=hsp.out;rw[split_at47 hfi (by omega) h47 hno.out]at h;(show _=_);rw[h,List.map_append,List.append_assoc,List.map_cons,List.map_nil,hex];rfl);(have hno2:Hid (∀k (hk:k<p.data.toList.length),i+1≤k→k<i+1→p.data.toList[k]≠47):=fun k hk h1 h2=>absurd h2 (by omega));clear hS hS1 hS2 hz hS3 hl hex hsp hno;go_wp2_with fail;go_roundw
   ·exact⟨_,i+1,i+1,by omega,by omega,by go_num,by go_num,by rw[List.length_append,List.length_singleton];omega,hsp2,hno2,hS3'.out⟩
   simp[intOf];omega
  (have b47:((p[i].toNat:Int)==47)=false:=by rw[beq_eq_false_iff_ne];intro h;exact h47 (UInt8.toNat_inj.1 (by show p[i].toNat=47;omega)));have hno2:Hid (∀k (hk:k<p.data.toList.length),f≤k→k<i+1→p.data.toList[k]≠47):=fun k hk h1 h2=>by
   by_cases e:k=i
   ·subst e;exact h47
   exact hno.out k hk h1 (by omega)
  have hS':=Lh hS;clear hS hno;go_wp2_with fail;go_roundw
  ·exact⟨L,f,i+1,by omega,by omega,rfl,by go_num,by omega,hsp,hno2,hS'.out⟩
  simp[intOf];omega
 have c2:¬(i:Int)<(p.size:Int):=by omega
 have c3:(0:Int)≤(f:Int):=by omega
 have c4:(f:Int)≤(p.size:Int):=by omega
 have hl:=hsz.out;have hex:bytesL (p.extract f p.size)=p.data.toList.drop f:=by(show(p.extract f p.size).data.toList=_);rw[Lib.extract_data,List.take_of_length_le (by rw[List.length_drop];omega)]
 have hfin:Hid ((L++[p.extract f p.size]).map bytesL=splitB p.data.toList):=by have h:=hsp.out;rw[split_end (fun k hk h1=>hno.out k hk h1 (by omega))]at h;(show _=_);rw[h,List.map_append,List.map_cons,List.map_nil,hex]
 have hS1:=hS.alloc (.cells #[.string (p.extract f p.size)] 9);clear hex hl hsp hno;go_wp2_with(at_builtin;refine wpList_append_sep 0 rfl _ _ 114 rfl 9 i0 (.string ⟨#[]⟩) 1 16 Tryz.underlying114 hif hz0 hz1 hz2 rfl (by decide) hS1 _ _ _ rfl rfl ⟨wr.heap.size,0,none⟩ 1 1 [.string (p.extract f p.size)] rfl rfl (cell_one_new _ _ _) (by simp[Value.oneCell']) (by decide) (by unfold maxLen;omega) (by omega) ?_);intro g c w2 hS2 hz;have hS3:Sep w w2 [strR (.slice (some ⟨g,0,none⟩) (L.length+1) c) (L++[p.extract f p.size])]:=by unfold strR;rw[List.map_append,List.length_append];exact hS2
 have hS3':=Lh hS3;clear hS hS1 hS2 hz hS3;go_wp2_with fail;go_ret;exact⟨_,_,rfl,hfin.out,hS3'.out⟩
theorem splitB_last {b:List UInt8} (h:(47:UInt8)∉b):∀a:List UInt8,splitB (a++47::b)=splitB a++[b]
 |[]=>by(show splitB (47::b)=[[]]++[b]);rw[splitB_cons,if_pos rfl,splitB_none h];rfl
 |c::a=>by
  have ih:=splitB_last h a;rw[List.cons_append,splitB_cons,splitB_cons,ih];split
  ·rfl
  obtain⟨x,t,e⟩:=splitB_head a;rw[e];rfl
theorem slash_split (p:List UInt8):((47:UInt8)∉p∧slashP p=0∧splitB p=[p])∨∃a b,p=a++47::b∧(47:UInt8)∉b∧slashP p=a.length∧splitB p=splitB a++[b]:=by
 have key:∀j (hj:j<p.length),(((⟨p.toArray⟩:ByteArray).data[j]!).toNat:Int)=(p[j].toNat:Int):=fun j hj=>by(show((p.toArray[j]!).toNat:Int)=_);rw[getElem!_pos p.toArray j (by simpa using hj)];simp
 unfold slashP;rcases Lib.lastIndexByte_spec ⟨p.toArray⟩ 47 with⟨h,hn⟩|⟨i,hi,h,h47,hn⟩
 ·left;(have h0:(47:UInt8)∉p:=fun hm=>by obtain⟨j,hj,e⟩:=List.mem_iff_getElem.1 hm;refine hn j hj ?_;rw[key j hj,e];rfl);exact⟨h0,by rw[h];rfl,splitB_none h0⟩
 right;have hi':i<p.length:=hi;have e47:p[i]=47:=UInt8.toNat_inj.1 (by have:=key i hi';show p[i].toNat=47;omega);have hb:(47:UInt8)∉p.drop (i+1):=fun hm=>by obtain⟨j,hj,e⟩:=List.mem_iff_getElem.1 hm;rw[List.getElem_drop]at e;rw[List.length_drop]at hj;refine hn (i+1+j) (by omega) (show i+1+j<p.length by omega) ?_;rw[key (i+1+j) (by omega),e];rfl
 have e:p=p.take i++47::p.drop (i+1):=by conv=>lhs;rw[←List.take_append_drop i p,List.drop_eq_getElem_cons hi',e47]
 refine⟨p.take i,p.drop (i+1),e,hb,?_,?_⟩
 ·rw[h,List.length_take];omega
 conv=>lhs;rw[e]
 exact splitB_last hb _
theorem slash_two {p:List UInt8} {L:List (List UInt8)} (h:splitB p=L):(L.length<2→slashP p=0)∧∀(h2:0<L.length),2≤L.length→slashP p+(L[L.length-1]'(by omega)).length+1=p.length:=by
 subst h;rcases slash_split p with⟨_,h0,e⟩|⟨a,b,e,hb,hs,e2⟩
 ·refine⟨fun _=>h0,fun h1 h2=>?_⟩;rw[e]at h2;exact absurd h2 (by simp)
 have h1:=splitB_ne a;have h3:0<(splitB a).length:=List.length_pos_iff.2 h1;refine⟨fun h=>?_,fun h2 h4=>?_⟩
 ·rw[e2,List.length_append,List.length_singleton]at h;omega
 have e3:(splitB p)[(splitB p).length-1]'(by omega)=b:=by(have:(splitB p)[(splitB p).length-1]? =some b:=by rw[e2,List.length_append,List.length_singleton,Nat.add_sub_cancel,List.getElem?_append_right (Nat.le_refl _)];simp);obtain⟨_,h⟩:=gF.1 this;exact h
 rw[e3,hs];have:=congrArg List.length e;rw[List.length_append,List.length_cons]at this;omega
theorem strs_read {w0 w:World} {v:Value} {L:List ByteArray} (h:0<L.length) (hS:Sep w0 w [strR v L]):∃g c,v= .slice (some ⟨g,0,none⟩) L.length c∧∀k (hk:k<L.length),w.cell? ⟨g,k,none⟩=some (.string L[k]):=by unfold strR at hS;obtain⟨g,c,rfl,_⟩:=hS.sl_form 0 rfl h;refine⟨g,c,rfl,fun k hk=>?_⟩;have:=hS.cellAt 0 rfl k (by omega);rw[List.getElem?_map,gE hk]at this;exact this
theorem all_names {L:List ByteArray} {i:Nat} (hi:i<L.length) (h:((L.take i).all fun b=>nameB (bytesL b))=true) (hq:nameB (bytesL L[i])=true):((L.take (i+1)).all fun b=>nameB (bytesL b))=true:=by rw[List.take_add_one,gE hi,List.all_append,h];simp[hq]
theorem mem_sum {l:List (List UInt8)} {x:List UInt8} (h:x∈l):x.length+1≤(l.map fun s=>s.length+1).sum:=by
 induction l with
 |nil=>cases h
 |cons a l ih=>
  rw[List.map_cons,List.sum_cons];rcases List.mem_cons.1 h with rfl|h
  ·omega
  have:=ih h;omega
theorem part_size {p:ByteArray} {L:List ByteArray} (h:L.map bytesL=splitB p.data.toList) {i:Nat} (hi:i<L.length):L[i].size≤p.size:=by
 have h1:bytesL L[i]∈splitB p.data.toList:=by rw[←h];exact List.mem_map_of_mem (List.getElem_mem hi)
 have h2:=mem_sum h1;rw[←splitB_len]at h2;have h3:L[i].size=(bytesL L[i]).length:=Lib.size_eq _;have h4:p.size=p.data.toList.length:=Lib.size_eq p;omega
set_option maxRecDepth 100000 in
set_option maxHeartbeats 2000000 in
theorem refvalid_any (p:ByteArray) (w:World) (hs:p.size≤4611686018427387904):
  Calls Tryz.prog 96 #[.string p] w fun e w'=>e= .returned (.bool (validL p.data.toList))∧Below w.heap.size w w':=by
 have hsz:=Lib.size_eq p;rw[←refV_valid];by_cases h100:100<p.size
 case pos=>(have b1:(100:Int)<(p.size:Int):=by omega);(have hr:refV p.data.toList=false:=by(have:¬p.data.toList.length≤100:=by omega);unfold refV;simp only[this,decide_false,Bool.false_and]);rw[hr];clear hsz;go_enter Tryz.func96,Tryz.ntmps96;go_wp2_with fail;go_ret;exact⟨rfl,Below.refl _ _⟩
 have b1:¬(100:Int)<(p.size:Int):=by omega
 have hr:refV p.data.toList=(decide ((splitB p.data.toList).length≤6)&&(splitB p.data.toList).all nameB):=by(have:p.data.toList.length≤100:=by omega);unfold refV;simp only[this,decide_true,Bool.true_and]
 rw[hr];obtain⟨R,hR⟩:∃R,R=(decide ((splitB p.data.toList).length≤6)&&(splitB p.data.toList).all nameB):=⟨_,rfl⟩;rw[←hR];have hR':=Lh hR;have hsp:=Lh (refsplit_any p w (by omega));clear hsz hr hR;go_enter Tryz.func96,Tryz.ntmps96;go_wp2_with(go_at_call 141;refine hsp.out.mono ?_;rintro e w1 ⟨v,L,rfl,hL,hS⟩;have hL':=Lh hL;clear hL;obtain⟨g,c,rfl,hc⟩:=strs_read (by have h:=congrArg List.length hL'.out;rw[List.length_map]at h;rw[h];exact List.length_pos_iff.2 (splitB_ne _)) hS;have hc':=Lh hc;have hb:=Lh hS.below;clear hS hc)
 ·(have h6:(6:Int)<(L.length:Int):=by assumption);(have hf:R=false:=by have h1:=congrArg List.length hL'.out;rw[List.length_map]at h1;(have h2:¬(splitB p.data.toList).length≤6:=by omega);rw[hR'.out];simp only[h2,decide_false,Bool.false_and]);subst hf;go_ret;exact⟨rfl,hb.out⟩
 have h6:(L.length:Int)≤6:=by assumption
 have hRL:Hid (R=L.all fun b=>nameB (bytesL b)):=by have h1:=congrArg List.length hL'.out;rw[List.length_map]at h1;(have h2:(splitB p.data.toList).length≤6:=by omega);(show _=_);rw[hR'.out,←hL'.out,List.all_map];rw[←hL'.out]at h2;simp only[h2,decide_true,Bool.true_and];rfl
 have hps:=Lh (fun i (hi:i<L.length)=>Nat.le_trans (part_size hL'.out hi) (show p.size≤4611686018427387904 by omega));clear hR' hsp;go_loopg[4] L.length (fun gk ii wr=>∃i:Nat,i≤L.length∧Hid (gk=L.length-i)∧ii= .int .i64 i∧wr=w1∧Hid (((L.take i).all fun b=>nameB (bytesL b))=true))
 case atStart=>exact⟨0,by omega,rfl,rfl,rfl,rfl⟩
 obtain⟨i,hi,hm,rfl,rfl,hal⟩:=hrel;by_cases hlt:i<L.length
 case pos=>
  (have c1:(0:Int)≤(i:Int):=by omega);(have c2:(i:Int)<(L.length:Int):=by omega);have d0:=hc'.out i hlt;have hname:=Lh (refname_any L[i] wr (hps.out i hlt));have hn2:L[i].data.toList=bytesL L[i]:=rfl;rw[hn2]at hname;cases hq:nameB (bytesL L[i])with
  |true=>
   have hal2:=Lh (all_names hlt hal.out hq);rw[hq]at hname;clear hq hn2 hal;go_wp2_with(go_at_call 142;refine hname.out.mono ?_;rintro e w3 ⟨rfl,rfl⟩);go_roundg (L.length-(i+1))
   case measure=>rw[hm.out];omega
   case rel=>exact⟨i+1,by omega,rfl,by go_num,rfl,hal2⟩
  |false=>
   have hf:R=false:=by
    rw[hRL.out];cases h:L.all fun b=>nameB (bytesL b)with
    |false=>rfl
    |true=>rw[List.all_eq_true.1 h _ (List.getElem_mem hlt)]at hq;cases hq
   subst hf;rw[hq]at hname;clear hq hn2 hal hRL;go_wp2_with(go_at_call 142;refine hname.out.mono ?_;rintro e w3 ⟨rfl,rfl⟩);go_ret;exact⟨rfl,hb.out⟩
 have hf:R=true:=by have h:=hal.out;rw[List.take_of_length_le (by omega)]at h;rw[hRL.out];exact h
 subst hf;have c2:¬(i:Int)<(L.length:Int):=by omega
 clear hal hRL;go_wp2_with fail;go_ret;exact⟨rfl,hb.out⟩
def namesL (p:List UInt8):List (List UInt8):=if validL p=true then splitB p else []
theorem valid_len {p:List UInt8} (h:validL p=true):p.length≤100:=by have h2:=refV_valid p;rw[h]at h2;unfold refV at h2;simp only[Bool.and_eq_true,decide_eq_true_eq]at h2;exact h2.1
theorem refnames_any {p:List UInt8} (w:World) (hs:p.length≤1000000):
  Calls Tryz.prog 97 #[strV p] w fun e w'=>∃v L,e= .returned v∧L.map bytesL=namesL p∧Sep w w' [strR v L]:=by
 have hv:=refvalid_any ⟨p.toArray⟩ w (by rw[strV_size];omega);rw[strV_data]at hv;unfold namesL;cases hval:validL p with
 |false=>rw[hval]at hv;have hv':=Lh hv;rw[if_neg (by decide)];unfold strV at*;clear hv hval;go_enter Tryz.func97,Tryz.ntmps97;go_wp2_with(go_at_call 96;refine hv'.out.mono ?_;rintro e w1 ⟨rfl,hb⟩;replace hb:=Lh hb);go_ret;exact⟨_,[],rfl,rfl,((Sep.nil w).pure hb.out).sl_nil _ _⟩
 |true=>rw[hval]at hv;have hv':=Lh hv;have h100:=valid_len hval;(have hsp:=fun W=>refsplit_any ⟨p.toArray⟩ W (by rw[strV_size];omega));have hsp':=Lh hsp;rw[if_pos rfl];obtain⟨R,hR⟩:∃R,R=splitB p:=⟨_,rfl⟩;rw[←hR];have hR':=Lh hR;unfold strV at*;clear hv hsp hval hR;go_enter Tryz.func97,Tryz.ntmps97;go_wp2_with(first |(go_at_call 96;refine hv'.out.mono ?_;rintro e w1 ⟨rfl,hb⟩;replace hb:=Lh hb)|(go_at_call 141;refine(hsp'.out _).mono ?_;rintro e w2 ⟨v,L,rfl,hL,hS⟩;replace hL:=Lh hL;replace hS:=Lh hS));go_ret;refine⟨_,L,rfl,?_,(((Sep.nil w).pure hb.out).join hS.out)⟩;rw[hR'.out];exact hL.out
theorem refparent_any {p:List UInt8} (w:World) (hs:p.length≤1000000):
  Calls Tryz.prog 99 #[strV p] w fun e w'=>e= .returned (strV (parentL p))∧Below w.heap.size w w':=by
 have hn':=Lh (refnames_any (p:=p) w hs);by_cases h2:(namesL p).length<2
 ·have e0:parentL p=[]:=by
   unfold parentL;split
   ·rename_i hv;unfold namesL at h2;rw[if_pos hv]at h2;rw[(slash_two rfl).1 h2];rfl
   rfl
  rw[e0];have h2':=Lh h2;unfold strV at*;clear h2 e0;go_enter Tryz.func99,Tryz.ntmps99;go_wp2_with(go_at_call 97;refine hn'.out.mono ?_;rintro e w1 ⟨v,L,rfl,hL,hS⟩;obtain⟨A,c,rfl,_⟩:=(hS.rd 0 rfl).shape;(have hLl:(L.length:Int)<2:=by(have h:=congrArg List.length hL);rw[List.length_map]at h;(have:=h2'.out);omega);replace hS:=Lh hS;clear hL);go_ret;exact⟨rfl,hS.out.below⟩
 have hv:validL p=true:=by
  cases hv:validL p with
  |true=>rfl
  |false=>unfold namesL at h2;rw[hv]at h2;exact absurd (by simp) h2
 have e0:parentL p=p.take (slashP p):=by unfold parentL;rw[if_pos hv]
 have hnl:namesL p=splitB p:=by unfold namesL;rw[if_pos hv]
 rw[e0];obtain⟨q,hq⟩:∃q,q=p.take (slashP p):=⟨_,rfl⟩;rw[←hq];have hq':=Lh hq;have hnl':=Lh hnl;have h2':=Lh h2;unfold strV at*;clear h2 e0 hv hq hnl;go_enter Tryz.func99,Tryz.ntmps99;go_wp2_with(go_at_call 97;refine hn'.out.mono ?_;rintro e w1 ⟨v,L,rfl,hL,hS⟩;rw[hnl'.out]at hL h2';(have hLl:L.length=(splitB p).length:=by(have h:=congrArg List.length hL);rw[List.length_map]at h;exact h);(have h9:=h2'.out);obtain⟨g,c,rfl,hc⟩:=strs_read (by omega) hS;(have hcl:=hc (L.length-1) (by omega));(have hx:slashP p+(L[L.length-1]'(by omega)).size+1=p.length:=by(have h:=(slash_two hL.symm).2 (by rw[List.length_map];omega) (by rw[List.length_map];omega));simp only[List.length_map,List.getElem_map,bytesL]at h;(have e7:(L[L.length-1]'(by omega)).size=(L[L.length-1]'(by omega)).data.toList.length:=Lib.size_eq _);omega);(have ez:((⟨p.toArray⟩:ByteArray).size:Int)=p.length:=by rw[strV_size]);(have hL2:¬((L.length:Int)<2):=by omega);(have hL3:2≤(L.length:Int):=by omega);(have hL4:(L.length:Int)≤1000001:=by(have h:=splitB_count p);omega);(have hls:((L[L.length-1]'(by omega)).size:Int)≤1000000:=by omega);(have hx2:((p.length:Int)-((L[L.length-1]'(by omega)).size:Int))-1=slashP p:=by omega);(have q2:((L.length:Int)-1).toNat=L.length-1:=by omega);(have q3:slashP p≤p.length:=by omega);(have hsl:Hid (Int.toNat ((p.length:Int)-((L[L.length-1]'(by omega)).size:Int)-1)=slashP p):=by(show _=_);omega);generalize L[L.length-1]'(by omega)=lst at hcl hx hx2 hsl hls;replace hS:=Lh hS;clear hL h9 hc hLl);go_ret;refine⟨?_,hS.out.below⟩;rw[hq'.out,←extract_take];rfl
end Go.Proofs.YtimkjnbihlgbiaaGreat
