/- FsH, IntMap, FsN, laid together. -/
import Derived.Test.YteihmbaimbogaaaGreatJ6
import Derived.Maps.Own
import Derived.Maps.Views
namespace Go.Proofs.YteihmbaimbogaaaGreat
open Go.RowKit
set_option linter.unusedVariables false
set_option linter.unusedSimpArgs false
def QQ (s:ByteArray):List UInt8:=s.data.toList
theorem Sep.vF {w0 w:World} {As:List aU} {e:TypeId} {n:Nat} {cs:List Value} {P:Program} {g cap:Nat} (i:Nat) (h:Sep w0 w As) (hi:As[i]? =some (.sl e 1 (.slice (some ⟨g,0,none⟩) n cap) n cs)) (dT sT ty:TypeId) (hu:P.underlying dT=some (.slice e)) (hs:(P.info? e).map (·.size)=some 1)
  (o dLen dCap:Nat) (s:ByteArray) (hd:s.size≤dLen) (hfit:o+s.size≤n):
  ∃w',(Builtin.copy_ #[dT,sT] ty #[.slice (some ⟨g,o,none⟩) dLen dCap,.string s]).run P w= .ok (goInt (s.size:Nat)) w'∧Sep w0 w' (As.set i (.sl e 1 (.slice (some ⟨g,0,none⟩) n cap) n (kV cs o ((QQ s).map jP))))∧w'.heap.size=w.heap.size:=by
 have hlen:((QQ s).map jP).length=s.size:=by unfold QQ;rw[List.length_map];rfl
 obtain⟨cur,hg,hsz,hS⟩:=h.laid i hi o ((QQ s).map jP) (by rw[hlen];exact hfit);have hst:=run_storeCells_at P g o e ((QQ s).map jP) 0 cur w hg (by rw[Nat.add_zero];exact hsz) sU;rw[Nat.add_zero]at hst;refine⟨_,?_,hS,by simp[World.setRow]⟩;cases hq:P.info? e with
 |none=>rw[hq]at hs;simp at hs
 |some i=>(have hi:i.size=1:=by rw[hq]at hs;simpa using hs);have hmin:Nat.min s.size dLen=s.size:=Nat.min_eq_left hd;simp[Builtin.copy_,run_underlying hu,Builtin.lenOf,Builtin.firstCells,sizeOf,typeInfo,hq,hi,hmin];(have e:List.take s.size (List.map (fun b:UInt8=>Value.int IntKind.u8 (b.toNat:Int)) s.data.toList)=(QQ s).map jP:=by rw[List.take_of_length_le (by rw[List.length_map];exact Nat.le_refl _)];rfl);rw[e,hst];simp
theorem aoJ {w0 w:World} {As:List aU} {e:TypeId} {n:Nat} {cs:List Value} {g cap:Nat} (i:Nat) (h:Sep w0 w As) (hi:As[i]? =some (.sl e 1 (.slice (some ⟨g,0,none⟩) n cap) n cs)) (o m c:Nat) (hm:o+m≤n) (hc:m≤c) (hcm:c≤maxLen):
  Rd w 1 (.slice (some ⟨g,o,none⟩) m c) m ((cs.drop o).take m):=by
 obtain⟨A,cap',e',_,_,hl⟩:=h.vB i hi;rw[Nat.mul_one]at hl;have hlt:g<w.heap.size:=by
  obtain⟨F,⟨ho,_⟩,hF⟩:=h.get i hi;rcases ho.2 with⟨h',_⟩|⟨g',c',cur,h',hb,hg,_⟩
  ·simp at h'
  cases h';exact lt_of_heap hg
 refine⟨by rw[List.length_take,List.length_drop];omega,_,_,rfl,hc,hcm,fun _=>⟨_,rfl,hlt,fun j u hj=>?_⟩⟩;rw[List.getElem?_take]at hj;split at hj
 ·rename_i hjm;rw[List.getElem?_drop]at hj;rw[Addr.add_lit,h.cellAt i hi (o+j) (by omega)];exact hj
 cases hj
def bB :List UInt8:=List.replicate 512 0
theorem dP :bB.length=512:=List.length_replicate
theorem wS :bB.map jP=List.replicate 512 (.int .u8 0):=List.map_replicate
def U2 :List UInt8:=[115,104,117,110,116,45,108,101,100,103,101,114,45,49,33,10]
def lF (ps:List Nat):Nat→List UInt8
 |0=>bW (bW bB 0 U2) 20 (leB ps.length 2)
 |k+1=>bW (lF ps k) (22+2*k) (leB (ps.getD k 0) 2)
def dM (ps:List Nat):List UInt8:=bW (lF ps ps.length) 16 (leB (E9 ((lF ps ps.length).drop 20)).toNat 4)
theorem xM (ps:List Nat):∀k,k≤240→(lF ps k).length=512
 |0,_=>by(have h1:(bW bB 0 U2).length=512:=by rw[dL,dP];rw[dP];decide);unfold lF;rw[dL,h1];rw[h1];simp[leB]
 |k+1,h=>by have:=xM ps k (by omega);rw[lF,dL,this];rw[this];simp[leB];omega
theorem lM {ps:List Nat} (h:ps.length≤240):(dM ps).length=512:=by unfold dM;have:=xM ps ps.length h;rw[dL,this];rw[this];simp[leB]
theorem zN :(Tryz.prog.info? 3).map (fun i=>(i.zero,i.size,i.bytes))=some (some (.int .i64 0),1,8):=by kernel_rfl
set_option maxRecDepth 100000 in
set_option maxHeartbeats 1000000 in
theorem JI {w:World} {v:Value} {ps:List Nat} (hp:FU w v (ps.map fun(p:Nat)=>(p:Int))) (hlen:ps.length≤240) (hsm:∀p∈ps,p<65536):
  Calls Tryz.prog 139 #[v] w fun e w'=>∃u,e= .returned u∧Sep w w' [aH u (dM ps)]:=by
 obtain⟨k0,iM,hk0,hk1,hk2⟩:=iQ jV;obtain⟨A,cp,rfl,_⟩:=hp.shape;obtain⟨n,hn⟩:∃n,ps.length=n:=⟨_,rfl⟩;have hpl:(ps.map fun(p:Nat)=>(p:Int)).length=n:=by rw[List.length_map,hn]
 rw[hpl]at hp ⊢;have hp':=Lh hp;have b1:(n:Int)≤240:=by omega
 have hS0:=(Sep.nil w).made 5 (.int .u8 0) 512 (by unfold maxLen;omega);have hmk:(Instr.makeSlice 35 (.int .i64 512) (.int .i64 512)).run Tryz.prog w= .ok (.slice (some ⟨w.heap.size,0,none⟩) 512 512) (w.alloc (.cells (madeCells #[.int .u8 0] 512) 5)):=kF (P:=Tryz.prog) 35 5 k0 (.int .u8 0) 1 Tryz.underlying35 iM hk0 hk1 hk2 rfl .i64 .i64 512 (by omega) (by unfold maxLen;omega) w;obtain⟨w1,hcp,hS1,_⟩:=hS0.vF (P:=Tryz.prog) 0 rfl 35 9 3 Tryz.underlying35 rQ 0 512 512 ⟨#[115,104,117,110,116,45,108,101,100,103,101,114,45,49,33,10]⟩ (by decide) (by decide);have hb1:(bW bB 0 U2).length=512:=by rw[dL,dP];rw[dP];decide
 have hS2:Sep w w1 [aH (.slice (some ⟨w.heap.size,0,none⟩) 512 512) (bW bB 0 U2)]:=by rw[bE hb1];(have e:kV (List.replicate 512 (Value.int .u8 0)) 0 ((QQ ⟨#[115,104,117,110,116,45,108,101,100,103,101,114,45,49,33,10]⟩).map jP)=(bW bB 0 U2).map jP:=by rw[←wS,←vG];rfl);rw[←e];exact hS1
 have amX:=P7 (at':=20) (n:=n) (k:=2) hS2 (by rw[hb1];decide) (by decide) (by rw[hb1];decide) (by omega);clear hS0 hS1 hS2 hp hlen;go_enter Tryz.func139,Tryz.ntmps139;go_wp2_with(go_at_call 173;refine amX.mono ?_;rintro e w2 ⟨rfl,bG⟩);have kX:Hid (Sep w w2 [aH (.slice (some ⟨w.heap.size,0,none⟩) 512 512) (lF ps 0)]):=by have:=bG;rw[←hn]at this;exact this
 clear bG amX hcp hmk;obtain⟨G,hG⟩:∃G,w.heap.size=G:=⟨_,rfl⟩;rw[hG]at kX ⊢;go_loopw[15] (fun i wr=>∃k:Nat,k≤n∧i= .int .i64 k∧Hid (Sep w wr [aH (.slice (some ⟨G,0,none⟩) 512 512) (lF ps k)])) (fun i _=>n-(intOf i).toNat)
 case atStart=>exact⟨0,Nat.zero_le _,rfl,kX⟩
 obtain⟨k,hk,rfl,hS⟩:=hrel;by_cases hlt:k<n
 ·(have hx:∃ad,A=some ad∧wr.cell? (ad.add k)=some (.int .i64 (ps.getD k 0:Nat)):=by obtain⟨ad,c,u,e,h1,h2⟩:=Rd.at_ (Rd.below hp'.out hS.out.below) (k:=k) (by rw[hpl];omega);rw[hpl]at e;cases e;rw[List.getElem?_map,List.getElem?_map,gE (by omega)]at h1;cases h1;refine⟨_,rfl,?_⟩;rw[h2,gH,gE (by omega)];rfl);obtain⟨ad,rfl,hc⟩:=hx;have hl:=xM ps k (by omega);have hput:=P7 (at':=22+2*k) (n:=ps.getD k 0) (k:=2) hS.out (by rw[hl];omega) (by decide) (by rw[hl];decide) (by(have:ps.getD k 0<65536:=by rw[gH,gE (by omega)];exact hsm _ (List.getElem_mem _));omega);simp only[Int.natCast_add,Int.natCast_mul,Int.cast_ofNat_Int]at hput;(have q1:(k:Int)<n:=by omega);(have q2:(0:Int)≤k:=by omega);clear kX hl hp';obtain⟨x,hx⟩:∃x,ps.getD k 0=x:=⟨_,rfl⟩;rw[hx]at hc hput;go_wp2_with(go_at_call 173;refine hput.mono ?_;rintro e w3 ⟨rfl,iW⟩);refine⟨⟨k+1,by omega,rfl,Lh ?_⟩,by simp[intOf];omega⟩;rw[lF,hx];exact iW
 obtain rfl:k=n:=by omega
 have hl:=xM ps ps.length (by omega);have hSk:Sep w wr [aH (.slice (some ⟨G,0,none⟩) 512 512) (lF ps ps.length)]:=by rw[hn];exact hS.out
 have hsub:BytesAt wr (.slice (some ⟨G,20,none⟩) 492 492) ((lF ps ps.length).drop 20):=by have h1:=hSk;rw[bE hl]at h1;have h2:=aoJ 0 h1 rfl 20 492 492 (by decide) (Nat.le_refl _) (by unfold maxLen;omega);unfold BytesAt;(have e1:((lF ps ps.length).drop 20).length=492:=by rw[List.length_drop,hl]);rw[e1];(have e2:(((lF ps ps.length).map jP).drop 20).take 492=((lF ps ps.length).drop 20).map jP:=by rw[←List.map_drop];exact List.take_of_length_le (by rw[List.length_map,e1];exact Nat.le_refl _));rw[←e2];exact h2
 have auH:=alD hsub (by rw[List.length_drop,hl];decide);have hci:=alC ((lF ps ps.length).drop 20);have hput:∀W,Sep w W [aH (.slice (some ⟨G,0,none⟩) 512 512) (lF ps ps.length)]→Calls Tryz.prog 173 #[.slice (some ⟨G,0,none⟩) 512 512,.int .i64 16,.int .i64 (E9 ((lF ps ps.length).drop 20)),.int .i64 4] W fun e w'=>e= .returned (.tuple #[])∧Sep w w' [aH (.slice (some ⟨G,0,none⟩) 512 512) (dM ps)]:=fun W hW=>by(have e:E9 ((lF ps ps.length).drop 20)=(((E9 ((lF ps ps.length).drop 20)).toNat:Nat):Int):=by omega);rw[e];exact P7 (at':=16) (n:=(E9 ((lF ps ps.length).drop 20)).toNat) (k:=4) hW (by rw[hl];decide) (by decide) (by rw[hl];decide) (by omega)
 have aiX:=Lh hSk;clear hSk hS kX hsub hl hci;obtain⟨C,hC⟩:∃C,E9 ((lF ps ps.length).drop 20)=C:=⟨_,rfl⟩;rw[hC]at auH hput;go_wp2_with(first |(go_at_call 171;refine auH.mono ?_;rintro e w3 ⟨rfl,hB3⟩)|(go_at_call 173;refine(hput _ (aiX.out.pure hB3)).mono ?_;rintro e w4 ⟨rfl,iW⟩));go_ret;exact⟨_,rfl,iW⟩
end Go.Proofs.YteihmbaimbogaaaGreat
namespace Go.Proofs.YteihmbaimbogaaaGreat
open Go.RowKit
set_option linter.unusedVariables false
theorem dX :Maps.Keyed Tryz.prog 3:=Maps.int_keyed Tryz.underlying3
theorem ah5 (w:World):(zeroValue 3).run Tryz.prog w= .ok (.int .i64 0) w:=by kernel_rfl
def aoK (w:World) (b n:Nat) (f:Int→Int):Prop:=
 ∃D:DataW Unit,w.ownsMap Tryz.prog 3 (plainElem Tryz.prog 3) b n D∧Maps.IsMap D∧∀k:Int,(Lit.int .i64 k).wf=true→D.atKey (.int .i64 k) (.lit (.int .i64 0))= .lit (.int .i64 (f k))
def NS (b n:Nat) (f:Int→Int):aU:=
 ⟨fun w F=>aoK w b n f∧F=[b],
  fun w w' F ⟨⟨D,⟨es,clock,hb,hr⟩,h2,h3⟩,hF⟩ hk=>⟨⟨D,⟨es,clock,by rw[hk b (by rw[hF];simp)];exact hb,hr⟩,h2,h3⟩,hF⟩,
  fun w F ⟨⟨D,h1,_⟩,hF⟩=>by rw[hF];exact⟨by simp,fun b' hb=>by simp at hb;subst hb;exact h1.lt⟩⟩
section
variable {w0 w w':World} {As:List aU} {b n:Nat} {f:Int→Int}
theorem Sep.ah6 (h:Sep w0 w As):Sep w0 (w.alloc (.map #[] 0)) (NS w.heap.size 0 (fun _=>0)::As):=
 h.new ((Below.refl _ _).alloc (Nat.le_refl _) _) (F:=[w.heap.size]) ⟨⟨.map [],World.ownsMap_made w _ _ _,⟨[],rfl⟩,fun k _=>rfl⟩,rfl⟩ (by simp)
set_option maxRecDepth 100000 in
theorem Sep.ac3 (i:Nat) (h:Sep w0 w As) (hi:As[i]? =some (NS b n f)) (k:Int) (hk:(Lit.int .i64 k).wf=true):
  (Instr.lookup 223 (.map (some b)) (.int .i64 k) false).run Tryz.prog w= .ok (.int .i64 (f k)) w:=by
 obtain⟨F,⟨⟨D,h1,h2,h3⟩,_⟩,_⟩:=h.get i hi;obtain⟨c,hrun,hat,_⟩:=h1.lookup_int dX Tryz.underlying223 Tryz.underlying3 (ah5 w) (Maps.keyOf_int_mk Tryz.underlying3 hk);have hc:f k=c:=by have e:=(h3 k hk).symm.trans hat;injection e with e;injection e
 rw[hrun,hc]
set_option maxRecDepth 100000 in
theorem Sep.ah7 (i:Nat) (h:Sep w0 w As) (hi:As[i]? =some (NS b n f)) (hn:n<maxLen) (k v:Int) (hk:(Lit.int .i64 k).wf=true) (hv:(Lit.int .i64 v).wf=true):
  ∃w',(Instr.mapUpdate 223 (.map (some b)) (.int .i64 k) (.int .i64 v)).run Tryz.prog w= .ok () w'∧Sep w0 w' (As.set i (NS b (n+1) (fun x=>if x=k then v else f x))):=by
 obtain⟨F,⟨⟨D,h1,h2,h3⟩,hF⟩,_⟩:=h.get i hi;obtain⟨w',hrun,hown,hgrow⟩:=h1.update dX Tryz.underlying223 hn (Maps.keyOf_int_mk Tryz.underlying3 hk) (plainElem_int Tryz.underlying3 hv);refine⟨w',hrun,h.step i hi fun F' ⟨_,hF'⟩ _=>⟨[b],⟨⟨_,hown,h2.put _ _,fun x hx=>?_⟩,rfl⟩,fun x hx=>by rw[hF'];exact .inl hx,by rw[hF'];exact j3.o7 hgrow⟩⟩;by_cases e:x=k
 ·subst e;(show _=DataW.lit (Lit.int IntKind.i64 (if x=x then v else f x)));rw[if_pos rfl];exact Maps.atKey_put_same h2 (by simp[WideAt.IsKeyLit]) _ _
 show _=DataW.lit (Lit.int IntKind.i64 (if x=k then v else f x))
 rw[if_neg e];rw[Maps.atKey_put_other (by intro e';injection e' with _ e';exact e e')];exact h3 x hx
end
set_option linter.unusedSimpArgs false
set_option maxRecDepth 100000 in
set_option maxHeartbeats 1000000 in
theorem qL {w0 w:World} {R:List aU} {q p nb i:Nat} {D:DK} (hD:D.ok nb) (KR:96<nb) (hi:96+i<nb) (hoff:D.off=false) (h:Sep w0 w (aD q p false::aJ p D::R)):
  Calls Tryz.prog 172 #[.pointer (some ⟨q,0,none⟩),.int .i64 i] w fun e w'=>
   ∃v,e= .returned (.tuple #[v,.int .i64 0])∧Sep w0 w' (aH v (bk D.now (96+i))::aD q p false::aJ p D::R):=by
 have h1:Sep w0 (w.alloc (.cells #[.int .i64 0] 39)) (aD q p false::aJ p D::aI w.heap.size 0::R):=Sep.bZ [1,2,0] (h.bN 39 #[.int .i64 0]) (by decide) (by simp)
 have haw:=zC h1
 simp only[Bool.false_eq_true,if_false]at haw
 have hbl:=vD hD (by omega) h1
 have hrd:=JH hD hi hoff h1
 have q1:(i:Int)<((nb-96:Nat):Int):=by omega
 have q0:(0:Int)≤i:=by omega
 have mE:=hD.few
 have q2:(i:Int)≤4096:=by omega
 have e:((96+i:Nat):Int)=96+(i:Int):=by omega
 rw[e]at hrd
 obtain⟨N,hN⟩:∃N,N=nb-96:=⟨_,rfl⟩
 rw[←hN]at hbl q1
 clear hN mE e
 go_enter_defers Tryz.func172,Tryz.ntmps172
 go_wp2_with(first |(go_at_call 129;refine haw.mono ?_;rintro e w9 ⟨rfl,h9⟩;obtain rfl:=h9.symm)|(go_at_call 133;refine hbl.mono ?_;rintro e w9 ⟨rfl,h9⟩;obtain rfl:=h9.symm)|(go_at_call 130;refine hrd.mono ?_;rintro e w9 ⟨v,rfl,h9⟩;have k1:=h9.bC 3 rfl 0;have k2:=h9.bF 3 rfl 0;simp only[gA,gB]at k1))
 refine lI ?_
 have h10:Sep w0 _ (aH v (bk D.now (96+i))::aD q p false::aJ p D::aI w.heap.size 0::R):=h9.bS 3 rfl 0 (.int .i64 0)
 have ec:=h10.bC 3 rfl 0
 simp only[gA,gB]at ec
 refine⟨.tuple #[v,.int .i64 0],by simp[results,Tryz.results172,go_sem,ec],v,rfl,?_⟩
 exact Sep.drop 1 (Sep.bZ [3,0,1,2] h10 (by decide) (by simp))
structure aeJ (nb:Nat) (ps:List (Nat×List UInt8)):Prop where
 some:1≤ps.length
 few:ps.length≤40
 put:∀x∈ps,96+x.1<nb∧x.2.length=512
 ne:(ps.map (·.1)).Nodup
def iT (ps:List (Nat×List UInt8)):List oJ:=ps.zipIdx.map fun x=>some (1+x.2,x.1.2)
def eT (ps:List (Nat×List UInt8)):List oJ:=ps.map fun x=>some (96+x.1,x.2)
def bD (ps:List (Nat×List UInt8)):List oJ:=iT ps++(none::some (0,dM (ps.map (·.1)))::none::(eT ps++[none,some (0,dM []),none]))
structure aeI (w0:World) (R:List aU) (g n:Nat) (ps:List (Nat×List UInt8)) (us:List Value):Prop where
 len:ps.length=n
 alE:us.length=n
 cell:∀w' X,Sep w0 w' (X++R)→∀k (h:k<n),w'.cell? ⟨g,k*2,none⟩=some (.int .i64 ((ps[k]'(by omega)).1:Nat))∧w'.cell? ⟨g,k*2+1,none⟩=some (us[k]'(by omega))
 data:∀k (h:k<n),iB w0 R (us[k]'(by omega)) (ps[k]'(by omega)).2
 form:∀u∈us,∃A c,u= .slice A 512 c
theorem BL {ps:List (Nat×List UInt8)} {k:Nat} (hk:k<ps.length):(iT ps).take (k+1)=(iT ps).take k++[some (1+k,ps[k].2)]:=by unfold iT;rw[List.take_add_one,List.getElem?_map,List.getElem?_zipIdx,gE hk];simp
theorem BN {ps:List (Nat×List UInt8)} {k:Nat} (hk:k<ps.length):(eT ps).take (k+1)=(eT ps).take k++[some (96+ps[k].1,ps[k].2)]:=by unfold eT;rw[List.take_add_one,List.getElem?_map,gE hk];rfl
theorem NT {xs:List oJ} {a:oJ} {D E:DK} (h:iY xs D=(E,true)) (ho:E.off=false):iY (xs++[a]) D=(E.act a,true):=by
 rw[EB,h];show iY [a] E=_
 rw[iY,ho];rfl
theorem ac4 {xs ys:List oJ} {a:oJ} {D E:DK} (h:iY xs D=(E,true)) (ho:E.off=true):iY (xs++a::ys) D=(E,false):=by
 rw[EB,h];show iY (a::ys) E=_
 rw[iY,ho];rfl
end Go.Proofs.YteihmbaimbogaaaGreat
