/- Parts. -/
import Derived.Test.YtmjomdkleikgbaaGreatK39
set_option linter.unusedVariables false
set_option linter.unusedSimpArgs false
set_option maxRecDepth 100000
set_option maxHeartbeats 20000000
namespace Go.Proofs.YtmjomdkleikgbaaGreat
open Go.RowKit
section
variable {w0 w:World} {R:List aW} {f q p:Nat} {S:VS} {nb nm:Nat}
theorem aoR {Y:List aW} (l bf be eb n:Nat) (x0:Int) (W:World) (h0:Sep w0 W (iU f q p true::(yK bf be eb f x0++Y))):
  CallsIn Fence.wide n Tryz.prog 130 #[.func (.yield l) #[] #[],pV bf,pV be] W fun e W'=>(∃v,e= .returned v)/\Sep w0 W' (iU f q p true::(yK bf be eb f 11++Y)):=by
 have h1:=h0.bN 181 #[.slice none 0 0];have h4:=h1.gZ 9 1;have hps:=Lh (TB (x:=[]) (T:=[]) (h4.perm (List.Perm.swap _ _ _)) aR);clear h0 h1 h4;unfold aC at*;refine callsIn_of_wp Tryz.func130 rfl trivial ?_ rfl;simp only[Tryz.ntmps130,uB,kH,qQ,Nat.reduceAdd,Nat.reduceSub,xD,xE,xH,xG,mI,kI]
 gi_wp2_with (refine⟨trivial,(fun h=>by cases h),?_⟩;gi_at_call 131;refine(callsIn_wide.2 hps.out).mono ?_;rintro e w1 ⟨rfl,v1,h⟩;have h5:=Lh h;clear h)
 obtain⟨bt,hbt⟩:∃bt,bt=W.heap.size:=⟨_,rfl⟩;rw[<-hbt]at h5 ⊢;clear hps hbt
 gi_loopg [] 1 (fun gg wr=>gg=1/\Hid (Sep w0 wr (.box bt 181 #[v1]::kW v1 ([]++[[]])::(iU f q p true::(yK bf be eb f x0++Y)))))
 case atStart=>exact⟨rfl,h5⟩
 obtain⟨hg,hS⟩:=hrel;have hpn:=Lh (alA (x:=[]) (T:=[]) hS.out aR);clear hS h5;unfold aC at*
 gi_wp2_with (refine⟨trivial,(fun h=>by cases h),?_⟩;gi_at_call 132;refine(callsIn_wide.2 hpn.out).mono ?_;rintro e w2 ⟨rfl,tv2,h⟩;have h8:=Lh h;clear h)
 clear hpn;have hS2:Sep w0 w2.drew (iU f q p true:: .box bt 181 #[tv2]::kW tv2 []:: .box bf 37 #[pV f]:: .box be 96 #[pV eb]::aJ eb x0::Y):=h8.out.drew.perm (atZ _ _ _ _);have hE:w2.drew.cell? ⟨be,0,none⟩=some (pV eb)/\w2.drew.cell? ⟨bf,0,none⟩=some (pV f):=⟨hS2.bC 4 rfl 0,hS2.bC 3 rfl 0⟩;have hl:=Lh (aaB (v:=.string ⟨#[]⟩) Q5 hS2);clear hS2 h8;refine xB (S:=fun w'=>w'.cell? ⟨be,0,none⟩=some (pV eb)/\w'.cell? ⟨bf,0,none⟩=some (pV f)) 9 fE ?_;simp only[uB,kH,qQ,Nat.reduceAdd];refine aA 0 hE ?_;refine aA 1 hE ?_;refine aA 2 hE ?_;refine bI 3 fun K hK=>?_
 go_simp;go_at_call 40;refine hl.out.mono ?_;rintro e w3 ⟨rfl,dQ⟩;have E9:w3.cell? ⟨be,0,none⟩=some (pV eb)/\w3.cell? ⟨bf,0,none⟩=some (pV f):=⟨dQ.bC 4 rfl 0,dQ.bC 3 rfl 0⟩;have c32:w3.cell? ⟨eb,0,none⟩=some (iV x0):=dQ.bC 5 rfl 0;have c33:w3.frozen? ⟨eb,0,none⟩=false:=dQ.bF 5 rfl 0;have jT:=dQ.bS 5 rfl 0 (.int .i64 11);have ZG:Hid (Sep w0 (w3.setCell ⟨eb,0,none⟩ (.int .i64 11)) (iU f q p true:: .box bt 181 #[tv2]::kW tv2 []:: .box bf 37 #[pV f]:: .box be 96 #[pV eb]::aJ eb 11::Y)):=Lh jT;clear dQ jT hl hE;refine hK _ _ (fun _=>E9) ?_;clear hK K;try simp only[Act.put,gD]
 refine bA 4 (fun _=>E9) ?_;refine aA 5 E9 ?_;refine aA 6 E9 ?_;refine bA 7 (fun _=>E9) ?_;refine bA 8 (fun _=>E9) ?_;refine bA 9 (fun h=>absurd rfl h) ?_;refine aQ fE ?_ _;obtain⟨w4,hw4⟩:∃w4,w4=w3.setCell ⟨eb,0,none⟩ (.int .i64 11):=⟨_,rfl⟩;rw[<-hw4]at ZG ⊢;have e1:w4.cell? ⟨be,0,none⟩=some (pV eb):=ZG.out.bC 4 rfl 0;have e2:w4.cell? ⟨eb,0,none⟩=some (iV 11):=ZG.out.bC 5 rfl 0;clear hw4 c32 c33 E9
 gi_wp2
 exact bodyPost_ret (results_none rfl _ _ _) rfl ⟨⟨_,rfl⟩,(ZG.out.perm (aiU _ _ _ _)).drop 2⟩
def ai0 (w0:World) (Rg:List aW) (pre:List TN) (Y:List aW) (W:World):Prop:=pre=[]/\Sep w0 W (Y++Rg)
theorem afU {Rg:List aW}:Shared (ai0 w0 Rg):=by rintro pre Y W ⟨rfl,h⟩;exact⟨w0,Rg,h,fun Y' W' h=>⟨rfl,h⟩⟩
theorem YN (G:aW) (X Z Rr:List aW):((X++Z)++(G::Rr)).Perm (G::(X++(Z++Rr))):=by rw[pG];refine List.Perm.trans (abM X lD) ?_;exact lD
theorem Z18 {P:Prop} (h:P:=by
 haveI:DecidableEq aW:=fun a b=>Classical.propDecidable (a=b)
 rw[J3];intro y;simp only[OM,OL,OZ,kI,mI];omega):P:=h
theorem ax0 (bf be bm gm eb bt br bs b1 G:aW) (R:List aW):(bf::be::bm::gm::eb::bt::br::bs::b1::G::R).Perm ([bf,be,eb]++(G::bm::gm::bt::br::bs::b1::R)):=by exact Z18
theorem ax1 (D bf be eb G bm gm bt br bs b1:aW) (Y R:List aW):((D::([bf,be,eb]++Y))++(G::bm::gm::bt::br::bs::b1::R)).Perm (eb::bf::bs::br::D::G::be::bm::gm::bt::b1::(Y++R)):=by exact Z18
theorem ax2 (eb bs br D G bf be bm gm bt b1:aW) (Y R:List aW):(eb::bf::bs::br::D::G::be::bm::gm::bt::b1::(Y++R)).Perm ((eb::bs::br::D::bf::be::bm::gm::bt::b1::Y)++(G::R)):=by exact Z18
theorem aoS (h:Sep w0 w (iU f q p true::R)):
  Calls Tryz.prog 19 #[pV f] w fun e w'=>e= .returned (.tuple #[.agg #[.slice none 0 0,.slice none 0 0],iV 11])/\Sep w0 w' (iU f q p true::R):=by
 have hmm:= @run_makeMap Tryz.prog;have k1:=((((h.bN 37 #[pV f]).bN 25 #[.slice none 0 0,.slice none 0 0]).bN 40 #[iV 0]).bN 25 #[.slice none 0 0,.slice none 0 0]).bN 40 #[iV 0];have k2:=k1.BX 3;have k3:=k2.bN 100 #[.map (some (w.heap.size+1+1+1+1+1))];simp only[World.size_alloc]at k3;have hS0:=Lh k3;have hal:=Lh (alI (f:=f) (eb:=w.heap.size+1+1+1+1) k3);clear k1 k2 k3 h;refine(callsIn_wide (n:=9)).1 ?_;refine callsIn_of_wp_marks Tryz.func19 rfl trivial ?_ rfl;simp only[Tryz.ntmps19,uB,kH,qQ,Nat.reduceAdd,Nat.reduceSub,xD,xE,xH,xG,mI,kI];rw[wpIn_wide];go_wp2_with(go_at_call 65;refine hal.out.mono ?_;rintro e w1 ⟨bf,be,rfl,h1⟩;have h2:=Lh h1;clear h1);clear hS0 hal;obtain⟨bm,hbm⟩:∃x,x=w.heap.size+1+1+1+1+1+1:=⟨_,rfl⟩;rw[<-hbm]at h2 ⊢;obtain⟨bk,hbk⟩:∃x,x=w.heap.size+1+1+1+1+1:=⟨_,rfl⟩;rw[<-hbk]at h2 ⊢;obtain⟨eb,heb⟩:∃x,x=w.heap.size+1+1+1+1:=⟨_,rfl⟩;rw[<-heb]at h2 ⊢;obtain⟨bt,hbt⟩:∃x,x=w.heap.size+1+1+1:=⟨_,rfl⟩;rw[<-hbt]at h2 ⊢;obtain⟨TP,afQ⟩:∃x,x=w.heap.size+1+1:=⟨_,rfl⟩;rw[<-afQ]at h2 ⊢;obtain⟨vO,afR⟩:∃x,x=w.heap.size+1:=⟨_,rfl⟩;rw[<-afR]at h2 ⊢;obtain⟨b1,hb1⟩:∃x,x=w.heap.size:=⟨_,rfl⟩;rw[<-hb1]at h2 ⊢;clear hbm hbk heb hbt afQ afR hb1;obtain⟨R3,hR3⟩:∃R3,R3= .box bm 100 #[.map (some bk)]::lJ 3 bk []:: .box bt 25 #[.slice none 0 0,.slice none 0 0]:: .box TP 40 #[iV 0]:: .box vO 25 #[.slice none 0 0,.slice none 0 0]:: .box b1 37 #[pV f]::R:=⟨_,rfl⟩;have hst:Hid (ai0 w0 (iU f q p true::R3) [] (yK bf be eb f 0) w1):=Lh ⟨rfl,by rw[hR3];exact h2.out.perm (ax0 _ _ _ _ _ _ _ _ _ _ _)⟩;clear h2;refine wpIn_wide.1 (oP (F:=Fence.wide) (n:=9) rfl aR (gf:=130) (lb:=#[pV bf,pV be]) rfl trivial (enters_of Tryz.func130 fE rfl)
  (encs:=fun x:TN=>#[aC x.path,aC x.path]) (fun _=>rfl) (ai0 w0 (iU f q p true::R3)) afU (yK bf be eb f 0) hst.out (fun _ _=>False) (fun xs Y1=>xs=[]/\Y1=yK bf be eb f 11)
  ?seq (fun _ _ _ _ _=>False) (fun _ _ _ _ _ h=>h.elim) ?assign ?body ?done)
 case seq=>intro l Z W hY h0;refine(aoR (w0:=w0) (f:=f) (q:=q) (p:=p) (Y:=Z++R3) l bf be eb (9-1) 0 W (h0.2.perm (YN _ _ _ _))).mono ?_;rintro e W' ⟨h1,h3⟩;exact⟨h1,[],_,⟨rfl,rfl⟩,rfl,h3.perm (YN _ _ _ _).symm⟩
 case assign=>exact fun l pre x Y W K hx=>hx.elim
 case body=>exact fun l pre x a1 Y W hx=>hx.elim
 rintro D xs Y1 Y2 W ⟨rfl,rfl⟩ ⟨_,hS⟩;rw[hR3]at hS;have h4:=hS.perm (ax1 _ _ _ _ _ _ _ _ _ _ _ _ _);have f0:W.cell? ⟨eb,0,none⟩=some (iV 11):=h4.bC 0 rfl 0;have h5:=h4;have e0:W.cell? ⟨eb,0,none⟩=some (iV 11):=h5.bC 0 rfl 0;have q0:W.cell? ⟨vO,0,none⟩=some (.slice none 0 0):=h5.bC 2 rfl 0;have q1:W.cell? ⟨vO,1,none⟩=some (.slice none 0 0):=h5.bC 2 rfl 1;have r0:W.frozen? ⟨vO,0,none⟩=false:=h5.bF 2 rfl 0;have r1:W.frozen? ⟨vO,1,none⟩=false:=h5.bF 2 rfl 1;have h7:=h5.bS 2 rfl 0 (.slice none 0 0);have h6:=h7.bS 2 rfl 1 (.slice none 0 0);have q2:(W.setCell ⟨vO,0,none⟩ (.slice none 0 0)).cell? ⟨TP,0,none⟩=some (iV 0):=h7.bC 3 rfl 0;have r2:W.frozen? ⟨TP,0,none⟩=false:=h5.bF 3 rfl 0;have e1:((W.setCell ⟨vO,0,none⟩ (.slice none 0 0)).setCell ⟨vO,1,none⟩ (.slice none 0 0)).drew.cell? ⟨eb,0,none⟩=some (iV 11):=h6.drew.bC 0 rfl 0;have vY:=Lh (h6.bS 3 rfl 0 (.int .i64 11)).drew;have e2:(((W.setCell ⟨vO,0,none⟩ (.slice none 0 0)).setCell ⟨vO,1,none⟩ (.slice none 0 0)).setCell ⟨TP,0,none⟩ (.int .i64 11)).drew.cell? ⟨eb,0,none⟩=some (iV 11):=vY.out.bC 0 rfl 0;have e0d:W.drew.cell? ⟨eb,0,none⟩=some (iV 11):=h4.drew.bC 0 rfl 0;clear hS h4 h5 h6 h7 hst;go_wp2_with fail;refine lT ?_;refine aP (S:=fun w'=>w'.cell? ⟨eb,0,none⟩=some (iV 11)) 4 ?_;refine aA 0 e0d ?_;refine aA 1 e0d ?_;refine bA 2 (fun _=>e1) ?_;refine bA 3 (fun _=>e2) ?_;refine aQ fE ?_ _;simp only[pX,Exit.then];go_wp2_with fail;refine⟨by simp,.inl ⟨_,_,rfl,run_takeDeferred (vY.out.XE 4 rfl),?_⟩⟩;have zX:=vY.out.putObj 4 (.deferred none) rfl;refine⟨.tuple #[.agg #[.slice none 0 0,.slice none 0 0],iV 11],?_,rfl,(zX.perm (ax2 _ _ _ _ _ _ _ _ _ _ _ _ _)).snd⟩;have g0:=zX.bC 2 rfl 0;have g1:=zX.bC 2 rfl 1;have g2:=zX.bC 3 rfl 0;simp at g0 g1 g2;simp[results,Tryz.f19,go_sem,g0,g1,g2]
theorem auL {nv fv:Value} {ns:List TN} {F:List TF} {vs:List Value} (hm:zB ns F) (hlo:iI ns F=0) (hT:∀W X,Sep w0 W (X++R)->gW W nv fv ns F vs) (h:Sep w0 w (iU f q p true::R)):
  Calls Tryz.prog 15 #[pV f,.agg #[nv,fv]] w fun e w'=>e= .returned (iV 11)/\Sep w0 w' (iU f q p true::R):=by
 obtain⟨A1,c1,rfl,_⟩:=(hT w [_] h).nodes.shape;obtain⟨A2,c2,rfl,_⟩:=(hT w [_] h).files.shape;have h0:Sep w0 _ (.box w.heap.size 25 #[.slice A1 ns.length c1,.slice A2 F.length c2]::iU f q p true::R):=h.bN 25 #[.slice A1 ns.length c1,.slice A2 F.length c2];have zF:=Lh (uM (hT _ [_,_] h0) hm);rw[hlo]at zF;have z0:=h0.bC 0 rfl 0;have z1:=h0.bC 0 rfl 1;simp only[gA,gB,gC]at z0 z1;have hS0:=Lh h0;clear h h0 hT;go_enter Tryz.func15,Tryz.ntmps15;go_wp2_with(first |(go_at_call 39;refine zF.out.mono ?_;rintro e w1 ⟨rfl,hb⟩;(have hS1:=Lh ((hS0.out.pure hb).perm (List.Perm.swap _ _ _)));clear hb hS0 zF;(have hls:=Lh (aaB (v:=.string ⟨#[]⟩) Q5 hS1.out)))|(go_at_call 40;refine hls.out.mono ?_;rintro e w2 ⟨rfl,hS2⟩;(have dQ:=Lh ((hS2.perm (List.Perm.swap _ _ _)).drop 1));clear hS2 hls hS1));go_ret;exact⟨rfl,dQ.out⟩
end
theorem ai1 (A B C:List aW):(A++(B++C)).Perm (B++(A++C)):=by
 haveI:DecidableEq aW:=fun a b=>Classical.propDecidable (a=b)
 rw[J3];intro a;simp only[OL];omega
section
variable {w0 w:World} {R:List aW} {f q p:Nat} {S:VS} {ns:List TN} {fs:List FT} {nb names:Nat}
theorem ai2 {T:TR} (hS:XV T ns fs) (hl:∀n∈ns,n.path.length<=200) (l7:ns.length<=256) (hm2:mK T.1 T.2) (hlo:iI T.1 T.2=0) (V:List TN) (hp:V.Perm ns):YI (fJ V) (fU V fs) T.1 T.2:=by
 intro w0 w R nv fv vs hlen h;have hT:gW w nv fv (fJ V) (fU V fs) vs:=JO (X:=[]) hlen h;have auD:=as1 hS hp;have h1:LB (fJ V)=T.1:=congrArg Prod.fst auD;have h2:LC (fJ V) (fU V fs)=T.2:=congrArg Prod.snd auD;have hsl:(fJ V).length=ns.length:=by rw[TQ];exact hp.length_eq
 have hfl:(fU V fs).length<=ns.length:=by unfold fU;rw[iJ];have:=SN V;have:=hp.length_eq;omega
 have hsz:∀x∈fU V fs,x.size<=8192:=fun x hx=>by obtain⟨id,hid,rfl⟩:=List.mem_map.1 hx;obtain⟨n,hn,e,hf⟩:=zD _ id hid;rw[<-e];exact(hS.good.file n (hp.mem_iff.1 hn) hf).2.1
 have aGP:∀x∈fJ V,∃n∈ns,x.path=n.path/\x=lM (fD V) n:=fun x hx=>by obtain⟨n,hn,rfl⟩:=List.mem_map.1 hx;exact⟨n,hp.mem_iff.1 hn,GG _ _,rfl⟩
 have hm:mK (fJ V) (fU V fs):=⟨by omega,by omega,fun x hx=>by obtain⟨n,hn,e,_⟩:=aGP x hx;rw[e];have:=hl n hn;omega,fun x hx=>by have:=hsz x hx;omega⟩;have hbo:lY (fJ V) (fU V fs)=false:=by unfold lY;rw[Y5,Y5,agL,agL,aj5];refine⟨⟨by omega,by omega⟩,fun x hx=>?_⟩;have:=hsz x hx;unfold K9;rw[jN];omega
 have hne:(fJ V).Pairwise fun a b=>a.path≠b.path:=by unfold fJ;rw[GY];(refine(hp.symm.pairwise hS.good.good.ne fun {a b} h e=>h e.symm).imp fun {a b} h e=>h ?_);rw[GG,GG]at e;exact e
 have hfr:∀x∈fJ V,x.file= -1\/(0<=x.file/\x.file<((fU V fs).length:Int)):=fun x hx=>by
  obtain⟨n,hn,rfl⟩:=List.mem_map.1 hx;have hn2:=hp.mem_iff.1 hn;by_cases hf:n.file<0
  ·left;unfold lM;rw[if_pos hf];rcases hS.good.good.file n hn2 with⟨e,_⟩|⟨e,_⟩
   ·exact e
   omega
  right;have hmem:=nE _ n hn hf;have hidx:=List.idxOf_lt_length_iff.2 hmem;unfold lM fU;rw[if_neg hf,iJ];(show(0:Int)<=(((fD V).idxOf n.file:Nat):Int)/\(((fD V).idxOf n.file:Nat):Int)<_);omega
 refine(afH hT hm hbo aD hne hfr (by rw[h1,h2];exact hm2) (by rw[h1,h2];exact hlo)).mono ?_;rintro e w' ⟨nv',fv',vs',rfl,h3,h4⟩;rw[h1,h2]at h4;rw[h2]at h3;refine⟨nv',fv',vs',rfl,h3,?_⟩;have h5:=h.join h4;have h6:Sep w0 w' (l9 nv fv (fJ V) (fU V fs) vs++(l9 nv' fv' T.1 T.2 vs'++R)):=h5.perm (ai1 _ _ _);exact h6.snd
theorem afV {T:TR} (hS:XV T ns fs) (hL:jC S ns fs nb names) (hl:∀n∈ns,n.path.length<=200) (l7:ns.length<=256) (hm2:mK T.1 T.2) (hlo:iI T.1 T.2=0) (h:Sep w0 w (bB f q p S::R)):
  Calls Tryz.prog 19 #[pV f] w fun e w'=>∃nv fv vs S',e= .returned (.tuple #[.agg #[nv,fv],iV 0])/\vs.length=T.2.length/\S'.base=S.base/\jC S' ns fs nb names/\Sep w0 w' (l9 nv fv T.1 T.2 vs++(bB f q p S'::R)):=by
 obtain⟨g,dn,φ,hV⟩:=hL.iP.vt;exact auC (ai2 hS hl l7 hm2 hlo) hL hV hS.good.good hl aD h
end
def OE :List TN:=[⟨[97], -1,493⟩,⟨[97,47,120],0,0⟩,⟨[98],0,0⟩]
def VJ :List TF:=[⟨420,[104,105]⟩]
section
variable {w0 w:World} {R:List aW}
theorem Sep.aGQ (h:Sep w0 w R) (e:TypeId) (sz n:Nat) (cs:Array Value) (hs:cs.size=n*sz) (hm:n<=maxLen):Sep w0 (w.alloc (.cells cs e)) (.sl e sz (sV w.heap.size n n) n cs.toList::R):=by have hown:=World.ownsRow_lit (base:=0) (e:=e) (size:=sz) w cs n (fZ _) hm hs;exact Z34
theorem ax3 (o1 o2:Obj) (C:Array Value) (n c:Nat) (w:World):(convert 69 69 (sV (w.heap.size+1+1) n c)).run Tryz.prog (((w.alloc o1).alloc o2).alloc (.cells C 5))= .ok (sV (w.heap.size+1+1) n c) (((w.alloc o1).alloc o2).alloc (.cells C 5 (C.size,C.size+1))):=
 Joins.run_convert_bytes_const_at _ _ _ C n c _ (by simp[World.size_alloc]) Tryz.underlying69 Tryz.underlying5
def smX (g:Nat):List aW:=[.sl 71 2 (sV (g+2) 1 1) 1 (iF VJ [sV (g+1) 2 2]),.obj (g+1) (.cells ([104,105].map kY).toArray 5 (2,3)),.sl 68 3 (sV g 3 3) 3 (cZ OE)]
theorem sm_at {g:Nat} {W:World} {Y:List aW} (h:Sep w0 W (Y++(smX g++R))):gW W (sV g 3 3) (sV (g+2) 1 1) OE VJ [sV (g+1) 2 2]:=by
 have at_:∀k A,(smX g)[k]? =some A->(Y++(smX g++R))[Y.length+k]? =some A:=fun k A hk=>by exact Z40
 refine⟨rfl,h.rd _ (at_ 2 _ rfl),h.rd _ (at_ 0 _ rfl),fun k u f hu hf=>?_⟩;have hk:=(gF.1 hf).1;have hk0:k=0:=Nat.lt_one_iff.1 hk;subst hk0;cases hu;cases hf;have ht:jI w0 (.obj (g+1) (.cells (([104,105]:List UInt8).map kY).toArray 5 (2,3))::(.sl 68 3 (sV g 3 3) 3 (cZ OE)::R)) (sV (g+1) 2 2) [104,105]:=aeV aR;have hb:BytesAt W (sV (g+1) 2 2) [104,105]:=ht W (Y++[.sl 71 2 (sV (g+2) 1 1) 1 (iF VJ [sV (g+1) 2 2])]) (by rw[pG];exact h);exact⟨_,hb,fun y hy=>(by obtain⟨x,_,rfl⟩:=List.mem_map.1 hy;rfl),rfl⟩
theorem ax4 (a b c x:aW) (Y:List aW):(a::b::c::x::Y).Perm (x::a::b::c::Y):=by exact Z46
theorem ai3 (h:Sep w0 w R):Calls Tryz.prog 30 #[] w fun e w'=>∃g,e= .returned (.agg #[sV g 3 3,sV (g+2) 1 1])/\Sep w0 w' (smX g++R):=by have hcv:=ax3;go_enter Tryz.func30,Tryz.ntmps30;go_wp2_with fail;have h1:=h.bN 25 #[sV (w.heap.size+1) 3 3,sV (w.heap.size+1+1+1) 1 1];have y0:=h1.bC 0 rfl 0;have h2:=h1.aGQ 68 3 3 (cZ OE).toArray rfl aR;have h3:=h2.alB (.cells (([104,105]:List UInt8).map kY).toArray 5 (2,3));have h4:=h3.aGQ 71 2 1 (iF VJ [sV (w.heap.size+1+1) 2 2]).toArray rfl aR;simp only[World.size_alloc]at h2 h3 h4;have h5:=((h4.perm (ax4 _ _ _ _ _)).drop 1);refine bodyPost_ret (v:=.agg #[sV (w.heap.size+1) 3 3,sV (w.heap.size+1+1+1) 1 1]) ?_ rfl ⟨w.heap.size+1,rfl,h5⟩;simp[results,Tryz.f30,go_sem]
end
end Go.Proofs.YtmjomdkleikgbaaGreat
namespace Go.Proofs.YtmjomdkleikgbaaGreat
open Go.RowKit Go.Shelf
theorem aoT {w0 w:World} {R:List aW} {nv fv:Value} (h:Sep w0 w R):
  Calls Tryz.prog 110 #[.agg #[nv,fv]] w fun e w'=>∃bb,e= .returned (.func (.func 175) #[] #[pV bb])/\Sep w0 w' (.box bb 25 #[nv,fv]::R):=by
 have h2:=Lh (h.bN 25 #[nv,fv]);have hmk:∀(fn:Fn) (first cap:Array Value) (w:World),(Instr.makeFunc fn first cap).run Tryz.prog w= .ok (.func fn first cap) w:=fun _ _ _ _=>rfl
 clear h;go_enter Tryz.func110,Tryz.ntmps110;go_wp2_with fail;go_ret;exact⟨_,rfl,h2.out⟩
def afW (x:TN):Value:=.agg #[aC x.path,iV x.file,iV x.mode]
theorem Shared.pure {σ:Type} {St:σ->List aW->World->Prop} (hS:Shared St) {s:σ} {Y:List aW} {W W':World} (h:St s Y W) (hb:RowKit.Below W.heap.size W W'):St s Y W':=by obtain⟨w0,R,h1,h2⟩:=hS _ _ _ h;exact h2 _ _ (h1.pure hb)
theorem ai4 {St:List TN->List aW->World->Prop} (hsh:Shared St) {nv fv:Value} {ns:List TN} {F:List TF} {vs:List Value} (hTr:∀pre Y W,St pre Y W->gW W nv fv ns F vs) (hm:mK ns F) (hlo:iI ns F=0)
  (l bb n:Nat) (Z:List aW) (W:World)
  (hY:∀pre x Y W1,pre=ns.take pre.length->ns[pre.length]? =some x->St pre (Y++Z) W1->YieldAt Fence.wide (n-1) Tryz.prog l #[afW x] W1 fun e W'=>e= .returned (.bool true)/\St (pre++[x]) (Y++Z) W')
  (h0:St [] (.box bb 25 #[nv,fv]::Z) W):
  CallsIn Fence.wide n Tryz.prog 175 #[.func (.yield l) #[] #[],pV bb] W fun e W'=>(∃v,e= .returned v)/\St ns (.box bb 25 #[nv,fv]::Z) W':=by
 have hT0:=hTr _ _ _ h0;obtain⟨A1,c1,rfl,_⟩:=hT0.nodes.shape;obtain⟨A2,c2,rfl,_⟩:=hT0.files.shape;have zF:=Lh (uM hT0 hm.mm);rw[hlo]at zF;obtain⟨w9,R9,h6,h7⟩:=hsh _ _ _ h0;have t0:=h6.bC 0 rfl 0;have t1:=h6.bC 0 rfl 1;simp only[gA,gB,gC]at t0 t1;have hS0:=Lh h0;have ax5:=Lh hTr;have hY':=Lh hY;have b1:(ns.length:Int)<=300:=by have:=hm.few;omega
 clear h0 h6 h7 hT0 hTr hY;refine callsIn_of_wp Tryz.func175 rfl trivial ?_ rfl;simp only[Tryz.ntmps175,uB,kH,qQ,Nat.reduceAdd,Nat.reduceSub,xD,xE,xH,xG,mI,kI]
 gi_wp2_with (refine⟨trivial,(fun h=>by cases h),?_⟩;gi_at_call 39;refine(callsIn_wide.2 zF.out).mono ?_;rintro e w1 ⟨rfl,hb⟩;(have hS1:=Lh (hsh.pure hS0.out hb));(have t0:=hb.cell (p:=⟨bb,0,none⟩) (World.block_lt_of_cell? _ _ t0)|>.trans t0);clear hb hS0 zF)
 gi_loopw [11] (fun iv wr=>∃i:Nat,i<=ns.length/\iv=iV i/\Hid (St (ns.take i) (.box bb 25 #[.slice A1 ns.length c1,.slice A2 F.length c2]::Z) wr)) (fun iv _=>ns.length-(intOf iv).toNat)
 case atStart=>exact⟨0,fZ _,rfl,hS1⟩
 obtain⟨i,hi,rfl,hS⟩:=hrel;have q0:(0:Int)<=(i:Int):=by omega
 by_cases hlt:i<ns.length
 ·(have q1:(i:Int)<(ns.length:Int):=by omega);obtain⟨n0,he⟩:∃x,ns[i]? =some x:=⟨_,gE hlt⟩;have hT:=ax5.out _ _ _ hS.out;obtain⟨g,o,cc,e,k1,k2,_,hcell⟩:=hT.nodes.place aD aR;cases e;have x0:=(hcell _ (RowKit.Below.refl _ _) (i*3+0) aD).trans (bL he 0 aD);have x1:=(hcell _ (RowKit.Below.refl _ _) (i*3+1) aD).trans (bL he 1 aD);have x2:=(hcell _ (RowKit.Below.refl _ _) (i*3+2) aD).trans (bL he 2 aD);simp only[F8,gB,gC,<-sD,sF]at x0 x1 x2;have hS2:=hsh.new hS.out (.cells #[aC n0.path,iV n0.file,iV n0.mode] 68);(have hl:(ns.take i).length=i:=by rw[qP];omega);obtain⟨fn,tmps,assign,body,hy,hR⟩:=hY'.out (ns.take i) n0 [.obj wr.heap.size (.cells #[aC n0.path,iV n0.file,iV n0.mode] 68),.box bb 25 #[.slice (some ⟨g,o,none⟩) ns.length c1,.slice A2 F.length c2]] _ (by rw[hl]) (by rw[hl];exact he) hS2;replace hR:=Lh hR;have htk:Hid (ns.take i++[n0]=ns.take (i+1)):=Lh (by rw[pI,he];rfl);clear hS hS2 hcell hT hY' hl he ax5 t0 t1;unfold afW aC at*
  gi_wp2
  refine⟨(fun h=>by cases h),?_⟩;refine hR.out.mono ?_;rintro e W3 ⟨rfl,dQ⟩;rw[htk.out]at dQ;have jT:=Lh (hsh.drop 1 dQ);clear dQ hR hy
  gi_wp2
  go_roundw
  case rel=>exact⟨i+1,by omega,by go_num,jT⟩
  case measure=>(simp[intOf];omega)
 have q2:¬(i:Int)<(ns.length:Int):=by omega
 have hS':=hS.out;rw[pM aD]at hS';replace hS':=Lh hS';clear hS
 gi_wp2
 go_end0
 exact⟨⟨_,rfl⟩,hS'.out⟩
end Go.Proofs.YtmjomdkleikgbaaGreat
namespace Go.Proofs.YtmjomdkleikgbaaGreat
open Go.RowKit
theorem aoU {L L':List (Lit×Value)} (h:L.Perm L') (k:Lit):(nK L k).Perm (nK L' k):=by unfold nK;exact h.filter _
theorem YO {L:List (Lit×Value)} {l:List (List UInt8)} {E:List UInt8->Value} (h:L.Perm (l.map fun q=>(Lit.string q,E q))) (hu:l.Nodup) {p:List UInt8} (v:Value):
  (qL L (.string p) v).Perm (((l.filter fun q=>decide (q≠p)).map fun q=>(Lit.string q,E q))++[(.string p,v)]):=by
 unfold qL;refine((aoU h _).trans ?_).append_right _;have e:nK (l.map fun q=>(Lit.string q,E q)) (.string p)=(l.filter fun q=>decide (q≠p)).map fun q=>(Lit.string q,E q):=by
  unfold nK;rw[List.filter_map];congr 1;apply List.filter_congr;intro q hq;by_cases e:q=p
  ·subst e;have h1:=vP (show WideAt.IsKeyLit (.string q)from trivial);simp only[Function.comp];rw[h1];simp
  have h1:¬(Lit.string q).sameKey (.string p)=true:=lI (fun e2=>e (by cases e2;rfl));simp only[Function.comp];rw[Bool.eq_false_iff.2 h1];simp[e]
 rw[e]
def mO (V:List TN):List (List UInt8):=[]::(V.filter fun n=>decide (n.file= -1)).map (·.path)
def nL (V:List TN) (p:List UInt8):Nat:=(V.filter fun n=>decide (aZ n.path=p)).length
def vQ (V:List TN) (p:List UInt8):Value:=.int .i64 (nL V p:Nat)
def AB (V:List TN) (L:List (Lit×Value)):Prop:=L.Perm ((mO V).map fun q=>(Lit.string q,vQ V q))
theorem LJ (V:List TN) (x:TN) (p:List UInt8):nL (V++[x]) p=nL V p+(if aZ x.path=p then 1 else 0):=by unfold nL;rw[FN,jM];by_cases h:aZ x.path=p<;>simp[h]
theorem LK (V:List TN) (x:TN):mO (V++[x])=mO V++(if x.file= -1 then [x.path]else []):=by unfold mO;rw[FN,mZ];by_cases h:x.file= -1<;>simp[h]
section
variable {V:List TN} {L:List (Lit×Value)} {x:TN}
theorem AB.get (h:AB V L) (hK:mY L) {p:List UInt8} (hp:p∈mO V):getM L (.string p)=some (vQ V p):=
 yG hK (h.mem_iff.2 (List.mem_map.2 ⟨p,hp,rfl⟩))
theorem aoV {l:List (List UInt8)} (hu:l.Nodup) {p:List UInt8} (hp:p∈l):((l.filter fun q=>decide (q≠p))++[p]).Perm l:=by
 rw[J3];intro a;rw[OL];by_cases e:a=p
 ·subst e;(have h1:List.count a (l.filter fun q=>decide (q≠a))=0:=List.count_eq_zero.2 fun h=>by have:=(List.mem_filter.1 h).2;simp at this);(have h2:List.count a l=1:=by have h3:=List.nodup_iff_count.1 hu a;have h4:=List.count_pos_iff.2 hp;omega);rw[h1,h2];simp
 have h1:List.count a [p]=0:=List.count_eq_zero.2 (by simpa using e);rw[h1,sF,List.count_filter (by simpa using e)]
theorem AB.bump (h:AB V L) (hu:(mO V).Nodup) (hp:aZ x.path∈mO V):(qL L (.string (aZ x.path)) (.int .i64 ((nL V (aZ x.path):Int)+1))).Perm ((mO V).map fun q=>(Lit.string q,vQ (V++[x]) q)):=by
 refine(YO h hu _).trans ?_;refine List.Perm.trans ?_ ((aoV hu hp).map _);rw[mZ,M5];have e1:vQ (V++[x]) (aZ x.path)= .int .i64 ((nL V (aZ x.path):Int)+1):=by unfold vQ;rw[LJ,if_pos rfl];rfl
 have e2:((mO V).filter fun q=>decide (q≠aZ x.path)).map (fun q=>(Lit.string q,vQ V q))=((mO V).filter fun q=>decide (q≠aZ x.path)).map fun q=>(Lit.string q,vQ (V++[x]) q):=by apply uO;intro q hq;have h1:=(List.mem_filter.1 hq).2;rw[jN]at h1;unfold vQ;rw[LJ,if_neg (fun e=>h1 e.symm),sF]
 rw[e1,e2]
theorem AB.file (h:AB V L) (hu:(mO V).Nodup) (hp:aZ x.path∈mO V) (hf:x.file≠ -1):AB (V++[x]) (qL L (.string (aZ x.path)) (.int .i64 ((nL V (aZ x.path):Int)+1))):=by have h1:=h.bump hu hp;unfold AB;rw[LK,if_neg hf,yX46];exact h1
theorem AB.dir (h:AB V L) (hu:(mO V).Nodup) (hp:aZ x.path∈mO V) (hf:x.file= -1) (hn:x.path∉mO V) (hz:nL (V++[x]) x.path=0):AB (V++[x]) (qL (qL L (.string (aZ x.path)) (.int .i64 ((nL V (aZ x.path):Int)+1))) (.string x.path) (.int .i64 0)):=by
 have h1:=h.bump hu hp;refine(YO h1 hu _).trans ?_;have e1:((mO V).filter fun q=>decide (q≠x.path))=mO V:=EZ.2 fun q hq=>by rw[jN];exact fun e=>hn (e▸hq)
 have e2:vQ (V++[x]) x.path=iV 0:=by unfold vQ;rw[hz];rfl
 rw[e1,LK,if_pos hf,mZ,M5,e2]
end
theorem auM {V:List TN} (hup:∀n∈V,aZ n.path∈mO V) {p:List UInt8} (hp:p∉mO V):nL V p=0:=by unfold nL;rw[List.length_eq_zero_iff,ajU];intro n hn;rw[jN];exact fun e=>hp (e▸hup n hn)
section
variable {ns:List TN} {F:List TF}
theorem ai5 {V:List TN} (h:AA V):(mO V).Nodup:=by
 unfold mO;rw[xJ];refine⟨fun hm=>?_,?_⟩
 ·obtain⟨n,hn,e⟩:=List.mem_map.1 hm;exact nG (h.valid n (List.mem_filter.1 hn).1) e
 rw[List.Nodup,GY];exact h.ne.filter _
theorem auN {V:List TN} (h:AA V):∀n∈V,aZ n.path∈mO V:=fun n hn=>by
 rcases h.up n hn with e|⟨m,hm,e,hf⟩
 ·rw[e];exact nH ..
 rw[<-e];exact vR _ (List.mem_map.2 ⟨m,List.mem_filter.2 ⟨hm,by simpa using hf⟩,rfl⟩)
structure aGR (V:List TN) (x:TN):Prop where
 nodup:(mO V).Nodup
 up:aZ x.path∈mO V
 no:x.path∉mO V
 zero:nL (V++[x]) x.path=0
theorem aBS (ho:fF ns F) {i:Nat} {x:TN} (hx:ns[i]? =some x):aGR (ns.take i) x:=by
 have htk:ns.take (i+1)=ns.take i++[x]:=by rw[pI,hx];rfl
 have h1:=yI ho i;have h2:=yI ho (i+1);rw[htk]at h2;have hv:=h2.valid x bK;have hne:aZ x.path≠x.path:=fun e=>by have h3:=CP hv;rw[e,mH]at h3;cases h3
 have hno:x.path∉mO (ns.take i):=fun hm=>by
  unfold mO at hm;rcases kE.1 hm with e|hm
  ·exact nG hv e
  obtain⟨m,hm1,e⟩:=List.mem_map.1 hm;exact(OY.1 h2.ne).2.2 m (List.mem_filter.1 hm1).1 x bK e
 refine⟨ai5 h1,?_,hno,?_⟩
 ·have h3:=auN h2 x bK;rw[LK]at h3;rcases iM.1 h3 with h3|h3
  ·exact h3
  exfalso;split at h3
  ·exact hne (tJ.1 h3)
  cases h3
 rw[LJ,if_neg hne,auM (auN h1) hno]
end
theorem ax6 {n:Int} (hn:bW n):(FloatKind.f64.decode (fI n)).toInt .zero=some n:=by
 obtain⟨L,hL,h⟩:=zI hn;have h2:FloatKind.f64.decode (fI n)= .number (decide (n<0)) (n.natAbs*2 ^ L) (-(L:Int)):=h;rw[h2];unfold Ieee.Datum.toInt Ieee.Datum.integral;have e1:(-(L:Int)).toNat=0:=by omega
 have e2:(-(-(L:Int))).toNat=L:=by omega
 simp only[e1,e2,Nat.shiftLeft_zero];have e3:Ieee.Toward.zero.cut (decide (n<0)) (n.natAbs*2 ^ L) L=n.natAbs:=by
  have h9:n.natAbs*2 ^ L/2 ^ L=n.natAbs:=Nat.mul_div_cancel _ (J9 _);simp only[Ieee.Toward.cut,Bool.toNat_false,sF];rcases yL n.natAbs with h0|h0
  ·rw[h0,L8,Nat.zero_div]
  have h1:2 ^ L<=n.natAbs*2 ^ L:=Nat.le_mul_of_pos_left _ h0;(have h3:n.natAbs*2 ^ L≠0:=by have:=J9 L;omega);have h4:=(Nat.le_log2 h3).2 h1;rw[yN aD,Nat.one_shiftLeft,h9]
 rw[e3];unfold Ieee.signed;rw[Nat.shiftLeft_zero];by_cases h0:n<0
 ·rw[if_pos (decide_eq_true h0)];congr 1;omega
 rw[if_neg (by simpa using h0)];congr 1;omega
theorem f2i {n:Int} (hn:bW n) (w:World):(convert 84 3 (.float .f64 (fI n))).run Tryz.prog w= .ok (.int .i64 n) w:=by
 refine run_convert_float_int w 84 3 .f64 .i64 (fI n) n fE Tryz.underlying3 ?_;unfold floatToIntVal;rw[ax6 hn];have h1:IntKind.min .i64= -9223372036854775808:=by decide
 have h2:IntKind.max .i64=9223372036854775807:=by decide
 have h3:n.natAbs<9007199254740992:=by unfold bW at hn;exact hn
 show(if IntKind.min .i64<=n/\n<=IntKind.max .i64 then some n else none)=some n
 rw[h1,h2,if_pos aD]
theorem YP {n:Int} (h0:0<=n) (h1:n<=4000000) (w:World):Calls Tryz.prog 225 #[.float .f64 (fI n)] w fun e w'=>e= .returned (.bool true)/\w'=w:=by
 have hs:bW n:=by unfold bW;omega
 have c1:(14010698440749613056:Nat)=fI (-1099511627776):=by decide
 have c2:(4787326403894837248:Nat)=fI 1099511627776:=by decide
 have o1:FloatKind.f64.format.order (fI n) 14010698440749613056=some .gt:=by rw[c1];have h:FloatKind.f64.format.order (fI n) (fI (-1099511627776))=some (compare n (-1099511627776)):=BJ hs (by unfold bW;omega);rw[h,Int.compare_eq_gt.2 aD]
 have o2:FloatKind.f64.format.order (fI n) 4787326403894837248=some .lt:=by rw[c2];have h:FloatKind.f64.format.order (fI n) (fI 1099511627776)=some (compare n 1099511627776):=BJ hs (by unfold bW;omega);rw[h,Int.compare_eq_lt.2 aD]
 have o3:FloatKind.f64.format.order (fI n) (fI n)=some .eq:=by have h:FloatKind.f64.format.order (fI n) (fI n)=some (compare n n):=BJ hs hs;rw[h,Int.compare_eq_eq.2 rfl]
 have hf:=f2i hs;have e9:floatOfInt .f64 n=fI n:=rfl;clear c1 c2 hs;obtain⟨x,hx⟩:∃x,x=fI n:=⟨_,rfl⟩;rw[<-hx]at o1 o2 o3 hf e9 ⊢;clear hx h0 h1;go_enter Tryz.func225,Tryz.ntmps225;go_wp2_with fail;go_ret;exact⟨rfl,rfl⟩
def cv (x:Int×Int):Value:=iW x.1 x.2
def j6 (x:Int×Int):Prop:=(0<=x.1/\x.1<=4000000)/\(0<=x.2/\x.2<=4000000)
theorem ai6 {l:List (Int×Int)} {v:Value} {w:World} (h:Rd w 1 v l.length (l.map cv)) (hk:∀x∈l,j6 x) (hl:l.length<=2000):Calls Tryz.prog 203 #[v] w fun e w'=>e= .returned (.bool true)/\w'=w:=by
 obtain⟨A,c,rfl,_⟩:=h.shape;have h':=Lh h;have hk':=Lh hk;have b1:(l.length:Int)<=2000:=by omega
 clear h hk;go_enter Tryz.func203,Tryz.ntmps203;go_wp2_with fail;go_loop[7] (fun iv=>∃i:Nat,i<=l.length/\iv=iV i) (fun iv=>l.length-(intOf iv).toNat)
 case atStart=>exact⟨0,fZ _,rfl⟩
 obtain⟨i,hi,rfl⟩:=hrel;have c0:(0:Int)<=(i:Int):=by omega
 by_cases hlt:i<l.length
 ·(have c1:(i:Int)<(l.length:Int):=by omega);obtain⟨g,o,cc,e,k1,k2,_,hcell⟩:=h'.out.place aD aR;cases e;have hx:=hcell _ (RowKit.Below.refl _ _) i aD;rw[lC,gE hlt]at hx;simp only[UL]at hx;obtain⟨⟨p0,p1⟩,q0,q1⟩:=hk'.out _ (nW hlt);(have hw1:=fun W=>YP p0 p1 W);(have hw2:=fun W=>YP q0 q1 W);unfold cv iW at hx;obtain⟨X1,e1⟩:∃X,X=fI l[i].1:=⟨_,rfl⟩;obtain⟨X2,e2⟩:∃X,X=fI l[i].2:=⟨_,rfl⟩;rw[<-e1]at hx hw1;rw[<-e2]at hx hw2;clear e1 e2 p0 p1 q0 q1 hcell;go_wp2_with(first |(go_at_call 225;refine(hw1 _).mono ?_;rintro e w' ⟨rfl,hw'⟩;subst hw';clear hw1)|(go_at_call 225;refine(hw2 _).mono ?_;rintro e w' ⟨rfl,hw'⟩;subst hw';clear hw2))
  trace_state
  exact⟨⟨i+1,by omega,by go_num⟩,by(simp[intOf];omega)⟩
 have c2:¬(i:Int)<(l.length:Int):=by omega
 go_wp2_with fail;go_ret;exact⟨rfl,rfl⟩
theorem ai7 (x:Value) (w:World) (t:TypeId) (h1:x.oneCell'=true):Rd (w.alloc (.cells #[x] t)) 1 (sV w.heap.size 1 1) 1 [x]:=⟨rfl,_,_,rfl,iC _,by unfold maxLen;omega,fun _=>⟨_,rfl,by rw[World.size_alloc];exact J5 _,jP w #[x] t _ rfl⟩⟩
theorem ai8 {x:Int×Int} (hx:j6 x) (w:World):Calls Tryz.prog 203 #[sV w.heap.size 1 1] (w.alloc (.cells #[cv x] 53)) fun e w'=>e= .returned (.bool true)/\w'=w.alloc (.cells #[cv x] 53):=
 ai6 (l:=[x]) (ai7 (cv x) w 53 rfl) (fun y hy=>by rw[tJ]at hy;rw[hy];exact hx) bK
theorem afX {x:Int×Int} (hx:j6 x) (w:World):Calls Tryz.prog 178 #[cv x] w fun e w'=>e= .returned (.tuple #[cv x,iV 0])/\RowKit.Below w.heap.size w w':=by
 have hi:=Lh (ai8 hx w);have hb:=Lh ((RowKit.Below.refl w.heap.size w).alloc (iC _) (.cells #[cv x] 53));obtain⟨b,i⟩:=x;have a1:floatBits .add .f64 (fI b) 0=some (fI b):=by have h:=LM (a:=b) (b:=0) (by have:=hx.1;unfold bW;omega) (by unfold bW;omega) (by have:=hx.1;unfold bW;omega);rw[EA,Int.add_zero]at h;exact h
 have a2:floatBits .add .f64 (fI i) 0=some (fI i):=by have h:=LM (a:=i) (b:=0) (by have:=hx.2;unfold bW;omega) (by unfold bW;omega) (by have:=hx.2;unfold bW;omega);rw[EA,Int.add_zero]at h;exact h
 unfold cv iW at*;simp only at hi hb ⊢;obtain⟨X1,e1⟩:∃X,X=fI b:=⟨_,rfl⟩;obtain⟨X2,e2⟩:∃X,X=fI i:=⟨_,rfl⟩;rw[<-e1]at a1 hi hb ⊢;rw[<-e2]at a2 hi hb ⊢;clear e1 e2 hx;have r1:=fun W=>run_float_arith (P:=Tryz.prog) W .add 84 .f64 _ _ _ a1
 have r2:=fun W=>run_float_arith (P:=Tryz.prog) W .add 84 .f64 _ _ _ a2
 go_enter Tryz.func178,Tryz.ntmps178;go_wp2_with(go_at_call 203;refine hi.out.mono ?_;rintro e w' ⟨rfl,hw'⟩;subst hw';clear hi);exact bodyPost_ret (v:=.tuple #[.complex .f64 X1 X2,iV 0]) (by simp[results,Tryz.f178,go_sem]) rfl ⟨rfl,hb.out⟩
theorem aBT {a b:Int} (ha:bW a) (hb:bW b) (ts:Array TypeId) (t:TypeId) (w:World):(Builtin.max_ ts t #[.float .f64 (fI a),.float .f64 (fI b)]).run Tryz.prog w= .ok (.float .f64 (fI (max a b))) w:=by
 have h:FloatKind.f64.format.order (fI a) (fI b)=some (compare a b):=BJ ha hb;rcases Int.lt_trichotomy a b with h2|h2|h2
 ·rw[Int.compare_eq_lt.2 h2]at h;rw[Int.max_eq_right aD];simp[Builtin.max_,Builtin.max2,h]
 ·subst h2;rw[Int.compare_eq_eq.2 rfl]at h;rw[Int.max_self];simp[Builtin.max_,Builtin.max2,h]
 rw[Int.compare_eq_gt.2 h2]at h;rw[Int.max_eq_left aD];simp[Builtin.max_,Builtin.max2,h]
theorem YQ {a b:Int} (ha:bW a) (hb:bW b) (w:World):Calls Tryz.prog 227 #[.float .f64 (fI a),.float .f64 (fI b)] w fun e w'=>e= .returned (.float .f64 (fI (max a b)))/\w'=w:=by
 have hm:=fun ts t W=>aBT ha hb ts t W
 obtain⟨X1,e1⟩:∃X,X=fI a:=⟨_,rfl⟩;obtain⟨X2,e2⟩:∃X,X=fI b:=⟨_,rfl⟩;obtain⟨X3,e3⟩:∃X,X=fI (max a b):=⟨_,rfl⟩;rw[<-e1,<-e2,<-e3];simp only[<-e1,<-e2,<-e3]at hm;clear e1 e2 e3 ha hb;go_enter Tryz.func227,Tryz.ntmps227;go_wp2_with fail;go_ret;exact⟨rfl,rfl⟩
theorem aBU (x y:Value) (w:World) (t:TypeId) (h1:x.oneCell'=true) (h2:y.oneCell'=true):Rd (w.alloc (.cells #[x,y] t)) 1 (sV w.heap.size 2 2) 2 [x,y]:=⟨rfl,_,_,rfl,iC _,by unfold maxLen;omega,fun _=>⟨_,rfl,by rw[World.size_alloc];exact J5 _,jP w #[x,y] t _ rfl⟩⟩
def auO (x y:Int×Int):Int×Int:=(max x.1 y.1,max x.2 y.2)
theorem alJ {x y:Int×Int} (hx:j6 x) (hy:j6 y):j6 (auO x y):=by obtain⟨⟨_,_⟩,_,_⟩:=hx;obtain⟨⟨_,_⟩,_,_⟩:=hy;unfold j6 auO;simp only;omega
theorem auP {x y:Int×Int} (hx:j6 x) (hy:j6 y) (w:World):Calls Tryz.prog 204 #[cv x,cv y] w fun e w'=>e= .returned (.tuple #[cv (auO x y),iV 0])/\RowKit.Below w.heap.size w w':=by
 have hi:Hid (Calls Tryz.prog 203 #[sV w.heap.size 2 2] (w.alloc (.cells #[cv x,cv y] 53)) fun e w'=>e= .returned (.bool true)/\w'=w.alloc (.cells #[cv x,cv y] 53)):=Lh (ai6 (l:=[x,y]) (aBU (cv x) (cv y) w 53 rfl rfl) (fun z hz=>by
  simp only[kE,EK,or_false]at hz;rcases hz with rfl|rfl
  ·exact hx
  exact hy) bK)
 have hb:Hid (RowKit.Below w.heap.size w (w.alloc (.cells #[cv x,cv y] 53))):=Lh ((RowKit.Below.refl w.heap.size w).alloc (iC _) (.cells #[cv x,cv y] 53));have ht:=Lh (afX (alJ hx hy) (w.alloc (.cells #[cv x,cv y] 53)));have m1:=fun W=>YQ (a:=x.1) (b:=y.1) (by have:=hx.1;unfold bW;omega) (by have:=hy.1;unfold bW;omega) W
 have m2:=fun W=>YQ (a:=x.2) (b:=y.2) (by have:=hx.2;unfold bW;omega) (by have:=hy.2;unfold bW;omega) W
 clear hx hy;unfold cv iW auO at*;simp only at ht m1 m2 ⊢;obtain⟨X1,e1⟩:∃X,X=fI x.1:=⟨_,rfl⟩;obtain⟨X2,e2⟩:∃X,X=fI x.2:=⟨_,rfl⟩;obtain⟨X3,e3⟩:∃X,X=fI y.1:=⟨_,rfl⟩;obtain⟨X4,e4⟩:∃X,X=fI y.2:=⟨_,rfl⟩;obtain⟨X5,e5⟩:∃X,X=fI (max x.1 y.1):=⟨_,rfl⟩;obtain⟨X6,e6⟩:∃X,X=fI (max x.2 y.2):=⟨_,rfl⟩;simp only[<-e1,<-e2,<-e3,<-e4,<-e5,<-e6]at hi hb ht m1 m2 ⊢;clear e1 e2 e3 e4 e5 e6;have hea:Hid (Calls Tryz.prog 226 #[.complex .f64 X1 X2,.complex .f64 X3 X4,.func (.func 227) #[] #[]] w fun e w'=>e= .returned (.tuple #[.complex .f64 X5 X6,iV 0])/\RowKit.Below w.heap.size w w'):=Lh (by go_enter Tryz.func226,Tryz.ntmps226;go_wp2_with(first |(go_at_call 203;refine hi.out.mono ?_;rintro e w' ⟨rfl,hw'⟩;subst hw';clear hi)|(go_at_call 227;refine(m1 _).mono ?_;rintro e w' ⟨rfl,hw'⟩;subst hw';clear m1)|(go_at_call 227;refine(m2 _).mono ?_;rintro e w' ⟨rfl,hw'⟩;subst hw';clear m2)|(go_at_call 178;refine ht.out.mono ?_;rintro e w' ⟨rfl,hb2⟩;(have hb3:=Lh hb2);clear ht hb2));exact bodyPost_ret (v:=.tuple #[.complex .f64 X5 X6,iV 0]) (by simp[results,Tryz.f226,go_sem]) rfl ⟨rfl,hb.out.trans (hb3.out.mono (by rw[World.size_alloc];exact Nat.le_succ _))⟩);clear hi hb ht m1 m2;go_enter Tryz.func204,Tryz.ntmps204;go_wp2_with(go_at_call 226;refine hea.out.mono ?_;rintro e w' ⟨rfl,hb⟩;(replace hb:=Lh hb);clear hea);exact bodyPost_ret (v:=.tuple #[.complex .f64 X5 X6,iV 0]) (by simp[results,Tryz.f204,go_sem]) rfl ⟨rfl,hb.out⟩
def VK (x y:Int×Int):Int×Int:=(x.1+y.1,x.2+y.2)
theorem aBV {x y:Int×Int} (hx:j6 x) (hy:j6 y) (hs:j6 (VK x y)) (W:World):(binOp .add 53 (cv x) (cv y)).run Tryz.prog W= .ok (cv (VK x y)) W:=by have a1:=LM (a:=x.1) (b:=y.1) (by have:=hx.1;unfold bW;omega) (by have:=hy.1;unfold bW;omega) (by have:=hs.1;unfold VK at this;simp only at this;unfold bW;omega);have a2:=LM (a:=x.2) (b:=y.2) (by have:=hx.2;unfold bW;omega) (by have:=hy.2;unfold bW;omega) (by have:=hs.2;unfold VK at this;simp only at this;unfold bW;omega);refine run_complex_sum W .add (.inl rfl) 53 .f64 _ _ _ _ _ _ ?_;unfold cSumBits;rw[a1,a2];rfl
def AU (l:List (Int×Int)):Int×Int:=l.foldl VK (0,0)
theorem aoW (l:List (Int×Int)) (x:Int×Int):AU (l++[x])=VK (AU l) x:=by unfold AU;rw[OW];rfl
theorem alK :j6 (0,0):=⟨⟨by decide,by decide⟩,by decide,by decide⟩
theorem abD :cv (0,0)= .complex .f64 0 0:=by unfold cv iW;rw[EA]
theorem ax7 {l:List (Int×Int)} {v:Value} {w:World} (h:Rd w 1 v l.length (l.map cv)) (hk:∀x∈l,j6 x) (hl:l.length<=1000) (hs:∀i,j6 (AU (l.take i))):
  Calls Tryz.prog 177 #[.complex .f64 0 0,v] w fun e w'=>∃pk,j6 pk/\e= .returned (.tuple #[cv (AU l),cv pk,iV 0])/\RowKit.Below w.heap.size w w':=by
 obtain⟨A,c,rfl,_⟩:=h.shape;have h':=Lh h;have hk':=Lh hk;have hs':=Lh hs;have hi0:=Lh (ai8 alK w);rw[abD]at hi0;have hb0:=(RowKit.Below.refl w.heap.size w).alloc (iC _) (.cells #[.complex .f64 0 0] 53);have hi1:=Lh (ai6 (h.below hb0) hk aD);have JP:=Lh hb0;have b1:(l.length:Int)<=1024:=by omega
 clear h hk hb0 hs;go_enter Tryz.func177,Tryz.ntmps177;go_wp2_with(first |(go_at_call 203;refine hi0.out.mono ?_;rintro e w' ⟨rfl,hw'⟩;subst hw';clear hi0)|(go_at_call 203;refine hi1.out.mono ?_;rintro e w' ⟨rfl,hw'⟩;subst hw';clear hi1));go_loopw[4,5,26] (fun v4 v5 iv wr=>∃(i:Nat) (pk:Int×Int),i<=l.length/\iv=iV i/\v4=cv (AU (l.take i))/\v5=cv pk/\Hid (j6 pk)/\Hid (RowKit.Below w.heap.size w wr)) (fun _ _ iv _=>l.length-(intOf iv).toNat)
 case atStart=>exact⟨0,(0,0),fZ _,rfl,abD.symm,abD.symm,Lh alK,JP⟩
 obtain⟨i,pk,hi,rfl,rfl,rfl,hpk,hbw⟩:=hrel;have c0:(0:Int)<=(i:Int):=by omega
 by_cases hlt:i<l.length
 ·(have c1:(i:Int)<(l.length:Int):=by omega);obtain⟨g,o,cc,e,k1,k2,_,hcell⟩:=h'.out.place aD aR;cases e;have hx:=hcell _ hbw.out i aD;rw[lC,gE hlt]at hx;simp only[UL]at hx;(have htk:l.take (i+1)=l.take i++[l[i]]:=by rw[pI,gE hlt];rfl);have hs1:=hs'.out i;have hs2:=hs'.out (i+1);have hsx:=congrArg AU htk;rw[aoW]at hsx;have hnx:Hid (cv (VK (AU (l.take i)) l[i])=cv (AU (l.take (i+1)))):=Lh (by rw[hsx]);rw[hsx]at hs2;(have hadd:=fun W=>aBV hs1 (hk'.out _ (nW hlt)) hs2 W);obtain⟨x,hxe⟩:∃x,x=l[i]:=⟨_,rfl⟩;rw[<-hxe]at hx hs2 hadd hnx;clear hxe htk hsx;obtain⟨s0,hs0⟩:∃s0,s0=AU (l.take i):=⟨_,rfl⟩;rw[<-hs0]at hs1 hs2 hadd hnx ⊢;clear hs0;obtain⟨s1,hse⟩:∃s1,s1=VK s0 x:=⟨_,rfl⟩;rw[<-hse]at hs2 hadd hnx;clear hse hs1;have hi1:=Lh (ai8 hs2 wr);have hb1:=(RowKit.Below.refl wr.heap.size wr).alloc (iC _) (.cells #[cv s1] 53);have hmo:=Lh (auP hpk.out hs2 (wr.alloc (.cells #[cv s1] 53)));have ap0:=Lh (alJ hpk.out hs2);have hb2:=Lh (hbw.out.trans (hb1.mono hbw.out.size));obtain⟨pk2,hpe⟩:∃q,q=auO pk s1:=⟨_,rfl⟩;rw[<-hpe]at hmo ap0;clear hpe hb1 hs2 hcell;(have hle:w.heap.size<=(wr.alloc (.cells #[cv s1] 53)).heap.size:=by rw[World.size_alloc];have:=hbw.out.size;omega);unfold cv iW at*;go_wp2_with(first |(go_at_call 203;refine hi1.out.mono ?_;rintro e w' ⟨rfl,hw'⟩;subst hw';clear hi1)|(go_at_call 204;refine hmo.out.mono ?_;rintro e w5 ⟨rfl,hb5⟩;(replace hb5:=Lh (hb2.out.trans (hb5.mono hle)));clear hmo));exact⟨⟨i+1,pk2,by omega,by go_num,hnx.out,rfl,ap0,hb5⟩,by(simp[intOf];omega)⟩
 have c2:¬(i:Int)<(l.length:Int):=by omega
 go_wp2_with fail;rw[pM aD];exact bodyPost_ret (v:=.tuple #[cv (AU l),cv pk,iV 0]) (by simp[results,Tryz.f177,go_sem]) rfl ⟨pk.1,pk.2,hpk.out,rfl,hbw.out⟩
theorem ax8 {l:List (Int×Int)} {v:Value} {w:World} (h:Rd w 1 v l.length (l.map cv)) (hk:∀x∈l,j6 x) (hl:l.length<=1000) (hs:∀i,j6 (AU (l.take i))):
  Calls Tryz.prog 113 #[v] w fun e w'=>e= .returned (.tuple #[cv (AU l),iV 0])/\RowKit.Below w.heap.size w w':=by
 have hr:=Lh (ax7 h hk hl hs);have hs1:=hs l.length;rw[M7]at hs1;have ht:=fun W=>afX hs1 W
 clear h hk hs hs1;obtain⟨s0,hs0⟩:∃s0,s0=cv (AU l):=⟨_,rfl⟩;rw[<-hs0]at hr ht ⊢;clear hs0;go_enter Tryz.func113,Tryz.ntmps113;go_wp2_with(first |(go_at_call 177;refine hr.out.mono ?_;rintro e w1 ⟨pk,_,rfl,hb⟩;(replace hb:=Lh hb);clear hr)|(go_at_call 178;refine(ht _).mono ?_;rintro e w2 ⟨rfl,hb2⟩;(replace hb2:=Lh hb2);clear ht));exact bodyPost_ret (v:=.tuple #[s0,iV 0]) (by simp[results,Tryz.f113,go_sem]) rfl ⟨rfl,hb.out.trans (hb2.out.mono hb.out.size)⟩
end Go.Proofs.YtmjomdkleikgbaaGreat
