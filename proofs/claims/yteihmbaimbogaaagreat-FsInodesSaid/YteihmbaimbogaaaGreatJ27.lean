/- Parts. -/
import Derived.Test.YteihmbaimbogaaaGreatJ26
import Derived.Shelf.SortM.Plain
import Derived.Shelf.SortM.SortNone
import Derived.Sort.EncStr
set_option linter.unusedVariables false
set_option linter.unusedSimpArgs false
set_option maxRecDepth 100000
set_option maxHeartbeats 20000000
namespace Go.Proofs.YteihmbaimbogaaaGreat
open Go.RowKit
def sW (v:Value) (ps:List (List UInt8)):bK:=.sl 9 1 v ps.length (ps.map aC)
def DD (ps:List (List UInt8)):List (List UInt8):=ps.mergeSort fun x y=>decide (x<=y)
theorem UL (ps:List (List UInt8)):(DD ps).Perm ps:=List.mergeSort_perm _ _
theorem atU (ps:List (List UInt8)):(DD ps).Pairwise fun x y=>x<=y:=by have h:=List.pairwise_mergeSort (le:=fun(x y:List UInt8)=>decide (x<=y)) (fun a b c h1 h2=>by simp only[uP]at h1 h2 ⊢;exact List.le_trans h1 h2) (fun a b=>by simp only[PR,uP];exact List.le_total a b) ps;exact h.imp fun h=>by simpa using h
theorem aj7 {w0 w:World} {As:List bK} {g n c:Nat} {ps:List (List UInt8)} (k:Nat) (h:Sep w0 w As) (hk:As[k]? =some (.sl 9 1 (sV g n c) n (ps.map aC))) (hn:ps.length=n):Go.Sort.Holds Go.Proofs.encStr w g 0 ps.toArray:=fun j hj=>by
 have hj':j<ps.length:=by simpa using hj
 rw[BF];refine⟨?_,h.frozenAt k hk j⟩;rw[h.cellAt k hk j aD,getElem!_pos _ j hj];simp[hj'];rfl
theorem ab5 {w0 w:World} {As:List bK} {v:Value} {ps:List (List UInt8)} (k:Nat) (h:Sep w0 w As) (hk:As[k]? =some (sW v ps)) (hl:ps.length<=1048576):
  Calls Tryz.prog 70 #[v] w fun e w'=>e= .returned (.tuple #[])/\Sep w0 w' (As.set k (sW v (DD ps))):=by
 have hlen:(DD ps).length=ps.length:=(UL ps).length_eq;rcases H5 ps.length with h0|hpos
 ·obtain rfl:ps=[]:=zC h0;obtain⟨A,c,rfl,_⟩:=(h.rd k hk).shape;have hcon:=Go.Proofs.AnyM.slices_Sort_string_none Go.Proofs.Tryz.sortStrings A c w;change Calls Tryz.prog 70 _ _ _ at hcon;refine hcon.mono ?_;rintro e w' ⟨rfl,rfl⟩;refine⟨rfl,?_⟩;obtain⟨hlt,e⟩:=gF.1 hk;have e2:DD []=[]:=zC (by rw[hlen];rfl);rw[e2,<-e,ad3];exact h
 obtain⟨g,c,rfl,_,hg,_⟩:=h.iU k hk hpos;have hH:=aj7 k h hk rfl;have hcon:=Go.Proofs.AnyM.slices_Sort_string Go.Proofs.Tryz.sortStrings g 0 c ps w hH hg aD;change Calls Tryz.prog 70 _ _ _ at hcon;refine hcon.mono ?_;rintro e w' ⟨rfl,n,os,rfl⟩;refine⟨rfl,?_⟩;have hS:=h.sorted (α:=List UInt8) Go.Proofs.encStr k hk n (DD ps).toArray (by simpa using hlen) os;have e1:sW (sV g ps.length c) (DD ps)= .sl 9 1 (sV g ps.length c) ps.length ((DD ps).toArray.toList.map Go.Proofs.encStr):=by unfold sW;rw[hlen];rfl
 rw[e1];exact hS
def atV (S:VS) (path:List UInt8):Nat:=if path=[]then 0 else(bB S.cur S.data 0 0 (splitB path)).2.1.toNat
def qX (S:VS) (path:List UInt8):Int:=
 if path=[]then(if(aH S.cur 0).kind=1 then 0 else 22)
 else if dY path=0 then(match eO (bB S.cur S.data 0 0 (splitB path))with|some k=>k|none=>if(aH S.cur (bB S.cur S.data 0 0 (splitB path)).2.1.toNat).kind=1 then 0 else 22)
 else dY path
def sD (S:VS) (path:List UInt8):List (List UInt8):=if qX S path=0 then DD ((lS S.cur S.data (aH S.cur (atV S path))).map (·.1))else []
section
variable {w0 w:World} {R:List bK} {f q p:Nat} {S:VS} {a:VA}
theorem Z3 {P:Prop} (h:P:=by
 clear x0 x1 x2 x3 x4;obtain⟨bx,hbx⟩:∃bx,bx=w6.heap.size:=⟨_,rfl⟩;rw[<-hbx]at h5 ⊢;clear hbx;have hcs:Hid (∀W Y (Z:List bK),Sep w0 W (Y:: .box bx 118 #[iV ((1:Nat):Int),iV (xm:Nat),iV (xl:Nat),iV (N:Nat),.slice A6 lx c6]::Z)->W.cell? ⟨bx,0,none⟩=some (iV 1)/\W.cell? ⟨bx,1,none⟩=some (iV (xm:Nat))/\W.cell? ⟨bx,2,none⟩=some (iV (xl:Nat))/\W.cell? ⟨bx,3,none⟩=some (iV (N:Nat))/\W.cell? ⟨bx,4,none⟩=some (.slice A6 lx c6)):=Lh fun W Y Z hS=>⟨hS.bC 1 rfl 0,hS.bC 1 rfl 1,hS.bC 1 rfl 2,hS.bC 1 rfl 3,hS.bC 1 rfl 4⟩
 go_loopw[4,35] (fun ov iv wr=>∃k:Nat,k<=N/\iv=iV k/\Hid (∃a1,VC T a1/\Sep w0 wr (aF f q p T a1:: .box bx 118 #[iV ((1:Nat):Int),iV (xm:Nat),iV (xl:Nat),iV (N:Nat),.slice A6 lx c6]:: .sl 9 1 ov ((L.take k).map (fun e=>Value.string ⟨e.1.toArray⟩)).length ((L.take k).map (fun e=>Value.string ⟨e.1.toArray⟩))::aI w.heap.size 0::bA (.slice A6 lx c6) (fB xs)::R))) (fun _ iv _=>N-(intOf iv).toNat)
 case atStart=>exact⟨0,iF _,rfl,Lh ⟨a6,OI.out,Sep.dE [2,1,0,3,4] (h5.out.dX 9 1) aQ (by simp[aI])⟩⟩
 obtain⟨k,hk,rfl,hS⟩:=hrel;obtain⟨a1,lU,hS1⟩:=hS.out;clear hS h5 OI;by_cases hlt:k<N
 ·have hy:=hcs.out _ _ _ hS1.drew;have hc:=wT.out _ k a1 _ _ _ _ _ hlt lU hS1.drew;(have q1:(k:Int)<N:=by omega);(have q0:(0:Int)<=k:=by omega);obtain⟨u,hu⟩:∃u,u=(vC L k).1:=⟨_,rfl⟩;obtain⟨z,hz⟩:∃z,z=(vC L k).2:=⟨_,rfl⟩;rw[<-hu,<-hz]at hc;(have hst:(L.take (k+1)).map (fun e=>Value.string ⟨e.1.toArray⟩)=(L.take k).map (fun e=>Value.string ⟨e.1.toArray⟩)++[Value.string ⟨u.toArray⟩]:=by rw[BC,gE (by rw[hLn.out];exact hlt),wN,hu];simp);replace hst:=Lh hst;obtain⟨Lv,hLv⟩:∃Lv,Lv=(L.take k).map (fun e=>Value.string ⟨e.1.toArray⟩):=⟨_,rfl⟩;(have hLl:Lv.length<=448:=by rw[hLv,kV,tF];omega);have hck:=hS1.eF 2 rfl;rw[<-hLv]at hc hck hst;obtain⟨Ao,co,rfl⟩:=hck;clear hS1 lU hu hz hLv;replace hc:=Lh hc;go_wp2_with fail;rename_i K1 hK1;refine fP ?_;refine aJ (S:=fun w'=>w'.cell? ⟨bx,0,none⟩=some (iV 1)/\w'.cell? ⟨bx,1,none⟩=some (iV (xm:Nat))/\w'.cell? ⟨bx,2,none⟩=some (iV (xl:Nat))/\w'.cell? ⟨bx,3,none⟩=some (iV (N:Nat))/\w'.cell? ⟨bx,4,none⟩=some (.slice A6 lx c6)) 11 ?_;refine aA 0 hy ?_;refine aA 1 hy ?_;refine aA 2 hy ?_;refine aA 3 hy ?_;refine aA 4 hy ?_;(refine bG 5 fun K hK=>?_);go_simp;go_at_call 69;refine hc.out.mono ?_;rintro e w5 ⟨rfl,a2,hC2,h2⟩;have hy2:=hcs.out _ _ _ h2;clear hy;dsimp only;refine hK _ _ (fun _=>hy2) ?_;clear hK K;(try simp only[Act.put,gD]);refine aW 6 (fun _=>hy2) ?_;refine aA 7 hy2 ?_;refine aA 8 hy2 ?_;refine aA 9 hy2 ?_;refine aA 10 hy2 ?_;refine aR fZ ?_ _;simp only[jT];have h3:Sep w0 (w5.alloc (.cells #[.string ⟨u.toArray⟩] 9)) (.sl 9 1 (.slice Ao Lv.length co) Lv.length Lv::aF f q p T a2:: .box bx 118 #[iV ((1:Nat):Int),iV (xm:Nat),iV (xl:Nat),iV (N:Nat),.slice A6 lx c6]::aI w.heap.size 0::bA (.slice A6 lx c6) (fB xs)::R):=Sep.dE [2,0,1,3,4] (h2.alloc _) aQ bM;clear h2 hy2 hc;replace hC2:=Lh hC2;simp only[Exit.then];apply hK1;go_wp2_with(at_builtin;refine iZ 0 rfl _ _ 52 rfl 9 i0 (.string ⟨#[]⟩) 1 16 Tryz.underlying52 hif hz0 hz1 hz2 rfl aQ h3 _ _ _ rfl rfl ⟨w5.heap.size,0,none⟩ 1 1 [.string ⟨u.toArray⟩] rfl rfl (cell_one_new _ _ _) Q8 aQ oH aD ?_);intro gg cc w3 fC WG;have hS5:=Lh (Sep.dE [1,2,0,3,4] fC aQ bM);clear fC WG h3;go_wp2_with fail;go_roundw
  case rel=>exact⟨k+1,by omega,by go_num,Lh ⟨a2,hC2.out,(by rw[hst.out,kN];exact hS5.out)⟩⟩
  case measure=>(simp[intOf];omega)
 obtain rfl:k=N:=by omega
 have e1:(L.take k).map (fun e=>Value.string ⟨e.1.toArray⟩)=(L.map (·.1)).map aC:=by rw[tH (by rw[hLn.out];exact jL _),DR];rfl
 rw[e1]at hS1;have hS2:Sep w0 wr (sW u4 (L.map (·.1))::aF f q p T a1:: .box bx 118 #[iV ((1:Nat):Int),iV (xm:Nat),iV (xl:Nat),iV (k:Nat),.slice A6 lx c6]::aI w.heap.size 0::bA (.slice A6 lx c6) (fB xs)::R):=by unfold sW;rw[kV]at hS1;exact Sep.dE [2,0,1,3,4] hS1 aQ bM
 have hso:=ab5 0 hS2 rfl (by rw[kV,hLn.out];omega);clear hS1 e1 hS2;replace lU:=Lh lU;go_wp2_with(go_at_call 70;refine hso.mono ?_;rintro e w5 ⟨rfl,h5⟩;(have k1:=h5.bC 3 rfl 0);(have k2:=h5.bF 3 rfl 0);simp only[gA,gB]at k1;clear hso;replace h5:=Lh h5);refine hd.out _ _ a1 [.box bx 118 #[iV ((1:Nat):Int),iV (xm:Nat),iV (xl:Nat),iV (k:Nat),.slice A6 lx c6],bA (.slice A6 lx c6) (fB xs)] u4 lU.out ?_ rfl rfl;rw[hrN.out];exact Sep.dE [0,1,3,2,4] h5.out aQ (by simp[aI])):P:=h
theorem atW {path:List UInt8} (hp:path.length<=9223372036854775807) (ho:S.D.off=false) (hV:VW S.base) (hroot:(aH S.base.cur 0).kind=1) (h:Sep w0 w (bI f q p S::R)):
  Calls Tryz.prog 23 #[pV f,aC path] w fun e w'=>∃v,e= .returned (.tuple #[v,iV (qX S.base path)])/\Sep w0 w' (sW v (sD S.base path)::bI f q p S.base::R):=by
 have hb:=zR h;have h1:Sep w0 (w.alloc (.cells #[iV 0] 39)) (bI f q p S::aI w.heap.size 0::R):=Sep.dE [1,0] (h.bN 39 #[iV 0]) aQ (by simp[aI]);have haw:=EH ho h1;obtain⟨T,hT⟩:∃T,T=S.base:=⟨_,rfl⟩;rw[<-hT]at hV hb haw hroot ⊢;clear ho hT;obtain⟨i0,hif,hz0,hz1,hz2⟩:=lM OP;have hres:Hid (∀(tm:Array Value) W x v Y,tm.getD 5 undef=pV w.heap.size->tm.getD 4 undef=v->Sep w0 W (Y++aI w.heap.size x::R)->(results Tryz.f23 tm).run Tryz.prog W= .ok (.tuple #[v,iV x]) W):=Lh fun tm W x v Y ht hv hW=>by(have hi:(Y++aI w.heap.size x::R)[Y.length]? =some (aI w.heap.size x):=by simp);have ec:=hW.bC _ hi 0;simp only[gA,gB]at ec;(have ht2:tm[5]?.getD undef=pV w.heap.size:=by simpa using ht);(have hv2:tm[4]?.getD undef=v:=by simpa using hv);simp[results,Tryz.results23,go_sem,ht2,hv2,asAddr,loadVar,ec]
 have hpl:Hid (∀W,Calls Tryz.prog 60 #[aC path] W fun e w'=>e=(if dY path=0 then .returned (.tuple #[])else .panicked (gJ (dY path)))/\Below W.heap.size W w'):=Lh fun W=>NC hp W
 have nR:Hid (∀(tm:Array Value) W a k,k=qX T path->k≠0->k≠11->VC T a->Sep w0 W (aF f q p T a::aI w.heap.size 0::R)->tm.getD 5 undef=pV w.heap.size->tm.getD 4 undef= .slice none 0 0->
   Leaves Tryz.prog Tryz.f23 tm (fun e w'=>∃v,e= .returned (.tuple #[v,iV (qX T path)])/\Sep w0 w' (sW v (sD T path)::bI f q p T::R)) [{target:=.fn (.func 41) #[],args:=#[pV f,pV w.heap.size]}] (.panicking (gJ k)) W):=Lh fun tm W a k hk h0 h11 hC hW ht ht4=>by
  (refine K8 hC hb h11 hW fun w' hw=>?_);refine⟨_,hres.out tm w' k _ [bI f q p T] ht ht4 hw,.slice none 0 0,by rw[hk],?_⟩;have h5:Sep w0 w' (aI w.heap.size k::bI f q p T::R):=hw.perm (List.Perm.swap _ _ _);unfold sD;rw[<-hk,if_neg h0];exact(h5.drop 1).dX 9 1
 have hquit:Hid (∀(tm:Array Value) W a B,qX T path=22->VC T a->Sep w0 W (aF f q p T a::aI w.heap.size 0::(B++R))->tm.getD 5 undef=pV w.heap.size->tm.getD 4 undef= .slice none 0 0->
   Leaves Tryz.prog Tryz.f23 tm (fun e w'=>∃v,e= .returned (.tuple #[v,iV (qX T path)])/\Sep w0 w' (sW v (sD T path)::bI f q p T::R)) [{target:=.fn (.func 41) #[],args:=#[pV f,pV w.heap.size]}] .returning (W.setCell ⟨w.heap.size,0,none⟩ (.int .i64 22))):=Lh fun tm W a B hk hC hW ht ht4=>by
  refine iY ?_;have h2:Sep w0 _ (aF f q p T a::aI w.heap.size 22::(B++R)):=hW.bS 1 rfl 0 (.int .i64 22);have h3:Sep w0 _ (B++(aF f q p T a::aI w.heap.size 22::R)):=h2.perm (by refine(List.Perm.trans ?_ rF.symm);exact List.Perm.cons _ rF.symm);have h4:=h3.drop B.length;rw[XD]at h4;refine⟨_,hres.out tm _ 22 _ [aF f q p T a] ht ht4 h4,.slice none 0 0,by rw[hk],?_⟩;have h5:Sep w0 _ (aI w.heap.size 22::aF f q p T a::R):=h4.perm (List.Perm.swap _ _ _);unfold sD;rw[hk,if_neg aQ];exact(qW hC hb (h5.drop 1)).dX 9 1
 have hdone:Hid (∀(tm:Array Value) W a B v,qX T path=0->VC T a->Sep w0 W (sW v (sD T path)::aF f q p T a::aI w.heap.size 0::(B++R))->tm.getD 5 undef=pV w.heap.size->tm.getD 4 undef=v->
   Leaves Tryz.prog Tryz.f23 tm (fun e w'=>∃v,e= .returned (.tuple #[v,iV (qX T path)])/\Sep w0 w' (sW v (sD T path)::bI f q p T::R)) [{target:=.fn (.func 41) #[],args:=#[pV f,pV w.heap.size]}] .returning (W.setCell ⟨w.heap.size,0,none⟩ (.int .i64 0))):=Lh fun tm W a B v hk hC hW ht ht4=>by
  refine iY ?_;have h2:Sep w0 _ (sW v (sD T path)::aF f q p T a::aI w.heap.size 0::(B++R)):=hW.bS 2 rfl 0 (.int .i64 0);have h3:Sep w0 _ (B++(sW v (sD T path)::aF f q p T a::aI w.heap.size 0::R)):=h2.perm (by refine(List.Perm.trans ?_ rF.symm);refine List.Perm.cons _ (List.Perm.trans ?_ rF.symm);exact List.Perm.cons _ rF.symm);have h4:=h3.drop B.length;rw[XD]at h4;refine⟨_,hres.out tm _ 0 _ [sW v (sD T path),aF f q p T a] ht ht4 h4,v,by rw[hk],?_⟩;have h5:Sep w0 _ (aI w.heap.size 0::aF f q p T a::sW v (sD T path)::R):=Sep.dE [2,1,0] h4 aQ bM;exact(qW hC hb (h5.drop 1)).perm (List.Perm.swap _ _ _)
 have hfl:Hid (aU path=true->∀W a,VC T a->Sep w0 W (aF f q p T a::aI w.heap.size 0::R)->Calls Tryz.prog 68 #[pV f,aC path] W fun e w'=>e=nE (bB T.cur T.data 0 0 (splitB path))/\∃a',VC T a'/\Sep w0 w' (aF f q p T a'::aI w.heap.size 0::R)):=Lh fun hv W a hC hW=>
  (pW hC hV hv (eZ hv) hW).mono fun e w' ⟨h1,a',h2,h3⟩=>⟨h1,a',h2.ok,h3⟩
 have hin:Hid (∀m:Nat,m<T.names->∀W a,VC T a->Sep w0 W (aF f q p T a::aI w.heap.size 0::R)->Calls Tryz.prog 64 #[pV f,iV m] W fun e w'=>∃A c a2,e= .returned (gK (aH T.cur m) (.slice A (aH T.cur m).aB.length c))/\VC T a2/\Sep w0 w' (aF f q p T a2::aI w.heap.size 0::bA (.slice A (aH T.cur m).aB.length c) (fB (aH T.cur m).aB)::R)):=Lh fun m hm W a hC hW=>by refine(jM hC hV.vf hm (hV.few m hm) hW).mono ?_;rintro e w' ⟨v,a2,rfl,hR,h9⟩;obtain⟨A9,c9,e9⟩:=h9.eF 0 rfl;subst e9;(have e10:(fB (aH T.cur m).aB).length=(aH T.cur m).aB.length:=by unfold fB;rw[kV]);rw[e10]at h9 ⊢;exact⟨A9,c9,a2,rfl,hR.ok,Sep.dE [1,2,0] h9 aQ bM⟩
 have hen:Hid (∀m:Nat,m<T.names->(aH T.cur m).kind=1->∀W k a1 A c bx Lv ov,k<(aH T.cur m).size->VC T a1->Sep w0 W (aF f q p T a1:: .box bx 118 (aO (aH T.cur m) (.slice A (aH T.cur m).aB.length c)):: .sl 9 1 ov Lv.length Lv::aI w.heap.size 0::bA (.slice A (aH T.cur m).aB.length c) (fB (aH T.cur m).aB)::R)->
   Calls Tryz.prog 69 #[pV f,gK (aH T.cur m) (.slice A (aH T.cur m).aB.length c),iV (k:Nat)] W fun e w'=>e= .returned (.tuple #[aC (vC (lS T.cur T.data (aH T.cur m)) k).1,.int .i64 ((vC (lS T.cur T.data (aH T.cur m)) k).2:Nat)])/\∃a',VC T a'/\Sep w0 w' (aF f q p T a':: .box bx 118 (aO (aH T.cur m) (.slice A (aH T.cur m).aB.length c)):: .sl 9 1 ov Lv.length Lv::aI w.heap.size 0::bA (.slice A (aH T.cur m).aB.length c) (fB (aH T.cur m).aB)::R)):=Lh fun m hm hk W k a1 A c bx Lv ov hks hC hW=>by
  have:=MV (i:=k) hC hV.vf (kL 3 rfl) (hV.dir m hm hk) hks hW;rw[FV hks];exact this.mono fun e w' ⟨h1,a',h2,h3⟩=>⟨h1,a',h2.ok,h3⟩
 have hln:=rU hV (path:=path);have hpw:=BU path;have hfs:∀k,eO (bB T.cur T.data 0 0 (splitB path))=some k->k≠0/\k≠11:=fun k hk=>C9 hk
 have hsz:∀m:Nat,m<T.names->(aH T.cur m).kind=1->(aH T.cur m).size<=448:=fun m hm hk=>by have:=(hV.dir m hm hk).room;have:=(hV.dir m hm hk).few;omega
 have hn0:=hV.n0;clear hV h h1 hp;by_cases h00:path=[]
 ·subst h00;(have hk1:qX T []=(if(aH T.cur 0).kind=1 then 0 else 22):=by unfold qX;rw[if_pos rfl]);(have hrN:qX T []=0->sD T []=DD ((lS T.cur T.data (aH T.cur 0)).map (·.1)):=fun e=>by unfold sD;rw[if_pos e];rfl);have hin2:=hin.out 0 hn0;have wT:=hen.out 0 hn0;(have ab6:(aH T.cur 0).kind=1->(aH T.cur 0).size<=448:=fun hk=>hsz 0 hn0 hk);clear hfl hpl hln hpw hfs hsz hin hen hn0 hroot;obtain⟨x,hx⟩:∃x,x=aH T.cur 0:=⟨_,rfl⟩;rw[<-hx]at hin2 wT ab6 hk1 hrN;obtain⟨L,hL⟩:∃L,L=lS T.cur T.data x:=⟨_,rfl⟩;(have hLn:L.length=x.size:=by rw[hL,EB]);rw[<-hL]at wT hrN;replace hL:=Lh hL;clear hx;obtain⟨xk,xm,xl,N,xs⟩:=x;simp only[gK,aO]at hin2 wT ab6 hk1 hLn hrN;obtain⟨lx,hlx⟩:∃l,l=xs.length:=⟨_,rfl⟩;rw[<-hlx]at hin2 wT;replace hlx:=Lh hlx;replace hLn:=Lh hLn;replace hin2:=Lh hin2;replace wT:=Lh wT;unfold aC at*;by_cases hkk:xk=1
  ·subst hkk;rw[if_pos rfl]at hk1;replace ab6:=ab6 rfl;(have N1:(N:Int)<=448:=by omega);have hd:=Lh (fun tm W a B v=>hdone.out tm W a B v hk1);replace wT:=Lh (wT.out rfl);replace hrN:=Lh (hrN hk1);clear hdone hquit nR hk1
   go_enter_defers Tryz.func23,Tryz.ntmps23
   go_wp2_with(first |(go_at_call 42;refine haw.mono ?_;rintro e w9 ⟨rfl,a9,eG,h9⟩;(have hi7:=hin2.out _ _ eG h9);clear eG h9;clear haw)|(go_at_call 64;refine hi7.mono ?_;rintro e w6 ⟨A6,c6,a6,rfl,OI,h6⟩;(have h5:=h6.bN 118 #[iV ((1:Nat):Int),iV (xm:Nat),iV (xl:Nat),iV (N:Nat),.slice A6 lx c6]);(have x0:=h5.bC 0 rfl 0);(have x1:=h5.bC 0 rfl 1);(have x2:=h5.bC 0 rfl 2);(have x3:=h5.bC 0 rfl 3);(have x4:=h5.bC 0 rfl 4);simp only[gA,gB,gC]at x0 x1 x2 x3 x4;clear hi7 h6;replace OI:=Lh OI;replace h5:=Lh h5));exact Z3
  rw[if_neg hkk]at hk1;(have hkx:((xk:Int)==1)=false:=by rw[mM];omega);(have hkn:((xk:Int) !=1)=true:=by rw[bne_iff_ne];omega);have hq:=Lh (fun tm W a B=>hquit.out tm W a B hk1);clear wT hrN hkk hL;clear hdone hquit nR hk1
  go_enter_defers Tryz.func23,Tryz.ntmps23
  go_wp2_with(first |(go_at_call 42;refine haw.mono ?_;rintro e w9 ⟨rfl,a9,eG,h9⟩;(have hi7:=hin2.out _ _ eG h9);clear eG h9;clear haw)|(go_at_call 64;refine hi7.mono ?_;rintro e w6 ⟨A6,c6,a6,rfl,OI,h6⟩;(have h5:=h6.bN 118 #[iV (xk:Nat),iV (xm:Nat),iV (xl:Nat),iV (N:Nat),.slice A6 lx c6]);(have x0:=h5.bC 0 rfl 0);(have k1:=h5.bC 2 rfl 0);(have k2:=h5.bF 2 rfl 0);simp only[gA,gB,gC]at x0 k1;clear hi7 h6;replace OI:=Lh OI;replace h5:=Lh h5));exact hq.out _ _ a6 [_,_] OI.out (Sep.dE [1,2,0,3] h5.out aQ (by simp[aI])) rfl rfl
 have hne:(path==[])=false:=by simpa using h00
 have hne2:(path.toArray==#[])=false:=by simpa using h00
 by_cases h0:dY path=0
 ·have hv:=GI h0;have rH:=hfl.out hv;rw[h0,if_pos rfl]at hpl;(have hlx:qX T path=(match eO (bB T.cur T.data 0 0 (splitB path))with|some k=>k|none=>if(aH T.cur (bB T.cur T.data 0 0 (splitB path)).2.1.toNat).kind=1 then 0 else 22):=by unfold qX;rw[if_neg h00,if_pos h0]);(have hrN:qX T path=0->sD T path=DD ((lS T.cur T.data (aH T.cur (bB T.cur T.data 0 0 (splitB path)).2.1.toNat)).map (·.1)):=fun e=>by unfold sD atV;rw[if_pos e,if_neg h00]);clear hfl h0 hpw hv h00;rw[tV]at rH;obtain⟨fe,hfe⟩:∃fe,fe=eO (bB T.cur T.data 0 0 (splitB path)):=⟨_,rfl⟩;rw[<-hfe]at rH hfs hlx;cases fe with
  |some k=>
   obtain⟨hk0,atJ⟩:=hfs k rfl;simp only at hlx rH;have hg:=Lh (fun tm W a=>nR.out tm W a k hlx.symm hk0 atJ);replace rH:=Lh rH;clear hfs hfe hln hk0 atJ nR hquit hdone hin hen hrN hlx hsz hres;unfold aC at*
   go_enter_defers Tryz.func23,Tryz.ntmps23
   go_wp2_with(first |(go_at_call 42;refine haw.mono ?_;rintro e w9 ⟨rfl,a9,eG,h9⟩;replace eG:=Lh eG;clear haw)|(go_at_call 60;go_loud (refine(hpl.out _).mono ?_;rintro e w8 ⟨rfl,wY⟩;have pX:=rH.out _ _ eG.out (h9.pure wY);clear h9;clear wY hpl))|(go_at_call 68;refine pX.mono ?_;rintro e w7 ⟨rfl,a7,PT,h7⟩;clear pX));exact hg.out _ _ _ PT h7 rfl rfl
  |none=>
   obtain⟨hr0,hr1⟩:=tX hfe.symm;obtain⟨d,m,hdl,GA,hre⟩:=hln hr0 hr1;rw[hre]at hlx hrN rH;simp only[nA]at hlx hrN rH;have hk1:qX T path=(if(aH T.cur m).kind=1 then 0 else 22):=hlx;have hin2:=hin.out m GA;have wT:=hen.out m GA;(have ab6:(aH T.cur m).kind=1->(aH T.cur m).size<=448:=fun hk=>hsz m GA hk);replace rH:=Lh rH;clear hfs hfe hln hr0 hr1 GA hdl hre hin hen hsz hlx hroot hn0;obtain⟨x,hx⟩:∃x,x=aH T.cur m:=⟨_,rfl⟩;rw[<-hx]at hin2 wT ab6 hk1 hrN;obtain⟨L,hL⟩:∃L,L=lS T.cur T.data x:=⟨_,rfl⟩;(have hLn:L.length=x.size:=by rw[hL,EB]);rw[<-hL]at wT hrN;replace hL:=Lh hL;clear hx;obtain⟨xk,xm,xl,N,xs⟩:=x;simp only[gK,aO]at hin2 wT ab6 hk1 hLn hrN;obtain⟨lx,hlx⟩:∃l,l=xs.length:=⟨_,rfl⟩;rw[<-hlx]at hin2 wT;replace hlx:=Lh hlx;replace hLn:=Lh hLn;replace hin2:=Lh hin2;replace wT:=Lh wT;unfold aC at*;by_cases hkk:xk=1
   ·subst hkk;rw[if_pos rfl]at hk1;replace ab6:=ab6 rfl;(have N1:(N:Int)<=448:=by omega);have hd:=Lh (fun tm W a B v=>hdone.out tm W a B v hk1);replace wT:=Lh (wT.out rfl);replace hrN:=Lh (hrN hk1);clear hdone hquit nR hk1
    go_enter_defers Tryz.func23,Tryz.ntmps23
    go_wp2_with(first |(go_at_call 42;refine haw.mono ?_;rintro e w9 ⟨rfl,a9,eG,h9⟩;replace eG:=Lh eG;clear haw)|(go_at_call 60;refine(hpl.out _).mono ?_;rintro e w8 ⟨rfl,wY⟩;have pX:=rH.out _ _ eG.out (h9.pure wY);clear h9;clear wY hpl)|(go_at_call 68;refine pX.mono ?_;rintro e w7 ⟨rfl,a7,PT,h7⟩;have hi7:=hin2.out _ _ PT h7;clear pX h7 PT)|(go_at_call 64;refine hi7.mono ?_;rintro e w6 ⟨A6,c6,a6,rfl,OI,h6⟩;(have h5:=h6.bN 118 #[iV ((1:Nat):Int),iV (xm:Nat),iV (xl:Nat),iV (N:Nat),.slice A6 lx c6]);(have x0:=h5.bC 0 rfl 0);(have x1:=h5.bC 0 rfl 1);(have x2:=h5.bC 0 rfl 2);(have x3:=h5.bC 0 rfl 3);(have x4:=h5.bC 0 rfl 4);simp only[gA,gB,gC]at x0 x1 x2 x3 x4;clear hi7 h6;replace OI:=Lh OI;replace h5:=Lh h5));exact Z3
   rw[if_neg hkk]at hk1;(have hkx:((xk:Int)==1)=false:=by rw[mM];omega);(have hkn:((xk:Int) !=1)=true:=by rw[bne_iff_ne];omega);have hq:=Lh (fun tm W a B=>hquit.out tm W a B hk1);clear wT hrN hkk hL;clear hdone hquit nR hk1
   go_enter_defers Tryz.func23,Tryz.ntmps23
   go_wp2_with(first |(go_at_call 42;refine haw.mono ?_;rintro e w9 ⟨rfl,a9,eG,h9⟩;replace eG:=Lh eG;clear haw)|(go_at_call 60;refine(hpl.out _).mono ?_;rintro e w8 ⟨rfl,wY⟩;have pX:=rH.out _ _ eG.out (h9.pure wY);clear h9;clear wY hpl)|(go_at_call 68;refine pX.mono ?_;rintro e w7 ⟨rfl,a7,PT,h7⟩;have hi7:=hin2.out _ _ PT h7;clear pX h7 PT)|(go_at_call 64;refine hi7.mono ?_;rintro e w6 ⟨A6,c6,a6,rfl,OI,h6⟩;(have h5:=h6.bN 118 #[iV (xk:Nat),iV (xm:Nat),iV (xl:Nat),iV (N:Nat),.slice A6 lx c6]);(have x0:=h5.bC 0 rfl 0);(have k1:=h5.bC 2 rfl 0);(have k2:=h5.bF 2 rfl 0);simp only[gA,gB,gC]at x0 k1;clear hi7 h6;replace OI:=Lh OI;replace h5:=Lh h5));exact hq.out _ _ a6 [_,_] OI.out (Sep.dE [1,2,0,3] h5.out aQ (by simp[aI])) rfl rfl
 have hlx:qX T path=dY path:=by unfold qX;rw[if_neg h00,if_neg h0]
 have hg:=Lh (fun tm W a=>nR.out tm W a (dY path) hlx.symm h0 hpw);rw[if_neg h0]at hpl;clear hfl hln nR hfs hpw hquit hdone hin hen hlx hsz hres h00;unfold aC at*
 go_enter_defers Tryz.func23,Tryz.ntmps23
 go_wp2_with(first |(go_at_call 42;refine haw.mono ?_;rintro e w9 ⟨rfl,a9,eG,h9⟩;replace eG:=Lh eG;clear haw)|(go_at_call 60;refine(hpl.out _).mono ?_;rintro e w8 ⟨rfl,wY⟩;replace h9:=h9.pure wY;clear wY hpl));exact hg.out _ _ _ eG.out h9 rfl rfl
end
def DK.fresh (n:Nat):DK:=⟨List.replicate n cZ,List.replicate n cZ,[],false, -1⟩
theorem BX (n:Nat):l8 n (List.replicate n cZ):=⟨DJ,fun b hb=>by rw[(List.mem_replicate.1 hb).2];exact eT⟩
theorem DK.af7 {n:Nat} (h0:1<=n) (h1:n<=4096):(DK.fresh n).ok n:=⟨BX n,BX n,h1,h0,fun x hx=>absurd hx MR,by show(-1:Int)<= -1/\(-1:Int)<=9223372036854775807;omega⟩
theorem atX (n:Nat):(List.replicate n cZ).flatten=List.replicate (n*512) 0:=by
 unfold cZ
 induction n with
 |zero=>rfl
 |succ n ih=>rw[List.replicate_succ,uQ,ih,List.replicate_append_replicate,Nat.succ_mul,Nat.add_comm]
section
variable {w0 w:World} {R:List bK} {p nb:Nat} {D:DK}
theorem aj8 (h:Sep w0 w (aN p D::R)):Calls Tryz.prog 39 #[pV p] w fun e w'=>e= .returned (.bool (!D.off))/\w'=w:=by
 obtain⟨vn,vf,vb,h1⟩:=h.zP;have c3:=h1.bC 0 rfl 3;simp only[gA,gB,gC]at c3;clear h h1;cases hd:D.off<;>rw[hd]at c3
 ·go_enter Tryz.func39,Tryz.ntmps39;go_wp2_with fail;go_ret;exact⟨rfl,rfl⟩
 go_enter Tryz.func39,Tryz.ntmps39;go_wp2_with fail;go_ret;exact⟨rfl,rfl⟩
theorem Sep.atY (h:Sep w0 w R):Sep w0 w (IQ (.slice none 0 0) []::R):=Sep.NF (us:=[]) rfl (h.dX 137 3)
theorem ayQ {n:Nat} (h0:1<=n) (h1:n<=4096) (h:Sep w0 w R):
  Calls Tryz.prog 32 #[iV n] w fun e w'=>∃p,e= .returned (.tuple #[pV p,iV 0])/\Sep w0 w' (aN p (DK.fresh n)::R):=by
 obtain⟨k0,gN,hk0,hk1,hk2⟩:=lM nX;have hmk:∀W,(Instr.makeSlice 35 (.int .i64 ((n:Int)*512)) (.int .i64 ((n:Int)*512))).run Tryz.prog W= .ok (sV W.heap.size (n*512) (n*512)) (W.alloc (.cells (madeCells #[.int .u8 0] (n*512)) 5)):=fun W=>by have:=qG (P:=Tryz.prog) 35 5 k0 (.int .u8 0) 1 Tryz.underlying35 gN hk0 hk1 hk2 rfl .i64 .i64 (n*512) aD oH W;rw[Int.natCast_mul]at this;exact this
 have q0:(1:Int)<=n:=by omega
 have q1:(n:Int)<=4096:=by omega
 have hwr:IntKind.i64.wrap ((n:Int)*512)=(n:Int)*512:=IntWalk.i64_in _ aD;have hmd:Hid (∀(As:List bK) (W:World),Sep w0 W As->Sep w0 (W.alloc (.cells (madeCells #[.int .u8 0] (n*512)) 5)) (aL (sV W.heap.size (n*512) (n*512)) (List.replicate n cZ).flatten::As)):=Lh fun As W hW=>by have:=hW.made 5 (.int .u8 0) (n*512) oH;rw[atX,dB DJ,List.map_replicate];exact this
 have hend:Hid (∀W A B cA cB,Sep w0 W (aL (.slice A (n*512) cA) (List.replicate n cZ).flatten::aL (.slice B (n*512) cB) (List.replicate n cZ).flatten::R)->
   Sep w0 (W.alloc (.cells #[.slice A (n*512) cA,.slice B (n*512) cB,.slice none 0 0,.bool false,iV (-1)] 130)) (aN W.heap.size (DK.fresh n)::R)):=Lh fun W A B cA cB hW=>by
  have h2:=hW.bN 130 #[.slice A (n*512) cA,.slice B (n*512) cB,.slice none 0 0,.bool false,iV (-1)];have h3:=h2.atY;exact Sep.zQ (D:=DK.fresh n) (vn:=.slice A (n*512) cA) (vf:=.slice B (n*512) cB) (vb:=.slice none 0 0) (Sep.dE [1,2,3,0] h3 aQ (by simp[jD,DK.fresh]))
 replace h:=Lh h;clear h0 h1 hk2 hk1 hk0 gN;go_enter Tryz.func32,Tryz.ntmps32;go_wp2_with fail;refine eU (S:=fun w'=>True) 10 fZ ?_;intro wq hwq;have hX:Hid (Sep w0 wq R):=by rw[hwq];exact Lh h.out.drew
 clear hwq h;simp only[mK,nV,kW,Nat.reduceAdd];have hc:True:=trivial;refine aA 0 hc ?_;refine aA 1 hc ?_;refine aA 3 hc ?_;refine aA 4 hc ?_;refine kP (i:=2) (j:=5) fZ rfl rfl (fun K hK=>?_) (fun K hK=>?_)
 focus
  go_simp
  have h1:=Lh (hmd.out _ _ hX.out)
  try dsimp only
  refine hK _ _ (fun _=>trivial) ?_
  clear hK K
  try simp only[Act.put,gD]
  obtain⟨g2,hg2⟩:∃g,g=wq.heap.size:=⟨_,rfl⟩
  obtain⟨w2,hw2⟩:∃w2,w2=wq.alloc (.cells (madeCells #[.int .u8 0] (n*512)) 5):=⟨_,rfl⟩
  rw[<-hw2]at h1 ⊢
  rw[<-hg2]at h1 ⊢
  clear hw2 hg2 hX
  have h2:=Lh (hmd.out _ _ h1.out)
  refine aW 5 (fun _=>trivial) ?_
  obtain⟨g3,hg3⟩:∃g,g=w2.heap.size:=⟨_,rfl⟩
  obtain⟨w3,hw3⟩:∃w3,w3=w2.alloc (.cells (madeCells #[.int .u8 0] (n*512)) 5):=⟨_,rfl⟩
  rw[<-hw3]at h2 ⊢
  rw[<-hg3]at h2 ⊢
  clear hw3 hg3 h1
  refine aW 6 (fun _=>trivial) ?_
  have h3:=Lh (hend.out w3 _ _ _ _ (h2.out.perm (List.Perm.swap _ _ _)))
  refine aW 7 (fun _=>trivial) ?_
  refine aW 8 (fun _=>trivial) ?_
  refine aW 9 (fun _=>trivial) ?_
  refine aR fZ ?_ _
  go_wp2_with fail
  go_ret2
  exact⟨_,rfl,h3.out⟩
 focus
  go_simp
  have h1:=Lh (hmd.out _ _ hX.out)
  try dsimp only
  refine hK _ _ (fun _=>trivial) ?_
  clear hK K
  try simp only[Act.put,gD]
  obtain⟨g2,hg2⟩:∃g,g=wq.heap.size:=⟨_,rfl⟩
  obtain⟨w2,hw2⟩:∃w2,w2=wq.alloc (.cells (madeCells #[.int .u8 0] (n*512)) 5):=⟨_,rfl⟩
  rw[<-hw2]at h1 ⊢
  rw[<-hg2]at h1 ⊢
  clear hw2 hg2 hX
  have h2:=Lh (hmd.out _ _ h1.out)
  refine aW 2 (fun _=>trivial) ?_
  obtain⟨g3,hg3⟩:∃g,g=w2.heap.size:=⟨_,rfl⟩
  obtain⟨w3,hw3⟩:∃w3,w3=w2.alloc (.cells (madeCells #[.int .u8 0] (n*512)) 5):=⟨_,rfl⟩
  rw[<-hw3]at h2 ⊢
  rw[<-hg3]at h2 ⊢
  clear hw3 hg3 h1
  refine aW 6 (fun _=>trivial) ?_
  have h3:=Lh (hend.out w3 _ _ _ _ h2.out)
  refine aW 7 (fun _=>trivial) ?_
  refine aW 8 (fun _=>trivial) ?_
  refine aW 9 (fun _=>trivial) ?_
  refine aR fZ ?_ _
  go_wp2_with fail
  go_ret2
  exact⟨_,rfl,h3.out⟩
end
def DK.made (n:Nat):DK:=⟨(List.replicate n cZ).set 0 (eQ []),(List.replicate n cZ).set 0 (eQ []),[],false, -1⟩
theorem amY (n:Nat):(List.replicate n cZ).set 0 cZ=List.replicate n cZ:=by
 cases n with
 |zero=>rfl
 |succ n=>rfl
theorem af8 (n:Nat):(DK.fresh n).wr 0 cZ=⟨List.replicate n cZ,List.replicate n cZ,[(0,cZ)],false, -1⟩:=by unfold DK.wr DK.step DK.fresh;simp only;rw[if_neg aQ,amY];rfl
theorem atZ (n:Nat):((DK.fresh n).wr 0 cZ).fl=DK.fresh n:=by rw[af8];unfold DK.fl DK.step lI DK.fresh;simp only[List.foldl_cons,List.foldl_nil];rw[if_neg aQ,amY]
theorem apM (n:Nat):(DK.fresh n).fl=DK.fresh n:=by unfold DK.fl DK.step lI DK.fresh;simp only[List.foldl_nil];rw[if_neg aQ]
theorem ZI (n:Nat):(DK.fresh n).wr 0 (eQ [])=⟨(List.replicate n cZ).set 0 (eQ []),List.replicate n cZ,[(0,eQ [])],false, -1⟩:=by unfold DK.wr DK.step DK.fresh;simp only;rw[if_neg aQ];rfl
theorem aj9 (n:Nat):((DK.fresh n).wr 0 (eQ [])).fl=DK.made n:=by rw[ZI];unfold DK.fl DK.step lI DK.made;simp only[List.foldl_cons,List.foldl_nil];rw[if_neg aQ]
theorem at5 {n i:Nat} (h:i<n):bk (List.replicate n cZ) i=cZ:=by unfold bk;rw[gH,ar3,if_pos h];rfl
theorem BZ {w0 w:World} {As:List bK} {p nb:Nat} {D:DK} (i:Nat) (hD:D.ok nb) (h:Sep w0 w As) (hi:As[i]? =some (aN p D)):
  Calls Tryz.prog 84 #[pV p] w fun e w'=>e= .returned (iV nb)/\w'=w:=by
 obtain⟨A,c,hn⟩:=h.af9 i hD hi;exact TM hn rfl hD.few
theorem agA :∀args w,(callFunc 137 args).run Tryz.prog w= .ok (.enter 137 args) w:=Go.Proofs.enters_of Tryz.func137 fZ rfl
theorem apN {w:World} {be bl:Nat} {u:FrameMode} (hc:w.cell? ⟨be,0,none⟩=some (iV 0)):
  CallsD Tryz.prog 137 #[pV be,pV bl] u w fun e u' w'=>u'=u/\e= .returned (.tuple #[])/\w'=w:=by
 refine(callsD_of_wp (R:=fun e w'=>e= .returned (.tuple #[])/\w'=w) Tryz.func137 rfl ?_).mono ?_
 ·simp only[Tryz.ntmps137,mK,nV,kW,Nat.reduceAdd,Nat.reduceSub,HV,HY,H6,HZ,pG,pF];go_wp2_with fail
  go_end0
  exact⟨rfl,rfl⟩
 rintro e u' w' ⟨h1,h2,h3⟩;exact⟨h1,h2,h3⟩
section
variable {w0 w:World} {R:List bK}
theorem Z32 {P:Prop} (h:P:=by have:=((h.bN 97 #[pV (bl+1+1)]).bN 39 #[iV 0]).bN 180 #[.iface 23 (pV p),.bool false];simp only[World.size_alloc,<-hbl]at this;exact Sep.dE [0,3,1,2] this aQ (by simp[aG,aI])):P:=h
theorem agB {p n:Nat} (h0:96<n) (h1:n<=4096) (h:Sep w0 w (aN p (DK.fresh n)::R)):
  Calls Tryz.prog 86 #[pV p] w fun e w'=>∃q,e= .returned (.tuple #[pV q,iV 0])/\Sep w0 w' (aG q p false::aN p (DK.made n)::R):=by
 obtain⟨bl,hbl⟩:∃b,b=w.heap.size:=⟨_,rfl⟩;obtain⟨D,hD⟩:∃D,D=DK.fresh n:=⟨_,rfl⟩;have hok:D.ok n:=by rw[hD];exact DK.af7 aD h1
 have hoff:D.off=false:=by rw[hD];rfl
 have hbk:D.back=[]:=by rw[hD];rfl
 have aoC:∀i,i<n->bk D.now i=cZ:=fun i hi=>by rw[hD];exact at5 hi
 obtain⟨D1,hD1⟩:∃D1,D1=D.wr 0 cZ:=⟨_,rfl⟩;have hok1:D1.ok n:=by rw[hD1];exact DK.amT hok aD eT
 have aBU:D1.off=false:=by rw[hD1,hD,af8]
 have aH9:D1.fl=D:=by rw[hD1,hD,atZ]
 have rH:D.fl=D:=by rw[hD,apM]
 obtain⟨D2,hD2⟩:∃D2,D2=D.wr 0 (eQ []):=⟨_,rfl⟩;have hok2:D2.ok n:=by rw[hD2];exact DK.amT hok aD (qO (ps:=[]) aQ)
 have UM:D2.off=false:=by rw[hD2,hD,ZI]
 have aC2:D2.fl=DK.made n:=by rw[hD2,hD,aj9]
 obtain⟨D3,hD3⟩:∃D3,D3=DK.made n:=⟨_,rfl⟩;rw[<-hD3]at aC2 ⊢;rw[<-hD]at h;have hS2:Hid (Sep w0 (((w.alloc (.cells #[pV (bl+1+1)] 97)).alloc (.cells #[iV 0] 39)).alloc (.cells #[.iface 23 (pV p),.bool false] 180)) (aG (bl+1+1) p false::aN p D::aI (bl+1) 0:: .box bl 97 #[pV (bl+1+1)]::R)):=Lh (by exact Z32);obtain⟨k0,gN,hk0,hk1,hk2⟩:=lM nX;have hmk:∀W,(Instr.makeSlice 35 (.int .i64 512) (.int .i64 512)).run Tryz.prog W= .ok (sV W.heap.size 512 512) (W.alloc (.cells (madeCells #[.int .u8 0] 512) 5)):=fun W=>qG (P:=Tryz.prog) 35 5 k0 (.int .u8 0) 1 Tryz.underlying35 gN hk0 hk1 hk2 rfl .i64 .i64 512 aD oH W
 have MN:∀(fn:Fn) (first cap:Array Value) (w:World),(Instr.makeFunc fn first cap).run Tryz.prog w= .ok (.func fn first cap) w:=fun _ _ _ _=>rfl
 have hon:Hid (∀W (As:List bK),Sep w0 W (aN p D::As)->Calls Tryz.prog 39 #[pV p] W fun e w'=>e= .returned (.bool true)/\w'=W):=Lh fun W As hW=>by have:=aj8 hW;rw[hoff]at this;exact this
 have hbs:Hid (∀W (As:List bK),Sep w0 W (aN p D::As)->Calls Tryz.prog 84 #[pV p] W fun e w'=>e= .returned (iV n)/\w'=W):=Lh fun W As hW=>BZ 0 hok hW rfl
 have q1:(n:Int)<=4096:=by omega
 have q0:(96:Int)<n:=by omega
 --the state while the blocks are read
 have hemp:Hid (∀W (As:List bK),Sep w0 W As->Sep w0 (W.alloc (.cells (madeCells #[.int .u8 0] 512) 5)) (aL (sV W.heap.size 512 512) cZ::As)):=Lh fun W As hW=>by have:=hW.made 5 (.int .u8 0) 512 oH;rw[dB eT,FZ];exact this
 have hw1:Hid (∀W v,Sep w0 W (aG (bl+1+1) p false::aN p D::aL v cZ::aI (bl+1) 0:: .box bl 97 #[pV (bl+1+1)]::R)->
   Calls Tryz.prog 138 #[pV (bl+1+1),iV 0,v] W fun e w'=>e= .returned (.tuple #[])/\Sep w0 w' (aG (bl+1+1) p false::aN p D1::aL v cZ::aI (bl+1) 0:: .box bl 97 #[pV (bl+1+1)]::R)):=Lh fun W v hW=>by
  have:=wC (i:=0) (bs:=cZ) hok aD eT (by rw[hbk];decide) (jB.part 0 rfl) hoff hW;rw[<-hD1]at this;exact this
 have hf1:Hid (∀W v,Sep w0 W (aG (bl+1+1) p false::aN p D1::aL v cZ::aI (bl+1) 0:: .box bl 97 #[pV (bl+1+1)]::R)->
   Calls Tryz.prog 134 #[pV (bl+1+1)] W fun e w'=>e= .returned (.tuple #[])/\Sep w0 w' (aG (bl+1+1) p false::aN p D::aL v cZ::aI (bl+1) 0:: .box bl 97 #[pV (bl+1+1)]::R)):=Lh fun W v hW=>by
  have:=qY hok1 aBU hW;rw[aH9]at this;exact this
 have hrd:Hid (∀W v (i:Nat),i<n->Sep w0 W (aG (bl+1+1) p false::aN p D::aL v cZ::aI (bl+1) 0:: .box bl 97 #[pV (bl+1+1)]::R)->
   Calls Tryz.prog 130 #[pV (bl+1+1),iV i] W fun e w'=>∃A c,e= .returned (.slice A 512 c)/\BytesAt w' (.slice A 512 c) cZ/\BytesAt w' v cZ/\Sep w0 w' (aG (bl+1+1) p false::aN p D::aL v cZ::aI (bl+1) 0:: .box bl 97 #[pV (bl+1+1)]::R)):=Lh fun W v i hi hW=>by
  refine(LQ hok hi hoff hW).mono ?_;rintro e w' ⟨u,rfl,h9⟩;rw[aoC i hi]at h9;obtain⟨A,c,e9⟩:=h9.eF 0 rfl;rw[eT]at e9;subst e9;exact⟨A,c,rfl,h9.rd 0 rfl,h9.rd 3 rfl,h9.drop 1⟩
 have hf2:Hid (∀W v,Sep w0 W (aG (bl+1+1) p false::aN p D::aL v cZ::aI (bl+1) 0:: .box bl 97 #[pV (bl+1+1)]::R)->
   Calls Tryz.prog 134 #[pV (bl+1+1)] W fun e w'=>e= .returned (.tuple #[])/\Sep w0 w' (aG (bl+1+1) p false::aN p D::aI (bl+1) 0:: .box bl 97 #[pV (bl+1+1)]::R)):=Lh fun W v hW=>by
  refine(qY hok hoff hW).mono ?_;rw[rH];rintro e w' ⟨rfl,h9⟩;exact⟨rfl,(Sep.dE [2,0,1,3,4] h9 aQ bM).drop 1⟩
 have hhd:Hid (∀W,Sep w0 W (aG (bl+1+1) p false::aN p D::aI (bl+1) 0:: .box bl 97 #[pV (bl+1+1)]::R)->Calls Tryz.prog 139 #[.slice none 0 0] W fun e w'=>∃u,e= .returned u/\Sep w0 w' (aG (bl+1+1) p false::aN p D::aL u (eQ [])::aI (bl+1) 0:: .box bl 97 #[pV (bl+1+1)]::R)):=Lh fun W hW=>by refine(UN (w:=W) (v:=.slice none 0 0) (ps:=[]) ⟨rfl,none,0,rfl,jL _,by unfold maxLen;omega,fun h=>absurd h aQ⟩ aQ (fun p hp=>by cases hp)).mono ?_;rintro e w' ⟨u,rfl,hS⟩;exact⟨u,rfl,Sep.dE [1,2,0,3,4] (hW.join hS) aQ bM⟩
 have hw2:Hid (∀W v,Sep w0 W (aG (bl+1+1) p false::aN p D::aL v (eQ [])::aI (bl+1) 0:: .box bl 97 #[pV (bl+1+1)]::R)->
   Calls Tryz.prog 138 #[pV (bl+1+1),iV 0,v] W fun e w'=>e= .returned (.tuple #[])/\Sep w0 w' (aG (bl+1+1) p false::aN p D2::aL v (eQ [])::aI (bl+1) 0:: .box bl 97 #[pV (bl+1+1)]::R)):=Lh fun W v hW=>by
  have:=wC (i:=0) (bs:=eQ []) hok aD (qO (ps:=[]) aQ) (by rw[hbk];decide) (jB.part 0 rfl) hoff hW;rw[<-hD2]at this;exact this
 have hf3:Hid (∀W v,Sep w0 W (aG (bl+1+1) p false::aN p D2::aL v (eQ [])::aI (bl+1) 0:: .box bl 97 #[pV (bl+1+1)]::R)->
   Calls Tryz.prog 134 #[pV (bl+1+1)] W fun e w'=>e= .returned (.tuple #[])/\Sep w0 w' (aG (bl+1+1) p false::aN p D3::aL v (eQ [])::aI (bl+1) 0:: .box bl 97 #[pV (bl+1+1)]::R)):=Lh fun W v hW=>by
  have:=qY hok2 UM hW;rw[aC2]at this;exact this
 have hcl:Hid (∀W Y,Sep w0 W (Y++ .box bl 97 #[pV (bl+1+1)]::R)->W.cell? ⟨bl,0,none⟩=some (pV (bl+1+1))):=Lh fun W Y hW=>by(have hi:(Y++ .box bl 97 #[pV (bl+1+1)]::R)[Y.length]? =some (.box bl 97 #[pV (bl+1+1)]):=by simp);exact hW.bC _ hi 0
 have hc2:=hcl.out _ [_,_,_] hS2.out;have uG:=hon.out _ _ (Sep.dE [1,0,2,3] hS2.out aQ bM);have at6:=hbs.out _ _ (Sep.dE [1,0,2,3] hS2.out aQ bM);have hE2:=hemp.out _ _ hS2.out;simp only[World.size_alloc]at hE2;have dJ:Hid (Sep w0 _ (aG (bl+1+1) p false::aN p D::aL _ cZ::aI (bl+1) 0:: .box bl 97 #[pV (bl+1+1)]::R)):=Lh (Sep.dE [1,2,0,3,4] hE2 aQ bM);have apO:=hw1.out _ _ dJ.out;have hc3:=hcl.out _ [_,_,_,_] dJ.out;clear hE2 hemp hw1 hok hok1 hok2 hoff aBU UM hbk aoC aH9 rH aC2 hD hD1 hD2 hD3 h h0 h1 dJ;rw[hbl]at*
 go_enter_defers Tryz.func86,Tryz.ntmps86
 go_wp2_with(first |(go_at_call 39;refine uG.mono ?_;rintro e w9 ⟨rfl,h9⟩;obtain rfl:=h9.symm;clear uG)|(go_at_call 84;refine at6.mono ?_;rintro e w9 ⟨rfl,h9⟩;obtain rfl:=h9.symm;clear at6)|(go_at_call 138;refine apO.mono ?_;rintro e w8 ⟨rfl,h8⟩;(have c8:=hcl.out _ [_,_,_,_] h8);(have pX:=hf1.out _ _ h8);clear apO h8)|(go_at_call 134;refine pX.mono ?_;rintro e w7 ⟨rfl,h7⟩;replace h7:=Lh h7;clear pX c8));go_loopw[5] (fun iv wr=>∃k:Nat,96<=k/\k<=n/\iv=iV k/\Hid (Sep w0 wr (aG (w.heap.size+1+1) p false::aN p D::aL (sV (w.heap.size+1+1+1) 512 512) cZ::aI (w.heap.size+1) 0:: .box w.heap.size 97 #[pV (w.heap.size+1+1)]::R))) (fun iv _=>n-(intOf iv).toNat)
 case atStart=>exact⟨96,jL _,by omega,rfl,h7⟩
 obtain⟨k,aVU,hk,rfl,hS⟩:=hrel;clear h7;have hbk:=hbs.out _ _ (Sep.dE [1,0,2,3,4] hS.out aQ bM);by_cases hlt:k<n
 ·have hck:=hcl.out _ [_,_,_,_] hS.out.drew;have hrk:=hrd.out _ _ k hlt hS.out.drew;have hcv:(convert 35 9 (.slice (some ⟨w.heap.size+1+1+1,0,none⟩) 512 512)).run Tryz.prog wr.drew= .ok (.string ⟨cZ.toArray⟩) wr.drew:=jX (hS.out.drew.rd 2 rfl);(have j1:(k:Int)<n:=by omega);(have j0:(96:Int)<=k:=by omega);clear hS;go_wp2_with(go_at_call 84;refine hbk.mono ?_;rintro e w9 ⟨rfl,h9⟩;obtain rfl:=h9.symm;clear hbk);rename_i K1 hK1;refine fP ?_;refine aJ (S:=fun w'=>w'.cell? ⟨w.heap.size,0,none⟩=some (pV (w.heap.size+1+1))/\(convert 35 9 (sV (w.heap.size+1+1+1) 512 512)).run Tryz.prog w'= .ok (.string ⟨cZ.toArray⟩) w') 7 ?_;have hE:=And.intro hck hcv;refine aA 0 hE ?_;refine aA 1 hE ?_;refine aA 4 hE ?_;refine aA 5 hE ?_;(refine bG 2 fun K hK=>?_);go_simp;go_at_call 130;refine hrk.mono ?_;rintro e w5 ⟨A5,c5,rfl,hb5,hv5,h5⟩;have aVV:(convert 35 9 (.slice A5 512 c5)).run Tryz.prog w5= .ok (.string ⟨cZ.toArray⟩) w5:=jX hb5;have aNZ:(convert 35 9 (.slice (some ⟨w.heap.size+1+1+1,0,none⟩) 512 512)).run Tryz.prog w5= .ok (.string ⟨cZ.toArray⟩) w5:=jX hv5;have yB:=And.intro (hcl.out _ [_,_,_,_] h5) aNZ;replace h5:=Lh h5;clear hE hck hcv hrk hb5 hv5;dsimp only;refine hK _ _ (fun _=>yB) ?_;clear hK K;(try simp only[Act.put,gD]);refine aW 3 (fun _=>yB) ?_;refine aW 6 (fun _=>yB) ?_;refine aR fZ ?_ _;simp only[jT,Exit.then];apply hK1;(have hz:(cZ.toArray==cZ.toArray)=true:=by simp);(have hz2:(cZ.toArray !=cZ.toArray)=false:=by simp);go_wp2_with fail;go_roundw
  case rel=>exact⟨k+1,by omega,by omega,by go_num,h5⟩
  case measure=>(simp[intOf];omega)
 obtain rfl:k=n:=by omega
 have aIA:=hf2.out _ _ hS.out;have hc0:=hcl.out _ [_,_,_,_] hS.out;clear hS;go_wp2_with(first |(go_at_call 84;refine hbk.mono ?_;rintro e w9 ⟨rfl,h9⟩;obtain rfl:=h9.symm;clear hbk)|(go_at_call 134;refine aIA.mono ?_;rintro e w5 ⟨rfl,h5⟩;(have hc5:=hcl.out _ [_,_,_] h5.drew);replace h5:=Lh h5;clear aIA));refine fP ?_;refine aJ (S:=fun w'=>w'.cell? ⟨w.heap.size,0,none⟩=some (pV (w.heap.size+1+1))) 3 ?_;refine aA 0 hc5 ?_;refine bG 1 fun K hK=>?_
 go_simp;go_at_call 139;refine(hhd.out _ h5.out.drew).mono ?_;rintro e w6 ⟨u,rfl,h6⟩;have hc6:=hcl.out _ [_,_,_,_] h6;have aIB:=hw2.out _ _ h6;clear h5 hc5 h6;dsimp only;refine hK _ _ (fun _=>hc6) ?_;clear hK K;try simp only[Act.put,gD]
 refine bG 2 fun K hK=>?_
 go_simp;go_at_call 138;refine aIB.mono ?_;rintro e w8 ⟨rfl,h8⟩;have hc8:=hcl.out _ [_,_,_,_] h8;have aIC:=hf3.out _ _ h8;clear hc6 aIB h8;dsimp only;refine hK _ _ (fun _=>hc8) ?_;clear hK K;try simp only[Act.put,gD]
 refine aR fZ ?_ _;simp only[jT];go_wp2_with(go_at_call 134;refine aIC.mono ?_;rintro e w4 ⟨rfl,h4⟩;(have x1:=hcl.out _ [_,_,_,_] h4);(have x2:=h4.bF 4 rfl 0);(have h3:=h4.bS 4 rfl 0 (pV (w.heap.size+1+1)));(have x3:=h3.bC 3 rfl 0);(have x4:=h3.bF 3 rfl 0);(have h2:=h3.bS 3 rfl 0 (.int .i64 0));replace h2:=Lh h2;clear aIC h3 h4);refine nS ?_;have ec:=h2.out.bC 3 rfl 0;have el:=h2.out.bC 4 rfl 0;try simp only[gA,gB]at ec el
 refine leaves_cons (u:=.returning) bM (qK _ _ agA) ?_;refine(apN ec).mono ?_;rintro e u' w' ⟨rfl,rfl,rfl⟩;refine⟨.tuple #[pV (w.heap.size+1+1),iV 0],by simp[results,Tryz.results86,go_sem,ec,el],_,rfl,?_⟩;exact(Sep.dE [2,3,4,0,1] h2.out aQ bM:Sep w0 _ (_::_::_::aG (w.heap.size+1+1) p false::aN p D3::R)).drop 3
end
end Go.Proofs.YteihmbaimbogaaaGreat
