/- DocUp is true for every list of numbers; no condition. -/
import Derived.Test.YtjoadepfokpcoaaGreatDoorCards
import Derived.Test.YtjoadepfokpcoaaGreatDoorTie
import Derived.WalkKit
import Derived.ProofKit
import Derived.OpenShut
import Derived.Deep.DeepHandedRow
import Derived.Deep.DeepWitnessRowRef
import Derived.Lib.LaidIn
import Derived.ChangeSlices
import Derived.ReadAgain
import Derived.Carry
import Derived.LaidSub
import Derived.Test.YtjoadepfokpcoaaGreatDoorDuG
set_option linter.unusedSimpArgs false
set_option linter.unusedVariables false
set_option linter.constructorNameAsVariable false
set_option linter.unnecessarySimpa false
open Go Go.Ev Go.VL
namespace Go.Proofs.YtjoadepfokpcoaaGreatDoor
section
variable {X : Ovr} {G : Gt}
theorem LD(t:List Nd)(ht:t.length<=32)(c0:Option Nat)(k:Nat)(hk:k<t.length)(vh:VH)(vn:Nat)(Q:FQ)
  (hQ:∀b,Q (.exit 0) [(0,.sl 7 (t.map aP) c0),(1,.int .i64 (k:Int)),(5,.int .i64 (aI t k:Int)),(32,.bool b)] vh vn):
  ∀(m j:Nat),aI t k-j=m->k<j->j<=aI t k->
  aC Tryz.prog X G (.loop OK) [(0,.sl 7 (t.map aP) c0),(1,.int .i64 (k:Int)),(5,.int .i64 (j:Int))] vh vn Q
 |m,j,hm,h1,h2=>by
  have hlen:Int.ofNat (t.map aP).length=(t.length:Int):=by simp
  obtain⟨a1,a2,a3,a4⟩:=A7 t k hk;refine aC.round ?_
  conv=>whnf
  rw[hlen];refine aA.mk (fun c1=>?_) (fun c1=>?_)
  ·have hlt:j<t.length:=by have:=of_decide_eq_true c1;omega
   conv=>whnf
   refine Get.mk (j,aP t[j]) ⟨rfl,by simp[hlt]⟩ ?_
   conv=>whnf
   refine Get.mk (k,aP t[k]) ⟨rfl,by simp[hk]⟩ ?_
   conv=>whnf
   have ej:=tF hlt;have ek:=tF hk;have e:wr .i64 ((j:Int)+1)=((j+1:Nat):Int):=by rw[aF]<;>omega
   by_cases hj:j=aI t k
   ·have:=a4 (by omega)
    subst hj;refine aA.mk (fun h=>absurd (of_decide_eq_true h) (by omega)) (fun _=>?_)
    conv=>whnf
    exact hQ _
   ·have:=a3 j h1 (by omega)
    refine aA.mk (fun _=>?_) (fun h=>absurd (of_decide_eq_false h) (by omega))
    conv=>whnf
    rw[e];exact LD t ht c0 k hk vh vn Q hQ (m-1) (j+1) (by omega) (by omega) (by omega)
  ·have:=of_decide_eq_false c1;have hj:j=aI t k:=by omega
   subst hj
   conv=>whnf
   exact hQ _
termination_by m=>m
decreasing_by omega
theorem LE(hX:X oK=none)(t:List Nd)(ht:t.length<=32)(c0:Option Nat)(k:Nat)(hk:k<t.length)(vh:VH)(vn:Nat):
  aE Tryz.prog X G oK [.sl 7 (t.map aP) c0,.int .i64 (k:Int)] vh vn fun v vh' vn'=>vh'=vh/\vn<=vn'/\v=.int .i64 (aI t k:Int):=by
 have hlen:Int.ofNat (t.map aP).length=(t.length:Int):=by simp
 obtain⟨a1,a2,a3,a4⟩:=A7 t k hk;have e:wr .i64 ((k:Int)+1)=((k+1:Nat):Int):=by rw[aF]<;>omega
 apply aE4.run hX
 conv=>whnf
 rw[hlen];refine aA.mk (fun h=>absurd (of_decide_eq_true h) (by omega)) (fun _=>?_)
 conv=>whnf
 rw[e];refine LD t ht c0 k hk vh _ _ (fun b=>?_) _ (k+1) rfl (by omega) (by omega)
 conv=>whnf
 exact Get.mk vh (fun _ _ h=>h) ⟨rfl,Nat.le_refl _,rfl⟩
end
open Go.Num
section
def atV(t:List Nd)(k i:Nat):Int:=if (i:Int)<=dep t k then (anc t k i:Int) else -1
theorem ZQ{t:List Nd}{k:Nat}(h:0<=dep t k):atV t k 0=(k:Int):=by
 unfold atV;rw[if_pos (by omega)]
 rfl
attribute [local irreducible] aO wd bA aM pc dE bN rkN cQ dT ex upN dS mR clB opB aQ aI eZ eM cT nA nH upA dep nI anc atV
variable {X : Ovr} {G : Gt}
theorem aJn{t:List Nd}{k i:Nat}(h:(i:Int)<=dep t k):upA t k (i:Int)=(anc t k i:Int):=by
 unfold upA;rw[if_neg (by omega)]
 rfl
theorem V1{t:List Nd}{k:Nat}{n:Int}(h:n<0\/dep t k<n):upA t k n= -1:=by unfold upA;rw[if_pos h]
set_option maxRecDepth 100000 in
theorem J7(H:qQ X)(hE:X oK=none)(hG:G j8=some tzL){t:List Nd}(hs:dG t 0=true)(hl:t.length<=32)(c0:Option Nat)(bd bp:Nat)(k:Nat)(hk:k<t.length)(Q:FQ)
  (hQ:∀vh' vn' i b,iT vh' bd bp t->Q (.exit 2) [(3,.sl 7 (t.map aP) c0),(4,.ptr bd 0),(6,.int .i64 (k:Int)),(7,.int .i64 (-1)),(8,.int .i64 i),(35,.bool b)] vh' vn'):
  ∀(m i:Nat),(dep t k).toNat+1-i=m->(i:Int)<=dep t k+1->∀(vh:VH) (vn:Nat),iT vh bd bp t->∀a:Int,a=atV t k i->
  aC Tryz.prog X G (.loop OA) [(3,.sl 7 (t.map aP) c0),(4,.ptr bd 0),(6,.int .i64 (k:Int)),(7,.int .i64 a),(8,.int .i64 (i:Int))] vh vn Q
 |m,i,hm,hi,vh,vn,D,a,ha=>by
  have hp:=cA hs (k:=k) (by omega)
  have ek:=tF hk;have e:wr .i64 ((i:Int)+1)=((i+1:Nat):Int):=by rw[aF]<;>omega
  refine aC.round ?_
  conv=>whnf
  refine Get.mk (k,aP t[k]) ⟨rfl,by simp[hk]⟩ ?_
  conv=>whnf
  by_cases hc:(i:Int)<=dep t k
  ·refine aA.mk (fun _=>?_) (fun h=>absurd (of_decide_eq_false h) (by omega))
   obtain⟨b1,b2,_⟩:=vZ hs hk i hc;have b3:=ZH hs hk i hc;have b4:=ZI hs hk i hc;have hat:anc t k i<t.length:=by omega
   have ev:atV t k i=(anc t k i:Int):=by unfold atV;rw[if_pos hc]
   have ev2:atV t k (i+1)=eZ t (anc t k i):=by
    rw[b4];unfold atV;by_cases h:(i:Int)<dep t k
    ·rw[if_pos h,if_pos (by omega)]
    ·rw[if_neg h,if_neg (by omega)]
   rw[ev] at ha;subst ha
   conv=>whnf
   refine (DD H hG hs hl D k hk (i:Int)).mono fun v vh1 n1 he=>?_;obtain⟨e1,D1,e3⟩:=he;rw[aJn hc] at e3;rw[e1,e3];clear e1 e3
   conv=>whnf
   refine aA.mk (fun h=>absurd h (lQ rfl)) (fun _=>?_)
   conv=>whnf
   refine (LE hE t hl c0 (anc t k i) hat _ _).mono fun v vh2 n2 he=>?_;obtain⟨e1,e2,e3⟩:=he;rw[e1,e3];clear e1 e3
   conv=>whnf
   refine (LE hE t hl c0 k hk _ _).mono fun v vh3 n3 he=>?_;obtain⟨e1,e2',e3⟩:=he;rw[e1,e3];clear e1 e3
   conv=>whnf
   refine aA.mk (fun h=>absurd (of_decide_eq_true h) (by omega)) (fun _=>?_)
   conv=>whnf
   refine (WY H hG hs hl D1 (anc t k i) hat).mono fun v vh4 n4 he=>?_;obtain⟨e1,D4,e3⟩:=he;rw[b2] at e3;rw[e1,e3];clear e1 e3
   conv=>whnf
   refine Get.mk (k,aP t[k]) ⟨rfl,by simp[hk]⟩ ?_
   conv=>whnf
   have es:wr .i64 (t[k].d-(i:Int))=dep t k-i:=by rw[aF]<;>omega
   rw[es];refine aA.mk (fun h=>absurd h (lQ rfl)) (fun _=>?_)
   conv=>whnf
   refine (uW H hG hs hl D4 (anc t k i) hat).mono fun v vh5 n5 he=>?_;obtain⟨e1,D5,e3⟩:=he;rw[<-ev2] at e3;rw[e1,e3];clear e1 e3
   conv=>whnf
   rw[e];exact J7 H hE hG hs hl c0 bd bp k hk Q hQ (m-1) (i+1) (by omega) (by omega) vh5 _ D5 _ rfl
  ·refine aA.mk (fun h=>absurd (of_decide_eq_true h) (by omega)) (fun _=>?_)
   have ev:atV t k i= -1:=by unfold atV;rw[if_neg hc]
   rw[ev] at ha;subst ha
   conv=>whnf
   exact hQ vh vn _ _ D
termination_by m=>m
decreasing_by omega
set_option maxRecDepth 100000 in
theorem J6(H:qQ X)(hE:X oK=none)(hG:G j8=some tzL){t:List Nd}(hs:dG t 0=true)(hl:t.length<=32)(c0:Option Nat)(bd bp:Nat)(Q:FQ)
  (hQ:∀vh' vn' i b,iT vh' bd bp t->Q (.exit 0) [(3,.sl 7 (t.map aP) c0),(4,.ptr bd 0),(6,.int .i64 i),(25,.bool b)] vh' vn'):
  ∀(m k:Nat),t.length-k=m->k<=t.length->∀(vh:VH) (vn:Nat),iT vh bd bp t->
  aC Tryz.prog X G (.loop N9) [(3,.sl 7 (t.map aP) c0),(4,.ptr bd 0),(6,.int .i64 (k:Int))] vh vn Q
 |m,k,hm,hk,vh,vn,D=>by
  have hlen:Int.ofNat (t.map aP).length=(t.length:Int):=by simp
  refine aC.round ?_
  conv=>whnf
  rw[hlen];refine aA.mk (fun c1=>?_) (fun c1=>?_)
  ·have hlt:k<t.length:=by have:=of_decide_eq_true c1;omega
   have hp:=cA hs (k:=k) (by omega)
   have ek:=tF hlt;have e:wr .i64 ((k:Int)+1)=((k+1:Nat):Int):=by rw[aF]<;>omega
   have ed:wr .i64 (t[k].d+1)=dep t k+1:=by rw[aF]<;>omega
   conv=>whnf
   refine J7 H hE hG hs hl c0 bd bp k hlt _ (fun vh1 n1 i b D1=>?_) _ 0 rfl (by omega) vh _ D _ (ZQ (by omega)).symm
   conv=>whnf
   refine Get.mk (k,aP t[k]) ⟨rfl,by simp[hlt]⟩ ?_
   conv=>whnf
   rw[ed];refine (DD H hG hs hl D1 k hlt (dep t k+1)).mono fun v vh2 n2 he=>?_;obtain⟨e1,D2,e3⟩:=he;rw[V1 (.inr (by omega))] at e3
   rw[e1,e3];clear e1 e3
   conv=>whnf
   refine (DD H hG hs hl D2 k hlt (-1)).mono fun v vh3 n3 he=>?_;obtain⟨e1,D3,e3⟩:=he;rw[V1 (.inl (by omega))] at e3
   rw[e1,e3];clear e1 e3
   conv=>whnf
   rw[e];exact J6 H hE hG hs hl c0 bd bp Q hQ (m-1) (k+1) (by omega) (by omega) vh3 _ D3
  ·conv=>whnf
   exact hQ vh vn _ _ D
termination_by m=>m
decreasing_by omega
theorem W4{PN:List Nat->List Nat->Prop}{PV PT:List Nat->Prop}(B:C4 X G PN PV PT)(hX:X DG=none)(hE:X oK=none)(ls:List Int)(vh:VH)(vn:Nat):
  aE Tryz.prog X G DG [.sl 1 (ls.map gS) none] vh vn fun v _ _=>v=.bool true:=by
 apply aEA.run hX
 conv=>whnf
 refine (KM B.K ls vh vn).mono fun v vh1 n1 he=>?_;obtain⟨_,_,t,e3,M⟩:=he;rw[e3];clear e3;have hR:=M.rooted;have hs:=M.steps;have hl:=M.len
 conv=>whnf
 refine (KX B.H.toXNew B.lib t (M.treeB B.hM) none vh1 n1).mono fun v vh2 n2 he=>?_;obtain⟨bd,bp,bw,bn,e1,N,_,_,_,_⟩:=he;rw[e1];clear e1;have D:=N.doc
 conv=>whnf
 refine J6 B.H hE B.hG hs hl none bd bp _ (fun vh3 n3 i b D3=>?_) _ 0 rfl (Nat.zero_le _) vh2 n2 D
 conv=>whnf
 refine (B.told vh3 n3).mono fun v vh' vn' he=>?_;obtain⟨e1,e2,e3⟩:=he;rw[e1,e2,e3];clear e1 e2 e3
 conv=>whnf
 exact Get.mk _ (fun _ _ h=>h) rfl
end
section
open Go Go.Ev Go.VL Go.Lib
theorem aCA (W : World) (hsh : W.ShapedOpen Tryz.prog) (hD : VarReads Tryz.prog W "math/bits.deBruijn64tab" (tabData .u8 dbZ)) (h0 : VarReads Tryz.prog W "unicode/utf8.first" firstData) (h1 : VarReads Tryz.prog W "unicode/utf8.acceptRanges" acceptData) {v : Value} {ls : List Int} (hv : qJ W v ls) :
  Calls Tryz.prog 4 #[v] W fun e w'=>e=.returned (.bool true)/\Go.RowKit.Below W.heap.size W w':=by
 obtain⟨m,σ,h,nx,u,S,hd,hr⟩:=VM hsh hD h0 h1 hv;exact V0 (args:=[v]) (MM m) GB Tryz.func4 (c:=Tryz.f4.body.getD .skip) (by kernel_rfl) S.rh S.bd S.gl S.ro S.gt (vs:=[.sl 1 (ls.map gS) none]) (us:=[u]) (vn:=0) (.cons _ _ _ _ hd .nil) (.cons _ _ _ _ hr .nil) (W4 (M7 m) rfl rfl ls _ 0)
end
section
open Go Go.Ev Go.VL Go.ChangeShapes Go.WideShapes Go.ChangeAt Go.RowKit
namespace LDocUp
theorem E7:Tryz.prog.cellsOf 272=5:=by kernel_rfl
theorem E5:Tryz.prog.cellsOf 194=1:=by kernel_rfl
theorem E6:Tryz.prog.cellsOf 270=3:=by kernel_rfl
theorem c21:Tryz.prog.cellsOf 21=1:=by kernel_rfl
theorem own:ownKnob Tryz.prog.godebug=none:=by kernel_rfl
noncomputable def i6(os:Os):World:=
 let N:=(World.settled Tryz.prog os).heap.size;let w0:=World.holding Tryz.prog os ⟨#[.cells (gJ 4 Rows.laid_unicode_caseOrbit).toArray 251,.cells Lib.caseCells5 272],#[],[]⟩;let h1:=Go.Ev.putD w0.heap 10 (gJ 4 Rows.laid_math_bits_deBruijn32tab).toArray;let h2:=Go.Ev.putD h1 0 (gJ 4 Rows.laid_math_bits_deBruijn64tab).toArray;let h3:=Go.Ev.putD h2 7 (gJ 4 Rows.laid_internal_strconv_uint64pow10).toArray;let h4:=Go.Ev.putD h3 2 (gJ 4 Rows.laid_unicode_utf8_acceptRanges).toArray;let h5:=Go.Ev.putD h4 4 (gJ 4 Rows.laid_unicode_asciiFold).toArray
 let h6:=Go.Ev.putD h5 5 #[.slice (some ⟨N+0,0,none⟩) (CM Rows.laid_unicode_caseOrbit) (CM Rows.laid_unicode_caseOrbit)];let h7:=Go.Ev.putD h6 6 #[.slice (some ⟨N+1,0,none⟩) Lib.caseA.size Lib.caseA.size];let h8:=Go.Ev.putD h7 1 (gJ 4 Rows.laid_unicode_utf8_first).toArray
 {w0 with heap:=h8}
theorem HI (os : Os) : LaidIn Tryz.prog ((i6 os).forCall (fun _ _ => 0) ⟨#[], #[.slice none 0 0], []⟩).memory [("math/bits.deBruijn32tab", Rows.laid_math_bits_deBruijn32tab), ("math/bits.deBruijn64tab", Rows.laid_math_bits_deBruijn64tab), ("internal/strconv.uint64pow10", Rows.laid_internal_strconv_uint64pow10), ("unicode/utf8.acceptRanges", Rows.laid_unicode_utf8_acceptRanges), ("unicode.asciiFold", Rows.laid_unicode_asciiFold), ("unicode.caseOrbit", Rows.laid_unicode_caseOrbit)] [10, 0, 7, 2, 4, 5, (World.settled Tryz.prog default).heap.size + 0] :=
 LaidIn.of_run _ 8 (by kernel_rfl) (by kernel_rfl) (by kernel_rfl) (by kernel_rfl)
theorem HH (os : Os) : LaidIn Tryz.prog ((i6 os).forCall (fun _ _ => 0) ⟨#[], #[.slice none 0 0], []⟩).memory [("unicode/utf8.first", Rows.laid_unicode_utf8_first)] [1] :=
 LaidIn.of_run _ 8 (by kernel_rfl) (by kernel_rfl) (by kernel_rfl) (by kernel_rfl)
theorem HF (os : Os) : LaidIn Tryz.prog ((i6 os).forCall (fun _ _ => 0) ⟨#[], #[.slice none 0 0], []⟩).memory [("unicode.CaseRanges", Pinned.caseRanges)] [6, ((World.settled Tryz.prog default).heap.size + 1)] := by
 refine PM (tS:=254) (tR:=272) (t:=272) (by kernel_rfl) (by kernel_rfl) (by kernel_rfl) (by kernel_rfl) ?_ (of_decide_eq_true (by kernel_rfl)) (by kernel_rfl) (by kernel_rfl)
 intro x hw;simp only[Lib.rowWf,Bool.and_eq_true] at hw;obtain⟨⟨⟨⟨w0,w1⟩,w2⟩,w3⟩,w4⟩:=hw;have r3:List.range 3=[0,1,2]:=rfl;simp[DataW.trod,Tryz.underlying272,Tryz.underlying194,Tryz.underlying270,Tryz.underlying21,E7,E5,E6,c21,Lib.cells5,Lib.rowData,w0,w1,w2,w3,w4,r3]
theorem HG(os:Os):laidMet Tryz.prog Rows.docUpRow.laid ((i6 os).forCall (fun _ _=>0) ⟨#[],#[.slice none 0 0],[]⟩).memory:=LaidIn.met ((HI os).append ((HF os).append (HH os) (by kernel_rfl)) (by kernel_rfl))
theorem reads(os:Os){H:Type}(enc:TypeId×Value->H):∃places,DataW.whole enc Tryz.prog ((i6 os).forCall (fun _ _=>0) ⟨#[],#[.slice none 0 0],[]⟩).memory Tryz.f4.params.toList Rows.docUpSpec.vars false (#[.slice none 0 0]:Array Value).toList 8=some ([.nil],[],places):=⟨[],by kernel_rfl⟩
theorem HE:laidOutB Tryz.prog=true:=by kernel_rfl
theorem FV:Tryz.prog.cellsOf 3=1:=by kernel_rfl
theorem G1:Rows.laid_unicode_utf8_first=Lib.firstData:=by kernel_rfl
theorem EE:Rows.laid_unicode_utf8_acceptRanges=Lib.acceptData:=by kernel_rfl
theorem GD:(Rows.laid_math_bits_deBruijn64tab:DataW Unit)=Lib.tabData .u8 dbZ:=by kernel_rfl
theorem IU {W : World} (hL : laidMetH Tryz.prog Rows.docUpRow.laid W) : Lib.VarReads Tryz.prog W "math/bits.deBruijn64tab" (Lib.tabData .u8 dbZ) := by
 rw[<-GD];exact Lib.laidMet.reads (laidMetH_iff.1 hL).1 (List.mem_filter.2 ⟨.tail _ (.head _),by kernel_rfl⟩)
theorem IS {W : World} (hL : laidMetH Tryz.prog Rows.docUpRow.laid W) : Lib.VarReads Tryz.prog W "unicode/utf8.first" Lib.firstData := by
 rw[<-G1];exact Lib.laidMet.reads (laidMetH_iff.1 hL).1 (List.mem_filter.2 ⟨.tail _ (.tail _ (.tail _ (.tail _ (.tail _ (.tail _ (.tail _ (.head _))))))),by kernel_rfl⟩)
theorem IT {W : World} (hL : laidMetH Tryz.prog Rows.docUpRow.laid W) : Lib.VarReads Tryz.prog W "unicode/utf8.acceptRanges" Lib.acceptData := by
 rw[<-EE];exact Lib.laidMet.reads (laidMetH_iff.1 hL).1 (List.mem_filter.2 ⟨.tail _ (.tail _ (.tail _ (.head _))),by kernel_rfl⟩)
set_option maxRecDepth 100000 in
theorem GA(H:Type)(enc:TypeId×Value->H)(W:World)(base:Nat)(args:Array Value)(ds gs:List (DataW H))(before:List MemPlace)
  (hval:∀(j:Nat) t v,Tryz.f4.params[j]? =some t->args[j]? =some v->Value.okWide Tryz.prog W .any base t v)
  (hW:DataW.Whole enc Tryz.prog Tryz.f4.params.toList Rows.docUpSpec.vars false W args.toList ds gs before) (hL:laidMetH Tryz.prog Rows.docUpRow.laid W) (hsh:W.ShapedOpen Tryz.prog):
  Calls Tryz.prog 4 args W fun e W'=>∃v,e=.returned v/\Rows.docUpSpec.post enc Tryz.prog Tryz.f4 false true false false W args v W':=by
 have hW':=hW;obtain⟨p,q,hA0,hV,rfl,hfz,hnd⟩:=hW;have hA:DataW.TrodAll enc Tryz.prog W 0 (fun _=>true) true Tryz.f4.params.toList args.toList ds p:=hA0;rw[Tryz.params4] at hA hval;obtain⟨v0,vs0,d0,ds0,p0,q0,hargs0,rfl,rfl,h0,r0⟩:=trodAll_cons hA;obtain⟨rfl,rfl,rfl⟩:=trodAll_nil r0;obtain rfl:args=#[v0]:=by apply Array.toList_inj.1;rw[hargs0]
 obtain⟨rfl,rfl⟩:=trodVars_none hV;clear hA0;have hlt0:∀x∈p0,x.block<W.heap.size:=fun x hx=>hW'.lt x (by simp[hx])
 obtain⟨ls0,hv0⟩:∃ls,qJ W v0 ls:=SC Tryz.underlying22 Tryz.underlying3 FV (hval 0 22 v0 rfl rfl) h0;simp only[List.append_nil] at hW';refine (aCA W hsh (IU hL) (IS hL) (IT hL) hv0).mono fun e W' ⟨he,hg⟩=>?_;subst he
 exact⟨_,rfl,UE (pa:=p0) (pv:=[]) hW' (fun _ _ _=>trodAll_cons_mk (shut_bool Tryz.underlying4 _) trodAll_mk0) (fun sp hs=>trodAll_mk1 (WideElems.Trod_stays HE (by kernel_rfl) (of_decide_eq_true (by kernel_rfl)) h0 (fun x hx=>hg.same (hlt0 x hx)) fun x hx=>hs x hx)) (fun _ _=>rfl) (by simp) hg (ok_one (by kernel_rfl) rfl (okWide_bool_mk Tryz.underlying4 _))⟩
set_option maxRecDepth 100000 in
theorem HJ(os:Os)(started:os.Started)(H:Type)(enc:TypeId×Value->H)(F:Stop.Interp):
  ReturnsInHanded {} Tryz.checked os 4 .any ((OpenSpec.ofChange Rows.docUpSpec).preRow enc Tryz.prog Tryz.f4 Rows.docUpRow.domain false Rows.docUpRow.laid) (((OpenSpec.ofChange Rows.docUpSpec).at F).post enc Tryz.prog Tryz.f4 false true false false):=by
 obtain⟨places,hx⟩:=reads os enc;refine returnsInHanded_of_row (C:=Tryz.checked) (s:=OpenSpec.ofChange Rows.docUpSpec) own started (by kernel_rfl) Tryz.func4
  (witness_row_atRef (enc:=enc) (C:=Tryz.checked) false (i6 os) #[.slice none 0 0] rfl (by kernel_rfl) (by kernel_rfl) (by kernel_rfl)
   (OpenSpec.preRow_of_cond 8 hx (by kernel_rfl) (fun k hk=>by cases hk) (by kernel_rfl) (HG os))) ?_
 intro W base args ds gs before hval hW _ _ _ hL hsh _;exact GA H enc W base args ds gs before hval hW hL hsh
theorem I1:Rows.DocUpSaid:=
 OpenClaim.holds_of_cond 4 Tryz.f4 rfl rfl rfl rfl rfl rfl rfl ⟨rfl,rfl,rfl,rfl,rfl⟩ rfl rfl rfl rfl rfl (by kernel_rfl) Tryz.func4 (by kernel_rfl)
  (of_decide_eq_true (by kernel_rfl)) (by unfold Func.isWrapper;first|(rw[if_pos (by decide+kernel)];kernel_rfl)|(rw[if_neg (by decide+kernel)];exact⟨rfl,rfl⟩))
  (fun os started H enc _ F=>by rw[OpenClaim.pre_eq_preRow];exact HJ os started H enc F)
theorem plain (f : FuncId) (fn : Func) (hf : Tryz.pinned.checked.prog.funcNamed "bracken/brackenlaw19.DocUp" = some f) (hfn : Tryz.pinned.checked.prog.funcs[f]? = some fn) :
  true=Tryz.pinned.checked.prog.looks []/\∀(j:Nat) t,fn.params[j]? =some t->Tryz.pinned.checked.prog.wantsStandIn t=false:=by
 obtain rfl : f = 4 := Option.some.inj ((show Tryz.prog.funcNamed "bracken/brackenlaw19.DocUp" = some 4 by kernel_rfl).symm.trans hf) |>.symm
 obtain rfl:fn=Tryz.f4:=(Option.some.inj (Tryz.func4.symm.trans hfn)).symm;refine⟨by kernel_rfl,fun j t ht=>?_⟩
 rw[Tryz.params4] at ht;have hm:=Array.mem_of_getElem? ht;obtain rfl:t=22:=by simpa using hm
 exact (show Tryz.prog.wantsStandIn 22=false by kernel_rfl)
theorem card:Rows.DocUpCardSaid:=Claim7.holds_tied_plain_at .later [] _ _ _ _ I1 (fun _ h=>by cases h) (by kernel_rfl) (fun _ h=>by cases h) docUp_row_tie rfl ⟨rfl,rfl⟩ (by kernel_rfl) rfl plain (by kernel_rfl)
#print axioms card
end LDocUp
end
end Go.Proofs.YtjoadepfokpcoaaGreatDoor
