/- DocSides is true for every list of numbers; no condition. -/
import Derived.Test.YtjoadepfokpcoaaGreatDoorCards
import Derived.Test.YtjoadepfokpcoaaGreatDoorTie
import Derived.WalkKit
import Derived.ProofKit
import Derived.OpenShut
import Derived.Deep.DeepHandedRow
import Derived.Deep.DeepWitnessRowRef
import Derived.Lib.LaidIn
import Derived.ChangeSlices
import Derived.ReadAgain
import Derived.Carry
import Derived.LaidSub
import Derived.Test.YtjoadepfokpcoaaGreatDoorDuG
set_option linter.unusedSimpArgs false
set_option linter.unusedVariables false
set_option linter.constructorNameAsVariable false
set_option linter.unnecessarySimpa false
open Go Go.Ev Go.VL Go.Num
namespace Go.Proofs.YtjoadepfokpcoaaGreatDoor
section
theorem TC{t:List Nd}{k:Nat}(h:¬0<=cT t k):cT t k= -1:=by
 unfold cT at h ⊢;split
 ·rename_i hc;rw[if_pos hc] at h;omega
 ·rfl
theorem UG{t:List Nd}{k:Nat}(h:¬0<=eM t k):eM t k= -1:=by
 unfold eM at h ⊢;split
 ·rename_i hc;rw[if_pos hc] at h;omega
 ·rfl
attribute [local irreducible] aO wd bA aM pc dE bN rkN cQ dT ex upN dS mR clB opB aQ aI eZ eM cT nA nH upA dep nI
variable {X : Ovr} {G : Gt}
theorem bnn{p:Prop}[Decidable p](h:p):¬((!(true==decide p))=true):=by simp[h]
theorem AK{p:Prop}[Decidable p](h:¬p):¬((!(false==decide p))=true):=by simp[h]
set_option maxRecDepth 100000 in
theorem J5(H:qQ X)(hG:G j8=some tzL){t:List Nd}(hR:DX t)(hs:dG t 0=true)(hl:t.length<=32)(c0:Option Nat)(bd bp:Nat)(Q:FQ)
  (hQ:∀vh' vn' i b,iT vh' bd bp t->Q (.exit 0) [(3,.sl 7 (t.map aP) c0),(4,.ptr bd 0),(6,.int .i64 i),(26,.bool b)] vh' vn'):
  ∀(m k:Nat),t.length-k=m->0<k->k<=t.length->∀(vh:VH) (vn:Nat),iT vh bd bp t->
  aC Tryz.prog X G (.loop N7) [(3,.sl 7 (t.map aP) c0),(4,.ptr bd 0),(6,.int .i64 (k:Int))] vh vn Q
 |m,k,hm,h0,hk,vh,vn,D=>by
  have hlen:Int.ofNat (t.map aP).length=(t.length:Int):=by simp
  refine aC.round ?_
  conv=>whnf
  rw[hlen];refine aA.mk (fun c1=>?_) (fun c1=>?_)
  ·have hlt:k<t.length:=by have:=of_decide_eq_true c1;omega
   have e:wr .i64 ((k:Int)+1)=((k+1:Nat):Int):=by rw[aF]<;>omega
   obtain⟨p,p1,p2,p3,p4⟩:=xS hs hlt (hR.2.2 k h0 hlt);obtain⟨hnl,hpf⟩:=aFt hs hlt p2 p1 p3 p4;obtain⟨a1,a2,_,_⟩:=gI hs hlt;have nxt:=fun vh=>J5 H hG hR hs hl c0 bd bp Q hQ (m-1) (k+1) (by omega) (by omega) (by omega) vh vn
   have hnx:cT t k= -1\/(cT t k=(aI t k:Int)/\aI t k<t.length/\eM t (aI t k)=(k:Int)/\eZ t (aI t k)=(p:Int)):=by
    by_cases h:0<=cT t k
    ·obtain⟨q1,q2,q3,q4⟩:=TD hs hlt h;exact .inr ⟨q2,q1,q3,q4.trans p2⟩
    ·exact .inl (TC h)
   have hpv:eM t k= -1\/∃b,b<k/\eM t k=(b:Int)/\cT t b=(k:Int):=by
    by_cases h:0<=eM t k
    ·exact .inr (UH hs hlt h)
    ·exact .inl (UG h)
   have ec:wr .i64 ((k:Int)+((aI t k:Int)-k))=(aI t k:Int):=by rw[show (k:Int)+((aI t k:Int)-k)=(aI t k:Int) by omega,aF]<;>omega
   conv=>whnf
   refine (uW H hG hs hl D k hlt).mono fun v vh1 n1 he=>?_;obtain⟨e1,D1,e3⟩:=he;rw[p2] at e3;rw[e1,e3];clear e1 e3
   conv=>whnf
   refine (yK H hG hs hl D1 k hlt).mono fun v vh2 n2 he=>?_;obtain⟨e1,D2,en⟩:=he;rw[e1];clear e1;rcases hnx with hn|⟨hn,hn1,hn2,hn3⟩<;>rcases hpv with hb|⟨b,hb1,hb,hb3⟩
   all_goals
    rw[hn] at en hnl;rw[hb] at hpf;rw[en];clear en
    conv=>whnf
    refine (yL H hG hs hl D2 k hlt).mono fun v vh3 n3 he=>?_;obtain⟨e1,D3,e3⟩:=he;rw[hb] at e3;rw[e1,e3];clear e1 e3
    conv=>whnf
    refine aA.mk (fun h=>absurd (of_decide_eq_true (show decide ((k:Int)<=(p:Int))=true from h)) (by omega)) (fun _=>?_)
    conv=>whnf
   ·refine (yJ H hG hs hl D3 p (by omega)).mono fun v vh11 vn11 he=>?_
    obtain⟨e1,D10,e3⟩:=he;rw[e1,e3];clear e1 e3
    conv=>whnf
    refine aA.mk (fun h=>absurd h (bnn (hnl.1 (by decide)))) (fun _=>?_)
    conv=>whnf
    refine (yI H hG hs hl D10 p (by omega)).mono fun v vh12 vn12 he=>?_
    obtain⟨e1,D11,e3⟩:=he;rw[e1,e3];clear e1 e3
    conv=>whnf
    refine aA.mk (fun h=>absurd h (bnn (hpf.1 (by decide)))) (fun _=>?_)
    conv=>whnf
    rw[e];exact nxt _ D11
   ·refine (yK H hG hs hl D3 b (by omega)).mono fun v vh11 vn11 he=>?_
    obtain⟨e1,D10,e3⟩:=he;rw[hb3] at e3;rw[e1,e3];clear e1 e3
    conv=>whnf
    refine aA.mk (fun h=>absurd h (lQ rfl)) (fun _=>?_)
    conv=>whnf
    refine (yJ H hG hs hl D10 p (by omega)).mono fun v vh12 vn12 he=>?_
    obtain⟨e1,D11,e3⟩:=he;rw[e1,e3];clear e1 e3
    conv=>whnf
    refine aA.mk (fun h=>absurd h (bnn (hnl.1 (by decide)))) (fun _=>?_)
    conv=>whnf
    refine (yI H hG hs hl D11 p (by omega)).mono fun v vh13 vn13 he=>?_
    obtain⟨e1,D12,e3⟩:=he;rw[e1,e3];clear e1 e3
    conv=>whnf
    refine aA.mk (fun h=>absurd h (AK fun h=>by have:=hpf.2 h;omega)) (fun _=>?_)
    conv=>whnf
    rw[e];exact nxt _ D12
   ·refine (yL H hG hs hl D3 (aI t k) hn1).mono fun v vh11 vn11 he=>?_;obtain⟨e1,D10,e3⟩:=he;rw[hn2] at e3;rw[e1,e3];clear e1 e3
    conv=>whnf
    refine aA.mk (fun h=>absurd h (lQ rfl)) (fun _=>?_)
    conv=>whnf
    refine (uW H hG hs hl D10 (aI t k) hn1).mono fun v vh12 vn12 he=>?_;obtain⟨e1,D11,e3⟩:=he;rw[hn3] at e3;rw[e1,e3];clear e1 e3
    conv=>whnf
    refine aA.mk (fun h=>absurd h (lQ rfl)) (fun _=>?_)
    conv=>whnf
    refine (J2 H hG hs hl D11 k hlt).mono fun v vh13 vn13 he=>?_;obtain⟨e1,D12,e3⟩:=he;rw[e1,e3];clear e1 e3
    conv=>whnf
    rw[ec];refine aA.mk (fun h=>absurd h (lQ rfl)) (fun _=>?_)
    conv=>whnf
    refine (yJ H hG hs hl D12 p (by omega)).mono fun v vh14 vn14 he=>?_
    obtain⟨e1,D13,e3⟩:=he;rw[e1,e3];clear e1 e3
    conv=>whnf
    refine aA.mk (fun h=>absurd h (AK fun h=>by have:=hnl.2 h;omega)) (fun _=>?_)
    conv=>whnf
    refine (yI H hG hs hl D13 p (by omega)).mono fun v vh15 vn15 he=>?_
    obtain⟨e1,D14,e3⟩:=he;rw[e1,e3];clear e1 e3
    conv=>whnf
    refine aA.mk (fun h=>absurd h (bnn (hpf.1 (by decide)))) (fun _=>?_)
    conv=>whnf
    rw[e];exact nxt _ D14
   ·refine (yL H hG hs hl D3 (aI t k) hn1).mono fun v vh11 vn11 he=>?_;obtain⟨e1,D10,e3⟩:=he;rw[hn2] at e3;rw[e1,e3];clear e1 e3
    conv=>whnf
    refine aA.mk (fun h=>absurd h (lQ rfl)) (fun _=>?_)
    conv=>whnf
    refine (uW H hG hs hl D10 (aI t k) hn1).mono fun v vh12 vn12 he=>?_;obtain⟨e1,D11,e3⟩:=he;rw[hn3] at e3;rw[e1,e3];clear e1 e3
    conv=>whnf
    refine aA.mk (fun h=>absurd h (lQ rfl)) (fun _=>?_)
    conv=>whnf
    refine (J2 H hG hs hl D11 k hlt).mono fun v vh13 vn13 he=>?_;obtain⟨e1,D12,e3⟩:=he;rw[e1,e3];clear e1 e3
    conv=>whnf
    rw[ec];refine aA.mk (fun h=>absurd h (lQ rfl)) (fun _=>?_)
    conv=>whnf
    refine (yK H hG hs hl D12 b (by omega)).mono fun v vh14 vn14 he=>?_
    obtain⟨e1,D13,e3⟩:=he;rw[hb3] at e3;rw[e1,e3];clear e1 e3
    conv=>whnf
    refine aA.mk (fun h=>absurd h (lQ rfl)) (fun _=>?_)
    conv=>whnf
    refine (yJ H hG hs hl D13 p (by omega)).mono fun v vh15 vn15 he=>?_
    obtain⟨e1,D14,e3⟩:=he;rw[e1,e3];clear e1 e3
    conv=>whnf
    refine aA.mk (fun h=>absurd h (AK fun h=>by have:=hnl.2 h;omega)) (fun _=>?_)
    conv=>whnf
    refine (yI H hG hs hl D14 p (by omega)).mono fun v vh16 vn16 he=>?_
    obtain⟨e1,D15,e3⟩:=he;rw[e1,e3];clear e1 e3
    conv=>whnf
    refine aA.mk (fun h=>absurd h (AK fun h=>by have:=hpf.2 h;omega)) (fun _=>?_)
    conv=>whnf
    rw[e];exact nxt _ D15
  ·conv=>whnf
   exact hQ vh vn _ _ D
termination_by m=>m
decreasing_by all_goals omega
theorem W0{PN:List Nat->List Nat->Prop}{PV PT:List Nat->Prop}(B:C4 X G PN PV PT)(hX:X DF=none)(ls:List Int)(vh:VH)(vn:Nat):
  aE Tryz.prog X G DF [.sl 1 (ls.map gS) none] vh vn fun v _ _=>v=.bool true:=by
 apply aDz.run hX
 conv=>whnf
 refine (KM B.K ls vh vn).mono fun v vh1 n1 he=>?_;obtain⟨_,_,t,e3,M⟩:=he;rw[e3];clear e3;have hR:=M.rooted;have hs:=M.steps;have hl:=M.len
 conv=>whnf
 refine (KX B.H.toXNew B.lib t (M.treeB B.hM) none vh1 n1).mono fun v vh2 n2 he=>?_;obtain⟨bd,bp,bw,bn,e1,N,_,_,_,_⟩:=he;rw[e1];clear e1;have D:=N.doc
 conv=>whnf
 refine J5 B.H B.hG hR hs hl none bd bp _ (fun vh3 n3 i b D3=>?_) _ 1 rfl (by decide) hR.1 vh2 n2 D
 conv=>whnf
 refine (B.told vh3 n3).mono fun v vh' vn' he=>?_;obtain⟨e1,e2,e3⟩:=he;rw[e1,e2,e3];clear e1 e2 e3;have hn:cT t 0= -1:=TC fun h=>by have:=(TD hs hR.1 h).1;rw[aCh hR] at this;omega
 have hp:eM t 0= -1:=UG fun h=>by obtain⟨b,hb,_⟩:=UH hs hR.1 h;omega
 have hpar:eZ t 0= -1:=xT hs hR.1 hR.2.1
 conv=>whnf
 refine (yK B.H B.hG hs hl D3 0 hR.1 (vn:=n3)).mono fun v vh4 n4 he=>?_;obtain⟨e1,D4,e3⟩:=he;rw[hn] at e3;rw[e1,e3];clear e1 e3
 conv=>whnf
 refine (yL B.H B.hG hs hl D4 0 hR.1 (vn:=n3)).mono fun v vh5 n5 he=>?_;obtain⟨e1,D5,e3⟩:=he;rw[hp] at e3;rw[e1,e3];clear e1 e3
 conv=>whnf
 refine (uW B.H B.hG hs hl D5 0 hR.1 (vn:=n3)).mono fun v vh6 n6 he=>?_;obtain⟨e1,D6,e3⟩:=he;rw[hpar] at e3;rw[e1,e3];clear e1 e3
 conv=>whnf
 exact Get.mk _ (fun _ _ h=>h) rfl
end
section
open Go Go.Ev Go.VL Go.Lib
theorem aBz (W : World) (hsh : W.ShapedOpen Tryz.prog) (hD : VarReads Tryz.prog W "math/bits.deBruijn64tab" (tabData .u8 dbZ)) (h0 : VarReads Tryz.prog W "unicode/utf8.first" firstData) (h1 : VarReads Tryz.prog W "unicode/utf8.acceptRanges" acceptData) {v : Value} {ls : List Int} (hv : qJ W v ls) :
  Calls Tryz.prog 5 #[v] W fun e w'=>e=.returned (.bool true)/\Go.RowKit.Below W.heap.size W w':=by
 obtain⟨m,σ,h,nx,u,S,hd,hr⟩:=VM hsh hD h0 h1 hv;exact V0 (args:=[v]) (MM m) GB Tryz.func5 (c:=Tryz.f5.body.getD .skip) (by kernel_rfl) S.rh S.bd S.gl S.ro S.gt (vs:=[.sl 1 (ls.map gS) none]) (us:=[u]) (vn:=0) (.cons _ _ _ _ hd .nil) (.cons _ _ _ _ hr .nil) (W0 (M7 m) rfl ls _ 0)
end
section
open Go Go.Ev Go.VL Go.ChangeShapes Go.WideShapes Go.ChangeAt Go.RowKit
namespace LDocSides
theorem E7:Tryz.prog.cellsOf 272=5:=by kernel_rfl
theorem E5:Tryz.prog.cellsOf 194=1:=by kernel_rfl
theorem E6:Tryz.prog.cellsOf 270=3:=by kernel_rfl
theorem c21:Tryz.prog.cellsOf 21=1:=by kernel_rfl
theorem own:ownKnob Tryz.prog.godebug=none:=by kernel_rfl
noncomputable def i6(os:Os):World:=
 let N:=(World.settled Tryz.prog os).heap.size;let w0:=World.holding Tryz.prog os ⟨#[.cells (gJ 4 Rows.laid_unicode_caseOrbit).toArray 251,.cells Lib.caseCells5 272],#[],[]⟩;let h1:=Go.Ev.putD w0.heap 10 (gJ 4 Rows.laid_math_bits_deBruijn32tab).toArray;let h2:=Go.Ev.putD h1 0 (gJ 4 Rows.laid_math_bits_deBruijn64tab).toArray;let h3:=Go.Ev.putD h2 7 (gJ 4 Rows.laid_internal_strconv_uint64pow10).toArray;let h4:=Go.Ev.putD h3 2 (gJ 4 Rows.laid_unicode_utf8_acceptRanges).toArray;let h5:=Go.Ev.putD h4 4 (gJ 4 Rows.laid_unicode_asciiFold).toArray
 let h6:=Go.Ev.putD h5 5 #[.slice (some ⟨N+0,0,none⟩) (CM Rows.laid_unicode_caseOrbit) (CM Rows.laid_unicode_caseOrbit)];let h7:=Go.Ev.putD h6 6 #[.slice (some ⟨N+1,0,none⟩) Lib.caseA.size Lib.caseA.size];let h8:=Go.Ev.putD h7 1 (gJ 4 Rows.laid_unicode_utf8_first).toArray
 {w0 with heap:=h8}
theorem HI (os : Os) : LaidIn Tryz.prog ((i6 os).forCall (fun _ _ => 0) ⟨#[], #[.slice none 0 0], []⟩).memory [("math/bits.deBruijn32tab", Rows.laid_math_bits_deBruijn32tab), ("math/bits.deBruijn64tab", Rows.laid_math_bits_deBruijn64tab), ("internal/strconv.uint64pow10", Rows.laid_internal_strconv_uint64pow10), ("unicode/utf8.acceptRanges", Rows.laid_unicode_utf8_acceptRanges), ("unicode.asciiFold", Rows.laid_unicode_asciiFold), ("unicode.caseOrbit", Rows.laid_unicode_caseOrbit)] [10, 0, 7, 2, 4, 5, (World.settled Tryz.prog default).heap.size + 0] :=
 LaidIn.of_run _ 8 (by kernel_rfl) (by kernel_rfl) (by kernel_rfl) (by kernel_rfl)
theorem HH (os : Os) : LaidIn Tryz.prog ((i6 os).forCall (fun _ _ => 0) ⟨#[], #[.slice none 0 0], []⟩).memory [("unicode/utf8.first", Rows.laid_unicode_utf8_first)] [1] :=
 LaidIn.of_run _ 8 (by kernel_rfl) (by kernel_rfl) (by kernel_rfl) (by kernel_rfl)
theorem HF (os : Os) : LaidIn Tryz.prog ((i6 os).forCall (fun _ _ => 0) ⟨#[], #[.slice none 0 0], []⟩).memory [("unicode.CaseRanges", Pinned.caseRanges)] [6, ((World.settled Tryz.prog default).heap.size + 1)] := by
 refine PM (tS:=254) (tR:=272) (t:=272) (by kernel_rfl) (by kernel_rfl) (by kernel_rfl) (by kernel_rfl) ?_ (of_decide_eq_true (by kernel_rfl)) (by kernel_rfl) (by kernel_rfl)
 intro x hw;simp only[Lib.rowWf,Bool.and_eq_true] at hw;obtain⟨⟨⟨⟨w0,w1⟩,w2⟩,w3⟩,w4⟩:=hw;have r3:List.range 3=[0,1,2]:=rfl;simp[DataW.trod,Tryz.underlying272,Tryz.underlying194,Tryz.underlying270,Tryz.underlying21,E7,E5,E6,c21,Lib.cells5,Lib.rowData,w0,w1,w2,w3,w4,r3]
theorem HG(os:Os):laidMet Tryz.prog Rows.docSidesRow.laid ((i6 os).forCall (fun _ _=>0) ⟨#[],#[.slice none 0 0],[]⟩).memory:=LaidIn.met ((HI os).append ((HF os).append (HH os) (by kernel_rfl)) (by kernel_rfl))
theorem reads(os:Os){H:Type}(enc:TypeId×Value->H):∃places,DataW.whole enc Tryz.prog ((i6 os).forCall (fun _ _=>0) ⟨#[],#[.slice none 0 0],[]⟩).memory Tryz.f5.params.toList Rows.docSidesSpec.vars false (#[.slice none 0 0]:Array Value).toList 8=some ([.nil],[],places):=⟨[],by kernel_rfl⟩
theorem HE:laidOutB Tryz.prog=true:=by kernel_rfl
theorem FV:Tryz.prog.cellsOf 3=1:=by kernel_rfl
theorem G1:Rows.laid_unicode_utf8_first=Lib.firstData:=by kernel_rfl
theorem EE:Rows.laid_unicode_utf8_acceptRanges=Lib.acceptData:=by kernel_rfl
theorem GD:(Rows.laid_math_bits_deBruijn64tab:DataW Unit)=Lib.tabData .u8 dbZ:=by kernel_rfl
theorem IU {W : World} (hL : laidMetH Tryz.prog Rows.docSidesRow.laid W) : Lib.VarReads Tryz.prog W "math/bits.deBruijn64tab" (Lib.tabData .u8 dbZ) := by
 rw[<-GD];exact Lib.laidMet.reads (laidMetH_iff.1 hL).1 (List.mem_filter.2 ⟨.tail _ (.head _),by kernel_rfl⟩)
theorem IS {W : World} (hL : laidMetH Tryz.prog Rows.docSidesRow.laid W) : Lib.VarReads Tryz.prog W "unicode/utf8.first" Lib.firstData := by
 rw[<-G1];exact Lib.laidMet.reads (laidMetH_iff.1 hL).1 (List.mem_filter.2 ⟨.tail _ (.tail _ (.tail _ (.tail _ (.tail _ (.tail _ (.tail _ (.head _))))))),by kernel_rfl⟩)
theorem IT {W : World} (hL : laidMetH Tryz.prog Rows.docSidesRow.laid W) : Lib.VarReads Tryz.prog W "unicode/utf8.acceptRanges" Lib.acceptData := by
 rw[<-EE];exact Lib.laidMet.reads (laidMetH_iff.1 hL).1 (List.mem_filter.2 ⟨.tail _ (.tail _ (.tail _ (.head _))),by kernel_rfl⟩)
set_option maxRecDepth 100000 in
theorem GA(H:Type)(enc:TypeId×Value->H)(W:World)(base:Nat)(args:Array Value)(ds gs:List (DataW H))(before:List MemPlace)
  (hval:∀(j:Nat) t v,Tryz.f5.params[j]? =some t->args[j]? =some v->Value.okWide Tryz.prog W .any base t v)
  (hW:DataW.Whole enc Tryz.prog Tryz.f5.params.toList Rows.docSidesSpec.vars false W args.toList ds gs before) (hL:laidMetH Tryz.prog Rows.docSidesRow.laid W) (hsh:W.ShapedOpen Tryz.prog):
  Calls Tryz.prog 5 args W fun e W'=>∃v,e=.returned v/\Rows.docSidesSpec.post enc Tryz.prog Tryz.f5 false true false false W args v W':=by
 have hW':=hW;obtain⟨p,q,hA0,hV,rfl,hfz,hnd⟩:=hW;have hA:DataW.TrodAll enc Tryz.prog W 0 (fun _=>true) true Tryz.f5.params.toList args.toList ds p:=hA0;rw[Tryz.params5] at hA hval;obtain⟨v0,vs0,d0,ds0,p0,q0,hargs0,rfl,rfl,h0,r0⟩:=trodAll_cons hA;obtain⟨rfl,rfl,rfl⟩:=trodAll_nil r0;obtain rfl:args=#[v0]:=by apply Array.toList_inj.1;rw[hargs0]
 obtain⟨rfl,rfl⟩:=trodVars_none hV;clear hA0;have hlt0:∀x∈p0,x.block<W.heap.size:=fun x hx=>hW'.lt x (by simp[hx])
 obtain⟨ls0,hv0⟩:∃ls,qJ W v0 ls:=SC Tryz.underlying22 Tryz.underlying3 FV (hval 0 22 v0 rfl rfl) h0;simp only[List.append_nil] at hW';refine (aBz W hsh (IU hL) (IS hL) (IT hL) hv0).mono fun e W' ⟨he,hg⟩=>?_;subst he
 exact⟨_,rfl,UE (pa:=p0) (pv:=[]) hW' (fun _ _ _=>trodAll_cons_mk (shut_bool Tryz.underlying4 _) trodAll_mk0) (fun sp hs=>trodAll_mk1 (WideElems.Trod_stays HE (by kernel_rfl) (of_decide_eq_true (by kernel_rfl)) h0 (fun x hx=>hg.same (hlt0 x hx)) fun x hx=>hs x hx)) (fun _ _=>rfl) (by simp) hg (ok_one (by kernel_rfl) rfl (okWide_bool_mk Tryz.underlying4 _))⟩
set_option maxRecDepth 100000 in
theorem HJ(os:Os)(started:os.Started)(H:Type)(enc:TypeId×Value->H)(F:Stop.Interp):
  ReturnsInHanded {} Tryz.checked os 5 .any ((OpenSpec.ofChange Rows.docSidesSpec).preRow enc Tryz.prog Tryz.f5 Rows.docSidesRow.domain false Rows.docSidesRow.laid) (((OpenSpec.ofChange Rows.docSidesSpec).at F).post enc Tryz.prog Tryz.f5 false true false false):=by
 obtain⟨places,hx⟩:=reads os enc;refine returnsInHanded_of_row (C:=Tryz.checked) (s:=OpenSpec.ofChange Rows.docSidesSpec) own started (by kernel_rfl) Tryz.func5
  (witness_row_atRef (enc:=enc) (C:=Tryz.checked) false (i6 os) #[.slice none 0 0] rfl (by kernel_rfl) (by kernel_rfl) (by kernel_rfl)
   (OpenSpec.preRow_of_cond 8 hx (by kernel_rfl) (fun k hk=>by cases hk) (by kernel_rfl) (HG os))) ?_
 intro W base args ds gs before hval hW _ _ _ hL hsh _;exact GA H enc W base args ds gs before hval hW hL hsh
theorem I1:Rows.DocSidesSaid:=
 OpenClaim.holds_of_cond 5 Tryz.f5 rfl rfl rfl rfl rfl rfl rfl ⟨rfl,rfl,rfl,rfl,rfl⟩ rfl rfl rfl rfl rfl (by kernel_rfl) Tryz.func5 (by kernel_rfl)
  (of_decide_eq_true (by kernel_rfl)) (by unfold Func.isWrapper;first|(rw[if_pos (by decide+kernel)];kernel_rfl)|(rw[if_neg (by decide+kernel)];exact⟨rfl,rfl⟩))
  (fun os started H enc _ F=>by rw[OpenClaim.pre_eq_preRow];exact HJ os started H enc F)
theorem plain (f : FuncId) (fn : Func) (hf : Tryz.pinned.checked.prog.funcNamed "bracken/brackenlaw19.DocSides" = some f) (hfn : Tryz.pinned.checked.prog.funcs[f]? = some fn) :
  true=Tryz.pinned.checked.prog.looks []/\∀(j:Nat) t,fn.params[j]? =some t->Tryz.pinned.checked.prog.wantsStandIn t=false:=by
 obtain rfl : f = 5 := Option.some.inj ((show Tryz.prog.funcNamed "bracken/brackenlaw19.DocSides" = some 5 by kernel_rfl).symm.trans hf) |>.symm
 obtain rfl:fn=Tryz.f5:=(Option.some.inj (Tryz.func5.symm.trans hfn)).symm;refine⟨by kernel_rfl,fun j t ht=>?_⟩
 rw[Tryz.params5] at ht;have hm:=Array.mem_of_getElem? ht;obtain rfl:t=22:=by simpa using hm
 exact (show Tryz.prog.wantsStandIn 22=false by kernel_rfl)
theorem card:Rows.DocSidesCardSaid:=Claim7.holds_tied_plain_at .later [] _ _ _ _ I1 (fun _ h=>by cases h) (by kernel_rfl) (fun _ h=>by cases h) docSides_row_tie rfl ⟨rfl,rfl⟩ (by kernel_rfl) rfl plain (by kernel_rfl)
#print axioms card
end LDocSides
end
end Go.Proofs.YtjoadepfokpcoaaGreatDoor
