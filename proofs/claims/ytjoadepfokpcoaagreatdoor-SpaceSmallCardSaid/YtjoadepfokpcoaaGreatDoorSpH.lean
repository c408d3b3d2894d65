/- SpaceSmall is true for every list of numbers and every number; no condition. -/
import GoSem.PinnedTables
import Derived.Lib.LaidIn
import Derived.Lib.LaidCaseMet
import Derived.KernelRfl
import Derived.Test.YtjoadepfokpcoaaGreatDoorCards
import Derived.Test.YtjoadepfokpcoaaGreatDoorTie
import Derived.WalkKit
import Derived.ProofKit
import Derived.OpenShut
import Derived.Deep.DeepHandedRow
import Derived.Deep.DeepWitnessRowRef
import Derived.ChangeSlices
import Derived.ReadAgain
import Derived.Carry
import Derived.LaidSub
import Derived.Test.YtjoadepfokpcoaaGreatDoorSpG
set_option linter.unusedSimpArgs false
set_option linter.unusedVariables false
set_option linter.constructorNameAsVariable false
set_option linter.unnecessarySimpa false
namespace Go.Ev
section
open Go.Lib Go.Proofs
set_option maxRecDepth 100000 in
theorem aKC:Pinned.caseRanges=caseData:=by kernel_rfl
section
variable {P : Program} {w : World}
theorem aKB{tS tR:TypeId}(hS:P.underlying tS=some (.slice tR))(c5:P.cellsOf tR=5)(hrow:∀x,rowWf x=true->DataW.trod (fun _=>()) P w 0 (fun _=>true) false 3 tR (cells5 x)=some (rowData x,[])){R:Nat}{t:TypeId}
  (hb:w.heap[R]? =some (.cells caseCells5 t (0,0))):
  DataW.trod (fun _=>()) P w 0 (fun _=>true) false 4 tS [.slice (some ⟨R,0,none⟩) caseA.size caseA.size]=some (caseData,MemPlace.row ⟨R,0,none⟩ (caseA.size*5)):=by
 have hT:=caseTab_of_block hb;have helem:∀i∈List.range caseA.size,(w.cells? 0 ((⟨R,0,none⟩:Addr).add (i*5)) 5).bind (DataW.trod (fun _=>()) P w 0 (fun _=>true) false 3 tR)=some ((fun i=>((rowData (caseA.getD i (0,0,0,0,0)):DataW Unit),([]:List MemPlace))) i):=by intro i hi;have hi':=List.mem_range.1 hi;rw[case_cells5 hT i hi'];exact hrow _ (caseA_wf i hi')
 have hn:caseA.size<=maxLen:=by rw[caseA_size];unfold maxLen;omega
 unfold DataW.trod;simp only[hS,c5];rw[if_pos ⟨Nat.zero_le _,Nat.le_refl _,hn⟩,mapM_some _ _ _ helem];have:=case_rows_data;simp[Function.comp_def] at this ⊢;rw[this];rfl
theorem aKA{i:Nat}{v:Value}(h:caseCells5[i]? =some v):∃k n,v=.int k n:=by
 have hm:v∈caseT.flatMap cells5:=by unfold caseCells5 at h;rw[List.getElem?_toArray] at h;exact List.mem_of_getElem? h
 obtain⟨x,_,hx⟩:=List.mem_flatMap.1 hm;simp only[cells5,List.mem_cons,List.mem_nil_iff,or_false] at hx;rcases hx with rfl|rfl|rfl|rfl|rfl<;>exact⟨_,_,rfl⟩
theorem aJz {g : Nat} {tS tR : TypeId} (hg : P.globalNamed "unicode.CaseRanges" = some g) (ht : (P.globals[g]?).map (·.type) = some tS) (hS : P.underlying tS = some (.slice tR)) (c5 : P.cellsOf tR = 5)
  (hrow:∀x,rowWf x=true->DataW.trod (fun _=>()) P w 0 (fun _=>true) false 3 tR (cells5 x)=some (rowData x,[])) {R:Nat} {t:TypeId} (hne:g≠R)
  (hv : w.heap[g]? = some (.cells #[.slice (some ⟨R, 0, none⟩) caseA.size caseA.size] tS (0, 0))) (hb : w.heap[R]? = some (.cells caseCells5 t (0, 0))) : LaidIn P w [("unicode.CaseRanges", Pinned.caseRanges)] [g, R] := by
 have places:∀x∈MemPlace.row ⟨g,0,none⟩ 1++MemPlace.row ⟨R,0,none⟩ (caseA.size*5),x.block=g\/x.block=R:=by
  intro x hx;rcases List.mem_append.1 hx with hx|hx
  ·unfold MemPlace.row at hx;obtain⟨i,_,rfl⟩:=List.mem_map.1 hx;exact .inl rfl
  ·unfold MemPlace.row at hx;obtain⟨i,_,rfl⟩:=List.mem_map.1 hx;exact .inr rfl
 rw[aKC];refine LaidIn.one [g,R] hg ht (cs:=#[.slice (some ⟨R,0,none⟩) caseA.size caseA.size]) (by simp[World.var?,hg,hv]) (aKB hS c5 hrow hb) ?_ ?_ ?_
 ·refine List.nodup_append.2 ⟨rowP_nodup _ _,rowP_nodup _ _,fun x hx y hy e=>?_⟩;subst e;unfold MemPlace.row at hx hy;obtain⟨i,_,rfl⟩:=List.mem_map.1 hx;obtain⟨j,_,h⟩:=List.mem_map.1 hy;simp at h;exact hne h.1.symm
 ·intro b off hp;rcases places _ hp with e|e
  ·simp only[MemPlace.block] at e;subst e;refine⟨⟨_,_,hv⟩,fun u v hc=>?_⟩;rw[Lib.cell_of_heap hv] at hc;rcases off with _|off
   ·cases hc
   ·cases hc
  ·simp only[MemPlace.block] at e;subst e;refine⟨⟨_,_,hb⟩,fun u v hc=>?_⟩;rw[Lib.cell_of_heap hb] at hc;obtain⟨k,n,h⟩:=aKA hc;cases h
 ·intro x hx;rcases places x hx with e|e<;>simp[e]
end
end
end Go.Ev
namespace Go.Proofs.YtjoadepfokpcoaaGreatDoor
section
open Go Go.Ev Go.VL Go.ChangeShapes Go.WideShapes Go.ChangeAt Go.RowKit
namespace LSpaceSmall
theorem Y1:Tryz.prog.cellsOf 272=5:=by kernel_rfl
theorem YZ:Tryz.prog.cellsOf 194=1:=by kernel_rfl
theorem Y0:Tryz.prog.cellsOf 270=3:=by kernel_rfl
theorem c21:Tryz.prog.cellsOf 21=1:=by kernel_rfl
theorem own:ownKnob Tryz.prog.godebug=none:=by kernel_rfl
noncomputable def tA(os:Os):World:=
 let N:=(World.settled Tryz.prog os).heap.size;let w0:=World.holding Tryz.prog os ⟨#[.cells (mZ 4 Rows.laid_unicode_caseOrbit).toArray 251,.cells Lib.caseCells5 272],#[],[]⟩;let h1:=Go.Ev.putD w0.heap 10 (mZ 4 Rows.laid_math_bits_deBruijn32tab).toArray;let h2:=Go.Ev.putD h1 0 (mZ 4 Rows.laid_math_bits_deBruijn64tab).toArray;let h3:=Go.Ev.putD h2 7 (mZ 4 Rows.laid_internal_strconv_uint64pow10).toArray;let h4:=Go.Ev.putD h3 2 (mZ 4 Rows.laid_unicode_utf8_acceptRanges).toArray;let h5:=Go.Ev.putD h4 4 (mZ 4 Rows.laid_unicode_asciiFold).toArray
 let h6:=Go.Ev.putD h5 5 #[.slice (some ⟨N+0,0,none⟩) (TE Rows.laid_unicode_caseOrbit) (TE Rows.laid_unicode_caseOrbit)];let h7:=Go.Ev.putD h6 6 #[.slice (some ⟨N+1,0,none⟩) Lib.caseA.size Lib.caseA.size];let h8:=Go.Ev.putD h7 1 (mZ 4 Rows.laid_unicode_utf8_first).toArray
 {w0 with heap:=h8}
theorem aEw (os : Os) : LaidIn Tryz.prog ((tA os).forCall (fun _ _ => 0) ⟨#[], #[.slice none 0 0, .int .i64 0], []⟩).memory [("math/bits.deBruijn32tab", Rows.laid_math_bits_deBruijn32tab), ("math/bits.deBruijn64tab", Rows.laid_math_bits_deBruijn64tab), ("internal/strconv.uint64pow10", Rows.laid_internal_strconv_uint64pow10), ("unicode/utf8.acceptRanges", Rows.laid_unicode_utf8_acceptRanges), ("unicode.asciiFold", Rows.laid_unicode_asciiFold), ("unicode.caseOrbit", Rows.laid_unicode_caseOrbit)] [10, 0, 7, 2, 4, 5, (World.settled Tryz.prog default).heap.size + 0] :=
 LaidIn.of_run _ 8 (by kernel_rfl) (by kernel_rfl) (by kernel_rfl) (by kernel_rfl)
theorem aEv (os : Os) : LaidIn Tryz.prog ((tA os).forCall (fun _ _ => 0) ⟨#[], #[.slice none 0 0, .int .i64 0], []⟩).memory [("unicode/utf8.first", Rows.laid_unicode_utf8_first)] [1] :=
 LaidIn.of_run _ 8 (by kernel_rfl) (by kernel_rfl) (by kernel_rfl) (by kernel_rfl)
theorem aEt (os : Os) : LaidIn Tryz.prog ((tA os).forCall (fun _ _ => 0) ⟨#[], #[.slice none 0 0, .int .i64 0], []⟩).memory [("unicode.CaseRanges", Pinned.caseRanges)] [6, ((World.settled Tryz.prog default).heap.size + 1)] := by
 refine aJz (tS:=254) (tR:=272) (t:=272) (by kernel_rfl) (by kernel_rfl) (by kernel_rfl) (by kernel_rfl) ?_ (of_decide_eq_true (by kernel_rfl)) (by kernel_rfl) (by kernel_rfl)
 intro x hw;simp only[Lib.rowWf,Bool.and_eq_true] at hw;obtain⟨⟨⟨⟨w0,w1⟩,w2⟩,w3⟩,w4⟩:=hw;have r3:List.range 3=[0,1,2]:=rfl;simp[DataW.trod,Tryz.underlying272,Tryz.underlying194,Tryz.underlying270,Tryz.underlying21,Y1,YZ,Y0,c21,Lib.cells5,Lib.rowData,w0,w1,w2,w3,w4,r3]
theorem aEu(os:Os):laidMet Tryz.prog Rows.spaceSmallRow.laid ((tA os).forCall (fun _ _=>0) ⟨#[],#[.slice none 0 0,.int .i64 0],[]⟩).memory:=LaidIn.met ((aEw os).append ((aEt os).append (aEv os) (by kernel_rfl)) (by kernel_rfl))
theorem reads(os:Os){H:Type}(enc:TypeId×Value->H):∃places,DataW.whole enc Tryz.prog ((tA os).forCall (fun _ _=>0) ⟨#[],#[.slice none 0 0,.int .i64 0],[]⟩).memory Tryz.f6.params.toList Rows.spaceSmallSpec.vars false (#[.slice none 0 0,.int .i64 0]:Array Value).toList 8=some ([.nil,.lit (.int .i64 0)],[],places):=⟨[],by kernel_rfl⟩
theorem aEs:laidOutB Tryz.prog=true:=by kernel_rfl
theorem aB7:Tryz.prog.cellsOf 3=1:=by kernel_rfl
theorem aCd:Rows.laid_unicode_utf8_first=Lib.firstData:=by kernel_rfl
theorem X8:Rows.laid_unicode_utf8_acceptRanges=Lib.acceptData:=by kernel_rfl
theorem aBm:(Rows.laid_math_bits_deBruijn64tab:DataW Unit)=Lib.tabData .u8 dbZ:=by kernel_rfl
theorem aIl {W : World} (hL : laidMetH Tryz.prog Rows.spaceSmallRow.laid W) : Lib.VarReads Tryz.prog W "math/bits.deBruijn64tab" (Lib.tabData .u8 dbZ) := by
 rw[<-aBm];exact Lib.laidMet.reads (laidMetH_iff.1 hL).1 (List.mem_filter.2 ⟨.tail _ (.head _),by kernel_rfl⟩)
theorem aIj {W : World} (hL : laidMetH Tryz.prog Rows.spaceSmallRow.laid W) : Lib.VarReads Tryz.prog W "unicode/utf8.first" Lib.firstData := by
 rw[<-aCd];exact Lib.laidMet.reads (laidMetH_iff.1 hL).1 (List.mem_filter.2 ⟨.tail _ (.tail _ (.tail _ (.tail _ (.tail _ (.tail _ (.tail _ (.head _))))))),by kernel_rfl⟩)
theorem aIk {W : World} (hL : laidMetH Tryz.prog Rows.spaceSmallRow.laid W) : Lib.VarReads Tryz.prog W "unicode/utf8.acceptRanges" Lib.acceptData := by
 rw[<-X8];exact Lib.laidMet.reads (laidMetH_iff.1 hL).1 (List.mem_filter.2 ⟨.tail _ (.tail _ (.tail _ (.head _))),by kernel_rfl⟩)
set_option maxRecDepth 100000 in
theorem aBc(H:Type)(enc:TypeId×Value->H)(W:World)(base:Nat)(args:Array Value)(ds gs:List (DataW H))(before:List MemPlace)
  (hval:∀(j:Nat) t v,Tryz.f6.params[j]? =some t->args[j]? =some v->Value.okWide Tryz.prog W .any base t v)
  (hW:DataW.Whole enc Tryz.prog Tryz.f6.params.toList Rows.spaceSmallSpec.vars false W args.toList ds gs before) (hL:laidMetH Tryz.prog Rows.spaceSmallRow.laid W) (hsh:W.ShapedOpen Tryz.prog):
  Calls Tryz.prog 6 args W fun e W'=>∃v,e=.returned v/\Rows.spaceSmallSpec.post enc Tryz.prog Tryz.f6 false true false false W args v W':=by
 have hW':=hW;obtain⟨p,q,hA0,hV,rfl,hfz,hnd⟩:=hW;have hA:DataW.TrodAll enc Tryz.prog W 0 (fun _=>true) true Tryz.f6.params.toList args.toList ds p:=hA0;rw[Tryz.params6] at hA hval;obtain⟨v0,vs0,d0,ds0,p0,q0,hargs0,rfl,rfl,h0,r0⟩:=trodAll_cons hA;obtain⟨v1,vs1,d1,ds1,p1,q1,hargs1,rfl,rfl,h1,r1⟩:=trodAll_cons r0;obtain⟨rfl,rfl,rfl⟩:=trodAll_nil r1;obtain rfl:args=#[v0,v1]:=by apply Array.toList_inj.1;rw[hargs0,hargs1]
 obtain⟨rfl,rfl⟩:=trodVars_none hV;clear hA0;obtain⟨n1,rfl,rfl,rfl,hw1⟩:=open_int Tryz.underlying3 (hval 1 3 v1 rfl rfl) h1;have hlt0:∀x∈p0,x.block<W.heap.size:=fun x hx=>hW'.lt x (by simp[hx])
 obtain⟨ls0,hv0⟩:∃ls,vB W v0 ls:=aCy Tryz.underlying22 Tryz.underlying3 aB7 (hval 0 22 v0 rfl rfl) h0;simp only[List.append_nil,List.nil_append] at hW';refine (aB0 W hsh (aIl hL) (aIj hL) (aIk hL) hv0 n1).mono fun e W' ⟨he,hg⟩=>?_;subst he;exact⟨_,rfl,aGj (pa:=p0) (pv:=[]) hW' (fun _ _ _=>trodAll_cons_mk (shut_bool Tryz.underlying4 _) trodAll_mk0) (fun sp hs=>(by
  have:=trodAll_cons_mk (WideElems.Trod_stays aEs (by kernel_rfl) (of_decide_eq_true (by kernel_rfl)) h0 (fun x hx=>hg.same (hlt0 x hx)) fun x hx=>hs x hx) (trodAll_cons_mk (shut_int Tryz.underlying3 hw1) trodAll_mk0)
  simpa only[List.append_nil] using this:DataW.TrodAll enc Tryz.prog W' 0 sp true [22,3] [v0,.int .i64 n1] [d0,.lit (.int .i64 n1)] p0)) (fun _ _=>rfl) (by simp) hg (ok_one (by kernel_rfl) rfl (okWide_bool_mk Tryz.underlying4 _))⟩
set_option maxRecDepth 100000 in
theorem aFJ(os:Os)(started:os.Started)(H:Type)(enc:TypeId×Value->H)(F:Stop.Interp):
  ReturnsInHanded {} Tryz.checked os 6 .any ((OpenSpec.ofChange Rows.spaceSmallSpec).preRow enc Tryz.prog Tryz.f6 Rows.spaceSmallRow.domain false Rows.spaceSmallRow.laid) (((OpenSpec.ofChange Rows.spaceSmallSpec).at F).post enc Tryz.prog Tryz.f6 false true false false):=by
 obtain⟨places,hx⟩:=reads os enc;refine returnsInHanded_of_row (C:=Tryz.checked) (s:=OpenSpec.ofChange Rows.spaceSmallSpec) own started (by kernel_rfl) Tryz.func6
  (witness_row_atRef (enc:=enc) (C:=Tryz.checked) false (tA os) #[.slice none 0 0,.int .i64 0] rfl (by kernel_rfl) (by kernel_rfl) (by kernel_rfl)
   (OpenSpec.preRow_of_cond 8 hx (by kernel_rfl) (fun k hk=>by cases hk) (by kernel_rfl) (aEu os))) ?_
 intro W base args ds gs before hval hW _ _ _ hL hsh _;exact aBc H enc W base args ds gs before hval hW hL hsh
theorem aIs:Rows.SpaceSmallSaid:=
 OpenClaim.holds_of_cond 6 Tryz.f6 rfl rfl rfl rfl rfl rfl rfl ⟨rfl,rfl,rfl,rfl,rfl⟩ rfl rfl rfl rfl rfl (by kernel_rfl) Tryz.func6 (by kernel_rfl)
  (of_decide_eq_true (by kernel_rfl)) (by unfold Func.isWrapper;first|(rw[if_pos (by decide+kernel)];kernel_rfl)|(rw[if_neg (by decide+kernel)];exact⟨rfl,rfl⟩))
  (fun os started H enc _ F=>by rw[OpenClaim.pre_eq_preRow];exact aFJ os started H enc F)
theorem plain (f : FuncId) (fn : Func) (hf : Tryz.pinned.checked.prog.funcNamed "bracken/brackenlaw24.SpaceSmall" = some f) (hfn : Tryz.pinned.checked.prog.funcs[f]? = some fn) :
  true=Tryz.pinned.checked.prog.looks []/\∀(j:Nat) t,fn.params[j]? =some t->Tryz.pinned.checked.prog.wantsStandIn t=false:=by
 obtain rfl : f = 6 := Option.some.inj ((show Tryz.prog.funcNamed "bracken/brackenlaw24.SpaceSmall" = some 6 by kernel_rfl).symm.trans hf) |>.symm
 obtain rfl:fn=Tryz.f6:=(Option.some.inj (Tryz.func6.symm.trans hfn)).symm;refine⟨by kernel_rfl,fun j t ht=>?_⟩
 rw[Tryz.params6] at ht;have hm:=Array.mem_of_getElem? ht;have hm2:t=22\/t=3:=by simp at hm;first|exact hm|(rcases hm with h|h|h|h<;>simp[h])|(rcases hm with h|h|h<;>simp[h])
 rcases hm2 with rfl|rfl
 ·exact (show Tryz.prog.wantsStandIn 22=false by kernel_rfl)
 ·exact (show Tryz.prog.wantsStandIn 3=false by kernel_rfl)
theorem card:Rows.SpaceSmallCardSaid:=Claim7.holds_tied_plain_at .later [] _ _ _ _ aIs (fun _ h=>by cases h) (by kernel_rfl) (fun _ h=>by cases h) spaceSmall_row_tie rfl ⟨rfl,rfl⟩ (by kernel_rfl) rfl plain (by kernel_rfl)
#print axioms card
end LSpaceSmall
end
end Go.Proofs.YtjoadepfokpcoaaGreatDoor
