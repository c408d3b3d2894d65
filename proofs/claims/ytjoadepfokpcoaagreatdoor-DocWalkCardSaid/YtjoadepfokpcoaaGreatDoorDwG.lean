/- DocWalk is true for every list of numbers; no condition. -/
import Derived.ChangeSlices
import Derived.OpenShut
import Derived.Lib.LaidU8
import Derived.LaidSub
import Derived.Test.YtjoadepfokpcoaaGreatDoorCards
import Derived.Test.YtjoadepfokpcoaaGreatDoorTie
import Derived.WalkKit
import Derived.ProofKit
import Derived.Deep.DeepHandedRow
import Derived.Deep.DeepWitnessRowRef
import Derived.Lib.LaidIn
import Derived.ReadAgain
import Derived.Carry
import Derived.Test.YtjoadepfokpcoaaGreatDoorDwF
set_option linter.unusedSimpArgs false
set_option linter.unusedVariables false
set_option linter.constructorNameAsVariable false
set_option linter.unnecessarySimpa false
open Go Go.Ev Go.VL Go.Num
namespace Go.Proofs.YtjoadepfokpcoaaGreatDoor
section
attribute [local irreducible] aN fQ i6 cP
variable {X : Ovr} {G : Gt} {PN : List Nat → List Nat → Prop} {PV PT : List Nat → Prop}
def JI(tv xv av nv:V)(xs:List Nd)(ks:List Nat)(ss aa:List (List Nat)):Prop:=(tv=.nils/\xv=.nils/\av=.nils/\nv=.nils/\xs=[])\/∃bt bx ba bn,tv=.msl bt 0 ks.length 1 none/\xv=.msl bx 0 ss.length 1 none/\av=.msl ba 0 aa.length 1 none/\nv=.msl bn 0 xs.length 7 none
theorem C5(H:XNew X)(t:List Nd)(c:Option Nat)(lo bd bm:Nat)(vh0:VH)(L i:Int)(n:Nd)(hs1:n.s.length<=1000)(hs2:∀a∈n.s,pQ a)(k:Nat)(tv xv av nv:V)(xs:List Nd)(ks:List Nat)(ss aa:List (List Nat))(vh:VH)(vn:Nat)(Q:FQ)
  (S:NS lo bd bm vh0 vh vn tv xv av nv xs ks ss aa) (hF:(tv=.nils/\xv=.nils/\av=.nils)\/∃bt bx ba,tv=.msl bt 0 ks.length 1 none/\xv=.msl bx 0 ss.length 1 none/\av=.msl ba 0 aa.length 1 none)
  (hk:ks.length<=1000) (hss:ss.length<=1000) (haa:aa.length<=1000)
  (hQ:∀bt bx ba vh' vn',NS lo bd bm vh0 vh' vn' (.msl bt 0 (ks++[k]).length 1 none) (.msl bx 0 (ss++[n.v]).length 1 none) (.msl ba 0 (aa++[cP n.s]).length 1 none) nv xs (ks++[k]) (ss++[n.v]) (aa++[cP n.s])->Q .norm [(0,.sl 7 (t.map aP) c),(4,.ptr bd 0),(5,.map bm),(6,.msl bt 0 (ks++[k]).length 1 none),(7,.msl bx 0 (ss++[n.v]).length 1 none),(8,.msl ba 0 (aa++[cP n.s]).length 1 none),(22,.sl 7 (t.map aP) c),(23,.int .i64 L),(24,.int .i64 i)] vh' vn'):
  aC Tryz.prog X G (.cut MJ) [(0,.sl 7 (t.map aP) c),(4,.ptr bd 0),(5,.map bm),(6,tv),(7,xv),(8,av),(10,.bx (aP n)),(12,.int .i64 (k:Int)),(22,.sl 7 (t.map aP) c),(23,.int .i64 L),(24,.int .i64 i)] vh vn Q:=by
 have room:∀(b n:Nat),b<=16->n<=1000->Go.VL.room b (n+1):=fun b n hb hn=>⟨by have:=Nat.mul_le_mul (show n+1<=1001 by omega) hb;omega,by show n+1<9223372036854775808;omega⟩
 refine aC.cut ?_;rcases hF with⟨rfl,rfl,rfl⟩|⟨bt,bx,ba,rfl,rfl,rfl⟩
 all_goals
  conv=>whnf
  refine bC.app' (enc:=bL) gN (by decide) S.T S.hlo k (room 8 _ (by decide) hk) fun vh1 q1 f1=>?_
  have S1:=S.appT k q1 f1
  conv=>whnf
  refine bC.app' (enc:=bX) tB (by decide) S1.S S1.hlo n.v (room 16 _ (by decide) hss) fun vh2 q2 f2=>?_
  have S2:=S1.appS n.v q2 f2
  conv=>whnf
  refine (WY H.toXPack n.s hs1 hs2 none _ _).mono fun v vh3 n3 he=>?_;obtain⟨e1,F3⟩:=he;rw[e1];have S3:=S2.mono F3.1 F3.2
  conv=>whnf
  refine bC.app' (enc:=bX) tB (by decide) S3.A S3.hlo (cP n.s) (room 16 _ (by decide) haa) fun vh4 q4 f4=>?_
  have S4:=S3.appA (cP n.s) q4 f4
  conv=>whnf
  exact hQ _ _ _ _ _ S4
theorem JZ(H:XNew X)(t:List Nd)(hl:t.length<=1000)(hs:∀n∈t,n.s.length<=1000/\∀a∈n.s,pQ a)(c:Option Nat)(lo bd bm:Nat)(vh0:VH)(Q:FQ)
  (hQ:∀tv xv av nv vh' vn' i b,NS lo bd bm vh0 vh' vn' tv xv av nv (cV [] t).1 (cV [] t).2 (t.map fun n=>n.v) (t.map fun n=>cP n.s)->JI tv xv av nv (cV [] t).1 (cV [] t).2 (t.map fun n=>n.v) (t.map fun n=>cP n.s)->Q (.exit 0) [(0,.sl 7 (t.map aP) c),(4,.ptr bd 0),(5,.map bm),(6,tv),(7,xv),(8,av),(22,.sl 7 (t.map aP) c),(23,.int .i64 (t.length:Int)),(24,.int .i64 i),(25,.bool b)] vh' vn'):
  ∀(m i:Nat),t.length-i=m->i<=t.length->∀(tv xv av nv:V) (xs:List Nd) (ks:List Nat) (vh:VH) (vn:Nat),xs.length<=i->ks.length=i->(cV xs (t.drop i)).1=(cV [] t).1->ks++(cV xs (t.drop i)).2=(cV [] t).2->NS lo bd bm vh0 vh vn tv xv av nv xs ks ((t.take i).map fun n=>n.v) ((t.take i).map fun n=>cP n.s)->JI tv xv av nv xs ks ((t.take i).map fun n=>n.v) ((t.take i).map fun n=>cP n.s)->
  aC Tryz.prog X G (.loop EQ) [(0,.sl 7 (t.map aP) c),(4,.ptr bd 0),(5,.map bm),(6,tv),(7,xv),(8,av),(22,.sl 7 (t.map aP) c),(23,.int .i64 (t.length:Int)),(24,.int .i64 (i:Int))] vh vn Q
 |m,i,hm,hi,tv,xv,av,nv,xs,ks,vh,vn,hxi,hki,h1,h2,S,F4=>by
  refine aC.round ?_;by_cases hlt:i<t.length
  ·have e:wr .i64 ((i:Int)+1)=((i+1:Nat):Int):=by rw[aF]<;>omega
   have hd:t.drop i=t[i]::t.drop (i+1):=(List.getElem_cons_drop hlt).symm;have htk:t.take (i+1)=t.take i++[t[i]]:=(List.take_append_getElem hlt).symm;obtain⟨hs1,hs2⟩:=hs _ (List.getElem_mem hlt);rw[hd,cV] at h1 h2;have nxt:=fun tv xv av nv xs ks vh vn=>JZ H t hl hs c lo bd bm vh0 Q hQ (m-1) (i+1) (by omega) (by omega) tv xv av nv xs ks vh vn
   rw[htk,List.map_append,List.map_append,List.map_singleton,List.map_singleton] at nxt;have hls:((t.take i).map fun n=>n.v).length=i:=by rw[List.length_map,List.length_take];omega
   have hla:((t.take i).map fun n=>cP n.s).length=i:=by rw[List.length_map,List.length_take];omega
   generalize ((t.take i).map fun n=>n.v)=ss at S F4 nxt hls;generalize ((t.take i).map fun n=>cP n.s)=aa at S F4 nxt hla;have fi:=QF t[i] xs 0;have hst:=UB xs t[i];have room7:room 104 (xs.length+1):=⟨by omega,by show xs.length+1<9223372036854775808;omega⟩
   have fin:∀nv' xs' k,(iJ xs t[i])=(xs',k)->∀bt bx ba vh' vn',NS lo bd bm vh0 vh' vn' (.msl bt 0 (ks++[k]).length 1 none) (.msl bx 0 (ss++[t[i].v]).length 1 none) (.msl ba 0 (aa++[cP t[i].s]).length 1 none) nv' xs' (ks++[k]) (ss++[t[i].v]) (aa++[cP t[i].s])->(∃bn,nv'=.msl bn 0 xs'.length 7 none)->aC Tryz.prog X G (.loop EQ) [(0,.sl 7 (t.map aP) c),(4,.ptr bd 0),(5,.map bm),(6,.msl bt 0 (ks++[k]).length 1 none),(7,.msl bx 0 (ss++[t[i].v]).length 1 none),(8,.msl ba 0 (aa++[cP t[i].s]).length 1 none),(22,.sl 7 (t.map aP) c),(23,.int .i64 (t.length:Int)),(24,.int .i64 ((i+1:Nat):Int))] vh' vn' Q:=fun nv' xs' k he bt bx ba vh' vn' S' ⟨bn,hbn⟩=>by
    rw[he] at h1 h2 hst;have hst3:xs'.length<=xs.length+1:=hst.2.2;refine nxt _ _ _ nv' xs' (ks++[k]) vh' vn' (by omega) (by rw[List.length_append,List.length_singleton,hki]) h1 (by rw[List.append_assoc];exact h2) S' (.inr ⟨bt,bx,ba,bn,rfl,rfl,rfl,hbn⟩)
   have hnew:iV t[i] xs 0=none->iJ xs t[i]=(xs++[t[i]],xs.length):=fun h=>by unfold iJ;rw[h]
   have hput:iV t[i] xs 0=none->∀z:Int,z=(xs.length:Int)->jO (qU t[i]) (.ifc cQ (.int .i64 z)) (hZ xs 0)=hZ (xs++[t[i]]) 0:=fun h z hz=>by have:=TH t[i] xs 0 h;rw[Nat.zero_add] at this;rw[hz];exact this
   rcases id F4 with⟨rfl,rfl,rfl,rfl,hx0⟩|⟨bt,bx,ba,bn,rfl,rfl,rfl,rfl⟩
   ·have hix:iV t[i] xs 0=none:=by rw[hx0];rfl
    have hx1:(0:Int)=(xs.length:Int):=by rw[hx0];rfl
    rw[hix] at fi
    conv=>whnf
    refine aB.mk (fun _=>?_) (fun h=>absurd (of_decide_eq_false h) (by omega))
    conv=>whnf
    refine Get.mk (i,aP t[i]) ⟨rfl,by simp[hlt]⟩ ?_
    conv=>whnf
    refine Get.mk _ S.hm ?_
    conv=>whnf
    refine⟨tC xs 0,?_⟩;refine Get.mk _ fi ?_
    conv=>whnf
    refine Get.mk (_,_,_,_) S.hd ?_
    conv=>whnf
    refine Get.mk _ rfl ?_
    conv=>whnf
    refine Get.mk _ S.hm ?_
    conv=>whnf
    refine⟨tC xs 0,?_⟩;generalize hv:aI vh bm _=vh1;have hm1:vh1 bm=some (.map (hZ (xs++[t[i]]) 0)):=by rw[<-hv];exact aJ.trans (congrArg (fun z=>some (VB.map z)) (hput hix 0 hx1))
    have F1:∀d,d≠bm->vh1 d=vh d:=fun d hd=>by rw[<-hv];exact aG hd
    clear hv;have hd1:=(F1 bd S.ne).trans S.hd;have N1:=S.N.mono (vh':=vh1) (Nat.le_refl _) fun d d1 d2 d3=>F1 d (by have:=S.hbm;omega)
    have q1:=S.hbd;have q2:=S.hbm;have q3:=S.hlo
    conv=>whnf
    refine Get.mk (_,_,_,_) hd1 ?_
    conv=>whnf
    refine Get.mk _ rfl ?_
    conv=>whnf
    refine bC.app' (enc:=qM) PI (by decide) N1 S.hlo t[i] room7 fun vh2 h2' f2=>?_
    have hd2:=(f2 bd (by omega) fun h=>by have:=dK S.N bd h;omega).trans hd1
    conv=>whnf
    refine Get.mk (_,_,_,_) hd2 ?_
    conv=>whnf
    refine⟨⟨(by decide:4<=5),Nat.zero_le _⟩,?_⟩
    conv=>whnf
    generalize hv:aI vh2 bd _=vh3;have S3:=S.appN (vh':=vh3) t[i] (by rw[<-hv];exact (aG (by omega)).trans h2') (by rw[<-hv];exact (aG (Ne.symm S.ne)).trans ((f2 bm (by omega) fun h=>by have:=dK S.N bm h;omega).trans hm1)) (by rw[<-hv];exact aJ) (fun d d1 d2 d3 d4=>by rw[<-hv];exact (aG d3).trans ((f2 d d1 d4).trans (F1 d d2)))
    clear hv;rw[hx1];refine C5 H t c lo bd bm vh0 _ _ t[i] hs1 hs2 xs.length _ _ _ _ _ ks ss aa vh3 (vn+1) _ S3 (.inl ⟨rfl,rfl,rfl⟩) (by omega) (by omega) (by omega) fun bt' bx' ba' vh4 n4 S4=>?_
    conv=>whnf
    rw[e];exact fin _ _ _ (hnew hix) bt' bx' ba' vh4 n4 S4 ⟨_,rfl⟩
   ·cases hix:iV t[i] xs 0 with
    |some j=>
     rw[hix] at fi;have hst':iJ xs t[i]=(xs,j):=by unfold iJ;rw[hix]
     conv=>whnf
     refine aB.mk (fun _=>?_) (fun h=>absurd (of_decide_eq_false h) (by omega))
     conv=>whnf
     refine Get.mk (i,aP t[i]) ⟨rfl,by simp[hlt]⟩ ?_
     conv=>whnf
     refine Get.mk _ S.hm ?_
     conv=>whnf
     refine⟨tC xs 0,?_⟩;refine Get.mk _ fi ?_
     conv=>whnf
     refine C5 H t c lo bd bm vh0 _ _ t[i] hs1 hs2 j _ _ _ _ _ ks ss aa vh vn _ S (.inr ⟨_,_,_,rfl,rfl,rfl⟩) (by omega) (by omega) (by omega) fun bt' bx' ba' vh4 n4 S4=>?_
     conv=>whnf
     rw[e];exact fin _ _ _ hst' bt' bx' ba' vh4 n4 S4 ⟨_,rfl⟩
    |none=>
     rw[hix] at fi
     conv=>whnf
     refine aB.mk (fun _=>?_) (fun h=>absurd (of_decide_eq_false h) (by omega))
     conv=>whnf
     refine Get.mk (i,aP t[i]) ⟨rfl,by simp[hlt]⟩ ?_
     conv=>whnf
     refine Get.mk _ S.hm ?_
     conv=>whnf
     refine⟨tC xs 0,?_⟩;refine Get.mk _ fi ?_
     conv=>whnf
     refine Get.mk (_,_,_,_) S.hd ?_
     conv=>whnf
     refine Get.mk _ rfl ?_
     conv=>whnf
     refine Get.mk _ S.hm ?_
     conv=>whnf
     refine⟨tC xs 0,?_⟩;generalize hv:aI vh bm _=vh1;have hm1:vh1 bm=some (.map (hZ (xs++[t[i]]) 0)):=by rw[<-hv];exact aJ.trans (congrArg (fun z=>some (VB.map z)) (hput hix (xs.length:Int) rfl))
     have F1:∀d,d≠bm->vh1 d=vh d:=fun d hd=>by rw[<-hv];exact aG hd
     clear hv;have hd1:=(F1 bd S.ne).trans S.hd;have N1:=S.N.mono (vh':=vh1) (Nat.le_refl _) fun d d1 d2 d3=>F1 d (by have:=S.hbm;omega)
     have q1:=S.hbd;have q2:=S.hbm;have q3:=S.hlo
     conv=>whnf
     refine Get.mk (_,_,_,_) hd1 ?_
     conv=>whnf
     refine Get.mk _ rfl ?_
     conv=>whnf
     refine bC.app' (enc:=qM) PI (by decide) N1 S.hlo t[i] room7 fun vh2 h2' f2=>?_
     have hd2:=(f2 bd (by omega) fun h=>by have:=dK S.N bd h;omega).trans hd1
     conv=>whnf
     refine Get.mk (_,_,_,_) hd2 ?_
     conv=>whnf
     refine⟨⟨(by decide:4<=5),Nat.zero_le _⟩,?_⟩
     conv=>whnf
     generalize hv:aI vh2 bd _=vh3;have S3:=S.appN (vh':=vh3) t[i] (by rw[<-hv];exact (aG (by omega)).trans h2') (by rw[<-hv];exact (aG (Ne.symm S.ne)).trans ((f2 bm (by omega) fun h=>by have:=dK S.N bm h;omega).trans hm1)) (by rw[<-hv];exact aJ) (fun d d1 d2 d3 d4=>by rw[<-hv];exact (aG d3).trans ((f2 d d1 d4).trans (F1 d d2)))
     clear hv;refine C5 H t c lo bd bm vh0 _ _ t[i] hs1 hs2 xs.length _ _ _ _ _ ks ss aa vh3 (vn+1) _ S3 (.inr ⟨_,_,_,rfl,rfl,rfl⟩) (by omega) (by omega) (by omega) fun bt' bx' ba' vh4 n4 S4=>?_
     conv=>whnf
     rw[e];exact fin _ _ _ (hnew hix) bt' bx' ba' vh4 n4 S4 ⟨_,rfl⟩
  ·have hlt:i=t.length:=by omega
   subst hlt;rw[List.drop_length] at h1 h2;have e1:xs=(cV [] t).1:=h1;have e2:ks=(cV [] t).2:=by rw[<-h2];exact (List.append_nil ks).symm
   rw[List.take_length,e1,e2] at S F4;rcases id F4 with⟨rfl,rfl,rfl,rfl,hx0⟩|⟨bt,bx,ba,bn,rfl,rfl,rfl,rfl⟩
   all_goals
    conv=>whnf
    refine aB.mk (fun h=>absurd (of_decide_eq_true h) (by omega)) (fun _=>?_)
    conv=>whnf
    exact hQ _ _ _ _ vh vn _ _ S F4
termination_by m=>m
decreasing_by all_goals omega
end
section
attribute [local irreducible] aN fQ i6 cP
variable {X : Ovr} {G : Gt} {PN : List Nat → List Nat → Prop} {PV PT : List Nat → Prop}
structure K2(PN:List Nat->List Nat->Prop)(PV PT:List Nat->Prop)(t:List Nd):Prop where
 may:iE t=true
 st:dL t 0=true
 ne:0<t.length
 len:t.length<=32
 ok:∀n∈t,NdT PN PV PT n
 s:∀n∈t,n.s.length<=6/\∀a∈n.s,pQ a
 v:∀n∈t,n.v.length<256/\∀x∈n.v,x<256
structure C4(vh:VH)(vn:Nat)(t:List Nd)(bd bp bw bn:Nat):Prop where
 d:∃x y,vh bd=some (.cells [.ptr bp 0,.ptr bw 0,x,.msl bn 0 (cV [] t).1.length 7 none,y] kR 0 false)
 p:∃ls,PAt vh bp (aQ t 0) ls 1 0
 w:∃rv lo,WB vh bw rv t.length (cV [] t).1.length 0/\SlN sZ gC lo vh vn rv (nU (i6 ((cV [] t).1.length-1)) (cV [] t).2)
 n:vh bn=some (.cells ((cV [] t).1.map qM).flatten dE 0 false)
 dp:bd≠bp
 dw:bd≠bw
 pw:bp≠bw
theorem WS(H:XNew X)(Lb:mD X G PN PV PT)(t:List Nd)(T:K2 PN PV PT t)(c:Option Nat)(vh:VH)(vn:Nat):
  aE Tryz.prog X G x5 [.sl 7 (t.map aP) c] vh vn fun v vh' vn'=>∃bd bp bw bn,v=.tup [.ptr bd 0,.int .i64 0]/\C4 vh' vn' t bd bp bw bn/\vn<=vn'/\(∀d,d<vn->vh' d=vh d)/\vn<=bd/\bd<vn':=by
 have hlen:Int.ofNat (t.map aP).length=(t.length:Int):=by simp
 have hl:=T.len;have hne:=T.ne;obtain⟨hh1,hh2,hh3,hh4,hh5⟩:=QW t [];have hh5:=hh5 hne;have hh3:(cV [] t).1.length<=32:=by simp only[List.length_nil] at hh3;omega
 apply aDP.run H.bnew
 conv=>whnf
 refine (X1 H.toXTM Lb t c (by omega) T.ok vh vn).mono fun v vh0 n0 he=>?_
 obtain⟨e1,F0⟩:=he;rw[e1,(aFZ t).trans T.may];clear e1;have g0:=F0.1
 conv=>whnf
 rw[hlen];generalize hv:aI (aI vh0 n0 _) (n0+1) _=vh1;have hd1:vh1 n0=some (.cells [.nilp,.nilp,.nilp,.nils,.nilp] kR 0 false):=hv▸(aG (by omega)).trans aJ
 have hm1:vh1 (n0+1)=some (.map (hZ [] 0)):=hv▸aJ;have F1:∀d,d<n0->vh1 d=vh0 d:=fun d hd=>hv▸(aG (by omega)).trans (aG (by omega))
 clear hv;refine JZ H t (by omega) (fun n hn=>⟨by have:=(T.s n hn).1;omega,(T.s n hn).2⟩) c (n0+2) n0 (n0+1) vh1 _ (fun tv xv av nv vh2 n2 i b S F4=>?_) _ 0 rfl (Nat.zero_le _) .nils .nils .nils .nils [] [] vh1 (n0+2) (Nat.le_refl _) rfl rfl rfl ⟨hd1,hm1,.nil,.nil,.nil,.nil,fun _ h=>h.elim,fun _ h=>h.elim,fun _ h=>h.elim,fun _ h=>h.elim,fun _ h=>h.elim,fun _ h=>h.elim,Nat.le_refl _,by omega,by omega,by omega,fun _ _ _ _=>rfl⟩ (.inl ⟨rfl,rfl,rfl,rfl,rfl⟩)
 have hst:=T.st;have hmay:=RX t 0 hst;have hsl:(aQ t 0).length=2*t.length:=(H8 t 0 hst).trans (Nat.add_zero _);have hKS:(cV [] t).2.length=t.length:=hh1;generalize hXS:(cV [] t).1=XS at *;generalize hKSe:(cV [] t).2=KS at *;rcases F4 with⟨_,_,_,_,hx0⟩|⟨bt,bx,ba,bn,rfl,rfl,rfl,rfl⟩
 ·rw[hx0] at hh5;cases hh5
 obtain⟨_,⟨bt,bt1,bt2,et,bt4⟩⟩:∃_:Unit,∃b,n0+2<=b/\b<n2/\V.msl bt 0 KS.length 1 none=.msl b 0 KS.length 1 none/\vh2 b=some (.cells (KS.map bL).flatten cQ 0 false):=by
  rcases S.T with⟨h|h,_⟩|h
  ·cases h
  ·cases h
  ·exact⟨(),h⟩
 cases et;obtain⟨_,⟨bx,bx1,bx2,et,bx4⟩⟩:∃_:Unit,∃b,n0+2<=b/\b<n2/\V.msl bx 0 (t.map fun n=>n.v).length 1 none=.msl b 0 (t.map fun n=>n.v).length 1 none/\vh2 b=some (.cells ((t.map fun n=>n.v).map bX).flatten iN 0 false):=by
  rcases S.S with⟨h|h,_⟩|h
  ·cases h
  ·cases h
  ·exact⟨(),h⟩
 cases et;obtain⟨_,⟨ba,ba1,ba2,et,ba4⟩⟩:∃_:Unit,∃b,n0+2<=b/\b<n2/\V.msl ba 0 (t.map fun n=>cP n.s).length 1 none=.msl b 0 (t.map fun n=>cP n.s).length 1 none/\vh2 b=some (.cells ((t.map fun n=>cP n.s).map bX).flatten iN 0 false):=by
  rcases S.A with⟨h|h,_⟩|h
  ·cases h
  ·cases h
  ·exact⟨(),h⟩
 cases et;obtain⟨_,⟨bn,bn1,bn2,et,bn4⟩⟩:∃_:Unit,∃b,n0+2<=b/\b<n2/\V.msl bn 0 XS.length 7 none=.msl b 0 XS.length 7 none/\vh2 b=some (.cells (XS.map qM).flatten dE 0 false):=by
  rcases S.N with⟨h|h,_⟩|h
  ·cases h
  ·cases h
  ·exact⟨(),h⟩
 cases et;have dtx:bt≠bx:=fun h=>S.dTS bt rfl h;have dta:bt≠ba:=fun h=>S.dTA bt rfl h;have dtn:bt≠bn:=fun h=>S.dTN bt rfl h;have dxa:bx≠ba:=fun h=>S.dSA bx rfl h;have dxn:bx≠bn:=fun h=>S.dSN bx rfl h;have dan:ba≠bn:=fun h=>S.dAN ba rfl h;have hd2:=S.hd;have F2:∀d,d<vn->vh2 d=vh d:=fun d hd=>(S.fr d (by omega) (by omega) (by omega)).trans ((F1 d (by omega)).trans (F0.2 d hd))
 clear S hd1 hm1 F1
 conv=>whnf
 generalize hv:aI vh2 n2 _=vh3;have C3:vh3 n2=some (.cells [.int .i64 0,.int .i64 0,.int .i64 0,.int .i64 0] sM 0 false):=hv▸aJ;have F3:∀d,d<n2->vh3 d=vh2 d:=fun d hd=>hv▸aG (by omega)
 clear hv;refine (XQ H.shape t (by omega) hst c vh3 (n2+1)).mono fun v vh4 n4 he=>?_
 obtain⟨A4,F4⟩:=he;have g4:=F4.1;rcases A4 with⟨_,h⟩|⟨b4,q1,q2,rfl,q4⟩
 ·rw[h] at hsl;simp only[List.length_nil] at hsl;omega
 conv=>whnf
 refine Get.mk (_,_,_,_) q4 ?_
 conv=>whnf
 refine⟨gE hU (by decide),?_⟩
 conv=>whnf
 refine Get.mk _ (eR hU) ?_
 conv=>whnf
 refine (WW H.toXPar4 (aQ t 0) (by omega) hmay none).mono fun v vh5 n5 he=>?_
 obtain⟨bp,ls,e5,P5,p1,p2,f5⟩:=he;rw[e5];clear e5;have K5:∀d,d<=n2->vh5 d=vh3 d:=fun d hd=>(f5 d (by omega)).trans ((bY (by omega)).trans (F4.2 d (by omega)))
 clear f5 F4 q4;have hd5:=(K5 n0 (by omega)).trans ((F3 n0 (by omega)).trans hd2)
 conv=>whnf
 refine Get.mk (_,_,_,_) hd5 ?_
 conv=>whnf
 refine⟨⟨(by decide:1<=5),Nat.zero_le _⟩,?_⟩
 conv=>whnf
 generalize hv:aI vh5 n0 _=vh6;have hd6:vh6 n0=some (.cells [.ptr bp 0,.nilp,.nilp,.msl bn 0 XS.length 7 none,.nilp] kR 0 false):=hv▸aJ;have K6:∀d,d≠n0->vh6 d=vh5 d:=fun d hd=>hv▸aG hd;clear hv;have C6:=(K6 n2 (by omega)).trans ((K5 n2 (Nat.le_refl _)).trans C3)
 refine Get.mk 0 ⟨rfl,by decide⟩ ?_
 conv=>whnf
 refine Get.mk (_,_,_,_) C6 ?_
 conv=>whnf
 refine⟨⟨(by decide:1<=4),Nat.zero_le _⟩,?_⟩
 conv=>whnf
 generalize hv:aI vh6 n2 _=vh7;have C7:vh7 n2=some (.cells [.int .i64 0,.int .i64 0,.int .i64 0,.int .i64 0] sM 0 false):=hv▸aJ;have K7:∀d,d≠n2->vh7 d=vh6 d:=fun d hd=>hv▸aG hd;clear hv;have hd7:=(K7 n0 (by omega)).trans hd6
 have P7:PAt vh7 bp (aQ t 0) ls 1 0:=(K7 bp (by omega)).trans ((K6 bp (by omega)).trans P5)
 have K27:∀d,d<n2->d≠n0->vh7 d=vh2 d:=fun d h1 h2=>(K7 d (by omega)).trans ((K6 d h2).trans ((K5 d (by omega)).trans (F3 d h1)))
 clear K7 K6 K5 F3 hd6 C6 hd5 C3 P5;refine Get.mk (_,_,_,_) hd7 ?_
 conv=>whnf
 refine Get.mk _ rfl ?_
 conv=>whnf
 have fb1:=(K27 bt bt2 (by omega)).trans bt4
 refine Get.mk (_,_,_,_) fb1 ?_
 conv=>whnf
 refine⟨gE gN (by decide),?_⟩
 conv=>whnf
 refine Get.mk _ (eR gN) ?_
 conv=>whnf
 refine (YA H.toXWave KS XS.length hh5 (by omega) (by omega) hh4 none _ _).mono fun v vh8 n8 he=>?_
 obtain⟨e8,⟨rv,B8,R8⟩,g8,F8⟩:=he;rw[e8];clear e8;have K8:∀d,d<n5->d≠bt->vh8 d=vh7 d:=fun d h1 h2=>(F8.2 d h1).trans (bY h2);clear F8;have hd8:=(K8 n0 (by omega) (by omega)).trans hd7
 conv=>whnf
 refine Get.mk (_,_,_,_) hd8 ?_
 conv=>whnf
 refine⟨⟨(by decide:2<=5),Nat.zero_le _⟩,?_⟩
 conv=>whnf
 generalize hv:aI vh8 n0 _=vh9;have hd9:vh9 n0=some (.cells [.ptr bp 0,.ptr n5 0,.nilp,.msl bn 0 XS.length 7 none,.nilp] kR 0 false):=hv▸aJ;have K9:∀d,d≠n0->vh9 d=vh8 d:=fun d hd=>hv▸aG hd;clear hv;have C9:=(K9 n2 (by omega)).trans ((K8 n2 (by omega) (by omega)).trans C7)
 refine Get.mk 1 ⟨rfl,by decide⟩ ?_
 conv=>whnf
 refine Get.mk (_,_,_,_) C9 ?_
 conv=>whnf
 refine⟨⟨(by decide:2<=4),Nat.zero_le _⟩,?_⟩
 conv=>whnf
 generalize hv:aI vh9 n2 _=vh10;have C10:vh10 n2=some (.cells [.int .i64 0,.int .i64 0,.int .i64 0,.int .i64 0] sM 0 false):=hv▸aJ;have K10:∀d,d≠n2->vh10 d=vh9 d:=fun d hd=>hv▸aG hd;clear hv;have hd10:=(K10 n0 (by omega)).trans hd9
 have K810:∀d,d≠n0->d≠n2->vh10 d=vh8 d:=fun d h1 h2=>(K10 d h2).trans (K9 d h1);clear K9 K10 hd9 C9 hd8;have K20:∀d,d<n2->d≠n0->d≠bt->vh10 d=vh2 d:=fun d h1 h2 h3=>(K810 d h2 (by omega)).trans ((K8 d (by omega) h3).trans (K27 d h1 h2))
 conv=>whnf
 have fb2:=(K20 bx bx2 (by omega) (Ne.symm dtx)).trans bx4
 refine Get.mk (_,_,_,_) fb2 ?_
 conv=>whnf
 refine⟨gE tB (by decide),?_⟩
 conv=>whnf
 refine Get.mk _ (eR tB) ?_
 conv=>whnf
 refine (J9 H.toXPool (t.map fun n=>n.v) (by rw[List.length_map];omega) (fun s hs=>?_) none _ _).mono fun v vh11 n11 he=>?_
 ·obtain⟨n,hn,rfl⟩:=List.mem_map.1 hs;exact T.v n hn
 obtain⟨px,e11,F11⟩:=he;rw[e11];clear e11;have g11:=F11.1;have K11:∀d,d<n8->d≠bx->vh11 d=vh10 d:=fun d h1 h2=>(F11.2 d h1).trans (bY h2);clear F11;have hd11:=(K11 n0 (by omega) (by omega)).trans hd10
 conv=>whnf
 refine Get.mk (_,_,_,_) hd11 ?_
 conv=>whnf
 refine⟨⟨(by decide:3<=5),Nat.zero_le _⟩,?_⟩
 conv=>whnf
 generalize hv:aI vh11 n0 _=vh12;have hd12:vh12 n0=some (.cells [.ptr bp 0,.ptr n5 0,.ptr px 0,.msl bn 0 XS.length 7 none,.nilp] kR 0 false):=hv▸aJ;have K12:∀d,d≠n0->vh12 d=vh11 d:=fun d hd=>hv▸aG hd;clear hv;have C12:=(K12 n2 (by omega)).trans ((K11 n2 (by omega) (by omega)).trans C10)
 refine Get.mk 2 ⟨rfl,by decide⟩ ?_
 conv=>whnf
 refine Get.mk (_,_,_,_) C12 ?_
 conv=>whnf
 refine⟨⟨(by decide:3<=4),Nat.zero_le _⟩,?_⟩
 conv=>whnf
 generalize hv:aI vh12 n2 _=vh13;have C13:vh13 n2=some (.cells [.int .i64 0,.int .i64 0,.int .i64 0,.int .i64 0] sM 0 false):=hv▸aJ;have K13:∀d,d≠n2->vh13 d=vh12 d:=fun d hd=>hv▸aG hd;clear hv;have hd13:=(K13 n0 (by omega)).trans hd12
 have K103:∀d,d<n8->d≠n0->d≠n2->d≠bx->vh13 d=vh10 d:=fun d h1 h2 h3 h4=>(K13 d h3).trans ((K12 d h2).trans (K11 d h1 h4));clear K13 K12 K11 hd12 C12 hd11 hd10
 conv=>whnf
 have fb3:=(K103 ba (by omega) (by omega) (by omega) (Ne.symm dxa)).trans ((K20 ba ba2 (by omega) (Ne.symm dta)).trans ba4)
 refine Get.mk (_,_,_,_) fb3 ?_
 conv=>whnf
 refine⟨gE tB (by decide),?_⟩
 conv=>whnf
 refine Get.mk _ (eR tB) ?_
 conv=>whnf
 refine (J9 H.toXPool (t.map fun n=>cP n.s) (by rw[List.length_map];omega) (fun s hs=>?_) none _ _).mono fun v vh14 n14 he=>?_
 ·obtain⟨n,hn,rfl⟩:=List.mem_map.1 hs;obtain⟨h1,h2⟩:=HF n.s (T.s n hn).2;have:=(T.s n hn).1;exact⟨by omega,h2⟩
 obtain⟨pa,e14,F14⟩:=he;rw[e14];clear e14;have g14:=F14.1;have K14:∀d,d<n11->d≠ba->vh14 d=vh13 d:=fun d h1 h2=>(F14.2 d h1).trans (bY h2);clear F14;have hd14:=(K14 n0 (by omega) (by omega)).trans hd13
 conv=>whnf
 refine Get.mk (_,_,_,_) hd14 ?_
 conv=>whnf
 refine⟨⟨(by decide:5<=5),Nat.zero_le _⟩,?_⟩
 conv=>whnf
 generalize hv:aI vh14 n0 _=vh15;have hd15:vh15 n0=some (.cells [.ptr bp 0,.ptr n5 0,.ptr px 0,.msl bn 0 XS.length 7 none,.ptr pa 0] kR 0 false):=hv▸aJ;have K15:∀d,d≠n0->vh15 d=vh14 d:=fun d hd=>hv▸aG hd;clear hv;have C15:=(K15 n2 (by omega)).trans ((K14 n2 (by omega) (by omega)).trans C13)
 refine Get.mk 3 ⟨rfl,by decide⟩ ?_
 conv=>whnf
 refine Get.mk (_,_,_,_) C15 ?_
 conv=>whnf
 refine⟨⟨(by decide:4<=4),Nat.zero_le _⟩,?_⟩
 conv=>whnf
 generalize hv:aI vh15 n2 _=vh16;have C16:vh16 n2=some (.cells (([0,0,0,0]:List Int).map iR).flatten sM 0 false):=hv▸aJ;have K16:∀d,d≠n2->vh16 d=vh15 d:=fun d hd=>hv▸aG hd;clear hv;have hd16:=(K16 n0 (by omega)).trans hd15
 have K136:∀d,d<n11->d≠n0->d≠n2->d≠ba->vh16 d=vh13 d:=fun d h1 h2 h3 h4=>(K16 d h3).trans ((K15 d h2).trans (K14 d h1 h4));clear K16 K15 K14 hd15 C15 hd14 hd13;have Kend:∀d,d<n8->d≠n0->d≠n2->d≠bx->d≠ba->bU vh16 n2 d=vh8 d:=fun d h1 h2 h3 h4 h5=>(bY h3).trans ((K136 d (by omega) h2 h3 h5).trans ((K103 d h1 h2 h3 h4).trans (K810 d h2 h3)))
 have P16:=(Kend bp (by omega) (by omega) (by omega) (by omega) (by omega)).trans ((K8 bp p2 (by omega)).trans P7)
 have W16:=(Kend n5 g8 (by omega) (by omega) (by omega) (by omega)).trans B8
 have R16:=R8.mono (vh':=bU vh16 n2) (nx':=n14) (by omega) fun d d1 d2 d3=>Kend d d2 (by omega) (by omega) (by omega) (by omega)
 have N16:=(Kend bn (by omega) (by omega) (by omega) (Ne.symm dxn) (Ne.symm dan)).trans ((K8 bn (by omega) (Ne.symm dtn)).trans ((K27 bn bn2 (by omega)).trans bn4))
 have D16:=(bY (show n0≠n2 by omega)).trans hd16
 have F16:∀d,d<vn->bU vh16 n2 d=vh d:=fun d hd=>(Kend d (by omega) (by omega) (by omega) (by omega) (by omega)).trans ((K8 d (by omega) (by omega)).trans ((K27 d (by omega) (by omega)).trans (F2 d hd)))
 rw[hKS] at W16;subst hXS;subst hKSe;clear Kend R8 B8 K8 K810 K20 K27 K103 K136 fb1 fb2 fb3 hd7 P7 C7 C10 C13 bt4 bx4 ba4 bn4 hd2 F2
 conv=>whnf
 refine Get.mk (_,_,_,_) C16 ?_
 conv=>whnf
 refine⟨⟨Nat.zero_le _,Nat.le_refl _,by decide,Nat.le_refl _⟩,?_⟩
 conv=>whnf
 refine Get.mk (_,_,_,_) C16 ?_
 conv=>whnf
 refine⟨⟨by decide,Nat.le_refl _,fun y hy=>by cases hy;exact Nat.le_refl _⟩,?_⟩
 conv=>whnf
 refine Get.mk _ (show oV 1 4 (([0,0,0,0]:List Int).map iR).flatten (([0,0,0,0]:List Int).map iR) from eR (xs:=([0,0,0,0]:List Int)) PH) ?_
 conv=>whnf
 refine (WM H.max4 _ _).mono fun v vh' vn' he=>?_;obtain⟨e1,e2,e3⟩:=he;rw[e1,e2,e3]
 conv=>whnf
 exact Get.mk _ (fun _ _ h=>h) ⟨n0,bp,n5,bn,rfl,⟨⟨_,_,D16⟩,⟨ls,P16⟩,⟨rv,_,W16,R16⟩,N16,by omega,by omega,by omega⟩,by show vn<=n14;omega,F16,by omega,by show n0<n14;omega⟩
end
section
attribute [local irreducible] aN wd bB aL pc dQ bO rkN cW dY ex upN dX qI clB opB aQ
variable {X : Ovr} {G : Gt}
structure sQ(X:Ovr):Prop extends XNew X where
 dat:X jW=none
 first:X uT=none
 last:X x7=none
 next:X x8=none
 prev:X yA=none
 parent:X x9=none
 count:X rJ=none
 ddepth:X uS=none
 dup:X yB=none
 excess:X yM=none
structure jU(vh:VH)(bd bp:Nat)(t:List Nd):Prop where
 d:∃a b c e,vh bd=some (.cells [.ptr bp 0,a,b,c,e] kR 0 false)
 ne:bd≠bp
 p:∃ls st,PAt vh bp (aQ t 0) ls 1 st
theorem C4.doc{vh:VH}{vn:Nat}{t:List Nd}{bd bp bw bn:Nat}(N:C4 vh vn t bd bp bw bn):jU vh bd bp t:=by obtain⟨x,y,h⟩:=N.d;obtain⟨ls,hp⟩:=N.p;exact⟨⟨_,_,_,_,h⟩,N.dp,⟨ls,0,hp⟩⟩
variable {vh : VH} {vn bd bp : Nat} {t : List Nd}
theorem jU.upd(D:jU vh bd bp t){vh':VH}{ls:List Int}{st:Int}(F:∀c,c≠bp->vh' c=vh c)(P:PAt vh' bp (aQ t 0) ls 1 st):jU vh' bd bp t:=by obtain⟨a,b,c,e,h⟩:=D.d;exact⟨⟨a,b,c,e,(F bd D.ne).trans h⟩,D.ne,ls,st,P⟩
theorem nV(H:sQ X)(hG:G kQ=some tzL)(hs:dL t 0=true)(hl:t.length<=32)(D:jU vh bd bp t)(k:Nat)(hk:k<t.length):
  aE Tryz.prog X G jW [.ptr bd 0,.int .i64 (k:Int)] vh vn fun v vh' vn'=>vh'=vh/\vn'=vn/\v=.tup [.ptr bp 0,.int .i64 (pos t k:Int)]:=by
 obtain⟨a,b,c,e,hd⟩:=D.d;obtain⟨ls,st,P⟩:=D.p;have hsl:=gT hs;have hrk:rkN (aQ t 0) true (aQ t 0).length=t.length:=by have h1:=AE hs (k:=t.length) (Nat.le_refl _);rw[nK hs] at h1;unfold rkN;rw[if_pos rfl,hsl,h1]
 apply aD0.run H.dat
 conv=>whnf
 refine Get.mk (_,_,_,_) hd ?_
 conv=>whnf
 refine Get.mk _ rfl ?_
 conv=>whnf
 refine Get.mk (_,_,_,_) hd ?_
 conv=>whnf
 refine Get.mk _ rfl ?_
 conv=>whnf
 refine (WX H.toXPar hG (by omega) P (k:Int)).mono fun v vh' vn' he=>?_
 obtain⟨e1,e2,p,e3,e4⟩:=he;rw[e1,e2,e3];have e5:p=(pos t k:Int):=by
  rcases e4 with⟨_,_,q,h1,h2⟩|⟨_,h⟩
  ·rw[h1,aIo hs h2,Int.toNat_natCast]
  ·rw[hrk] at h;omega
 rw[e5];clear e1 e2 e3 e4 e5
 conv=>whnf
 refine⟨⟨rfl,?_⟩,?_⟩
 ·refine Get.mk (_,_,_,_) hd ?_
  conv=>whnf
  refine Get.mk _ rfl ?_
  conv=>whnf
 conv=>whnf
 exact Get.mk _ (fun _ _ h=>h) ⟨rfl,rfl,rfl⟩
def Way(vn bd bp:Nat)(t:List Nd)(z:Int)(v:V)(vh':VH)(vn':Nat):Prop:=vn'=vn/\jU vh' bd bp t/\v=.int .i64 z
variable (H : sQ X) (hG : G kQ = some tzL) (hs : dL t 0 = true) (hl : t.length ≤ 32) (D : jU vh bd bp t) (k : Nat) (hk : k < t.length)
include H hG hs hl D hk
theorem JA:aE Tryz.prog X G uT [.ptr bd 0,.int .i64 (k:Int)] vh vn (Way vn bd bp t (m0 t k)):=by
 have hsl:=gT hs;have hp:=cC hs (k:=k) (by omega)
 apply aDU.run H.first
 conv=>whnf
 refine (nV H hG hs hl D k hk).mono fun v vh' vn' he=>?_;obtain⟨e1,e2,e3⟩:=he;rw[e1,e2,e3];clear e1 e2 e3
 conv=>whnf
 rw[show wr .i64 ((pos t k:Int)+1)=(pos t k:Int)+1 by rw[aF]<;>omega]
 obtain⟨ls,st,P⟩:=D.p;refine (rZ H.toXPar (by omega) P _).mono fun v vh' vn' he=>?_
 obtain⟨e1,e2,e3⟩:=he;rw[e1,e2,e3,show (if opB (aQ t 0) ((pos t k:Int)+1)=true then (aL ((aQ t 0).take ((pos t k:Int)+1).toNat):Int) else -1)=m0 t k from aFd hs hk]
 conv=>whnf
 exact Get.mk _ (fun _ _ h=>h) ⟨rfl,D,rfl⟩
theorem VY(n:Int):aE Tryz.prog X G yB [.ptr bd 0,.int .i64 (k:Int),.int .i64 n] vh vn (Way vn bd bp t (upA t k n)):=by
 have hsl:=gT hs;apply aDZ.run H.dup
 conv=>whnf
 refine (nV H hG hs hl D k hk).mono fun v vh' vn' he=>?_;obtain⟨e1,e2,e3⟩:=he;rw[e1,e2,e3];clear e1 e2 e3
 conv=>whnf
 obtain⟨ls,st,P⟩:=D.p;refine (LC H.toXPar3 (by omega) P _ n).mono fun v vh1 n1 he=>?_
 obtain⟨e1,F1,⟨st1,P1,_⟩,e3⟩:=he;rw[o6 hs hk,if_pos rfl,Int.toNat_natCast] at e3;rw[e1,e3];clear e1 e3
 conv=>whnf
 refine (rZ H.toXPar (by omega) P1 _).mono fun v vh' vn' he=>?_
 obtain⟨e1,e2,e3⟩:=he;rw[e1,e2,e3,show (if opB (aQ t 0) (upN (aQ t 0) (pos t k) n)=true then (aL ((aQ t 0).take (upN (aQ t 0) (pos t k) n).toNat):Int) else -1)=upA t k n from SH hs hk n]
 conv=>whnf
 exact Get.mk _ (fun _ _ h=>h) ⟨rfl,D.upd F1 P1,rfl⟩
theorem VV:aE Tryz.prog X G x9 [.ptr bd 0,.int .i64 (k:Int)] vh vn (Way vn bd bp t (kE t k)):=by
 have hsl:=gT hs;apply aDX.run H.parent
 conv=>whnf
 refine (nV H hG hs hl D k hk).mono fun v vh' vn' he=>?_;obtain⟨e1,e2,e3⟩:=he;rw[e1,e2,e3];clear e1 e2 e3
 conv=>whnf
 obtain⟨ls,st,P⟩:=D.p;refine (V2 H.toXPar3 (by omega) P _).mono fun v vh1 n1 he=>?_
 obtain⟨e1,F1,⟨st1,P1,_⟩,e3⟩:=he;rw[o6 hs hk,if_pos rfl,Int.toNat_natCast] at e3;rw[e1,e3];clear e1 e3
 conv=>whnf
 refine (rZ H.toXPar (by omega) P1 _).mono fun v vh' vn' he=>?_
 obtain⟨e1,e2,e3⟩:=he;rw[e1,e2,e3,show (if opB (aQ t 0) (upN (aQ t 0) (pos t k) 1)=true then (aL ((aQ t 0).take (upN (aQ t 0) (pos t k) 1).toNat):Int) else -1)=kE t k from (SH hs hk 1).trans (UM hs hk)]
 conv=>whnf
 exact Get.mk _ (fun _ _ h=>h) ⟨rfl,D.upd F1 P1,rfl⟩
theorem VU:aE Tryz.prog X G x8 [.ptr bd 0,.int .i64 (k:Int)] vh vn (Way vn bd bp t (gQ t k)):=by
 have hsl:=gT hs;have hp:=cC hs (k:=k) (by omega)
 have hc:=v7 hs hk;obtain⟨a1,a2,_,_⟩:=iP hs hk;apply aDW.run H.next
 conv=>whnf
 refine (nV H hG hs hl D k hk).mono fun v vh' vn' he=>?_;obtain⟨e1,e2,e3⟩:=he;rw[e1,e2,e3];clear e1 e2 e3
 conv=>whnf
 obtain⟨ls,st,P⟩:=D.p;refine (CN H.toXPar3 (by omega) P _).mono fun v vh1 n1 he=>?_
 obtain⟨e1,F1,P1,e3⟩:=he;rw[o6 hs hk,if_pos rfl,Int.toNat_natCast] at e3;rw[e1,e3];clear e1 e3
 conv=>whnf
 rw[show wr .i64 (dX (aQ t 0) (pos t k)+1)=dX (aQ t 0) (pos t k)+1 by rw[aF]<;>omega]
 refine (rZ H.toXPar (by omega) P1 _).mono fun v vh' vn' he=>?_
 obtain⟨e1,e2,e3⟩:=he;rw[e1,e2,e3,show (if opB (aQ t 0) (dX (aQ t 0) (pos t k)+1)=true then (aL ((aQ t 0).take (dX (aQ t 0) (pos t k)+1).toNat):Int) else -1)=gQ t k from aFf hs hk]
 conv=>whnf
 exact Get.mk _ (fun _ _ h=>h) ⟨rfl,D.upd F1 P1,rfl⟩
theorem VW:aE Tryz.prog X G yA [.ptr bd 0,.int .i64 (k:Int)] vh vn (Way vn bd bp t (tY t k)):=by
 have hsl:=gT hs;have hp:=cC hs (k:=k) (by omega)
 apply aDY.run H.prev
 conv=>whnf
 refine (nV H hG hs hl D k hk).mono fun v vh' vn' he=>?_;obtain⟨e1,e2,e3⟩:=he;rw[e1,e2,e3];clear e1 e2 e3
 conv=>whnf
 rw[show wr .i64 ((pos t k:Int)-1)=(pos t k:Int)-1 by rw[aF]<;>omega]
 obtain⟨ls,st,P⟩:=D.p;refine (I6 H.toXPar3 (by omega) P _).mono fun v vh1 n1 he=>?_
 obtain⟨e1,F1,P1,e3⟩:=he;rw[e1,e3];clear e1 e3
 conv=>whnf
 refine (rZ H.toXPar (by omega) P1 _).mono fun v vh' vn' he=>?_
 obtain⟨e1,e2,e3⟩:=he;have e4:=aFh hs hk;unfold lM at e4;rw[e1,e2,e3,e4]
 conv=>whnf
 exact Get.mk _ (fun _ _ h=>h) ⟨rfl,D.upd F1 P1,rfl⟩
theorem VT:aE Tryz.prog X G x7 [.ptr bd 0,.int .i64 (k:Int)] vh vn (Way vn bd bp t (tO t k)):=by
 have hsl:=gT hs;have hp:=cC hs (k:=k) (by omega)
 have hc:=v7 hs hk;obtain⟨a1,a2,_,_⟩:=iP hs hk;apply aDV.run H.last
 conv=>whnf
 refine (nV H hG hs hl D k hk).mono fun v vh' vn' he=>?_;obtain⟨e1,e2,e3⟩:=he;rw[e1,e2,e3];clear e1 e2 e3
 conv=>whnf
 obtain⟨ls,st,P⟩:=D.p;refine (CN H.toXPar3 (by omega) P _).mono fun v vh1 n1 he=>?_
 obtain⟨e1,F1,P1,e3⟩:=he;rw[o6 hs hk,if_pos rfl,Int.toNat_natCast] at e3;rw[e1,e3];clear e1 e3
 conv=>whnf
 rw[show wr .i64 (dX (aQ t 0) (pos t k)-1)=dX (aQ t 0) (pos t k)-1 by rw[aF]<;>omega]
 refine (I6 H.toXPar3 (by omega) P1 _).mono fun v vh2 n2 he=>?_
 obtain⟨e1,F2,P2,e3⟩:=he;rw[e1,e3];clear e1 e3
 conv=>whnf
 refine (rZ H.toXPar (by omega) P2 _).mono fun v vh' vn' he=>?_
 obtain⟨e1,e2,e3⟩:=he;have e4:=aFe hs hk;unfold lM at e4;rw[e1,e2,e3,e4]
 conv=>whnf
 exact Get.mk _ (fun _ _ h=>h) ⟨rfl,(D.upd F1 P1).upd F2 P2,rfl⟩
theorem CP:aE Tryz.prog X G rJ [.ptr bd 0,.int .i64 (k:Int)] vh vn (Way vn bd bp t ((aO t k:Int)-k)):=by
 have hsl:=gT hs;have hp:=cC hs (k:=k) (by omega)
 have hc:=v7 hs hk;obtain⟨a1,a2,_,_⟩:=iP hs hk;apply aDS.run H.count
 conv=>whnf
 refine (nV H hG hs hl D k hk).mono fun v vh' vn' he=>?_;obtain⟨e1,e2,e3⟩:=he;rw[e1,e2,e3];clear e1 e2 e3
 conv=>whnf
 obtain⟨ls,st,P⟩:=D.p;refine (XU H.toXPar3 (by omega) P _).mono fun v vh1 n1 he=>?_
 obtain⟨e1,F1,P1,e3⟩:=he;rw[o6 hs hk,if_pos rfl,Int.toNat_natCast,hc,show 2*(aO t k:Int)-dep t k-1-(pos t k:Int)+1=((2*(aO t k-k):Nat):Int) by omega,show ((2*(aO t k-k):Nat):Int).tdiv 2=((2*(aO t k-k) / 2:Nat):Int) from rfl,show 2*(aO t k-k) / 2=aO t k-k by omega,show ((aO t k-k:Nat):Int)=(aO t k:Int)-k by omega] at e3
 rw[e1,e3];clear e1 e3
 conv=>whnf
 exact Get.mk _ (fun _ _ h=>h) ⟨rfl,D.upd F1 P1,rfl⟩
theorem I9:aE Tryz.prog X G uS [.ptr bd 0,.int .i64 (k:Int)] vh vn (Way vn bd bp t (dep t k)):=by
 have hsl:=gT hs;have hp:=cC hs (k:=k) (by omega)
 have hstp:=pA hs hk;have hm:=kF hs (j:=k+1) (k:=t.length) (by omega) (Nat.le_refl _)
 rw[nK hs] at hm;have hx:ex (aQ t 0) (pos t k+1)=dep t k+1:=by rw[j6 hs hk (Nat.lt_succ_self _) (by omega)];omega
 apply aDT.run H.ddepth
 conv=>whnf
 refine (nV H hG hs hl D k hk).mono fun v vh' vn' he=>?_;obtain⟨e1,e2,e3⟩:=he;rw[e1,e2,e3];clear e1 e2 e3
 conv=>whnf
 obtain⟨ls,st,P⟩:=D.p;have hE:aE Tryz.prog X G yM [.ptr bp 0,.int .i64 (pos t k:Int)] vh vn fun v vh' vn'=>vh'=vh/\vn'=vn/\v=.int .i64 (dep t k+1):=by
  apply aDi.run H.excess
  conv=>whnf
  refine (DA H.toXPar P).mono fun v vh' vn' he=>?_;obtain⟨e1,e2,e3⟩:=he;rw[e1,e2,e3];clear e1 e2 e3
  conv=>whnf
  refine aB.mk (fun h=>absurd (of_decide_eq_true (show decide (((aQ t 0).length:Int)<=(pos t k:Int))=true from h)) (by omega)) (fun _=>?_)
  conv=>whnf
  refine (qD H.toXPar (by omega) P (pos t k+1) (by omega) (pos t k:Int) (by omega)).mono fun v vh' vn' he=>?_
  obtain⟨e1,e2,e3⟩:=he;rw[e1,e2,e3,hx]
  conv=>whnf
  exact Get.mk _ (fun _ _ h=>h) ⟨rfl,rfl,rfl⟩
 refine hE.mono fun v vh' vn' he=>?_;obtain⟨e1,e2,e3⟩:=he;rw[e1,e2,e3];clear e1 e2 e3
 conv=>whnf
 rw[show max (wr .i64 (dep t k+1-1)) (-1)=dep t k by rw[show wr .i64 (dep t k+1-1)=dep t k by rw[aF]<;>omega];omega]
 exact Get.mk _ (fun _ _ h=>h) ⟨rfl,D,rfl⟩
end
section
attribute [local irreducible] aN wd bB aL pc dQ bO rkN cW dY ex upN dX qI clB opB aQ aO kE tY gQ m0 tO upA dep nB
variable {X : Ovr} {G : Gt}
theorem q8{a b:Int}(h:a=b):¬((!decide (a=b))=true):=by simp[h]
theorem JD(H:sQ X)(hG:G kQ=some tzL){t:List Nd}(hs:dL t 0=true)(hl:t.length<=32)(c0:Option Nat)(bd bp:Nat)(k:Nat)(hk:k<t.length)(Q:FQ)
  (hQ:∀vh' vn' nn i b,(0<nn->k+1<aO t k)->jU vh' bd bp t->Q (.exit 2) [(3,.sl 7 (t.map aP) c0),(4,.ptr bd 0),(6,.int .i64 (k:Int)),(7,.int .i64 nn),(8,.int .i64 (-1)),(9,.int .i64 (tO t k)),(10,.int .i64 ((aO t k:Int)-k)),(11,.int .i64 i),(41,.bool b)] vh' vn'):
  ∀(m x:Nat),aO t k-x=m->∀(c:Int) (i:Nat) (vh:VH) (vn:Nat),DQ t k x c->i+k+1<=x->(0<i->k+1<aO t k)->jU vh bd bp t->
  aC Tryz.prog X G (.loop M5) [(3,.sl 7 (t.map aP) c0),(4,.ptr bd 0),(6,.int .i64 (k:Int)),(7,.int .i64 (i:Int)),(8,.int .i64 c),(9,.int .i64 (nB t k x)),(10,.int .i64 ((x:Int)-k)),(11,.int .i64 (i:Int))] vh vn Q
 |m,x,hm,c,i,vh,vn,W,hi,hi2,D=>by
  have hlen:Int.ofNat (t.map aP).length=(t.length:Int):=by simp
  obtain⟨a1,a2,_,_⟩:=iP hs hk;refine aC.round ?_;have hlo:=W.lo;have hhi:=W.hi;by_cases hx:x=aO t k
  ·rw[W.c2 hx];subst hx;rw[aJa hs]
   conv=>whnf
   exact hQ vh vn _ _ _ (fun h=>hi2 (by omega)) D
  ·obtain⟨hc,hd⟩:=W.c1 (by omega)
   have hxl:x<t.length:=by omega
   have hpar:=aJb hs hk hlo (by omega) hd
   have hprev:=aJc hs hk hlo (by omega) hd
   obtain⟨W2,hl2⟩:=aJe hs hk hlo (by omega) hd
   obtain⟨b1,b2,_,_⟩:=iP hs hxl;have hdk:=cC hs (k:=k) (by omega)
   subst hc
   conv=>whnf
   rw[hlen];refine aB.mk (fun _=>?_) (fun h=>absurd (of_decide_eq_false h) (by omega))
   conv=>whnf
   refine (VV H hG hs hl D x hxl).mono fun v vh1 n1 he=>?_;obtain⟨e1,D1,e3⟩:=he;rw[hpar] at e3;rw[e1,e3];clear e1 e3
   conv=>whnf
   refine aB.mk (fun h=>absurd h (q8 rfl)) (fun _=>?_)
   conv=>whnf
   refine (VW H hG hs hl D1 x hxl).mono fun v vh2 n2 he=>?_;obtain⟨e1,D2,e3⟩:=he;rw[hprev] at e3;rw[e1,e3];clear e1 e3
   conv=>whnf
   refine aB.mk (fun h=>absurd h (q8 rfl)) (fun _=>?_)
   conv=>whnf
   refine (VY H hG hs hl D2 x hxl 1).mono fun v vh3 n3 he=>?_;obtain⟨e1,D3,e3⟩:=he;rw[UM hs hxl,hpar] at e3;rw[e1,e3];clear e1 e3
   conv=>whnf
   refine aB.mk (fun h=>absurd h (q8 rfl)) (fun _=>?_)
   conv=>whnf
   refine (I9 H hG hs hl D3 x hxl).mono fun v vh4 n4 he=>?_;obtain⟨e1,D4,e3⟩:=he;rw[hd] at e3;rw[e1,e3];clear e1 e3
   conv=>whnf
   refine (I9 H hG hs hl D4 k hk).mono fun v vh5 n5 he=>?_;obtain⟨e1,D5,e3⟩:=he;rw[e1,e3];clear e1 e3;have ed:wr .i64 (dep t k+1)=dep t k+1:=by rw[aF]<;>omega
   conv=>whnf
   rw[ed];refine aB.mk (fun h=>absurd h (q8 rfl)) (fun _=>?_)
   conv=>whnf
   refine (CP H hG hs hl D5 x hxl).mono fun v vh6 n6 he=>?_;obtain⟨e1,D6,e3⟩:=he;rw[e1,e3];clear e1 e3;have es:wr .i64 ((x:Int)-k+((aO t x:Int)-x))=(aO t x:Int)-k:=by rw[show (x:Int)-k+((aO t x:Int)-x)=(aO t x:Int)-k by omega,aF]<;>omega
   have ei:wr .i64 ((i:Int)+1)=((i+1:Nat):Int):=by rw[aF]<;>omega
   conv=>whnf
   rw[es,ei];refine (VU H hG hs hl D6 x hxl).mono fun v vh7 n7 he=>?_;obtain⟨e1,D7,e3⟩:=he;rw[e1,e3];clear e1 e3
   conv=>whnf
   rw[ei];have nxt:=JD H hG hs hl c0 bd bp k hk Q hQ (m-(aO t x-x)) (aO t x) (by omega) (gQ t x) (i+1) vh7 vn W2 (by omega) (fun _=>by omega) D7
   rw[hl2] at nxt;exact nxt
termination_by m=>m
decreasing_by all_goals omega
theorem aB2:∀a∈jE,(a.p.length<10/\a.l.length<10/\a.v.length<10)/\(∀c∈a.p,c<256)/\(∀c∈a.l,c<256)/\∀c∈a.v,c<256:=by decide
theorem aFH:∀s∈lH,s.length<256/\∀x∈s,x<256:=by decide
theorem Made.treeB{PN:List Nat->List Nat->Prop}{PV PT:List Nat->Prop}{t:List Nd}(M:Made t)(hM:∀n,eX n->NdT PN PV PT n):K2 PN PV PT t where
 may:=M.may
 st:=M.steps
 ne:=M.rooted.1
 len:=M.len
 ok n hn:=hM n (M.nd n hn).1
 s n hn:=⟨(M.nd n hn).1.s,fun a ha=>by obtain⟨c,hc,e1,e2,e3⟩:=(M.nd n hn).1.a a ha;obtain⟨⟨h1,h2,h3⟩,h4,h5,h6⟩:=aB2 c hc;exact⟨by rw[e1];exact h1,by rw[e2];exact h2,by rw[e3];exact h3,by rw[e1];exact h4,by rw[e2];exact h5,by rw[e3];exact h6⟩⟩
 v n hn:=aFH _ (M.nd n hn).1.v
theorem aCN{t:List Nd}(R:KA t):aO t 0=t.length:=by
 obtain⟨a1,a2,a3,a4⟩:=PJ t 0 R.1;refine Decidable.byContradiction fun h=>?_;have h1:=a4 (by omega)
 have h2:=R.2.2 (aO t 0) (by omega) (by omega)
 have h3:=R.2.1;omega
structure I5(X:Ovr)(G:Gt)(PN:List Nat->List Nat->Prop)(PV PT:List Nat->Prop):Prop where
 H:sQ X
 K:XK X
 hG:G kQ=some tzL
 lib:mD X G PN PV PT
 hM:∀n,eX n->NdT PN PV PT n
 told:∀vh vn,aE Tryz.prog X G yH [] vh vn fun v vh' vn'=>v=.bool true/\vh'=vh/\vn'=vn
theorem CQ(H:sQ X)(hG:G kQ=some tzL){t:List Nd}(hs:dL t 0=true)(hl:t.length<=32)(c0:Option Nat)(bd bp:Nat)(Q:FQ)
  (hQ:∀vh' vn' i b,jU vh' bd bp t->Q (.exit 0) [(3,.sl 7 (t.map aP) c0),(4,.ptr bd 0),(6,.int .i64 i),(28,.bool b)] vh' vn'):
  ∀(m k:Nat),t.length-k=m->k<=t.length->∀(vh:VH) (vn:Nat),jU vh bd bp t->
  aC Tryz.prog X G (.loop M0) [(3,.sl 7 (t.map aP) c0),(4,.ptr bd 0),(6,.int .i64 (k:Int))] vh vn Q
 |m,k,hm,hk,vh,vn,D=>by
  have hlen:Int.ofNat (t.map aP).length=(t.length:Int):=by simp
  refine aC.round ?_
  conv=>whnf
  rw[hlen];refine aB.mk (fun c1=>?_) (fun c1=>?_)
  ·have hlt:k<t.length:=by have:=of_decide_eq_true c1;omega
   have e:wr .i64 ((k:Int)+1)=((k+1:Nat):Int):=by rw[aF]<;>omega
   conv=>whnf
   refine (JA H hG hs hl D k hlt).mono fun v vh1 n1 he=>?_;obtain⟨e1,D1,e3⟩:=he;rw[e1,e3];clear e1 e3;have W:=aJd hs hlt
   conv=>whnf
   have lp:=fun Q hQ=>JD H hG hs hl c0 bd bp k hlt Q hQ _ (k+1) rfl (m0 t k) 0 vh1 vn W (by omega) (fun h=>absurd h (Nat.lt_irrefl 0)) D1
   rw[show nB t k (k+1)= -1 by unfold nB;rw[if_pos rfl],show ((k+1:Nat):Int)-k=1 by omega] at lp
   refine lp _ fun vh2 n2 nn i b hn D2=>?_;clear lp
   conv=>whnf
   refine (VT H hG hs hl D2 k hlt).mono fun v vh3 n3 he=>?_;obtain⟨e1,D3,e3⟩:=he;rw[e1,e3];clear e1 e3
   conv=>whnf
   refine aB.mk (fun h=>absurd h (q8 rfl)) (fun _=>?_)
   conv=>whnf
   refine (CP H hG hs hl D3 k hlt).mono fun v vh4 n4 he=>?_;obtain⟨e1,D4,e3⟩:=he;rw[e1,e3];clear e1 e3
   conv=>whnf
   refine aB.mk (fun h=>absurd h (q8 rfl)) (fun _=>?_)
   conv=>whnf
   refine aB.mk (fun c2=>?_) (fun c2=>?_)
   ·have hp:=hn (of_decide_eq_true c2)
    conv=>whnf
    refine (JA H hG hs hl D4 k hlt).mono fun v vh5 n5 he=>?_;obtain⟨e1,D5,e3⟩:=he;rw[(W.c1 hp).1] at e3;rw[e1,e3];clear e1 e3
    conv=>whnf
    rw[e];refine aB.mk (fun h=>absurd h (q8 rfl)) (fun _=>?_)
    conv=>whnf
    rw[e];exact CQ H hG hs hl c0 bd bp Q hQ (m-1) (k+1) (by omega) (by omega) vh5 n2 D5
   ·conv=>whnf
    rw[e];exact CQ H hG hs hl c0 bd bp Q hQ (m-1) (k+1) (by omega) (by omega) vh4 n2 D4
  ·conv=>whnf
   exact hQ vh vn _ _ D
termination_by m=>m
decreasing_by all_goals omega
theorem V0{PN:List Nat->List Nat->Prop}{PV PT:List Nat->Prop}(B:I5 X G PN PV PT)(hX:X CU=none)(ls:List Int)(vh:VH)(vn:Nat):
  aE Tryz.prog X G CU [.sl 1 (ls.map iR) none] vh vn fun v _ _=>v=.bool true:=by
 apply aD8.run hX
 conv=>whnf
 refine (WL B.K ls vh vn).mono fun v vh1 n1 he=>?_;obtain⟨_,_,t,e3,M⟩:=he;rw[e3];clear e3;have hlen:Int.ofNat (t.map aP).length=(t.length:Int):=by simp
 have hR:=M.rooted;have hs:=M.steps;have hl:=M.len
 conv=>whnf
 refine (WS B.H.toXNew B.lib t (M.treeB B.hM) none vh1 n1).mono fun v vh2 n2 he=>?_;obtain⟨bd,bp,bw,bn,e1,N,_,_,_,_⟩:=he;rw[e1];clear e1;have D:=N.doc
 conv=>whnf
 refine CQ B.H B.hG hs hl none bd bp _ (fun vh3 n3 i b D3=>?_) t.length 0 rfl (Nat.zero_le _) vh2 n2 D
 conv=>whnf
 refine (B.told vh3 n3).mono fun v vh' vn' he=>?_;obtain⟨e1,e2,e3⟩:=he;rw[e1,e2,e3];clear e1 e2 e3
 conv=>whnf
 have hC:=CP B.H B.hG hs hl D3 0 hR.1 (vn:=n3);rw[aCN hR] at hC;refine hC.mono fun v vh4 n4 he=>?_;obtain⟨e1,D4,e3⟩:=he;rw[e1,e3];clear e1 e3
 conv=>whnf
 rw[hlen];refine Get.mk _ (fun _ _ h=>h) ?_;simp
end
section
open Go Go.Ev Go.VL
theorem aCj{α:Type}{ts:List α}{L:List (Nat×List AV)}(h:ts.length=L.length)(h4:L.length=4):∃a b c d,ts=[a,b,c,d]:=by
 match ts,h with
 |[a,b,c,d],_=>exact⟨a,b,c,d,rfl⟩
 |[],h=>simp[h4] at h
 |[_],h=>simp[h4] at h
 |[_,_],h=>simp[h4] at h
 |[_,_,_],h=>simp[h4] at h
 |_::_::_::_::_::_,h=>simp[h4] at h
theorem rC{f:FuncId}{T:List (List AV)}{A:List AV->AV}(m:Int)(h:ran f T A)(hT:T.all (fun us=>us.all o9&&o9 (A us))=true):nW Tryz.prog f (jI (tb m) T A):=by
 refine aDH (HD L7) OT (n:=1000000) ?_ hT fun ts hts=>?_
 ·have h0:Nat.blt 0 Tryz.prog.globals.size=true:=by kernel_rfl
  have h1:Nat.blt 1 Tryz.prog.globals.size=true:=by kernel_rfl
  have h2:Nat.blt 2 Tryz.prog.globals.size=true:=by kernel_rfl
  have h3:Nat.blt 3 Tryz.prog.globals.size=true:=by kernel_rfl
  have q:dbL.all j8=true:=by kernel_rfl
  have q0:m5.all j8=true:=by kernel_rfl
  have q1:mI.all j8=true:=by kernel_rfl
  simp only[tb,List.all_cons,List.all_nil,h0,h1,h2,h3,q,q0,q1,Bool.and_true,Bool.true_and];rfl
 ·obtain⟨a,b,c,d,rfl⟩:=aCj hts rfl;exact h m a b c d
noncomputable def XN2(m:Int):List (Nat×Ent):=(vL,jI (tb m) II D0)::(vK,jI (tb m) IF DY)::(zE,jI (tb m) IL EA)::(p9,jI (tb m) IH DZ)::(zB,jI (tb m) IK D9)::(zD,jI (tb m) IJ D8)::(yH,jI (tb m) [[]] EB)::base
theorem YB(m:Int):rY Tryz.prog (ovr (XN2 m)):=HD fun p hp=>by
 rcases List.mem_cons.1 hp with rfl|hp
 ·exact rC m aI5 (by kernel_rfl)
 rcases List.mem_cons.1 hp with rfl|hp
 ·exact rC m aI3 (by kernel_rfl)
 rcases List.mem_cons.1 hp with rfl|hp
 ·exact rC m aI8 (by kernel_rfl)
 rcases List.mem_cons.1 hp with rfl|hp
 ·exact rC m aI4 (by kernel_rfl)
 rcases List.mem_cons.1 hp with rfl|hp
 ·exact rC m aI7 (by kernel_rfl)
 rcases List.mem_cons.1 hp with rfl|hp
 ·exact rC m aI6 (by kernel_rfl)
 rcases List.mem_cons.1 hp with rfl|hp
 ·exact rC m aI9 (by kernel_rfl)
 ·exact L7 p hp
def PNt(p l:List Nat):Prop:=(p,l)∈R0
def PVt(s:List Nat):Prop:=s∈xZ
def PTt(s:List Nat):Prop:=s∈UD
theorem aFB(m:Int){G:Gt}(hG:∀p∈tb m,∃l,G p.1=some l/\l.all lQ=true/\l.map plA=p.2):mD (ovr (XN2 m)) G PNt PVt PTt where
 named p l h vh vn:=(qZ (L:=tb m) (T:=II) (F:=D0) rfl hG (vs:=[.str p,.str l]) (r:=.bool (dS p l)) rfl rfl (List.mem_map.2 ⟨_,h,rfl⟩) rfl vh vn).mono fun v vh' vn' he=>⟨he.1,by rw[he.2.1,he.2.2];exact Frm.refl _ _⟩
 chars s h vh vn:=(qZ (L:=tb m) (T:=IF) (F:=DY) rfl hG (vs:=[.str s]) (r:=.bool (fZ s)) rfl rfl (List.mem_map.2 ⟨_,h,rfl⟩) rfl vh vn).mono fun v vh' vn' he=>⟨he.1,by rw[he.2.1,he.2.2];exact Frm.refl _ _⟩
 target s h vh vn:=(qZ (L:=tb m) (T:=IL) (F:=EA) rfl hG (vs:=[.str s]) (r:=.bool (pL s)) rfl rfl (List.mem_map.2 ⟨_,h,rfl⟩) rfl vh vn).mono fun v vh' vn' he=>⟨he.1,by rw[he.2.1,he.2.2];exact Frm.refl _ _⟩
 contains s w h hw vh vn:=(qZ (L:=tb m) (T:=IH) (F:=DZ) rfl hG (vs:=[.str s,.str w]) (r:=.bool (iB s w)) rfl rfl (List.mem_flatMap.2 ⟨_,h,List.mem_map.2 ⟨_,hw,rfl⟩⟩) rfl vh vn).mono fun v vh' vn' he=>⟨he.1,by rw[he.2.1,he.2.2];exact Frm.refl _ _⟩
 suffix s h vh vn:=(qZ (L:=tb m) (T:=IK) (F:=D9) rfl hG (vs:=[.str s,.str zO]) (r:=.bool (!decide (s=[])&&decide ((s.getLastD 0:Int)=45))) rfl rfl (List.mem_map.2 ⟨_,h,rfl⟩) rfl vh vn).mono fun v vh' vn' he=>⟨he.1,by rw[he.2.1,he.2.2];exact Frm.refl _ _⟩
 spaces s h vh vn:=(qZ (L:=tb m) (T:=IJ) (F:=D8) rfl hG (vs:=[.str s,.int .i64 0]) (r:=.int .i64 ((s.takeWhile fun c=>pI (wr .i32 (.ofNat c))).length:Int)) rfl rfl (List.mem_map.2 ⟨_,h,rfl⟩) rfl vh vn).mono fun v vh' vn' he=>⟨_,he.1,by
  cases s with
  |nil=>simp
  |cons c s=>
   cases hc:pI (wr .i32 (.ofNat c)) with
   |true=>simp only[List.takeWhile_cons,hc,if_true,List.length_cons,List.headD_cons,reduceCtorEq,false_or,Bool.true_eq_false,iff_false];omega
   |false=>simp[List.takeWhile_cons,hc],by rw[he.2.1,he.2.2];exact Frm.refl _ _⟩
theorem aB4{c:aA}(h:c∈jE):PNt c.p c.l:=List.mem_append_right _ (List.mem_map.2 ⟨c,h,rfl⟩)
theorem aB6{c:aA}(h:c∈jE):PVt c.v:=List.mem_append_right _ (List.mem_map.2 ⟨c,h,rfl⟩)
theorem aFS(n:Nd)(h:eX n):NdT PNt PVt PTt n where
 s:=by have:=h.s;omega
 e _:=⟨List.mem_append_left _ (List.mem_flatMap.2 ⟨_,h.p,List.mem_map.2 ⟨_,h.l,rfl⟩⟩),fun a ha=>by obtain⟨c,hc,e1,e2,e3⟩:=h.a a ha;rw[e1,e2,e3];exact⟨aB4 hc,aB6 hc⟩⟩
 v _:=List.mem_append_left _ h.v
 t _:=h.l
theorem YC(m:Int):sQ (ovr (XN2 m)):=by repeat' (first|exact rfl|constructor)
theorem YD(m:Int):XK (ovr (XN2 m)):=by repeat' (first|exact rfl|constructor)
theorem aJ0(m:Int){G:Gt}(hG:∀p∈tb m,∃l,G p.1=some l/\l.all lQ=true/\l.map plA=p.2)(vh:VH)(vn:Nat):aE Tryz.prog (ovr (XN2 m)) G yH [] vh vn fun v vh' vn'=>v=.bool true/\vh'=vh/\vn'=vn:=qZ (L:=tb m) (T:=[[]]) (F:=EB) rfl hG (vs:=[]) (r:=.bool true) rfl rfl (.head _) rfl vh vn
end
end Go.Proofs.YtjoadepfokpcoaaGreatDoor
namespace Go.VL
section
open Go.Ev Go.RowKit
section
variable {P : Program}
def vM(W:World)(v:Value)(ls:List Int):Prop:=(v=.slice none 0 0/\ls=[])\/∃(b o len cap:Nat) (zs:List Int),v=.slice (some ⟨b,o,none⟩) len cap/\len<=cap/\zs.length=cap/\ls=zs.take len/\∀i,i<cap->W.cell? ⟨b,o+i,none⟩=some (.int .i64 (zs.getD i 0))
structure Start(P:Program)(W:World)(G:Gt)(σ:Map)(h:H)(nx:Nat):Prop where
 rh:RH σ h W
 bd:Bd σ nx
 gl:gA P σ
 ro:∀i A,h.get i=some A->A.ro=true
 gt:aV G (wOf h)
theorem IV{h:H}{i:Nat}{l:List AV}{e:TypeId}{fz:Nat}{raw:Bool}(hi:h.get i=some (.cells l e fz raw)):(wOf h).K i=some l:=by simp only[wOf,hi]
theorem JB{w:Wd}:∀ls:List Int,c9 w 1 (ls.map fun n=>[V.int .i64 n]) (ls.map (AV.int .i64))
 |[]=>.nil _ _
 |n::ls=>.cons _ _ _ _ (.cons _ _ _ _ (.int _ _) (.nil _)) rfl (JB ls)
theorem JC{w:Wd}:∀(ls:List Int) (m:List AV),c9 w 1 (ls.map fun n=>[V.int .i64 n]) (ls.map (AV.int .i64)++m)
 |[],_=>.nil _ _
 |n::ls,m=>.cons _ _ _ _ (.cons _ _ _ _ (.int _ _) (.nil _)) rfl (JC ls m)
theorem aDD{H:Type}{enc:TypeId×Value->H}{W:World}{base:Nat}{t e:TypeId}{v:Value}{d:DataW H}{ps:List MemPlace}(ht:P.underlying t=some (.slice e))(he:P.underlying e=some (.int .i64))(hc:P.cellsOf e=1)(hval:Value.okWide P W .any base t v)
  (h:DataW.Trod enc P W 0 (fun _=>true) true t v d ps):∃ls,vM W v ls:=by
 obtain⟨fuel,hf⟩:=h;have hk:Cell.ok P W .any base t v:=by unfold Value.okWide at hval;simp only[ht] at hval;unfold Cell.okWide at hval;simp only[ht] at hval;exact hval
 rcases ChangeShapes.open_ints ht he hc hf with⟨hcs,hx⟩|⟨a,len,cap,zs,hcs,_,hl,hm,hz,hx,hcell,hwz⟩
 ·refine⟨[],.inl ⟨?_,rfl⟩⟩;unfold Cell.ok at hk;simp only[ht] at hk;split at hk<;>simp_all[Value.cells]
 ·have hv:v=.slice (some a) len cap:=by unfold Cell.ok at hk;simp only[ht] at hk;split at hk<;>simp_all[Value.cells]
  subst hv;have hsp:a.spot=none:=by unfold Cell.ok at hk;simp only[ht] at hk;exact hk.2.2.2.1
  obtain⟨b,o,spot⟩:=a;subst hsp;simp only[if_true] at hz;refine⟨zs.take len,.inr ⟨b,o,len,cap,zs,rfl,hl,hz,rfl,fun i hi=>?_⟩⟩;have:=hcell i (by omega)
  rw[jC] at this;exact this
end
end
section
open Go.Ev Go.RowKit
section
variable {P : Program}
def gtT(L:List Tab):Gt:=fun k=>(L.find? fun t=>Nat.beq t.g k).map fun t=>t.l.map toV
where toV:AV->V
 |.bool b=>.bool b
 |.int k n=>.int k n
 |.str s=>.str s
 |_=>.lost
theorem aJ9{h:H}{nx:Nat}{A:AB}(hn:h.get nx=none):(wOf h).le (wOf (h.set nx A)):=by
 refine⟨fun b i e=>(by cases e),fun i L hi=>?_⟩
 have hne:i≠nx:=fun e=>by subst e;simp only[wOf,hn] at hi;cases hi
 simp only[wOf] at hi ⊢;rw[Tr.get_set,if_neg hne];exact hi
theorem IN:∀{L:List Tab} {h:H},(L.map (·.g)).Nodup->∀u∈L,(iK L h).get u.g=some u.blk
 |[],_,_,u,hu=>by cases hu
 |t::L,h,hnd,u,hu=>by
  rw[List.map_cons,List.nodup_cons] at hnd;show (Tr.set _ t.g _).get u.g=_;rw[Tr.get_set];rcases List.mem_cons.1 hu with rfl|hu
  ·rw[if_pos rfl]
  ·have hne:u.g≠t.g:=fun e=>hnd.1 (e▸List.mem_map.2 ⟨u,hu,rfl⟩);rw[if_neg hne];exact IN hnd.2 u hu
theorem aJH{W:World}{L:List Tab}{g:Nat}{t:TypeId}{m:Int}{G:Gt}(hs:P.globals.size<=W.heap.size)(hnd:(L.map (·.g)).Nodup)(hL:∀u∈L,qF P W u)(hgt:aV G (wOf (iK L .e)))(hg:wQ g t .i64 m∈L)(hm:W.heap[g]? =some (.cells #[.int .i64 m] t (0,0)))
  (hoth:∀u∈L,u.g≠g->∀(c:Array Value) e fr (i:Nat) z,W.heap[u.g]? =some (.cells c e fr)->c[i]?≠some (.int .i64 z)) {v:Value} {ls:List Int} (hv:vM W v ls):
  ∃σ h nx u,Start P W G σ h nx/\Den (wOf h) (.sl 1 (ls.map fun n=>[V.int .i64 n]) none) u/\RV σ u v:=by
 obtain⟨s1,s2,s3⟩:=aJI hs hnd hL;have hro:∀i A,(iK L .e).get i=some A->A.ro=true:=fun i A hi=>by
  rcases uJ hi with⟨u,_,_,rfl⟩|⟨_,h1⟩
  ·exact aJV u
  ·rw[Tr.get_e] at h1;cases h1
 have S:Start P W G (lJ P L) (iK L .e) P.globals.size:=⟨s1,s2,s3,hro,hgt⟩;have hglt:g<P.globals.size:=(hL _ hg).lt;rcases hv with⟨rfl,rfl⟩|⟨b,o,len,cap,zs,rfl,hlen,hz,rfl,hc⟩
 ·exact⟨_,_,_,.nils,S,.sl0 _ _ (.inl rfl),.nils⟩
 ·by_cases h0:len=0
  ·subst h0;exact⟨_,_,_,.esl,S,by rw[List.take_zero];exact .sle _,.esl _ _⟩
  ·have c0:=hc 0 (by omega)
   obtain⟨c,e,fr,hb⟩:∃c e fr,W.heap[b]? =some (.cells c e fr):=by
    unfold World.cell? at c0;split at c0
    ·rename_i c e fr hb;exact⟨c,e,fr,hb⟩
    ·cases c0
   have hcell:∀i,i<cap->c[o+i]? =some (.int .i64 (zs.getD i 0)):=fun i hi=>by have:=hc i hi;rw[qJ hb] at this;exact this
   have hsz:o+cap<=c.size:=by
    have:=(Array.getElem?_eq_some_iff.1 (hcell (cap-1) (by omega))).1
    omega
   by_cases hbg:b=g
   ·subst hbg;rw[hm] at hb;cases hb;have h1:o+cap<=1:=hsz;have ho:o=0:=by omega
    have hcap:cap=1:=by omega
    have hl1:len=1:=by omega
    subst ho;subst hcap;subst hl1;obtain⟨z,rfl⟩:∃z,zs=[z]:=List.length_eq_one_iff.1 hz;have hz0:=hcell 0 (by omega)
    have hzm:z=m:=by simpa using hz0.symm
    subst hzm;have hgb:(iK L .e).get b=some (.cells [.int .i64 z] t 2 true):=IN hnd _ hg;obtain⟨M,hM,hMb⟩:=s1.blk _ _ hgb;have hM2:lJ P L b=some ⟨b,0,nC L b⟩:=by simp[lJ,hglt]
    rw[hM2] at hM;cases hM;have hx:1<=nC L b:=by
     cases hMb with|cells _ _ _ _ c2 q1 q2 k1 k2 k3 k4 k5 k6 k7 k8=>
     simp at k3;omega
    refine⟨_,_,_,.sl b 0 1 1 (some 1),S,.sl _ _ _ _ _ _ _ [.int .i64 z] (IV hgb) rfl (by omega) (JB [z]) (.inl rfl) (fun x hx=>by cases hx;omega) (by simp),?_⟩
    exact .slx b 0 1 1 1 ⟨b,0,nC L b⟩ hM2 (by omega) (by omega) (by simp;omega)
   ·have hlt:b<W.heap.size:=(Array.getElem?_eq_some_iff.1 hb).1;have hbl:∀u∈L,u.g≠b:=fun u hu e=>by
     by_cases h:u.g=g
     ·exact hbg (by rw[<-e,h])
     ·rw[<-e] at hb;exact hoth u hu h c _ fr _ _ hb (hcell 0 (by omega))
    have hzl:(zs.map (AV.int .i64)).length=cap:=by simp[hz]
    have hB:RB ((lJ P L).put P.globals.size ⟨b,o,o+cap⟩) W ⟨b,o,o+cap⟩ (.cells (zs.map (AV.int .i64)) e (cap+1) true):=by
     refine .cells _ _ _ _ c fr.1 fr.2 hb hsz (by simp[hz]) (fun i a ha=>?_) (fun i v h1 h2 h3=>?_) (fun i h1 h2=>?_) (fun h=>by cases h) (.inr ⟨rfl,by omega⟩)
     ·rw[List.getElem?_map] at ha;obtain⟨z,hz1,rfl⟩:=Option.map_eq_some_iff.1 ha;have hi:i<cap:=by have:=(List.getElem?_eq_some_iff.1 hz1).1;omega
      refine⟨_,hcell i hi,?_⟩;rw[List.getD_eq_getElem?_getD,hz1];exact .int _ _
     ·have:=hcell (i-o) (by have h2':i<o+cap:=h2;have h1':o<=i:=h1;omega)
      have h1':o<=i:=h1;rw[show o+(i-o)=i by omega] at this
      rw[this] at h3;cases h3;rfl
     ·have h1':o+(cap+1)<=i:=h1;have h2':i<o+cap:=h2;omega
    have hnone:(iK L .e).get P.globals.size=none:=by
     cases h:(iK L .e).get P.globals.size with
     |none=>rfl
     |some A=>obtain⟨M,hM,_⟩:=s1.blk _ _ h;rw[s2 _ (Nat.le_refl _)] at hM;cases hM
    obtain⟨r1,r2,r3⟩:=RH.add S.rh S.bd S.gl (L:=⟨b,o,o+cap⟩) hlt (fun i A M hi hM he=>by
     rcases uJ hi with⟨u,hu,rfl,_⟩|⟨_,h1⟩
     ·simp only[lJ,(hL u hu).lt,if_true,Option.some.injEq] at hM;subst hM;exact hbl u hu he
     ·rw[Tr.get_e] at h1;cases h1) hB
    refine⟨_,_,_,.sl P.globals.size 0 len 1 (some cap),⟨r1,r2,r3,fun i A hi=>?_,hgt.mono (aJ9 hnone)⟩,.sl _ _ _ _ _ _ _ (zs.map (AV.int .i64)) ?_ ?_ (by omega) ?_ (.inl rfl) (fun x hx=>by cases hx;exact hlen) ?_,?_⟩
    ·rw[Tr.get_set] at hi;by_cases ei:i=P.globals.size
     ·simp only[ei,if_true,Option.some.injEq] at hi;subst hi;show Nat.blt (Ev.len (zs.map (AV.int .i64))) (cap+1)=true;rw[bN,aT,hzl];simp
     ·simp only[ei,if_false] at hi;exact S.ro i A hi
    ·exact IV (by rw[Tr.get_set,if_pos rfl])
    ·simp[hz];omega
    ·rw[List.drop_zero];have:=JC (w:=wOf ((iK L .e).set P.globals.size (.cells (zs.map (AV.int .i64)) e (cap+1) true))) (zs.take len) ((zs.drop len).map (AV.int .i64));rw[<-List.map_append,List.take_append_drop] at this;exact this
    ·simp[hz];exact hlen
    ·exact .slx _ 0 len 1 cap ⟨b,o,o+cap⟩ (Map.put_same _ _ _) hlen (by omega) (by simp)
end
end
end Go.VL
namespace Go.Proofs.YtjoadepfokpcoaaGreatDoor
section
open Go Go.Ev Go.VL Go.Lib
def IG:Tab:=⟨0,dbL,185⟩
def ID:Tab:=⟨1,m5,242⟩
def IE:Tab:=⟨2,mI,245⟩
def dbZ:List Int:=tzN.map fun n:Nat=>(n:Int)
def DV:List Int:=(List.range 16).flatMap fun i=>[(accLo i:Int),(accHi i:Int)]
theorem QI:m5=firstTab.map (AV.int .u8):=by kernel_rfl
theorem OV:dbL=dbZ.map (AV.int .u8):=by kernel_rfl
theorem LK:mI=DV.map (AV.int .u8):=by kernel_rfl
theorem IM{l:List AV}{zs:List Int}(he:l=zs.map (AV.int .u8)){cs:Array Value}(h:∀(i:Nat) z,zs[i]? =some z->cs[i]? =some (.int .u8 z))(i:Nat)(a:AV)(ha:l[i]? =some a):∃k n,a=AV.int k n/\cs[i]? =some (Value.int k n):=by rw[he,List.getElem?_map] at ha;obtain⟨z,hz,rfl⟩:=Option.map_eq_some_iff.1 ha;exact⟨_,z,rfl,h i z hz⟩
theorem IU{W:World}{n:String}{g:Nat}{cs cs':Array Value}{t:TypeId}(hg:Tryz.prog.globalNamed n=some g)(hb:W.heap[g]? =some (.cells cs t (0,0)))(hv:W.var? Tryz.prog n=some cs'):cs'=cs:=by simp only[World.var?,hg,Option.bind_some,hb,Option.some.injEq] at hv;exact hv.symm
theorem ltD:0<Tryz.prog.globals.size:=of_decide_eq_true (by kernel_rfl)
theorem lt3:3<Tryz.prog.globals.size:=of_decide_eq_true (by kernel_rfl)
theorem lt0:1<Tryz.prog.globals.size:=of_decide_eq_true (by kernel_rfl)
theorem lt1:2<Tryz.prog.globals.size:=of_decide_eq_true (by kernel_rfl)
theorem aJS {W : World} (hsh : W.ShapedOpen Tryz.prog) (h : VarReads Tryz.prog W "unicode/utf8.first" firstData) : qF Tryz.prog W ID := by
 obtain⟨cs,h1,h2,_⟩:=uE hsh (g:=1) (t:=242) (n:=256) lt0 (by kernel_rfl)
 obtain⟨g,t,cs',fuel,p,hg,hty,hvar,hd⟩:=h
 obtain rfl := Option.some.inj ((show Tryz.prog.globalNamed "unicode/utf8.first" = some 1 by kernel_rfl).symm.trans hg)
 obtain rfl:=Option.some.inj ((show (Tryz.prog.globals[1]?).map (·.type)=some 242 by kernel_rfl).symm.trans hty)
 obtain rfl:=IU hg h1 hvar;have hcs:=cells_of_tab (n:=256) Tryz.underlying242 Tryz.underlying5 (by kernel_rfl) (by kernel_rfl) hd
 refine⟨lt0,cs',h1,?_,IM QI fun i z hz=>?_⟩
 ·rw[h2];have e:m5.length=256:=by kernel_rfl
  exact Nat.le_of_eq e
 ·rw[<-Array.getElem?_toList,hcs,List.getElem?_map,hz];rfl
theorem aJU {W : World} (hsh : W.ShapedOpen Tryz.prog) (h : VarReads Tryz.prog W "math/bits.deBruijn64tab" (tabData .u8 dbZ)) : qF Tryz.prog W IG := by
 obtain⟨cs,h1,h2,_⟩:=uE hsh (g:=0) (t:=185) (n:=64) ltD (by kernel_rfl)
 obtain⟨g,t,cs',fuel,p,hg,hty,hvar,hd⟩:=h
 obtain rfl := Option.some.inj ((show Tryz.prog.globalNamed "math/bits.deBruijn64tab" = some 0 by kernel_rfl).symm.trans hg)
 obtain rfl:=Option.some.inj ((show (Tryz.prog.globals[0]?).map (·.type)=some 185 by kernel_rfl).symm.trans hty)
 obtain rfl:=IU hg h1 hvar;have hcs:=cells_of_tab (n:=64) Tryz.underlying185 Tryz.underlying5 (by kernel_rfl) (by kernel_rfl) hd
 refine⟨ltD,cs',h1,?_,IM OV fun i z hz=>?_⟩
 ·rw[h2];have e:dbL.length=64:=by kernel_rfl
  exact Nat.le_of_eq e
 ·rw[<-Array.getElem?_toList,hcs,List.getElem?_map,hz];rfl
theorem aJT {W : World} (hsh : W.ShapedOpen Tryz.prog) (h : VarReads Tryz.prog W "unicode/utf8.acceptRanges" acceptData) : qF Tryz.prog W IE := by
 obtain⟨cs,h1,h2,_⟩:=uE hsh (g:=2) (t:=245) (n:=32) lt1 (by kernel_rfl)
 obtain⟨g,t,cs',fuel,p,hg,hty,hvar,hd⟩:=h
 obtain rfl := Option.some.inj ((show Tryz.prog.globalNamed "unicode/utf8.acceptRanges" = some 2 by kernel_rfl).symm.trans hg)
 obtain rfl:=Option.some.inj ((show (Tryz.prog.globals[2]?).map (·.type)=some 245 by kernel_rfl).symm.trans hty)
 obtain rfl:=IU hg h1 hvar;have c244:Tryz.prog.cellsOf 244=2:=by kernel_rfl
 have c5:Tryz.prog.cellsOf 5=1:=by kernel_rfl
 have hl:DV.length=32:=by kernel_rfl
 have at2:∀i,i<16->cs'[2*i]? =some (.int .u8 (accLo i:Int))/\cs'[2*i+1]? =some (.int .u8 (accHi i:Int)):=fun i hi=>by
  obtain⟨fuel',d,q,hdi,he⟩:=array_elem Tryz.underlying245 hd i hi;simp only[List.getElem?_map,List.getElem?_range hi,Option.map_some,Option.some.injEq] at hdi;subst hdi;rw[c244] at he;have hcs:=ints_of_struct Tryz.underlying244 (fun j f hj=>by
   match j,hj with
   |0,hj=>simp at hj;subst hj;exact⟨Tryz.underlying5,rfl,c5⟩
   |1,hj=>simp at hj;subst hj;exact⟨Tryz.underlying5,rfl,c5⟩
   |j+2,hj=>simp at hj) (by rw[c244];rfl) he
  have e0:=congrArg (·[0]?) hcs
  have e1:=congrArg (·[1]?) hcs
  simp only[List.getElem?_take,List.getElem?_drop] at e0 e1;constructor
  ·rw[<-Array.getElem?_toList];simpa[Nat.mul_comm] using e0
  ·rw[<-Array.getElem?_toList];simpa[Nat.mul_comm] using e1
 refine⟨lt1,cs',h1,?_,IM LK fun i z hz=>?_⟩
 ·rw[h2];have e:mI.length=32:=by kernel_rfl
  exact Nat.le_of_eq e
 ·have hi:i<32:=by have:=(List.getElem?_eq_some_iff.1 hz).1;omega
  have key:∀i,i<32->DV[i]? =some (if i%2=0 then (accLo (i / 2):Int) else (accHi (i / 2):Int)):=by decide+kernel
  rw[key i hi] at hz;cases hz;obtain⟨q1,q2⟩:=at2 (i / 2) (by omega)
  split
  ·rename_i h0;exact (congrArg (fun j=>cs'[j]?) (by omega:i=2*(i / 2))).trans q1
  ·rename_i h0;exact (congrArg (fun j=>cs'[j]?) (by omega:i=2*(i / 2)+1)).trans q2
def xT(m:Int):List Tab:=[IG,ID,IE,wQ 3 3 .i64 m]
def gtU(m:Int):Gt:=fun k=>bif Nat.beq k 0 then some (dbL.map gtT.toV) else bif Nat.beq k 1 then some (m5.map gtT.toV) else bif Nat.beq k 2 then some (mI.map gtT.toV) else bif Nat.beq k 3 then some [.int .i64 m] else none
theorem AH{w:Wd}:∀(l:List AV),l.all j8=true->aW w (l.map gtT.toV) l
 |[],_=>.nil
 |a::l,h=>by
  simp only[List.all_cons,Bool.and_eq_true] at h;cases a with
  |int k n=>exact .cons _ _ _ _ (.int _ _) (AH l h.2)
  |_=>cases h.1
theorem aBq:dbL.all j8=true:=by kernel_rfl
theorem aCh:m5.all j8=true:=by kernel_rfl
theorem YF:mI.all j8=true:=by kernel_rfl
theorem CD{m:Int}{u:Tab}(h:u∈xT m):(wOf (iK (xT m) .e)).K u.g=some u.l:=IV (IN (L:=xT m) (show ([0,1,2,3]:List Nat).Nodup by decide) u h)
theorem aCx(m:Int):aV (gtU m) (wOf (iK (xT m) .e)):=by
 intro k l hk;unfold gtU at hk;cases h0:Nat.beq k 0 with
 |true=>rw[h0] at hk;cases hk;obtain rfl:=aR.1 h0;exact⟨dbL,CD (u:=IG) (.head _),AH _ aBq⟩
 |false=>
  rw[h0] at hk;cases h1:Nat.beq k 1 with
  |true=>rw[h1] at hk;cases hk;obtain rfl:=aR.1 h1;exact⟨m5,CD (u:=ID) (.tail _ (.head _)),AH _ aCh⟩
  |false=>
   rw[h1] at hk;cases h2:Nat.beq k 2 with
   |true=>rw[h2] at hk;cases hk;obtain rfl:=aR.1 h2;exact⟨mI,CD (u:=IE) (.tail _ (.tail _ (.head _))),AH _ YF⟩
   |false=>
    rw[h2] at hk;cases h3:Nat.beq k 3 with
    |true=>rw[h3] at hk;cases hk;obtain rfl:=aR.1 h3;exact⟨_,CD (u:=wQ 3 3 .i64 m) (.tail _ (.tail _ (.tail _ (.head _)))),.cons _ _ _ _ (.int _ _) .nil⟩
    |false=>rw[h3] at hk;cases hk
theorem QT(m:Int):∀p∈tb m,∃l,gtU m p.1=some l/\l.all lQ=true/\l.map plA=p.2:=by
 intro p hp;rcases List.mem_cons.1 hp with rfl|hp
 ·exact⟨_,rfl,by kernel_rfl,by kernel_rfl⟩
 rcases List.mem_cons.1 hp with rfl|hp
 ·exact⟨_,rfl,by kernel_rfl,by kernel_rfl⟩
 rcases List.mem_cons.1 hp with rfl|hp
 ·exact⟨_,rfl,by kernel_rfl,by kernel_rfl⟩
 obtain rfl:=List.mem_singleton.1 hp;exact⟨_,rfl,rfl,rfl⟩
theorem aCw(m:Int):gtU m kQ=some tzL:=by kernel_rfl
theorem G3{l:List AV}{zs:List Int}(he:l=zs.map (AV.int .u8)){W:World}{u:Tab}(hu:u.l=l)(ht:qF Tryz.prog W u)(hl:∀(c:Array Value) e fr,W.heap[u.g]? =some (.cells c e fr)->c.size=l.length)(c:Array Value)(e:TypeId)(fr:Nat×Nat)(i:Nat)(z:Int)(hb:W.heap[u.g]? =some (.cells c e fr)):c[i]?≠some (.int .i64 z):=by
 intro hc;obtain⟨c',h1,h2,h3⟩:=ht.blk;rw[hb] at h1;cases h1;have hi:=(Array.getElem?_eq_some_iff.1 hc).1;have hs:=hl _ _ _ hb;have hz:l[i]? =some l[i]:=List.getElem?_eq_getElem (by omega)
 obtain⟨k,n,k1,k2⟩:=h3 i l[i] (by rw[hu];exact hz)
 rw[hc] at k2;cases k2;have:l[i]? =(zs.map (AV.int .u8))[i]?:=by rw[he]
 rw[hz,List.getElem?_map] at this;obtain⟨z',_,hz'⟩:=Option.map_eq_some_iff.1 this.symm;rw[<-hz'] at k1;cases k1
theorem EJ{W:World}(hsh:W.ShapedOpen Tryz.prog){g:Nat}{t:TypeId}{n:Nat}(hg:g<Tryz.prog.globals.size)(hz:(((begin Tryz.prog (fun _ _=>0) default).world.heap[g]?).bind Obj.row?).map (fun x=>(x.1.size,x.2))=some (n,t))(c:Array Value)(e:TypeId)(fr:Nat×Nat)(hb:W.heap[g]? =some (.cells c e fr)):c.size=n:=by obtain⟨cs,h1,h2,_⟩:=uE hsh hg hz;rw[h1] at hb;cases hb;exact h2
theorem aJJ {W : World} (hsh : W.ShapedOpen Tryz.prog) (hD : VarReads Tryz.prog W "math/bits.deBruijn64tab" (tabData .u8 dbZ)) (h0 : VarReads Tryz.prog W "unicode/utf8.first" firstData) (h1 : VarReads Tryz.prog W "unicode/utf8.acceptRanges" acceptData) {v : Value} {ls : List Int} (hv : vM W v ls) :
  ∃m σ h nx u,Go.VL.Start Tryz.prog W (gtU m) σ h nx/\Den (wOf h) (.sl 1 (ls.map fun n=>[V.int .i64 n]) none) u/\RV σ u v:=by
 obtain⟨m,hm⟩:=aIs hsh (g:=3) (t:=3) (k:=.i64) lt3 (by kernel_rfl) (by kernel_rfl) Tryz.underlying3 (by kernel_rfl)
 have hs:=aIt hsh (g:=10) (t:=277) (n:=32) (by kernel_rfl) (by kernel_rfl)
 have tD:=aJU hsh hD;have t0:=aJS hsh h0;have t1:=aJT hsh h1;refine⟨m,aJH (L:=xT m) (g:=3) (t:=3) (m:=m) hs (show ([0,1,2,3]:List Nat).Nodup by decide) (fun u hu=>?_) (aCx m) (.tail _ (.tail _ (.tail _ (.head _)))) hm (fun u hu hne c e fr i z hb=>?_) hv⟩
 ·rcases List.mem_cons.1 hu with rfl|hu
  ·exact tD
  rcases List.mem_cons.1 hu with rfl|hu
  ·exact t0
  rcases List.mem_cons.1 hu with rfl|hu
  ·exact t1
  obtain rfl:=List.mem_singleton.1 hu;exact aDC lt3 hm
 ·rcases List.mem_cons.1 hu with rfl|hu
  ·exact G3 OV rfl tD (fun c e fr hb=>(EJ hsh ltD (t:=185) (n:=64) (by kernel_rfl) c e fr hb).trans (show (64:Nat)=dbL.length by kernel_rfl)) c e fr i z hb
  rcases List.mem_cons.1 hu with rfl|hu
  ·exact G3 QI rfl t0 (fun c e fr hb=>(EJ hsh lt0 (t:=242) (n:=256) (by kernel_rfl) c e fr hb).trans (show (256:Nat)=m5.length by kernel_rfl)) c e fr i z hb
  rcases List.mem_cons.1 hu with rfl|hu
  ·exact G3 LK rfl t1 (fun c e fr hb=>(EJ hsh lt1 (t:=245) (n:=32) (by kernel_rfl) c e fr hb).trans (show (32:Nat)=mI.length by kernel_rfl)) c e fr i z hb
  obtain rfl:=List.mem_singleton.1 hu;exact absurd rfl hne
theorem YV(m:Int):I5 (ovr (XN2 m)) (gtU m) PNt PVt PTt where
 H:=YC m
 K:=YD m
 hG:=aCw m
 lib:=aFB m (QT m)
 hM:=aFS
 told:=aJ0 m (QT m)
theorem aB1 (W : World) (hsh : W.ShapedOpen Tryz.prog) (hD : VarReads Tryz.prog W "math/bits.deBruijn64tab" (tabData .u8 dbZ)) (h0 : VarReads Tryz.prog W "unicode/utf8.first" firstData) (h1 : VarReads Tryz.prog W "unicode/utf8.acceptRanges" acceptData) {v : Value} {ls : List Int} (hv : vM W v ls) :
  Calls Tryz.prog 3 #[v] W fun e w'=>e=.returned (.bool true)/\Go.RowKit.Below W.heap.size W w':=by
 obtain⟨m,σ,h,nx,u,S,hd,hr⟩:=aJJ hsh hD h0 h1 hv;exact aJ1 (args:=[v]) (YB m) OT Tryz.func3 (c:=Tryz.f3.body.getD .skip) (by kernel_rfl) S.rh S.bd S.gl S.ro S.gt (vs:=[.sl 1 (ls.map iR) none]) (us:=[u]) (vn:=0) (.cons _ _ _ _ hd .nil) (.cons _ _ _ _ hr .nil) (V0 (YV m) rfl ls _ 0)
end
section
open Go Go.Ev Go.VL Go.ChangeShapes Go.WideShapes Go.ChangeAt Go.RowKit
namespace LDocWalk
theorem ZA:Tryz.prog.cellsOf 272=5:=by kernel_rfl
theorem Y8:Tryz.prog.cellsOf 194=1:=by kernel_rfl
theorem Y9:Tryz.prog.cellsOf 270=3:=by kernel_rfl
theorem c21:Tryz.prog.cellsOf 21=1:=by kernel_rfl
theorem own:ownKnob Tryz.prog.godebug=none:=by kernel_rfl
noncomputable def tN(os:Os):World:=
 let N:=(World.settled Tryz.prog os).heap.size;let w0:=World.holding Tryz.prog os ⟨#[.cells (m7 4 Rows.laid_unicode_caseOrbit).toArray 251,.cells Lib.caseCells5 272],#[],[]⟩;let h1:=Go.Ev.putD w0.heap 10 (m7 4 Rows.laid_math_bits_deBruijn32tab).toArray;let h2:=Go.Ev.putD h1 0 (m7 4 Rows.laid_math_bits_deBruijn64tab).toArray;let h3:=Go.Ev.putD h2 7 (m7 4 Rows.laid_internal_strconv_uint64pow10).toArray;let h4:=Go.Ev.putD h3 2 (m7 4 Rows.laid_unicode_utf8_acceptRanges).toArray;let h5:=Go.Ev.putD h4 4 (m7 4 Rows.laid_unicode_asciiFold).toArray
 let h6:=Go.Ev.putD h5 5 #[.slice (some ⟨N+0,0,none⟩) (T5 Rows.laid_unicode_caseOrbit) (T5 Rows.laid_unicode_caseOrbit)];let h7:=Go.Ev.putD h6 6 #[.slice (some ⟨N+1,0,none⟩) Lib.caseA.size Lib.caseA.size];let h8:=Go.Ev.putD h7 1 (m7 4 Rows.laid_unicode_utf8_first).toArray
 {w0 with heap:=h8}
theorem aEt (os : Os) : LaidIn Tryz.prog ((tN os).forCall (fun _ _ => 0) ⟨#[], #[.slice none 0 0], []⟩).memory [("math/bits.deBruijn32tab", Rows.laid_math_bits_deBruijn32tab), ("math/bits.deBruijn64tab", Rows.laid_math_bits_deBruijn64tab), ("internal/strconv.uint64pow10", Rows.laid_internal_strconv_uint64pow10), ("unicode/utf8.acceptRanges", Rows.laid_unicode_utf8_acceptRanges), ("unicode.asciiFold", Rows.laid_unicode_asciiFold), ("unicode.caseOrbit", Rows.laid_unicode_caseOrbit)] [10, 0, 7, 2, 4, 5, (World.settled Tryz.prog default).heap.size + 0] :=
 LaidIn.of_run _ 8 (by kernel_rfl) (by kernel_rfl) (by kernel_rfl) (by kernel_rfl)
theorem aEs (os : Os) : LaidIn Tryz.prog ((tN os).forCall (fun _ _ => 0) ⟨#[], #[.slice none 0 0], []⟩).memory [("unicode/utf8.first", Rows.laid_unicode_utf8_first)] [1] :=
 LaidIn.of_run _ 8 (by kernel_rfl) (by kernel_rfl) (by kernel_rfl) (by kernel_rfl)
theorem aEq (os : Os) : LaidIn Tryz.prog ((tN os).forCall (fun _ _ => 0) ⟨#[], #[.slice none 0 0], []⟩).memory [("unicode.CaseRanges", Pinned.caseRanges)] [6, ((World.settled Tryz.prog default).heap.size + 1)] := by
 refine aB9 (tS:=254) (tR:=272) (t:=272) (by kernel_rfl) (by kernel_rfl) (by kernel_rfl) (by kernel_rfl) ?_ (of_decide_eq_true (by kernel_rfl)) (by kernel_rfl) (by kernel_rfl)
 intro x hw;simp only[Lib.rowWf,Bool.and_eq_true] at hw;obtain⟨⟨⟨⟨w0,w1⟩,w2⟩,w3⟩,w4⟩:=hw;have r3:List.range 3=[0,1,2]:=rfl;simp[DataW.trod,Tryz.underlying272,Tryz.underlying194,Tryz.underlying270,Tryz.underlying21,ZA,Y8,Y9,c21,Lib.cells5,Lib.rowData,w0,w1,w2,w3,w4,r3]
theorem aEr(os:Os):laidMet Tryz.prog Rows.docWalkRow.laid ((tN os).forCall (fun _ _=>0) ⟨#[],#[.slice none 0 0],[]⟩).memory:=LaidIn.met ((aEt os).append ((aEq os).append (aEs os) (by kernel_rfl)) (by kernel_rfl))
theorem reads(os:Os){H:Type}(enc:TypeId×Value->H):∃places,DataW.whole enc Tryz.prog ((tN os).forCall (fun _ _=>0) ⟨#[],#[.slice none 0 0],[]⟩).memory Tryz.f3.params.toList Rows.docWalkSpec.vars false (#[.slice none 0 0]:Array Value).toList 8=some ([.nil],[],places):=⟨[],by kernel_rfl⟩
theorem aEp:laidOutB Tryz.prog=true:=by kernel_rfl
theorem aBc:Tryz.prog.cellsOf 3=1:=by kernel_rfl
theorem aCi:Rows.laid_unicode_utf8_first=Lib.firstData:=by kernel_rfl
theorem YG:Rows.laid_unicode_utf8_acceptRanges=Lib.acceptData:=by kernel_rfl
theorem aBr:(Rows.laid_math_bits_deBruijn64tab:DataW Unit)=Lib.tabData .u8 dbZ:=by kernel_rfl
theorem aIf {W : World} (hL : laidMetH Tryz.prog Rows.docWalkRow.laid W) : Lib.VarReads Tryz.prog W "math/bits.deBruijn64tab" (Lib.tabData .u8 dbZ) := by
 rw[<-aBr];exact Lib.laidMet.reads (laidMetH_iff.1 hL).1 (List.mem_filter.2 ⟨.tail _ (.head _),by kernel_rfl⟩)
theorem aId {W : World} (hL : laidMetH Tryz.prog Rows.docWalkRow.laid W) : Lib.VarReads Tryz.prog W "unicode/utf8.first" Lib.firstData := by
 rw[<-aCi];exact Lib.laidMet.reads (laidMetH_iff.1 hL).1 (List.mem_filter.2 ⟨.tail _ (.tail _ (.tail _ (.tail _ (.tail _ (.tail _ (.tail _ (.head _))))))),by kernel_rfl⟩)
theorem aIe {W : World} (hL : laidMetH Tryz.prog Rows.docWalkRow.laid W) : Lib.VarReads Tryz.prog W "unicode/utf8.acceptRanges" Lib.acceptData := by
 rw[<-YG];exact Lib.laidMet.reads (laidMetH_iff.1 hL).1 (List.mem_filter.2 ⟨.tail _ (.tail _ (.tail _ (.head _))),by kernel_rfl⟩)
set_option maxRecDepth 100000 in
theorem aBh(H:Type)(enc:TypeId×Value->H)(W:World)(base:Nat)(args:Array Value)(ds gs:List (DataW H))(before:List MemPlace)
  (hval:∀(j:Nat) t v,Tryz.f3.params[j]? =some t->args[j]? =some v->Value.okWide Tryz.prog W .any base t v)
  (hW:DataW.Whole enc Tryz.prog Tryz.f3.params.toList Rows.docWalkSpec.vars false W args.toList ds gs before) (hL:laidMetH Tryz.prog Rows.docWalkRow.laid W) (hsh:W.ShapedOpen Tryz.prog):
  Calls Tryz.prog 3 args W fun e W'=>∃v,e=.returned v/\Rows.docWalkSpec.post enc Tryz.prog Tryz.f3 false true false false W args v W':=by
 have hW':=hW;obtain⟨p,q,hA0,hV,rfl,hfz,hnd⟩:=hW;have hA:DataW.TrodAll enc Tryz.prog W 0 (fun _=>true) true Tryz.f3.params.toList args.toList ds p:=hA0;rw[Tryz.params3] at hA hval;obtain⟨v0,vs0,d0,ds0,p0,q0,hargs0,rfl,rfl,h0,r0⟩:=trodAll_cons hA;obtain⟨rfl,rfl,rfl⟩:=trodAll_nil r0;obtain rfl:args=#[v0]:=by apply Array.toList_inj.1;rw[hargs0]
 obtain⟨rfl,rfl⟩:=trodVars_none hV;clear hA0;have hlt0:∀x∈p0,x.block<W.heap.size:=fun x hx=>hW'.lt x (by simp[hx])
 obtain⟨ls0,hv0⟩:∃ls,vM W v0 ls:=aDD Tryz.underlying22 Tryz.underlying3 aBc (hval 0 22 v0 rfl rfl) h0;simp only[List.append_nil] at hW';refine (aB1 W hsh (aIf hL) (aId hL) (aIe hL) hv0).mono fun e W' ⟨he,hg⟩=>?_;subst he
 exact⟨_,rfl,aGm (pa:=p0) (pv:=[]) hW' (fun _ _ _=>trodAll_cons_mk (shut_bool Tryz.underlying4 _) trodAll_mk0) (fun sp hs=>trodAll_mk1 (WideElems.Trod_stays aEp (by kernel_rfl) (of_decide_eq_true (by kernel_rfl)) h0 (fun x hx=>hg.same (hlt0 x hx)) fun x hx=>hs x hx)) (fun _ _=>rfl) (by simp) hg (ok_one (by kernel_rfl) rfl (okWide_bool_mk Tryz.underlying4 _))⟩
set_option maxRecDepth 100000 in
theorem aFE(os:Os)(started:os.Started)(H:Type)(enc:TypeId×Value->H)(F:Stop.Interp):
  ReturnsInHanded {} Tryz.checked os 3 .any ((OpenSpec.ofChange Rows.docWalkSpec).preRow enc Tryz.prog Tryz.f3 Rows.docWalkRow.domain false Rows.docWalkRow.laid) (((OpenSpec.ofChange Rows.docWalkSpec).at F).post enc Tryz.prog Tryz.f3 false true false false):=by
 obtain⟨places,hx⟩:=reads os enc;refine returnsInHanded_of_row (C:=Tryz.checked) (s:=OpenSpec.ofChange Rows.docWalkSpec) own started (by kernel_rfl) Tryz.func3
  (witness_row_atRef (enc:=enc) (C:=Tryz.checked) false (tN os) #[.slice none 0 0] rfl (by kernel_rfl) (by kernel_rfl) (by kernel_rfl)
   (OpenSpec.preRow_of_cond 8 hx (by kernel_rfl) (fun k hk=>by cases hk) (by kernel_rfl) (aEr os))) ?_
 intro W base args ds gs before hval hW _ _ _ hL hsh _;exact aBh H enc W base args ds gs before hval hW hL hsh
theorem aIm:Rows.DocWalkSaid:=
 OpenClaim.holds_of_cond 3 Tryz.f3 rfl rfl rfl rfl rfl rfl rfl ⟨rfl,rfl,rfl,rfl,rfl⟩ rfl rfl rfl rfl rfl (by kernel_rfl) Tryz.func3 (by kernel_rfl)
  (of_decide_eq_true (by kernel_rfl)) (by unfold Func.isWrapper;first|(rw[if_pos (by decide+kernel)];kernel_rfl)|(rw[if_neg (by decide+kernel)];exact⟨rfl,rfl⟩))
  (fun os started H enc _ F=>by rw[OpenClaim.pre_eq_preRow];exact aFE os started H enc F)
theorem plain (f : FuncId) (fn : Func) (hf : Tryz.pinned.checked.prog.funcNamed "bracken/brackenlaw19.DocWalk" = some f) (hfn : Tryz.pinned.checked.prog.funcs[f]? = some fn) :
  true=Tryz.pinned.checked.prog.looks []/\∀(j:Nat) t,fn.params[j]? =some t->Tryz.pinned.checked.prog.wantsStandIn t=false:=by
 obtain rfl : f = 3 := Option.some.inj ((show Tryz.prog.funcNamed "bracken/brackenlaw19.DocWalk" = some 3 by kernel_rfl).symm.trans hf) |>.symm
 obtain rfl:fn=Tryz.f3:=(Option.some.inj (Tryz.func3.symm.trans hfn)).symm;refine⟨by kernel_rfl,fun j t ht=>?_⟩
 rw[Tryz.params3] at ht;have hm:=Array.mem_of_getElem? ht;obtain rfl:t=22:=by simpa using hm
 exact (show Tryz.prog.wantsStandIn 22=false by kernel_rfl)
theorem card:Rows.DocWalkCardSaid:=Claim7.holds_tied_plain_at .later [] _ _ _ _ aIm (fun _ h=>by cases h) (by kernel_rfl) (fun _ h=>by cases h) docWalk_row_tie rfl ⟨rfl,rfl⟩ (by kernel_rfl) rfl plain (by kernel_rfl)
#print axioms card
end LDocWalk
end
end Go.Proofs.YtjoadepfokpcoaaGreatDoor
