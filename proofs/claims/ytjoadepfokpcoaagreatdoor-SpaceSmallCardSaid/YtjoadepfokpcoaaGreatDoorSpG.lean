/- What SpaceSmall rests on; no condition. -/
import Derived.ChangeSlices
import Derived.OpenShut
import Derived.Lib.LaidU8
import Derived.LaidSub
import Derived.Test.YtjoadepfokpcoaaGreatDoorSpF
set_option linter.unusedSimpArgs false
set_option linter.unusedVariables false
set_option linter.constructorNameAsVariable false
set_option linter.unnecessarySimpa false
open Go Go.Ev Go.VL Go.Num
namespace Go.Proofs.YtjoadepfokpcoaaGreatDoor
section
attribute [local irreducible] aM fQ hY cR
variable {X : Ovr} {G : Gt} {PN : List Nat → List Nat → Prop} {PV PT : List Nat → Prop}
structure KP(PN:List Nat->List Nat->Prop)(PV PT:List Nat->Prop)(t:List Nd):Prop where
 may:gI t=true
 st:fV t 0=true
 ne:0<t.length
 len:t.length<=32
 ok:∀n∈t,NdT PN PV PT n
 s:∀n∈t,n.s.length<=6/\∀a∈n.s,pH a
 v:∀n∈t,n.v.length<256/\∀x∈n.v,x<256
structure V6(vh:VH)(vn:Nat)(t:List Nd)(bd bp bw bn:Nat):Prop where
 d:∃x y,vh bd=some (.cells [.ptr bp 0,.ptr bw 0,x,.msl bn 0 (cM [] t).1.length 7 none,y] jI 0 false)
 p:∃ls,PAt vh bp (dM t 0) ls 1 0
 w:∃rv lo,WB vh bw rv t.length (cM [] t).1.length 0/\SlN sJ gB lo vh vn rv (kM (hY ((cM [] t).1.length-1)) (cM [] t).2)
 n:vh bn=some (.cells ((cM [] t).1.map gF).flatten cS 0 false)
 dp:bd≠bp
 dw:bd≠bw
 pw:bp≠bw
 lp:bp<vn
 lw:bw<vn
theorem V7(H:XNew X)(Lb:l9 X G PN PV PT)(t:List Nd)(T:KP PN PV PT t)(c:Option Nat)(vh:VH)(vn:Nat):
  aE Tryz.prog X G xX [.sl 7 (t.map aO) c] vh vn fun v vh' vn'=>∃bd bp bw bn,v=.tup [.ptr bd 0,.int .i64 0]/\V6 vh' vn' t bd bp bw bn/\vn<=vn'/\(∀d,d<vn->vh' d=vh d)/\vn<=bd/\bd<vn':=by
 have hlen:Int.ofNat (t.map aO).length=(t.length:Int):=by simp
 have hl:=T.len;have hne:=T.ne;obtain⟨hh1,hh2,hh3,hh4,hh5⟩:=GB t [];have hh5:=hh5 hne;have hh3:(cM [] t).1.length<=32:=by simp only[List.length_nil] at hh3;omega
 apply aDM.run H.bnew
 conv=>whnf
 refine (XL H.toXTM Lb t c (by omega) T.ok vh vn).mono fun v vh0 n0 he=>?_
 obtain⟨e1,F0⟩:=he;rw[e1,(aF4 t).trans T.may];clear e1;have g0:=F0.1
 conv=>whnf
 rw[hlen];generalize hv:aI (aI vh0 n0 _) (n0+1) _=vh1;have hd1:vh1 n0=some (.cells [.nilp,.nilp,.nilp,.nils,.nilp] jI 0 false):=hv▸(aG (by omega)).trans aK
 have hm1:vh1 (n0+1)=some (.map (iG [] 0)):=hv▸aK;have F1:∀d,d<n0->vh1 d=vh0 d:=fun d hd=>hv▸(aG (by omega)).trans (aG (by omega))
 clear hv;refine JM H t (by omega) (fun n hn=>⟨by have:=(T.s n hn).1;omega,(T.s n hn).2⟩) c (n0+2) n0 (n0+1) vh1 _ (fun tv xv av nv vh2 n2 i b S F4=>?_) _ 0 rfl (Nat.zero_le _) .nils .nils .nils .nils [] [] vh1 (n0+2) (Nat.le_refl _) rfl rfl rfl ⟨hd1,hm1,.nil,.nil,.nil,.nil,fun _ h=>h.elim,fun _ h=>h.elim,fun _ h=>h.elim,fun _ h=>h.elim,fun _ h=>h.elim,fun _ h=>h.elim,Nat.le_refl _,by omega,by omega,by omega,fun _ _ _ _=>rfl⟩ (.inl ⟨rfl,rfl,rfl,rfl,rfl⟩)
 have hst:=T.st;have hmay:=QZ t 0 hst;have hsl:(dM t 0).length=2*t.length:=(HV t 0 hst).trans (Nat.add_zero _);have hKS:(cM [] t).2.length=t.length:=hh1;generalize hXS:(cM [] t).1=XS at *;generalize hKSe:(cM [] t).2=KS at *;rcases F4 with⟨_,_,_,_,hx0⟩|⟨bt,bx,ba,bn,rfl,rfl,rfl,rfl⟩
 ·rw[hx0] at hh5;cases hh5
 obtain⟨_,⟨bt,bt1,bt2,et,bt4⟩⟩:∃_:Unit,∃b,n0+2<=b/\b<n2/\V.msl bt 0 KS.length 1 none=.msl b 0 KS.length 1 none/\vh2 b=some (.cells (KS.map bK).flatten b9 0 false):=by
  rcases S.T with⟨h|h,_⟩|h
  ·cases h
  ·cases h
  ·exact⟨(),h⟩
 cases et;obtain⟨_,⟨bx,bx1,bx2,et,bx4⟩⟩:∃_:Unit,∃b,n0+2<=b/\b<n2/\V.msl bx 0 (t.map fun n=>n.v).length 1 none=.msl b 0 (t.map fun n=>n.v).length 1 none/\vh2 b=some (.cells ((t.map fun n=>n.v).map bY).flatten iS 0 false):=by
  rcases S.S with⟨h|h,_⟩|h
  ·cases h
  ·cases h
  ·exact⟨(),h⟩
 cases et;obtain⟨_,⟨ba,ba1,ba2,et,ba4⟩⟩:∃_:Unit,∃b,n0+2<=b/\b<n2/\V.msl ba 0 (t.map fun n=>cR n.s).length 1 none=.msl b 0 (t.map fun n=>cR n.s).length 1 none/\vh2 b=some (.cells ((t.map fun n=>cR n.s).map bY).flatten iS 0 false):=by
  rcases S.A with⟨h|h,_⟩|h
  ·cases h
  ·cases h
  ·exact⟨(),h⟩
 cases et;obtain⟨_,⟨bn,bn1,bn2,et,bn4⟩⟩:∃_:Unit,∃b,n0+2<=b/\b<n2/\V.msl bn 0 XS.length 7 none=.msl b 0 XS.length 7 none/\vh2 b=some (.cells (XS.map gF).flatten cS 0 false):=by
  rcases S.N with⟨h|h,_⟩|h
  ·cases h
  ·cases h
  ·exact⟨(),h⟩
 cases et;have dtx:bt≠bx:=fun h=>S.dTS bt rfl h;have dta:bt≠ba:=fun h=>S.dTA bt rfl h;have dtn:bt≠bn:=fun h=>S.dTN bt rfl h;have dxa:bx≠ba:=fun h=>S.dSA bx rfl h;have dxn:bx≠bn:=fun h=>S.dSN bx rfl h;have dan:ba≠bn:=fun h=>S.dAN ba rfl h;have hd2:=S.hd;have F2:∀d,d<vn->vh2 d=vh d:=fun d hd=>(S.fr d (by omega) (by omega) (by omega)).trans ((F1 d (by omega)).trans (F0.2 d hd))
 clear S hd1 hm1 F1
 conv=>whnf
 generalize hv:aI vh2 n2 _=vh3;have C3:vh3 n2=some (.cells [.int .i64 0,.int .i64 0,.int .i64 0,.int .i64 0] r5 0 false):=hv▸aK;have F3:∀d,d<n2->vh3 d=vh2 d:=fun d hd=>hv▸aG (by omega)
 clear hv;refine (W5 H.shape t (by omega) hst c vh3 (n2+1)).mono fun v vh4 n4 he=>?_
 obtain⟨A4,F4⟩:=he;have g4:=F4.1;rcases A4 with⟨_,h⟩|⟨b4,q1,q2,rfl,q4⟩
 ·rw[h] at hsl;simp only[List.length_nil] at hsl;omega
 conv=>whnf
 refine Get.mk (_,_,_,_) q4 ?_
 conv=>whnf
 refine⟨gG iE (by decide),?_⟩
 conv=>whnf
 refine Get.mk _ (eU iE) ?_
 conv=>whnf
 refine (WC H.toXPar4 (dM t 0) (by omega) hmay none).mono fun v vh5 n5 he=>?_
 obtain⟨bp,ls,e5,P5,p1,p2,f5⟩:=he;rw[e5];clear e5;have K5:∀d,d<=n2->vh5 d=vh3 d:=fun d hd=>(f5 d (by omega)).trans ((b5 (by omega)).trans (F4.2 d (by omega)))
 clear f5 F4 q4;have hd5:=(K5 n0 (by omega)).trans ((F3 n0 (by omega)).trans hd2)
 conv=>whnf
 refine Get.mk (_,_,_,_) hd5 ?_
 conv=>whnf
 refine⟨⟨(by decide:1<=5),Nat.zero_le _⟩,?_⟩
 conv=>whnf
 generalize hv:aI vh5 n0 _=vh6;have hd6:vh6 n0=some (.cells [.ptr bp 0,.nilp,.nilp,.msl bn 0 XS.length 7 none,.nilp] jI 0 false):=hv▸aK;have K6:∀d,d≠n0->vh6 d=vh5 d:=fun d hd=>hv▸aG hd;clear hv;have C6:=(K6 n2 (by omega)).trans ((K5 n2 (Nat.le_refl _)).trans C3)
 refine Get.mk 0 ⟨rfl,by decide⟩ ?_
 conv=>whnf
 refine Get.mk (_,_,_,_) C6 ?_
 conv=>whnf
 refine⟨⟨(by decide:1<=4),Nat.zero_le _⟩,?_⟩
 conv=>whnf
 generalize hv:aI vh6 n2 _=vh7;have C7:vh7 n2=some (.cells [.int .i64 0,.int .i64 0,.int .i64 0,.int .i64 0] r5 0 false):=hv▸aK;have K7:∀d,d≠n2->vh7 d=vh6 d:=fun d hd=>hv▸aG hd;clear hv;have hd7:=(K7 n0 (by omega)).trans hd6
 have P7:PAt vh7 bp (dM t 0) ls 1 0:=(K7 bp (by omega)).trans ((K6 bp (by omega)).trans P5)
 have K27:∀d,d<n2->d≠n0->vh7 d=vh2 d:=fun d h1 h2=>(K7 d (by omega)).trans ((K6 d h2).trans ((K5 d (by omega)).trans (F3 d h1)))
 clear K7 K6 K5 F3 hd6 C6 hd5 C3 P5;refine Get.mk (_,_,_,_) hd7 ?_
 conv=>whnf
 refine Get.mk _ rfl ?_
 conv=>whnf
 have fb1:=(K27 bt bt2 (by omega)).trans bt4
 refine Get.mk (_,_,_,_) fb1 ?_
 conv=>whnf
 refine⟨gG gS (by decide),?_⟩
 conv=>whnf
 refine Get.mk _ (eU gS) ?_
 conv=>whnf
 refine (X1 H.toXWave KS XS.length hh5 (by omega) (by omega) hh4 none _ _).mono fun v vh8 n8 he=>?_
 obtain⟨e8,⟨rv,B8,R8⟩,g8,F8⟩:=he;rw[e8];clear e8;have K8:∀d,d<n5->d≠bt->vh8 d=vh7 d:=fun d h1 h2=>(F8.2 d h1).trans (b5 h2);clear F8;have hd8:=(K8 n0 (by omega) (by omega)).trans hd7
 conv=>whnf
 refine Get.mk (_,_,_,_) hd8 ?_
 conv=>whnf
 refine⟨⟨(by decide:2<=5),Nat.zero_le _⟩,?_⟩
 conv=>whnf
 generalize hv:aI vh8 n0 _=vh9;have hd9:vh9 n0=some (.cells [.ptr bp 0,.ptr n5 0,.nilp,.msl bn 0 XS.length 7 none,.nilp] jI 0 false):=hv▸aK;have K9:∀d,d≠n0->vh9 d=vh8 d:=fun d hd=>hv▸aG hd;clear hv;have C9:=(K9 n2 (by omega)).trans ((K8 n2 (by omega) (by omega)).trans C7)
 refine Get.mk 1 ⟨rfl,by decide⟩ ?_
 conv=>whnf
 refine Get.mk (_,_,_,_) C9 ?_
 conv=>whnf
 refine⟨⟨(by decide:2<=4),Nat.zero_le _⟩,?_⟩
 conv=>whnf
 generalize hv:aI vh9 n2 _=vh10;have C10:vh10 n2=some (.cells [.int .i64 0,.int .i64 0,.int .i64 0,.int .i64 0] r5 0 false):=hv▸aK;have K10:∀d,d≠n2->vh10 d=vh9 d:=fun d hd=>hv▸aG hd;clear hv;have hd10:=(K10 n0 (by omega)).trans hd9
 have K810:∀d,d≠n0->d≠n2->vh10 d=vh8 d:=fun d h1 h2=>(K10 d h2).trans (K9 d h1);clear K9 K10 hd9 C9 hd8;have K20:∀d,d<n2->d≠n0->d≠bt->vh10 d=vh2 d:=fun d h1 h2 h3=>(K810 d h2 (by omega)).trans ((K8 d (by omega) h3).trans (K27 d h1 h2))
 conv=>whnf
 have fb2:=(K20 bx bx2 (by omega) (Ne.symm dtx)).trans bx4
 refine Get.mk (_,_,_,_) fb2 ?_
 conv=>whnf
 refine⟨gG sL (by decide),?_⟩
 conv=>whnf
 refine Get.mk _ (eU sL) ?_
 conv=>whnf
 refine (JW H.toXPool (t.map fun n=>n.v) (by rw[List.length_map];omega) (fun s hs=>?_) none _ _).mono fun v vh11 n11 he=>?_
 ·obtain⟨n,hn,rfl⟩:=List.mem_map.1 hs;exact T.v n hn
 obtain⟨px,e11,F11⟩:=he;rw[e11];clear e11;have g11:=F11.1;have K11:∀d,d<n8->d≠bx->vh11 d=vh10 d:=fun d h1 h2=>(F11.2 d h1).trans (b5 h2);clear F11;have hd11:=(K11 n0 (by omega) (by omega)).trans hd10
 conv=>whnf
 refine Get.mk (_,_,_,_) hd11 ?_
 conv=>whnf
 refine⟨⟨(by decide:3<=5),Nat.zero_le _⟩,?_⟩
 conv=>whnf
 generalize hv:aI vh11 n0 _=vh12;have hd12:vh12 n0=some (.cells [.ptr bp 0,.ptr n5 0,.ptr px 0,.msl bn 0 XS.length 7 none,.nilp] jI 0 false):=hv▸aK;have K12:∀d,d≠n0->vh12 d=vh11 d:=fun d hd=>hv▸aG hd;clear hv;have C12:=(K12 n2 (by omega)).trans ((K11 n2 (by omega) (by omega)).trans C10)
 refine Get.mk 2 ⟨rfl,by decide⟩ ?_
 conv=>whnf
 refine Get.mk (_,_,_,_) C12 ?_
 conv=>whnf
 refine⟨⟨(by decide:3<=4),Nat.zero_le _⟩,?_⟩
 conv=>whnf
 generalize hv:aI vh12 n2 _=vh13;have C13:vh13 n2=some (.cells [.int .i64 0,.int .i64 0,.int .i64 0,.int .i64 0] r5 0 false):=hv▸aK;have K13:∀d,d≠n2->vh13 d=vh12 d:=fun d hd=>hv▸aG hd;clear hv;have hd13:=(K13 n0 (by omega)).trans hd12
 have K103:∀d,d<n8->d≠n0->d≠n2->d≠bx->vh13 d=vh10 d:=fun d h1 h2 h3 h4=>(K13 d h3).trans ((K12 d h2).trans (K11 d h1 h4));clear K13 K12 K11 hd12 C12 hd11 hd10
 conv=>whnf
 have fb3:=(K103 ba (by omega) (by omega) (by omega) (Ne.symm dxa)).trans ((K20 ba ba2 (by omega) (Ne.symm dta)).trans ba4)
 refine Get.mk (_,_,_,_) fb3 ?_
 conv=>whnf
 refine⟨gG sL (by decide),?_⟩
 conv=>whnf
 refine Get.mk _ (eU sL) ?_
 conv=>whnf
 refine (JW H.toXPool (t.map fun n=>cR n.s) (by rw[List.length_map];omega) (fun s hs=>?_) none _ _).mono fun v vh14 n14 he=>?_
 ·obtain⟨n,hn,rfl⟩:=List.mem_map.1 hs;obtain⟨h1,h2⟩:=G5 n.s (T.s n hn).2;have:=(T.s n hn).1;exact⟨by omega,h2⟩
 obtain⟨pa,e14,F14⟩:=he;rw[e14];clear e14;have g14:=F14.1;have K14:∀d,d<n11->d≠ba->vh14 d=vh13 d:=fun d h1 h2=>(F14.2 d h1).trans (b5 h2);clear F14;have hd14:=(K14 n0 (by omega) (by omega)).trans hd13
 conv=>whnf
 refine Get.mk (_,_,_,_) hd14 ?_
 conv=>whnf
 refine⟨⟨(by decide:5<=5),Nat.zero_le _⟩,?_⟩
 conv=>whnf
 generalize hv:aI vh14 n0 _=vh15;have hd15:vh15 n0=some (.cells [.ptr bp 0,.ptr n5 0,.ptr px 0,.msl bn 0 XS.length 7 none,.ptr pa 0] jI 0 false):=hv▸aK;have K15:∀d,d≠n0->vh15 d=vh14 d:=fun d hd=>hv▸aG hd;clear hv;have C15:=(K15 n2 (by omega)).trans ((K14 n2 (by omega) (by omega)).trans C13)
 refine Get.mk 3 ⟨rfl,by decide⟩ ?_
 conv=>whnf
 refine Get.mk (_,_,_,_) C15 ?_
 conv=>whnf
 refine⟨⟨(by decide:4<=4),Nat.zero_le _⟩,?_⟩
 conv=>whnf
 generalize hv:aI vh15 n2 _=vh16;have C16:vh16 n2=some (.cells (([0,0,0,0]:List Int).map eR).flatten r5 0 false):=hv▸aK;have K16:∀d,d≠n2->vh16 d=vh15 d:=fun d hd=>hv▸aG hd;clear hv;have hd16:=(K16 n0 (by omega)).trans hd15
 have K136:∀d,d<n11->d≠n0->d≠n2->d≠ba->vh16 d=vh13 d:=fun d h1 h2 h3 h4=>(K16 d h3).trans ((K15 d h2).trans (K14 d h1 h4));clear K16 K15 K14 hd15 C15 hd14 hd13;have Kend:∀d,d<n8->d≠n0->d≠n2->d≠bx->d≠ba->bX vh16 n2 d=vh8 d:=fun d h1 h2 h3 h4 h5=>(b5 h3).trans ((K136 d (by omega) h2 h3 h5).trans ((K103 d h1 h2 h3 h4).trans (K810 d h2 h3)))
 have P16:=(Kend bp (by omega) (by omega) (by omega) (by omega) (by omega)).trans ((K8 bp p2 (by omega)).trans P7)
 have W16:=(Kend n5 g8 (by omega) (by omega) (by omega) (by omega)).trans B8
 have R16:=R8.mono (vh':=bX vh16 n2) (nx':=n14) (by omega) fun d d1 d2 d3=>Kend d d2 (by omega) (by omega) (by omega) (by omega)
 have N16:=(Kend bn (by omega) (by omega) (by omega) (Ne.symm dxn) (Ne.symm dan)).trans ((K8 bn (by omega) (Ne.symm dtn)).trans ((K27 bn bn2 (by omega)).trans bn4))
 have D16:=(b5 (show n0≠n2 by omega)).trans hd16
 have F16:∀d,d<vn->bX vh16 n2 d=vh d:=fun d hd=>(Kend d (by omega) (by omega) (by omega) (by omega) (by omega)).trans ((K8 d (by omega) (by omega)).trans ((K27 d (by omega) (by omega)).trans (F2 d hd)))
 rw[hKS] at W16;subst hXS;subst hKSe;clear Kend R8 B8 K8 K810 K20 K27 K103 K136 fb1 fb2 fb3 hd7 P7 C7 C10 C13 bt4 bx4 ba4 bn4 hd2 F2
 conv=>whnf
 refine Get.mk (_,_,_,_) C16 ?_
 conv=>whnf
 refine⟨⟨Nat.zero_le _,Nat.le_refl _,by decide,Nat.le_refl _⟩,?_⟩
 conv=>whnf
 refine Get.mk (_,_,_,_) C16 ?_
 conv=>whnf
 refine⟨⟨by decide,Nat.le_refl _,fun y hy=>by cases hy;exact Nat.le_refl _⟩,?_⟩
 conv=>whnf
 refine Get.mk _ (show oO 1 4 (([0,0,0,0]:List Int).map eR).flatten (([0,0,0,0]:List Int).map eR) from eU (xs:=([0,0,0,0]:List Int)) OU) ?_
 conv=>whnf
 refine (VZ H.max4 _ _).mono fun v vh' vn' he=>?_;obtain⟨e1,e2,e3⟩:=he;rw[e1,e2,e3]
 conv=>whnf
 exact Get.mk _ (fun _ _ h=>h) ⟨n0,bp,n5,bn,rfl,⟨⟨_,_,D16⟩,⟨ls,P16⟩,⟨rv,_,W16,R16⟩,N16,by omega,by omega,by omega,by show bp<n14;omega,by show n5<n14;omega⟩,by show vn<=n14;omega,F16,by omega,by show n0<n14;omega⟩
end
section
attribute [local irreducible] aM wd aZ aN pc cX bL rkN cK dF ex upN gE pX clB opB dM
variable {X : Ovr} {G : Gt}
structure mG(X:Ovr):Prop extends XNew X where
 dat:X nS=none
 first:X U0=none
 last:X U8=none
 next:X uE=none
 prev:X uG=none
 parent:X uF=none
 count:X uD=none
 ddepth:X UZ=none
 dup:X U9=none
 excess:X VE=none
structure IZ(vh:VH)(bd bp:Nat)(t:List Nd):Prop where
 d:∃a b c e,vh bd=some (.cells [.ptr bp 0,a,b,c,e] jI 0 false)
 ne:bd≠bp
 p:∃ls st,PAt vh bp (dM t 0) ls 1 st
variable {vh : VH} {vn bd bp : Nat} {t : List Nd}
def Way(vn bd bp:Nat)(t:List Nd)(z:Int)(v:V)(vh':VH)(vn':Nat):Prop:=vn'=vn/\IZ vh' bd bp t/\v=.int .i64 z
variable (H : mG X) (hG : G jG = some tzL) (hs : fV t 0 = true) (hl : t.length ≤ 32) (D : IZ vh bd bp t) (k : Nat) (hk : k < t.length)
include H hG hs hl D hk
end
section
attribute [local irreducible] aM wd aZ aN pc cX bL rkN cK dF ex upN gE pX clB opB dM sM R7 aGk qM aCb aEx upA dep aEy
variable {X : Ovr} {G : Gt}
theorem aB1:∀a∈jL,(a.p.length<10/\a.l.length<10/\a.v.length<10)/\(∀c∈a.p,c<256)/\(∀c∈a.l,c<256)/\∀c∈a.v,c<256:=by decide
theorem aFM:∀s∈lJ,s.length<256/\∀x∈s,x<256:=by decide
theorem Made.treeB{PN:List Nat->List Nat->Prop}{PV PT:List Nat->Prop}{t:List Nd}(M:Made t)(hM:∀n,fA n->NdT PN PV PT n):KP PN PV PT t where
 may:=M.may
 st:=M.steps
 ne:=M.rooted.1
 len:=M.len
 ok n hn:=hM n (M.nd n hn).1
 s n hn:=⟨(M.nd n hn).1.s,fun a ha=>by obtain⟨c,hc,e1,e2,e3⟩:=(M.nd n hn).1.a a ha;obtain⟨⟨h1,h2,h3⟩,h4,h5,h6⟩:=aB1 c hc;exact⟨by rw[e1];exact h1,by rw[e2];exact h2,by rw[e3];exact h3,by rw[e1];exact h4,by rw[e2];exact h5,by rw[e3];exact h6⟩⟩
 v n hn:=aFM _ (M.nd n hn).1.v
structure IT(X:Ovr)(G:Gt)(PN:List Nat->List Nat->Prop)(PV PT:List Nat->Prop):Prop where
 H:mG X
 K:XK X
 hG:G jG=some tzL
 lib:l9 X G PN PV PT
 hM:∀n,fA n->NdT PN PV PT n
 told:∀vh vn,aE Tryz.prog X G CI [] vh vn fun v vh' vn'=>v=.bool true/\vh'=vh/\vn'=vn
end
section
open Go Go.Ev Go.VL
theorem aCe{α:Type}{ts:List α}{L:List (Nat×List AV)}(h:ts.length=L.length)(h4:L.length=4):∃a b c d,ts=[a,b,c,d]:=by
 match ts,h with
 |[a,b,c,d],_=>exact⟨a,b,c,d,rfl⟩
 |[],h=>simp[h4] at h
 |[_],h=>simp[h4] at h
 |[_,_],h=>simp[h4] at h
 |[_,_,_],h=>simp[h4] at h
 |_::_::_::_::_::_,h=>simp[h4] at h
theorem o0{f:FuncId}{T:List (List AV)}{A:List AV->AV}(m:Int)(h:ran f T A)(hT:T.all (fun us=>us.all oX&&oX (A us))=true):nR Tryz.prog f (i0 (tb m) T A):=by
 refine aDC (G3 LJ) N9 (n:=1000000) ?_ hT fun ts hts=>?_
 ·have h0:Nat.blt 0 Tryz.prog.globals.size=true:=by kernel_rfl
  have h1:Nat.blt 1 Tryz.prog.globals.size=true:=by kernel_rfl
  have h2:Nat.blt 2 Tryz.prog.globals.size=true:=by kernel_rfl
  have h3:Nat.blt 3 Tryz.prog.globals.size=true:=by kernel_rfl
  have q:dbL.all kB=true:=by kernel_rfl
  have q0:mX.all kB=true:=by kernel_rfl
  have q1:mH.all kB=true:=by kernel_rfl
  simp only[tb,List.all_cons,List.all_nil,h0,h1,h2,h3,q,q0,q1,Bool.and_true,Bool.true_and];rfl
 ·obtain⟨a,b,c,d,rfl⟩:=aCe hts rfl;exact h m a b c d
noncomputable def XN2(m:Int):List (Nat×Ent):=(u9,i0 (tb m) H4 DQ)::(u7,i0 (tb m) H1 DO)::(zB,i0 (tb m) H7 DU)::(pR,i0 (tb m) H3 DP)::(y8,i0 (tb m) H6 DT)::(zA,i0 (tb m) H5 DR)::(CI,i0 (tb m) [[]] r8)::(yA,i0 (tb m) [[]] r8)::base
theorem X2(m:Int):rJ Tryz.prog (ovr (XN2 m)):=G3 fun p hp=>by
 rcases List.mem_cons.1 hp with rfl|hp
 ·exact o0 m aIa (by kernel_rfl)
 rcases List.mem_cons.1 hp with rfl|hp
 ·exact o0 m aI8 (by kernel_rfl)
 rcases List.mem_cons.1 hp with rfl|hp
 ·exact o0 m aId (by kernel_rfl)
 rcases List.mem_cons.1 hp with rfl|hp
 ·exact o0 m aI9 (by kernel_rfl)
 rcases List.mem_cons.1 hp with rfl|hp
 ·exact o0 m aIc (by kernel_rfl)
 rcases List.mem_cons.1 hp with rfl|hp
 ·exact o0 m aIb (by kernel_rfl)
 rcases List.mem_cons.1 hp with rfl|hp
 ·exact o0 m aIe (by kernel_rfl)
 rcases List.mem_cons.1 hp with rfl|hp
 ·exact o0 m aIf (by kernel_rfl)
 ·exact LJ p hp
def PNt(p l:List Nat):Prop:=(p,l)∈Q2
def PVt(s:List Nat):Prop:=s∈xS
def PTt(s:List Nat):Prop:=s∈TM
theorem aFG(m:Int){G:Gt}(hG:∀p∈tb m,∃l,G p.1=some l/\l.all kI=true/\l.map plA=p.2):l9 (ovr (XN2 m)) G PNt PVt PTt where
 named p l h vh vn:=(oR (L:=tb m) (T:=H4) (F:=DQ) rfl hG (vs:=[.str p,.str l]) (r:=.bool (dT p l)) rfl rfl (List.mem_map.2 ⟨_,h,rfl⟩) rfl vh vn).mono fun v vh' vn' he=>⟨he.1,by rw[he.2.1,he.2.2];exact Frm.refl _ _⟩
 chars s h vh vn:=(oR (L:=tb m) (T:=H1) (F:=DO) rfl hG (vs:=[.str s]) (r:=.bool (fY s)) rfl rfl (List.mem_map.2 ⟨_,h,rfl⟩) rfl vh vn).mono fun v vh' vn' he=>⟨he.1,by rw[he.2.1,he.2.2];exact Frm.refl _ _⟩
 target s h vh vn:=(oR (L:=tb m) (T:=H7) (F:=DU) rfl hG (vs:=[.str s]) (r:=.bool (pC s)) rfl rfl (List.mem_map.2 ⟨_,h,rfl⟩) rfl vh vn).mono fun v vh' vn' he=>⟨he.1,by rw[he.2.1,he.2.2];exact Frm.refl _ _⟩
 contains s w h hw vh vn:=(oR (L:=tb m) (T:=H3) (F:=DP) rfl hG (vs:=[.str s,.str w]) (r:=.bool (iJ s w)) rfl rfl (List.mem_flatMap.2 ⟨_,h,List.mem_map.2 ⟨_,hw,rfl⟩⟩) rfl vh vn).mono fun v vh' vn' he=>⟨he.1,by rw[he.2.1,he.2.2];exact Frm.refl _ _⟩
 suffix s h vh vn:=(oR (L:=tb m) (T:=H6) (F:=DT) rfl hG (vs:=[.str s,.str zO]) (r:=.bool (!decide (s=[])&&decide ((s.getLastD 0:Int)=45))) rfl rfl (List.mem_map.2 ⟨_,h,rfl⟩) rfl vh vn).mono fun v vh' vn' he=>⟨he.1,by rw[he.2.1,he.2.2];exact Frm.refl _ _⟩
 spaces s h vh vn:=(oR (L:=tb m) (T:=H5) (F:=DR) rfl hG (vs:=[.str s,.int .i64 0]) (r:=.int .i64 ((s.takeWhile fun c=>o9 (wr .i32 (.ofNat c))).length:Int)) rfl rfl (List.mem_map.2 ⟨_,h,rfl⟩) rfl vh vn).mono fun v vh' vn' he=>⟨_,he.1,by
  cases s with
  |nil=>simp
  |cons c s=>
   cases hc:o9 (wr .i32 (.ofNat c)) with
   |true=>simp only[List.takeWhile_cons,hc,if_true,List.length_cons,List.headD_cons,reduceCtorEq,false_or,Bool.true_eq_false,iff_false];omega
   |false=>simp[List.takeWhile_cons,hc],by rw[he.2.1,he.2.2];exact Frm.refl _ _⟩
theorem aB3{c:aA}(h:c∈jL):PNt c.p c.l:=List.mem_append_right _ (List.mem_map.2 ⟨c,h,rfl⟩)
theorem aB5{c:aA}(h:c∈jL):PVt c.v:=List.mem_append_right _ (List.mem_map.2 ⟨c,h,rfl⟩)
theorem aFX(n:Nd)(h:fA n):NdT PNt PVt PTt n where
 s:=by have:=h.s;omega
 e _:=⟨List.mem_append_left _ (List.mem_flatMap.2 ⟨_,h.p,List.mem_map.2 ⟨_,h.l,rfl⟩⟩),fun a ha=>by obtain⟨c,hc,e1,e2,e3⟩:=h.a a ha;rw[e1,e2,e3];exact⟨aB3 hc,aB5 hc⟩⟩
 v _:=List.mem_append_left _ h.v
 t _:=h.l
theorem X4(m:Int):mG (ovr (XN2 m)):=by repeat' (first|exact rfl|constructor)
theorem X5(m:Int):XK (ovr (XN2 m)):=by repeat' (first|exact rfl|constructor)
theorem aJ6(m:Int){G:Gt}(hG:∀p∈tb m,∃l,G p.1=some l/\l.all kI=true/\l.map plA=p.2)(vh:VH)(vn:Nat):aE Tryz.prog (ovr (XN2 m)) G CI [] vh vn fun v vh' vn'=>v=.bool true/\vh'=vh/\vn'=vn:=oR (L:=tb m) (T:=[[]]) (F:=r8) rfl hG (vs:=[]) (r:=.bool true) rfl rfl (.head _) rfl vh vn
theorem aJ5(m:Int){G:Gt}(hG:∀p∈tb m,∃l,G p.1=some l/\l.all kI=true/\l.map plA=p.2)(vh:VH)(vn:Nat):aE Tryz.prog (ovr (XN2 m)) G yA [] vh vn fun v vh' vn'=>v=.bool true/\vh'=vh/\vn'=vn:=oR (L:=tb m) (T:=[[]]) (F:=r8) rfl hG (vs:=[]) (r:=.bool true) rfl rfl (.head _) rfl vh vn
end
end Go.Proofs.YtjoadepfokpcoaaGreatDoor
namespace Go.VL
section
open Go.Ev Go.RowKit
section
variable {P : Program}
def vB(W:World)(v:Value)(ls:List Int):Prop:=(v=.slice none 0 0/\ls=[])\/∃(b o len cap:Nat) (zs:List Int),v=.slice (some ⟨b,o,none⟩) len cap/\len<=cap/\zs.length=cap/\ls=zs.take len/\∀i,i<cap->W.cell? ⟨b,o+i,none⟩=some (.int .i64 (zs.getD i 0))
structure Start(P:Program)(W:World)(G:Gt)(σ:Map)(h:H)(nx:Nat):Prop where
 rh:RH σ h W
 bd:Bd σ nx
 gl:f0 P σ
 ro:∀i A,h.get i=some A->A.ro=true
 gt:aV G (wOf h)
theorem IH{h:H}{i:Nat}{l:List AV}{e:TypeId}{fz:Nat}{raw:Bool}(hi:h.get i=some (.cells l e fz raw)):(wOf h).K i=some l:=by simp only[wOf,hi]
theorem IX{w:Wd}:∀ls:List Int,dC w 1 (ls.map fun n=>[V.int .i64 n]) (ls.map (AV.int .i64))
 |[]=>.nil _ _
 |n::ls=>.cons _ _ _ _ (.cons _ _ _ _ (.int _ _) (.nil _)) rfl (IX ls)
theorem IY{w:Wd}:∀(ls:List Int) (m:List AV),dC w 1 (ls.map fun n=>[V.int .i64 n]) (ls.map (AV.int .i64)++m)
 |[],_=>.nil _ _
 |n::ls,m=>.cons _ _ _ _ (.cons _ _ _ _ (.int _ _) (.nil _)) rfl (IY ls m)
theorem aCy{H:Type}{enc:TypeId×Value->H}{W:World}{base:Nat}{t e:TypeId}{v:Value}{d:DataW H}{ps:List MemPlace}(ht:P.underlying t=some (.slice e))(he:P.underlying e=some (.int .i64))(hc:P.cellsOf e=1)(hval:Value.okWide P W .any base t v)
  (h:DataW.Trod enc P W 0 (fun _=>true) true t v d ps):∃ls,vB W v ls:=by
 obtain⟨fuel,hf⟩:=h;have hk:Cell.ok P W .any base t v:=by unfold Value.okWide at hval;simp only[ht] at hval;unfold Cell.okWide at hval;simp only[ht] at hval;exact hval
 rcases ChangeShapes.open_ints ht he hc hf with⟨hcs,hx⟩|⟨a,len,cap,zs,hcs,_,hl,hm,hz,hx,hcell,hwz⟩
 ·refine⟨[],.inl ⟨?_,rfl⟩⟩;unfold Cell.ok at hk;simp only[ht] at hk;split at hk<;>simp_all[Value.cells]
 ·have hv:v=.slice (some a) len cap:=by unfold Cell.ok at hk;simp only[ht] at hk;split at hk<;>simp_all[Value.cells]
  subst hv;have hsp:a.spot=none:=by unfold Cell.ok at hk;simp only[ht] at hk;exact hk.2.2.2.1
  obtain⟨b,o,spot⟩:=a;subst hsp;simp only[if_true] at hz;refine⟨zs.take len,.inr ⟨b,o,len,cap,zs,rfl,hl,hz,rfl,fun i hi=>?_⟩⟩;have:=hcell i (by omega)
  rw[jJ] at this;exact this
end
end
section
open Go.Ev Go.RowKit
section
variable {P : Program}
def gtT(L:List Tab):Gt:=fun k=>(L.find? fun t=>Nat.beq t.g k).map fun t=>t.l.map toV
where toV:AV->V
 |.bool b=>.bool b
 |.int k n=>.int k n
 |.str s=>.str s
 |_=>.lost
theorem aJf{h:H}{nx:Nat}{A:AB}(hn:h.get nx=none):(wOf h).le (wOf (h.set nx A)):=by
 refine⟨fun b i e=>(by cases e),fun i L hi=>?_⟩
 have hne:i≠nx:=fun e=>by subst e;simp only[wOf,hn] at hi;cases hi
 simp only[wOf] at hi ⊢;rw[Tr.get_set,if_neg hne];exact hi
theorem H9:∀{L:List Tab} {h:H},(L.map (·.g)).Nodup->∀u∈L,(iP L h).get u.g=some u.blk
 |[],_,_,u,hu=>by cases hu
 |t::L,h,hnd,u,hu=>by
  rw[List.map_cons,List.nodup_cons] at hnd;show (Tr.set _ t.g _).get u.g=_;rw[Tr.get_set];rcases List.mem_cons.1 hu with rfl|hu
  ·rw[if_pos rfl]
  ·have hne:u.g≠t.g:=fun e=>hnd.1 (e▸List.mem_map.2 ⟨u,hu,rfl⟩);rw[if_neg hne];exact H9 hnd.2 u hu
theorem aJM{W:World}{L:List Tab}{g:Nat}{t:TypeId}{m:Int}{G:Gt}(hs:P.globals.size<=W.heap.size)(hnd:(L.map (·.g)).Nodup)(hL:∀u∈L,pW P W u)(hgt:aV G (wOf (iP L .e)))(hg:wG g t .i64 m∈L)(hm:W.heap[g]? =some (.cells #[.int .i64 m] t (0,0)))
  (hoth:∀u∈L,u.g≠g->∀(c:Array Value) e fr (i:Nat) z,W.heap[u.g]? =some (.cells c e fr)->c[i]?≠some (.int .i64 z)) {v:Value} {ls:List Int} (hv:vB W v ls):
  ∃σ h nx u,Start P W G σ h nx/\Den (wOf h) (.sl 1 (ls.map fun n=>[V.int .i64 n]) none) u/\RV σ u v:=by
 obtain⟨s1,s2,s3⟩:=aJN hs hnd hL;have hro:∀i A,(iP L .e).get i=some A->A.ro=true:=fun i A hi=>by
  rcases tX hi with⟨u,_,_,rfl⟩|⟨_,h1⟩
  ·exact aJ0 u
  ·rw[Tr.get_e] at h1;cases h1
 have S:Start P W G (lL P L) (iP L .e) P.globals.size:=⟨s1,s2,s3,hro,hgt⟩;have hglt:g<P.globals.size:=(hL _ hg).lt;rcases hv with⟨rfl,rfl⟩|⟨b,o,len,cap,zs,rfl,hlen,hz,rfl,hc⟩
 ·exact⟨_,_,_,.nils,S,.sl0 _ _ (.inl rfl),.nils⟩
 ·by_cases h0:len=0
  ·subst h0;exact⟨_,_,_,.esl,S,by rw[List.take_zero];exact .sle _,.esl _ _⟩
  ·have c0:=hc 0 (by omega)
   obtain⟨c,e,fr,hb⟩:∃c e fr,W.heap[b]? =some (.cells c e fr):=by
    unfold World.cell? at c0;split at c0
    ·rename_i c e fr hb;exact⟨c,e,fr,hb⟩
    ·cases c0
   have hcell:∀i,i<cap->c[o+i]? =some (.int .i64 (zs.getD i 0)):=fun i hi=>by have:=hc i hi;rw[pY hb] at this;exact this
   have hsz:o+cap<=c.size:=by
    have:=(Array.getElem?_eq_some_iff.1 (hcell (cap-1) (by omega))).1
    omega
   by_cases hbg:b=g
   ·subst hbg;rw[hm] at hb;cases hb;have h1:o+cap<=1:=hsz;have ho:o=0:=by omega
    have hcap:cap=1:=by omega
    have hl1:len=1:=by omega
    subst ho;subst hcap;subst hl1;obtain⟨z,rfl⟩:∃z,zs=[z]:=List.length_eq_one_iff.1 hz;have hz0:=hcell 0 (by omega)
    have hzm:z=m:=by simpa using hz0.symm
    subst hzm;have hgb:(iP L .e).get b=some (.cells [.int .i64 z] t 2 true):=H9 hnd _ hg;obtain⟨M,hM,hMb⟩:=s1.blk _ _ hgb;have hM2:lL P L b=some ⟨b,0,m8 L b⟩:=by simp[lL,hglt]
    rw[hM2] at hM;cases hM;have hx:1<=m8 L b:=by
     cases hMb with|cells _ _ _ _ c2 q1 q2 k1 k2 k3 k4 k5 k6 k7 k8=>
     simp at k3;omega
    refine⟨_,_,_,.sl b 0 1 1 (some 1),S,.sl _ _ _ _ _ _ _ [.int .i64 z] (IH hgb) rfl (by omega) (IX [z]) (.inl rfl) (fun x hx=>by cases hx;omega) (by simp),?_⟩
    exact .slx b 0 1 1 1 ⟨b,0,m8 L b⟩ hM2 (by omega) (by omega) (by simp;omega)
   ·have hlt:b<W.heap.size:=(Array.getElem?_eq_some_iff.1 hb).1;have hbl:∀u∈L,u.g≠b:=fun u hu e=>by
     by_cases h:u.g=g
     ·exact hbg (by rw[<-e,h])
     ·rw[<-e] at hb;exact hoth u hu h c _ fr _ _ hb (hcell 0 (by omega))
    have hzl:(zs.map (AV.int .i64)).length=cap:=by simp[hz]
    have hB:RB ((lL P L).put P.globals.size ⟨b,o,o+cap⟩) W ⟨b,o,o+cap⟩ (.cells (zs.map (AV.int .i64)) e (cap+1) true):=by
     refine .cells _ _ _ _ c fr.1 fr.2 hb hsz (by simp[hz]) (fun i a ha=>?_) (fun i v h1 h2 h3=>?_) (fun i h1 h2=>?_) (fun h=>by cases h) (.inr ⟨rfl,by omega⟩)
     ·rw[List.getElem?_map] at ha;obtain⟨z,hz1,rfl⟩:=Option.map_eq_some_iff.1 ha;have hi:i<cap:=by have:=(List.getElem?_eq_some_iff.1 hz1).1;omega
      refine⟨_,hcell i hi,?_⟩;rw[List.getD_eq_getElem?_getD,hz1];exact .int _ _
     ·have:=hcell (i-o) (by have h2':i<o+cap:=h2;have h1':o<=i:=h1;omega)
      have h1':o<=i:=h1;rw[show o+(i-o)=i by omega] at this
      rw[this] at h3;cases h3;rfl
     ·have h1':o+(cap+1)<=i:=h1;have h2':i<o+cap:=h2;omega
    have hnone:(iP L .e).get P.globals.size=none:=by
     cases h:(iP L .e).get P.globals.size with
     |none=>rfl
     |some A=>obtain⟨M,hM,_⟩:=s1.blk _ _ h;rw[s2 _ (Nat.le_refl _)] at hM;cases hM
    obtain⟨r1,r2,r3⟩:=RH.add S.rh S.bd S.gl (L:=⟨b,o,o+cap⟩) hlt (fun i A M hi hM he=>by
     rcases tX hi with⟨u,hu,rfl,_⟩|⟨_,h1⟩
     ·simp only[lL,(hL u hu).lt,if_true,Option.some.injEq] at hM;subst hM;exact hbl u hu he
     ·rw[Tr.get_e] at h1;cases h1) hB
    refine⟨_,_,_,.sl P.globals.size 0 len 1 (some cap),⟨r1,r2,r3,fun i A hi=>?_,hgt.mono (aJf hnone)⟩,.sl _ _ _ _ _ _ _ (zs.map (AV.int .i64)) ?_ ?_ (by omega) ?_ (.inl rfl) (fun x hx=>by cases hx;exact hlen) ?_,?_⟩
    ·rw[Tr.get_set] at hi;by_cases ei:i=P.globals.size
     ·simp only[ei,if_true,Option.some.injEq] at hi;subst hi;show Nat.blt (Ev.len (zs.map (AV.int .i64))) (cap+1)=true;rw[bO,aT,hzl];simp
     ·simp only[ei,if_false] at hi;exact S.ro i A hi
    ·exact IH (by rw[Tr.get_set,if_pos rfl])
    ·simp[hz];omega
    ·rw[List.drop_zero];have:=IY (w:=wOf ((iP L .e).set P.globals.size (.cells (zs.map (AV.int .i64)) e (cap+1) true))) (zs.take len) ((zs.drop len).map (AV.int .i64));rw[<-List.map_append,List.take_append_drop] at this;exact this
    ·simp[hz];exact hlen
    ·exact .slx _ 0 len 1 cap ⟨b,o,o+cap⟩ (Map.put_same _ _ _) hlen (by omega) (by simp)
end
end
end Go.VL
namespace Go.Proofs.YtjoadepfokpcoaaGreatDoor
section
open Go Go.Ev Go.VL Go.Lib
def H2:Tab:=⟨0,dbL,185⟩
def HZ:Tab:=⟨1,mX,242⟩
def H0:Tab:=⟨2,mH,245⟩
def dbZ:List Int:=tzN.map fun n:Nat=>(n:Int)
def DL:List Int:=(List.range 16).flatMap fun i=>[(accLo i:Int),(accHi i:Int)]
theorem PO:mX=firstTab.map (AV.int .u8):=by kernel_rfl
theorem OC:dbL=dbZ.map (AV.int .u8):=by kernel_rfl
theorem KZ:mH=DL.map (AV.int .u8):=by kernel_rfl
theorem H8{l:List AV}{zs:List Int}(he:l=zs.map (AV.int .u8)){cs:Array Value}(h:∀(i:Nat) z,zs[i]? =some z->cs[i]? =some (.int .u8 z))(i:Nat)(a:AV)(ha:l[i]? =some a):∃k n,a=AV.int k n/\cs[i]? =some (Value.int k n):=by rw[he,List.getElem?_map] at ha;obtain⟨z,hz,rfl⟩:=Option.map_eq_some_iff.1 ha;exact⟨_,z,rfl,h i z hz⟩
theorem IG{W:World}{n:String}{g:Nat}{cs cs':Array Value}{t:TypeId}(hg:Tryz.prog.globalNamed n=some g)(hb:W.heap[g]? =some (.cells cs t (0,0)))(hv:W.var? Tryz.prog n=some cs'):cs'=cs:=by simp only[World.var?,hg,Option.bind_some,hb,Option.some.injEq] at hv;exact hv.symm
theorem ltD:0<Tryz.prog.globals.size:=of_decide_eq_true (by kernel_rfl)
theorem lt3:3<Tryz.prog.globals.size:=of_decide_eq_true (by kernel_rfl)
theorem lt0:1<Tryz.prog.globals.size:=of_decide_eq_true (by kernel_rfl)
theorem lt1:2<Tryz.prog.globals.size:=of_decide_eq_true (by kernel_rfl)
theorem aJX {W : World} (hsh : W.ShapedOpen Tryz.prog) (h : VarReads Tryz.prog W "unicode/utf8.first" firstData) : pW Tryz.prog W HZ := by
 obtain⟨cs,h1,h2,_⟩:=tQ hsh (g:=1) (t:=242) (n:=256) lt0 (by kernel_rfl)
 obtain⟨g,t,cs',fuel,p,hg,hty,hvar,hd⟩:=h
 obtain rfl := Option.some.inj ((show Tryz.prog.globalNamed "unicode/utf8.first" = some 1 by kernel_rfl).symm.trans hg)
 obtain rfl:=Option.some.inj ((show (Tryz.prog.globals[1]?).map (·.type)=some 242 by kernel_rfl).symm.trans hty)
 obtain rfl:=IG hg h1 hvar;have hcs:=cells_of_tab (n:=256) Tryz.underlying242 Tryz.underlying5 (by kernel_rfl) (by kernel_rfl) hd
 refine⟨lt0,cs',h1,?_,H8 PO fun i z hz=>?_⟩
 ·rw[h2];have e:mX.length=256:=by kernel_rfl
  exact Nat.le_of_eq e
 ·rw[<-Array.getElem?_toList,hcs,List.getElem?_map,hz];rfl
theorem aJZ {W : World} (hsh : W.ShapedOpen Tryz.prog) (h : VarReads Tryz.prog W "math/bits.deBruijn64tab" (tabData .u8 dbZ)) : pW Tryz.prog W H2 := by
 obtain⟨cs,h1,h2,_⟩:=tQ hsh (g:=0) (t:=185) (n:=64) ltD (by kernel_rfl)
 obtain⟨g,t,cs',fuel,p,hg,hty,hvar,hd⟩:=h
 obtain rfl := Option.some.inj ((show Tryz.prog.globalNamed "math/bits.deBruijn64tab" = some 0 by kernel_rfl).symm.trans hg)
 obtain rfl:=Option.some.inj ((show (Tryz.prog.globals[0]?).map (·.type)=some 185 by kernel_rfl).symm.trans hty)
 obtain rfl:=IG hg h1 hvar;have hcs:=cells_of_tab (n:=64) Tryz.underlying185 Tryz.underlying5 (by kernel_rfl) (by kernel_rfl) hd
 refine⟨ltD,cs',h1,?_,H8 OC fun i z hz=>?_⟩
 ·rw[h2];have e:dbL.length=64:=by kernel_rfl
  exact Nat.le_of_eq e
 ·rw[<-Array.getElem?_toList,hcs,List.getElem?_map,hz];rfl
theorem aJY {W : World} (hsh : W.ShapedOpen Tryz.prog) (h : VarReads Tryz.prog W "unicode/utf8.acceptRanges" acceptData) : pW Tryz.prog W H0 := by
 obtain⟨cs,h1,h2,_⟩:=tQ hsh (g:=2) (t:=245) (n:=32) lt1 (by kernel_rfl)
 obtain⟨g,t,cs',fuel,p,hg,hty,hvar,hd⟩:=h
 obtain rfl := Option.some.inj ((show Tryz.prog.globalNamed "unicode/utf8.acceptRanges" = some 2 by kernel_rfl).symm.trans hg)
 obtain rfl:=Option.some.inj ((show (Tryz.prog.globals[2]?).map (·.type)=some 245 by kernel_rfl).symm.trans hty)
 obtain rfl:=IG hg h1 hvar;have c244:Tryz.prog.cellsOf 244=2:=by kernel_rfl
 have c5:Tryz.prog.cellsOf 5=1:=by kernel_rfl
 have hl:DL.length=32:=by kernel_rfl
 have at2:∀i,i<16->cs'[2*i]? =some (.int .u8 (accLo i:Int))/\cs'[2*i+1]? =some (.int .u8 (accHi i:Int)):=fun i hi=>by
  obtain⟨fuel',d,q,hdi,he⟩:=array_elem Tryz.underlying245 hd i hi;simp only[List.getElem?_map,List.getElem?_range hi,Option.map_some,Option.some.injEq] at hdi;subst hdi;rw[c244] at he;have hcs:=ints_of_struct Tryz.underlying244 (fun j f hj=>by
   match j,hj with
   |0,hj=>simp at hj;subst hj;exact⟨Tryz.underlying5,rfl,c5⟩
   |1,hj=>simp at hj;subst hj;exact⟨Tryz.underlying5,rfl,c5⟩
   |j+2,hj=>simp at hj) (by rw[c244];rfl) he
  have e0:=congrArg (·[0]?) hcs
  have e1:=congrArg (·[1]?) hcs
  simp only[List.getElem?_take,List.getElem?_drop] at e0 e1;constructor
  ·rw[<-Array.getElem?_toList];simpa[Nat.mul_comm] using e0
  ·rw[<-Array.getElem?_toList];simpa[Nat.mul_comm] using e1
 refine⟨lt1,cs',h1,?_,H8 KZ fun i z hz=>?_⟩
 ·rw[h2];have e:mH.length=32:=by kernel_rfl
  exact Nat.le_of_eq e
 ·have hi:i<32:=by have:=(List.getElem?_eq_some_iff.1 hz).1;omega
  have key:∀i,i<32->DL[i]? =some (if i%2=0 then (accLo (i / 2):Int) else (accHi (i / 2):Int)):=by decide+kernel
  rw[key i hi] at hz;cases hz;obtain⟨q1,q2⟩:=at2 (i / 2) (by omega)
  split
  ·rename_i h0;exact (congrArg (fun j=>cs'[j]?) (by omega:i=2*(i / 2))).trans q1
  ·rename_i h0;exact (congrArg (fun j=>cs'[j]?) (by omega:i=2*(i / 2)+1)).trans q2
def xM(m:Int):List Tab:=[H2,HZ,H0,wG 3 3 .i64 m]
def gtU(m:Int):Gt:=fun k=>bif Nat.beq k 0 then some (dbL.map gtT.toV) else bif Nat.beq k 1 then some (mX.map gtT.toV) else bif Nat.beq k 2 then some (mH.map gtT.toV) else bif Nat.beq k 3 then some [.int .i64 m] else none
theorem AF{w:Wd}:∀(l:List AV),l.all kB=true->aX w (l.map gtT.toV) l
 |[],_=>.nil
 |a::l,h=>by
  simp only[List.all_cons,Bool.and_eq_true] at h;cases a with
  |int k n=>exact .cons _ _ _ _ (.int _ _) (AF l h.2)
  |_=>cases h.1
theorem aBl:dbL.all kB=true:=by kernel_rfl
theorem aCc:mX.all kB=true:=by kernel_rfl
theorem X7:mH.all kB=true:=by kernel_rfl
theorem BW{m:Int}{u:Tab}(h:u∈xM m):(wOf (iP (xM m) .e)).K u.g=some u.l:=IH (H9 (L:=xM m) (show ([0,1,2,3]:List Nat).Nodup by decide) u h)
theorem aCs(m:Int):aV (gtU m) (wOf (iP (xM m) .e)):=by
 intro k l hk;unfold gtU at hk;cases h0:Nat.beq k 0 with
 |true=>rw[h0] at hk;cases hk;obtain rfl:=aP.1 h0;exact⟨dbL,BW (u:=H2) (.head _),AF _ aBl⟩
 |false=>
  rw[h0] at hk;cases h1:Nat.beq k 1 with
  |true=>rw[h1] at hk;cases hk;obtain rfl:=aP.1 h1;exact⟨mX,BW (u:=HZ) (.tail _ (.head _)),AF _ aCc⟩
  |false=>
   rw[h1] at hk;cases h2:Nat.beq k 2 with
   |true=>rw[h2] at hk;cases hk;obtain rfl:=aP.1 h2;exact⟨mH,BW (u:=H0) (.tail _ (.tail _ (.head _))),AF _ X7⟩
   |false=>
    rw[h2] at hk;cases h3:Nat.beq k 3 with
    |true=>rw[h3] at hk;cases hk;obtain rfl:=aP.1 h3;exact⟨_,BW (u:=wG 3 3 .i64 m) (.tail _ (.tail _ (.tail _ (.head _)))),.cons _ _ _ _ (.int _ _) .nil⟩
    |false=>rw[h3] at hk;cases hk
theorem FZ(m:Int):∀p∈tb m,∃l,gtU m p.1=some l/\l.all kI=true/\l.map plA=p.2:=by
 intro p hp;rcases List.mem_cons.1 hp with rfl|hp
 ·exact⟨_,rfl,by kernel_rfl,by kernel_rfl⟩
 rcases List.mem_cons.1 hp with rfl|hp
 ·exact⟨_,rfl,by kernel_rfl,by kernel_rfl⟩
 rcases List.mem_cons.1 hp with rfl|hp
 ·exact⟨_,rfl,by kernel_rfl,by kernel_rfl⟩
 obtain rfl:=List.mem_singleton.1 hp;exact⟨_,rfl,rfl,rfl⟩
theorem aCr(m:Int):gtU m jG=some tzL:=by kernel_rfl
theorem GU{l:List AV}{zs:List Int}(he:l=zs.map (AV.int .u8)){W:World}{u:Tab}(hu:u.l=l)(ht:pW Tryz.prog W u)(hl:∀(c:Array Value) e fr,W.heap[u.g]? =some (.cells c e fr)->c.size=l.length)(c:Array Value)(e:TypeId)(fr:Nat×Nat)(i:Nat)(z:Int)(hb:W.heap[u.g]? =some (.cells c e fr)):c[i]?≠some (.int .i64 z):=by
 intro hc;obtain⟨c',h1,h2,h3⟩:=ht.blk;rw[hb] at h1;cases h1;have hi:=(Array.getElem?_eq_some_iff.1 hc).1;have hs:=hl _ _ _ hb;have hz:l[i]? =some l[i]:=List.getElem?_eq_getElem (by omega)
 obtain⟨k,n,k1,k2⟩:=h3 i l[i] (by rw[hu];exact hz)
 rw[hc] at k2;cases k2;have:l[i]? =(zs.map (AV.int .u8))[i]?:=by rw[he]
 rw[hz,List.getElem?_map] at this;obtain⟨z',_,hz'⟩:=Option.map_eq_some_iff.1 this.symm;rw[<-hz'] at k1;cases k1
theorem D5{W:World}(hsh:W.ShapedOpen Tryz.prog){g:Nat}{t:TypeId}{n:Nat}(hg:g<Tryz.prog.globals.size)(hz:(((begin Tryz.prog (fun _ _=>0) default).world.heap[g]?).bind Obj.row?).map (fun x=>(x.1.size,x.2))=some (n,t))(c:Array Value)(e:TypeId)(fr:Nat×Nat)(hb:W.heap[g]? =some (.cells c e fr)):c.size=n:=by obtain⟨cs,h1,h2,_⟩:=tQ hsh hg hz;rw[h1] at hb;cases hb;exact h2
theorem aJO {W : World} (hsh : W.ShapedOpen Tryz.prog) (hD : VarReads Tryz.prog W "math/bits.deBruijn64tab" (tabData .u8 dbZ)) (h0 : VarReads Tryz.prog W "unicode/utf8.first" firstData) (h1 : VarReads Tryz.prog W "unicode/utf8.acceptRanges" acceptData) {v : Value} {ls : List Int} (hv : vB W v ls) :
  ∃m σ h nx u,Go.VL.Start Tryz.prog W (gtU m) σ h nx/\Den (wOf h) (.sl 1 (ls.map fun n=>[V.int .i64 n]) none) u/\RV σ u v:=by
 obtain⟨m,hm⟩:=aIw hsh (g:=3) (t:=3) (k:=.i64) lt3 (by kernel_rfl) (by kernel_rfl) Tryz.underlying3 (by kernel_rfl)
 have hs:=aIy hsh (g:=10) (t:=277) (n:=32) (by kernel_rfl) (by kernel_rfl)
 have tD:=aJZ hsh hD;have t0:=aJX hsh h0;have t1:=aJY hsh h1;refine⟨m,aJM (L:=xM m) (g:=3) (t:=3) (m:=m) hs (show ([0,1,2,3]:List Nat).Nodup by decide) (fun u hu=>?_) (aCs m) (.tail _ (.tail _ (.tail _ (.head _)))) hm (fun u hu hne c e fr i z hb=>?_) hv⟩
 ·rcases List.mem_cons.1 hu with rfl|hu
  ·exact tD
  rcases List.mem_cons.1 hu with rfl|hu
  ·exact t0
  rcases List.mem_cons.1 hu with rfl|hu
  ·exact t1
  obtain rfl:=List.mem_singleton.1 hu;exact aCx lt3 hm
 ·rcases List.mem_cons.1 hu with rfl|hu
  ·exact GU OC rfl tD (fun c e fr hb=>(D5 hsh ltD (t:=185) (n:=64) (by kernel_rfl) c e fr hb).trans (show (64:Nat)=dbL.length by kernel_rfl)) c e fr i z hb
  rcases List.mem_cons.1 hu with rfl|hu
  ·exact GU PO rfl t0 (fun c e fr hb=>(D5 hsh lt0 (t:=242) (n:=256) (by kernel_rfl) c e fr hb).trans (show (256:Nat)=mX.length by kernel_rfl)) c e fr i z hb
  rcases List.mem_cons.1 hu with rfl|hu
  ·exact GU KZ rfl t1 (fun c e fr hb=>(D5 hsh lt1 (t:=245) (n:=32) (by kernel_rfl) c e fr hb).trans (show (32:Nat)=mH.length by kernel_rfl)) c e fr i z hb
  obtain rfl:=List.mem_singleton.1 hu;exact absurd rfl hne
theorem YM(m:Int):IT (ovr (XN2 m)) (gtU m) PNt PVt PTt where
 H:=X4 m
 K:=X5 m
 hG:=aCr m
 lib:=aFG m (FZ m)
 hM:=aFX
 told:=aJ6 m (FZ m)
end
section
attribute [local irreducible] aM wd aZ aN pc cX bL rkN cK dF ex upN gE pX clB opB dM
variable {X : Ovr} {G : Gt}
structure DS(vh:VH)(bd bp:Nat)(bs:List Bool):Prop where
 d:∃a b c e,vh bd=some (.cells [.ptr bp 0,a,b,c,e] jI 0 false)
 p:∃ls st,PAt vh bp bs ls 1 st/\0<=st/\st<=1
def zQ(vh:VH)(vn bp:Nat)(bs:List Bool)(v:V)(vh':VH)(vn':Nat):Prop:=vn'=vn/\(∀c,c≠bp->vh' c=vh c)/\(∃ls st,PAt vh' bp bs ls 1 st/\0<=st/\st<=1)/\∃z,v=.int .i64 z
variable {vh : VH} {vn bd bp : Nat} {bs : List Bool}
theorem vE(H:mG X)(hG:G jG=some tzL)(hl:bs.length<=64)(D:DS vh bd bp bs)(k:Nat):
  aE Tryz.prog X G nS [.ptr bd 0,.int .i64 (k:Int)] vh vn fun v vh' vn'=>vh'=vh/\vn'=vn/\∃p:Int,v=.tup [.ptr bp 0,.int .i64 p]:=by
 obtain⟨a,b,c,e,hd⟩:=D.d;obtain⟨ls,st,P,_⟩:=D.p;apply aDU.run H.dat
 conv=>whnf
 refine Get.mk (_,_,_,_) hd ?_
 conv=>whnf
 refine Get.mk _ rfl ?_
 conv=>whnf
 refine Get.mk (_,_,_,_) hd ?_
 conv=>whnf
 refine Get.mk _ rfl ?_
 conv=>whnf
 refine (WD H.toXPar hG (by omega) P (k:Int)).mono fun v vh' vn' he=>?_
 obtain⟨e1,e2,p,e3,_⟩:=he;rw[e1,e2,e3];clear e1 e2 e3
 conv=>whnf
 refine⟨⟨rfl,?_⟩,?_⟩
 ·refine Get.mk (_,_,_,_) hd ?_
  conv=>whnf
  refine Get.mk _ rfl ?_
  conv=>whnf
 conv=>whnf
 exact Get.mk _ (fun _ _ h=>h) ⟨rfl,rfl,p,rfl⟩
section
variable (H : mG X) (hG : G jG = some tzL) (hl : bs.length ≤ 64) (D : DS vh bd bp bs) (k : Nat)
include H hG hl D
theorem WV:aE Tryz.prog X G uF [.ptr bd 0,.int .i64 (k:Int)] vh vn (zQ vh vn bp bs):=by
 apply aDS.run H.parent
 conv=>whnf
 refine (vE H hG hl D k).mono fun v vh' vn' he=>?_;obtain⟨e1,e2,p,e3⟩:=he;rw[e1,e2,e3];clear e1 e2 e3
 conv=>whnf
 obtain⟨ls,st,P,_⟩:=D.p;refine (UX H.toXPar3 hl P _).mono fun v vh1 n1 he=>?_;obtain⟨e1,F1,⟨st1,P1,s1,s2⟩,e3⟩:=he;rw[e1,e3];clear e1 e3
 conv=>whnf
 refine (CW H.toXPar (by omega) P1 _).mono fun v vh' vn' he=>?_
 obtain⟨e1,e2,e3⟩:=he;rw[e1,e2,e3]
 conv=>whnf
 exact Get.mk _ (fun _ _ h=>h) ⟨rfl,F1,⟨ls,st1,P1,s1,s2⟩,_,rfl⟩
theorem WU:aE Tryz.prog X G uE [.ptr bd 0,.int .i64 (k:Int)] vh vn (zQ vh vn bp bs):=by
 apply aDR.run H.next
 conv=>whnf
 refine (vE H hG hl D k).mono fun v vh' vn' he=>?_;obtain⟨e1,e2,p,e3⟩:=he;rw[e1,e2,e3];clear e1 e2 e3
 conv=>whnf
 obtain⟨ls,st,P,t1,t2⟩:=D.p;refine aB.mk (fun c1=>?_) (fun c1=>?_)
 ·conv=>whnf
  exact Get.mk _ (fun _ _ h=>h) ⟨rfl,fun _ _=>rfl,⟨ls,st,P,t1,t2⟩,_,rfl⟩
 ·conv=>whnf
  refine (IW H.toXPar3 hl P _).mono fun v vh1 n1 he=>?_;obtain⟨e1,F1,P1,e3⟩:=he;rw[e1,e3];clear e1 e3
  conv=>whnf
  refine (CW H.toXPar (by omega) P1 _).mono fun v vh' vn' he=>?_
  obtain⟨e1,e2,e3⟩:=he;rw[e1,e2,e3]
  conv=>whnf
  refine Get.mk _ (fun _ _ h=>h) ⟨rfl,F1,⟨ls,_,P1,?_,?_⟩,_,rfl⟩<;>split<;>omega
theorem WW:aE Tryz.prog X G uG [.ptr bd 0,.int .i64 (k:Int)] vh vn (zQ vh vn bp bs):=by
 apply aDT.run H.prev
 conv=>whnf
 refine (vE H hG hl D k).mono fun v vh' vn' he=>?_;obtain⟨e1,e2,p,e3⟩:=he;rw[e1,e2,e3];clear e1 e2 e3
 conv=>whnf
 obtain⟨ls,st,P,_⟩:=D.p;refine (UP H.toXPar3 hl P _).mono fun v vh1 n1 he=>?_;obtain⟨e1,F1,P1,e3⟩:=he;rw[e1,e3];clear e1 e3
 conv=>whnf
 refine (CW H.toXPar (by omega) P1 _).mono fun v vh' vn' he=>?_
 obtain⟨e1,e2,e3⟩:=he;rw[e1,e2,e3]
 conv=>whnf
 refine Get.mk _ (fun _ _ h=>h) ⟨rfl,F1,⟨ls,_,P1,?_,?_⟩,_,rfl⟩<;>split<;>omega
theorem WO:aE Tryz.prog X G uD [.ptr bd 0,.int .i64 (k:Int)] vh vn (zQ vh vn bp bs):=by
 apply aDP.run H.count
 conv=>whnf
 refine (vE H hG hl D k).mono fun v vh' vn' he=>?_;obtain⟨e1,e2,p,e3⟩:=he;rw[e1,e2,e3];clear e1 e2 e3
 conv=>whnf
 obtain⟨ls,st,P,t1,t2⟩:=D.p;refine (XB H.toXPar3 hl P _).mono fun v vh1 n1 he=>?_;obtain⟨e1,F1,P1,e3⟩:=he;rw[e1,e3];clear e1 e3
 conv=>whnf
 refine Get.mk _ (fun _ _ h=>h) ⟨rfl,F1,⟨ls,_,P1,?_,?_⟩,_,rfl⟩<;>split<;>omega
end
end
end Go.Proofs.YtjoadepfokpcoaaGreatDoor
set_option maxRecDepth 100000
set_option linter.unusedVariables false
namespace Go.Proofs.YtjoadepfokpcoaaGreatDoor
def ZS:aD:=(.seq (.reg 0 [oA 4 (.mv (cB false))] (kp [0,1]))
(.seq (.reg 0 [mA 12 0,oA 13 (.call x9 [12]),mA 5 13] (kp [1,5]))
(.seq (.reg 0 [mA 15 5,oA 16 (.call xX [15]),mA 14 16,oA 17 (.ext 14 0),oA 18 (.ext 14 1),mA 6 17,mA 7 18] (kp [1,5,6,7]))
(.seq (.reg 0 [mA 20 5,oA 21 (.call uP [20]),mA 19 21,oA 22 (.ext 19 0),oA 23 (.ext 19 1),mA 8 22,mA 9 23] (kp [1,5,6,7,8]))
(.seq (.seq (.reg 0 [mA 24 7,oA 25 (.bin .neq 24 (cI 0)),mA 26 25,oF 26 27 (.mv 6),oF 26 28 (.eq .p .eql 27 (.c .nilp)),oA 29 (.pick 26 (cB true) 28)] (kp [1,5,6,8,29]))
(.cond 29
(.seq (.reg 0 [oA 4 (.mv (cB false))] (kp [4]))
.ret)
(.gsk (kp [1,5,6,8]))))
(.seq (.reg 0 [mA 30 1,oA 31 (.cint .u64 30),mA 32 5,oA 33 (.lenL 32),oA 34 (.cint .u64 33),oA 35 (.bin .rem 31 34),oA 36 (.cint .i64 35),mA 10 36] (kp [5,6,8,10]))
(.seq (.reg 0 [mA 37 6,mA 38 10,oA 39 (.call yW [37,38]),mA 11 39] (kp [5,6,8,11]))
(.seq (.reg 0 [oA 40 (.call yA []),mA 41 40,oT 41 42 (.mv 6),oT 41 43 (.call yV [42]),oT 41 44 (.mv 5),oT 41 45 (.lenL 44),oT 41 46 (.mv 8),oT 41 47 (.lenL 46),oT 41 48 (.call uR [45,47]),oT 41 49 (.bin .leq 43 48),oA 50 (.pick 41 49 (cB false)),mA 51 50,oT 51 52 (.mv 11),oT 51 53 (.bin .geq 52 (cI 0)),oA 54 (.pick 51 53 (cB false)),mA 55 54,oT 55 56 (.mv 11),oT 55 57 (.mv 5),oT 55 58 (.lenL 57),oT 55 59 (.mv 8),oT 55 60 (.lenL 59),oT 55 61 (.call uO [58,60]),oT 55 62 (.bin .leq 56 61),oA 63 (.pick 55 62 (cB false)),mA 4 63] (kp [4]))
.ret))))))))
def aHK:List aJ:=[.tmp 4]
theorem aD2:aL Tryz.prog CJ ZS aHK:=.of Tryz.func6 (by kernel_rfl)
def MP:aD:=(.seq (.seq (.reg 1 [mA 36 8,mA 37 4,oA 38 (.lenL 37),oA 39 (.bin .lss 36 38),mA 40 39,oT 40 41 (.mv 4),oT 40 42 (.mv 8),oT 40 43 (.idx 7 41 42),oT 40 44 (.load 43 true 7),oT 40 45 (.load 7 true 7),oT 40 46 (.call l5 [44,45]),oT 40 47 (.un .not 46),oA 48 (.pick 40 47 (cB false))] (kp [0,4,5,6,7,8,48]))
(.cond 48
(.gsk (kp [0,4,5,6,7,8]))
(.exit 2)))
(.block 3
(.reg 0 [mA 49 8,oA 50 (.bin .add 49 (cI 1)),mA 8 50] (kp [0,4,5,6,7,8]))))
def MO:aD:=(.seq (.seq (.reg 0 [mA 9 6,mA 10 0,oA 11 (.lenL 10),oA 12 (.bin .lss 9 11)] (kp [0,4,5,6,12]))
(.cond 12
(.gsk (kp [0,4,5,6]))
(.exit 0)))
(.seq (.block 1
(.seq (.reg 1 [mA 15 0,mA 16 6,oA 17 (.idx 7 15 16),oA 18 (.off 17 0),oA 19 (.load 18 false 1),mA 20 0,mA 21 6,oA 22 (.idx 7 20 21),oA 23 (.off 22 2),oA 24 (.load 23 false 1),mA 25 0,mA 26 6,oA 27 (.idx 7 25 26),oA 28 (.off 27 3),oA 29 (.load 28 false 1),mA 30 0,mA 31 6,oA 32 (.idx 7 30 31),oA 33 (.off 32 4),oA 34 (.load 33 false 1),oA 35 (.build [(.int .i64 0),(.int .i64 0),(.str []),(.str []),(.str []),(.str []),.nils] [(0,1,19),(2,1,24),(3,1,29),(4,1,34)]),oA 7 (.allocL [(.int .i64 0),(.int .i64 0),(.str []),(.str []),(.str []),(.str []),.nils]),oN (.store 7 35 7)] (kp [0,4,5,6,7]))
(.seq (.reg 0 [oA 8 (.mv (cI 0))] (kp [0,4,5,6,7,8]))
(.seq (.block 2
(.loop MP))
(.seq (.seq (.reg 0 [mA 51 8,mA 52 4,oA 53 (.lenL 52),oA 54 (.bin .eql 51 53)] (kp [0,4,5,6,7,8,54]))
(.cond 54
(.reg 0 [mA 55 4,oA 56 (.load 7 true 7),oA 57 (.buildF 7 1 [(.int .i64 0),(.int .i64 0),(.str []),(.str []),(.str []),(.str []),.nils] [(0,56)]),oA 58 (.app 7 [(.int .i64 0),(.int .i64 0),(.str []),(.str []),(.str []),(.str []),.nils] 104 cS 55 57),mA 4 58] (kp [0,4,5,6,8]))
(.gsk (kp [0,4,5,6,8]))))
(.reg 0 [mA 59 5,mA 60 8,oA 61 (.buildF 1 1 [(.int .i64 0)] [(0,60)]),oA 62 (.app 1 [(.int .i64 0)] 8 b9 59 61),mA 5 62] (kp [0,4,5,6])))))))
(.reg 0 [mA 13 6,oA 14 (.bin .add 13 (cI 1)),mA 6 14] (kp [0,4,5,6]))))
def aA2:aD:=(.seq (.reg 0 [oA 2 (.mv (.c .nils)),oA 3 (.mv (.c .nils))] (kp [0]))
(.seq (.reg 0 [oA 4 (.mv (.c .nils))] (kp [0,4]))
(.seq (.reg 0 [oA 5 (.mv (.c .nils))] (kp [0,4,5]))
(.seq (.seq (.reg 0 [oA 6 (.mv (cI 0))] (kp [0,4,5,6]))
(.block 0
(.loop MO)))
(.seq (.reg 0 [mA 63 4,mA 64 5,mA 2 63,mA 3 64] (kp [2,3]))
.ret)))))
def aHg:List aJ:=[.tmp 2,.tmp 3]
theorem aDx:aL Tryz.prog uP aA2 aHg:=.of Tryz.func23 (by kernel_rfl)
def NF:aD:=(.seq (.reg 0 [oA 21 (.bin .lss 20 19)] (kp [0,1,5,18,19,20,21]))
(.seq (.cond 21
(.gsk (kp [0,1,5,18,19,20]))
(.exit 0))
(.seq (.block 1
(.seq (.reg 0 [oA 22 (.idx 1 18 20),oA 23 (.load 22 false 1),mA 7 23] (kp [0,1,5,7,18,19,20]))
(.seq (.reg 0 [mA 25 7,oA 26 (.asrt mB .nilf 25 true),mA 24 26,oA 27 (.ext 24 0),oA 28 (.ext 24 1),mA 8 27,mA 9 28] (kp [0,1,5,8,9,18,19,20]))
(.seq (.reg 0 [mA 29 9] (kp [0,1,5,8,18,19,20,29]))
(.cond 29
(.seq (.reg 0 [mA 30 8,mA 31 0,mA 32 1,oA 33 (.callv 30 [31,32])] (kp [0,1,5,18,19,20]))
(.reg 2 [mA 34 5,mA 35 0,oA 36 (.nilck 35),oA 37 (.off 36 0),oA 38 (.load 37 false 1),⟨some 39,.call yI [38],none,[],.n [9]⟩,⟨some 40,.mv 0,none,[],.e⟩,⟨some 41,.nilck 40,none,[],.e⟩,⟨some 42,.off 41 1,none,[],.e⟩,⟨some 43,.load 42 false 1,none,[],.e⟩,oA 44 (.call zI [43]),oA 45 (.mx [34,39,44]),mA 5 45] (kp [0,1,5,18,19,20])))
(.gsk (kp [0,1,5,18,19,20])))))))
(.reg 0 [oA 46 (.bin .add 20 (cI 1)),mA 20 46] (kp [0,1,5,18,19,20])))))
def aBH:aD:=(.seq (.reg 0 [oA 4 (.mv (cI 0))] (kp [0,1]))
(.seq (.seq (.reg 0 [mA 10 0,mA 11 1,oA 12 (.call xZ [10,11]),oA 13 (.un .not 12)] (kp [0,1,13]))
(.cond 13
(.seq (.reg 0 [oA 4 (.mv (cI 0))] (kp [4]))
.ret)
(.gsk (kp [0,1]))))
(.seq (.reg 0 [oA 5 (.mv (cI 0))] (kp [0,1,5]))
(.seq (.seq (.reg 0 [oA 14 (.mkIfc mB (.f uF)),oA 15 (.mkIfc mB (.f uE)),oA 16 (.mkIfc mB (.f uG)),oA 17 (.mkIfc mB (.f uD)),oA 18 (.buildF 1 4 [.nili] [(0,14),(1,15),(2,16),(3,17)]),oA 19 (.lenL 18),oA 20 (.mv (cI 0))] (kp [0,1,5,18,19,20]))
(.block 0
(.loop NF)))
(.seq (.reg 0 [mA 47 5,mA 4 47] (kp [4]))
.ret)))))
def aIT:List aJ:=[.tmp 4]
theorem aEb:aL Tryz.prog yW aBH aIT:=.of Tryz.func24 (by kernel_rfl)
def aBG:aD:=(.seq (.reg 0 [oA 2 (.mv (cI 0))] (kp [0]))
(.seq (.seq (.reg 0 [mA 3 0,oA 4 (.eq .p .eql 3 (.c .nilp))] (kp [0,4]))
(.cond 4
(.seq (.reg 0 [oA 2 (.mv (cI 0))] (kp [2]))
.ret)
(.gsk (kp [0]))))
(.seq (.reg 2 [mA 5 0,⟨some 6,.call xW [5],none,[],.n [6]⟩,oA 7 (.bin .mul (cI 2) 6),⟨some 8,.mv 0,none,[],.e⟩,⟨some 9,.nilck 8,none,[],.e⟩,⟨some 10,.off 9 1,none,[],.e⟩,⟨some 11,.load 10 false 1,none,[],.e⟩,oA 12 (.call zH [11]),oA 13 (.bin .add 7 12),mA 2 13] (kp [2]))
.ret)))
def aIS:List aJ:=[.tmp 2]
theorem aEa:aL Tryz.prog yV aBG aIS:=.of Tryz.func26 (by kernel_rfl)
def aA5:aD:=(.seq (.reg 0 [oA 4 (.mv (cI 0))] (kp [0,1]))
(.seq (.reg 0 [mA 6 0,mA 7 1,oA 8 (.call q9 [6,7]),mA 5 8] (kp [1,5]))
(.seq (.reg 0 [mA 9 5,mA 10 5,oA 11 (.bin .quo 10 (cI 2)),oA 12 (.bin .add 9 11),mA 13 1,oA 14 (.mx [13,(cI 1)]),oA 15 (.bin .sub 14 (cI 1)),oA 16 (.cint .u64 15),oA 17 (.call j2 [16]),oA 18 (.bin .mul (cI 200) 17),oA 19 (.bin .add 12 18),oA 20 (.bin .add 19 (cI 400)),mA 4 20] (kp [4]))
.ret)))
def aHj:List aJ:=[.tmp 4]
theorem aEA:aL Tryz.prog uR aA5 aHj:=.of Tryz.func27 (by kernel_rfl)
def aA1:aD:=(.seq (.reg 0 [oA 4 (.mv (cI 0))] (kp [0,1]))
(.seq (.reg 0 [mA 5 0,oA 6 (.mx [5,(cI 0)]),oA 7 (.bin .mul (cI 2) 6),oA 8 (.cint .u64 7),oA 9 (.call j2 [8]),mA 10 1,oA 11 (.mx [10,(cI 1)]),oA 12 (.cint .u64 11),oA 13 (.call j2 [12]),oA 14 (.bin .add 9 13),oA 15 (.bin .add 14 (cI 2)),oA 16 (.bin .mul (cI 40) 15),mA 4 16] (kp [4]))
.ret))
def aHf:List aJ:=[.tmp 4]
theorem aDw:aL Tryz.prog uO aA1 aHf:=.of Tryz.func28 (by kernel_rfl)
def aA3:aD:=(.seq (.reg 0 [oA 4 (.mv (cI 0))] (kp [0,1]))
(.seq (.reg 0 [mA 5 0,oA 6 (.mx [5,(cI 0)]),oA 7 (.bin .mul (cI 2) 6),mA 8 0,oA 9 (.mx [8,(cI 0)]),mA 10 1,oA 11 (.mx [10,(cI 1)]),oA 12 (.bin .sub 11 (cI 1)),oA 13 (.cint .u64 12),oA 14 (.call j2 [13]),oA 15 (.bin .mul 9 14),oA 16 (.bin .add 7 15),mA 4 16] (kp [4]))
.ret))
def aHh:List aJ:=[.tmp 4]
theorem aDy:aL Tryz.prog q9 aA3 aHh:=.of Tryz.func71 (by kernel_rfl)
def EN:aD:=(.seq (.seq (.reg 0 [mA 4 0,oA 5 (.bin .gtr 4 (cU 0))] (kp [0,3,5]))
(.cond 5
(.gsk (kp [0,3]))
(.exit 0)))
(.block 1
(.seq (.reg 0 [mA 6 3,oA 7 (.bin .add 6 (cI 1)),mA 3 7] (kp [0,3]))
(.reg 0 [mA 8 0,oA 9 (.bin .shr 8 (cU 1)),mA 0 9] (kp [0,3])))))
def aAn:aD:=(.seq (.reg 0 [oA 2 (.mv (cI 0))] (kp [0]))
(.seq (.reg 0 [oA 3 (.mv (cI 0))] (kp [0,3]))
(.seq (.block 0
(.loop EN))
(.seq (.reg 0 [mA 10 3,mA 2 10] (kp [2]))
.ret))))
def aIB:List aJ:=[.tmp 2]
theorem aES:aL Tryz.prog j2 aAn aIB:=.of Tryz.func72 (by kernel_rfl)
section
attribute [local irreducible] aM wd aZ aN pc cX bL rkN cK dF ex upN gE pX clB opB dM
variable {X : Ovr} {G : Gt}
def DA(rv:V)(R:Nat):Prop:=(rv=.nils/\R=0)\/∃b,rv=.msl b 0 R 1 none
structure XSp(X:Ovr):Prop where
 wsize:X zH=none
 wsteps:X zI=none
 bound:X xV=none
 dlen:X xW=none
 shape:X yV=none
 has:X xZ=none
 steps:X yW=none
variable {vh : VH} {vn bd bp bw : Nat} {bs : List Bool}
theorem X0(S:XSp X){rv:V}{n sg:Nat}{st:Int}(W:WB vh bw rv n sg st):
  aE Tryz.prog X G zI [.ptr bw 0] vh vn fun v vh' vn'=>vh'=vh/\vn'=vn/\v=.int .i64 st:=by
 apply aEq.run S.wsteps
 conv=>whnf
 refine Get.mk (_,_,_,_) W ?_
 conv=>whnf
 refine Get.mk _ rfl ?_
 conv=>whnf
 exact Get.mk _ (fun _ _ h=>h) ⟨rfl,rfl,rfl⟩
theorem UO(S:XSp X)(n:Nat)(h1:1<=n)(h2:n<=32):aE Tryz.prog X G xV [.int .i64 (n:Int)] vh vn fun v vh' vn'=>vh'=vh/\vn'=vn/\v=.int .i64 112:=by
 have t1:wr .i64 ((n:Int)+64)=(n:Int)+64:=by rw[aF]<;>omega
 have t2:wr .i64 ((n:Int)+64-1)=((n+63:Nat):Int):=by rw[aF]<;>omega
 have t3:wr .i64 ((n:Int)+512)=(n:Int)+512:=by rw[aF]<;>omega
 have t4:wr .i64 ((n:Int)+512-1)=((n+511:Nat):Int):=by rw[aF]<;>omega
 have q1:(((n+63:Nat):Int)).tdiv 64=1:=by show (((n+63) / 64:Nat):Int)=1;omega
 have q2:(((n+511:Nat):Int)).tdiv 512=1:=by show (((n+511) / 512:Nat):Int)=1;omega
 apply aDJ.run S.bound
 conv=>whnf
 repeat (refine Owe.mk (by decide) ?_;conv=>whnf)
 rw[t1,t2,t3,t4,q1,q2];exact Get.mk _ (fun _ _ h=>h) ⟨rfl,rfl,rfl⟩
theorem XZ(S:XSp X){rv:V}{n sg R:Nat}{st:Int}(h1:1<=n)(h2:n<=32)(hR:R<=8)(W:WB vh bw rv n sg st)(hr:DA rv R):
  aE Tryz.prog X G zH [.ptr bw 0] vh vn fun v vh' vn'=>vh'=vh/\vn'=vn/\v=.int .i64 ((R*112:Nat):Int):=by
 apply aEp.run S.wsize;rcases hr with⟨rfl,rfl⟩|⟨b,rfl⟩
 all_goals
  conv=>whnf
  refine Get.mk (_,_,_,_) W ?_
  conv=>whnf
  refine Get.mk _ rfl ?_
  conv=>whnf
  refine Get.mk (_,_,_,_) W ?_
  conv=>whnf
  refine Get.mk _ rfl ?_
  conv=>whnf
  refine (UO S n h1 h2).mono fun v vh' vn' he=>?_;obtain⟨e1,e2,e3⟩:=he;rw[e1,e2,e3];clear e1 e2 e3
  conv=>whnf
 ·refine⟨⟨rfl,?_⟩,?_⟩
  ·refine Get.mk (_,_,_,_) W ?_
   conv=>whnf
   refine Get.mk _ rfl ?_
   conv=>whnf
  conv=>whnf
  exact Get.mk _ (fun _ _ h=>h) ⟨rfl,rfl,rfl⟩
 ·refine⟨⟨rfl,?_⟩,?_⟩
  ·refine Get.mk (_,_,_,_) W ?_
   conv=>whnf
   refine Get.mk _ rfl ?_
   conv=>whnf
  conv=>whnf
  refine⟨⟨rfl,?_⟩,?_⟩
  ·conv=>whnf
  conv=>whnf
  have e:wr .i64 ((R:Int)*112)=((R*112:Nat):Int):=by rw[aF]<;>omega
  refine Get.mk _ (fun _ _ h=>h) ⟨rfl,rfl,?_⟩;show V.int .i64 (wr .i64 ((R:Int)*112))=_;rw[e]
structure DW(vh:VH)(bd bp bw:Nat)(bs:List Bool)(n R:Nat):Prop where
 d:∃b c e,vh bd=some (.cells [.ptr bp 0,.ptr bw 0,b,c,e] jI 0 false)
 p:∃ls st,PAt vh bp bs ls 1 st/\0<=st/\st<=1
 w:∃rv sg,WB vh bw rv n sg 0/\DA rv R
 dp:bd≠bp
 wp:bw≠bp
theorem DW.s{n R:Nat}(D:DW vh bd bp bw bs n R):DS vh bd bp bs:=by obtain⟨b,c,e,h⟩:=D.d;exact⟨⟨_,b,c,e,h⟩,D.p⟩
theorem DW.upd{n R:Nat}(D:DW vh bd bp bw bs n R){vh':VH}(F:∀c,c≠bp->vh' c=vh c)(P:∃ls st,PAt vh' bp bs ls 1 st/\0<=st/\st<=1):DW vh' bd bp bw bs n R:=by obtain⟨b,c,e,h⟩:=D.d;obtain⟨rv,sg,w,r⟩:=D.w;exact⟨⟨b,c,e,(F bd D.dp).trans h⟩,P,⟨rv,sg,(F bw D.wp).trans w,r⟩,D.dp,D.wp⟩
theorem W7(H:mG X)(S:XSp X){n R:Nat}(h1:1<=n)(h2:n<=32)(hR:R<=8)(hb:bs.length=2*n)(D:DW vh bd bp bw bs n R):
  aE Tryz.prog X G yV [.ptr bd 0] vh vn fun v vh' vn'=>vh'=vh/\vn'=vn/\v=.int .i64 ((2*n+R*112:Nat):Int):=by
 obtain⟨b,c,e,hd⟩:=D.d;obtain⟨ls,st,P,_⟩:=D.p;obtain⟨rv,sg,W,hr⟩:=D.w;have lenOk:∀vh0 vn0,vh0=vh->aE Tryz.prog X G xW [.ptr bd 0] vh0 vn0 fun v vh' vn'=>vh'=vh0/\vn'=vn0/\v=.int .i64 (n:Int):=by
  rintro vh0 vn0 rfl;apply aDL.run S.dlen
  conv=>whnf
  refine Get.mk (_,_,_,_) hd ?_
  conv=>whnf
  refine Get.mk _ rfl ?_
  conv=>whnf
  refine (CU H.toXPar P).mono fun v vh' vn' he=>?_;obtain⟨e1,e2,e3⟩:=he;rw[e1,e2,e3];clear e1 e2 e3
  conv=>whnf
  repeat (refine Owe.mk (by decide) ?_;conv=>whnf)
  rw[hb,show (((2*n:Nat):Int)).tdiv 2=(n:Int) by show (((2*n) / 2:Nat):Int)=n;omega,show wr .i64 (n:Int)=n by rw[aF]<;>omega]
  exact Get.mk _ (fun _ _ h=>h) ⟨rfl,rfl,rfl⟩
 apply aEa.run S.shape
 conv=>whnf
 refine Get.mk (_,_,_,_) hd ?_
 conv=>whnf
 refine Get.mk _ rfl ?_
 conv=>whnf
 refine (lenOk vh vn rfl).mono fun v vh' vn' he=>?_;obtain⟨e1,e2,e3⟩:=he;rw[e1,e2,e3];clear e1 e2 e3
 conv=>whnf
 refine⟨⟨rfl,?_⟩,?_⟩
 ·refine Get.mk (_,_,_,_) hd ?_
  conv=>whnf
  refine Get.mk _ rfl ?_
  conv=>whnf
 conv=>whnf
 refine (XZ S h1 h2 hR W hr).mono fun v vh' vn' he=>?_;obtain⟨e1,e2,e3⟩:=he;rw[e1,e2,e3];clear e1 e2 e3
 conv=>whnf
 have e:wr .i64 (wr .i64 (2*(n:Int))+((R*112:Nat):Int))=((2*n+R*112:Nat):Int):=by rw[show wr .i64 (2*(n:Int))=2*(n:Int) by rw[aF]<;>omega,aF]<;>omega
 rw[e];exact Get.mk _ (fun _ _ h=>h) ⟨rfl,rfl,rfl⟩
end
section
attribute [local irreducible] aM wd aZ aN pc cX bL rkN cK dF ex upN gE pX clB opB dM
variable {X : Ovr} {G : Gt}
variable {vh : VH} {vn bd bp bw : Nat} {bs : List Bool}
theorem VK(H:mG X)(S:XSp X)(hG:G jG=some tzL)(hl:bs.length<=64)(D:DS vh bd bp bs)(k:Nat):
  aE Tryz.prog X G xZ [.ptr bd 0,.int .i64 (k:Int)] vh vn fun v vh' vn'=>vh'=vh/\vn'=vn/\∃b,v=.bool b:=by
 apply aDQ.run S.has
 conv=>whnf
 refine (vE H hG hl D k).mono fun v vh' vn' he=>?_;obtain⟨e1,e2,p,e3⟩:=he;rw[e1,e2,e3]
 conv=>whnf
 exact Get.mk _ (fun _ _ h=>h) ⟨rfl,rfl,_,rfl⟩
def UA:V:=.sl 1 [[.ifc mB (.func uF [] [])],[.ifc mB (.func uE [] [])],[.ifc mB (.func uG [] [])],[.ifc mB (.func uD [] [])]] (some 4)
theorem vF(H:mG X)(S:XSp X)(hG:G jG=some tzL)(hl:bs.length<=64)(n R k:Nat)(vh0:VH)(Q:FQ)
  (hQ:∀vh' (m:Int) b,0<=m->m<=1->DW vh' bd bp bw bs n R->(∀c,c≠bp->vh' c=vh0 c)->Q (.exit 0) [(0,.ptr bd 0),(1,.int .i64 (k:Int)),(5,.int .i64 m),(18,UA),(19,.int .i64 4),(20,.int .i64 4),(21,.bool b)] vh' vn):
  ∀(r j:Nat),j+r=4->∀(vh:VH) (m:Int),0<=m->m<=1->DW vh bd bp bw bs n R->(∀c,c≠bp->vh c=vh0 c)->
  aC Tryz.prog X G (.loop NF) [(0,.ptr bd 0),(1,.int .i64 (k:Int)),(5,.int .i64 m),(18,UA),(19,.int .i64 4),(20,.int .i64 (j:Int))] vh vn Q
 |r,j,hj,vh,m,m0,m1,D,F=>by
  refine aC.round ?_;have hjj:j=4\/j=0\/j=1\/j=2\/j=3:=by omega
  rcases hjj with rfl|rfl|rfl|rfl|rfl
  ·conv=>whnf
   exact hQ vh m _ m0 m1 D F
  all_goals
   conv=>whnf
   first
    |refine Get.mk (0,_) ⟨rfl,rfl⟩ ?_
    |refine Get.mk (1,_) ⟨rfl,rfl⟩ ?_
    |refine Get.mk (2,_) ⟨rfl,rfl⟩ ?_
    |refine Get.mk (3,_) ⟨rfl,rfl⟩ ?_
   conv=>whnf
   first
    |refine (WV H hG hl D.s k).mono fun v vh1 n1 he=>?_
    |refine (WU H hG hl D.s k).mono fun v vh1 n1 he=>?_
    |refine (WW H hG hl D.s k).mono fun v vh1 n1 he=>?_
    |refine (WO H hG hl D.s k).mono fun v vh1 n1 he=>?_
   obtain⟨e1,F1,P1,z,e3⟩:=he;have D1:=D.upd F1 P1;have F2:∀c,c≠bp->vh1 c=vh0 c:=fun c hc=>(F1 c hc).trans (F c hc);rw[e1,e3];clear e1 e3
   conv=>whnf
   obtain⟨b,c,e,hd⟩:=D1.d;obtain⟨ls,st,P,s0,s1⟩:=D1.p;obtain⟨rv,sg,W,hr⟩:=D1.w;refine Get.mk (_,_,_,_) hd ?_
   conv=>whnf
   refine Get.mk _ rfl ?_
   conv=>whnf
   refine Get.mk (_,_,_,_) hd ?_
   conv=>whnf
   refine Get.mk _ rfl ?_
   conv=>whnf
   refine (XG H.toXPar3 P).mono fun v vh' vn' he=>?_;obtain⟨e1,e2,e3⟩:=he;rw[e1,e2,e3];clear e1 e2 e3
   conv=>whnf
   refine⟨⟨rfl,?_⟩,?_⟩
   ·refine Get.mk (_,_,_,_) hd ?_
    conv=>whnf
    refine Get.mk _ rfl ?_
    conv=>whnf
   conv=>whnf
   refine (X0 S W).mono fun v vh' vn' he=>?_;obtain⟨e1,e2,e3⟩:=he;rw[e1,e2,e3];clear e1 e2 e3
   conv=>whnf
   first
    |exact vF H S hG hl n R k vh0 Q hQ (r-1) 1 (by omega) vh1 _ (by omega) (by omega) D1 F2
    |exact vF H S hG hl n R k vh0 Q hQ (r-1) 2 (by omega) vh1 _ (by omega) (by omega) D1 F2
    |exact vF H S hG hl n R k vh0 Q hQ (r-1) 3 (by omega) vh1 _ (by omega) (by omega) D1 F2
    |exact vF H S hG hl n R k vh0 Q hQ (r-1) 4 (by omega) vh1 _ (by omega) (by omega) D1 F2
termination_by r=>r
decreasing_by all_goals omega
theorem W8(H:mG X)(S:XSp X)(hG:G jG=some tzL)(hl:bs.length<=64)(n R k:Nat)(D:DW vh bd bp bw bs n R):
  aE Tryz.prog X G yW [.ptr bd 0,.int .i64 (k:Int)] vh vn fun v vh' vn'=>vn'=vn/\DW vh' bd bp bw bs n R/\(∀c,c≠bp->vh' c=vh c)/\∃m:Int,v=.int .i64 m/\0<=m/\m<=1:=by
 apply aEb.run S.steps
 conv=>whnf
 refine (VK H S hG hl D.s k).mono fun v vh' vn' he=>?_;obtain⟨e1,e2,b,e3⟩:=he;rw[e1,e2,e3];clear e1 e2 e3
 conv=>whnf
 cases b with
 |false=>
  conv=>whnf
  exact Get.mk _ (fun _ _ h=>h) ⟨rfl,D,fun _ _=>rfl,0,rfl,by omega,by omega⟩
 |true=>
  conv=>whnf
  refine vF H S hG hl n R k vh _ (fun vh' m b m0 m1 D' F=>?_) 4 0 rfl vh 0 (by omega) (by omega) D fun _ _=>rfl
  conv=>whnf
  exact Get.mk _ (fun _ _ h=>h) ⟨rfl,D',F,m,rfl,m0,m1⟩
end
section
attribute [local irreducible] aM
variable {X : Ovr} {G : Gt}
def hdN(n:Nd):Nd:=⟨n.k,0,n.p,n.l,n.u,[],[]⟩
theorem aCH{xs:List Nd}{i:Nat}(h:i<xs.length):((xs.map gF).flatten.drop (0+i*7)).take 7=gF xs[i]/\0+i*7+7<=(xs.map gF).flatten.length:=by rw[Nat.zero_add];exact⟨FV vZ xs i h,lH vZ xs i h⟩
theorem I5(hS:X jE=none)(hS':X l5=none)(T:List (List V))(c0:Option Nat)(i:Int)(n:Nd)(lo:Nat)(xs:List Nd)(ks:List Int)(nv av:V)(vh:VH)(vn:Nat)(hx:xs.length<=32)
  (N:aQ gF 7 cS lo vh vn nv xs) (A:aQ eR 1 b9 lo vh vn av ks) (Q:FQ)
  (hQ:∀(k:Nat) b,k<=xs.length->(∀h:k<xs.length,(xs[k]'h).k=n.k)->Q (.exit 2) [(0,.sl 7 T c0),(4,nv),(5,av),(6,.int .i64 i),(7,.bx (gF n)),(8,.int .i64 (k:Int)),(48,.bool b)] vh vn):
  ∀(m k:Nat),xs.length-k=m->k<=xs.length->
  aC Tryz.prog X G (.loop MP) [(0,.sl 7 T c0),(4,nv),(5,av),(6,.int .i64 i),(7,.bx (gF n)),(8,.int .i64 (k:Int))] vh vn Q
 |m,k,hm,hk=>by
  refine aC.round ?_;rcases id N with⟨h1|h1,h2⟩|⟨b,hb1,hb2,h1,hb4⟩<;>rcases id A with⟨g1|g1,g2⟩|⟨a,ha1,ha2,g1,ha4⟩<;>subst h1<;>subst g1
  all_goals
   try (have hk0:k=0:=by rw[h2] at hk;simpa using hk)
   try subst hk0
   conv=>whnf
   first
    |exact hQ _ _ hk (fun h=>absurd h (by rw[h2];exact Nat.lt_irrefl _))
    |skip
  all_goals
   refine aB.mk (fun c1=>?_) (fun c1=>?_)
   ·have hlt:k<xs.length:=by have:=of_decide_eq_true c1;simp at this;omega
    have e:wr .i64 ((k:Int)+1)=((k+1:Nat):Int):=by rw[aF]<;>omega
    conv=>whnf
    refine Get.mk k ⟨rfl,hlt⟩ ?_
    conv=>whnf
    refine Get.mk (_,_,_,_) hb4 ?_
    conv=>whnf
    refine Get.mk _ (aCH hlt) ?_
    conv=>whnf
    refine (J5 hS hS' (hdN xs[k]) (hdN n) .nils .nils (.inl ⟨rfl,rfl⟩) (.inl ⟨rfl,rfl⟩) (show (0:Nat)<2^30 by decide) vh vn).mono fun v vh' vn' he=>?_
    obtain⟨e1,e2,e3⟩:=he;rw[e1,e2,e3];clear e1 e2 e3;cases hsm:gZ (hdN xs[k]) (hdN n) with
    |true=>
     conv=>whnf
     have hkk:(hdN xs[k]).k=(hdN n).k:=by rw[tP.1 hsm]
     exact hQ k _ hk fun _=>hkk
    |false=>
     conv=>whnf
     rw[e];exact I5 hS hS' T c0 i n lo xs ks _ _ vh vn hx N A Q hQ (m-1) (k+1) (by omega) (by omega)
   ·have hlt:k=xs.length:=by have:=of_decide_eq_false c1;simp at this;omega
    conv=>whnf
    exact hQ k _ hk (fun h=>by omega)
termination_by m=>m
decreasing_by all_goals omega
structure HdI(t:List Nd)(i:Nat)(xs:List Nd):Prop where
 len:xs.length<=i
 a:1<=i->1<=xs.length/\∀(h:0<xs.length) (h':0<t.length),(xs[0]'h).k=(t[0]'h').k
 b:2<=i->2<=xs.length
theorem HdI.more{t:List Nd}{i:Nat}{xs:List Nd}(H:HdI t i xs)(hi:i<t.length):HdI t (i+1) (xs++[t[i]]):=by
 have h1:=H.len;refine⟨by simp;omega,fun _=>⟨by simp,fun h h'=>?_⟩,fun h=>?_⟩
 ·by_cases h0:1<=i
  ·obtain⟨a1,a2⟩:=H.a h0;rw[List.getElem_append_left (by omega)]
   exact a2 (by omega) h'
  ·have e:i=0:=by omega
   subst e;have e:xs=[]:=List.eq_nil_of_length_eq_zero (by omega)
   subst e;rfl
 ·have:=(H.a (by omega)).1
  simp;omega
theorem HdI.same{t:List Nd}{i k:Nat}{xs:List Nd}(H:HdI t i xs)(hi:i<t.length)(hne:∀h:1<t.length,t[1].k≠(t[0]'(by omega)).k)(hk:k<xs.length)(he:xs[k].k=t[i].k):HdI t (i+1) xs:=by
 have h1:=H.len;obtain⟨a1,a2⟩:=H.a (by omega)
 refine⟨by omega,fun _=>⟨a1,a2⟩,fun h=>?_⟩
 by_cases h2:2<=i
 ·exact H.b h2
 ·have e:i=1:=by omega
  subst e;have e:k=0:=by omega
  subst e;exact absurd (he.symm.trans (a2 (by omega) (by omega))) (hne hi)
theorem aQ.blk{α:Type}{enc:α->List V}{es:Nat}{ty:TypeId}{lo:Nat}{vh:VH}{nx:Nat}{v:V}{xs:List α}(A:aQ enc es ty lo vh nx v xs)(c:Nat)(h:aR v c):lo<=c/\c<nx:=by
 rcases A with⟨rfl|rfl,_⟩|⟨b,h1,h2,rfl,_⟩
 ·exact h.elim
 ·exact h.elim
 ·have h:c=b:=h;subst h;exact⟨h1,h2⟩
theorem OT(a:Int):(eR a).length=1:=rfl
set_option maxHeartbeats 1000000 in
theorem CL(hS:X jE=none)(hS':X l5=none)(t:List Nd)(ht:t.length<=32)(hne:∀h:1<t.length,t[1].k≠(t[0]'(by omega)).k)(c0:Option Nat)(lo:Nat)(vh0:VH)(Q:FQ)
  (hQ:∀nv av xs ks vh vn i b,HdI t t.length xs->aQ gF 7 cS lo vh vn nv xs->aQ eR 1 b9 lo vh vn av ks->lo<=vn->(∀c,c<lo->vh c=vh0 c)->Q (.exit 0) [(0,.sl 7 (t.map aO) c0),(4,nv),(5,av),(6,.int .i64 i),(12,.bool b)] vh vn):
  ∀(m i:Nat),t.length-i=m->i<=t.length->∀(xs:List Nd) (ks:List Int) (nv av:V) (vh:VH) (vn:Nat),HdI t i xs->ks.length=i->aQ gF 7 cS lo vh vn nv xs->aQ eR 1 b9 lo vh vn av ks->(∀c,aR nv c->¬aR av c)->lo<=vn->(∀c,c<lo->vh c=vh0 c)->
  aC Tryz.prog X G (.loop MO) [(0,.sl 7 (t.map aO) c0),(4,nv),(5,av),(6,.int .i64 (i:Int))] vh vn Q
 |m,i,hm,hi,xs,ks,nv,av,vh,vn,I,hks,N,A,hd,hlo,F=>by
  have hlen:Int.ofNat (t.map aO).length=(t.length:Int):=by simp
  have hxl:=I.len;have bN:=aQ.blk N;have bA:=aQ.blk A;refine aC.round ?_;rcases id N with⟨h1|h1,h2⟩|⟨b,hb1,hb2,h1,hb4⟩<;>rcases id A with⟨g1|g1,g2⟩|⟨a,ha1,ha2,g1,ha4⟩<;>subst h1<;>subst g1
  all_goals
   conv=>whnf
   rw[hlen];refine aB.mk (fun c1=>?_) (fun c1=>?_)
   ·have hlt:i<t.length:=by have:=of_decide_eq_true c1;omega
    have e:wr .i64 ((i:Int)+1)=((i+1:Nat):Int):=by rw[aF]<;>omega
    conv=>whnf
    refine Get.mk (i,aO t[i]) ⟨rfl,by simp[hlt]⟩ ?_
    conv=>whnf
    refine Get.mk (i,aO t[i]) ⟨rfl,by simp[hlt]⟩ ?_
    conv=>whnf
    refine Get.mk (i,aO t[i]) ⟨rfl,by simp[hlt]⟩ ?_
    conv=>whnf
    refine Get.mk (i,aO t[i]) ⟨rfl,by simp[hlt]⟩ ?_
    conv=>whnf
    refine I5 hS hS' (t.map aO) c0 i t[i] lo xs ks _ _ vh vn (by omega) N A _ (fun k b hk hkk=>?_) _ 0 rfl (Nat.zero_le _)
    conv=>whnf
    by_cases hc:k=xs.length
    ·first
      |refine aB.mk (fun _=>?_) (fun h=>by have q:=of_decide_eq_false h;rw[hc] at q;(try rw[h2] at q);exact (q rfl).elim)
      |skip
     conv=>whnf
     refine aQ.app' (enc:=gF) vZ (by decide) N hlo t[i] ⟨?_,?_⟩ fun vh1 q1 f1=>?_
     ·omega
     ·show _<9223372036854775808;omega
     have A1:aQ eR 1 b9 lo vh1 (vn+1) _ ks:=A.mono (by omega) fun c _ hc hb=>f1 c (by omega) fun h=>hd c h hb
     conv=>whnf
     refine aQ.app' (enc:=eR) OT (by decide) A1 (by omega) (k:Int) ⟨?_,?_⟩ fun vh2 q2 f2=>?_
     ·omega
     ·show _<9223372036854775808;omega
     conv=>whnf
     rw[e];refine CL hS hS' t ht hne c0 lo vh0 Q hQ (m-1) (i+1) (by omega) (by omega) (xs++[t[i]]) (ks++[(k:Int)]) _ _ vh2 (vn+1+1) (I.more hlt) (by simp[hks]) (.inr ⟨vn,hlo,by omega,rfl,(f2 vn (by omega) fun h=>by have:=(bA _ h).2;omega).trans q1⟩) (.inr ⟨vn+1,by omega,by omega,rfl,q2⟩) (fun c x y=>?_) (by omega) (fun c hc=>(f2 c (by omega) fun h=>by have:=(bA _ h).1;omega).trans ((f1 c (by omega) fun h=>by have:=(bN _ h).1;omega).trans (F c hc)))
     have x:c=vn:=x;have y:c=vn+1:=y;omega
    ·have hkl:k<xs.length:=by omega
     first
      |refine aB.mk (fun h=>by first|(rw[h2] at hkl;exact absurd hkl (Nat.not_lt_zero _))|(have q:(k:Int)=(xs.length:Int):=of_decide_eq_true h;omega)) (fun _=>?_)
      |skip
     conv=>whnf
     refine aQ.app' (enc:=eR) OT (by decide) A hlo (k:Int) ⟨?_,?_⟩ fun vh2 q2 f2=>?_
     ·omega
     ·show _<9223372036854775808;omega
     conv=>whnf
     rw[e];refine CL hS hS' t ht hne c0 lo vh0 Q hQ (m-1) (i+1) (by omega) (by omega) xs (ks++[(k:Int)]) _ _ vh2 (vn+1) (I.same hlt hne hkl (hkk hkl)) (by simp[hks]) (N.mono (by omega) fun c _ hc hb=>f2 c (by omega) (hd c hb)) (.inr ⟨vn,hlo,by omega,rfl,q2⟩) (fun c x y=>?_) (by omega) (fun c hc=>(f2 c (by omega) fun h=>by have:=(bA _ h).1;omega).trans (F c hc))
     have:=(bN _ x).2;have y:c=vn:=y;omega
   ·have hlt:i=t.length:=by have:=of_decide_eq_false c1;omega
    subst hlt
    conv=>whnf
    exact hQ _ _ xs ks vh vn _ _ I N A hlo F
termination_by m=>m
decreasing_by all_goals omega
theorem VM(hS:X jE=none)(hS':X l5=none)(hX:X uP=none)(t:List Nd)(ht:t.length<=32)(h2:2<=t.length)(hne:∀h:1<t.length,t[1].k≠(t[0]'(by omega)).k)(c0:Option Nat)(vh:VH)(vn:Nat):
  aE Tryz.prog X G uP [.sl 7 (t.map aO) c0] vh vn fun v vh' vn'=>vn<=vn'/\(∀c,c<vn->vh' c=vh c)/\∃b s av ks,v=.tup [.msl b 0 s 7 none,av]/\2<=s/\s<=32/\aQ eR 1 b9 vn vh' vn' av ks:=by
 apply aDx.run hX
 conv=>whnf
 refine CL hS hS' t ht hne c0 vn vh _ (fun nv av xs ks vh1 n1 i b I N A hlo F=>?_) t.length 0 rfl (Nat.zero_le _) [] [] .nils .nils vh vn ⟨Nat.le_refl _,nofun,nofun⟩ rfl aQ.nil aQ.nil (fun c h=>h.elim) (Nat.le_refl _) (fun _ _=>rfl);have hl:=I.len;have hb:=I.b h2;rcases id N with⟨q1|q1,q2⟩|⟨b,hb1,hb2,q1,hb4⟩
 ·rw[q2] at hb;exact absurd hb (by decide)
 ·rw[q2] at hb;exact absurd hb (by decide)
 ·subst q1;rcases id A with⟨g1|g1,g2⟩|⟨a,ha1,ha2,g1,ha4⟩<;>subst g1
  all_goals
   conv=>whnf
   exact Get.mk _ (fun _ _ h=>h) ⟨hlo,F,b,xs.length,_,ks,rfl,hb,by omega,A⟩
end
section
variable {X : Ovr} {G : Gt}
theorem JX(vh:VH)(vn:Nat)(Q:FQ):∀(m c n:Nat),n<2^m->c+m<=8->
  (∀(w:Nat) b,c<=w->(1<=n->c+1<=w)->w<=8->Q (.exit 0) [(0,.int .u64 0),(3,.int .i64 (w:Int)),(5,.bool b)] vh vn)->
  aC Tryz.prog X G (.loop EN) [(0,.int .u64 (n:Int)),(3,.int .i64 (c:Int))] vh vn Q
 |m,c,n,hm,hc,hQ=>by
  refine aC.round ?_
  conv=>whnf
  refine aB.mk (fun c1=>?_) (fun c1=>?_)
  ·have h1:0<n:=by have:=of_decide_eq_true c1;omega
   have e:wr .i64 ((c:Int)+1)=((c+1:Nat):Int):=by rw[aF]<;>omega
   have es:((n:Int)>>>(1:Nat))=((n / 2:Nat):Int):=by show ((n>>>1:Nat):Int)=_;rw[Nat.shiftRight_eq_div_pow]
   have em:2^m=2*2^(m-1):=by
    cases m with
    |zero=>omega
    |succ m=>rw[Nat.pow_succ,Nat.add_sub_cancel];omega
   have hm1:1<=m:=by
    cases m with
    |zero=>simp at hm;omega
    |succ m=>omega
   conv=>whnf
   refine Get.mk 1 rfl ?_
   conv=>whnf
   rw[e];refine (show aC Tryz.prog X G (.loop EN) [(0,.int .u64 ((n:Int)>>>(1:Nat))),(3,.int .i64 ((c+1:Nat):Int))] vh vn Q from ?_);rw[es];exact JX vh vn Q (m-1) (c+1) (n / 2) (by omega) (by omega) fun w b h0 h1 h2=>hQ w b (by omega) (by omega) h2
  ·have h1:n=0:=by have:=of_decide_eq_false c1;omega
   subst h1
   conv=>whnf
   exact hQ c _ (by omega) (by omega) (by omega)
termination_by m=>m
decreasing_by omega
theorem zK(hX:X j2=none)(n:Nat)(hn:n<256)(vh:VH)(vn:Nat):
  aE Tryz.prog X G j2 [.int .u64 (n:Int)] vh vn fun v vh' vn'=>vh'=vh/\vn'=vn/\∃w:Nat,v=.int .i64 (w:Int)/\w<=8/\(1<=n->1<=w):=by
 apply aES.run hX
 conv=>whnf
 refine JX vh vn _ 8 0 n hn (by omega) fun w b _ h1 h2=>?_
 conv=>whnf
 exact Get.mk _ (fun _ _ h=>h) ⟨rfl,rfl,w,rfl,h2,fun h=>by have:=h1 h;omega⟩
end
section
variable {X : Ovr} {G : Gt}
theorem VQ(hX:X j2=none)(hX2:X q9=none)(n s:Nat)(hn:n<=32)(hs:2<=s)(hs2:s<=64)(vh:VH)(vn:Nat):
  aE Tryz.prog X G q9 [.int .i64 (n:Int),.int .i64 (s:Int)] vh vn fun v vh' vn'=>vh'=vh/\vn'=vn/\∃m:Nat,v=.int .i64 (m:Int)/\3*n<=m/\m<=10*n:=by
 have e1:wr .i64 (max (s:Int) 1-1)=((s-1:Nat):Int):=by rw[aF]<;>omega
 have e2:wr .u64 ((s-1:Nat):Int)=((s-1:Nat):Int):=by rw[dA]<;>omega
 have e3:wr .i64 (2*max (n:Int) 0)=((2*n:Nat):Int):=by rw[aF]<;>omega
 apply aDy.run hX2
 conv=>whnf
 rw[e1,e2,e3];refine (zK hX (s-1) (by omega) vh vn).mono fun v vh' vn' he=>?_
 obtain⟨q1,q2,w,q3,q4,q5⟩:=he;rw[q1,q2,q3];clear q1 q2 q3;have h1:=q5 (by omega)
 have m1:n*1<=n*w:=Nat.mul_le_mul_left n h1;have m2:n*w<=n*8:=Nat.mul_le_mul_left n q4;have e4:wr .i64 (max (n:Int) 0*w)=((n*w:Nat):Int):=by rw[show max (n:Int) 0*w=((n*w:Nat):Int) by rw[show max (n:Int) 0=n by omega];simp,aF]<;>omega
 have e5:wr .i64 (((2*n:Nat):Int)+((n*w:Nat):Int))=((2*n+n*w:Nat):Int):=by rw[aF]<;>omega
 conv=>whnf
 rw[e4,e5];exact Get.mk _ (fun _ _ h=>h) ⟨rfl,rfl,2*n+n*w,rfl,by omega,by omega⟩
theorem V3(hX:X j2=none)(hX2:X q9=none)(hX3:X uR=none)(n s:Nat)(hn:n<=32)(hs:2<=s)(hs2:s<=64)(vh:VH)(vn:Nat):
  aE Tryz.prog X G uR [.int .i64 (n:Int),.int .i64 (s:Int)] vh vn fun v vh' vn'=>vh'=vh/\vn'=vn/\∃m:Int,v=.int .i64 m/\2*n+600<=m:=by
 have e1:wr .i64 (max (s:Int) 1-1)=((s-1:Nat):Int):=by rw[aF]<;>omega
 have e2:wr .u64 ((s-1:Nat):Int)=((s-1:Nat):Int):=by rw[dA]<;>omega
 apply aEA.run hX3
 conv=>whnf
 refine (VQ hX hX2 n s hn hs hs2 vh vn).mono fun v vh' vn' he=>?_;obtain⟨q1,q2,m,q3,q4,q5⟩:=he;rw[q1,q2,q3];clear q1 q2 q3
 conv=>whnf
 repeat (refine Owe.mk (by decide) ?_;conv=>whnf)
 rw[e1,e2];refine (zK hX (s-1) (by omega) vh vn).mono fun v vh' vn' he=>?_
 obtain⟨q1,q2,w,q3,w4,w5⟩:=he;rw[q1,q2,q3];clear q1 q2 q3;have h1:=w5 (by omega)
 conv=>whnf
 refine Get.mk _ (fun _ _ h=>h) ⟨rfl,rfl,_,rfl,?_⟩;have t1:wr .i64 ((m:Int).tdiv 2)=((m / 2:Nat):Int):=by rw[show (m:Int).tdiv 2=((m / 2:Nat):Int) from rfl,aF]<;>omega
 have t2:wr .i64 (200*(w:Int))=200*(w:Int):=by rw[aF]<;>omega
 have t3:wr .i64 ((m:Int)+((m / 2:Nat):Int))=(m:Int)+((m / 2:Nat):Int):=by rw[aF]<;>omega
 have t4:wr .i64 ((m:Int)+((m / 2:Nat):Int)+200*(w:Int))=(m:Int)+((m / 2:Nat):Int)+200*(w:Int):=by rw[aF]<;>omega
 rw[t1,t2,t3,t4,aF]<;>omega
theorem UR(hX:X j2=none)(hX3:X uO=none)(n s:Nat)(hn:n<=32)(hs2:s<=64)(vh:VH)(vn:Nat):
  aE Tryz.prog X G uO [.int .i64 (n:Int),.int .i64 (s:Int)] vh vn fun v vh' vn'=>vh'=vh/\vn'=vn/\∃m:Int,v=.int .i64 m/\80<=m:=by
 apply aDw.run hX3
 conv=>whnf
 have e1:wr .u64 (wr .i64 (2*max (n:Int) 0))=((2*n:Nat):Int):=by rw[aF,dA]<;>omega
 rw[e1];refine (zK hX (2*n) (by omega) vh vn).mono fun v vh' vn' he=>?_
 obtain⟨q1,q2,w,q3,w4,w5⟩:=he;rw[q1,q2,q3];clear q1 q2 q3
 conv=>whnf
 have e2:wr .u64 (max (s:Int) 1)=((max s 1:Nat):Int):=by rw[dA]<;>omega
 rw[e2];refine (zK hX (max s 1) (by omega) vh vn).mono fun v vh' vn' he=>?_
 obtain⟨q1,q2,w',q3,x4,x5⟩:=he;rw[q1,q2,q3];clear q1 q2 q3
 conv=>whnf
 refine Get.mk _ (fun _ _ h=>h) ⟨rfl,rfl,_,rfl,?_⟩;have t1:wr .i64 ((w:Int)+w')=(w:Int)+w':=by rw[aF]<;>omega
 have t2:wr .i64 ((w:Int)+w'+2)=(w:Int)+w'+2:=by rw[aF]<;>omega
 rw[t1,t2,aF]<;>omega
end
section
attribute [local irreducible] aM wd aZ aN pc cX bL rkN cK dF ex upN gE pX clB opB dM
variable {X : Ovr} {G : Gt}
theorem IJ:∀(k:Nat) (l:List Nat),(kM k l).length=k
 |0,_=>rfl
 |k+1,l=>by simp only[kM,List.length_cons,IJ k]
theorem aJi:∀n,n<32->hY n<=5:=by decide+kernel
theorem Made.two{t:List Nd}(M:Made t):2<=t.length/\∀h:1<t.length,t[1].k≠(t[0]'(by omega)).k:=by
 have h:=M.may
 match t,h with
 |[n],h=>simp[gI,gJ] at h
 |n::a::l,h=>
  refine⟨by simp,fun _=>?_⟩
  simp only[gI,Bool.and_eq_true,decide_eq_true_eq] at h;obtain⟨⟨_,h1⟩,h2⟩:=h;have hn:=tP.1 h1;subst hn;show a.k≠1;intro hk;simp only[gJ] at h2;split at h2
  ·cases h2
  ·split at h2
   ·cases h2
   ·rename_i s hs;unfold gM at hs;rw[if_neg (by omega)] at hs
    have hp:kH a=false:=by
     unfold kH;split
     ·rfl
     ·rw[if_neg (by omega),if_neg (by omega),if_neg (by omega)]
    rw[if_pos hp] at hs;cases hs
theorem W9{PN:List Nat->List Nat->Prop}{PV PT:List Nat->Prop}(B:IT X G PN PV PT)(S:XSp X)(told:∀vh vn,aE Tryz.prog X G yA [] vh vn fun v vh' vn'=>v=.bool true/\vh'=vh/\vn'=vn)(hX:X CJ=none)(hH:X uP=none)(hW:X j2=none)(hL:X q9=none)(hM:X uR=none)(hB:X uO=none)(ls:List Int)(k:Int)(vh:VH)(vn:Nat):
  aE Tryz.prog X G CJ [.sl 1 (ls.map eR) none,.int .i64 k] vh vn fun v _ _=>v=.bool true:=by
 apply aD2.run hX
 conv=>whnf
 refine (VY B.K ls vh vn).mono fun v vh1 n1 he=>?_;obtain⟨_,_,t,e3,M⟩:=he;rw[e3];clear e3;have hR:=M.rooted;have hs:=M.steps;have hl:=M.len;obtain⟨ht2,hne⟩:=M.two;have hlen:Int.ofNat (t.map aO).length=(t.length:Int):=by simp
 conv=>whnf
 refine (V7 B.H.toXNew B.lib t (M.treeB B.hM) none vh1 n1).mono fun v vh2 n2 he=>?_;obtain⟨bd,bp,bw,bn,e1,N,_,_,_,hbd⟩:=he;rw[e1];clear e1;obtain⟨x,y,hd⟩:=N.d;obtain⟨ps,hp⟩:=N.p;obtain⟨rv,lo,hw,hr⟩:=N.w;obtain⟨hh1,hh2,hh3,hh4,hh5⟩:=GB t [];have hsg:(cM [] t).1.length<=32:=by simp at hh3;omega
 have hR5:=aJi ((cM [] t).1.length-1) (by omega)
 generalize hRR:hY ((cM [] t).1.length-1)=R at hr hR5;have hrv:DA rv R:=by
  rcases hr with⟨r1,r2⟩|⟨b,_,_,r1,_⟩
  ·have:=congrArg List.length r2;rw[IJ] at this;exact .inl ⟨r1,this⟩
  ·rw[IJ] at r1;exact .inr ⟨b,r1⟩
 conv=>whnf
 refine (VM B.K.toXM.same B.K.toXM.samend hH t hl ht2 hne none vh2 n2).mono fun v vh3 n3 he=>?_;obtain⟨hn3,F3,hb,sg,av,ks,e3,s1,s2,A⟩:=he;rw[e3];clear e3;have D:DW vh3 bd bp bw (dM t 0) t.length R:=⟨⟨_,_,_,(F3 bd hbd).trans hd⟩,⟨ps,0,(F3 bp N.lp).trans hp,by omega,by omega⟩,⟨rv,_,(F3 bw N.lw).trans hw,hrv⟩,N.dp,Ne.symm N.pw⟩
 have hsl:=aIx hs;have eL:wr .u64 (Int.ofNat (t.map aO).length)=(t.length:Int):=by rw[hlen,dA]<;>omega
 obtain⟨u,hu⟩:∃u:Nat,wr .u64 k=(u:Int):=⟨(wr .u64 k).toNat,by have:=(kN (x:=k)).1;omega⟩
 have hum:=Nat.mod_lt u (show 0<t.length by omega)
 have eI:wr .i64 ((u:Int).tmod (t.length:Int))=((u%t.length:Nat):Int):=by rw[show (u:Int).tmod (t.length:Int)=((u%t.length:Nat):Int) from rfl,aF]<;>omega
 rcases id A with⟨g1|g1,g2⟩|⟨a,ha1,ha2,g1,ha4⟩<;>subst g1
 all_goals
  conv=>whnf
  rw[eL,hu];refine Owe.mk (by omega) ?_
  conv=>whnf
  rw[eI];refine (W8 B.H S B.hG (by omega) t.length R (u%t.length) D).mono fun v vh4 n4 he=>?_
  obtain⟨e1,D4,F4,m,e3,m0,m1⟩:=he;rw[e1,e3];clear e1 e3
  conv=>whnf
  refine (told vh4 n3).mono fun v vh' vn' he=>?_;obtain⟨e1,e2,e3⟩:=he;rw[e1,e2,e3];clear e1 e2 e3
  conv=>whnf
  refine (W7 B.H S (by omega) hl (by omega) hsl D4).mono fun v vh' vn' he=>?_
  obtain⟨e1,e2,e3⟩:=he;rw[e1,e2,e3];clear e1 e2 e3
  conv=>whnf
  rw[hlen];refine (V3 hW hL hM t.length sg hl s1 (by omega) vh4 n3).mono fun v vh' vn' he=>?_
  obtain⟨e1,e2,q,e3,hq⟩:=he;rw[e1,e2,e3];clear e1 e2 e3
  conv=>whnf
  refine aB.mk (fun _=>?_) (fun h=>absurd (of_decide_eq_false h) (by omega))
  conv=>whnf
  refine aB.mk (fun _=>?_) (fun h=>absurd (of_decide_eq_false h) (by omega))
  conv=>whnf
  rw[hlen];refine (UR hW hB t.length sg hl (by omega) vh4 n3).mono fun v vh' vn' he=>?_
  obtain⟨e1,e2,q2,e3,hq2⟩:=he;rw[e1,e2,e3];clear e1 e2 e3
  conv=>whnf
  refine Get.mk _ (fun _ _ h=>h) ?_;have hmq:decide (m<=q2)=true:=decide_eq_true (by omega)
  show V.bool _=V.bool true;simp[hmq]
end
section
open Go Go.Ev Go.VL Go.Lib
theorem X3(m:Int):XSp (ovr (XN2 m)):=by repeat' (first|exact rfl|constructor)
theorem aB0 (W : World) (hsh : W.ShapedOpen Tryz.prog) (hD : VarReads Tryz.prog W "math/bits.deBruijn64tab" (tabData .u8 dbZ)) (h0 : VarReads Tryz.prog W "unicode/utf8.first" firstData) (h1 : VarReads Tryz.prog W "unicode/utf8.acceptRanges" acceptData) {v : Value} {ls : List Int} (hv : vB W v ls) (n : Int) :
  Calls Tryz.prog 6 #[v,.int .i64 n] W fun e w'=>e=.returned (.bool true)/\Go.RowKit.Below W.heap.size W w':=by
 obtain⟨m,σ,h,nx,u,S,hd,hr⟩:=aJO hsh hD h0 h1 hv;exact aJ7 (args:=[v,.int .i64 n]) (X2 m) N9 Tryz.func6 (c:=Tryz.f6.body.getD .skip) (by kernel_rfl) S.rh S.bd S.gl S.ro S.gt (vs:=[.sl 1 (ls.map eR) none,.int .i64 n]) (us:=[u,.int .i64 n]) (vn:=0) (.cons _ _ _ _ hd (.cons _ _ _ _ (.int _ _) .nil)) (.cons _ _ _ _ hr (.cons _ _ _ _ (.int _ _) .nil)) (W9 (YM m) (X3 m) (aJ5 m (FZ m)) rfl rfl rfl rfl rfl rfl ls n _ 0)
end
end Go.Proofs.YtjoadepfokpcoaaGreatDoor
