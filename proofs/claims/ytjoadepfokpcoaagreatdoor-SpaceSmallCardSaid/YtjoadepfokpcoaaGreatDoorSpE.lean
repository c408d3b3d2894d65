/- What SpaceSmall rests on; no condition. -/
import Derived.Test.YtjoadepfokpcoaaGreatDoorSpD
set_option linter.unusedSimpArgs false
set_option linter.unusedVariables false
set_option linter.constructorNameAsVariable false
set_option linter.unnecessarySimpa false
open Go Go.Ev Go.VL
namespace Go.Proofs.YtjoadepfokpcoaaGreatDoor
section
attribute [local irreducible] aM declares hZ
variable {X : Ovr} {G : Gt}
set_option maxHeartbeats 4000000 in
theorem DE(H:XS X)(b:Nat)(bv:Nat)(tv:TypeId)(xs:List aA)(hxs:xs.length<2^30)(lo:Nat)(hbv:bv<lo)(Q:FQ):∀(m i:Nat),xs.length-i=m->i<=xs.length->∀(vh:VH) (vn:Nat) (mv:V) (ms:List aA),vh bv=some (.cells (xs.map encA).flatten tv 0 false)->lo<=vn->dP lo vh vn mv ms->ms.length<=i->
  (fI ms (xs.drop i)=none->∀vh' vn',vn<=vn'->(∀c,c<lo->vh' c=vh c)->Q .ret [(4,.int .i64 2)] vh' vn')->
  (∀ms',fI ms (xs.drop i)=some ms'->∀mv' vh' vn' i' t,ms'.length<=xs.length->dP lo vh' vn' mv' ms'->vn<=vn'->(∀c,c<lo->vh' c=vh c)->Q (.exit 0) [(0,.ptr b 0),(5,mv'),(12,.msl bv 0 xs.length 4 none),(13,.int .i64 (xs.length:Int)),(14,.int .i64 i'),(15,.bool t)] vh' vn')->
  aC Tryz.prog X G (.loop EU) [(0,.ptr b 0),(5,mv),(12,.msl bv 0 xs.length 4 none),(13,.int .i64 (xs.length:Int)),(14,.int .i64 (i:Int))] vh vn Q
 |m,i,hm,hi,vh,vn,mv,ms,hvb,hlo,A,hms,hR,hQ=>by
  refine aC.round ?_;have hcon:=fun a vh vn hv=>CG (G:=G) H.index H.contains (bW a) pP [.fp (encA a) 0] (fun b vh vn=>SB H.c1 a b vh vn) mv ms (by omega) vh vn hv
  rcases id A with⟨rfl|rfl,rfl⟩|⟨bm,hb1,hb2,rfl,hb4⟩
  all_goals
   conv=>whnf
   refine aB.mk (fun h1=>?_) (fun h1=>?_)
   ·have hlt:i<xs.length:=by simp at h1;omega
    have hd:xs.drop i=xs[i]::xs.drop (i+1):=(List.getElem_cons_drop hlt).symm;rw[hd] at hR hQ;simp only[fI] at hR hQ;have e:wr .i64 ((i:Int)+1)=((i+1:Nat):Int):=by rw[aF]<;>omega
    conv=>whnf
    refine Get.mk i ⟨rfl,hlt⟩ ?_
    conv=>whnf
    refine Get.mk (_,_,_,_) hvb ?_
    conv=>whnf
    refine Get.mk _ (mP hlt) ?_
    conv=>whnf
    refine (HU H.declares xs[i] vh vn).mono fun v vh' vn' he=>?_;obtain⟨e1,e2,e3⟩:=he;rw[e1,e2,e3];clear e1 e2 e3
    conv=>whnf
    refine aB.mk (fun h2=>?_) (fun h2=>?_)
    ·have h2':(declares xs[i]).2=false:=by simpa using h2
     simp only[h2',Bool.false_eq_true,if_false] at hR hQ
     conv=>whnf
     rw[e];exact DE H b bv tv xs hxs lo hbv Q (m-1) (i+1) (by omega) (by omega) vh vn _ _ hvb hlo A (by omega) hR hQ
    ·have h2':(declares xs[i]).2=true:=by simpa using h2
     simp only[h2',if_true] at hR hQ
     conv=>whnf
     refine (UI H.wrong xs[i] vh vn).mono fun v vh' vn' he=>?_;obtain⟨e1,e2,e3⟩:=he;rw[e1,e2,e3];clear e1 e2 e3
     conv=>whnf
     refine aB.mk (fun h3=>?_) (fun h3=>?_)
     ·conv=>whnf
      exact hR (by rw[if_pos h3]) vh vn (Nat.le_refl _) fun _ _=>rfl
     ·have h3':¬hZ xs[i]=true:=by rw[h3];exact Bool.false_ne_true
      rw[if_neg h3'] at hR;simp only[if_neg h3'] at hQ
      conv=>whnf
      refine (hcon xs[i] vh vn (.inl A.r)).mono fun v vh' vn' he=>?_;obtain⟨e1,e2,e3⟩:=he;generalize List.any _ (bW xs[i])=q at e3 hR hQ;rw[e1,e2,e3];clear e1 e2 e3 hcon
      conv=>whnf
      refine aB.mk (fun h4=>?_) (fun h4=>?_)
      ·have h4:q=true:=h4
       conv=>whnf
       exact hR (by rw[if_pos h4]) vh vn (Nat.le_refl _) fun _ _=>rfl
      ·have h4:q=false:=h4;simp only[h4,Bool.false_eq_true,if_false] at hR hQ
       conv=>whnf
       refine aQ.app cV (by decide) A hlo xs[i] ⟨?_,?_⟩ fun vh' A' hf=>?_
       ·omega
       ·show _<9223372036854775808;omega
       have hf':∀c,c<lo->vh' c=vh c:=fun c hc=>hf c (by omega) (by first|exact fun h=>h|exact fun (h:c=bm)=>by omega)
       conv=>whnf
       rw[e];refine DE H b bv tv xs hxs lo hbv Q (m-1) (i+1) (by omega) (by omega) vh' (vn+1) _ _ ((hf' bv hbv).trans hvb) (by omega) A' (by rw[List.length_append,List.length_singleton];omega) (fun h vh2 vn2 g2 f2=>hR h vh2 vn2 (by omega) fun c hc=>(f2 c hc).trans (hf' c hc)) (fun ms' h mv2 vh2 vn2 i2 t2 l2 A2 g2 f2=>hQ ms' h mv2 vh2 vn2 i2 t2 l2 A2 (by omega) fun c hc=>(f2 c hc).trans (hf' c hc))
   ·have hlt:i=xs.length:=by simp at h1;omega
    rw[hlt,List.drop_length] at hQ
    conv=>whnf
    exact hQ _ rfl _ _ _ _ _ (by omega) A (Nat.le_refl _) fun _ _=>rfl
termination_by m=>m
decreasing_by all_goals omega
set_option maxHeartbeats 4000000 in
theorem DD(H:XS X)(b:Nat)(c:Option Nat)(xs:List aA)(hxs:xs.length<2^30)(lo:Nat)(Q:FQ):∀(m i:Nat),xs.length-i=m->i<=xs.length->∀(vh:VH) (vn:Nat) (mv:V) (ms:List aA),lo<=vn->dP lo vh vn mv ms->ms.length<=i->
  (fI ms (xs.drop i)=none->∀vh' vn',vn<=vn'->(∀c,c<lo->vh' c=vh c)->Q .ret [(4,.int .i64 2)] vh' vn')->
  (∀ms',fI ms (xs.drop i)=some ms'->∀mv' vh' vn' i' t,ms'.length<=xs.length->dP lo vh' vn' mv' ms'->vn<=vn'->(∀c,c<lo->vh' c=vh c)->Q (.exit 0) [(0,.ptr b 0),(5,mv'),(12,.sl 4 (xs.map encA) c),(13,.int .i64 (xs.length:Int)),(14,.int .i64 i'),(15,.bool t)] vh' vn')->
  aC Tryz.prog X G (.loop EU) [(0,.ptr b 0),(5,mv),(12,.sl 4 (xs.map encA) c),(13,.int .i64 (xs.length:Int)),(14,.int .i64 (i:Int))] vh vn Q
 |m,i,hm,hi,vh,vn,mv,ms,hlo,A,hms,hR,hQ=>by
  refine aC.round ?_;have hcon:=fun a vh vn hv=>CG (G:=G) H.index H.contains (bW a) pP [.fp (encA a) 0] (fun b vh vn=>SB H.c1 a b vh vn) mv ms (by omega) vh vn hv
  rcases id A with⟨rfl|rfl,rfl⟩|⟨bm,hb1,hb2,rfl,hb4⟩
  all_goals
   conv=>whnf
   refine aB.mk (fun h1=>?_) (fun h1=>?_)
   ·have hlt:i<xs.length:=by simp at h1;omega
    have hd:xs.drop i=xs[i]::xs.drop (i+1):=(List.getElem_cons_drop hlt).symm;rw[hd] at hR hQ;simp only[fI] at hR hQ;have e:wr .i64 ((i:Int)+1)=((i+1:Nat):Int):=by rw[aF]<;>omega
    conv=>whnf
    refine Get.mk (i,encA xs[i]) ⟨rfl,by simp[hlt]⟩ ?_
    conv=>whnf
    refine (HU H.declares xs[i] vh vn).mono fun v vh' vn' he=>?_;obtain⟨e1,e2,e3⟩:=he;rw[e1,e2,e3];clear e1 e2 e3
    conv=>whnf
    refine aB.mk (fun h2=>?_) (fun h2=>?_)
    ·have h2':(declares xs[i]).2=false:=by simpa using h2
     simp only[h2',Bool.false_eq_true,if_false] at hR hQ
     conv=>whnf
     rw[e];exact DD H b c xs hxs lo Q (m-1) (i+1) (by omega) (by omega) vh vn _ _ hlo A (by omega) hR hQ
    ·have h2':(declares xs[i]).2=true:=by simpa using h2
     simp only[h2',if_true] at hR hQ
     conv=>whnf
     refine (UI H.wrong xs[i] vh vn).mono fun v vh' vn' he=>?_;obtain⟨e1,e2,e3⟩:=he;rw[e1,e2,e3];clear e1 e2 e3
     conv=>whnf
     refine aB.mk (fun h3=>?_) (fun h3=>?_)
     ·conv=>whnf
      exact hR (by rw[if_pos h3]) vh vn (Nat.le_refl _) fun _ _=>rfl
     ·have h3':¬hZ xs[i]=true:=by rw[h3];exact Bool.false_ne_true
      rw[if_neg h3'] at hR;simp only[if_neg h3'] at hQ
      conv=>whnf
      refine (hcon xs[i] vh vn (.inl A.r)).mono fun v vh' vn' he=>?_;obtain⟨e1,e2,e3⟩:=he;generalize List.any _ (bW xs[i])=q at e3 hR hQ;rw[e1,e2,e3];clear e1 e2 e3 hcon
      conv=>whnf
      refine aB.mk (fun h4=>?_) (fun h4=>?_)
      ·have h4:q=true:=h4
       conv=>whnf
       exact hR (by rw[if_pos h4]) vh vn (Nat.le_refl _) fun _ _=>rfl
      ·have h4:q=false:=h4;simp only[h4,Bool.false_eq_true,if_false] at hR hQ
       conv=>whnf
       refine aQ.app cV (by decide) A hlo xs[i] ⟨?_,?_⟩ fun vh' A' hf=>?_
       ·omega
       ·show _<9223372036854775808;omega
       have hf':∀c,c<lo->vh' c=vh c:=fun c hc=>hf c (by omega) (by first|exact fun h=>h|exact fun (h:c=bm)=>by omega)
       conv=>whnf
       rw[e];refine DD H b c xs hxs lo Q (m-1) (i+1) (by omega) (by omega) vh' (vn+1) _ _ (by omega) A' (by rw[List.length_append,List.length_singleton];omega) (fun h vh2 vn2 g2 f2=>hR h vh2 vn2 (by omega) fun c hc=>(f2 c hc).trans (hf' c hc)) (fun ms' h mv2 vh2 vn2 i2 t2 l2 A2 g2 f2=>hQ ms' h mv2 vh2 vn2 i2 t2 l2 A2 (by omega) fun c hc=>(f2 c hc).trans (hf' c hc))
   ·have hlt:i=xs.length:=by simp at h1;omega
    rw[hlt,List.drop_length] at hQ
    conv=>whnf
    exact hQ _ rfl _ _ _ _ _ (by omega) A (Nat.le_refl _) fun _ _=>rfl
termination_by m=>m
decreasing_by all_goals omega
end
section
attribute [local irreducible] aM
variable {X : Ovr} {G : Gt}
theorem BG:∀(xs m ms:List aA),fI m xs=some ms->ms.length<=m.length+xs.length
 |[],m,ms,h=>by simp only[fI,Option.some.injEq] at h;subst h;simp
 |a::l,m,ms,h=>by
  simp only[fI] at h;split at h
  ·split at h
   ·cases h
   ·split at h
    ·cases h
    ·have:=BG l _ _ h;simp only[List.length_append,List.length_cons,List.length_nil] at this ⊢;omega
  ·have:=BG l _ _ h;simp only[List.length_cons];omega
theorem DX{enc:List aA->List V}{by':Nat}{ty:TypeId}{vh:VH}{nx:Nat}(a:List aA)(hroom:room by' 1){env:aH}{k:V->aH->VH->Nat->Prop}
  (hk:k (.msl nx 0 1 1 none) env (aI vh nx (.cells (enc a) ty 0 false)) (nx+1)):aM 1 by' ty .nils (enc a) 1 env vh nx k:=by
 simp only[aM]
 conv=>whnf
 exact⟨hroom,hk⟩
set_option maxHeartbeats 4000000 in
theorem zM(b:Nat)(o:Option Nat)(lv:List (List aA))(vh:VH)(vn:Nat)(hs:SP vh b o lv)(lo:Nat)(hb:b<lo)(ho:∀c,o=some c->c<lo)(hlo:lo<=vn)(hlv:lv.length<2^30)(mv:V)(ms:List aA)(A:dP lo vh vn mv ms)(tl:aH)(Q:FQ)
  (hQ:∀vh' vn' o',vn<=vn'->SP vh' b o' (lv++[ms])->(∀c,o'=some c->c<vn'/\(o=some c\/lo<=c))->(∀c,c<lo->c≠b->o≠some c->vh' c=vh c)->Q .ret [(4,.int .i64 0)] vh' vn'):
  aC Tryz.prog X G (.cut NB) ((0,.ptr b 0)::(5,mv)::tl) vh vn Q:=by
 refine aC.cut ?_;obtain⟨ty,hs⟩:=hs;cases o with
 |none=>
  obtain⟨rfl,hs⟩:=hs;have fin:∀vh1:VH,(∀c,c<lo->vh1 c=vh c)->Q .ret [(4,.int .i64 0)] (aI (aI vh1 vn (.cells (iF ms) gB 0 false)) b (.cells [.msl vn 0 1 1 none] ty 0 false)) (vn+1):=fun vh1 f1=>hQ _ _ (some vn) (by omega) ⟨ty,by omega,[],by rw[aK];rfl,by rw[aG (by omega),aK];rfl⟩ (fun c hc=>by cases hc;exact⟨by omega,.inr hlo⟩) fun c hc hcb _=>by rw[aG hcb,aG (by omega)];exact f1 c hc
  rcases id A with⟨rfl|rfl,rfl⟩|⟨bm,hb1,hb2,rfl,hb4⟩
  ·conv=>whnf
   refine Get.mk (_,_,_,_) hs ?_
   conv=>whnf
   refine Get.mk _ rfl ?_
   conv=>whnf
   refine DX (enc:=iF) ([]:List aA) ⟨by decide,by decide⟩ ?_
   conv=>whnf
   have hs1:=(aG (vh:=vh) (B:=.cells (iF []) gB 0 false) (by omega:b≠vn)).trans hs
   refine Get.mk (_,_,_,_) hs1 ?_
   conv=>whnf
   refine⟨⟨(by decide:1<=1),Nat.zero_le _⟩,?_⟩
   conv=>whnf
   exact fin vh fun _ _=>rfl
  ·conv=>whnf
   refine Get.mk (_,_,_,_) hs ?_
   conv=>whnf
   refine Get.mk _ rfl ?_
   conv=>whnf
   refine DX (enc:=iF) ([]:List aA) ⟨by decide,by decide⟩ ?_
   conv=>whnf
   have hs1:=(aG (vh:=vh) (B:=.cells (iF []) gB 0 false) (by omega:b≠vn)).trans hs
   refine Get.mk (_,_,_,_) hs1 ?_
   conv=>whnf
   refine⟨⟨(by decide:1<=1),Nat.zero_le _⟩,?_⟩
   conv=>whnf
   exact fin vh fun _ _=>rfl
  ·conv=>whnf
   refine Get.mk (_,_,_,_) hs ?_
   conv=>whnf
   refine Get.mk _ rfl ?_
   conv=>whnf
   refine Get.mk (_,_,_,_) hb4 ?_
   conv=>whnf
   refine⟨gG cV (by decide),?_⟩
   conv=>whnf
   refine Get.mk _ (eU cV) ?_
   conv=>whnf
   refine DX (enc:=iF) ms ⟨by decide,by decide⟩ ?_
   conv=>whnf
   have hs1:=(aG (vh:=bX vh bm) (B:=.cells (iF ms) gB 0 false) (by omega:b≠vn)).trans ((b5 (by omega)).trans hs)
   refine Get.mk (_,_,_,_) hs1 ?_
   conv=>whnf
   refine⟨⟨(by decide:1<=1),Nat.zero_le _⟩,?_⟩
   conv=>whnf
   exact fin (bX vh bm) fun c hc=>b5 (by omega)
 |some bl=>
  obtain⟨hne,rest,h1,h2⟩:=hs;have hbl:=ho bl rfl;have fin:∀(zs:List aA) (b':Nat) (vh2:VH) (n2:Nat) (rest':List V),(b'=bl/\n2=vn)\/(b'=vn/\n2=vn+1)->vh2 b'=some (.cells (((lv++[zs]).map iF).flatten++rest') gB 0 false)->(∀d,d<lo->d≠vn->d≠bl->vh2 d=vh d)->zs=ms->Q .ret [(4,.int .i64 0)] (aI vh2 b (.cells [.msl b' 0 (lv++[zs]).length 1 none] ty 0 false)) n2:=fun zs b' vh2 n2 rest' hb' t2 f2 hz=>by
   subst hz;have hbb:b'≠b:=by omega
   refine hQ _ _ (some b') (by omega) ⟨ty,hbb,rest',aK,by rw[aG hbb];exact t2⟩ (fun c hc=>?_) fun c hc hcb hco=>?_
   ·cases hc;rcases hb' with⟨rfl,rfl⟩|⟨rfl,rfl⟩
    ·exact⟨by omega,.inl rfl⟩
    ·exact⟨by omega,.inr hlo⟩
   ·rw[aG hcb];exact f2 c hc (by omega) fun h=>hco (by rw[h])
  rcases id A with⟨rfl|rfl,rfl⟩|⟨bm,hb1,hb2,rfl,hb4⟩
  ·conv=>whnf
   refine Get.mk (_,_,_,_) h1 ?_
   conv=>whnf
   refine Get.mk _ rfl ?_
   conv=>whnf
   refine zT (xs:=lv) sK h2 (by omega) ([]:List aA) ⟨?_,?_⟩ fun b' vh2 n2 rest' hb' t2 f2=>?_
   ·omega
   ·show _<9223372036854775808;omega
   conv=>whnf
   have hs1:=(f2 b (by omega) (Ne.symm hne)).trans h1
   refine Get.mk (_,_,_,_) hs1 ?_
   conv=>whnf
   refine⟨⟨(by decide:1<=1),Nat.zero_le _⟩,?_⟩
   conv=>whnf
   exact fin [] b' vh2 n2 rest' hb' t2 (fun d h1 h2 h3=>(f2 d h2 h3).trans rfl) rfl
  ·conv=>whnf
   refine Get.mk (_,_,_,_) h1 ?_
   conv=>whnf
   refine Get.mk _ rfl ?_
   conv=>whnf
   refine zT (xs:=lv) sK h2 (by omega) ([]:List aA) ⟨?_,?_⟩ fun b' vh2 n2 rest' hb' t2 f2=>?_
   ·omega
   ·show _<9223372036854775808;omega
   conv=>whnf
   have hs1:=(f2 b (by omega) (Ne.symm hne)).trans h1
   refine Get.mk (_,_,_,_) hs1 ?_
   conv=>whnf
   refine⟨⟨(by decide:1<=1),Nat.zero_le _⟩,?_⟩
   conv=>whnf
   exact fin [] b' vh2 n2 rest' hb' t2 (fun d h1 h2 h3=>(f2 d h2 h3).trans rfl) rfl
  ·conv=>whnf
   refine Get.mk (_,_,_,_) h1 ?_
   conv=>whnf
   refine Get.mk _ rfl ?_
   conv=>whnf
   refine Get.mk (_,_,_,_) hb4 ?_
   conv=>whnf
   refine⟨gG cV (by decide),?_⟩
   conv=>whnf
   refine Get.mk _ (eU cV) ?_
   conv=>whnf
   have h2':=(b5 (vh:=vh) (by omega:bl≠bm)).trans h2
   have h1':=(b5 (vh:=vh) (by omega:b≠bm)).trans h1
   refine zT (xs:=lv) sK h2' (by omega) (ms:List aA) ⟨?_,?_⟩ fun b' vh2 n2 rest' hb' t2 f2=>?_
   ·omega
   ·show _<9223372036854775808;omega
   conv=>whnf
   have hs1:=(f2 b (by omega) (Ne.symm hne)).trans h1'
   refine Get.mk (_,_,_,_) hs1 ?_
   conv=>whnf
   refine⟨⟨(by decide:1<=1),Nat.zero_le _⟩,?_⟩
   conv=>whnf
   exact fin ms b' vh2 n2 rest' hb' t2 (fun d h1 h2 h3=>(f2 d h2 h3).trans (b5 (by omega))) rfl
end
section
attribute [local irreducible] aM
variable {X : Ovr} {G : Gt}
structure rM(vh:VH)(vn b:Nat)(o:Option Nat)(lv:List (List aA))(xs:List aA)(r:V)(vh':VH)(vn':Nat):Prop where
 nx:vn<=vn'
 bad:fI [] xs=none->r=.int .i64 2/\∀c,c<vn->vh' c=vh c
 good:∀ms,fI [] xs=some ms->r=.int .i64 0/\∃o',SP vh' b o' (lv++[ms])/\(∀c,o'=some c->c<vn'/\(o=some c\/vn<=c))/\∀c,c<vn->c≠b->o≠some c->vh' c=vh c
theorem rM.mkBad{vh:VH}{vn b:Nat}{o:Option Nat}{lv:List (List aA)}{xs:List aA}{vh':VH}{vn':Nat}(h:fI [] xs=none)(g:vn<=vn')(f:∀c,c<vn->vh' c=vh c):rM vh vn b o lv xs (.int .i64 2) vh' vn':=⟨g,fun _=>⟨rfl,f⟩,fun ms h2=>by rw[h] at h2;cases h2⟩
theorem rM.mkGood{vh:VH}{vn b:Nat}{o o':Option Nat}{lv:List (List aA)}{xs ms:List aA}{vh':VH}{vn':Nat}(h:fI [] xs=some ms)(g:vn<=vn')(s:SP vh' b o' (lv++[ms]))(q:∀c,o'=some c->c<vn'/\(o=some c\/vn<=c))(f:∀c,c<vn->c≠b->o≠some c->vh' c=vh c):rM vh vn b o lv xs (.int .i64 0) vh' vn':=⟨g,fun h2=>by rw[h] at h2;(cases h2),fun ms' h2=>by rw[h] at h2;cases h2;exact⟨rfl,o',s,q,f⟩⟩
set_option maxHeartbeats 4000000 in
theorem WX(H:XS X)(b:Nat)(o:Option Nat)(lv:List (List aA))(v:V)(xs:List aA)(vh:VH)(vn:Nat)(hs:SP vh b o lv)(hb:b<vn)(ho:∀c,o=some c->c<vn)(hlv:lv.length<2^30)(hv:SlA vh v xs)(hvb:∀c,aR v c->c<vn)(hxs:xs.length<2^30):
  aE Tryz.prog X G yT [.ptr b 0,v] vh vn fun r vh' vn'=>rM vh vn b o lv xs r vh' vn':=by
 apply aEZ.run H.push;rcases hv with (⟨rfl,rfl⟩|⟨rfl,rfl⟩|⟨bv,tv,rfl,hb4⟩)|⟨c,rfl⟩
 ·conv=>whnf
  refine aC.round ?_
  conv=>whnf
  refine zM b o lv vh vn hs vn hb ho (Nat.le_refl _) hlv _ [] .nil _ _ fun vh' vn' o' g1 s1 q1 f1=>?_
  conv=>whnf
  exact Get.mk vh' (fun _ _ h=>h) (.mkGood rfl g1 s1 q1 f1)
 ·conv=>whnf
  refine aC.round ?_
  conv=>whnf
  refine zM b o lv vh vn hs vn hb ho (Nat.le_refl _) hlv _ [] .nil _ _ fun vh' vn' o' g1 s1 q1 f1=>?_
  conv=>whnf
  exact Get.mk vh' (fun _ _ h=>h) (.mkGood rfl g1 s1 q1 f1)
 ·have hbv:bv<vn:=hvb bv rfl
  conv=>whnf
  refine DE H b bv tv xs hxs vn hbv _ xs.length 0 (by omega) (Nat.zero_le _) vh vn _ [] hb4 (Nat.le_refl _) .nil (Nat.le_refl _) (fun hp vh' vn' g1 f1=>?_) fun ms hp mv' vh' vn' i' t l1 A1 g1 f1=>?_
  ·rw[List.drop_zero] at hp
   conv=>whnf
   exact Get.mk vh' (fun _ _ h=>h) (.mkBad hp g1 f1)
  ·rw[List.drop_zero] at hp;have hs1:SP vh' b o lv:=hs.at (f1 b hb) fun c hc=>f1 c (ho c hc);rcases id A1 with⟨rfl|rfl,rfl⟩|⟨bl,hl1,hl2,rfl,hl4⟩
   all_goals
    conv=>whnf
    refine zM b o lv vh' vn' hs1 vn hb ho g1 hlv _ _ A1 _ _ fun vh2 vn2 o2 g2 s2 q2 f2=>?_
    conv=>whnf
    exact Get.mk vh2 (fun _ _ h=>h) (.mkGood hp (Nat.le_trans g1 g2) s2 q2 fun c hc hcb hco=>(f2 c hc hcb hco).trans (f1 c hc))
 ·conv=>whnf
  have hl:Int.ofNat (xs.map encA).length=(xs.length:Int):=by simp
  rw[hl];refine DD H b c xs hxs vn _ xs.length 0 (by omega) (Nat.zero_le _) vh vn _ [] (Nat.le_refl _) .nil (Nat.le_refl _) (fun hp vh' vn' g1 f1=>?_) fun ms hp mv' vh' vn' i' t l1 A1 g1 f1=>?_
  ·rw[List.drop_zero] at hp
   conv=>whnf
   exact Get.mk vh' (fun _ _ h=>h) (.mkBad hp g1 f1)
  ·rw[List.drop_zero] at hp;have hs1:SP vh' b o lv:=hs.at (f1 b hb) fun c hc=>f1 c (ho c hc);rcases id A1 with⟨rfl|rfl,rfl⟩|⟨bl,hl1,hl2,rfl,hl4⟩
   all_goals
    conv=>whnf
    refine zM b o lv vh' vn' hs1 vn hb ho g1 hlv _ _ A1 _ _ fun vh2 vn2 o2 g2 s2 q2 f2=>?_
    conv=>whnf
    exact Get.mk vh2 (fun _ _ h=>h) (.mkGood hp (Nat.le_trans g1 g2) s2 q2 fun c hc hcb hco=>(f2 c hc hcb hco).trans (f1 c hc))
theorem UV(hX:X uT=none)(b:Nat)(o:Option Nat)(lv:List (List aA))(vh:VH)(vn:Nat)(hs:SP vh b o lv):
  aE Tryz.prog X G uT [.ptr b 0] vh vn fun v vh' vn'=>vh'=vh/\vn'=vn/\v=.int .i64 (lv.length:Int):=by
 apply aEW.run hX;obtain⟨ty,hs⟩:=hs;cases o with
 |none=>
  obtain⟨rfl,hs⟩:=hs
  conv=>whnf
  refine Get.mk (_,_,_,_) hs ?_
  conv=>whnf
  refine Get.mk _ rfl ?_
  conv=>whnf
  exact Get.mk _ (fun _ _ h=>h) ⟨rfl,rfl,rfl⟩
 |some bl=>
  obtain⟨hne,rest,h1,h2⟩:=hs
  conv=>whnf
  refine Get.mk (_,_,_,_) h1 ?_
  conv=>whnf
  refine Get.mk _ rfl ?_
  conv=>whnf
  exact Get.mk _ (fun _ _ h=>h) ⟨rfl,rfl,rfl⟩
theorem J0(H:XS X)(b:Nat)(o:Option Nat)(lv:List (List aA))(vh:VH)(vn:Nat)(hs:SP vh b o lv)(hl:lv.length<2^40):
  aE Tryz.prog X G uU [.ptr b 0] vh vn fun v vh' vn'=>vn'=vn/\(∀c,c≠b->vh' c=vh c)/\SP vh' b o lv.dropLast/\∃t,v=.bool t:=by
 apply aEY.run H.pop
 conv=>whnf
 refine (UV H.depth b o lv vh vn hs).mono fun v vh' vn' he=>?_;obtain⟨e1,e2,e3⟩:=he;rw[e1,e2,e3];clear e1 e2 e3
 conv=>whnf
 refine aB.mk (fun h1=>?_) (fun h1=>?_)
 ·have h1':lv=[]:=by simpa using h1
  subst h1'
  conv=>whnf
  exact Get.mk vh (fun _ _ h=>h) ⟨rfl,fun _ _=>rfl,hs,_,rfl⟩
 ·have hp:0<lv.length:=by simp at h1;exact List.length_pos_iff.2 h1
  obtain⟨ty,hs⟩:=hs;cases o with
  |none=>obtain⟨rfl,_⟩:=hs;simp at hp
  |some bl=>
   obtain⟨hne,rest,h2,h3⟩:=hs;have hfl:=wM sK lv
   conv=>whnf
   refine Get.mk (_,_,_,_) h2 ?_
   conv=>whnf
   refine Get.mk _ rfl ?_
   conv=>whnf
   refine Get.mk (_,_,_,_) h2 ?_
   conv=>whnf
   refine Get.mk _ rfl ?_
   conv=>whnf
   refine Get.mk (lv.length-1) (by simp only[Int.ofNat_eq_natCast];rw[aF]<;>omega) ?_
   conv=>whnf
   refine Get.mk (_,_,_,_) h3 ?_
   conv=>whnf
   refine⟨⟨Nat.zero_le _,by simp only[List.length_append,hfl,Nat.sub_zero,Nat.div_one];omega,.inr rfl⟩,?_⟩
   conv=>whnf
   refine Get.mk (_,_,_,_) h2 ?_
   conv=>whnf
   refine⟨⟨(by decide:1<=1),Nat.zero_le _⟩,?_⟩
   conv=>whnf
   have e1:lv.length-1-0=lv.dropLast.length:=by rw[List.length_dropLast];rfl
   rw[e1];refine Get.mk _ (fun _ _ h=>h) ⟨rfl,fun c hc=>aG hc,⟨ty,hne,[.ifc pV (.sl 4 ((lv.getLast (List.ne_nil_of_length_pos hp)).map encA) none)]++rest,aK,?_⟩,_,rfl⟩;refine (aG hne).trans (h3.trans ?_);have e2:(lv.dropLast++[lv.getLast (List.ne_nil_of_length_pos hp)])=lv:=List.dropLast_concat_getLast _;have e3:(lv.map iF).flatten=(lv.dropLast.map iF).flatten++iF (lv.getLast (List.ne_nil_of_length_pos hp)):=by
    conv=>lhs;rw[<-e2]
    simp
   rw[e3,List.append_assoc];rfl
end
section
attribute [local irreducible] aM
variable {X : Ovr} {G : Gt}
theorem aFW{lv:List (List aA)}{rest:List V}{k:Nat}(h:k<lv.length):((lv.map iF).flatten++rest)[0+k*1]? =some (.ifc pV (.sl 4 (lv[k].map encA) none)):=by
 rw[Nat.zero_add,Nat.mul_one,List.getElem?_append_left (by rw[wM sK];exact h)]
 have:=oK sK lv k 0 h (by decide)
 rw[Nat.mul_one,Nat.add_zero] at this;rw[this];rfl
theorem aFF(hX:X uW=none)(b:Nat)(o:Option Nat)(lv:List (List aA))(vh:VH)(vn:Nat)(hs:SP vh b o lv)(k:Nat)(hk:k<lv.length):
  aE Tryz.prog X G uW [.ptr b 0,.int .i64 (k:Int)] vh vn fun v vh' vn'=>vh'=vh/\vn'=vn/\v=.sl 4 (lv[k].map encA) none:=by
 apply aE2.run hX;obtain⟨ty,hs⟩:=hs;cases o with
 |none=>obtain⟨rfl,_⟩:=hs;exact absurd hk (Nat.not_lt_zero k)
 |some bl=>
  obtain⟨hne,rest,h1,h2⟩:=hs
  conv=>whnf
  refine Get.mk (_,_,_,_) h1 ?_
  conv=>whnf
  refine Get.mk _ rfl ?_
  conv=>whnf
  refine Get.mk k ⟨rfl,hk⟩ ?_
  conv=>whnf
  refine Get.mk (_,_,_,_) h2 ?_
  conv=>whnf
  refine Get.mk _ (aFW hk) ?_
  conv=>whnf
  exact Get.mk _ (fun _ _ h=>h) ⟨rfl,rfl,rfl⟩
theorem J2(H:XS X)(b:Nat)(p:List Nat)(i:Nat)(l:List aA)(hl:l.length<2^40)(vh:VH)(vn:Nat)(Q:FQ):∀(m k:Nat),l.length-k=m->k<=l.length->
  (match jX p (l.drop k) with
   |none=>∀k' t,Q (.exit 2) [(0,.ptr b 0),(1,.str p),(6,.int .i64 (i:Int)),(25,.sl 4 (l.map encA) none),(26,.int .i64 (l.length:Int)),(27,.int .i64 k'),(28,.bool t)] vh vn
   |some u=>Q .ret [(4,.str u),(5,.bool true)] vh vn)->
  aC Tryz.prog X G (.loop NC) [(0,.ptr b 0),(1,.str p),(6,.int .i64 (i:Int)),(25,.sl 4 (l.map encA) none),(26,.int .i64 (l.length:Int)),(27,.int .i64 (k:Int))] vh vn Q
 |m,k,hm,hk,hQ=>by
  refine aC.round ?_
  conv=>whnf
  refine aB.mk (fun h1=>?_) (fun h1=>?_)
  ·have hlt:k<l.length:=by simp at h1;omega
   have hd:l.drop k=l[k]::l.drop (k+1):=(List.getElem_cons_drop hlt).symm
   conv=>whnf
   refine Get.mk (k,encA l[k]) ⟨rfl,by simp[hlt]⟩ ?_
   conv=>whnf
   refine (HU H.declares l[k] vh vn).mono fun v vh' vn' he=>?_;obtain⟨e1,e2,e3⟩:=he;rw[e1,e2,e3]
   conv=>whnf
   refine aB.mk (fun h2=>?_) (fun h2=>?_)
   ·have h2':(declares l[k]).1=p:=by simpa using h2
    simp only[hd,jX,h2',if_true] at hQ
    conv=>whnf
    exact hQ
   ·have h2':¬(declares l[k]).1=p:=by simpa using h2
    simp only[hd,jX,h2',if_false] at hQ;have e:wr .i64 ((k:Int)+1)=((k+1:Nat):Int):=by rw[aF]<;>omega
    conv=>whnf
    rw[e];exact J2 H b p i l hl vh vn Q (m-1) (k+1) (by omega) (by omega) hQ
  ·have hlt:k=l.length:=by simp at h1;omega
   rw[hlt,List.drop_length] at hQ
   conv=>whnf
   exact hQ _ _
termination_by m=>m
decreasing_by omega
theorem J1(H:XS X)(b:Nat)(o:Option Nat)(lv:List (List aA))(p:List Nat)(vh:VH)(vn:Nat)(hs:SP vh b o lv)(hb:∀l∈lv,l.length<2^40)(hlv:lv.length<2^40)(Q:FQ):∀(j:Nat),j<=lv.length->
  (match fX p lv j with
   |none=>∀i' t,Q (.exit 0) [(0,.ptr b 0),(1,.str p),(6,.int .i64 i'),(20,.bool t)] vh vn
   |some u=>Q .ret [(4,.str u),(5,.bool true)] vh vn)->
  aC Tryz.prog X G (.loop EV) [(0,.ptr b 0),(1,.str p),(6,.int .i64 ((j:Int)-1))] vh vn Q
 |0,hj,hQ=>by
  refine aC.round ?_
  conv=>whnf
  simp only[fX] at hQ;exact hQ _ _
 |j+1,hj,hQ=>by
  have hi:j<lv.length:=by omega
  have e0:((j+1:Nat):Int)-1=(j:Int):=by omega
  rw[e0];refine aC.round ?_
  conv=>whnf
  refine (aFF H.level b o lv vh vn hs j hi).mono fun v vh' vn' he=>?_;obtain⟨e1,e2,e3⟩:=he;rw[e1,e2,e3];have hl:Int.ofNat (lv[j].map encA).length=(lv[j].length:Int):=by simp
  conv=>whnf
  rw[hl];refine J2 H b p j lv[j] (hb _ (List.getElem_mem hi)) vh vn _ _ 0 rfl (Nat.zero_le _) ?_;simp only[List.drop_zero];simp only[fX,List.getElem?_eq_getElem hi,Option.getD_some] at hQ;cases hu:jX p lv[j] with
  |none=>
   rw[hu] at hQ;intro k' t;have e:wr .i64 ((j:Int)-1)=((j:Int)-1):=by rw[aF]<;>omega
   conv=>whnf
   rw[e];exact J1 H b o lv p vh vn hs hb hlv Q j (by omega) hQ
  |some u=>rw[hu] at hQ;exact hQ
def c9(lv:List (List aA))(p:List Nat):List Nat×Bool:=
 match fX p lv lv.length with
 |some u=>(u,true)
 |none=>if p=dQ then (gO,true) else ([],decide (p=[]))
theorem J3(H:XS X)(b:Nat)(o:Option Nat)(lv:List (List aA))(p:List Nat)(vh:VH)(vn:Nat)(hs:SP vh b o lv)(hb:∀l∈lv,l.length<2^40)(hlv:lv.length<2^40):
  aE Tryz.prog X G uV [.ptr b 0,.str p] vh vn fun v vh' vn'=>vh'=vh/\vn'=vn/\v=.tup [.str (c9 lv p).1,.bool (c9 lv p).2]:=by
 apply aE1.run H.uri;obtain⟨ty,hs2⟩:=id hs;have go:∀(Q:FQ),(match fX p lv lv.length with
   |none=>∀i' t,Q (.exit 0) [(0,.ptr b 0),(1,.str p),(6,.int .i64 i'),(20,.bool t)] vh vn
   |some u=>Q .ret [(4,.str u),(5,.bool true)] vh vn)->aC Tryz.prog X G (.loop EV) [(0,.ptr b 0),(1,.str p),(6,.int .i64 ((lv.length:Int)-1))] vh vn Q:=fun Q hQ=>J1 H b o lv p vh vn hs hb hlv Q lv.length (Nat.le_refl _) hQ
 have e:wr .i64 ((lv.length:Int)-1)=((lv.length:Int)-1):=by rw[aF]<;>omega
 cases o with
 |none=>
  obtain⟨rfl,h1⟩:=hs2
  conv=>whnf
  refine Get.mk (_,_,_,_) h1 ?_
  conv=>whnf
  refine Get.mk _ rfl ?_
  conv=>whnf
  refine go _ ?_;intro i' t
  conv=>whnf
  refine aB.mk (fun h2=>?_) (fun h2=>?_)
  ·conv=>whnf
   refine Get.mk vh (fun _ _ h=>h) ⟨rfl,rfl,?_⟩;simp at h2;simp[c9,fX,h2]
  ·conv=>whnf
   refine Get.mk vh (fun _ _ h=>h) ⟨rfl,rfl,?_⟩;simp at h2;simp[c9,fX,h2]
 |some bl=>
  obtain⟨hne,rest,h1,h2⟩:=hs2
  conv=>whnf
  refine Get.mk (_,_,_,_) h1 ?_
  conv=>whnf
  refine Get.mk _ rfl ?_
  conv=>whnf
  rw[show wr .i64 (Int.ofNat lv.length-1)=((lv.length:Int)-1) from e];refine go _ ?_;cases hu:fX p lv lv.length with
  |none=>
   intro i' t
   conv=>whnf
   refine aB.mk (fun h2=>?_) (fun h2=>?_)
   ·conv=>whnf
    refine Get.mk vh (fun _ _ h=>h) ⟨rfl,rfl,?_⟩;simp at h2;simp only[c9,hu,if_pos h2]
   ·conv=>whnf
    refine Get.mk vh (fun _ _ h=>h) ⟨rfl,rfl,?_⟩;simp at h2;simp[c9,hu,h2]
  |some u=>
   conv=>whnf
   refine Get.mk vh (fun _ _ h=>h) ⟨rfl,rfl,?_⟩;simp[c9,hu]
end
section
attribute [local irreducible] aM
variable {X : Ovr} {G : Gt}
structure XSN(X:Ovr):Prop extends XS X where
 names:X yS=none
def cH(a:aA):aA:=if a.p=bH\/a.p=[]/\a.l=bH then {a with u:=fE} else a
theorem JY(b bn ba:Nat)(n:Nd)(N:Nat)(hN:N<2^30)(vn:Nat)(d3:ba≠bn)(ty ta:TypeId)(Q:FQ):∀(m i:Nat),N-i=m->i<=N->∀(vh:VH) (ys:List aA),ys.length=N->vh bn=some (.cells (cD n (.msl ba 0 N 4 none)) ty 0 false)->vh ba=some (.cells (ys.map encA).flatten ta 0 false)->
  (∀vh' i' t,vh' ba=some (.cells ((ys.take i++(ys.drop i).map cH).map encA).flatten ta 0 false)->(∀c,c≠ba->vh' c=vh c)->Q (.exit 0) [(0,.ptr b 0),(1,.ptr bn 0),(19,.msl ba 0 N 4 none),(20,.int .i64 (N:Int)),(21,.int .i64 i'),(22,.bool t)] vh' vn)->
  aC Tryz.prog X G (.loop EO) [(0,.ptr b 0),(1,.ptr bn 0),(19,.msl ba 0 N 4 none),(20,.int .i64 (N:Int)),(21,.int .i64 (i:Int))] vh vn Q
 |m,i,hm,hi,vh,ys,hys,hn,ha,hQ=>by
  refine aC.round ?_
  conv=>whnf
  refine aB.mk (fun h1=>?_) (fun h1=>?_)
  ·have hiN:i<N:=by simpa using h1
   have hlt:i<ys.length:=by omega
   have hd:ys.drop i=ys[i]::ys.drop (i+1):=(List.getElem_cons_drop hlt).symm;rw[hd] at hQ;simp only[List.map_cons] at hQ;have e:wr .i64 ((i:Int)+1)=((i+1:Nat):Int):=by rw[aF]<;>omega
   have hw:0+i*4+2+1<=(ys.map encA).flatten.length:=by have:=lH cV ys i hlt;omega
   have nxt:∀(vh2:VH),vh2 ba=some (.cells ((ys.set i (cH ys[i])).map encA).flatten ta 0 false)->(∀c,c≠ba->vh2 c=vh c)->
     aC Tryz.prog X G (.loop EO) [(0,.ptr b 0),(1,.ptr bn 0),(19,.msl ba 0 N 4 none),(20,.int .i64 (N:Int)),(21,.int .i64 ((i+1:Nat):Int))] vh2 vn Q:=fun vh2 a2 f2=>by
    have hp:(ys.set i (cH ys[i])).take (i+1)=ys.take i++[cH ys[i]]:=by have:=nP ys i hlt (cH ys[i]) [];simpa using this
    refine JY b bn ba n N hN vn d3 ty ta Q (m-1) (i+1) (by omega) (by omega) vh2 _ (by rw[List.length_set];exact hys) ((f2 bn (Ne.symm d3)).trans hn) a2 ?_
    rw[hp,k0];refine fun vh' i' t h1 h2=>hQ vh' i' t ?_ fun c hc=>(h2 c hc).trans (f2 c hc);rw[List.append_assoc] at h1;exact h1
   conv=>whnf
   refine Get.mk i ⟨rfl,hiN⟩ ?_
   conv=>whnf
   refine Get.mk (_,_,_,_) ha ?_
   conv=>whnf
   refine Get.mk _ (mP hlt) ?_
   conv=>whnf
   repeat' ((first|refine aB.mk (fun _=>?_) (fun _=>?_))<;>(conv=>whnf))
   all_goals first
    |(
      skip
      rw[e];refine nxt vh ?_ (fun _ _=>rfl);have:cH ys[i]=ys[i]:=by clear nxt hQ hn ha hd;simp_all[cH]
      rw[this,List.set_getElem_self];exact ha)
    |skip
   all_goals
    refine Get.mk (_,_,_,_) hn ?_
    conv=>whnf
    refine Get.mk _ rfl ?_
    conv=>whnf
    refine Get.mk i ⟨rfl,hiN⟩ ?_
    conv=>whnf
    refine Get.mk (_,_,_,_) ha ?_
    conv=>whnf
    refine⟨⟨hw,Nat.zero_le _⟩,?_⟩
    conv=>whnf
    rw[e];refine nxt _ ?_ (fun c hc=>aG hc);have:cH ys[i]={ys[i] with u:=fE}:=by clear nxt hQ hn ha hd;simp_all[cH]
    rw[this];refine aK.trans ?_;rw[<-qC _ _ hlt]
  ·have hlt:i=N:=by simp at h1;omega
   have e1:ys.drop i=[]:=by rw[hlt,<-hys,List.drop_length]
   have e2:ys.take i=ys:=by rw[hlt,<-hys,List.take_length]
   rw[e1,e2] at hQ
   conv=>whnf
   exact hQ vh _ _ (by simpa using ha) fun _ _=>rfl
termination_by m=>m
decreasing_by all_goals omega
end
section
attribute [local irreducible] aM
variable {X : Ovr} {G : Gt}
def qI(k:List Nat×List Nat):V:=.agg [.str k.1,.str k.2]
def gK(ks:List (List Nat×List Nat)):List (V×V):=ks.map fun k=>(qI k,V.bool true)
theorem QJ(k j:List Nat×List Nat):jO (qI k) (qI j)=decide (k=j):=by obtain⟨a,b⟩:=k;obtain⟨c,d⟩:=j;simp only[jO,qI,lC,eq1,Bool.and_true,Prod.mk.injEq];by_cases h1:a=c<;>by_cases h2:b=d<;>simp[h1,h2]
theorem PL(k:List Nat×List Nat):∀ks,lF (qI k) (gK ks)=if k∈ks then some (.bool true) else none
 |[]=>rfl
 |j::ks=>by
  have ih:=PL k ks;simp only[gK,List.map_cons,lF,QJ,List.mem_cons];by_cases h:k=j
  ·simp[h]
  ·simp only[h,decide_false,cond_false,false_or];exact ih
theorem SQ(k:List Nat×List Nat):∀ks,jT (qI k) (.bool true) (gK ks)=gK (if k∈ks then ks else ks++[k])
 |[]=>rfl
 |j::ks=>by
  have ih:=SQ k ks;simp only[gK,List.map_cons,jT,QJ,List.mem_cons];by_cases h:k=j
  ·simp[h]
  ·simp only[h,decide_false,cond_false,false_or];by_cases h2:k∈ks
   ·simp only[h2,if_true] at ih ⊢;rw[List.map_cons];exact congrArg _ ih
   ·simp only[h2,if_false] at ih ⊢;rw[List.cons_append,List.map_cons];exact congrArg _ ih
theorem AQ(ks:List (List Nat×List Nat)):∀p∈gK ks,cW [none,none] true p.1=true:=by intro p hp;obtain⟨k,_,rfl⟩:=List.mem_map.1 hp;rfl
def nmA(lv:List (List aA))(a:aA):aA×Bool:=if a.u=[]/\a.p≠[] then ({a with u:=(c9 lv a.p).1},(c9 lv a.p).2) else (a,true)
def nmL(lv:List (List aA)):Bool->List (List Nat×List Nat)->List aA->List aA×Bool
 |g,_,[]=>([],g)
 |g,ks,a::l=>((nmA lv a).1::(nmL lv ((g&&(nmA lv a).2)&&!decide (((nmA lv a).1.u,a.l)∈ks)) (if ((nmA lv a).1.u,a.l)∈ks then ks else ks++[((nmA lv a).1.u,a.l)]) l).1,
   (nmL lv ((g&&(nmA lv a).2)&&!decide (((nmA lv a).1.u,a.l)∈ks)) (if ((nmA lv a).1.u,a.l)∈ks then ks else ks++[((nmA lv a).1.u,a.l)]) l).2)
theorem WR(b bn ba bm:Nat)(n:Nd)(N:Nat)(ys:List aA)(hys:ys.length=N)(i:Nat)(hi:i<N)(a:aA)(g:Bool)(ks:List (List Nat×List Nat))(ty ta:TypeId)(vh:VH)(vn:Nat)(hn:vh bn=some (.cells (cD n (.msl ba 0 N 4 none)) ty 0 false))(ha:vh ba=some (.cells (ys.map encA).flatten ta 0 false))(hm:vh bm=some (.map (gK ks)))(Q:FQ)
  (hQ:∀g',g'=(g&&!decide (((ys[i]'(by omega)).u,a.l)∈ks))->Q .norm [(0,.ptr b 0),(1,.ptr bn 0),(9,.bool g'),(10,.map bm),(81,.msl ba 0 N 4 none),(82,.int .i64 (N:Int)),(83,.int .i64 (i:Int))] (aI vh bm (.map (gK (if ((ys[i]'(by omega)).u,a.l)∈ks then ks else ks++[((ys[i]'(by omega)).u,a.l)])))) vn):
  aC Tryz.prog X G (.cut ET) [(0,.ptr b 0),(1,.ptr bn 0),(9,.bool g),(10,.map bm),(11,.int .i64 (i:Int)),(12,.bx (encA a)),(81,.msl ba 0 N 4 none),(82,.int .i64 (N:Int)),(83,.int .i64 (i:Int))] vh vn Q:=by
 refine aC.cut ?_;have hlt:i<ys.length:=by omega
 have hput:=SQ (ys[i].u,a.l) ks;have hfind:=PL (ys[i].u,a.l) ks
 conv=>whnf
 refine Get.mk (_,_,_,_) hn ?_
 conv=>whnf
 refine Get.mk _ rfl ?_
 conv=>whnf
 refine Get.mk i ⟨rfl,hi⟩ ?_
 conv=>whnf
 refine Get.mk (_,_,_,_) ha ?_
 conv=>whnf
 refine Get.mk _ (AI hlt) ?_
 conv=>whnf
 have upd:∀g',g'=(g&&!decide ((ys[i].u,a.l)∈ks))->Q .norm [(0,.ptr b 0),(1,.ptr bn 0),(9,.bool g'),(10,.map bm),(81,.msl ba 0 N 4 none),(82,.int .i64 (N:Int)),(83,.int .i64 (i:Int))] (aI vh bm (.map (jT (qI (ys[i].u,a.l)) (.bool true) (gK ks)))) vn:=fun g' hg=>by rw[hput];exact hQ g' hg
 refine aB.mk (fun h1=>?_) (fun h1=>?_)
 ·conv=>whnf
  refine Get.mk (gK ks) hm ?_
  conv=>whnf
  refine⟨AQ ks,?_⟩
  conv=>whnf
  refine Get.mk _ hfind ?_;by_cases hk:(ys[i].u,a.l)∈ks
  ·simp only[if_pos hk]
   conv=>whnf
   refine Get.mk (gK ks) hm ?_
   conv=>whnf
   refine⟨AQ ks,?_⟩
   conv=>whnf
   exact upd _ (by simp[h1,hk])
  ·simp only[if_neg hk]
   conv=>whnf
   refine Get.mk (gK ks) hm ?_
   conv=>whnf
   refine⟨AQ ks,?_⟩
   conv=>whnf
   exact upd _ (by simp[h1,hk])
 ·conv=>whnf
  refine Get.mk (gK ks) hm ?_
  conv=>whnf
  refine⟨AQ ks,?_⟩
  conv=>whnf
  exact upd _ (by simp[h1])
set_option maxHeartbeats 4000000 in
theorem JZ(H:XSN X)(b bn ba bm:Nat)(o:Option Nat)(lv:List (List aA))(hb:∀l∈lv,l.length<2^40)(hlv:lv.length<2^40)(n:Nd)(N:Nat)(hN:N<2^30)(vn:Nat)(d1:b≠ba)(d2:b≠bm)(d3:ba≠bn)(d4:ba≠bm)(d5:bn≠bm)(d6:o≠some ba)(d7:o≠some bm)(ty ta:TypeId)(Q:FQ):∀(m i:Nat),N-i=m->i<=N->∀(vh:VH) (ys:List aA) (ks:List (List Nat×List Nat)) (g:Bool),ys.length=N->SP vh b o lv->vh bn=some (.cells (cD n (.msl ba 0 N 4 none)) ty 0 false)->vh ba=some (.cells (ys.map encA).flatten ta 0 false)->vh bm=some (.map (gK ks))->
  (∀vh' i' t,vh' ba=some (.cells ((ys.take i++(nmL lv g ks (ys.drop i)).1).map encA).flatten ta 0 false)->(∀c,c≠ba->c≠bm->vh' c=vh c)->Q (.exit 2) [(0,.ptr b 0),(1,.ptr bn 0),(9,.bool (nmL lv g ks (ys.drop i)).2),(10,.map bm),(81,.msl ba 0 N 4 none),(82,.int .i64 (N:Int)),(83,.int .i64 i'),(84,.bool t)] vh' vn)->
  aC Tryz.prog X G (.loop z7) [(0,.ptr b 0),(1,.ptr bn 0),(9,.bool g),(10,.map bm),(81,.msl ba 0 N 4 none),(82,.int .i64 (N:Int)),(83,.int .i64 (i:Int))] vh vn Q
 |m,i,hm,hi,vh,ys,ks,g,hys,hs,hn,ha,hmp,hQ=>by
  refine aC.round ?_
  conv=>whnf
  refine aB.mk (fun h1=>?_) (fun h1=>?_)
  ·have hiN:i<N:=by simpa using h1
   have hlt:i<ys.length:=by omega
   have hd:ys.drop i=ys[i]::ys.drop (i+1):=(List.getElem_cons_drop hlt).symm;rw[hd] at hQ;simp only[nmL] at hQ;have e:wr .i64 ((i:Int)+1)=((i+1:Nat):Int):=by rw[aF]<;>omega
   have hw:0+i*4+2+1<=(ys.map encA).flatten.length:=by have:=lH cV ys i hlt;omega
   conv=>whnf
   refine Get.mk i ⟨rfl,hiN⟩ ?_
   conv=>whnf
   refine Get.mk (_,_,_,_) ha ?_
   conv=>whnf
   refine Get.mk _ (mP hlt) ?_
   conv=>whnf
   have d6':∀c,o=some c->c≠ba:=fun c hc e=>d6 (by rw[hc,e])
   have d7':∀c,o=some c->c≠bm:=fun c hc e=>d7 (by rw[hc,e])
   have nxt:∀(vh2:VH) (g1:Bool),vh2 ba=some (.cells ((ys.set i (nmA lv ys[i]).1).map encA).flatten ta 0 false)->(∀c,c≠ba->vh2 c=vh c)->g1=(g&&(nmA lv ys[i]).2)->
     aC Tryz.prog X G (.cut ET) [(0,.ptr b 0),(1,.ptr bn 0),(9,.bool g1),(10,.map bm),(11,.int .i64 (i:Int)),(12,.bx (encA ys[i])),(81,.msl ba 0 N 4 none),(82,.int .i64 (N:Int)),(83,.int .i64 (i:Int))] vh2 vn (AK 3 (qB (qB Q fun env vh nx=>aC Tryz.prog X G z7.loop env vh nx Q) fun env vh nx=>fC G (aE Tryz.prog X G) (aC Tryz.prog X G) (aD.reg 0 [{dst:=some 135,op:=VOp.bin BinOp.add (VX.t 83) (VX.c (V.int IntKind.i64 1)),guard:=none,gh:=[]},{dst:=some 83,op:=VOp.mv (VX.t 135),guard:=none,gh:=[]}] [Gh.keep [0,1,9,10,81,82,83]]) env vh nx (qB Q fun env vh nx=>aC Tryz.prog X G z7.loop env vh nx Q))):=fun vh2 g1 a2 f2 hg1=>by
    have hlt2:i<(ys.set i (nmA lv ys[i]).1).length:=by rw[List.length_set];exact hlt
    have hi2:(ys.set i (nmA lv ys[i]).1)[i]=(nmA lv ys[i]).1:=by simp
    refine WR b bn ba bm n N (ys.set i (nmA lv ys[i]).1) (by rw[List.length_set];exact hys) i hiN ys[i] g1 ks ty ta vh2 vn ((f2 bn (Ne.symm d3)).trans hn) a2 ((f2 bm (Ne.symm d4)).trans hmp) _ fun g2 hg2=>?_
    rw[hi2] at hg2 ⊢;have hp:(ys.set i (nmA lv ys[i]).1).take (i+1)=ys.take i++[(nmA lv ys[i]).1]:=by have:=nP ys i hlt (nmA lv ys[i]).1 [];simpa using this
    conv=>whnf
    rw[e];generalize hv3:aI vh2 bm _=vh3;have m3:vh3 bm=some (.map (gK (if ((nmA lv ys[i]).1.u,ys[i].l)∈ks then ks else ks++[((nmA lv ys[i]).1.u,ys[i].l)]))):=by rw[<-hv3];exact aK
    have f3:∀c,c≠bm->vh3 c=vh2 c:=fun c hc=>by rw[<-hv3];exact aG hc
    refine JZ H b bn ba bm o lv hb hlv n N hN vn d1 d2 d3 d4 d5 d6 d7 ty ta Q (m-1) (i+1) (by omega) (by omega) vh3 _ _ g2 (by rw[List.length_set];exact hys) (hs.at ((f3 b d2).trans (f2 b d1)) fun c hc=>(f3 c (d7' c hc)).trans (f2 c (d6' c hc))) ((f3 bn d5).trans ((f2 bn (Ne.symm d3)).trans hn)) ((f3 ba d4).trans a2) m3 ?_
    rw[hp,k0,hg2,hg1];refine fun vh' i' t h1 h2=>hQ vh' i' t ?_ fun c hc hcm=>(h2 c hc hcm).trans ((f3 c hcm).trans (f2 c hc));rw[List.append_assoc] at h1;exact h1
   refine aB.mk (fun h2=>?_) (fun h2=>?_)
   ·have h2':ys[i].u=[]:=by simpa using h2
    conv=>whnf
    refine aB.mk (fun h3=>?_) (fun h3=>?_)
    ·have h3':ys[i].p≠[]:=by simpa using h3
     have ea:nmA lv ys[i]=({ys[i] with u:=(c9 lv ys[i].p).1},(c9 lv ys[i].p).2):=by simp only[nmA,h2',h3',ne_eq,not_false_eq_true,and_self,if_true]
     have hst:aI vh ba (.cells (setSeg (ys.map encA).flatten (0+i*4+2) [.str (c9 lv ys[i].p).1]) ta 0 false) ba=some (.cells ((ys.set i (nmA lv ys[i]).1).map encA).flatten ta 0 false):=by rw[aK,qC _ _ hlt,ea]
     conv=>whnf
     refine (J3 H.toXS b o lv ys[i].p vh vn hs hb hlv).mono fun v vh' vn' he=>?_;obtain⟨e1,e2,e3⟩:=he;rw[e1,e2,e3];clear e1 e2 e3
     conv=>whnf
     refine Get.mk (_,_,_,_) hn ?_
     conv=>whnf
     refine Get.mk _ rfl ?_
     conv=>whnf
     refine aB.mk (fun h4=>?_) (fun h4=>?_)
     ·conv=>whnf
      refine Get.mk i ⟨rfl,hiN⟩ ?_
      conv=>whnf
      refine Get.mk (_,_,_,_) ha ?_
      conv=>whnf
      refine⟨⟨hw,Nat.zero_le _⟩,?_⟩
      conv=>whnf
      exact nxt _ _ hst (fun c hc=>aG hc) (by rw[ea,h4];rfl)
     ·conv=>whnf
      refine Get.mk i ⟨rfl,hiN⟩ ?_
      conv=>whnf
      refine Get.mk (_,_,_,_) ha ?_
      conv=>whnf
      refine⟨⟨hw,Nat.zero_le _⟩,?_⟩
      conv=>whnf
      exact nxt _ _ hst (fun c hc=>aG hc) (by rw[ea,h4];rfl)
    ·have h3':ys[i].p=[]:=by simpa using h3
     have ea:nmA lv ys[i]=(ys[i],true):=by simp[nmA,h3']
     conv=>whnf
     exact nxt vh g (by rw[ea,List.set_getElem_self];exact ha) (fun _ _=>rfl) (by rw[ea];simp)
   ·have h2':¬ys[i].u=[]:=by simpa using h2
    have ea:nmA lv ys[i]=(ys[i],true):=by simp[nmA,h2']
    conv=>whnf
    exact nxt vh g (by rw[ea,List.set_getElem_self];exact ha) (fun _ _=>rfl) (by rw[ea];simp)
  ·have hlt:i=N:=by simp at h1;omega
   have e1:ys.drop i=[]:=by rw[hlt,<-hys,List.drop_length]
   have e2:ys.take i=ys:=by rw[hlt,<-hys,List.take_length]
   rw[e1,e2] at hQ
   conv=>whnf
   exact hQ vh _ _ (by simpa[nmL] using ha) fun _ _ _=>rfl
termination_by m=>m
decreasing_by all_goals omega
end
section
attribute [local irreducible] aM
variable {X : Ovr} {G : Gt}
theorem GS(lv:List (List aA)):∀(xs:List aA) (g:Bool) (ks:List (List Nat×List Nat)),(nmL lv g ks xs).1.length=xs.length
 |[],_,_=>rfl
 |a::l,g,ks=>by simp only[nmL,List.length_cons,GS lv l]
theorem DC(H:XSN X)(b:Nat)(o:Option Nat)(lv:List (List aA))(hl:lv.length<2^40)(g:Bool)(v1:Nat)(vh:VH)(vn:Nat)(hs:SP vh b o lv)(tl:aH)(Q:FQ)
  (hT:g=true->Q .ret [(4,.int .i64 0)] vh vn)
  (hF:g=false->∀vh',(∀c,c≠b->vh' c=vh c)->SP vh' b o lv.dropLast->Q .ret [(4,.int .i64 2)] vh' vn):
  aC Tryz.prog X G (.cut NA) ((0,.ptr b 0)::(1,.ptr v1 0)::(9,.bool g)::tl) vh vn Q:=by
 refine aC.cut ?_
 conv=>whnf
 refine aB.mk (fun h1=>?_) (fun h1=>?_)
 ·have h1':g=false:=by simpa using h1
  conv=>whnf
  refine (J0 H.toXS b o lv vh vn hs hl).mono fun v vh' vn' he=>?_;obtain⟨e1,f1,s1,t,e2⟩:=he;rw[e1,e2]
  conv=>whnf
  exact hF h1' vh' f1 s1
 ·have h1':g=true:=by simpa using h1
  conv=>whnf
  exact hT h1'
theorem WQ(H:XSN X)(b bn bm:Nat)(o:Option Nat)(lv:List (List aA))(hb:∀l∈lv,l.length<2^40)(hlv:lv.length<2^40)(n:Nd)(av:V)(xs:List aA)(hN:xs.length<2^30)(ty:TypeId)(g:Bool)(vh:VH)(vn:Nat)(hs:SP vh b o lv)(hn:vh bn=some (.cells (cD n av) ty 0 false))(ha:SlR encA 4 vh av xs)(hm:vh bm=some (.map (gK [])))
  (d1:b≠bn) (d2:¬aR av b) (d3:¬aR av bn) (d5:∀c,aR av c->o≠some c) (d6:b≠bm) (d7:bn≠bm) (d8:¬aR av bm) (d9:o≠some bm) (Q:FQ)
  (hQ:∀vh' r lv',((nmL lv g [] xs).2=true/\r=0/\lv'=lv\/(nmL lv g [] xs).2=false/\r=2/\lv'=lv.dropLast)->SlR encA 4 vh' av (nmL lv g [] xs).1->SP vh' b o lv'->(∀c,c≠b->c≠bm->¬aR av c->vh' c=vh c)->Q .ret [(4,.int .i64 r)] vh' vn):
  aC Tryz.prog X G (.cut EQ) [(0,.ptr b 0),(1,.ptr bn 0),(9,.bool g),(10,.map bm)] vh vn Q:=by
 refine aC.cut ?_
 conv=>whnf
 refine Get.mk (_,_,_,_) hn ?_
 conv=>whnf
 refine Get.mk _ rfl ?_
 conv=>whnf
 rcases id ha with⟨rfl,rfl⟩|⟨rfl,rfl⟩|⟨ba,ta,rfl,h4⟩
 ·conv=>whnf
  refine aC.round ?_
  conv=>whnf
  refine DC H b o lv hlv g bn vh vn hs _ _ (fun h=>?_) (fun h vh' f s=>?_)
  ·exact hQ vh 0 lv (.inl ⟨h,rfl,rfl⟩) (.inl ⟨rfl,rfl⟩) hs fun _ _ _ _=>rfl
  ·exact hQ vh' 2 lv.dropLast (.inr ⟨h,rfl,rfl⟩) (.inl ⟨rfl,rfl⟩) s fun c hc _ _=>f c hc
 ·conv=>whnf
  refine aC.round ?_
  conv=>whnf
  refine DC H b o lv hlv g bn vh vn hs _ _ (fun h=>?_) (fun h vh' f s=>?_)
  ·exact hQ vh 0 lv (.inl ⟨h,rfl,rfl⟩) (.inr (.inl ⟨rfl,rfl⟩)) hs fun _ _ _ _=>rfl
  ·exact hQ vh' 2 lv.dropLast (.inr ⟨h,rfl,rfl⟩) (.inr (.inl ⟨rfl,rfl⟩)) s fun c hc _ _=>f c hc
 ·have e1:ba≠b:=fun h=>d2 h.symm;have e2:ba≠bn:=fun h=>d3 h.symm;have e3:ba≠bm:=fun h=>d8 h.symm;have e4:∀c,o=some c->c≠ba:=fun c hc h=>d5 c h hc
  conv=>whnf
  refine JZ H b bn ba bm o lv hb hlv n xs.length hN vn (Ne.symm e1) d6 e2 e3 d7 (d5 ba rfl) d9 ty ta _ xs.length 0 rfl (Nat.zero_le _) vh xs [] g rfl hs hn h4 hm fun vh1 i' t a1 f1=>?_;rw[List.drop_zero,List.take_zero,List.nil_append] at a1;rw[List.drop_zero];have s1:SP vh1 b o lv:=hs.at (f1 b (Ne.symm e1) d6) fun c hc=>f1 c (e4 c hc) fun h=>d9 (by rw[hc,h])
  have A1:SlR encA 4 vh1 (.msl ba 0 xs.length 4 none) (nmL lv g [] xs).1:=.inr (.inr ⟨ba,ta,by rw[GS],a1⟩)
  refine DC H b o lv hlv _ bn vh1 vn s1 _ _ (fun h=>?_) (fun h vh' f s=>?_)
  ·exact hQ vh1 0 lv (.inl ⟨h,rfl,rfl⟩) A1 s1 fun c _ hcm hca=>f1 c hca hcm
  ·exact hQ vh' 2 lv.dropLast (.inr ⟨h,rfl,rfl⟩) (A1.at fun c hc=>f c (by rw[hc];exact e1)) s fun c hc hcm hca=>(f c hc).trans (f1 c hca hcm)
set_option maxHeartbeats 4000000 in
theorem WP(H:XSN X)(b bn:Nat)(o:Option Nat)(lv:List (List aA))(hb:∀l∈lv,l.length<2^40)(hlv:lv.length<2^40)(n:Nd)(av:V)(xs:List aA)(hN:xs.length<2^30)(ty:TypeId)(vh:VH)(vn:Nat)(hs:SP vh b o lv)(hn:vh bn=some (.cells (cD n av) ty 0 false))(ha:SlR encA 4 vh av xs)
  (d1:b≠bn) (d2:¬aR av b) (d3:¬aR av bn) (d4:o≠some bn) (d5:∀c,aR av c->o≠some c) (q1:b<vn) (q2:bn<vn) (q3:∀c,o=some c->c<vn) (q4:∀c,aR av c->c<vn) (Q:FQ)
  (hQ:∀vh' vn' r lv',vn<=vn'->((nmL lv ((c9 lv n.p).2&&!decide (n.p=bH)) [] xs).2=true/\r=0/\lv'=lv\/(nmL lv ((c9 lv n.p).2&&!decide (n.p=bH)) [] xs).2=false/\r=2/\lv'=lv.dropLast)->vh' bn=some (.cells (cD {n with u:=(c9 lv n.p).1} av) ty 0 false)->SlR encA 4 vh' av (nmL lv ((c9 lv n.p).2&&!decide (n.p=bH)) [] xs).1->SP vh' b o lv'->(∀c,c<vn->c≠b->c≠bn->¬aR av c->vh' c=vh c)->Q .ret [(4,.int .i64 r)] vh' vn'):
  aC Tryz.prog X G (.cut EP) [(0,.ptr b 0),(1,.ptr bn 0)] vh vn Q:=by
 refine aC.cut ?_
 conv=>whnf
 refine Get.mk (_,_,_,_) hn ?_
 conv=>whnf
 refine Get.mk _ rfl ?_
 conv=>whnf
 refine (J3 H.toXS b o lv n.p vh vn hs hb hlv).mono fun v vh' vn' he=>?_;obtain⟨e1,e2,e3⟩:=he;rw[e1,e2,e3];clear e1 e2 e3
 conv=>whnf
 have go:∀(g:Bool) (vh2:VH),g=((c9 lv n.p).2&&!decide (n.p=bH))->vh2 bn=some (.cells (cD {n with u:=(c9 lv n.p).1} av) ty 0 false)->vh2 vn=some (.map [])->(∀c,c≠bn->c≠vn->vh2 c=vh c)->
   aC Tryz.prog X G (.cut EQ) [(0,.ptr b 0),(1,.ptr bn 0),(9,.bool g),(10,.map vn)] vh2 (vn+1) Q:=fun g vh2 hg n2 m2 f2=>by
  refine WQ H b bn vn o lv hb hlv _ av xs hN ty g vh2 (vn+1) (hs.at (f2 b d1 (by omega)) fun c hc=>f2 c (fun h=>d4 (by rw[hc,h])) (by have:=q3 c hc;omega)) n2 (ha.at fun c hc=>f2 c (fun h=>d3 (h▸hc)) (by have:=q4 c hc;omega)) m2 d1 d2 d3 d5 (by omega) (by omega) (fun h=>by have:=q4 vn h;omega) (fun h=>by have:=q3 vn h;omega) Q fun vh3 r lv' hr A3 s3 f3=>?_
  rw[hg] at hr A3;exact hQ vh3 (vn+1) r lv' (by omega) hr ((f3 bn (Ne.symm d1) (by omega) d3).trans n2) A3 s3 fun c hc h1 h2 h3=>(f3 c h1 (by omega) h3).trans (f2 c h2 (by omega))
 refine aB.mk (fun h1=>?_) (fun h1=>?_)
 ·conv=>whnf
  refine Get.mk (_,_,_,_) hn ?_
  conv=>whnf
  refine Get.mk _ rfl ?_
  conv=>whnf
  refine Get.mk (_,_,_,_) hn ?_
  conv=>whnf
  refine⟨⟨(by decide:5<=7),Nat.zero_le _⟩,?_⟩
  conv=>whnf
  exact go _ _ (by rw[h1];rfl) ((aG (by omega)).trans aK) aK fun c h1 h2=>(aG h2).trans (aG h1)
 ·conv=>whnf
  refine Get.mk (_,_,_,_) hn ?_
  conv=>whnf
  refine⟨⟨(by decide:5<=7),Nat.zero_le _⟩,?_⟩
  conv=>whnf
  exact go _ _ (by rw[h1];rfl) ((aG (by omega)).trans aK) aK fun c h1 h2=>(aG h2).trans (aG h1)
end
section
attribute [local irreducible] aM
variable {X : Ovr} {G : Gt}
def eJ(lv:List (List aA))(n:Nd):Bool×Nd×List (List aA):=
 match fI [] (n.s.map cH) with
 |none=>(false,{n with s:=n.s.map cH},lv)
 |some ms=>
  ((
   nmL (lv++[ms]) ((c9 (lv++[ms]) n.p).2&&!decide (n.p=bH)) [] (n.s.map cH)).2,
   {n with u:=(c9 (lv++[ms]) n.p).1,s:=(nmL (lv++[ms]) ((c9 (lv++[ms]) n.p).2&&!decide (n.p=bH)) [] (n.s.map cH)).1},
   if (nmL (lv++[ms]) ((c9 (lv++[ms]) n.p).2&&!decide (n.p=bH)) [] (n.s.map cH)).2=true then lv++[ms] else lv)
structure CN(vh:VH)(vn b bn:Nat)(o:Option Nat)(lv:List (List aA))(n:Nd)(av:V)(r:V)(vh':VH)(vn':Nat):Prop where
 nx:vn<=vn'
 hr:r=.int .i64 (if (eJ lv n).1=true then 0 else 2)
 hn:nV vh' bn (eJ lv n).2.1 av
 hs:SlR encA 4 vh' av (eJ lv n).2.1.s
 ho:∃o',SP vh' b o' (eJ lv n).2.2/\∀c,o'=some c->c<vn'/\(o=some c\/vn<=c)
 hf:∀c,c<vn->c≠b->c≠bn->o≠some c->¬aR av c->vh' c=vh c
set_option maxHeartbeats 4000000 in
theorem WS(H:XSN X)(b bn:Nat)(o:Option Nat)(lv:List (List aA))(hb:∀l∈lv,l.length<2^30)(hlv:lv.length<2^29)(n:Nd)(av:V)(hN:n.s.length<2^30)(vh:VH)(vn:Nat)(hs:SP vh b o lv)(hn:nV vh bn n av)(ha:SlR encA 4 vh av n.s)
  (d1:b≠bn) (d2:¬aR av b) (d3:¬aR av bn) (d4:o≠some bn) (d5:∀c,aR av c->o≠some c) (q1:b<vn) (q2:bn<vn) (q3:∀c,o=some c->c<vn) (q4:∀c,aR av c->c<vn):
  aE Tryz.prog X G yS [.ptr b 0,.ptr bn 0] vh vn fun r vh' vn'=>CN vh vn b bn o lv n av r vh' vn':=by
 apply aEX.run H.names;obtain⟨ty,hn⟩:=hn;have push:=fun (vh1:VH) (s1:SP vh1 b o lv) (a1:SlR encA 4 vh1 av (n.s.map cH))=>WX (G:=G) H.toXS b o lv av (n.s.map cH) vh1 vn s1 q1 q3 (by omega) (.inl a1) q4 (by rw[List.length_map];exact hN)
 have fin:∀(r:V) (vh1 vh2:VH) (n2:Nat),vh1 bn=some (.cells (cD n av) ty 0 false)->SlR encA 4 vh1 av (n.s.map cH)->SP vh1 b o lv->(∀c,¬aR av c->vh1 c=vh c)->rM vh1 vn b o lv (n.s.map cH) r vh2 n2->
   (r=.int .i64 2/\CN vh vn b bn o lv n av (.int .i64 2) vh2 n2)\/(r=.int .i64 0/\aC Tryz.prog X G (.cut EP) [(0,.ptr b 0),(1,.ptr bn 0)] vh2 n2 (AL G SR fun r vh' vn'=>CN vh vn b bn o lv n av r vh' vn')):=by
  intro r vh1 vh2 n2 n1 a1 s1 f1 PQ;cases hp:fI [] (n.s.map cH) with
  |none=>
   obtain⟨e1,f2⟩:=PQ.bad hp;have e0:eJ lv n=(false,{n with s:=n.s.map cH},lv):=by simp only[eJ,hp]
   refine .inl ⟨e1,PQ.nx,by rw[e0];rfl,⟨ty,by rw[e0];exact (f2 bn q2).trans n1⟩,by rw[e0];exact a1.at fun c hc=>f2 c (q4 c hc),⟨o,by rw[e0];exact s1.at (f2 b q1) fun c hc=>f2 c (q3 c hc),fun c hc=>⟨by have:=q3 c hc;have:=PQ.nx;omega,.inl hc⟩⟩,fun c hc _ _ _ h5=>(f2 c hc).trans (f1 c h5)⟩
  |some ms=>
   obtain⟨e1,o',s2,ho',f2⟩:=PQ.good ms hp;have g2:=PQ.nx;have hms:ms.length<2^30:=by have:=BG _ _ _ hp;simp only[List.length_nil,List.length_map] at this;omega
   refine .inr ⟨e1,?_⟩;have fo:∀c,c<vn->o≠some c->c≠b->vh2 c=vh1 c:=fun c h1 h2 h3=>f2 c h1 h3 h2;refine WP H b bn o' (lv++[ms]) (fun l hl=>?_) (by rw[List.length_append,List.length_singleton];omega) n av (n.s.map cH) (by rw[List.length_map];exact hN) ty vh2 n2 s2 ((fo bn q2 d4 (Ne.symm d1)).trans n1) (a1.at fun c hc=>fo c (q4 c hc) (d5 c hc) fun h=>d2 (h▸hc)) d1 d2 d3 (fun h=>?_) (fun c hc h=>?_) (by omega) (by omega) (fun c hc=>(ho' c hc).1) (fun c hc=>by have:=q4 c hc;omega) _ fun vh3 n3 r lv' g3 hr n3' a3 s3 f3=>?_
   ·rcases List.mem_append.1 hl with h|h
    ·exact Nat.lt_trans (hb l h) (by decide)
    ·rw[List.mem_singleton.1 h];exact Nat.lt_trans hms (by decide)
   ·rcases (ho' bn h).2 with h|h
    ·exact d4 h
    ·omega
   ·rcases (ho' c h).2 with h|h
    ·exact d5 c hc h
    ·have:=q4 c hc;omega
   ·have e0:eJ lv n=((nmL (lv++[ms]) ((c9 (lv++[ms]) n.p).2&&!decide (n.p=bH)) [] (n.s.map cH)).2,{n with u:=(c9 (lv++[ms]) n.p).1,s:=(nmL (lv++[ms]) ((c9 (lv++[ms]) n.p).2&&!decide (n.p=bH)) [] (n.s.map cH)).1},if (nmL (lv++[ms]) ((c9 (lv++[ms]) n.p).2&&!decide (n.p=bH)) [] (n.s.map cH)).2=true then lv++[ms] else lv):=by simp only[eJ,hp]
    conv=>whnf
    refine Get.mk vh3 (fun _ _ h=>h) ⟨(by omega:vn<=n3),?_,⟨ty,by rw[e0];exact n3'⟩,by rw[e0];exact a3,⟨o',?_,fun c hc=>⟨(by have:=(ho' c hc).1;omega:c<n3),(ho' c hc).2⟩⟩,fun c hc h1 h2 h3 h4=>(f3 c (by omega) h1 h2 h4).trans ((fo c hc h3 h1).trans (f1 c h4))⟩
    ·rw[e0];rcases hr with⟨h1,rfl,_⟩|⟨h1,rfl,_⟩<;>simp[h1]
    ·rw[e0];rcases hr with⟨h1,_,rfl⟩|⟨h1,_,rfl⟩
     ·simp only[h1,if_true];exact s3
     ·simp only[h1,Bool.false_eq_true,if_false];rw[List.dropLast_concat] at s3;exact s3
 conv=>whnf
 refine Get.mk (_,_,_,_) hn ?_
 conv=>whnf
 refine Get.mk _ rfl ?_
 conv=>whnf
 obtain⟨w,hw⟩:∃w,w=av:=⟨_,rfl⟩;rcases id ha with⟨h0,rfl⟩|⟨h0,rfl⟩|⟨ba,ta,rfl,h4⟩
 ·conv=>whnf
  refine aC.round ?_
  conv=>whnf
  refine Get.mk (_,_,_,_) hn ?_
  conv=>whnf
  refine Get.mk _ rfl ?_
  conv=>whnf
  have hm0:n.s.map cH=[]:=by rw[h0];rfl
  have a1:SlR encA 4 vh .nils (n.s.map cH):=by rw[hm0];exact .inl ⟨rfl,rfl⟩
  refine (push vh hs a1).mono fun r vh2 n2 PQ=>?_;rcases fin r vh vh2 n2 hn a1 hs (fun _ _=>rfl) PQ with⟨rfl,hq⟩|⟨rfl,hq⟩
  ·conv=>whnf
   exact Get.mk _ (fun _ _ h=>h) hq
  ·conv=>whnf
   exact hq
 ·conv=>whnf
  refine aC.round ?_
  conv=>whnf
  refine Get.mk (_,_,_,_) hn ?_
  conv=>whnf
  refine Get.mk _ rfl ?_
  conv=>whnf
  have hm0:n.s.map cH=[]:=by rw[h0];rfl
  have a1:SlR encA 4 vh (.sl 4 [] (some 0)) (n.s.map cH):=by rw[hm0];exact .inr (.inl ⟨rfl,rfl⟩)
  refine (push vh hs a1).mono fun r vh2 n2 PQ=>?_;rcases fin r vh vh2 n2 hn a1 hs (fun _ _=>rfl) PQ with⟨rfl,hq⟩|⟨rfl,hq⟩
  ·conv=>whnf
   exact Get.mk _ (fun _ _ h=>h) hq
  ·conv=>whnf
   exact hq
 ·have e2:ba≠bn:=fun h=>d3 h.symm;have e1:ba≠b:=fun h=>d2 h.symm
  conv=>whnf
  refine JY b bn ba n n.s.length hN vn e2 ty ta _ n.s.length 0 rfl (Nat.zero_le _) vh n.s rfl hn h4 fun vh1 i' t a1 f1=>?_;rw[List.drop_zero,List.take_zero,List.nil_append] at a1;have hn1:=(f1 bn (Ne.symm e2)).trans hn;have A1:SlR encA 4 vh1 (.msl ba 0 n.s.length 4 none) (n.s.map cH):=.inr (.inr ⟨ba,ta,by rw[List.length_map],a1⟩)
  have s1:SP vh1 b o lv:=hs.at (f1 b (Ne.symm e1)) fun c hc=>f1 c fun h=>d5 ba rfl (by rw[hc,h])
  conv=>whnf
  refine Get.mk (_,_,_,_) hn1 ?_
  conv=>whnf
  refine Get.mk _ rfl ?_
  conv=>whnf
  refine (push vh1 s1 A1).mono fun r vh2 n2 PQ=>?_;rcases fin r vh1 vh2 n2 hn1 A1 s1 (fun c hc=>f1 c hc) PQ with⟨rfl,hq⟩|⟨rfl,hq⟩
  ·conv=>whnf
   exact Get.mk _ (fun _ _ h=>h) hq
  ·conv=>whnf
   exact hq
end
section
attribute [local irreducible] aM
variable {X : Ovr} {G : Gt}
theorem UT(hX:X uY=none)(xs:List aA)(c:Option Nat)(hN:xs.length<2^30)(vh:VH)(vn:Nat):
  aE Tryz.prog X G uY [.sl 4 (xs.map encA) c] vh vn fun r vh' vn'=>vn<=vn'/\dP vn vh' vn' r xs/\∀d,d<vn->vh' d=vh d:=by
 apply aE4.run hX;have room1:room 64 xs.length:=⟨by omega,by show _<9223372036854775808;omega⟩
 cases xs with
 |nil=>
  conv=>whnf
  intro q;cases q with
  |true=>
   conv=>whnf
   exact Get.mk vh (fun _ _ h=>h) ⟨Nat.le_refl _,.nil,fun _ _=>rfl⟩
  |false=>
   conv=>whnf
   refine aQ.fresh (enc:=encA) (xs:=([]:List aA)) (lo:=vn) rfl (Nat.le_refl _) room1 fun v1 vh1 n1 A1 g1 f1=>?_;rcases id A1 with⟨rfl|rfl,_⟩|⟨b,_,_,rfl,_⟩
   all_goals
    conv=>whnf
    exact Get.mk vh1 (fun _ _ h=>h) ⟨g1,A1,fun d hd=>f1 d (by omega)⟩
 |cons a l=>
  conv=>whnf
  refine aQ.fresh (enc:=encA) (xs:=a::l) (lo:=vn) rfl (Nat.le_refl _) room1 fun v1 vh1 n1 A1 g1 f1=>?_;rcases id A1 with⟨rfl|rfl,_⟩|⟨b,_,_,rfl,_⟩
  all_goals
   conv=>whnf
   exact Get.mk vh1 (fun _ _ h=>h) ⟨g1,A1,fun d hd=>f1 d (by omega)⟩
theorem I1(ba:Nat)(ta:TypeId)(xs ys:List aA)(c:Option Nat)(hl:xs.length=ys.length)(hN:xs.length<2^30)(vh:VH)(vn:Nat)(ha:vh ba=some (.cells (xs.map encA).flatten ta 0 false))(Q:FQ):∀(m i:Nat),xs.length-i=m->i<=xs.length->
  (¬xs.drop i=ys.drop i->Q .ret [(4,.bool false)] vh vn)->
  (xs.drop i=ys.drop i->∀i' t,Q (.exit 0) [(0,.msl ba 0 xs.length 4 none),(1,.sl 4 (ys.map encA) c),(12,.int .i64 (xs.length:Int)),(13,.int .i64 i'),(14,.bool t)] vh vn)->
  aC Tryz.prog X G (.loop ND) [(0,.msl ba 0 xs.length 4 none),(1,.sl 4 (ys.map encA) c),(12,.int .i64 (xs.length:Int)),(13,.int .i64 (i:Int))] vh vn Q
 |m,i,hm,hi,hR,hQ=>by
  refine aC.round ?_
  conv=>whnf
  refine aB.mk (fun h1=>?_) (fun h1=>?_)
  ·have hlt:i<xs.length:=by simp at h1;omega
   have hly:i<ys.length:=by omega
   have hd:xs.drop i=xs[i]::xs.drop (i+1):=(List.getElem_cons_drop hlt).symm;have hd2:ys.drop i=ys[i]::ys.drop (i+1):=(List.getElem_cons_drop hly).symm;rw[hd,hd2] at hR hQ;have e:wr .i64 ((i:Int)+1)=((i+1:Nat):Int):=by rw[aF]<;>omega
   conv=>whnf
   refine Get.mk i ⟨rfl,hlt⟩ ?_
   conv=>whnf
   refine Get.mk (_,_,_,_) ha ?_
   conv=>whnf
   refine Get.mk _ (mP hlt) ?_
   conv=>whnf
   refine Get.mk (i,encA ys[i]) ⟨rfl,by simp[hly]⟩ ?_
   conv=>whnf
   refine aB.mk (fun h2=>?_) (fun h2=>?_)
   ·have h2:(!decide ([xs[i].p,xs[i].l,xs[i].u,xs[i].v]=[ys[i].p,ys[i].l,ys[i].u,ys[i].v]))=true:=h2
    conv=>whnf
    refine hR fun h=>?_;rw[(List.cons.inj h).1] at h2;simp at h2
   ·have h2:(!decide ([xs[i].p,xs[i].l,xs[i].u,xs[i].v]=[ys[i].p,ys[i].l,ys[i].u,ys[i].v]))=false:=h2;have h2':xs[i]=ys[i]:=DZ (by simpa using h2)
    conv=>whnf
    rw[e];refine I1 ba ta xs ys c hl hN vh vn ha Q (m-1) (i+1) (by omega) (by omega) (fun h=>hR fun h3=>h (List.cons.inj h3).2) (fun h=>hQ (by rw[h,h2']))
  ·have hlt:i=xs.length:=by simp at h1;omega
   have e1:xs.drop i=ys.drop i:=by rw[hlt,List.drop_length,hl,List.drop_length]
   conv=>whnf
   exact hQ e1 _ _
termination_by m=>m
decreasing_by all_goals omega
theorem UY(hX:X uZ=none)(v:V)(xs ys:List aA)(c:Option Nat)(hN:xs.length<2^30)(vh:VH)(vn:Nat)(ha:SlR encA 4 vh v xs):
  aE Tryz.prog X G uZ [v,.sl 4 (ys.map encA) c] vh vn fun r vh' vn'=>vh'=vh/\vn'=vn/\r=.bool (decide (xs.map cE=ys.map cE)):=by
 apply aE6.run hX;have tt:decide (([]:List aA).map cE=([]:List aA).map cE)=true:=rfl;have n1:∀zs:List aA,zs≠[]->decide (([]:List aA).map cE=zs.map cE)=false:=fun zs hz=>by cases zs with|nil=>exact (hz rfl).elim|cons _ _=>simp
 rcases id ha with⟨rfl,rfl⟩|⟨rfl,rfl⟩|⟨ba,ta,rfl,h4⟩
 ·conv=>whnf
  refine aB.mk (fun h1=>?_) (fun h1=>?_)
  ·have hne:ys≠[]:=fun h=>by subst h;simp at h1
   conv=>whnf
   exact Get.mk _ (fun _ _ h=>h) ⟨rfl,rfl,by rw[n1 ys hne]⟩
  ·have hy:ys=[]:=by first|simpa using h1|exact List.eq_nil_of_length_eq_zero (by simp at h1;omega)
   subst hy
   conv=>whnf
   refine aC.round ?_
   conv=>whnf
   exact Get.mk _ (fun _ _ h=>h) ⟨rfl,rfl,by rw[tt]⟩
 ·conv=>whnf
  refine aB.mk (fun h1=>?_) (fun h1=>?_)
  ·have hne:ys≠[]:=fun h=>by subst h;simp at h1
   conv=>whnf
   exact Get.mk _ (fun _ _ h=>h) ⟨rfl,rfl,by rw[n1 ys hne]⟩
  ·have hy:ys=[]:=by first|simpa using h1|exact List.eq_nil_of_length_eq_zero (by simp at h1;omega)
   subst hy
   conv=>whnf
   refine aC.round ?_
   conv=>whnf
   exact Get.mk _ (fun _ _ h=>h) ⟨rfl,rfl,by rw[tt]⟩
 ·conv=>whnf
  refine aB.mk (fun h1=>?_) (fun h1=>?_)
  ·have hne:¬xs.map cE=ys.map cE:=fun h=>by rw[oB] at h;subst h;simp at h1
   conv=>whnf
   exact Get.mk _ (fun _ _ h=>h) ⟨rfl,rfl,by simp only[hne,decide_false]⟩
  ·have hl:xs.length=ys.length:=by simp at h1;omega
   conv=>whnf
   refine I1 ba ta xs ys c hl hN vh vn h4 _ xs.length 0 rfl (Nat.zero_le _) (fun h=>?_) (fun h i' t=>?_)
   ·rw[List.drop_zero,List.drop_zero] at h
    conv=>whnf
    exact Get.mk _ (fun _ _ h=>h) ⟨rfl,rfl,by rw[decide_eq_false (fun h2=>h (oB.1 h2))]⟩
   ·rw[List.drop_zero,List.drop_zero] at h
    conv=>whnf
    exact Get.mk _ (fun _ _ h=>h) ⟨rfl,rfl,by rw[decide_eq_true (oB.2 h)]⟩
def Frm(vh:VH)(vn:Nat)(vh':VH)(vn':Nat):Prop:=vn<=vn'/\∀c,c<vn->vh' c=vh c
structure l9(X:Ovr)(G:Gt)(PN:List Nat->List Nat->Prop)(PV PT:List Nat->Prop):Prop where
 named:∀p l,PN p l->∀vh vn,aE Tryz.prog X G u9 [.str p,.str l] vh vn fun v vh' vn'=>v=.bool (dT p l)/\Frm vh vn vh' vn'
 chars:∀s,PV s->∀vh vn,aE Tryz.prog X G u7 [.str s] vh vn fun v vh' vn'=>v=.bool (fY s)/\Frm vh vn vh' vn'
 target:∀s,PT s->∀vh vn,aE Tryz.prog X G zB [.str s] vh vn fun v vh' vn'=>v=.bool (pC s)/\Frm vh vn vh' vn'
 contains:∀s w,PV s->w∈[iC,rT,rW]->∀vh vn,aE Tryz.prog X G pR [.str s,.str w] vh vn fun v vh' vn'=>v=.bool (iJ s w)/\Frm vh vn vh' vn'
 suffix:∀s,PV s->∀vh vn,aE Tryz.prog X G y8 [.str s,.str zO] vh vn fun v vh' vn'=>v=.bool (!decide (s=[])&&decide ((s.getLastD 0:Int)=45))/\Frm vh vn vh' vn'
 spaces:∀s,PV s->∀vh vn,aE Tryz.prog X G zA [.str s,.int .i64 0] vh vn fun v vh' vn'=>∃k,v=.int .i64 k/\(k=0↔(s=[]\/o9 (wr .i32 (.ofNat (s.headD 0)))=false))/\Frm vh vn vh' vn'
end
section
attribute [local irreducible] aM
variable {X : Ovr} {G : Gt} {PN : List Nat → List Nat → Prop} {PV PT : List Nat → Prop}
structure XTE(X:Ovr):Prop extends XSN X where
 clone:X uY=none
 equal:X uZ=none
 ec1:X rH=none
 telement:X zE=none
def cY:Bool->List aA->List aA->Bool
 |g,_,[]=>g
 |g,pre,a::l=>cY (((g&&dT a.p a.l)&&fY a.v)&&!pre.any (bW a)) (pre++[a]) l
def clr(a:aA):aA:={a with u:=[]}
abbrev elE(b:Nat)(n:Nd)(g:Bool)(bx:Nat)(i:Int)(tl:aH):aH:=(1,.ptr b 0)::(2,.bx (aO n))::(5,.bool g)::(6,.ptr bx 0)::(25,.sl 4 (n.s.map encA) none)::(26,.int .i64 (n.s.length:Int))::(27,.int .i64 i)::tl
set_option maxHeartbeats 4000000 in
theorem KH(H:XTE X)(Lb:l9 X G PN PV PT)(b bx ba:Nat)(n nx:Nd)(hN:n.s.length<2^30)(hp:∀a∈n.s,PN a.p a.l/\PV a.v)(d3:ba≠bx)(ty ta:TypeId)(Q:FQ):∀(m i:Nat),n.s.length-i=m->i<=n.s.length->∀(vh:VH) (vn:Nat) (ys:List aA) (g:Bool),ys.length=n.s.length->ba<vn->bx<vn->vh bx=some (.cells (cD nx (.msl ba 0 n.s.length 4 none)) ty 0 false)->vh ba=some (.cells (ys.map encA).flatten ta 0 false)->
  (∀vh' vn' i' t,vn<=vn'->vh' ba=some (.cells ((ys.take i++(ys.drop i).map clr).map encA).flatten ta 0 false)->(∀c,c<vn->c≠ba->vh' c=vh c)->Q (.exit 0) (elE b n (cY g (n.s.take i) (n.s.drop i)) bx i' [(28,.bool t)]) vh' vn')->
  aC Tryz.prog X G (.loop EY) (elE b n g bx i []) vh vn Q
 |m,i,hm,hi,vh,vn,ys,g,hys,lba,lbx,hx,ha,hQ=>by
  refine aC.round ?_
  conv=>whnf
  refine aB.mk (fun h1=>?_) (fun h1=>?_)
  ·have hlt:i<n.s.length:=by simp at h1;omega
   have hly:i<ys.length:=by omega
   have hd:ys.drop i=ys[i]::ys.drop (i+1):=(List.getElem_cons_drop hly).symm;have hd2:n.s.drop i=n.s[i]::n.s.drop (i+1):=(List.getElem_cons_drop hlt).symm;rw[hd,hd2] at hQ;simp only[List.map_cons,cY] at hQ;obtain⟨pn,pv⟩:=hp _ (List.getElem_mem hlt);have e:wr .i64 ((i:Int)+1)=((i+1:Nat):Int):=by rw[aF]<;>omega
   have hw:0+i*4+2+1<=(ys.map encA).flatten.length:=by have:=lH cV ys i hly;omega
   have ht:n.s.take i++[n.s[i]]=n.s.take (i+1):=by simp
   rw[ht] at hQ
   conv=>whnf
   refine Get.mk (i,encA n.s[i]) ⟨rfl,by simp[hlt]⟩ ?_
   conv=>whnf
   refine Get.mk (_,_,_,_) hx ?_
   conv=>whnf
   refine Get.mk _ rfl ?_
   conv=>whnf
   refine Get.mk i ⟨rfl,hlt⟩ ?_
   conv=>whnf
   refine Get.mk (_,_,_,_) ha ?_
   conv=>whnf
   refine⟨⟨hw,Nat.zero_le _⟩,?_⟩
   conv=>whnf
   generalize hv1:aI vh ba _=vh1;have a1:vh1 ba=some (.cells ((ys.set i (clr ys[i])).map encA).flatten ta 0 false):=by rw[<-hv1];refine aK.trans ?_;rw[clr,<-qC _ _ hly]
   have f1:∀c,c≠ba->vh1 c=vh c:=fun c hc=>by rw[<-hv1];exact aG hc
   clear hv1;have nxt:∀(vh2:VH) (n2:Nat) (g1:Bool),Frm vh1 vn vh2 n2->g1=(((g&&dT n.s[i].p n.s[i].l)&&fY n.s[i].v)&&!(n.s.take i).any (bW n.s[i]))->
     aC Tryz.prog X G (.loop EY) (elE b n g1 bx ((i+1:Nat):Int) []) vh2 n2 Q:=fun vh2 n2 g1 ⟨g2,f2⟩ hg=>by
    have hpp:(ys.set i (clr ys[i])).take (i+1)=ys.take i++[clr ys[i]]:=by have:=nP ys i hly (clr ys[i]) [];simpa using this
    refine KH H Lb b bx ba n nx hN hp d3 ty ta Q (m-1) (i+1) (by omega) (by omega) vh2 n2 (ys.set i (clr ys[i])) g1 (by rw[List.length_set];exact hys) (by omega) (by omega) ((f2 bx lbx).trans ((f1 bx (Ne.symm d3)).trans hx)) ((f2 ba lba).trans a1) ?_
    rw[hpp,k0,hg];refine fun vh' vn' i' t h0 h1 h2=>hQ vh' vn' i' t (by omega) ?_ fun c hc hcb=>(h2 c (by omega) hcb).trans ((f2 c hc).trans (f1 c hcb))
    rw[List.append_assoc] at h1;exact h1
   have frm0:Frm vh1 vn vh1 vn:=⟨Nat.le_refl _,fun _ _=>rfl⟩;refine aB.mk (fun h2=>?_) (fun h2=>?_)
   ·conv=>whnf
    refine (Lb.named _ _ pn vh1 vn).mono fun v vh2 n2 he=>?_;obtain⟨e1,F2⟩:=he;rw[e1]
    conv=>whnf
    refine aB.mk (fun h3=>?_) (fun h3=>?_)
    ·conv=>whnf
     refine (Lb.chars _ pv vh2 n2).mono fun v vh3 n3 he=>?_;obtain⟨e1,F3⟩:=he;rw[e1];have F13:Frm vh1 vn vh3 n3:=⟨Nat.le_trans F2.1 F3.1,fun c hc=>(F3.2 c (Nat.lt_of_lt_of_le hc F2.1)).trans (F2.2 c hc)⟩
     conv=>whnf
     refine aB.mk (fun h4=>?_) (fun h4=>?_)
     ·conv=>whnf
      refine Get.mk i rfl ?_
      conv=>whnf
      refine⟨⟨Nat.zero_le _,by simp;omega⟩,?_⟩
      conv=>whnf
      have esl:V.sl 4 (((n.s.map encA).drop 0).take (i-0)) none=.sl 4 ((n.s.take i).map encA) none:=by rw[List.drop_zero,Nat.sub_zero,List.map_take]
      rw[esl];refine (CG H.index H.contains (bW n.s[i]) rH [.fp (encA n.s[i]) 0] (fun b vh vn=>aBz H.ec1 n.s[i] b vh vn) _ (n.s.take i) (by rw[List.length_take];omega) vh3 n3 (.inr ⟨none,rfl⟩)).mono fun v vh4 n4 he=>?_
      obtain⟨e1,e2,e3⟩:=he;rw[e1,e2,e3]
      conv=>whnf
      rw[e];exact nxt vh3 n3 _ F13 (by clear hQ nxt;simp_all)
     ·conv=>whnf
      rw[e];exact nxt vh3 n3 _ F13 (by clear hQ nxt;simp_all)
    ·conv=>whnf
     rw[e];exact nxt vh2 n2 _ F2 (by clear hQ nxt;simp_all)
   ·conv=>whnf
    rw[e];exact nxt vh1 vn _ frm0 (by clear hQ nxt;simp_all)
  ·have hlt:i=n.s.length:=by simp at h1;omega
   have e1:ys.drop i=[]:=by rw[hlt,<-hys,List.drop_length]
   have e2:ys.take i=ys:=by rw[hlt,<-hys,List.take_length]
   have e3:n.s.drop i=[]:=by rw[hlt,List.drop_length]
   rw[e1,e2,e3] at hQ
   conv=>whnf
   exact hQ vh vn _ _ (Nat.le_refl _) (by simpa using ha) fun _ _ _=>rfl
termination_by m=>m
decreasing_by all_goals omega
end
section
attribute [local irreducible] aM
variable {X : Ovr} {G : Gt} {PN : List Nat → List Nat → Prop} {PV PT : List Nat → Prop}
def eG(n:Nd):Nd:={n with s:=n.s.map clr}
def elG(lv:List (List aA))(n:Nd)(g:Bool):Bool×List (List aA):=if g=true then (((eJ lv (eG n)).1&&decide ((eJ lv (eG n)).2.1.u=n.u))&&decide ((eJ lv (eG n)).2.1.s.map cE=n.s.map cE),(eJ lv (eG n)).2.2) else (false,lv)
def elT(lv:List (List aA))(n:Nd):Bool×List (List aA):=elG lv n (cY (dT n.p n.l&&decide (n.v=[])) [] n.s)
theorem aF9(lv:List (List aA))(n:Nd):(eJ lv n).2.1.s.length=n.s.length:=by
 unfold eJ;split
 ·simp
 ·simp[GS]
set_option maxHeartbeats 4000000 in
theorem XH(H:XTE X)(b bx:Nat)(o:Option Nat)(lv:List (List aA))(hb:∀l∈lv,l.length<2^30)(hlv:lv.length<2^29)(n:Nd)(hN:n.s.length<2^30)(av:V)(g:Bool)(i:Int)(tl:aH)(vh:VH)(vn:Nat)(hs:SP vh b o lv)(hx:nV vh bx (eG n) av)(ha:SlR encA 4 vh av (eG n).s)
  (d1:b≠bx) (d2:¬aR av b) (d3:¬aR av bx) (d4:o≠some bx) (d5:∀c,aR av c->o≠some c) (q1:b<vn) (q2:bx<vn) (q3:∀c,o=some c->c<vn) (q4:∀c,aR av c->c<vn) (Q:FQ)
  (hQ:∀vh' vn' o',vn<=vn'->SP vh' b o' (elG lv n g).2->(∀c,o'=some c->c<vn'/\(o=some c\/vn<=c))->(∀c,c<vn->c≠b->c≠bx->o≠some c->¬aR av c->vh' c=vh c)->Q .ret [(4,.bool (elG lv n g).1)] vh' vn'):
  aC Tryz.prog X G (.cut NJ) (elE b n g bx i tl) vh vn Q:=by
 refine aC.cut ?_
 conv=>whnf
 refine aB.mk (fun h1=>?_) (fun h1=>?_)
 ·rw[h1] at hQ;simp only[elG,if_true] at hQ
  conv=>whnf
  refine (WS H.toXSN b bx o lv hb hlv (eG n) av (by show (n.s.map clr).length<_;rw[List.length_map];exact hN) vh vn hs hx ha d1 d2 d3 d4 d5 q1 q2 q3 q4).mono fun r vh2 n2 NQ=>?_
  obtain⟨o',s2,ho'⟩:=NQ.ho;obtain⟨ty2,hx2⟩:=NQ.hn;have a2:=NQ.hs;have fin:=fun (q:Bool) (hq:q=(((eJ lv (eG n)).1&&decide ((eJ lv (eG n)).2.1.u=n.u))&&decide ((eJ lv (eG n)).2.1.s.map cE=n.s.map cE)))=>(by rw[hq];exact hQ vh2 n2 o' NQ.nx s2 ho' NQ.hf:Q .ret [(4,.bool q)] vh2 n2)
  rw[NQ.hr];cases hnt:(eJ lv (eG n)).1 with
  |false=>
   rw[hnt] at fin
   conv=>whnf
   exact fin _ (by simp)
  |true=>
   rw[hnt] at fin;have eqk:=fun vh vn (a:SlR encA 4 vh av (eJ lv (eG n)).2.1.s)=>UY (G:=G) H.equal av (eJ lv (eG n)).2.1.s n.s none (by rw[aF9];show (n.s.map clr).length<_;rw[List.length_map];exact hN) vh vn a
   conv=>whnf
   refine Get.mk (_,_,_,_) hx2 ?_
   conv=>whnf
   refine Get.mk _ rfl ?_
   conv=>whnf
   refine aB.mk (fun h2=>?_) (fun h2=>?_)
   ·have h2':=of_decide_eq_true h2;rcases id a2 with⟨e0,rfl⟩|⟨e0,rfl⟩|⟨ba,ta,rfl,h4⟩
    all_goals
     conv=>whnf
     refine Get.mk (_,_,_,_) hx2 ?_
     conv=>whnf
     refine Get.mk _ rfl ?_
     conv=>whnf
     refine (eqk vh2 n2 a2).mono fun v vh3 n3 he=>?_;obtain⟨e1,e2,e3⟩:=he;rw[e1,e2,e3]
     conv=>whnf
     exact fin _ (by simp[h2'])
   ·have h2':=of_decide_eq_false h2
    conv=>whnf
    exact fin _ (by simp[h2'])
 ·rw[h1] at hQ;simp only[elG,Bool.false_eq_true,if_false] at hQ
  conv=>whnf
  exact hQ vh vn o (Nat.le_refl _) hs (fun c hc=>⟨q3 c hc,.inl hc⟩) fun _ _ _ _ _ _=>rfl
end
section
attribute [local irreducible] aM
variable {X : Ovr} {G : Gt} {PN : List Nat → List Nat → Prop} {PV PT : List Nat → Prop}
set_option maxHeartbeats 4000000 in
theorem XI(H:XTE X)(Lb:l9 X G PN PV PT)(b:Nat)(o:Option Nat)(lv:List (List aA))(hb:∀l∈lv,l.length<2^30)(hlv:lv.length<2^29)(n:Nd)(hN:n.s.length<2^30)(hp:∀a∈n.s,PN a.p a.l/\PV a.v)(g:Bool)(vh:VH)(vn:Nat)(hs:SP vh b o lv)(q1:b<vn)(q3:∀c,o=some c->c<vn)(Q:FQ)
  (hQ:∀vh' vn' o',vn<=vn'->SP vh' b o' (elG lv n (cY g [] n.s)).2->(∀c,o'=some c->c<vn'/\(o=some c\/vn<=c))->(∀c,c<vn->c≠b->o≠some c->vh' c=vh c)->Q .ret [(4,.bool (elG lv n (cY g [] n.s)).1)] vh' vn'):
  aC Tryz.prog X G (.cut EZ) [(1,.ptr b 0),(2,.bx (aO n)),(5,.bool g)] vh vn Q:=by
 refine aC.cut ?_
 conv=>whnf
 refine Get.mk (_,_,_,_) aK ?_
 conv=>whnf
 refine⟨⟨(by decide:7<=7),Nat.zero_le _⟩,?_⟩
 conv=>whnf
 generalize hv1:aI (aI vh vn _) vn _=vh1;have hx1:vh1 vn=some (.cells (aO n) cS 0 false):=by rw[<-hv1];exact aK
 have f1:∀c,c≠vn->vh1 c=vh c:=fun c hc=>by rw[<-hv1];exact (aG hc).trans (aG hc)
 clear hv1;refine (UT H.clone n.s none hN vh1 (vn+1)).mono fun r vh2 n2 he=>?_;obtain⟨g2,A2,f2⟩:=he;have hx2:=(f2 vn (by omega)).trans hx1
 have hav:∀c,aR r c->vn+1<=c/\c<n2:=fun c hc=>by
  rcases A2 with⟨rfl|rfl,_⟩|⟨ba,hb1,hb2,rfl,_⟩
  ·cases hc
  ·cases hc
  ·obtain rfl:c=ba:=hc;exact⟨hb1,hb2⟩
 have hl:Int.ofNat (n.s.map encA).length=(n.s.length:Int):=by simp
 obtain⟨w,hw⟩:∃w,w=r:=⟨_,rfl⟩;rcases id A2 with⟨rfl|rfl,h0⟩|⟨ba,hb1,hb2,rfl,h4⟩
 all_goals
  conv=>whnf
  refine Get.mk (_,_,_,_) hx2 ?_
  conv=>whnf
  refine⟨⟨(by decide:7<=7),Nat.zero_le _⟩,?_⟩
  conv=>whnf
  rw[hl];generalize hv3:aI vh2 vn _=vh3;have hx3:vh3 vn=some (.cells (cD (eG n) w) cS 0 false):=by rw[hw,<-hv3];exact aK
  rw[hw] at hx3;have f3:∀c,c≠vn->vh3 c=vh2 c:=fun c hc=>by rw[<-hv3];exact aG hc
  clear hv3;have A3:=A2.r.at (vh':=vh3) fun c hc=>f3 c (by have:=hav c hc;omega)
  have r11:=fun (g:Bool) (i:Int) (tl:aH) (vh4:VH) (n4:Nat) (g4:n2<=n4) (f4:∀c,c<n2->¬aR _ c->vh4 c=vh3 c) (a4:SlR encA 4 vh4 _ (eG n).s) (Q:FQ)=>XH (G:=G) H b vn o lv hb hlv n hN _ g i tl vh4 n4 (hs.at ((f4 b (by omega) fun h=>by have:=hav b h;omega).trans ((f3 b (by omega)).trans ((f2 b (by omega)).trans (f1 b (by omega))))) fun c hc=>by have:=q3 c hc;exact (f4 c (by omega) fun h=>by have:=hav c h;omega).trans ((f3 c (by omega)).trans ((f2 c (by omega)).trans (f1 c (by omega))))) ⟨cS,(f4 vn (by omega) fun h=>by have:=hav vn h;omega).trans hx3⟩ a4 (by omega) (fun h=>by have:=hav b h;omega) (fun h=>by have:=hav vn h;omega) (fun h=>by have:=q3 vn h;omega) (fun c hc h=>by have:=hav c hc;have:=q3 c h;omega) (by omega) (by omega) (fun c hc=>by have:=q3 c hc;omega) (fun c hc=>by have:=hav c hc;omega) Q
  have mW:∀(vh4:VH) (n4:Nat) (g4:n2<=n4) (f4:∀c,c<n2->¬aR w c->vh4 c=vh3 c) (vh5:VH) (n5:Nat) (o':Option Nat),n4<=n5->SP vh5 b o' (elG lv n (cY g [] n.s)).2->(∀c,o'=some c->c<n5/\(o=some c\/n4<=c))->(∀c,c<n4->c≠b->c≠vn->o≠some c->¬aR w c->vh5 c=vh4 c)->Q .ret [(4,.bool (elG lv n (cY g [] n.s)).1)] vh5 n5:=fun vh4 n4 g4 f4 vh5 n5 o' g5 s5 ho5 f5=>by
   rw[hw] at f4 f5;refine hQ vh5 n5 o' (by omega) s5 (fun c hc=>⟨(ho5 c hc).1,(ho5 c hc).2.elim .inl fun h=>.inr (by omega)⟩) fun c hc hcb hco=>?_
   have hnb:∀h,False:=fun (h:aR _ c)=>by have:=hav c h;omega
   exact (f5 c (by omega) hcb (by omega) hco hnb).trans ((f4 c (by omega) hnb).trans ((f3 c (by omega)).trans ((f2 c (by omega)).trans (f1 c (by omega)))))
 ·have hz:n.s=[]:=h0;have hg:cY g [] n.s=g:=by rw[hz];rfl
  have a4:SlR encA 4 vh3 .nils (eG n).s:=.inl ⟨by show n.s.map clr=[];rw[hz];rfl,rfl⟩
  rw[hg] at mW;refine aC.round ?_
  conv=>whnf
  refine aB.mk (fun h1=>?_) (fun h1=>?_)
  ·exfalso;rw[hz] at h1;simp at h1
  ·conv=>whnf
   refine r11 g _ _ vh3 n2 (Nat.le_refl _) (fun _ _ _=>rfl) a4 _ fun vh5 n5 o' g5 s5 ho5 f5=>?_;exact mW vh3 n2 (Nat.le_refl _) (fun _ _ _=>rfl) vh5 n5 o' g5 s5 ho5 (by rw[hw];exact f5)
 ·have hz:n.s=[]:=h0;have hg:cY g [] n.s=g:=by rw[hz];rfl
  have a4:SlR encA 4 vh3 (.sl 4 [] (some 0)) (eG n).s:=.inr (.inl ⟨by show n.s.map clr=[];rw[hz];rfl,rfl⟩)
  rw[hg] at mW;refine aC.round ?_
  conv=>whnf
  refine aB.mk (fun h1=>?_) (fun h1=>?_)
  ·exfalso;rw[hz] at h1;simp at h1
  ·conv=>whnf
   refine r11 g _ _ vh3 n2 (Nat.le_refl _) (fun _ _ _=>rfl) a4 _ fun vh5 n5 o' g5 s5 ho5 f5=>?_;exact mW vh3 n2 (Nat.le_refl _) (fun _ _ _=>rfl) vh5 n5 o' g5 s5 ho5 (by rw[hw];exact f5)
 ·refine KH H Lb b vn ba n (eG n) hN hp (by omega) cS iR _ n.s.length 0 (by omega) (Nat.zero_le _) vh3 n2 n.s g rfl hb2 (by omega) hx3 ((f3 ba (by omega)).trans h4) fun vh4 n4 i' t g4 a4 f4=>?_
  rw[List.drop_zero,List.take_zero,List.nil_append] at a4;rw[List.drop_zero,List.take_zero];have a4':SlR encA 4 vh4 (.msl ba 0 n.s.length 4 none) (eG n).s:=.inr (.inr ⟨ba,iR,by show V.msl ba 0 n.s.length 4 none=.msl ba 0 (n.s.map clr).length 4 none;rw[List.length_map],a4⟩)
  refine r11 _ i' _ vh4 n4 g4 (fun c hc h=>f4 c hc h) a4' _ fun vh5 n5 o' g5 s5 ho5 f5=>?_;exact mW vh4 n4 g4 (fun c hc h=>f4 c hc (by rw[hw] at h;exact h)) vh5 n5 o' g5 s5 ho5 (by rw[hw];exact f5)
theorem XJ(H:XTE X)(Lb:l9 X G PN PV PT)(b:Nat)(o:Option Nat)(lv:List (List aA))(hb:∀l∈lv,l.length<2^30)(hlv:lv.length<2^29)(n:Nd)(hN:n.s.length<2^30)(hpn:PN n.p n.l)(hp:∀a∈n.s,PN a.p a.l/\PV a.v)(vh:VH)(vn:Nat)(hs:SP vh b o lv)(q1:b<vn)(q3:∀c,o=some c->c<vn):
  aE Tryz.prog X G zE [.agg (aO n),.ptr b 0] vh vn fun r vh' vn'=>vn<=vn'/\r=.bool (elT lv n).1/\(∃o',SP vh' b o' (elT lv n).2/\∀c,o'=some c->c<vn'/\(o=some c\/vn<=c))/\∀c,c<vn->c≠b->o≠some c->vh' c=vh c:=by
 apply aEl.run H.telement
 conv=>whnf
 refine (Lb.named _ _ hpn vh vn).mono fun v vh1 n1 he=>?_;obtain⟨e1,g1,f1⟩:=he;rw[e1];clear e1;have fin:∀(g:Bool),g=(dT n.p n.l&&decide (n.v=[]))->aC Tryz.prog X G (.cut EZ) [(1,.ptr b 0),(2,.bx (aO n)),(5,.bool g)] vh1 n1 (AL G SS fun r vh' vn'=>vn<=vn'/\r=.bool (elT lv n).1/\(∃o',SP vh' b o' (elT lv n).2/\∀c,o'=some c->c<vn'/\(o=some c\/vn<=c))/\∀c,c<vn->c≠b->o≠some c->vh' c=vh c):=fun g hg=>by
  refine XI H Lb b o lv hb hlv n hN hp g vh1 n1 (hs.at (f1 b q1) fun c hc=>f1 c (q3 c hc)) (by omega) (fun c hc=>by have:=q3 c hc;omega) _ fun vh' vn' o' g2 s2 ho2 f2=>?_
  rw[hg]
  conv=>whnf
  refine Get.mk vh' (fun _ _ h=>h) ⟨(by omega:vn<=vn'),rfl,⟨o',by rw[hg] at s2;exact s2,fun c hc=>⟨(ho2 c hc).1,(ho2 c hc).2.elim .inl fun h=>.inr (by omega)⟩⟩,fun c hc hcb hco=>(f2 c (by omega) hcb hco).trans (f1 c hc)⟩
 conv=>whnf
 refine aB.mk (fun h1=>?_) (fun h1=>?_)
 ·conv=>whnf
  exact fin _ (by simp[h1])
 ·conv=>whnf
  exact fin _ (by simp[h1])
end
section
attribute [local irreducible] aM
variable {X : Ovr} {G : Gt} {PN : List Nat → List Nat → Prop} {PV PT : List Nat → Prop}
structure XTM(X:Ovr):Prop extends XTE X where
 snew:X yR=none
 stands:X zF=none
 aside:X zD=none
 tmay:X zC=none
theorem WT(H:XTM X)(vh:VH)(vn:Nat):
  aE Tryz.prog X G yR [] vh vn fun v vh' vn'=>v=.ptr vn 0/\vn'=vn+1/\SP vh' vn none []/\∀c,c≠vn->vh' c=vh c:=by
 apply aEV.run H.snew
 conv=>whnf
 exact Get.mk _ (fun _ _ h=>h) ⟨rfl,rfl,⟨_,rfl,aK⟩,fun c hc=>aG hc⟩
def kJ(prev n:Nd):Bool:=!decide (n.k=1)&&!fL prev n&&(!decide (n.k=3)||(decide (1<n.d)&&(!decide (prev.k=3)||!decide (prev.d=n.d))))
def hJ:Option Nd->Nd->Bool
 |none,n=>decide (n.k=1)&&decide (n.d=0)
 |some prev,n=>kJ prev n
def jR(ts:List Nd)(i:Nat):Option Nd:=if i=0 then none else ts[i-1]?
theorem XF(H:XTM X)(ts:List Nd)(c:Option Nat)(hts:ts.length<2^30)(i:Nat)(hi:i<ts.length)(hd:∀prev,jR ts i=some prev-> -1<=prev.d/\prev.d<=201)(vh:VH)(vn:Nat):
  aE Tryz.prog X G zF [.sl 7 (ts.map aO) c,.int .i64 (i:Int)] vh vn fun v vh' vn'=>v=.bool (hJ (jR ts i) ts[i])/\Frm vh vn vh' vn':=by
 apply aEn.run H.stands
 conv=>whnf
 have hf:Frm vh vn vh vn:=⟨Nat.le_refl _,fun _ _=>rfl⟩;refine Get.mk (i,aO ts[i]) ⟨rfl,by simp[hi]⟩ ?_
 conv=>whnf
 by_cases h0:i=0
 ·subst h0;have he:jR ts 0=none:=rfl;rw[he]
  repeat' ((first|refine aB.mk (fun _=>?_) (fun _=>?_))<;>(conv=>whnf))
  all_goals first
   |(exfalso;clear hd H;simp_all;done)
   |(
     refine Get.mk _ (fun _ _ h=>h) ⟨?_,hf⟩;clear hd H hf he
     simp_all[hJ]
     done)
 ·obtain⟨prev,hp⟩:∃prev,ts[i-1]? =some prev:=⟨_,List.getElem?_eq_getElem (by omega)⟩
  have he:jR ts i=some prev:=by rw[jR,if_neg h0,hp]
  obtain⟨d1,d2⟩:=hd prev he;rw[he];clear hd he;have ew:wr .i64 (prev.d+1)=prev.d+1:=by rw[aF]<;>omega
  have hprev:wr .i64 ((i:Int)-1)=((i-1:Nat):Int)/\(ts.map aO)[i-1]? =some (aO prev):=⟨by rw[aF]<;>omega,by rw[List.getElem?_map,hp];rfl⟩
  generalize ts[i]=n;have fin:∀b,b=kJ prev n->(V.bool b=.bool (hJ (some prev) n)/\Frm vh vn vh vn):=fun b h=>⟨by rw[h];rfl,hf⟩
  repeat' ((first|refine aB.mk (fun _=>?_) (fun _=>?_)|refine Get.mk (i-1,aO prev) hprev ?_|fail)<;>(conv=>whnf))
  all_goals first
   |(exfalso;clear fin hprev H;simp_all;done)
   |(
     refine Get.mk vh (fun _ _ h=>h) ?_;refine fin _ ?_;clear H hf hp hprev hi h0 fin
     simp_all[kJ,fL]
     done)
   |(
     refine Get.mk vh (fun _ _ h=>h) ?_;refine fin _ ?_;clear H hf hp hprev hi h0 fin
     simp_all[kJ,fL]
     intros
     omega)
end
section
attribute [local irreducible] aM
variable {X : Ovr} {G : Gt} {PN : List Nat → List Nat → Prop} {PV PT : List Nat → Prop}
def zX(n:Nd):Bool:=
 if n.k=1 then decide (n.l=[])&&decide (n.v=[])
 else if n.k=3 then decide (n.l=[])&&!decide (n.v=[])
 else if n.k=4 then ((decide (n.l=[])&&!iJ n.v rT)&&!(!decide (n.v=[])&&decide ((n.v.getLastD 0:Int)=45)))&&!iJ n.v iC
 else if n.k=5 then ((pC n.l&&!iJ n.v rW)&&(decide (n.v=[])||!o9 (wr .i32 (.ofNat (n.v.headD 0)))))&&!iJ n.v iC
 else false
def kV(n:Nd):Bool:=(((decide (n.p=[])&&decide (n.u=[]))&&decide (n.s=[]))&&fY n.v)&&zX n
theorem Frm.refl(vh:VH)(vn:Nat):Frm vh vn vh vn:=⟨Nat.le_refl _,fun _ _=>rfl⟩
theorem Frm.trans{h1 h2 h3:VH}{n1 n2 n3:Nat}(a:Frm h1 n1 h2 n2)(b:Frm h2 n2 h3 n3):Frm h1 n1 h3 n3:=⟨Nat.le_trans a.1 b.1,fun c hc=>(b.2 c (Nat.lt_of_lt_of_le hc a.1)).trans (a.2 c hc)⟩
theorem UM(H:XTM X)(Lb:l9 X G PN PV PT)(n:Nd)(hv:PV n.v)(ht:n.k=5->PT n.l)(vh:VH)(vn:Nat):
  aE Tryz.prog X G zD [.agg (aO n)] vh vn fun v vh' vn'=>v=.bool (kV n)/\Frm vh vn vh' vn':=by
 apply aEk.run H.aside;have F:=Frm.refl vh vn
 conv=>whnf
 repeat' ((first|refine aB.mk (fun _=>?_) (fun _=>?_)|(refine (Lb.chars n.v hv _ _).mono (fun v vh' vn' he=>?_);obtain⟨rfl,f⟩:=he;replace F:=F.trans f;clear f)|(refine (Lb.contains n.v _ hv (by decide) _ _).mono (fun v vh' vn' he=>?_);obtain⟨rfl,f⟩:=he;replace F:=F.trans f;clear f)|(refine (Lb.suffix n.v hv _ _).mono (fun v vh' vn' he=>?_);obtain⟨rfl,f⟩:=he;replace F:=F.trans f;clear f)|(refine (Lb.target n.l (ht (by clear F Lb H ht;simp_all;done)) _ _).mono (fun v vh' vn' he=>?_);obtain⟨rfl,f⟩:=he;replace F:=F.trans f;clear f)|(refine (Lb.spaces n.v hv _ _).mono (fun v vh' vn' he=>?_);obtain⟨k,rfl,hk,f⟩:=he;replace F:=F.trans f;clear f)|fail)<;>(conv=>whnf))
 all_goals first
  |(exfalso;clear F Lb H ht hv;simp_all;done)
  |(
    refine Get.mk _ (fun _ _ h=>h) ⟨?_,F⟩;clear F Lb H ht hv
    simp_all[kV,zX]
    done)
  |(
    refine Get.mk _ (fun _ _ h=>h) ⟨?_,F⟩;have hz:n.s≠[]:=fun hz=>by clear F Lb H ht hv;simp_all
    simp only[kV,decide_eq_false hz,Bool.and_false,Bool.false_and])
end
section
attribute [local irreducible] aM
variable {X : Ovr} {G : Gt} {PN : List Nat → List Nat → Prop} {PV PT : List Nat → Prop}
def mQ(d:Int):List V:=[.int .i64 d]
theorem AJ(d:Int):(mQ d).length=1:=rfl
def OP(vh:VH)(wo:Option Nat)(w:V)(op:List Int):Prop:=match wo with
 |none=>w=.nils/\op=[]
 |some bo=>∃rest,w=.msl bo 0 op.length 1 none/\vh bo=some (.cells ((op.map mQ).flatten++rest) b9 0 false)
theorem OP.at{vh vh':VH}{wo:Option Nat}{w:V}{op:List Int}(h:OP vh wo w op)(ho:∀c,wo=some c->vh' c=vh c):OP vh' wo w op:=by
 cases wo with
 |none=>exact h
 |some bo=>obtain⟨rest,h1,h2⟩:=h;exact⟨rest,h1,(ho bo rfl).trans h2⟩
def dG(d:Int)(op:List Int)(lv:List (List aA)):List Int×List (List aA):=if h:op≠[]/\d<=op.getLastD 0 then dG d op.dropLast lv.dropLast else (op,lv)
termination_by op.length
decreasing_by
 rw[List.length_dropLast];have:=List.length_pos_iff.2 h.1;omega
theorem aCu{op:List Int}{rest:List V}(h:op≠[]):((op.map mQ).flatten++rest)[0+(op.length-1)*1]? =some (.int .i64 (op.getLastD 0)):=by
 have hp:=List.length_pos_iff.2 h;rw[Nat.zero_add,Nat.mul_one,List.getElem?_append_left (by rw[wM AJ];omega)]
 have:=oK AJ op (op.length-1) 0 (by omega) (by decide)
 rw[Nat.mul_one,Nat.add_zero] at this;rw[this];have e:op.getLastD 0=op[op.length-1]:=by
  rw[List.getLastD_eq_getLast?,List.getLast?_eq_getElem?,List.getElem?_eq_getElem (by omega)]
  rfl
 rw[e];rfl
theorem aBx{op:List Int}(h:op≠[])(rest:List V):(op.map mQ).flatten++rest=(op.dropLast.map mQ).flatten++(.int .i64 (op.getLast h)::rest):=by
 conv=>lhs;rw[<-List.dropLast_concat_getLast h]
 simp[mQ]
abbrev mE(T:V)(r:Int)(b:Nat)(w:V)(n:Nd)(L i:Int)(tl:aH):aH:=(0,T)::(3,.int .i64 r)::(4,.ptr b 0)::(5,w)::(7,.bx (aO n))::(17,T)::(18,.int .i64 L)::(19,.int .i64 i)::tl
theorem KJ(H:XTM X)(b:Nat)(o:Option Nat)(ts:List Nd)(c:Option Nat)(r L i:Int)(n:Nd)(wo:Option Nat)(hw:∀c,wo=some c->c≠b/\o≠some c)(vn:Nat)(Q:FQ):∀(m:Nat) (op:List Int) (lv:List (List aA)) (vh:VH) (w:V),op.length=m->op.length<2^40->lv.length<2^40->OP vh wo w op->SP vh b o lv->
  (∀vh' w' t,OP vh' wo w' (dG n.d op lv).1->SP vh' b o (dG n.d op lv).2->(∀c,c≠b->vh' c=vh c)->Q (.exit 2) (mE (.sl 7 (ts.map aO) c) r b w' n L i [(41,.bool t)]) vh' vn)->
  aC Tryz.prog X G (.loop NI) (mE (.sl 7 (ts.map aO) c) r b w n L i []) vh vn Q
 |m,op,lv,vh,w,hm,ho,hl,hop,hs,hQ=>by
  refine aC.round ?_;cases wo with
  |none=>
   obtain⟨rfl,rfl⟩:=hop;rw[dG] at hQ;simp only[ne_eq,not_true_eq_false,false_and,dif_neg,not_false_eq_true] at hQ
   conv=>whnf
   exact hQ vh .nils _ (show OP vh none .nils [] from⟨rfl,rfl⟩) hs fun _ _=>rfl
  |some bo=>
   obtain⟨hwb,hwo⟩:=hw bo rfl;obtain⟨rest,rfl,hb⟩:=hop
   conv=>whnf
   refine aB.mk (fun h1=>?_) (fun h1=>?_)
   ·have hne:op≠[]:=by intro h;rw[h] at h1;simp at h1
    have hp:=List.length_pos_iff.2 hne;have hsub:wr .i64 ((op.length:Int)-1)=((op.length-1:Nat):Int):=by rw[aF]<;>omega
    conv=>whnf
    refine Get.mk (op.length-1) ⟨hsub,by omega⟩ ?_
    conv=>whnf
    refine Get.mk (_,_,_,_) hb ?_
    conv=>whnf
    refine Get.mk _ (aCu hne) ?_
    conv=>whnf
    refine aB.mk (fun h2=>?_) (fun h2=>?_)
    ·have h2':n.d<=op.getLastD 0:=by simpa using h2
     rw[dG,dif_pos ⟨hne,h2'⟩] at hQ
     conv=>whnf
     refine Get.mk (op.length-1) hsub ?_
     conv=>whnf
     refine Get.mk (_,_,_,_) hb ?_
     conv=>whnf
     refine⟨⟨Nat.zero_le _,by simp only[List.length_append,wM AJ op,Nat.sub_zero,Nat.div_one];omega,.inr rfl⟩,?_⟩
     conv=>whnf
     refine (J0 H.toXS b o lv vh vn hs hl).mono fun v vh1 vn1 he=>?_;obtain⟨e1,f1,s1,t,e2⟩:=he;rw[e1,e2];clear e1 e2;have e1:op.length-1-0=op.dropLast.length:=by rw[List.length_dropLast];rfl
     rw[e1];have hl':op.dropLast.length=op.length-1:=List.length_dropLast;have hb1:OP vh1 (some bo) (.msl bo 0 op.dropLast.length 1 none) op.dropLast:=⟨.int .i64 (op.getLast hne)::rest,rfl,by rw[f1 bo hwb,hb,aBx hne]⟩
     conv=>whnf
     exact KJ H b o ts c r L i n (some bo) hw vn Q (m-1) op.dropLast lv.dropLast vh1 _ (by omega) (by omega) (by rw[List.length_dropLast];omega) hb1 s1 fun vh2 w' t' o2 s2 f2=>hQ vh2 w' t' o2 s2 fun c hc=>(f2 c hc).trans (f1 c hc)
    ·have h2':¬n.d<=op.getLastD 0:=by simpa using h2
     rw[dG,dif_neg (fun h=>h2' h.2)] at hQ
     conv=>whnf
     exact hQ vh _ _ (show OP vh (some bo) (.msl bo 0 op.length 1 none) op from⟨rest,rfl,hb⟩) hs fun _ _=>rfl
   ·have hz:op=[]:=by simpa using h1
    rw[dG,dif_neg (fun h=>h.1 hz)] at hQ
    conv=>whnf
    exact hQ vh _ _ (show OP vh (some bo) (.msl bo 0 op.length 1 none) op from⟨rest,rfl,hb⟩) hs fun _ _=>rfl
termination_by m=>m
decreasing_by all_goals omega
end
section
attribute [local irreducible] aM
variable {X : Ovr} {G : Gt} {PN : List Nat → List Nat → Prop} {PV PT : List Nat → Prop}
def jW(n:Nd)(op:List Int)(lv:List (List aA))(r:Nat):Option (List Int×List (List aA)×Nat):=
 if n.k=2 then (if (elT (dG n.d op lv).2 n).1=true then some ((dG n.d op lv).1++[n.d],(elT (dG n.d op lv).2 n).2,if n.d=1 then r+1 else r) else none)
 else if kV n=true then some ((dG n.d op lv).1,(dG n.d op lv).2,r) else none
def kF:Option Nd->List Int->List (List aA)->Nat->List Nd->Option Nat
 |_,_,_,r,[]=>some r
 |prev,op,lv,r,n::l=>if hJ prev n=true then (match jW n op lv r with
  |none=>none
  |some s=>kF (some n) s.1 s.2.1 s.2.2 l) else none
def tC(ts:List Nd):Bool:=decide (0<ts.length)&&decide (ts.length<=1048576)&&decide (kF none [] [] 0 ts=some 1)
structure NdT(PN:List Nat->List Nat->Prop)(PV PT:List Nat->Prop)(n:Nd):Prop where
 s:n.s.length<2^30
 e:n.k=2->PN n.p n.l/\∀a∈n.s,PN a.p a.l/\PV a.v
 v:n.k≠2->PV n.v
 t:n.k=5->PT n.l
theorem SI(d:Int):∀(m:Nat) (op:List Int) (lv:List (List aA)),op.length=m->(dG d op lv).1.length<=op.length/\(dG d op lv).2.length<=lv.length/\∀l∈(dG d op lv).2,l∈lv
 |m,op,lv,hm=>by
  rw[dG];split
  ·rename_i h;have hp:=List.length_pos_iff.2 h.1;have h1:op.dropLast.length=op.length-1:=List.length_dropLast;have h2:lv.dropLast.length=lv.length-1:=List.length_dropLast;obtain⟨q1,q2,q3⟩:=SI d (m-1) op.dropLast lv.dropLast (by omega)
   exact⟨by omega,by omega,fun l hl=>List.dropLast_subset _ (q3 l hl)⟩
  ·exact⟨Nat.le_refl _,Nat.le_refl _,fun l hl=>hl⟩
termination_by m=>m
decreasing_by omega
theorem aCA(lv:List (List aA))(n:Nd):(elT lv n).2.length<=lv.length+1/\∀l∈(elT lv n).2,l∈lv\/l.length<=n.s.length:=by
 have h0:∀lv:List (List aA),lv.length<=lv.length+1/\∀l∈lv,l∈lv\/l.length<=n.s.length:=fun lv=>⟨Nat.le_succ _,fun l hl=>.inl hl⟩;unfold elT elG;split
 ·unfold eJ;split
  ·exact h0 lv
  ·rename_i ms hms;show (if _ then lv++[ms] else lv).length<=_/\_
   split
   ·refine⟨by simp,fun l hl=>?_⟩
    rcases List.mem_append.1 hl with h|h
    ·exact .inl h
    ·rw[List.mem_singleton.1 h];have:=BG _ _ _ hms;right;simpa[eG] using this
   ·exact h0 lv
 ·exact h0 lv
end
section
attribute [local irreducible] aM
variable {X : Ovr} {G : Gt} {PN : List Nat → List Nat → Prop} {PV PT : List Nat → Prop}
theorem OP.form{vh:VH}{wo:Option Nat}{w:V}{op:List Int}(h:OP vh wo w op):w=.nils\/∃bo k,w=.msl bo 0 k 1 none:=by
 cases wo with
 |none=>exact .inl h.1
 |some bo=>obtain⟨rest,h1,_⟩:=h;exact .inr ⟨bo,_,h1⟩
theorem YD{by':Nat}{ty:TypeId}{vh:VH}{nx:Nat}(d:Int)(hroom:room by' 1){env:aH}{k:V->aH->VH->Nat->Prop}
  (hk:k (.msl nx 0 1 1 none) env (aI vh nx (.cells (mQ d) ty 0 false)) (nx+1)):aM 1 by' ty .nils (mQ d) 1 env vh nx k:=by
 simp only[aM]
 conv=>whnf
 exact⟨hroom,hk⟩
theorem OP.app{vh:VH}{wo:Option Nat}{w:V}{op:List Int}{nx:Nat}(h:OP vh wo w op)(hw:∀c,wo=some c->c<nx)(hl:op.length<2^40)(d:Int){env:aH}{k:V->aH->VH->Nat->Prop}
  (hk:∀vh' nx' wo' bo n,OP vh' wo' (.msl bo 0 n 1 none) (op++[d])->nx<=nx'->(∀c,wo'=some c->c<nx'/\(wo=some c\/nx<=c))->(∀c,c<nx->wo≠some c->vh' c=vh c)->k (.msl bo 0 n 1 none) env vh' nx'):aM 1 8 b9 w (mQ d) 1 env vh nx k:=by
 cases wo with
 |none=>
  obtain⟨rfl,rfl⟩:=h;refine YD d ⟨by decide,by decide⟩ ?_
  exact hk _ _ (some nx) _ _ ⟨[],rfl,by rw[aK];rfl⟩ (by omega) (fun c hc=>by cases hc;exact⟨by omega,.inr (Nat.le_refl _)⟩) fun c hc _=>aG (by omega)
 |some bo=>
  obtain⟨rest,rfl,hb⟩:=h;have hbo:=hw bo rfl;refine zT (xs:=op) AJ hb hbo d ⟨?_,?_⟩ fun b' vh2 n2 rest' hb' t2 f2=>?_
  ·omega
  ·show _<9223372036854775808;omega
  ·refine hk vh2 n2 (some b') b' _ ⟨rest',rfl,t2⟩ (by omega) (fun c hc=>?_) fun c hc hco=>f2 c (by omega) fun h=>hco (by rw[h])
   cases hc;rcases hb' with⟨rfl,rfl⟩|⟨rfl,rfl⟩
   ·exact⟨by omega,.inl rfl⟩
   ·exact⟨by omega,.inr (Nat.le_refl _)⟩
abbrev mF(T:V)(r:Int)(b:Nat)(w:V)(L i:Int)(tl:aH):aH:=(0,T)::(3,.int .i64 r)::(4,.ptr b 0)::(5,w)::(17,T)::(18,.int .i64 L)::(19,.int .i64 i)::tl
theorem aJK{prev:Option Nd}{n:Nd}(h:hJ prev n=true):-1<=n.d/\n.d<=201:=by
 cases prev with
 |none=>simp[hJ] at h;omega
 |some p=>simp[hJ,kJ,fL] at h;omega
set_option maxHeartbeats 4000000 in
theorem KI(H:XTM X)(Lb:l9 X G PN PV PT)(v0:Nat)(vh0:VH)(b:Nat)(hb0:v0<=b)(ts:List Nd)(c:Option Nat)(hts:ts.length<=1048576)(hok:∀n∈ts,NdT PN PV PT n)(Q:FQ):∀(m i:Nat),ts.length-i=m->i<=ts.length->∀(op:List Int) (lv:List (List aA)) (r:Nat) (w:V) (wo o:Option Nat) (vh:VH) (vn:Nat),(∀prev,jR ts i=some prev-> -1<=prev.d/\prev.d<=201)->op.length<=i->lv.length<=i->(∀l∈lv,l.length<2^30)->r<=i->OP vh wo w op->SP vh b o lv->b<vn->(∀c,o=some c->v0<=c/\c<vn)->(∀c,wo=some c->c≠b/\o≠some c/\v0<=c/\c<vn)->(∀c,c<v0->vh c=vh0 c)->
  (kF (jR ts i) op lv r (ts.drop i)=none->∀vh' vn',v0<=vn'->(∀c,c<v0->vh' c=vh0 c)->Q .ret [(2,.bool false)] vh' vn')->
  (∀k,kF (jR ts i) op lv r (ts.drop i)=some k->∀vh' vn' w' i' t,(w'=.nils\/∃bo k,w'=.msl bo 0 k 1 none)->v0<=vn'->(∀c,c<v0->vh' c=vh0 c)->Q (.exit 0) (mF (.sl 7 (ts.map aO) c) (k:Int) b w' (ts.length:Int) i' [(20,.bool t)]) vh' vn')->
  aC Tryz.prog X G (.loop EX) (mF (.sl 7 (ts.map aO) c) (r:Int) b w (ts.length:Int) (i:Int) []) vh vn Q
 |m,i,hm,hi,op,lv,r,w,wo,o,vh,vn,hd,ho,hl,hlb,hr,hop,hs,hbn,hob,hwb,hf,hR,hQ=>by
  refine aC.round ?_;rcases hop.form with rfl|⟨bo,kk,rfl⟩
  all_goals
   conv=>whnf
   refine aB.mk (fun h1=>?_) (fun h1=>?_)
   ·have hlt:i<ts.length:=by simpa using h1
    have hdr:ts.drop i=ts[i]::ts.drop (i+1):=(List.getElem_cons_drop hlt).symm;have hnd:=hok _ (List.getElem_mem hlt);have hpv:jR ts (i+1)=some ts[i]:=by simp[jR,hlt]
    have e:wr .i64 ((i:Int)+1)=((i+1:Nat):Int):=by rw[aF]<;>omega
    rw[hdr] at hR hQ;simp only[kF] at hR hQ
    conv=>whnf
    refine Get.mk (i,aO ts[i]) ⟨rfl,by simp[hlt]⟩ ?_
    conv=>whnf
    refine (XF H ts c (by omega) i hlt hd vh vn).mono fun v vh1 n1 he=>?_
    obtain⟨e1,g1,f1⟩:=he;rw[e1];clear e1
    conv=>whnf
    refine aB.mk (fun h2=>?_) (fun h2=>?_)
    ·have h2':hJ (jR ts i) ts[i]=false:=by simpa using h2
     rw[h2'] at hR
     conv=>whnf
     exact hR (by simp) vh1 n1 (by omega) fun c hc=>(f1 c (by omega)).trans (hf c hc)
    ·have h2':hJ (jR ts i) ts[i]=true:=by simpa using h2
     rw[if_pos h2'] at hR hQ
     conv=>whnf
     have stop:jW ts[i] op lv r=none->∀vh' vn',v0<=vn'->(∀c,c<v0->vh' c=vh0 c)->Q .ret [(2,.bool false)] vh' vn':=fun h=>hR (by rw[h])
     have nxt:∀(op':List Int) (lv':List (List aA)) (r':Nat) (w':V) (wo' o':Option Nat) (vh':VH) (vn':Nat),jW ts[i] op lv r=some (op',lv',r')->op'.length<=i+1->lv'.length<=i+1->(∀l∈lv',l.length<2^30)->r'<=i+1->OP vh' wo' w' op'->SP vh' b o' lv'->b<vn'->(∀c,o'=some c->v0<=c/\c<vn')->(∀c,wo'=some c->c≠b/\o'≠some c/\v0<=c/\c<vn')->(∀c,c<v0->vh' c=vh0 c)->aC Tryz.prog X G (.loop EX) (mF (.sl 7 (ts.map aO) c) (r':Int) b w' (ts.length:Int) ((i+1:Nat):Int) []) vh' vn' Q:=fun op' lv' r' w' wo' o' vh' vn' hst a1 a2 a3 a4 a5 a6 a7 a8 a9 a10=>by
      rw[hst] at hR hQ;rw[<-hpv] at hR hQ;exact KI H Lb v0 vh0 b hb0 ts c hts hok Q (m-1) (i+1) (by omega) (by omega) op' lv' r' w' wo' o' vh' vn' (fun prev hp=>by rw[hpv] at hp;cases hp;exact aJK h2') a1 a2 a3 a4 a5 a6 a7 a8 a9 a10 hR hQ
     clear hR hQ;have hpo:=SI ts[i].d op.length op lv rfl;obtain⟨p1,p2,p3⟩:=hpo;refine KJ H b o ts c r ts.length i ts[i] wo (fun c hc=>⟨(hwb c hc).1,(hwb c hc).2.1⟩) n1 _ op.length op lv vh1 _ rfl (by omega) (by omega) (hop.at fun c hc=>f1 c (hwb c hc).2.2.2) (hs.at (f1 b hbn) fun c hc=>f1 c (hob c hc).2) fun vh2 w2 t o2 s2 f2=>?_
     have fr2:∀c,c<v0->vh2 c=vh0 c:=fun c hc=>(f2 c (by omega)).trans ((f1 c (by omega)).trans (hf c hc))
     rcases o2.form with rfl|⟨bo2,kk2,rfl⟩
     all_goals
      conv=>whnf
      refine aB.mk (fun h3=>?_) (fun h3=>?_)
      ·have h3':¬ts[i].k=2:=by simpa using h3
       conv=>whnf
       refine (UM H Lb ts[i] (hnd.v h3') hnd.t vh2 n1).mono fun v vh3 n3 he=>?_;obtain⟨e3,g3,f3⟩:=he;rw[e3];clear e3
       conv=>whnf
       refine aB.mk (fun h4=>?_) (fun h4=>?_)
       ·have h4':kV ts[i]=false:=by simpa using h4
        conv=>whnf
        exact stop (by simp[jW,h3',h4']) vh3 n3 (by omega) fun c hc=>(f3 c (by omega)).trans (fr2 c hc)
       ·have h4':kV ts[i]=true:=by simpa using h4
        conv=>whnf
        rw[e];exact nxt _ _ r _ wo o vh3 n3 (by simp[jW,h3',h4']) (by omega) (by omega) (fun l hl=>hlb l (p3 l hl)) (by omega) (o2.at fun c hc=>f3 c (by have:=hwb c hc;omega)) (s2.at (f3 b (by omega)) fun c hc=>f3 c (by have:=hob c hc;omega)) (by omega) (fun c hc=>by have:=hob c hc;omega) (fun c hc=>by have:=hwb c hc;exact⟨this.1,this.2.1,this.2.2.1,by omega⟩) fun c hc=>(f3 c (by omega)).trans (fr2 c hc)
      ·have h3':ts[i].k=2:=by simpa using h3
       conv=>whnf
       refine (XJ H.toXTE Lb b o (dG ts[i].d op lv).2 (fun l hl=>hlb l (p3 l hl)) (by omega) ts[i] hnd.s (hnd.e h3').1 (hnd.e h3').2 vh2 n1 s2 (by omega) (fun c hc=>by have:=hob c hc;omega)).mono fun v vh3 n3 he=>?_
       obtain⟨g3,e3,⟨o3,s3,q3⟩,f3⟩:=he;rw[e3];clear e3;have fr3:∀c,c<v0->vh3 c=vh0 c:=fun c hc=>(f3 c (by omega) (by omega) fun h=>by have:=hob c h;omega).trans (fr2 c hc)
       have o3':=o2.at (vh':=vh3) fun c hc=>f3 c (by have:=hwb c hc;omega) (hwb c hc).1 (hwb c hc).2.1
       conv=>whnf
       refine aB.mk (fun h4=>?_) (fun h4=>?_)
       ·have h4':(elT (dG ts[i].d op lv).2 ts[i]).1=false:=by simpa using h4
        conv=>whnf
        exact stop (by simp[jW,h3',h4']) vh3 n3 (by omega) fr3
       ·have h4':(elT (dG ts[i].d op lv).2 ts[i]).1=true:=by simpa using h4
        obtain⟨q5,q6⟩:=aCA (dG ts[i].d op lv).2 ts[i]
        conv=>whnf
        refine OP.app (d:=ts[i].d) o3' (fun c hc=>by have:=hwb c hc;omega) (by omega) fun vh4 n4 wo4 bo4 kk4 o4 g4 q4 f4=>?_
        have fr4:∀c,c<v0->vh4 c=vh0 c:=fun c hc=>(f4 c (by omega) fun h=>by have:=hwb c h;omega).trans (fr3 c hc)
        have s4:SP vh4 b o3 _:=s3.at (f4 b (by omega) fun h=>(hwb b h).1 rfl) fun c hc=>f4 c (q3 c hc).1 fun h=>by
         have h5:=hwb c h;rcases (q3 c hc).2 with h6|h6
         ·exact h5.2.1 h6
         ·omega
        have ho4:∀c,o3=some c->v0<=c/\c<n4:=fun c hc=>by
         have h5:=q3 c hc;rcases h5.2 with h6|h6
         ·have:=hob c h6;omega
         ·omega
        have hw4:∀c,wo4=some c->c≠b/\o3≠some c/\v0<=c/\c<n4:=fun c hc=>by
         have h5:=q4 c hc;rcases h5.2 with h6|h6
         ·have h7:=hwb c h6;refine⟨h7.1,fun h8=>?_,h7.2.2.1,h5.1⟩;rcases (q3 c h8).2 with h9|h9
          ·exact h7.2.1 h9
          ·omega
         ·exact⟨by omega,fun h8=>by have:=q3 c h8;omega,by omega,h5.1⟩
        have b4:∀l∈(elT (dG ts[i].d op lv).2 ts[i]).2,l.length<2^30:=fun l hl=>by
         rcases q6 l hl with h|h
         ·exact hlb l (p3 l h)
         ·have:=hnd.s;omega
        have l4:((dG ts[i].d op lv).1++[ts[i].d]).length<=i+1:=by rw[List.length_append,List.length_singleton];omega
        conv=>whnf
        refine aB.mk (fun h5=>?_) (fun h5=>?_)
        ·have h5':ts[i].d=1:=by simpa using h5
         have e5:wr .i64 ((r:Int)+1)=((r+1:Nat):Int):=by rw[aF]<;>omega
         conv=>whnf
         rw[e,e5];exact nxt _ _ (r+1) _ wo4 o3 vh4 n4 (by simp only[jW,h3',h4',if_true,if_pos h5']) l4 (by omega) b4 (by omega) o4 s4 (by omega) ho4 hw4 fr4
        ·have h5':¬ts[i].d=1:=by simpa using h5
         conv=>whnf
         rw[e];exact nxt _ _ r _ wo4 o3 vh4 n4 (by simp only[jW,h3',h4',if_true,if_neg h5']) l4 (by omega) b4 (by omega) o4 s4 (by omega) ho4 hw4 fr4
   ·have hz:i=ts.length:=by simp at h1;omega
    rw[hz,List.drop_length] at hQ
    conv=>whnf
    exact hQ r rfl vh vn _ _ _ hop.form (by omega) hf
termination_by m=>m
decreasing_by all_goals omega
end
section
attribute [local irreducible] aM
variable {X : Ovr} {G : Gt} {PN : List Nat → List Nat → Prop} {PV PT : List Nat → Prop}
theorem XL(H:XTM X)(Lb:l9 X G PN PV PT)(ts:List Nd)(c:Option Nat)(hts:ts.length<2^30)(hok:∀n∈ts,NdT PN PV PT n)(vh:VH)(vn:Nat):
  aE Tryz.prog X G zC [.sl 7 (ts.map aO) c] vh vn fun v vh' vn'=>v=.bool (tC ts)/\Frm vh vn vh' vn':=by
 apply aEj.run H.tmay
 conv=>whnf
 refine aB.mk (fun h1=>?_) (fun h1=>?_)
 ·have h1':ts=[]:=List.eq_nil_of_length_eq_zero (by simp at h1;omega)
  subst h1'
  conv=>whnf
  exact Get.mk _ (fun _ _ h=>h) ⟨rfl,Frm.refl _ _⟩
 ·have h1':0<ts.length:=by simp at h1;omega
  conv=>whnf
  refine aB.mk (fun h2=>?_) (fun h2=>?_)
  ·have h2':¬ts.length<=1048576:=by simp at h2 ⊢;omega
   conv=>whnf
   refine Get.mk _ (fun _ _ h=>h) ⟨?_,Frm.refl _ _⟩;simp only[tC,decide_eq_false h2',Bool.and_false,Bool.false_and]
  ·have h2':ts.length<=1048576:=by simp at h2 ⊢;omega
   conv=>whnf
   refine (WT H vh vn).mono fun v vh1 n1 he=>?_;obtain⟨e1,e2,s1,f1⟩:=he;rw[e1,e2];clear e1 e2
   conv=>whnf
   rw[List.length_map];refine KI H Lb vn vh vn (Nat.le_refl _) ts c h2' hok _ ts.length 0 (by omega) (Nat.zero_le _) [] [] 0 .nils none none vh1 (vn+1) (fun prev hp=>by cases hp) (by decide) (by decide) nofun (by decide) ⟨rfl,rfl⟩ s1 (by omega) (fun c hc=>by cases hc) (fun c hc=>by cases hc) (fun c hc=>f1 c (by omega)) (fun h4 vh4 n4 g4 f4=>?_) (fun k h4 vh4 n4 w' i' t hw g4 f4=>?_)
   ·have h4':kF none [] [] 0 ts=none:=h4
    conv=>whnf
    refine Get.mk _ (fun _ _ h=>h) ⟨?_,g4,f4⟩;simp only[tC,h4',reduceCtorEq,decide_false,Bool.and_false]
   ·have h4':kF none [] [] 0 ts=some k:=h4;rcases hw with rfl|⟨bo,kk,rfl⟩
    all_goals
     conv=>whnf
     refine Get.mk _ (fun _ _ h=>h) ⟨?_,g4,f4⟩;simp only[tC,h4',decide_eq_true h1',decide_eq_true h2',Bool.true_and,Option.some.injEq]
     congr 1
     simp
     try omega
end
theorem aJr:gO≠[]:=by decide
theorem aJs:gO≠fE:=by decide
theorem UJ:dQ≠[]:=by decide
theorem UK:bH≠[]:=by decide
theorem aJt:dQ≠bH:=by decide
theorem LI{a:aA}(h:(declares a).2=true):oC a=hZ a:=by
 have d1:=aJr;have d2:=aJs;have d3:=UJ;have d4:=UK;have d5:=aJt;unfold declares at h;split at h
 ·rename_i hu;split at h
  ·rename_i hp;have hn:a.p≠[]:=fun e=>d4 (hp.symm.trans e);have e1:(declares a).1=a.l:=by simp only[declares,if_pos hu,if_pos hp]
   simp only[oC,e1,hZ,if_neg hn,decide_eq_false hn];by_cases h1:a.l=bH<;>by_cases h2:a.l=dQ<;>by_cases h3:a.v=gO<;>by_cases h4:a.v=fE<;>by_cases h5:a.v=[]<;>simp_all
  ·rename_i hp;simp only[Bool.and_eq_true,decide_eq_true_eq] at h;have e1:(declares a).1=[]:=by simp only[declares,if_pos hu,if_neg hp]
   simp only[oC,e1,hZ,if_pos h.1,decide_eq_true h.1];by_cases h3:a.v=gO<;>by_cases h4:a.v=fE<;>simp_all[Ne.symm d3,Ne.symm d4]
 ·cases h
theorem TB(a b:aA):bW a b=bW b a:=by simp only[bW,eq_comm]
theorem HF:∀(xs m:List aA),fI m xs=eK m xs
 |[],m=>rfl
 |a::l,m=>by
  simp only[fI,eK];by_cases h:(declares a).2=true
  ·rw[if_pos h,if_pos h,LI h,HF l];have e:m.any (bW a)=m.any fun b=>bW b a:=by
    congr 1
    funext b
    exact TB a b
   rw[e]
  ·rw[if_neg h,if_neg h,HF l]
def LvG(lv:List (List aA)):Prop:=∀l∈lv,∀a∈l,(declares a).2=true/\hZ a=false
theorem HE:∀(xs m ms:List aA),eK m xs=some ms->(∀a∈m,(declares a).2=true/\hZ a=false)->∀a∈ms,(declares a).2=true/\hZ a=false
 |[],m,ms,h,hm=>by simp only[eK,Option.some.injEq] at h;subst h;exact hm
 |a::l,m,ms,h,hm=>by
  simp only[eK] at h;split at h
  ·rename_i hd;split at h
   ·cases h
   ·rename_i hb;split at h
    ·cases h
    ·refine HE l _ _ h fun c hc=>?_;rcases List.mem_append.1 hc with hc|hc
     ·exact hm c hc
     ·rw[List.mem_singleton.1 hc];exact⟨hd,by rw[<-LI hd];simpa using hb⟩
  ·exact HE l _ _ h hm
theorem aCq{a:aA}(h:(declares a).2=true/\hZ a=false)(hx:(declares a).1=dQ):a.v=gO:=by
 obtain⟨h,hw⟩:=h;unfold declares at h hx;split at h
 ·rename_i hu;rw[if_pos hu] at hx;split at h
  ·rename_i hp;rw[if_pos hp] at hx;have hn:a.p≠[]:=fun e=>UK (hp.symm.trans e);have hl:a.l=dQ:=hx;simp only[hZ,if_neg hn,hl] at hw;by_cases h3:a.v=gO
   ·exact h3
   ·simp[h3] at hw
  ·rename_i hp;rw[if_neg hp] at hx;exact absurd hx.symm UJ
 ·cases h
theorem TX:∀(l:List aA),(∀a∈l,(declares a).2=true/\hZ a=false)->∀u,jX dQ l=some u->u=gO
 |[],_,u,h=>by cases h
 |a::l,hg,u,h=>by
  simp only[jX] at h;split at h
  ·rename_i hx;cases h;exact aCq (hg a (.head _)) hx
  ·exact TX l (fun c hc=>hg c (.tail _ hc)) u h
theorem TY{lv:List (List aA)}(hg:LvG lv):∀(j:Nat) (u:List Nat),fX dQ lv j=some u->u=gO
 |0,u,h=>by cases h
 |j+1,u,h=>by
  simp only[fX] at h;split at h
  ·rename_i w hw;cases h;refine TX _ ?_ _ hw;by_cases hj:j<lv.length
   ·rw[List.getElem?_eq_getElem hj];exact hg _ (List.getElem_mem hj)
   ·rw[List.getElem?_eq_none (by omega)]
    exact nofun
  ·exact TY hg j u h
theorem TZ{lv:List (List aA)}(hg:LvG lv)(p:List Nat):c9 lv p=cN lv p:=by
 unfold c9 cN;by_cases hp:p=dQ
 ·subst hp;split
  ·rename_i u hu;rw[TY hg _ _ hu];simp
  ·simp
 ·cases fX p lv lv.length with
  |some u=>simp[hp]
  |none=>simp[hp]
theorem aFh(a:aA):cH (clr a)=bB a:=by unfold cH bB clr;split<;>rfl
theorem aFc{lv:List (List aA)}(hg:LvG lv)(a:aA):nmA lv (bB a)=nsA lv (bB a):=by
 have hne:fE≠[]:=by decide
 unfold nmA nsA;rw[TZ hg];unfold bB;by_cases h:a.p=bH\/a.p=[]/\a.l=bH
 ·simp[if_pos h,hne]
 ·simp only[if_neg h,true_and];by_cases h2:a.p=[]
  ·simp[h2,Ne.symm hne]
  ·simp[h2,Ne.symm hne]
theorem aFg(lv:List (List aA))(a:aA):(nsA lv a).1.l=a.l:=by
 unfold nsA;split
 ·rfl
 ·split<;>rfl
theorem Q7{lv:List (List aA)}(hg:LvG lv):∀(ys:List aA) (g:Bool) (ks:List (List Nat×List Nat)) (pre:List aA),(∀k,k∈ks↔∃b∈pre,(b.u,b.l)=k)->
  (nmL lv g ks (ys.map bB)).2=((g&&(nsL lv (ys.map bB)).2)&&!lV pre (nsL lv (ys.map bB)).1)/\((nsL lv (ys.map bB)).2=true->(nmL lv g ks (ys.map bB)).1=(nsL lv (ys.map bB)).1)
 |[],g,ks,pre,hk=>by simp[nmL,nsL,lV]
 |a::l,g,ks,pre,hk=>by
  have hl:=aFg lv (bB a);have hkey:(((nsA lv (bB a)).1.u,(bB a).l)∈ks)↔pre.any (fun b=>i7 b (nsA lv (bB a)).1)=true:=by rw[hk];simp[i7,hl]
  have hks:∀k,k∈(if ((nsA lv (bB a)).1.u,(bB a).l)∈ks then ks else ks++[((nsA lv (bB a)).1.u,(bB a).l)])↔∃b∈pre++[(nsA lv (bB a)).1],(b.u,b.l)=k:=fun k=>by
   have e:(∃b∈pre++[(nsA lv (bB a)).1],(b.u,b.l)=k)↔(k∈ks\/k=((nsA lv (bB a)).1.u,(bB a).l)):=by
    rw[hk];simp only[List.mem_append,List.mem_singleton,<-hl];constructor
    ·rintro⟨b,h|rfl,h2⟩
     ·exact .inl ⟨b,h,h2⟩
     ·exact .inr h2.symm
    ·rintro (⟨b,h,h2⟩|h)
     ·exact⟨b,.inl h,h2⟩
     ·exact⟨_,.inr rfl,h.symm⟩
   rw[e];split
   ·rename_i h;exact⟨.inl,fun h2=>h2.elim id fun h3=>h3▸h⟩
   ·simp
  have ih:=Q7 hg l ((g&&(nsA lv (bB a)).2)&&!decide (((nsA lv (bB a)).1.u,(bB a).l)∈ks)) _ (pre++[(nsA lv (bB a)).1]) hks;simp only[List.map_cons,nmL,nsL,aFc hg];refine⟨?_,fun h=>?_⟩
  ·rw[ih.1];by_cases ho:(nsA lv (bB a)).2=true
   ·rw[if_pos ho];simp only[lV,ho,Bool.and_true];by_cases hm:((nsA lv (bB a)).1.u,(bB a).l)∈ks
    ·have:=hkey.1 hm;simp[hm,this]
    ·have:pre.any (fun b=>i7 b (nsA lv (bB a)).1)=false:=by
      cases h:pre.any (fun b=>i7 b (nsA lv (bB a)).1) with
      |false=>rfl
      |true=>exact absurd (hkey.2 h) hm
     simp[hm,this]
   ·have ho':(nsA lv (bB a)).2=false:=by simpa using ho
    rw[if_neg ho];simp[ho']
  ·by_cases ho:(nsA lv (bB a)).2=true
   ·rw[if_pos ho] at h ⊢;rw[ih.2 h]
   ·rw[if_neg ho] at h;cases h
theorem P0:∀(xs pre:List aA) (g:Bool),cY g pre xs=(g&&gD (pre.map bB) xs)
 |[],pre,g=>by simp[cY,gD]
 |a::l,pre,g=>by
  have e:(pre.map bB).any (fun b=>bW b a)=pre.any (bW a):=by
   rw[List.any_map]
   congr 1
   funext b
   exact TB _ _
  simp only[cY,gD,P0 l,List.map_append,List.map_cons,List.map_nil,e];simp only[Bool.and_assoc]
theorem aCB{lv:List (List aA)}(hg:LvG lv)(n:Nd):(elT lv n).1=(eQ lv n).1/\((eQ lv n).1=true->(elT lv n).2=(eQ lv n).2/\∃ms,(eQ lv n).2=lv++[ms]/\LvG (lv++[ms])):=by
 unfold elT;rw[P0];by_cases h1:dT n.p n.l=false\/n.v≠[]
 ·have e:(dT n.p n.l&&decide (n.v=[]))=false:=by
   rcases h1 with h|h
   ·simp[h]
   ·simp[h]
  rw[AH h1,e];refine⟨?_,nofun⟩;rfl
 ·have e:(dT n.p n.l&&decide (n.v=[]))=true:=by simp only[not_or,Bool.not_eq_false,ne_eq,Decidable.not_not] at h1;simp[h1.1,h1.2]
  rw[e];by_cases h2:gD [] n.s=true
  ·rw[List.map_nil,h2,Bool.and_true];have hm:(eG n).s.map cH=n.s.map bB:=by
    show (n.s.map clr).map cH=_;rw[List.map_map]
    congr 1
    funext a
    exact aFh a
   unfold elG;rw[if_pos rfl];unfold eJ;rw[hm,HF];cases h3:eK [] (n.s.map bB) with
   |none=>rw[FC h1 h2 h3];exact⟨by simp,nofun⟩
   |some ms=>
    have hg2:LvG (lv++[ms]):=fun l hl=>by
     rcases List.mem_append.1 hl with h|h
     ·exact hg l h
     ·rw[List.mem_singleton.1 h];exact HE _ _ _ h3 nofun
    rw[FD h1 h2 h3];simp only[TZ hg2];obtain⟨q1,q2⟩:=Q7 hg2 n.s ((cN (lv++[ms]) n.p).2&&!decide (n.p=bH)) [] [] (fun k=>by simp)
    have hcn:(eG n).p=n.p:=rfl;simp only[hcn,q1];unfold bQ;by_cases h4:(cN (lv++[ms]) n.p).2=false\/n.p=bH
    ·have e4:((cN (lv++[ms]) n.p).2&&!decide (n.p=bH))=false:=by
      rcases h4 with h|h
      ·simp[h]
      ·simp[h]
     rw[e4];simp only[if_pos h4];exact⟨by simp,by simp⟩
    ·have e4:((cN (lv++[ms]) n.p).2&&!decide (n.p=bH))=true:=by simp only[not_or,Bool.not_eq_false] at h4;simp[h4.1,h4.2]
     rw[e4] at q2 ⊢;simp only[if_neg h4];by_cases h5:(nsL (lv++[ms]) (n.s.map bB)).2=true
     ·rw[q2 h5];refine⟨by simp,fun h6=>⟨?_,ms,rfl,hg2⟩⟩
      simp only[Bool.and_eq_true] at h6;have h7:=h6.1.1;simp[h7.1,h7.2]
     ·have h5':(nsL (lv++[ms]) (n.s.map bB)).2=false:=by simpa using h5
      rw[h5'];exact⟨by simp,by simp⟩
  ·have h2':gD [] n.s=false:=by simpa using h2
   rw[FB h1 h2',List.map_nil,h2'];exact⟨rfl,nofun⟩
def rng(m:Nat):List Int:=(List.range m).map fun (j:Nat)=>(j:Int)+1
theorem BQ(m:Nat):rng (m+1)=rng m++[(m:Int)+1]:=by simp[rng,List.range_succ]
theorem SJ(d:Int)(hd:1<=d):∀(m:Nat) (lv:List (List aA)),lv.length=m->dG d (rng m) lv=(rng (min m (d.toNat-1)),lv.take (d.toNat-1))
 |0,lv,h=>by have:lv=[]:=List.eq_nil_of_length_eq_zero h;subst this;rw[dG,dif_neg (fun h=>h.1 rfl)];simp[rng]
 |m+1,lv,h=>by
  rw[dG];have e:(rng (m+1)).getLastD 0=(m:Int)+1:=by rw[BQ];simp
  by_cases h1:d<=(m:Int)+1
  ·rw[dif_pos ⟨by rw[BQ];simp,by rw[e];exact h1⟩,BQ,List.dropLast_concat,SJ d hd m lv.dropLast (by rw[List.length_dropLast];omega)]
   have e2:min m (d.toNat-1)=min (m+1) (d.toNat-1):=by omega
   rw[e2,List.dropLast_eq_take,List.take_take];have e3:min (d.toNat-1) (lv.length-1)=d.toNat-1:=by omega
   rw[e3]
  ·rw[dif_neg (fun h=>h1 (by rw[<-e];exact h.2))]
   have e2:min (m+1) (d.toNat-1)=m+1:=by omega
   rw[e2,List.take_of_length_le (by omega)]
structure LvN(prev:Nd)(lv:List (List aA)):Prop where
 len:(lv.length:Int)=if prev.k=2 then prev.d else if prev.k=1 then 0 else prev.d-1
 doc:prev.k=1->prev.d=0
theorem LvG.take{lv:List (List aA)}(h:LvG lv)(k:Nat):LvG (lv.take k):=fun l hl=>h l (List.mem_of_mem_take hl)
theorem aGf{n:Nd}(h1:n.k≠1):kV n=kH n:=by
 unfold kV kH zX;have e0:xB n= !(((decide (n.p=[])&&decide (n.u=[]))&&decide (n.s=[]))&&(decide (n.k=5)||decide (n.l=[]))&&fY n.v):=by
  unfold xB;have:decide (0<n.s.length)= !decide (n.s=[]):=by cases n.s<;>simp
  rw[this];simp only[Bool.not_and,Bool.not_or]
 rw[e0];by_cases a:n.p=[]<;>by_cases b:n.u=[]<;>by_cases c:n.s=[]<;>by_cases e:n.l=[]<;>by_cases d:fY n.v=true<;>simp only[a,b,c,d,e,decide_true,decide_false,Bool.and_true,Bool.true_and,Bool.and_false,Bool.false_and,Bool.not_true,Bool.not_false,if_true,Bool.or_true,Bool.or_false,if_neg h1,Bool.false_eq_true,if_false]<;>first|rfl|skip
 all_goals
  by_cases k3:n.k=3
  ·simp[k3]
  ·by_cases k4:n.k=4
   ·simp[k4,Bool.and_comm,Bool.and_left_comm]
   ·by_cases k5:n.k=5
    ·simp[k5,Bool.and_comm,Bool.and_left_comm]
    ·simp[k3,k4,k5]
theorem TJ{prev n:Nd}(h:kJ prev n=true):n.k≠1/\fL prev n=false/\¬(n.k=3/\(n.d=1\/prev.k=3/\prev.d=n.d)):=by
 simp only[kJ,Bool.and_eq_true,Bool.not_eq_true',decide_eq_false_iff_not] at h;obtain⟨⟨h1,h2⟩,h3⟩:=h;refine⟨h1,h2,fun⟨h4,h5⟩=>?_⟩;simp only[h4,decide_true,Bool.not_true,Bool.false_or,Bool.and_eq_true,decide_eq_true_eq,Bool.or_eq_true,Bool.not_eq_true',decide_eq_false_iff_not] at h3;rcases h5 with h5|⟨h5,h6⟩
 ·omega
 ·rcases h3.2 with h7|h7
  ·exact h7 h5
  ·exact h7 h6
theorem aJL{prev n:Nd}(h:kJ prev n=false)(hb:fL prev n=false)(lv:List (List aA))(r:Nat):gM prev n lv r=none:=by
 have hd:1<=n.d:=by simp only[fL,Bool.or_eq_false_iff,decide_eq_false_iff_not] at hb;omega
 unfold gM;by_cases h1:n.k=1
 ·have e:kH n=false:=by unfold kH;simp[h1]
  rw[if_neg (by omega),if_pos e]
 ·have h3:n.k=3/\(n.d=1\/prev.k=3/\prev.d=n.d):=by
   simp only[kJ,hb,decide_eq_false h1,Bool.not_false,Bool.true_and,Bool.or_eq_false_iff,Bool.not_eq_false',decide_eq_true_eq,Bool.and_eq_false_iff,decide_eq_false_iff_not] at h;refine⟨h.1,?_⟩;rcases h.2 with h4|h4
   ·left;omega
   ·exact .inr h4
  rw[if_neg (by omega)]
  split
  ·rfl
  ·first|rfl|rw[if_pos h3]
theorem aJU{prev n:Nd}{lv:List (List aA)}(r:Nat)(hs:kJ prev n=true)(hn:LvN prev lv)(hg:LvG lv):
  (gM prev n lv r=none/\jW n (rng lv.length) lv r=none)\/∃lv' r',gM prev n lv r=some (lv',r')/\jW n (rng lv.length) lv r=some (rng lv'.length,lv',r')/\LvN n lv'/\LvG lv':=by
 obtain⟨h1,h2,h3⟩:=TJ hs;simp only[fL,Bool.or_eq_false_iff,decide_eq_false_iff_not,Bool.and_eq_false_iff,Bool.not_eq_false',decide_eq_true_eq] at h2;obtain⟨⟨⟨a1,a2⟩,a3⟩,a4⟩:=h2;have hle:n.d.toNat-1<=lv.length:=by
  have q1:=hn.len;have q2:=hn.doc;by_cases k2:prev.k=2
  ·rw[if_pos k2] at q1;omega
  ·rw[if_neg k2] at q1;by_cases k1:prev.k=1
   ·rw[if_pos k1] at q1;have:=q2 k1;omega
   ·rw[if_neg k1] at q1;omega
 have hp:=SJ n.d (by omega) lv.length lv rfl
 have hlt:(lv.take (n.d.toNat-1)).length=n.d.toNat-1:=by rw[List.length_take];omega
 have hmin:min lv.length (n.d.toNat-1)=n.d.toNat-1:=by omega
 rw[hmin] at hp;unfold gM jW;rw[hp];simp only;by_cases k2:n.k=2
 ·rw[if_pos k2,if_pos k2];obtain⟨e1,e2⟩:=aCB (hg.take (n.d.toNat-1)) n;by_cases ho:(eQ (lv.take (n.d.toNat-1)) n).1=true
  ·obtain⟨e3,ms,e4,e5⟩:=e2 ho;rw[if_pos ho,if_pos (e1.trans ho)];right;refine⟨_,_,rfl,?_,?_,?_⟩
   ·rw[e3,e4,List.length_append,hlt,List.length_singleton,BQ];have:((n.d.toNat-1:Nat):Int)+1=n.d:=by omega
    rw[this]
   ·rw[e4];exact⟨by rw[List.length_append,hlt,List.length_singleton,if_pos k2];omega,fun h=>absurd h h1⟩
   ·rw[e4];exact e5
  ·rw[if_neg ho,if_neg (fun h=>ho (e1.symm.trans h))];exact .inl ⟨rfl,rfl⟩
 ·rw[if_neg k2,if_neg k2,aGf h1];by_cases ho:kH n=true
  ·rw[if_pos ho,if_neg (by rw[ho];exact nofun),if_neg h3]
   right;refine⟨_,_,rfl,by rw[hlt],⟨?_,fun h=>absurd h h1⟩,hg.take _⟩
   rw[hlt,if_neg k2,if_neg h1];omega
  ·rw[if_neg ho,if_pos (by simpa using ho)]
   exact .inl ⟨rfl,rfl⟩
theorem QX:∀(l:List Nd) (prev:Nd) (lv:List (List aA)) (r:Nat),LvN prev lv->LvG lv->kF (some prev) (rng lv.length) lv r l=gJ prev lv r l
 |[],prev,lv,r,hn,hg=>rfl
 |n::l,prev,lv,r,hn,hg=>by
  simp only[kF,gJ];by_cases hs:hJ (some prev) n=true
  ·rw[if_pos hs,(TJ hs).2.1,if_neg (by decide)]
   rcases aJU r hs hn hg with⟨e1,e2⟩|⟨lv',r',e1,e2,n2,g2⟩
   ·rw[e1,e2]
   ·rw[e1,e2];exact QX l n lv' r' n2 g2
  ·rw[if_neg hs];by_cases hb:fL prev n=true
   ·rw[if_pos hb]
   ·rw[if_neg hb,aJL (show kJ prev n=false by simpa[hJ] using hs) (by simpa using hb)]
theorem aF3(n:Nd)(l:List Nd):kF none [] [] 0 (n::l)=if gZ n gN=true then gJ n [] 0 l else none:=by
 simp only[kF];by_cases h:n.k=1/\n.d=0
 ·have e1:hJ none n=true:=by simp[hJ,h.1,h.2]
  rw[if_pos e1];have e2:dG n.d [] []=([],[]):=by rw[dG,dif_neg (fun h=>h.1 rfl)]
  have hk:¬n.k=2:=by omega
  have e3:kV n=gZ n gN:=by
   have hv:fY []=true:=by decide
   unfold kV zX gZ gN;rw[if_pos h.1];simp only[h.1,h.2,decide_true,Bool.true_and,List.map_nil,List.map_eq_nil_iff];by_cases a:n.v=[]
   ·by_cases b1:n.l=[]<;>by_cases b2:n.p=[]<;>simp[a,hv,b1,b2]
   ·simp[a]
  unfold jW;rw[if_neg hk,e2,e3];by_cases ho:gZ n gN=true
  ·rw[if_pos ho,if_pos ho];exact QX l n [] 0 ⟨by rw[if_neg hk,if_pos h.1];rfl,fun _=>h.2⟩ nofun
  ·rw[if_neg ho,if_neg ho]
 ·have e1:¬hJ none n=true:=by simpa[hJ] using h
  have ho':gZ n gN=false:=by
   cases hz:gZ n gN with
   |false=>rfl
   |true=>have hz:=tP.1 hz;exact absurd ⟨by rw[hz];rfl,by rw[hz];rfl⟩ h
  rw[if_neg e1,ho',if_neg (by decide)]
theorem aF4(ts:List Nd):tC ts=gI ts:=by
 cases ts with
 |nil=>rfl
 |cons n l=>simp only[tC,gI,aF3];cases gZ n gN<;>simp
section
attribute [local irreducible] aM
variable {X : Ovr} {G : Gt}
theorem vI{α:Type}{enc:α->List V}{es by':Nat}{ty:TypeId}{vh:VH}{nx b n:Nat}{c:Option Nat}{xs:List α}(hl:∀a,(enc a).length=es)(h0:0<es)(hb:vh b=some (.cells (xs.map enc).flatten ty 0 false))(hn:n=xs.length)(hc:c=none\/c=some n)(a:α)(hroom:room by' (xs.length+1)){env:aH}{k:V->aH->VH->Nat->Prop}
  (hk:∀vh',vh' nx=some (.cells ((xs++[a]).map enc).flatten ty 0 false)->(∀d,d≠nx->d≠b->vh' d=vh d)->k (.msl nx 0 (xs++[a]).length es none) env vh' (nx+1)):aM es by' ty (.msl b 0 n es c) (enc a) 1 env vh nx k:=by
 subst hn;have hfl:=iI hl xs;have hle:Nat.ble (xs.length+1) xs.length=false:=by
  cases hb:Nat.ble (xs.length+1) xs.length with
  |false=>rfl
  |true=>have:=bC.1 hb;omega
 simp only[aM,aP.2 (rfl:es=es),cond_true]
 conv=>whnf
 refine⟨((xs.map enc).flatten,ty,0,false),hb,?_⟩;rcases hc with rfl|rfl
 ·simp only;have hdv:((xs.map enc).flatten.length-0) / es=xs.length:=by rw[hfl,Nat.sub_zero,Nat.mul_div_cancel _ h0]
  rw[hdv,hle]
  conv=>whnf
  refine⟨⟨trivial,by rw[hfl];exact Nat.le_refl _,Nat.zero_le _,trivial,hroom⟩,?_⟩
  have:=hk (aI (bX vh b) nx (.cells (((xs.map enc).flatten).take (xs.length*es)++enc a) ty (Ev.fzOff 0 0) false)) ?_ ?_
  ·rw[List.length_append,List.length_singleton] at this;exact this
  ·rw[aK,List.take_of_length_le (by rw[hfl];exact Nat.le_refl _)]
   simp[fzOff]
  ·intro d h1 h2;rw[aG h1,b5 h2]
 ·simp only;rw[hle]
  conv=>whnf
  refine⟨⟨by rw[hfl];omega,hroom⟩,?_⟩
  have:=hk (aI vh nx (.cells (((xs.map enc).flatten.drop 0).take (xs.length*es)++enc a) ty 0 false)) ?_ ?_
  ·rw[List.length_append,List.length_singleton] at this;exact this
  ·rw[aK,List.drop_zero,List.take_of_length_le (by rw[hfl];exact Nat.le_refl _)]
   simp
  ·intro d h1 h2;rw[aG h1]
def wN:List (List Nat):=[[],S_p,S_q]
def oP:List (List Nat):=[[],S_a,S_b,S_c,S_r,rX,S_q]
def lJ:List (List Nat):=[[],S_x,rS,rV,rP,rQ,rY,S_c,rR,rU,S_d,rZ]
structure fA(n:Nd):Prop where
 p:n.p∈wN
 l:n.l∈oP
 v:n.v∈lJ
 s:n.s.length<=6
 a:∀a∈n.s,∃c∈jL,a.p=c.p/\a.l=c.l/\a.v=c.v
theorem aFL:∀s∈wN,s.length<2^38:=by decide
theorem QM:∀s∈oP,s.length<2^38/\∀c∈s,c<256:=by decide
theorem aFN:∀s∈lJ,s.length<2^40:=by decide
theorem aB4:∀a∈jL,a.p.length<2^38/\a.l.length<2^38/\a.v.length<2^40:=by decide
theorem fA.small{n:Nd}(h:fA n):pS n where
 p:=aFL _ h.p
 l:=(QM _ h.l).1
 v:=aFN _ h.v
 b:=(QM _ h.l).2
 s:=by have:=h.s;omega
 a:=fun a ha=>by obtain⟨c,hc,e1,e2,e3⟩:=h.a a ha;obtain⟨h1,h2,h3⟩:=aB4 c hc;exact⟨by rw[e1];exact h1,by rw[e2];exact h2,by rw[e3];exact h3⟩
theorem RA(lv:List (List aA))(a:aA):(nsA lv a).1.p=a.p/\(nsA lv a).1.l=a.l/\(nsA lv a).1.v=a.v:=by
 unfold nsA;split
 ·exact⟨rfl,rfl,rfl⟩
 ·split<;>exact⟨rfl,rfl,rfl⟩
theorem RC(lv:List (List aA)):∀(xs:List aA) (a:aA),a∈(nsL lv xs).1->∃b∈xs,a.p=b.p/\a.l=b.l/\a.v=b.v
 |[],a,h=>by cases h
 |x::xs,a,h=>by
  simp only[nsL] at h;split at h
  ·rcases List.mem_cons.1 h with rfl|h1
   ·exact⟨x,.head _,RA lv x⟩
   ·obtain⟨b,hb,e⟩:=RC lv xs a h1;exact⟨b,.tail _ hb,e⟩
  ·rcases List.mem_cons.1 h with rfl|h1
   ·exact⟨x,.head _,RA lv x⟩
   ·exact⟨a,.tail _ h1,rfl,rfl,rfl⟩
theorem GQ{lv:List (List aA)}{n:Nd}(h:fA n):fA (bQ lv n).1:=by
 unfold bQ;split
 ·exact⟨h.p,h.l,h.v,h.s,h.a⟩
 ·refine⟨h.p,h.l,h.v,?_,fun a ha=>?_⟩
  ·show (nsL lv n.s).1.length<=6;rw[oU];exact h.s
  ·obtain⟨b,hb,e1,e2,e3⟩:=RC lv n.s a ha;obtain⟨c,hc,f1,f2,f3⟩:=h.a b hb;exact⟨c,hc,e1.trans f1,e2.trans f2,e3.trans f3⟩
theorem wT(lv:List (List aA))(n:Nd):(bQ lv n).1.d=n.d:=by unfold bQ;split<;>rfl
structure XK(X:Ovr):Prop extends XM X where
 attrs:X uH=none
 make:X x9=none
structure dZ(m:Nat)(lv:List (List aA)):Prop where
 len:lv.length<=m
 mem:∀l∈lv,l.length<2^30
theorem dZ.up{m k:Nat}{lv:List (List aA)}(h:dZ m lv)(hk:m<=k):dZ k lv:=⟨Nat.le_trans h.len hk,h.mem⟩
theorem dZ.push{m:Nat}{lv:List (List aA)}(h:dZ m lv){l:List aA}(hl:l.length<2^30):dZ (m+1) (lv++[l]):=by
 refine⟨?_,fun x hx=>?_⟩
 ·have:=h.len;rw[List.length_append,List.length_singleton];omega
 ·rcases List.mem_append.1 hx with h1|h1
  ·exact h.mem x h1
  ·rw[List.mem_singleton.1 h1];exact hl
end
section
attribute [local irreducible] aM
variable {X : Ovr} {G : Gt}
def eR(n:Int):List V:=[.int .i64 n]
abbrev mkE(ls:List Int)(bt bs tn:Nat)(c:Option Nat)(root:Bool)(i:Int)(tl:aH):aH:=(0,.sl 1 (ls.map eR) none)::(3,.msl bt 0 tn 7 c)::(4,.ptr bs 0)::(5,.bool root)::(6,.int .i64 i)::tl
theorem aB2{xs:List aA}(F:eV 6 xs):∀a∈xs,∃c∈jL,a.p=c.p/\a.l=c.l/\a.v=c.v:=fun a ha=>⟨a,F.mem a ha,rfl,rfl,rfl⟩
theorem dZ.b{m:Nat}{lv:List (List aA)}(h:dZ m lv):∀l∈lv,l.length<2^40:=fun l hl=>Nat.lt_trans (h.mem l hl) (by decide)
set_option maxHeartbeats 4000000 in
theorem JE(H:XK X)(ls:List Int)(bt bs bn tn:Nat)(c:Option Nat)(root:Bool)(i u d:Int)(lv:List (List aA))(m:Nat)(L:dZ m lv)(hm:m<2^20)(vh:VH)(vn:Nat)(ty:TypeId)(hs:Sc vh bs lv)(hbs:bs<bn)(hbn:bn<vn)(hn:vh bn=some (.cells (cD ⟨0,d,[],[],[],[],[]⟩ .nils) ty 0 false))(Q:FQ)
  (hC:∀lv' vh' vn' tl,vn<=vn'->Sc vh' bs lv'->dZ (m+1) lv'->(∀c,c<bn->c≠bs->vh' c=vh c)->Q (.exit 1) (mkE ls bt bs tn c root i tl) vh' vn')
  (hN:∀n' av lv' root' vh' vn',vn<=vn'->fA n'->n'.d=d->nV vh' bn n' av->SlR encA 4 vh' av n'.s->(∀c,aR av c->bn<c/\c<vn')->Sc vh' bs lv'->dZ (m+1) lv'->(∀c,c<bn->c≠bs->vh' c=vh c)->Q .norm (mkE ls bt bs tn c root' i [(11,.ptr bn 0)]) vh' vn'):
  aC Tryz.prog X G (.cut L7) (mkE ls bt bs tn c root i [(7,.int .u64 u),(10,.int .i64 d),(11,.ptr bn 0)]) vh vn Q:=by
 refine aC.cut ?_;have hr1:=lW (x:=wr .u64 (u.tdiv 8)) (m:=4) kN.1 (by decide)
 have hr2:=lW (x:=wr .u64 (u.tdiv 256)) (m:=4) kN.1 (by decide)
 have dbn:bn≠bs:=by omega
 have ln:=L.len
 conv=>whnf
 repeat (refine Owe.mk (by decide) ?_;conv=>whnf)
 refine Get.lit (f:=fun s=>[V.str s]) (zs:=[S_a,S_b,S_c,S_a]) rfl hr1.1 hr1.2 fun hlt1=>?_;have hz1:([S_a,S_b,S_c,S_a])[((wr .u64 (u.tdiv 8)).tmod 4).toNat]∈oP:=(by decide:∀s∈[S_a,S_b,S_c,S_a],s∈oP) _ (List.getElem_mem hlt1)
 generalize ([S_a,S_b,S_c,S_a])[((wr .u64 (u.tdiv 8)).tmod 4).toNat]=z1 at hz1
 conv=>whnf
 refine Get.mk (_,_,_,_) hn ?_
 conv=>whnf
 refine⟨⟨(by decide:1<=7),Nat.zero_le _⟩,?_⟩
 conv=>whnf
 refine Get.mk (_,_,_,_) aK ?_
 conv=>whnf
 refine⟨⟨(by decide:4<=7),Nat.zero_le _⟩,?_⟩
 conv=>whnf
 repeat (refine Owe.mk (by decide) ?_;conv=>whnf)
 generalize hv1:aI (aI vh bn _) bn _=vh1;have hn1:vh1 bn=some (.cells (cD ⟨2,d,[],z1,[],[],[]⟩ .nils) ty 0 false):=by rw[<-hv1];exact aK
 have f1:∀c,c≠bn->vh1 c=vh c:=fun c hc=>by rw[<-hv1];exact (aG hc).trans (aG hc)
 clear hv1;refine (YK H.attrs (wr .u64 (u.tdiv 32)) vh1 vn).mono fun v2 vh2 n2 he=>?_;obtain⟨g2,f2,xs,F,A⟩:=he;have hav:∀c,aR v2 c->vn<=c/\c<n2:=fun c hc=>by
  rcases A with⟨rfl|rfl,_⟩|⟨b,hb1,hb2,rfl,_⟩
  ·cases hc
  ·cases hc
  ·obtain rfl:c=b:=hc;exact⟨hb1,hb2⟩
 have hn2:=(f2 bn hbn).trans hn1;have s2:Sc vh2 bs lv:=gA hs ((f2 bs (by omega)).trans (f1 bs dbn.symm))
 have fr2:∀c,c<bn->vh2 c=vh c:=fun c hc=>(f2 c (by omega)).trans (f1 c (by omega))
 clear f1 hn1 hn hs f2;obtain⟨w,hw⟩:∃w,w=v2:=⟨_,rfl⟩;have xl:=F.len;rcases id A with⟨rfl|rfl,hnil⟩|⟨ba,hb1,hb2,rfl,hb4⟩
 all_goals
  conv=>whnf
  refine Get.mk (_,_,_,_) hn2 ?_
  conv=>whnf
  refine⟨⟨(by decide:7<=7),Nat.zero_le _⟩,?_⟩
  conv=>whnf
  repeat (refine Owe.mk (by decide) ?_;conv=>whnf)
  refine Get.lit (f:=fun s=>[V.str s]) (zs:=[[],[],S_p,S_q]) rfl hr2.1 hr2.2 fun hlt2=>?_;have hz2:([[],[],S_p,S_q])[((wr .u64 (u.tdiv 256)).tmod 4).toNat]∈wN:=(by decide:∀s∈[[],[],S_p,S_q],s∈wN) _ (List.getElem_mem hlt2)
  generalize ([[],[],S_p,S_q])[((wr .u64 (u.tdiv 256)).tmod 4).toNat]=z2 at hz2
  conv=>whnf
  refine Get.mk (_,_,_,_) aK ?_
  conv=>whnf
  refine⟨⟨(by decide:3<=7),Nat.zero_le _⟩,?_⟩
  conv=>whnf
  generalize hv4:aI (aI vh2 bn _) bn _=vh4;have hn4:vh4 bn=some (.cells (cD ⟨2,d,z2,z1,[],[],xs⟩ w) ty 0 false):=by rw[hw,<-hv4];exact aK
  rw[hw] at hn4;have f4:∀c,c≠bn->vh4 c=vh2 c:=fun c hc=>by rw[<-hv4];exact (aG hc).trans (aG hc)
  clear hv4;have s4:=gA s2 (f4 bs dbn.symm);have A4:=A.r.at (vh':=vh4) fun c hc=>f4 c (by have:=hav c hc;omega)
  have M4:fA ⟨2,d,z2,z1,[],[],xs⟩:=⟨hz2,hz1,.head _,F.len,aB2 F⟩;have fr4:∀c,c<bn->vh4 c=vh c:=fun c hc=>(f4 c (by omega)).trans (fr2 c hc)
  refine Get.mk (_,_,_,_) hn4 ?_
  conv=>whnf
  refine Get.mk _ rfl ?_
  conv=>whnf
  refine (C8 H.declares H.push bs lv _ xs vh4 n2 s4 (by omega) (by omega) A4 (fun c hc=>(hav c hc).2) (by omega)).mono fun r vh5 n5 he=>?_
  obtain⟨g5,f5,he⟩:=he;have fr5:∀c,c<bn->c≠bs->vh5 c=vh c:=fun c hc hcb=>(f5 c (by omega) hcb).trans (fr4 c hc)
  cases hp:eK [] xs with
  |none=>
   rw[hp] at he;obtain⟨rfl,s5⟩:=he
   conv=>whnf
   exact hC lv vh5 n5 _ (by omega) s5 (L.up (by omega)) fr5
  |some ms=>
   rw[hp] at he;obtain⟨rfl,s5⟩:=he;have hms:ms.length<2^30:=by have:=xD _ _ _ hp;simp only[List.length_nil] at this;omega
   have L5:=L.push hms;have hn5:=(f5 bn (by omega) dbn).trans hn4
   have A5:=A4.at (vh':=vh5) fun c hc=>f5 c (hav c hc).2 (by have:=hav c hc;omega)
   have dav1:=fun h=>Nat.lt_irrefl _ (Nat.lt_of_lt_of_le hbn (hav bn h).1);have dav2:=fun h=>Nat.lt_irrefl _ (Nat.lt_trans hbs (Nat.lt_of_lt_of_le hbn (hav bs h).1))
   conv=>whnf
   refine (CP H.declares H.uri H.names bs bn (lv++[ms]) L5.b (by have:=L5.len;omega) ⟨2,d,z2,z1,[],[],xs⟩ _ (by show xs.length<_;omega) vh5 n5 dbn.symm dav2 dav1 s5 ⟨ty,hn5⟩ A5).mono fun r vh6 n6 he=>?_
   obtain⟨e1,e2,⟨ty6,hn6⟩,A6,f6⟩:=he;rw[e1,e2];have s6:=gA s5 (f6 bs dbn.symm dav2);have fr6:∀c,c<bn->c≠bs->vh6 c=vh c:=fun c hc hcb=>(f6 c (by omega) fun h=>by have:=hav c h;omega).trans (fr5 c hc hcb)
   have M6:=GQ (lv:=lv++[ms]) M4
   conv=>whnf
   refine aB.mk (fun h7=>?_) (fun h7=>?_)
   ·conv=>whnf
    refine (CY H.pop bs (lv++[ms]) vh6 n5 s6 (by have:=L5.len;omega)).mono fun r vh7 n7 he=>?_
    obtain⟨e1,f7,s7,b7,e2⟩:=he;rw[e1,e2];rw[List.dropLast_concat] at s7;have hn7:=(f7 bn dbn).trans hn6
    conv=>whnf
    refine Get.mk (_,_,_,_) hn7 ?_
    conv=>whnf
    refine⟨⟨(by decide:3<=7),Nat.zero_le _⟩,?_⟩
    conv=>whnf
    refine Get.mk (_,_,_,_) aK ?_
    conv=>whnf
    refine⟨⟨(by decide:7<=7),Nat.zero_le _⟩,?_⟩
    conv=>whnf
    generalize hv8:aI (aI vh7 bn _) bn _=vh8;have hn8:vh8 bn=some (.cells (cD {(bQ (lv++[ms]) ⟨2,d,z2,z1,[],[],xs⟩).1 with p:=[],s:=[]} .nils) ty6 0 false):=by rw[<-hv8];exact aK
    have f8:∀c,c≠bn->vh8 c=vh7 c:=fun c hc=>by rw[<-hv8];exact (aG hc).trans (aG hc)
    clear hv8;have s8:=gA s7 (f8 bs dbn.symm);have fr8:∀c,c<bn->c≠bs->vh8 c=vh c:=fun c hc hcb=>(f8 c (by omega)).trans ((f7 c hcb).trans (fr6 c hc hcb))
    have M8:fA {(bQ (lv++[ms]) ⟨2,d,z2,z1,[],[],xs⟩).1 with p:=[],s:=[]}:=⟨.head _,M6.l,M6.v,by show 0<=6;omega,nofun⟩
    have d8:({(bQ (lv++[ms]) ⟨2,d,z2,z1,[],[],xs⟩).1 with p:=[],s:=[]}:Nd).d=d:=wT _ _;have e8:({(bQ (lv++[ms]) ⟨2,d,z2,z1,[],[],xs⟩).1 with p:=[],s:=[]}:Nd).s=[]:=rfl;generalize ({(bQ (lv++[ms]) ⟨2,d,z2,z1,[],[],xs⟩).1 with p:=[],s:=[]}:Nd)=N8 at hn8 M8 d8 e8;refine (C8 H.declares H.push bs lv .nils [] vh8 n5 s8 (by omega) (by omega) (.inl ⟨rfl,rfl⟩) (fun c hc=>by cases hc) (by decide)).mono fun r vh9 n9 he=>?_
    obtain⟨g9,f9,he⟩:=he;have he:r=.int .i64 0/\Sc vh9 bs (lv++[[]]):=he;obtain⟨rfl,s9⟩:=he;have L9:=L.push (l:=[]) (by decide)
    have hn9:=(f9 bn (by omega) dbn).trans hn8
    have fr9:∀c,c<bn->c≠bs->vh9 c=vh c:=fun c hc hcb=>(f9 c (by omega) hcb).trans (fr8 c hc hcb)
    conv=>whnf
    refine (CP H.declares H.uri H.names bs bn (lv++[[]]) L9.b (by have:=L9.len;omega) N8 .nils (by rw[e8];decide) vh9 n9 dbn.symm (fun h=>h) (fun h=>h) s9 ⟨ty6,hn9⟩ (.inl ⟨e8,rfl⟩)).mono fun r vh10 n10 he=>?_
    obtain⟨e1,e2,N10,A10,f10⟩:=he;rw[e1,e2];have s10:=gA s9 (f10 bs dbn.symm fun h=>h);have fr10:∀c,c<bn->c≠bs->vh10 c=vh c:=fun c hc hcb=>(f10 c (by omega) fun h=>h).trans (fr9 c hc hcb)
    conv=>whnf
    refine aB.mk (fun h8=>?_) (fun h8=>?_)
    ·conv=>whnf
     exact hC (lv++[[]]) vh10 n9 _ (by omega) s10 L9 fr10
    ·conv=>whnf
     refine aB.mk (fun h9=>?_) (fun h9=>?_)
     ·conv=>whnf
      exact hN _ _ (lv++[[]]) _ vh10 n9 (by omega) (GQ M8) ((wT _ _).trans d8) N10 A10 (fun c hc=>by cases hc) s10 L9 fr10
     ·conv=>whnf
      exact hN _ _ (lv++[[]]) _ vh10 n9 (by omega) (GQ M8) ((wT _ _).trans d8) N10 A10 (fun c hc=>by cases hc) s10 L9 fr10
   ·conv=>whnf
    refine aB.mk (fun h9=>?_) (fun h9=>?_)
    ·conv=>whnf
     exact hN _ _ (lv++[ms]) _ vh6 n5 (by omega) M6 (wT _ _) ⟨ty6,hn6⟩ A6 (fun c hc=>by have:=hav c hc;omega) s6 L5 fr6
    ·conv=>whnf
     exact hN _ _ (lv++[ms]) _ vh6 n5 (by omega) M6 (wT _ _) ⟨ty6,hn6⟩ A6 (fun c hc=>by have:=hav c hc;omega) s6 L5 fr6
end
section
attribute [local irreducible] aM
variable {X : Ovr} {G : Gt}
set_option maxHeartbeats 4000000 in
theorem VV(H:XK X)(ls:List Int)(bt bs bn tn:Nat)(c:Option Nat)(root:Bool)(i u d k:Int)(last:Nd)(lv:List (List aA))(m:Nat)(L:dZ m lv)(hm:m<2^20)(vh:VH)(vn:Nat)(ty:TypeId)(hs:Sc vh bs lv)(hbs:bs<bn)(hbn:bn<vn)(hn:vh bn=some (.cells (cD ⟨0,d,[],[],[],[],[]⟩ .nils) ty 0 false))(Q:FQ)
  (hC:∀lv' vh' vn' tl,vn<=vn'->Sc vh' bs lv'->dZ (m+1) lv'->(∀c,c<bn->c≠bs->vh' c=vh c)->Q (.exit 1) (mkE ls bt bs tn c root i tl) vh' vn')
  (hN:∀n' av lv' root' vh' vn',vn<=vn'->fA n'->n'.d=d->nV vh' bn n' av->SlR encA 4 vh' av n'.s->(∀c,aR av c->bn<c/\c<vn')->Sc vh' bs lv'->dZ (m+1) lv'->(∀c,c<bn->c≠bs->vh' c=vh c)->Q .norm (mkE ls bt bs tn c root' i [(11,.ptr bn 0)]) vh' vn'):
  aC Tryz.prog X G (.cut L0) (mkE ls bt bs tn c root i [(7,.int .u64 u),(8,.bx (aO last)),(10,.int .i64 d),(11,.ptr bn 0),(12,.int .u64 k)]) vh vn Q:=by
 refine aC.cut ?_;have hr1:=lW (x:=wr .u64 (u.tdiv 8)) (m:=6) kN.1 (by decide)
 have hr2:=lW (x:=wr .u64 (u.tdiv 8)) (m:=4) kN.1 (by decide)
 have hr3:=lW (x:=wr .u64 (u.tdiv 8)) (m:=2) kN.1 (by decide)
 have hr4:=lW (x:=wr .u64 (u.tdiv 16)) (m:=3) kN.1 (by decide)
 have dbn:bn≠bs:=by omega
 conv=>whnf
 refine aB.mk (fun h1=>?_) (fun h1=>?_)
 ·conv=>whnf
  refine aB.mk (fun h2=>?_) (fun h2=>?_)
  ·conv=>whnf
   refine aB.mk (fun h3=>?_) (fun h3=>?_)
   ·conv=>whnf
    exact hC lv vh vn _ (Nat.le_refl _) hs (L.up (by omega)) fun _ _ _=>rfl
   ·conv=>whnf
    exact JE H ls bt bs bn tn c root i u d lv m L hm vh vn ty hs hbs hbn hn _ hC hN
  ·conv=>whnf
   exact JE H ls bt bs bn tn c root i u d lv m L hm vh vn ty hs hbs hbn hn _ hC hN
 ·conv=>whnf
  refine aB.mk (fun h2=>?_) (fun h2=>?_)
  ·conv=>whnf
   repeat (refine Owe.mk (by decide) ?_;conv=>whnf)
   refine Get.lit (f:=fun s=>[V.str s]) (zs:=[S_x,rS,rV,rP,rQ,rY]) rfl hr1.1 hr1.2 fun hlt=>?_;have hz1:([S_x,rS,rV,rP,rQ,rY])[((wr .u64 (u.tdiv 8)).tmod 6).toNat]∈lJ:=(by decide:∀s∈[S_x,rS,rV,rP,rQ,rY],s∈lJ) _ (List.getElem_mem hlt)
   generalize ([S_x,rS,rV,rP,rQ,rY])[((wr .u64 (u.tdiv 8)).tmod 6).toNat]=z1 at hz1
   conv=>whnf
   refine Get.mk (_,_,_,_) hn ?_
   conv=>whnf
   refine⟨⟨(by decide:1<=7),Nat.zero_le _⟩,?_⟩
   conv=>whnf
   refine Get.mk (_,_,_,_) aK ?_
   conv=>whnf
   refine⟨⟨(by decide:6<=7),Nat.zero_le _⟩,?_⟩
   conv=>whnf
   generalize hv1:aI (aI vh bn _) bn _=vh1;have hn1:vh1 bn=some (.cells (cD ⟨3,d,[],[],[],z1,[]⟩ .nils) ty 0 false):=by rw[<-hv1];exact aK
   have f1:∀c,c≠bn->vh1 c=vh c:=fun c hc=>by rw[<-hv1];exact (aG hc).trans (aG hc)
   have s1:=gA hs (f1 bs dbn.symm);have fr1:∀c,c<bn->c≠bs->vh1 c=vh c:=fun c hc _=>f1 c (by omega)
   have M1:fA ⟨3,d,[],[],[],z1,[]⟩:=⟨.head _,.head _,hz1,by show 0<=6;omega,nofun⟩
   clear hv1
   repeat' ((first|refine aB.mk (fun _=>?_) (fun _=>?_))<;>(conv=>whnf))
   all_goals first
    |exact hC lv vh1 vn _ (Nat.le_refl _) s1 (L.up (by omega)) fr1
    |exact hN _ _ lv _ vh1 vn (Nat.le_refl _) M1 rfl ⟨ty,hn1⟩ (.inl ⟨rfl,rfl⟩) (fun c hc=>by cases hc) s1 (L.up (by omega)) fr1
  ·conv=>whnf
   refine aB.mk (fun h3=>?_) (fun h3=>?_)
   ·conv=>whnf
    repeat (refine Owe.mk (by decide) ?_;conv=>whnf)
    refine Get.lit (f:=fun s=>[V.str s]) (zs:=[[],S_c,rR,rU]) rfl hr2.1 hr2.2 fun hlt=>?_;have hz1:([[],S_c,rR,rU])[((wr .u64 (u.tdiv 8)).tmod 4).toNat]∈lJ:=(by decide:∀s∈[[],S_c,rR,rU],s∈lJ) _ (List.getElem_mem hlt)
    generalize ([[],S_c,rR,rU])[((wr .u64 (u.tdiv 8)).tmod 4).toNat]=z1 at hz1
    conv=>whnf
    refine Get.mk (_,_,_,_) hn ?_
    conv=>whnf
    refine⟨⟨(by decide:1<=7),Nat.zero_le _⟩,?_⟩
    conv=>whnf
    refine Get.mk (_,_,_,_) aK ?_
    conv=>whnf
    refine⟨⟨(by decide:6<=7),Nat.zero_le _⟩,?_⟩
    conv=>whnf
    exact hN ⟨4,d,[],[],[],z1,[]⟩ .nils lv _ _ vn (Nat.le_refl _) ⟨.head _,.head _,hz1,by show 0<=6;omega,nofun⟩ rfl ⟨ty,aK⟩ (.inl ⟨rfl,rfl⟩) (fun c hc=>by cases hc) (gA hs ((aG dbn.symm).trans (aG dbn.symm))) (L.up (by omega)) fun c hc _=>(aG (by omega)).trans (aG (by omega))
   ·conv=>whnf
    repeat (refine Owe.mk (by decide) ?_;conv=>whnf)
    refine Get.lit (f:=fun s=>[V.str s]) (zs:=[rX,S_q]) rfl hr3.1 hr3.2 fun hlt=>?_;have hz1:([rX,S_q])[((wr .u64 (u.tdiv 8)).tmod 2).toNat]∈oP:=(by decide:∀s∈[rX,S_q],s∈oP) _ (List.getElem_mem hlt)
    generalize ([rX,S_q])[((wr .u64 (u.tdiv 8)).tmod 2).toNat]=z1 at hz1
    conv=>whnf
    repeat (refine Owe.mk (by decide) ?_;conv=>whnf)
    refine Get.lit (f:=fun s=>[V.str s]) (zs:=[[],S_d,rZ]) rfl hr4.1 hr4.2 fun hlt=>?_;have hz2:([[],S_d,rZ])[((wr .u64 (u.tdiv 16)).tmod 3).toNat]∈lJ:=(by decide:∀s∈[[],S_d,rZ],s∈lJ) _ (List.getElem_mem hlt)
    generalize ([[],S_d,rZ])[((wr .u64 (u.tdiv 16)).tmod 3).toNat]=z2 at hz2
    conv=>whnf
    refine Get.mk (_,_,_,_) hn ?_
    conv=>whnf
    refine⟨⟨(by decide:1<=7),Nat.zero_le _⟩,?_⟩
    conv=>whnf
    refine Get.mk (_,_,_,_) aK ?_
    conv=>whnf
    refine⟨⟨(by decide:4<=7),Nat.zero_le _⟩,?_⟩
    conv=>whnf
    refine Get.mk (_,_,_,_) aK ?_
    conv=>whnf
    refine⟨⟨(by decide:6<=7),Nat.zero_le _⟩,?_⟩
    conv=>whnf
    exact hN ⟨5,d,[],z1,[],z2,[]⟩ .nils lv _ _ vn (Nat.le_refl _) ⟨.head _,hz1,hz2,by show 0<=6;omega,nofun⟩ rfl ⟨ty,aK⟩ (.inl ⟨rfl,rfl⟩) (fun c hc=>by cases hc) (gA hs ((aG dbn.symm).trans ((aG dbn.symm).trans (aG dbn.symm)))) (L.up (by omega)) fun c hc _=>(aG (by omega)).trans ((aG (by omega)).trans (aG (by omega)))
theorem JD(H:XK X)(ls:List Int)(bt bs tn:Nat)(c:Option Nat)(root:Bool)(i u d:Int)(last:Nd)(hd:1<=d)(vn:Nat)(Q:FQ):∀(m:Nat) (lv:List (List aA)) (vh:VH),lv.length=m->lv.length<2^40->Sc vh bs lv->
  (∀vh' b lv',lv'.length<=lv.length->(∀l∈lv',l∈lv)->Sc vh' bs lv'->(∀c,c≠bs->vh' c=vh c)->Q (.exit 2) (mkE ls bt bs tn c root i [(7,.int .u64 u),(8,.bx (aO last)),(10,.int .i64 d),(76,.bool b)]) vh' vn)->
  aC Tryz.prog X G (.loop LZ) (mkE ls bt bs tn c root i [(7,.int .u64 u),(8,.bx (aO last)),(10,.int .i64 d)]) vh vn Q
 |m,lv,vh,hm,hl,hs,hQ=>by
  refine aC.round ?_;obtain⟨ty,hs4⟩:=id hs
  conv=>whnf
  refine Get.mk (_,_,_,_) hs4 ?_
  conv=>whnf
  refine Get.mk _ rfl ?_
  conv=>whnf
  refine aB.mk (fun h1=>?_) (fun h1=>?_)
  ·have h1':d<=(lv.length:Int):=by simpa using h1
   conv=>whnf
   refine (CY H.pop bs lv vh vn hs hl).mono fun v vh' vn' he=>?_;obtain⟨e1,f1,s1,b1,e2⟩:=he;rw[e1,e2]
   conv=>whnf
   refine JD H ls bt bs tn c root i u d last hd vn Q (m-1) lv.dropLast vh' (by rw[List.length_dropLast];omega) (by rw[List.length_dropLast];omega) s1 fun vh2 b lv2 l2 m2 s2 f2=>hQ vh2 b lv2 ?_ (fun l hl=>List.dropLast_subset _ (m2 l hl)) s2 fun c hc=>(f2 c hc).trans (f1 c hc)
   rw[List.length_dropLast] at l2;omega
  ·conv=>whnf
   exact hQ vh _ lv (Nat.le_refl _) (fun _ h=>h) hs fun _ _=>rfl
termination_by m=>m
decreasing_by all_goals omega
end
section
attribute [local irreducible] aM
variable {X : Ovr} {G : Gt}
theorem lA(n:Nd):(aO n).length=7:=rfl
set_option maxHeartbeats 4000000 in
theorem VU(H:XK X)(ls:List Int)(bt bs:Nat)(ts:List Nd)(c:Option Nat)(root:Bool)(i u d:Int)(last:Nd)(lv:List (List aA))(m:Nat)(L:dZ m lv)(hm:m<2^20)(vh:VH)(vn:Nat)(hs:Sc vh bs lv)(hbs:bs<vn)(hbt:bt<vn)(dbt:bt≠bs)(ht:vh bt=some (.cells (ts.map aO).flatten cS 0 false))(hc:c=none\/c=some ts.length)(hts:ts.length<2^20)(hd:1<=d)(Q:FQ)
  (hC:∀lv' vh' vn' tl,vn<=vn'->Sc vh' bs lv'->dZ (m+1) lv'->(∀c,c<vn->c≠bs->vh' c=vh c)->Q (.exit 1) (mkE ls bt bs ts.length c root i tl) vh' vn')
  (hN:∀n' b' lv' root' vh' vn',vn<=b'->b'<vn'->fA n'->n'.d=d->vh' b'=some (.cells ((ts++[n']).map aO).flatten cS 0 false)->Sc vh' bs lv'->dZ (m+1) lv'->(∀c,c<vn->c≠bs->c≠bt->vh' c=vh c)->Q .norm (mkE ls b' bs (ts++[n']).length none root' i []) vh' vn'):
  aC Tryz.prog X G (.cut ED) (mkE ls bt bs ts.length c root i [(7,.int .u64 u),(8,.bx (aO last)),(10,.int .i64 d)]) vh vn Q:=by
 refine aC.cut ?_
 conv=>whnf
 refine JD H ls bt bs ts.length c root i u d last hd vn _ lv.length lv vh rfl (by have:=L.len;omega) hs fun vh1 b lv1 l1 m1 s1 f1=>?_
 have L1:dZ m lv1:=⟨Nat.le_trans l1 L.len,fun l hl=>L.mem l (m1 l hl)⟩
 conv=>whnf
 refine Get.mk (_,_,_,_) aK ?_
 conv=>whnf
 refine⟨⟨(by decide:7<=7),Nat.zero_le _⟩,?_⟩
 conv=>whnf
 repeat (refine Owe.mk (by decide) ?_;conv=>whnf)
 generalize hv2:aI (aI vh1 vn _) vn _=vh2;have hn2:vh2 vn=some (.cells (cD ⟨0,d,[],[],[],[],[]⟩ .nils) cS 0 false):=by rw[<-hv2];exact aK
 have f2:∀c,c≠vn->vh2 c=vh1 c:=fun c hc=>by rw[<-hv2];exact (aG hc).trans (aG hc)
 have s2:=gA s1 (f2 bs (by omega))
 have fr2:∀c,c<vn->c≠bs->vh2 c=vh c:=fun c hc hcb=>(f2 c (by omega)).trans (f1 c hcb)
 clear hv2;refine VV H ls bt bs vn ts.length c root i u d _ last lv1 m L1 hm vh2 (vn+1) cS s2 hbs (by omega) hn2 _ (fun lv3 vh3 n3 tl g3 s3 L3 f3=>?_) (fun n3 av lv3 root3 vh3 nx3 g3 M3 d3 N3 A3 hav s3 L3 f3=>?_)
 ·exact hC lv3 vh3 n3 tl (by omega) s3 L3 fun c hc hcb=>(f3 c hc hcb).trans (fr2 c hc hcb)
 ·obtain⟨k',d',p',l',u',v',s'⟩:=n3;obtain⟨ty3,N3⟩:=N3;have ht3:=(f3 bt hbt dbt).trans ((fr2 bt hbt dbt).trans ht);have fr3:∀c,c<vn->c≠bs->vh3 c=vh c:=fun c hc hcb=>(f3 c hc hcb).trans (fr2 c hc hcb);rcases id A3 with⟨h3,rfl⟩|⟨h3,rfl⟩|⟨ba,ta,rfl,h4⟩
  ·obtain rfl:s'=[]:=h3
   conv=>whnf
   refine Get.mk (_,_,_,_) N3 ?_
   conv=>whnf
   refine Get.mk (cD ⟨k',d',p',l',u',v',[]⟩ .nils) ⟨rfl,(by decide:7<=7)⟩ ?_
   conv=>whnf
   refine vI (a:=(⟨k',d',p',l',u',v',[]⟩:Nd)) lA (by decide) ht3 rfl hc ⟨?_,?_⟩ fun vh4 h4 f4=>?_
   ·omega
   ·show _<9223372036854775808;omega
   conv=>whnf
   exact hN _ nx3 lv3 root3 vh4 (nx3+1) (by omega) (by omega) M3 d3 h4 (gA s3 (f4 bs (by omega) (Ne.symm dbt))) L3 fun c hc hcb hct=>(f4 c (by omega) hct).trans (fr3 c hc hcb)
  ·obtain rfl:s'=[]:=h3
   conv=>whnf
   refine Get.mk (_,_,_,_) N3 ?_
   conv=>whnf
   refine Get.mk (cD ⟨k',d',p',l',u',v',[]⟩ (.sl 4 [] (some 0))) ⟨rfl,(by decide:7<=7)⟩ ?_
   conv=>whnf
   refine vI (a:=(⟨k',d',p',l',u',v',[]⟩:Nd)) lA (by decide) ht3 rfl hc ⟨?_,?_⟩ fun vh4 h4 f4=>?_
   ·omega
   ·show _<9223372036854775808;omega
   conv=>whnf
   exact hN _ nx3 lv3 root3 vh4 (nx3+1) (by omega) (by omega) M3 d3 h4 (gA s3 (f4 bs (by omega) (Ne.symm dbt))) L3 fun c hc hcb hct=>(f4 c (by omega) hct).trans (fr3 c hc hcb)
  ·conv=>whnf
   refine Get.mk (_,_,_,_) N3 ?_
   conv=>whnf
   refine Get.mk (cD ⟨k',d',p',l',u',v',s'⟩ (.msl ba 0 s'.length 4 none)) ⟨rfl,(by decide:7<=7)⟩ ?_
   conv=>whnf
   refine Get.mk (_,_,_,_) h4 ?_
   conv=>whnf
   refine⟨gG cV (by decide),?_⟩
   conv=>whnf
   refine Get.mk _ (eU cV) ?_
   conv=>whnf
   have hba:=hav ba rfl;have f5:∀c,c≠ba->bX vh3 ba c=vh3 c:=fun c hc=>b5 hc;generalize bX vh3 ba=vh5 at f5;refine vI (a:=(⟨k',d',p',l',u',v',s'⟩:Nd)) lA (by decide) ((f5 bt (by omega)).trans ht3) rfl hc ⟨?_,?_⟩ fun vh4 h4 f4=>?_
   ·omega
   ·show _<9223372036854775808;omega
   conv=>whnf
   exact hN _ nx3 lv3 root3 vh4 (nx3+1) (by omega) (by omega) M3 d3 h4 (gA s3 ((f4 bs (by omega) (Ne.symm dbt)).trans (f5 bs (by omega)))) L3 fun c hc hcb hct=>((f4 c (by omega) hct).trans (f5 c (by omega))).trans (fr3 c hc hcb)
set_option maxHeartbeats 4000000 in
theorem VW(H:XK X)(ls:List Int)(bt bs:Nat)(ts:List Nd)(c:Option Nat)(root:Bool)(i u:Int)(hu0:0<=u)(hu1:u<18446744073709551616)(last:Nd)(hl0:0<=last.d)(hl1:last.d<2^30)(hl2:last.d=0->last.k=1)(lv:List (List aA))(m:Nat)(L:dZ m lv)(hm:m<2^20)(vh:VH)(vn:Nat)(hs:Sc vh bs lv)(hbs:bs<vn)(hbt:bt<vn)(dbt:bt≠bs)(ht:vh bt=some (.cells (ts.map aO).flatten cS 0 false))(hc:c=none\/c=some ts.length)(hts:ts.length<2^20)(Q:FQ)
  (hC:∀lv' vh' vn' tl,vn<=vn'->Sc vh' bs lv'->dZ (m+1) lv'->(∀c,c<vn->c≠bs->vh' c=vh c)->Q (.exit 1) (mkE ls bt bs ts.length c root i tl) vh' vn')
  (hN:∀n' b' lv' root' vh' vn',vn<=b'->b'<vn'->fA n'->1<=n'.d->n'.d<=last.d+1->vh' b'=some (.cells ((ts++[n']).map aO).flatten cS 0 false)->Sc vh' bs lv'->dZ (m+1) lv'->(∀c,c<vn->c≠bs->c≠bt->vh' c=vh c)->Q .norm (mkE ls b' bs (ts++[n']).length none root' i []) vh' vn'):
  aC Tryz.prog X G (.cut L8) (mkE ls bt bs ts.length c root i [(7,.int .u64 u),(8,.bx (aO last))]) vh vn Q:=by
 refine aC.cut ?_;have go:∀d,1<=d->d<=last.d+1->aC Tryz.prog X G (.cut ED) (mkE ls bt bs ts.length c root i [(7,.int .u64 u),(8,.bx (aO last)),(10,.int .i64 d)]) vh vn Q:=fun d h1 h2=>VU H ls bt bs ts c root i u d last lv m L hm vh vn hs hbs hbt dbt ht hc hts h1 Q hC (fun a1 a2 a3 a4 a5 a6 a7 a8 a9 a10 a11 a12 a13 a14=>hN a1 a2 a3 a4 a5 a6 a7 a8 a9 (by omega) (by omega) a11 a12 a13 a14)
 have q0:0<=u.tdiv 64/\u.tdiv 64<2^60:=by rw[Int.tdiv_eq_ediv_of_nonneg hu0];omega
 have q2:wr .i64 (wr .u64 (u.tdiv 64))=u.tdiv 64:=by rw[dA (by omega) (by omega),aF (by omega) (by omega)]
 have q1:=lW (x:=u.tdiv 64) (m:=3) q0.1 (by decide)
 have e1:wr .i64 (last.d+1)=last.d+1:=by rw[aF]<;>omega
 have e2:wr .i64 (last.d+1-(u.tdiv 64).tmod 3)=last.d+1-(u.tdiv 64).tmod 3:=by rw[aF]<;>omega
 have e3:wr .i64 (last.d-(u.tdiv 64).tmod 3)=last.d-(u.tdiv 64).tmod 3:=by rw[aF]<;>omega
 clear hC hN L ht hs
 conv=>whnf
 repeat' ((first|refine Owe.mk (by decide) ?_|refine aB.mk (fun _=>?_) (fun _=>?_))<;>(conv=>whnf))
 all_goals refine go _ ?_ ?_
 all_goals clear go
 all_goals
  simp only[q2,e1,e2,e3,decide_eq_true_eq,decide_eq_false_iff_not,cond_false,cond_true] at *;omega
end
section
attribute [local irreducible] aM
variable {X : Ovr} {G : Gt}
theorem aCI{xs:List Nd}{i:Nat}(h:i<xs.length):((xs.map aO).flatten.drop (0+i*7)).take 7=aO xs[i]/\0+i*7+7<=(xs.map aO).flatten.length:=by rw[Nat.zero_add];exact⟨FV lA xs i h,lH lA xs i h⟩
structure vC(ts:List Nd):Prop where
 ne:0<ts.length
 nd:∀n∈ts,fA n/\0<=n.d/\(n.d=0->n.k=1)/\n.d<ts.length
theorem vC.app{ts:List Nd}(h:vC ts){n:Nd}(hn:fA n)(h1:1<=n.d)(h2:n.d<=ts.length):vC (ts++[n]):=by
 refine⟨by simp,fun a ha=>?_⟩
 rw[List.length_append,List.length_singleton];rcases List.mem_append.1 ha with h3|h3
 ·obtain⟨q1,q2,q3,q4⟩:=h.nd a h3;exact⟨q1,q2,q3,by omega⟩
 ·rw[List.mem_singleton.1 h3];exact⟨hn,by omega,by omega,by omega⟩
structure MSt(lo bs bt:Nat)(ts:List Nd)(c:Option Nat)(lv:List (List aA))(m:Nat)(vh0 vh:VH)(vn:Nat):Prop where
 sc:Sc vh bs lv
 L:dZ m lv
 hbs:bs<vn
 hbt:bt<vn
 d:bt≠bs
 lo1:lo<=bs
 lo2:lo<=bt
 t:vh bt=some (.cells (ts.map aO).flatten cS 0 false)
 hc:c=none\/c=some ts.length
 made:vC ts
 len:ts.length<=m+1
 fr:∀c,c<lo->vh c=vh0 c
theorem CM(H:XK X)(ls:List Int)(lo bs:Nat)(vh0:VH)(Q:FQ)(hQ:∀bt' ts' c' root' lv' m' vh' vn' i' b,lo<=vn'->m'<=30->MSt lo bs bt' ts' c' lv' m' vh0 vh' vn'->Q (.exit 0) (mkE ls bt' bs ts'.length c' root' i' [(24,.bool b)]) vh' vn'):∀(m i:Nat),30-i=m->i<=30->∀(bt:Nat) (ts:List Nd) (c:Option Nat) (root:Bool) (lv:List (List aA)) (vh:VH) (vn:Nat),lo<=vn->MSt lo bs bt ts c lv i vh0 vh vn->
  aC Tryz.prog X G (.loop LY) (mkE ls bt bs ts.length c root i []) vh vn Q
 |m,i,hm,hi,bt,ts,c,root,lv,vh,vn,hlo,S=>by
  refine aC.round ?_;have ne:=S.made.ne;have hlen:=S.len
  conv=>whnf
  refine aB.mk (fun h1=>?_) (fun h1=>?_)
  ·have h1':i<ls.length:=by simpa using h1
   conv=>whnf
   refine aB.mk (fun h2=>?_) (fun h2=>?_)
   ·have h2':i<30:=by simp at h2;omega
    have e:wr .i64 ((i:Int)+1)=((i+1:Nat):Int):=by rw[aF]<;>omega
    have hj:ts.length-1<ts.length:=by omega
    obtain⟨q1,q2,q3,q4⟩:=S.made.nd ts[ts.length-1] (List.getElem_mem hj);have hu:=kN (x:=ls[i])
    conv=>whnf
    refine Get.mk (i,eR ls[i]) ⟨rfl,by simp[h1']⟩ ?_
    conv=>whnf
    refine Get.mk (ts.length-1) ⟨?_,hj⟩ ?_
    ·simp only[Int.ofNat_eq_natCast];rw[aF]<;>omega
    conv=>whnf
    refine Get.mk (_,_,_,_) S.t ?_
    conv=>whnf
    refine Get.mk _ (aCI hj) ?_
    conv=>whnf
    refine VW H ls bt bs ts c root i (wr .u64 ls[i]) hu.1 hu.2 ts[ts.length-1] q2 (by omega) q3 lv i S.L (by omega) vh vn S.sc S.hbs S.hbt S.d S.t S.hc (by omega) _ (fun lv3 vh3 n3 tl g3 s3 L3 f3=>?_) (fun n' b' lv3 root3 vh3 n3 g3 g4 M3 d3 d4 t3 s3 L3 f3=>?_)
    ·conv=>whnf
     rw[e];exact CM H ls lo bs vh0 Q hQ (m-1) (i+1) (by omega) (by omega) bt ts c root lv3 vh3 n3 (by omega) ⟨s3,L3,by have:=S.hbs;omega,by have:=S.hbt;omega,S.d,S.lo1,S.lo2,(f3 bt S.hbt S.d).trans S.t,S.hc,S.made,by omega,fun c hc=>(f3 c (by omega) (by have:=S.lo1;omega)).trans (S.fr c hc)⟩
    ·conv=>whnf
     rw[e];exact CM H ls lo bs vh0 Q hQ (m-1) (i+1) (by omega) (by omega) b' (ts++[n']) none root3 lv3 vh3 n3 (by omega) ⟨s3,L3,by have:=S.hbs;omega,g4,by have:=S.hbs;omega,S.lo1,by omega,t3,.inl rfl,S.made.app M3 d3 (by omega),by rw[List.length_append,List.length_singleton];omega,fun c hc=>(f3 c (by omega) (by have:=S.lo1;omega) (by have:=S.lo2;omega)).trans (S.fr c hc)⟩
   ·conv=>whnf
    exact hQ bt ts c root lv i vh vn _ _ hlo hi S
  ·conv=>whnf
   exact hQ bt ts c root lv i vh vn _ _ hlo hi S
termination_by m=>m
decreasing_by all_goals omega
theorem aCi{α:Type}{enc:α->List V}{es:Nat}{xs:List α}{c:Option Nat}(hl:∀a,(enc a).length=es)(h0:0<es)(hc:c=none\/c=some xs.length):0<es/\0+xs.length*es<=(xs.map enc).flatten.length/\∀x,c=some x->xs.length<=x:=by
 refine⟨h0,by rw[iI hl];omega,fun x hx=>?_⟩
 rcases hc with rfl|rfl
 ·cases hx
 ·cases hx;exact Nat.le_refl _
def tL:Nd:=⟨2,1,[],S_r,[],[],[]⟩
structure Made(ts:List Nd):Prop where
 may:gI ts=true
 len:ts.length<=32
 nd:∀n∈ts,fA n/\0<=n.d/\n.d<=32
theorem S0:gI [gN,tL]=true:=by decide+kernel
theorem HQ:fA tL:=⟨.head _,by decide,.head _,by decide,nofun⟩
theorem IP:fA gN:=⟨.head _,.head _,.head _,by decide,nofun⟩
set_option maxHeartbeats 1000000 in
theorem VY(H:XK X)(ls:List Int)(vh:VH)(vn:Nat):
  aE Tryz.prog X G x9 [.sl 1 (ls.map eR) none] vh vn fun v vh' vn'=>vn<=vn'/\(∀c,c<vn->vh' c=vh c)/\∃ts,v=.sl 7 (ts.map aO) none/\Made ts:=by
 apply aD0.run H.make
 conv=>whnf
 refine CM H ls vn (vn+1) vh _ (fun bt ts c root lv m vh1 n1 i b g1 hm S=>?_) 30 0 rfl (by decide) vn [gN] (some 1) false [] _ (vn+2) (by omega) ⟨⟨_,aK⟩,⟨Nat.le_refl _,nofun⟩,by omega,by omega,by omega,by omega,Nat.le_refl _,(aG (by omega)).trans aK,.inr rfl,⟨by decide,fun n hn=>?_⟩,by decide,fun c hc=>(aG (by omega)).trans (aG (by omega))⟩
 ·have hlen:=S.len;have hlo:=S.lo2;have fin:∀(ts:List Nd) (vh2:VH) (n2:Nat),n1<=n2->(∀c,c<vn->vh2 c=vh c)->vC ts->ts.length<=32->aE Tryz.prog X G uQ [.sl 7 (ts.map aO) none] vh2 n2 fun v vh' vn'=>vn<=vn'/\(∀c,c<vn->vh' c=vh c)/\v=.bool (gI ts)/\(gI ts=true->Made ts):=fun ts vh2 n2 g2 f2 M h32=>by
   refine (V2 H.toXM ts none (by omega) (fun n hn=>(M.nd n hn).1.small) vh2 n2).mono fun v vh' vn' he=>?_
   obtain⟨e1,e2,e3⟩:=he;exact⟨by omega,fun c hc=>(e2 c (by omega)).trans (f2 c hc),e3,fun h=>⟨h,h32,fun n hn=>by obtain⟨q1,q2,q3,q4⟩:=M.nd n hn;exact⟨q1,q2,by omega⟩⟩⟩
  conv=>whnf
  refine aB.mk (fun h1=>?_) (fun h1=>?_)
  ·conv=>whnf
   refine vI (a:=tL) lA (by decide) S.t rfl S.hc ⟨?_,?_⟩ fun vh2 t2 f2=>?_
   ·omega
   ·show _<9223372036854775808;omega
   conv=>whnf
   refine Get.mk (_,_,_,_) t2 ?_
   conv=>whnf
   refine⟨gG lA (by decide),?_⟩
   conv=>whnf
   refine Get.mk _ (eU lA) ?_
   conv=>whnf
   refine (fin (ts++[tL]) (bX vh2 n1) (n1+1) (by omega) (fun c hc=>(b5 (by omega)).trans ((f2 c (by omega) (by omega)).trans (S.fr c hc))) (S.made.app HQ (by decide) (by have:=S.made.ne;show (1:Int)<=_;omega)) (by rw[List.length_append,List.length_singleton];omega)).mono fun v vh3 n3 he=>?_
   obtain⟨g3,f3,e3,M3⟩:=he;rw[e3]
   conv=>whnf
   refine aB.mk (fun h2=>?_) (fun h2=>?_)
   ·conv=>whnf
    exact Get.mk _ (fun _ _ h=>h) ⟨g3,f3,[gN,tL],rfl,S0,by decide,fun n hn=>by
     rcases List.mem_cons.1 hn with rfl|hn
     ·exact⟨IP,by decide,by decide⟩
     ·rw[List.mem_singleton.1 hn];exact⟨HQ,by decide,by decide⟩⟩
   ·conv=>whnf
    exact Get.mk _ (fun _ _ h=>h) ⟨g3,f3,_,rfl,M3 (by simpa using h2)⟩
  ·conv=>whnf
   refine Get.mk (_,_,_,_) S.t ?_
   conv=>whnf
   refine⟨aCi lA (by decide) S.hc,?_⟩
   conv=>whnf
   refine Get.mk _ (eU lA) ?_
   conv=>whnf
   refine (fin ts (bX vh1 bt) n1 (Nat.le_refl _) (fun c hc=>(b5 (by omega)).trans (S.fr c hc)) S.made (by omega)).mono fun v vh3 n3 he=>?_
   obtain⟨g3,f3,e3,M3⟩:=he;rw[e3]
   conv=>whnf
   refine aB.mk (fun h2=>?_) (fun h2=>?_)
   ·conv=>whnf
    exact Get.mk _ (fun _ _ h=>h) ⟨g3,f3,[gN,tL],rfl,S0,by decide,fun n hn=>by
     rcases List.mem_cons.1 hn with rfl|hn
     ·exact⟨IP,by decide,by decide⟩
     ·rw[List.mem_singleton.1 hn];exact⟨HQ,by decide,by decide⟩⟩
   ·conv=>whnf
    exact Get.mk _ (fun _ _ h=>h) ⟨g3,f3,_,rfl,M3 (by simpa using h2)⟩
 ·rw[List.mem_singleton.1 hn];exact⟨IP,by decide,fun _=>rfl,by decide⟩
end
def dep(t:List Nd)(i:Nat):Int:=match t[i]? with|some n=>n.d|none=>0
theorem OJ{t:List Nd}{i:Nat}(h:i<t.length):dep t i=t[i].d:=by simp[dep,h]
def sM(t:List Nd)(k:Nat):Nat:=k+1+OV (dep t k) (t.drop (k+1))
def qO(t:List Nd)(d:Int):Nat->Int
 |0=>-1
 |p+1=>if dep t p<d then (p:Int) else qO t d p
def R7(t:List Nd)(k:Nat):Int:=qO t (dep t k) k
def WL(t:List Nd):Prop:=0<t.length/\dep t 0=0/\∀i,0<i->i<t.length->1<=dep t i
theorem QW:∀(l:List Nd) (prev:Nd) (lv:List (List aA)) (r k:Nat),gJ prev lv r l=some k->∀n∈l,1<=n.d
 |[],_,_,_,_,_,_,hn=>by cases hn
 |x::l,prev,lv,r,k,h,n,hn=>by
  simp only[gJ] at h;split at h
  ·cases h
  ·rename_i hb;split at h
   ·cases h
   ·rename_i s hs;rcases List.mem_cons.1 hn with rfl|hn
    ·simp[fL] at hb;omega
    ·exact QW l x s.1 s.2 k h n hn
theorem Made.rooted{t:List Nd}(M:Made t):WL t:=by
 have h:=M.may;cases t with
 |nil=>cases h
 |cons n l=>
  simp only[gI,Bool.and_eq_true,decide_eq_true_eq] at h;have hz:=tP.1 h.1.2;refine⟨by simp,by rw[OJ (by simp)];show n.d=0;rw[hz];rfl,fun i h0 hi=>?_⟩
  rw[OJ hi];obtain⟨i,rfl⟩:∃k,i=k+1:=⟨i-1,by omega⟩
  exact QW l n [] 0 1 h.2 _ (by rw[List.getElem_cons_succ];exact List.getElem_mem _)
end Go.Proofs.YtjoadepfokpcoaaGreatDoor
set_option maxRecDepth 100000
set_option linter.unusedVariables false
namespace Go.Proofs.YtjoadepfokpcoaaGreatDoor
def Y4:aD:=(.seq (.reg 0 [oA 2 (.mv (cI 0))] (kp [0]))
(.seq (.seq (.reg 0 [mA 3 0,oA 4 (.eq .p .eql 3 (.c .nilp))] (kp [0,4]))
(.cond 4
(.seq (.reg 0 [oA 2 (.mv (cI 0))] (kp [2]))
.ret)
(.gsk (kp [0]))))
(.seq (.reg 0 [mA 5 0,oA 6 (.nilck 5),oA 7 (.off 6 1),oA 8 (.load 7 false 1),mA 2 8] (kp [2]))
.ret)))
def aGn:List aJ:=[.tmp 2]
theorem aDG:aL Tryz.prog pI Y4 aGn:=.of Tryz.func75 (by kernel_rfl)
def LO:aD:=(.seq (.seq (.reg 0 [mA 28 7,mA 29 8,oA 30 (.bin .lss 28 29)] (kp [0,1,2,7,8,30]))
(.cond 30
(.gsk (kp [0,1,2,7,8]))
(.exit 0)))
(.block 1
(.seq (.reg 0 [mA 31 7,mA 32 8,oA 33 (.bin .add 31 32),oA 34 (.bin .add 33 (cI 1)),oA 35 (.bin .quo 34 (cI 2)),mA 9 35] (kp [0,1,2,7,8,9]))
(.seq (.reg 0 [mA 36 0,mA 37 9,oA 38 (.bin .mul 37 (cI 64)),mA 39 2,oA 40 (.call kS [36,38,39]),mA 41 1,oA 42 (.bin .leq 40 41)] (kp [0,1,2,7,8,9,42]))
(.cond 42
(.reg 0 [mA 43 9,mA 7 43] (kp [0,1,2,7,8]))
(.reg 0 [mA 44 9,oA 45 (.bin .sub 44 (cI 1)),mA 8 45] (kp [0,1,2,7,8])))))))
def LP:aD:=(.seq (.reg 0 [oA 62 (.bin .lss 61 60)] (kp [7,10,60,61,62]))
(.seq (.cond 62
(.gsk (kp [7,10,60,61]))
(.exit 2))
(.seq (.block 3
(.reg 0 [mA 63 10,mA 64 10,oA 65 (.bin .sub 64 (cU 1)),oA 66 (.bin .and 63 65),mA 10 66] (kp [7,10,60,61])))
(.reg 0 [oA 67 (.bin .add 61 (cI 1)),mA 61 67] (kp [7,10,60,61])))))
def Y6:aD:=(.seq (.reg 0 [oA 6 (.mv (cI 0))] (kp [0,1,2]))
(.seq (.seq (.reg 0 [mA 11 1,oA 12 (.bin .lss 11 (cI 0)),mA 13 12,oF 13 14 (.mv 1),oF 13 15 (.mv 0),oF 13 16 (.mv 0),oF 13 17 (.call pI [16]),oF 13 18 (.mv 2),oF 13 19 (.call kS [15,17,18]),oF 13 20 (.bin .geq 14 19),oA 21 (.pick 13 (cB true) 20)] (kp [0,1,2,21]))
(.cond 21
(.seq (.reg 0 [oA 6 (.mv (cI (-1)))] (kp [6]))
.ret)
(.gsk (kp [0,1,2]))))
(.seq (.reg 1 [mA 22 0,oA 23 (.nilck 22),oA 24 (.off 23 0),oA 25 (.load 24 false 1),oA 26 (.lenL 25),oA 27 (.bin .sub 26 (cI 1)),oA 7 (.mv (cI 0)),mA 8 27] (kp [0,1,2,7,8]))
(.seq (.block 0
(.loop LO))
(.seq (.reg 0 [mA 46 0,mA 47 7,oA 48 (.call qU [46,47]),oA 49 (.fld 48 false 0 1),mA 10 49] (kp [0,1,2,7,10]))
(.seq (.seq (.reg 0 [mA 50 2,oA 51 (.un .not 50)] (kp [0,1,2,7,10,51]))
(.cond 51
(.reg 0 [mA 52 10,oA 53 (.un .xor 52),mA 10 53] (kp [0,1,2,7,10]))
(.gsk (kp [0,1,2,7,10]))))
(.seq (.seq (.reg 0 [mA 54 1,mA 55 0,mA 56 7,oA 57 (.bin .mul 56 (cI 64)),mA 58 2,oA 59 (.call kS [55,57,58]),oA 60 (.bin .sub 54 59),oA 61 (.mv (cI 0))] (kp [7,10,60,61]))
(.block 2
(.loop LP)))
(.seq (.reg 0 [mA 68 7,oA 69 (.bin .mul 68 (cI 64)),mA 70 10,oA 71 (.call qY [70]),oA 72 (.bin .add 69 71),mA 6 72] (kp [6]))
.ret))))))))
def aGp:List aJ:=[.tmp 6]
theorem QF:aL Tryz.prog uB Y6 aGp:=.of Tryz.func82 (by kernel_rfl)
def Y3:aD:=(.seq (.reg 0 [oA 4 (.mv (cB false)),oA 5 (.mv (cI 0))] (kp [0,1]))
(.seq (.seq (.reg 0 [mA 6 1,oA 7 (.bin .lss 6 (cI 0)),mA 8 7,oF 8 9 (.mv 1),oF 8 10 (.mv 0),oF 8 11 (.call pI [10]),oF 8 12 (.bin .geq 9 11),oA 13 (.pick 8 (cB true) 12)] (kp [0,1,13]))
(.cond 13
(.seq (.reg 0 [oA 4 (.mv (cB false)),oA 5 (.mv (cI 4))] (kp [4,5]))
.ret)
(.gsk (kp [0,1]))))
(.seq (.reg 0 [mA 14 0,mA 15 1,oA 16 (.bin .quo 15 (cI 64)),oA 17 (.call qU [14,16]),oA 18 (.fld 17 false 0 1),mA 19 1,oA 20 (.bin .rem 19 (cI 64)),oA 21 (.cint .u64 20),oA 22 (.bin .shr 18 21),oA 23 (.bin .and 22 (cU 1)),oA 24 (.bin .eql 23 (cU 1)),mA 4 24,oA 5 (.mv (cI 0))] (kp [4,5]))
.ret)))
def aGm:List aJ:=[.tmp 4,.tmp 5]
theorem aDF:aL Tryz.prog xU Y3 aGm:=.of Tryz.func85 (by kernel_rfl)
def Y5:aD:=(.seq (.reg 0 [oA 6 (.mv (cI 0))] (kp [0,1,2]))
(.seq (.reg 0 [mA 9 1,oA 10 (.mx [9,(cI 0)]),mA 11 0,oA 12 (.call pI [11]),oA 13 (.mn [10,12]),mA 1 13] (kp [0,1,2]))
(.seq (.seq (.reg 0 [mA 14 1,oA 15 (.bin .eql 14 (cI 0))] (kp [0,1,2,15]))
(.cond 15
(.seq (.reg 0 [oA 6 (.mv (cI 0))] (kp [6]))
.ret)
(.gsk (kp [0,1,2]))))
(.seq (.reg 0 [mA 16 0,mA 17 1,oA 18 (.bin .quo 17 (cI 64)),oA 19 (.call qU [16,18]),oA 7 (.allocL [(.int .u64 0),(.int .i64 0)]),oN (.store 7 19 2)] [.fz 7,.keep [1,2,7]])
(.seq (.reg 2 [⟨some 20,.off 7 1,none,[],.e⟩,⟨some 21,.load 20 false 1,none,[],.e⟩,oA 22 (.off 7 0),oA 23 (.load 22 false 1),mA 24 1,oA 25 (.bin .rem 24 (cI 64)),oA 26 (.cint .u64 25),oA 27 (.bin .shl (cU 1) 26),oA 28 (.bin .sub 27 (cU 1)),oA 29 (.bin .and 23 28),⟨some 30,.call qX [29],none,[],.n [1]⟩,oA 31 (.bin .add 21 30),mA 8 31] (kp [1,2,8]))
(.seq (.seq (.reg 0 [mA 32 2,oA 33 (.un .not 32)] (kp [1,8,33]))
(.cond 33
(.reg 0 [mA 34 1,mA 35 8,oA 36 (.bin .sub 34 35),mA 8 36] (kp [8]))
(.gsk (kp [8]))))
(.seq (.reg 0 [mA 37 8,mA 6 37] (kp [6]))
.ret)))))))
def aGo:List aJ:=[.tmp 6]
theorem aDH:aL Tryz.prog kS Y5 aGo:=.of Tryz.func88 (by kernel_rfl)
def LR:aD:=(.seq (.seq (.reg 0 [mA 23 7,mA 24 6,oA 25 (.bin .add 24 (cI 64)),mA 26 0,oA 27 (.lenL 26),oA 28 (.mn [25,27]),oA 29 (.bin .lss 23 28)] (kp [0,4,5,6,7,29]))
(.cond 29
(.gsk (kp [0,4,5,6,7]))
(.exit 2)))
(.seq (.block 3
(.seq (.reg 0 [mA 32 0,mA 33 7,oA 34 (.idx 1 32 33),oA 35 (.load 34 false 1)] (kp [0,4,5,6,7,35]))
(.cond 35
(.reg 0 [oA 36 (.off 5 0),oA 37 (.load 36 false 1),mA 38 7,mA 39 6,oA 40 (.bin .sub 38 39),oA 41 (.cint .u64 40),oA 42 (.bin .shl (cU 1) 41),oA 43 (.bin .or 37 42),oA 44 (.off 5 0),oN (.store 44 43 1)] (kp [0,4,5,6,7]))
(.gsk (kp [0,4,5,6,7])))))
(.reg 0 [mA 30 7,oA 31 (.bin .add 30 (cI 1)),mA 7 31] (kp [0,4,5,6,7]))))
def LQ:aD:=(.seq (.seq (.reg 0 [mA 15 6,mA 16 0,oA 17 (.lenL 16),oA 18 (.bin .leq 15 17)] (kp [0,4,5,6,18]))
(.cond 18
(.gsk (kp [0,4,5,6]))
(.exit 0)))
(.seq (.block 1
(.seq (.reg 0 [oA 21 (.off 5 0),oN (.store 21 (cU 0) 1)] (kp [0,4,5,6]))
(.seq (.seq (.reg 0 [mA 22 6,mA 7 22] (kp [0,4,5,6,7]))
(.block 2
(.loop LR)))
(.seq (.reg 1 [mA 45 4,mA 46 4,oA 47 (.nilck 46),oA 48 (.off 47 0),oA 49 (.load 48 false 1),oA 50 (.load 5 true 2),oA 51 (.mkIfc vH 50),oA 52 (.buildF 1 1 [.nili] [(0,51)]),oA 53 (.app 1 [.nili] 16 gB 49 52),oA 54 (.nilck 45),oA 55 (.off 54 0),oN (.store 55 53 1)] (kp [0,4,5,6]))
(.reg 2 [⟨some 56,.off 5 1,none,[],.e⟩,⟨some 57,.load 56 false 1,none,[],.e⟩,oA 58 (.off 5 0),oA 59 (.load 58 false 1),⟨some 60,.call qX [59],none,[],.n [1]⟩,oA 61 (.bin .add 57 60),oA 62 (.off 5 1),oN (.store 62 61 1)] (kp [0,4,5,6]))))))
(.reg 0 [mA 19 6,oA 20 (.bin .add 19 (cI 64)),mA 6 20] (kp [0,4,5,6]))))
def Y9:aD:=(.seq (.reg 0 [oA 2 (.mv (.c .nilp)),oA 3 (.mv (cI 0))] (kp [0]))
(.seq (.seq (.reg 0 [mA 8 0,oA 9 (.lenL 8),oA 10 (.bin .gtr 9 (cI 4194304))] (kp [0,10]))
(.cond 10
(.seq (.reg 0 [oA 2 (.mv (.c .nilp)),oA 3 (.mv (cI 7))] (kp [2,3]))
.ret)
(.gsk (kp [0]))))
(.seq (.reg 0 [mA 11 0,oA 12 (.lenL 11),oA 13 (.build [.nils,(.int .i64 0)] [(1,1,12)]),oA 14 (.boxH 13 vG),mA 4 14] (kp [0,4]))
(.seq (.reg 0 [oA 5 (.allocH [(.int .u64 0),(.int .i64 0)] vH)] (kp [0,4,5]))
(.seq (.seq (.reg 0 [oA 6 (.mv (cI 0))] (kp [0,4,5,6]))
(.block 0
(.loop LQ)))
(.seq (.reg 0 [mA 63 4,mA 2 63,oA 3 (.mv (cI 0))] (kp [2,3]))
.ret))))))
def aGs:List aJ:=[.tmp 2,.tmp 3]
theorem aDK:aL Tryz.prog qV Y9 aGs:=.of Tryz.func106 (by kernel_rfl)
def ZP:aD:=(.seq (.reg 0 [oA 2 (.mv (cI 0))] (kp [0]))
(.seq (.reg 0 [mA 3 0,oA 4 (.call yB [3]),mA 2 4] (kp [2]))
.ret))
def aHH:List aJ:=[.tmp 2]
theorem aDZ:aL Tryz.prog qW ZP aHH:=.of Tryz.func107 (by kernel_rfl)
def Y8:aD:=(.seq (.reg 0 [oA 2 (.mv (cI 0))] (kp [0]))
(.seq (.reg 0 [mA 3 0,oA 4 (.bin .add 3 (cI 64)),oA 5 (.bin .sub 4 (cI 1)),oA 6 (.bin .quo 5 (cI 64)),oA 7 (.bin .mul (cI 80) 6),mA 8 0,oA 9 (.bin .add 8 (cI 512)),oA 10 (.bin .sub 9 (cI 1)),oA 11 (.bin .quo 10 (cI 512)),oA 12 (.bin .mul (cI 32) 11),oA 13 (.bin .add 7 12),mA 2 13] (kp [2]))
.ret))
def aGr:List aJ:=[.tmp 2]
theorem aDJ:aL Tryz.prog xV Y8 aGr:=.of Tryz.func115 (by kernel_rfl)
def Y7:aD:=(.seq (.reg 0 [oA 4 (.allocL [(.int .u64 0),(.int .i64 0)])] (kp [0,1,4]))
(.seq (.reg 0 [mA 8 0,oA 9 (.nilck 8),oA 10 (.off 9 0),oA 11 (.load 10 false 1),mA 12 1,oA 13 (.idx 1 11 12),oA 14 (.load 13 false 1),oA 15 (.asrt vH (.agg [(.int .u64 0),(.int .i64 0)]) 14 true),mA 7 15,oA 16 (.ext 7 0),oA 17 (.ext 7 1),oA 5 (.allocL [(.int .u64 0),(.int .i64 0)]),oN (.store 5 16 2),mA 6 17] (kp [4,5]))
(.seq (.reg 0 [oA 18 (.load 5 true 2),oN (.store 4 18 2)] (kp [4]))
.ret)))
def aGq:List aJ:=[.cell 4 true 2]
theorem aDI:aL Tryz.prog qU Y7 aGq:=.of Tryz.func123 (by kernel_rfl)
def ZV:aD:=(.seq (.reg 0 [oA 2 (.mv (cI 0))] (kp [0]))
(.seq (.seq (.reg 0 [mA 3 0,oA 4 (.bin .eql 3 (cU 0))] (kp [0,4]))
(.cond 4
(.seq (.reg 0 [oA 2 (.mv (cI 64))] (kp [2]))
.ret)
(.gsk (kp [0]))))
(.seq (.reg 0 [mA 5 0,mA 6 0,oA 7 (.un .neg 6),oA 8 (.bin .and 5 7),oA 9 (.bin .mul 8 (cU 285870213051353865)),oA 10 (.bin .shr 9 (cU 58)),oA 11 (.idxA 1 64 (.g jG) 10),oA 12 (.load 11 false 1),oA 13 (.cint .i64 12),mA 2 13] (kp [2]))
.ret)))
def aHN:List aJ:=[.tmp 2]
theorem aD5:aL Tryz.prog qY ZV aHN:=.of Tryz.func124 (by kernel_rfl)
def ZU:aD:=(.seq (.reg 0 [oA 2 (.mv (cI 0))] (kp [0]))
(.seq (.reg 0 [mA 3 0,oA 4 (.bin .shr 3 (cU 1)),oA 5 (.bin .and 4 (cU 6148914691236517205)),mA 6 0,oA 7 (.bin .and 6 (cU 6148914691236517205)),oA 8 (.bin .add 5 7),mA 0 8] (kp [0]))
(.seq (.reg 0 [mA 9 0,oA 10 (.bin .shr 9 (cU 2)),oA 11 (.bin .and 10 (cU 3689348814741910323)),mA 12 0,oA 13 (.bin .and 12 (cU 3689348814741910323)),oA 14 (.bin .add 11 13),mA 0 14] (kp [0]))
(.seq (.reg 0 [mA 15 0,oA 16 (.bin .shr 15 (cU 4)),mA 17 0,oA 18 (.bin .add 16 17),oA 19 (.bin .and 18 (cU 1085102592571150095)),mA 0 19] (kp [0]))
(.seq (.reg 0 [mA 20 0,mA 21 0,oA 22 (.bin .shr 21 (cU 8)),oA 23 (.bin .add 20 22),mA 0 23] (kp [0]))
(.seq (.reg 0 [mA 24 0,mA 25 0,oA 26 (.bin .shr 25 (cU 16)),oA 27 (.bin .add 24 26),mA 0 27] (kp [0]))
(.seq (.reg 0 [mA 28 0,mA 29 0,oA 30 (.bin .shr 29 (cU 32)),oA 31 (.bin .add 28 30),mA 0 31] (kp [0]))
(.seq (.reg 0 [mA 32 0,oA 33 (.cint .i64 32),oA 34 (.bin .and 33 (cI 127)),mA 2 34] (kp [2]))
.ret))))))))
def aHM:List aJ:=[.tmp 2]
theorem aD4:aL Tryz.prog qX ZU aHM:=.of Tryz.func125 (by kernel_rfl)
def ZT:aD:=(.seq (.reg 0 [oA 2 (.mv (cI 0))] (kp [0,2]))
(.seq (.seq (.reg 0 [mA 3 0,oA 4 (.bin .geq 3 (cU 4294967296))] (kp [0,2,4]))
(.cond 4
(.seq (.reg 0 [mA 5 0,oA 6 (.bin .shr 5 (cU 32)),mA 0 6] (kp [0]))
(.reg 0 [oA 2 (.mv (cI 32))] (kp [0,2])))
(.gsk (kp [0,2]))))
(.seq (.seq (.reg 0 [mA 7 0,oA 8 (.bin .geq 7 (cU 65536))] (kp [0,2,8]))
(.cond 8
(.seq (.reg 0 [mA 9 0,oA 10 (.bin .shr 9 (cU 16)),mA 0 10] (kp [0,2]))
(.reg 0 [mA 11 2,oA 12 (.bin .add 11 (cI 16)),mA 2 12] (kp [0,2])))
(.gsk (kp [0,2]))))
(.seq (.seq (.reg 0 [mA 13 0,oA 14 (.bin .geq 13 (cU 256))] (kp [0,2,14]))
(.cond 14
(.seq (.reg 0 [mA 15 0,oA 16 (.bin .shr 15 (cU 8)),mA 0 16] (kp [0,2]))
(.reg 0 [mA 17 2,oA 18 (.bin .add 17 (cI 8)),mA 2 18] (kp [0,2])))
(.gsk (kp [0,2]))))
(.seq (.reg 0 [mA 19 2,mA 20 0,oA 21 (.cint .u8 20),oA 22 (.at (.c (.str jH)) 21),oA 23 (.cint .i64 22),oA 24 (.bin .add 19 23),mA 2 24] (kp [2]))
.ret)))))
def aHL:List aJ:=[.tmp 2]
theorem aD3:aL Tryz.prog yB ZT aHL:=.of Tryz.func149 (by kernel_rfl)
def EC:aD:=(.seq (.reg 0 [oA 38 (.bin .lss 37 36)] (kp [3,4,35,36,37,38]))
(.seq (.cond 38
(.gsk (kp [3,4,35,36,37]))
(.exit 0))
(.seq (.block 1
(.seq (.reg 0 [mA 39 37,oA 40 (.idx 1 35 37),oA 41 (.load 40 false 1),mA 5 39,mA 6 41] (kp [3,4,5,6,35,36,37]))
(.seq (.reg 1 [mA 42 5,mA 43 3,oA 44 (.nilck 43),oA 45 (.off 44 2),oA 46 (.load 45 false 1),oA 47 (.bin .mul 42 46),oA 48 (.bin .quo 47 (cI 64)),mA 49 5,mA 50 3,oA 51 (.nilck 50),oA 52 (.off 51 2),oA 53 (.load 52 false 1),oA 54 (.bin .mul 49 53),oA 55 (.bin .rem 54 (cI 64)),oA 56 (.cint .u64 55),mA 7 48,mA 8 56] (kp [3,4,6,7,8,35,36,37]))
(.seq (.seq (.reg 0 [mA 57 3,oA 58 (.nilck 57),oA 59 (.off 58 2),oA 60 (.load 59 false 1),oA 61 (.bin .eql 60 (cI 0))] (kp [3,4,6,7,8,35,36,37,61]))
(.cond 61
(.exit 1)
(.gsk (kp [3,4,6,7,8,35,36,37]))))
(.seq (.reg 0 [mA 62 4,mA 63 7,oA 64 (.idx 1 62 63),oA 65 (.load 64 false 1),mA 66 6,mA 67 8,oA 68 (.bin .shl 66 67),oA 69 (.bin .or 65 68),oA 70 (.idx 1 62 63),oN (.store 70 69 1)] (kp [3,4,6,7,8,35,36,37]))
(.seq (.reg 0 [mA 71 8,oA 72 (.cint .i64 71),mA 73 3,oA 74 (.nilck 73),oA 75 (.off 74 2),oA 76 (.load 75 false 1),oA 77 (.bin .add 72 76),oA 78 (.bin .gtr 77 (cI 64))] (kp [3,4,6,7,8,35,36,37,78]))
(.cond 78
(.reg 0 [mA 79 4,mA 80 7,oA 81 (.bin .add 80 (cI 1)),oA 82 (.idx 1 79 81),oA 83 (.load 82 false 1),mA 84 6,mA 85 8,oA 86 (.bin .sub (cU 64) 85),oA 87 (.bin .shr 84 86),oA 88 (.bin .or 83 87),oA 89 (.idx 1 79 81),oN (.store 89 88 1)] (kp [3,4,35,36,37]))
(.gsk (kp [3,4,35,36,37])))))))))
(.reg 0 [oA 90 (.bin .add 37 (cI 1)),mA 37 90] (kp [3,4,35,36,37])))))
def ZO:aD:=(.seq (.reg 0 [oA 2 (.mv (.c .nilp))] (kp [0]))
(.seq (.reg 0 [mA 9 0,oA 10 (.lenL 9),oA 11 (.build [.nili,(.int .i64 0),(.int .i64 0)] [(1,1,10)]),oA 12 (.boxH 11 KL),mA 3 12] (kp [0,3]))
(.seq (.seq (.reg 0 [mA 13 0,oA 14 (.lenL 13),oA 15 (.bin .gtr 14 (cI 0))] (kp [0,3,15]))
(.cond 15
(.reg 0 [mA 16 3,mA 17 0,oA 18 (.call yU [17]),oA 19 (.call qW [18]),oA 20 (.nilck 16),oA 21 (.off 20 2),oN (.store 21 19 1)] (kp [0,3]))
(.gsk (kp [0,3]))))
(.seq (.reg 1 [mA 22 3,oA 23 (.nilck 22),oA 24 (.off 23 1),oA 25 (.load 24 false 1),mA 26 3,oA 27 (.nilck 26),oA 28 (.off 27 2),oA 29 (.load 28 false 1),oA 30 (.bin .mul 25 29),oA 31 (.bin .add 30 (cI 64)),oA 32 (.bin .sub 31 (cI 1)),oA 33 (.bin .quo 32 (cI 64)),oA 34 (.mkSl 1 [(.int .u64 0)] r6 8 33 33),mA 4 34] (kp [0,3,4]))
(.seq (.seq (.reg 0 [mA 35 0,oA 36 (.lenL 35),oA 37 (.mv (cI 0))] (kp [3,4,35,36,37]))
(.block 0
(.loop EC)))
(.seq (.reg 0 [mA 91 3,mA 92 4,oA 93 (.mkIfc XQ 92),oA 94 (.nilck 91),oA 95 (.off 94 0),oN (.store 95 93 1)] (kp [3]))
(.seq (.reg 0 [mA 96 3,mA 2 96] (kp [2]))
.ret)))))))
def aHG:List aJ:=[.tmp 2]
theorem aDY:aL Tryz.prog x8 ZO aHG:=.of Tryz.func150 (by kernel_rfl)
def NE:aD:=(.seq (.seq (.reg 0 [mA 12 4,mA 13 0,oA 14 (.lenL 13),oA 15 (.bin .lss 12 14)] (kp [0,3,4,15]))
(.cond 15
(.gsk (kp [0,3,4]))
(.exit 0)))
(.seq (.block 1
(.reg 0 [mA 18 3,mA 19 0,mA 20 4,oA 21 (.idx 1 19 20),oA 22 (.load 21 false 1),oA 23 (.mx [18,22]),mA 3 23] (kp [0,3,4])))
(.reg 0 [mA 16 4,oA 17 (.bin .add 16 (cI 1)),mA 4 17] (kp [0,3,4]))))
def aBF:aD:=(.seq (.reg 0 [oA 2 (.mv (cU 0))] (kp [0]))
(.seq (.seq (.reg 0 [mA 5 0,oA 6 (.lenL 5),oA 7 (.bin .lss 6 (cI 1))] (kp [0,7]))
(.cond 7
(.reg 0 [oA 8 (.mkIfc iS (.c (.str KD))),oN (.bad)] (kp [0]))
(.gsk (kp [0]))))
(.seq (.reg 0 [mA 9 0,oA 10 (.idx 1 9 (cI 0)),oA 11 (.load 10 false 1),mA 3 11] (kp [0,3]))
(.seq (.seq (.reg 0 [oA 4 (.mv (cI 1))] (kp [0,3,4]))
(.block 0
(.loop NE)))
(.seq (.reg 0 [mA 24 3,mA 2 24] (kp [2]))
.ret)))))
def aIR:List aJ:=[.tmp 2]
theorem aE9:aL Tryz.prog yU aBF aIR:=.of Tryz.func192 (by kernel_rfl)
end Go.Proofs.YtjoadepfokpcoaaGreatDoor
namespace Go.Num
def pc:Nat->Nat->Nat
 |0,_=>0
 |n+1,x=>x%2+pc n (x / 2)
theorem lQ:∀n x,pc n x<=n
 |0,_=>Nat.le_refl _
 |n+1,x=>by have:=lQ n (x / 2);simp only[pc];omega
theorem aGd(m n:Nat):∀(b y:Nat),b<2^m->pc (m+n) (2^m*y+b)=pc m b+pc n y:=by
 induction m with
 |zero=>
      intro b y hb;have:b=0:=by simpa using hb
      subst this;simp[pc]
 |succ m ih=>
  intro b y hb;have e:m+1+n=(m+n)+1:=by omega
  have h1:(2^(m+1)*y+b)%2=b%2:=by rw[Nat.pow_succ,Nat.mul_comm (2^m) 2,Nat.mul_assoc];omega
  have h2:(2^(m+1)*y+b) / 2=2^m*y+b / 2:=by rw[Nat.pow_succ,Nat.mul_comm (2^m) 2,Nat.mul_assoc];omega
  rw[e];simp only[pc];rw[h1,h2,ih (b / 2) y (by rw[Nat.pow_succ] at hb;omega)]
  omega
theorem wK(p q m k:Nat)(hq:q<256)(hk:k<256):(256*p+q)&&& (256*m+k)=256*(p&&& m)+(q&&& k):=by
 have hqk:q&&& k<2^8:=Nat.and_lt_two_pow _ hk;apply Nat.eq_of_testBit_eq;intro j;rw[Nat.testBit_and,show (256:Nat)=2^8 from rfl,Nat.testBit_two_pow_mul_add _ hq,Nat.testBit_two_pow_mul_add _ hk,Nat.testBit_two_pow_mul_add _ hqk];split
 ·rw[Nat.testBit_and]
 ·rw[Nat.testBit_and]
def mk(k:Nat):Nat->Nat
 |0=>0
 |n+1=>256*mk k n+k
def a8(b:Nat):Nat:=(b / 2&&& 85)+(b&&& 85)
def b8(b:Nat):Nat:=(b / 4&&& 51)+(b&&& 51)
def c8(b:Nat):Nat:=(b / 16+b)&&& 15
def jA(n x:Nat):Nat:=(x / 2&&& mk 85 n)+(x&&& mk 85 n)
def jV(n x:Nat):Nat:=(x / 4&&& mk 51 n)+(x&&& mk 51 n)
def pA(n x:Nat):Nat:=(x / 16+x)&&& mk 15 n
theorem X6:∀r<2,∀b<256,(128*r+b / 2)&&& 85=b / 2&&& 85:=by decide+kernel
theorem YL:∀r<4,∀b<256,(64*r+b / 4)&&& 51=b / 4&&& 51:=by decide+kernel
theorem ZK:∀r<5,∀b<69,(16*r+b / 16+b)&&& 15=(b / 16+b)&&& 15:=by decide+kernel
theorem Y2:∀b<256,c8 (b8 (a8 b))=pc 8 b/\b8 (a8 b)<69/\b8 (a8 b)%16<5/\a8 b<256:=by decide+kernel
theorem aJP(n y b:Nat)(hb:b<256):jA (n+1) (256*y+b)=256*jA n y+a8 b:=by
 have e:(256*y+b) / 2=256*(y / 2)+(128*(y%2)+b / 2):=by omega
 simp only[jA,mk];rw[e,wK _ _ _ _ (by omega) (by decide),wK _ _ _ _ hb (by decide),X6 (y%2) (by omega) b hb]
 simp only[a8];omega
theorem aJQ(n y b:Nat)(hb:b<256):jV (n+1) (256*y+b)=256*jV n y+b8 b:=by
 have e:(256*y+b) / 4=256*(y / 4)+(64*(y%4)+b / 4):=by omega
 simp only[jV,mk];rw[e,wK _ _ _ _ (by omega) (by decide),wK _ _ _ _ hb (by decide),YL (y%4) (by omega) b hb]
 simp only[b8];omega
theorem aJR(n y b:Nat)(hb:b<69)(hy:y%16<5):pA (n+1) (256*y+b)=256*pA n y+c8 b:=by
 have e:(256*y+b) / 16+(256*y+b)=256*(y / 16+y)+(16*(y%16)+b / 16+b):=by omega
 simp only[pA,mk];rw[e,wK _ _ _ _ (by omega) (by decide),ZK (y%16) hy b hb]
 rfl
def pcs:Nat->Nat->Nat
 |0,_=>0
 |n+1,x=>256*pcs n (x / 256)+pc 8 (x%256)
theorem TL:∀(n x:Nat),pA n (jV n (jA n x))=pcs n x/\(0<n->jV n (jA n x)%16<5)
 |0,x=>⟨by simp[pA,mk,pcs],fun h=>absurd h (Nat.lt_irrefl _)⟩
 |n+1,x=>by
  have hb:x%256<256:=Nat.mod_lt _ (by decide)
  have e:x=256*(x / 256)+x%256:=by omega
  obtain⟨f1,f2,f3,f4⟩:=Y2 (x%256) hb;obtain⟨i1,i2⟩:=TL n (x / 256);have h1:jA (n+1) x=256*jA n (x / 256)+a8 (x%256):=by
   conv=>lhs;rw[e]
   exact aJP n _ _ hb
  have h2:jV (n+1) (jA (n+1) x)=256*jV n (jA n (x / 256))+b8 (a8 (x%256)):=by rw[h1];exact aJQ n _ _ f4
  refine⟨?_,fun _=>by rw[h2];omega⟩
  rw[h2,aJR n _ _ f2,i1,f1]
  ·rfl
  ·cases n with
   |zero=>simp[jV,mk]
   |succ n=>exact i2 (Nat.succ_pos _)
theorem E9{x r k m:Nat}(h:x=r+m*k)(hr:r<m):x / m=k:=by rw[h,Nat.add_mul_div_left _ _ (by omega),Nat.div_eq_of_lt hr,Nat.zero_add]
theorem oW(n y:Nat):pc (8+n) y=pc 8 (y%256)+pc n (y / 256):=by
 have:=aGd 8 n (y%256) (y / 256) (Nat.mod_lt _ (by decide))
 rw[<-this]
 congr 1
 omega
theorem X9{x y r s k l m:Nat}(hx:x=r+m*k)(hy:y=s+m*l)(h:r+s<m):(x+y) / m=k+l:=E9 (r:=r+s) (by rw[hx,hy,Nat.mul_add];omega) h
theorem aJW(x:Nat):∃a b c d:Nat,pcs 8 x=a/\a<2^60/\a+a / 256=b/\b<2^61/\b+b / 65536=c/\c<2^62/\c+c / 4294967296=d/\d<2^63/\d%128=pc 64 x:=by
 have ep:pc 64 x=pc 8 (x%256)+(pc 8 (x / 256%256)+(pc 8 (x / 256 / 256%256)+(pc 8 (x / 256 / 256 / 256%256)+(pc 8 (x / 256 / 256 / 256 / 256%256)+(pc 8 (x / 256 / 256 / 256 / 256 / 256%256)+(pc 8 (x / 256 / 256 / 256 / 256 / 256 / 256%256)+(pc 8 (x / 256 / 256 / 256 / 256 / 256 / 256 / 256%256)+(pc 0 (x / 256 / 256 / 256 / 256 / 256 / 256 / 256 / 256))))))))):=by rw[show (64:Nat)=8+56 from rfl,oW,show (56:Nat)=8+48 from rfl,oW,show (48:Nat)=8+40 from rfl,oW,show (40:Nat)=8+32 from rfl,oW,show (32:Nat)=8+24 from rfl,oW,show (24:Nat)=8+16 from rfl,oW,show (16:Nat)=8+8 from rfl,oW];exact congrArg _ (congrArg _ (congrArg _ (congrArg _ (congrArg _ (congrArg _ (congrArg _ (oW 0 _)))))))
 have a0:pcs 8 x=256*pcs 7 (x / 256)+pc 8 (x%256):=rfl;have a1:pcs 7 (x / 256)=256*pcs 6 (x / 256 / 256)+pc 8 (x / 256%256):=rfl;have a2:pcs 6 (x / 256 / 256)=256*pcs 5 (x / 256 / 256 / 256)+pc 8 (x / 256 / 256%256):=rfl;have a3:pcs 5 (x / 256 / 256 / 256)=256*pcs 4 (x / 256 / 256 / 256 / 256)+pc 8 (x / 256 / 256 / 256%256):=rfl;have a4:pcs 4 (x / 256 / 256 / 256 / 256)=256*pcs 3 (x / 256 / 256 / 256 / 256 / 256)+pc 8 (x / 256 / 256 / 256 / 256%256):=rfl
 have a5:pcs 3 (x / 256 / 256 / 256 / 256 / 256)=256*pcs 2 (x / 256 / 256 / 256 / 256 / 256 / 256)+pc 8 (x / 256 / 256 / 256 / 256 / 256%256):=rfl;have a6:pcs 2 (x / 256 / 256 / 256 / 256 / 256 / 256)=256*pcs 1 (x / 256 / 256 / 256 / 256 / 256 / 256 / 256)+pc 8 (x / 256 / 256 / 256 / 256 / 256 / 256%256):=rfl;have a7:pcs 1 (x / 256 / 256 / 256 / 256 / 256 / 256 / 256)=256*0+pc 8 (x / 256 / 256 / 256 / 256 / 256 / 256 / 256%256):=rfl;rw[show ∀z,pc 0 z=0 from fun _=>rfl,Nat.add_zero] at ep;have h0:=lQ 8 (x%256);have h1:=lQ 8 (x / 256%256);have h2:=lQ 8 (x / 256 / 256%256)
 have h3:=lQ 8 (x / 256 / 256 / 256%256);have h4:=lQ 8 (x / 256 / 256 / 256 / 256%256);have h5:=lQ 8 (x / 256 / 256 / 256 / 256 / 256%256);have h6:=lQ 8 (x / 256 / 256 / 256 / 256 / 256 / 256%256);have h7:=lQ 8 (x / 256 / 256 / 256 / 256 / 256 / 256 / 256%256);generalize pc 8 (x%256)=p0 at *;generalize pc 8 (x / 256%256)=p1 at *;generalize pc 8 (x / 256 / 256%256)=p2 at *;generalize pc 8 (x / 256 / 256 / 256%256)=p3 at *;generalize pc 8 (x / 256 / 256 / 256 / 256%256)=p4 at *;generalize pc 8 (x / 256 / 256 / 256 / 256 / 256%256)=p5 at *
 generalize pc 8 (x / 256 / 256 / 256 / 256 / 256 / 256%256)=p6 at *;generalize pc 8 (x / 256 / 256 / 256 / 256 / 256 / 256 / 256%256)=p7 at *;generalize pcs 8 x=y0 at *;generalize pcs 7 (x / 256)=y1 at *;generalize pcs 6 (x / 256 / 256)=y2 at *;generalize pcs 5 (x / 256 / 256 / 256)=y3 at *;generalize pcs 4 (x / 256 / 256 / 256 / 256)=y4 at *;generalize pcs 3 (x / 256 / 256 / 256 / 256 / 256)=y5 at *;generalize pcs 2 (x / 256 / 256 / 256 / 256 / 256 / 256)=y6 at *;generalize pcs 1 (x / 256 / 256 / 256 / 256 / 256 / 256 / 256)=y7 at *;have s1:y0 / 256=y1:=E9 (r:=p0) (by omega) (by omega)
 have s2:(y0+y1) / 65536=y2+y3:=X9 (r:=p0+256*p1) (s:=p1+256*p2) (by omega) (by omega) (by omega)
 have s3:(y0+y1+(y2+y3)) / 4294967296=(y4+y5)+(y6+y7):=by
  have u0:y0=(p0+256*p1+65536*p2+16777216*p3)+4294967296*y4:=by omega
  have u1:y1=(p1+256*p2+65536*p3+16777216*p4)+4294967296*y5:=by omega
  have u2:y2=(p2+256*p3+65536*p4+16777216*p5)+4294967296*y6:=by omega
  have u3:y3=(p3+256*p4+65536*p5+16777216*p6)+4294967296*y7:=by omega
  clear a0 a1 a2 a3 a4 a5 a6 a7 ep s1 s2;generalize hr0:p0+256*p1+65536*p2+16777216*p3=r0 at u0;generalize hr1:p1+256*p2+65536*p3+16777216*p4=r1 at u1;generalize hr2:p2+256*p3+65536*p4+16777216*p5=r2 at u2;generalize hr3:p3+256*p4+65536*p5+16777216*p6=r3 at u3;have b0:r0<1073741824:=by omega
  have b1:r1<1073741824:=by omega
  have b2:r2<1073741824:=by omega
  have b3:r3<1073741824:=by omega
  clear hr0 hr1 hr2 hr3;exact E9 (r:=r0+r1+(r2+r3)) (by rw[u0,u1,u2,u3];omega) (by omega)
 have c7:y7<2^4:=by omega
 have c6:y6<2^12:=by omega
 have c5:y5<2^20:=by omega
 have c4:y4<2^28:=by omega
 have c3:y3<2^36:=by omega
 have c2:y2<2^44:=by omega
 have c1:y1<2^52:=by omega
 have c0:y0<2^60:=by omega
 have last:((y0+y1+(y2+y3))+((y4+y5)+(y6+y7)))%128=pc 64 x:=by
  have t:(y0+y1+(y2+y3))+((y4+y5)+(y6+y7))=(p0+p1+p2+p3+p4+p5+p6+p7)+128*(2*(y1+y2+y3+y4+y5+y6+y7)):=by clear s1 s2 s3 c0 c1 c2 c3 c4 c5 c6 c7 ep h0 h1 h2 h3 h4 h5 h6 h7;omega
  have u:p0+p1+p2+p3+p4+p5+p6+p7<128:=by clear t s1 s2 s3 c0 c1 c2 c3 c4 c5 c6 c7 ep a0 a1 a2 a3 a4 a5 a6 a7;omega
  rw[t,Nat.add_mul_mod_self_left,Nat.mod_eq_of_lt u,ep];clear t s1 s2 s3 c0 c1 c2 c3 c4 c5 c6 c7 a0 a1 a2 a3 a4 a5 a6 a7;omega
 clear ep a0 a1 a2 a3 a4 a5 a6 a7;refine⟨y0,y0+y1,y0+y1+(y2+y3),(y0+y1+(y2+y3))+((y4+y5)+(y6+y7)),rfl,c0,by rw[s1],by omega,by rw[s2],by omega,by rw[s3],by omega,last⟩
end Go.Num
namespace Go.VL
section
open Go.Ev
section
variable {P : Program} {X : Ovr} {G : Gt}
def nY(v:V)(vh:VH)(v':V)(vh':VH):Prop:=∀(w:Wd) (h:H) (an vn:Nat) (a:AV),HR w vh vn h an->Den w v a->∃w',HR w' vh' vn h an/\Den w' v' a/\cO w (fR w vh) h an w' (fR w' vh') h an
theorem nY.trans{v v' v'':V}{vh vh' vh'':VH}(h1:nY v vh v' vh')(h2:nY v' vh' v'' vh''):nY v vh v'' vh'':=fun w h an vn a hr hd=>by obtain⟨w1,r1,d1,s1⟩:=h1 w h an vn a hr hd;obtain⟨w2,r2,d2,s2⟩:=h2 w1 h an vn a r1 d1;exact⟨w2,r2,d2,s1.trans s2⟩
theorem aE.view{f:FuncId}{vs:List V}{vh:VH}{vn:Nat}{Q:V->VH->Nat->Prop}(h:aE P X G f vs vh vn fun v vh' vn'=>∃v2 vh2,nY v vh' v2 vh2/\Q v2 vh2 vn'):aE P X G f vs vh vn Q:=⟨fun w hh an us hg hr hd=>by obtain⟨v,vh',vn',a,h',an',w',⟨v2,vh2,hv,q⟩,ev,hr',hd',st⟩:=h.out w hh an us hg hr hd;obtain⟨w2,r2,d2,s2⟩:=hv w' h' an' vn' a hr' hd';exact⟨v2,vh2,vn',a,h',an',w2,q,ev,r2,d2,st.trans s2⟩⟩
mutual
inductive FzV(b:Nat)(l:List V):V->V->Prop where
 |refl (v:V):FzV b l v v
 |ptr (o:Nat):FzV b l (.ptr b o) (.fp l o)
 |sl (o n es:Nat) (c:Option Nat) (ls:List (List V)) (h0:0<es) (h1:o+n*es<=l.length) (h2:∀x,c=some x->n<=x) (h3:oO es n (l.drop o) ls):FzV b l (.msl b o n es c) (.sl es ls none)
 |nils (es:Nat):FzV b l .nils (.sl es [] none)
 |none (es:Nat) (ls:List (List V)) (c:Option Nat):FzV b l (.sl es ls c) (.sl es ls none)
 |agg (m m':List V) (h:FzL b l m m'):FzV b l (.agg m) (.agg m')
 |tup (m m':List V) (h:FzL b l m m'):FzV b l (.tup m) (.tup m')
 |ifc (t:TypeId) (v v':V) (h:FzV b l v v'):FzV b l (.ifc t v) (.ifc t v')
inductive FzL(b:Nat)(l:List V):List V->List V->Prop where
 |nil:FzL b l [] []
 |cons (v v':V) (m m':List V) (h:FzV b l v v') (hl:FzL b l m m'):FzL b l (v::m) (v'::m')
end
inductive FzB(b:Nat)(l:List V):VB->VB->Prop where
 |refl (B:VB):FzB b l B B
 |cells (m m':List V) (e:TypeId) (fz:Nat) (raw:Bool) (h:FzL b l m m'):FzB b l (.cells m e fz raw) (.cells m' e fz raw)
section
variable {w w' : Wd} {b i : Nat} {l : List V} {L : List AV} (hle : w.le w') (hi : ∀ j, w.ρ b = some j → j = i) (hK : w'.K i = some L) (hL : aX w' l L)
include hle hi hK hL
mutual
theorem FzV.den:∀{v v':V} {a:AV},FzV b l v v'->Den w v a->Den w' v' a
 |_,_,_,.refl v,h=>h.mono hle
 |_,_,_,.ptr o,.ptr _ _ j hj=>by obtain rfl:=hi j hj;exact .fp l o 0 j o L hK (by omega) (Nat.zero_le _) (by simpa using hL.toP')
 |_,_,_,.sl o n es c ls h0 h1 h2 ⟨k1,k2,k4⟩,.msl _ _ _ _ _ j hj=>by
  obtain rfl:=hi j hj;refine .sl _ none c j o n es L hK k2 h0 ?_ (.inl rfl) h2 ?_
  ·refine dC.of_flat ?_ k4;rw[k1];exact ((hL.drop o).toP').take _
  ·rw[<-hL.length];exact h1
 |_,_,_,.nils es,.nils=>.sl0 es none (.inl rfl)
 |_,_,_,.none es ls c,h=>(E7 h).mono hle
 |_,_,_,.agg m m' h,.agg _ x hx=>.agg _ _ (h.dens hx)
 |_,_,_,.tup m m' h,.tup _ x hx=>.tup _ _ (h.dens hx)
 |_,_,_,.ifc t v v' h,.ifc _ _ a hx=>.ifc t v' a (h.den hx)
theorem FzL.dens:∀{m m':List V} {x:List AV},FzL b l m m'->aX w m x->aX w' m' x
 |_,_,_,.nil,.nil=>have _:=And.intro hi (And.intro hK hL);have _:=hle;.nil
 |_,_,_,.cons v v' m m' h hl,.cons _ a _ x hx hxl=>.cons _ _ _ _ (h.den hx) (hl.dens hxl)
end
end
theorem T7{v v':V}{vh vh':VH}{b:Nat}{l:List V}{ty:TypeId}{fz:Nat}{raw:Bool}(hb:vh b=some (.cells l ty fz raw))(hv:FzV b l v v')(hh:∀c B',vh' c=some B'->c≠b/\∃B,vh c=some B/\FzB b l B B'):nY v vh v' vh':=by
 intro w h an vn a hr hd;obtain⟨i,A,g1,g2,g3,g4⟩:=hr.blk b _ hb;cases g3 with
 |cells _ _ _ _ L hL=>
 obtain⟨hle,hr'⟩:=hr.freeze hb g1 g2;have hK:(w.addK i L).K i=some L:=if_pos rfl;have hi:∀j,w.ρ b=some j->j=i:=fun j hj=>by rw[g1] at hj;cases hj;rfl
 refine⟨w.addK i L,⟨fun c C hc=>?_,hr'.inj,hr'.frz,hr'.lim,hr'.limK⟩,hv.den hle hi hK (hL.mono hle) hd,⟨hle,Nat.le_refl _,fun _ _ _=>rfl,fun _ _ h=>.inl h,fun j M hj=>?_,fun j hj=>?_⟩⟩
 ·obtain⟨hne,B,k1,k2⟩:=hh c C hc;obtain⟨j,A2,q1,q2,q3,q4⟩:=hr'.blk c B (by rw[b5 hne];exact k1)
  obtain⟨j',A3,r1,r2,r3,r4⟩:=hr.blk c B k1;obtain rfl:j'=j:=by have:(w.addK i L).ρ c=w.ρ c:=rfl;rw[this,r1] at q1;cases q1;rfl
  rw[r2] at q2;cases q2;refine⟨j',A2,q1,r2,?_,q4⟩;cases k2 with
  |refl=>exact q3
  |cells m m' e fz raw hm=>
   cases r3 with
   |cells _ _ _ _ x hx=>exact .cells _ _ _ _ _ (hm.dens hle hi hK (hL.mono hle) hx)
 ·simp only[Wd.addK] at hj;split at hj
  ·rename_i ej;subst ej;exact .inr (.inr ⟨b,_,hb,g1⟩)
  ·exact .inl hj
 ·obtain⟨c,C,hc,hj⟩:=hj;obtain⟨_,B,k1,_⟩:=hh c C hc;exact .inl ⟨c,B,k1,hj⟩
end
end
end Go.VL
open Go.Num
namespace Go.Proofs.YtjoadepfokpcoaaGreatDoor
section
attribute [local irreducible] aM
variable {X : Ovr} {G : Gt}
theorem xQ{n:Nat}(h:n<18446744073709551616):toU .u64 (n:Int)=n:=by rw[kL];show ((n:Int)%2^64).toNat=n;omega
theorem xP{n:Nat}(h:n<9223372036854775808):toU .i64 (n:Int)=n:=by rw[kL];show ((n:Int)%2^64).toNat=n;omega
theorem mI{a b:Nat}(ha:a<18446744073709551616)(hb:b<18446744073709551616):wr .u64 (.ofNat (Nat.land (toU .u64 (a:Int)) (toU .u64 (b:Int))))=((a&&& b:Nat):Int):=by rw[xQ ha,xQ hb];have:a&&& b<=b:=Nat.and_le_right;show wr .u64 ((a&&& b:Nat):Int)=_;rw[dA]<;>omega
theorem nL(a k:Nat):((a:Nat):Int)>>>k=((a / 2^k:Nat):Int):=by show ((a>>>k:Nat):Int)=_;rw[Nat.shiftRight_eq_div_pow]
theorem eA{n:Nat}(hn:n<18446744073709551616):wr .u64 (wr .u64 (.ofNat ((toU .u64 ((n:Int)>>>(bif Nat.blt 1 (kbits .u64) then 1 else kbits .u64))).land (toU .u64 6148914691236517205)))+wr .u64 (.ofNat ((toU .u64 (n:Int)).land (toU .u64 6148914691236517205))))=((jA 8 n:Nat):Int)/\jA 8 n<12297829382473034411:=by
 have m:mk 85 8=6148914691236517205:=by decide
 have h1:n / 2&&& 6148914691236517205<=6148914691236517205:=Nat.and_le_right;have h2:n&&& 6148914691236517205<=6148914691236517205:=Nat.and_le_right;have e:jA 8 n=(n / 2&&& 6148914691236517205)+(n&&& 6148914691236517205):=by simp only[jA,m]
 refine⟨?_,by omega⟩
 show wr .u64 (wr .u64 (.ofNat (Nat.land (toU .u64 ((n:Int)>>>1)) (toU .u64 ((6148914691236517205:Nat):Int))))+wr .u64 (.ofNat (Nat.land (toU .u64 (n:Int)) (toU .u64 ((6148914691236517205:Nat):Int)))))=_;rw[nL,show n / 2^1=n / 2 from rfl,mI (by omega) (by decide),mI hn (by decide),e,dA]<;>omega
theorem eB{n:Nat}(hn:n<12297829382473034411):wr .u64 (wr .u64 (.ofNat ((toU .u64 ((n:Int)>>>(bif Nat.blt 2 (kbits .u64) then 2 else kbits .u64))).land (toU .u64 3689348814741910323)))+wr .u64 (.ofNat ((toU .u64 (n:Int)).land (toU .u64 3689348814741910323))))=((jV 8 n:Nat):Int)/\jV 8 n<7378697629483820647:=by
 have m:mk 51 8=3689348814741910323:=by decide
 have h1:n / 4&&& 3689348814741910323<=3689348814741910323:=Nat.and_le_right;have h2:n&&& 3689348814741910323<=3689348814741910323:=Nat.and_le_right;have e:jV 8 n=(n / 4&&& 3689348814741910323)+(n&&& 3689348814741910323):=by simp only[jV,m]
 refine⟨?_,by omega⟩
 show wr .u64 (wr .u64 (.ofNat (Nat.land (toU .u64 ((n:Int)>>>2)) (toU .u64 ((3689348814741910323:Nat):Int))))+wr .u64 (.ofNat (Nat.land (toU .u64 (n:Int)) (toU .u64 ((3689348814741910323:Nat):Int)))))=_;rw[nL,show n / 2^2=n / 4 from rfl,mI (by omega) (by decide),mI (by omega) (by decide),e,dA]<;>omega
theorem eC{n:Nat}(hn:n<7378697629483820647):wr .u64 (.ofNat ((toU .u64 (wr .u64 ((n:Int)>>>(bif Nat.blt 4 (kbits .u64) then 4 else kbits .u64)+(n:Int)))).land (toU .u64 1085102592571150095)))=((pA 8 n:Nat):Int):=by
 have m:mk 15 8=1085102592571150095:=by decide
 have e:pA 8 n=(n / 16+n)&&& 1085102592571150095:=by simp only[pA,m]
 show wr .u64 (.ofNat (Nat.land (toU .u64 (wr .u64 ((n:Int)>>>4+(n:Int)))) (toU .u64 ((1085102592571150095:Nat):Int))))=_;have e2:wr .u64 ((n:Int)>>>4+(n:Int))=((n / 16+n:Nat):Int):=by rw[nL,dA]<;>omega
 rw[e2,mI (by omega) (by decide),e]
theorem eS{a b k:Nat}(h:a+a / 2^k=b)(hb:b<9223372036854775808)(hk:k<64):wr .u64 ((a:Int)+(a:Int)>>>(bif Nat.blt k (kbits .u64) then k else kbits .u64))=(b:Int):=by
 have:(bif Nat.blt k (kbits .u64) then k else kbits .u64)=k:=by rw[show Nat.blt k (kbits .u64)=true from cF.2 hk];rfl
 rw[this,nL,dA]<;>omega
theorem RQ(hX:X qX=none)(n:Nat)(hn:n<18446744073709551616)(vh:VH)(vn:Nat):
  aE Tryz.prog X G qX [.int .u64 (n:Int)] vh vn fun v vh' vn'=>vh'=vh/\vn'=vn/\v=.int .i64 (pc 64 n:Int):=by
 apply aD4.run hX;obtain⟨a1,a2⟩:=eA hn;obtain⟨b1,b2⟩:=eB a2;have c1:=eC b2;obtain⟨s1,_⟩:=TL 8 n;obtain⟨a,b,c,d,p0,p1,p2,p3,p4,p5,p6,p7,p8⟩:=aJW n
 conv=>whnf
 refine Get.mk 1 rfl ?_
 conv=>whnf
 rw[a1];refine Get.mk 2 rfl ?_
 conv=>whnf
 rw[b1];refine Get.mk 4 rfl ?_
 conv=>whnf
 rw[c1,s1,p0];refine Get.mk 8 rfl ?_
 conv=>whnf
 rw[eS (b:=b) p2 (by omega) (by decide)]
 refine Get.mk 16 rfl ?_
 conv=>whnf
 rw[eS (b:=c) p4 (by omega) (by decide)]
 refine Get.mk 32 rfl ?_
 conv=>whnf
 rw[eS (b:=d) p6 (by omega) (by decide)]
 refine Get.mk _ (fun _ _ h=>h) ⟨rfl,rfl,?_⟩;show V.int .i64 (wr .i64 (.ofNat (Nat.land (toU .i64 (wr .i64 (d:Int))) (toU .i64 ((127:Nat):Int)))))=_;have e0:wr .i64 (d:Int)=(d:Int):=by rw[aF]<;>omega
 rw[e0,xP (n:=d) (by omega),xP (n:=127) (by decide)]
 have e:Nat.land d 127=pc 64 n:=by rw[<-p8];exact Nat.and_two_pow_sub_one_eq_mod d 7
 rw[e];have:=lQ 64 n;show V.int .i64 (wr .i64 ((pc 64 n:Nat):Int))=_;rw[aF]<;>omega
end
end Go.Proofs.YtjoadepfokpcoaaGreatDoor
namespace Go.Num
def wd:List Bool->Nat
 |[]=>0
 |b::l=>b.toNat+2*wd l
def aN:List Bool->Nat
 |[]=>0
 |b::l=>b.toNat+aN l
theorem aJh:wd []=0:=rfl
theorem N0:aN []=0:=rfl
theorem AC:∀(l m:List Bool),aN (l++m)=aN l+aN m
 |[],m=>by simp[aN]
 |b::l,m=>by simp only[List.cons_append,aN,AC l m];omega
theorem mO:∀l:List Bool,aN l<=l.length
 |[]=>Nat.le_refl _
 |b::l=>by have:=mO l;cases b<;>simp[aN]<;>omega
theorem xT:∀l:List Bool,wd l<2^l.length
 |[]=>by simp[wd]
 |b::l=>by have:=xT l;rw[List.length_cons,Nat.pow_succ];cases b<;>simp[wd]<;>omega
theorem UD:∀(l:List Bool) (b:Bool),wd (l++[b])=wd l+b.toNat*2^l.length
 |[],b=>by simp[wd]
 |a::l,b=>by simp only[List.cons_append,wd,UD l b,List.length_cons,Nat.pow_succ,Nat.mul_add];rw[Nat.mul_left_comm 2,Nat.mul_comm 2 (2^l.length)];omega
theorem aGa{w j:Nat}(h:w<2^j):w|||2^j=w+2^j:=by have:=Nat.two_pow_add_eq_or_of_lt h 1;rw[Nat.mul_one] at this;rw[Nat.or_comm,<-this,Nat.add_comm]
theorem SC:∀n,pc n 0=0
 |0=>rfl
 |n+1=>by simp[pc,SC n]
theorem G7:∀(l:List Bool) (n:Nat),l.length<=n->pc n (wd l)=aN l
 |[],n,_=>by simp[wd,aN,SC]
 |b::l,0,h=>by simp at h
 |b::l,n+1,h=>by
  have h':l.length<=n:=by simpa using h
  have e1:(b.toNat+2*wd l)%2=b.toNat:=by cases b<;>simp<;>omega
  have e2:(b.toNat+2*wd l) / 2=wd l:=by cases b<;>simp<;>omega
  simp only[wd,pc,e1,e2,G7 l n h',aN]
theorem UE:∀(l:List Bool) (j:Nat),wd l%2^j=wd (l.take j)
 |[],j=>by simp[wd]
 |b::l,0=>by simp[wd,Nat.mod_one]
 |b::l,j+1=>by
  simp only[wd,List.take_succ_cons,<-UE l j,Nat.pow_succ];have e1:(b.toNat+2*wd l)%2=b.toNat:=by cases b<;>simp<;>omega
  have e2:(b.toNat+2*wd l) / 2=wd l:=by cases b<;>simp<;>omega
  rw[Nat.mul_comm (2^j) 2,Nat.mod_mul,e1,e2]
theorem aF1(w j:Nat):w&&& (2^j-1)=w%2^j:=Nat.and_two_pow_sub_one_eq_mod w j
def aZ(l:List Bool)(k:Nat):List Bool:=(l.drop (64*k)).take 64
theorem pG(l:List Bool)(k:Nat):(aZ l k).length<=64:=by simp[aZ,List.length_take];omega
theorem E4(l:List Bool)(k j:Nat)(hj:j<=64):aN (l.take (64*k))+aN ((aZ l k).take j)=aN (l.take (64*k+j)):=by
 rw[<-AC]
 congr 1
 rw[List.take_add,aZ,List.take_take,Nat.min_eq_left hj]
theorem aIh(l:List Bool)(k:Nat):aN (l.take (64*(k / 64)))+pc 64 (wd (aZ l (k / 64))&&& (2^(k%64)-1))=aN (l.take k):=by
 have hm:k%64<64:=Nat.mod_lt _ (by decide)
 rw[aF1,UE,G7 _ 64 (by rw[List.length_take];omega),E4 _ _ _ (by omega)]
 congr 2
 omega
theorem YS(l:List Bool)(k:Nat)(hk:k<l.length):wd (aZ l (k / 64)) / 2^(k%64)%2=l[k].toNat:=by
 have key:∀(m:List Bool) (j:Nat) (hj:j<m.length),wd m / 2^j%2=m[j].toNat:=by
  intro m
  induction m with
  |nil=>intro j hj;simp at hj
  |cons b m ih=>
   intro j hj;cases j with
   |zero=>simp only[wd,Nat.pow_zero,Nat.div_one,List.getElem_cons_zero];cases b<;>simp<;>omega
   |succ j=>
    have:wd (b::m) / 2^(j+1)=wd m / 2^j:=by
     rw[Nat.pow_succ,Nat.mul_comm,<-Nat.div_div_eq_div_mul]
     congr 1
     simp only[wd];cases b<;>simp<;>omega
    rw[this,List.getElem_cons_succ];exact ih j (by simpa using hj)
 have hlt:k%64<(aZ l (k / 64)).length:=by simp only[aZ,List.length_take,List.length_drop];omega
 rw[key _ _ hlt];have:(aZ l (k / 64))[k%64]? =some l[k]:=by simp only[aZ];rw[List.getElem?_take,if_pos (by omega),List.getElem?_drop,show 64*(k / 64)+k%64=k by omega,List.getElem?_eq_getElem hk]
 rw[List.getElem?_eq_getElem hlt] at this;rw[Option.some.inj this]
end Go.Num
namespace Go.Proofs.YtjoadepfokpcoaaGreatDoor
section
attribute [local irreducible] aM wd aZ aN
variable {X : Ovr} {G : Gt}
def bS(b:Bool):List V:=[.bool b]
def lB(p:Nat×Nat):List V:=[.ifc vH (.agg [.int .u64 (p.1:Int),.int .i64 (p.2:Int)])]
theorem FF:∀p,(lB p).length=1:=fun _=>rfl
def w9(bs:List Bool)(k:Nat):Nat×Nat:=(wd (aZ bs k),aN (bs.take (64*k)))
def fT(bs:List Bool)(n:Nat):List (Nat×Nat):=(List.range n).map (w9 bs)
theorem SA(bs:List Bool)(n:Nat):fT bs (n+1)=fT bs n++[w9 bs n]:=by simp[fT,List.range_succ]
theorem G6(bs:List Bool)(n:Nat):(fT bs n).length=n:=by simp[fT]
def iD(bs:List Bool):V:=.fp [.sl 1 ((fT bs (bs.length / 64+1)).map lB) none,.int .i64 (bs.length:Int)] 0
theorem aG9{w j:Nat}(hw:w<2^j)(hj:j<64):wr .u64 (.ofNat ((toU .u64 (w:Int)).lor (toU .u64 (wr .u64 (1*.ofNat (Nat.pow 2 (bif Nat.blt j (kbits .u64) then j else kbits .u64)))))))=((w+2^j:Nat):Int):=by
 have e1:(bif Nat.blt j (kbits .u64) then j else kbits .u64)=j:=by rw[show Nat.blt j (kbits .u64)=true from cF.2 hj];rfl
 have hp:2^j<=9223372036854775808:=Nat.pow_le_pow_right (by decide) (show j<=63 by omega)
 have e2:(1:Int)*.ofNat (Nat.pow 2 j)=((2^j:Nat):Int):=by rw[Int.one_mul];rfl
 rw[e1,e2];have e3:wr .u64 ((2^j:Nat):Int)=((2^j:Nat):Int):=by rw[dA]<;>omega
 rw[e3,xQ (n:=w) (by omega),xQ (n:=2^j) (by omega)]
 have e4:w.lor (2^j)=w+2^j:=aGa hw;rw[e4];show wr .u64 ((w+2^j:Nat):Int)=_;rw[dA]<;>omega
abbrev bE(bs:List Bool)(c:Option Nat)(b bp:Nat)(k:Nat)(tl:aH):aH:=(0,.sl 1 (bs.map bS) c)::(4,.ptr b 0)::(5,.ptr bp 0)::(6,.int .i64 (k:Int))::tl
def CX(vh:VH)(bp w:Nat)(ah:Int):Prop:=vh bp=some (.cells [.int .u64 (w:Int),.int .i64 ah] vH 0 false)
theorem JN(bs:List Bool)(hb:bs.length<=4194304)(c:Option Nat)(b bp q:Nat)(hq:64*q<=bs.length)(ah:Int)(vh0:VH)(vn:Nat)(Q:FQ):∀(m i:Nat),min (64*q+64) bs.length-i=m->64*q<=i->i<=min (64*q+64) bs.length->∀(w:Nat) (vh:VH),w=wd ((bs.drop (64*q)).take (i-64*q))->CX vh bp w ah->(∀c,c≠bp->vh c=vh0 c)->
  (∀vh' i' t,CX vh' bp (wd (aZ bs q)) ah->(∀c,c≠bp->vh' c=vh0 c)->Q (.exit 2) (bE bs c b bp (64*q) [(7,.int .i64 i'),(29,.bool t)]) vh' vn)->
  aC Tryz.prog X G (.loop LR) (bE bs c b bp (64*q) [(7,.int .i64 (i:Int))]) vh vn Q
 |m,i,hm,h0,hi,w,vh,hwe,hp,hf,hQ=>by
  have hlen:Int.ofNat (bs.map bS).length=(bs.length:Int):=by simp
  have e64:wr .i64 (((64*q:Nat):Int)+64)=((64*q+64:Nat):Int):=by rw[aF]<;>omega
  refine aC.round ?_
  conv=>whnf
  rw[hlen,e64];refine aB.mk (fun h1=>?_) (fun h1=>?_)
  ·have h1':i<min (64*q+64) bs.length:=by have:=of_decide_eq_true h1;omega
   have hlt:i<bs.length:=by omega
   have e:wr .i64 ((i:Int)+1)=((i+1:Nat):Int):=by rw[aF]<;>omega
   have hw:(bs.drop (64*q)).take (i+1-64*q)=(bs.drop (64*q)).take (i-64*q)++[bs[i]]:=by
    rw[show i+1-64*q=(i-64*q)+1 by omega,List.take_add_one]
    congr 1
    rw[List.getElem?_drop,show 64*q+(i-64*q)=i by omega,List.getElem?_eq_getElem hlt]
    rfl
   have hl:((bs.drop (64*q)).take (i-64*q)).length=i-64*q:=by rw[List.length_take,List.length_drop];omega
   have hwd:wd ((bs.drop (64*q)).take (i+1-64*q))=w+(bs[i]).toNat*2^(i-64*q):=by rw[hw,UD,hl,hwe]
   have hlt2:w<2^(i-64*q):=by have:=xT ((bs.drop (64*q)).take (i-64*q));rw[hl,<-hwe] at this;exact this
   have nxt:=fun w' vh' h1 h2 h3=>JN bs hb c b bp q hq ah vh0 vn Q (m-1) (i+1) (by omega) (by omega) (by omega) w' vh' h1 h2 h3 hQ
   rw[hwd] at nxt
   conv=>whnf
   refine Get.mk (i,bS bs[i]) ⟨rfl,by simp[hlt]⟩ ?_
   conv=>whnf
   refine aB.mk (fun h2=>?_) (fun h2=>?_)
   ·rw[h2] at nxt;rw[show (true).toNat*2^(i-64*q)=2^(i-64*q) by simp] at nxt
    conv=>whnf
    refine Get.mk (_,_,_,_) hp ?_
    conv=>whnf
    refine Get.mk _ rfl ?_
    conv=>whnf
    refine Get.mk (i-64*q) ?_ ?_
    ·have:wr .i64 ((i:Int)-((64*q:Nat):Int))=((i-64*q:Nat):Int):=by rw[aF]<;>omega
     rw[this,dA]<;>omega
    conv=>whnf
    rw[aG9 hlt2 (by omega)]
    refine Get.mk (_,_,_,_) hp ?_
    conv=>whnf
    refine⟨⟨(by decide:1<=2),Nat.zero_le _⟩,?_⟩
    conv=>whnf
    rw[e];exact nxt _ _ rfl aK fun c hc=>(aG hc).trans (hf c hc)
   ·rw[h2] at nxt;rw[show (false).toNat*2^(i-64*q)=0 by simp,Nat.add_zero] at nxt
    conv=>whnf
    rw[e];exact nxt _ _ rfl hp hf
  ·have h1':i=min (64*q+64) bs.length:=by have:=of_decide_eq_false h1;omega
   have hw:(bs.drop (64*q)).take (i-64*q)=aZ bs q:=by
    unfold aZ;by_cases h:bs.length<=64*q+64
    ·rw[List.take_of_length_le (by rw[List.length_drop];omega),List.take_of_length_le (by rw[List.length_drop];omega)]
    ·rw[show i-64*q=64 by omega]
   rw[hwe,hw] at hp
   conv=>whnf
   exact hQ _ _ _ hp hf
termination_by m=>m
decreasing_by all_goals omega
end
section
attribute [local irreducible] aM wd aZ aN pc
variable {X : Ovr} {G : Gt}
structure XBits(X:Ovr):Prop where
 ones:X qX=none
 new:X qV=none
theorem BY(bs:List Bool)(q:Nat):wd (aZ bs q)<18446744073709551616:=by
 have h1:=xT (aZ bs q);have h2:=pG bs q;have:2^(aZ bs q).length<=2^64:=Nat.pow_le_pow_right (by decide) h2
 exact Nat.lt_of_lt_of_le h1 this
theorem YB(bs:List Bool)(q:Nat):aN (bs.take (64*q))+pc 64 (wd (aZ bs q))=aN (bs.take (64*(q+1))):=by
 rw[G7 _ 64 (pG bs q),show 64*(q+1)=64*q+64 by omega,<-E4 bs q 64 (Nat.le_refl _)]
 congr 2
 rw[List.take_of_length_le (pG bs q)]
structure JK(bs:List Bool)(lo b bp:Nat)(vh0:VH)(q:Nat)(sv:V)(vh:VH)(vn:Nat):Prop where
 A:aQ lB 1 gB lo vh vn sv (fT bs q)
 hb:vh b=some (.cells [sv,.int .i64 (bs.length:Int)] vG 0 false)
 hp:∃w,CX vh bp w (aN (bs.take (64*q)):Int)
 hlo:lo<=vn
 hf:∀c,c<lo->c≠b->c≠bp->vh c=vh0 c
set_option maxHeartbeats 4000000 in
theorem JL(H:XBits X)(bs:List Bool)(hb:bs.length<=4194304)(c:Option Nat)(lo b bp:Nat)(hblo:b<lo)(hplo:bp<lo)(hne:b≠bp)(vh0:VH)(Q:FQ)(hQ:∀sv vh vn k t,JK bs lo b bp vh0 (bs.length / 64+1) sv vh vn->Q (.exit 0) (bE bs c b bp k [(18,.bool t)]) vh vn):∀(m q:Nat),bs.length / 64+1-q=m->q<=bs.length / 64+1->∀(sv:V) (vh:VH) (vn:Nat),JK bs lo b bp vh0 q sv vh vn->
  aC Tryz.prog X G (.loop LQ) (bE bs c b bp (64*q) []) vh vn Q
 |m,q,hm,hq,sv,vh,vn,S=>by
  have hlen:Int.ofNat (bs.map bS).length=(bs.length:Int):=by simp
  have hc1:=mO (bs.take (64*q));have hc2:=mO (bs.take (64*(q+1)));rw[List.length_take] at hc1 hc2;refine aC.round ?_
  conv=>whnf
  rw[hlen];refine aB.mk (fun h1=>?_) (fun h1=>?_)
  ·have h1':64*q<=bs.length:=by have:=of_decide_eq_true h1;omega
   have e64:wr .i64 (((64*q:Nat):Int)+64)=((64*(q+1):Nat):Int):=by rw[aF]<;>omega
   have es:aN (bs.take (64*q))+pc 64 (wd (aZ bs q))=aN (bs.take (64*(q+1))):=YB bs q;have ea:wr .i64 ((aN (bs.take (64*q)):Int)+(pc 64 (wd (aZ bs q)):Int))=(aN (bs.take (64*(q+1))):Int):=by rw[aF]<;>omega
   obtain⟨w0,hp⟩:=S.hp;have hlo:=S.hlo
   conv=>whnf
   refine Get.mk (_,_,_,_) hp ?_
   conv=>whnf
   refine⟨⟨(by decide:1<=2),Nat.zero_le _⟩,?_⟩
   conv=>whnf
   refine JN bs hb c b bp q h1' (aN (bs.take (64*q)):Int) vh vn _ (min (64*q+64) bs.length-64*q) (64*q) rfl (Nat.le_refl _) (by omega) 0 _ (by rw[Nat.sub_self,List.take_zero,aJh]) aK (fun c hc=>aG hc) fun vh1 i' t hp1 f1=>?_
   have hb1:=(f1 b hne).trans S.hb;have A1:aQ lB 1 gB lo vh1 vn sv (fT bs q):=S.A.mono (Nat.le_refl _) fun c h1 h2 h3=>f1 c (by omega)
   have room1:room 16 ((fT bs q).length+1):=by rw[G6];exact⟨by omega,by show _<9223372036854775808;omega⟩
   have nxt:=fun sv' vh' vn' S'=>JL H bs hb c lo b bp hblo hplo hne vh0 Q hQ (m-1) (q+1) (by omega) (by omega) sv' vh' vn' S'
   rcases id A1 with⟨rfl|rfl,hz⟩|⟨bm,hm1,hm2,rfl,hm4⟩
   all_goals
    conv=>whnf
    refine Get.mk (_,_,_,_) hb1 ?_
    conv=>whnf
    refine Get.mk _ rfl ?_
    conv=>whnf
    refine Get.mk (_,_,_,_) hp1 ?_
    conv=>whnf
    refine Get.mk _ ⟨rfl,Nat.le_refl 2⟩ ?_
    conv=>whnf
    refine aQ.app' FF (by decide) A1 hlo (w9 bs q) room1 fun vh2 h2 f2=>?_
    have hb2:=(f2 b (by omega) (fun h=>by first|exact h|(have:b=bm:=h;omega))).trans hb1
    have hp2:=(f2 bp (by omega) (fun h=>by first|exact h|(have:bp=bm:=h;omega))).trans hp1
    rw[<-SA] at h2
    conv=>whnf
    refine Get.mk (_,_,_,_) hb2 ?_
    conv=>whnf
    refine⟨⟨(by decide:1<=2),Nat.zero_le _⟩,?_⟩
    conv=>whnf
    generalize hv3:aI vh2 b _=vh3;have hb3:vh3 b=some (.cells [.msl vn 0 (fT bs (q+1)).length 1 none,.int .i64 (bs.length:Int)] vG 0 false):=by rw[<-hv3,SA];exact aK
    have f3:∀c,c≠b->vh3 c=vh2 c:=fun c hc=>by rw[<-hv3];exact aG hc
    have hp3:=(f3 bp (Ne.symm hne)).trans hp2;clear hv3;refine Get.mk (_,_,_,_) hp3 ?_
    conv=>whnf
    refine Get.mk _ rfl ?_
    conv=>whnf
    refine Get.mk (_,_,_,_) hp3 ?_
    conv=>whnf
    refine Get.mk _ rfl ?_
    conv=>whnf
    refine (RQ H.ones (wd (aZ bs q)) (BY bs q) _ _).mono fun v vh4 n4 he=>?_;obtain⟨e1,e2,e3⟩:=he;rw[e1,e2,e3];clear e1 e2 e3
    conv=>whnf
    refine⟨⟨rfl,?_⟩,?_⟩
    ·refine Get.mk (_,_,_,_) hp3 ?_
     conv=>whnf
     refine Get.mk _ rfl ?_
     conv=>whnf
    conv=>whnf
    rw[ea];refine Get.mk (_,_,_,_) hp3 ?_
    conv=>whnf
    refine⟨⟨(by decide:2<=2),Nat.zero_le _⟩,?_⟩
    conv=>whnf
    rw[e64];refine nxt _ _ _ ⟨.inr ⟨vn,by omega,by omega,rfl,?_⟩,(aG hne).trans hb3,⟨_,aK⟩,by omega,fun c h1 h2 h3=>?_⟩
    ·exact (aG (by omega)).trans ((f3 vn (by omega)).trans h2)
    ·exact (aG h3).trans ((f3 c h2).trans ((f2 c (by omega) (fun h=>by first|exact h|(have:c=bm:=h;omega))).trans ((f1 c h3).trans (S.hf c h1 h2 h3))))
  ·have h1':¬64*q<=bs.length:=by have:=of_decide_eq_false h1;omega
   have hq':q=bs.length / 64+1:=by omega
   subst hq'
   conv=>whnf
   exact hQ sv vh vn _ _ S
termination_by m=>m
decreasing_by all_goals omega
def wP(vh:VH)(vn:Nat):VH:=fun c=>if c<vn then vh c else none
theorem aFR{vh:VH}{vn c:Nat}(h:c<vn):wP vh vn c=vh c:=if_pos h
theorem QQ{vh:VH}{vn c:Nat}{B:VB}(h:wP vh vn c=some B):c<vn/\vh c=some B:=by
 unfold wP at h;split at h
 ·exact⟨by assumption,h⟩
 ·cases h
theorem YT{bs:List Bool}{vh:VH}{vn bm:Nat}(hm:vn<bm)(hb:vh vn=some (.cells [.msl bm 0 (fT bs (bs.length / 64+1)).length 1 none,.int .i64 (bs.length:Int)] vG 0 false))(hp:vh bm=some (.cells ((fT bs (bs.length / 64+1)).map lB).flatten gB 0 false))(c:V):
  nY (.tup [.ptr vn 0,c]) vh (.tup [iD bs,c]) (wP vh vn):=by
 refine nY.trans (v':=.tup [.ptr vn 0,c]) (vh':=aI (wP vh vn) vn (.cells [.sl 1 ((fT bs (bs.length / 64+1)).map lB) none,.int .i64 (bs.length:Int)] vG 0 false)) ?_ ?_
 ·refine T7 hp (.refl _) fun d B' hd=>?_;by_cases hdv:d=vn
  ·subst hdv;rw[aK] at hd;cases hd;obtain⟨q1,q2,q3⟩:=gG (xs:=fT bs (bs.length / 64+1)) FF (by decide)
   exact⟨by omega,_,hb,.cells _ _ _ _ _ (.cons _ _ _ _ (.sl 0 _ 1 none _ q1 q2 (fun x hx=>by cases hx) (eU FF)) (.cons _ _ _ _ (.refl _) .nil))⟩
  ·rw[aG hdv] at hd;obtain⟨k1,k2⟩:=QQ hd;exact⟨by omega,_,k2,.refl _⟩
 ·refine T7 aK (.tup _ _ (.cons _ _ _ _ (.ptr 0) (.cons _ _ _ _ (.refl _) .nil))) fun d B' hd=>?_;obtain⟨k1,k2⟩:=QQ hd;exact⟨by omega,_,(aG (by omega)).trans hd,.refl _⟩
theorem CD(H:XBits X)(bs:List Bool)(hb:bs.length<=4194304)(c:Option Nat)(vh:VH)(vn:Nat):
  aE Tryz.prog X G qV [.sl 1 (bs.map bS) c] vh vn fun v vh' vn'=>v=.tup [iD bs,.int .i64 0]/\Frm vh vn vh' vn':=by
 refine aE.view ?_;apply aDK.run H.new;have hlen:Int.ofNat (bs.map bS).length=(bs.length:Int):=by simp
 conv=>whnf
 rw[hlen];refine aB.mk (fun h1=>?_) (fun h1=>?_)
 ·exfalso;have:=of_decide_eq_true h1;omega
 ·conv=>whnf
  rw[hlen];refine JL H bs hb c (vn+2) vn (vn+1) (by omega) (by omega) (by omega) _ _ (fun sv vh1 n1 k t S=>?_) (bs.length / 64+1) 0 rfl (Nat.zero_le _) .nils _ _ ⟨.inl ⟨.inl rfl,rfl⟩,(aG (by omega)).trans aK,⟨0,by rw[Nat.mul_zero,List.take_zero,N0];exact aK⟩,Nat.le_refl _,fun _ _ _ _=>rfl⟩
  have hlo:=S.hlo;rcases S.A with⟨_,hz⟩|⟨bm,q1,q2,rfl,q4⟩
  ·exfalso;have:=congrArg List.length hz;rw[G6] at this;simp at this
  ·conv=>whnf
   refine Get.mk _ (fun _ _ h=>h) ⟨_,_,YT (by omega) S.hb q4 _,rfl,by show vn<=n1;omega,fun d hd=>?_⟩
   exact (aFR hd).trans ((S.hf d (by omega) (by omega) (by omega)).trans ((aG (by omega)).trans (aG (by omega))))
end
section
attribute [local irreducible] aM wd aZ aN pc
variable {X : Ovr} {G : Gt}
structure XBit2(X:Ovr):Prop extends XBits X where
 blen:X pI=none
 at_:X qU=none
 get:X xU=none
 rank:X kS=none
theorem t8(H:XBit2 X)(bs:List Bool)(vh:VH)(vn:Nat):
  aE Tryz.prog X G pI [iD bs] vh vn fun v vh' vn'=>vh'=vh/\vn'=vn/\v=.int .i64 (bs.length:Int):=by
 apply aDG.run H.blen
 conv=>whnf
 exact Get.mk _ (fun _ _ h=>h) ⟨rfl,rfl,rfl⟩
theorem CC(H:XBit2 X)(bs:List Bool)(k:Nat)(hk:k<=bs.length / 64)(vh:VH)(vn:Nat):
  aE Tryz.prog X G qU [iD bs,.int .i64 (k:Int)] vh vn fun v vh' vn'=>vh'=vh/\vn'=vn/\v=.agg [.int .u64 (wd (aZ bs k):Int),.int .i64 (aN (bs.take (64*k)):Int)]:=by
 apply aDI.run H.at_;have hat:((fT bs (bs.length / 64+1)).map lB)[k]? =some (lB (w9 bs k)):=by simp[fT,show k<bs.length / 64+1 by omega]
 conv=>whnf
 refine Get.mk (k,lB (w9 bs k)) ⟨rfl,hat⟩ ?_
 conv=>whnf
 exact Get.mk _ (fun _ _ h=>h) ⟨rfl,rfl,rfl⟩
def rk(bs:List Bool)(bit:Bool)(j:Nat):Nat:=if bit=true then aN (bs.take j) else j-aN (bs.take j)
theorem aF0{w j:Nat}(hw:w<18446744073709551616)(hj:j<64):wr .u64 (.ofNat ((toU .u64 (w:Int)).land (toU .u64 (wr .u64 (wr .u64 (1*.ofNat (Nat.pow 2 (bif Nat.blt j (kbits .u64) then j else kbits .u64)))-1)))))=((w&&& (2^j-1):Nat):Int):=by
 have e1:(bif Nat.blt j (kbits .u64) then j else kbits .u64)=j:=by rw[show Nat.blt j (kbits .u64)=true from cF.2 hj];rfl
 have hp:2^j<=9223372036854775808:=Nat.pow_le_pow_right (by decide) (show j<=63 by omega)
 have hp0:0<2^j:=Nat.pos_of_ne_zero (by simp)
 have e2:(1:Int)*.ofNat (Nat.pow 2 j)=((2^j:Nat):Int):=by rw[Int.one_mul];rfl
 have e3:wr .u64 ((2^j:Nat):Int)=((2^j:Nat):Int):=by rw[dA]<;>omega
 have e4:wr .u64 (((2^j:Nat):Int)-1)=((2^j-1:Nat):Int):=by rw[dA]<;>omega
 rw[e1,e2,e3,e4];exact mI hw (by omega)
set_option maxHeartbeats 1000000 in
theorem WK(H:XBit2 X)(bs:List Bool)(hb:bs.length<=4194304)(k:Int)(bit:Bool)(j:Nat)(hj:min (max k 0) (bs.length:Int)=(j:Int))(vh:VH)(vn:Nat):
  aE Tryz.prog X G kS [iD bs,.int .i64 k,.bool bit] vh vn fun v vh' vn'=>vh'=vh/\vn'=vn/\v=.int .i64 (rk bs bit j:Int):=by
 apply aDH.run H.rank;have hjl:j<=bs.length:=by omega
 have hc:=mO (bs.take j);rw[List.length_take] at hc
 conv=>whnf
 refine (t8 H bs vh vn).mono fun v vh' vn' he=>?_;obtain⟨e1,e2,e3⟩:=he;rw[e1,e2,e3];clear e1 e2 e3
 conv=>whnf
 rw[hj];refine aB.mk (fun h1=>?_) (fun h1=>?_)
 ·have h1':j=0:=by have:=of_decide_eq_true h1;omega
  subst h1'
  conv=>whnf
  refine Get.mk _ (fun _ _ h=>h) ⟨rfl,rfl,?_⟩;have:rk bs bit 0=0:=by unfold rk;split<;>simp[N0]
  rw[this];rfl
 ·conv=>whnf
  repeat (refine Owe.mk (by decide) ?_;conv=>whnf)
  have eq:wr .i64 ((j:Int).tdiv 64)=((j / 64:Nat):Int):=by have:(j:Int).tdiv 64=((j / 64:Nat):Int):=rfl;rw[this,aF]<;>omega
  rw[eq];refine (CC H bs (j / 64) (Nat.div_le_div_right hjl) vh vn).mono fun v vh' vn' he=>?_;obtain⟨e1,e2,e3⟩:=he;rw[e1,e2,e3];clear e1 e2 e3
  conv=>whnf
  repeat (refine Owe.mk (by decide) ?_;conv=>whnf)
  have em:wr .u64 ((j:Int).tmod 64)=((j%64:Nat):Int):=by have:(j:Int).tmod 64=((j%64:Nat):Int):=rfl;rw[this,dA]<;>omega
  refine Get.mk (j%64) em ?_
  conv=>whnf
  have hw:=BY bs (j / 64);have hm:wd (aZ bs (j / 64))&&& (2^(j%64)-1)<=wd (aZ bs (j / 64)):=Nat.and_le_left;rw[aF0 hw (Nat.mod_lt _ (by decide))]
  refine (RQ H.ones (wd (aZ bs (j / 64))&&& (2^(j%64)-1)) (by omega) vh vn).mono fun v vh' vn' he=>?_
  obtain⟨e1,e2,e3⟩:=he;rw[e1,e2,e3];clear e1 e2 e3
  conv=>whnf
  have er:=aIh bs j;have ea:wr .i64 ((aN (bs.take (64*(j / 64))):Int)+(pc 64 (wd (aZ bs (j / 64))&&& (2^(j%64)-1)):Int))=(aN (bs.take j):Int):=by rw[<-Int.natCast_add,er,aF]<;>omega
  rw[ea];cases bit with
  |true=>
   conv=>whnf
   exact Get.mk _ (fun _ _ h=>h) ⟨rfl,rfl,rfl⟩
  |false=>
   conv=>whnf
   refine Get.mk _ (fun _ _ h=>h) ⟨rfl,rfl,?_⟩;have es:wr .i64 ((j:Int)-(aN (bs.take j):Int))=((j-aN (bs.take j):Nat):Int):=by rw[aF]<;>omega
   exact congrArg (V.int .i64) es
theorem WJ(H:XBit2 X)(bs:List Bool)(hb:bs.length<=4194304)(bit:Bool)(j:Nat)(hj:j<=bs.length)(vh:VH)(vn:Nat):
  aE Tryz.prog X G kS [iD bs,.int .i64 (j:Int),.bool bit] vh vn fun v vh' vn'=>vh'=vh/\vn'=vn/\v=.int .i64 (rk bs bit j:Int):=WK H bs hb j bit j (by omega) vh vn
theorem UN(H:XBit2 X)(bs:List Bool)(hb:bs.length<=4194304)(k:Int)(vh:VH)(vn:Nat):
  aE Tryz.prog X G xU [iD bs,.int .i64 k] vh vn fun v vh' vn'=>vh'=vh/\vn'=vn/\(if h:0<=k/\k.toNat<bs.length then v=.tup [.bool (bs[k.toNat]'h.2),.int .i64 0] else v=.tup [.bool false,.int .i64 4]):=by
 apply aDF.run H.get
 conv=>whnf
 refine aB.mk (fun h1=>?_) (fun h1=>?_)
 ·have h1':=of_decide_eq_true h1
  conv=>whnf
  refine Get.mk _ (fun _ _ h=>h) ⟨rfl,rfl,?_⟩;rw[dif_neg (by omega)]
 ·have h1':=of_decide_eq_false h1
  conv=>whnf
  refine (t8 H bs vh vn).mono fun v vh' vn' he=>?_;obtain⟨e1,e2,e3⟩:=he;rw[e1,e2,e3];clear e1 e2 e3
  conv=>whnf
  refine aB.mk (fun h2=>?_) (fun h2=>?_)
  ·have h2':=of_decide_eq_true h2
   conv=>whnf
   refine Get.mk _ (fun _ _ h=>h) ⟨rfl,rfl,?_⟩;rw[dif_neg (by omega)]
  ·have h2':=of_decide_eq_false h2;obtain⟨j,rfl⟩:∃j:Nat,k=(j:Int):=⟨k.toNat,by omega⟩
   have hj:j<bs.length:=by omega
   conv=>whnf
   repeat (refine Owe.mk (by decide) ?_;conv=>whnf)
   have eq:wr .i64 ((j:Int).tdiv 64)=((j / 64:Nat):Int):=by have:(j:Int).tdiv 64=((j / 64:Nat):Int):=rfl;rw[this,aF]<;>omega
   rw[eq];refine (CC H bs (j / 64) (Nat.div_le_div_right (by omega)) vh vn).mono fun v vh' vn' he=>?_
   obtain⟨e1,e2,e3⟩:=he;rw[e1,e2,e3];clear e1 e2 e3
   conv=>whnf
   repeat (refine Owe.mk (by decide) ?_;conv=>whnf)
   have em:wr .u64 ((j:Int).tmod 64)=((j%64:Nat):Int):=by have:(j:Int).tmod 64=((j%64:Nat):Int):=rfl;rw[this,dA]<;>omega
   refine Get.mk (j%64) em ?_
   conv=>whnf
   refine Get.mk _ (fun _ _ h=>h) ⟨rfl,rfl,?_⟩;rw[dif_pos ⟨by omega,by simpa using hj⟩]
   have hw:=BY bs (j / 64);have hbw:=YS bs j hj;have hlt:j%64<64:=Nat.mod_lt _ (by decide)
   have e1:(bif Nat.blt (j%64) (kbits .u64) then j%64 else kbits .u64)=j%64:=by rw[show Nat.blt (j%64) (kbits .u64)=true from cF.2 hlt];rfl
   have hd:wd (aZ bs (j / 64)) / 2^(j%64)<=wd (aZ bs (j / 64)):=Nat.div_le_self _ _;show V.tup [.bool (decide (wr .u64 (.ofNat ((toU .u64 ((wd (aZ bs (j / 64)):Int)>>>(bif Nat.blt (j%64) (kbits .u64) then j%64 else kbits .u64))).land (toU .u64 ((1:Nat):Int))))=1)),.int .i64 0]=_;have e2:=mI (a:=wd (aZ bs (j / 64)) / 2^(j%64)) (b:=1) (by omega) (by decide)
   rw[e1,nL,show ∀a b:Nat,a.land b=Nat.land a b from fun _ _=>rfl,e2];have e3:wd (aZ bs (j / 64)) / 2^(j%64)&&& 1=bs[j].toNat:=by rw[<-hbw];exact Nat.and_one_is_mod _
   rw[e3];simp only[Int.toNat_natCast];cases bs[j]<;>rfl
end
end Go.Proofs.YtjoadepfokpcoaaGreatDoor
namespace Go.Num
def cX:List Bool->Nat
 |[]=>0
 |b::l=>if b=true then 0 else cX l+1
def dF:List Bool->List Bool
 |[]=>[]
 |b::l=>if b=true then false::l else b::dF l
def bL:List Bool->Nat->Nat
 |[],_=>0
 |true::_,0=>0
 |true::l,j+1=>bL l j+1
 |false::l,j=>bL l j+1
theorem NW:∀l:List Bool,(dF l).length=l.length
 |[]=>rfl
 |b::l=>by unfold dF;split<;>simp[NW l]
theorem K2(a b:Nat):(2*a+1)&&& (2*b)=2*(a&&& b):=by
 apply Nat.eq_of_testBit_eq;intro i;cases i with
 |zero=>simp[Nat.testBit_and,Nat.testBit_zero]
 |succ i=>rw[Nat.testBit_and,Nat.testBit_succ,Nat.testBit_succ,Nat.testBit_succ,show (2*a+1) / 2=a by omega,show 2*b / 2=b by omega,show 2*(a&&& b) / 2=a&&& b by omega,Nat.testBit_and]
theorem YC(a b:Nat):(2*a)&&& (2*b+1)=2*(a&&& b):=by rw[Nat.and_comm,K2,Nat.and_comm]
theorem UB:∀l:List Bool,wd l≠0->wd (dF l)=wd l&&& (wd l-1)
 |[],h=>(h rfl).elim
 |true::l,_=>by
  simp only[dF,if_true,wd,Bool.toNat_true,Bool.toNat_false];rw[show 1+2*wd l-1=2*wd l by omega,show 1+2*wd l=2*wd l+1 by omega,K2,Nat.and_self]
  omega
 |false::l,h=>by
  have hl:wd l≠0:=fun e=>h (by simp[wd,e])
  simp only[dF,Bool.false_eq_true,if_false,wd,Bool.toNat_false,Nat.zero_add];rw[UB l hl,show 2*wd l-1=2*(wd l-1)+1 by omega,YC]
theorem UC:∀l:List Bool,wd l≠0->∃m,wd l=2^cX l*(2*m+1)/\cX l<l.length
 |[],h=>(h rfl).elim
 |true::l,_=>⟨wd l,by simp[cX,wd];omega,by simp[cX]⟩
 |false::l,h=>by
  have hl:wd l≠0:=fun e=>h (by simp[wd,e])
  obtain⟨m,h1,h2⟩:=UC l hl;refine⟨m,?_,by simp[cX];omega⟩
  simp only[cX,Bool.false_eq_true,if_false,wd,Bool.toNat_false,Nat.zero_add,Nat.pow_succ];rw[h1,Nat.mul_comm (2^cX l) 2,Nat.mul_assoc]
theorem N6:∀l:List Bool,aN l=0↔wd l=0
 |[]=>by simp[aN,wd]
 |b::l=>by have:=N6 l;cases b<;>simp[aN,wd,this]<;>omega
theorem NZ:∀l:List Bool,aN (dF l)=aN l-1
 |[]=>rfl
 |true::l=>by simp[dF,aN]
 |false::l=>by simp[dF,aN,NZ l]
theorem RF:∀(l:List Bool) (j:Nat),j+1<aN l->bL (dF l) j=bL l (j+1)
 |[],j,h=>by simp[aN] at h
 |true::l,j,h=>by simp[dF,bL]
 |false::l,j,h=>by
  have:j+1<aN l:=by simpa[aN] using h
  simp[dF,bL,RF l j this]
theorem RG:∀l:List Bool,0<aN l->bL l 0=cX l
 |[],h=>by simp[aN] at h
 |true::l,_=>by simp[bL,cX]
 |false::l,h=>by
  have:0<aN l:=by simpa[aN] using h
  simp[bL,cX,RG l this]
theorem GX:∀(l:List Bool) (j:Nat),j<aN l->bL l j<l.length/\l[bL l j]? =some true/\aN (l.take (bL l j))=j
 |[],j,h=>by simp[aN] at h
 |true::l,0,_=>by simp[bL,aN]
 |true::l,j+1,h=>by
  have:j<aN l:=by simp[aN] at h;omega
  obtain⟨h1,h2,h3⟩:=GX l j this;refine⟨by simp[bL];omega,by simpa[bL] using h2,?_⟩
  simp only[bL,List.take_succ_cons,aN,h3,Bool.toNat_true];omega
 |false::l,j,h=>by
  have:j<aN l:=by simpa[aN] using h
  obtain⟨h1,h2,h3⟩:=GX l j this;refine⟨by simp[bL];omega,by simpa[bL] using h2,?_⟩
  simp only[bL,List.take_succ_cons,aN,h3,Bool.toNat_false];omega
theorem aFS{n j m:Nat}(hn:n<2^64)(h:n=2^j*(2*m+1)):n&&& (2^64-n)=2^j:=by
 have hp:0<2^j:=Nat.pos_of_ne_zero (by simp)
 have hn0:0<n:=by rw[h];exact Nat.mul_pos hp (by omega)
 have e1:n=2^j*(2*m+1)+0:=by omega
 have e2:n-1=2^j*(2*m)+(2^j-1):=by rw[h,Nat.mul_add,Nat.mul_one];omega
 have e3:2^j=2^j*1+0:=by omega
 apply Nat.eq_of_testBit_eq;intro i;have hi:n.testBit i=true->i<64:=fun ht=>by
  refine Decidable.byContradiction fun hc=>?_;rw[Nat.testBit_lt_two_pow (Nat.lt_of_lt_of_le hn (Nat.pow_le_pow_right (by decide) (by omega)))] at ht
  cases ht
 rw[Nat.testBit_and,show 2^64-n=2^64-((n-1)+1) by omega,Nat.testBit_two_pow_sub_succ (by omega),Nat.testBit_two_pow]
 have t1:n.testBit i=if i<j then false else (2*m+1).testBit (i-j):=by
  conv=>lhs;rw[e1]
  rw[Nat.testBit_two_pow_mul_add _ hp];simp
 have t2:(n-1).testBit i=if i<j then (2^j-1).testBit i else (2*m).testBit (i-j):=by
  conv=>lhs;rw[e2]
  rw[Nat.testBit_two_pow_mul_add _ (by omega)]
 by_cases hij:i<j
 ·rw[t1,if_pos hij];simp;omega
 ·rw[t2,if_neg hij];by_cases he:i=j
  ·subst he;have hb:n.testBit i=true:=by rw[t1,if_neg hij,Nat.sub_self];simp[Nat.testBit_zero]
   rw[hb];simp[Nat.testBit_zero,hi hb]
  ·have hs:∃k,i-j=k+1:=⟨i-j-1,by omega⟩
   obtain⟨k,hk⟩:=hs;have:n.testBit i=(2*m).testBit (i-j):=by
    rw[t1,if_neg hij,hk,Nat.testBit_succ,Nat.testBit_succ]
    congr 1
    omega
   rw[this];cases (2*m).testBit (i-j)
   all_goals
    simp;exact fun h=>he h.symm
end Go.Num
namespace Go.Proofs.YtjoadepfokpcoaaGreatDoor
section
attribute [local irreducible] aM wd aZ aN pc cX
variable {X : Ovr} {G : Gt}
def tzN:List Nat:=[0,1,56,2,57,49,28,3,61,58,42,50,38,29,17,4,62,47,59,36,45,43,51,22,53,39,33,30,24,18,12,5,63,55,48,27,60,41,37,16,46,35,44,21,52,32,23,11,54,26,40,15,34,20,31,10,25,14,19,9,13,8,7,6]
def tzL:List V:=tzN.map fun n:Nat=>.int .u8 (n:Int)
theorem aIi{k:Nat}{l:List V}{env:aH}(h:G k=some l):rdV G env (.g k)=some (.fp l 0):=by simp only[rdV,h]
theorem aJp(x:Nat):wr .u64 (x:Int)=((x%18446744073709551616:Nat):Int):=rfl
theorem aJq{n:Nat}(h0:0<n)(h:n<18446744073709551616):wr .u64 (-(n:Int))=((18446744073709551616-n:Nat):Int):=by
 obtain⟨m,rfl⟩:∃m,n=m+1:=⟨n-1,by omega⟩
 show Int.ofNat (18446744073709551616-1-m%18446744073709551616)=_;rw[Nat.mod_eq_of_lt (by omega)]
 show Int.ofNat _=Int.ofNat _
 congr 1
 omega
theorem aJ8:∀j<64,tzN[2^j*285870213051353865%18446744073709551616 / 2^58]? =some j:=by decide+kernel
theorem aJ9(hX:X qY=none)(hG:G jG=some tzL)(l:List Bool)(hl:l.length<=64)(h0:wd l≠0)(vh:VH)(vn:Nat):
  aE Tryz.prog X G qY [.int .u64 (wd l:Int)] vh vn fun v vh' vn'=>vh'=vh/\vn'=vn/\v=.int .i64 (cX l:Int):=by
 obtain⟨m,e1,e2⟩:=UC l h0;have hlt:wd l<18446744073709551616:=by have:=xT l;exact Nat.lt_of_lt_of_le this (Nat.pow_le_pow_right (by decide) hl)
 have e3:=aFS hlt e1;apply aD5.run hX;generalize hn:wd l=n at *;generalize hj:cX l=j at *
 conv=>whnf
 refine aB.mk (fun h1=>?_) (fun h1=>?_)
 ·exfalso;have:=of_decide_eq_true h1;omega
 ·have hp:2^j<=9223372036854775808:=Nat.pow_le_pow_right (by decide) (show j<=63 by omega)
  have ev:wr .u64 (.ofNat ((toU .u64 (n:Int)).land (toU .u64 (wr .u64 (-(n:Int))))))=((2^j:Nat):Int):=by
   rw[aJq (by omega) hlt]
   have:=mI (a:=n) (b:=18446744073709551616-n) hlt (by omega)
   rw[show ∀a b:Nat,a.land b=Nat.land a b from fun _ _=>rfl,this];exact congrArg _ e3
  have em:wr .u64 (((2^j:Nat):Int)*285870213051353865)=((2^j*285870213051353865%18446744073709551616:Nat):Int):=by
   rw[show ((2^j:Nat):Int)*285870213051353865=((2^j*285870213051353865:Nat):Int) by rw[Int.natCast_mul];rfl]
   exact aJp _
  obtain⟨r,hr,q,hq0,hq⟩:∃r:Nat,wr .u64 (((2^j:Nat):Int)*285870213051353865)=(r:Int)/\∃q:Nat,r / 2^58=q/\tzN[q]? =some j:=⟨_,em,_,rfl,aJ8 j (by omega)⟩
  have hq64:q<64:=(List.getElem?_eq_some_iff.1 hq).1;have hnth:Ev.nth tzL (0+q*1)=some (.int .u8 (j:Int)):=by rw[eW,Nat.zero_add,Nat.mul_one,tzL,List.getElem?_map,hq];rfl
  clear em e3 e1;generalize 2^j=p at *
  conv=>whnf
  rw[ev,hr];refine Get.mk 58 rfl ?_
  conv=>whnf
  rw[aIi hG]
  conv=>whnf
  refine Get.mk q ⟨?_,hq64⟩ ?_
  ·have:(bif Nat.blt 58 (kbits .u64) then 58 else kbits .u64)=58:=rfl;rw[this,nL,hq0]
  conv=>whnf
  rw[hnth]
  conv=>whnf
  refine Get.mk _ (fun _ _ h=>h) ⟨rfl,rfl,?_⟩;have:wr .i64 (j:Int)=(j:Int):=by rw[aF]<;>omega
  exact congrArg (V.int .i64) this
end
end Go.Proofs.YtjoadepfokpcoaaGreatDoor
namespace Go.Num
theorem GW:∀(V E:List Bool) (c:Nat),c<aN V->bL (V++E) c=bL V c
 |[],_,c,h=>by simp[aN] at h
 |true::V,E,0,_=>rfl
 |true::V,E,c+1,h=>by
  have:c<aN V:=by simp[aN] at h;omega
  simp[bL,GW V E c this]
 |false::V,E,c,h=>by
  have:c<aN V:=by simpa[aN] using h
  simp[bL,GW V E c this]
theorem IK:∀(l:List Bool) (n:Nat),wd (l.map not++List.replicate n true)+wd l+1=2^(l.length+n)
 |[],0=>by simp[wd]
 |[],n+1=>by have:=IK [] n;simp only[List.map_nil,List.nil_append,List.length_nil,Nat.zero_add,wd,Nat.add_zero] at this;simp only[List.map_nil,List.nil_append,List.replicate_succ,wd,Bool.toNat_true,List.length_nil,Nat.zero_add,Nat.pow_succ];omega
 |b::l,n=>by
  have:=IK l n;simp only[List.map_cons,List.cons_append,wd,List.length_cons];rw[show l.length+1+n=l.length+n+1 by omega,Nat.pow_succ]
  cases b<;>simp<;>omega
theorem N4:∀l:List Bool,aN (l.map not)+aN l=l.length
 |[]=>rfl
 |b::l=>by have:=N4 l;cases b<;>simp[aN]<;>omega
def rkN(bs:List Bool)(bit:Bool)(j:Nat):Nat:=if bit=true then aN (bs.take j) else j-aN (bs.take j)
def cK(bs:List Bool)(bit:Bool)(k:Nat):List Bool:=if bit=true then aZ bs k else (aZ bs k).map not
theorem IM(bs:List Bool)(bit:Bool)(k:Nat):(cK bs bit k).length=(aZ bs k).length:=by unfold cK;split<;>simp
theorem SY(bs:List Bool)(bit:Bool)(k i:Nat)(h:64*k+i<=bs.length)(hi:i<=64):rkN bs bit (64*k+i)=rkN bs bit (64*k)+aN ((cK bs bit k).take i):=by
 have h1:=E4 bs k i hi;have c1:=mO (bs.take (64*k));rw[List.length_take] at c1;have hl:((aZ bs k).take i).length=i:=by simp only[aZ,List.length_take,List.length_drop];omega
 have h2:=N4 ((aZ bs k).take i);rw[hl] at h2;unfold rkN cK;cases bit with
 |true=>simp only[if_true];omega
 |false=>simp only[Bool.false_eq_true,if_false];rw[<-List.map_take];omega
theorem SX(bs:List Bool)(bit:Bool)(j:Nat):rkN bs bit j<=j:=by have c1:=mO (bs.take j);rw[List.length_take] at c1;unfold rkN;split<;>omega
theorem aIq(bs:List Bool)(bit:Bool):rkN bs bit 0=0:=by have:=SX bs bit 0;omega
theorem aJj(bs:List Bool)(bit:Bool)(k t:Nat)(h:(cK bs bit k)[t]? =some true):bs[64*k+t]? =some bit:=by
 unfold cK at h;split at h
 ·rename_i hb;rw[hb];simp only[aZ] at h;rw[List.getElem?_take] at h;split at h
  ·rw[List.getElem?_drop] at h;exact h
  ·cases h
 ·rename_i hb;have hb:bit=false:=by simpa using hb
  rw[hb];rw[List.getElem?_map] at h;obtain⟨x,h1,h2⟩:=Option.map_eq_some_iff.1 h;simp only[aZ] at h1;rw[List.getElem?_take] at h1;split at h1
  ·rw[List.getElem?_drop] at h1;rw[h1];cases x<;>simp at h2 ⊢
  ·cases h1
theorem aIu(bs:List Bool)(bit:Bool)(k j:Nat)(hk:64*k<=bs.length)(h1:rkN bs bit (64*k)<=j)(h2:j<rkN bs bit (min (64*k+64) bs.length)):
  j-rkN bs bit (64*k)<aN (cK bs bit k)/\64*k+bL (cK bs bit k) (j-rkN bs bit (64*k))<bs.length/\bs[64*k+bL (cK bs bit k) (j-rkN bs bit (64*k))]? =some bit/\rkN bs bit (64*k+bL (cK bs bit k) (j-rkN bs bit (64*k)))=j:=by
 have hl:(aZ bs k).length=min (64*k+64) bs.length-64*k:=by simp only[aZ,List.length_take,List.length_drop];omega
 have e:min (64*k+64) bs.length=64*k+(aZ bs k).length:=by omega
 have hw:=SY bs bit k (aZ bs k).length (by omega) (pG bs k)
 rw[List.take_of_length_le (by rw[IM];exact Nat.le_refl _),<-e] at hw
 have hc:j-rkN bs bit (64*k)<aN (cK bs bit k):=by omega
 obtain⟨q1,q2,q3⟩:=GX _ _ hc;rw[IM] at q1;have hat:=aJj bs bit k _ q2;refine⟨hc,by omega,hat,?_⟩
 rw[SY bs bit k _ (by omega) (by have:=pG bs k;omega),q3]
 omega
end Go.Num
namespace Go.Proofs.YtjoadepfokpcoaaGreatDoor
section
attribute [local irreducible] aM wd aZ aN pc cX bL rkN cK dF
variable {X : Ovr} {G : Gt}
structure XBit3(X:Ovr):Prop extends XBit2 X where
 tz:X qY=none
 sel:X uB=none
theorem rN(H:XBit3 X)(bs:List Bool)(hb:bs.length<=4194304)(bit:Bool)(j:Nat)(hj:j<=bs.length)(vh:VH)(vn:Nat):
  aE Tryz.prog X G kS [iD bs,.int .i64 (j:Int),.bool bit] vh vn fun v vh' vn'=>vh'=vh/\vn'=vn/\v=.int .i64 (rkN bs bit j:Int):=by
 have h:=WJ (G:=G) H.toXBit2 bs hb bit j hj vh vn;rw[show rk bs bit j=rkN bs bit j by unfold rk rkN;rfl] at h
 exact h
abbrev sE(bs:List Bool)(j:Nat)(bit:Bool)(lo hi:Nat)(tl:aH):aH:=(0,iD bs)::(1,.int .i64 (j:Int))::(2,.bool bit)::(7,.int .i64 (lo:Int))::(8,.int .i64 (hi:Int))::tl
theorem DH(H:XBit3 X)(bs:List Bool)(hb:bs.length<=4194304)(j:Nat)(bit:Bool)(vh:VH)(vn:Nat)(Q:FQ)(hQ:∀lo t,lo<=bs.length / 64->rkN bs bit (64*lo)<=j->(lo=bs.length / 64\/j<rkN bs bit (64*(lo+1)))->Q (.exit 0) (sE bs j bit lo lo [(30,.bool t)]) vh vn):∀(m lo hi:Nat),hi-lo=m->lo<=hi->hi<=bs.length / 64->rkN bs bit (64*lo)<=j->(hi=bs.length / 64\/j<rkN bs bit (64*(hi+1)))->
  aC Tryz.prog X G (.loop LO) (sE bs j bit lo hi []) vh vn Q
 |m,lo,hi,hm,h0,h1,h2,h3=>by
  refine aC.round ?_
  conv=>whnf
  refine aB.mk (fun c1=>?_) (fun c1=>?_)
  ·have c1':lo<hi:=by have:=of_decide_eq_true c1;omega
   have em:wr .i64 ((wr .i64 (wr .i64 ((lo:Int)+(hi:Int))+1)).tdiv 2)=(((lo+hi+1) / 2:Nat):Int):=by
    have e1:wr .i64 ((lo:Int)+(hi:Int))=((lo+hi:Nat):Int):=by rw[aF]<;>omega
    have e2:wr .i64 (((lo+hi:Nat):Int)+1)=((lo+hi+1:Nat):Int):=by rw[aF]<;>omega
    have e3:((lo+hi+1:Nat):Int).tdiv 2=(((lo+hi+1) / 2:Nat):Int):=rfl;rw[e1,e2,e3,aF]<;>omega
   obtain⟨md,hmd⟩:∃md,md=(lo+hi+1) / 2:=⟨_,rfl⟩;have e64:wr .i64 ((md:Int)*64)=((64*md:Nat):Int):=by rw[aF]<;>omega
   have e4:wr .i64 ((md:Int)-1)=((md-1:Nat):Int):=by rw[aF]<;>omega
   conv=>whnf
   repeat (refine Owe.mk (by decide) ?_;conv=>whnf)
   rw[em,<-hmd,e64];refine (rN H bs hb bit (64*md) (by omega) vh vn).mono fun v vh' vn' he=>?_
   obtain⟨e1,e2,e3⟩:=he;rw[e1,e2,e3];clear e1 e2 e3
   conv=>whnf
   refine aB.mk (fun c2=>?_) (fun c2=>?_)
   ·have c2':rkN bs bit (64*md)<=j:=by have:=of_decide_eq_true c2;omega
    conv=>whnf
    exact DH H bs hb j bit vh vn Q hQ (hi-md) md hi rfl (by omega) h1 c2' h3
   ·have c2':j<rkN bs bit (64*md):=by have:=of_decide_eq_false c2;omega
    conv=>whnf
    rw[e4];exact DH H bs hb j bit vh vn Q hQ (md-1-lo) lo (md-1) rfl (by omega) (by omega) h2 (.inr (by rw[show md-1+1=md by omega];exact c2'))
  ·have c1':lo=hi:=by have:=of_decide_eq_false c1;omega
   subst c1'
   conv=>whnf
   exact hQ lo _ h1 h2 h3
termination_by m=>m
decreasing_by all_goals omega
theorem J7(lo:Nat)(vh:VH)(vn:Nat)(c:Nat)(hc:c<=64)(Q:FQ)(W:List Bool)(hQ:∀(L:List Bool) i t,L.length<=64->wd L≠0->cX L=bL W c->Q (.exit 2) [(7,.int .i64 (lo:Int)),(10,.int .u64 (wd L:Int)),(60,.int .i64 (c:Int)),(61,.int .i64 i),(62,.bool t)] vh vn):∀(m i:Nat),c-i=m->i<=c->∀(L:List Bool),L.length<=64->c-i<aN L->bL L (c-i)=bL W c->
  aC Tryz.prog X G (.loop LP) [(7,.int .i64 (lo:Int)),(10,.int .u64 (wd L:Int)),(60,.int .i64 (c:Int)),(61,.int .i64 (i:Int))] vh vn Q
 |m,i,hm,hi,L,hL,hlt,hn=>by
  have h0:wd L≠0:=fun h=>by have:=(N6 L).2 h;omega
  have hw:wd L<18446744073709551616:=by have:=xT L;exact Nat.lt_of_lt_of_le this (Nat.pow_le_pow_right (by decide) hL)
  refine aC.round ?_
  conv=>whnf
  refine aB.mk (fun c1=>?_) (fun c1=>?_)
  ·have c1':i<c:=by have:=of_decide_eq_true c1;omega
   have e:wr .i64 ((i:Int)+1)=((i+1:Nat):Int):=by rw[aF]<;>omega
   have es:wr .u64 ((wd L:Int)-1)=((wd L-1:Nat):Int):=by rw[dA]<;>omega
   have ec:wr .u64 (.ofNat ((toU .u64 (wd L:Int)).land (toU .u64 (wr .u64 ((wd L:Int)-1)))))=(wd (dF L):Int):=by rw[es,UB L h0];exact mI hw (by omega)
   conv=>whnf
   rw[ec,e];refine J7 lo vh vn c hc Q W hQ (m-1) (i+1) (by omega) (by omega) (dF L) (by rw[NW];exact hL) (by rw[NZ];omega) ?_
   rw[RF L (c-(i+1)) (by omega),show c-(i+1)+1=c-i by omega]
   exact hn
  ·have c1':i=c:=by have:=of_decide_eq_false c1;omega
   subst c1';rw[Nat.sub_self] at hn hlt
   conv=>whnf
   exact hQ L _ _ hL h0 (by rw[<-hn,RG L hlt])
termination_by m=>m
decreasing_by all_goals omega
theorem aFe{w:Nat}(hw:w<18446744073709551616):wr .u64 (.ofNat (pw .u64-1-toU .u64 (w:Int)))=((18446744073709551615-w:Nat):Int):=by rw[xQ hw];show wr .u64 ((18446744073709551616-1-w:Nat):Int)=_;rw[dA]<;>omega
def lY(bs:List Bool)(bit:Bool)(k:Nat):List Bool:=if bit=true then aZ bs k else (aZ bs k).map not++List.replicate (64-(aZ bs k).length) true
theorem aJl(bs:List Bool)(bit:Bool)(k:Nat):(lY bs bit k).length<=64:=by
 have:=pG bs k;unfold lY;split
 ·exact this
 ·rw[List.length_append,List.length_map,List.length_replicate];omega
theorem aJk(bs:List Bool)(bit:Bool)(k:Nat):∃E,lY bs bit k=cK bs bit k++E:=by
 unfold lY cK;split
 ·exact⟨[],by simp⟩
 ·exact⟨_,rfl⟩
theorem aJm(bs:List Bool)(k:Nat):18446744073709551615-wd (aZ bs k)=wd (lY bs false k):=by
 have h:=IK (aZ bs k) (64-(aZ bs k).length);have hl:=pG bs k;rw[show (aZ bs k).length+(64-(aZ bs k).length)=64 by omega] at h
 show _=wd ((aZ bs k).map not++List.replicate (64-(aZ bs k).length) true);omega
structure DG(bs:List Bool)(bit:Bool)(j p:Nat):Prop where
 lt:p<bs.length
 at_:bs[p]? =some bit
 rk:rkN bs bit p=j
set_option maxHeartbeats 1000000 in
theorem W4(H:XBit3 X)(hG:G jG=some tzL)(bs:List Bool)(hb:bs.length<=4194304)(j:Nat)(bit:Bool)(hj:j<rkN bs bit bs.length)(vh:VH)(vn:Nat):
  aE Tryz.prog X G uB [iD bs,.int .i64 (j:Int),.bool bit] vh vn fun v vh' vn'=>vh'=vh/\vn'=vn/\∃p:Nat,v=.int .i64 (p:Int)/\DG bs bit j p:=by
 have hrl:=SX bs bit bs.length;apply QF.run H.sel
 conv=>whnf
 refine (t8 H.toXBit2 bs vh vn).mono fun v vh' vn' he=>?_;obtain⟨e1,e2,e3⟩:=he;rw[e1,e2,e3];clear e1 e2 e3
 conv=>whnf
 refine (rN H bs hb bit bs.length (Nat.le_refl _) vh vn).mono fun v vh' vn' he=>?_;obtain⟨e1,e2,e3⟩:=he;rw[e1,e2,e3];clear e1 e2 e3
 conv=>whnf
 refine aB.mk (fun c1=>?_) (fun c1=>?_)
 ·exfalso;have:=of_decide_eq_true c1;omega
 ·have hpl:Int.ofNat ((fT bs (bs.length / 64+1)).map lB).length=((bs.length / 64+1:Nat):Int):=by simp[G6]
  have hhi:wr .i64 (((bs.length / 64+1:Nat):Int)-1)=((bs.length / 64:Nat):Int):=by rw[aF]<;>omega
  conv=>whnf
  rw[hpl,hhi];refine DH H bs hb j bit vh vn _ (fun lo t h1 h2 h3=>?_) (bs.length / 64) 0 (bs.length / 64) rfl (Nat.zero_le _) (Nat.le_refl _) (by rw[Nat.mul_zero,aIq];omega) (.inl rfl)
  have hlo:64*lo<=bs.length:=by omega
  have h4:j<rkN bs bit (min (64*lo+64) bs.length):=by
   rcases h3 with h3|h3
   ·rw[show min (64*lo+64) bs.length=bs.length by omega];exact hj
   ·by_cases hm:64*lo+64<=bs.length
    ·rw[Nat.min_eq_left hm,show 64*lo+64=64*(lo+1) by omega];exact h3
    ·rw[Nat.min_eq_right (by omega)];exact hj
  obtain⟨q1,q2,q3,q4⟩:=aIu bs bit lo j hlo h2 h4;have hcw:=mO (cK bs bit lo);rw[IM] at hcw;have hwl:=pG bs lo;obtain⟨E,hE⟩:=aJk bs bit lo;have hcS:j-rkN bs bit (64*lo)<aN (lY bs bit lo):=by rw[hE,AC];omega
  have hnS:bL (lY bs bit lo) (j-rkN bs bit (64*lo))=bL (cK bs bit lo) (j-rkN bs bit (64*lo)):=by rw[hE];exact GW _ _ _ q1
  have e64:wr .i64 ((lo:Int)*64)=((64*lo:Nat):Int):=by rw[aF]<;>omega
  have ecs:wr .i64 ((j:Int)-(rkN bs bit (64*lo):Int))=((j-rkN bs bit (64*lo):Nat):Int):=by rw[aF]<;>omega
  conv=>whnf
  refine (CC H.toXBit2 bs lo h1 vh vn).mono fun v vh' vn' he=>?_;obtain⟨e1,e2,e3⟩:=he;rw[e1,e2,e3];clear e1 e2 e3;have fin:∀(L:List Bool) (i:Int) (tt:Bool),L.length<=64->wd L≠0->cX L=bL (lY bs bit lo) (j-rkN bs bit (64*lo))->aE Tryz.prog X G qY [.int .u64 (wd L:Int)] vh vn fun v vh' vn'=>vh'=vh/\vn'=vn/\v=.int .i64 ((bL (cK bs bit lo) (j-rkN bs bit (64*lo)):Nat):Int):=fun L i tt hL h0 hf=>by have h:=aJ9 (X:=X) H.tz hG L hL h0 vh vn;rw[hf,hnS] at h;exact h
  have esum:wr .i64 (((64*lo:Nat):Int)+((bL (cK bs bit lo) (j-rkN bs bit (64*lo)):Nat):Int))=((64*lo+bL (cK bs bit lo) (j-rkN bs bit (64*lo)):Nat):Int):=by rw[aF]<;>omega
  have hc64:j-rkN bs bit (64*lo)<=64:=by omega
  have l1:=fun Q hQ=>J7 (X:=X) (G:=G) lo vh vn (j-rkN bs bit (64*lo)) hc64 Q (lY bs bit lo) hQ (j-rkN bs bit (64*lo)) 0 rfl (Nat.zero_le _) (lY bs bit lo) (aJl bs bit lo) hcS rfl;have hat:DG bs bit j (64*lo+bL (cK bs bit lo) (j-rkN bs bit (64*lo))):=⟨q2,q3,q4⟩;generalize bL (cK bs bit lo) (j-rkN bs bit (64*lo))=t0 at *;clear hE hnS hcS q1 q2 q3 q4 hcw h4 h3;cases bit
  all_goals
   conv=>whnf
   first
    |rw[aFe (BY bs lo),aJm bs lo]
    |skip
   conv=>whnf
   rw[e64];refine (rN H bs hb _ (64*lo) hlo vh vn).mono fun v vh' vn' he=>?_;obtain⟨e1,e2,e3⟩:=he;rw[e1,e2,e3];clear e1 e2 e3
   conv=>whnf
   rw[ecs];refine l1 _ fun L i tt hL h0 hf=>?_
   conv=>whnf
   rw[e64];refine (fin L i tt hL h0 hf).mono fun v vh' vn' he=>?_;obtain⟨e1,e2,e3⟩:=he;rw[e1,e2,e3];clear e1 e2 e3
   conv=>whnf
   rw[esum];exact Get.mk _ (fun _ _ h=>h) ⟨rfl,rfl,_,rfl,hat⟩
end
end Go.Proofs.YtjoadepfokpcoaaGreatDoor
open Go Go.Ev Go.VL Go.Num
