/- What laws of documents (DocSides, DocUp) rest on; no condition. -/
import Derived.ChangeSlices
import Derived.OpenShut
import Derived.Lib.LaidU8
import Derived.LaidSub
import Derived.Test.YtjoadepfokpcoaaGreatDoorDuF
set_option linter.unusedSimpArgs false
set_option linter.unusedVariables false
set_option linter.constructorNameAsVariable false
set_option linter.unnecessarySimpa false
open Go Go.Ev Go.VL Go.Num
namespace Go.Proofs.YtjoadepfokpcoaaGreatDoor
section
attribute [local irreducible] aO fX jE
variable {X : Ovr} {G : Gt}
structure XWave(X:Ovr):Prop extends XPool X where
 wnew:X zX=none
def b9(k s:Nat):Bool:=decide (s / 2^k%2=1)
def oG:Nat->List Nat->List (List Bool)
 |0,_=>[]
 |k+1,l=>l.map (b9 k)::oG k (l.filter (fun s=>!b9 k s)++l.filter (b9 k))
def tH(bs:List Bool):List V:=[.ifc EA (iD bs)]
theorem aCf(bs:List Bool):(tH bs).length=1:=rfl
theorem MJ(l:List Nat)(hl:l.length<=1048576)(sg:Nat)(hs:∀s∈l,s<sg)(c:Option Nat)(vh:VH)(vn:Nat)(Q:FQ)
  (hQ:∀i t,Q (.exit 0) [(0,.sl 1 (l.map bL) c),(1,.int .i64 (sg:Int)),(23,.sl 1 (l.map bL) c),(24,.int .i64 (l.length:Int)),(25,.int .i64 i),(26,.bool t)] vh vn):
  ∀(m i:Nat),l.length-i=m->i<=l.length->
  aC Tryz.prog X G (.loop PE) [(0,.sl 1 (l.map bL) c),(1,.int .i64 (sg:Int)),(23,.sl 1 (l.map bL) c),(24,.int .i64 (l.length:Int)),(25,.int .i64 (i:Int))] vh vn Q
 |m,i,hm,hi=>by
  refine aC.round ?_
  conv=>whnf
  refine aA.mk (fun c1=>?_) (fun c1=>?_)
  ·have hlt:i<l.length:=by have:=of_decide_eq_true c1;omega
   have e:wr .i64 ((i:Int)+1)=((i+1:Nat):Int):=by rw[aF]<;>omega
   have hsi:=hs _ (List.getElem_mem hlt)
   conv=>whnf
   refine Get.mk (i,bL l[i]) ⟨rfl,by simp[hlt]⟩ ?_
   conv=>whnf
   refine aA.mk (fun h=>absurd (of_decide_eq_true (show decide ((sg:Int)<=(l[i]:Int))=true from h)) (by omega)) (fun _=>?_)
   conv=>whnf
   rw[e];exact MJ l hl sg hs c vh vn Q hQ (m-1) (i+1) (by omega) (by omega)
  ·have hlt:i=l.length:=by have:=of_decide_eq_false c1;omega
   conv=>whnf
   exact hQ _ _
termination_by m=>m
decreasing_by all_goals omega
def SlN{α:Type}(enc:α->List V)(ty:TypeId)(lo:Nat)(vh:VH)(nx:Nat)(v:V)(xs:List α):Prop:=(v=.nils/\xs=[])\/∃b,lo<=b/\b<nx/\v=.msl b 0 xs.length 1 none/\vh b=some (.cells (xs.map enc).flatten ty 0 false)
section
variable {α : Type} {enc : α → List V} {ty : TypeId} {lo : Nat} {vh vh' : VH} {nx nx' : Nat} {v : V} {xs : List α}
theorem SlN.toIn(A:SlN enc ty lo vh nx v xs):bC enc 1 ty lo vh nx v xs:=by
 rcases A with⟨h1,h2⟩|h
 ·exact .inl ⟨.inl h1,h2⟩
 ·exact .inr h
theorem SlN.mono(A:SlN enc ty lo vh nx v xs)(hn:nx<=nx')(hv:∀c,lo<=c->c<nx->aY v c->vh' c=vh c):SlN enc ty lo vh' nx' v xs:=by
 rcases A with h|⟨b,h1,h2,h3,h4⟩
 ·exact .inl h
 ·exact .inr ⟨b,h1,by omega,h3,(hv b h1 h2 (by rw[h3];exact rfl)).trans h4⟩
theorem SlN.lt(A:SlN enc ty lo vh nx v xs)(c:Nat)(h:aY v c):lo<=c/\c<nx:=by
 rcases A with⟨rfl,_⟩|⟨b,h1,h2,rfl,_⟩
 ·exact h.elim
 ·have:c=b:=h;omega
theorem SlN.appL{by':Nat}(hl:∀a,(enc a).length=1)(A:SlN enc ty lo vh nx v xs)(hlo:lo<=nx)(ys:List α)(hroom:room by' (xs.length+ys.length)){env:aH}{k:V->aH->VH->Nat->Prop}
  (hk:∀v' vh' nx',SlN enc ty lo vh' nx' v' (xs++ys)->nx<=nx'->(∀c,c<nx->¬aY v c->vh' c=vh c)->(∀c,aY v' c->aY v c\/nx<=c)->k v' env vh' nx'):aO 1 by' ty v (ys.map enc).flatten ys.length env vh nx k:=by
 by_cases h0:ys=[]
 ·subst h0;rw[List.append_nil] at hk;rcases A with⟨rfl,rfl⟩|⟨d,d1,d2,rfl,d3⟩
  ·simp only[aO];exact hk _ _ _ (.inl ⟨rfl,rfl⟩) (Nat.le_refl _) (fun _ _ _=>rfl) fun _ h=>.inl h
  ·simp only[aO,aR.2 (rfl:(1:Nat)=1),cond_true];exact hk _ _ _ (.inr ⟨d,d1,d2,rfl,d3⟩) (Nat.le_refl _) (fun _ _ _=>rfl) fun _ h=>.inl h
 ·have hs:Nat.beq ys.length 0=false:=dY.2 (fun h=>h0 (List.length_eq_zero_iff.1 h));have hp:0<ys.length:=List.length_pos_iff.2 h0;rcases A with⟨rfl,rfl⟩|⟨d,d1,d2,rfl,d3⟩
  ·simp only[aO,hs];exact .no rfl ⟨by simpa using hroom,hk _ _ _ (.inr ⟨nx,hlo,Nat.lt_succ_self _,by simp,by rw[aL];simp⟩) (Nat.le_succ _) (fun c hc _=>aG (by omega)) fun c h=>.inr (by have:c=nx:=h;omega)⟩
  ·simp only[aO,hs,aR.2 (rfl:(1:Nat)=1),cond_true];refine .no rfl (Get.mk (_,_,_,_) d3 ?_);simp only;have hfl:=iI hl xs;have hn:Nat.ble (xs.length+ys.length) (((xs.map enc).flatten.length-0) / 1)=false:=by
    rw[hfl];cases hb:Nat.ble (xs.length+ys.length) ((xs.length*1-0) / 1) with
    |false=>rfl
    |true=>have:=bD.1 hb;omega
   rw[hn];refine .no rfl ⟨⟨trivial,by rw[hfl];exact Nat.le_refl _,Nat.zero_le _,trivial,hroom⟩,?_⟩
   refine hk _ _ _ (.inr ⟨nx,hlo,Nat.lt_succ_self _,by simp,?_⟩) (Nat.le_succ _) (fun c hc hd=>(aG (by omega)).trans (b5 hd)) fun c h=>.inr (by have:c=nx:=h;omega)
   rw[aL,List.take_of_length_le (by rw[hfl];exact Nat.le_refl _)]
   simp[fzOff]
theorem SlN.app0{by':Nat}(hl:∀a,(enc a).length=1)(A:SlN enc ty lo vh nx v xs)(hlo:lo<=nx){ys:List α}(hy:ys=[])(hroom:room by' (xs.length+ys.length)){env:aH}{k:V->aH->VH->Nat->Prop}
  (hk:∀v' vh' nx',SlN enc ty lo vh' nx' v' (xs++ys)->nx<=nx'->(∀c,c<nx->¬aY v c->vh' c=vh c)->(∀c,aY v' c->aY v c\/nx<=c)->k v' env vh' nx'):aO 1 by' ty v [] 0 env vh nx k:=by
 subst hy;exact A.appL hl hlo [] hroom hk
end
def gZ(k:Nat)(l:List Nat)(i:Nat):List Bool:=(l.take i).map (b9 k)++List.replicate (l.length-i) false
theorem UY(k:Nat)(l:List Nat)(i:Nat)(hi:i<=l.length):(gZ k l i).length=l.length:=by simp only[gZ,List.length_append,List.length_map,List.length_take,List.length_replicate];omega
theorem UZ(k:Nat)(l:List Nat)(i:Nat)(hi:i<l.length):(gZ k l i).set i (b9 k l[i])=gZ k l (i+1):=by
 unfold gZ;rw[List.set_append_right _ _ (by rw[List.length_map,List.length_take];omega),<-List.take_append_getElem hi,List.map_append,show l.length-i=(l.length-(i+1))+1 by omega,List.replicate_succ]
 simp only[List.length_map,List.length_take];rw[show i-min i l.length=0 by omega,List.set_cons_zero,List.append_assoc]
 rfl
theorem ZZ(k s:Nat)(hs:s<9223372036854775808):decide (wr .i64 (.ofNat (Nat.land (toU .i64 ((s / 2^k:Nat):Int)) (toU .i64 1)))=1)=b9 k s:=by
 have hd:s / 2^k<=s:=Nat.div_le_self _ _;rw[yD (by omega),show toU .i64 1=1 from rfl]
 show decide (wr .i64 ((s / 2^k&&& 1:Nat):Int)=1)=_;have h1:s / 2^k&&& 1=s / 2^k%2:=Nat.and_one_is_mod _;rw[h1,aF (by omega) (by omega)]
 unfold b9;exact decide_eq_decide.2 (by omega)
theorem ML(l:List Nat)(hl:l.length<=1048576)(hs:∀s∈l,s<256)(c:Option Nat)(k:Nat)(hk:k<64)(b br lo:Nat)(hbr:br<lo)(vh0:VH)(Q:FQ)
  (hQ:∀zv ov vh' vn' i t,SlN bL cR lo vh' vn' zv (l.filter fun s=>!b9 k s)->SlN bL cR lo vh' vn' ov (l.filter (b9 k))->(∀d,aY zv d->¬aY ov d)->vh' br=some (.cells ((l.map (b9 k)).map bS).flatten fG 0 false)->lo<=vn'->(∀d,d<lo->d≠br->vh' d=vh0 d)->Q (.exit 4) [(8,.ptr b 0),(9,.int .i64 (k:Int)),(10,.msl br 0 l.length 1 (some l.length)),(11,zv),(12,ov),(57,.sl 1 (l.map bL) c),(58,.int .i64 (l.length:Int)),(59,.int .i64 i),(60,.bool t)] vh' vn'):
  ∀(m i:Nat),l.length-i=m->i<=l.length->∀(zv ov:V) (vh:VH) (vn:Nat),SlN bL cR lo vh vn zv ((l.take i).filter fun s=>!b9 k s)->SlN bL cR lo vh vn ov ((l.take i).filter (b9 k))->(∀d,aY zv d->¬aY ov d)->vh br=some (.cells ((gZ k l i).map bS).flatten fG 0 false)->lo<=vn->(∀d,d<lo->d≠br->vh d=vh0 d)->
  aC Tryz.prog X G (.loop PF) [(8,.ptr b 0),(9,.int .i64 (k:Int)),(10,.msl br 0 l.length 1 (some l.length)),(11,zv),(12,ov),(57,.sl 1 (l.map bL) c),(58,.int .i64 (l.length:Int)),(59,.int .i64 (i:Int))] vh vn Q
 |m,i,hm,hi,zv,ov,vh,vn,Z,O,hd,R,hlo,F=>by
  refine aC.round ?_;by_cases hlt:i<l.length
  ·have e:wr .i64 ((i:Int)+1)=((i+1:Nat):Int):=by rw[aF]<;>omega
   have hsi:=hs _ (List.getElem_mem hlt);have ek:wr .u64 (k:Int)=(k:Int):=by rw[eF]<;>omega
   have ebl:(bif Nat.blt k (kbits .i64) then k else kbits .i64)=k:=by rw[show Nat.blt k (kbits .i64)=true from cF.2 (by show k<64;omega)];rfl
   have hrl:=UY k l i hi;have hrl1:=UY k l (i+1) hlt;have hrs:setSeg ((gZ k l i).map bS).flatten (0+i*1) [V.bool (b9 k l[i])]=((gZ k l (i+1)).map bS).flatten:=by rw[show[V.bool (b9 k l[i])]=bS (b9 k l[i]) from rfl,RR iE _ _ (by omega),UZ k l i hlt]
   have hrg:((gZ k l (i+1)).map bS).flatten[0+i*1]? =some (.bool (b9 k l[i])):=by
    have h1:=o7 iE (gZ k l (i+1)) i 0 (by omega) (by decide)
    rw[show i*1+0=0+i*1 by omega] at h1
    rw[h1];have h2:(gZ k l (i+1))[i]=b9 k l[i]:=by have:=UZ k l i hlt;simp only[<-this,List.getElem_set_self]
    rw[h2];rfl
   have htk:l.take (i+1)=l.take i++[l[i]]:=(List.take_append_getElem hlt).symm;have hfl:∀p:Nat->Bool,((l.take i).filter p).length<=1048576:=fun p=>Nat.le_trans (List.length_filter_le _ _) (by rw[List.length_take];omega)
   have nxt:=fun zv ov vh vn=>ML l hl hs c k hk b br lo hbr vh0 Q hQ (m-1) (i+1) (by omega) (by omega) zv ov vh vn
   rw[htk,List.filter_append,List.filter_append] at nxt;rcases id Z with⟨rfl,hz0⟩|⟨bz,bz1,bz2,rfl,bz4⟩<;>rcases id O with⟨rfl,ho0⟩|⟨bo,bo1,bo2,rfl,bo4⟩
   all_goals
    conv=>whnf
    refine aA.mk (fun _=>?_) (fun h=>absurd (of_decide_eq_false h) (by omega))
    conv=>whnf
    refine Get.mk (i,bL l[i]) ⟨rfl,by simp[hlt]⟩ ?_
    conv=>whnf
    rw[ek];refine Get.mk k rfl ?_
    conv=>whnf
    rw[ebl,nY,ZZ k _ (by omega)]
    refine Get.mk i ⟨rfl,hlt⟩ ?_
    conv=>whnf
    refine Get.mk (_,_,_,_) R ?_
    conv=>whnf
    refine⟨⟨by rw[iI iE];show 0+i*1+1<=_;omega,Nat.zero_le _⟩,?_⟩
    rw[hrs];generalize hv:aJ vh br _=vh1;have R1:vh1 br=some (.cells ((gZ k l (i+1)).map bS).flatten fG 0 false):=hv▸aL;have F1:∀d,d≠br->vh1 d=vh d:=fun d hd=>hv▸aG hd;clear hv;have Z1:=Z.mono (vh':=vh1) (Nat.le_refl _) fun d d1 d2 d3=>F1 d (by omega)
    have O1:=O.mono (vh':=vh1) (Nat.le_refl _) fun d d1 d2 d3=>F1 d (by omega)
    conv=>whnf
    refine Get.mk i ⟨rfl,hlt⟩ ?_
    conv=>whnf
    refine Get.mk (_,_,_,_) R1 ?_
    conv=>whnf
    refine Get.mk _ hrg ?_;cases hb:b9 k l[i] with
    |true=>
     conv=>whnf
     refine bC.app' (enc:=bL) gT (by decide) O1.toIn hlo l[i] ⟨by have:=hfl (b9 k);omega,by have:=hfl (b9 k);show _<9223372036854775808;omega⟩ fun vh2 h2 f2=>?_
     conv=>whnf
     rw[e];refine nxt _ _ vh2 (vn+1) ?_ ?_ ?_ ?_ (by omega) ?_
     ·rw[show[l[i]].filter (fun s=>!b9 k s)=[] by simp[hb],List.append_nil]
      exact Z1.mono (Nat.le_succ _) fun d d1 d2 d3=>f2 d (by omega) (hd d d3)
     ·rw[show[l[i]].filter (b9 k)=[l[i]] by simp[hb]]
      exact .inr ⟨vn,hlo,Nat.lt_succ_self _,rfl,h2⟩
     ·intro d d1 d2;have:=(Z1.lt d d1).2;have:d=vn:=d2;omega
     ·exact (f2 br (by omega) fun h=>by have:=(O1.lt br h).1;omega).trans R1
     ·exact fun d d1 d2=>(f2 d (by omega) fun h=>by have:=(O1.lt d h).1;omega).trans ((F1 d d2).trans (F d d1 d2))
    |false=>
     conv=>whnf
     refine bC.app' (enc:=bL) gT (by decide) Z1.toIn hlo l[i] ⟨by have:=hfl (fun s=>!b9 k s);omega,by have:=hfl (fun s=>!b9 k s);show _<9223372036854775808;omega⟩ fun vh2 h2 f2=>?_
     conv=>whnf
     rw[e];refine nxt _ _ vh2 (vn+1) ?_ ?_ ?_ ?_ (by omega) ?_
     ·rw[show[l[i]].filter (fun s=>!b9 k s)=[l[i]] by simp[hb]]
      exact .inr ⟨vn,hlo,Nat.lt_succ_self _,rfl,h2⟩
     ·rw[show[l[i]].filter (b9 k)=[] by simp[hb],List.append_nil]
      exact O1.mono (Nat.le_succ _) fun d d1 d2 d3=>f2 d (by omega) fun h=>hd d h d3
     ·intro d d1 d2;have:=(O1.lt d d2).2;have:d=vn:=d1;omega
     ·exact (f2 br (by omega) fun h=>by have:=(Z1.lt br h).1;omega).trans R1
     ·exact fun d d1 d2=>(f2 d (by omega) fun h=>by have:=(Z1.lt d h).1;omega).trans ((F1 d d2).trans (F d d1 d2))
  ·have hlt:i=l.length:=by omega
   subst hlt;rw[List.take_length] at Z O;rw[gZ,List.take_length,Nat.sub_self,List.replicate_zero,List.append_nil] at R;rcases id Z with⟨rfl,hz0⟩|⟨bz,bz1,bz2,rfl,bz4⟩<;>rcases id O with⟨rfl,ho0⟩|⟨bo,bo1,bo2,rfl,bo4⟩
   all_goals
    conv=>whnf
    refine aA.mk (fun h=>absurd (of_decide_eq_true h) (by omega)) (fun _=>?_)
    conv=>whnf
    exact hQ _ _ vh vn _ _ Z O hd R hlo F
termination_by m=>m
decreasing_by all_goals omega
theorem T3(p:Nat->Bool):∀l:List Nat,((l.filter fun s=>!p s)++l.filter p).length=l.length
 |[]=>rfl
 |a::l=>by have:=T3 p l;rw[List.length_append] at this ⊢;cases h:p a<;>simp[List.filter_cons,h]<;>omega
theorem aHB(p:Nat->Bool)(l:List Nat)(q:Nat->Prop)(h:∀s∈l,q s):∀s∈(l.filter fun s=>!p s)++l.filter p,q s:=fun s hs=>by rcases List.mem_append.1 hs with hs|hs<;>exact h s (List.mem_filter.1 hs).1
def WB(vh:VH)(b:Nat)(rv:V)(n sg:Nat)(st:Int):Prop:=vh b=some (.cells [rv,.int .i64 (n:Int),.int .i64 (sg:Int),.int .i64 st] MB 0 false)
theorem MK(H:XWave X)(b n sg:Nat)(hn:n<=4194304)(hn2:n<=1048576)(vh0:VH)(Q:FQ)(A:List (List Bool))(hA1:A.length<=64)
  (hQ:∀rv vh' vn' l c t,WB vh' b rv n sg 0->SlN tH gG (b+1) vh' vn' rv A->b<vn'->(∀d,d<b->vh' d=vh0 d)->Q (.exit 2) [(0,.sl 1 l c),(8,.ptr b 0),(9,.int .i64 (-1)),(51,.bool t)] vh' vn'):
  ∀(m:Nat),m<=64->∀(l:List Nat) (c:Option Nat) (rv:V) (rows:List (List Bool)) (vh:VH) (vn:Nat),l.length=n->(∀s∈l,s<256)->rows++oG m l=A->WB vh b rv n sg 0->SlN tH gG (b+1) vh vn rv rows->b<vn->(∀d,d<b->vh d=vh0 d)->
  aC Tryz.prog X G (.loop wB) [(0,.sl 1 (l.map bL) c),(8,.ptr b 0),(9,.int .i64 ((m:Int)-1))] vh vn Q
 |0,_,l,c,rv,rows,vh,vn,hl,hs,hA,B,R,hb,F=>by
  rw[oG,List.append_nil] at hA;subst hA;refine aC.round ?_
  conv=>whnf
  exact hQ rv vh vn _ _ _ B R hb F
 |m+1,hm,l,c,rv,rows,vh,vn,hl,hs,hA,B,R,hb,F=>by
  have hlen:Int.ofNat (l.map bL).length=(n:Int):=by simp[hl]
  have e0:((m+1:Nat):Int)-1=(m:Int):=by omega
  have e1:wr .i64 ((m:Int)-1)=(m:Int)-1:=by rw[aF]<;>omega
  rw[e0];refine aC.round ?_
  conv=>whnf
  rw[hlen];refine Get.mk n rfl ?_;refine Get.mk n ⟨rfl,Nat.le_refl _,by omega,by show n<9223372036854775808;omega⟩ ?_
  conv=>whnf
  rw[hlen];subst hl;generalize hv:aJ vh vn _=vh1;have R1:vh1 vn=some (.cells ((gZ m l 0).map bS).flatten fG 0 false):=by rw[<-hv,aL,CG,gZ,List.take_zero,List.map_nil,List.nil_append,Nat.sub_zero,GL]
  have F1:∀d,d≠vn->vh1 d=vh d:=fun d hd=>by rw[<-hv];exact aG hd
  clear hv;refine ML l hn2 hs c m (by omega) b vn (vn+1) (Nat.lt_succ_self _) vh1 _ (fun zv ov vh5 n5 i t Z5 O5 d5 R5 g5 F5=>?_) _ 0 rfl (Nat.zero_le _) .nils .nils vh1 (vn+1) (.inl ⟨rfl,rfl⟩) (.inl ⟨rfl,rfl⟩) (fun _ h=>h.elim) R1 (Nat.le_refl _) fun _ _ _=>rfl
  have hlr:rows.length<=64:=by rw[<-hA,List.length_append] at hA1;omega
  have hpl:=T3 (b9 m) l;have hpm:=aHB (b9 m) l _ hs;rw[oG] at hA;generalize hzs:(l.filter fun s=>!b9 m s)=zs at Z5 hA hpl hpm;generalize hos:l.filter (b9 m)=os at O5 hA hpl hpm;rcases id Z5 with⟨rfl,hz0⟩|⟨bz,bz1,bz2,rfl,bz4⟩<;>rcases id O5 with⟨rfl,ho0⟩|⟨bo,bo1,bo2,rfl,bo4⟩<;>rcases id R with⟨rfl,hr0⟩|⟨bw,bw1,bw2,rfl,bw4⟩
  all_goals
   conv=>whnf
   refine Get.mk (_,_,_,_) R5 ?_
   conv=>whnf
   refine⟨?_,?_⟩
   ·have:=RX iE (by decide) (xs:=l.map (b9 m))
    rw[List.length_map] at this;exact this
   conv=>whnf
   refine Get.mk _ (by have:=eV (xs:=l.map (b9 m)) iE;rw[List.length_map] at this;exact this) ?_
   conv=>whnf
   refine (C5 H.toXBits (l.map (b9 m)) (by rw[List.length_map];exact hn) none _ _).mono fun v vh6 n6 he=>?_
   obtain⟨e4,hF⟩:=he;rw[e4];clear e4;have F6:∀d,d<n5->d≠vn->vh6 d=vh5 d:=fun d d1 d2=>(hF.2 d d1).trans (b5 d2);have g6:=hF.1;clear hF;have B6:WB vh6 b _ l.length sg 0:=(F6 b (by omega) (by omega)).trans ((F5 b (by omega) (by omega)).trans ((F1 b (by omega)).trans B))
   have R6:=R.mono (vh':=vh6) (nx':=n6) (by omega) fun d d1 d2 d3=>(F6 d (by omega) (by omega)).trans ((F5 d (by omega) (by omega)).trans (F1 d (by omega)))
   conv=>whnf
   refine Get.mk (_,_,_,_) B6 ?_
   conv=>whnf
   refine Get.mk _ rfl ?_
   conv=>whnf
   refine bC.app' (enc:=tH) aCf (by decide) R6.toIn (by omega) (l.map (b9 m)) ⟨by omega,by show _<9223372036854775808;omega⟩ fun vh7 h7 f7=>?_
   have B7:=(f7 b (by omega) fun h=>by have:=(R6.lt b h).1;omega).trans B6
   have Z7:=Z5.mono (vh':=vh7) (nx':=n6+1) (by omega) fun d d1 d2 d3=>(f7 d (by omega) fun h=>by have:=(R.lt d h).2;omega).trans (F6 d (by omega) (by omega))
   have O7:=O5.mono (vh':=vh7) (nx':=n6+1) (by omega) fun d d1 d2 d3=>(f7 d (by omega) fun h=>by have:=(R.lt d h).2;omega).trans (F6 d (by omega) (by omega))
   conv=>whnf
   refine Get.mk (_,_,_,_) B7 ?_
   conv=>whnf
   refine⟨⟨(by decide:1<=4),Nat.zero_le _⟩,?_⟩
   conv=>whnf
   generalize hv:aJ vh7 b _=vh8;have B8:WB vh8 b (.msl n6 0 (rows++[l.map (b9 m)]).length 1 none) l.length sg 0:=hv▸aL;have F8:∀d,d≠b->vh8 d=vh7 d:=fun d hd=>hv▸aG hd;clear hv;have Z8:=Z7.mono (vh':=vh8) (Nat.le_refl _) fun d d1 d2 d3=>F8 d (by omega)
   have h8:=(F8 n6 (by omega)).trans h7
   have fin:∀vh9 n9,vh9 b=vh8 b->vh9 n6=vh8 n6->(∀d,d<b->vh9 d=vh8 d)->n6+1<=n9->aC Tryz.prog X G (.loop wB) [(0,.sl 1 ((zs++os).map bL) none),(8,.ptr b 0),(9,.int .i64 ((m:Int)-1))] vh9 n9 Q:=fun vh9 n9 q1 q2 q3 q4=>
    MK H b l.length sg hn hn2 vh0 Q A hA1 hQ m (by omega) (zs++os) none _ (rows++[l.map (b9 m)]) vh9 n9 hpl hpm (by rw[<-hA,List.append_assoc];rfl) (q1.trans B8) (.inr ⟨n6,by omega,by omega,rfl,q2.trans h8⟩) (by omega) fun d hd=>(q3 d hd).trans ((F8 d (by omega)).trans ((f7 d (by omega) fun h=>by have:=(R6.lt d h).1;omega).trans ((F6 d (by omega) (by omega)).trans ((F5 d (by omega) (by omega)).trans ((F1 d (by omega)).trans (F d hd))))))
   have fin2:∀v' vh9 n9,SlN bL cR (vn+1) vh9 n9 v' (zs++os)->n6+1<=n9->(∀c,c<n6+1->(vn+1<=c->n5<=c)->vh9 c=vh8 c)->(∀c,aY v' c->(vn+1<=c/\c<n5)\/n6+1<=c)->(v'=.nils->aC Tryz.prog X G (.loop wB) [(0,.sl 1 [] none),(8,.ptr b 0),(9,.int .i64 ((m:Int)-1))] vh9 n9 Q)/\∀bq,v'=.msl bq 0 (zs++os).length 1 none->aC Tryz.prog X G (.loop wB) [(0,.sl 1 ((zs++os).map bL) none),(8,.ptr b 0),(9,.int .i64 ((m:Int)-1))] (bX vh9 bq) n9 Q:=fun v' vh9 n9 A9 g9 f9 k9=>by
    refine⟨fun hv=>?_,fun bq hv=>?_⟩
    ·have h0:zs++os=[]:=by
      rcases A9 with⟨_,h⟩|⟨_,_,_,h,_⟩
      ·exact h
      ·rw[hv] at h;cases h
     have:=fin vh9 n9 (f9 b (by omega) (by omega)) (f9 n6 (by omega) (by omega)) (fun d hd=>f9 d (by omega) (by omega)) g9
     rw[h0] at this;exact this
    ·have hq:=k9 bq (by rw[hv];rfl)
     exact fin _ n9 ((b5 (by omega)).trans (f9 b (by omega) (by omega))) ((b5 (by omega)).trans (f9 n6 (by omega) (by omega))) (fun d hd=>(b5 (by omega)).trans (f9 d (by omega) (by omega))) g9
   have O8:=O7.mono (vh':=vh8) (Nat.le_refl _) fun d d1 d2 d3=>F8 d (by omega)
   have k8:∀{α:Type} {enc:α->List V} {ty:TypeId} {v:V} {xs:List α},SlN enc ty (vn+1) vh5 n5 v xs->∀c,c<n6+1->(vn+1<=c->n5<=c)->¬aY v c:=fun A c h1 h2 h3=>by have:=A.lt c h3;omega
   clear Z7 O7 B7 R6 f7 F8 F6 F5 F1 R1 R5 h7
   first
    |(refine SlN.app0 gT Z8 (by omega) ho0 ⟨by rw[<-List.length_append,hpl];omega,by rw[<-List.length_append,hpl];show _<9223372036854775808;omega⟩ fun v' vh9 n9 A9 g9 f9 k9=>?_)
    |(
      obtain⟨_,_⟩|⟨bo',bo1',bo2',ho',bo8⟩:=O8
      ·contradiction
      cases ho';refine Get.mk (_,_,_,_) bo8 ?_
      conv=>whnf
      refine⟨by rw[iI gT];show 0+os.length*1<=os.length*1;omega,?_⟩
      rw[show (((os.map bL).flatten.drop 0).take (os.length*1))=(os.map bL).flatten by rw[List.drop_zero,List.take_of_length_le (by rw[iI gT];exact Nat.le_refl _)]]
      refine SlN.appL gT Z8 (by omega) os ⟨by rw[<-List.length_append,hpl];omega,by rw[<-List.length_append,hpl];show _<9223372036854775808;omega⟩ fun v' vh9 n9 A9 g9 f9 k9=>?_)
   all_goals
    obtain⟨t1,t2⟩:=fin2 v' vh9 n9 A9 g9 (fun c c1 c2=>f9 c c1 (k8 Z5 c c1 c2)) (fun c hc=>by
     rcases k9 c hc with h|h
     ·exact .inl (Z5.lt c h)
     ·exact .inr h)
    rcases A9 with⟨rfl,h⟩|⟨bq,q1,q2,rfl,q4⟩
    ·conv=>whnf
     rw[e1];exact t1 rfl
    ·conv=>whnf
     refine Get.mk (_,_,_,_) q4 ?_
     conv=>whnf
     refine⟨gK gT (by decide),?_⟩
     conv=>whnf
     refine Get.mk _ (eV gT) ?_
     conv=>whnf
     rw[e1];exact t2 bq rfl
theorem Y9(H:XWave X)(l:List Nat)(sg:Nat)(h1:1<=sg)(h2:sg<=256)(hl:l.length<=1048576)(hs:∀s∈l,s<sg)(c:Option Nat)(vh:VH)(vn:Nat):
  aE Tryz.prog X G zX [.sl 1 (l.map bL) c,.int .i64 (sg:Int)] vh vn fun v vh' vn'=>v=.tup [.ptr vn 0,.int .i64 0]/\(∃rv,WB vh' vn rv l.length sg 0/\SlN tH gG (vn+1) vh' vn' rv (oG (jE (sg-1)) l))/\vn<vn'/\Frm vh vn vh' vn':=by
 have hlen:Int.ofNat (l.map bL).length=(l.length:Int):=by simp
 apply aFQ.run H.wnew
 conv=>whnf
 refine aA.mk (fun c1=>?_) (fun c1=>?_)
 ·have:=of_decide_eq_true c1;omega
 conv=>whnf
 refine aA.mk (fun h=>absurd (of_decide_eq_true (show decide (1048576<(sg:Int))=true from h)) (by omega)) (fun _=>?_)
 conv=>whnf
 rw[hlen];refine MJ l hl sg hs c vh vn _ (fun i t=>?_) _ 0 rfl (Nat.zero_le _)
 conv=>whnf
 rw[hlen];refine aA.mk (fun c2=>?_) (fun c2=>?_)
 ·have:=of_decide_eq_true c2;omega
 conv=>whnf
 rw[hlen];generalize hv:aJ vh vn _=vh1;have B1:WB vh1 vn .nils l.length sg 0:=hv▸aL;have F1:∀d,d≠vn->vh1 d=vh d:=fun d hd=>hv▸aG hd;clear hv;have e1:wr .u64 (wr .i64 ((sg:Int)-1))=((sg-1:Nat):Int):=by rw[show wr .i64 ((sg:Int)-1)=(sg:Int)-1 by rw[aF]<;>omega,eF]<;>omega
 rw[e1];refine (EC H.toXInt (sg-1) (by omega)).mono fun v vh' vn' he=>?_
 obtain⟨e2,e3,e4⟩:=he;rw[e2,e3,e4];clear e2 e3 e4;have hw:=JS (sg-1);generalize jE (sg-1)=w at hw;have e5:wr .i64 ((w:Int)-1)=(w:Int)-1:=by rw[aF]<;>omega
 conv=>whnf
 rw[e5];have hA:∀(m:Nat) (l:List Nat),(oG m l).length=m:=fun m=>by
  induction m with
  |zero=>exact fun _=>rfl
  |succ m ih=>exact fun l=>by rw[oG,List.length_cons,ih]
 refine MK H vn l.length sg (by omega) hl vh _ (oG w l) (by rw[hA];omega) (fun rv vh2 n2 l2 c2 t B2 R2 g2 F2=>?_) w (by omega) l c .nils [] vh1 (vn+1) rfl (fun s h=>by have:=hs s h;omega) rfl B1 (.inl ⟨rfl,rfl⟩) (Nat.lt_succ_self _) fun d hd=>F1 d (by omega)
 conv=>whnf
 exact Get.mk _ (fun _ _ h=>h) ⟨rfl,⟨rv,B2,R2⟩,g2,by show vn<=n2;omega,F2⟩
theorem XU(H:X vP=none)(vh:VH)(vn:Nat):
  aE Tryz.prog X G vP [.sl 1 [[.int .i64 0],[.int .i64 0],[.int .i64 0],[.int .i64 0]] none] vh vn fun v vh' vn'=>vh'=vh/\vn'=vn/\v=.int .i64 0:=by
 apply aFC.run H
 conv=>whnf
 refine Get.mk (0,[.int .i64 0]) ⟨rfl,rfl⟩ ?_
 conv=>whnf
 refine aC.round ?_
 conv=>whnf
 refine Get.mk (1,[.int .i64 0]) ⟨rfl,rfl⟩ ?_
 conv=>whnf
 refine aC.round ?_
 conv=>whnf
 refine Get.mk (2,[.int .i64 0]) ⟨rfl,rfl⟩ ?_
 conv=>whnf
 refine aC.round ?_
 conv=>whnf
 refine Get.mk (3,[.int .i64 0]) ⟨rfl,rfl⟩ ?_
 conv=>whnf
 refine aC.round ?_
 conv=>whnf
 exact Get.mk _ (fun _ _ h=>h) ⟨rfl,rfl,rfl⟩
end
section
def qU(n:Nd):List V:=[.int .i64 n.k,.int .i64 0,.str n.p,.str n.l,.str n.u,.str [],.nils]
theorem QS(n:Nd):(qU n).length=7:=rfl
theorem tJ(s:List Nat):(bY s).length=1:=rfl
def rA(n:Nd):V:=.agg [.int .i64 n.k,.str n.p,.str n.l,.str n.u]
def x5(n a:Nd):Bool:=decide (n.k=a.k)&&(decide (n.p=a.p)&&(decide (n.l=a.l)&&decide (n.u=a.u)))
def iG:List Nd->Nat->List (V×V)
 |[],_=>[]
 |n::l,i=>(rA n,.ifc cR (.int .i64 (i:Int)))::iG l (i+1)
def i5(n:Nd):List Nd->Nat->Option Nat
 |[],_=>none
 |a::l,i=>if x5 n a=true then some i else i5 n l (i+1)
theorem SI(n a:Nd):jQ (rA n) (rA a)=x5 n a:=by simp only[jQ,rA,lG,eq1,x5,Bool.and_true]
theorem RG(n:Nd):∀(xs:List Nd) (i:Nat),lJ (rA n) (iG xs i)=match i5 n xs i with|some j=>some (.ifc cR (.int .i64 (j:Int)))|none=>none
 |[],_=>rfl
 |a::xs,i=>by
  simp only[iG,lJ,SI,i5];cases x5 n a with
  |true=>rfl
  |false=>exact RG n xs (i+1)
theorem UK(n:Nd):∀(xs:List Nd) (i:Nat),i5 n xs i=none->jV (rA n) (.ifc cR (.int .i64 ((i+xs.length:Nat):Int))) (iG xs i)=iG (xs++[n]) i
 |[],i,_=>rfl
 |a::xs,i,h=>by
  rw[i5] at h;simp only[iG,jV,SI,List.cons_append];cases hs:x5 n a with
  |true=>rw[hs,if_pos rfl] at h;cases h
  |false=>
   rw[hs,if_neg (by decide)] at h
   have:=UK n xs (i+1) h;rw[show i+1+xs.length=i+(a::xs).length by rw[List.length_cons];omega] at this
   rw[this];rfl
theorem tK:∀(xs:List Nd) (i:Nat),∀p∈iG xs i,cW [some .i64,none,none,none] true p.1=true
 |[],_,_,h=>by cases h
 |a::xs,i,p,h=>by
  rcases List.mem_cons.1 h with rfl|h
  ·rfl
  ·exact tK xs (i+1) p h
theorem SB(n:Nd):∀(xs:List Nd) (i j:Nat),i5 n xs i=some j->j<i+xs.length
 |a::xs,i,j,h=>by
  rw[i5] at h;rw[List.length_cons];split at h
  ·cases h;omega
  ·have:=SB n xs (i+1) j h;omega
def iR(xs:List Nd)(n:Nd):List Nd×Nat:=match i5 n xs 0 with
 |some j=>(xs,j)
 |none=>(xs++[n],xs.length)
def cX:List Nd->List Nd->List Nd×List Nat
 |xs,[]=>(xs,[])
 |xs,n::l=>((cX (iR xs n).1 l).1,(iR xs n).2::(cX (iR xs n).1 l).2)
theorem VN(xs:List Nd)(n:Nd):(iR xs n).2<(iR xs n).1.length/\xs.length<=(iR xs n).1.length/\(iR xs n).1.length<=xs.length+1:=by
 unfold iR;cases h:i5 n xs 0 with
 |some j=>have:=SB n xs 0 j h;exact⟨by show j<xs.length;omega,Nat.le_refl _,Nat.le_succ _⟩
 |none=>simp
theorem R3:∀(l xs:List Nd),(cX xs l).2.length=l.length/\xs.length<=(cX xs l).1.length/\(cX xs l).1.length<=xs.length+l.length/\(∀k∈(cX xs l).2,k<(cX xs l).1.length)/\(0<l.length->0<(cX xs l).1.length)
 |[],xs=>⟨rfl,Nat.le_refl _,Nat.le_refl _,nofun,fun h=>absurd h (by simp)⟩
 |n::l,xs=>by
  obtain⟨q1,q2,q3⟩:=VN xs n;obtain⟨h1,h2,h3,h4,h5⟩:=R3 l (iR xs n).1;simp only[cX,List.length_cons];refine⟨by omega,by omega,by omega,fun k hk=>?_,fun _=>by omega⟩
  rcases List.mem_cons.1 hk with rfl|hk
  ·omega
  ·exact h4 k hk
attribute [local irreducible] aO fX jE
variable {X : Ovr} {G : Gt} {PN : List Nat → List Nat → Prop} {PV PT : List Nat → Prop}
theorem dN{α:Type}{enc:α->List V}{es:Nat}{ty:TypeId}{lo:Nat}{vh:VH}{nx:Nat}{v:V}{xs:List α}(A:bC enc es ty lo vh nx v xs)(c:Nat)(h:aY v c):lo<=c/\c<nx:=by
 rcases A with⟨rfl|rfl,_⟩|⟨b,h1,h2,rfl,_⟩
 ·exact h.elim
 ·exact h.elim
 ·have:c=b:=h;omega
structure NS(lo bd bm:Nat)(vh0 vh:VH)(vn:Nat)(tv xv av nv:V)(xs:List Nd)(ks:List Nat)(ss aa:List (List Nat)):Prop where
 hd:vh bd=some (.cells [.nilp,.nilp,.nilp,nv,.nilp] kX 0 false)
 hm:vh bm=some (.map (iG xs 0))
 T:bC bL 1 cR lo vh vn tv ks
 S:bC bY 1 iW lo vh vn xv ss
 A:bC bY 1 iW lo vh vn av aa
 N:bC qU 7 dI lo vh vn nv xs
 dTS:∀c,aY tv c->¬aY xv c
 dTA:∀c,aY tv c->¬aY av c
 dTN:∀c,aY tv c->¬aY nv c
 dSA:∀c,aY xv c->¬aY av c
 dSN:∀c,aY xv c->¬aY nv c
 dAN:∀c,aY av c->¬aY nv c
 hlo:lo<=vn
 hbd:bd<lo
 hbm:bm<lo
 ne:bd≠bm
 fr:∀c,c<lo->c≠bd->c≠bm->vh c=vh0 c
section
variable {lo bd bm : Nat} {vh0 vh vh' : VH} {vn vn' : Nat} {tv xv av nv : V} {xs : List Nd} {ks : List Nat} {ss aa : List (List Nat)}
theorem NS.mono(H:NS lo bd bm vh0 vh vn tv xv av nv xs ks ss aa)(hn:vn<=vn')(hf:∀c,c<vn->vh' c=vh c):NS lo bd bm vh0 vh' vn' tv xv av nv xs ks ss aa where
 hd:=(hf bd (by have:=H.hbd;have:=H.hlo;omega)).trans H.hd
 hm:=(hf bm (by have:=H.hbm;have:=H.hlo;omega)).trans H.hm
 T:=H.T.mono hn fun c _ h _=>hf c h
 S:=H.S.mono hn fun c _ h _=>hf c h
 A:=H.A.mono hn fun c _ h _=>hf c h
 N:=H.N.mono hn fun c _ h _=>hf c h
 dTS:=H.dTS
 dTA:=H.dTA
 dTN:=H.dTN
 dSA:=H.dSA
 dSN:=H.dSN
 dAN:=H.dAN
 hlo:=Nat.le_trans H.hlo hn
 hbd:=H.hbd
 hbm:=H.hbm
 ne:=H.ne
 fr c h1 h2 h3:=(hf c (by have:=H.hlo;omega)).trans (H.fr c h1 h2 h3)
theorem BV{α:Type}{enc:α->List V}{es:Nat}{ty:TypeId}{ys:List α}(hlo:lo<=vn)(h:vh' vn=some (.cells (ys.map enc).flatten ty 0 false)):bC enc es ty lo vh' (vn+1) (.msl vn 0 ys.length es none) ys:=.inr ⟨vn,hlo,Nat.lt_succ_self _,rfl,h⟩
theorem NS.appT(H:NS lo bd bm vh0 vh vn tv xv av nv xs ks ss aa)(k:Nat)(h:vh' vn=some (.cells ((ks++[k]).map bL).flatten cR 0 false))(hf:∀c,c≠vn->¬aY tv c->vh' c=vh c):NS lo bd bm vh0 vh' (vn+1) (.msl vn 0 (ks++[k]).length 1 none) xv av nv xs (ks++[k]) ss aa where
 hd:=(hf bd (by have:=H.hbd;have:=H.hlo;omega) fun h=>by have:=dN H.T bd h;have:=H.hbd;omega).trans H.hd
 hm:=(hf bm (by have:=H.hbm;have:=H.hlo;omega) fun h=>by have:=dN H.T bm h;have:=H.hbm;omega).trans H.hm
 T:=BV H.hlo h
 S:=H.S.mono (Nat.le_succ _) fun c h1 h2 h3=>hf c (by omega) fun h=>H.dTS c h h3
 A:=H.A.mono (Nat.le_succ _) fun c h1 h2 h3=>hf c (by omega) fun h=>H.dTA c h h3
 N:=H.N.mono (Nat.le_succ _) fun c h1 h2 h3=>hf c (by omega) fun h=>H.dTN c h h3
 dTS c h1 h2:=by have:=dN H.S c h2;have:c=vn:=h1;omega
 dTA c h1 h2:=by have:=dN H.A c h2;have:c=vn:=h1;omega
 dTN c h1 h2:=by have:=dN H.N c h2;have:c=vn:=h1;omega
 dSA:=H.dSA
 dSN:=H.dSN
 dAN:=H.dAN
 hlo:=Nat.le_succ_of_le H.hlo
 hbd:=H.hbd
 hbm:=H.hbm
 ne:=H.ne
 fr c h1 h2 h3:=(hf c (by have:=H.hlo;omega) fun h=>by have:=dN H.T c h;omega).trans (H.fr c h1 h2 h3)
theorem NS.appS(H:NS lo bd bm vh0 vh vn tv xv av nv xs ks ss aa)(s:List Nat)(h:vh' vn=some (.cells ((ss++[s]).map bY).flatten iW 0 false))(hf:∀c,c≠vn->¬aY xv c->vh' c=vh c):NS lo bd bm vh0 vh' (vn+1) tv (.msl vn 0 (ss++[s]).length 1 none) av nv xs ks (ss++[s]) aa where
 hd:=(hf bd (by have:=H.hbd;have:=H.hlo;omega) fun h=>by have:=dN H.S bd h;have:=H.hbd;omega).trans H.hd
 hm:=(hf bm (by have:=H.hbm;have:=H.hlo;omega) fun h=>by have:=dN H.S bm h;have:=H.hbm;omega).trans H.hm
 T:=H.T.mono (Nat.le_succ _) fun c h1 h2 h3=>hf c (by omega) fun h=>H.dTS c h3 h
 S:=BV H.hlo h
 A:=H.A.mono (Nat.le_succ _) fun c h1 h2 h3=>hf c (by omega) fun h=>H.dSA c h h3
 N:=H.N.mono (Nat.le_succ _) fun c h1 h2 h3=>hf c (by omega) fun h=>H.dSN c h h3
 dTS c h1 h2:=by have:=dN H.T c h1;have:c=vn:=h2;omega
 dTA:=H.dTA
 dTN:=H.dTN
 dSA c h1 h2:=by have:=dN H.A c h2;have:c=vn:=h1;omega
 dSN c h1 h2:=by have:=dN H.N c h2;have:c=vn:=h1;omega
 dAN:=H.dAN
 hlo:=Nat.le_succ_of_le H.hlo
 hbd:=H.hbd
 hbm:=H.hbm
 ne:=H.ne
 fr c h1 h2 h3:=(hf c (by have:=H.hlo;omega) fun h=>by have:=dN H.S c h;omega).trans (H.fr c h1 h2 h3)
theorem NS.appA(H:NS lo bd bm vh0 vh vn tv xv av nv xs ks ss aa)(s:List Nat)(h:vh' vn=some (.cells ((aa++[s]).map bY).flatten iW 0 false))(hf:∀c,c≠vn->¬aY av c->vh' c=vh c):NS lo bd bm vh0 vh' (vn+1) tv xv (.msl vn 0 (aa++[s]).length 1 none) nv xs ks ss (aa++[s]) where
 hd:=(hf bd (by have:=H.hbd;have:=H.hlo;omega) fun h=>by have:=dN H.A bd h;have:=H.hbd;omega).trans H.hd
 hm:=(hf bm (by have:=H.hbm;have:=H.hlo;omega) fun h=>by have:=dN H.A bm h;have:=H.hbm;omega).trans H.hm
 T:=H.T.mono (Nat.le_succ _) fun c h1 h2 h3=>hf c (by omega) fun h=>H.dTA c h3 h
 S:=H.S.mono (Nat.le_succ _) fun c h1 h2 h3=>hf c (by omega) fun h=>H.dSA c h3 h
 A:=BV H.hlo h
 N:=H.N.mono (Nat.le_succ _) fun c h1 h2 h3=>hf c (by omega) fun h=>H.dAN c h h3
 dTS:=H.dTS
 dTA c h1 h2:=by have:=dN H.T c h1;have:c=vn:=h2;omega
 dTN:=H.dTN
 dSA c h1 h2:=by have:=dN H.S c h1;have:c=vn:=h2;omega
 dSN:=H.dSN
 dAN c h1 h2:=by have:=dN H.N c h2;have:c=vn:=h1;omega
 hlo:=Nat.le_succ_of_le H.hlo
 hbd:=H.hbd
 hbm:=H.hbm
 ne:=H.ne
 fr c h1 h2 h3:=(hf c (by have:=H.hlo;omega) fun h=>by have:=dN H.A c h;omega).trans (H.fr c h1 h2 h3)
theorem NS.appN(H:NS lo bd bm vh0 vh vn tv xv av nv xs ks ss aa)(n:Nd)(h:vh' vn=some (.cells ((xs++[n]).map qU).flatten dI 0 false))(hm:vh' bm=some (.map (iG (xs++[n]) 0)))(hd:vh' bd=some (.cells [.nilp,.nilp,.nilp,.msl vn 0 (xs++[n]).length 7 none,.nilp] kX 0 false))(hf:∀c,c≠vn->c≠bm->c≠bd->¬aY nv c->vh' c=vh c):NS lo bd bm vh0 vh' (vn+1) tv xv av (.msl vn 0 (xs++[n]).length 7 none) (xs++[n]) ks ss aa where
 hd:=hd
 hm:=hm
 T:=H.T.mono (Nat.le_succ _) fun c h1 h2 h3=>hf c (by omega) (by have:=H.hbm;omega) (by have:=H.hbd;omega) fun h=>H.dTN c h3 h
 S:=H.S.mono (Nat.le_succ _) fun c h1 h2 h3=>hf c (by omega) (by have:=H.hbm;omega) (by have:=H.hbd;omega) fun h=>H.dSN c h3 h
 A:=H.A.mono (Nat.le_succ _) fun c h1 h2 h3=>hf c (by omega) (by have:=H.hbm;omega) (by have:=H.hbd;omega) fun h=>H.dAN c h3 h
 N:=BV H.hlo h
 dTS:=H.dTS
 dTA:=H.dTA
 dTN c h1 h2:=by have:=dN H.T c h1;have:c=vn:=h2;omega
 dSA:=H.dSA
 dSN c h1 h2:=by have:=dN H.S c h1;have:c=vn:=h2;omega
 dAN c h1 h2:=by have:=dN H.A c h1;have:c=vn:=h2;omega
 hlo:=Nat.le_succ_of_le H.hlo
 hbd:=H.hbd
 hbm:=H.hbm
 ne:=H.ne
 fr c h1 h2 h3:=(hf c (by have:=H.hlo;omega) h3 h2 fun h=>by have:=dN H.N c h;omega).trans (H.fr c h1 h2 h3)
end
structure XNew(X:Ovr):Prop extends XWave X,XTM X where
 shape:X uZ=none
 max4:X vP=none
 bnew:X uY=none
end
section
attribute [local irreducible] aO fX jE cP
variable {X : Ovr} {G : Gt} {PN : List Nat → List Nat → Prop} {PV PT : List Nat → Prop}
def KC(tv xv av nv:V)(xs:List Nd)(ks:List Nat)(ss aa:List (List Nat)):Prop:=(tv=.nils/\xv=.nils/\av=.nils/\nv=.nils/\xs=[])\/∃bt bx ba bn,tv=.msl bt 0 ks.length 1 none/\xv=.msl bx 0 ss.length 1 none/\av=.msl ba 0 aa.length 1 none/\nv=.msl bn 0 xs.length 7 none
theorem DN(H:XNew X)(t:List Nd)(c:Option Nat)(lo bd bm:Nat)(vh0:VH)(L i:Int)(n:Nd)(hs1:n.s.length<=1000)(hs2:∀a∈n.s,pY a)(k:Nat)(tv xv av nv:V)(xs:List Nd)(ks:List Nat)(ss aa:List (List Nat))(vh:VH)(vn:Nat)(Q:FQ)
  (S:NS lo bd bm vh0 vh vn tv xv av nv xs ks ss aa) (hF:(tv=.nils/\xv=.nils/\av=.nils)\/∃bt bx ba,tv=.msl bt 0 ks.length 1 none/\xv=.msl bx 0 ss.length 1 none/\av=.msl ba 0 aa.length 1 none)
  (hk:ks.length<=1000) (hss:ss.length<=1000) (haa:aa.length<=1000)
  (hQ:∀bt bx ba vh' vn',NS lo bd bm vh0 vh' vn' (.msl bt 0 (ks++[k]).length 1 none) (.msl bx 0 (ss++[n.v]).length 1 none) (.msl ba 0 (aa++[cP n.s]).length 1 none) nv xs (ks++[k]) (ss++[n.v]) (aa++[cP n.s])->Q .norm [(0,.sl 7 (t.map aP) c),(4,.ptr bd 0),(5,.map bm),(6,.msl bt 0 (ks++[k]).length 1 none),(7,.msl bx 0 (ss++[n.v]).length 1 none),(8,.msl ba 0 (aa++[cP n.s]).length 1 none),(22,.sl 7 (t.map aP) c),(23,.int .i64 L),(24,.int .i64 i)] vh' vn'):
  aC Tryz.prog X G (.cut NK) [(0,.sl 7 (t.map aP) c),(4,.ptr bd 0),(5,.map bm),(6,tv),(7,xv),(8,av),(10,.bx (aP n)),(12,.int .i64 (k:Int)),(22,.sl 7 (t.map aP) c),(23,.int .i64 L),(24,.int .i64 i)] vh vn Q:=by
 have room:∀(b n:Nat),b<=16->n<=1000->Go.VL.room b (n+1):=fun b n hb hn=>⟨by have:=Nat.mul_le_mul (show n+1<=1001 by omega) hb;omega,by show n+1<9223372036854775808;omega⟩
 refine aC.cut ?_;rcases hF with⟨rfl,rfl,rfl⟩|⟨bt,bx,ba,rfl,rfl,rfl⟩
 all_goals
  conv=>whnf
  refine bC.app' (enc:=bL) gT (by decide) S.T S.hlo k (room 8 _ (by decide) hk) fun vh1 q1 f1=>?_
  have S1:=S.appT k q1 f1
  conv=>whnf
  refine bC.app' (enc:=bY) tJ (by decide) S1.S S1.hlo n.v (room 16 _ (by decide) hss) fun vh2 q2 f2=>?_
  have S2:=S1.appS n.v q2 f2
  conv=>whnf
  refine (X5 H.toXPack n.s hs1 hs2 none _ _).mono fun v vh3 n3 he=>?_;obtain⟨e1,F3⟩:=he;rw[e1];have S3:=S2.mono F3.1 F3.2
  conv=>whnf
  refine bC.app' (enc:=bY) tJ (by decide) S3.A S3.hlo (cP n.s) (room 16 _ (by decide) haa) fun vh4 q4 f4=>?_
  have S4:=S3.appA (cP n.s) q4 f4
  conv=>whnf
  exact hQ _ _ _ _ _ S4
theorem KV(H:XNew X)(t:List Nd)(hl:t.length<=1000)(hs:∀n∈t,n.s.length<=1000/\∀a∈n.s,pY a)(c:Option Nat)(lo bd bm:Nat)(vh0:VH)(Q:FQ)
  (hQ:∀tv xv av nv vh' vn' i b,NS lo bd bm vh0 vh' vn' tv xv av nv (cX [] t).1 (cX [] t).2 (t.map fun n=>n.v) (t.map fun n=>cP n.s)->KC tv xv av nv (cX [] t).1 (cX [] t).2 (t.map fun n=>n.v) (t.map fun n=>cP n.s)->Q (.exit 0) [(0,.sl 7 (t.map aP) c),(4,.ptr bd 0),(5,.map bm),(6,tv),(7,xv),(8,av),(22,.sl 7 (t.map aP) c),(23,.int .i64 (t.length:Int)),(24,.int .i64 i),(25,.bool b)] vh' vn'):
  ∀(m i:Nat),t.length-i=m->i<=t.length->∀(tv xv av nv:V) (xs:List Nd) (ks:List Nat) (vh:VH) (vn:Nat),xs.length<=i->ks.length=i->(cX xs (t.drop i)).1=(cX [] t).1->ks++(cX xs (t.drop i)).2=(cX [] t).2->NS lo bd bm vh0 vh vn tv xv av nv xs ks ((t.take i).map fun n=>n.v) ((t.take i).map fun n=>cP n.s)->KC tv xv av nv xs ks ((t.take i).map fun n=>n.v) ((t.take i).map fun n=>cP n.s)->
  aC Tryz.prog X G (.loop E8) [(0,.sl 7 (t.map aP) c),(4,.ptr bd 0),(5,.map bm),(6,tv),(7,xv),(8,av),(22,.sl 7 (t.map aP) c),(23,.int .i64 (t.length:Int)),(24,.int .i64 (i:Int))] vh vn Q
 |m,i,hm,hi,tv,xv,av,nv,xs,ks,vh,vn,hxi,hki,h1,h2,S,F4=>by
  refine aC.round ?_;by_cases hlt:i<t.length
  ·have e:wr .i64 ((i:Int)+1)=((i+1:Nat):Int):=by rw[aF]<;>omega
   have hd:t.drop i=t[i]::t.drop (i+1):=(List.getElem_cons_drop hlt).symm;have htk:t.take (i+1)=t.take i++[t[i]]:=(List.take_append_getElem hlt).symm;obtain⟨hs1,hs2⟩:=hs _ (List.getElem_mem hlt);rw[hd,cX] at h1 h2;have nxt:=fun tv xv av nv xs ks vh vn=>KV H t hl hs c lo bd bm vh0 Q hQ (m-1) (i+1) (by omega) (by omega) tv xv av nv xs ks vh vn
   rw[htk,List.map_append,List.map_append,List.map_singleton,List.map_singleton] at nxt;have hls:((t.take i).map fun n=>n.v).length=i:=by rw[List.length_map,List.length_take];omega
   have hla:((t.take i).map fun n=>cP n.s).length=i:=by rw[List.length_map,List.length_take];omega
   generalize ((t.take i).map fun n=>n.v)=ss at S F4 nxt hls;generalize ((t.take i).map fun n=>cP n.s)=aa at S F4 nxt hla;have fi:=RG t[i] xs 0;have hst:=VN xs t[i];have room7:room 104 (xs.length+1):=⟨by omega,by show xs.length+1<9223372036854775808;omega⟩
   have fin:∀nv' xs' k,(iR xs t[i])=(xs',k)->∀bt bx ba vh' vn',NS lo bd bm vh0 vh' vn' (.msl bt 0 (ks++[k]).length 1 none) (.msl bx 0 (ss++[t[i].v]).length 1 none) (.msl ba 0 (aa++[cP t[i].s]).length 1 none) nv' xs' (ks++[k]) (ss++[t[i].v]) (aa++[cP t[i].s])->(∃bn,nv'=.msl bn 0 xs'.length 7 none)->aC Tryz.prog X G (.loop E8) [(0,.sl 7 (t.map aP) c),(4,.ptr bd 0),(5,.map bm),(6,.msl bt 0 (ks++[k]).length 1 none),(7,.msl bx 0 (ss++[t[i].v]).length 1 none),(8,.msl ba 0 (aa++[cP t[i].s]).length 1 none),(22,.sl 7 (t.map aP) c),(23,.int .i64 (t.length:Int)),(24,.int .i64 ((i+1:Nat):Int))] vh' vn' Q:=fun nv' xs' k he bt bx ba vh' vn' S' ⟨bn,hbn⟩=>by
    rw[he] at h1 h2 hst;have hst3:xs'.length<=xs.length+1:=hst.2.2;refine nxt _ _ _ nv' xs' (ks++[k]) vh' vn' (by omega) (by rw[List.length_append,List.length_singleton,hki]) h1 (by rw[List.append_assoc];exact h2) S' (.inr ⟨bt,bx,ba,bn,rfl,rfl,rfl,hbn⟩)
   have hnew:i5 t[i] xs 0=none->iR xs t[i]=(xs++[t[i]],xs.length):=fun h=>by unfold iR;rw[h]
   have hput:i5 t[i] xs 0=none->∀z:Int,z=(xs.length:Int)->jV (rA t[i]) (.ifc cR (.int .i64 z)) (iG xs 0)=iG (xs++[t[i]]) 0:=fun h z hz=>by have:=UK t[i] xs 0 h;rw[Nat.zero_add] at this;rw[hz];exact this
   rcases id F4 with⟨rfl,rfl,rfl,rfl,hx0⟩|⟨bt,bx,ba,bn,rfl,rfl,rfl,rfl⟩
   ·have hix:i5 t[i] xs 0=none:=by rw[hx0];rfl
    have hx1:(0:Int)=(xs.length:Int):=by rw[hx0];rfl
    rw[hix] at fi
    conv=>whnf
    refine aA.mk (fun _=>?_) (fun h=>absurd (of_decide_eq_false h) (by omega))
    conv=>whnf
    refine Get.mk (i,aP t[i]) ⟨rfl,by simp[hlt]⟩ ?_
    conv=>whnf
    refine Get.mk _ S.hm ?_
    conv=>whnf
    refine⟨tK xs 0,?_⟩;refine Get.mk _ fi ?_
    conv=>whnf
    refine Get.mk (_,_,_,_) S.hd ?_
    conv=>whnf
    refine Get.mk _ rfl ?_
    conv=>whnf
    refine Get.mk _ S.hm ?_
    conv=>whnf
    refine⟨tK xs 0,?_⟩;generalize hv:aJ vh bm _=vh1;have hm1:vh1 bm=some (.map (iG (xs++[t[i]]) 0)):=by rw[<-hv];exact aL.trans (congrArg (fun z=>some (VB.map z)) (hput hix 0 hx1))
    have F1:∀d,d≠bm->vh1 d=vh d:=fun d hd=>by rw[<-hv];exact aG hd
    clear hv;have hd1:=(F1 bd S.ne).trans S.hd;have N1:=S.N.mono (vh':=vh1) (Nat.le_refl _) fun d d1 d2 d3=>F1 d (by have:=S.hbm;omega)
    have q1:=S.hbd;have q2:=S.hbm;have q3:=S.hlo
    conv=>whnf
    refine Get.mk (_,_,_,_) hd1 ?_
    conv=>whnf
    refine Get.mk _ rfl ?_
    conv=>whnf
    refine bC.app' (enc:=qU) QS (by decide) N1 S.hlo t[i] room7 fun vh2 h2' f2=>?_
    have hd2:=(f2 bd (by omega) fun h=>by have:=dN S.N bd h;omega).trans hd1
    conv=>whnf
    refine Get.mk (_,_,_,_) hd2 ?_
    conv=>whnf
    refine⟨⟨(by decide:4<=5),Nat.zero_le _⟩,?_⟩
    conv=>whnf
    generalize hv:aJ vh2 bd _=vh3;have S3:=S.appN (vh':=vh3) t[i] (by rw[<-hv];exact (aG (by omega)).trans h2') (by rw[<-hv];exact (aG (Ne.symm S.ne)).trans ((f2 bm (by omega) fun h=>by have:=dN S.N bm h;omega).trans hm1)) (by rw[<-hv];exact aL) (fun d d1 d2 d3 d4=>by rw[<-hv];exact (aG d3).trans ((f2 d d1 d4).trans (F1 d d2)))
    clear hv;rw[hx1];refine DN H t c lo bd bm vh0 _ _ t[i] hs1 hs2 xs.length _ _ _ _ _ ks ss aa vh3 (vn+1) _ S3 (.inl ⟨rfl,rfl,rfl⟩) (by omega) (by omega) (by omega) fun bt' bx' ba' vh4 n4 S4=>?_
    conv=>whnf
    rw[e];exact fin _ _ _ (hnew hix) bt' bx' ba' vh4 n4 S4 ⟨_,rfl⟩
   ·cases hix:i5 t[i] xs 0 with
    |some j=>
     rw[hix] at fi;have hst':iR xs t[i]=(xs,j):=by unfold iR;rw[hix]
     conv=>whnf
     refine aA.mk (fun _=>?_) (fun h=>absurd (of_decide_eq_false h) (by omega))
     conv=>whnf
     refine Get.mk (i,aP t[i]) ⟨rfl,by simp[hlt]⟩ ?_
     conv=>whnf
     refine Get.mk _ S.hm ?_
     conv=>whnf
     refine⟨tK xs 0,?_⟩;refine Get.mk _ fi ?_
     conv=>whnf
     refine DN H t c lo bd bm vh0 _ _ t[i] hs1 hs2 j _ _ _ _ _ ks ss aa vh vn _ S (.inr ⟨_,_,_,rfl,rfl,rfl⟩) (by omega) (by omega) (by omega) fun bt' bx' ba' vh4 n4 S4=>?_
     conv=>whnf
     rw[e];exact fin _ _ _ hst' bt' bx' ba' vh4 n4 S4 ⟨_,rfl⟩
    |none=>
     rw[hix] at fi
     conv=>whnf
     refine aA.mk (fun _=>?_) (fun h=>absurd (of_decide_eq_false h) (by omega))
     conv=>whnf
     refine Get.mk (i,aP t[i]) ⟨rfl,by simp[hlt]⟩ ?_
     conv=>whnf
     refine Get.mk _ S.hm ?_
     conv=>whnf
     refine⟨tK xs 0,?_⟩;refine Get.mk _ fi ?_
     conv=>whnf
     refine Get.mk (_,_,_,_) S.hd ?_
     conv=>whnf
     refine Get.mk _ rfl ?_
     conv=>whnf
     refine Get.mk _ S.hm ?_
     conv=>whnf
     refine⟨tK xs 0,?_⟩;generalize hv:aJ vh bm _=vh1;have hm1:vh1 bm=some (.map (iG (xs++[t[i]]) 0)):=by rw[<-hv];exact aL.trans (congrArg (fun z=>some (VB.map z)) (hput hix (xs.length:Int) rfl))
     have F1:∀d,d≠bm->vh1 d=vh d:=fun d hd=>by rw[<-hv];exact aG hd
     clear hv;have hd1:=(F1 bd S.ne).trans S.hd;have N1:=S.N.mono (vh':=vh1) (Nat.le_refl _) fun d d1 d2 d3=>F1 d (by have:=S.hbm;omega)
     have q1:=S.hbd;have q2:=S.hbm;have q3:=S.hlo
     conv=>whnf
     refine Get.mk (_,_,_,_) hd1 ?_
     conv=>whnf
     refine Get.mk _ rfl ?_
     conv=>whnf
     refine bC.app' (enc:=qU) QS (by decide) N1 S.hlo t[i] room7 fun vh2 h2' f2=>?_
     have hd2:=(f2 bd (by omega) fun h=>by have:=dN S.N bd h;omega).trans hd1
     conv=>whnf
     refine Get.mk (_,_,_,_) hd2 ?_
     conv=>whnf
     refine⟨⟨(by decide:4<=5),Nat.zero_le _⟩,?_⟩
     conv=>whnf
     generalize hv:aJ vh2 bd _=vh3;have S3:=S.appN (vh':=vh3) t[i] (by rw[<-hv];exact (aG (by omega)).trans h2') (by rw[<-hv];exact (aG (Ne.symm S.ne)).trans ((f2 bm (by omega) fun h=>by have:=dN S.N bm h;omega).trans hm1)) (by rw[<-hv];exact aL) (fun d d1 d2 d3 d4=>by rw[<-hv];exact (aG d3).trans ((f2 d d1 d4).trans (F1 d d2)))
     clear hv;refine DN H t c lo bd bm vh0 _ _ t[i] hs1 hs2 xs.length _ _ _ _ _ ks ss aa vh3 (vn+1) _ S3 (.inr ⟨_,_,_,rfl,rfl,rfl⟩) (by omega) (by omega) (by omega) fun bt' bx' ba' vh4 n4 S4=>?_
     conv=>whnf
     rw[e];exact fin _ _ _ (hnew hix) bt' bx' ba' vh4 n4 S4 ⟨_,rfl⟩
  ·have hlt:i=t.length:=by omega
   subst hlt;rw[List.drop_length] at h1 h2;have e1:xs=(cX [] t).1:=h1;have e2:ks=(cX [] t).2:=by rw[<-h2];exact (List.append_nil ks).symm
   rw[List.take_length,e1,e2] at S F4;rcases id F4 with⟨rfl,rfl,rfl,rfl,hx0⟩|⟨bt,bx,ba,bn,rfl,rfl,rfl,rfl⟩
   all_goals
    conv=>whnf
    refine aA.mk (fun h=>absurd (of_decide_eq_true h) (by omega)) (fun _=>?_)
    conv=>whnf
    exact hQ _ _ _ _ vh vn _ _ S F4
termination_by m=>m
decreasing_by all_goals omega
end
section
attribute [local irreducible] aO fX jE cP
variable {X : Ovr} {G : Gt} {PN : List Nat → List Nat → Prop} {PV PT : List Nat → Prop}
structure MC(PN:List Nat->List Nat->Prop)(PV PT:List Nat->Prop)(t:List Nd):Prop where
 may:iM t=true
 st:dG t 0=true
 ne:0<t.length
 len:t.length<=32
 ok:∀n∈t,NdT PN PV PT n
 s:∀n∈t,n.s.length<=6/\∀a∈n.s,pY a
 v:∀n∈t,n.v.length<256/\∀x∈n.v,x<256
structure DM(vh:VH)(vn:Nat)(t:List Nd)(bd bp bw bn:Nat):Prop where
 d:∃x y,vh bd=some (.cells [.ptr bp 0,.ptr bw 0,x,.msl bn 0 (cX [] t).1.length 7 none,y] kX 0 false)
 p:∃ls,PAt vh bp (aQ t 0) ls 1 0
 w:∃rv lo,WB vh bw rv t.length (cX [] t).1.length 0/\SlN tH gG lo vh vn rv (oG (jE ((cX [] t).1.length-1)) (cX [] t).2)
 n:vh bn=some (.cells ((cX [] t).1.map qU).flatten dI 0 false)
 dp:bd≠bp
 dw:bd≠bw
 pw:bp≠bw
theorem KX(H:XNew X)(Lb:mM X G PN PV PT)(t:List Nd)(T:MC PN PV PT t)(c:Option Nat)(vh:VH)(vn:Nat):
  aE Tryz.prog X G uY [.sl 7 (t.map aP) c] vh vn fun v vh' vn'=>∃bd bp bw bn,v=.tup [.ptr bd 0,.int .i64 0]/\DM vh' vn' t bd bp bw bn/\vn<=vn'/\(∀d,d<vn->vh' d=vh d)/\vn<=bd/\bd<vn':=by
 have hlen:Int.ofNat (t.map aP).length=(t.length:Int):=by simp
 have hl:=T.len;have hne:=T.ne;obtain⟨hh1,hh2,hh3,hh4,hh5⟩:=R3 t [];have hh5:=hh5 hne;have hh3:(cX [] t).1.length<=32:=by simp only[List.length_nil] at hh3;omega
 apply aDg.run H.bnew
 conv=>whnf
 refine (YZ H.toXTM Lb t c (by omega) T.ok vh vn).mono fun v vh0 n0 he=>?_
 obtain⟨e1,F0⟩:=he;rw[e1,(aFm t).trans T.may];clear e1;have g0:=F0.1
 conv=>whnf
 rw[hlen];generalize hv:aJ (aJ vh0 n0 _) (n0+1) _=vh1;have hd1:vh1 n0=some (.cells [.nilp,.nilp,.nilp,.nils,.nilp] kX 0 false):=hv▸(aG (by omega)).trans aL
 have hm1:vh1 (n0+1)=some (.map (iG [] 0)):=hv▸aL;have F1:∀d,d<n0->vh1 d=vh0 d:=fun d hd=>hv▸(aG (by omega)).trans (aG (by omega))
 clear hv;refine KV H t (by omega) (fun n hn=>⟨by have:=(T.s n hn).1;omega,(T.s n hn).2⟩) c (n0+2) n0 (n0+1) vh1 _ (fun tv xv av nv vh2 n2 i b S F4=>?_) _ 0 rfl (Nat.zero_le _) .nils .nils .nils .nils [] [] vh1 (n0+2) (Nat.le_refl _) rfl rfl rfl ⟨hd1,hm1,.nil,.nil,.nil,.nil,fun _ h=>h.elim,fun _ h=>h.elim,fun _ h=>h.elim,fun _ h=>h.elim,fun _ h=>h.elim,fun _ h=>h.elim,Nat.le_refl _,by omega,by omega,by omega,fun _ _ _ _=>rfl⟩ (.inl ⟨rfl,rfl,rfl,rfl,rfl⟩)
 have hst:=T.st;have hmay:=S0 t 0 hst;have hsl:(aQ t 0).length=2*t.length:=(I4 t 0 hst).trans (Nat.add_zero _);have hKS:(cX [] t).2.length=t.length:=hh1;generalize hXS:(cX [] t).1=XS at *;generalize hKSe:(cX [] t).2=KS at *;rcases F4 with⟨_,_,_,_,hx0⟩|⟨bt,bx,ba,bn,rfl,rfl,rfl,rfl⟩
 ·rw[hx0] at hh5;cases hh5
 obtain⟨_,⟨bt,bt1,bt2,et,bt4⟩⟩:∃_:Unit,∃b,n0+2<=b/\b<n2/\V.msl bt 0 KS.length 1 none=.msl b 0 KS.length 1 none/\vh2 b=some (.cells (KS.map bL).flatten cR 0 false):=by
  rcases S.T with⟨h|h,_⟩|h
  ·cases h
  ·cases h
  ·exact⟨(),h⟩
 cases et;obtain⟨_,⟨bx,bx1,bx2,et,bx4⟩⟩:∃_:Unit,∃b,n0+2<=b/\b<n2/\V.msl bx 0 (t.map fun n=>n.v).length 1 none=.msl b 0 (t.map fun n=>n.v).length 1 none/\vh2 b=some (.cells ((t.map fun n=>n.v).map bY).flatten iW 0 false):=by
  rcases S.S with⟨h|h,_⟩|h
  ·cases h
  ·cases h
  ·exact⟨(),h⟩
 cases et;obtain⟨_,⟨ba,ba1,ba2,et,ba4⟩⟩:∃_:Unit,∃b,n0+2<=b/\b<n2/\V.msl ba 0 (t.map fun n=>cP n.s).length 1 none=.msl b 0 (t.map fun n=>cP n.s).length 1 none/\vh2 b=some (.cells ((t.map fun n=>cP n.s).map bY).flatten iW 0 false):=by
  rcases S.A with⟨h|h,_⟩|h
  ·cases h
  ·cases h
  ·exact⟨(),h⟩
 cases et;obtain⟨_,⟨bn,bn1,bn2,et,bn4⟩⟩:∃_:Unit,∃b,n0+2<=b/\b<n2/\V.msl bn 0 XS.length 7 none=.msl b 0 XS.length 7 none/\vh2 b=some (.cells (XS.map qU).flatten dI 0 false):=by
  rcases S.N with⟨h|h,_⟩|h
  ·cases h
  ·cases h
  ·exact⟨(),h⟩
 cases et;have dtx:bt≠bx:=fun h=>S.dTS bt rfl h;have dta:bt≠ba:=fun h=>S.dTA bt rfl h;have dtn:bt≠bn:=fun h=>S.dTN bt rfl h;have dxa:bx≠ba:=fun h=>S.dSA bx rfl h;have dxn:bx≠bn:=fun h=>S.dSN bx rfl h;have dan:ba≠bn:=fun h=>S.dAN ba rfl h;have hd2:=S.hd;have F2:∀d,d<vn->vh2 d=vh d:=fun d hd=>(S.fr d (by omega) (by omega) (by omega)).trans ((F1 d (by omega)).trans (F0.2 d hd))
 clear S hd1 hm1 F1
 conv=>whnf
 generalize hv:aJ vh2 n2 _=vh3;have C3:vh3 n2=some (.cells [.int .i64 0,.int .i64 0,.int .i64 0,.int .i64 0] sU 0 false):=hv▸aL;have F3:∀d,d<n2->vh3 d=vh2 d:=fun d hd=>hv▸aG (by omega)
 clear hv;refine (YP H.shape t (by omega) hst c vh3 (n2+1)).mono fun v vh4 n4 he=>?_
 obtain⟨A4,F4⟩:=he;have g4:=F4.1;rcases A4 with⟨_,h⟩|⟨b4,q1,q2,rfl,q4⟩
 ·rw[h] at hsl;simp only[List.length_nil] at hsl;omega
 conv=>whnf
 refine Get.mk (_,_,_,_) q4 ?_
 conv=>whnf
 refine⟨gK iE (by decide),?_⟩
 conv=>whnf
 refine Get.mk _ (eV iE) ?_
 conv=>whnf
 refine (X3 H.toXPar4 (aQ t 0) (by omega) hmay none).mono fun v vh5 n5 he=>?_
 obtain⟨bp,ls,e5,P5,p1,p2,f5⟩:=he;rw[e5];clear e5;have K5:∀d,d<=n2->vh5 d=vh3 d:=fun d hd=>(f5 d (by omega)).trans ((b5 (by omega)).trans (F4.2 d (by omega)))
 clear f5 F4 q4;have hd5:=(K5 n0 (by omega)).trans ((F3 n0 (by omega)).trans hd2)
 conv=>whnf
 refine Get.mk (_,_,_,_) hd5 ?_
 conv=>whnf
 refine⟨⟨(by decide:1<=5),Nat.zero_le _⟩,?_⟩
 conv=>whnf
 generalize hv:aJ vh5 n0 _=vh6;have hd6:vh6 n0=some (.cells [.ptr bp 0,.nilp,.nilp,.msl bn 0 XS.length 7 none,.nilp] kX 0 false):=hv▸aL;have K6:∀d,d≠n0->vh6 d=vh5 d:=fun d hd=>hv▸aG hd;clear hv;have C6:=(K6 n2 (by omega)).trans ((K5 n2 (Nat.le_refl _)).trans C3)
 refine Get.mk 0 ⟨rfl,by decide⟩ ?_
 conv=>whnf
 refine Get.mk (_,_,_,_) C6 ?_
 conv=>whnf
 refine⟨⟨(by decide:1<=4),Nat.zero_le _⟩,?_⟩
 conv=>whnf
 generalize hv:aJ vh6 n2 _=vh7;have C7:vh7 n2=some (.cells [.int .i64 0,.int .i64 0,.int .i64 0,.int .i64 0] sU 0 false):=hv▸aL;have K7:∀d,d≠n2->vh7 d=vh6 d:=fun d hd=>hv▸aG hd;clear hv;have hd7:=(K7 n0 (by omega)).trans hd6
 have P7:PAt vh7 bp (aQ t 0) ls 1 0:=(K7 bp (by omega)).trans ((K6 bp (by omega)).trans P5)
 have K27:∀d,d<n2->d≠n0->vh7 d=vh2 d:=fun d h1 h2=>(K7 d (by omega)).trans ((K6 d h2).trans ((K5 d (by omega)).trans (F3 d h1)))
 clear K7 K6 K5 F3 hd6 C6 hd5 C3 P5;refine Get.mk (_,_,_,_) hd7 ?_
 conv=>whnf
 refine Get.mk _ rfl ?_
 conv=>whnf
 have fb1:=(K27 bt bt2 (by omega)).trans bt4
 refine Get.mk (_,_,_,_) fb1 ?_
 conv=>whnf
 refine⟨gK gT (by decide),?_⟩
 conv=>whnf
 refine Get.mk _ (eV gT) ?_
 conv=>whnf
 refine (Y9 H.toXWave KS XS.length hh5 (by omega) (by omega) hh4 none _ _).mono fun v vh8 n8 he=>?_
 obtain⟨e8,⟨rv,B8,R8⟩,g8,F8⟩:=he;rw[e8];clear e8;have K8:∀d,d<n5->d≠bt->vh8 d=vh7 d:=fun d h1 h2=>(F8.2 d h1).trans (b5 h2);clear F8;have hd8:=(K8 n0 (by omega) (by omega)).trans hd7
 conv=>whnf
 refine Get.mk (_,_,_,_) hd8 ?_
 conv=>whnf
 refine⟨⟨(by decide:2<=5),Nat.zero_le _⟩,?_⟩
 conv=>whnf
 generalize hv:aJ vh8 n0 _=vh9;have hd9:vh9 n0=some (.cells [.ptr bp 0,.ptr n5 0,.nilp,.msl bn 0 XS.length 7 none,.nilp] kX 0 false):=hv▸aL;have K9:∀d,d≠n0->vh9 d=vh8 d:=fun d hd=>hv▸aG hd;clear hv;have C9:=(K9 n2 (by omega)).trans ((K8 n2 (by omega) (by omega)).trans C7)
 refine Get.mk 1 ⟨rfl,by decide⟩ ?_
 conv=>whnf
 refine Get.mk (_,_,_,_) C9 ?_
 conv=>whnf
 refine⟨⟨(by decide:2<=4),Nat.zero_le _⟩,?_⟩
 conv=>whnf
 generalize hv:aJ vh9 n2 _=vh10;have C10:vh10 n2=some (.cells [.int .i64 0,.int .i64 0,.int .i64 0,.int .i64 0] sU 0 false):=hv▸aL;have K10:∀d,d≠n2->vh10 d=vh9 d:=fun d hd=>hv▸aG hd;clear hv;have hd10:=(K10 n0 (by omega)).trans hd9
 have K810:∀d,d≠n0->d≠n2->vh10 d=vh8 d:=fun d h1 h2=>(K10 d h2).trans (K9 d h1);clear K9 K10 hd9 C9 hd8;have K20:∀d,d<n2->d≠n0->d≠bt->vh10 d=vh2 d:=fun d h1 h2 h3=>(K810 d h2 (by omega)).trans ((K8 d (by omega) h3).trans (K27 d h1 h2))
 conv=>whnf
 have fb2:=(K20 bx bx2 (by omega) (Ne.symm dtx)).trans bx4
 refine Get.mk (_,_,_,_) fb2 ?_
 conv=>whnf
 refine⟨gK tJ (by decide),?_⟩
 conv=>whnf
 refine Get.mk _ (eV tJ) ?_
 conv=>whnf
 refine (LC H.toXPool (t.map fun n=>n.v) (by rw[List.length_map];omega) (fun s hs=>?_) none _ _).mono fun v vh11 n11 he=>?_
 ·obtain⟨n,hn,rfl⟩:=List.mem_map.1 hs;exact T.v n hn
 obtain⟨px,e11,F11⟩:=he;rw[e11];clear e11;have g11:=F11.1;have K11:∀d,d<n8->d≠bx->vh11 d=vh10 d:=fun d h1 h2=>(F11.2 d h1).trans (b5 h2);clear F11;have hd11:=(K11 n0 (by omega) (by omega)).trans hd10
 conv=>whnf
 refine Get.mk (_,_,_,_) hd11 ?_
 conv=>whnf
 refine⟨⟨(by decide:3<=5),Nat.zero_le _⟩,?_⟩
 conv=>whnf
 generalize hv:aJ vh11 n0 _=vh12;have hd12:vh12 n0=some (.cells [.ptr bp 0,.ptr n5 0,.ptr px 0,.msl bn 0 XS.length 7 none,.nilp] kX 0 false):=hv▸aL;have K12:∀d,d≠n0->vh12 d=vh11 d:=fun d hd=>hv▸aG hd;clear hv;have C12:=(K12 n2 (by omega)).trans ((K11 n2 (by omega) (by omega)).trans C10)
 refine Get.mk 2 ⟨rfl,by decide⟩ ?_
 conv=>whnf
 refine Get.mk (_,_,_,_) C12 ?_
 conv=>whnf
 refine⟨⟨(by decide:3<=4),Nat.zero_le _⟩,?_⟩
 conv=>whnf
 generalize hv:aJ vh12 n2 _=vh13;have C13:vh13 n2=some (.cells [.int .i64 0,.int .i64 0,.int .i64 0,.int .i64 0] sU 0 false):=hv▸aL;have K13:∀d,d≠n2->vh13 d=vh12 d:=fun d hd=>hv▸aG hd;clear hv;have hd13:=(K13 n0 (by omega)).trans hd12
 have K103:∀d,d<n8->d≠n0->d≠n2->d≠bx->vh13 d=vh10 d:=fun d h1 h2 h3 h4=>(K13 d h3).trans ((K12 d h2).trans (K11 d h1 h4));clear K13 K12 K11 hd12 C12 hd11 hd10
 conv=>whnf
 have fb3:=(K103 ba (by omega) (by omega) (by omega) (Ne.symm dxa)).trans ((K20 ba ba2 (by omega) (Ne.symm dta)).trans ba4)
 refine Get.mk (_,_,_,_) fb3 ?_
 conv=>whnf
 refine⟨gK tJ (by decide),?_⟩
 conv=>whnf
 refine Get.mk _ (eV tJ) ?_
 conv=>whnf
 refine (LC H.toXPool (t.map fun n=>cP n.s) (by rw[List.length_map];omega) (fun s hs=>?_) none _ _).mono fun v vh14 n14 he=>?_
 ·obtain⟨n,hn,rfl⟩:=List.mem_map.1 hs;obtain⟨h1,h2⟩:=H9 n.s (T.s n hn).2;have:=(T.s n hn).1;exact⟨by omega,h2⟩
 obtain⟨pa,e14,F14⟩:=he;rw[e14];clear e14;have g14:=F14.1;have K14:∀d,d<n11->d≠ba->vh14 d=vh13 d:=fun d h1 h2=>(F14.2 d h1).trans (b5 h2);clear F14;have hd14:=(K14 n0 (by omega) (by omega)).trans hd13
 conv=>whnf
 refine Get.mk (_,_,_,_) hd14 ?_
 conv=>whnf
 refine⟨⟨(by decide:5<=5),Nat.zero_le _⟩,?_⟩
 conv=>whnf
 generalize hv:aJ vh14 n0 _=vh15;have hd15:vh15 n0=some (.cells [.ptr bp 0,.ptr n5 0,.ptr px 0,.msl bn 0 XS.length 7 none,.ptr pa 0] kX 0 false):=hv▸aL;have K15:∀d,d≠n0->vh15 d=vh14 d:=fun d hd=>hv▸aG hd;clear hv;have C15:=(K15 n2 (by omega)).trans ((K14 n2 (by omega) (by omega)).trans C13)
 refine Get.mk 3 ⟨rfl,by decide⟩ ?_
 conv=>whnf
 refine Get.mk (_,_,_,_) C15 ?_
 conv=>whnf
 refine⟨⟨(by decide:4<=4),Nat.zero_le _⟩,?_⟩
 conv=>whnf
 generalize hv:aJ vh15 n2 _=vh16;have C16:vh16 n2=some (.cells (([0,0,0,0]:List Int).map gS).flatten sU 0 false):=hv▸aL;have K16:∀d,d≠n2->vh16 d=vh15 d:=fun d hd=>hv▸aG hd;clear hv;have hd16:=(K16 n0 (by omega)).trans hd15
 have K136:∀d,d<n11->d≠n0->d≠n2->d≠ba->vh16 d=vh13 d:=fun d h1 h2 h3 h4=>(K16 d h3).trans ((K15 d h2).trans (K14 d h1 h4));clear K16 K15 K14 hd15 C15 hd14 hd13;have Kend:∀d,d<n8->d≠n0->d≠n2->d≠bx->d≠ba->bX vh16 n2 d=vh8 d:=fun d h1 h2 h3 h4 h5=>(b5 h3).trans ((K136 d (by omega) h2 h3 h5).trans ((K103 d h1 h2 h3 h4).trans (K810 d h2 h3)))
 have P16:=(Kend bp (by omega) (by omega) (by omega) (by omega) (by omega)).trans ((K8 bp p2 (by omega)).trans P7)
 have W16:=(Kend n5 g8 (by omega) (by omega) (by omega) (by omega)).trans B8
 have R16:=R8.mono (vh':=bX vh16 n2) (nx':=n14) (by omega) fun d d1 d2 d3=>Kend d d2 (by omega) (by omega) (by omega) (by omega)
 have N16:=(Kend bn (by omega) (by omega) (by omega) (Ne.symm dxn) (Ne.symm dan)).trans ((K8 bn (by omega) (Ne.symm dtn)).trans ((K27 bn bn2 (by omega)).trans bn4))
 have D16:=(b5 (show n0≠n2 by omega)).trans hd16
 have F16:∀d,d<vn->bX vh16 n2 d=vh d:=fun d hd=>(Kend d (by omega) (by omega) (by omega) (by omega) (by omega)).trans ((K8 d (by omega) (by omega)).trans ((K27 d (by omega) (by omega)).trans (F2 d hd)))
 rw[hKS] at W16;subst hXS;subst hKSe;clear Kend R8 B8 K8 K810 K20 K27 K103 K136 fb1 fb2 fb3 hd7 P7 C7 C10 C13 bt4 bx4 ba4 bn4 hd2 F2
 conv=>whnf
 refine Get.mk (_,_,_,_) C16 ?_
 conv=>whnf
 refine⟨⟨Nat.zero_le _,Nat.le_refl _,by decide,Nat.le_refl _⟩,?_⟩
 conv=>whnf
 refine Get.mk (_,_,_,_) C16 ?_
 conv=>whnf
 refine⟨⟨by decide,Nat.le_refl _,fun y hy=>by cases hy;exact Nat.le_refl _⟩,?_⟩
 conv=>whnf
 refine Get.mk _ (show pA 1 4 (([0,0,0,0]:List Int).map gS).flatten (([0,0,0,0]:List Int).map gS) from eV (xs:=([0,0,0,0]:List Int)) QR) ?_
 conv=>whnf
 refine (XU H.max4 _ _).mono fun v vh' vn' he=>?_;obtain⟨e1,e2,e3⟩:=he;rw[e1,e2,e3]
 conv=>whnf
 exact Get.mk _ (fun _ _ h=>h) ⟨n0,bp,n5,bn,rfl,⟨⟨_,_,D16⟩,⟨ls,P16⟩,⟨rv,_,W16,R16⟩,N16,by omega,by omega,by omega⟩,by show vn<=n14;omega,F16,by omega,by show n0<n14;omega⟩
end
section
attribute [local irreducible] aO wd bA aM pc dE bN rkN cQ dT ex upN dS mR clB opB aQ
variable {X : Ovr} {G : Gt}
structure qQ(X:Ovr):Prop extends XNew X where
 dat:X j4=none
 first:X yQ=none
 last:X yR=none
 next:X rP=none
 prev:X rQ=none
 parent:X p9=none
 count:X yO=none
 ddepth:X yP=none
 dup:X rR=none
 excess:X y8=none
structure iT(vh:VH)(bd bp:Nat)(t:List Nd):Prop where
 d:∃a b c e,vh bd=some (.cells [.ptr bp 0,a,b,c,e] kX 0 false)
 ne:bd≠bp
 p:∃ls st,PAt vh bp (aQ t 0) ls 1 st
theorem DM.doc{vh:VH}{vn:Nat}{t:List Nd}{bd bp bw bn:Nat}(N:DM vh vn t bd bp bw bn):iT vh bd bp t:=by obtain⟨x,y,h⟩:=N.d;obtain⟨ls,hp⟩:=N.p;exact⟨⟨_,_,_,_,h⟩,N.dp,⟨ls,0,hp⟩⟩
variable {vh : VH} {vn bd bp : Nat} {t : List Nd}
theorem iT.upd(D:iT vh bd bp t){vh':VH}{ls:List Int}{st:Int}(F:∀c,c≠bp->vh' c=vh c)(P:PAt vh' bp (aQ t 0) ls 1 st):iT vh' bd bp t:=by obtain⟨a,b,c,e,h⟩:=D.d;exact⟨⟨a,b,c,e,(F bd D.ne).trans h⟩,D.ne,ls,st,P⟩
theorem oH(H:qQ X)(hG:G j8=some tzL)(hs:dG t 0=true)(hl:t.length<=32)(D:iT vh bd bp t)(k:Nat)(hk:k<t.length):
  aE Tryz.prog X G j4 [.ptr bd 0,.int .i64 (k:Int)] vh vn fun v vh' vn'=>vh'=vh/\vn'=vn/\v=.tup [.ptr bp 0,.int .i64 (pos t k:Int)]:=by
 obtain⟨a,b,c,e,hd⟩:=D.d;obtain⟨ls,st,P⟩:=D.p;have hsl:=hH hs;have hrk:rkN (aQ t 0) true (aQ t 0).length=t.length:=by have h1:=AR hs (k:=t.length) (Nat.le_refl _);rw[nS hs] at h1;unfold rkN;rw[if_pos rfl,hsl,h1]
 apply aDr.run H.dat
 conv=>whnf
 refine Get.mk (_,_,_,_) hd ?_
 conv=>whnf
 refine Get.mk _ rfl ?_
 conv=>whnf
 refine Get.mk (_,_,_,_) hd ?_
 conv=>whnf
 refine Get.mk _ rfl ?_
 conv=>whnf
 refine (X4 H.toXPar hG (by omega) P (k:Int)).mono fun v vh' vn' he=>?_
 obtain⟨e1,e2,p,e3,e4⟩:=he;rw[e1,e2,e3];have e5:p=(pos t k:Int):=by
  rcases e4 with⟨_,_,q,h1,h2⟩|⟨_,h⟩
  ·rw[h1,aJH hs h2,Int.toNat_natCast]
  ·rw[hrk] at h;omega
 rw[e5];clear e1 e2 e3 e4 e5
 conv=>whnf
 refine⟨⟨rfl,?_⟩,?_⟩
 ·refine Get.mk (_,_,_,_) hd ?_
  conv=>whnf
  refine Get.mk _ rfl ?_
  conv=>whnf
 conv=>whnf
 exact Get.mk _ (fun _ _ h=>h) ⟨rfl,rfl,rfl⟩
def Way(vn bd bp:Nat)(t:List Nd)(z:Int)(v:V)(vh':VH)(vn':Nat):Prop:=vn'=vn/\iT vh' bd bp t/\v=.int .i64 z
variable (H : qQ X) (hG : G j8 = some tzL) (hs : dG t 0 = true) (hl : t.length ≤ 32) (D : iT vh bd bp t) (k : Nat) (hk : k < t.length)
include H hG hs hl D hk
theorem yI:aE Tryz.prog X G yQ [.ptr bd 0,.int .i64 (k:Int)] vh vn (Way vn bd bp t (nA t k)):=by
 have hsl:=hH hs;have hp:=cA hs (k:=k) (by omega)
 apply aDl.run H.first
 conv=>whnf
 refine (oH H hG hs hl D k hk).mono fun v vh' vn' he=>?_;obtain⟨e1,e2,e3⟩:=he;rw[e1,e2,e3];clear e1 e2 e3
 conv=>whnf
 rw[show wr .i64 ((pos t k:Int)+1)=(pos t k:Int)+1 by rw[aF]<;>omega]
 obtain⟨ls,st,P⟩:=D.p;refine (sC H.toXPar (by omega) P _).mono fun v vh' vn' he=>?_
 obtain⟨e1,e2,e3⟩:=he;rw[e1,e2,e3,show (if opB (aQ t 0) ((pos t k:Int)+1)=true then (aM ((aQ t 0).take ((pos t k:Int)+1).toNat):Int) else -1)=nA t k from aGB hs hk]
 conv=>whnf
 exact Get.mk _ (fun _ _ h=>h) ⟨rfl,D,rfl⟩
theorem DD(n:Int):aE Tryz.prog X G rR [.ptr bd 0,.int .i64 (k:Int),.int .i64 n] vh vn (Way vn bd bp t (upA t k n)):=by
 have hsl:=hH hs;apply aDq.run H.dup
 conv=>whnf
 refine (oH H hG hs hl D k hk).mono fun v vh' vn' he=>?_;obtain⟨e1,e2,e3⟩:=he;rw[e1,e2,e3];clear e1 e2 e3
 conv=>whnf
 obtain⟨ls,st,P⟩:=D.p;refine (MG H.toXPar3 (by omega) P _ n).mono fun v vh1 n1 he=>?_
 obtain⟨e1,F1,⟨st1,P1,_⟩,e3⟩:=he;rw[pG hs hk,if_pos rfl,Int.toNat_natCast] at e3;rw[e1,e3];clear e1 e3
 conv=>whnf
 refine (sC H.toXPar (by omega) P1 _).mono fun v vh' vn' he=>?_
 obtain⟨e1,e2,e3⟩:=he;rw[e1,e2,e3,show (if opB (aQ t 0) (upN (aQ t 0) (pos t k) n)=true then (aM ((aQ t 0).take (upN (aQ t 0) (pos t k) n).toNat):Int) else -1)=upA t k n from TL hs hk n]
 conv=>whnf
 exact Get.mk _ (fun _ _ h=>h) ⟨rfl,D.upd F1 P1,rfl⟩
theorem uW:aE Tryz.prog X G p9 [.ptr bd 0,.int .i64 (k:Int)] vh vn (Way vn bd bp t (eZ t k)):=by
 have hsl:=hH hs;apply aDo.run H.parent
 conv=>whnf
 refine (oH H hG hs hl D k hk).mono fun v vh' vn' he=>?_;obtain⟨e1,e2,e3⟩:=he;rw[e1,e2,e3];clear e1 e2 e3
 conv=>whnf
 obtain⟨ls,st,P⟩:=D.p;refine (W6 H.toXPar3 (by omega) P _).mono fun v vh1 n1 he=>?_
 obtain⟨e1,F1,⟨st1,P1,_⟩,e3⟩:=he;rw[pG hs hk,if_pos rfl,Int.toNat_natCast] at e3;rw[e1,e3];clear e1 e3
 conv=>whnf
 refine (sC H.toXPar (by omega) P1 _).mono fun v vh' vn' he=>?_
 obtain⟨e1,e2,e3⟩:=he;rw[e1,e2,e3,show (if opB (aQ t 0) (upN (aQ t 0) (pos t k) 1)=true then (aM ((aQ t 0).take (upN (aQ t 0) (pos t k) 1).toNat):Int) else -1)=eZ t k from (TL hs hk 1).trans (aJo hs hk)]
 conv=>whnf
 exact Get.mk _ (fun _ _ h=>h) ⟨rfl,D.upd F1 P1,rfl⟩
theorem yK:aE Tryz.prog X G rP [.ptr bd 0,.int .i64 (k:Int)] vh vn (Way vn bd bp t (cT t k)):=by
 have hsl:=hH hs;have hp:=cA hs (k:=k) (by omega)
 have hc:=wH hs hk;obtain⟨a1,a2,_,_⟩:=gI hs hk;apply aDn.run H.next
 conv=>whnf
 refine (oH H hG hs hl D k hk).mono fun v vh' vn' he=>?_;obtain⟨e1,e2,e3⟩:=he;rw[e1,e2,e3];clear e1 e2 e3
 conv=>whnf
 obtain⟨ls,st,P⟩:=D.p;refine (DB H.toXPar3 (by omega) P _).mono fun v vh1 n1 he=>?_
 obtain⟨e1,F1,P1,e3⟩:=he;rw[pG hs hk,if_pos rfl,Int.toNat_natCast] at e3;rw[e1,e3];clear e1 e3
 conv=>whnf
 rw[show wr .i64 (dS (aQ t 0) (pos t k)+1)=dS (aQ t 0) (pos t k)+1 by rw[aF]<;>omega]
 refine (sC H.toXPar (by omega) P1 _).mono fun v vh' vn' he=>?_
 obtain⟨e1,e2,e3⟩:=he;rw[e1,e2,e3,show (if opB (aQ t 0) (dS (aQ t 0) (pos t k)+1)=true then (aM ((aQ t 0).take (dS (aQ t 0) (pos t k)+1).toNat):Int) else -1)=cT t k from aGD hs hk]
 conv=>whnf
 exact Get.mk _ (fun _ _ h=>h) ⟨rfl,D.upd F1 P1,rfl⟩
theorem yL:aE Tryz.prog X G rQ [.ptr bd 0,.int .i64 (k:Int)] vh vn (Way vn bd bp t (eM t k)):=by
 have hsl:=hH hs;have hp:=cA hs (k:=k) (by omega)
 apply aDp.run H.prev
 conv=>whnf
 refine (oH H hG hs hl D k hk).mono fun v vh' vn' he=>?_;obtain⟨e1,e2,e3⟩:=he;rw[e1,e2,e3];clear e1 e2 e3
 conv=>whnf
 rw[show wr .i64 ((pos t k:Int)-1)=(pos t k:Int)-1 by rw[aF]<;>omega]
 obtain⟨ls,st,P⟩:=D.p;refine (JZ H.toXPar3 (by omega) P _).mono fun v vh1 n1 he=>?_
 obtain⟨e1,F1,P1,e3⟩:=he;rw[e1,e3];clear e1 e3
 conv=>whnf
 refine (sC H.toXPar (by omega) P1 _).mono fun v vh' vn' he=>?_
 obtain⟨e1,e2,e3⟩:=he;have e4:=aGF hs hk;unfold lS at e4;rw[e1,e2,e3,e4]
 conv=>whnf
 exact Get.mk _ (fun _ _ h=>h) ⟨rfl,D.upd F1 P1,rfl⟩
theorem yJ:aE Tryz.prog X G yR [.ptr bd 0,.int .i64 (k:Int)] vh vn (Way vn bd bp t (nH t k)):=by
 have hsl:=hH hs;have hp:=cA hs (k:=k) (by omega)
 have hc:=wH hs hk;obtain⟨a1,a2,_,_⟩:=gI hs hk;apply aDm.run H.last
 conv=>whnf
 refine (oH H hG hs hl D k hk).mono fun v vh' vn' he=>?_;obtain⟨e1,e2,e3⟩:=he;rw[e1,e2,e3];clear e1 e2 e3
 conv=>whnf
 obtain⟨ls,st,P⟩:=D.p;refine (DB H.toXPar3 (by omega) P _).mono fun v vh1 n1 he=>?_
 obtain⟨e1,F1,P1,e3⟩:=he;rw[pG hs hk,if_pos rfl,Int.toNat_natCast] at e3;rw[e1,e3];clear e1 e3
 conv=>whnf
 rw[show wr .i64 (dS (aQ t 0) (pos t k)-1)=dS (aQ t 0) (pos t k)-1 by rw[aF]<;>omega]
 refine (JZ H.toXPar3 (by omega) P1 _).mono fun v vh2 n2 he=>?_
 obtain⟨e1,F2,P2,e3⟩:=he;rw[e1,e3];clear e1 e3
 conv=>whnf
 refine (sC H.toXPar (by omega) P2 _).mono fun v vh' vn' he=>?_
 obtain⟨e1,e2,e3⟩:=he;have e4:=aGC hs hk;unfold lS at e4;rw[e1,e2,e3,e4]
 conv=>whnf
 exact Get.mk _ (fun _ _ h=>h) ⟨rfl,(D.upd F1 P1).upd F2 P2,rfl⟩
theorem J2:aE Tryz.prog X G yO [.ptr bd 0,.int .i64 (k:Int)] vh vn (Way vn bd bp t ((aI t k:Int)-k)):=by
 have hsl:=hH hs;have hp:=cA hs (k:=k) (by omega)
 have hc:=wH hs hk;obtain⟨a1,a2,_,_⟩:=gI hs hk;apply aDj.run H.count
 conv=>whnf
 refine (oH H hG hs hl D k hk).mono fun v vh' vn' he=>?_;obtain⟨e1,e2,e3⟩:=he;rw[e1,e2,e3];clear e1 e2 e3
 conv=>whnf
 obtain⟨ls,st,P⟩:=D.p;refine (YS H.toXPar3 (by omega) P _).mono fun v vh1 n1 he=>?_
 obtain⟨e1,F1,P1,e3⟩:=he;rw[pG hs hk,if_pos rfl,Int.toNat_natCast,hc,show 2*(aI t k:Int)-dep t k-1-(pos t k:Int)+1=((2*(aI t k-k):Nat):Int) by omega,show ((2*(aI t k-k):Nat):Int).tdiv 2=((2*(aI t k-k) / 2:Nat):Int) from rfl,show 2*(aI t k-k) / 2=aI t k-k by omega,show ((aI t k-k:Nat):Int)=(aI t k:Int)-k by omega] at e3
 rw[e1,e3];clear e1 e3
 conv=>whnf
 exact Get.mk _ (fun _ _ h=>h) ⟨rfl,D.upd F1 P1,rfl⟩
theorem WY:aE Tryz.prog X G yP [.ptr bd 0,.int .i64 (k:Int)] vh vn (Way vn bd bp t (dep t k)):=by
 have hsl:=hH hs;have hp:=cA hs (k:=k) (by omega)
 have hstp:=pK hs hk;have hm:=kO hs (j:=k+1) (k:=t.length) (by omega) (Nat.le_refl _)
 rw[nS hs] at hm;have hx:ex (aQ t 0) (pos t k+1)=dep t k+1:=by rw[kF hs hk (Nat.lt_succ_self _) (by omega)];omega
 apply aDk.run H.ddepth
 conv=>whnf
 refine (oH H hG hs hl D k hk).mono fun v vh' vn' he=>?_;obtain⟨e1,e2,e3⟩:=he;rw[e1,e2,e3];clear e1 e2 e3
 conv=>whnf
 obtain⟨ls,st,P⟩:=D.p;have hE:aE Tryz.prog X G y8 [.ptr bp 0,.int .i64 (pos t k:Int)] vh vn fun v vh' vn'=>vh'=vh/\vn'=vn/\v=.int .i64 (dep t k+1):=by
  apply aEK.run H.excess
  conv=>whnf
  refine (DP H.toXPar P).mono fun v vh' vn' he=>?_;obtain⟨e1,e2,e3⟩:=he;rw[e1,e2,e3];clear e1 e2 e3
  conv=>whnf
  refine aA.mk (fun h=>absurd (of_decide_eq_true (show decide (((aQ t 0).length:Int)<=(pos t k:Int))=true from h)) (by omega)) (fun _=>?_)
  conv=>whnf
  refine (qN H.toXPar (by omega) P (pos t k+1) (by omega) (pos t k:Int) (by omega)).mono fun v vh' vn' he=>?_
  obtain⟨e1,e2,e3⟩:=he;rw[e1,e2,e3,hx]
  conv=>whnf
  exact Get.mk _ (fun _ _ h=>h) ⟨rfl,rfl,rfl⟩
 refine hE.mono fun v vh' vn' he=>?_;obtain⟨e1,e2,e3⟩:=he;rw[e1,e2,e3];clear e1 e2 e3
 conv=>whnf
 rw[show max (wr .i64 (dep t k+1-1)) (-1)=dep t k by rw[show wr .i64 (dep t k+1-1)=dep t k by rw[aF]<;>omega];omega]
 exact Get.mk _ (fun _ _ h=>h) ⟨rfl,D,rfl⟩
end
section
attribute [local irreducible] aO wd bA aM pc dE bN rkN cQ dT ex upN dS mR clB opB aQ aI eZ eM cT nA nH upA dep nI
variable {X : Ovr} {G : Gt}
theorem lQ{a b:Int}(h:a=b):¬((!decide (a=b))=true):=by simp[h]
theorem aCB:∀a∈jM,(a.p.length<10/\a.l.length<10/\a.v.length<10)/\(∀c∈a.p,c<256)/\(∀c∈a.l,c<256)/\∀c∈a.v,c<256:=by decide
theorem aF4:∀s∈lM,s.length<256/\∀x∈s,x<256:=by decide
theorem Made.treeB{PN:List Nat->List Nat->Prop}{PV PT:List Nat->Prop}{t:List Nd}(M:Made t)(hM:∀n,fF n->NdT PN PV PT n):MC PN PV PT t where
 may:=M.may
 st:=M.steps
 ne:=M.rooted.1
 len:=M.len
 ok n hn:=hM n (M.nd n hn).1
 s n hn:=⟨(M.nd n hn).1.s,fun a ha=>by obtain⟨c,hc,e1,e2,e3⟩:=(M.nd n hn).1.a a ha;obtain⟨⟨h1,h2,h3⟩,h4,h5,h6⟩:=aCB c hc;exact⟨by rw[e1];exact h1,by rw[e2];exact h2,by rw[e3];exact h3,by rw[e1];exact h4,by rw[e2];exact h5,by rw[e3];exact h6⟩⟩
 v n hn:=aF4 _ (M.nd n hn).1.v
theorem aCh{t:List Nd}(R:DX t):aI t 0=t.length:=by
 obtain⟨a1,a2,a3,a4⟩:=A7 t 0 R.1;refine Decidable.byContradiction fun h=>?_;have h1:=a4 (by omega)
 have h2:=R.2.2 (aI t 0) (by omega) (by omega)
 have h3:=R.2.1;omega
structure C4(X:Ovr)(G:Gt)(PN:List Nat->List Nat->Prop)(PV PT:List Nat->Prop):Prop where
 H:qQ X
 K:XK X
 hG:G j8=some tzL
 lib:mM X G PN PV PT
 hM:∀n,fF n->NdT PN PV PT n
 told:∀vh vn,aE Tryz.prog X G u6 [] vh vn fun v vh' vn'=>v=.bool true/\vh'=vh/\vn'=vn
end
section
open Go Go.Ev Go.VL
theorem aDL{α:Type}{ts:List α}{L:List (Nat×List AV)}(h:ts.length=L.length)(h4:L.length=4):∃a b c d,ts=[a,b,c,d]:=by
 match ts,h with
 |[a,b,c,d],_=>exact⟨a,b,c,d,rfl⟩
 |[],h=>simp[h4] at h
 |[_],h=>simp[h4] at h
 |[_,_],h=>simp[h4] at h
 |[_,_,_],h=>simp[h4] at h
 |_::_::_::_::_::_,h=>simp[h4] at h
theorem rH{f:FuncId}{T:List (List AV)}{A:List AV->AV}(m:Int)(h:ran f T A)(hT:T.all (fun us=>us.all pJ&&pJ (A us))=true):oI Tryz.prog f (jP (tb m) T A):=by
 refine aD8 (H7 M9) GB (n:=1000000) ?_ hT fun ts hts=>?_
 ·have h0:Nat.blt 0 Tryz.prog.globals.size=true:=by kernel_rfl
  have h1:Nat.blt 1 Tryz.prog.globals.size=true:=by kernel_rfl
  have h2:Nat.blt 2 Tryz.prog.globals.size=true:=by kernel_rfl
  have h3:Nat.blt 3 Tryz.prog.globals.size=true:=by kernel_rfl
  have q:dbL.all kI=true:=by kernel_rfl
  have q0:nB.all kI=true:=by kernel_rfl
  have q1:mP.all kI=true:=by kernel_rfl
  simp only[tb,List.all_cons,List.all_nil,h0,h1,h2,h3,q,q0,q1,Bool.and_true,Bool.true_and];rfl
 ·obtain⟨a,b,c,d,rfl⟩:=aDL hts rfl;exact h m a b c d
noncomputable def XN2(m:Int):List (Nat×Ent):=(vT,jP (tb m) JD EL)::(vS,jP (tb m) JA EI)::(zS,jP (tb m) JG EO)::(qI,jP (tb m) JC EJ)::(zP,jP (tb m) JF EN)::(zR,jP (tb m) JE EM)::(u6,jP (tb m) [[]] EP)::base
theorem MM(m:Int):sB Tryz.prog (ovr (XN2 m)):=H7 fun p hp=>by
 rcases List.mem_cons.1 hp with rfl|hp
 ·exact rH m aIs (by kernel_rfl)
 rcases List.mem_cons.1 hp with rfl|hp
 ·exact rH m aIq (by kernel_rfl)
 rcases List.mem_cons.1 hp with rfl|hp
 ·exact rH m aIv (by kernel_rfl)
 rcases List.mem_cons.1 hp with rfl|hp
 ·exact rH m aIr (by kernel_rfl)
 rcases List.mem_cons.1 hp with rfl|hp
 ·exact rH m aIu (by kernel_rfl)
 rcases List.mem_cons.1 hp with rfl|hp
 ·exact rH m aIt (by kernel_rfl)
 rcases List.mem_cons.1 hp with rfl|hp
 ·exact rH m aIw (by kernel_rfl)
 ·exact M9 p hp
def PNt(p l:List Nat):Prop:=(p,l)∈S7
def PVt(s:List Nat):Prop:=s∈yG
def PTt(s:List Nat):Prop:=s∈VP
theorem aFZ(m:Int){G:Gt}(hG:∀p∈tb m,∃l,G p.1=some l/\l.all lX=true/\l.map plA=p.2):mM (ovr (XN2 m)) G PNt PVt PTt where
 named p l h vh vn:=(rF (L:=tb m) (T:=JD) (F:=EL) rfl hG (vs:=[.str p,.str l]) (r:=.bool (dV p l)) rfl rfl (List.mem_map.2 ⟨_,h,rfl⟩) rfl vh vn).mono fun v vh' vn' he=>⟨he.1,by rw[he.2.1,he.2.2];exact Frm.refl _ _⟩
 chars s h vh vn:=(rF (L:=tb m) (T:=JA) (F:=EI) rfl hG (vs:=[.str s]) (r:=.bool (gC s)) rfl rfl (List.mem_map.2 ⟨_,h,rfl⟩) rfl vh vn).mono fun v vh' vn' he=>⟨he.1,by rw[he.2.1,he.2.2];exact Frm.refl _ _⟩
 target s h vh vn:=(rF (L:=tb m) (T:=JG) (F:=EO) rfl hG (vs:=[.str s]) (r:=.bool (pT s)) rfl rfl (List.mem_map.2 ⟨_,h,rfl⟩) rfl vh vn).mono fun v vh' vn' he=>⟨he.1,by rw[he.2.1,he.2.2];exact Frm.refl _ _⟩
 contains s w h hw vh vn:=(rF (L:=tb m) (T:=JC) (F:=EJ) rfl hG (vs:=[.str s,.str w]) (r:=.bool (iJ s w)) rfl rfl (List.mem_flatMap.2 ⟨_,h,List.mem_map.2 ⟨_,hw,rfl⟩⟩) rfl vh vn).mono fun v vh' vn' he=>⟨he.1,by rw[he.2.1,he.2.2];exact Frm.refl _ _⟩
 suffix s h vh vn:=(rF (L:=tb m) (T:=JF) (F:=EN) rfl hG (vs:=[.str s,.str z7]) (r:=.bool (!decide (s=[])&&decide ((s.getLastD 0:Int)=45))) rfl rfl (List.mem_map.2 ⟨_,h,rfl⟩) rfl vh vn).mono fun v vh' vn' he=>⟨he.1,by rw[he.2.1,he.2.2];exact Frm.refl _ _⟩
 spaces s h vh vn:=(rF (L:=tb m) (T:=JE) (F:=EM) rfl hG (vs:=[.str s,.int .i64 0]) (r:=.int .i64 ((s.takeWhile fun c=>pQ (wr .i32 (.ofNat c))).length:Int)) rfl rfl (List.mem_map.2 ⟨_,h,rfl⟩) rfl vh vn).mono fun v vh' vn' he=>⟨_,he.1,by
  cases s with
  |nil=>simp
  |cons c s=>
   cases hc:pQ (wr .i32 (.ofNat c)) with
   |true=>simp only[List.takeWhile_cons,hc,if_true,List.length_cons,List.headD_cons,reduceCtorEq,false_or,Bool.true_eq_false,iff_false];omega
   |false=>simp[List.takeWhile_cons,hc],by rw[he.2.1,he.2.2];exact Frm.refl _ _⟩
theorem aCD{c:aB}(h:c∈jM):PNt c.p c.l:=List.mem_append_right _ (List.mem_map.2 ⟨c,h,rfl⟩)
theorem aCF{c:aB}(h:c∈jM):PVt c.v:=List.mem_append_right _ (List.mem_map.2 ⟨c,h,rfl⟩)
theorem aFf(n:Nd)(h:fF n):NdT PNt PVt PTt n where
 s:=by have:=h.s;omega
 e _:=⟨List.mem_append_left _ (List.mem_flatMap.2 ⟨_,h.p,List.mem_map.2 ⟨_,h.l,rfl⟩⟩),fun a ha=>by obtain⟨c,hc,e1,e2,e3⟩:=h.a a ha;rw[e1,e2,e3];exact⟨aCD hc,aCF hc⟩⟩
 v _:=List.mem_append_left _ h.v
 t _:=h.l
theorem ZA(m:Int):qQ (ovr (XN2 m)):=by repeat' (first|exact rfl|constructor)
theorem ZB(m:Int):XK (ovr (XN2 m)):=by repeat' (first|exact rfl|constructor)
theorem aJi(m:Int){G:Gt}(hG:∀p∈tb m,∃l,G p.1=some l/\l.all lX=true/\l.map plA=p.2)(vh:VH)(vn:Nat):aE Tryz.prog (ovr (XN2 m)) G u6 [] vh vn fun v vh' vn'=>v=.bool true/\vh'=vh/\vn'=vn:=rF (L:=tb m) (T:=[[]]) (F:=EP) rfl hG (vs:=[]) (r:=.bool true) rfl rfl (.head _) rfl vh vn
end
end Go.Proofs.YtjoadepfokpcoaaGreatDoor
namespace Go.VL
section
open Go.Ev Go.RowKit
section
variable {P : Program}
def qJ(W:World)(v:Value)(ls:List Int):Prop:=(v=.slice none 0 0/\ls=[])\/∃(b o len cap:Nat) (zs:List Int),v=.slice (some ⟨b,o,none⟩) len cap/\len<=cap/\zs.length=cap/\ls=zs.take len/\∀i,i<cap->W.cell? ⟨b,o+i,none⟩=some (.int .i64 (zs.getD i 0))
structure Start(P:Program)(W:World)(G:Gt)(σ:Map)(h:H)(nx:Nat):Prop where
 rh:RH σ h W
 bd:Bd σ nx
 gl:gE P σ
 ro:∀i A,h.get i=some A->A.ro=true
 gt:aV G (wOf h)
theorem JP{h:H}{i:Nat}{l:List AV}{e:TypeId}{fz:Nat}{raw:Bool}(hi:h.get i=some (.cells l e fz raw)):(wOf h).K i=some l:=by simp only[wOf,hi]
theorem J3{w:Wd}:∀ls:List Int,dB w 1 (ls.map fun n=>[V.int .i64 n]) (ls.map (AV.int .i64))
 |[]=>.nil _ _
 |n::ls=>.cons _ _ _ _ (.cons _ _ _ _ (.int _ _) (.nil _)) rfl (J3 ls)
theorem J4{w:Wd}:∀(ls:List Int) (m:List AV),dB w 1 (ls.map fun n=>[V.int .i64 n]) (ls.map (AV.int .i64)++m)
 |[],_=>.nil _ _
 |n::ls,m=>.cons _ _ _ _ (.cons _ _ _ _ (.int _ _) (.nil _)) rfl (J4 ls m)
theorem SC{H:Type}{enc:TypeId×Value->H}{W:World}{base:Nat}{t e:TypeId}{v:Value}{d:DataW H}{ps:List MemPlace}(ht:P.underlying t=some (.slice e))(he:P.underlying e=some (.int .i64))(hc:P.cellsOf e=1)(hval:Value.okWide P W .any base t v)
  (h:DataW.Trod enc P W 0 (fun _=>true) true t v d ps):∃ls,qJ W v ls:=by
 obtain⟨fuel,hf⟩:=h;have hk:Cell.ok P W .any base t v:=by unfold Value.okWide at hval;simp only[ht] at hval;unfold Cell.okWide at hval;simp only[ht] at hval;exact hval
 rcases ChangeShapes.open_ints ht he hc hf with⟨hcs,hx⟩|⟨a,len,cap,zs,hcs,_,hl,hm,hz,hx,hcell,hwz⟩
 ·refine⟨[],.inl ⟨?_,rfl⟩⟩;unfold Cell.ok at hk;simp only[ht] at hk;split at hk<;>simp_all[Value.cells]
 ·have hv:v=.slice (some a) len cap:=by unfold Cell.ok at hk;simp only[ht] at hk;split at hk<;>simp_all[Value.cells]
  subst hv;have hsp:a.spot=none:=by unfold Cell.ok at hk;simp only[ht] at hk;exact hk.2.2.2.1
  obtain⟨b,o,spot⟩:=a;subst hsp;simp only[if_true] at hz;refine⟨zs.take len,.inr ⟨b,o,len,cap,zs,rfl,hl,hz,rfl,fun i hi=>?_⟩⟩;have:=hcell i (by omega)
  rw[jK] at this;exact this
end
end
section
open Go.Ev Go.RowKit
section
variable {P : Program}
def gtT(L:List Tab):Gt:=fun k=>(L.find? fun t=>Nat.beq t.g k).map fun t=>t.l.map toV
where toV:AV->V
 |.bool b=>.bool b
 |.int k n=>.int k n
 |.str s=>.str s
 |_=>.lost
theorem aJs{h:H}{nx:Nat}{A:AB}(hn:h.get nx=none):(wOf h).le (wOf (h.set nx A)):=by
 refine⟨fun b i e=>(by cases e),fun i L hi=>?_⟩
 have hne:i≠nx:=fun e=>by subst e;simp only[wOf,hn] at hi;cases hi
 simp only[wOf] at hi ⊢;rw[Tr.get_set,if_neg hne];exact hi
theorem JI:∀{L:List Tab} {h:H},(L.map (·.g)).Nodup->∀u∈L,(iS L h).get u.g=some u.blk
 |[],_,_,u,hu=>by cases hu
 |t::L,h,hnd,u,hu=>by
  rw[List.map_cons,List.nodup_cons] at hnd;show (Tr.set _ t.g _).get u.g=_;rw[Tr.get_set];rcases List.mem_cons.1 hu with rfl|hu
  ·rw[if_pos rfl]
  ·have hne:u.g≠t.g:=fun e=>hnd.1 (e▸List.mem_map.2 ⟨u,hu,rfl⟩);rw[if_neg hne];exact JI hnd.2 u hu
theorem aJ0{W:World}{L:List Tab}{g:Nat}{t:TypeId}{m:Int}{G:Gt}(hs:P.globals.size<=W.heap.size)(hnd:(L.map (·.g)).Nodup)(hL:∀u∈L,qP P W u)(hgt:aV G (wOf (iS L .e)))(hg:wZ g t .i64 m∈L)(hm:W.heap[g]? =some (.cells #[.int .i64 m] t (0,0)))
  (hoth:∀u∈L,u.g≠g->∀(c:Array Value) e fr (i:Nat) z,W.heap[u.g]? =some (.cells c e fr)->c[i]?≠some (.int .i64 z)) {v:Value} {ls:List Int} (hv:qJ W v ls):
  ∃σ h nx u,Start P W G σ h nx/\Den (wOf h) (.sl 1 (ls.map fun n=>[V.int .i64 n]) none) u/\RV σ u v:=by
 obtain⟨s1,s2,s3⟩:=aJ1 hs hnd hL;have hro:∀i A,(iS L .e).get i=some A->A.ro=true:=fun i A hi=>by
  rcases uP hi with⟨u,_,_,rfl⟩|⟨_,h1⟩
  ·exact aJd u
  ·rw[Tr.get_e] at h1;cases h1
 have S:Start P W G (lO P L) (iS L .e) P.globals.size:=⟨s1,s2,s3,hro,hgt⟩;have hglt:g<P.globals.size:=(hL _ hg).lt;rcases hv with⟨rfl,rfl⟩|⟨b,o,len,cap,zs,rfl,hlen,hz,rfl,hc⟩
 ·exact⟨_,_,_,.nils,S,.sl0 _ _ (.inl rfl),.nils⟩
 ·by_cases h0:len=0
  ·subst h0;exact⟨_,_,_,.esl,S,by rw[List.take_zero];exact .sle _,.esl _ _⟩
  ·have c0:=hc 0 (by omega)
   obtain⟨c,e,fr,hb⟩:∃c e fr,W.heap[b]? =some (.cells c e fr):=by
    unfold World.cell? at c0;split at c0
    ·rename_i c e fr hb;exact⟨c,e,fr,hb⟩
    ·cases c0
   have hcell:∀i,i<cap->c[o+i]? =some (.int .i64 (zs.getD i 0)):=fun i hi=>by have:=hc i hi;rw[qR hb] at this;exact this
   have hsz:o+cap<=c.size:=by
    have:=(Array.getElem?_eq_some_iff.1 (hcell (cap-1) (by omega))).1
    omega
   by_cases hbg:b=g
   ·subst hbg;rw[hm] at hb;cases hb;have h1:o+cap<=1:=hsz;have ho:o=0:=by omega
    have hcap:cap=1:=by omega
    have hl1:len=1:=by omega
    subst ho;subst hcap;subst hl1;obtain⟨z,rfl⟩:∃z,zs=[z]:=List.length_eq_one_iff.1 hz;have hz0:=hcell 0 (by omega)
    have hzm:z=m:=by simpa using hz0.symm
    subst hzm;have hgb:(iS L .e).get b=some (.cells [.int .i64 z] t 2 true):=JI hnd _ hg;obtain⟨M,hM,hMb⟩:=s1.blk _ _ hgb;have hM2:lO P L b=some ⟨b,0,nJ L b⟩:=by simp[lO,hglt]
    rw[hM2] at hM;cases hM;have hx:1<=nJ L b:=by
     cases hMb with|cells _ _ _ _ c2 q1 q2 k1 k2 k3 k4 k5 k6 k7 k8=>
     simp at k3;omega
    refine⟨_,_,_,.sl b 0 1 1 (some 1),S,.sl _ _ _ _ _ _ _ [.int .i64 z] (JP hgb) rfl (by omega) (J3 [z]) (.inl rfl) (fun x hx=>by cases hx;omega) (by simp),?_⟩
    exact .slx b 0 1 1 1 ⟨b,0,nJ L b⟩ hM2 (by omega) (by omega) (by simp;omega)
   ·have hlt:b<W.heap.size:=(Array.getElem?_eq_some_iff.1 hb).1;have hbl:∀u∈L,u.g≠b:=fun u hu e=>by
     by_cases h:u.g=g
     ·exact hbg (by rw[<-e,h])
     ·rw[<-e] at hb;exact hoth u hu h c _ fr _ _ hb (hcell 0 (by omega))
    have hzl:(zs.map (AV.int .i64)).length=cap:=by simp[hz]
    have hB:RB ((lO P L).put P.globals.size ⟨b,o,o+cap⟩) W ⟨b,o,o+cap⟩ (.cells (zs.map (AV.int .i64)) e (cap+1) true):=by
     refine .cells _ _ _ _ c fr.1 fr.2 hb hsz (by simp[hz]) (fun i a ha=>?_) (fun i v h1 h2 h3=>?_) (fun i h1 h2=>?_) (fun h=>by cases h) (.inr ⟨rfl,by omega⟩)
     ·rw[List.getElem?_map] at ha;obtain⟨z,hz1,rfl⟩:=Option.map_eq_some_iff.1 ha;have hi:i<cap:=by have:=(List.getElem?_eq_some_iff.1 hz1).1;omega
      refine⟨_,hcell i hi,?_⟩;rw[List.getD_eq_getElem?_getD,hz1];exact .int _ _
     ·have:=hcell (i-o) (by have h2':i<o+cap:=h2;have h1':o<=i:=h1;omega)
      have h1':o<=i:=h1;rw[show o+(i-o)=i by omega] at this
      rw[this] at h3;cases h3;rfl
     ·have h1':o+(cap+1)<=i:=h1;have h2':i<o+cap:=h2;omega
    have hnone:(iS L .e).get P.globals.size=none:=by
     cases h:(iS L .e).get P.globals.size with
     |none=>rfl
     |some A=>obtain⟨M,hM,_⟩:=s1.blk _ _ h;rw[s2 _ (Nat.le_refl _)] at hM;cases hM
    obtain⟨r1,r2,r3⟩:=RH.add S.rh S.bd S.gl (L:=⟨b,o,o+cap⟩) hlt (fun i A M hi hM he=>by
     rcases uP hi with⟨u,hu,rfl,_⟩|⟨_,h1⟩
     ·simp only[lO,(hL u hu).lt,if_true,Option.some.injEq] at hM;subst hM;exact hbl u hu he
     ·rw[Tr.get_e] at h1;cases h1) hB
    refine⟨_,_,_,.sl P.globals.size 0 len 1 (some cap),⟨r1,r2,r3,fun i A hi=>?_,hgt.mono (aJs hnone)⟩,.sl _ _ _ _ _ _ _ (zs.map (AV.int .i64)) ?_ ?_ (by omega) ?_ (.inl rfl) (fun x hx=>by cases hx;exact hlen) ?_,?_⟩
    ·rw[Tr.get_set] at hi;by_cases ei:i=P.globals.size
     ·simp only[ei,if_true,Option.some.injEq] at hi;subst hi;show Nat.blt (Ev.len (zs.map (AV.int .i64))) (cap+1)=true;rw[bO,aT,hzl];simp
     ·simp only[ei,if_false] at hi;exact S.ro i A hi
    ·exact JP (by rw[Tr.get_set,if_pos rfl])
    ·simp[hz];omega
    ·rw[List.drop_zero];have:=J4 (w:=wOf ((iS L .e).set P.globals.size (.cells (zs.map (AV.int .i64)) e (cap+1) true))) (zs.take len) ((zs.drop len).map (AV.int .i64));rw[<-List.map_append,List.take_append_drop] at this;exact this
    ·simp[hz];exact hlen
    ·exact .slx _ 0 len 1 cap ⟨b,o,o+cap⟩ (Map.put_same _ _ _) hlen (by omega) (by simp)
end
end
end Go.VL
namespace Go.Proofs.YtjoadepfokpcoaaGreatDoor
section
open Go Go.Ev Go.VL Go.Lib
def JB:Tab:=⟨0,dbL,185⟩
def I8:Tab:=⟨1,nB,242⟩
def I9:Tab:=⟨2,mP,245⟩
def dbZ:List Int:=tzN.map fun n:Nat=>(n:Int)
def ED:List Int:=(List.range 16).flatMap fun i=>[(accLo i:Int),(accHi i:Int)]
theorem RL:nB=firstTab.map (AV.int .u8):=by kernel_rfl
theorem QB:dbL=dbZ.map (AV.int .u8):=by kernel_rfl
theorem MN:mP=ED.map (AV.int .u8):=by kernel_rfl
theorem JH{l:List AV}{zs:List Int}(he:l=zs.map (AV.int .u8)){cs:Array Value}(h:∀(i:Nat) z,zs[i]? =some z->cs[i]? =some (.int .u8 z))(i:Nat)(a:AV)(ha:l[i]? =some a):∃k n,a=AV.int k n/\cs[i]? =some (Value.int k n):=by rw[he,List.getElem?_map] at ha;obtain⟨z,hz,rfl⟩:=Option.map_eq_some_iff.1 ha;exact⟨_,z,rfl,h i z hz⟩
theorem JO{W:World}{n:String}{g:Nat}{cs cs':Array Value}{t:TypeId}(hg:Tryz.prog.globalNamed n=some g)(hb:W.heap[g]? =some (.cells cs t (0,0)))(hv:W.var? Tryz.prog n=some cs'):cs'=cs:=by simp only[World.var?,hg,Option.bind_some,hb,Option.some.injEq] at hv;exact hv.symm
theorem ltD:0<Tryz.prog.globals.size:=of_decide_eq_true (by kernel_rfl)
theorem lt3:3<Tryz.prog.globals.size:=of_decide_eq_true (by kernel_rfl)
theorem lt0:1<Tryz.prog.globals.size:=of_decide_eq_true (by kernel_rfl)
theorem lt1:2<Tryz.prog.globals.size:=of_decide_eq_true (by kernel_rfl)
theorem aJa {W : World} (hsh : W.ShapedOpen Tryz.prog) (h : VarReads Tryz.prog W "unicode/utf8.first" firstData) : qP Tryz.prog W I8 := by
 obtain⟨cs,h1,h2,_⟩:=uK hsh (g:=1) (t:=242) (n:=256) lt0 (by kernel_rfl)
 obtain⟨g,t,cs',fuel,p,hg,hty,hvar,hd⟩:=h
 obtain rfl := Option.some.inj ((show Tryz.prog.globalNamed "unicode/utf8.first" = some 1 by kernel_rfl).symm.trans hg)
 obtain rfl:=Option.some.inj ((show (Tryz.prog.globals[1]?).map (·.type)=some 242 by kernel_rfl).symm.trans hty)
 obtain rfl:=JO hg h1 hvar;have hcs:=cells_of_tab (n:=256) Tryz.underlying242 Tryz.underlying5 (by kernel_rfl) (by kernel_rfl) hd
 refine⟨lt0,cs',h1,?_,JH RL fun i z hz=>?_⟩
 ·rw[h2];have e:nB.length=256:=by kernel_rfl
  exact Nat.le_of_eq e
 ·rw[<-Array.getElem?_toList,hcs,List.getElem?_map,hz];rfl
theorem aJc {W : World} (hsh : W.ShapedOpen Tryz.prog) (h : VarReads Tryz.prog W "math/bits.deBruijn64tab" (tabData .u8 dbZ)) : qP Tryz.prog W JB := by
 obtain⟨cs,h1,h2,_⟩:=uK hsh (g:=0) (t:=185) (n:=64) ltD (by kernel_rfl)
 obtain⟨g,t,cs',fuel,p,hg,hty,hvar,hd⟩:=h
 obtain rfl := Option.some.inj ((show Tryz.prog.globalNamed "math/bits.deBruijn64tab" = some 0 by kernel_rfl).symm.trans hg)
 obtain rfl:=Option.some.inj ((show (Tryz.prog.globals[0]?).map (·.type)=some 185 by kernel_rfl).symm.trans hty)
 obtain rfl:=JO hg h1 hvar;have hcs:=cells_of_tab (n:=64) Tryz.underlying185 Tryz.underlying5 (by kernel_rfl) (by kernel_rfl) hd
 refine⟨ltD,cs',h1,?_,JH QB fun i z hz=>?_⟩
 ·rw[h2];have e:dbL.length=64:=by kernel_rfl
  exact Nat.le_of_eq e
 ·rw[<-Array.getElem?_toList,hcs,List.getElem?_map,hz];rfl
theorem aJb {W : World} (hsh : W.ShapedOpen Tryz.prog) (h : VarReads Tryz.prog W "unicode/utf8.acceptRanges" acceptData) : qP Tryz.prog W I9 := by
 obtain⟨cs,h1,h2,_⟩:=uK hsh (g:=2) (t:=245) (n:=32) lt1 (by kernel_rfl)
 obtain⟨g,t,cs',fuel,p,hg,hty,hvar,hd⟩:=h
 obtain rfl := Option.some.inj ((show Tryz.prog.globalNamed "unicode/utf8.acceptRanges" = some 2 by kernel_rfl).symm.trans hg)
 obtain rfl:=Option.some.inj ((show (Tryz.prog.globals[2]?).map (·.type)=some 245 by kernel_rfl).symm.trans hty)
 obtain rfl:=JO hg h1 hvar;have c244:Tryz.prog.cellsOf 244=2:=by kernel_rfl
 have c5:Tryz.prog.cellsOf 5=1:=by kernel_rfl
 have hl:ED.length=32:=by kernel_rfl
 have at2:∀i,i<16->cs'[2*i]? =some (.int .u8 (accLo i:Int))/\cs'[2*i+1]? =some (.int .u8 (accHi i:Int)):=fun i hi=>by
  obtain⟨fuel',d,q,hdi,he⟩:=array_elem Tryz.underlying245 hd i hi;simp only[List.getElem?_map,List.getElem?_range hi,Option.map_some,Option.some.injEq] at hdi;subst hdi;rw[c244] at he;have hcs:=ints_of_struct Tryz.underlying244 (fun j f hj=>by
   match j,hj with
   |0,hj=>simp at hj;subst hj;exact⟨Tryz.underlying5,rfl,c5⟩
   |1,hj=>simp at hj;subst hj;exact⟨Tryz.underlying5,rfl,c5⟩
   |j+2,hj=>simp at hj) (by rw[c244];rfl) he
  have e0:=congrArg (·[0]?) hcs
  have e1:=congrArg (·[1]?) hcs
  simp only[List.getElem?_take,List.getElem?_drop] at e0 e1;constructor
  ·rw[<-Array.getElem?_toList];simpa[Nat.mul_comm] using e0
  ·rw[<-Array.getElem?_toList];simpa[Nat.mul_comm] using e1
 refine⟨lt1,cs',h1,?_,JH MN fun i z hz=>?_⟩
 ·rw[h2];have e:mP.length=32:=by kernel_rfl
  exact Nat.le_of_eq e
 ·have hi:i<32:=by have:=(List.getElem?_eq_some_iff.1 hz).1;omega
  have key:∀i,i<32->ED[i]? =some (if i%2=0 then (accLo (i / 2):Int) else (accHi (i / 2):Int)):=by decide+kernel
  rw[key i hi] at hz;cases hz;obtain⟨q1,q2⟩:=at2 (i / 2) (by omega)
  split
  ·rename_i h0;exact (congrArg (fun j=>cs'[j]?) (by omega:i=2*(i / 2))).trans q1
  ·rename_i h0;exact (congrArg (fun j=>cs'[j]?) (by omega:i=2*(i / 2)+1)).trans q2
def yA(m:Int):List Tab:=[JB,I8,I9,wZ 3 3 .i64 m]
def gtU(m:Int):Gt:=fun k=>bif Nat.beq k 0 then some (dbL.map gtT.toV) else bif Nat.beq k 1 then some (nB.map gtT.toV) else bif Nat.beq k 2 then some (mP.map gtT.toV) else bif Nat.beq k 3 then some [.int .i64 m] else none
theorem AU{w:Wd}:∀(l:List AV),l.all kI=true->aX w (l.map gtT.toV) l
 |[],_=>.nil
 |a::l,h=>by
  simp only[List.all_cons,Bool.and_eq_true] at h;cases a with
  |int k n=>exact .cons _ _ _ _ (.int _ _) (AU l h.2)
  |_=>cases h.1
theorem aCV:dbL.all kI=true:=by kernel_rfl
theorem aDK:nB.all kI=true:=by kernel_rfl
theorem ZD:mP.all kI=true:=by kernel_rfl
theorem CQ{m:Int}{u:Tab}(h:u∈yA m):(wOf (iS (yA m) .e)).K u.g=some u.l:=JP (JI (L:=yA m) (show ([0,1,2,3]:List Nat).Nodup by decide) u h)
theorem aDZ(m:Int):aV (gtU m) (wOf (iS (yA m) .e)):=by
 intro k l hk;unfold gtU at hk;cases h0:Nat.beq k 0 with
 |true=>rw[h0] at hk;cases hk;obtain rfl:=aR.1 h0;exact⟨dbL,CQ (u:=JB) (.head _),AU _ aCV⟩
 |false=>
  rw[h0] at hk;cases h1:Nat.beq k 1 with
  |true=>rw[h1] at hk;cases hk;obtain rfl:=aR.1 h1;exact⟨nB,CQ (u:=I8) (.tail _ (.head _)),AU _ aDK⟩
  |false=>
   rw[h1] at hk;cases h2:Nat.beq k 2 with
   |true=>rw[h2] at hk;cases hk;obtain rfl:=aR.1 h2;exact⟨mP,CQ (u:=I9) (.tail _ (.tail _ (.head _))),AU _ ZD⟩
   |false=>
    rw[h2] at hk;cases h3:Nat.beq k 3 with
    |true=>rw[h3] at hk;cases hk;obtain rfl:=aR.1 h3;exact⟨_,CQ (u:=wZ 3 3 .i64 m) (.tail _ (.tail _ (.tail _ (.head _)))),.cons _ _ _ _ (.int _ _) .nil⟩
    |false=>rw[h3] at hk;cases hk
theorem R0(m:Int):∀p∈tb m,∃l,gtU m p.1=some l/\l.all lX=true/\l.map plA=p.2:=by
 intro p hp;rcases List.mem_cons.1 hp with rfl|hp
 ·exact⟨_,rfl,by kernel_rfl,by kernel_rfl⟩
 rcases List.mem_cons.1 hp with rfl|hp
 ·exact⟨_,rfl,by kernel_rfl,by kernel_rfl⟩
 rcases List.mem_cons.1 hp with rfl|hp
 ·exact⟨_,rfl,by kernel_rfl,by kernel_rfl⟩
 obtain rfl:=List.mem_singleton.1 hp;exact⟨_,rfl,rfl,rfl⟩
theorem aDY(m:Int):gtU m j8=some tzL:=by kernel_rfl
theorem HX{l:List AV}{zs:List Int}(he:l=zs.map (AV.int .u8)){W:World}{u:Tab}(hu:u.l=l)(ht:qP Tryz.prog W u)(hl:∀(c:Array Value) e fr,W.heap[u.g]? =some (.cells c e fr)->c.size=l.length)(c:Array Value)(e:TypeId)(fr:Nat×Nat)(i:Nat)(z:Int)(hb:W.heap[u.g]? =some (.cells c e fr)):c[i]?≠some (.int .i64 z):=by
 intro hc;obtain⟨c',h1,h2,h3⟩:=ht.blk;rw[hb] at h1;cases h1;have hi:=(Array.getElem?_eq_some_iff.1 hc).1;have hs:=hl _ _ _ hb;have hz:l[i]? =some l[i]:=List.getElem?_eq_getElem (by omega)
 obtain⟨k,n,k1,k2⟩:=h3 i l[i] (by rw[hu];exact hz)
 rw[hc] at k2;cases k2;have:l[i]? =(zs.map (AV.int .u8))[i]?:=by rw[he]
 rw[hz,List.getElem?_map] at this;obtain⟨z',_,hz'⟩:=Option.map_eq_some_iff.1 this.symm;rw[<-hz'] at k1;cases k1
theorem EZ{W:World}(hsh:W.ShapedOpen Tryz.prog){g:Nat}{t:TypeId}{n:Nat}(hg:g<Tryz.prog.globals.size)(hz:(((begin Tryz.prog (fun _ _=>0) default).world.heap[g]?).bind Obj.row?).map (fun x=>(x.1.size,x.2))=some (n,t))(c:Array Value)(e:TypeId)(fr:Nat×Nat)(hb:W.heap[g]? =some (.cells c e fr)):c.size=n:=by obtain⟨cs,h1,h2,_⟩:=uK hsh hg hz;rw[h1] at hb;cases hb;exact h2
theorem VM {W : World} (hsh : W.ShapedOpen Tryz.prog) (hD : VarReads Tryz.prog W "math/bits.deBruijn64tab" (tabData .u8 dbZ)) (h0 : VarReads Tryz.prog W "unicode/utf8.first" firstData) (h1 : VarReads Tryz.prog W "unicode/utf8.acceptRanges" acceptData) {v : Value} {ls : List Int} (hv : qJ W v ls) :
  ∃m σ h nx u,Go.VL.Start Tryz.prog W (gtU m) σ h nx/\Den (wOf h) (.sl 1 (ls.map fun n=>[V.int .i64 n]) none) u/\RV σ u v:=by
 obtain⟨m,hm⟩:=aJL hsh (g:=3) (t:=3) (k:=.i64) lt3 (by kernel_rfl) (by kernel_rfl) Tryz.underlying3 (by kernel_rfl)
 have hs:=aJM hsh (g:=10) (t:=277) (n:=32) (by kernel_rfl) (by kernel_rfl)
 have tD:=aJc hsh hD;have t0:=aJa hsh h0;have t1:=aJb hsh h1;refine⟨m,aJ0 (L:=yA m) (g:=3) (t:=3) (m:=m) hs (show ([0,1,2,3]:List Nat).Nodup by decide) (fun u hu=>?_) (aDZ m) (.tail _ (.tail _ (.tail _ (.head _)))) hm (fun u hu hne c e fr i z hb=>?_) hv⟩
 ·rcases List.mem_cons.1 hu with rfl|hu
  ·exact tD
  rcases List.mem_cons.1 hu with rfl|hu
  ·exact t0
  rcases List.mem_cons.1 hu with rfl|hu
  ·exact t1
  obtain rfl:=List.mem_singleton.1 hu;exact aD4 lt3 hm
 ·rcases List.mem_cons.1 hu with rfl|hu
  ·exact HX QB rfl tD (fun c e fr hb=>(EZ hsh ltD (t:=185) (n:=64) (by kernel_rfl) c e fr hb).trans (show (64:Nat)=dbL.length by kernel_rfl)) c e fr i z hb
  rcases List.mem_cons.1 hu with rfl|hu
  ·exact HX RL rfl t0 (fun c e fr hb=>(EZ hsh lt0 (t:=242) (n:=256) (by kernel_rfl) c e fr hb).trans (show (256:Nat)=nB.length by kernel_rfl)) c e fr i z hb
  rcases List.mem_cons.1 hu with rfl|hu
  ·exact HX MN rfl t1 (fun c e fr hb=>(EZ hsh lt1 (t:=245) (n:=32) (by kernel_rfl) c e fr hb).trans (show (32:Nat)=mP.length by kernel_rfl)) c e fr i z hb
  obtain rfl:=List.mem_singleton.1 hu;exact absurd rfl hne
theorem M7(m:Int):C4 (ovr (XN2 m)) (gtU m) PNt PVt PTt where
 H:=ZA m
 K:=ZB m
 hG:=aDY m
 lib:=aFZ m (R0 m)
 hM:=aFf
 told:=aJi m (R0 m)
end
end Go.Proofs.YtjoadepfokpcoaaGreatDoor
