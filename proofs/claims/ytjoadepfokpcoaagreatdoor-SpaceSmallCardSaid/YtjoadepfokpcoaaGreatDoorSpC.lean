/- What SpaceSmall rests on; no condition. -/
import Derived.KernelRfl
import Derived.Test.YtjoadepfokpcoaaGreatDoorChecked
import Derived.Test.YtjoadepfokpcoaaGreatDoorSpB
set_option linter.unusedSimpArgs false
set_option linter.unusedVariables false
set_option linter.constructorNameAsVariable false
set_option linter.unnecessarySimpa false
namespace Go.VL
section
open Go.Ev
section
variable {P : Program} {G : Gt} {call : dD} {w : Wd} {s : St} {e : Env} {h : H} {an nid : Nat} {K : V → St → Prop}
theorem aGU(hg:aV G w)(hr:HR w s.vh s.nx h an)(er:ER w s.env e h an)(hf:bZ w s.env e nid){es by':Nat}{z:List V}{ty t:TypeId}{l c:VX}{l' c':Operand}(hc:cop P (.mkSl es z ty by' l c) (.makeSlice t l' c')=true)
  (hk:bF G call (.mkSl es z ty by' l c) s K):bD w s e h an nid (opA P (.makeSlice t l' c') e h nid) K:=by
 simp only[cop,Bool.and_eq_true] at hc;obtain⟨⟨⟨⟨⟨h1,h2⟩,h3⟩,h4⟩,h5⟩,h6⟩:=hc;obtain⟨hu,hs,he⟩:=BT h1;obtain⟨za,zc,g1,g2,g3⟩:=pZ h2;have hz:=aP.1 h3;have hby:=i6 h4;obtain⟨vl,h7,h8⟩:=bI hg er h5 hk;generalize hrl:rd e l'=rl at h8;split at h7
 ·obtain⟨vc,h9,h10⟩:=bI hg er h6 h7;generalize hrc:rd e c'=rc at h10;split at h9
  ·obtain⟨i,rfl,j,⟨rfl,k1,k2,k3⟩,h9⟩:=h9;cases h8;cases h10;refine lO hr er hf (a:=.sl nid 0 i es (some j)) (A:=.cells (Ev.reps j zc) ty 0 false) h9 ?_ (.cells _ _ _ _ _ ((g3 w).reps j)) (.msl _ _ _ _ _ nid (by simp[Wd.addB]))
   simp only[opA,hrl,hrc];show lK P t (.int _ (.ofNat i)) (.int _ (.ofNat j)) h nid=_;simp only[lK,hu,hs,hby,g1,g2];rw[cF.2 he,aP.2 (by rw[aT,<-(g3 w).length];exact hz:len zc=es),bC.2 k1,bC.2 k2,cF.2 k3]
   rfl
  ·exact h9.elim
 ·exact h7.elim
theorem aGG(hg:aV G w)(hr:HR w s.vh s.nx h an)(er:ER w s.env e h an){x:VX}{lo hi:Option VX}{t:TypeId}{y:Operand}{lo' hi':Option Operand}(hc:cop P (.cutS x lo hi) (.slice t y lo' hi' none)=true)
  (hk:bF G call (.cutS x lo hi) s K):bD w s e h an nid (opA P (.slice t y lo' hi' none) e h nid) K:=by
 simp only[cop,Bool.and_eq_true] at hc;obtain⟨⟨⟨h1,h2⟩,h3⟩,h4⟩:=hc;have hu:=jN h1;obtain⟨v,h5,h6⟩:=bI hg er h2 hk;generalize hra:rd e y=ra at h6;split at h5
 ·rename_i l;obtain⟨a,h7,ha⟩:=jU hg er h3 h5;obtain⟨b,h8,hb⟩:=jU hg er h4 h7;obtain⟨⟨k1,k2⟩,hk⟩:=h8;cases h6;refine aU hr er hk ?_ (.str _);have hm:Ev.rdO e (none:Option Operand)=none:=rfl;simp only[opA,hra,eM,hu,hm,BV,ha,aT,hb];rw[bC.2 k1,bC.2 k2];simp only[Bool.and_self,cond_true,eP,dI]
 ·exact h5.elim
theorem E6{w:Wd}{ls:List (List V)}{i o es:Nat}{L:List AV}(hK:w.K i=some L)(he:0<es)(hd:dC w es ls (L.drop o))(ho:o+ls.length*es<=L.length){a b m:Nat}(hab:a<=b)(hb:b<=ls.length)(hbm:b<=m){c:Option Nat}(hc:c=none\/c=some (m-a)):
  Den w (.sl es ((ls.drop a).take (b-a)) c) (kZ i o es a b m):=by
 unfold kZ;cases hm:Nat.beq m a with
 |true=>
  have:=aP.1 hm;subst this;have e1:b-m=0:=by omega
  rw[e1];simp only[List.take_zero,cond_true];exact .sl [] c (some 0) i o 0 es L hK rfl he (.nil _ _) (by simpa using hc) (fun x hx=>by cases hx;exact Nat.le_refl _) (by omega)
 |false=>
  simp only[cond_false];have h1:=(hd.drop a).take (b-a);rw[List.drop_drop] at h1;refine .sl _ c _ i (o+a*es) (b-a) es L hK (by simp;omega) he h1 hc (fun x hx=>by cases hx;omega) ?_
  have:a*es+(b-a)*es=b*es:=by rw[<-Nat.add_mul];congr 1;omega
  have h2:b*es<=ls.length*es:=Nat.mul_le_mul_right es hb;omega
theorem aBi{w:Wd}{ls:List (List V)}{i o es:Nat}{L:List AV}(hK:w.K i=some L)(he:0<es)(hd:dC w es ls (L.drop o))(ho:o+ls.length*es<=L.length){a b cl:Nat}(hab:a<=b)(hb:b<=ls.length)(hcl:b<=cl):
  Den w (.sl es ((ls.drop a).take (b-a)) none) (sH i o es a b cl):=by
 unfold sH;cases hm:(Nat.blt a cl||Nat.beq a 0) with
 |false=>
  simp only[Bool.or_eq_false_iff] at hm;have h1:¬a<cl:=fun h=>by rw[cF.2 h] at hm;cases hm.1
  have e1:b-a=0:=by omega
  rw[e1];simp only[List.take_zero,cond_false];exact .sle es
 |true=>
  simp only[cond_true];have h1:=(hd.drop a).take (b-a);rw[List.drop_drop] at h1;refine .sl _ none none i (o+a*es) (b-a) es L hK (by simp;omega) he h1 (.inl rfl) (fun x hx=>by cases hx) ?_
  have:a*es+(b-a)*es=b*es:=by rw[<-Nat.add_mul];congr 1;omega
  have h2:b*es<=ls.length*es:=Nat.mul_le_mul_right es hb;omega
theorem aBv{a n es:Nat}(he:0<es)(h:n*es<=a):n<=a / es:=(Nat.le_div_iff_mul_le he).2 h
theorem E0{w:Wd}{s:St}{h:H}{an:Nat}(hr:HR w s.vh s.nx h an){i o n es:Nat}{L:List AV}{c:Option Nat}(hK:w.K i=some L)(he:0<es)(hc:∀x,c=some x->n<=x)(ho:o+n*es<=L.length):
  ∃cl,eF h i o es c=some cl/\n<=cl/\∀x,c=some x->cl=x:=by
 cases c with
 |some x=>exact⟨x,rfl,hc x rfl,fun y hy=>by cases hy;rfl⟩
 |none=>
  obtain⟨ty,fz,raw,g⟩:=hr.frz _ _ hK;refine⟨(L.length-o) / es,?_,aBv he (by omega),nofun⟩
  simp only[eF,g,aT];rw[cF.2 he];rfl
theorem aGF(hg:aV G w)(hr:HR w s.vh s.nx h an)(er:ER w s.env e h an){es:Nat}{x:VX}{lo hi mx:Option VX}{t:TypeId}{y:Operand}{lo' hi' mx':Option Operand}(hc:cop P (.cutL es x lo hi mx) (.slice t y lo' hi' mx')=true)
  (hk:bF G call (.cutL es x lo hi mx) s K):bD w s e h an nid (opA P (.slice t y lo' hi' mx') e h nid) K:=by
 simp only[cop,Bool.and_eq_true] at hc;obtain⟨⟨⟨⟨⟨h1,h2⟩,h3⟩,h4⟩,h0⟩,hmh⟩:=hc;obtain⟨ty,hu,hs,he⟩:=BU h1;obtain⟨v,h5,h6⟩:=bI hg er h2 hk;clear hk;generalize hra:rd e y=ra at h6;have hbq:Nat.beq es es=true:=aP.2 rfl;have two:mx=none->Ev.rdO e mx'=none:=fun hm=>by
  subst hm;cases mx' with
  |none=>rfl
  |some _=>cases h0
 have three:∀m,mx=some m->∃om ah,mx'=some om/\mK (some m) (some om)=true/\Ev.rdO e hi'=some ah:=fun m hm=>by
  subst hm;cases mx' with
  |none=>cases h0
  |some om=>
   simp only[Option.isNone_some,Bool.false_or] at hmh;obtain⟨q,rfl⟩:=Option.isSome_iff_exists.1 hmh;cases hi' with
   |none=>cases h4
   |some o=>exact⟨om,_,rfl,h0,rfl⟩
 clear h0 hmh;split at h5
 ·
  rename_i es' ls c;cases hes:Nat.beq es es' with
  |false=>rw[hes] at h5;exact h5.elim
  |true=>
  rw[hes] at h5;have:=aP.1 hes;subst this;simp only[cond_true] at h5;obtain⟨a,h7,ha⟩:=jU hg er h3 h5;obtain⟨b,h8,hb⟩:=jU hg er h4 h7;clear h5 h7;cases mx with
  |none=>
   have hm:=two rfl;clear two three;obtain⟨⟨k1,k2⟩,hk⟩:=h8;cases h6 with
   |sl0 _ hcc=>
    simp only[List.length_nil] at k2 hb;obtain rfl:b=0:=by omega
    obtain rfl:a=0:=by omega
    refine aU hr er hk (a:=.nils) ?_ (by simpa using Den.sl0 es none (.inl rfl))
    simp only[opA,hra,eM,hu,ha,hb,hs,hm]
   |sle=>
    simp only[List.length_nil] at k2 hb;obtain rfl:b=0:=by omega
    obtain rfl:a=0:=by omega
    refine aU hr er hk (a:=.esl) ?_ (by simpa using Den.sle es)
    simp only[opA,hra,eM,hu,ha,hb,hs,hm]
   |sl _ _ c' i o n _ L hK hn he' hd hcc hc' ho=>
    subst hn;obtain⟨cl,g1,g2,g3⟩:=E0 hr hK he hc' ho;cases c' with
    |some c'=>
     refine aU hr er hk ?_ (E6 (m:=c') hK he hd ho k1 k2 (by have:=hc' _ rfl;omega) (.inl rfl))
     simp only[opA,hra,eM,hu,hs,hm];rw[hbq];simp only[cond_true,gL,g1,ha,hb];rw[bC.2 (by omega:b<=cl),bC.2 k1]
     rfl
    |none=>
     refine aU hr er hk ?_ (aBi (cl:=cl) hK he hd ho k1 k2 (by omega))
     simp only[opA,hra,eM,hu,hs,hm];rw[hbq];simp only[cond_true,gL,g1,ha,hb];rw[bC.2 (by omega:b<=cl),bC.2 k1]
     rfl
  |some m=>
   obtain⟨om,ah,rfl,hmc,hah⟩:=three m rfl;obtain⟨mm,h9,hmm⟩:=jU hg er hmc h8;have hmm':bnd 0 (some (rd e om))=some mm:=hmm;have hro:Ev.rdO e (some om)=some (rd e om):=rfl;rw[hah] at hb;cases ls with
   |nil=>
    obtain⟨⟨rfl,rfl,rfl⟩,hk⟩:=h9;cases h6 with
    |sl0 _ hcc=>refine aU hr er hk (a:=.nils) ?_ (.sl0 es none (.inl rfl));simp only[List.length_nil] at hb;simp only[opA,hra,eM,hu,ha,hah,hb,hs,hro,hmm']
    |sle=>refine aU hr er hk (a:=.esl) ?_ (.sle es);simp only[List.length_nil] at hb;simp only[opA,hra,eM,hu,ha,hah,hb,hs,hro,hmm']
    |sl _ _ c' i o n _ L hK hn he' hd hcc hc' ho=>
     subst hn;obtain⟨cl,g1,g2,g3⟩:=E0 hr hK he hc' ho;have run:opA P (.slice t y lo' hi' (some om)) e h nid=.val (kZ i o es 0 0 0):=by simp only[opA,hra,eM,hu,hs,hro,hah];rw[hbq];simp only[cond_true,lT,g1,ha,hb,hmm'];rw[bC.2 (Nat.zero_le cl),bC.2 (Nat.le_refl 0)];rfl
     exact aU hr er hk run (E6 (m:=0) hK he hd ho (Nat.le_refl 0) (Nat.le_refl 0) (Nat.le_refl 0) (.inl rfl))
   |cons l0 ls=>
    obtain⟨⟨k1,k2,k3⟩,hk⟩:=h9;cases h6 with
    |sl _ _ c' i o n _ L hK hn he' hd hcc hc' ho=>
     subst hn;obtain⟨cl,g1,g2,g3⟩:=E0 hr hK he hc' ho;have run:opA P (.slice t y lo' hi' (some om)) e h nid=.val (kZ i o es a b mm):=by
      simp only[opA,hra,eM,hu,hs,hro,hah];rw[hbq];simp only[cond_true,lT,g1,ha,hb,hmm'];rw[bC.2 (by omega:mm<=cl),bC.2 k1,bC.2 k2]
      rfl
     exact aU hr er hk run (E6 hK he hd ho k1 (by omega) k2 (.inr rfl))
 ·rename_i b' o n es' c;cases hes:Nat.beq es es' with
  |false=>rw[hes] at h5;exact h5.elim
  |true=>
  rw[hes] at h5;have:=aP.1 hes;subst this;simp only[cond_true] at h5;obtain⟨a,h7,ha⟩:=jU hg er h3 h5;obtain⟨b,h8,hb⟩:=jU hg er h4 h7;cases mx with
  |some m=>exact h8.elim
  |none=>
  have hm:=two rfl;cases h6 with
  |msl _ _ _ _ _ i hi'=>
  cases c with
  |some c=>
   obtain⟨⟨k1,k2,k3⟩,hk⟩:=h8;refine aU hr er hk (a:=.sl i (o+a*es) (b-a) es (some (c-a))) ?_ (.msl _ _ _ _ _ i hi');simp only[opA,hra,eM,hu,hs,hm];rw[hbq];simp only[cond_true,gL,eF,ha,hb];rw[bC.2 k2,bC.2 k1];simp only[Bool.and_self,cond_true,kZ];rw[dW.2 (by omega:c≠a)]
   rfl
  |none=>
   obtain⟨p,hp,⟨k1,k2,k3⟩,hk⟩:=h8;obtain⟨L,g3,g4⟩:=iY hr hp hi';refine aU hr er hk (a:=.sl i (o+a*es) (b-a) es none) ?_ (.msl _ _ _ _ _ i hi');simp only[opA,hra,eM,hu,hs,hm];rw[hbq];simp only[cond_true,gL,eF,g3,ha,hb,aT];rw[cF.2 he,<-g4.length];simp only[cond_true];rw[bC.2 k2,bC.2 k1];simp only[Bool.and_self,cond_true,sH];have:(Nat.blt a ((p.1.length-o) / es)||Nat.beq a 0)=true:=by
    rcases k3 with k3|k3
    ·rw[cF.2 k3];rfl
    ·rw[aP.2 k3,Bool.or_true]
   rw[this];rfl
 ·obtain⟨a,h7,ha⟩:=jU hg er h3 h5;obtain⟨b,h8,hb⟩:=jU hg er h4 h7;cases h6;cases mx with
  |none=>have hm:=two rfl;obtain⟨⟨rfl,rfl⟩,hk⟩:=h8;refine aU hr er hk (a:=.nils) ?_ .nils;simp only[opA,hra,eM,hu,ha,hb,hs,hm]
  |some m=>obtain⟨om,ah,rfl,hmc,hah⟩:=three m rfl;obtain⟨mm,h9,hmm⟩:=jU hg er hmc h8;obtain⟨⟨rfl,rfl,rfl⟩,hk⟩:=h9;have hmm':bnd 0 (some (rd e om))=some 0:=hmm;have hro:Ev.rdO e (some om)=some (rd e om):=rfl;rw[hah] at hb;refine aU hr er hk (a:=.nils) ?_ .nils;simp only[opA,hra,eM,hu,ha,hah,hb,hs,hro,hmm']
 ·exact h5.elim
theorem aGE(hg:aV G w)(hr:HR w s.vh s.nx h an)(er:ER w s.env e h an){es n:Nat}{x:VX}{lo hi:Option VX}{t:TypeId}{y:Operand}{lo' hi':Option Operand}(hc:cop P (.cutA es n x lo hi) (.slice t y lo' hi' none)=true)
  (hk:bF G call (.cutA es n x lo hi) s K):bD w s e h an nid (opA P (.slice t y lo' hi' none) e h nid) K:=by
 simp only[cop,Bool.and_eq_true] at hc;obtain⟨⟨⟨h1,h2⟩,h3⟩,h4⟩:=hc;obtain⟨ty,hu,hs,he⟩:=LC h1;obtain⟨v,h5,h6⟩:=bI hg er h2 hk;clear hk;generalize hra:rd e y=ra at h6;split at h5
 ·rename_i b' o;obtain⟨a,h7,ha⟩:=jU hg er h3 h5;obtain⟨r,h8,hb⟩:=jU hg er h4 h7;obtain⟨p,hp,⟨k1,k2,k3,k4⟩,hk⟩:=h8;cases h6 with
  |ptr _ _ i hi'=>
  obtain⟨L,g3,g4⟩:=iY hr hp hi';have hm:Ev.rdO e (none:Option Operand)=none:=rfl;refine aU hr er hk (a:=.sl i (o+a*es) (r-a) es (some (n-a))) ?_ (.msl _ _ _ _ _ i hi');simp only[opA,hra,eM,hu,hs,hm,g3,aT];rw[cF.2 he,<-g4.length,bC.2 k4];simp only[Bool.and_self,cond_true,gL,eF,ha,hb];rw[bC.2 k2,bC.2 k1];simp only[Bool.and_self,cond_true,kZ];rw[dW.2 (by omega:n≠a)]
  rfl
 ·exact h5.elim
theorem PF{t:TypeId}{f o n:Nat}{ag:Option Bool}(h:AN P t f o ag n=true):∃fs fl,P.underlying t=some (.struct fs)/\fs[f]? =some fl/\fl.offset=o/\
  (match ag with|some ag=>gP P fl.type=some ag/\(ag=true->bG P fl.type=some n)|none=>∃k,bG P fl.type=some (k+1)):=by
 unfold AN at h;split at h
 ·rename_i fs hu;split at h
  ·rename_i fl hf;simp only[Bool.and_eq_true] at h;refine⟨fs,fl,hu,hf,aP.1 h.1,?_⟩;have h2:=h.2;cases ag with
   |some ag=>simp only[Bool.and_eq_true] at h2;exact⟨R0 h2.1,fun e=>by subst e;exact i6 h2.2⟩
   |none=>
    simp only at h2;split at h2
    ·exact⟨_,by assumption⟩
    ·cases h2
  ·cases h
 ·cases h
theorem aGZ(hg:aV G w)(hr:HR w s.vh s.nx h an)(er:ER w s.env e h an){x:VX}{n:Nat}{t:TypeId}{y:Operand}{f:Nat}(hc:cop P (.off x n) (.fieldAddr t y f)=true)
  (hk:bF G call (.off x n) s K):bD w s e h an nid (opA P (.fieldAddr t y f) e h nid) K:=by
 simp only[cop,Bool.and_eq_true] at hc;obtain⟨h1,h2⟩:=hc;obtain⟨fs,fl,hu,hf,ho,k,hk'⟩:=PF h2;obtain⟨v,h3,h4⟩:=bI hg er h1 hk;generalize hra:rd e y=ra at h4;have run:∀i q,rd e y=.ptr i q->opA P (.fieldAddr t y f) e h nid=.val (.ptr i (q+n)):=fun i q hq=>by simp only[opA,hq,fieldAt,hu,hf,hk',ho]
 split at h3
 ·obtain⟨i,rfl,h5⟩:=h4;exact tG hr er h3 (run _ _ hra) ⟨i,rfl,h5⟩
 ·cases h4 with
  |fp _ o p i q L hK hq hp hd=>exact aU hr er h3 (run _ _ hra) (.fp _ _ p i _ L hK (by omega) hp hd)
 ·cases h4 with
  |ptr _ _ i hi=>exact aU hr er h3 (run _ _ hra) (.ptr _ _ i hi)
 ·exact h3.elim
theorem aGK(hg:aV G w)(hr:HR w s.vh s.nx h an)(er:ER w s.env e h an){x:VX}{ag:Bool}{o n:Nat}{t:TypeId}{y:Operand}{f:Nat}(hc:cop P (.fld x ag o n) (.field t y f)=true)
  (hk:bF G call (.fld x ag o n) s K):bD w s e h an nid (opA P (.field t y f) e h nid) K:=by
 simp only[cop,Bool.and_eq_true] at hc;obtain⟨h1,h2⟩:=hc;obtain⟨fs,fl,hu,hf,ho,hag,hs⟩:=PF h2;obtain⟨v,h3,h4⟩:=bI hg er h1 hk;generalize hra:rd e y=ra at h4;split at h3
 ·cases h4 with
  |agg l m hd=>
   obtain⟨v,g1,g2⟩:=QN (L:=m) (p:=0) (Nat.zero_le _) (by simpa using hd.toP') h3
   simp only[Nat.zero_add] at g2;cases ag with
   |true=>obtain⟨m',g3,g4,g5⟩:=g2;refine aU hr er g1 ?_ g5;simp only[opA,hra,sU,hu,hf,eY,hag,hs rfl,ho,aT];rw[bC.2 g4];simp only[cond_true,eP,dI,g3,dL]
   |false=>obtain⟨a,g3,g5⟩:=g2;refine aU hr er g1 ?_ g5;simp only[opA,hra,sU,hu,hf,eY,hag,ho,eW,g3,dL]
 ·exact h3.elim
theorem aGL(hg:aV G w)(hr:HR w s.vh s.nx h an)(er:ER w s.env e h an){es:Nat}{x i:VX}{t:TypeId}{y j:Operand}(hc:cop P (.idx es x i) (.indexAddr t y j)=true)
  (hk:bF G call (.idx es x i) s K):bD w s e h an nid (opA P (.indexAddr t y j) e h nid) K:=by
 simp only[cop,Bool.and_eq_true] at hc;obtain⟨⟨h1,h2⟩,h3⟩:=hc;obtain⟨ty,hu,hs,he⟩:=BU h1;obtain⟨vi,h4,h5⟩:=bI hg er h3 hk;clear hk;generalize hrj:rd e j=rj at h5;have hbq:Nat.beq es es=true:=aP.2 rfl;split at h4
 ·cases h5;obtain⟨v,h6,h7⟩:=bI hg er h2 h4;clear h4;generalize hra:rd e y=ra at h7;split at h6
  ·rename_i es' ls c;cases hes:Nat.beq es es' with
   |false=>rw[hes] at h6;exact h6.elim
   |true=>
   rw[hes] at h6;have:=aP.1 hes;subst this;simp only[cond_true] at h6;obtain⟨⟨k,el⟩,⟨rfl,hel⟩,hk⟩:=h6;simp only at hel hk hrj;cases h7 with
   |sl0=>simp at hel
   |sle=>simp at hel
   |sl _ _ c' i o n _ L hK hn he' hd hcc hc' ho=>
    subst hn;obtain⟨g1,g2⟩:=hd.get hel;rw[List.drop_drop] at g1;have hkl:k<ls.length:=by
     rcases Nat.lt_or_ge k ls.length with h|h
     ·exact h
     ·rw[List.getElem?_eq_none h] at hel;cases hel
    have hkes:(k+1)*es<=ls.length*es:=Nat.mul_le_mul_right es hkl;rw[Nat.succ_mul] at hkes;refine aU hr er hk (a:=.ptr i (o+k*es)) ?_ (.fp el 0 (o+k*es) i _ L hK rfl (by omega) g1)
    simp only[opA,hra,hrj];show indexAt P t _ (.int _ (.ofNat k))=_;simp only[indexAt,hu,hs];rw[cF.2 hkl,hbq];rfl
  ·rename_i b o m es' c;cases hes:Nat.beq es es' with
   |false=>rw[hes] at h6;exact h6.elim
   |true=>
   rw[hes] at h6;have:=aP.1 hes;subst this;simp only[cond_true] at h6;obtain⟨k,⟨rfl,hkm⟩,hk⟩:=h6;cases h7 with
   |msl _ _ _ _ _ i hi=>refine aU hr er hk (a:=.ptr i (o+k*es)) ?_ (.ptr _ _ i hi);simp only[opA,hra,hrj];show indexAt P t _ (.int _ (.ofNat k))=_;simp only[indexAt,hu,hs];rw[cF.2 hkm,hbq];rfl
  ·exact h6.elim
 ·exact h4.elim
theorem aGM(hg:aV G w)(hr:HR w s.vh s.nx h an)(er:ER w s.env e h an){es n:Nat}{x i:VX}{t:TypeId}{y j:Operand}(hc:cop P (.idxA es n x i) (.indexAddr t y j)=true)
  (hk:bF G call (.idxA es n x i) s K):bD w s e h an nid (opA P (.indexAddr t y j) e h nid) K:=by
 simp only[cop,Bool.and_eq_true] at hc;obtain⟨⟨h1,h2⟩,h3⟩:=hc;obtain⟨ty,hu,hs,he⟩:=LC h1;obtain⟨vi,h4,h5⟩:=bI hg er h3 hk;clear hk;generalize hrj:rd e j=rj at h5;split at h4
 ·cases h5;obtain⟨v,h6,h7⟩:=bI hg er h2 h4;clear h4;generalize hra:rd e y=ra at h7;have run:∀i q (k:Nat),rd e y=.ptr i q->rd e j=.int _ (k:Int)->k<n->opA P (.indexAddr t y j) e h nid=.val (.ptr i (q+k*es)):=fun i q k hq hkk hkn=>by simp only[opA,hq,hrj] at hkk ⊢;cases hkk;show indexAt P t _ (.int _ (.ofNat k))=_;simp only[indexAt,hu,hs];rw[cF.2 hkn];rfl
  split at h6
  ·obtain⟨k,⟨rfl,hkm⟩,hk⟩:=h6;obtain⟨i,rfl,h5⟩:=h7;exact tG hr er hk (run _ _ k hra hrj hkm) ⟨i,rfl,h5⟩
  ·obtain⟨k,⟨rfl,hkm⟩,hk⟩:=h6;cases h7 with
   |fp _ o p i q L hK hq hp hd=>exact aU hr er hk (run _ _ k hra hrj hkm) (.fp _ _ p i _ L hK (by omega) hp hd)
  ·obtain⟨k,⟨rfl,hkm⟩,hk⟩:=h6;cases h7 with
   |ptr _ _ i hi=>exact aU hr er hk (run _ _ k hra hrj hkm) (.ptr _ _ i hi)
  ·exact h6.elim
 ·exact h4.elim
theorem aFr(hg:aV G w)(hr:HR w s.vh s.nx h an)(er:ER w s.env e h an){x i:VX}{t:TypeId}{y j:Operand}(hc:cop P (.at x i) (.index t y j)=true)
  (hk:bF G call (.at x i) s K):bD w s e h an nid (opA P (.index t y j) e h nid) K:=by
 simp only[cop,Bool.and_eq_true] at hc;obtain⟨⟨h1,h2⟩,h3⟩:=hc;have hu:=jN h1;obtain⟨vi,h4,h5⟩:=bI hg er h3 hk;clear hk;generalize hrj:rd e j=rj at h5;split at h4
 ·cases h5;obtain⟨v,h6,h7⟩:=bI hg er h2 h4;clear h4;generalize hra:rd e y=ra at h7;split at h6
  ·rename_i l;cases h7;obtain⟨⟨k,c⟩,⟨rfl,hc⟩,hk⟩:=h6;simp only at hc hk hrj;refine aU hr er hk (a:=.int .u8 (.ofNat c)) ?_ (.int _ _);simp only[opA,hra,hrj];show sY P t (.str l) (.int _ (.ofNat k))=_;simp only[sY,hu,eW,hc]
  ·exact h6.elim
 ·exact h4.elim
theorem aG1(hg:aV G w)(hr:HR w s.vh s.nx h an)(er:ER w s.env e h an)(hf:bZ w s.env e nid){x:VX}{t:TypeId}{y:Operand}(hc:cop P (.rng x) (.range t y)=true)
  (hk:bF G call (.rng x) s K):bD w s e h an nid (opA P (.range t y) e h nid) K:=by
 simp only[cop,Bool.and_eq_true] at hc;obtain⟨h1,h2⟩:=hc;have hu:=jN h1;obtain⟨v,h3,h4⟩:=bI hg er h2 hk;clear hk;generalize hra:rd e y=ra at h4;split at h3
 ·cases h4;exact G0 hr er hf (v:=.it _ 0) (A:=.iter _ 0) h3 (by simp only[opA,hra,nH,hu]) (.inr ⟨_,_,rfl,rfl⟩)
 ·exact h3.elim
theorem aGX(hg:aV G w)(hr:HR w s.vh s.nx h an)(er:ER w s.env e h an){x:VX}{y:Operand}{b:Bool}(hc:cop P (.next x) (.next y b)=true)
  (hk:bF G call (.next x) s K):bD w s e h an nid (opA P (.next y b) e h nid) K:=by
 simp only[cop,Bool.and_eq_true] at hc;obtain⟨rfl,h2⟩:=hc;obtain⟨v,h3,h4⟩:=bI hg er h2 hk;clear hk;generalize hra:rd e y=ra at h4;split at h3
 ·rename_i t;split at h3
  ·rename_i r p hl;obtain⟨i,rfl,h5⟩:=h4;obtain⟨j,g1,g2,g3⟩:=er.slot _ _ hl;have g4:=h5 (.lt hl rfl);rw[g1] at g4;cases g4;cases r with
   |nil=>refine aU hr er (h3.t rfl) (a:=.tup [.bool false]) ?_ (.tup _ _ (.cons _ _ _ _ (.bool _) .nil));simp only[opA,hra,qM,g2]
   |cons c r=>have hk:=h3.f rfl;refine RL hr er hl g1 hk (a:=.tup [.bool true,.int .i64 (.ofNat p),.int .i32 (.ofNat (decA (c::r)).1)]) (A:=.iter ((c::r).drop (decA (c::r)).2) (p+(decA (c::r)).2)) ?_ (.tup _ _ (.cons _ _ _ _ (.bool _) (.cons _ _ _ _ (.int _ _) (.cons _ _ _ _ (.int _ _) .nil)))) (.inr ⟨_,_,_,_,rfl,rfl,rfl⟩);simp only[opA,hra,qM,g2];generalize hd:decA (c::r)=cw;obtain⟨cc,ww⟩:=cw;simp only[dI]
  ·exact h3.elim
 ·exact h3.elim
def asK(P:Program)(t:TypeId)(ok:Bool)(ra:AV):NX:=match ra with
 |.ifc t'' v=>bif Nat.beq t'' t then .val (bif ok then .tup [v,.bool true] else v)
  else (bif ok then (match fO P t with|some z=>.val (.tup [z,.bool false])|none=>.bad) else .bad)
 |.nili=>bif ok then (match fO P t with|some z=>.val (.tup [z,.bool false])|none=>.bad) else .bad
 |_=>.bad
theorem aFq(hg:aV G w)(hr:HR w s.vh s.nx h an)(er:ER w s.env e h an){t:TypeId}{z:V}{x:VX}{ok:Bool}{y:Operand}{u t':TypeId}{ok':Bool}(hc:cop P (.asrt t z x ok) (.typeAssert y u t' ok')=true)
  (hk:bF G call (.asrt t z x ok) s K):bD w s e h an nid (opA P (.typeAssert y u t' ok') e h nid) K:=by
 simp only[cop,Bool.and_eq_true,aP,beq_iff_eq] at hc;obtain⟨⟨⟨⟨rfl,h1⟩,rfl⟩,h2⟩,h3⟩:=hc;obtain⟨v,h4,h5⟩:=bI hg er h1 hk;clear hk;generalize hra:rd e y=ra at h5;split at h3
 ·rename_i za hz;have hzd:Den w z za:=sO 5 _ _ h3;have hun:∃d,P.underlying t=some d/\∀ms,d≠.interface ms:=by
   unfold BB at h2;split at h2
   ·cases h2
   ·rename_i d hd hn;exact⟨d,hn,fun ms e=>hd ms e⟩
   ·cases h2
  obtain⟨d,hu,hni⟩:=hun;have run:∀r,asK P t ok ra=r->opA P (.typeAssert y u t ok) e h nid=r:=by
   intro r hr;rw[<-hr];simp only[opA,hra,vJ,hu];cases d with
   |interface ms=>exact (hni ms rfl).elim
   |_=>rfl
  split at h4
  ·rename_i t'' v;cases h5 with
   |ifc _ _ a hd=>
    cases hb:Nat.beq t'' t with
    |true=>
     rw[hb] at h4;simp only[cond_true] at h4;refine aU hr er h4 (run _ (by simp only[asK,hb,cond_true];rfl)) ?_
     cases ok with
     |true=>exact .tup _ _ (.cons _ _ _ _ hd (.cons _ _ _ _ (.bool _) .nil))
     |false=>exact hd
    |false=>
     rw[hb] at h4;simp only[cond_false] at h4;cases ok with
     |true=>exact aU hr er h4 (run _ (by simp only[asK,hb,cond_false,cond_true,hz])) (.tup _ _ (.cons _ _ _ _ hzd (.cons _ _ _ _ (.bool _) .nil)))
     |false=>exact h4.elim
  ·cases h5;cases ok with
   |true=>exact aU hr er h4 (run _ (by simp only[asK,cond_true,hz])) (.tup _ _ (.cons _ _ _ _ hzd (.cons _ _ _ _ (.bool _) .nil)))
   |false=>exact h4.elim
  ·exact h4.elim
 ·cases h3
theorem aGJ(hg:aV G w)(hr:HR w s.vh s.nx h an)(er:ER w s.env e h an){x:VX}{i:Nat}{y:Operand}{j:Nat}(hc:cop P (.ext x i) (.extract y j)=true)
  (hk:bF G call (.ext x i) s K):bD w s e h an nid (opA P (.extract y j) e h nid) K:=by
 simp only[cop,Bool.and_eq_true,aP] at hc;obtain⟨h1,rfl⟩:=hc;obtain⟨v,h4,h5⟩:=bI hg er h1 hk;clear hk;generalize hra:rd e y=ra at h5;split at h4
 ·cases h5 with
  |tup l m hd=>
   split at h4
   ·rename_i v hv;rw[eW] at hv;obtain⟨a,g1,g2⟩:=hd.get hv;exact aU hr er h4 (by simp only[opA,hra,eW,g1,dL]) g2
   ·exact h4.elim
 ·exact h4.elim
end
end
section
open Go.Ev
section
variable {P : Program} {G : Gt} {call : dD} {w : Wd} {s : St} {e : Env} {h : H} {an nid : Nat} {K : V → St → Prop}
theorem aGO(hg:aV G w)(hr:HR w s.vh s.nx h an)(er:ER w s.env e h an){x:VX}{xs:Array Operand}{ts:Array TypeId}(hc:cop P (.lenS x) (.call ⟨.builtin .len,xs,ts⟩)=true)
  (hk:bF G call (.lenS x) s K):bD w s e h an nid (opA P (.call ⟨.builtin .len,xs,ts⟩) e h nid) K:=by
 simp only[cop] at hc;split at hc
 ·rename_i y xs' t ts' hxs hts;simp only[Bool.and_eq_true] at hc;have hu:=jN hc.2;obtain⟨v,h3,h4⟩:=bI hg er hc.1 hk;generalize hra:rd e y=ra at h4;split at h3
  ·cases h4;exact aU hr er h3 (by simp only[opA,cT,dR,hxs,hts,List.map_cons,hra,iL,hu,aT]) (.int _ _)
  ·exact h3.elim
 ·cases hc
theorem aGN(hg:aV G w)(hr:HR w s.vh s.nx h an)(er:ER w s.env e h an){x:VX}{xs:Array Operand}{ts:Array TypeId}(hc:cop P (.lenL x) (.call ⟨.builtin .len,xs,ts⟩)=true)
  (hk:bF G call (.lenL x) s K):bD w s e h an nid (opA P (.call ⟨.builtin .len,xs,ts⟩) e h nid) K:=by
 simp only[cop] at hc;split at hc
 ·rename_i y xs' t ts' hxs hts;simp only[Bool.and_eq_true] at hc;obtain⟨h1,h2⟩:=hc;split at h2
  ·rename_i el hu;obtain⟨v,h3,h4⟩:=bI hg er h1 hk;generalize hra:rd e y=ra at h4;split at h3
   ·cases h4 with
    |sl0=>exact aU hr er h3 (by simp only[opA,cT,dR,hxs,hts,List.map_cons,hra,iL,hu];rfl) (.int _ _)
    |sle=>exact aU hr er h3 (by simp only[opA,cT,dR,hxs,hts,List.map_cons,hra,iL,hu];rfl) (.int _ _)
    |sl _ _ c' i o n es L hK hn he hd hcc hc' ho=>subst hn;exact aU hr er h3 (by simp only[opA,cT,dR,hxs,hts,List.map_cons,hra,iL,hu]) (.int _ _)
   ·cases h4;exact aU hr er h3 (by simp only[opA,cT,dR,hxs,hts,List.map_cons,hra,iL,hu];rfl) (.int _ _)
   ·cases h4;exact aU hr er h3 (by simp only[opA,cT,dR,hxs,hts,List.map_cons,hra,iL,hu]) (.int _ _)
   ·exact h3.elim
  ·cases h2
 ·cases hc
theorem TI(hr:HR w s.vh s.nx h an){es:Nat}(he:0<es){y:V}{a:AV}(hd:TV w s.env e y a){k:List V->Nat->Prop}(hk:tV s.vh es y k):
  ∃m j M,k m j/\fM a=some j/\nO h es a=some M/\aX w m M/\m.length=j*es:=by
 unfold tV at hk;split at hk
 ·cases hd;exact⟨[],0,[],hk,rfl,rfl,.nil,by simp⟩
 ·rename_i es' ls c;cases hes:Nat.beq es es' with
  |false=>rw[hes] at hk;exact hk.elim
  |true=>
  rw[hes] at hk;have:=aP.1 hes;subst this;simp only[cond_true] at hk;cases hd with
  |sl0=>exact⟨_,_,[],hk,rfl,rfl,.nil,by simp⟩
  |sle=>exact⟨_,_,[],hk,rfl,rfl,.nil,by simp⟩
  |sl _ _ c' i o n _ L hK hn he' hd hcc hc' ho=>
   subst hn;obtain⟨ty,fz,raw,g⟩:=hr.frz _ _ hK;refine⟨_,_,(L.drop o).take (ls.length*es),hk,rfl,?_,hd.flat,?_⟩
   ·simp only[nO,hes,cond_true,fF,g,aT];rw[bC.2 ho];simp only[cond_true,eP,dI]
   ·have:=hd.flat.length;rw[this,List.length_take,List.length_drop];omega
 ·rename_i b o n es' c;cases hes:Nat.beq es es' with
  |false=>rw[hes] at hk;exact hk.elim
  |true=>
  rw[hes] at hk;have:=aP.1 hes;subst this;simp only[cond_true] at hk;obtain⟨p,hp,ho,hk⟩:=hk;cases hd with
  |msl _ _ _ _ _ i hi=>
   obtain⟨L,g3,g4⟩:=iY hr hp hi;refine⟨_,_,(L.drop o).take (n*es),hk,rfl,?_,(g4.drop o).take _,?_⟩
   ·simp only[nO,hes,cond_true,fF,g3,aT];rw[bC.2 (by rw[<-g4.length];exact ho)]
    simp only[cond_true,eP,dI]
   ·rw[List.length_take,List.length_drop];omega
 ·rename_i l;cases hes:Nat.beq es 1 with
  |false=>rw[hes] at hk;exact hk.elim
  |true=>
  rw[hes] at hk;have:=aP.1 hes;subst this;simp only[cond_true] at hk;cases hd;exact⟨_,_,pD l,hk,by simp[fM,aT],by simp only[nO,hes,cond_true],LN l,by simp⟩
 ·exact hk.elim
theorem aFk(hr:HR w s.vh s.nx h an)(er:ER w s.env e h an)(hf:bZ w s.env e nid){nx:NX}{v:V}{a:AV}{b i:Nat}{B C:VB}{A:AB}(hb:s.vh b=some C)(hi:w.ρ b=some i)(hk:K v ⟨s.env,aI (bX s.vh b) s.nx B,s.nx+1⟩)(hn:nx=.new a ((h.del i).set nid A))
  (hd:jC w B A) (ht:Den (w.addB s.nx nid) v a):bD w s e h an nid nx K:=by
 have hle:=hr.le_addB nid;have hin:=hr.lim _ _ hi;obtain⟨i',C',g1,g2,g3,g4⟩:=hr.blk _ _ hb;rw[hi] at g1;cases g1;have hr1:HR (w.addB s.nx nid) (aI (bX s.vh b) s.nx B) (s.nx+1) ((h.del i).set nid A) (max an (nid+1)):=by
  have hh:=(hr.newB hf.id (Nat.le_max_left _ _) (Nat.le_max_right _ _) (hd.mono hle));constructor
  ·intro c D hc;by_cases hcn:c=s.nx
   ·subst hcn;have:aI s.vh s.nx B s.nx=some D:=by rw[lX,if_pos rfl];rw[lX,if_pos rfl] at hc;exact hc
    obtain⟨j,A2,k1,k2,k3,k4⟩:=hh.blk _ D this;refine⟨j,A2,k1,?_,k3,k4⟩;have:j=nid:=by simp[Wd.addB] at k1;exact k1.symm
    subst this;rw[Tr.get_set,if_pos rfl] at k2 ⊢;exact k2
   ·rw[lX,if_neg hcn,pF] at hc;split at hc
    ·cases hc
    ·rename_i hcb;obtain⟨j,A2,k1,k2,k3,k4⟩:=hr.blk c D hc;have hjn:j≠nid:=fun e=>hf.id.ρ c (e▸k1);refine⟨j,A2,hle.ρ _ _ k1,?_,k3.mono hle,k4⟩;rw[Tr.get_set,if_neg hjn,Tr.get_del,if_neg,k2];intro ej;subst ej;exact hcb (hr.inj _ _ _ k1 hi)
  ·exact hh.inj
  ·intro j L hj;have hj:w.K j=some L:=hj;obtain⟨ty,fz,raw,g⟩:=hr.frz j L hj;have hjn:j≠nid:=fun e=>by rw[e,hf.id.K] at hj;cases hj
   refine⟨ty,fz,raw,?_⟩;rw[Tr.get_set,if_neg hjn,Tr.get_del,if_neg,g];intro ej;subst ej;rw[g4] at hj;cases hj
  ·exact hh.lim
  ·exact hh.limK
 refine⟨v,_,a,_,_,w.addB s.nx nid,hk,.inr (.inr ⟨hn,rfl⟩),hr1,?_,.of_tv (.of_den ht),?_,fun hv=>(oS ht hv).elim,fun k hk hfk=>⟨fun c hb=>?_,hfk.K⟩⟩
 ·refine er.mono hle fun t k hl hk'=>?_;obtain⟨j,hj,h1,h2,h3⟩:=er.loc hl;rw[hk'] at hj;cases hj;have hne:k≠nid:=fun e=>hf.loc t hl (e▸hk');refine⟨?_,h1,by omega,fun c hb'=>?_⟩
  ·rw[Tr.get_set,if_neg hne,Tr.get_del,if_neg];intro ek;subst ek;exact h3 b hi
  ·simp only[Wd.addB] at hb';split at hb'
   ·cases hb';exact hne rfl
   ·exact h3 c hb'
 ·refine⟨hle,Nat.le_max_left _ _,fun j hj ho=>?_,fun c j hb'=>?_,fun _ _ hi=>.inl hi,fun j hj=>?_⟩
  ·rw[Tr.get_set,if_neg fun e=>ho (.inr e),Tr.get_del,if_neg];intro ej;subst ej;exact ho (.inl (.inl ⟨b,_,hb,hi⟩))
  ·simp only[Wd.addB] at hb';split at hb'
   ·cases hb';exact .inr (.inr (.inr rfl))
   ·exact .inl hb'
  ·rcases hj with⟨c,D,hc,hj⟩|hj
   ·have hc:aI (bX s.vh b) s.nx B c=some D:=hc;simp only[Wd.addB] at hj;rw[lX] at hc;split at hc
    ·rename_i hcn;rw[if_pos hcn] at hj;cases hj;exact .inl (.inr rfl)
    ·rename_i hcn;rw[if_neg hcn] at hj;rw[pF] at hc;split at hc
     ·cases hc
     ·exact .inl (.inl (.inl ⟨c,D,hc,hj⟩))
   ·exact .inl (.inl (.inr hj))
 ·simp only[Wd.addB] at hb;split at hb
  ·cases hb;exact hk rfl
  ·exact hfk.ρ c hb
theorem aFp(hg:aV G w)(hr:HR w s.vh s.nx h an)(er:ER w s.env e h an)(hf:bZ w s.env e nid){es by':Nat}{z:List V}{ty:TypeId}{x y:VX}{xs:Array Operand}{ts:Array TypeId}(hc:cop P (.app es z by' ty x y) (.call ⟨.builtin .append,xs,ts⟩)=true)
  (hk:bF G call (.app es z by' ty x y) s K):bD w s e h an nid (opA P (.call ⟨.builtin .append,xs,ts⟩) e h nid) K:=by
 simp only[cop] at hc;split at hc
 ·rename_i x' y' xs' t ts' hxs hts;simp only[Bool.and_eq_true] at hc;obtain⟨⟨⟨⟨⟨⟨⟨h1,h2⟩,h3⟩,h4⟩,h5⟩,h6⟩,h7⟩,h8⟩:=hc;obtain⟨hu,hs,he⟩:=BT h3;obtain⟨za,zc,g1,g2,g3⟩:=pZ h5;have hz:=aP.1 h6;have hby:=i6 h7;have hby0:=cF.1 h8;obtain⟨d,h9,hd⟩:=bI hg er h1 hk;obtain⟨u,h10,hu'⟩:=bI hg er h2 h9;generalize hrx:rd e x'=rx at hd;generalize hry:rd e y'=ry at hu';obtain⟨m,j,M,h11,k1,k2,k3,k4⟩:=TI hr he hu' h10;have run:opA P (.call ⟨.builtin .append,xs,ts⟩) e h nid=gQ P ty es j M rx h nid:=by
   simp only[opA,cT,dR,hxs,hts,List.map_cons,hrx,hry,zU,hu,hs,k1,k2,h4];rw[cF.2 he];rfl
  have grow:∀(n:Nat) (cells:List AV) (fz:Nat) (raw:Bool) (h:H),room by' n->oL P ty es n cells fz raw h nid=.new (.sl nid 0 n es none) (h.set nid (.cells cells ty fz raw)):=by
   intro n cells fz raw h hroom;simp only[oL,g1,g2,o6,hby];rw[aP.2 (by rw[aT,<-(g3 w).length];exact hz:len zc=es),bC.2 hroom.1,cF.2 hroom.2,cF.2 hby0]
   rfl
  rw[run];have hbq:Nat.beq es es=true:=aP.2 rfl;clear h10 h9 hk run;unfold LA at h11;split at h11
  ·cases hd;by_cases hj:j=0
   ·subst hj;exact aU hr er (h11.t rfl) (a:=.nils) (by simp only[gQ];rfl) .nils
   ·obtain⟨ho,hk⟩:=h11.f (dW.2 hj);refine lO hr er hf hk ?_ (.cells _ _ _ _ _ k3) (.msl _ _ _ _ _ nid (by simp[Wd.addB]))
    simp only[gQ];rw[dW.2 hj];exact grow _ _ _ _ _ ho
  ·rename_i es' ls c;cases hes:Nat.beq es es' with
   |false=>rw[hes] at h11;exact h11.elim
   |true=>
   rw[hes] at h11;have:=aP.1 hes;subst this;simp only[cond_true] at h11;by_cases hj:j=0
   ·subst hj;have hk:=h11.t rfl;refine aU hr er hk (a:=rx) ?_ hd;cases hd with
    |sl0=>rfl
    |sl _ _ c' i o n _ L hK hn he' hd hcc hc' ho=>simp only[gQ];rw[hbq];rfl
   ·obtain⟨⟨ho1,ho2⟩,hk⟩:=h11.f (dW.2 hj);cases hd with
    |sl0=>
     simp only[List.length_nil,Nat.zero_add,List.flatten_nil,List.nil_append] at hk ho2;refine lO hr er hf hk ?_ (.cells _ _ _ _ _ k3) (.msl _ _ _ _ _ nid (by simp[Wd.addB]))
     simp only[gQ];rw[dW.2 hj];exact grow _ _ _ _ _ ho2
    |sl _ _ c' i o n _ L hK hn he' hd hcc hc' ho=>
     subst hn;obtain⟨ty',fz,raw,g⟩:=hr.frz _ _ hK;rcases hcc with hcc|rfl
     ·cases hcc
     ·refine lO hr er hf hk ?_ (.cells _ _ _ _ _ (hd.flat.app k3)) (.msl _ _ _ _ _ nid (by simp[Wd.addB]))
      simp only[gQ];rw[hbq,dW.2 hj];simp only[cond_true,cond_false,g,eF];have e1:Nat.ble (ls.length+j) c=false:=by
       cases hb:Nat.ble (ls.length+j) c with
       |false=>rfl
       |true=>have:=bC.1 hb;omega
      rw[e1,aT,bC.2 ho];simp only[cond_true,cond_false,eP,dI,dE];exact grow _ _ _ _ _ ho2
  ·rename_i es';cases hes:Nat.beq es es' with
   |false=>rw[hes] at h11;exact h11.elim
   |true=>
   rw[hes] at h11;have:=aP.1 hes;subst this;simp only[cond_true] at h11;obtain⟨rfl,hk⟩:=h11;refine aU hr er hk (a:=rx) ?_ hd;cases hd with
   |sl0=>rfl
   |sle=>rfl
   |sl _ _ c' i o n _ L hK hn he' hd hcc hc' ho=>simp only[gQ];rw[hbq];rfl
  ·rename_i b o n es' c;cases hes:Nat.beq es es' with
   |false=>rw[hes] at h11;exact h11.elim
   |true=>
   rw[hes] at h11;have:=aP.1 hes;subst this;simp only[cond_true] at h11;cases hd with
   |msl _ _ _ _ _ i hi=>
   by_cases hj:j=0
   ·subst hj;have hk:=h11.t rfl;exact aU hr er hk (a:=.sl i o n es c) (by simp only[gQ];rw[hbq];rfl) (.msl _ _ _ _ _ i hi)
   ·obtain⟨p,hp,hk⟩:=h11.f (dW.2 hj);obtain⟨L,g4,g5⟩:=iY hr hp hi;have hL:=g5.length;cases c with
    |some c=>
     simp only at hk;by_cases hnc:n+j<=c
     ·obtain⟨⟨ho1,ho2⟩,hk⟩:=hk.t (bC.2 hnc);refine tF hr er hk (a:=.sl i o (n+j) es (some c)) (A':=.cells (Ev.setSeg L (o+n*es) M) p.2.1 p.2.2.1 p.2.2.2) ?_ hp hi (.cells _ _ _ _ _ (g5.setSeg k3 _)) (.msl _ _ _ _ _ i hi);simp only[gQ];rw[hbq,dW.2 hj];simp only[cond_true,cond_false,g4,eF];rw[bC.2 hnc,aT,<-hL,bC.2 ho1,bC.2 ho2];rfl
     ·have e1:Nat.ble (n+j) c=false:=by
       cases hb:Nat.ble (n+j) c with
       |false=>rfl
       |true=>exact (hnc (bC.1 hb)).elim
      obtain⟨⟨ho1,ho2⟩,hk⟩:=hk.f e1;refine lO hr er hf hk ?_ (.cells _ _ _ _ _ (((g5.drop o).take _).app k3)) (.msl _ _ _ _ _ nid (by simp[Wd.addB]))
      simp only[gQ];rw[hbq,dW.2 hj];simp only[cond_true,cond_false,g4,eF];rw[e1,aT,<-hL,bC.2 ho1];simp only[cond_true,cond_false,eP,dI,dE];exact grow _ _ _ _ _ ho2
    |none=>
     simp only at hk;have hcl:eF h i o es none=some ((p.1.length-o) / es):=by simp only[eF,g4];rw[cF.2 he,aT,<-hL];rfl
     by_cases hnc:n+j<=(p.1.length-o) / es
     ·obtain⟨⟨ho1,ho2⟩,hk⟩:=hk.t (bC.2 hnc);refine tF hr er hk (a:=.sl i o (n+j) es none) (A':=.cells (Ev.setSeg L (o+n*es) M) p.2.1 p.2.2.1 p.2.2.2) ?_ hp hi (.cells _ _ _ _ _ (g5.setSeg k3 _)) (.msl _ _ _ _ _ i hi);simp only[gQ];rw[hbq,dW.2 hj];simp only[cond_true,cond_false,g4,hcl];rw[bC.2 hnc,aT,<-hL,bC.2 ho1,bC.2 ho2];rfl
     ·have e1:Nat.ble (n+j) ((p.1.length-o) / es)=false:=by
       cases hb:Nat.ble (n+j) ((p.1.length-o) / es) with
       |false=>rfl
       |true=>exact (hnc (bC.1 hb)).elim
      obtain⟨⟨ho1,ho2,ho3,ho4,ho5⟩,hk2⟩:=hk.f e1;clear hk;subst ho1;refine aFk hr er hf hp hi hk2 (a:=.sl nid 0 (n+j) es none) (A:=.cells (L.take (n*es)++M) ty (Ev.fzOff p.2.2.1 0) p.2.2.2) ?_ (.cells _ _ _ _ _ ((g5.take _).app k3)) (.msl _ _ _ _ _ nid (by simp[Wd.addB]))
      simp only[gQ];rw[hbq,dW.2 hj];simp only[cond_true,cond_false,g4,hcl];rw[e1,aT,<-hL];simp only[Nat.zero_add,cond_false];rw[bC.2 ho2,bC.2 ho3,aP.2 ho4.symm];simp only[cond_true,Bool.and_self,eP,dI,dE,List.drop_zero];exact grow _ _ _ _ _ ho5
  ·exact h11.elim
 ·cases hc
theorem Q1{k:V->Prop}:∀{l:List V} {m:List AV} {a:Int} {ka:IntKind},aX w l m->mxL k a ka l->∃b,k (.int ka b)/\lI wQ (.int ka a) m=some (.int ka b)
 |[],_,a,ka,hd,hk=>by cases hd;exact⟨a,hk,rfl⟩
 |v::l,_,a,ka,hd,hk=>by
  cases hd with
  |cons _ x _ m hx hl=>
   cases v with
   |int kb b=>
    cases hx;obtain⟨c,h1,h2⟩:=Q1 hl hk;refine⟨c,h1,?_⟩;simp only[lI,wQ];rw[<-h2]
    congr 2
    rw[m6];by_cases hab:a<b
    ·rw[decide_eq_true hab];simp only[cond_true];omega
    ·rw[decide_eq_false hab];simp only[cond_false];omega
   |_=>exact hk.elim
theorem Q0{k:V->Prop}:∀{l:List V} {m:List AV} {a:Int} {ka:IntKind},aX w l m->mnL k a ka l->∃b,k (.int ka b)/\lI wS (.int ka a) m=some (.int ka b)
 |[],_,a,ka,hd,hk=>by cases hd;exact⟨a,hk,rfl⟩
 |v::l,_,a,ka,hd,hk=>by
  cases hd with
  |cons _ x _ m hx hl=>
   cases v with
   |int kb b=>
    cases hx;obtain⟨c,h1,h2⟩:=Q0 hl hk;refine⟨c,h1,?_⟩;simp only[lI,wS];rw[<-h2]
    congr 2
    rw[m6];by_cases hab:b<a
    ·rw[decide_eq_true hab];simp only[cond_true];omega
    ·rw[decide_eq_false hab];simp only[cond_false];omega
   |_=>exact hk.elim
theorem aGW(hg:aV G w)(hr:HR w s.vh s.nx h an)(er:ER w s.env e h an){l:List VX}{xs:Array Operand}{ts:Array TypeId}(hc:cop P (.mx l) (.call ⟨.builtin .max,xs,ts⟩)=true)
  (hk:bF G call (.mx l) s K):bD w s e h an nid (opA P (.call ⟨.builtin .max,xs,ts⟩) e h nid) K:=by
 simp only[cop,Bool.and_eq_true] at hc;obtain⟨vs,h1,_,h2⟩:=nI hg er hc.1 hk;generalize hms:xs.toList.map (rd e)=ms at h2;split at h1
 ·cases h2 with
  |cons _ a _ m hx hl=>cases hx;obtain⟨b,h3,h4⟩:=Q1 hl h1;exact aU hr er h3 (by simp only[opA,cT,dR,hms,h4,dL]) (.int _ _)
 ·exact h1.elim
theorem aGV(hg:aV G w)(hr:HR w s.vh s.nx h an)(er:ER w s.env e h an){l:List VX}{xs:Array Operand}{ts:Array TypeId}(hc:cop P (.mn l) (.call ⟨.builtin .min,xs,ts⟩)=true)
  (hk:bF G call (.mn l) s K):bD w s e h an nid (opA P (.call ⟨.builtin .min,xs,ts⟩) e h nid) K:=by
 simp only[cop,Bool.and_eq_true] at hc;obtain⟨vs,h1,_,h2⟩:=nI hg er hc.1 hk;generalize hms:xs.toList.map (rd e)=ms at h2;split at h1
 ·cases h2 with
  |cons _ a _ m hx hl=>cases hx;obtain⟨b,h3,h4⟩:=Q0 hl h1;exact aU hr er h3 (by simp only[opA,cT,dR,hms,h4,dL]) (.int _ _)
 ·exact h1.elim
theorem aFx(hg:aV G w)(hr:HR w s.vh s.nx h an)(er:ER w s.env e h an){x:VX}{xs:Array Operand}{ts:Array TypeId}(hc:cop P (.cap x) (.call ⟨.builtin .cap,xs,ts⟩)=true)
  (hk:bF G call (.cap x) s K):bD w s e h an nid (opA P (.call ⟨.builtin .cap,xs,ts⟩) e h nid) K:=by
 simp only[cop] at hc;split at hc
 ·rename_i y xs' t ts' hxs hts;simp only[Bool.and_eq_true] at hc;obtain⟨h1,h2⟩:=hc;split at h2
  ·rename_i el hu;obtain⟨v,h3,h4⟩:=bI hg er h1 hk;generalize hra:rd e y=ra at h4;split at h3
   ·cases h4;exact aU hr er h3 (by simp only[opA,cT,dR,hxs,hts,List.map_cons,hra,oE,hu];rfl) (.int _ _)
   ·cases h4 with
    |sl0 _ _ hcc=>
     rcases hcc with hcc|hcc
     ·cases hcc
     ·cases hcc;exact aU hr er h3 (by simp only[opA,cT,dR,hxs,hts,List.map_cons,hra,oE,hu]) (.int _ _)
    |sl _ _ c' i o n es L hK hn he hd hcc hc' ho=>
     rcases hcc with hcc|hcc
     ·cases hcc
     ·subst hcc;exact aU hr er h3 (by simp only[opA,cT,dR,hxs,hts,List.map_cons,hra,oE,hu]) (.int _ _)
   ·cases h4;exact aU hr er h3 (by simp only[opA,cT,dR,hxs,hts,List.map_cons,hra,oE,hu]) (.int _ _)
   ·exact h3.elim
  ·cases h2
 ·cases hc
theorem aGH(hg:aV G w)(hr:HR w s.vh s.nx h an)(er:ER w s.env e h an){x:VX}{xs:Array Operand}{ts:Array TypeId}(hc:cop P (.data x) (.call ⟨.builtin .unsafeSliceData,xs,ts⟩)=true)
  (hk:bF G call (.data x) s K):bD w s e h an nid (opA P (.call ⟨.builtin .unsafeSliceData,xs,ts⟩) e h nid) K:=by
 simp only[cop] at hc;split at hc
 ·rename_i y hxs;obtain⟨v,h3,h4⟩:=bI hg er hc hk;generalize hra:rd e y=ra at h4;split at h3
  ·cases h4;exact aU hr er h3 (by simp only[opA,cT,dR,hxs,List.map_cons,List.map_nil,hra,vU]) .nilp
  ·cases h4 with
   |msl _ _ _ _ _ i hi=>exact aU hr er h3.k (by simp only[opA,cT,dR,hxs,List.map_cons,List.map_nil,hra,vU,cF.2 h3.o,cond_true]) (.ptr _ _ i hi)
  ·exact h3.elim
 ·cases hc
theorem aG6(hg:aV G w)(hr:HR w s.vh s.nx h an)(er:ER w s.env e h an){u:TypeId}{x n:VX}{xs:Array Operand}{ts:Array TypeId}(hc:cop P (.ustr u x n) (.call ⟨.builtin .unsafeString,xs,ts⟩)=true)
  (hk:bF G call (.ustr u x n) s K):bD w s e h an nid (opA P (.call ⟨.builtin .unsafeString,xs,ts⟩) e h nid) K:=by
 simp only[cop] at hc;split at hc
 ·rename_i y m t t2 hxs hts;simp only[Bool.and_eq_true] at hc;obtain⟨⟨⟨h1,h2⟩,h5⟩,h6⟩:=hc;have hz:=i6 h6;split at h5
  ·rename_i u' hu;have:=aP.1 h5;subst this;obtain⟨v,h3,h4⟩:=bI hg er h2 hk;generalize hrm:rd e m=rm at h4;split at h3
   ·rename_i mm;cases h4;obtain⟨v2,h7,h8⟩:=bI hg er h1 h3;generalize hra:rd e y=ra at h8;split at h7
    ·cases h8;obtain⟨rfl,h7⟩:=h7;exact aU hr er h7 (by simp only[opA,cT,dR,hxs,hts,List.map_cons,List.map_nil,hra,hrm];rfl) (.str _)
    ·rename_i b o;obtain⟨j,⟨rfl,hj0,hj63,rfl⟩,p,hp,⟨hpu,hpr⟩,l,⟨hl1,hl2,hl3⟩,h7⟩:=h7;cases h8 with
     |ptr _ _ i hi=>
     obtain⟨L,g3,g4⟩:=iY hr hp hi;have h9:=g4.take j;rw[hl1] at h9;obtain⟨j',rfl⟩:∃j',j=j'+1:=⟨j-1,by omega⟩
     have hb:=EA h9 hl3;rw[hpu,hpr] at g3;refine tF hr er h7 (A':=.cells L u (bif Nat.ble p.2.2.1 (j'+1) then j'+1 else p.2.2.1) false) ?_ hp hi (by rw[hpu];exact .cells _ _ _ _ _ g4) (.str _)
     simp only[opA,cT,dR,hxs,hts,List.map_cons,List.map_nil,hra,hrm];show xI P [t,t2] (.ptr i 0) (.int .i64 (.ofNat (j'+1))) h=_;simp only[xI,hu,g3,hz,eP,hb,Nat.beq_refl,Bool.true_and,aT,hl2];rw[cF.2 hj63];rfl
    ·exact h7.elim
   ·exact h3.elim
  ·cases h5
 ·cases hc
theorem aG3(hg:aV G w)(hr:HR w s.vh s.nx h an)(er:ER w s.env e h an){x:VX}{a b:TypeId}{y:Operand}(hc:cop P (.uconv x) (.convert a b y)=true)
  (hk:bF G call (.uconv x) s K):bD w s e h an nid (opA P (.convert a b y) e h nid) K:=by
 simp only[cop,Bool.and_eq_true] at hc;obtain⟨⟨h1,h2⟩,h0⟩:=hc;obtain⟨v,h3,h4⟩:=bI hg er h1 hk;generalize hra:rd e y=ra at h4;split at h2
 ·rename_i hu;split at h0
  ·rename_i t hs;split at h0
   ·rename_i k hz;split at h3
    ·rename_i b' o;obtain⟨p,hp,ho,h3⟩:=h3;cases h4 with
     |ptr _ _ i hi=>obtain⟨L,g3,g4⟩:=iY hr hp hi;exact aU hr er h3 (by simp only[opA,hra,dY,hu,hs,g3,hz,aT,<-g4.length,cF.2 ho,cond_true]) (.ptr _ _ i hi)
    ·exact h3.elim
   ·cases h0
  ·cases h0
 ·cases h2
theorem aG0(hg:aV G w)(hr:HR w s.vh s.nx h an)(er:ER w s.env e h an){u:TypeId}{n:Nat}{x:VX}{a b:TypeId}{y:Operand}(hc:cop P (.pconv u n x) (.convert a b y)=true)
  (hk:bF G call (.pconv u n x) s K):bD w s e h an nid (opA P (.convert a b y) e h nid) K:=by
 simp only[cop,Bool.and_eq_true] at hc;obtain⟨⟨⟨⟨h1,h2⟩,h0⟩,h5⟩,h6⟩:=hc;have hz:=i6 h5;have hn:=cF.1 h6;obtain⟨k,rfl⟩:∃k,n=k+1:=⟨n-1,by omega⟩
 obtain⟨v,h3,h4⟩:=bI hg er h1 hk;generalize hra:rd e y=ra at h4;split at h2
 ·rename_i u' hu;have:=aP.1 h2;subst this;split at h0
  ·rename_i hs;split at h3
   ·rename_i b' o;obtain⟨p,hp,⟨rfl,hpu,hpr,hpl⟩,h3⟩:=h3;cases h4 with
    |ptr _ _ i hi=>obtain⟨L,g3,g4⟩:=iY hr hp hi;rw[hpu,hpr] at g3;refine aU hr er h3 ?_ (.ptr _ _ i hi);simp only[opA,hra,dY,hu,hs,g3,hz,aT,<-g4.length,Nat.beq_refl,Bool.true_and,Nat.zero_mod,Nat.zero_add,bC.2 hpl,Bool.true_or,cond_true]
   ·exact h3.elim
  ·cases h0
 ·cases h2
theorem aGA(hg:aV G w)(hr:HR w s.vh s.nx h an)(er:ER w s.env e h an){es:Nat}{x y:VX}{xs:Array Operand}{ts:Array TypeId}(hc:cop P (.copy es x y) (.call ⟨.builtin .copy,xs,ts⟩)=true)
  (hk:bF G call (.copy es x y) s K):bD w s e h an nid (opA P (.call ⟨.builtin .copy,xs,ts⟩) e h nid) K:=by
 simp only[cop] at hc;split at hc
 ·rename_i x' y' xs' t ts' hxs hts;simp only[Bool.and_eq_true] at hc;obtain⟨⟨⟨h1,h2⟩,h5⟩,h6⟩:=hc;have he:=cF.1 h6;obtain⟨el,hu,hz,_⟩:=BU h5;obtain⟨vx,h3,h4⟩:=bI hg er h1 hk;obtain⟨vy,h7,h8⟩:=bI hg er h2 h3;obtain⟨m,j,M,h9,hcy,hsy,hdm,hml⟩:=TI hr he h8 h7;generalize hra:rd e x'=ra at h4;generalize hrb:rd e y'=rb at hcy hsy;split at h9
  ·cases h4;refine aU hr er h9 ?_ (.int _ _);simp only[opA,cT,dR,hxs,hts,List.map_cons,hra,hrb,vT,show fM AV.nils=some 0 from rfl,hcy,hu,hz,h6,cond_true,hsy];rfl
  ·rename_i b o n es' c;cases hes:Nat.beq es es' with
   |false=>rw[hes] at h9;exact h9.elim
   |true=>
   rw[hes] at h9;have:=aP.1 hes;subst this;simp only[cond_true] at h9;obtain⟨p,hp,⟨ho1,ho2⟩,h9⟩:=h9;cases h4 with
   |msl _ _ _ _ _ i hi=>
   obtain⟨L,g3,g4⟩:=iY hr hp hi;have hlen:(M.take ((bif Nat.ble n j then n else j)*es)).length=(bif Nat.ble n j then n else j)*es:=by
    rw[List.length_take,<-hdm.length,hml];refine Nat.min_eq_left (Nat.mul_le_mul_right es ?_);cases hb:Nat.ble n j with
    |true=>exact bC.1 hb
    |false=>exact Nat.le_refl _
   refine tF hr er h9 (A':=.cells (setSeg L o (M.take ((bif Nat.ble n j then n else j)*es))) p.2.1 p.2.2.1 p.2.2.2) ?_ hp hi (.cells _ _ _ _ _ (g4.setSeg (hdm.take _) o)) (.int _ _);simp only[opA,cT,dR,hxs,hts,List.map_cons,hra,hrb,vT,show fM (AV.sl i o n es c)=some n from rfl,hcy,hu,hz,h6,cond_true,hsy,Nat.beq_refl,qR,g3,eP,aT,hlen,<-g4.length,bC.2 ho1,bC.2 ho2,Bool.true_and]
  ·exact h9.elim
 ·cases hc
end
end
section
open Go.Ev
def toA:V->AV
 |.str l=>.str l
 |.int k n=>.int k n
 |_=>.nilp
def gH:V->AV
 |.agg l=>.agg (l.map toA)
 |v=>toA v
theorem lG{s:Option IntKind}{v:V}(h:mY s v=true):(s=none/\∃l,v=.str l)\/∃k n,s=some k/\v=.int k n:=by
 cases s with
 |none=>cases v<;>simp only[mY,Bool.false_eq_true] at h;exact .inl ⟨rfl,_,rfl⟩
 |some k=>cases v<;>simp only[mY,Bool.false_eq_true] at h;rename_i k' n;have:=(qG _ _).1 h;subst this;exact .inr ⟨_,_,rfl,rfl⟩
section
variable {P : Program} {w : Wd}
theorem aBr{s:Option IntKind}{v:V}{a:AV}(h:mY s v=true)(hd:Den w v a):a=toA v:=by rcases lG h with⟨_,l,rfl⟩|⟨k,n,_,rfl⟩<;>cases hd<;>rfl
theorem OI:∀{sh:List (Option IntKind)} {l:List V} {m:List AV},eT sh l=true->aX w l m->m=l.map toA
 |[],[],_,_,hd=>by cases hd;rfl
 |s::sh,v::l,_,h,hd=>by
  simp only[eT,Bool.and_eq_true] at h;cases hd with|cons _ a _ m ha hm=>
  rw[aBr h.1 ha,OI h.2 hm];rfl
 |[],_::_,_,h,_=>by cases h
 |_::_,[],_,h,_=>by cases h
theorem AD{sh:List (Option IntKind)}{ag:Bool}{v:V}{a:AV}(h:cW sh ag v=true)(hd:Den w v a):a=gH v:=by
 cases v<;>simp only[cW,Bool.false_eq_true,Bool.and_eq_true] at h
 ·cases hd;rfl
 ·cases hd;rfl
 ·cases hd with|agg _ m hm=>rw[OI h.2 hm];rfl
theorem tvK{sh:List (Option IntKind)}{ag:Bool}{v:V}{a:AV}{env:aH}{e:Env}(h:cW sh ag v=true)(hd:TV w env e v a):Den w v a:=by cases v<;>simp only[cW,Bool.false_eq_true] at h<;>exact hd
theorem wY{t:TypeId}{s:Option IntKind}{u v:V}(d:Nat)(h:nC P t s=true)(hu:mY s u=true)(hv:mY s v=true):eqV P (d+1) t (toA u) (toA v)=some (eq1 u v)/\dU P (d+1) t (toA u)=true/\gP P t=some false/\(eq1 u v=true->nK (toA u) (toA v)=true):=by
 rcases lG hu with⟨rfl,l,rfl⟩|⟨k,n,rfl,rfl⟩
 ·rcases lG hv with⟨_,m,rfl⟩|⟨k,n,e,_⟩
  ·simp only[nC] at h;split at h
   ·rename_i hu;simp only[toA,eqV,dU,gP,hu,eq1,nK,iX];exact⟨trivial,trivial,trivial,fun h=>h⟩
   ·cases h
  ·cases e
 ·rcases lG hv with⟨e,_⟩|⟨k',m,e,rfl⟩
  ·cases e
  ·cases e;simp only[nC] at h;split at h
   ·rename_i k2 hu;have hk:keq k k=true:=(qG _ _).2 rfl;simp only[toA,eqV,dU,gP,hu,eq1,nK,hk,cond_true,jM,Bool.true_and];exact⟨trivial,trivial,trivial,fun h=>h⟩
   ·cases h
theorem wV{L:List AV}{i:Nat}{a:AV}{r:List AV}(h:L.drop i=a::r):nth L i=some a:=by rw[eW,<-List.head?_drop,h];rfl
theorem OQ{e:TypeId}(d:Nat):∀(sh:List (Option IntKind)) (l m:List V) (i:Nat) (L M:List AV),sh.all (nC P e)=true->eT sh l=true->eT sh m=true->L.drop i=l.map toA->M.drop i=m.map toA->
  oH (eqV P (d+1)) P e 1 L M sh.length i=some (lC l m)
 |[],[],[],i,L,M,_,_,_,_,_=>rfl
 |s::sh,u::l,v::m,i,L,M,h,hl,hm,hL,hM=>by
  simp only[eT,Bool.and_eq_true] at hl hm;simp only[List.all_cons,Bool.and_eq_true] at h;obtain⟨q1,_,q3,_⟩:=wY d h.1 hl.1 hm.1;have ih:=OQ d sh l m (i+1) L M h.2 hl.2 hm.2 (by rw[<-List.drop_drop,hL];rfl) (by rw[<-List.drop_drop,hM];rfl)
  simp only[List.length_cons,oH,eY,q3,Nat.mul_one,wV hL,wV hM,q1,lC];cases eq1 u v with
  |true=>simp only[Bool.true_and];exact ih
  |false=>rfl
 |[],_::_,_,_,_,_,_,h,_,_,_=>by cases h
 |[],[],_::_,_,_,_,_,_,h,_,_=>by cases h
 |_::_,[],_,_,_,_,_,h,_,_,_=>by cases h
 |_::_,_::_,[],_,_,_,_,_,h,_,_=>by cases h
theorem FS(d:Nat):∀(fs:List Field) (sh:List (Option IntKind)) (l m:List V) (i:Nat) (L M:List AV),AR P fs sh i=true->eT sh l=true->eT sh m=true->L.drop i=l.map toA->M.drop i=m.map toA->
  eqFields (eqV P (d + 1)) P L M fs = some (lC l m) ∧ (fs.all fun f => f.name == "_" || (match eY P f.type L f.offset with | some p => dU P (d + 1) f.type p | none => false)) = true
 |[],[],[],[],i,L,M,_,_,_,_,_=>⟨rfl,rfl⟩
 |f::fs,s::sh,u::l,v::m,i,L,M,h,hl,hm,hL,hM=>by
  simp only[eT,Bool.and_eq_true] at hl hm;simp only[AR,Bool.and_eq_true,bne_iff_ne,ne_eq,aP] at h;obtain⟨⟨⟨hn,rfl⟩,h1⟩,h2⟩:=h;obtain⟨q1,q2,q3,_⟩:=wY d h1 hl.1 hm.1;obtain⟨i1,i2⟩:=FS d fs sh l m (f.offset+1) L M h2 hl.2 hm.2 (by rw[<-List.drop_drop,hL];rfl) (by rw[<-List.drop_drop,hM];rfl)
  refine⟨?_,?_⟩
  ·simp only[eqFields,ne_eq,hn,not_false_eq_true,if_true,eY,q3,wV hL,wV hM,q1,lC];cases eq1 u v with
   |true=>simp only[Bool.true_and];exact i1
   |false=>rfl
  ·simp only[List.all_cons,eY,q3,wV hL,q2,Bool.or_true,Bool.true_and];exact i2
 |[],[],[],_::_,_,_,_,_,_,h,_,_=>by cases h
 |[],[],_::_,_,_,_,_,_,h,_,_,_=>by cases h
 |[],_::_,_,_,_,_,_,h,_,_,_,_=>by cases h
 |_::_,[],_,_,_,_,_,h,_,_,_,_=>by cases h
 |_::_,_::_,[],_,_,_,_,_,h,_,_,_=>by cases h
 |_::_,_::_,_::_,[],_,_,_,_,_,h,_,_=>by cases h
theorem PP:∀{sh:List (Option IntKind)} {l:List V},eT sh l=true->l.length=sh.length
 |[],[],_=>rfl
 |_::_,_::_,h=>by simp only[eT,Bool.and_eq_true] at h;simp only[List.length_cons,PP h.2]
 |[],_::_,h=>by cases h
 |_::_,[],h=>by cases h
theorem OR{e:TypeId}(d:Nat):∀(sh:List (Option IntKind)) (l:List V),sh.all (nC P e)=true->eT sh l=true->∀(i:Nat) (v:V),l[i]? =some v->dU P (d+1) e (toA v)=true/\gP P e=some false
 |s::sh,u::l,h,hl,i,v,hv=>by
  simp only[eT,Bool.and_eq_true] at hl;simp only[List.all_cons,Bool.and_eq_true] at h;cases i with
  |zero=>simp only[List.getElem?_cons_zero,Option.some.injEq] at hv;subst hv;obtain⟨_,q2,q3,_⟩:=wY d h.1 hl.1 hl.1;exact⟨q2,q3⟩
  |succ i=>exact OR d sh l h.2 hl.2 i v (by simpa using hv)
 |[],[],_,_,i,v,hv=>by simp at hv
 |[],_::_,_,h,_,_,_=>by cases h
 |_::_,[],_,h,_,_,_=>by cases h
theorem HT:∀{sh:List (Option IntKind)} {l m:List V},eT sh l=true->eT sh m=true->lC l m=true->o7 (l.map toA) (m.map toA)=true
 |[],[],[],_,_,_=>rfl
 |s::sh,u::l,v::m,hl,hm,he=>by
  simp only[eT,Bool.and_eq_true] at hl hm;simp only[lC,Bool.and_eq_true] at he;simp only[List.map_cons,o7,HT hl.2 hm.2 he.2,Bool.and_true];rcases lG hl.1 with⟨rfl,a,rfl⟩|⟨k,n,rfl,rfl⟩
  ·rcases lG hm.1 with⟨_,b,rfl⟩|⟨k,n,e,_⟩
   ·have:=he.1;simp only[eq1] at this;simp only[toA,nK,iX];exact this
   ·cases e
  ·rcases lG hm.1 with⟨e,_⟩|⟨k',m,e,rfl⟩
   ·cases e
   ·cases e;have:=he.1;simp only[eq1] at this;simp only[toA,nK,(qG _ _).2 rfl,jM,Bool.true_and];exact this
 |[],_::_,_,h,_,_=>by cases h
 |[],[],_::_,_,h,_=>by cases h
 |_::_,[],_,h,_,_=>by cases h
 |_::_,_::_,[],_,h,_=>by cases h
theorem aCP{d:Nat}{t:TypeId}{fs:Array Field}{xs ys:List AV}(hf:P.underlying t=some (.struct fs))(hs:P.stoodInHeld t=false):eqV P (d+1) t (.agg xs) (.agg ys)=eqFields (eqV P d) P xs ys fs.toList:=by simp only[eqV,hf,hs,cond_false]
theorem aCO{d n s:Nat}{t e:TypeId}{xs ys:List AV}(hf:P.underlying t=some (.array n e))(hs:bG P e=some s):eqV P (d+1) t (.agg xs) (.agg ys)=oH (eqV P d) P e s xs ys n 0:=by simp only[eqV,hf,hs]
theorem aJD {d : Nat} {t : TypeId} {fs : Array Field} {xs : List AV} (hf : P.underlying t = some (.struct fs)) : dU P (d + 1) t (.agg xs) = fs.toList.all fun f => f.name == "_" || (match eY P f.type xs f.offset with | some p => dU P d f.type p | none => false) := by
 simp only[dU,hf];rfl
theorem aJC{d n s:Nat}{t e:TypeId}{xs:List AV}(hf:P.underlying t=some (.array n e))(hs:bG P e=some s):dU P (d+1) t (.agg xs)=(List.range n).all fun i=>match eY P e xs (i*s) with|some p=>dU P d e p|none=>false:=by simp only[dU,hf,hs];rfl
theorem AZ{kt:TypeId}{sh:List (Option IntKind)}{ag:Bool}(h:wJ P kt sh ag=true){u v:V}(hu:cW sh ag u=true)(hv:cW sh ag v=true):
  eqV P bR kt (gH u) (gH v)=some (jO u v)/\dU P 10 kt (gH u)=true/\(jO u v=true->tO (gH u) (gH v)=true):=by
 have scal:∀{t:TypeId} {s:Option IntKind} {u v:V},nC P t s=true->mY s u=true->mY s v=true->(∀l,u≠.agg l)->(∀l,v≠.agg l)->eqV P bR t (gH u) (gH v)=some (jO u v)/\dU P 10 t (gH u)=true/\(jO u v=true->tO (gH u) (gH v)=true):=by
  intro t s u v h1 h2 h3 h4 h5;obtain⟨q1,_,_,q4⟩:=wY 99 h1 h2 h3;obtain⟨_,q2,_,_⟩:=wY 9 h1 h2 h3;rcases lG h2 with⟨rfl,a,rfl⟩|⟨k,n,rfl,rfl⟩
  ·rcases lG h3 with⟨_,b,rfl⟩|⟨k,n,e,_⟩
   ·exact⟨q1,q2,q4⟩
   ·cases e
  ·rcases lG h3 with⟨e,_⟩|⟨k',m,e,rfl⟩
   ·cases e
   ·cases e;exact⟨q1,q2,q4⟩
 unfold wJ at h;split at h
 ·rename_i fs hf;simp only[Bool.and_eq_true,Bool.not_eq_true'] at h;obtain⟨⟨rfl,hs⟩,h1⟩:=h;cases u<;>simp only[cW,Bool.not_true,Bool.false_and,Bool.true_and,Bool.false_eq_true] at hu;cases v<;>simp only[cW,Bool.not_true,Bool.false_and,Bool.true_and,Bool.false_eq_true] at hv;rename_i l m;obtain⟨q1,_⟩:=FS 98 fs.toList sh l m 0 (l.map toA) (m.map toA) h1 hu hv rfl rfl;obtain⟨_,q2⟩:=FS 8 fs.toList sh l m 0 (l.map toA) (m.map toA) h1 hu hv rfl rfl;refine⟨?_,?_,fun h=>HT hu hv h⟩
  ·exact (aCP (d:=99) hf hs).trans q1
  ·exact (aJD (d:=9) hf).trans q2
 ·rename_i n e hf;simp only[Bool.and_eq_true,aP] at h;obtain⟨⟨⟨rfl,rfl⟩,hs⟩,h1⟩:=h;have hsz:bG P e=some 1:=i6 hs;cases u<;>simp only[cW,Bool.not_true,Bool.false_and,Bool.true_and,Bool.false_eq_true] at hu;cases v<;>simp only[cW,Bool.not_true,Bool.false_and,Bool.true_and,Bool.false_eq_true] at hv;rename_i l m;have q1:=OQ 98 sh l m 0 (l.map toA) (m.map toA) h1 hu hv rfl rfl;refine⟨?_,?_,fun h=>HT hu hv h⟩
  ·exact (aCO (d:=99) hf hsz).trans q1
  ·refine (aJC (d:=9) hf hsz).trans ?_;refine List.all_eq_true.2 fun i hi=>?_;have hi:=List.mem_range.1 hi;have hlen:=PP hu;obtain⟨q2,q3⟩:=OR 8 sh l h1 hu i l[i] (List.getElem?_eq_getElem (by omega))
   have hn:nth (l.map toA) i=some (toA l[i]):=by rw[eW];simp[hlen,hi]
   simp only[eY,q3,Nat.mul_one,hn];exact q2
 ·simp only[Bool.and_eq_true,Bool.not_eq_true'] at h;obtain⟨rfl,h1⟩:=h;split at h1
  ·rename_i s;cases u<;>simp only[cW,Bool.not_false,Bool.false_and,Bool.true_and,Bool.false_eq_true,eT,Bool.and_true] at hu
   all_goals
    cases v<;>simp only[cW,Bool.not_false,Bool.false_and,Bool.true_and,Bool.false_eq_true,eT,Bool.and_true] at hv
    all_goals exact scal h1 hu hv (fun _ e=>by cases e) (fun _ e=>by cases e)
  ·cases h1
 ·cases h
theorem PJ{kt:TypeId}{sh:List (Option IntKind)}{ag:Bool}(h:wJ P kt sh ag=true){k:V}(hk:cW sh ag k=true):∀{es:List (V×V)} {ES:List (AV×AV)},kR w es ES->(∀p∈es,cW sh ag p.1=true)->
  ∃r,kA (eqV P bR kt (gH k)) ES=some r/\(match lF k es,r with|none,none=>True|some v,some a=>Den w v a|_,_=>False)
 |_,_,.nil,_=>⟨none,rfl,trivial⟩
 |_,_,.cons u v a b l m hu hv hl,hf=>by
  have fu:=hf (u,v) (.head _);rw[AD fu hu];obtain⟨q1,_,_⟩:=AZ h hk fu;cases hb:jO k u with
  |true=>
   rw[hb] at q1;refine⟨some b,by simp only[kA,q1],?_⟩
   simp only[lF,hb,cond_true];exact hv
  |false=>
   rw[hb] at q1;obtain⟨r,r1,r2⟩:=PJ h hk hl fun p hp=>hf p (.tail _ hp);refine⟨r,by simp only[kA,q1];exact r1,?_⟩
   simp only[lF,hb,cond_false];exact r2
theorem SM{kt:TypeId}{sh:List (Option IntKind)}{ag:Bool}(h:wJ P kt sh ag=true){k x:V}{y:AV}(hk:cW sh ag k=true)(hkd:Den w k (gH k))(hx:Den w x y):∀{es:List (V×V)} {ES:List (AV×AV)},kR w es ES->(∀p∈es,cW sh ag p.1=true)->
  ∃r,oY (eqV P bR kt (gH k)) (gH k) y ES=some r/\kR w (jT k x es) r
 |_,_,.nil,_=>⟨_,rfl,.cons _ _ _ _ _ _ hkd hx .nil⟩
 |_,_,.cons u v a b l m hu hv hl,hf=>by
  have fu:=hf (u,v) (.head _);have eu:=AD fu hu;obtain⟨q1,_,q3⟩:=AZ h hk fu;cases hb:jO k u with
  |true=>
   rw[hb] at q1;refine⟨(gH k,y)::m,by simp only[oY,eu,q1,q3 hb,cond_true],?_⟩
   simp only[jT,hb,cond_true];exact .cons _ _ _ _ _ _ hkd hx hl
  |false=>
   rw[hb] at q1;obtain⟨r,r1,r2⟩:=SM h hk hkd hx hl fun p hp=>hf p (.tail _ hp);refine⟨(a,b)::r,by simp only[oY,eu,q1,r1],?_⟩
   simp only[jT,hb,cond_false];exact .cons _ _ _ _ _ _ hu hv r2
end
section
variable {P : Program} {G : Gt} {call : dD} {w : Wd} {s : St} {e : Env} {h : H} {an nid : Nat} {K : V → St → Prop}
theorem aGQ(hg:aV G w)(hr:HR w s.vh s.nx h an)(er:ER w s.env e h an){sh:List (Option IntKind)}{ag:Bool}{z:V}{x i:VX}{ok:Bool}{t:TypeId}{y j:Operand}{ok':Bool}(hc:cop P (.look sh ag z x i ok) (.lookup t y j ok')=true)
  (hk:bF G call (.look sh ag z x i ok) s K):bD w s e h an nid (opA P (.lookup t y j ok') e h nid) K:=by
 simp only[cop,Bool.and_eq_true,beq_iff_eq] at hc;obtain⟨⟨⟨h1,h2⟩,rfl⟩,h3⟩:=hc;unfold A8 at h3;split at h3
 ·rename_i kt et hu;simp only[Bool.and_eq_true] at h3;obtain⟨h3,h4⟩:=h3;split at h4
  ·rename_i za hz;have hzd:Den w z za:=sO 5 _ _ h4;have hzz:Den w (bif ok then .tup [z,.bool false] else z) (bif ok then .tup [za,.bool false] else za):=by
    cases ok with
    |true=>exact .tup _ _ (.cons _ _ _ _ hzd (.cons _ _ _ _ (.bool _) .nil))
    |false=>exact hzd
   obtain⟨k,k1,k2⟩:=bI hg er h2 hk;cases hf:cW sh ag k with
   |false=>rw[hf] at k1;exact k1.elim
   |true=>
    rw[hf,cond_true] at k1;have kd:=tvK hf k2;have ke:=AD hf kd;obtain⟨_,hs,_⟩:=AZ h3 hf hf;obtain⟨v,v1,v2⟩:=bI hg er h1 k1;generalize hra:rd e y=ra at v2;split at v1
    ·cases v2;refine aU hr er v1 ?_ hzz;simp only[opA,kD,hu,ke,hs,cond_true,hra,hz,kA]
    ·rename_i b;cases v2 with|map _ m hm=>
     obtain⟨es,q1,q2,r,q3,q4⟩:=v1;obtain⟨i',A,p1,p2,p3,_⟩:=hr.blk b _ q1;rw[hm] at p1;cases p1;cases p3 with|map _ ES hM=>
     obtain⟨rr,r1,r2⟩:=PJ h3 hf hM q2;rw[q3] at r2;cases r with
     |none=>
      cases rr with
      |some _=>exact r2.elim
      |none=>refine aU hr er q4 ?_ hzz;simp only[opA,kD,hu,ke,hs,cond_true,hra,hz,p2,r1]
     |some u=>
      cases rr with
      |none=>exact r2.elim
      |some a=>
       refine aU hr er q4 (a:=bif ok then .tup [a,.bool true] else a) ?_ ?_
       ·simp only[opA,kD,hu,ke,hs,cond_true,hra,hz,p2,r1]
       ·cases ok with
        |true=>exact .tup _ _ (.cons _ _ _ _ r2 (.cons _ _ _ _ (.bool _) .nil))
        |false=>exact r2
    ·exact v1.elim
  ·cases h4
 ·cases h3
theorem aG5(hg:aV G w)(hr:HR w s.vh s.nx h an)(er:ER w s.env e h an){sh:List (Option IntKind)}{ag:Bool}{x i v:VX}{t:TypeId}{m k v':Operand}(hc:cop P (.upd sh ag x i v) (.mapUpdate t m k v')=true)
  (hk:bF G call (.upd sh ag x i v) s K):bD w s e h an nid (opA P (.mapUpdate t m k v') e h nid) K:=by
 simp only[cop,Bool.and_eq_true] at hc;obtain⟨⟨⟨h1,h2⟩,h5⟩,h3⟩:=hc;unfold A8 at h3;split at h3
 ·rename_i kt et hu;simp only[Bool.and_true] at h3;obtain⟨ki,k1,k2⟩:=bI hg er h2 hk;cases hf:cW sh ag ki with
  |false=>rw[hf] at k1;exact k1.elim
  |true=>
   rw[hf,cond_true] at k1;have kd:=tvK hf k2;have ke:=AD hf kd;rw[ke] at kd;obtain⟨_,hs,_⟩:=AZ h3 hf hf;obtain⟨x',x1,_,x3⟩:=xG hg er h5 k1;obtain⟨v,v1,v2⟩:=bI hg er h1 x1;generalize hra:rd e m=ra at v2;split at v1
   ·rename_i b;cases v2 with|map _ q hm=>
    obtain⟨es,q1,q2,q4⟩:=v1;obtain⟨i',A,p1,p2,p3,_⟩:=hr.blk b _ q1;rw[hm] at p1;cases p1;cases p3 with|map _ ES hM=>
    obtain⟨r,r1,r2⟩:=SM h3 hf kd x3 hM q2;refine tF hr er (a:=dV) q4 ?_ q1 hm (.map _ _ r2) (.tup _ _ .nil);simp only[opA,xR,hu,ke,hs,cond_true,hra,p2,r1]
   ·exact v1.elim
 ·cases h3
end
end
section
open Go.Ev
def VOp.isCall:VOp->Bool
 |.call _ _|.callv _ _=>true
 |_=>false
theorem w6{P:Program}{G:Gt}{call:dD}{w:Wd}{s:St}{e:Env}{h:H}{an nid:Nat}{K:V->St->Prop}(hg:aV G w)(hr:HR w s.vh s.nx h an)(er:ER w s.env e h an)(hf:bZ w s.env e nid){vo:VOp}{o:Op}
  (hc:cop P vo o=true) (hv:vo.isCall=false) (hk:bF G call vo s K):bD w s e h an nid (opA P o e h nid) K:=by
 have hc':=hc;unfold cop at hc;split at hc
 ·exact RU hg hr er hc rfl hk
 ·exact RU hg hr er hc rfl hk
 ·simp only[Bool.and_eq_true] at hc;exact RW hg hr er hc.1.1 hc.1.2 hc.2 hk
 ·exact aFo hr er hf hc hk
 ·simp only[Bool.and_eq_true] at hc;exact aFn hr er hf hc.1 hc.2 hk
 ·exact aFt hg hr er hf hc hk
 ·simp only[Bool.and_eq_true] at hc;exact aFs hg hr er hf hc.1 hc.2 hk
 ·exact aFu hg hr er hc' hk
 ·exact aFv hg hr er hf hc' hk
 ·exact aFw hg hr er hf hc' hk
 ·exact aGP hg hr er hc' hk
 ·exact aG2 hg hr er hc' hk
 ·exact aGY hg hr er hc hk
 ·exact RT hg hr er hc' hk
 ·exact aGI hg hr er hc' hk
 ·exact aG4 hg hr er hc' hk
 ·exact aFz hg hr er hc' hk
 ·exact aGC hg hr er hc' hk
 ·exact aGB hg hr er hc' hk
 ·exact aFy hg hr er hf hc' hk
 ·exact aGD hg hr er hc' hk
 ·exact aGS hg hr er hc' hk
 ·exact aGR hg hr er hc' hk
 ·exact aGT hr er hf hk
 ·exact aGQ hg hr er hc' hk
 ·exact aG5 hg hr er hc' hk
 ·exact aGU hg hr er hf hc' hk
 ·exact aGG hg hr er hc' hk
 ·exact aGF hg hr er hc' hk
 ·exact aGE hg hr er hc' hk
 ·exact aGZ hg hr er hc' hk
 ·exact aGK hg hr er hc' hk
 ·exact aGL hg hr er hc' hk
 ·exact aGM hg hr er hc' hk
 ·exact aFr hg hr er hc' hk
 ·exact aG1 hg hr er hf hc' hk
 ·exact aGX hg hr er hc' hk
 ·exact aFq hg hr er hc' hk
 ·exact aGJ hg hr er hc' hk
 ·exact aGO hg hr er hc' hk
 ·exact aGN hg hr er hc' hk
 ·exact aFp hg hr er hf hc' hk
 ·exact aGW hg hr er hc' hk
 ·exact aGV hg hr er hc' hk
 ·exact aGA hg hr er hc' hk
 ·exact aGH hg hr er hc' hk
 ·exact aG6 hg hr er hc' hk
 ·exact aFx hg hr er hc' hk
 ·exact aG3 hg hr er hc' hk
 ·exact aG0 hg hr er hc' hk
 ·exact hk.elim
 ·cases hv
 ·cases hv
 ·cases hc
section
variable (P : Program) (X : Ovr) (G : Gt)
structure aE(f:FuncId)(vs:List V)(vh:VH)(vn:Nat)(Q:V->VH->Nat->Prop):Prop where
 out:∀(w:Wd) (h:H) (an:Nat) (us:List AV),aV G w->HR w vh vn h an->aX w vs us->
  ∃v vh' vn' a h' an' w',Q v vh' vn'/\(∃N,∀m,N<=m->bM P X m f us h an=.ok a h' an')/\HR w' vh' vn' h' an'/\Den w' v a/\cO w (fR w vh) h an w' (fR w' vh') h' an'
end
section
variable {P : Program} {X : Ovr} {G : Gt} {w : Wd} {s : St} {e : Env} {h : H} {an : Nat}
theorem aX.set{l:List V}{m:List AV}(h:aX w l m):∀{o:Nat} {v:V} {a:AV},Den w v a->m[o]? =some a->aX w (l.set o v) m:=by
 induction l generalizing m with
 |nil=>intro o v a hd hm;cases h;simp at hm
 |cons x l ih=>
  intro o v a hd hm;cases h with
  |cons _ b _ m h1 h2=>
  cases o with
  |zero=>simp only[List.getElem?_cons_zero,Option.some.injEq] at hm;subst hm;exact .cons _ _ _ _ hd h2
  |succ o=>exact .cons _ _ _ _ h1 (ih h2 hd (by simpa using hm))
theorem E7{es:Nat}{ls:List (List V)}{c:Option Nat}{a:AV}(h:Den w (.sl es ls c) a):Den w (.sl es ls none) a:=by
 cases h with
 |sl0 _ _ hc=>exact .sl0 _ _ (.inl rfl)
 |sle=>exact .sle _
 |sl _ _ c' i o n _ L h1 h2 h3 h4 h5 h6 h7=>exact .sl ls none c' i o n es L h1 h2 h3 h4 (.inl rfl) h6 h7
structure GhR(w:Wd)(s:St)(e:Env)(h:H)(an:Nat)(w':Wd)(s':St):Prop where
 hr:HR w' s'.vh s'.nx h an
 er:ER w' s'.env e h an
 step:cO w (own w s.vh s.env e) h an w' (own w' s'.vh s'.env e) h an
theorem GhR.refl(hr:HR w s.vh s.nx h an)(er:ER w s.env e h an):GhR w s e h an w s:=⟨hr,er,.refl fun _ h=>.inl h⟩
theorem GI(all:List Nat)(env:aH):∀(l:List Nat) (t:Nat) (v:V),lk (m7 all env l) t=some v->t∈l/\lk env t=some v/\∀u o,v=.lp u o->wR u all=true
 |[],t,v,h=>by cases h
 |a::l,t,v,h=>by
  have ih:=GI all env l t v;have other:lk (m7 all env l) t=some v->t∈a::l/\lk env t=some v/\∀u o,v=.lp u o->wR u all=true:=fun h=>let ⟨h1,h2⟩:=ih h;⟨.tail _ h1,h2⟩;simp only[m7] at h;split at h
  ·exact other h
  ·rename_i u o hl;cases hm:wR u all with
   |false=>rw[hm] at h;exact other h
   |true=>
    rw[hm] at h;simp only[cond_true] at h;rw[dK] at h;split at h
    ·rename_i ht;simp only at ht;subst ht;cases h;exact⟨.head _,hl,fun u' o' e=>by cases e;exact hm⟩
    ·exact other h
  ·rename_i v' hl hn;rw[dK] at h;split at h
   ·rename_i ht;simp only at ht;subst ht;cases h;exact⟨.head _,hn,fun u' o' e=>by subst e;exact (hl _ _ rfl).elim⟩
   ·exact other h
theorem ER.sub{env':aH}(er:ER w s.env e h an)(hs:∀t v,lk env' t=some v->lk s.env t=some v):ER w env' e h an:=by
 have hL:∀t,Loc env' t->Loc s.env t:=fun t ⟨v,h1,h2⟩=>⟨v,hs t v h1,h2⟩;refine⟨fun t v hl=>?_,fun t u i ht hu=>er.dist t u i (hL t ht) (hL u hu)⟩;have:=er.slot t v (hs t v hl);cases v with
 |lp u o=>obtain⟨a,h1,i,h2,h3⟩:=this;exact⟨a,h1,i,h2,fun hl=>h3 (hL _ hl)⟩
 |_=>exact this
theorem kG{env':aH}{vh':VH}(hs:∀t,Loc env' t->Loc s.env t)(hv:∀b B,vh' b=some B->∃C,s.vh b=some C):∀i,own w vh' env' e i->own w s.vh s.env e i:=by
 rintro i (⟨b,B,hb,hi⟩|⟨t,ht,hi⟩)
 ·obtain⟨C,hC⟩:=hv b B hb;exact .inl ⟨b,C,hC,hi⟩
 ·exact .inr ⟨t,hs t ht,hi⟩
theorem aCl(hr:HR w s.vh s.nx h an)(er:ER w s.env e h an){g:Gh}{K:St->Prop}(hk:pE g s K):∃w' s',K s'/\GhR w s e h an w' s':=by
 cases g with
 |keep l=>simp only[pE,i9] at hk;refine⟨w,_,hk,hr,er.sub fun t v ht=>(GI _ _ _ _ _ ht).2.1,.refl fun i hi=>.inl (kG (fun t ⟨v,h1,h2⟩=>⟨v,(GI _ _ _ _ _ h1).2.1,h2⟩) (fun b B hb=>⟨B,hb⟩) i hi)⟩
 |fz t=>
  simp only[pE] at hk;split at hk
  ·rename_i l hl;obtain⟨i,L,ty,h1,h2,h3,h4⟩:=er.slot _ _ hl;have hloc:Loc s.env t:=.lt hl rfl;obtain⟨hle,hr'⟩:=hr.freezeL h4 h2;have hk1:(w.addK i L).K i=some L:=if_pos rfl;have hL:∀u,Loc ((t,.fp l 0)::gV t s.env) u->u≠t/\Loc s.env u:=by
    rintro u ⟨v,g1,g2⟩;rw[dK] at g1;split at g1
    ·cases g1;cases g2
    ·rename_i hut;exact⟨hut,VT.1 ⟨v,g1,g2⟩⟩
   refine⟨w.addK i L,_,hk,hr',⟨fun u v hu=>?_,fun a b j ha hb=>er.dist a b j (hL a ha).2 (hL b hb).2⟩,⟨hle,Nat.le_refl _,fun _ _ _=>rfl,fun _ _ h=>.inl h,fun j M hj=>?_,fun j hj=>.inl (kG (fun u hu=>(hL u hu).2) (fun b B hb=>⟨B,hb⟩) j ?_)⟩⟩
   ·rw[dK] at hu;split at hu
    ·rename_i hut;simp only at hut;subst hut;cases hu;exact⟨_,h1,Den.fp l 0 0 i 0 L hk1 rfl (Nat.zero_le _) (by simpa using (h3.mono hle).toP')⟩
    ·rename_i hut;rw[wO] at hu;cases hlu:lk s.env u with
     |none=>rw[hlu] at hu;cases hu
     |some v0=>
     rw[hlu] at hu;cases hu;have hsl:=er.slot u v0 hlu;cases v0 with
     |bx m=>
      obtain⟨j,M,ty',g1,g2,g3,g4⟩:=hsl;refine⟨j,M,ty',g1,g2,g3.mono hle,?_,g4.2⟩;show (if j=i then some L else w.K j)=none
      rw[if_neg,g4.1];intro ej;subst ej;exact hut (er.dist u t j (.lt hlu rfl) hloc g1 h1)
     |it r p=>
      obtain⟨j,g1,g2,g4⟩:=hsl;refine⟨j,g1,g2,?_,g4.2⟩;show (if j=i then some L else w.K j)=none
      rw[if_neg,g4.1];intro ej;subst ej;exact hut (er.dist u t j (.lt hlu rfl) hloc g1 h1)
     |lp u' o=>
      obtain⟨a,g1,j,g2,g3⟩:=hsl;simp only[fW];split
      ·exact⟨a,g1,trivial⟩
      ·exact⟨a,g1,j,g2,fun hl=>g3 (hL _ hl).2⟩
     |_=>obtain⟨a,g1,g2⟩:=hsl;exact⟨a,g1,g2.mono hle⟩
   ·simp only[Wd.addK] at hj;split at hj
    ·rename_i ej;subst ej;exact .inr (.inr (.inr ⟨t,hloc,h1⟩))
    ·exact .inl hj
   ·rcases hj with⟨b,B,hb,hi⟩|hj
    ·exact .inl ⟨b,B,hb,hi⟩
    ·exact .inr hj
  ·exact⟨w,s,hk,.refl hr er⟩
 |fzs t es=>
  simp only[pE] at hk;have hL:∀(v:V) (u:Nat),v.isLoc=false->Loc ((t,v)::s.env) u->u≠t/\Loc s.env u:=by
   rintro v u hv ⟨v',g1,g2⟩;rw[dK] at g1;split at g1
   ·cases g1;rw[hv] at g2;cases g2
   ·rename_i hut;exact⟨hut,v',g1,g2⟩
  have hE:∀{w':Wd} {v:V} {a:AV},w.le w'->v.isLoc=false->e.get t=some a->Den w' v a->(∀u i,Loc s.env u->e.get u=some (.ptr i 0)->iA w' an i)->(∀u o,v≠.lp u o)->ER w' ((t,v)::s.env) e h an:=by
   intro w' v a hle hv ha hd hok hlp;refine⟨fun u x hu=>?_,fun a b j ha hb=>er.dist a b j (hL v a hv ha).2 (hL v b hv hb).2⟩;rw[dK] at hu;split at hu
   ·rename_i hut;simp only at hut;subst hut;cases hu;have htv:TV w' ((u,v)::s.env) e v a:=.of_den hd;cases v with
    |bx l=>cases hv
    |it r p=>cases hv
    |_=>exact⟨a,ha,htv⟩
   ·have hsl:=er.slot u x hu;cases x with
    |bx m=>obtain⟨j,M,ty',g1,g2,g3,g4⟩:=hsl;exact⟨j,M,ty',g1,g2,g3.mono hle,hok u j (.lt hu rfl) g1⟩
    |it r p=>obtain⟨j,g1,g2,g4⟩:=hsl;exact⟨j,g1,g2,hok u j (.lt hu rfl) g1⟩
    |lp u' o=>obtain⟨a,g1,j,g2,g3⟩:=hsl;exact⟨a,g1,j,g2,fun hl=>g3 (hL v _ hv hl).2⟩
    |_=>obtain⟨a,g1,g2⟩:=hsl;exact⟨a,g1,g2.mono hle⟩
  split at hk
  ·rename_i hl;obtain⟨a,h1,h2⟩:=er.get hl rfl;cases h2;refine⟨w,_,hk,hr,hE (.refl _) rfl h1 (.sl0 es none (.inl rfl)) (fun u i hu hi=>?_) nofun,.refl fun i hi=>.inl (kG (fun u hu=>(hL _ u rfl hu).2) (fun b B hb=>⟨B,hb⟩) i hi)⟩;obtain⟨j,hj,hok⟩:=er.loc hu;rw[hi] at hj;cases hj;exact hok
  ·rename_i b o n es' c hl;cases hes:Nat.beq es es' with
   |false=>rw[hes] at hk;exact hk.elim
   |true=>
   rw[hes] at hk;have:=aP.1 hes;subst this;simp only[cond_true] at hk;obtain⟨p,hp,⟨k5,k3,k6⟩,ls,⟨k1,k2,k4⟩,hk⟩:=hk;obtain⟨a,h1,h2⟩:=er.get hl rfl;cases h2 with
   |msl _ _ _ _ _ i hi=>
   obtain⟨L,g1,g2⟩:=iY hr hp hi;obtain⟨hle,hr'⟩:=hr.freeze hp hi g1;have hk1:(w.addK i L).K i=some L:=if_pos rfl;refine⟨w.addK i L,_,hk,hr',hE hle rfl h1 (.sl _ none c i o n es L hk1 k2 k5 ?_ (.inl rfl) k6 ?_) (fun u j hu hj=>?_) nofun,⟨hle,Nat.le_refl _,fun _ _ _=>rfl,fun _ _ h=>.inl h,fun j M hj=>?_,fun j hj=>?_⟩⟩
   ·refine dC.of_flat ?_ k4;rw[k1];exact (((g2.mono hle).drop o).toP').take _
   ·rw[<-g2.length];exact k3
   ·obtain⟨k,hk',hok⟩:=er.loc hu;rw[hj] at hk';cases hk';refine⟨?_,hok.2⟩;show (if j=i then some L else w.K j)=none
    rw[if_neg,hok.1];intro ej;subst ej;exact hok.2.2 b hi
   ·simp only[Wd.addK] at hj;split at hj
    ·rename_i ej;subst ej;exact .inr (.inr (.inl ⟨b,_,hp,hi⟩))
    ·exact .inl hj
   ·refine .inl (kG (w:=w) (fun u hu=>(hL _ u rfl hu).2) (fun c C hc=>?_) j hj);have hc:bX s.vh b c=some C:=hc;rw[pF] at hc;split at hc
    ·cases hc
    ·exact⟨C,hc⟩
  ·rename_i es' ls c hl;obtain⟨a,h1,h2⟩:=er.get hl rfl;refine⟨w,_,hk,hr,hE (.refl _) rfl h1 (E7 h2) (fun u i hu hi=>?_) nofun,.refl fun i hi=>.inl (kG (fun u hu=>(hL _ u rfl hu).2) (fun b B hb=>⟨B,hb⟩) i hi)⟩;obtain⟨j,hj,hok⟩:=er.loc hu;rw[hi] at hj;cases hj;exact hok
  ·exact⟨w,s,hk,.refl hr er⟩
 |fza t o es=>
  simp only[pE] at hk;have hL:∀(v:V) (u:Nat),v.isLoc=false->Loc ((t,v)::s.env) u->u≠t/\Loc s.env u:=by
   rintro v u hv ⟨v',g1,g2⟩;rw[dK] at g1;split at g1
   ·cases g1;rw[hv] at g2;cases g2
   ·rename_i hut;exact⟨hut,v',g1,g2⟩
  have hE:∀{w':Wd} {v:V} {a:AV},w.le w'->v.isLoc=false->e.get t=some a->Den w' v a->(∀u i,Loc s.env u->e.get u=some (.ptr i 0)->iA w' an i)->(∀u o,v≠.lp u o)->ER w' ((t,v)::s.env) e h an:=by
   intro w' v a hle hv ha hd hok hlp;refine⟨fun u x hu=>?_,fun a b j ha hb=>er.dist a b j (hL v a hv ha).2 (hL v b hv hb).2⟩;rw[dK] at hu;split at hu
   ·rename_i hut;simp only at hut;subst hut;cases hu;have htv:TV w' ((u,v)::s.env) e v a:=.of_den hd;cases v with
    |bx l=>cases hv
    |it r p=>cases hv
    |_=>exact⟨a,ha,htv⟩
   ·have hsl:=er.slot u x hu;cases x with
    |bx m=>obtain⟨j,M,ty',g1,g2,g3,g4⟩:=hsl;exact⟨j,M,ty',g1,g2,g3.mono hle,hok u j (.lt hu rfl) g1⟩
    |it r p=>obtain⟨j,g1,g2,g4⟩:=hsl;exact⟨j,g1,g2,hok u j (.lt hu rfl) g1⟩
    |lp u' o=>obtain⟨a,g1,j,g2,g3⟩:=hsl;exact⟨a,g1,j,g2,fun hl=>g3 (hL v _ hv hl).2⟩
    |_=>obtain⟨a,g1,g2⟩:=hsl;exact⟨a,g1,g2.mono hle⟩
  split at hk
  ·rename_i l hl;obtain⟨a,h1,h2⟩:=er.get hl rfl;cases h2 with
   |agg _ m hlm=>
   split at hk
   ·rename_i ho;rw[i9] at hk;rw[eW] at ho;obtain⟨x,g1,g2⟩:=hlm.get ho;cases g2;refine⟨w,_,hk,hr,hE (.refl _) rfl h1 (.agg _ _ (hlm.set (Den.sl0 es none (.inl rfl)) g1)) (fun u i hu hi=>?_) nofun,.refl fun i hi=>.inl (kG (fun u hu=>(hL _ u rfl hu).2) (fun b B hb=>⟨B,hb⟩) i hi)⟩;obtain⟨j,hj,hok⟩:=er.loc hu;rw[hi] at hj;cases hj;exact hok
   ·rename_i b p n es' c ho;cases hes:Nat.beq es es' with
    |false=>rw[hes] at hk;exact hk.elim
    |true=>
    rw[hes] at hk;have:=aP.1 hes;subst this;simp only[cond_true] at hk;obtain⟨q,hp,⟨k5,k3,k6⟩,ls,⟨k1,k2,k4⟩,hk⟩:=hk;rw[i9] at hk;rw[eW] at ho;obtain⟨x,x1,x2⟩:=hlm.get ho;cases x2 with
    |msl _ _ _ _ _ i hi=>
    obtain⟨L,g1,g2⟩:=iY hr hp hi;obtain⟨hle,hr'⟩:=hr.freeze hp hi g1;have hk1:(w.addK i L).K i=some L:=if_pos rfl;refine⟨w.addK i L,_,hk,hr',hE hle rfl h1 (.agg _ _ ((hlm.mono hle).set (.sl ls none c i p n es L hk1 k2 k5 ?_ (.inl rfl) k6 ?_) x1)) (fun u j hu hj=>?_) nofun,⟨hle,Nat.le_refl _,fun _ _ _=>rfl,fun _ _ h=>.inl h,fun j M hj=>?_,fun j hj=>?_⟩⟩
    ·refine dC.of_flat ?_ k4;rw[k1];exact (((g2.mono hle).drop p).toP').take _
    ·rw[<-g2.length];exact k3
    ·obtain⟨k,hk',hok⟩:=er.loc hu;rw[hj] at hk';cases hk';refine⟨?_,hok.2⟩;show (if j=i then some L else w.K j)=none
     rw[if_neg,hok.1];intro ej;subst ej;exact hok.2.2 b hi
    ·simp only[Wd.addK] at hj;split at hj
     ·rename_i ej;subst ej;exact .inr (.inr (.inl ⟨b,_,hp,hi⟩))
     ·exact .inl hj
    ·refine .inl (kG (w:=w) (fun u hu=>(hL _ u rfl hu).2) (fun c C hc=>?_) j hj);have hc:bX s.vh b c=some C:=hc;rw[pF] at hc;split at hc
     ·cases hc
     ·exact⟨C,hc⟩
   ·rename_i es' ls c ho;rw[i9] at hk;rw[eW] at ho;obtain⟨x,g1,g2⟩:=hlm.get ho;refine⟨w,_,hk,hr,hE (.refl _) rfl h1 (.agg _ _ (hlm.set (E7 g2) g1)) (fun u i hu hi=>?_) nofun,.refl fun i hi=>.inl (kG (fun u hu=>(hL _ u rfl hu).2) (fun b B hb=>⟨B,hb⟩) i hi)⟩;obtain⟨j,hj,hok⟩:=er.loc hu;rw[hi] at hj;cases hj;exact hok
   ·exact⟨w,s,hk,.refl hr er⟩
  ·exact⟨w,s,hk,.refl hr er⟩
 |free t=>
  have key:∀b,K ⟨s.env,bX s.vh b,s.nx⟩->∃w' s',K s'/\GhR w s e h an w' s':=fun b hk=>by
   refine⟨w,_,hk,hr.del b,er,.refl fun i hi=>.inl (kG (fun _ h=>h) (fun c C hc=>?_) i hi)⟩;have hc:bX s.vh b c=some C:=hc;rw[pF] at hc;split at hc
   ·cases hc
   ·exact⟨C,hc⟩
  simp only[pE] at hk;split at hk
  ·exact key _ hk
  ·exact key _ hk
  ·exact⟨w,s,hk,.refl hr er⟩
theorem sV:∀(gs:List Gh) {w:Wd} {s:St},HR w s.vh s.nx h an->ER w s.env e h an->∀{K:St->Prop},jY gs s K->∃w' s',K s'/\GhR w s e h an w' s'
 |[],w,s,hr,er,K,hk=>⟨w,s,hk,.refl hr er⟩
 |g::gs,w,s,hr,er,K,hk=>by obtain⟨w1,s1,h1,h2⟩:=aCl hr er hk;obtain⟨w2,s2,h3,h4⟩:=sV gs h2.hr h2.er h1;exact⟨w2,s2,h3,h4.hr,h4.er,h2.step.trans h4.step⟩
end
end
end Go.VL
namespace Go.Ev
section
variable {P : Program} {cal : dH} {f : Nat} {env : Env} {h : H} {nx : Nat} {all : Array Oper}
def RS.then(r:RS)(k:Env->H->Nat->RS):RS:=match r with|.norm env h nx=>k env h nx|r=>r
theorem O4{a b:Code}:evC P cal (f+1) (.seq a b) env h nx=(evC P cal f a env h nx).then (evC P cal f b):=Eq.trans rfl rfl
theorem aCS{i:Nat}{ops:Array Oper}:evC P cal (f+1) (.region i ops false) env h nx=cG P cal ops ops.toList env h nx:=Eq.trans rfl rfl
def E5(v:AV)(x y:RS):RS:=match v with|.bool true=>x|.bool false=>y|_=>.bad
theorem O3{c:Operand}{a b:Code}:evC P cal (f+1) (.cond c a b) env h nx=E5 (rd env c) (evC P cal f a env h nx) (evC P cal f b env h nx):=Eq.trans rfl rfl
theorem aBb{x y:RS}:E5 (.bool true) x y=x:=Eq.trans rfl rfl
theorem aBa{x y:RS}:E5 (.bool false) x y=y:=Eq.trans rfl rfl
def sW(P:Program)(cal:dH)(all:Array Oper)(o:Oper)(os:List Oper)(env:Env)(h:H)(nx:Nat):NX->RS
 |.val v=>cG P cal all os (aW env o.dst v) h nx
 |.upd v h=>cG P cal all os (aW env o.dst v) h nx
 |.new v h=>cG P cal all os (aW env o.dst v) h (Nat.succ nx)
 |.call f args=>(match cal f args h nx with
  |.ok v h nx=>cG P cal all os (aW env o.dst v) h nx
  |.bad=>.bad)
 |.bad=>.bad
theorem aCW:cG P cal all [] env h nx=.norm env h nx:=Eq.trans rfl rfl
def II(P:Program)(cal:dH)(all:Array Oper)(o:Oper)(os:List Oper)(env:Env)(h:H)(nx:Nat):Option Bool->RS
 |some true=>sW P cal all o os env h nx (opA P o.op env h nx)
 |some false=>cG P cal all os (aW env o.dst dV) h nx
 |none=>.bad
theorem FN{o:Oper}{os:List Oper}:cG P cal all (o::os) env h nx=II P cal all o os env h nx (dO all env o.guard):=Eq.trans rfl rfl
theorem T9{o:Oper}{os:List Oper}:II P cal all o os env h nx (some true)=sW P cal all o os env h nx (opA P o.op env h nx):=Eq.trans rfl rfl
theorem aJg{o:Oper}{os:List Oper}:II P cal all o os env h nx (some false)=cG P cal all os (aW env o.dst dV) h nx:=Eq.trans rfl rfl
theorem aCp{o:Oper}{os:List Oper}{v:AV}:sW P cal all o os env h nx (.val v)=cG P cal all os (aW env o.dst v) h nx:=Eq.trans rfl rfl
theorem aCo{o:Oper}{os:List Oper}{v:AV}{h':H}:sW P cal all o os env h nx (.upd v h')=cG P cal all os (aW env o.dst v) h' nx:=Eq.trans rfl rfl
theorem aCn{o:Oper}{os:List Oper}{v:AV}{h':H}:sW P cal all o os env h nx (.new v h')=cG P cal all os (aW env o.dst v) h' (nx+1):=Eq.trans rfl rfl
def NM(r:CR)(k:AV->H->Nat->RS):RS:=match r with|.ok v h nx=>k v h nx|.bad=>.bad
theorem aBY{v:AV}{k:AV->H->Nat->RS}:NM (.ok v h nx) k=k v h nx:=Eq.trans rfl rfl
theorem aCm{o:Oper}{os:List Oper}{f:FuncId}{args:List AV}:sW P cal all o os env h nx (.call f args)=NM (cal f args h nx) fun v h nx=>cG P cal all os (aW env o.dst v) h nx:=Eq.trans rfl rfl
theorem RT{op:BinOp}{t u:TypeId}{x y:Operand}{i:Nat}:opA P (.binOp op t x y u) env h i=dL (iU P op t (dS x) (dS y) (rd env x) (rd env y)):=Eq.trans rfl rfl
theorem RW{c a b:Operand}{i:Nat}:opA P (.pick c a b) env h i=(match rd env c with|.bool t=>.val (bif t then rd env a else rd env b)|_=>.bad):=Eq.trans rfl rfl
def fin(P:Program)(fn:Func):RS->CR
 |.norm env h nx=>lS P fn env h nx
 |.ret env h nx=>lS P fn env h nx
 |_=>.bad
theorem aCT{X:Ovr}{n:Nat}{g:FuncId}{args:List AV}{fn:Func}{c:Code}(hX:X g=none)(hf:P.funcs[g]? =some fn)(hb:fn.body=some c)(hok:eH P fn.ntmps c=true):
  bM P X (n+1) g args h nx=fin P fn (evC P (bM P X n) n c (gT args 0 .e) h nx):=by
 simp only[bM,hX,hf,hb,hok,cond_true];generalize evC P (bM P X n) n c (gT args 0 .e) h nx=r;cases r<;>rfl
end
end Go.Ev
namespace Go.VL
section
open Go.Ev
def AA(all:Array Oper):Option (Nat×Bool)->Option (Nat×Bool)->Bool
 |none,none=>true
 |some (d,b),some (j,b')=>b==b'&&(match all[j]? with|some o=>iM o.dst d|none=>false)
 |_,_=>false
def NU:Option Nat->Option Nat->Bool
 |none,none=>true
 |some a,some b=>Nat.beq a b
 |_,_=>false
theorem E2{a b:Option Nat}(h:NU a b=true):a=b:=by cases a<;>cases b<;>first|rfl|cases h|(rw[aP.1 h])
def mL(P:Program)(all:Array Oper):List bV->List Oper->Bool
 |[],[]=>true
 |v::vs,o::os=>NU v.dst o.dst&&AA all v.guard o.guard&&cop P v.op o.op&&mL P all vs os
 |_,_=>false
inductive RK where
 |norm
 |exit (i:Nat)
 |ret
def VR.kind:VR->RK
 |.norm _=>.norm
 |.exit i _=>.exit i
 |.ret _=>.ret
def VR.st:VR->St
 |.norm s=>s
 |.exit _ s=>s
 |.ret s=>s
def mkR:RK->Env->H->Nat->RS
 |.norm=>.norm
 |.exit i=>.exit i
 |.ret=>.ret
structure At(w:Wd)(s:St)(e:Env)(h:H)(an:Nat)(w':Wd)(s':St)(e':Env)(h':H)(an':Nat):Prop where
 hr:HR w' s'.vh s'.nx h' an'
 er:ER w' s'.env e' h' an'
 step:cO w (own w s.vh s.env e) h an w' (own w' s'.vh s'.env e') h' an'
theorem At.trans{w w' w'':Wd}{s s' s'':St}{e e' e'':Env}{h h' h'':H}{an an' an'':Nat}(a:At w s e h an w' s' e' h' an')(b:At w' s' e' h' an' w'' s'' e'' h'' an''):At w s e h an w'' s'' e'' h'' an'':=⟨b.hr,b.er,a.step.trans b.step⟩
section
variable {P : Program} {X : Ovr} {G : Gt}
theorem BJ{w:Wd}{s:St}{e:Env}{h:H}{an nid:Nat}{nx:NX}{v:V}{s':St}{a:AV}{h':H}{an':Nat}{w':Wd}(r:pT w s e h an nid nx v s' a h' an' w')(d:Option Nat):
  HR w' (put s' d v).vh (put s' d v).nx h' an'/\ER w' (put s' d v).env (aW e d a) h' an'/\cO w (fun i=>own w s.vh s.env e i\/i=nid) h an w' (own w' (put s' d v).vh (put s' d v).env (aW e d a)) h' an':=by
 cases d with
 |none=>exact⟨r.hr,r.er,r.step⟩
 |some d=>
  refine⟨r.hr,r.er.put r.res,⟨r.step.le,r.step.grow,r.step.keep,r.step.newr,r.step.newk,fun i hi=>?_⟩⟩;rcases hi with hi|⟨t,ht,hi⟩
  ·exact r.step.sub i (.inl hi)
  ·have ht:=JC.1 ht;have hi:(e.set d a).get t=some (.ptr i 0):=hi;rw[Tr.get_set] at hi;by_cases htd:t=d
   ·rw[if_pos htd] at ht hi;have:=r.fresh ht;cases hi;cases this;exact .inl (.inr rfl)
   ·rw[if_neg htd] at ht hi;exact r.step.sub i (.inr ⟨t,ht,hi⟩)
theorem BI{w:Wd}{s:St}{e:Env}{h:H}{an:Nat}{nx:NX}{v:V}{s':St}{a:AV}{h':H}{an':Nat}{w':Wd}(r:pT w s e h an an nx v s' a h' an' w')(d:Option Nat):At w s e h an w' (put s' d v) (aW e d a) h' an':=by
 obtain⟨h1,h2,h3⟩:=BJ r d;refine⟨h1,h2,⟨h3.le,h3.grow,fun i hi ho=>h3.keep i hi fun hh=>hh.elim ho fun e=>by omega,fun b i hb=>?_,fun i L hb=>?_,fun i hi=>?_⟩⟩
 ·rcases h3.newr b i hb with q|q|q|q
  ·exact .inl q
  ·exact .inr (.inl q)
  ·exact .inr (.inr q)
  ·exact .inr (.inl (by omega))
 ·rcases h3.newk i L hb with q|q|q|q
  ·exact .inl q
  ·exact .inr (.inl q)
  ·exact .inr (.inr q)
  ·exact .inr (.inl (by omega))
 ·rcases h3.sub i hi with (q|q)|q
  ·exact .inl q
  ·exact .inr (by omega)
  ·exact .inr q
structure AtR(R:Nat->Prop)(w:Wd)(s:St)(e:Env)(h:H)(an:Nat)(w':Wd)(s':St)(e':Env)(h':H)(an':Nat):Prop where
 hr:HR w' s'.vh s'.nx h' an'
 er:ER w' s'.env e' h' an'
 step:cO w (fun i=>own w s.vh s.env e i\/R i) h an w' (fun i=>own w' s'.vh s'.env e' i\/R i) h' an'
theorem AtR.trans{R:Nat->Prop}{w w' w'':Wd}{s s' s'':St}{e e' e'':Env}{h h' h'':H}{an an' an'':Nat}(a:AtR R w s e h an w' s' e' h' an')(b:AtR R w' s' e' h' an' w'' s'' e'' h'' an''):AtR R w s e h an w'' s'' e'' h'' an'':=⟨b.hr,b.er,a.step.trans b.step⟩
theorem At.toR{R:Nat->Prop}{w w':Wd}{s s':St}{e e':Env}{h h':H}{an an':Nat}(a:At w s e h an w' s' e' h' an'):AtR R w s e h an w' s' e' h' an':=
 ⟨a.hr,a.er,⟨a.step.le,a.step.grow,fun i hi ho=>a.step.keep i hi fun h=>ho (.inl h),fun b i hb=>(a.step.newr b i hb).imp_right fun h=>h.imp_right .inl,fun i L hb=>(a.step.newk i L hb).imp_right fun h=>h.imp_right .inl,
  fun i hi=>hi.elim (fun hi=>(a.step.sub i hi).imp_left .inl) fun hR=>.inl (.inr hR)⟩⟩
theorem SO{R:Nat->Prop}{w:Wd}{s:St}{e:Env}{h:H}{an nid:Nat}{nx:NX}{v:V}{s':St}{a:AV}{h':H}{an':Nat}{w':Wd}(r:pT w s e h an nid nx v s' a h' an' w')(hR:R nid)(d:Option Nat):AtR R w s e h an w' (put s' d v) (aW e d a) h' an':=by
 obtain⟨h1,h2,h3⟩:=BJ r d;have up:∀i,own w s.vh s.env e i\/i=nid->own w s.vh s.env e i\/R i:=fun i hi=>hi.imp_right fun (q:i=nid)=>by rw[q];exact hR
 refine⟨h1,h2,⟨h3.le,h3.grow,fun i hi ho=>h3.keep i hi fun h=>ho (up i h),fun b i hb=>(h3.newr b i hb).imp_right fun h=>h.imp_right (up i),fun i L hb=>(h3.newk i L hb).imp_right fun h=>h.imp_right (up i),
  fun i hi=>hi.elim (fun hi=>(h3.sub i hi).imp_left (up i)) fun hR=>.inl (.inr hR)⟩⟩
theorem BK{w:Wd}{s:St}{e:Env}{h:H}{an:Nat}(hr:HR w s.vh s.nx h an)(er:ER w s.env e h an)(d:Option Nat):At w s e h an w (put s d V.undef) (aW e d dV) h an:=BI (nx:=.val dV) (v:=V.undef) (s':=s) ⟨.inl ⟨rfl,rfl,rfl⟩,hr,er,Den.tup _ _ .nil,.refl fun _ h=>.inl (.inl h),nofun,fun _ _ h=>h⟩ d
theorem ER.again{w:Wd}{env:aH}{e:Env}{h:H}{an:Nat}(er:ER w env e h an){d:Nat}{b:Bool}(hl:lk env d=some (.bool b)):ER w ((d,.bool b)::env) e h an:=by
 have hs:∀t v,lk ((d,.bool b)::env) t=some v->lk env t=some v:=fun t v ht=>by
  rw[dK] at ht;split at ht
  ·rename_i e1;simp only at e1;subst e1;cases ht;exact hl
  ·exact ht
 exact er.sub (s:=⟨env,fun _=>none,0⟩) hs
theorem NN{w:Wd}{s:St}{e:Env}{h:H}{an:Nat}(er:ER w s.env e h an){w':Wd}{vh':VH}{vn':Nat}{h':H}{an':Nat}(hr:HR w' vh' vn' h' an')(st:cO w (fR w s.vh) h an w' (fR w' vh') h' an'){v:V}{a:AV}(hd:Den w' v a)(d:Option Nat):
  At w s e h an w' (put ⟨s.env,vh',vn'⟩ d v) (aW e d a) h' an':=by
 have er':ER w' s.env e h' an':=er.call st;have st':cO w (own w s.vh s.env e) h an w' (own w' vh' s.env e) h' an':=by
  refine⟨st.le,st.grow,fun i hi ho=>st.keep i hi fun hb=>ho (.inl hb),fun b i hb=>(st.newr b i hb).imp_right fun h=>h.imp_right .inl,fun i L hb=>(st.newk i L hb).imp_right fun h=>h.imp_right .inl,fun i hi=>?_⟩;rcases hi with hi|hi
  ·exact (st.sub i hi).imp_left .inl
  ·exact .inl (.inr hi)
 have a1:At w s e h an w' ⟨s.env,vh',vn'⟩ e h' an':=⟨hr,er',st'⟩;have a2:At w' ⟨s.env,vh',vn'⟩ e h' an' w' (put ⟨s.env,vh',vn'⟩ d v) (aW e d a) h' an':=BI (nx:=.val a) (v:=v) (s':=⟨s.env,vh',vn'⟩) ⟨.inl ⟨rfl,rfl,rfl⟩,hr,er',.of_tv (.of_den hd),.refl fun _ h=>.inl (.inl h),fun hv=>(oS hd hv).elim,fun _ _ h=>h⟩ d;exact a1.trans a2
theorem RZ{all:Array Oper}:∀(vs:List bV) (os:List Oper),mL P all vs os=true->∀{w:Wd} {s:St} {e:Env} {h:H} {an:Nat},aV G w->HR w s.vh s.nx h an->ER w s.env e h an->
  ∀{K:St->Prop},hU G (aE P X G) vs s K->∃s' e' h' an' w',K s'/\(∃N,∀m,N<=m->cG P (bM P X m) all os e h an=.norm e' h' an')/\At w s e h an w' s' e' h' an'
 |[],[],_,w,s,e,h,an,hg,hr,er,K,hk=>⟨s,e,h,an,w,hk,⟨0,fun m _=>aCW⟩,hr,er,.refl fun _ h=>.inl h⟩
 |[],_::_,hc,_,_,_,_,_,_,_,_,_,_=>by cases hc
 |_::_,[],hc,_,_,_,_,_,_,_,_,_,_=>by cases hc
 |v::vs,o::os,hc,w,s,e,h,an,hg,hr,er,K,hk=>by
  simp only[mL,Bool.and_eq_true] at hc;obtain⟨⟨⟨h1,h2⟩,h3⟩,h4⟩:=hc;have hdst:=E2 h1;simp only[hU] at hk;obtain⟨w1,s1,hk,g⟩:=sV v.gh hr er hk;have a0:At w s e h an w1 s1 e h an:=⟨g.hr,g.er,g.step⟩;have hg1:=hg.mono g.step.le;have go:∀{w2:Wd} {s2:St} {e2:Env} {h2:H} {an2:Nat},At w s e h an w2 s2 e2 h2 an2->hU G (aE P X G) vs s2 K->(∃N,∀m,N<=m->cG P (bM P X m) all (o::os) e h an=cG P (bM P X m) all os e2 h2 an2)->
    ∃s' e' h' an' w',K s'/\(∃N,∀m,N<=m->cG P (bM P X m) all (o::os) e h an=.norm e' h' an')/\At w s e h an w' s' e' h' an':=by
   intro w2 s2 e2 h2 an2 ha hk hev;obtain⟨s',e',h',an',w',k1,⟨N1,k2⟩,k3⟩:=RZ vs os h4 (hg.mono ha.step.le) ha.hr ha.er hk;obtain⟨N2,k4⟩:=hev;exact⟨s',e',h',an',w',k1,⟨max N1 N2,fun m hm=>by rw[k4 m (by omega),k2 m (by omega)]⟩,ha.trans k3⟩
  have yes:∀{s2:St},At w s e h an w1 s2 e h an->dO all e o.guard=some true->bF G (aE P X G) v.op s2 (fun u s'=>hU G (aE P X G) vs (put s' v.dst u) K)->∃s' e' h' an' w',K s'/\(∃N,∀m,N<=m->cG P (bM P X m) all (o::os) e h an=.norm e' h' an')/\At w s e h an w' s' e' h' an':=by
   intro s2 ha hw hk;have plain:v.op.isCall=false->∃s' e' h' an' w',K s'/\(∃N,∀m,N<=m->cG P (bM P X m) all (o::os) e h an=.norm e' h' an')/\At w s e h an w' s' e' h' an':=by
    intro hcall;obtain⟨u,s',a,h',an',w',k1,k2⟩:=w6 hg1 ha.hr ha.er (FX ha.hr ha.er) h3 hcall hk;refine go (ha.trans (BI k2 v.dst)) k1 ⟨0,fun m _=>?_⟩;rw[FN,hw,T9,hdst];rcases k2.nx with⟨q,rfl,rfl⟩|⟨q,rfl⟩|⟨q,rfl⟩
    ·rw[q,aCp]
    ·rw[q,aCo]
    ·rw[q,aCn,Nat.max_eq_right (Nat.le_succ _)]
   have called:∀{g:FuncId} {ws:List V} {us:List AV},aE P X G g ws s2.vh s2.nx (fun u vh nx=>hU G (aE P X G) vs (put ⟨s2.env,vh,nx⟩ v.dst u) K)->aX w1 ws us->opA P o.op e h an=.call g us->
     ∃s' e' h' an' w',K s'/\(∃N,∀m,N<=m->cG P (bM P X m) all (o::os) e h an=.norm e' h' an')/\At w s e h an w' s' e' h' an':=by
    intro g ws us hcl hd hop;obtain⟨u,vh',vn',a,h',an',w',k1,⟨N,k2⟩,k3,k4,k5⟩:=hcl.out w1 h an us hg1 ha.hr hd;refine go (ha.trans (NN ha.er k3 k5 k4 v.dst)) k1 ⟨N,fun m hm=>?_⟩;rw[FN,hw,T9,hdst,hop,aCm,k2 m hm,aBY]
   cases hvo:v.op with
   |call g xs=>
    rw[hvo] at hk h3;generalize hoo:o.op=oo at h3;unfold cop at h3;split at h3<;>first|(rename_i heq;cases heq;done)|skip
    all_goals first
     |(
       rename_i heq;cases heq;simp only[Bool.and_eq_true,aP] at h3;obtain⟨rfl,h3⟩:=h3;obtain⟨ws,q1,_,q2⟩:=nI hg1 ha.er h3 hk;refine called q1 q2 ?_;rw[hoo];simp only[opA,cT,rd,dE,List.append_nil,List.nil_append]
       done)
     |cases h3
   |callv x xs=>
    rw[hvo] at hk h3;generalize hoo:o.op=oo at h3;unfold cop at h3;split at h3<;>first|(rename_i heq;cases heq;done)|skip
    all_goals first
     |(
       rename_i heq;cases heq;simp only[Bool.and_eq_true] at h3;obtain⟨h30,h31⟩:=h3;obtain⟨fv,q0,q3⟩:=bI hg1 ha.er h30 hk;rename_i yy ys tys;generalize hrd:rd e yy=ra at q3;split at q0
       ·cases q3 with
        |func g f c f' c' hf hcc=>obtain⟨ws,q1,_,q2⟩:=nI hg1 ha.er h31 q0;refine called q1 ((hf.app q2).app hcc) ?_;rw[hoo];simp only[opA,cT,hrd,dE,List.append_assoc]
       ·exact q0.elim
       done)
     |cases h3
   |_=>exact plain (by rw[hvo];rfl)
  have no:∀{s2:St},At w s e h an w1 s2 e h an->dO all e o.guard=some false->hU G (aE P X G) vs (put s2 v.dst V.undef) K->∃s' e' h' an' w',K s'/\(∃N,∀m,N<=m->cG P (bM P X m) all (o::os) e h an=.norm e' h' an')/\At w s e h an w' s' e' h' an':=by intro s2 ha hw hk;refine go (ha.trans (BK ha.hr ha.er v.dst)) hk ⟨0,fun m _=>?_⟩;rw[FN,hw,aJg,hdst]
  unfold m5 at hk;split at hk
  ·rename_i hgd;rw[hgd] at h2;have:o.guard=none:=by cases hog:o.guard with|none=>rfl|some q=>rw[hog] at h2;cases h2
   exact yes a0 (by rw[this];rfl) hk
  ·rename_i d b hgd;rw[hgd] at h2;cases hog:o.guard with
   |none=>rw[hog] at h2;cases h2
   |some q=>
   obtain⟨j,b'⟩:=q;rw[hog] at h2;simp only[AA,Bool.and_eq_true,beq_iff_eq] at h2;obtain⟨rfl,h2⟩:=h2;split at h2
   ·rename_i oj hoj;have hdj:=i6 h2;have want:∀a,e.get d=some a->dO all e o.guard=(match some a with|some (.bool c)=>some (c==b)|some .junk=>none|_=>some false):=fun a ha=>by rw[hog];simp only[dO,hoj,hdj,ha];cases a<;>rfl
    split at hk
    ·rename_i c hl;obtain⟨a,q1,q2⟩:=g.er.get hl rfl;cases q2;have hw:dO all e o.guard=some (c==b):=want _ q1;have at2:∀c',c=c'->At w s e h an w1 ⟨(d,.bool c')::s1.env,s1.vh,s1.nx⟩ e h an:=fun c' hc'=>by
      subst hc';refine⟨g.hr,g.er.again hl,g.step.trans (.refl fun i hi=>.inl (kG (fun t ht=>?_) (fun B C hb=>⟨C,hb⟩) i hi))⟩;obtain⟨v',r1,r2⟩:=ht;rw[dK] at r1;split at r1
      ·cases r1;cases r2
      ·exact⟨v',r1,r2⟩
     cases b with
     |true=>
      simp only[cond_true] at hk;cases c with
      |true=>exact yes (at2 true rfl) (hog▸hw) (hk.t rfl)
      |false=>exact no (at2 false rfl) (hog▸hw) (hk.f rfl)
     |false=>
      simp only[cond_false] at hk;cases c with
      |true=>exact no (at2 true rfl) (hog▸hw) (hk.t rfl)
      |false=>exact yes (at2 false rfl) (hog▸hw) (hk.f rfl)
    ·rename_i l hl;obtain⟨a,q1,q2⟩:=g.er.get hl rfl;cases q2;exact no a0 (want _ q1) hk
    ·exact hk.elim
   ·cases h2
end
end
section
open Go.Ev
def VOp.light:VOp->Bool
 |.cint _ _|.cstr _|.crune _=>true
 |_=>false
def aJw:Cls->Nat
 |.p=>0
 |.r=>1
 |.f=>2
 |.w=>3
def qF:Op->Bool
 |.convert ..=>true
 |_=>false
def aCz:Op->Bool
 |.call c=>(match c.callee with|.value _=>true|_=>false)
 |_=>false
def kK(a m:Nat):Bool:=Nat.beq (Nat.land a m) a
def gX:List (Nat×Nat)->Nat->Option Nat
 |[],_=>none
 |p::l,t=>bif Nat.beq p.1 t then some p.2 else gX l t
def p9(t:Nat):List (Nat×Nat)->List (Nat×Nat)
 |[]=>[]
 |p::l=>bif Nat.beq p.1 t then p9 t l else p::p9 t l
def nG(rt:List (Nat×Nat))(d:Option Tmp)(r:Option Nat):List (Nat×Nat):=match d with
 |none=>rt
 |some d=>(match r with|some k=>(d,k)::p9 d rt|none=>p9 d rt)
def BR(rt:List (Nat×Nat))(i:Nat)(op:Op):Option Nat:=match op with
 |.buildSlice _ _ _=>some (i+1)
 |.indexAddr _ (.tmp t) _=>gX rt t
 |.fieldAddr _ (.tmp t) _=>gX rt t
 |.move (.tmp t)=>gX rt t
 |_=>none
def SZ(rt:List (Nat×Nat))(m:Nat)(op:Op):Bool:=match op with
 |.load _ (.tmp t)=>(match gX rt t with|some (k+1)=>Nat.testBit m k|_=>false)
 |_=>false
def NP(rt:List (Nat×Nat))(op:Op):Bool:=match op with
 |.load _ (.tmp t)=>(match gX rt t with|some 0=>true|_=>false)
 |_=>false
def vO:List Nat->List (Nat×Nat)
 |[]=>[]
 |t::ts=>(t,0)::vO ts
def lM(t:Nat):List Nat->Bool
 |[]=>false
 |a::l=>Nat.beq a t||lM t l
def DV(D:List Nat)(all:Array Oper)(o:Oper):Bool:=(qL all o).all fun t=>!lM t D
def nZ(d:Option Tmp)(D:List Nat):List Nat:=match d with|some d=>d::D|none=>D
def sG:List Nat->Nat
 |[]=>0
 |j::l=>Nat.lor (Nat.pow 2 j) (sG l)
def GT:List Nat->Bool
 |[]=>true
 |_=>false
def cY(all:Array Oper)(er:Nat):List bV->List Oper->List Nat->Nat->Nat->Nat->Nat->List Nat->List (Nat×Nat)->Bool
 |[],[],_,_,_,_,_,_,_=>true
 |v::vs,o::os,m::ms,i,rm,fm,wm,D,rt=>
  Nat.blt m (Nat.pow 2 i)&&(match v.tg with
  |.e=>(match bP o.op with|.p=>true|.r=>Nat.testBit er i|_=>false)&&(match v.gh with|[]=>true|_=>false)&&!v.op.isCall&&DV D all o&&cY all er vs os ms (i+1) rm fm wm D (nG rt o.dst none)
  |.c _=>(match bP o.op with
   |.r=>NP rt o.op&&!v.op.isCall&&cY all er vs os ms (i+1) rm fm wm (nZ o.dst D) (nG rt o.dst none)
   |_=>false)
  |.n ck=>(match bP o.op with
   |.p=>GT ck&&cY all er vs os ms (i+1) rm fm wm (nZ o.dst D) (nG rt o.dst (BR rt i o.op))
   |.r=>GT ck&&(kK (Nat.lor fm wm) m||(kK wm m&&SZ rt m o.op))&&cY all er vs os ms (i+1) (Nat.lor rm (Nat.pow 2 i)) fm wm (nZ o.dst D) (nG rt o.dst none)
   |.f=>GT ck&&(bif qF o.op then (bif v.op.light then Nat.beq wm 0 else kK (Nat.lor fm wm) m) else true)&&cY all er vs os ms (i+1) (bif qF o.op then Nat.lor rm (Nat.pow 2 i) else rm) (Nat.lor fm (Nat.pow 2 i)) wm (nZ o.dst D) (nG rt o.dst (BR rt i o.op))
   |.w=>kK (Nat.lor rm (Nat.lor fm wm)) m&&kK er (Nat.lor m (sG ck))&&cY all er vs os ms (i+1) rm fm (Nat.lor wm (Nat.pow 2 i)) (nZ o.dst D) (nG rt o.dst none)))
 |_,_,_,_,_,_,_,_,_=>false
def FA:List bV->List Oper->Nat->Nat
 |v::vs,o::os,i=>Nat.lor (match v.tg,bP o.op with|.e,.r=>Nat.pow 2 i|_,_=>0) (FA vs os (i+1))
 |_,_,_=>0
def AS(P:Program)(vs:List bV)(os:Array Oper):Bool:=iV os&&P.follows .mixedOrders&&cY os (FA vs os.toList 0) vs os.toList (dX os.toList []) 0 0 0 0 [] (vO (oD vs))
theorem pB{a m j:Nat}(h:kK a m=true)(hj:Nat.testBit a j=true):Nat.testBit m j=true:=by
 have:=aP.1 h;have h2:Nat.testBit (Nat.land a m) j=Nat.testBit a j:=by rw[this]
 have h3:Nat.testBit (a&&& m) j=(Nat.testBit a j&&Nat.testBit m j):=Nat.testBit_and a m j;have h4:Nat.testBit (Nat.land a m) j=(Nat.testBit a j&&Nat.testBit m j):=h3;rw[h4,hj] at h2;simpa using h2
theorem jP(a b j:Nat):Nat.testBit (Nat.lor a b) j=(Nat.testBit a j||Nat.testBit b j):=Nat.testBit_or a b j
theorem HA(i j:Nat):Nat.testBit (Nat.pow 2 i) j=decide (i=j):=Nat.testBit_two_pow
theorem QR{m i j:Nat}(h:m<2^i)(hj:Nat.testBit m j=true):j<i:=by
 rcases Nat.lt_or_ge j i with h1|h1
 ·exact h1
 ·have:m<2^j:=Nat.lt_of_lt_of_le h (Nat.pow_le_pow_right (by decide) h1)
  rw[Nat.testBit_lt_two_pow this] at hj;cases hj
section
variable {P : Program}
theorem Q6{ty:TypeId}{v:AV}{h:H}{n:Nat}{a:AV}{h':H}(e:fH P ty v h n=.new a h'):∃B,h'=h.set n B/\∀g,fH P ty v g n=.new a (g.set n B):=by
 unfold fH at e ⊢;split at e
 ·rename_i cs hcs;cases e;exact⟨_,rfl,fun g=>rfl⟩
 ·cases e
theorem PE{op:Op}(hc:bP op=.f){e:Env}{h:H}{n:Nat}{a:AV}{h':H}(hv:opA P op e h n=.new a h'):∃B,h'=h.set n B/\∀g,opA P op e g n=.new a (g.set n B):=by
 cases op<;>simp only[bP] at hc<;>try cases hc
 case alloc ty=>
  simp only[opA] at hv ⊢;split at hv
  ·rename_i z hz;obtain⟨B,h1,h2⟩:=Q6 hv;exact⟨B,h1,fun g=>h2 g⟩
  ·cases hv
 case box ty x=>exact Q6 (P:=P) hv
 case buildSlice t m ps=>
  simp only[opA,j5] at hv ⊢;split at hv
  ·rename_i el hu;split at hv
   ·rename_i s z hs hz;split at hv
    ·rename_i zc hzc;cases hb:(Nat.blt 0 s&&Nat.ble (m*s) 16777216&&Nat.beq (len zc) s) with
     |false=>rw[hb] at hv;cases hv
     |true=>
      rw[hb] at hv;simp only[cond_true] at hv;split at hv
      ·rename_i cs hcs;cases hv;refine⟨_,rfl,fun g=>?_⟩;simp only[hu,hs,hz,hzc,hb,cond_true,hcs]
      ·cases hv
    ·cases hv
   ·cases hv
  ·cases hv
 case convert s d x=>
  simp only[opA,dY] at hv ⊢;split at hv
  all_goals try (split at hv<;>try (cases hv;done))
  all_goals try (split at hv<;>try (cases hv;done))
  all_goals first
   |(cases hv;done)
   |(cases hv;exact⟨_,rfl,fun g=>rfl⟩)
   |(
     exfalso;simp only[cond_eq_ite] at hv;split at hv
     ·first|(cases hv;done)|(split at hv<;>cases hv)
     ·cases hv)
 case makeMap t r=>
  simp only[opA] at hv ⊢;split at hv
  ·cases hv;exact⟨_,rfl,fun g=>rfl⟩
  ·cases hv
 case makeSlice t l c=>
  simp only[opA,lK] at hv ⊢;split at hv
  ·rename_i hl hc' hu;split at hv
   ·rename_i s b z hs hb hz;split at hv
    ·rename_i zc hzc;cases hbb:(Nat.blt 0 s&&Nat.beq (len zc) s&&Nat.ble _ _&&Nat.ble _ 140737488355328&&Nat.blt _ p63) with
     |false=>rw[hbb] at hv;cases hv
     |true=>rw[hbb] at hv;cases hv;refine⟨_,rfl,fun g=>?_⟩;first|(rw[hbb];rfl)|rfl
    ·cases hv
   ·cases hv
  ·cases hv
 case call c=>split at hc<;>cases hc
 case range t x=>
  simp only[opA,nH] at hv ⊢;split at hv
  ·rename_i l hu;cases hv;exact⟨_,rfl,fun g=>rfl⟩
  ·cases hv
def NX.onlyV:NX->Bool
 |.upd _ _=>false
 |.new _ _=>false
 |_=>true
theorem w8(x:Option AV):NX.onlyV (dL x)=true:=by cases x<;>rfl
theorem R3{op:Op}(hc:bP op=.p)(e:Env)(h:H)(n:Nat):NX.onlyV (opA P op e h n)=true:=by
 cases op<;>simp only[bP] at hc<;>try cases hc
 case convert s d x=>cases hb:Nat.beq s d<;>rw[hb] at hc<;>cases hc
 case call c=>split at hc<;>cases hc
 all_goals simp only[opA,fieldAt,sU,indexAt,sY,vJ]
 all_goals first
  |exact w8 _
  |rfl
  |(repeat' (first|exact w8 _|rfl|split|(simp only[cond_eq_ite];split)))
theorem HH{op:Op}(hc:bP op=.r)(e:Env)(h:H)(n:Nat):NX.onlyV (opA P op e h n)=true:=by
 cases op<;>simp only[bP] at hc<;>try cases hc
 case convert s d x=>cases hb:Nat.beq s d<;>rw[hb] at hc<;>cases hc
 case call c=>
  split at hc<;>first|cases hc|skip
  all_goals (rename_i hcal;simp only[opA,cT,hcal,dR,iL,oE])
  all_goals (repeat' (first|contradiction|exact w8 _|rfl|split|(simp only[cond_eq_ite];split)))
 all_goals simp only[opA,eM,gL,lT,BV,kD]
 all_goals first
  |exact w8 _
  |rfl
  |(repeat' (first|exact w8 _|rfl|split|(simp only[cond_eq_ite];split)))
theorem aC6{op:Op}(hc:bP op=.f)(hi:qF op=false){e:Env}{h:H}{n:Nat}{v:AV}(hv:opA P op e h n=.val v):False:=by
 cases op<;>simp only[bP] at hc<;>try cases hc
 case convert=>cases hi
 case call c=>split at hc<;>cases hc
 all_goals (revert hv;simp only[opA,fH,j5,lK,nH])
 all_goals (repeat' (first|(intro hh;cases hh;done)|split|(simp only[cond_eq_ite];split)))
theorem aC7{op:Op}(hc:bP op=.f){e:Env}{h:H}{n:Nat}{v:AV}{h':H}(hv:opA P op e h n=.upd v h'):False:=by
 cases op<;>simp only[bP] at hc<;>try cases hc
 case convert s d x=>
  have hsd:Nat.beq s d=false:=by cases hb:Nat.beq s d with|false=>rfl|true=>rw[hb] at hc;cases hc
  revert hv;simp only[opA,dY,hsd]
  repeat' (first|(intro hh;cases hh;done)|split|(simp only[cond_eq_ite];split))
 case call c=>split at hc<;>cases hc
 all_goals (revert hv;simp only[opA,fH,j5,lK,nH])
 all_goals (repeat' (first|(intro hh;cases hh;done)|split|(simp only[cond_eq_ite];split)))
theorem aFK{vo:VOp}{o:Op}(hc:cop P vo o=true)(hl:vo.light=true){e:Env}{h:H}{n:Nat}{a:AV}(hv:opA P o e h n=.val a)(g:H)(k:Nat):opA P o e g k=.val a:=by
 cases vo<;>simp only[VOp.light] at hl<;>try cases hl
 all_goals (cases o<;>simp only[cop] at hc<;>try cases hc)
 ·simp only[Bool.and_eq_true] at hc;have hu:=AY hc.1.2;rename_i y;revert hv;simp only[opA,dY,hu];generalize rd e y=ra;cases ra<;>first|exact fun h=>h|(intro hh;cases hh)
 ·simp only[Bool.and_eq_true] at hc;have hu:=jN hc.1.2;have hs:=jN hc.2;rename_i y;revert hv;simp only[opA,dY,hu,hs];generalize rd e y=ra;cases ra<;>first|exact fun h=>h|(intro hh;cases hh)
 ·simp only[Bool.and_eq_true] at hc;have hu:=jN hc.1.2;obtain⟨kk,hs⟩:=QD hc.2;rename_i y;revert hv;simp only[opA,dY,hu,hs];generalize rd e y=ra;cases ra<;>first|exact fun h=>h|(intro hh;cases hh)
theorem aBZ{vo:VOp}{o:Op}(hc:cop P vo o=true)(hl:vo.isCall=true):bP o=.w/\aCz o=true:=by
 cases vo<;>simp only[VOp.isCall] at hl<;>try cases hl
 all_goals (cases o<;>simp only[cop] at hc<;>try cases hc)
 all_goals (rename_i c;obtain⟨cal,xs,ts⟩:=c;cases cal<;>first|exact⟨rfl,rfl⟩|cases hc)
theorem FO{base ab:Nat}{b:H}{fs:List (Nat×AB)}{sel:Nat->Bool}(h:∀p∈fs,sel p.1=true):aY base ab sel b fs=aY base ab (fun _=>true) b fs:=by
 induction fs with
 |nil=>rfl
 |cons p fs ih=>simp only[aY,h p (.head _),ih fun q hq=>h q (.tail _ hq)]
theorem aCY{base ab:Nat}{b:H}{fs:List (Nat×AB)}{sel:Nat->Bool}(h:∀p∈fs,Nat.testBit ab p.1=true):aY base ab sel b fs=b:=by
 induction fs with
 |nil=>rfl
 |cons p fs ih=>simp only[aY,h p (.head _),ih fun q hq=>h q (.tail _ hq)];rfl
end
theorem At.grow{w w':Wd}{s s':St}{e e':Env}{h h':H}{an an' an'':Nat}(a:At w s e h an w' s' e' h' an')(hn:an'<=an''):At w s e h an w' s' e' h' an'':=⟨a.hr.grow (Nat.le_refl _) hn,a.er.mono (.refl _) (fun t i hl hi=>by obtain⟨j,hj,h1,h2,h3⟩:=a.er.loc hl;rw[hi] at hj;cases hj;exact⟨rfl,h1,Nat.lt_of_lt_of_le h2 hn,h3⟩),⟨a.step.le,Nat.le_trans a.step.grow hn,a.step.keep,a.step.newr,a.step.newk,a.step.sub⟩⟩
section
variable {P : Program} {X : Ovr} {G : Gt}
theorem aCV{cal:dH}{all:Array Oper}{base:Nat}{o:Oper}{os:List Oper}{m:Nat}{ms:List Nat}{d d':bU}(h:eO P cal all base o m d=some d'):gU P cal all base (o::os) (m::ms) d=gU P cal all base os ms d':=by simp only[gU,h]
def eZ:AV->Option Nat
 |.ptr b _=>some b
 |.sl b _ _ _ _=>some b
 |.map b=>some b
 |_=>none
end
section
variable {P : Program}
def hop:Op->Option Operand
 |.load _ a=>some a
 |.slice _ x _ _ _=>some x
 |.lookup _ x _ _=>some x
 |.call c=>(match c.callee with|.builtin .len=>c.args.toList.head?|_=>none)
 |_=>none
theorem BL{op:Op}(hc:bP op=.r){e:Env}{h g:H}(hh:∀x,hop op=some x->∀q,eZ (rd e x)=some q->h.get q=g.get q)(n:Nat):opA P op e h n=opA P op e g n:=by
 cases op<;>simp only[bP] at hc<;>try cases hc
 case convert s d x=>cases hb:Nat.beq s d<;>rw[hb] at hc<;>cases hc
 case load t a=>
  have h1:=hh a rfl;simp only[opA]
  congr 1
  unfold ld;generalize rd e a=ra at h1;cases ra<;>try rfl
  rename_i b o;have:=h1 b rfl;simp only[fF,this]
 case slice t x lo hi mx=>
  have h1:=hh x rfl;simp only[opA];unfold eM;generalize rd e x=ra at h1;cases ra with
  |ptr b o=>
   have:=h1 b rfl;cases P.underlying t with
   |none=>rfl
   |some ty=>
    cases ty with
    |array n e=>simp only[this];have e1:∀s lo hi,gL h b o n s (some n) lo hi=gL g b o n s (some n) lo hi:=fun _ _ _=>rfl;simp only[e1]
    |_=>rfl
  |sl b o l es cap=>
   have:=h1 b rfl;have e1:∀s,eF h b o s cap=eF g b o s cap:=fun s=>by cases cap<;>simp only[eF,this]
   cases P.underlying t with
   |none=>rfl
   |some ty=>cases ty<;>first|rfl|simp only[gL,lT,e1]
  |_=>cases P.underlying t with
   |none=>rfl
   |some ty=>cases ty<;>rfl
 case lookup t x i ok=>
  have h1:=hh x rfl;simp only[opA];unfold kD;generalize rd e x=ra at h1;cases ra with
  |map b=>
   have:=h1 b rfl;cases P.underlying t with
   |none=>rfl
   |some ty=>cases ty<;>first|rfl|simp only[this]
  |_=>cases P.underlying t with
   |none=>rfl
   |some ty=>cases ty<;>rfl
 case call c=>
  split at hc<;>first|cases hc|skip
  all_goals (rename_i hcal;simp only[opA,cT,hcal,dR])
  ·cases hl:c.args.toList with
   |nil=>rfl
   |cons x xs=>
    have h1:=hh x (by simp only[hop,hcal,hl,List.head?_cons])
    simp only[List.map_cons];cases c.argTypes.toList with
    |nil=>rfl
    |cons t ts=>
     simp only[iL];generalize rd e x=ra at h1;cases ra with
     |map b=>
      have:=h1 b rfl;cases P.underlying t with
      |none=>rfl
      |some ty=>cases ty<;>first|rfl|simp only[this]
     |_=>cases P.underlying t with
      |none=>rfl
      |some ty=>cases ty<;>rfl
  all_goals (generalize List.map (rd e) c.args.toList=l;cases l<;>rfl)
theorem HJ{e e':Env}{x:Option Operand}(h:∀y,x=some y->rd e y=rd e' y):Ev.rdO e x=Ev.rdO e' x:=by
 cases x with
 |none=>rfl
 |some y=>simp only[Ev.rdO,Option.map,h y rfl]
theorem GM{e e':Env}{l:List Operand}(h:∀x∈l,rd e x=rd e' x):l.map (rd e)=l.map (rd e'):=List.map_congr_left h
theorem aFm{op:Op}(hc:bP op=.p\/bP op=.r){e e':Env}(hh:∀x∈op.operands,rd e x=rd e' x)(h:H)(n:Nat):opA P op e h n=opA P op e' h n:=by
 cases op<;>simp only[bP,reduceCtorEq,or_false,false_or,or_self] at hc
 case convert s d x=>cases hb:Nat.beq s d<;>rw[hb] at hc<;>simp at hc
 case build t ps=>
  simp only[opA]
  congr 2
  refine List.map_congr_left fun p hp=>?_;rw[hh p.2 (by simp only[Op.operands];simp;exact⟨p.1,by simpa using hp⟩)]
 case makeFunc f fs cs=>simp only[opA];rw[GM fun x hx=>hh x (by simp only[Op.operands];simp;exact .inl (by simpa using hx)),GM fun x hx=>hh x (by simp only[Op.operands];simp;exact .inr (by simpa using hx))]
 case slice t x lo hi mx=>simp only[opA];rw[hh x (by simp[Op.operands]),HJ fun y hy=>hh y (by subst hy;simp[Op.operands]),HJ fun y hy=>hh y (by subst hy;simp[Op.operands]),HJ fun y hy=>hh y (by subst hy;simp[Op.operands])]
 case call c=>
  obtain⟨cal,xs,ts⟩:=c;have hm:∀(b:Builtin),cal=.builtin b->xs.toList.map (rd e)=xs.toList.map (rd e'):=fun b hb=>GM fun x hx=>hh x (by subst hb;simp only[Op.operands,Call.operands];simp;simpa using hx)
  simp only at hc;split at hc<;>try (simp at hc;done)
  all_goals (rename_i b;simp only[opA,cT];rw[hm _ rfl])
 all_goals (simp only[opA];(repeat rw[hh _ (by simp[Op.operands])]))
theorem PC{base ab q:Nat}{b:H}{sel:Nat->Bool}{fs:List (Nat×AB)}(h:q<base):(aY base ab sel b fs).get q=b.get q:=by
 induction fs with
 |nil=>rfl
 |cons p fs ih=>
  simp only[aY];cases hb:(!Nat.testBit ab p.1&&sel p.1) with
  |true=>simp only[cond_true];rw[Tr.get_set,if_neg (by omega),ih]
  |false=>simp only[cond_false];exact ih
theorem aCX{base ab k:Nat}{b:H}{sel sel':Nat->Bool}{fs:List (Nat×AB)}(h:sel k=sel' k):(aY base ab sel b fs).get (base+k)=(aY base ab sel' b fs).get (base+k):=by
 induction fs with
 |nil=>rfl
 |cons p fs ih=>
  simp only[aY];by_cases hk:p.1=k
  ·rw[hk,h];cases hb:(!Nat.testBit ab k&&sel' k) with
   |true=>simp only[cond_true];rw[Tr.get_set,Tr.get_set,if_pos rfl,if_pos rfl]
   |false=>simp only[cond_false];exact ih
  ·have e1:∀s:Nat->Bool,(bif !Nat.testBit ab p.1&&s p.1 then (aY base ab s b fs).set (base+p.1) p.2 else aY base ab s b fs).get (base+k)=(aY base ab s b fs).get (base+k):=by
    intro s;cases (!Nat.testBit ab p.1&&s p.1) with
    |true=>simp only[cond_true];rw[Tr.get_set,if_neg (by omega)]
    |false=>rfl
   rw[e1,e1,ih]
theorem aBt{w:Wd}{v:V}{a:AV}(hd:Den w v a){q:Nat}(ht:eZ a=some q):(∃b,w.ρ b=some q)\/∃L,w.K q=some L:=by
 cases hd<;>simp only[eZ] at ht<;>cases ht
 ·exact .inl ⟨_,by assumption⟩
 ·exact .inl ⟨_,by assumption⟩
 ·exact .inl ⟨_,by assumption⟩
 ·exact .inr ⟨_,by assumption⟩
 ·exact .inr ⟨_,by assumption⟩
theorem aIp{w:Wd}{v:V}{a a':AV}(hr:v.rigid=true)(hd:Den w v a)(hd':Den w v a'):a=a':=by
 cases hd<;>first|(cases hr;done)|skip
 all_goals (cases hd';first|rfl|(rename_i h1 _ h2;rw[h1] at h2;cases h2;rfl))
theorem aG8(c:Option Nat):(match c,c with|none,none=>true|some x,some y=>Nat.beq x y|_,_=>false)=true:=by
 cases c
 ·rfl
 ·exact aP.2 rfl
theorem v6{w:Wd}:∀(n:Nat) (v:V) (a:AV),V.eqn n v=true->Den w v a->∀m,n<=m->iH m a a=true
 |0,_,_,h,_,_,_=>by cases h
 |n+1,v,a,h,hd,m,hm=>by
  obtain⟨m,rfl⟩:∃k,m=k+1:=⟨m-1,by omega⟩
  have hl:∀(l:List V) (k:List AV),l.all (V.eqn n)=true->aX w l k->((k.zip k).all fun p=>iH m p.1 p.2)=true:=by
   intro l
   induction l with
   |nil=>intro k _ hk;cases hk;rfl
   |cons v l ih=>
    intro k hq hk;cases hk with
    |cons v a l k h1 h2=>simp only[List.all_cons,Bool.and_eq_true] at hq;simp only[List.zip_cons_cons,List.all_cons,Bool.and_eq_true];exact⟨v6 n v a hq.1 h1 m (by omega),ih k hq.2 h2⟩
  have hb:∀k,Nat.beq k k=true:=fun k=>aP.2 rfl;cases hd<;>simp only[V.eqn,Bool.false_eq_true] at h<;>simp only[iH]
  all_goals first
   |(simp[hb];done)
   |(simp[jM];rename_i k n;cases k<;>rfl)
   |(simp[iX];done)
   |(simp only[hb,Bool.and_self,Bool.true_and];exact aG8 _)
   |(simp only[hb,cond_true,Bool.true_and];first|exact hl _ _ h (by assumption)|exact v6 n _ _ h (by assumption) m (by omega))
end
def wC:V->Bool
 |.bx _=>false
 |.it _ _=>false
 |.lp _ _=>false
 |_=>true
def fZ(env:aH):Prop:=∀t v,lk env t=some v->wC v=true
section
variable {P : Program} {G : Gt} {call : dD}
theorem fZ.noLoc{env:aH}(h:fZ env)(t:Nat):¬Loc env t:=fun⟨v,h1,h2⟩=>by have:=h t v h1;cases v<;>first|(cases h2;done)|cases this
theorem fZ.rd{w:Wd}{e:Env}{h:H}{an:Nat}{env:aH}(hf:fZ env)(hg:aV G w)(er:ER w env e h an){x:VX}{o:Operand}(hx:aS x o=true){v:V}(hv:rdV G env x=some v):v=.lost\/Den w v (rd e o):=by
 have ht:=qP hg er hx hv;have:wC v=true:=by
  cases x with
  |t n=>
   simp only[rdV] at hv;cases hl:lk env n with
   |none=>rw[hl] at hv;cases hv
   |some u=>rw[hl] at hv;have:=hf n u hl;cases u<;>first|(cases hv;exact this)|cases this
  |c u=>
   cases hv;cases o<;>simp only[aS] at hx<;>try cases hx
   split at hx
   ·have:=sO (w:=w) 5 _ _ hx;cases this<;>rfl
   ·cases hx
  |g k=>simp only[rdV] at hv;split at hv<;>cases hv;rfl
  |f g=>cases hv;rfl
 cases v<;>first|(cases this;done)|exact .inl rfl|exact .inr ht
theorem BM{env:aH}{x:VX}{k:V->Prop}(h:rdK G env x k):∃v,rdV G env x=some v/\k v:=by
 unfold rdK at h;split at h
 ·exact⟨_,by assumption,h⟩
 ·exact h.elim
theorem P9{w:Wd}{s:St}{e:Env}{h:H}{an:Nat}(hg:aV G w)(hf:fZ s.env)(er:ER w s.env e h an){vo:VOp}{o:Op}(hc:cop P vo o=true){K:V->St->Prop}(hk:bF G call vo s K):
  ∀x,hop o=some x->∀q,eZ (rd e x)=some q->((∃b,w.ρ b=some q)\/∃L,w.K q=some L)/\(kW G s.env vo=true->∃L,w.K q=some L):=by
 have key:∀{vx:VX} {x:Operand} {k:V->Prop},aS vx x=true->rdK G s.env vx k->(k .lost->False)->(∀v,rdV G s.env vx=some v->kW G s.env vo=true->(∃a b c,v=.sl a b c)\/(∃a b,v=.fp a b)\/∀a,Den w v a->eZ a=none)->
   ∀q,eZ (rd e x)=some q->((∃b,w.ρ b=some q)\/∃L,w.K q=some L)/\(kW G s.env vo=true->∃L,w.K q=some L):=by
  intro vx x k h1 h2 h3 h4 q hq;obtain⟨v,h5,h6⟩:=BM h2;rcases hf.rd hg er h1 h5 with rfl|hd
  ·exact (h3 h6).elim
  ·refine⟨aBt hd hq,fun hca=>?_⟩;generalize rd e x=ra at hd hq;rcases h4 v h5 hca with⟨a,b,c,rfl⟩|⟨a,b,rfl⟩|h7
   ·cases hd<;>simp only[eZ] at hq<;>cases hq;exact⟨_,by assumption⟩
   ·cases hd;simp only[eZ] at hq;cases hq;exact⟨_,by assumption⟩
   ·rw[h7 _ hd] at hq;cases hq
 intro x hx q hq;cases o<;>simp only[hop,Option.some.injEq,reduceCtorEq] at hx
 case load t a=>
  subst hx;cases vo<;>simp only[cop] at hc<;>first|(cases hc;done)|exact False.elim hk|skip
  simp only[Bool.and_eq_true] at hc;refine key hc.1.1 hk (fun h=>h) (fun v hv hca=>?_) q hq;simp only[kW,hv] at hca;split at hca
  ·rename_i heq;cases heq;exact .inr (.inl ⟨_,_,rfl⟩)
  ·cases hca
 case slice t y lo hi mx=>
  subst hx;cases vo<;>simp only[cop] at hc<;>first|(cases hc;done)|exact False.elim hk|skip
  ·cases mx<;>simp only[Bool.and_eq_true] at hc<;>first|(cases hc;done)|skip
   refine key hc.1.1.2 hk (fun h=>h) (fun v hv hca=>?_) q hq;obtain⟨v',h1,h2⟩:=BM hk;rw[hv] at h1;cases h1;cases v<;>first|exact h2.elim|(refine .inr (.inr fun a ha=>?_);cases ha;rfl)
  ·simp only[Bool.and_eq_true] at hc;refine key hc.1.1.1.1.2 hk (fun h=>h) (fun v hv hca=>?_) q hq;simp only[kW,hv] at hca;split at hca
   ·rename_i heq;cases heq;exact .inl ⟨_,_,_,rfl⟩
   ·rename_i heq;cases heq;refine .inr (.inr fun a ha=>?_);cases ha;rfl
   ·cases hca
  ·cases mx<;>simp only[Bool.and_eq_true] at hc<;>first|(cases hc;done)|skip
   refine key hc.1.1.2 hk (fun h=>h) (fun v hv hca=>?_) q hq;cases hca
 case lookup t y j ok'=>
  subst hx;cases vo<;>simp only[cop] at hc<;>first|(cases hc;done)|exact False.elim hk|skip
  rename_i sh ag z vx vi ok;simp only[Bool.and_eq_true] at hc;obtain⟨ki,_,h1⟩:=BM hk;cases hfk:cW sh ag ki with
  |false=>rw[hfk] at h1;exact h1.elim
  |true=>rw[hfk,cond_true] at h1;exact key hc.1.1.1 h1 (fun h=>h) (fun v hv hca=>by cases hca) q hq
 case call c=>
  obtain⟨cal,xs,ts⟩:=c;simp only at hx;split at hx<;>first|(cases hx;done)|skip
  cases vo<;>simp only[cop] at hc<;>first|(cases hc;done)|exact False.elim hk|skip
  all_goals (split at hc<;>first|(cases hc;done)|skip)
  all_goals (rename_i h1 h2;rw[h1] at hx;simp only[List.head?_cons,Option.some.injEq] at hx;subst hx;simp only[Bool.and_eq_true] at hc;obtain⟨hc1,hc2⟩:=hc)
  ·refine key hc1 hk (fun h=>h) (fun v hv hca=>?_) q hq;obtain⟨v',h1,h2⟩:=BM hk;rw[hv] at h1;cases h1;cases v<;>first|exact h2.elim|(refine .inr (.inr fun a ha=>?_);cases ha;rfl)
  ·refine key hc1 hk (fun h=>h) (fun v hv hca=>?_) q hq;simp only[kW,hv] at hca;split at hca
   ·rename_i heq;cases heq;exact .inl ⟨_,_,_,rfl⟩
   ·rename_i heq;cases heq;refine .inr (.inr fun a ha=>?_);cases ha;rfl
   ·cases hca
end
end
section
open Go.Ev
section
variable {P : Program} {X : Ovr} {G : Gt} {call : dD}
theorem GA{all:Array Oper}{v:bV}{o:Oper}(h2:AA all v.guard o.guard=true){w:Wd}{s:St}{e:Env}{h:H}{an:Nat}(er:ER w s.env e h an){A B:St->Prop}(hk:m5 s v.guard A B):
  ∃s2,(s2=s\/∃d c,lk s.env d=some (.bool c)/\s2=⟨(d,.bool c)::s.env,s.vh,s.nx⟩)/\((dO all e o.guard=some true/\A s2)\/(dO all e o.guard=some false/\B s2)):=by
 unfold m5 at hk;split at hk
 ·rename_i hgd;rw[hgd] at h2;have:o.guard=none:=by cases hog:o.guard with|none=>rfl|some q=>rw[hog] at h2;cases h2
  exact⟨s,.inl rfl,.inl ⟨by rw[this];rfl,hk⟩⟩
 ·rename_i dd b hgd;rw[hgd] at h2;cases hog:o.guard with
  |none=>rw[hog] at h2;cases h2
  |some q=>
  obtain⟨j,b'⟩:=q;rw[hog] at h2;simp only[AA,Bool.and_eq_true,beq_iff_eq] at h2;obtain⟨rfl,h2⟩:=h2;split at h2
  ·rename_i oj hoj;have hdj:=i6 h2;have want:∀a,e.get dd=some a->dO all e (some (j,b))=(match some a with|some (.bool c)=>some (c==b)|some .junk=>none|_=>some false):=fun a ha=>by simp only[dO,hoj,hdj,ha];cases a<;>rfl
   split at hk
   ·rename_i c hl;obtain⟨a,q1,q2⟩:=er.get hl rfl;cases q2;have hw:dO all e (some (j,b))=some (c==b):=want _ q1;refine⟨⟨(dd,.bool c)::s.env,s.vh,s.nx⟩,.inr ⟨dd,c,hl,rfl⟩,?_⟩;cases b with
    |true=>
     simp only[cond_true] at hk;cases c with
     |true=>exact .inl ⟨hw,hk.t rfl⟩
     |false=>exact .inr ⟨hw,hk.f rfl⟩
    |false=>
     simp only[cond_false] at hk;cases c with
     |true=>exact .inr ⟨hw,hk.t rfl⟩
     |false=>exact .inl ⟨hw,hk.f rfl⟩
   ·rename_i l hl;obtain⟨a,q1,q2⟩:=er.get hl rfl;cases q2;exact⟨s,.inl rfl,.inr ⟨want _ q1,hk⟩⟩
   ·exact hk.elim
  ·cases h2
theorem F9{w:Wd}{s s2:St}{e:Env}{h:H}{an:Nat}(hr:HR w s.vh s.nx h an)(er:ER w s.env e h an)(h2:s2=s\/∃d c,lk s.env d=some (.bool c)/\s2=⟨(d,.bool c)::s.env,s.vh,s.nx⟩):At w s e h an w s2 e h an:=by
 rcases h2 with rfl|⟨d,c,hl,rfl⟩
 ·exact⟨hr,er,.refl fun i hi=>.inl hi⟩
 ·refine⟨hr,er.again hl,.refl fun i hi=>.inl (kG (fun t ht=>?_) (fun B C hb=>⟨C,hb⟩) i hi)⟩;obtain⟨v',r1,r2⟩:=ht;rw[dK] at r1;split at r1
  ·cases r1;cases r2
  ·exact⟨v',r1,r2⟩
structure EF(P:Program)(G:Gt)(rs:List Rec)(w:Wd)(h:H)(an:Nat)(j:Nat)(op:Op)(e:Env)(a:AV)(r:Rec):Prop where
 fnd:fU j rs=some r
 cop:cop P r.op op=true
 ncall:r.op.isCall=false
 cls:bP op=.p\/bP op=.r
 flat:fZ r.env
 er:ER w r.env e h an
 den:Den w r.v a
 eqn:r.v.eqn 8=true
 val:opA P op e h 0=.val a
 low:∀x,hop op=some x->∀q,eZ (rd e x)=some q->q<an
 cal:kW G r.env r.op=true->∀x,hop op=some x->∀q,eZ (rd e x)=some q->∃L,w.K q=some L
theorem fZ.er{w w':Wd}{env:aH}{e:Env}{h h':H}{an an':Nat}(hf:fZ env)(er:ER w env e h an)(hw:w.le w'):ER w' env e h' an':=er.mono hw fun t i hl _=>(hf.noLoc t hl).elim
theorem EF.mono{rs:List Rec}{w w':Wd}{h:H}{an j:Nat}{op:Op}{e:Env}{a:AV}{r:Rec}(E:EF P G rs w h an j op e a r)(hw:w.le w'):EF P G rs w' h an j op e a r:=⟨E.fnd,E.cop,E.ncall,E.cls,E.flat,E.flat.er E.er hw,E.den.mono hw,E.eqn,E.val,E.low,fun hc x hx q hq=>let ⟨L,hL⟩:=E.cal hc x hx q hq;⟨L,hw.K _ _ hL⟩⟩
inductive jD(all:Array Oper)(rs:List Rec)(E:Nat->Op->Env->AV->Rec->Prop):List bV->List Oper->Nat->Env->Prop where
 |nil (i:Nat) (e:Env):jD all rs E [] [] i e
 |late (v:bV) (o:Oper) (vs:List bV) (os:List Oper) (i:Nat) (e:Env) (ht:v.tg≠.e) (h:jD all rs E vs os (i+1) e):jD all rs E (v::vs) (o::os) i e
 |no (v:bV) (o:Oper) (vs:List bV) (os:List Oper) (i:Nat) (e:Env) (ht:v.tg=.e) (hr:fU i rs=none) (hw:dO all e o.guard=some false) (h:jD all rs E vs os (i+1) (aW e o.dst dV)):jD all rs E (v::vs) (o::os) i e
 |yes (v:bV) (o:Oper) (vs:List bV) (os:List Oper) (i:Nat) (e:Env) (r:Rec) (a:AV) (ht:v.tg=.e) (hw:dO all e o.guard=some true) (hE:E i o.op e a r) (h:jD all rs E vs os (i+1) (aW e o.dst a)):jD all rs E (v::vs) (o::os) i e
theorem fZ.put{s:St}(hf:fZ s.env){v:V}(hv:wC v=true)(d:Option Nat):fZ (put s d v).env:=by
 cases d with
 |none=>exact hf
 |some d=>
  intro t u hu;have hu:lk (jS s.env d v) t=some u:=hu;rw[A7] at hu;split at hu
  ·cases hu;cases v<;>first|exact hv|cases hv
  ·have:v.isLoc=false:=by cases v<;>first|rfl|cases hv
   rw[this] at hu;exact hf t u hu
theorem aCR{n:Nat}{v:V}(h:V.eqn n v=true):wC v=true:=by
 cases n with
 |zero=>cases h
 |succ n=>cases v<;>first|rfl|cases h
theorem FK{n:Nat}{v:V}(h:V.eqn n v=true){w:Wd}{env:aH}{e:Env}{g:H}{an:Nat}{a:AV}(hr:vD w env e g an v a):Den w v a:=by
 cases n with
 |zero=>cases h
 |succ n=>cases v<;>first|exact hr|cases h
theorem G4{w:Wd}{vh:VH}{env:aH}{e:Env}{i:Nat}(hf:fZ env)(h:own w vh env e i):fR w vh i:=by
 rcases h with h|⟨t,ht,_⟩
 ·exact h
 ·exact (hf.noLoc t ht).elim
theorem GV{vo:VOp}{o:Op}(hc:cop P vo o=true)(hcl:bP o≠.w):vo.isCall=false:=by
 cases hcc:vo.isCall with
 |false=>rfl
 |true=>exact (hcl (aBZ hc hcc).1).elim
theorem wZ{nx:NX}(h:NX.onlyV nx=true){w:Wd}{s:St}{e:Env}{hh:H}{an nid:Nat}{v:V}{s':St}{a:AV}{h':H}{an':Nat}{w':Wd}(r:pT w s e hh an nid nx v s' a h' an' w'):nx=.val a/\h'=hh/\an'=an:=by
 rcases r.nx with q|⟨q,_⟩|⟨q,_⟩
 ·exact q
 ·rw[q] at h;cases h
 ·rw[q] at h;cases h
theorem SK{op:Op}(hc:bP op=.p\/bP op=.r)(e:Env)(h:H)(n:Nat):NX.onlyV (opA P op e h n)=true:=hc.elim (fun hc=>R3 hc e h n) fun hc=>HH hc e h n
theorem xC{op:Op}(hc:bP op=.p\/bP op=.r){e:Env}{h:H}{n:Nat}{a:AV}(hv:opA P op e h n=.val a)(m:Nat):opA P op e h m=.val a:=hc.elim (fun hc=>by rw[vR hc e h h m n,hv]) fun hc=>vS (.inl hc) (fun _ _ h=>h) m hv
theorem vX{all:Array Oper}{em:Nat}:∀(vs:List bV) (os:List Oper) (ms:List Nat) (i rm fm wm:Nat) (D:List Nat) (rt:List (Nat×Nat)),cY all em vs os ms i rm fm wm D rt=true->mL P all vs os=true->
  ∀{w:Wd} {s:St} {e:Env} {h:H} {an:Nat} {rs:List Rec},aV G w->HR w s.vh s.nx h an->ER w s.env e h an->fZ s.env->(∀j,i<=j->fU j rs=none)->
  ∀{K:St->List Rec->Prop},j8 G call vs i s rs K->∃s' rs' w',K s' rs'/\(∀j,j<i->fU j rs'=fU j rs)/\HR w' s'.vh s'.nx h an/\cO w (fR w s.vh) h an w' (fR w' s'.vh) h an/\jD all rs' (EF P G rs' w' h an) vs os i e
 |[],[],_,i,_,_,_,_,_,_,_,w,s,e,h,an,rs,hg,hr,er,hf,hn,K,hk=>⟨s,rs,w,hk,fun _ _=>rfl,hr,.refl fun _ h=>.inl h,.nil i e⟩
 |v::vs,o::os,m::ms,i,rm,fm,wm,D,rt,hgood,hc,w,s,e,h,an,rs,hg,hr,er,hf,hn,K,hk=>by
  simp only[mL,Bool.and_eq_true] at hc;obtain⟨⟨⟨h1,h2⟩,h3⟩,h4⟩:=hc;have hdst:=E2 h1;simp only[cY,Bool.and_eq_true] at hgood;obtain⟨hm0,hgood⟩:=hgood;simp only[j8] at hk;cases htg:v.tg with
  |n ck=>
   rw[htg] at hk hgood;have rest:∃rm fm wm D rt,cY all em vs os ms (i+1) rm fm wm D rt=true:=by
    simp only[Bool.and_eq_true] at hgood;split at hgood<;>try simp only[Bool.and_eq_true] at hgood
    ·exact⟨_,_,_,_,_,hgood.2⟩
    ·exact⟨_,_,_,_,_,hgood.2⟩
    ·exact⟨_,_,_,_,_,hgood.2⟩
    ·exact⟨_,_,_,_,_,hgood.2⟩
   obtain⟨rm',fm',wm',D',rt',hgood⟩:=rest;obtain⟨s',rs',w',k1,k2,k3,k4,k5⟩:=vX vs os ms (i+1) rm' fm' wm' D' rt' hgood h4 hg hr er hf (fun j hj=>hn j (by omega)) hk
   exact⟨s',rs',w',k1,fun j hj=>k2 j (by omega),k3,k4,.late _ _ _ _ _ _ (by rw[htg];exact nofun) k5⟩
  |c t=>
   rw[htg] at hk hgood;have hgood:∃rm fm wm D rt,cY all em vs os ms (i+1) rm fm wm D rt=true:=by
    simp only at hgood;split at hgood
    ·simp only[Bool.and_eq_true] at hgood;exact⟨_,_,_,_,_,hgood.2⟩
    ·cases hgood
   obtain⟨rm',fm',wm',D',rt',hgood⟩:=hgood;obtain⟨s',rs',w',k1,k2,k3,k4,k5⟩:=vX vs os ms (i+1) rm' fm' wm' D' rt' hgood h4 hg hr er hf (fun j hj=>hn j (by omega)) hk
   exact⟨s',rs',w',k1,fun j hj=>k2 j (by omega),k3,k4,.late _ _ _ _ _ _ (by rw[htg];exact nofun) k5⟩
  |e=>
   rw[htg] at hk hgood;simp only[Bool.and_eq_true,Bool.not_eq_true'] at hgood;obtain⟨⟨⟨⟨hcl,hgh⟩,hnc⟩,hap⟩,hgood⟩:=hgood;have hcls:bP o.op=.p\/bP o.op=.r:=by
    split at hcl
    ·exact .inl (by assumption)
    ·exact .inr (by assumption)
    ·cases hcl
   obtain⟨s2,hs2,hk⟩:=GA h2 er hk;have hat:=F9 hr er hs2;have hf2:fZ s2.env:=by
    rcases hs2 with rfl|⟨d,c,hl,rfl⟩
    ·exact hf
    ·intro t u hu;rw[dK] at hu;split at hu
     ·cases hu;rfl
     ·exact hf t u hu
   have st2:cO w (fR w s.vh) h an w (fR w s2.vh) h an:=.refl fun i hi=>by rcases hs2 with rfl|⟨d,c,hl,rfl⟩<;>exact .inl hi
   rcases hk with⟨hw,hk⟩|⟨hw,hk⟩
   ·obtain⟨u,s3,a,h',an',w1,k1,k2⟩:=w6 hg hat.hr hat.er (FX hat.hr hat.er) h3 hnc hk;obtain⟨q,e1,e2⟩:=wZ (SK hcls e h an) k2;subst e1;subst e2;cases heq:V.eqn 8 u with
    |false=>rw[heq] at k1;exact k1.elim
    |true=>
    rw[heq] at k1;simp only[cond_true] at k1;have hd:Den w1 u a:=FK heq k2.res;have er3:ER w1 s2.env e h' an':=hf2.er hat.er k2.step.le;have hu:=aCR heq;have er4:ER w1 (put ⟨s2.env,s3.vh,s3.nx⟩ v.dst u).env (aW e o.dst a) h' an':=by
     rw[hdst];cases o.dst with
     |none=>exact er3
     |some d=>exact er3.put (.of_tv (.of_den hd))
    have hv:(put ⟨s2.env,s3.vh,s3.nx⟩ v.dst u).vh=s3.vh/\(put ⟨s2.env,s3.vh,s3.nx⟩ v.dst u).nx=s3.nx:=by cases v.dst<;>exact⟨rfl,rfl⟩
    have st3:cO w (fR w s2.vh) h' an' w1 (fR w1 s3.vh) h' an':=by
     refine⟨k2.step.le,k2.step.grow,fun i hi ho=>rfl,fun b i hb=>?_,fun i L hb=>?_,fun i hi=>?_⟩
     ·rcases k2.step.newr b i hb with q|q|q|q
      ·exact .inl q
      ·exact .inr (.inl q)
      ·exact .inr (.inr (G4 hf2 q))
      ·exact .inr (.inl (by omega))
     ·rcases k2.step.newk i L hb with q|q|q|q
      ·exact .inl q
      ·exact .inr (.inl q)
      ·exact .inr (.inr (G4 hf2 q))
      ·exact .inr (.inl (by omega))
     ·rcases k2.step.sub i (.inl hi) with (q|q)|q
      ·exact .inl (G4 hf2 q)
      ·exact .inr (by omega)
      ·exact .inr q
    obtain⟨s',rs',w',g1,g2,g3,g4,g5⟩:=vX vs os ms (i+1) _ _ _ _ _ hgood h4 (hg.mono k2.step.le) (by rw[hv.1,hv.2];exact k2.hr) er4 (fZ.put (s:=⟨s2.env,s3.vh,s3.nx⟩) hf2 hu v.dst) (rs:=⟨i,s2.env,v.op,u⟩::rs) (fun j hj=>by
      simp only[fU];rw[dW.2 (by omega:i≠j)]
      exact hn j (by omega)) k1
    rw[hv.1] at g4;have hE:EF P G rs' w' h' an' i o.op e a ⟨i,s2.env,v.op,u⟩:=by
     refine EF.mono (w:=w1) ⟨?_,h3,hnc,hcls,hf2,er3,hd,heq,xC hcls q 0,fun x hx q hq=>?_,fun hca x hx q hq=>?_⟩ g4.le
     ·rw[g2 i (by omega)]
      simp only[fU];rw[aP.2 rfl];rfl
     ·rcases (P9 hg hf2 hat.er h3 hk x hx q hq).1 with⟨b,hb⟩|⟨L,hL⟩
      ·exact (hr.lim b q hb).1
      ·exact hr.limK q L hL
     ·obtain⟨L,hL⟩:=(P9 hg hf2 hat.er h3 hk x hx q hq).2 hca;exact⟨L,k2.step.le.K _ _ hL⟩
    refine⟨s',rs',w',g1,fun j hj=>?_,g3,(st2.trans st3).trans g4,.yes _ _ _ _ _ _ _ a htg hw hE g5⟩;rw[g2 j (by omega)]
    simp only[fU];rw[dW.2 (by omega:i≠j)];rfl
   ·have hud:Den w V.undef dV:=Den.tup _ _ .nil;have er4:ER w (put s2 v.dst V.undef).env (aW e o.dst dV) h an:=by
     rw[hdst];cases o.dst with
     |none=>exact hat.er
     |some d=>exact hat.er.put (.of_tv (.of_den hud))
    have hv:(put s2 v.dst V.undef).vh=s2.vh/\(put s2 v.dst V.undef).nx=s2.nx:=by cases v.dst<;>exact⟨rfl,rfl⟩
    obtain⟨s',rs',w',g1,g2,g3,g4,g5⟩:=vX vs os ms (i+1) _ _ _ _ _ hgood h4 hg (by rw[hv.1,hv.2];exact hat.hr) er4 (hf2.put rfl v.dst) (fun j hj=>hn j (by omega)) hk
    rw[hv.1] at g4;exact⟨s',rs',w',g1,fun j hj=>g2 j (by omega),g3,st2.trans g4,.no _ _ _ _ _ _ htg (by rw[g2 i (by omega)];exact hn i (by omega)) hw g5⟩
 |[],_::_,_,_,_,_,_,_,_,hgood,_,_,_,_,_,_,_,_,_,_,_,_,_,_=>by cases hgood
 |_::_,[],_,_,_,_,_,_,_,hgood,_,_,_,_,_,_,_,_,_,_,_,_,_,_=>by cases hgood
 |_::_,_::_,[],_,_,_,_,_,_,hgood,_,_,_,_,_,_,_,_,_,_,_,_,_,_=>by cases hgood
theorem OO{env:aH}{t:Nat}:lk (oG env) t=(lk env t).map fun v=>if wC v=true then v else .lost:=by
 induction env with
 |nil=>rfl
 |cons p l ih=>
  simp only[oG,dK];split
  ·cases p.2<;>rfl
  ·exact ih
theorem ON{env:aH}:fZ (oG env):=by
 intro t v hv;rw[OO] at hv;cases hl:lk env t with
 |none=>rw[hl] at hv;cases hv
 |some u=>
  rw[hl] at hv;simp only[Option.map_some,Option.some.injEq] at hv;subst hv;split
  ·assumption
  ·rfl
theorem aBw{w:Wd}{env:aH}{e:Env}{h:H}{an:Nat}(er:ER w env e h an):ER w (oG env) e h an:=by
 refine⟨fun t v hv=>?_,fun t u i ht=>(ON.noLoc t ht).elim⟩;rw[OO] at hv;cases hl:lk env t with
 |none=>rw[hl] at hv;cases hv
 |some u=>
  rw[hl] at hv;simp only[Option.map_some,Option.some.injEq] at hv;subst hv;have:=er.slot t u hl;cases u with
  |bx l=>obtain⟨i,_,_,h1,_⟩:=this;exact⟨_,h1,trivial⟩
  |it r p=>obtain⟨i,h1,_⟩:=this;exact⟨_,h1,trivial⟩
  |lp t o=>obtain⟨a,h1,_⟩:=this;exact⟨a,h1,trivial⟩
  |lost=>exact this
  |_=>obtain⟨a,h1,h2⟩:=this;exact⟨a,h1,h2⟩
theorem K0{rs:List Rec}{wE:Wd}{h0:H}{base:Nat}{w:Wd}{s:St}{g:H}{an:Nat}(hg:aV G w)(hw:wE.le w)(hr:HR w s.vh s.nx g an)(hK:∀q L,wE.K q=some L->g.get q=h0.get q):
  ∀(js:List Nat) {A:Prop},again G call rs s js A->A/\∀j op e a r,Nat.testBit (sG js) j=true->EF P G rs wE h0 base j op e a r->opA P op e g 0=.val a
 |[],A,hk=>⟨hk,fun j _ _ _ _ hj=>by simp[sG] at hj⟩
 |j::js,A,hk=>by
  have ins:∀{A:Prop},again G call rs s js A->(∀op e a r,EF P G rs wE h0 base j op e a r->opA P op e g 0=.val a)->A/\∀k op e a r,Nat.testBit (sG (j::js)) k=true->EF P G rs wE h0 base k op e a r->opA P op e g 0=.val a:=by
   intro A hk hj;obtain⟨k1,k2⟩:=K0 hg hw hr hK js hk;refine⟨k1,fun k op e a r hb hE=>?_⟩;simp only[sG,jP,HA,Bool.or_eq_true,decide_eq_true_eq] at hb;rcases hb with rfl|hb
   ·exact hj op e a r hE
   ·exact k2 k op e a r hb hE
  simp only[again] at hk;cases hrec:fU j rs with
  |none=>rw[hrec] at hk;simp only at hk;exact ins hk fun op e a r hE=>by rw[hE.fnd] at hrec;cases hrec
  |some r=>
   rw[hrec] at hk;simp only at hk;have pcase:∀{op e a r},EF P G rs wE h0 base j op e a r->bP op=.p->opA P op e g 0=.val a:=fun hE hp=>by rw[vR hp _ g h0 0 0,hE.val]
   cases hca:kW G r.env r.op with
   |true=>
    rw[hca] at hk;refine ins hk fun op e a r' hE=>?_;have:=hE.fnd;rw[hrec] at this;cases this;rcases hE.cls with hp|hq
    ·exact pcase hE hp
    ·rw[BL hq (g:=h0) fun x hx q hq=>?_,hE.val];obtain⟨L,hL⟩:=hE.cal hca x hx q hq;exact hK q L hL
   |false=>rw[hca] at hk;simp only[cond_false] at hk;obtain⟨⟨hrg,hv⟩,hk⟩:=hk;refine ins hk fun op e a r' hE=>?_;have:=hE.fnd;rw[hrec] at this;cases this;have er:=hE.flat.er (h':=g) (an':=an) hE.er hw;obtain⟨u,s',a',h',an',w',k1,k2⟩:=w6 (s:=⟨r.env,s.vh,s.nx⟩) hg hr er (FX (s:=⟨r.env,s.vh,s.nx⟩) hr er) hE.cop hE.ncall hv;obtain⟨q,e1,e2⟩:=wZ (SK hE.cls e g an) k2;subst k1;have hd:Den w' r.v a':=FK hE.eqn k2.res;have:a=a':=aIp hrg (hE.den.mono (hw.trans k2.step.le)) hd;rw[xC hE.cls q 0,this]
end
end
section
open Go.Ev
section
variable {P : Program} {X : Ovr} {G : Gt}
theorem aGb{w:Wd}{s:St}{e:Env}{k:Nat}(f:bZ w s.env e k):¬own w s.vh s.env e k:=by
 rintro (⟨b,B,_,hb⟩|⟨t,ht,hi⟩)
 ·exact f.id.ρ b hb
 ·exact f.loc t ht hi
theorem bZ.step{w w':Wd}{s s':St}{e e':Env}{h h':H}{an an' k:Nat}{N:Nat->Prop}(st:cO w (fun i=>own w s.vh s.env e i\/N i) h an w' (own w' s'.vh s'.env e') h' an')(hk:¬N k)(hlt:k<an)(f:bZ w s.env e k):bZ w' s'.env e' k:=by
 have ho:=aGb (s:=s) f;refine⟨⟨fun b hb=>?_,?_⟩,fun t ht hi=>?_⟩
 ·rcases st.newr b k hb with q|q|q|q
  ·exact f.id.ρ b q
  ·omega
  ·exact ho q
  ·exact hk q
 ·cases hL:w'.K k with
  |none=>rfl
  |some L=>
   exfalso;rcases st.newk k L hL with q|q|q|q
   ·rw[f.id.K] at q;cases q
   ·omega
   ·exact ho q
   ·exact hk q
 ·rcases st.sub k (.inr ⟨t,ht,hi⟩) with (q|q)|q
  ·exact ho q
  ·exact hk q
  ·omega
theorem bZ.at{w w':Wd}{s s':St}{e e':Env}{h h':H}{an an' k:Nat}(a:At w s e h an w' s' e' h' an')(hlt:k<an)(f:bZ w s.env e k):bZ w' s'.env e' k:=f.step (N:=fun _=>False) (a.step.weak (fun i h=>.inl h) (fun _ h=>h)) (fun h=>h) hlt
theorem QH{w w':Wd}{s:St}{e:Env}{h h':H}{an an':Nat}{o' N:Nat->Prop}(hr:HR w s.vh s.nx h an)(er:ER w s.env e h an)(st:cO w (fun i=>own w s.vh s.env e i\/N i) h an w' o' h' an')(hN:∀q L,w.K q=some L->¬N q){q:Nat}{L:List AV}(hK:w.K q=some L):h'.get q=h.get q:=by
 refine st.keep q (hr.limK q L hK) ?_;rintro ((⟨b,B,hb,hi⟩|⟨t,ht,hi⟩)|hn)
 ·obtain⟨i,A,h1,_,_,h4⟩:=hr.blk b B hb;rw[hi] at h1;cases h1;rw[h4] at hK;cases hK
 ·obtain⟨i,h1,h2⟩:=er.loc ht;rw[hi] at h1;cases h1;rw[h2.1] at hK;cases hK
 ·exact hN q L hK hn
theorem AtR.refl{R:Nat->Prop}{w:Wd}{s:St}{e:Env}{h:H}{an:Nat}(hr:HR w s.vh s.nx h an)(er:ER w s.env e h an):AtR R w s e h an w s e h an:=⟨hr,er,.refl fun _ h=>.inl h⟩
theorem j4{D:List Nat}{e ea:Env}(h:∀t,lM t D=false->e.get t=ea.get t)(d:Option Tmp)(a:AV):∀t,lM t (nZ d D)=false->(aW e d a).get t=ea.get t:=by
 intro t ht;cases d with
 |none=>exact h t ht
 |some d=>simp only[nZ,lM,Bool.or_eq_false_iff] at ht;have:d≠t:=dW.1 ht.1;show (e.set d a).get t=_;rw[Tr.get_set,if_neg (Ne.symm this)];exact h t ht.2
theorem DM{D:List Nat}{e ea:Env}(h:∀t,lM t D=false->e.get t=ea.get t)(d:Option Tmp)(a:AV):∀t,lM t D=false->(aW e d a).get t=(aW ea d a).get t:=by
 intro t ht;cases d with
 |none=>exact h t ht
 |some d=>
  show (e.set d a).get t=(ea.set d a).get t;rw[Tr.get_set,Tr.get_set];split
  ·rfl
  ·exact h t ht
theorem HP{d t k:Nat}:∀{rt:List (Nat×Nat)},gX (p9 d rt) t=some k->t≠d/\gX rt t=some k
 |[],h=>by cases h
 |p::l,h=>by
  simp only[p9] at h;cases hb:Nat.beq p.1 d with
  |true=>rw[hb] at h;obtain⟨h1,h2⟩:=HP (rt:=l) h;refine⟨h1,?_⟩;simp only[gX];rw[aP.1 hb,dW.2 (Ne.symm h1)];exact h2
  |false=>
   rw[hb] at h;simp only[cond_false,gX] at h ⊢;cases hq:Nat.beq p.1 t with
   |true=>rw[hq] at h;refine⟨fun e=>?_,h⟩;rw[<-e,hq] at hb;cases hb
   |false=>rw[hq] at h;exact HP (rt:=l) h
def vA(C:Nat->Prop)(base:Nat):Nat->Nat->Prop
 |0,q=>C q
 |k+1,q=>q=base+k
def rO(C:Nat->Prop)(base:Nat)(rt:List (Nat×Nat))(e:Env):Prop:=∀t k,gX rt t=some k->∀a q,e.get t=some a->eZ a=some q->vA C base k q
theorem rO.put{C:Nat->Prop}{base:Nat}{rt:List (Nat×Nat)}{e:Env}(h:rO C base rt e)(d:Option Tmp)(a:AV)(r:Option Nat)(hr:∀k,r=some k->∀q,eZ a=some q->vA C base k q):rO C base (nG rt d r) (aW e d a):=by
 cases d with
 |none=>exact h
 |some d=>
  intro t k ht b q hb hq;have hb:(e.set d a).get t=some b:=hb;rw[Tr.get_set] at hb;have drop:gX (p9 d rt) t=some k->vA C base k q:=fun ht=>by obtain⟨h1,h2⟩:=HP ht;rw[if_neg h1] at hb;exact h t k h2 b q hb hq
  cases r with
  |none=>exact drop ht
  |some k'=>
   simp only[nG,gX] at ht;cases hdt:Nat.beq d t with
   |true=>rw[hdt] at ht;cases ht;have:=aP.1 hdt;subst this;rw[if_pos rfl] at hb;cases hb;exact hr _ rfl q hq
   |false=>rw[hdt] at ht;exact drop ht
theorem HO{op:Op}{base i:Nat}{rt:List (Nat×Nat)}{C:Nat->Prop}{e:Env}(h:rO C base rt e){g:H}{a:AV}(hv:(∃g',opA P op e g (base+i)=.new a g')\/opA P op e g (base+i)=.val a):∀k,BR rt i op=some k->∀q,eZ a=some q->vA C base k q:=by
 intro k hk q hq;cases op<;>simp only[BR] at hk<;>try cases hk
 case buildSlice t m ps=>
  revert hv;simp only[opA,j5]
  repeat' (first|(rintro (⟨_,hh⟩|hh)<;>cases hh<;>simp only[eZ,Option.some.injEq] at hq<;>exact hq.symm)|split|(simp only[cond_eq_ite];split))
 case move x=>
  cases x<;>simp only at hk<;>try cases hk
  rename_i t';have:a=rd e (.tmp t'):=by
   rcases hv with⟨_,hv⟩|hv
   ·cases hv
   ·cases hv;rfl
  subst this;simp only[rd] at hq;split at hq
  ·rename_i v hv';exact h t' k hk v q hv' hq
  ·cases hq
 case fieldAddr s x f=>
  cases x<;>simp only at hk<;>try cases hk
  rename_i t';have hq':∀b o,a=.ptr b o->eZ (rd e (.tmp t'))=some b:=by
   intro b o ha;subst ha;revert hv;simp only[opA,fieldAt];generalize rd e (.tmp t')=ra
   repeat' (first|(rintro (⟨_,hh⟩|hh)<;>cases hh<;>rfl)|split|(simp only[cond_eq_ite];split))
  have:∃b o,a=.ptr b o:=by
   revert hv;simp only[opA,fieldAt];generalize rd e (.tmp t')=ra
   repeat' (first|(rintro (⟨_,hh⟩|hh)<;>cases hh<;>exact⟨_,_,rfl⟩)|split|(simp only[cond_eq_ite];split))
  obtain⟨b,o,rfl⟩:=this;have h1:=hq' b o rfl;simp only[eZ,Option.some.injEq] at hq;subst hq;simp only[rd] at h1;split at h1
  ·rename_i v hv';exact h t' k hk v b hv' h1
  ·cases h1
 case indexAddr t x j=>
  cases x<;>simp only at hk<;>try cases hk
  rename_i t';have hq':∀b o,a=.ptr b o->eZ (rd e (.tmp t'))=some b:=by
   intro b o ha;subst ha;revert hv;simp only[opA,indexAt];generalize rd e (.tmp t')=ra
   repeat' (first|(rintro (⟨_,hh⟩|hh)<;>cases hh<;>rfl)|split|(simp only[cond_eq_ite];split))
  have:∃b o,a=.ptr b o:=by
   revert hv;simp only[opA,indexAt];generalize rd e (.tmp t')=ra
   repeat' (first|(rintro (⟨_,hh⟩|hh)<;>cases hh<;>exact⟨_,_,rfl⟩)|split|(simp only[cond_eq_ite];split))
  obtain⟨b,o,rfl⟩:=this;have h1:=hq' b o rfl;simp only[eZ,Option.some.injEq] at hq;subst hq;simp only[rd] at h1;split at h1
  ·rename_i v hv';exact h t' k hk v b hv' h1
  ·cases h1
end
end
section
open Go.Ev
section
variable {P : Program} {X : Ovr} {G : Gt}
def bT(base:Nat)(d:bU):H:=aY base d.pr.ab (fun _=>true) d.pr.b d.fs
def CF(P:Program)(wE:Wd)(h0:H)(r:RD):Prop:=iH 10 r.v r.v=true/\∀g:H,(∀q L,wE.K q=some L->g.get q=h0.get q)->opA P r.op r.env g 0=.val r.v
structure uA(P:Program)(E:Nat->Op->Env->AV->Rec->Prop)(wE:Wd)(h0:H)(base T em i rm fm wm:Nat)(D:List Nat)(rt:List (Nat×Nat))(ea:Env)(d:bU):Prop where
 di:d.i=i
 nx:base+T<=d.pr.nx
 fs:∀p∈d.fs,Nat.testBit fm p.1=true
 rs:∀r∈d.rs,Nat.testBit rm r.i=true\/(Nat.testBit em r.i=true/\∃e q,E r.i r.op e r.v q/\∀h n,opA P r.op r.env h n=opA P r.op e h n)\/CF P wE h0 r
 lo:∀p∈d.pr::d.old,p.lo=0\/Nat.testBit wm (p.lo-1)=true
 old:d.old≠[]->d.pr.lo≠0
 ab:∀j,Nat.testBit d.pr.ab j=true->j<i
 agree:∀t,lM t D=false->d.env.get t=ea.get t
 pend:∀j,i<=j->∀op e a r,E j op e a r->Nat.testBit em j=true->∀p∈d.pr::d.old,opA P op e p.b 0=.val a
 K:∀q L,wE.K q=some L->(bT base d).get q=h0.get q
 root:rO (fun q=>∃L,wE.K q=some L) base rt d.env
 oldK:∀p∈d.pr::d.old,∀q L,wE.K q=some L->p.b.get q=h0.get q
 lowK:∀q L,wE.K q=some L->q<base
theorem D0{base m:Nat}{fs:List (Nat×AB)}{op:Op}{env:Env}{a:AV}(hr:iH 10 a a=true):∀(l:List PS) (lo:Nat),(∀p∈l,opA P op env (aY base p.ab (Nat.testBit m) p.b fs) 0=.val a)->kX P base m fs op env a lo l=true
 |[],_,_=>rfl
 |p::l,lo,h=>by simp only[kX,chk,h p (.head _),hr,D0 hr l p.lo fun q hq=>h q (.tail _ hq)];simp
theorem orL{a b j:Nat}(h:Nat.testBit a j=true):Nat.testBit (Nat.lor a b) j=true:=by rw[jP,h];rfl
theorem orR{a i:Nat}:Nat.testBit (Nat.lor a (Nat.pow 2 i)) i=true:=by rw[jP,HA];simp
theorem aFQ{all:Array Oper}{D:List Nat}{o:Oper}{e ea:Env}(hap:DV D all o=true)(h:∀t,lM t D=false->e.get t=ea.get t):∀t∈qL all o,e.get t=ea.get t:=by intro t ht;simp only[DV,List.all_eq_true,Bool.not_eq_true'] at hap;exact h t (hap t ht)
theorem OM{all:Array Oper}{base T em:Nat}{rs:List Rec}{wE:Wd}{h0:H}:∀(vs:List bV) (os:List Oper) (ms:List Nat) (i rm fm wm:Nat) (D:List Nat) (rt:List (Nat×Nat)) (ea:Env),cY all em vs os ms i rm fm wm D rt=true->mL P all vs os=true->i+os.length=T->jD all rs (EF P G rs wE h0 base) vs os i ea->
  ∀{d:bU} {w:Wd} {s:St},uA P (EF P G rs wE h0 base) wE h0 base T em i rm fm wm D rt ea d->aV G w->wE.le w->HR w s.vh s.nx (bT base d) d.pr.nx->ER w s.env d.env (bT base d) d.pr.nx->(∀k,i<=k->k<T->bZ w s.env d.env (base+k))->
  ∀{K:St->Prop},fG G (aE P X G) rs vs i s K->∃s' e' h' an' w',K s'/\(∃N,∀m,N<=m->gU P (bM P X m) all base os ms d=.norm e' h' an')/\AtR (fun k=>base<=k/\k<base+T) w s d.env (bT base d) d.pr.nx w' s' e' h' an'
 |[],[],ms,i,rm,fm,wm,D,rt,ea,_,_,hT,_,d,w,s,I,hg,hwE,hr,er,hF,K,hk=>⟨s,d.env,bT base d,d.pr.nx,w,hk,⟨0,fun m _=>by cases ms<;>rfl⟩,.refl hr er⟩
 |v::vs,o::os,m::ms,i,rm,fm,wm,D,rt,ea,hgood,hc,hT,hE,d,w,s,I,hg,hwE,hr,er,hF,K,hk=>by
  simp only[mL,Bool.and_eq_true] at hc;obtain⟨⟨⟨h1,h2⟩,h3⟩,h4⟩:=hc;have hdst:=E2 h1;simp only[cY,Bool.and_eq_true] at hgood;obtain⟨hm0,hgood⟩:=hgood;have hm:m<2^i:=cF.1 hm0;have hTlen:(i+1)+os.length=T:=by simp only[List.length_cons] at hT;omega
  have hiT:i<T:=by omega
  have hdi:=I.di;have go:∀{rm' fm' wm':Nat} {D':List Nat} {rt':List (Nat×Nat)} {ea':Env} {d':bU} {w2:Wd} {s2:St},cY all em vs os ms (i+1) rm' fm' wm' D' rt'=true->jD all rs (EF P G rs wE h0 base) vs os (i+1) ea'->uA P (EF P G rs wE h0 base) wE h0 base T em (i+1) rm' fm' wm' D' rt' ea' d'->AtR (fun k=>base<=k/\k<base+T) w s d.env (bT base d) d.pr.nx w2 s2 d'.env (bT base d') d'.pr.nx->
    (∀k,i+1<=k->k<T->bZ w2 s2.env d'.env (base+k))->fG G (aE P X G) rs vs (i+1) s2 K->(∃N,∀k,N<=k->eO P (bM P X k) all base o m d=some d')->
    ∃s' e' h' an' w',K s'/\(∃N,∀k,N<=k->gU P (bM P X k) all base (o::os) (m::ms) d=.norm e' h' an')/\AtR (fun k=>base<=k/\k<base+T) w s d.env (bT base d) d.pr.nx w' s' e' h' an':=by
   intro rm' fm' wm' D' rt' ea' d' w2 s2 hgd hE hI ha hfr hk hev;obtain⟨s',e',h',an',w',k1,⟨N1,k2⟩,k3⟩:=OM vs os ms (i+1) rm' fm' wm' D' rt' ea' hgd h4 hTlen hE hI (hg.mono ha.step.le) (hwE.trans ha.step.le) ha.hr ha.er hfr hk;obtain⟨N2,k4⟩:=hev;exact⟨s',e',h',an',w',k1,⟨max N1 N2,fun k hk=>by rw[aCV (k4 k (by omega)),k2 k (by omega)]⟩,ha.trans k3⟩
  have keepI:∀{rm' fm' wm':Nat} {D':List Nat} {rt':List (Nat×Nat)} {ea':Env} {d':bU},d'.i=i+1->d'.pr=d.pr->d'.old=d.old->(∀p∈d'.fs,Nat.testBit fm' p.1=true)->
    (∀r∈d'.rs,Nat.testBit rm' r.i=true\/(Nat.testBit em r.i=true/\∃e q,EF P G rs wE h0 base r.i r.op e r.v q/\∀h n,opA P r.op r.env h n=opA P r.op e h n)\/CF P wE h0 r)->(∀j,Nat.testBit wm j=true->Nat.testBit wm' j=true)->
    (∀t,lM t D'=false->d'.env.get t=ea'.get t)->(∀q L,wE.K q=some L->(bT base d').get q=h0.get q)->rO (fun q=>∃L,wE.K q=some L) base rt' d'.env->
    uA P (EF P G rs wE h0 base) wE h0 base T em (i+1) rm' fm' wm' D' rt' ea' d':=by
   intro rm' fm' wm' D' rt' ea' d' e1 e3 e4 e2 e5 e6 e7 e8 e9;refine⟨e1,by rw[e3];exact I.nx,e2,e5,fun p hp=>?_,by rw[e3,e4];exact I.old,by rw[e3];exact fun j hj=>Nat.lt_succ_of_lt (I.ab j hj),e7,fun j hj op e a r hE hb p hp=>?_,e8,e9,by rw[e3,e4];exact I.oldK,I.lowK⟩
   ·rw[e3,e4] at hp;exact (I.lo p hp).imp_right (e6 _)
   ·rw[e3,e4] at hp;exact I.pend j (by omega) op e a r hE hb p hp
  have rsL:∀{rm':Nat},(∀j,Nat.testBit rm j=true->Nat.testBit rm' j=true)->∀r∈d.rs,Nat.testBit rm' r.i=true\/(Nat.testBit em r.i=true/\∃e q,EF P G rs wE h0 base r.i r.op e r.v q/\∀h n,opA P r.op r.env h n=opA P r.op e h n)\/CF P wE h0 r:=fun h r hr=>(I.rs r hr).imp_left (h _);simp only[fG] at hk;cases htg:v.tg with
  |e=>
   rw[htg] at hk hgood;simp only[Bool.and_eq_true,Bool.not_eq_true'] at hgood;obtain⟨⟨⟨⟨hcl,hgh⟩,hnc⟩,hap⟩,hgood⟩:=hgood;have hlk:=aFQ hap I.agree;have hwant:=T8 hlk;have hops:=ST hlk;cases hE with
   |late _ _ _ _ _ _ ht=>exact (ht htg).elim
   |no _ _ _ _ _ _ ht hrec hw hE=>
    rw[hrec] at hk;rw[hw] at hwant;let d':bU:={d with i:=d.i+1,env:=aW d.env o.dst dV};have hat:=BK hr er v.dst;refine go (d':=d') (s2:=put s v.dst V.undef) (w2:=w) hgood hE (keepI (d':=d') (by show d.i+1=_;rw[hdi]) rfl rfl I.fs I.rs (fun _ h=>h) (DM I.agree _ _) I.K (I.root.put _ _ _ nofun)) ?_ ?_ hk ⟨0,fun k _=>by simp only[eO,hwant];rfl⟩
    ·rw[hdst] at hat ⊢;exact hat.toR
    ·intro k hk1 hk2;rw[hdst] at hat ⊢;exact (hF k (by omega) hk2).at hat (by have:=I.nx;omega)
   |yes _ _ _ _ _ _ r a ht hw hEF hE=>
    rw[hEF.fnd] at hk;rw[hw] at hwant;have hd:=hEF.den.mono hwE;have hcgr:∀h n,opA P o.op d.env h n=opA P o.op ea h n:=fun h n=>aFm hEF.cls hops h n;have heq:iH 10 a a=true:=v6 8 _ _ hEF.eqn hd 10 (by omega)
    have hat:At w s d.env (bT base d) d.pr.nx w (put s v.dst r.v) (aW d.env o.dst a) (bT base d) d.pr.nx:=by rw[hdst.symm];exact BI (nx:=.val a) (v:=r.v) (s':=s) ⟨.inl ⟨rfl,rfl,rfl⟩,hr,er,.of_tv (.of_den hd),.refl fun _ h=>.inl (.inl h),fun hv=>(oS hd hv).elim,fun _ _ h=>h⟩ v.dst
    have hfr:∀k,i+1<=k->k<T->bZ w (put s v.dst r.v).env (aW d.env o.dst a) (base+k):=fun k hk1 hk2=>(hF k (by omega) hk2).at hat (by have:=I.nx;omega)
    rcases hEF.cls with hp|hq
    ·let d':bU:={d with i:=d.i+1,env:=aW d.env o.dst a};refine go (d':=d') hgood hE (keepI (d':=d') (by show d.i+1=_;rw[hdi]) rfl rfl I.fs I.rs (fun _ h=>h) (DM I.agree _ _) I.K (I.root.put _ _ _ nofun)) hat.toR hfr hk ⟨0,fun k _=>?_⟩
     simp only[eO,hwant,hp,hcgr];rw[vR hp ea .e h0 0 0,hEF.val]
    ·rw[hq] at hcl;have hcl:Nat.testBit em i=true:=hcl;have hval:∀p∈d.pr::d.old,opA P o.op d.env (aY base p.ab (Nat.testBit m) p.b d.fs) 0=.val a:=fun p hp=>by
      rw[hcgr,BL hq (g:=p.b) fun x hx q hq=>?_]
      ·exact I.pend i (Nat.le_refl _) _ _ _ _ hEF hcl p hp
      ·exact PC (hEF.low x hx q hq)
     let d':bU:={d with i:=d.i+1,env:=aW d.env o.dst a,rs:=⟨d.i,o.op,d.env,a⟩::d.rs};refine go (d':=d') hgood hE (keepI (d':=d') (by show d.i+1=_;rw[hdi]) rfl rfl I.fs (fun r' hr'=>?_) (fun _ h=>h) (DM I.agree _ _) I.K (I.root.put _ _ _ nofun)) hat.toR hfr hk ⟨0,fun k _=>?_⟩
     ·rcases List.mem_cons.1 hr' with rfl|hr'
      ·exact .inr (.inl ⟨by show Nat.testBit em d.i=true;rw[hdi];exact hcl,ea,r,by show EF P G rs wE h0 base d.i _ _ _ _;rw[hdi];exact hEF,hcgr⟩)
      ·exact I.rs r' hr'
     ·simp only[eO,hwant,hq,nJ,hval d.pr (.head _),D0 heq d.old d.pr.lo fun p hp=>hval p (.tail _ hp)];rfl
  |c tc=>
   rw[htg] at hk hgood;simp only at hgood;have hE':jD all rs (EF P G rs wE h0 base) vs os (i+1) ea:=by
    cases hE with
    |late _ _ _ _ _ _ ht h=>exact h
    |no _ _ _ _ _ _ ht=>rw[htg] at ht;cases ht
    |yes _ _ _ _ _ _ r a ht=>rw[htg] at ht;cases ht
   cases hcls:bP o.op with
   |r=>
    rw[hcls] at hgood;simp only[Bool.and_eq_true,Bool.not_eq_true'] at hgood;obtain⟨⟨hcalm,hnc⟩,hgood⟩:=hgood;obtain⟨w1,s1,hk,g⟩:=sV v.gh hr er hk;have a0:At w s d.env (bT base d) d.pr.nx w1 s1 d.env (bT base d) d.pr.nx:=⟨g.hr,g.er,g.step⟩;obtain⟨s2,hs2,hk⟩:=GA h2 g.er hk;have ha:=a0.trans (F9 g.hr g.er hs2);have hg1:=hg.mono g.step.le;have hle:=I.nx;have hF2:∀k,i<=k->k<T->bZ w1 s2.env d.env (base+k):=fun k hk1 hk2=>(hF k hk1 hk2).at ha (by omega)
    have hpe:∀a,aW d.env v.dst a=aW d.env o.dst a:=fun a=>by rw[hdst]
    rcases hk with⟨hw,hk⟩|⟨hw,hk⟩
    ·have hFi:=hF2 i (Nat.le_refl _) hiT;obtain⟨u,s',a,h',an',w',k1,k2⟩:=w6 hg1 ha.hr ha.er hFi h3 hnc hk;obtain⟨qv,e1,e2⟩:=wZ (HH hcls _ _ _) k2;subst e1;subst e2;cases heq:V.eqn 8 u with
     |false=>rw[heq] at k1;exact k1.elim
     |true=>
     rw[heq] at k1;have k1:fG G (aE P X G) rs vs (i+1) (put s' v.dst u) K:=k1;have hd:Den w' u a:=FK heq k2.res;have haa:iH 10 a a=true:=v6 8 _ _ heq hd 10 (by omega)
     have hp:=BJ k2 v.dst;have hq:=SO (R:=fun k=>base<=k/\k<base+T) k2 ⟨by omega,by omega⟩ v.dst
     rw[hpe] at hp hq;have hfr:∀k,i+1<=k->k<T->bZ w' (put s' v.dst u).env (aW d.env o.dst a) (base+k):=fun k hk1 hk2=>bZ.step (s:=s2) (s':=put s' v.dst u) (N:=fun j=>j=base+i) hp.2.2 (by omega) (by omega) (hF2 k (by omega) hk2)
     have hroot:∀x,hop o.op=some x->∀q,eZ (rd d.env x)=some q->∃L,wE.K q=some L:=by
      intro x hx q hq;generalize o.op=oo at hcalm hx;cases oo<;>simp only[NP] at hcalm<;>try cases hcalm
      rename_i y;cases y<;>simp only at hcalm<;>try cases hcalm
      rename_i t;cases hx;split at hcalm
      ·rename_i hk;simp only[rd] at hq;split at hq
       ·rename_i b hb;exact I.root t 0 hk b q hb hq
       ·cases hq
      ·cases hcalm
     have hsame:∀g:H,(∀q L,wE.K q=some L->g.get q=h0.get q)->opA P o.op d.env g 0=.val a:=fun g hgq=>by
      rw[BL hcls (g:=bT base d) fun x hx q hq=>?_]
      ·exact xC (.inr hcls) qv 0
      ·obtain⟨L,hL⟩:=hroot x hx q hq;rw[hgq q L hL,I.K q L hL]
     have hbk:∀p∈d.pr::d.old,opA P o.op d.env (aY base p.ab (Nat.testBit m) p.b d.fs) 0=.val a:=fun p hp=>hsame _ fun q L hL=>by rw[PC (I.lowK q L hL)];exact I.oldK p hp q L hL
     let d':bU:={d with i:=d.i+1,env:=aW d.env o.dst a,rs:=⟨d.i,o.op,d.env,a⟩::d.rs};refine go (d':=d') hgood hE' (keepI (d':=d') (by show d.i+1=_;rw[hdi]) rfl rfl I.fs (fun r' hr'=>?_) (fun _ h=>h) (j4 I.agree _ _) I.K (I.root.put _ _ _ nofun)) ((ha.toR).trans hq) hfr k1 ⟨0,fun k _=>?_⟩
     ·rcases List.mem_cons.1 hr' with rfl|hr'
      ·exact .inr (.inr ⟨haa,hsame⟩)
      ·exact I.rs r' hr'
     ·simp only[eO,hw,hcls,nJ,hbk d.pr (.head _),D0 haa d.old d.pr.lo fun p hp=>hbk p (.tail _ hp)];rfl
    ·let d':bU:={d with i:=d.i+1,env:=aW d.env o.dst dV};have hs:∃N,∀k,N<=k->eO P (bM P X k) all base o m d=some d':=⟨0,fun k _=>by simp only[eO,hw];rfl⟩
     have hat:At w s d.env (bT base d) d.pr.nx w1 (put s2 v.dst V.undef) d'.env (bT base d') d.pr.nx:=by have:=ha.trans (BK ha.hr ha.er v.dst);rw[hdst] at this ⊢;exact this
     have hfr:∀k,i+1<=k->k<T->bZ w1 (put s2 v.dst V.undef).env d'.env (base+k):=fun k hk1 hk2=>(hF k (by omega) hk2).at hat (by omega)
     exact go hgood hE' (keepI (d':=d') (by show d.i+1=_;rw[hdi]) rfl rfl I.fs I.rs (fun _ h=>h) (j4 I.agree _ _) I.K (I.root.put _ _ _ nofun)) hat.toR hfr hk hs
   |_=>rw[hcls] at hgood;cases hgood
  |n ck=>
   rw[htg] at hk hgood;have hE':jD all rs (EF P G rs wE h0 base) vs os (i+1) ea:=by
    cases hE with
    |late _ _ _ _ _ _ ht h=>exact h
    |no _ _ _ _ _ _ ht=>rw[htg] at ht;cases ht
    |yes _ _ _ _ _ _ r a ht=>rw[htg] at ht;cases ht
   obtain⟨w1,s1,hk,g⟩:=sV v.gh hr er hk;have a0:At w s d.env (bT base d) d.pr.nx w1 s1 d.env (bT base d) d.pr.nx:=⟨g.hr,g.er,g.step⟩;obtain⟨s2,hs2,hk⟩:=GA h2 g.er hk;have ha:=a0.trans (F9 g.hr g.er hs2);have hg1:=hg.mono g.step.le;have hle:=I.nx;have hF2:∀k,i<=k->k<T->bZ w1 s2.env d.env (base+k):=fun k hk1 hk2=>(hF k hk1 hk2).at ha (by omega)
   have hKw:∀q L,wE.K q=some L->w1.K q=some L:=fun q L h=>g.step.le.K _ _ (hwE.K _ _ h);rcases hk with⟨hw,hk⟩|⟨hw,hk⟩
   ·
    have hFi:=hF2 i (Nat.le_refl _) hiT;have hpe:∀a,aW d.env v.dst a=aW d.env o.dst a:=fun a=>by rw[hdst]
    have plain:v.op.isCall=false->∃u s' a h' an' w',again G (aE P X G) rs s' ck (fG G (aE P X G) rs vs (i+1) (put s' v.dst u) K)/\pT w1 s2 d.env (bT base d) d.pr.nx (base+i) (opA P o.op d.env (bT base d) (base+i)) u s' a h' an' w':=fun hcall=>w6 hg1 ha.hr ha.er hFi h3 hcall hk;have fin:∀{nx:NX} {u:V} {s':St} {a:AV} {h':H} {an':Nat} {w':Wd},pT w1 s2 d.env (bT base d) d.pr.nx (base+i) nx u s' a h' an' w'->
      AtR (fun k=>base<=k/\k<base+T) w s d.env (bT base d) d.pr.nx w' (put s' v.dst u) (aW d.env o.dst a) h' an'/\(∀k,i+1<=k->k<T->bZ w' (put s' v.dst u).env (aW d.env o.dst a) (base+k))/\(∀q L,wE.K q=some L->h'.get q=h0.get q)/\an'=d.pr.nx:=by
     intro nx u s' a h' an' w' r;have han:an'=d.pr.nx:=by
      rcases r.nx with⟨_,_,q⟩|⟨_,q⟩|⟨_,q⟩
      ·exact q
      ·exact q
      ·omega
     have hp:=BJ r v.dst;have hq:=SO (R:=fun k=>base<=k/\k<base+T) r ⟨by omega,by omega⟩ v.dst
     rw[hpe] at hp hq;refine⟨(ha.toR).trans hq,fun k hk1 hk2=>?_,fun q L hq=>?_,han⟩
     ·exact bZ.step (s:=s2) (s':=put s' v.dst u) (an:=d.pr.nx) (N:=fun j=>j=base+i) hp.2.2 (by omega) (by omega) (hF2 k (by omega) hk2)
     ·rw[QH ha.hr ha.er r.step (fun q L hq hn=>by rw[hn,hFi.id.K] at hq;cases hq) (hKw q L hq)]
      exact I.K q L hq
    have hfs:∀a,kK (Nat.lor fm wm) a=true\/kK (Nat.lor rm (Nat.lor fm wm)) a=true->∀p∈d.fs,Nat.testBit a p.1=true:=by
     intro a hsub p hp;have:=I.fs p hp;rcases hsub with hsub|hsub
     ·exact pB hsub (orL this)
     ·exact pB hsub (by rw[jP,orL this];simp)
    have hlo:∀a,kK wm a=true\/kK (Nat.lor fm wm) a=true\/kK (Nat.lor rm (Nat.lor fm wm)) a=true->∀p∈d.pr::d.old,p.lo=0\/Nat.testBit a (p.lo-1)=true:=by
     intro a hsub p hp;rcases I.lo p hp with h0|h0
     ·exact .inl h0
     ·refine .inr ?_;rcases hsub with hsub|hsub|hsub
      ·exact pB hsub h0
      ·exact pB hsub (by rw[jP,h0];simp)
      ·exact pB hsub (by rw[jP,jP,h0];simp)
    have hback:∀(a:Nat) (op:Op) (x:AV),(d.old=[]\/∀p∈d.pr::d.old,p.lo=0\/Nat.testBit a (p.lo-1)=true)->kX P base a d.fs op d.env x d.pr.lo d.old=true:=by
     intro a op x hh;cases hold:d.old with
     |nil=>rfl
     |cons p ps=>
      rcases hh with hh|hh
      ·rw[hold] at hh;cases hh
      ·simp only[kX];rcases hh d.pr (.head _) with h0|h0
       ·exact (I.old (by rw[hold];exact nofun) h0).elim
       ·rw[h0];rfl
    have readOk:∀{a:AV},opA P o.op d.env (aY base d.pr.ab (Nat.testBit m) d.pr.b d.fs) 0=.val a->(d.old=[]\/∀p∈d.pr::d.old,p.lo=0\/Nat.testBit m (p.lo-1)=true)->
      nJ P base o m d=some {d with i:=d.i+1,env:=aW d.env o.dst a,rs:=⟨d.i,o.op,d.env,a⟩::d.rs}:=by
     intro a hv hb;simp only[nJ,hv];rw[hback m o.op a hb];rfl
    cases hcls:bP o.op with
    |p=>
     rw[hcls] at hgood;simp only[Bool.and_eq_true] at hgood;obtain⟨hnck,hgood⟩:=hgood;have hck:ck=[]:=by cases ck<;>first|rfl|cases hnck
     subst hck;obtain⟨u,s',a,h',an',w',k1,k2⟩:=plain (GV h3 (by rw[hcls];exact nofun))
     obtain⟨f1,f2,f3,f4⟩:=fin k2;obtain⟨q,e1,e2⟩:=wZ (R3 hcls _ _ _) k2;subst e1;rw[f4] at f1;let d':bU:={d with i:=d.i+1,env:=aW d.env o.dst a};exact go (d':=d') hgood hE' (keepI (d':=d') (by show d.i+1=_;rw[hdi]) rfl rfl I.fs I.rs (fun _ h=>h) (j4 I.agree _ _) I.K (I.root.put _ _ _ (HO I.root (.inr q)))) f1 f2 k1 ⟨0,fun k _=>by simp only[eO,hw,hcls];rw[vR hcls d.env .e (bT base d) 0 (base+i),q]⟩
    |r=>
     rw[hcls] at hgood;simp only[Bool.and_eq_true,Bool.or_eq_true] at hgood;obtain⟨⟨hnck,hsub⟩,hgood⟩:=hgood;have hck:ck=[]:=by cases ck<;>first|rfl|cases hnck
     subst hck;obtain⟨u,s',a,h',an',w',k1,k2⟩:=plain (GV h3 (by rw[hcls];exact nofun))
     obtain⟨f1,f2,f3,f4⟩:=fin k2;obtain⟨q,e1,e2⟩:=wZ (HH hcls _ _ _) k2;subst e1;rw[f4] at f1;have hlo':∀p∈d.pr::d.old,p.lo=0\/Nat.testBit m (p.lo-1)=true:=hlo m (hsub.elim (fun h=>.inr (.inl h)) fun h=>.inl h.1);have hval:opA P o.op d.env (aY base d.pr.ab (Nat.testBit m) d.pr.b d.fs) 0=.val a:=by
      rcases hsub with hsub|⟨_,hsub⟩
      ·rw[FO (hfs m (.inl hsub))];exact xC (.inr hcls) q 0
      ·rw[BL hcls (g:=bT base d) fun x hx q hq=>?_]
       ·exact xC (.inr hcls) q 0
       ·generalize o.op=oo at hsub hx;cases oo<;>simp only[SZ] at hsub<;>try cases hsub
        rename_i y;cases y<;>simp only at hsub<;>try cases hsub
        rename_i t;cases hx;split at hsub
        ·rename_i k hk;simp only[rd] at hq;split at hq
         ·rename_i b hb;have hqk:q=base+k:=I.root t (k+1) hk b q hb hq;rw[hqk];exact aCX hsub
         ·cases hq
        ·cases hsub
     let d':bU:={d with i:=d.i+1,env:=aW d.env o.dst a,rs:=⟨d.i,o.op,d.env,a⟩::d.rs};refine go (d':=d') hgood hE' (keepI (d':=d') (by show d.i+1=_;rw[hdi]) rfl rfl I.fs (fun r hr=>?_) (fun _ h=>h) (j4 I.agree _ _) I.K (I.root.put _ _ _ nofun)) f1 f2 k1 ⟨0,fun k _=>by simp only[eO,hw,hcls];exact readOk hval (.inr hlo')⟩
     rcases List.mem_cons.1 hr with rfl|hr
     ·refine .inl ?_;show Nat.testBit _ d.i=true;rw[hdi];exact orR
     ·exact rsL (fun _ h=>orL h) r hr
    |f=>
     rw[hcls] at hgood;simp only[Bool.and_eq_true] at hgood;obtain⟨⟨hnck,hconv⟩,hgood⟩:=hgood;have hck:ck=[]:=by cases ck<;>first|rfl|cases hnck
     subst hck;obtain⟨u,s',a,h',an',w',k1,k2⟩:=plain (GV h3 (by rw[hcls];exact nofun))
     obtain⟨f1,f2,f3,f4⟩:=fin k2;rw[f4] at f1;rcases k2.nx with⟨q,e1,e2⟩|⟨q,e2⟩|⟨q,e2⟩
     ·
      subst e1;have hic:qF o.op=true:=by
       cases hic:qF o.op with
       |true=>rfl
       |false=>exact (aC6 hcls hic q).elim
      rw[hic] at hconv hgood;simp only[cond_true] at hconv hgood;let d':bU:={d with i:=d.i+1,env:=aW d.env o.dst a,rs:=⟨d.i,o.op,d.env,a⟩::d.rs};have hs:∃N,∀k,N<=k->eO P (bM P X k) all base o m d=some d':=⟨0,fun k _=>by
       have hrd:nJ P base o m d=some d':=by
        cases hlt:v.op.light with
        |true=>
         rw[hlt] at hconv;simp only[cond_true] at hconv;have hwm:=aP.1 hconv;refine readOk (aFK h3 hlt q _ _) (.inl ?_);cases hold:d.old with
         |nil=>rfl
         |cons p ps=>
          exfalso;have:=I.old (by rw[hold];exact nofun)
          rcases I.lo d.pr (.head _) with h0|h0
          ·exact this h0
          ·rw[hwm,Nat.zero_testBit] at h0;cases h0
        |false=>rw[hlt] at hconv;simp only[cond_false] at hconv;have hex:aY base d.pr.ab (Nat.testBit m) d.pr.b d.fs=bT base d:=FO (hfs m (.inl hconv));exact readOk (by rw[hex];exact vS (.inr hcls) (fun _ _ h=>h) 0 q) (.inr (hlo m (.inr (.inl hconv))))
       simp only[eO,hw,hcls];cases hne:opA P o.op d.env .e (base+d.i) with
       |new b hb=>obtain⟨B,_,h2⟩:=PE hcls hne;rw[hdi] at h2;rw[h2 (bT base d)] at q;cases q
       |_=>exact hrd⟩
      refine go (d':=d') hgood hE' (keepI (d':=d') (by show d.i+1=_;rw[hdi]) rfl rfl (fun p hp=>orL (I.fs p hp)) (fun r hr=>?_) (fun _ h=>h) (j4 I.agree _ _) I.K (I.root.put _ _ _ (HO I.root (.inr q)))) f1 f2 k1 hs
      rcases List.mem_cons.1 hr with rfl|hr
      ·refine .inl ?_;show Nat.testBit _ d.i=true;rw[hdi];exact orR
      ·exact rsL (fun _ h=>orL h) r hr
     ·exact (aC7 hcls q).elim
     ·obtain⟨B,hB,h2⟩:=PE hcls q;let d':bU:={d with i:=d.i+1,env:=aW d.env o.dst a,fs:=(d.i,B)::d.fs};have hs:∃N,∀k,N<=k->eO P (bM P X k) all base o m d=some d':=⟨0,fun k _=>by simp only[eO,hw,hcls];have h3:=h2 .e;rw[<-hdi] at h3;rw[h3];simp only[Tr.get_set,if_true];rfl⟩
      have hfull:bT base d'=h':=by
       show aY base d.pr.ab (fun _=>true) d.pr.b ((d.i,B)::d.fs)=h';simp only[aY];have:Nat.testBit d.pr.ab d.i=false:=by
        cases hb:Nat.testBit d.pr.ab d.i with
        |false=>rfl
        |true=>have:=I.ab _ hb;omega
       rw[this,hB,hdi];rfl
      rw[<-hfull] at f1;refine go (d':=d') hgood hE' (keepI (d':=d') (by show d.i+1=_;rw[hdi]) rfl rfl (fun p hp=>?_) (rsL fun j h=>?_) (fun _ h=>h) (j4 I.agree _ _) (by rw[hfull];exact f3) (I.root.put _ _ _ (HO I.root (.inl ⟨_,q⟩)))) f1 f2 k1 hs
      ·rcases List.mem_cons.1 hp with rfl|hp
       ·show Nat.testBit _ d.i=true;rw[hdi];exact orR
       ·exact orL (I.fs p hp)
      ·cases qF o.op
       ·exact h
       ·exact orL h
    |w=>
     rw[hcls] at hgood;simp only[Bool.and_eq_true] at hgood;obtain⟨⟨hsub,hem⟩,hgood⟩:=hgood;have hex:aY base d.pr.ab (Nat.testBit m) d.pr.b d.fs=bT base d:=FO (hfs m (.inr hsub));have hall:(d.pr::d.old).all (fun p=>Nat.beq p.lo 0||Nat.testBit m (p.lo-1))=true:=by
      rw[List.all_eq_true];intro p hp;rcases hlo m (.inr (.inr hsub)) p hp with h0|h0
      ·rw[h0];rfl
      ·rw[h0,Bool.or_true]
     have sD:∀{r:Option bU} {cal:dH},(match opA P o.op d.env (bT base d) (base+i) with
       |.val v=>jB P o m d v (bT base d) d.pr.nx
       |.upd v h=>jB P o m d v h d.pr.nx
       |.new v h=>jB P o m d v h d.pr.nx
       |.call f args=>(match cal f args (bT base d) d.pr.nx with
        |.ok v h nx=>jB P o m d v h nx
        |.bad=>none)
       |.bad=>none)=r->eO P cal all base o m d=r:=by
      intro r cal hrr;rw[<-hrr];simp only[eO,hw,hcls,IN,hall,cond_true,hex,hdi];cases opA P o.op d.env (bT base d) (base+i)<;>rfl
     have wend:∀{a:AV} {hh:H} {n:Nat} {w2:Wd} {s':St} {u:V},again G (aE P X G) rs s' ck (fG G (aE P X G) rs vs (i+1) (put s' v.dst u) K)->HR w2 s'.vh s'.nx hh n->d.pr.nx<=n->(∀q L,wE.K q=some L->hh.get q=h0.get q)->
       AtR (fun k=>base<=k/\k<base+T) w s d.env (bT base d) d.pr.nx w2 (put s' v.dst u) (aW d.env o.dst a) hh n->(∀k,i+1<=k->k<T->bZ w2 (put s' v.dst u).env (aW d.env o.dst a) (base+k))->
       (∃N,∀k,N<=k->eO P (bM P X k) all base o m d=jB P o m d a hh n)->
       ∃s' e' h' an' w',K s'/\(∃N,∀k,N<=k->gU P (bM P X k) all base (o::os) (m::ms) d=.norm e' h' an')/\AtR (fun k=>base<=k/\k<base+T) w s d.env (bT base d) d.pr.nx w' s' e' h' an':=by
      intro a hh n w2 s' u hag hr2 hn hK2 hat hfr hst;obtain⟨hk2,hags⟩:=K0 (hg.mono hat.step.le) (hwE.trans hat.step.le) hr2 hK2 ck hag;have hrs:d.rs.all (fun r=>Nat.testBit m r.i||chk P r.op r.env r.v hh)=true:=by
       rw[List.all_eq_true];intro r hr;rcases I.rs r hr with h1|⟨h1,e,q,h2,h3⟩|⟨h1,h2⟩
       ·rw[pB hsub (orL h1)];rfl
       ·have h4:=pB hem h1;rw[jP] at h4;simp only[Bool.or_eq_true] at h4;rcases h4 with h4|h4
        ·rw[h4];rfl
        ·have h5:=hags _ _ _ _ _ h4 h2;have h6:chk P r.op r.env r.v hh=true:=by simp only[chk,h3,h5];exact v6 8 _ _ h2.eqn h2.den 10 (by omega)
         rw[h6,Bool.or_true]
       ·have h6:chk P r.op r.env r.v hh=true:=by simp only[chk,h2 hh hK2];exact h1
        rw[h6,Bool.or_true]
      let d':bU:={i:=d.i+1,env:=aW d.env o.dst a,fs:=d.fs,pr:=⟨d.i+1,Nat.lor (Nat.lor d.pr.ab m) (Nat.pow 2 d.i),hh,n⟩,old:=d.pr::d.old,rs:=d.rs};have hwr:jB P o m d a hh n=some d':=by simp only[jB,hrs,cond_true];rfl
      have hful:bT base d'=hh:=by refine aCY fun p hp=>?_;show Nat.testBit (Nat.lor (Nat.lor d.pr.ab m) (Nat.pow 2 d.i)) p.1=true;refine orL ?_;rw[jP,hfs m (.inr hsub) p hp,Bool.or_true]
      have hI:uA P (EF P G rs wE h0 base) wE h0 base T em (i+1) rm fm (Nat.lor wm (Nat.pow 2 i)) (nZ o.dst D) (nG rt o.dst none) ea d':=by
       refine⟨by show d.i+1=_;rw[hdi],by show base+T<=n;omega,I.fs,I.rs,fun p hp=>?_,fun _=>nofun,fun j hj=>?_,j4 I.agree _ _,fun j hj op e a r hE hb p hp=>?_,by rw[hful];exact hK2,I.root.put _ _ _ nofun,fun p hp=>(List.mem_cons.1 hp).elim (fun e=>by rw[e];exact hK2) (I.oldK p),I.lowK⟩
       ·rcases List.mem_cons.1 hp with rfl|hp
        ·refine .inr ?_;show Nat.testBit _ (d.i+1-1)=true;rw[hdi];exact orR
        ·exact (I.lo p hp).imp_right orL
       ·have hj:Nat.testBit (Nat.lor (Nat.lor d.pr.ab m) (Nat.pow 2 d.i)) j=true:=hj;rw[jP,jP,HA] at hj;simp only[Bool.or_eq_true,decide_eq_true_eq] at hj;rcases hj with (hj|hj)|hj
        ·exact Nat.lt_succ_of_lt (I.ab j hj)
        ·exact Nat.lt_succ_of_lt (QR hm hj)
        ·omega
       ·rcases List.mem_cons.1 hp with rfl|hp
        ·have h4:=pB hem hb;rw[jP] at h4;simp only[Bool.or_eq_true] at h4;rcases h4 with h4|h4
         ·have:=QR hm h4;omega
         ·exact hags _ _ _ _ _ h4 hE
        ·exact I.pend j (by omega) op e a r hE hb p hp
      rw[<-hful] at hat;obtain⟨N,hst⟩:=hst;exact go (d':=d') hgood hE' hI hat hfr hk2 ⟨N,fun k hk=>by rw[hst k hk,hwr]⟩
     cases hcl:v.op.isCall with
     |false=>
      obtain⟨u,s',a,h',an',w',k1,k2⟩:=plain hcl;obtain⟨f1,f2,f3,f4⟩:=fin k2;rw[f4] at f1;have hr2:=k2.hr;rw[f4] at hr2;refine wend k1 hr2 (Nat.le_refl _) f3 f1 f2 ⟨0,fun k _=>?_⟩;rcases k2.nx with⟨q,e1,e2⟩|⟨q,e2⟩|⟨q,e2⟩
      ·subst e1;exact sD (by rw[q])
      ·exact sD (by rw[q])
      ·exact sD (by rw[q])
     |true=>
      have called:∀{gf:FuncId} {wsv:List V} {us:List AV},aE P X G gf wsv s2.vh s2.nx (fun u vh nx=>again G (aE P X G) rs ⟨s2.env,vh,nx⟩ ck (fG G (aE P X G) rs vs (i+1) (put ⟨s2.env,vh,nx⟩ v.dst u) K))->aX w1 wsv us->(∀n,opA P o.op d.env (bT base d) n=.call gf us)->
        ∃s' e' h' an' w',K s'/\(∃N,∀k,N<=k->gU P (bM P X k) all base (o::os) (m::ms) d=.norm e' h' an')/\AtR (fun k=>base<=k/\k<base+T) w s d.env (bT base d) d.pr.nx w' s' e' h' an':=by
       intro gf wsv us hcl2 hd hop;obtain⟨u,vh',vn',a,h',an',w',k1,⟨N,k2⟩,k3,k4,k5⟩:=hcl2.out w1 (bT base d) d.pr.nx us hg1 ha.hr hd;have hat:=NN ha.er k3 k5 k4 v.dst;rw[hpe] at hat;have k5':cO w1 (fun i=>own w1 s2.vh s2.env d.env i\/False) (bT base d) d.pr.nx w' (fR w' vh') h' an':=k5.weak (fun i h=>.inl (.inl h)) (fun _ h=>h);refine wend (s':=⟨s2.env,vh',vn'⟩) (u:=u) k1 k3 k5.grow (fun q L hq=>?_) (ha.trans hat).toR (fun k hk1 hk2=>(hF2 k (by omega) hk2).at hat (by omega)) ⟨N,fun k hk=>sD (by rw[hop];simp only[k2 k hk])⟩
       rw[QH (N:=fun _=>False) ha.hr ha.er k5' (fun _ _ _ h=>h) (hKw q L hq)];exact I.K q L hq
      cases hvo:v.op with
      |call gf xs=>
       rw[hvo] at hk h3;generalize hoo:o.op=oo at h3;unfold cop at h3;split at h3<;>first|(rename_i heq;cases heq;done)|skip
       all_goals first
        |(
          rename_i heq;cases heq;simp only[Bool.and_eq_true,aP] at h3;obtain⟨rfl,h3⟩:=h3;obtain⟨ws,q1,_,q2⟩:=nI hg1 ha.er h3 hk;refine called q1 q2 fun n=>?_;rw[hoo];simp only[opA,cT,rd,dE,List.append_nil,List.nil_append]
          done)
        |cases h3
      |callv x xs=>
       rw[hvo] at hk h3;generalize hoo:o.op=oo at h3;unfold cop at h3;split at h3<;>first|(rename_i heq;cases heq;done)|skip
       all_goals first
        |(
          rename_i heq;cases heq;simp only[Bool.and_eq_true] at h3;obtain⟨h30,h31⟩:=h3;obtain⟨fv,q0,q3⟩:=bI hg1 ha.er h30 hk;rename_i yy ys tys;generalize hrd:rd d.env yy=ra at q3;split at q0
          ·cases q3 with
           |func g f c f' c' hf hcc=>obtain⟨ws,q1,_,q2⟩:=nI hg1 ha.er h31 q0;refine called q1 ((hf.app q2).app hcc) fun n=>?_;rw[hoo];simp only[opA,cT,hrd,dE,List.append_assoc]
          ·exact q0.elim
          done)
        |cases h3
      |_=>rw[hvo] at hcl;cases hcl
   ·
    let d':bU:={d with i:=d.i+1,env:=aW d.env o.dst dV};have hs:∃N,∀k,N<=k->eO P (bM P X k) all base o m d=some d':=⟨0,fun k _=>by simp only[eO,hw];rfl⟩
    have hat:At w s d.env (bT base d) d.pr.nx w1 (put s2 v.dst V.undef) d'.env (bT base d') d.pr.nx:=by have:=ha.trans (BK ha.hr ha.er v.dst);rw[hdst] at this ⊢;exact this
    have hfr:∀k,i+1<=k->k<T->bZ w1 (put s2 v.dst V.undef).env d'.env (base+k):=fun k hk1 hk2=>(hF k (by omega) hk2).at hat (by omega)
    have hroot:∀r,(∀k,r=some k->∀q,eZ dV=some q->vA (fun q=>∃L,wE.K q=some L) base k q):=fun r k _ q hq=>by cases hq
    simp only[Bool.and_eq_true] at hgood;split at hgood
    all_goals try simp only[Bool.and_eq_true] at hgood
    ·exact go hgood.2 hE' (keepI (d':=d') (by show d.i+1=_;rw[hdi]) rfl rfl I.fs I.rs (fun _ h=>h) (j4 I.agree _ _) I.K (I.root.put _ _ _ (hroot _))) hat.toR hfr hk hs
    ·exact go hgood.2 hE' (keepI (d':=d') (by show d.i+1=_;rw[hdi]) rfl rfl I.fs (rsL fun _ h=>orL h) (fun _ h=>h) (j4 I.agree _ _) I.K (I.root.put _ _ _ (hroot _))) hat.toR hfr hk hs
    ·refine go hgood.2 hE' (keepI (d':=d') (by show d.i+1=_;rw[hdi]) rfl rfl (fun p hp=>orL (I.fs p hp)) (rsL fun j h=>?_) (fun _ h=>h) (j4 I.agree _ _) I.K (I.root.put _ _ _ (hroot _))) hat.toR hfr hk hs
     cases qF o.op
     ·exact h
     ·exact orL h
    ·exact go hgood.2 hE' (keepI (d':=d') (by show d.i+1=_;rw[hdi]) rfl rfl I.fs I.rs (fun _ h=>orL h) (j4 I.agree _ _) I.K (I.root.put _ _ _ (hroot _))) hat.toR hfr hk hs
 |[],_::_,_,_,_,_,_,_,_,_,hgood,_,_,_,_,_,_,_,_,_,_,_,_,_,_=>by cases hgood
 |_::_,[],_,_,_,_,_,_,_,_,hgood,_,_,_,_,_,_,_,_,_,_,_,_,_,_=>by cases hgood
 |_::_,_::_,[],_,_,_,_,_,_,_,hgood,_,_,_,_,_,_,_,_,_,_,_,_,_,_=>by cases hgood
theorem NO{env:aH}{A:Prop}:∀{ts:List Nat},vN env ts A->A/\∀t∈ts,∃es ls c,lk env t=some (.sl es ls c)
 |[],h=>⟨h,nofun⟩
 |t::ts,h=>by
  simp only[vN] at h;split at h
  ·rename_i hl;obtain⟨h1,h2⟩:=NO h;exact⟨h1,fun u hu=>(List.mem_cons.1 hu).elim (fun e=>e▸⟨_,_,_,hl⟩) (h2 u)⟩
  ·exact h.elim
theorem NR{t k:Nat}:∀{ts:List Nat},gX (vO ts) t=some k->k=0/\t∈ts
 |[],h=>by cases h
 |u::ts,h=>by
  simp only[vO,gX] at h;cases hb:Nat.beq u t with
  |true=>rw[hb] at h;cases h;exact⟨rfl,by rw[aP.1 hb];exact .head _⟩
  |false=>rw[hb] at h;obtain⟨h1,h2⟩:=NR h;exact⟨h1,.tail _ h2⟩
theorem aCf{w:Wd}{s:St}{e:Env}{h:H}{an:Nat}(hr:HR w s.vh s.nx h an)(er:ER w s.env e h an){k:Nat}(hk:an<=k):bZ w s.env e k:=by
 refine⟨⟨fun b hb=>by have:=(hr.lim _ _ hb).1;omega,?_⟩,fun t hl hg=>?_⟩
 ·cases hL:w.K k with
  |none=>rfl
  |some L=>have:=hr.limK _ _ hL;omega
 ·obtain⟨i,hi,h1⟩:=er.loc hl;rw[hg] at hi;cases hi;have:=h1.2.1;omega
theorem vW{vs:List bV}{os:Array Oper}(hgd:AS P vs os=true)(hc:mL P os vs os.toList=true){w:Wd}{s:St}{e:Env}{h:H}{an:Nat}(hg:aV G w)(hr:HR w s.vh s.nx h an)(er:ER w s.env e h an)
  {K:St->Prop} (hk:vcD G (aE P X G) vs s K) (i:Nat):∃s' e' h' an' w',K s'/\(∃N,∀n m,N<=n->N<=m->evC P (bM P X m) n (.region i os true) e h an=.norm e' h' an')/\At w s e h an w' s' e' h' an':=by
 simp only[AS,Bool.and_eq_true] at hgd;obtain⟨⟨h1,h2⟩,h3⟩:=hgd;have hf0:∀j,(0:Nat)<=j->fU j []=none:=fun _ _=>rfl;obtain⟨hk,hcs⟩:=NO hk;obtain⟨s1,rs,wE,k1,_,hr1,st,hE⟩:=vX (s:=⟨oG s.env,s.vh,s.nx⟩) vs os.toList _ 0 0 0 0 [] _ h3 hc hg hr (aBw er) ON hf0 hk;have er1:ER wE s.env e h an:=er.call st;have hr2:HR wE s1.vh s1.nx h (an+os.size):=hr1.grow (Nat.le_refl _) (by omega)
 have a0:At wE ⟨s.env,s1.vh,s1.nx⟩ e h an wE ⟨s.env,s1.vh,s1.nx⟩ e h an:=⟨hr1,er1,.refl fun _ h=>.inl h⟩;have a1:=a0.grow (an'':=an+os.size) (by omega)
 have I:uA P (EF P G rs wE h an) wE h an os.size (FA vs os.toList 0) 0 0 0 0 [] (vO (oD vs)) e ⟨0,e,[],⟨0,0,h,an+os.size⟩,[],[]⟩:=by
  refine⟨rfl,Nat.le_refl _,nofun,nofun,fun p hp=>(List.mem_cons.1 hp).elim (fun e=>.inl (by rw[e])) (fun e=>nomatch e),fun h=>(h rfl).elim,fun j hj=>by (have hj:Nat.testBit 0 j=true:=hj;rw[Nat.zero_testBit] at hj;cases hj),fun _ _=>rfl,fun j hj op e a r hE hb p hp=>?_,fun _ _ _=>rfl,fun t k hk a q ha hq=>?_,fun p hp q L hL=>(List.mem_cons.1 hp).elim (fun e=>by rw[e]) (fun e=>nomatch e),fun q L hL=>hr1.limK q L hL⟩
  ·rcases List.mem_cons.1 hp with rfl|hp
   ·exact hE.val
   ·cases hp
  ·obtain⟨rfl,ht⟩:=NR hk;obtain⟨es,ls,c,hl⟩:=hcs t ht;have hrd:rdV G s.env (.t t)=some (.sl es ls c):=by simp only[rdV,hl]
   have hd:TV w s.env e (.sl es ls c) (rd e (.tmp t)):=qP (x:=.t t) (o:=.tmp t) hg er (aP.2 rfl) hrd;have hd:Den w (.sl es ls c) a:=by
    have:rd e (.tmp t)=a:=by have ha:e.get t=some a:=ha;simp only[rd,ha]
    rw[this] at hd;exact hd
   cases hd with
   |sl0=>cases hq
   |sle=>cases hq
   |sl _ _ _ i o n _ L hK=>cases hq;exact⟨L,st.le.K _ _ hK⟩
 obtain⟨s',e',h',an',w',k2,⟨N,k3⟩,k4⟩:=OM (base:=an) (T:=os.size) vs os.toList _ 0 0 0 0 [] _ e h3 hc (by simp) hE I (hg.mono st.le) (.refl _) (s:=⟨s.env,s1.vh,s1.nx⟩) hr2 a1.er (fun k _ _=>aCf (s:=⟨s.env,s1.vh,s1.nx⟩) hr1 er1 (by omega)) k1
 refine⟨s',e',h',an',w',k2,⟨N+1,fun n m hn hm=>?_⟩,k4.hr,k4.er,?_⟩
 ·obtain⟨n,rfl⟩:∃k,n=k+1:=⟨n-1,by omega⟩
  have e0:evC P (bM P X m) (n+1) (.region i os true) e h an=(bif iV os&&P.follows .mixedOrders then gU P (bM P X m) os an os.toList (dX os.toList []) ⟨0,e,[],⟨0,0,h,an+os.size⟩,[],[]⟩ else .bad):=rfl;rw[e0,h1,h2];exact k3 m (by omega)
 ·have st4:cO wE (fun i=>own wE s1.vh s.env e i\/an<=i/\i<an+os.size) h (an+os.size) w' (fun i=>own w' s'.vh s'.env e' i\/an<=i/\i<an+os.size) h' an':=k4.step;have own1:∀i,own wE s1.vh s.env e i->own w s.vh s.env e i\/an<=i:=by
   rintro i (hi|hi)
   ·exact (st.sub i hi).imp_left .inl
   ·exact .inl (.inr hi)
  refine⟨st.le.trans st4.le,by have:=st4.grow;omega,fun i hi ho=>?_,fun b i hb=>?_,fun i L hb=>?_,fun i hi=>?_⟩
  ·refine st4.keep i (by omega) ?_
   rintro (h1|h1)
   ·rcases own1 i h1 with h2|h2
    ·exact ho h2
    ·omega
   ·omega
  ·rcases st4.newr b i hb with q|q|q|q
   ·rcases st.newr b i q with q|q|q
    ·exact .inl q
    ·exact .inr (.inl q)
    ·exact .inr (.inr (.inl q))
   ·exact .inr (.inl (by omega))
   ·exact .inr (own1 i q).symm
   ·exact .inr (.inl q.1)
  ·rcases st4.newk i L hb with q|q|q|q
   ·rcases st.newk i L q with q|q|q
    ·exact .inl q
    ·exact .inr (.inl q)
    ·exact .inr (.inr (.inl q))
   ·exact .inr (.inl (by omega))
   ·exact .inr (own1 i q).symm
   ·exact .inr (.inl q.1)
  ·rcases st4.sub i (.inl hi) with (q|q)|q
   ·exact own1 i q
   ·exact .inr q.1
   ·exact .inr (by omega)
end
end
section
open Go.Ev
def nF:List bV->Bool
 |[]=>true
 |v::vs=>(match v.tg with|.n []=>true|_=>false)&&nF vs
theorem SF{G:Gt}{call:dD}{rs:List Rec}{K:St->List Rec->Prop}:∀{vs:List bV},nF vs=true->∀{i:Nat} {s:St},K s rs->j8 G call vs i s rs K
 |[],_,_,_,hk=>hk
 |v::vs,h,i,s,hk=>by
  simp only[nF,Bool.and_eq_true] at h;simp only[j8];split at h
  ·rename_i ht;rw[ht];exact SF h.2 hk
  ·cases h.1
theorem G9{G:Gt}{call:dD}{rs:List Rec}:∀{vs:List bV},nF vs=true->∀{i:Nat} {s:St} {K:St->Prop},fG G call rs vs i s K=hU G call vs s K
 |[],_,_,_,_=>rfl
 |v::vs,h,i,s,K=>by
  simp only[nF,Bool.and_eq_true] at h;split at h
  ·rename_i ht;simp only[fG,hU,ht,again]
   congr 1
   funext s
   congr 1
   ·funext s
    congr 1
    funext v s
    exact G9 h.2
   ·funext s
    exact G9 h.2
  ·cases h.1
theorem SE:∀{vs:List bV},nF vs=true->oD vs=[]
 |[],_=>rfl
 |v::vs,h=>by
  simp only[nF,Bool.and_eq_true] at h;split at h
  ·rename_i ht;simp only[oD,ht];exact SE h.2
  ·cases h.1
theorem aGh{G:Gt}{call:dD}{vs:List bV}(h:nF vs=true){s:St}{K:St->Prop}(hk:hU G call vs s K):vcD G call vs s K:=by unfold vcD;rw[SE h];refine SF h ?_;rw[G9 h];exact hk
def fP(P:Program):aD->Code->Bool
 |.skip,.skip=>true
 |.skip,.label _=>true
 |.ret,.ret=>true
 |.exit i,.exit j=>Nat.beq i j
 |.seq a b,.seq c d=>fP P a c&&fP P b d
 |.cond x a b,.cond y c d=>aS x y&&fP P a c&&fP P b d
 |.block i a,.block j b=>Nat.beq i j&&fP P a b
 |.loop a,.loop b=>fP P a b
 |.scope a,.scope b=>fP P a b
 |.cut a,c=>fP P a c
 |.gsk _,.skip=>true
 |.gsk _,.label _=>true
 |.no,_=>true
 |.reg d vs _,.region _ os d'=>mL P os vs os.toList&&(match d with
  |0=>!d'
  |1=>d'&&nF vs&&AS P vs os
  |2=>d'&&AS P vs os
  |_=>false)
 |_,_=>false
section
variable (P : Program) (X : Ovr) (G : Gt)
structure WpC(c:Code)(s:St)(Q:VR->Prop):Prop where
 out:∀(w:Wd) (e:Env) (h:H) (an:Nat),aV G w->HR w s.vh s.nx h an->ER w s.env e h an->
  ∃r e' h' an' w',Q r/\(∃N,∀n m,N<=n->N<=m->evC P (bM P X m) n c e h an=mkR r.kind e' h' an')/\At w s e h an w' r.st e' h' an'
structure WpV(v:aD)(s:St)(Q:VR->Prop):Prop where
 out:∀c,fP P v c=true->WpC P X G c s Q
abbrev vc(v:aD)(s:St)(Q:VR->Prop):Prop:=vcC G (aE P X G) (WpV P X G) v s Q
end
section
variable {P : Program} {X : Ovr} {G : Gt}
theorem nQ:∀(v:aD) (c:Code),fP P v c=true->∀(s:St) (Q:VR->Prop),vc P X G v s Q->WpC P X G c s Q
 |.skip,c,hc,s,Q,hk=>⟨fun w e h an hg hr er=>by
   refine⟨.norm s,e,h,an,w,hk,⟨1,fun n m hn _=>?_⟩,hr,er,.refl fun _ h=>.inl h⟩;obtain⟨n,rfl⟩:∃k,n=k+1:=⟨n-1,by omega⟩
   cases c<;>first|(cases hc;done)|rfl⟩
 |.cut a,c,hc,s,Q,hk=>WpV.out hk c hc
 |.no,_,_,_,_,hk=>hk.elim
 |.gsk gs,c,hc,s,Q,hk=>⟨fun w e h an hg hr er=>by
   obtain⟨w2,s2,q2,g2⟩:=sV gs hr er hk;refine⟨.norm s2,e,h,an,w2,q2,⟨1,fun n m hn _=>?_⟩,g2.hr,g2.er,g2.step⟩;obtain⟨n,rfl⟩:∃k,n=k+1:=⟨n-1,by omega⟩
   cases c<;>first|(cases hc;done)|rfl⟩
 |.ret,c,hc,s,Q,hk=>⟨fun w e h an hg hr er=>by
   refine⟨.ret s,e,h,an,w,hk,⟨1,fun n m hn _=>?_⟩,hr,er,.refl fun _ h=>.inl h⟩;obtain⟨n,rfl⟩:∃k,n=k+1:=⟨n-1,by omega⟩
   cases c<;>first|(cases hc;done)|rfl⟩
 |.exit i,c,hc,s,Q,hk=>⟨fun w e h an hg hr er=>by
   refine⟨.exit i s,e,h,an,w,hk,⟨1,fun n m hn _=>?_⟩,hr,er,.refl fun _ h=>.inl h⟩;obtain⟨n,rfl⟩:∃k,n=k+1:=⟨n-1,by omega⟩
   cases c with
   |exit j=>have:=aP.1 hc;subst this;rfl
   |_=>cases hc⟩
 |.seq a b,c,hc,s,Q,hk=>by
  cases c with
  |seq a' b'=>
   simp only[fP,Bool.and_eq_true] at hc;have ih:=nQ a a' hc.1 s _ hk;refine⟨fun w e h an hg hr er=>?_⟩;obtain⟨r,e1,h1,an1,w1,q,⟨N,hev⟩,ha⟩:=ih.out w e h an hg hr er;have other:(∀s',r≠.norm s')->Q r->∃r e' h' an' w',Q r/\(∃N,∀n m,N<=n->N<=m->evC P (bM P X m) n (.seq a' b') e h an=mkR r.kind e' h' an')/\At w s e h an w' r.st e' h' an':=by
    intro hn hq;refine⟨r,e1,h1,an1,w1,hq,⟨N+1,fun n m hn' hm=>?_⟩,ha⟩;obtain⟨n,rfl⟩:∃k,n=k+1:=⟨n-1,by omega⟩
    rw[O4,hev n m (by omega) (by omega)]
    cases r with
    |norm s'=>exact (hn s' rfl).elim
    |exit i s'=>rfl
    |ret s'=>rfl
   cases r with
   |norm s1=>
    obtain⟨r,e2,h2,an2,w2,q2,⟨N2,hev2⟩,ha2⟩:=(nQ b b' hc.2 s1 Q q).out w1 e1 h1 an1 (hg.mono ha.step.le) ha.hr ha.er;refine⟨r,e2,h2,an2,w2,q2,⟨max N N2+1,fun n m hn hm=>?_⟩,ha.trans ha2⟩;obtain⟨n,rfl⟩:∃k,n=k+1:=⟨n-1,by omega⟩
    rw[O4,hev n m (by omega) (by omega)]
    exact hev2 n m (by omega) (by omega)
   |exit i s1=>exact other nofun q
   |ret s1=>exact other nofun q
  |_=>cases hc
 |.cond x a b,c,hc,s,Q,hk=>by
  cases c with
  |cond y a' b'=>
   simp only[fP,Bool.and_eq_true] at hc;refine⟨fun w e h an hg hr er=>?_⟩;obtain⟨v,hv,hd⟩:=bI hg er hc.1.1 hk;generalize hrd:rd e y=ra at hd;split at hv
   ·rename_i t;cases hd;cases t with
    |true=>
     obtain⟨r,e1,h1,an1,w1,q,⟨N,hev⟩,ha⟩:=(nQ a a' hc.1.2 s Q (hv.t rfl)).out w e h an hg hr er;refine⟨r,e1,h1,an1,w1,q,⟨N+1,fun n m hn hm=>?_⟩,ha⟩;obtain⟨n,rfl⟩:∃k,n=k+1:=⟨n-1,by omega⟩
     rw[O3,hrd,aBb];exact hev n m (by omega) (by omega)
    |false=>
     obtain⟨r,e1,h1,an1,w1,q,⟨N,hev⟩,ha⟩:=(nQ b b' hc.2 s Q (hv.f rfl)).out w e h an hg hr er;refine⟨r,e1,h1,an1,w1,q,⟨N+1,fun n m hn hm=>?_⟩,ha⟩;obtain⟨n,rfl⟩:∃k,n=k+1:=⟨n-1,by omega⟩
     rw[O3,hrd,aBa];exact hev n m (by omega) (by omega)
   ·exact hv.elim
  |_=>cases hc
 |.block i a,c,hc,s,Q,hk=>by
  cases c with
  |block j a'=>
   simp only[fP,Bool.and_eq_true] at hc;have:=aP.1 hc.1;subst this;refine⟨fun w e h an hg hr er=>?_⟩;obtain⟨r,e1,h1,an1,w1,q,⟨N,hev⟩,ha⟩:=(nQ a a' hc.2 s _ hk).out w e h an hg hr er;have e0:∀n m,evC P (bM P X m) (n+1) (.block i a') e h an=(match evC P (bM P X m) n a' e h an with
    |.exit id' env h nx=>bif Nat.beq i id' then .norm env h nx else .exit id' env h nx
    |r=>r):=fun n m=>rfl
   cases r with
   |norm s1=>
    refine⟨.norm s1,e1,h1,an1,w1,q,⟨N+1,fun n m hn hm=>?_⟩,ha⟩;obtain⟨n,rfl⟩:∃k,n=k+1:=⟨n-1,by omega⟩
    rw[e0,hev n m (by omega) (by omega)];rfl
   |ret s1=>
    refine⟨.ret s1,e1,h1,an1,w1,q,⟨N+1,fun n m hn hm=>?_⟩,ha⟩;obtain⟨n,rfl⟩:∃k,n=k+1:=⟨n-1,by omega⟩
    rw[e0,hev n m (by omega) (by omega)];rfl
   |exit k s1=>
    simp only[D6] at q;cases hb:Nat.beq i k with
    |true=>
     rw[hb] at q;refine⟨.norm s1,e1,h1,an1,w1,q,⟨N+1,fun n m hn hm=>?_⟩,ha⟩;obtain⟨n,rfl⟩:∃k,n=k+1:=⟨n-1,by omega⟩
     rw[e0,hev n m (by omega) (by omega)]
     simp only[VR.kind,mkR,hb,cond_true]
    |false=>
     rw[hb] at q;refine⟨.exit k s1,e1,h1,an1,w1,q,⟨N+1,fun n m hn hm=>?_⟩,ha⟩;obtain⟨n,rfl⟩:∃k,n=k+1:=⟨n-1,by omega⟩
     rw[e0,hev n m (by omega) (by omega)]
     simp only[VR.kind,mkR,hb,cond_false]
  |_=>cases hc
 |.loop a,c,hc,s,Q,hk=>hk.out c hc
 |.scope a,c,hc,s,Q,hk=>by
  cases c with
  |scope a'=>
   refine⟨fun w e h an hg hr er=>?_⟩;obtain⟨r,e1,h1,an1,w1,q,⟨N,hev⟩,ha⟩:=(nQ a a' hc s Q hk).out w e h an hg hr er;refine⟨r,e1,h1,an1,w1,q,⟨N+1,fun n m hn hm=>?_⟩,ha⟩;obtain⟨n,rfl⟩:∃k,n=k+1:=⟨n-1,by omega⟩
   exact hev n m (by omega) (by omega)
  |_=>cases hc
 |.reg d vs gh,c,hc,s,Q,hk=>by
  cases c with
  |region i os d'=>
   simp only[fP,Bool.and_eq_true] at hc;obtain⟨hc,hd⟩:=hc;refine⟨fun w e h an hg hr er=>?_⟩;have fin:∀{s1:St} {e1:Env} {h1:H} {an1:Nat} {w1:Wd},jY gh s1 (fun s=>Q (.norm s))->At w s e h an w1 s1 e1 h1 an1->(∃N,∀n m,N<=n->N<=m->evC P (bM P X m) n (.region i os d') e h an=.norm e1 h1 an1)->
     ∃r e' h' an' w',Q r/\(∃N,∀n m,N<=n->N<=m->evC P (bM P X m) n (.region i os d') e h an=mkR r.kind e' h' an')/\At w s e h an w' r.st e' h' an':=by
    intro s1 e1 h1 an1 w1 q ha hev;obtain⟨w2,s2,q2,g2⟩:=sV gh ha.hr ha.er q;exact⟨.norm s2,e1,h1,an1,w2,q2,hev,ha.trans ⟨g2.hr,g2.er,g2.step⟩⟩
   split at hd
   ·cases d' with
    |true=>cases hd
    |false=>
     obtain⟨s1,e1,h1,an1,w1,q,⟨N,hev⟩,ha⟩:=RZ vs os.toList hc hg hr er hk;refine fin q ha ⟨N+1,fun n m hn hm=>?_⟩;obtain⟨n,rfl⟩:∃k,n=k+1:=⟨n-1,by omega⟩
     rw[aCS];exact hev m (by omega)
   ·cases d' with
    |false=>cases hd
    |true=>simp only[Bool.true_and,Bool.and_eq_true] at hd;obtain⟨s1,e1,h1,an1,w1,q,hev,ha⟩:=vW hd.2 hc hg hr er (aGh hd.1 hk) i;exact fin q ha hev
   ·cases d' with
    |false=>cases hd
    |true=>simp only[Bool.true_and] at hd;obtain⟨s1,e1,h1,an1,w1,q,hev,ha⟩:=vW hd hc hg hr er hk i;exact fin q ha hev
   ·cases hd
  |_=>cases hc
theorem WpV.of{v:aD}{s:St}{Q:VR->Prop}(h:vc P X G v s Q):WpV P X G v s Q:=⟨fun c hc=>nQ v c hc s Q h⟩
theorem WpV.cut{v:aD}{s:St}{Q:VR->Prop}(h:vc P X G v s Q):WpV P X G (.cut v) s Q:=⟨fun c hc=>nQ v c hc s Q h⟩
theorem WpV.loop{b:aD}{s:St}{Q:VR->Prop}(h:WpV P X G b s (BX Q fun s=>WpV P X G (.loop b) s Q)):WpV P X G (.loop b) s Q:=by
 refine⟨fun c hc=>?_⟩;cases c with
 |loop b'=>
  refine⟨fun w e hh an hg hr er=>?_⟩;have e0:∀n m,evC P (bM P X m) (n+1) (.loop b') e hh an=(evC P (bM P X m) n b' e hh an).then (evC P (bM P X m) n (.loop b')):=fun n m=>rfl;obtain⟨r,e1,h1,an1,w1,q,⟨N,hev⟩,ha⟩:=(h.out b' hc).out w e hh an hg hr er;cases r with
  |norm s1=>
   obtain⟨r,e2,h2,an2,w2,q2,⟨N2,hev2⟩,ha2⟩:=(WpV.out q (.loop b') hc).out w1 e1 h1 an1 (hg.mono ha.step.le) ha.hr ha.er;refine⟨r,e2,h2,an2,w2,q2,⟨max N N2+1,fun n m hn hm=>?_⟩,ha.trans ha2⟩;obtain⟨n,rfl⟩:∃k,n=k+1:=⟨n-1,by omega⟩
   rw[e0,hev n m (by omega) (by omega)]
   exact hev2 n m (by omega) (by omega)
  |exit i s1=>
   refine⟨.exit i s1,e1,h1,an1,w1,q,⟨N+1,fun n m hn hm=>?_⟩,ha⟩;obtain⟨n,rfl⟩:∃k,n=k+1:=⟨n-1,by omega⟩
   rw[e0,hev n m (by omega) (by omega)];rfl
  |ret s1=>
   refine⟨.ret s1,e1,h1,an1,w1,q,⟨N+1,fun n m hn hm=>?_⟩,ha⟩;obtain⟨n,rfl⟩:∃k,n=k+1:=⟨n-1,by omega⟩
   rw[e0,hev n m (by omega) (by omega)];rfl
 |_=>cases hc
theorem WpV.round{b:aD}{s:St}{Q:VR->Prop}(h:vc P X G b s (BX Q fun s=>WpV P X G (.loop b) s Q)):WpV P X G (.loop b) s Q:=.loop (.of h)
end
inductive aJ where
 |tmp (t:Nat)
 |cell (a:Nat) (ag:Bool) (n:Nat)
section
variable (P : Program) (X : Ovr) (G : Gt)
def BP:List aJ->St->(List V->Prop)->Prop
 |[],_,k=>k []
 |.tmp t::l,s,k=>rdF G s.env (.t t) fun v=>BP l s fun vs=>k (v::vs)
 |.cell a ag n::l,s,k=>bF G (fun _ _ _ _ _=>False) (.load (.t a) ag n) s fun v s=>BP l s fun vs=>k (v::vs)
def mM:List aJ->List ResultVar->Bool
 |[],[]=>true
 |.tmp t::l,.tmp u::m=>Nat.beq t u&&mM l m
 |.cell a ag n::l,.cell b t::m=>Nat.beq a b&&cop P (.load (.t a) ag n) (.load t (.tmp b))&&mM l m
 |_,_=>false
def wB(rs:List aJ)(Q:V->VH->Nat->Prop)(s:St):Prop:=BP G rs s fun vs=>match vs with
 |[v]=>Get (fun vh:VH=>∀b B,vh b=some B->s.vh b=some B) fun vh=>Q v vh s.nx
 |vs=>Get (fun vh:VH=>∀b B,vh b=some B->s.vh b=some B) fun vh=>Q (.tup vs) vh s.nx
def mW(rs:List aJ)(Q:V->VH->Nat->Prop):VR->Prop
 |.norm s=>wB G rs Q s
 |.ret s=>wB G rs Q s
 |.exit _ _=>False
end
def kU:List V->Nat->aH
 |[],_=>[]
 |v::vs,i=>(i,v)::kU vs (i+1)
section
variable {P : Program} {X : Ovr} {G : Gt}
theorem DY:∀(vs:List V) (i t:Nat) (v:V),lk (kU vs i) t=some v->i<=t/\vs[t-i]? =some v
 |[],i,t,v,h=>by cases h
 |u::vs,i,t,v,h=>by
  simp only[kU] at h;rw[dK] at h;split at h
  ·rename_i ht;simp only at ht;subst ht;cases h;simp
  ·rename_i ht;simp only at ht;obtain⟨h1,h2⟩:=DY vs (i+1) t v h;refine⟨by omega,?_⟩
   have:t-i=(t-(i+1))+1:=by omega
   rw[this];simpa using h2
theorem HN:∀(l:List aJ) (m:List ResultVar),mM P l m=true->∀{w:Wd} {s:St} {e:Env} {h:H} {an:Nat},aV G w->HR w s.vh s.nx h an->ER w s.env e h an->∀{k:List V->Prop},BP G l s k->
  ∃vs us,k vs/\lR P e h m=some us/\aX w vs us
 |[],[],_,w,s,e,h,an,hg,hr,er,k,hk=>⟨[],[],hk,rfl,.nil⟩
 |.tmp t::l,.tmp u::m,hc,w,s,e,h,an,hg,hr,er,k,hk=>by simp only[mM,Bool.and_eq_true] at hc;have:=aP.1 hc.1;subst this;obtain⟨v,h1,h2,h3⟩:=xG (x:=.t t) (o:=.tmp t) hg er (aP.2 rfl) hk;obtain⟨vs,us,h4,h5,h6⟩:=HN l m hc.2 hg hr er h1;exact⟨v::vs,_::us,h4,by simp only[lR,h5];rfl,.cons _ _ _ _ h3 h6⟩
 |.cell a ag n::l,.cell b t::m,hc,w,s,e,h,an,hg,hr,er,k,hk=>by
  simp only[mM,Bool.and_eq_true] at hc;obtain⟨⟨h1,h2⟩,h3⟩:=hc;have:=aP.1 h1;subst this;obtain⟨v,x,k1,k2,k3⟩:=QO hg hr er h2 hk;obtain⟨vs,us,h4,h5,h6⟩:=HN l m h3 hg hr er k1;refine⟨v::vs,x::us,h4,?_,.cons _ _ _ _ k3 h6⟩;show (match ld P h t (rd e (.tmp a)),lR P e h m with|some v,some r=>some (v::r)|_,_=>none)=_
  rw[k2,h5]
 |[],.tmp _::_,hc,_,_,_,_,_,_,_,_,_,_=>by cases hc
 |[],.cell _ _::_,hc,_,_,_,_,_,_,_,_,_,_=>by cases hc
 |.tmp _::_,[],hc,_,_,_,_,_,_,_,_,_,_=>by cases hc
 |.cell _ _ _::_,[],hc,_,_,_,_,_,_,_,_,_,_=>by cases hc
 |.tmp _::_,.cell _ _::_,hc,_,_,_,_,_,_,_,_,_,_=>by cases hc
 |.cell _ _ _::_,.tmp _::_,hc,_,_,_,_,_,_,_,_,_,_=>by cases hc
theorem PG{rs:List aJ}{Q:V->VH->Nat->Prop}{w:Wd}{s:St}{e:Env}{h:H}{an:Nat}{fn:Func}(hc:mM P rs fn.results.toList=true)(hg:aV G w)(hr:HR w s.vh s.nx h an)(er:ER w s.env e h an)(hk:wB G rs Q s):
  ∃v vh a,Q v vh s.nx/\lS P fn e h an=.ok a h an/\HR w vh s.nx h an/\Den w v a/\∀b B,vh b=some B->s.vh b=some B:=by
 obtain⟨vs,us,h1,h2,h3⟩:=HN _ _ hc hg hr er hk;unfold lS;rw[h2];split at h1
 ·rename_i v;obtain⟨vh,hv,hq⟩:=h1;cases h3 with
  |cons _ a _ m hd hl=>cases hl;exact⟨v,vh,a,hq,rfl,hr.sub hv,hd,hv⟩
 ·rename_i hne;obtain⟨vh,hv,hq⟩:=h1;refine⟨.tup vs,vh,.tup us,hq,?_,hr.sub hv,.tup _ _ h3,hv⟩;cases us with
  |nil=>rfl
  |cons a us=>
   cases us with
   |nil=>cases h3 with|cons v _ _ _ hd hl=>cases hl;exact (hne v rfl).elim
   |cons _ _=>rfl
theorem aE.of{f:FuncId}{fn:Func}{c:Code}{v:aD}{rs:List aJ}(hX:X f=none)(hf:P.funcs[f]? =some fn)(hb:fn.body=some c)(hok:eH P fn.ntmps c=true)(hc:fP P v c=true)(hr:mM P rs fn.results.toList=true)
  {vs:List V} {vh:VH} {vn:Nat} {Q:V->VH->Nat->Prop} (hk:vc P X G v ⟨kU vs 0,vh,vn⟩ (mW G rs Q)):aE P X G f vs vh vn Q:=by
 refine⟨fun w h an us hg hh hd=>?_⟩;have henv:∀t a,us[t]? =some a->(gT us 0 .e).get t=some a:=fun t a ha=>by
  rw[FH];have:t<us.length:=by
   rcases Nat.lt_or_ge t us.length with h|h
   ·exact h
   ·rw[List.getElem?_eq_none h] at ha;cases ha
  rw[if_pos ⟨Nat.zero_le _,by omega⟩]
  simpa using ha
 have nl:∀t,¬Loc (kU vs 0) t:=by rintro t ⟨v,h1,h2⟩;obtain⟨_,h3⟩:=DY _ _ _ _ h1;obtain⟨a,h4,h5⟩:=hd.get h3;exact oS h5 h2
 have er:ER w (kU vs 0) (gT us 0 .e) h an:=by
  refine⟨fun t v hl=>?_,fun t u i ht=>(nl t ht).elim⟩;obtain⟨_,h3⟩:=DY _ _ _ _ hl;obtain⟨a,h4,h5⟩:=hd.get h3;have h6:=henv t a (by simpa using h4)
  have h7:TV w (kU vs 0) (gT us 0 .e) v a:=.of_den h5;cases v with
  |bx l=>cases h5
  |it r p=>cases h5
  |_=>exact⟨a,h6,h7⟩
 obtain⟨r,e1,h1,an1,w1,q,⟨N,hev⟩,ha⟩:=(nQ v c hc _ _ hk).out w _ h an hg hh er;have body:∀m,bM P X (m+1) f us h an=(match evC P (bM P X m) m c (gT us 0 .e) h an with
   |.norm env h nx=>lS P fn env h nx
   |.ret env h nx=>lS P fn env h nx
   |_=>.bad):=fun m=>aCT hX hf hb hok
 have step:∀{s1:St} {vh1:VH},At w ⟨kU vs 0,vh,vn⟩ (gT us 0 .e) h an w1 s1 e1 h1 an1->(∀b B,vh1 b=some B->s1.vh b=some B)->cO w (fR w vh) h an w1 (fR w1 vh1) h1 an1:=by
  intro s1 vh1 ha hv;refine ha.step.weak' (fun i hi=>?_) (fun i hi=>?_)
  ·rcases hi with hi|⟨t,ht,_⟩
   ·exact hi
   ·exact (nl t ht).elim
  ·obtain⟨b,B,hb,hi⟩:=hi;exact .inl ⟨b,B,hv b B hb,hi⟩
 cases r with
 |norm s1=>
  obtain⟨v1,vh1,a,g1,g2,g3,g4,g5⟩:=PG hr (hg.mono ha.step.le) ha.hr ha.er q;refine⟨v1,vh1,s1.nx,a,h1,an1,w1,g1,⟨N+1,fun m hm=>?_⟩,g3,g4,step ha g5⟩;obtain⟨m,rfl⟩:∃k,m=k+1:=⟨m-1,by omega⟩
  rw[body,hev m m (by omega) (by omega)]
  exact g2
 |ret s1=>
  obtain⟨v1,vh1,a,g1,g2,g3,g4,g5⟩:=PG hr (hg.mono ha.step.le) ha.hr ha.er q;refine⟨v1,vh1,s1.nx,a,h1,an1,w1,g1,⟨N+1,fun m hm=>?_⟩,g3,g4,step ha g5⟩;obtain⟨m,rfl⟩:∃k,m=k+1:=⟨m-1,by omega⟩
  rw[body,hev m m (by omega) (by omega)]
  exact g2
 |exit _ _=>exact q.elim
theorem aE.mono{f:FuncId}{vs:List V}{vh:VH}{vn:Nat}{Q Q':V->VH->Nat->Prop}(h:aE P X G f vs vh vn Q)(hq:∀v vh' n,Q v vh' n->Q' v vh' n):aE P X G f vs vh vn Q':=⟨fun w hh an us hg hr hd=>let ⟨v,vh',vn',a,h',an',w',q,r⟩:=h.out w hh an us hg hr hd;⟨v,vh',vn',a,h',an',w',hq _ _ _ q,r⟩⟩
end
def PR(P:Program)(fn:Func)(v:aD)(rs:List aJ):Bool:=match fn.body with
 |some c=>eH P fn.ntmps c&&fP P v c&&mM P rs fn.results.toList
 |none=>false
structure aL(P:Program)(f:FuncId)(v:aD)(rs:List aJ):Prop where
 out:∃fn c,P.funcs[f]? =some fn/\fn.body=some c/\eH P fn.ntmps c=true/\fP P v c=true/\mM P rs fn.results.toList=true
theorem aL.of{P:Program}{f:FuncId}{fn:Func}{v:aD}{rs:List aJ}(hf:P.funcs[f]? =some fn)(h:PR P fn v rs=true):aL P f v rs:=by
 unfold PR at h;split at h
 ·rename_i c hc;simp only[Bool.and_eq_true] at h;exact⟨fn,c,hf,hc,h.1.1,h.1.2,h.2⟩
 ·cases h
theorem aL.call{P:Program}{X:Ovr}{G:Gt}{f:FuncId}{v:aD}{rs:List aJ}(F:aL P f v rs)(hX:X f=none){vs:List V}{vh:VH}{vn:Nat}{Q:V->VH->Nat->Prop}(hk:vc P X G v ⟨kU vs 0,vh,vn⟩ (mW G rs Q)):aE P X G f vs vh vn Q:=by obtain⟨fn,c,h1,h2,h3,h4,h5⟩:=F.out;exact .of hX h1 h2 h3 h4 h5 hk
end
section
open Go.Ev
def aM(es by':Nat)(e:TypeId)(x:V)(m:List V)(j:Nat)(env:aH)(vh:VH)(nx:Nat)(k:V->aH->VH->Nat->Prop):Prop:=match x with
 |.nils=>aB (Nat.beq j 0) (k .nils env vh nx) (Owe (room by' j) (k (.msl nx 0 j es none) env (aI vh nx (.cells m e 0 false)) (nx+1)))
 |.sl es' ls (some c)=>bif Nat.beq es es' then aB (Nat.beq j 0) (k (.sl es ls (some c)) env vh nx) (Owe (c<ls.length+j/\room by' (ls.length+j)) (k (.msl nx 0 (ls.length+j) es none) env (aI vh nx (.cells (ls.flatten++m) e 0 false)) (nx+1))) else False
 |.sl es' [] none=>bif Nat.beq es es' then Owe (j=0) (k (.sl es [] none) env vh nx) else False
 |.msl b o n es' c=>bif Nat.beq es es' then aB (Nat.beq j 0) (k (.msl b o n es c) env vh nx) (Get (dJ vh b) fun p=>
   match c with
   |some c=>aB (Nat.ble (n+j) c)
     (Owe (o+(n+j)*es<=p.1.length/\p.2.2.1<=o+n*es) (k (.msl b o (n+j) es (some c)) env (aI vh b (.cells (Ev.setSeg p.1 (o+n*es) m) p.2.1 p.2.2.1 p.2.2.2)) nx))
     (Owe (o+n*es<=p.1.length/\room by' (n+j)) (k (.msl nx 0 (n+j) es none) env (aI vh nx (.cells ((p.1.drop o).take (n*es)++m) e 0 false)) (nx+1)))
   |none=>aB (Nat.ble (n+j) ((p.1.length-o) / es))
     (Owe (o+(n+j)*es<=p.1.length/\p.2.2.1<=o+n*es) (k (.msl b o (n+j) es none) env (aI vh b (.cells (Ev.setSeg p.1 (o+n*es) m) p.2.1 p.2.2.1 p.2.2.2)) nx))
     (Owe (o=0/\n*es<=p.1.length/\p.2.2.1<=n*es/\p.2.1=e/\room by' (n+j)) (k (.msl nx 0 (n+j) es none) env (aI (bX vh b) nx (.cells (p.1.take (n*es)++m) e (Ev.fzOff p.2.2.1 0) p.2.2.2)) (nx+1)))) else False
 |_=>False
def fOp(G:Gt)(call:dD)(o:VOp)(env:aH)(vh:VH)(nx:Nat)(K:V->aH->VH->Nat->Prop):Prop:=match o with
 |.mv x=>rdK G env x fun v=>K v env vh nx
 |.pick c a b=>rdK G env c fun
  |.bool t=>rdK G env a fun va=>rdK G env b fun vb=>G8 t va vb fun v=>K v env vh nx
  |_=>False
 |.allocL z=>K (.bx z) env vh nx
 |.allocH z e=>K (.ptr nx 0) env (aI vh nx (.cells z e 0 false)) (nx+1)
 |.boxL x=>rdC G env x fun v=>eN v.cells fun cs=>K (.bx cs) env vh nx
 |.boxH x e=>rdC G env x fun v=>K (.ptr nx 0) env (aI vh nx (.cells v.cells e 0 false)) (nx+1)
 |.build z ps=>BN G env ps fun vs=>mV z vs fun cs=>K (.agg cs) env vh nx
 |.buildF es n z ps=>tJ G env es ps fun vs=>mV (Ev.reps n z) vs fun cs=>K (.sl es (tH es n cs) (some n)) env vh nx
 |.buildH es n z ps e=>tJ G env es ps fun vs=>mV (Ev.reps n z) vs fun cs=>K (.msl nx 0 n es (some n)) env (aI vh nx (.cells cs e 0 false)) (nx+1)
 |.load x ag n=>rdK G env x fun
  |.lp t o=>(match lk env t with
   |some (.bx l)=>m9 l o ag n fun v=>K v env vh nx
   |_=>False)
  |.fp l o=>m9 l o ag n fun v=>K v env vh nx
  |.ptr b o=>Get (dJ vh b) fun p=>bif ag then Get (fun m=>(p.1.drop o).take n=m/\o+n<=p.1.length) (fun m=>K (.agg m) env vh nx) else Get (fun v=>p.1[o]? =some v) fun v=>K v env vh nx
  |_=>False
 |.store x v n=>rdC G env v fun v=>eN v.cells fun cs=>bif Nat.beq (Ev.len cs) n then rdK G env x (fun
   |.lp t o=>(match lk env t with
    |some (.bx l)=>bif Nat.ble (o+n) (Ev.len l) then eN (Ev.setSeg l o cs) fun m=>K V.undef ((t,.bx m)::env) vh nx else False
    |_=>False)
   |.ptr b o=>Get (dJ vh b) fun p=>Owe (o+n<=p.1.length/\p.2.2.1<=o) (K V.undef env (aI vh b (.cells (Ev.setSeg p.1 o cs) p.2.1 p.2.2.1 p.2.2.2)) nx)
   |_=>False) else False
 |.nilck x=>rdK G env x fun
  |.lp t o=>K (.lp t o) env vh nx
  |.fp l o=>K (.fp l o) env vh nx
  |.ptr b o=>K (.ptr b o) env vh nx
  |.ifc t v=>K (.ifc t v) env vh nx
  |.func g a b=>K (.func g a b) env vh nx
  |_=>False
 |.bin op x y=>rdK G env x fun a=>rdK G env y fun b=>ID op a b fun v=>K v env vh nx
 |.eq kd op x y=>rdK G env x fun a=>rdK G env y fun b=>vEq kd op a b fun v=>K v env vh nx
 |.un op x=>rdK G env x fun a=>vUn op a fun v=>K v env vh nx
 |.cint k x=>rdK G env x fun
  |.int _ n=>K (.int k (Ev.wr k n)) env vh nx
  |_=>False
 |.cstr x=>rdK G env x fun
  |.str l=>K (.str l) env vh nx
  |_=>False
 |.crune x=>rdK G env x fun
  |.int _ n=>K (.str (Ev.encA n)) env vh nx
  |_=>False
 |.cbytes x e=>rdK G env x fun
  |.str l=>K (.msl nx 0 l.length 1 none) env (aI vh nx (.cells (l.map cP) e 0 true)) (nx+1)
  |_=>False
 |.ctext x=>rdK G env x fun
  |.nils=>K (.str []) env vh nx
  |.sl 1 ls _=>Get (fun l:List Nat=>ls=l.map (fun c=>[cP c])/\∀c∈l,c<256) fun l=>K (.str l) env vh nx
  |.msl b o n 1 _=>Get (dJ vh b) fun p=>Get (fun l:List Nat=>(p.1.drop o).take n=l.map cP/\o+n<=p.1.length/\∀c∈l,c<256) fun l=>K (.str l) env vh nx
  |_=>False
 |.mkIfc t x=>rdF G env x fun v=>K (.ifc t v) env vh nx
 |.mkFn g fs cs=>iN G env fs fun fs=>iN G env cs fun cs=>K (.func g fs cs) env vh nx
 |.mkMap=>K (.map nx) env (aI vh nx (.map [])) (nx+1)
 |.mkSl es z e by' l c=>rdK G env l fun
  |.int _ l=>rdK G env c fun
   |.int _ c=>Get (fun i:Nat=>l=(i:Int)) fun i=>Get (fun j:Nat=>c=(j:Int)/\i<=j/\by'*j<=140737488355328/\j<Ev.p63) fun j=>K (.msl nx 0 i es (some j)) env (aI vh nx (.cells (Ev.reps j z) e 0 false)) (nx+1)
   |_=>False
  |_=>False
 |.cutS x lo hi=>rdK G env x fun
  |.str l=>rdO G env 0 lo fun a=>rdO G env l.length hi fun b=>Owe (a<=b/\b<=l.length) (K (.str ((l.drop a).take (b-a))) env vh nx)
  |_=>False
 |.cutL es x lo hi mx=>rdK G env x fun
  |.sl es' ls c=>bif Nat.beq es es' then rdO G env 0 lo fun a=>rdO G env ls.length hi fun b=>(match mx with
   |none=>Owe (a<=b/\b<=ls.length) (K (.sl es ((ls.drop a).take (b-a)) none) env vh nx)
   |some m=>rdO G env 0 (some m) fun m=>(match ls with
    |[]=>Owe (a=0/\b=0/\m=0) (K (.sl es [] none) env vh nx)
    |_::_=>Owe (a<=b/\b<=m/\m<=ls.length) (K (.sl es ((ls.drop a).take (b-a)) (some (m-a))) env vh nx))) else False
  |.msl b o n es' c=>bif Nat.beq es es' then rdO G env 0 lo fun a=>rdO G env n hi fun r=>(match mx with
   |none=>(match c with
    |some c=>Owe (a<=r/\r<=c/\a<c) (K (.msl b (o+a*es) (r-a) es (some (c-a))) env vh nx)
    |none=>Get (dJ vh b) fun p=>Owe (a<=r/\r<=(p.1.length-o) / es/\(a<(p.1.length-o) / es\/a=0)) (K (.msl b (o+a*es) (r-a) es none) env vh nx))
   |some _=>False) else False
  |.nils=>rdO G env 0 lo fun a=>rdO G env 0 hi fun b=>(match mx with
   |none=>Owe (a=0/\b=0) (K .nils env vh nx)
   |some m=>rdO G env 0 (some m) fun m=>Owe (a=0/\b=0/\m=0) (K .nils env vh nx))
  |_=>False
 |.cutA es n x lo hi=>rdK G env x fun
  |.ptr b o=>rdO G env 0 lo fun a=>rdO G env n hi fun r=>Get (dJ vh b) fun p=>Owe (a<=r/\r<=n/\a<n/\o+n*es<=p.1.length) (K (.msl b (o+a*es) (r-a) es (some (n-a))) env vh nx)
  |_=>False
 |.off x n=>rdK G env x fun
  |.lp t o=>K (.lp t (o+n)) env vh nx
  |.fp l o=>K (.fp l (o+n)) env vh nx
  |.ptr b o=>K (.ptr b (o+n)) env vh nx
  |_=>False
 |.fld x ag o n=>rdK G env x fun
  |.agg l=>m9 l o ag n fun v=>K v env vh nx
  |_=>False
 |.idx es x i=>rdK G env i fun
  |.int _ n=>rdK G env x fun
   |.sl es' ls _=>bif Nat.beq es es' then Get (fun p:Nat×List V=>n=(p.1:Int)/\ls[p.1]? =some p.2) (fun p=>K (.fp p.2 0) env vh nx) else False
   |.msl b o m es' _=>bif Nat.beq es es' then Get (fun j:Nat=>n=(j:Int)/\j<m) fun j=>K (.ptr b (o+j*es)) env vh nx else False
   |_=>False
  |_=>False
 |.idxA es m x i=>rdK G env i fun
  |.int _ n=>rdK G env x fun
   |.lp t o=>Get (fun j:Nat=>n=(j:Int)/\j<m) fun j=>K (.lp t (o+j*es)) env vh nx
   |.fp l o=>Get (fun j:Nat=>n=(j:Int)/\j<m) fun j=>K (.fp l (o+j*es)) env vh nx
   |.ptr b o=>Get (fun j:Nat=>n=(j:Int)/\j<m) fun j=>K (.ptr b (o+j*es)) env vh nx
   |_=>False
  |_=>False
 |.at x i=>rdK G env i fun
  |.int _ n=>rdK G env x fun
   |.str l=>Get (fun p:Nat×Nat=>n=(p.1:Int)/\l[p.1]? =some p.2) fun p=>K (.int .u8 (.ofNat p.2)) env vh nx
   |_=>False
  |_=>False
 |.look sh ag z x i ok=>rdK G env i fun ki=>bif cW sh ag ki then rdK G env x (fun
   |.nilm=>K (bif ok then .tup [z,.bool false] else z) env vh nx
   |.map b=>Get (AT vh b) fun es=>Owe (∀p∈es,cW sh ag p.1=true) (Get (fun r=>lF ki es=r) fun
    |some v=>K (bif ok then .tup [v,.bool true] else v) env vh nx
    |none=>K (bif ok then .tup [z,.bool false] else z) env vh nx)
   |_=>False) else False
 |.upd sh ag x i v=>rdK G env i fun ki=>bif cW sh ag ki then rdF G env v (fun v=>rdK G env x fun
   |.map b=>Get (AT vh b) fun es=>Owe (∀p∈es,cW sh ag p.1=true) (K V.undef env (aI vh b (.map (jT ki v es))) nx)
   |_=>False) else False
 |.rng x=>rdK G env x fun
  |.str l=>K (.it l 0) env vh nx
  |_=>False
 |.next x=>rdK G env x fun
  |.lp t 0=>(match lk env t with
   |some (.it r p)=>aB r.isEmpty (K (.tup [.bool false]) env vh nx)
     (K (.tup [.bool true,.int .i64 (.ofNat p),.int .i32 (.ofNat (Ev.decA r).1)]) ((t,.it (r.drop (Ev.decA r).2) (p+(Ev.decA r).2))::env) vh nx)
   |_=>False)
  |_=>False
 |.asrt t z x ok=>rdK G env x fun
  |.ifc u v=>bif Nat.beq u t then K (bif ok then .tup [v,.bool true] else v) env vh nx else (bif ok then K (.tup [z,.bool false]) env vh nx else False)
  |.nili=>bif ok then K (.tup [z,.bool false]) env vh nx else False
  |_=>False
 |.ext x i=>rdK G env x fun
  |.tup l=>(match Ev.nth l i with|some v=>K v env vh nx|none=>False)
  |_=>False
 |.lenS x=>rdK G env x fun
  |.str l=>K (.int .i64 (.ofNat l.length)) env vh nx
  |_=>False
 |.lenL x=>rdK G env x fun
  |.sl _ ls _=>K (.int .i64 (.ofNat ls.length)) env vh nx
  |.nils=>K (.int .i64 0) env vh nx
  |.msl _ _ n _ _=>K (.int .i64 (.ofNat n)) env vh nx
  |_=>False
 |.app es _ by' e x y=>rdK G env x fun x=>rdK G env y fun y=>tV vh es y fun m j=>aM es by' e x m j env vh nx K
 |.copy es x y=>rdK G env x fun vx=>rdK G env y fun vy=>tV vh es vy fun m k=>(match vx with
  |.nils=>K (.int .i64 0) env vh nx
  |.msl b o n es' _=>bif Nat.beq es es' then Get (dJ vh b) fun p=>Owe (o+(bif Nat.ble n k then n else k)*es<=p.1.length/\p.2.2.1<=o) (K (.int .i64 (.ofNat (bif Nat.ble n k then n else k))) env (aI vh b (.cells (Ev.setSeg p.1 o (m.take ((bif Nat.ble n k then n else k)*es))) p.2.1 p.2.2.1 p.2.2.2)) nx) else False
  |_=>False)
 |.mx l=>iN G env l fun
  |.int k a::l=>mxL (fun v=>K v env vh nx) a k l
  |_=>False
 |.mn l=>iN G env l fun
  |.int k a::l=>mnL (fun v=>K v env vh nx) a k l
  |_=>False
 |.data x=>rdK G env x fun
  |.nils=>K .nilp env vh nx
  |.msl b o n _ _=>Owe (0<n) (K (.ptr b o) env vh nx)
  |_=>False
 |.ustr u x n=>rdK G env n fun
  |.int .i64 m=>rdK G env x fun
   |.nilp=>Owe (m=0) (K (.str []) env vh nx)
   |.ptr b o=>Get (fun j:Nat=>m=(j:Int)/\0<j/\j<Ev.p63/\o=0) fun j=>Get (dJ vh b) fun p=>Owe (p.2.1=u/\p.2.2.2=false) (Get (fun l:List Nat=>p.1.take j=l.map cP/\l.length=j/\∀c∈l,c<256) fun l=>K (.str l) env (aI vh b (.cells p.1 p.2.1 (bif Nat.ble p.2.2.1 j then j else p.2.2.1) false)) nx)
   |_=>False
  |_=>False
 |.cap x=>rdK G env x fun
  |.nils=>K (.int .i64 0) env vh nx
  |.sl _ _ (some c)=>K (.int .i64 (.ofNat c)) env vh nx
  |.msl _ _ _ _ (some c)=>K (.int .i64 (.ofNat c)) env vh nx
  |_=>False
 |.uconv x=>rdK G env x fun
  |.ptr b o=>Get (dJ vh b) fun p=>Owe (o<p.1.length) (K (.ptr b o) env vh nx)
  |_=>False
 |.pconv u n x=>rdK G env x fun
  |.ptr b o=>Get (dJ vh b) fun p=>Owe (o=0/\p.2.1=u/\p.2.2.2=false/\n<=p.1.length) (K (.ptr b o) env vh nx)
  |_=>False
 |.bad=>False
 |.call g xs=>iN G env xs fun vs=>call g vs vh nx fun v vh nx=>K v env vh nx
 |.callv x xs=>rdK G env x fun
  |.func g fs cs=>iN G env xs fun vs=>call g (fs++vs++cs) vh nx fun v vh nx=>K v env vh nx
  |_=>False
def fGh(g:Gh)(env:aH)(vh:VH)(nx:Nat)(K:aH->VH->Nat->Prop):Prop:=match g with
 |.keep l=>eN (m7 l env l) fun env=>K env vh nx
 |.fz t=>(match lk env t with
  |some (.bx l)=>K ((t,.fp l 0)::gV t env) vh nx
  |_=>K env vh nx)
 |.fzs t es=>(match lk env t with
  |some .nils=>K ((t,.sl es [] none)::env) vh nx
  |some (.msl b o n es' c)=>bif Nat.beq es es' then Get (dJ vh b) fun p=>Owe (0<es/\o+n*es<=p.1.length/\∀x,c=some x->n<=x) <|Get (fun ls=>oO es n (p.1.drop o) ls) fun ls=>K ((t,.sl es ls none)::env) (bX vh b) nx else False
  |some (.sl es' ls _)=>K ((t,.sl es' ls none)::env) vh nx
  |_=>K env vh nx)
 |.free t=>(match lk env t with
  |some (.ptr b _)=>K env (bX vh b) nx
  |some (.msl b _ _ _ _)=>K env (bX vh b) nx
  |_=>K env vh nx)
 |.fza t o es=>(match lk env t with
  |some (.agg l)=>(match Ev.nth l o with
   |some .nils=>eN (l.set o (.sl es [] none)) fun l=>K ((t,.agg l)::env) vh nx
   |some (.msl b p n es' c)=>bif Nat.beq es es' then Get (dJ vh b) fun q=>Owe (0<es/\p+n*es<=q.1.length/\∀x,c=some x->n<=x) <|Get (fun ls=>oO es n (q.1.drop p) ls) fun ls=>eN (l.set o (.sl es ls none)) fun l=>K ((t,.agg l)::env) (bX vh b) nx else False
   |some (.sl es' ls _)=>eN (l.set o (.sl es' ls none)) fun l=>K ((t,.agg l)::env) vh nx
   |_=>K env vh nx)
  |_=>K env vh nx)
def lD:List Gh->aH->VH->Nat->(aH->VH->Nat->Prop)->Prop
 |[],env,vh,nx,K=>K env vh nx
 |g::gs,env,vh,nx,K=>fGh g env vh nx fun env vh nx=>lD gs env vh nx K
def sT(env:aH)(g:Option (Nat×Bool))(A B:aH->Prop):Prop:=match g with
 |none=>A env
 |some (d,b)=>match lk env d with
  |some (.bool c)=>bif b then aB c (A ((d,.bool true)::env)) (B ((d,.bool false)::env)) else aB c (B ((d,.bool true)::env)) (A ((d,.bool false)::env))
  |some (.tup _)=>B env
  |_=>False
def gW(env:aH)(d:Option Nat)(v:V)(k:aH->Prop):Prop:=match d with
 |none=>k env
 |some d=>match v with
  |.bx l=>eN (gV d env) fun e=>k ((d,.bx l)::e)
  |.it r p=>eN (gV d env) fun e=>k ((d,.it r p)::e)
  |.lp u o=>bif Nat.beq u d then k ((d,.lost)::env) else k ((d,.lp u o)::env)
  |v=>k ((d,v)::env)
def oJ(G:Gt)(call:dD):List bV->aH->VH->Nat->(aH->VH->Nat->Prop)->Prop
 |[],env,vh,nx,K=>K env vh nx
 |o::os,env,vh,nx,K=>lD o.gh env vh nx fun env vh nx=>sT env o.guard (fun env=>fOp G call o.op env vh nx fun v env vh nx=>gW env o.dst v fun env=>oJ G call os env vh nx K) (fun env=>gW env o.dst V.undef fun env=>oJ G call os env vh nx K)
def mT(G:Gt)(call:dD):List bV->Nat->aH->VH->Nat->List Rec->(VH->Nat->List Rec->Prop)->Prop
 |[],_,_,vh,nx,rs,K=>K vh nx rs
 |o::os,i,env,vh,nx,rs,K=>match o.tg with
  |.n _=>mT G call os (i+1) env vh nx rs K
  |.c _=>mT G call os (i+1) env vh nx rs K
  |.e=>sT env o.guard (fun env=>fOp G call o.op env vh nx fun v _ vh nx=>bif V.eqn 8 v then gW env o.dst v fun env'=>mT G call os (i+1) env' vh nx (⟨i,env,o.op,v⟩::rs) K else False) (fun env=>gW env o.dst V.undef fun env=>mT G call os (i+1) env vh nx rs K)
def sR(G:Gt)(call:dD)(rs:List Rec)(vh:VH)(nx:Nat):List Nat->Prop->Prop
 |[],A=>A
 |j::js,A=>match fU j rs with
  |none=>sR G call rs vh nx js A
  |some r=>bif kW G r.env r.op then sR G call rs vh nx js A else Owe (r.v.rigid=true/\fOp G call r.op r.env vh nx fun v _ _ _=>v=r.v) (sR G call rs vh nx js A)
def j9(G:Gt)(call:dD)(rs:List Rec):List bV->Nat->aH->VH->Nat->(aH->VH->Nat->Prop)->Prop
 |[],_,env,vh,nx,K=>K env vh nx
 |o::os,i,env,vh,nx,K=>match o.tg with
  |.e=>(match fU i rs with
   |some r=>gW env o.dst r.v fun env=>j9 G call rs os (i+1) env vh nx K
   |none=>gW env o.dst V.undef fun env=>j9 G call rs os (i+1) env vh nx K)
  |.n ck=>lD o.gh env vh nx fun env vh nx=>sT env o.guard (fun env=>fOp G call o.op env vh nx fun v env vh nx=>sR G call rs vh nx ck (gW env o.dst v fun env=>j9 G call rs os (i+1) env vh nx K)) (fun env=>gW env o.dst V.undef fun env=>j9 G call rs os (i+1) env vh nx K)
  |.c _=>lD o.gh env vh nx fun env vh nx=>sT env o.guard (fun env=>fOp G call o.op env vh nx fun v env vh nx=>bif V.eqn 8 v then gW env o.dst v fun env=>j9 G call rs os (i+1) env vh nx K else False) (fun env=>gW env o.dst V.undef fun env=>j9 G call rs os (i+1) env vh nx K)
def fD(G:Gt)(call:dD)(os:List bV)(env:aH)(vh:VH)(nx:Nat)(K:aH->VH->Nat->Prop):Prop:=vN env (oD os) (eN (oG env) fun env0=>mT G call os 0 env0 vh nx [] fun vh nx rs=>j9 G call rs os 0 env vh nx K)
inductive WI where
 |norm
 |exit (i:Nat)
 |ret
abbrev FQ:=WI->aH->VH->Nat->Prop
def toQ(Q:FQ):VR->Prop
 |.norm s=>Q .norm s.env s.vh s.nx
 |.exit i s=>Q (.exit i) s.env s.vh s.nx
 |.ret s=>Q .ret s.env s.vh s.nx
def qB(Q:FQ)(k:aH->VH->Nat->Prop):FQ:=fun r env vh nx=>match r with
 |.norm=>k env vh nx
 |r=>Q r env vh nx
def AK(id:Nat)(Q:FQ):FQ:=fun r env vh nx=>match r with
 |.exit i=>bif Nat.beq id i then Q .norm env vh nx else Q (.exit i) env vh nx
 |r=>Q r env vh nx
def fC(G:Gt)(call:dD)(loop:aD->aH->VH->Nat->FQ->Prop):aD->aH->VH->Nat->FQ->Prop
 |.skip,env,vh,nx,Q=>Q .norm env vh nx
 |.ret,env,vh,nx,Q=>Q .ret env vh nx
 |.exit i,env,vh,nx,Q=>Q (.exit i) env vh nx
 |.seq a b,env,vh,nx,Q=>fC G call loop a env vh nx (qB Q fun env vh nx=>fC G call loop b env vh nx Q)
 |.cond x a b,env,vh,nx,Q=>rdK G env x fun
  |.bool c=>aB c (fC G call loop a env vh nx Q) (fC G call loop b env vh nx Q)
  |_=>False
 |.block i b,env,vh,nx,Q=>fC G call loop b env vh nx (AK i Q)
 |.loop b,env,vh,nx,Q=>loop (.loop b) env vh nx Q
 |.scope b,env,vh,nx,Q=>fC G call loop b env vh nx Q
 |.cut b,env,vh,nx,Q=>loop (.cut b) env vh nx Q
 |.gsk gh,env,vh,nx,Q=>lD gh env vh nx fun env vh nx=>Q .norm env vh nx
 |.no,_,_,_,_=>False
 |.reg d ops gh,env,vh,nx,Q=>bif Nat.beq d 2 then fD G call ops env vh nx (fun env vh nx=>lD gh env vh nx fun env vh nx=>Q .norm env vh nx) else oJ G call ops env vh nx fun env vh nx=>lD gh env vh nx fun env vh nx=>Q .norm env vh nx
section
variable {P : Program} {X : Ovr} {G : Gt} {call : dD}
def fK(K:V->aH->VH->Nat->Prop):V->St->Prop:=fun v s=>K v s.env s.vh s.nx
def fS(K:aH->VH->Nat->Prop):St->Prop:=fun s=>K s.env s.vh s.nx
theorem wA{o:VOp}{env:aH}{vh:VH}{nx:Nat}{K:V->aH->VH->Nat->Prop}:fOp G call o env vh nx K=bF G call o ⟨env,vh,nx⟩ (fK K):=by cases o<;>try rfl
theorem aC5{g:Gh}{env:aH}{vh:VH}{nx:Nat}{K:aH->VH->Nat->Prop}:fGh g env vh nx K=pE g ⟨env,vh,nx⟩ (fS K):=by cases g<;>rfl
theorem sS:∀{gs:List Gh} {env:aH} {vh:VH} {nx:Nat} {K:aH->VH->Nat->Prop},lD gs env vh nx K=jY gs ⟨env,vh,nx⟩ (fS K)
 |[],_,_,_,_=>rfl
 |g::gs,env,vh,nx,K=>by
  simp only[lD,jY,aC5]
  congr 1
  funext s
  exact sS (gs:=gs)
theorem xE{env:aH}{d:Option Nat}{v:V}{vh:VH}{nx:Nat}{k:aH->VH->Nat->Prop}:gW env d v (fun e=>k e vh nx)=fS k (put ⟨env,vh,nx⟩ d v):=by
 cases d with
 |none=>rfl
 |some d=>
  cases v<;>try rfl
  case lp u o=>simp only[gW,put,jS,fS];cases Nat.beq u d<;>rfl
  case bx l=>simp only[gW,i9];rfl
  case it r p=>simp only[gW,i9];rfl
theorem AM{env:aH}{vh:VH}{nx:Nat}{g:Option (Nat×Bool)}{A B:aH->Prop}{A' B':St->Prop}(ha:∀env,A env=A' ⟨env,vh,nx⟩)(hb:∀env,B env=B' ⟨env,vh,nx⟩):sT env g A B=m5 ⟨env,vh,nx⟩ g A' B':=by
 unfold sT m5;cases g with
 |none=>exact ha env
 |some q=>
  obtain⟨d,b⟩:=q;simp only[ha,hb];cases lk env d with
  |none=>rfl
  |some v=>cases v<;>rfl
theorem FR:∀{os:List bV} {env:aH} {vh:VH} {nx:Nat} {K:aH->VH->Nat->Prop},oJ G call os env vh nx K=hU G call os ⟨env,vh,nx⟩ (fS K)
 |[],_,_,_,_=>rfl
 |o::os,env,vh,nx,K=>by
  simp only[oJ,hU,sS]
  congr 1
  funext s
  obtain⟨env,vh,nx⟩:=s;simp only[fS];refine AM (fun env=>?_) (fun env=>?_)
  ·rw[wA]
   congr 1
   funext v s
   obtain⟨env,vh,nx⟩:=s;simp only[fK];rw[xE (k:=fun env vh nx=>oJ G call os env vh nx K)];simp only[fS];exact FR (os:=os)
  ·rw[xE (k:=fun env vh nx=>oJ G call os env vh nx K)];simp only[fS];exact FR (os:=os)
theorem v8:∀{os:List bV} {i:Nat} {env:aH} {vh:VH} {nx:Nat} {rs:List Rec} {K:VH->Nat->List Rec->Prop},mT G call os i env vh nx rs K=j8 G call os i ⟨env,vh,nx⟩ rs fun s rs=>K s.vh s.nx rs
 |[],_,_,_,_,_,_=>rfl
 |o::os,i,env,vh,nx,rs,K=>by
  simp only[mT,j8];cases o.tg with
  |n ck=>exact v8 (os:=os)
  |c t=>exact v8 (os:=os)
  |e=>
   refine AM (fun env=>?_) (fun env=>?_)
   ·rw[wA]
    congr 1
    funext v s
    obtain⟨env',vh,nx⟩:=s;simp only[fK];cases V.eqn 8 v with
    |false=>rfl
    |true=>simp only[cond_true];rw[xE (k:=fun env2 vh nx=>mT G call os (i+1) env2 vh nx (⟨i,env,o.op,v⟩::rs) K)];simp only[fS];exact v8 (os:=os)
   ·rw[xE (k:=fun env vh nx=>mT G call os (i+1) env vh nx rs K)];simp only[fS];exact v8 (os:=os)
theorem FP{rs:List Rec}{env:aH}{vh:VH}{nx:Nat}:∀{js:List Nat} {A:Prop},sR G call rs vh nx js A=again G call rs ⟨env,vh,nx⟩ js A
 |[],_=>rfl
 |j::js,A=>by
  simp only[sR,again];cases fU j rs with
  |none=>exact FP (js:=js)
  |some r=>have ih:=FP (rs:=rs) (env:=env) (vh:=vh) (nx:=nx) (js:=js) (A:=A);simp only[wA,ih];rfl
theorem PD{rs:List Rec}:∀{os:List bV} {i:Nat} {env:aH} {vh:VH} {nx:Nat} {K:aH->VH->Nat->Prop},j9 G call rs os i env vh nx K=fG G call rs os i ⟨env,vh,nx⟩ (fS K)
 |[],_,_,_,_,_=>rfl
 |o::os,i,env,vh,nx,K=>by
  have hp:∀(env:aH) (v:V) (vh:VH) (nx:Nat),(gW env o.dst v fun env=>j9 G call rs os (i+1) env vh nx K)=fG G call rs os (i+1) (put ⟨env,vh,nx⟩ o.dst v) (fS K):=fun env v vh nx=>by rw[xE (k:=fun env vh nx=>j9 G call rs os (i+1) env vh nx K)];simp only[fS];exact PD (os:=os)
  simp only[j9,fG];cases o.tg with
  |e=>
   simp only;cases fU i rs with
   |none=>exact hp _ _ _ _
   |some r=>exact hp _ _ _ _
  |n ck=>
   simp only[sS]
   congr 1
   funext s
   obtain⟨env,vh,nx⟩:=s;simp only[fS];refine AM (fun env=>?_) (fun env=>?_)
   ·rw[wA]
    congr 1
    funext v s
    obtain⟨env,vh,nx⟩:=s;simp only[fK];rw[FP (env:=env),hp]
   ·exact hp _ _ _ _
  |c t=>
   simp only[sS]
   congr 1
   funext s
   obtain⟨env,vh,nx⟩:=s;simp only[fS];refine AM (fun env=>?_) (fun env=>?_)
   ·rw[wA]
    congr 1
    funext v s
    obtain⟨env,vh,nx⟩:=s;simp only[fK];rw[hp]
   ·exact hp _ _ _ _
theorem aC4{os:List bV}{env:aH}{vh:VH}{nx:Nat}{K:aH->VH->Nat->Prop}:fD G call os env vh nx K=vcD G call os ⟨env,vh,nx⟩ (fS K):=by
 unfold fD vcD;rw[i9,v8]
 congr 2
 funext s rs
 exact PD
theorem TU{Q:FQ}{k:aH->VH->Nat->Prop}:toQ (qB Q k)=BX (toQ Q) (fS k):=by
 funext r
 cases r<;>rfl
theorem aJ3{Q:FQ}{i:Nat}:toQ (AK i Q)=D6 i (toQ Q):=by
 funext r
 cases r<;>try rfl
end
section
variable (P : Program) (X : Ovr) (G : Gt)
structure aC(c:aD)(env:aH)(vh:VH)(nx:Nat)(Q:FQ):Prop where
 out:WpV P X G c ⟨env,vh,nx⟩ (toQ Q)
abbrev fc(v:aD)(env:aH)(vh:VH)(nx:Nat)(Q:FQ):Prop:=fC G (aE P X G) (aC P X G) v env vh nx Q
end
section
variable {P : Program} {X : Ovr} {G : Gt}
theorem mU:∀{v:aD} {env:aH} {vh:VH} {nx:Nat} {Q:FQ},fc P X G v env vh nx Q=vc P X G v ⟨env,vh,nx⟩ (toQ Q)
 |.skip,_,_,_,_=>rfl
 |.ret,_,_,_,_=>rfl
 |.exit i,_,_,_,_=>rfl
 |.seq a b,env,vh,nx,Q=>by
  have h1:=mU (v:=a) (env:=env) (vh:=vh) (nx:=nx) (Q:=qB Q fun env vh nx=>fc P X G b env vh nx Q);rw[TU] at h1;have h2:(fS fun env vh nx=>fc P X G b env vh nx Q)=fun s=>vc P X G b s (toQ Q):=by
   funext s
   exact mU (v:=b)
  rw[h2] at h1;exact h1
 |.cond x a b,env,vh,nx,Q=>by have h1:=mU (v:=a) (env:=env) (vh:=vh) (nx:=nx) (Q:=Q);have h2:=mU (v:=b) (env:=env) (vh:=vh) (nx:=nx) (Q:=Q);show (rdK G env x fun|.bool c=>aB c (fc P X G a env vh nx Q) (fc P X G b env vh nx Q)|_=>False)=_;rw[h1,h2];rfl
 |.block i b,env,vh,nx,Q=>by have h1:=mU (v:=b) (env:=env) (vh:=vh) (nx:=nx) (Q:=AK i Q);rw[aJ3] at h1;exact h1
 |.loop b,_,_,_,_=>propext ⟨fun h=>h.out,fun h=>⟨h⟩⟩
 |.scope b,_,_,_,_=>mU (v:=b)
 |.cut b,_,_,_,_=>propext ⟨fun h=>h.out,fun h=>⟨h⟩⟩
 |.gsk gh,env,vh,nx,Q=>sS
 |.no,_,_,_,_=>rfl
 |.reg d ops gh,env,vh,nx,Q=>by
  have h1:(fS fun env vh nx=>lD gh env vh nx fun env vh nx=>Q .norm env vh nx)=fun s=>jY gh s fun s=>toQ Q (.norm s):=by
   funext s
   exact sS
  show (bif Nat.beq d 2 then fD G (aE P X G) ops env vh nx _ else oJ G (aE P X G) ops env vh nx _)=(bif Nat.beq d 2 then vcD G (aE P X G) ops _ _ else hU G (aE P X G) ops _ _);rw[FR,aC4,h1]
theorem aC.round{b:aD}{env:aH}{vh:VH}{nx:Nat}{Q:FQ}(h:fc P X G b env vh nx (qB Q fun env vh nx=>aC P X G (.loop b) env vh nx Q)):aC P X G (.loop b) env vh nx Q:=by
 refine⟨.round ?_⟩;rw[mU,TU] at h;have:(fS fun env vh nx=>aC P X G (.loop b) env vh nx Q)=fun s=>WpV P X G (.loop b) s (toQ Q):=by
  funext s
  exact propext ⟨fun h=>h.out,fun h=>⟨h⟩⟩
 rw[this] at h;exact h
theorem aC.cut{b:aD}{env:aH}{vh:VH}{nx:Nat}{Q:FQ}(h:fc P X G b env vh nx Q):aC P X G (.cut b) env vh nx Q:=by rw[mU] at h;exact⟨.cut h⟩
def AL(G:Gt)(rs:List aJ)(Q:V->VH->Nat->Prop):FQ:=fun r env vh nx=>match r with
 |.norm=>wB G rs Q ⟨env,vh,nx⟩
 |.ret=>wB G rs Q ⟨env,vh,nx⟩
 |.exit _=>False
theorem aJ4{rs:List aJ}{Q:V->VH->Nat->Prop}:toQ (AL G rs Q)=mW G rs Q:=by
 funext r
 cases r<;>rfl
theorem aL.run{f:FuncId}{v:aD}{rs:List aJ}(F:aL P f v rs)(hX:X f=none){vs:List V}{vh:VH}{vn:Nat}{Q:V->VH->Nat->Prop}(hk:fc P X G v (kU vs 0) vh vn (AL G rs Q)):aE P X G f vs vh vn Q:=by rw[mU,aJ4] at hk;exact F.call hX hk
end
end
end Go.VL
set_option maxRecDepth 100000
set_option linter.unusedVariables false
open Go Go.Ev Go.VL
namespace Go.Proofs.YtjoadepfokpcoaaGreatDoor
instance (n:Nat):OfNat VX n:=⟨.t n⟩
abbrev oA(d:Nat)(op:VOp):bV:=⟨some d,op,none,[],.n []⟩
abbrev oN(op:VOp):bV:=⟨none,op,none,[],.n []⟩
abbrev oT(g d:Nat)(op:VOp):bV:=⟨some d,op,some (g,true),[],.n []⟩
abbrev oF(g d:Nat)(op:VOp):bV:=⟨some d,op,some (g,false),[],.n []⟩
abbrev mA(d s:Nat):bV:=⟨some d,.mv (.t s),none,[],.n []⟩
abbrev cI(n:Int):VX:=.c (.int .i64 n)
abbrev cU(n:Int):VX:=.c (.int .u64 n)
abbrev cB(b:Bool):VX:=.c (.bool b)
abbrev kp(l:List Nat):List Gh:=[.keep l]
abbrev CJ:FuncId:=6
abbrev x9:FuncId:=11
abbrev xX:FuncId:=12
abbrev U0:FuncId:=13
abbrev uF:FuncId:=14
abbrev uG:FuncId:=15
abbrev U9:FuncId:=16
abbrev UZ:FuncId:=17
abbrev uD:FuncId:=18
abbrev uE:FuncId:=19
abbrev U8:FuncId:=20
abbrev CI:FuncId:=21
abbrev uP:FuncId:=23
abbrev yW:FuncId:=24
abbrev yA:FuncId:=25
abbrev yV:FuncId:=26
abbrev uR:FuncId:=27
abbrev uO:FuncId:=28
abbrev pJ:FuncId:=31
abbrev yG:FuncId:=34
abbrev yH:FuncId:=36
abbrev qZ:FuncId:=37
abbrev VE:FuncId:=38
abbrev pK:FuncId:=45
abbrev uH:FuncId:=46
abbrev pL:FuncId:=47
abbrev pM:FuncId:=48
abbrev uQ:FuncId:=49
abbrev zC:FuncId:=50
abbrev xY:FuncId:=51
abbrev yD:FuncId:=52
abbrev uC:FuncId:=53
abbrev zG:FuncId:=54
abbrev uM:FuncId:=55
abbrev u4:FuncId:=56
abbrev nS:FuncId:=57
abbrev yF:FuncId:=58
abbrev yE:FuncId:=59
abbrev yJ:FuncId:=60
abbrev uJ:FuncId:=61
abbrev xZ:FuncId:=62
abbrev l5:FuncId:=63
abbrev yI:FuncId:=64
abbrev zI:FuncId:=65
abbrev xW:FuncId:=69
abbrev zH:FuncId:=70
abbrev q9:FuncId:=71
abbrev j2:FuncId:=72
abbrev pI:FuncId:=75
abbrev yR:FuncId:=77
abbrev uT:FuncId:=79
abbrev uU:FuncId:=80
abbrev yS:FuncId:=81
abbrev uB:FuncId:=82
abbrev xU:FuncId:=85
abbrev j0:FuncId:=87
abbrev kS:FuncId:=88
abbrev kT:FuncId:=89
abbrev iQ:FuncId:=95
abbrev nT:FuncId:=96
abbrev yO:FuncId:=97
abbrev yP:FuncId:=98
abbrev zF:FuncId:=99
abbrev zD:FuncId:=100
abbrev zE:FuncId:=101
abbrev pQ:FuncId:=102
abbrev yX:FuncId:=103
abbrev u5:FuncId:=104
abbrev yC:FuncId:=105
abbrev qV:FuncId:=106
abbrev qW:FuncId:=107
abbrev uI:FuncId:=108
abbrev y9:FuncId:=109
abbrev yL:FuncId:=110
abbrev uK:FuncId:=111
abbrev yM:FuncId:=112
abbrev jE:FuncId:=113
abbrev xV:FuncId:=115
abbrev yT:FuncId:=121
abbrev uV:FuncId:=122
abbrev qU:FuncId:=123
abbrev qY:FuncId:=124
abbrev qX:FuncId:=125
abbrev rA:FuncId:=132
abbrev rD:FuncId:=133
abbrev nU:FuncId:=134
abbrev uN:FuncId:=135
abbrev uS:FuncId:=136
abbrev u7:FuncId:=137
abbrev pR:FuncId:=138
abbrev y8:FuncId:=139
abbrev zB:FuncId:=140
abbrev zA:FuncId:=141
abbrev u9:FuncId:=142
abbrev uY:FuncId:=143
abbrev rF:FuncId:=144
abbrev rH:FuncId:=145
abbrev uZ:FuncId:=146
abbrev u6:FuncId:=147
abbrev x6:FuncId:=148
abbrev yB:FuncId:=149
abbrev x8:FuncId:=150
abbrev yY:FuncId:=151
abbrev uL:FuncId:=152
abbrev yN:FuncId:=153
abbrev yK:FuncId:=154
abbrev rE:FuncId:=159
abbrev uX:FuncId:=160
abbrev pP:FuncId:=161
abbrev uW:FuncId:=162
abbrev yQ:FuncId:=175
abbrev rB:FuncId:=176
abbrev jF:FuncId:=177
abbrev pN:FuncId:=178
abbrev l6:FuncId:=179
abbrev q8:FuncId:=180
abbrev rG:FuncId:=189
abbrev I2:FuncId:=190
abbrev x0:FuncId:=191
abbrev yU:FuncId:=192
abbrev yZ:FuncId:=193
abbrev b6:FuncId:=206
abbrev rC:FuncId:=207
abbrev x7:FuncId:=214
abbrev VD:FuncId:=215
abbrev VA:FuncId:=216
abbrev VC:FuncId:=217
abbrev I3:FuncId:=218
abbrev pO:FuncId:=226
abbrev l7:FuncId:=247
abbrev j1:FuncId:=248
abbrev jG:Nat:=0
abbrev cS:TypeId:=35
abbrev KN:TypeId:=62
abbrev jI:TypeId:=48
abbrev b9:TypeId:=3
abbrev iS:TypeId:=9
abbrev r5:TypeId:=73
abbrev mB:TypeId:=29
abbrev iR:TypeId:=116
abbrev pV:TypeId:=33
abbrev mC:TypeId:=127
abbrev DJ:TypeId:=94
abbrev KK:TypeId:=22
abbrev fB:TypeId:=4
abbrev KO:TypeId:=102
abbrev DI:TypeId:=92
abbrev gB:TypeId:=20
abbrev XT:TypeId:=137
abbrev XU:TypeId:=109
abbrev XV:TypeId:=148
abbrev mD:TypeId:=5
abbrev vG:TypeId:=146
abbrev vH:TypeId:=155
abbrev KM:TypeId:=170
abbrev r6:TypeId:=89
abbrev XR:TypeId:=172
abbrev KL:TypeId:=207
abbrev XQ:TypeId:=171
abbrev XO:TypeId:=224
def S_a:List Nat:=[97]
def S_b:List Nat:=[98]
def S_c:List Nat:=[99]
def S_r:List Nat:=[114]
def S_u:List Nat:=[117]
def S_v:List Nat:=[118]
def S_w:List Nat:=[119]
def S_p:List Nat:=[112]
def S_q:List Nat:=[113]
def S_x:List Nat:=[120]
def rS:List Nat:=[32,121,10]
def rV:List Nat:=[60,38,62,34]
def rP:List Nat:=[13,9]
def rQ:List Nat:=[195,169,93,93,62]
def rY:List Nat:=[116,101,120,116]
def rR:List Nat:=[32,45,32]
def rU:List Nat:=[60,38,62]
def rX:List Nat:=[112,105]
def S_d:List Nat:=[100]
def rZ:List Nat:=[97,32,63,32,62]
def bH:List Nat:=[120,109,108,110,115]
def fJ:List Nat:=[104,116,116,112,58,47,47,119,119,119,46,119,51,46,111,114,103,47,50,48,48,48,47,120,109,108,110,115,47]
def S_1:List Nat:=[49]
def zN:List Nat:=[32,10,9]
def zP:List Nat:=[60,34,38,62]
def iC:List Nat:=[13]
def S_2:List Nat:=[50]
def dQ:List Nat:=[120,109,108]
def DF:List Nat:=[105,100]
def S_i:List Nat:=[105]
def nX:List Nat:=[104,116,116,112,58,47,47,119,119,119,46,119,51,46,111,114,103,47,88,77,76,47,49,57,57,56,47,110,97,109,101,115,112,97,99,101]
def nW:List Nat:=[58]
def KD:List Nat:=[115,108,105,99,101,115,46,77,97,120,58,32,101,109,112,116,121,32,108,105,115,116]
def rT:List Nat:=[45,45]
def rW:List Nat:=[63,62]
def zO:List Nat:=[45]
def KE:List Nat:=[115,116,114,105,110,103,115,58,32,74,111,105,110,32,111,117,116,112,117,116,32,108,101,110,103,116,104,32,111,118,101,114,102,108,111,119]
def jH:List Nat:=[0,1,2,2,3,3,3,3,4,4,4,4,4,4,4,4,5,5,5,5,5,5,5,5,5,5,5,5,5,5,5,5,6,6,6,6,6,6,6,6,6,6,6,6,6,6,6,6,6,6,6,6,6,6,6,6,6,6,6,6,6,6,6,6,7,7,7,7,7,7,7,7,7,7,7,7,7,7,7,7,7,7,7,7,7,7,7,7,7,7,7,7,7,7,7,7,7,7,7,7,7,7,7,7,7,7,7,7,7,7,7,7,7,7,7,7,7,7,7,7,7,7,7,7,7,7,7,7,8,8,8,8,8,8,8,8,8,8,8,8,8,8,8,8,8,8,8,8,8,8,8,8,8,8,8,8,8,8,8,8,8,8,8,8,8,8,8,8,8,8,8,8,8,8,8,8,8,8,8,8,8,8,8,8,8,8,8,8,8,8,8,8,8,8,8,8,8,8,8,8,8,8,8,8,8,8,8,8,8,8,8,8,8,8,8,8,8,8,8,8,8,8,8,8,8,8,8,8,8,8,8,8,8,8,8,8,8,8,8,8,8,8,8,8,8,8,8,8,8,8,8,8,8,8,8,8]
def XD:List Nat:=[115,116,114,105,110,103,115,46,66,117,105,108,100,101,114,46,71,114,111,119,58,32,110,101,103,97,116,105,118,101,32,99,111,117,110,116]
def zL:List Nat:=[48,49,50,51,52,53,54,55,56,57,97,98,99,100,101,102,103,104,105,106,107,108,109,110,111,112,113,114,115,116,117,118,119,120,121,122]
def WN:List Nat:=[48,48,48,49,48,50,48,51,48,52,48,53,48,54,48,55,48,56,48,57,49,48,49,49,49,50,49,51,49,52,49,53,49,54,49,55,49,56,49,57,50,48,50,49,50,50,50,51,50,52,50,53,50,54,50,55,50,56,50,57,51,48,51,49,51,50,51,51,51,52,51,53,51,54,51,55,51,56,51,57,52,48,52,49,52,50,52,51,52,52,52,53,52,54,52,55,52,56,52,57,53,48,53,49,53,50,53,51,53,52,53,53,53,54,53,55,53,56,53,57,54,48,54,49,54,50,54,51,54,52,54,53,54,54,54,55,54,56,54,57,55,48,55,49,55,50,55,51,55,52,55,53,55,54,55,55,55,56,55,57,56,48,56,49,56,50,56,51,56,52,56,53,56,54,56,55,56,56,56,57,57,48,57,49,57,50,57,51,57,52,57,53,57,54,57,55,57,56,57,57]
end Go.Proofs.YtjoadepfokpcoaaGreatDoor
set_option maxRecDepth 100000
set_option linter.unusedVariables false
open Go Go.Ev Go.VL
