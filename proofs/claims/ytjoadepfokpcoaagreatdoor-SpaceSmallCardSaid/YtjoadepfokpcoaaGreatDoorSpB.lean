/- What SpaceSmall rests on; no condition. -/
import Derived.LoopN
import Derived.Scope
import Derived.Laws.Sem
import Derived.Lib.Bytealg
import Derived.Lib.Index
import Derived.Shelf.Strings.Search2
import Derived.Below
import Derived.ShapedOpen
import Derived.ChangeSame
import Derived.RowKit
import Derived.OpenShut
import Derived.Lib.MakeNoZero
import Derived.Laws.Externs
import Derived.Test.YtjoadepfokpcoaaGreatDoorChecked
import Derived.KernelRfl
import Derived.Test.YtjoadepfokpcoaaGreatDoorSpA
set_option linter.unusedSimpArgs false
set_option linter.unusedVariables false
set_option linter.constructorNameAsVariable false
set_option linter.unnecessarySimpa false
namespace Go.Ev
section
variable {P : Program}
def Sub(h g:H):Prop:=∀i A,h.get i=some A->g.get i=some A
theorem RH.sub{σ:Map}{h g:H}{w:World}(r:RH σ g w)(s:Sub h g):RH σ h w:=⟨fun i A hi=>r.blk i A (s i A hi),fun i j A B L M hi hj=>r.inj i j A B L M (s i A hi) (s j B hj),r.old⟩
theorem Ext.frame{N:Nat->Prop}{σ τ:Map}{h h' g g':H}{w w':World}(e:Ext N σ h w τ h' w')(hsub:Sub h g)(rg:RH σ g w)
  (hg':∀i A,g'.get i=some A->h'.get i=some A\/(h.get i=none/\g.get i=some A))
  (hk1:∀i A,h'.get i=some A->A.ro=true->g'.get i=some A) (hk2:∀i A,h.get i=none->g.get i=some A->A.ro=true->g'.get i=some A):Ext N σ g w τ g' w':=by
 have heap:∀i A,h.get i=none->g.get i=some A->∀L,σ i=some L->w'.heap[L.b]? =w.heap[L.b]?:=by intro i A hn hi L hL;refine e.unch L.b (rg.old i L hL) fun j B M hj hM hb=>?_;have:=rg.inj j i B A M L (hsub j B hj) hi hM hL hb;subst this;rw[hn] at hj;cases hj
 refine⟨e.le,⟨fun i A hi=>?_,fun i j A B L M hi hj hL hM hb=>?_,e.rh.old⟩,e.size,fun B hB hno=>e.unch B hB fun i A L hi hL=>hno i A L (hsub i A hi) hL,fun i L hL=>?_,fun i A L hi hL=>?_,e.rest,fun i A L hi hA hL=>?_⟩
 rotate_right
 ·cases hh:h.get i with
  |none=>exact⟨heap i A hh hi L hL,hk2 i A hh hi hA⟩
  |some B=>have:=hsub i B hh;rw[hi] at this;cases this;obtain⟨k1,k2⟩:=e.keep i A L hh hA hL;exact⟨k1,hk1 i A k2 hA⟩
 ·rcases hg' i A hi with h1|⟨h1,h2⟩
  ·exact e.rh.blk i A h1
  ·obtain⟨L,k1,k2⟩:=rg.blk i A h2;exact⟨L,e.le i L k1,k2.mono e.le (heap i A h1 h2 L k1)⟩
 ·have mixed:∀i j A B L M,h'.get i=some A->h.get j=none->g.get j=some B->τ i=some L->τ j=some M->L.b=M.b->i=j:=by
   intro i j A B L M hi hn hj hL hM hb;obtain⟨M',k1,_⟩:=rg.blk j B hj;have:M'=M:=by have:=e.le j M' k1;rw[hM] at this;exact (Option.some.inj this).symm
   subst this;rcases e.loc i L hL with k2|⟨_,k2|⟨k,C,K,k3,k4,k5⟩⟩
   ·obtain⟨A0,hA0⟩:=e.live i A L hi k2;exact rg.inj i j A0 B L M' (hsub i A0 hA0) hj k2 k1 hb
   ·have:=rg.old j M' k1;omega
   ·have:=rg.inj k j C B K M' (hsub k C k3) hj k4 k1 (k5.trans hb);subst this;rw[hn] at k3;cases k3
  rcases hg' i A hi with h1|⟨h1,h2⟩<;>rcases hg' j B hj with h3|⟨h3,h4⟩
  ·exact e.rh.inj i j A B L M h1 h3 hL hM hb
  ·exact mixed i j A B L M h1 h3 h4 hL hM hb
  ·exact (mixed j i B A M L h3 h1 h2 hM hL hb.symm).symm
  ·obtain⟨L',k1,_⟩:=rg.blk i A h2;obtain⟨M',k2,_⟩:=rg.blk j B h4;have e1:L'=L:=by have:=e.le i L' k1;rw[hL] at this;exact (Option.some.inj this).symm
   have e2:M'=M:=by have:=e.le j M' k2;rw[hM] at this;exact (Option.some.inj this).symm
   subst e1;subst e2;exact rg.inj i j A B L' M' h2 h4 k1 k2 hb
 ·rcases e.loc i L hL with h1|⟨n,h1|⟨j,A,M,h2,h3⟩⟩
  ·exact .inl h1
  ·exact .inr ⟨n,.inl h1⟩
  ·exact .inr ⟨n,.inr ⟨j,A,M,hsub j A h2,h3⟩⟩
 ·rcases hg' i A hi with h1|⟨_,h2⟩
  ·obtain⟨A0,hA0⟩:=e.live i A L h1 hL;exact⟨A0,hsub i A0 hA0⟩
  ·exact⟨A,h2⟩
theorem Ext.sub{N:Nat->Prop}{σ τ:Map}{h h' g':H}{w w':World}(e:Ext N σ h w τ h' w')(rh:RH σ h w)(s:Sub g' h')(hk:∀i A,h'.get i=some A->A.ro=true->g'.get i=some A):Ext N σ h w τ g' w':=e.frame (fun _ _ h=>h) rh (fun i A hi=>.inl (s i A hi)) hk fun i A h1 h2 _=>by rw[h1] at h2;cases h2
theorem vR{op:Op}(hc:bP op=.p)(env:Env)(h h':H)(i j:Nat):opA P op env h i=opA P op env h' j:=by cases op<;>simp only[bP,reduceCtorEq] at hc<;>first|rfl|(split at hc<;>cases hc)|(generalize Nat.beq _ _=t at hc;cases t<;>cases hc)
theorem QK{h g:H}(s:Sub h g){b o n:Nat}{l:List AV}(hl:fF h b o n=some l):fF g b o n=some l:=by
 unfold fF at hl ⊢;split at hl
 ·rename_i l' e fz raw hb;rw[s _ _ hb];exact hl
 ·cases hl
theorem NT{h g:H}(s:Sub h g){b o k:Nat}{cap:Option Nat}{c:Nat}(hl:eF h b o k cap=some c):eF g b o k cap=some c:=by
 unfold eF at hl ⊢;split at hl
 ·exact hl
 ·split at hl
  ·rename_i l' e fz raw hb;rw[s _ _ hb];exact hl
  ·cases hl
theorem aFA{h g:H}(s:Sub h g){t:TypeId}{a v:AV}(hl:ld P h t a=some v):ld P g t a=some v:=by
 unfold ld at hl ⊢;split at hl
 ·rename_i b o;split at hl
  ·split at hl
   ·split at hl
    ·rename_i l hc;simp only[QK s hc];exact hl
    ·cases hl
   ·cases hl
  ·split at hl
   ·rename_i l e fz raw hb;rw[s _ _ hb];exact hl
   ·cases hl
  ·cases hl
 ·cases hl
theorem TF{h g:H}(s:Sub h g){b o n k:Nat}{cap:Option Nat}{lo hi:Option AV}{v:AV}(hl:gL h b o n k cap lo hi=.val v):gL g b o n k cap lo hi=.val v:=by
 unfold gL at hl ⊢;split at hl
 ·rename_i cl l r hc hl' hr;rw[NT s hc];simp only[hl',hr];exact hl
 ·cases hl
theorem aJE{h g:H}(s:Sub h g){b o n k:Nat}{cap:Option Nat}{lo:Option AV}{hi mx v:AV}(hl:lT h b o n k cap lo hi mx=.val v):lT g b o n k cap lo hi mx=.val v:=by
 unfold lT at hl ⊢;split at hl
 ·rename_i cl l r m hc hl' hr hm;rw[NT s hc];simp only[hl',hr,hm];exact hl
 ·cases hl
theorem aJG{h g:H}(s:Sub h g){t:TypeId}{x:AV}{lo hi mx:Option AV}{v:AV}(hl:eM P t x lo hi mx h=.val v):eM P t x lo hi mx g=.val v:=by
 unfold eM at hl ⊢;split at hl
 ·rename_i hu;exact hl
 ·rename_i hu;exact hl
 ·rename_i hu;exact hl
 ·rename_i e b o n k cap hu;split at hl
  ·rename_i s' hs;cases hb:Nat.beq k s' with
   |false=>simp only[hb,cond_false] at hl;cases hl
   |true=>
    simp only[hb,cond_true] at hl ⊢;split at hl
    ·exact TF s hl
    ·exact aJE s hl
    ·cases hl
  ·cases hl
 ·rename_i n e b o hu;split at hl
  ·rename_i k l e' fz raw hs hb;rw[s _ _ hb];cases hc:(Nat.blt 0 k&&Nat.ble (o+n*k) (len l)) with
   |false=>simp only[hc,cond_false] at hl;cases hl
   |true=>
    simp only[hc,cond_true] at hl;split at hl
    ·simp only[hs,hc,cond_true];exact TF s hl
    ·cases hl
  ·cases hl
 ·cases hl
theorem aFO{h g:H}(s:Sub h g){t:TypeId}{x i:AV}{ok:Bool}{v:AV}(hl:kD P t x i ok h=.val v):kD P t x i ok g=.val v:=by
 unfold kD at hl ⊢;split at hl
 ·rename_i kt et hu;cases hk:dU P 10 kt i with
  |false=>simp only[hk,cond_false] at hl;cases hl
  |true=>
   simp only[hk,cond_true] at hl ⊢;cases x<;>simp only at hl ⊢<;>try exact hl
   rename_i b;cases hb:h.get b with
   |none=>rw[hb] at hl;simp only at hl;cases hl
   |some B=>rw[s _ _ hb];rw[hb] at hl;exact hl
 ·cases hl
theorem aFD{h g:H}(s:Sub h g){t:TypeId}{x v:AV}(hl:iL P t x h=.val v):iL P t x g=.val v:=by
 unfold iL at hl ⊢;cases hu:P.underlying t with
 |none=>rw[hu] at hl;cases hl
 |some u=>
  rw[hu] at hl;cases u<;>simp only at hl ⊢<;>try exact hl
  cases x<;>simp only at hl ⊢<;>try exact hl
  rename_i b;cases hb:h.get b with
  |none=>rw[hb] at hl;cases hl
  |some B=>rw[s _ _ hb];rw[hb] at hl;exact hl
theorem aBd{h g:H}(s:Sub h g){a b:TypeId}{x v:AV}{i j:Nat}(hl:dY P a b x h i=.val v):dY P a b x g j=.val v:=by
 unfold dY at hl ⊢;split at hl
 ·rename_i hu;exact hl
 ·rename_i hu;exact hl
 ·rename_i hu;exact hl
 ·rename_i hu;exact hl
 ·rename_i hu;exact hl
 ·rename_i b' o n k cap hu;split at hl
  ·rename_i e hs;split at hl
   ·rename_i l he hc;rw[QK s hc];simp only[he];exact hl
   ·cases hl
  ·cases hl
 ·rename_i hu;split at hl
  ·cases hl
  ·cases hl
 ·split at hl
  ·rename_i hs hb;rw[s _ _ hb,hs];exact hl
  ·cases hl
 ·split at hl
  ·rename_i hs hb;rw[s _ _ hb,hs];exact hl
  ·cases hl
 ·split at hl
  ·cases hl
  ·cases hl
 ·cases hl
theorem vS{op:Op}(hc:bP op=.r\/bP op=.f){env:Env}{h g:H}(s:Sub h g){i:Nat}(j:Nat){v:AV}(hv:opA P op env h i=.val v):opA P op env g j=.val v:=by
 cases op<;>simp only[bP,reduceCtorEq,or_false,false_or,or_self] at hc<;>simp only[opA] at hv ⊢
 case alloc e=>
  split at hv
  ·unfold fH at hv;split at hv<;>cases hv
  ·cases hv
 case box e x=>unfold fH at hv;split at hv<;>cases hv
 case buildSlice t n ps=>
  exfalso;unfold j5 at hv;split at hv
  ·split at hv
   ·split at hv
    ·rename_i s' z hs hz zc hzc;generalize (_&&_)=bb at hv;cases bb with
     |false=>cases hv
     |true=>simp only[cond_true] at hv;split at hv<;>cases hv
    ·cases hv
   ·cases hv
  ·cases hv
 case load t a=>
  cases hl:ld P h t (rd env a) with
  |none=>rw[hl] at hv;cases hv
  |some u=>rw[aFA s hl];rw[hl] at hv;exact hv
 case convert a b x=>exact aBd s hv
 case makeMap t r=>split at hv<;>cases hv
 case makeSlice t l c=>
  exfalso;unfold lK at hv;split at hv
  ·split at hv
   ·split at hv
    ·rename_i l' c' e hu s' b' z hs hb hz zc hzc _;generalize (Nat.blt 0 _&&Nat.beq (len _) _&&Nat.ble _ _&&Nat.ble (_*_) 140737488355328&&Nat.blt _ p63)=bb at hv;cases bb<;>cases hv
    ·cases hv
   ·cases hv
  ·cases hv
 case slice t x lo hi mx=>exact aJG s hv
 case lookup t x i' ok=>exact aFO s hv
 case range t x=>unfold nH at hv;split at hv<;>cases hv
 case call c=>
  unfold cT at hv ⊢;cases hcal:c.callee with
  |builtin b=>
   rw[hcal] at hv hc;simp only at hv hc ⊢;cases b<;>simp only[reduceCtorEq,or_false,false_or,or_self] at hc
   case len=>
    cases hl:List.map (rd env) c.args.toList with
    |nil=>rw[hl] at hv;exact hv
    |cons x l=>
     rw[hl] at hv;simp only[dR] at hv ⊢;split at hv
     ·exact aFD s hv
     ·cases hv
   all_goals
    cases hl:List.map (rd env) c.args.toList with
    |nil=>rw[hl] at hv;exact hv
    |cons x l=>rw[hl] at hv;cases l<;>exact hv
  |_=>rw[hcal] at hc;simp at hc
theorem Q4{e:TypeId}{x:AV}{i:Nat}{v:AV}{h1:H}(hv:fH P e x .e i=.new v h1):∃blk,h1.get i=some blk/\∀h,fH P e x h i=.new v (h.set i blk):=by
 unfold fH at hv;split at hv
 ·rename_i cs hc;cases hv;exact⟨.cells cs e 0 false,by simp[Tr.get_set],fun h=>by simp[fH,hc]⟩
 ·cases hv
theorem aB9{op:Op}(hc:bP op=.f){env:Env}{i:Nat}{v:AV}{h1:H}{blk:AB}(hv:opA P op env .e i=.new v h1)(hb:h1.get i=some blk)(h:H):opA P op env h i=.new v (h.set i blk):=by
 have fin:∀{B:AB},h1=(Tr.e:H).set i B->B=blk:=fun {B} e=>by subst e;simp[Tr.get_set] at hb;exact hb
 cases op<;>simp only[bP,reduceCtorEq] at hc<;>simp only[opA] at hv ⊢
 case alloc e=>
  split at hv
  ·rename_i z hz;obtain⟨B,k1,k2⟩:=Q4 hv;rw[hb] at k1;cases k1;exact k2 h
  ·cases hv
 case box e x=>obtain⟨B,k1,k2⟩:=Q4 hv;rw[hb] at k1;cases k1;exact k2 h
 case buildSlice t n ps=>
  unfold j5 at hv ⊢;split at hv
  ·rename_i e hu;split at hv
   ·rename_i s' z hs hz;split at hv
    ·rename_i zc hzc;cases hbb:(Nat.blt 0 s'&&Nat.ble (n*s') 16777216&&Nat.beq (len zc) s') with
     |false=>rw[hbb] at hv;cases hv
     |true=>
      rw[hbb] at hv;simp only[cond_true] at hv ⊢;split at hv
      ·rename_i cs hcs;cases hv;rw[fin rfl]
      ·cases hv
    ·cases hv
   ·cases hv
  ·cases hv
 case convert a b x=>
  unfold dY at hv ⊢;split at hv
  ·split at hv<;>cases hv
  ·split at hv<;>cases hv
  ·split at hv<;>cases hv
  ·split at hv
   ·split at hv<;>cases hv
   ·cases hv
  ·split at hv
   ·split at hv<;>cases hv
   ·cases hv
  ·exfalso;split at hv
   ·split at hv
    ·rename_i hl;simp[fF,Tr.get_e] at hl
    ·cases hv
   ·cases hv
  ·rename_i e l hu;split at hv
   ·cases hv;rw[fin rfl]
   ·cases hv
  ·exfalso;split at hv
   ·rename_i hb;simp[Tr.get_e] at hb
   ·cases hv
  ·exfalso;split at hv
   ·rename_i hb;simp[Tr.get_e] at hb
   ·cases hv
  ·exfalso;split at hv
   ·cases hv
   ·cases hv
  ·cases hv
 case makeMap t r=>
  split at hv
  ·cases hv;rw[fin rfl]
  ·cases hv
 case makeSlice t l c=>
  unfold lK at hv ⊢;split at hv
  ·rename_i k l' k' c' e hl hc' hu;split at hv
   ·rename_i s' b' z hs hby hz;split at hv
    ·rename_i zc hzc;generalize (Nat.blt 0 s'&&Nat.beq (len zc) s'&&Nat.ble l' c'&&Nat.ble (b'*c') 140737488355328&&Nat.blt c' p63)=bb at hv ⊢;cases bb with
     |false=>cases hv
     |true=>simp only[cond_true] at hv ⊢;cases hv;rw[fin rfl]
    ·cases hv
   ·cases hv
  ·cases hv
 case range t x=>
  unfold nH at hv ⊢;split at hv
  ·rename_i l hu;cases hv;rw[fin rfl]
  ·cases hv
 case call c=>split at hc<;>cases hc
theorem FI:∀(n:Nat) (a b:AV),iH n a b=true->a=b
 |0,a,b,h=>by simp[iH] at h
 |n+1,a,b,h=>by
  have lst:∀(l m:List AV),(bif Nat.beq (len l) (len m) then (l.zip m).all fun p=>iH n p.1 p.2 else false)=true->l=m:=by
   intro l m hl;rw[bJ,aT,aT] at hl;by_cases e:l.length=m.length
   ·simp only[e,decide_true,cond_true] at hl
    induction l generalizing m with
    |nil=>cases m with|nil=>rfl|cons _ _=>simp at e
    |cons a l ih=>
     cases m with
     |nil=>simp at e
     |cons b m=>
      simp only[List.zip_cons_cons,List.all_cons,Bool.and_eq_true] at hl;have em:l.length=m.length:=by simpa using e
      rw[FI n a b hl.1,ih m em hl.2]
   ·simp[e] at hl
  unfold iH at h;simp only at h;split at h
  case h_1=>simp at h;rw[h]
  case h_2=>rw[jM] at h;simp only[Bool.and_eq_true,decide_eq_true_eq] at h;rw[(qG _ _).1 h.1,h.2]
  case h_3=>rw[iX] at h;simp at h;rw[h]
  case h_4=>rfl
  case h_5=>simp only[bJ,Bool.and_eq_true,decide_eq_true_eq] at h;rw[h.1,h.2]
  case h_6=>rfl
  case h_7=>rfl
  case h_8 c b j m t d=>
   simp only[bJ,Bool.and_eq_true,decide_eq_true_eq] at h;obtain⟨⟨⟨⟨h1,h2⟩,h3⟩,h4⟩,h5⟩:=h;rw[h1,h2,h3,h4]
   congr 1
   split at h5
   ·rfl
   ·simp at h5;rw[h5]
   ·cases h5
  case h_9=>rfl
  case h_10=>simp only[bJ,decide_eq_true_eq] at h;rw[h]
  case h_11=>rfl
  case h_12=>rfl
  case h_13=>simp only[bJ,Bool.and_eq_true,decide_eq_true_eq] at h;rw[h.1,FI n _ _ h.2]
  case h_14=>rw[lst _ _ h]
  case h_15=>rw[lst _ _ h]
  case h_16=>cases h
theorem NV{op:Op}{env:Env}{v:AV}{h:H}(hc:chk P op env v h=true):opA P op env h 0=.val v:=by
 unfold chk at hc;split at hc
 ·rename_i v' hv;rw[hv,FI 10 v v' hc]
 ·cases hc
end
section
variable {P : Program}
theorem G2{cal:dH}(hcal:kP P cal){σ:Map}{env:Env}{h:H}{nx:Nat}{a:Act}{w:World}(rh:RH σ h w)(bd:Bd σ nx)(gl:f0 P σ){o:Oper}
  (hx:∀x∈o.op.operands,RV σ (rd env x) (a.eval x)) {nid:Nat} (hn:σ nid=none)
  {Q:Exit->Act->World->Prop} {K:Act->World->Prop}
  (hval:∀v,opA P o.op env h nid=.val v->∀u,RV σ v u->K (a.put o.dst u) w)
  (hupd:∀v h',opA P o.op env h nid=.upd v h'->∀u w',RV σ v u->Ext (fun _=>False) σ h w σ h' w'->K (a.put o.dst u) w')
  (hnew:∀v h',opA P o.op env h nid=.new v h'->∀u w' σ',RV σ' v u->Ext (·=nid) σ h w σ' h' w'->K (a.put o.dst u) w')
  (hcl:∀f args,opA P o.op env h nid=.call f args->∃v h' nx',cal f args h nx=.ok v h' nx'/\∀u w' σ',RV σ' v u->Ext (Rg nx nx') σ h w σ' h' w'->nx<=nx'->K (a.put o.dst u) w')
  (hbad:opA P o.op env h nid≠.bad):o.wp P a w K Q:=by
 have hop:=RR (P:=P) rh hn o hx;unfold Oper.wp;cases hr:opA P o.op env h nid with
 |val v=>rw[hr] at hop;obtain⟨u,h1,h2⟩:=hop;rw[h1];exact hval v hr u h2
 |upd v h'=>
  rw[hr] at hop;obtain⟨m,u,w',h1,h2,h3,h4⟩:=hop;rw[h1];rcases h2 with rfl|⟨rfl,rfl⟩
  ·exact hupd v h' hr u w' h3 h4
  ·exact hupd v h' hr undef w' h3 h4
 |new v h'=>rw[hr] at hop;obtain⟨u,w',σ',h1,h2,h3⟩:=hop;rw[h1];exact hnew v h' hr u w' σ' h2 h3
 |call f args=>
  rw[hr] at hop;obtain⟨vs,h1,h2⟩:=hop;obtain⟨v,h',nx',h3,h4⟩:=hcl f args hr;rw[h2];rcases hcal f args h nx v h' nx' h3 σ w vs rh bd gl h1 with⟨h5,h6⟩|⟨u,w',h5,σ',h6,h7,h8⟩
  ·rw[h5];refine h6.mono ?_;rintro e w' ⟨u,rfl,σ',h7,h8,h9⟩;exact h4 u w' σ' h9 h7 h8
  ·rw[h5];exact h4 u w' σ' h8 h6 h7
 |bad=>exact absurd hr hbad
section
variable {base ab : Nat} {sel : Nat → Bool} {b : H}
theorem qA:∀{fs:List (Nat×AB)} {k:Nat} {A:AB},(aY base ab sel b fs).get k=some A->
  (∃f,(f,A)∈fs/\Nat.testBit ab f=false/\sel f=true/\k=base+f)\/(b.get k=some A/\∀f B,(f,B)∈fs->Nat.testBit ab f=false->sel f=true->k≠base+f)
 |[],k,A,h=>.inr ⟨h,fun _ _ hm=>by cases hm⟩
 |(g,B)::fs,k,A,h=>by
  unfold aY at h;have rest:(aY base ab sel b fs).get k=some A->(Nat.testBit ab g=false->sel g=true->k≠base+g)->(∃f,(f,A)∈(g,B)::fs/\Nat.testBit ab f=false/\sel f=true/\k=base+f)\/(b.get k=some A/\∀f C,(f,C)∈(g,B)::fs->Nat.testBit ab f=false->sel f=true->k≠base+f):=by
   intro h hne;rcases qA h with⟨f,h1,h2⟩|⟨h1,h2⟩
   ·exact .inl ⟨f,.tail _ h1,h2⟩
   ·refine .inr ⟨h1,fun f C hm hl hs=>?_⟩;rcases List.mem_cons.1 hm with e|hm
    ·cases e;exact hne hl hs
    ·exact h2 f C hm hl hs
  by_cases c:Nat.testBit ab g=false/\sel g=true
  ·rw[c.1,c.2] at h;simp only[Bool.not_false,Bool.and_self,cond_true] at h;rw[Tr.get_set] at h;by_cases e:k=base+g
   ·simp only[e,if_true,Option.some.injEq] at h;exact .inl ⟨g,by rw[h];exact .head _,c.1,c.2,e⟩
   ·simp only[e,if_false] at h;exact rest h fun _ _=>e
  ·have:(!Nat.testBit ab g&&sel g)=false:=by
    cases hs:sel g with
    |false=>simp
    |true=>simp[hs] at c;simpa using c
   rw[this,cond_false] at h;exact rest h fun h1 h2=>absurd ⟨h1,h2⟩ c
theorem sQ:∀{fs:List (Nat×AB)} {k:Nat},(∀f B,(f,B)∈fs->Nat.testBit ab f=false->sel f=true->k≠base+f)->(aY base ab sel b fs).get k=b.get k
 |[],k,_=>rfl
 |(g,B)::fs,k,h=>by
  unfold aY;have ih:=sQ (fs:=fs) (k:=k) fun f C hm=>h f C (.tail _ hm);cases hc:(!Nat.testBit ab g&&sel g) with
  |false=>simpa using ih
  |true=>simp only[Bool.and_eq_true,Bool.not_eq_true'] at hc;rw[cond_true,Tr.get_set,if_neg (h g B (.head _) hc.1 hc.2),ih]
theorem oI:∀{fs:List (Nat×AB)},fs.Pairwise (fun x y=>y.1<x.1)->∀{f:Nat} {A:AB},(f,A)∈fs->Nat.testBit ab f=false->sel f=true->(aY base ab sel b fs).get (base+f)=some A
 |(g,B)::fs,hp,f,A,hm,hl,hs=>by
  unfold aY;rw[List.pairwise_cons] at hp;rcases List.mem_cons.1 hm with e|hm
  ·cases e;simp only[hl,hs,Bool.not_false,Bool.and_self,cond_true,Tr.get_set,if_true]
  ·have ih:=oI hp.2 hm hl hs;have:=hp.1 _ hm;cases (!Nat.testBit ab g&&sel g) with
   |false=>exact ih
   |true=>rw[cond_true,Tr.get_set,if_neg (by omega),ih]
theorem aCZ{fs gs:List (Nat×AB)}{sel':Nat->Bool}(hp:gs.Pairwise (fun x y=>y.1<x.1))(hm:∀f A,(f,A)∈fs->Nat.testBit ab f=false->sel f=true->(f,A)∈gs/\sel' f=true)
  (hn:∀f A,(f,A)∈gs->Nat.testBit ab f=false->b.get (base+f)=none):Sub (aY base ab sel b fs) (aY base ab sel' b gs):=by
 intro k A hk;rcases qA hk with⟨f,h1,h2,h3,rfl⟩|⟨h1,h2⟩
 ·obtain⟨h4,h5⟩:=hm f A h1 h2 h3;exact oI hp h4 h2 h5
 ·rw[sQ,h1];intro f B hf hl hs e;rw[e,hn f B hf hl] at h1;cases h1
end
inductive Wr(cal:dH)(h0:H)(nx0:Nat):NX->AV->H->Nat->Prop where
 |val (v:AV):Wr cal h0 nx0 (.val v) v h0 nx0
 |upd (v:AV) (h:H):Wr cal h0 nx0 (.upd v h) v h nx0
 |new (v:AV) (h:H):Wr cal h0 nx0 (.new v h) v h nx0
 |call (f:FuncId) (args:List AV) (v:AV) (h:H) (nx:Nat) (hc:cal f args h0 nx0=.ok v h nx):Wr cal h0 nx0 (.call f args) v h nx
inductive j3(P:Program)(cal:dH)(ops:Array Oper)(base:Nat)(o:Oper)(m:Nat)(s:bU):bU->Prop where
 |skip (hw:dO ops s.env o.guard=some false):j3 P cal ops base o m s {s with i:=s.i+1,env:=aW s.env o.dst dV}
 |pure (v:AV) (hw:dO ops s.env o.guard=some true) (hc:bP o.op=.p) (hv:opA P o.op s.env .e 0=.val v):j3 P cal ops base o m s {s with i:=s.i+1,env:=aW s.env o.dst v}
 |read (v:AV) (hw:dO ops s.env o.guard=some true) (hc:bP o.op=.r\/bP o.op=.f) (hv:opA P o.op s.env (aY base s.pr.ab (Nat.testBit m) s.pr.b s.fs) 0=.val v)
   (hb:kX P base m s.fs o.op s.env v s.pr.lo s.old=true):j3 P cal ops base o m s {s with i:=s.i+1,env:=aW s.env o.dst v,rs:=⟨s.i,o.op,s.env,v⟩::s.rs}
 |fresh (v:AV) (h1:H) (blk:AB) (hw:dO ops s.env o.guard=some true) (hc:bP o.op=.f) (hv:opA P o.op s.env .e (base+s.i)=.new v h1) (hb:h1.get (base+s.i)=some blk):
   j3 P cal ops base o m s {s with i:=s.i+1,env:=aW s.env o.dst v,fs:=(s.i,blk)::s.fs}
 |write (v:AV) (h:H) (nx:Nat) (hw:dO ops s.env o.guard=some true) (h1:∀p∈s.pr::s.old,p.lo=0\/Nat.testBit m (p.lo-1)=true)
   (hv:Wr cal (aY base s.pr.ab (Nat.testBit m) s.pr.b s.fs) s.pr.nx (opA P o.op s.env (aY base s.pr.ab (Nat.testBit m) s.pr.b s.fs) (base+s.i)) v h nx)
   (h3:∀r∈s.rs,Nat.testBit m r.i=true\/chk P r.op r.env r.v h=true):
   j3 P cal ops base o m s {i:=s.i+1,env:=aW s.env o.dst v,fs:=s.fs,pr:=⟨s.i+1,Nat.lor (Nat.lor s.pr.ab m) (Nat.pow 2 s.i),h,nx⟩,old:=s.pr::s.old,rs:=s.rs}
theorem aJS{cal:dH}{ops:Array Oper}{base:Nat}{o:Oper}{m:Nat}{s s':bU}(hs:eO P cal ops base o m s=some s'):j3 P cal ops base o m s s':=by
 have hread:dO ops s.env o.guard=some true->(bP o.op=.r\/bP o.op=.f)->nJ P base o m s=some s'->j3 P cal ops base o m s s':=by
  intro hw hc hr;unfold nJ at hr;split at hr
  ·rename_i v hv;cases hb:kX P base m s.fs o.op s.env v s.pr.lo s.old with
   |false=>rw[hb] at hr;cases hr
   |true=>rw[hb] at hr;cases hr;exact .read v hw hc hv hb
  ·cases hr
 unfold eO at hs;split at hs
 ·rename_i hw;split at hs
  ·rename_i hc;split at hs
   ·rename_i v hv;cases hs;exact .pure v hw hc hv
   ·cases hs
  ·rename_i hc;exact hread hw (.inl hc) hs
  ·rename_i hc;split at hs
   ·rename_i v h hv;split at hs
    ·rename_i blk hb;cases hs;exact .fresh v h blk hw hc hv hb
    ·cases hs
   ·exact hread hw (.inr hc) hs
  ·rename_i hc;unfold IN at hs;generalize hg:((s.pr::s.old).all (fun p=>Nat.beq p.lo 0||Nat.testBit m (p.lo-1)))=g at hs;cases g with
   |false=>cases hs
   |true=>
    rw[cond_true] at hs;simp only[List.all_eq_true,Bool.or_eq_true,bJ,decide_eq_true_eq] at hg;have fin:∀{v h nx},jB P o m s v h nx=some s'->Wr cal (aY base s.pr.ab (Nat.testBit m) s.pr.b s.fs) s.pr.nx (opA P o.op s.env (aY base s.pr.ab (Nat.testBit m) s.pr.b s.fs) (base+s.i)) v h nx->j3 P cal ops base o m s s':=by
     intro v h nx hd hv;unfold jB at hd;generalize hr:(s.rs.all (fun r=>Nat.testBit m r.i||chk P r.op r.env r.v h))=r at hd;cases r with
     |false=>cases hd
     |true=>cases hd;simp only[List.all_eq_true,Bool.or_eq_true] at hr;exact .write v h nx hw hg hv hr
    split at hs
    ·rename_i v hv;exact fin hs (by rw[hv];exact .val v)
    ·rename_i v h hv;exact fin hs (by rw[hv];exact .upd v h)
    ·rename_i v h hv;exact fin hs (by rw[hv];exact .new v h)
    ·rename_i f args hv;split at hs
     ·rename_i v h nx hc;exact fin hs (by rw[hv];exact .call f args v h nx hc)
     ·cases hs
    ·cases hs
 ·rename_i hw;cases hs;exact .skip hw
 ·cases hs
theorem O6{cal:dH}{ops:Array Oper}{base:Nat}:∀(os:List Oper) (ms:List Nat) (s:bU),gU P cal ops base os ms s≠.bad->
  ∃S:Nat->bU,S 0=s/\(∀i o,os[i]? =some o->∃m,ms[i]? =some m/\j3 P cal ops base o m (S i) (S (i+1)))/\
   gU P cal ops base os ms s=.norm (S os.length).env (aY base (S os.length).pr.ab (fun _=>true) (S os.length).pr.b (S os.length).fs) (S os.length).pr.nx
 |[],ms,s,_=>⟨fun _=>s,rfl,fun i o h=>by simp at h,by cases ms<;>rfl⟩
 |o::os,[],s,h=>absurd rfl h
 |o::os,m::ms,s,h=>by
  unfold gU at h ⊢;split at h
  ·rename_i s' hs;obtain⟨S,h1,h2,h3⟩:=O6 os ms s' h;refine⟨fun|0=>s|k+1=>S k,rfl,fun i o' ho=>?_,h3⟩;cases i with
   |zero=>cases ho;exact⟨m,rfl,by simp only;rw[h1];exact aJS hs⟩
   |succ k=>exact h2 k o' ho
  ·exact absurd rfl h
theorem GN{acc:List Nat}:∀{es:List Edge} {j:Nat},Nat.testBit (nA acc es) j=true->∃e∈es,Region.binds .any e=true/\(j=e.on\/∃m,acc[e.on]? =some m/\Nat.testBit m j=true)
 |[],j,h=>by simp[nA] at h
 |e::es,j,h=>by
  unfold nA at h;cases hb:Region.binds .any e with
  |false=>rw[hb,cond_false] at h;obtain⟨e',h1,h2⟩:=GN h;exact⟨e',.tail _ h1,h2⟩
  |true=>
   rw[hb,cond_true,eW] at h;change Nat.testBit ((2^e.on|||_)|||_) j=true at h;rw[Nat.testBit_or,Nat.testBit_or,Bool.or_eq_true,Bool.or_eq_true] at h;rcases h with (h|h)|h
   ·rw[Nat.testBit_two_pow] at h;exact⟨e,.head _,hb,.inl (by simpa[eq_comm] using h)⟩
   ·refine⟨e,.head _,hb,.inr ?_⟩;split at h
    ·rename_i m hm;exact⟨m,hm,h⟩
    ·simp at h
   ·obtain⟨e',h1,h2⟩:=GN h;exact⟨e',.tail _ h1,h2⟩
theorem GO:∀(os:List Oper) (acc:List Nat) (k:Nat),k<acc.length->(dX os acc)[k]? =acc[k]?
 |[],acc,k,_=>rfl
 |o::os,acc,k,h=>by unfold dX;rw[GO os _ k (by rw[dE];simp;omega),dE,List.getElem?_append_left h]
theorem QT:∀(os:List Oper) (acc:List Nat) (i:Nat) (o:Oper),os[i]? =some o->
  ∃m,(dX os acc)[acc.length+i]? =some m/\∀j,Nat.testBit m j=true->∃e∈o.after.toList,Region.binds .any e=true/\(j=e.on\/∃m',e.on<acc.length+i/\(dX os acc)[e.on]? =some m'/\Nat.testBit m' j=true)
 |[],acc,i,o,h=>by cases h
 |o'::os,acc,0,o,h=>by
  cases h;unfold dX;refine⟨nA acc o'.after.toList,?_,fun j hj=>?_⟩
  ·rw[GO _ _ _ (by rw[dE];simp),dE,Nat.add_zero,List.getElem?_append_right (Nat.le_refl _)]
   simp
  ·obtain⟨e,h1,h2,h3|⟨m,h3,h4⟩⟩:=GN hj
   ·exact⟨e,h1,h2,.inl h3⟩
   ·have hlt:e.on<acc.length:=(List.getElem?_eq_some_iff.1 h3).1;refine⟨e,h1,h2,.inr ⟨m,by omega,?_,h4⟩⟩
    rw[GO _ _ _ (by rw[dE];simp;omega),dE,List.getElem?_append_left hlt,h3]
 |o'::os,acc,i+1,o,h=>by
  unfold dX;obtain⟨m,h1,h2⟩:=QT os (app acc [nA acc o'.after.toList]) i o h;have hl:(app acc [nA acc o'.after.toList]).length=acc.length+1:=by rw[dE];simp
  rw[hl] at h1 h2;have e1:acc.length+(i+1)=acc.length+1+i:=by omega
  rw[e1];exact⟨m,h1,h2⟩
end
section
variable {P : Program}
structure Way(P:Program)(cal:dH)(ops:Array Oper)(base:Nat)(env0:Env)(h0:H)(S:Nat->bU):Prop where
 s0:S 0=⟨0,env0,[],⟨0,0,h0,base+ops.size⟩,[],[]⟩
 st:∀i o,ops[i]? =some o->∃m,(dX ops.toList [])[i]? =some m/\j3 P cal ops base o m (S i) (S (i+1))
section
variable {cal : dH} {ops : Array Oper} {base : Nat} {env0 : Env} {h0 : H} {S : Nat → bU}
theorem Way.step(W:Way P cal ops base env0 h0 S){i:Nat}(hi:i<ops.size):∃o m,ops[i]? =some o/\(dX ops.toList [])[i]? =some m/\j3 P cal ops base o m (S i) (S (i+1)):=by have ho:ops[i]? =some ops[i]:=Array.getElem?_eq_getElem hi;obtain⟨m,h1,h2⟩:=W.st i _ ho;exact⟨_,m,ho,h1,h2⟩
def IsW(S:Nat->bU)(j:Nat):Prop:=(S (j+1)).pr.lo=j+1
structure WG(S:Nat->bU)(i:Nat):Prop where
 ix:(S i).i=i
 lo:(S i).pr.lo<=i
 fs:(S i).fs.Pairwise (fun x y=>y.1<x.1)
 fl:∀f A,(f,A)∈(S i).fs->f<i
theorem Way.plain(W:Way P cal ops base env0 h0 S):∀i,i<=ops.size->WG S i
 |0,_=>by constructor<;>rw[W.s0]<;>simp
 |i+1,hi=>by
  have p:=W.plain i (by omega)
  obtain⟨o,m,_,_,k⟩:=W.step (i:=i) (by omega)
  generalize hs:S (i+1)=s' at k;have hi:=p.ix;have hl:=p.lo;cases k
  case fresh v h1 blk _ _ _ _=>
   constructor<;>rw[hs]<;>simp only
   ·omega
   ·omega
   ·rw[List.pairwise_cons];exact⟨fun x hx=>by have:=p.fl x.1 x.2 hx;omega,p.fs⟩
   ·intro f A hm;rcases List.mem_cons.1 hm with e|hm
    ·cases e;omega
    ·have:=p.fl f A hm;omega
  all_goals
   constructor<;>rw[hs]<;>simp only
   ·omega
   ·omega
   ·exact p.fs
   ·exact fun f A hm=>by have:=p.fl f A hm;omega
theorem Way.w_or(W:Way P cal ops base env0 h0 S){i:Nat}(hi:i<ops.size):
  (IsW S i/\(S (i+1)).old=(S i).pr::(S i).old/\(S (i+1)).fs=(S i).fs/\(S (i+1)).rs=(S i).rs)\/
  (¬IsW S i/\(S (i+1)).pr=(S i).pr/\(S (i+1)).old=(S i).old):=by
 have p:=W.plain i (by omega)
 obtain⟨o,m,_,_,k⟩:=W.step (i:=i) (by omega)
 have hlo:=p.lo;have hI:=p.ix;unfold IsW;generalize S (i+1)=s' at k;cases k
 case write=>exact .inl ⟨by simp only;omega,rfl,rfl,rfl⟩
 all_goals exact .inr ⟨by simp only;omega,rfl,rfl⟩
theorem Way.pr_same(W:Way P cal ops base env0 h0 S){q:Nat}:∀i,q<=i->i<=ops.size->(∀j,q<=j->j<i->¬IsW S j)->(S i).pr=(S q).pr/\(S i).old=(S q).old
 |0,hq,_,_=>by
           have:q=0:=by omega
           subst this;exact⟨rfl,rfl⟩
 |i+1,hq,hi,hn=>by
  by_cases e:q=i+1
  ·subst e;exact⟨rfl,rfl⟩
  ·rcases W.w_or (i:=i) (by omega) with⟨h,_⟩|⟨_,h1,h2⟩
   ·exact absurd h (hn i (by omega) (by omega))
   ·obtain⟨h3,h4⟩:=W.pr_same i (by omega) (by omega) fun j h1 h2=>hn j h1 (by omega)
    exact⟨h1.trans h3,h2.trans h4⟩
theorem Way.last(W:Way P cal ops base env0 h0 S):∀i,i<=ops.size->(S i).pr=(S (S i).pr.lo).pr/\(S i).old=(S (S i).pr.lo).old/\((S i).pr.lo=0\/(0<(S i).pr.lo/\IsW S ((S i).pr.lo-1)))/\(∀j,(S i).pr.lo<=j->j<i->¬IsW S j)
 |0,_=>by
  have:(S 0).pr.lo=0:=by rw[W.s0]
  rw[this];exact⟨rfl,rfl,.inl rfl,fun j _ h=>by omega⟩
 |i+1,hi=>by
  rcases W.w_or (i:=i) (by omega) with⟨h,h2,_⟩|⟨hn,h1,h2⟩
  ·have hl:(S (i+1)).pr.lo=i+1:=h;rw[hl];exact⟨rfl,rfl,.inr ⟨by omega,h⟩,fun j h1 h2=>by omega⟩
  ·obtain⟨k1,k2,k3,k4⟩:=W.last i (by omega)
   rw[h1,h2];refine⟨k1,k2,k3,fun j hj hj'=>?_⟩;by_cases e:j=i
   ·subst e;exact hn
   ·exact k4 j hj (by omega)
theorem Way.lo_mono(W:Way P cal ops base env0 h0 S){i:Nat}:∀j,i<=j->j<=ops.size->(S i).pr.lo<=(S j).pr.lo
 |0,h,_=>by
         have:i=0:=by omega
         subst this;exact Nat.le_refl _
 |j+1,h,hj=>by
  by_cases e:i=j+1
  ·subst e;exact Nat.le_refl _
  ·have ih:=W.lo_mono (i:=i) j (by omega) (by omega)
   have:=(W.plain j (by omega)).lo
   rcases W.w_or (i:=j) (by omega) with⟨h,_⟩|⟨_,h1,_⟩
   ·unfold IsW at h;omega
   ·rw[h1];exact ih
theorem Way.all_w(W:Way P cal ops base env0 h0 S):∀i,i<=ops.size->∀j,j<i->IsW S j->∃p∈(S i).pr::(S i).old,p.lo=j+1
 |0,_,j,h,_=>by omega
 |i+1,hi,j,hj,hw=>by
  rcases W.w_or (i:=i) (by omega) with⟨h,h2,_⟩|⟨hn,h1,h2⟩
  ·by_cases e:j=i
   ·subst e;exact⟨_,.head _,h⟩
   ·obtain⟨p,h3,h4⟩:=W.all_w i (by omega) j (by omega) hw
    exact⟨p,by rw[h2];exact .tail _ h3,h4⟩
  ·by_cases e:j=i
   ·subst e;exact absurd hw hn
   ·rw[h1,h2];exact W.all_w i (by omega) j (by omega) hw
theorem Way.fs_fwd(W:Way P cal ops base env0 h0 S){i:Nat}{x:Nat×AB}:∀j,i<=j->j<=ops.size->x∈(S i).fs->x∈(S j).fs
 |0,h,_,hx=>by
           have:i=0:=by omega
           subst this;exact hx
 |j+1,h,hj,hx=>by
  by_cases e:i=j+1
  ·subst e;exact hx
  ·have ih:=W.fs_fwd j (by omega) (by omega) hx
   obtain⟨o,m,_,_,k⟩:=W.step (i:=j) (by omega)
   generalize S (j+1)=s' at k;cases k
   case fresh=>exact .tail _ ih
   all_goals exact ih
theorem Way.fs_back(W:Way P cal ops base env0 h0 S){i:Nat}{x:Nat×AB}(hlt:x.1<i):∀j,i<=j->j<=ops.size->x∈(S j).fs->x∈(S i).fs
 |0,h,_,hx=>by
           have:i=0:=by omega
           subst this;exact hx
 |j+1,h,hj,hx=>by
  by_cases e:i=j+1
  ·subst e;exact hx
  ·have p:=(W.plain j (by omega)).ix
   refine W.fs_back hlt j (by omega) (by omega) ?_
   obtain⟨o,m,_,_,k⟩:=W.step (i:=j) (by omega)
   generalize S (j+1)=s' at k hx;cases k
   case fresh=>
    rcases List.mem_cons.1 hx with e|h
    ·subst e;simp only at hlt;omega
    ·exact h
   all_goals exact hx
theorem Way.rs_fwd(W:Way P cal ops base env0 h0 S){i:Nat}{r:RD}:∀j,i<=j->j<=ops.size->r∈(S i).rs->r∈(S j).rs
 |0,h,_,hx=>by
           have:i=0:=by omega
           subst this;exact hx
 |j+1,h,hj,hx=>by
  by_cases e:i=j+1
  ·subst e;exact hx
  ·have ih:=W.rs_fwd j (by omega) (by omega) hx
   obtain⟨o,m,_,_,k⟩:=W.step (i:=j) (by omega)
   generalize S (j+1)=s' at k;cases k
   case read=>exact .tail _ ih
   all_goals exact ih
theorem BH{env:Env}{d:Option Tmp}{v:AV}{t:Nat}:(aW env d v).get t=if d=some t then some v else env.get t:=by
 cases d with
 |none=>simp[aW]
 |some d=>simp only[aW,Tr.get_set,Option.some.injEq,eq_comm (a:=t)]
theorem Way.put(W:Way P cal ops base env0 h0 S){i:Nat}{o:Oper}(ho:ops[i]? =some o):∃v,(S (i+1)).env=aW (S i).env o.dst v:=by
 obtain⟨m,_,k⟩:=W.st i o ho;generalize S (i+1)=s' at k;cases k
 all_goals exact⟨_,rfl⟩
theorem Way.env_old(W:Way P cal ops base env0 h0 S){t:Nat}{k:Nat}:∀i,k<=i->i<=ops.size->(∀j o,k<=j->j<i->ops[j]? =some o->o.dst≠some t)->(S i).env.get t=(S k).env.get t
 |0,hk,_,_=>by
           have:k=0:=by omega
           subst this;rfl
 |i+1,hk,hi,hn=>by
  by_cases e:k=i+1
  ·subst e;rfl
  ·have ho:ops[i]? =some ops[i]:=Array.getElem?_eq_getElem (by omega)
   obtain⟨v,hv⟩:=W.put ho;rw[hv,BH,if_neg (hn i _ (by omega) (by omega) ho)]
   exact W.env_old i (by omega) (by omega) fun j o h1 h2=>hn j o h1 (by omega)
theorem Way.back(W:Way P cal ops base env0 h0 S){m q:Nat}{fs:List (Nat×AB)}{op:Op}{env:Env}{v:AV}(hq:(S q).pr.lo=q)(hm:∀j,q<=j->j<ops.size->IsW S j->Nat.testBit m j=false):∀i,q<=i->i<=ops.size->q<(S i).pr.lo->
  kX P base m fs op env v (S i).pr.lo (S i).old=true->chk P op env v (aY base (S q).pr.ab (Nat.testBit m) (S q).pr.b fs)=true
 |0,h,_,hl,_=>by
  have:q=0:=by omega
  subst this;omega
 |i+1,h,hi,hl,hc=>by
  rcases W.w_or (i:=i) (by omega) with⟨hw,h2,_⟩|⟨hn,h1,h2⟩
  ·have hlo:(S (i+1)).pr.lo=i+1:=hw;rw[hlo,h2] at hc;rw[hlo] at hl;unfold kX at hc;rw[Nat.add_sub_cancel,hm i (by omega) (by omega) hw,Bool.false_or,Bool.and_eq_true] at hc
   have hmono:=W.lo_mono (i:=q) i (by omega) (by omega)
   rw[hq] at hmono;by_cases e:q=(S i).pr.lo
   ·have hl:=(W.last i (by omega)).1
    rw[<-e] at hl hc;rw[hl] at hc;exact hc.1
   ·exact W.back hq hm i (by omega) (by omega) (by omega) hc.2
  ·have hmono:=W.lo_mono (i:=q) i (by have:=(W.plain i (by omega)).lo;rw[h1] at hl;omega) (by omega)
   rw[h1,h2] at hc;rw[h1] at hl;exact W.back hq hm i (by have:=(W.plain i (by omega)).lo;omega) (by omega) hl hc
end
theorem vV{ops:Array Oper}(h:iV ops=true):
  (∀i o,ops[i]? =some o->∀e∈o.after,Region.binds .any e=true->e.on<i)/\
  (∀i o i' o' d,ops[i]? =some o->ops[i']? =some o'->i≠i'->o.dst=some d->o'.dst≠some d/\
   (d∈qL ops o'->∃m m',(dX ops.toList [])[i]? =some m/\(dX ops.toList [])[i']? =some m'/\(if i<i' then Nat.testBit m' i=true else Nat.testBit m i'=true))):=by
 unfold iV at h;simp only[List.all_eq_true,Bool.and_eq_true] at h;have mem:∀{i o},ops[i]? =some o->(o,i)∈ops.toList.zipIdx:=fun {i o} ho=>by rw[List.mk_mem_zipIdx_iff_getElem?];simpa using ho
 constructor
 ·intro i o ho e he hb;have:=(h (o,i) (mem ho)).1 e (Array.mem_toList_iff.2 he);simpa[hb,bO] using this
 ·intro i o i' o' d ho ho' hne hd;have:=(h (o,i) (mem ho)).2 (o',i') (mem ho');simp only[K4,bJ,hne,decide_false,Bool.false_or,hd,Bool.and_eq_true,Bool.or_eq_true,List.all_eq_true,eW] at this;refine⟨fun e=>?_,fun hl=>?_⟩
  ·have:=this.1;rw[e] at this;simp[bJ] at this
  ·rcases this.2 with h1|h1
   ·have:=h1 d hl;simp[bJ] at this
   ·split at h1
    ·rename_i m m' hm hm';refine⟨m,m',hm,hm',?_⟩;rw[bO] at h1;by_cases c:i<i'
     ·rw[if_pos c];simpa[c] using h1
     ·rw[if_neg c];simpa[c] using h1
    ·cases h1
theorem T8{ops:Array Oper}{env env':Env}{o:Oper}(h:∀t∈qL ops o,env.get t=env'.get t):dO ops env o.guard=dO ops env' o.guard:=by
 unfold dO;cases hg:o.guard with
 |none=>rfl
 |some p=>
  obtain⟨j,want⟩:=p;simp only;cases hj:ops[j]? with
  |none=>rfl
  |some oj=>
   simp only;cases hd:oj.dst with
   |none=>rfl
   |some d=>simp only;rw[h d (List.mem_append_right _ (by simp[hg,hj,hd]))]
theorem ST{ops:Array Oper}{env env':Env}{o:Oper}(h:∀t∈qL ops o,env.get t=env'.get t):∀x∈o.op.operands,rd env x=rd env' x:=by
 intro x hx;cases x with
 |tmp t=>simp only[rd];rw[h t (List.mem_append_left _ (List.mem_filterMap.2 ⟨.tmp t,Array.mem_toList_iff.2 hx,rfl⟩))]
 |const v=>rfl
 |global g=>rfl
 |func f=>rfl
end
section
variable {P : Program}
structure Inv(P:Program)(ops:Array Oper)(base N:Nat)(env0:Env)(h0:H)(S:Nat->bU)(σ0:Map)(w0:World)(D:Nat->Bool)(q:Nat)(σ:Map)(env:Env)(a:Act)(w:World):Prop where
 en:∀j o t,ops[j]? =some o->o.dst=some t->D j=true->env.get t=(S ops.size).env.get t
 e0:∀t,(∀j o,ops[j]? =some o->o.dst=some t->D j=false)->env.get t=env0.get t
 st:St P N σ env (aY base (S q).pr.ab D (S q).pr.b (S ops.size).fs) (S q).pr.nx a w
 qn:q<=ops.size
 ql:(S q).pr.lo=q
 qw:∀j,j<ops.size->IsW S j->(D j=true↔j<q)
 ext:Ext (Rg base (S q).pr.nx) σ0 h0 w0 σ (aY base (S q).pr.ab D (S q).pr.b (S ops.size).fs) w
 nx:base+ops.size<=(S q).pr.nx
 fr:∀i,i<ops.size->D i=false->σ (base+i)=none
 bn:∀f,f<ops.size->Nat.testBit (S q).pr.ab f=false->(S q).pr.b.get (base+f)=none
 ab:∀f,Nat.testBit (S q).pr.ab f=true->D f=true
 cl:∀i m,D i=true->(dX ops.toList [])[i]? =some m->∀j,Nat.testBit m j=true->D j=true
section
variable {cal : dH} {ops : Array Oper} {base N : Nat} {env0 : Env} {h0 : H} {S : Nat → bU} {σ0 : Map} {w0 : World} {D : Nat → Bool} {q : Nat} {σ : Map} {env : Env} {a : Act} {w : World}
theorem QS{i:Nat}{o:Oper}{m:Nat}(ho:ops[i]? =some o)(hm:(dX ops.toList [])[i]? =some m):
  ∀j,Nat.testBit m j=true->∃e∈o.after,Region.binds .any e=true/\(j=e.on\/∃m',(dX ops.toList [])[e.on]? =some m'/\Nat.testBit m' j=true):=by
 obtain⟨m',h1,h2⟩:=QT ops.toList [] i o (by simpa using ho)
 simp only[List.length_nil,Nat.zero_add] at h1 h2;rw[hm] at h1;cases h1;intro j hj;obtain⟨e,h3,h4,h5|⟨m',_,h6,h7⟩⟩:=h2 j hj
 ·exact⟨e,Array.mem_toList_iff.1 h3,h4,.inl h5⟩
 ·exact⟨e,Array.mem_toList_iff.1 h3,h4,.inr ⟨m',h6,h7⟩⟩
theorem QU(hd:iV ops=true):∀(n i:Nat),i<n->∀(m:Nat),(dX ops.toList [])[i]? =some m->∀(o:Oper),ops[i]? =some o->∀j,Nat.testBit m j=true->j<i
 |0,_,h,_,_,_,_,_,_=>absurd h (Nat.not_lt_zero _)
 |n+1,i,h,m,hm,o,ho,j,hj=>by
  obtain⟨e,h1,h2,rfl|⟨m',h3,h4⟩⟩:=QS ho hm j hj
  ·exact (vV hd).1 i o ho e h1 h2
  ·have hlt:=(vV hd).1 i o ho e h1 h2;have hin:i<ops.size:=(Array.getElem?_eq_some_iff.1 ho).1;have ho':ops[e.on]? =some ops[e.on]:=Array.getElem?_eq_getElem (by omega)
   have:=QU hd n e.on (by omega) m' h3 _ ho' j h4
   omega
theorem Inv.mask(I:Inv P ops base N env0 h0 S σ0 w0 D q σ env a w){i:Nat}{o:Oper}{m:Nat}(ho:ops[i]? =some o)(hm:(dX ops.toList [])[i]? =some m)
  (hr:∀e∈o.after,Region.binds .any e=true->D e.on=true):∀j,Nat.testBit m j=true->D j=true:=by
 intro j hj;obtain⟨e,h1,h2,rfl|⟨m',h3,h4⟩⟩:=QS ho hm j hj
 ·exact hr e h1 h2
 ·exact I.cl e.on m' (hr e h1 h2) h3 j h4
theorem Inv.looks(I:Inv P ops base N env0 h0 S σ0 w0 D q σ env a w)(W:Way P cal ops base env0 h0 S)(hd:iV ops=true){i:Nat}{o:Oper}{m:Nat}(ho:ops[i]? =some o)(hm:(dX ops.toList [])[i]? =some m)
  (hi:D i=false) (hm':∀j,Nat.testBit m j=true->D j=true):∀t∈qL ops o,env.get t=(S i).env.get t:=by
 intro t ht;obtain⟨_,ap⟩:=vV hd;have hin:i<ops.size:=(Array.getElem?_eq_some_iff.1 ho).1;have e00:(S 0).env.get t=env0.get t:=by rw[W.s0]
 by_cases hex:∃(j:Nat) (oj:Oper),ops[j]? =some oj/\oj.dst=some t
 ·obtain⟨j,oj,hj,hdj⟩:=hex;have hjn:j<ops.size:=(Array.getElem?_eq_some_iff.1 hj).1;have uniq:∀k ok,ops[k]? =some ok->ok.dst=some t->k=j:=by
   intro k ok hk hdk;rcases Nat.decEq k j with hne|heq
   ·exact absurd hdk (ap j oj k ok t hj hk (Ne.symm hne) hdj).1
   ·exact heq
  by_cases eji:j=i
  ·subst eji;rw[I.e0 t fun k ok hk hdk=>by rw[uniq k ok hk hdk];exact hi,<-e00]
   exact (W.env_old _ (by omega) (by omega) fun k ok _ hk' hk hdk=>by have:=uniq k ok hk hdk;omega).symm
  ·obtain⟨m1,m2,h1,h2,h3⟩:=(ap j oj i o t hj ho eji hdj).2 ht;rw[hm] at h2;cases h2;by_cases c:j<i
   ·rw[if_pos c] at h3;rw[I.en j oj t hj hdj (hm' j h3),W.env_old (k:=j+1) ops.size (by omega) (Nat.le_refl _) fun k ok h1 _ hk hdk=>by have:=uniq k ok hk hdk;omega]
    exact (W.env_old i (by omega) (by omega) fun k ok h1 _ hk hdk=>by have:=uniq k ok hk hdk;omega).symm
   ·rw[if_neg c] at h3;have hDj:D j=false:=by
     cases hc:D j with
     |false=>rfl
     |true=>rw[I.cl j m1 hc h1 i h3] at hi;cases hi
    rw[I.e0 t fun k ok hk hdk=>by rw[uniq k ok hk hdk];exact hDj,<-e00]
    exact (W.env_old _ (by omega) (by omega) fun k ok _ hk' hk hdk=>by have:=uniq k ok hk hdk;omega).symm
 ·rw[I.e0 t fun k ok hk hdk=>absurd ⟨k,ok,hk,hdk⟩ hex,<-e00];exact (W.env_old _ (by omega) (by omega) fun k ok _ _ hk hdk=>hex ⟨k,ok,hk,hdk⟩).symm
theorem Inv.next(I:Inv P ops base N env0 h0 S σ0 w0 D q σ env a w)(W:Way P cal ops base env0 h0 S)(hd:iV ops=true){i:Nat}{o:Oper}{m:Nat}(ho:ops[i]? =some o)(hok:i5 P N o=true)(hm:(dX ops.toList [])[i]? =some m)
  (hi:D i=false) (hm':∀j,Nat.testBit m j=true->D j=true)
  {v:AV} {u:Value} {q':Nat} {τ:Map} {w':World} {D':Nat->Bool} (hD':∀j,D' j=(D j||decide (j=i))) (hv:(S (i+1)).env=aW (S i).env o.dst v) (hu:RV τ v u)
  {M:Nat->Prop} (e:Ext M σ (aY base (S q).pr.ab D (S q).pr.b (S ops.size).fs) w τ (aY base (S q').pr.ab D' (S q').pr.b (S ops.size).fs) w') (hM:∀k,M k->k=base+i\/(S q).pr.nx<=k/\k<(S q').pr.nx)
  (hq:q'<=ops.size) (hql:(S q').pr.lo=q') (hqw:∀j,j<ops.size->IsW S j->(D' j=true↔j<q')) (hnx:(S q).pr.nx<=(S q').pr.nx)
  (hbn:∀f,f<ops.size->Nat.testBit (S q').pr.ab f=false->(S q').pr.b.get (base+f)=none) (hab:∀f,Nat.testBit (S q').pr.ab f=true->D' f=true):
  Inv P ops base N env0 h0 S σ0 w0 D' q' τ (aW env o.dst v) (a.put o.dst u) w':=by
 have hin:i<ops.size:=(Array.getElem?_eq_some_iff.1 ho).1;obtain⟨_,ap⟩:=vV hd;have hnx0:=I.nx;refine⟨?_,?_,I.st.put e hnx (fun k hk=>by rcases hM k hk with h|h<;>omega) hok hu,hq,hql,hqw,?_,by omega,?_,hbn,hab,?_⟩
 ·intro j oj t hj hdj hDj;rw[BH];rw[hD'] at hDj;by_cases eij:j=i
  ·subst eij;rw[ho] at hj;cases hj;rw[if_pos hdj,W.env_old (k:=j+1) ops.size (by omega) (Nat.le_refl _) fun k ok h1 _ hk hdk=>(ap j o k ok t ho hk (by omega) hdj).1 hdk,hv,BH,if_pos hdj]
  ·rw[if_neg (fun hdi=>(ap j oj i o t hj ho eij hdj).1 hdi)];exact I.en j oj t hj hdj (by simpa[eij] using hDj)
 ·intro t ht;rw[BH];have hne:o.dst≠some t:=fun hdi=>by have:=ht i o ho hdi;rw[hD'] at this;simp at this
  rw[if_neg hne];exact I.e0 t fun j oj hj hdj=>by have:=ht j oj hj hdj;rw[hD'] at this;simp at this;exact this.1
 ·exact I.ext.trans e (fun k hk=>⟨hk.1,by have:=hk.2;omega⟩) (fun k hk=>by rcases hM k hk with h|h<;>constructor<;>omega)
 ·intro j hj hDj;rw[hD'] at hDj;simp only[Bool.or_eq_false_iff,decide_eq_false_iff_not] at hDj;have hσ:=I.fr j hj hDj.1;cases hτ:τ (base+j) with
  |none=>rfl
  |some L=>
   rcases e.loc _ L hτ with h1|⟨h1,_⟩
   ·rw[hσ] at h1;cases h1
   ·rcases hM _ h1 with h|h<;>omega
 ·intro j m1 hj hm1 k hk;rw[hD'] at hj ⊢;simp only[Bool.or_eq_true,decide_eq_true_eq] at hj ⊢;rcases hj with hj|rfl
  ·exact .inl (I.cl j m1 hj hm1 k hk)
  ·rw[hm] at hm1;cases hm1;exact .inl (hm' k hk)
end
end
section
variable {P : Program}
variable {cal : dH} {ops : Array Oper} {base N : Nat} {env0 : Env} {h0 : H} {S : Nat → bU} {σ0 : Map} {w0 : World} {D : Nat → Bool} {q : Nat} {σ : Map} {env : Env} {a : Act} {w : World}
theorem RX{cal:dH}(hcal:kP P cal){σ:Map}{env:Env}{h:H}{nx:Nat}{a:Act}{w:World}(rh:RH σ h w)(bd:Bd σ nx)(gl:f0 P σ){o:Oper}
  (hx:∀x∈o.op.operands,RV σ (rd env x) (a.eval x)) {nid:Nat} (hn:σ nid=none) {v:AV} (hv:opA P o.op env h nid=.val v)
  {Q:Exit->Act->World->Prop} {K:Act->World->Prop} (hk:∀u,RV σ v u->K (a.put o.dst u) w):o.wp P a w K Q:=by
 refine G2 hcal rh bd gl hx hn ?_ ?_ ?_ ?_ ?_
 ·intro v' h' u hu;rw[hv] at h';cases h';exact hk u hu
 ·intro v' h' hh;rw[hv] at hh;cases hh
 ·intro v' h' hh;rw[hv] at hh;cases hh
 ·intro f args hh;rw[hv] at hh;cases hh
 ·rw[hv];exact NX.noConfusion
theorem Way.same_fs(W:Way P cal ops base env0 h0 S){i:Nat}(hi:i<ops.size)(h:(S (i+1)).fs=(S i).fs):∀f A,(f,A)∈(S ops.size).fs->f≠i:=by
 intro f A hf e;subst e;have:=W.fs_back (i:=f+1) (x:=(f,A)) (by simp) ops.size (by omega) (Nat.le_refl _) hf
 rw[h] at this;have:=(W.plain f (by omega)).fl f A this
 omega
theorem Inv.subs(I:Inv P ops base N env0 h0 S σ0 w0 D q σ env a w)(W:Way P cal ops base env0 h0 S){sel sel':Nat->Bool}{fs:List (Nat×AB)}(h:∀f A,(f,A)∈fs->Nat.testBit (S q).pr.ab f=false->sel f=true->(f,A)∈(S ops.size).fs/\sel' f=true):
  Sub (aY base (S q).pr.ab sel (S q).pr.b fs) (aY base (S q).pr.ab sel' (S q).pr.b (S ops.size).fs):=by
 have p:=W.plain ops.size (Nat.le_refl _);exact aCZ p.fs h fun f A hf hq=>I.bn f (p.fl f A hf) hq
theorem Inv.wrote(I:Inv P ops base N env0 h0 S σ0 w0 D q σ env a w)(W:Way P cal ops base env0 h0 S):q=0\/(0<q/\IsW S (q-1)/\D (q-1)=true):=by
 have:=(W.last q I.qn).2.2.1;rw[I.ql] at this;rcases this with h|⟨h1,h2⟩
 ·exact .inl h
 ·have:=I.qn;exact .inr ⟨h1,h2,(I.qw (q-1) (by omega) h2).2 (by omega)⟩
theorem BZ{Q:Exit->Act->World->Prop}{K:Act->World->Prop}{i:Nat}{o:Oper}(ho:ops[i]? =some o)(hw:Region.wanted o (yielded ops a.tmps)=true)(h:o.wp P a w K Q):wpOp P ops Q i K a w:=by unfold wpOp;rw[ho];simp only[hw,if_true];exact .inl h
theorem Inv.step(hcal:kP P cal)(I:Inv P ops base N env0 h0 S σ0 w0 D q σ env a w)(W:Way P cal ops base env0 h0 S)(hd:iV ops=true){i:Nat}{o:Oper}(ho:ops[i]? =some o)(hok:i5 P N o=true)
  (hi:D i=false) (hr:∀e∈o.after,Region.binds .any e=true->D e.on=true) {Q:Exit->Act->World->Prop} {K:Act->World->Prop}
  (hK:∀q' τ env' a' w',Inv P ops base N env0 h0 S σ0 w0 (fun j=>D j||decide (j=i)) q' τ env' a' w'->K a' w'):wpOp P ops Q i K a w:=by
 have hin:i<ops.size:=(Array.getElem?_eq_some_iff.1 ho).1;obtain⟨m,hm,k⟩:=W.st i o ho;have hm':=I.mask ho hm hr;have lk:=I.looks W hd ho hm hi hm';have hwant:=T8 lk;have hops:∀x∈o.op.operands,RV σ (rd (S i).env x) (a.eval x):=fun x hx=>by rw[<-ST lk x hx];exact qP I.st.re I.st.gl (RY hok x hx)
 have hσ:=I.fr i hin hi;have pl:=W.plain i (by omega)
 have pn:=W.plain ops.size (Nat.le_refl _);have qn:=I.qn;have hlo:=pl.lo;have hix:=pl.ix;have hlast:=W.last i (by omega)
 have still:(S (i+1)).fs=(S i).fs->(S (i+1)).pr=(S i).pr->∀v u,(S (i+1)).env=aW (S i).env o.dst v->RV σ v u->K (a.put o.dst u) w:=by
  intro hfs hpr v u hv hu;have nw:¬IsW S i:=by unfold IsW;rw[hpr];omega
  have hne:=W.same_fs hin hfs;refine hK q σ _ _ _ (I.next W hd ho hok hm hi hm' (fun j=>rfl) hv hu (M:=fun _=>False) ((Ext.refl I.st.rh).sub I.st.rh (I.subs W fun f A hf hq hs=>⟨hf,?_⟩) (fun k A h1 _=>I.subs W (sel:=D) (sel':=fun j=>D j||decide (j=i)) (fun f A hf _ hs=>⟨hf,by simp[hs]⟩) k A h1)) (fun _ h=>h.elim) I.qn I.ql ?_ (Nat.le_refl _) I.bn (fun f hf=>by simp[I.ab f hf]))
  ·simpa[hne f A hf] using hs
  ·intro j hj hw;have:j≠i:=fun e=>nw (e▸hw);simp only[this,decide_false,Bool.or_false];exact I.qw j hj hw
 have hsub:∀f A,(f,A)∈(S i).fs->Nat.testBit (S q).pr.ab f=false->Nat.testBit m f=true->(f,A)∈(S ops.size).fs/\D f=true:=fun f A hf _ hs=>⟨W.fs_fwd ops.size (by omega) (Nat.le_refl _) hf,hm' f hs⟩
 generalize hs:S (i+1)=s' at k still;cases k
 case skip hw=>unfold wpOp;rw[ho];rw[<-hwant] at hw;simp only[qS I.st.re hw,Bool.false_eq_true,if_false];exact still rfl rfl dV undef rfl RV.undef
 case pure v hw hc hv=>rw[<-hwant] at hw;refine BZ ho (qS I.st.re hw) ?_;refine RX hcal I.st.rh I.st.bd I.st.gl hops hσ ((vR hc _ _ _ _ _).trans hv) fun u hu=>still rfl rfl v u rfl hu
 case read v hw hc hv hb=>
  rw[<-hwant] at hw;refine BZ ho (qS I.st.re hw) ?_;have nw:¬IsW S i:=by unfold IsW;rw[hs];simp only;omega
  have read:opA P o.op (S i).env (aY base (S q).pr.ab D (S q).pr.b (S ops.size).fs) (base+i)=.val v:=by
   rcases Nat.lt_trichotomy q (S i).pr.lo with hlt|heq|hgt
   ·refine vS hc (I.subs W hsub) _ (NV (W.back I.ql ?_ i (by omega) (by omega) hlt hb))
    intro j h1 h2 h3;cases ht:Nat.testBit m j with
    |false=>rfl
    |true=>have:=(I.qw j h2 h3).1 (hm' j ht);omega
   ·rw[<-heq] at hlast;rw[hlast.1] at hv;exact vS hc (I.subs W hsub) _ hv
   ·rcases I.wrote W with h1|⟨h1,h2,h3⟩
    ·omega
    ·have hge:i<q-1:=by
      rcases Nat.lt_or_ge i (q-1) with h|h
      ·exact h
      ·exfalso;by_cases e:q-1=i
       ·exact nw (e▸h2)
       ·exact hlast.2.2.2 (q-1) (by omega) (by omega) h2
     have hrs:⟨i,o.op,(S i).env,v⟩∈(S (q-1)).rs:=W.rs_fwd (i:=i+1) (q-1) (by omega) (by omega) (by rw[hs];simp only[hix];exact .head _)
     obtain⟨o2,m2,ho2,hm2,k2⟩:=W.step (i:=q-1) (by omega)
     have e1:q-1+1=q:=by omega
     rw[e1] at k2;have hlo2:=(W.plain (q-1) (by omega)).lo
     have hql:=I.ql;have hsub2:Sub (S q).pr.b (aY base (S q).pr.ab D (S q).pr.b (S ops.size).fs):=I.subs W (sel:=D) (fs:=[]) fun f A hf=>by cases hf
     refine vS hc hsub2 (i:=0) _ ?_;generalize S q=s2 at k2 hql;cases k2
     case write v2 h nx2 hw2 h12 hv2 h32=>
      rcases h32 _ hrs with h4|h4
      ·have:=I.cl (q-1) m2 h3 hm2 i h4;rw[hi] at this;cases this
      ·exact NV h4
     all_goals simp only at hql;omega
  refine RX hcal I.st.rh I.st.bd I.st.gl hops hσ read fun u hu=>still rfl rfl v u rfl hu
 case fresh v h1 blk hw hc hv hb=>
  rw[<-hwant] at hw;refine BZ ho (qS I.st.re hw) ?_;have nw:¬IsW S i:=by unfold IsW;rw[hs];simp only;omega
  have hfs1:(i,blk)∈(S (i+1)).fs:=by rw[hs];simp only[hix];exact .head _
  have hfs:(i,blk)∈(S ops.size).fs:=W.fs_fwd ops.size (by omega) (Nat.le_refl _) hfs1
  have hqi:Nat.testBit (S q).pr.ab i=false:=by
   cases hc:Nat.testBit (S q).pr.ab i with
   |false=>rfl
   |true=>rw[I.ab i hc] at hi;cases hi
  rw[hix] at hv hb;have hnew:=aB9 hc hv hb (aY base (S q).pr.ab D (S q).pr.b (S ops.size).fs);refine G2 hcal I.st.rh I.st.bd I.st.gl hops hσ ?_ ?_ ?_ ?_ ?_
  ·intro v' hh;rw[hnew] at hh;cases hh
  ·intro v' h' hh;rw[hnew] at hh;cases hh
  ·intro v' h' hh u w' τ hu e;rw[hnew] at hh;cases hh;refine hK q τ _ _ _ (I.next W hd ho hok hm hi hm' (fun j=>rfl) (by rw[hs]) hu (M:=(·=base+i)) (e.sub I.st.rh ?_ ?_) (fun _ h=>.inl h) I.qn I.ql ?_ (Nat.le_refl _) I.bn (fun f hf=>by simp[I.ab f hf]))
   ·intro k A hk;have hnew':(aY base (S q).pr.ab (fun j=>D j||decide (j=i)) (S q).pr.b (S ops.size).fs).get (base+i)=some blk:=oI pn.fs hfs hqi (by simp)
    rw[Tr.get_set];by_cases ek:k=base+i
    ·subst ek;rw[hnew'] at hk;rw[if_pos rfl,hk]
    ·rw[if_neg ek];rcases qA hk with⟨f,h2,h3,h4,rfl⟩|⟨h2,h3⟩
     ·refine oI pn.fs h2 h3 ?_;have:f≠i:=fun e=>ek (by rw[e])
      simpa[this] using h4
     ·rw[sQ,h2];exact fun f B hf hq hs=>h3 f B hf hq (by simp[hs])
   ·intro k A hk _;have hnew':(aY base (S q).pr.ab (fun j=>D j||decide (j=i)) (S q).pr.b (S ops.size).fs).get (base+i)=some blk:=oI pn.fs hfs hqi (by simp)
    rw[Tr.get_set] at hk;by_cases ek:k=base+i
    ·subst ek;rw[if_pos rfl] at hk;rw[hnew',hk]
    ·rw[if_neg ek] at hk;exact I.subs W (sel:=D) (sel':=fun j=>D j||decide (j=i)) (fun f A hf _ hs=>⟨hf,by simp[hs]⟩) k A hk
   ·intro j hj hw';have:j≠i:=fun e=>nw (e▸hw');simp only[this,decide_false,Bool.or_false];exact I.qw j hj hw'
  ·intro f args hh;rw[hnew] at hh;cases hh
  ·rw[hnew];exact NX.noConfusion
 case write v h nx hw h1 hv h3=>
  rw[<-hwant] at hw;refine BZ ho (qS I.st.re hw) ?_;have isw:IsW S i:=by unfold IsW;rw[hs];simp only;omega
  have hqi:q<=i:=by
   rcases Nat.lt_or_ge i q with h|h
   ·have:=(I.qw i hin isw).2 h;rw[hi] at this;cases this
   ·exact h
  have hnow:∀j,q<=j->j<i->¬IsW S j:=by
   intro j h4 h5 h6;obtain⟨p,h7,h8⟩:=W.all_w i (by omega) j h5 h6
   rcases h1 p h7 with h9|h9
   ·omega
   ·rw[h8,Nat.add_sub_cancel] at h9;have:=(I.qw j (by omega) h6).1 (hm' j h9)
    omega
  have hpr:=(W.pr_same i hqi (by omega) hnow).1
  rw[hpr] at hv;have hsubW:Sub (aY base (S q).pr.ab (Nat.testBit m) (S q).pr.b (S i).fs) (aY base (S q).pr.ab D (S q).pr.b (S ops.size).fs):=I.subs W hsub;have rhW:=I.st.rh.sub hsubW;have epr:(S (i+1)).pr=⟨i+1,Nat.lor (Nat.lor (S q).pr.ab m) (Nat.pow 2 i),h,nx⟩:=by rw[hs];simp only[hix,hpr]
  have hnx:=I.nx;have fin:∀{M:Nat->Prop} {τ:Map} {w':World} {u:Value},Ext M σ (aY base (S q).pr.ab (Nat.testBit m) (S q).pr.b (S i).fs) w τ h w'->(∀k,M k->k=base+i\/(S q).pr.nx<=k/\k<nx)->RV τ v u->(S q).pr.nx<=nx->K (a.put o.dst u) w':=by
   intro M τ w' u e hM hu hle;have bits:∀f,Nat.testBit (Nat.lor (Nat.lor (S q).pr.ab m) (Nat.pow 2 i)) f=(Nat.testBit (S q).pr.ab f||Nat.testBit m f||decide (i=f)):=fun f=>by change Nat.testBit (((S q).pr.ab|||m)|||2^i) f=_;rw[Nat.testBit_or,Nat.testBit_or,Nat.testBit_two_pow]
   have old:∀f,f<ops.size->Nat.testBit (Nat.lor (Nat.lor (S q).pr.ab m) (Nat.pow 2 i)) f=false->(aY base (S q).pr.ab (Nat.testBit m) (S q).pr.b (S i).fs).get (base+f)=none:=by
    intro f h4 h5;rw[bits] at h5;simp only[Bool.or_eq_false_iff,decide_eq_false_iff_not] at h5;cases hg:(aY base (S q).pr.ab (Nat.testBit m) (S q).pr.b (S i).fs).get (base+f) with
    |none=>rfl
    |some A=>
     rcases qA hg with⟨f',h6,_,h8,h7⟩|⟨h6,_⟩
     ·have:f'=f:=by omega
      subst this;rw[h5.1.2] at h8;cases h8
     ·rw[I.bn f h4 h5.1.1] at h6;cases h6
   have hbn:∀f,f<ops.size->Nat.testBit (Nat.lor (Nat.lor (S q).pr.ab m) (Nat.pow 2 i)) f=false->h.get (base+f)=none:=by
    intro f h4 h5;cases hg:h.get (base+f) with
    |none=>rfl
    |some A=>
     obtain⟨L,h6,_⟩:=e.rh.blk _ A hg;rcases e.loc _ L h6 with h7|⟨h7,_⟩
     ·obtain⟨A0,h8⟩:=e.live _ A L hg h7;rw[old f h4 h5] at h8;cases h8
     ·rw[bits] at h5;simp only[Bool.or_eq_false_iff,decide_eq_false_iff_not] at h5;rcases hM _ h7 with h8|h8<;>omega
   have e2:Ext M σ (aY base (S q).pr.ab D (S q).pr.b (S ops.size).fs) w τ (aY base (S (i+1)).pr.ab (fun j=>D j||decide (j=i)) (S (i+1)).pr.b (S ops.size).fs) w':=by
    rw[epr];refine e.frame hsubW I.st.rh (fun k A hk=>?_) (fun k A hk _=>?_) (fun k A h1 hk _=>?_)
    rotate_left
    ·refine (sQ fun f B hf h5 _ ek=>?_).trans hk;rw[ek,hbn f (pn.fl f B hf) h5] at hk;cases hk
    ·rcases qA hk with⟨f,h4,h5,h6,rfl⟩|⟨h4,h6⟩
     ·refine oI pn.fs h4 ?_ (by simp[h6])
      have hne:f≠i:=fun e=>by subst e;rw[hi] at h6;cases h6
      rw[bits,h5];simp only[Bool.false_or,Bool.or_eq_false_iff,decide_eq_false_iff_not];refine⟨?_,fun e=>hne e.symm⟩;cases ht:Nat.testBit m f with
      |false=>rfl
      |true=>
       exfalso;have hin':(f,A)∈(S i).fs:=W.fs_back (x:=(f,A)) (by exact QU hd (i+1) i (by omega) m hm o ho f ht) ops.size (by omega) (Nat.le_refl _) h4
       rw[oI pl.fs hin' h5 ht] at h1;cases h1
     ·exfalso;have:(aY base (S q).pr.ab (Nat.testBit m) (S q).pr.b (S i).fs).get k=(S q).pr.b.get k:=sQ fun f B hf h7 h8=>h6 f B (hsub f B hf h7 h8).1 h7 (hsub f B hf h7 h8).2;rw[this,h4] at h1;cases h1
    rcases qA hk with⟨f,h4,h5,h6,rfl⟩|⟨h4,_⟩
    ·have hf:=pn.fl f A h4;have h7:=h5;rw[bits] at h7;simp only[Bool.or_eq_false_iff,decide_eq_false_iff_not] at h7;have hne:f≠i:=fun e=>h7.2 e.symm;exact .inr ⟨old f hf h5,oI pn.fs h4 h7.1.1 (by simpa[hne] using h6)⟩
    ·exact .inl h4
   refine hK (i+1) τ _ _ _ (I.next W hd ho hok hm hi hm' (fun j=>rfl) (by rw[hs]) hu e2 (by rw[epr];exact hM) (by omega) (by rw[epr]) ?_ (by rw[epr];exact hle) (by rw[epr];exact hbn) ?_)
   rotate_left
   ·rw[epr];intro f hf;rw[bits] at hf;simp only[Bool.or_eq_true,decide_eq_true_eq] at hf ⊢;rcases hf with (h4|h4)|h4
    ·exact .inl (I.ab f h4)
    ·exact .inl (hm' f h4)
    ·exact .inr h4.symm
   intro j hj hw';by_cases e:j=i
   ·subst e;simp
   ·simp only[e,decide_false,Bool.or_false];rw[I.qw j hj hw'];constructor
    ·omega
    ·intro h4;rcases Nat.lt_or_ge j q with h5|h5
     ·exact h5
     ·exact absurd hw' (hnow j h5 (by omega))
  rw[hix] at hv;generalize hop:opA P o.op (S i).env (aY base (S q).pr.ab (Nat.testBit m) (S q).pr.b (S i).fs) (base+i)=r at hv;refine G2 hcal rhW I.st.bd I.st.gl hops hσ ?_ ?_ ?_ ?_ ?_
  ·intro v' hh u hu;rw[hop] at hh;subst hh;cases hv;exact fin (M:=fun _=>False) (Ext.refl rhW) (fun _ h=>h.elim) hu (Nat.le_refl _)
  ·intro v' h' hh u w' hu e;rw[hop] at hh;subst hh;cases hv;exact fin e (fun _ h=>h.elim) hu (Nat.le_refl _)
  ·intro v' h' hh u w' τ hu e;rw[hop] at hh;subst hh;cases hv;exact fin e (fun _ h=>.inl h) hu (Nat.le_refl _)
  ·intro f args hh;rw[hop] at hh;subst hh;cases hv;rename_i hc;exact⟨v,h,nx,hc,fun u w' τ hu e hle=>fin e (fun _ h=>.inr h) hu hle⟩
  ·intro hh;rw[hop] at hh;subst hh;cases hv
end
section
variable {P : Program}
variable {cal : dH} {ops : Array Oper} {base N : Nat} {env0 : Env} {h0 : H} {S : Nat → bU} {σ0 : Map} {w0 : World}
def cnt(D:Nat->Bool):Nat->Nat
 |0=>0
 |n+1=>cnt D n+if D n then 0 else 1
theorem N7{D:Nat->Bool}:∀{n:Nat},cnt D n=0->∀i,i<n->D i=true
 |n+1,h,i,hi=>by
  unfold cnt at h;by_cases e:i=n
  ·subst e;cases hd:D i with
   |true=>rfl
   |false=>rw[hd] at h;simp at h
  ·exact N7 (n:=n) (by omega) i (by omega)
theorem N5{D:Nat->Bool}{i:Nat}(hd:D i=false):∀{n:Nat},(n<=i->cnt (fun j=>D j||decide (j=i)) n=cnt D n)/\(i<n->cnt (fun j=>D j||decide (j=i)) n+1=cnt D n)
 |0=>⟨fun _=>rfl,fun h=>by omega⟩
 |n+1=>by
  obtain⟨h1,h2⟩:=N5 (D:=D) (i:=i) hd (n:=n);constructor
  ·intro h;have e:n≠i:=by omega
   simp only[cnt,e,decide_false,Bool.or_false];rw[h1 (by omega)]
  ·intro h;by_cases e:n=i
   ·subst e;simp only[cnt,decide_true,Bool.or_true,if_true,hd,Bool.false_eq_true,if_false];rw[h1 (Nat.le_refl _)]
   ·simp only[cnt,e,decide_false,Bool.or_false];have:=h2 (by omega)
    omega
theorem aIm{ops:Array Oper}(hd:iV ops=true){listed:Array Bool}(hl:listed.size=ops.size)(hr:Region.ready .any ops listed=[]):∀i,i<ops.size->listed.getD i false=true:=by
 intro i
 induction i using Nat.strongRecOn with
 |_ i ih=>
  intro hi;cases hc:listed.getD i false with
  |true=>rfl
  |false=>
   exfalso;have hm:i∈Region.ready .any ops listed:=by
    rw[mem_ready];refine⟨?_,ops[i],Array.getElem?_eq_getElem hi,fun e he hb=>?_⟩
    ·simp only[Array.getD,hl,hi,dite_true] at hc ⊢;exact hc
    ·have hlt:=(vV hd).1 i _ (Array.getElem?_eq_getElem hi) e he hb;exact ih e.on hlt (by omega)
   rw[hr] at hm;cases hm
theorem vW(hcal:kP P cal)(W:Way P cal ops base env0 h0 S)(hd:iV ops=true)(hok:ops.toList.all (i5 P N)=true){Q:Exit->Act->World->Prop}
  (hQ:∀D q σ env a w,(∀i,i<ops.size->D i=true)->Inv P ops base N env0 h0 S σ0 w0 D q σ env a w->Q .normal a w):
  ∀(fuel:Nat) (listed:Array Bool),listed.size=ops.size->cnt (fun j=>listed.getD j false) ops.size<=fuel->∀q σ env a w,Inv P ops base N env0 h0 S σ0 w0 (fun j=>listed.getD j false) q σ env a w->
  wpAny P .any ops Q fuel listed a w
 |0,listed,hl,hc,q,σ,env,a,w,I=>by
  have all:=N7 (Nat.le_zero.1 hc);refine⟨?_,hQ _ q σ env a w all I⟩;cases hr:Region.ready .any ops listed with
  |nil=>rfl
  |cons i l=>
   exfalso;have hm:i∈Region.ready .any ops listed:=by rw[hr];exact .head _
   obtain⟨h1,o,ho,_⟩:=mem_ready.1 hm;have hi:i<ops.size:=(Array.getElem?_eq_some_iff.1 ho).1;have:=all i hi;simp only[Array.getD,hl,hi,dite_true] at h1 this;rw[h1] at this;cases this
 |fuel+1,listed,hl,hc,q,σ,env,a,w,I=>by
  refine⟨fun hr=>hQ _ q σ env a w (aIm hd hl hr) I,fun i hm=>?_⟩;obtain⟨h1,o,ho,h2⟩:=mem_ready.1 hm;have hi:i<ops.size:=(Array.getElem?_eq_some_iff.1 ho).1;have hDi:listed.getD i false=false:=by simp only[Array.getD,hl,hi,dite_true] at h1 ⊢;exact h1
  have hoo:i5 P N o=true:=List.all_eq_true.1 hok _ (by have:=(Array.getElem?_eq_some_iff.1 ho).2;rw[<-this];simp)
  refine I.step hcal W hd ho hoo hDi h2 fun q' τ env' a' w' I'=>?_;have eD:(fun j=>(listed.setIfInBounds i true).getD j false)=fun j=>listed.getD j false||decide (j=i):=by
   funext j
   by_cases e:j=i
   ·subst e;simp[Array.getD,hl,hi]
   ·rw[getD_set_ne false (Ne.symm e)];simp[e]
  refine vW hcal W hd hok hQ fuel _ (by simpa using hl) ?_ q' τ env' a' w' (by rw[eD];exact I')
  rw[eD];have:=(N5 (D:=fun j=>listed.getD j false) hDi (n:=ops.size)).2 hi;omega
theorem aCU(hcal:kP P cal){n:Nat}{ops:Array Oper}(hok:ops.toList.all (i5 P n)=true)(hd:iV ops=true)(hm:P.follows .mixedOrders=true){id:Nat}{σ:Map}{env:Env}{h:H}{nx:Nat}{a:Act}{w:World}
  (s:St P n σ env h nx a w) (hne:gU P cal ops nx ops.toList (dX ops.toList []) ⟨0,env,[],⟨0,0,h,nx+ops.size⟩,[],[]⟩≠.bad):
  (Code.region id ops true).wp P (iB P n σ h nx w (gU P cal ops nx ops.toList (dX ops.toList []) ⟨0,env,[],⟨0,0,h,nx+ops.size⟩,[],[]⟩)) a w:=by
 obtain⟨S,h1,h2,h3⟩:=O6 _ _ _ hne;have W:Way P cal ops nx env h S:=⟨h1,fun i o ho=>h2 i o (by simpa using ho)⟩
 rw[h3];simp only[Array.length_toList];refine wp_region_any hm ?_;have e0:Ext (Rg nx (nx+ops.size)) σ h w σ h {w with drawn:=w.drawn+1}:=Ext.of_heap s.rh rfl ⟨rfl,rfl,rfl⟩;have hfalse:∀j,(Array.replicate ops.size false).getD j false=false:=by
  intro j;simp only[Array.getD,Array.size_replicate];split
  ·simp
  ·rfl
 have hb:∀f,h.get (nx+f)=none:=fun f=>by
  cases hg:h.get (nx+f) with
  |none=>rfl
  |some A=>
   obtain⟨L,h4,_⟩:=s.rh.blk _ A hg;rw[s.bd (nx+f) (by omega)] at h4
   cases h4
 have hsub:Sub (aY nx 0 (fun j=>(Array.replicate ops.size false).getD j false) h (S ops.size).fs) h:=fun k A hk=>by
  rcases qA hk with⟨f,_,_,h4,_⟩|⟨h4,_⟩
  ·rw[hfalse] at h4;cases h4
  ·exact h4
 have I:Inv P ops nx n env h S σ w (fun j=>(Array.replicate ops.size false).getD j false) 0 σ env a {w with drawn:=w.drawn+1}:=by
  constructor
  ·intro j o t _ _ hD;rw[hfalse] at hD;cases hD
  ·intro t _;rfl
  ·rw[W.s0];exact⟨s.re,(s.rh.sub hsub).of_heap rfl,fun i hi=>s.bd i (by simp only at hi;omega),s.gl,s.df,s.sz⟩
  ·omega
  ·rw[W.s0]
  ·intro j _ _;rw[hfalse];simp
  ·rw[W.s0];exact e0.sub s.rh hsub fun k A h1 _=>(sQ fun f B _ _ h4=>by rw[hfalse] at h4;cases h4).trans h1
  ·rw[W.s0];exact Nat.le_refl _
  ·intro i _ _;exact s.bd _ (by omega)
  ·intro f _ _;rw[W.s0];exact hb f
  ·intro f hf;rw[W.s0] at hf;simp at hf
  ·intro i m hD;rw[hfalse] at hD;cases hD
 refine vW hcal W hd hok ?_ ops.size (Array.replicate ops.size false) (by simp) ?_ 0 σ env a _ I
 ·intro D q τ env' a' w' all J;have hnow:∀j,q<=j->j<ops.size->¬IsW S j:=fun j h4 h5 h6=>by have:=(J.qw j h5 h6).1 (all j h5);omega
  have hpr:=(W.pr_same ops.size J.qn (Nat.le_refl _) hnow).1;have hs:Sub (aY nx (S ops.size).pr.ab (fun _=>true) (S ops.size).pr.b (S ops.size).fs) (aY nx (S q).pr.ab D (S q).pr.b (S ops.size).fs):=by rw[hpr];exact J.subs W fun f A hf _ _=>⟨hf,all f ((W.plain ops.size (Nat.le_refl _)).fl f A hf)⟩
  have hs2:∀k A,(aY nx (S q).pr.ab D (S q).pr.b (S ops.size).fs).get k=some A->A.ro=true->(aY nx (S ops.size).pr.ab (fun _=>true) (S ops.size).pr.b (S ops.size).fs).get k=some A:=fun k A h1 _=>by rw[hpr];exact J.subs W (sel:=D) (sel':=fun _=>true) (fun f A hf _ _=>⟨hf,rfl⟩) k A h1
  have st:=J.st;rw[hpr];rw[hpr] at hs hs2;refine⟨rfl,τ,J.ext.sub s.rh hs hs2,by have:=J.nx;omega,⟨fun t=>?_,J.st.rh.sub hs,J.st.bd,J.st.gl,J.st.df,J.st.sz⟩⟩
  have ht:=J.st.re t;have:env'.get t=(S ops.size).env.get t:=by
   by_cases hex:∃(j:Nat) (oj:Oper),ops[j]? =some oj/\oj.dst=some t
   ·obtain⟨j,oj,hj,hdj⟩:=hex;exact J.en j oj t hj hdj (all j (Array.getElem?_eq_some_iff.1 hj).1)
   ·rw[J.e0 t fun k ok hk hdk=>absurd ⟨k,ok,hk,hdk⟩ hex,W.env_old (k:=0) ops.size (by omega) (Nat.le_refl _) fun k ok _ _ hk hdk=>hex ⟨k,ok,hk,hdk⟩,W.s0]
  rw[this] at ht;exact ht
 ·have:∀k,cnt (fun j=>(Array.replicate ops.size false).getD j false) k=k:=by
   intro k
   induction k with
   |zero=>rfl
   |succ k ih=>unfold cnt;rw[ih,hfalse];simp
  rw[this];exact Nat.le_refl _
end
section
variable {P : Program}
theorem TS{n:Nat}{σ:Map}{h:H}{nx:Nat}{w:World}{r:RS}{Q:Exit->Act->World->Prop}{K:Act->World->Prop}{e:Exit}{a':Act}{w':World}
  (hp:iB P n σ h nx w r e a' w') (hn:∀env' h' nx',r=.norm env' h' nx'->iB P n σ h nx w r .normal a' w'->K a' w')
  (hq:(∀env' h' nx',r≠.norm env' h' nx')->Q e a' w'):Exit.then K Q e a' w':=by
 cases r with
 |norm env' h' nx'=>have he:=hp.1;subst he;exact hn env' h' nx' rfl hp
 |exit id env' h' nx'=>have he:=hp.1;subst he;exact hq (fun _ _ _=>RS.noConfusion)
 |ret env' h' nx'=>have he:=hp.1;subst he;exact hq (fun _ _ _=>RS.noConfusion)
 |bad=>exact hp.elim
theorem S5{P:Program}{c:Code}{Q Q':Exit->Act->World->Prop}(hq:∀e a w,Q e a w->Q' e a w):∀n a w,Code.rounds P c Q n a w->Code.rounds P c Q' n a w
 |0,_,_,h=>h
 |n+1,a,w,h=>by
  rw[rounds_succ] at h ⊢;refine wp_mono h fun e a' w' hp=>?_;cases e with
  |normal=>exact S5 hq n a' w' hp
  |_=>exact hq _ _ _ hp
theorem O2{cal:dH}(hcal:kP P cal){n:Nat}:∀f:Nat,
  (∀(c:Code),eH P n c=true->∀(σ:Map) (env:Env) (h:H) (nx:Nat) (a:Act) (w:World),St P n σ env h nx a w->evC P cal f c env h nx≠.bad->c.wp P (iB P n σ h nx w (evC P cal f c env h nx)) a w)/\
  (∀(c:Code),eH P n c=true->∀(σ:Map) (env:Env) (h:H) (nx:Nat) (a:Act) (w:World),St P n σ env h nx a w->evC P cal f (.loop c) env h nx≠.bad->Code.rounds P c (iB P n σ h nx w (evC P cal f (.loop c) env h nx)) f a w)
 |0=>⟨fun _ _ _ _ _ _ _ _ _ hne=>absurd rfl hne,fun _ _ _ _ _ _ _ _ _ hne=>absurd rfl hne⟩
 |f+1=>by
  obtain⟨ih,il⟩:=O2 hcal (n:=n) f;have loop:∀(c:Code),eH P n c=true->∀(σ:Map) (env:Env) (h:H) (nx:Nat) (a:Act) (w:World),St P n σ env h nx a w->evC P cal (f+1) (.loop c) env h nx≠.bad->
    Code.rounds P c (iB P n σ h nx w (evC P cal (f+1) (.loop c) env h nx)) (f+1) a w:=by
   intro c hc σ env h nx a w s hne;rw[rounds_succ];unfold evC at hne ⊢;simp only at hne ⊢;have hne1:evC P cal f c env h nx≠.bad:=fun e=>by rw[e] at hne;exact hne rfl
   refine wp_mono (ih c hc σ env h nx a w s hne1) fun e a' w' hp=>?_;refine TS hp (fun env' h' nx' hr hp'=>?_) (fun hnn=>?_)
   ·rw[hr] at hp' hne ⊢;obtain⟨_,τ,e1,hle,s'⟩:=hp';have:=il c hc τ env' h' nx' a' w' s' hne;exact S5 (fun e a'' w'' hp''=>iB.trans e1 hle hp'') f a' w' this
   ·generalize evC P cal f c env h nx=r at hp hnn ⊢;cases r with
    |norm env' h' nx'=>exact absurd rfl (hnn env' h' nx')
    |_=>exact hp
  refine⟨fun c hc σ env h nx a w s hne=>?_,loop⟩;cases c with
  |skip=>exact wp_skip ⟨rfl,σ,Ext.refl s.rh,Nat.le_refl _,s⟩
  |label l=>exact wp_label ⟨rfl,σ,Ext.refl s.rh,Nat.le_refl _,s⟩
  |ret=>exact wp_ret ⟨rfl,σ,Ext.refl s.rh,Nat.le_refl _,s⟩
  |exit id=>exact wp_exit ⟨rfl,σ,Ext.refl s.rh,Nat.le_refl _,s⟩
  |seq x y=>
   simp only[eH,Bool.and_eq_true] at hc;unfold evC at hne ⊢;simp only at hne ⊢;have hne1:evC P cal f x env h nx≠.bad:=fun e=>by rw[e] at hne;exact hne rfl
   refine wp_seq (wp_mono (ih x hc.1 σ env h nx a w s hne1) fun e a' w' hp=>?_);refine TS hp (fun env' h' nx' hr hp'=>?_) (fun hnn=>?_)
   ·rw[hr] at hp' hne ⊢;obtain⟨_,τ,e1,hle,s'⟩:=hp';exact wp_mono (ih y hc.2 τ env' h' nx' a' w' s' hne) fun e a'' w'' hp''=>iB.trans e1 hle hp''
   ·generalize evC P cal f x env h nx=r at hp hnn ⊢;cases r with
    |norm env' h' nx'=>exact absurd rfl (hnn env' h' nx')
    |_=>exact hp
  |cond c x y=>
   simp only[eH,Bool.and_eq_true] at hc;unfold evC at hne ⊢;have hr:=qP s.re s.gl hc.1.1;simp only at hne ⊢;split at hne
   ·rename_i hb;rw[hb] at hr;generalize hv:a.eval c=v at hr;cases hr;exact wp_cond_true hv (ih x hc.1.2 σ env h nx a w s hne)
   ·rename_i hb;rw[hb] at hr;generalize hv:a.eval c=v at hr;cases hr;exact wp_cond_false hv (ih y hc.2 σ env h nx a w s hne)
   ·exact absurd rfl hne
  |block id x=>
   simp only[eH] at hc;unfold evC at hne ⊢;simp only at hne ⊢;have hne1:evC P cal f x env h nx≠.bad:=fun e=>by rw[e] at hne;exact hne rfl
   refine wp_block (wp_mono (ih x hc σ env h nx a w s hne1) fun e a' w' hp=>?_);generalize evC P cal f x env h nx=r at hp;cases r with
   |exit id' env' h' nx'=>
    obtain⟨he,rest⟩:=hp;subst he;simp only[Exit.inBlock,bJ];by_cases ei:id'=id
    ·subst ei;simp only[if_true,decide_true,cond_true];exact⟨rfl,rest⟩
    ·have e2:¬id=id':=fun h=>ei h.symm;simp only[ei,e2,if_false,decide_false,cond_false];exact⟨rfl,rest⟩
   |norm env' h' nx'=>have he:=hp.1;subst he;exact hp
   |ret env' h' nx'=>have he:=hp.1;subst he;exact hp
   |bad=>exact hp.elim
  |loop c=>simp only[eH] at hc;exact wp_loop_rounds (f+1) (loop c hc σ env h nx a w s hne)
  |scope x=>
   simp only[eH] at hc;unfold evC at hne ⊢;simp only at hne ⊢;refine wp_scope_straight (wp_mono (ih x hc σ env h nx a w s hne) fun e a' w' hp=>?_);generalize evC P cal f x env h nx=r at hp;cases r with
   |exit id' env' h' nx'=>have he:=hp.1;subst he;exact hp
   |norm env' h' nx'=>have he:=hp.1;subst he;exact hp
   |ret env' h' nx'=>have he:=hp.1;subst he;exact hp
   |bad=>exact hp.elim
  |region id ops draw=>
   simp only[eH] at hc;cases draw with
   |false=>
    unfold evC at hne ⊢;refine wp_region ?_;have:=O9 hcal hc ops.size 0 (by omega) σ env h nx a w s (by simpa using hne)
    rw[List.range_eq_range'];simpa using this
   |true=>
    unfold evC at hne ⊢;simp only at hne ⊢;cases hd:(iV ops&&P.follows .mixedOrders) with
    |false=>rw[hd] at hne;exact absurd rfl hne
    |true=>rw[hd,cond_true] at hne;rw[cond_true];simp only[Bool.and_eq_true] at hd;exact aCU hcal hc hd.1 hd.2 s hne
  |_=>exact absurd rfl hne
def tK(tmps:Array Value):ResultVar->Sem Value
 |.tmp t=>pure (tmps.getD t undef)
 |.cell a t=>do loadVar t (<-asAddr (tmps.getD a undef))
theorem aFB{σ:Map}{h:H}{t:TypeId}{A v:AV}{x:Value}(hv:ld P h t A=some v)(hb:RV σ A x):∃p,x=.pointer (some p):=by
 unfold ld at hv;split at hv
 ·cases hb;exact⟨_,rfl⟩
 ·cases hv
theorem HM{σ:Map}{env:Env}{h:H}{tmps:Array Value}{w:World}(re:RE σ env tmps)(rh:RH σ h w):∀(l:List ResultVar) (r:List AV),lR P env h l=some r->
  ∃vs,(l.mapM (tK tmps)).run P w=.ok vs w/\RVs σ r vs
 |[],r,hr=>by cases hr;exact⟨[],by simp[tK],.nil⟩
 |.tmp t::l,r,hr=>by
  unfold lR at hr;split at hr
  ·rename_i r' hr';cases hr;obtain⟨vs,h1,h2⟩:=HM re rh l r' hr';exact⟨tmps.getD t undef::vs,by simp[tK,h1],.cons _ _ _ _ (re t) h2⟩
  ·cases hr
 |.cell b t::l,r,hr=>by
  unfold lR at hr;split at hr
  ·rename_i v r' hv hr';cases hr;obtain⟨vs,h1,h2⟩:=HM re rh l r' hr';have hb:=re b;obtain⟨u,h3,h4⟩:=qK (P:=P) rh hv hb;refine⟨u::vs,?_,.cons _ _ _ _ h4 h2⟩;generalize hx:tmps.getD b undef=x at hb h3;have hp:∃p,x=.pointer (some p):=aFB hv hb;obtain⟨p,rfl⟩:=hp;have h5:(loadVar t p).run P w=.ok u w:=by simpa[Instr.loadAt,Instr.sureAddr] using h3
   have h6:(tK tmps (.cell b t)).run P w=.ok u w:=by simp only[tK,hx,asAddr];simpa using h5
   simp[h6,h1]
  ·cases hr
theorem aIo(fn:Func)(tmps:Array Value):results fn tmps=(do
  let vs <-fn.results.mapM (tK tmps)
  pure (if h:vs.size=1 then vs[0] else .tuple vs)):=by
 unfold results
 congr 1
theorem SW{fn:Func}{σ:Map}{env:Env}{h:H}{nx nx':Nat}{tmps:Array Value}{w:World}{v:AV}{h':H}(re:RE σ env tmps)(rh:RH σ h w)(hr:lS P fn env h nx=.ok v h' nx'):
  h'=h/\nx'=nx/\∃u,(results fn tmps).run P w=.ok u w/\RV σ v u:=by
 unfold lS at hr;have key:∀r,lR P env h fn.results.toList=some r->∃vs,RVs σ r vs/\(results fn tmps).run P w=.ok (if h:vs.toArray.size=1 then vs.toArray[0] else .tuple vs.toArray) w:=by intro r hr;obtain⟨vs,h1,h2⟩:=HM re rh _ r hr;refine⟨vs,h2,?_⟩;rw[aIo,Array.mapM_eq_mapM_toList];simp[h1]
 split at hr
 ·rename_i v' hv;cases hr;obtain⟨vs,h1,h2⟩:=key _ hv;refine⟨rfl,rfl,?_⟩;cases h1 with
  |cons _ u _ m h3 h4=>cases h4;exact⟨u,by simpa using h2,h3⟩
 ·rename_i vs' hne hv;cases hr;obtain⟨vs,h1,h2⟩:=key _ hv;refine⟨rfl,rfl,?_⟩;have hl:=h1.length;have:vs.toArray.size≠1:=by simp only[List.size_toArray];intro e;rw[e] at hl;obtain⟨x,hx⟩:=List.length_eq_one_iff.1 hl;exact hne x hx
  exact⟨.tuple vs.toArray,by rw[h2,dif_neg this],.tup _ _ (by simpa using h1)⟩
 ·cases hr
theorem FH:∀(l:List AV) (i:Nat) (env:Env) (t:Nat),(gT l i env).get t=if i<=t/\t<i+l.length then l[t-i]? else env.get t
 |[],i,env,t=>by
  rw[if_neg (by simp only[List.length_nil];omega)]
  rfl
 |v::l,i,env,t=>by
  unfold gT;rw[FH l (Nat.succ i)];simp only[List.length_cons];by_cases h1:t=i
  ·subst h1;rw[if_neg (by omega),if_pos (by omega),Tr.get_set]
   simp
  ·by_cases h2:Nat.succ i<=t/\t<Nat.succ i+l.length
   ·rw[if_pos h2,if_pos (by omega)]
    have:t-i=(t-Nat.succ i)+1:=by omega
    rw[this];simp
   ·rw[if_neg h2,if_neg (by omega),Tr.get_set,if_neg h1]
theorem aCJ{σ:Map}{l:List AV}{vs:List Value}(h:RVs σ l vs)(n:Nat):RE σ (gT l 0 .e) (vs.toArray++Array.replicate n undef):=by
 intro t;rw[FH];simp only[Nat.zero_le,true_and,Nat.zero_add,Nat.sub_zero];have hl:=h.length;by_cases ht:t<l.length
 ·rw[if_pos ht];have h1:l[t]? =some l[t]:=List.getElem?_eq_getElem ht;obtain⟨v,h2,h3⟩:=h.get h1;rw[h1];simp only;have:(vs.toArray++Array.replicate n undef).getD t undef=v:=by
   rw[Array.getD_eq_getD_getElem?,Array.getElem?_append_left (by simp;omega)]
   simp[h2]
  rw[this];exact h3
 ·rw[if_neg ht,Tr.get_e];simp only;have:(vs.toArray++Array.replicate n undef).getD t undef=undef:=by
   rw[Array.getD_eq_getD_getElem?,Array.getElem?_append_right (by simp;omega)]
   simp only[List.size_toArray,Array.getElem?_replicate];split<;>rfl
  rw[this];exact .undef
def rJ(P:Program)(X:Ovr):Prop:=kP P fun f args h nx=>match X f with|some k=>k args h nx|none=>.bad
def wU (P : Program) : Bool := P.funcs.toList.all fun fn => fn.body.isNone || !(fn.name == "runtime.NumGoroutine")
theorem FM{X:Ovr}(hX:rJ P X)(hc:wU P=true):∀n,kP P (bM P X n)
 |0=>fun f args h nx v h' nx' hr=>by cases hr
 |n+1=>by
  have ih:=FM hX hc n;intro f args h nx v h' nx' hr σ w vs rh bd gl hvs;unfold bM at hr;split at hr
  ·rename_i k hk;exact hX f args h nx v h' nx' (by simp only[hk];exact hr) σ w vs rh bd gl hvs
  ·split at hr
   ·cases hr
   ·rename_i fn hf;split at hr
    ·cases hr
    ·rename_i c hb;cases hok:eH P fn.ntmps c with
     |false=>rw[hok] at hr;cases hr
     |true=>
      rw[hok,cond_true] at hr
      have hname : (fn.name == "runtime.NumGoroutine") = false := by
       have:=List.all_eq_true.1 hc fn (by have:=(Array.getElem?_eq_some_iff.1 hf).2;rw[<-this];simp)
       simpa[hb] using this
      have hent:(callFunc f vs.toArray).run P w=.ok (.enter f vs.toArray) w:=by
       have h1 : fn.name ≠ "runtime.NumGoroutine" := by simpa using hname
       simp[callFunc,hf,h1,hb]
      refine .inl ⟨hent,calls_of_wp hf hb ?_⟩;have s:St P fn.ntmps σ (gT args 0 .e) h nx {tmps:=vs.toArray++Array.replicate (fn.ntmps-vs.toArray.size) undef,defers:=[]} w:=⟨aCJ hvs _,rh,bd,gl,rfl,by simp;omega⟩
      have hne:evC P (bM P X n) n c (gT args 0 .e) h nx≠.bad:=fun e=>by rw[e] at hr;cases hr
      refine wp_mono ((O2 ih n).1 c hok σ _ h nx _ w s hne) fun e a' w' hp=>?_;generalize evC P (bM P X n) n c (gT args 0 .e) h nx=r at hp hr;cases r with
      |norm env1 h1 nx1=>obtain⟨he,τ,e1,hle,s1⟩:=hp;subst he;obtain⟨k1,k2,u,k3,k4⟩:=SW s1.re s1.rh hr;subst k1 k2;exact⟨s1.df,u,k3,u,rfl,τ,e1,hle,k4⟩
      |ret env1 h1 nx1=>obtain⟨he,τ,e1,hle,s1⟩:=hp;subst he;obtain⟨k1,k2,u,k3,k4⟩:=SW s1.re s1.rh hr;subst k1 k2;exact⟨s1.df,u,k3,u,rfl,τ,e1,hle,k4⟩
      |exit id env1 h1 nx1=>cases hr
      |bad=>exact hp.elim
end
abbrev Ent:=List AV->H->Nat->CR
def ovr:List (Nat×Ent)->Ovr
 |[]=>fun _=>none
 |p::l=>fun f=>bif Nat.beq f p.1 then some p.2 else ovr l f
def nR(P:Program)(f:FuncId)(k:Ent):Prop:=
 ∀args h nx v h' nx',k args h nx=.ok v h' nx'->∀σ w (vs:List Value),RH σ h w->Bd σ nx->f0 P σ->RVs σ args vs->
  qT P f vs.toArray w (fun u w'=>∃σ',Ext (Rg nx nx') σ h w σ' h' w'/\nx<=nx'/\RV σ' v u)
theorem G3{P:Program}:∀{l:List (Nat×Ent)},(∀p∈l,nR P p.1 p.2)->rJ P (ovr l)
 |[],_=>fun f args h nx v h' nx' hr=>by cases hr
 |p::l,hl=>fun f args h nx v h' nx' hr=>by
  unfold ovr at hr;dsimp only at hr;rw[bJ] at hr;by_cases e:f=p.1
  ·subst e;simp only[decide_true,cond_true] at hr;exact hl p (.head _) args h nx v h' nx' hr
  ·simp only[e,decide_false,cond_false] at hr;exact G3 (fun q hq=>hl q (.tail _ hq)) f args h nx v h' nx' hr
section
variable {P : Program}
def oM:Option Nat->AV
 |some n=>.int .i64 (.ofNat n)
 |none=>.int .i64 (.negSucc 0)
def AU(c:Nat):List Nat->Nat->Option Nat
 |[],_=>none
 |x::l,i=>bif Nat.beq x c then some i else AU c l (Nat.succ i)
def wH:List Nat->List Nat->Bool
 |[],_=>true
 |_::_,[]=>false
 |a::l,b::m=>bif Nat.beq a b then wH l m else false
def sX(p:List Nat):List Nat->Nat->Option Nat
 |[],i=>(match p with|[]=>some i|_=>none)
 |x::l,i=>bif wH p (x::l) then some i else sX p l (Nat.succ i)
theorem aJa(x:UInt8)(c:Nat)(hc:c<256):Nat.beq x.toNat c=(x==UInt8.ofNat c):=by
 rw[bJ,Bool.eq_iff_iff];simp only[decide_eq_true_eq,beq_iff_eq];constructor
 ·intro h;rw[<-h];simp
 ·intro h;rw[h];simp;omega
theorem QA(c:Nat)(hc:c<256):∀(l:List UInt8) (i:Nat),oM (AU c (l.map (·.toNat)) i)=.int .i64 (if Lib.indexByte l (UInt8.ofNat c)= -1 then -1 else Lib.indexByte l (UInt8.ofNat c)+i)
 |[],i=>rfl
 |x::l,i=>by
  simp only[List.map_cons,AU,aJa x c hc,Lib.indexByte];rcases Bool.eq_false_or_eq_true (x==UInt8.ofNat c) with hx|hx
  ·simp only[hx,cond_true,if_true,oM];simp
  ·simp only[hx,cond_false,Bool.false_eq_true,if_false];rw[QA c hc l (Nat.succ i)];have:=Lib.indexByte_ge l (UInt8.ofNat c);by_cases e:Lib.indexByte l (UInt8.ofNat c)= -1
   ·simp[e]
   ·have e2:(Lib.indexByte l (UInt8.ofNat c)== -1)=false:=by simpa using e
    simp only[e,e2,if_false,Bool.false_eq_true];rw[if_neg (by omega)]
    congr 1
    simp only[Nat.succ_eq_add_one,Int.natCast_add];omega
theorem QE:∀(p l:List UInt8),wH (p.map (·.toNat)) (l.map (·.toNat))=p.isPrefixOf l
 |[],l=>by simp[wH]
 |a::p,[]=>rfl
 |a::p,b::l=>by
  simp only[List.map_cons,wH,List.isPrefixOf,QE p l,bJ];have:(a==b)=decide (a.toNat=b.toNat):=by rw[Bool.eq_iff_iff];simp[UInt8.toNat_inj]
  rw[this];cases decide (a.toNat=b.toNat)<;>rfl
theorem QB(p:List UInt8):∀(l:List UInt8) (i:Nat),oM (sX (p.map (·.toNat)) (l.map (·.toNat)) i)=.int .i64 (if Lib.index l p= -1 then -1 else Lib.index l p+i)
 |[],i=>by
  cases p with
  |nil=>simp[sX,oM,Lib.index]
  |cons a p=>simp[sX,oM,Lib.index]
 |x::l,i=>by
  have hp:=QE p (x::l);simp only[List.map_cons] at hp;simp only[List.map_cons,sX,hp,Lib.index];rcases Bool.eq_false_or_eq_true (p.isPrefixOf (x::l)) with hx|hx
  ·simp only[hx,cond_true,if_true,oM];simp
  ·simp only[hx,cond_false,Bool.false_eq_true,if_false];rw[QB p l (Nat.succ i)];have:=Lib.index_ge l p;by_cases e:Lib.index l p= -1
   ·simp[e]
   ·have e2:(Lib.index l p== -1)=false:=by simpa using e
    simp only[e,e2,if_false,Bool.false_eq_true];rw[if_neg (by omega)]
    congr 1
    simp only[Nat.succ_eq_add_one,Int.natCast_add];omega
def sZ:Ent:=fun args h nx=>match args with
 |[.ptr b o]=>.ok (.ptr b o) h nx
 |_=>.bad
def GF:Ent:=fun args h nx=>match args with
 |[.str s,.int .u8 (.ofNat c)]=>bif Nat.blt c 256 then .ok (oM (AU c s 0)) h nx else .bad
 |_=>.bad
def GG(g:Nat):Ent:=fun args h nx=>match args with
 |[.str s,.str p]=>(match h.get g with
  |some (.cells (.int .i64 _::_) _ _ _)=>bif Nat.blt (len s) 4294967281 then .ok (oM (sX p s 0)) h nx else .bad
  |_=>.bad)
 |_=>.bad
structure rI(P:Program)(f:FuncId)(e:Array Value->Sem Value):Prop where
 run:∀args w,(callFunc f args).run P w=((e args).run P w).andThen fun v w'=>.ok (.value v) w'
theorem aDD{f:FuncId}(he:rI P f Extern.AbiNoEscape.same):nR P f sZ:=by
 intro args h nx v h' nx' hr σ w vs rh bd gl hvs;unfold sZ at hr;split at hr
 ·cases hr;cases hvs with|cons _ x _ m hx hm=>cases hm;exact .inr ⟨x,w,by rw[he.run,Lib.run_noEscape];rfl,σ,Ext.refl rh,Nat.le_refl _,hx⟩
 ·cases hr
theorem GY(s:ByteArray):cQ s=s.data.toList.map (·.toNat):=rfl
theorem aDA{f:FuncId}(he:rI P f Extern.BytealgIndexByte.indexByte):nR P f GF:=by
 intro args h nx v h' nx' hr σ w vs rh bd gl hvs;unfold GF at hr;split at hr
 ·rename_i s c;rw[bO] at hr;by_cases hc:c<256
  ·simp only[hc,decide_true,cond_true] at hr;cases hr;cases hvs with|cons _ x _ m hx hm=>
   cases hm with|cons _ y _ m' hy hm'=>
   cases hm';cases hy;cases hx with|str _ b hb=>
   refine .inr ⟨.int .i64 (Lib.indexByte b.data.toList (UInt8.ofNat c)),w,?_,σ,Ext.refl rh,Nat.le_refl _,?_⟩
   ·rw[he.run,Lib.run_indexByteString];rfl
   ·rw[<-hb,GY,QA c hc];have e:(if Lib.indexByte b.data.toList (UInt8.ofNat c)= -1 then (-1:Int) else Lib.indexByte b.data.toList (UInt8.ofNat c)+(0:Nat))=Lib.indexByte b.data.toList (UInt8.ofNat c):=by split<;>omega
    rw[e];exact .int _ _
  ·simp[hc] at hr
 ·cases hr
theorem aDB{f:FuncId}{g:Nat}{ρ:Shelf.Ren}(L:Go.Proofs.Lays.n219 P ρ)(hf:ρ.f 219=f)(hg:ρ.g 1=g)(hlt:g<P.globals.size):nR P f (GG g):=by
 intro args h nx v h' nx' hr σ w vs rh bd gl hvs;unfold GG at hr;split at hr
 ·rename_i s p;split at hr
  ·rename_i m l e fz raw hb;rw[bO] at hr;by_cases hs:len s<4294967281
   ·rw[decide_eq_true hs,cond_true] at hr;cases hr;cases hvs with|cons _ x _ m1 hx hm=>
    cases hm with|cons _ y _ m' hy hm'=>
    cases hm';cases hx with|str _ b hb1=>
    cases hy with|str _ b' hb2=>
    obtain⟨xx,hL⟩:=gl g hlt;obtain⟨c,lo,hi,hh,_,_,hv,_⟩:=rh.cells hb hL;obtain⟨u,hu,hru⟩:=hv 0 _ rfl;cases hru;have hcell:w.cell? ⟨ρ.g 1,0,none⟩=some (.int .i64 m):=by rw[hg,pY hh];exact hu
    have hsz:b.size<4294967281:=by rw[aT,<-hb1,i4] at hs;exact hs
    have hc:=Go.Proofs.Any.stringslite_Index L b b' m w hsz hcell;rw[hf] at hc;have hent:(callFunc f #[.string b,.string b']).run P w=.ok (.enter f #[.string b,.string b']) w:=by
     have:=Go.Proofs.enters_of L.f219 (by kernel_rfl) rfl #[.string b,.string b'] w
     rw[hf] at this;exact this
    refine .inl ⟨hent,hc.mono ?_⟩;rintro e w' ⟨rfl,rfl⟩;refine⟨_,rfl,σ,Ext.refl rh,Nat.le_refl _,?_⟩;rw[<-hb1,<-hb2,GY,GY,QB];have e:(if Lib.index b.data.toList b'.data.toList= -1 then (-1:Int) else Lib.index b.data.toList b'.data.toList+(0:Nat))=Lib.index b.data.toList b'.data.toList:=by split<;>omega
    rw[e];exact .int _ _
   ·simp[hs] at hr
  ·cases hr
 ·cases hr
end
section
open Go.RowKit
section
variable {P : Program}
structure Tab where
 g:Nat
 l:List AV
 e:TypeId
def Tab.blk(t:Tab):AB:=.cells t.l t.e (Nat.succ (len t.l)) true
def iP:List Tab->H->H
 |[],h=>h
 |t::r,h=>(iP r h).set t.g t.blk
def kB:AV->Bool
 |.int _ _=>true
 |_=>false
structure pW(P:Program)(W:World)(t:Tab):Prop where
 lt:t.g<P.globals.size
 blk:∃c:Array Value,W.heap[t.g]? =some (.cells c t.e (0,0))/\t.l.length<=c.size/\∀(i:Nat) (a:AV),t.l[i]? =some a->∃k n,a=AV.int k n/\c[i]? =some (Value.int k n)
theorem tX:∀{L:List Tab} {h:H} {i:Nat} {A:AB},(iP L h).get i=some A->(∃t:Tab,t∈L/\i=t.g/\A=t.blk)\/((∀t∈L,i≠t.g)/\h.get i=some A)
 |[],h,i,A,e=>.inr ⟨fun t (ht:t∈([]:List Tab))=>absurd ht (List.not_mem_nil),e⟩
 |t::L,h,i,A,e=>by
  unfold iP at e;rw[Tr.get_set] at e;by_cases hi:i=t.g
  ·simp only[hi,if_true,Option.some.injEq] at e;exact .inl ⟨t,.head _,hi,e.symm⟩
  ·simp only[hi,if_false] at e;rcases tX e with⟨u,h1,h2⟩|⟨h1,h2⟩
   ·exact .inl ⟨u,.tail _ h1,h2⟩
   ·refine .inr ⟨fun u hu=>?_,h2⟩;rcases List.mem_cons.1 hu with rfl|hu
    ·exact hi
    ·exact h1 u hu
def m8:List Tab->Nat->Nat
 |[],_=>0
 |t::L,i=>if i=t.g then t.l.length else m8 L i
def lL(P:Program)(L:List Tab):Map:=fun i=>if i<P.globals.size then some ⟨i,0,m8 L i⟩ else none
theorem aJ0(t:Tab):t.blk.ro=true:=by show Nat.blt (len t.l) (Nat.succ (len t.l))=true;rw[bO];simp
theorem aJN{W:World}{L:List Tab}(hs:P.globals.size<=W.heap.size)(hnd:(L.map (·.g)).Nodup)(hL:∀t∈L,pW P W t):
  RH (lL P L) (iP L .e) W/\Bd (lL P L) P.globals.size/\f0 P (lL P L):=by
 have hmap:∀i,i<P.globals.size->lL P L i=some ⟨i,0,m8 L i⟩:=fun i hi=>if_pos hi;have hlen:∀{L:List Tab},(L.map (·.g)).Nodup->∀t∈L,m8 L t.g=t.l.length:=by
  intro L hnd
  induction L with
  |nil=>intro t ht;cases ht
  |cons u L ih=>
   intro t ht;rw[List.map_cons,List.nodup_cons] at hnd;rcases List.mem_cons.1 ht with rfl|h1
   ·simp[m8]
   ·have hne:t.g≠u.g:=fun e=>hnd.1 (by rw[<-e];exact List.mem_map_of_mem h1)
    simp only[m8,hne,if_false];exact ih hnd.2 t h1
 refine⟨⟨fun i A hi=>?_,fun i j A B M M' hi hj hM hM' e=>?_,fun i M hi=>?_⟩,fun i hi=>?_,fun g hg=>⟨_,hmap g hg⟩⟩
 ·rcases tX hi with⟨t,ht,rfl,rfl⟩|⟨_,h1⟩
  ·obtain⟨c,h1,h2,h3⟩:=(hL t ht).blk;refine⟨_,hmap _ (hL t ht).lt,?_⟩;rw[hlen hnd t ht];refine .cells t.l t.e _ true c 0 0 h1 h2 (by simp) (fun i a ha=>?_) (fun i v _ hi hc=>?_) (fun i _ _=>by omega) (fun e=>by cases e) (.inl rfl)
   ·obtain⟨k,n,rfl,h4⟩:=h3 i a ha;exact⟨_,by simpa using h4,.int _ _⟩
   ·simp only at hi;obtain⟨k,n,_,h4⟩:=h3 i t.l[i] (List.getElem?_eq_getElem hi);rw[h4] at hc;cases hc;rfl
  ·rw[Tr.get_e] at h1;cases h1
 ·rcases tX hi with⟨t,ht,rfl,rfl⟩|⟨_,h1⟩
  ·rcases tX hj with⟨u,hu,rfl,rfl⟩|⟨_,h1⟩
   ·rw[hmap _ (hL t ht).lt] at hM;rw[hmap _ (hL u hu).lt] at hM';cases hM;cases hM';exact e
   ·rw[Tr.get_e] at h1;cases h1
  ·rw[Tr.get_e] at h1;cases h1
 ·unfold lL at hi;split at hi
  ·cases hi;simp only;omega
  ·cases hi
 ·exact if_neg (by omega)
theorem tQ{W:World}(h:W.ShapedOpen P){g:Nat}{t:TypeId}{n:Nat}(hg:g<P.globals.size)(hz:(((begin P (fun _ _=>0) default).world.heap[g]?).bind Obj.row?).map (fun x=>(x.1.size,x.2))=some (n,t)):
  ∃cs,W.heap[g]? =some (.cells cs t (0,0))/\cs.size=n/\(P.buildable t=true->Row.ok P W .any 0 t cs):=by
 obtain⟨⟨zero,t'⟩,hz1,hz2⟩:=Option.map_eq_some_iff.1 hz;cases hz2;exact h.1 g zero _ hg hz1
theorem aIy{W:World}(h:W.ShapedOpen P){g:Nat}{t:TypeId}{n:Nat}(h1:g+1=P.globals.size)(hz:(((begin P (fun _ _=>0) default).world.heap[g]?).bind Obj.row?).map (fun x=>(x.1.size,x.2))=some (n,t)):
  P.globals.size<=W.heap.size:=by
 obtain⟨cs,hb,_⟩:=tQ h (by omega) hz
 have:=(Array.getElem?_eq_some_iff.1 hb).1;omega
theorem aIw{W:World}(h:W.ShapedOpen P){g:Nat}{t:TypeId}{k:IntKind}(hg:g<P.globals.size)(hz:(((begin P (fun _ _=>0) default).world.heap[g]?).bind Obj.row?).map (fun x=>(x.1.size,x.2))=some (1,t))
  (hb:P.buildable t=true) (hu:P.underlying t=some (.int k)) (hct:P.cellTypes P.depth t=some [t]):∃m,W.heap[g]? =some (.cells #[.int k m] t (0,0)):=by
 obtain⟨cs,h1,h2,h3⟩:=tQ h hg hz;obtain⟨ts,k1,_,k2⟩:=h3 hb;rw[hct] at k1;cases k1;have e:cs=#[cs[0]'(by omega)]:=by
  apply Array.ext
  ·simpa using h2
  ·intro i hi hi';have:i=0:=by omega
   subst this;rfl
 obtain⟨u,k3,k4⟩:=k2 0 (cs[0]'(by omega)) (by simp[h2])
 simp only[Nat.zero_mod,List.getElem?_cons_zero,Option.some.injEq] at k3;subst k3;generalize cs[0]'(by omega)=v at e k4
 subst e;unfold Cell.ok at k4;rw[hu] at k4;cases v<;>simp only at k4;obtain⟨rfl,_⟩:=k4;exact⟨_,h1⟩
def wG(g:Nat)(t:TypeId)(k:IntKind)(m:Int):Tab:=⟨g,[.int k m],t⟩
theorem aCx{W:World}{g:Nat}{t:TypeId}{k:IntKind}{m:Int}(hg:g<P.globals.size)(h:W.heap[g]? =some (.cells #[.int k m] t (0,0))):pW P W (wG g t k m):=
 ⟨hg,_,h,by simp[wG],fun i a ha=>by
  cases i with
  |zero=>cases ha;exact⟨k,m,rfl,rfl⟩
  |succ i=>cases ha⟩
end
section
variable {P : Program}
def Map.low(σ:Map)(g:Nat):Map:=fun i=>if i<g then σ i else none
theorem Map.low_le(σ:Map)(g:Nat):(σ.low g).le σ:=fun i l h=>by
 unfold Map.low at h;split at h
 ·exact h
 ·cases h
theorem Map.low_at{σ:Map}{g i:Nat}(h:i<g):σ.low g i=σ i:=by simp[Map.low,h]
theorem RB.ints{σ τ:Map}{w:World}{L:Loc}{l:List AV}{e:TypeId}{fz:Nat}{raw:Bool}(h1:l.all kB=true)(r:RB σ w L (.cells l e fz raw)):RB τ w L (.cells l e fz raw):=by
 cases r with
 |cells _ _ _ _ c lo hi hh hx hl hv h1' hf hr ho=>refine .cells l e fz raw c lo hi hh hx hl (fun i a ha=>?_) h1' hf hr ho;obtain⟨v,k1,k2⟩:=hv i a ha;have:=List.all_eq_true.1 h1 a (List.mem_of_getElem? ha);cases a<;>simp only[kB,Bool.false_eq_true] at this;cases k2;exact⟨_,k1,.int _ _⟩
end
end
def mZ:Nat->DataW Unit->List Value
 |0,_=>[]
 |n+1,d=>match d with
  |.lit (.int k z)=>[.int k z]
  |.agg l=>l.flatMap (mZ n)
  |.slice l _=>l.flatMap (mZ n)
  |_=>[]
def TE:DataW Unit->Nat
 |.slice l _=>l.length
 |_=>0
def putD(h:Array Obj)(g:Nat)(cs:Array Value):Array Obj:=h.modify g fun
 |.cells _ t frozen=>.cells cs t frozen
 |o=>o
section
open Go.RowKit Go.WideShapes Go.ChangeShapes
variable {H : Type} {enc : TypeId × Value → H} {P : Program}
theorem aGj{f:Func}{s:ChangeSpec}{apart fresh handsOn again:Bool}{W W':World}{args:Array Value}{v:Value}{ds gs:List (DataW H)}{before pa pv:List MemPlace}
  (hW:DataW.Whole enc P f.params.toList s.vars apart W args.toList ds gs before)
  (hres:∀(b:Nat) (sp:Nat->Bool) (hd:Bool),DataW.TrodAll enc P W' b sp hd f.resultTypes.toList (v.resultList f.resultTypes.size) (s.fn H (ds++gs)).results [])
  (hargs:∀sp:Nat->Bool,(∀p∈before,sp p.block=true)->DataW.TrodAll enc P W' 0 sp true f.params.toList args.toList (s.fn H (ds++gs)).args pa)
  (hvars:∀sp:Nat->Bool,(∀p∈before,sp p.block=true)->DataW.TrodVars enc P W' sp s.vars (s.fn H (ds++gs)).vars pv)
  (hps:before=pa++pv) (hb:Below W.heap.size W W')
  (hok:∀(j:Nat) (t:TypeId) (r:Value),f.resultTypes[j]? =some t->(v.resultList f.resultTypes.size)[j]? =some r->Value.okWide P W' .any 0 t r):
  s.post enc P f apart fresh handsOn again W args v W':=by
 have hlt:∀p∈before,p.block<W.heap.size:=fun p hp=>hW.lt p hp;have hold:∀p∈before,(fun b=>decide (b<W.heap.size)) p.block=true:=fun p hp=>by simpa using hlt p hp
 refine⟨ds,gs,before,[],pa,pv,hW,hres _ _ _,hargs _ hold,hvars _ hold,World.keptBut_mono (fun p hp=>⟨hp,?_⟩) (hb.frame (·∈before)),fun _=>?_⟩
 ·rw[hps,List.mem_append] at hp;exact Or.inr hp
 ·obtain⟨_,_,_,_,_,hz,hn⟩:=hW;refine⟨hok,_,_,([]++pa)++pv,⟨[]++pa,pv,trodAll_append (hargs _ (fun _ _=>rfl)) (hres _ _ _),hvars _ (fun _ _=>rfl),rfl,?_,?_⟩,?_⟩
  ·intro b off hp;have hin:MemPlace.cell b off∈before:=by rw[hps];simpa using hp
   rw[hb.frozen (hlt _ hin)];exact hz b off hin
  ·intro ha;have:=hn ha;rw[hps] at this;simpa using this
  ·intro p hp _;rw[hps];simpa using hp
end
section
variable {P : Program}
theorem aEr{a b:IntKind}(h:keq a b=true):a=b:=by cases a<;>cases b<;>first|rfl|cases h
theorem OL:∀(n t:Nat) (acc:Array Value),(∀(i:Nat) v,acc[i]? =some v->v.oneCell'=true)->∀(i:Nat) v,(Extern.BytealgMakeNoZero.digits n t acc)[i]? =some v->v.oneCell'=true
 |0,_,_,h=>h
 |n+1,t,acc,h=>by
  refine OL n (t / 256) _ fun i v hi=>?_;rw[Array.getElem?_push] at hi;split at hi
  ·cases hi;rfl
  ·exact h i v hi
def wI(e:TypeId):Ent:=fun args h nx=>match args with
 |[a]=>(match a with
  |.int k n=>(match n with
   |.ofNat n=>bif keq k .i64&&Nat.ble n 281474976710656 then .ok (.sl nx 0 n 1 none) (h.set nx (.cells (reps n [.junk]) e 0 false)) (Nat.succ nx) else .bad
   |.negSucc _=>.bad)
  |_=>.bad)
 |_=>.bad
theorem SV:∀(n:Nat),(reps n [AV.junk]).length=n/\∀a∈reps n [AV.junk],a=.junk
 |0=>⟨rfl,fun _ h=>by cases h⟩
 |n+1=>by
  obtain⟨h1,h2⟩:=SV n;constructor
  ·simp[reps,app,h1]
  ·intro a ha;simp only[reps,app,List.mem_cons] at ha;rcases ha with rfl|ha
   ·rfl
   ·exact h2 a ha
theorem aDE{f:FuncId}{ps:Array TypeId}{t e:TypeId}(he:rI P f (Extern.BytealgMakeNoZero.makeNoZero ps #[t]))(ht:P.underlying t=some (.slice e)):nR P f (wI e):=by
 intro args h nx v h' nx' hr σ w vs rh bd gl hvs;unfold wI at hr;split at hr
 ·rename_i a;split at hr
  ·rename_i k n0;split at hr
   ·rename_i n;cases hk:(keq k .i64&&Nat.ble n 281474976710656) with
    |false=>rw[hk] at hr;cases hr
    |true=>
     rw[hk,cond_true] at hr;cases hr;simp only[Bool.and_eq_true] at hk;have hkk:=aEr hk.1;subst hkk;have hn:=Nat.le_of_ble_eq_true hk.2;cases hvs with|cons _ x _ m hx hm=>
     cases hm;cases hx;have hn':n<=281474976710656:=hn;have hdef:Extern.BytealgMakeNoZero.makeNoZero ps #[t] #[.int .i64 (Int.ofNat n)]=
       (do
        let .slice elem ← underlying t | stuck "bytealg.MakeNoZero: slice type expected"
        if (n : Int) < 0 || (n : Int) > 2 ^ 48 then runtimePanic (.error "makeslice: len out of range")
        let cap <-choose (.appendCap (n:Int).toNat 0 elem)
        askRoom cap
        let bytes ← choose (.extern "internal/bytealg.MakeNoZero.bytes" 0)
        let a <-newRow elem (Extern.BytealgMakeNoZero.digits cap bytes #[])
        pure (.slice (some a) (n:Int).toNat cap)):=rfl
     have h1:¬(n:Int)<0:=by omega
     have h2:¬(281474976710656:Int)<(n:Int):=by omega
     generalize hcs : Extern.BytealgMakeNoZero.digits (grownCap w n 0 e) ((Question.extern "internal/bytealg.MakeNoZero.bytes" 0).cut (w.tape (w.drawn + 1) (.extern "internal/bytealg.MakeNoZero.bytes" 0))) #[] = cs
     have hsz:cs.size=grownCap w n 0 e:=by rw[<-hcs,Lib.size_digits];simp
     have hge:n<=cs.size:=by rw[hsz];exact grownCap_ge w n 0 e
     have hint:∀(i:Nat) v,cs[i]? =some v->v.oneCell'=true:=by rw[<-hcs];exact OL _ _ _ fun i v hi=>by simp at hi
     have hrun:(Extern.BytealgMakeNoZero.makeNoZero ps #[t] #[.int .i64 (Int.ofNat n)]).run P w=.ok (.slice (some ⟨w.heap.size,0,none⟩) n cs.size) (w.drew.drew.alloc (.cells cs e)):=by rw[hdef];simp[run_underlying ht,h1,h2,Question.forced,newRow,Lib.size_digits,grownCap] at hcs ⊢;rw[hcs];simp[hsz,grownCap]
     refine .inr ⟨.slice (some ⟨w.heap.size,0,none⟩) n cs.size,w.drew.drew.alloc (.cells cs e),by rw[he.run];rw[hrun];rfl,σ.put nx ⟨w.heap.size,0,cs.size⟩,?_,by omega,?_⟩
     ·have hnone:σ nx=none:=bd nx (Nat.le_refl _);obtain⟨r1,r2⟩:=SV n;refine (Ext.alloc rh hnone cs.size (.cells (reps n [.junk]) e 0 false) (.cells cs e) (w.drew.drew.alloc (.cells cs e)) rfl ⟨rfl,rfl,rfl⟩ ?_).weaken fun i hi=>by subst hi;exact⟨Nat.le_refl _,by omega⟩
      refine .cells _ e 0 false cs 0 0 ?_ (Nat.le_refl _) (by simp only;rw[r1];omega) (fun i a ha=>?_) (fun i v _ _ hc=>hint i v hc) (fun i _ _=>by omega) (fun _=>.inl rfl) (.inl rfl)
      ·show (w.heap.push (.cells cs e))[w.heap.size]? =_;simp
      ·have hlt:i<n:=by have:=(List.getElem?_eq_some_iff.1 ha).1;omega
       have:=r2 a (List.mem_of_getElem? ha);subst this;exact⟨cs[i]'(by omega),by simp only[Nat.zero_add];exact Array.getElem?_eq_getElem (by omega),.junk _⟩
     ·exact .slu nx 0 n 1 cs.size ⟨w.heap.size,0,cs.size⟩ (Map.put_same _ _ _) hge (by omega) (by simp)
   ·cases hr
  ·cases hr
 ·cases hr
end
end Go.Ev
namespace Go.Proofs.YtjoadepfokpcoaaGreatDoor
section
open Go Go.Ev
def ren:Shelf.Ren:=⟨fun|217=>230|219=>210|224=>232|225=>231|266=>249|267=>233|314=>250|n=>n,fun|46=>39|51=>194|146=>266|n=>n,fun|1=>3|n=>n⟩
theorem aEz:Lays.n219 Tryz.prog ren:={
 mixed:=by kernel_rfl
 f217:=by kernel_rfl
 f219:=by kernel_rfl
 f224:=by kernel_rfl
 f225:=by kernel_rfl
 f266:=by kernel_rfl
 f267:=by kernel_rfl
 f314:=by kernel_rfl
 t3:=Tryz.underlying3
 a3:=Tryz.isAgg3
 z3:=Tryz.sizeOf3
 v3:=Tryz.zeroValue3
 t4:=Tryz.underlying4
 a4:=Tryz.isAgg4
 z4:=Tryz.sizeOf4
 v4:=Tryz.zeroValue4
 t5:=Tryz.underlying5
 a5:=Tryz.isAgg5
 z5:=Tryz.sizeOf5
 v5:=Tryz.zeroValue5
 t9:=Tryz.underlying9
 a9:=Tryz.isAgg9
 z9:=Tryz.sizeOf9
 v9:=Tryz.zeroValue9
 t46:=Tryz.underlying39
 a46:=Tryz.isAgg39
 z46:=Tryz.sizeOf39
 v46:=Tryz.zeroValue39
 t51:=Tryz.underlying194
 a51:=Tryz.isAgg194
 z51:=Tryz.sizeOf194
 v51:=Tryz.zeroValue194
 t146:=Tryz.underlying266
 a146:=Tryz.isAgg266
 z146:=Tryz.sizeOf266
 v146:=Tryz.zeroValue266
 g1:=by kernel_rfl}
theorem aC2:rI Tryz.prog 190 Extern.AbiNoEscape.same:=⟨run_callFunc_extern Tryz.func190 (by kernel_rfl) (by kernel_rfl) (by kernel_rfl) (by kernel_rfl)⟩
theorem aC0:rI Tryz.prog 249 Extern.BytealgIndexByte.indexByte:=⟨run_callFunc_extern Tryz.func249 (by kernel_rfl) (by kernel_rfl) (by kernel_rfl) (by kernel_rfl)⟩
theorem aC1:rI Tryz.prog 218 (Extern.BytealgMakeNoZero.makeNoZero #[3] #[125]):=⟨run_callFunc_extern Tryz.func218 (by kernel_rfl) (by kernel_rfl) (by kernel_rfl) (by kernel_rfl)⟩
def base:List (Nat×Ent):=[(210,GG 3),(190,sZ),(249,GF),(218,wI 5)]
theorem LJ:∀p∈base,nR Tryz.prog p.1 p.2:=by
 intro p hp;simp only[base,List.mem_cons,List.mem_nil_iff,or_false] at hp;rcases hp with rfl|rfl|rfl|rfl
 ·exact aDB aEz rfl rfl (of_decide_eq_true (by kernel_rfl))
 ·exact aDD aC2
 ·exact aDA aC0
 ·exact aDE aC1 Tryz.underlying125
theorem N9:wU Tryz.prog=true:=by kernel_rfl
end
end Go.Proofs.YtjoadepfokpcoaaGreatDoor
namespace Go.VL
section
open Go.Ev
inductive V where
 |bool (b:Bool)
 |int (k:IntKind) (n:Int)
 |str (l:List Nat)
 |nilp
 |nils
 |nilm
 |nilf
 |nili
 |ptr (b o:Nat)
 |fp (l:List V) (o:Nat)
 |sl (es:Nat) (l:List (List V)) (c:Option Nat)
 |msl (b o n es:Nat) (c:Option Nat)
 |map (b:Nat)
 |func (g:FuncId) (first captured:List V)
 |ifc (t:TypeId) (v:V)
 |agg (l:List V)
 |tup (l:List V)
 |lp (t o:Nat)
 |bx (l:List V)
 |it (rest:List Nat) (pos:Nat)
 |lost
 deriving Inhabited
inductive VB where
 |cells (l:List V) (e:TypeId) (fz:Nat) (raw:Bool)
 |map (es:List (V×V))
abbrev aH:=List (Nat×V)
abbrev VH:=Nat->Option VB
structure St where
 env:aH
 vh:VH
 nx:Nat
def lk:aH->Nat->Option V
 |[],_=>none
 |p::l,t=>bif Nat.beq p.1 t then some p.2 else lk l t
def gV(t:Nat):aH->aH
 |[]=>[]
 |p::l=>match p.2 with
  |.lp u _=>bif Nat.beq u t then (p.1,.lost)::gV t l else p::gV t l
  |_=>p::gV t l
def jS(env:aH)(t:Nat):V->aH
 |.bx l=>(t,.bx l)::gV t env
 |.it r p=>(t,.it r p)::gV t env
 |.lp u o=>bif Nat.beq u t then (t,.lost)::env else (t,.lp u o)::env
 |v=>(t,v)::env
def aI(vh:VH)(b:Nat)(B:VB):VH:=fun i=>bif Nat.beq i b then some B else vh i
def bX(vh:VH)(b:Nat):VH:=fun i=>bif Nat.beq i b then none else vh i
inductive VX where
 |t (n:Nat)
 |c (v:V)
 |g (k:Nat)
 |f (g:FuncId)
abbrev Gt:=Nat->Option (List V)
def rdV(G:Gt)(env:aH):VX->Option V
 |.t n=>(match lk env n with
  |some (.bx _)=>some (.lp n 0)
  |some (.it _ _)=>some (.lp n 0)
  |r=>r)
 |.c v=>some v
 |.g k=>(match G k with|some l=>some (.fp l 0)|none=>none)
 |.f g=>some (.func g [] [])
def aB(c:Bool)(A B:Prop):Prop:=match c with
 |true=>A
 |false=>B
theorem aB.t{c:Bool}{A B:Prop}(h:aB c A B)(hc:c=true):A:=by subst hc;exact h
theorem aB.f{c:Bool}{A B:Prop}(h:aB c A B)(hc:c=false):B:=by subst hc;exact h
theorem aB.mk{c:Bool}{A B:Prop}(t:c=true->A)(f:c=false->B):aB c A B:=by
 cases c with
 |true=>exact t rfl
 |false=>exact f rfl
theorem aB.no{c:Bool}{A B:Prop}(hc:c=false)(h:B):aB c A B:=by subst hc;exact h
structure Owe(p A:Prop):Prop where
 o:p
 k:A
inductive Get{α:Type}(p:α->Prop)(k:α->Prop):Prop where
 |mk (x:α) (h:p x) (hk:k x)
def V.cells:V->List V
 |.agg l=>l
 |v=>[v]
def eN{α:Type}:List α->(List α->Prop)->Prop
 |[],k=>k []
 |a::l,k=>eN l fun m=>k (a::m)
theorem i9{α:Type}:∀(l:List α) (k:List α->Prop),eN l k=k l
 |[],_=>rfl
 |_::l,k=>by rw[eN,i9 l]
inductive EK where
 |b|p|i|f|s
 |t (n:Nat)
inductive VOp where
 |mv (x:VX)
 |pick (c a b:VX)
 |allocL (z:List V)
 |allocH (z:List V) (e:TypeId)
 |boxL (x:VX)
 |boxH (x:VX) (e:TypeId)
 |build (z:List V) (ps:List (Nat×Nat×VX))
 |buildF (es:Nat) (n:Nat) (z:List V) (ps:List (Nat×VX))
 |buildH (es:Nat) (n:Nat) (z:List V) (ps:List (Nat×VX)) (e:TypeId)
 |load (x:VX) (ag:Bool) (n:Nat)
 |store (x v:VX) (n:Nat)
 |nilck (x:VX)
 |bin (op:BinOp) (x y:VX)
 |eq (kd:EK) (op:BinOp) (x y:VX)
 |un (op:UnOp) (x:VX)
 |cint (k:IntKind) (x:VX)
 |cstr (x:VX)
 |crune (x:VX)
 |cbytes (x:VX) (e:TypeId)
 |ctext (x:VX)
 |mkIfc (t:TypeId) (x:VX)
 |mkFn (g:FuncId) (fs cs:List VX)
 |mkMap
 |mkSl (es:Nat) (z:List V) (e:TypeId) (by':Nat) (l c:VX)
 |cutS (x:VX) (lo hi:Option VX)
 |cutL (es:Nat) (x:VX) (lo hi mx:Option VX)
 |cutA (es n:Nat) (x:VX) (lo hi:Option VX)
 |off (x:VX) (n:Nat)
 |fld (x:VX) (ag:Bool) (o n:Nat)
 |idx (es:Nat) (x i:VX)
 |idxA (es n:Nat) (x i:VX)
 |at (x i:VX)
 |look (sh:List (Option IntKind)) (ag:Bool) (z:V) (x i:VX) (ok:Bool)
 |upd (sh:List (Option IntKind)) (ag:Bool) (x i v:VX)
 |rng (x:VX)
 |next (x:VX)
 |asrt (t:TypeId) (z:V) (x:VX) (ok:Bool)
 |ext (x:VX) (i:Nat)
 |lenS (x:VX)
 |lenL (x:VX)
 |app (es:Nat) (z:List V) (by':Nat) (e:TypeId) (x y:VX)
 |copy (es:Nat) (x y:VX)
 |mx (l:List VX)
 |mn (l:List VX)
 |data (x:VX)
 |ustr (u:TypeId) (x n:VX)
 |cap (x:VX)
 |uconv (x:VX)
 |pconv (u:TypeId) (n:Nat) (x:VX)
 |bad
 |call (g:FuncId) (xs:List VX)
 |callv (x:VX) (xs:List VX)
inductive Gh where
 |keep (l:List Nat)
 |fz (t:Nat)
 |fzs (t:Nat) (es:Nat)
 |free (t:Nat)
 |fza (t o es:Nat)
inductive Tg where
 |n (ck:List Nat)
 |e
 |c (t:Nat)
structure bV where
 dst:Option Nat
 op:VOp
 guard:Option (Nat×Bool)
 gh:List Gh
 tg:Tg:=.n []
inductive aD where
 |skip
 |ret
 |exit (id:Nat)
 |seq (a b:aD)
 |cond (c:VX) (a b:aD)
 |block (id:Nat) (b:aD)
 |loop (b:aD)
 |scope (b:aD)
 |cut (b:aD)
 |gsk (gh:List Gh)
 |no
 |reg (draw:Nat) (ops:List bV) (gh:List Gh)
def V.undef:V:=.tup []
def put(s:St)(d:Option Nat)(v:V):St:=
 match d with
 |some d=>⟨jS s.env d v,s.vh,s.nx⟩
 |none=>s
def V.free:V->Bool
 |.lp _ _|.bx _|.it _ _|.lost=>false
 |_=>true
section
variable (G : Gt) (env : aH)
def rdK(x:VX)(k:V->Prop):Prop:=match rdV G env x with
 |some v=>k v
 |none=>False
def rdF(x:VX)(k:V->Prop):Prop:=rdK G env x fun
 |.lp _ _=>False
 |.bx _=>False
 |.it _ _=>False
 |.lost=>False
 |v=>k v
def rdC(x:VX)(k:V->Prop):Prop:=rdF G env x fun
 |.tup _=>False
 |v=>k v
def iN:List VX->(List V->Prop)->Prop
 |[],k=>k []
 |x::xs,k=>rdF G env x fun v=>iN xs fun vs=>k (v::vs)
def rdO(d:Nat)(x:Option VX)(k:Nat->Prop):Prop:=match x with
 |none=>k d
 |some x=>rdK G env x fun
  |.int _ n=>Get (fun j:Nat=>n=(j:Int)) k
  |_=>False
def BN:List (Nat×Nat×VX)->(List (Nat×Nat×V)->Prop)->Prop
 |[],k=>k []
 |p::ps,k=>rdC G env p.2.2 fun v=>BN ps fun vs=>k ((p.1,p.2.1,v)::vs)
def tJ(es:Nat):List (Nat×VX)->(List (Nat×Nat×V)->Prop)->Prop
 |[],k=>k []
 |p::ps,k=>rdC G env p.2 fun v=>tJ es ps fun vs=>k ((p.1*es,es,v)::vs)
end
def G8(t:Bool)(a b:V)(k:V->Prop):Prop:=match a,b with
 |.bool x,.bool y=>k (.bool (bif t then x else y))
 |a,b=>aB t (k a) (k b)
def mV:List V->List (Nat×Nat×V)->(List V->Prop)->Prop
 |cs,[],k=>k cs
 |cs,p::ps,k=>bif Nat.beq (Ev.len p.2.2.cells) p.2.1&&Nat.ble (p.1+p.2.1) (Ev.len cs) then eN (Ev.setSeg cs p.1 p.2.2.cells) fun cs=>mV cs ps k else False
def tH(es:Nat):Nat->List V->List (List V)
 |0,_=>[]
 |n+1,l=>Ev.tk es l::tH es n (Ev.drp l es)
def m9(l:List V)(o:Nat)(ag:Bool)(n:Nat)(k:V->Prop):Prop:=
 bif ag then (bif Nat.ble (o+n) (Ev.len l) then eN (Ev.tk n (Ev.drp l o)) fun m=>k (.agg m) else False)
 else (match Ev.nth l o with|some v=>k v|none=>False)
abbrev Blk:=List V×TypeId×Nat×Bool
def dJ(vh:VH)(b:Nat)(p:Blk):Prop:=vh b=some (.cells p.1 p.2.1 p.2.2.1 p.2.2.2)
def mY:Option IntKind->V->Bool
 |none,.str _=>true
 |some k,.int k' _=>Ev.keq k k'
 |_,_=>false
def eT:List (Option IntKind)->List V->Bool
 |[],[]=>true
 |s::sh,v::l=>mY s v&&eT sh l
 |_,_=>false
def cW(sh:List (Option IntKind))(ag:Bool):V->Bool
 |.agg l=>ag&&eT sh l
 |.str l=>!ag&&eT sh [.str l]
 |.int k n=>!ag&&eT sh [.int k n]
 |_=>false
def eq1:V->V->Bool
 |.str a,.str b=>decide (a=b)
 |.int _ a,.int _ b=>decide (a=b)
 |_,_=>false
def lC:List V->List V->Bool
 |[],[]=>true
 |a::l,b::m=>eq1 a b&&lC l m
 |_,_=>false
def jO:V->V->Bool
 |.agg l,.agg m=>lC l m
 |a,b=>eq1 a b
def lF(k:V):List (V×V)->Option V
 |[]=>none
 |p::l=>bif jO k p.1 then some p.2 else lF k l
def jT(k v:V):List (V×V)->List (V×V)
 |[]=>[(k,v)]
 |p::l=>bif jO k p.1 then (k,v)::l else p::jT k v l
def AT(vh:VH)(b:Nat)(es:List (V×V)):Prop:=vh b=some (.map es)
def IE(op:BinOp)(ka kb:IntKind)(m n:Int)(k:V->Prop):Prop:=match op with
 |.shl=>Get (fun j:Nat=>n=(j:Int)) fun j=>k (.int ka (Ev.wr ka (m*.ofNat (Nat.pow 2 (bif Nat.blt j (Ev.kbits ka) then j else Ev.kbits ka)))))
 |.shr=>Get (fun j:Nat=>n=(j:Int)) fun j=>k (.int ka (m>>>(bif Nat.blt j (Ev.kbits ka) then j else Ev.kbits ka)))
 |op=>bif Ev.keq ka kb then (match op with
  |.add=>k (.int ka (Ev.wr ka (m+n)))
  |.sub=>k (.int ka (Ev.wr ka (m-n)))
  |.mul=>k (.int ka (Ev.wr ka (m*n)))
  |.quo=>Owe (n≠0) (k (.int ka (Ev.wr ka (m.tdiv n))))
  |.rem=>Owe (n≠0) (k (.int ka (m.tmod n)))
  |.and=>k (.int ka (Ev.wr ka (.ofNat (Nat.land (Ev.toU ka m) (Ev.toU ka n)))))
  |.or=>k (.int ka (Ev.wr ka (.ofNat (Nat.lor (Ev.toU ka m) (Ev.toU ka n)))))
  |.xor=>k (.int ka (Ev.wr ka (.ofNat (Nat.xor (Ev.toU ka m) (Ev.toU ka n)))))
  |.andNot=>k (.int ka (Ev.wr ka (.ofNat (Nat.land (Ev.toU ka m) (Ev.pw ka-1-Ev.toU ka n)))))
  |.eql=>k (.bool (decide (m=n)))
  |.neq=>k (.bool (!decide (m=n)))
  |.lss=>k (.bool (decide (m<n)))
  |.leq=>k (.bool (decide (m<=n)))
  |.gtr=>k (.bool (decide (n<m)))
  |.geq=>k (.bool (decide (n<=m)))
  |_=>False) else False
def T0(op:BinOp)(l m:List Nat)(k:V->Prop):Prop:=match op with
 |.add=>Owe (l.length+m.length<Ev.p63) (k (.str (l++m)))
 |.eql=>k (.bool (decide (l=m)))
 |.neq=>k (.bool (!decide (l=m)))
 |.lss=>k (.bool (Ev.ltL l m))
 |.leq=>k (.bool (Ev.ltL l m||decide (l=m)))
 |.gtr=>k (.bool (!(Ev.ltL l m||decide (l=m))))
 |.geq=>k (.bool (!Ev.ltL l m))
 |_=>False
def eqK(op:BinOp)(b:Bool)(k:V->Prop):Prop:=match op with
 |.eql=>k (.bool b)
 |.neq=>k (.bool (!b))
 |_=>False
def T1(op:BinOp)(x y:V)(k:V->Prop):Prop:=match x,y with
 |.bool a,.bool b=>eqK op (a==b) k
 |_,_=>False
def T4(op:BinOp)(x y:V)(k:V->Prop):Prop:=match x,y with
 |.nilp,.nilp=>eqK op true k
 |.nilp,.ptr _ _=>eqK op false k
 |.nilp,.fp _ _=>eqK op false k
 |.nilp,.lp _ _=>eqK op false k
 |.ptr _ _,.nilp=>eqK op false k
 |.fp _ _,.nilp=>eqK op false k
 |.lp _ _,.nilp=>eqK op false k
 |.ptr b o,.ptr b' o'=>bif Nat.beq b b' then eqK op (Nat.beq o o') k else False
 |_,_=>False
def T3(op:BinOp)(x y:V)(k:V->Prop):Prop:=match x,y with
 |.nili,.nili=>eqK op true k
 |.nili,.ifc _ _=>eqK op false k
 |.ifc _ _,.nili=>eqK op false k
 |_,_=>False
def T2(op:BinOp)(x y:V)(k:V->Prop):Prop:=match x,y with
 |.nilf,.nilf=>eqK op true k
 |.nilf,.func _ _ _=>eqK op false k
 |.func _ _ _,.nilf=>eqK op false k
 |_,_=>False
def T5(op:BinOp)(x y:V)(k:V->Prop):Prop:=match x,y with
 |.nils,.nils=>eqK op true k
 |.nils,.msl _ _ _ _ _=>eqK op false k
 |.msl _ _ _ _ _,.nils=>eqK op false k
 |.sl _ [] _,.nils=>∀b:Bool,eqK op b k
 |.sl _ (_::_) _,.nils=>eqK op false k
 |_,_=>False
def xK:List V->Option (List (List Nat))
 |[]=>some []
 |.str l::r=>(match xK r with|some x=>some (l::x)|none=>none)
 |_=>none
def T6(n:Nat)(op:BinOp)(x y:V)(k:V->Prop):Prop:=match x,y with
 |.agg l,.agg m=>(match xK l,xK m with
  |some a,some b=>bif Nat.beq (Ev.len a) n&&Nat.beq (Ev.len b) n then eqK op (decide (a=b)) k else False
  |_,_=>False)
 |_,_=>False
def ID(op:BinOp)(x y:V)(k:V->Prop):Prop:=match x,y with
 |.int a m,.int b n=>IE op a b m n k
 |.str l,.str m=>T0 op l m k
 |_,_=>False
def vEq(kd:EK)(op:BinOp)(x y:V)(k:V->Prop):Prop:=match kd with
 |.b=>T1 op x y k
 |.p=>T4 op x y k
 |.i=>T3 op x y k
 |.f=>T2 op x y k
 |.s=>T5 op x y k
 |.t n=>T6 n op x y k
def vUn(op:UnOp)(x:V)(k:V->Prop):Prop:=match op,x with
 |.neg,.int a n=>k (.int a (Ev.wr a (-n)))
 |.xor,.int a n=>k (.int a (Ev.wr a (.ofNat (Ev.pw a-1-Ev.toU a n))))
 |.not,.bool b=>k (.bool (!b))
 |_,_=>False
def cP(c:Nat):V:=.int .u8 (.ofNat c)
def room(by' n:Nat):Prop:=n*by'<=140737488355328/\n<Ev.p63
def tV(vh:VH)(es:Nat)(y:V)(k:List V->Nat->Prop):Prop:=match y with
 |.nils=>k [] 0
 |.sl es' ls _=>bif Nat.beq es es' then k ls.flatten ls.length else False
 |.msl b o n es' _=>bif Nat.beq es es' then Get (dJ vh b) fun p=>Owe (o+n*es<=p.1.length) (k ((p.1.drop o).take (n*es)) n) else False
 |.str l=>bif Nat.beq es 1 then k (l.map cP) l.length else False
 |_=>False
def LA(es by':Nat)(e:TypeId)(x:V)(m:List V)(j:Nat)(s:St)(k:V->St->Prop):Prop:=match x with
 |.nils=>aB (Nat.beq j 0) (k .nils s) (Owe (room by' j) (k (.msl s.nx 0 j es none) ⟨s.env,aI s.vh s.nx (.cells m e 0 false),s.nx+1⟩))
 |.sl es' ls (some c)=>bif Nat.beq es es' then aB (Nat.beq j 0) (k (.sl es ls (some c)) s) (Owe (c<ls.length+j/\room by' (ls.length+j)) (k (.msl s.nx 0 (ls.length+j) es none) ⟨s.env,aI s.vh s.nx (.cells (ls.flatten++m) e 0 false),s.nx+1⟩)) else False
 |.sl es' [] none=>bif Nat.beq es es' then Owe (j=0) (k (.sl es [] none) s) else False
 |.msl b o n es' c=>bif Nat.beq es es' then aB (Nat.beq j 0) (k (.msl b o n es c) s) (Get (dJ s.vh b) fun p=>
   match c with
   |some c=>aB (Nat.ble (n+j) c)
     (Owe (o+(n+j)*es<=p.1.length/\p.2.2.1<=o+n*es) (k (.msl b o (n+j) es (some c)) ⟨s.env,aI s.vh b (.cells (Ev.setSeg p.1 (o+n*es) m) p.2.1 p.2.2.1 p.2.2.2),s.nx⟩))
     (Owe (o+n*es<=p.1.length/\room by' (n+j)) (k (.msl s.nx 0 (n+j) es none) ⟨s.env,aI s.vh s.nx (.cells ((p.1.drop o).take (n*es)++m) e 0 false),s.nx+1⟩))
   |none=>aB (Nat.ble (n+j) ((p.1.length-o) / es))
     (Owe (o+(n+j)*es<=p.1.length/\p.2.2.1<=o+n*es) (k (.msl b o (n+j) es none) ⟨s.env,aI s.vh b (.cells (Ev.setSeg p.1 (o+n*es) m) p.2.1 p.2.2.1 p.2.2.2),s.nx⟩))
     (Owe (o=0/\n*es<=p.1.length/\p.2.2.1<=n*es/\p.2.1=e/\room by' (n+j)) (k (.msl s.nx 0 (n+j) es none) ⟨s.env,aI (bX s.vh b) s.nx (.cells (p.1.take (n*es)++m) e (Ev.fzOff p.2.2.1 0) p.2.2.2),s.nx+1⟩))) else False
 |_=>False
def mxL(k:V->Prop):Int->IntKind->List V->Prop
 |a,ka,[]=>k (.int ka a)
 |a,ka,.int _ b::l=>mxL k (max a b) ka l
 |_,_,_=>False
def mnL(k:V->Prop):Int->IntKind->List V->Prop
 |a,ka,[]=>k (.int ka a)
 |a,ka,.int _ b::l=>mnL k (min a b) ka l
 |_,_,_=>False
abbrev dD:=FuncId->List V->VH->Nat->(V->VH->Nat->Prop)->Prop
def bF(G:Gt)(call:dD)(o:VOp)(s:St)(K:V->St->Prop):Prop:=match o with
 |.mv x=>rdK G s.env x fun v=>K v s
 |.pick c a b=>rdK G s.env c fun
  |.bool t=>rdK G s.env a fun va=>rdK G s.env b fun vb=>G8 t va vb fun v=>K v s
  |_=>False
 |.allocL z=>K (.bx z) s
 |.allocH z e=>K (.ptr s.nx 0) ⟨s.env,aI s.vh s.nx (.cells z e 0 false),s.nx+1⟩
 |.boxL x=>rdC G s.env x fun v=>eN v.cells fun cs=>K (.bx cs) s
 |.boxH x e=>rdC G s.env x fun v=>K (.ptr s.nx 0) ⟨s.env,aI s.vh s.nx (.cells v.cells e 0 false),s.nx+1⟩
 |.build z ps=>BN G s.env ps fun vs=>mV z vs fun cs=>K (.agg cs) s
 |.buildF es n z ps=>tJ G s.env es ps fun vs=>mV (Ev.reps n z) vs fun cs=>K (.sl es (tH es n cs) (some n)) s
 |.buildH es n z ps e=>tJ G s.env es ps fun vs=>mV (Ev.reps n z) vs fun cs=>K (.msl s.nx 0 n es (some n)) ⟨s.env,aI s.vh s.nx (.cells cs e 0 false),s.nx+1⟩
 |.load x ag n=>rdK G s.env x fun
  |.lp t o=>(match lk s.env t with
   |some (.bx l)=>m9 l o ag n fun v=>K v s
   |_=>False)
  |.fp l o=>m9 l o ag n fun v=>K v s
  |.ptr b o=>Get (dJ s.vh b) fun p=>bif ag then Get (fun m=>(p.1.drop o).take n=m/\o+n<=p.1.length) (fun m=>K (.agg m) s) else Get (fun v=>p.1[o]? =some v) fun v=>K v s
  |_=>False
 |.store x v n=>rdC G s.env v fun v=>eN v.cells fun cs=>bif Nat.beq (Ev.len cs) n then rdK G s.env x (fun
   |.lp t o=>(match lk s.env t with
    |some (.bx l)=>bif Nat.ble (o+n) (Ev.len l) then eN (Ev.setSeg l o cs) fun m=>K V.undef ⟨(t,.bx m)::s.env,s.vh,s.nx⟩ else False
    |_=>False)
   |.ptr b o=>Get (dJ s.vh b) fun p=>Owe (o+n<=p.1.length/\p.2.2.1<=o) (K V.undef ⟨s.env,aI s.vh b (.cells (Ev.setSeg p.1 o cs) p.2.1 p.2.2.1 p.2.2.2),s.nx⟩)
   |_=>False) else False
 |.nilck x=>rdK G s.env x fun
  |.lp t o=>K (.lp t o) s
  |.fp l o=>K (.fp l o) s
  |.ptr b o=>K (.ptr b o) s
  |.ifc t v=>K (.ifc t v) s
  |.func g a b=>K (.func g a b) s
  |_=>False
 |.bin op x y=>rdK G s.env x fun a=>rdK G s.env y fun b=>ID op a b fun v=>K v s
 |.eq kd op x y=>rdK G s.env x fun a=>rdK G s.env y fun b=>vEq kd op a b fun v=>K v s
 |.un op x=>rdK G s.env x fun a=>vUn op a fun v=>K v s
 |.cint k x=>rdK G s.env x fun
  |.int _ n=>K (.int k (Ev.wr k n)) s
  |_=>False
 |.cstr x=>rdK G s.env x fun
  |.str l=>K (.str l) s
  |_=>False
 |.crune x=>rdK G s.env x fun
  |.int _ n=>K (.str (Ev.encA n)) s
  |_=>False
 |.cbytes x e=>rdK G s.env x fun
  |.str l=>K (.msl s.nx 0 l.length 1 none) ⟨s.env,aI s.vh s.nx (.cells (l.map cP) e 0 true),s.nx+1⟩
  |_=>False
 |.ctext x=>rdK G s.env x fun
  |.nils=>K (.str []) s
  |.sl 1 ls _=>Get (fun l:List Nat=>ls=l.map (fun c=>[cP c])/\∀c∈l,c<256) fun l=>K (.str l) s
  |.msl b o n 1 _=>Get (dJ s.vh b) fun p=>Get (fun l:List Nat=>(p.1.drop o).take n=l.map cP/\o+n<=p.1.length/\∀c∈l,c<256) fun l=>K (.str l) s
  |_=>False
 |.mkIfc t x=>rdF G s.env x fun v=>K (.ifc t v) s
 |.mkFn g fs cs=>iN G s.env fs fun fs=>iN G s.env cs fun cs=>K (.func g fs cs) s
 |.mkMap=>K (.map s.nx) ⟨s.env,aI s.vh s.nx (.map []),s.nx+1⟩
 |.mkSl es z e by' l c=>rdK G s.env l fun
  |.int _ l=>rdK G s.env c fun
   |.int _ c=>Get (fun i:Nat=>l=(i:Int)) fun i=>Get (fun j:Nat=>c=(j:Int)/\i<=j/\by'*j<=140737488355328/\j<Ev.p63) fun j=>K (.msl s.nx 0 i es (some j)) ⟨s.env,aI s.vh s.nx (.cells (Ev.reps j z) e 0 false),s.nx+1⟩
   |_=>False
  |_=>False
 |.cutS x lo hi=>rdK G s.env x fun
  |.str l=>rdO G s.env 0 lo fun a=>rdO G s.env l.length hi fun b=>Owe (a<=b/\b<=l.length) (K (.str ((l.drop a).take (b-a))) s)
  |_=>False
 |.cutL es x lo hi mx=>rdK G s.env x fun
  |.sl es' ls c=>bif Nat.beq es es' then rdO G s.env 0 lo fun a=>rdO G s.env ls.length hi fun b=>(match mx with
   |none=>Owe (a<=b/\b<=ls.length) (K (.sl es ((ls.drop a).take (b-a)) none) s)
   |some m=>rdO G s.env 0 (some m) fun m=>(match ls with
    |[]=>Owe (a=0/\b=0/\m=0) (K (.sl es [] none) s)
    |_::_=>Owe (a<=b/\b<=m/\m<=ls.length) (K (.sl es ((ls.drop a).take (b-a)) (some (m-a))) s))) else False
  |.msl b o n es' c=>bif Nat.beq es es' then rdO G s.env 0 lo fun a=>rdO G s.env n hi fun r=>(match mx with
   |none=>(match c with
    |some c=>Owe (a<=r/\r<=c/\a<c) (K (.msl b (o+a*es) (r-a) es (some (c-a))) s)
    |none=>Get (dJ s.vh b) fun p=>Owe (a<=r/\r<=(p.1.length-o) / es/\(a<(p.1.length-o) / es\/a=0)) (K (.msl b (o+a*es) (r-a) es none) s))
   |some _=>False) else False
  |.nils=>rdO G s.env 0 lo fun a=>rdO G s.env 0 hi fun b=>(match mx with
   |none=>Owe (a=0/\b=0) (K .nils s)
   |some m=>rdO G s.env 0 (some m) fun m=>Owe (a=0/\b=0/\m=0) (K .nils s))
  |_=>False
 |.cutA es n x lo hi=>rdK G s.env x fun
  |.ptr b o=>rdO G s.env 0 lo fun a=>rdO G s.env n hi fun r=>Get (dJ s.vh b) fun p=>Owe (a<=r/\r<=n/\a<n/\o+n*es<=p.1.length) (K (.msl b (o+a*es) (r-a) es (some (n-a))) s)
  |_=>False
 |.off x n=>rdK G s.env x fun
  |.lp t o=>K (.lp t (o+n)) s
  |.fp l o=>K (.fp l (o+n)) s
  |.ptr b o=>K (.ptr b (o+n)) s
  |_=>False
 |.fld x ag o n=>rdK G s.env x fun
  |.agg l=>m9 l o ag n fun v=>K v s
  |_=>False
 |.idx es x i=>rdK G s.env i fun
  |.int _ n=>rdK G s.env x fun
   |.sl es' ls _=>bif Nat.beq es es' then Get (fun p:Nat×List V=>n=(p.1:Int)/\ls[p.1]? =some p.2) (fun p=>K (.fp p.2 0) s) else False
   |.msl b o m es' _=>bif Nat.beq es es' then Get (fun j:Nat=>n=(j:Int)/\j<m) fun j=>K (.ptr b (o+j*es)) s else False
   |_=>False
  |_=>False
 |.idxA es m x i=>rdK G s.env i fun
  |.int _ n=>rdK G s.env x fun
   |.lp t o=>Get (fun j:Nat=>n=(j:Int)/\j<m) fun j=>K (.lp t (o+j*es)) s
   |.fp l o=>Get (fun j:Nat=>n=(j:Int)/\j<m) fun j=>K (.fp l (o+j*es)) s
   |.ptr b o=>Get (fun j:Nat=>n=(j:Int)/\j<m) fun j=>K (.ptr b (o+j*es)) s
   |_=>False
  |_=>False
 |.at x i=>rdK G s.env i fun
  |.int _ n=>rdK G s.env x fun
   |.str l=>Get (fun p:Nat×Nat=>n=(p.1:Int)/\l[p.1]? =some p.2) fun p=>K (.int .u8 (.ofNat p.2)) s
   |_=>False
  |_=>False
 |.look sh ag z x i ok=>rdK G s.env i fun ki=>bif cW sh ag ki then rdK G s.env x (fun
   |.nilm=>K (bif ok then .tup [z,.bool false] else z) s
   |.map b=>Get (AT s.vh b) fun es=>Owe (∀p∈es,cW sh ag p.1=true) (Get (fun r=>lF ki es=r) fun
    |some v=>K (bif ok then .tup [v,.bool true] else v) s
    |none=>K (bif ok then .tup [z,.bool false] else z) s)
   |_=>False) else False
 |.upd sh ag x i v=>rdK G s.env i fun ki=>bif cW sh ag ki then rdF G s.env v (fun v=>rdK G s.env x fun
   |.map b=>Get (AT s.vh b) fun es=>Owe (∀p∈es,cW sh ag p.1=true) (K V.undef ⟨s.env,aI s.vh b (.map (jT ki v es)),s.nx⟩)
   |_=>False) else False
 |.rng x=>rdK G s.env x fun
  |.str l=>K (.it l 0) s
  |_=>False
 |.next x=>rdK G s.env x fun
  |.lp t 0=>(match lk s.env t with
   |some (.it r p)=>aB r.isEmpty (K (.tup [.bool false]) s)
     (K (.tup [.bool true,.int .i64 (.ofNat p),.int .i32 (.ofNat (Ev.decA r).1)]) ⟨(t,.it (r.drop (Ev.decA r).2) (p+(Ev.decA r).2))::s.env,s.vh,s.nx⟩)
   |_=>False)
  |_=>False
 |.asrt t z x ok=>rdK G s.env x fun
  |.ifc u v=>bif Nat.beq u t then K (bif ok then .tup [v,.bool true] else v) s else (bif ok then K (.tup [z,.bool false]) s else False)
  |.nili=>bif ok then K (.tup [z,.bool false]) s else False
  |_=>False
 |.ext x i=>rdK G s.env x fun
  |.tup l=>(match Ev.nth l i with|some v=>K v s|none=>False)
  |_=>False
 |.lenS x=>rdK G s.env x fun
  |.str l=>K (.int .i64 (.ofNat l.length)) s
  |_=>False
 |.lenL x=>rdK G s.env x fun
  |.sl _ ls _=>K (.int .i64 (.ofNat ls.length)) s
  |.nils=>K (.int .i64 0) s
  |.msl _ _ n _ _=>K (.int .i64 (.ofNat n)) s
  |_=>False
 |.app es _ by' e x y=>rdK G s.env x fun x=>rdK G s.env y fun y=>tV s.vh es y fun m j=>LA es by' e x m j s K
 |.copy es x y=>rdK G s.env x fun vx=>rdK G s.env y fun vy=>tV s.vh es vy fun m k=>(match vx with
  |.nils=>K (.int .i64 0) s
  |.msl b o n es' _=>bif Nat.beq es es' then Get (dJ s.vh b) fun p=>Owe (o+(bif Nat.ble n k then n else k)*es<=p.1.length/\p.2.2.1<=o) (K (.int .i64 (.ofNat (bif Nat.ble n k then n else k))) ⟨s.env,aI s.vh b (.cells (Ev.setSeg p.1 o (m.take ((bif Nat.ble n k then n else k)*es))) p.2.1 p.2.2.1 p.2.2.2),s.nx⟩) else False
  |_=>False)
 |.mx l=>iN G s.env l fun
  |.int k a::l=>mxL (fun v=>K v s) a k l
  |_=>False
 |.mn l=>iN G s.env l fun
  |.int k a::l=>mnL (fun v=>K v s) a k l
  |_=>False
 |.data x=>rdK G s.env x fun
  |.nils=>K .nilp s
  |.msl b o n _ _=>Owe (0<n) (K (.ptr b o) s)
  |_=>False
 |.ustr u x n=>rdK G s.env n fun
  |.int .i64 m=>rdK G s.env x fun
   |.nilp=>Owe (m=0) (K (.str []) s)
   |.ptr b o=>Get (fun j:Nat=>m=(j:Int)/\0<j/\j<Ev.p63/\o=0) fun j=>Get (dJ s.vh b) fun p=>Owe (p.2.1=u/\p.2.2.2=false) (Get (fun l:List Nat=>p.1.take j=l.map cP/\l.length=j/\∀c∈l,c<256) fun l=>K (.str l) ⟨s.env,aI s.vh b (.cells p.1 p.2.1 (bif Nat.ble p.2.2.1 j then j else p.2.2.1) false),s.nx⟩)
   |_=>False
  |_=>False
 |.cap x=>rdK G s.env x fun
  |.nils=>K (.int .i64 0) s
  |.sl _ _ (some c)=>K (.int .i64 (.ofNat c)) s
  |.msl _ _ _ _ (some c)=>K (.int .i64 (.ofNat c)) s
  |_=>False
 |.uconv x=>rdK G s.env x fun
  |.ptr b o=>Get (dJ s.vh b) fun p=>Owe (o<p.1.length) (K (.ptr b o) s)
  |_=>False
 |.pconv u n x=>rdK G s.env x fun
  |.ptr b o=>Get (dJ s.vh b) fun p=>Owe (o=0/\p.2.1=u/\p.2.2.2=false/\n<=p.1.length) (K (.ptr b o) s)
  |_=>False
 |.bad=>False
 |.call g xs=>iN G s.env xs fun vs=>call g vs s.vh s.nx fun v vh nx=>K v ⟨s.env,vh,nx⟩
 |.callv x xs=>rdK G s.env x fun
  |.func g fs cs=>iN G s.env xs fun vs=>call g (fs++vs++cs) s.vh s.nx fun v vh nx=>K v ⟨s.env,vh,nx⟩
  |_=>False
def wR(n:Nat):List Nat->Bool
 |[]=>false
 |a::l=>bif Nat.beq a n then true else wR n l
def m7(all:List Nat)(env:aH):List Nat->aH
 |[]=>[]
 |t::l=>match lk env t with
  |none=>m7 all env l
  |some (.lp u o)=>bif wR u all then (t,.lp u o)::m7 all env l else m7 all env l
  |some v=>(t,v)::m7 all env l
def oO(es n:Nat)(l:List V)(ls:List (List V)):Prop:=ls.flatten=l.take (n*es)/\ls.length=n/\∀x∈ls,x.length=es
def pE(g:Gh)(s:St)(K:St->Prop):Prop:=match g with
 |.keep l=>eN (m7 l s.env l) fun env=>K ⟨env,s.vh,s.nx⟩
 |.fz t=>(match lk s.env t with
  |some (.bx l)=>K ⟨(t,.fp l 0)::gV t s.env,s.vh,s.nx⟩
  |_=>K s)
 |.fzs t es=>(match lk s.env t with
  |some .nils=>K ⟨(t,.sl es [] none)::s.env,s.vh,s.nx⟩
  |some (.msl b o n es' c)=>bif Nat.beq es es' then Get (dJ s.vh b) fun p=>Owe (0<es/\o+n*es<=p.1.length/\∀x,c=some x->n<=x) <|Get (fun ls=>oO es n (p.1.drop o) ls) fun ls=>K ⟨(t,.sl es ls none)::s.env,bX s.vh b,s.nx⟩ else False
  |some (.sl es' ls _)=>K ⟨(t,.sl es' ls none)::s.env,s.vh,s.nx⟩
  |_=>K s)
 |.free t=>(match lk s.env t with
  |some (.ptr b _)=>K ⟨s.env,bX s.vh b,s.nx⟩
  |some (.msl b _ _ _ _)=>K ⟨s.env,bX s.vh b,s.nx⟩
  |_=>K s)
 |.fza t o es=>(match lk s.env t with
  |some (.agg l)=>(match Ev.nth l o with
   |some .nils=>eN (l.set o (.sl es [] none)) fun l=>K ⟨(t,.agg l)::s.env,s.vh,s.nx⟩
   |some (.msl b p n es' c)=>bif Nat.beq es es' then Get (dJ s.vh b) fun q=>Owe (0<es/\p+n*es<=q.1.length/\∀x,c=some x->n<=x) <|Get (fun ls=>oO es n (q.1.drop p) ls) fun ls=>eN (l.set o (.sl es ls none)) fun l=>K ⟨(t,.agg l)::s.env,bX s.vh b,s.nx⟩ else False
   |some (.sl es' ls _)=>eN (l.set o (.sl es' ls none)) fun l=>K ⟨(t,.agg l)::s.env,s.vh,s.nx⟩
   |_=>K s)
  |_=>K s)
def jY:List Gh->St->(St->Prop)->Prop
 |[],s,K=>K s
 |g::gs,s,K=>pE g s fun s=>jY gs s K
def m5(s:St)(g:Option (Nat×Bool))(A B:St->Prop):Prop:=match g with
 |none=>A s
 |some (d,b)=>match lk s.env d with
  |some (.bool c)=>bif b then aB c (A ⟨(d,.bool true)::s.env,s.vh,s.nx⟩) (B ⟨(d,.bool false)::s.env,s.vh,s.nx⟩) else aB c (B ⟨(d,.bool true)::s.env,s.vh,s.nx⟩) (A ⟨(d,.bool false)::s.env,s.vh,s.nx⟩)
  |some (.tup _)=>B s
  |_=>False
def hU(G:Gt)(call:dD):List bV->St->(St->Prop)->Prop
 |[],s,K=>K s
 |o::os,s,K=>jY o.gh s fun s=>m5 s o.guard (fun s=>bF G call o.op s fun v s=>hU G call os (put s o.dst v) K) (fun s=>hU G call os (put s o.dst V.undef) K)
structure Rec where
 i:Nat
 env:aH
 op:VOp
 v:V
def oG:aH->aH
 |[]=>[]
 |p::l=>(p.1,match p.2 with
  |.bx _=>.lost
  |.it _ _=>.lost
  |.lp _ _=>.lost
  |v=>v)::oG l
def V.rigid:V->Bool
 |.bool _|.int _ _|.str _|.nilp|.nils|.nilm|.nilf|.nili|.ptr _ _|.msl _ _ _ _ _|.map _=>true
 |_=>false
def V.eqn:Nat->V->Bool
 |0,_=>false
 |n+1,v=>match v with
  |.agg l=>l.all (V.eqn n)
  |.tup l=>l.all (V.eqn n)
  |.ifc _ v=>V.eqn n v
  |.func _ _ _=>false
  |.lost=>false
  |.lp _ _=>false
  |.bx _=>false
  |.it _ _=>false
  |_=>true
def kW(G:Gt)(env:aH)(op:VOp):Bool:=match op with
 |.load x _ _=>(match rdV G env x with|some (.fp _ _)=>true|_=>false)
 |.cutL _ x _ _ _=>(match rdV G env x with|some (.sl _ _ _)=>true|some .nils=>true|_=>false)
 |.cutS _ _ _=>true
 |.lenS _=>true
 |.lenL x=>(match rdV G env x with|some (.sl _ _ _)=>true|some .nils=>true|_=>false)
 |_=>false
def j8(G:Gt)(call:dD):List bV->Nat->St->List Rec->(St->List Rec->Prop)->Prop
 |[],_,s,rs,K=>K s rs
 |o::os,i,s,rs,K=>match o.tg with
  |.n _=>j8 G call os (i+1) s rs K
  |.c _=>j8 G call os (i+1) s rs K
  |.e=>m5 s o.guard (fun s=>bF G call o.op s fun v s'=>bif V.eqn 8 v then j8 G call os (i+1) (put ⟨s.env,s'.vh,s'.nx⟩ o.dst v) (⟨i,s.env,o.op,v⟩::rs) K else False)
    (fun s=>j8 G call os (i+1) (put s o.dst V.undef) rs K)
def fU(i:Nat):List Rec->Option Rec
 |[]=>none
 |r::rs=>bif Nat.beq r.i i then some r else fU i rs
def again(G:Gt)(call:dD)(rs:List Rec)(s:St):List Nat->Prop->Prop
 |[],A=>A
 |j::js,A=>match fU j rs with
  |none=>again G call rs s js A
  |some r=>bif kW G r.env r.op then again G call rs s js A else Owe (r.v.rigid=true/\bF G call r.op ⟨r.env,s.vh,s.nx⟩ fun v _=>v=r.v) (again G call rs s js A)
def fG(G:Gt)(call:dD)(rs:List Rec):List bV->Nat->St->(St->Prop)->Prop
 |[],_,s,K=>K s
 |o::os,i,s,K=>match o.tg with
  |.e=>(match fU i rs with
   |some r=>fG G call rs os (i+1) (put s o.dst r.v) K
   |none=>fG G call rs os (i+1) (put s o.dst V.undef) K)
  |.n ck=>jY o.gh s fun s=>m5 s o.guard (fun s=>bF G call o.op s fun v s'=>again G call rs s' ck (fG G call rs os (i+1) (put s' o.dst v) K)) (fun s=>fG G call rs os (i+1) (put s o.dst V.undef) K)
  |.c _=>jY o.gh s fun s=>m5 s o.guard (fun s=>bF G call o.op s fun v s'=>bif V.eqn 8 v then fG G call rs os (i+1) (put s' o.dst v) K else False) (fun s=>fG G call rs os (i+1) (put s o.dst V.undef) K)
def oD:List bV->List Nat
 |[]=>[]
 |v::vs=>match v.tg with
  |.c t=>t::oD vs
  |_=>oD vs
def vN(env:aH):List Nat->Prop->Prop
 |[],A=>A
 |t::ts,A=>match lk env t with
  |some (.sl _ _ _)=>vN env ts A
  |_=>False
def vcD(G:Gt)(call:dD)(os:List bV)(s:St)(K:St->Prop):Prop:=vN s.env (oD os) (j8 G call os 0 ⟨oG s.env,s.vh,s.nx⟩ [] fun a rs=>fG G call rs os 0 ⟨s.env,a.vh,a.nx⟩ K)
inductive VR where
 |norm (s:St)
 |exit (id:Nat) (s:St)
 |ret (s:St)
def BX(Q:VR->Prop)(k:St->Prop):VR->Prop
 |.norm s=>k s
 |r=>Q r
def D6(id:Nat)(Q:VR->Prop):VR->Prop
 |.exit i s=>bif Nat.beq id i then Q (.norm s) else Q (.exit i s)
 |r=>Q r
abbrev XY:=aD->St->(VR->Prop)->Prop
def vcC(G:Gt)(call:dD)(loop:XY):aD->St->(VR->Prop)->Prop
 |.skip,s,Q=>Q (.norm s)
 |.ret,s,Q=>Q (.ret s)
 |.exit i,s,Q=>Q (.exit i s)
 |.seq a b,s,Q=>vcC G call loop a s (BX Q fun s=>vcC G call loop b s Q)
 |.cond x a b,s,Q=>rdK G s.env x fun
  |.bool c=>aB c (vcC G call loop a s Q) (vcC G call loop b s Q)
  |_=>False
 |.block i b,s,Q=>vcC G call loop b s (D6 i Q)
 |.loop b,s,Q=>loop (.loop b) s Q
 |.scope b,s,Q=>vcC G call loop b s Q
 |.cut b,s,Q=>loop (.cut b) s Q
 |.gsk gh,s,Q=>jY gh s fun s=>Q (.norm s)
 |.no,_,_=>False
 |.reg d ops gh,s,Q=>bif Nat.beq d 2 then vcD G call ops s (fun s=>jY gh s fun s=>Q (.norm s)) else hU G call ops s fun s=>jY gh s fun s=>Q (.norm s)
end
section
open Go.Ev
structure Wd where
 ρ:Nat->Option Nat
 K:Nat->Option (List AV)
mutual
inductive Den(w:Wd):V->AV->Prop where
 |bool (b:Bool):Den w (.bool b) (.bool b)
 |int (k:IntKind) (n:Int):Den w (.int k n) (.int k n)
 |str (l:List Nat):Den w (.str l) (.str l)
 |nilp:Den w .nilp .nilp
 |nils:Den w .nils .nils
 |nilm:Den w .nilm .nilm
 |nilf:Den w .nilf .nilf
 |nili:Den w .nili .nili
 |junk:Den w .lost .junk
 |ptr (b o i:Nat) (h:w.ρ b=some i):Den w (.ptr b o) (.ptr i o)
 |msl (b o n es:Nat) (c:Option Nat) (i:Nat) (h:w.ρ b=some i):Den w (.msl b o n es c) (.sl i o n es c)
 |map (b i:Nat) (h:w.ρ b=some i):Den w (.map b) (.map i)
 |fp (l:List V) (o p i q:Nat) (L:List AV) (h:w.K i=some L) (hq:q=p+o) (hp:p<=L.length) (hd:dB w l (L.drop p)):Den w (.fp l o) (.ptr i q)
 |sl0 (es:Nat) (c:Option Nat) (hc:c=none\/c=some 0):Den w (.sl es [] c) .nils
 |sle (es:Nat):Den w (.sl es [] none) .esl
 |sl (ls:List (List V)) (c c':Option Nat) (i o n es:Nat) (L:List AV) (h:w.K i=some L) (hn:ls.length=n) (he:0<es) (hd:dC w es ls (L.drop o)) (hc:c=none\/c=c') (hc':∀x,c'=some x->n<=x) (ho:o+n*es<=L.length):Den w (.sl es ls c) (.sl i o n es c')
 |func (g:FuncId) (f c:List V) (f' c':List AV) (hf:aX w f f') (hc:aX w c c'):Den w (.func g f c) (.func (.func g) f' c')
 |ifc (t:TypeId) (v:V) (a:AV) (h:Den w v a):Den w (.ifc t v) (.ifc t a)
 |agg (l:List V) (m:List AV) (h:aX w l m):Den w (.agg l) (.agg m)
 |tup (l:List V) (m:List AV) (h:aX w l m):Den w (.tup l) (.tup m)
inductive aX(w:Wd):List V->List AV->Prop where
 |nil:aX w [] []
 |cons (v:V) (a:AV) (l:List V) (m:List AV) (h:Den w v a) (hl:aX w l m):aX w (v::l) (a::m)
inductive dB(w:Wd):List V->List AV->Prop where
 |nil (m:List AV):dB w [] m
 |cons (v:V) (a:AV) (l:List V) (m:List AV) (h:Den w v a) (hl:dB w l m):dB w (v::l) (a::m)
inductive dC(w:Wd):Nat->List (List V)->List AV->Prop where
 |nil (es:Nat) (m:List AV):dC w es [] m
 |cons (es:Nat) (l:List V) (ls:List (List V)) (m:List AV) (h:dB w l m) (hl:l.length=es) (hs:dC w es ls (m.drop es)):dC w es (l::ls) m
end
structure Wd.le(w w':Wd):Prop where
 ρ:∀b i,w.ρ b=some i->w'.ρ b=some i
 K:∀i L,w.K i=some L->w'.K i=some L
theorem Wd.le.refl(w:Wd):w.le w:=⟨fun _ _ h=>h,fun _ _ h=>h⟩
theorem Wd.le.trans{a b c:Wd}(h:a.le b)(h':b.le c):a.le c:=⟨fun _ _ e=>h'.ρ _ _ (h.ρ _ _ e),fun _ _ e=>h'.K _ _ (h.K _ _ e)⟩
section
variable {w w' : Wd}
mutual
theorem Den.mono(hw:w.le w'):∀{v:V} {a:AV},Den w v a->Den w' v a
 |_,_,.bool b=>.bool b
 |_,_,.int k n=>.int k n
 |_,_,.str l=>.str l
 |_,_,.nilp=>.nilp
 |_,_,.nils=>.nils
 |_,_,.nilm=>.nilm
 |_,_,.nilf=>.nilf
 |_,_,.nili=>.nili
 |_,_,.junk=>.junk
 |_,_,.ptr b o i h=>.ptr b o i (hw.ρ _ _ h)
 |_,_,.msl b o n es c i h=>.msl b o n es c i (hw.ρ _ _ h)
 |_,_,.map b i h=>.map b i (hw.ρ _ _ h)
 |_,_,.fp l o p i q L h hq hp hd=>.fp l o p i q L (hw.K _ _ h) hq hp (hd.mono hw)
 |_,_,.sl0 es c hc=>.sl0 es c hc
 |_,_,.sle es=>.sle es
 |_,_,.sl ls c c' i o n es L h hn he hd hc hc' ho=>.sl ls c c' i o n es L (hw.K _ _ h) hn he (hd.mono hw) hc hc' ho
 |_,_,.func g f c f' c' hf hc=>.func g f c f' c' (hf.mono hw) (hc.mono hw)
 |_,_,.ifc t v a h=>.ifc t v a (h.mono hw)
 |_,_,.agg l m h=>.agg l m (h.mono hw)
 |_,_,.tup l m h=>.tup l m (h.mono hw)
theorem aX.mono(hw:w.le w'):∀{l:List V} {m:List AV},aX w l m->aX w' l m
 |_,_,.nil=>.nil
 |_,_,.cons v a l m h hl=>.cons v a l m (h.mono hw) (hl.mono hw)
theorem dB.mono(hw:w.le w'):∀{l:List V} {m:List AV},dB w l m->dB w' l m
 |_,_,.nil m=>.nil m
 |_,_,.cons v a l m h hl=>.cons v a l m (h.mono hw) (hl.mono hw)
theorem dC.mono(hw:w.le w'):∀{es:Nat} {l:List (List V)} {m:List AV},dC w es l m->dC w' es l m
 |_,_,_,.nil es m=>.nil es m
 |_,_,_,.cons es l ls m h hl hs=>.cons es l ls m (h.mono hw) hl (hs.mono hw)
end
theorem aX.length{l:List V}{m:List AV}(h:aX w l m):l.length=m.length:=by
 induction l generalizing m with
 |nil=>cases h;rfl
 |cons v l ih=>cases h with|cons _ a _ m h hl=>simp[ih hl]
theorem aX.toP{l:List V}{m:List AV}(h:aX w l m)(x:List AV):dB w l (m++x):=by
 induction l generalizing m with
 |nil=>exact .nil _
 |cons v l ih=>cases h with|cons _ a _ m h hl=>exact .cons _ _ _ _ h (ih hl)
theorem aX.toP'{l:List V}{m:List AV}(h:aX w l m):dB w l m:=by simpa using h.toP []
theorem dB.len_le{l:List V}{m:List AV}(h:dB w l m):l.length<=m.length:=by
 induction l generalizing m with
 |nil=>simp
 |cons v l ih=>cases h with|cons _ a _ m h hl=>simpa using ih hl
theorem dB.exact{l:List V}{m:List AV}(h:dB w l m):aX w l (m.take l.length):=by
 induction l generalizing m with
 |nil=>simp;exact .nil
 |cons v l ih=>cases h with|cons _ a _ m h hl=>exact .cons _ _ _ _ h (ih hl)
theorem dB.drop{l:List V}{m:List AV}(h:dB w l m)(n:Nat):dB w (l.drop n) (m.drop n):=by
 induction n generalizing l m with
 |zero=>simpa using h
 |succ n ih=>cases h with
  |nil=>simp;exact .nil _
  |cons _ a _ m h hl=>simpa using ih hl
theorem dB.take{l:List V}{m:List AV}(h:dB w l m)(n:Nat):dB w (l.take n) m:=by
 induction n generalizing l m with
 |zero=>simp;exact .nil _
 |succ n ih=>cases h with
  |nil=>simp;exact .nil _
  |cons _ a _ m h hl=>simp;exact .cons _ _ _ _ h (ih hl)
theorem dB.get{l:List V}{m:List AV}(h:dB w l m):∀{i:Nat} {v:V},l[i]? =some v->∃a,m[i]? =some a/\Den w v a:=by
 induction l generalizing m with
 |nil=>intro i v e;simp at e
 |cons b l ih=>cases h with
  |cons _ a _ m h hl=>
   intro i v e;cases i with
   |zero=>simp at e;subst e;exact⟨a,by simp,h⟩
   |succ i=>simpa using ih hl (by simpa using e)
theorem aX.get{l:List V}{m:List AV}(h:aX w l m){i:Nat}{v:V}(e:l[i]? =some v):∃a,m[i]? =some a/\Den w v a:=h.toP'.get e
theorem aX.app{l l':List V}{m m':List AV}(h:aX w l m)(h':aX w l' m'):aX w (l++l') (m++m'):=by
 induction l generalizing m with
 |nil=>cases h;simpa using h'
 |cons v l ih=>cases h with|cons _ a _ m h hl=>exact .cons _ _ _ _ h (ih hl)
theorem aX.take{l:List V}{m:List AV}(h:aX w l m)(n:Nat):aX w (l.take n) (m.take n):=by
 induction n generalizing l m with
 |zero=>simp;exact .nil
 |succ n ih=>cases h with
  |nil=>simp;exact .nil
  |cons _ a _ m h hl=>exact .cons _ _ _ _ h (ih hl)
theorem aX.drop{l:List V}{m:List AV}(h:aX w l m)(n:Nat):aX w (l.drop n) (m.drop n):=by
 induction n generalizing l m with
 |zero=>simpa using h
 |succ n ih=>cases h with
  |nil=>simp;exact .nil
  |cons _ a _ m h hl=>simpa using ih hl
theorem aX.setSeg{l m:List V}{l' m':List AV}(h:aX w l l')(hm:aX w m m')(o:Nat):aX w (Ev.setSeg l o m) (Ev.setSeg l' o m'):=by
 induction o generalizing l l' with
 |zero=>simp only[Ev.setSeg,dE,dI,aT];rw[hm.length];exact hm.app (h.drop _)
 |succ o ih=>cases h with
  |nil=>simp only[Ev.setSeg];exact .nil
  |cons v a l m h hl=>simp only[Ev.setSeg];exact .cons _ _ _ _ h (ih hl)
theorem aX.reps{l:List V}{m:List AV}(h:aX w l m)(n:Nat):aX w (Ev.reps n l) (Ev.reps n m):=by
 induction n with
 |zero=>exact .nil
 |succ n ih=>simp only[Ev.reps,dE];exact h.app ih
theorem dC.drop{es:Nat}{ls:List (List V)}{m:List AV}(h:dC w es ls m)(n:Nat):dC w es (ls.drop n) (m.drop (n*es)):=by
 induction n generalizing ls m with
 |zero=>simpa using h
 |succ n ih=>cases h with
  |nil=>simp;exact .nil _ _
  |cons _ l ls m h hl hs=>have:=ih hs;simp only[List.drop_drop] at this;rw[Nat.succ_mul,Nat.add_comm (n*es)];simpa using this
theorem dC.take{es:Nat}{ls:List (List V)}{m:List AV}(h:dC w es ls m)(n:Nat):dC w es (ls.take n) m:=by
 induction n generalizing ls m with
 |zero=>simp;exact .nil _ _
 |succ n ih=>cases h with
  |nil=>simp;exact .nil _ _
  |cons _ l ls m h hl hs=>simp;exact .cons _ _ _ _ h hl (ih hs)
theorem dC.get{es:Nat}{ls:List (List V)}{m:List AV}(h:dC w es ls m){i:Nat}{l:List V}(e:ls[i]? =some l):dB w l (m.drop (i*es))/\l.length=es:=by
 induction ls generalizing m i with
 |nil=>simp at e
 |cons x ls ih=>cases h with
  |cons _ _ _ _ h hl hs=>
   cases i with
   |zero=>simp at e;subst e;simpa using⟨h,hl⟩
   |succ i=>
    have:=ih hs (by simpa using e)
    simp only[List.drop_drop] at this;rw[Nat.succ_mul,Nat.add_comm (i*es)];exact this
theorem dC.flat{es:Nat}{ls:List (List V)}{m:List AV}(h:dC w es ls m):aX w ls.flatten (m.take (ls.length*es)):=by
 induction ls generalizing m with
 |nil=>simp;exact .nil
 |cons x ls ih=>cases h with
  |cons _ _ _ _ h hl hs=>simp only[List.flatten_cons,List.length_cons];have h1:=h.exact.app (ih hs);rw[hl] at h1;rw[Nat.succ_mul,Nat.add_comm,List.take_add];exact h1
theorem dC.of_flat{es:Nat}{ls:List (List V)}{m:List AV}(h:dB w ls.flatten m)(hl:∀x∈ls,x.length=es):dC w es ls m:=by
 induction ls generalizing m with
 |nil=>exact .nil _ _
 |cons x ls ih=>
  simp only[List.flatten_cons] at h;have hx:=hl x (.head _);refine .cons _ _ _ _ ?_ hx (ih ?_ fun y hy=>hl y (.tail _ hy))
  ·have:=h.take x.length;simpa using this
  ·have:=h.drop x.length;rw[hx] at this;simpa[<-hx] using this
end
inductive kR(w:Wd):List (V×V)->List (AV×AV)->Prop where
 |nil:kR w [] []
 |cons (k v:V) (a b:AV) (l:List (V×V)) (m:List (AV×AV)) (hk:Den w k a) (hv:Den w v b) (hl:kR w l m):kR w ((k,v)::l) ((a,b)::m)
theorem kR.mono{w w':Wd}(hw:w.le w'){l:List (V×V)}{m:List (AV×AV)}(h:kR w l m):kR w' l m:=by
 induction h with
 |nil=>exact .nil
 |cons k v a b l m hk hv _ ih=>exact .cons k v a b l m (hk.mono hw) (hv.mono hw) ih
inductive jC(w:Wd):VB->AB->Prop where
 |cells (l:List V) (e:TypeId) (fz:Nat) (raw:Bool) (L:List AV) (h:aX w l L):jC w (.cells l e fz raw) (.cells L e fz raw)
 |map (es:List (V×V)) (ES:List (AV×AV)) (h:kR w es ES):jC w (.map es) (.map ES)
theorem jC.mono{w w':Wd}(hw:w.le w'){B:VB}{A:AB}(h:jC w B A):jC w' B A:=by
 cases h with
 |cells l e fz raw L h=>exact .cells l e fz raw L (h.mono hw)
 |map es ES h=>exact .map es ES (h.mono hw)
structure HR(w:Wd)(vh:VH)(vn:Nat)(h:H)(an:Nat):Prop where
 blk:∀b B,vh b=some B->∃i A,w.ρ b=some i/\h.get i=some A/\jC w B A/\w.K i=none
 inj:∀b c i,w.ρ b=some i->w.ρ c=some i->b=c
 frz:∀i L,w.K i=some L->∃e fz raw,h.get i=some (.cells L e fz raw)
 lim:∀b i,w.ρ b=some i->i<an/\b<vn
 limK:∀i L,w.K i=some L->i<an
def V.isLoc:V->Bool
 |.bx _|.it _ _=>true
 |_=>false
def Loc(env:aH)(t:Nat):Prop:=∃v,lk env t=some v/\v.isLoc=true
def iA(w:Wd)(an i:Nat):Prop:=w.K i=none/\i<an/\∀b,w.ρ b≠some i
def TV(w:Wd)(env:aH)(e:Env)(v:V)(a:AV):Prop:=match v with
 |.lp u o=>∃i,a=.ptr i o/\(Loc env u->e.get u=some (.ptr i 0))
 |.lost=>True
 |v=>Den w v a
def KB(w:Wd)(env:aH)(e:Env)(h:H)(an:Nat)(t:Nat)(v:V):Prop:=match v with
 |.bx l=>∃i L ty,e.get t=some (.ptr i 0)/\h.get i=some (.cells L ty 0 false)/\aX w l L/\iA w an i
 |.it r p=>∃i,e.get t=some (.ptr i 0)/\h.get i=some (.iter r p)/\iA w an i
 |v=>∃a,e.get t=some a/\TV w env e v a
structure ER(w:Wd)(env:aH)(e:Env)(h:H)(an:Nat):Prop where
 slot:∀t v,lk env t=some v->KB w env e h an t v
 dist:∀t u i,Loc env t->Loc env u->e.get t=some (.ptr i 0)->e.get u=some (.ptr i 0)->t=u
def own(w:Wd)(vh:VH)(env:aH)(e:Env)(i:Nat):Prop:=(∃b B,vh b=some B/\w.ρ b=some i)\/(∃t,Loc env t/\e.get t=some (.ptr i 0))
structure cO(w:Wd)(o:Nat->Prop)(h:H)(an:Nat)(w':Wd)(o':Nat->Prop)(h':H)(an':Nat):Prop where
 le:w.le w'
 grow:an<=an'
 keep:∀i,i<an->¬o i->h'.get i=h.get i
 newr:∀b i,w'.ρ b=some i->w.ρ b=some i\/an<=i\/o i
 newk:∀i L,w'.K i=some L->w.K i=some L\/an<=i\/o i
 sub:∀i,o' i->o i\/an<=i
theorem cO.refl{w:Wd}{o o':Nat->Prop}{h:H}{an:Nat}(hs:∀i,o' i->o i\/an<=i):cO w o h an w o' h an:=⟨.refl _,Nat.le_refl _,fun _ _ _=>rfl,fun _ _ e=>.inl e,fun _ _ e=>.inl e,hs⟩
theorem cO.trans{w w' w'':Wd}{o o' o'':Nat->Prop}{h h' h'':H}{an an' an'':Nat}(s:cO w o h an w' o' h' an')(s':cO w' o' h' an' w'' o'' h'' an''):cO w o h an w'' o'' h'' an'':=by
 refine⟨s.le.trans s'.le,Nat.le_trans s.grow s'.grow,fun i hi ho=>?_,fun b i e=>?_,fun i L e=>?_,fun i e=>?_⟩
 ·rw[s'.keep i (Nat.lt_of_lt_of_le hi s.grow) fun ho'=>(s.sub i ho').elim ho fun h=>by omega]
  exact s.keep i hi ho
 ·rcases s'.newr b i e with h1|h1|h1
  ·exact s.newr b i h1
  ·exact .inr (.inl (Nat.le_trans s.grow h1))
  ·rcases s.sub i h1 with h2|h2
   ·exact .inr (.inr h2)
   ·exact .inr (.inl h2)
 ·rcases s'.newk i L e with h1|h1|h1
  ·exact s.newk i L h1
  ·exact .inr (.inl (Nat.le_trans s.grow h1))
  ·rcases s.sub i h1 with h2|h2
   ·exact .inr (.inr h2)
   ·exact .inr (.inl h2)
 ·rcases s'.sub i e with h1|h1
  ·exact s.sub i h1
  ·exact .inr (Nat.le_trans s.grow h1)
theorem cO.weak{w w':Wd}{o p o' p':Nat->Prop}{h h':H}{an an':Nat}(s:cO w o h an w' o' h' an')(ho:∀i,o i->p i)(hp:∀i,p' i->o' i):cO w p h an w' p' h' an':=⟨s.le,s.grow,fun i hi hn=>s.keep i hi fun h=>hn (ho i h),fun b i e=>(s.newr b i e).imp_right fun h=>h.imp_right (ho i),fun i L e=>(s.newk i L e).imp_right fun h=>h.imp_right (ho i),fun i e=>(s.sub i (hp i e)).imp_left (ho i)⟩
theorem cO.weak'{w w':Wd}{o p o' p':Nat->Prop}{h h':H}{an an':Nat}(s:cO w o h an w' o' h' an')(ho:∀i,o i->p i)(hp:∀i,p' i->o' i):cO w p h an w' p' h' an':=s.weak ho hp
end
section
open Go.Ev
theorem aP{a b:Nat}:Nat.beq a b=true↔a=b:=⟨Nat.eq_of_beq_eq_true,fun h=>by subst h;exact Nat.beq_refl a⟩
theorem dW{a b:Nat}:Nat.beq a b=false↔a≠b:=by
 constructor
 ·exact Nat.ne_of_beq_eq_false
 ·intro h;cases hb:Nat.beq a b
  ·rfl
  ·exact (h (aP.1 hb)).elim
theorem bC{a b:Nat}:Nat.ble a b=true↔a<=b:=by rw[Nat.ble_eq]
theorem cF{a b:Nat}:Nat.blt a b=true↔a<b:=bC
theorem dK(p:Nat×V)(l:aH)(t:Nat):lk (p::l) t=if t=p.1 then some p.2 else lk l t:=by
 simp only[lk];by_cases h:t=p.1
 ·subst h;simp[Nat.beq_refl]
 ·rw[dW.2 (Ne.symm h),if_neg h];rfl
def fW(d:Nat):V->V
 |.lp u o=>if u=d then .lost else .lp u o
 |v=>v
theorem wO(d:Nat):∀(l:aH) (t:Nat),lk (gV d l) t=(lk l t).map (fW d)
 |[],_=>rfl
 |(t',v)::l,t=>by
  have ih:=wO d l t;have key:gV d ((t',v)::l)=(t',fW d v)::gV d l:=by
   cases v with
   |lp u o=>
    simp only[gV,fW];by_cases h:u=d
    ·subst h;simp[Nat.beq_refl]
    ·rw[dW.2 h,if_neg h];rfl
   |_=>rfl
  rw[key,dK,dK,ih];simp only;split<;>rfl
theorem tY{d:Nat}{v:V}:(fW d v).isLoc=v.isLoc:=by
 cases v with
 |lp u o=>simp only[fW];split<;>rfl
 |_=>rfl
theorem VT{d:Nat}{l:aH}{t:Nat}:Loc (gV d l) t↔Loc l t:=by
 unfold Loc;rw[wO];cases lk l t with
 |none=>simp
 |some v=>simp[tY]
theorem A7(env:aH)(d t:Nat)(v:V):lk (jS env d v) t=if t=d then some (fW d v) else if v.isLoc then (lk env t).map (fW d) else lk env t:=by
 cases v with
 |bx l=>simp only[jS,dK,wO,V.isLoc];rfl
 |it r p=>simp only[jS,dK,wO,V.isLoc];rfl
 |lp u o=>
  simp only[jS,fW,V.isLoc];by_cases h:u=d
  ·subst h;simp[Nat.beq_refl,dK]
  ·rw[dW.2 h,if_neg h];simp[dK]
 |_=>simp only[jS,dK,V.isLoc];rfl
section
variable {w w' : Wd} {env env' : aH} {e : Env} {h h' : H} {an an' : Nat}
theorem TV.of_den{v:V}{a:AV}(hd:Den w v a):TV w env e v a:=by
 cases v with
 |lp u o=>cases hd
 |lost=>trivial
 |_=>exact hd
theorem TV.mono{v:V}{a:AV}(hw:w.le w')(ht:TV w env e v a):TV w' env e v a:=by
 cases v with
 |lp u o=>exact ht
 |lost=>trivial
 |_=>exact Den.mono hw ht
theorem Loc.lt{l:aH}{t:Nat}{v:V}(h:lk l t=some v)(hv:v.isLoc=true):Loc l t:=⟨v,h,hv⟩
theorem ER.get(r:ER w env e h an){t:Nat}{v:V}(hl:lk env t=some v)(hv:v.isLoc=false):∃a,e.get t=some a/\TV w env e v a:=by
 have:=r.slot t v hl;cases v with
 |bx l=>cases hv
 |it r p=>cases hv
 |_=>exact this
theorem ER.loc(r:ER w env e h an){t:Nat}(hl:Loc env t):∃i,e.get t=some (.ptr i 0)/\iA w an i:=by
 obtain⟨v,h1,h2⟩:=hl;have:=r.slot t v h1;cases v with
 |bx l=>obtain⟨i,L,ty,h3,h4,h5,h6⟩:=this;exact⟨i,h3,h6⟩
 |it r p=>obtain⟨i,h3,h4,h5⟩:=this;exact⟨i,h3,h5⟩
 |_=>cases h2
theorem ER.mono(r:ER w env e h an)(hw:w.le w')(hh:∀t i,Loc env t->e.get t=some (.ptr i 0)->h'.get i=h.get i/\iA w' an' i):ER w' env e h' an':=by
 refine⟨fun t v hl=>?_,r.dist⟩;have:=r.slot t v hl;cases v with
 |bx l=>obtain⟨i,L,ty,h3,h4,h5,h6⟩:=this;obtain⟨h7,h8⟩:=hh t i (.lt hl rfl) h3;exact⟨i,L,ty,h3,h7.trans h4,h5.mono hw,h8⟩
 |it r p=>obtain⟨i,h3,h4,h5⟩:=this;obtain⟨h7,h8⟩:=hh t i (.lt hl rfl) h3;exact⟨i,h3,h7.trans h4,h8⟩
 |_=>obtain⟨a,h3,h4⟩:=this;exact⟨a,h3,h4.mono hw⟩
theorem iA.step{o o':Nat->Prop}(s:cO w o h an w' o' h' an'){i:Nat}(hl:iA w an i)(ho:¬o i):h'.get i=h.get i/\iA w' an' i:=by
 obtain⟨h1,h2,h3⟩:=hl;refine⟨s.keep i h2 ho,?_,Nat.lt_of_lt_of_le h2 s.grow,fun b hb=>?_⟩
 ·cases hk:w'.K i with
  |none=>rfl
  |some L=>
   rcases s.newk i L hk with h4|h4|h4
   ·rw[h1] at h4;cases h4
   ·omega
   ·exact (ho h4).elim
 ·rcases s.newr b i hb with h4|h4|h4
  ·exact h3 b h4
  ·omega
  ·exact ho h4
def fR(w:Wd)(vh:VH)(i:Nat):Prop:=∃b B,vh b=some B/\w.ρ b=some i
theorem ER.call{vh:VH}{o':Nat->Prop}(r:ER w env e h an)(s:cO w (fR w vh) h an w' o' h' an'):ER w' env e h' an':=r.mono s.le fun t i hl hi=>by obtain⟨j,hj,hk⟩:=r.loc hl;rw[hi] at hj;cases hj;exact hk.step s fun⟨b,B,_,hb⟩=>hk.2.2 b hb
def vD(w:Wd)(env:aH)(e:Env)(h:H)(an:Nat)(v:V)(a:AV):Prop:=match v with
 |.bx l=>∃i L ty,a=.ptr i 0/\h.get i=some (.cells L ty 0 false)/\aX w l L/\iA w an i/\∀t,Loc env t->e.get t≠some (.ptr i 0)
 |.it r p=>∃i,a=.ptr i 0/\h.get i=some (.iter r p)/\iA w an i/\∀t,Loc env t->e.get t≠some (.ptr i 0)
 |v=>TV w env e v a
theorem vD.of_tv{v:V}{a:AV}(ht:TV w env e v a):vD w env e h an v a:=by
 cases v with
 |bx l=>cases ht
 |it r p=>cases ht
 |_=>exact ht
theorem TV.put{d:Nat}{v u:V}{a b:AV}(ht:TV w env e v a)(hu:u.isLoc=true->fW d v=v):TV w (jS env d u) (e.set d b) v a:=by
 cases v with
 |lp t o=>
  obtain⟨i,h1,h2⟩:=ht;refine⟨i,h1,fun hl=>?_⟩;obtain⟨x,h3,h4⟩:=hl;rw[A7] at h3;rw[Tr.get_set];by_cases htd:t=d
  ·subst htd;rw[if_pos rfl] at h3;cases h3;rw[tY] at h4;have:=hu h4;simp[fW] at this
  ·rw[if_neg htd] at h3 ⊢;refine h2 ?_;by_cases hul:u.isLoc=true
   ·rw[if_pos hul] at h3;cases hlk:lk env t with
    |none=>rw[hlk] at h3;cases h3
    |some y=>rw[hlk] at h3;cases h3;rw[tY] at h4;exact⟨y,hlk,h4⟩
   ·rw[if_neg hul] at h3;exact⟨x,h3,h4⟩
 |lost=>trivial
 |_=>exact ht
theorem JC{d t:Nat}{v:V}:Loc (jS env d v) t↔if t=d then v.isLoc=true else Loc env t:=by
 unfold Loc;rw[A7];by_cases htd:t=d
 ·rw[if_pos htd,if_pos htd];constructor
  ·rintro⟨x,h3,h4⟩;cases h3;rwa[tY] at h4
  ·intro h;exact⟨_,rfl,by rwa[tY]⟩
 ·rw[if_neg htd,if_neg htd];by_cases hul:v.isLoc=true
  ·rw[if_pos hul];cases hlk:lk env t with
   |none=>simp
   |some y=>simp[tY]
  ·rw[if_neg hul]
theorem ER.put(r:ER w env e h an){d:Nat}{v:V}{a:AV}(hr:vD w env e h an v a):ER w (jS env d v) (e.set d a) h an:=by
 constructor
 ·intro t x hl;rw[A7] at hl;by_cases htd:t=d
  ·subst htd;rw[if_pos rfl] at hl;cases hl;cases v with
   |bx l=>obtain⟨i,L,ty,h1,h2,h3,h4,h5⟩:=hr;exact⟨i,L,ty,by rw[Tr.get_set,if_pos rfl,h1],h2,h3,h4⟩
   |it r p=>obtain⟨i,h1,h2,h3,h5⟩:=hr;exact⟨i,by rw[Tr.get_set,if_pos rfl,h1],h2,h3⟩
   |lp u o=>
    by_cases hu:u=t
    ·subst hu;simp only[fW,if_true];exact⟨a,by rw[Tr.get_set,if_pos rfl],trivial⟩
    ·have e1:fW t (.lp u o)=.lp u o:=by simp[fW,hu]
     rw[e1];exact⟨a,by rw[Tr.get_set,if_pos rfl],TV.put hr fun _=>e1⟩
   |_=>exact⟨a,by rw[Tr.get_set,if_pos rfl],hr⟩
  ·rw[if_neg htd] at hl;have key:∀y,lk env t=some y->(v.isLoc=true->fW d y=y)->KB w (jS env d v) (e.set d a) h an t y:=by
    intro y hy hu;have:=r.slot t y hy;cases y with
    |bx l=>obtain⟨i,L,ty,h1,h2⟩:=this;exact⟨i,L,ty,by rw[Tr.get_set,if_neg htd,h1],h2⟩
    |it r p=>obtain⟨i,h1,h2⟩:=this;exact⟨i,by rw[Tr.get_set,if_neg htd,h1],h2⟩
    |_=>obtain⟨b,h1,h2⟩:=this;exact⟨b,by rw[Tr.get_set,if_neg htd,h1],TV.put h2 hu⟩
   by_cases hul:v.isLoc=true
   ·rw[if_pos hul] at hl;cases hlk:lk env t with
    |none=>rw[hlk] at hl;cases hl
    |some y=>
     rw[hlk] at hl;cases hl;by_cases hy:fW d y=y
     ·rw[hy];exact key y hlk fun _=>hy
     ·cases y with
      |lp u o=>
       simp only[fW] at hy ⊢;by_cases hu:u=d
       ·rw[if_pos hu];obtain⟨b,h1,h2⟩:=r.slot t _ hlk;exact⟨b,by rw[Tr.get_set,if_neg htd,h1],trivial⟩
       ·rw[if_neg hu] at hy;exact (hy rfl).elim
      |_=>exact (hy rfl).elim
   ·rw[if_neg hul] at hl;exact key x hl fun h=>(hul h).elim
 ·intro t u i ht hu h1 h2;rw[JC] at ht hu;rw[Tr.get_set] at h1 h2;have new:v.isLoc=true->∀s,s≠d->Loc env s->e.get s=some (.ptr i 0)->some a=some (.ptr i 0)->False:=by
   intro hv s hs hl hg ha;cases v with
   |bx l=>obtain⟨j,L,ty,h3,h4,h5,h6,h7⟩:=hr;cases ha;cases h3;exact h7 s hl hg
   |it r p=>obtain⟨j,h3,h4,h5,h7⟩:=hr;cases ha;cases h3;exact h7 s hl hg
   |_=>cases hv
  by_cases htd:t=d
  ·by_cases hud:u=d
   ·rw[htd,hud]
   ·rw[if_pos htd] at ht h1;rw[if_neg hud] at hu h2;exact (new ht u hud hu h2 h1).elim
  ·by_cases hud:u=d
   ·rw[if_pos hud] at hu h2;rw[if_neg htd] at ht h1;exact (new hu t htd ht h1 h2).elim
   ·rw[if_neg htd] at ht h1;rw[if_neg hud] at hu h2;exact r.dist t u i ht hu h1 h2
theorem ER.setBx(r:ER w env e h an){t:Nat}{l m:List V}(hl:lk env t=some (.bx l)){i:Nat}(hi:e.get t=some (.ptr i 0)){M:List AV}{ty:TypeId}(hm:aX w m M):
  ER w ((t,.bx m)::env) e (h.set i (.cells M ty 0 false)) an:=by
 have hloc:Loc env t:=.lt hl rfl;have hL:∀u,Loc ((t,.bx m)::env) u↔Loc env u:=by
  intro u;unfold Loc;rw[dK];by_cases hu:u=t
  ·subst hu;simp[hl,V.isLoc]
  ·simp only;rw[if_neg hu]
 constructor
 ·intro u x hx;rw[dK] at hx;simp only at hx;by_cases hu:u=t
  ·subst hu;rw[if_pos rfl] at hx;cases hx;obtain⟨j,hj,hk⟩:=r.loc hloc;rw[hi] at hj;cases hj;exact⟨i,M,ty,hi,by rw[Tr.get_set,if_pos rfl],hm,hk⟩
  ·rw[if_neg hu] at hx;have:=r.slot u x hx;have ne:∀j,x.isLoc=true->e.get u=some (.ptr j 0)->j≠i:=fun j hx' hj he=>by subst he;exact hu (r.dist u t j (.lt hx hx') hloc hj hi)
   cases x with
   |bx l=>obtain⟨j,L,ty,h1,h2,h3⟩:=this;exact⟨j,L,ty,h1,by rw[Tr.get_set,if_neg (ne j rfl h1),h2],h3⟩
   |it r p=>obtain⟨j,h1,h2,h3⟩:=this;exact⟨j,h1,by rw[Tr.get_set,if_neg (ne j rfl h1),h2],h3⟩
   |lp u' o=>obtain⟨a,h1,j,h2,h3⟩:=this;exact⟨a,h1,j,h2,fun hl=>h3 ((hL _).1 hl)⟩
   |_=>exact this
 ·intro a b j ha hb;exact r.dist a b j ((hL _).1 ha) ((hL _).1 hb)
theorem ER.setIt(r:ER w env e h an){t:Nat}{x y:List Nat}{p q:Nat}(hl:lk env t=some (.it x p)){i:Nat}(hi:e.get t=some (.ptr i 0)):
  ER w ((t,.it y q)::env) e (h.set i (.iter y q)) an:=by
 have hloc:Loc env t:=.lt hl rfl;have hL:∀u,Loc ((t,.it y q)::env) u↔Loc env u:=by
  intro u;unfold Loc;rw[dK];by_cases hu:u=t
  ·subst hu;simp[hl,V.isLoc]
  ·simp only;rw[if_neg hu]
 constructor
 ·intro u x hx;rw[dK] at hx;simp only at hx;by_cases hu:u=t
  ·subst hu;rw[if_pos rfl] at hx;cases hx;obtain⟨j,hj,hk⟩:=r.loc hloc;rw[hi] at hj;cases hj;exact⟨i,hi,by rw[Tr.get_set,if_pos rfl],hk⟩
  ·rw[if_neg hu] at hx;have:=r.slot u x hx;have ne:∀j,x.isLoc=true->e.get u=some (.ptr j 0)->j≠i:=fun j hx' hj he=>by subst he;exact hu (r.dist u t j (.lt hx hx') hloc hj hi)
   cases x with
   |bx l=>obtain⟨j,L,ty,h1,h2,h3⟩:=this;exact⟨j,L,ty,h1,by rw[Tr.get_set,if_neg (ne j rfl h1),h2],h3⟩
   |it r p=>obtain⟨j,h1,h2,h3⟩:=this;exact⟨j,h1,by rw[Tr.get_set,if_neg (ne j rfl h1),h2],h3⟩
   |lp u' o=>obtain⟨a,h1,j,h2,h3⟩:=this;exact⟨a,h1,j,h2,fun hl=>h3 ((hL _).1 hl)⟩
   |_=>exact this
 ·intro a b j ha hb;exact r.dist a b j ((hL _).1 ha) ((hL _).1 hb)
end
end
section
open Go.Ev
section
variable {w w' : Wd} {vh : VH} {vn : Nat} {env : aH} {e : Env} {h h' : H} {an an' : Nat}
theorem lX{b c:Nat}{B:VB}:aI vh b B c=if c=b then some B else vh c:=by
 simp only[aI];by_cases hb:c=b
 ·subst hb;simp[Nat.beq_refl]
 ·rw[dW.2 hb,if_neg hb];rfl
theorem pF{b c:Nat}:bX vh b c=if c=b then none else vh c:=by
 simp only[bX];by_cases hb:c=b
 ·subst hb;simp[Nat.beq_refl]
 ·rw[dW.2 hb,if_neg hb];rfl
theorem aK{b:Nat}{B:VB}:aI vh b B b=some B:=by simp[lX]
theorem aG{b c:Nat}{B:VB}(hn:c≠b):aI vh b B c=vh c:=by simp[lX,hn]
theorem b5{b c:Nat}(hn:c≠b):bX vh b c=vh c:=by simp[pF,hn]
theorem HR.fresh(r:HR w vh vn h an):vh vn=none:=by
 cases hb:vh vn with
 |none=>rfl
 |some B=>obtain⟨i,A,h1,_⟩:=r.blk _ _ hb;have:=(r.lim _ _ h1).2;omega
theorem HR.upd(r:HR w vh vn h an){b i:Nat}{B B':VB}{A':AB}(hb:vh b=some B)(hi:w.ρ b=some i)(hd:jC w B' A'):HR w (aI vh b B') vn (h.set i A') an:=by
 obtain⟨i',A,h1,h2,h3,h4⟩:=r.blk b B hb;rw[hi] at h1;cases h1;constructor
 ·intro c C hc;rw[lX] at hc;by_cases hcb:c=b
  ·subst hcb;rw[if_pos rfl] at hc;cases hc;exact⟨i,A',hi,by rw[Tr.get_set,if_pos rfl],hd,h4⟩
  ·rw[if_neg hcb] at hc;obtain⟨j,A2,g1,g2,g3,g4⟩:=r.blk c C hc;refine⟨j,A2,g1,?_,g3,g4⟩;rw[Tr.get_set,if_neg,g2];intro ej;subst ej;exact hcb (r.inj _ _ _ g1 hi)
 ·exact r.inj
 ·intro j L hj;obtain⟨ty,fz,raw,g⟩:=r.frz j L hj;refine⟨ty,fz,raw,?_⟩;rw[Tr.get_set,if_neg,g];intro ej;subst ej;rw[h4] at hj;cases hj
 ·exact r.lim
 ·exact r.limK
theorem HR.del(r:HR w vh vn h an)(b:Nat):HR w (bX vh b) vn h an:=by
 refine⟨fun c C hc=>?_,r.inj,r.frz,r.lim,r.limK⟩;rw[pF] at hc;split at hc
 ·cases hc
 ·exact r.blk c C hc
theorem HR.sub(r:HR w vh vn h an){vh':VH}(hs:∀b B,vh' b=some B->vh b=some B):HR w vh' vn h an:=⟨fun c C hc=>r.blk c C (hs c C hc),r.inj,r.frz,r.lim,r.limK⟩
theorem HR.grow(r:HR w vh vn h an){vn' an':Nat}(h1:vn<=vn')(h2:an<=an'):HR w vh vn' h an':=⟨r.blk,r.inj,r.frz,fun b i hb=>⟨Nat.lt_of_lt_of_le (r.lim b i hb).1 h2,Nat.lt_of_lt_of_le (r.lim b i hb).2 h1⟩,fun i L hi=>Nat.lt_of_lt_of_le (r.limK i L hi) h2⟩
theorem HR.other(r:HR w vh vn h an)(hh:∀i,(∃b,w.ρ b=some i)\/(∃L,w.K i=some L)->h'.get i=h.get i):HR w vh vn h' an:=
 ⟨fun c C hc=>let ⟨i,A,h1,h2,h3⟩:=r.blk c C hc;⟨i,A,h1,(hh i (.inl ⟨c,h1⟩)).trans h2,h3⟩,r.inj,
  fun i L hi=>let ⟨a,b,c,h1⟩:=r.frz i L hi;⟨a,b,c,(hh i (.inr ⟨L,hi⟩)).trans h1⟩,r.lim,r.limK⟩
def Wd.addB(w:Wd)(b i:Nat):Wd:=⟨fun c=>if c=b then some i else w.ρ c,w.K⟩
def Wd.addK(w:Wd)(i:Nat)(L:List AV):Wd:=⟨w.ρ,fun j=>if j=i then some L else w.K j⟩
theorem HR.le_addB(r:HR w vh vn h an)(i:Nat):w.le (w.addB vn i):=⟨fun b j hb=>by
 show (if b=vn then some i else w.ρ b)=some j
 rw[if_neg,hb];intro e;subst e;have:=(r.lim _ _ hb).2;omega,fun _ _ hk=>hk⟩
structure l8(w:Wd)(nid:Nat):Prop where
 ρ:∀b,w.ρ b≠some nid
 K:w.K nid=none
theorem HR.free(r:HR w vh vn h an):l8 w an:=⟨fun b hb=>by have:=(r.lim _ _ hb).1;omega,by
 cases hk:w.K an with
 |none=>rfl
 |some L=>have:=r.limK _ _ hk;omega⟩
theorem HR.newB(r:HR w vh vn h an){nid an':Nat}(hf:l8 w nid)(h1:an<=an')(h2:nid<an'){B:VB}{A:AB}(hd:jC (w.addB vn nid) B A):HR (w.addB vn nid) (aI vh vn B) (vn+1) (h.set nid A) an':=by
 have hle:=r.le_addB nid;constructor
 ·intro c C hc;rw[lX] at hc;by_cases hcb:c=vn
  ·subst hcb;rw[if_pos rfl] at hc;cases hc;exact⟨nid,A,by simp[Wd.addB],by rw[Tr.get_set,if_pos rfl],hd,hf.K⟩
  ·rw[if_neg hcb] at hc;obtain⟨j,A2,g1,g2,g3,g4⟩:=r.blk c C hc;refine⟨j,A2,hle.ρ _ _ g1,?_,g3.mono hle,g4⟩;rw[Tr.get_set,if_neg,g2];intro ej;subst ej;exact hf.ρ _ g1
 ·intro b c i hb hc;simp only[Wd.addB] at hb hc;split at hb<;>split at hc
  ·omega
  ·cases hb;exact (hf.ρ _ hc).elim
  ·cases hc;exact (hf.ρ _ hb).elim
  ·exact r.inj _ _ _ hb hc
 ·intro j L hj;obtain⟨ty,fz,raw,g⟩:=r.frz j L hj;refine⟨ty,fz,raw,?_⟩;rw[Tr.get_set,if_neg,g];intro ej;subst ej;have hj:w.K j=some L:=hj;rw[hf.K] at hj;cases hj
 ·intro b i hb;simp only[Wd.addB] at hb;split at hb
  ·cases hb;omega
  ·have:=r.lim _ _ hb;omega
 ·intro i L hi;have:=r.limK i L hi;omega
theorem l8.le_addK{nid:Nat}(hf:l8 w nid)(L:List AV):w.le (w.addK nid L):=⟨fun _ _ hb=>hb,fun i M hk=>by
 show (if i=nid then some L else w.K i)=some M
 rw[if_neg,hk];intro e;subst e;rw[hf.K] at hk;cases hk⟩
theorem HR.newK(r:HR w vh vn h an){nid an':Nat}(hf:l8 w nid)(h1:an<=an')(h2:nid<an')(L:List AV)(ty:TypeId)(fz:Nat)(raw:Bool):HR (w.addK nid L) vh vn (h.set nid (.cells L ty fz raw)) an':=by
 have hle:=hf.le_addK L;constructor
 ·intro c C hc;obtain⟨j,A2,g1,g2,g3,g4⟩:=r.blk c C hc;have hj:j≠nid:=fun e=>hf.ρ c (e▸g1);refine⟨j,A2,g1,?_,g3.mono hle,?_⟩
  ·rw[Tr.get_set,if_neg hj,g2]
  ·show (if j=nid then some L else w.K j)=none
   rw[if_neg hj,g4]
 ·exact r.inj
 ·intro j M hj;simp only[Wd.addK] at hj;split at hj
  ·rename_i ej;subst ej;cases hj;exact⟨ty,fz,raw,by rw[Tr.get_set,if_pos rfl]⟩
  ·rename_i ej;obtain⟨ty,fz,raw,g⟩:=r.frz j M hj;exact⟨ty,fz,raw,by rw[Tr.get_set,if_neg ej,g]⟩
 ·intro b i hb;have:=r.lim _ _ hb;omega
 ·intro i M hi;simp only[Wd.addK] at hi;split at hi
  ·omega
  ·have:=r.limK i M hi;omega
theorem HR.newL(r:HR w vh vn h an){nid an':Nat}(hf:l8 w nid)(h1:an<=an')(A:AB):HR w vh vn (h.set nid A) an':=
 (r.other (h':=h.set nid A) fun i hi=>by
  rw[Tr.get_set,if_neg];rintro rfl;rcases hi with⟨b,hb⟩|⟨L,hL⟩
  ·exact hf.ρ _ hb
  ·rw[hf.K] at hL;cases hL).grow (Nat.le_refl _) h1
theorem HR.freeze(r:HR w vh vn h an){b i:Nat}{l:List V}{ty:TypeId}{fz:Nat}{raw:Bool}(hb:vh b=some (.cells l ty fz raw))(hi:w.ρ b=some i){L:List AV}(hL:h.get i=some (.cells L ty fz raw)):
  w.le (w.addK i L)/\HR (w.addK i L) (bX vh b) vn h an:=by
 obtain⟨j,A,h1,h2,h3,h4⟩:=r.blk b _ hb;rw[hi] at h1;cases h1;have hle:w.le (w.addK i L):=⟨fun _ _ hb=>hb,fun k M hk=>by
  show (if k=i then some L else w.K k)=some M
  rw[if_neg,hk];intro e;subst e;rw[h4] at hk;cases hk⟩
 refine⟨hle,?_⟩;constructor
 ·intro c C hc;rw[pF] at hc;split at hc
  ·cases hc
  ·rename_i hcb;obtain⟨j,A2,g1,g2,g3,g4⟩:=r.blk c C hc;refine⟨j,A2,g1,g2,g3.mono hle,?_⟩;show (if j=i then some L else w.K j)=none
   rw[if_neg,g4];intro e;subst e;exact hcb (r.inj _ _ _ g1 hi)
 ·exact r.inj
 ·intro k M hk;simp only[Wd.addK] at hk;split at hk
  ·rename_i ek;subst ek;cases hk;exact⟨ty,fz,raw,hL⟩
  ·exact r.frz k M hk
 ·exact r.lim
 ·intro k M hk;simp only[Wd.addK] at hk;split at hk
  ·rename_i ek;subst ek;exact (r.lim _ _ hi).1
  ·exact r.limK k M hk
theorem HR.freezeL(r:HR w vh vn h an){i:Nat}(hi:iA w an i){L:List AV}{ty:TypeId}{fz:Nat}{raw:Bool}(hL:h.get i=some (.cells L ty fz raw)):
  w.le (w.addK i L)/\HR (w.addK i L) vh vn h an:=by
 have hle:w.le (w.addK i L):=⟨fun _ _ hb=>hb,fun k M hk=>by
  show (if k=i then some L else w.K k)=some M
  rw[if_neg,hk];intro e;subst e;rw[hi.1] at hk;cases hk⟩
 refine⟨hle,?_⟩;constructor
 ·intro c C hc;obtain⟨j,A2,g1,g2,g3,g4⟩:=r.blk c C hc;refine⟨j,A2,g1,g2,g3.mono hle,?_⟩;show (if j=i then some L else w.K j)=none
  rw[if_neg,g4];intro e;subst e;exact hi.2.2 c g1
 ·exact r.inj
 ·intro k M hk;simp only[Wd.addK] at hk;split at hk
  ·rename_i ek;subst ek;cases hk;exact⟨ty,fz,raw,hL⟩
  ·exact r.frz k M hk
 ·exact r.lim
 ·intro k M hk;simp only[Wd.addK] at hk;split at hk
  ·rename_i ek;subst ek;exact hi.2.1
  ·exact r.limK k M hk
end
def mS:Nat->V->AV->Bool
 |0=>fun _ _=>false
 |n+1=>
  let go:=fun (l:List V) (m:List AV)=>Nat.beq l.length m.length&&(l.zip m).all fun p=>mS n p.1 p.2
  fun v a=>match v,a with
  |.bool x,.bool y=>x==y
  |.int k x,.int k' y=>keq k k'&&ieq x y
  |.str l,.str m=>eqL l m
  |.nilp,.nilp=>true
  |.nils,.nils=>true
  |.nilm,.nilm=>true
  |.nilf,.nilf=>true
  |.nili,.nili=>true
  |.agg l,.agg m=>go l m
  |.tup l,.tup m=>go l m
  |_,_=>false
theorem GH{a b:IntKind}(h:keq a b=true):a=b:=by cases a<;>cases b<;>first|rfl|cases h
theorem sO{w:Wd}:∀(n:Nat) (v:V) (a:AV),mS n v a=true->Den w v a
 |0,v,a,h=>by cases h
 |n+1,v,a,h=>by
  have hl:∀(l:List V) (m:List AV),(Nat.beq l.length m.length&&(l.zip m).all fun p=>mS n p.1 p.2)=true->aX w l m:=by
   intro l
   induction l with
   |nil=>intro m hm;cases m with|nil=>exact .nil|cons _ _=>simp at hm
   |cons v l ih=>
    intro m hm;cases m with
    |nil=>simp at hm
    |cons a m=>simp only[List.length_cons,List.zip_cons_cons,List.all_cons,Bool.and_eq_true,aP] at hm;exact .cons _ _ _ _ (sO n v a hm.2.1) (ih m (by simp only[Bool.and_eq_true,aP];exact⟨by omega,hm.2.2⟩))
  unfold mS at h;simp only at h;split at h
  ·simp only[beq_iff_eq] at h;subst h;exact .bool _
  ·simp only[Bool.and_eq_true] at h;obtain⟨h1,h2⟩:=h;cases GH h1;rw[jM] at h2;simp only[decide_eq_true_eq] at h2;subst h2;exact .int _ _
  ·rw[iX] at h;simp only[decide_eq_true_eq] at h;subst h;exact .str _
  ·exact .nilp
  ·exact .nils
  ·exact .nilm
  ·exact .nilf
  ·exact .nili
  ·exact .agg _ _ (hl _ _ h)
  ·exact .tup _ _ (hl _ _ h)
  ·cases h
def O0(l:List V)(m:List AV):Bool:=Nat.beq l.length m.length&&(l.zip m).all fun p=>mS 4 p.1 p.2
theorem aCN{w:Wd}{l:List V}{m:List AV}(h:O0 l m=true):aX w l m:=by have:mS 5 (.agg l) (.agg m)=true:=h;cases sO (w:=w) 5 _ _ this with|agg _ _ h=>exact h
def aS:VX->Operand->Bool
 |.t n,.tmp m=>Nat.beq n m
 |.c v,.const x=>(match ofV 4 x with|some a=>mS 5 v a|none=>false)
 |.g k,.global m=>Nat.beq k m
 |.f g,.func f=>Nat.beq g f
 |_,_=>false
def aV(G:Gt)(w:Wd):Prop:=∀k l,G k=some l->∃L,w.K k=some L/\aX w l L
theorem aV.mono{G:Gt}{w w':Wd}(h:aV G w)(hw:w.le w'):aV G w':=fun k l e=>let ⟨L,h1,h2⟩:=h k l e;⟨L,hw.K _ _ h1,h2.mono hw⟩
section
variable {G : Gt} {w : Wd} {vh : VH} {env : aH} {e : Env} {h : H} {an : Nat}
theorem qP(hg:aV G w)(r:ER w env e h an){x:VX}{o:Operand}(hx:aS x o=true){v:V}(hv:rdV G env x=some v):TV w env e v (rd e o):=by
 cases x with
 |t n=>
  cases o with
  |tmp m=>
   have:=aP.1 hx;subst this;simp only[rdV] at hv;cases hl:lk env n with
   |none=>rw[hl] at hv;cases hv
   |some u=>
    rw[hl] at hv;have:=r.slot n u hl;cases u with
    |bx l=>cases hv;obtain⟨i,L,ty,h1,_⟩:=this;exact⟨i,by simp[rd,h1],fun _=>h1⟩
    |it x p=>cases hv;obtain⟨i,h1,_⟩:=this;exact⟨i,by simp[rd,h1],fun _=>h1⟩
    |_=>cases hv;obtain⟨a,h1,h2⟩:=this;simp only[rd,h1];exact h2
  |_=>cases hx
 |c u=>
  cases o with
  |const y=>
   cases hv;simp only[aS] at hx;simp only[rd];split at hx
   ·rename_i a ha;rw[ha];exact .of_den (sO 5 _ _ hx)
   ·cases hx
  |_=>cases hx
 |g k=>
  cases o with
  |global m=>
   have:=aP.1 hx;subst this;simp only[rdV] at hv;cases hk:G k with
   |none=>rw[hk] at hv;cases hv
   |some l=>rw[hk] at hv;cases hv;obtain⟨L,h1,h2⟩:=hg k l hk;exact Den.fp l 0 0 k 0 L h1 rfl (Nat.zero_le _) (by simpa using h2.toP')
  |_=>cases hx
 |f g=>
  cases o with
  |func f=>have:=aP.1 hx;subst this;cases hv;exact Den.func g [] [] [] [] .nil .nil
  |_=>cases hx
theorem bI(hg:aV G w)(r:ER w env e h an){x:VX}{o:Operand}(hx:aS x o=true){k:V->Prop}(hk:rdK G env x k):∃v,k v/\TV w env e v (rd e o):=by
 unfold rdK at hk;split at hk
 ·rename_i v hv;exact⟨v,hk,qP hg r hx hv⟩
 ·exact hk.elim
theorem xG(hg:aV G w)(r:ER w env e h an){x:VX}{o:Operand}(hx:aS x o=true){k:V->Prop}(hk:rdF G env x k):∃v,k v/\v.free=true/\Den w v (rd e o):=by
 obtain⟨v,h1,h2⟩:=bI hg r hx hk;cases v with
 |lp _ _=>exact h1.elim
 |bx _=>exact h1.elim
 |it _ _=>exact h1.elim
 |lost=>exact h1.elim
 |_=>exact⟨_,h1,rfl,h2⟩
theorem xF(hg:aV G w)(r:ER w env e h an){x:VX}{o:Operand}(hx:aS x o=true){k:V->Prop}(hk:rdC G env x k):∃v,k v/\v.free=true/\Den w v (rd e o)/\∀l,v≠.tup l:=by
 obtain⟨v,h1,h2,h3⟩:=xG hg r hx hk;cases v with
 |tup _=>exact h1.elim
 |_=>exact⟨_,h1,h2,h3,nofun⟩
def mN:List VX->List Operand->Bool
 |[],[]=>true
 |x::xs,o::os=>aS x o&&mN xs os
 |_,_=>false
theorem nI(hg:aV G w)(r:ER w env e h an):∀{xs:List VX} {os:List Operand},mN xs os=true->∀{k:List V->Prop},iN G env xs k->∃vs,k vs/\(∀v∈vs,v.free=true)/\aX w vs (os.map (rd e))
 |[],[],_,k,hk=>⟨[],hk,nofun,.nil⟩
 |[],_::_,hx,_,_=>by cases hx
 |_::_,[],hx,_,_=>by cases hx
 |x::xs,o::os,hx,k,hk=>by simp only[mN,Bool.and_eq_true] at hx;obtain⟨v,h1,h2,h3⟩:=xG hg r hx.1 hk;obtain⟨vs,h4,h5,h6⟩:=nI hg r hx.2 h1;exact⟨v::vs,h4,fun u hu=>by rcases List.mem_cons.1 hu with rfl|hu;exact h2;exact h5 u hu,.cons _ _ _ _ h3 h6⟩
def mK:Option VX->Option Operand->Bool
 |none,none=>true
 |some x,some o=>aS x o
 |_,_=>false
theorem jU(hg:aV G w)(r:ER w env e h an){d:Nat}{x:Option VX}{o:Option Operand}(hx:mK x o=true){k:Nat->Prop}(hk:rdO G env d x k):∃n,k n/\bnd d (Ev.rdO e o)=some n:=by
 cases x with
 |none=>cases o with
  |none=>exact⟨d,hk,rfl⟩
  |some _=>cases hx
 |some x=>cases o with
  |none=>cases hx
  |some o=>
   obtain⟨v,h1,h2⟩:=bI hg r hx hk;generalize hrd:rd e o=a at h2;split at h1
   ·obtain⟨j,hj,hk⟩:=h1;cases h2;subst hj;refine⟨j,hk,?_⟩;simp only[Ev.rdO,bnd,hrd]
   ·exact h1.elim
end
end
section
open Go.Ev
def j7(P:Program)(e:TypeId)(z:List V):Bool:=match fO P e with
 |some a=>(match a.cells with|some c=>O0 z c|none=>false)
 |none=>false
theorem pZ{P:Program}{e:TypeId}{z:List V}(h:j7 P e z=true):∃a c,fO P e=some a/\a.cells=some c/\∀w,aX w z c:=by
 unfold j7 at h;split at h
 ·rename_i a ha;split at h
  ·rename_i c hc;exact⟨a,c,ha,hc,fun w=>aCN h⟩
  ·cases h
 ·cases h
def iM(a:Option Nat)(b:Nat):Bool:=match a with|some x=>Nat.beq x b|none=>false
theorem i6{a:Option Nat}{b:Nat}(h:iM a b=true):a=some b:=by
 unfold iM at h;split at h
 ·rw[aP.1 h]
 ·cases h
def BD(a:Option Bool)(b:Bool):Bool:=match a with|some x=>x==b|none=>false
theorem R0{a:Option Bool}{b:Bool}(h:BD a b=true):a=some b:=by
 unfold BD at h;split at h
 ·simp only[beq_iff_eq] at h;rw[h]
 ·cases h
def vQ(place:Nat->Option (Nat×Nat)):List (Nat×Nat×VX)->List (Nat×Operand)->Bool
 |[],[]=>true
 |p::ps,q::qs=>(match place q.1 with|some (a,b)=>Nat.beq a p.1&&Nat.beq b p.2.1|none=>false)&&aS p.2.2 q.2&&vQ place ps qs
 |_,_=>false
def vP:List (Nat×VX)->List (Nat×Operand)->Bool
 |[],[]=>true
 |p::ps,q::qs=>Nat.beq p.1 q.1&&aS p.2 q.2&&vP ps qs
 |_,_=>false
def tT(P:Program)(t:TypeId)(es:Nat)(e:TypeId):Bool:=match P.underlying t with
 |some (.slice u)=>Nat.beq u e&&iM (bG P u) es&&Nat.blt 0 es
 |_=>false
theorem BT{P:Program}{t:TypeId}{es:Nat}{e:TypeId}(h:tT P t es e=true):P.underlying t=some (.slice e)/\bG P e=some es/\0<es:=by
 unfold tT at h;split at h
 ·rename_i u hu;simp only[Bool.and_eq_true] at h;have:=aP.1 h.1.1;subst this;exact⟨hu,i6 h.1.2,cF.1 h.2⟩
 ·cases h
def tU(P:Program)(t:TypeId)(es:Nat):Bool:=match P.underlying t with
 |some (.slice u)=>iM (bG P u) es&&Nat.blt 0 es
 |_=>false
theorem BU{P:Program}{t:TypeId}{es:Nat}(h:tU P t es=true):∃e,P.underlying t=some (.slice e)/\bG P e=some es/\0<es:=by
 unfold tU at h;split at h
 ·rename_i u hu;simp only[Bool.and_eq_true] at h;exact⟨u,hu,i6 h.1,cF.1 h.2⟩
 ·cases h
def zW(P:Program)(t:TypeId)(es n:Nat):Bool:=match P.underlying t with
 |some (.array m u)=>Nat.beq m n&&iM (bG P u) es&&Nat.blt 0 es
 |_=>false
theorem LC{P:Program}{t:TypeId}{es n:Nat}(h:zW P t es n=true):∃e,P.underlying t=some (.array n e)/\bG P e=some es/\0<es:=by
 unfold zW at h;split at h
 ·rename_i m u hu;simp only[Bool.and_eq_true] at h;have:=aP.1 h.1.1;subst this;exact⟨u,hu,i6 h.1.2,cF.1 h.2⟩
 ·cases h
def kC(P:Program)(t:TypeId):Bool:=match P.underlying t with|some .string=>true|_=>false
theorem jN{P:Program}{t:TypeId}(h:kC P t=true):P.underlying t=some .string:=by
 unfold kC at h;split at h
 ·assumption
 ·cases h
def GD(P:Program)(t:TypeId):Bool:=match P.underlying t with|some (.int _)=>true|_=>false
theorem QD{P:Program}{t:TypeId}(h:GD P t=true):∃k,P.underlying t=some (.int k):=by
 unfold GD at h;split at h
 ·exact⟨_,by assumption⟩
 ·cases h
def wF(P:Program)(t:TypeId)(k:IntKind):Bool:=match P.underlying t with|some (.int k')=>keq k' k|_=>false
theorem AY{P:Program}{t:TypeId}{k:IntKind}(h:wF P t k=true):P.underlying t=some (.int k):=by
 unfold wF at h;split at h
 ·rename_i k' hk;rw[GH h] at hk;exact hk
 ·cases h
def xJ(P:Program):List Field->Nat->Bool
 |[],_=>true
 | f :: fs, i => decide (f.name ≠ "_") && Nat.beq f.offset i && (match P.underlying f.type with | some .string => true | _ => false) && xJ P fs (i + 1)
def qJ(P:Program)(kd:EK)(t:TypeId)(c:Bool):Bool:=match kd,P.underlying t with
 |.b,some .bool=>true
 |.p,some (.pointer e)=>(match bG P e with|some (_+1)=>true|_=>false)
 |.i,some (.interface ms)=>c||ms.isEmpty
 |.f,some (.func _ _ _)=>true
 |.s,some (.slice _)=>true
 |.t n,some (.struct fs)=>Nat.beq fs.toList.length n&&xJ P fs.toList 0&&!P.stoodInHeld t&&!P.eqGuardType P.depth t
 |_,_=>false
def BB(P:Program)(t:TypeId):Bool:=match P.underlying t with|some (.interface _)=>false|some _=>true|none=>false
def AN(P:Program)(s:TypeId)(f o:Nat)(ag:Option Bool)(n:Nat):Bool:=match P.underlying s with
 |some (.struct fs)=>(match fs[f]? with
  |some fl=>Nat.beq fl.offset o&&(match ag with
   |some ag=>BD (gP P fl.type) ag&&(bif ag then iM (bG P fl.type) n else true)
   |none=>(match bG P fl.type with|some (_+1)=>true|_=>false))
  |none=>false)
 |_=>false
def nC(P:Program)(t:TypeId):Option IntKind->Bool
 |none=>(match P.underlying t with|some .string=>true|_=>false)
 |some k=>(match P.underlying t with|some (.int k')=>keq k k'|_=>false)
def AR(P:Program):List Field->List (Option IntKind)->Nat->Bool
 |[],[],_=>true
 | f :: fs, s :: sh, i => (f.name != "_") && Nat.beq f.offset i && nC P f.type s && AR P fs sh (i + 1)
 |_,_,_=>false
def wJ(P:Program)(kt:TypeId)(sh:List (Option IntKind))(ag:Bool):Bool:=match P.underlying kt with
 |some (.struct fs)=>ag&&!P.stoodInHeld kt&&AR P fs.toList sh 0
 |some (.array n e)=>ag&&Nat.beq n sh.length&&iM (bG P e) 1&&sh.all (nC P e)
 |some _=>!ag&&(match sh with|[s]=>nC P kt s|_=>false)
 |none=>false
def A8(P:Program)(t:TypeId)(sh:List (Option IntKind))(ag:Bool)(oz:Option V):Bool:=match P.underlying t with
 |some (.map kt et)=>wJ P kt sh ag&&(match oz with|none=>true|some z=>(match fO P et with|some a=>mS 5 z a|none=>false))
 |_=>false
def cop(P:Program):VOp->Op->Bool
 |.mv x,.move y=>aS x y
 |.mv x,.assign y=>aS x y
 |.pick c a b,.pick c' a' b'=>aS c c'&&aS a a'&&aS b b'
 |.allocL z,.alloc e=>j7 P e z
 |.allocH z e,.alloc e'=>Nat.beq e e'&&j7 P e z
 |.boxL x,.box _ y=>aS x y
 |.boxH x e,.box e' y=>Nat.beq e e'&&aS x y
 |.build z ps,.build t qs=>j7 P t z&&(match P.underlying t with
  |some (.struct fs)=>(match BF P fs.toList with|some pl=>vQ (fun i=>nth pl i) ps qs.toList|none=>false)
  |some (.array _ e)=>(match bG P e with|some s=>vQ (fun i=>some (i*s,s)) ps qs.toList|none=>false)
  |_=>false)
 |.buildF es n z ps,.buildSlice t m qs=>tU P t es&&(match P.underlying t with|some (.slice e)=>j7 P e z|_=>false)&&Nat.beq z.length es&&Nat.beq n m&&Nat.ble (n*es) 16777216&&vP ps qs.toList
 |.buildH es n z ps e,.buildSlice t m qs=>tT P t es e&&j7 P e z&&Nat.beq z.length es&&Nat.beq n m&&Nat.ble (n*es) 16777216&&vP ps qs.toList
 |.load x ag n,.load t a=>aS x a&&BD (gP P t) ag&&(bif ag then iM (bG P t) n else true)
 |.store x v n,.store t a y=>aS x a&&aS v y&&iM (bG P t) n
 |.nilck x,.nilCheck y=>aS x y
 |.bin op x y,.binOp op' _ x' y' _=>op==op'&&aS x x'&&aS y y'
 |.eq kd op x y,.binOp op' t x' y' _=>op==op'&&aS x x'&&aS y y'&&qJ P kd t (dS x'||dS y')
 |.un op x,.unOp op' _ y=>op==op'&&aS x y
 |.cint k x,.convert s d y=>aS x y&&wF P d k&&(P.underlying s).isSome
 |.cstr x,.convert s d y=>aS x y&&kC P d&&kC P s
 |.crune x,.convert s d y=>aS x y&&kC P d&&GD P s
 |.cbytes x e,.convert s d y=>aS x y&&tT P d 1 e&&kC P s&&wF P e .u8
 |.ctext x,.convert s d y=>aS x y&&kC P d&&(match P.underlying s with|some (.slice e)=>wF P e .u8|_=>false)
 |.mkIfc t x,.makeInterface t' y=>Nat.beq t t'&&aS x y&&BB P t
 |.mkFn g fs cs,.makeFunc (.func g') fs' cs'=>Nat.beq g g'&&mN fs fs'.toList&&mN cs cs'.toList
 |.mkMap,.makeMap _ none=>true
 |.look sh ag z x i ok,.lookup t y j ok'=>aS x y&&aS i j&&ok==ok'&&A8 P t sh ag (some z)
 |.upd sh ag x i v,.mapUpdate t m k v'=>aS x m&&aS i k&&aS v v'&&A8 P t sh ag none
 |.mkSl es z e by' l c,.makeSlice t l' c'=>tT P t es e&&j7 P e z&&Nat.beq z.length es&&iM (sB P e) by'&&aS l l'&&aS c c'
 |.cutS x lo hi,.slice t y lo' hi' none=>kC P t&&aS x y&&mK lo lo'&&mK hi hi'
 |.cutL es x lo hi mx,.slice t y lo' hi' mx'=>tU P t es&&aS x y&&mK lo lo'&&mK hi hi'&&mK mx mx'&&(mx.isNone||hi.isSome)
 |.cutA es n x lo hi,.slice t y lo' hi' none=>zW P t es n&&aS x y&&mK lo lo'&&mK hi hi'
 |.off x n,.fieldAddr s y f=>aS x y&&AN P s f n none 0
 |.fld x ag o n,.field t y f=>aS x y&&AN P t f o (some ag) n
 |.idx es x i,.indexAddr t y j=>tU P t es&&aS x y&&aS i j
 |.idxA es n x i,.indexAddr t y j=>zW P t es n&&aS x y&&aS i j
 |.at x i,.index t y j=>kC P t&&aS x y&&aS i j
 |.rng x,.range t y=>kC P t&&aS x y
 |.next x,.next y s=>s&&aS x y
 |.asrt t z x ok,.typeAssert y _ t' ok'=>Nat.beq t t'&&aS x y&&ok==ok'&&BB P t&&(match fO P t with|some a=>mS 5 z a|none=>false)
 |.ext x i,.extract y j=>aS x y&&Nat.beq i j
 |.lenS x,.call ⟨.builtin .len,xs,ts⟩=>(match xs.toList,ts.toList with|y::_,t::_=>aS x y&&kC P t|_,_=>false)
 |.lenL x,.call ⟨.builtin .len,xs,ts⟩=>(match xs.toList,ts.toList with|y::_,t::_=>aS x y&&(match P.underlying t with|some (.slice _)=>true|_=>false)|_,_=>false)
 |.app es z by' e x y,.call ⟨.builtin .append,xs,ts⟩=>(match xs.toList,ts.toList with
  |x'::y'::_,t::ts=>aS x x'&&aS y y'&&tT P t es e&&lN P ts&&j7 P e z&&Nat.beq z.length es&&iM (sB P e) by'&&Nat.blt 0 by'
  |_,_=>false)
 |.mx l,.call ⟨.builtin .max,xs,_⟩=>mN l xs.toList&&!l.isEmpty
 |.mn l,.call ⟨.builtin .min,xs,_⟩=>mN l xs.toList&&!l.isEmpty
 |.copy es x y,.call ⟨.builtin .copy,xs,ts⟩=>(match xs.toList,ts.toList with
  |x'::y'::_,t::_=>aS x x'&&aS y y'&&tU P t es&&Nat.blt 0 es
  |_,_=>false)
 |.data x,.call ⟨.builtin .unsafeSliceData,xs,_⟩=>(match xs.toList with|[y]=>aS x y|_=>false)
 |.ustr u x n,.call ⟨.builtin .unsafeString,xs,ts⟩=>(match xs.toList,ts.toList with
  |[y,m],[t,_]=>aS x y&&aS n m&&(match P.underlying t with|some (.pointer u')=>Nat.beq u u'|_=>false)&&iM (bG P u) 1
  |_,_=>false)
 |.cap x,.call ⟨.builtin .cap,xs,ts⟩=>(match xs.toList,ts.toList with|y::_,t::_=>aS x y&&(match P.underlying t with|some (.slice _)=>true|_=>false)|_,_=>false)
 |.uconv x,.convert s d y=>aS x y&&(match P.underlying d with|some .unsafePointer=>true|_=>false)&&(match P.underlying s with|some (.pointer t)=>(match bG P t with|some (_+1)=>true|_=>false)|_=>false)
 |.pconv u n x,.convert s d y=>aS x y&&(match P.underlying d with|some (.pointer u')=>Nat.beq u u'|_=>false)&&(match P.underlying s with|some .unsafePointer=>true|_=>false)&&iM (bG P u) n&&Nat.blt 0 n
 |.bad,_=>true
 |.call g xs,.call ⟨.value (.func g'),ys,_⟩=>Nat.beq g g'&&mN xs ys.toList
 |.callv x xs,.call ⟨.value y,ys,_⟩=>aS x y&&mN xs ys.toList
 |_,_=>false
structure pT(w:Wd)(s:St)(e:Env)(h:H)(an nid:Nat)(nx:NX)(v:V)(s':St)(a:AV)(h':H)(an':Nat)(w':Wd):Prop where
 nx:(nx=.val a/\h'=h/\an'=an)\/(nx=.upd a h'/\an'=an)\/(nx=.new a h'/\an'=max an (nid+1))
 hr:HR w' s'.vh s'.nx h' an'
 er:ER w' s'.env e h' an'
 res:vD w' s'.env e h' an' v a
 step:cO w (fun i=>own w s.vh s.env e i\/i=nid) h an w' (own w' s'.vh s'.env e) h' an'
 fresh:v.isLoc=true->a=.ptr nid 0
 free:∀k,k≠nid->l8 w k->l8 w' k
def bD(w:Wd)(s:St)(e:Env)(h:H)(an nid:Nat)(nx:NX)(K:V->St->Prop):Prop:=∃v s' a h' an' w',K v s'/\pT w s e h an nid nx v s' a h' an' w'
def V8(env:aH)(e:Env)(nid:Nat):Prop:=∀t,Loc env t->e.get t≠some (.ptr nid 0)
structure bZ(w:Wd)(env:aH)(e:Env)(nid:Nat):Prop where
 id:l8 w nid
 loc:V8 env e nid
theorem FX{w:Wd}{s:St}{e:Env}{h:H}{an:Nat}(hr:HR w s.vh s.nx h an)(er:ER w s.env e h an):bZ w s.env e an:=⟨hr.free,fun t hl hg=>by obtain⟨i,hi,h1⟩:=er.loc hl;rw[hg] at hi;cases hi;have:=h1.2.1;omega⟩
section
variable {P : Program} {G : Gt} {call : dD} {w : Wd} {s : St} {e : Env} {h : H} {an nid : Nat} {K : V → St → Prop}
theorem Q9{a:AV}{env:aH}{v:V}(ht:TV w env e v a)(hv:v.isLoc=true):False:=by
 cases v with
 |bx l=>cases ht
 |it r p=>cases ht
 |_=>cases hv
theorem oS{a:AV}{v:V}(ht:Den w v a)(hv:v.isLoc=true):False:=Q9 (env:=[]) (e:=.e) (.of_den ht) hv
theorem tG(hr:HR w s.vh s.nx h an)(er:ER w s.env e h an){nx:NX}{v:V}{a:AV}(hk:K v s)(hn:nx=.val a)(ht:TV w s.env e v a):bD w s e h an nid nx K:=⟨v,s,a,h,an,w,hk,.inl ⟨hn,rfl,rfl⟩,hr,er,.of_tv ht,.refl fun _ h=>.inl (.inl h),fun hv=>(Q9 ht hv).elim,fun _ _ h=>h⟩
theorem aU(hr:HR w s.vh s.nx h an)(er:ER w s.env e h an){nx:NX}{v:V}{a:AV}(hk:K v s)(hn:nx=.val a)(ht:Den w v a):bD w s e h an nid nx K:=tG hr er hk hn (.of_den ht)
theorem lO(hr:HR w s.vh s.nx h an)(er:ER w s.env e h an)(hf:bZ w s.env e nid){nx:NX}{v:V}{a:AV}{B:VB}{A:AB}(hk:K v ⟨s.env,aI s.vh s.nx B,s.nx+1⟩)(hn:nx=.new a (h.set nid A))
  (hd:jC w B A) (ht:Den (w.addB s.nx nid) v a):bD w s e h an nid nx K:=by
 have hle:=hr.le_addB nid;refine⟨v,_,a,_,_,w.addB s.nx nid,hk,.inr (.inr ⟨hn,rfl⟩),hr.newB hf.id (Nat.le_max_left _ _) (Nat.le_max_right _ _) (hd.mono hle),?_,.of_tv (.of_den ht),?_,fun hv=>(oS ht hv).elim,fun k hk hfk=>⟨fun b hb=>?_,hfk.K⟩⟩
 ·refine er.mono hle fun t i hl hi=>?_;obtain⟨j,hj,h1,h2,h3⟩:=er.loc hl;rw[hi] at hj;cases hj;have hne:i≠nid:=fun e=>hf.loc t hl (e▸hi);refine⟨by rw[Tr.get_set,if_neg hne],h1,by omega,fun b hb=>?_⟩
  simp only[Wd.addB] at hb;split at hb
  ·cases hb;exact hne rfl
  ·exact h3 b hb
 ·refine⟨hle,Nat.le_max_left _ _,fun i hi ho=>by rw[Tr.get_set,if_neg fun e=>ho (.inr e)],fun b i hb=>?_,fun i L hi=>.inl hi,fun i hi=>?_⟩
  ·simp only[Wd.addB] at hb;split at hb
   ·cases hb;exact .inr (.inr (.inr rfl))
   ·exact .inl hb
  ·rcases hi with⟨b,C,hb,hi⟩|hi
   ·have hb:aI s.vh s.nx B b=some C:=hb;rw[lX] at hb;simp only[Wd.addB] at hi;split at hb
    ·rename_i hbn;rw[if_pos hbn] at hi;cases hi;exact .inl (.inr rfl)
    ·rename_i hbn;rw[if_neg hbn] at hi;exact .inl (.inl (.inl ⟨b,C,hb,hi⟩))
   ·exact .inl (.inl (.inr hi))
 ·simp only[Wd.addB] at hb;split at hb
  ·cases hb;exact hk rfl
  ·exact hfk.ρ b hb
theorem tF(hr:HR w s.vh s.nx h an)(er:ER w s.env e h an){nx:NX}{v:V}{a:AV}{b i:Nat}{B B':VB}{A':AB}(hk:K v ⟨s.env,aI s.vh b B',s.nx⟩)(hn:nx=.upd a (h.set i A'))
  (hb:s.vh b=some B) (hi:w.ρ b=some i) (hd:jC w B' A') (ht:Den w v a):bD w s e h an nid nx K:=by
 refine⟨v,_,a,_,_,w,hk,.inr (.inl ⟨hn,rfl⟩),hr.upd hb hi hd,?_,.of_tv (.of_den ht),?_,fun hv=>(oS ht hv).elim,fun _ _ h=>h⟩
 ·refine er.mono (.refl _) fun t j hl hj=>?_;obtain⟨k,hk,h1⟩:=er.loc hl;rw[hj] at hk;cases hk;refine⟨?_,h1⟩;rw[Tr.get_set,if_neg];intro ej;subst ej;exact h1.2.2 b hi
 ·refine⟨.refl _,Nat.le_refl _,fun j hj ho=>?_,fun _ _ h=>.inl h,fun _ _ h=>.inl h,fun j hj=>?_⟩
  ·rw[Tr.get_set,if_neg];intro ej;subst ej;exact ho (.inl (.inl ⟨b,B,hb,hi⟩))
  ·rcases hj with⟨c,C,hc,hi'⟩|hj
   ·have hc:aI s.vh b B' c=some C:=hc;rw[lX] at hc;split at hc
    ·rename_i hcb;subst hcb;exact .inl (.inl (.inl ⟨c,B,hb,hi'⟩))
    ·exact .inl (.inl (.inl ⟨c,C,hc,hi'⟩))
   ·exact .inl (.inl (.inr hj))
theorem G0(hr:HR w s.vh s.nx h an)(er:ER w s.env e h an)(hf:bZ w s.env e nid){nx:NX}{v:V}{A:AB}(hk:K v s)(hn:nx=.new (.ptr nid 0) (h.set nid A))
  (hv:(∃l L ty,v=.bx l/\A=.cells L ty 0 false/\aX w l L)\/(∃r p,v=.it r p/\A=.iter r p)):bD w s e h an nid nx K:=by
 have hfr:iA w (max an (nid+1)) nid:=⟨hf.id.K,by omega,hf.id.ρ⟩
 refine⟨v,s,.ptr nid 0,_,_,w,hk,.inr (.inr ⟨hn,rfl⟩),hr.newL hf.id (Nat.le_max_left _ _) A,?_,?_,?_,fun _=>rfl,fun _ _ h=>h⟩
 ·refine er.mono (.refl _) fun t i hl hi=>?_;obtain⟨j,hj,h1,h2,h3⟩:=er.loc hl;rw[hi] at hj;cases hj;have hne:i≠nid:=fun e=>hf.loc t hl (e▸hi);exact⟨by rw[Tr.get_set,if_neg hne],h1,by omega,h3⟩
 ·rcases hv with⟨l,L,ty,rfl,rfl,hd⟩|⟨r,p,rfl,rfl⟩
  ·exact⟨nid,L,ty,rfl,by rw[Tr.get_set,if_pos rfl],hd,hfr,hf.loc⟩
  ·exact⟨nid,rfl,by rw[Tr.get_set,if_pos rfl],hfr,hf.loc⟩
 ·exact⟨.refl _,Nat.le_max_left _ _,fun i hi ho=>by rw[Tr.get_set,if_neg fun e=>ho (.inr e)],fun _ _ h=>.inl h,fun _ _ h=>.inl h,fun _ h=>.inl (.inl h)⟩
theorem aFl(hr:HR w s.vh s.nx h an)(er:ER w s.env e h an)(hf:bZ w s.env e nid){nx:NX}{v:V}{a:AV}{L:List AV}{ty:TypeId}{fz:Nat}{raw:Bool}(hk:K v s)(hn:nx=.new a (h.set nid (.cells L ty fz raw)))
  (ht:Den (w.addK nid L) v a):bD w s e h an nid nx K:=by
 have hle:=hf.id.le_addK L;refine⟨v,s,a,_,_,w.addK nid L,hk,.inr (.inr ⟨hn,rfl⟩),hr.newK hf.id (Nat.le_max_left _ _) (Nat.le_max_right _ _) L ty fz raw,?_,.of_tv (.of_den ht),?_,fun hv=>(oS ht hv).elim,fun k hk hfk=>⟨hfk.ρ,?_⟩⟩
 ·refine er.mono hle fun t i hl hi=>?_;obtain⟨j,hj,h1,h2,h3⟩:=er.loc hl;rw[hi] at hj;cases hj;have hne:i≠nid:=fun e=>hf.loc t hl (e▸hi);refine⟨by rw[Tr.get_set,if_neg hne],?_,by omega,h3⟩
  show (if i=nid then some L else w.K i)=none
  rw[if_neg hne,h1]
 ·refine⟨hle,Nat.le_max_left _ _,fun i hi ho=>by rw[Tr.get_set,if_neg fun e=>ho (.inr e)],fun _ _ h=>.inl h,fun i M hi=>?_,fun _ h=>.inl (.inl h)⟩
  simp only[Wd.addK] at hi;split at hi
  ·rename_i ei;exact .inr (.inr (.inr ei))
  ·exact .inl hi
 ·show (if k=nid then some L else w.K k)=none
  rw[if_neg hk,hfk.K]
theorem RL(hr:HR w s.vh s.nx h an)(er:ER w s.env e h an){nx:NX}{v x y:V}{a:AV}{t i:Nat}{A:AB}(hl:lk s.env t=some x)(hi:e.get t=some (.ptr i 0))
  (hk:K v ⟨(t,y)::s.env,s.vh,s.nx⟩) (hn:nx=.upd a (h.set i A)) (ht:Den w v a)
  (hv:(∃l m M ty,x=.bx l/\y=.bx m/\A=.cells M ty 0 false/\aX w m M)\/(∃r p r' p',x=.it r p/\y=.it r' p'/\A=.iter r' p')):bD w s e h an nid nx K:=by
 have hloc:Loc s.env t:=by rcases hv with⟨l,m,M,ty,rfl,_⟩|⟨r,p,r',p',rfl,_⟩<;>exact .lt hl rfl
 have hok:iA w an i:=by obtain⟨j,hj,hk⟩:=er.loc hloc;rw[hi] at hj;cases hj;exact hk
 refine⟨v,_,a,_,_,w,hk,.inr (.inl ⟨hn,rfl⟩),?_,?_,.of_tv (.of_den ht),?_,fun hv=>(oS ht hv).elim,fun _ _ h=>h⟩
 ·refine hr.other fun j hj=>?_;rw[Tr.get_set,if_neg];rintro rfl;rcases hj with⟨b,hb⟩|⟨L,hL⟩
  ·exact hok.2.2 b hb
  ·rw[hok.1] at hL;cases hL
 ·rcases hv with⟨l,m,M,ty,rfl,rfl,rfl,hm⟩|⟨r,p,r',p',rfl,rfl,rfl⟩
  ·exact er.setBx hl hi hm
  ·exact er.setIt hl hi
 ·refine⟨.refl _,Nat.le_refl _,fun j hj ho=>?_,fun _ _ h=>.inl h,fun _ _ h=>.inl h,fun j hj=>?_⟩
  ·rw[Tr.get_set,if_neg];rintro rfl;exact ho (.inl (.inr ⟨t,hloc,hi⟩))
  ·rcases hj with hj|⟨u,hu,hj⟩
   ·exact .inl (.inl (.inl hj))
   ·refine .inl (.inl (.inr ⟨u,?_,hj⟩));obtain⟨z,h1,h2⟩:=hu;rw[dK] at h1;split at h1
    ·rename_i hut;simp only at hut;subst hut;exact hloc
    ·exact⟨z,h1,h2⟩
end
end
section
open Go.Ev
section
variable {P : Program} {G : Gt} {call : dD} {w : Wd} {s : St} {e : Env} {h : H} {an nid : Nat} {K : V → St → Prop}
theorem AE{v:V}{a:AV}(hd:Den w v a)(hv:∀l,v≠.tup l)(hfr:v.free=true):∃cs,a.cells=some cs/\aX w v.cells cs:=by
 cases hd with
 |agg l m h=>exact⟨m,rfl,h⟩
 |tup l m h=>exact (hv l rfl).elim
 |bool b=>exact⟨_,rfl,.cons _ _ _ _ (.bool b) .nil⟩
 |int k n=>exact⟨_,rfl,.cons _ _ _ _ (.int k n) .nil⟩
 |str l=>exact⟨_,rfl,.cons _ _ _ _ (.str l) .nil⟩
 |nilp=>exact⟨_,rfl,.cons _ _ _ _ .nilp .nil⟩
 |nils=>exact⟨_,rfl,.cons _ _ _ _ .nils .nil⟩
 |nilm=>exact⟨_,rfl,.cons _ _ _ _ .nilm .nil⟩
 |nilf=>exact⟨_,rfl,.cons _ _ _ _ .nilf .nil⟩
 |nili=>exact⟨_,rfl,.cons _ _ _ _ .nili .nil⟩
 |junk=>cases hfr
 |ptr b o i h=>exact⟨_,rfl,.cons _ _ _ _ (.ptr b o i h) .nil⟩
 |msl b o n es c i h=>exact⟨_,rfl,.cons _ _ _ _ (.msl b o n es c i h) .nil⟩
 |map b i h=>exact⟨_,rfl,.cons _ _ _ _ (.map b i h) .nil⟩
 |fp l o p i q L h hq hp hd=>exact⟨_,rfl,.cons _ _ _ _ (.fp l o p i q L h hq hp hd) .nil⟩
 |sl0 es c hc=>exact⟨_,rfl,.cons _ _ _ _ (.sl0 es c hc) .nil⟩
 |sle es=>exact⟨_,rfl,.cons _ _ _ _ (.sle es) .nil⟩
 |sl ls c c' i o n es L h hn he hd hc hc' ho=>exact⟨_,rfl,.cons _ _ _ _ (.sl ls c c' i o n es L h hn he hd hc hc' ho) .nil⟩
 |func g f c f' c' hf hc=>exact⟨_,rfl,.cons _ _ _ _ (.func g f c f' c' hf hc) .nil⟩
 |ifc t v a h=>exact⟨_,rfl,.cons _ _ _ _ (.ifc t v a h) .nil⟩
theorem RU(hg:aV G w)(hr:HR w s.vh s.nx h an)(er:ER w s.env e h an){x:VX}{y:Operand}{nx:NX}(hx:aS x y=true)(hn:nx=.val (rd e y))
  (hk:bF G call (.mv x) s K):bD w s e h an nid nx K:=by
 obtain⟨v,h1,h2⟩:=bI hg er hx hk;exact tG hr er h1 hn h2
theorem RW(hg:aV G w)(hr:HR w s.vh s.nx h an)(er:ER w s.env e h an){c a b:VX}{c' a' b':Operand}(hc:aS c c'=true)(ha:aS a a'=true)(hb:aS b b'=true)
  (hk:bF G call (.pick c a b) s K):bD w s e h an nid (opA P (.pick c' a' b') e h nid) K:=by
 obtain⟨v,h1,h2⟩:=bI hg er hc hk;generalize hrc:rd e c'=rc at h2;split at h1
 ·rename_i t;obtain⟨va,h3,h4⟩:=bI hg er ha h1;obtain⟨vb,h5,h6⟩:=bI hg er hb h3;cases h2;have hn:opA P (.pick c' a' b') e h nid=.val (bif t then rd e a' else rd e b'):=by simp only[opA,hrc]
  have key:∀v,K v s->TV w s.env e v (bif t then rd e a' else rd e b')->bD w s e h an nid (opA P (.pick c' a' b') e h nid) K:=fun v hk ht=>tG hr er hk hn ht;unfold G8 at h5;split at h5
  ·refine key _ h5 ?_;cases t
   ·exact h6
   ·exact h4
  ·cases t with
   |true=>exact key _ (h5.t rfl) h4
   |false=>exact key _ (h5.f rfl) h6
 ·exact h1.elim
theorem aFo(hr:HR w s.vh s.nx h an)(er:ER w s.env e h an)(hf:bZ w s.env e nid){z:List V}{ty:TypeId}(hz:j7 P ty z=true)
  (hk:bF G call (.allocL z) s K):bD w s e h an nid (opA P (.alloc ty) e h nid) K:=by
 obtain⟨a,c,h1,h2,h3⟩:=pZ hz;refine G0 hr er hf (v:=.bx z) (A:=.cells c ty 0 false) hk ?_ (.inl ⟨z,c,ty,rfl,rfl,h3 w⟩);simp only[opA,h1,fH,h2]
theorem aFn(hr:HR w s.vh s.nx h an)(er:ER w s.env e h an)(hf:bZ w s.env e nid){z:List V}{ty ty':TypeId}(ht:Nat.beq ty ty'=true)(hz:j7 P ty z=true)
  (hk:bF G call (.allocH z ty) s K):bD w s e h an nid (opA P (.alloc ty') e h nid) K:=by
 obtain⟨a,c,h1,h2,h3⟩:=pZ hz;have:=aP.1 ht;subst this;refine lO hr er hf (v:=.ptr s.nx 0) (a:=.ptr nid 0) (A:=.cells c ty 0 false) hk ?_ (.cells _ _ _ _ _ (h3 w)) (.ptr _ _ _ (by simp[Wd.addB]))
 simp only[opA,h1,fH,h2]
theorem aFt(hg:aV G w)(hr:HR w s.vh s.nx h an)(er:ER w s.env e h an)(hf:bZ w s.env e nid){x:VX}{y:Operand}{ty:TypeId}(hx:aS x y=true)
  (hk:bF G call (.boxL x) s K):bD w s e h an nid (opA P (.box ty y) e h nid) K:=by
 obtain⟨v,h1,h2,h3,h0⟩:=xF hg er hx hk;rw[i9] at h1;obtain⟨cs,h4,h5⟩:=AE h3 h0 h2;refine G0 hr er hf (v:=.bx v.cells) (A:=.cells cs ty 0 false) h1 ?_ (.inl ⟨_,cs,ty,rfl,rfl,h5⟩);simp only[opA,fH,h4]
theorem aFs(hg:aV G w)(hr:HR w s.vh s.nx h an)(er:ER w s.env e h an)(hf:bZ w s.env e nid){x:VX}{y:Operand}{ty ty':TypeId}(ht:Nat.beq ty ty'=true)(hx:aS x y=true)
  (hk:bF G call (.boxH x ty) s K):bD w s e h an nid (opA P (.box ty' y) e h nid) K:=by
 obtain⟨v,h1,h2,h3,h0⟩:=xF hg er hx hk;obtain⟨cs,h4,h5⟩:=AE h3 h0 h2;have:=aP.1 ht;subst this;refine lO hr er hf (v:=.ptr s.nx 0) (a:=.ptr nid 0) (A:=.cells cs ty 0 false) h1 ?_ (.cells _ _ _ _ _ h5) (.ptr _ _ _ (by simp[Wd.addB]))
 simp only[opA,fH,h4]
inductive rL(w:Wd)(place:Nat->Option (Nat×Nat)):List (Nat×Nat×V)->List (Nat×AV)->Prop where
 |nil:rL w place [] []
 |cons (o n:Nat) (v:V) (i:Nat) (a:AV) (l:List (Nat×Nat×V)) (m:List (Nat×AV)) (hp:place i=some (o,n)) (hd:Den w v a) (ht:(∀l,v≠.tup l)/\v.free=true) (hl:rL w place l m):rL w place ((o,n,v)::l) ((i,a)::m)
theorem HK(hg:aV G w)(er:ER w s.env e h an){place:Nat->Option (Nat×Nat)}:∀{ps:List (Nat×Nat×VX)} {qs:List (Nat×Operand)},vQ place ps qs=true->∀{k:List (Nat×Nat×V)->Prop},BN G s.env ps k->
  ∃vs,k vs/\rL w place vs (qs.map fun p=>(p.1,rd e p.2))
 |[],[],_,k,hk=>⟨[],hk,.nil⟩
 |[],_::_,hx,_,_=>by cases hx
 |_::_,[],hx,_,_=>by cases hx
 |p::ps,q::qs,hx,k,hk=>by
  simp only[vQ,Bool.and_eq_true] at hx;obtain⟨⟨h1,h2⟩,h3⟩:=hx;obtain⟨v,h4,h5,h6,h0⟩:=xF hg er h2 hk;obtain⟨vs,h7,h8⟩:=HK hg er h3 h4;refine⟨_,h7,?_⟩;split at h1
  ·rename_i a b hpl;simp only[Bool.and_eq_true] at h1;rw[aP.1 h1.1,aP.1 h1.2] at hpl;exact .cons _ _ _ _ _ _ _ hpl h6 ⟨h0,h5⟩ h8
  ·cases h1
theorem HI(hg:aV G w)(er:ER w s.env e h an){es:Nat}:∀{ps:List (Nat×VX)} {qs:List (Nat×Operand)},vP ps qs=true->∀{k:List (Nat×Nat×V)->Prop},tJ G s.env es ps k->
  ∃vs,k vs/\rL w (fun i=>some (i*es,es)) vs (qs.map fun p=>(p.1,rd e p.2))
 |[],[],_,k,hk=>⟨[],hk,.nil⟩
 |[],_::_,hx,_,_=>by cases hx
 |_::_,[],hx,_,_=>by cases hx
 |p::ps,q::qs,hx,k,hk=>by simp only[vP,Bool.and_eq_true] at hx;obtain⟨⟨h1,h2⟩,h3⟩:=hx;obtain⟨v,h4,h5,h6,h0⟩:=xF hg er h2 hk;obtain⟨vs,h7,h8⟩:=HI hg er h3 h4;refine⟨_,h7,.cons _ _ _ _ _ _ _ ?_ h6 ⟨h0,h5⟩ h8⟩;rw[aP.1 h1]
theorem AP{place:Nat->Option (Nat×Nat)}{vs:List (Nat×Nat×V)}{us:List (Nat×AV)}(hp:rL w place vs us):∀{cs:List V} {CS:List AV},aX w cs CS->∀{k:List V->Prop},mV cs vs k->
  ∃cs' CS',k cs'/\lE place CS us=some CS'/\aX w cs' CS'/\cs'.length=cs.length:=by
 induction hp with
 |nil=>intro cs CS hd k hk;exact⟨cs,CS,hk,rfl,hd,rfl⟩
 |cons o n v i a l m hpl hda hvt hl ih=>
  intro cs CS hd k hk;simp only[mV] at hk;cases hb:(Nat.beq (Ev.len v.cells) n&&Nat.ble (o+n) (Ev.len cs)) with
  |false=>rw[hb] at hk;exact hk.elim
  |true=>
   rw[hb] at hk;simp only[cond_true,i9] at hk;simp only[Bool.and_eq_true,aP,aT,bC] at hb;obtain⟨ca,h1,h2⟩:=AE hda hvt.1 hvt.2;have hseg:=hd.setSeg h2 o;obtain⟨cs',CS',h3,h4,h5,h6⟩:=ih hseg hk;refine⟨cs',CS',h3,?_,h5,?_⟩
   ·simp only[lE,hpl,h1];have e1:len ca=n:=by rw[aT,<-h2.length];exact hb.1
    have e2:o+n<=len CS:=by rw[aT,<-hd.length];exact hb.2
    rw[aP.2 e1,bC.2 e2];exact h4
   ·rw[h6,qQ _ _ _ (by omega)]
    simp;omega
theorem aFu(hg:aV G w)(hr:HR w s.vh s.nx h an)(er:ER w s.env e h an){z:List V}{ps:List (Nat×Nat×VX)}{t:TypeId}{qs:Array (Nat×Operand)}(hc:cop P (.build z ps) (.build t qs)=true)
  (hk:bF G call (.build z ps) s K):bD w s e h an nid (opA P (.build t qs) e h nid) K:=by
 simp only[cop,Bool.and_eq_true] at hc;obtain⟨hz,hc⟩:=hc;obtain⟨a,c,h1,h2,h3⟩:=pZ hz;split at hc
 ·rename_i fs hu;split at hc
  ·rename_i pl hpl;obtain⟨vs,h4,h5⟩:=HK hg er hc hk;obtain⟨cs',CS',h6,h7,h8,_⟩:=AP h5 (h3 w) h4;refine aU hr er h6 ?_ (.agg _ _ h8);simp only[opA,vL,h1,hu,h2,hpl,h7,dL]
  ·cases hc
 ·rename_i n e' hu;split at hc
  ·rename_i sz hsz;obtain⟨vs,h4,h5⟩:=HK hg er hc hk;obtain⟨cs',CS',h6,h7,h8,_⟩:=AP h5 (h3 w) h4;refine aU hr er h6 ?_ (.agg _ _ h8);simp only[opA,vL,h1,hu,h2,hsz,h7,dL]
  ·cases hc
 ·cases hc
theorem SD{es:Nat}(he:0<es):∀(n:Nat) (l:List V) (L:List AV),dB w l L->l.length=n*es->dC w es (tH es n l) L/\(tH es n l).length=n
 |0,l,L,hd,hl=>⟨.nil _ _,rfl⟩
 |n+1,l,L,hd,hl=>by
  simp only[tH,eP,dI];rw[Nat.succ_mul] at hl;obtain⟨h1,h2⟩:=SD he n (l.drop es) (L.drop es) (hd.drop es) (by rw[List.length_drop];omega)
  exact⟨.cons _ _ _ _ (hd.take es) (by rw[List.length_take];omega) h1,by simp[h2]⟩
theorem aIn{α:Type}(z:List α)(n:Nat):(Ev.reps n z).length=n*z.length:=by
 induction n with
 |zero=>simp[Ev.reps]
 |succ n ih=>simp only[Ev.reps,dE,List.length_append,ih,Nat.succ_mul];omega
theorem z0{P:Program}{t ty:TypeId}{es n:Nat}{us:List (Nat×AV)}{za:AV}{zc CS':List AV}(hu:P.underlying t=some (.slice ty))(hs:bG P ty=some es)(he:0<es)(hz:fO P ty=some za)(hzc:za.cells=some zc)
  (hl:zc.length=es) (hn:n*es<=16777216) (hf:lE (fun i=>some (i*es,es)) (Ev.reps n zc) us=some CS') {h:H} {nid:Nat}:j5 P t n us h nid=.new (.sl nid 0 n es (some n)) (h.set nid (.cells CS' ty 0 false)):=by
 simp only[j5,hu,hs,hz,hzc];have e1:Nat.blt 0 es=true:=Nat.ble_eq.mpr he;have e2:Nat.beq (len zc) es=true:=aP.2 (by rw[aT];exact hl)
 have e3:Nat.ble (n*es) 16777216=true:=bC.2 hn;rw[e1,e3,e2];simp only[Bool.and_self,cond_true,hf]
theorem aFv(hg:aV G w)(hr:HR w s.vh s.nx h an)(er:ER w s.env e h an)(hf:bZ w s.env e nid){es n:Nat}{z:List V}{ps:List (Nat×VX)}{t:TypeId}{m:Nat}{qs:Array (Nat×Operand)}(hc:cop P (.buildF es n z ps) (.buildSlice t m qs)=true)
  (hk:bF G call (.buildF es n z ps) s K):bD w s e h an nid (opA P (.buildSlice t m qs) e h nid) K:=by
 simp only[cop,Bool.and_eq_true] at hc;obtain⟨⟨⟨⟨⟨h1,h2⟩,h3⟩,h4⟩,h5⟩,h6⟩:=hc;obtain⟨ty,hu,hs,he⟩:=BU h1;rw[hu] at h2;obtain⟨za,zc,g1,g2,g3⟩:=pZ h2;have:=aP.1 h4;subst this;have hz:=aP.1 h3;obtain⟨vs,h7,h8⟩:=HI hg er h6 hk;obtain⟨cs',CS',h9,h10,h11,h12⟩:=AP h8 ((g3 w).reps n) h7;rw[aIn,hz] at h12;obtain⟨p1,p2⟩:=SD (w:=w) he n cs' CS' h11.toP' h12;have hle:=hf.id.le_addK CS'
 refine aFl (ty:=ty) (fz:=0) (raw:=false) hr er hf h9 ?_ (.sl _ (some n) (some n) nid 0 n es CS' (if_pos rfl) p2 he (by simpa using p1.mono hle) (.inr rfl) (fun x hx=>by cases hx;exact Nat.le_refl _) (by rw[<-h11.length,h12];omega))
 simp only[opA];exact z0 hu hs he g1 g2 (by rw[<-(g3 w).length,hz]) (bC.1 h5) h10
theorem aFw(hg:aV G w)(hr:HR w s.vh s.nx h an)(er:ER w s.env e h an)(hf:bZ w s.env e nid){es n:Nat}{z:List V}{ps:List (Nat×VX)}{t ty:TypeId}{m:Nat}{qs:Array (Nat×Operand)}(hc:cop P (.buildH es n z ps ty) (.buildSlice t m qs)=true)
  (hk:bF G call (.buildH es n z ps ty) s K):bD w s e h an nid (opA P (.buildSlice t m qs) e h nid) K:=by
 simp only[cop,Bool.and_eq_true] at hc;obtain⟨⟨⟨⟨⟨h1,h2⟩,h3⟩,h4⟩,h5⟩,h6⟩:=hc;obtain⟨hu,hs,he⟩:=BT h1;obtain⟨za,zc,g1,g2,g3⟩:=pZ h2;have:=aP.1 h4;subst this;have hz:=aP.1 h3;obtain⟨vs,h7,h8⟩:=HI hg er h6 hk;obtain⟨cs',CS',h9,h10,h11,h12⟩:=AP h8 ((g3 w).reps n) h7;refine lO hr er hf (A:=.cells CS' ty 0 false) h9 ?_ (.cells _ _ _ _ _ h11) (.msl _ _ _ _ _ nid (by simp[Wd.addB]))
 simp only[opA];exact z0 hu hs he g1 g2 (by rw[<-(g3 w).length,hz]) (bC.1 h5) h10
theorem iY(hr:HR w s.vh s.nx h an){b i:Nat}{p:Blk}(hb:dJ s.vh b p)(hi:w.ρ b=some i):∃L,h.get i=some (.cells L p.2.1 p.2.2.1 p.2.2.2)/\aX w p.1 L:=by obtain⟨j,A,h1,h2,h3,h4⟩:=hr.blk b _ hb;rw[hi] at h1;cases h1;cases h3 with|cells l e fz raw L hd=>exact⟨L,h2,hd⟩
theorem QN{l:List V}{L:List AV}{o n:Nat}{ag:Bool}{k:V->Prop}{p:Nat}(hpl:p<=L.length)(hd:dB w l (L.drop p))(hk:m9 l o ag n k):
  ∃v,k v/\(bif ag then ∃m,(L.drop (p+o)).take n=m/\p+o+n<=L.length/\Den w v (.agg m) else ∃a,L[p+o]? =some a/\Den w v a):=by
 unfold m9 at hk;cases ag with
 |true=>
  simp only[cond_true] at hk ⊢;cases hb:Nat.ble (o+n) (Ev.len l) with
  |false=>rw[hb] at hk;exact hk.elim
  |true=>
   rw[hb] at hk;simp only[cond_true,i9,eP,dI] at hk;rw[bC,aT] at hb;have h1:=hd.len_le;rw[List.length_drop] at h1;refine⟨_,hk,_,rfl,by omega,.agg _ _ ?_⟩
   have h2:=((hd.drop o).take n).exact;rw[List.length_take,List.length_drop] at h2;have e1:min n (l.length-o)=n:=by omega
   rw[e1,List.drop_drop] at h2;exact h2
 |false=>
  simp only[cond_false] at hk ⊢;split at hk
  ·rename_i v hv;rw[eW] at hv;obtain⟨a,h1,h2⟩:=hd.get hv;exact⟨v,hk,a,by rw[List.getElem?_drop] at h1;exact h1,h2⟩
  ·exact hk.elim
theorem qK{P:Program}{t:TypeId}{ag:Bool}{n:Nat}(ha:gP P t=some ag)(hs:ag=true->bG P t=some n){i q:Nat}{L:List AV}{ty:TypeId}{fz:Nat}{raw:Bool}{h:H}(hh:h.get i=some (.cells L ty fz raw)){a:AV}
  (hx:bif ag then ∃m,(L.drop q).take n=m/\q+n<=L.length/\a=.agg m else L[q]? =some a):ld P h t (.ptr i q)=some a:=by
 unfold ld;rw[ha];cases ag with
 |true=>obtain⟨m,h1,h2,h3⟩:=hx;simp only[hs rfl,fF,hh];rw[aT,bC.2 h2];simp only[cond_true,eP,dI,h1,h3]
 |false=>simp only[hh,eW];exact hx
theorem QO(hg:aV G w)(hr:HR w s.vh s.nx h an)(er:ER w s.env e h an){x:VX}{ag:Bool}{n:Nat}{t:TypeId}{y:Operand}(hc:cop P (.load x ag n) (.load t y)=true)
  (hk:bF G call (.load x ag n) s K):∃v a,K v s/\ld P h t (rd e y)=some a/\Den w v a:=by
 simp only[cop,Bool.and_eq_true] at hc;obtain⟨⟨h1,h2⟩,h3⟩:=hc;have ha:=R0 h2;have hs:ag=true->bG P t=some n:=fun e=>by subst e;exact i6 h3
 obtain⟨v,h4,h5⟩:=bI hg er h1 hk;have fin:∀(L:List AV) (ty:TypeId) (fz:Nat) (raw:Bool) (i p o:Nat) (l:List V),rd e y=.ptr i (p+o)->h.get i=some (.cells L ty fz raw)->p<=L.length->dB w l (L.drop p)->m9 l o ag n (fun v=>K v s)->∃v a,K v s/\ld P h t (rd e y)=some a/\Den w v a:=by
  intro L ty fz raw i p o l hy hh hpl hd hl;obtain⟨v,g1,g2⟩:=QN hpl hd hl;cases ag with
  |true=>obtain⟨m,g3,g4,g5⟩:=g2;exact⟨_,.agg m,g1,by rw[hy];exact qK (a:=.agg m) ha hs hh ⟨m,g3,g4,rfl⟩,g5⟩
  |false=>obtain⟨a,g3,g5⟩:=g2;exact⟨_,a,g1,by rw[hy];exact qK ha hs hh g3,g5⟩
 generalize hrd:rd e y=a at h5 fin;split at h4
 ·rename_i t' o;split at h4
  ·rename_i l hl;obtain⟨i,g1,g2⟩:=h5;obtain⟨j,L,ty,g3,g4,g5,g6⟩:=er.slot _ _ hl;rw[g2 (.lt hl rfl)] at g3;cases g3;exact fin L ty 0 false i 0 o l (by rw[g1];simp) g4 (Nat.zero_le _) (by simpa using g5.toP') h4
  ·exact h4.elim
 ·rename_i l o;cases h5 with
  |fp _ _ p i q L hk' hq hpl hd=>obtain⟨ty,fz,raw,g1⟩:=hr.frz _ _ hk';exact fin L ty fz raw i p o l (by rw[hq]) g1 hpl hd h4
 ·rename_i b o;cases h5 with
  |ptr _ _ i hi=>
   obtain⟨p,hp,h4⟩:=h4;obtain⟨L,g1,g2⟩:=iY hr hp hi;cases ag with
   |true=>obtain⟨m,⟨hm,hlen⟩,h4⟩:=h4;exact⟨_,_,h4,qK (a:=.agg ((L.drop o).take n)) ha hs g1 ⟨_,rfl,by rw[<-g2.length];exact hlen,rfl⟩,.agg m _ (hm▸(g2.drop o).take n)⟩
   |false=>obtain⟨v,hv,h4⟩:=h4;obtain⟨a,g3,g4⟩:=g2.get hv;exact⟨_,_,h4,qK ha hs g1 g3,g4⟩
 ·exact h4.elim
theorem aGP(hg:aV G w)(hr:HR w s.vh s.nx h an)(er:ER w s.env e h an){x:VX}{ag:Bool}{n:Nat}{t:TypeId}{y:Operand}(hc:cop P (.load x ag n) (.load t y)=true)
  (hk:bF G call (.load x ag n) s K):bD w s e h an nid (opA P (.load t y) e h nid) K:=by
 obtain⟨v,a,h1,h2,h3⟩:=QO hg hr er hc hk;exact aU hr er h1 (by simp only[opA,h2,dL]) h3
theorem aG2(hg:aV G w)(hr:HR w s.vh s.nx h an)(er:ER w s.env e h an){x v:VX}{n:Nat}{t:TypeId}{a y:Operand}(hc:cop P (.store x v n) (.store t a y)=true)
  (hk:bF G call (.store x v n) s K):bD w s e h an nid (opA P (.store t a y) e h nid) K:=by
 simp only[cop,Bool.and_eq_true] at hc;obtain⟨⟨h1,h2⟩,h3⟩:=hc;have hs:=i6 h3;obtain⟨u,h4,h5,h6,h0⟩:=xF hg er h2 hk;obtain⟨cs,g1,g2⟩:=AE h6 h0 h5;rw[i9] at h4;cases hb:Nat.beq (Ev.len u.cells) n with
 |false=>rw[hb] at h4;exact h4.elim
 |true=>
 rw[hb] at h4;have hn:=aP.1 hb;rw[aT] at hn;obtain⟨p,h7,h8⟩:=bI hg er h1 h4;have hcs:len cs=n:=by rw[aT,<-g2.length];exact hn
 have st:∀(i q:Nat) (L:List AV) (ty:TypeId) (fz:Nat) (raw:Bool),rd e a=.ptr i q->h.get i=some (.cells L ty fz raw)->q+n<=L.length->fz<=q->opA P (.store t a y) e h nid=.upd dV (h.set i (.cells (setSeg L q cs) ty fz raw)):=by intro i q L ty fz raw hra hh hq hf;simp only[opA,st,hra,g1,hs,qR,hh];rw[hcs,aT,Nat.beq_refl,bC.2 hq,bC.2 hf];rfl
 generalize hra:rd e a=ra at h8 st;split at h7
 ·rename_i t' o;split at h7
  ·rename_i l hl;cases hb2:Nat.ble (o+n) (Ev.len l) with
   |false=>rw[hb2] at h7;exact h7.elim
   |true=>
   rw[hb2] at h7;simp only[cond_true,i9] at h7;rw[bC,aT] at hb2;obtain⟨i,k1,k2⟩:=h8;obtain⟨j,L,ty,g3,g4,g5,g6⟩:=er.slot _ _ hl;have k3:=k2 (.lt hl rfl);rw[k3] at g3;cases g3;refine RL hr er hl k3 h7 (st i o L ty 0 false k1 g4 (by rw[<-g5.length];exact hb2) (Nat.zero_le _)) (.tup _ _ .nil) (.inl ⟨l,_,_,ty,rfl,rfl,rfl,g5.setSeg g2 o⟩)
  ·exact h7.elim
 ·rename_i b o;cases h8 with
  |ptr _ _ i hi=>obtain⟨p,hp,ho,h7⟩:=h7;obtain⟨L,g3,g4⟩:=iY hr hp hi;exact tF hr er h7 (st i o L _ _ _ rfl g3 (by rw[<-g4.length];exact ho.1) ho.2) hp hi (.cells _ _ _ _ _ (g4.setSeg g2 o)) (.tup _ _ .nil)
 ·exact h7.elim
end
end
section
open Go.Ev
section
variable {P : Program} {G : Gt} {call : dD} {w : Wd} {s : St} {e : Env} {h : H} {an nid : Nat} {K : V → St → Prop}
theorem aGY(hg:aV G w)(hr:HR w s.vh s.nx h an)(er:ER w s.env e h an){x:VX}{y:Operand}(hx:aS x y=true)
  (hk:bF G call (.nilck x) s K):bD w s e h an nid (opA P (.nilCheck y) e h nid) K:=by
 obtain⟨v,h1,h2⟩:=bI hg er hx hk;generalize hrd:rd e y=a at h2;split at h1
 ·obtain⟨i,rfl,h3⟩:=h2;exact tG hr er h1 (a:=.ptr i _) (by simp only[opA,hrd]) ⟨i,rfl,h3⟩
 ·cases h2 with|fp _ _ p i q L hk' hq hp hd=>exact aU hr er h1 (by simp only[opA,hrd]) (.fp _ _ p i q L hk' hq hp hd)
 ·cases h2 with|ptr _ _ i hi=>exact aU hr er h1 (by simp only[opA,hrd]) (.ptr _ _ i hi)
 ·cases h2 with|ifc t v a h3=>exact aU hr er h1 (by simp only[opA,hrd]) (.ifc _ _ _ h3)
 ·cases h2 with|func g f c f' c' hf hc=>exact aU hr er h1 (by simp only[opA,hrd]) (.func _ _ _ _ _ hf hc)
 ·exact h1.elim
theorem YQ{P:Program}{op:BinOp}{t:TypeId}{b c:Bool}{k:IntKind}{x y:Int}(h1:op≠.shl)(h2:op≠.shr):iU P op t b c (.int k x) (.int k y)=r9 op k x y:=by cases op<;>first|exact absurd rfl h1|exact absurd rfl h2|(cases k<;>rfl)
theorem aJc{op:BinOp}{ka kb:IntKind}{m n:Int}{k:V->Prop}(hk:IE op ka kb m n k)(t:TypeId)(b c:Bool):∃v a,k v/\iU P op t b c (.int ka m) (.int kb n)=some a/\∀w,Den w v a:=by
 have key:∀v a,k v->iU P op t b c (.int ka m) (.int kb n)=some a->(∀w,Den w v a)->∃v a,k v/\iU P op t b c (.int ka m) (.int kb n)=some a/\∀w,Den w v a:=fun v a h1 h2 h3=>⟨v,a,h1,h2,h3⟩;cases op with
 |shl=>obtain⟨j,rfl,hk⟩:=hk;exact⟨_,_,hk,rfl,fun w=>.int _ _⟩
 |shr=>
  obtain⟨j,rfl,hk⟩:=hk;refine⟨_,_,hk,rfl,fun w=>?_⟩;cases m with
  |ofNat m=>
   have:(Int.ofNat m>>>(bif Nat.blt j (kbits ka) then j else kbits ka))=.ofNat (m / Nat.pow 2 (bif Nat.blt j (kbits ka) then j else kbits ka)):=by show Int.ofNat (m>>>_)=_;rw[Nat.shiftRight_eq_div_pow];rfl
   rw[this];exact .int _ _
  |negSucc m=>
   have:(Int.negSucc m>>>(bif Nat.blt j (kbits ka) then j else kbits ka))=.negSucc (m / Nat.pow 2 (bif Nat.blt j (kbits ka) then j else kbits ka)):=by show Int.negSucc (m>>>_)=_;rw[Nat.shiftRight_eq_div_pow];rfl
   rw[this];exact .int _ _
 |add|sub|mul|quo|rem|and|or|xor|andNot|eql|neq|lss|leq|gtr|geq=>
  simp only[IE] at hk;cases hkk:keq ka kb with
  |false=>rw[hkk] at hk;exact hk.elim
  |true=>
   rw[hkk] at hk;have:=GH hkk;subst this;simp only[cond_true] at hk;have he:∀o:BinOp,o≠.shl->o≠.shr->iU P o t b c (.int ka m) (.int ka n)=r9 o ka m n:=fun o=>YQ
   first
    |(
      refine key _ _ hk (he _ (by decide) (by decide)) ?_
      intro w
      try simp only[GC,AX,jM,m6]
      first|exact .int _ _|exact .bool _|(
                           have:m+ -n=m-n:=by omega
                           rw[this];exact .int _ _)|(
                                          have e1:(!decide (n<m))=decide (m<=n):=by rw[Bool.eq_iff_iff];simp
                                          rw[e1];exact .bool _)|(
                                                       have e1:(!decide (m<n))=decide (n<=m):=by rw[Bool.eq_iff_iff];simp
                                                       rw[e1];exact .bool _))
    |(
      obtain⟨ho,hk⟩:=hk;refine⟨_,_,hk,?_,fun w=>.int _ _⟩;rw[he _ (by decide) (by decide)]
      simp only[r9];have:ieq n (.ofNat 0)=false:=by rw[jM];simpa using ho
      rw[this];rfl)
theorem aJd{op:BinOp}{l m:List Nat}{k:V->Prop}(hk:T0 op l m k)(t:TypeId)(b c:Bool):∃v a,k v/\iU P op t b c (.str l) (.str m)=some a/\∀w,Den w v a:=by
 cases op with
 |add=>obtain⟨ho,hk⟩:=hk;refine⟨_,.str (l++m),hk,?_,fun w=>.str _⟩;show sA .add l m=_;simp only[sA,aT,dE];rw[cF.2 ho];rfl
 |eql=>exact⟨_,_,hk,rfl,fun w=>by rw[iX];exact .bool _⟩
 |neq=>exact⟨_,_,hk,rfl,fun w=>by rw[iX];exact .bool _⟩
 |lss=>exact⟨_,_,hk,rfl,fun w=>.bool _⟩
 |leq=>exact⟨_,_,hk,rfl,fun w=>by rw[iX];exact .bool _⟩
 |gtr=>exact⟨_,_,hk,rfl,fun w=>by rw[iX];exact .bool _⟩
 |geq=>exact⟨_,_,hk,rfl,fun w=>.bool _⟩
 |_=>exact hk.elim
theorem RT(hg:aV G w)(hr:HR w s.vh s.nx h an)(er:ER w s.env e h an){op op':BinOp}{x y:VX}{t u:TypeId}{x' y':Operand}(hc:cop P (.bin op x y) (.binOp op' t x' y' u)=true)
  (hk:bF G call (.bin op x y) s K):bD w s e h an nid (opA P (.binOp op' t x' y' u) e h nid) K:=by
 simp only[cop,Bool.and_eq_true,beq_iff_eq] at hc;obtain⟨⟨rfl,h1⟩,h2⟩:=hc;obtain⟨a,h3,h4⟩:=bI hg er h1 hk;obtain⟨b,h5,h6⟩:=bI hg er h2 h3;generalize hra:rd e x'=ra at h4;generalize hrb:rd e y'=rb at h6;unfold ID at h5;split at h5
 ·cases h4;cases h6;obtain⟨v,a,g1,g2,g3⟩:=aJc (P:=P) h5 t (dS x') (dS y');exact aU hr er g1 (by simp only[opA,hra,hrb,g2,dL]) (g3 w)
 ·cases h4;cases h6;obtain⟨v,a,g1,g2,g3⟩:=aJd (P:=P) h5 t (dS x') (dS y');exact aU hr er g1 (by simp only[opA,hra,hrb,g2,dL]) (g3 w)
 ·exact h5.elim
theorem aCM{op:BinOp}{b:Bool}{k:V->Prop}(hk:eqK op b k){x y:AV}{t:TypeId}{cx cy:Bool}(hx:∀k n,x≠.int k n)(hx':∀l,x≠.str l)(he:eqR P t (cx||cy) x y=some b):
  ∃v a,k v/\iU P op t cx cy x y=some a/\∀w,Den w v a:=by
 cases op with
 |eql=>
  refine⟨_,.bool b,hk,?_,fun w=>.bool _⟩;unfold iU;split
  ·exact (hx _ _ rfl).elim
  ·exact (hx' _ rfl).elim
  ·simp only[he]
 |neq=>
  refine⟨_,.bool (!b),hk,?_,fun w=>.bool _⟩;unfold iU;split
  ·exact (hx _ _ rfl).elim
  ·exact (hx' _ rfl).elim
  ·simp only[he]
 |_=>exact hk.elim
theorem tI{w:Wd}{env:aH}{v:V}{a:AV}(h:TV w env e v a)(hv:(∃b o,v=.ptr b o)\/(∃l o,v=.fp l o)\/(∃t o,v=.lp t o)):∃i q,a=.ptr i q:=by
 rcases hv with⟨b,o,rfl⟩|⟨l,o,rfl⟩|⟨t,o,rfl⟩
 ·cases h;exact⟨_,_,rfl⟩
 ·cases h;exact⟨_,_,rfl⟩
 ·obtain⟨i,rfl,_⟩:=h;exact⟨_,_,rfl⟩
theorem HY{w:Wd}:∀{l:List V} {m:List AV} {a:List (List Nat)},aX w l m->xK l=some a->m=a.map .str
 |[],_,a,h,ha=>by cases h;cases ha;rfl
 |v::l,_,a,h,ha=>by
  cases h with
  |cons _ x _ m h1 h2=>
  cases v<;>simp only[xK] at ha<;>try cases ha
  split at ha
  ·rename_i y hy;cases ha;cases h1;rw[HY h2 hy];rfl
  ·cases ha
theorem aCQ{P:Program}{d:Nat}{t:TypeId}(hu:P.underlying t=some .string)(x y:List Nat):eqV P (d+1) t (.str x) (.str y)=some (decide (x=y)):=by simp only[eqV,hu,iX]
theorem OX{P:Program}{eq:TypeId->AV->AV->Option Bool}(heq:∀t,P.underlying t=some .string->∀x y,eq t (.str x) (.str y)=some (decide (x=y)))(a b:List (List Nat))(hab:a.length=b.length):∀(fs:List Field) (i:Nat),xJ P fs i=true->i+fs.length=a.length->eqFields eq P (a.map .str) (b.map .str) fs=some (decide (a.drop i=b.drop i))
 |[],i,_,hl=>by
  simp only[eqFields];rw[List.drop_eq_nil_of_le (by simp at hl;omega),List.drop_eq_nil_of_le (by simp at hl;omega)]
  simp
 |f::fs,i,h,hl=>by
  simp only[xJ,Bool.and_eq_true,decide_eq_true_eq] at h;obtain⟨⟨⟨h1,h2⟩,h3⟩,h4⟩:=h;have h2:=aP.1 h2;have hu:P.underlying f.type=some .string:=by split at h3<;>first|assumption|cases h3
  have hag:gP P f.type=some false:=by simp only[gP,hu]
  simp only[List.length_cons] at hl;have hia:i<a.length:=by omega
  have hib:i<b.length:=by omega
  simp only[eqFields,if_pos h1,eY,hag,h2,eW];rw[List.getElem?_map,List.getElem?_map,List.getElem?_eq_getElem hia,List.getElem?_eq_getElem hib];simp only[Option.map_some,heq _ hu];have da:a.drop i=a[i]::a.drop (i+1):=(List.getElem_cons_drop hia).symm;have db:b.drop i=b[i]::b.drop (i+1):=(List.getElem_cons_drop hib).symm;rw[da,db];by_cases he:a[i]=b[i]
  ·rw[decide_eq_true he];simp only;rw[OX heq a b hab fs (i+1) h4 (by omega)]
   congr 1
   rw[decide_eq_decide,he];exact⟨fun h=>by rw[h],fun h=>(List.cons.inj h).2⟩
  ·have hn:¬(a[i]::a.drop (i+1)=b[i]::b.drop (i+1)):=fun h=>he (List.cons.inj h).1;rw[decide_eq_false he,decide_eq_false hn]
theorem aGI(hg:aV G w)(hr:HR w s.vh s.nx h an)(er:ER w s.env e h an){kd:EK}{op op':BinOp}{x y:VX}{t u:TypeId}{x' y':Operand}(hc:cop P (.eq kd op x y) (.binOp op' t x' y' u)=true)
  (hk:bF G call (.eq kd op x y) s K):bD w s e h an nid (opA P (.binOp op' t x' y' u) e h nid) K:=by
 simp only[cop,Bool.and_eq_true,beq_iff_eq] at hc;obtain⟨⟨⟨rfl,h1⟩,h2⟩,h0⟩:=hc;obtain⟨a,h3,h4⟩:=bI hg er h1 hk;obtain⟨b,h5,h6⟩:=bI hg er h2 h3;have fin:∀(b:Bool),eqK op b (fun v=>K v s)->(∀k n,rd e x'≠.int k n)->(∀l,rd e x'≠.str l)->eqR P t (dS x'||dS y') (rd e x') (rd e y')=some b->bD w s e h an nid (opA P (.binOp op t x' y' u) e h nid) K:=by intro b hb hx hx' he;obtain⟨v,a,g1,g2,g3⟩:=aCM hb hx hx' he;exact aU hr er g1 (by simp only[opA,g2,dL]) (g3 w)
 generalize hra:rd e x'=ra at h4 fin;generalize hrb:rd e y'=rb at h6 fin;cases kd with
 |b=>
  have hu:P.underlying t=some .bool:=by unfold qJ at h0;split at h0<;>first|assumption|contradiction
  simp only[vEq] at h5;unfold T1 at h5;split at h5
  ·cases h4;cases h6;exact fin _ h5 nofun nofun (by simp only[eqR,eqV,bR,hu])
  ·exact h5.elim
 |p=>
  obtain⟨el,hu,z,hz⟩:∃el,P.underlying t=some (.pointer el)/\∃z,bG P el=some (z+1):=by
   unfold qJ at h0;split at h0
   all_goals first
    |contradiction
    |(
      split at h0
      ·exact⟨_,by assumption,_,by assumption⟩
      ·contradiction)
  simp only[vEq] at h5;unfold T4 at h5;split at h5
  ·cases h4;cases h6;exact fin _ h5 nofun nofun (by simp only[eqR,eqV,bR,hu])
  ·cases h4;obtain⟨i,q,rfl⟩:=tI h6 (.inl ⟨_,_,rfl⟩);exact fin _ h5 nofun nofun (by simp only[eqR,eqV,bR,hu])
  ·cases h4;obtain⟨i,q,rfl⟩:=tI h6 (.inr (.inl ⟨_,_,rfl⟩));exact fin _ h5 nofun nofun (by simp only[eqR,eqV,bR,hu])
  ·cases h4;obtain⟨i,q,rfl⟩:=tI h6 (.inr (.inr ⟨_,_,rfl⟩));exact fin _ h5 nofun nofun (by simp only[eqR,eqV,bR,hu])
  ·cases h6;obtain⟨i,q,rfl⟩:=tI h4 (.inl ⟨_,_,rfl⟩);exact fin _ h5 nofun nofun (by simp only[eqR,eqV,bR,hu])
  ·cases h6;obtain⟨i,q,rfl⟩:=tI h4 (.inr (.inl ⟨_,_,rfl⟩));exact fin _ h5 nofun nofun (by simp only[eqR,eqV,bR,hu])
  ·cases h6;obtain⟨i,q,rfl⟩:=tI h4 (.inr (.inr ⟨_,_,rfl⟩));exact fin _ h5 nofun nofun (by simp only[eqR,eqV,bR,hu])
  ·rename_i b1 o1 b2 o2;cases hbb:Nat.beq b1 b2 with
   |false=>rw[hbb] at h5;exact h5.elim
   |true=>
   rw[hbb] at h5;have:=aP.1 hbb;subst this;cases h4 with
   |ptr _ _ i hi=>
    cases h6 with
    |ptr _ _ j hj=>rw[hi] at hj;cases hj;exact fin _ h5 nofun nofun (by simp only[eqR,eqV,bR,hu,hz,Nat.beq_refl,cond_true])
  ·exact h5.elim
 |i=>
  obtain⟨ms,hu,hms⟩:∃ms,P.underlying t=some (.interface ms)/\((dS x'||dS y')||ms.isEmpty)=true:=by unfold qJ at h0;split at h0<;>first|exact⟨_,by assumption,h0⟩|contradiction
  simp only[vEq] at h5;unfold T3 at h5;split at h5
  ·cases h4;cases h6;refine fin _ h5 nofun nofun ?_;simp only[eqR];cases hcc:(dS x'||dS y') with
   |true=>simp only[cond_true,hu]
   |false=>rw[hcc] at hms;simp only[Bool.false_or] at hms;simp only[cond_false,eqV,bR,hu,hms,cond_true]
  ·cases h4;cases h6;exact fin _ h5 nofun nofun (by simp only[eqR,eqV,bR,hu])
  ·cases h4;cases h6;exact fin _ h5 nofun nofun (by simp only[eqR,eqV,bR,hu])
  ·exact h5.elim
 |f=>
  obtain⟨p1,p2,p3,hu⟩:∃p1 p2 p3,P.underlying t=some (.func p1 p2 p3):=by unfold qJ at h0;split at h0<;>first|exact⟨_,_,_,by assumption⟩|contradiction
  simp only[vEq] at h5;unfold T2 at h5;split at h5
  ·cases h4;cases h6;exact fin _ h5 nofun nofun (by simp only[eqR,eqV,bR,hu])
  ·cases h4;cases h6;exact fin _ h5 nofun nofun (by simp only[eqR,eqV,bR,hu])
  ·cases h4;cases h6;exact fin _ h5 nofun nofun (by simp only[eqR,eqV,bR,hu])
  ·exact h5.elim
 |s=>
  obtain⟨el,hu⟩:∃el,P.underlying t=some (.slice el):=by unfold qJ at h0;split at h0<;>first|exact⟨_,by assumption⟩|contradiction
  simp only[vEq] at h5;unfold T5 at h5;split at h5
  ·cases h4;cases h6;exact fin _ h5 nofun nofun (by simp only[eqR,eqV,bR,hu])
  ·cases h4;cases h6;exact fin _ h5 nofun nofun (by simp only[eqR,eqV,bR,hu])
  ·cases h4;cases h6;exact fin _ h5 nofun nofun (by simp only[eqR,eqV,bR,hu])
  ·cases h6;cases h4 with
   |sl0=>exact fin _ (h5 true) nofun nofun (by simp only[eqR,eqV,bR,hu])
   |sle=>exact fin _ (h5 false) nofun nofun (by simp only[eqR,eqV,bR,hu])
   |sl=>exact fin _ (h5 false) nofun nofun (by simp only[eqR,eqV,bR,hu])
  ·cases h6;cases h4 with
   |sl=>exact fin _ h5 nofun nofun (by simp only[eqR,eqV,bR,hu])
  ·exact h5.elim
 |t n=>
  simp only[vEq] at h5;unfold T6 at h5;split at h5
  ·rename_i l m;split at h5
   ·rename_i sa sb hsa hsb;cases hln:(Nat.beq (Ev.len sa) n&&Nat.beq (Ev.len sb) n) with
    |false=>rw[hln] at h5;exact h5.elim
    |true=>
    rw[hln] at h5;simp only[cond_true] at h5;simp only[Bool.and_eq_true,aP,aT] at hln;obtain⟨fs,hu,hk⟩:∃fs,P.underlying t=some (.struct fs)/\(Nat.beq fs.toList.length n&&xJ P fs.toList 0&&!P.stoodInHeld t&&!P.eqGuardType P.depth t)=true:=by
     unfold qJ at h0;split at h0
     all_goals first
      |(rename_i heq1 heq2;cases heq1;exact⟨_,heq2,h0⟩)
      |(rename_i heq1 _;cases heq1;done)
      |contradiction
    simp only[Bool.and_eq_true,Bool.not_eq_true'] at hk;obtain⟨⟨⟨k1,k2⟩,k3⟩,k4⟩:=hk;have k1:=aP.1 k1;cases h4 with
    |agg _ xs hx=>
    cases h6 with
    |agg _ ys hy=>
    have ex:=HY hx hsa;have ey:=HY hy hsb;refine fin _ h5 nofun nofun ?_;have:=OX (P:=P) (eq:=eqV P 99) (fun _ hu=>aCQ (d:=98) hu) sa sb (by omega) fs.toList 0 k2 (by omega)
    subst ex;subst ey;show (bif P.eqGuardType P.depth t then none else eqV P (99+1) t (.agg (sa.map .str)) (.agg (sb.map .str)))=_;rw[k4,cond_false,eqV];simp only[hu,k3,cond_false];exact this
   ·exact h5.elim
  ·exact h5.elim
theorem aG4(hg:aV G w)(hr:HR w s.vh s.nx h an)(er:ER w s.env e h an){op op':UnOp}{x:VX}{t:TypeId}{y:Operand}(hc:cop P (.un op x) (.unOp op' t y)=true)
  (hk:bF G call (.un op x) s K):bD w s e h an nid (opA P (.unOp op' t y) e h nid) K:=by
 simp only[cop,Bool.and_eq_true,beq_iff_eq] at hc;obtain⟨rfl,h1⟩:=hc;obtain⟨a,h3,h4⟩:=bI hg er h1 hk;generalize hra:rd e y=ra at h4;unfold vUn at h3;split at h3
 ·cases h4;exact aU hr er h3 (by simp only[opA,hra,unA,dL,AX]) (.int _ _)
 ·cases h4;exact aU hr er h3 (by simp only[opA,hra,unA,dL]) (.int _ _)
 ·cases h4;exact aU hr er h3 (by simp only[opA,hra,unA,dL]) (.bool _)
 ·exact h3.elim
theorem aFz(hg:aV G w)(hr:HR w s.vh s.nx h an)(er:ER w s.env e h an){k:IntKind}{x:VX}{a b:TypeId}{y:Operand}(hc:cop P (.cint k x) (.convert a b y)=true)
  (hk:bF G call (.cint k x) s K):bD w s e h an nid (opA P (.convert a b y) e h nid) K:=by
 simp only[cop,Bool.and_eq_true] at hc;obtain⟨⟨h1,h2⟩,h0⟩:=hc;obtain⟨v,h3,h4⟩:=bI hg er h1 hk;generalize hra:rd e y=ra at h4;have hu:=AY h2;obtain⟨u,hs⟩:=Option.isSome_iff_exists.1 h0;split at h3
 ·cases h4;exact aU hr er h3 (by simp only[opA,hra,dY,hu,hs]) (.int _ _)
 ·exact h3.elim
theorem aGC(hg:aV G w)(hr:HR w s.vh s.nx h an)(er:ER w s.env e h an){x:VX}{a b:TypeId}{y:Operand}(hc:cop P (.cstr x) (.convert a b y)=true)
  (hk:bF G call (.cstr x) s K):bD w s e h an nid (opA P (.convert a b y) e h nid) K:=by
 simp only[cop,Bool.and_eq_true] at hc;obtain⟨⟨h1,h2⟩,h0⟩:=hc;obtain⟨v,h3,h4⟩:=bI hg er h1 hk;generalize hra:rd e y=ra at h4;have hu:=jN h2;have hs:=jN h0;split at h3
 ·cases h4;exact aU hr er h3 (by simp only[opA,hra,dY,hu,hs]) (.str _)
 ·exact h3.elim
theorem aGB(hg:aV G w)(hr:HR w s.vh s.nx h an)(er:ER w s.env e h an){x:VX}{a b:TypeId}{y:Operand}(hc:cop P (.crune x) (.convert a b y)=true)
  (hk:bF G call (.crune x) s K):bD w s e h an nid (opA P (.convert a b y) e h nid) K:=by
 simp only[cop,Bool.and_eq_true] at hc;obtain⟨⟨h1,h2⟩,h0⟩:=hc;obtain⟨v,h3,h4⟩:=bI hg er h1 hk;generalize hra:rd e y=ra at h4;have hu:=jN h2;obtain⟨k,hs⟩:=QD h0;split at h3
 ·cases h4;exact aU hr er h3 (by simp only[opA,hra,dY,hu,hs]) (.str _)
 ·exact h3.elim
theorem LN{w:Wd}(l:List Nat):aX w (l.map cP) (pD l):=by
 induction l with
 |nil=>exact .nil
 |cons c l ih=>exact .cons _ _ _ _ (.int _ _) ih
theorem aFy(hg:aV G w)(hr:HR w s.vh s.nx h an)(er:ER w s.env e h an)(hf:bZ w s.env e nid){x:VX}{ty a b:TypeId}{y:Operand}(hc:cop P (.cbytes x ty) (.convert a b y)=true)
  (hk:bF G call (.cbytes x ty) s K):bD w s e h an nid (opA P (.convert a b y) e h nid) K:=by
 simp only[cop,Bool.and_eq_true] at hc;obtain⟨⟨⟨h1,h2⟩,h0⟩,h5⟩:=hc;obtain⟨v,h3,h4⟩:=bI hg er h1 hk;generalize hra:rd e y=ra at h4;obtain⟨hu,hz,he⟩:=BT h2;have hs:=jN h0;have hi:=AY h5;split at h3
 ·rename_i l;cases h4;exact lO hr er hf (v:=.msl s.nx 0 l.length 1 none) (a:=.sl nid 0 l.length 1 none) h3 (by simp only[opA,hra,dY,hu,hs,hi,hz,aT]) (.cells _ _ _ _ _ (LN l)) (.msl _ _ _ _ _ nid (by simp[Wd.addB]))
 ·exact h3.elim
theorem EA{w:Wd}{l:List Nat}{L:List AV}(h:aX w (l.map cP) L)(hb:∀c∈l,c<256):j6 L=some l:=by
 induction l generalizing L with
 |nil=>cases h;rfl
 |cons c l ih=>
  simp only[List.map_cons] at h;cases h with
  |cons _ a _ m h hl=>cases h;simp only[j6,ih hl fun d hd=>hb d (.tail _ hd)];rw[cF.2 (hb c (.head _))];rfl
theorem aGD(hg:aV G w)(hr:HR w s.vh s.nx h an)(er:ER w s.env e h an){x:VX}{a b:TypeId}{y:Operand}(hc:cop P (.ctext x) (.convert a b y)=true)
  (hk:bF G call (.ctext x) s K):bD w s e h an nid (opA P (.convert a b y) e h nid) K:=by
 simp only[cop,Bool.and_eq_true] at hc;obtain⟨⟨h1,h2⟩,h0⟩:=hc;obtain⟨v,h3,h4⟩:=bI hg er h1 hk;generalize hra:rd e y=ra at h4;have hu:=jN h2;split at h0
 ·rename_i el hs;have hi:=AY h0;split at h3
  ·cases h4;exact aU hr er h3 (by simp only[opA,hra,dY,hu,hs,hi]) (.str _)
  ·rename_i ls c;obtain⟨l,⟨h5,h7⟩,h3⟩:=h3;have e1:ls.flatten=l.map cP:=by subst h5;clear h3 h7 h4;induction l with|nil=>rfl|cons c l ih=>simp[ih]
   cases h4 with
   |sl0=>
    have:l=[]:=by cases l with|nil=>rfl|cons _ _=>cases h5
    subst this;exact aU hr er h3 (by simp only[opA,hra,dY,hu,hs,hi]) (.str _)
   |sle=>
    have:l=[]:=by cases l with|nil=>rfl|cons _ _=>cases h5
    subst this;exact aU hr er h3 (by simp only[opA,hra,dY,hu,hs,hi]) (.str _)
   |sl _ _ c' i o n es L hk' hn he hd hc hc' ho=>obtain⟨ty,fz,raw,g⟩:=hr.frz _ _ hk';have hfl:=hd.flat;rw[e1,hn] at hfl;simp only[Nat.mul_one] at hfl ho;refine aU hr er h3 ?_ (.str _);simp only[opA,hra,dY,hu,hs,hi,fF,g,aT];rw[bC.2 ho];simp only[cond_true,eP,dI,EA hfl h7];rfl
  ·rename_i b' o n c;obtain⟨p,hp,h3⟩:=h3;obtain⟨l,⟨h5,h6,h7⟩,h3⟩:=h3;cases h4 with
   |msl _ _ _ _ _ i hi'=>
    obtain⟨L,g3,g4⟩:=iY hr hp hi';have h8:=(g4.drop o).take n;rw[h5] at h8;refine aU hr er h3 ?_ (.str _);simp only[opA,hra,dY,hu,hs,hi,fF,g3,aT];rw[bC.2 (by rw[<-g4.length];exact h6)]
    simp only[cond_true,eP,dI,EA h8 h7];rfl
  ·exact h3.elim
 ·cases h0
theorem aGS(hg:aV G w)(hr:HR w s.vh s.nx h an)(er:ER w s.env e h an){t t':TypeId}{x:VX}{y:Operand}(hc:cop P (.mkIfc t x) (.makeInterface t' y)=true)
  (hk:bF G call (.mkIfc t x) s K):bD w s e h an nid (opA P (.makeInterface t' y) e h nid) K:=by
 simp only[cop,Bool.and_eq_true,aP] at hc;obtain⟨⟨rfl,h1⟩,h2⟩:=hc;obtain⟨v,h3,h4,h5⟩:=xG hg er h1 hk;refine aU hr er h3 ?_ (.ifc t v _ h5);unfold BB at h2;split at h2
 ·cases h2
 ·rename_i u hu hn;simp only[opA,hn]
 ·cases h2
theorem aGR(hg:aV G w)(hr:HR w s.vh s.nx h an)(er:ER w s.env e h an){g g':FuncId}{fs cs:List VX}{fs' cs':Array Operand}(hc:cop P (.mkFn g fs cs) (.makeFunc (.func g') fs' cs')=true)
  (hk:bF G call (.mkFn g fs cs) s K):bD w s e h an nid (opA P (.makeFunc (.func g') fs' cs') e h nid) K:=by
 simp only[cop,Bool.and_eq_true,aP] at hc;obtain⟨⟨rfl,h1⟩,h2⟩:=hc;obtain⟨v,h3,_,h4⟩:=nI hg er h1 hk;obtain⟨u,h5,_,h6⟩:=nI hg er h2 h3;exact aU hr er h5 (by simp only[opA]) (.func g v u _ _ h4 h6)
theorem aGT(hr:HR w s.vh s.nx h an)(er:ER w s.env e h an)(hf:bZ w s.env e nid){t:TypeId}
  (hk:bF G call .mkMap s K):bD w s e h an nid (opA P (.makeMap t none) e h nid) K:=
 lO hr er hf (v:=.map s.nx) (a:=.map nid) hk (by simp only[opA]) (.map _ _ .nil) (.map _ _ (by simp[Wd.addB]))
end
end
end Go.VL
