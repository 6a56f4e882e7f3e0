/- Part 3 of the texts under the proof: an abstract interpreter,the summaries of functions,plain laws. -/
import Derived.Test.YtgbndomcmihfkaaGreatDoorD2
import Derived.RecoverIn
set_option linter.unusedSectionVars false
set_option linter.unusedVariables false
set_option linter.unusedSimpArgs false
set_option linter.unnecessarySimpa false
set_option maxRecDepth 100000
set_option maxHeartbeats 4000000
noncomputable section
namespace Kz
open Go Go.RowKit
noncomputable section
variable {P:Program} {E:Env} {code:Nat→Code→St→Tr Out}
variable {g g':Gh} {h h':Hp} {tk:List Nat} {w w':World} {ro:Option Nat} {a:Act} {Q:Exit→Act→World→Prop} {W0:DB}
theorem AY (ok:nK E) {fn:Nat} {b:Code} {s:St} {out:Out} (hloop:pL E.P E.loop) (ih:∀ s out,(na E code fn b s).get=some out→qK E.P b s out) (he:(na E code fn (.loop b) s).get=some out):ay E.P b s out:=by
 rw [na] at he
 split at he
 ·rename_i F hF
  exact ok.pj _ _ _ _ _ hF he
 intro ro g w a W0 m ht mk hW hro
 rw [get_bind,B'] at he
 obtain ⟨r,h1,h2⟩:=he
 refine eK (wpIn_mono (ih _ _ h1 ro g w a W0 m ht mk hW hro) ?_)
 intro e a1 w1 hp
 cases r with
 | norm s1 =>
  obtain ⟨rfl,g1,nx,hr,mk1⟩:=hp
  have:=hloop fn b s1 out h2 ro g1 w1 a1 W0 nx.mr hr mk1 (Nat.le_trans hW nx.le.below.size) (fun c hc=>let ⟨l,hl⟩:=hro c hc; ⟨l,nx.le.loops _ _ hl⟩)
  exact gG this fun e a2 w2 hp2=>hp2.nx nx
 | ret s1 =>
  simp only [au,A'] at h2
  subst h2
  obtain ⟨rfl,rest⟩:=hp
  exact ⟨rfl,rest⟩
 | exit id s1 =>
  simp only [au,A'] at h2
  subst h2
  obtain ⟨rfl,rest⟩:=hp
  exact ⟨rfl,rest⟩
 | panic v h1 =>
  simp only [au,A'] at h2
  subst h2
  obtain ⟨x,g1,rfl,rest⟩:=hp
  exact ⟨x,g1,rfl,rest⟩
theorem qz {l0:Nat} {R0:Loop} (h0:w.heap[l0]?=some (.loop R0)) (fn:FuncId) (tmps:Array Value) (ps:Array Tmp) (assign body:Code) :
  (Instr.enterLoop fn tmps ps assign body (some l0)).run P w =
   .ok (w.heap.size,[]) (w.alloc (.loop { state := .ready,pending:=none,fn,tmps,params:=ps,assign,body,defers:=R0.defers })):=by
 unfold Instr.enterLoop
 simp only [Sem.run_bind,run_getLoop h0,run_newObj_alloc,Result.andThen,Sem.run_pure]
theorem Fj {s:LoopState} {n:Nat} (h:xJ s=n) (hn:n≠1):s≠.busy:=by
 intro e;subst e;exact hn h.symm
theorem J7 (ok:nK E) {fn:Nat} {f:Operand} {ps:Array Tmp} {as1 b:Code} {s:St} {out:Out} (he:(na E code fn (.rangeFunc f ps as1 b) s).get=some out):qK E.P (.rangeFunc f ps as1 b) s out:=by
 intro ro g w a W0 m ht mk hW hro
 rw [na] at he
 split at he
 ·rename_i gf x y hv
  simp only at he
  split at he
  ·simp at he
  ·simp only [get_bind,B'] at he
   obtain ⟨r,h1,h2⟩:=he
   obtain ⟨hspec,fnc,hf,hb⟩:=ok.call _ _ _ _ h1
   have hfv:=aR ht f
   rw [hv] at hfv
   obtain ⟨xs,ys,hx,hrx,hry⟩:∃ xs ys,a.eval f=.func (.func gf) xs ys∧aB g s.hp.al w x xs.toList∧aB g s.hp.al w y ys.toList:=by
    generalize a.eval f=z at hfv
    cases hfv with
    | func q1 q2=>exact ⟨_,_,rfl,q1,q2⟩
   refine wpIn_rangeFunc fun fnb _=>?_
   have enter:∃ (g1:Gh) (cl:Nat) (mark:List Deferred) (w1:World),(Instr.enterLoop fnb a.tmps ps as1 b ro).run E.P w=.ok (cl,mark) w1 ∧
     Nx g s.hp w g1 { s.hp with loops:=s.hp.loops++[{ state:=0,eu:=none,fn:=fn,tmps:=s.tmps,params:=ps.toList,assign:=as1,body:=b }] } w1∧g1.loops[s.hp.loops.length]?=some cl∧Marks g1 W0 (mark++a.defers):=by
    cases ro with
    | none =>
     obtain ⟨m1,l1⟩:=m.Vx
     obtain ⟨m2,l2⟩:=m1.DZ (r:={ state:=0,eu:=none,fn:=fn,tmps:=s.tmps,params:=ps.toList,assign:=as1,body:=b })
      (R:={ state := .ready,pending:=none,fn:=fnb,tmps:=a.tmps,params:=ps,assign:=as1,body:=b,defers:=w.heap.size }) ⟨rfl,rfl,ht.mono l1,rfl,rfl,rfl⟩
     refine ⟨_,_,_,_,run_enterLoop_outer fnb a.tmps ps as1 b,⟨m2,l1.trans l2,⟨rfl,rfl,rfl,fun _ _ _ x=>x,fun _ _ _ x=>x,fun _ _ _ x=>bf x⟩⟩,?_,?_⟩
     ·simp [m.gI,World.size_alloc]
     ·obtain ⟨ms,e0,mk⟩:=mk
      refine ⟨{ target := .collected w.heap.size,args := #[] }::ms,by rw [e0];rfl,fun d hd=>?_,?_⟩
      ·rcases List.mem_cons.1 hd with rfl | hd
       ·exact ⟨w.heap.size,rfl,List.mem_cons_self,hW⟩
       ·obtain ⟨D,e1,e2,e3⟩:=mk.mem d hd
        exact ⟨D,e1,List.mem_cons_of_mem _ e2,e3⟩
      ·simp only [List.map_cons]
       refine List.pairwise_cons.2 ⟨?_,mk.nodup⟩
       intro t ht' D hD
       obtain ⟨d,hd,rfl⟩:=List.mem_map.1 ht'
       obtain ⟨D',rfl,e2,_⟩:=mk.mem d hd
       simp only [Target.collected.injEq] at hD
       subst hD
       intro e
       simp only [Target.collected.injEq] at e
       subst e
       exact absurd (aV (m.defs _ e2).2) (Nat.lt_irrefl _)
    | some l0 =>
     obtain ⟨l,hl⟩:=hro l0 rfl
     obtain ⟨_,R0,hR0,_⟩:=m.loop l l0 _ hl (I' (by have:=bc hl;rw [m.gI] at this;exact this))
     obtain ⟨m2,l2⟩:=m.DZ (r:={ state:=0,eu:=none,fn:=fn,tmps:=s.tmps,params:=ps.toList,assign:=as1,body:=b })
      (R:={ state := .ready,pending:=none,fn:=fnb,tmps:=a.tmps,params:=ps,assign:=as1,body:=b,defers:=R0.defers }) ⟨rfl,rfl,ht,rfl,rfl,rfl⟩
     exact ⟨_,_,_,_,qz hR0 fnb a.tmps ps as1 b,⟨m2,l2,⟨rfl,rfl,rfl,fun _ _ _ x=>x,fun _ _ _ x=>x,fun _ _ _ x=>bf x⟩⟩,by simp [m.gI],mk.mono fun _ h=>h⟩
   obtain ⟨g1,cl,mark,w1,hent,nx1,hg1,mk1⟩:=enter
   refine ⟨cl,mark,w1,{ target := .fn (.func gf) ys,args:=xs++#[.func (.yield cl) #[] #[]] },w1,gf,xs++#[.func (.yield cl) #[] #[]]++ys,w1,hent,?_,fun _ _=>trivial,?_,fun h=>by simp [Fr,Fence.wide] at h,?_⟩
   ·simp only [resolve,hx,Deferred.ofValue]
    simp [Act.eval,Sem.run_pure]
   ·exact kb hf hb (ok.named _ _ hf hb)
   ·have hargs:aB g1 ({ s.hp with loops:=s.hp.loops++[{ state:=0,eu:=none,fn:=fn,tmps:=s.tmps,params:=ps.toList,assign:=as1,body:=b }] }:Hp).al w1 (x++[.yield s.hp.loops.length]++y) (xs++#[Value.func (.yield cl) #[] #[]]++ys).toList:=by
     simp only [Array.toList_append]
     exact ((hrx.mono nx1.le).append (.cons (.yield hg1) .nil)).append (hry.mono nx1.le)
    refine Bl ((hspec g1 w1 _ nx1.mr hargs).mono ?_)
    intro e w2 hp
    cases r with
    | panic v h' =>
     simp only [au,A'] at h2
     subst h2
     obtain ⟨g2,z,rfl,nx2,hz⟩:=hp
     exact ⟨z,g2,rfl,nx1.trans nx2,hz,mk1.mono nx2.le.defs⟩
    | ret v h' =>
     obtain ⟨g2,z,rfl,nx2,hz⟩:=hp
     simp only at h2
     split at h2
     ·rename_i rr hrr
      split at h2
      ·rename_i hst
       have hg2:=nx2.le.loops _ _ hg1
       obtain ⟨hb2,R2,hR2,hlr2⟩:=nx2.mr.loop _ _ _ hg2 hrr
       obtain ⟨m3,l3⟩:=nx2.mr.yj (r':={ rr with state:=3 }) (R':={ R2 with state := .exhausted }) hg2 hrr hR2 ⟨rfl,hlr2.eu,hlr2.tmps,hlr2.params,hlr2.assign,hlr2.body⟩
       refine ⟨R2.pending,_,run_endLoop hR2 (Fj hlr2.state hst),?_⟩
       have nx3:Nx g s.hp w g2 (eD h' s.hp.loops.length { rr with state:=3 }) (bk w2 cl (.loop { R2 with state := .exhausted })):=by
        refine ⟨m3,(nx1.trans nx2).le.trans l3,⟨nx2.fl.lo,nx2.fl.rE,nx2.fl.pt,(nx1.trans nx2).fl.heap,(nx1.trans nx2).fl.al,fun i q hi hq=>?_⟩⟩
        have hne:s.hp.loops.length≠i:=fun e=>by have:=bc hq;omega
        show (h'.loops.set _ _)[i]?=_
        rw [List.getElem?_set_ne hne]
        exact (nx1.trans nx2).fl.loops i q hi hq
       have htt:=ht.mono nx3.le
       have mk3:Marks g2 W0 (mark++a.defers):=mk1.mono nx2.le.defs
       rw [vJ]
       have hpend:=hlr2.eu
       generalize eD h' s.hp.loops.length { rr with state:=3 }=H3 at nx3 htt h2
       generalize bk w2 cl (.loop { R2 with state := .exhausted })=W3 at nx3 htt ⊢
       rw [hpend]
       cases hpe:rr.eu with
       | none =>
        rw [hpe] at h2
        simp only [toCode,au,A'] at h2
        subst h2
        exact ⟨rfl,g2,nx3,htt,mk3⟩
       | some c =>
        rw [hpe] at h2
        cases c with
        | ret =>
         simp only [toCode,au,A'] at h2
         subst h2
         exact wpIn_ret ⟨rfl,g2,nx3,htt,mk3⟩
        | exit id =>
         simp only [toCode,au,A'] at h2
         subst h2
         exact wpIn_exit ⟨rfl,g2,nx3,htt,mk3⟩
        | _=>simp [toCode] at h2
      ·simp at h2
     ·simp at h2
 ·simp at he
theorem fp {b:Frame} {a:Act} {k:List Item} {cs:List Frame} {w:World} {c:Code}:step P (lone (b.atR a (.code (.scope c)::k)) cs w)=.next (lone (b.atR a (.code c::.inScope c::k)) cs w) :=
 step_lone_go (by simp [stepG,stepG.exec,Frame.atR])
theorem vz {b:Frame} {a:Act} {k:List Item} {cs:List Frame} {w:World} {c:Code}:step P (lone (b.atR a (.inScope c::k)) cs w)=.next (lone (b.atR a k) cs w) :=
 step_lone_go (by simp [stepG,stepG.exec,Frame.atR])
theorem BF {F:Fence} {n:Nat} {Q:Exit→Act→World→Prop} {a:Act} {w:World} {c:Code} (h:c.wpIn F n P (Exit.noGoto Q) a w):(Code.scope c).wpIn F n P Q a w:=by
 intro b k cs hro hb hr
 have h0:(lone (b.atR a (.code (.scope c)::k)) cs w).fenced P F:=fenced_calm hb hr rfl
 obtain ⟨e,a₁,w₁,hq,harr⟩:=h b (.inScope c::k) cs hro hb hr
 cases e with
 | normal=>exact ⟨.normal,a₁,w₁,hq,.head h0 fp (StepsIn.trans harr (.one (fenced_calm hb hr rfl) vz))⟩
 | exit id' =>
  have hx:exitTo id' (.inScope c::k)=exitTo id' k:=by simp [exitTo]
  exact ⟨.exit id',a₁,w₁,hq,fun k' hk=>.head h0 fp (harr.1 k' (by rw [hx];exact hk)),
   fun hr' hk=>let ⟨k₁,h1,h2⟩:=harr.2 hr' (by rw [hx];exact hk); ⟨k₁,h1,.head h0 fp h2⟩⟩
 | goto l=>exact hq.elim
 | ret=>exact ⟨_,a₁,w₁,hq,.of_steps (.one h0 fp) harr⟩
 | panic ch=>exact ⟨_,a₁,w₁,hq,.of_steps (.one h0 fp) harr⟩
 | outgrown=>exact ⟨_,a₁,w₁,hq,.of_steps (.one h0 fp) harr⟩
theorem nu (ok:nK E) (hcode:cI E.P code) (hloop:pL E.P E.loop) (fn:Nat) (c:Code):∀ s out,(na E code fn c s).get=some out→qK E.P c s out:=by
 induction c with
 | skip =>
  intro s out he ro g w a W0 m ht mk hW hro
  simp only [na,au,A'] at he
  subst he
  exact wpIn_skip ⟨rfl,g,Nx.refl m,ht,mk⟩
 | region id ops draw=>exact fun s out he=>F7 ok hcode (by simpa [na] using he)
 | seq x y ihx ihy =>
  intro s out he ro g w a W0 m ht mk hW hro
  rw [na,get_bind,B'] at he
  obtain ⟨r,h1,h2⟩:=he
  refine wpIn_seq (wpIn_mono (ihx _ _ h1 ro g w a W0 m ht mk hW hro) ?_)
  intro e a1 w1 hp
  cases r with
  | norm s1 =>
   obtain ⟨rfl,g1,nx,hr,mk1⟩:=hp
   have:=ihy s1 out h2 ro g1 w1 a1 W0 nx.mr hr mk1 (Nat.le_trans hW nx.le.below.size) (fun c hc=>let ⟨l,hl⟩:=hro c hc; ⟨l,nx.le.loops _ _ hl⟩)
   exact wpIn_mono this fun e a2 w2 hp2=>hp2.nx nx
  | ret s1 =>
   simp only [au,A'] at h2
   subst h2
   obtain ⟨rfl,rest⟩:=hp
   exact ⟨rfl,rest⟩
  | exit id s1 =>
   simp only [au,A'] at h2
   subst h2
   obtain ⟨rfl,rest⟩:=hp
   exact ⟨rfl,rest⟩
  | panic v h1 =>
   simp only [au,A'] at h2
   subst h2
   obtain ⟨x,g1,rfl,rest⟩:=hp
   exact ⟨x,g1,rfl,rest⟩
 | cond c x y ihx ihy =>
  intro s out he ro g w a W0 m ht mk hW hro
  have hc:=aR ht c
  rw [na] at he
  split at he
  ·rename_i e
   rw [e] at hc
   exact wpIn_cond_true hc.dX (ihx _ _ he ro g w a W0 m ht mk hW hro)
  ·rename_i e
   rw [e] at hc
   exact wpIn_cond_false hc.dX (ihy _ _ he ro g w a W0 m ht mk hW hro)
  ·rename_i t e
   rw [e] at hc
   rw [fc] at he
   cases t with
   | true=>exact wpIn_cond_true hc.fK (ihx _ _ he ro g w a W0 m ht mk hW hro)
   | false=>exact wpIn_cond_false hc.fK (ihy _ _ he ro g w a W0 m ht mk hW hro)
  ·simp at he
 | scope b ih =>
  intro s out he ro g w a W0 m ht mk hW hro
  rw [na] at he
  refine BF (wpIn_mono (ih _ _ he ro g w a W0 m ht mk hW hro) ?_)
  intro e a1 w1 hp
  cases out with
  | norm s1=>obtain ⟨rfl,rest⟩:=hp;exact ⟨rfl,rest⟩
  | ret s1=>obtain ⟨rfl,rest⟩:=hp;exact ⟨rfl,rest⟩
  | exit j s1=>obtain ⟨rfl,rest⟩:=hp;exact ⟨rfl,rest⟩
  | panic v h=>obtain ⟨x,g1,rfl,rest⟩:=hp;exact ⟨x,g1,rfl,rest⟩
 | block id b ih =>
  intro s out he ro g w a W0 m ht mk hW hro
  rw [na,get_bind,B'] at he
  obtain ⟨r,h1,h2⟩:=he
  refine wpIn_block (wpIn_mono (ih _ _ h1 ro g w a W0 m ht mk hW hro) ?_)
  intro e a1 w1 hp
  cases r with
  | norm s1 =>
   simp only [au,A'] at h2
   subst h2
   obtain ⟨rfl,rest⟩:=hp
   exact ⟨rfl,rest⟩
  | ret s1 =>
   simp only [au,A'] at h2
   subst h2
   obtain ⟨rfl,rest⟩:=hp
   exact ⟨rfl,rest⟩
  | exit j s1 =>
   obtain ⟨rfl,rest⟩:=hp
   simp only at h2
   by_cases hj:j=id
   ·subst hj
    simp at h2
    subst h2
    simp only [Exit.inBlock,if_true]
    exact ⟨rfl,rest⟩
   ·have hne:(j==id)=false:=by simpa using hj
    rw [hne] at h2
    simp at h2
    subst h2
    simp only [Exit.inBlock,hj,if_false]
    exact ⟨rfl,rest⟩
  | panic v h1 =>
   simp only [au,A'] at h2
   subst h2
   obtain ⟨x,g1,rfl,rest⟩:=hp
   exact ⟨x,g1,rfl,rest⟩
 | loop b ih =>
  intro s out he ro g w a W0 m ht mk hW hro
  exact tf (AY ok hloop ih he ro g w a W0 m ht mk hW hro)
 | rangeFunc f ps as1 b=>exact fun s out he=>J7 ok he
 | exit id =>
  intro s out he ro g w a W0 m ht mk hW hro
  simp only [na,au,A'] at he
  subst he
  exact wpIn_exit ⟨rfl,g,Nx.refl m,ht,mk⟩
 | label l =>
  intro s out he ro g w a W0 m ht mk hW hro
  simp only [na,au,A'] at he
  subst he
  exact wpIn_label ⟨rfl,g,Nx.refl m,ht,mk⟩
 | ret =>
  intro s out he ro g w a W0 m ht mk hW hro
  simp only [na,au,A'] at he
  subst he
  exact wpIn_ret ⟨rfl,g,Nx.refl m,ht,mk⟩
 | _=>intro s out he;simp [na] at he
theorem lC (m:MR g h w) {tmps:List AV} (ht:aB g h.al w tmps a.tmps.toList) {F:ResultVar→Sem Value} (hF1:∀ t,F (.tmp t)=pure (a.tmps.getD t undef)) (hF2:∀ x t,F (.cell x t)=(do loadVar t (← asAddr (a.tmps.getD x undef)))):∀ (rs:List ResultVar) (l:List AV),gO P h tmps rs=some l →
  ∃ vs,(rs.mapM F).run P w=.ok vs w∧aB g h.al w l vs
 | [],l,he=>by
  simp only [gO,A'] at he
  subst he
  exact ⟨[],rfl,.nil⟩
 | .tmp t::rest,l,he=>by
  simp only [gO,H'] at he
  obtain ⟨l',h1,rfl⟩:=he
  obtain ⟨vs,e1,e2⟩:=lC m ht hF1 hF2 rest l' h1
  refine ⟨a.tmps.getD t undef::vs,?_,.cons (aR ht (.tmp t)) e2⟩
  rw [List.mapM_cons,hF1]
  simp only [Sem.run_bind,Sem.run_pure,Result.andThen_ok,e1]
 | .cell x t::rest,l,he=>by
  simp only [gO,B',H'] at he
  obtain ⟨v,h1,l',h2,rfl⟩:=he
  obtain ⟨vs,e1,e2⟩:=lC m ht hF1 hF2 rest l' h2
  have hx:=aR ht (.tmp x)
  simp only [aJ,Act.eval] at hx
  obtain ⟨y,e3,e4⟩:=EK m h1 hx
  obtain ⟨ad,had⟩:∃ ad,a.tmps.getD x undef=.pointer (some ad):=by
   generalize tmps.getD x .any=q at h1 hx
   generalize a.tmps.getD x undef=z at hx
   cases hx<;>first | exact ⟨_,rfl⟩ | simp [dS] at h1
  have e5:(do loadVar t (← asAddr (a.tmps.getD x undef)):Sem Value).run P w=.ok y w:=by
   rw [had] at e3 ⊢
   simpa [Instr.loadAt,Instr.sureAddr,asAddr,Sem.run_bind] using e3
  refine ⟨y::vs,?_,.cons e4 e2⟩
  rw [List.mapM_cons,hF2,Sem.run_bind,e5]
  simp only [Sem.run_bind,Sem.run_pure,Result.andThen_ok,e1]
theorem mo {fn:Func} {l:List AV} (m:MR g h w) {tmps:List AV} (ht:aB g h.al w tmps a.tmps.toList) (he:gO P h tmps fn.results.toList=some l):∃ v,(results fn a.tmps).run P w=.ok v w∧aP g h.al w (oneOf l) v:=by
 have key:∀ F:ResultVar→Sem Value,(∀ t,F (.tmp t)=pure (a.tmps.getD t undef))→(∀ x t,F (.cell x t)=(do loadVar t (← asAddr (a.tmps.getD x undef)))) →
   ∃ v,(do let vs ← fn.results.mapM F;pure (if h:vs.size=1 then vs[0] else .tuple vs):Sem Value).run P w=.ok v w∧aP g h.al w (oneOf l) v:=by
  intro F hF1 hF2
  obtain ⟨vs,e1,e2⟩:=lC m ht hF1 hF2 _ _ he
  have hl:=e2.length
  have e3:(fn.results.mapM F).run P w=.ok vs.toArray w:=by
   rw [Array.mapM_eq_mapM_toList,Sem.run_map,e1]
   rfl
  refine ⟨if h:vs.toArray.size=1 then vs.toArray[0] else .tuple vs.toArray,?_,?_⟩
  ·rw [Sem.run_bind,e3]
   rfl
  ·match l,vs,e2,hl with
   | [],[],e2,_=>exact .tuple .nil
   | [x],[v],.cons hx _,_=>exact hx
   | x::y::l,u::v::vs,e2,_ =>
    rw [dif_neg (by simp)]
    exact .tuple e2
   | [],_::_,_,hl=>simp at hl
   | [x],[],_,hl=>simp at hl
   | [x],_::_::_,_,hl=>simp at hl
   | _::_::_,[],_,hl=>simp at hl
   | _::_::_,[_],_,hl=>simp at hl
 exact key _ (fun _=>rfl) (fun _ _=>rfl)
theorem wY {fn:Func} {R:Ending→World→Prop} {u:FrameMode} {W0:Nat} {dt:List Deferred} (hu:u≠.run):∀ (ds:List Deferred) (g:Gh) (w:World) (tmps:List AV),MR g h w→aB g h.al w tmps a.tmps.toList→qp g W0 ds →
  (∀ g' w',MR g' h w'→(∀ D,D∈g.defs→D<W0→D∈g'.defs)→Le { g' with defs:=[] } h.al w { g' with defs:=[] } h.al w'→g'.base=g.base→g'.fz=g.fz→g'.vars=g.vars→g'.own=g.own→g'.loops=g.loops→LeavesInM Fence.wide 0 P fn a.tmps R dt u w')→LeavesInM Fence.wide 0 P fn a.tmps R (ds++dt) u w
 | [],g,w,tmps,m,ht,mk,hR=>by
  exact hR g w m (fun _ h _=>h) ⟨rfl,Below.refl _ _,fun _ _ x=>x,fun _ _ _ _ x=>x,fun _ _ x=>x,fun _ _ x=>x,fun _ x=>x,fun _ n x=>⟨n,x,Nat.le_refl _,fun _=>rfl⟩,fun _ _ _=>rfl⟩ rfl rfl rfl rfl rfl
 | d::ds,g,w,tmps,m,ht,mk,hR=>by
  obtain ⟨D,rfl,hD,hW⟩:=mk.mem d (by simp)
  obtain ⟨m1,hb,l1,hh⟩:=m.NG hD
  refine ⟨hu,.inl ⟨D,_,rfl,run_takeDeferred hh,?_⟩⟩
  have mk1:qp { g with defs:=g.defs.filter (· != D) } W0 ds:=by
   have hn:=mk.nodup
   simp only [List.map_cons] at hn
   obtain ⟨n1,n2⟩:=List.pairwise_cons.1 hn
   refine ⟨fun d hd=>?_,n2⟩
   obtain ⟨D',e1,e2,e3⟩:=mk.mem d (by simp [hd])
   refine ⟨D',e1,List.mem_filter.2 ⟨e2,?_⟩,e3⟩
   have:=n1 d.target (List.mem_map.2 ⟨d,hd,rfl⟩) D rfl
   rw [e1] at this
   simp only [ne_eq,Target.collected.injEq] at this
   simpa using this
  have lw:Lw g h.al w { g with defs:=g.defs.filter (· != D) } h.al (bk w D (.deferred none)):=⟨Nat.le_refl _,l1.fz,l1.cell,l1.vars,l1.loops,l1.tok,l1.shape⟩
  refine wY hu ds _ _ tmps m1 (ht.bG lw) mk1 ?_
  intro g' w' m' hd' l' b1 b2 b3 b4 b5
  refine hR g' w' m' (fun D' h1 h2=>hd' D' (List.mem_filter.2 ⟨h1,by simp;omega⟩) h2) ?_ b1 b2 b3 b4 b5
  refine Le.trans ?_ l'
  exact ⟨rfl,(by rw [b1];exact l1.below),fun _ _ x=>x,fun c o x h1 h2=>l1.cell c o x (by have h1':g'.fz c o:=h1;rw [b2] at h1';exact h1') h2,fun _ _ x=>x,fun _ _ x=>x,fun _ x=>x,fun _ n x=>⟨n,x,Nat.le_refl _,fun _=>rfl⟩,fun i c x=>l1.shape i c (by have x':g'.vars[i]?=some c:=x;rw [b3] at x';exact x')⟩
theorem sJ {fn:Func} {a1:Act} {w1:World} {dt:List Deferred} {u:FrameMode} (m:MR g h w) (hu:u≠.run) (g1:Gh) (h1:Hp) (tmps:List AV) (R:Ending→World→Prop) (nx:Nx g h w g1 h1 w1) (hr1:aB g1 h1.al w1 tmps a1.tmps.toList) (mk1:Marks g1 (w.heap.size,dt) a1.defers)
  (hR:∀ g2 w2,Nx g h w g2 h1 w2→Lw g1 h1.al w1 g2 h1.al w2→LeavesInM Fence.wide 0 P fn a1.tmps R dt u w2):LeavesInM Fence.wide 0 P fn a1.tmps R a1.defers u w1:=by
 obtain ⟨ms,e,mk1⟩:=mk1
 rw [e]
 refine wY hu ms g1 w1 tmps nx.mr hr1 mk1 ?_
 intro g2 w2 m2 hd2 l2 b1 b2 b3 b4 b5
 have lw:Lw g1 h1.al w1 g2 h1.al w2:=by
  refine ⟨by rw [b1];exact Nat.le_refl _,by rw [b2];exact fun _ _ x=>x,fun c o x hx hc=>l2.cell c o x (by show g2.fz c o;rw [b2];exact hx) hc,by rw [b3];exact fun _ _ x=>x,by rw [b5];exact fun _ _ x=>x,fun _ n x=>⟨n,x,Nat.le_refl _,fun _=>by rw [b4]⟩,fun i c x=>l2.shape i c (by show g2.vars[i]?=_;rw [b3];exact x)⟩
 refine hR g2 w2 ⟨m2,?_,nx.fl⟩ lw
 refine ⟨b1.trans nx.le.base,?_,fun c o x=>by rw [b2];exact nx.le.fz c o x,fun c o x hx hc=>lw.cell c o x (nx.le.fz _ _ hx) (nx.le.cell c o x hx hc),fun i c x=>by rw [b3];exact nx.le.vars i c x,fun i c x=>by rw [b5];exact nx.le.loops i c x,fun D hD=>hd2 D (nx.le.defs D hD) (aV (m.defs D hD).2),fun k n x=>by
  obtain ⟨n',q1,q2,q3⟩:=nx.le.tok k n x
  exact ⟨n',q1,q2,fun e=>by rw [b4];exact q3 e⟩,fun i c x=>(lw.shape i c (nx.le.vars i c x)).trans (nx.le.shape i c x)⟩
 have hb2:({ g2 with defs:=[] }:Gh).base=g.base:=b1.trans nx.le.base
 have:=l2.below
 rw [hb2] at this
 exact nx.le.below.trans this
def nP (g:Gh) (h:Hp) (w:World) (a:Act) (out:Out) (e:Exit) (a':Act) (w':World):Prop :=
 match out with
 | .norm s'=>e=.normal∧∃ g',Nx g h w g' s'.hp w'∧aB g' s'.hp.al w' s'.tmps a'.tmps.toList∧a'.defers=a.defers
 | .ret s'=>e=.ret∧∃ g',Nx g h w g' s'.hp w'∧aB g' s'.hp.al w' s'.tmps a'.tmps.toList∧a'.defers=a.defers
 | .exit id s'=>e=.exit id∧∃ g',Nx g h w g' s'.hp w'∧aB g' s'.hp.al w' s'.tmps a'.tmps.toList∧a'.defers=a.defers
 | .panic v h'=>∃ x g',e=.panic (gw x)∧Nx g h w g' h' w'∧aP g' h'.al w' v x∧a'.defers=a.defers
theorem nP.nx {g0:Gh} {h0:Hp} {w0:World} {a0 a a':Act} {out:Out} {e:Exit} (nx:Nx g0 h0 w0 g h w) (hd:a.defers=a0.defers) (hp:nP g h w a out e a' w'):nP g0 h0 w0 a0 out e a' w':=by
 cases out with
 | norm s=>obtain ⟨e1,g1,n1,r1,m1⟩:=hp;exact ⟨e1,g1,nx.trans n1,r1,m1.trans hd⟩
 | ret s=>obtain ⟨e1,g1,n1,r1,m1⟩:=hp;exact ⟨e1,g1,nx.trans n1,r1,m1.trans hd⟩
 | exit id s=>obtain ⟨e1,g1,n1,r1,m1⟩:=hp;exact ⟨e1,g1,nx.trans n1,r1,m1.trans hd⟩
 | panic v h=>obtain ⟨x,g1,e1,n1,r1,m1⟩:=hp;exact ⟨x,g1,e1,nx.trans n1,r1,m1.trans hd⟩
theorem Hx (ops:Array Oper):(List.range ops.size).map (ops[·]?)=ops.toList.map some:=by
 apply List.ext_getElem?
 intro i
 rw [List.getElem?_map,List.getElem?_map]
 by_cases hi:i<ops.size
 ·simp [hi]
 ·simp [Nat.le_of_not_lt hi]
theorem Hg (ok:nK E) (hcode:cI E.P code) (c:Code):∀ s out,(tS E code c s).get=some out→∀ (g:Gh) (w:World) (a:Act),MR g s.hp w→aB g s.hp.al w s.tmps a.tmps.toList→c.wpIn (Fr ro) 0 E.P (nP g s.hp w a out) a w:=by
 induction c with
 | skip =>
  intro s out he g w a m ht
  simp only [tS,au,A'] at he
  subst he
  exact wpIn_skip ⟨rfl,g,Nx.refl m,ht,rfl⟩
 | region id ops draw =>
  intro s out he g w a m ht
  rw [tS] at he
  have ok':nK { E with kill:=fun _ _=>[] }:=⟨ok.pj,ok.named,ok.pf,ok.call⟩
  refine A6 ok' hcode he m ht ?_
  cases out with
  | norm s'=>exact fun g' w' a' nx hr hd=>⟨rfl,g',nx,hr,hd⟩
  | panic v h'=>exact fun g' w' x a' nx hr hd=>⟨x,g',rfl,nx,hr,hd⟩
  | _=>trivial
 | seq x y ihx ihy =>
  intro s out he g w a m ht
  rw [tS,get_bind,B'] at he
  obtain ⟨r,h1,h2⟩:=he
  refine wpIn_seq (wpIn_mono (ihx _ _ h1 g w a m ht) ?_)
  intro e a1 w1 hp
  cases r with
  | norm s1 =>
   obtain ⟨rfl,g1,nx,hr,hd⟩:=hp
   exact wpIn_mono (ihy s1 out h2 g1 w1 a1 nx.mr hr) fun e a2 w2 hp2=>hp2.nx nx hd
  | ret s1 =>
   simp only [au,A'] at h2
   subst h2
   obtain ⟨rfl,rest⟩:=hp
   exact ⟨rfl,rest⟩
  | exit id s1 =>
   simp only [au,A'] at h2
   subst h2
   obtain ⟨rfl,rest⟩:=hp
   exact ⟨rfl,rest⟩
  | panic v h1 =>
   simp only [au,A'] at h2
   subst h2
   obtain ⟨x,g1,rfl,rest⟩:=hp
   exact ⟨x,g1,rfl,rest⟩
 | cond c x y ihx ihy =>
  intro s out he g w a m ht
  have hc:=aR ht c
  rw [tS] at he
  split at he
  ·rename_i e
   rw [e] at hc
   exact wpIn_cond_true hc.dX (ihx _ _ he g w a m ht)
  ·rename_i e
   rw [e] at hc
   exact wpIn_cond_false hc.dX (ihy _ _ he g w a m ht)
  ·rename_i t e
   rw [e] at hc
   rw [fc] at he
   cases t with
   | true=>exact wpIn_cond_true hc.fK (ihx _ _ he g w a m ht)
   | false=>exact wpIn_cond_false hc.fK (ihy _ _ he g w a m ht)
  ·simp at he
 | block id b ih =>
  intro s out he g w a m ht
  rw [tS,get_bind,B'] at he
  obtain ⟨r,h1,h2⟩:=he
  refine wpIn_block (wpIn_mono (ih _ _ h1 g w a m ht) ?_)
  intro e a1 w1 hp
  cases r with
  | norm s1 =>
   simp only [au,A'] at h2
   subst h2
   obtain ⟨rfl,rest⟩:=hp
   exact ⟨rfl,rest⟩
  | ret s1 =>
   simp only [au,A'] at h2
   subst h2
   obtain ⟨rfl,rest⟩:=hp
   exact ⟨rfl,rest⟩
  | exit j s1 =>
   obtain ⟨rfl,rest⟩:=hp
   simp only at h2
   by_cases hj:j=id
   ·subst hj
    simp at h2
    subst h2
    simp only [Exit.inBlock,if_true]
    exact ⟨rfl,rest⟩
   ·have hne:(j==id)=false:=by simpa using hj
    rw [hne] at h2
    simp at h2
    subst h2
    simp only [Exit.inBlock,hj,if_false]
    exact ⟨rfl,rest⟩
  | panic v h1 =>
   simp only [au,A'] at h2
   subst h2
   obtain ⟨x,g1,rfl,rest⟩:=hp
   exact ⟨x,g1,rfl,rest⟩
 | exit id =>
  intro s out he g w a m ht
  simp only [tS,au,A'] at he
  subst he
  exact wpIn_exit ⟨rfl,g,Nx.refl m,ht,rfl⟩
 | ret =>
  intro s out he g w a m ht
  simp only [tS,au,A'] at he
  subst he
  exact wpIn_ret ⟨rfl,g,Nx.refl m,ht,rfl⟩
 | _=>intro s out he;simp [tS] at he
def iD (g:Gh) (h:Hp) (w:World) (a:Act) (out:Out) (e:Exit) (a':Act) (w':World):Prop :=
 match out with
 | .exit id s'=>if id=G0 then ∃ x v tl g',s'.tmps=v::tl∧e=.panic (gw x)∧Nx g h w g' s'.hp w'∧aP g' s'.hp.al w' v x∧aB g' s'.hp.al w' tl a'.tmps.toList∧a'.defers=a.defers else nP g h w a out e a' w'
 | .panic .. => False
 | _=>nP g h w a out e a' w'
theorem iD.nx {g0:Gh} {h0:Hp} {w0:World} {a0 a a':Act} {out:Out} {e:Exit} (nx:Nx g0 h0 w0 g h w) (hd:a.defers=a0.defers) (hp:iD g h w a out e a' w'):iD g0 h0 w0 a0 out e a' w':=by
 cases out with
 | norm s=>exact nP.nx (out := .norm s) nx hd hp
 | ret s=>exact nP.nx (out := .ret s) nx hd hp
 | panic v h=>exact hp
 | exit id s =>
  simp only [iD] at hp ⊢
  split at hp
  ·rename_i e1
   rw [if_pos e1]
   obtain ⟨x,v,tl,g',h1,h2,h3,h4,h5,h6⟩:=hp
   exact ⟨x,v,tl,g',h1,h2,nx.trans h3,h4,h5,h6.trans hd⟩
  ·rename_i e1
   rw [if_neg e1]
   exact nP.nx nx hd hp
theorem PV (ok:nK E) (hcode:cI E.P code) {ops:Array Oper} {o:Oper} {s:St} {v:AV} {h':Hp} {a:Act} {w:World} {g:Gh} {Q:Exit→Act→World→Prop} (he:fM E code false ops o s=some (.panic v h')) (m:MR g s.hp w) (ht:aB g s.hp.al w s.tmps a.tmps.toList) {i:Nat} (hi:ops[i]?=some o) {K:Act→World→Prop} (hK:∀ g' w' x,Nx g s.hp w g' h' w'→aP g' h'.al w' v x→Q (.panic (gw x)) a w') :
  wpOpIn (Fr ro) 0 E.P ops Q i K a w:=by
 unfold fM at he
 simp only [B'] at he
 obtain ⟨b,hg,he⟩:=he
 unfold wpOpIn
 rw [hi]
 simp only [wE ht hg]
 cases b with
 | true =>
  simp only [B'] at he
  obtain ⟨r,h1,h2⟩:=he
  simp only [if_true]
  refine D3 ok hcode h1 (iR.nil _) m ht ?_
  cases r with
  | val v h'=>simp [eM] at h2
  | pan v h' =>
   simp only [eM,Bool.false_eq_true,if_false,A',Out.panic.injEq] at h2
   obtain ⟨rfl,rfl⟩:=h2
   exact fun g' w' x nx hx=>hK g' w' x nx hx
 | false=>simp at he
theorem wx (ok:nK E) (hcode:cI E.P code) {ops:Array Oper}:∀ (os:List Oper) (is:List Nat) (s:St) (out:Out) (g0:Gh) (h0:Hp) (w0:World) (a0:Act) (g:Gh) (a:Act) (w:World),is.map (ops[·]?)=os.map some→(uY E code ops os s).get=some out→Nx g0 h0 w0 g s.hp w→a.defers=a0.defers→aB g s.hp.al w s.tmps a.tmps.toList→wpOpsIn (Fr ro) 0 E.P ops (iD g0 h0 w0 a0 out) is a w
 | [],is,s,out,g0,h0,w0,a0,g,a,w,hm,he,nx,hd,ht=>by
  cases is with
  | cons=>simp at hm
  | nil =>
   simp only [uY,au,A'] at he
   subst he
   exact ⟨rfl,g,nx,ht,hd⟩
 | o::os,is,s,out,g0,h0,w0,a0,g,a,w,hm,he,nx,hd,ht=>by
  cases is with
  | nil=>simp at hm
  | cons i is =>
   simp only [List.map_cons,List.cons.injEq] at hm
   simp only [uY,get_bind,B'] at he
   obtain ⟨r,h1,h2⟩:=he
   have hst:=fZ _ _ _ _ (iR.nil _) h1
   simp only [eF,B'] at hst
   obtain ⟨q,k1,k2⟩:=hst
   rw [wpOpsIn_cons]
   cases q with
   | norm s' =>
    simp only [A'] at k2
    subst k2
    refine iz ok hcode k1 nx.mr ht hm.1 ?_
    intro g' w' a' nx' ht' hd'
    exact wx ok hcode os is s' out g0 h0 w0 a0 g' a' w' hm.2 h2 (nx.trans nx') (hd'.trans hd) ht'
   | panic v h' =>
    simp only [A'] at k2
    subst k2
    simp only [au,A'] at h2
    subst h2
    refine PV ok hcode k1 nx.mr ht hm.1 ?_
    intro g' w' x nx' hx
    simp only [iD,if_true]
    exact ⟨x,v,s.tmps,g',rfl,rfl,nx.trans nx',hx,ht.mono nx'.le,hd⟩
   | ret s' =>
    simp only [A'] at k2
    subst k2
    simp at h2
   | exit j s' =>
    simp only [A'] at k2
    subst k2
    simp at h2
theorem V0 (ok:nK E) (hcode:cI E.P code) (c:Code):∀ s out,(yn E code c s).get=some out→∀ (g:Gh) (w:World) (a:Act),MR g s.hp w→aB g s.hp.al w s.tmps a.tmps.toList→c.wpIn (Fr ro) 0 E.P (iD g s.hp w a out) a w:=by
 have pass:∀ {g:Gh} {h:Hp} {w:World} {a a1:Act} {w1:World} {e:Exit} {id:Nat} {s1:St},iD g h w a (.exit id s1) e a1 w1→(∃ j,e=.exit j)∨∃ c,e=.panic c:=by
  intro g h w a a1 w1 e id s1 hp
  simp only [iD] at hp
  split at hp
  ·obtain ⟨x,v,tl,g',h1,h2,_⟩:=hp
   exact .inr ⟨_,h2⟩
  ·obtain ⟨h1,_⟩:=hp
   exact .inl ⟨_,h1⟩
 induction c with
 | skip =>
  intro s out he g w a m ht
  simp only [yn,au,A'] at he
  subst he
  exact wpIn_skip ⟨rfl,g,Nx.refl m,ht,rfl⟩
 | region id ops draw =>
  intro s out he g w a m ht
  cases draw with
  | true=>simp [yn] at he
  | false =>
   rw [yn] at he
   exact wpIn_region (wx ok hcode _ _ _ _ g s.hp w a g a w (Hx ops) he (Nx.refl m) rfl ht)
 | seq x y ihx ihy =>
  intro s out he g w a m ht
  rw [yn,get_bind,B'] at he
  obtain ⟨r,h1,h2⟩:=he
  refine wpIn_seq (wpIn_mono (ihx _ _ h1 g w a m ht) ?_)
  intro e a1 w1 hp
  cases r with
  | norm s1 =>
   obtain ⟨rfl,g1,nx,hr,hd⟩:=hp
   exact wpIn_mono (ihy s1 out h2 g1 w1 a1 nx.mr hr) fun e a2 w2 hp2=>hp2.nx nx hd
  | ret s1 =>
   simp only [au,A'] at h2
   subst h2
   obtain ⟨rfl,rest⟩:=hp
   exact ⟨rfl,rest⟩
  | exit id s1 =>
   simp only [au,A'] at h2
   subst h2
   rcases pass hp with ⟨j,rfl⟩ | ⟨c,rfl⟩<;>exact hp
  | panic v h1=>exact hp.elim
 | cond c x y ihx ihy =>
  intro s out he g w a m ht
  have hc:=aR ht c
  rw [yn] at he
  split at he
  ·rename_i e
   rw [e] at hc
   exact wpIn_cond_true hc.dX (ihx _ _ he g w a m ht)
  ·rename_i e
   rw [e] at hc
   exact wpIn_cond_false hc.dX (ihy _ _ he g w a m ht)
  ·rename_i t e
   rw [e] at hc
   rw [fc] at he
   cases t with
   | true=>exact wpIn_cond_true hc.fK (ihx _ _ he g w a m ht)
   | false=>exact wpIn_cond_false hc.fK (ihy _ _ he g w a m ht)
  ·simp at he
 | block id b ih =>
  intro s out he g w a m ht
  rw [yn,get_bind,B'] at he
  obtain ⟨r,h1,h2⟩:=he
  refine wpIn_block (wpIn_mono (ih _ _ h1 g w a m ht) ?_)
  intro e a1 w1 hp
  cases r with
  | norm s1 =>
   simp only [au,A'] at h2
   subst h2
   obtain ⟨rfl,rest⟩:=hp
   exact ⟨rfl,rest⟩
  | ret s1 =>
   simp only [au,A'] at h2
   subst h2
   obtain ⟨rfl,rest⟩:=hp
   exact ⟨rfl,rest⟩
  | exit j s1 =>
   simp only at h2
   by_cases hjp:j=G0
   ·subst hjp
    simp only [beq_self_eq_true,if_true,au,A'] at h2
    subst h2
    simp only [iD,if_true] at hp
    obtain ⟨x,v,tl,g',e1,rfl,rest⟩:=hp
    simp only [Exit.inBlock,iD,if_true]
    exact ⟨x,v,tl,g',e1,rfl,rest⟩
   ·have hne:(j==G0)=false:=by simpa using hjp
    rw [hne] at h2
    simp only [Bool.false_eq_true,if_false] at h2
    simp only [iD,if_neg hjp] at hp
    obtain ⟨rfl,rest⟩:=hp
    by_cases hj:j=id
    ·subst hj
     simp only [beq_self_eq_true,if_true,au,A'] at h2
     subst h2
     simp only [Exit.inBlock,if_true]
     exact ⟨rfl,rest⟩
    ·have hne:(j==id)=false:=by simpa using hj
     rw [hne] at h2
     simp only [Bool.false_eq_true,if_false,au,A'] at h2
     subst h2
     simp only [Exit.inBlock,hj,if_false,iD,if_neg hjp]
     exact ⟨rfl,rest⟩
  | panic v h1=>exact hp.elim
 | exit id =>
  intro s out he g w a m ht
  simp only [yn] at he
  by_cases hid:id=G0
  ·subst hid;simp at he
  ·have hne:(id==G0)=false:=by simpa using hid
   rw [hne] at he
   simp only [Bool.false_eq_true,if_false,au,A'] at he
   subst he
   refine wpIn_exit ?_
   simp only [iD,if_neg hid]
   exact ⟨rfl,g,Nx.refl m,ht,rfl⟩
 | ret =>
  intro s out he g w a m ht
  simp only [yn,au,A'] at he
  subst he
  exact wpIn_ret ⟨rfl,g,Nx.refl m,ht,rfl⟩
 | _=>intro s out he;simp [yn] at he
theorem xq {ops:Array Oper} {u:Nat} (h:oo ops=some u):∃ o cc,ops.toList.getLast?=some o∧o.op=.defer cc∧o.guard=none∧o.dst=none∧cc.callee=.value (.tmp u)∧cc.args=#[]:=by
 unfold oo at h
 split at h
 ·rename_i o ho
  split at h
  ·rename_i cc e1 e2 e3
   split at h
   ·rename_i u1 e4
    split at h
    ·rename_i e5
     simp only [A'] at h
     subst h
     exact ⟨o,cc,ho,e1,e2,e3,e4,Array.eq_empty_of_size_eq_zero e5⟩
    ·cases h
   ·cases h
  ·cases h
 ·cases h
theorem BZ {l l':List AV} {os:List Oper} (h:DX l os=some l'):(os=[]∧l'=l)∨∃ p x,os=[p]∧p.op=.assign x∧p.guard=none∧l'=bE l p.dst (aJ l x):=by
 unfold DX at h
 split at h
 ·simp only [A'] at h
  exact .inl ⟨rfl,h.symm⟩
 ·rename_i p
  split at h
  ·rename_i x e1 e2
   simp only [A'] at h
   exact .inr ⟨p,x,rfl,e1,e2,h.symm⟩
  ·cases h
 ·cases h
theorem zm {fd:Nat} {cv:List AV} {rv:AV} {h h':Hp} (he:(mg E code fd cv rv h).get=some h'):∃ fn id o os cc rest t l s,E.P.funcs[fd]?=some fn∧fn.body=some (.seq (.region id (o::os).toArray false) rest)∧o.op=.call cc∧o.guard=none∧o.dst=some t∧cc.callee=.builtin .recover∧cc.args=#[]∧fn.results=#[] ∧
  DX ((cv++List.replicate (fn.ntmps-cv.length) AV.undef).set t rv) os=some l∧((tS E code rest ⟨l,h⟩).get=some (.norm s)∨(tS E code rest ⟨l,h⟩).get=some (.ret s))∧s.hp=h':=by
 unfold mg at he
 split at he
 ·rename_i fn hf
  split at he
  ·rename_i id ops rest hb
   split at he
   ·rename_i o os ho
    split at he
    ·rename_i cc t e1 e2 e3
     split at he
     ·rename_i e4
      split at he
      ·rename_i e5
       split at he
       ·rename_i l hl
        simp only [get_bind,B'] at he
        obtain ⟨out,h1,h2⟩:=he
        have hops:ops=(o::os).toArray:=by apply Array.toList_inj.1;simpa using ho
        subst hops
        cases out with
        | norm s =>
         simp only [au,A'] at h2
         exact ⟨fn,id,o,os,cc,rest,t,l,s,hf,hb,e1,e2,e3,e4,Array.eq_empty_of_size_eq_zero e5.1,Array.eq_empty_of_size_eq_zero e5.2,hl,.inl h1,h2⟩
        | ret s =>
         simp only [au,A'] at h2
         exact ⟨fn,id,o,os,cc,rest,t,l,s,hf,hb,e1,e2,e3,e4,Array.eq_empty_of_size_eq_zero e5.1,Array.eq_empty_of_size_eq_zero e5.2,hl,.inr h1,h2⟩
        | exit id s=>simp at h2
        | panic v h=>simp at h2
       ·simp at he
      ·simp at he
     ·simp at he
    ·simp at he
   ·simp at he
  ·simp at he
 ·simp at he
theorem Ep (ok:nK E) (hcode:cI E.P code) {fd:Nat} {cv:List AV} {rv:AV} {h h':Hp} (he:(mg E code fd cv rv h).get=some h') {g:Gh} {w:World} {ys:Array Value} (m:MR g h w) (hr:aB g h.al w cv ys.toList) {fn:Func} {tmps:Array Value} {R:Ending→World→Prop}
  {u u2:FrameMode} (hun:u≠.run) (hu2:settle u2=.returning) {xv:Value} (hx:aP g h.al w rv xv) (hrc:∀ (c₀:Frame) (cs:List Frame),c₀.mode=u→(recoverD (c₀::cs)=none∧xv=.nilIface∧u2=u)∨recoverD (c₀::cs)=some (xv,{ c₀ with mode:=u2 }::cs))
  (hR:∀ g' w',Nx g h w g' h' w'→LeavesInM Fence.wide 0 E.P fn tmps R [] .returning w'):LeavesInM Fence.wide 0 E.P fn tmps R [{ target := .fn (.func fd) ys,args := #[] }] u w:=by
 obtain ⟨fnd,id,o,os,cc,rest,t,l,s,hf,hb,e1,e2,e3,e4,e5,e6,hl,h1,rfl⟩:=zm he
 have hinv:(invoke (.fn (.func fd) ys) #[]).run E.P w=.ok (.enter fd (#[]++ys)) w:=kb hf (by rw [hb];rfl) (ok.named _ _ hf (by rw [hb];rfl))
 refine ⟨hun,.inr ⟨fun hx=>by simp [Fence.wide] at hx,.func fd,ys,fd,#[]++ys,rfl,hinv,fun _ _=>trivial,?_⟩⟩
 refine callsDIn_of_wpSIn hf hb trivial fun c₀ cs hu=>?_
 refine wpSIn_seq (wpSIn_region ?_)
 obtain ⟨cs2,hcs2,hrec⟩:∃ cs2,cs2={ c₀ with mode:=u2 }::cs∧((recoverD (c₀::cs)=none∧xv=.nilIface∧cs2=c₀::cs)∨recoverD (c₀::cs)=some (xv,cs2)):=by
  rcases hrc c₀ cs hu with ⟨q1,q2,q3⟩ | q
  ·exact ⟨_,rfl,.inl ⟨q1,q2,by rw [q3,← hu]⟩⟩
  ·exact ⟨_,rfl,.inr q⟩
 have hex:∀ ρ:Operand→Value,(execOp ρ o).run E.P w=.ok .recover w:=fun ρ=>by
  simp only [execOp,e1,resolve,e4,e5]
  rfl
 have hw:∀ y,Region.wanted o y=true:=fun y=>by unfold Region.wanted;rw [e2]
 have htm:aB g h.al w (cv++List.replicate (fnd.ntmps-cv.length) .undef) ((#[]++ys)++Array.replicate (fnd.ntmps-(#[]++ys).size) undef).toList:=by
  rw [Array.toList_append,Array.toList_replicate,Array.empty_append]
  have hl:cv.length=ys.size:=by rw [hr.length];simp
  rw [hl]
  exact hr.append (aB.kW _)
 have hput:=rZ (a:=(⟨(#[]++ys)++Array.replicate (fnd.ntmps-(#[]++ys).size) undef,[]⟩:Act)) htm hx (some t)
 have key:∀ (A:Act),A.defers=[]→aB g h.al w l A.tmps.toList→∀ out,(tS E code rest ⟨l,h⟩).get=some out→(out=.norm s∨out=.ret s)→rest.wpSIn Fence.wide 0 E.P (bodyPostS E.P fnd c₀ cs fun
    | .returned _,u',w'=>LeavesInM Fence.wide 0 E.P fn tmps R [] (settle u') w'
    | .panicked chain,u',w'=>LeavesInM Fence.wide 0 E.P fn tmps R [] (raised u' chain) w'
    | .outgrown,_,w'=>R .outgrown w') A cs2 w:=by
  intro A hA hput out ho hout
  refine wpSIn_of_wpIn rfl (wpIn_mono (Hg (ro:=none) ok hcode rest _ _ ho g w _ m hput) ?_)
  have fin:∀ (g':Gh) (a':Act) (w':World),Nx g h w g' s.hp w'→aB g' s.hp.al w' s.tmps a'.tmps.toList→a'.defers=[]→∀ e:Exit,(e=.normal∨e=.ret)→bodyPostS E.P fnd c₀ cs (fun
    | .returned _,u',w'=>LeavesInM Fence.wide 0 E.P fn tmps R [] (settle u') w'
    | .panicked chain,u',w'=>LeavesInM Fence.wide 0 E.P fn tmps R [] (raised u' chain) w'
    | .outgrown,_,w'=>R .outgrown w') e a' cs2 w':=by
   intro g' a' w' nx hrt hd e hee
   obtain ⟨v,v1,_⟩:=mo (fn:=fnd) (l:=[]) nx.mr hrt (by rw [e6];rfl)
   have hl:=hR g' w' nx
   rw [← hu2] at hl
   rcases hee with rfl | rfl
   ·exact ⟨hd,u2,hcs2,v,v1,hl⟩
   ·exact ⟨hd,u2,hcs2,v,v1,hl⟩
  intro e a' w' hp
  rcases hout with rfl | rfl
  ·obtain ⟨rfl,g',nx,hrt,hd⟩:=hp
   exact fin g' a' w' nx hrt (hd.trans hA) _ (.inl rfl)
  ·obtain ⟨rfl,g',nx,hrt,hd⟩:=hp
   exact fin g' a' w' nx hrt (hd.trans hA) _ (.inr rfl)
 have fin2:∀ (A:Act),A.defers=[]→aB g h.al w l A.tmps.toList→rest.wpSIn Fence.wide 0 E.P (bodyPostS E.P fnd c₀ cs fun
    | .returned _,u',w'=>LeavesInM Fence.wide 0 E.P fn tmps R [] (settle u') w'
    | .panicked chain,u',w'=>LeavesInM Fence.wide 0 E.P fn tmps R [] (raised u' chain) w'
    | .outgrown,_,w'=>R .outgrown w') A cs2 w:=by
  intro A hA hA2
  rcases h1 with h1 | h1
  ·exact key A hA hA2 _ h1 (.inl rfl)
  ·exact key A hA hA2 _ h1 (.inr rfl)
 rcases BZ hl with ⟨rfl,rfl⟩ | ⟨p,x,rfl,p1,p2,rfl⟩
 ·have fin3:=fin2 _ (by rfl) hput
  rcases hrec with ⟨hrec,q2,q3⟩ | hrec
  ·rw [q2,q3] at fin3
   show wpOpsSIn Fence.wide 0 E.P #[o] _ [0] _ _ w
   simp only [wpOpsSIn,List.getElem?_toArray,List.getElem?_cons_zero,hw,if_true,hex,hrec]
   refine ⟨fun _ _=>trivial,?_⟩
   rw [e3]
   exact fin3
  ·show wpOpsSIn Fence.wide 0 E.P #[o] _ [0] _ _ w
   simp only [wpOpsSIn,List.getElem?_toArray,List.getElem?_cons_zero,hw,if_true,hex,hrec]
   refine ⟨fun _ _=>trivial,?_⟩
   rw [e3]
   exact fin3
 ·have fin3:=fin2 _ (by cases p.dst<;>rfl) (rZ hput (aR hput x) p.dst)
  have hw2:∀ y,Region.wanted p y=true:=fun y=>by unfold Region.wanted;rw [p2]
  have hex2:∀ ρ:Operand→Value,(execOp ρ p).run E.P w=.ok (.value (ρ x)) w:=fun ρ=>by
   simp only [execOp,p1]
   rfl
  rcases hrec with ⟨hrec,q2,q3⟩ | hrec
  ·rw [q2,q3] at fin3
   rw [q2] at hput
   show wpOpsSIn Fence.wide 0 E.P #[o,p] _ [0,1] _ _ w
   simp only [wpOpsSIn,List.getElem?_toArray,List.getElem?_cons_zero,List.getElem?_cons_succ,hw,hw2,if_true,hex,hex2,hrec]
   refine ⟨fun _ _=>trivial,fun _ _=>trivial,?_⟩
   rw [e3]
   exact fin3
  ·show wpOpsSIn Fence.wide 0 E.P #[o,p] _ [0,1] _ _ w
   simp only [wpOpsSIn,List.getElem?_toArray,List.getElem?_cons_zero,List.getElem?_cons_succ,hw,hw2,if_true,hex,hex2,hrec]
   refine ⟨fun _ _=>trivial,fun _ _=>trivial,?_⟩
   rw [e3]
   exact fin3
theorem Ol (ok:nK E) (hcode:cI E.P code) (hloop:pL E.P E.loop) {f:Nat} {fn:Func} {rest:Code} {id:Nat} {ops:Array Oper} {u:Nat} (hc:oo ops=some u) {s:St} {res:bY} (he:(Cq E code f fn ops u rest s).get=some res)
  {g:Gh} {w:World} {a:Act} (m:MR g s.hp w) (ht:aB g s.hp.al w s.tmps a.tmps.toList) (hd1:a.defers=[]) {g0:Gh} {h0:Hp} {w0:World} (nx0:Nx g0 h0 w0 g s.hp w):(Code.seq (.region id ops false) rest).wpIn Fence.wide 0 E.P (bodyPostM Fence.wide 0 E.P fn (qJ g0 h0 w0 res)) a w:=by
 obtain ⟨o,cc,hlast,o1,o2,o3,o4,o5⟩:=xq hc
 unfold Cq at he
 simp only [get_bind,B'] at he
 obtain ⟨r2,h2,he⟩:=he
 have hr2:∃ s2,r2=.norm s2:=by
  cases r2 with
  | norm s=>exact ⟨s,rfl⟩
  | panic v h=>simp at he
  | ret s=>simp at he
  | exit i s=>simp at he
 obtain ⟨s2,rfl⟩:=hr2
 simp only at he
 split at he
 case h_2=>simp at he
 rename_i fd cv hu
 simp only [get_bind,B'] at he
 obtain ⟨r3,h3,he⟩:=he
 have hr3:(∃ s3 h4,(r3=.norm s3∨r3=.ret s3)∧(mg E code fd cv .niliface s3.hp).get=some h4∧(finish E.P fn ⟨s3.tmps,h4⟩).get=some res) ∨
   ∃ t v tl h3 h4,(yn E code rest s2).get=some (.exit G0 ⟨.iface t v::tl,h3⟩)∧(mg E code fd cv (.iface t v) h3).get=some h4∧(finish E.P fn ⟨tl,h4⟩).get=some res:=by
  cases r3 with
  | norm s =>
   simp only [get_bind,B'] at he
   obtain ⟨h4,q1,q2⟩:=he
   exact .inl ⟨s,h4,.inl rfl,q1,q2⟩
  | ret s =>
   simp only [get_bind,B'] at he
   obtain ⟨h4,q1,q2⟩:=he
   exact .inl ⟨s,h4,.inr rfl,q1,q2⟩
  | panic v h =>
   simp only [get_bind,B'] at he
   obtain ⟨q,q1,q2⟩:=he
   split at q2
   ·rename_i j t v tl h3
    by_cases hj:j=G0
    ·subst hj
     simp only [beq_self_eq_true,if_true,get_bind,B'] at q2
     obtain ⟨h4,q3,q4⟩:=q2
     exact .inr ⟨t,v,tl,h3,h4,q1,q3,q4⟩
    ·have hne:(j==G0)=false:=by simpa using hj
     rw [hne] at q2
     simp at q2
   ·simp at q2
  | exit i s=>simp at he
 refine wpIn_seq (wpIn_region ?_)
 have hsz:ops.size≠0:=fun h0=>by
  have:ops.toList=[]:=by apply List.eq_nil_of_length_eq_zero;simpa using h0
  rw [this] at hlast;cases hlast
 obtain ⟨k,hk⟩:=Nat.exists_eq_succ_of_ne_zero hsz
 have hids:=Hx ops
 have hdl:ops.toList=ops.toList.dropLast++[o]:=by
  obtain ⟨l0,e0⟩:=List.getLast?_eq_some_iff.1 hlast
  rw [e0,List.dropLast_concat]
 rw [hk,Nat.succ_eq_add_one,List.range_succ,List.map_append,hdl,List.map_append] at hids
 have hlen:((List.range k).map (ops[·]?)).length=(ops.toList.dropLast.map some).length:=by simp;omega
 obtain ⟨hm1,hm2⟩:=List.append_inj hids hlen
 simp only [List.map_cons,List.map_nil,List.cons.injEq,and_true] at hm2
 rw [hk,Nat.succ_eq_add_one,List.range_succ]
 refine Bq ok hcode (ro:=none) _ _ _ _ g a w hm1 (fZ _ _ _ _ (iR.nil _) h2) m ht ?_
 intro g2 w2 a2 nx2 ht2 hd2
 have hfv:∃ ys,a2.eval (.tmp u)=.func (.func fd) #[] ys∧aB g2 s2.hp.al w2 cv ys.toList:=by
  have:=aR ht2 (.tmp u)
  rw [show aJ s2.tmps (.tmp u)=.func fd [] cv from hu] at this
  generalize a2.eval (.tmp u)=z at this
  cases this with
  | @func _ _ _ x y q1 q2 =>
   have hx:x=#[]:=by
    apply Array.toList_inj.1
    cases hxl:x.toList with
    | nil=>rfl
    | cons=>rw [hxl] at q1;cases q1
   exact ⟨y,by rw [hx],q2⟩
 obtain ⟨ys,hys,hry⟩:=hfv
 have hex:(execOp a2.eval o).run E.P w2=.ok (.defer { target := .fn (.func fd) ys,args := #[] }) w2:=by
  simp only [execOp,o1,resolve,o4,o5,hys,Deferred.ofValue,Sem.run_bind,Sem.run_pure,Result.andThen_ok,Array.map_empty,Array.append_empty]
 rw [wpOpsIn_cons]
 unfold wpOpIn
 rw [hm2]
 have hw:∀ y,Region.wanted o y=true:=fun y=>by unfold Region.wanted;rw [o2]
 simp only [hw,if_true]
 refine ⟨fun _ _=>trivial,?_⟩
 rw [show (Fr none).round=none from rfl,Oper.semAt_none,hex,Oper.uponIn_defer,o3]
 have hde:a2.defers=[]:=hd2.trans hd1
 show rest.wpIn Fence.wide 0 E.P _ { a2 with defers:={ target := .fn (.func fd) ys,args := #[] }::a2.defers } w2
 rw [hde]
 have hrun:∀ (g5:Gh) (w5:World) (h4:Hp) (tl:List AV) (tm:Array Value),(finish E.P fn ⟨tl,h4⟩).get=some res→Nx g s.hp w g5 h4 w5→aB g5 h4.al w5 tl tm.toList→LeavesInM Fence.wide 0 E.P fn tm (qJ g0 h0 w0 res) [] .returning w5:=by
  intro g5 w5 h4 tl tm hfin nx5 hr5
  unfold finish at hfin
  split at hfin
  ·rename_i l hl
   simp only [au,A'] at hfin
   subst hfin
   obtain ⟨v,e1,e2⟩:=mo (fn:=fn) (a:=⟨tm,[]⟩) nx5.mr hr5 hl
   exact ⟨v,e1,g5,v,rfl,nx0.trans nx5,e2⟩
  ·simp at hfin
 rcases hr3 with ⟨s3,h4,hout,hl4,hfin⟩ | ⟨t,v,tl,h3',h4,hp3,hl4,hfin⟩
 ·have spec:=nu ok hcode hloop f rest _ _ h3 none g2 w2 { a2 with defers:=[{ target := .fn (.func fd) ys,args := #[] }] } (w.heap.size,[{ target := .fn (.func fd) ys,args := #[] }]) nx2.mr ht2 ⟨[],rfl,fun d hd=>absurd hd (by simp),List.Pairwise.nil⟩ nx2.le.below.size (fun c hc=>by cases hc)
  refine wpIn_mono spec ?_
  intro e a3 w3 hp
  have good:∀ (g3:Gh),Nx g2 s2.hp w2 g3 s3.hp w3→aB g3 s3.hp.al w3 s3.tmps a3.tmps.toList→Marks g3 (w.heap.size,[{ target := .fn (.func fd) ys,args := #[] }]) a3.defers→LeavesInM Fence.wide 0 E.P fn a3.tmps (qJ g0 h0 w0 res) a3.defers .returning w3:=by
   intro g3 nx3 ht3 mk3
   refine sJ m (by simp) g3 s3.hp s3.tmps _ (nx2.trans nx3) ht3 mk3 ?_
   intro g4 w4 nx4 lw4
   refine Ep ok hcode hl4 nx4.mr ((hry.mono nx3.le).bG lw4) (by simp) (u2 := .returning) rfl .niliface (fun c₀ cs hu=>.inl ⟨by simp [recoverD,hu],rfl,rfl⟩) ?_
   intro g5 w5 nx5
   exact hrun g5 w5 h4 s3.tmps a3.tmps hfin (nx4.trans nx5) ((ht3.bG lw4).mono nx5.le)
  rcases hout with rfl | rfl
  ·obtain ⟨rfl,g3,nx3,ht3,mk3⟩:=hp
   exact good g3 nx3 ht3 mk3
  ·obtain ⟨rfl,g3,nx3,ht3,mk3⟩:=hp
   exact good g3 nx3 ht3 mk3
 ·refine wpIn_mono (V0 (ro:=none) ok hcode rest _ _ hp3 g2 w2 { a2 with defers:=[{ target := .fn (.func fd) ys,args := #[] }] } nx2.mr ht2) ?_
  intro e a3 w3 hp
  simp only [iD,if_true] at hp
  obtain ⟨x,v',tl',g3,q1,rfl,nx3,hx3,ht3,hd3⟩:=hp
  simp only [List.cons.injEq] at q1
  obtain ⟨rfl,rfl⟩:=q1
  show LeavesInM Fence.wide 0 E.P fn a3.tmps (qJ g0 h0 w0 res) a3.defers (.panicking (gw x)) w3
  rw [hd3]
  refine Ep ok hcode hl4 nx3.mr (hry.mono nx3.le) (by simp) (u2 := .panicking [{ v:=x,recovered:=true }]) rfl hx3 (fun c₀ cs hu=>.inr (by simp [recoverD,hu,gw])) ?_
  intro g5 w5 nx5
  exact hrun g5 w5 h4 tl a3.tmps hfin ((nx2.trans nx3).trans nx5) (ht3.mono nx5.le)
theorem IL (ok:nK E) (hcode:cI E.P code) (hloop:pL E.P E.loop) {f:Nat} {fn:Func} {g0:Gh} {h0:Hp} {w0:World} {res:bY}:∀ (c:Code) {s:St} {g:Gh} {w:World} {a:Act},(kx E code f fn c s).get=some res →
  MR g s.hp w→aB g s.hp.al w s.tmps a.tmps.toList→a.defers=[]→Nx g0 h0 w0 g s.hp w→c.wpIn Fence.wide 0 E.P (bodyPostM Fence.wide 0 E.P fn (qJ g0 h0 w0 res)) a w:=by
 intro c
 induction c with
 | seq x b _ ih =>
  intro s g w a he m ht hd nx0
  have step:((tS E code x s).bind fun
    | .norm s1=>kx E code f fn b s1
    | _=>.fail).get=some res→(Code.seq x b).wpIn Fence.wide 0 E.P (bodyPostM Fence.wide 0 E.P fn (qJ g0 h0 w0 res)) a w:=by
   intro he
   simp only [get_bind,B'] at he
   obtain ⟨r,h1,h2⟩:=he
   refine wpIn_seq (wpIn_mono (Hg (ro:=none) ok hcode x _ _ h1 g w _ m ht) ?_)
   intro e a1 w1 hp
   cases r with
   | norm s1 =>
    obtain ⟨rfl,g1,nx1,ht1,hd1⟩:=hp
    exact ih h2 nx1.mr ht1 (hd1.trans hd) (nx0.trans nx1)
   | _=>simp at h2
  unfold kx at he
  split at he
  ·rename_i id ops b' s' heq
   simp only [Code.seq.injEq] at heq
   obtain ⟨rfl,rfl⟩:=heq
   split at he
   ·rename_i u hu
    exact Ol ok hcode hloop hu he m ht hd nx0
   ·exact step he
  ·rename_i heq
   simp only [Code.seq.injEq] at heq
   obtain ⟨rfl,rfl⟩:=heq
   exact step he
  ·simp at he
 | _=>intro s g w a he;simp [kx] at he
theorem NX (ok:nK E) (hcode:cI E.P code) (hloop:pL E.P E.loop) {f:Nat} {args:List AV} {h:Hp} {res:bY} (he:(Co E code f args h).get=some res):du E.P f args h res∧∃ fn,E.P.funcs[f]?=some fn∧fn.body.isSome=true:=by
 unfold Co at he
 split at he
 ·simp at he
 ·rename_i fn hf
  split at he
  ·simp at he
  ·rename_i c hb
   refine ⟨?_,fn,hf,by rw [hb];rfl⟩
   intro g w cd m hr
   refine callsIn_of_wp_marks hf hb trivial ?_
   have htm:aB g h.al w (args++List.replicate (fn.ntmps-args.length) .undef) (cd++Array.replicate (fn.ntmps-cd.size) undef).toList:=by
    rw [Array.toList_append,Array.toList_replicate]
    have hl:args.length=cd.size:=by rw [hr.length];simp
    rw [hl]
    exact hr.append (aB.kW _)
   split at he
   ·exact IL ok hcode hloop c he m htm rfl (Nx.refl m)
   simp only [get_bind,B'] at he
   obtain ⟨out,h1,h2⟩:=he
   have spec:=nu ok hcode hloop f c _ _ h1 none g w ⟨cd++Array.replicate (fn.ntmps-cd.size) undef,[]⟩ (w.heap.size,[]) m htm ⟨[],rfl,fun d hd=>absurd hd (by simp),List.Pairwise.nil⟩ (Nat.le_refl _) (fun c hc=>by cases hc)
   refine wpIn_mono spec ?_
   intro e a1 w1 hp
   have good:∀ (s1:St) (g1:Gh),Nx g h w g1 s1.hp w1→aB g1 s1.hp.al w1 s1.tmps a1.tmps.toList→Marks g1 (w.heap.size,[]) a1.defers→(finish E.P fn s1).get=some res→LeavesInM Fence.wide 0 E.P fn a1.tmps (qJ g h w res) a1.defers .returning w1:=by
    intro s1 g1 nx hr1 mk1 hfin
    unfold finish at hfin
    split at hfin
    ·rename_i l hl
     simp only [au,A'] at hfin
     subst hfin
     refine sJ m (by simp) g1 s1.hp s1.tmps _ nx hr1 mk1 ?_
     intro g2 w2 nx2 lw
     obtain ⟨v,e1,e2⟩:=mo (fn:=fn) nx2.mr (hr1.bG lw) hl
     exact ⟨v,e1,g2,v,rfl,nx2,e2⟩
    ·simp at hfin
   cases out with
   | norm s1 =>
    obtain ⟨rfl,g1,nx,hr1,mk1⟩:=hp
    exact good s1 g1 nx hr1 mk1 h2
   | ret s1 =>
    obtain ⟨rfl,g1,nx,hr1,mk1⟩:=hp
    exact good s1 g1 nx hr1 mk1 h2
   | exit id s1=>simp at h2
   | panic v h' =>
    simp only [au,A'] at h2
    subst h2
    obtain ⟨x,g1,rfl,nx,hx,mk1⟩:=hp
    refine sJ (u := .panicking (gw x)) m (by simp) g1 h' (a1.tmps.toList.map fun _=>.any) _ nx ?_ mk1 ?_
    ·have:=aB.map (g:=g1) (tk:=h'.al) (w:=w1) a1.tmps.toList (fun _=>AV.any) id (fun x _=>.any x)
     simpa using this
    ·intro g2 w2 nx2 lw
     exact ⟨g2,x,rfl,nx2,hx.bG lw⟩
structure aW (B:aw):Prop where
 pj:∀ fn b F s out,B.pj fn b=some F→(F s).get=some out→ay B.P b s out
 FY:∀ f F args h res,B.FY f=some F→(F args h).get=some res→du B.P f args h res∧∃ fn,B.P.funcs[f]?=some fn∧fn.body.isSome=true
 named : ∀ (f : Nat) (fn : Func), B.P.funcs[f]? = some fn → fn.body.isSome = true → (fn.name == "runtime.NumGoroutine") = false
 pf:∀ f as1 v,B.pf f=true→(B.G f as1).get=some v→cF B.P f as1 v∧∃ fn,B.P.funcs[f]?=some fn∧fn.body.isSome=true
theorem vN {B:aw} (hB:aW B):∀ n:Nat,
  (∀ f args h res,(O2 B n f args h).get=some res→du B.P f args h res∧∃ fn,B.P.funcs[f]?=some fn∧fn.body.isSome=true)∧cI B.P (Bz B n)∧pL B.P (Bz B n)
 | 0=>⟨fun f args h res he=>by simp [O2] at he,fun fn c s out he=>by simp [Bz] at he,fun fn c s out he=>by simp [Bz] at he⟩
 | n+1=>by
  obtain ⟨i1,i2,i3⟩:=vN hB n
  have ok:nK { B with call:=O2 B n,loop:=Bz B n }:=⟨hB.pj,hB.named,hB.pf,i1⟩
  refine ⟨fun f args h res he=>?_,fun fn c s out he=>?_,fun fn c s out he=>?_⟩
  ·rw [O2] at he
   split at he
   ·rename_i F hF
    exact hB.FY f F args h res hF he
   ·exact NX ok i2 i3 he
  ·rw [Bz] at he
   exact nu ok i2 i3 fn c s out he
  ·rw [Bz] at he
   exact AY ok i3 (fun s out=>nu ok i2 i3 fn c s out) he
theorem qf {B:aw} (hB:aW B) {n f:Nat} {args:List AV} {v:AV} (he:(db B n f args).get=some v):cF B.P f args v∧∃ fn,B.P.funcs[f]?=some fn∧fn.body.isSome=true:=by
 unfold db at he
 simp only [get_bind,B'] at he
 obtain ⟨r,h1,h2⟩:=he
 obtain ⟨hspec,hfn⟩:=(vN hB n).1 _ _ _ _ h1
 refine ⟨?_,hfn⟩
 intro w cd hglob hr
 have m0:MR (jV w) u7 w:=by
  refine ⟨Nat.le_refl _,fun _ _ x=>x,rfl,fun _ _ _ x _=>by simp [jV] at x,fun _ _ _ x=>by simp [jV] at x,rfl,fun _ x=>by simp [jV] at x,fun _ _ _ _ x=>by simp [jV] at x,fun _ _ _ _ _ _ _ x=>by simp [jV] at x,rfl,fun _ _ _ x=>by simp [jV] at x,fun _ _ _ x=>by simp [jV] at x,fun _ x=>by simp [jV] at x,hglob⟩
 refine (hspec (jV w) w cd m0 hr).mono ?_
 intro e w' hp
 split at h2
 ·rename_i v0 h'
  split at h2
  ·rename_i hc
   simp only [E'] at hc
   simp only [au,A'] at h2
   subst h2
   obtain ⟨g',x,rfl,nx,hx⟩:=hp
   exact ⟨x,rfl,nx.le.below,Nf nx.mr.fJ nx.le.base hc.1 hc.2 hx⟩
  ·simp at h2
 ·simp at h2
end
structure D (α:Type) where
 arg:α→AV
 res:α→AV
 dec:AV→Option α
 ok:∀ a x,dec a=some x→∀ (g:Gh) (tk:List Nat) (w:World) (c:Value),aP g tk w a c→aP g tk w (arg x) c
 y9:∀ a x,dec a=some x→bz a=true→∀ (g:Gh) (w:World) (c:Value),aP g [] w a c→aP g [] w (res x) c
noncomputable section
variable {g:Gh} {tk:List Nat} {w:World}
theorem DO {k:IntKind} {a:AV} {n:Int} (h:(if kindOk k a then pw a else none)=some n) {c:Value} (hr:aP g tk w a c):aP g tk w (.int k n) c:=by
 simp only [Option.ite_none_right_eq_some] at h
 rw [fG h.1 h.2 hr]
 exact .int _ _
def dI (k:IntKind):D Int where
 arg := .int k
 res := .int k
 dec a:=if kindOk k a then pw a else none
 ok _ _ h _ _ _ _ hr:=DO h hr
 y9 _ _ h _ _ _ _ hr:=DO h hr
def dB:D Bool where
 arg := .bool
 res := .bool
 dec:=yE
 ok _ _ h _ _ _ _ hr:=by rw [rS h hr];exact .bool _
 y9 _ _ h _ _ _ _ hr:=by rw [rS h hr];exact .bool _
theorem HV {a:AV} {x:BitVec 64} (h:Y4 a=some x):a=.u64 x:=by cases a<;>simp [Y4] at h;rw [h]
def dU:D (BitVec 64) where
 arg := .u64
 res := .u64
 dec:=Y4
 ok _ _ h _ _ _ _ hr:=by rw [HV h] at hr;exact hr
 y9 _ _ h _ _ _ _ hr:=by rw [HV h] at hr;exact hr
theorem ya {v:AV} {m:AV} (hm:m=.agg (bx m)) (hv:v=.agg (bx v)) (h:∀ cs,ax g tk w (bx v) cs→ax g tk w (bx m) cs) {c:Value} (hr:aP g tk w v c):aP g tk w m c:=by
 rw [hv] at hr
 obtain ⟨cs,rfl,hc⟩:=hr.e7
 rw [hm]
 exact .agg (h _ hc)
theorem Ez {v:AV} {m:Mv} (h:FQ v=some m):v=.agg (bx v):=by
 unfold FQ at h
 split at h
 ·rfl
 ·cases h
theorem zq {v:AV} {m:Pos} (h:toPos v=some m):v=.agg (bx v):=by
 unfold toPos at h
 split at h
 ·rfl
 ·cases h
def va:D Mv where
 arg:=Mv.av
 res:=Mv.av
 dec:=FQ
 ok _ _ h _ _ _ _ hr:=ya rfl (Ez h) (fun _ hc=>(uk h hc).1) hr
 y9 _ _ h _ _ _ _ hr:=ya rfl (Ez h) (fun _ hc=>(uk h hc).1) hr
def aY:D Pos where
 arg:=Pos.av
 res:=Pos.av
 dec:=toPos
 ok _ _ h _ _ _ _ hr:=ya rfl (zq h) (fun _ hc=>(pM h hc).1) hr
 y9 _ _ h _ _ _ _ hr:=ya rfl (zq h) (fun _ hc=>(pM h hc).1) hr
theorem Kt {e:ET} {a:AV} {xs:List e.T} (h:e8 e a=some xs) {c:Value} (hr:aP g tk w a c):aP g tk w (.list e xs .arg) c:=by
 unfold e8 at h
 split at h
 ·rename_i e' l t
  split at h
  ·rename_i he
   subst he
   simp only [A'] at h
   subst h
   cases hr with
   | list hn h1 h2 h3 h4 =>
    exact .list hn h1 (h2.imp id fun ⟨c,o,e1,e2,_⟩=>⟨c,o,e1,e2,fun f=>absurd rfl f⟩) (fun k e=>by cases e) h4
  ·cases h
 ·rename_i fr l
  cases hr with
  | vlist hn h1 h2 h4 =>
   have hl:=kq h
   exact .list (by omega) (kI h h1) (h2.imp id fun ⟨c,o,e1,e2,_⟩=>⟨c,o,e1,e2,fun f=>absurd rfl f⟩) (fun k e=>by cases e) (by omega)
 ·simp only [A'] at h
  subst h
  cases hr
  exact .list rfl .nil (.inl rfl) (fun k e=>by cases e) (Nat.le_refl _)
 ·cases h
theorem La {e:ET} {a:AV} {xs:List e.T} (h:e8 e a=some xs) (hf:bz a=true) {c:Value} (hr:aP g tk w a c):aP g tk w (.list e xs .fresh) c:=by
 unfold e8 at h
 split at h
 ·rename_i e' l t
  split at h
  ·rename_i he
   subst he
   simp only [A'] at h
   subst h
   cases hr with
   | list hn h1 h2 h3 h4 =>
    refine .list hn h1 (h2.imp id fun ⟨c,o,e1,e2,e3⟩=>⟨c,o,e1,e2,fun _=>e3 ?_⟩) (fun k e=>by cases e) h4
    rintro rfl
    simp [bz] at hf
  ·cases h
 ·rename_i fr l
  simp only [bz,E'] at hf
  cases hr with
  | vlist hn h1 h2 h4 =>
   have hl:=kq h
   exact .list (by omega) (kI h h1) (h2.imp id fun ⟨c,o,e1,e2,e3⟩=>⟨c,o,e1,e2,fun _=>e3 hf.1⟩) (fun k e=>by cases e) (by omega)
 ·simp only [A'] at h
  subst h
  cases hr
  exact .list rfl .nil (.inl rfl) (fun k e=>by cases e) (Nat.le_refl _)
 ·cases h
def dL (e:ET):D (List e.T) where
 arg l := .list e l .arg
 res l := .list e l .fresh
 dec:=e8 e
 ok _ _ h _ _ _ _ hr:=Kt h hr
 y9 _ _ h hf _ _ _ hr:=La h hf hr
def Mq (k:IntKind) (n:Nat):AV→Option (List Int)
 | .agg [.ints k' n' l]=>if k=k'∧n=n' then some l else none
 | _=>none
theorem zG {k:IntKind} {n:Nat} {a:AV} {l:List Int} (h:Mq k n a=some l):a=.agg [.ints k n l]:=by
 unfold Mq at h
 split at h
 ·simp only [Option.ite_none_right_eq_some,A'] at h
  obtain ⟨⟨rfl,rfl⟩,rfl⟩:=h
  rfl
 ·cases h
def Bp (k:IntKind) (n:Nat):D (List Int) where
 arg l := .agg [.ints k n l]
 res l := .agg [.ints k n l]
 dec:=Mq k n
 ok _ _ h _ _ _ _ hr:=by rw [zG h] at hr;exact hr
 y9 _ _ h _ _ _ _ hr:=by rw [zG h] at hr;exact hr
def toR (k k':IntKind):AV→Option (Int×Int)
 | .agg [a,b]=>if kindOk k a&&kindOk k' b then (pw a).bind fun x=>(pw b).map fun y=>(x,y) else none
 | _=>none
theorem Dk {k k':IntKind} {v:AV} {m:Int×Int} (h:toR k k' v=some m) {c:Value} (hr:aP g tk w v c):aP g tk w (.agg [.int k m.1,.int k' m.2]) c:=by
 unfold toR at h
 split at h
 ·rename_i a b
  simp only [Option.ite_none_right_eq_some,E',B',H'] at h
  obtain ⟨⟨k1,k2⟩,x,hx,y,hy,rfl⟩:=h
  obtain ⟨cs,rfl,hc⟩:=hr.e7
  obtain ⟨x1,r1,e1,q1,hc⟩:=hc.inv_one (bm hx)
  obtain ⟨x2,r2,rfl,q2,hc⟩:=hc.inv_one (bm hy)
  obtain rfl:=hc.df
  obtain rfl:=fG k1 hx q1
  obtain rfl:=fG k2 hy q2
  exact .agg (by rw [e1];exact .one rfl (.int _ _) (.one rfl (.int _ _) .nil))
 ·cases h
def dR (k k':IntKind):D (Int×Int) where
 arg m := .agg [.int k m.1,.int k' m.2]
 res m := .agg [.int k m.1,.int k' m.2]
 dec:=toR k k'
 ok _ _ h _ _ _ _ hr:=Dk h hr
 y9 _ _ h _ _ _ _ hr:=Dk h hr
def UF {α β:Type} (d:AV→Option α) (e:AV→Option β):AV→Option (α×β)
 | .tuple [a,b]=>(d a).bind fun x=>(e b).map fun y=>(x,y)
 | _=>none
def d2 {α β:Type} (d:D α) (e:D β):D (α×β) where
 arg p := .tuple [d.arg p.1,e.arg p.2]
 res p := .tuple [d.res p.1,e.res p.2]
 dec:=UF d.dec e.dec
 ok a x h g tk w c hr:=by
  unfold UF at h
  split at h
  ·simp only [B',H'] at h
   obtain ⟨x,h1,y,h2,rfl⟩:=h
   cases hr with
   | tuple hl =>
    rename_i a b vs
    obtain ⟨l⟩:=vs
    cases hl with
    | cons q r=>cases r with | cons q2 r2=>cases r2;exact .tuple (.cons (d.ok _ _ h1 _ _ _ _ q) (.cons (e.ok _ _ h2 _ _ _ _ q2) .nil))
  ·cases h
 y9 a x h hf g w c hr:=by
  unfold UF at h
  split at h
  ·simp only [B',H'] at h
   obtain ⟨x,h1,y,h2,rfl⟩:=h
   simp only [bz,cN,E'] at hf
   cases hr with
   | tuple hl =>
    rename_i a b vs
    obtain ⟨l⟩:=vs
    cases hl with
    | cons q r=>cases r with | cons q2 r2=>cases r2;exact .tuple (.cons (d.y9 _ _ h1 hf.1 _ _ _ q) (.cons (e.y9 _ _ h2 hf.2.1 _ _ _ q2) .nil))
  ·cases h
end
def Sound (P:Program) (f:Nat) (G:List AV→Tr AV):Prop :=
 ∀ as1 v,(G as1).get=some v→cF P f as1 v∧∃ fn,P.funcs[f]?=some fn∧fn.body.isSome=true
def aM (P:Program) (b:Code) (F:St→Tr Out):Prop := ∀ s out,(F s).get=some out→ay P b s out
def MM:Code→Option Nat
 | .region id _ _=>some id
 | .seq a b=>match MM a with
  | some i=>some i
  | none=>MM b
 | .cond _ a b=>match MM a with
  | some i=>some i
  | none=>MM b
 | .block _ b=>MM b
 | .loop b=>MM b
 | .scope b=>MM b
 | _=>none
def Uc (f:Nat):List (Nat×(List AV→Tr AV))→Option (List AV→Tr AV)
 | []=>none
 | (g,G)::t=>if f=g then some G else Uc f t
def lkL (fn:Nat) (r:Option Nat):List (Nat×Nat×(Code→St→Tr Out))→Option (Code→St→Tr Out)
 | []=>none
 | (f,i,F)::t=>if fn=f∧r=some i then some F else lkL fn r t
def YD (f:Nat):List (Nat×(List AV→Hp→Tr bY))→Option (List AV→Hp→Tr bY)
 | []=>none
 | (g,G)::t=>if f=g then some G else YD f t
def iJ (P:Program) (kill:Nat→Nat→List Nat) (tab:List (Nat×(List AV→Tr AV))) (ls:List (Nat×Nat×(Code→St→Tr Out))) (fs:List (Nat×(List AV→Hp→Tr bY))):aw where
 P:=P
 pf f:=(Uc f tab).isSome
 G f as1:=match Uc f tab with
  | some G=>G as1
  | none=>.fail
 kill:=kill
 pj fn b:=(lkL fn (MM b) ls).map fun F=>F b
 FY f:=YD f fs
def gT (P:Program) (f:Nat) (F:List AV→Hp→Tr bY):Prop := ∀ args h res,(F args h).get=some res→du P f args h res∧∃ fn,P.funcs[f]?=some fn∧fn.body.isSome=true
def pI (P:Program):List (Nat×(List AV→Hp→Tr bY))→Prop
 | []=>True
 | (f,F)::t=>gT P f F∧pI P t
def tM (P:Program):List (Nat×(List AV→Tr AV))→Prop
 | []=>True
 | (f,G)::t=>Sound P f G∧tM P t
structure Rz (P:Program):Prop where
 named : ∀ (f : Nat) (fn : Func), P.funcs[f]? = some fn → fn.body.isSome = true → (fn.name == "runtime.NumGoroutine") = false
theorem wT {P:Program} {f:Nat} {G:List AV→Tr AV}:∀ {tab:List (Nat×(List AV→Tr AV))},tM P tab→Uc f tab=some G→Sound P f G
 | [],_,h=>by simp [Uc] at h
 | (g,G')::t,hs,h=>by
  simp only [Uc] at h
  split at h
  ·rename_i e
   simp only [A'] at h
   subst e;subst h
   exact hs.1
  ·exact wT hs.2 h
def shut {α:Type} (a:α):α:=Classical.choose (⟨a,rfl⟩:∃ x,x=a)
theorem rO {α:Type} (a:α):shut a=a:=Classical.choose_spec (⟨a,rfl⟩:∃ x,x=a)
def PS (P:Program) (f:Nat) (as1:List AV) (v:AV):Prop:=cF P f as1 v∧∃ fn,P.funcs[f]?=some fn∧fn.body.isSome=true
def g0 (F:Tr AV):List AV→Tr AV
 | []=>F
 | _=>.fail
def g1 {α:Type} (a:D α) (F:α→Tr AV):List AV→Tr AV
 | [x]=>(Tr.opt (a.dec x)).bind F
 | _=>.fail
def g2 {α β:Type} (a:D α) (b:D β) (F:α→β→Tr AV):List AV→Tr AV
 | [x,y]=>(Tr.opt (a.dec x)).bind fun x=>(Tr.opt (b.dec y)).bind fun y=>F x y
 | _=>.fail
def g3 {α β γ:Type} (a:D α) (b:D β) (c:D γ) (F:α→β→γ→Tr AV):List AV→Tr AV
 | [x,y,z]=>(Tr.opt (a.dec x)).bind fun x=>(Tr.opt (b.dec y)).bind fun y=>(Tr.opt (c.dec z)).bind fun z=>F x y z
 | _=>.fail
def g4 {α β γ δ:Type} (a:D α) (b:D β) (c:D γ) (d:D δ) (F:α→β→γ→δ→Tr AV):List AV→Tr AV
 | [x,y,z,u]=>(Tr.opt (a.dec x)).bind fun x=>(Tr.opt (b.dec y)).bind fun y=>(Tr.opt (c.dec z)).bind fun z=>(Tr.opt (d.dec u)).bind fun u=>F x y z u
 | _=>.fail
def VO (P:Program) (f:Nat) (as1:List AV) (t:Tr AV):Prop := ∀ v,t.get=some v→cF P f as1 v∧∃ fn,P.funcs[f]?=some fn∧fn.body.isSome=true
theorem cF.args {P:Program} {f:Nat} {as1 bs:List AV} {v:AV} (h:cF P f bs v) (hc:∀ w cs,aB (jV w) [] w as1 cs→aB (jV w) [] w bs cs):cF P f as1 v :=
 fun w cd hg hr=>h w cd hg (hc w _ hr)
theorem pN {P:Program} {f:Nat} {F:Tr AV} (h:VO P f [] F):Sound P f (g0 F):=by
 intro as1 v he
 cases as1 with
 | nil=>exact h v he
 | cons=>simp [g0] at he
theorem aH {P:Program} {f:Nat} {α:Type} {a:D α} {F:α→Tr AV} (h:∀ x,VO P f [a.arg x] (F x)):Sound P f (g1 a F):=by
 intro as1 v he
 unfold g1 at he
 split at he
 ·simp only [get_bind,bF,B'] at he
  obtain ⟨x,h1,h2⟩:=he
  obtain ⟨h3,h4⟩:=h x v h2
  refine ⟨h3.args fun w cs hr=>?_,h4⟩
  cases hr with
  | cons q r=>exact .cons (a.ok _ _ h1 _ _ _ _ q) r
 ·simp at he
theorem bb {P:Program} {f:Nat} {α β:Type} {a:D α} {b:D β} {F:α→β→Tr AV} (h:∀ x y,VO P f [a.arg x,b.arg y] (F x y)):Sound P f (g2 a b F):=by
 intro as1 v he
 unfold g2 at he
 split at he
 ·simp only [get_bind,bF,B'] at he
  obtain ⟨x,h1,y,h2,he⟩:=he
  obtain ⟨h3,h4⟩:=h x y v he
  refine ⟨h3.args fun w cs hr=>?_,h4⟩
  cases hr with
  | cons q r=>cases r with | cons q2 r=>exact .cons (a.ok _ _ h1 _ _ _ _ q) (.cons (b.ok _ _ h2 _ _ _ _ q2) r)
 ·simp at he
theorem dv {P:Program} {f:Nat} {α β γ:Type} {a:D α} {b:D β} {c:D γ} {F:α→β→γ→Tr AV} (h:∀ x y z,VO P f [a.arg x,b.arg y,c.arg z] (F x y z)):Sound P f (g3 a b c F):=by
 intro as1 v he
 unfold g3 at he
 split at he
 ·simp only [get_bind,bF,B'] at he
  obtain ⟨x,h1,y,h2,z,h3,he⟩:=he
  obtain ⟨h4,h5⟩:=h x y z v he
  refine ⟨h4.args fun w cs hr=>?_,h5⟩
  cases hr with
  | cons q r=>cases r with | cons q2 r=>cases r with | cons q3 r=>exact .cons (a.ok _ _ h1 _ _ _ _ q) (.cons (b.ok _ _ h2 _ _ _ _ q2) (.cons (c.ok _ _ h3 _ _ _ _ q3) r))
 ·simp at he
theorem Cz {P:Program} {f:Nat} {α β γ δ:Type} {a:D α} {b:D β} {c:D γ} {d:D δ} {F:α→β→γ→δ→Tr AV} (h:∀ x y z u,VO P f [a.arg x,b.arg y,c.arg z,d.arg u] (F x y z u)):Sound P f (g4 a b c d F):=by
 intro as1 v he
 unfold g4 at he
 split at he
 ·simp only [get_bind,bF,B'] at he
  obtain ⟨x,h1,y,h2,z,h3,u,h4,he⟩:=he
  obtain ⟨h5,h6⟩:=h x y z u v he
  refine ⟨h5.args fun w cs hr=>?_,h6⟩
  cases hr with
  | cons q r=>cases r with | cons q2 r=>cases r with | cons q3 r=>cases r with | cons q4 r=>exact .cons (a.ok _ _ h1 _ _ _ _ q) (.cons (b.ok _ _ h2 _ _ _ _ q2) (.cons (c.ok _ _ h3 _ _ _ _ q3) (.cons (d.ok _ _ h4 _ _ _ _ q4) r)))
 ·simp at he
mutual
theorem lF:∀ v:AV,bz (strip false v)=bz v
 | .any | .undef | .bool _ | .aL _ | .int .. | .aE .. | .u64 _ | .str _ | .ints .. | .ptr .. | .ptri .. | .nilptr | .slf _ | .itr .. | .vsl .. | .nilsl | .yield _ | .nilfunc | .niliface | .ptrf _=>by simp [strip,bz]
 | .list e l t=>by cases t<;>simp [strip,bz,Tk.res]
 | .agg l=>by simp only [strip,bz];exact dK l
 | .tuple l=>by simp only [strip,bz];exact dK l
 | .vlist _ l=>by simp only [strip,bz];rw [dK l];simp
 | .vany t l=>by cases t<;>simp only [strip,bz]<;>rw [dK l]<;>simp [Tk.res,Tk.made]
 | .iface _ v=>by simp only [strip,bz];exact lF v
 | .func _ a b=>by simp only [strip,bz];rw [dK a,dK b]
theorem dK:∀ l:List AV,cN (cz false l)=cN l
 | []=>rfl
 | v::vs=>by simp only [cz,cN];rw [lF v,dK vs]
end
theorem yD {B:aw} {n f:Nat} {as1:List AV} {v:AV} (h:(db B n f as1).get=some v):bz v=true:=by
 unfold db at h
 simp only [get_bind,B'] at h
 obtain ⟨r,_,h2⟩:=h
 split at h2
 ·split at h2
  ·rename_i hc
   simp only [au,A'] at h2
   subst h2
   simp only [E'] at hc
   rw [lF]
   exact hc.2
  ·simp at h2
 ·simp at h2
theorem HO {B:aw} (hB:aW B) {n f:Nat} {as1:List AV} {v:AV} (h:(db B n f as1).get=some v) {α:Type} (d:D α) {x:α} (hd:d.dec v=some x):PS B.P f as1 (d.res x):=by
 obtain ⟨h3,h4⟩:=qf hB h
 refine ⟨fun w cd hg hr=>(h3 w cd hg hr).mono ?_,h4⟩
 rintro e w' ⟨y,rfl,hb,hx⟩
 exact ⟨y,rfl,hb,d.y9 _ _ hd (yD h) _ _ _ hx⟩
def qx (P:Program):List (Nat×Nat×(Code→St→Tr Out))→Prop
 | []=>True
 | (_,_,F)::t=>(∀ b,aM P b (F b))∧qx P t
theorem vM {P:Program} {fn:Nat} {r:Option Nat} {F:Code→St→Tr Out}:∀ {ls:List (Nat×Nat×(Code→St→Tr Out))},qx P ls→lkL fn r ls=some F→∀ b,aM P b (F b)
 | [],_,h=>by simp [lkL] at h
 | (f,i,F')::t,hs,h=>by
  simp only [lkL] at h
  split at h
  ·simp only [A'] at h
   subst h
   exact hs.1
  ·exact vM hs.2 h
theorem vZ {P:Program} {f:Nat} {G:List AV→Hp→Tr bY}:∀ {tab:List (Nat×(List AV→Hp→Tr bY))},pI P tab→YD f tab=some G→gT P f G
 | [],_,h=>by simp [YD] at h
 | (g,G')::t,hs,h=>by
  simp only [YD] at h
  split at h
  ·rename_i e
   simp only [A'] at h
   subst e;subst h
   exact hs.1
  ·exact vZ hs.2 h
theorem aj {P:Program} (hn:Rz P) {kill:Nat→Nat→List Nat} {tab:List (Nat×(List AV→Tr AV))} {ls:List (Nat×Nat×(Code→St→Tr Out))} {fs:List (Nat×(List AV→Hp→Tr bY))} (ht:tM P tab) (hl:qx P ls) (hf:pI P fs):aW (iJ P kill tab ls fs) where
 named:=hn.named
 FY f F args h res h1 h2:=vZ hf h1 args h res h2
 pj fn b F s out h1 h2:=by
  simp only [iJ,H'] at h1
  obtain ⟨F',h3,rfl⟩:=h1
  exact vM hl h3 b s out h2
 pf f as1 v h1 h2:=by
  simp only [iJ] at h1 h2
  cases hk:Uc f tab with
  | none=>rw [hk] at h1;cases h1
  | some G =>
   rw [hk] at h2
   exact wT ht hk as1 v h2
def uV (B:aw) (m:Nat):Env:={ B with call:=O2 B m,loop:=Bz B m }
def iP (a b:AV):Prop := ∀ (g:Gh) (tk:List Nat) (w:World) (v:Value),aP g tk w a v→aP g tk w b v
def Af (a b:List AV):Prop := ∀ (g:Gh) (tk:List Nat) (w:World) (v:List Value),ax g tk w a v→ax g tk w b v
theorem iP.refl (a:AV):iP a a:=fun _ _ _ _ h=>h
theorem iP.any (a:AV):iP a .any:=fun _ _ _ _ _=>.any _
theorem iP.aE (k:IntKind) (n:Int):iP (.aE k n) (.int k n):=fun _ _ _ _ h=>by cases h;exact .int _ _
theorem iP.aL (b:Bool):iP (.aL b) (.bool b):=fun _ _ _ _ h=>by cases h;exact .bool _
theorem iP.agg {l m:List AV} (h:Af l m):iP (.agg l) (.agg m):=fun _ _ _ _ hr=>by
 obtain ⟨cs,rfl,hc⟩:=hr.e7
 exact .agg (h _ _ _ _ hc)
theorem iP.trans {a b c:AV} (h:iP a b) (k:iP b c):iP a c:=fun g tk w v hr=>k g tk w v (h g tk w v hr)
theorem Af.refl (a:List AV):Af a a:=fun _ _ _ _ h=>h
theorem Af.cons {a b:AV} {l m:List AV} (ha:aD a=true) (hb:aD b=true) (h:iP a b) (hl:Af l m):Af (a::l) (b::m):=fun g tk w v hr=>by
 obtain ⟨c,r,rfl,q,h2⟩:=hr.inv_one ha
 exact .one hb (h g tk w c q) (hl g tk w r h2)
theorem Af.ints {k:IntKind} {n:Nat} {x:List Int} {l m:List AV} (hl:Af l m):Af (.ints k n x::l) (.ints k n x::m):=fun g tk w v hr=>by
 obtain ⟨h1,r,rfl,h2⟩:=hr.cE
 exact .ints h1 rfl (hl g tk w r h2)
def PH (a b:List AV):Prop:=Af a b∧(kT a=none→b=a)
theorem PH.refl (a:List AV):PH a a:=⟨Af.refl a,fun _=>rfl⟩
inductive fH {α β:Type} (R:α→β→Prop):List α→List β→Prop
 | nil:fH R [] []
 | cons {a:α} {b:β} {l:List α} {m:List β} (h:R a b) (hl:fH R l m):fH R (a::l) (b::m)
structure sN (s t:St):Prop where
 tmps:fH iP s.tmps t.tmps
 heap:fH PH s.hp.heap t.hp.heap
 low:∀ i,i<s.hp.lo→s.hp.heap[i]?=t.hp.heap[i]?
 al:t.hp.al=s.hp.al
 loops:t.hp.loops=s.hp.loops
 lo:t.hp.lo=s.hp.lo
 rE:t.hp.rE=s.hp.rE
 pt:t.hp.pt=s.hp.pt
theorem aB.wk {g:Gh} {tk:List Nat} {w:World} {l m:List AV} (h:fH iP l m) {vs:List Value} (hr:aB g tk w l vs):aB g tk w m vs:=by
 induction h generalizing vs with
 | nil=>exact hr
 | cons h1 h2 ih=>cases hr with | cons q r=>exact .cons (h1 _ _ _ _ q) (ih r)
theorem zQ {α β:Type} {R:α→β→Prop} {l:List α} {m:List β} (h:fH R l m):l.length=m.length∧∀ (i:Nat) y,m[i]?=some y→∃ x,l[i]?=some x∧R x y:=by
 induction h with
 | nil=>exact ⟨rfl,fun i y hy=>by simp at hy⟩
 | cons h1 h2 ih =>
  refine ⟨by simp [ih.1],fun i y hy=>?_⟩
  cases i with
  | zero=>simp at hy;subst hy;exact ⟨_,rfl,h1⟩
  | succ i=>simp at hy;simpa using ih.2 i y hy
theorem MR.wk {g:Gh} {s t:St} {w:World} (h:sN s t) (m:MR g s.hp w):MR g t.hp w:=by
 obtain ⟨h1,h2⟩:=zQ h.heap
 refine ⟨m.base,m.fJ,m.dC.trans h1,fun i c l k1 k2=>?_,m.vb,by rw [h.al];exact m.eI,by rw [h.al];exact m.jJ,by rw [h.al];exact m.tok,m.vg,by rw [h.loops];exact m.gI,by rw [h.loops,h.al];exact m.loop,m.vi,m.defs,m.iN⟩
 obtain ⟨x,k3,k4⟩:=h2 i l k2
 obtain ⟨a,f,o,d,e⟩:=m.var i c x k1 k3
 rw [h.al]
 refine ⟨a,f,o,d,?_⟩
 rcases e with ⟨cs,ty,rfl,r⟩ | ⟨u,n,bs,rfl,r⟩
 ·exact .of (k4.1 _ _ _ _ r)
 ·rw [k4.2 rfl]
  exact .inr ⟨u,n,bs,rfl,r⟩
theorem Fl.wk {s t:St} (h:sN s t) {h':Hp} (hf:Fl t.hp h'):Fl s.hp h' :=
 ⟨hf.lo.trans h.lo,hf.rE.trans h.rE,hf.pt.trans h.pt,fun i x hi hx=>hf.heap i x (by rw [h.lo];exact hi) (by rw [← h.low i hi];exact hx),fun i x hi hx=>hf.al i x (by rw [h.rE];exact hi) (by rw [h.al];exact hx),fun i x hi hx=>hf.loops i x (by rw [h.pt];exact hi) (by rw [h.loops];exact hx)⟩
theorem ay.wk {P:Program} {b:Code} {s t:St} {out:Out} (h:sN s t) (hs:ay P b t out):ay P b s out:=by
 intro ro g w a W0 m ht mk hW hro
 have hx:=hs ro g w a W0 (m.wk h) (by rw [h.al];exact ht.wk h.tmps) mk hW hro
 refine gG hx ?_
 intro e a' w' hp
 have nx:∀ {g' h'},Nx g t.hp w g' h' w'→Nx g s.hp w g' h' w':=fun n=>⟨n.mr,by have:=n.le;rw [h.al] at this;exact this,n.fl.wk h⟩
 cases out with
 | norm s=>obtain ⟨e1,g1,n1,r1,m1⟩:=hp;exact ⟨e1,g1,nx n1,r1,m1⟩
 | ret s=>obtain ⟨e1,g1,n1,r1,m1⟩:=hp;exact ⟨e1,g1,nx n1,r1,m1⟩
 | exit id s=>obtain ⟨e1,g1,n1,r1,m1⟩:=hp;exact ⟨e1,g1,nx n1,r1,m1⟩
 | panic v h=>obtain ⟨x,g1,e1,n1,r1,m1⟩:=hp;exact ⟨x,g1,e1,nx n1,r1,m1⟩
def WkO:Out→Out→Prop
 | .norm s,.norm t=>sN s t
 | .ret s,.ret t=>sN s t
 | .exit i s,.exit j t=>i=j∧sN s t
 | .panic v h,.panic v' h'=>sN ⟨[v],h⟩ ⟨[v'],h'⟩
 | _,_=>False
theorem Nx.wk {g:Gh} {h:Hp} {w:World} {g':Gh} {s t:St} {w':World} (hw:sN s t) (n:Nx g h w g' s.hp w'):Nx g h w g' t.hp w' :=
 ⟨n.mr.wk hw,by have:=n.le;rw [hw.al];exact this,
  ⟨hw.lo.trans n.fl.lo,hw.rE.trans n.fl.rE,hw.pt.trans n.fl.pt,fun i x hi hx=>by rw [← hw.low i (by rw [n.fl.lo];exact hi)];exact n.fl.heap i x hi hx,fun i x hi hx=>by rw [hw.al];exact n.fl.al i x hi hx,fun i x hi hx=>by rw [hw.loops];exact n.fl.loops i x hi hx⟩⟩
theorem lR.wk {g:Gh} {h:Hp} {w:World} {W0:DB} {o o':Out} {e:Exit} {a':Act} {w':World} (hw:WkO o o') (hp:lR g h w W0 o e a' w'):lR g h w W0 o' e a' w':=by
 cases o with
 | norm s =>
  cases o' with
  | norm t=>obtain ⟨e1,g1,n1,r1,m1⟩:=hp;exact ⟨e1,g1,n1.wk hw,by rw [hw.al];exact r1.wk hw.tmps,m1⟩
  | _=>exact hw.elim
 | ret s =>
  cases o' with
  | ret t=>obtain ⟨e1,g1,n1,r1,m1⟩:=hp;exact ⟨e1,g1,n1.wk hw,by rw [hw.al];exact r1.wk hw.tmps,m1⟩
  | _=>exact hw.elim
 | exit i s =>
  cases o' with
  | exit j t =>
   obtain ⟨rfl,hw⟩:=hw
   obtain ⟨e1,g1,n1,r1,m1⟩:=hp
   exact ⟨e1,g1,n1.wk hw,by rw [hw.al];exact r1.wk hw.tmps,m1⟩
  | _=>exact hw.elim
 | panic v h1 =>
  cases o' with
  | panic v' h1' =>
   obtain ⟨x,g1,e1,n1,r1,m1⟩:=hp
   refine ⟨x,g1,e1,Nx.wk (s:=⟨[v],h1⟩) (t:=⟨[v'],h1'⟩) hw n1,?_,m1⟩
   have:=hw.tmps
   cases this with
   | cons q _=>rw [show h1'.al=h1.al from hw.al];exact q _ _ _ _ r1
  | _=>exact hw.elim
theorem ay.out {P:Program} {b:Code} {s:St} {o o':Out} (hw:WkO o o') (hs:ay P b s o):ay P b s o' :=
 fun ro g w a W0 m ht mk hW hro=>gG (hs ro g w a W0 m ht mk hW hro) fun _ _ _ hp=>hp.wk hw
open Classical in
def nH (P:Program) (b:Code) (s:St) (out:Out):Bool:=shut (decide (ay P b s out))
theorem uR {P:Program} {b:Code} {s:St} {out:Out}:nH P b s out=true ↔ ay P b s out:=by
 unfold nH
 rw [rO]
 simp
def qV (P:Program) (t:St→Out) (b:Code) (s:St):Tr Out := .guard (nH P b s (t s)) (.ret (t s))
theorem fy {P:Program} {t:St→Out}:∀ b,aM P b (qV P t b):=by
 intro b s out h
 simp only [qV,get_guard,au,A'] at h
 obtain ⟨h1,rfl⟩:=h
 exact uR.1 h1
theorem qs {P:Program} {c:St→Bool} {F G:Code→St→Tr Out} (hF:∀ b,aM P b (F b)) (hG:∀ b,aM P b (G b)):∀ b,aM P b (fun s=>.br (c s) (F b s) (G b s)):=by
 intro b s out h
 rw [fc] at h
 cases hc:c s with
 | true=>rw [hc] at h;exact hF b s out h
 | false=>rw [hc] at h;exact hG b s out h
theorem ay.step {B:aw} (hB:aW B) {m fn:Nat} {b:Code} {s s1:St} {out:Out} (h1:(na (uV B m) (Bz B m) fn b s).get=some (.norm s1)) (h2:ay B.P b s1 out):ay B.P b s out:=by
 obtain ⟨i1,i2,i3⟩:=vN hB m
 have ok:nK (uV B m):=⟨hB.pj,hB.named,hB.pf,i1⟩
 have hc:=nu ok i2 i3 fn b s (.norm s1) h1
 intro ro g w a W0 mr ht mk hW hro
 refine eK (wpIn_mono (hc ro g w a W0 mr ht mk hW hro) ?_)
 rintro e a1 w1 ⟨rfl,g1,nx,hr,mk1⟩
 have:=h2 ro g1 w1 a1 W0 nx.mr hr mk1 (Nat.le_trans hW nx.le.below.size) (fun c hc=>let ⟨l,hl⟩:=hro c hc; ⟨l,nx.le.loops _ _ hl⟩)
 exact gG this fun e a2 w2 hp2=>hp2.nx nx
theorem ay.stop {B:aw} (hB:aW B) {m fn:Nat} {b:Code} {s:St} {out:Out} (h1:(na (uV B m) (Bz B m) fn b s).get=some out) (hn:∀ s1,out≠.norm s1):ay B.P b s out:=by
 obtain ⟨i1,i2,i3⟩:=vN hB m
 have ok:nK (uV B m):=⟨hB.pj,hB.named,hB.pf,i1⟩
 have hc:=nu ok i2 i3 fn b s out h1
 intro ro g w a W0 mr ht mk hW hro
 refine eK (wpIn_mono (hc ro g w a W0 mr ht mk hW hro) ?_)
 intro e a1 w1 hp
 cases out with
 | norm s1=>exact absurd rfl (hn s1)
 | ret s1=>obtain ⟨rfl,rest⟩:=hp;exact ⟨rfl,rest⟩
 | exit i s1=>obtain ⟨rfl,rest⟩:=hp;exact ⟨rfl,rest⟩
 | panic v h=>obtain ⟨x,g1,rfl,rest⟩:=hp;exact ⟨x,g1,rfl,rest⟩
def nk (i:Nat):Code→Option Code
 | .seq a b=>match nk i a with
  | some c=>some c
  | none=>nk i b
 | .cond _ a b=>match nk i a with
  | some c=>some c
  | none=>nk i b
 | .block _ b=>nk i b
 | .scope b=>nk i b
 | .rangeFunc _ _ a b=>match nk i a with
  | some c=>some c
  | none=>nk i b
 | .loop b=>if MM b=some i then some b else nk i b
 | _=>none
def C3 (P:Program) (f:Nat):Code:=(((P.funcs[f]?).bind (·.body))).getD .skip
def aT (P:Program) (f i:Nat):Code:=(nk i (C3 P f)).getD .skip
def WL (fn id:Nat):List (Nat×List (Nat×List Nat))→List Nat
 | []=>[]
 | (f,t)::r=>if fn=f then (t.lookup id).getD [] else WL fn id r
theorem fH.same {α:Type} {R:α→α→Prop} (h:∀ a,R a a):∀ l,fH R l l
 | []=>.nil
 | a::l=>.cons (h a) (fH.same h l)
theorem fH.trans' {l m k:List AV} (h:fH iP l m) (h':fH iP m k):fH iP l k:=by
 induction h generalizing k with
 | nil=>cases h';exact .nil
 | cons a b ih=>cases h' with | cons c d=>exact .cons (a.trans c) (ih d)
theorem ug:∀ (i:Nat) (ts:List Nat) (l:List AV),fH iP l (me i l ts)
 | _,_,[]=>by rw [me];exact .nil
 | _,[],a::l=>by rw [me];exact fH.same iP.refl _
 | i,t::ts,a::l=>by
  rw [me]
  cases Nat.beq i t with
  | true=>exact .cons (iP.any _) (ug (i+1) ts l)
  | false=>exact .cons (iP.refl _) (ug (i+1) (t::ts) l)
theorem xd (ts:List Nat) (l:List AV):fH iP l (vO l ts):=ug 0 ts l
theorem sN.kill (ts:List Nat) {l m:List AV} (h:Hp) (e:vO l ts=m):sN ⟨l,h⟩ ⟨m,h⟩ :=
 ⟨e ▸ xd ts l,fH.same PH.refl _,fun _ _=>rfl,rfl,rfl,rfl,rfl,rfl⟩
def Got {α:Type} (d:D α) (T:Tr AV) (ok:Bool) (x:α):Prop:=ok=true→∃ v,T.get=some v∧d.dec v=some x
noncomputable section
variable {α:Type} {d:D α}
theorem go_ret {v:AV} {x:α} (h:d.dec v=some x):Got d (.ret v) true x:=fun _=>⟨v,rfl,h⟩
end
mutual
def gen:AV→AV
 | .aE k n=>.int k n
 | .aL b=>.bool b
 | .agg l=>.agg (CT l)
 | v=>v
def CT:List AV→List AV
 | []=>[]
 | v::vs=>gen v::CT vs
end
theorem xV:∀ v:AV,aD (gen v)=aD v
 | .aE .. | .aL _ | .agg _ | .any | .undef | .bool _ | .int .. | .u64 _ | .str _ | .ints .. | .ptr .. | .ptri .. | .ptrf _ | .nilptr | .slf _ | .itr .. | .list .. | .vlist .. | .vany .. | .vsl .. | .nilsl | .func .. | .yield _ | .nilfunc | .iface .. | .niliface | .tuple _=>by simp [gen,aD]
mutual
theorem H4:∀ v:AV,iP v (gen v)
 | .aE k n=>by simpa [gen] using iP.aE k n
 | .aL b=>by simpa [gen] using iP.aL b
 | .agg l=>by simpa [gen] using iP.agg (rY l)
 | .any | .undef | .bool _ | .int .. | .u64 _ | .str _ | .ints .. | .ptr .. | .ptri .. | .ptrf _ | .nilptr | .slf _ | .itr .. | .list .. | .vlist .. | .vany .. | .vsl .. | .nilsl | .func .. | .yield _ | .nilfunc | .iface .. | .niliface | .tuple _=>by simpa [gen] using iP.refl _
theorem rY:∀ l:List AV,Af l (CT l)
 | []=>Af.refl _
 | v::vs=>by
  rw [CT]
  cases hc:aD v with
  | true=>exact Af.cons hc (by rw [xV];exact hc) (H4 v) (rY vs)
  | false =>
   intro g tk w c hr
   cases hr with
   | ints h1 h2 h3=>simp only [gen];exact .ints h1 h2 (rY vs g tk w _ h3)
   | one h1 h2 h3=>rw [h1] at hc;cases hc
end
def Jn:List AV→List Nat→List AV
 | l,[]=>l
 | l,t::ts=>Jn (l.set t (gen (l.getD t .any))) ts
theorem Cy (l:List AV) (t:Nat):fH iP l (l.set t (gen (l.getD t .any))):=by
 induction l generalizing t with
 | nil=>exact .nil
 | cons a l ih =>
  cases t with
  | zero=>exact .cons (by simpa using H4 a) (fH.same iP.refl l)
  | succ t=>exact .cons (iP.refl _) (by simpa using ih t)
theorem tJ:∀ (ts:List Nat) (l:List AV),fH iP l (Jn l ts)
 | [],l=>fH.same iP.refl l
 | t::ts,l=>(Cy l t).trans' (tJ ts _)
def Wq:List (List AV)→List (List AV)
 | []=>[]
 | l::ls=>CT l::Wq ls
theorem Kw {l:List AV} (h:kT l=none):CT l=l:=by
 unfold kT at h
 split at h
 ·simp [CT,gen]
 ·cases h
theorem Dm:∀ l:List (List AV),fH PH l (Wq l)
 | []=>.nil
 | l::ls=>.cons ⟨rY l,Kw⟩ (Dm ls)
def nrm (ks gs:List Nat) (b:Bool) (s:St):St :=
 ⟨Jn (vO s.tmps ks) gs,{ s.hp with heap:=bif b then Wq s.hp.heap else s.hp.heap }⟩
theorem ev {ks gs:List Nat} {b:Bool} {s t:St} (h0:(bif b then s.hp.lo else 0)=0) (e:nrm ks gs b s=t):sN s t:=by
 subst e
 cases b with
 | false=>exact ⟨(xd ks _).trans' (tJ gs _),fH.same PH.refl _,fun _ _=>rfl,rfl,rfl,rfl,rfl,rfl⟩
 | true=>exact ⟨(xd ks _).trans' (tJ gs _),Dm _,fun i hi=>by rw [show s.hp.lo=0 from h0] at hi;omega,rfl,rfl,rfl,rfl,rfl⟩
noncomputable section
variable {α V:Type} {R:α→V→Prop}
def gZ (R:α→V→Prop) (T:Tr α) (ok:Bool) (x:V):Prop:=ok=true→∃ v,T.get=some v∧R v x
theorem cL {v:α} {x:V} (h:R v x):gZ R (.ret v) true x:=fun _=>⟨v,rfl,h⟩
theorem rA {x:V}:gZ R .fail false x:=fun h=>by cases h
theorem je {b ok1 ok2:Bool} {t e:Tr α} {x y:V} (h1:gZ R t ok1 x) (h2:gZ R e ok2 y):gZ R (.br b t e) (bif b then ok1 else ok2) (bif b then x else y):=by
 intro h
 cases b with
 | true=>exact h1 h
 | false=>exact h2 h
theorem bL {b ok:Bool} {t:Tr α} {x:V} (h1:gZ R t ok x):gZ R (.br b t .fail) (b&&ok) x:=by
 intro h
 cases b with
 | true=>exact h1 h
 | false=>cases h
theorem jN {b ok:Bool} {t:Tr α} {x:V} (h1:gZ R t ok x):gZ R (.br b .fail t) (!b&&ok) x:=by
 intro h
 cases b with
 | true=>cases h
 | false=>exact h1 h
theorem Ly {b:Bool} {t e:Tr α} {x y:V} (h1:gZ R t true x) (h2:gZ R e true y):gZ R (.br b t e) true (bif b then x else y):=by
 intro h
 cases b with
 | true=>exact h1 rfl
 | false=>exact h2 rfl
end
theorem DR {α V:Type} {R:α→V→Prop} {b:Bool} {ok:Bool} {t:Tr α} {x:V} (hb:b=true) (h1:gZ R t ok x) (h:ok=true):∃ v,(Tr.br b t .fail).get=some v∧R v x:=by
 subst hb
 exact h1 h
theorem Hf {α V:Type} {R:α→V→Prop} {T T':Tr α} {ok:Bool} {x:V} (e:T'=T) (h:gZ R T ok x):gZ R T' ok x:=e ▸ h
instance {α β:Type} [Inhabited α]:Inhabited (α ⊕ β):=⟨.inl default⟩
def bI {α β:Type}:α ⊕ β→Bool
 | .inl _=>true
 | .inr _=>false
def gl {α β:Type} [Inhabited α]:α ⊕ β→α
 | .inl a=>a
 | .inr _=>default
def gr {α β:Type} [Inhabited β]:α ⊕ β→β
 | .inl _=>default
 | .inr b=>b
noncomputable section
variable {α V:Type} {R:α→V→Prop} {A B C D:Type} [Inhabited A] [Inhabited B] [Inhabited C] [Inhabited D]
theorem iI {P:Program} {b:Code} {s s':St} {r:A ⊕ B} {O:A ⊕ B→Out} {okc ok1 ok2:Bool} {t1 t2:Tr α} {x1 x2:V} (hl:okc=true→ay P b s' (O r)) (hw:sN s s')
  (h1:gZ R t1 ok1 x1) (h2:gZ R t2 ok2 x2) :
  gZ R (.br (bI r) (.br (nH P b s (O (.inl (gl r)))) t1 .fail) (.br (nH P b s (O (.inr (gr r)))) t2 .fail)) (okc&&bif bI r then ok1 else ok2) (bif bI r then x1 else x2):=by
 intro h
 cases okc with
 | false=>cases h
 | true =>
  cases r with
  | inl a=>rw [fc];exact DR (uR.2 ((hl rfl).wk hw)) h1 h
  | inr a=>rw [fc];exact DR (uR.2 ((hl rfl).wk hw)) h2 h
end
def oa (n:Nat) (v:AV) (h:Hp):Hp :=
 if cq n h.al.length h.loops.length v&&(h.heap.take n).all (fD n h.al.length h.loops.length)&&h.loops.all (fun r=>fD n h.al.length h.loops.length r.tmps) then { h with heap:=h.heap.take n } else h
theorem oz {g g':Gh} {h h':Hp} {w w':World} {v:AV} {x:Value} (m:MR g h w) (m':MR g' h' w') (hle:Le g h.al w g' h'.al w') (hf:Fl h h') (hv:aP g' h'.al w' v x) :
  ∃ g'',MR g'' (oa h.heap.length v h') w'∧Le g h.al w g'' (oa h.heap.length v h').al w'∧Fl h (oa h.heap.length v h')∧aP g'' (oa h.heap.length v h').al w' v x∧(∀ D,D∈g'.defs→D∈g''.defs):=by
 unfold oa
 split
 ·rename_i hc
  simp only [E',List.all_eq_true] at hc
  obtain ⟨⟨hb1,hb2⟩,hb3⟩:=hc
  have hsub:∀ (i c:Nat),(g'.vars.take h.heap.length)[i]?=some c→i<h.heap.length∧g'.vars[i]?=some c:=fun i c x=>by
   rw [List.getElem?_take] at x
   split at x
   ·exact ⟨by assumption,x⟩
   ·cases x
  have hget:∀ (i c:Nat),i<h.heap.length→g'.vars[i]?=some c→(g'.vars.take h.heap.length)[i]?=some c:=fun i c hi x=>by rw [List.getElem?_take_of_lt hi];exact x
  have cut:Cut h.heap.length h'.al.length h'.loops.length g' h'.al { g' with vars:=g'.vars.take h.heap.length } h'.al :=
   ⟨rfl,fun _ _ x=>x,fun i c hi hx=>hget i c hi hx,fun _ _ _ x=>x,fun _ _ _ x=>⟨x,rfl⟩⟩
  refine ⟨{ g' with vars:=g'.vars.take h.heap.length },⟨m'.base,m'.fJ,by simp [m'.dC],fun i c l h1 h2=>?_,fun i j c h1 h2=>m'.vb i j c (hsub _ _ h1).2 (hsub _ _ h2).2,m'.eI,m'.jJ,fun k b cap z h1=>?_,m'.vg,m'.gI,fun l c r h1 h2=>?_,m'.vi,m'.defs,m'.iN⟩,?_,?_,?_,fun _ x=>x⟩
  ·obtain ⟨hi,h1'⟩:=hsub _ _ h1
   simp only at h2
   have h2m:=h2
   rw [List.getElem?_take_of_lt hi] at h2
   obtain ⟨a,f,o,d',e⟩:=m'.var i c l h1' h2
   exact ⟨a,f,o,d',e.cut cut (hb2 l (List.mem_of_getElem? h2m))⟩
  ·obtain ⟨q,cs,t,a1,a2,a3,a4,a5,a6,a7,a8⟩:=m'.tok k b cap z h1
   exact ⟨q,cs,t,a1,a2,a3,a4,a5,a6,a7,fun hb=>a8 (List.mem_of_mem_take hb)⟩
  ·obtain ⟨a,R,f,d'⟩:=m'.loop l c r h1 h2
   exact ⟨a,R,f,d'.cut cut (hb3 r (List.mem_of_getElem? h2))⟩
  ·exact ⟨hle.base,hle.below,hle.fz,hle.cell,fun i c hx=>hget i c (by have:=bc hx;rw [m.dC] at this;exact this) (hle.vars i c hx),hle.loops,hle.defs,hle.tok,hle.shape⟩
  ·exact ⟨hf.lo,hf.rE,hf.pt,fun i x hi hx=>by
    show (h'.heap.take h.heap.length)[i]?=_
    rw [List.getElem?_take_of_lt (bc hx)];exact hf.heap i x hi hx,hf.al,hf.loops⟩
  ·exact hv.cut cut hb1
 ·exact ⟨g',m',hle,hf,hv,fun _ x=>x⟩
def wC (n:Nat) (s:St):St:=⟨s.tmps,oa n (.tuple s.tmps) s.hp⟩
def Iv (n:Nat):Out→Out
 | .norm s=>.norm (wC n s)
 | .ret s=>.ret (wC n s)
 | .exit i s=>.exit i (wC n s)
 | .panic v h=>.panic v (oa n v h)
theorem lR.cut {g:Gh} {h:Hp} {w:World} {W0:DB} {o:Out} {e:Exit} {a':Act} {w':World} (m:MR g h w) (hp:lR g h w W0 o e a' w'):lR g h w W0 (Iv h.heap.length o) e a' w':=by
 have key:∀ (s:St),(∃ g',Nx g h w g' s.hp w'∧aB g' s.hp.al w' s.tmps a'.tmps.toList∧Marks g' W0 a'.defers) →
   ∃ g',Nx g h w g' (wC h.heap.length s).hp w'∧aB g' (wC h.heap.length s).hp.al w' (wC h.heap.length s).tmps a'.tmps.toList∧Marks g' W0 a'.defers:=by
  rintro s ⟨g1,n1,r1,m1⟩
  obtain ⟨g2,m2,l2,f2,r2,d2⟩:=oz m n1.mr n1.le n1.fl (aP.tuple (vs:=a'.tmps) r1)
  refine ⟨g2,⟨m2,l2,f2⟩,?_,m1.mono d2⟩
  cases r2 with
  | tuple h=>exact h
 cases o with
 | norm s=>exact ⟨hp.1,key s hp.2⟩
 | ret s=>exact ⟨hp.1,key s hp.2⟩
 | exit i s=>exact ⟨hp.1,key s hp.2⟩
 | panic v h1 =>
  obtain ⟨x,g1,e1,n1,r1,m1⟩:=hp
  obtain ⟨g2,m2,l2,f2,r2,d2⟩:=oz m n1.mr n1.le n1.fl r1
  exact ⟨x,g2,e1,⟨m2,l2,f2⟩,r2,m1.mono d2⟩
def lh (B:aw) (m fn:Nat) (b:Code) (s:St):Tr Out:=(na (uV B m) (Bz B m) fn b s).bind fun o=>.ret (Iv s.hp.heap.length o)
theorem Gq {B:aw} (hB:aW B) {m fn:Nat} {b:Code} {s:St} {out:Out} (h1:(lh B m fn b s).get=some out):qK B.P b s out:=by
 obtain ⟨i1,i2,i3⟩:=vN hB m
 have ok:nK (uV B m):=⟨hB.pj,hB.named,hB.pf,i1⟩
 unfold lh at h1
 simp only [get_bind,au,B',A'] at h1
 obtain ⟨o,h1,rfl⟩:=h1
 have hc:=nu ok i2 i3 fn b s o h1
 intro ro g w a W0 mr ht mk hW hro
 exact wpIn_mono (hc ro g w a W0 mr ht mk hW hro) fun e a1 w1 hp=>hp.cut mr
theorem ay.abo {P:Program} {b:Code} {s s1:St} {out:Out} (hc:qK P b s (.norm s1)) (h2:ay P b s1 out):ay P b s out:=by
 intro ro g w a W0 mr ht mk hW hro
 refine eK (wpIn_mono (hc ro g w a W0 mr ht mk hW hro) ?_)
 rintro e a1 w1 ⟨rfl,g1,nx,hr,mk1⟩
 have:=h2 ro g1 w1 a1 W0 nx.mr hr mk1 (Nat.le_trans hW nx.le.below.size) (fun c hc=>let ⟨l,hl⟩:=hro c hc; ⟨l,nx.le.loops _ _ hl⟩)
 exact gG this fun e a2 w2 hp2=>hp2.nx nx
theorem ay.abZ {P:Program} {b:Code} {s:St} {out:Out} (hc:qK P b s out) (hn:∀ s1,out≠.norm s1):ay P b s out:=by
 intro ro g w a W0 mr ht mk hW hro
 refine eK (wpIn_mono (hc ro g w a W0 mr ht mk hW hro) ?_)
 intro e a1 w1 hp
 cases out with
 | norm s1=>exact absurd rfl (hn s1)
 | ret s1=>obtain ⟨rfl,rest⟩:=hp;exact ⟨rfl,rest⟩
 | exit i s1=>obtain ⟨rfl,rest⟩:=hp;exact ⟨rfl,rest⟩
 | panic v h=>obtain ⟨x,g1,rfl,rest⟩:=hp;exact ⟨x,g1,rfl,rest⟩
def aae:AV→Nat
 | .any=>0 | .undef=>1 | .bool _=>2 | .aL _=>2 | .int .. => 3 | .aE .. => 3 | .u64 _=>4 | .str _=>5 | .agg _=>6 | .ints .. => 7
 | .ptr b o=>100+16 * b+o | .ptri .. => 8 | .ptrf _=>9 | .nilptr=>10 | .slf _=>19 | .list .. => 11 | .vlist .. => 12 | .vany _ l=>5000+l.length | .vsl .. => 13 | .nilsl=>14
 | .func f _ _=>1000+f | .yield l=>50+l | .nilfunc=>15 | .iface .. => 16 | .niliface=>17 | .tuple _=>18 | .itr .. => 20
def Xb (js:List Nat) (s:St):List Nat:=js.map (fun j=>aae (s.tmps.getD j .any))++s.hp.heap.flatMap (fun b=>b.length::b.map aae)++s.hp.loops.map (·.fn)
theorem fu {P:Program} {c:St→Bool} {F G:Code→St→Tr Out} (hF:∀ b,aM P b (F b)) (hG:∀ b,aM P b (G b)):∀ b,aM P b (fun s=>bif c s then F b s else G b s):=by
 intro b s out h
 simp only at h
 cases hc:c s with
 | true=>rw [hc] at h;exact hF b s out h
 | false=>rw [hc] at h;exact hG b s out h
theorem nL {P:Program}:∀ b,aM P b (fun _=>.fail):=fun _ _ _ h=>by cases h
inductive aG (X R:Type) where
 | go (x:X)
 | out (r:R)
 | bad
def cO {X R:Type} (step:X→aG X R):Nat→X→Option R
 | 0,_=>none
 | n+1,x=>match step x with
  | .go y=>cO step n y
  | .out r=>some r
  | .bad=>none
def RL {X R:Type} (S:X→St) (O:R→Out) (o:Out) (st:aG X R):Prop :=
 match st with
 | .go y=>∃ s1,o=.norm s1∧sN s1 (S y)
 | .out r=>(∀ s,o≠.norm s)∧WkO o (O r)
 | .bad=>False
theorem Di {X R:Type} {S:X→St} {O:R→Out} {s1:St} {y:X} (h:sN s1 (S y)):RL S O (.norm s1) (.go y):=⟨s1,rfl,h⟩
theorem xI {X R:Type} {S:X→St} {O:R→Out} {s1 t:St} {id:Nat} {r:R} (e:O r=.exit id t) (h:sN s1 t):RL S O (.exit id s1) (.out r) :=
 ⟨fun s=>by simp,by rw [e];exact ⟨rfl,h⟩⟩
theorem yT {X R:Type} {S:X→St} {O:R→Out} {v v':AV} {h h':Hp} {r:R} (e:O r=.panic v' h') (hw:sN ⟨[v],h⟩ ⟨[v'],h'⟩):RL S O (.panic v h) (.out r) :=
 ⟨fun s=>by simp,by rw [e];exact hw⟩
theorem ay.cO {B:aw} (hB:aW B) {m fn:Nat} {b:Code} {X R:Type} {S:X→St} {O:R→Out} {ok:X→Bool} {st:X→aG X R}
  (h:∀ x,gZ (RL S O) (na (uV B m) (Bz B m) fn b (S x)) (ok x) (st x)) :
  ∀ (n:Nat) (x:X) (r:R),cO (fun x=>bif ok x then st x else .bad) n x=some r→ay B.P b (S x) (O r)
 | 0,x,r,hi=>by simp [Kz.cO] at hi
 | n+1,x,r,hi=>by
  rw [Kz.cO] at hi
  cases hok:ok x with
  | false=>rw [hok] at hi;simp at hi
  | true =>
   rw [hok] at hi
   simp only [cond_true] at hi
   obtain ⟨o,h1,h2⟩:=h x hok
   cases hs:st x with
   | go y =>
    rw [hs] at hi h2
    obtain ⟨s1,rfl,hw⟩:=h2
    exact ay.step hB h1 (ay.wk hw (ay.cO hB h n y r hi))
   | out r' =>
    rw [hs] at hi h2
    simp only [A'] at hi
    subst hi
    obtain ⟨hn,hw⟩:=h2
    exact ay.out hw (ay.stop hB h1 hn)
   | bad=>rw [hs] at h2;exact h2.elim
def many:Nat:=4294967296
theorem cR {α:Type} [Inhabited α] {o:Option α} (h:o.isSome=true):o=some (o.getD default):=by
 cases o with
 | none=>cases h
 | some a=>rfl
def WkF:bY→bY→Prop
 | .ret v h,.ret v' h'=>sN ⟨[v],h⟩ ⟨[v'],h'⟩
 | .panic v h,.panic v' h'=>sN ⟨[v],h⟩ ⟨[v'],h'⟩
 | _,_=>False
theorem du.wk {P:Program} {f:Nat} {as1 as':List AV} {h h':Hp} {res:bY} (hs:du P f as' h' res) (hw:sN ⟨as1,h⟩ ⟨as',h'⟩):du P f as1 h res:=by
 intro g w cd m hr
 have hx:=hs g w cd (m.wk (s:=⟨as1,h⟩) (t:=⟨as',h'⟩) hw) (by rw [show h'.al=h.al from hw.al];exact hr.wk hw.tmps)
 refine hx.mono ?_
 intro e w' hp
 have nx:∀ {g' h2},Nx g h' w g' h2 w'→Nx g h w g' h2 w':=fun n=>⟨n.mr,by have:=n.le;rw [show h'.al=h.al from hw.al] at this;exact this,Fl.wk (s:=⟨as1,h⟩) (t:=⟨as',h'⟩) hw n.fl⟩
 cases res with
 | ret v h2=>obtain ⟨g',x,rfl,n,q⟩:=hp;exact ⟨g',x,rfl,nx n,q⟩
 | panic v h2=>obtain ⟨g',x,rfl,n,q⟩:=hp;exact ⟨g',x,rfl,nx n,q⟩
theorem du.out {P:Program} {f:Nat} {as1:List AV} {h:Hp} {res res':bY} (hs:du P f as1 h res) (hw:WkF res res'):du P f as1 h res':=by
 intro g w cd m hr
 refine (hs g w cd m hr).mono ?_
 intro e w' hp
 cases res with
 | ret v h2 =>
  cases res' with
  | ret v' h2' =>
   obtain ⟨g',x,rfl,n,q⟩:=hp
   refine ⟨g',x,rfl,Nx.wk (s:=⟨[v],h2⟩) (t:=⟨[v'],h2'⟩) hw n,?_⟩
   have:=hw.tmps
   cases this with
   | cons a _=>rw [show h2'.al=h2.al from hw.al];exact a _ _ _ _ q
  | panic=>exact hw.elim
 | panic v h2 =>
  cases res' with
  | panic v' h2' =>
   obtain ⟨g',x,rfl,n,q⟩:=hp
   refine ⟨g',x,rfl,Nx.wk (s:=⟨[v],h2⟩) (t:=⟨[v'],h2'⟩) hw n,?_⟩
   have:=hw.tmps
   cases this with
   | cons a _=>rw [show h2'.al=h2.al from hw.al];exact a _ _ _ _ q
  | ret=>exact hw.elim
def RF {Y:Type} (O:Y→bY) (res:bY) (y:Y):Prop:=WkF res (O y)
theorem U2 {Y:Type} {O:Y→bY} {v v':AV} {h h':Hp} {y:Y} (e:O y=.ret v' h') (hw:sN ⟨[v],h⟩ ⟨[v'],h'⟩):RF O (.ret v h) y:=by
 unfold RF;rw [e];exact hw
theorem zw {P:Program} {f:Nat}:gT P f (fun _ _=>.fail):=fun _ _ _ h=>by cases h
def L8 (n:Nat):bY→bY
 | .ret v h=>.ret v (oa n v h)
 | .panic v h=>.panic v (oa n v h)
theorem du.cut {P:Program} {f:Nat} {as1:List AV} {h:Hp} {res:bY} (hs:du P f as1 h res):du P f as1 h (L8 h.heap.length res):=by
 intro g w cd m hr
 refine (hs g w cd m hr).mono ?_
 intro e w' hp
 cases res with
 | ret v h2 =>
  obtain ⟨g',x,rfl,n,q⟩:=hp
  obtain ⟨g2,m2,l2,f2,r2,_⟩:=oz m n.mr n.le n.fl q
  exact ⟨g2,x,rfl,⟨m2,l2,f2⟩,r2⟩
 | panic v h2 =>
  obtain ⟨g',x,rfl,n,q⟩:=hp
  obtain ⟨g2,m2,l2,f2,r2,_⟩:=oz m n.mr n.le n.fl q
  exact ⟨g2,x,rfl,⟨m2,l2,f2⟩,r2⟩
def zu (B:aw) (n f:Nat) (as1:List AV) (h:Hp):Tr bY:=(O2 B n f as1 h).bind fun r=>.ret (L8 h.heap.length r)
theorem O0 {B:aw} (hB:aW B) {n f:Nat} {as1:List AV} {h:Hp} {T:Tr bY} {Y:Type} {O:Y→bY} {ok:Bool} {y:Y}
  (he:zu B n f as1 h=T) (hg:gZ (RF O) T ok y) (hok:ok=true):du B.P f as1 h (O y)∧∃ fn,B.P.funcs[f]?=some fn∧fn.body.isSome=true:=by
 obtain ⟨v,h1,h2⟩:=hg hok
 rw [← he] at h1
 unfold zu at h1
 simp only [get_bind,au,B',A'] at h1
 obtain ⟨r,h1,rfl⟩:=h1
 obtain ⟨h3,h4⟩:=(vN hB n).1 _ _ _ _ h1
 exact ⟨h3.cut.out h2,h4⟩
noncomputable section
variable {α V:Type} {R:α→V→Prop}
end
def RD {α:Type} (d:D α) (v:AV) (x:α):Prop:=d.dec v=some x
theorem rJ {B:aw} (hB:aW B) {n f:Nat} {as1:List AV} {T:Tr AV} {α:Type} {d:D α} {ok:Bool} {x:α} (he:db B n f as1=T) (hg:gZ (RD d) T ok x) (h:ok=true):PS B.P f as1 (d.res x):=by
 obtain ⟨v,h1,h2⟩:=hg h
 exact HO hB (by rw [he];exact h1) d h2
abbrev tI:AV→Int
 | .int _ n | .aE _ n=>n
 | _=>0
abbrev tB:AV→Bool
 | .bool b | .aL b=>b
 | _=>false
abbrev tU:AV→BitVec 64
 | .u64 x=>x
 | _=>0
abbrev tL (e:ET):AV→List e.T
 | .list e' l _=>if h:e'=e then h ▸ l else []
 | _=>[]
abbrev tN:AV→List Int
 | .ints _ _ l=>l
 | _=>[]
abbrev tA:AV→List AV
 | .agg l=>l
 | _=>[]
abbrev tV:AV→List AV
 | .vlist _ l=>l
 | .vany _ l=>l
 | .tuple l=>l
 | _=>[]
abbrev tT (s:St) (i:Nat):AV:=s.tmps.getD i .any
abbrev tH (s:St) (b i:Nat):AV:=(s.hp.heap.getD b []).getD i .any
abbrev tK (s:St) (k:Nat):Nat:=s.hp.al.getD k 0
abbrev tX (l:List AV) (i:Nat):AV:=l.getD i .any
@[reducible] def li (l:List Int):List Int:=l
def Tw {α β γ:Type} (d:AV→Option α) (e:AV→Option β) (f:AV→Option γ):AV→Option (α×β×γ)
 | .tuple [a,b,c]=>(d a).bind fun x=>(e b).bind fun y=>(f c).map fun z=>(x,y,z)
 | _=>none
def d3 {α β γ:Type} (d:D α) (e:D β) (f:D γ):D (α×β×γ) where
 arg p := .tuple [d.arg p.1,e.arg p.2.1,f.arg p.2.2]
 res p := .tuple [d.res p.1,e.res p.2.1,f.res p.2.2]
 dec:=Tw d.dec e.dec f.dec
 ok a x h g tk w c hr:=by
  unfold Tw at h
  split at h
  ·simp only [B',H'] at h
   obtain ⟨x,h1,y,h2,z,h3,rfl⟩:=h
   cases hr with
   | tuple hl =>
    rename_i a b c vs
    obtain ⟨l⟩:=vs
    cases hl with
    | cons q r=>cases r with | cons q2 r2=>cases r2 with | cons q3 r3=>cases r3;exact .tuple (.cons (d.ok _ _ h1 _ _ _ _ q) (.cons (e.ok _ _ h2 _ _ _ _ q2) (.cons (f.ok _ _ h3 _ _ _ _ q3) .nil)))
  ·cases h
 y9 a x h hf g w c hr:=by
  unfold Tw at h
  split at h
  ·simp only [B',H'] at h
   obtain ⟨x,h1,y,h2,z,h3,rfl⟩:=h
   simp only [bz,cN,E'] at hf
   cases hr with
   | tuple hl =>
    rename_i a b c vs
    obtain ⟨l⟩:=vs
    cases hl with
    | cons q r=>cases r with | cons q2 r2=>cases r2 with | cons q3 r3=>cases r3;exact .tuple (.cons (d.y9 _ _ h1 hf.1 _ _ _ q) (.cons (e.y9 _ _ h2 hf.2.1 _ _ _ q2) (.cons (f.y9 _ _ h3 hf.2.2.1 _ _ _ q3) .nil)))
  ·cases h
def qn (m:Pos×BitVec 64×BitVec 64):AV := .agg (bx (Pos.av m.1)++[.u64 m.2.1,.u64 m.2.2])
def CY:AV→Option (Pos×BitVec 64×BitVec 64)
 | .agg [v,.ints .u8 64 bd,.u64 pr,.ints .u8 12 pk,tn,.ints .i8 4 rk,ps,.ints .u8 2 ck,hf,fl,.u64 a,.u64 b] =>
  if kindOk .u8 v&&kindOk .u8 tn&&kindOk .i8 ps&&kindOk .i64 hf&&kindOk .i64 fl then
   (pw v).bind fun v=>(pw tn).bind fun tn=>(pw ps).bind fun ps=>(pw hf).bind fun hf=>(pw fl).map fun fl=>(⟨v,bd,pr,pk,tn,rk,ps,ck,hf,fl⟩,a,b)
  else none
 | _=>none
theorem uP {g:Gh} {tk:List Nat} {w:World} {v:AV} {m:Pos×BitVec 64×BitVec 64} (h:CY v=some m) {c:Value} (hr:aP g tk w v c):aP g tk w (qn m) c:=by
 unfold CY at h
 split at h
 ·rename_i v bd pr pk tn rk ps ck hf fl a b
  simp only [Option.ite_none_right_eq_some,E',B',H'] at h
  obtain ⟨⟨⟨⟨⟨k1,k2⟩,k3⟩,k4⟩,k5⟩,v',hv,tn',htn,ps',hps,hf',hhf,fl',hfl,rfl⟩:=h
  obtain ⟨cs,rfl,hc⟩:=hr.e7
  refine .agg ?_
  have i:=fun (a:AV) (n:Int) (k:IntKind) (hk:kindOk k a=true) (ha:pw a=some n) (c:Value) (hc:aP g tk w a c)=>(fG hk ha hc) ▸ (aP.int (g:=g) (tk:=tk) (w:=w) k n)
  revert hc
  exact ax.swap (bm hv) rfl (i _ _ _ k1 hv) fun _=>ax.keep fun _=>ax.swap rfl rfl (fun _ h=>h) fun _=>ax.keep fun _=>ax.swap (bm htn) rfl (i _ _ _ k2 htn) fun _=>ax.keep fun _ =>
   ax.swap (bm hps) rfl (i _ _ _ k3 hps) fun _=>ax.keep fun _=>ax.swap (bm hhf) rfl (i _ _ _ k4 hhf) fun _=>ax.swap (bm hfl) rfl (i _ _ _ k5 hfl) fun _ h=>h
 ·cases h
def zN:D (Pos×BitVec 64×BitVec 64) where
 arg:=qn
 res:=qn
 dec:=CY
 ok _ _ h _ _ _ _ hr:=uP h hr
 y9 _ _ h _ _ _ _ hr:=uP h hr
def HW (m:List UInt8×Bool×Bool×Bool×Bool×Bool×Int):AV := .agg [.str m.1,.bool m.2.1,.bool m.2.2.1,.bool m.2.2.2.1,.bool m.2.2.2.2.1,.bool m.2.2.2.2.2.1,.int .u8 m.2.2.2.2.2.2]
def toVar:AV→Option (List UInt8×Bool×Bool×Bool×Bool×Bool×Int)
 | .agg [.str s,a,b,c,d,e,k] =>
  if kindOk .u8 k then
   (yE a).bind fun a=>(yE b).bind fun b=>(yE c).bind fun c=>(yE d).bind fun d=>(yE e).bind fun e=>(pw k).map fun k=>(s,a,b,c,d,e,k)
  else none
 | _=>none
theorem vL {g:Gh} {tk:List Nat} {w:World} {v:AV} {m:List UInt8×Bool×Bool×Bool×Bool×Bool×Int} (h:toVar v=some m) {c:Value} (hr:aP g tk w v c):aP g tk w (HW m) c:=by
 unfold toVar at h
 split at h
 ·rename_i s a b c d e k
  simp only [Option.ite_none_right_eq_some,B',H'] at h
  obtain ⟨k1,a',ha,b',hb,c',hc,d',hd,e',he,k',hk,rfl⟩:=h
  obtain ⟨cs,rfl,hc'⟩:=hr.e7
  refine .agg ?_
  have i:=fun (a:AV) (x:Bool) (ha:yE a=some x) (c:Value) (hc:aP g tk w a c)=>(rS ha hc) ▸ (aP.bool (g:=g) (tk:=tk) (w:=w) x)
  revert hc'
  exact ax.swap rfl rfl (fun _ h=>h) fun _=>ax.swap (eQ ha) rfl (i _ _ ha) fun _=>ax.swap (eQ hb) rfl (i _ _ hb) fun _=>ax.swap (eQ hc) rfl (i _ _ hc) fun _=>ax.swap (eQ hd) rfl (i _ _ hd) fun _=>ax.swap (eQ he) rfl (i _ _ he) fun _ =>
   ax.swap (bm hk) rfl (fun c hc=>(fG k1 hk hc) ▸ (aP.int (g:=g) (tk:=tk) (w:=w) .u8 k')) fun _ h=>h
 ·cases h
def Xj:D (List UInt8×Bool×Bool×Bool×Bool×Bool×Int) where
 arg:=HW
 res:=HW
 dec:=toVar
 ok _ _ h _ _ _ _ hr:=vL h hr
 y9 _ _ h _ _ _ _ hr:=vL h hr
def lz (i:Nat):Code→Option (Code×Code)
 | .seq a b=>match lz i a with
  | some c=>some c
  | none=>lz i b
 | .cond _ a b=>match lz i a with
  | some c=>some c
  | none=>lz i b
 | .block _ b=>lz i b
 | .scope b=>lz i b
 | .loop b=>lz i b
 | .rangeFunc _ _ a b=>if MM b=some i then some (a,b) else match lz i a with
  | some c=>some c
  | none=>lz i b
 | _=>none
def qR (P:Program) (f i:Nat):Code:=((lz i (C3 P f)).getD (.skip,.skip)).1
def qU (P:Program) (f i:Nat):Code:=((lz i (C3 P f)).getD (.skip,.skip)).2
theorem ay.Zt {B:aw} (hB:aW B) {m fn:Nat} {b:Code} {X R:Type} {S:X→St} {O:R→Out} {ok:X→Bool} {st:X→aG X R}
  (h:∀ x,gZ (RL S O) (lh B m fn b (S x)) (ok x) (st x)) :
  ∀ (n:Nat) (x:X) (r:R),Kz.cO (fun x=>bif ok x then st x else .bad) n x=some r→ay B.P b (S x) (O r)
 | 0,x,r,hi=>by simp [Kz.cO] at hi
 | n+1,x,r,hi=>by
  rw [Kz.cO] at hi
  cases hok:ok x with
  | false=>rw [hok] at hi;simp at hi
  | true =>
   rw [hok] at hi
   simp only [cond_true] at hi
   obtain ⟨o,h1,h2⟩:=h x hok
   have hc:=Gq hB h1
   cases hs:st x with
   | go y =>
    rw [hs] at hi h2
    obtain ⟨s1,rfl,hw⟩:=h2
    exact ay.abo hc (ay.wk hw (ay.Zt hB h n y r hi))
   | out r' =>
    rw [hs] at hi h2
    simp only [A'] at hi
    subst hi
    obtain ⟨hn,hw⟩:=h2
    exact ay.out hw (ay.abZ hc hn)
   | bad=>rw [hs] at h2;exact h2.elim
noncomputable section
variable {g:Gh} {h:Hp} {w:World}
theorem MR.Pt (m:MR g h w) {cap z:Nat} (hmax:cap≤maxLen) {cells:Array Value} {ty:TypeId} (hs:CS z cap cells.size ty) (w1:World) (hw:w1=w∨w1=w.drew) :
  MR { g with own:=g.own++[some (w.heap.size,cap,z)] } { h with al:=h.al++[0] } (w1.alloc (.cells cells ty)) ∧
   Le g h.al w { g with own:=g.own++[some (w.heap.size,cap,z)] } (h.al++[0]) (w1.alloc (.cells cells ty)):=by
 have hsize:w1.heap.size=w.heap.size:=by rcases hw with rfl | rfl<;>rfl
 have m1:MR g h (w1.alloc (.cells cells ty))∧Le g h.al w g h.al (w1.alloc (.cells cells ty)):=by
  rcases hw with rfl | rfl
  ·exact m.alloc _
  ·obtain ⟨a,b⟩:=m.drew
   obtain ⟨c,d⟩:=a.alloc (.cells cells ty)
   exact ⟨c,b.trans d⟩
 obtain ⟨m1,l1⟩:=m1
 have hnew:(w1.alloc (.cells cells ty)).heap[w.heap.size]?=some (.cells cells ty (0,0)):=by
  rw [← hsize];exact heap_alloc_new w1 _
 have l2:Le g h.al (w1.alloc (.cells cells ty)) { g with own:=g.own++[some (w.heap.size,cap,z)] } (h.al++[0]) (w1.alloc (.cells cells ty)) :=
  ⟨rfl,Below.refl _ _,fun _ _ x=>x,fun _ _ _ _ x=>x,fun _ _ x=>x,fun _ _ x=>x,fun _ x=>x,fun k n x=>⟨n,by
   rw [List.getElem?_append_left (C'.1 x).1];exact x,Nat.le_refl _,fun _=>by
   have:=(C'.1 x).1
   simp only
   rw [List.getElem?_append_left (by rw [m.eI];exact this)]⟩,fun _ _ _=>rfl⟩
 have notvar:w.heap.size∉g.vars:=fun hv=>by
  obtain ⟨i,hi⟩:=List.getElem?_of_mem hv
  have hi':=(C'.1 hi).1
  obtain ⟨_,_,_,d,_⟩:=m.var i _ _ hi (I' (by rw [← m.dC];exact hi'))
  exact absurd (aV d) (Nat.lt_irrefl _)
 have notown:∀ (j c z':Nat),g.own[j]?≠some (some (w.heap.size,c,z')):=fun j c z' x=>by
  obtain ⟨_,_,_,_,_,_,_,d,_⟩:=m.tok j _ c z' x
  exact absurd (aV d) (Nat.lt_irrefl _)
 have new:∀ (k:Nat) x,(g.own++[some (w.heap.size,cap,z)])[k]?=some x→g.own[k]?=some x∨(k=g.own.length∧x=some (w.heap.size,cap,z)):=by
  intro i c' x
  rcases Nat.lt_or_ge i g.own.length with h' | h'
  ·rw [List.getElem?_append_left h'] at x;exact .inl x
  ·rw [List.getElem?_append_right h'] at x
   obtain ⟨a,b⟩:=C'.1 x
   simp at a b
   exact .inr ⟨by omega,b.symm⟩
 have hle:=l1.trans l2
 refine ⟨⟨m1.base,m1.fJ,m1.dC,fun i c l h1 h2=>?_,m1.vb,by simp [m.eI],fun k h1=>?_,fun k b cap' z' h1=>?_,fun k k' b c1 z1 c2 z2 h1 h2=>?_,m1.gI,fun l c r h1 h2=>?_,m1.vi,m1.defs,fun p hp=>(m.iN p hp).mono hle⟩,hle⟩
 ·obtain ⟨a,b,o,d,e⟩:=m1.var i c l h1 h2
  exact ⟨a,b,o,d,e.mono l2⟩
 ·rcases new k _ h1 with a | ⟨_,e⟩
  ·obtain ⟨n,this⟩:=m.jJ k a
   refine ⟨n,?_⟩
   show (h.al++[0])[k]?=_
   rw [List.getElem?_append_left (C'.1 this).1]
   exact this
  ·cases e
 ·rcases new k _ h1 with a | ⟨e1,e2⟩
  ·obtain ⟨n,cs,t,h2,h3⟩:=m1.tok k b cap' z' a
   refine ⟨n,cs,t,?_,h3⟩
   show (h.al++[0])[k]?=_
   rw [List.getElem?_append_left (C'.1 h2).1]
   exact h2
  ·simp only [A',Prod.mk.injEq] at e2
   obtain ⟨rfl,rfl,rfl⟩:=e2
   refine ⟨0,cells,ty,?_,Nat.zero_le _,hmax,m.base,hnew,hs,fun o x=>absurd (m.fJ _ _ x) (Nat.lt_irrefl _),notvar⟩
   show (h.al++[0])[k]?=_
   rw [e1,m.eI];simp
 ·rcases new k _ h1 with a | ⟨e1,e2⟩<;>rcases new k' _ h2 with b' | ⟨e3,e4⟩
  ·exact m1.vg k k' b c1 z1 c2 z2 a b'
  ·simp only [A',Prod.mk.injEq] at e4
   obtain ⟨rfl,rfl,rfl⟩:=e4
   exact absurd a (notown k c1 z1)
  ·simp only [A',Prod.mk.injEq] at e2
   obtain ⟨rfl,rfl,rfl⟩:=e2
   exact absurd b' (notown k' c2 z2)
  ·omega
 ·obtain ⟨a,R,b,d⟩:=m1.loop l c r h1 h2
  exact ⟨a,R,b,d.mono l2⟩
end
end Kz
end
noncomputable section
namespace Kz
open Go
@[reducible] def rn (a n:Nat) (l:List Nat):List Nat:=match n with
 | 0=>l
 | n+1=>a::rn (a+1) n l
@[reducible] def an (n:Nat) (l:List AV):List AV:=match n with
 | 0=>l
 | n+1=>AV.any::an n l
@[reducible] def pc (p:Pos) (l:List AV):List AV:=AV.int .u8 p.variant::AV.ints .u8 64 p.ae::AV.u64 p.ab::AV.ints .u8 12 p.af::AV.int .u8 p.aa::AV.ints .i8 4 p.ai::AV.int .i8 p.ah::AV.ints .u8 2 p.ag::AV.int .i64 p.half::AV.int .i64 p.full::l
@[reducible] def zpB:List AV:=[AV.int .u8 0,AV.ints .u8 64 (li (List.replicate 64 0)),AV.u64 0,AV.ints .u8 12 (li [0,0,0,0,0,0,0,0,0,0,0,0]),AV.int .u8 0,AV.ints .i8 4 (li [0,0,0,0]),AV.int .i8 0,AV.ints .u8 2 (li [0,0]),AV.int .i64 0,AV.int .i64 0]
@[reducible] def zI65:List Int:=[1,0,0,0,0,0,0,0,0,0,0,0,0,0,0,0,0,0,0,0,0,0,0,0,0,0,0,0,0,0,0,0,0,0,0,0,0,0,0,0,0,0,0,0,0,0,0,0,0,0,0,0,0,0,0,0,0,0,0,0,0,0,0,0,0]
@[reducible] def zIbd:List Int:=[4,2,3,5,6,3,2,4,1,1,1,1,1,1,1,1,0,0,0,0,0,0,0,0,0,0,0,0,0,0,0,0,0,0,0,0,0,0,0,0,0,0,0,0,0,0,0,0,9,9,9,9,9,9,9,9,12,10,11,13,14,11,10,12]
@[reducible] def zU8:List UInt8:=[8,8,8,8,8,8,8,8,8,8,8,8,8,8,8,8,8,8,8,8,8,8,8,8,8,8,8,8,8,8,8,8,8,8,8,8,8,8,8,8,8,8,8,8,8,8,8,8,8,8,8,8,8,8,8,8,8,8,8,8,8,8,8,8]
@[reducible] def zU7:List UInt8:=[7,7,7,7,7,7,7,7,7,7,7,7,7,7,7,7,7,7,7,7,7,7,7,7,7,7,7,7,7,7,7,7,7,7,7,7,7,7,7,7,7,7,7,7,7,7,7,7,7,7,7,7,7,7,7,7,7,7,7,7,7,7,7,7]
end Kz
end
noncomputable section
namespace Kz
open Go Go.RowKit
inductive Qt where
 | tt | ff
 | q (b:Bool) (t:Qt) | n (b:Bool) (t:Qt) | i (b:Bool) (t e:Qt) | w (t:Qt)
def Qt.val:Qt→Bool
 | .tt=>true
 | .ff=>false
 | .q b t=>b&&t.val
 | .n b t => !b&&t.val
 | .i b t e=>bif b then t.val else e.val
 | .w t=>t.val
def Qt.isT:Qt→Bool
 | .tt=>true
 | _=>false
def Qt.two (b:Bool) (t e:Qt):Qt:=match t.isT,e.isT with
 | true,true=>.tt
 | _,_=>.i b t e
theorem Qt.Nz (b:Bool) (t e:Qt):(Qt.two b t e).val=bif b then t.val else e.val:=by
 cases t<;>cases e<;>first | rfl | (cases b<;>rfl)
namespace Tr
def WK {α:Type}:Tr α→Bool
 | .fail=>true
 | _=>false
abbrev qt {α V:Type} (d:α→Option V) (t:Tr α):Qt :=
 Tr.rec (motive:=fun _=>Qt) (fun a=>Option.rec .ff (fun _=>.tt) (d a)) .ff (fun b t e qt qe=>Bool.rec (Bool.rec (Qt.two b qt qe) (.n b qe) t.WK) (.q b qt) e.WK) (fun _ _ _ _ _ _ qt=>.w qt) t
abbrev vt {α V:Type} [Inhabited V] (d:α→Option V) (t:Tr α):V :=
 Tr.rec (motive:=fun _=>V) (fun a=>Option.rec default (fun v=>v) (d a)) default (fun b t e vt ve=>Bool.rec (Bool.rec (bif b then vt else ve) ve t.WK) vt e.WK) (fun _ _ _ _ _ _ vt=>vt) t
def vl {α:Type}:Tr α→List (Bool×Code×Code×St×St)
 | .ret _=>[]
 | .fail=>[]
 | .br _ t e=>t.vl++e.vl
 | .ck c b b' s s' t=>(c,b,b',s,s')::t.vl
def og {α:Type}:Tr α→List α
 | .ret a=>[a]
 | .fail=>[]
 | .br _ t e=>t.og++e.og
 | .ck _ _ _ _ _ t=>t.og
end Tr
theorem wR {α V:Type} [Inhabited V] {d:α→Option V} {R:α→V→Prop}:∀ (T:Tr α),(∀ x∈T.vl,x.1=true)→(∀ a∈T.og,∀ v,d a=some v→R a v)→gZ R T (T.qt d).val (T.vt d)
 | .ret a,_,hr=>by
  intro h
  have hd':∀ o:Option V,d a=o→((Option.rec .ff (fun _=>.tt) o:Qt).val=true)→∃ v,(Tr.ret a).get=some v∧R v (Option.rec default (fun v=>v) o:V):=by
   intro o hd h
   cases o with
   | none=>cases h
   | some v=>exact ⟨a,rfl,hr a (by simp [Tr.og]) v hd⟩
  exact hd' (d a) rfl h
 | .fail,_,_=>fun h=>by cases h
 | .br b t e,hk,hr=>by
  have h1:=wR t (fun x hx=>hk x (by simp [Tr.vl,hx])) (fun a ha=>hr a (by simp [Tr.og,ha]))
  have h2:=wR e (fun x hx=>hk x (by simp [Tr.vl,hx])) (fun a ha=>hr a (by simp [Tr.og,ha]))
  have key:∀ x y:Bool,e.WK=x→t.WK=y→gZ R (.br b t e) (Bool.rec (Bool.rec (Qt.two b (t.qt d) (e.qt d)) (.n b (e.qt d)) y) (.q b (t.qt d)) x:Qt).val (Bool.rec (Bool.rec (bif b then t.vt d else e.vt d) (e.vt d) y) (t.vt d) x):=by
   intro x y he ht
   cases x with
   | true =>
    have:e=.fail:=by cases e<;>first | rfl | cases he
    subst this
    exact bL h1
   | false =>
    cases y with
    | true =>
     have:t=.fail:=by cases t<;>first | rfl | cases ht
     subst this
     exact jN h2
    | false =>
     have h:=je (b:=b) h1 h2
     rw [← Qt.Nz] at h
     exact h
  exact key _ _ rfl rfl
 | .ck c b b' s s' t,hk,hr=>by
  have h1:=wR t (fun x hx=>hk x (by simp [Tr.vl,hx])) (fun a ha=>hr a (by simp [Tr.og,ha]))
  have hc:c=true:=hk (c,b,b',s,s') (by simp [Tr.vl])
  subst hc
  exact h1
def zW (a:AV):AV→AV
 | .int _ _=>match a with
  | .aE k n=>.int k n
  | a=>a
 | .bool _=>match a with
  | .aL b=>.bool b
  | a=>a
 | _=>a
def sc:List AV→List AV→List AV
 | a::l,b::m=>zW a b::sc l m
 | l,_=>l
def To (a:AV):AV→AV
 | .any=>.any
 | .agg m=>match a with
  | .agg l=>.agg (sc l m)
  | a=>a
 | b=>zW a b
def FK:List AV→List AV→List AV
 | a::l,b::m=>To a b::FK l m
 | l,_=>l
def FA:List (List AV)→List (List AV)→List (List AV)
 | a::l,b::m=>sc a b::FA l m
 | l,_=>l
def CM (s t:St):St:=⟨FK s.tmps t.tmps,{ s.hp with heap:=match Nat.beq s.hp.lo 0 with
 | true=>FA s.hp.heap t.hp.heap
 | false=>s.hp.heap }⟩
theorem su (a b:AV):zW a b=a∨(∃ k n,a=.aE k n∧zW a b=.int k n)∨∃ x,a=.aL x∧zW a b=.bool x:=by
 unfold zW
 split
 ·split
  ·exact .inr (.inl ⟨_,_,rfl,rfl⟩)
  ·exact .inl rfl
 ·split
  ·exact .inr (.inr ⟨_,rfl,rfl⟩)
  ·exact .inl rfl
 ·exact .inl rfl
theorem Dr (a b:AV):iP a (zW a b):=by
 rcases su a b with h | ⟨k,n,rfl,h⟩ | ⟨x,rfl,h⟩<;>rw [h]
 ·exact iP.refl _
 ·exact iP.aE k n
 ·exact iP.aL x
theorem rN:∀ l m:List AV,Af l (sc l m)
 | [],_=>by unfold sc;exact Af.refl _
 | a::l,[]=>by unfold sc;exact Af.refl _
 | a::l,b::m=>by
  unfold sc
  intro g tk w c hr
  cases hr with
  | ints h1 h2 h3 =>
   have:∀ k n x,zW (.ints k n x) b=.ints k n x:=fun k n x=>by cases b<;>rfl
   rw [this]
   exact .ints h1 h2 (rN l m g tk w _ h3)
  | one h1 h2 h3 =>
   refine .one ?_ (Dr a b g tk w _ h2) (rN l m g tk w _ h3)
   rcases su a b with h | ⟨k,n,rfl,h⟩ | ⟨x,rfl,h⟩<;>rw [h]
   ·exact h1
   ·rfl
   ·rfl
theorem OY (a:AV):∀ b:AV,iP a (To a b):=by
 intro b
 unfold To
 split
 ·exact iP.any _
 ·split
  ·exact iP.agg (rN _ _)
  ·exact iP.refl _
 ·exact Dr _ _
theorem yv:∀ l m:List AV,fH iP l (FK l m)
 | [],_=>by unfold FK;exact .nil
 | a::l,[]=>by unfold FK;exact fH.same iP.refl _
 | a::l,b::m=>by unfold FK;exact .cons (OY a b) (yv l m)
theorem Hw {a b:List AV} (h:kT a=none):sc a b=a:=by
 unfold kT at h
 split at h
 ·cases b with
  | nil=>rfl
  | cons x b =>
   have e:∀ m,sc [] m=[]:=fun m=>by unfold sc;rfl
   unfold sc
   rw [e]
   cases x<;>rfl
 ·cases h
theorem DA:∀ l m:List (List AV),fH PH l (FA l m)
 | [],_=>by unfold FA;exact .nil
 | a::l,[]=>by unfold FA;exact fH.same PH.refl _
 | a::l,b::m=>by unfold FA;exact .cons ⟨rN a b,Hw⟩ (DA l m)
theorem mR (s t:St):sN s (CM s t):=by
 unfold CM
 cases h:Nat.beq s.hp.lo 0 with
 | false=>exact ⟨yv _ _,fH.same PH.refl _,fun _ _=>rfl,rfl,rfl,rfl,rfl,rfl⟩
 | true =>
  have:s.hp.lo=0:=Nat.eq_of_beq_eq_true h
  exact ⟨yv _ _,DA _ _,fun i hi=>by rw [this] at hi;omega,rfl,rfl,rfl,rfl,rfl⟩
open Classical in
def xC (b b':Code) (s s':St):Bool:=shut (decide (b=b'∧sN s s'))
theorem oW {b b':Code} {s s':St}:xC b b' s s'=true ↔ b=b'∧sN s s':=by
 unfold xC
 rw [rO]
 simp
def Un (x:Bool×Code×Code×St×St):Bool×Code×St:=(x.1,x.2.1,CM x.2.2.2.1 x.2.2.2.2)
def UJ (x:Bool×Code×Code×St×St):Bool×Code×St:=(xC x.2.1 x.2.2.1 x.2.2.2.1 x.2.2.2.2,x.2.2.1,x.2.2.2.2)
theorem map_inj {α β:Type} {f g:α→β}:∀ {l:List α},l.map f=l.map g→∀ x∈l,f x=g x
 | [],_,_,hx=>by cases hx
 | a::l,h,x,hx=>by
  simp only [List.map_cons,List.cons.injEq] at h
  rcases List.mem_cons.1 hx with rfl | hx
  ·exact h.1
  ·exact map_inj h.2 x hx
theorem BJ {α:Type} {T:Tr α} (h:T.vl.map Un=T.vl.map UJ):∀ x∈T.vl,x.1=true:=by
 intro x hx
 obtain ⟨c,b,b',s,s'⟩:=x
 have:=map_inj h _ hx
 simp only [Un,UJ,Prod.mk.injEq] at this
 obtain ⟨h1,h2,h3⟩:=this
 show c=true
 rw [h1]
 exact oW.2 ⟨h2,h3 ▸ mR s s'⟩
theorem TG {B:aw} (hB:aW B) {n f:Nat} {as1:List AV} {α:Type} [Inhabited α] {d:D α} {ok:Bool} {x:α} (h1:((db B n f as1).qt d.dec).val=ok) (h2:(db B n f as1).vt d.dec=x)
  (h3:(db B n f as1).vl.map Un=(db B n f as1).vl.map UJ) (h:ok=true):PS B.P f as1 (d.res x):=by
 obtain ⟨v,e1,e2⟩:=wR (d:=d.dec) (R:=RD d) (db B n f as1) (BJ h3) (fun a _ v hv=>hv) (h1.trans h)
 rw [h2] at e2
 exact HO hB e1 d e2
def cp (b:Bool) (v:AV):Tr AV := .br b (.ret v) .fail
theorem aC {P:Program} {f:Nat} {as1:List AV} {b:Bool} {v:AV} (h:b=true→PS P f as1 v):VO P f as1 (cp b v):=fun u hu=>by
 unfold cp at hu
 cases b with
 | true=>cases hu;exact h rfl
 | false=>cases hu
theorem bV {P:Program} {f:Nat} {as1:List AV} {v:AV} (h:PS P f as1 v):VO P f as1 (.ret v):=fun u hu=>by cases hu;exact h
def MK {X R:Type} (S:X→St) (O:R→Out):Option (aG X R)→Out
 | some (.go y)=>.norm (S y)
 | some (.out r)=>O r
 | _=>.panic .any u7
def yG:Out→Out→Out
 | .norm s,.norm t=>.norm (CM s t)
 | .ret s,.ret t=>.ret (CM s t)
 | .exit i s,.exit _ t=>.exit i (CM s t)
 | _,_=>.panic .any u7
def wo {X R:Type} (dx:St→Option X) (dr:Out→Option R):Out→Option (aG X R)
 | .norm s=>(dx s).map .go
 | o=>(dr o).map .out
instance {X R:Type}:Inhabited (aG X R):=⟨.bad⟩
theorem I6 {X R:Type} {S:X→St} {O:R→Out} {dx:St→Option X} {dr:Out→Option R} {o:Out} {st:aG X R} (hw:wo dx dr o=some st) (hO:∀ r s,O r≠.norm s) (hP:∀ r,O r≠.panic .any u7)
  (h:yG o (MK S O (wo dx dr o))=MK S O (wo dx dr o)):RL S O o st:=by
 rw [hw] at h
 cases o with
 | norm s =>
  simp only [wo,H'] at hw
  obtain ⟨y,_,rfl⟩:=hw
  simp only [MK,yG,Out.norm.injEq] at h
  exact ⟨s,rfl,h ▸ mR s (S y)⟩
 | ret s =>
  simp only [wo,H'] at hw
  obtain ⟨r,_,rfl⟩:=hw
  refine ⟨fun s=>by simp,?_⟩
  simp only [MK] at h
  cases hr:O r with
  | ret t=>rw [hr] at h;simp only [yG,Out.ret.injEq] at h;exact h ▸ mR s t
  | norm t=>exact absurd hr (hO r t)
  | exit i t=>rw [hr] at h;cases h
  | panic v t=>rw [hr] at h;simp only [yG] at h;exact absurd (hr.trans h.symm) (hP r)
 | exit i s =>
  simp only [wo,H'] at hw
  obtain ⟨r,_,rfl⟩:=hw
  refine ⟨fun s=>by simp,?_⟩
  simp only [MK] at h
  cases hr:O r with
  | exit j t =>
   rw [hr] at h
   simp only [yG,Out.exit.injEq] at h
   exact ⟨h.1,h.2 ▸ mR s t⟩
  | norm t=>exact absurd hr (hO r t)
  | ret t=>rw [hr] at h;cases h
  | panic v t=>rw [hr] at h;simp only [yG] at h;exact absurd (hr.trans h.symm) (hP r)
 | panic v t =>
  simp only [wo,H'] at hw
  obtain ⟨r,_,rfl⟩:=hw
  simp only [MK,yG] at h
  exact absurd h.symm (hP r)
def T4:Out→Bool
 | .ret _=>true
 | .exit .. => true
 | _=>false
theorem o7 {R:Type} {O:R→Out} (h:∀ r,T4 (O r)=true):(∀ r s,O r≠.norm s)∧∀ r,O r≠.panic .any u7 :=
 ⟨fun r s e=>(by have:=h r;rw [e] at this;cases this),fun r e=>(by have:=h r;rw [e] at this;cases this)⟩
theorem ay.vC {B:aw} (hB:aW B) {m fn:Nat} {b:Code} {X R:Type} {S:X→St} {O:R→Out} {ok:X→Bool} {st:X→aG X R} (dx:St→Option X) (dr:Out→Option R) (hO:∀ r,T4 (O r)=true)
  (h1:∀ x,((lh B m fn b (S x)).qt (wo dx dr)).val=ok x) (h2:∀ x,(lh B m fn b (S x)).vt (wo dx dr)=st x)
  (h3:∀ x,(lh B m fn b (S x)).vl.map Un=(lh B m fn b (S x)).vl.map UJ)
  (h4:∀ x,((lh B m fn b (S x)).og.map fun o=>yG o (MK S O (wo dx dr o)))=(lh B m fn b (S x)).og.map fun o=>MK S O (wo dx dr o)) (n:Nat) (x:X) (r:R)
  (h:Kz.cO (fun x=>bif ok x then st x else .bad) n x=some r):ay B.P b (S x) (O r) :=
 ay.Zt hB (fun x=>by
  rw [← h1 x,← h2 x]
  exact wR _ (BJ (h3 x)) fun a ha v hv=>by
   by_cases hn:∃ r,v=.out r
   ·have:=map_inj (h4 x) a ha
    exact I6 hv (o7 hO).1 (o7 hO).2 this
   ·exact I6 hv (o7 hO).1 (o7 hO).2 (map_inj (h4 x) a ha)) n x r h
def lk (b b':Code) (s s':St) (ok:Bool) (t:Tr Out):Tr Out := .ck (xC b b' s s') b b' s s' (.br ok t .fail)
theorem Qn {P:Program} {b b':Code} {s s':St} {ok:Bool} {t:Tr Out} {o:Out} (h:(lk b b' s s' ok t).get=some o) (H:ok=true→t.get=some o→ay P b' s' o):ay P b s o:=by
 unfold lk at h
 simp only [Tr.get] at h
 cases hk:xC b b' s s' with
 | false=>rw [hk] at h;cases h
 | true =>
  rw [hk] at h
  obtain ⟨rfl,hw⟩:=oW.1 hk
  cases ok with
  | false=>cases h
  | true=>exact (H rfl h).wk hw
def sg {α:Type} (t:Tr α):Tr α := .ck (xC .skip .skip ⟨[],u7⟩ ⟨[],u7⟩) .skip .skip ⟨[],u7⟩ ⟨[],u7⟩ t
theorem IW {α:Type} (t:Tr α):(sg t).get=t.get:=by
 have h:xC .skip .skip (⟨[],u7⟩:St) ⟨[],u7⟩=true:=oW.2 ⟨rfl,mR ⟨[],u7⟩ ⟨[],u7⟩⟩
 unfold sg
 rw [h]
 rfl
def lq {R:Type} [Inhabited R] (b b':Code) (s s':St) (lp:Option R) (O:R→Out):Tr Out:=lk b b' s s' lp.isSome (.ret (O (lp.getD default)))
theorem bK {P:Program} {b b':Code} {s s':St} {R:Type} [Inhabited R] {lp:Option R} {O:R→Out} (H:∀ r,lp=some r→ay P b' s' (O r)) {o:Out} (h:(lq b b' s s' lp O).get=some o):ay P b s o :=
 Qn h fun h1 h2=>by
  cases h2
  exact H _ (cR h1)
def yX {A B:Type} [Inhabited A] [Inhabited B] (b b':Code) (s s':St) (lp:Option (A ⊕ B)) (O:A ⊕ B→Out):Tr Out:=lk b b' s s' lp.isSome (.br (bI (lp.getD default)) (sg (.ret (O (.inl (gl (lp.getD default)))))) (sg (.ret (O (.inr (gr (lp.getD default)))))))
theorem dG {P:Program} {b b':Code} {s s':St} {A B:Type} [Inhabited A] [Inhabited B] {lp:Option (A ⊕ B)} {O:A ⊕ B→Out} (H:∀ r,lp=some r→ay P b' s' (O r)) {o:Out} (h:(yX b b' s s' lp O).get=some o):ay P b s o :=
 Qn h fun h1 h2=>by
  have:=H _ (cR h1)
  revert h2 this
  cases lp.getD default with
  | inl a=>intro h2 this;rw [fc] at h2;cases (IW _).symm.trans h2;exact this
  | inr a=>intro h2 this;rw [fc] at h2;cases (IW _).symm.trans h2;exact this
def UH:bY→bY→bY
 | .ret v h,.ret v' h'=>match CM ⟨[v],h⟩ ⟨[v'],h'⟩ with
  | ⟨[u],k⟩=>.ret u k
  | _=>.panic .any u7
 | _,_=>.panic .any u7
def acy:bY→Bool
 | .ret .. => true
 | _=>false
theorem Ui {Y:Type} {O:Y→bY} {dr:bY→Option Y} {o:bY} {y:Y} (hw:dr o=some y) (hO:acy (O y)=true) (h:UH o (((dr o).map O).getD (.panic .any u7))=((dr o).map O).getD (.panic .any u7)):RF O o y:=by
 rw [hw] at h
 simp only [Option.map_some,Option.getD_some] at h
 cases hr:O y with
 | panic v t=>rw [hr] at hO;cases hO
 | ret v' h' =>
  cases o with
  | panic v t=>rw [hr] at h;cases h
  | ret v k =>
   rw [hr] at h
   refine U2 hr ?_
   have hf:=mR ⟨[v],k⟩ ⟨[v'],h'⟩
   simp only [UH] at h
   split at h
   ·rename_i u k' e
    simp only [bY.ret.injEq] at h
    obtain ⟨rfl,rfl⟩:=h
    rw [e] at hf
    exact hf
   ·cases h
theorem kF {B:aw} (hB:aW B) {n f:Nat} {as1:List AV} {h:Hp} {Y:Type} [Inhabited Y] {O:Y→bY} {ok:Bool} {y:Y} (dr:bY→Option Y) (hO:∀ y,acy (O y)=true)
  (h1:((zu B n f as1 h).qt dr).val=ok) (h2:(zu B n f as1 h).vt dr=y) (h3:(zu B n f as1 h).vl.map Un=(zu B n f as1 h).vl.map UJ)
  (h4:((zu B n f as1 h).og.map fun o=>UH o (((dr o).map O).getD (.panic .any u7)))=(zu B n f as1 h).og.map fun o=>((dr o).map O).getD (.panic .any u7)) (hok:ok=true) :
  du B.P f as1 h (O y)∧∃ fn,B.P.funcs[f]?=some fn∧fn.body.isSome=true:=by
 subst h1 h2
 exact O0 hB rfl (wR (d:=dr) (R:=RF O) _ (BJ h3) fun a ha v hv=>Ui hv (hO v) (map_inj h4 a ha)) hok
def fk {Y:Type} (as1:List AV) (h:Hp) (as':List AV) (h':Hp) (ok:Bool) (O:Y→bY) (y:Y):Tr bY := .ck (xC .skip .skip ⟨as1,h⟩ ⟨as',h'⟩) .skip .skip ⟨as1,h⟩ ⟨as',h'⟩ (.br ok (.ret (O y)) .fail)
theorem sD {P:Program} {f:Nat} {as1 as':List AV} {h h':Hp} {ok:Bool} {Y:Type} {O:Y→bY} {y:Y} {res:bY} (H:ok=true→du P f as' h' (O y)∧∃ fn,P.funcs[f]?=some fn∧fn.body.isSome=true) (he:(fk as1 h as' h' ok O y).get=some res) :
  du P f as1 h res∧∃ fn,P.funcs[f]?=some fn∧fn.body.isSome=true:=by
 unfold fk at he
 simp only [Tr.get] at he
 cases hk:xC .skip .skip ⟨as1,h⟩ ⟨as',h'⟩ with
 | false=>rw [hk] at he;cases he
 | true =>
  rw [hk] at he
  cases ok with
  | false=>cases he
  | true =>
   cases he
   obtain ⟨h1,h2⟩:=H rfl
   exact ⟨h1.wk (oW.1 hk).2,h2⟩
abbrev wP {α:Type} (s:St) (b:Nat) (k:Pos→α):α:=k ⟨tI (tH s b 0),tN (tH s b 1),tU (tH s b 2),tN (tH s b 3),tI (tH s b 4),tN (tH s b 5),tI (tH s b 6),tN (tH s b 7),tI (tH s b 8),tI (tH s b 9)⟩
abbrev wM {α:Type} (s:St) (b:Nat) (k:Mv→α):α:=k ⟨tI (tH s b 0),tI (tH s b 1),tI (tH s b 2),tI (tH s b 3),tB (tH s b 4)⟩
def Oy:Nat→Nat→List Nat→List Nat
 | 0,_,_=>[]
 | k+1,i,[]=>i::Oy k (i+1) []
 | k+1,i,t::ts=>match Nat.beq i t with
  | true=>Oy k (i+1) ts
  | false=>i::Oy k (i+1) (t::ts)
def lkC (fn id:Nat):List (Nat×Nat×List (Nat×List Nat))→List Nat
 | []=>[]
 | (f,n,t)::r=>if fn=f then (match t.lookup id with
  | some l=>Oy n 0 l
  | none=>[]) else lkC fn id r
@[reducible] def dP (s:St) (b:Nat):Pos:=⟨tI (tH s b 0),tN (tH s b 1),tU (tH s b 2),tN (tH s b 3),tI (tH s b 4),tN (tH s b 5),tI (tH s b 6),tN (tH s b 7),tI (tH s b 8),tI (tH s b 9)⟩
@[reducible] def KT:Type:=List (Nat×Nat×List (Nat×List Nat))
@[reducible] def GT:Type:=List AV→Tr AV
@[reducible] def bO (P:Program) (K:KT) (a:List (Nat×GT)) (b:List (Nat×Nat×(Code→St→Tr Out))) (c:List (Nat×(List AV→Hp→Tr bY))):aw:=iJ P (fun f i=>lkC f i K) a b c
theorem pq14 {B:aw} (hB:aW B) {f:Nat} {as1:List AV} {α:Type} [Inhabited α] {d:D α} {ok:Bool} {x:α} (h:ok=true) (h1:((db B 14 f as1).qt d.dec).val=ok:=by kernel_rfl) (h2:(db B 14 f as1).vt d.dec=x:=by kernel_rfl)
  (h3:(db B 14 f as1).vl.map Un=(db B 14 f as1).vl.map UJ:=by kernel_rfl):PS B.P f as1 (d.res x):=TG hB h1 h2 h3 h
theorem smq {B:aw} (hB:aW B) {m fn:Nat} {b:Code} {X R:Type} {S:X→St} {O:R→Out} {ok:X→Bool} {st:X→aG X R} (dx:St→Option X) (dr:Out→Option R) (n:Nat) (x:X) (r:R)
  (h:Kz.cO (fun x=>bif ok x then st x else .bad) n x=some r) (hO:∀ r,T4 (O r)=true:=by intro _;rfl)
  (h1:∀ x,((lh B m fn b (S x)).qt (wo dx dr)).val=ok x:=by intro _;kernel_rfl) (h2:∀ x,(lh B m fn b (S x)).vt (wo dx dr)=st x:=by intro _;kernel_rfl)
  (h3:∀ x,(lh B m fn b (S x)).vl.map Un=(lh B m fn b (S x)).vl.map UJ:=by intro _;kernel_rfl)
  (h4:∀ x,((lh B m fn b (S x)).og.map fun o=>yG o (MK S O (wo dx dr o)))=(lh B m fn b (S x)).og.map fun o=>MK S O (wo dx dr o):=by intro _;kernel_rfl):ay B.P b (S x) (O r):=ay.vC hB dx dr hO h1 h2 h3 h4 n x r h
abbrev M':Type := List Mv
abbrev Z':Type := List Int
abbrev Y':Type := List UInt8
end Kz
end
