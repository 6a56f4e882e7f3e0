/- Part 3 of the texts under the proof: an abstract interpreter,the summaries of functions,plain laws. -/
import Derived.Test.YtmhlngkbgbenhaaGreatDoorS2
import Derived.RecoverIn
import Derived.Lib.UnsafeStr
import Derived.Shelf.Strings.Builder1
import Derived.Lib.ItoaNum
import Derived.Lib.Join
import Derived.Lib.AppendIntMem
set_option linter.unusedSectionVars false
set_option linter.unusedVariables false
set_option linter.unusedSimpArgs false
set_option linter.unnecessarySimpa false
section
namespace Kz
open Go Go.RowKit
section
variable {P:Program} {E:Env} {code:Nat→Code→St→Tr Out}
variable {g g':Gh} {h h':Hp} {tk:List Nat} {w w':World} {ro:Option Nat} {a:Act} {Q:Exit→Act→World→Prop} {W0:DB}
theorem vm (ok:lu E) {fn:Nat} {b:Code} {s:St} {out:Out} (hloop:nB E.P E.loop) (ih:∀ s out,(kV E code fn b s).get=some out→nW E.P b s out) (he:(kV E code fn (.loop b) s).get=some out):aF E.P b s out:=by
  rw [kV] at he
  split at he
  · rename_i F hF
    exact ok.mL _ _ _ _ _ hF he
  intro ro g w a W0 m ht mk hW hro
  rw [get_bind,Option.bind_eq_some_iff] at he
  obtain ⟨r,h1,h2⟩:=he
  refine dF (wpIn_mono (ih _ _ h1 ro g w a W0 m ht mk hW hro) ?_)
  intro e a1 w1 hp
  cases r with
  | norm s1 =>
    obtain ⟨rfl,g1,nx,hr,mk1⟩:=hp
    have:=hloop fn b s1 out h2 ro g1 w1 a1 W0 nx.mr hr mk1 (Nat.le_trans hW nx.le.below.size) (fun c hc=>let ⟨l,hl⟩:=hro c hc; ⟨l,nx.le.loops _ _ hl⟩)
    exact fC this fun e a2 w2 hp2=>hp2.nx nx
  | ret s1 =>
    simp only [aq,Option.some.injEq] at h2
    subst h2
    obtain ⟨rfl,rest⟩:=hp
    exact ⟨rfl,rest⟩
  | exit id s1 =>
    simp only [aq,Option.some.injEq] at h2
    subst h2
    obtain ⟨rfl,rest⟩:=hp
    exact ⟨rfl,rest⟩
  | panic v h1 =>
    simp only [aq,Option.some.injEq] at h2
    subst h2
    obtain ⟨x,g1,rfl,rest⟩:=hp
    exact ⟨x,g1,rfl,rest⟩
theorem nz {l0:Nat} {R0:Loop} (h0:w.heap[l0]?=some (.loop R0)) (fn:FuncId) (tmps:Array Value) (ps:Array Tmp) (assign body:Code) :
    (Instr.enterLoop fn tmps ps assign body (some l0)).run P w =
      .ok (w.heap.size,[]) (w.alloc (.loop { state := .ready,pending:=none,fn,tmps,params:=ps,assign,body,defers:=R0.defers })):=by
  unfold Instr.enterLoop
  simp only [Sem.run_bind,run_getLoop h0,run_newObj_alloc,Result.andThen,Sem.run_pure]
theorem An {s:LoopState} {n:Nat} (h:tr s=n) (hn:n≠1):s≠.busy:=by
  intro e; subst e; exact hn h.symm
theorem BP (ok:lu E) {fn:Nat} {f:Operand} {ps:Array Tmp} {as1 b:Code} {s:St} {out:Out} (he:(kV E code fn (.rangeFunc f ps as1 b) s).get=some out):nW E.P (.rangeFunc f ps as1 b) s out:=by
  intro ro g w a W0 m ht mk hW hro
  rw [kV] at he
  split at he
  · rename_i gf x y hv
    simp only at he
    split at he
    · simp at he
    · simp only [get_bind,Option.bind_eq_some_iff] at he
      obtain ⟨r,h1,h2⟩:=he
      obtain ⟨hspec,fnc,hf,hb⟩:=ok.call _ _ _ _ h1
      have hfv:=aQ ht f
      rw [hv] at hfv
      obtain ⟨xs,ys,hx,hrx,hry⟩:∃ xs ys,a.eval f=.func (.func gf) xs ys∧aE g s.hp.aj w x xs.toList∧aE g s.hp.aj w y ys.toList:=by
        generalize a.eval f=z at hfv
        cases hfv with
        | func q1 q2=>exact ⟨_,_,rfl,q1,q2⟩
      refine wpIn_rangeFunc fun fnb _ => ?_
      have enter:∃ (g1:Gh) (cl:Nat) (mark:List Deferred) (w1:World),(Instr.enterLoop fnb a.tmps ps as1 b ro).run E.P w=.ok (cl,mark) w1 ∧
          Nx g s.hp w g1 { s.hp with loops:=s.hp.loops++[{ state:=0,dm:=none,fn:=fn,tmps:=s.tmps,params:=ps.toList,assign:=as1,body:=b }] } w1∧g1.loops[s.hp.loops.length]?=some cl∧Marks g1 W0 (mark++a.defers):=by
        cases ro with
        | none =>
          obtain ⟨m1,l1⟩:=m.MQ
          obtain ⟨m2,l2⟩:=m1.yY (r:={ state:=0,dm:=none,fn:=fn,tmps:=s.tmps,params:=ps.toList,assign:=as1,body:=b })
            (R:={ state := .ready,pending:=none,fn:=fnb,tmps:=a.tmps,params:=ps,assign:=as1,body:=b,defers:=w.heap.size }) ⟨rfl,rfl,ht.mono l1,rfl,rfl,rfl⟩
          refine ⟨_,_,_,_,run_enterLoop_outer fnb a.tmps ps as1 b,⟨m2,l1.trans l2,⟨rfl,rfl,rfl,fun _ _ _ x=>x,fun _ _ _ x=>x,fun _ _ _ x=>aZ x⟩⟩,?_,?_⟩
          · simp [m.eU,World.size_alloc]
          · obtain ⟨ms,e0,mk⟩:=mk
            refine ⟨{ target := .collected w.heap.size,args := #[] }::ms,by rw [e0]; rfl,fun d hd => ?_,?_⟩
            · rcases List.mem_cons.1 hd with rfl | hd
              · exact ⟨w.heap.size,rfl,List.mem_cons_self,hW⟩
              · obtain ⟨D,e1,e2,e3⟩:=mk.mem d hd
                exact ⟨D,e1,List.mem_cons_of_mem _ e2,e3⟩
            · simp only [List.map_cons]
              refine List.pairwise_cons.2 ⟨?_,mk.nodup⟩
              intro t ht' D hD
              obtain ⟨d,hd,rfl⟩:=List.mem_map.1 ht'
              obtain ⟨D',rfl,e2,_⟩:=mk.mem d hd
              simp only [Target.collected.injEq] at hD
              subst hD
              intro e
              simp only [Target.collected.injEq] at e
              subst e
              exact absurd (aV (m.defs _ e2).2) (Nat.lt_irrefl _)
        | some l0 =>
          obtain ⟨l,hl⟩:=hro l0 rfl
          obtain ⟨_,R0,hR0,_⟩:=m.loop l l0 _ hl (List.getElem?_eq_getElem (by have:=ba hl; rw [m.eU] at this; exact this))
          obtain ⟨m2,l2⟩:=m.yY (r:={ state:=0,dm:=none,fn:=fn,tmps:=s.tmps,params:=ps.toList,assign:=as1,body:=b })
            (R:={ state := .ready,pending:=none,fn:=fnb,tmps:=a.tmps,params:=ps,assign:=as1,body:=b,defers:=R0.defers }) ⟨rfl,rfl,ht,rfl,rfl,rfl⟩
          exact ⟨_,_,_,_,nz hR0 fnb a.tmps ps as1 b,⟨m2,l2,⟨rfl,rfl,rfl,fun _ _ _ x=>x,fun _ _ _ x=>x,fun _ _ _ x=>aZ x⟩⟩,by simp [m.eU],mk.mono fun _ h=>h⟩
      obtain ⟨g1,cl,mark,w1,hent,nx1,hg1,mk1⟩:=enter
      refine ⟨cl,mark,w1,{ target := .fn (.func gf) ys,args:=xs++#[.func (.yield cl) #[] #[]] },w1,gf,xs++#[.func (.yield cl) #[] #[]]++ys,w1,hent,?_,fun _ _=>trivial,?_,fun h=>by simp [Fr,Fence.wide] at h,?_⟩
      · simp only [resolve,hx,Deferred.ofValue]
        simp [Act.eval,Sem.run_pure]
      · exact iM hf hb (ok.named _ _ hf hb)
      · have hargs:aE g1 ({ s.hp with loops:=s.hp.loops++[{ state:=0,dm:=none,fn:=fn,tmps:=s.tmps,params:=ps.toList,assign:=as1,body:=b }] }:Hp).aj w1 (x++[.yield s.hp.loops.length]++y) (xs++#[Value.func (.yield cl) #[] #[]]++ys).toList:=by
          simp only [Array.toList_append]
          exact ((hrx.mono nx1.le).append (.cons (.yield hg1) .nil)).append (hry.mono nx1.le)
        refine vL ((hspec g1 w1 _ nx1.mr hargs).mono ?_)
        intro e w2 hp
        cases r with
        | panic v h' =>
          simp only [aq,Option.some.injEq] at h2
          subst h2
          obtain ⟨g2,z,rfl,nx2,hz⟩:=hp
          exact ⟨z,g2,rfl,nx1.trans nx2,hz,mk1.mono nx2.le.defs⟩
        | ret v h' =>
          obtain ⟨g2,z,rfl,nx2,hz⟩:=hp
          simp only at h2
          split at h2
          · rename_i rr hrr
            split at h2
            · rename_i hst
              have hg2:=nx2.le.loops _ _ hg1
              obtain ⟨hb2,R2,hR2,hlr2⟩:=nx2.mr.loop _ _ _ hg2 hrr
              obtain ⟨m3,l3⟩:=nx2.mr.ue (r':={ rr with state:=3 }) (R':={ R2 with state := .exhausted }) hg2 hrr hR2 ⟨rfl,hlr2.dm,hlr2.tmps,hlr2.params,hlr2.assign,hlr2.body⟩
              refine ⟨R2.pending,_,run_endLoop hR2 (An hlr2.state hst),?_⟩
              have nx3:Nx g s.hp w g2 (dp h' s.hp.loops.length { rr with state:=3 }) (bf w2 cl (.loop { R2 with state := .exhausted })):=by
                refine ⟨m3,(nx1.trans nx2).le.trans l3,⟨nx2.fl.lo,nx2.fl.oc,nx2.fl.mU,(nx1.trans nx2).fl.heap,(nx1.trans nx2).fl.aj,fun i q hi hq => ?_⟩⟩
                have hne:s.hp.loops.length≠i:=fun e=>by have:=ba hq; omega
                show (h'.loops.set _ _)[i]?=_
                rw [List.getElem?_set_ne hne]
                exact (nx1.trans nx2).fl.loops i q hi hq
              have htt:=ht.mono nx3.le
              have mk3:Marks g2 W0 (mark++a.defers):=mk1.mono nx2.le.defs
              rw [rJ]
              have hpend:=hlr2.dm
              generalize dp h' s.hp.loops.length { rr with state:=3 }=H3 at nx3 htt h2
              generalize bf w2 cl (.loop { R2 with state := .exhausted })=W3 at nx3 htt ⊢
              rw [hpend]
              cases hpe:rr.dm with
              | none =>
                rw [hpe] at h2
                simp only [toCode,aq,Option.some.injEq] at h2
                subst h2
                exact ⟨rfl,g2,nx3,htt,mk3⟩
              | some c =>
                rw [hpe] at h2
                cases c with
                | ret =>
                  simp only [toCode,aq,Option.some.injEq] at h2
                  subst h2
                  exact wpIn_ret ⟨rfl,g2,nx3,htt,mk3⟩
                | exit id =>
                  simp only [toCode,aq,Option.some.injEq] at h2
                  subst h2
                  exact wpIn_exit ⟨rfl,g2,nx3,htt,mk3⟩
                | _=>simp [toCode] at h2
            · simp at h2
          · simp at h2
  · simp at he
theorem ev {b:Frame} {a:Act} {k:List Item} {cs:List Frame} {w:World} {c:Code}:step P (lone (b.atR a (.code (.scope c)::k)) cs w)=.next (lone (b.atR a (.code c::.inScope c::k)) cs w) :=
  step_lone_go (by simp [stepG,stepG.exec,Frame.atR])
theorem qW {b:Frame} {a:Act} {k:List Item} {cs:List Frame} {w:World} {c:Code}:step P (lone (b.atR a (.inScope c::k)) cs w)=.next (lone (b.atR a k) cs w) :=
  step_lone_go (by simp [stepG,stepG.exec,Frame.atR])
theorem xH {F:Fence} {n:Nat} {Q:Exit→Act→World→Prop} {a:Act} {w:World} {c:Code} (h:c.wpIn F n P (Exit.noGoto Q) a w):(Code.scope c).wpIn F n P Q a w:=by
  intro b k cs hro hb hr
  have h0:(lone (b.atR a (.code (.scope c)::k)) cs w).fenced P F:=fenced_calm hb hr rfl
  obtain ⟨e,a₁,w₁,hq,harr⟩:=h b (.inScope c::k) cs hro hb hr
  cases e with
  | normal=>exact ⟨.normal,a₁,w₁,hq,.head h0 ev (StepsIn.trans harr (.one (fenced_calm hb hr rfl) qW))⟩
  | exit id' =>
    have hx:exitTo id' (.inScope c::k)=exitTo id' k:=by simp [exitTo]
    exact ⟨.exit id',a₁,w₁,hq,fun k' hk=>.head h0 ev (harr.1 k' (by rw [hx]; exact hk)),
      fun hr' hk=>let ⟨k₁,h1,h2⟩:=harr.2 hr' (by rw [hx]; exact hk); ⟨k₁,h1,.head h0 ev h2⟩⟩
  | goto l=>exact hq.elim
  | ret=>exact ⟨_,a₁,w₁,hq,.of_steps (.one h0 ev) harr⟩
  | panic ch=>exact ⟨_,a₁,w₁,hq,.of_steps (.one h0 ev) harr⟩
  | outgrown=>exact ⟨_,a₁,w₁,hq,.of_steps (.one h0 ev) harr⟩
theorem k9 (ok:lu E) (hcode:cy E.P code) (hloop:nB E.P E.loop) (fn:Nat) (c:Code):∀ s out,(kV E code fn c s).get=some out→nW E.P c s out:=by
  induction c with
  | skip =>
    intro s out he ro g w a W0 m ht mk hW hro
    simp only [kV,aq,Option.some.injEq] at he
    subst he
    exact wpIn_skip ⟨rfl,g,Nx.refl m,ht,mk⟩
  | region id ops draw=>exact fun s out he=>AP ok hcode (by simpa [kV] using he)
  | seq x y ihx ihy =>
    intro s out he ro g w a W0 m ht mk hW hro
    rw [kV,get_bind,Option.bind_eq_some_iff] at he
    obtain ⟨r,h1,h2⟩:=he
    refine wpIn_seq (wpIn_mono (ihx _ _ h1 ro g w a W0 m ht mk hW hro) ?_)
    intro e a1 w1 hp
    cases r with
    | norm s1 =>
      obtain ⟨rfl,g1,nx,hr,mk1⟩:=hp
      have:=ihy s1 out h2 ro g1 w1 a1 W0 nx.mr hr mk1 (Nat.le_trans hW nx.le.below.size) (fun c hc=>let ⟨l,hl⟩:=hro c hc; ⟨l,nx.le.loops _ _ hl⟩)
      exact wpIn_mono this fun e a2 w2 hp2=>hp2.nx nx
    | ret s1 =>
      simp only [aq,Option.some.injEq] at h2
      subst h2
      obtain ⟨rfl,rest⟩:=hp
      exact ⟨rfl,rest⟩
    | exit id s1 =>
      simp only [aq,Option.some.injEq] at h2
      subst h2
      obtain ⟨rfl,rest⟩:=hp
      exact ⟨rfl,rest⟩
    | panic v h1 =>
      simp only [aq,Option.some.injEq] at h2
      subst h2
      obtain ⟨x,g1,rfl,rest⟩:=hp
      exact ⟨x,g1,rfl,rest⟩
  | cond c x y ihx ihy =>
    intro s out he ro g w a W0 m ht mk hW hro
    have hc:=aQ ht c
    rw [kV] at he
    split at he
    · rename_i e
      rw [e] at hc
      exact wpIn_cond_true hc.di (ihx _ _ he ro g w a W0 m ht mk hW hro)
    · rename_i e
      rw [e] at hc
      exact wpIn_cond_false hc.di (ihy _ _ he ro g w a W0 m ht mk hW hro)
    · rename_i t e
      rw [e] at hc
      rw [fe] at he
      cases t with
      | true=>exact wpIn_cond_true hc.eK (ihx _ _ he ro g w a W0 m ht mk hW hro)
      | false=>exact wpIn_cond_false hc.eK (ihy _ _ he ro g w a W0 m ht mk hW hro)
    · simp at he
  | scope b ih =>
    intro s out he ro g w a W0 m ht mk hW hro
    rw [kV] at he
    refine xH (wpIn_mono (ih _ _ he ro g w a W0 m ht mk hW hro) ?_)
    intro e a1 w1 hp
    cases out with
    | norm s1=>obtain ⟨rfl,rest⟩:=hp; exact ⟨rfl,rest⟩
    | ret s1=>obtain ⟨rfl,rest⟩:=hp; exact ⟨rfl,rest⟩
    | exit j s1=>obtain ⟨rfl,rest⟩:=hp; exact ⟨rfl,rest⟩
    | panic v h=>obtain ⟨x,g1,rfl,rest⟩:=hp; exact ⟨x,g1,rfl,rest⟩
  | block id b ih =>
    intro s out he ro g w a W0 m ht mk hW hro
    rw [kV,get_bind,Option.bind_eq_some_iff] at he
    obtain ⟨r,h1,h2⟩:=he
    refine wpIn_block (wpIn_mono (ih _ _ h1 ro g w a W0 m ht mk hW hro) ?_)
    intro e a1 w1 hp
    cases r with
    | norm s1 =>
      simp only [aq,Option.some.injEq] at h2
      subst h2
      obtain ⟨rfl,rest⟩:=hp
      exact ⟨rfl,rest⟩
    | ret s1 =>
      simp only [aq,Option.some.injEq] at h2
      subst h2
      obtain ⟨rfl,rest⟩:=hp
      exact ⟨rfl,rest⟩
    | exit j s1 =>
      obtain ⟨rfl,rest⟩:=hp
      simp only at h2
      by_cases hj:j=id
      · subst hj
        simp at h2
        subst h2
        simp only [Exit.inBlock,if_true]
        exact ⟨rfl,rest⟩
      · have hne:(j==id)=false:=by simpa using hj
        rw [hne] at h2
        simp at h2
        subst h2
        simp only [Exit.inBlock,hj,if_false]
        exact ⟨rfl,rest⟩
    | panic v h1 =>
      simp only [aq,Option.some.injEq] at h2
      subst h2
      obtain ⟨x,g1,rfl,rest⟩:=hp
      exact ⟨x,g1,rfl,rest⟩
  | loop b ih =>
    intro s out he ro g w a W0 m ht mk hW hro
    exact pB (vm ok hloop ih he ro g w a W0 m ht mk hW hro)
  | rangeFunc f ps as1 b=>exact fun s out he=>BP ok he
  | exit id =>
    intro s out he ro g w a W0 m ht mk hW hro
    simp only [kV,aq,Option.some.injEq] at he
    subst he
    exact wpIn_exit ⟨rfl,g,Nx.refl m,ht,mk⟩
  | label l =>
    intro s out he ro g w a W0 m ht mk hW hro
    simp only [kV,aq,Option.some.injEq] at he
    subst he
    exact wpIn_label ⟨rfl,g,Nx.refl m,ht,mk⟩
  | ret =>
    intro s out he ro g w a W0 m ht mk hW hro
    simp only [kV,aq,Option.some.injEq] at he
    subst he
    exact wpIn_ret ⟨rfl,g,Nx.refl m,ht,mk⟩
  | _=>intro s out he; simp [kV] at he
theorem jz (m:MR g h w) {tmps:List AV} (ht:aE g h.aj w tmps a.tmps.toList) {F:ResultVar→Sem Value} (hF1:∀ t,F (.tmp t)=pure (a.tmps.getD t undef)) (hF2:∀ x t,F (.cell x t)=(do loadVar t (← asAddr (a.tmps.getD x undef)))):∀ (rs:List ResultVar) (l:List AV),fD P h tmps rs=some l →
    ∃ vs,(rs.mapM F).run P w=.ok vs w∧aE g h.aj w l vs
  | [],l,he=>by
    simp only [fD,Option.some.injEq] at he
    subst he
    exact ⟨[],rfl,.nil⟩
  | .tmp t::rest,l,he=>by
    simp only [fD,Option.map_eq_some_iff] at he
    obtain ⟨l',h1,rfl⟩:=he
    obtain ⟨vs,e1,e2⟩:=jz m ht hF1 hF2 rest l' h1
    refine ⟨a.tmps.getD t undef::vs,?_,.cons (aQ ht (.tmp t)) e2⟩
    rw [List.mapM_cons,hF1]
    simp only [Sem.run_bind,Sem.run_pure,Result.andThen_ok,e1]
  | .cell x t::rest,l,he=>by
    simp only [fD,Option.bind_eq_some_iff,Option.map_eq_some_iff] at he
    obtain ⟨v,h1,l',h2,rfl⟩:=he
    obtain ⟨vs,e1,e2⟩:=jz m ht hF1 hF2 rest l' h2
    have hx:=aQ ht (.tmp x)
    simp only [aK,Act.eval] at hx
    obtain ⟨y,e3,e4⟩:=zM m h1 hx
    obtain ⟨ad,had⟩:∃ ad,a.tmps.getD x undef=.pointer (some ad):=by
      generalize tmps.getD x .any=q at h1 hx
      generalize a.tmps.getD x undef=z at hx
      cases hx <;> first | exact ⟨_,rfl⟩ | simp [dc] at h1
    have e5:(do loadVar t (← asAddr (a.tmps.getD x undef)):Sem Value).run P w=.ok y w:=by
      rw [had] at e3 ⊢
      simpa [Instr.loadAt,Instr.sureAddr,asAddr,Sem.run_bind] using e3
    refine ⟨y::vs,?_,.cons e4 e2⟩
    rw [List.mapM_cons,hF2,Sem.run_bind,e5]
    simp only [Sem.run_bind,Sem.run_pure,Result.andThen_ok,e1]
theorem jx {fn:Func} {l:List AV} (m:MR g h w) {tmps:List AV} (ht:aE g h.aj w tmps a.tmps.toList) (he:fD P h tmps fn.results.toList=some l):∃ v,(results fn a.tmps).run P w=.ok v w∧aN g h.aj w (oneOf l) v:=by
  have key:∀ F:ResultVar→Sem Value,(∀ t,F (.tmp t)=pure (a.tmps.getD t undef))→(∀ x t,F (.cell x t)=(do loadVar t (← asAddr (a.tmps.getD x undef)))) →
      ∃ v,(do let vs ← fn.results.mapM F; pure (if h:vs.size=1 then vs[0] else .tuple vs):Sem Value).run P w=.ok v w∧aN g h.aj w (oneOf l) v:=by
    intro F hF1 hF2
    obtain ⟨vs,e1,e2⟩:=jz m ht hF1 hF2 _ _ he
    have hl:=e2.length
    have e3:(fn.results.mapM F).run P w=.ok vs.toArray w:=by
      rw [Array.mapM_eq_mapM_toList,Sem.run_map,e1]
      rfl
    refine ⟨if h:vs.toArray.size=1 then vs.toArray[0] else .tuple vs.toArray,?_,?_⟩
    · rw [Sem.run_bind,e3]
      rfl
    · match l,vs,e2,hl with
      | [],[],e2,_=>exact .tuple .nil
      | [x],[v],.cons hx _,_=>exact hx
      | x::y::l,u::v::vs,e2,_ =>
        rw [dif_neg (by simp)]
        exact .tuple e2
      | [],_::_,_,hl=>simp at hl
      | [x],[],_,hl=>simp at hl
      | [x],_::_::_,_,hl=>simp at hl
      | _::_::_,[],_,hl=>simp at hl
      | _::_::_,[_],_,hl=>simp at hl
  exact key _ (fun _=>rfl) (fun _ _=>rfl)
theorem rR {fn:Func} {R:Ending→World→Prop} {u:FrameMode} {W0:Nat} {dt:List Deferred} (hu:u≠.run):∀ (ds:List Deferred) (g:Gh) (w:World) (tmps:List AV),MR g h w→aE g h.aj w tmps a.tmps.toList→nh g W0 ds →
    (∀ g' w',MR g' h w'→(∀ D,D ∈ g.defs→D < W0→D ∈ g'.defs)→Le { g' with defs:=[] } h.aj w { g' with defs:=[] } h.aj w'→g'.base=g.base→g'.fz=g.fz→g'.vars=g.vars→g'.own=g.own→g'.loops=g.loops→LeavesInM Fence.wide 0 P fn a.tmps R dt u w')→LeavesInM Fence.wide 0 P fn a.tmps R (ds++dt) u w
  | [],g,w,tmps,m,ht,mk,hR=>by
    exact hR g w m (fun _ h _=>h) ⟨rfl,Below.refl _ _,fun _ _ x=>x,fun _ _ _ _ x=>x,fun _ _ x=>x,fun _ _ x=>x,fun _ x=>x,fun _ n x=>⟨n,x,Nat.le_refl _,fun _=>rfl⟩,fun _ _ _=>rfl⟩ rfl rfl rfl rfl rfl
  | d::ds,g,w,tmps,m,ht,mk,hR=>by
    obtain ⟨D,rfl,hD,hW⟩:=mk.mem d (by simp)
    obtain ⟨m1,hb,l1,hh⟩:=m.Hx hD
    refine ⟨hu,.inl ⟨D,_,rfl,run_takeDeferred hh,?_⟩⟩
    have mk1:nh { g with defs:=g.defs.filter (· != D) } W0 ds:=by
      have hn:=mk.nodup
      simp only [List.map_cons] at hn
      obtain ⟨n1,n2⟩:=List.pairwise_cons.1 hn
      refine ⟨fun d hd => ?_,n2⟩
      obtain ⟨D',e1,e2,e3⟩:=mk.mem d (by simp [hd])
      refine ⟨D',e1,List.mem_filter.2 ⟨e2,?_⟩,e3⟩
      have:=n1 d.target (List.mem_map.2 ⟨d,hd,rfl⟩) D rfl
      rw [e1] at this
      simp only [ne_eq,Target.collected.injEq] at this
      simpa using this
    have lw:Lw g h.aj w { g with defs:=g.defs.filter (· != D) } h.aj (bf w D (.deferred none)):=⟨Nat.le_refl _,l1.fz,l1.cell,l1.vars,l1.loops,l1.tok,l1.shape⟩
    refine rR hu ds _ _ tmps m1 (ht.bN lw) mk1 ?_
    intro g' w' m' hd' l' b1 b2 b3 b4 b5
    refine hR g' w' m' (fun D' h1 h2=>hd' D' (List.mem_filter.2 ⟨h1,by simp; omega⟩) h2) ?_ b1 b2 b3 b4 b5
    refine Le.trans ?_ l'
    exact ⟨rfl,(by rw [b1]; exact l1.below),fun _ _ x=>x,fun c o x h1 h2=>l1.cell c o x (by have h1':g'.fz c o:=h1; rw [b2] at h1'; exact h1') h2,fun _ _ x=>x,fun _ _ x=>x,fun _ x=>x,fun _ n x=>⟨n,x,Nat.le_refl _,fun _=>rfl⟩,fun i c x=>l1.shape i c (by have x':g'.vars[i]?=some c:=x; rw [b3] at x'; exact x')⟩
theorem qj {fn:Func} {a1:Act} {w1:World} {dt:List Deferred} {u:FrameMode} (m:MR g h w) (hu:u≠.run) (g1:Gh) (h1:Hp) (tmps:List AV) (R:Ending→World→Prop) (nx:Nx g h w g1 h1 w1) (hr1:aE g1 h1.aj w1 tmps a1.tmps.toList) (mk1:Marks g1 (w.heap.size,dt) a1.defers)
    (hR:∀ g2 w2,Nx g h w g2 h1 w2→Lw g1 h1.aj w1 g2 h1.aj w2→LeavesInM Fence.wide 0 P fn a1.tmps R dt u w2):LeavesInM Fence.wide 0 P fn a1.tmps R a1.defers u w1:=by
  obtain ⟨ms,e,mk1⟩:=mk1
  rw [e]
  refine rR hu ms g1 w1 tmps nx.mr hr1 mk1 ?_
  intro g2 w2 m2 hd2 l2 b1 b2 b3 b4 b5
  have lw:Lw g1 h1.aj w1 g2 h1.aj w2:=by
    refine ⟨by rw [b1]; exact Nat.le_refl _,by rw [b2]; exact fun _ _ x=>x,fun c o x hx hc=>l2.cell c o x (by show g2.fz c o; rw [b2]; exact hx) hc,by rw [b3]; exact fun _ _ x=>x,by rw [b5]; exact fun _ _ x=>x,fun _ n x=>⟨n,x,Nat.le_refl _,fun _=>by rw [b4]⟩,fun i c x=>l2.shape i c (by show g2.vars[i]?=_; rw [b3]; exact x)⟩
  refine hR g2 w2 ⟨m2,?_,nx.fl⟩ lw
  refine ⟨b1.trans nx.le.base,?_,fun c o x=>by rw [b2]; exact nx.le.fz c o x,fun c o x hx hc=>lw.cell c o x (nx.le.fz _ _ hx) (nx.le.cell c o x hx hc),fun i c x=>by rw [b3]; exact nx.le.vars i c x,fun i c x=>by rw [b5]; exact nx.le.loops i c x,fun D hD=>hd2 D (nx.le.defs D hD) (aV (m.defs D hD).2),fun k n x=>by
    obtain ⟨n',q1,q2,q3⟩:=nx.le.tok k n x
    exact ⟨n',q1,q2,fun e=>by rw [b4]; exact q3 e⟩,fun i c x=>(lw.shape i c (nx.le.vars i c x)).trans (nx.le.shape i c x)⟩
  have hb2:({ g2 with defs:=[] }:Gh).base=g.base:=b1.trans nx.le.base
  have:=l2.below
  rw [hb2] at this
  exact nx.le.below.trans this
def lQ (g:Gh) (h:Hp) (w:World) (a:Act) (out:Out) (e:Exit) (a':Act) (w':World):Prop :=
  match out with
  | .norm s'=>e=.normal∧∃ g',Nx g h w g' s'.hp w'∧aE g' s'.hp.aj w' s'.tmps a'.tmps.toList∧a'.defers=a.defers
  | .ret s'=>e=.ret∧∃ g',Nx g h w g' s'.hp w'∧aE g' s'.hp.aj w' s'.tmps a'.tmps.toList∧a'.defers=a.defers
  | .exit id s'=>e=.exit id∧∃ g',Nx g h w g' s'.hp w'∧aE g' s'.hp.aj w' s'.tmps a'.tmps.toList∧a'.defers=a.defers
  | .panic v h' => ∃ x g',e=.panic (fj x)∧Nx g h w g' h' w'∧aN g' h'.aj w' v x∧a'.defers=a.defers
theorem lQ.nx {g0:Gh} {h0:Hp} {w0:World} {a0 a a':Act} {out:Out} {e:Exit} (nx:Nx g0 h0 w0 g h w) (hd:a.defers=a0.defers) (hp:lQ g h w a out e a' w'):lQ g0 h0 w0 a0 out e a' w':=by
  cases out with
  | norm s=>obtain ⟨e1,g1,n1,r1,m1⟩:=hp; exact ⟨e1,g1,nx.trans n1,r1,m1.trans hd⟩
  | ret s=>obtain ⟨e1,g1,n1,r1,m1⟩:=hp; exact ⟨e1,g1,nx.trans n1,r1,m1.trans hd⟩
  | exit id s=>obtain ⟨e1,g1,n1,r1,m1⟩:=hp; exact ⟨e1,g1,nx.trans n1,r1,m1.trans hd⟩
  | panic v h=>obtain ⟨x,g1,e1,n1,r1,m1⟩:=hp; exact ⟨x,g1,e1,nx.trans n1,r1,m1.trans hd⟩
theorem D5 (ops:Array Oper):(List.range ops.size).map (ops[·]?)=ops.toList.map some:=by
  apply List.ext_getElem?
  intro i
  rw [List.getElem?_map,List.getElem?_map]
  by_cases hi:i < ops.size
  · simp [hi]
  · simp [Nat.le_of_not_lt hi]
theorem Cy (ok:lu E) (hcode:cy E.P code) (c:Code):∀ s out,(o7 E code c s).get=some out→∀ (g:Gh) (w:World) (a:Act),MR g s.hp w→aE g s.hp.aj w s.tmps a.tmps.toList→c.wpIn (Fr ro) 0 E.P (lQ g s.hp w a out) a w:=by
  induction c with
  | skip =>
    intro s out he g w a m ht
    simp only [o7,aq,Option.some.injEq] at he
    subst he
    exact wpIn_skip ⟨rfl,g,Nx.refl m,ht,rfl⟩
  | region id ops draw =>
    intro s out he g w a m ht
    rw [o7] at he
    have ok':lu { E with kill:=fun _ _=>[] }:=⟨ok.mL,ok.named,ok.pf,ok.call⟩
    refine u4 ok' hcode he m ht ?_
    cases out with
    | norm s'=>exact fun g' w' a' nx hr hd=>⟨rfl,g',nx,hr,hd⟩
    | panic v h'=>exact fun g' w' x a' nx hr hd=>⟨x,g',rfl,nx,hr,hd⟩
    | _=>trivial
  | seq x y ihx ihy =>
    intro s out he g w a m ht
    rw [o7,get_bind,Option.bind_eq_some_iff] at he
    obtain ⟨r,h1,h2⟩:=he
    refine wpIn_seq (wpIn_mono (ihx _ _ h1 g w a m ht) ?_)
    intro e a1 w1 hp
    cases r with
    | norm s1 =>
      obtain ⟨rfl,g1,nx,hr,hd⟩:=hp
      exact wpIn_mono (ihy s1 out h2 g1 w1 a1 nx.mr hr) fun e a2 w2 hp2=>hp2.nx nx hd
    | ret s1 =>
      simp only [aq,Option.some.injEq] at h2
      subst h2
      obtain ⟨rfl,rest⟩:=hp
      exact ⟨rfl,rest⟩
    | exit id s1 =>
      simp only [aq,Option.some.injEq] at h2
      subst h2
      obtain ⟨rfl,rest⟩:=hp
      exact ⟨rfl,rest⟩
    | panic v h1 =>
      simp only [aq,Option.some.injEq] at h2
      subst h2
      obtain ⟨x,g1,rfl,rest⟩:=hp
      exact ⟨x,g1,rfl,rest⟩
  | cond c x y ihx ihy =>
    intro s out he g w a m ht
    have hc:=aQ ht c
    rw [o7] at he
    split at he
    · rename_i e
      rw [e] at hc
      exact wpIn_cond_true hc.di (ihx _ _ he g w a m ht)
    · rename_i e
      rw [e] at hc
      exact wpIn_cond_false hc.di (ihy _ _ he g w a m ht)
    · rename_i t e
      rw [e] at hc
      rw [fe] at he
      cases t with
      | true=>exact wpIn_cond_true hc.eK (ihx _ _ he g w a m ht)
      | false=>exact wpIn_cond_false hc.eK (ihy _ _ he g w a m ht)
    · simp at he
  | block id b ih =>
    intro s out he g w a m ht
    rw [o7,get_bind,Option.bind_eq_some_iff] at he
    obtain ⟨r,h1,h2⟩:=he
    refine wpIn_block (wpIn_mono (ih _ _ h1 g w a m ht) ?_)
    intro e a1 w1 hp
    cases r with
    | norm s1 =>
      simp only [aq,Option.some.injEq] at h2
      subst h2
      obtain ⟨rfl,rest⟩:=hp
      exact ⟨rfl,rest⟩
    | ret s1 =>
      simp only [aq,Option.some.injEq] at h2
      subst h2
      obtain ⟨rfl,rest⟩:=hp
      exact ⟨rfl,rest⟩
    | exit j s1 =>
      obtain ⟨rfl,rest⟩:=hp
      simp only at h2
      by_cases hj:j=id
      · subst hj
        simp at h2
        subst h2
        simp only [Exit.inBlock,if_true]
        exact ⟨rfl,rest⟩
      · have hne:(j==id)=false:=by simpa using hj
        rw [hne] at h2
        simp at h2
        subst h2
        simp only [Exit.inBlock,hj,if_false]
        exact ⟨rfl,rest⟩
    | panic v h1 =>
      simp only [aq,Option.some.injEq] at h2
      subst h2
      obtain ⟨x,g1,rfl,rest⟩:=hp
      exact ⟨x,g1,rfl,rest⟩
  | exit id =>
    intro s out he g w a m ht
    simp only [o7,aq,Option.some.injEq] at he
    subst he
    exact wpIn_exit ⟨rfl,g,Nx.refl m,ht,rfl⟩
  | ret =>
    intro s out he g w a m ht
    simp only [o7,aq,Option.some.injEq] at he
    subst he
    exact wpIn_ret ⟨rfl,g,Nx.refl m,ht,rfl⟩
  | _=>intro s out he; simp [o7] at he
def ga (g:Gh) (h:Hp) (w:World) (a:Act) (out:Out) (e:Exit) (a':Act) (w':World):Prop :=
  match out with
  | .exit id s'=>if id=Bd then ∃ x v tl g',s'.tmps=v::tl∧e=.panic (fj x)∧Nx g h w g' s'.hp w'∧aN g' s'.hp.aj w' v x∧aE g' s'.hp.aj w' tl a'.tmps.toList∧a'.defers=a.defers else lQ g h w a out e a' w'
  | .panic .. => False
  | _=>lQ g h w a out e a' w'
theorem ga.nx {g0:Gh} {h0:Hp} {w0:World} {a0 a a':Act} {out:Out} {e:Exit} (nx:Nx g0 h0 w0 g h w) (hd:a.defers=a0.defers) (hp:ga g h w a out e a' w'):ga g0 h0 w0 a0 out e a' w':=by
  cases out with
  | norm s=>exact lQ.nx (out := .norm s) nx hd hp
  | ret s=>exact lQ.nx (out := .ret s) nx hd hp
  | panic v h=>exact hp
  | exit id s =>
    simp only [ga] at hp ⊢
    split at hp
    · rename_i e1
      rw [if_pos e1]
      obtain ⟨x,v,tl,g',h1,h2,h3,h4,h5,h6⟩:=hp
      exact ⟨x,v,tl,g',h1,h2,nx.trans h3,h4,h5,h6.trans hd⟩
    · rename_i e1
      rw [if_neg e1]
      exact lQ.nx nx hd hp
theorem GO (ok:lu E) (hcode:cy E.P code) {ops:Array Oper} {o:Oper} {s:St} {v:AV} {h':Hp} {a:Act} {w:World} {g:Gh} {Q:Exit→Act→World→Prop} (he:eE E code false ops o s=some (.panic v h')) (m:MR g s.hp w) (ht:aE g s.hp.aj w s.tmps a.tmps.toList) {i:Nat} (hi:ops[i]?=some o) {K:Act→World→Prop} (hK:∀ g' w' x,Nx g s.hp w g' h' w'→aN g' h'.aj w' v x→Q (.panic (fj x)) a w') :
    wpOpIn (Fr ro) 0 E.P ops Q i K a w:=by
  unfold eE at he
  simp only [Option.bind_eq_some_iff] at he
  obtain ⟨b,hg,he⟩:=he
  unfold wpOpIn
  rw [hi]
  simp only [rF ht hg]
  cases b with
  | true =>
    simp only [Option.bind_eq_some_iff] at he
    obtain ⟨r,h1,h2⟩:=he
    simp only [if_true]
    refine zz ok hcode h1 (gF.nil _) m ht ?_
    cases r with
    | val v h'=>simp [dC] at h2
    | pan v h' =>
      simp only [dC,Bool.false_eq_true,if_false,Option.some.injEq,Out.panic.injEq] at h2
      obtain ⟨rfl,rfl⟩:=h2
      exact fun g' w' x nx hx=>hK g' w' x nx hx
  | false=>simp at he
theorem sE (ok:lu E) (hcode:cy E.P code) {ops:Array Oper}:∀ (os:List Oper) (is:List Nat) (s:St) (out:Out) (g0:Gh) (h0:Hp) (w0:World) (a0:Act) (g:Gh) (a:Act) (w:World),is.map (ops[·]?)=os.map some→(pZ E code ops os s).get=some out→Nx g0 h0 w0 g s.hp w→a.defers=a0.defers→aE g s.hp.aj w s.tmps a.tmps.toList→wpOpsIn (Fr ro) 0 E.P ops (ga g0 h0 w0 a0 out) is a w
  | [],is,s,out,g0,h0,w0,a0,g,a,w,hm,he,nx,hd,ht=>by
    cases is with
    | cons=>simp at hm
    | nil =>
      simp only [pZ,aq,Option.some.injEq] at he
      subst he
      exact ⟨rfl,g,nx,ht,hd⟩
  | o::os,is,s,out,g0,h0,w0,a0,g,a,w,hm,he,nx,hd,ht=>by
    cases is with
    | nil=>simp at hm
    | cons i is =>
      simp only [List.map_cons,List.cons.injEq] at hm
      simp only [pZ,get_bind,Option.bind_eq_some_iff] at he
      obtain ⟨r,h1,h2⟩:=he
      have hst:=eW _ _ _ _ (gF.nil _) h1
      simp only [dA,Option.bind_eq_some_iff] at hst
      obtain ⟨q,k1,k2⟩:=hst
      rw [wpOpsIn_cons]
      cases q with
      | norm s' =>
        simp only [Option.some.injEq] at k2
        subst k2
        refine gh ok hcode k1 nx.mr ht hm.1 ?_
        intro g' w' a' nx' ht' hd'
        exact sE ok hcode os is s' out g0 h0 w0 a0 g' a' w' hm.2 h2 (nx.trans nx') (hd'.trans hd) ht'
      | panic v h' =>
        simp only [Option.some.injEq] at k2
        subst k2
        simp only [aq,Option.some.injEq] at h2
        subst h2
        refine GO ok hcode k1 nx.mr ht hm.1 ?_
        intro g' w' x nx' hx
        simp only [ga,if_true]
        exact ⟨x,v,s.tmps,g',rfl,rfl,nx.trans nx',hx,ht.mono nx'.le,hd⟩
      | ret s' =>
        simp only [Option.some.injEq] at k2
        subst k2
        simp at h2
      | exit j s' =>
        simp only [Option.some.injEq] at k2
        subst k2
        simp at h2
theorem MW (ok:lu E) (hcode:cy E.P code) (c:Code):∀ s out,(tD E code c s).get=some out→∀ (g:Gh) (w:World) (a:Act),MR g s.hp w→aE g s.hp.aj w s.tmps a.tmps.toList→c.wpIn (Fr ro) 0 E.P (ga g s.hp w a out) a w:=by
  have pass:∀ {g:Gh} {h:Hp} {w:World} {a a1:Act} {w1:World} {e:Exit} {id:Nat} {s1:St},ga g h w a (.exit id s1) e a1 w1→(∃ j,e=.exit j)∨∃ c,e=.panic c:=by
    intro g h w a a1 w1 e id s1 hp
    simp only [ga] at hp
    split at hp
    · obtain ⟨x,v,tl,g',h1,h2,_⟩:=hp
      exact .inr ⟨_,h2⟩
    · obtain ⟨h1,_⟩:=hp
      exact .inl ⟨_,h1⟩
  induction c with
  | skip =>
    intro s out he g w a m ht
    simp only [tD,aq,Option.some.injEq] at he
    subst he
    exact wpIn_skip ⟨rfl,g,Nx.refl m,ht,rfl⟩
  | region id ops draw =>
    intro s out he g w a m ht
    cases draw with
    | true=>simp [tD] at he
    | false =>
      rw [tD] at he
      exact wpIn_region (sE ok hcode _ _ _ _ g s.hp w a g a w (D5 ops) he (Nx.refl m) rfl ht)
  | seq x y ihx ihy =>
    intro s out he g w a m ht
    rw [tD,get_bind,Option.bind_eq_some_iff] at he
    obtain ⟨r,h1,h2⟩:=he
    refine wpIn_seq (wpIn_mono (ihx _ _ h1 g w a m ht) ?_)
    intro e a1 w1 hp
    cases r with
    | norm s1 =>
      obtain ⟨rfl,g1,nx,hr,hd⟩:=hp
      exact wpIn_mono (ihy s1 out h2 g1 w1 a1 nx.mr hr) fun e a2 w2 hp2=>hp2.nx nx hd
    | ret s1 =>
      simp only [aq,Option.some.injEq] at h2
      subst h2
      obtain ⟨rfl,rest⟩:=hp
      exact ⟨rfl,rest⟩
    | exit id s1 =>
      simp only [aq,Option.some.injEq] at h2
      subst h2
      rcases pass hp with ⟨j,rfl⟩ | ⟨c,rfl⟩ <;> exact hp
    | panic v h1=>exact hp.elim
  | cond c x y ihx ihy =>
    intro s out he g w a m ht
    have hc:=aQ ht c
    rw [tD] at he
    split at he
    · rename_i e
      rw [e] at hc
      exact wpIn_cond_true hc.di (ihx _ _ he g w a m ht)
    · rename_i e
      rw [e] at hc
      exact wpIn_cond_false hc.di (ihy _ _ he g w a m ht)
    · rename_i t e
      rw [e] at hc
      rw [fe] at he
      cases t with
      | true=>exact wpIn_cond_true hc.eK (ihx _ _ he g w a m ht)
      | false=>exact wpIn_cond_false hc.eK (ihy _ _ he g w a m ht)
    · simp at he
  | block id b ih =>
    intro s out he g w a m ht
    rw [tD,get_bind,Option.bind_eq_some_iff] at he
    obtain ⟨r,h1,h2⟩:=he
    refine wpIn_block (wpIn_mono (ih _ _ h1 g w a m ht) ?_)
    intro e a1 w1 hp
    cases r with
    | norm s1 =>
      simp only [aq,Option.some.injEq] at h2
      subst h2
      obtain ⟨rfl,rest⟩:=hp
      exact ⟨rfl,rest⟩
    | ret s1 =>
      simp only [aq,Option.some.injEq] at h2
      subst h2
      obtain ⟨rfl,rest⟩:=hp
      exact ⟨rfl,rest⟩
    | exit j s1 =>
      simp only at h2
      by_cases hjp:j=Bd
      · subst hjp
        simp only [beq_self_eq_true,if_true,aq,Option.some.injEq] at h2
        subst h2
        simp only [ga,if_true] at hp
        obtain ⟨x,v,tl,g',e1,rfl,rest⟩:=hp
        simp only [Exit.inBlock,ga,if_true]
        exact ⟨x,v,tl,g',e1,rfl,rest⟩
      · have hne:(j==Bd)=false:=by simpa using hjp
        rw [hne] at h2
        simp only [Bool.false_eq_true,if_false] at h2
        simp only [ga,if_neg hjp] at hp
        obtain ⟨rfl,rest⟩:=hp
        by_cases hj:j=id
        · subst hj
          simp only [beq_self_eq_true,if_true,aq,Option.some.injEq] at h2
          subst h2
          simp only [Exit.inBlock,if_true]
          exact ⟨rfl,rest⟩
        · have hne:(j==id)=false:=by simpa using hj
          rw [hne] at h2
          simp only [Bool.false_eq_true,if_false,aq,Option.some.injEq] at h2
          subst h2
          simp only [Exit.inBlock,hj,if_false,ga,if_neg hjp]
          exact ⟨rfl,rest⟩
    | panic v h1=>exact hp.elim
  | exit id =>
    intro s out he g w a m ht
    simp only [tD] at he
    by_cases hid:id=Bd
    · subst hid; simp at he
    · have hne:(id==Bd)=false:=by simpa using hid
      rw [hne] at he
      simp only [Bool.false_eq_true,if_false,aq,Option.some.injEq] at he
      subst he
      refine wpIn_exit ?_
      simp only [ga,if_neg hid]
      exact ⟨rfl,g,Nx.refl m,ht,rfl⟩
  | ret =>
    intro s out he g w a m ht
    simp only [tD,aq,Option.some.injEq] at he
    subst he
    exact wpIn_ret ⟨rfl,g,Nx.refl m,ht,rfl⟩
  | _=>intro s out he; simp [tD] at he
theorem uv {ops:Array Oper} {u:Nat} (h:lH ops=some u):∃ o cc,ops.toList.getLast?=some o∧o.op=.defer cc∧o.guard=none∧o.dst=none∧cc.callee=.value (.tmp u)∧cc.args=#[]:=by
  unfold lH at h
  split at h
  · rename_i o ho
    split at h
    · rename_i cc e1 e2 e3
      split at h
      · rename_i u1 e4
        split at h
        · rename_i e5
          simp only [Option.some.injEq] at h
          subst h
          exact ⟨o,cc,ho,e1,e2,e3,e4,Array.eq_empty_of_size_eq_zero e5⟩
        · cases h
      · cases h
    · cases h
  · cases h
theorem yk {l l':List AV} {os:List Oper} (h:yA l os=some l'):(os=[]∧l'=l)∨∃ p x,os=[p]∧p.op=.assign x∧p.guard=none∧l'=bK l p.dst (aK l x):=by
  unfold yA at h
  split at h
  · simp only [Option.some.injEq] at h
    exact .inl ⟨rfl,h.symm⟩
  · rename_i p
    split at h
    · rename_i x e1 e2
      simp only [Option.some.injEq] at h
      exact .inr ⟨p,x,rfl,e1,e2,h.symm⟩
    · cases h
  · cases h
theorem wv {fd:Nat} {cv:List AV} {rv:AV} {h h':Hp} (he:(jQ E code fd cv rv h).get=some h'):∃ fn id o os cc rest t l s,E.P.funcs[fd]?=some fn∧fn.body=some (.seq (.region id (o::os).toArray false) rest)∧o.op=.call cc∧o.guard=none∧o.dst=some t∧cc.callee=.builtin .recover∧cc.args=#[]∧fn.results=#[] ∧
    yA ((cv++List.replicate (fn.ntmps - cv.length) AV.undef).set t rv) os=some l∧((o7 E code rest ⟨l,h⟩).get=some (.norm s)∨(o7 E code rest ⟨l,h⟩).get=some (.ret s))∧s.hp=h':=by
  unfold jQ at he
  split at he
  · rename_i fn hf
    split at he
    · rename_i id ops rest hb
      split at he
      · rename_i o os ho
        split at he
        · rename_i cc t e1 e2 e3
          split at he
          · rename_i e4
            split at he
            · rename_i e5
              split at he
              · rename_i l hl
                simp only [get_bind,Option.bind_eq_some_iff] at he
                obtain ⟨out,h1,h2⟩:=he
                have hops:ops=(o::os).toArray:=by apply Array.toList_inj.1; simpa using ho
                subst hops
                cases out with
                | norm s =>
                  simp only [aq,Option.some.injEq] at h2
                  exact ⟨fn,id,o,os,cc,rest,t,l,s,hf,hb,e1,e2,e3,e4,Array.eq_empty_of_size_eq_zero e5.1,Array.eq_empty_of_size_eq_zero e5.2,hl,.inl h1,h2⟩
                | ret s =>
                  simp only [aq,Option.some.injEq] at h2
                  exact ⟨fn,id,o,os,cc,rest,t,l,s,hf,hb,e1,e2,e3,e4,Array.eq_empty_of_size_eq_zero e5.1,Array.eq_empty_of_size_eq_zero e5.2,hl,.inr h1,h2⟩
                | exit id s=>simp at h2
                | panic v h=>simp at h2
              · simp at he
            · simp at he
          · simp at he
        · simp at he
      · simp at he
    · simp at he
  · simp at he
theorem yG (ok:lu E) (hcode:cy E.P code) {fd:Nat} {cv:List AV} {rv:AV} {h h':Hp} (he:(jQ E code fd cv rv h).get=some h') {g:Gh} {w:World} {ys:Array Value} (m:MR g h w) (hr:aE g h.aj w cv ys.toList) {fn:Func} {tmps:Array Value} {R:Ending→World→Prop}
    {u u2:FrameMode} (hun:u≠.run) (hu2:settle u2=.returning) {xv:Value} (hx:aN g h.aj w rv xv) (hrc:∀ (c₀:Frame) (cs:List Frame),c₀.mode=u→(recoverD (c₀::cs)=none∧xv=.nilIface∧u2=u)∨recoverD (c₀::cs)=some (xv,{ c₀ with mode:=u2 }::cs))
    (hR:∀ g' w',Nx g h w g' h' w'→LeavesInM Fence.wide 0 E.P fn tmps R [] .returning w'):LeavesInM Fence.wide 0 E.P fn tmps R [{ target := .fn (.func fd) ys,args := #[] }] u w:=by
  obtain ⟨fnd,id,o,os,cc,rest,t,l,s,hf,hb,e1,e2,e3,e4,e5,e6,hl,h1,rfl⟩:=wv he
  have hinv:(invoke (.fn (.func fd) ys) #[]).run E.P w=.ok (.enter fd (#[]++ys)) w:=iM hf (by rw [hb]; rfl) (ok.named _ _ hf (by rw [hb]; rfl))
  refine ⟨hun,.inr ⟨fun hx=>by simp [Fence.wide] at hx,.func fd,ys,fd,#[]++ys,rfl,hinv,fun _ _=>trivial,?_⟩⟩
  refine callsDIn_of_wpSIn hf hb trivial fun c₀ cs hu => ?_
  refine wpSIn_seq (wpSIn_region ?_)
  obtain ⟨cs2,hcs2,hrec⟩:∃ cs2,cs2={ c₀ with mode:=u2 }::cs∧((recoverD (c₀::cs)=none∧xv=.nilIface∧cs2=c₀::cs)∨recoverD (c₀::cs)=some (xv,cs2)):=by
    rcases hrc c₀ cs hu with ⟨q1,q2,q3⟩ | q
    · exact ⟨_,rfl,.inl ⟨q1,q2,by rw [q3,← hu]⟩⟩
    · exact ⟨_,rfl,.inr q⟩
  have hex:∀ ρ:Operand→Value,(execOp ρ o).run E.P w=.ok .recover w:=fun ρ=>by
    simp only [execOp,e1,resolve,e4,e5]
    rfl
  have hw:∀ y,Region.wanted o y=true:=fun y=>by unfold Region.wanted; rw [e2]
  have htm:aE g h.aj w (cv++List.replicate (fnd.ntmps - cv.length) .undef) ((#[]++ys)++Array.replicate (fnd.ntmps - (#[]++ys).size) undef).toList:=by
    rw [Array.toList_append,Array.toList_replicate,Array.empty_append]
    have hl:cv.length=ys.size:=by rw [hr.length]; simp
    rw [hl]
    exact hr.append (aE.i7 _)
  have hput:=oF (a:=(⟨(#[]++ys)++Array.replicate (fnd.ntmps - (#[]++ys).size) undef,[]⟩:Act)) htm hx (some t)
  have key:∀ (A:Act),A.defers=[]→aE g h.aj w l A.tmps.toList→∀ out,(o7 E code rest ⟨l,h⟩).get=some out→(out=.norm s∨out=.ret s)→rest.wpSIn Fence.wide 0 E.P (bodyPostS E.P fnd c₀ cs fun
        | .returned _,u',w'=>LeavesInM Fence.wide 0 E.P fn tmps R [] (settle u') w'
        | .panicked chain,u',w'=>LeavesInM Fence.wide 0 E.P fn tmps R [] (raised u' chain) w'
        | .outgrown,_,w'=>R .outgrown w') A cs2 w:=by
    intro A hA hput out ho hout
    refine wpSIn_of_wpIn rfl (wpIn_mono (Cy (ro:=none) ok hcode rest _ _ ho g w _ m hput) ?_)
    have fin:∀ (g':Gh) (a':Act) (w':World),Nx g h w g' s.hp w'→aE g' s.hp.aj w' s.tmps a'.tmps.toList→a'.defers=[]→∀ e:Exit,(e=.normal∨e=.ret)→bodyPostS E.P fnd c₀ cs (fun
        | .returned _,u',w'=>LeavesInM Fence.wide 0 E.P fn tmps R [] (settle u') w'
        | .panicked chain,u',w'=>LeavesInM Fence.wide 0 E.P fn tmps R [] (raised u' chain) w'
        | .outgrown,_,w'=>R .outgrown w') e a' cs2 w':=by
      intro g' a' w' nx hrt hd e hee
      obtain ⟨v,v1,_⟩:=jx (fn:=fnd) (l:=[]) nx.mr hrt (by rw [e6]; rfl)
      have hl:=hR g' w' nx
      rw [← hu2] at hl
      rcases hee with rfl | rfl
      · exact ⟨hd,u2,hcs2,v,v1,hl⟩
      · exact ⟨hd,u2,hcs2,v,v1,hl⟩
    intro e a' w' hp
    rcases hout with rfl | rfl
    · obtain ⟨rfl,g',nx,hrt,hd⟩:=hp
      exact fin g' a' w' nx hrt (hd.trans hA) _ (.inl rfl)
    · obtain ⟨rfl,g',nx,hrt,hd⟩:=hp
      exact fin g' a' w' nx hrt (hd.trans hA) _ (.inr rfl)
  have fin2:∀ (A:Act),A.defers=[]→aE g h.aj w l A.tmps.toList→rest.wpSIn Fence.wide 0 E.P (bodyPostS E.P fnd c₀ cs fun
        | .returned _,u',w'=>LeavesInM Fence.wide 0 E.P fn tmps R [] (settle u') w'
        | .panicked chain,u',w'=>LeavesInM Fence.wide 0 E.P fn tmps R [] (raised u' chain) w'
        | .outgrown,_,w'=>R .outgrown w') A cs2 w:=by
    intro A hA hA2
    rcases h1 with h1 | h1
    · exact key A hA hA2 _ h1 (.inl rfl)
    · exact key A hA hA2 _ h1 (.inr rfl)
  rcases yk hl with ⟨rfl,rfl⟩ | ⟨p,x,rfl,p1,p2,rfl⟩
  · have fin3:=fin2 _ (by rfl) hput
    rcases hrec with ⟨hrec,q2,q3⟩ | hrec
    · rw [q2,q3] at fin3
      show wpOpsSIn Fence.wide 0 E.P #[o] _ [0] _ _ w
      simp only [wpOpsSIn,List.getElem?_toArray,List.getElem?_cons_zero,hw,if_true,hex,hrec]
      refine ⟨fun _ _=>trivial,?_⟩
      rw [e3]
      exact fin3
    · show wpOpsSIn Fence.wide 0 E.P #[o] _ [0] _ _ w
      simp only [wpOpsSIn,List.getElem?_toArray,List.getElem?_cons_zero,hw,if_true,hex,hrec]
      refine ⟨fun _ _=>trivial,?_⟩
      rw [e3]
      exact fin3
  · have fin3:=fin2 _ (by cases p.dst <;> rfl) (oF hput (aQ hput x) p.dst)
    have hw2:∀ y,Region.wanted p y=true:=fun y=>by unfold Region.wanted; rw [p2]
    have hex2:∀ ρ:Operand→Value,(execOp ρ p).run E.P w=.ok (.value (ρ x)) w:=fun ρ=>by
      simp only [execOp,p1]
      rfl
    rcases hrec with ⟨hrec,q2,q3⟩ | hrec
    · rw [q2,q3] at fin3
      rw [q2] at hput
      show wpOpsSIn Fence.wide 0 E.P #[o,p] _ [0,1] _ _ w
      simp only [wpOpsSIn,List.getElem?_toArray,List.getElem?_cons_zero,List.getElem?_cons_succ,hw,hw2,if_true,hex,hex2,hrec]
      refine ⟨fun _ _=>trivial,fun _ _=>trivial,?_⟩
      rw [e3]
      exact fin3
    · show wpOpsSIn Fence.wide 0 E.P #[o,p] _ [0,1] _ _ w
      simp only [wpOpsSIn,List.getElem?_toArray,List.getElem?_cons_zero,List.getElem?_cons_succ,hw,hw2,if_true,hex,hex2,hrec]
      refine ⟨fun _ _=>trivial,fun _ _=>trivial,?_⟩
      rw [e3]
      exact fin3
theorem GK (ok:lu E) (hcode:cy E.P code) (hloop:nB E.P E.loop) {f:Nat} {fn:Func} {rest:Code} {id:Nat} {ops:Array Oper} {u:Nat} (hc:lH ops=some u) {s:St} {res:bV} (he:(yw E code f fn ops u rest s).get=some res)
    {g:Gh} {w:World} {a:Act} (m:MR g s.hp w) (ht:aE g s.hp.aj w s.tmps a.tmps.toList) (hd1:a.defers=[]) {g0:Gh} {h0:Hp} {w0:World} (nx0:Nx g0 h0 w0 g s.hp w):(Code.seq (.region id ops false) rest).wpIn Fence.wide 0 E.P (bodyPostM Fence.wide 0 E.P fn (nQ g0 h0 w0 res)) a w:=by
  obtain ⟨o,cc,hlast,o1,o2,o3,o4,o5⟩:=uv hc
  unfold yw at he
  simp only [get_bind,Option.bind_eq_some_iff] at he
  obtain ⟨r2,h2,he⟩:=he
  have hr2:∃ s2,r2=.norm s2:=by
    cases r2 with
    | norm s=>exact ⟨s,rfl⟩
    | panic v h=>simp at he
    | ret s=>simp at he
    | exit i s=>simp at he
  obtain ⟨s2,rfl⟩:=hr2
  simp only at he
  split at he
  case h_2=>simp at he
  rename_i fd cv hu
  simp only [get_bind,Option.bind_eq_some_iff] at he
  obtain ⟨r3,h3,he⟩:=he
  have hr3:(∃ s3 h4,(r3=.norm s3∨r3=.ret s3)∧(jQ E code fd cv .niliface s3.hp).get=some h4∧(finish E.P fn ⟨s3.tmps,h4⟩).get=some res) ∨
      ∃ t v tl h3 h4,(tD E code rest s2).get=some (.exit Bd ⟨.iface t v::tl,h3⟩)∧(jQ E code fd cv (.iface t v) h3).get=some h4∧(finish E.P fn ⟨tl,h4⟩).get=some res:=by
    cases r3 with
    | norm s =>
      simp only [get_bind,Option.bind_eq_some_iff] at he
      obtain ⟨h4,q1,q2⟩:=he
      exact .inl ⟨s,h4,.inl rfl,q1,q2⟩
    | ret s =>
      simp only [get_bind,Option.bind_eq_some_iff] at he
      obtain ⟨h4,q1,q2⟩:=he
      exact .inl ⟨s,h4,.inr rfl,q1,q2⟩
    | panic v h =>
      simp only [get_bind,Option.bind_eq_some_iff] at he
      obtain ⟨q,q1,q2⟩:=he
      split at q2
      · rename_i j t v tl h3
        by_cases hj:j=Bd
        · subst hj
          simp only [beq_self_eq_true,if_true,get_bind,Option.bind_eq_some_iff] at q2
          obtain ⟨h4,q3,q4⟩:=q2
          exact .inr ⟨t,v,tl,h3,h4,q1,q3,q4⟩
        · have hne:(j==Bd)=false:=by simpa using hj
          rw [hne] at q2
          simp at q2
      · simp at q2
    | exit i s=>simp at he
  refine wpIn_seq (wpIn_region ?_)
  have hsz:ops.size≠0:=fun h0=>by
    have:ops.toList=[]:=by apply List.eq_nil_of_length_eq_zero; simpa using h0
    rw [this] at hlast; cases hlast
  obtain ⟨k,hk⟩:=Nat.exists_eq_succ_of_ne_zero hsz
  have hids:=D5 ops
  have hdl:ops.toList=ops.toList.dropLast++[o]:=by
    obtain ⟨l0,e0⟩:=List.getLast?_eq_some_iff.1 hlast
    rw [e0,List.dropLast_concat]
  rw [hk,Nat.succ_eq_add_one,List.range_succ,List.map_append,hdl,List.map_append] at hids
  have hlen:((List.range k).map (ops[·]?)).length=(ops.toList.dropLast.map some).length:=by simp; omega
  obtain ⟨hm1,hm2⟩:=List.append_inj hids hlen
  simp only [List.map_cons,List.map_nil,List.cons.injEq,and_true] at hm2
  rw [hk,Nat.succ_eq_add_one,List.range_succ]
  refine wT ok hcode (ro:=none) _ _ _ _ g a w hm1 (eW _ _ _ _ (gF.nil _) h2) m ht ?_
  intro g2 w2 a2 nx2 ht2 hd2
  have hfv:∃ ys,a2.eval (.tmp u)=.func (.func fd) #[] ys∧aE g2 s2.hp.aj w2 cv ys.toList:=by
    have:=aQ ht2 (.tmp u)
    rw [show aK s2.tmps (.tmp u)=.func fd [] cv from hu] at this
    generalize a2.eval (.tmp u)=z at this
    cases this with
    | @func _ _ _ x y q1 q2 =>
      have hx:x=#[]:=by
        apply Array.toList_inj.1
        cases hxl:x.toList with
        | nil=>rfl
        | cons=>rw [hxl] at q1; cases q1
      exact ⟨y,by rw [hx],q2⟩
  obtain ⟨ys,hys,hry⟩:=hfv
  have hex:(execOp a2.eval o).run E.P w2=.ok (.defer { target := .fn (.func fd) ys,args := #[] }) w2:=by
    simp only [execOp,o1,resolve,o4,o5,hys,Deferred.ofValue,Sem.run_bind,Sem.run_pure,Result.andThen_ok,Array.map_empty,Array.append_empty]
  rw [wpOpsIn_cons]
  unfold wpOpIn
  rw [hm2]
  have hw:∀ y,Region.wanted o y=true:=fun y=>by unfold Region.wanted; rw [o2]
  simp only [hw,if_true]
  refine ⟨fun _ _=>trivial,?_⟩
  rw [show (Fr none).round=none from rfl,Oper.semAt_none,hex,Oper.uponIn_defer,o3]
  have hde:a2.defers=[]:=hd2.trans hd1
  show rest.wpIn Fence.wide 0 E.P _ { a2 with defers:={ target := .fn (.func fd) ys,args := #[] }::a2.defers } w2
  rw [hde]
  have hrun:∀ (g5:Gh) (w5:World) (h4:Hp) (tl:List AV) (tm:Array Value),(finish E.P fn ⟨tl,h4⟩).get=some res→Nx g s.hp w g5 h4 w5→aE g5 h4.aj w5 tl tm.toList→LeavesInM Fence.wide 0 E.P fn tm (nQ g0 h0 w0 res) [] .returning w5:=by
    intro g5 w5 h4 tl tm hfin nx5 hr5
    unfold finish at hfin
    split at hfin
    · rename_i l hl
      simp only [aq,Option.some.injEq] at hfin
      subst hfin
      obtain ⟨v,e1,e2⟩:=jx (fn:=fn) (a:=⟨tm,[]⟩) nx5.mr hr5 hl
      exact ⟨v,e1,g5,v,rfl,nx0.trans nx5,e2⟩
    · simp at hfin
  rcases hr3 with ⟨s3,h4,hout,hl4,hfin⟩ | ⟨t,v,tl,h3',h4,hp3,hl4,hfin⟩
  · have spec:=k9 ok hcode hloop f rest _ _ h3 none g2 w2 { a2 with defers:=[{ target := .fn (.func fd) ys,args := #[] }] } (w.heap.size,[{ target := .fn (.func fd) ys,args := #[] }]) nx2.mr ht2 ⟨[],rfl,fun d hd=>absurd hd (by simp),List.Pairwise.nil⟩ nx2.le.below.size (fun c hc=>by cases hc)
    refine wpIn_mono spec ?_
    intro e a3 w3 hp
    have good:∀ (g3:Gh),Nx g2 s2.hp w2 g3 s3.hp w3→aE g3 s3.hp.aj w3 s3.tmps a3.tmps.toList→Marks g3 (w.heap.size,[{ target := .fn (.func fd) ys,args := #[] }]) a3.defers→LeavesInM Fence.wide 0 E.P fn a3.tmps (nQ g0 h0 w0 res) a3.defers .returning w3:=by
      intro g3 nx3 ht3 mk3
      refine qj m (by simp) g3 s3.hp s3.tmps _ (nx2.trans nx3) ht3 mk3 ?_
      intro g4 w4 nx4 lw4
      refine yG ok hcode hl4 nx4.mr ((hry.mono nx3.le).bN lw4) (by simp) (u2 := .returning) rfl .niliface (fun c₀ cs hu=>.inl ⟨by simp [recoverD,hu],rfl,rfl⟩) ?_
      intro g5 w5 nx5
      exact hrun g5 w5 h4 s3.tmps a3.tmps hfin (nx4.trans nx5) ((ht3.bN lw4).mono nx5.le)
    rcases hout with rfl | rfl
    · obtain ⟨rfl,g3,nx3,ht3,mk3⟩:=hp
      exact good g3 nx3 ht3 mk3
    · obtain ⟨rfl,g3,nx3,ht3,mk3⟩:=hp
      exact good g3 nx3 ht3 mk3
  · refine wpIn_mono (MW (ro:=none) ok hcode rest _ _ hp3 g2 w2 { a2 with defers:=[{ target := .fn (.func fd) ys,args := #[] }] } nx2.mr ht2) ?_
    intro e a3 w3 hp
    simp only [ga,if_true] at hp
    obtain ⟨x,v',tl',g3,q1,rfl,nx3,hx3,ht3,hd3⟩:=hp
    simp only [List.cons.injEq] at q1
    obtain ⟨rfl,rfl⟩:=q1
    show LeavesInM Fence.wide 0 E.P fn a3.tmps (nQ g0 h0 w0 res) a3.defers (.panicking (fj x)) w3
    rw [hd3]
    refine yG ok hcode hl4 nx3.mr (hry.mono nx3.le) (by simp) (u2 := .panicking [{ v:=x,recovered:=true }]) rfl hx3 (fun c₀ cs hu=>.inr (by simp [recoverD,hu,fj])) ?_
    intro g5 w5 nx5
    exact hrun g5 w5 h4 tl a3.tmps hfin ((nx2.trans nx3).trans nx5) (ht3.mono nx5.le)
theorem E0 (ok:lu E) (hcode:cy E.P code) (hloop:nB E.P E.loop) {f:Nat} {fn:Func} {g0:Gh} {h0:Hp} {w0:World} {res:bV}:∀ (c:Code) {s:St} {g:Gh} {w:World} {a:Act},(iS E code f fn c s).get=some res →
    MR g s.hp w→aE g s.hp.aj w s.tmps a.tmps.toList→a.defers=[]→Nx g0 h0 w0 g s.hp w→c.wpIn Fence.wide 0 E.P (bodyPostM Fence.wide 0 E.P fn (nQ g0 h0 w0 res)) a w:=by
  intro c
  induction c with
  | seq x b _ ih =>
    intro s g w a he m ht hd nx0
    have step:((o7 E code x s).bind fun
        | .norm s1=>iS E code f fn b s1
        | _=>.fail).get=some res→(Code.seq x b).wpIn Fence.wide 0 E.P (bodyPostM Fence.wide 0 E.P fn (nQ g0 h0 w0 res)) a w:=by
      intro he
      simp only [get_bind,Option.bind_eq_some_iff] at he
      obtain ⟨r,h1,h2⟩:=he
      refine wpIn_seq (wpIn_mono (Cy (ro:=none) ok hcode x _ _ h1 g w _ m ht) ?_)
      intro e a1 w1 hp
      cases r with
      | norm s1 =>
        obtain ⟨rfl,g1,nx1,ht1,hd1⟩:=hp
        exact ih h2 nx1.mr ht1 (hd1.trans hd) (nx0.trans nx1)
      | _=>simp at h2
    unfold iS at he
    split at he
    · rename_i id ops b' s' heq
      simp only [Code.seq.injEq] at heq
      obtain ⟨rfl,rfl⟩:=heq
      split at he
      · rename_i u hu
        exact GK ok hcode hloop hu he m ht hd nx0
      · exact step he
    · rename_i heq
      simp only [Code.seq.injEq] at heq
      obtain ⟨rfl,rfl⟩:=heq
      exact step he
    · simp at he
  | _=>intro s g w a he; simp [iS] at he
theorem FU (ok:lu E) (hcode:cy E.P code) (hloop:nB E.P E.loop) {f:Nat} {args:List AV} {h:Hp} {res:bV} (he:(xd E code f args h).get=some res):cR E.P f args h res∧∃ fn,E.P.funcs[f]?=some fn∧fn.body.isSome=true:=by
  unfold xd at he
  split at he
  · simp at he
  · rename_i fn hf
    split at he
    · simp at he
    · rename_i c hb
      refine ⟨?_,fn,hf,by rw [hb]; rfl⟩
      intro g w bg m hr
      refine callsIn_of_wp_marks hf hb trivial ?_
      have htm:aE g h.aj w (args++List.replicate (fn.ntmps - args.length) .undef) (bg++Array.replicate (fn.ntmps - bg.size) undef).toList:=by
        rw [Array.toList_append,Array.toList_replicate]
        have hl:args.length=bg.size:=by rw [hr.length]; simp
        rw [hl]
        exact hr.append (aE.i7 _)
      split at he
      · exact E0 ok hcode hloop c he m htm rfl (Nx.refl m)
      simp only [get_bind,Option.bind_eq_some_iff] at he
      obtain ⟨out,h1,h2⟩:=he
      have spec:=k9 ok hcode hloop f c _ _ h1 none g w ⟨bg++Array.replicate (fn.ntmps - bg.size) undef,[]⟩ (w.heap.size,[]) m htm ⟨[],rfl,fun d hd=>absurd hd (by simp),List.Pairwise.nil⟩ (Nat.le_refl _) (fun c hc=>by cases hc)
      refine wpIn_mono spec ?_
      intro e a1 w1 hp
      have good:∀ (s1:St) (g1:Gh),Nx g h w g1 s1.hp w1→aE g1 s1.hp.aj w1 s1.tmps a1.tmps.toList→Marks g1 (w.heap.size,[]) a1.defers→(finish E.P fn s1).get=some res→LeavesInM Fence.wide 0 E.P fn a1.tmps (nQ g h w res) a1.defers .returning w1:=by
        intro s1 g1 nx hr1 mk1 hfin
        unfold finish at hfin
        split at hfin
        · rename_i l hl
          simp only [aq,Option.some.injEq] at hfin
          subst hfin
          refine qj m (by simp) g1 s1.hp s1.tmps _ nx hr1 mk1 ?_
          intro g2 w2 nx2 lw
          obtain ⟨v,e1,e2⟩:=jx (fn:=fn) nx2.mr (hr1.bN lw) hl
          exact ⟨v,e1,g2,v,rfl,nx2,e2⟩
        · simp at hfin
      cases out with
      | norm s1 =>
        obtain ⟨rfl,g1,nx,hr1,mk1⟩:=hp
        exact good s1 g1 nx hr1 mk1 h2
      | ret s1 =>
        obtain ⟨rfl,g1,nx,hr1,mk1⟩:=hp
        exact good s1 g1 nx hr1 mk1 h2
      | exit id s1=>simp at h2
      | panic v h' =>
        simp only [aq,Option.some.injEq] at h2
        subst h2
        obtain ⟨x,g1,rfl,nx,hx,mk1⟩:=hp
        refine qj (u := .panicking (fj x)) m (by simp) g1 h' (a1.tmps.toList.map fun _=>.any) _ nx ?_ mk1 ?_
        · have:=aE.map (g:=g1) (tk:=h'.aj) (w:=w1) a1.tmps.toList (fun _=>AV.any) id (fun x _=>.any x)
          simpa using this
        · intro g2 w2 nx2 lw
          exact ⟨g2,x,rfl,nx2,hx.bN lw⟩
structure bD (B:aC):Prop where
  mL:∀ fn b F s out,B.mL fn b=some F→(F s).get=some out→aF B.P b s out
  AM:∀ f F args h res,B.AM f=some F→(F args h).get=some res→cR B.P f args h res∧∃ fn,B.P.funcs[f]?=some fn∧fn.body.isSome=true
  named : ∀ (f : Nat) (fn : Func), B.P.funcs[f]? = some fn → fn.body.isSome = true → (fn.name == "runtime.NumGoroutine") = false
  pf:∀ f as1 v,B.pf f=true→(B.G f as1).get=some v→bR B.P f as1 v∧∃ fn,B.P.funcs[f]?=some fn∧fn.body.isSome=true
theorem sl {B:aC} (hB:bD B):∀ n:Nat,
    (∀ f args h res,(Fv B n f args h).get=some res→cR B.P f args h res∧∃ fn,B.P.funcs[f]?=some fn∧fn.body.isSome=true)∧cy B.P (wV B n)∧nB B.P (wV B n)
  | 0=>⟨fun f args h res he=>by simp [Fv] at he,fun fn c s out he=>by simp [wV] at he,fun fn c s out he=>by simp [wV] at he⟩
  | n+1=>by
    obtain ⟨i1,i2,i3⟩:=sl hB n
    have ok:lu { B with call:=Fv B n,loop:=wV B n }:=⟨hB.mL,hB.named,hB.pf,i1⟩
    refine ⟨fun f args h res he => ?_,fun fn c s out he => ?_,fun fn c s out he => ?_⟩
    · rw [Fv] at he
      split at he
      · rename_i F hF
        exact hB.AM f F args h res hF he
      · exact FU ok i2 i3 he
    · rw [wV] at he
      exact k9 ok i2 i3 fn c s out he
    · rw [wV] at he
      exact vm ok i3 (fun s out=>k9 ok i2 i3 fn c s out) he
theorem nA {B:aC} (hB:bD B) {n f:Nat} {args:List AV} {v:AV} (he:(cZ B n f args).get=some v):bR B.P f args v∧∃ fn,B.P.funcs[f]?=some fn∧fn.body.isSome=true:=by
  unfold cZ at he
  simp only [get_bind,Option.bind_eq_some_iff] at he
  obtain ⟨r,h1,h2⟩:=he
  obtain ⟨hspec,hfn⟩:=(sl hB n).1 _ _ _ _ h1
  refine ⟨?_,hfn⟩
  intro w bg hglob hr
  have m0:MR (gG w) sk w:=by
    refine ⟨Nat.le_refl _,fun _ _ x=>x,rfl,fun _ _ _ x _=>by simp [gG] at x,fun _ _ _ x=>by simp [gG] at x,rfl,fun _ x=>by simp [gG] at x,fun _ _ _ _ x=>by simp [gG] at x,fun _ _ _ _ _ _ _ x=>by simp [gG] at x,rfl,fun _ _ _ x=>by simp [gG] at x,fun _ _ _ x=>by simp [gG] at x,fun _ x=>by simp [gG] at x,hglob⟩
  refine (hspec (gG w) w bg m0 hr).mono ?_
  intro e w' hp
  split at h2
  · rename_i v0 h'
    split at h2
    · rename_i hc
      simp only [Bool.and_eq_true] at hc
      simp only [aq,Option.some.injEq] at h2
      subst h2
      obtain ⟨g',x,rfl,nx,hx⟩:=hp
      exact ⟨x,rfl,nx.le.below,Hs nx.mr.eC nx.le.base hc.1 hc.2 hx⟩
    · simp at h2
  · simp at h2
end
structure D (α:Type) where
  arg:α→AV
  res:α→AV
  dec:AV→Option α
  ok:∀ a x,dec a=some x→∀ (g:Gh) (tk:List Nat) (w:World) (c:Value),aN g tk w a c→aN g tk w (arg x) c
  uo:∀ a x,dec a=some x→bx a=true→∀ (g:Gh) (w:World) (c:Value),aN g [] w a c→aN g [] w (res x) c
section
variable {g:Gh} {tk:List Nat} {w:World}
theorem zU {k:IntKind} {a:AV} {n:Int} (h:(if kindOk k a then nq a else none)=some n) {c:Value} (hr:aN g tk w a c):aN g tk w (.int k n) c:=by
  simp only [Option.ite_none_right_eq_some] at h
  rw [eJ h.1 h.2 hr]
  exact .int _ _
def dI (k:IntKind):D Int where
  arg := .int k
  res := .int k
  dec a:=if kindOk k a then nq a else none
  ok _ _ h _ _ _ _ hr:=zU h hr
  uo _ _ h _ _ _ _ hr:=zU h hr
def dB:D Bool where
  arg := .bool
  res := .bool
  dec:=sY
  ok _ _ h _ _ _ _ hr:=by rw [oE h hr]; exact .bool _
  uo _ _ h _ _ _ _ hr:=by rw [oE h hr]; exact .bool _
theorem Dd {a:AV} {x:BitVec 64} (h:QN a=some x):a=.u64 x:=by cases a <;> simp [QN] at h; rw [h]
theorem CB {a:AV} {x:List UInt8} (h:OZ a=some x):a=.str x:=by cases a <;> simp [OZ] at h; rw [h]
def dU:D (BitVec 64) where
  arg := .u64
  res := .u64
  dec:=QN
  ok _ _ h _ _ _ _ hr:=by rw [Dd h] at hr; exact hr
  uo _ _ h _ _ _ _ hr:=by rw [Dd h] at hr; exact hr
def dS:D (List UInt8) where
  arg := .str
  res := .str
  dec:=OZ
  ok _ _ h _ _ _ _ hr:=by rw [CB h] at hr; exact hr
  uo _ _ h _ _ _ _ hr:=by rw [CB h] at hr; exact hr
theorem sO {v:AV} {m:AV} (hm:m=.agg (bw m)) (hv:v=.agg (bw v)) (h:∀ cs,aB g tk w (bw v) cs→aB g tk w (bw m) cs) {c:Value} (hr:aN g tk w v c):aN g tk w m c:=by
  rw [hv] at hr
  obtain ⟨cs,rfl,hc⟩:=hr.dW
  rw [hm]
  exact .agg (h _ hc)
theorem zG {v:AV} {m:Mv} (h:Av v=some m):v=.agg (bw v):=by
  unfold Av at h
  split at h
  · rfl
  · cases h
theorem wD {v:AV} {m:Pos} (h:toPos v=some m):v=.agg (bw v):=by
  unfold toPos at h
  split at h
  · rfl
  · cases h
def iE:D Mv where
  arg:=Mv.av
  res:=Mv.av
  dec:=Av
  ok _ _ h _ _ _ _ hr:=sO rfl (zG h) (fun _ hc=>(px h hc).1) hr
  uo _ _ h _ _ _ _ hr:=sO rfl (zG h) (fun _ hc=>(px h hc).1) hr
def bH:D Pos where
  arg:=Pos.av
  res:=Pos.av
  dec:=toPos
  ok _ _ h _ _ _ _ hr:=sO rfl (wD h) (fun _ hc=>(mV h hc).1) hr
  uo _ _ h _ _ _ _ hr:=sO rfl (wD h) (fun _ hc=>(mV h hc).1) hr
theorem BM {e:ET} {a:AV} {xs:List e.T} (h:dX e a=some xs) {c:Value} (hr:aN g tk w a c):aN g tk w (.list e xs .arg) c:=by
  unfold dX at h
  split at h
  · rename_i e' l t
    split at h
    · rename_i he
      subst he
      simp only [Option.some.injEq] at h
      subst h
      cases hr with
      | list hn h1 h2 h3 h4 =>
        exact .list hn h1 (h2.imp id fun ⟨c,o,e1,e2,_⟩=>⟨c,o,e1,e2,fun f=>absurd rfl f⟩) (fun k e=>by cases e) h4
    · cases h
  · rename_i fr l
    cases hr with
    | vlist hn h1 h2 h4 =>
      have hl:=iK h
      exact .list (by omega) (iZ h h1) (h2.imp id fun ⟨c,o,e1,e2,_⟩=>⟨c,o,e1,e2,fun f=>absurd rfl f⟩) (fun k e=>by cases e) (by omega)
  · simp only [Option.some.injEq] at h
    subst h
    cases hr
    exact .list rfl .nil (.inl rfl) (fun k e=>by cases e) (Nat.le_refl _)
  · cases h
theorem DM {e:ET} {a:AV} {xs:List e.T} (h:dX e a=some xs) (hf:bx a=true) {c:Value} (hr:aN g tk w a c):aN g tk w (.list e xs .fresh) c:=by
  unfold dX at h
  split at h
  · rename_i e' l t
    split at h
    · rename_i he
      subst he
      simp only [Option.some.injEq] at h
      subst h
      cases hr with
      | list hn h1 h2 h3 h4 =>
        refine .list hn h1 (h2.imp id fun ⟨c,o,e1,e2,e3⟩=>⟨c,o,e1,e2,fun _=>e3 ?_⟩) (fun k e=>by cases e) h4
        rintro rfl
        simp [bx] at hf
    · cases h
  · rename_i fr l
    simp only [bx,Bool.and_eq_true] at hf
    cases hr with
    | vlist hn h1 h2 h4 =>
      have hl:=iK h
      exact .list (by omega) (iZ h h1) (h2.imp id fun ⟨c,o,e1,e2,e3⟩=>⟨c,o,e1,e2,fun _=>e3 hf.1⟩) (fun k e=>by cases e) (by omega)
  · simp only [Option.some.injEq] at h
    subst h
    cases hr
    exact .list rfl .nil (.inl rfl) (fun k e=>by cases e) (Nat.le_refl _)
  · cases h
def dL (e:ET):D (List e.T) where
  arg l := .list e l .arg
  res l := .list e l .fresh
  dec:=dX e
  ok _ _ h _ _ _ _ hr:=BM h hr
  uo _ _ h hf _ _ _ hr:=DM h hf hr
def Dy (k:IntKind) (n:Nat):AV→Option (List Int)
  | .agg [.ints k' n' l]=>if k=k'∧n=n' then some l else none
  | _=>none
theorem wO {k:IntKind} {n:Nat} {a:AV} {l:List Int} (h:Dy k n a=some l):a=.agg [.ints k n l]:=by
  unfold Dy at h
  split at h
  · simp only [Option.ite_none_right_eq_some,Option.some.injEq] at h
    obtain ⟨⟨rfl,rfl⟩,rfl⟩:=h
    rfl
  · cases h
def KC (k:IntKind) (n:Nat):D (List Int) where
  arg l := .agg [.ints k n l]
  res l := .agg [.ints k n l]
  dec:=Dy k n
  ok _ _ h _ _ _ _ hr:=by rw [wO h] at hr; exact hr
  uo _ _ h _ _ _ _ hr:=by rw [wO h] at hr; exact hr
def Wp (k k':IntKind):AV→Option (Int×Int)
  | .agg [a,b]=>if kindOk k a&&kindOk k' b then (nq a).bind fun x=>(nq b).map fun y=>(x,y) else none
  | _=>none
theorem y7 {k k':IntKind} {v:AV} {m:Int×Int} (h:Wp k k' v=some m) {c:Value} (hr:aN g tk w v c):aN g tk w (.agg [.int k m.1,.int k' m.2]) c:=by
  unfold Wp at h
  split at h
  · rename_i a b
    simp only [Option.ite_none_right_eq_some,Bool.and_eq_true,Option.bind_eq_some_iff,Option.map_eq_some_iff] at h
    obtain ⟨⟨k1,k2⟩,x,hx,y,hy,rfl⟩:=h
    obtain ⟨cs,rfl,hc⟩:=hr.dW
    obtain ⟨x1,r1,e1,q1,hc⟩:=hc.inv_one (bm hx)
    obtain ⟨x2,r2,rfl,q2,hc⟩:=hc.inv_one (bm hy)
    obtain rfl:=hc.cG
    obtain rfl:=eJ k1 hx q1
    obtain rfl:=eJ k2 hy q2
    exact .agg (by rw [e1]; exact .one rfl (.int _ _) (.one rfl (.int _ _) .nil))
  · cases h
def dR (k k':IntKind):D (Int×Int) where
  arg m := .agg [.int k m.1,.int k' m.2]
  res m := .agg [.int k m.1,.int k' m.2]
  dec:=Wp k k'
  ok _ _ h _ _ _ _ hr:=y7 h hr
  uo _ _ h _ _ _ _ hr:=y7 h hr
def Mz {α β:Type} (d:AV→Option α) (e:AV→Option β):AV→Option (α×β)
  | .tuple [a,b]=>(d a).bind fun x=>(e b).map fun y=>(x,y)
  | _=>none
def d2 {α β:Type} (d:D α) (e:D β):D (α×β) where
  arg p := .tuple [d.arg p.1,e.arg p.2]
  res p := .tuple [d.res p.1,e.res p.2]
  dec:=Mz d.dec e.dec
  ok a x h g tk w c hr:=by
    unfold Mz at h
    split at h
    · simp only [Option.bind_eq_some_iff,Option.map_eq_some_iff] at h
      obtain ⟨x,h1,y,h2,rfl⟩:=h
      cases hr with
      | tuple hl =>
        rename_i a b vs
        obtain ⟨l⟩:=vs
        cases hl with
        | cons q r=>cases r with | cons q2 r2=>cases r2; exact .tuple (.cons (d.ok _ _ h1 _ _ _ _ q) (.cons (e.ok _ _ h2 _ _ _ _ q2) .nil))
    · cases h
  uo a x h hf g w c hr:=by
    unfold Mz at h
    split at h
    · simp only [Option.bind_eq_some_iff,Option.map_eq_some_iff] at h
      obtain ⟨x,h1,y,h2,rfl⟩:=h
      simp only [bx,cC,Bool.and_eq_true] at hf
      cases hr with
      | tuple hl =>
        rename_i a b vs
        obtain ⟨l⟩:=vs
        cases hl with
        | cons q r=>cases r with | cons q2 r2=>cases r2; exact .tuple (.cons (d.uo _ _ h1 hf.1 _ _ _ q) (.cons (e.uo _ _ h2 hf.2.1 _ _ _ q2) .nil))
    · cases h
end
def Sound (P:Program) (f:Nat) (G:List AV→Tr AV):Prop :=
  ∀ as1 v,(G as1).get=some v→bR P f as1 v∧∃ fn,P.funcs[f]?=some fn∧fn.body.isSome=true
def bJ (P:Program) (b:Code) (F:St→Tr Out):Prop := ∀ s out,(F s).get=some out→aF P b s out
def E8:Code→Option Nat
  | .region id _ _=>some id
  | .seq a b=>match E8 a with
    | some i=>some i
    | none=>E8 b
  | .cond _ a b=>match E8 a with
    | some i=>some i
    | none=>E8 b
  | .block _ b=>E8 b
  | .loop b=>E8 b
  | .scope b=>E8 b
  | _=>none
def Lv (f:Nat):List (Nat×(List AV→Tr AV))→Option (List AV→Tr AV)
  | []=>none
  | (g,G)::t=>if f=g then some G else Lv f t
def QY (fn:Nat) (r:Option Nat):List (Nat×Nat×(Code→St→Tr Out))→Option (Code→St→Tr Out)
  | []=>none
  | (f,i,F)::t=>if fn=f∧r=some i then some F else QY fn r t
def Oj (f:Nat):List (Nat×(List AV→Hp→Tr bV))→Option (List AV→Hp→Tr bV)
  | []=>none
  | (g,G)::t=>if f=g then some G else Oj f t
def au (P:Program) (kill:Nat→Nat→List Nat) (tab:List (Nat×(List AV→Tr AV))) (ls:List (Nat×Nat×(Code→St→Tr Out))) (fs:List (Nat×(List AV→Hp→Tr bV))):aC where
  P:=P
  pf f:=(Lv f tab).isSome
  G f as1:=match Lv f tab with
    | some G=>G as1
    | none=>.fail
  kill:=kill
  mL fn b:=(QY fn (E8 b) ls).map fun F=>F b
  AM f:=Oj f fs
def eX (P:Program) (f:Nat) (F:List AV→Hp→Tr bV):Prop := ∀ args h res,(F args h).get=some res→cR P f args h res∧∃ fn,P.funcs[f]?=some fn∧fn.body.isSome=true
def mW (P:Program):List (Nat×(List AV→Hp→Tr bV))→Prop
  | []=>True
  | (f,F)::t=>eX P f F∧mW P t
def pS (P:Program):List (Nat×(List AV→Tr AV))→Prop
  | []=>True
  | (f,G)::t=>Sound P f G∧pS P t
structure IJ (P:Program):Prop where
  named : ∀ (f : Nat) (fn : Func), P.funcs[f]? = some fn → fn.body.isSome = true → (fn.name == "runtime.NumGoroutine") = false
theorem rH {P:Program} {f:Nat} {G:List AV→Tr AV}:∀ {tab:List (Nat×(List AV→Tr AV))},pS P tab→Lv f tab=some G→Sound P f G
  | [],_,h=>by simp [Lv] at h
  | (g,G')::t,hs,h=>by
    simp only [Lv] at h
    split at h
    · rename_i e
      simp only [Option.some.injEq] at h
      subst e; subst h
      exact hs.1
    · exact rH hs.2 h
noncomputable def shut {α:Type} (a:α):α:=Classical.choose (⟨a,rfl⟩:∃ x,x=a)
theorem ui {α:Type} (a:α):shut a=a:=Classical.choose_spec (⟨a,rfl⟩:∃ x,x=a)
def PS (P:Program) (f:Nat) (as1:List AV) (v:AV):Prop:=bR P f as1 v∧∃ fn,P.funcs[f]?=some fn∧fn.body.isSome=true
def g0 (F:Tr AV):List AV→Tr AV
  | []=>F
  | _=>.fail
def g1 {α:Type} (a:D α) (F:α→Tr AV):List AV→Tr AV
  | [x]=>(Tr.opt (a.dec x)).bind F
  | _=>.fail
def g2 {α β:Type} (a:D α) (b:D β) (F:α→β→Tr AV):List AV→Tr AV
  | [x,y]=>(Tr.opt (a.dec x)).bind fun x=>(Tr.opt (b.dec y)).bind fun y=>F x y
  | _=>.fail
def g3 {α β γ:Type} (a:D α) (b:D β) (c:D γ) (F:α→β→γ→Tr AV):List AV→Tr AV
  | [x,y,z]=>(Tr.opt (a.dec x)).bind fun x=>(Tr.opt (b.dec y)).bind fun y=>(Tr.opt (c.dec z)).bind fun z=>F x y z
  | _=>.fail
def G8 (P:Program) (f:Nat) (as1:List AV) (t:Tr AV):Prop := ∀ v,t.get=some v→bR P f as1 v∧∃ fn,P.funcs[f]?=some fn∧fn.body.isSome=true
theorem bR.args {P:Program} {f:Nat} {as1 bs:List AV} {v:AV} (h:bR P f bs v) (hc:∀ w cs,aE (gG w) [] w as1 cs→aE (gG w) [] w bs cs):bR P f as1 v :=
  fun w bg hg hr=>h w bg hg (hc w _ hr)
theorem la {P:Program} {f:Nat} {F:Tr AV} (h:G8 P f [] F):Sound P f (g0 F):=by
  intro as1 v he
  cases as1 with
  | nil=>exact h v he
  | cons=>simp [g0] at he
theorem aS {P:Program} {f:Nat} {α:Type} {a:D α} {F:α→Tr AV} (h:∀ x,G8 P f [a.arg x] (F x)):Sound P f (g1 a F):=by
  intro as1 v he
  unfold g1 at he
  split at he
  · simp only [get_bind,bM,Option.bind_eq_some_iff] at he
    obtain ⟨x,h1,h2⟩:=he
    obtain ⟨h3,h4⟩:=h x v h2
    refine ⟨h3.args fun w cs hr => ?_,h4⟩
    cases hr with
    | cons q r=>exact .cons (a.ok _ _ h1 _ _ _ _ q) r
  · simp at he
theorem bB {P:Program} {f:Nat} {α β:Type} {a:D α} {b:D β} {F:α→β→Tr AV} (h:∀ x y,G8 P f [a.arg x,b.arg y] (F x y)):Sound P f (g2 a b F):=by
  intro as1 v he
  unfold g2 at he
  split at he
  · simp only [get_bind,bM,Option.bind_eq_some_iff] at he
    obtain ⟨x,h1,y,h2,he⟩:=he
    obtain ⟨h3,h4⟩:=h x y v he
    refine ⟨h3.args fun w cs hr => ?_,h4⟩
    cases hr with
    | cons q r=>cases r with | cons q2 r=>exact .cons (a.ok _ _ h1 _ _ _ _ q) (.cons (b.ok _ _ h2 _ _ _ _ q2) r)
  · simp at he
theorem eG {P:Program} {f:Nat} {α β γ:Type} {a:D α} {b:D β} {c:D γ} {F:α→β→γ→Tr AV} (h:∀ x y z,G8 P f [a.arg x,b.arg y,c.arg z] (F x y z)):Sound P f (g3 a b c F):=by
  intro as1 v he
  unfold g3 at he
  split at he
  · simp only [get_bind,bM,Option.bind_eq_some_iff] at he
    obtain ⟨x,h1,y,h2,z,h3,he⟩:=he
    obtain ⟨h4,h5⟩:=h x y z v he
    refine ⟨h4.args fun w cs hr => ?_,h5⟩
    cases hr with
    | cons q r=>cases r with | cons q2 r=>cases r with | cons q3 r=>exact .cons (a.ok _ _ h1 _ _ _ _ q) (.cons (b.ok _ _ h2 _ _ _ _ q2) (.cons (c.ok _ _ h3 _ _ _ _ q3) r))
  · simp at he
mutual
theorem jG:∀ v:AV,bx (strip false v)=bx v
  | .any | .undef | .bool _ | .aO _ | .int .. | .bC .. | .u64 _ | .str _ | .ints .. | .ptr .. | .ptri .. | .nilptr | .slf _ | .itr .. | .vsl .. | .nilsl | .yield _ | .nilfunc | .niliface | .ptrf _=>by simp [strip,bx]
  | .list e l t=>by cases t <;> simp [strip,bx,Tk.res]
  | .agg l=>by simp only [strip,bx]; exact cX l
  | .tuple l=>by simp only [strip,bx]; exact cX l
  | .vlist _ l=>by simp only [strip,bx]; rw [cX l]; simp
  | .vany t l=>by cases t <;> simp only [strip,bx] <;> rw [cX l] <;> simp [Tk.res,Tk.made]
  | .iface _ v=>by simp only [strip,bx]; exact jG v
  | .func _ a b=>by simp only [strip,bx]; rw [cX a,cX b]
theorem cX:∀ l:List AV,cC (cq false l)=cC l
  | []=>rfl
  | v::vs=>by simp only [cq,cC]; rw [jG v,cX vs]
end
theorem sU {B:aC} {n f:Nat} {as1:List AV} {v:AV} (h:(cZ B n f as1).get=some v):bx v=true:=by
  unfold cZ at h
  simp only [get_bind,Option.bind_eq_some_iff] at h
  obtain ⟨r,_,h2⟩:=h
  split at h2
  · split at h2
    · rename_i hc
      simp only [aq,Option.some.injEq] at h2
      subst h2
      simp only [Bool.and_eq_true] at hc
      rw [jG]
      exact hc.2
    · simp at h2
  · simp at h2
theorem rV {B:aC} (hB:bD B) {n f:Nat} {as1:List AV} {v:AV} (h:(cZ B n f as1).get=some v) {α:Type} (d:D α) {x:α} (hd:d.dec v=some x):PS B.P f as1 (d.res x):=by
  obtain ⟨h3,h4⟩:=nA hB h
  refine ⟨fun w bg hg hr=>(h3 w bg hg hr).mono ?_,h4⟩
  rintro e w' ⟨y,rfl,hb,hx⟩
  exact ⟨y,rfl,hb,d.uo _ _ hd (sU h) _ _ _ hx⟩
def nk (P:Program):List (Nat×Nat×(Code→St→Tr Out))→Prop
  | []=>True
  | (_,_,F)::t=>(∀ b,bJ P b (F b))∧nk P t
theorem rf {P:Program} {fn:Nat} {r:Option Nat} {F:Code→St→Tr Out}:∀ {ls:List (Nat×Nat×(Code→St→Tr Out))},nk P ls→QY fn r ls=some F→∀ b,bJ P b (F b)
  | [],_,h=>by simp [QY] at h
  | (f,i,F')::t,hs,h=>by
    simp only [QY] at h
    split at h
    · simp only [Option.some.injEq] at h
      subst h
      exact hs.1
    · exact rf hs.2 h
theorem sj {P:Program} {f:Nat} {G:List AV→Hp→Tr bV}:∀ {tab:List (Nat×(List AV→Hp→Tr bV))},mW P tab→Oj f tab=some G→eX P f G
  | [],_,h=>by simp [Oj] at h
  | (g,G')::t,hs,h=>by
    simp only [Oj] at h
    split at h
    · rename_i e
      simp only [Option.some.injEq] at h
      subst e; subst h
      exact hs.1
    · exact sj hs.2 h
theorem ao {P:Program} (hn:IJ P) {kill:Nat→Nat→List Nat} {tab:List (Nat×(List AV→Tr AV))} {ls:List (Nat×Nat×(Code→St→Tr Out))} {fs:List (Nat×(List AV→Hp→Tr bV))} (ht:pS P tab) (hl:nk P ls) (hf:mW P fs):bD (au P kill tab ls fs) where
  named:=hn.named
  AM f F args h res h1 h2:=sj hf h1 args h res h2
  mL fn b F s out h1 h2:=by
    simp only [au,Option.map_eq_some_iff] at h1
    obtain ⟨F',h3,rfl⟩:=h1
    exact rf hl h3 b s out h2
  pf f as1 v h1 h2:=by
    simp only [au] at h1 h2
    cases hk:Lv f tab with
    | none=>rw [hk] at h1; cases h1
    | some G =>
      rw [hk] at h2
      exact rH ht hk as1 v h2
def pR (B:aC) (m:Nat):Env:={ B with call:=Fv B m,loop:=wV B m }
def kU (a b:AV):Prop := ∀ (g:Gh) (tk:List Nat) (w:World) (v:Value),aN g tk w a v→aN g tk w b v
def y5 (a b:List AV):Prop := ∀ (g:Gh) (tk:List Nat) (w:World) (v:List Value),aB g tk w a v→aB g tk w b v
theorem kU.refl (a:AV):kU a a:=fun _ _ _ _ h=>h
theorem kU.any (a:AV):kU a .any:=fun _ _ _ _ _=>.any _
theorem kU.bC (k:IntKind) (n:Int):kU (.bC k n) (.int k n):=fun _ _ _ _ h=>by cases h; exact .int _ _
theorem kU.aO (b:Bool):kU (.aO b) (.bool b):=fun _ _ _ _ h=>by cases h; exact .bool _
theorem kU.agg {l m:List AV} (h:y5 l m):kU (.agg l) (.agg m):=fun _ _ _ _ hr=>by
  obtain ⟨cs,rfl,hc⟩:=hr.dW
  exact .agg (h _ _ _ _ hc)
theorem kU.trans {a b c:AV} (h:kU a b) (k:kU b c):kU a c:=fun g tk w v hr=>k g tk w v (h g tk w v hr)
theorem y5.refl (a:List AV):y5 a a:=fun _ _ _ _ h=>h
theorem y5.cons {a b:AV} {l m:List AV} (ha:aH a=true) (hb:aH b=true) (h:kU a b) (hl:y5 l m):y5 (a::l) (b::m):=fun g tk w v hr=>by
  obtain ⟨c,r,rfl,q,h2⟩:=hr.inv_one ha
  exact .one hb (h g tk w c q) (hl g tk w r h2)
theorem y5.ints {k:IntKind} {n:Nat} {x:List Int} {l m:List AV} (hl:y5 l m):y5 (.ints k n x::l) (.ints k n x::m):=fun g tk w v hr=>by
  obtain ⟨h1,r,rfl,h2⟩:=hr.cr
  exact .ints h1 rfl (hl g tk w r h2)
def LY (a b:List AV):Prop:=y5 a b∧(kP a=none→b=a)
theorem LY.refl (a:List AV):LY a a:=⟨y5.refl a,fun _=>rfl⟩
inductive iO {α β:Type} (R:α→β→Prop):List α→List β→Prop
  | nil:iO R [] []
  | cons {a:α} {b:β} {l:List α} {m:List β} (h:R a b) (hl:iO R l m):iO R (a::l) (b::m)
structure uG (s t:St):Prop where
  tmps:iO kU s.tmps t.tmps
  heap:iO LY s.hp.heap t.hp.heap
  low:∀ i,i < s.hp.lo→s.hp.heap[i]?=t.hp.heap[i]?
  aj:t.hp.aj=s.hp.aj
  loops:t.hp.loops=s.hp.loops
  lo:t.hp.lo=s.hp.lo
  oc:t.hp.oc=s.hp.oc
  mU:t.hp.mU=s.hp.mU
theorem aE.wk {g:Gh} {tk:List Nat} {w:World} {l m:List AV} (h:iO kU l m) {vs:List Value} (hr:aE g tk w l vs):aE g tk w m vs:=by
  induction h generalizing vs with
  | nil=>exact hr
  | cons h1 h2 ih=>cases hr with | cons q r=>exact .cons (h1 _ _ _ _ q) (ih r)
theorem vZ {α β:Type} {R:α→β→Prop} {l:List α} {m:List β} (h:iO R l m):l.length=m.length∧∀ (i:Nat) y,m[i]?=some y→∃ x,l[i]?=some x∧R x y:=by
  induction h with
  | nil=>exact ⟨rfl,fun i y hy=>by simp at hy⟩
  | cons h1 h2 ih =>
    refine ⟨by simp [ih.1],fun i y hy => ?_⟩
    cases i with
    | zero=>simp at hy; subst hy; exact ⟨_,rfl,h1⟩
    | succ i=>simp at hy; simpa using ih.2 i y hy
theorem MR.wk {g:Gh} {s t:St} {w:World} (h:uG s t) (m:MR g s.hp w):MR g t.hp w:=by
  obtain ⟨h1,h2⟩:=vZ h.heap
  refine ⟨m.base,m.eC,m.cV.trans h1,fun i c l k1 k2 => ?_,m.qL,by rw [h.aj]; exact m.dn,by rw [h.aj]; exact m.gW,by rw [h.aj]; exact m.tok,m.qC,by rw [h.loops]; exact m.eU,by rw [h.loops,h.aj]; exact m.loop,m.qM,m.defs,m.fN⟩
  obtain ⟨x,k3,k4⟩:=h2 i l k2
  obtain ⟨a,f,o,d,e⟩:=m.var i c x k1 k3
  rw [h.aj]
  refine ⟨a,f,o,d,?_⟩
  rcases e with ⟨cs,ty,rfl,r⟩ | ⟨u,n,bs,rfl,r⟩
  · exact .of (k4.1 _ _ _ _ r)
  · rw [k4.2 rfl]
    exact .inr ⟨u,n,bs,rfl,r⟩
theorem Fl.wk {s t:St} (h:uG s t) {h':Hp} (hf:Fl t.hp h'):Fl s.hp h' :=
  ⟨hf.lo.trans h.lo,hf.oc.trans h.oc,hf.mU.trans h.mU,fun i x hi hx=>hf.heap i x (by rw [h.lo]; exact hi) (by rw [← h.low i hi]; exact hx),fun i x hi hx=>hf.aj i x (by rw [h.oc]; exact hi) (by rw [h.aj]; exact hx),fun i x hi hx=>hf.loops i x (by rw [h.mU]; exact hi) (by rw [h.loops]; exact hx)⟩
theorem aF.wk {P:Program} {b:Code} {s t:St} {out:Out} (h:uG s t) (hs:aF P b t out):aF P b s out:=by
  intro ro g w a W0 m ht mk hW hro
  have hx:=hs ro g w a W0 (m.wk h) (by rw [h.aj]; exact ht.wk h.tmps) mk hW hro
  refine fC hx ?_
  intro e a' w' hp
  have nx:∀ {g' h'},Nx g t.hp w g' h' w'→Nx g s.hp w g' h' w':=fun n=>⟨n.mr,by have:=n.le; rw [h.aj] at this; exact this,n.fl.wk h⟩
  cases out with
  | norm s=>obtain ⟨e1,g1,n1,r1,m1⟩:=hp; exact ⟨e1,g1,nx n1,r1,m1⟩
  | ret s=>obtain ⟨e1,g1,n1,r1,m1⟩:=hp; exact ⟨e1,g1,nx n1,r1,m1⟩
  | exit id s=>obtain ⟨e1,g1,n1,r1,m1⟩:=hp; exact ⟨e1,g1,nx n1,r1,m1⟩
  | panic v h=>obtain ⟨x,g1,e1,n1,r1,m1⟩:=hp; exact ⟨x,g1,e1,nx n1,r1,m1⟩
def TK:Out→Out→Prop
  | .norm s,.norm t=>uG s t
  | .ret s,.ret t=>uG s t
  | .exit i s,.exit j t=>i=j∧uG s t
  | .panic v h,.panic v' h'=>uG ⟨[v],h⟩ ⟨[v'],h'⟩
  | _,_=>False
theorem Nx.wk {g:Gh} {h:Hp} {w:World} {g':Gh} {s t:St} {w':World} (hw:uG s t) (n:Nx g h w g' s.hp w'):Nx g h w g' t.hp w' :=
  ⟨n.mr.wk hw,by have:=n.le; rw [hw.aj]; exact this,
    ⟨hw.lo.trans n.fl.lo,hw.oc.trans n.fl.oc,hw.mU.trans n.fl.mU,fun i x hi hx=>by rw [← hw.low i (by rw [n.fl.lo]; exact hi)]; exact n.fl.heap i x hi hx,fun i x hi hx=>by rw [hw.aj]; exact n.fl.aj i x hi hx,fun i x hi hx=>by rw [hw.loops]; exact n.fl.loops i x hi hx⟩⟩
theorem jJ.wk {g:Gh} {h:Hp} {w:World} {W0:DB} {o o':Out} {e:Exit} {a':Act} {w':World} (hw:TK o o') (hp:jJ g h w W0 o e a' w'):jJ g h w W0 o' e a' w':=by
  cases o with
  | norm s =>
    cases o' with
    | norm t=>obtain ⟨e1,g1,n1,r1,m1⟩:=hp; exact ⟨e1,g1,n1.wk hw,by rw [hw.aj]; exact r1.wk hw.tmps,m1⟩
    | _=>exact hw.elim
  | ret s =>
    cases o' with
    | ret t=>obtain ⟨e1,g1,n1,r1,m1⟩:=hp; exact ⟨e1,g1,n1.wk hw,by rw [hw.aj]; exact r1.wk hw.tmps,m1⟩
    | _=>exact hw.elim
  | exit i s =>
    cases o' with
    | exit j t =>
      obtain ⟨rfl,hw⟩:=hw
      obtain ⟨e1,g1,n1,r1,m1⟩:=hp
      exact ⟨e1,g1,n1.wk hw,by rw [hw.aj]; exact r1.wk hw.tmps,m1⟩
    | _=>exact hw.elim
  | panic v h1 =>
    cases o' with
    | panic v' h1' =>
      obtain ⟨x,g1,e1,n1,r1,m1⟩:=hp
      refine ⟨x,g1,e1,Nx.wk (s:=⟨[v],h1⟩) (t:=⟨[v'],h1'⟩) hw n1,?_,m1⟩
      have:=hw.tmps
      cases this with
      | cons q _=>rw [show h1'.aj=h1.aj from hw.aj]; exact q _ _ _ _ r1
    | _=>exact hw.elim
theorem aF.out {P:Program} {b:Code} {s:St} {o o':Out} (hw:TK o o') (hs:aF P b s o):aF P b s o' :=
  fun ro g w a W0 m ht mk hW hro=>fC (hs ro g w a W0 m ht mk hW hro) fun _ _ _ hp=>hp.wk hw
theorem aF.step {B:aC} (hB:bD B) {m fn:Nat} {b:Code} {s s1:St} {out:Out} (h1:(kV (pR B m) (wV B m) fn b s).get=some (.norm s1)) (h2:aF B.P b s1 out):aF B.P b s out:=by
  obtain ⟨i1,i2,i3⟩:=sl hB m
  have ok:lu (pR B m):=⟨hB.mL,hB.named,hB.pf,i1⟩
  have hc:=k9 ok i2 i3 fn b s (.norm s1) h1
  intro ro g w a W0 mr ht mk hW hro
  refine dF (wpIn_mono (hc ro g w a W0 mr ht mk hW hro) ?_)
  rintro e a1 w1 ⟨rfl,g1,nx,hr,mk1⟩
  have:=h2 ro g1 w1 a1 W0 nx.mr hr mk1 (Nat.le_trans hW nx.le.below.size) (fun c hc=>let ⟨l,hl⟩:=hro c hc; ⟨l,nx.le.loops _ _ hl⟩)
  exact fC this fun e a2 w2 hp2=>hp2.nx nx
theorem aF.stop {B:aC} (hB:bD B) {m fn:Nat} {b:Code} {s:St} {out:Out} (h1:(kV (pR B m) (wV B m) fn b s).get=some out) (hn:∀ s1,out≠.norm s1):aF B.P b s out:=by
  obtain ⟨i1,i2,i3⟩:=sl hB m
  have ok:lu (pR B m):=⟨hB.mL,hB.named,hB.pf,i1⟩
  have hc:=k9 ok i2 i3 fn b s out h1
  intro ro g w a W0 mr ht mk hW hro
  refine dF (wpIn_mono (hc ro g w a W0 mr ht mk hW hro) ?_)
  intro e a1 w1 hp
  cases out with
  | norm s1=>exact absurd rfl (hn s1)
  | ret s1=>obtain ⟨rfl,rest⟩:=hp; exact ⟨rfl,rest⟩
  | exit i s1=>obtain ⟨rfl,rest⟩:=hp; exact ⟨rfl,rest⟩
  | panic v h=>obtain ⟨x,g1,rfl,rest⟩:=hp; exact ⟨x,g1,rfl,rest⟩
def kT (i:Nat):Code→Option Code
  | .seq a b=>match kT i a with
    | some c=>some c
    | none=>kT i b
  | .cond _ a b=>match kT i a with
    | some c=>some c
    | none=>kT i b
  | .block _ b=>kT i b
  | .scope b=>kT i b
  | .rangeFunc _ _ a b=>match kT i a with
    | some c=>some c
    | none=>kT i b
  | .loop b=>if E8 b=some i then some b else kT i b
  | _=>none
def yt (P:Program) (f:Nat):Code:=(((P.funcs[f]?).bind (·.body))).getD .skip
def bW (P:Program) (f i:Nat):Code:=(kT i (yt P f)).getD .skip
theorem iO.same {α:Type} {R:α→α→Prop} (h:∀ a,R a a):∀ l,iO R l l
  | []=>.nil
  | a::l=>.cons (h a) (iO.same h l)
theorem qc:∀ (i:Nat) (ts:List Nat) (l:List AV),iO kU l (jy i l ts)
  | _,_,[]=>by rw [jy]; exact .nil
  | _,[],a::l=>by rw [jy]; exact iO.same kU.refl _
  | i,t::ts,a::l=>by
    rw [jy]
    cases Nat.beq i t with
    | true=>exact .cons (kU.any _) (qc (i+1) ts l)
    | false=>exact .cons (kU.refl _) (qc (i+1) (t::ts) l)
theorem GY (ts:List Nat) (l:List AV):iO kU l (vg l ts):=qc 0 ts l
theorem uG.kill (ts:List Nat) {l m:List AV} (h:Hp) (e:vg l ts=m):uG ⟨l,h⟩ ⟨m,h⟩ :=
  ⟨e ▸ GY ts l,iO.same LY.refl _,fun _ _=>rfl,rfl,rfl,rfl,rfl,rfl⟩
def Got {α:Type} (d:D α) (T:Tr AV) (ok:Bool) (x:α):Prop:=ok=true→∃ v,T.get=some v∧d.dec v=some x
section
variable {α:Type} {d:D α}
theorem go_ret {v:AV} {x:α} (h:d.dec v=some x):Got d (.ret v) true x:=fun _=>⟨v,rfl,h⟩
end
section
variable {α V:Type} {R:α→V→Prop}
def lK (R:α→V→Prop) (T:Tr α) (ok:Bool) (x:V):Prop:=ok=true→∃ v,T.get=some v∧R v x
theorem EH {v:α} {x:V} (h:R v x):lK R (.ret v) true x:=fun _=>⟨v,rfl,h⟩
theorem Rb {b ok1 ok2:Bool} {t e:Tr α} {x y:V} (h1:lK R t ok1 x) (h2:lK R e ok2 y):lK R (.br b t e) (bif b then ok1 else ok2) (bif b then x else y):=by
  intro h
  cases b with
  | true=>exact h1 h
  | false=>exact h2 h
theorem qH {b ok:Bool} {t:Tr α} {x:V} (h1:lK R t ok x):lK R (.br b t .fail) (b&&ok) x:=by
  intro h
  cases b with
  | true=>exact h1 h
  | false=>cases h
theorem AF {b ok:Bool} {t:Tr α} {x:V} (h1:lK R t ok x):lK R (.br b .fail t) (!b&&ok) x:=by
  intro h
  cases b with
  | true=>cases h
  | false=>exact h1 h
end
instance {α β:Type} [Inhabited α]:Inhabited (α ⊕ β):=⟨.inl default⟩
def iC {α β:Type}:α ⊕ β→Bool
  | .inl _=>true
  | .inr _=>false
def gl {α β:Type} [Inhabited α]:α ⊕ β→α
  | .inl a=>a
  | .inr _=>default
def gr {α β:Type} [Inhabited β]:α ⊕ β→β
  | .inl _=>default
  | .inr b=>b
section
variable {α V:Type} {R:α→V→Prop} {A B C D:Type} [Inhabited A] [Inhabited B] [Inhabited C] [Inhabited D]
end
def mG (n:Nat) (v:AV) (h:Hp):Hp :=
  if b9 n h.aj.length h.loops.length v&&(h.heap.take n).all (eD n h.aj.length h.loops.length)&&h.loops.all (fun r=>eD n h.aj.length h.loops.length r.tmps) then { h with heap:=h.heap.take n } else h
theorem lR {g g':Gh} {h h':Hp} {w w':World} {v:AV} {x:Value} (m:MR g h w) (m':MR g' h' w') (hle:Le g h.aj w g' h'.aj w') (hf:Fl h h') (hv:aN g' h'.aj w' v x) :
    ∃ g'',MR g'' (mG h.heap.length v h') w'∧Le g h.aj w g'' (mG h.heap.length v h').aj w'∧Fl h (mG h.heap.length v h')∧aN g'' (mG h.heap.length v h').aj w' v x∧(∀ D,D ∈ g'.defs→D ∈ g''.defs):=by
  unfold mG
  split
  · rename_i hc
    simp only [Bool.and_eq_true,List.all_eq_true] at hc
    obtain ⟨⟨hb1,hb2⟩,hb3⟩:=hc
    have hsub:∀ (i c:Nat),(g'.vars.take h.heap.length)[i]?=some c→i < h.heap.length∧g'.vars[i]?=some c:=fun i c x=>by
      rw [List.getElem?_take] at x
      split at x
      · exact ⟨by assumption,x⟩
      · cases x
    have hget:∀ (i c:Nat),i < h.heap.length→g'.vars[i]?=some c→(g'.vars.take h.heap.length)[i]?=some c:=fun i c hi x=>by rw [List.getElem?_take_of_lt hi]; exact x
    have cut:Cut h.heap.length h'.aj.length h'.loops.length g' h'.aj { g' with vars:=g'.vars.take h.heap.length } h'.aj :=
      ⟨rfl,fun _ _ x=>x,fun i c hi hx=>hget i c hi hx,fun _ _ _ x=>x,fun _ _ _ x=>⟨x,rfl⟩⟩
    refine ⟨{ g' with vars:=g'.vars.take h.heap.length },⟨m'.base,m'.eC,by simp [m'.cV],fun i c l h1 h2 => ?_,fun i j c h1 h2=>m'.qL i j c (hsub _ _ h1).2 (hsub _ _ h2).2,m'.dn,m'.gW,fun k b cap z h1 => ?_,m'.qC,m'.eU,fun l c r h1 h2 => ?_,m'.qM,m'.defs,m'.fN⟩,?_,?_,?_,fun _ x=>x⟩
    · obtain ⟨hi,h1'⟩:=hsub _ _ h1
      simp only at h2
      have h2m:=h2
      rw [List.getElem?_take_of_lt hi] at h2
      obtain ⟨a,f,o,d',e⟩:=m'.var i c l h1' h2
      exact ⟨a,f,o,d',e.cut cut (hb2 l (List.mem_of_getElem? h2m))⟩
    · obtain ⟨q,cs,t,a1,a2,a3,a4,a5,a6,a7,a8⟩:=m'.tok k b cap z h1
      exact ⟨q,cs,t,a1,a2,a3,a4,a5,a6,a7,fun hb=>a8 (List.mem_of_mem_take hb)⟩
    · obtain ⟨a,R,f,d'⟩:=m'.loop l c r h1 h2
      exact ⟨a,R,f,d'.cut cut (hb3 r (List.mem_of_getElem? h2))⟩
    · exact ⟨hle.base,hle.below,hle.fz,hle.cell,fun i c hx=>hget i c (by have:=ba hx; rw [m.cV] at this; exact this) (hle.vars i c hx),hle.loops,hle.defs,hle.tok,hle.shape⟩
    · exact ⟨hf.lo,hf.oc,hf.mU,fun i x hi hx=>by
        show (h'.heap.take h.heap.length)[i]?=_
        rw [List.getElem?_take_of_lt (ba hx)]; exact hf.heap i x hi hx,hf.aj,hf.loops⟩
    · exact hv.cut cut hb1
  · exact ⟨g',m',hle,hf,hv,fun _ x=>x⟩
def rS (n:Nat) (s:St):St:=⟨s.tmps,mG n (.tuple s.tmps) s.hp⟩
def EI (n:Nat):Out→Out
  | .norm s=>.norm (rS n s)
  | .ret s=>.ret (rS n s)
  | .exit i s=>.exit i (rS n s)
  | .panic v h=>.panic v (mG n v h)
theorem jJ.cut {g:Gh} {h:Hp} {w:World} {W0:DB} {o:Out} {e:Exit} {a':Act} {w':World} (m:MR g h w) (hp:jJ g h w W0 o e a' w'):jJ g h w W0 (EI h.heap.length o) e a' w':=by
  have key:∀ (s:St),(∃ g',Nx g h w g' s.hp w'∧aE g' s.hp.aj w' s.tmps a'.tmps.toList∧Marks g' W0 a'.defers) →
      ∃ g',Nx g h w g' (rS h.heap.length s).hp w'∧aE g' (rS h.heap.length s).hp.aj w' (rS h.heap.length s).tmps a'.tmps.toList∧Marks g' W0 a'.defers:=by
    rintro s ⟨g1,n1,r1,m1⟩
    obtain ⟨g2,m2,l2,f2,r2,d2⟩:=lR m n1.mr n1.le n1.fl (aN.tuple (vs:=a'.tmps) r1)
    refine ⟨g2,⟨m2,l2,f2⟩,?_,m1.mono d2⟩
    cases r2 with
    | tuple h=>exact h
  cases o with
  | norm s=>exact ⟨hp.1,key s hp.2⟩
  | ret s=>exact ⟨hp.1,key s hp.2⟩
  | exit i s=>exact ⟨hp.1,key s hp.2⟩
  | panic v h1 =>
    obtain ⟨x,g1,e1,n1,r1,m1⟩:=hp
    obtain ⟨g2,m2,l2,f2,r2,d2⟩:=lR m n1.mr n1.le n1.fl r1
    exact ⟨x,g2,e1,⟨m2,l2,f2⟩,r2,m1.mono d2⟩
def uh (B:aC) (m fn:Nat) (b:Code) (s:St):Tr Out:=(kV (pR B m) (wV B m) fn b s).bind fun o=>.ret (EI s.hp.heap.length o)
theorem Aq {B:aC} (hB:bD B) {m fn:Nat} {b:Code} {s:St} {out:Out} (h1:(uh B m fn b s).get=some out):nW B.P b s out:=by
  obtain ⟨i1,i2,i3⟩:=sl hB m
  have ok:lu (pR B m):=⟨hB.mL,hB.named,hB.pf,i1⟩
  unfold uh at h1
  simp only [get_bind,aq,Option.bind_eq_some_iff,Option.some.injEq] at h1
  obtain ⟨o,h1,rfl⟩:=h1
  have hc:=k9 ok i2 i3 fn b s o h1
  intro ro g w a W0 mr ht mk hW hro
  exact wpIn_mono (hc ro g w a W0 mr ht mk hW hro) fun e a1 w1 hp=>hp.cut mr
theorem aF.P4 {P:Program} {b:Code} {s s1:St} {out:Out} (hc:nW P b s (.norm s1)) (h2:aF P b s1 out):aF P b s out:=by
  intro ro g w a W0 mr ht mk hW hro
  refine dF (wpIn_mono (hc ro g w a W0 mr ht mk hW hro) ?_)
  rintro e a1 w1 ⟨rfl,g1,nx,hr,mk1⟩
  have:=h2 ro g1 w1 a1 W0 nx.mr hr mk1 (Nat.le_trans hW nx.le.below.size) (fun c hc=>let ⟨l,hl⟩:=hro c hc; ⟨l,nx.le.loops _ _ hl⟩)
  exact fC this fun e a2 w2 hp2=>hp2.nx nx
theorem aF.PQ {P:Program} {b:Code} {s:St} {out:Out} (hc:nW P b s out) (hn:∀ s1,out≠.norm s1):aF P b s out:=by
  intro ro g w a W0 mr ht mk hW hro
  refine dF (wpIn_mono (hc ro g w a W0 mr ht mk hW hro) ?_)
  intro e a1 w1 hp
  cases out with
  | norm s1=>exact absurd rfl (hn s1)
  | ret s1=>obtain ⟨rfl,rest⟩:=hp; exact ⟨rfl,rest⟩
  | exit i s1=>obtain ⟨rfl,rest⟩:=hp; exact ⟨rfl,rest⟩
  | panic v h=>obtain ⟨x,g1,rfl,rest⟩:=hp; exact ⟨x,g1,rfl,rest⟩
def Rh:AV→Nat
  | .any=>0 | .undef=>1 | .bool _=>2 | .aO _=>2 | .int .. => 3 | .bC .. => 3 | .u64 _=>4 | .str _=>5 | .agg _=>6 | .ints .. => 7
  | .ptr b o=>100+16 * b+o | .ptri .. => 8 | .ptrf _=>9 | .nilptr=>10 | .slf _=>19 | .list .. => 11 | .vlist .. => 12 | .vany _ l=>5000+l.length | .vsl .. => 13 | .nilsl=>14
  | .func f _ _=>1000+f | .yield l=>50+l | .nilfunc=>15 | .iface .. => 16 | .niliface=>17 | .tuple _=>18 | .itr .. => 20
def Yj (js:List Nat) (s:St):List Nat:=js.map (fun j=>Rh (s.tmps.getD j .any))++s.hp.heap.flatMap (fun b=>b.length::b.map Rh)++s.hp.loops.map (·.fn)
theorem im {P:Program} {c:St→Bool} {F G:Code→St→Tr Out} (hF:∀ b,bJ P b (F b)) (hG:∀ b,bJ P b (G b)):∀ b,bJ P b (fun s=>bif c s then F b s else G b s):=by
  intro b s out h
  simp only at h
  cases hc:c s with
  | true=>rw [hc] at h; exact hF b s out h
  | false=>rw [hc] at h; exact hG b s out h
theorem qa {P:Program}:∀ b,bJ P b (fun _=>.fail):=fun _ _ _ h=>by cases h
inductive bA (X R:Type) where
  | go (x:X)
  | out (r:R)
  | bad
def fY {X R:Type} (step:X→bA X R):Nat→X→Option R
  | 0,_=>none
  | n+1,x=>match step x with
    | .go y=>fY step n y
    | .out r=>some r
    | .bad=>none
def RL {X R:Type} (S:X→St) (O:R→Out) (o:Out) (st:bA X R):Prop :=
  match st with
  | .go y => ∃ s1,o=.norm s1∧uG s1 (S y)
  | .out r=>(∀ s,o≠.norm s)∧TK o (O r)
  | .bad=>False
theorem aF.fY {B:aC} (hB:bD B) {m fn:Nat} {b:Code} {X R:Type} {S:X→St} {O:R→Out} {ok:X→Bool} {st:X→bA X R}
    (h:∀ x,lK (RL S O) (kV (pR B m) (wV B m) fn b (S x)) (ok x) (st x)) :
    ∀ (n:Nat) (x:X) (r:R),fY (fun x=>bif ok x then st x else .bad) n x=some r→aF B.P b (S x) (O r)
  | 0,x,r,hi=>by simp [Kz.fY] at hi
  | n+1,x,r,hi=>by
    rw [Kz.fY] at hi
    cases hok:ok x with
    | false=>rw [hok] at hi; simp at hi
    | true =>
      rw [hok] at hi
      simp only [cond_true] at hi
      obtain ⟨o,h1,h2⟩:=h x hok
      cases hs:st x with
      | go y =>
        rw [hs] at hi h2
        obtain ⟨s1,rfl,hw⟩:=h2
        exact aF.step hB h1 (aF.wk hw (aF.fY hB h n y r hi))
      | out r' =>
        rw [hs] at hi h2
        simp only [Option.some.injEq] at hi
        subst hi
        obtain ⟨hn,hw⟩:=h2
        exact aF.out hw (aF.stop hB h1 hn)
      | bad=>rw [hs] at h2; exact h2.elim
def many:Nat:=4294967296
theorem rp {α:Type} [Inhabited α] {o:Option α} (h:o.isSome=true):o=some (o.getD default):=by
  cases o with
  | none=>cases h
  | some a=>rfl
def Z6:bV→bV→Prop
  | .ret v h,.ret v' h'=>uG ⟨[v],h⟩ ⟨[v'],h'⟩
  | .panic v h,.panic v' h'=>uG ⟨[v],h⟩ ⟨[v'],h'⟩
  | _,_=>False
theorem cR.wk {P:Program} {f:Nat} {as1 as':List AV} {h h':Hp} {res:bV} (hs:cR P f as' h' res) (hw:uG ⟨as1,h⟩ ⟨as',h'⟩):cR P f as1 h res:=by
  intro g w bg m hr
  have hx:=hs g w bg (m.wk (s:=⟨as1,h⟩) (t:=⟨as',h'⟩) hw) (by rw [show h'.aj=h.aj from hw.aj]; exact hr.wk hw.tmps)
  refine hx.mono ?_
  intro e w' hp
  have nx:∀ {g' h2},Nx g h' w g' h2 w'→Nx g h w g' h2 w':=fun n=>⟨n.mr,by have:=n.le; rw [show h'.aj=h.aj from hw.aj] at this; exact this,Fl.wk (s:=⟨as1,h⟩) (t:=⟨as',h'⟩) hw n.fl⟩
  cases res with
  | ret v h2=>obtain ⟨g',x,rfl,n,q⟩:=hp; exact ⟨g',x,rfl,nx n,q⟩
  | panic v h2=>obtain ⟨g',x,rfl,n,q⟩:=hp; exact ⟨g',x,rfl,nx n,q⟩
theorem cR.out {P:Program} {f:Nat} {as1:List AV} {h:Hp} {res res':bV} (hs:cR P f as1 h res) (hw:Z6 res res'):cR P f as1 h res':=by
  intro g w bg m hr
  refine (hs g w bg m hr).mono ?_
  intro e w' hp
  cases res with
  | ret v h2 =>
    cases res' with
    | ret v' h2' =>
      obtain ⟨g',x,rfl,n,q⟩:=hp
      refine ⟨g',x,rfl,Nx.wk (s:=⟨[v],h2⟩) (t:=⟨[v'],h2'⟩) hw n,?_⟩
      have:=hw.tmps
      cases this with
      | cons a _=>rw [show h2'.aj=h2.aj from hw.aj]; exact a _ _ _ _ q
    | panic=>exact hw.elim
  | panic v h2 =>
    cases res' with
    | panic v' h2' =>
      obtain ⟨g',x,rfl,n,q⟩:=hp
      refine ⟨g',x,rfl,Nx.wk (s:=⟨[v],h2⟩) (t:=⟨[v'],h2'⟩) hw n,?_⟩
      have:=hw.tmps
      cases this with
      | cons a _=>rw [show h2'.aj=h2.aj from hw.aj]; exact a _ _ _ _ q
    | ret=>exact hw.elim
def RF {Y:Type} (O:Y→bV) (res:bV) (y:Y):Prop:=Z6 res (O y)
theorem Mo {Y:Type} {O:Y→bV} {v v':AV} {h h':Hp} {y:Y} (e:O y=.ret v' h') (hw:uG ⟨[v],h⟩ ⟨[v'],h'⟩):RF O (.ret v h) y:=by
  unfold RF; rw [e]; exact hw
def D0 (n:Nat):bV→bV
  | .ret v h=>.ret v (mG n v h)
  | .panic v h=>.panic v (mG n v h)
theorem cR.cut {P:Program} {f:Nat} {as1:List AV} {h:Hp} {res:bV} (hs:cR P f as1 h res):cR P f as1 h (D0 h.heap.length res):=by
  intro g w bg m hr
  refine (hs g w bg m hr).mono ?_
  intro e w' hp
  cases res with
  | ret v h2 =>
    obtain ⟨g',x,rfl,n,q⟩:=hp
    obtain ⟨g2,m2,l2,f2,r2,_⟩:=lR m n.mr n.le n.fl q
    exact ⟨g2,x,rfl,⟨m2,l2,f2⟩,r2⟩
  | panic v h2 =>
    obtain ⟨g',x,rfl,n,q⟩:=hp
    obtain ⟨g2,m2,l2,f2,r2,_⟩:=lR m n.mr n.le n.fl q
    exact ⟨g2,x,rfl,⟨m2,l2,f2⟩,r2⟩
def uM (B:aC) (n f:Nat) (as1:List AV) (h:Hp):Tr bV:=(Fv B n f as1 h).bind fun r=>.ret (D0 h.heap.length r)
theorem FR {B:aC} (hB:bD B) {n f:Nat} {as1:List AV} {h:Hp} {T:Tr bV} {Y:Type} {O:Y→bV} {ok:Bool} {y:Y}
    (he:uM B n f as1 h=T) (hg:lK (RF O) T ok y) (hok:ok=true):cR B.P f as1 h (O y)∧∃ fn,B.P.funcs[f]?=some fn∧fn.body.isSome=true:=by
  obtain ⟨v,h1,h2⟩:=hg hok
  rw [← he] at h1
  unfold uM at h1
  simp only [get_bind,aq,Option.bind_eq_some_iff,Option.some.injEq] at h1
  obtain ⟨r,h1,rfl⟩:=h1
  obtain ⟨h3,h4⟩:=(sl hB n).1 _ _ _ _ h1
  exact ⟨h3.cut.out h2,h4⟩
section
variable {α V:Type} {R:α→V→Prop}
end
def RD {α:Type} (d:D α) (v:AV) (x:α):Prop:=d.dec v=some x
theorem zo {B:aC} (hB:bD B) {n f:Nat} {as1:List AV} {T:Tr AV} {α:Type} {d:D α} {ok:Bool} {x:α} (he:cZ B n f as1=T) (hg:lK (RD d) T ok x) (h:ok=true):PS B.P f as1 (d.res x):=by
  obtain ⟨v,h1,h2⟩:=hg h
  exact rV hB (by rw [he]; exact h1) d h2
abbrev tI:AV→Int
  | .int _ n | .bC _ n=>n
  | _=>0
abbrev tB:AV→Bool
  | .bool b | .aO b=>b
  | _=>false
abbrev tU:AV→BitVec 64
  | .u64 x=>x
  | _=>0
abbrev tS:AV→List UInt8
  | .str s=>s
  | _=>[]
abbrev tL (e:ET):AV→List e.T
  | .list e' l _=>if h:e'=e then h ▸ l else []
  | _=>[]
abbrev tN:AV→List Int
  | .ints _ _ l=>l
  | _=>[]
abbrev tA:AV→List AV
  | .agg l=>l
  | _=>[]
abbrev tT (s:St) (i:Nat):AV:=s.tmps.getD i .any
abbrev tH (s:St) (b i:Nat):AV:=(s.hp.heap.getD b []).getD i .any
abbrev tK (s:St) (k:Nat):Nat:=s.hp.aj.getD k 0
abbrev tX (l:List AV) (i:Nat):AV:=l.getD i .any
@[reducible] def li (l:List Int):List Int:=l
def KE {α β γ:Type} (d:AV→Option α) (e:AV→Option β) (f:AV→Option γ):AV→Option (α×β×γ)
  | .tuple [a,b,c]=>(d a).bind fun x=>(e b).bind fun y=>(f c).map fun z=>(x,y,z)
  | _=>none
def d3 {α β γ:Type} (d:D α) (e:D β) (f:D γ):D (α×β×γ) where
  arg p := .tuple [d.arg p.1,e.arg p.2.1,f.arg p.2.2]
  res p := .tuple [d.res p.1,e.res p.2.1,f.res p.2.2]
  dec:=KE d.dec e.dec f.dec
  ok a x h g tk w c hr:=by
    unfold KE at h
    split at h
    · simp only [Option.bind_eq_some_iff,Option.map_eq_some_iff] at h
      obtain ⟨x,h1,y,h2,z,h3,rfl⟩:=h
      cases hr with
      | tuple hl =>
        rename_i a b c vs
        obtain ⟨l⟩:=vs
        cases hl with
        | cons q r=>cases r with | cons q2 r2=>cases r2 with | cons q3 r3=>cases r3; exact .tuple (.cons (d.ok _ _ h1 _ _ _ _ q) (.cons (e.ok _ _ h2 _ _ _ _ q2) (.cons (f.ok _ _ h3 _ _ _ _ q3) .nil)))
    · cases h
  uo a x h hf g w c hr:=by
    unfold KE at h
    split at h
    · simp only [Option.bind_eq_some_iff,Option.map_eq_some_iff] at h
      obtain ⟨x,h1,y,h2,z,h3,rfl⟩:=h
      simp only [bx,cC,Bool.and_eq_true] at hf
      cases hr with
      | tuple hl =>
        rename_i a b c vs
        obtain ⟨l⟩:=vs
        cases hl with
        | cons q r=>cases r with | cons q2 r2=>cases r2 with | cons q3 r3=>cases r3; exact .tuple (.cons (d.uo _ _ h1 hf.1 _ _ _ q) (.cons (e.uo _ _ h2 hf.2.1 _ _ _ q2) (.cons (f.uo _ _ h3 hf.2.2.1 _ _ _ q3) .nil)))
    · cases h
def nu (m:Pos×BitVec 64×BitVec 64):AV := .agg (bw (Pos.av m.1)++[.u64 m.2.1,.u64 m.2.2])
def xL:AV→Option (Pos×BitVec 64×BitVec 64)
  | .agg [v,.ints .u8 64 bd,.u64 pr,.ints .u8 12 pk,tn,.ints .i8 4 rk,ps,.ints .u8 2 ck,hf,fl,.u64 a,.u64 b] =>
    if kindOk .u8 v&&kindOk .u8 tn&&kindOk .i8 ps&&kindOk .i64 hf&&kindOk .i64 fl then
      (nq v).bind fun v=>(nq tn).bind fun tn=>(nq ps).bind fun ps=>(nq hf).bind fun hf=>(nq fl).map fun fl=>(⟨v,bd,pr,pk,tn,rk,ps,ck,hf,fl⟩,a,b)
    else none
  | _=>none
theorem oU {g:Gh} {tk:List Nat} {w:World} {v:AV} {m:Pos×BitVec 64×BitVec 64} (h:xL v=some m) {c:Value} (hr:aN g tk w v c):aN g tk w (nu m) c:=by
  unfold xL at h
  split at h
  · rename_i v bd pr pk tn rk ps ck hf fl a b
    simp only [Option.ite_none_right_eq_some,Bool.and_eq_true,Option.bind_eq_some_iff,Option.map_eq_some_iff] at h
    obtain ⟨⟨⟨⟨⟨k1,k2⟩,k3⟩,k4⟩,k5⟩,v',hv,tn',htn,ps',hps,hf',hhf,fl',hfl,rfl⟩:=h
    obtain ⟨cs,rfl,hc⟩:=hr.dW
    refine .agg ?_
    have i:=fun (a:AV) (n:Int) (k:IntKind) (hk:kindOk k a=true) (ha:nq a=some n) (c:Value) (hc:aN g tk w a c)=>(eJ hk ha hc) ▸ (aN.int (g:=g) (tk:=tk) (w:=w) k n)
    revert hc
    exact aB.swap (bm hv) rfl (i _ _ _ k1 hv) fun _=>aB.keep fun _=>aB.swap rfl rfl (fun _ h=>h) fun _=>aB.keep fun _=>aB.swap (bm htn) rfl (i _ _ _ k2 htn) fun _=>aB.keep fun _ =>
      aB.swap (bm hps) rfl (i _ _ _ k3 hps) fun _=>aB.keep fun _=>aB.swap (bm hhf) rfl (i _ _ _ k4 hhf) fun _=>aB.swap (bm hfl) rfl (i _ _ _ k5 hfl) fun _ h=>h
  · cases h
def wg:D (Pos×BitVec 64×BitVec 64) where
  arg:=nu
  res:=nu
  dec:=xL
  ok _ _ h _ _ _ _ hr:=oU h hr
  uo _ _ h _ _ _ _ hr:=oU h hr
def Ei (m:List UInt8×Bool×Bool×Bool×Bool×Bool×Int):AV := .agg [.str m.1,.bool m.2.1,.bool m.2.2.1,.bool m.2.2.2.1,.bool m.2.2.2.2.1,.bool m.2.2.2.2.2.1,.int .u8 m.2.2.2.2.2.2]
def toVar:AV→Option (List UInt8×Bool×Bool×Bool×Bool×Bool×Int)
  | .agg [.str s,a,b,c,d,e,k] =>
    if kindOk .u8 k then
      (sY a).bind fun a=>(sY b).bind fun b=>(sY c).bind fun c=>(sY d).bind fun d=>(sY e).bind fun e=>(nq k).map fun k=>(s,a,b,c,d,e,k)
    else none
  | _=>none
theorem sy {g:Gh} {tk:List Nat} {w:World} {v:AV} {m:List UInt8×Bool×Bool×Bool×Bool×Bool×Int} (h:toVar v=some m) {c:Value} (hr:aN g tk w v c):aN g tk w (Ei m) c:=by
  unfold toVar at h
  split at h
  · rename_i s a b c d e k
    simp only [Option.ite_none_right_eq_some,Option.bind_eq_some_iff,Option.map_eq_some_iff] at h
    obtain ⟨k1,a',ha,b',hb,c',hc,d',hd,e',he,k',hk,rfl⟩:=h
    obtain ⟨cs,rfl,hc'⟩:=hr.dW
    refine .agg ?_
    have i:=fun (a:AV) (x:Bool) (ha:sY a=some x) (c:Value) (hc:aN g tk w a c)=>(oE ha hc) ▸ (aN.bool (g:=g) (tk:=tk) (w:=w) x)
    revert hc'
    exact aB.swap rfl rfl (fun _ h=>h) fun _=>aB.swap (dH ha) rfl (i _ _ ha) fun _=>aB.swap (dH hb) rfl (i _ _ hb) fun _=>aB.swap (dH hc) rfl (i _ _ hc) fun _=>aB.swap (dH hd) rfl (i _ _ hd) fun _=>aB.swap (dH he) rfl (i _ _ he) fun _ =>
      aB.swap (bm hk) rfl (fun c hc=>(eJ k1 hk hc) ▸ (aN.int (g:=g) (tk:=tk) (w:=w) .u8 k')) fun _ h=>h
  · cases h
def P3:D (List UInt8×Bool×Bool×Bool×Bool×Bool×Int) where
  arg:=Ei
  res:=Ei
  dec:=toVar
  ok _ _ h _ _ _ _ hr:=sy h hr
  uo _ _ h _ _ _ _ hr:=sy h hr
def j8 (i:Nat):Code→Option (Code×Code)
  | .seq a b=>match j8 i a with
    | some c=>some c
    | none=>j8 i b
  | .cond _ a b=>match j8 i a with
    | some c=>some c
    | none=>j8 i b
  | .block _ b=>j8 i b
  | .scope b=>j8 i b
  | .loop b=>j8 i b
  | .rangeFunc _ _ a b=>if E8 b=some i then some (a,b) else match j8 i a with
    | some c=>some c
    | none=>j8 i b
  | _=>none
def lN (P:Program) (f i:Nat):Code:=((j8 i (yt P f)).getD (.skip,.skip)).1
def mw (P:Program) (f i:Nat):Code:=((j8 i (yt P f)).getD (.skip,.skip)).2
theorem aF.Z2 {B:aC} (hB:bD B) {m fn:Nat} {b:Code} {X R:Type} {S:X→St} {O:R→Out} {ok:X→Bool} {st:X→bA X R}
    (h:∀ x,lK (RL S O) (uh B m fn b (S x)) (ok x) (st x)) :
    ∀ (n:Nat) (x:X) (r:R),Kz.fY (fun x=>bif ok x then st x else .bad) n x=some r→aF B.P b (S x) (O r)
  | 0,x,r,hi=>by simp [Kz.fY] at hi
  | n+1,x,r,hi=>by
    rw [Kz.fY] at hi
    cases hok:ok x with
    | false=>rw [hok] at hi; simp at hi
    | true =>
      rw [hok] at hi
      simp only [cond_true] at hi
      obtain ⟨o,h1,h2⟩:=h x hok
      have hc:=Aq hB h1
      cases hs:st x with
      | go y =>
        rw [hs] at hi h2
        obtain ⟨s1,rfl,hw⟩:=h2
        exact aF.P4 hc (aF.wk hw (aF.Z2 hB h n y r hi))
      | out r' =>
        rw [hs] at hi h2
        simp only [Option.some.injEq] at hi
        subst hi
        obtain ⟨hn,hw⟩:=h2
        exact aF.out hw (aF.PQ hc hn)
      | bad=>rw [hs] at h2; exact h2.elim
section
variable {g:Gh} {h:Hp} {w:World}
theorem MR.F9 (m:MR g h w) {cap z:Nat} (hmax:cap≤maxLen) {cells:Array Value} {ty:TypeId} (hs:xf z cap cells.size ty) (w1:World) (hw:w1=w∨w1=w.drew) :
    MR { g with own:=g.own++[some (w.heap.size,cap,z)] } { h with aj:=h.aj++[0] } (w1.alloc (.cells cells ty)) ∧
      Le g h.aj w { g with own:=g.own++[some (w.heap.size,cap,z)] } (h.aj++[0]) (w1.alloc (.cells cells ty)):=by
  have hsize:w1.heap.size=w.heap.size:=by rcases hw with rfl | rfl <;> rfl
  have m1:MR g h (w1.alloc (.cells cells ty))∧Le g h.aj w g h.aj (w1.alloc (.cells cells ty)):=by
    rcases hw with rfl | rfl
    · exact m.alloc _
    · obtain ⟨a,b⟩:=m.drew
      obtain ⟨c,d⟩:=a.alloc (.cells cells ty)
      exact ⟨c,b.trans d⟩
  obtain ⟨m1,l1⟩:=m1
  have hnew:(w1.alloc (.cells cells ty)).heap[w.heap.size]?=some (.cells cells ty (0,0)):=by
    rw [← hsize]; exact heap_alloc_new w1 _
  have l2:Le g h.aj (w1.alloc (.cells cells ty)) { g with own:=g.own++[some (w.heap.size,cap,z)] } (h.aj++[0]) (w1.alloc (.cells cells ty)) :=
    ⟨rfl,Below.refl _ _,fun _ _ x=>x,fun _ _ _ _ x=>x,fun _ _ x=>x,fun _ _ x=>x,fun _ x=>x,fun k n x=>⟨n,by
      rw [List.getElem?_append_left (List.getElem?_eq_some_iff.1 x).1]; exact x,Nat.le_refl _,fun _=>by
      have:=(List.getElem?_eq_some_iff.1 x).1
      simp only
      rw [List.getElem?_append_left (by rw [m.dn]; exact this)]⟩,fun _ _ _=>rfl⟩
  have notvar:w.heap.size ∉ g.vars:=fun hv=>by
    obtain ⟨i,hi⟩:=List.getElem?_of_mem hv
    have hi':=(List.getElem?_eq_some_iff.1 hi).1
    obtain ⟨_,_,_,d,_⟩:=m.var i _ _ hi (List.getElem?_eq_getElem (by rw [← m.cV]; exact hi'))
    exact absurd (aV d) (Nat.lt_irrefl _)
  have notown:∀ (j c z':Nat),g.own[j]?≠some (some (w.heap.size,c,z')):=fun j c z' x=>by
    obtain ⟨_,_,_,_,_,_,_,d,_⟩:=m.tok j _ c z' x
    exact absurd (aV d) (Nat.lt_irrefl _)
  have new:∀ (k:Nat) x,(g.own++[some (w.heap.size,cap,z)])[k]?=some x→g.own[k]?=some x∨(k=g.own.length∧x=some (w.heap.size,cap,z)):=by
    intro i c' x
    rcases Nat.lt_or_ge i g.own.length with h' | h'
    · rw [List.getElem?_append_left h'] at x; exact .inl x
    · rw [List.getElem?_append_right h'] at x
      obtain ⟨a,b⟩:=List.getElem?_eq_some_iff.1 x
      simp at a b
      exact .inr ⟨by omega,b.symm⟩
  have hle:=l1.trans l2
  refine ⟨⟨m1.base,m1.eC,m1.cV,fun i c l h1 h2 => ?_,m1.qL,by simp [m.dn],fun k h1 => ?_,fun k b cap' z' h1 => ?_,fun k k' b c1 z1 c2 z2 h1 h2 => ?_,m1.eU,fun l c r h1 h2 => ?_,m1.qM,m1.defs,fun p hp=>(m.fN p hp).mono hle⟩,hle⟩
  · obtain ⟨a,b,o,d,e⟩:=m1.var i c l h1 h2
    exact ⟨a,b,o,d,e.mono l2⟩
  · rcases new k _ h1 with a | ⟨_,e⟩
    · obtain ⟨n,this⟩:=m.gW k a
      refine ⟨n,?_⟩
      show (h.aj++[0])[k]?=_
      rw [List.getElem?_append_left (List.getElem?_eq_some_iff.1 this).1]
      exact this
    · cases e
  · rcases new k _ h1 with a | ⟨e1,e2⟩
    · obtain ⟨n,cs,t,h2,h3⟩:=m1.tok k b cap' z' a
      refine ⟨n,cs,t,?_,h3⟩
      show (h.aj++[0])[k]?=_
      rw [List.getElem?_append_left (List.getElem?_eq_some_iff.1 h2).1]
      exact h2
    · simp only [Option.some.injEq,Prod.mk.injEq] at e2
      obtain ⟨rfl,rfl,rfl⟩:=e2
      refine ⟨0,cells,ty,?_,Nat.zero_le _,hmax,m.base,hnew,hs,fun o x=>absurd (m.eC _ _ x) (Nat.lt_irrefl _),notvar⟩
      show (h.aj++[0])[k]?=_
      rw [e1,m.dn]; simp
  · rcases new k _ h1 with a | ⟨e1,e2⟩ <;> rcases new k' _ h2 with b' | ⟨e3,e4⟩
    · exact m1.qC k k' b c1 z1 c2 z2 a b'
    · simp only [Option.some.injEq,Prod.mk.injEq] at e4
      obtain ⟨rfl,rfl,rfl⟩:=e4
      exact absurd a (notown k c1 z1)
    · simp only [Option.some.injEq,Prod.mk.injEq] at e2
      obtain ⟨rfl,rfl,rfl⟩:=e2
      exact absurd b' (notown k' c2 z2)
    · omega
  · obtain ⟨a,R,b,d⟩:=m1.loop l c r h1 h2
    exact ⟨a,R,b,d.mono l2⟩
end
end Kz
end
section
namespace Kz
open Go
@[reducible] def rn (a n:Nat) (l:List Nat):List Nat:=match n with
  | 0=>l
  | n+1=>a::rn (a+1) n l
@[reducible] def an (n:Nat) (l:List AV):List AV:=match n with
  | 0=>l
  | n+1=>AV.any::an n l
@[reducible] def pc (p:Pos) (l:List AV):List AV:=AV.int .u8 p.variant::AV.ints .u8 64 p.ag::AV.u64 p.ab::AV.ints .u8 12 p.af::AV.int .u8 p.aa::AV.ints .i8 4 p.ak::AV.int .i8 p.ah::AV.ints .u8 2 p.ai::AV.int .i64 p.half::AV.int .i64 p.full::l
@[reducible] def zpB:List AV:=[AV.int .u8 0,AV.ints .u8 64 (li (List.replicate 64 0)),AV.u64 0,AV.ints .u8 12 (li [0,0,0,0,0,0,0,0,0,0,0,0]),AV.int .u8 0,AV.ints .i8 4 (li [0,0,0,0]),AV.int .i8 0,AV.ints .u8 2 (li [0,0]),AV.int .i64 0,AV.int .i64 0]
@[reducible] def zI65:List Int:=[1,0,0,0,0,0,0,0,0,0,0,0,0,0,0,0,0,0,0,0,0,0,0,0,0,0,0,0,0,0,0,0,0,0,0,0,0,0,0,0,0,0,0,0,0,0,0,0,0,0,0,0,0,0,0,0,0,0,0,0,0,0,0,0,0]
@[reducible] def zIbd:List Int:=[4,2,3,5,6,3,2,4,1,1,1,1,1,1,1,1,0,0,0,0,0,0,0,0,0,0,0,0,0,0,0,0,0,0,0,0,0,0,0,0,0,0,0,0,0,0,0,0,9,9,9,9,9,9,9,9,12,10,11,13,14,11,10,12]
@[reducible] def zU8:List UInt8:=[8,8,8,8,8,8,8,8,8,8,8,8,8,8,8,8,8,8,8,8,8,8,8,8,8,8,8,8,8,8,8,8,8,8,8,8,8,8,8,8,8,8,8,8,8,8,8,8,8,8,8,8,8,8,8,8,8,8,8,8,8,8,8,8]
@[reducible] def zU7:List UInt8:=[7,7,7,7,7,7,7,7,7,7,7,7,7,7,7,7,7,7,7,7,7,7,7,7,7,7,7,7,7,7,7,7,7,7,7,7,7,7,7,7,7,7,7,7,7,7,7,7,7,7,7,7,7,7,7,7,7,7,7,7,7,7,7,7]
end Kz
end
section
namespace Kz
open Go Go.RowKit
inductive Qt where
  | tt | ff
  | q (b:Bool) (t:Qt) | n (b:Bool) (t:Qt) | i (b:Bool) (t e:Qt) | w (t:Qt)
def Qt.val:Qt→Bool
  | .tt=>true
  | .ff=>false
  | .q b t=>b&&t.val
  | .n b t => !b&&t.val
  | .i b t e=>bif b then t.val else e.val
  | .w t=>t.val
def Qt.ZX:Qt→Bool
  | .tt=>true
  | _=>false
def Qt.two (b:Bool) (t e:Qt):Qt:=match t.ZX,e.ZX with
  | true,true=>.tt
  | _,_=>.i b t e
theorem Qt.Fb (b:Bool) (t e:Qt):(Qt.two b t e).val=bif b then t.val else e.val:=by
  cases t <;> cases e <;> first | rfl | (cases b <;> rfl)
namespace Tr
def Nq {α:Type}:Tr α→Bool
  | .fail=>true
  | _=>false
noncomputable abbrev qt {α V:Type} (d:α→Option V) (t:Tr α):Qt :=
  Tr.rec (motive:=fun _=>Qt) (fun a=>Option.rec .ff (fun _=>.tt) (d a)) .ff (fun b t e qt qe=>Bool.rec (Bool.rec (Qt.two b qt qe) (.n b qe) t.Nq) (.q b qt) e.Nq) (fun _ _ _ _ _ _ qt=>.w qt) t
noncomputable abbrev vt {α V:Type} [Inhabited V] (d:α→Option V) (t:Tr α):V :=
  Tr.rec (motive:=fun _=>V) (fun a=>Option.rec default (fun v=>v) (d a)) default (fun b t e vt ve=>Bool.rec (Bool.rec (bif b then vt else ve) ve t.Nq) vt e.Nq) (fun _ _ _ _ _ _ vt=>vt) t
def vG {α:Type}:Tr α→List (Bool×Code×Code×St×St)
  | .ret _=>[]
  | .fail=>[]
  | .br _ t e=>t.vG++e.vG
  | .ck c b b' s s' t=>(c,b,b',s,s')::t.vG
def oa {α:Type}:Tr α→List α
  | .ret a=>[a]
  | .fail=>[]
  | .br _ t e=>t.oa++e.oa
  | .ck _ _ _ _ _ t=>t.oa
end Tr
theorem rB {α V:Type} [Inhabited V] {d:α→Option V} {R:α→V→Prop}:∀ (T:Tr α),(∀ x ∈ T.vG,x.1=true)→(∀ a ∈ T.oa,∀ v,d a=some v→R a v)→lK R T (T.qt d).val (T.vt d)
  | .ret a,_,hr=>by
    intro h
    have hd':∀ o:Option V,d a=o→((Option.rec .ff (fun _=>.tt) o:Qt).val=true)→∃ v,(Tr.ret a).get=some v∧R v (Option.rec default (fun v=>v) o:V):=by
      intro o hd h
      cases o with
      | none=>cases h
      | some v=>exact ⟨a,rfl,hr a (by simp [Tr.oa]) v hd⟩
    exact hd' (d a) rfl h
  | .fail,_,_=>fun h=>by cases h
  | .br b t e,hk,hr=>by
    have h1:=rB t (fun x hx=>hk x (by simp [Tr.vG,hx])) (fun a ha=>hr a (by simp [Tr.oa,ha]))
    have h2:=rB e (fun x hx=>hk x (by simp [Tr.vG,hx])) (fun a ha=>hr a (by simp [Tr.oa,ha]))
    have key:∀ x y:Bool,e.Nq=x→t.Nq=y→lK R (.br b t e) (Bool.rec (Bool.rec (Qt.two b (t.qt d) (e.qt d)) (.n b (e.qt d)) y) (.q b (t.qt d)) x:Qt).val (Bool.rec (Bool.rec (bif b then t.vt d else e.vt d) (e.vt d) y) (t.vt d) x):=by
      intro x y he ht
      cases x with
      | true =>
        have:e=.fail:=by cases e <;> first | rfl | cases he
        subst this
        exact qH h1
      | false =>
        cases y with
        | true =>
          have:t=.fail:=by cases t <;> first | rfl | cases ht
          subst this
          exact AF h2
        | false =>
          have h:=Rb (b:=b) h1 h2
          rw [← Qt.Fb] at h
          exact h
    exact key _ _ rfl rfl
  | .ck c b b' s s' t,hk,hr=>by
    have h1:=rB t (fun x hx=>hk x (by simp [Tr.vG,hx])) (fun a ha=>hr a (by simp [Tr.oa,ha]))
    have hc:c=true:=hk (c,b,b',s,s') (by simp [Tr.vG])
    subst hc
    exact h1
def uH (a:AV):AV→AV
  | .int _ _=>match a with
    | .bC k n=>.int k n
    | a=>a
  | .bool _=>match a with
    | .aO b=>.bool b
    | a=>a
  | _=>a
def qu:List AV→List AV→List AV
  | a::l,b::m=>uH a b::qu l m
  | l,_=>l
def Lk (a:AV):AV→AV
  | .any=>.any
  | .agg m=>match a with
    | .agg l=>.agg (qu l m)
    | a=>a
  | b=>uH a b
def Ba:List AV→List AV→List AV
  | a::l,b::m=>Lk a b::Ba l m
  | l,_=>l
def Ah:List (List AV)→List (List AV)→List (List AV)
  | a::l,b::m=>qu a b::Ah l m
  | l,_=>l
def xa (s t:St):St:=⟨Ba s.tmps t.tmps,{ s.hp with heap:=match Nat.beq s.hp.lo 0 with
  | true=>Ah s.hp.heap t.hp.heap
  | false=>s.hp.heap }⟩
theorem qh (a b:AV):uH a b=a∨(∃ k n,a=.bC k n∧uH a b=.int k n)∨∃ x,a=.aO x∧uH a b=.bool x:=by
  unfold uH
  split
  · split
    · exact .inr (.inl ⟨_,_,rfl,rfl⟩)
    · exact .inl rfl
  · split
    · exact .inr (.inr ⟨_,rfl,rfl⟩)
    · exact .inl rfl
  · exact .inl rfl
theorem zL (a b:AV):kU a (uH a b):=by
  rcases qh a b with h | ⟨k,n,rfl,h⟩ | ⟨x,rfl,h⟩ <;> rw [h]
  · exact kU.refl _
  · exact kU.bC k n
  · exact kU.aO x
theorem oG:∀ l m:List AV,y5 l (qu l m)
  | [],_=>by unfold qu; exact y5.refl _
  | a::l,[]=>by unfold qu; exact y5.refl _
  | a::l,b::m=>by
    unfold qu
    intro g tk w c hr
    cases hr with
    | ints h1 h2 h3 =>
      have:∀ k n x,uH (.ints k n x) b=.ints k n x:=fun k n x=>by cases b <;> rfl
      rw [this]
      exact .ints h1 h2 (oG l m g tk w _ h3)
    | one h1 h2 h3 =>
      refine .one ?_ (zL a b g tk w _ h2) (oG l m g tk w _ h3)
      rcases qh a b with h | ⟨k,n,rfl,h⟩ | ⟨x,rfl,h⟩ <;> rw [h]
      · exact h1
      · rfl
      · rfl
theorem H7 (a:AV):∀ b:AV,kU a (Lk a b):=by
  intro b
  unfold Lk
  split
  · exact kU.any _
  · split
    · exact kU.agg (oG _ _)
    · exact kU.refl _
  · exact zL _ _
theorem sF:∀ l m:List AV,iO kU l (Ba l m)
  | [],_=>by unfold Ba; exact .nil
  | a::l,[]=>by unfold Ba; exact iO.same kU.refl _
  | a::l,b::m=>by unfold Ba; exact .cons (H7 a b) (sF l m)
theorem Db {a b:List AV} (h:kP a=none):qu a b=a:=by
  unfold kP at h
  split at h
  · cases b with
    | nil=>rfl
    | cons x b =>
      have e:∀ m,qu [] m=[]:=fun m=>by unfold qu; rfl
      unfold qu
      rw [e]
      cases x <;> rfl
  · cases h
theorem zw:∀ l m:List (List AV),iO LY l (Ah l m)
  | [],_=>by unfold Ah; exact .nil
  | a::l,[]=>by unfold Ah; exact iO.same LY.refl _
  | a::l,b::m=>by unfold Ah; exact .cons ⟨oG a b,Db⟩ (zw l m)
theorem kk (s t:St):uG s (xa s t):=by
  unfold xa
  cases h:Nat.beq s.hp.lo 0 with
  | false=>exact ⟨sF _ _,iO.same LY.refl _,fun _ _=>rfl,rfl,rfl,rfl,rfl,rfl⟩
  | true =>
    have:s.hp.lo=0:=Nat.eq_of_beq_eq_true h
    exact ⟨sF _ _,zw _ _,fun i hi=>by rw [this] at hi; omega,rfl,rfl,rfl,rfl,rfl⟩
open Classical in
noncomputable def sH (b b':Code) (s s':St):Bool:=shut (decide (b=b'∧uG s s'))
theorem lY {b b':Code} {s s':St}:sH b b' s s'=true ↔ b=b'∧uG s s':=by
  unfold sH
  rw [ui]
  simp
def OD (x:Bool×Code×Code×St×St):Bool×Code×St:=(x.1,x.2.1,xa x.2.2.2.1 x.2.2.2.2)
noncomputable def N1 (x:Bool×Code×Code×St×St):Bool×Code×St:=(sH x.2.1 x.2.2.1 x.2.2.2.1 x.2.2.2.2,x.2.2.1,x.2.2.2.2)
theorem map_inj {α β:Type} {f g:α→β}:∀ {l:List α},l.map f=l.map g→∀ x ∈ l,f x=g x
  | [],_,_,hx=>by cases hx
  | a::l,h,x,hx=>by
    simp only [List.map_cons,List.cons.injEq] at h
    rcases List.mem_cons.1 hx with rfl | hx
    · exact h.1
    · exact map_inj h.2 x hx
theorem xw {α:Type} {T:Tr α} (h:T.vG.map OD=T.vG.map N1):∀ x ∈ T.vG,x.1=true:=by
  intro x hx
  obtain ⟨c,b,b',s,s'⟩:=x
  have:=map_inj h _ hx
  simp only [OD,N1,Prod.mk.injEq] at this
  obtain ⟨h1,h2,h3⟩:=this
  show c=true
  rw [h1]
  exact lY.2 ⟨h2,h3 ▸ kk s s'⟩
theorem aA {B:aC} (hB:bD B) {n f:Nat} {as1:List AV} {α:Type} [Inhabited α] {d:D α} {ok:Bool} {x:α} (h1:((cZ B n f as1).qt d.dec).val=ok) (h2:(cZ B n f as1).vt d.dec=x)
    (h3:(cZ B n f as1).vG.map OD=(cZ B n f as1).vG.map N1) (h:ok=true):PS B.P f as1 (d.res x):=by
  obtain ⟨v,e1,e2⟩:=rB (d:=d.dec) (R:=RD d) (cZ B n f as1) (xw h3) (fun a _ v hv=>hv) (h1.trans h)
  rw [h2] at e2
  exact rV hB e1 d e2
def cE (b:Bool) (v:AV):Tr AV := .br b (.ret v) .fail
theorem aJ {P:Program} {f:Nat} {as1:List AV} {b:Bool} {v:AV} (h:b=true→PS P f as1 v):G8 P f as1 (cE b v):=fun u hu=>by
  unfold cE at hu
  cases b with
  | true=>cases hu; exact h rfl
  | false=>cases hu
theorem cW {P:Program} {f:Nat} {as1:List AV} {v:AV} (h:PS P f as1 v):G8 P f as1 (.ret v):=fun u hu=>by cases hu; exact h
def Jg {X R:Type} (S:X→St) (O:R→Out):Option (bA X R)→Out
  | some (.go y)=>.norm (S y)
  | some (.out r)=>O r
  | _=>.panic .any sk
def wA:Out→Out→Out
  | .norm s,.norm t=>.norm (xa s t)
  | .ret s,.ret t=>.ret (xa s t)
  | .exit i s,.exit _ t=>.exit i (xa s t)
  | _,_=>.panic .any sk
def wo {X R:Type} (dx:St→Option X) (dr:Out→Option R):Out→Option (bA X R)
  | .norm s=>(dx s).map .go
  | o=>(dr o).map .out
instance {X R:Type}:Inhabited (bA X R):=⟨.bad⟩
theorem Cb {X R:Type} {S:X→St} {O:R→Out} {dx:St→Option X} {dr:Out→Option R} {o:Out} {st:bA X R} (hw:wo dx dr o=some st) (hO:∀ r s,O r≠.norm s) (hP:∀ r,O r≠.panic .any sk)
    (h:wA o (Jg S O (wo dx dr o))=Jg S O (wo dx dr o)):RL S O o st:=by
  rw [hw] at h
  cases o with
  | norm s =>
    simp only [wo,Option.map_eq_some_iff] at hw
    obtain ⟨y,_,rfl⟩:=hw
    simp only [Jg,wA,Out.norm.injEq] at h
    exact ⟨s,rfl,h ▸ kk s (S y)⟩
  | ret s =>
    simp only [wo,Option.map_eq_some_iff] at hw
    obtain ⟨r,_,rfl⟩:=hw
    refine ⟨fun s=>by simp,?_⟩
    simp only [Jg] at h
    cases hr:O r with
    | ret t=>rw [hr] at h; simp only [wA,Out.ret.injEq] at h; exact h ▸ kk s t
    | norm t=>exact absurd hr (hO r t)
    | exit i t=>rw [hr] at h; cases h
    | panic v t=>rw [hr] at h; simp only [wA] at h; exact absurd (hr.trans h.symm) (hP r)
  | exit i s =>
    simp only [wo,Option.map_eq_some_iff] at hw
    obtain ⟨r,_,rfl⟩:=hw
    refine ⟨fun s=>by simp,?_⟩
    simp only [Jg] at h
    cases hr:O r with
    | exit j t =>
      rw [hr] at h
      simp only [wA,Out.exit.injEq] at h
      exact ⟨h.1,h.2 ▸ kk s t⟩
    | norm t=>exact absurd hr (hO r t)
    | ret t=>rw [hr] at h; cases h
    | panic v t=>rw [hr] at h; simp only [wA] at h; exact absurd (hr.trans h.symm) (hP r)
  | panic v t =>
    simp only [wo,Option.map_eq_some_iff] at hw
    obtain ⟨r,_,rfl⟩:=hw
    simp only [Jg,wA] at h
    exact absurd h.symm (hP r)
def Sb:Out→Bool
  | .ret _=>true
  | .exit .. => true
  | _=>false
theorem lJ {R:Type} {O:R→Out} (h:∀ r,Sb (O r)=true):(∀ r s,O r≠.norm s)∧∀ r,O r≠.panic .any sk :=
  ⟨fun r s e=>(by have:=h r; rw [e] at this; cases this),fun r e=>(by have:=h r; rw [e] at this; cases this)⟩
theorem aF.kR {B:aC} (hB:bD B) {m fn:Nat} {b:Code} {X R:Type} {S:X→St} {O:R→Out} {ok:X→Bool} {st:X→bA X R} (dx:St→Option X) (dr:Out→Option R) (hO:∀ r,Sb (O r)=true)
    (h1:∀ x,((uh B m fn b (S x)).qt (wo dx dr)).val=ok x) (h2:∀ x,(uh B m fn b (S x)).vt (wo dx dr)=st x)
    (h3:∀ x,(uh B m fn b (S x)).vG.map OD=(uh B m fn b (S x)).vG.map N1)
    (h4:∀ x,((uh B m fn b (S x)).oa.map fun o=>wA o (Jg S O (wo dx dr o)))=(uh B m fn b (S x)).oa.map fun o=>Jg S O (wo dx dr o)) (n:Nat) (x:X) (r:R)
    (h:Kz.fY (fun x=>bif ok x then st x else .bad) n x=some r):aF B.P b (S x) (O r) :=
  aF.Z2 hB (fun x=>by
    rw [← h1 x,← h2 x]
    exact rB _ (xw (h3 x)) fun a ha v hv=>by
      by_cases hn:∃ r,v=.out r
      · have:=map_inj (h4 x) a ha
        exact Cb hv (lJ hO).1 (lJ hO).2 this
      · exact Cb hv (lJ hO).1 (lJ hO).2 (map_inj (h4 x) a ha)) n x r h
noncomputable def lk (b b':Code) (s s':St) (ok:Bool) (t:Tr Out):Tr Out := .ck (sH b b' s s') b b' s s' (.br ok t .fail)
theorem IH {P:Program} {b b':Code} {s s':St} {ok:Bool} {t:Tr Out} {o:Out} (h:(lk b b' s s' ok t).get=some o) (H:ok=true→t.get=some o→aF P b' s' o):aF P b s o:=by
  unfold lk at h
  simp only [Tr.get] at h
  cases hk:sH b b' s s' with
  | false=>rw [hk] at h; cases h
  | true =>
    rw [hk] at h
    obtain ⟨rfl,hw⟩:=lY.1 hk
    cases ok with
    | false=>cases h
    | true=>exact (H rfl h).wk hw
noncomputable def sg {α:Type} (t:Tr α):Tr α := .ck (sH .skip .skip ⟨[],sk⟩ ⟨[],sk⟩) .skip .skip ⟨[],sk⟩ ⟨[],sk⟩ t
theorem Dr {α:Type} (t:Tr α):(sg t).get=t.get:=by
  have h:sH .skip .skip (⟨[],sk⟩:St) ⟨[],sk⟩=true:=lY.2 ⟨rfl,kk ⟨[],sk⟩ ⟨[],sk⟩⟩
  unfold sg
  rw [h]
  rfl
noncomputable def qN {R:Type} [Inhabited R] (b b':Code) (s s':St) (lp:Option R) (O:R→Out):Tr Out:=lk b b' s s' lp.isSome (.ret (O (lp.getD default)))
theorem cN {P:Program} {b b':Code} {s s':St} {R:Type} [Inhabited R] {lp:Option R} {O:R→Out} (H:∀ r,lp=some r→aF P b' s' (O r)) {o:Out} (h:(qN b b' s s' lp O).get=some o):aF P b s o :=
  IH h fun h1 h2=>by
    cases h2
    exact H _ (rp h1)
noncomputable def Be {A B:Type} [Inhabited A] [Inhabited B] (b b':Code) (s s':St) (lp:Option (A ⊕ B)) (O:A ⊕ B→Out):Tr Out:=lk b b' s s' lp.isSome (.br (iC (lp.getD default)) (sg (.ret (O (.inl (gl (lp.getD default)))))) (sg (.ret (O (.inr (gr (lp.getD default)))))))
theorem fX {P:Program} {b b':Code} {s s':St} {A B:Type} [Inhabited A] [Inhabited B] {lp:Option (A ⊕ B)} {O:A ⊕ B→Out} (H:∀ r,lp=some r→aF P b' s' (O r)) {o:Out} (h:(Be b b' s s' lp O).get=some o):aF P b s o :=
  IH h fun h1 h2=>by
    have:=H _ (rp h1)
    revert h2 this
    cases lp.getD default with
    | inl a=>intro h2 this; rw [fe] at h2; cases (Dr _).symm.trans h2; exact this
    | inr a=>intro h2 this; rw [fe] at h2; cases (Dr _).symm.trans h2; exact this
def Ml:bV→bV→bV
  | .ret v h,.ret v' h'=>match xa ⟨[v],h⟩ ⟨[v'],h'⟩ with
    | ⟨[u],k⟩=>.ret u k
    | _=>.panic .any sk
  | _,_=>.panic .any sk
def SD:bV→Bool
  | .ret .. => true
  | _=>false
theorem KY {Y:Type} {O:Y→bV} {dr:bV→Option Y} {o:bV} {y:Y} (hw:dr o=some y) (hO:SD (O y)=true) (h:Ml o (((dr o).map O).getD (.panic .any sk))=((dr o).map O).getD (.panic .any sk)):RF O o y:=by
  rw [hw] at h
  simp only [Option.map_some,Option.getD_some] at h
  cases hr:O y with
  | panic v t=>rw [hr] at hO; cases hO
  | ret v' h' =>
    cases o with
    | panic v t=>rw [hr] at h; cases h
    | ret v k =>
      rw [hr] at h
      refine Mo hr ?_
      have hf:=kk ⟨[v],k⟩ ⟨[v'],h'⟩
      simp only [Ml] at h
      split at h
      · rename_i u k' e
        simp only [bV.ret.injEq] at h
        obtain ⟨rfl,rfl⟩:=h
        rw [e] at hf
        exact hf
      · cases h
theorem iX {B:aC} (hB:bD B) {n f:Nat} {as1:List AV} {h:Hp} {Y:Type} [Inhabited Y] {O:Y→bV} {ok:Bool} {y:Y} (dr:bV→Option Y) (hO:∀ y,SD (O y)=true)
    (h1:((uM B n f as1 h).qt dr).val=ok) (h2:(uM B n f as1 h).vt dr=y) (h3:(uM B n f as1 h).vG.map OD=(uM B n f as1 h).vG.map N1)
    (h4:((uM B n f as1 h).oa.map fun o=>Ml o (((dr o).map O).getD (.panic .any sk)))=(uM B n f as1 h).oa.map fun o=>((dr o).map O).getD (.panic .any sk)) (hok:ok=true) :
    cR B.P f as1 h (O y)∧∃ fn,B.P.funcs[f]?=some fn∧fn.body.isSome=true:=by
  subst h1 h2
  exact FR hB rfl (rB (d:=dr) (R:=RF O) _ (xw h3) fun a ha v hv=>KY hv (hO v) (map_inj h4 a ha)) hok
noncomputable def fk {Y:Type} (as1:List AV) (h:Hp) (as':List AV) (h':Hp) (ok:Bool) (O:Y→bV) (y:Y):Tr bV := .ck (sH .skip .skip ⟨as1,h⟩ ⟨as',h'⟩) .skip .skip ⟨as1,h⟩ ⟨as',h'⟩ (.br ok (.ret (O y)) .fail)
theorem qx {P:Program} {f:Nat} {as1 as':List AV} {h h':Hp} {ok:Bool} {Y:Type} {O:Y→bV} {y:Y} {res:bV} (H:ok=true→cR P f as' h' (O y)∧∃ fn,P.funcs[f]?=some fn∧fn.body.isSome=true) (he:(fk as1 h as' h' ok O y).get=some res) :
    cR P f as1 h res∧∃ fn,P.funcs[f]?=some fn∧fn.body.isSome=true:=by
  unfold fk at he
  simp only [Tr.get] at he
  cases hk:sH .skip .skip ⟨as1,h⟩ ⟨as',h'⟩ with
  | false=>rw [hk] at he; cases he
  | true =>
    rw [hk] at he
    cases ok with
    | false=>cases he
    | true =>
      cases he
      obtain ⟨h1,h2⟩:=H rfl
      exact ⟨h1.wk (lY.1 hk).2,h2⟩
abbrev wP {α:Type} (s:St) (b:Nat) (k:Pos→α):α:=k ⟨tI (tH s b 0),tN (tH s b 1),tU (tH s b 2),tN (tH s b 3),tI (tH s b 4),tN (tH s b 5),tI (tH s b 6),tN (tH s b 7),tI (tH s b 8),tI (tH s b 9)⟩
abbrev wM {α:Type} (s:St) (b:Nat) (k:Mv→α):α:=k ⟨tI (tH s b 0),tI (tH s b 1),tI (tH s b 2),tI (tH s b 3),tB (tH s b 4)⟩
def Gq:Nat→Nat→List Nat→List Nat
  | 0,_,_=>[]
  | k+1,i,[]=>i::Gq k (i+1) []
  | k+1,i,t::ts=>match Nat.beq i t with
    | true=>Gq k (i+1) ts
    | false=>i::Gq k (i+1) (t::ts)
def bI (fn id:Nat):List (Nat×Nat×List (Nat×List Nat))→List Nat
  | []=>[]
  | (f,n,t)::r=>if fn=f then (match t.lookup id with
    | some l=>Gq n 0 l
    | none=>[]) else bI fn id r
@[reducible] def dP (s:St) (b:Nat):Pos:=⟨tI (tH s b 0),tN (tH s b 1),tU (tH s b 2),tN (tH s b 3),tI (tH s b 4),tN (tH s b 5),tI (tH s b 6),tN (tH s b 7),tI (tH s b 8),tI (tH s b 9)⟩
section
variable {g:Gh} {h:Hp} {w:World}
theorem lB (w:World) (p:Addr) (n:Nat) {j:Nat} (h:j≠p.block):(w.freeze p n).heap[j]?=w.heap[j]? := by
  unfold World.freeze
  split
  · rfl
  · simp only [Array.getElem?_modify]
    rw [if_neg (fun e=>h e.symm)]
theorem nL (w:World) (p:Addr) (n:Nat):(w.freeze p n).heap.size=w.heap.size:=by
  unfold World.freeze
  split
  · rfl
  · simp
theorem uX (w:World) (p:Addr) (n:Nat) (c o:Nat):(w.freeze p n).cell? ⟨c,o,none⟩=w.cell? ⟨c,o,none⟩:=by
  by_cases hc:c=p.block
  · unfold World.freeze
    split
    · rfl
    · simp only [World.cell?,Array.getElem?_modify]
      rw [if_pos hc.symm]
      cases hh:w.heap[c]? with
      | none=>rfl
      | some x=>cases x <;> simp
  · exact dK (lB w p n hc)
theorem MR.Ao (m:MR g h w) {k b cap z n:Nat} (ho:g.own[k]?=some (some (b,cap,z))) (hn:h.aj[k]?=some n) (j:Nat) :
    MR { g with own:=g.own.set k none } { h with aj:=h.aj.set k (n+1) } (w.freeze ⟨b,0,none⟩ j)∧Le g h.aj w { g with own:=g.own.set k none } (h.aj.set k (n+1)) (w.freeze ⟨b,0,none⟩ j):=by
  obtain ⟨n',cells0,ty0,h2,h3,hm,h4,h5,h6,h7,h8⟩:=m.tok k b cap z ho
  have hk:=(List.getElem?_eq_some_iff.1 hn).1
  have hk':k < g.own.length:=by rw [m.dn]; exact hk
  have nJ:∀ {c:Nat},c≠b→(w.freeze ⟨b,0,none⟩ j).heap[c]?=w.heap[c]? := fun hc=>lB w _ j hc
  have hle:Le g h.aj w { g with own:=g.own.set k none } (h.aj.set k (n+1)) (w.freeze ⟨b,0,none⟩ j):=by
    refine ⟨rfl,Lib.below_freeze (Below.refl _ _) h4 _,fun _ _ x=>x,fun c o x _ h=>by rw [uX]; exact h,fun _ _ x=>x,fun _ _ x=>x,fun _ x=>x,fun i q x => ?_,fun i c x=>eV (nJ (fun e=>h8 (e ▸ List.mem_of_getElem? x)))⟩
    by_cases hik:k=i
    · subst hik
      obtain rfl:n=q:=Option.some.inj (hn.symm.trans x)
      exact ⟨n+1,by simp [hk],by omega,fun e=>by omega⟩
    · exact ⟨q,by rw [List.getElem?_set_ne hik]; exact x,Nat.le_refl _,fun _=>by simp only; rw [List.getElem?_set_ne hik]⟩
  have old:∀ (i:Nat) (x:Nat×Nat×Nat),(g.own.set k none)[i]?=some (some x)→k≠i∧g.own[i]?=some (some x):=fun i x hx=>by
    by_cases hik:k=i
    · subst hik; simp [hk'] at hx
    · exact ⟨hik,by rw [List.getElem?_set_ne hik] at hx; exact hx⟩
  refine ⟨⟨by rw [nL]; exact m.base,fun c o x=>by rw [nL]; exact m.eC c o x,m.cV,fun i c l h1 h2 => ?_,m.qL,by simp [m.dn],fun i h1 => ?_,fun i b' cap' z' h1 => ?_,fun i i' b1 c1 z1 c2 z2 h1 h2 => ?_,m.eU,fun l c r h1 h2 => ?_,m.qM,fun D hD => ?_,fun p hp=>(m.fN p hp).mono hle⟩,hle⟩
  · obtain ⟨a,f,o,d',e⟩:=m.var i c l h1 h2
    exact ⟨a,f,o,by rw [nJ (fun e=>h8 (e ▸ List.mem_of_getElem? h1))]; exact d',e.mono hle⟩
  · by_cases hik:k=i
    · subst hik; exact ⟨n+1,by simp [hk]⟩
    · simp only at h1
      rw [List.getElem?_set_ne hik] at h1
      obtain ⟨q,hq⟩:=m.gW i h1
      exact ⟨q,by show (h.aj.set k (n+1))[i]?=_; rw [List.getElem?_set_ne hik]; exact hq⟩
  · obtain ⟨hik,h1'⟩:=old i _ h1
    obtain ⟨q,cs,t,a1,a2,a3,a4,a5,a6,a7,a8⟩:=m.tok i b' cap' z' h1'
    have hbb:b'≠b:=fun e=>hik (m.qC k i b cap z cap' z' ho (e ▸ h1'))
    exact ⟨q,cs,t,by show (h.aj.set k (n+1))[i]?=_; rw [List.getElem?_set_ne hik]; exact a1,a2,a3,a4,by rw [nJ hbb]; exact a5,a6,a7,a8⟩
  · exact m.qC i i' b1 c1 z1 c2 z2 (old i _ h1).2 (old i' _ h2).2
  · obtain ⟨a,R,f,d'⟩:=m.loop l c r h1 h2
    exact ⟨a,R,by rw [nJ (fun e=>by subst e; rw [h5] at f; cases f)]; exact f,d'.mono hle⟩
  · obtain ⟨a,f⟩:=m.defs D hD
    exact ⟨a,by rw [nJ (fun e=>by subst e; rw [h5] at f; cases f)]; exact f⟩
end
end Kz
end
section
namespace Kz
open Go Go.RowKit Go.Proofs Go.Shelf
set_option maxRecDepth 100000
section
variable {P:Program} {w:World}
theorem mN:∀ (l:List Int) (a:Addr) (acc:ByteArray),(∀ j x,l[j]?=some x→w.cell? (a.add j)=some (.int .u8 x)) →
    (loadBytes a acc l.length).run P w=.ok ⟨acc.data++(l.map ub).toArray⟩ w
  | [],a,acc,_=>by simp [loadBytes]
  | x::l,a,acc,h=>by
    have h0:w.cell? a=some (.int .u8 x):=by
      have:=h 0 x rfl
      simpa [Addr.add] using this
    have ih:=mN l (a.add 1) (acc.push (UInt8.ofNat x.toNat)) (fun j y hy=>by
      have:=h (j+1) y (by simpa using hy)
      have e:(a.add 1).add j=a.add (j+1):=by
        unfold Addr.add
        by_cases hj:j=0
        · subst hj; simp
        · simp [hj]; omega
      rw [e]; exact this)
    have hx:x.toNat.toUInt8=UInt8.ofNat x.toNat:=rfl
    simp only [List.length_cons,loadBytes,Sem.run_bind,run_load,h0,Result.andThen,hx]
    rw [ih]
    simp [ByteArray.push,ub]
theorem jm (pt it ty e:TypeId) (hp:P.underlying pt=some (.pointer e)) (hc:P.cellsOf e=1) (g cells:Nat) (hsh:w.shape? g=some (e,cells)) (l:List Int) (h0:l≠[]) (hn:l.length≤cells) (h63:l.length≤9223372036854775807)
    (hcell:∀ j x,l[j]?=some x→w.cell? ((⟨g,0,none⟩:Addr).add j)=some (.int .u8 x)) :
    (Builtin.unsafeString_ #[pt,it] ty #[.pointer (some ⟨g,0,none⟩),.int .i64 l.length]).run P w=.ok (.string ⟨(l.map ub).toArray⟩) (w.freeze ⟨g,0,none⟩ l.length):=by
  have hl:l.length≠0:=by simpa using h0
  have hlb:=mN (P:=P) (w:=w) l ⟨g,0,none⟩ .empty hcell
  have hlies:=Lib.liesAt_bytes (P:=P) hc (cells / P.cellsOf e) l.length (by rw [hc]; simpa using hn)
  have h63':¬ (9223372036854775807:Int) < (l.length:Int):=by omega
  rw [show Builtin.unsafeString_ #[pt,it] ty #[.pointer (some ⟨g,0,none⟩),.int .i64 l.length]=(asInt (.int .i64 l.length) >>= _) from rfl]
  have hmax:IntKind.i64.max=9223372036854775807:=rfl
  have hneg:¬ (l.length:Int) < 0:=by omega
  simp [asInt,asIntOf,hmax,h63',hneg,hl,variablesAt,hsh,elemOf,Go.run_underlying hp,hlies,hlb]
end
set_option maxHeartbeats 2000000 in
theorem Ie {P:Program} {ρ:Ren} (L:Lays.n169 P ρ) (X:Builder.Extra P ρ) (b g cap z:Nat) (p:Value) (ty:TypeId) (l:List Int) (w:World) (hbk:w.heap[b]?=some (.cells #[p,.slice (some ⟨g,0,none⟩) l.length cap] ty (0,0))) (h0:l≠[]) (hcap:l.length≤cap) (hcm:cap≤maxLen)
    (hsh:w.shape? g=some (ρ.t 5,z)) (hz:l.length≤z) (hcell:∀ j x,l[j]?=some x→w.cell? ⟨g,j,none⟩=some (.int .u8 x)) :
    Calls P (ρ.f 169) #[.pointer (some ⟨b,0,none⟩)] w fun e w'=>e=.returned (.string ⟨(l.map ub).toArray⟩)∧w'=w.drew.freeze ⟨g,0,none⟩ l.length:=by
  have hl0:l.length≠0:=by simpa using h0
  have c1:w.drew.cell? ⟨b,1,none⟩=some (.slice (some ⟨g,0,none⟩) l.length cap):=by
    have:w.drew.heap[b]?=some (.cells #[p,.slice (some ⟨g,0,none⟩) l.length cap] ty (0,0)):=hbk
    rw [Lib.cell_of_heap this]; rfl
  have hSD:(Builtin.unsafeSliceData_ #[(ρ.t 37)] (ρ.t 127) #[.slice (some ⟨g,0,none⟩) l.length cap]).run P w.drew=.ok (.pointer (some ⟨g,0,none⟩)) w.drew :=
    Lib.run_unsafeSliceData_row _ _ _ _ _ _ (by omega)
  have hUS:(Builtin.unsafeString_ #[(ρ.t 127),(ρ.t 3)] (ρ.t 9) #[.pointer (some ⟨g,0,none⟩),.int .i64 l.length]).run P w.drew=.ok (.string ⟨(l.map ub).toArray⟩) (w.drew.freeze ⟨g,0,none⟩ l.length):=by
    refine jm (w:=w.drew) (ρ.t 127) (ρ.t 3) (ρ.t 9) (ρ.t 5) L.t127 X.cellsByte g z hsh l h0 hz (by unfold maxLen at hcm; omega) ?_
    intro j x hx
    rw [addr_add,Nat.zero_add]
    exact hcell j x hx
  have mixed:=L.mixed
  have t72:=L.t72; have a72:=L.a72; have z72:=L.z72; have v72:=L.v72; have u72:=Go.run_underlying L.t72
  have t70:=L.t70; have a70:=L.a70; have z70:=L.z70; have v70:=L.v70; have u70:=Go.run_underlying L.t70
  have t37:=L.t37; have a37:=L.a37; have z37:=L.z37; have v37:=L.v37; have u37:=Go.run_underlying L.t37
  have t127:=L.t127; have a127:=L.a127; have z127:=L.z127; have v127:=L.v127; have u127:=Go.run_underlying L.t127
  have t3:=L.t3; have a3:=L.a3; have z3:=L.z3; have v3:=L.v3; have u3:=Go.run_underlying L.t3
  have t9:=L.t9; have a9:=L.a9; have z9:=L.z9; have v9:=L.v9; have u9:=Go.run_underlying L.t9
  have t5:=X.t5; have a5:=X.a5; have z5:=X.z5; have v5:=X.v5; have u5:=Go.run_underlying X.t5
  go_enter L.f169,Body.n169_ntmps ρ
  go_wp2
  go_region_o
  all_goals (go_wp2; go_ret; exact ⟨rfl,rfl⟩)
def AO:Nat→Nat→List UInt8→List UInt8
  | 0,_,acc=>acc
  | f+1,u,acc=>bif decide (u < 10) then UInt8.ofNat (48+u)::acc else AO f (u / 10) (UInt8.ofNat (48+u % 10)::acc)
def zp (n:Int):List UInt8:=bif decide (n < 0) then 45::AO 20 n.natAbs [] else AO 20 n.toNat []
theorem sL:∀ (f u:Nat) (acc:List UInt8),u < 10 ^ (f+1)→AO (f+1) u acc=Lib.decDigits u++acc
  | 0,u,acc,h=>by
    have h1:u < 10:=by simpa using h
    unfold AO Lib.decDigits
    rw [decide_eq_true h1,cond_true,dif_pos h1]
    rfl
  | f+1,u,acc,h=>by
    unfold AO Lib.decDigits
    by_cases h1:u < 10
    · rw [decide_eq_true h1,cond_true,dif_pos h1]
      rfl
    · rw [decide_eq_false h1,cond_false,dif_neg h1,sL f (u / 10) _ (by rw [Nat.pow_succ] at h; omega),List.append_assoc]
      rfl
theorem Iy {n:Nat} (h:n≤9223372036854775808):n < 10 ^ (19+1):=by
  have:(10:Nat) ^ (19+1)=100000000000000000000:=by decide
  omega
theorem Cf {n:Int} (h0 : -9223372036854775808≤n) (h1:n≤9223372036854775807):zp n=Lib.itoa n:=by
  unfold zp Lib.itoa
  by_cases h:n < 0
  · rw [decide_eq_true h,cond_true,if_pos h,sL 19 _ _ (Iy (by omega)),List.append_nil]
  · rw [decide_eq_false h,cond_false,if_neg h,sL 19 _ _ (Iy (by omega)),List.append_nil]
theorem rU {g:Gh} {tk:List Nat} {w:World}:∀ (l:List (List UInt8)) {cs:List Value},bc g tk w (l.map (enc .str)) cs→∃ bs:List ByteArray,cs=bs.map Value.string∧bs.map (·.data.toList)=l
  | [],_,h=>by cases h; exact ⟨[],rfl,rfl⟩
  | x::l,_,h=>by
    cases h with
    | cons hs hx h hr =>
      rename_i c cs
      obtain ⟨bs,rfl,hb⟩:=rU l hr
      cases h with
      | one hs h1 h2 =>
        cases h2
        cases h1 with
        | str hq =>
          rename_i s
          exact ⟨s::bs,by rw [hx]; rfl,by rw [List.map_cons,hb,hq]⟩
end Kz
end
