/- Part 3 of the texts under the proof: an abstract interpreter,the summaries of functions,plain laws. -/
import Derived.Test.YtpkbiocmoklocaaGreatDoorR2
import Derived.RecoverIn
import Derived.Lib.UnsafeStr
import Derived.Shelf.Strings.Builder1
import Derived.Lib.ItoaNum
import Derived.Lib.Join
import Derived.Lib.AppendIntMem
set_option linter.unusedSectionVars false
set_option linter.unusedVariables false
set_option linter.unusedSimpArgs false
set_option linter.unnecessarySimpa false
noncomputable section
namespace Kz
open Go Go.RowKit
noncomputable section
variable {P:Program} {E:Env} {code:Nat→Code→St→Tr Out}
variable {g g':Gh} {h h':Hp} {tk:List Nat} {w w':World} {ro:Option Nat} {a:Act} {Q:Exit→Act→World→Prop} {W0:DB}
theorem xy (ok:np E) {fn:Nat} {b:Code} {s:St} {out:Out} (hloop:oZ E.P E.loop) (ih:∀ s out,(mY E code fn b s).get=some out→pS E.P b s out) (he:(mY E code fn (.loop b) s).get=some out):aD E.P b s out:=by
 rw [mY] at he
 split at he
 ·rename_i F hF
  exact ok.nU _ _ _ _ _ hF he
 intro ro g w a W0 m ht mk hW hro
 rw [get_bind,Option.bind_eq_some_iff] at he
 obtain ⟨r,h1,h2⟩:=he
 refine ep (wpIn_mono (ih _ _ h1 ro g w a W0 m ht mk hW hro) ?_)
 intro e a1 w1 hp
 cases r with
 | norm s1 =>
  obtain ⟨rfl,g1,nx,hr,mk1⟩:=hp
  have:=hloop fn b s1 out h2 ro g1 w1 a1 W0 nx.mr hr mk1 (Nat.le_trans hW nx.le.below.size) (fun c hc=>let ⟨l,hl⟩:=hro c hc; ⟨l,nx.le.loops _ _ hl⟩)
  exact gM this fun e a2 w2 hp2=>hp2.nx nx
 | ret s1 =>
  simp only [al,Option.some.injEq] at h2
  subst h2
  obtain ⟨rfl,rest⟩:=hp
  exact ⟨rfl,rest⟩
 | exit id s1 =>
  simp only [al,Option.some.injEq] at h2
  subst h2
  obtain ⟨rfl,rest⟩:=hp
  exact ⟨rfl,rest⟩
 | panic v h1 =>
  simp only [al,Option.some.injEq] at h2
  subst h2
  obtain ⟨x,g1,rfl,rest⟩:=hp
  exact ⟨x,g1,rfl,rest⟩
theorem oY {l0:Nat} {R0:Loop} (h0:w.heap[l0]?=some (.loop R0)) (fn:FuncId) (tmps:Array Value) (ps:Array Tmp) (assign body:Code) :
  (Instr.enterLoop fn tmps ps assign body (some l0)).run P w =
   .ok (w.heap.size,[]) (w.alloc (.loop { state := .ready,pending:=none,fn,tmps,params:=ps,assign,body,defers:=R0.defers })):=by
 unfold Instr.enterLoop
 simp only [Sem.run_bind,run_getLoop h0,run_newObj_alloc,Result.andThen,Sem.run_pure]
theorem C5 {s:LoopState} {n:Nat} (h:vH s=n) (hn:n≠1):s≠.busy:=by
 intro e; subst e; exact hn h.symm
theorem GO (ok:np E) {fn:Nat} {f:Operand} {ps:Array Tmp} {as1 b:Code} {s:St} {out:Out} (he:(mY E code fn (.rangeFunc f ps as1 b) s).get=some out):pS E.P (.rangeFunc f ps as1 b) s out:=by
 intro ro g w a W0 m ht mk hW hro
 rw [mY] at he
 split at he
 ·rename_i gf x y hv
  simp only at he
  split at he
  ·simp at he
  ·simp only [get_bind,Option.bind_eq_some_iff] at he
   obtain ⟨r,h1,h2⟩:=he
   obtain ⟨hspec,fnc,hf,hb⟩:=ok.call _ _ _ _ h1
   have hfv:=bf ht f
   rw [hv] at hfv
   obtain ⟨xs,ys,hx,hrx,hry⟩:∃ xs ys,a.eval f=.func (.func gf) xs ys∧aL g s.hp.aj w x xs.toList∧aL g s.hp.aj w y ys.toList:=by
    generalize a.eval f=z at hfv
    cases hfv with
    | func q1 q2=>exact ⟨_,_,rfl,q1,q2⟩
   refine wpIn_rangeFunc fun fnb _ => ?_
   have enter:∃ (g1:Gh) (cl:Nat) (mark:List Deferred) (w1:World),(Instr.enterLoop fnb a.tmps ps as1 b ro).run E.P w=.ok (cl,mark) w1 ∧
     Nx g s.hp w g1 { s.hp with loops:=s.hp.loops++[{ state:=0,dX:=none,fn:=fn,tmps:=s.tmps,params:=ps.toList,assign:=as1,body:=b }] } w1∧g1.loops[s.hp.loops.length]?=some cl∧Marks g1 W0 (mark++a.defers):=by
    cases ro with
    | none =>
     obtain ⟨m1,l1⟩:=m.QH
     obtain ⟨m2,l2⟩:=m1.Bm (r:={ state:=0,dX:=none,fn:=fn,tmps:=s.tmps,params:=ps.toList,assign:=as1,body:=b })
      (R:={ state := .ready,pending:=none,fn:=fnb,tmps:=a.tmps,params:=ps,assign:=as1,body:=b,defers:=w.heap.size }) ⟨rfl,rfl,ht.mono l1,rfl,rfl,rfl⟩
     refine ⟨_,_,_,_,run_enterLoop_outer fnb a.tmps ps as1 b,⟨m2,l1.trans l2,⟨rfl,rfl,rfl,fun _ _ _ x=>x,fun _ _ _ x=>x,fun _ _ _ x=>bA x⟩⟩,?_,?_⟩
     ·simp [m.gO,World.size_alloc]
     ·obtain ⟨ms,e0,mk⟩:=mk
      refine ⟨{ target := .collected w.heap.size,args := #[] }::ms,by rw [e0]; rfl,fun d hd => ?_,?_⟩
      ·rcases List.mem_cons.1 hd with rfl | hd
       ·exact ⟨w.heap.size,rfl,List.mem_cons_self,hW⟩
       ·obtain ⟨D,e1,e2,e3⟩:=mk.mem d hd
        exact ⟨D,e1,List.mem_cons_of_mem _ e2,e3⟩
      ·simp only [List.map_cons]
       refine List.pairwise_cons.2 ⟨?_,mk.nodup⟩
       intro t ht' D hD
       obtain ⟨d,hd,rfl⟩:=List.mem_map.1 ht'
       obtain ⟨D',rfl,e2,_⟩:=mk.mem d hd
       simp only [Target.collected.injEq] at hD
       subst hD
       intro e
       simp only [Target.collected.injEq] at e
       subst e
       exact absurd (bG (m.defs _ e2).2) (Nat.lt_irrefl _)
    | some l0 =>
     obtain ⟨l,hl⟩:=hro l0 rfl
     obtain ⟨_,R0,hR0,_⟩:=m.loop l l0 _ hl (List.getElem?_eq_getElem (by have:=bB hl; rw [m.gO] at this; exact this))
     obtain ⟨m2,l2⟩:=m.Bm (r:={ state:=0,dX:=none,fn:=fn,tmps:=s.tmps,params:=ps.toList,assign:=as1,body:=b })
      (R:={ state := .ready,pending:=none,fn:=fnb,tmps:=a.tmps,params:=ps,assign:=as1,body:=b,defers:=R0.defers }) ⟨rfl,rfl,ht,rfl,rfl,rfl⟩
     exact ⟨_,_,_,_,oY hR0 fnb a.tmps ps as1 b,⟨m2,l2,⟨rfl,rfl,rfl,fun _ _ _ x=>x,fun _ _ _ x=>x,fun _ _ _ x=>bA x⟩⟩,by simp [m.gO],mk.mono fun _ h=>h⟩
   obtain ⟨g1,cl,mark,w1,hent,nx1,hg1,mk1⟩:=enter
   refine ⟨cl,mark,w1,{ target := .fn (.func gf) ys,args:=xs++#[.func (.yield cl) #[] #[]] },w1,gf,xs++#[.func (.yield cl) #[] #[]]++ys,w1,hent,?_,fun _ _=>trivial,?_,fun h=>by simp [Fr,Fence.wide] at h,?_⟩
   ·simp only [resolve,hx,Deferred.ofValue]
    simp [Act.eval,Sem.run_pure]
   ·exact kg hf hb (ok.named _ _ hf hb)
   ·have hargs:aL g1 ({ s.hp with loops:=s.hp.loops++[{ state:=0,dX:=none,fn:=fn,tmps:=s.tmps,params:=ps.toList,assign:=as1,body:=b }] }:Hp).aj w1 (x++[.yield s.hp.loops.length]++y) (xs++#[Value.func (.yield cl) #[] #[]]++ys).toList:=by
     simp only [Array.toList_append]
     exact ((hrx.mono nx1.le).append (.cons (.yield hg1) .nil)).append (hry.mono nx1.le)
    refine xB ((hspec g1 w1 _ nx1.mr hargs).mono ?_)
    intro e w2 hp
    cases r with
    | panic v h' =>
     simp only [al,Option.some.injEq] at h2
     subst h2
     obtain ⟨g2,z,rfl,nx2,hz⟩:=hp
     exact ⟨z,g2,rfl,nx1.trans nx2,hz,mk1.mono nx2.le.defs⟩
    | ret v h' =>
     obtain ⟨g2,z,rfl,nx2,hz⟩:=hp
     simp only at h2
     split at h2
     ·rename_i rr hrr
      split at h2
      ·rename_i hst
       have hg2:=nx2.le.loops _ _ hg1
       obtain ⟨hb2,R2,hR2,hlr2⟩:=nx2.mr.loop _ _ _ hg2 hrr
       obtain ⟨m3,l3⟩:=nx2.mr.va (r':={ rr with state:=3 }) (R':={ R2 with state := .exhausted }) hg2 hrr hR2 ⟨rfl,hlr2.dX,hlr2.tmps,hlr2.params,hlr2.assign,hlr2.body⟩
       refine ⟨R2.pending,_,run_endLoop hR2 (C5 hlr2.state hst),?_⟩
       have nx3:Nx g s.hp w g2 (dY h' s.hp.loops.length { rr with state:=3 }) (bO w2 cl (.loop { R2 with state := .exhausted })):=by
        refine ⟨m3,(nx1.trans nx2).le.trans l3,⟨nx2.fl.lo,nx2.fl.qj,nx2.fl.oO,(nx1.trans nx2).fl.heap,(nx1.trans nx2).fl.aj,fun i q hi hq => ?_⟩⟩
        have hne:s.hp.loops.length≠i:=fun e=>by have:=bB hq; omega
        show (h'.loops.set _ _)[i]?=_
        rw [List.getElem?_set_ne hne]
        exact (nx1.trans nx2).fl.loops i q hi hq
       have htt:=ht.mono nx3.le
       have mk3:Marks g2 W0 (mark++a.defers):=mk1.mono nx2.le.defs
       rw [uF]
       have hpend:=hlr2.dX
       generalize dY h' s.hp.loops.length { rr with state:=3 }=H3 at nx3 htt h2
       generalize bO w2 cl (.loop { R2 with state := .exhausted })=W3 at nx3 htt ⊢
       rw [hpend]
       cases hpe:rr.dX with
       | none =>
        rw [hpe] at h2
        simp only [toCode,al,Option.some.injEq] at h2
        subst h2
        exact ⟨rfl,g2,nx3,htt,mk3⟩
       | some c =>
        rw [hpe] at h2
        cases c with
        | ret =>
         simp only [toCode,al,Option.some.injEq] at h2
         subst h2
         exact wpIn_ret ⟨rfl,g2,nx3,htt,mk3⟩
        | exit id =>
         simp only [toCode,al,Option.some.injEq] at h2
         subst h2
         exact wpIn_exit ⟨rfl,g2,nx3,htt,mk3⟩
        | _=>simp [toCode] at h2
      ·simp at h2
     ·simp at h2
 ·simp at he
theorem fm {b:Frame} {a:Act} {k:List Item} {cs:List Frame} {w:World} {c:Code}:step P (lone (b.atR a (.code (.scope c)::k)) cs w)=.next (lone (b.atR a (.code c::.inScope c::k)) cs w) :=
 step_lone_go (by simp [stepG,stepG.exec,Frame.atR])
theorem sS {b:Frame} {a:Act} {k:List Item} {cs:List Frame} {w:World} {c:Code}:step P (lone (b.atR a (.inScope c::k)) cs w)=.next (lone (b.atR a k) cs w) :=
 step_lone_go (by simp [stepG,stepG.exec,Frame.atR])
theorem Al {F:Fence} {n:Nat} {Q:Exit→Act→World→Prop} {a:Act} {w:World} {c:Code} (h:c.wpIn F n P (Exit.noGoto Q) a w):(Code.scope c).wpIn F n P Q a w:=by
 intro b k cs hro hb hr
 have h0:(lone (b.atR a (.code (.scope c)::k)) cs w).fenced P F:=fenced_calm hb hr rfl
 obtain ⟨e,a₁,w₁,hq,harr⟩:=h b (.inScope c::k) cs hro hb hr
 cases e with
 | normal=>exact ⟨.normal,a₁,w₁,hq,.head h0 fm (StepsIn.trans harr (.one (fenced_calm hb hr rfl) sS))⟩
 | exit id' =>
  have hx:exitTo id' (.inScope c::k)=exitTo id' k:=by simp [exitTo]
  exact ⟨.exit id',a₁,w₁,hq,fun k' hk=>.head h0 fm (harr.1 k' (by rw [hx]; exact hk)),
   fun hr' hk=>let ⟨k₁,h1,h2⟩:=harr.2 hr' (by rw [hx]; exact hk); ⟨k₁,h1,.head h0 fm h2⟩⟩
 | goto l=>exact hq.elim
 | ret=>exact ⟨_,a₁,w₁,hq,.of_steps (.one h0 fm) harr⟩
 | panic ch=>exact ⟨_,a₁,w₁,hq,.of_steps (.one h0 fm) harr⟩
 | outgrown=>exact ⟨_,a₁,w₁,hq,.of_steps (.one h0 fm) harr⟩
theorem ng (ok:np E) (hcode:cL E.P code) (hloop:oZ E.P E.loop) (fn:Nat) (c:Code):∀ s out,(mY E code fn c s).get=some out→pS E.P c s out:=by
 induction c with
 | skip =>
  intro s out he ro g w a W0 m ht mk hW hro
  simp only [mY,al,Option.some.injEq] at he
  subst he
  exact wpIn_skip ⟨rfl,g,Nx.refl m,ht,mk⟩
 | region id ops draw=>exact fun s out he=>B5 ok hcode (by simpa [mY] using he)
 | seq x y ihx ihy =>
  intro s out he ro g w a W0 m ht mk hW hro
  rw [mY,get_bind,Option.bind_eq_some_iff] at he
  obtain ⟨r,h1,h2⟩:=he
  refine wpIn_seq (wpIn_mono (ihx _ _ h1 ro g w a W0 m ht mk hW hro) ?_)
  intro e a1 w1 hp
  cases r with
  | norm s1 =>
   obtain ⟨rfl,g1,nx,hr,mk1⟩:=hp
   have:=ihy s1 out h2 ro g1 w1 a1 W0 nx.mr hr mk1 (Nat.le_trans hW nx.le.below.size) (fun c hc=>let ⟨l,hl⟩:=hro c hc; ⟨l,nx.le.loops _ _ hl⟩)
   exact wpIn_mono this fun e a2 w2 hp2=>hp2.nx nx
  | ret s1 =>
   simp only [al,Option.some.injEq] at h2
   subst h2
   obtain ⟨rfl,rest⟩:=hp
   exact ⟨rfl,rest⟩
  | exit id s1 =>
   simp only [al,Option.some.injEq] at h2
   subst h2
   obtain ⟨rfl,rest⟩:=hp
   exact ⟨rfl,rest⟩
  | panic v h1 =>
   simp only [al,Option.some.injEq] at h2
   subst h2
   obtain ⟨x,g1,rfl,rest⟩:=hp
   exact ⟨x,g1,rfl,rest⟩
 | cond c x y ihx ihy =>
  intro s out he ro g w a W0 m ht mk hW hro
  have hc:=bf ht c
  rw [mY] at he
  split at he
  ·rename_i e
   rw [e] at hc
   exact wpIn_cond_true hc.dQ (ihx _ _ he ro g w a W0 m ht mk hW hro)
  ·rename_i e
   rw [e] at hc
   exact wpIn_cond_false hc.dQ (ihy _ _ he ro g w a W0 m ht mk hW hro)
  ·rename_i t e
   rw [e] at hc
   rw [dC] at he
   cases t with
   | true=>exact wpIn_cond_true hc.fL (ihx _ _ he ro g w a W0 m ht mk hW hro)
   | false=>exact wpIn_cond_false hc.fL (ihy _ _ he ro g w a W0 m ht mk hW hro)
  ·simp at he
 | scope b ih =>
  intro s out he ro g w a W0 m ht mk hW hro
  rw [mY] at he
  refine Al (wpIn_mono (ih _ _ he ro g w a W0 m ht mk hW hro) ?_)
  intro e a1 w1 hp
  cases out with
  | norm s1=>obtain ⟨rfl,rest⟩:=hp; exact ⟨rfl,rest⟩
  | ret s1=>obtain ⟨rfl,rest⟩:=hp; exact ⟨rfl,rest⟩
  | exit j s1=>obtain ⟨rfl,rest⟩:=hp; exact ⟨rfl,rest⟩
  | panic v h=>obtain ⟨x,g1,rfl,rest⟩:=hp; exact ⟨x,g1,rfl,rest⟩
 | block id b ih =>
  intro s out he ro g w a W0 m ht mk hW hro
  rw [mY,get_bind,Option.bind_eq_some_iff] at he
  obtain ⟨r,h1,h2⟩:=he
  refine wpIn_block (wpIn_mono (ih _ _ h1 ro g w a W0 m ht mk hW hro) ?_)
  intro e a1 w1 hp
  cases r with
  | norm s1 =>
   simp only [al,Option.some.injEq] at h2
   subst h2
   obtain ⟨rfl,rest⟩:=hp
   exact ⟨rfl,rest⟩
  | ret s1 =>
   simp only [al,Option.some.injEq] at h2
   subst h2
   obtain ⟨rfl,rest⟩:=hp
   exact ⟨rfl,rest⟩
  | exit j s1 =>
   obtain ⟨rfl,rest⟩:=hp
   simp only at h2
   by_cases hj:j=id
   ·subst hj
    simp at h2
    subst h2
    simp only [Exit.inBlock,if_true]
    exact ⟨rfl,rest⟩
   ·have hne:(j==id)=false:=by simpa using hj
    rw [hne] at h2
    simp at h2
    subst h2
    simp only [Exit.inBlock,hj,if_false]
    exact ⟨rfl,rest⟩
  | panic v h1 =>
   simp only [al,Option.some.injEq] at h2
   subst h2
   obtain ⟨x,g1,rfl,rest⟩:=hp
   exact ⟨x,g1,rfl,rest⟩
 | loop b ih =>
  intro s out he ro g w a W0 m ht mk hW hro
  exact sn (xy ok hloop ih he ro g w a W0 m ht mk hW hro)
 | rangeFunc f ps as1 b=>exact fun s out he=>GO ok he
 | exit id =>
  intro s out he ro g w a W0 m ht mk hW hro
  simp only [mY,al,Option.some.injEq] at he
  subst he
  exact wpIn_exit ⟨rfl,g,Nx.refl m,ht,mk⟩
 | label l =>
  intro s out he ro g w a W0 m ht mk hW hro
  simp only [mY,al,Option.some.injEq] at he
  subst he
  exact wpIn_label ⟨rfl,g,Nx.refl m,ht,mk⟩
 | ret =>
  intro s out he ro g w a W0 m ht mk hW hro
  simp only [mY,al,Option.some.injEq] at he
  subst he
  exact wpIn_ret ⟨rfl,g,Nx.refl m,ht,mk⟩
 | _=>intro s out he; simp [mY] at he
theorem kK (m:MR g h w) {tmps:List AV} (ht:aL g h.aj w tmps a.tmps.toList) {F:ResultVar→Sem Value} (hF1:∀ t,F (.tmp t)=pure (a.tmps.getD t undef)) (hF2:∀ x t,F (.cell x t)=(do loadVar t (← asAddr (a.tmps.getD x undef)))):∀ (rs:List ResultVar) (l:List AV),gU P h tmps rs=some l →
  ∃ vs,(rs.mapM F).run P w=.ok vs w∧aL g h.aj w l vs
 | [],l,he=>by
  simp only [gU,Option.some.injEq] at he
  subst he
  exact ⟨[],rfl,.nil⟩
 | .tmp t::rest,l,he=>by
  simp only [gU,Option.map_eq_some_iff] at he
  obtain ⟨l',h1,rfl⟩:=he
  obtain ⟨vs,e1,e2⟩:=kK m ht hF1 hF2 rest l' h1
  refine ⟨a.tmps.getD t undef::vs,?_,.cons (bf ht (.tmp t)) e2⟩
  rw [List.mapM_cons,hF1]
  simp only [Sem.run_bind,Sem.run_pure,Result.andThen_ok,e1]
 | .cell x t::rest,l,he=>by
  simp only [gU,Option.bind_eq_some_iff,Option.map_eq_some_iff] at he
  obtain ⟨v,h1,l',h2,rfl⟩:=he
  obtain ⟨vs,e1,e2⟩:=kK m ht hF1 hF2 rest l' h2
  have hx:=bf ht (.tmp x)
  simp only [aV,Act.eval] at hx
  obtain ⟨y,e3,e4⟩:=AT m h1 hx
  obtain ⟨ad,had⟩:∃ ad,a.tmps.getD x undef=.pointer (some ad):=by
   generalize tmps.getD x .any=q at h1 hx
   generalize a.tmps.getD x undef=z at hx
   cases hx <;> first | exact ⟨_,rfl⟩ | simp [dK] at h1
  have e5:(do loadVar t (← asAddr (a.tmps.getD x undef)):Sem Value).run P w=.ok y w:=by
   rw [had] at e3 ⊢
   simpa [Instr.loadAt,Instr.sureAddr,asAddr,Sem.run_bind] using e3
  refine ⟨y::vs,?_,.cons e4 e2⟩
  rw [List.mapM_cons,hF2,Sem.run_bind,e5]
  simp only [Sem.run_bind,Sem.run_pure,Result.andThen_ok,e1]
theorem kR {fn:Func} {l:List AV} (m:MR g h w) {tmps:List AV} (ht:aL g h.aj w tmps a.tmps.toList) (he:gU P h tmps fn.results.toList=some l):∃ v,(results fn a.tmps).run P w=.ok v w∧bg g h.aj w (oneOf l) v:=by
 have key:∀ F:ResultVar→Sem Value,(∀ t,F (.tmp t)=pure (a.tmps.getD t undef))→(∀ x t,F (.cell x t)=(do loadVar t (← asAddr (a.tmps.getD x undef)))) →
   ∃ v,(do let vs ← fn.results.mapM F; pure (if h:vs.size=1 then vs[0] else .tuple vs):Sem Value).run P w=.ok v w∧bg g h.aj w (oneOf l) v:=by
  intro F hF1 hF2
  obtain ⟨vs,e1,e2⟩:=kK m ht hF1 hF2 _ _ he
  have hl:=e2.length
  have e3:(fn.results.mapM F).run P w=.ok vs.toArray w:=by
   rw [Array.mapM_eq_mapM_toList,Sem.run_map,e1]
   rfl
  refine ⟨if h:vs.toArray.size=1 then vs.toArray[0] else .tuple vs.toArray,?_,?_⟩
  ·rw [Sem.run_bind,e3]
   rfl
  ·match l,vs,e2,hl with
   | [],[],e2,_=>exact .tuple .nil
   | [x],[v],.cons hx _,_=>exact hx
   | x::y::l,u::v::vs,e2,_ =>
    rw [dif_neg (by simp)]
    exact .tuple e2
   | [],_::_,_,hl=>simp at hl
   | [x],[],_,hl=>simp at hl
   | [x],_::_::_,_,hl=>simp at hl
   | _::_::_,[],_,hl=>simp at hl
   | _::_::_,[_],_,hl=>simp at hl
 exact key _ (fun _=>rfl) (fun _ _=>rfl)
theorem uo {fn:Func} {R:Ending→World→Prop} {u:FrameMode} {W0:Nat} {dt:List Deferred} (hu:u≠.run):∀ (ds:List Deferred) (g:Gh) (w:World) (tmps:List AV),MR g h w→aL g h.aj w tmps a.tmps.toList→pG g W0 ds →
  (∀ g' w',MR g' h w'→(∀ D,D ∈ g.defs→D < W0→D ∈ g'.defs)→Le { g' with defs:=[] } h.aj w { g' with defs:=[] } h.aj w'→g'.base=g.base→g'.fz=g.fz→g'.vars=g.vars→g'.own=g.own→g'.loops=g.loops→LeavesInM Fence.wide 0 P fn a.tmps R dt u w')→LeavesInM Fence.wide 0 P fn a.tmps R (ds++dt) u w
 | [],g,w,tmps,m,ht,mk,hR=>by
  exact hR g w m (fun _ h _=>h) ⟨rfl,Below.refl _ _,fun _ _ x=>x,fun _ _ _ _ x=>x,fun _ _ x=>x,fun _ _ x=>x,fun _ x=>x,fun _ n x=>⟨n,x,Nat.le_refl _,fun _=>rfl⟩,fun _ _ _=>rfl⟩ rfl rfl rfl rfl rfl
 | d::ds,g,w,tmps,m,ht,mk,hR=>by
  obtain ⟨D,rfl,hD,hW⟩:=mk.mem d (by simp)
  obtain ⟨m1,hb,l1,hh⟩:=m.JM hD
  refine ⟨hu,.inl ⟨D,_,rfl,run_takeDeferred hh,?_⟩⟩
  have mk1:pG { g with defs:=g.defs.filter (· != D) } W0 ds:=by
   have hn:=mk.nodup
   simp only [List.map_cons] at hn
   obtain ⟨n1,n2⟩:=List.pairwise_cons.1 hn
   refine ⟨fun d hd => ?_,n2⟩
   obtain ⟨D',e1,e2,e3⟩:=mk.mem d (by simp [hd])
   refine ⟨D',e1,List.mem_filter.2 ⟨e2,?_⟩,e3⟩
   have:=n1 d.target (List.mem_map.2 ⟨d,hd,rfl⟩) D rfl
   rw [e1] at this
   simp only [ne_eq,Target.collected.injEq] at this
   simpa using this
  have lw:Lw g h.aj w { g with defs:=g.defs.filter (· != D) } h.aj (bO w D (.deferred none)):=⟨Nat.le_refl _,l1.fz,l1.cell,l1.vars,l1.loops,l1.tok,l1.shape⟩
  refine uo hu ds _ _ tmps m1 (ht.b7 lw) mk1 ?_
  intro g' w' m' hd' l' b1 b2 b3 b4 b5
  refine hR g' w' m' (fun D' h1 h2=>hd' D' (List.mem_filter.2 ⟨h1,by simp; omega⟩) h2) ?_ b1 b2 b3 b4 b5
  refine Le.trans ?_ l'
  exact ⟨rfl,(by rw [b1]; exact l1.below),fun _ _ x=>x,fun c o x h1 h2=>l1.cell c o x (by have h1':g'.fz c o:=h1; rw [b2] at h1'; exact h1') h2,fun _ _ x=>x,fun _ _ x=>x,fun _ x=>x,fun _ n x=>⟨n,x,Nat.le_refl _,fun _=>rfl⟩,fun i c x=>l1.shape i c (by have x':g'.vars[i]?=some c:=x; rw [b3] at x'; exact x')⟩
theorem rK {fn:Func} {a1:Act} {w1:World} {dt:List Deferred} {u:FrameMode} (m:MR g h w) (hu:u≠.run) (g1:Gh) (h1:Hp) (tmps:List AV) (R:Ending→World→Prop) (nx:Nx g h w g1 h1 w1) (hr1:aL g1 h1.aj w1 tmps a1.tmps.toList) (mk1:Marks g1 (w.heap.size,dt) a1.defers)
  (hR:∀ g2 w2,Nx g h w g2 h1 w2→Lw g1 h1.aj w1 g2 h1.aj w2→LeavesInM Fence.wide 0 P fn a1.tmps R dt u w2):LeavesInM Fence.wide 0 P fn a1.tmps R a1.defers u w1:=by
 obtain ⟨ms,e,mk1⟩:=mk1
 rw [e]
 refine uo hu ms g1 w1 tmps nx.mr hr1 mk1 ?_
 intro g2 w2 m2 hd2 l2 b1 b2 b3 b4 b5
 have lw:Lw g1 h1.aj w1 g2 h1.aj w2:=by
  refine ⟨by rw [b1]; exact Nat.le_refl _,by rw [b2]; exact fun _ _ x=>x,fun c o x hx hc=>l2.cell c o x (by show g2.fz c o; rw [b2]; exact hx) hc,by rw [b3]; exact fun _ _ x=>x,by rw [b5]; exact fun _ _ x=>x,fun _ n x=>⟨n,x,Nat.le_refl _,fun _=>by rw [b4]⟩,fun i c x=>l2.shape i c (by show g2.vars[i]?=_; rw [b3]; exact x)⟩
 refine hR g2 w2 ⟨m2,?_,nx.fl⟩ lw
 refine ⟨b1.trans nx.le.base,?_,fun c o x=>by rw [b2]; exact nx.le.fz c o x,fun c o x hx hc=>lw.cell c o x (nx.le.fz _ _ hx) (nx.le.cell c o x hx hc),fun i c x=>by rw [b3]; exact nx.le.vars i c x,fun i c x=>by rw [b5]; exact nx.le.loops i c x,fun D hD=>hd2 D (nx.le.defs D hD) (bG (m.defs D hD).2),fun k n x=>by
  obtain ⟨n',q1,q2,q3⟩:=nx.le.tok k n x
  exact ⟨n',q1,q2,fun e=>by rw [b4]; exact q3 e⟩,fun i c x=>(lw.shape i c (nx.le.vars i c x)).trans (nx.le.shape i c x)⟩
 have hb2:({ g2 with defs:=[] }:Gh).base=g.base:=b1.trans nx.le.base
 have:=l2.below
 rw [hb2] at this
 exact nx.le.below.trans this
def oK (g:Gh) (h:Hp) (w:World) (a:Act) (out:Out) (e:Exit) (a':Act) (w':World):Prop :=
 match out with
 | .norm s'=>e=.normal∧∃ g',Nx g h w g' s'.hp w'∧aL g' s'.hp.aj w' s'.tmps a'.tmps.toList∧a'.defers=a.defers
 | .ret s'=>e=.ret∧∃ g',Nx g h w g' s'.hp w'∧aL g' s'.hp.aj w' s'.tmps a'.tmps.toList∧a'.defers=a.defers
 | .exit id s'=>e=.exit id∧∃ g',Nx g h w g' s'.hp w'∧aL g' s'.hp.aj w' s'.tmps a'.tmps.toList∧a'.defers=a.defers
 | .panic v h' => ∃ x g',e=.panic (gI x)∧Nx g h w g' h' w'∧bg g' h'.aj w' v x∧a'.defers=a.defers
theorem oK.nx {g0:Gh} {h0:Hp} {w0:World} {a0 a a':Act} {out:Out} {e:Exit} (nx:Nx g0 h0 w0 g h w) (hd:a.defers=a0.defers) (hp:oK g h w a out e a' w'):oK g0 h0 w0 a0 out e a' w':=by
 cases out with
 | norm s=>obtain ⟨e1,g1,n1,r1,m1⟩:=hp; exact ⟨e1,g1,nx.trans n1,r1,m1.trans hd⟩
 | ret s=>obtain ⟨e1,g1,n1,r1,m1⟩:=hp; exact ⟨e1,g1,nx.trans n1,r1,m1.trans hd⟩
 | exit id s=>obtain ⟨e1,g1,n1,r1,m1⟩:=hp; exact ⟨e1,g1,nx.trans n1,r1,m1.trans hd⟩
 | panic v h=>obtain ⟨x,g1,e1,n1,r1,m1⟩:=hp; exact ⟨x,g1,e1,nx.trans n1,r1,m1.trans hd⟩
theorem Ez (ops:Array Oper):(List.range ops.size).map (ops[·]?)=ops.toList.map some:=by
 apply List.ext_getElem?
 intro i
 rw [List.getElem?_map,List.getElem?_map]
 by_cases hi:i < ops.size
 ·simp [hi]
 ·simp [Nat.le_of_not_lt hi]
theorem Dm (ok:np E) (hcode:cL E.P code) (c:Code):∀ s out,(qW E code c s).get=some out→∀ (g:Gh) (w:World) (a:Act),MR g s.hp w→aL g s.hp.aj w s.tmps a.tmps.toList→c.wpIn (Fr ro) 0 E.P (oK g s.hp w a out) a w:=by
 induction c with
 | skip =>
  intro s out he g w a m ht
  simp only [qW,al,Option.some.injEq] at he
  subst he
  exact wpIn_skip ⟨rfl,g,Nx.refl m,ht,rfl⟩
 | region id ops draw =>
  intro s out he g w a m ht
  rw [qW] at he
  have ok':np { E with kill:=fun _ _=>[] }:=⟨ok.nU,ok.named,ok.pf,ok.call⟩
  refine ym ok' hcode he m ht ?_
  cases out with
  | norm s'=>exact fun g' w' a' nx hr hd=>⟨rfl,g',nx,hr,hd⟩
  | panic v h'=>exact fun g' w' x a' nx hr hd=>⟨x,g',rfl,nx,hr,hd⟩
  | _=>trivial
 | seq x y ihx ihy =>
  intro s out he g w a m ht
  rw [qW,get_bind,Option.bind_eq_some_iff] at he
  obtain ⟨r,h1,h2⟩:=he
  refine wpIn_seq (wpIn_mono (ihx _ _ h1 g w a m ht) ?_)
  intro e a1 w1 hp
  cases r with
  | norm s1 =>
   obtain ⟨rfl,g1,nx,hr,hd⟩:=hp
   exact wpIn_mono (ihy s1 out h2 g1 w1 a1 nx.mr hr) fun e a2 w2 hp2=>hp2.nx nx hd
  | ret s1 =>
   simp only [al,Option.some.injEq] at h2
   subst h2
   obtain ⟨rfl,rest⟩:=hp
   exact ⟨rfl,rest⟩
  | exit id s1 =>
   simp only [al,Option.some.injEq] at h2
   subst h2
   obtain ⟨rfl,rest⟩:=hp
   exact ⟨rfl,rest⟩
  | panic v h1 =>
   simp only [al,Option.some.injEq] at h2
   subst h2
   obtain ⟨x,g1,rfl,rest⟩:=hp
   exact ⟨x,g1,rfl,rest⟩
 | cond c x y ihx ihy =>
  intro s out he g w a m ht
  have hc:=bf ht c
  rw [qW] at he
  split at he
  ·rename_i e
   rw [e] at hc
   exact wpIn_cond_true hc.dQ (ihx _ _ he g w a m ht)
  ·rename_i e
   rw [e] at hc
   exact wpIn_cond_false hc.dQ (ihy _ _ he g w a m ht)
  ·rename_i t e
   rw [e] at hc
   rw [dC] at he
   cases t with
   | true=>exact wpIn_cond_true hc.fL (ihx _ _ he g w a m ht)
   | false=>exact wpIn_cond_false hc.fL (ihy _ _ he g w a m ht)
  ·simp at he
 | block id b ih =>
  intro s out he g w a m ht
  rw [qW,get_bind,Option.bind_eq_some_iff] at he
  obtain ⟨r,h1,h2⟩:=he
  refine wpIn_block (wpIn_mono (ih _ _ h1 g w a m ht) ?_)
  intro e a1 w1 hp
  cases r with
  | norm s1 =>
   simp only [al,Option.some.injEq] at h2
   subst h2
   obtain ⟨rfl,rest⟩:=hp
   exact ⟨rfl,rest⟩
  | ret s1 =>
   simp only [al,Option.some.injEq] at h2
   subst h2
   obtain ⟨rfl,rest⟩:=hp
   exact ⟨rfl,rest⟩
  | exit j s1 =>
   obtain ⟨rfl,rest⟩:=hp
   simp only at h2
   by_cases hj:j=id
   ·subst hj
    simp at h2
    subst h2
    simp only [Exit.inBlock,if_true]
    exact ⟨rfl,rest⟩
   ·have hne:(j==id)=false:=by simpa using hj
    rw [hne] at h2
    simp at h2
    subst h2
    simp only [Exit.inBlock,hj,if_false]
    exact ⟨rfl,rest⟩
  | panic v h1 =>
   simp only [al,Option.some.injEq] at h2
   subst h2
   obtain ⟨x,g1,rfl,rest⟩:=hp
   exact ⟨x,g1,rfl,rest⟩
 | exit id =>
  intro s out he g w a m ht
  simp only [qW,al,Option.some.injEq] at he
  subst he
  exact wpIn_exit ⟨rfl,g,Nx.refl m,ht,rfl⟩
 | ret =>
  intro s out he g w a m ht
  simp only [qW,al,Option.some.injEq] at he
  subst he
  exact wpIn_ret ⟨rfl,g,Nx.refl m,ht,rfl⟩
 | _=>intro s out he; simp [qW] at he
def iE (g:Gh) (h:Hp) (w:World) (a:Act) (out:Out) (e:Exit) (a':Act) (w':World):Prop :=
 match out with
 | .exit id s'=>if id=Da then ∃ x v tl g',s'.tmps=v::tl∧e=.panic (gI x)∧Nx g h w g' s'.hp w'∧bg g' s'.hp.aj w' v x∧aL g' s'.hp.aj w' tl a'.tmps.toList∧a'.defers=a.defers else oK g h w a out e a' w'
 | .panic .. => False
 | _=>oK g h w a out e a' w'
theorem iE.nx {g0:Gh} {h0:Hp} {w0:World} {a0 a a':Act} {out:Out} {e:Exit} (nx:Nx g0 h0 w0 g h w) (hd:a.defers=a0.defers) (hp:iE g h w a out e a' w'):iE g0 h0 w0 a0 out e a' w':=by
 cases out with
 | norm s=>exact oK.nx (out := .norm s) nx hd hp
 | ret s=>exact oK.nx (out := .ret s) nx hd hp
 | panic v h=>exact hp
 | exit id s =>
  simp only [iE] at hp ⊢
  split at hp
  ·rename_i e1
   rw [if_pos e1]
   obtain ⟨x,v,tl,g',h1,h2,h3,h4,h5,h6⟩:=hp
   exact ⟨x,v,tl,g',h1,h2,nx.trans h3,h4,h5,h6.trans hd⟩
  ·rename_i e1
   rw [if_neg e1]
   exact oK.nx nx hd hp
theorem KM (ok:np E) (hcode:cL E.P code) {ops:Array Oper} {o:Oper} {s:St} {v:AV} {h':Hp} {a:Act} {w:World} {g:Gh} {Q:Exit→Act→World→Prop} (he:fD E code false ops o s=some (.panic v h')) (m:MR g s.hp w) (ht:aL g s.hp.aj w s.tmps a.tmps.toList) {i:Nat} (hi:ops[i]?=some o) {K:Act→World→Prop} (hK:∀ g' w' x,Nx g s.hp w g' h' w'→bg g' h'.aj w' v x→Q (.panic (gI x)) a w') :
  wpOpIn (Fr ro) 0 E.P ops Q i K a w:=by
 unfold fD at he
 simp only [Option.bind_eq_some_iff] at he
 obtain ⟨b,hg,he⟩:=he
 unfold wpOpIn
 rw [hi]
 simp only [tr ht hg]
 cases b with
 | true =>
  simp only [Option.bind_eq_some_iff] at he
  obtain ⟨r,h1,h2⟩:=he
  simp only [if_true]
  refine BQ ok hcode h1 (iQ.nil _) m ht ?_
  cases r with
  | val v h'=>simp [ee] at h2
  | pan v h' =>
   simp only [ee,Bool.false_eq_true,if_false,Option.some.injEq,Out.panic.injEq] at h2
   obtain ⟨rfl,rfl⟩:=h2
   exact fun g' w' x nx hx=>hK g' w' x nx hx
 | false=>simp at he
theorem tV (ok:np E) (hcode:cL E.P code) {ops:Array Oper}:∀ (os:List Oper) (is:List Nat) (s:St) (out:Out) (g0:Gh) (h0:Hp) (w0:World) (a0:Act) (g:Gh) (a:Act) (w:World),is.map (ops[·]?)=os.map some→(sv E code ops os s).get=some out→Nx g0 h0 w0 g s.hp w→a.defers=a0.defers→aL g s.hp.aj w s.tmps a.tmps.toList→wpOpsIn (Fr ro) 0 E.P ops (iE g0 h0 w0 a0 out) is a w
 | [],is,s,out,g0,h0,w0,a0,g,a,w,hm,he,nx,hd,ht=>by
  cases is with
  | cons=>simp at hm
  | nil =>
   simp only [sv,al,Option.some.injEq] at he
   subst he
   exact ⟨rfl,g,nx,ht,hd⟩
 | o::os,is,s,out,g0,h0,w0,a0,g,a,w,hm,he,nx,hd,ht=>by
  cases is with
  | nil=>simp at hm
  | cons i is =>
   simp only [List.map_cons,List.cons.injEq] at hm
   simp only [sv,get_bind,Option.bind_eq_some_iff] at he
   obtain ⟨r,h1,h2⟩:=he
   have hst:=gq _ _ _ _ (iQ.nil _) h1
   simp only [ev,Option.bind_eq_some_iff] at hst
   obtain ⟨q,k1,k2⟩:=hst
   rw [wpOpsIn_cons]
   cases q with
   | norm s' =>
    simp only [Option.some.injEq] at k2
    subst k2
    refine iH ok hcode k1 nx.mr ht hm.1 ?_
    intro g' w' a' nx' ht' hd'
    exact tV ok hcode os is s' out g0 h0 w0 a0 g' a' w' hm.2 h2 (nx.trans nx') (hd'.trans hd) ht'
   | panic v h' =>
    simp only [Option.some.injEq] at k2
    subst k2
    simp only [al,Option.some.injEq] at h2
    subst h2
    refine KM ok hcode k1 nx.mr ht hm.1 ?_
    intro g' w' x nx' hx
    simp only [iE,if_true]
    exact ⟨x,v,s.tmps,g',rfl,rfl,nx.trans nx',hx,ht.mono nx'.le,hd⟩
   | ret s' =>
    simp only [Option.some.injEq] at k2
    subst k2
    simp at h2
   | exit j s' =>
    simp only [Option.some.injEq] at k2
    subst k2
    simp at h2
theorem OA (ok:np E) (hcode:cL E.P code) (c:Code):∀ s out,(u4 E code c s).get=some out→∀ (g:Gh) (w:World) (a:Act),MR g s.hp w→aL g s.hp.aj w s.tmps a.tmps.toList→c.wpIn (Fr ro) 0 E.P (iE g s.hp w a out) a w:=by
 have pass:∀ {g:Gh} {h:Hp} {w:World} {a a1:Act} {w1:World} {e:Exit} {id:Nat} {s1:St},iE g h w a (.exit id s1) e a1 w1→(∃ j,e=.exit j)∨∃ c,e=.panic c:=by
  intro g h w a a1 w1 e id s1 hp
  simp only [iE] at hp
  split at hp
  ·obtain ⟨x,v,tl,g',h1,h2,_⟩:=hp
   exact .inr ⟨_,h2⟩
  ·obtain ⟨h1,_⟩:=hp
   exact .inl ⟨_,h1⟩
 induction c with
 | skip =>
  intro s out he g w a m ht
  simp only [u4,al,Option.some.injEq] at he
  subst he
  exact wpIn_skip ⟨rfl,g,Nx.refl m,ht,rfl⟩
 | region id ops draw =>
  intro s out he g w a m ht
  cases draw with
  | true=>simp [u4] at he
  | false =>
   rw [u4] at he
   exact wpIn_region (tV ok hcode _ _ _ _ g s.hp w a g a w (Ez ops) he (Nx.refl m) rfl ht)
 | seq x y ihx ihy =>
  intro s out he g w a m ht
  rw [u4,get_bind,Option.bind_eq_some_iff] at he
  obtain ⟨r,h1,h2⟩:=he
  refine wpIn_seq (wpIn_mono (ihx _ _ h1 g w a m ht) ?_)
  intro e a1 w1 hp
  cases r with
  | norm s1 =>
   obtain ⟨rfl,g1,nx,hr,hd⟩:=hp
   exact wpIn_mono (ihy s1 out h2 g1 w1 a1 nx.mr hr) fun e a2 w2 hp2=>hp2.nx nx hd
  | ret s1 =>
   simp only [al,Option.some.injEq] at h2
   subst h2
   obtain ⟨rfl,rest⟩:=hp
   exact ⟨rfl,rest⟩
  | exit id s1 =>
   simp only [al,Option.some.injEq] at h2
   subst h2
   rcases pass hp with ⟨j,rfl⟩ | ⟨c,rfl⟩ <;> exact hp
  | panic v h1=>exact hp.elim
 | cond c x y ihx ihy =>
  intro s out he g w a m ht
  have hc:=bf ht c
  rw [u4] at he
  split at he
  ·rename_i e
   rw [e] at hc
   exact wpIn_cond_true hc.dQ (ihx _ _ he g w a m ht)
  ·rename_i e
   rw [e] at hc
   exact wpIn_cond_false hc.dQ (ihy _ _ he g w a m ht)
  ·rename_i t e
   rw [e] at hc
   rw [dC] at he
   cases t with
   | true=>exact wpIn_cond_true hc.fL (ihx _ _ he g w a m ht)
   | false=>exact wpIn_cond_false hc.fL (ihy _ _ he g w a m ht)
  ·simp at he
 | block id b ih =>
  intro s out he g w a m ht
  rw [u4,get_bind,Option.bind_eq_some_iff] at he
  obtain ⟨r,h1,h2⟩:=he
  refine wpIn_block (wpIn_mono (ih _ _ h1 g w a m ht) ?_)
  intro e a1 w1 hp
  cases r with
  | norm s1 =>
   simp only [al,Option.some.injEq] at h2
   subst h2
   obtain ⟨rfl,rest⟩:=hp
   exact ⟨rfl,rest⟩
  | ret s1 =>
   simp only [al,Option.some.injEq] at h2
   subst h2
   obtain ⟨rfl,rest⟩:=hp
   exact ⟨rfl,rest⟩
  | exit j s1 =>
   simp only at h2
   by_cases hjp:j=Da
   ·subst hjp
    simp only [beq_self_eq_true,if_true,al,Option.some.injEq] at h2
    subst h2
    simp only [iE,if_true] at hp
    obtain ⟨x,v,tl,g',e1,rfl,rest⟩:=hp
    simp only [Exit.inBlock,iE,if_true]
    exact ⟨x,v,tl,g',e1,rfl,rest⟩
   ·have hne:(j==Da)=false:=by simpa using hjp
    rw [hne] at h2
    simp only [Bool.false_eq_true,if_false] at h2
    simp only [iE,if_neg hjp] at hp
    obtain ⟨rfl,rest⟩:=hp
    by_cases hj:j=id
    ·subst hj
     simp only [beq_self_eq_true,if_true,al,Option.some.injEq] at h2
     subst h2
     simp only [Exit.inBlock,if_true]
     exact ⟨rfl,rest⟩
    ·have hne:(j==id)=false:=by simpa using hj
     rw [hne] at h2
     simp only [Bool.false_eq_true,if_false,al,Option.some.injEq] at h2
     subst h2
     simp only [Exit.inBlock,hj,if_false,iE,if_neg hjp]
     exact ⟨rfl,rest⟩
  | panic v h1=>exact hp.elim
 | exit id =>
  intro s out he g w a m ht
  simp only [u4] at he
  by_cases hid:id=Da
  ·subst hid; simp at he
  ·have hne:(id==Da)=false:=by simpa using hid
   rw [hne] at he
   simp only [Bool.false_eq_true,if_false,al,Option.some.injEq] at he
   subst he
   refine wpIn_exit ?_
   simp only [iE,if_neg hid]
   exact ⟨rfl,g,Nx.refl m,ht,rfl⟩
 | ret =>
  intro s out he g w a m ht
  simp only [u4,al,Option.some.injEq] at he
  subst he
  exact wpIn_ret ⟨rfl,g,Nx.refl m,ht,rfl⟩
 | _=>intro s out he; simp [u4] at he
theorem vM {ops:Array Oper} {u:Nat} (h:om ops=some u):∃ o cc,ops.toList.getLast?=some o∧o.op=.defer cc∧o.guard=none∧o.dst=none∧cc.callee=.value (.tmp u)∧cc.args=#[]:=by
 unfold om at h
 split at h
 ·rename_i o ho
  split at h
  ·rename_i cc e1 e2 e3
   split at h
   ·rename_i u1 e4
    split at h
    ·rename_i e5
     simp only [Option.some.injEq] at h
     subst h
     exact ⟨o,cc,ho,e1,e2,e3,e4,Array.eq_empty_of_size_eq_zero e5⟩
    ·cases h
   ·cases h
  ·cases h
 ·cases h
theorem Aa {l l':List AV} {os:List Oper} (h:A8 l os=some l'):(os=[]∧l'=l)∨∃ p x,os=[p]∧p.op=.assign x∧p.guard=none∧l'=bX l p.dst (aV l x):=by
 unfold A8 at h
 split at h
 ·simp only [Option.some.injEq] at h
  exact .inl ⟨rfl,h.symm⟩
 ·rename_i p
  split at h
  ·rename_i x e1 e2
   simp only [Option.some.injEq] at h
   exact .inr ⟨p,x,rfl,e1,e2,h.symm⟩
  ·cases h
 ·cases h
theorem xf {fd:Nat} {cv:List AV} {rv:AV} {h h':Hp} (he:(kT E code fd cv rv h).get=some h'):∃ fn id o os cc rest t l s,E.P.funcs[fd]?=some fn∧fn.body=some (.seq (.region id (o::os).toArray false) rest)∧o.op=.call cc∧o.guard=none∧o.dst=some t∧cc.callee=.builtin .recover∧cc.args=#[]∧fn.results=#[] ∧
  A8 ((cv++List.replicate (fn.ntmps - cv.length) AV.undef).set t rv) os=some l∧((qW E code rest ⟨l,h⟩).get=some (.norm s)∨(qW E code rest ⟨l,h⟩).get=some (.ret s))∧s.hp=h':=by
 unfold kT at he
 split at he
 ·rename_i fn hf
  split at he
  ·rename_i id ops rest hb
   split at he
   ·rename_i o os ho
    split at he
    ·rename_i cc t e1 e2 e3
     split at he
     ·rename_i e4
      split at he
      ·rename_i e5
       split at he
       ·rename_i l hl
        simp only [get_bind,Option.bind_eq_some_iff] at he
        obtain ⟨out,h1,h2⟩:=he
        have hops:ops=(o::os).toArray:=by apply Array.toList_inj.1; simpa using ho
        subst hops
        cases out with
        | norm s =>
         simp only [al,Option.some.injEq] at h2
         exact ⟨fn,id,o,os,cc,rest,t,l,s,hf,hb,e1,e2,e3,e4,Array.eq_empty_of_size_eq_zero e5.1,Array.eq_empty_of_size_eq_zero e5.2,hl,.inl h1,h2⟩
        | ret s =>
         simp only [al,Option.some.injEq] at h2
         exact ⟨fn,id,o,os,cc,rest,t,l,s,hf,hb,e1,e2,e3,e4,Array.eq_empty_of_size_eq_zero e5.1,Array.eq_empty_of_size_eq_zero e5.2,hl,.inr h1,h2⟩
        | exit id s=>simp at h2
        | panic v h=>simp at h2
       ·simp at he
      ·simp at he
     ·simp at he
    ·simp at he
   ·simp at he
  ·simp at he
 ·simp at he
theorem BE (ok:np E) (hcode:cL E.P code) {fd:Nat} {cv:List AV} {rv:AV} {h h':Hp} (he:(kT E code fd cv rv h).get=some h') {g:Gh} {w:World} {ys:Array Value} (m:MR g h w) (hr:aL g h.aj w cv ys.toList) {fn:Func} {tmps:Array Value} {R:Ending→World→Prop}
  {u u2:FrameMode} (hun:u≠.run) (hu2:settle u2=.returning) {xv:Value} (hx:bg g h.aj w rv xv) (hrc:∀ (c₀:Frame) (cs:List Frame),c₀.mode=u→(recoverD (c₀::cs)=none∧xv=.nilIface∧u2=u)∨recoverD (c₀::cs)=some (xv,{ c₀ with mode:=u2 }::cs))
  (hR:∀ g' w',Nx g h w g' h' w'→LeavesInM Fence.wide 0 E.P fn tmps R [] .returning w'):LeavesInM Fence.wide 0 E.P fn tmps R [{ target := .fn (.func fd) ys,args := #[] }] u w:=by
 obtain ⟨fnd,id,o,os,cc,rest,t,l,s,hf,hb,e1,e2,e3,e4,e5,e6,hl,h1,rfl⟩:=xf he
 have hinv:(invoke (.fn (.func fd) ys) #[]).run E.P w=.ok (.enter fd (#[]++ys)) w:=kg hf (by rw [hb]; rfl) (ok.named _ _ hf (by rw [hb]; rfl))
 refine ⟨hun,.inr ⟨fun hx=>by simp [Fence.wide] at hx,.func fd,ys,fd,#[]++ys,rfl,hinv,fun _ _=>trivial,?_⟩⟩
 refine callsDIn_of_wpSIn hf hb trivial fun c₀ cs hu => ?_
 refine wpSIn_seq (wpSIn_region ?_)
 obtain ⟨cs2,hcs2,hrec⟩:∃ cs2,cs2={ c₀ with mode:=u2 }::cs∧((recoverD (c₀::cs)=none∧xv=.nilIface∧cs2=c₀::cs)∨recoverD (c₀::cs)=some (xv,cs2)):=by
  rcases hrc c₀ cs hu with ⟨q1,q2,q3⟩ | q
  ·exact ⟨_,rfl,.inl ⟨q1,q2,by rw [q3,← hu]⟩⟩
  ·exact ⟨_,rfl,.inr q⟩
 have hex:∀ ρ:Operand→Value,(execOp ρ o).run E.P w=.ok .recover w:=fun ρ=>by
  simp only [execOp,e1,resolve,e4,e5]
  rfl
 have hw:∀ y,Region.wanted o y=true:=fun y=>by unfold Region.wanted; rw [e2]
 have htm:aL g h.aj w (cv++List.replicate (fnd.ntmps - cv.length) .undef) ((#[]++ys)++Array.replicate (fnd.ntmps - (#[]++ys).size) undef).toList:=by
  rw [Array.toList_append,Array.toList_replicate,Array.empty_append]
  have hl:cv.length=ys.size:=by rw [hr.length]; simp
  rw [hl]
  exact hr.append (aL.kr _)
 have hput:=qP (a:=(⟨(#[]++ys)++Array.replicate (fnd.ntmps - (#[]++ys).size) undef,[]⟩:Act)) htm hx (some t)
 have key:∀ (A:Act),A.defers=[]→aL g h.aj w l A.tmps.toList→∀ out,(qW E code rest ⟨l,h⟩).get=some out→(out=.norm s∨out=.ret s)→rest.wpSIn Fence.wide 0 E.P (bodyPostS E.P fnd c₀ cs fun
    | .returned _,u',w'=>LeavesInM Fence.wide 0 E.P fn tmps R [] (settle u') w'
    | .panicked chain,u',w'=>LeavesInM Fence.wide 0 E.P fn tmps R [] (raised u' chain) w'
    | .outgrown,_,w'=>R .outgrown w') A cs2 w:=by
  intro A hA hput out ho hout
  refine wpSIn_of_wpIn rfl (wpIn_mono (Dm (ro:=none) ok hcode rest _ _ ho g w _ m hput) ?_)
  have fin:∀ (g':Gh) (a':Act) (w':World),Nx g h w g' s.hp w'→aL g' s.hp.aj w' s.tmps a'.tmps.toList→a'.defers=[]→∀ e:Exit,(e=.normal∨e=.ret)→bodyPostS E.P fnd c₀ cs (fun
    | .returned _,u',w'=>LeavesInM Fence.wide 0 E.P fn tmps R [] (settle u') w'
    | .panicked chain,u',w'=>LeavesInM Fence.wide 0 E.P fn tmps R [] (raised u' chain) w'
    | .outgrown,_,w'=>R .outgrown w') e a' cs2 w':=by
   intro g' a' w' nx hrt hd e hee
   obtain ⟨v,v1,_⟩:=kR (fn:=fnd) (l:=[]) nx.mr hrt (by rw [e6]; rfl)
   have hl:=hR g' w' nx
   rw [← hu2] at hl
   rcases hee with rfl | rfl
   ·exact ⟨hd,u2,hcs2,v,v1,hl⟩
   ·exact ⟨hd,u2,hcs2,v,v1,hl⟩
  intro e a' w' hp
  rcases hout with rfl | rfl
  ·obtain ⟨rfl,g',nx,hrt,hd⟩:=hp
   exact fin g' a' w' nx hrt (hd.trans hA) _ (.inl rfl)
  ·obtain ⟨rfl,g',nx,hrt,hd⟩:=hp
   exact fin g' a' w' nx hrt (hd.trans hA) _ (.inr rfl)
 have fin2:∀ (A:Act),A.defers=[]→aL g h.aj w l A.tmps.toList→rest.wpSIn Fence.wide 0 E.P (bodyPostS E.P fnd c₀ cs fun
    | .returned _,u',w'=>LeavesInM Fence.wide 0 E.P fn tmps R [] (settle u') w'
    | .panicked chain,u',w'=>LeavesInM Fence.wide 0 E.P fn tmps R [] (raised u' chain) w'
    | .outgrown,_,w'=>R .outgrown w') A cs2 w:=by
  intro A hA hA2
  rcases h1 with h1 | h1
  ·exact key A hA hA2 _ h1 (.inl rfl)
  ·exact key A hA hA2 _ h1 (.inr rfl)
 rcases Aa hl with ⟨rfl,rfl⟩ | ⟨p,x,rfl,p1,p2,rfl⟩
 ·have fin3:=fin2 _ (by rfl) hput
  rcases hrec with ⟨hrec,q2,q3⟩ | hrec
  ·rw [q2,q3] at fin3
   show wpOpsSIn Fence.wide 0 E.P #[o] _ [0] _ _ w
   simp only [wpOpsSIn,List.getElem?_toArray,List.getElem?_cons_zero,hw,if_true,hex,hrec]
   refine ⟨fun _ _=>trivial,?_⟩
   rw [e3]
   exact fin3
  ·show wpOpsSIn Fence.wide 0 E.P #[o] _ [0] _ _ w
   simp only [wpOpsSIn,List.getElem?_toArray,List.getElem?_cons_zero,hw,if_true,hex,hrec]
   refine ⟨fun _ _=>trivial,?_⟩
   rw [e3]
   exact fin3
 ·have fin3:=fin2 _ (by cases p.dst <;> rfl) (qP hput (bf hput x) p.dst)
  have hw2:∀ y,Region.wanted p y=true:=fun y=>by unfold Region.wanted; rw [p2]
  have hex2:∀ ρ:Operand→Value,(execOp ρ p).run E.P w=.ok (.value (ρ x)) w:=fun ρ=>by
   simp only [execOp,p1]
   rfl
  rcases hrec with ⟨hrec,q2,q3⟩ | hrec
  ·rw [q2,q3] at fin3
   rw [q2] at hput
   show wpOpsSIn Fence.wide 0 E.P #[o,p] _ [0,1] _ _ w
   simp only [wpOpsSIn,List.getElem?_toArray,List.getElem?_cons_zero,List.getElem?_cons_succ,hw,hw2,if_true,hex,hex2,hrec]
   refine ⟨fun _ _=>trivial,fun _ _=>trivial,?_⟩
   rw [e3]
   exact fin3
  ·show wpOpsSIn Fence.wide 0 E.P #[o,p] _ [0,1] _ _ w
   simp only [wpOpsSIn,List.getElem?_toArray,List.getElem?_cons_zero,List.getElem?_cons_succ,hw,hw2,if_true,hex,hex2,hrec]
   refine ⟨fun _ _=>trivial,fun _ _=>trivial,?_⟩
   rw [e3]
   exact fin3
theorem J9 (ok:np E) (hcode:cL E.P code) (hloop:oZ E.P E.loop) {f:Nat} {fn:Func} {rest:Code} {id:Nat} {ops:Array Oper} {u:Nat} (hc:om ops=some u) {s:St} {res:aW} (he:(Ab E code f fn ops u rest s).get=some res)
  {g:Gh} {w:World} {a:Act} (m:MR g s.hp w) (ht:aL g s.hp.aj w s.tmps a.tmps.toList) (hd1:a.defers=[]) {g0:Gh} {h0:Hp} {w0:World} (nx0:Nx g0 h0 w0 g s.hp w):(Code.seq (.region id ops false) rest).wpIn Fence.wide 0 E.P (bodyPostM Fence.wide 0 E.P fn (qa g0 h0 w0 res)) a w:=by
 obtain ⟨o,cc,hlast,o1,o2,o3,o4,o5⟩:=vM hc
 unfold Ab at he
 simp only [get_bind,Option.bind_eq_some_iff] at he
 obtain ⟨r2,h2,he⟩:=he
 have hr2:∃ s2,r2=.norm s2:=by
  cases r2 with
  | norm s=>exact ⟨s,rfl⟩
  | panic v h=>simp at he
  | ret s=>simp at he
  | exit i s=>simp at he
 obtain ⟨s2,rfl⟩:=hr2
 simp only at he
 split at he
 case h_2=>simp at he
 rename_i fd cv hu
 simp only [get_bind,Option.bind_eq_some_iff] at he
 obtain ⟨r3,h3,he⟩:=he
 have hr3:(∃ s3 h4,(r3=.norm s3∨r3=.ret s3)∧(kT E code fd cv .niliface s3.hp).get=some h4∧(finish E.P fn ⟨s3.tmps,h4⟩).get=some res) ∨
   ∃ t v tl h3 h4,(u4 E code rest s2).get=some (.exit Da ⟨.iface t v::tl,h3⟩)∧(kT E code fd cv (.iface t v) h3).get=some h4∧(finish E.P fn ⟨tl,h4⟩).get=some res:=by
  cases r3 with
  | norm s =>
   simp only [get_bind,Option.bind_eq_some_iff] at he
   obtain ⟨h4,q1,q2⟩:=he
   exact .inl ⟨s,h4,.inl rfl,q1,q2⟩
  | ret s =>
   simp only [get_bind,Option.bind_eq_some_iff] at he
   obtain ⟨h4,q1,q2⟩:=he
   exact .inl ⟨s,h4,.inr rfl,q1,q2⟩
  | panic v h =>
   simp only [get_bind,Option.bind_eq_some_iff] at he
   obtain ⟨q,q1,q2⟩:=he
   split at q2
   ·rename_i j t v tl h3
    by_cases hj:j=Da
    ·subst hj
     simp only [beq_self_eq_true,if_true,get_bind,Option.bind_eq_some_iff] at q2
     obtain ⟨h4,q3,q4⟩:=q2
     exact .inr ⟨t,v,tl,h3,h4,q1,q3,q4⟩
    ·have hne:(j==Da)=false:=by simpa using hj
     rw [hne] at q2
     simp at q2
   ·simp at q2
  | exit i s=>simp at he
 refine wpIn_seq (wpIn_region ?_)
 have hsz:ops.size≠0:=fun h0=>by
  have:ops.toList=[]:=by apply List.eq_nil_of_length_eq_zero; simpa using h0
  rw [this] at hlast; cases hlast
 obtain ⟨k,hk⟩:=Nat.exists_eq_succ_of_ne_zero hsz
 have hids:=Ez ops
 have hdl:ops.toList=ops.toList.dropLast++[o]:=by
  obtain ⟨l0,e0⟩:=List.getLast?_eq_some_iff.1 hlast
  rw [e0,List.dropLast_concat]
 rw [hk,Nat.succ_eq_add_one,List.range_succ,List.map_append,hdl,List.map_append] at hids
 have hlen:((List.range k).map (ops[·]?)).length=(ops.toList.dropLast.map some).length:=by simp; omega
 obtain ⟨hm1,hm2⟩:=List.append_inj hids hlen
 simp only [List.map_cons,List.map_nil,List.cons.injEq,and_true] at hm2
 rw [hk,Nat.succ_eq_add_one,List.range_succ]
 refine xE ok hcode (ro:=none) _ _ _ _ g a w hm1 (gq _ _ _ _ (iQ.nil _) h2) m ht ?_
 intro g2 w2 a2 nx2 ht2 hd2
 have hfv:∃ ys,a2.eval (.tmp u)=.func (.func fd) #[] ys∧aL g2 s2.hp.aj w2 cv ys.toList:=by
  have:=bf ht2 (.tmp u)
  rw [show aV s2.tmps (.tmp u)=.func fd [] cv from hu] at this
  generalize a2.eval (.tmp u)=z at this
  cases this with
  | @func _ _ _ x y q1 q2 =>
   have hx:x=#[]:=by
    apply Array.toList_inj.1
    cases hxl:x.toList with
    | nil=>rfl
    | cons=>rw [hxl] at q1; cases q1
   exact ⟨y,by rw [hx],q2⟩
 obtain ⟨ys,hys,hry⟩:=hfv
 have hex:(execOp a2.eval o).run E.P w2=.ok (.defer { target := .fn (.func fd) ys,args := #[] }) w2:=by
  simp only [execOp,o1,resolve,o4,o5,hys,Deferred.ofValue,Sem.run_bind,Sem.run_pure,Result.andThen_ok,Array.map_empty,Array.append_empty]
 rw [wpOpsIn_cons]
 unfold wpOpIn
 rw [hm2]
 have hw:∀ y,Region.wanted o y=true:=fun y=>by unfold Region.wanted; rw [o2]
 simp only [hw,if_true]
 refine ⟨fun _ _=>trivial,?_⟩
 rw [show (Fr none).round=none from rfl,Oper.semAt_none,hex,Oper.uponIn_defer,o3]
 have hde:a2.defers=[]:=hd2.trans hd1
 show rest.wpIn Fence.wide 0 E.P _ { a2 with defers:={ target := .fn (.func fd) ys,args := #[] }::a2.defers } w2
 rw [hde]
 have hrun:∀ (g5:Gh) (w5:World) (h4:Hp) (tl:List AV) (tm:Array Value),(finish E.P fn ⟨tl,h4⟩).get=some res→Nx g s.hp w g5 h4 w5→aL g5 h4.aj w5 tl tm.toList→LeavesInM Fence.wide 0 E.P fn tm (qa g0 h0 w0 res) [] .returning w5:=by
  intro g5 w5 h4 tl tm hfin nx5 hr5
  unfold finish at hfin
  split at hfin
  ·rename_i l hl
   simp only [al,Option.some.injEq] at hfin
   subst hfin
   obtain ⟨v,e1,e2⟩:=kR (fn:=fn) (a:=⟨tm,[]⟩) nx5.mr hr5 hl
   exact ⟨v,e1,g5,v,rfl,nx0.trans nx5,e2⟩
  ·simp at hfin
 rcases hr3 with ⟨s3,h4,hout,hl4,hfin⟩ | ⟨t,v,tl,h3',h4,hp3,hl4,hfin⟩
 ·have spec:=ng ok hcode hloop f rest _ _ h3 none g2 w2 { a2 with defers:=[{ target := .fn (.func fd) ys,args := #[] }] } (w.heap.size,[{ target := .fn (.func fd) ys,args := #[] }]) nx2.mr ht2 ⟨[],rfl,fun d hd=>absurd hd (by simp),List.Pairwise.nil⟩ nx2.le.below.size (fun c hc=>by cases hc)
  refine wpIn_mono spec ?_
  intro e a3 w3 hp
  have good:∀ (g3:Gh),Nx g2 s2.hp w2 g3 s3.hp w3→aL g3 s3.hp.aj w3 s3.tmps a3.tmps.toList→Marks g3 (w.heap.size,[{ target := .fn (.func fd) ys,args := #[] }]) a3.defers→LeavesInM Fence.wide 0 E.P fn a3.tmps (qa g0 h0 w0 res) a3.defers .returning w3:=by
   intro g3 nx3 ht3 mk3
   refine rK m (by simp) g3 s3.hp s3.tmps _ (nx2.trans nx3) ht3 mk3 ?_
   intro g4 w4 nx4 lw4
   refine BE ok hcode hl4 nx4.mr ((hry.mono nx3.le).b7 lw4) (by simp) (u2 := .returning) rfl .niliface (fun c₀ cs hu=>.inl ⟨by simp [recoverD,hu],rfl,rfl⟩) ?_
   intro g5 w5 nx5
   exact hrun g5 w5 h4 s3.tmps a3.tmps hfin (nx4.trans nx5) ((ht3.b7 lw4).mono nx5.le)
  rcases hout with rfl | rfl
  ·obtain ⟨rfl,g3,nx3,ht3,mk3⟩:=hp
   exact good g3 nx3 ht3 mk3
  ·obtain ⟨rfl,g3,nx3,ht3,mk3⟩:=hp
   exact good g3 nx3 ht3 mk3
 ·refine wpIn_mono (OA (ro:=none) ok hcode rest _ _ hp3 g2 w2 { a2 with defers:=[{ target := .fn (.func fd) ys,args := #[] }] } nx2.mr ht2) ?_
  intro e a3 w3 hp
  simp only [iE,if_true] at hp
  obtain ⟨x,v',tl',g3,q1,rfl,nx3,hx3,ht3,hd3⟩:=hp
  simp only [List.cons.injEq] at q1
  obtain ⟨rfl,rfl⟩:=q1
  show LeavesInM Fence.wide 0 E.P fn a3.tmps (qa g0 h0 w0 res) a3.defers (.panicking (gI x)) w3
  rw [hd3]
  refine BE ok hcode hl4 nx3.mr (hry.mono nx3.le) (by simp) (u2 := .panicking [{ v:=x,recovered:=true }]) rfl hx3 (fun c₀ cs hu=>.inr (by simp [recoverD,hu,gI])) ?_
  intro g5 w5 nx5
  exact hrun g5 w5 h4 tl a3.tmps hfin ((nx2.trans nx3).trans nx5) (ht3.mono nx5.le)
theorem E1 (ok:np E) (hcode:cL E.P code) (hloop:oZ E.P E.loop) {f:Nat} {fn:Func} {g0:Gh} {h0:Hp} {w0:World} {res:aW}:∀ (c:Code) {s:St} {g:Gh} {w:World} {a:Act},(jW E code f fn c s).get=some res →
  MR g s.hp w→aL g s.hp.aj w s.tmps a.tmps.toList→a.defers=[]→Nx g0 h0 w0 g s.hp w→c.wpIn Fence.wide 0 E.P (bodyPostM Fence.wide 0 E.P fn (qa g0 h0 w0 res)) a w:=by
 intro c
 induction c with
 | seq x b _ ih =>
  intro s g w a he m ht hd nx0
  have step:((qW E code x s).bind fun
    | .norm s1=>jW E code f fn b s1
    | _=>.fail).get=some res→(Code.seq x b).wpIn Fence.wide 0 E.P (bodyPostM Fence.wide 0 E.P fn (qa g0 h0 w0 res)) a w:=by
   intro he
   simp only [get_bind,Option.bind_eq_some_iff] at he
   obtain ⟨r,h1,h2⟩:=he
   refine wpIn_seq (wpIn_mono (Dm (ro:=none) ok hcode x _ _ h1 g w _ m ht) ?_)
   intro e a1 w1 hp
   cases r with
   | norm s1 =>
    obtain ⟨rfl,g1,nx1,ht1,hd1⟩:=hp
    exact ih h2 nx1.mr ht1 (hd1.trans hd) (nx0.trans nx1)
   | _=>simp at h2
  unfold jW at he
  split at he
  ·rename_i id ops b' s' heq
   simp only [Code.seq.injEq] at heq
   obtain ⟨rfl,rfl⟩:=heq
   split at he
   ·rename_i u hu
    exact J9 ok hcode hloop hu he m ht hd nx0
   ·exact step he
  ·rename_i heq
   simp only [Code.seq.injEq] at heq
   obtain ⟨rfl,rfl⟩:=heq
   exact step he
  ·simp at he
 | _=>intro s g w a he; simp [jW] at he
theorem IK (ok:np E) (hcode:cL E.P code) (hloop:oZ E.P E.loop) {f:Nat} {args:List AV} {h:Hp} {res:aW} (he:(zQ E code f args h).get=some res):cy E.P f args h res∧∃ fn,E.P.funcs[f]?=some fn∧fn.body.isSome=true:=by
 unfold zQ at he
 split at he
 ·simp at he
 ·rename_i fn hf
  split at he
  ·simp at he
  ·rename_i c hb
   refine ⟨?_,fn,hf,by rw [hb]; rfl⟩
   intro g w bM m hr
   refine callsIn_of_wp_marks hf hb trivial ?_
   have htm:aL g h.aj w (args++List.replicate (fn.ntmps - args.length) .undef) (bM++Array.replicate (fn.ntmps - bM.size) undef).toList:=by
    rw [Array.toList_append,Array.toList_replicate]
    have hl:args.length=bM.size:=by rw [hr.length]; simp
    rw [hl]
    exact hr.append (aL.kr _)
   split at he
   ·exact E1 ok hcode hloop c he m htm rfl (Nx.refl m)
   simp only [get_bind,Option.bind_eq_some_iff] at he
   obtain ⟨out,h1,h2⟩:=he
   have spec:=ng ok hcode hloop f c _ _ h1 none g w ⟨bM++Array.replicate (fn.ntmps - bM.size) undef,[]⟩ (w.heap.size,[]) m htm ⟨[],rfl,fun d hd=>absurd hd (by simp),List.Pairwise.nil⟩ (Nat.le_refl _) (fun c hc=>by cases hc)
   refine wpIn_mono spec ?_
   intro e a1 w1 hp
   have good:∀ (s1:St) (g1:Gh),Nx g h w g1 s1.hp w1→aL g1 s1.hp.aj w1 s1.tmps a1.tmps.toList→Marks g1 (w.heap.size,[]) a1.defers→(finish E.P fn s1).get=some res→LeavesInM Fence.wide 0 E.P fn a1.tmps (qa g h w res) a1.defers .returning w1:=by
    intro s1 g1 nx hr1 mk1 hfin
    unfold finish at hfin
    split at hfin
    ·rename_i l hl
     simp only [al,Option.some.injEq] at hfin
     subst hfin
     refine rK m (by simp) g1 s1.hp s1.tmps _ nx hr1 mk1 ?_
     intro g2 w2 nx2 lw
     obtain ⟨v,e1,e2⟩:=kR (fn:=fn) nx2.mr (hr1.b7 lw) hl
     exact ⟨v,e1,g2,v,rfl,nx2,e2⟩
    ·simp at hfin
   cases out with
   | norm s1 =>
    obtain ⟨rfl,g1,nx,hr1,mk1⟩:=hp
    exact good s1 g1 nx hr1 mk1 h2
   | ret s1 =>
    obtain ⟨rfl,g1,nx,hr1,mk1⟩:=hp
    exact good s1 g1 nx hr1 mk1 h2
   | exit id s1=>simp at h2
   | panic v h' =>
    simp only [al,Option.some.injEq] at h2
    subst h2
    obtain ⟨x,g1,rfl,nx,hx,mk1⟩:=hp
    refine rK (u := .panicking (gI x)) m (by simp) g1 h' (a1.tmps.toList.map fun _=>.any) _ nx ?_ mk1 ?_
    ·have:=aL.map (g:=g1) (tk:=h'.aj) (w:=w1) a1.tmps.toList (fun _=>AV.any) id (fun x _=>.any x)
     simpa using this
    ·intro g2 w2 nx2 lw
     exact ⟨g2,x,rfl,nx2,hx.b7 lw⟩
structure cr (B:aT):Prop where
 nU:∀ fn b F s out,B.nU fn b=some F→(F s).get=some out→aD B.P b s out
 C1:∀ f F args h res,B.C1 f=some F→(F args h).get=some res→cy B.P f args h res∧∃ fn,B.P.funcs[f]?=some fn∧fn.body.isSome=true
 named : ∀ (f : Nat) (fn : Func), B.P.funcs[f]? = some fn → fn.body.isSome = true → (fn.name == "runtime.NumGoroutine") = false
 pf:∀ f as1 v,B.pf f=true→(B.G f as1).get=some v→dJ B.P f as1 v∧∃ fn,B.P.funcs[f]?=some fn∧fn.body.isSome=true
theorem tF {B:aT} (hB:cr B):∀ n:Nat,
  (∀ f args h res,(KC B n f args h).get=some res→cy B.P f args h res∧∃ fn,B.P.funcs[f]?=some fn∧fn.body.isSome=true)∧cL B.P (yK B n)∧oZ B.P (yK B n)
 | 0=>⟨fun f args h res he=>by simp [KC] at he,fun fn c s out he=>by simp [yK] at he,fun fn c s out he=>by simp [yK] at he⟩
 | n+1=>by
  obtain ⟨i1,i2,i3⟩:=tF hB n
  have ok:np { B with call:=KC B n,loop:=yK B n }:=⟨hB.nU,hB.named,hB.pf,i1⟩
  refine ⟨fun f args h res he => ?_,fun fn c s out he => ?_,fun fn c s out he => ?_⟩
  ·rw [KC] at he
   split at he
   ·rename_i F hF
    exact hB.C1 f F args h res hF he
   ·exact IK ok i2 i3 he
  ·rw [yK] at he
   exact ng ok i2 i3 fn c s out he
  ·rw [yK] at he
   exact xy ok i3 (fun s out=>ng ok i2 i3 fn c s out) he
theorem cU {B:aT} (hB:cr B) {n f:Nat} {args:List AV} {v:AV} (he:(fZ B n f args).get=some v):dJ B.P f args v∧∃ fn,B.P.funcs[f]?=some fn∧fn.body.isSome=true:=by
 unfold fZ at he
 simp only [get_bind,Option.bind_eq_some_iff] at he
 obtain ⟨r,h1,h2⟩:=he
 obtain ⟨hspec,hfn⟩:=(tF hB n).1 _ _ _ _ h1
 refine ⟨?_,hfn⟩
 intro w bM hglob hr
 have m0:MR (kD w) qC w:=by
  refine ⟨Nat.le_refl _,fun _ _ x=>x,rfl,fun _ _ _ x _=>by simp [kD] at x,fun _ _ _ x=>by simp [kD] at x,rfl,fun _ x=>by simp [kD] at x,fun _ _ _ _ x=>by simp [kD] at x,fun _ _ _ _ _ _ _ x=>by simp [kD] at x,rfl,fun _ _ _ x=>by simp [kD] at x,fun _ _ _ x=>by simp [kD] at x,fun _ x=>by simp [kD] at x,hglob⟩
 refine (hspec (kD w) w bM m0 hr).mono ?_
 intro e w' hp
 split at h2
 ·rename_i v0 h'
  split at h2
  ·rename_i hc
   simp only [Bool.and_eq_true] at hc
   simp only [al,Option.some.injEq] at h2
   subst h2
   obtain ⟨g',x,rfl,nx,hx⟩:=hp
   exact ⟨x,rfl,nx.le.below,Kf nx.mr.gg nx.le.base hc.1 hc.2 hx⟩
  ·simp at h2
 ·simp at h2
end
structure D (α:Type) where
 arg:α→AV
 res:α→AV
 dec:AV→Option α
 ok:∀ a x,dec a=some x→∀ (g:Gh) (tk:List Nat) (w:World) (c:Value),bg g tk w a c→bg g tk w (arg x) c
 Db:∀ a x,dec a=some x→bK a=true→∀ (g:Gh) (w:World) (c:Value),bg g [] w a c→bg g [] w (res x) c
noncomputable section
variable {g:Gh} {tk:List Nat} {w:World}
theorem AB {k:IntKind} {a:AV} {n:Int} (h:(if kindOk k a then uZ a else none)=some n) {c:Value} (hr:bg g tk w a c):bg g tk w (.int k n) c:=by
 simp only [Option.ite_none_right_eq_some] at h
 rw [jb h.1 h.2 hr]
 exact .int _ _
def dI (k:IntKind):D Int where
 arg := .int k
 res := .int k
 dec a:=if kindOk k a then uZ a else none
 ok _ _ h _ _ _ _ hr:=AB h hr
 Db _ _ h _ _ _ _ hr:=AB h hr
def dB:D Bool where
 arg := .bool
 res := .bool
 dec:=vY
 ok _ _ h _ _ _ _ hr:=by rw [qO h hr]; exact .bool _
 Db _ _ h _ _ _ _ hr:=by rw [qO h hr]; exact .bool _
theorem D2 {a:AV} {x:BitVec 64} (h:Tj a=some x):a=.u64 x:=by cases a <;> simp [Tj] at h; rw [h]
theorem HV {a:AV} {x:List UInt8} (h:RI a=some x):a=.str x:=by cases a <;> simp [RI] at h; rw [h]
def dU:D (BitVec 64) where
 arg := .u64
 res := .u64
 dec:=Tj
 ok _ _ h _ _ _ _ hr:=by rw [D2 h] at hr; exact hr
 Db _ _ h _ _ _ _ hr:=by rw [D2 h] at hr; exact hr
def dS:D (List UInt8) where
 arg := .str
 res := .str
 dec:=RI
 ok _ _ h _ _ _ _ hr:=by rw [HV h] at hr; exact hr
 Db _ _ h _ _ _ _ hr:=by rw [HV h] at hr; exact hr
theorem FT {v:AV} {m:AV} (hm:m=.agg (bS m)) (hv:v=.agg (bS v)) (h:∀ cs,aH g tk w (bS v) cs→aH g tk w (bS m) cs) {c:Value} (hr:bg g tk w v c):bg g tk w m c:=by
 rw [hv] at hr
 obtain ⟨cs,rfl,hc⟩:=hr.gx
 rw [hm]
 exact .agg (h _ hc)
theorem yg {v:AV} {m:Pos} (h:toPos v=some m):v=.agg (bS v):=by
 unfold toPos at h
 split at h
 ·rfl
 ·cases h
def jl:D Pos where
 arg:=Pos.av
 res:=Pos.av
 dec:=toPos
 ok _ _ h _ _ _ _ hr:=FT rfl (yg h) (fun _ hc=>(o8 h hc).1) hr
 Db _ _ h _ _ _ _ hr:=FT rfl (yg h) (fun _ hc=>(o8 h hc).1) hr
theorem D8 {e:ET} {a:AV} {xs:List e.T} (h:eV e a=some xs) {c:Value} (hr:bg g tk w a c):bg g tk w (.list e xs .arg) c:=by
 unfold eV at h
 split at h
 ·rename_i e' l t
  split at h
  ·rename_i he
   subst he
   simp only [Option.some.injEq] at h
   subst h
   cases hr with
   | list hn h1 h2 h3 h4 =>
    exact .list hn h1 (h2.imp id fun ⟨c,o,e1,e2,_⟩=>⟨c,o,e1,e2,fun f=>absurd rfl f⟩) (fun k e=>by cases e) h4
  ·cases h
 ·rename_i fr l
  cases hr with
  | vlist hn h1 h2 h4 =>
   have hl:=jX h
   exact .list (by omega) (jY h h1) (h2.imp id fun ⟨c,o,e1,e2,_⟩=>⟨c,o,e1,e2,fun f=>absurd rfl f⟩) (fun k e=>by cases e) (by omega)
 ·simp only [Option.some.injEq] at h
  subst h
  cases hr
  exact .list rfl .nil (.inl rfl) (fun k e=>by cases e) (Nat.le_refl _)
 ·cases h
theorem HY {e:ET} {a:AV} {xs:List e.T} (h:eV e a=some xs) (hf:bK a=true) {c:Value} (hr:bg g tk w a c):bg g tk w (.list e xs .fresh) c:=by
 unfold eV at h
 split at h
 ·rename_i e' l t
  split at h
  ·rename_i he
   subst he
   simp only [Option.some.injEq] at h
   subst h
   cases hr with
   | list hn h1 h2 h3 h4 =>
    refine .list hn h1 (h2.imp id fun ⟨c,o,e1,e2,e3⟩=>⟨c,o,e1,e2,fun _=>e3 ?_⟩) (fun k e=>by cases e) h4
    rintro rfl
    simp [bK] at hf
  ·cases h
 ·rename_i fr l
  simp only [bK,Bool.and_eq_true] at hf
  cases hr with
  | vlist hn h1 h2 h4 =>
   have hl:=jX h
   exact .list (by omega) (jY h h1) (h2.imp id fun ⟨c,o,e1,e2,e3⟩=>⟨c,o,e1,e2,fun _=>e3 hf.1⟩) (fun k e=>by cases e) (by omega)
 ·simp only [Option.some.injEq] at h
  subst h
  cases hr
  exact .list rfl .nil (.inl rfl) (fun k e=>by cases e) (Nat.le_refl _)
 ·cases h
def dL (e:ET):D (List e.T) where
 arg l := .list e l .arg
 res l := .list e l .fresh
 dec:=eV e
 ok _ _ h _ _ _ _ hr:=D8 h hr
 Db _ _ h hf _ _ _ hr:=HY h hf hr
def Gf (k:IntKind) (n:Nat):AV→Option (List Int)
 | .agg [.ints k' n' l]=>if k=k'∧n=n' then some l else none
 | _=>none
theorem xx {k:IntKind} {n:Nat} {a:AV} {l:List Int} (h:Gf k n a=some l):a=.agg [.ints k n l]:=by
 unfold Gf at h
 split at h
 ·simp only [Option.ite_none_right_eq_some,Option.some.injEq] at h
  obtain ⟨⟨rfl,rfl⟩,rfl⟩:=h
  rfl
 ·cases h
def Rm (k:IntKind) (n:Nat):D (List Int) where
 arg l := .agg [.ints k n l]
 res l := .agg [.ints k n l]
 dec:=Gf k n
 ok _ _ h _ _ _ _ hr:=by rw [xx h] at hr; exact hr
 Db _ _ h _ _ _ _ hr:=by rw [xx h] at hr; exact hr
def O1 {α β:Type} (d:AV→Option α) (e:AV→Option β):AV→Option (α×β)
 | .tuple [a,b]=>(d a).bind fun x=>(e b).map fun y=>(x,y)
 | _=>none
def d2 {α β:Type} (d:D α) (e:D β):D (α×β) where
 arg p := .tuple [d.arg p.1,e.arg p.2]
 res p := .tuple [d.res p.1,e.res p.2]
 dec:=O1 d.dec e.dec
 ok a x h g tk w c hr:=by
  unfold O1 at h
  split at h
  ·simp only [Option.bind_eq_some_iff,Option.map_eq_some_iff] at h
   obtain ⟨x,h1,y,h2,rfl⟩:=h
   cases hr with
   | tuple hl =>
    rename_i a b vs
    obtain ⟨l⟩:=vs
    cases hl with
    | cons q r=>cases r with | cons q2 r2=>cases r2; exact .tuple (.cons (d.ok _ _ h1 _ _ _ _ q) (.cons (e.ok _ _ h2 _ _ _ _ q2) .nil))
  ·cases h
 Db a x h hf g w c hr:=by
  unfold O1 at h
  split at h
  ·simp only [Option.bind_eq_some_iff,Option.map_eq_some_iff] at h
   obtain ⟨x,h1,y,h2,rfl⟩:=h
   simp only [bK,cW,Bool.and_eq_true] at hf
   cases hr with
   | tuple hl =>
    rename_i a b vs
    obtain ⟨l⟩:=vs
    cases hl with
    | cons q r=>cases r with | cons q2 r2=>cases r2; exact .tuple (.cons (d.Db _ _ h1 hf.1 _ _ _ q) (.cons (e.Db _ _ h2 hf.2.1 _ _ _ q2) .nil))
  ·cases h
end
def Sound (P:Program) (f:Nat) (G:List AV→Tr AV):Prop :=
 ∀ as1 v,(G as1).get=some v→dJ P f as1 v∧∃ fn,P.funcs[f]?=some fn∧fn.body.isSome=true
def bq (P:Program) (b:Code) (F:St→Tr Out):Prop := ∀ s out,(F s).get=some out→aD P b s out
def Kl:Code→Option Nat
 | .region id _ _=>some id
 | .seq a b=>match Kl a with
  | some i=>some i
  | none=>Kl b
 | .cond _ a b=>match Kl a with
  | some i=>some i
  | none=>Kl b
 | .block _ b=>Kl b
 | .loop b=>Kl b
 | .scope b=>Kl b
 | _=>none
def Ow (f:Nat):List (Nat×(List AV→Tr AV))→Option (List AV→Tr AV)
 | []=>none
 | (g,G)::t=>if f=g then some G else Ow f t
def Ui (fn:Nat) (r:Option Nat):List (Nat×Nat×(Code→St→Tr Out))→Option (Code→St→Tr Out)
 | []=>none
 | (f,i,F)::t=>if fn=f∧r=some i then some F else Ui fn r t
def SQ (f:Nat):List (Nat×(List AV→Hp→Tr aW))→Option (List AV→Hp→Tr aW)
 | []=>none
 | (g,G)::t=>if f=g then some G else SQ f t
def aA (P:Program) (kill:Nat→Nat→List Nat) (tab:List (Nat×(List AV→Tr AV))) (ls:List (Nat×Nat×(Code→St→Tr Out))) (fs:List (Nat×(List AV→Hp→Tr aW))):aT where
 P:=P
 pf f:=(Ow f tab).isSome
 G f as1:=match Ow f tab with
  | some G=>G as1
  | none=>.fail
 kill:=kill
 nU fn b:=(Ui fn (Kl b) ls).map fun F=>F b
 C1 f:=SQ f fs
def ct (P:Program) (f:Nat) (F:List AV→Hp→Tr aW):Prop := ∀ args h res,(F args h).get=some res→cy P f args h res∧∃ fn,P.funcs[f]?=some fn∧fn.body.isSome=true
def px (P:Program):List (Nat×(List AV→Hp→Tr aW))→Prop
 | []=>True
 | (f,F)::t=>ct P f F∧px P t
def re (P:Program):List (Nat×(List AV→Tr AV))→Prop
 | []=>True
 | (f,G)::t=>Sound P f G∧re P t
structure KS (P:Program):Prop where
 named : ∀ (f : Nat) (fn : Func), P.funcs[f]? = some fn → fn.body.isSome = true → (fn.name == "runtime.NumGoroutine") = false
theorem tW {P:Program} {f:Nat} {G:List AV→Tr AV}:∀ {tab:List (Nat×(List AV→Tr AV))},re P tab→Ow f tab=some G→Sound P f G
 | [],_,h=>by simp [Ow] at h
 | (g,G')::t,hs,h=>by
  simp only [Ow] at h
  split at h
  ·rename_i e
   simp only [Option.some.injEq] at h
   subst e; subst h
   exact hs.1
  ·exact tW hs.2 h
def shut {α:Type} (a:α):α:=Classical.choose (⟨a,rfl⟩:∃ x,x=a)
theorem qB {α:Type} (a:α):shut a=a:=Classical.choose_spec (⟨a,rfl⟩:∃ x,x=a)
def PS (P:Program) (f:Nat) (as1:List AV) (v:AV):Prop:=dJ P f as1 v∧∃ fn,P.funcs[f]?=some fn∧fn.body.isSome=true
open Classical in
def HA (P:Program) (f:Nat) (as1:List AV) (v:AV):Bool:=shut (decide (PS P f as1 v))
theorem w7 {P:Program} {f:Nat} {as1:List AV} {v:AV}:HA P f as1 v=true ↔ PS P f as1 v:=by
 unfold HA
 rw [qB]
 simp
def sure (P:Program) (f:Nat) (as1:List AV) (v:AV):Tr AV := .guard (HA P f as1 v) (.ret v)
theorem B6 {P:Program} {f:Nat} {as1:List AV} {v u:AV} (h:(sure P f as1 v).get=some u):PS P f as1 u:=by
 simp only [sure,get_guard,al,Option.some.injEq] at h
 obtain ⟨h1,rfl⟩:=h
 exact w7.1 h1
def g0 (F:Tr AV):List AV→Tr AV
 | []=>F
 | _=>.fail
def g1 {α:Type} (a:D α) (F:α→Tr AV):List AV→Tr AV
 | [x]=>(Tr.opt (a.dec x)).bind F
 | _=>.fail
def g2 {α β:Type} (a:D α) (b:D β) (F:α→β→Tr AV):List AV→Tr AV
 | [x,y]=>(Tr.opt (a.dec x)).bind fun x=>(Tr.opt (b.dec y)).bind fun y=>F x y
 | _=>.fail
def g3 {α β γ:Type} (a:D α) (b:D β) (c:D γ) (F:α→β→γ→Tr AV):List AV→Tr AV
 | [x,y,z]=>(Tr.opt (a.dec x)).bind fun x=>(Tr.opt (b.dec y)).bind fun y=>(Tr.opt (c.dec z)).bind fun z=>F x y z
 | _=>.fail
def g4 {α β γ δ:Type} (a:D α) (b:D β) (c:D γ) (d:D δ) (F:α→β→γ→δ→Tr AV):List AV→Tr AV
 | [x,y,z,u]=>(Tr.opt (a.dec x)).bind fun x=>(Tr.opt (b.dec y)).bind fun y=>(Tr.opt (c.dec z)).bind fun z=>(Tr.opt (d.dec u)).bind fun u=>F x y z u
 | _=>.fail
def Ni (P:Program) (f:Nat) (as1:List AV) (t:Tr AV):Prop := ∀ v,t.get=some v→dJ P f as1 v∧∃ fn,P.funcs[f]?=some fn∧fn.body.isSome=true
theorem Kj {P:Program} {f:Nat} {as1:List AV} {v:AV}:Ni P f as1 (sure P f as1 v):=fun _ h=>B6 h
theorem dJ.args {P:Program} {f:Nat} {as1 bs:List AV} {v:AV} (h:dJ P f bs v) (hc:∀ w cs,aL (kD w) [] w as1 cs→aL (kD w) [] w bs cs):dJ P f as1 v :=
 fun w bM hg hr=>h w bM hg (hc w _ hr)
theorem HJ {P:Program} {f:Nat} {F:Tr AV} (h:Ni P f [] F):Sound P f (g0 F):=by
 intro as1 v he
 cases as1 with
 | nil=>exact h v he
 | cons=>simp [g0] at he
theorem bV {P:Program} {f:Nat} {α:Type} {a:D α} {F:α→Tr AV} (h:∀ x,Ni P f [a.arg x] (F x)):Sound P f (g1 a F):=by
 intro as1 v he
 unfold g1 at he
 split at he
 ·simp only [get_bind,bY,Option.bind_eq_some_iff] at he
  obtain ⟨x,h1,h2⟩:=he
  obtain ⟨h3,h4⟩:=h x v h2
  refine ⟨h3.args fun w cs hr => ?_,h4⟩
  cases hr with
  | cons q r=>exact .cons (a.ok _ _ h1 _ _ _ _ q) r
 ·simp at he
theorem dw {P:Program} {f:Nat} {α β:Type} {a:D α} {b:D β} {F:α→β→Tr AV} (h:∀ x y,Ni P f [a.arg x,b.arg y] (F x y)):Sound P f (g2 a b F):=by
 intro as1 v he
 unfold g2 at he
 split at he
 ·simp only [get_bind,bY,Option.bind_eq_some_iff] at he
  obtain ⟨x,h1,y,h2,he⟩:=he
  obtain ⟨h3,h4⟩:=h x y v he
  refine ⟨h3.args fun w cs hr => ?_,h4⟩
  cases hr with
  | cons q r=>cases r with | cons q2 r=>exact .cons (a.ok _ _ h1 _ _ _ _ q) (.cons (b.ok _ _ h2 _ _ _ _ q2) r)
 ·simp at he
theorem zV {P:Program} {f:Nat} {α β γ:Type} {a:D α} {b:D β} {c:D γ} {F:α→β→γ→Tr AV} (h:∀ x y z,Ni P f [a.arg x,b.arg y,c.arg z] (F x y z)):Sound P f (g3 a b c F):=by
 intro as1 v he
 unfold g3 at he
 split at he
 ·simp only [get_bind,bY,Option.bind_eq_some_iff] at he
  obtain ⟨x,h1,y,h2,z,h3,he⟩:=he
  obtain ⟨h4,h5⟩:=h x y z v he
  refine ⟨h4.args fun w cs hr => ?_,h5⟩
  cases hr with
  | cons q r=>cases r with | cons q2 r=>cases r with | cons q3 r=>exact .cons (a.ok _ _ h1 _ _ _ _ q) (.cons (b.ok _ _ h2 _ _ _ _ q2) (.cons (c.ok _ _ h3 _ _ _ _ q3) r))
 ·simp at he
theorem Pe {P:Program} {f:Nat} {α β γ δ:Type} {a:D α} {b:D β} {c:D γ} {d:D δ} {F:α→β→γ→δ→Tr AV} (h:∀ x y z u,Ni P f [a.arg x,b.arg y,c.arg z,d.arg u] (F x y z u)):Sound P f (g4 a b c d F):=by
 intro as1 v he
 unfold g4 at he
 split at he
 ·simp only [get_bind,bY,Option.bind_eq_some_iff] at he
  obtain ⟨x,h1,y,h2,z,h3,u,h4,he⟩:=he
  obtain ⟨h5,h6⟩:=h x y z u v he
  refine ⟨h5.args fun w cs hr => ?_,h6⟩
  cases hr with
  | cons q r=>cases r with | cons q2 r=>cases r with | cons q3 r=>cases r with | cons q4 r=>exact .cons (a.ok _ _ h1 _ _ _ _ q) (.cons (b.ok _ _ h2 _ _ _ _ q2) (.cons (c.ok _ _ h3 _ _ _ _ q3) (.cons (d.ok _ _ h4 _ _ _ _ q4) r)))
 ·simp at he
mutual
theorem lq:∀ v:AV,bK (strip false v)=bK v
 | .any | .undef | .bool _ | .aO _ | .int .. | .bu .. | .u64 _ | .str _ | .ints .. | .ptr .. | .ptri .. | .nilptr | .slf _ | .itr .. | .vsl .. | .nilsl | .yield _ | .nilfunc | .niliface | .ptrf _=>by simp [strip,bK]
 | .list e l t=>by cases t <;> simp [strip,bK,Tk.res]
 | .agg l=>by simp only [strip,bK]; exact dy l
 | .tuple l=>by simp only [strip,bK]; exact dy l
 | .vlist _ l=>by simp only [strip,bK]; rw [dy l]; simp
 | .vany t l=>by cases t <;> simp only [strip,bK] <;> rw [dy l] <;> simp [Tk.res,Tk.made]
 | .iface _ v=>by simp only [strip,bK]; exact lq v
 | .func _ a b=>by simp only [strip,bK]; rw [dy a,dy b]
theorem dy:∀ l:List AV,cW (stripL false l)=cW l
 | []=>rfl
 | v::vs=>by simp only [stripL,cW]; rw [lq v,dy vs]
end
theorem wC {B:aT} {n f:Nat} {as1:List AV} {v:AV} (h:(fZ B n f as1).get=some v):bK v=true:=by
 unfold fZ at h
 simp only [get_bind,Option.bind_eq_some_iff] at h
 obtain ⟨r,_,h2⟩:=h
 split at h2
 ·split at h2
  ·rename_i hc
   simp only [al,Option.some.injEq] at h2
   subst h2
   simp only [Bool.and_eq_true] at hc
   rw [lq]
   exact hc.2
  ·simp at h2
 ·simp at h2
theorem LW {B:aT} (hB:cr B) {n f:Nat} {as1:List AV} {v:AV} (h:(fZ B n f as1).get=some v) {α:Type} (d:D α) {x:α} (hd:d.dec v=some x):PS B.P f as1 (d.res x):=by
 obtain ⟨h3,h4⟩:=cU hB h
 refine ⟨fun w bM hg hr=>(h3 w bM hg hr).mono ?_,h4⟩
 rintro e w' ⟨y,rfl,hb,hx⟩
 exact ⟨y,rfl,hb,d.Db _ _ hd (wC h) _ _ _ hx⟩
def pA (P:Program):List (Nat×Nat×(Code→St→Tr Out))→Prop
 | []=>True
 | (_,_,F)::t=>(∀ b,bq P b (F b))∧pA P t
theorem tG {P:Program} {fn:Nat} {r:Option Nat} {F:Code→St→Tr Out}:∀ {ls:List (Nat×Nat×(Code→St→Tr Out))},pA P ls→Ui fn r ls=some F→∀ b,bq P b (F b)
 | [],_,h=>by simp [Ui] at h
 | (f,i,F')::t,hs,h=>by
  simp only [Ui] at h
  split at h
  ·simp only [Option.some.injEq] at h
   subst h
   exact hs.1
  ·exact tG hs.2 h
theorem tR {P:Program} {f:Nat} {G:List AV→Hp→Tr aW}:∀ {tab:List (Nat×(List AV→Hp→Tr aW))},px P tab→SQ f tab=some G→ct P f G
 | [],_,h=>by simp [SQ] at h
 | (g,G')::t,hs,h=>by
  simp only [SQ] at h
  split at h
  ·rename_i e
   simp only [Option.some.injEq] at h
   subst e; subst h
   exact hs.1
  ·exact tR hs.2 h
theorem ar {P:Program} (hn:KS P) {kill:Nat→Nat→List Nat} {tab:List (Nat×(List AV→Tr AV))} {ls:List (Nat×Nat×(Code→St→Tr Out))} {fs:List (Nat×(List AV→Hp→Tr aW))} (ht:re P tab) (hl:pA P ls) (hf:px P fs):cr (aA P kill tab ls fs) where
 named:=hn.named
 C1 f F args h res h1 h2:=tR hf h1 args h res h2
 nU fn b F s out h1 h2:=by
  simp only [aA,Option.map_eq_some_iff] at h1
  obtain ⟨F',h3,rfl⟩:=h1
  exact tG hl h3 b s out h2
 pf f as1 v h1 h2:=by
  simp only [aA] at h1 h2
  cases hk:Ow f tab with
  | none=>rw [hk] at h1; cases h1
  | some G =>
   rw [hk] at h2
   exact tW ht hk as1 v h2
def rE (B:aT) (m:Nat):Env:={ B with call:=KC B m,loop:=yK B m }
def iR (a b:AV):Prop := ∀ (g:Gh) (tk:List Nat) (w:World) (v:Value),bg g tk w a v→bg g tk w b v
def yB (a b:List AV):Prop := ∀ (g:Gh) (tk:List Nat) (w:World) (v:List Value),aH g tk w a v→aH g tk w b v
theorem iR.refl (a:AV):iR a a:=fun _ _ _ _ h=>h
theorem iR.any (a:AV):iR a .any:=fun _ _ _ _ _=>.any _
theorem iR.bu (k:IntKind) (n:Int):iR (.bu k n) (.int k n):=fun _ _ _ _ h=>by cases h; exact .int _ _
theorem iR.aO (b:Bool):iR (.aO b) (.bool b):=fun _ _ _ _ h=>by cases h; exact .bool _
theorem iR.agg {l m:List AV} (h:yB l m):iR (.agg l) (.agg m):=fun _ _ _ _ hr=>by
 obtain ⟨cs,rfl,hc⟩:=hr.gx
 exact .agg (h _ _ _ _ hc)
theorem iR.trans {a b c:AV} (h:iR a b) (k:iR b c):iR a c:=fun g tk w v hr=>k g tk w v (h g tk w v hr)
theorem yB.refl (a:List AV):yB a a:=fun _ _ _ _ h=>h
theorem yB.cons {a b:AV} {l m:List AV} (ha:aP a=true) (hb:aP b=true) (h:iR a b) (hl:yB l m):yB (a::l) (b::m):=fun g tk w v hr=>by
 obtain ⟨c,r,rfl,q,h2⟩:=hr.inv_one ha
 exact .one hb (h g tk w c q) (hl g tk w r h2)
theorem yB.ints {k:IntKind} {n:Nat} {x:List Int} {l m:List AV} (hl:yB l m):yB (.ints k n x::l) (.ints k n x::m):=fun g tk w v hr=>by
 obtain ⟨h1,r,rfl,h2⟩:=hr.dn
 exact .ints h1 rfl (hl g tk w r h2)
def Jk (a b:List AV):Prop:=yB a b∧(kx a=none→b=a)
theorem Jk.refl (a:List AV):Jk a a:=⟨yB.refl a,fun _=>rfl⟩
inductive fK {α β:Type} (R:α→β→Prop):List α→List β→Prop
 | nil:fK R [] []
 | cons {a:α} {b:β} {l:List α} {m:List β} (h:R a b) (hl:fK R l m):fK R (a::l) (b::m)
structure pL (s t:St):Prop where
 tmps:fK iR s.tmps t.tmps
 heap:fK Jk s.hp.heap t.hp.heap
 low:∀ i,i < s.hp.lo→s.hp.heap[i]?=t.hp.heap[i]?
 aj:t.hp.aj=s.hp.aj
 loops:t.hp.loops=s.hp.loops
 lo:t.hp.lo=s.hp.lo
 qj:t.hp.qj=s.hp.qj
 oO:t.hp.oO=s.hp.oO
theorem aL.wk {g:Gh} {tk:List Nat} {w:World} {l m:List AV} (h:fK iR l m) {vs:List Value} (hr:aL g tk w l vs):aL g tk w m vs:=by
 induction h generalizing vs with
 | nil=>exact hr
 | cons h1 h2 ih=>cases hr with | cons q r=>exact .cons (h1 _ _ _ _ q) (ih r)
theorem yi {α β:Type} {R:α→β→Prop} {l:List α} {m:List β} (h:fK R l m):l.length=m.length∧∀ (i:Nat) y,m[i]?=some y→∃ x,l[i]?=some x∧R x y:=by
 induction h with
 | nil=>exact ⟨rfl,fun i y hy=>by simp at hy⟩
 | cons h1 h2 ih =>
  refine ⟨by simp [ih.1],fun i y hy => ?_⟩
  cases i with
  | zero=>simp at hy; subst hy; exact ⟨_,rfl,h1⟩
  | succ i=>simp at hy; simpa using ih.2 i y hy
theorem MR.wk {g:Gh} {s t:St} {w:World} (h:pL s t) (m:MR g s.hp w):MR g t.hp w:=by
 obtain ⟨h1,h2⟩:=yi h.heap
 refine ⟨m.base,m.gg,m.dN.trans h1,fun i c l k1 k2 => ?_,m.sK,by rw [h.aj]; exact m.eU,by rw [h.aj]; exact m.jK,by rw [h.aj]; exact m.tok,m.sG,by rw [h.loops]; exact m.gO,by rw [h.loops,h.aj]; exact m.loop,m.sJ,m.defs,m.iK⟩
 obtain ⟨x,k3,k4⟩:=h2 i l k2
 obtain ⟨a,f,o,d,e⟩:=m.var i c x k1 k3
 rw [h.aj]
 refine ⟨a,f,o,d,?_⟩
 rcases e with ⟨cs,ty,rfl,r⟩ | ⟨u,n,bs,rfl,r⟩
 ·exact .of (k4.1 _ _ _ _ r)
 ·rw [k4.2 rfl]
  exact .inr ⟨u,n,bs,rfl,r⟩
theorem Fl.wk {s t:St} (h:pL s t) {h':Hp} (hf:Fl t.hp h'):Fl s.hp h' :=
 ⟨hf.lo.trans h.lo,hf.qj.trans h.qj,hf.oO.trans h.oO,fun i x hi hx=>hf.heap i x (by rw [h.lo]; exact hi) (by rw [← h.low i hi]; exact hx),fun i x hi hx=>hf.aj i x (by rw [h.qj]; exact hi) (by rw [h.aj]; exact hx),fun i x hi hx=>hf.loops i x (by rw [h.oO]; exact hi) (by rw [h.loops]; exact hx)⟩
theorem aD.wk {P:Program} {b:Code} {s t:St} {out:Out} (h:pL s t) (hs:aD P b t out):aD P b s out:=by
 intro ro g w a W0 m ht mk hW hro
 have hx:=hs ro g w a W0 (m.wk h) (by rw [h.aj]; exact ht.wk h.tmps) mk hW hro
 refine gM hx ?_
 intro e a' w' hp
 have nx:∀ {g' h'},Nx g t.hp w g' h' w'→Nx g s.hp w g' h' w':=fun n=>⟨n.mr,by have:=n.le; rw [h.aj] at this; exact this,n.fl.wk h⟩
 cases out with
 | norm s=>obtain ⟨e1,g1,n1,r1,m1⟩:=hp; exact ⟨e1,g1,nx n1,r1,m1⟩
 | ret s=>obtain ⟨e1,g1,n1,r1,m1⟩:=hp; exact ⟨e1,g1,nx n1,r1,m1⟩
 | exit id s=>obtain ⟨e1,g1,n1,r1,m1⟩:=hp; exact ⟨e1,g1,nx n1,r1,m1⟩
 | panic v h=>obtain ⟨x,g1,e1,n1,r1,m1⟩:=hp; exact ⟨x,g1,e1,nx n1,r1,m1⟩
def Xj:Out→Out→Prop
 | .norm s,.norm t=>pL s t
 | .ret s,.ret t=>pL s t
 | .exit i s,.exit j t=>i=j∧pL s t
 | .panic v h,.panic v' h'=>pL ⟨[v],h⟩ ⟨[v'],h'⟩
 | _,_=>False
theorem Nx.wk {g:Gh} {h:Hp} {w:World} {g':Gh} {s t:St} {w':World} (hw:pL s t) (n:Nx g h w g' s.hp w'):Nx g h w g' t.hp w' :=
 ⟨n.mr.wk hw,by have:=n.le; rw [hw.aj]; exact this,
  ⟨hw.lo.trans n.fl.lo,hw.qj.trans n.fl.qj,hw.oO.trans n.fl.oO,fun i x hi hx=>by rw [← hw.low i (by rw [n.fl.lo]; exact hi)]; exact n.fl.heap i x hi hx,fun i x hi hx=>by rw [hw.aj]; exact n.fl.aj i x hi hx,fun i x hi hx=>by rw [hw.loops]; exact n.fl.loops i x hi hx⟩⟩
theorem lR.wk {g:Gh} {h:Hp} {w:World} {W0:DB} {o o':Out} {e:Exit} {a':Act} {w':World} (hw:Xj o o') (hp:lR g h w W0 o e a' w'):lR g h w W0 o' e a' w':=by
 cases o with
 | norm s =>
  cases o' with
  | norm t=>obtain ⟨e1,g1,n1,r1,m1⟩:=hp; exact ⟨e1,g1,n1.wk hw,by rw [hw.aj]; exact r1.wk hw.tmps,m1⟩
  | _=>exact hw.elim
 | ret s =>
  cases o' with
  | ret t=>obtain ⟨e1,g1,n1,r1,m1⟩:=hp; exact ⟨e1,g1,n1.wk hw,by rw [hw.aj]; exact r1.wk hw.tmps,m1⟩
  | _=>exact hw.elim
 | exit i s =>
  cases o' with
  | exit j t =>
   obtain ⟨rfl,hw⟩:=hw
   obtain ⟨e1,g1,n1,r1,m1⟩:=hp
   exact ⟨e1,g1,n1.wk hw,by rw [hw.aj]; exact r1.wk hw.tmps,m1⟩
  | _=>exact hw.elim
 | panic v h1 =>
  cases o' with
  | panic v' h1' =>
   obtain ⟨x,g1,e1,n1,r1,m1⟩:=hp
   refine ⟨x,g1,e1,Nx.wk (s:=⟨[v],h1⟩) (t:=⟨[v'],h1'⟩) hw n1,?_,m1⟩
   have:=hw.tmps
   cases this with
   | cons q _=>rw [show h1'.aj=h1.aj from hw.aj]; exact q _ _ _ _ r1
  | _=>exact hw.elim
theorem aD.out {P:Program} {b:Code} {s:St} {o o':Out} (hw:Xj o o') (hs:aD P b s o):aD P b s o' :=
 fun ro g w a W0 m ht mk hW hro=>gM (hs ro g w a W0 m ht mk hW hro) fun _ _ _ hp=>hp.wk hw
open Classical in
def jj (P:Program) (b:Code) (s:St) (out:Out):Bool:=shut (decide (aD P b s out))
theorem og {P:Program} {b:Code} {s:St} {out:Out}:jj P b s out=true ↔ aD P b s out:=by
 unfold jj
 rw [qB]
 simp
def gS (P:Program) (t:St→Out) (b:Code) (s:St):Tr Out := .guard (jj P b s (t s)) (.ret (t s))
theorem cf {P:Program} {t:St→Out}:∀ b,bq P b (gS P t b):=by
 intro b s out h
 simp only [gS,get_guard,al,Option.some.injEq] at h
 obtain ⟨h1,rfl⟩:=h
 exact og.1 h1
theorem ga {P:Program} {c:St→Bool} {F G:Code→St→Tr Out} (hF:∀ b,bq P b (F b)) (hG:∀ b,bq P b (G b)):∀ b,bq P b (fun s=>.br (c s) (F b s) (G b s)):=by
 intro b s out h
 rw [dC] at h
 cases hc:c s with
 | true=>rw [hc] at h; exact hF b s out h
 | false=>rw [hc] at h; exact hG b s out h
theorem aD.step {B:aT} (hB:cr B) {m fn:Nat} {b:Code} {s s1:St} {out:Out} (h1:(mY (rE B m) (yK B m) fn b s).get=some (.norm s1)) (h2:aD B.P b s1 out):aD B.P b s out:=by
 obtain ⟨i1,i2,i3⟩:=tF hB m
 have ok:np (rE B m):=⟨hB.nU,hB.named,hB.pf,i1⟩
 have hc:=ng ok i2 i3 fn b s (.norm s1) h1
 intro ro g w a W0 mr ht mk hW hro
 refine ep (wpIn_mono (hc ro g w a W0 mr ht mk hW hro) ?_)
 rintro e a1 w1 ⟨rfl,g1,nx,hr,mk1⟩
 have:=h2 ro g1 w1 a1 W0 nx.mr hr mk1 (Nat.le_trans hW nx.le.below.size) (fun c hc=>let ⟨l,hl⟩:=hro c hc; ⟨l,nx.le.loops _ _ hl⟩)
 exact gM this fun e a2 w2 hp2=>hp2.nx nx
theorem aD.stop {B:aT} (hB:cr B) {m fn:Nat} {b:Code} {s:St} {out:Out} (h1:(mY (rE B m) (yK B m) fn b s).get=some out) (hn:∀ s1,out≠.norm s1):aD B.P b s out:=by
 obtain ⟨i1,i2,i3⟩:=tF hB m
 have ok:np (rE B m):=⟨hB.nU,hB.named,hB.pf,i1⟩
 have hc:=ng ok i2 i3 fn b s out h1
 intro ro g w a W0 mr ht mk hW hro
 refine ep (wpIn_mono (hc ro g w a W0 mr ht mk hW hro) ?_)
 intro e a1 w1 hp
 cases out with
 | norm s1=>exact absurd rfl (hn s1)
 | ret s1=>obtain ⟨rfl,rest⟩:=hp; exact ⟨rfl,rest⟩
 | exit i s1=>obtain ⟨rfl,rest⟩:=hp; exact ⟨rfl,rest⟩
 | panic v h=>obtain ⟨x,g1,rfl,rest⟩:=hp; exact ⟨x,g1,rfl,rest⟩
def mR (i:Nat):Code→Option Code
 | .seq a b=>match mR i a with
  | some c=>some c
  | none=>mR i b
 | .cond _ a b=>match mR i a with
  | some c=>some c
  | none=>mR i b
 | .block _ b=>mR i b
 | .scope b=>mR i b
 | .rangeFunc _ _ a b=>match mR i a with
  | some c=>some c
  | none=>mR i b
 | .loop b=>if Kl b=some i then some b else mR i b
 | _=>none
def Qw (P:Program) (f:Nat):Code:=(((P.funcs[f]?).bind (·.body))).getD .skip
def bz (P:Program) (f i:Nat):Code:=(mR i (Qw P f)).getD .skip
def tu (fn id:Nat):List (Nat×List (Nat×List Nat))→List Nat
 | []=>[]
 | (f,t)::r=>if fn=f then (t.lookup id).getD [] else tu fn id r
theorem fK.same {α:Type} {R:α→α→Prop} (h:∀ a,R a a):∀ l,fK R l l
 | []=>.nil
 | a::l=>.cons (h a) (fK.same h l)
theorem fK.trans' {l m k:List AV} (h:fK iR l m) (h':fK iR m k):fK iR l k:=by
 induction h generalizing k with
 | nil=>cases h'; exact .nil
 | cons a b ih=>cases h' with | cons c d=>exact .cons (a.trans c) (ih d)
theorem r9:∀ (i:Nat) (ts:List Nat) (l:List AV),fK iR l (lA i l ts)
 | _,_,[]=>by rw [lA]; exact .nil
 | _,[],a::l=>by rw [lA]; exact fK.same iR.refl _
 | i,t::ts,a::l=>by
  rw [lA]
  cases Nat.beq i t with
  | true=>exact .cons (iR.any _) (r9 (i+1) ts l)
  | false=>exact .cons (iR.refl _) (r9 (i+1) (t::ts) l)
theorem vD (ts:List Nat) (l:List AV):fK iR l (ua l ts):=r9 0 ts l
theorem pL.kill (ts:List Nat) {l m:List AV} (h:Hp) (e:ua l ts=m):pL ⟨l,h⟩ ⟨m,h⟩ :=
 ⟨e ▸ vD ts l,fK.same Jk.refl _,fun _ _=>rfl,rfl,rfl,rfl,rfl,rfl⟩
def Got {α:Type} (d:D α) (T:Tr AV) (ok:Bool) (x:α):Prop:=ok=true→∃ v,T.get=some v∧d.dec v=some x
noncomputable section
variable {α:Type} {d:D α}
theorem go_ret {v:AV} {x:α} (h:d.dec v=some x):Got d (.ret v) true x:=fun _=>⟨v,rfl,h⟩
end
mutual
def gen:AV→AV
 | .bu k n=>.int k n
 | .aO b=>.bool b
 | .agg l=>.agg (y9 l)
 | v=>v
def y9:List AV→List AV
 | []=>[]
 | v::vs=>gen v::y9 vs
end
theorem wJ:∀ v:AV,aP (gen v)=aP v
 | .bu .. | .aO _ | .agg _ | .any | .undef | .bool _ | .int .. | .u64 _ | .str _ | .ints .. | .ptr .. | .ptri .. | .ptrf _ | .nilptr | .slf _ | .itr .. | .list .. | .vlist .. | .vany .. | .vsl .. | .nilsl | .func .. | .yield _ | .nilfunc | .iface .. | .niliface | .tuple _=>by simp [gen,aP]
mutual
theorem Hu:∀ v:AV,iR v (gen v)
 | .bu k n=>by simpa [gen] using iR.bu k n
 | .aO b=>by simpa [gen] using iR.aO b
 | .agg l=>by simpa [gen] using iR.agg (qS l)
 | .any | .undef | .bool _ | .int .. | .u64 _ | .str _ | .ints .. | .ptr .. | .ptri .. | .ptrf _ | .nilptr | .slf _ | .itr .. | .list .. | .vlist .. | .vany .. | .vsl .. | .nilsl | .func .. | .yield _ | .nilfunc | .iface .. | .niliface | .tuple _=>by simpa [gen] using iR.refl _
theorem qS:∀ l:List AV,yB l (y9 l)
 | []=>yB.refl _
 | v::vs=>by
  rw [y9]
  cases hc:aP v with
  | true=>exact yB.cons hc (by rw [wJ]; exact hc) (Hu v) (qS vs)
  | false =>
   intro g tk w c hr
   cases hr with
   | ints h1 h2 h3=>simp only [gen]; exact .ints h1 h2 (qS vs g tk w _ h3)
   | one h1 h2 h3=>rw [h1] at hc; cases hc
end
def Hv:List AV→List Nat→List AV
 | l,[]=>l
 | l,t::ts=>Hv (l.set t (gen (l.getD t .any))) ts
theorem Am (l:List AV) (t:Nat):fK iR l (l.set t (gen (l.getD t .any))):=by
 induction l generalizing t with
 | nil=>exact .nil
 | cons a l ih =>
  cases t with
  | zero=>exact .cons (by simpa using Hu a) (fK.same iR.refl l)
  | succ t=>exact .cons (iR.refl _) (by simpa using ih t)
theorem r8:∀ (ts:List Nat) (l:List AV),fK iR l (Hv l ts)
 | [],l=>fK.same iR.refl l
 | t::ts,l=>(Am l t).trans' (r8 ts _)
def OM:List (List AV)→List (List AV)
 | []=>[]
 | l::ls=>y9 l::OM ls
theorem Ew {l:List AV} (h:kx l=none):y9 l=l:=by
 unfold kx at h
 split at h
 ·simp [y9,gen]
 ·cases h
theorem Bg:∀ l:List (List AV),fK Jk l (OM l)
 | []=>.nil
 | l::ls=>.cons ⟨qS l,Ew⟩ (Bg ls)
def YI (ks gs:List Nat) (b:Bool) (s:St):St :=
 ⟨Hv (ua s.tmps ks) gs,{ s.hp with heap:=bif b then OM s.hp.heap else s.hp.heap }⟩
theorem ay {ks gs:List Nat} {b:Bool} {s t:St} (h0:(bif b then s.hp.lo else 0)=0) (e:YI ks gs b s=t):pL s t:=by
 subst e
 cases b with
 | false=>exact ⟨(vD ks _).trans' (r8 gs _),fK.same Jk.refl _,fun _ _=>rfl,rfl,rfl,rfl,rfl,rfl⟩
 | true=>exact ⟨(vD ks _).trans' (r8 gs _),Bg _,fun i hi=>by rw [show s.hp.lo=0 from h0] at hi; omega,rfl,rfl,rfl,rfl,rfl⟩
noncomputable section
variable {α V:Type} {R:α→V→Prop}
def fb (R:α→V→Prop) (T:Tr α) (ok:Bool) (x:V):Prop:=ok=true→∃ v,T.get=some v∧R v x
theorem aB {v:α} {x:V} (h:R v x):fb R (.ret v) true x:=fun _=>⟨v,rfl,h⟩
theorem qL {x:V}:fb R .fail false x:=fun h=>by cases h
theorem bT {b ok1 ok2:Bool} {t e:Tr α} {x y:V} (h1:fb R t ok1 x) (h2:fb R e ok2 y):fb R (.br b t e) (bif b then ok1 else ok2) (bif b then x else y):=by
 intro h
 cases b with
 | true=>exact h1 h
 | false=>exact h2 h
theorem aG {b ok:Bool} {t:Tr α} {x:V} (h1:fb R t ok x):fb R (.br b t .fail) (b&&ok) x:=by
 intro h
 cases b with
 | true=>exact h1 h
 | false=>cases h
theorem Cq {b ok:Bool} {t:Tr α} {x:V} (h1:fb R t ok x):fb R (.br b .fail t) (!b&&ok) x:=by
 intro h
 cases b with
 | true=>cases h
 | false=>exact h1 h
theorem cX {b:Bool} {t e:Tr α} {x y:V} (h1:fb R t true x) (h2:fb R e true y):fb R (.br b t e) true (bif b then x else y):=by
 intro h
 cases b with
 | true=>exact h1 rfl
 | false=>exact h2 rfl
theorem JL {P:Program} {f:Nat} {as1:List AV} {v:AV} {okc ok:Bool} {t:Tr α} {x:V} (hc:okc=true→PS P f as1 v) (h1:fb R t ok x):fb R (.br (HA P f as1 v) t .fail) (okc&&ok) x:=by
 intro h
 cases okc with
 | true =>
  rw [w7.2 (hc rfl)]
  exact h1 h
 | false=>cases h
theorem IG {P:Program} {b:Code} {s s':St} {o:Out} {okc ok:Bool} {t:Tr α} {x:V} (hl:okc=true→aD P b s' o) (hw:pL s s') (h1:fb R t ok x):fb R (.br (jj P b s o) t .fail) (okc&&ok) x:=by
 intro h
 cases okc with
 | true =>
  rw [og.2 ((hl rfl).wk hw)]
  exact h1 h
 | false=>cases h
end
theorem qN {α V:Type} {R:α→V→Prop} {b:Bool} {ok:Bool} {t:Tr α} {x:V} (hb:b=true) (h1:fb R t ok x) (h:ok=true):∃ v,(Tr.br b t .fail).get=some v∧R v x:=by
 subst hb
 exact h1 h
theorem pY {α V:Type} {R:α→V→Prop} {T T':Tr α} {ok:Bool} {x:V} (e:T'=T) (h:fb R T ok x):fb R T' ok x:=e ▸ h
instance {α β:Type} [Inhabited α]:Inhabited (α ⊕ β):=⟨.inl default⟩
def bP {α β:Type}:α ⊕ β→Bool
 | .inl _=>true
 | .inr _=>false
def gl {α β:Type} [Inhabited α]:α ⊕ β→α
 | .inl a=>a
 | .inr _=>default
def gr {α β:Type} [Inhabited β]:α ⊕ β→β
 | .inl _=>default
 | .inr b=>b
noncomputable section
variable {α V:Type} {R:α→V→Prop} {A B C D:Type} [Inhabited A] [Inhabited B] [Inhabited C] [Inhabited D]
theorem iz {P:Program} {b:Code} {s s':St} {r:A ⊕ B} {O:A ⊕ B→Out} {okc ok1 ok2:Bool} {t1 t2:Tr α} {x1 x2:V} (hl:okc=true→aD P b s' (O r)) (hw:pL s s')
  (h1:fb R t1 ok1 x1) (h2:fb R t2 ok2 x2) :
  fb R (.br (bP r) (.br (jj P b s (O (.inl (gl r)))) t1 .fail) (.br (jj P b s (O (.inr (gr r)))) t2 .fail)) (okc&&bif bP r then ok1 else ok2) (bif bP r then x1 else x2):=by
 intro h
 cases okc with
 | false=>cases h
 | true =>
  cases r with
  | inl a=>rw [dC]; exact qN (og.2 ((hl rfl).wk hw)) h1 h
  | inr a=>rw [dC]; exact qN (og.2 ((hl rfl).wk hw)) h2 h
end
def oG (n:Nat) (v:AV) (h:Hp):Hp :=
 if cD n h.aj.length h.loops.length v&&(h.heap.take n).all (fx n h.aj.length h.loops.length)&&h.loops.all (fun r=>fx n h.aj.length h.loops.length r.tmps) then { h with heap:=h.heap.take n } else h
theorem oM {g g':Gh} {h h':Hp} {w w':World} {v:AV} {x:Value} (m:MR g h w) (m':MR g' h' w') (hle:Le g h.aj w g' h'.aj w') (hf:Fl h h') (hv:bg g' h'.aj w' v x) :
  ∃ g'',MR g'' (oG h.heap.length v h') w'∧Le g h.aj w g'' (oG h.heap.length v h').aj w'∧Fl h (oG h.heap.length v h')∧bg g'' (oG h.heap.length v h').aj w' v x∧(∀ D,D ∈ g'.defs→D ∈ g''.defs):=by
 unfold oG
 split
 ·rename_i hc
  simp only [Bool.and_eq_true,List.all_eq_true] at hc
  obtain ⟨⟨hb1,hb2⟩,hb3⟩:=hc
  have hsub:∀ (i c:Nat),(g'.vars.take h.heap.length)[i]?=some c→i < h.heap.length∧g'.vars[i]?=some c:=fun i c x=>by
   rw [List.getElem?_take] at x
   split at x
   ·exact ⟨by assumption,x⟩
   ·cases x
  have hget:∀ (i c:Nat),i < h.heap.length→g'.vars[i]?=some c→(g'.vars.take h.heap.length)[i]?=some c:=fun i c hi x=>by rw [List.getElem?_take_of_lt hi]; exact x
  have cut:Cut h.heap.length h'.aj.length h'.loops.length g' h'.aj { g' with vars:=g'.vars.take h.heap.length } h'.aj :=
   ⟨rfl,fun _ _ x=>x,fun i c hi hx=>hget i c hi hx,fun _ _ _ x=>x,fun _ _ _ x=>⟨x,rfl⟩⟩
  refine ⟨{ g' with vars:=g'.vars.take h.heap.length },⟨m'.base,m'.gg,by simp [m'.dN],fun i c l h1 h2 => ?_,fun i j c h1 h2=>m'.sK i j c (hsub _ _ h1).2 (hsub _ _ h2).2,m'.eU,m'.jK,fun k b cap z h1 => ?_,m'.sG,m'.gO,fun l c r h1 h2 => ?_,m'.sJ,m'.defs,m'.iK⟩,?_,?_,?_,fun _ x=>x⟩
  ·obtain ⟨hi,h1'⟩:=hsub _ _ h1
   simp only at h2
   have h2m:=h2
   rw [List.getElem?_take_of_lt hi] at h2
   obtain ⟨a,f,o,d',e⟩:=m'.var i c l h1' h2
   exact ⟨a,f,o,d',e.cut cut (hb2 l (List.mem_of_getElem? h2m))⟩
  ·obtain ⟨q,cs,t,a1,a2,a3,a4,a5,a6,a7,a8⟩:=m'.tok k b cap z h1
   exact ⟨q,cs,t,a1,a2,a3,a4,a5,a6,a7,fun hb=>a8 (List.mem_of_mem_take hb)⟩
  ·obtain ⟨a,R,f,d'⟩:=m'.loop l c r h1 h2
   exact ⟨a,R,f,d'.cut cut (hb3 r (List.mem_of_getElem? h2))⟩
  ·exact ⟨hle.base,hle.below,hle.fz,hle.cell,fun i c hx=>hget i c (by have:=bB hx; rw [m.dN] at this; exact this) (hle.vars i c hx),hle.loops,hle.defs,hle.tok,hle.shape⟩
  ·exact ⟨hf.lo,hf.qj,hf.oO,fun i x hi hx=>by
    show (h'.heap.take h.heap.length)[i]?=_
    rw [List.getElem?_take_of_lt (bB hx)]; exact hf.heap i x hi hx,hf.aj,hf.loops⟩
  ·exact hv.cut cut hb1
 ·exact ⟨g',m',hle,hf,hv,fun _ x=>x⟩
def uH (n:Nat) (s:St):St:=⟨s.tmps,oG n (.tuple s.tmps) s.hp⟩
def Em (n:Nat):Out→Out
 | .norm s=>.norm (uH n s)
 | .ret s=>.ret (uH n s)
 | .exit i s=>.exit i (uH n s)
 | .panic v h=>.panic v (oG n v h)
theorem lR.cut {g:Gh} {h:Hp} {w:World} {W0:DB} {o:Out} {e:Exit} {a':Act} {w':World} (m:MR g h w) (hp:lR g h w W0 o e a' w'):lR g h w W0 (Em h.heap.length o) e a' w':=by
 have key:∀ (s:St),(∃ g',Nx g h w g' s.hp w'∧aL g' s.hp.aj w' s.tmps a'.tmps.toList∧Marks g' W0 a'.defers) →
   ∃ g',Nx g h w g' (uH h.heap.length s).hp w'∧aL g' (uH h.heap.length s).hp.aj w' (uH h.heap.length s).tmps a'.tmps.toList∧Marks g' W0 a'.defers:=by
  rintro s ⟨g1,n1,r1,m1⟩
  obtain ⟨g2,m2,l2,f2,r2,d2⟩:=oM m n1.mr n1.le n1.fl (bg.tuple (vs:=a'.tmps) r1)
  refine ⟨g2,⟨m2,l2,f2⟩,?_,m1.mono d2⟩
  cases r2 with
  | tuple h=>exact h
 cases o with
 | norm s=>exact ⟨hp.1,key s hp.2⟩
 | ret s=>exact ⟨hp.1,key s hp.2⟩
 | exit i s=>exact ⟨hp.1,key s hp.2⟩
 | panic v h1 =>
  obtain ⟨x,g1,e1,n1,r1,m1⟩:=hp
  obtain ⟨g2,m2,l2,f2,r2,d2⟩:=oM m n1.mr n1.le n1.fl r1
  exact ⟨x,g2,e1,⟨m2,l2,f2⟩,r2,m1.mono d2⟩
def lf (B:aT) (m fn:Nat) (b:Code) (s:St):Tr Out:=(mY (rE B m) (yK B m) fn b s).bind fun o=>.ret (Em s.hp.heap.length o)
theorem Cl {B:aT} (hB:cr B) {m fn:Nat} {b:Code} {s:St} {out:Out} (h1:(lf B m fn b s).get=some out):pS B.P b s out:=by
 obtain ⟨i1,i2,i3⟩:=tF hB m
 have ok:np (rE B m):=⟨hB.nU,hB.named,hB.pf,i1⟩
 unfold lf at h1
 simp only [get_bind,al,Option.bind_eq_some_iff,Option.some.injEq] at h1
 obtain ⟨o,h1,rfl⟩:=h1
 have hc:=ng ok i2 i3 fn b s o h1
 intro ro g w a W0 mr ht mk hW hro
 exact wpIn_mono (hc ro g w a W0 mr ht mk hW hro) fun e a1 w1 hp=>hp.cut mr
theorem aD.Rz {P:Program} {b:Code} {s s1:St} {out:Out} (hc:pS P b s (.norm s1)) (h2:aD P b s1 out):aD P b s out:=by
 intro ro g w a W0 mr ht mk hW hro
 refine ep (wpIn_mono (hc ro g w a W0 mr ht mk hW hro) ?_)
 rintro e a1 w1 ⟨rfl,g1,nx,hr,mk1⟩
 have:=h2 ro g1 w1 a1 W0 nx.mr hr mk1 (Nat.le_trans hW nx.le.below.size) (fun c hc=>let ⟨l,hl⟩:=hro c hc; ⟨l,nx.le.loops _ _ hl⟩)
 exact gM this fun e a2 w2 hp2=>hp2.nx nx
theorem aD.Sa {P:Program} {b:Code} {s:St} {out:Out} (hc:pS P b s out) (hn:∀ s1,out≠.norm s1):aD P b s out:=by
 intro ro g w a W0 mr ht mk hW hro
 refine ep (wpIn_mono (hc ro g w a W0 mr ht mk hW hro) ?_)
 intro e a1 w1 hp
 cases out with
 | norm s1=>exact absurd rfl (hn s1)
 | ret s1=>obtain ⟨rfl,rest⟩:=hp; exact ⟨rfl,rest⟩
 | exit i s1=>obtain ⟨rfl,rest⟩:=hp; exact ⟨rfl,rest⟩
 | panic v h=>obtain ⟨x,g1,rfl,rest⟩:=hp; exact ⟨x,g1,rfl,rest⟩
def SN:AV→Nat
 | .any=>0 | .undef=>1 | .bool _=>2 | .aO _=>2 | .int .. => 3 | .bu .. => 3 | .u64 _=>4 | .str _=>5 | .agg _=>6 | .ints .. => 7
 | .ptr b o=>100+16 * b+o | .ptri .. => 8 | .ptrf _=>9 | .nilptr=>10 | .slf _=>19 | .list .. => 11 | .vlist .. => 12 | .vany _ l=>5000+l.length | .vsl .. => 13 | .nilsl=>14
 | .func f _ _=>1000+f | .yield l=>50+l | .nilfunc=>15 | .iface .. => 16 | .niliface=>17 | .tuple _=>18 | .itr .. => 20
def EI (js:List Nat) (s:St):List Nat:=js.map (fun j=>SN (s.tmps.getD j .any))++s.hp.heap.flatMap (fun b=>b.length::b.map SN)++s.hp.loops.map (·.fn)
theorem aJ {P:Program} {c:St→Bool} {F G:Code→St→Tr Out} (hF:∀ b,bq P b (F b)) (hG:∀ b,bq P b (G b)):∀ b,bq P b (fun s=>bif c s then F b s else G b s):=by
 intro b s out h
 simp only at h
 cases hc:c s with
 | true=>rw [hc] at h; exact hF b s out h
 | false=>rw [hc] at h; exact hG b s out h
theorem bC {P:Program}:∀ b,bq P b (fun _=>.fail):=fun _ _ _ h=>by cases h
inductive aF (X R:Type) where
 | go (x:X)
 | out (r:R)
 | bad
def dh {X R:Type} (step:X→aF X R):Nat→X→Option R
 | 0,_=>none
 | n+1,x=>match step x with
  | .go y=>dh step n y
  | .out r=>some r
  | .bad=>none
def RL {X R:Type} (S:X→St) (O:R→Out) (o:Out) (st:aF X R):Prop :=
 match st with
 | .go y => ∃ s1,o=.norm s1∧pL s1 (S y)
 | .out r=>(∀ s,o≠.norm s)∧Xj o (O r)
 | .bad=>False
theorem dM {X R:Type} {S:X→St} {O:R→Out} {s1:St} {y:X} (h:pL s1 (S y)):RL S O (.norm s1) (.go y):=⟨s1,rfl,h⟩
theorem jf {X R:Type} {S:X→St} {O:R→Out} {s1 t:St} {id:Nat} {r:R} (e:O r=.exit id t) (h:pL s1 t):RL S O (.exit id s1) (.out r) :=
 ⟨fun s=>by simp,by rw [e]; exact ⟨rfl,h⟩⟩
theorem cm {X R:Type} {S:X→St} {O:R→Out} {v v':AV} {h h':Hp} {r:R} (e:O r=.panic v' h') (hw:pL ⟨[v],h⟩ ⟨[v'],h'⟩):RL S O (.panic v h) (.out r) :=
 ⟨fun s=>by simp,by rw [e]; exact hw⟩
theorem aD.dh {B:aT} (hB:cr B) {m fn:Nat} {b:Code} {X R:Type} {S:X→St} {O:R→Out} {ok:X→Bool} {st:X→aF X R}
  (h:∀ x,fb (RL S O) (mY (rE B m) (yK B m) fn b (S x)) (ok x) (st x)) :
  ∀ (n:Nat) (x:X) (r:R),dh (fun x=>bif ok x then st x else .bad) n x=some r→aD B.P b (S x) (O r)
 | 0,x,r,hi=>by simp [Kz.dh] at hi
 | n+1,x,r,hi=>by
  rw [Kz.dh] at hi
  cases hok:ok x with
  | false=>rw [hok] at hi; simp at hi
  | true =>
   rw [hok] at hi
   simp only [cond_true] at hi
   obtain ⟨o,h1,h2⟩:=h x hok
   cases hs:st x with
   | go y =>
    rw [hs] at hi h2
    obtain ⟨s1,rfl,hw⟩:=h2
    exact aD.step hB h1 (aD.wk hw (aD.dh hB h n y r hi))
   | out r' =>
    rw [hs] at hi h2
    simp only [Option.some.injEq] at hi
    subst hi
    obtain ⟨hn,hw⟩:=h2
    exact aD.out hw (aD.stop hB h1 hn)
   | bad=>rw [hs] at h2; exact h2.elim
theorem eS {X R:Type} {step:X→aF X R}:∀ {n m:Nat} {x:X} {r:R},n≤m→dh step n x=some r→dh step m x=some r
 | 0,_,_,_,_,h=>by simp [dh] at h
 | n+1,0,_,_,hm,_=>by omega
 | n+1,m+1,x,r,hm,h=>by
  rw [dh] at h ⊢
  cases hs:step x with
  | go y=>rw [hs] at h; exact eS (by omega) h
  | out r'=>rw [hs] at h; exact h
  | bad=>rw [hs] at h; cases h
def many:Nat:=4294967296
theorem dT {α:Type} [Inhabited α] {o:Option α} (h:o.isSome=true):o=some (o.getD default):=by
 cases o with
 | none=>cases h
 | some a=>rfl
open Classical in
def dA (P:Program) (f:Nat) (as1:List AV) (h:Hp) (res:aW):Bool:=shut (decide (cy P f as1 h res∧∃ fn,P.funcs[f]?=some fn∧fn.body.isSome=true))
theorem sD {P:Program} {f:Nat} {as1:List AV} {h:Hp} {res:aW}:dA P f as1 h res=true ↔ (cy P f as1 h res∧∃ fn,P.funcs[f]?=some fn∧fn.body.isSome=true):=by
 unfold dA
 rw [qB]
 simp
def fq (P:Program) (f:Nat) (t:List AV→Hp→aW) (as1:List AV) (h:Hp):Tr aW := .guard (dA P f as1 h (t as1 h)) (.ret (t as1 h))
theorem bU {P:Program} {f:Nat} {t:List AV→Hp→aW}:ct P f (fq P f t):=by
 intro as1 h res he
 simp only [fq,get_guard,al,Option.some.injEq] at he
 obtain ⟨h1,rfl⟩:=he
 exact sD.1 h1
def Yb:aW→aW→Prop
 | .ret v h,.ret v' h'=>pL ⟨[v],h⟩ ⟨[v'],h'⟩
 | .panic v h,.panic v' h'=>pL ⟨[v],h⟩ ⟨[v'],h'⟩
 | _,_=>False
theorem cy.wk {P:Program} {f:Nat} {as1 as':List AV} {h h':Hp} {res:aW} (hs:cy P f as' h' res) (hw:pL ⟨as1,h⟩ ⟨as',h'⟩):cy P f as1 h res:=by
 intro g w bM m hr
 have hx:=hs g w bM (m.wk (s:=⟨as1,h⟩) (t:=⟨as',h'⟩) hw) (by rw [show h'.aj=h.aj from hw.aj]; exact hr.wk hw.tmps)
 refine hx.mono ?_
 intro e w' hp
 have nx:∀ {g' h2},Nx g h' w g' h2 w'→Nx g h w g' h2 w':=fun n=>⟨n.mr,by have:=n.le; rw [show h'.aj=h.aj from hw.aj] at this; exact this,Fl.wk (s:=⟨as1,h⟩) (t:=⟨as',h'⟩) hw n.fl⟩
 cases res with
 | ret v h2=>obtain ⟨g',x,rfl,n,q⟩:=hp; exact ⟨g',x,rfl,nx n,q⟩
 | panic v h2=>obtain ⟨g',x,rfl,n,q⟩:=hp; exact ⟨g',x,rfl,nx n,q⟩
theorem cy.out {P:Program} {f:Nat} {as1:List AV} {h:Hp} {res res':aW} (hs:cy P f as1 h res) (hw:Yb res res'):cy P f as1 h res':=by
 intro g w bM m hr
 refine (hs g w bM m hr).mono ?_
 intro e w' hp
 cases res with
 | ret v h2 =>
  cases res' with
  | ret v' h2' =>
   obtain ⟨g',x,rfl,n,q⟩:=hp
   refine ⟨g',x,rfl,Nx.wk (s:=⟨[v],h2⟩) (t:=⟨[v'],h2'⟩) hw n,?_⟩
   have:=hw.tmps
   cases this with
   | cons a _=>rw [show h2'.aj=h2.aj from hw.aj]; exact a _ _ _ _ q
  | panic=>exact hw.elim
 | panic v h2 =>
  cases res' with
  | panic v' h2' =>
   obtain ⟨g',x,rfl,n,q⟩:=hp
   refine ⟨g',x,rfl,Nx.wk (s:=⟨[v],h2⟩) (t:=⟨[v'],h2'⟩) hw n,?_⟩
   have:=hw.tmps
   cases this with
   | cons a _=>rw [show h2'.aj=h2.aj from hw.aj]; exact a _ _ _ _ q
  | ret=>exact hw.elim
def RF {Y:Type} (O:Y→aW) (res:aW) (y:Y):Prop:=Yb res (O y)
theorem eL {Y:Type} {O:Y→aW} {v v':AV} {h h':Hp} {y:Y} (e:O y=.ret v' h') (hw:pL ⟨[v],h⟩ ⟨[v'],h'⟩):RF O (.ret v h) y:=by
 unfold RF; rw [e]; exact hw
theorem cE {Y:Type} {O:Y→aW} {v v':AV} {h h':Hp} {y:Y} (e:O y=.panic v' h') (hw:pL ⟨[v],h⟩ ⟨[v'],h'⟩):RF O (.panic v h) y:=by
 unfold RF; rw [e]; exact hw
theorem eH {P:Program} {f:Nat} {c:List AV→Hp→Bool} {F G:List AV→Hp→Tr aW} (hF:ct P f F) (hG:ct P f G):ct P f (fun xs h=>.br (c xs h) (F xs h) (G xs h)):=by
 intro xs h res hr
 rw [dC] at hr
 cases hc:c xs h with
 | true=>rw [hc] at hr; exact hF xs h res hr
 | false=>rw [hc] at hr; exact hG xs h res hr
theorem aw {P:Program} {f:Nat} {c:List AV→Hp→Bool} {F G:List AV→Hp→Tr aW} (hF:ct P f F) (hG:ct P f G):ct P f (fun xs h=>bif c xs h then F xs h else G xs h):=by
 intro xs h res hr
 simp only at hr
 cases hc:c xs h with
 | true=>rw [hc] at hr; exact hF xs h res hr
 | false=>rw [hc] at hr; exact hG xs h res hr
theorem aY {P:Program} {f:Nat}:ct P f (fun _ _=>.fail):=fun _ _ _ h=>by cases h
def D4 (n:Nat):aW→aW
 | .ret v h=>.ret v (oG n v h)
 | .panic v h=>.panic v (oG n v h)
theorem cy.cut {P:Program} {f:Nat} {as1:List AV} {h:Hp} {res:aW} (hs:cy P f as1 h res):cy P f as1 h (D4 h.heap.length res):=by
 intro g w bM m hr
 refine (hs g w bM m hr).mono ?_
 intro e w' hp
 cases res with
 | ret v h2 =>
  obtain ⟨g',x,rfl,n,q⟩:=hp
  obtain ⟨g2,m2,l2,f2,r2,_⟩:=oM m n.mr n.le n.fl q
  exact ⟨g2,x,rfl,⟨m2,l2,f2⟩,r2⟩
 | panic v h2 =>
  obtain ⟨g',x,rfl,n,q⟩:=hp
  obtain ⟨g2,m2,l2,f2,r2,_⟩:=oM m n.mr n.le n.fl q
  exact ⟨g2,x,rfl,⟨m2,l2,f2⟩,r2⟩
def lO (B:aT) (n f:Nat) (as1:List AV) (h:Hp):Tr aW:=(KC B n f as1 h).bind fun r=>.ret (D4 h.heap.length r)
theorem gC {B:aT} (hB:cr B) {n f:Nat} {as1:List AV} {h:Hp} {T:Tr aW} {Y:Type} {O:Y→aW} {ok:Bool} {y:Y}
  (he:lO B n f as1 h=T) (hg:fb (RF O) T ok y) (hok:ok=true):cy B.P f as1 h (O y)∧∃ fn,B.P.funcs[f]?=some fn∧fn.body.isSome=true:=by
 obtain ⟨v,h1,h2⟩:=hg hok
 rw [← he] at h1
 unfold lO at h1
 simp only [get_bind,al,Option.bind_eq_some_iff,Option.some.injEq] at h1
 obtain ⟨r,h1,rfl⟩:=h1
 obtain ⟨h3,h4⟩:=(tF hB n).1 _ _ _ _ h1
 exact ⟨h3.cut.out h2,h4⟩
noncomputable section
variable {α V:Type} {R:α→V→Prop}
theorem dD {A B:Type} [Inhabited A] [Inhabited B] {P:Program} {f:Nat} {as1 as':List AV} {h h':Hp} {r:A ⊕ B} {O:A ⊕ B→aW} {okc ok1 ok2:Bool} {t1 t2:Tr α} {x1 x2:V} (hc:okc=true→cy P f as' h' (O r)∧∃ fn,P.funcs[f]?=some fn∧fn.body.isSome=true) (hw:pL ⟨as1,h⟩ ⟨as',h'⟩)
  (h1:fb R t1 ok1 x1) (h2:fb R t2 ok2 x2) :
  fb R (.br (bP r) (.br (dA P f as1 h (O (.inl (gl r)))) t1 .fail) (.br (dA P f as1 h (O (.inr (gr r)))) t2 .fail)) (okc&&bif bP r then ok1 else ok2) (bif bP r then x1 else x2):=by
 intro hh
 cases okc with
 | false=>cases hh
 | true =>
  cases r with
  | inl a=>rw [dC]; exact qN (sD.2 ⟨(hc rfl).1.wk hw,(hc rfl).2⟩) h1 hh
  | inr a=>rw [dC]; exact qN (sD.2 ⟨(hc rfl).1.wk hw,(hc rfl).2⟩) h2 hh
end
def RD {α:Type} (d:D α) (v:AV) (x:α):Prop:=d.dec v=some x
theorem BC {B:aT} (hB:cr B) {n f:Nat} {as1:List AV} {T:Tr AV} {α:Type} {d:D α} {ok:Bool} {x:α} (he:fZ B n f as1=T) (hg:fb (RD d) T ok x) (h:ok=true):PS B.P f as1 (d.res x):=by
 obtain ⟨v,h1,h2⟩:=hg h
 exact LW hB (by rw [he]; exact h1) d h2
abbrev kp:AV→List UInt8
 | .itr s _=>s
 | _=>[]
abbrev nV:AV→Int
 | .itr _ n=>n
 | _=>0
abbrev tI:AV→Int
 | .int _ n | .bu _ n=>n
 | _=>0
abbrev tB:AV→Bool
 | .bool b | .aO b=>b
 | _=>false
abbrev tU:AV→BitVec 64
 | .u64 x=>x
 | _=>0
abbrev tS:AV→List UInt8
 | .str s=>s
 | _=>[]
abbrev tL (e:ET):AV→List e.T
 | .list e' l _=>if h:e'=e then h ▸ l else []
 | _=>[]
abbrev tN:AV→List Int
 | .ints _ _ l=>l
 | _=>[]
abbrev tA:AV→List AV
 | .agg l=>l
 | _=>[]
abbrev tT (s:St) (i:Nat):AV:=s.tmps.getD i .any
abbrev tH (s:St) (b i:Nat):AV:=(s.hp.heap.getD b []).getD i .any
abbrev tK (s:St) (k:Nat):Nat:=s.hp.aj.getD k 0
abbrev tX (l:List AV) (i:Nat):AV:=l.getD i .any
@[reducible] def li (l:List Int):List Int:=l
def F6 (m:List UInt8×Bool×Bool×Bool×Bool×Bool×Int):AV := .agg [.str m.1,.bool m.2.1,.bool m.2.2.1,.bool m.2.2.2.1,.bool m.2.2.2.2.1,.bool m.2.2.2.2.2.1,.int .u8 m.2.2.2.2.2.2]
def toVar:AV→Option (List UInt8×Bool×Bool×Bool×Bool×Bool×Int)
 | .agg [.str s,a,b,c,d,e,k] =>
  if kindOk .u8 k then
   (vY a).bind fun a=>(vY b).bind fun b=>(vY c).bind fun c=>(vY d).bind fun d=>(vY e).bind fun e=>(uZ k).map fun k=>(s,a,b,c,d,e,k)
  else none
 | _=>none
theorem uq {g:Gh} {tk:List Nat} {w:World} {v:AV} {m:List UInt8×Bool×Bool×Bool×Bool×Bool×Int} (h:toVar v=some m) {c:Value} (hr:bg g tk w v c):bg g tk w (F6 m) c:=by
 unfold toVar at h
 split at h
 ·rename_i s a b c d e k
  simp only [Option.ite_none_right_eq_some,Option.bind_eq_some_iff,Option.map_eq_some_iff] at h
  obtain ⟨k1,a',ha,b',hb,c',hc,d',hd,e',he,k',hk,rfl⟩:=h
  obtain ⟨cs,rfl,hc'⟩:=hr.gx
  refine .agg ?_
  have i:=fun (a:AV) (x:Bool) (ha:vY a=some x) (c:Value) (hc:bg g tk w a c)=>(qO ha hc) ▸ (bg.bool (g:=g) (tk:=tk) (w:=w) x)
  revert hc'
  exact aH.swap rfl rfl (fun _ h=>h) fun _=>aH.swap (eD ha) rfl (i _ _ ha) fun _=>aH.swap (eD hb) rfl (i _ _ hb) fun _=>aH.swap (eD hc) rfl (i _ _ hc) fun _=>aH.swap (eD hd) rfl (i _ _ hd) fun _=>aH.swap (eD he) rfl (i _ _ he) fun _ =>
   aH.swap (cB hk) rfl (fun c hc=>(jb k1 hk hc) ▸ (bg.int (g:=g) (tk:=tk) (w:=w) .u8 k')) fun _ h=>h
 ·cases h
def Uw:D (List UInt8×Bool×Bool×Bool×Bool×Bool×Int) where
 arg:=F6
 res:=F6
 dec:=toVar
 ok _ _ h _ _ _ _ hr:=uq h hr
 Db _ _ h _ _ _ _ hr:=uq h hr
theorem aD.H6 {B:aT} (hB:cr B) {m fn:Nat} {b:Code} {X R:Type} {S:X→St} {O:R→Out} {ok:X→Bool} {st:X→aF X R}
  (h:∀ x,fb (RL S O) (lf B m fn b (S x)) (ok x) (st x)) :
  ∀ (n:Nat) (x:X) (r:R),Kz.dh (fun x=>bif ok x then st x else .bad) n x=some r→aD B.P b (S x) (O r)
 | 0,x,r,hi=>by simp [Kz.dh] at hi
 | n+1,x,r,hi=>by
  rw [Kz.dh] at hi
  cases hok:ok x with
  | false=>rw [hok] at hi; simp at hi
  | true =>
   rw [hok] at hi
   simp only [cond_true] at hi
   obtain ⟨o,h1,h2⟩:=h x hok
   have hc:=Cl hB h1
   cases hs:st x with
   | go y =>
    rw [hs] at hi h2
    obtain ⟨s1,rfl,hw⟩:=h2
    exact aD.Rz hc (aD.wk hw (aD.H6 hB h n y r hi))
   | out r' =>
    rw [hs] at hi h2
    simp only [Option.some.injEq] at hi
    subst hi
    obtain ⟨hn,hw⟩:=h2
    exact aD.out hw (aD.Sa hc hn)
   | bad=>rw [hs] at h2; exact h2.elim
noncomputable section
variable {g:Gh} {h:Hp} {w:World}
end
noncomputable section
variable {g:Gh} {h:Hp} {w:World}
theorem nP (w:World) (p:Addr) (n:Nat) {j:Nat} (h:j≠p.block):(w.freeze p n).heap[j]?=w.heap[j]? := by
 unfold World.freeze
 split
 ·rfl
 ·simp only [Array.getElem?_modify]
  rw [if_neg (fun e=>h e.symm)]
theorem pQ (w:World) (p:Addr) (n:Nat):(w.freeze p n).heap.size=w.heap.size:=by
 unfold World.freeze
 split
 ·rfl
 ·simp
theorem xa (w:World) (p:Addr) (n:Nat) (c o:Nat):(w.freeze p n).cell? ⟨c,o,none⟩=w.cell? ⟨c,o,none⟩:=by
 by_cases hc:c=p.block
 ·unfold World.freeze
  split
  ·rfl
  ·simp only [World.cell?,Array.getElem?_modify]
   rw [if_pos hc.symm]
   cases hh:w.heap[c]? with
   | none=>rfl
   | some x=>cases x <;> simp
 ·exact iq (nP w p n hc)
theorem MR.CY (m:MR g h w) {k b cap z n:Nat} (ho:g.own[k]?=some (some (b,cap,z))) (hn:h.aj[k]?=some n) (j:Nat) :
  MR { g with own:=g.own.set k none } { h with aj:=h.aj.set k (n+1) } (w.freeze ⟨b,0,none⟩ j)∧Le g h.aj w { g with own:=g.own.set k none } (h.aj.set k (n+1)) (w.freeze ⟨b,0,none⟩ j):=by
 obtain ⟨n',cells0,ty0,h2,h3,hm,h4,h5,h6,h7,h8⟩:=m.tok k b cap z ho
 have hk:=(List.getElem?_eq_some_iff.1 hn).1
 have hk':k < g.own.length:=by rw [m.eU]; exact hk
 have oth:∀ {c:Nat},c≠b→(w.freeze ⟨b,0,none⟩ j).heap[c]?=w.heap[c]? := fun hc=>nP w _ j hc
 have hle:Le g h.aj w { g with own:=g.own.set k none } (h.aj.set k (n+1)) (w.freeze ⟨b,0,none⟩ j):=by
  refine ⟨rfl,Lib.below_freeze (Below.refl _ _) h4 _,fun _ _ x=>x,fun c o x _ h=>by rw [xa]; exact h,fun _ _ x=>x,fun _ _ x=>x,fun _ x=>x,fun i q x => ?_,fun i c x=>fW (oth (fun e=>h8 (e ▸ List.mem_of_getElem? x)))⟩
  by_cases hik:k=i
  ·subst hik
   obtain rfl:n=q:=Option.some.inj (hn.symm.trans x)
   exact ⟨n+1,by simp [hk],by omega,fun e=>by omega⟩
  ·exact ⟨q,by rw [List.getElem?_set_ne hik]; exact x,Nat.le_refl _,fun _=>by simp only; rw [List.getElem?_set_ne hik]⟩
 have old:∀ (i:Nat) (x:Nat×Nat×Nat),(g.own.set k none)[i]?=some (some x)→k≠i∧g.own[i]?=some (some x):=fun i x hx=>by
  by_cases hik:k=i
  ·subst hik; simp [hk'] at hx
  ·exact ⟨hik,by rw [List.getElem?_set_ne hik] at hx; exact hx⟩
 refine ⟨⟨by rw [pQ]; exact m.base,fun c o x=>by rw [pQ]; exact m.gg c o x,m.dN,fun i c l h1 h2 => ?_,m.sK,by simp [m.eU],fun i h1 => ?_,fun i b' cap' z' h1 => ?_,fun i i' b1 c1 z1 c2 z2 h1 h2 => ?_,m.gO,fun l c r h1 h2 => ?_,m.sJ,fun D hD => ?_,fun p hp=>(m.iK p hp).mono hle⟩,hle⟩
 ·obtain ⟨a,f,o,d',e⟩:=m.var i c l h1 h2
  exact ⟨a,f,o,by rw [oth (fun e=>h8 (e ▸ List.mem_of_getElem? h1))]; exact d',e.mono hle⟩
 ·by_cases hik:k=i
  ·subst hik; exact ⟨n+1,by simp [hk]⟩
  ·simp only at h1
   rw [List.getElem?_set_ne hik] at h1
   obtain ⟨q,hq⟩:=m.jK i h1
   exact ⟨q,by show (h.aj.set k (n+1))[i]?=_; rw [List.getElem?_set_ne hik]; exact hq⟩
 ·obtain ⟨hik,h1'⟩:=old i _ h1
  obtain ⟨q,cs,t,a1,a2,a3,a4,a5,a6,a7,a8⟩:=m.tok i b' cap' z' h1'
  have hbb:b'≠b:=fun e=>hik (m.sG k i b cap z cap' z' ho (e ▸ h1'))
  exact ⟨q,cs,t,by show (h.aj.set k (n+1))[i]?=_; rw [List.getElem?_set_ne hik]; exact a1,a2,a3,a4,by rw [oth hbb]; exact a5,a6,a7,a8⟩
 ·exact m.sG i i' b1 c1 z1 c2 z2 (old i _ h1).2 (old i' _ h2).2
 ·obtain ⟨a,R,f,d'⟩:=m.loop l c r h1 h2
  exact ⟨a,R,by rw [oth (fun e=>by subst e; rw [h5] at f; cases f)]; exact f,d'.mono hle⟩
 ·obtain ⟨a,f⟩:=m.defs D hD
  exact ⟨a,by rw [oth (fun e=>by subst e; rw [h5] at f; cases f)]; exact f⟩
end
inductive Qt where
 | tt | ff
 | q (b:Bool) (t:Qt) | n (b:Bool) (t:Qt) | i (b:Bool) (t e:Qt) | w (t:Qt)
def Qt.val:Qt→Bool
 | .tt=>true
 | .ff=>false
 | .q b t=>b&&t.val
 | .n b t => !b&&t.val
 | .i b t e=>bif b then t.val else e.val
 | .w t=>t.val
def Qt.Yl:Qt→Bool
 | .tt=>true
 | _=>false
def Qt.two (b:Bool) (t e:Qt):Qt:=match t.Yl,e.Yl with
 | true,true=>.tt
 | _,_=>.i b t e
theorem Qt.IY (b:Bool) (t e:Qt):(Qt.two b t e).val=bif b then t.val else e.val:=by
 cases t <;> cases e <;> first | rfl | (cases b <;> rfl)
namespace Tr
def Q2 {α:Type}:Tr α→Bool
 | .fail=>true
 | _=>false
abbrev qt {α V:Type} (d:α→Option V) (t:Tr α):Qt :=
 Tr.rec (motive:=fun _=>Qt) (fun a=>Option.rec .ff (fun _=>.tt) (d a)) .ff (fun b t e qt qe=>Bool.rec (Bool.rec (Qt.two b qt qe) (.n b qe) t.Q2) (.q b qt) e.Q2) (fun _ _ _ _ _ _ qt=>.w qt) t
abbrev vt {α V:Type} [Inhabited V] (d:α→Option V) (t:Tr α):V :=
 Tr.rec (motive:=fun _=>V) (fun a=>Option.rec default (fun v=>v) (d a)) default (fun b t e vt ve=>Bool.rec (Bool.rec (bif b then vt else ve) ve t.Q2) vt e.Q2) (fun _ _ _ _ _ _ vt=>vt) t
def w9 {α:Type}:Tr α→List (Bool×Code×Code×St×St)
 | .ret _=>[]
 | .fail=>[]
 | .br _ t e=>t.w9++e.w9
 | .ck c b b' s s' t=>(c,b,b',s,s')::t.w9
def qp {α:Type}:Tr α→List α
 | .ret a=>[a]
 | .fail=>[]
 | .br _ t e=>t.qp++e.qp
 | .ck _ _ _ _ _ t=>t.qp
end Tr
theorem uP {α V:Type} [Inhabited V] {d:α→Option V} {R:α→V→Prop}:∀ (T:Tr α),(∀ x ∈ T.w9,x.1=true)→(∀ a ∈ T.qp,∀ v,d a=some v→R a v)→fb R T (T.qt d).val (T.vt d)
 | .ret a,_,hr=>by
  intro h
  have hd':∀ o:Option V,d a=o→((Option.rec .ff (fun _=>.tt) o:Qt).val=true)→∃ v,(Tr.ret a).get=some v∧R v (Option.rec default (fun v=>v) o:V):=by
   intro o hd h
   cases o with
   | none=>cases h
   | some v=>exact ⟨a,rfl,hr a (by simp [Tr.qp]) v hd⟩
  exact hd' (d a) rfl h
 | .fail,_,_=>fun h=>by cases h
 | .br b t e,hk,hr=>by
  have h1:=uP t (fun x hx=>hk x (by simp [Tr.w9,hx])) (fun a ha=>hr a (by simp [Tr.qp,ha]))
  have h2:=uP e (fun x hx=>hk x (by simp [Tr.w9,hx])) (fun a ha=>hr a (by simp [Tr.qp,ha]))
  have key:∀ x y:Bool,e.Q2=x→t.Q2=y→fb R (.br b t e) (Bool.rec (Bool.rec (Qt.two b (t.qt d) (e.qt d)) (.n b (e.qt d)) y) (.q b (t.qt d)) x:Qt).val (Bool.rec (Bool.rec (bif b then t.vt d else e.vt d) (e.vt d) y) (t.vt d) x):=by
   intro x y he ht
   cases x with
   | true =>
    have:e=.fail:=by cases e <;> first | rfl | cases he
    subst this
    exact aG h1
   | false =>
    cases y with
    | true =>
     have:t=.fail:=by cases t <;> first | rfl | cases ht
     subst this
     exact Cq h2
    | false =>
     have h:=bT (b:=b) h1 h2
     rw [← Qt.IY] at h
     exact h
  exact key _ _ rfl rfl
 | .ck c b b' s s' t,hk,hr=>by
  have h1:=uP t (fun x hx=>hk x (by simp [Tr.w9,hx])) (fun a ha=>hr a (by simp [Tr.qp,ha]))
  have hc:c=true:=hk (c,b,b',s,s') (by simp [Tr.w9])
  subst hc
  exact h1
def xU (a:AV):AV→AV
 | .int _ _=>match a with
  | .bu k n=>.int k n
  | a=>a
 | .bool _=>match a with
  | .aO b=>.bool b
  | a=>a
 | _=>a
def rM:List AV→List AV→List AV
 | a::l,b::m=>xU a b::rM l m
 | l,_=>l
def PU (a:AV):AV→AV
 | .any=>.any
 | .agg m=>match a with
  | .agg l=>.agg (rM l m)
  | a=>a
 | b=>xU a b
def Ca:List AV→List AV→List AV
 | a::l,b::m=>PU a b::Ca l m
 | l,_=>l
def C9:List (List AV)→List (List AV)→List (List AV)
 | a::l,b::m=>rM a b::C9 l m
 | l,_=>l
def ze (s t:St):St:=⟨Ca s.tmps t.tmps,{ s.hp with heap:=match Nat.beq s.hp.lo 0 with
 | true=>C9 s.hp.heap t.hp.heap
 | false=>s.hp.heap }⟩
theorem q9 (a b:AV):xU a b=a∨(∃ k n,a=.bu k n∧xU a b=.int k n)∨∃ x,a=.aO x∧xU a b=.bool x:=by
 unfold xU
 split
 ·split
  ·exact .inr (.inl ⟨_,_,rfl,rfl⟩)
  ·exact .inl rfl
 ·split
  ·exact .inr (.inr ⟨_,rfl,rfl⟩)
  ·exact .inl rfl
 ·exact .inl rfl
theorem BF (a b:AV):iR a (xU a b):=by
 rcases q9 a b with h | ⟨k,n,rfl,h⟩ | ⟨x,rfl,h⟩ <;> rw [h]
 ·exact iR.refl _
 ·exact iR.bu k n
 ·exact iR.aO x
theorem qz:∀ l m:List AV,yB l (rM l m)
 | [],_=>by unfold rM; exact yB.refl _
 | a::l,[]=>by unfold rM; exact yB.refl _
 | a::l,b::m=>by
  unfold rM
  intro g tk w c hr
  cases hr with
  | ints h1 h2 h3 =>
   have:∀ k n x,xU (.ints k n x) b=.ints k n x:=fun k n x=>by cases b <;> rfl
   rw [this]
   exact .ints h1 h2 (qz l m g tk w _ h3)
  | one h1 h2 h3 =>
   refine .one ?_ (BF a b g tk w _ h2) (qz l m g tk w _ h3)
   rcases q9 a b with h | ⟨k,n,rfl,h⟩ | ⟨x,rfl,h⟩ <;> rw [h]
   ·exact h1
   ·rfl
   ·rfl
theorem I6 (a:AV):∀ b:AV,iR a (PU a b):=by
 intro b
 unfold PU
 split
 ·exact iR.any _
 ·split
  ·exact iR.agg (qz _ _)
  ·exact iR.refl _
 ·exact BF _ _
theorem vA:∀ l m:List AV,fK iR l (Ca l m)
 | [],_=>by unfold Ca; exact .nil
 | a::l,[]=>by unfold Ca; exact fK.same iR.refl _
 | a::l,b::m=>by unfold Ca; exact .cons (I6 a b) (vA l m)
theorem FB {a b:List AV} (h:kx a=none):rM a b=a:=by
 unfold kx at h
 split at h
 ·cases b with
  | nil=>rfl
  | cons x b =>
   have e:∀ m,rM [] m=[]:=fun m=>by unfold rM; rfl
   unfold rM
   rw [e]
   cases x <;> rfl
 ·cases h
theorem Bp:∀ l m:List (List AV),fK Jk l (C9 l m)
 | [],_=>by unfold C9; exact .nil
 | a::l,[]=>by unfold C9; exact fK.same Jk.refl _
 | a::l,b::m=>by unfold C9; exact .cons ⟨qz a b,FB⟩ (Bp l m)
theorem mh (s t:St):pL s (ze s t):=by
 unfold ze
 cases h:Nat.beq s.hp.lo 0 with
 | false=>exact ⟨vA _ _,fK.same Jk.refl _,fun _ _=>rfl,rfl,rfl,rfl,rfl,rfl⟩
 | true =>
  have:s.hp.lo=0:=Nat.eq_of_beq_eq_true h
  exact ⟨vA _ _,Bp _ _,fun i hi=>by rw [this] at hi; omega,rfl,rfl,rfl,rfl,rfl⟩
open Classical in
def u7 (b b':Code) (s s':St):Bool:=shut (decide (b=b'∧pL s s'))
theorem nS {b b':Code} {s s':St}:u7 b b' s s'=true ↔ b=b'∧pL s s':=by
 unfold u7
 rw [qB]
 simp
def Tq (x:Bool×Code×Code×St×St):Bool×Code×St:=(x.1,x.2.1,ze x.2.2.2.1 x.2.2.2.2)
def R6 (x:Bool×Code×Code×St×St):Bool×Code×St:=(u7 x.2.1 x.2.2.1 x.2.2.2.1 x.2.2.2.2,x.2.2.1,x.2.2.2.2)
theorem map_inj {α β:Type} {f g:α→β}:∀ {l:List α},l.map f=l.map g→∀ x ∈ l,f x=g x
 | [],_,_,hx=>by cases hx
 | a::l,h,x,hx=>by
  simp only [List.map_cons,List.cons.injEq] at h
  rcases List.mem_cons.1 hx with rfl | hx
  ·exact h.1
  ·exact map_inj h.2 x hx
theorem zc {α:Type} {T:Tr α} (h:T.w9.map Tq=T.w9.map R6):∀ x ∈ T.w9,x.1=true:=by
 intro x hx
 obtain ⟨c,b,b',s,s'⟩:=x
 have:=map_inj h _ hx
 simp only [Tq,R6,Prod.mk.injEq] at this
 obtain ⟨h1,h2,h3⟩:=this
 show c=true
 rw [h1]
 exact nS.2 ⟨h2,h3 ▸ mh s s'⟩
theorem bw {B:aT} (hB:cr B) {n f:Nat} {as1:List AV} {α:Type} [Inhabited α] {d:D α} {ok:Bool} {x:α} (h1:((fZ B n f as1).qt d.dec).val=ok) (h2:(fZ B n f as1).vt d.dec=x)
  (h3:(fZ B n f as1).w9.map Tq=(fZ B n f as1).w9.map R6) (h:ok=true):PS B.P f as1 (d.res x):=by
 obtain ⟨v,e1,e2⟩:=uP (d:=d.dec) (R:=RD d) (fZ B n f as1) (zc h3) (fun a _ v hv=>hv) (h1.trans h)
 rw [h2] at e2
 exact LW hB e1 d e2
def gW (b:Bool) (v:AV):Tr AV := .br b (.ret v) .fail
theorem b6 {P:Program} {f:Nat} {as1:List AV} {b:Bool} {v:AV} (h:b=true→PS P f as1 v):Ni P f as1 (gW b v):=fun u hu=>by
 unfold gW at hu
 cases b with
 | true=>cases hu; exact h rfl
 | false=>cases hu
theorem jA {P:Program} {f:Nat} {as1:List AV} {v:AV} (h:PS P f as1 v):Ni P f as1 (.ret v):=fun u hu=>by cases hu; exact h
def LA {X R:Type} (S:X→St) (O:R→Out):Option (aF X R)→Out
 | some (.go y)=>.norm (S y)
 | some (.out r)=>O r
 | _=>.panic .any qC
def yy:Out→Out→Out
 | .norm s,.norm t=>.norm (ze s t)
 | .ret s,.ret t=>.ret (ze s t)
 | .exit i s,.exit _ t=>.exit i (ze s t)
 | _,_=>.panic .any qC
def wo {X R:Type} (dx:St→Option X) (dr:Out→Option R):Out→Option (aF X R)
 | .norm s=>(dx s).map .go
 | o=>(dr o).map .out
instance {X R:Type}:Inhabited (aF X R):=⟨.bad⟩
theorem F5 {X R:Type} {S:X→St} {O:R→Out} {dx:St→Option X} {dr:Out→Option R} {o:Out} {st:aF X R} (hw:wo dx dr o=some st) (hO:∀ r s,O r≠.norm s) (hP:∀ r,O r≠.panic .any qC)
  (h:yy o (LA S O (wo dx dr o))=LA S O (wo dx dr o)):RL S O o st:=by
 rw [hw] at h
 cases o with
 | norm s =>
  simp only [wo,Option.map_eq_some_iff] at hw
  obtain ⟨y,_,rfl⟩:=hw
  simp only [LA,yy,Out.norm.injEq] at h
  exact ⟨s,rfl,h ▸ mh s (S y)⟩
 | ret s =>
  simp only [wo,Option.map_eq_some_iff] at hw
  obtain ⟨r,_,rfl⟩:=hw
  refine ⟨fun s=>by simp,?_⟩
  simp only [LA] at h
  cases hr:O r with
  | ret t=>rw [hr] at h; simp only [yy,Out.ret.injEq] at h; exact h ▸ mh s t
  | norm t=>exact absurd hr (hO r t)
  | exit i t=>rw [hr] at h; cases h
  | panic v t=>rw [hr] at h; simp only [yy] at h; exact absurd (hr.trans h.symm) (hP r)
 | exit i s =>
  simp only [wo,Option.map_eq_some_iff] at hw
  obtain ⟨r,_,rfl⟩:=hw
  refine ⟨fun s=>by simp,?_⟩
  simp only [LA] at h
  cases hr:O r with
  | exit j t =>
   rw [hr] at h
   simp only [yy,Out.exit.injEq] at h
   exact ⟨h.1,h.2 ▸ mh s t⟩
  | norm t=>exact absurd hr (hO r t)
  | ret t=>rw [hr] at h; cases h
  | panic v t=>rw [hr] at h; simp only [yy] at h; exact absurd (hr.trans h.symm) (hP r)
 | panic v t =>
  simp only [wo,Option.map_eq_some_iff] at hw
  obtain ⟨r,_,rfl⟩:=hw
  simp only [LA,yy] at h
  exact absurd h.symm (hP r)
def Ug:Out→Bool
 | .ret _=>true
 | .exit .. => true
 | _=>false
theorem od {R:Type} {O:R→Out} (h:∀ r,Ug (O r)=true):(∀ r s,O r≠.norm s)∧∀ r,O r≠.panic .any qC :=
 ⟨fun r s e=>(by have:=h r; rw [e] at this; cases this),fun r e=>(by have:=h r; rw [e] at this; cases this)⟩
theorem aD.jR {B:aT} (hB:cr B) {m fn:Nat} {b:Code} {X R:Type} {S:X→St} {O:R→Out} {ok:X→Bool} {st:X→aF X R} (dx:St→Option X) (dr:Out→Option R) (hO:∀ r,Ug (O r)=true)
  (h1:∀ x,((lf B m fn b (S x)).qt (wo dx dr)).val=ok x) (h2:∀ x,(lf B m fn b (S x)).vt (wo dx dr)=st x)
  (h3:∀ x,(lf B m fn b (S x)).w9.map Tq=(lf B m fn b (S x)).w9.map R6)
  (h4:∀ x,((lf B m fn b (S x)).qp.map fun o=>yy o (LA S O (wo dx dr o)))=(lf B m fn b (S x)).qp.map fun o=>LA S O (wo dx dr o)) (n:Nat) (x:X) (r:R)
  (h:Kz.dh (fun x=>bif ok x then st x else .bad) n x=some r):aD B.P b (S x) (O r) :=
 aD.H6 hB (fun x=>by
  rw [← h1 x,← h2 x]
  exact uP _ (zc (h3 x)) fun a ha v hv=>by
   by_cases hn:∃ r,v=.out r
   ·have:=map_inj (h4 x) a ha
    exact F5 hv (od hO).1 (od hO).2 this
   ·exact F5 hv (od hO).1 (od hO).2 (map_inj (h4 x) a ha)) n x r h
def lk (b b':Code) (s s':St) (ok:Bool) (t:Tr Out):Tr Out := .ck (u7 b b' s s') b b' s s' (.br ok t .fail)
theorem K2 {P:Program} {b b':Code} {s s':St} {ok:Bool} {t:Tr Out} {o:Out} (h:(lk b b' s s' ok t).get=some o) (H:ok=true→t.get=some o→aD P b' s' o):aD P b s o:=by
 unfold lk at h
 simp only [Tr.get] at h
 cases hk:u7 b b' s s' with
 | false=>rw [hk] at h; cases h
 | true =>
  rw [hk] at h
  obtain ⟨rfl,hw⟩:=nS.1 hk
  cases ok with
  | false=>cases h
  | true=>exact (H rfl h).wk hw
def sg {α:Type} (t:Tr α):Tr α := .ck (u7 .skip .skip ⟨[],qC⟩ ⟨[],qC⟩) .skip .skip ⟨[],qC⟩ ⟨[],qC⟩ t
theorem Dw {α:Type} (t:Tr α):(sg t).get=t.get:=by
 have h:u7 .skip .skip (⟨[],qC⟩:St) ⟨[],qC⟩=true:=nS.2 ⟨rfl,mh ⟨[],qC⟩ ⟨[],qC⟩⟩
 unfold sg
 rw [h]
 rfl
def mX {R:Type} [Inhabited R] (b b':Code) (s s':St) (lp:Option R) (O:R→Out):Tr Out:=lk b b' s s' lp.isSome (.ret (O (lp.getD default)))
theorem cw {P:Program} {b b':Code} {s s':St} {R:Type} [Inhabited R] {lp:Option R} {O:R→Out} (H:∀ r,lp=some r→aD P b' s' (O r)) {o:Out} (h:(mX b b' s s' lp O).get=some o):aD P b s o :=
 K2 h fun h1 h2=>by
  cases h2
  exact H _ (dT h1)
def I3 {A B:Type} [Inhabited A] [Inhabited B] (b b':Code) (s s':St) (lp:Option (A ⊕ B)) (O:A ⊕ B→Out):Tr Out:=lk b b' s s' lp.isSome (.br (bP (lp.getD default)) (sg (.ret (O (.inl (gl (lp.getD default)))))) (sg (.ret (O (.inr (gr (lp.getD default)))))))
theorem lK {P:Program} {b b':Code} {s s':St} {A B:Type} [Inhabited A] [Inhabited B] {lp:Option (A ⊕ B)} {O:A ⊕ B→Out} (H:∀ r,lp=some r→aD P b' s' (O r)) {o:Out} (h:(I3 b b' s s' lp O).get=some o):aD P b s o :=
 K2 h fun h1 h2=>by
  have:=H _ (dT h1)
  revert h2 this
  cases lp.getD default with
  | inl a=>intro h2 this; rw [dC] at h2; cases (Dw _).symm.trans h2; exact this
  | inr a=>intro h2 this; rw [dC] at h2; cases (Dw _).symm.trans h2; exact this
def P7:aW→aW→aW
 | .ret v h,.ret v' h'=>match ze ⟨[v],h⟩ ⟨[v'],h'⟩ with
  | ⟨[u],k⟩=>.ret u k
  | _=>.panic .any qC
 | _,_=>.panic .any qC
def TJ:aW→Bool
 | .ret .. => true
 | _=>false
theorem Pm {Y:Type} {O:Y→aW} {dr:aW→Option Y} {o:aW} {y:Y} (hw:dr o=some y) (hO:TJ (O y)=true) (h:P7 o (((dr o).map O).getD (.panic .any qC))=((dr o).map O).getD (.panic .any qC)):RF O o y:=by
 rw [hw] at h
 simp only [Option.map_some,Option.getD_some] at h
 cases hr:O y with
 | panic v t=>rw [hr] at hO; cases hO
 | ret v' h' =>
  cases o with
  | panic v t=>rw [hr] at h; cases h
  | ret v k =>
   rw [hr] at h
   refine eL hr ?_
   have hf:=mh ⟨[v],k⟩ ⟨[v'],h'⟩
   simp only [P7] at h
   split at h
   ·rename_i u k' e
    simp only [aW.ret.injEq] at h
    obtain ⟨rfl,rfl⟩:=h
    rw [e] at hf
    exact hf
   ·cases h
theorem fN {B:aT} (hB:cr B) {n f:Nat} {as1:List AV} {h:Hp} {Y:Type} [Inhabited Y] {O:Y→aW} {ok:Bool} {y:Y} (dr:aW→Option Y) (hO:∀ y,TJ (O y)=true)
  (h1:((lO B n f as1 h).qt dr).val=ok) (h2:(lO B n f as1 h).vt dr=y) (h3:(lO B n f as1 h).w9.map Tq=(lO B n f as1 h).w9.map R6)
  (h4:((lO B n f as1 h).qp.map fun o=>P7 o (((dr o).map O).getD (.panic .any qC)))=(lO B n f as1 h).qp.map fun o=>((dr o).map O).getD (.panic .any qC)) (hok:ok=true) :
  cy B.P f as1 h (O y)∧∃ fn,B.P.funcs[f]?=some fn∧fn.body.isSome=true:=by
 subst h1 h2
 exact gC hB rfl (uP (d:=dr) (R:=RF O) _ (zc h3) fun a ha v hv=>Pm hv (hO v) (map_inj h4 a ha)) hok
def fk {Y:Type} (as1:List AV) (h:Hp) (as':List AV) (h':Hp) (ok:Bool) (O:Y→aW) (y:Y):Tr aW := .ck (u7 .skip .skip ⟨as1,h⟩ ⟨as',h'⟩) .skip .skip ⟨as1,h⟩ ⟨as',h'⟩ (.br ok (.ret (O y)) .fail)
theorem lE {P:Program} {f:Nat} {as1 as':List AV} {h h':Hp} {ok:Bool} {Y:Type} {O:Y→aW} {y:Y} {res:aW} (H:ok=true→cy P f as' h' (O y)∧∃ fn,P.funcs[f]?=some fn∧fn.body.isSome=true) (he:(fk as1 h as' h' ok O y).get=some res) :
  cy P f as1 h res∧∃ fn,P.funcs[f]?=some fn∧fn.body.isSome=true:=by
 unfold fk at he
 simp only [Tr.get] at he
 cases hk:u7 .skip .skip ⟨as1,h⟩ ⟨as',h'⟩ with
 | false=>rw [hk] at he; cases he
 | true =>
  rw [hk] at he
  cases ok with
  | false=>cases he
  | true =>
   cases he
   obtain ⟨h1,h2⟩:=H rfl
   exact ⟨h1.wk (nS.1 hk).2,h2⟩
abbrev wP {α:Type} (s:St) (b:Nat) (k:Pos→α):α:=k ⟨tI (tH s b 0),tN (tH s b 1),tU (tH s b 2),tN (tH s b 3),tI (tH s b 4),tN (tH s b 5),tI (tH s b 6),tN (tH s b 7),tI (tH s b 8),tI (tH s b 9)⟩
def KN:Nat→Nat→List Nat→List Nat
 | 0,_,_=>[]
 | k+1,i,[]=>i::KN k (i+1) []
 | k+1,i,t::ts=>match Nat.beq i t with
  | true=>KN k (i+1) ts
  | false=>i::KN k (i+1) (t::ts)
def cJ (fn id:Nat):List (Nat×Nat×List (Nat×List Nat))→List Nat
 | []=>[]
 | (f,n,t)::r=>if fn=f then (match t.lookup id with
  | some l=>KN n 0 l
  | none=>[]) else cJ fn id r
@[reducible] def dP (s:St) (b:Nat):Pos:=⟨tI (tH s b 0),tN (tH s b 1),tU (tH s b 2),tN (tH s b 3),tI (tH s b 4),tN (tH s b 5),tI (tH s b 6),tN (tH s b 7),tI (tH s b 8),tI (tH s b 9)⟩
end Kz
end
noncomputable section
namespace Kz
open Go Go.RowKit Go.Proofs Go.Shelf
set_option maxRecDepth 100000
noncomputable section
variable {P:Program} {w:World}
theorem nM:∀ (l:List Int) (a:Addr) (acc:ByteArray),(∀ j x,l[j]?=some x→w.cell? (a.add j)=some (.int .u8 x)) →
  (loadBytes a acc l.length).run P w=.ok ⟨acc.data++(l.map ub).toArray⟩ w
 | [],a,acc,_=>by simp [loadBytes]
 | x::l,a,acc,h=>by
  have h0:w.cell? a=some (.int .u8 x):=by
   have:=h 0 x rfl
   simpa [Addr.add] using this
  have ih:=nM l (a.add 1) (acc.push (UInt8.ofNat x.toNat)) (fun j y hy=>by
   have:=h (j+1) y (by simpa using hy)
   have e:(a.add 1).add j=a.add (j+1):=by
    unfold Addr.add
    by_cases hj:j=0
    ·subst hj; simp
    ·simp [hj]; omega
   rw [e]; exact this)
  have hx:x.toNat.toUInt8=UInt8.ofNat x.toNat:=rfl
  simp only [List.length_cons,loadBytes,Sem.run_bind,run_load,h0,Result.andThen,hx]
  rw [ih]
  simp [ByteArray.push,ub]
theorem kF (pt it ty e:TypeId) (hp:P.underlying pt=some (.pointer e)) (hc:P.cellsOf e=1) (g cells:Nat) (hsh:w.shape? g=some (e,cells)) (l:List Int) (h0:l≠[]) (hn:l.length≤cells) (h63:l.length≤9223372036854775807)
  (hcell:∀ j x,l[j]?=some x→w.cell? ((⟨g,0,none⟩:Addr).add j)=some (.int .u8 x)) :
  (Builtin.unsafeString_ #[pt,it] ty #[.pointer (some ⟨g,0,none⟩),.int .i64 l.length]).run P w=.ok (.string ⟨(l.map ub).toArray⟩) (w.freeze ⟨g,0,none⟩ l.length):=by
 have hl:l.length≠0:=by simpa using h0
 have hlb:=nM (P:=P) (w:=w) l ⟨g,0,none⟩ .empty hcell
 have hlies:=Lib.liesAt_bytes (P:=P) hc (cells / P.cellsOf e) l.length (by rw [hc]; simpa using hn)
 have h63':¬ (9223372036854775807:Int) < (l.length:Int):=by omega
 rw [show Builtin.unsafeString_ #[pt,it] ty #[.pointer (some ⟨g,0,none⟩),.int .i64 l.length]=(asInt (.int .i64 l.length) >>= _) from rfl]
 have hmax:IntKind.i64.max=9223372036854775807:=rfl
 have hneg:¬ (l.length:Int) < 0:=by omega
 simp [asInt,asIntOf,hmax,h63',hneg,hl,variablesAt,hsh,elemOf,Go.run_underlying hp,hlies,hlb]
end
set_option maxHeartbeats 2000000 in
theorem IA {P:Program} {ρ:Ren} (L:Lays.n169 P ρ) (X:Builder.Extra P ρ) (b g cap z:Nat) (p:Value) (ty:TypeId) (l:List Int) (w:World) (hbk:w.heap[b]?=some (.cells #[p,.slice (some ⟨g,0,none⟩) l.length cap] ty (0,0))) (h0:l≠[]) (hcap:l.length≤cap) (hcm:cap≤maxLen)
  (hsh:w.shape? g=some (ρ.t 5,z)) (hz:l.length≤z) (hcell:∀ j x,l[j]?=some x→w.cell? ⟨g,j,none⟩=some (.int .u8 x)) :
  Calls P (ρ.f 169) #[.pointer (some ⟨b,0,none⟩)] w fun e w'=>e=.returned (.string ⟨(l.map ub).toArray⟩)∧w'=w.drew.freeze ⟨g,0,none⟩ l.length:=by
 have hl0:l.length≠0:=by simpa using h0
 have c1:w.drew.cell? ⟨b,1,none⟩=some (.slice (some ⟨g,0,none⟩) l.length cap):=by
  have:w.drew.heap[b]?=some (.cells #[p,.slice (some ⟨g,0,none⟩) l.length cap] ty (0,0)):=hbk
  rw [Lib.cell_of_heap this]; rfl
 have hSD:(Builtin.unsafeSliceData_ #[(ρ.t 37)] (ρ.t 127) #[.slice (some ⟨g,0,none⟩) l.length cap]).run P w.drew=.ok (.pointer (some ⟨g,0,none⟩)) w.drew :=
  Lib.run_unsafeSliceData_row _ _ _ _ _ _ (by omega)
 have hUS:(Builtin.unsafeString_ #[(ρ.t 127),(ρ.t 3)] (ρ.t 9) #[.pointer (some ⟨g,0,none⟩),.int .i64 l.length]).run P w.drew=.ok (.string ⟨(l.map ub).toArray⟩) (w.drew.freeze ⟨g,0,none⟩ l.length):=by
  refine kF (w:=w.drew) (ρ.t 127) (ρ.t 3) (ρ.t 9) (ρ.t 5) L.t127 X.cellsByte g z hsh l h0 hz (by unfold maxLen at hcm; omega) ?_
  intro j x hx
  rw [addr_add,Nat.zero_add]
  exact hcell j x hx
 have mixed:=L.mixed
 have t72:=L.t72; have a72:=L.a72; have z72:=L.z72; have v72:=L.v72; have u72:=Go.run_underlying L.t72
 have t70:=L.t70; have a70:=L.a70; have z70:=L.z70; have v70:=L.v70; have u70:=Go.run_underlying L.t70
 have t37:=L.t37; have a37:=L.a37; have z37:=L.z37; have v37:=L.v37; have u37:=Go.run_underlying L.t37
 have t127:=L.t127; have a127:=L.a127; have z127:=L.z127; have v127:=L.v127; have u127:=Go.run_underlying L.t127
 have t3:=L.t3; have a3:=L.a3; have z3:=L.z3; have v3:=L.v3; have u3:=Go.run_underlying L.t3
 have t9:=L.t9; have a9:=L.a9; have z9:=L.z9; have v9:=L.v9; have u9:=Go.run_underlying L.t9
 have t5:=X.t5; have a5:=X.a5; have z5:=X.z5; have v5:=X.v5; have u5:=Go.run_underlying X.t5
 go_enter L.f169,Body.n169_ntmps ρ
 go_wp2
 go_region_o
 all_goals (go_wp2; go_ret; exact ⟨rfl,rfl⟩)
def CE:Nat→Nat→List UInt8→List UInt8
 | 0,_,acc=>acc
 | f+1,u,acc=>bif decide (u < 10) then UInt8.ofNat (48+u)::acc else CE f (u / 10) (UInt8.ofNat (48+u % 10)::acc)
def aK (n:Int):List UInt8:=bif decide (n < 0) then 45::CE 20 n.natAbs [] else CE 20 n.toNat []
theorem vE:∀ (f u:Nat) (acc:List UInt8),u < 10 ^ (f+1)→CE (f+1) u acc=Lib.decDigits u++acc
 | 0,u,acc,h=>by
  have h1:u < 10:=by simpa using h
  unfold CE Lib.decDigits
  rw [decide_eq_true h1,cond_true,dif_pos h1]
  rfl
 | f+1,u,acc,h=>by
  unfold CE Lib.decDigits
  by_cases h1:u < 10
  ·rw [decide_eq_true h1,cond_true,dif_pos h1]
   rfl
  ·rw [decide_eq_false h1,cond_false,dif_neg h1,vE f (u / 10) _ (by rw [Nat.pow_succ] at h; omega),List.append_assoc]
   rfl
theorem MM {n:Nat} (h:n≤9223372036854775808):n < 10 ^ (19+1):=by
 have:(10:Nat) ^ (19+1)=100000000000000000000:=by decide
 omega
theorem kU {n:Int} (h0 : -9223372036854775808≤n) (h1:n≤9223372036854775807):aK n=Lib.itoa n:=by
 unfold aK Lib.itoa
 by_cases h:n < 0
 ·rw [decide_eq_true h,cond_true,if_pos h,vE 19 _ _ (MM (by omega)),List.append_nil]
 ·rw [decide_eq_false h,cond_false,if_neg h,vE 19 _ _ (MM (by omega)),List.append_nil]
theorem uC {g:Gh} {tk:List Nat} {w:World}:∀ (l:List (List UInt8)) {cs:List Value},bF g tk w (l.map (enc .str)) cs→∃ bs:List ByteArray,cs=bs.map Value.string∧bs.map (·.data.toList)=l
 | [],_,h=>by cases h; exact ⟨[],rfl,rfl⟩
 | x::l,_,h=>by
  cases h with
  | cons hs hx h hr =>
   rename_i c cs
   obtain ⟨bs,rfl,hb⟩:=uC l hr
   cases h with
   | one hs h1 h2 =>
    cases h2
    cases h1 with
    | str hq =>
     rename_i s
     exact ⟨s::bs,by rw [hx]; rfl,by rw [List.map_cons,hb,hq]⟩
end Kz
end
noncomputable section
namespace Kz
open Go
@[reducible] def rn (a n:Nat) (l:List Nat):List Nat:=match n with
 | 0=>l
 | n+1=>a::rn (a+1) n l
@[reducible] def an (n:Nat) (l:List AV):List AV:=match n with
 | 0=>l
 | n+1=>AV.any::an n l
@[reducible] def pc (p:Pos) (l:List AV):List AV:=AV.int .u8 p.variant::AV.ints .u8 64 p.ag::AV.u64 p.aa::AV.ints .u8 12 p.ae::AV.int .u8 p.ao::AV.ints .i8 4 p.ah::AV.int .i8 p.af::AV.ints .u8 2 p.ab::AV.int .i64 p.half::AV.int .i64 p.full::l
@[reducible] def zpB:List AV:=[AV.int .u8 0,AV.ints .u8 64 (li (List.replicate 64 0)),AV.u64 0,AV.ints .u8 12 (li [0,0,0,0,0,0,0,0,0,0,0,0]),AV.int .u8 0,AV.ints .i8 4 (li [0,0,0,0]),AV.int .i8 0,AV.ints .u8 2 (li [0,0]),AV.int .i64 0,AV.int .i64 0]
@[reducible] def z65:List Int:=[1,0,0,0,0,0,0,0,0,0,0,0,0,0,0,0,0,0,0,0,0,0,0,0,0,0,0,0,0,0,0,0,0,0,0,0,0,0,0,0,0,0,0,0,0,0,0,0,0,0,0,0,0,0,0,0,0,0,0,0,0,0,0,0,0]
@[reducible] def zbd:List Int:=[4,2,3,5,6,3,2,4,1,1,1,1,1,1,1,1,0,0,0,0,0,0,0,0,0,0,0,0,0,0,0,0,0,0,0,0,0,0,0,0,0,0,0,0,0,0,0,0,9,9,9,9,9,9,9,9,12,10,11,13,14,11,10,12]
@[reducible] def z8:List UInt8:=[8,8,8,8,8,8,8,8,8,8,8,8,8,8,8,8,8,8,8,8,8,8,8,8,8,8,8,8,8,8,8,8,8,8,8,8,8,8,8,8,8,8,8,8,8,8,8,8,8,8,8,8,8,8,8,8,8,8,8,8,8,8,8,8]
@[reducible] def z7:List UInt8:=[7,7,7,7,7,7,7,7,7,7,7,7,7,7,7,7,7,7,7,7,7,7,7,7,7,7,7,7,7,7,7,7,7,7,7,7,7,7,7,7,7,7,7,7,7,7,7,7,7,7,7,7,7,7,7,7,7,7,7,7,7,7,7,7]
end Kz
end
