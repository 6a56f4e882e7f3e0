/- Part 3 of the proof. -/
import Derived.Test.YtgbndomcmihfkaaGreatDoorE2
import Derived.RecoverIn
set_option linter.unusedSectionVars false
set_option linter.unusedVariables false
set_option linter.unusedSimpArgs false
set_option linter.unnecessarySimpa false
set_option maxRecDepth 100000
set_option maxHeartbeats 4000000
noncomputable section
namespace Kz
open Go Go.RowKit
noncomputable section
variable {P:Program}{E:Env}{code:Nat→Code→St→Tr Out}
variable {g g':Gh}{h h':Hp}{tk:List Nat}{w w':World}{ro:Option Nat}{a:Act}{Q:Exit→Act→World→Prop}{W0:DB}
theorem Dc (ok:oP E){fn:Nat}{b:Code}{s:St}{out:Out}(hloop:qW E.P E.loop)(ih:∀s out,(n9 E code fn b s).get=some out→se E.P b s out)(he:(n9 E code fn (.loop b) s).get=some out):aC E.P b s out:=by
 rw[n9]at he;split at he
 ·rename_i F hF;exact ok.qi _ _ _ _ _ hF he
 intro ro g w a W0 m ht mk hW hro;rw[get_bind,B']at he;obtain⟨r,h1,h2⟩:=he;refine eX (wpIn_mono (ih _ _ h1 ro g w a W0 m ht mk hW hro) ?_);intro e a1 w1 hp;cases r with
 |norm s1 =>obtain⟨rfl,g1,nx,hr,mk1⟩:=hp;have:=hloop fn b s1 out h2 ro g1 w1 a1 W0 nx.mr hr mk1 (Nat.le_trans hW nx.le.below.size) (fun c hc=>let ⟨l,hl⟩:=hro c hc; ⟨l,nx.le.loops _ _ hl⟩);exact hJ this fun e a2 w2 hp2=>hp2.nx nx
 |ret s1 =>simp only[aj,A']at h2;subst h2;obtain⟨rfl,rest⟩:=hp;exact⟨rfl,rest⟩
 |exit id s1 =>simp only[aj,A']at h2;subst h2;obtain⟨rfl,rest⟩:=hp;exact⟨rfl,rest⟩
 |panic v h1 =>simp only[aj,A']at h2;subst h2;obtain⟨x,g1,rfl,rest⟩:=hp;exact⟨x,g1,rfl,rest⟩
theorem rO {l0:Nat}{R0:Loop}(h0:w.heap[l0]?=some (.loop R0))(fn:FuncId)(tmps:Array Value)(ps:Array Tmp)(assign body:Code) :
  (Instr.enterLoop fn tmps ps assign body (some l0)).run P w =
   .ok (w.heap.size,[]) (w.alloc (.loop { state := .ready,pending:=none,fn,tmps,params:=ps,assign,body,defers:=R0.defers })):=by unfold Instr.enterLoop;simp only[Sem.run_bind,run_getLoop h0,run_newObj_alloc,Result.andThen,Sem.run_pure]
theorem Jr {s:LoopState}{n:Nat}(h:AT s=n)(hn:n≠1):s≠.busy:=by intro e;subst e;exact hn h.symm
theorem KY (ok:oP E){fn:Nat}{f:Operand}{ps:Array Tmp}{as1 b:Code}{s:St}{out:Out}(he:(n9 E code fn (.rangeFunc f ps as1 b) s).get=some out):se E.P (.rangeFunc f ps as1 b) s out:=by
 intro ro g w a W0 m ht mk hW hro;rw[n9]at he;split at he
 ·rename_i gf x y hv;simp only at he;split at he
  ·simp at he
  ·simp only[get_bind,B']at he;obtain⟨r,h1,h2⟩:=he;obtain⟨hspec,fnc,hf,hb⟩:=ok.call _ _ _ _ h1;have hfv:=aW ht f;rw[hv]at hfv;obtain⟨xs,ys,hx,hrx,hry⟩:∃xs ys,a.eval f=.func (.func gf) xs ys∧aI g s.hp.ag w x xs.toList∧aI g s.hp.ag w y ys.toList:=by
    generalize a.eval f=z at hfv;cases hfv with
    |func q1 q2=>grind
   refine wpIn_rangeFunc fun fnb _=>?_
   have enter:∃(g1:Gh) (cl:Nat) (mark:List Deferred) (w1:World),(Instr.enterLoop fnb a.tmps ps as1 b ro).run E.P w=.ok (cl,mark) w1 ∧
     Nx g s.hp w g1 { s.hp with loops:=s.hp.loops++[{ state:=0,eN:=none,fn:=fn,tmps:=s.tmps,params:=ps.toList,assign:=as1,body:=b }] } w1∧g1.loops[s.hp.loops.length]?=some cl∧Marks g1 W0 (mark++a.defers):=by
    cases ro with
    |none =>
     obtain⟨m1,l1⟩:=m.Za
     obtain⟨m2,l2⟩:=m1.Iq (r:={ state:=0,eN:=none,fn:=fn,tmps:=s.tmps,params:=ps.toList,assign:=as1,body:=b })
      (R:={ state := .ready,pending:=none,fn:=fnb,tmps:=a.tmps,params:=ps,assign:=as1,body:=b,defers:=w.heap.size }) ⟨rfl,rfl,ht.mono l1,rfl,rfl,rfl⟩
     refine⟨_,_,_,_,run_enterLoop_outer fnb a.tmps ps as1 b,⟨m2,l1.trans l2,⟨rfl,rfl,rfl,fun _ _ _ x=>x,fun _ _ _ x=>x,by grind⟩⟩,?_,?_⟩
     ·simp[m.gT,World.size_alloc]
     ·obtain⟨ms,e0,mk⟩:=mk
      refine⟨{ target := .collected w.heap.size,args := #[] }::ms,by rw[e0];rfl,fun d hd=>?_,?_⟩
      ·rcases List.mem_cons.1 hd with rfl|hd
       ·simp_all
       ·obtain⟨D,e1,e2,e3⟩:=mk.mem d hd
        simp_all
      ·simp only[List.map_cons]
       refine List.pairwise_cons.2 ⟨?_,mk.nodup⟩
       intro t ht' D hD
       obtain⟨d,hd,rfl⟩:=List.mem_map.1 ht'
       obtain⟨D',rfl,e2,_⟩:=mk.mem d hd
       simp only[Target.collected.injEq]at hD
       subst hD
       intro e
       simp only[Target.collected.injEq]at e
       subst e
       exact absurd (aB (m.defs _ e2).2) (Nat.lt_irrefl _)
    |some l0 =>
     obtain⟨l,hl⟩:=hro l0 rfl
     obtain⟨_,R0,hR0,_⟩:=m.loop l l0 _ hl (I' (by have:=bI hl;rw[m.gT]at this;exact this))
     obtain⟨m2,l2⟩:=m.Iq (r:={ state:=0,eN:=none,fn:=fn,tmps:=s.tmps,params:=ps.toList,assign:=as1,body:=b })
      (R:={ state := .ready,pending:=none,fn:=fnb,tmps:=a.tmps,params:=ps,assign:=as1,body:=b,defers:=R0.defers }) ⟨rfl,rfl,ht,rfl,rfl,rfl⟩
     exact⟨_,_,_,_,rO hR0 fnb a.tmps ps as1 b,⟨m2,l2,⟨rfl,rfl,rfl,fun _ _ _ x=>x,fun _ _ _ x=>x,by grind⟩⟩,by simp[m.gT],mk.mono fun _ h=>h⟩
   obtain⟨g1,cl,mark,w1,hent,nx1,hg1,mk1⟩:=enter;refine⟨cl,mark,w1,{ target := .fn (.func gf) ys,args:=xs++#[.func (.yield cl) #[] #[]] },w1,gf,xs++#[.func (.yield cl) #[] #[]]++ys,w1,hent,?_,fun _ _=>trivial,?_,fun h=>by simp[Fr,Fence.wide]at h,?_⟩
   ·simp only[resolve,hx,Deferred.ofValue];simp[Act.eval,Sem.run_pure]
   ·exact kL hf hb (ok.named _ _ hf hb)
   ·have hargs:aI g1 ({ s.hp with loops:=s.hp.loops++[{ state:=0,eN:=none,fn:=fn,tmps:=s.tmps,params:=ps.toList,assign:=as1,body:=b }] }:Hp).ag w1 (x++[.yield s.hp.loops.length]++y) (xs++#[Value.func (.yield cl) #[] #[]]++ys).toList:=by simp only[Array.toList_append];exact((hrx.mono nx1.le).append (.cons (.yield hg1) .nil)).append (hry.mono nx1.le)
    refine Ca ((hspec g1 w1 _ nx1.mr hargs).mono ?_);intro e w2 hp;cases r with
    |panic v h' =>simp only[aj,A']at h2;subst h2;obtain⟨g2,z,rfl,nx2,hz⟩:=hp;exact⟨z,g2,rfl,nx1.trans nx2,hz,mk1.mono nx2.le.defs⟩
    |ret v h' =>
     obtain⟨g2,z,rfl,nx2,hz⟩:=hp;simp only at h2;split at h2
     ·rename_i rr hrr;split at h2
      ·rename_i hst;have hg2:=nx2.le.loops _ _ hg1;obtain⟨hb2,R2,hR2,hlr2⟩:=nx2.mr.loop _ _ _ hg2 hrr;obtain⟨m3,l3⟩:=nx2.mr.zJ (r':={ rr with state:=3 }) (R':={ R2 with state := .exhausted }) hg2 hrr hR2 ⟨rfl,hlr2.eN,hlr2.tmps,hlr2.params,hlr2.assign,hlr2.body⟩;refine⟨R2.pending,_,run_endLoop hR2 (Jr hlr2.state hst),?_⟩;have nx3:Nx g s.hp w g2 (eV h' s.hp.loops.length { rr with state:=3 }) (bk w2 cl (.loop { R2 with state := .exhausted })):=by
        refine⟨m3,(nx1.trans nx2).le.trans l3,⟨nx2.fl.lo,nx2.fl.tO,nx2.fl.qJ,(nx1.trans nx2).fl.heap,(nx1.trans nx2).fl.ag,fun i q hi hq=>?_⟩⟩;have hne:s.hp.loops.length≠i:=by grind
        show(h'.loops.set _ _)[i]?=_;rw[List.getElem?_set_ne hne];exact(nx1.trans nx2).fl.loops i q hi hq
       have htt:=ht.mono nx3.le;have mk3:Marks g2 W0 (mark++a.defers):=mk1.mono nx2.le.defs;rw[yW];have hpend:=hlr2.eN;generalize eV h' s.hp.loops.length { rr with state:=3 }=H3 at nx3 htt h2;generalize bk w2 cl (.loop { R2 with state := .exhausted })=W3 at nx3 htt⊢;rw[hpend];cases hpe:rr.eN with
       |none =>rw[hpe]at h2;simp only[toCode,aj,A']at h2;subst h2;exact⟨rfl,g2,nx3,htt,mk3⟩
       |some c =>
        rw[hpe]at h2;cases c with
        |ret =>simp only[toCode,aj,A']at h2;subst h2;exact wpIn_ret ⟨rfl,g2,nx3,htt,mk3⟩
        |exit id =>simp only[toCode,aj,A']at h2;subst h2;exact wpIn_exit ⟨rfl,g2,nx3,htt,mk3⟩
        |_=>simp[toCode]at h2
      ·simp at h2
     ·simp at h2
 ·simp at he
theorem fZ {b:Frame}{a:Act}{k:List Item}{cs:List Frame}{w:World}{c:Code}:step P (lone (b.atR a (.code (.scope c)::k)) cs w)=.next (lone (b.atR a (.code c::.inScope c::k)) cs w) :=
 step_lone_go (by simp[stepG,stepG.exec,Frame.atR])
theorem xm {b:Frame}{a:Act}{k:List Item}{cs:List Frame}{w:World}{c:Code}:step P (lone (b.atR a (.inScope c::k)) cs w)=.next (lone (b.atR a k) cs w) :=
 step_lone_go (by simp[stepG,stepG.exec,Frame.atR])
theorem EL {F:Fence}{n:Nat}{Q:Exit→Act→World→Prop}{a:Act}{w:World}{c:Code}(h:c.wpIn F n P (Exit.noGoto Q) a w):(Code.scope c).wpIn F n P Q a w:=by
 intro b k cs hro hb hr;have h0:(lone (b.atR a (.code (.scope c)::k)) cs w).fenced P F:=fenced_calm hb hr rfl;obtain⟨e,a₁,w₁,hq,harr⟩:=h b (.inScope c::k) cs hro hb hr;cases e with
 |normal=>exact⟨.normal,a₁,w₁,hq,.head h0 fZ (StepsIn.trans harr (.one (fenced_calm hb hr rfl) xm))⟩
 |exit id' =>
  have hx:exitTo id' (.inScope c::k)=exitTo id' k:=by simp[exitTo]
  exact⟨.exit id',a₁,w₁,hq,fun k' hk=>.head h0 fZ (harr.1 k' (by rw[hx];exact hk)),
   fun hr' hk=>let ⟨k₁,h1,h2⟩:=harr.2 hr' (by rw[hx];exact hk); ⟨k₁,h1,.head h0 fZ h2⟩⟩
 |goto l=>exact hq.elim
 |ret=>exact⟨_,a₁,w₁,hq,.of_steps (.one h0 fZ) harr⟩
 |panic ch=>exact⟨_,a₁,w₁,hq,.of_steps (.one h0 fZ) harr⟩
 |outgrown=>exact⟨_,a₁,w₁,hq,.of_steps (.one h0 fZ) harr⟩
theorem oQ (ok:oP E)(hcode:cU E.P code)(hloop:qW E.P E.loop)(fn:Nat)(c:Code):∀s out,(n9 E code fn c s).get=some out→se E.P c s out:=by
 induction c with
 |skip =>intro s out he ro g w a W0 m ht mk hW hro;simp only[n9,aj,A']at he;subst he;exact wpIn_skip ⟨rfl,g,Nx.refl m,ht,mk⟩
 |region id ops draw=>exact fun s out he=>Ju ok hcode (by simpa[n9]using he)
 |seq x y ihx ihy =>
  intro s out he ro g w a W0 m ht mk hW hro;rw[n9,get_bind,B']at he;obtain⟨r,h1,h2⟩:=he;refine wpIn_seq (wpIn_mono (ihx _ _ h1 ro g w a W0 m ht mk hW hro) ?_);intro e a1 w1 hp;cases r with
  |norm s1 =>obtain⟨rfl,g1,nx,hr,mk1⟩:=hp;have:=ihy s1 out h2 ro g1 w1 a1 W0 nx.mr hr mk1 (Nat.le_trans hW nx.le.below.size) (fun c hc=>let ⟨l,hl⟩:=hro c hc; ⟨l,nx.le.loops _ _ hl⟩);exact wpIn_mono this fun e a2 w2 hp2=>hp2.nx nx
  |ret s1 =>simp only[aj,A']at h2;subst h2;obtain⟨rfl,rest⟩:=hp;exact⟨rfl,rest⟩
  |exit id s1 =>simp only[aj,A']at h2;subst h2;obtain⟨rfl,rest⟩:=hp;exact⟨rfl,rest⟩
  |panic v h1 =>simp only[aj,A']at h2;subst h2;obtain⟨x,g1,rfl,rest⟩:=hp;exact⟨x,g1,rfl,rest⟩
 |cond c x y ihx ihy =>
  intro s out he ro g w a W0 m ht mk hW hro;have hc:=aW ht c;rw[n9]at he;split at he
  ·rename_i e;rw[e]at hc;exact wpIn_cond_true hc.eK (ihx _ _ he ro g w a W0 m ht mk hW hro)
  ·rename_i e;rw[e]at hc;exact wpIn_cond_false hc.eK (ihy _ _ he ro g w a W0 m ht mk hW hro)
  ·rename_i t e;rw[e]at hc;rw[fP]at he;cases t with
   |true=>exact wpIn_cond_true hc.gn (ihx _ _ he ro g w a W0 m ht mk hW hro)
   |false=>exact wpIn_cond_false hc.gn (ihy _ _ he ro g w a W0 m ht mk hW hro)
  ·simp at he
 |scope b ih =>
  intro s out he ro g w a W0 m ht mk hW hro;rw[n9]at he;refine EL (wpIn_mono (ih _ _ he ro g w a W0 m ht mk hW hro) ?_);intro e a1 w1 hp;cases out with
  |norm s1=>obtain⟨rfl,rest⟩:=hp;exact⟨rfl,rest⟩
  |ret s1=>obtain⟨rfl,rest⟩:=hp;exact⟨rfl,rest⟩
  |exit j s1=>obtain⟨rfl,rest⟩:=hp;exact⟨rfl,rest⟩
  |panic v h=>obtain⟨x,g1,rfl,rest⟩:=hp;exact⟨x,g1,rfl,rest⟩
 |block id b ih =>
  intro s out he ro g w a W0 m ht mk hW hro;rw[n9,get_bind,B']at he;obtain⟨r,h1,h2⟩:=he;refine wpIn_block (wpIn_mono (ih _ _ h1 ro g w a W0 m ht mk hW hro) ?_);intro e a1 w1 hp;cases r with
  |norm s1 =>simp only[aj,A']at h2;subst h2;obtain⟨rfl,rest⟩:=hp;exact⟨rfl,rest⟩
  |ret s1 =>simp only[aj,A']at h2;subst h2;obtain⟨rfl,rest⟩:=hp;exact⟨rfl,rest⟩
  |exit j s1 =>
   obtain⟨rfl,rest⟩:=hp;simp only at h2;by_cases hj:j=id
   ·subst hj;simp at h2;subst h2;simp only[Exit.inBlock,if_true];exact⟨rfl,rest⟩
   ·have hne:(j==id)=false:=by simpa using hj
    rw[hne]at h2;simp at h2;subst h2;simp only[Exit.inBlock,hj,if_false];exact⟨rfl,rest⟩
  |panic v h1 =>simp only[aj,A']at h2;subst h2;obtain⟨x,g1,rfl,rest⟩:=hp;exact⟨x,g1,rfl,rest⟩
 |loop b ih =>intro s out he ro g w a W0 m ht mk hW hro;exact vZ (Dc ok hloop ih he ro g w a W0 m ht mk hW hro)
 |rangeFunc f ps as1 b=>exact fun s out he=>KY ok he
 |exit id =>intro s out he ro g w a W0 m ht mk hW hro;simp only[n9,aj,A']at he;subst he;exact wpIn_exit ⟨rfl,g,Nx.refl m,ht,mk⟩
 |label l =>intro s out he ro g w a W0 m ht mk hW hro;simp only[n9,aj,A']at he;subst he;exact wpIn_label ⟨rfl,g,Nx.refl m,ht,mk⟩
 |ret =>intro s out he ro g w a W0 m ht mk hW hro;simp only[n9,aj,A']at he;subst he;exact wpIn_ret ⟨rfl,g,Nx.refl m,ht,mk⟩
 |_=>intro s out he;simp[n9]at he
theorem mX (m:MR g h w){tmps:List AV}(ht:aI g h.ag w tmps a.tmps.toList){F:ResultVar→Sem Value}(hF1:∀t,F (.tmp t)=pure (a.tmps.getD t undef))(hF2:∀x t,F (.cell x t)=(do loadVar t (←asAddr (a.tmps.getD x undef)))):∀(rs:List ResultVar) (l:List AV),hU P h tmps rs=some l →
  ∃vs,(rs.mapM F).run P w=.ok vs w∧aI g h.ag w l vs
 | [],l,he=>by
  simp only[hU,A']at he
  subst he
  exact⟨[],rfl,.nil⟩
 | .tmp t::rest,l,he=>by
  simp only[hU,H']at he
  obtain⟨l',h1,rfl⟩:=he
  obtain⟨vs,e1,e2⟩:=mX m ht hF1 hF2 rest l' h1
  refine⟨a.tmps.getD t undef::vs,?_,.cons (aW ht (.tmp t)) e2⟩
  simp_all
 | .cell x t::rest,l,he=>by
  simp only[hU,B',H']at he
  obtain⟨v,h1,l',h2,rfl⟩:=he
  obtain⟨vs,e1,e2⟩:=mX m ht hF1 hF2 rest l' h2
  have hx:=aW ht (.tmp x)
  simp only[aR,Act.eval]at hx
  obtain⟨y,e3,e4⟩:=GM m h1 hx
  obtain⟨ad,had⟩:∃ad,a.tmps.getD x undef=.pointer (some ad):=by
   generalize tmps.getD x .any=q at h1 hx
   generalize a.tmps.getD x undef=z at hx
   cases hx<;>first|exact⟨_,rfl⟩|simp[eC]at h1
  have e5:(do loadVar t (←asAddr (a.tmps.getD x undef)):Sem Value).run P w=.ok y w:=by
   rw[had]at e3⊢
   simpa[Instr.loadAt,Instr.sureAddr,asAddr,Sem.run_bind]using e3
  refine⟨y::vs,?_,.cons e4 e2⟩
  rw[List.mapM_cons,hF2,Sem.run_bind,e5]
  simp_all
theorem mN {fn:Func}{l:List AV}(m:MR g h w){tmps:List AV}(ht:aI g h.ag w tmps a.tmps.toList)(he:hU P h tmps fn.results.toList=some l):∃v,(results fn a.tmps).run P w=.ok v w∧aM g h.ag w (oneOf l) v:=by
 have key:∀F:ResultVar→Sem Value,(∀t,F (.tmp t)=pure (a.tmps.getD t undef))→(∀x t,F (.cell x t)=(do loadVar t (←asAddr (a.tmps.getD x undef)))) →
   ∃v,(do let vs ←fn.results.mapM F;pure (if h:vs.size=1 then vs[0]else .tuple vs):Sem Value).run P w=.ok v w∧aM g h.ag w (oneOf l) v:=by
  intro F hF1 hF2
  obtain⟨vs,e1,e2⟩:=mX m ht hF1 hF2 _ _ he
  have hl:=e2.length
  have e3:(fn.results.mapM F).run P w=.ok vs.toArray w:=by
   rw[Array.mapM_eq_mapM_toList,Sem.run_map,e1]
   rfl
  refine⟨if h:vs.toArray.size=1 then vs.toArray[0]else .tuple vs.toArray,?_,?_⟩
  ·simp_all
  ·match l,vs,e2,hl with
   | [],[],e2,_=>exact .tuple .nil
   | [x],[v],.cons hx _,_=>exact hx
   |x::y::l,u::v::vs,e2,_ =>
    rw[dif_neg (by simp)]
    exact .tuple e2
   | [],_::_,_,hl=>simp at hl
   | [x],[],_,hl=>simp at hl
   | [x],_::_::_,_,hl=>simp at hl
   |_::_::_,[],_,hl=>simp at hl
   |_::_::_,[_],_,hl=>simp at hl
 exact key _ (fun _=>rfl) (fun _ _=>rfl)
theorem yh {fn:Func}{R:Ending→World→Prop}{u:FrameMode}{W0:Nat}{dt:List Deferred}(hu:u≠.run):∀(ds:List Deferred) (g:Gh) (w:World) (tmps:List AV),MR g h w→aI g h.ag w tmps a.tmps.toList→rp g W0 ds →
  (∀g' w',MR g' h w'→(∀D,D∈g.defs→D<W0→D∈g'.defs)→Le { g' with defs:=[] } h.ag w { g' with defs:=[] } h.ag w'→g'.base=g.base→g'.fz=g.fz→g'.vars=g.vars→g'.own=g.own→g'.loops=g.loops→LeavesInM Fence.wide 0 P fn a.tmps R dt u w')→LeavesInM Fence.wide 0 P fn a.tmps R (ds++dt) u w
 | [],g,w,tmps,m,ht,mk,hR=>by
  exact hR g w m (fun _ h _=>h) ⟨rfl,Below.refl _ _,fun _ _ x=>x,fun _ _ _ _ x=>x,fun _ _ x=>x,fun _ _ x=>x,fun _ x=>x,by simp_all,fun _ _ _=>rfl⟩ rfl rfl rfl rfl rfl
 |d::ds,g,w,tmps,m,ht,mk,hR=>by
  obtain⟨D,rfl,hD,hW⟩:=mk.mem d (by simp)
  obtain⟨m1,hb,l1,hh⟩:=m.TE hD
  refine⟨hu,.inl ⟨D,_,rfl,run_takeDeferred hh,?_⟩⟩
  have mk1:rp { g with defs:=g.defs.filter (· != D) } W0 ds:=by
   have hn:=mk.nodup
   simp only[List.map_cons]at hn
   obtain⟨n1,n2⟩:=List.pairwise_cons.1 hn
   refine⟨fun d hd=>?_,n2⟩
   obtain⟨D',e1,e2,e3⟩:=mk.mem d (by simp[hd])
   refine⟨D',e1,List.mem_filter.2 ⟨e2,?_⟩,e3⟩
   have:=n1 d.target (List.mem_map.2 ⟨d,hd,rfl⟩) D rfl
   rw[e1]at this
   simp only[ne_eq,Target.collected.injEq]at this
   simpa using this
  have lw:Lw g h.ag w { g with defs:=g.defs.filter (· != D) } h.ag (bk w D (.deferred none)):=⟨Nat.le_refl _,l1.fz,l1.cell,l1.vars,l1.loops,l1.tok,l1.shape⟩
  refine yh hu ds _ _ tmps m1 (ht.bS lw) mk1 ?_
  intro g' w' m' hd' l' b1 b2 b3 b4 b5
  refine hR g' w' m' (by grind) ?_ b1 b2 b3 b4 b5
  refine Le.trans ?_ l'
  exact⟨rfl,(by rw[b1];exact l1.below),fun _ _ x=>x,fun c o x h1 h2=>l1.cell c o x (by simp_all) h2,fun _ _ x=>x,fun _ _ x=>x,fun _ x=>x,by simp_all,fun i c x=>l1.shape i c (by simp_all)⟩
theorem vV {fn:Func}{a1:Act}{w1:World}{dt:List Deferred}{u:FrameMode}(m:MR g h w)(hu:u≠.run)(g1:Gh)(h1:Hp)(tmps:List AV)(R:Ending→World→Prop)(nx:Nx g h w g1 h1 w1)(hr1:aI g1 h1.ag w1 tmps a1.tmps.toList)(mk1:Marks g1 (w.heap.size,dt) a1.defers)
  (hR:∀g2 w2,Nx g h w g2 h1 w2→Lw g1 h1.ag w1 g2 h1.ag w2→LeavesInM Fence.wide 0 P fn a1.tmps R dt u w2):LeavesInM Fence.wide 0 P fn a1.tmps R a1.defers u w1:=by
 obtain⟨ms,e,mk1⟩:=mk1;rw[e];refine yh hu ms g1 w1 tmps nx.mr hr1 mk1 ?_;intro g2 w2 m2 hd2 l2 b1 b2 b3 b4 b5;have lw:Lw g1 h1.ag w1 g2 h1.ag w2:=by refine⟨by simp_all,by simp_all,fun c o x hx hc=>l2.cell c o x (by simp_all) hc,by simp_all,by simp_all,by simp_all,fun i c x=>l2.shape i c (by simp_all)⟩
 refine hR g2 w2 ⟨m2,?_,nx.fl⟩ lw
 refine⟨b1.trans nx.le.base,?_,fun c o x=>by rw[b2];exact nx.le.fz c o x,fun c o x hx hc=>lw.cell c o x (nx.le.fz _ _ hx) (nx.le.cell c o x hx hc),fun i c x=>by rw[b3];exact nx.le.vars i c x,fun i c x=>by rw[b5];exact nx.le.loops i c x,fun D hD=>hd2 D (nx.le.defs D hD) (aB (m.defs D hD).2),fun k n x=>by
  obtain⟨n',q1,q2,q3⟩:=nx.le.tok k n x
  simp_all,fun i c x=>(lw.shape i c (nx.le.vars i c x)).trans (nx.le.shape i c x)⟩
 have hb2:({ g2 with defs:=[] }:Gh).base=g.base:=b1.trans nx.le.base;have:=l2.below;rw[hb2]at this;exact nx.le.below.trans this
def oW (g:Gh)(h:Hp)(w:World)(a:Act)(out:Out)(e:Exit)(a':Act)(w':World):Prop :=
 match out with
 | .norm s'=>e=.normal∧∃g',Nx g h w g' s'.hp w'∧aI g' s'.hp.ag w' s'.tmps a'.tmps.toList∧a'.defers=a.defers
 | .ret s'=>e=.ret∧∃g',Nx g h w g' s'.hp w'∧aI g' s'.hp.ag w' s'.tmps a'.tmps.toList∧a'.defers=a.defers
 | .exit id s'=>e=.exit id∧∃g',Nx g h w g' s'.hp w'∧aI g' s'.hp.ag w' s'.tmps a'.tmps.toList∧a'.defers=a.defers
 | .panic v h'=>∃x g',e=.panic (gD x)∧Nx g h w g' h' w'∧aM g' h'.ag w' v x∧a'.defers=a.defers
theorem oW.nx {g0:Gh}{h0:Hp}{w0:World}{a0 a a':Act}{out:Out}{e:Exit}(nx:Nx g0 h0 w0 g h w)(hd:a.defers=a0.defers)(hp:oW g h w a out e a' w'):oW g0 h0 w0 a0 out e a' w':=by
 cases out with
 |norm s=>obtain⟨e1,g1,n1,r1,m1⟩:=hp;exact⟨e1,g1,nx.trans n1,r1,m1.trans hd⟩
 |ret s=>obtain⟨e1,g1,n1,r1,m1⟩:=hp;exact⟨e1,g1,nx.trans n1,r1,m1.trans hd⟩
 |exit id s=>obtain⟨e1,g1,n1,r1,m1⟩:=hp;exact⟨e1,g1,nx.trans n1,r1,m1.trans hd⟩
 |panic v h=>obtain⟨x,g1,e1,n1,r1,m1⟩:=hp;exact⟨x,g1,e1,nx.trans n1,r1,m1.trans hd⟩
theorem QV (ops:Array Oper):(List.range ops.size).map (ops[·]?)=ops.toList.map some:=by apply List.ext_getElem?;grind
theorem MQ (ok:oP E)(hcode:cU E.P code)(c:Code):∀s out,(vQ E code c s).get=some out→∀(g:Gh) (w:World) (a:Act),MR g s.hp w→aI g s.hp.ag w s.tmps a.tmps.toList→c.wpIn (Fr ro) 0 E.P (oW g s.hp w a out) a w:=by
 induction c with
 |skip =>intro s out he g w a m ht;simp only[vQ,aj,A']at he;subst he;exact wpIn_skip ⟨rfl,g,Nx.refl m,ht,rfl⟩
 |region id ops draw =>
  intro s out he g w a m ht;rw[vQ]at he;have ok':oP { E with kill:=fun _ _=>[] }:=⟨ok.qi,ok.named,ok.pf,ok.call⟩;refine Cf ok' hcode he m ht ?_;cases out with
  |norm s'=>exact fun g' w' a' nx hr hd=>⟨rfl,g',nx,hr,hd⟩
  |panic v h'=>exact fun g' w' x a' nx hr hd=>⟨x,g',rfl,nx,hr,hd⟩
  |_=>trivial
 |seq x y ihx ihy =>
  intro s out he g w a m ht;rw[vQ,get_bind,B']at he;obtain⟨r,h1,h2⟩:=he;refine wpIn_seq (wpIn_mono (ihx _ _ h1 g w a m ht) ?_);intro e a1 w1 hp;cases r with
  |norm s1 =>obtain⟨rfl,g1,nx,hr,hd⟩:=hp;exact wpIn_mono (ihy s1 out h2 g1 w1 a1 nx.mr hr) fun e a2 w2 hp2=>hp2.nx nx hd
  |ret s1 =>simp only[aj,A']at h2;subst h2;obtain⟨rfl,rest⟩:=hp;exact⟨rfl,rest⟩
  |exit id s1 =>simp only[aj,A']at h2;subst h2;obtain⟨rfl,rest⟩:=hp;exact⟨rfl,rest⟩
  |panic v h1 =>simp only[aj,A']at h2;subst h2;obtain⟨x,g1,rfl,rest⟩:=hp;exact⟨x,g1,rfl,rest⟩
 |cond c x y ihx ihy =>
  intro s out he g w a m ht;have hc:=aW ht c;rw[vQ]at he;split at he
  ·rename_i e;rw[e]at hc;exact wpIn_cond_true hc.eK (ihx _ _ he g w a m ht)
  ·rename_i e;rw[e]at hc;exact wpIn_cond_false hc.eK (ihy _ _ he g w a m ht)
  ·rename_i t e;rw[e]at hc;rw[fP]at he;cases t with
   |true=>exact wpIn_cond_true hc.gn (ihx _ _ he g w a m ht)
   |false=>exact wpIn_cond_false hc.gn (ihy _ _ he g w a m ht)
  ·simp at he
 |block id b ih =>
  intro s out he g w a m ht;rw[vQ,get_bind,B']at he;obtain⟨r,h1,h2⟩:=he;refine wpIn_block (wpIn_mono (ih _ _ h1 g w a m ht) ?_);intro e a1 w1 hp;cases r with
  |norm s1 =>simp only[aj,A']at h2;subst h2;obtain⟨rfl,rest⟩:=hp;exact⟨rfl,rest⟩
  |ret s1 =>simp only[aj,A']at h2;subst h2;obtain⟨rfl,rest⟩:=hp;exact⟨rfl,rest⟩
  |exit j s1 =>
   obtain⟨rfl,rest⟩:=hp;simp only at h2;by_cases hj:j=id
   ·subst hj;simp at h2;subst h2;simp only[Exit.inBlock,if_true];exact⟨rfl,rest⟩
   ·have hne:(j==id)=false:=by simpa using hj
    rw[hne]at h2;simp at h2;subst h2;simp only[Exit.inBlock,hj,if_false];exact⟨rfl,rest⟩
  |panic v h1 =>simp only[aj,A']at h2;subst h2;obtain⟨x,g1,rfl,rest⟩:=hp;exact⟨x,g1,rfl,rest⟩
 |exit id =>intro s out he g w a m ht;simp only[vQ,aj,A']at he;subst he;exact wpIn_exit ⟨rfl,g,Nx.refl m,ht,rfl⟩
 |ret =>intro s out he g w a m ht;simp only[vQ,aj,A']at he;subst he;exact wpIn_ret ⟨rfl,g,Nx.refl m,ht,rfl⟩
 |_=>intro s out he;simp[vQ]at he
def iZ (g:Gh)(h:Hp)(w:World)(a:Act)(out:Out)(e:Exit)(a':Act)(w':World):Prop :=
 match out with
 | .exit id s'=>if id=Mj then ∃x v tl g',s'.tmps=v::tl∧e=.panic (gD x)∧Nx g h w g' s'.hp w'∧aM g' s'.hp.ag w' v x∧aI g' s'.hp.ag w' tl a'.tmps.toList∧a'.defers=a.defers else oW g h w a out e a' w'
 | .panic .. => False
 |_=>oW g h w a out e a' w'
theorem iZ.nx {g0:Gh}{h0:Hp}{w0:World}{a0 a a':Act}{out:Out}{e:Exit}(nx:Nx g0 h0 w0 g h w)(hd:a.defers=a0.defers)(hp:iZ g h w a out e a' w'):iZ g0 h0 w0 a0 out e a' w':=by
 cases out with
 |norm s=>exact oW.nx (out := .norm s) nx hd hp
 |ret s=>exact oW.nx (out := .ret s) nx hd hp
 |panic v h=>exact hp
 |exit id s =>
  simp only[iZ]at hp⊢;split at hp
  ·rename_i e1;rw[if_pos e1];obtain⟨x,v,tl,g',h1,h2,h3,h4,h5,h6⟩:=hp;exact⟨x,v,tl,g',h1,h2,nx.trans h3,h4,h5,h6.trans hd⟩
  ·rename_i e1;rw[if_neg e1];exact oW.nx nx hd hp
theorem Um (ok:oP E)(hcode:cU E.P code){ops:Array Oper}{o:Oper}{s:St}{v:AV}{h':Hp}{a:Act}{w:World}{g:Gh}{Q:Exit→Act→World→Prop}(he:fG E code false ops o s=some (.panic v h'))(m:MR g s.hp w)(ht:aI g s.hp.ag w s.tmps a.tmps.toList){i:Nat}(hi:ops[i]?=some o){K:Act→World→Prop}(hK:∀g' w' x,Nx g s.hp w g' h' w'→aM g' h'.ag w' v x→Q (.panic (gD x)) a w') :
  wpOpIn (Fr ro) 0 E.P ops Q i K a w:=by
 unfold fG at he;simp only[B']at he;obtain⟨b,hg,he⟩:=he;unfold wpOpIn;rw[hi];simp only[yX ht hg];cases b with
 |true =>
  simp only[B']at he;obtain⟨r,h1,h2⟩:=he;simp only[if_true];refine Gx ok hcode h1 (jr.nil _) m ht ?_;cases r with
  |val v h'=>simp[fe]at h2
  |pan v h' =>simp only[fe,Bool.false_eq_true,if_false,A',Out.panic.injEq]at h2;obtain⟨rfl,rfl⟩:=h2;exact fun g' w' x nx hx=>hK g' w' x nx hx
 |false=>simp at he
theorem yt (ok:oP E)(hcode:cU E.P code){ops:Array Oper}:∀(os:List Oper) (is:List Nat) (s:St) (out:Out) (g0:Gh) (h0:Hp) (w0:World) (a0:Act) (g:Gh) (a:Act) (w:World),is.map (ops[·]?)=os.map some→(wF E code ops os s).get=some out→Nx g0 h0 w0 g s.hp w→a.defers=a0.defers→aI g s.hp.ag w s.tmps a.tmps.toList→wpOpsIn (Fr ro) 0 E.P ops (iZ g0 h0 w0 a0 out) is a w
 | [],is,s,out,g0,h0,w0,a0,g,a,w,hm,he,nx,hd,ht=>by
  cases is with
  |cons=>simp at hm
  |nil =>
   simp only[wF,aj,A']at he
   subst he
   exact⟨rfl,g,nx,ht,hd⟩
 |o::os,is,s,out,g0,h0,w0,a0,g,a,w,hm,he,nx,hd,ht=>by
  cases is with
  |nil=>simp at hm
  |cons i is =>
   simp only[List.map_cons,List.cons.injEq]at hm
   simp only[wF,get_bind,B']at he
   obtain⟨r,h1,h2⟩:=he
   have hst:=gP _ _ _ _ (jr.nil _) h1
   simp only[fm,B']at hst
   obtain⟨q,k1,k2⟩:=hst
   rw[wpOpsIn_cons]
   cases q with
   |norm s' =>
    simp only[A']at k2
    subst k2
    refine jc ok hcode k1 nx.mr ht hm.1 ?_
    intro g' w' a' nx' ht' hd'
    exact yt ok hcode os is s' out g0 h0 w0 a0 g' a' w' hm.2 h2 (nx.trans nx') (hd'.trans hd) ht'
   |panic v h' =>
    simp only[A']at k2
    subst k2
    simp only[aj,A']at h2
    subst h2
    refine Um ok hcode k1 nx.mr ht hm.1 ?_
    intro g' w' x nx' hx
    simp only[iZ,if_true]
    exact⟨x,v,s.tmps,g',rfl,rfl,nx.trans nx',hx,ht.mono nx'.le,hd⟩
   |ret s' =>
    simp only[A']at k2
    subst k2
    simp at h2
   |exit j s' =>
    simp only[A']at k2
    subst k2
    simp at h2
theorem abT (ok:oP E)(hcode:cU E.P code)(c:Code):∀s out,(zA E code c s).get=some out→∀(g:Gh) (w:World) (a:Act),MR g s.hp w→aI g s.hp.ag w s.tmps a.tmps.toList→c.wpIn (Fr ro) 0 E.P (iZ g s.hp w a out) a w:=by
 have pass:∀{g:Gh} {h:Hp} {w:World} {a a1:Act} {w1:World} {e:Exit} {id:Nat} {s1:St},iZ g h w a (.exit id s1) e a1 w1→(∃j,e=.exit j)∨∃c,e=.panic c:=by
  intro g h w a a1 w1 e id s1 hp;simp only[iZ]at hp;split at hp
  ·grind
  ·obtain⟨h1,_⟩:=hp;exact .inl ⟨_,h1⟩
 induction c with
 |skip =>intro s out he g w a m ht;simp only[zA,aj,A']at he;subst he;exact wpIn_skip ⟨rfl,g,Nx.refl m,ht,rfl⟩
 |region id ops draw =>
  intro s out he g w a m ht;cases draw with
  |true=>simp[zA]at he
  |false =>rw[zA]at he;exact wpIn_region (yt ok hcode _ _ _ _ g s.hp w a g a w (QV ops) he (Nx.refl m) rfl ht)
 |seq x y ihx ihy =>
  intro s out he g w a m ht;rw[zA,get_bind,B']at he;obtain⟨r,h1,h2⟩:=he;refine wpIn_seq (wpIn_mono (ihx _ _ h1 g w a m ht) ?_);intro e a1 w1 hp;cases r with
  |norm s1 =>obtain⟨rfl,g1,nx,hr,hd⟩:=hp;exact wpIn_mono (ihy s1 out h2 g1 w1 a1 nx.mr hr) fun e a2 w2 hp2=>hp2.nx nx hd
  |ret s1 =>simp only[aj,A']at h2;subst h2;obtain⟨rfl,rest⟩:=hp;exact⟨rfl,rest⟩
  |exit id s1 =>simp only[aj,A']at h2;subst h2;rcases pass hp with⟨j,rfl⟩|⟨c,rfl⟩<;>exact hp
  |panic v h1=>exact hp.elim
 |cond c x y ihx ihy =>
  intro s out he g w a m ht;have hc:=aW ht c;rw[zA]at he;split at he
  ·rename_i e;rw[e]at hc;exact wpIn_cond_true hc.eK (ihx _ _ he g w a m ht)
  ·rename_i e;rw[e]at hc;exact wpIn_cond_false hc.eK (ihy _ _ he g w a m ht)
  ·rename_i t e;rw[e]at hc;rw[fP]at he;cases t with
   |true=>exact wpIn_cond_true hc.gn (ihx _ _ he g w a m ht)
   |false=>exact wpIn_cond_false hc.gn (ihy _ _ he g w a m ht)
  ·simp at he
 |block id b ih =>
  intro s out he g w a m ht;rw[zA,get_bind,B']at he;obtain⟨r,h1,h2⟩:=he;refine wpIn_block (wpIn_mono (ih _ _ h1 g w a m ht) ?_);intro e a1 w1 hp;cases r with
  |norm s1 =>simp only[aj,A']at h2;subst h2;obtain⟨rfl,rest⟩:=hp;exact⟨rfl,rest⟩
  |ret s1 =>simp only[aj,A']at h2;subst h2;obtain⟨rfl,rest⟩:=hp;exact⟨rfl,rest⟩
  |exit j s1 =>
   simp only at h2;by_cases hjp:j=Mj
   ·subst hjp;simp only[beq_self_eq_true,if_true,aj,A']at h2;subst h2;simp only[iZ,if_true]at hp;obtain⟨x,v,tl,g',e1,rfl,rest⟩:=hp;simp only[Exit.inBlock,iZ,if_true];grind
   ·have hne:(j==Mj)=false:=by simpa using hjp
    rw[hne]at h2;simp only[Bool.false_eq_true,if_false]at h2;simp only[iZ,if_neg hjp]at hp;obtain⟨rfl,rest⟩:=hp;by_cases hj:j=id
    ·subst hj;simp only[beq_self_eq_true,if_true,aj,A']at h2;subst h2;simp only[Exit.inBlock,if_true];exact⟨rfl,rest⟩
    ·have hne:(j==id)=false:=by simpa using hj
     rw[hne]at h2;simp only[Bool.false_eq_true,if_false,aj,A']at h2;subst h2;simp only[Exit.inBlock,hj,if_false,iZ,if_neg hjp];exact⟨rfl,rest⟩
  |panic v h1=>exact hp.elim
 |exit id =>
  intro s out he g w a m ht;simp only[zA]at he;by_cases hid:id=Mj
  ·subst hid;simp at he
  ·have hne:(id==Mj)=false:=by simpa using hid
   rw[hne]at he;simp only[Bool.false_eq_true,if_false,aj,A']at he;subst he;refine wpIn_exit ?_;simp only[iZ,if_neg hid];exact⟨rfl,g,Nx.refl m,ht,rfl⟩
 |ret =>intro s out he g w a m ht;simp only[zA,aj,A']at he;subst he;exact wpIn_ret ⟨rfl,g,Nx.refl m,ht,rfl⟩
 |_=>intro s out he;simp[zA]at he
theorem zU {ops:Array Oper}{u:Nat}(h:pN ops=some u):∃o cc,ops.toList.getLast?=some o∧o.op=.defer cc∧o.guard=none∧o.dst=none∧cc.callee=.value (.tmp u)∧cc.args=#[]:=by unfold pN at h;grind
theorem EO {l l':List AV}{os:List Oper}(h:FY l os=some l'):(os=[]∧l'=l)∨∃p x,os=[p]∧p.op=.assign x∧p.guard=none∧l'=bN l p.dst (aR l x):=by unfold FY at h;grind
theorem Cb {fd:Nat}{cv:List AV}{rv:AV}{h h':Hp}(he:(mH E code fd cv rv h).get=some h'):∃fn id o os cc rest t l s,E.P.funcs[fd]?=some fn∧fn.body=some (.seq (.region id (o::os).toArray false) rest)∧o.op=.call cc∧o.guard=none∧o.dst=some t∧cc.callee=.builtin .recover∧cc.args=#[]∧fn.results=#[] ∧
  FY ((cv++List.replicate (fn.ntmps-cv.length) AV.undef).set t rv) os=some l∧((vQ E code rest ⟨l,h⟩).get=some (.norm s)∨(vQ E code rest ⟨l,h⟩).get=some (.ret s))∧s.hp=h':=by
 unfold mH at he;split at he
 ·rename_i fn hf;split at he
  ·rename_i id ops rest hb;split at he
   ·rename_i o os ho;split at he
    ·rename_i cc t e1 e2 e3;split at he
     ·rename_i e4;split at he
      ·rename_i e5;split at he
       ·rename_i l hl;simp only[get_bind,B']at he;obtain⟨out,h1,h2⟩:=he;have hops:ops=(o::os).toArray:=by apply Array.toList_inj.1;simpa using ho
        subst hops;cases out with
        |norm s =>simp only[aj,A']at h2;grind
        |ret s =>simp only[aj,A']at h2;grind
        |exit id s=>simp at h2
        |panic v h=>simp at h2
       ·simp at he
      ·simp at he
     ·simp at he
    ·simp at he
   ·simp at he
  ·simp at he
 ·simp at he
theorem HT (ok:oP E)(hcode:cU E.P code){fd:Nat}{cv:List AV}{rv:AV}{h h':Hp}(he:(mH E code fd cv rv h).get=some h'){g:Gh}{w:World}{ys:Array Value}(m:MR g h w)(hr:aI g h.ag w cv ys.toList){fn:Func}{tmps:Array Value}{R:Ending→World→Prop}
  {u u2:FrameMode} (hun:u≠.run) (hu2:settle u2=.returning) {xv:Value} (hx:aM g h.ag w rv xv) (hrc:∀(c₀:Frame) (cs:List Frame),c₀.mode=u→(recoverD (c₀::cs)=none∧xv=.nilIface∧u2=u)∨recoverD (c₀::cs)=some (xv,{ c₀ with mode:=u2 }::cs))
  (hR:∀g' w',Nx g h w g' h' w'→LeavesInM Fence.wide 0 E.P fn tmps R [] .returning w'):LeavesInM Fence.wide 0 E.P fn tmps R [{ target := .fn (.func fd) ys,args := #[] }] u w:=by
 obtain⟨fnd,id,o,os,cc,rest,t,l,s,hf,hb,e1,e2,e3,e4,e5,e6,hl,h1,rfl⟩:=Cb he;have hinv:(invoke (.fn (.func fd) ys) #[]).run E.P w=.ok (.enter fd (#[]++ys)) w:=kL hf (by rw[hb];rfl) (ok.named _ _ hf (by rw[hb];rfl));refine⟨hun,.inr ⟨fun hx=>by simp[Fence.wide]at hx,.func fd,ys,fd,#[]++ys,rfl,hinv,fun _ _=>trivial,?_⟩⟩;refine callsDIn_of_wpSIn hf hb trivial fun c₀ cs hu=>?_;refine wpSIn_seq (wpSIn_region ?_);obtain⟨cs2,hcs2,hrec⟩:∃cs2,cs2={ c₀ with mode:=u2 }::cs∧((recoverD (c₀::cs)=none∧xv=.nilIface∧cs2=c₀::cs)∨recoverD (c₀::cs)=some (xv,cs2)):=by
  rcases hrc c₀ cs hu with⟨q1,q2,q3⟩|q
  ·exact⟨_,rfl,.inl ⟨q1,q2,by rw[q3,←hu]⟩⟩
  simp_all
 have hex:∀ρ:Operand→Value,(execOp ρ o).run E.P w=.ok .recover w:=fun ρ=>by simp only[execOp,e1,resolve,e4,e5];rfl
 have hw:∀y,Region.wanted o y=true:=fun y=>by unfold Region.wanted;rw[e2]
 have htm:aI g h.ag w (cv++List.replicate (fnd.ntmps-cv.length) .undef) ((#[]++ys)++Array.replicate (fnd.ntmps-(#[]++ys).size) undef).toList:=by
  rw[Array.toList_append,Array.toList_replicate,Array.empty_append];have hl:cv.length=ys.size:=by rw[hr.length];simp
  rw[hl];exact hr.append (aI.lq _)
 have hput:=tM (a:=(⟨(#[]++ys)++Array.replicate (fnd.ntmps-(#[]++ys).size) undef,[]⟩:Act)) htm hx (some t)
 have key:∀(A:Act),A.defers=[]→aI g h.ag w l A.tmps.toList→∀out,(vQ E code rest ⟨l,h⟩).get=some out→(out=.norm s∨out=.ret s)→rest.wpSIn Fence.wide 0 E.P (bodyPostS E.P fnd c₀ cs fun
    | .returned _,u',w'=>LeavesInM Fence.wide 0 E.P fn tmps R [] (settle u') w'
    | .panicked chain,u',w'=>LeavesInM Fence.wide 0 E.P fn tmps R [] (raised u' chain) w'
    | .outgrown,_,w'=>R .outgrown w') A cs2 w:=by
  intro A hA hput out ho hout;refine wpSIn_of_wpIn rfl (wpIn_mono (MQ (ro:=none) ok hcode rest _ _ ho g w _ m hput) ?_)
  have fin:∀(g':Gh) (a':Act) (w':World),Nx g h w g' s.hp w'→aI g' s.hp.ag w' s.tmps a'.tmps.toList→a'.defers=[]→∀e:Exit,(e=.normal∨e=.ret)→bodyPostS E.P fnd c₀ cs (fun
    | .returned _,u',w'=>LeavesInM Fence.wide 0 E.P fn tmps R [] (settle u') w'
    | .panicked chain,u',w'=>LeavesInM Fence.wide 0 E.P fn tmps R [] (raised u' chain) w'
    | .outgrown,_,w'=>R .outgrown w') e a' cs2 w':=by
   intro g' a' w' nx hrt hd e hee;obtain⟨v,v1,_⟩:=mN (fn:=fnd) (l:=[]) nx.mr hrt (by rw[e6];rfl);have hl:=hR g' w' nx;rw[←hu2]at hl;rcases hee with rfl|rfl
   ·exact⟨hd,u2,hcs2,v,v1,hl⟩
   ·exact⟨hd,u2,hcs2,v,v1,hl⟩
  intro e a' w' hp;rcases hout with rfl|rfl
  ·obtain⟨rfl,g',nx,hrt,hd⟩:=hp;grind
  ·obtain⟨rfl,g',nx,hrt,hd⟩:=hp;grind
 have fin2:∀(A:Act),A.defers=[]→aI g h.ag w l A.tmps.toList→rest.wpSIn Fence.wide 0 E.P (bodyPostS E.P fnd c₀ cs fun
    | .returned _,u',w'=>LeavesInM Fence.wide 0 E.P fn tmps R [] (settle u') w'
    | .panicked chain,u',w'=>LeavesInM Fence.wide 0 E.P fn tmps R [] (raised u' chain) w'
    | .outgrown,_,w'=>R .outgrown w') A cs2 w:=by
  intro A hA hA2;rcases h1 with h1|h1
  ·simp_all
  ·simp_all
 rcases EO hl with⟨rfl,rfl⟩|⟨p,x,rfl,p1,p2,rfl⟩
 ·have fin3:=fin2 _ (by rfl) hput;rcases hrec with⟨hrec,q2,q3⟩|hrec
  ·rw[q2,q3]at fin3;show wpOpsSIn Fence.wide 0 E.P #[o] _ [0] _ _ w;simp only[wpOpsSIn,List.getElem?_toArray,List.getElem?_cons_zero,hw,if_true,hex,hrec];refine⟨fun _ _=>trivial,?_⟩;rw[e3];exact fin3
  ·show wpOpsSIn Fence.wide 0 E.P #[o] _ [0] _ _ w;simp only[wpOpsSIn,List.getElem?_toArray,List.getElem?_cons_zero,hw,if_true,hex,hrec];refine⟨fun _ _=>trivial,?_⟩;rw[e3];exact fin3
 ·have fin3:=fin2 _ (by cases p.dst<;>rfl) (tM hput (aW hput x) p.dst);have hw2:∀y,Region.wanted p y=true:=fun y=>by unfold Region.wanted;rw[p2]
  have hex2:∀ρ:Operand→Value,(execOp ρ p).run E.P w=.ok (.value (ρ x)) w:=fun ρ=>by simp only[execOp,p1];rfl
  rcases hrec with⟨hrec,q2,q3⟩|hrec
  ·rw[q2,q3]at fin3;rw[q2]at hput;show wpOpsSIn Fence.wide 0 E.P #[o,p] _ [0,1] _ _ w;simp only[wpOpsSIn,List.getElem?_toArray,List.getElem?_cons_zero,List.getElem?_cons_succ,hw,hw2,if_true,hex,hex2,hrec];refine⟨fun _ _=>trivial,fun _ _=>trivial,?_⟩;rw[e3];exact fin3
  ·show wpOpsSIn Fence.wide 0 E.P #[o,p] _ [0,1] _ _ w;simp only[wpOpsSIn,List.getElem?_toArray,List.getElem?_cons_zero,List.getElem?_cons_succ,hw,hw2,if_true,hex,hex2,hrec];refine⟨fun _ _=>trivial,fun _ _=>trivial,?_⟩;rw[e3];exact fin3
theorem U5 (ok:oP E)(hcode:cU E.P code)(hloop:qW E.P E.loop){f:Nat}{fn:Func}{rest:Code}{id:Nat}{ops:Array Oper}{u:Nat}(hc:pN ops=some u){s:St}{res:bL}(he:(Ee E code f fn ops u rest s).get=some res)
  {g:Gh} {w:World} {a:Act} (m:MR g s.hp w) (ht:aI g s.hp.ag w s.tmps a.tmps.toList) (hd1:a.defers=[]) {g0:Gh} {h0:Hp} {w0:World} (nx0:Nx g0 h0 w0 g s.hp w):(Code.seq (.region id ops false) rest).wpIn Fence.wide 0 E.P (bodyPostM Fence.wide 0 E.P fn (qs g0 h0 w0 res)) a w:=by
 obtain⟨o,cc,hlast,o1,o2,o3,o4,o5⟩:=zU hc;unfold Ee at he;simp only[get_bind,B']at he;obtain⟨r2,h2,he⟩:=he;have hr2:∃s2,r2=.norm s2:=by
  cases r2 with
  |norm s=>exact⟨s,rfl⟩
  |panic v h=>simp at he
  |ret s=>simp at he
  |exit i s=>simp at he
 obtain⟨s2,rfl⟩:=hr2;simp only at he;split at he;case h_2=>simp at he
 rename_i fd cv hu;simp only[get_bind,B']at he;obtain⟨r3,h3,he⟩:=he
 have hr3:(∃s3 h4,(r3=.norm s3∨r3=.ret s3)∧(mH E code fd cv .niliface s3.hp).get=some h4∧(finish E.P fn ⟨s3.tmps,h4⟩).get=some res) ∨
   ∃t v tl h3 h4,(zA E code rest s2).get=some (.exit Mj ⟨.iface t v::tl,h3⟩)∧(mH E code fd cv (.iface t v) h3).get=some h4∧(finish E.P fn ⟨tl,h4⟩).get=some res:=by
  cases r3 with
  |norm s =>
   simp only[get_bind,B']at he
   simp_all
  |ret s =>
   simp only[get_bind,B']at he
   simp_all
  |panic v h =>
   simp only[get_bind,B']at he
   obtain⟨q,q1,q2⟩:=he
   split at q2
   ·rename_i j t v tl h3
    by_cases hj:j=Mj
    ·subst hj
     simp only[beq_self_eq_true,if_true,get_bind,B']at q2
     grind
    simp_all
   ·simp at q2
  |exit i s=>simp at he
 refine wpIn_seq (wpIn_region ?_);have hsz:ops.size≠0:=by grind
 obtain⟨k,hk⟩:=Nat.exists_eq_succ_of_ne_zero hsz;have hids:=QV ops;have hdl:ops.toList=ops.toList.dropLast++[o]:=by obtain⟨l0,e0⟩:=List.getLast?_eq_some_iff.1 hlast;rw[e0,List.dropLast_concat]
 rw[hk,Nat.succ_eq_add_one,List.range_succ,List.map_append,hdl,List.map_append]at hids;have hlen:((List.range k).map (ops[·]?)).length=(ops.toList.dropLast.map some).length:=by simp;omega
 obtain⟨hm1,hm2⟩:=List.append_inj hids hlen;simp only[List.map_cons,List.map_nil,List.cons.injEq,and_true]at hm2;rw[hk,Nat.succ_eq_add_one,List.range_succ];refine DA ok hcode (ro:=none) _ _ _ _ g a w hm1 (gP _ _ _ _ (jr.nil _) h2) m ht ?_;intro g2 w2 a2 nx2 ht2 hd2;have hfv:∃ys,a2.eval (.tmp u)=.func (.func fd) #[] ys∧aI g2 s2.hp.ag w2 cv ys.toList:=by
  have:=aW ht2 (.tmp u);rw[show aR s2.tmps (.tmp u)=.func fd [] cv from hu]at this;generalize a2.eval (.tmp u)=z at this;cases this with
  | @func _ _ _ x y q1 q2 =>
   have hx:x=#[]:=by
    apply Array.toList_inj.1;cases hxl:x.toList with
    |nil=>rfl
    |cons=>rw[hxl]at q1;cases q1
   grind
 obtain⟨ys,hys,hry⟩:=hfv;have hex:(execOp a2.eval o).run E.P w2=.ok (.defer { target := .fn (.func fd) ys,args := #[] }) w2:=by simp only[execOp,o1,resolve,o4,o5,hys,Deferred.ofValue,Sem.run_bind,Sem.run_pure,Result.andThen_ok,Array.map_empty,Array.append_empty]
 rw[wpOpsIn_cons];unfold wpOpIn;rw[hm2];have hw:∀y,Region.wanted o y=true:=fun y=>by unfold Region.wanted;rw[o2]
 simp only[hw,if_true];refine⟨fun _ _=>trivial,?_⟩;rw[show(Fr none).round=none from rfl,Oper.semAt_none,hex,Oper.uponIn_defer,o3];have hde:a2.defers=[]:=hd2.trans hd1;show rest.wpIn Fence.wide 0 E.P _ { a2 with defers:={ target := .fn (.func fd) ys,args := #[] }::a2.defers } w2;rw[hde];have hrun:∀(g5:Gh) (w5:World) (h4:Hp) (tl:List AV) (tm:Array Value),(finish E.P fn ⟨tl,h4⟩).get=some res→Nx g s.hp w g5 h4 w5→aI g5 h4.ag w5 tl tm.toList→LeavesInM Fence.wide 0 E.P fn tm (qs g0 h0 w0 res) [] .returning w5:=by
  intro g5 w5 h4 tl tm hfin nx5 hr5;unfold finish at hfin;split at hfin
  ·rename_i l hl;simp only[aj,A']at hfin;subst hfin;obtain⟨v,e1,e2⟩:=mN (fn:=fn) (a:=⟨tm,[]⟩) nx5.mr hr5 hl;exact⟨v,e1,g5,v,rfl,nx0.trans nx5,e2⟩
  ·simp at hfin
 rcases hr3 with⟨s3,h4,hout,hl4,hfin⟩|⟨t,v,tl,h3',h4,hp3,hl4,hfin⟩
 ·have spec:=oQ ok hcode hloop f rest _ _ h3 none g2 w2 { a2 with defers:=[{ target := .fn (.func fd) ys,args := #[] }] } (w.heap.size,[{ target := .fn (.func fd) ys,args := #[] }]) nx2.mr ht2 ⟨[],rfl,fun d hd=>absurd hd (by simp),List.Pairwise.nil⟩ nx2.le.below.size (by grind);refine wpIn_mono spec ?_;intro e a3 w3 hp;have good:∀(g3:Gh),Nx g2 s2.hp w2 g3 s3.hp w3→aI g3 s3.hp.ag w3 s3.tmps a3.tmps.toList→Marks g3 (w.heap.size,[{ target := .fn (.func fd) ys,args := #[] }]) a3.defers→LeavesInM Fence.wide 0 E.P fn a3.tmps (qs g0 h0 w0 res) a3.defers .returning w3:=by intro g3 nx3 ht3 mk3;refine vV m (by simp) g3 s3.hp s3.tmps _ (nx2.trans nx3) ht3 mk3 ?_;intro g4 w4 nx4 lw4;refine HT ok hcode hl4 nx4.mr ((hry.mono nx3.le).bS lw4) (by simp) (u2 := .returning) rfl .niliface (fun c₀ cs hu=>.inl ⟨by simp[recoverD,hu],rfl,rfl⟩) ?_;intro g5 w5 nx5;exact hrun g5 w5 h4 s3.tmps a3.tmps hfin (nx4.trans nx5) ((ht3.bS lw4).mono nx5.le)
  rcases hout with rfl|rfl
  ·obtain⟨rfl,g3,nx3,ht3,mk3⟩:=hp;exact good g3 nx3 ht3 mk3
  ·obtain⟨rfl,g3,nx3,ht3,mk3⟩:=hp;exact good g3 nx3 ht3 mk3
 ·refine wpIn_mono (abT (ro:=none) ok hcode rest _ _ hp3 g2 w2 { a2 with defers:=[{ target := .fn (.func fd) ys,args := #[] }] } nx2.mr ht2) ?_;intro e a3 w3 hp;simp only[iZ,if_true]at hp;obtain⟨x,v',tl',g3,q1,rfl,nx3,hx3,ht3,hd3⟩:=hp;simp only[List.cons.injEq]at q1;obtain⟨rfl,rfl⟩:=q1;show LeavesInM Fence.wide 0 E.P fn a3.tmps (qs g0 h0 w0 res) a3.defers (.panicking (gD x)) w3;rw[hd3];refine HT ok hcode hl4 nx3.mr (hry.mono nx3.le) (by simp) (u2 := .panicking [{ v:=x,recovered:=true }]) rfl hx3 (fun c₀ cs hu=>.inr (by simp[recoverD,hu,gD])) ?_;intro g5 w5 nx5;exact hrun g5 w5 h4 tl a3.tmps hfin ((nx2.trans nx3).trans nx5) (ht3.mono nx5.le)
theorem LP (ok:oP E)(hcode:cU E.P code)(hloop:qW E.P E.loop){f:Nat}{fn:Func}{g0:Gh}{h0:Hp}{w0:World}{res:bL}:∀(c:Code) {s:St} {g:Gh} {w:World} {a:Act},(kK E code f fn c s).get=some res →
  MR g s.hp w→aI g s.hp.ag w s.tmps a.tmps.toList→a.defers=[]→Nx g0 h0 w0 g s.hp w→c.wpIn Fence.wide 0 E.P (bodyPostM Fence.wide 0 E.P fn (qs g0 h0 w0 res)) a w:=by
 intro c;induction c with
 |seq x b _ ih =>
  intro s g w a he m ht hd nx0
  have step:((vQ E code x s).bind fun
    | .norm s1=>kK E code f fn b s1
    |_=>.fail).get=some res→(Code.seq x b).wpIn Fence.wide 0 E.P (bodyPostM Fence.wide 0 E.P fn (qs g0 h0 w0 res)) a w:=by
   intro he;simp only[get_bind,B']at he;obtain⟨r,h1,h2⟩:=he;refine wpIn_seq (wpIn_mono (MQ (ro:=none) ok hcode x _ _ h1 g w _ m ht) ?_);intro e a1 w1 hp;cases r with
   |norm s1 =>obtain⟨rfl,g1,nx1,ht1,hd1⟩:=hp;exact ih h2 nx1.mr ht1 (hd1.trans hd) (nx0.trans nx1)
   |_=>simp at h2
  unfold kK at he;split at he
  ·rename_i id ops b' s' heq;simp only[Code.seq.injEq]at heq;obtain⟨rfl,rfl⟩:=heq;split at he
   ·rename_i u hu;exact U5 ok hcode hloop hu he m ht hd nx0
   ·exact step he
  ·grind
  ·simp at he
 |_=>intro s g w a he;simp[kK]at he
theorem SK (ok:oP E)(hcode:cU E.P code)(hloop:qW E.P E.loop){f:Nat}{args:List AV}{h:Hp}{res:bL}(he:(Fg E code f args h).get=some res):dz E.P f args h res∧∃fn,E.P.funcs[f]?=some fn∧fn.body.isSome=true:=by
 unfold Fg at he;split at he
 ·simp at he
 ·rename_i fn hf;split at he
  ·simp at he
  ·rename_i c hb;refine⟨?_,fn,hf,by rw[hb];rfl⟩;intro g w bw m hr;refine callsIn_of_wp_marks hf hb trivial ?_;have htm:aI g h.ag w (args++List.replicate (fn.ntmps-args.length) .undef) (bw++Array.replicate (fn.ntmps-bw.size) undef).toList:=by
    rw[Array.toList_append,Array.toList_replicate];have hl:args.length=bw.size:=by rw[hr.length];simp
    rw[hl];exact hr.append (aI.lq _)
   split at he
   ·exact LP ok hcode hloop c he m htm rfl (Nx.refl m)
   simp only[get_bind,B']at he;obtain⟨out,h1,h2⟩:=he;have spec:=oQ ok hcode hloop f c _ _ h1 none g w ⟨bw++Array.replicate (fn.ntmps-bw.size) undef,[]⟩ (w.heap.size,[]) m htm ⟨[],rfl,by simp_all,List.Pairwise.nil⟩ (Nat.le_refl _) (by simp_all);refine wpIn_mono spec ?_;intro e a1 w1 hp;have good:∀(s1:St) (g1:Gh),Nx g h w g1 s1.hp w1→aI g1 s1.hp.ag w1 s1.tmps a1.tmps.toList→Marks g1 (w.heap.size,[]) a1.defers→(finish E.P fn s1).get=some res→LeavesInM Fence.wide 0 E.P fn a1.tmps (qs g h w res) a1.defers .returning w1:=by
    intro s1 g1 nx hr1 mk1 hfin;unfold finish at hfin;split at hfin
    ·rename_i l hl;simp only[aj,A']at hfin;subst hfin;refine vV m (by simp) g1 s1.hp s1.tmps _ nx hr1 mk1 ?_;intro g2 w2 nx2 lw;obtain⟨v,e1,e2⟩:=mN (fn:=fn) nx2.mr (hr1.bS lw) hl;exact⟨v,e1,g2,v,rfl,nx2,e2⟩
    ·simp at hfin
   cases out with
   |norm s1 =>obtain⟨rfl,g1,nx,hr1,mk1⟩:=hp;exact good s1 g1 nx hr1 mk1 h2
   |ret s1 =>obtain⟨rfl,g1,nx,hr1,mk1⟩:=hp;exact good s1 g1 nx hr1 mk1 h2
   |exit id s1=>simp at h2
   |panic v h' =>
    simp only[aj,A']at h2;subst h2;obtain⟨x,g1,rfl,nx,hx,mk1⟩:=hp;refine vV (u := .panicking (gD x)) m (by simp) g1 h' (a1.tmps.toList.map fun _=>.any) _ nx ?_ mk1 ?_
    ·have:=aI.map (g:=g1) (tk:=h'.ag) (w:=w1) a1.tmps.toList (fun _=>AV.any) id (fun x _=>.any x);simpa using this
    ·intro g2 w2 nx2 lw;exact⟨g2,x,rfl,nx2,hx.bS lw⟩
structure aO (B:ar):Prop where
 qi:∀fn b F s out,B.qi fn b=some F→(F s).get=some out→aC B.P b s out
 J6:∀f F args h res,B.J6 f=some F→(F args h).get=some res→dz B.P f args h res∧∃fn,B.P.funcs[f]?=some fn∧fn.body.isSome=true
 named : ∀ (f : Nat) (fn : Func), B.P.funcs[f]? = some fn → fn.body.isSome = true → (fn.name == "runtime.NumGoroutine") = false
 pf:∀f as1 v,B.pf f=true→(B.G f as1).get=some v→aX B.P f as1 v∧∃fn,B.P.funcs[f]?=some fn∧fn.body.isSome=true
theorem ss {B:ar}(hB:aO B):∀n:Nat,
  (∀f args h res,(Gs B n f args h).get=some res→dz B.P f args h res∧∃fn,B.P.funcs[f]?=some fn∧fn.body.isSome=true)∧cU B.P (DL B n)∧qW B.P (DL B n)
 | 0=>⟨fun f args h res he=>by simp[Gs]at he,fun fn c s out he=>by simp[DL]at he,fun fn c s out he=>by simp[DL]at he⟩
 |n+1=>by
  obtain⟨i1,i2,i3⟩:=ss hB n
  have ok:oP { B with call:=Gs B n,loop:=DL B n }:=⟨hB.qi,hB.named,hB.pf,i1⟩
  refine⟨fun f args h res he=>?_,fun fn c s out he=>?_,fun fn c s out he=>?_⟩
  ·rw[Gs]at he
   split at he
   ·rename_i F hF
    exact hB.J6 f F args h res hF he
   ·exact SK ok i2 i3 he
  ·rw[DL]at he
   exact oQ ok i2 i3 fn c s out he
  ·rw[DL]at he
   exact Dc ok i3 (fun s out=>oQ ok i2 i3 fn c s out) he
theorem nK {B:ar}(hB:aO B){n f:Nat}{args:List AV}{v:AV}(he:(cP B n f args).get=some v):aX B.P f args v∧∃fn,B.P.funcs[f]?=some fn∧fn.body.isSome=true:=by
 unfold cP at he;simp only[get_bind,B']at he;obtain⟨r,h1,h2⟩:=he;obtain⟨hspec,hfn⟩:=(ss hB n).1 _ _ _ _ h1;refine⟨?_,hfn⟩;intro w bw hglob hr;have m0:MR (cH w) sn w:=by refine⟨Nat.le_refl _,fun _ _ x=>x,rfl,fun _ _ _ x _=>by simp[cH]at x,fun _ _ _ x=>by simp[cH]at x,rfl,fun _ x=>by simp[cH]at x,fun _ _ _ _ x=>by simp[cH]at x,fun _ _ _ _ _ _ _ x=>by simp[cH]at x,rfl,fun _ _ _ x=>by simp[cH]at x,fun _ _ _ x=>by simp[cH]at x,fun _ x=>by simp[cH]at x,hglob⟩
 refine(hspec (cH w) w bw m0 hr).mono ?_;intro e w' hp;split at h2
 ·rename_i v0 h';split at h2
  ·rename_i hc;simp only[E']at hc;simp only[aj,A']at h2;subst h2;obtain⟨g',x,rfl,nx,hx⟩:=hp;exact⟨x,rfl,nx.le.below,Rm nx.mr.fC nx.le.base hc.1 hc.2 hx⟩
  ·simp at h2
 ·simp at h2
end
structure D (α:Type) where
 arg:α→AV
 res:α→AV
 dec:AV→Option α
 ok:∀a x,dec a=some x→∀(g:Gh) (tk:List Nat) (w:World) (c:Value),aM g tk w a c→aM g tk w (arg x) c
 AZ:∀a x,dec a=some x→bz a=true→∀(g:Gh) (w:World) (c:Value),aM g [] w a c→aM g [] w (res x) c
noncomputable section
variable {g:Gh}{tk:List Nat}{w:World}
theorem Hr {k:IntKind}{a:AV}{n:Int}(h:(if kindOk k a then pV a else none)=some n){c:Value}(hr:aM g tk w a c):aM g tk w (.int k n) c:=by simp only[Option.ite_none_right_eq_some]at h;rw[gq h.1 h.2 hr];exact .int _ _
def dI (k:IntKind):D Int where
 arg := .int k
 res := .int k
 dec a:=if kindOk k a then pV a else none
 ok _ _ h _ _ _ _ hr:=Hr h hr
 AZ _ _ h _ _ _ _ hr:=Hr h hr
def dB:D Bool where
 arg := .bool
 res := .bool
 dec:=Av
 ok _ _ h _ _ _ _ hr:=by rw[tf h hr];exact .bool _
 AZ _ _ h _ _ _ _ hr:=by rw[tf h hr];exact .bool _
theorem Kp {a:AV}{x:BitVec 64}(h:toU a=some x):a=.u64 x:=by cases a<;>simp[toU]at h;rw[h]
theorem Nw {a:AV}{x:List UInt8}(h:toS a=some x):a=.str x:=by cases a<;>simp[toS]at h;rw[h]
def dU:D (BitVec 64) where
 arg := .u64
 res := .u64
 dec:=toU
 ok _ _ h _ _ _ _ hr:=by rw[Kp h]at hr;exact hr
 AZ _ _ h _ _ _ _ hr:=by rw[Kp h]at hr;exact hr
def dS:D (List UInt8) where
 arg := .str
 res := .str
 dec:=toS
 ok _ _ h _ _ _ _ hr:=by rw[Nw h]at hr;exact hr
 AZ _ _ h _ _ _ _ hr:=by rw[Nw h]at hr;exact hr
theorem zM {v:AV}{m:AV}(hm:m=.agg (bf m))(hv:v=.agg (bf v))(h:∀cs,ay g tk w (bf v) cs→ay g tk w (bf m) cs){c:Value}(hr:aM g tk w v c):aM g tk w m c:=by rw[hv]at hr;obtain⟨cs,rfl,hc⟩:=hr.cM;rw[hm];exact .agg (h _ hc)
theorem Ia {v:AV}{m:Mv}(h:Jp v=some m):v=.agg (bf v):=by
 unfold Jp at h;split at h
 ·rfl
 ·cases h
theorem CH {v:AV}{m:Pos}(h:toPos v=some m):v=.agg (bf v):=by
 unfold toPos at h;split at h
 ·rfl
 ·cases h
def rJ:D Mv where
 arg:=Mv.av
 res:=Mv.av
 dec:=Jp
 ok _ _ h _ _ _ _ hr:=zM rfl (Ia h) (fun _ hc=>(wA h hc).1) hr
 AZ _ _ h _ _ _ _ hr:=zM rfl (Ia h) (fun _ hc=>(wA h hc).1) hr
def aZ:D Pos where
 arg:=Pos.av
 res:=Pos.av
 dec:=toPos
 ok _ _ h _ _ _ _ hr:=zM rfl (CH h) (fun _ hc=>(rD h hc).1) hr
 AZ _ _ h _ _ _ _ hr:=zM rfl (CH h) (fun _ hc=>(rD h hc).1) hr
theorem PG {e:ET}{a:AV}{xs:List e.T}(h:fJ e a=some xs){c:Value}(hr:aM g tk w a c):aM g tk w (.list e xs .arg) c:=by
 unfold fJ at h;split at h
 ·rename_i e' l t;split at h
  ·rename_i he;subst he;simp only[A']at h;subst h;cases hr with
   |list hn h1 h2 h3 h4 =>exact .list hn h1 (h2.imp id (by grind)) (fun k e=>by cases e) h4
  ·cases h
 ·rename_i fr l;cases hr with
  |vlist hn h1 h2 h4 =>have hl:=kS h;exact .list (by omega) (kW h h1) (h2.imp id (by grind)) (fun k e=>by cases e) (by omega)
 ·simp only[A']at h;subst h;cases hr;exact .list rfl .nil (.inl rfl) (fun k e=>by cases e) (Nat.le_refl _)
 ·cases h
theorem LO {e:ET}{a:AV}{xs:List e.T}(h:fJ e a=some xs)(hf:bz a=true){c:Value}(hr:aM g tk w a c):aM g tk w (.list e xs .fresh) c:=by
 unfold fJ at h;split at h
 ·rename_i e' l t;split at h
  ·rename_i he;subst he;simp only[A']at h;subst h;cases hr with
   |list hn h1 h2 h3 h4 =>refine .list hn h1 (h2.imp id fun ⟨c,o,e1,e2,e3⟩=>⟨c,o,e1,e2,fun _=>e3 ?_⟩) (fun k e=>by cases e) h4;rintro rfl;simp[bz]at hf
  ·cases h
 ·rename_i fr l;simp only[bz,E']at hf;cases hr with
  |vlist hn h1 h2 h4 =>have hl:=kS h;exact .list (by omega) (kW h h1) (h2.imp id (by simp_all)) (fun k e=>by cases e) (by omega)
 ·simp only[A']at h;subst h;cases hr;exact .list rfl .nil (.inl rfl) (fun k e=>by cases e) (Nat.le_refl _)
 ·cases h
def dL (e:ET):D (List e.T) where
 arg l := .list e l .arg
 res l := .list e l .fresh
 dec:=fJ e
 ok _ _ h _ _ _ _ hr:=PG h hr
 AZ _ _ h hf _ _ _ hr:=LO h hf hr
def QW (k:IntKind)(n:Nat):AV→Option (List Int)
 | .agg [.ints k' n' l]=>if k=k'∧n=n' then some l else none
 |_=>none
theorem CU {k:IntKind}{n:Nat}{a:AV}{l:List Int}(h:QW k n a=some l):a=.agg [.ints k n l]:=by unfold QW at h;grind
def age (k:IntKind)(n:Nat):D (List Int) where
 arg l := .agg [.ints k n l]
 res l := .agg [.ints k n l]
 dec:=QW k n
 ok _ _ h _ _ _ _ hr:=by rw[CU h]at hr;exact hr
 AZ _ _ h _ _ _ _ hr:=by rw[CU h]at hr;exact hr
def toR (k k':IntKind):AV→Option (Int×Int)
 | .agg [a,b]=>if kindOk k a&&kindOk k' b then(pV a).bind fun x=>(pV b).map fun y=>(x,y)else none
 |_=>none
theorem GH {k k':IntKind}{v:AV}{m:Int×Int}(h:toR k k' v=some m){c:Value}(hr:aM g tk w v c):aM g tk w (.agg [.int k m.1,.int k' m.2]) c:=by
 unfold toR at h;split at h
 ·rename_i a b;simp only[Option.ite_none_right_eq_some,E',B',H']at h;obtain⟨⟨k1,k2⟩,x,hx,y,hy,rfl⟩:=h;obtain⟨cs,rfl,hc⟩:=hr.cM;obtain⟨x1,r1,e1,q1,hc⟩:=hc.inv_one (bp hx);obtain⟨x2,r2,rfl,q2,hc⟩:=hc.inv_one (bp hy);obtain rfl:=hc.cL;obtain rfl:=gq k1 hx q1;obtain rfl:=gq k2 hy q2;exact .agg (by rw[e1];exact .one rfl (.int _ _) (.one rfl (.int _ _) .nil))
 ·cases h
def dR (k k':IntKind):D (Int×Int) where
 arg m := .agg [.int k m.1,.int k' m.2]
 res m := .agg [.int k m.1,.int k' m.2]
 dec:=toR k k'
 ok _ _ h _ _ _ _ hr:=GH h hr
 AZ _ _ h _ _ _ _ hr:=GH h hr
def ZQ {α β:Type}(d:AV→Option α)(e:AV→Option β):AV→Option (α×β)
 | .tuple [a,b]=>(d a).bind fun x=>(e b).map fun y=>(x,y)
 |_=>none
def d2 {α β:Type}(d:D α)(e:D β):D (α×β) where
 arg p := .tuple [d.arg p.1,e.arg p.2]
 res p := .tuple [d.res p.1,e.res p.2]
 dec:=ZQ d.dec e.dec
 ok a x h g tk w c hr:=by
  unfold ZQ at h
  split at h
  ·simp only[B',H']at h
   obtain⟨x,h1,y,h2,rfl⟩:=h
   cases hr with
   |tuple hl =>
    rename_i a b vs
    obtain⟨l⟩:=vs
    cases hl with
    |cons q r=>cases r with|cons q2 r2=>cases r2;exact .tuple (.cons (d.ok _ _ h1 _ _ _ _ q) (.cons (e.ok _ _ h2 _ _ _ _ q2) .nil))
  ·cases h
 AZ a x h hf g w c hr:=by
  unfold ZQ at h
  split at h
  ·simp only[B',H']at h
   obtain⟨x,h1,y,h2,rfl⟩:=h
   simp only[bz,da,E']at hf
   cases hr with
   |tuple hl =>
    rename_i a b vs
    obtain⟨l⟩:=vs
    cases hl with
    |cons q r=>cases r with|cons q2 r2=>cases r2;exact .tuple (.cons (d.AZ _ _ h1 hf.1 _ _ _ q) (.cons (e.AZ _ _ h2 hf.2.1 _ _ _ q2) .nil))
  ·cases h
end
def Sound (P:Program)(f:Nat)(G:List AV→Tr AV):Prop :=
 ∀as1 v,(G as1).get=some v→aX P f as1 v∧∃fn,P.funcs[f]?=some fn∧fn.body.isSome=true
def aT (P:Program)(b:Code)(F:St→Tr Out):Prop := ∀s out,(F s).get=some out→aC P b s out
def Rf:Code→Option Nat
 | .region id _ _=>some id
 | .seq a b=>match Rf a with
  |some i=>some i
  |none=>Rf b
 | .cond _ a b=>match Rf a with
  |some i=>some i
  |none=>Rf b
 | .block _ b=>Rf b
 | .loop b=>Rf b
 | .scope b=>Rf b
 |_=>none
def lkF (f:Nat):List (Nat×(List AV→Tr AV))→Option (List AV→Tr AV)
 | []=>none
 |(g,G)::t=>if f=g then some G else lkF f t
def lkL (fn:Nat)(r:Option Nat):List (Nat×Nat×(Code→St→Tr Out))→Option (Code→St→Tr Out)
 | []=>none
 |(f,i,F)::t=>if fn=f∧r=some i then some F else lkL fn r t
def lkH (f:Nat):List (Nat×(List AV→Hp→Tr bL))→Option (List AV→Hp→Tr bL)
 | []=>none
 |(g,G)::t=>if f=g then some G else lkH f t
def gm (P:Program)(kill:Nat→Nat→List Nat)(tab:List (Nat×(List AV→Tr AV)))(ls:List (Nat×Nat×(Code→St→Tr Out)))(fs:List (Nat×(List AV→Hp→Tr bL))):ar where
 P:=P
 pf f:=(lkF f tab).isSome
 G f as1:=match lkF f tab with
  |some G=>G as1
  |none=>.fail
 kill:=kill
 qi fn b:=(lkL fn (Rf b) ls).map fun F=>F b
 J6 f:=lkH f fs
def dF (P:Program)(f:Nat)(F:List AV→Hp→Tr bL):Prop := ∀args h res,(F args h).get=some res→dz P f args h res∧∃fn,P.funcs[f]?=some fn∧fn.body.isSome=true
def rf (P:Program):List (Nat×(List AV→Hp→Tr bL))→Prop
 | []=>True
 |(f,F)::t=>dF P f F∧rf P t
def tV (P:Program):List (Nat×(List AV→Tr AV))→Prop
 | []=>True
 |(f,G)::t=>Sound P f G∧tV P t
structure V5 (P:Program):Prop where
 named : ∀ (f : Nat) (fn : Func), P.funcs[f]? = some fn → fn.body.isSome = true → (fn.name == "runtime.NumGoroutine") = false
theorem xR {P:Program}{f:Nat}{G:List AV→Tr AV}:∀{tab:List (Nat×(List AV→Tr AV))},tV P tab→lkF f tab=some G→Sound P f G
 | [],_,h=>by simp[lkF]at h
 |(g,G')::t,hs,h=>by
  simp only[lkF]at h
  split at h
  ·rename_i e
   simp only[A']at h
   subst e;subst h
   exact hs.1
  ·exact xR hs.2 h
def shut {α:Type}(a:α):α:=Classical.choose (⟨a,rfl⟩:∃x,x=a)
theorem fL {α:Type}(a:α):shut a=a:=Classical.choose_spec (⟨a,rfl⟩:∃x,x=a)
def PS (P:Program)(f:Nat)(as1:List AV)(v:AV):Prop:=aX P f as1 v∧∃fn,P.funcs[f]?=some fn∧fn.body.isSome=true
def g0 (F:Tr AV):List AV→Tr AV
 | []=>F
 |_=>.fail
def g1 {α:Type}(a:D α)(F:α→Tr AV):List AV→Tr AV
 | [x]=>(Tr.opt (a.dec x)).bind F
 |_=>.fail
def g2 {α β:Type}(a:D α)(b:D β)(F:α→β→Tr AV):List AV→Tr AV
 | [x,y]=>(Tr.opt (a.dec x)).bind fun x=>(Tr.opt (b.dec y)).bind fun y=>F x y
 |_=>.fail
def g3 {α β γ:Type}(a:D α)(b:D β)(c:D γ)(F:α→β→γ→Tr AV):List AV→Tr AV
 | [x,y,z]=>(Tr.opt (a.dec x)).bind fun x=>(Tr.opt (b.dec y)).bind fun y=>(Tr.opt (c.dec z)).bind fun z=>F x y z
 |_=>.fail
def g4 {α β γ δ:Type}(a:D α)(b:D β)(c:D γ)(d:D δ)(F:α→β→γ→δ→Tr AV):List AV→Tr AV
 | [x,y,z,u]=>(Tr.opt (a.dec x)).bind fun x=>(Tr.opt (b.dec y)).bind fun y=>(Tr.opt (c.dec z)).bind fun z=>(Tr.opt (d.dec u)).bind fun u=>F x y z u
 |_=>.fail
def KW (P:Program)(f:Nat)(as1:List AV)(t:Tr AV):Prop := ∀v,t.get=some v→aX P f as1 v∧∃fn,P.funcs[f]?=some fn∧fn.body.isSome=true
theorem aX.args {P:Program}{f:Nat}{as1 bs:List AV}{v:AV}(h:aX P f bs v)(hc:∀w cs,aI (cH w) [] w as1 cs→aI (cH w) [] w bs cs):aX P f as1 v :=
 fun w bw hg hr=>h w bw hg (hc w _ hr)
theorem vN {P:Program}{f:Nat}{F:Tr AV}(h:KW P f [] F):Sound P f (g0 F):=by
 intro as1 v he;cases as1 with
 |nil=>exact h v he
 |cons=>simp[g0]at he
theorem aH {P:Program}{f:Nat}{α:Type}{a:D α}{F:α→Tr AV}(h:∀x,KW P f [a.arg x] (F x)):Sound P f (g1 a F):=by
 intro as1 v he;unfold g1 at he;split at he
 ·simp only[get_bind,bB,B']at he;obtain⟨x,h1,h2⟩:=he;obtain⟨h3,h4⟩:=h x v h2;refine⟨h3.args fun w cs hr=>?_,h4⟩;cases hr with
  |cons q r=>exact .cons (a.ok _ _ h1 _ _ _ _ q) r
 ·simp at he
theorem aP {P:Program}{f:Nat}{α β:Type}{a:D α}{b:D β}{F:α→β→Tr AV}(h:∀x y,KW P f [a.arg x,b.arg y] (F x y)):Sound P f (g2 a b F):=by
 intro as1 v he;unfold g2 at he;split at he
 ·simp only[get_bind,bB,B']at he;obtain⟨x,h1,y,h2,he⟩:=he;obtain⟨h3,h4⟩:=h x y v he;refine⟨h3.args fun w cs hr=>?_,h4⟩;cases hr with
  |cons q r=>cases r with|cons q2 r=>exact .cons (a.ok _ _ h1 _ _ _ _ q) (.cons (b.ok _ _ h2 _ _ _ _ q2) r)
 ·simp at he
theorem dc {P:Program}{f:Nat}{α β γ:Type}{a:D α}{b:D β}{c:D γ}{F:α→β→γ→Tr AV}(h:∀x y z,KW P f [a.arg x,b.arg y,c.arg z] (F x y z)):Sound P f (g3 a b c F):=by
 intro as1 v he;unfold g3 at he;split at he
 ·simp only[get_bind,bB,B']at he;obtain⟨x,h1,y,h2,z,h3,he⟩:=he;obtain⟨h4,h5⟩:=h x y z v he;refine⟨h4.args fun w cs hr=>?_,h5⟩;cases hr with
  |cons q r=>cases r with|cons q2 r=>cases r with|cons q3 r=>exact .cons (a.ok _ _ h1 _ _ _ _ q) (.cons (b.ok _ _ h2 _ _ _ _ q2) (.cons (c.ok _ _ h3 _ _ _ _ q3) r))
 ·simp at he
theorem EC {P:Program}{f:Nat}{α β γ δ:Type}{a:D α}{b:D β}{c:D γ}{d:D δ}{F:α→β→γ→δ→Tr AV}(h:∀x y z u,KW P f [a.arg x,b.arg y,c.arg z,d.arg u] (F x y z u)):Sound P f (g4 a b c d F):=by
 intro as1 v he;unfold g4 at he;split at he
 ·simp only[get_bind,bB,B']at he;obtain⟨x,h1,y,h2,z,h3,u,h4,he⟩:=he;obtain⟨h5,h6⟩:=h x y z u v he;refine⟨h5.args fun w cs hr=>?_,h6⟩;cases hr with
  |cons q r=>cases r with|cons q2 r=>cases r with|cons q3 r=>cases r with|cons q4 r=>exact .cons (a.ok _ _ h1 _ _ _ _ q) (.cons (b.ok _ _ h2 _ _ _ _ q2) (.cons (c.ok _ _ h3 _ _ _ _ q3) (.cons (d.ok _ _ h4 _ _ _ _ q4) r)))
 ·simp at he
mutual
theorem mI:∀v:AV,bz (strip false v)=bz v
 | .any | .undef | .bool _ | .aU _ | .int .. | .bj .. | .u64 _ | .str _ | .ints .. | .ptr .. | .ptri .. | .nilptr | .slf _ | .itr .. | .vsl .. | .nilsl | .yield _ | .nilfunc | .niliface | .ptrf _=>by simp[strip,bz]
 | .list e l t=>by cases t<;>simp[strip,bz,Tk.res]
 | .agg l=>by simp only[strip,bz];exact dZ l
 | .tuple l=>by simp only[strip,bz];exact dZ l
 | .vlist _ l=>by simp only[strip,bz];rw[dZ l];simp
 | .vany t l=>by cases t<;>simp only[strip,bz]<;>rw[dZ l]<;>simp[Tk.res,Tk.made]
 | .iface _ v=>by simp only[strip,bz];exact mI v
 | .func _ a b=>by simp only[strip,bz];rw[dZ a,dZ b]
theorem dZ:∀l:List AV,da (cO false l)=da l
 | []=>rfl
 |v::vs=>by simp only[cO,da];rw[mI v,dZ vs]
end
theorem zh {B:ar}{n f:Nat}{as1:List AV}{v:AV}(h:(cP B n f as1).get=some v):bz v=true:=by
 unfold cP at h;simp only[get_bind,B']at h;obtain⟨r,_,h2⟩:=h;split at h2
 ·split at h2
  ·rename_i hc;simp only[aj,A']at h2;subst h2;simp only[E']at hc;rw[mI];exact hc.2
  ·simp at h2
 ·simp at h2
theorem MP {B:ar}(hB:aO B){n f:Nat}{as1:List AV}{v:AV}(h:(cP B n f as1).get=some v){α:Type}(d:D α){x:α}(hd:d.dec v=some x):PS B.P f as1 (d.res x):=by obtain⟨h3,h4⟩:=nK hB h;refine⟨fun w bw hg hr=>(h3 w bw hg hr).mono ?_,h4⟩;rintro e w' ⟨y,rfl,hb,hx⟩;exact⟨y,rfl,hb,d.AZ _ _ hd (zh h) _ _ _ hx⟩
def rB (P:Program):List (Nat×Nat×(Code→St→Tr Out))→Prop
 | []=>True
 |(_,_,F)::t=>(∀b,aT P b (F b))∧rB P t
theorem yg {P:Program}{fn:Nat}{r:Option Nat}{F:Code→St→Tr Out}:∀{ls:List (Nat×Nat×(Code→St→Tr Out))},rB P ls→lkL fn r ls=some F→∀b,aT P b (F b)
 | [],_,h=>by simp[lkL]at h
 |(f,i,F')::t,hs,h=>by
  simp only[lkL]at h
  split at h
  ·simp only[A']at h
   subst h
   exact hs.1
  ·exact yg hs.2 h
theorem yV {P:Program}{f:Nat}{G:List AV→Hp→Tr bL}:∀{tab:List (Nat×(List AV→Hp→Tr bL))},rf P tab→lkH f tab=some G→dF P f G
 | [],_,h=>by simp[lkH]at h
 |(g,G')::t,hs,h=>by
  simp only[lkH]at h
  split at h
  ·rename_i e
   simp only[A']at h
   subst e;subst h
   exact hs.1
  ·exact yV hs.2 h
theorem af {P:Program}(hn:V5 P){kill:Nat→Nat→List Nat}{tab:List (Nat×(List AV→Tr AV))}{ls:List (Nat×Nat×(Code→St→Tr Out))}{fs:List (Nat×(List AV→Hp→Tr bL))}(ht:tV P tab)(hl:rB P ls)(hf:rf P fs):aO (gm P kill tab ls fs) where
 named:=hn.named
 J6 f F args h res h1 h2:=yV hf h1 args h res h2
 qi fn b F s out h1 h2:=by
  simp only[gm,H']at h1
  obtain⟨F',h3,rfl⟩:=h1
  exact yg hl h3 b s out h2
 pf f as1 v h1 h2:=by
  simp only[gm]at h1 h2
  cases hk:lkF f tab with
  |none=>rw[hk]at h1;cases h1
  |some G =>
   rw[hk]at h2
   exact xR ht hk as1 v h2
def vz (B:ar)(m:Nat):Env:={ B with call:=Gs B m,loop:=DL B m }
def oc (a b:AV):Prop := ∀(g:Gh) (tk:List Nat) (w:World) (v:Value),aM g tk w a v→aM g tk w b v
def HU (a b:List AV):Prop := ∀(g:Gh) (tk:List Nat) (w:World) (v:List Value),ay g tk w a v→ay g tk w b v
theorem oc.refl (a:AV):oc a a:=fun _ _ _ _ h=>h
theorem oc.any (a:AV):oc a .any:=fun _ _ _ _ _=>.any _
theorem oc.bj (k:IntKind)(n:Int):oc (.bj k n) (.int k n):=fun _ _ _ _ h=>by cases h;exact .int _ _
theorem oc.aU (b:Bool):oc (.aU b) (.bool b):=fun _ _ _ _ h=>by cases h;exact .bool _
theorem oc.agg {l m:List AV}(h:HU l m):oc (.agg l) (.agg m):=fun _ _ _ _ hr=>by
 obtain⟨cs,rfl,hc⟩:=hr.cM
 exact .agg (h _ _ _ _ hc)
theorem oc.trans {a b c:AV}(h:oc a b)(k:oc b c):oc a c:=fun g tk w v hr=>k g tk w v (h g tk w v hr)
theorem HU.refl (a:List AV):HU a a:=fun _ _ _ _ h=>h
theorem HU.cons {a b:AV}{l m:List AV}(ha:aK a=true)(hb:aK b=true)(h:oc a b)(hl:HU l m):HU (a::l) (b::m):=fun g tk w v hr=>by
 obtain⟨c,r,rfl,q,h2⟩:=hr.inv_one ha
 exact .one hb (h g tk w c q) (hl g tk w r h2)
theorem HU.ints {k:IntKind}{n:Nat}{x:List Int}{l m:List AV}(hl:HU l m):HU (.ints k n x::l) (.ints k n x::m):=fun g tk w v hr=>by
 obtain⟨h1,r,rfl,h2⟩:=hr.bJ
 exact .ints h1 rfl (hl g tk w r h2)
def WkB (a b:List AV):Prop:=HU a b∧(nY a=none→b=a)
theorem WkB.refl (a:List AV):WkB a a:=⟨HU.refl a,fun _=>rfl⟩
inductive kP {α β:Type} (R:α→β→Prop):List α→List β→Prop
 |nil:kP R [] []
 |cons {a:α} {b:β} {l:List α} {m:List β} (h:R a b) (hl:kP R l m):kP R (a::l) (b::m)
structure Bi (s t:St):Prop where
 tmps:kP oc s.tmps t.tmps
 heap:kP WkB s.hp.heap t.hp.heap
 low:∀i,i<s.hp.lo→s.hp.heap[i]?=t.hp.heap[i]?
 ag:t.hp.ag=s.hp.ag
 loops:t.hp.loops=s.hp.loops
 lo:t.hp.lo=s.hp.lo
 tO:t.hp.tO=s.hp.tO
 qJ:t.hp.qJ=s.hp.qJ
theorem aI.wk {g:Gh}{tk:List Nat}{w:World}{l m:List AV}(h:kP oc l m){vs:List Value}(hr:aI g tk w l vs):aI g tk w m vs:=by
 induction h generalizing vs with
 |nil=>exact hr
 |cons h1 h2 ih=>cases hr with|cons q r=>exact .cons (h1 _ _ _ _ q) (ih r)
theorem Bs {α β:Type}{R:α→β→Prop}{l:List α}{m:List β}(h:kP R l m):l.length=m.length∧∀(i:Nat) y,m[i]?=some y→∃x,l[i]?=some x∧R x y:=by
 induction h with
 |nil=>simp_all
 |cons h1 h2 ih =>grind
theorem MR.wk {g:Gh}{s t:St}{w:World}(h:Bi s t)(m:MR g s.hp w):MR g t.hp w:=by
 obtain⟨h1,h2⟩:=Bs h.heap;refine⟨m.base,m.fC,m.dN.trans h1,fun i c l k1 k2=>?_,m.xc,by rw[h.ag];exact m.dW,by rw[h.ag];exact m.jU,by rw[h.ag];exact m.tok,m.xd,by rw[h.loops];exact m.gT,by rw[h.loops,h.ag];exact m.loop,m.xe,m.defs,m.iH⟩;obtain⟨x,k3,k4⟩:=h2 i l k2;obtain⟨a,f,o,d,e⟩:=m.var i c x k1 k3;rw[h.ag];refine⟨a,f,o,d,?_⟩;rcases e with⟨cs,ty,rfl,r⟩|⟨u,n,bs,rfl,r⟩
 ·exact .of (k4.1 _ _ _ _ r)
 ·rw[k4.2 rfl];exact .inr ⟨u,n,bs,rfl,r⟩
theorem Fl.wk {s t:St}(h:Bi s t){h':Hp}(hf:Fl t.hp h'):Fl s.hp h' :=
 ⟨hf.lo.trans h.lo,hf.tO.trans h.tO,hf.qJ.trans h.qJ,fun i x hi hx=>hf.heap i x (by rw[h.lo];exact hi) (by rw[←h.low i hi];exact hx),fun i x hi hx=>hf.ag i x (by rw[h.tO];exact hi) (by rw[h.ag];exact hx),fun i x hi hx=>hf.loops i x (by rw[h.qJ];exact hi) (by rw[h.loops];exact hx)⟩
theorem aC.wk {P:Program}{b:Code}{s t:St}{out:Out}(h:Bi s t)(hs:aC P b t out):aC P b s out:=by
 intro ro g w a W0 m ht mk hW hro;have hx:=hs ro g w a W0 (m.wk h) (by rw[h.ag];exact ht.wk h.tmps) mk hW hro;refine hJ hx ?_;intro e a' w' hp;have nx:∀{g' h'},Nx g t.hp w g' h' w'→Nx g s.hp w g' h' w':=fun n=>⟨n.mr,by have:=n.le;rw[h.ag]at this;exact this,n.fl.wk h⟩;cases out with
 |norm s=>obtain⟨e1,g1,n1,r1,m1⟩:=hp;exact⟨e1,g1,nx n1,r1,m1⟩
 |ret s=>obtain⟨e1,g1,n1,r1,m1⟩:=hp;exact⟨e1,g1,nx n1,r1,m1⟩
 |exit id s=>obtain⟨e1,g1,n1,r1,m1⟩:=hp;exact⟨e1,g1,nx n1,r1,m1⟩
 |panic v h=>obtain⟨x,g1,e1,n1,r1,m1⟩:=hp;exact⟨x,g1,e1,nx n1,r1,m1⟩
def WkO:Out→Out→Prop
 | .norm s,.norm t=>Bi s t
 | .ret s,.ret t=>Bi s t
 | .exit i s,.exit j t=>i=j∧Bi s t
 | .panic v h,.panic v' h'=>Bi ⟨[v],h⟩ ⟨[v'],h'⟩
 |_,_=>False
theorem Nx.wk {g:Gh}{h:Hp}{w:World}{g':Gh}{s t:St}{w':World}(hw:Bi s t)(n:Nx g h w g' s.hp w'):Nx g h w g' t.hp w' :=
 ⟨n.mr.wk hw,by have:=n.le;rw[hw.ag];exact this,
  ⟨hw.lo.trans n.fl.lo,hw.tO.trans n.fl.tO,hw.qJ.trans n.fl.qJ,fun i x hi hx=>by rw[←hw.low i (by rw[n.fl.lo];exact hi)];exact n.fl.heap i x hi hx,fun i x hi hx=>by rw[hw.ag];exact n.fl.ag i x hi hx,fun i x hi hx=>by rw[hw.loops];exact n.fl.loops i x hi hx⟩⟩
theorem lN.wk {g:Gh}{h:Hp}{w:World}{W0:DB}{o o':Out}{e:Exit}{a':Act}{w':World}(hw:WkO o o')(hp:lN g h w W0 o e a' w'):lN g h w W0 o' e a' w':=by
 cases o with
 |norm s =>
  cases o' with
  |norm t=>obtain⟨e1,g1,n1,r1,m1⟩:=hp;exact⟨e1,g1,n1.wk hw,by rw[hw.ag];exact r1.wk hw.tmps,m1⟩
  |_=>exact hw.elim
 |ret s =>
  cases o' with
  |ret t=>obtain⟨e1,g1,n1,r1,m1⟩:=hp;exact⟨e1,g1,n1.wk hw,by rw[hw.ag];exact r1.wk hw.tmps,m1⟩
  |_=>exact hw.elim
 |exit i s =>
  cases o' with
  |exit j t =>obtain⟨rfl,hw⟩:=hw;obtain⟨e1,g1,n1,r1,m1⟩:=hp;exact⟨e1,g1,n1.wk hw,by rw[hw.ag];exact r1.wk hw.tmps,m1⟩
  |_=>exact hw.elim
 |panic v h1 =>
  cases o' with
  |panic v' h1' =>
   obtain⟨x,g1,e1,n1,r1,m1⟩:=hp;refine⟨x,g1,e1,Nx.wk (s:=⟨[v],h1⟩) (t:=⟨[v'],h1'⟩) hw n1,?_,m1⟩;have:=hw.tmps;cases this with
   |cons q _=>rw[show h1'.ag=h1.ag from hw.ag];exact q _ _ _ _ r1
  |_=>exact hw.elim
theorem aC.out {P:Program}{b:Code}{s:St}{o o':Out}(hw:WkO o o')(hs:aC P b s o):aC P b s o' :=
 fun ro g w a W0 m ht mk hW hro=>hJ (hs ro g w a W0 m ht mk hW hro) fun _ _ _ hp=>hp.wk hw
theorem aC.step {B:ar}(hB:aO B){m fn:Nat}{b:Code}{s s1:St}{out:Out}(h1:(n9 (vz B m) (DL B m) fn b s).get=some (.norm s1))(h2:aC B.P b s1 out):aC B.P b s out:=by obtain⟨i1,i2,i3⟩:=ss hB m;have ok:oP (vz B m):=⟨hB.qi,hB.named,hB.pf,i1⟩;have hc:=oQ ok i2 i3 fn b s (.norm s1) h1;intro ro g w a W0 mr ht mk hW hro;refine eX (wpIn_mono (hc ro g w a W0 mr ht mk hW hro) ?_);rintro e a1 w1 ⟨rfl,g1,nx,hr,mk1⟩;have:=h2 ro g1 w1 a1 W0 nx.mr hr mk1 (Nat.le_trans hW nx.le.below.size) (fun c hc=>let ⟨l,hl⟩:=hro c hc; ⟨l,nx.le.loops _ _ hl⟩);exact hJ this fun e a2 w2 hp2=>hp2.nx nx
theorem aC.stop {B:ar}(hB:aO B){m fn:Nat}{b:Code}{s:St}{out:Out}(h1:(n9 (vz B m) (DL B m) fn b s).get=some out)(hn:∀s1,out≠.norm s1):aC B.P b s out:=by
 obtain⟨i1,i2,i3⟩:=ss hB m;have ok:oP (vz B m):=⟨hB.qi,hB.named,hB.pf,i1⟩;have hc:=oQ ok i2 i3 fn b s out h1;intro ro g w a W0 mr ht mk hW hro;refine eX (wpIn_mono (hc ro g w a W0 mr ht mk hW hro) ?_);intro e a1 w1 hp;cases out with
 |norm s1=>simp_all
 |ret s1=>obtain⟨rfl,rest⟩:=hp;exact⟨rfl,rest⟩
 |exit i s1=>obtain⟨rfl,rest⟩:=hp;exact⟨rfl,rest⟩
 |panic v h=>obtain⟨x,g1,rfl,rest⟩:=hp;exact⟨x,g1,rfl,rest⟩
def oh (i:Nat):Code→Option Code
 | .seq a b=>match oh i a with
  |some c=>some c
  |none=>oh i b
 | .cond _ a b=>match oh i a with
  |some c=>some c
  |none=>oh i b
 | .block _ b=>oh i b
 | .scope b=>oh i b
 | .rangeFunc _ _ a b=>match oh i a with
  |some c=>some c
  |none=>oh i b
 | .loop b=>if Rf b=some i then some b else oh i b
 |_=>none
def E7 (P:Program)(f:Nat):Code:=(((P.funcs[f]?).bind (·.body))).getD .skip
def bc (P:Program)(f i:Nat):Code:=(oh i (E7 P f)).getD .skip
theorem kP.same {α:Type}{R:α→α→Prop}(h:∀a,R a a):∀l,kP R l l
 | []=>.nil
 |a::l=>.cons (h a) (kP.same h l)
theorem vS:∀(i:Nat) (ts:List Nat) (l:List AV),kP oc l (ml i l ts)
 |_,_,[]=>by rw[ml];exact .nil
 |_,[],a::l=>by rw[ml];exact kP.same oc.refl _
 |i,t::ts,a::l=>by
  rw[ml]
  cases Nat.beq i t with
  |true=>exact .cons (oc.any _) (vS (i+1) ts l)
  |false=>exact .cons (oc.refl _) (vS (i+1) (t::ts) l)
theorem UH (ts:List Nat)(l:List AV):kP oc l (Bj l ts):=vS 0 ts l
theorem Bi.kill (ts:List Nat){l m:List AV}(h:Hp)(e:Bj l ts=m):Bi ⟨l,h⟩ ⟨m,h⟩ :=
 ⟨e ▸ UH ts l,kP.same WkB.refl _,fun _ _=>rfl,rfl,rfl,rfl,rfl,rfl⟩
def Got {α:Type}(d:D α)(T:Tr AV)(ok:Bool)(x:α):Prop:=ok=true→∃v,T.get=some v∧d.dec v=some x
noncomputable section
variable {α:Type}{d:D α}
theorem go_ret {v:AV}{x:α}(h:d.dec v=some x):Got d (.ret v) true x:=fun _=>⟨v,rfl,h⟩
end
noncomputable section
variable {α V:Type}{R:α→V→Prop}
def pT (R:α→V→Prop)(T:Tr α)(ok:Bool)(x:V):Prop:=ok=true→∃v,T.get=some v∧R v x
theorem NM {v:α}{x:V}(h:R v x):pT R (.ret v) true x:=fun _=>⟨v,rfl,h⟩
theorem aed {b ok1 ok2:Bool}{t e:Tr α}{x y:V}(h1:pT R t ok1 x)(h2:pT R e ok2 y):pT R (.br b t e) (bif b then ok1 else ok2) (bif b then x else y):=by
 intro h;cases b with
 |true=>exact h1 h
 |false=>exact h2 h
theorem vl {b ok:Bool}{t:Tr α}{x:V}(h1:pT R t ok x):pT R (.br b t .fail) (b&&ok) x:=by
 intro h;cases b with
 |true=>exact h1 h
 |false=>cases h
theorem Jy {b ok:Bool}{t:Tr α}{x:V}(h1:pT R t ok x):pT R (.br b .fail t) (!b&&ok) x:=by
 intro h;cases b with
 |true=>cases h
 |false=>exact h1 h
end
instance {α β:Type}[Inhabited α]:Inhabited (α ⊕ β):=⟨.inl default⟩
def cQ {α β:Type}:α ⊕ β→Bool
 | .inl _=>true
 | .inr _=>false
def gl {α β:Type}[Inhabited α]:α ⊕ β→α
 | .inl a=>a
 | .inr _=>default
def gr {α β:Type}[Inhabited β]:α ⊕ β→β
 | .inl _=>default
 | .inr b=>b
noncomputable section
variable {α V:Type}{R:α→V→Prop}{A B C D:Type}[Inhabited A][Inhabited B][Inhabited C][Inhabited D]
end
def pY (n:Nat)(v:AV)(h:Hp):Hp :=
 if cK n h.ag.length h.loops.length v&&(h.heap.take n).all (gj n h.ag.length h.loops.length)&&h.loops.all (fun r=>gj n h.ag.length h.loops.length r.tmps)then { h with heap:=h.heap.take n }else h
theorem pM {g g':Gh}{h h':Hp}{w w':World}{v:AV}{x:Value}(m:MR g h w)(m':MR g' h' w')(hle:Le g h.ag w g' h'.ag w')(hf:Fl h h')(hv:aM g' h'.ag w' v x) :
  ∃g'',MR g'' (pY h.heap.length v h') w'∧Le g h.ag w g'' (pY h.heap.length v h').ag w'∧Fl h (pY h.heap.length v h')∧aM g'' (pY h.heap.length v h').ag w' v x∧(∀D,D∈g'.defs→D∈g''.defs):=by
 unfold pY;split
 ·rename_i hc;simp only[E',List.all_eq_true]at hc;obtain⟨⟨hb1,hb2⟩,hb3⟩:=hc;have hsub:∀(i c:Nat),(g'.vars.take h.heap.length)[i]?=some c→i<h.heap.length∧g'.vars[i]?=some c:=by grind
  have hget:∀(i c:Nat),i<h.heap.length→g'.vars[i]?=some c→(g'.vars.take h.heap.length)[i]?=some c:=by simp_all
  have cut:Cut h.heap.length h'.ag.length h'.loops.length g' h'.ag { g' with vars:=g'.vars.take h.heap.length } h'.ag :=
   ⟨rfl,fun _ _ x=>x,by simp_all,fun _ _ _ x=>x,by simp_all⟩
  refine⟨{ g' with vars:=g'.vars.take h.heap.length },⟨m'.base,m'.fC,by simp[m'.dN],fun i c l h1 h2=>?_,fun i j c h1 h2=>m'.xc i j c (hsub _ _ h1).2 (hsub _ _ h2).2,m'.dW,m'.jU,fun k b cap z h1=>?_,m'.xd,m'.gT,fun l c r h1 h2=>?_,m'.xe,m'.defs,m'.iH⟩,?_,?_,?_,fun _ x=>x⟩
  ·obtain⟨hi,h1'⟩:=hsub _ _ h1;simp only at h2;have h2m:=h2;rw[List.getElem?_take_of_lt hi]at h2;obtain⟨a,f,o,d',e⟩:=m'.var i c l h1' h2;exact⟨a,f,o,d',e.cut cut (by grind)⟩
  ·obtain⟨q,cs,t,a1,a2,a3,a4,a5,a6,a7,a8⟩:=m'.tok k b cap z h1;grind
  ·obtain⟨a,R,f,d'⟩:=m'.loop l c r h1 h2;exact⟨a,R,f,d'.cut cut (by grind)⟩
  ·exact⟨hle.base,hle.below,hle.fz,hle.cell,fun i c hx=>hget i c (by have:=bI hx;rw[m.dN]at this;exact this) (hle.vars i c hx),hle.loops,hle.defs,hle.tok,hle.shape⟩
  ·exact⟨hf.lo,hf.tO,hf.qJ,fun i x hi hx=>by
    show(h'.heap.take h.heap.length)[i]?=_
    rw[List.getElem?_take_of_lt (bI hx)];exact hf.heap i x hi hx,hf.ag,hf.loops⟩
  ·exact hv.cut cut hb1
 grind
def yy (n:Nat)(s:St):St:=⟨s.tmps,pY n (.tuple s.tmps) s.hp⟩
def KA (n:Nat):Out→Out
 | .norm s=>.norm (yy n s)
 | .ret s=>.ret (yy n s)
 | .exit i s=>.exit i (yy n s)
 | .panic v h=>.panic v (pY n v h)
theorem lN.cut {g:Gh}{h:Hp}{w:World}{W0:DB}{o:Out}{e:Exit}{a':Act}{w':World}(m:MR g h w)(hp:lN g h w W0 o e a' w'):lN g h w W0 (KA h.heap.length o) e a' w':=by
 have key:∀(s:St),(∃g',Nx g h w g' s.hp w'∧aI g' s.hp.ag w' s.tmps a'.tmps.toList∧Marks g' W0 a'.defers) →
   ∃g',Nx g h w g' (yy h.heap.length s).hp w'∧aI g' (yy h.heap.length s).hp.ag w' (yy h.heap.length s).tmps a'.tmps.toList∧Marks g' W0 a'.defers:=by
  rintro s ⟨g1,n1,r1,m1⟩
  obtain⟨g2,m2,l2,f2,r2,d2⟩:=pM m n1.mr n1.le n1.fl (aM.tuple (vs:=a'.tmps) r1)
  refine⟨g2,⟨m2,l2,f2⟩,?_,m1.mono d2⟩
  cases r2 with
  |tuple h=>exact h
 cases o with
 |norm s=>exact⟨hp.1,key s hp.2⟩
 |ret s=>exact⟨hp.1,key s hp.2⟩
 |exit i s=>exact⟨hp.1,key s hp.2⟩
 |panic v h1 =>obtain⟨x,g1,e1,n1,r1,m1⟩:=hp;obtain⟨g2,m2,l2,f2,r2,d2⟩:=pM m n1.mr n1.le n1.fl r1;exact⟨x,g2,e1,⟨m2,l2,f2⟩,r2,m1.mono d2⟩
def oO (B:ar)(m fn:Nat)(b:Code)(s:St):Tr Out:=(n9 (vz B m) (DL B m) fn b s).bind fun o=>.ret (KA s.hp.heap.length o)
theorem Jx {B:ar}(hB:aO B){m fn:Nat}{b:Code}{s:St}{out:Out}(h1:(oO B m fn b s).get=some out):se B.P b s out:=by obtain⟨i1,i2,i3⟩:=ss hB m;have ok:oP (vz B m):=⟨hB.qi,hB.named,hB.pf,i1⟩;unfold oO at h1;simp only[get_bind,aj,B',A']at h1;obtain⟨o,h1,rfl⟩:=h1;have hc:=oQ ok i2 i3 fn b s o h1;intro ro g w a W0 mr ht mk hW hro;exact wpIn_mono (hc ro g w a W0 mr ht mk hW hro) fun e a1 w1 hp=>hp.cut mr
theorem aC.aj2 {P:Program}{b:Code}{s s1:St}{out:Out}(hc:se P b s (.norm s1))(h2:aC P b s1 out):aC P b s out:=by intro ro g w a W0 mr ht mk hW hro;refine eX (wpIn_mono (hc ro g w a W0 mr ht mk hW hro) ?_);rintro e a1 w1 ⟨rfl,g1,nx,hr,mk1⟩;have:=h2 ro g1 w1 a1 W0 nx.mr hr mk1 (Nat.le_trans hW nx.le.below.size) (fun c hc=>let ⟨l,hl⟩:=hro c hc; ⟨l,nx.le.loops _ _ hl⟩);exact hJ this fun e a2 w2 hp2=>hp2.nx nx
theorem aC.ahA {P:Program}{b:Code}{s:St}{out:Out}(hc:se P b s out)(hn:∀s1,out≠.norm s1):aC P b s out:=by
 intro ro g w a W0 mr ht mk hW hro;refine eX (wpIn_mono (hc ro g w a W0 mr ht mk hW hro) ?_);intro e a1 w1 hp;cases out with
 |norm s1=>simp_all
 |ret s1=>obtain⟨rfl,rest⟩:=hp;exact⟨rfl,rest⟩
 |exit i s1=>obtain⟨rfl,rest⟩:=hp;exact⟨rfl,rest⟩
 |panic v h=>obtain⟨x,g1,rfl,rest⟩:=hp;exact⟨x,g1,rfl,rest⟩
def ais:AV→Nat
 | .any=>0 | .undef=>1 | .bool _=>2 | .aU _=>2 | .int .. => 3 | .bj .. => 3 | .u64 _=>4 | .str _=>5 | .agg _=>6 | .ints .. => 7
 | .ptr b o=>100+16*b+o | .ptri .. => 8 | .ptrf _=>9 | .nilptr=>10 | .slf _=>19 | .list .. => 11 | .vlist .. => 12 | .vany _ l=>5000+l.length | .vsl .. => 13 | .nilsl=>14
 | .func f _ _=>1000+f | .yield l=>50+l | .nilfunc=>15 | .iface .. => 16 | .niliface=>17 | .tuple _=>18 | .itr .. => 20
def shp (js:List Nat)(s:St):List Nat:=js.map (fun j=>ais (s.tmps.getD j .any))++s.hp.heap.flatMap (fun b=>b.length::b.map ais)++s.hp.loops.map (·.fn)
theorem kz {P:Program}{c:St→Bool}{F G:Code→St→Tr Out}(hF:∀b,aT P b (F b))(hG:∀b,aT P b (G b)):∀b,aT P b (fun s=>bif c s then F b s else G b s):=by
 intro b s out h;simp only at h;cases hc:c s with
 |true=>rw[hc]at h;exact hF b s out h
 |false=>rw[hc]at h;exact hG b s out h
theorem uM {P:Program}:∀b,aT P b (fun _=>.fail):=fun _ _ _ h=>by cases h
inductive aG (X R:Type) where
 |go (x:X)
 |out (r:R)
 |bad
def cW {X R:Type}(step:X→aG X R):Nat→X→Option R
 | 0,_=>none
 |n+1,x=>match step x with
  | .go y=>cW step n y
  | .out r=>some r
  | .bad=>none
def RL {X R:Type}(S:X→St)(O:R→Out)(o:Out)(st:aG X R):Prop :=
 match st with
 | .go y=>∃s1,o=.norm s1∧Bi s1 (S y)
 | .out r=>(∀s,o≠.norm s)∧WkO o (O r)
 | .bad=>False
theorem aC.cW {B:ar}(hB:aO B){m fn:Nat}{b:Code}{X R:Type}{S:X→St}{O:R→Out}{ok:X→Bool}{st:X→aG X R}
  (h:∀x,pT (RL S O) (n9 (vz B m) (DL B m) fn b (S x)) (ok x) (st x)) :
  ∀(n:Nat) (x:X) (r:R),cW (fun x=>bif ok x then st x else .bad) n x=some r→aC B.P b (S x) (O r)
 | 0,x,r,hi=>by simp[Kz.cW]at hi
 |n+1,x,r,hi=>by
  rw[Kz.cW]at hi
  cases hok:ok x with
  |false=>simp_all
  |true =>
   rw[hok]at hi
   simp only[cond_true]at hi
   obtain⟨o,h1,h2⟩:=h x hok
   cases hs:st x with
   |go y =>
    rw[hs]at hi h2
    obtain⟨s1,rfl,hw⟩:=h2
    exact aC.step hB h1 (aC.wk hw (aC.cW hB h n y r hi))
   |out r' =>
    rw[hs]at hi h2
    simp only[A']at hi
    subst hi
    obtain⟨hn,hw⟩:=h2
    exact aC.out hw (aC.stop hB h1 hn)
   |bad=>simp_all
def many:Nat:=4294967296
theorem rT {α:Type}[Inhabited α]{o:Option α}(h:o.isSome=true):o=some (o.getD default):=by
 cases o with
 |none=>cases h
 |some a=>rfl
def WkF:bL→bL→Prop
 | .ret v h,.ret v' h'=>Bi ⟨[v],h⟩ ⟨[v'],h'⟩
 | .panic v h,.panic v' h'=>Bi ⟨[v],h⟩ ⟨[v'],h'⟩
 |_,_=>False
theorem dz.wk {P:Program}{f:Nat}{as1 as':List AV}{h h':Hp}{res:bL}(hs:dz P f as' h' res)(hw:Bi ⟨as1,h⟩ ⟨as',h'⟩):dz P f as1 h res:=by
 intro g w bw m hr;have hx:=hs g w bw (m.wk (s:=⟨as1,h⟩) (t:=⟨as',h'⟩) hw) (by rw[show h'.ag=h.ag from hw.ag];exact hr.wk hw.tmps);refine hx.mono ?_;intro e w' hp;have nx:∀{g' h2},Nx g h' w g' h2 w'→Nx g h w g' h2 w':=fun n=>⟨n.mr,by have:=n.le;rw[show h'.ag=h.ag from hw.ag]at this;exact this,Fl.wk (s:=⟨as1,h⟩) (t:=⟨as',h'⟩) hw n.fl⟩;cases res with
 |ret v h2=>obtain⟨g',x,rfl,n,q⟩:=hp;exact⟨g',x,rfl,nx n,q⟩
 |panic v h2=>obtain⟨g',x,rfl,n,q⟩:=hp;exact⟨g',x,rfl,nx n,q⟩
theorem dz.out {P:Program}{f:Nat}{as1:List AV}{h:Hp}{res res':bL}(hs:dz P f as1 h res)(hw:WkF res res'):dz P f as1 h res':=by
 intro g w bw m hr;refine(hs g w bw m hr).mono ?_;intro e w' hp;cases res with
 |ret v h2 =>
  cases res' with
  |ret v' h2' =>
   obtain⟨g',x,rfl,n,q⟩:=hp;refine⟨g',x,rfl,Nx.wk (s:=⟨[v],h2⟩) (t:=⟨[v'],h2'⟩) hw n,?_⟩;have:=hw.tmps;cases this with
   |cons a _=>rw[show h2'.ag=h2.ag from hw.ag];exact a _ _ _ _ q
  |panic=>exact hw.elim
 |panic v h2 =>
  cases res' with
  |panic v' h2' =>
   obtain⟨g',x,rfl,n,q⟩:=hp;refine⟨g',x,rfl,Nx.wk (s:=⟨[v],h2⟩) (t:=⟨[v'],h2'⟩) hw n,?_⟩;have:=hw.tmps;cases this with
   |cons a _=>rw[show h2'.ag=h2.ag from hw.ag];exact a _ _ _ _ q
  |ret=>exact hw.elim
def RF {Y:Type}(O:Y→bL)(res:bL)(y:Y):Prop:=WkF res (O y)
theorem aaD {Y:Type}{O:Y→bL}{v v':AV}{h h':Hp}{y:Y}(e:O y=.ret v' h')(hw:Bi ⟨[v],h⟩ ⟨[v'],h'⟩):RF O (.ret v h) y:=by unfold RF;rw[e];exact hw
def PD (n:Nat):bL→bL
 | .ret v h=>.ret v (pY n v h)
 | .panic v h=>.panic v (pY n v h)
theorem dz.cut {P:Program}{f:Nat}{as1:List AV}{h:Hp}{res:bL}(hs:dz P f as1 h res):dz P f as1 h (PD h.heap.length res):=by
 intro g w bw m hr;refine(hs g w bw m hr).mono ?_;intro e w' hp;cases res with
 |ret v h2 =>obtain⟨g',x,rfl,n,q⟩:=hp;obtain⟨g2,m2,l2,f2,r2,_⟩:=pM m n.mr n.le n.fl q;exact⟨g2,x,rfl,⟨m2,l2,f2⟩,r2⟩
 |panic v h2 =>obtain⟨g',x,rfl,n,q⟩:=hp;obtain⟨g2,m2,l2,f2,r2,_⟩:=pM m n.mr n.le n.fl q;exact⟨g2,x,rfl,⟨m2,l2,f2⟩,r2⟩
def Cq (B:ar)(n f:Nat)(as1:List AV)(h:Hp):Tr bL:=(Gs B n f as1 h).bind fun r=>.ret (PD h.heap.length r)
theorem UL {B:ar}(hB:aO B){n f:Nat}{as1:List AV}{h:Hp}{T:Tr bL}{Y:Type}{O:Y→bL}{ok:Bool}{y:Y}
  (he:Cq B n f as1 h=T) (hg:pT (RF O) T ok y) (hok:ok=true):dz B.P f as1 h (O y)∧∃fn,B.P.funcs[f]?=some fn∧fn.body.isSome=true:=by obtain⟨v,h1,h2⟩:=hg hok;rw[←he]at h1;unfold Cq at h1;simp only[get_bind,aj,B',A']at h1;obtain⟨r,h1,rfl⟩:=h1;obtain⟨h3,h4⟩:=(ss hB n).1 _ _ _ _ h1;exact⟨h3.cut.out h2,h4⟩
noncomputable section
variable {α V:Type}{R:α→V→Prop}
end
def RD {α:Type}(d:D α)(v:AV)(x:α):Prop:=d.dec v=some x
theorem F3 {B:ar}(hB:aO B){n f:Nat}{as1:List AV}{T:Tr AV}{α:Type}{d:D α}{ok:Bool}{x:α}(he:cP B n f as1=T)(hg:pT (RD d) T ok x)(h:ok=true):PS B.P f as1 (d.res x):=by obtain⟨v,h1,h2⟩:=hg h;exact MP hB (by rw[he];exact h1) d h2
abbrev tI:AV→Int
 | .int _ n | .bj _ n=>n
 |_=>0
abbrev tB:AV→Bool
 | .bool b | .aU b=>b
 |_=>false
abbrev tU:AV→BitVec 64
 | .u64 x=>x
 |_=>0
abbrev tL (e:ET):AV→List e.T
 | .list e' l _=>if h:e'=e then h ▸ l else[]
 |_=>[]
abbrev tN:AV→List Int
 | .ints _ _ l=>l
 |_=>[]
abbrev tA:AV→List AV
 | .agg l=>l
 |_=>[]
abbrev tT (s:St)(i:Nat):AV:=s.tmps.getD i .any
abbrev tH (s:St)(b i:Nat):AV:=(s.hp.heap.getD b []).getD i .any
abbrev tK (s:St)(k:Nat):Nat:=s.hp.ag.getD k 0
abbrev tX (l:List AV)(i:Nat):AV:=l.getD i .any
@[reducible] def li (l:List Int):List Int:=l
def aaG {α β γ:Type}(d:AV→Option α)(e:AV→Option β)(f:AV→Option γ):AV→Option (α×β×γ)
 | .tuple [a,b,c]=>(d a).bind fun x=>(e b).bind fun y=>(f c).map fun z=>(x,y,z)
 |_=>none
def d3 {α β γ:Type}(d:D α)(e:D β)(f:D γ):D (α×β×γ) where
 arg p := .tuple [d.arg p.1,e.arg p.2.1,f.arg p.2.2]
 res p := .tuple [d.res p.1,e.res p.2.1,f.res p.2.2]
 dec:=aaG d.dec e.dec f.dec
 ok a x h g tk w c hr:=by
  unfold aaG at h
  split at h
  ·simp only[B',H']at h
   obtain⟨x,h1,y,h2,z,h3,rfl⟩:=h
   cases hr with
   |tuple hl =>
    rename_i a b c vs
    obtain⟨l⟩:=vs
    cases hl with
    |cons q r=>cases r with|cons q2 r2=>cases r2 with|cons q3 r3=>cases r3;exact .tuple (.cons (d.ok _ _ h1 _ _ _ _ q) (.cons (e.ok _ _ h2 _ _ _ _ q2) (.cons (f.ok _ _ h3 _ _ _ _ q3) .nil)))
  ·cases h
 AZ a x h hf g w c hr:=by
  unfold aaG at h
  split at h
  ·simp only[B',H']at h
   obtain⟨x,h1,y,h2,z,h3,rfl⟩:=h
   simp only[bz,da,E']at hf
   cases hr with
   |tuple hl =>
    rename_i a b c vs
    obtain⟨l⟩:=vs
    cases hl with
    |cons q r=>cases r with|cons q2 r2=>cases r2 with|cons q3 r3=>cases r3;exact .tuple (.cons (d.AZ _ _ h1 hf.1 _ _ _ q) (.cons (e.AZ _ _ h2 hf.2.1 _ _ _ q2) (.cons (f.AZ _ _ h3 hf.2.2.1 _ _ _ q3) .nil)))
  ·cases h
def rM (m:Pos×BitVec 64×BitVec 64):AV := .agg (bf (Pos.av m.1)++[.u64 m.2.1,.u64 m.2.2])
def D9:AV→Option (Pos×BitVec 64×BitVec 64)
 | .agg [v,.ints .u8 64 bd,.u64 pr,.ints .u8 12 pk,tn,.ints .i8 4 rk,ps,.ints .u8 2 ck,hf,fl,.u64 a,.u64 b] =>
  if kindOk .u8 v&&kindOk .u8 tn&&kindOk .i8 ps&&kindOk .i64 hf&&kindOk .i64 fl then
   (pV v).bind fun v=>(pV tn).bind fun tn=>(pV ps).bind fun ps=>(pV hf).bind fun hf=>(pV fl).map fun fl=>(⟨v,bd,pr,pk,tn,rk,ps,ck,hf,fl⟩,a,b)
  else none
 |_=>none
theorem uI {g:Gh}{tk:List Nat}{w:World}{v:AV}{m:Pos×BitVec 64×BitVec 64}(h:D9 v=some m){c:Value}(hr:aM g tk w v c):aM g tk w (rM m) c:=by
 unfold D9 at h;split at h
 ·rename_i v bd pr pk tn rk ps ck hf fl a b;simp only[Option.ite_none_right_eq_some,E',B',H']at h;obtain⟨⟨⟨⟨⟨k1,k2⟩,k3⟩,k4⟩,k5⟩,v',hv,tn',htn,ps',hps,hf',hhf,fl',hfl,rfl⟩:=h;obtain⟨cs,rfl,hc⟩:=hr.cM;refine .agg ?_;have i:=fun (a:AV) (n:Int) (k:IntKind) (hk:kindOk k a=true) (ha:pV a=some n) (c:Value) (hc:aM g tk w a c)=>(gq hk ha hc) ▸ (aM.int (g:=g) (tk:=tk) (w:=w) k n);revert hc
  exact ay.swap (bp hv) rfl (i _ _ _ k1 hv) fun _=>ay.keep fun _=>ay.swap rfl rfl (fun _ h=>h) fun _=>ay.keep fun _=>ay.swap (bp htn) rfl (i _ _ _ k2 htn) fun _=>ay.keep fun _ =>
   ay.swap (bp hps) rfl (i _ _ _ k3 hps) fun _=>ay.keep fun _=>ay.swap (bp hhf) rfl (i _ _ _ k4 hhf) fun _=>ay.swap (bp hfl) rfl (i _ _ _ k5 hfl) fun _ h=>h
 ·cases h
def CP:D (Pos×BitVec 64×BitVec 64) where
 arg:=rM
 res:=rM
 dec:=D9
 ok _ _ h _ _ _ _ hr:=uI h hr
 AZ _ _ h _ _ _ _ hr:=uI h hr
def LH (m:List UInt8×Bool×Bool×Bool×Bool×Bool×Int):AV := .agg [.str m.1,.bool m.2.1,.bool m.2.2.1,.bool m.2.2.2.1,.bool m.2.2.2.2.1,.bool m.2.2.2.2.2.1,.int .u8 m.2.2.2.2.2.2]
def toVar:AV→Option (List UInt8×Bool×Bool×Bool×Bool×Bool×Int)
 | .agg [.str s,a,b,c,d,e,k] =>
  if kindOk .u8 k then
   (Av a).bind fun a=>(Av b).bind fun b=>(Av c).bind fun c=>(Av d).bind fun d=>(Av e).bind fun e=>(pV k).map fun k=>(s,a,b,c,d,e,k)
  else none
 |_=>none
theorem yS {g:Gh}{tk:List Nat}{w:World}{v:AV}{m:List UInt8×Bool×Bool×Bool×Bool×Bool×Int}(h:toVar v=some m){c:Value}(hr:aM g tk w v c):aM g tk w (LH m) c:=by
 unfold toVar at h;split at h
 ·rename_i s a b c d e k;simp only[Option.ite_none_right_eq_some,B',H']at h;obtain⟨k1,a',ha,b',hb,c',hc,d',hd,e',he,k',hk,rfl⟩:=h;obtain⟨cs,rfl,hc'⟩:=hr.cM;refine .agg ?_;have i:=fun (a:AV) (x:Bool) (ha:Av a=some x) (c:Value) (hc:aM g tk w a c)=>(tf ha hc) ▸ (aM.bool (g:=g) (tk:=tk) (w:=w) x);revert hc'
  exact ay.swap rfl rfl (fun _ h=>h) fun _=>ay.swap (fu ha) rfl (i _ _ ha) fun _=>ay.swap (fu hb) rfl (i _ _ hb) fun _=>ay.swap (fu hc) rfl (i _ _ hc) fun _=>ay.swap (fu hd) rfl (i _ _ hd) fun _=>ay.swap (fu he) rfl (i _ _ he) fun _ =>
   ay.swap (bp hk) rfl (fun c hc=>(gq k1 hk hc) ▸ (aM.int (g:=g) (tk:=tk) (w:=w) .u8 k')) fun _ h=>h
 ·cases h
def af2:D (List UInt8×Bool×Bool×Bool×Bool×Bool×Int) where
 arg:=LH
 res:=LH
 dec:=toVar
 ok _ _ h _ _ _ _ hr:=yS h hr
 AZ _ _ h _ _ _ _ hr:=yS h hr
def lO (i:Nat):Code→Option (Code×Code)
 | .seq a b=>match lO i a with
  |some c=>some c
  |none=>lO i b
 | .cond _ a b=>match lO i a with
  |some c=>some c
  |none=>lO i b
 | .block _ b=>lO i b
 | .scope b=>lO i b
 | .loop b=>lO i b
 | .rangeFunc _ _ a b=>if Rf b=some i then some (a,b)else match lO i a with
  |some c=>some c
  |none=>lO i b
 |_=>none
def sr (P:Program)(f i:Nat):Code:=((lO i (E7 P f)).getD (.skip,.skip)).1
def sF (P:Program)(f i:Nat):Code:=((lO i (E7 P f)).getD (.skip,.skip)).2
theorem aC.itd {B:ar}(hB:aO B){m fn:Nat}{b:Code}{X R:Type}{S:X→St}{O:R→Out}{ok:X→Bool}{st:X→aG X R}
  (h:∀x,pT (RL S O) (oO B m fn b (S x)) (ok x) (st x)) :
  ∀(n:Nat) (x:X) (r:R),Kz.cW (fun x=>bif ok x then st x else .bad) n x=some r→aC B.P b (S x) (O r)
 | 0,x,r,hi=>by simp[Kz.cW]at hi
 |n+1,x,r,hi=>by
  rw[Kz.cW]at hi
  cases hok:ok x with
  |false=>simp_all
  |true =>
   rw[hok]at hi
   simp only[cond_true]at hi
   obtain⟨o,h1,h2⟩:=h x hok
   have hc:=Jx hB h1
   cases hs:st x with
   |go y =>
    rw[hs]at hi h2
    obtain⟨s1,rfl,hw⟩:=h2
    exact aC.aj2 hc (aC.wk hw (aC.itd hB h n y r hi))
   |out r' =>
    rw[hs]at hi h2
    simp only[A']at hi
    subst hi
    obtain⟨hn,hw⟩:=h2
    exact aC.out hw (aC.ahA hc hn)
   |bad=>simp_all
noncomputable section
variable {g:Gh}{h:Hp}{w:World}
theorem MR.Tp (m:MR g h w){cap z:Nat}(hmax:cap≤maxLen){cells:Array Value}{ty:TypeId}(hs:zK z cap cells.size ty)(w1:World)(hw:w1=w∨w1=w.drew) :
  MR { g with own:=g.own++[some (w.heap.size,cap,z)] } { h with ag:=h.ag++[0] } (w1.alloc (.cells cells ty)) ∧
   Le g h.ag w { g with own:=g.own++[some (w.heap.size,cap,z)] } (h.ag++[0]) (w1.alloc (.cells cells ty)):=by
 have hsize:w1.heap.size=w.heap.size:=by rcases hw with rfl|rfl<;>rfl
 have m1:MR g h (w1.alloc (.cells cells ty))∧Le g h.ag w g h.ag (w1.alloc (.cells cells ty)):=by
  rcases hw with rfl|rfl
  ·exact m.alloc _
  ·obtain⟨a,b⟩:=m.drew;obtain⟨c,d⟩:=a.alloc (.cells cells ty);exact⟨c,b.trans d⟩
 obtain⟨m1,l1⟩:=m1;have hnew:(w1.alloc (.cells cells ty)).heap[w.heap.size]?=some (.cells cells ty (0,0)):=by rw[←hsize];exact heap_alloc_new w1 _
 have l2:Le g h.ag (w1.alloc (.cells cells ty)) { g with own:=g.own++[some (w.heap.size,cap,z)] } (h.ag++[0]) (w1.alloc (.cells cells ty)) :=
  ⟨rfl,Below.refl _ _,fun _ _ x=>x,fun _ _ _ _ x=>x,fun _ _ x=>x,fun _ _ x=>x,fun _ x=>x,fun k n x=>⟨n,by
   rw[List.getElem?_append_left (C'.1 x).1];exact x,Nat.le_refl _,fun _=>by
   have:=(C'.1 x).1
   simp only
   rw[List.getElem?_append_left (by rw[m.dW];exact this)]⟩,fun _ _ _=>rfl⟩
 have notvar:w.heap.size∉g.vars:=fun hv=>by obtain⟨i,hi⟩:=List.getElem?_of_mem hv;have hi':=(C'.1 hi).1;obtain⟨_,_,_,d,_⟩:=m.var i _ _ hi (I' (by rw[←m.dN];exact hi'));simp_all
 have notown:∀(j c z':Nat),g.own[j]?≠some (some (w.heap.size,c,z')):=fun j c z' x=>by obtain⟨_,_,_,_,_,_,_,d,_⟩:=m.tok j _ c z' x;simp_all
 have new:∀(k:Nat) x,(g.own++[some (w.heap.size,cap,z)])[k]?=some x→g.own[k]?=some x∨(k=g.own.length∧x=some (w.heap.size,cap,z)):=by
  intro i c' x;rcases Nat.lt_or_ge i g.own.length with h' |h'
  ·grind
  ·grind
 have hle:=l1.trans l2;refine⟨⟨m1.base,m1.fC,m1.dN,fun i c l h1 h2=>?_,m1.xc,by simp[m.dW],fun k h1=>?_,fun k b cap' z' h1=>?_,fun k k' b c1 z1 c2 z2 h1 h2=>?_,m1.gT,fun l c r h1 h2=>?_,m1.xe,m1.defs,fun p hp=>(m.iH p hp).mono hle⟩,hle⟩
 ·obtain⟨a,b,o,d,e⟩:=m1.var i c l h1 h2;exact⟨a,b,o,d,e.mono l2⟩
 ·rcases new k _ h1 with a|⟨_,e⟩
  ·obtain⟨n,this⟩:=m.jU k a;grind
  ·cases e
 ·rcases new k _ h1 with a|⟨e1,e2⟩
  ·obtain⟨n,cs,t,h2,h3⟩:=m1.tok k b cap' z' a;grind
  ·simp only[A',Prod.mk.injEq]at e2;obtain⟨rfl,rfl,rfl⟩:=e2;refine⟨0,cells,ty,?_,Nat.zero_le _,hmax,m.base,hnew,hs,fun o x=>absurd (m.fC _ _ x) (Nat.lt_irrefl _),notvar⟩;show(h.ag++[0])[k]?=_;rw[e1,m.dW];simp
 ·rcases new k _ h1 with a|⟨e1,e2⟩<;>rcases new k' _ h2 with b' |⟨e3,e4⟩
  ·exact m1.xd k k' b c1 z1 c2 z2 a b'
  ·simp_all
  ·simp_all
  ·omega
 ·obtain⟨a,R,b,d⟩:=m1.loop l c r h1 h2;exact⟨a,R,b,d.mono l2⟩
end
end Kz
namespace Kz
open Go
@[reducible] def rn (a n:Nat) (l:List Nat):List Nat:=match n with
 | 0=>l
 |n+1=>a::rn (a+1) n l
@[reducible] def an (n:Nat) (l:List AV):List AV:=match n with
 | 0=>l
 |n+1=>AV.any::an n l
@[reducible] def pc (p:Pos) (l:List AV):List AV:=AV.int .u8 p.variant::AV.ints .u8 64 p.ab::AV.u64 p.ai::AV.ints .u8 12 p.ah::AV.int .u8 p.aa::AV.ints .i8 4 p.ao::AV.int .i8 p.az::AV.ints .u8 2 p.au::AV.int .i64 p.half::AV.int .i64 p.full::l
@[reducible] def zpB:List AV:=[AV.int .u8 0,AV.ints .u8 64 (li (List.replicate 64 0)),AV.u64 0,AV.ints .u8 12 (li [0,0,0,0,0,0,0,0,0,0,0,0]),AV.int .u8 0,AV.ints .i8 4 (li [0,0,0,0]),AV.int .i8 0,AV.ints .u8 2 (li [0,0]),AV.int .i64 0,AV.int .i64 0]
@[reducible] def zI65:List Int:=[1,0,0,0,0,0,0,0,0,0,0,0,0,0,0,0,0,0,0,0,0,0,0,0,0,0,0,0,0,0,0,0,0,0,0,0,0,0,0,0,0,0,0,0,0,0,0,0,0,0,0,0,0,0,0,0,0,0,0,0,0,0,0,0,0]
@[reducible] def zIbd:List Int:=[4,2,3,5,6,3,2,4,1,1,1,1,1,1,1,1,0,0,0,0,0,0,0,0,0,0,0,0,0,0,0,0,0,0,0,0,0,0,0,0,0,0,0,0,0,0,0,0,9,9,9,9,9,9,9,9,12,10,11,13,14,11,10,12]
@[reducible] def zU8:List UInt8:=[8,8,8,8,8,8,8,8,8,8,8,8,8,8,8,8,8,8,8,8,8,8,8,8,8,8,8,8,8,8,8,8,8,8,8,8,8,8,8,8,8,8,8,8,8,8,8,8,8,8,8,8,8,8,8,8,8,8,8,8,8,8,8,8]
@[reducible] def zU7:List UInt8:=[7,7,7,7,7,7,7,7,7,7,7,7,7,7,7,7,7,7,7,7,7,7,7,7,7,7,7,7,7,7,7,7,7,7,7,7,7,7,7,7,7,7,7,7,7,7,7,7,7,7,7,7,7,7,7,7,7,7,7,7,7,7,7,7]
end Kz
namespace Kz
open Go Go.RowKit
inductive Qt where
 |tt|ff
 |q (b:Bool) (t:Qt)|n (b:Bool) (t:Qt)|i (b:Bool) (t e:Qt)|w (t:Qt)
def Qt.val:Qt→Bool
 | .tt=>true
 | .ff=>false
 | .q b t=>b&&t.val
 | .n b t => !b&&t.val
 | .i b t e=>bif b then t.val else e.val
 | .w t=>t.val
def Qt.isT:Qt→Bool
 | .tt=>true
 |_=>false
def Qt.two (b:Bool)(t e:Qt):Qt:=match t.isT,e.isT with
 |true,true=>.tt
 |_,_=>.i b t e
theorem Qt.Ua (b:Bool)(t e:Qt):(Qt.two b t e).val=bif b then t.val else e.val:=by cases t<;>cases e<;>first|rfl|(cases b<;>rfl)
namespace Tr
def isF {α:Type}:Tr α→Bool
 | .fail=>true
 |_=>false
abbrev qt {α V:Type}(d:α→Option V)(t:Tr α):Qt :=
 Tr.rec (motive:=fun _=>Qt) (fun a=>Option.rec .ff (fun _=>.tt) (d a)) .ff (fun b t e qt qe=>Bool.rec (Bool.rec (Qt.two b qt qe) (.n b qe) t.isF) (.q b qt) e.isF) (fun _ _ _ _ _ _ qt=>.w qt) t
abbrev vt {α V:Type}[Inhabited V](d:α→Option V)(t:Tr α):V :=
 Tr.rec (motive:=fun _=>V) (fun a=>Option.rec default (fun v=>v) (d a)) default (fun b t e vt ve=>Bool.rec (Bool.rec (bif b then vt else ve) ve t.isF) vt e.isF) (fun _ _ _ _ _ _ vt=>vt) t
def vI {α:Type}:Tr α→List (Bool×Code×Code×St×St)
 | .ret _=>[]
 | .fail=>[]
 | .br _ t e=>t.vI++e.vI
 | .ck c b b' s s' t=>(c,b,b',s,s')::t.vI
def pQ {α:Type}:Tr α→List α
 | .ret a=>[a]
 | .fail=>[]
 | .br _ t e=>t.pQ++e.pQ
 | .ck _ _ _ _ _ t=>t.pQ
end Tr
theorem ua {α V:Type}[Inhabited V]{d:α→Option V}{R:α→V→Prop}:∀(T:Tr α),(∀x∈T.vI,x.1=true)→(∀a∈T.pQ,∀v,d a=some v→R a v)→pT R T (T.qt d).val (T.vt d)
 | .ret a,_,hr=>by
  intro h
  have hd':∀o:Option V,d a=o→((Option.rec .ff (fun _=>.tt) o:Qt).val=true)→∃v,(Tr.ret a).get=some v∧R v (Option.rec default (fun v=>v) o:V):=by
   intro o hd h
   cases o with
   |none=>cases h
   |some v=>exact⟨a,rfl,hr a (by simp[Tr.pQ]) v hd⟩
  exact hd' (d a) rfl h
 | .fail,_,_=>fun h=>by cases h
 | .br b t e,hk,hr=>by
  have h1:=ua t (fun x hx=>hk x (by simp[Tr.vI,hx])) (fun a ha=>hr a (by simp[Tr.pQ,ha]))
  have h2:=ua e (fun x hx=>hk x (by simp[Tr.vI,hx])) (fun a ha=>hr a (by simp[Tr.pQ,ha]))
  have key:∀x y:Bool,e.isF=x→t.isF=y→pT R (.br b t e) (Bool.rec (Bool.rec (Qt.two b (t.qt d) (e.qt d)) (.n b (e.qt d)) y) (.q b (t.qt d)) x:Qt).val (Bool.rec (Bool.rec (bif b then t.vt d else e.vt d) (e.vt d) y) (t.vt d) x):=by
   intro x y he ht
   cases x with
   |true =>
    have:e=.fail:=by cases e<;>first|rfl|cases he
    subst this
    exact vl h1
   |false =>
    cases y with
    |true =>
     have:t=.fail:=by cases t<;>first|rfl|cases ht
     subst this
     exact Jy h2
    |false =>
     have h:=aed (b:=b) h1 h2
     rw[←Qt.Ua]at h
     exact h
  exact key _ _ rfl rfl
 | .ck c b b' s s' t,hk,hr=>by
  have h1:=ua t (fun x hx=>hk x (by simp[Tr.vI,hx])) (fun a ha=>hr a (by simp[Tr.pQ,ha]))
  have hc:c=true:=hk (c,b,b',s,s') (by simp[Tr.vI])
  subst hc
  exact h1
def B5 (a:AV):AV→AV
 | .int _ _=>match a with
  | .bj k n=>.int k n
  |a=>a
 | .bool _=>match a with
  | .aU b=>.bool b
  |a=>a
 |_=>a
def uE:List AV→List AV→List AV
 |a::l,b::m=>B5 a b::uE l m
 |l,_=>l
def aaN (a:AV):AV→AV
 | .any=>.any
 | .agg m=>match a with
  | .agg l=>.agg (uE l m)
  |a=>a
 |b=>B5 a b
def IN:List AV→List AV→List AV
 |a::l,b::m=>aaN a b::IN l m
 |l,_=>l
def Jf:List (List AV)→List (List AV)→List (List AV)
 |a::l,b::m=>uE a b::Jf l m
 |l,_=>l
def EU (s t:St):St:=⟨IN s.tmps t.tmps,{ s.hp with heap:=match Nat.beq s.hp.lo 0 with
 |true=>Jf s.hp.heap t.hp.heap
 |false=>s.hp.heap }⟩
theorem uf (a b:AV):B5 a b=a∨(∃k n,a=.bj k n∧B5 a b=.int k n)∨∃x,a=.aU x∧B5 a b=.bool x:=by unfold B5;grind
theorem Hm (a b:AV):oc a (B5 a b):=by
 rcases uf a b with h|⟨k,n,rfl,h⟩|⟨x,rfl,h⟩<;>rw[h]
 ·exact oc.refl _
 ·exact oc.bj k n
 ·exact oc.aU x
theorem tp:∀l m:List AV,HU l (uE l m)
 | [],_=>by unfold uE;exact HU.refl _
 |a::l,[]=>by unfold uE;exact HU.refl _
 |a::l,b::m=>by
  unfold uE
  intro g tk w c hr
  cases hr with
  |ints h1 h2 h3 =>
   have:∀k n x,B5 (.ints k n x) b=.ints k n x:=fun k n x=>by cases b<;>rfl
   rw[this]
   exact .ints h1 h2 (tp l m g tk w _ h3)
  |one h1 h2 h3 =>
   refine .one ?_ (Hm a b g tk w _ h2) (tp l m g tk w _ h3)
   rcases uf a b with h|⟨k,n,rfl,h⟩|⟨x,rfl,h⟩<;>rw[h]
   ·exact h1
   ·rfl
   ·rfl
theorem SM (a:AV):∀b:AV,oc a (aaN a b):=by
 intro b;unfold aaN;split
 ·exact oc.any _
 ·split
  ·exact oc.agg (tp _ _)
  ·exact oc.refl _
 ·exact Hm _ _
theorem zg:∀l m:List AV,kP oc l (IN l m)
 | [],_=>by unfold IN;exact .nil
 |a::l,[]=>by unfold IN;exact kP.same oc.refl _
 |a::l,b::m=>by unfold IN;exact .cons (SM a b) (zg l m)
theorem N3 {a b:List AV}(h:nY a=none):uE a b=a:=by
 unfold nY at h;split at h
 ·cases b with
  |nil=>rfl
  |cons x b =>
   have e:∀m,uE [] m=[]:=fun m=>by unfold uE;rfl
   unfold uE;rw[e];cases x<;>rfl
 ·cases h
theorem GA:∀l m:List (List AV),kP WkB l (Jf l m)
 | [],_=>by unfold Jf;exact .nil
 |a::l,[]=>by unfold Jf;exact kP.same WkB.refl _
 |a::l,b::m=>by unfold Jf;exact .cons ⟨tp a b,N3⟩ (GA l m)
theorem np (s t:St):Bi s (EU s t):=by
 unfold EU;cases h:Nat.beq s.hp.lo 0 with
 |false=>exact⟨zg _ _,kP.same WkB.refl _,fun _ _=>rfl,rfl,rfl,rfl,rfl,rfl⟩
 |true =>have:s.hp.lo=0:=Nat.eq_of_beq_eq_true h;exact⟨zg _ _,GA _ _,by simp_all,rfl,rfl,rfl,rfl,rfl⟩
open Classical in
def zX (b b':Code)(s s':St):Bool:=shut (decide (b=b'∧Bi s s'))
theorem qx {b b':Code}{s s':St}:zX b b' s s'=true ↔ b=b'∧Bi s s':=by unfold zX;rw[fL];simp
def XC (x:Bool×Code×Code×St×St):Bool×Code×St:=(x.1,x.2.1,EU x.2.2.2.1 x.2.2.2.2)
def Xa (x:Bool×Code×Code×St×St):Bool×Code×St:=(zX x.2.1 x.2.2.1 x.2.2.2.1 x.2.2.2.2,x.2.2.1,x.2.2.2.2)
theorem map_inj {α β:Type}{f g:α→β}:∀{l:List α},l.map f=l.map g→∀x∈l,f x=g x
 | [],_,_,hx=>by cases hx
 |a::l,h,x,hx=>by
  simp only[List.map_cons,List.cons.injEq]at h
  rcases List.mem_cons.1 hx with rfl|hx
  ·exact h.1
  simp_all
theorem zL {α:Type}{T:Tr α}(h:T.vI.map XC=T.vI.map Xa):∀x∈T.vI,x.1=true:=by intro x hx;obtain⟨c,b,b',s,s'⟩:=x;have:=map_inj h _ hx;simp only[XC,Xa,Prod.mk.injEq]at this;obtain⟨h1,h2,h3⟩:=this;show c=true;rw[h1];exact qx.2 ⟨h2,h3 ▸ np s s'⟩
theorem sc {B:ar}(hB:aO B){n f:Nat}{as1:List AV}{α:Type}[Inhabited α]{d:D α}{ok:Bool}{x:α}(h1:((cP B n f as1).qt d.dec).val=ok)(h2:(cP B n f as1).vt d.dec=x)
  (h3:(cP B n f as1).vI.map XC=(cP B n f as1).vI.map Xa) (h:ok=true):PS B.P f as1 (d.res x):=by obtain⟨v,e1,e2⟩:=ua (d:=d.dec) (R:=RD d) (cP B n f as1) (zL h3) (fun a _ v hv=>hv) (h1.trans h);rw[h2]at e2;exact MP hB e1 d e2
def b7 (b:Bool)(v:AV):Tr AV := .br b (.ret v) .fail
theorem aA {P:Program}{f:Nat}{as1:List AV}{b:Bool}{v:AV}(h:b=true→PS P f as1 v):KW P f as1 (b7 b v):=fun u hu=>by
 unfold b7 at hu
 cases b with
 |true=>cases hu;exact h rfl
 |false=>cases hu
theorem bH {P:Program}{f:Nat}{as1:List AV}{v:AV}(h:PS P f as1 v):KW P f as1 (.ret v):=fun u hu=>by cases hu;exact h
def Re {X R:Type}(S:X→St)(O:R→Out):Option (aG X R)→Out
 |some (.go y)=>.norm (S y)
 |some (.out r)=>O r
 |_=>.panic .any sn
def zj:Out→Out→Out
 | .norm s,.norm t=>.norm (EU s t)
 | .ret s,.ret t=>.ret (EU s t)
 | .exit i s,.exit _ t=>.exit i (EU s t)
 |_,_=>.panic .any sn
def wo {X R:Type}(dx:St→Option X)(dr:Out→Option R):Out→Option (aG X R)
 | .norm s=>(dx s).map .go
 |o=>(dr o).map .out
instance {X R:Type}:Inhabited (aG X R):=⟨.bad⟩
theorem Qf {X R:Type}{S:X→St}{O:R→Out}{dx:St→Option X}{dr:Out→Option R}{o:Out}{st:aG X R}(hw:wo dx dr o=some st)(hO:∀r s,O r≠.norm s)(hP:∀r,O r≠.panic .any sn)
  (h:zj o (Re S O (wo dx dr o))=Re S O (wo dx dr o)):RL S O o st:=by
 rw[hw]at h;cases o with
 |norm s =>simp only[wo,H']at hw;obtain⟨y,_,rfl⟩:=hw;simp only[Re,zj,Out.norm.injEq]at h;exact⟨s,rfl,h ▸ np s (S y)⟩
 |ret s =>
  simp only[wo,H']at hw;obtain⟨r,_,rfl⟩:=hw;refine⟨fun s=>by simp,?_⟩;simp only[Re]at h;cases hr:O r with
  |ret t=>rw[hr]at h;simp only[zj,Out.ret.injEq]at h;exact h ▸ np s t
  |norm t=>simp_all
  |exit i t=>rw[hr]at h;cases h
  |panic v t=>rw[hr]at h;simp only[zj]at h;simp_all
 |exit i s =>
  simp only[wo,H']at hw;obtain⟨r,_,rfl⟩:=hw;refine⟨fun s=>by simp,?_⟩;simp only[Re]at h;cases hr:O r with
  |exit j t =>rw[hr]at h;simp only[zj,Out.exit.injEq]at h;exact⟨h.1,h.2 ▸ np s t⟩
  |norm t=>simp_all
  |ret t=>rw[hr]at h;cases h
  |panic v t=>rw[hr]at h;simp only[zj]at h;simp_all
 |panic v t =>simp only[wo,H']at hw;obtain⟨r,_,rfl⟩:=hw;simp only[Re,zj]at h;grind
def X2:Out→Bool
 | .ret _=>true
 | .exit .. => true
 |_=>false
theorem qE {R:Type}{O:R→Out}(h:∀r,X2 (O r)=true):(∀r s,O r≠.norm s)∧∀r,O r≠.panic .any sn :=
 ⟨fun r s e=>(by have:=h r;rw[e]at this;cases this),fun r e=>(by have:=h r;rw[e]at this;cases this)⟩
theorem aC.Be {B:ar}(hB:aO B){m fn:Nat}{b:Code}{X R:Type}{S:X→St}{O:R→Out}{ok:X→Bool}{st:X→aG X R}(dx:St→Option X)(dr:Out→Option R)(hO:∀r,X2 (O r)=true)
  (h1:∀x,((oO B m fn b (S x)).qt (wo dx dr)).val=ok x) (h2:∀x,(oO B m fn b (S x)).vt (wo dx dr)=st x)
  (h3:∀x,(oO B m fn b (S x)).vI.map XC=(oO B m fn b (S x)).vI.map Xa)
  (h4:∀x,((oO B m fn b (S x)).pQ.map fun o=>zj o (Re S O (wo dx dr o)))=(oO B m fn b (S x)).pQ.map fun o=>Re S O (wo dx dr o)) (n:Nat) (x:X) (r:R)
  (h:Kz.cW (fun x=>bif ok x then st x else .bad) n x=some r):aC B.P b (S x) (O r) :=
 aC.itd hB (fun x=>by
  rw[←h1 x,←h2 x]
  exact ua _ (zL (h3 x)) fun a ha v hv=>by
   by_cases hn:∃r,v=.out r
   ·have:=map_inj (h4 x) a ha
    exact Qf hv (qE hO).1 (qE hO).2 this
   ·exact Qf hv (qE hO).1 (qE hO).2 (map_inj (h4 x) a ha)) n x r h
def lk (b b':Code)(s s':St)(ok:Bool)(t:Tr Out):Tr Out := .ck (zX b b' s s') b b' s s' (.br ok t .fail)
theorem Vy {P:Program}{b b':Code}{s s':St}{ok:Bool}{t:Tr Out}{o:Out}(h:(lk b b' s s' ok t).get=some o)(H:ok=true→t.get=some o→aC P b' s' o):aC P b s o:=by
 unfold lk at h;simp only[Tr.get]at h;cases hk:zX b b' s s' with
 |false=>rw[hk]at h;cases h
 |true =>
  rw[hk]at h;obtain⟨rfl,hw⟩:=qx.1 hk;cases ok with
  |false=>cases h
  |true=>exact(H rfl h).wk hw
def sg {α:Type}(t:Tr α):Tr α := .ck (zX .skip .skip ⟨[],sn⟩ ⟨[],sn⟩) .skip .skip ⟨[],sn⟩ ⟨[],sn⟩ t
theorem MK {α:Type}(t:Tr α):(sg t).get=t.get:=by have h:zX .skip .skip (⟨[],sn⟩:St) ⟨[],sn⟩=true:=qx.2 ⟨rfl,np ⟨[],sn⟩ ⟨[],sn⟩⟩;unfold sg;rw[h];rfl
def jS {R:Type}[Inhabited R](b b':Code)(s s':St)(lp:Option R)(O:R→Out):Tr Out:=lk b b' s s' lp.isSome (.ret (O (lp.getD default)))
theorem bF {P:Program}{b b':Code}{s s':St}{R:Type}[Inhabited R]{lp:Option R}{O:R→Out}(H:∀r,lp=some r→aC P b' s' (O r)){o:Out}(h:(jS b b' s s' lp O).get=some o):aC P b s o :=
 Vy h fun h1 h2=>by
  cases h2
  exact H _ (rT h1)
def Bg {A B:Type}[Inhabited A][Inhabited B](b b':Code)(s s':St)(lp:Option (A ⊕ B))(O:A ⊕ B→Out):Tr Out:=lk b b' s s' lp.isSome (.br (cQ (lp.getD default)) (sg (.ret (O (.inl (gl (lp.getD default)))))) (sg (.ret (O (.inr (gr (lp.getD default)))))))
theorem fj {P:Program}{b b':Code}{s s':St}{A B:Type}[Inhabited A][Inhabited B]{lp:Option (A ⊕ B)}{O:A ⊕ B→Out}(H:∀r,lp=some r→aC P b' s' (O r)){o:Out}(h:(Bg b b' s s' lp O).get=some o):aC P b s o :=
 Vy h fun h1 h2=>by
  have:=H _ (rT h1)
  revert h2 this
  cases lp.getD default with
  |inl a=>intro h2 this;rw[fP]at h2;cases (MK _).symm.trans h2;exact this
  |inr a=>intro h2 this;rw[fP]at h2;cases (MK _).symm.trans h2;exact this
def Zp:bL→bL→bL
 | .ret v h,.ret v' h'=>match EU ⟨[v],h⟩ ⟨[v'],h'⟩with
  |⟨[u],k⟩=>.ret u k
  |_=>.panic .any sn
 |_,_=>.panic .any sn
def adw:bL→Bool
 | .ret .. => true
 |_=>false
theorem aa6 {Y:Type}{O:Y→bL}{dr:bL→Option Y}{o:bL}{y:Y}(hw:dr o=some y)(hO:adw (O y)=true)(h:Zp o (((dr o).map O).getD (.panic .any sn))=((dr o).map O).getD (.panic .any sn)):RF O o y:=by
 rw[hw]at h;simp only[Option.map_some,Option.getD_some]at h;cases hr:O y with
 |panic v t=>rw[hr]at hO;cases hO
 |ret v' h' =>
  cases o with
  |panic v t=>rw[hr]at h;cases h
  |ret v k =>rw[hr]at h;refine aaD hr ?_;have hf:=np ⟨[v],k⟩ ⟨[v'],h'⟩;simp only[Zp]at h;grind
theorem kR {B:ar}(hB:aO B){n f:Nat}{as1:List AV}{h:Hp}{Y:Type}[Inhabited Y]{O:Y→bL}{ok:Bool}{y:Y}(dr:bL→Option Y)(hO:∀y,adw (O y)=true)
  (h1:((Cq B n f as1 h).qt dr).val=ok) (h2:(Cq B n f as1 h).vt dr=y) (h3:(Cq B n f as1 h).vI.map XC=(Cq B n f as1 h).vI.map Xa)
  (h4:((Cq B n f as1 h).pQ.map fun o=>Zp o (((dr o).map O).getD (.panic .any sn)))=(Cq B n f as1 h).pQ.map fun o=>((dr o).map O).getD (.panic .any sn)) (hok:ok=true) :
  dz B.P f as1 h (O y)∧∃fn,B.P.funcs[f]?=some fn∧fn.body.isSome=true:=by subst h1 h2;exact UL hB rfl (ua (d:=dr) (R:=RF O) _ (zL h3) fun a ha v hv=>aa6 hv (hO v) (map_inj h4 a ha)) hok
def fk {Y:Type}(as1:List AV)(h:Hp)(as':List AV)(h':Hp)(ok:Bool)(O:Y→bL)(y:Y):Tr bL := .ck (zX .skip .skip ⟨as1,h⟩ ⟨as',h'⟩) .skip .skip ⟨as1,h⟩ ⟨as',h'⟩ (.br ok (.ret (O y)) .fail)
theorem vO {P:Program}{f:Nat}{as1 as':List AV}{h h':Hp}{ok:Bool}{Y:Type}{O:Y→bL}{y:Y}{res:bL}(H:ok=true→dz P f as' h' (O y)∧∃fn,P.funcs[f]?=some fn∧fn.body.isSome=true)(he:(fk as1 h as' h' ok O y).get=some res) :
  dz P f as1 h res∧∃fn,P.funcs[f]?=some fn∧fn.body.isSome=true:=by
 unfold fk at he;simp only[Tr.get]at he;cases hk:zX .skip .skip ⟨as1,h⟩ ⟨as',h'⟩with
 |false=>rw[hk]at he;cases he
 |true =>
  rw[hk]at he;cases ok with
  |false=>cases he
  |true =>cases he;obtain⟨h1,h2⟩:=H rfl;exact⟨h1.wk (qx.1 hk).2,h2⟩
abbrev wP {α:Type}(s:St)(b:Nat)(k:Pos→α):α:=k ⟨tI (tH s b 0),tN (tH s b 1),tU (tH s b 2),tN (tH s b 3),tI (tH s b 4),tN (tH s b 5),tI (tH s b 6),tN (tH s b 7),tI (tH s b 8),tI (tH s b 9)⟩
abbrev wM {α:Type}(s:St)(b:Nat)(k:Mv→α):α:=k ⟨tI (tH s b 0),tI (tH s b 1),tI (tH s b 2),tI (tH s b 3),tB (tH s b 4)⟩
def UO:Nat→Nat→List Nat→List Nat
 | 0,_,_=>[]
 |k+1,i,[]=>i::UO k (i+1) []
 |k+1,i,t::ts=>match Nat.beq i t with
  |true=>UO k (i+1) ts
  |false=>i::UO k (i+1) (t::ts)
def lkC (fn id:Nat):List (Nat×Nat×List (Nat×List Nat))→List Nat
 | []=>[]
 |(f,n,t)::r=>if fn=f then(match t.lookup id with
  |some l=>UO n 0 l
  |none=>[])else lkC fn id r
abbrev u2 (x:Pos)(v1:(List Int)):Pos:=Pos.mk x.variant v1 x.ai x.ah x.aa x.ao x.az x.au x.half x.full
abbrev u4 (x:Pos)(v2:(BitVec 64)):Pos:=Pos.mk x.variant x.ab v2 x.ah x.aa x.ao x.az x.au x.half x.full
abbrev u8 (x:Pos)(v3:(List Int)):Pos:=Pos.mk x.variant x.ab x.ai v3 x.aa x.ao x.az x.au x.half x.full
abbrev u12 (x:Pos)(v2:(BitVec 64))(v3:(List Int)):Pos:=Pos.mk x.variant x.ab v2 v3 x.aa x.ao x.az x.au x.half x.full
abbrev u16 (x:Pos)(v4:Int):Pos:=Pos.mk x.variant x.ab x.ai x.ah v4 x.ao x.az x.au x.half x.full
abbrev u32 (x:Pos)(v5:(List Int)):Pos:=Pos.mk x.variant x.ab x.ai x.ah x.aa v5 x.az x.au x.half x.full
abbrev u64 (x:Pos)(v6:Int):Pos:=Pos.mk x.variant x.ab x.ai x.ah x.aa x.ao v6 x.au x.half x.full
abbrev apL (x:Pos)(v4:Int)(v7:(List Int)):Pos:=Pos.mk x.variant x.ab x.ai x.ah v4 x.ao x.az v7 x.half x.full
abbrev JE (x:Pos)(v8:Int):Pos:=Pos.mk x.variant x.ab x.ai x.ah x.aa x.ao x.az x.au v8 x.full
abbrev iF (x:Pos)(v4:Int)(v6:Int)(v8:Int):Pos:=Pos.mk x.variant x.ab x.ai x.ah v4 x.ao v6 x.au v8 x.full
abbrev SY (x:Pos)(v4:Int)(v6:Int)(v7:(List Int))(v8:Int):Pos:=Pos.mk x.variant x.ab x.ai x.ah v4 x.ao v6 v7 v8 x.full
abbrev JH (x:Pos)(v8:Int)(v9:Int):Pos:=Pos.mk x.variant x.ab x.ai x.ah x.aa x.ao x.az x.au v8 v9
abbrev iJ (x:Pos)(v4:Int)(v6:Int)(v8:Int)(v9:Int):Pos:=Pos.mk x.variant x.ab x.ai x.ah v4 x.ao v6 x.au v8 v9
abbrev UR (x:Pos)(v4:Int)(v6:Int)(v7:(List Int))(v8:Int)(v9:Int):Pos:=Pos.mk x.variant x.ab x.ai x.ah v4 x.ao v6 v7 v8 v9
@[reducible] def dP (s:St) (b:Nat):Pos:=⟨tI (tH s b 0),tN (tH s b 1),tU (tH s b 2),tN (tH s b 3),tI (tH s b 4),tN (tH s b 5),tI (tH s b 6),tN (tH s b 7),tI (tH s b 8),tI (tH s b 9)⟩
@[reducible] def KT:Type:=List (Nat×Nat×List (Nat×List Nat))
@[reducible] def GT:Type:=List AV→Tr AV
@[reducible] def bO (P:Program) (K:KT) (a:List (Nat×GT)) (b:List (Nat×Nat×(Code→St→Tr Out))) (c:List (Nat×(List AV→Hp→Tr bL))):ar:=gm P (fun f i=>lkC f i K) a b c
theorem pq14 {B:ar}(hB:aO B){f:Nat}{as1:List AV}{α:Type}[Inhabited α]{d:D α}{ok:Bool}{x:α}(h:ok=true)(h1:((cP B 14 f as1).qt d.dec).val=ok:=by kernel_rfl)(h2:(cP B 14 f as1).vt d.dec=x:=by kernel_rfl)
  (h3:(cP B 14 f as1).vI.map XC=(cP B 14 f as1).vI.map Xa:=by kernel_rfl):PS B.P f as1 (d.res x):=sc hB h1 h2 h3 h
theorem smq {B:ar}(hB:aO B){m fn:Nat}{b:Code}{X R:Type}{S:X→St}{O:R→Out}{ok:X→Bool}{st:X→aG X R}(dx:St→Option X)(dr:Out→Option R)(n:Nat)(x:X)(r:R)
  (h:Kz.cW (fun x=>bif ok x then st x else .bad) n x=some r) (hO:∀r,X2 (O r)=true:=by intro _;rfl)
  (h1:∀x,((oO B m fn b (S x)).qt (wo dx dr)).val=ok x:=by intro _;kernel_rfl) (h2:∀x,(oO B m fn b (S x)).vt (wo dx dr)=st x:=by intro _;kernel_rfl)
  (h3:∀x,(oO B m fn b (S x)).vI.map XC=(oO B m fn b (S x)).vI.map Xa:=by intro _;kernel_rfl)
  (h4:∀x,((oO B m fn b (S x)).pQ.map fun o=>zj o (Re S O (wo dx dr o)))=(oO B m fn b (S x)).pQ.map fun o=>Re S O (wo dx dr o):=by intro _;kernel_rfl):aC B.P b (S x) (O r):=aC.Be hB dx dr hO h1 h2 h3 h4 n x r h
abbrev M':Type := List Mv
abbrev Z':Type := List Int
abbrev Y':Type := List UInt8
end Kz
