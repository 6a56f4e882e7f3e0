/- Part 3 of the texts under the proof: an abstract interpreter,the summaries of functions,plain laws. -/
import Derived.Test.YtkigphpfdagcnaaGreatDoorO2
set_option linter.unusedSectionVars false
set_option linter.unusedVariables false
set_option linter.unusedSimpArgs false
set_option linter.unnecessarySimpa false
section
namespace Kz
open Go Go.RowKit
inductive Qt where
  | tt | ff
  | q (b:Bool) (t:Qt) | n (b:Bool) (t:Qt) | i (b:Bool) (t e:Qt) | w (t:Qt)
def Qt.val:Qt→Bool
  | .tt=>true
  | .ff=>false
  | .q b t=>b&&t.val
  | .n b t => !b&&t.val
  | .i b t e=>bif b then t.val else e.val
  | .w t=>t.val
def Qt.isT:Qt→Bool
  | .tt=>true
  | _=>false
def Qt.two (b:Bool) (t e:Qt):Qt:=match t.isT,e.isT with
  | true,true=>.tt
  | _,_=>.i b t e
theorem Qt.two_val (b:Bool) (t e:Qt):(Qt.two b t e).val=bif b then t.val else e.val:=by
  cases t <;> cases e <;> first | rfl | (cases b <;> rfl)
namespace Tr
def isF {α:Type}:Tr α→Bool
  | .fail=>true
  | _=>false
noncomputable abbrev qt {α V:Type} (d:α→Option V) (t:Tr α):Qt :=
  Tr.rec (motive:=fun _=>Qt) (fun a=>Option.rec .ff (fun _=>.tt) (d a)) .ff (fun b t e qt qe=>Bool.rec (Bool.rec (Qt.two b qt qe) (.n b qe) t.isF) (.q b qt) e.isF) (fun _ _ _ _ _ _ qt=>.w qt) t
noncomputable abbrev vt {α V:Type} [Inhabited V] (d:α→Option V) (t:Tr α):V :=
  Tr.rec (motive:=fun _=>V) (fun a=>Option.rec default (fun v=>v) (d a)) default (fun b t e vt ve=>Bool.rec (Bool.rec (bif b then vt else ve) ve t.isF) vt e.isF) (fun _ _ _ _ _ _ vt=>vt) t
def obl {α:Type}:Tr α→List (Bool×Code×Code×St×St)
  | .ret _=>[]
  | .fail=>[]
  | .br _ t e=>t.obl++e.obl
  | .ck c b b' s s' t=>(c,b,b',s,s')::t.obl
def rets {α:Type}:Tr α→List α
  | .ret a=>[a]
  | .fail=>[]
  | .br _ t e=>t.rets++e.rets
  | .ck _ _ _ _ _ t=>t.rets
end Tr
theorem got_t {α V:Type} [Inhabited V] {d:α→Option V} {R:α→V→Prop}:∀ (T:Tr α),(∀ x ∈ T.obl,x.1=true)→(∀ a ∈ T.rets,∀ v,d a=some v→R a v)→GotR R T (T.qt d).val (T.vt d)
  | .ret a,_,hr=>by
    intro h
    have hd':∀ o:Option V,d a=o→((Option.rec .ff (fun _=>.tt) o:Qt).val=true)→∃ v,(Tr.ret a).get=some v∧R v (Option.rec default (fun v=>v) o:V):=by
      intro o hd h
      cases o with
      | none=>cases h
      | some v=>exact ⟨a,rfl,hr a (by simp [Tr.rets]) v hd⟩
    exact hd' (d a) rfl h
  | .fail,_,_=>fun h=>by cases h
  | .br b t e,hk,hr=>by
    have h1:=got_t t (fun x hx=>hk x (by simp [Tr.obl,hx])) (fun a ha=>hr a (by simp [Tr.rets,ha]))
    have h2:=got_t e (fun x hx=>hk x (by simp [Tr.obl,hx])) (fun a ha=>hr a (by simp [Tr.rets,ha]))
    have key:∀ x y:Bool,e.isF=x→t.isF=y→GotR R (.br b t e) (Bool.rec (Bool.rec (Qt.two b (t.qt d) (e.qt d)) (.n b (e.qt d)) y) (.q b (t.qt d)) x:Qt).val (Bool.rec (Bool.rec (bif b then t.vt d else e.vt d) (e.vt d) y) (t.vt d) x):=by
      intro x y he ht
      cases x with
      | true =>
        have:e=.fail:=by cases e <;> first | rfl | cases he
        subst this
        exact gr_guard h1
      | false =>
        cases y with
        | true =>
          have:t=.fail:=by cases t <;> first | rfl | cases ht
          subst this
          exact gr_nguard h2
        | false =>
          have h:=gr_br (b:=b) h1 h2
          rw [← Qt.two_val] at h
          exact h
    exact key _ _ rfl rfl
  | .ck c b b' s s' t,hk,hr=>by
    have h1:=got_t t (fun x hx=>hk x (by simp [Tr.obl,hx])) (fun a ha=>hr a (by simp [Tr.rets,ha]))
    have hc:c=true:=hk (c,b,b',s,s') (by simp [Tr.obl])
    subst hc
    exact h1
def gen1 (a:AV):AV→AV
  | .int _ _=>match a with
    | .cint k n=>.int k n
    | a=>a
  | .bool _=>match a with
    | .cbool b=>.bool b
    | a=>a
  | _=>a
def fitL:List AV→List AV→List AV
  | a::l,b::m=>gen1 a b::fitL l m
  | l,_=>l
def fitA (a:AV):AV→AV
  | .any=>.any
  | .agg m=>match a with
    | .agg l=>.agg (fitL l m)
    | a=>a
  | b=>gen1 a b
def fitT:List AV→List AV→List AV
  | a::l,b::m=>fitA a b::fitT l m
  | l,_=>l
def fitH:List (List AV)→List (List AV)→List (List AV)
  | a::l,b::m=>fitL a b::fitH l m
  | l,_=>l
def fitS (s t:St):St:=⟨fitT s.tmps t.tmps,{ s.hp with heap:=match Nat.beq s.hp.lo 0 with
  | true=>fitH s.hp.heap t.hp.heap
  | false=>s.hp.heap }⟩
theorem gen1_cases (a b:AV):gen1 a b=a∨(∃ k n,a=.cint k n∧gen1 a b=.int k n)∨∃ x,a=.cbool x∧gen1 a b=.bool x:=by
  unfold gen1
  split
  · split
    · exact .inr (.inl ⟨_,_,rfl,rfl⟩)
    · exact .inl rfl
  · split
    · exact .inr (.inr ⟨_,rfl,rfl⟩)
    · exact .inl rfl
  · exact .inl rfl
theorem wk_gen1 (a b:AV):WkA a (gen1 a b):=by
  rcases gen1_cases a b with h | ⟨k,n,rfl,h⟩ | ⟨x,rfl,h⟩ <;> rw [h]
  · exact WkA.refl _
  · exact WkA.cint k n
  · exact WkA.cbool x
theorem wk_fitL:∀ l m:List AV,WkC l (fitL l m)
  | [],_=>by unfold fitL; exact WkC.refl _
  | a::l,[]=>by unfold fitL; exact WkC.refl _
  | a::l,b::m=>by
    unfold fitL
    intro g tk w c hr
    cases hr with
    | ints h1 h2 h3 =>
      have:∀ k n x,gen1 (.ints k n x) b=.ints k n x:=fun k n x=>by cases b <;> rfl
      rw [this]
      exact .ints h1 h2 (wk_fitL l m g tk w _ h3)
    | one h1 h2 h3 =>
      refine .one ?_ (wk_gen1 a b g tk w _ h2) (wk_fitL l m g tk w _ h3)
      rcases gen1_cases a b with h | ⟨k,n,rfl,h⟩ | ⟨x,rfl,h⟩ <;> rw [h]
      · exact h1
      · rfl
      · rfl
theorem wk_fitA (a:AV):∀ b:AV,WkA a (fitA a b):=by
  intro b
  unfold fitA
  split
  · exact WkA.any _
  · split
    · exact WkA.agg (wk_fitL _ _)
    · exact WkA.refl _
  · exact wk_gen1 _ _
theorem wk_fitT:∀ l m:List AV,All2 WkA l (fitT l m)
  | [],_=>by unfold fitT; exact .nil
  | a::l,[]=>by unfold fitT; exact All2.same WkA.refl _
  | a::l,b::m=>by unfold fitT; exact .cons (wk_fitA a b) (wk_fitT l m)
theorem wk_fitH:∀ l m:List (List AV),All2 WkC l (fitH l m)
  | [],_=>by unfold fitH; exact .nil
  | a::l,[]=>by unfold fitH; exact All2.same WkC.refl _
  | a::l,b::m=>by unfold fitH; exact .cons (wk_fitL a b) (wk_fitH l m)
theorem wk_fitS (s t:St):WkS s (fitS s t):=by
  unfold fitS
  cases h:Nat.beq s.hp.lo 0 with
  | false=>exact ⟨wk_fitT _ _,All2.same WkC.refl _,fun _ _=>rfl,rfl,rfl,rfl,rfl,rfl⟩
  | true =>
    have:s.hp.lo=0:=Nat.eq_of_beq_eq_true h
    exact ⟨wk_fitT _ _,wk_fitH _ _,fun i hi=>by rw [this] at hi; omega,rfl,rfl,rfl,rfl,rfl⟩
open Classical in
noncomputable def isLk (b b':Code) (s s':St):Bool:=shut (decide (b=b'∧WkS s s'))
theorem isLk_iff {b b':Code} {s s':St}:isLk b b' s s'=true ↔ b=b'∧WkS s s':=by
  unfold isLk
  rw [shut_eq]
  simp
def ob1 (x:Bool×Code×Code×St×St):Bool×Code×St:=(x.1,x.2.1,fitS x.2.2.2.1 x.2.2.2.2)
noncomputable def ob2 (x:Bool×Code×Code×St×St):Bool×Code×St:=(isLk x.2.1 x.2.2.1 x.2.2.2.1 x.2.2.2.2,x.2.2.1,x.2.2.2.2)
theorem map_inj {α β:Type} {f g:α→β}:∀ {l:List α},l.map f=l.map g→∀ x ∈ l,f x=g x
  | [],_,_,hx=>by cases hx
  | a::l,h,x,hx=>by
    simp only [List.map_cons,List.cons.injEq] at h
    rcases List.mem_cons.1 hx with rfl | hx
    · exact h.1
    · exact map_inj h.2 x hx
theorem obl_ok {α:Type} {T:Tr α} (h:T.obl.map ob1=T.obl.map ob2):∀ x ∈ T.obl,x.1=true:=by
  intro x hx
  obtain ⟨c,b,b',s,s'⟩:=x
  have:=map_inj h _ hx
  simp only [ob1,ob2,Prod.mk.injEq] at this
  obtain ⟨h1,h2,h3⟩:=this
  show c=true
  rw [h1]
  exact isLk_iff.2 ⟨h2,h3 ▸ wk_fitS s s'⟩
theorem ps_sum {B:Base} (hB:BOk B) {n f:Nat} {as:List AV} {α:Type} [Inhabited α] {d:D α} {ok:Bool} {x:α} (h1:((evPure B n f as).qt d.dec).val=ok) (h2:(evPure B n f as).vt d.dec=x)
    (h3:(evPure B n f as).obl.map ob1=(evPure B n f as).obl.map ob2) (h:ok=true):PS B.P f as (d.res x):=by
  obtain ⟨v,e1,e2⟩:=got_t (d:=d.dec) (R:=RD d) (evPure B n f as) (obl_ok h3) (fun a _ v hv=>hv) (h1.trans h)
  rw [h2] at e2
  exact ps_of hB e1 d e2
def gdv (b:Bool) (v:AV):Tr AV := .br b (.ret v) .fail
theorem at_gd {P:Program} {f:Nat} {as:List AV} {b:Bool} {v:AV} (h:b=true→PS P f as v):At0 P f as (gdv b v):=fun u hu=>by
  unfold gdv at hu
  cases b with
  | true=>cases hu; exact h rfl
  | false=>cases hu
theorem at_rt {P:Program} {f:Nat} {as:List AV} {v:AV} (h:PS P f as v):At0 P f as (.ret v):=fun u hu=>by cases hu; exact h
def soO {X R:Type} (S:X→St) (O:R→Out):Option (Stp X R)→Out
  | some (.go y)=>.norm (S y)
  | some (.out r)=>O r
  | _=>.panic .any hp0
def fitO:Out→Out→Out
  | .norm s,.norm t=>.norm (fitS s t)
  | .ret s,.ret t=>.ret (fitS s t)
  | .exit i s,.exit _ t=>.exit i (fitS s t)
  | _,_=>.panic .any hp0
def wo {X R:Type} (dx:St→Option X) (dr:Out→Option R):Out→Option (Stp X R)
  | .norm s=>(dx s).map .go
  | o=>(dr o).map .out
instance {X R:Type}:Inhabited (Stp X R):=⟨.bad⟩
theorem rl_fit {X R:Type} {S:X→St} {O:R→Out} {dx:St→Option X} {dr:Out→Option R} {o:Out} {st:Stp X R} (hw:wo dx dr o=some st) (hO:∀ r s,O r≠.norm s) (hP:∀ r,O r≠.panic .any hp0)
    (h:fitO o (soO S O (wo dx dr o))=soO S O (wo dx dr o)):RL S O o st:=by
  rw [hw] at h
  cases o with
  | norm s =>
    simp only [wo,Option.map_eq_some_iff] at hw
    obtain ⟨y,_,rfl⟩:=hw
    simp only [soO,fitO,Out.norm.injEq] at h
    exact ⟨s,rfl,h ▸ wk_fitS s (S y)⟩
  | ret s =>
    simp only [wo,Option.map_eq_some_iff] at hw
    obtain ⟨r,_,rfl⟩:=hw
    refine ⟨fun s=>by simp,?_⟩
    simp only [soO] at h
    cases hr:O r with
    | ret t=>rw [hr] at h; simp only [fitO,Out.ret.injEq] at h; exact h ▸ wk_fitS s t
    | norm t=>exact absurd hr (hO r t)
    | exit i t=>rw [hr] at h; cases h
    | panic v t=>rw [hr] at h; simp only [fitO] at h; exact absurd (hr.trans h.symm) (hP r)
  | exit i s =>
    simp only [wo,Option.map_eq_some_iff] at hw
    obtain ⟨r,_,rfl⟩:=hw
    refine ⟨fun s=>by simp,?_⟩
    simp only [soO] at h
    cases hr:O r with
    | exit j t =>
      rw [hr] at h
      simp only [fitO,Out.exit.injEq] at h
      exact ⟨h.1,h.2 ▸ wk_fitS s t⟩
    | norm t=>exact absurd hr (hO r t)
    | ret t=>rw [hr] at h; cases h
    | panic v t=>rw [hr] at h; simp only [fitO] at h; exact absurd (hr.trans h.symm) (hP r)
  | panic v t =>
    simp only [wo,Option.map_eq_some_iff] at hw
    obtain ⟨r,_,rfl⟩:=hw
    simp only [soO,fitO] at h
    exact absurd h.symm (hP r)
def outT:Out→Bool
  | .ret _=>true
  | .exit .. => true
  | _=>false
theorem out_norm {R:Type} {O:R→Out} (h:∀ r,outT (O r)=true):(∀ r s,O r≠.norm s)∧∀ r,O r≠.panic .any hp0 :=
  ⟨fun r s e=>(by have:=h r; rw [e] at this; cases this),fun r e=>(by have:=h r; rw [e] at this; cases this)⟩
theorem LSpec.smd {B:Base} (hB:BOk B) {m fn:Nat} {b:Code} {X R:Type} {S:X→St} {O:R→Out} {ok:X→Bool} {st:X→Stp X R} (dx:St→Option X) (dr:Out→Option R) (hO:∀ r,outT (O r)=true)
    (h1:∀ x,((evCd B m fn b (S x)).qt (wo dx dr)).val=ok x) (h2:∀ x,(evCd B m fn b (S x)).vt (wo dx dr)=st x)
    (h3:∀ x,(evCd B m fn b (S x)).obl.map ob1=(evCd B m fn b (S x)).obl.map ob2)
    (h4:∀ x,((evCd B m fn b (S x)).rets.map fun o=>fitO o (soO S O (wo dx dr o)))=(evCd B m fn b (S x)).rets.map fun o=>soO S O (wo dx dr o)) (n:Nat) (x:X) (r:R)
    (h:Kz.itl (fun x=>bif ok x then st x else .bad) n x=some r):LSpec B.P b (S x) (O r) :=
  LSpec.itd hB (fun x=>by
    rw [← h1 x,← h2 x]
    exact got_t _ (obl_ok (h3 x)) fun a ha v hv=>by
      by_cases hn:∃ r,v=.out r
      · have:=map_inj (h4 x) a ha
        exact rl_fit hv (out_norm hO).1 (out_norm hO).2 this
      · exact rl_fit hv (out_norm hO).1 (out_norm hO).2 (map_inj (h4 x) a ha)) n x r h
noncomputable def lk (b b':Code) (s s':St) (ok:Bool) (t:Tr Out):Tr Out := .ck (isLk b b' s s') b b' s s' (.br ok t .fail)
theorem lk_ok {P:Program} {b b':Code} {s s':St} {ok:Bool} {t:Tr Out} {o:Out} (h:(lk b b' s s' ok t).get=some o) (H:ok=true→t.get=some o→LSpec P b' s' o):LSpec P b s o:=by
  unfold lk at h
  simp only [Tr.get] at h
  cases hk:isLk b b' s s' with
  | false=>rw [hk] at h; cases h
  | true =>
    rw [hk] at h
    obtain ⟨rfl,hw⟩:=isLk_iff.1 hk
    cases ok with
    | false=>cases h
    | true=>exact (H rfl h).wk hw
noncomputable def sg {α:Type} (t:Tr α):Tr α := .ck (isLk .skip .skip ⟨[],hp0⟩ ⟨[],hp0⟩) .skip .skip ⟨[],hp0⟩ ⟨[],hp0⟩ t
theorem sg_get {α:Type} (t:Tr α):(sg t).get=t.get:=by
  have h:isLk .skip .skip (⟨[],hp0⟩:St) ⟨[],hp0⟩=true:=isLk_iff.2 ⟨rfl,wk_fitS ⟨[],hp0⟩ ⟨[],hp0⟩⟩
  unfold sg
  rw [h]
  rfl
noncomputable def lk1 {R:Type} [Inhabited R] (b b':Code) (s s':St) (lp:Option R) (O:R→Out):Tr Out:=lk b b' s s' lp.isSome (.ret (O (lp.getD default)))
theorem lk1_ok {P:Program} {b b':Code} {s s':St} {R:Type} [Inhabited R] {lp:Option R} {O:R→Out} (H:∀ r,lp=some r→LSpec P b' s' (O r)) {o:Out} (h:(lk1 b b' s s' lp O).get=some o):LSpec P b s o :=
  lk_ok h fun h1 h2=>by
    cases h2
    exact H _ (some_getD h1)
noncomputable def lk2 {A B:Type} [Inhabited A] [Inhabited B] (b b':Code) (s s':St) (lp:Option (A ⊕ B)) (O:A ⊕ B→Out):Tr Out:=lk b b' s s' lp.isSome (.br (isL (lp.getD default)) (sg (.ret (O (.inl (gl (lp.getD default)))))) (sg (.ret (O (.inr (gr (lp.getD default)))))))
theorem lk2_ok {P:Program} {b b':Code} {s s':St} {A B:Type} [Inhabited A] [Inhabited B] {lp:Option (A ⊕ B)} {O:A ⊕ B→Out} (H:∀ r,lp=some r→LSpec P b' s' (O r)) {o:Out} (h:(lk2 b b' s s' lp O).get=some o):LSpec P b s o :=
  lk_ok h fun h1 h2=>by
    have:=H _ (some_getD h1)
    revert h2 this
    cases lp.getD default with
    | inl a=>intro h2 this; rw [get_br] at h2; cases (sg_get _).symm.trans h2; exact this
    | inr a=>intro h2 this; rw [get_br] at h2; cases (sg_get _).symm.trans h2; exact this
def fitF:FRes→FRes→FRes
  | .ret v h,.ret v' h'=>match fitS ⟨[v],h⟩ ⟨[v'],h'⟩ with
    | ⟨[u],k⟩=>.ret u k
    | _=>.panic .any hp0
  | _,_=>.panic .any hp0
def retT:FRes→Bool
  | .ret .. => true
  | _=>false
theorem rf_fit {Y:Type} {O:Y→FRes} {dr:FRes→Option Y} {o:FRes} {y:Y} (hw:dr o=some y) (hO:retT (O y)=true) (h:fitF o (((dr o).map O).getD (.panic .any hp0))=((dr o).map O).getD (.panic .any hp0)):RF O o y:=by
  rw [hw] at h
  simp only [Option.map_some,Option.getD_some] at h
  cases hr:O y with
  | panic v t=>rw [hr] at hO; cases hO
  | ret v' h' =>
    cases o with
    | panic v t=>rw [hr] at h; cases h
    | ret v k =>
      rw [hr] at h
      refine rf_ret hr ?_
      have hf:=wk_fitS ⟨[v],k⟩ ⟨[v'],h'⟩
      simp only [fitF] at h
      split at h
      · rename_i u k' e
        simp only [FRes.ret.injEq] at h
        obtain ⟨rfl,rfl⟩:=h
        rw [e] at hf
        exact hf
      · cases h
theorem fs_sumd {B:Base} (hB:BOk B) {n f:Nat} {as:List AV} {h:Hp} {Y:Type} [Inhabited Y] {O:Y→FRes} {ok:Bool} {y:Y} (dr:FRes→Option Y) (hO:∀ y,retT (O y)=true)
    (h1:((evFd B n f as h).qt dr).val=ok) (h2:(evFd B n f as h).vt dr=y) (h3:(evFd B n f as h).obl.map ob1=(evFd B n f as h).obl.map ob2)
    (h4:((evFd B n f as h).rets.map fun o=>fitF o (((dr o).map O).getD (.panic .any hp0)))=(evFd B n f as h).rets.map fun o=>((dr o).map O).getD (.panic .any hp0)) (hok:ok=true) :
    FSpec B.P f as h (O y)∧∃ fn,B.P.funcs[f]?=some fn∧fn.body.isSome=true:=by
  subst h1 h2
  exact fs_gotd hB rfl (got_t (d:=dr) (R:=RF O) _ (obl_ok h3) fun a ha v hv=>rf_fit hv (hO v) (map_inj h4 a ha)) hok
noncomputable def fk {Y:Type} (as:List AV) (h:Hp) (as':List AV) (h':Hp) (ok:Bool) (O:Y→FRes) (y:Y):Tr FRes := .ck (isLk .skip .skip ⟨as,h⟩ ⟨as',h'⟩) .skip .skip ⟨as,h⟩ ⟨as',h'⟩ (.br ok (.ret (O y)) .fail)
theorem fk_ok {P:Program} {f:Nat} {as as':List AV} {h h':Hp} {ok:Bool} {Y:Type} {O:Y→FRes} {y:Y} {res:FRes} (H:ok=true→FSpec P f as' h' (O y)∧∃ fn,P.funcs[f]?=some fn∧fn.body.isSome=true) (he:(fk as h as' h' ok O y).get=some res) :
    FSpec P f as h res∧∃ fn,P.funcs[f]?=some fn∧fn.body.isSome=true:=by
  unfold fk at he
  simp only [Tr.get] at he
  cases hk:isLk .skip .skip ⟨as,h⟩ ⟨as',h'⟩ with
  | false=>rw [hk] at he; cases he
  | true =>
    rw [hk] at he
    cases ok with
    | false=>cases he
    | true =>
      cases he
      obtain ⟨h1,h2⟩:=H rfl
      exact ⟨h1.wk (isLk_iff.1 hk).2,h2⟩
abbrev wP {α:Type} (s:St) (b:Nat) (k:Pos→α):α:=k ⟨tI (tH s b 0),tN (tH s b 1),tU (tH s b 2),tN (tH s b 3),tI (tH s b 4),tN (tH s b 5),tI (tH s b 6),tN (tH s b 7),tI (tH s b 8),tI (tH s b 9)⟩
abbrev wM {α:Type} (s:St) (b:Nat) (k:Mv→α):α:=k ⟨tI (tH s b 0),tI (tH s b 1),tI (tH s b 2),tI (tH s b 3),tB (tH s b 4)⟩
def nots:Nat→Nat→List Nat→List Nat
  | 0,_,_=>[]
  | k+1,i,[]=>i::nots k (i+1) []
  | k+1,i,t::ts=>match Nat.beq i t with
    | true=>nots k (i+1) ts
    | false=>i::nots k (i+1) (t::ts)
def lkC (fn id:Nat):List (Nat×Nat×List (Nat×List Nat))→List Nat
  | []=>[]
  | (f,n,t)::r=>if fn=f then (match t.lookup id with
    | some l=>nots n 0 l
    | none=>[]) else lkC fn id r
end Kz
end
