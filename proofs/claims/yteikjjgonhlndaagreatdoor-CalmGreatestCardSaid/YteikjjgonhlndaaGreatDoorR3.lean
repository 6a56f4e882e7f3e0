/- Part 3 of the texts under the proof: an abstract interpreter,the summaries of functions,plain laws. -/
import Derived.Test.YteikjjgonhlndaaGreatDoorR2
set_option linter.unusedSectionVars false
set_option linter.unusedVariables false
set_option linter.unusedSimpArgs false
set_option linter.unnecessarySimpa false
section
namespace Kz
open Go Go.RowKit
structure D (α:Type) where
  arg:α→AV
  res:α→AV
  dec:AV→Option α
  ok:∀ a x,dec a=some x→∀ (g:Gh) (tk:List Nat) (w:World) (c:Value),Rep g tk w a c→Rep g tk w (arg x) c
  rok:∀ a x,dec a=some x→freshAV a=true→∀ (g:Gh) (w:World) (c:Value),Rep g [] w a c→Rep g [] w (res x) c
section
variable {g:Gh} {tk:List Nat} {w:World}
theorem toI_int {k:IntKind} {a:AV} {n:Int} (h:(if kindOk k a then toI a else none)=some n) {c:Value} (hr:Rep g tk w a c):Rep g tk w (.int k n) c:=by
  simp only [Option.ite_none_right_eq_some] at h
  rw [toI_rep h.1 h.2 hr]
  exact .int _ _
def dI (k:IntKind):D Int where
  arg := .int k
  res := .int k
  dec a:=if kindOk k a then toI a else none
  ok _ _ h _ _ _ _ hr:=toI_int h hr
  rok _ _ h _ _ _ _ hr:=toI_int h hr
def dB:D Bool where
  arg := .bool
  res := .bool
  dec:=toB
  ok _ _ h _ _ _ _ hr:=by rw [toB_rep h hr]; exact .bool _
  rok _ _ h _ _ _ _ hr:=by rw [toB_rep h hr]; exact .bool _
theorem toU_av {a:AV} {x:BitVec 64} (h:toU a=some x):a=.u64 x:=by cases a <;> simp [toU] at h; rw [h]
theorem toS_av {a:AV} {x:List UInt8} (h:toS a=some x):a=.str x:=by cases a <;> simp [toS] at h; rw [h]
def dU:D (BitVec 64) where
  arg := .u64
  res := .u64
  dec:=toU
  ok _ _ h _ _ _ _ hr:=by rw [toU_av h] at hr; exact hr
  rok _ _ h _ _ _ _ hr:=by rw [toU_av h] at hr; exact hr
def dS:D (List UInt8) where
  arg := .str
  res := .str
  dec:=toS
  ok _ _ h _ _ _ _ hr:=by rw [toS_av h] at hr; exact hr
  rok _ _ h _ _ _ _ hr:=by rw [toS_av h] at hr; exact hr
theorem agg_of {v:AV} {m:AV} (hm:m=.agg (segs m)) (hv:v=.agg (segs v)) (h:∀ cs,RepC g tk w (segs v) cs→RepC g tk w (segs m) cs) {c:Value} (hr:Rep g tk w v c):Rep g tk w m c:=by
  rw [hv] at hr
  obtain ⟨cs,rfl,hc⟩:=hr.inv_agg
  rw [hm]
  exact .agg (h _ hc)
theorem toMv_av {v:AV} {m:Mv} (h:toMv v=some m):v=.agg (segs v):=by
  unfold toMv at h
  split at h
  · rfl
  · cases h
theorem toPos_av {v:AV} {m:Pos} (h:toPos v=some m):v=.agg (segs v):=by
  unfold toPos at h
  split at h
  · rfl
  · cases h
def dMv:D Mv where
  arg:=Mv.av
  res:=Mv.av
  dec:=toMv
  ok _ _ h _ _ _ _ hr:=agg_of rfl (toMv_av h) (fun _ hc=>(toMv_rep h hc).1) hr
  rok _ _ h _ _ _ _ hr:=agg_of rfl (toMv_av h) (fun _ hc=>(toMv_rep h hc).1) hr
def dPos:D Pos where
  arg:=Pos.av
  res:=Pos.av
  dec:=toPos
  ok _ _ h _ _ _ _ hr:=agg_of rfl (toPos_av h) (fun _ hc=>(toPos_rep h hc).1) hr
  rok _ _ h _ _ _ _ hr:=agg_of rfl (toPos_av h) (fun _ hc=>(toPos_rep h hc).1) hr
theorem list_arg {e:ET} {a:AV} {xs:List e.T} (h:elemsOf e a=some xs) {c:Value} (hr:Rep g tk w a c):Rep g tk w (.list e xs .arg) c:=by
  unfold elemsOf at h
  split at h
  · rename_i e' l t
    split at h
    · rename_i he
      subst he
      simp only [Option.some.injEq] at h
      subst h
      cases hr with
      | list hn h1 h2 h3 h4 =>
        exact .list hn h1 (h2.imp id fun ⟨c,o,e1,e2,_⟩=>⟨c,o,e1,e2,fun f=>absurd rfl f⟩) (fun k e=>by cases e) h4
    · cases h
  · rename_i fr l
    cases hr with
    | vlist hn h1 h2 h4 =>
      have hl:=decAll_len h
      exact .list (by omega) (decAll_rep h h1) (h2.imp id fun ⟨c,o,e1,e2,_⟩=>⟨c,o,e1,e2,fun f=>absurd rfl f⟩) (fun k e=>by cases e) (by omega)
  · simp only [Option.some.injEq] at h
    subst h
    cases hr
    exact .list rfl .nil (.inl rfl) (fun k e=>by cases e) (Nat.le_refl _)
  · cases h
theorem list_res {e:ET} {a:AV} {xs:List e.T} (h:elemsOf e a=some xs) (hf:freshAV a=true) {c:Value} (hr:Rep g tk w a c):Rep g tk w (.list e xs .fresh) c:=by
  unfold elemsOf at h
  split at h
  · rename_i e' l t
    split at h
    · rename_i he
      subst he
      simp only [Option.some.injEq] at h
      subst h
      cases hr with
      | list hn h1 h2 h3 h4 =>
        refine .list hn h1 (h2.imp id fun ⟨c,o,e1,e2,e3⟩=>⟨c,o,e1,e2,fun _=>e3 ?_⟩) (fun k e=>by cases e) h4
        rintro rfl
        simp [freshAV] at hf
    · cases h
  · rename_i fr l
    simp only [freshAV,Bool.and_eq_true] at hf
    cases hr with
    | vlist hn h1 h2 h4 =>
      have hl:=decAll_len h
      exact .list (by omega) (decAll_rep h h1) (h2.imp id fun ⟨c,o,e1,e2,e3⟩=>⟨c,o,e1,e2,fun _=>e3 hf.1⟩) (fun k e=>by cases e) (by omega)
  · simp only [Option.some.injEq] at h
    subst h
    cases hr
    exact .list rfl .nil (.inl rfl) (fun k e=>by cases e) (Nat.le_refl _)
  · cases h
def dL (e:ET):D (List e.T) where
  arg l := .list e l .arg
  res l := .list e l .fresh
  dec:=elemsOf e
  ok _ _ h _ _ _ _ hr:=list_arg h hr
  rok _ _ h hf _ _ _ hr:=list_res h hf hr
def toArr (k:IntKind) (n:Nat):AV→Option (List Int)
  | .agg [.ints k' n' l]=>if k=k'∧n=n' then some l else none
  | _=>none
theorem toArr_av {k:IntKind} {n:Nat} {a:AV} {l:List Int} (h:toArr k n a=some l):a=.agg [.ints k n l]:=by
  unfold toArr at h
  split at h
  · simp only [Option.ite_none_right_eq_some,Option.some.injEq] at h
    obtain ⟨⟨rfl,rfl⟩,rfl⟩:=h
    rfl
  · cases h
def dArr (k:IntKind) (n:Nat):D (List Int) where
  arg l := .agg [.ints k n l]
  res l := .agg [.ints k n l]
  dec:=toArr k n
  ok _ _ h _ _ _ _ hr:=by rw [toArr_av h] at hr; exact hr
  rok _ _ h _ _ _ _ hr:=by rw [toArr_av h] at hr; exact hr
def toR (k k':IntKind):AV→Option (Int×Int)
  | .agg [a,b]=>if kindOk k a&&kindOk k' b then (toI a).bind fun x=>(toI b).map fun y=>(x,y) else none
  | _=>none
theorem toR_rep {k k':IntKind} {v:AV} {m:Int×Int} (h:toR k k' v=some m) {c:Value} (hr:Rep g tk w v c):Rep g tk w (.agg [.int k m.1,.int k' m.2]) c:=by
  unfold toR at h
  split at h
  · rename_i a b
    simp only [Option.ite_none_right_eq_some,Bool.and_eq_true,Option.bind_eq_some_iff,Option.map_eq_some_iff] at h
    obtain ⟨⟨k1,k2⟩,x,hx,y,hy,rfl⟩:=h
    obtain ⟨cs,rfl,hc⟩:=hr.inv_agg
    obtain ⟨x1,r1,e1,q1,hc⟩:=hc.inv_one (cellable_toI hx)
    obtain ⟨x2,r2,rfl,q2,hc⟩:=hc.inv_one (cellable_toI hy)
    obtain rfl:=hc.inv_nil
    obtain rfl:=toI_rep k1 hx q1
    obtain rfl:=toI_rep k2 hy q2
    exact .agg (by rw [e1]; exact .one rfl (.int _ _) (.one rfl (.int _ _) .nil))
  · cases h
def dR (k k':IntKind):D (Int×Int) where
  arg m := .agg [.int k m.1,.int k' m.2]
  res m := .agg [.int k m.1,.int k' m.2]
  dec:=toR k k'
  ok _ _ h _ _ _ _ hr:=toR_rep h hr
  rok _ _ h _ _ _ _ hr:=toR_rep h hr
def dec2 {α β:Type} (d:AV→Option α) (e:AV→Option β):AV→Option (α×β)
  | .tuple [a,b]=>(d a).bind fun x=>(e b).map fun y=>(x,y)
  | _=>none
def d2 {α β:Type} (d:D α) (e:D β):D (α×β) where
  arg p := .tuple [d.arg p.1,e.arg p.2]
  res p := .tuple [d.res p.1,e.res p.2]
  dec:=dec2 d.dec e.dec
  ok a x h g tk w c hr:=by
    unfold dec2 at h
    split at h
    · simp only [Option.bind_eq_some_iff,Option.map_eq_some_iff] at h
      obtain ⟨x,h1,y,h2,rfl⟩:=h
      cases hr with
      | tuple hl =>
        rename_i a b vs
        obtain ⟨l⟩:=vs
        cases hl with
        | cons q r=>cases r with | cons q2 r2=>cases r2; exact .tuple (.cons (d.ok _ _ h1 _ _ _ _ q) (.cons (e.ok _ _ h2 _ _ _ _ q2) .nil))
    · cases h
  rok a x h hf g w c hr:=by
    unfold dec2 at h
    split at h
    · simp only [Option.bind_eq_some_iff,Option.map_eq_some_iff] at h
      obtain ⟨x,h1,y,h2,rfl⟩:=h
      simp only [freshAV,freshL,Bool.and_eq_true] at hf
      cases hr with
      | tuple hl =>
        rename_i a b vs
        obtain ⟨l⟩:=vs
        cases hl with
        | cons q r=>cases r with | cons q2 r2=>cases r2; exact .tuple (.cons (d.rok _ _ h1 hf.1 _ _ _ q) (.cons (e.rok _ _ h2 hf.2.1 _ _ _ q2) .nil))
    · cases h
end
def Sound (P:Program) (f:Nat) (G:List AV→Tr AV):Prop :=
  ∀ as v,(G as).get=some v→PureSpec P f as v∧∃ fn,P.funcs[f]?=some fn∧fn.body.isSome=true
def LSound (P:Program) (b:Code) (F:St→Tr Out):Prop := ∀ s out,(F s).get=some out→LSpec P b s out
def rid:Code→Option Nat
  | .region id _ _=>some id
  | .seq a b=>match rid a with
    | some i=>some i
    | none=>rid b
  | .cond _ a b=>match rid a with
    | some i=>some i
    | none=>rid b
  | .block _ b=>rid b
  | .loop b=>rid b
  | .scope b=>rid b
  | _=>none
def lkF (f:Nat):List (Nat×(List AV→Tr AV))→Option (List AV→Tr AV)
  | []=>none
  | (g,G)::t=>if f=g then some G else lkF f t
def lkL (fn:Nat) (r:Option Nat):List (Nat×Nat×(Code→St→Tr Out))→Option (Code→St→Tr Out)
  | []=>none
  | (f,i,F)::t=>if fn=f∧r=some i then some F else lkL fn r t
def lkH (f:Nat):List (Nat×(List AV→Hp→Tr FRes))→Option (List AV→Hp→Tr FRes)
  | []=>none
  | (g,G)::t=>if f=g then some G else lkH f t
def baseOf (P:Program) (kill:Nat→Nat→List Nat) (tab:List (Nat×(List AV→Tr AV))) (ls:List (Nat×Nat×(Code→St→Tr Out))) (fs:List (Nat×(List AV→Hp→Tr FRes))):Base where
  P:=P
  pf f:=(lkF f tab).isSome
  G f as:=match lkF f tab with
    | some G=>G as
    | none=>.fail
  kill:=kill
  lsum fn b:=(lkL fn (rid b) ls).map fun F=>F b
  fsum f:=lkH f fs
def FSound (P:Program) (f:Nat) (F:List AV→Hp→Tr FRes):Prop := ∀ args h res,(F args h).get=some res→FSpec P f args h res∧∃ fn,P.funcs[f]?=some fn∧fn.body.isSome=true
def FSoundAll (P:Program):List (Nat×(List AV→Hp→Tr FRes))→Prop
  | []=>True
  | (f,F)::t=>FSound P f F∧FSoundAll P t
def SoundAll (P:Program):List (Nat×(List AV→Tr AV))→Prop
  | []=>True
  | (f,G)::t=>Sound P f G∧SoundAll P t
structure Named (P:Program):Prop where
  named : ∀ (f : Nat) (fn : Func), P.funcs[f]? = some fn → fn.body.isSome = true → (fn.name == "runtime.NumGoroutine") = false
theorem lkF_sound {P:Program} {f:Nat} {G:List AV→Tr AV}:∀ {tab:List (Nat×(List AV→Tr AV))},SoundAll P tab→lkF f tab=some G→Sound P f G
  | [],_,h=>by simp [lkF] at h
  | (g,G')::t,hs,h=>by
    simp only [lkF] at h
    split at h
    · rename_i e
      simp only [Option.some.injEq] at h
      subst e; subst h
      exact hs.1
    · exact lkF_sound hs.2 h
noncomputable def shut {α:Type} (a:α):α:=Classical.choose (⟨a,rfl⟩:∃ x,x=a)
theorem shut_eq {α:Type} (a:α):shut a=a:=Classical.choose_spec (⟨a,rfl⟩:∃ x,x=a)
def PS (P:Program) (f:Nat) (as:List AV) (v:AV):Prop:=PureSpec P f as v∧∃ fn,P.funcs[f]?=some fn∧fn.body.isSome=true
def g0 (F:Tr AV):List AV→Tr AV
  | []=>F
  | _=>.fail
def g1 {α:Type} (a:D α) (F:α→Tr AV):List AV→Tr AV
  | [x]=>(Tr.opt (a.dec x)).bind F
  | _=>.fail
def g2 {α β:Type} (a:D α) (b:D β) (F:α→β→Tr AV):List AV→Tr AV
  | [x,y]=>(Tr.opt (a.dec x)).bind fun x=>(Tr.opt (b.dec y)).bind fun y=>F x y
  | _=>.fail
def g3 {α β γ:Type} (a:D α) (b:D β) (c:D γ) (F:α→β→γ→Tr AV):List AV→Tr AV
  | [x,y,z]=>(Tr.opt (a.dec x)).bind fun x=>(Tr.opt (b.dec y)).bind fun y=>(Tr.opt (c.dec z)).bind fun z=>F x y z
  | _=>.fail
def g4 {α β γ δ:Type} (a:D α) (b:D β) (c:D γ) (d:D δ) (F:α→β→γ→δ→Tr AV):List AV→Tr AV
  | [x,y,z,u]=>(Tr.opt (a.dec x)).bind fun x=>(Tr.opt (b.dec y)).bind fun y=>(Tr.opt (c.dec z)).bind fun z=>(Tr.opt (d.dec u)).bind fun u=>F x y z u
  | _=>.fail
def At0 (P:Program) (f:Nat) (as:List AV) (t:Tr AV):Prop := ∀ v,t.get=some v→PureSpec P f as v∧∃ fn,P.funcs[f]?=some fn∧fn.body.isSome=true
theorem PureSpec.args {P:Program} {f:Nat} {as bs:List AV} {v:AV} (h:PureSpec P f bs v) (hc:∀ w cs,RepL (gArg w) [] w as cs→RepL (gArg w) [] w bs cs):PureSpec P f as v :=
  fun w vals hg hr=>h w vals hg (hc w _ hr)
theorem sound0 {P:Program} {f:Nat} {F:Tr AV} (h:At0 P f [] F):Sound P f (g0 F):=by
  intro as v he
  cases as with
  | nil=>exact h v he
  | cons=>simp [g0] at he
theorem sound1 {P:Program} {f:Nat} {α:Type} {a:D α} {F:α→Tr AV} (h:∀ x,At0 P f [a.arg x] (F x)):Sound P f (g1 a F):=by
  intro as v he
  unfold g1 at he
  split at he
  · simp only [get_bind,get_opt,Option.bind_eq_some_iff] at he
    obtain ⟨x,h1,h2⟩:=he
    obtain ⟨h3,h4⟩:=h x v h2
    refine ⟨h3.args fun w cs hr => ?_,h4⟩
    cases hr with
    | cons q r=>exact .cons (a.ok _ _ h1 _ _ _ _ q) r
  · simp at he
theorem sound2 {P:Program} {f:Nat} {α β:Type} {a:D α} {b:D β} {F:α→β→Tr AV} (h:∀ x y,At0 P f [a.arg x,b.arg y] (F x y)):Sound P f (g2 a b F):=by
  intro as v he
  unfold g2 at he
  split at he
  · simp only [get_bind,get_opt,Option.bind_eq_some_iff] at he
    obtain ⟨x,h1,y,h2,he⟩:=he
    obtain ⟨h3,h4⟩:=h x y v he
    refine ⟨h3.args fun w cs hr => ?_,h4⟩
    cases hr with
    | cons q r=>cases r with | cons q2 r=>exact .cons (a.ok _ _ h1 _ _ _ _ q) (.cons (b.ok _ _ h2 _ _ _ _ q2) r)
  · simp at he
theorem sound3 {P:Program} {f:Nat} {α β γ:Type} {a:D α} {b:D β} {c:D γ} {F:α→β→γ→Tr AV} (h:∀ x y z,At0 P f [a.arg x,b.arg y,c.arg z] (F x y z)):Sound P f (g3 a b c F):=by
  intro as v he
  unfold g3 at he
  split at he
  · simp only [get_bind,get_opt,Option.bind_eq_some_iff] at he
    obtain ⟨x,h1,y,h2,z,h3,he⟩:=he
    obtain ⟨h4,h5⟩:=h x y z v he
    refine ⟨h4.args fun w cs hr => ?_,h5⟩
    cases hr with
    | cons q r=>cases r with | cons q2 r=>cases r with | cons q3 r=>exact .cons (a.ok _ _ h1 _ _ _ _ q) (.cons (b.ok _ _ h2 _ _ _ _ q2) (.cons (c.ok _ _ h3 _ _ _ _ q3) r))
  · simp at he
mutual
theorem fresh_strip:∀ v:AV,freshAV (strip false v)=freshAV v
  | .any | .undef | .bool _ | .cbool _ | .int .. | .cint .. | .u64 _ | .str _ | .ints .. | .ptr .. | .ptri .. | .nilptr | .slf _ | .vsl .. | .nilsl | .yield _ | .nilfunc | .niliface | .ptrf _=>by simp [strip,freshAV]
  | .list e l t=>by cases t <;> simp [strip,freshAV,Tk.res]
  | .agg l=>by simp only [strip,freshAV]; exact freshL_strip l
  | .tuple l=>by simp only [strip,freshAV]; exact freshL_strip l
  | .vlist _ l=>by simp only [strip,freshAV]; rw [freshL_strip l]; simp
  | .iface _ v=>by simp only [strip,freshAV]; exact fresh_strip v
  | .func _ a b=>by simp only [strip,freshAV]; rw [freshL_strip a,freshL_strip b]
theorem freshL_strip:∀ l:List AV,freshL (stripL false l)=freshL l
  | []=>rfl
  | v::vs=>by simp only [stripL,freshL]; rw [fresh_strip v,freshL_strip vs]
end
theorem evPure_fresh {B:Base} {n f:Nat} {as:List AV} {v:AV} (h:(evPure B n f as).get=some v):freshAV v=true:=by
  unfold evPure at h
  simp only [get_bind,Option.bind_eq_some_iff] at h
  obtain ⟨r,_,h2⟩:=h
  split at h2
  · split at h2
    · rename_i hc
      simp only [get_ret,Option.some.injEq] at h2
      subst h2
      simp only [Bool.and_eq_true] at hc
      rw [fresh_strip]
      exact hc.2
    · simp at h2
  · simp at h2
theorem ps_of {B:Base} (hB:BOk B) {n f:Nat} {as:List AV} {v:AV} (h:(evPure B n f as).get=some v) {α:Type} (d:D α) {x:α} (hd:d.dec v=some x):PS B.P f as (d.res x):=by
  obtain ⟨h3,h4⟩:=evPure_ok hB h
  refine ⟨fun w vals hg hr=>(h3 w vals hg hr).mono ?_,h4⟩
  rintro e w' ⟨y,rfl,hb,hx⟩
  exact ⟨y,rfl,hb,d.rok _ _ hd (evPure_fresh h) _ _ _ hx⟩
def LSoundAll (P:Program):List (Nat×Nat×(Code→St→Tr Out))→Prop
  | []=>True
  | (_,_,F)::t=>(∀ b,LSound P b (F b))∧LSoundAll P t
theorem lkL_sound {P:Program} {fn:Nat} {r:Option Nat} {F:Code→St→Tr Out}:∀ {ls:List (Nat×Nat×(Code→St→Tr Out))},LSoundAll P ls→lkL fn r ls=some F→∀ b,LSound P b (F b)
  | [],_,h=>by simp [lkL] at h
  | (f,i,F')::t,hs,h=>by
    simp only [lkL] at h
    split at h
    · simp only [Option.some.injEq] at h
      subst h
      exact hs.1
    · exact lkL_sound hs.2 h
theorem lkH_sound {P:Program} {f:Nat} {G:List AV→Hp→Tr FRes}:∀ {tab:List (Nat×(List AV→Hp→Tr FRes))},FSoundAll P tab→lkH f tab=some G→FSound P f G
  | [],_,h=>by simp [lkH] at h
  | (g,G')::t,hs,h=>by
    simp only [lkH] at h
    split at h
    · rename_i e
      simp only [Option.some.injEq] at h
      subst e; subst h
      exact hs.1
    · exact lkH_sound hs.2 h
theorem base_ok {P:Program} (hn:Named P) {kill:Nat→Nat→List Nat} {tab:List (Nat×(List AV→Tr AV))} {ls:List (Nat×Nat×(Code→St→Tr Out))} {fs:List (Nat×(List AV→Hp→Tr FRes))} (ht:SoundAll P tab) (hl:LSoundAll P ls) (hf:FSoundAll P fs):BOk (baseOf P kill tab ls fs) where
  named:=hn.named
  fsum f F args h res h1 h2:=lkH_sound hf h1 args h res h2
  lsum fn b F s out h1 h2:=by
    simp only [baseOf,Option.map_eq_some_iff] at h1
    obtain ⟨F',h3,rfl⟩:=h1
    exact lkL_sound hl h3 b s out h2
  pf f as v h1 h2:=by
    simp only [baseOf] at h1 h2
    cases hk:lkF f tab with
    | none=>rw [hk] at h1; cases h1
    | some G =>
      rw [hk] at h2
      exact lkF_sound ht hk as v h2
def envAt (B:Base) (m:Nat):Env:={ B with call:=evF B m,loop:=evL B m }
def WkA (a b:AV):Prop := ∀ (g:Gh) (tk:List Nat) (w:World) (v:Value),Rep g tk w a v→Rep g tk w b v
def WkC (a b:List AV):Prop := ∀ (g:Gh) (tk:List Nat) (w:World) (v:List Value),RepC g tk w a v→RepC g tk w b v
theorem WkA.refl (a:AV):WkA a a:=fun _ _ _ _ h=>h
theorem WkA.any (a:AV):WkA a .any:=fun _ _ _ _ _=>.any _
theorem WkA.cint (k:IntKind) (n:Int):WkA (.cint k n) (.int k n):=fun _ _ _ _ h=>by cases h; exact .int _ _
theorem WkA.cbool (b:Bool):WkA (.cbool b) (.bool b):=fun _ _ _ _ h=>by cases h; exact .bool _
theorem WkA.agg {l m:List AV} (h:WkC l m):WkA (.agg l) (.agg m):=fun _ _ _ _ hr=>by
  obtain ⟨cs,rfl,hc⟩:=hr.inv_agg
  exact .agg (h _ _ _ _ hc)
theorem WkA.trans {a b c:AV} (h:WkA a b) (k:WkA b c):WkA a c:=fun g tk w v hr=>k g tk w v (h g tk w v hr)
theorem WkC.refl (a:List AV):WkC a a:=fun _ _ _ _ h=>h
theorem WkC.cons {a b:AV} {l m:List AV} (ha:cellable a=true) (hb:cellable b=true) (h:WkA a b) (hl:WkC l m):WkC (a::l) (b::m):=fun g tk w v hr=>by
  obtain ⟨c,r,rfl,q,h2⟩:=hr.inv_one ha
  exact .one hb (h g tk w c q) (hl g tk w r h2)
theorem WkC.ints {k:IntKind} {n:Nat} {x:List Int} {l m:List AV} (hl:WkC l m):WkC (.ints k n x::l) (.ints k n x::m):=fun g tk w v hr=>by
  obtain ⟨h1,r,rfl,h2⟩:=hr.inv_ints
  exact .ints h1 rfl (hl g tk w r h2)
inductive All2 {α β:Type} (R:α→β→Prop):List α→List β→Prop
  | nil:All2 R [] []
  | cons {a:α} {b:β} {l:List α} {m:List β} (h:R a b) (hl:All2 R l m):All2 R (a::l) (b::m)
structure WkS (s t:St):Prop where
  tmps:All2 WkA s.tmps t.tmps
  heap:All2 WkC s.hp.heap t.hp.heap
  low:∀ i,i < s.hp.lo→s.hp.heap[i]?=t.hp.heap[i]?
  toks:t.hp.toks=s.hp.toks
  loops:t.hp.loops=s.hp.loops
  lo:t.hp.lo=s.hp.lo
  tlo:t.hp.tlo=s.hp.tlo
  llo:t.hp.llo=s.hp.llo
theorem RepL.wk {g:Gh} {tk:List Nat} {w:World} {l m:List AV} (h:All2 WkA l m) {vs:List Value} (hr:RepL g tk w l vs):RepL g tk w m vs:=by
  induction h generalizing vs with
  | nil=>exact hr
  | cons h1 h2 ih=>cases hr with | cons q r=>exact .cons (h1 _ _ _ _ q) (ih r)
theorem forall2_get {α β:Type} {R:α→β→Prop} {l:List α} {m:List β} (h:All2 R l m):l.length=m.length∧∀ (i:Nat) y,m[i]?=some y→∃ x,l[i]?=some x∧R x y:=by
  induction h with
  | nil=>exact ⟨rfl,fun i y hy=>by simp at hy⟩
  | cons h1 h2 ih =>
    refine ⟨by simp [ih.1],fun i y hy => ?_⟩
    cases i with
    | zero=>simp at hy; subst hy; exact ⟨_,rfl,h1⟩
    | succ i=>simp at hy; simpa using ih.2 i y hy
theorem MR.wk {g:Gh} {s t:St} {w:World} (h:WkS s t) (m:MR g s.hp w):MR g t.hp w:=by
  obtain ⟨h1,h2⟩:=forall2_get h.heap
  refine ⟨m.base,m.fzlt,m.vlen.trans h1,fun i c l k1 k2 => ?_,m.vnd,by rw [h.toks]; exact m.tlen,by rw [h.toks]; exact m.tok0,by rw [h.toks]; exact m.tok,m.tnd,by rw [h.loops]; exact m.llen,by rw [h.loops,h.toks]; exact m.loop,m.lnd,m.defs,m.glob⟩
  obtain ⟨x,k3,k4⟩:=h2 i l k2
  obtain ⟨a,f,cells,ty,d,e⟩:=m.var i c x k1 k3
  rw [h.toks]
  exact ⟨a,f,cells,ty,d,k4 _ _ _ _ e⟩
theorem Fl.wk {s t:St} (h:WkS s t) {h':Hp} (hf:Fl t.hp h'):Fl s.hp h' :=
  ⟨hf.lo.trans h.lo,hf.tlo.trans h.tlo,hf.llo.trans h.llo,fun i x hi hx=>hf.heap i x (by rw [h.lo]; exact hi) (by rw [← h.low i hi]; exact hx),fun i x hi hx=>hf.toks i x (by rw [h.tlo]; exact hi) (by rw [h.toks]; exact hx),fun i x hi hx=>hf.loops i x (by rw [h.llo]; exact hi) (by rw [h.loops]; exact hx)⟩
theorem LSpec.wk {P:Program} {b:Code} {s t:St} {out:Out} (h:WkS s t) (hs:LSpec P b t out):LSpec P b s out:=by
  intro ro g w a W0 m ht mk hW hro
  have hx:=hs ro g w a W0 (m.wk h) (by rw [h.toks]; exact ht.wk h.tmps) mk hW hro
  refine loopIn_mono hx ?_
  intro e a' w' hp
  have nx:∀ {g' h'},Nx g t.hp w g' h' w'→Nx g s.hp w g' h' w':=fun n=>⟨n.mr,by have:=n.le; rw [h.toks] at this; exact this,n.fl.wk h⟩
  cases out with
  | norm s=>obtain ⟨e1,g1,n1,r1,m1⟩:=hp; exact ⟨e1,g1,nx n1,r1,m1⟩
  | ret s=>obtain ⟨e1,g1,n1,r1,m1⟩:=hp; exact ⟨e1,g1,nx n1,r1,m1⟩
  | exit id s=>obtain ⟨e1,g1,n1,r1,m1⟩:=hp; exact ⟨e1,g1,nx n1,r1,m1⟩
  | panic v h=>obtain ⟨x,g1,e1,n1,r1,m1⟩:=hp; exact ⟨x,g1,e1,nx n1,r1,m1⟩
def WkO:Out→Out→Prop
  | .norm s,.norm t=>WkS s t
  | .ret s,.ret t=>WkS s t
  | .exit i s,.exit j t=>i=j∧WkS s t
  | .panic v h,o=>o=.panic v h
  | _,_=>False
theorem Nx.wk {g:Gh} {h:Hp} {w:World} {g':Gh} {s t:St} {w':World} (hw:WkS s t) (n:Nx g h w g' s.hp w'):Nx g h w g' t.hp w' :=
  ⟨n.mr.wk hw,by have:=n.le; rw [hw.toks]; exact this,
    ⟨hw.lo.trans n.fl.lo,hw.tlo.trans n.fl.tlo,hw.llo.trans n.fl.llo,fun i x hi hx=>by rw [← hw.low i (by rw [n.fl.lo]; exact hi)]; exact n.fl.heap i x hi hx,fun i x hi hx=>by rw [hw.toks]; exact n.fl.toks i x hi hx,fun i x hi hx=>by rw [hw.loops]; exact n.fl.loops i x hi hx⟩⟩
theorem CPost.wk {g:Gh} {h:Hp} {w:World} {W0:DB} {o o':Out} {e:Exit} {a':Act} {w':World} (hw:WkO o o') (hp:CPost g h w W0 o e a' w'):CPost g h w W0 o' e a' w':=by
  cases o with
  | norm s =>
    cases o' with
    | norm t=>obtain ⟨e1,g1,n1,r1,m1⟩:=hp; exact ⟨e1,g1,n1.wk hw,by rw [hw.toks]; exact r1.wk hw.tmps,m1⟩
    | _=>exact hw.elim
  | ret s =>
    cases o' with
    | ret t=>obtain ⟨e1,g1,n1,r1,m1⟩:=hp; exact ⟨e1,g1,n1.wk hw,by rw [hw.toks]; exact r1.wk hw.tmps,m1⟩
    | _=>exact hw.elim
  | exit i s =>
    cases o' with
    | exit j t =>
      obtain ⟨rfl,hw⟩:=hw
      obtain ⟨e1,g1,n1,r1,m1⟩:=hp
      exact ⟨e1,g1,n1.wk hw,by rw [hw.toks]; exact r1.wk hw.tmps,m1⟩
    | _=>exact hw.elim
  | panic v h =>
    have:o'=.panic v h:=hw
    subst this
    exact hp
theorem LSpec.out {P:Program} {b:Code} {s:St} {o o':Out} (hw:WkO o o') (hs:LSpec P b s o):LSpec P b s o' :=
  fun ro g w a W0 m ht mk hW hro=>loopIn_mono (hs ro g w a W0 m ht mk hW hro) fun _ _ _ hp=>hp.wk hw
theorem LSpec.step {B:Base} (hB:BOk B) {m fn:Nat} {b:Code} {s s1:St} {out:Out} (h1:(evC (envAt B m) (evL B m) fn b s).get=some (.norm s1)) (h2:LSpec B.P b s1 out):LSpec B.P b s out:=by
  obtain ⟨i1,i2,i3⟩:=ev_ok hB m
  have ok:EOk (envAt B m):=⟨hB.lsum,hB.named,hB.pf,i1⟩
  have hc:=evC_ok ok i2 i3 fn b s (.norm s1) h1
  intro ro g w a W0 mr ht mk hW hro
  refine loopIn_of_wpIn (wpIn_mono (hc ro g w a W0 mr ht mk hW hro) ?_)
  rintro e a1 w1 ⟨rfl,g1,nx,hr,mk1⟩
  have:=h2 ro g1 w1 a1 W0 nx.mr hr mk1 (Nat.le_trans hW nx.le.below.size) (fun c hc=>let ⟨l,hl⟩:=hro c hc; ⟨l,nx.le.loops _ _ hl⟩)
  exact loopIn_mono this fun e a2 w2 hp2=>hp2.nx nx
theorem LSpec.stop {B:Base} (hB:BOk B) {m fn:Nat} {b:Code} {s:St} {out:Out} (h1:(evC (envAt B m) (evL B m) fn b s).get=some out) (hn:∀ s1,out≠.norm s1):LSpec B.P b s out:=by
  obtain ⟨i1,i2,i3⟩:=ev_ok hB m
  have ok:EOk (envAt B m):=⟨hB.lsum,hB.named,hB.pf,i1⟩
  have hc:=evC_ok ok i2 i3 fn b s out h1
  intro ro g w a W0 mr ht mk hW hro
  refine loopIn_of_wpIn (wpIn_mono (hc ro g w a W0 mr ht mk hW hro) ?_)
  intro e a1 w1 hp
  cases out with
  | norm s1=>exact absurd rfl (hn s1)
  | ret s1=>obtain ⟨rfl,rest⟩:=hp; exact ⟨rfl,rest⟩
  | exit i s1=>obtain ⟨rfl,rest⟩:=hp; exact ⟨rfl,rest⟩
  | panic v h=>obtain ⟨x,g1,rfl,rest⟩:=hp; exact ⟨x,g1,rfl,rest⟩
def findL (i:Nat):Code→Option Code
  | .seq a b=>match findL i a with
    | some c=>some c
    | none=>findL i b
  | .cond _ a b=>match findL i a with
    | some c=>some c
    | none=>findL i b
  | .block _ b=>findL i b
  | .scope b=>findL i b
  | .rangeFunc _ _ a b=>match findL i a with
    | some c=>some c
    | none=>findL i b
  | .loop b=>if rid b=some i then some b else findL i b
  | _=>none
def bodyOf (P:Program) (f:Nat):Code:=(((P.funcs[f]?).bind (·.body))).getD .skip
def bodL (P:Program) (f i:Nat):Code:=(findL i (bodyOf P f)).getD .skip
theorem All2.same {α:Type} {R:α→α→Prop} (h:∀ a,R a a):∀ l,All2 R l l
  | []=>.nil
  | a::l=>.cons (h a) (All2.same h l)
theorem wk_killG:∀ (i:Nat) (ts:List Nat) (l:List AV),All2 WkA l (killG i l ts)
  | _,_,[]=>by rw [killG]; exact .nil
  | _,[],a::l=>by rw [killG]; exact All2.same WkA.refl _
  | i,t::ts,a::l=>by
    rw [killG]
    cases Nat.beq i t with
    | true=>exact .cons (WkA.any _) (wk_killG (i+1) ts l)
    | false=>exact .cons (WkA.refl _) (wk_killG (i+1) (t::ts) l)
theorem wk_kill (ts:List Nat) (l:List AV):All2 WkA l (killT l ts):=wk_killG 0 ts l
theorem WkS.kill (ts:List Nat) {l m:List AV} (h:Hp) (e:killT l ts=m):WkS ⟨l,h⟩ ⟨m,h⟩ :=
  ⟨e ▸ wk_kill ts l,All2.same WkC.refl _,fun _ _=>rfl,rfl,rfl,rfl,rfl,rfl⟩
def Got {α:Type} (d:D α) (T:Tr AV) (ok:Bool) (x:α):Prop:=ok=true→∃ v,T.get=some v∧d.dec v=some x
section
variable {α:Type} {d:D α}
theorem go_ret {v:AV} {x:α} (h:d.dec v=some x):Got d (.ret v) true x:=fun _=>⟨v,rfl,h⟩
theorem Got.as {T:Tr AV} {ok ok':Bool} {x y:α} (h:Got d T ok x) (h1:ok'=true→ok=true) (h2:ok'=true→x=y):Got d T ok' y:=fun k=>h2 k ▸ h (h1 k)
end
section
variable {α V:Type} {R:α→V→Prop}
def GotR (R:α→V→Prop) (T:Tr α) (ok:Bool) (x:V):Prop:=ok=true→∃ v,T.get=some v∧R v x
theorem gr_ret {v:α} {x:V} (h:R v x):GotR R (.ret v) true x:=fun _=>⟨v,rfl,h⟩
theorem gr_br {b ok1 ok2:Bool} {t e:Tr α} {x y:V} (h1:GotR R t ok1 x) (h2:GotR R e ok2 y):GotR R (.br b t e) (bif b then ok1 else ok2) (bif b then x else y):=by
  intro h
  cases b with
  | true=>exact h1 h
  | false=>exact h2 h
theorem gr_guard {b ok:Bool} {t:Tr α} {x:V} (h1:GotR R t ok x):GotR R (.br b t .fail) (b&&ok) x:=by
  intro h
  cases b with
  | true=>exact h1 h
  | false=>cases h
theorem gr_nguard {b ok:Bool} {t:Tr α} {x:V} (h1:GotR R t ok x):GotR R (.br b .fail t) (!b&&ok) x:=by
  intro h
  cases b with
  | true=>cases h
  | false=>exact h1 h
end
instance {α β:Type} [Inhabited α]:Inhabited (α ⊕ β):=⟨.inl default⟩
def isL {α β:Type}:α ⊕ β→Bool
  | .inl _=>true
  | .inr _=>false
def gl {α β:Type} [Inhabited α]:α ⊕ β→α
  | .inl a=>a
  | .inr _=>default
def gr {α β:Type} [Inhabited β]:α ⊕ β→β
  | .inl _=>default
  | .inr b=>b
section
variable {α V:Type} {R:α→V→Prop} {A B C D:Type} [Inhabited A] [Inhabited B] [Inhabited C] [Inhabited D]
end
def dropB (n:Nat) (v:AV) (h:Hp):Hp :=
  if inAV n h.toks.length h.loops.length v&&(h.heap.take n).all (inL n h.toks.length h.loops.length)&&h.loops.all (fun r=>inL n h.toks.length h.loops.length r.tmps) then { h with heap:=h.heap.take n } else h
theorem dropB_ok {g g':Gh} {h h':Hp} {w w':World} {v:AV} {x:Value} (m:MR g h w) (m':MR g' h' w') (hle:Le g h.toks w g' h'.toks w') (hf:Fl h h') (hv:Rep g' h'.toks w' v x) :
    ∃ g'',MR g'' (dropB h.heap.length v h') w'∧Le g h.toks w g'' (dropB h.heap.length v h').toks w'∧Fl h (dropB h.heap.length v h')∧Rep g'' (dropB h.heap.length v h').toks w' v x∧(∀ D,D ∈ g'.defs→D ∈ g''.defs):=by
  unfold dropB
  split
  · rename_i hc
    simp only [Bool.and_eq_true,List.all_eq_true] at hc
    obtain ⟨⟨hb1,hb2⟩,hb3⟩:=hc
    have hsub:∀ (i c:Nat),(g'.vars.take h.heap.length)[i]?=some c→i < h.heap.length∧g'.vars[i]?=some c:=fun i c x=>by
      rw [List.getElem?_take] at x
      split at x
      · exact ⟨by assumption,x⟩
      · cases x
    have hget:∀ (i c:Nat),i < h.heap.length→g'.vars[i]?=some c→(g'.vars.take h.heap.length)[i]?=some c:=fun i c hi x=>by rw [List.getElem?_take_of_lt hi]; exact x
    have cut:Cut h.heap.length h'.toks.length h'.loops.length g' h'.toks { g' with vars:=g'.vars.take h.heap.length } h'.toks :=
      ⟨rfl,fun _ _ x=>x,fun i c hi hx=>hget i c hi hx,fun _ _ _ x=>x,fun _ _ _ x=>⟨x,rfl⟩⟩
    refine ⟨{ g' with vars:=g'.vars.take h.heap.length },⟨m'.base,m'.fzlt,by simp [m'.vlen],fun i c l h1 h2 => ?_,fun i j c h1 h2=>m'.vnd i j c (hsub _ _ h1).2 (hsub _ _ h2).2,m'.tlen,m'.tok0,fun k b cap z h1 => ?_,m'.tnd,m'.llen,fun l c r h1 h2 => ?_,m'.lnd,m'.defs,m'.glob⟩,?_,?_,?_,fun _ x=>x⟩
    · obtain ⟨hi,h1'⟩:=hsub _ _ h1
      simp only at h2
      have h2m:=h2
      rw [List.getElem?_take_of_lt hi] at h2
      obtain ⟨a,f,cs,t,d',e⟩:=m'.var i c l h1' h2
      exact ⟨a,f,cs,t,d',e.cut cut (hb2 l (List.mem_of_getElem? h2m))⟩
    · obtain ⟨q,cs,t,a1,a2,a3,a4,a5,a6,a7,a8⟩:=m'.tok k b cap z h1
      exact ⟨q,cs,t,a1,a2,a3,a4,a5,a6,a7,fun hb=>a8 (List.mem_of_mem_take hb)⟩
    · obtain ⟨a,R,f,d'⟩:=m'.loop l c r h1 h2
      exact ⟨a,R,f,d'.cut cut (hb3 r (List.mem_of_getElem? h2))⟩
    · exact ⟨hle.base,hle.below,hle.fz,hle.cell,fun i c hx=>hget i c (by have:=lt_of_getElem? hx; rw [m.vlen] at this; exact this) (hle.vars i c hx),hle.loops,hle.defs,hle.tok⟩
    · exact ⟨hf.lo,hf.tlo,hf.llo,fun i x hi hx=>by
        show (h'.heap.take h.heap.length)[i]?=_
        rw [List.getElem?_take_of_lt (lt_of_getElem? hx)]; exact hf.heap i x hi hx,hf.toks,hf.loops⟩
    · exact hv.cut cut hb1
  · exact ⟨g',m',hle,hf,hv,fun _ x=>x⟩
def cutSt (n:Nat) (s:St):St:=⟨s.tmps,dropB n (.tuple s.tmps) s.hp⟩
def cutOut (n:Nat):Out→Out
  | .norm s=>.norm (cutSt n s)
  | .ret s=>.ret (cutSt n s)
  | .exit i s=>.exit i (cutSt n s)
  | .panic v h=>.panic v h
theorem CPost.cut {g:Gh} {h:Hp} {w:World} {W0:DB} {o:Out} {e:Exit} {a':Act} {w':World} (m:MR g h w) (hp:CPost g h w W0 o e a' w'):CPost g h w W0 (cutOut h.heap.length o) e a' w':=by
  have key:∀ (s:St),(∃ g',Nx g h w g' s.hp w'∧RepL g' s.hp.toks w' s.tmps a'.tmps.toList∧Marks g' W0 a'.defers) →
      ∃ g',Nx g h w g' (cutSt h.heap.length s).hp w'∧RepL g' (cutSt h.heap.length s).hp.toks w' (cutSt h.heap.length s).tmps a'.tmps.toList∧Marks g' W0 a'.defers:=by
    rintro s ⟨g1,n1,r1,m1⟩
    obtain ⟨g2,m2,l2,f2,r2,d2⟩:=dropB_ok m n1.mr n1.le n1.fl (Rep.tuple (vs:=a'.tmps) r1)
    refine ⟨g2,⟨m2,l2,f2⟩,?_,m1.mono d2⟩
    cases r2 with
    | tuple h=>exact h
  cases o with
  | norm s=>exact ⟨hp.1,key s hp.2⟩
  | ret s=>exact ⟨hp.1,key s hp.2⟩
  | exit i s=>exact ⟨hp.1,key s hp.2⟩
  | panic v h=>exact hp
def evCd (B:Base) (m fn:Nat) (b:Code) (s:St):Tr Out:=(evC (envAt B m) (evL B m) fn b s).bind fun o=>.ret (cutOut s.hp.heap.length o)
theorem evCd_spec {B:Base} (hB:BOk B) {m fn:Nat} {b:Code} {s:St} {out:Out} (h1:(evCd B m fn b s).get=some out):CSpec B.P b s out:=by
  obtain ⟨i1,i2,i3⟩:=ev_ok hB m
  have ok:EOk (envAt B m):=⟨hB.lsum,hB.named,hB.pf,i1⟩
  unfold evCd at h1
  simp only [get_bind,get_ret,Option.bind_eq_some_iff,Option.some.injEq] at h1
  obtain ⟨o,h1,rfl⟩:=h1
  have hc:=evC_ok ok i2 i3 fn b s o h1
  intro ro g w a W0 mr ht mk hW hro
  exact wpIn_mono (hc ro g w a W0 mr ht mk hW hro) fun e a1 w1 hp=>hp.cut mr
theorem LSpec.stepC {P:Program} {b:Code} {s s1:St} {out:Out} (hc:CSpec P b s (.norm s1)) (h2:LSpec P b s1 out):LSpec P b s out:=by
  intro ro g w a W0 mr ht mk hW hro
  refine loopIn_of_wpIn (wpIn_mono (hc ro g w a W0 mr ht mk hW hro) ?_)
  rintro e a1 w1 ⟨rfl,g1,nx,hr,mk1⟩
  have:=h2 ro g1 w1 a1 W0 nx.mr hr mk1 (Nat.le_trans hW nx.le.below.size) (fun c hc=>let ⟨l,hl⟩:=hro c hc; ⟨l,nx.le.loops _ _ hl⟩)
  exact loopIn_mono this fun e a2 w2 hp2=>hp2.nx nx
theorem LSpec.stopC {P:Program} {b:Code} {s:St} {out:Out} (hc:CSpec P b s out) (hn:∀ s1,out≠.norm s1):LSpec P b s out:=by
  intro ro g w a W0 mr ht mk hW hro
  refine loopIn_of_wpIn (wpIn_mono (hc ro g w a W0 mr ht mk hW hro) ?_)
  intro e a1 w1 hp
  cases out with
  | norm s1=>exact absurd rfl (hn s1)
  | ret s1=>obtain ⟨rfl,rest⟩:=hp; exact ⟨rfl,rest⟩
  | exit i s1=>obtain ⟨rfl,rest⟩:=hp; exact ⟨rfl,rest⟩
  | panic v h=>obtain ⟨x,g1,rfl,rest⟩:=hp; exact ⟨x,g1,rfl,rest⟩
def tagA:AV→Nat
  | .any=>0 | .undef=>1 | .bool _=>2 | .cbool _=>2 | .int .. => 3 | .cint .. => 3 | .u64 _=>4 | .str _=>5 | .agg _=>6 | .ints .. => 7
  | .ptr b o=>100+16 * b+o | .ptri .. => 8 | .ptrf _=>9 | .nilptr=>10 | .slf _=>19 | .list .. => 11 | .vlist .. => 12 | .vsl .. => 13 | .nilsl=>14
  | .func f _ _=>1000+f | .yield l=>50+l | .nilfunc=>15 | .iface .. => 16 | .niliface=>17 | .tuple _=>18
def shp (js:List Nat) (s:St):List Nat:=js.map (fun j=>tagA (s.tmps.getD j .any))++s.hp.heap.flatMap (fun b=>b.length::b.map tagA)++s.hp.loops.map (·.fn)
theorem cnd_sound {P:Program} {c:St→Bool} {F G:Code→St→Tr Out} (hF:∀ b,LSound P b (F b)) (hG:∀ b,LSound P b (G b)):∀ b,LSound P b (fun s=>bif c s then F b s else G b s):=by
  intro b s out h
  simp only at h
  cases hc:c s with
  | true=>rw [hc] at h; exact hF b s out h
  | false=>rw [hc] at h; exact hG b s out h
theorem fail_sound {P:Program}:∀ b,LSound P b (fun _=>.fail):=fun _ _ _ h=>by cases h
inductive Stp (X R:Type) where
  | go (x:X)
  | out (r:R)
  | bad
def itl {X R:Type} (step:X→Stp X R):Nat→X→Option R
  | 0,_=>none
  | n+1,x=>match step x with
    | .go y=>itl step n y
    | .out r=>some r
    | .bad=>none
def RL {X R:Type} (S:X→St) (O:R→Out) (o:Out) (st:Stp X R):Prop :=
  match st with
  | .go y => ∃ s1,o=.norm s1∧WkS s1 (S y)
  | .out r=>(∀ s,o≠.norm s)∧WkO o (O r)
  | .bad=>False
theorem LSpec.itl {B:Base} (hB:BOk B) {m fn:Nat} {b:Code} {X R:Type} {S:X→St} {O:R→Out} {ok:X→Bool} {st:X→Stp X R}
    (h:∀ x,GotR (RL S O) (evC (envAt B m) (evL B m) fn b (S x)) (ok x) (st x)) :
    ∀ (n:Nat) (x:X) (r:R),itl (fun x=>bif ok x then st x else .bad) n x=some r→LSpec B.P b (S x) (O r)
  | 0,x,r,hi=>by simp [Kz.itl] at hi
  | n+1,x,r,hi=>by
    rw [Kz.itl] at hi
    cases hok:ok x with
    | false=>rw [hok] at hi; simp at hi
    | true =>
      rw [hok] at hi
      simp only [cond_true] at hi
      obtain ⟨o,h1,h2⟩:=h x hok
      cases hs:st x with
      | go y =>
        rw [hs] at hi h2
        obtain ⟨s1,rfl,hw⟩:=h2
        exact LSpec.step hB h1 (LSpec.wk hw (LSpec.itl hB h n y r hi))
      | out r' =>
        rw [hs] at hi h2
        simp only [Option.some.injEq] at hi
        subst hi
        obtain ⟨hn,hw⟩:=h2
        exact LSpec.out hw (LSpec.stop hB h1 hn)
      | bad=>rw [hs] at h2; exact h2.elim
def many:Nat:=4294967296
theorem some_getD {α:Type} [Inhabited α] {o:Option α} (h:o.isSome=true):o=some (o.getD default):=by
  cases o with
  | none=>cases h
  | some a=>rfl
def WkF:FRes→FRes→Prop
  | .ret v h,.ret v' h'=>WkS ⟨[v],h⟩ ⟨[v'],h'⟩
  | .panic v h,o=>o=.panic v h
  | _,_=>False
theorem FSpec.wk {P:Program} {f:Nat} {as as':List AV} {h h':Hp} {res:FRes} (hs:FSpec P f as' h' res) (hw:WkS ⟨as,h⟩ ⟨as',h'⟩):FSpec P f as h res:=by
  intro g w vals m hr
  have hx:=hs g w vals (m.wk (s:=⟨as,h⟩) (t:=⟨as',h'⟩) hw) (by rw [show h'.toks=h.toks from hw.toks]; exact hr.wk hw.tmps)
  refine hx.mono ?_
  intro e w' hp
  have nx:∀ {g' h2},Nx g h' w g' h2 w'→Nx g h w g' h2 w':=fun n=>⟨n.mr,by have:=n.le; rw [show h'.toks=h.toks from hw.toks] at this; exact this,Fl.wk (s:=⟨as,h⟩) (t:=⟨as',h'⟩) hw n.fl⟩
  cases res with
  | ret v h2=>obtain ⟨g',x,rfl,n,q⟩:=hp; exact ⟨g',x,rfl,nx n,q⟩
  | panic v h2=>obtain ⟨g',x,rfl,n,q⟩:=hp; exact ⟨g',x,rfl,nx n,q⟩
theorem FSpec.out {P:Program} {f:Nat} {as:List AV} {h:Hp} {res res':FRes} (hs:FSpec P f as h res) (hw:WkF res res'):FSpec P f as h res':=by
  intro g w vals m hr
  refine (hs g w vals m hr).mono ?_
  intro e w' hp
  cases res with
  | ret v h2 =>
    cases res' with
    | ret v' h2' =>
      obtain ⟨g',x,rfl,n,q⟩:=hp
      refine ⟨g',x,rfl,Nx.wk (s:=⟨[v],h2⟩) (t:=⟨[v'],h2'⟩) hw n,?_⟩
      have:=hw.tmps
      cases this with
      | cons a _=>rw [show h2'.toks=h2.toks from hw.toks]; exact a _ _ _ _ q
    | panic=>exact hw.elim
  | panic v h2 =>
    have:res'=.panic v h2:=hw
    subst this
    exact hp
def RF {Y:Type} (O:Y→FRes) (res:FRes) (y:Y):Prop:=WkF res (O y)
theorem rf_ret {Y:Type} {O:Y→FRes} {v v':AV} {h h':Hp} {y:Y} (e:O y=.ret v' h') (hw:WkS ⟨[v],h⟩ ⟨[v'],h'⟩):RF O (.ret v h) y:=by
  unfold RF; rw [e]; exact hw
def cutRes (n:Nat):FRes→FRes
  | .ret v h=>.ret v (dropB n v h)
  | r=>r
theorem FSpec.cut {P:Program} {f:Nat} {as:List AV} {h:Hp} {res:FRes} (hs:FSpec P f as h res):FSpec P f as h (cutRes h.heap.length res):=by
  intro g w vals m hr
  refine (hs g w vals m hr).mono ?_
  intro e w' hp
  cases res with
  | ret v h2 =>
    obtain ⟨g',x,rfl,n,q⟩:=hp
    obtain ⟨g2,m2,l2,f2,r2,_⟩:=dropB_ok m n.mr n.le n.fl q
    exact ⟨g2,x,rfl,⟨m2,l2,f2⟩,r2⟩
  | panic v h2=>exact hp
def evFd (B:Base) (n f:Nat) (as:List AV) (h:Hp):Tr FRes:=(evF B n f as h).bind fun r=>.ret (cutRes h.heap.length r)
theorem fs_gotd {B:Base} (hB:BOk B) {n f:Nat} {as:List AV} {h:Hp} {T:Tr FRes} {Y:Type} {O:Y→FRes} {ok:Bool} {y:Y}
    (he:evFd B n f as h=T) (hg:GotR (RF O) T ok y) (hok:ok=true):FSpec B.P f as h (O y)∧∃ fn,B.P.funcs[f]?=some fn∧fn.body.isSome=true:=by
  obtain ⟨v,h1,h2⟩:=hg hok
  rw [← he] at h1
  unfold evFd at h1
  simp only [get_bind,get_ret,Option.bind_eq_some_iff,Option.some.injEq] at h1
  obtain ⟨r,h1,rfl⟩:=h1
  obtain ⟨h3,h4⟩:=(ev_ok hB n).1 _ _ _ _ h1
  exact ⟨h3.cut.out h2,h4⟩
section
variable {α V:Type} {R:α→V→Prop}
end
def RD {α:Type} (d:D α) (v:AV) (x:α):Prop:=d.dec v=some x
theorem ps_gotR {B:Base} (hB:BOk B) {n f:Nat} {as:List AV} {T:Tr AV} {α:Type} {d:D α} {ok:Bool} {x:α} (he:evPure B n f as=T) (hg:GotR (RD d) T ok x) (h:ok=true):PS B.P f as (d.res x):=by
  obtain ⟨v,h1,h2⟩:=hg h
  exact ps_of hB (by rw [he]; exact h1) d h2
abbrev tI:AV→Int
  | .int _ n | .cint _ n=>n
  | _=>0
abbrev tB:AV→Bool
  | .bool b | .cbool b=>b
  | _=>false
abbrev tU:AV→BitVec 64
  | .u64 x=>x
  | _=>0
abbrev tL (e:ET):AV→List e.T
  | .list e' l _=>if h:e'=e then h ▸ l else []
  | _=>[]
abbrev tN:AV→List Int
  | .ints _ _ l=>l
  | _=>[]
abbrev tA:AV→List AV
  | .agg l=>l
  | _=>[]
abbrev tT (s:St) (i:Nat):AV:=s.tmps.getD i .any
abbrev tH (s:St) (b i:Nat):AV:=(s.hp.heap.getD b []).getD i .any
abbrev tK (s:St) (k:Nat):Nat:=s.hp.toks.getD k 0
abbrev tX (l:List AV) (i:Nat):AV:=l.getD i .any
@[reducible] def li (l:List Int):List Int:=l
def dec3 {α β γ:Type} (d:AV→Option α) (e:AV→Option β) (f:AV→Option γ):AV→Option (α×β×γ)
  | .tuple [a,b,c]=>(d a).bind fun x=>(e b).bind fun y=>(f c).map fun z=>(x,y,z)
  | _=>none
def d3 {α β γ:Type} (d:D α) (e:D β) (f:D γ):D (α×β×γ) where
  arg p := .tuple [d.arg p.1,e.arg p.2.1,f.arg p.2.2]
  res p := .tuple [d.res p.1,e.res p.2.1,f.res p.2.2]
  dec:=dec3 d.dec e.dec f.dec
  ok a x h g tk w c hr:=by
    unfold dec3 at h
    split at h
    · simp only [Option.bind_eq_some_iff,Option.map_eq_some_iff] at h
      obtain ⟨x,h1,y,h2,z,h3,rfl⟩:=h
      cases hr with
      | tuple hl =>
        rename_i a b c vs
        obtain ⟨l⟩:=vs
        cases hl with
        | cons q r=>cases r with | cons q2 r2=>cases r2 with | cons q3 r3=>cases r3; exact .tuple (.cons (d.ok _ _ h1 _ _ _ _ q) (.cons (e.ok _ _ h2 _ _ _ _ q2) (.cons (f.ok _ _ h3 _ _ _ _ q3) .nil)))
    · cases h
  rok a x h hf g w c hr:=by
    unfold dec3 at h
    split at h
    · simp only [Option.bind_eq_some_iff,Option.map_eq_some_iff] at h
      obtain ⟨x,h1,y,h2,z,h3,rfl⟩:=h
      simp only [freshAV,freshL,Bool.and_eq_true] at hf
      cases hr with
      | tuple hl =>
        rename_i a b c vs
        obtain ⟨l⟩:=vs
        cases hl with
        | cons q r=>cases r with | cons q2 r2=>cases r2 with | cons q3 r3=>cases r3; exact .tuple (.cons (d.rok _ _ h1 hf.1 _ _ _ q) (.cons (e.rok _ _ h2 hf.2.1 _ _ _ q2) (.cons (f.rok _ _ h3 hf.2.2.1 _ _ _ q3) .nil)))
    · cases h
def sideAV (m:Pos×BitVec 64×BitVec 64):AV := .agg (segs (Pos.av m.1)++[.u64 m.2.1,.u64 m.2.2])
def toSide:AV→Option (Pos×BitVec 64×BitVec 64)
  | .agg [v,.ints .u8 64 bd,.u64 pr,.ints .u8 12 pk,tn,.ints .i8 4 rk,ps,.ints .u8 2 ck,hf,fl,.u64 a,.u64 b] =>
    if kindOk .u8 v&&kindOk .u8 tn&&kindOk .i8 ps&&kindOk .i64 hf&&kindOk .i64 fl then
      (toI v).bind fun v=>(toI tn).bind fun tn=>(toI ps).bind fun ps=>(toI hf).bind fun hf=>(toI fl).map fun fl=>(⟨v,bd,pr,pk,tn,rk,ps,ck,hf,fl⟩,a,b)
    else none
  | _=>none
theorem toSide_rep {g:Gh} {tk:List Nat} {w:World} {v:AV} {m:Pos×BitVec 64×BitVec 64} (h:toSide v=some m) {c:Value} (hr:Rep g tk w v c):Rep g tk w (sideAV m) c:=by
  unfold toSide at h
  split at h
  · rename_i v bd pr pk tn rk ps ck hf fl a b
    simp only [Option.ite_none_right_eq_some,Bool.and_eq_true,Option.bind_eq_some_iff,Option.map_eq_some_iff] at h
    obtain ⟨⟨⟨⟨⟨k1,k2⟩,k3⟩,k4⟩,k5⟩,v',hv,tn',htn,ps',hps,hf',hhf,fl',hfl,rfl⟩:=h
    obtain ⟨cs,rfl,hc⟩:=hr.inv_agg
    refine .agg ?_
    have i:=fun (a:AV) (n:Int) (k:IntKind) (hk:kindOk k a=true) (ha:toI a=some n) (c:Value) (hc:Rep g tk w a c)=>(toI_rep hk ha hc) ▸ (Rep.int (g:=g) (tk:=tk) (w:=w) k n)
    revert hc
    exact RepC.swap (cellable_toI hv) rfl (i _ _ _ k1 hv) fun _=>RepC.keep fun _=>RepC.swap rfl rfl (fun _ h=>h) fun _=>RepC.keep fun _=>RepC.swap (cellable_toI htn) rfl (i _ _ _ k2 htn) fun _=>RepC.keep fun _ =>
      RepC.swap (cellable_toI hps) rfl (i _ _ _ k3 hps) fun _=>RepC.keep fun _=>RepC.swap (cellable_toI hhf) rfl (i _ _ _ k4 hhf) fun _=>RepC.swap (cellable_toI hfl) rfl (i _ _ _ k5 hfl) fun _ h=>h
  · cases h
def dSide:D (Pos×BitVec 64×BitVec 64) where
  arg:=sideAV
  res:=sideAV
  dec:=toSide
  ok _ _ h _ _ _ _ hr:=toSide_rep h hr
  rok _ _ h _ _ _ _ hr:=toSide_rep h hr
def varAV (m:List UInt8×Bool×Bool×Bool×Bool×Bool×Int):AV := .agg [.str m.1,.bool m.2.1,.bool m.2.2.1,.bool m.2.2.2.1,.bool m.2.2.2.2.1,.bool m.2.2.2.2.2.1,.int .u8 m.2.2.2.2.2.2]
def toVar:AV→Option (List UInt8×Bool×Bool×Bool×Bool×Bool×Int)
  | .agg [.str s,a,b,c,d,e,k] =>
    if kindOk .u8 k then
      (toB a).bind fun a=>(toB b).bind fun b=>(toB c).bind fun c=>(toB d).bind fun d=>(toB e).bind fun e=>(toI k).map fun k=>(s,a,b,c,d,e,k)
    else none
  | _=>none
theorem toVar_rep {g:Gh} {tk:List Nat} {w:World} {v:AV} {m:List UInt8×Bool×Bool×Bool×Bool×Bool×Int} (h:toVar v=some m) {c:Value} (hr:Rep g tk w v c):Rep g tk w (varAV m) c:=by
  unfold toVar at h
  split at h
  · rename_i s a b c d e k
    simp only [Option.ite_none_right_eq_some,Option.bind_eq_some_iff,Option.map_eq_some_iff] at h
    obtain ⟨k1,a',ha,b',hb,c',hc,d',hd,e',he,k',hk,rfl⟩:=h
    obtain ⟨cs,rfl,hc'⟩:=hr.inv_agg
    refine .agg ?_
    have i:=fun (a:AV) (x:Bool) (ha:toB a=some x) (c:Value) (hc:Rep g tk w a c)=>(toB_rep ha hc) ▸ (Rep.bool (g:=g) (tk:=tk) (w:=w) x)
    revert hc'
    exact RepC.swap rfl rfl (fun _ h=>h) fun _=>RepC.swap (cellable_toB ha) rfl (i _ _ ha) fun _=>RepC.swap (cellable_toB hb) rfl (i _ _ hb) fun _=>RepC.swap (cellable_toB hc) rfl (i _ _ hc) fun _=>RepC.swap (cellable_toB hd) rfl (i _ _ hd) fun _=>RepC.swap (cellable_toB he) rfl (i _ _ he) fun _ =>
      RepC.swap (cellable_toI hk) rfl (fun c hc=>(toI_rep k1 hk hc) ▸ (Rep.int (g:=g) (tk:=tk) (w:=w) .u8 k')) fun _ h=>h
  · cases h
def dVar:D (List UInt8×Bool×Bool×Bool×Bool×Bool×Int) where
  arg:=varAV
  res:=varAV
  dec:=toVar
  ok _ _ h _ _ _ _ hr:=toVar_rep h hr
  rok _ _ h _ _ _ _ hr:=toVar_rep h hr
def findR (i:Nat):Code→Option (Code×Code)
  | .seq a b=>match findR i a with
    | some c=>some c
    | none=>findR i b
  | .cond _ a b=>match findR i a with
    | some c=>some c
    | none=>findR i b
  | .block _ b=>findR i b
  | .scope b=>findR i b
  | .loop b=>findR i b
  | .rangeFunc _ _ a b=>if rid b=some i then some (a,b) else match findR i a with
    | some c=>some c
    | none=>findR i b
  | _=>none
def rfA (P:Program) (f i:Nat):Code:=((findR i (bodyOf P f)).getD (.skip,.skip)).1
def rfB (P:Program) (f i:Nat):Code:=((findR i (bodyOf P f)).getD (.skip,.skip)).2
theorem LSpec.itd {B:Base} (hB:BOk B) {m fn:Nat} {b:Code} {X R:Type} {S:X→St} {O:R→Out} {ok:X→Bool} {st:X→Stp X R}
    (h:∀ x,GotR (RL S O) (evCd B m fn b (S x)) (ok x) (st x)) :
    ∀ (n:Nat) (x:X) (r:R),Kz.itl (fun x=>bif ok x then st x else .bad) n x=some r→LSpec B.P b (S x) (O r)
  | 0,x,r,hi=>by simp [Kz.itl] at hi
  | n+1,x,r,hi=>by
    rw [Kz.itl] at hi
    cases hok:ok x with
    | false=>rw [hok] at hi; simp at hi
    | true =>
      rw [hok] at hi
      simp only [cond_true] at hi
      obtain ⟨o,h1,h2⟩:=h x hok
      have hc:=evCd_spec hB h1
      cases hs:st x with
      | go y =>
        rw [hs] at hi h2
        obtain ⟨s1,rfl,hw⟩:=h2
        exact LSpec.stepC hc (LSpec.wk hw (LSpec.itd hB h n y r hi))
      | out r' =>
        rw [hs] at hi h2
        simp only [Option.some.injEq] at hi
        subst hi
        obtain ⟨hn,hw⟩:=h2
        exact LSpec.out hw (LSpec.stopC hc hn)
      | bad=>rw [hs] at h2; exact h2.elim
section
variable {g:Gh} {h:Hp} {w:World}
theorem MR.newRoom (m:MR g h w) {cap z:Nat} (hmax:cap≤maxLen) {cells:Array Value} {ty:TypeId} (hs:cells.size=cap * z) (w1:World) (hw:w1=w∨w1=w.drew) :
    MR { g with own:=g.own++[some (w.heap.size,cap,z)] } { h with toks:=h.toks++[0] } (w1.alloc (.cells cells ty)) ∧
      Le g h.toks w { g with own:=g.own++[some (w.heap.size,cap,z)] } (h.toks++[0]) (w1.alloc (.cells cells ty)):=by
  have hsize:w1.heap.size=w.heap.size:=by rcases hw with rfl | rfl <;> rfl
  have m1:MR g h (w1.alloc (.cells cells ty))∧Le g h.toks w g h.toks (w1.alloc (.cells cells ty)):=by
    rcases hw with rfl | rfl
    · exact m.alloc _
    · obtain ⟨a,b⟩:=m.drew
      obtain ⟨c,d⟩:=a.alloc (.cells cells ty)
      exact ⟨c,b.trans d⟩
  obtain ⟨m1,l1⟩:=m1
  have hnew:(w1.alloc (.cells cells ty)).heap[w.heap.size]?=some (.cells cells ty (0,0)):=by
    rw [← hsize]; exact heap_alloc_new w1 _
  have l2:Le g h.toks (w1.alloc (.cells cells ty)) { g with own:=g.own++[some (w.heap.size,cap,z)] } (h.toks++[0]) (w1.alloc (.cells cells ty)) :=
    ⟨rfl,Below.refl _ _,fun _ _ x=>x,fun _ _ _ _ x=>x,fun _ _ x=>x,fun _ _ x=>x,fun _ x=>x,fun k n x=>⟨n,by
      rw [List.getElem?_append_left (List.getElem?_eq_some_iff.1 x).1]; exact x,Nat.le_refl _,fun _=>by
      have:=(List.getElem?_eq_some_iff.1 x).1
      simp only
      rw [List.getElem?_append_left (by rw [m.tlen]; exact this)]⟩⟩
  have notvar:w.heap.size ∉ g.vars:=fun hv=>by
    obtain ⟨i,hi⟩:=List.getElem?_of_mem hv
    have hi':=(List.getElem?_eq_some_iff.1 hi).1
    obtain ⟨_,_,_,_,d,_⟩:=m.var i _ _ hi (List.getElem?_eq_getElem (by rw [← m.vlen]; exact hi'))
    exact absurd (lt_of_some d) (Nat.lt_irrefl _)
  have notown:∀ (j c z':Nat),g.own[j]?≠some (some (w.heap.size,c,z')):=fun j c z' x=>by
    obtain ⟨_,_,_,_,_,_,_,d,_⟩:=m.tok j _ c z' x
    exact absurd (lt_of_some d) (Nat.lt_irrefl _)
  have new:∀ (k:Nat) x,(g.own++[some (w.heap.size,cap,z)])[k]?=some x→g.own[k]?=some x∨(k=g.own.length∧x=some (w.heap.size,cap,z)):=by
    intro i c' x
    rcases Nat.lt_or_ge i g.own.length with h' | h'
    · rw [List.getElem?_append_left h'] at x; exact .inl x
    · rw [List.getElem?_append_right h'] at x
      obtain ⟨a,b⟩:=List.getElem?_eq_some_iff.1 x
      simp at a b
      exact .inr ⟨by omega,b.symm⟩
  have hle:=l1.trans l2
  refine ⟨⟨m1.base,m1.fzlt,m1.vlen,fun i c l h1 h2 => ?_,m1.vnd,by simp [m.tlen],fun k h1 => ?_,fun k b cap' z' h1 => ?_,fun k k' b c1 z1 c2 z2 h1 h2 => ?_,m1.llen,fun l c r h1 h2 => ?_,m1.lnd,m1.defs,fun p hp=>(m.glob p hp).mono hle⟩,hle⟩
  · obtain ⟨a,b,cells,ty,d,e⟩:=m1.var i c l h1 h2
    exact ⟨a,b,cells,ty,d,e.mono l2⟩
  · rcases new k _ h1 with a | ⟨_,e⟩
    · have:=m.tok0 k a
      show (h.toks++[0])[k]?=_
      rw [List.getElem?_append_left (List.getElem?_eq_some_iff.1 this).1]
      exact this
    · cases e
  · rcases new k _ h1 with a | ⟨e1,e2⟩
    · obtain ⟨n,cs,t,h2,h3⟩:=m1.tok k b cap' z' a
      refine ⟨n,cs,t,?_,h3⟩
      show (h.toks++[0])[k]?=_
      rw [List.getElem?_append_left (List.getElem?_eq_some_iff.1 h2).1]
      exact h2
    · simp only [Option.some.injEq,Prod.mk.injEq] at e2
      obtain ⟨rfl,rfl,rfl⟩:=e2
      refine ⟨0,cells,ty,?_,Nat.zero_le _,hmax,m.base,hnew,hs,fun o x=>absurd (m.fzlt _ _ x) (Nat.lt_irrefl _),notvar⟩
      show (h.toks++[0])[k]?=_
      rw [e1,m.tlen]; simp
  · rcases new k _ h1 with a | ⟨e1,e2⟩ <;> rcases new k' _ h2 with b' | ⟨e3,e4⟩
    · exact m1.tnd k k' b c1 z1 c2 z2 a b'
    · simp only [Option.some.injEq,Prod.mk.injEq] at e4
      obtain ⟨rfl,rfl,rfl⟩:=e4
      exact absurd a (notown k c1 z1)
    · simp only [Option.some.injEq,Prod.mk.injEq] at e2
      obtain ⟨rfl,rfl,rfl⟩:=e2
      exact absurd b' (notown k' c2 z2)
    · omega
  · obtain ⟨a,R,b,d⟩:=m1.loop l c r h1 h2
    exact ⟨a,R,b,d.mono l2⟩
end
end Kz
end
section
namespace Kz
open Go
@[reducible] def rn (a n:Nat) (l:List Nat):List Nat:=match n with
  | 0=>l
  | n+1=>a::rn (a+1) n l
@[reducible] def an (n:Nat) (l:List AV):List AV:=match n with
  | 0=>l
  | n+1=>AV.any::an n l
@[reducible] def pc (p:Pos) (l:List AV):List AV:=AV.int .u8 p.variant::AV.ints .u8 64 p.board::AV.u64 p.promoted::AV.ints .u8 12 p.pockets::AV.int .u8 p.turn::AV.ints .i8 4 p.rooks::AV.int .i8 p.passing::AV.ints .u8 2 p.checks::AV.int .i64 p.half::AV.int .i64 p.full::l
@[reducible] def z65:List Int:=[1,0,0,0,0,0,0,0,0,0,0,0,0,0,0,0,0,0,0,0,0,0,0,0,0,0,0,0,0,0,0,0,0,0,0,0,0,0,0,0,0,0,0,0,0,0,0,0,0,0,0,0,0,0,0,0,0,0,0,0,0,0,0,0,0]
@[reducible] def zbd:List Int:=[4,2,3,5,6,3,2,4,1,1,1,1,1,1,1,1,0,0,0,0,0,0,0,0,0,0,0,0,0,0,0,0,0,0,0,0,0,0,0,0,0,0,0,0,0,0,0,0,9,9,9,9,9,9,9,9,12,10,11,13,14,11,10,12]
@[reducible] def z8:List UInt8:=[8,8,8,8,8,8,8,8,8,8,8,8,8,8,8,8,8,8,8,8,8,8,8,8,8,8,8,8,8,8,8,8,8,8,8,8,8,8,8,8,8,8,8,8,8,8,8,8,8,8,8,8,8,8,8,8,8,8,8,8,8,8,8,8]
@[reducible] def z7:List UInt8:=[7,7,7,7,7,7,7,7,7,7,7,7,7,7,7,7,7,7,7,7,7,7,7,7,7,7,7,7,7,7,7,7,7,7,7,7,7,7,7,7,7,7,7,7,7,7,7,7,7,7,7,7,7,7,7,7,7,7,7,7,7,7,7,7]
end Kz
end
section
namespace Kz
open Go Go.RowKit
inductive Qt where
  | tt | ff
  | q (b:Bool) (t:Qt) | n (b:Bool) (t:Qt) | i (b:Bool) (t e:Qt) | w (t:Qt)
def Qt.val:Qt→Bool
  | .tt=>true
  | .ff=>false
  | .q b t=>b&&t.val
  | .n b t => !b&&t.val
  | .i b t e=>bif b then t.val else e.val
  | .w t=>t.val
def Qt.isT:Qt→Bool
  | .tt=>true
  | _=>false
def Qt.two (b:Bool) (t e:Qt):Qt:=match t.isT,e.isT with
  | true,true=>.tt
  | _,_=>.i b t e
theorem Qt.two_val (b:Bool) (t e:Qt):(Qt.two b t e).val=bif b then t.val else e.val:=by
  cases t <;> cases e <;> first | rfl | (cases b <;> rfl)
namespace Tr
def isF {α:Type}:Tr α→Bool
  | .fail=>true
  | _=>false
noncomputable abbrev qt {α V:Type} (d:α→Option V) (t:Tr α):Qt :=
  Tr.rec (motive:=fun _=>Qt) (fun a=>Option.rec .ff (fun _=>.tt) (d a)) .ff (fun b t e qt qe=>Bool.rec (Bool.rec (Qt.two b qt qe) (.n b qe) t.isF) (.q b qt) e.isF) (fun _ _ _ _ _ _ qt=>.w qt) t
noncomputable abbrev vt {α V:Type} [Inhabited V] (d:α→Option V) (t:Tr α):V :=
  Tr.rec (motive:=fun _=>V) (fun a=>Option.rec default (fun v=>v) (d a)) default (fun b t e vt ve=>Bool.rec (Bool.rec (bif b then vt else ve) ve t.isF) vt e.isF) (fun _ _ _ _ _ _ vt=>vt) t
def obl {α:Type}:Tr α→List (Bool×Code×Code×St×St)
  | .ret _=>[]
  | .fail=>[]
  | .br _ t e=>t.obl++e.obl
  | .ck c b b' s s' t=>(c,b,b',s,s')::t.obl
def rets {α:Type}:Tr α→List α
  | .ret a=>[a]
  | .fail=>[]
  | .br _ t e=>t.rets++e.rets
  | .ck _ _ _ _ _ t=>t.rets
end Tr
theorem got_t {α V:Type} [Inhabited V] {d:α→Option V} {R:α→V→Prop}:∀ (T:Tr α),(∀ x ∈ T.obl,x.1=true)→(∀ a ∈ T.rets,∀ v,d a=some v→R a v)→GotR R T (T.qt d).val (T.vt d)
  | .ret a,_,hr=>by
    intro h
    have hd':∀ o:Option V,d a=o→((Option.rec .ff (fun _=>.tt) o:Qt).val=true)→∃ v,(Tr.ret a).get=some v∧R v (Option.rec default (fun v=>v) o:V):=by
      intro o hd h
      cases o with
      | none=>cases h
      | some v=>exact ⟨a,rfl,hr a (by simp [Tr.rets]) v hd⟩
    exact hd' (d a) rfl h
  | .fail,_,_=>fun h=>by cases h
  | .br b t e,hk,hr=>by
    have h1:=got_t t (fun x hx=>hk x (by simp [Tr.obl,hx])) (fun a ha=>hr a (by simp [Tr.rets,ha]))
    have h2:=got_t e (fun x hx=>hk x (by simp [Tr.obl,hx])) (fun a ha=>hr a (by simp [Tr.rets,ha]))
    have key:∀ x y:Bool,e.isF=x→t.isF=y→GotR R (.br b t e) (Bool.rec (Bool.rec (Qt.two b (t.qt d) (e.qt d)) (.n b (e.qt d)) y) (.q b (t.qt d)) x:Qt).val (Bool.rec (Bool.rec (bif b then t.vt d else e.vt d) (e.vt d) y) (t.vt d) x):=by
      intro x y he ht
      cases x with
      | true =>
        have:e=.fail:=by cases e <;> first | rfl | cases he
        subst this
        exact gr_guard h1
      | false =>
        cases y with
        | true =>
          have:t=.fail:=by cases t <;> first | rfl | cases ht
          subst this
          exact gr_nguard h2
        | false =>
          have h:=gr_br (b:=b) h1 h2
          rw [← Qt.two_val] at h
          exact h
    exact key _ _ rfl rfl
  | .ck c b b' s s' t,hk,hr=>by
    have h1:=got_t t (fun x hx=>hk x (by simp [Tr.obl,hx])) (fun a ha=>hr a (by simp [Tr.rets,ha]))
    have hc:c=true:=hk (c,b,b',s,s') (by simp [Tr.obl])
    subst hc
    exact h1
def gen1 (a:AV):AV→AV
  | .int _ _=>match a with
    | .cint k n=>.int k n
    | a=>a
  | .bool _=>match a with
    | .cbool b=>.bool b
    | a=>a
  | _=>a
def fitL:List AV→List AV→List AV
  | a::l,b::m=>gen1 a b::fitL l m
  | l,_=>l
def fitA (a:AV):AV→AV
  | .any=>.any
  | .agg m=>match a with
    | .agg l=>.agg (fitL l m)
    | a=>a
  | b=>gen1 a b
def fitT:List AV→List AV→List AV
  | a::l,b::m=>fitA a b::fitT l m
  | l,_=>l
def fitH:List (List AV)→List (List AV)→List (List AV)
  | a::l,b::m=>fitL a b::fitH l m
  | l,_=>l
def fitS (s t:St):St:=⟨fitT s.tmps t.tmps,{ s.hp with heap:=match Nat.beq s.hp.lo 0 with
  | true=>fitH s.hp.heap t.hp.heap
  | false=>s.hp.heap }⟩
theorem gen1_cases (a b:AV):gen1 a b=a∨(∃ k n,a=.cint k n∧gen1 a b=.int k n)∨∃ x,a=.cbool x∧gen1 a b=.bool x:=by
  unfold gen1
  split
  · split
    · exact .inr (.inl ⟨_,_,rfl,rfl⟩)
    · exact .inl rfl
  · split
    · exact .inr (.inr ⟨_,rfl,rfl⟩)
    · exact .inl rfl
  · exact .inl rfl
theorem wk_gen1 (a b:AV):WkA a (gen1 a b):=by
  rcases gen1_cases a b with h | ⟨k,n,rfl,h⟩ | ⟨x,rfl,h⟩ <;> rw [h]
  · exact WkA.refl _
  · exact WkA.cint k n
  · exact WkA.cbool x
theorem wk_fitL:∀ l m:List AV,WkC l (fitL l m)
  | [],_=>by unfold fitL; exact WkC.refl _
  | a::l,[]=>by unfold fitL; exact WkC.refl _
  | a::l,b::m=>by
    unfold fitL
    intro g tk w c hr
    cases hr with
    | ints h1 h2 h3 =>
      have:∀ k n x,gen1 (.ints k n x) b=.ints k n x:=fun k n x=>by cases b <;> rfl
      rw [this]
      exact .ints h1 h2 (wk_fitL l m g tk w _ h3)
    | one h1 h2 h3 =>
      refine .one ?_ (wk_gen1 a b g tk w _ h2) (wk_fitL l m g tk w _ h3)
      rcases gen1_cases a b with h | ⟨k,n,rfl,h⟩ | ⟨x,rfl,h⟩ <;> rw [h]
      · exact h1
      · rfl
      · rfl
theorem wk_fitA (a:AV):∀ b:AV,WkA a (fitA a b):=by
  intro b
  unfold fitA
  split
  · exact WkA.any _
  · split
    · exact WkA.agg (wk_fitL _ _)
    · exact WkA.refl _
  · exact wk_gen1 _ _
theorem wk_fitT:∀ l m:List AV,All2 WkA l (fitT l m)
  | [],_=>by unfold fitT; exact .nil
  | a::l,[]=>by unfold fitT; exact All2.same WkA.refl _
  | a::l,b::m=>by unfold fitT; exact .cons (wk_fitA a b) (wk_fitT l m)
theorem wk_fitH:∀ l m:List (List AV),All2 WkC l (fitH l m)
  | [],_=>by unfold fitH; exact .nil
  | a::l,[]=>by unfold fitH; exact All2.same WkC.refl _
  | a::l,b::m=>by unfold fitH; exact .cons (wk_fitL a b) (wk_fitH l m)
theorem wk_fitS (s t:St):WkS s (fitS s t):=by
  unfold fitS
  cases h:Nat.beq s.hp.lo 0 with
  | false=>exact ⟨wk_fitT _ _,All2.same WkC.refl _,fun _ _=>rfl,rfl,rfl,rfl,rfl,rfl⟩
  | true =>
    have:s.hp.lo=0:=Nat.eq_of_beq_eq_true h
    exact ⟨wk_fitT _ _,wk_fitH _ _,fun i hi=>by rw [this] at hi; omega,rfl,rfl,rfl,rfl,rfl⟩
open Classical in
noncomputable def isLk (b b':Code) (s s':St):Bool:=shut (decide (b=b'∧WkS s s'))
theorem isLk_iff {b b':Code} {s s':St}:isLk b b' s s'=true ↔ b=b'∧WkS s s':=by
  unfold isLk
  rw [shut_eq]
  simp
def ob1 (x:Bool×Code×Code×St×St):Bool×Code×St:=(x.1,x.2.1,fitS x.2.2.2.1 x.2.2.2.2)
noncomputable def ob2 (x:Bool×Code×Code×St×St):Bool×Code×St:=(isLk x.2.1 x.2.2.1 x.2.2.2.1 x.2.2.2.2,x.2.2.1,x.2.2.2.2)
theorem map_inj {α β:Type} {f g:α→β}:∀ {l:List α},l.map f=l.map g→∀ x ∈ l,f x=g x
  | [],_,_,hx=>by cases hx
  | a::l,h,x,hx=>by
    simp only [List.map_cons,List.cons.injEq] at h
    rcases List.mem_cons.1 hx with rfl | hx
    · exact h.1
    · exact map_inj h.2 x hx
theorem obl_ok {α:Type} {T:Tr α} (h:T.obl.map ob1=T.obl.map ob2):∀ x ∈ T.obl,x.1=true:=by
  intro x hx
  obtain ⟨c,b,b',s,s'⟩:=x
  have:=map_inj h _ hx
  simp only [ob1,ob2,Prod.mk.injEq] at this
  obtain ⟨h1,h2,h3⟩:=this
  show c=true
  rw [h1]
  exact isLk_iff.2 ⟨h2,h3 ▸ wk_fitS s s'⟩
theorem ps_sum {B:Base} (hB:BOk B) {n f:Nat} {as:List AV} {α:Type} [Inhabited α] {d:D α} {ok:Bool} {x:α} (h1:((evPure B n f as).qt d.dec).val=ok) (h2:(evPure B n f as).vt d.dec=x)
    (h3:(evPure B n f as).obl.map ob1=(evPure B n f as).obl.map ob2) (h:ok=true):PS B.P f as (d.res x):=by
  obtain ⟨v,e1,e2⟩:=got_t (d:=d.dec) (R:=RD d) (evPure B n f as) (obl_ok h3) (fun a _ v hv=>hv) (h1.trans h)
  rw [h2] at e2
  exact ps_of hB e1 d e2
def gdv (b:Bool) (v:AV):Tr AV := .br b (.ret v) .fail
theorem at_gd {P:Program} {f:Nat} {as:List AV} {b:Bool} {v:AV} (h:b=true→PS P f as v):At0 P f as (gdv b v):=fun u hu=>by
  unfold gdv at hu
  cases b with
  | true=>cases hu; exact h rfl
  | false=>cases hu
theorem at_rt {P:Program} {f:Nat} {as:List AV} {v:AV} (h:PS P f as v):At0 P f as (.ret v):=fun u hu=>by cases hu; exact h
def soO {X R:Type} (S:X→St) (O:R→Out):Option (Stp X R)→Out
  | some (.go y)=>.norm (S y)
  | some (.out r)=>O r
  | _=>.panic .any hp0
def fitO:Out→Out→Out
  | .norm s,.norm t=>.norm (fitS s t)
  | .ret s,.ret t=>.ret (fitS s t)
  | .exit i s,.exit _ t=>.exit i (fitS s t)
  | _,_=>.panic .any hp0
def wo {X R:Type} (dx:St→Option X) (dr:Out→Option R):Out→Option (Stp X R)
  | .norm s=>(dx s).map .go
  | o=>(dr o).map .out
instance {X R:Type}:Inhabited (Stp X R):=⟨.bad⟩
theorem rl_fit {X R:Type} {S:X→St} {O:R→Out} {dx:St→Option X} {dr:Out→Option R} {o:Out} {st:Stp X R} (hw:wo dx dr o=some st) (hO:∀ r s,O r≠.norm s) (hP:∀ r,O r≠.panic .any hp0)
    (h:fitO o (soO S O (wo dx dr o))=soO S O (wo dx dr o)):RL S O o st:=by
  rw [hw] at h
  cases o with
  | norm s =>
    simp only [wo,Option.map_eq_some_iff] at hw
    obtain ⟨y,_,rfl⟩:=hw
    simp only [soO,fitO,Out.norm.injEq] at h
    exact ⟨s,rfl,h ▸ wk_fitS s (S y)⟩
  | ret s =>
    simp only [wo,Option.map_eq_some_iff] at hw
    obtain ⟨r,_,rfl⟩:=hw
    refine ⟨fun s=>by simp,?_⟩
    simp only [soO] at h
    cases hr:O r with
    | ret t=>rw [hr] at h; simp only [fitO,Out.ret.injEq] at h; exact h ▸ wk_fitS s t
    | norm t=>exact absurd hr (hO r t)
    | exit i t=>rw [hr] at h; cases h
    | panic v t=>rw [hr] at h; simp only [fitO] at h; exact absurd (hr.trans h.symm) (hP r)
  | exit i s =>
    simp only [wo,Option.map_eq_some_iff] at hw
    obtain ⟨r,_,rfl⟩:=hw
    refine ⟨fun s=>by simp,?_⟩
    simp only [soO] at h
    cases hr:O r with
    | exit j t =>
      rw [hr] at h
      simp only [fitO,Out.exit.injEq] at h
      exact ⟨h.1,h.2 ▸ wk_fitS s t⟩
    | norm t=>exact absurd hr (hO r t)
    | ret t=>rw [hr] at h; cases h
    | panic v t=>rw [hr] at h; simp only [fitO] at h; exact absurd (hr.trans h.symm) (hP r)
  | panic v t =>
    simp only [wo,Option.map_eq_some_iff] at hw
    obtain ⟨r,_,rfl⟩:=hw
    simp only [soO,fitO] at h
    exact absurd h.symm (hP r)
def outT:Out→Bool
  | .ret _=>true
  | .exit .. => true
  | _=>false
theorem out_norm {R:Type} {O:R→Out} (h:∀ r,outT (O r)=true):(∀ r s,O r≠.norm s)∧∀ r,O r≠.panic .any hp0 :=
  ⟨fun r s e=>(by have:=h r; rw [e] at this; cases this),fun r e=>(by have:=h r; rw [e] at this; cases this)⟩
theorem LSpec.smd {B:Base} (hB:BOk B) {m fn:Nat} {b:Code} {X R:Type} {S:X→St} {O:R→Out} {ok:X→Bool} {st:X→Stp X R} (dx:St→Option X) (dr:Out→Option R) (hO:∀ r,outT (O r)=true)
    (h1:∀ x,((evCd B m fn b (S x)).qt (wo dx dr)).val=ok x) (h2:∀ x,(evCd B m fn b (S x)).vt (wo dx dr)=st x)
    (h3:∀ x,(evCd B m fn b (S x)).obl.map ob1=(evCd B m fn b (S x)).obl.map ob2)
    (h4:∀ x,((evCd B m fn b (S x)).rets.map fun o=>fitO o (soO S O (wo dx dr o)))=(evCd B m fn b (S x)).rets.map fun o=>soO S O (wo dx dr o)) (n:Nat) (x:X) (r:R)
    (h:Kz.itl (fun x=>bif ok x then st x else .bad) n x=some r):LSpec B.P b (S x) (O r) :=
  LSpec.itd hB (fun x=>by
    rw [← h1 x,← h2 x]
    exact got_t _ (obl_ok (h3 x)) fun a ha v hv=>by
      by_cases hn:∃ r,v=.out r
      · have:=map_inj (h4 x) a ha
        exact rl_fit hv (out_norm hO).1 (out_norm hO).2 this
      · exact rl_fit hv (out_norm hO).1 (out_norm hO).2 (map_inj (h4 x) a ha)) n x r h
noncomputable def lk (b b':Code) (s s':St) (ok:Bool) (t:Tr Out):Tr Out := .ck (isLk b b' s s') b b' s s' (.br ok t .fail)
theorem lk_ok {P:Program} {b b':Code} {s s':St} {ok:Bool} {t:Tr Out} {o:Out} (h:(lk b b' s s' ok t).get=some o) (H:ok=true→t.get=some o→LSpec P b' s' o):LSpec P b s o:=by
  unfold lk at h
  simp only [Tr.get] at h
  cases hk:isLk b b' s s' with
  | false=>rw [hk] at h; cases h
  | true =>
    rw [hk] at h
    obtain ⟨rfl,hw⟩:=isLk_iff.1 hk
    cases ok with
    | false=>cases h
    | true=>exact (H rfl h).wk hw
noncomputable def sg {α:Type} (t:Tr α):Tr α := .ck (isLk .skip .skip ⟨[],hp0⟩ ⟨[],hp0⟩) .skip .skip ⟨[],hp0⟩ ⟨[],hp0⟩ t
theorem sg_get {α:Type} (t:Tr α):(sg t).get=t.get:=by
  have h:isLk .skip .skip (⟨[],hp0⟩:St) ⟨[],hp0⟩=true:=isLk_iff.2 ⟨rfl,wk_fitS ⟨[],hp0⟩ ⟨[],hp0⟩⟩
  unfold sg
  rw [h]
  rfl
noncomputable def lk1 {R:Type} [Inhabited R] (b b':Code) (s s':St) (lp:Option R) (O:R→Out):Tr Out:=lk b b' s s' lp.isSome (.ret (O (lp.getD default)))
theorem lk1_ok {P:Program} {b b':Code} {s s':St} {R:Type} [Inhabited R] {lp:Option R} {O:R→Out} (H:∀ r,lp=some r→LSpec P b' s' (O r)) {o:Out} (h:(lk1 b b' s s' lp O).get=some o):LSpec P b s o :=
  lk_ok h fun h1 h2=>by
    cases h2
    exact H _ (some_getD h1)
noncomputable def lk2 {A B:Type} [Inhabited A] [Inhabited B] (b b':Code) (s s':St) (lp:Option (A ⊕ B)) (O:A ⊕ B→Out):Tr Out:=lk b b' s s' lp.isSome (.br (isL (lp.getD default)) (sg (.ret (O (.inl (gl (lp.getD default)))))) (sg (.ret (O (.inr (gr (lp.getD default)))))))
theorem lk2_ok {P:Program} {b b':Code} {s s':St} {A B:Type} [Inhabited A] [Inhabited B] {lp:Option (A ⊕ B)} {O:A ⊕ B→Out} (H:∀ r,lp=some r→LSpec P b' s' (O r)) {o:Out} (h:(lk2 b b' s s' lp O).get=some o):LSpec P b s o :=
  lk_ok h fun h1 h2=>by
    have:=H _ (some_getD h1)
    revert h2 this
    cases lp.getD default with
    | inl a=>intro h2 this; rw [get_br] at h2; cases (sg_get _).symm.trans h2; exact this
    | inr a=>intro h2 this; rw [get_br] at h2; cases (sg_get _).symm.trans h2; exact this
def fitF:FRes→FRes→FRes
  | .ret v h,.ret v' h'=>match fitS ⟨[v],h⟩ ⟨[v'],h'⟩ with
    | ⟨[u],k⟩=>.ret u k
    | _=>.panic .any hp0
  | _,_=>.panic .any hp0
def retT:FRes→Bool
  | .ret .. => true
  | _=>false
theorem rf_fit {Y:Type} {O:Y→FRes} {dr:FRes→Option Y} {o:FRes} {y:Y} (hw:dr o=some y) (hO:retT (O y)=true) (h:fitF o (((dr o).map O).getD (.panic .any hp0))=((dr o).map O).getD (.panic .any hp0)):RF O o y:=by
  rw [hw] at h
  simp only [Option.map_some,Option.getD_some] at h
  cases hr:O y with
  | panic v t=>rw [hr] at hO; cases hO
  | ret v' h' =>
    cases o with
    | panic v t=>rw [hr] at h; cases h
    | ret v k =>
      rw [hr] at h
      refine rf_ret hr ?_
      have hf:=wk_fitS ⟨[v],k⟩ ⟨[v'],h'⟩
      simp only [fitF] at h
      split at h
      · rename_i u k' e
        simp only [FRes.ret.injEq] at h
        obtain ⟨rfl,rfl⟩:=h
        rw [e] at hf
        exact hf
      · cases h
theorem fs_sumd {B:Base} (hB:BOk B) {n f:Nat} {as:List AV} {h:Hp} {Y:Type} [Inhabited Y] {O:Y→FRes} {ok:Bool} {y:Y} (dr:FRes→Option Y) (hO:∀ y,retT (O y)=true)
    (h1:((evFd B n f as h).qt dr).val=ok) (h2:(evFd B n f as h).vt dr=y) (h3:(evFd B n f as h).obl.map ob1=(evFd B n f as h).obl.map ob2)
    (h4:((evFd B n f as h).rets.map fun o=>fitF o (((dr o).map O).getD (.panic .any hp0)))=(evFd B n f as h).rets.map fun o=>((dr o).map O).getD (.panic .any hp0)) (hok:ok=true) :
    FSpec B.P f as h (O y)∧∃ fn,B.P.funcs[f]?=some fn∧fn.body.isSome=true:=by
  subst h1 h2
  exact fs_gotd hB rfl (got_t (d:=dr) (R:=RF O) _ (obl_ok h3) fun a ha v hv=>rf_fit hv (hO v) (map_inj h4 a ha)) hok
noncomputable def fk {Y:Type} (as:List AV) (h:Hp) (as':List AV) (h':Hp) (ok:Bool) (O:Y→FRes) (y:Y):Tr FRes := .ck (isLk .skip .skip ⟨as,h⟩ ⟨as',h'⟩) .skip .skip ⟨as,h⟩ ⟨as',h'⟩ (.br ok (.ret (O y)) .fail)
theorem fk_ok {P:Program} {f:Nat} {as as':List AV} {h h':Hp} {ok:Bool} {Y:Type} {O:Y→FRes} {y:Y} {res:FRes} (H:ok=true→FSpec P f as' h' (O y)∧∃ fn,P.funcs[f]?=some fn∧fn.body.isSome=true) (he:(fk as h as' h' ok O y).get=some res) :
    FSpec P f as h res∧∃ fn,P.funcs[f]?=some fn∧fn.body.isSome=true:=by
  unfold fk at he
  simp only [Tr.get] at he
  cases hk:isLk .skip .skip ⟨as,h⟩ ⟨as',h'⟩ with
  | false=>rw [hk] at he; cases he
  | true =>
    rw [hk] at he
    cases ok with
    | false=>cases he
    | true =>
      cases he
      obtain ⟨h1,h2⟩:=H rfl
      exact ⟨h1.wk (isLk_iff.1 hk).2,h2⟩
abbrev wP {α:Type} (s:St) (b:Nat) (k:Pos→α):α:=k ⟨tI (tH s b 0),tN (tH s b 1),tU (tH s b 2),tN (tH s b 3),tI (tH s b 4),tN (tH s b 5),tI (tH s b 6),tN (tH s b 7),tI (tH s b 8),tI (tH s b 9)⟩
abbrev wM {α:Type} (s:St) (b:Nat) (k:Mv→α):α:=k ⟨tI (tH s b 0),tI (tH s b 1),tI (tH s b 2),tI (tH s b 3),tB (tH s b 4)⟩
def nots:Nat→Nat→List Nat→List Nat
  | 0,_,_=>[]
  | k+1,i,[]=>i::nots k (i+1) []
  | k+1,i,t::ts=>match Nat.beq i t with
    | true=>nots k (i+1) ts
    | false=>i::nots k (i+1) (t::ts)
def lkC (fn id:Nat):List (Nat×Nat×List (Nat×List Nat))→List Nat
  | []=>[]
  | (f,n,t)::r=>if fn=f then (match t.lookup id with
    | some l=>nots n 0 l
    | none=>[]) else lkC fn id r
end Kz
end
