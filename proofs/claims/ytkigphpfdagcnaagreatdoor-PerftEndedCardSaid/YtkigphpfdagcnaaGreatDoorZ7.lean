/- Part 7 of the texts under the proof: an abstract interpreter, the summaries of functions, plain laws. -/
import Derived.Test.YtkigphpfdagcnaaGreatDoorZ6
set_option linter.unusedSectionVars false
set_option linter.unusedVariables false
set_option linter.unusedSimpArgs false
set_option linter.unnecessarySimpa false
section
namespace Kz
open Go Go.RowKit
set_option maxRecDepth 100000
set_option maxHeartbeats 4000000
def cl (h f : Int) (p : Pos) : Pos := ⟨p.variant, p.board, p.promoted, p.pockets, p.turn, p.rooks, p.passing, p.checks, h, f⟩
theorem cl_c (h f : Int) (c : Bool) (x y : Pos) : cl h f (bif c then x else y) = bif c then cl h f x else cl h f y := by cases c <;> rfl
def Stp.map {X X' R R' : Type} (φ : X → X') (ψ : R → R') : Stp X R → Stp X' R'
  | .go x => .go (φ x)
  | .out r => .out (ψ r)
  | .bad => .bad
theorem Stp.map_c {X X' R R' : Type} (φ : X → X') (ψ : R → R') (c : Bool) (x y : Stp X R) : Stp.map φ ψ (bif c then x else y) = bif c then Stp.map φ ψ x else Stp.map φ ψ y := by cases c <;> rfl
theorem itl_map {X X' R R' : Type} {φ : X → X'} {ψ : R → R'} {st : X → Stp X R} {st' : X' → Stp X' R'} (h : ∀ x, st' (φ x) = Stp.map φ ψ (st x)) : ∀ (n : Nat) (x : X), itl st' n (φ x) = (itl st n x).map ψ
  | 0, _ => rfl
  | n + 1, x => by
    rw [itl, itl, h x]
    cases st x with
    | go y => exact itl_map h n y
    | out r => rfl
    | bad => rfl
section
variable (h f : Int) (p : Pos)
theorem cl58 (c : Int) : N62 (cl h f p) c = N62 p c := by kernel_rfl
theorem cl21 (c : Int) : N103 (cl h f p) c = N103 p c := by kernel_rfl
theorem cl62 (a b : Int) : N101 (cl h f p) a b = N101 p a b := by kernel_rfl
theorem cl101 (a b : Int) : N99 (cl h f p) a b = N99 p a b := by kernel_rfl
theorem cl99 (b : Int) : N97 (cl h f p) b = N97 p b := by kernel_rfl
theorem cl93 (m : Mv) : N91 (cl h f p) m = N91 p m := by kernel_rfl
theorem cl_own : own (cl h f p) = own p := by kernel_rfl
theorem cl_oth : oth (cl h f p) = oth p := by kernel_rfl
theorem cl158 (o t : BitVec 64) (x : Int) : N177 (cl h f p, o, t) x = N177 (p, o, t) x := by kernel_rfl
theorem cl_mvs (x t : Int) : mvs (cl h f p) x t = mvs p x t := by kernel_rfl
theorem cl_drops (k : Int) : drops (cl h f p) k = drops p k := by kernel_rfl
theorem cl111 (b c : Int) : N141 (cl h f p) b c = N141 p b c := by kernel_rfl
theorem cl55 : N86 (cl h f p) = N86 p := by
  unfold N86
  simp only [cl101, cl111]
  rfl
theorem cl54 (hv : 0 ≤ p.variant) : N85 (cl h f p) = N85 p := by
  by_cases ht : there p
  · rw [N85_there hv ht, N85_there (p := cl h f p) hv ht, cl_own, cl_oth]
    have e : froms (cl h f p) (cl h f p, own p, oth p) = froms p (p, own p, oth p) := by
      funext x
      unfold froms
      rw [cl158, show mvs (cl h f p) x = mvs p x from funext fun t => cl_mvs h f p x t]
    rw [e]
  · rw [N85_not ht, N85_not (p := cl h f p) ht]
theorem cl56 (h0 : 0 ≤ p.turn) : N87 (cl h f p) = N87 p := by
  rw [N87_eq h0, N87_eq (p := cl h f p) h0, show drops (cl h f p) = drops p from funext fun k => cl_drops h f p k]
  rfl
theorem cl22 (hv : 0 ≤ p.variant) (h0 : 0 ≤ p.turn) : N38 (cl h f p) = N38 p := by
  rw [N38_eq, N38_eq, cl54 h f p hv, cl55, cl56 h f p h0]
theorem cl90a : (N88 (cl h f p)).2 = (N88 p).2 := by
  unfold N88
  show (bif decide (p.turn > 1) then _ else bif decide (p.variant ≥ 9) then _ else _ : (Pos × BitVec 64 × BitVec 64) × Bool).2 = (bif decide (p.turn > 1) then _ else bif decide (p.variant ≥ 9) then _ else _ : (Pos × BitVec 64 × BitVec 64) × Bool).2
  cases decide (p.turn > 1) <;> cases decide (p.variant ≥ 9) <;> rfl
theorem cl90b : (N88 (cl h f p)).1.2.2 = (N88 p).1.2.2 := by
  unfold N88
  show (bif decide (p.turn > 1) then _ else bif decide (p.variant ≥ 9) then _ else (((_ : Pos), _, N101 (cl h f p) (wr IntKind.u8 (1 - p.turn)) 0), _) : (Pos × BitVec 64 × BitVec 64) × Bool).1.2.2 = (bif decide (p.turn > 1) then _ else bif decide (p.variant ≥ 9) then _ else _ : (Pos × BitVec 64 × BitVec 64) × Bool).1.2.2
  rw [cl62]
  cases decide (p.turn > 1) <;> cases decide (p.variant ≥ 9) <;> rfl
theorem cl42 (hv : 0 ≤ p.variant) (m : Mv) : N39 (cl h f p) m = N39 p m := by
  unfold N39
  rw [cl90a, cl90b, cl54 h f p hv]
  rfl
theorem cl24 (hv : 0 ≤ p.variant) (m : Mv) : N70 (cl h f p) m = N70 p m := by
  unfold N70
  rw [cl42 h f p hv]
theorem cl94 (a b : Int) : (N92 (cl h f p) a b).1 = cl h f (N92 p a b).1 := by
  unfold N92
  show (bif !N147 a b then _ else bif p.pockets.getD (scale 6 a + scale 1 b).toNat 0 == 0 then _ else _ : Pos × Bool).1 = cl h f (bif !N147 a b then _ else bif p.pockets.getD (scale 6 a + scale 1 b).toNat 0 == 0 then _ else _ : Pos × Bool).1
  cases N147 a b <;> cases (p.pockets.getD (scale 6 a + scale 1 b).toNat 0 == 0) <;> rfl
theorem cl97 (a b : Int) : N95 (cl h f p) a b = cl h f (N95 p a b) := by
  unfold N95
  show (bif N147 a b then bif decide (p.pockets.getD (scale 6 a + scale 1 b).toNat 0 < 255) then _ else _ else _ : Pos) = cl h f (bif N147 a b then bif decide (p.pockets.getD (scale 6 a + scale 1 b).toNat 0 < 255) then _ else _ else _ : Pos)
  cases N147 a b <;> cases decide (p.pockets.getD (scale 6 a + scale 1 b).toNat 0 < 255) <;> rfl
end
section
variable (h f h2 f2 h3 f3 : Int) (a q p : Pos) (b m : Mv) (c : Int)
theorem clv1 : vF17_1 (cl h3 f3 a) b (cl h f q) (cl h2 f2 p) m c = cl h f (vF17_1 a b q p m c) := by
  unfold vF17_1
  simp only [cl_c, cl93, show (cl h f q).turn = q.turn from rfl, cl94]
  kernel_rfl
theorem clv2 : vF17_2 (cl h3 f3 a) b (cl h f q) (cl h2 f2 p) m c = cl h f (vF17_2 a b q p m c) := by
  unfold vF17_2
  simp only [cl_c, cl93, show (cl h f q).turn = q.turn from rfl, cl97]
  kernel_rfl
def clr (h f : Int) (r : Int × Bool × Pos) : Int × Bool × Pos := (r.1, r.2.1, cl h f r.2.2)
theorem clr_getD {r : Option (Int × Bool × Pos)} (hr : r.isSome = true) : ((r.map (clr h f)).getD default).2.2 = cl h f (r.getD default).2.2 := by
  cases r with
  | none => cases hr
  | some r => rfl
theorem cllp3 (l : List Int) (n : Int) (x : Int × Pos) : lp17_3 l n (cl h3 f3 a) b (cl h2 f2 p) m c (x.1, cl h f x.2) = (lp17_3 l n a b p m c x).map (clr h f) := by
  refine itl_map (φ := fun x : Int × Pos => (x.1, cl h f x.2)) (fun x => ?_) many x
  unfold okL17_3 st17_3
  simp only [Stp.map_c]
  kernel_rfl
theorem cllp6 (u v : Int) (l : List Int) (x : Int × Pos) : lp17_6 u v l (cl h3 f3 a) b (cl h2 f2 p) m c (x.1, cl h f x.2) = (lp17_6 u v l a b p m c x).map (clr h f) := by
  refine itl_map (φ := fun x : Int × Pos => (x.1, cl h f x.2)) (fun x => ?_) many x
  unfold okL17_6 st17_6
  simp only [Stp.map_c]
  kernel_rfl
theorem cllp7 (x : Int × Pos) : lp17_7 (cl h3 f3 a) b (cl h2 f2 p) m c (x.1, cl h f x.2) = (lp17_7 a b p m c x).map (clr h f) := by
  refine itl_map (φ := fun x : Int × Pos => (x.1, cl h f x.2)) (fun x => ?_) many x
  have e := cllp6 h f h2 f2 h3 f3 a p b m c x.1 (N99 x.2 x.1 6) (List.take 2 (List.drop (scale 2 x.1).toNat x.2.rooks)) (0, x.2)
  unfold okL17_7 st17_7
  dsimp only at e ⊢
  rw [cl101, show (cl h f x.2).rooks = x.2.rooks from rfl, e, t99, t99]
  generalize lp17_6 x.1 (N99 x.2 x.1 6) (List.take 2 (List.drop (scale 2 x.1).toNat x.2.rooks)) a b p m c (0, x.2) = o
  cases o with
  | none =>
    cases decide (x.1 ≤ 1)
    · rfl
    · simp [Stp.map]
  | some r =>
    cases decide (x.1 ≤ 1)
    · rfl
    · cases decide (0 ≤ x.1) <;> cases decide (x.1 < Int.ofNat 2) <;> rfl
theorem clv4 {p : Pos} (h1 : ∃ r, lp17_3 (N96 (N97 q (wr IntKind.i64 m.to))) (Int.ofNat (N96 (N97 q (wr IntKind.i64 m.to))).length) a b p m c (0, q) = some r) : vF17_4 (cl h3 f3 a) b (cl h f q) (cl h2 f2 p) m c = cl h f (vF17_4 a b q p m c) := by
  obtain ⟨r, h1⟩ := h1
  have e := cllp3 h f h2 f2 h3 f3 a p b m c (N96 (N97 q (wr IntKind.i64 m.to))) (Int.ofNat (N96 (N97 q (wr IntKind.i64 m.to))).length) (0, q)
  unfold vF17_4
  simp only [cl_c, cl99]
  dsimp only at e
  rw [e, h1]
  rfl
theorem clv8 {p : Pos} (h1 : ∀ r0, (r0 = q.rooks ∨ r0 = List.take (scale 2 q.turn).toNat q.rooks ++ li [-1, -1] ++ List.drop ((scale 2 q.turn).toNat + 2) q.rooks) → ∃ r, lp17_7 a b p m c (0, ⟨q.variant, q.board, q.promoted, q.pockets, q.turn, r0, q.passing, q.checks, q.half, q.full⟩) = some r) : vF17_8 (cl h3 f3 a) b (cl h f q) (cl h2 f2 p) m c = cl h f (vF17_8 a b q p m c) := by
  have e := fun r0 : List Int => cllp7 h f h2 f2 h3 f3 a p b m c (0, ⟨q.variant, q.board, q.promoted, q.pockets, q.turn, r0, q.passing, q.checks, q.half, q.full⟩)
  have k : ∀ r0, (r0 = q.rooks ∨ r0 = List.take (scale 2 q.turn).toNat q.rooks ++ li [-1, -1] ++ List.drop ((scale 2 q.turn).toNat + 2) q.rooks) → ((lp17_7 (cl h3 f3 a) b (cl h2 f2 p) m c (0, ⟨q.variant, q.board, q.promoted, q.pockets, q.turn, r0, q.passing, q.checks, h, f⟩)).getD default).2.2 = cl h f ((lp17_7 a b p m c (0, ⟨q.variant, q.board, q.promoted, q.pockets, q.turn, r0, q.passing, q.checks, q.half, q.full⟩)).getD default).2.2 := fun r0 hr => by
    obtain ⟨r, h1⟩ := h1 r0 hr
    have e := e r0
    dsimp only [cl] at e
    rw [h1] at e ⊢
    show ((lp17_7 (cl h3 f3 a) b (cl h2 f2 p) m c _).getD default).2.2 = _
    rw [show lp17_7 (cl h3 f3 a) b (cl h2 f2 p) m c (0, ⟨q.variant, q.board, q.promoted, q.pockets, q.turn, r0, q.passing, q.checks, h, f⟩) = _ from e]
    rfl
  have k0 := k q.rooks (.inl rfl)
  have k1 := k _ (.inr rfl)
  unfold vF17_8
  simp only [cl_c]
  rw [show cl h f q = ⟨q.variant, q.board, q.promoted, q.pockets, q.turn, q.rooks, q.passing, q.checks, h, f⟩ from rfl]
  dsimp only
  rw [k1, k0]
  rfl
theorem clv9 : vF17_9 (cl h3 f3 a) b (cl h f q) (cl h2 f2 p) m c = cl h f (vF17_9 a b q p m c) := by
  unfold vF17_9
  simp only [cl_c]
  kernel_rfl
theorem clv10 : ∃ h' f', vF17_10 (cl h3 f3 a) b (cl h f q) (cl h2 f2 p) m c = cl h' f' (vF17_10 a b q p m c) := by
  have kc : ∀ {c : Bool} {x y x' y' : Pos}, (∃ h' f', x' = cl h' f' x) → (∃ h' f', y' = cl h' f' y) → ∃ h' f', (bif c then x' else y') = cl h' f' (bif c then x else y) := fun {c x y x' y'} h1 h2 => by
    cases c
    · exact h2
    · exact h1
  unfold vF17_10
  repeat' (first | exact ⟨_, _, rfl⟩ | refine kc ?_ ?_)
theorem clv11 : vF17_11 (cl h3 f3 a) b (cl h f q) (cl h2 f2 p) m c = cl h f (vF17_11 a b q p m c) := by
  unfold vF17_11
  simp only [cl_c]
  kernel_rfl
end
noncomputable def mvd (p : Pos) (m : Mv) : Pos := vF17_11 p m (vF17_10 p m (vF17_9 p m (vF17_8 p m (vF17_4 p m (vF17_2 p m (vF17_1 p m p p m (N39 p m)) p m (N39 p m)) p m (N39 p m)) p m (N39 p m)) p m (N39 p m)) p m (N39 p m)) p m (N39 p m)
theorem N17_mvd (p : Pos) (m : Mv) : N17 p m = bif !N37 (N38 p) m then (p, false) else (mvd p m, true) := rfl
section
variable {p : Pos} (hp : PosIn p)
include hp
theorem mvd_cl (h f : Int) {m : Mv} (hm : m ∈ N38 p) : ∃ h' f', mvd (cl h f p) m = cl h' f' (mvd p m) := by
  obtain ⟨th, f0, f1, _⟩ := N38_mem hp hm
  have hmf : m.drp = 0 → 0 ≤ m.frm ∧ m.frm < 64 := fun _ => ⟨f0, f1⟩
  unfold mvd
  rw [cl42 h f p hp.v0]
  generalize N39 p m = k
  have h1 := vF1_kin hp m p m k
  have h2 := vF2_kin m h1 p m k
  have h4 := vF4_kin m h2 p m k
  have h8 := vF8_kin hp m th.1 h4.2 hmf p m k
  rw [clv1 h f h f h f p p p m m k, clv2 h f h f h f p _ p m m k]
  generalize vF17_1 p m p p m k = q1 at h1 h2 h4 h8 ⊢
  generalize vF17_2 p m q1 p m k = q2 at h2 h4 h8 ⊢
  rw [clv4 h f h f h f p q2 m m k (p := p) (by
    obtain ⟨r, e, _⟩ := lp17_3_kin (p := p) (sqs (N97 q2 (wr .i64 m.to)) 64) (sqs_len _ _) (fun _ h => sqs_in h) h2 p p m m k
    exact ⟨r, by rw [N96_eq]; exact e⟩)]
  have h4 := h4.2
  generalize vF17_4 p m q2 p m k = q4 at h4 h8 ⊢
  rw [clv8 h f h f h f p q4 m m k (p := p) (by
    have hR : Kin p ⟨q4.variant, q4.board, q4.promoted, q4.pockets, q4.turn, List.take (scale 2 q4.turn).toNat q4.rooks ++ li [-1, -1] ++ List.drop ((scale 2 q4.turn).toNat + 2) q4.rooks, q4.passing, q4.checks, q4.half, q4.full⟩ := by
      have t0 := hp.t0
      have t1 := th.1
      refine h4.rooks ?_ ?_
      · have hr := h4.pin.rl
        have : (scale 2 q4.turn).toNat ≤ 2 := by rw [h4.t]; unfold scale; simp; omega
        simp [li, hr]
        omega
      · intro x hx
        simp only [List.mem_append, li] at hx
        rcases hx with (hx | hx) | hx
        · exact h4.pin.r0 x (List.mem_of_mem_take hx)
        · simp at hx; omega
        · exact h4.pin.r0 x (List.mem_of_mem_drop hx)
    rintro r0 (rfl | rfl)
    · obtain ⟨r, e, _⟩ := lp17_7_kin h4 p p m m k
      exact ⟨r, e⟩
    · obtain ⟨r, e, _⟩ := lp17_7_kin hR p p m m k
      exact ⟨r, e⟩)]
  generalize vF17_8 p m q4 p m k = q8
  rw [clv9 h f h f h f p q8 p m m k]
  generalize vF17_9 p m q8 p m k = q9
  obtain ⟨h', f', e⟩ := clv10 h f h f h f p q9 p m m k
  rw [e, clv11 h' f' h f h f]
  exact ⟨h', f', rfl⟩
theorem N17_cl (h f : Int) (m : Mv) : ∃ h' f', N17 (cl h f p) m = (cl h' f' (N17 p m).1, (N17 p m).2) := by
  rw [N17_mvd, N17_mvd, cl22 h f p hp.v0 hp.t0, N37_eq (by have := N38_len hp; omega)]
  by_cases hm : m ∈ N38 p
  · obtain ⟨h', f', e⟩ := mvd_cl hp h f hm
    refine ⟨h', f', ?_⟩
    rw [e]
    simp [hm]
  · refine ⟨h, f, ?_⟩
    simp [hm]
theorem cl25 (h f : Int) (m : Mv) : N68 (cl h f p) m = N68 p m := by
  obtain ⟨h', f', e⟩ := N17_cl hp h f m
  unfold N68
  rw [e]
  simp only [cl58, cl21]
  rfl
theorem cl_wouldL (h f : Int) : wouldL (cl h f p) = wouldL p := by
  unfold wouldL
  rw [cl22 h f p hp.v0 hp.t0, show N68 (cl h f p) = N68 p from funext (cl25 hp h f), show N70 (cl h f p) = N70 p from funext (cl24 h f p hp.v0)]
  rfl
omit hp in
theorem posIn_cl (hp : PosIn p) {h f : Int} (hh : -9223372036854775808 ≤ h ∧ h ≤ 9223372036854775807) (hf : -9223372036854775808 ≤ f ∧ f ≤ 9223372036854775807) : PosIn (cl h f p) :=
  ⟨hp.v0, hp.v1, hp.bl, hp.b0, hp.kl, hp.k0, hp.t0, hp.t1, hp.rl, hp.r0, hp.p0, hp.p1, hp.cl, hp.c0, hh, hf⟩
variable {h f : Int} (hq : PosIn (cl h f p))
include hq
theorem cl37 : N31 (cl h f p) = N31 p := by
  rw [N31_eq hp, N31_eq hq, cl_wouldL hp, cl58]
  rfl
omit hp hq in
theorem cl113 (h f : Int) (p : Pos) : N123 (cl h f p) = N123 p := by kernel_rfl
omit hp hq in
theorem cl114 (h f : Int) (p : Pos) : N124 (cl h f p) = N124 p := by kernel_rfl
omit hp hq in
theorem cl115 (h f : Int) (p : Pos) : N125 (cl h f p) = N125 p := by kernel_rfl
omit hp hq in
theorem cl116 (h f : Int) (p : Pos) : N126 (cl h f p) = N126 p := by kernel_rfl
omit hp hq in
theorem cl117 (h f : Int) (p : Pos) : N127 (cl h f p) = N127 p := by kernel_rfl
omit hp hq in
theorem cllp118 (h f : Int) (p : Pos) (l : List Mv) (n k : Int) : lp128_1 l n (cl h f p) k 0 = lp128_1 l n p k 0 := by kernel_rfl
theorem cl118 : N128 (cl h f p) = N128 p := by
  unfold N128
  rw [cl37 hp hq]
  simp only [cl101, cllp118]
  rfl
theorem cl23 : N30 (cl h f p) = N30 p := by
  unfold N30
  rw [cl113, cl114, cl115, cl116, cl117, cl118 hp hq]
  rfl
theorem cl15 : N11 (cl h f p) = N11 p := by
  unfold N11
  rw [cl23 hp hq, cl37 hp hq]
end
end Kz
end
section
namespace Kz
open Go Go.RowKit Go.Proofs
set_option maxRecDepth 100000
set_option maxHeartbeats 4000000
noncomputable def K34 : List (Nat × List (Nat × List Nat)) := []
noncomputable def B34 : Base := baseOf Pz (fun f i => lkK f i K34) [] [] []
theorem hB34 : BOk B34 := base_ok named_z trivial trivial trivial
noncomputable def V66 : AV := AV.agg [AV.func 30 [] [], AV.func 80 [] [], AV.func 81 [] [], AV.func 82 [] []]
noncomputable def ok34 : Bool := true
theorem E34 : evPure B34 14 34 [] = Tr.ret V66 := by kernel_rfl
theorem P34 (_ : ok34 = true) : PS Pz 34 [] V66 := evPure_ok hB34 (by rw [E34]; rfl)
noncomputable def G34 : List AV → Tr AV := g0 (sure Pz 34 [] V66)
theorem s34 : Sound Pz 34 G34 := sound0 at_sure
end Kz
end
section
namespace Kz
open Go Go.RowKit Go.Proofs
set_option maxRecDepth 100000
set_option maxHeartbeats 4000000
noncomputable def K136 : List (Nat × List (Nat × List Nat)) := [(136, [(0, [1, 3, 4]), (1, [0, 1, 3, 4])])]
noncomputable def B136 : Base := baseOf Pz (fun f i => lkK f i K136) [] [] []
theorem hB136 : BOk B136 := base_ok named_z trivial trivial trivial
noncomputable def N136 (a : Int) : (Int × Int) := ⟨(3), (a)⟩
noncomputable def ok136 (a : Int) : Bool := true
theorem E136 (a : Int) : evPure B136 14 136 [.int .u8 a] = Tr.ret (AV.agg [AV.cint .u8 3, AV.int .u8 a]) := by kernel_rfl
theorem P136 (a : Int) (h : ok136 a = true) : PS Pz 136 [.int .u8 a] ((dR .u8 .u8).res (N136 a)) := ps_gotR hB136 (E136 a) (gr_ret rfl) h
noncomputable def G136 : List AV → Tr AV := g1 (dI .u8) (fun a => sure Pz 136 [.int .u8 a] ((dR .u8 .u8).res (N136 a)))
theorem s136 : Sound Pz 136 G136 := sound1 (fun _ => at_sure)
end Kz
end
section
namespace Kz
open Go Go.RowKit Go.Proofs
set_option maxRecDepth 100000
set_option maxHeartbeats 4000000
noncomputable def K80 : List (Nat × List (Nat × List Nat)) := [(80, [(0, (0 :: (rn 3 23 []))), (1, (0 :: 3 :: 4 :: 5 :: (rn 7 19 []))), (2, (0 :: 1 :: (rn 3 23 []))), (3, (0 :: (rn 3 5 (rn 9 17 [])))), (4, (0 :: 1 :: (rn 3 23 []))), (5, (0 :: (rn 3 13 (rn 17 9 [])))), (6, (0 :: 1 :: (rn 3 23 []))), (7, (0 :: 1 :: (rn 3 23 [])))])]
noncomputable def B80 : Base := baseOf Pz (fun f i => lkK f i K80) [(11, G11), (103, G103), (136, G136)] [] []
theorem hB80 : BOk B80 := base_ok named_z ⟨s11, s103, s136, trivial⟩ trivial trivial
noncomputable def N80 (a : Pos) : (Int × Int) := (bif decide (Int.ofNat (N11 a).length > 0) then ⟨(0), (0)⟩ else (bif a.variant == 4 then ⟨(wr .u8 (1 + a.turn)), (8)⟩ else (bif N103 a a.turn then ⟨(wr .u8 (2 - a.turn)), (1)⟩ else ⟨((N136 2).fst), ((N136 2).snd)⟩)))
noncomputable def ok80 (a : Pos) : Bool := (ok11 (a) && (bif decide (Int.ofNat (N11 a).length > 0) then true else (bif a.variant == 4 then true else (ok103 (a) (a.turn) && true))))
theorem E80 (a : Pos) : evPure B80 14 80 [Pos.av a] = Tr.br (isPS Pz 11 [a.av] ((dL ET.mv).res (N11 a))) (Tr.br (decide (Int.ofNat (N11 a).length > 0)) (Tr.ret (AV.agg [AV.cint .u8 0, AV.cint .u8 0])) (Tr.br (a.variant == 4) (Tr.ret (AV.agg [AV.int .u8 (wr .u8 (1 + a.turn)), AV.cint .u8 8])) (Tr.br (isPS Pz 103 [a.av, AV.int .u8 a.turn] (dB.res (N103 a a.turn))) (Tr.br (N103 a a.turn) (Tr.ret (AV.agg [AV.int .u8 (wr .u8 (2 - a.turn)), AV.cint .u8 1])) (Tr.br (isPS Pz 136 [AV.int .u8 2] ((dR .u8 .u8).res (N136 2))) (Tr.ret (AV.agg [AV.int .u8 (N136 2).fst, AV.int .u8 (N136 2).snd])) Tr.fail)) Tr.fail))) Tr.fail := by kernel_rfl
theorem P80 (a : Pos) (h : ok80 a = true) : PS Pz 80 [Pos.av a] ((dR .u8 .u8).res (N80 a)) := ps_gotR hB80 (E80 a) (gr_call (P11 (a)) (gr_br (gr_ret rfl) (gr_br (gr_ret rfl) (gr_call (P103 (a) (a.turn)) (gr_br2 (gr_ret rfl) (gr_callT (P136 (2) rfl) (gr_ret rfl))))))) h
noncomputable def G80 : List AV → Tr AV := g1 dPos (fun a => sure Pz 80 [Pos.av a] ((dR .u8 .u8).res (N80 a)))
theorem s80 : Sound Pz 80 G80 := sound1 (fun _ => at_sure)
end Kz
end
section
namespace Kz
open Go Go.RowKit Go.Proofs
set_option maxRecDepth 100000
set_option maxHeartbeats 4000000
noncomputable def K174 : List (Nat × List (Nat × List Nat)) := [(174, [(0, (0 :: (rn 3 9 []))), (1, (rn 0 4 (rn 5 7 [])))])]
noncomputable def B174 : Base := baseOf Pz (fun f i => lkK f i K174) [(101, G101)] [] []
theorem hB174 : BOk B174 := base_ok named_z ⟨s101, trivial⟩ trivial trivial
noncomputable def N174 (a : Pos) (b : Int) : BitVec 64 := (N101 (Pos.mk a.variant a.board a.promoted a.pockets a.turn a.rooks a.passing a.checks a.half a.full) 0 b ||| N101 (Pos.mk a.variant a.board a.promoted a.pockets a.turn a.rooks a.passing a.checks a.half a.full) 1 b)
noncomputable def ok174 (a : Pos) (b : Int) : Bool := (ok101 (Pos.mk a.variant a.board a.promoted a.pockets a.turn a.rooks a.passing a.checks a.half a.full) (0) (b) && (ok101 (Pos.mk a.variant a.board a.promoted a.pockets a.turn a.rooks a.passing a.checks a.half a.full) (1) (b) && true))
theorem E174 (a : Pos) (b : Int) : evPure B174 14 174 [Pos.av a, .int .u8 b] = Tr.br (isPS Pz 101 [(Pos.mk a.variant a.board a.promoted a.pockets a.turn a.rooks a.passing a.checks a.half a.full).av, AV.int .u8 0, AV.int .u8 b] (dU.res (N101 (Pos.mk a.variant a.board a.promoted a.pockets a.turn a.rooks a.passing a.checks a.half a.full) 0 b))) (Tr.br (isPS Pz 101 [(Pos.mk a.variant a.board a.promoted a.pockets a.turn a.rooks a.passing a.checks a.half a.full).av, AV.int .u8 1, AV.int .u8 b] (dU.res (N101 (Pos.mk a.variant a.board a.promoted a.pockets a.turn a.rooks a.passing a.checks a.half a.full) 1 b))) (Tr.ret (AV.u64 (N101 (Pos.mk a.variant a.board a.promoted a.pockets a.turn a.rooks a.passing a.checks a.half a.full) 0 b ||| N101 (Pos.mk a.variant a.board a.promoted a.pockets a.turn a.rooks a.passing a.checks a.half a.full) 1 b))) Tr.fail) Tr.fail := by kernel_rfl
theorem P174 (a : Pos) (b : Int) (h : ok174 a b = true) : PS Pz 174 [Pos.av a, .int .u8 b] (dU.res (N174 a b)) := ps_gotR hB174 (E174 a b) (gr_call (P101 (Pos.mk a.variant a.board a.promoted a.pockets a.turn a.rooks a.passing a.checks a.half a.full) (0) (b)) (gr_call (P101 (Pos.mk a.variant a.board a.promoted a.pockets a.turn a.rooks a.passing a.checks a.half a.full) (1) (b)) (gr_ret rfl))) h
noncomputable def G174 : List AV → Tr AV := g2 dPos (dI .u8) (fun a b => sure Pz 174 [Pos.av a, .int .u8 b] (dU.res (N174 a b)))
theorem s174 : Sound Pz 174 G174 := sound2 (fun _ _ => at_sure)
end Kz
end
section
namespace Kz
open Go Go.RowKit Go.Proofs
set_option maxRecDepth 100000
set_option maxHeartbeats 4000000
noncomputable def K175 : List (Nat × List (Nat × List Nat)) := [(175, [(0, (rn 1 34 [])), (1, (rn 1 34 [])), (2, (rn 1 34 [])), (3, (rn 1 34 [])), (4, (rn 1 34 [])), (5, (rn 1 34 [])), (6, (rn 1 34 [])), (7, (0 :: 1 :: (rn 3 32 [])))])]
noncomputable def B175 : Base := baseOf Pz (fun f i => lkK f i K175) [] [] []
theorem hB175 : BOk B175 := base_ok named_z trivial trivial trivial
noncomputable def N175 (a : BitVec 64) : Int := (ibits BinOp.and .i64 (wr .i64 ↑((((((a >>> 1 &&& 6148914691236517205#64) + (a &&& 6148914691236517205#64)) >>> 2 &&& 3689348814741910323#64) + ((a >>> 1 &&& 6148914691236517205#64) + (a &&& 6148914691236517205#64) &&& 3689348814741910323#64)) >>> 4 + ((((a >>> 1 &&& 6148914691236517205#64) + (a &&& 6148914691236517205#64)) >>> 2 &&& 3689348814741910323#64) + ((a >>> 1 &&& 6148914691236517205#64) + (a &&& 6148914691236517205#64) &&& 3689348814741910323#64)) &&& 1085102592571150095#64) + (((((a >>> 1 &&& 6148914691236517205#64) + (a &&& 6148914691236517205#64)) >>> 2 &&& 3689348814741910323#64) + ((a >>> 1 &&& 6148914691236517205#64) + (a &&& 6148914691236517205#64) &&& 3689348814741910323#64)) >>> 4 + ((((a >>> 1 &&& 6148914691236517205#64) + (a &&& 6148914691236517205#64)) >>> 2 &&& 3689348814741910323#64) + ((a >>> 1 &&& 6148914691236517205#64) + (a &&& 6148914691236517205#64) &&& 3689348814741910323#64)) &&& 1085102592571150095#64) >>> 8 + ((((((a >>> 1 &&& 6148914691236517205#64) + (a &&& 6148914691236517205#64)) >>> 2 &&& 3689348814741910323#64) + ((a >>> 1 &&& 6148914691236517205#64) + (a &&& 6148914691236517205#64) &&& 3689348814741910323#64)) >>> 4 + ((((a >>> 1 &&& 6148914691236517205#64) + (a &&& 6148914691236517205#64)) >>> 2 &&& 3689348814741910323#64) + ((a >>> 1 &&& 6148914691236517205#64) + (a &&& 6148914691236517205#64) &&& 3689348814741910323#64)) &&& 1085102592571150095#64) + (((((a >>> 1 &&& 6148914691236517205#64) + (a &&& 6148914691236517205#64)) >>> 2 &&& 3689348814741910323#64) + ((a >>> 1 &&& 6148914691236517205#64) + (a &&& 6148914691236517205#64) &&& 3689348814741910323#64)) >>> 4 + ((((a >>> 1 &&& 6148914691236517205#64) + (a &&& 6148914691236517205#64)) >>> 2 &&& 3689348814741910323#64) + ((a >>> 1 &&& 6148914691236517205#64) + (a &&& 6148914691236517205#64) &&& 3689348814741910323#64)) &&& 1085102592571150095#64) >>> 8) >>> 16 + ((((((a >>> 1 &&& 6148914691236517205#64) + (a &&& 6148914691236517205#64)) >>> 2 &&& 3689348814741910323#64) + ((a >>> 1 &&& 6148914691236517205#64) + (a &&& 6148914691236517205#64) &&& 3689348814741910323#64)) >>> 4 + ((((a >>> 1 &&& 6148914691236517205#64) + (a &&& 6148914691236517205#64)) >>> 2 &&& 3689348814741910323#64) + ((a >>> 1 &&& 6148914691236517205#64) + (a &&& 6148914691236517205#64) &&& 3689348814741910323#64)) &&& 1085102592571150095#64) + (((((a >>> 1 &&& 6148914691236517205#64) + (a &&& 6148914691236517205#64)) >>> 2 &&& 3689348814741910323#64) + ((a >>> 1 &&& 6148914691236517205#64) + (a &&& 6148914691236517205#64) &&& 3689348814741910323#64)) >>> 4 + ((((a >>> 1 &&& 6148914691236517205#64) + (a &&& 6148914691236517205#64)) >>> 2 &&& 3689348814741910323#64) + ((a >>> 1 &&& 6148914691236517205#64) + (a &&& 6148914691236517205#64) &&& 3689348814741910323#64)) &&& 1085102592571150095#64) >>> 8 + ((((((a >>> 1 &&& 6148914691236517205#64) + (a &&& 6148914691236517205#64)) >>> 2 &&& 3689348814741910323#64) + ((a >>> 1 &&& 6148914691236517205#64) + (a &&& 6148914691236517205#64) &&& 3689348814741910323#64)) >>> 4 + ((((a >>> 1 &&& 6148914691236517205#64) + (a &&& 6148914691236517205#64)) >>> 2 &&& 3689348814741910323#64) + ((a >>> 1 &&& 6148914691236517205#64) + (a &&& 6148914691236517205#64) &&& 3689348814741910323#64)) &&& 1085102592571150095#64) + (((((a >>> 1 &&& 6148914691236517205#64) + (a &&& 6148914691236517205#64)) >>> 2 &&& 3689348814741910323#64) + ((a >>> 1 &&& 6148914691236517205#64) + (a &&& 6148914691236517205#64) &&& 3689348814741910323#64)) >>> 4 + ((((a >>> 1 &&& 6148914691236517205#64) + (a &&& 6148914691236517205#64)) >>> 2 &&& 3689348814741910323#64) + ((a >>> 1 &&& 6148914691236517205#64) + (a &&& 6148914691236517205#64) &&& 3689348814741910323#64)) &&& 1085102592571150095#64) >>> 8) >>> 16) >>> 32).toNat) 127)
noncomputable def ok175 (a : BitVec 64) : Bool := true
theorem E175 (a : BitVec 64) : evPure B175 14 175 [.u64 a] = (let z1 := (((((a >>> 1 &&& 6148914691236517205#64) + (a &&& 6148914691236517205#64)) >>> 2 &&& 3689348814741910323#64) + ((a >>> 1 &&& 6148914691236517205#64) + (a &&& 6148914691236517205#64) &&& 3689348814741910323#64)) >>> 4 + ((((a >>> 1 &&& 6148914691236517205#64) + (a &&& 6148914691236517205#64)) >>> 2 &&& 3689348814741910323#64) + ((a >>> 1 &&& 6148914691236517205#64) + (a &&& 6148914691236517205#64) &&& 3689348814741910323#64)) &&& 1085102592571150095#64); Tr.ret (AV.int .i64 (ibits BinOp.and .i64 (wr .i64 ↑(z1 + z1 >>> 8 + (z1 + z1 >>> 8) >>> 16 + (z1 + z1 >>> 8 + (z1 + z1 >>> 8) >>> 16) >>> 32).toNat) 127))) := by kernel_rfl
theorem P175 (a : BitVec 64) (h : ok175 a = true) : PS Pz 175 [.u64 a] ((dI .i64).res (N175 a)) := ps_gotR hB175 (E175 a) (gr_ret rfl) h
noncomputable def G175 : List AV → Tr AV := g1 dU (fun a => sure Pz 175 [.u64 a] ((dI .i64).res (N175 a)))
theorem s175 : Sound Pz 175 G175 := sound1 (fun _ => at_sure)
end Kz
end
section
namespace Kz
open Go Go.RowKit Go.Proofs
set_option maxRecDepth 100000
set_option maxHeartbeats 4000000
noncomputable def K137 : List (Nat × List (Nat × List Nat)) := [(137, [(0, (0 :: (rn 2 30 (rn 45 14 [62, 63, 67])))), (1, (0 :: 2 :: (rn 4 28 (rn 45 14 [62, 63, 67])))), (2, (0 :: 2 :: (rn 4 7 (rn 12 20 (rn 45 14 [62, 63, 67]))))), (3, (0 :: 2 :: (rn 4 7 (rn 13 19 (rn 45 14 [62, 63, 67]))))), (4, (0 :: 2 :: (rn 4 7 (rn 13 19 (rn 45 14 [62, 63, 67]))))), (5, (0 :: 2 :: 3 :: (rn 5 27 (rn 45 23 [])))), (6, (0 :: 2 :: 3 :: (rn 6 26 (rn 45 23 [])))), (7, (rn 0 4 (rn 6 21 (rn 28 4 (rn 45 23 []))))), (8, (0 :: 1 :: (rn 3 65 []))), (9, (0 :: 1 :: (rn 3 65 []))), (10, (0 :: 2 :: (rn 4 7 (rn 12 34 (rn 47 12 [62, 63, 67]))))), (11, (0 :: 2 :: (rn 4 42 (rn 47 12 [62, 63, 67])))), (12, (0 :: 1 :: 2 :: 4 :: 5 :: (rn 8 51 [62, 63, 67]))), (13, (0 :: 1 :: (rn 3 65 []))), (14, (0 :: 1 :: (rn 3 65 [])))])]
noncomputable def B137 : Base := baseOf Pz (fun f i => lkK f i K137) [(143, G143), (174, G174), (175, G175), (101, G101)] [] []
theorem hB137 : BOk B137 := base_ok named_z ⟨s143, s174, s175, s101, trivial⟩ trivial trivial
noncomputable def N137 (a : Pos) : Bool := (bif a.variant == 0 then (bif a.variant == 0 then (bif N143 (Pos.mk a.variant a.board a.promoted a.pockets a.turn a.rooks a.passing a.checks a.half a.full) &&& ~~~N174 (Pos.mk a.variant a.board a.promoted a.pockets a.turn a.rooks a.passing a.checks a.half a.full) 6 &&& ~~~N174 (Pos.mk a.variant a.board a.promoted a.pockets a.turn a.rooks a.passing a.checks a.half a.full) 3 &&& ~~~N174 (Pos.mk a.variant a.board a.promoted a.pockets a.turn a.rooks a.passing a.checks a.half a.full) 2 != 0#64 then (false) else (bif decide (N175 (N143 (Pos.mk a.variant a.board a.promoted a.pockets a.turn a.rooks a.passing a.checks a.half a.full) &&& ~~~N174 (Pos.mk a.variant a.board a.promoted a.pockets a.turn a.rooks a.passing a.checks a.half a.full) 6) ≤ 1) then (true) else (bif N143 (Pos.mk a.variant a.board a.promoted a.pockets a.turn a.rooks a.passing a.checks a.half a.full) &&& ~~~N174 (Pos.mk a.variant a.board a.promoted a.pockets a.turn a.rooks a.passing a.checks a.half a.full) 6 == N174 (Pos.mk a.variant a.board a.promoted a.pockets a.turn a.rooks a.passing a.checks a.half a.full) 3 then (bif N143 (Pos.mk a.variant a.board a.promoted a.pockets a.turn a.rooks a.passing a.checks a.half a.full) &&& ~~~N174 (Pos.mk a.variant a.board a.promoted a.pockets a.turn a.rooks a.passing a.checks a.half a.full) 6 &&& 6172840429334713770#64 == 0#64 then (true) else (N143 (Pos.mk a.variant a.board a.promoted a.pockets a.turn a.rooks a.passing a.checks a.half a.full) &&& ~~~N174 (Pos.mk a.variant a.board a.promoted a.pockets a.turn a.rooks a.passing a.checks a.half a.full) 6 &&& ~~~6172840429334713770#64 == 0#64)) else (false)))) else (bif a.variant == 3 then (bif a.variant == 3 then (bif N143 (Pos.mk a.variant a.board a.promoted a.pockets a.turn a.rooks a.passing a.checks a.half a.full) == N101 (Pos.mk a.variant a.board a.promoted a.pockets a.turn a.rooks a.passing a.checks a.half a.full) 0 6 ||| N101 (Pos.mk a.variant a.board a.promoted a.pockets a.turn a.rooks a.passing a.checks a.half a.full) 1 6 then (bif N175 (N101 (Pos.mk a.variant a.board a.promoted a.pockets a.turn a.rooks a.passing a.checks a.half a.full) 0 6) == 1 then (N175 (N101 (Pos.mk a.variant a.board a.promoted a.pockets a.turn a.rooks a.passing a.checks a.half a.full) 1 6) == 1) else (false)) else (false)) else (false)) else (bif a.variant == 5 then (bif N143 (Pos.mk a.variant a.board a.promoted a.pockets a.turn a.rooks a.passing a.checks a.half a.full) == N101 (Pos.mk a.variant a.board a.promoted a.pockets a.turn a.rooks a.passing a.checks a.half a.full) 0 6 ||| N101 (Pos.mk a.variant a.board a.promoted a.pockets a.turn a.rooks a.passing a.checks a.half a.full) 1 6 then (bif N175 (N101 (Pos.mk a.variant a.board a.promoted a.pockets a.turn a.rooks a.passing a.checks a.half a.full) 0 6) == 1 then (N175 (N101 (Pos.mk a.variant a.board a.promoted a.pockets a.turn a.rooks a.passing a.checks a.half a.full) 1 6) == 1) else (false)) else (false)) else (false)))) else (bif a.variant == 1 then (bif N143 (Pos.mk a.variant a.board a.promoted a.pockets a.turn a.rooks a.passing a.checks a.half a.full) &&& ~~~N174 (Pos.mk a.variant a.board a.promoted a.pockets a.turn a.rooks a.passing a.checks a.half a.full) 6 &&& ~~~N174 (Pos.mk a.variant a.board a.promoted a.pockets a.turn a.rooks a.passing a.checks a.half a.full) 3 &&& ~~~N174 (Pos.mk a.variant a.board a.promoted a.pockets a.turn a.rooks a.passing a.checks a.half a.full) 2 != 0#64 then (false) else (bif decide (N175 (N143 (Pos.mk a.variant a.board a.promoted a.pockets a.turn a.rooks a.passing a.checks a.half a.full) &&& ~~~N174 (Pos.mk a.variant a.board a.promoted a.pockets a.turn a.rooks a.passing a.checks a.half a.full) 6) ≤ 1) then (true) else (bif N143 (Pos.mk a.variant a.board a.promoted a.pockets a.turn a.rooks a.passing a.checks a.half a.full) &&& ~~~N174 (Pos.mk a.variant a.board a.promoted a.pockets a.turn a.rooks a.passing a.checks a.half a.full) 6 == N174 (Pos.mk a.variant a.board a.promoted a.pockets a.turn a.rooks a.passing a.checks a.half a.full) 3 then (bif N143 (Pos.mk a.variant a.board a.promoted a.pockets a.turn a.rooks a.passing a.checks a.half a.full) &&& ~~~N174 (Pos.mk a.variant a.board a.promoted a.pockets a.turn a.rooks a.passing a.checks a.half a.full) 6 &&& 6172840429334713770#64 == 0#64 then (true) else (N143 (Pos.mk a.variant a.board a.promoted a.pockets a.turn a.rooks a.passing a.checks a.half a.full) &&& ~~~N174 (Pos.mk a.variant a.board a.promoted a.pockets a.turn a.rooks a.passing a.checks a.half a.full) 6 &&& ~~~6172840429334713770#64 == 0#64)) else (false)))) else (bif a.variant == 3 then (bif a.variant == 3 then (bif N143 (Pos.mk a.variant a.board a.promoted a.pockets a.turn a.rooks a.passing a.checks a.half a.full) == N101 (Pos.mk a.variant a.board a.promoted a.pockets a.turn a.rooks a.passing a.checks a.half a.full) 0 6 ||| N101 (Pos.mk a.variant a.board a.promoted a.pockets a.turn a.rooks a.passing a.checks a.half a.full) 1 6 then (bif N175 (N101 (Pos.mk a.variant a.board a.promoted a.pockets a.turn a.rooks a.passing a.checks a.half a.full) 0 6) == 1 then (N175 (N101 (Pos.mk a.variant a.board a.promoted a.pockets a.turn a.rooks a.passing a.checks a.half a.full) 1 6) == 1) else (false)) else (false)) else (false)) else (bif a.variant == 5 then (bif N143 (Pos.mk a.variant a.board a.promoted a.pockets a.turn a.rooks a.passing a.checks a.half a.full) == N101 (Pos.mk a.variant a.board a.promoted a.pockets a.turn a.rooks a.passing a.checks a.half a.full) 0 6 ||| N101 (Pos.mk a.variant a.board a.promoted a.pockets a.turn a.rooks a.passing a.checks a.half a.full) 1 6 then (bif N175 (N101 (Pos.mk a.variant a.board a.promoted a.pockets a.turn a.rooks a.passing a.checks a.half a.full) 0 6) == 1 then (N175 (N101 (Pos.mk a.variant a.board a.promoted a.pockets a.turn a.rooks a.passing a.checks a.half a.full) 1 6) == 1) else (false)) else (false)) else (false)))))
noncomputable def ok137 (a : Pos) : Bool := (ok143 (Pos.mk a.variant a.board a.promoted a.pockets a.turn a.rooks a.passing a.checks a.half a.full) && (bif a.variant == 0 then (bif a.variant == 0 then (ok174 (Pos.mk a.variant a.board a.promoted a.pockets a.turn a.rooks a.passing a.checks a.half a.full) (6) && (ok174 (Pos.mk a.variant a.board a.promoted a.pockets a.turn a.rooks a.passing a.checks a.half a.full) (3) && (ok174 (Pos.mk a.variant a.board a.promoted a.pockets a.turn a.rooks a.passing a.checks a.half a.full) (2) && true))) else (bif a.variant == 3 then (bif a.variant == 3 then (ok101 (Pos.mk a.variant a.board a.promoted a.pockets a.turn a.rooks a.passing a.checks a.half a.full) (0) (6) && (ok101 (Pos.mk a.variant a.board a.promoted a.pockets a.turn a.rooks a.passing a.checks a.half a.full) (1) (6) && true)) else true) else (bif a.variant == 5 then (ok101 (Pos.mk a.variant a.board a.promoted a.pockets a.turn a.rooks a.passing a.checks a.half a.full) (0) (6) && (ok101 (Pos.mk a.variant a.board a.promoted a.pockets a.turn a.rooks a.passing a.checks a.half a.full) (1) (6) && true)) else true))) else (bif a.variant == 1 then (ok174 (Pos.mk a.variant a.board a.promoted a.pockets a.turn a.rooks a.passing a.checks a.half a.full) (6) && (ok174 (Pos.mk a.variant a.board a.promoted a.pockets a.turn a.rooks a.passing a.checks a.half a.full) (3) && (ok174 (Pos.mk a.variant a.board a.promoted a.pockets a.turn a.rooks a.passing a.checks a.half a.full) (2) && true))) else (bif a.variant == 3 then (bif a.variant == 3 then (ok101 (Pos.mk a.variant a.board a.promoted a.pockets a.turn a.rooks a.passing a.checks a.half a.full) (0) (6) && (ok101 (Pos.mk a.variant a.board a.promoted a.pockets a.turn a.rooks a.passing a.checks a.half a.full) (1) (6) && true)) else true) else (bif a.variant == 5 then (ok101 (Pos.mk a.variant a.board a.promoted a.pockets a.turn a.rooks a.passing a.checks a.half a.full) (0) (6) && (ok101 (Pos.mk a.variant a.board a.promoted a.pockets a.turn a.rooks a.passing a.checks a.half a.full) (1) (6) && true)) else true)))))
theorem E137 (a : Pos) : evPure B137 14 137 [Pos.av a] = (let z1 := (Pos.mk a.variant a.board a.promoted a.pockets a.turn a.rooks a.passing a.checks a.half a.full); let z2 := (Tr.br (isPS Pz 101 [z1.av, AV.int .u8 0, AV.int .u8 6] (dU.res (N101 z1 0 6))) (Tr.br (isPS Pz 101 [z1.av, AV.int .u8 1, AV.int .u8 6] (dU.res (N101 z1 1 6))) (Tr.br (N143 z1 == N101 z1 0 6 ||| N101 z1 1 6) (Tr.br (isPS Pz 175 [AV.u64 (N101 z1 0 6)] ((dI .i64).res (N175 (N101 z1 0 6)))) (Tr.br (N175 (N101 z1 0 6) == 1) (Tr.br (isPS Pz 175 [AV.u64 (N101 z1 1 6)] ((dI .i64).res (N175 (N101 z1 1 6)))) (Tr.ret (AV.bool (N175 (N101 z1 1 6) == 1))) Tr.fail) (Tr.ret (AV.cbool false))) Tr.fail) (Tr.ret (AV.cbool false))) Tr.fail) Tr.fail); let z3 := (Tr.br (isPS Pz 174 [z1.av, AV.int .u8 6] (dU.res (N174 z1 6))) (Tr.br (isPS Pz 174 [z1.av, AV.int .u8 3] (dU.res (N174 z1 3))) (Tr.br (isPS Pz 174 [z1.av, AV.int .u8 2] (dU.res (N174 z1 2))) (Tr.br (N143 z1 &&& ~~~N174 z1 6 &&& ~~~N174 z1 3 &&& ~~~N174 z1 2 != 0#64) (Tr.ret (AV.cbool false)) (Tr.br (isPS Pz 175 [AV.u64 (N143 z1 &&& ~~~N174 z1 6)] ((dI .i64).res (N175 (N143 z1 &&& ~~~N174 z1 6)))) (Tr.br (decide (N175 (N143 z1 &&& ~~~N174 z1 6) ≤ 1)) (Tr.ret (AV.cbool true)) (Tr.br (N143 z1 &&& ~~~N174 z1 6 == N174 z1 3) (Tr.br (N143 z1 &&& ~~~N174 z1 6 &&& 6172840429334713770#64 == 0#64) (Tr.ret (AV.cbool true)) (Tr.ret (AV.bool (N143 z1 &&& ~~~N174 z1 6 &&& ~~~6172840429334713770#64 == 0#64)))) (Tr.ret (AV.cbool false)))) Tr.fail)) Tr.fail) Tr.fail) Tr.fail); let z4 := (Tr.br (a.variant == 3) (Tr.br (a.variant == 3) z2 (Tr.ret (AV.cbool false))) (Tr.br (a.variant == 5) z2 (Tr.ret (AV.cbool false)))); Tr.br (isPS Pz 143 [z1.av] (dU.res (N143 z1))) (Tr.br (a.variant == 0) (Tr.br (a.variant == 0) z3 z4) (Tr.br (a.variant == 1) z3 z4)) Tr.fail) := by kernel_rfl
theorem P137 (a : Pos) (h : ok137 a = true) : PS Pz 137 [Pos.av a] (dB.res (N137 a)) := ps_gotR hB137 (E137 a) (gr_call (P143 (Pos.mk a.variant a.board a.promoted a.pockets a.turn a.rooks a.passing a.checks a.half a.full)) (gr_br (gr_br (gr_call (P174 (Pos.mk a.variant a.board a.promoted a.pockets a.turn a.rooks a.passing a.checks a.half a.full) (6)) (gr_call (P174 (Pos.mk a.variant a.board a.promoted a.pockets a.turn a.rooks a.passing a.checks a.half a.full) (3)) (gr_call (P174 (Pos.mk a.variant a.board a.promoted a.pockets a.turn a.rooks a.passing a.checks a.half a.full) (2)) (gr_br2 (gr_ret rfl) (gr_callT (P175 (N143 (Pos.mk a.variant a.board a.promoted a.pockets a.turn a.rooks a.passing a.checks a.half a.full) &&& ~~~N174 (Pos.mk a.variant a.board a.promoted a.pockets a.turn a.rooks a.passing a.checks a.half a.full) 6) rfl) (gr_br2 (gr_ret rfl) (gr_br2 (gr_br2 (gr_ret rfl) (gr_ret rfl)) (gr_ret rfl)))))))) (gr_br (gr_br (gr_call (P101 (Pos.mk a.variant a.board a.promoted a.pockets a.turn a.rooks a.passing a.checks a.half a.full) (0) (6)) (gr_call (P101 (Pos.mk a.variant a.board a.promoted a.pockets a.turn a.rooks a.passing a.checks a.half a.full) (1) (6)) (gr_br2 (gr_callT (P175 (N101 (Pos.mk a.variant a.board a.promoted a.pockets a.turn a.rooks a.passing a.checks a.half a.full) 0 6) rfl) (gr_br2 (gr_callT (P175 (N101 (Pos.mk a.variant a.board a.promoted a.pockets a.turn a.rooks a.passing a.checks a.half a.full) 1 6) rfl) (gr_ret rfl)) (gr_ret rfl))) (gr_ret rfl)))) (gr_ret rfl)) (gr_br (gr_call (P101 (Pos.mk a.variant a.board a.promoted a.pockets a.turn a.rooks a.passing a.checks a.half a.full) (0) (6)) (gr_call (P101 (Pos.mk a.variant a.board a.promoted a.pockets a.turn a.rooks a.passing a.checks a.half a.full) (1) (6)) (gr_br2 (gr_callT (P175 (N101 (Pos.mk a.variant a.board a.promoted a.pockets a.turn a.rooks a.passing a.checks a.half a.full) 0 6) rfl) (gr_br2 (gr_callT (P175 (N101 (Pos.mk a.variant a.board a.promoted a.pockets a.turn a.rooks a.passing a.checks a.half a.full) 1 6) rfl) (gr_ret rfl)) (gr_ret rfl))) (gr_ret rfl)))) (gr_ret rfl)))) (gr_br (gr_call (P174 (Pos.mk a.variant a.board a.promoted a.pockets a.turn a.rooks a.passing a.checks a.half a.full) (6)) (gr_call (P174 (Pos.mk a.variant a.board a.promoted a.pockets a.turn a.rooks a.passing a.checks a.half a.full) (3)) (gr_call (P174 (Pos.mk a.variant a.board a.promoted a.pockets a.turn a.rooks a.passing a.checks a.half a.full) (2)) (gr_br2 (gr_ret rfl) (gr_callT (P175 (N143 (Pos.mk a.variant a.board a.promoted a.pockets a.turn a.rooks a.passing a.checks a.half a.full) &&& ~~~N174 (Pos.mk a.variant a.board a.promoted a.pockets a.turn a.rooks a.passing a.checks a.half a.full) 6) rfl) (gr_br2 (gr_ret rfl) (gr_br2 (gr_br2 (gr_ret rfl) (gr_ret rfl)) (gr_ret rfl)))))))) (gr_br (gr_br (gr_call (P101 (Pos.mk a.variant a.board a.promoted a.pockets a.turn a.rooks a.passing a.checks a.half a.full) (0) (6)) (gr_call (P101 (Pos.mk a.variant a.board a.promoted a.pockets a.turn a.rooks a.passing a.checks a.half a.full) (1) (6)) (gr_br2 (gr_callT (P175 (N101 (Pos.mk a.variant a.board a.promoted a.pockets a.turn a.rooks a.passing a.checks a.half a.full) 0 6) rfl) (gr_br2 (gr_callT (P175 (N101 (Pos.mk a.variant a.board a.promoted a.pockets a.turn a.rooks a.passing a.checks a.half a.full) 1 6) rfl) (gr_ret rfl)) (gr_ret rfl))) (gr_ret rfl)))) (gr_ret rfl)) (gr_br (gr_call (P101 (Pos.mk a.variant a.board a.promoted a.pockets a.turn a.rooks a.passing a.checks a.half a.full) (0) (6)) (gr_call (P101 (Pos.mk a.variant a.board a.promoted a.pockets a.turn a.rooks a.passing a.checks a.half a.full) (1) (6)) (gr_br2 (gr_callT (P175 (N101 (Pos.mk a.variant a.board a.promoted a.pockets a.turn a.rooks a.passing a.checks a.half a.full) 0 6) rfl) (gr_br2 (gr_callT (P175 (N101 (Pos.mk a.variant a.board a.promoted a.pockets a.turn a.rooks a.passing a.checks a.half a.full) 1 6) rfl) (gr_ret rfl)) (gr_ret rfl))) (gr_ret rfl)))) (gr_ret rfl)))))) h
noncomputable def G137 : List AV → Tr AV := g1 dPos (fun a => sure Pz 137 [Pos.av a] (dB.res (N137 a)))
theorem s137 : Sound Pz 137 G137 := sound1 (fun _ => at_sure)
end Kz
end
section
namespace Kz
open Go Go.RowKit Go.Proofs
set_option maxRecDepth 100000
set_option maxHeartbeats 4000000
noncomputable def K81 : List (Nat × List (Nat × List Nat)) := [(81, [(0, [0, 3, 4, 5, 6]), (1, [0, 1, 3, 5, 6]), (2, (0 :: 1 :: (rn 3 4 []))), (3, (0 :: 1 :: (rn 3 4 [])))])]
noncomputable def B81 : Base := baseOf Pz (fun f i => lkK f i K81) [(137, G137), (136, G136)] [] []
theorem hB81 : BOk B81 := base_ok named_z ⟨s137, s136, trivial⟩ trivial trivial
noncomputable def N81 (a : Pos) : (Int × Int) := (bif N137 (Pos.mk a.variant a.board a.promoted a.pockets a.turn a.rooks a.passing a.checks a.half a.full) then ⟨((N136 3).fst), ((N136 3).snd)⟩ else ⟨(0), (0)⟩)
noncomputable def ok81 (a : Pos) : Bool := (ok137 (Pos.mk a.variant a.board a.promoted a.pockets a.turn a.rooks a.passing a.checks a.half a.full) && true)
theorem E81 (a : Pos) : evPure B81 14 81 [Pos.av a] = Tr.br (isPS Pz 137 [(Pos.mk a.variant a.board a.promoted a.pockets a.turn a.rooks a.passing a.checks a.half a.full).av] (dB.res (N137 (Pos.mk a.variant a.board a.promoted a.pockets a.turn a.rooks a.passing a.checks a.half a.full)))) (Tr.br (N137 (Pos.mk a.variant a.board a.promoted a.pockets a.turn a.rooks a.passing a.checks a.half a.full)) (Tr.br (isPS Pz 136 [AV.int .u8 3] ((dR .u8 .u8).res (N136 3))) (Tr.ret (AV.agg [AV.int .u8 (N136 3).fst, AV.int .u8 (N136 3).snd])) Tr.fail) (Tr.ret (AV.agg [AV.cint .u8 0, AV.cint .u8 0]))) Tr.fail := by kernel_rfl
theorem P81 (a : Pos) (h : ok81 a = true) : PS Pz 81 [Pos.av a] ((dR .u8 .u8).res (N81 a)) := ps_gotR hB81 (E81 a) (gr_call (P137 (Pos.mk a.variant a.board a.promoted a.pockets a.turn a.rooks a.passing a.checks a.half a.full)) (gr_br2 (gr_callT (P136 (3) rfl) (gr_ret rfl)) (gr_ret rfl))) h
noncomputable def G81 : List AV → Tr AV := g1 dPos (fun a => sure Pz 81 [Pos.av a] ((dR .u8 .u8).res (N81 a)))
theorem s81 : Sound Pz 81 G81 := sound1 (fun _ => at_sure)
end Kz
end
section
namespace Kz
open Go Go.RowKit Go.Proofs
set_option maxRecDepth 100000
set_option maxHeartbeats 4000000
noncomputable def K82 : List (Nat × List (Nat × List Nat)) := [(82, [(0, (0 :: (rn 3 5 []))), (1, [0, 1, 3, 4, 6, 7]), (2, (0 :: 1 :: (rn 3 5 []))), (3, (0 :: 1 :: (rn 3 5 [])))])]
noncomputable def B82 : Base := baseOf Pz (fun f i => lkK f i K82) [(136, G136)] [] []
theorem hB82 : BOk B82 := base_ok named_z ⟨s136, trivial⟩ trivial trivial
noncomputable def N82 (a : Pos) : (Int × Int) := (bif decide (a.half ≥ 150) then ⟨((N136 4).fst), ((N136 4).snd)⟩ else ⟨(0), (0)⟩)
noncomputable def ok82 (a : Pos) : Bool := true
theorem E82 (a : Pos) : evPure B82 14 82 [Pos.av a] = Tr.br (decide (a.half ≥ 150)) (Tr.br (isPS Pz 136 [AV.int .u8 4] ((dR .u8 .u8).res (N136 4))) (Tr.ret (AV.agg [AV.int .u8 (N136 4).fst, AV.int .u8 (N136 4).snd])) Tr.fail) (Tr.ret (AV.agg [AV.cint .u8 0, AV.cint .u8 0])) := by kernel_rfl
theorem P82 (a : Pos) (h : ok82 a = true) : PS Pz 82 [Pos.av a] ((dR .u8 .u8).res (N82 a)) := ps_gotR hB82 (E82 a) (gr_br2 (gr_callT (P136 (4) rfl) (gr_ret rfl)) (gr_ret rfl)) h
noncomputable def G82 : List AV → Tr AV := g1 dPos (fun a => sure Pz 82 [Pos.av a] ((dR .u8 .u8).res (N82 a)))
theorem s82 : Sound Pz 82 G82 := sound1 (fun _ => at_sure)
end Kz
end
section
namespace Kz
open Go Go.RowKit Go.Proofs
set_option maxRecDepth 100000
set_option maxHeartbeats 4000000
noncomputable def K14 : List (Nat × List (Nat × List Nat)) := [(14, [(0, (0 :: (rn 3 7 (rn 13 16 [])))), (1, (0 :: (rn 3 10 (rn 14 15 [])))), (2, (0 :: 1 :: (rn 3 26 []))), (3, (0 :: (rn 3 12 (rn 17 12 [])))), (4, (0 :: (rn 3 12 (rn 18 11 [])))), (5, (0 :: 3 :: (rn 5 10 (rn 17 12 [])))), (6, (0 :: 3 :: 4 :: (rn 6 9 (rn 17 12 [])))), (7, (0 :: 3 :: 4 :: (rn 6 9 (rn 17 8 [26, 27, 28])))), (8, (0 :: 1 :: (rn 3 26 []))), (9, (0 :: (rn 3 12 (rn 17 12 [])))), (10, (0 :: 1 :: (rn 3 26 [])))])]
noncomputable def B14 : Base := baseOf Pz (fun f i => lkK f i K14) [(30, G30), (34, G34), (80, G80), (81, G81), (82, G82)] [] []
theorem hB14 : BOk B14 := base_ok named_z ⟨s30, s34, s80, s81, s82, trivial⟩ trivial trivial
noncomputable def N14 (a : Pos) : (Int × Int) := (bif decide (a.variant ≥ 9) then ⟨(0), (0)⟩ else (bif decide (a.turn > 1) then ⟨(0), (0)⟩ else (bif (N30 a).fst != 0 then ⟨((N30 a).fst), ((N30 a).snd)⟩ else (bif (N80 a).fst != 0 then ⟨((N80 a).fst), ((N80 a).snd)⟩ else (bif (N81 a).fst != 0 then ⟨((N81 a).fst), ((N81 a).snd)⟩ else (bif (N82 a).fst != 0 then ⟨((N82 a).fst), ((N82 a).snd)⟩ else ⟨(0), (0)⟩))))))
noncomputable def ok14 (a : Pos) : Bool := (bif decide (a.variant ≥ 9) then true else (bif decide (a.turn > 1) then true else (ok30 (a) && (bif (N30 a).fst != 0 then true else (ok80 (a) && (bif (N80 a).fst != 0 then true else (ok81 (a) && true)))))))
theorem E14 (a : Pos) : evPure B14 14 14 [Pos.av a] = Tr.br (decide (a.variant ≥ 9)) (Tr.ret (AV.agg [AV.cint .u8 0, AV.cint .u8 0])) (Tr.br (decide (a.turn > 1)) (Tr.ret (AV.agg [AV.cint .u8 0, AV.cint .u8 0])) (Tr.br (isPS Pz 34 [] V66) (Tr.br (isPS Pz 30 [a.av] ((dR .u8 .u8).res (N30 a))) (Tr.br ((N30 a).fst != 0) (Tr.ret (AV.agg [AV.int .u8 (N30 a).fst, AV.int .u8 (N30 a).snd])) (Tr.br (isPS Pz 80 [a.av] ((dR .u8 .u8).res (N80 a))) (Tr.br ((N80 a).fst != 0) (Tr.ret (AV.agg [AV.int .u8 (N80 a).fst, AV.int .u8 (N80 a).snd])) (Tr.br (isPS Pz 81 [a.av] ((dR .u8 .u8).res (N81 a))) (Tr.br ((N81 a).fst != 0) (Tr.ret (AV.agg [AV.int .u8 (N81 a).fst, AV.int .u8 (N81 a).snd])) (Tr.br (isPS Pz 82 [a.av] ((dR .u8 .u8).res (N82 a))) (Tr.br ((N82 a).fst != 0) (Tr.ret (AV.agg [AV.int .u8 (N82 a).fst, AV.int .u8 (N82 a).snd])) (Tr.ret (AV.agg [AV.cint .u8 0, AV.cint .u8 0]))) Tr.fail)) Tr.fail)) Tr.fail)) Tr.fail) Tr.fail)) := by kernel_rfl
theorem P14 (a : Pos) (h : ok14 a = true) : PS Pz 14 [Pos.av a] ((dR .u8 .u8).res (N14 a)) := ps_gotR hB14 (E14 a) (gr_br (gr_ret rfl) (gr_br (gr_ret rfl) (gr_callT (P34 rfl) (gr_call (P30 (a)) (gr_br (gr_ret rfl) (gr_call (P80 (a)) (gr_br (gr_ret rfl) (gr_call (P81 (a)) (gr_br2 (gr_ret rfl) (gr_callT (P82 (a) rfl) (gr_br2 (gr_ret rfl) (gr_ret rfl)))))))))))) h
noncomputable def G14 : List AV → Tr AV := g1 dPos (fun a => sure Pz 14 [Pos.av a] ((dR .u8 .u8).res (N14 a)))
theorem s14 : Sound Pz 14 G14 := sound1 (fun _ => at_sure)
end Kz
end
section
namespace Kz
open Go Go.RowKit
set_option maxRecDepth 100000
set_option maxHeartbeats 4000000
theorem t174 (p : Pos) (b : Int) : ok174 p b = true := a_true (t101 _ _ _) fun _ => a_true (t101 _ _ _) fun _ => rfl
theorem t137 (p : Pos) : ok137 p = true := by
  unfold ok137
  rw [show (Pos.mk p.variant p.board p.promoted p.pockets p.turn p.rooks p.passing p.checks p.half p.full) = p from rfl]
  repeat' (first | with_reducible rfl | with_reducible exact t143 _ | with_reducible exact t174 _ _ | with_reducible exact t101 _ _ _ | refine a_true ?_ (fun _ => ?_) | refine c_true (fun _ => ?_) (fun _ => ?_))
theorem t81 (p : Pos) : ok81 p = true := a_true (t137 _) fun _ => rfl
theorem t80 {p : Pos} (hp : PosIn p) : ok80 p = true := a_true (t11 hp) fun _ => c_true (fun _ => rfl) fun _ => c_true (fun _ => rfl) fun _ => a_true (t103 hp.v0 hp.t0) fun _ => rfl
theorem t14 {p : Pos} (hp : PosIn p) : ok14 p = true := c_true (fun _ => rfl) fun _ => c_true (fun _ => rfl) fun _ => a_true (t30 hp) fun _ => c_true (fun _ => rfl) fun _ => a_true (t80 hp) fun _ => c_true (fun _ => rfl) fun _ => a_true (t81 p) fun _ => rfl
theorem N14_not {p : Pos} (h : ¬ there p) : N14 p = (0, 0) := by
  unfold there at h
  unfold N14
  refine c_ind (P := fun r : Int × Int => r = (0, 0)) (fun _ => rfl) fun h1 => c_ind (P := fun r : Int × Int => r = (0, 0)) (fun _ => rfl) fun h2 => ?_
  have h1 : p.variant < 9 := by simpa using h1
  have h2 : p.turn ≤ 1 := by simpa using h2
  exact absurd ⟨h2, h1⟩ h
theorem N14_there {p : Pos} (h : there p) : N14 p = bif (N30 p).1 != 0 then N30 p else bif (N80 p).1 != 0 then N80 p else bif (N81 p).1 != 0 then N81 p else bif (N82 p).1 != 0 then N82 p else (0, 0) := by
  obtain ⟨h1, h2⟩ := h
  unfold N14
  rw [show decide (p.variant ≥ 9) = false by simp; omega, show decide (p.turn > 1) = false by simp; omega]
  rfl
def Stands (p : Pos) (r : Int × Int) : Prop :=
  (r.1 ≠ 0 ∧ (r.2 = 6 ∨ r.2 = 7 ∨ r.2 = 8) ∧ (N11 p).length = 0) ∨ (r = (2 - p.turn, 1) ∧ (N11 p).length = 0 ∧ N103 p p.turn = true) ∨ (r = (3, 2) ∧ (N11 p).length = 0 ∧ N103 p p.turn = false) ∨ (r = (3, 3) ∧ 0 < (N11 p).length) ∨ (r = (3, 4) ∧ 0 < (N11 p).length ∧ 150 ≤ p.half) ∨ (r = (0, 0) ∧ 0 < (N11 p).length)
theorem N80_zero {p : Pos} (ht : there p) (hp : PosIn p) (h : (N80 p).1 = 0) : 0 < (N11 p).length := by
  have t0 := hp.t0
  have t1 := ht.1
  refine Classical.byContradiction fun hn => ?_
  revert h
  unfold N80
  rw [show decide (Int.ofNat (N11 p).length > 0) = false by simp; simpa using hn]
  rw [wu8 (n := 1 + p.turn) (by omega) (by omega), wu8 (n := 2 - p.turn) (by omega) (by omega)]
  refine c_ind (P := fun r : Int × Int => r.1 = 0 → False) (fun h => by cases h) fun _ => c_ind (P := fun r : Int × Int => r.1 = 0 → False) (fun _ h => by simp at h; omega) fun _ => c_ind (P := fun r : Int × Int => r.1 = 0 → False) (fun _ h => by simp at h; omega) fun _ h => by
    revert h
    show (N136 2).1 = 0 → False
    decide
theorem N136_eq {w : Int} : N136 w = (3, w) := rfl
theorem N81_is (p : Pos) : N81 p = (3, 3) ∨ N81 p = (0, 0) := by
  unfold N81
  exact c_ind (P := fun r : Int × Int => r = (3, 3) ∨ r = (0, 0)) (fun _ => .inl rfl) fun _ => .inr rfl
theorem N82_is (p : Pos) : (N82 p = (3, 4) ∧ 150 ≤ p.half) ∨ (N82 p = (0, 0) ∧ p.half < 150) := by
  unfold N82
  exact c_ind (P := fun r : Int × Int => (r = (3, 4) ∧ _) ∨ (r = (0, 0) ∧ _)) (fun h => .inl ⟨rfl, by simpa using h⟩) fun h => .inr ⟨rfl, by simpa using h⟩
theorem N80_is {p : Pos} (ht : there p) (hp : PosIn p) (h : (N80 p).1 ≠ 0) : (N11 p).length = 0 ∧ (N80 p = (1 + p.turn, 8) ∨ (N80 p = (2 - p.turn, 1) ∧ N103 p p.turn = true) ∨ (N80 p = (3, 2) ∧ N103 p p.turn = false)) := by
  have t0 := hp.t0
  have t1 := ht.1
  revert h
  unfold N80
  rw [wu8 (n := 1 + p.turn) (by omega) (by omega), wu8 (n := 2 - p.turn) (by omega) (by omega)]
  refine c_ind (P := fun r : Int × Int => r.1 ≠ 0 → (N11 p).length = 0 ∧ (r = (1 + p.turn, 8) ∨ (r = (2 - p.turn, 1) ∧ N103 p p.turn = true) ∨ (r = (3, 2) ∧ N103 p p.turn = false))) (fun _ h => absurd rfl h) fun hl => ?_
  have hl : (N11 p).length = 0 := by simpa using hl
  refine c_ind (P := fun r : Int × Int => r.1 ≠ 0 → (N11 p).length = 0 ∧ (r = (1 + p.turn, 8) ∨ (r = (2 - p.turn, 1) ∧ N103 p p.turn = true) ∨ (r = (3, 2) ∧ N103 p p.turn = false))) (fun _ _ => ⟨hl, .inl rfl⟩) fun _ => c_ind (P := fun r : Int × Int => r.1 ≠ 0 → (N11 p).length = 0 ∧ (r = (1 + p.turn, 8) ∨ (r = (2 - p.turn, 1) ∧ N103 p p.turn = true) ∨ (r = (3, 2) ∧ N103 p p.turn = false))) (fun hk _ => ⟨hl, .inr (.inl ⟨rfl, hk⟩)⟩) fun hk _ => ⟨hl, .inr (.inr ⟨rfl, hk⟩)⟩
theorem N14_stands {p : Pos} (hp : PosIn p) (ht : there p) : Stands p (N14 p) := by
  have t0 := hp.t0
  obtain ⟨t1, t2⟩ := ht
  rw [N14_there ⟨t1, t2⟩]
  obtain ⟨w1, _, _⟩ := N30_win hp
  unfold Stands
  have e15 : ((N30 p).1 != 0) = true → (N11 p).length = 0 := fun h => by
    rw [N11_eq hp, h]; rfl
  refine c_ind (P := Stands p) (fun h => ?_) fun _ => c_ind (P := Stands p) (fun h => ?_) fun h => ?_
  · have h0 : (N30 p).1 ≠ 0 := by simpa using h
    refine .inl ⟨h0, ?_, e15 h⟩
    rcases w1 with w | ⟨_, w⟩ | w
    · rw [w] at h0; exact absurd rfl h0
    · exact w
    · rw [w]; exact .inl rfl
  · have h0 : (N80 p).1 ≠ 0 := by simpa using h
    obtain ⟨hl, e | ⟨e, k⟩ | ⟨e, k⟩⟩ := N80_is ⟨t1, t2⟩ hp h0
    · rw [e]; exact .inl ⟨by show 1 + p.turn ≠ 0; omega, .inr (.inr rfl), hl⟩
    · rw [e]; exact .inr (.inl ⟨rfl, hl, k⟩)
    · rw [e]; exact .inr (.inr (.inl ⟨rfl, hl, k⟩))
  · have h0 : (N80 p).1 = 0 := by simpa using h
    have hl := N80_zero ⟨t1, t2⟩ hp h0
    rcases N81_is p with e | e
    · rw [e]; exact .inr (.inr (.inr (.inl ⟨rfl, hl⟩)))
    · rw [e]
      rcases N82_is p with ⟨e, k⟩ | ⟨e, k⟩
      · rw [e]; exact .inr (.inr (.inr (.inr (.inl ⟨rfl, hl, k⟩))))
      · rw [e]; exact .inr (.inr (.inr (.inr (.inr ⟨rfl, hl⟩))))
section
variable {p : Pos} (hp : PosIn p) {h f : Int} (hq : PosIn (cl h f p))
include hp hq
theorem cl123 : N80 (cl h f p) = N80 p := by
  unfold N80
  rw [cl15 hp hq, show (cl h f p).turn = p.turn from rfl, cl21]
  rfl
omit hp hq in
theorem cl27 (h f : Int) (p : Pos) : N137 (cl h f p) = N137 p := by kernel_rfl
omit hp hq in
theorem cl124 (h f : Int) (p : Pos) : N81 (cl h f p) = N81 p := by
  unfold N81
  rw [show (Pos.mk p.variant p.board p.promoted p.pockets p.turn p.rooks p.passing p.checks p.half p.full) = p from rfl]
  show (bif N137 (cl h f p) then _ else _ : Int × Int) = _
  rw [cl27]
theorem N14_cl : N14 (cl h f p) = N14 p ∨ ((N14 p = (3, 4) ∨ N14 p = (0, 0)) ∧ ((N14 (cl h f p) = (3, 4) ∧ 150 ≤ h) ∨ N14 (cl h f p) = (0, 0))) := by
  by_cases ht : there p
  · have e1 := N14_there ht
    have e2 := N14_there (p := cl h f p) ht
    rw [cl23 hp hq, cl123 hp hq, cl124] at e2
    rw [e1, e2]
    cases h1 : (N30 p).1 != 0
    · cases h2 : (N80 p).1 != 0
      · cases h3 : (N81 p).1 != 0
        · right
          simp only [cond_false]
          have b1 : (bif (N82 p).1 != 0 then N82 p else (0, 0)) = N82 p := by rcases N82_is p with ⟨e, _⟩ | ⟨e, _⟩ <;> rw [e] <;> rfl
          have b2 : (bif (N82 (cl h f p)).1 != 0 then N82 (cl h f p) else (0, 0)) = N82 (cl h f p) := by rcases N82_is (cl h f p) with ⟨e, _⟩ | ⟨e, _⟩ <;> rw [e] <;> rfl
          rw [b1, b2]
          refine ⟨?_, ?_⟩
          · rcases N82_is p with ⟨e, _⟩ | ⟨e, _⟩
            · exact .inl e
            · exact .inr e
          · rcases N82_is (cl h f p) with ⟨e, k⟩ | ⟨e, _⟩
            · exact .inl ⟨e, k⟩
            · exact .inr e
        · left; rfl
      · left; rfl
    · left; rfl
  · left
    rw [N14_not ht, N14_not (p := cl h f p) ht]
end
def U8 (r : Int × Int) : Prop := (0 ≤ r.1 ∧ r.1 ≤ 255) ∧ (0 ≤ r.2 ∧ r.2 ≤ 255)
theorem N14_u8 {p : Pos} (hp : PosIn p) : U8 (N14 p) := by
  have z : U8 (0, 0) := by unfold U8; simp
  by_cases ht : there p
  · rw [N14_there ht]
    have t0 := hp.t0
    have t1 := ht.1
    refine c_ind (P := U8) (fun _ => ?_) fun _ => c_ind (P := U8) (fun h => ?_) fun _ => c_ind (P := U8) (fun _ => ?_) fun _ => c_ind (P := U8) (fun _ => ?_) fun _ => z
    · rcases (N30_win hp).1 with w | ⟨w1, w2⟩ | w
      · rw [w]; exact z
      · unfold U8; omega
      · rw [w]; unfold U8; simp
    · have h0 : (N80 p).1 ≠ 0 := by simpa using h
      obtain ⟨_, e | ⟨e, _⟩ | ⟨e, _⟩⟩ := N80_is ht hp h0
      · rw [e]; unfold U8; simp; omega
      · rw [e]; unfold U8; simp; omega
      · rw [e]; unfold U8; simp
    · rcases N81_is p with e | e
      · rw [e]; unfold U8; simp
      · rw [e]; exact z
    · rcases N82_is p with ⟨e, _⟩ | ⟨e, _⟩
      · rw [e]; unfold U8; simp
      · rw [e]; exact z
  · rw [N14_not ht]; exact z
end Kz
end
section
namespace Kz
open Go Go.RowKit Go.Proofs
set_option maxRecDepth 100000
set_option maxHeartbeats 4000000
noncomputable def K16 : List (Nat × List (Nat × List Nat)) := [(16, [(0, (0 :: (rn 2 5 []))), (1, (0 :: 1 :: (rn 3 4 [])))])]
noncomputable def B16 : Base := baseOf Pz (fun f i => lkK f i K16) [(14, G14)] [] []
theorem hB16 : BOk B16 := base_ok named_z ⟨s14, trivial⟩ trivial trivial
noncomputable def N16 (a : Pos) : Bool := ((N14 a).fst != 0)
noncomputable def ok16 (a : Pos) : Bool := (ok14 (a) && true)
theorem E16 (a : Pos) : evPure B16 14 16 [Pos.av a] = Tr.br (isPS Pz 14 [a.av] ((dR .u8 .u8).res (N14 a))) (Tr.ret (AV.bool ((N14 a).fst != 0))) Tr.fail := by kernel_rfl
theorem P16 (a : Pos) (h : ok16 a = true) : PS Pz 16 [Pos.av a] (dB.res (N16 a)) := ps_gotR hB16 (E16 a) (gr_call (P14 (a)) (gr_ret rfl)) h
noncomputable def G16 : List AV → Tr AV := g1 dPos (fun a => sure Pz 16 [Pos.av a] (dB.res (N16 a)))
theorem s16 : Sound Pz 16 G16 := sound1 (fun _ => at_sure)
end Kz
end
section
namespace Kz
open Go Go.RowKit Go.Proofs
set_option maxRecDepth 100000
set_option maxHeartbeats 4000000
noncomputable def K108 : List (Nat × List (Nat × List Nat)) := [(108, [(0, (1 :: (rn 3 5 []))), (1, (0 :: 1 :: (rn 3 5 [])))])]
noncomputable def B108 : Base := baseOf Pz (fun f i => lkK f i K108) [] [] []
theorem hB108 : BOk B108 := base_ok named_z trivial trivial trivial
noncomputable def N108 (a : Int) : Pos := ⟨(a), (List.replicate 64 0), (0), (List.replicate 12 0), (0), (List.take 2 (List.take 0 (List.replicate 4 0) ++ ((List.replicate 2 0).set 0 (-1)).set 1 (-1) ++ List.drop 2 (List.replicate 4 0)) ++ ((List.replicate 2 0).set 0 (-1)).set 1 (-1) ++ List.drop 4 (List.take 0 (List.replicate 4 0) ++ ((List.replicate 2 0).set 0 (-1)).set 1 (-1) ++ List.drop 2 (List.replicate 4 0))), (-1), (List.replicate 2 0), (0), (1)⟩
noncomputable def ok108 (a : Int) : Bool := true
theorem E108 (a : Int) : evPure B108 14 108 [.int .u8 a] = Tr.ret (AV.agg [AV.int .u8 a, AV.ints .u8 64 (List.replicate 64 0), AV.u64 0, AV.ints .u8 12 (List.replicate 12 0), AV.cint .u8 0, AV.ints .i8 4 (List.take 2 (List.take 0 (List.replicate 4 0) ++ ((List.replicate 2 0).set 0 (-1)).set 1 (-1) ++ List.drop 2 (List.replicate 4 0)) ++ ((List.replicate 2 0).set 0 (-1)).set 1 (-1) ++ List.drop 4 (List.take 0 (List.replicate 4 0) ++ ((List.replicate 2 0).set 0 (-1)).set 1 (-1) ++ List.drop 2 (List.replicate 4 0))), AV.cint .i8 (-1), AV.ints .u8 2 (List.replicate 2 0), AV.cint .i64 0, AV.cint .i64 1]) := by kernel_rfl
theorem P108 (a : Int) (h : ok108 a = true) : PS Pz 108 [.int .u8 a] (dPos.res (N108 a)) := ps_gotR hB108 (E108 a) (gr_ret rfl) h
noncomputable def G108 : List AV → Tr AV := g1 (dI .u8) (fun a => sure Pz 108 [.int .u8 a] (dPos.res (N108 a)))
theorem s108 : Sound Pz 108 G108 := sound1 (fun _ => at_sure)
end Kz
end
section
namespace Kz
open Go Go.RowKit Go.Proofs
set_option maxRecDepth 100000
set_option maxHeartbeats 4000000
noncomputable def K109 : List (Nat × List (Nat × List Nat)) := [(109, [(0, [1, 2, 3, 4]), (1, [0, 1, 3, 4])])]
noncomputable def B109 : Base := baseOf Pz (fun f i => lkK f i K109) [] [] []
theorem hB109 : BOk B109 := base_ok named_z trivial trivial trivial
noncomputable def N109 (a : Int) : Int := (wr .u8 (8 + a))
noncomputable def ok109 (a : Int) : Bool := true
theorem E109 (a : Int) : evPure B109 14 109 [.int .u8 a] = Tr.ret (AV.int .u8 (wr .u8 (8 + a))) := by kernel_rfl
theorem P109 (a : Int) (h : ok109 a = true) : PS Pz 109 [.int .u8 a] ((dI .u8).res (N109 a)) := ps_gotR hB109 (E109 a) (gr_ret rfl) h
noncomputable def G109 : List AV → Tr AV := g1 (dI .u8) (fun a => sure Pz 109 [.int .u8 a] ((dI .u8).res (N109 a)))
theorem s109 : Sound Pz 109 G109 := sound1 (fun _ => at_sure)
end Kz
end
section
namespace Kz
open Go Go.RowKit Go.Proofs
set_option maxRecDepth 100000
set_option maxHeartbeats 4000000
noncomputable def K51 : List (Nat × List (Nat × List Nat)) := [(51, [(0, (1 :: 2 :: (rn 5 33 (rn 40 20 [])))), (1, (1 :: 2 :: (rn 6 32 (rn 40 20 [])))), (2, (1 :: 2 :: 3 :: (rn 6 5 (rn 13 25 (rn 40 20 []))))), (3, (1 :: 2 :: 3 :: (rn 6 5 (rn 14 24 (rn 40 20 []))))), (4, (1 :: 2 :: 3 :: 8 :: 9 :: 10 :: (rn 13 25 (rn 40 20 [])))), (5, (1 :: 2 :: 3 :: 8 :: 9 :: 10 :: (rn 13 25 (rn 40 20 [])))), (6, (1 :: 2 :: 3 :: 8 :: 9 :: 10 :: (rn 13 25 (rn 40 20 [])))), (7, (1 :: 2 :: 3 :: (rn 7 4 (rn 13 25 (rn 41 19 []))))), (8, (1 :: 2 :: 3 :: 7 :: 9 :: 10 :: (rn 13 25 (rn 40 20 [])))), (9, (1 :: 2 :: 3 :: 7 :: 9 :: 10 :: (rn 13 25 (rn 40 5 (rn 46 14 []))))), (10, (1 :: 2 :: 3 :: 7 :: 9 :: 10 :: (rn 13 25 (rn 40 20 [])))), (11, (1 :: 2 :: 3 :: (rn 6 5 (rn 13 25 (rn 40 20 []))))), (12, (1 :: 2 :: 3 :: (rn 6 5 (rn 13 25 (rn 40 20 []))))), (13, (rn 0 4 (rn 5 55 [])))])]
noncomputable def B51_1 : Base := baseOf Pz (fun f i => lkK f i K51) [(110, G110), (108, G108), (109, G109)] [] []
theorem hB51_1 : BOk B51_1 := base_ok named_z ⟨s110, s108, s109, trivial⟩ trivial trivial
noncomputable def S51_1 (p1 : Int) (p2 : (List Int)) (x : (Int × Pos)) : St := St.mk (AV.int .u8 p1 :: (an 3 (AV.ptr 1 0 :: AV.ptr 2 0 :: (an 5 (AV.agg [AV.ints .u8 8 p2] :: AV.int .i64 x.fst :: (an 47 [])))))) (Hp.mk [[AV.ints .u8 8 p2], [AV.int .u8 0, AV.ints .u8 64 (List.replicate 64 0), AV.u64 0, AV.ints .u8 12 (List.replicate 12 0), AV.int .u8 0, AV.ints .i8 4 (List.replicate 4 0), AV.int .i8 0, AV.ints .u8 2 (List.replicate 2 0), AV.int .i64 0, AV.int .i64 0], (pc x.snd [])] [] [] 0 0 0)
noncomputable def O51_1 (p1 : Int) (p2 : (List Int)) : (Int × Bool × Pos) → Out := fun y => .exit 0 (St.mk (AV.int .u8 p1 :: (an 3 (AV.ptr 1 0 :: AV.ptr 2 0 :: (an 5 (AV.agg [AV.ints .u8 8 p2] :: AV.int .i64 y.fst :: AV.bool y.snd.fst :: (an 46 [])))))) (Hp.mk [[AV.ints .u8 8 p2], [AV.int .u8 0, AV.ints .u8 64 (List.replicate 64 0), AV.u64 0, AV.ints .u8 12 (List.replicate 12 0), AV.int .u8 0, AV.ints .i8 4 (List.replicate 4 0), AV.int .i8 0, AV.ints .u8 2 (List.replicate 2 0), AV.int .i64 0, AV.int .i64 0], (pc y.snd.snd [])] [] [] 0 0 0))
noncomputable def st51_1 (p1 : Int) (p2 : (List Int)) (x : (Int × Pos)) : Stp (Int × Pos) ((Int × Bool × Pos)) := (bif decide (x.fst < 8) then (bif N110 p1 then (bif p2.getD x.fst.toNat 0 == 4 then (bif decide (x.snd.rooks.getD 1 0 < 0) then (Stp.go (wr .i64 (x.fst + 1), Pos.mk x.snd.variant ((((x.snd.board.set (scale 1 x.fst).toNat (p2.getD x.fst.toNat 0)).set (scale 1 (wr .i64 (8 + x.fst))).toNat 1).set (scale 1 (wr .i64 (56 + x.fst))).toNat (N109 (p2.getD x.fst.toNat 0))).set (scale 1 (wr .i64 (48 + x.fst))).toNat (N109 1)) x.snd.promoted x.snd.pockets x.snd.turn ((x.snd.rooks.set 1 (wr .i8 x.fst)).set 3 (wr .i8 x.fst)) x.snd.passing x.snd.checks x.snd.half x.snd.full)) else (Stp.go (wr .i64 (x.fst + 1), Pos.mk x.snd.variant ((((x.snd.board.set (scale 1 x.fst).toNat (p2.getD x.fst.toNat 0)).set (scale 1 (wr .i64 (8 + x.fst))).toNat 1).set (scale 1 (wr .i64 (56 + x.fst))).toNat (N109 (p2.getD x.fst.toNat 0))).set (scale 1 (wr .i64 (48 + x.fst))).toNat (N109 1)) x.snd.promoted x.snd.pockets x.snd.turn ((x.snd.rooks.set 0 (wr .i8 x.fst)).set 2 (wr .i8 x.fst)) x.snd.passing x.snd.checks x.snd.half x.snd.full))) else (Stp.go (wr .i64 (x.fst + 1), Pos.mk x.snd.variant ((((x.snd.board.set (scale 1 x.fst).toNat (p2.getD x.fst.toNat 0)).set (scale 1 (wr .i64 (8 + x.fst))).toNat 1).set (scale 1 (wr .i64 (56 + x.fst))).toNat (N109 (p2.getD x.fst.toNat 0))).set (scale 1 (wr .i64 (48 + x.fst))).toNat (N109 1)) x.snd.promoted x.snd.pockets x.snd.turn x.snd.rooks x.snd.passing x.snd.checks x.snd.half x.snd.full))) else (Stp.go (wr .i64 (x.fst + 1), Pos.mk x.snd.variant ((((x.snd.board.set (scale 1 x.fst).toNat (p2.getD x.fst.toNat 0)).set (scale 1 (wr .i64 (8 + x.fst))).toNat 1).set (scale 1 (wr .i64 (56 + x.fst))).toNat (N109 (p2.getD x.fst.toNat 0))).set (scale 1 (wr .i64 (48 + x.fst))).toNat (N109 1)) x.snd.promoted x.snd.pockets x.snd.turn x.snd.rooks x.snd.passing x.snd.checks x.snd.half x.snd.full))) else (Stp.out ((x.fst, decide (x.fst < 8), x.snd))))
noncomputable def okL51_1 (p1 : Int) (p2 : (List Int)) (x : (Int × Pos)) : Bool := (bif decide (x.fst < 8) then (decide (0 ≤ x.fst) && decide (x.fst < Int.ofNat 8) && (decide (0 ≤ x.fst) && decide (x.fst < Int.ofNat 64) && (decide (0 ≤ wr .i64 (8 + x.fst)) && decide (wr .i64 (8 + x.fst) < Int.ofNat 64) && (decide (0 ≤ wr .i64 (56 + x.fst)) && decide (wr .i64 (56 + x.fst) < Int.ofNat 64) && (decide (0 ≤ wr .i64 (48 + x.fst)) && decide (wr .i64 (48 + x.fst) < Int.ofNat 64) && (ok110 (p1) && true)))))) else true)
noncomputable def lp51_1 (p1 : Int) (p2 : (List Int)) (x : (Int × Pos)) : Option ((Int × Bool × Pos)) := itl (fun x => bif okL51_1 p1 p2 x then st51_1 p1 p2 x else .bad) many x
theorem E51_1 (p1 : Int) (p2 : (List Int)) (x : (Int × Pos)) : evC (envAt B51_1 12) (evL B51_1 12) 51 (bodL Pz 51 3) (S51_1 p1 p2 x) = (let z1 := [AV.int .u8 0, AV.ints .u8 64 (List.replicate 64 0), AV.u64 0, AV.ints .u8 12 (List.replicate 12 0), AV.int .u8 0, AV.ints .i8 4 (List.replicate 4 0), AV.int .i8 0, AV.ints .u8 2 (List.replicate 2 0), AV.int .i64 0, AV.int .i64 0]; let z2 := ((((x.snd.board.set (scale 1 x.fst).toNat (p2.getD x.fst.toNat 0)).set (scale 1 (wr .i64 (8 + x.fst))).toNat 1).set (scale 1 (wr .i64 (56 + x.fst))).toNat (N109 (p2.getD x.fst.toNat 0))).set (scale 1 (wr .i64 (48 + x.fst))).toNat (N109 1)); let z5 := [AV.ints .u8 8 p2]; let z3 := (AV.int .u8 p1 :: (an 3 (AV.ptr 1 0 :: AV.ptr 2 0 :: (an 5 (AV.agg z5 :: AV.int .i64 (wr .i64 (x.fst + 1)) :: (an 25 (AV.int .u8 (p2.getD x.fst.toNat 0) :: AV.bool (p2.getD x.fst.toNat 0 == 4) :: (an 20 [])))))))); let z4 := (Hp.mk [z5, z1, [AV.int .u8 x.snd.variant, AV.ints .u8 64 z2, AV.u64 x.snd.promoted, AV.ints .u8 12 x.snd.pockets, AV.int .u8 x.snd.turn, AV.ints .i8 4 x.snd.rooks, AV.int .i8 x.snd.passing, AV.ints .u8 2 x.snd.checks, AV.int .i64 x.snd.half, AV.int .i64 x.snd.full]] [] [] 0 0 0); Tr.br (decide (x.fst < 8)) (Tr.br (decide (0 ≤ x.fst) && decide (x.fst < Int.ofNat 8)) (Tr.br (decide (0 ≤ x.fst) && decide (x.fst < Int.ofNat 64)) (Tr.br (decide (0 ≤ wr .i64 (8 + x.fst)) && decide (wr .i64 (8 + x.fst) < Int.ofNat 64)) (Tr.br (isPS Pz 109 [AV.int .u8 (p2.getD x.fst.toNat 0)] ((dI .u8).res (N109 (p2.getD x.fst.toNat 0)))) (Tr.br (isPS Pz 109 [AV.int .u8 1] ((dI .u8).res (N109 1))) (Tr.br (decide (0 ≤ wr .i64 (56 + x.fst)) && decide (wr .i64 (56 + x.fst) < Int.ofNat 64)) (Tr.br (decide (0 ≤ wr .i64 (48 + x.fst)) && decide (wr .i64 (48 + x.fst) < Int.ofNat 64)) (Tr.br (isPS Pz 110 [AV.int .u8 p1] (dB.res (N110 p1))) (Tr.br (N110 p1) (Tr.br (p2.getD x.fst.toNat 0 == 4) (Tr.br (decide (x.snd.rooks.getD 1 0 < 0)) (Tr.ret (Out.norm (St.mk z3 (Hp.mk [z5, z1, [AV.int .u8 x.snd.variant, AV.ints .u8 64 z2, AV.u64 x.snd.promoted, AV.ints .u8 12 x.snd.pockets, AV.int .u8 x.snd.turn, AV.ints .i8 4 ((x.snd.rooks.set 1 (wr .i8 x.fst)).set 3 (wr .i8 x.fst)), AV.int .i8 x.snd.passing, AV.ints .u8 2 x.snd.checks, AV.int .i64 x.snd.half, AV.int .i64 x.snd.full]] [] [] 0 0 0)))) (Tr.ret (Out.norm (St.mk z3 (Hp.mk [z5, z1, [AV.int .u8 x.snd.variant, AV.ints .u8 64 z2, AV.u64 x.snd.promoted, AV.ints .u8 12 x.snd.pockets, AV.int .u8 x.snd.turn, AV.ints .i8 4 ((x.snd.rooks.set 0 (wr .i8 x.fst)).set 2 (wr .i8 x.fst)), AV.int .i8 x.snd.passing, AV.ints .u8 2 x.snd.checks, AV.int .i64 x.snd.half, AV.int .i64 x.snd.full]] [] [] 0 0 0))))) (Tr.ret (Out.norm (St.mk z3 z4)))) (Tr.ret (Out.norm (St.mk (AV.int .u8 p1 :: (an 3 (AV.ptr 1 0 :: AV.ptr 2 0 :: (an 5 (AV.agg z5 :: AV.int .i64 (wr .i64 (x.fst + 1)) :: (an 25 (AV.undef :: AV.undef :: (an 20 [])))))))) z4)))) Tr.fail) Tr.fail) Tr.fail) Tr.fail) Tr.fail) Tr.fail) Tr.fail) Tr.fail) (Tr.ret (Out.exit 0 (St.mk (AV.int .u8 p1 :: (an 3 (AV.ptr 1 0 :: AV.ptr 2 0 :: (an 5 (AV.agg z5 :: AV.int .i64 x.fst :: AV.bool (decide (x.fst < 8)) :: (an 46 [])))))) (Hp.mk [z5, z1, (pc x.snd [])] [] [] 0 0 0))))) := by kernel_rfl
theorem L51_1 (p1 : Int) (p2 : (List Int)) (x : (Int × Pos)) (r : (Int × Bool × Pos)) (h : lp51_1 p1 p2 x = some r) : LSpec Pz (bodL Pz 51 3) (S51_1 p1 p2 x) (O51_1 p1 p2 r) := LSpec.itl (S := S51_1 p1 p2) (O := O51_1 p1 p2) (ok := okL51_1 p1 p2) (st := st51_1 p1 p2) hB51_1 (fun x => gr_eq (E51_1 p1 p2 x) (gr_br (gr_guard (gr_guard (gr_guard (gr_callT (P109 (p2.getD x.fst.toNat 0) rfl) (gr_callT (P109 (1) rfl) (gr_guard (gr_guard (gr_call (P110 (p1)) (gr_br2 (gr_br2 (gr_br2 (gr_ret (rl_go (wk_nrm (ks := (1 :: 2 :: 3 :: (rn 6 5 (rn 13 47 [])))) (gs := [0, 11, 12]) (b := true) rfl (by kernel_rfl)))) (gr_ret (rl_go (wk_nrm (ks := (1 :: 2 :: 3 :: (rn 6 5 (rn 13 47 [])))) (gs := [0, 11, 12]) (b := true) rfl (by kernel_rfl))))) (gr_ret (rl_go (wk_nrm (ks := (1 :: 2 :: 3 :: (rn 6 5 (rn 13 47 [])))) (gs := [0, 11, 12]) (b := true) rfl (by kernel_rfl))))) (gr_ret (rl_go (wk_nrm (ks := (1 :: 2 :: 3 :: (rn 6 5 (rn 13 47 [])))) (gs := [0, 11, 12]) (b := true) rfl (by kernel_rfl))))))))))))) (gr_ret (rl_exit rfl (wk_nrm (ks := (1 :: 2 :: 3 :: (rn 6 5 (rn 14 46 [])))) (gs := [0, 11, 12, 13]) (b := true) rfl (by kernel_rfl)))))) many x r h
noncomputable def F51_1 : Code → St → Tr Out := sureL Pz (fun s => O51_1 (tI (tT s 0)) (tN (tX (tA (tT s 11)) 0)) ((lp51_1 (tI (tT s 0)) (tN (tX (tA (tT s 11)) 0)) ((tI (tT s 12)), (Kz.Pos.mk (tI (tH s 2 0)) (tN (tH s 2 1)) (tU (tH s 2 2)) (tN (tH s 2 3)) (tI (tH s 2 4)) (tN (tH s 2 5)) (tI (tH s 2 6)) (tN (tH s 2 7)) (tI (tH s 2 8)) (tI (tH s 2 9))))).getD default))
theorem sF51_1 : ∀ b, LSound Pz b (F51_1 b) := sureL_sound
noncomputable def B51 : Base := baseOf Pz (fun f i => lkK f i K51) [(110, G110), (108, G108), (109, G109)] [(51, 3, F51_1)] []
theorem hB51 : BOk B51 := base_ok named_z ⟨s110, s108, s109, trivial⟩ ⟨sF51_1, trivial⟩ trivial
noncomputable def N51 (a : Int) (b : List Int) : Pos := ⟨(((lp51_1 a b (0, N108 a)).getD default).snd.snd.variant), (((lp51_1 a b (0, N108 a)).getD default).snd.snd.board), (((lp51_1 a b (0, N108 a)).getD default).snd.snd.promoted), (((lp51_1 a b (0, N108 a)).getD default).snd.snd.pockets), (((lp51_1 a b (0, N108 a)).getD default).snd.snd.turn), (((lp51_1 a b (0, N108 a)).getD default).snd.snd.rooks), (((lp51_1 a b (0, N108 a)).getD default).snd.snd.passing), (((lp51_1 a b (0, N108 a)).getD default).snd.snd.checks), (((lp51_1 a b (0, N108 a)).getD default).snd.snd.half), (((lp51_1 a b (0, N108 a)).getD default).snd.snd.full)⟩
noncomputable def ok51 (a : Int) (b : List Int) : Bool := ((lp51_1 a b (0, N108 a)).isSome && true)
theorem E51 (a : Int) (b : List Int) : evPure B51 14 51 [.int .u8 a, .agg [.ints .u8 8 b]] = Tr.br (isPS Pz 108 [AV.int .u8 a] (dPos.res (N108 a))) (Tr.br (isLS Pz (bodL Pz 51 3) (St.mk (AV.int .u8 a :: (an 3 (AV.ptr 1 0 :: AV.ptr 2 0 :: (an 5 (AV.agg [AV.ints .u8 8 b] :: AV.cint .i64 0 :: (an 25 (AV.undef :: AV.undef :: (an 20 [])))))))) (Hp.mk [[AV.ints .u8 8 b], [AV.cint .u8 0, AV.ints .u8 64 (List.replicate 64 0), AV.u64 0, AV.ints .u8 12 (List.replicate 12 0), AV.cint .u8 0, AV.ints .i8 4 (List.replicate 4 0), AV.cint .i8 0, AV.ints .u8 2 (List.replicate 2 0), AV.cint .i64 0, AV.cint .i64 0], (pc (N108 a) [])] [] [] 0 0 0)) (O51_1 a b ((lp51_1 a b (0, N108 a)).getD default))) (Tr.ret (AV.agg (pc ((lp51_1 a b (0, N108 a)).getD default).snd.snd []))) Tr.fail) Tr.fail := by kernel_rfl
theorem P51 (a : Int) (b : List Int) (h : ok51 a b = true) : PS Pz 51 [.int .u8 a, .agg [.ints .u8 8 b]] (dPos.res (N51 a b)) := ps_gotR hB51 (E51 a b) (gr_callT (P108 (a) rfl) (gr_loop (fun h => L51_1 (a) (b) ((0, N108 a)) _ (some_getD h)) (wk_nrm (ks := (1 :: 2 :: 3 :: (rn 6 5 (rn 13 47 [])))) (gs := [0, 11, 12]) (b := true) rfl (by kernel_rfl)) (gr_ret rfl))) h
noncomputable def G51 : List AV → Tr AV := g2 (dI .u8) (dArr .u8 8) (fun a b => sure Pz 51 [.int .u8 a, .agg [.ints .u8 8 b]] (dPos.res (N51 a b)))
theorem s51 : Sound Pz 51 G51 := sound2 (fun _ _ => at_sure)
end Kz
end
section
namespace Kz
open Go Go.RowKit Go.Proofs
set_option maxRecDepth 100000
set_option maxHeartbeats 4000000
noncomputable def K52 : List (Nat × List (Nat × List Nat)) := [(52, [(0, [1]), (1, [1])])]
noncomputable def B52 : Base := baseOf Pz (fun f i => lkK f i K52) [] [] []
theorem hB52 : BOk B52 := base_ok named_z trivial trivial trivial
noncomputable def N52  : List Int := (if 8 = 8 then ((((((((List.replicate 8 0).set 0 4).set 1 2).set 2 3).set 3 5).set 4 6).set 5 3).set 6 2).set 7 4 else List.take 0 (List.replicate 8 0) ++ ((((((((List.replicate 8 0).set 0 4).set 1 2).set 2 3).set 3 5).set 4 6).set 5 3).set 6 2).set 7 4 ++ List.drop 8 (List.replicate 8 0))
noncomputable def ok52  : Bool := true
theorem E52  : evPure B52 14 52 [] = Tr.ret (AV.agg [AV.ints .u8 8 (if 8 = 8 then ((((((((List.replicate 8 0).set 0 4).set 1 2).set 2 3).set 3 5).set 4 6).set 5 3).set 6 2).set 7 4 else List.take 0 (List.replicate 8 0) ++ ((((((((List.replicate 8 0).set 0 4).set 1 2).set 2 3).set 3 5).set 4 6).set 5 3).set 6 2).set 7 4 ++ List.drop 8 (List.replicate 8 0))]) := by kernel_rfl
theorem P52  (h : ok52  = true) : PS Pz 52 [] ((dArr .u8 8).res (N52 )) := ps_gotR hB52 (E52 ) (gr_ret rfl) h
noncomputable def G52 : List AV → Tr AV := g0  (sure Pz 52 [] ((dArr .u8 8).res (N52 )))
theorem s52 : Sound Pz 52 G52 := sound0 (at_sure)
end Kz
end
section
namespace Kz
open Go Go.RowKit Go.Proofs
set_option maxRecDepth 100000
set_option maxHeartbeats 4000000
noncomputable def K49 : List (Nat × List (Nat × List Nat)) := [(49, [(0, (rn 1 27 [])), (1, (rn 2 26 [])), (2, (rn 2 26 [])), (3, (rn 2 8 (rn 11 17 []))), (4, (rn 2 8 (rn 12 16 []))), (5, (rn 3 7 (rn 11 17 []))), (6, (rn 2 8 (rn 11 17 []))), (7, (rn 2 8 (rn 11 17 []))), (8, (rn 2 15 (rn 20 8 []))), (9, (rn 2 15 (rn 21 7 []))), (10, (2 :: 3 :: (rn 5 12 (rn 20 8 [])))), (11, (rn 2 15 (rn 20 8 []))), (12, (rn 2 15 (rn 20 8 []))), (13, (rn 1 27 []))])]
noncomputable def B49_1 : Base := baseOf Pz (fun f i => lkK f i K49) [(51, G51), (52, G52)] [] []
theorem hB49_1 : BOk B49_1 := base_ok named_z ⟨s51, s52, trivial⟩ trivial trivial
noncomputable def S49_1  (x : (Int × Pos)) : St := St.mk (AV.ptr 0 0 :: AV.ptr 1 0 :: (an 8 (AV.int .i64 x.fst :: (an 17 [])))) (Hp.mk [[AV.int .u8 0, AV.ints .u8 64 (List.replicate 64 0), AV.u64 0, AV.ints .u8 12 (List.replicate 12 0), AV.int .u8 0, AV.ints .i8 4 (List.replicate 4 0), AV.int .i8 0, AV.ints .u8 2 (List.replicate 2 0), AV.int .i64 0, AV.int .i64 0], (pc x.snd [])] [] [] 0 0 0)
noncomputable def O49_1  : (Int × Bool × Pos) → Out := fun y => .exit 0 (St.mk (AV.ptr 0 0 :: AV.ptr 1 0 :: (an 8 (AV.int .i64 y.fst :: AV.bool y.snd.fst :: (an 16 [])))) (Hp.mk [[AV.int .u8 0, AV.ints .u8 64 (List.replicate 64 0), AV.u64 0, AV.ints .u8 12 (List.replicate 12 0), AV.int .u8 0, AV.ints .i8 4 (List.replicate 4 0), AV.int .i8 0, AV.ints .u8 2 (List.replicate 2 0), AV.int .i64 0, AV.int .i64 0], (pc y.snd.snd [])] [] [] 0 0 0))
noncomputable def st49_1  (x : (Int × Pos)) : Stp (Int × Pos) ((Int × Bool × Pos)) := (bif decide (x.fst < 32) then (Stp.go (wr .i64 (x.fst + 1), Pos.mk x.snd.variant (x.snd.board.set (scale 1 x.fst).toNat 1) x.snd.promoted x.snd.pockets x.snd.turn x.snd.rooks x.snd.passing x.snd.checks x.snd.half x.snd.full)) else (Stp.out ((x.fst, decide (x.fst < 32), x.snd))))
noncomputable def okL49_1  (x : (Int × Pos)) : Bool := (bif decide (x.fst < 32) then (decide (0 ≤ x.fst) && decide (x.fst < Int.ofNat 64) && true) else true)
noncomputable def lp49_1  (x : (Int × Pos)) : Option ((Int × Bool × Pos)) := itl (fun x => bif okL49_1  x then st49_1  x else .bad) many x
theorem E49_1  (x : (Int × Pos)) : evC (envAt B49_1 12) (evL B49_1 12) 49 (bodL Pz 49 4) (S49_1  x) = Tr.br (decide (x.fst < 32)) (Tr.br (decide (0 ≤ x.fst) && decide (x.fst < Int.ofNat 64)) (Tr.ret (Out.norm (St.mk (AV.ptr 0 0 :: AV.ptr 1 0 :: (an 8 (AV.int .i64 (wr .i64 (x.fst + 1)) :: (an 17 [])))) (Hp.mk [[AV.int .u8 0, AV.ints .u8 64 (List.replicate 64 0), AV.u64 0, AV.ints .u8 12 (List.replicate 12 0), AV.int .u8 0, AV.ints .i8 4 (List.replicate 4 0), AV.int .i8 0, AV.ints .u8 2 (List.replicate 2 0), AV.int .i64 0, AV.int .i64 0], [AV.int .u8 x.snd.variant, AV.ints .u8 64 (x.snd.board.set (scale 1 x.fst).toNat 1), AV.u64 x.snd.promoted, AV.ints .u8 12 x.snd.pockets, AV.int .u8 x.snd.turn, AV.ints .i8 4 x.snd.rooks, AV.int .i8 x.snd.passing, AV.ints .u8 2 x.snd.checks, AV.int .i64 x.snd.half, AV.int .i64 x.snd.full]] [] [] 0 0 0)))) Tr.fail) (Tr.ret (Out.exit 0 (St.mk (AV.ptr 0 0 :: AV.ptr 1 0 :: (an 8 (AV.int .i64 x.fst :: AV.bool (decide (x.fst < 32)) :: (an 16 [])))) (Hp.mk [[AV.int .u8 0, AV.ints .u8 64 (List.replicate 64 0), AV.u64 0, AV.ints .u8 12 (List.replicate 12 0), AV.int .u8 0, AV.ints .i8 4 (List.replicate 4 0), AV.int .i8 0, AV.ints .u8 2 (List.replicate 2 0), AV.int .i64 0, AV.int .i64 0], (pc x.snd [])] [] [] 0 0 0)))) := by kernel_rfl
theorem L49_1  (x : (Int × Pos)) (r : (Int × Bool × Pos)) (h : lp49_1  x = some r) : LSpec Pz (bodL Pz 49 4) (S49_1  x) (O49_1  r) := LSpec.itl (S := S49_1 ) (O := O49_1 ) (ok := okL49_1 ) (st := st49_1 ) hB49_1 (fun x => gr_eq (E49_1  x) (gr_br (gr_guard (gr_ret (rl_go (wk_nrm (ks := (rn 2 8 (rn 11 17 []))) (gs := [10]) (b := true) rfl (by kernel_rfl))))) (gr_ret (rl_exit rfl (wk_nrm (ks := (rn 2 8 (rn 12 16 []))) (gs := [10, 11]) (b := true) rfl (by kernel_rfl)))))) many x r h
noncomputable def F49_1 : Code → St → Tr Out := sureL Pz (fun s => O49_1  ((lp49_1  ((tI (tT s 10)), (Kz.Pos.mk (tI (tH s 1 0)) (tN (tH s 1 1)) (tU (tH s 1 2)) (tN (tH s 1 3)) (tI (tH s 1 4)) (tN (tH s 1 5)) (tI (tH s 1 6)) (tN (tH s 1 7)) (tI (tH s 1 8)) (tI (tH s 1 9))))).getD default))
theorem sF49_1 : ∀ b, LSound Pz b (F49_1 b) := sureL_sound
noncomputable def B49_2 : Base := baseOf Pz (fun f i => lkK f i K49) [(51, G51), (52, G52)] [(49, 4, F49_1)] []
theorem hB49_2 : BOk B49_2 := base_ok named_z ⟨s51, s52, trivial⟩ ⟨sF49_1, trivial⟩ trivial
noncomputable def S49_2  (x : (Int × Pos)) : St := St.mk (AV.ptr 0 0 :: AV.ptr 1 0 :: (an 15 (AV.vlist true [AV.cint .i64 33, AV.cint .i64 34, AV.cint .i64 37, AV.cint .i64 38] :: AV.cint .i64 (Int.ofNat 4) :: AV.int .i64 x.fst :: (an 8 [])))) (Hp.mk [[AV.int .u8 0, AV.ints .u8 64 (List.replicate 64 0), AV.u64 0, AV.ints .u8 12 (List.replicate 12 0), AV.int .u8 0, AV.ints .i8 4 (List.replicate 4 0), AV.int .i8 0, AV.ints .u8 2 (List.replicate 2 0), AV.int .i64 0, AV.int .i64 0], (pc x.snd [])] [] [] 0 0 0)
noncomputable def O49_2  : (Int × Bool × Pos) → Out := fun y => .exit 2 (St.mk (AV.ptr 0 0 :: AV.ptr 1 0 :: (an 15 (AV.vlist true [AV.cint .i64 33, AV.cint .i64 34, AV.cint .i64 37, AV.cint .i64 38] :: AV.cint .i64 (Int.ofNat 4) :: AV.int .i64 y.fst :: AV.bool y.snd.fst :: (an 7 [])))) (Hp.mk [[AV.int .u8 0, AV.ints .u8 64 (List.replicate 64 0), AV.u64 0, AV.ints .u8 12 (List.replicate 12 0), AV.int .u8 0, AV.ints .i8 4 (List.replicate 4 0), AV.int .i8 0, AV.ints .u8 2 (List.replicate 2 0), AV.int .i64 0, AV.int .i64 0], (pc y.snd.snd [])] [] [] 0 0 0))
noncomputable def st49_2  (x : (Int × Pos)) : Stp (Int × Pos) ((Int × Bool × Pos)) := (bif decide (x.fst < Int.ofNat 4) then (bif x.fst == Int.ofNat 0 then (Stp.go (wr .i64 (x.fst + 1), Pos.mk x.snd.variant (x.snd.board.set 33 1) x.snd.promoted x.snd.pockets x.snd.turn x.snd.rooks x.snd.passing x.snd.checks x.snd.half x.snd.full)) else (bif x.fst == Int.ofNat 1 then (Stp.go (wr .i64 (x.fst + 1), Pos.mk x.snd.variant (x.snd.board.set 34 1) x.snd.promoted x.snd.pockets x.snd.turn x.snd.rooks x.snd.passing x.snd.checks x.snd.half x.snd.full)) else (bif x.fst == Int.ofNat 2 then (Stp.go (wr .i64 (x.fst + 1), Pos.mk x.snd.variant (x.snd.board.set 37 1) x.snd.promoted x.snd.pockets x.snd.turn x.snd.rooks x.snd.passing x.snd.checks x.snd.half x.snd.full)) else (Stp.go (wr .i64 (x.fst + 1), Pos.mk x.snd.variant (x.snd.board.set 38 1) x.snd.promoted x.snd.pockets x.snd.turn x.snd.rooks x.snd.passing x.snd.checks x.snd.half x.snd.full))))) else (Stp.out ((x.fst, decide (x.fst < Int.ofNat 4), x.snd))))
noncomputable def okL49_2  (x : (Int × Pos)) : Bool := (bif decide (x.fst < Int.ofNat 4) then (decide (0 ≤ x.fst) && decide (x.fst < Int.ofNat 4) && (bif x.fst == Int.ofNat 0 then true else (bif x.fst == Int.ofNat 1 then true else (bif x.fst == Int.ofNat 2 then true else (x.fst == Int.ofNat 3 && true))))) else true)
noncomputable def lp49_2  (x : (Int × Pos)) : Option ((Int × Bool × Pos)) := itl (fun x => bif okL49_2  x then st49_2  x else .bad) many x
theorem E49_2  (x : (Int × Pos)) : evC (envAt B49_2 12) (evL B49_2 12) 49 (bodL Pz 49 9) (S49_2  x) = (let z1 := [AV.int .u8 0, AV.ints .u8 64 (List.replicate 64 0), AV.u64 0, AV.ints .u8 12 (List.replicate 12 0), AV.int .u8 0, AV.ints .i8 4 (List.replicate 4 0), AV.int .i8 0, AV.ints .u8 2 (List.replicate 2 0), AV.int .i64 0, AV.int .i64 0]; let z2 := (AV.ptr 0 0 :: AV.ptr 1 0 :: (an 15 (AV.vlist true [AV.cint .i64 33, AV.cint .i64 34, AV.cint .i64 37, AV.cint .i64 38] :: AV.cint .i64 (Int.ofNat 4) :: AV.int .i64 (wr .i64 (x.fst + 1)) :: (an 8 [])))); Tr.br (decide (x.fst < Int.ofNat 4)) (Tr.br (decide (0 ≤ x.fst) && decide (x.fst < Int.ofNat 4)) (Tr.br (x.fst == Int.ofNat 0) (Tr.ret (Out.norm (St.mk z2 (Hp.mk [z1, [AV.int .u8 x.snd.variant, AV.ints .u8 64 (x.snd.board.set 33 1), AV.u64 x.snd.promoted, AV.ints .u8 12 x.snd.pockets, AV.int .u8 x.snd.turn, AV.ints .i8 4 x.snd.rooks, AV.int .i8 x.snd.passing, AV.ints .u8 2 x.snd.checks, AV.int .i64 x.snd.half, AV.int .i64 x.snd.full]] [] [] 0 0 0)))) (Tr.br (x.fst == Int.ofNat 1) (Tr.ret (Out.norm (St.mk z2 (Hp.mk [z1, [AV.int .u8 x.snd.variant, AV.ints .u8 64 (x.snd.board.set 34 1), AV.u64 x.snd.promoted, AV.ints .u8 12 x.snd.pockets, AV.int .u8 x.snd.turn, AV.ints .i8 4 x.snd.rooks, AV.int .i8 x.snd.passing, AV.ints .u8 2 x.snd.checks, AV.int .i64 x.snd.half, AV.int .i64 x.snd.full]] [] [] 0 0 0)))) (Tr.br (x.fst == Int.ofNat 2) (Tr.ret (Out.norm (St.mk z2 (Hp.mk [z1, [AV.int .u8 x.snd.variant, AV.ints .u8 64 (x.snd.board.set 37 1), AV.u64 x.snd.promoted, AV.ints .u8 12 x.snd.pockets, AV.int .u8 x.snd.turn, AV.ints .i8 4 x.snd.rooks, AV.int .i8 x.snd.passing, AV.ints .u8 2 x.snd.checks, AV.int .i64 x.snd.half, AV.int .i64 x.snd.full]] [] [] 0 0 0)))) (Tr.br (x.fst == Int.ofNat 3) (Tr.ret (Out.norm (St.mk z2 (Hp.mk [z1, [AV.int .u8 x.snd.variant, AV.ints .u8 64 (x.snd.board.set 38 1), AV.u64 x.snd.promoted, AV.ints .u8 12 x.snd.pockets, AV.int .u8 x.snd.turn, AV.ints .i8 4 x.snd.rooks, AV.int .i8 x.snd.passing, AV.ints .u8 2 x.snd.checks, AV.int .i64 x.snd.half, AV.int .i64 x.snd.full]] [] [] 0 0 0)))) Tr.fail)))) Tr.fail) (Tr.ret (Out.exit 2 (St.mk (AV.ptr 0 0 :: AV.ptr 1 0 :: (an 15 (AV.vlist true [AV.cint .i64 33, AV.cint .i64 34, AV.cint .i64 37, AV.cint .i64 38] :: AV.cint .i64 (Int.ofNat 4) :: AV.int .i64 x.fst :: AV.bool (decide (x.fst < Int.ofNat 4)) :: (an 7 [])))) (Hp.mk [z1, (pc x.snd [])] [] [] 0 0 0))))) := by kernel_rfl
theorem L49_2  (x : (Int × Pos)) (r : (Int × Bool × Pos)) (h : lp49_2  x = some r) : LSpec Pz (bodL Pz 49 9) (S49_2  x) (O49_2  r) := LSpec.itl (S := S49_2 ) (O := O49_2 ) (ok := okL49_2 ) (st := st49_2 ) hB49_2 (fun x => gr_eq (E49_2  x) (gr_br (gr_guard (gr_br (gr_ret (rl_go (wk_nrm (ks := (rn 2 15 (rn 20 8 []))) (gs := [19]) (b := true) rfl (by kernel_rfl)))) (gr_br (gr_ret (rl_go (wk_nrm (ks := (rn 2 15 (rn 20 8 []))) (gs := [19]) (b := true) rfl (by kernel_rfl)))) (gr_br (gr_ret (rl_go (wk_nrm (ks := (rn 2 15 (rn 20 8 []))) (gs := [19]) (b := true) rfl (by kernel_rfl)))) (gr_guard (gr_ret (rl_go (wk_nrm (ks := (rn 2 15 (rn 20 8 []))) (gs := [19]) (b := true) rfl (by kernel_rfl))))))))) (gr_ret (rl_exit rfl (wk_nrm (ks := (rn 2 15 (rn 21 7 []))) (gs := [19, 20]) (b := true) rfl (by kernel_rfl)))))) many x r h
noncomputable def F49_2 : Code → St → Tr Out := sureL Pz (fun s => O49_2  ((lp49_2  ((tI (tT s 19)), (Kz.Pos.mk (tI (tH s 1 0)) (tN (tH s 1 1)) (tU (tH s 1 2)) (tN (tH s 1 3)) (tI (tH s 1 4)) (tN (tH s 1 5)) (tI (tH s 1 6)) (tN (tH s 1 7)) (tI (tH s 1 8)) (tI (tH s 1 9))))).getD default))
theorem sF49_2 : ∀ b, LSound Pz b (F49_2 b) := sureL_sound
noncomputable def B49 : Base := baseOf Pz (fun f i => lkK f i K49) [(51, G51), (52, G52)] [(49, 4, F49_1), (49, 9, F49_2)] []
theorem hB49 : BOk B49 := base_ok named_z ⟨s51, s52, trivial⟩ ⟨sF49_1, sF49_2, trivial⟩ trivial
noncomputable def N49  : Pos := ⟨(((lp49_2 (0, ((lp49_1 (0, Pos.mk (N51 7 N52).variant (N51 7 N52).board (N51 7 N52).promoted (N51 7 N52).pockets (N51 7 N52).turn (List.take 0 (N51 7 N52).rooks ++ ((List.replicate 2 0).set 0 (-1)).set 1 (-1) ++ List.drop 2 (N51 7 N52).rooks) (N51 7 N52).passing (N51 7 N52).checks (N51 7 N52).half (N51 7 N52).full)).getD default).snd.snd)).getD default).snd.snd.variant), (((lp49_2 (0, ((lp49_1 (0, Pos.mk (N51 7 N52).variant (N51 7 N52).board (N51 7 N52).promoted (N51 7 N52).pockets (N51 7 N52).turn (List.take 0 (N51 7 N52).rooks ++ ((List.replicate 2 0).set 0 (-1)).set 1 (-1) ++ List.drop 2 (N51 7 N52).rooks) (N51 7 N52).passing (N51 7 N52).checks (N51 7 N52).half (N51 7 N52).full)).getD default).snd.snd)).getD default).snd.snd.board), (((lp49_2 (0, ((lp49_1 (0, Pos.mk (N51 7 N52).variant (N51 7 N52).board (N51 7 N52).promoted (N51 7 N52).pockets (N51 7 N52).turn (List.take 0 (N51 7 N52).rooks ++ ((List.replicate 2 0).set 0 (-1)).set 1 (-1) ++ List.drop 2 (N51 7 N52).rooks) (N51 7 N52).passing (N51 7 N52).checks (N51 7 N52).half (N51 7 N52).full)).getD default).snd.snd)).getD default).snd.snd.promoted), (((lp49_2 (0, ((lp49_1 (0, Pos.mk (N51 7 N52).variant (N51 7 N52).board (N51 7 N52).promoted (N51 7 N52).pockets (N51 7 N52).turn (List.take 0 (N51 7 N52).rooks ++ ((List.replicate 2 0).set 0 (-1)).set 1 (-1) ++ List.drop 2 (N51 7 N52).rooks) (N51 7 N52).passing (N51 7 N52).checks (N51 7 N52).half (N51 7 N52).full)).getD default).snd.snd)).getD default).snd.snd.pockets), (((lp49_2 (0, ((lp49_1 (0, Pos.mk (N51 7 N52).variant (N51 7 N52).board (N51 7 N52).promoted (N51 7 N52).pockets (N51 7 N52).turn (List.take 0 (N51 7 N52).rooks ++ ((List.replicate 2 0).set 0 (-1)).set 1 (-1) ++ List.drop 2 (N51 7 N52).rooks) (N51 7 N52).passing (N51 7 N52).checks (N51 7 N52).half (N51 7 N52).full)).getD default).snd.snd)).getD default).snd.snd.turn), (((lp49_2 (0, ((lp49_1 (0, Pos.mk (N51 7 N52).variant (N51 7 N52).board (N51 7 N52).promoted (N51 7 N52).pockets (N51 7 N52).turn (List.take 0 (N51 7 N52).rooks ++ ((List.replicate 2 0).set 0 (-1)).set 1 (-1) ++ List.drop 2 (N51 7 N52).rooks) (N51 7 N52).passing (N51 7 N52).checks (N51 7 N52).half (N51 7 N52).full)).getD default).snd.snd)).getD default).snd.snd.rooks), (((lp49_2 (0, ((lp49_1 (0, Pos.mk (N51 7 N52).variant (N51 7 N52).board (N51 7 N52).promoted (N51 7 N52).pockets (N51 7 N52).turn (List.take 0 (N51 7 N52).rooks ++ ((List.replicate 2 0).set 0 (-1)).set 1 (-1) ++ List.drop 2 (N51 7 N52).rooks) (N51 7 N52).passing (N51 7 N52).checks (N51 7 N52).half (N51 7 N52).full)).getD default).snd.snd)).getD default).snd.snd.passing), (((lp49_2 (0, ((lp49_1 (0, Pos.mk (N51 7 N52).variant (N51 7 N52).board (N51 7 N52).promoted (N51 7 N52).pockets (N51 7 N52).turn (List.take 0 (N51 7 N52).rooks ++ ((List.replicate 2 0).set 0 (-1)).set 1 (-1) ++ List.drop 2 (N51 7 N52).rooks) (N51 7 N52).passing (N51 7 N52).checks (N51 7 N52).half (N51 7 N52).full)).getD default).snd.snd)).getD default).snd.snd.checks), (((lp49_2 (0, ((lp49_1 (0, Pos.mk (N51 7 N52).variant (N51 7 N52).board (N51 7 N52).promoted (N51 7 N52).pockets (N51 7 N52).turn (List.take 0 (N51 7 N52).rooks ++ ((List.replicate 2 0).set 0 (-1)).set 1 (-1) ++ List.drop 2 (N51 7 N52).rooks) (N51 7 N52).passing (N51 7 N52).checks (N51 7 N52).half (N51 7 N52).full)).getD default).snd.snd)).getD default).snd.snd.half), (((lp49_2 (0, ((lp49_1 (0, Pos.mk (N51 7 N52).variant (N51 7 N52).board (N51 7 N52).promoted (N51 7 N52).pockets (N51 7 N52).turn (List.take 0 (N51 7 N52).rooks ++ ((List.replicate 2 0).set 0 (-1)).set 1 (-1) ++ List.drop 2 (N51 7 N52).rooks) (N51 7 N52).passing (N51 7 N52).checks (N51 7 N52).half (N51 7 N52).full)).getD default).snd.snd)).getD default).snd.snd.full)⟩
noncomputable def ok49  : Bool := (ok51 (7) (N52) && ((lp49_1 (0, Pos.mk (N51 7 N52).variant (N51 7 N52).board (N51 7 N52).promoted (N51 7 N52).pockets (N51 7 N52).turn (List.take 0 (N51 7 N52).rooks ++ ((List.replicate 2 0).set 0 (-1)).set 1 (-1) ++ List.drop 2 (N51 7 N52).rooks) (N51 7 N52).passing (N51 7 N52).checks (N51 7 N52).half (N51 7 N52).full)).isSome && ((lp49_2 (0, ((lp49_1 (0, Pos.mk (N51 7 N52).variant (N51 7 N52).board (N51 7 N52).promoted (N51 7 N52).pockets (N51 7 N52).turn (List.take 0 (N51 7 N52).rooks ++ ((List.replicate 2 0).set 0 (-1)).set 1 (-1) ++ List.drop 2 (N51 7 N52).rooks) (N51 7 N52).passing (N51 7 N52).checks (N51 7 N52).half (N51 7 N52).full)).getD default).snd.snd)).isSome && true)))
theorem E49  : evPure B49 14 49 [] = (let z1 := ((lp49_1 (0, Pos.mk (N51 7 N52).variant (N51 7 N52).board (N51 7 N52).promoted (N51 7 N52).pockets (N51 7 N52).turn (List.take 0 (N51 7 N52).rooks ++ ((List.replicate 2 0).set 0 (-1)).set 1 (-1) ++ List.drop 2 (N51 7 N52).rooks) (N51 7 N52).passing (N51 7 N52).checks (N51 7 N52).half (N51 7 N52).full)).getD default); Tr.br (isPS Pz 52 [] ((dArr .u8 8).res N52)) (Tr.br (isPS Pz 51 [AV.int .u8 7, AV.agg [AV.ints .u8 8 N52]] (dPos.res (N51 7 N52))) (Tr.br (isLS Pz (bodL Pz 49 4) (St.mk (AV.ptr 0 0 :: AV.ptr 1 0 :: (an 8 (AV.cint .i64 0 :: (an 17 [])))) (Hp.mk [[AV.cint .u8 0, AV.ints .u8 64 (List.replicate 64 0), AV.u64 0, AV.ints .u8 12 (List.replicate 12 0), AV.cint .u8 0, AV.ints .i8 4 (List.replicate 4 0), AV.cint .i8 0, AV.ints .u8 2 (List.replicate 2 0), AV.cint .i64 0, AV.cint .i64 0], [AV.int .u8 (N51 7 N52).variant, AV.ints .u8 64 (N51 7 N52).board, AV.u64 (N51 7 N52).promoted, AV.ints .u8 12 (N51 7 N52).pockets, AV.int .u8 (N51 7 N52).turn, AV.ints .i8 4 (List.take 0 (N51 7 N52).rooks ++ ((List.replicate 2 0).set 0 (-1)).set 1 (-1) ++ List.drop 2 (N51 7 N52).rooks), AV.int .i8 (N51 7 N52).passing, AV.ints .u8 2 (N51 7 N52).checks, AV.int .i64 (N51 7 N52).half, AV.int .i64 (N51 7 N52).full]] [] [] 0 0 0)) (O49_1 z1)) (Tr.br (isLS Pz (bodL Pz 49 9) (St.mk (AV.ptr 0 0 :: AV.ptr 1 0 :: (an 15 (AV.vlist true [AV.cint .i64 33, AV.cint .i64 34, AV.cint .i64 37, AV.cint .i64 38] :: AV.cint .i64 (Int.ofNat 4) :: AV.cint .i64 0 :: (an 8 [])))) (Hp.mk [[AV.int .u8 0, AV.ints .u8 64 (List.replicate 64 0), AV.u64 0, AV.ints .u8 12 (List.replicate 12 0), AV.int .u8 0, AV.ints .i8 4 (List.replicate 4 0), AV.int .i8 0, AV.ints .u8 2 (List.replicate 2 0), AV.int .i64 0, AV.int .i64 0], (pc z1.snd.snd [])] [] [] 0 0 0)) (O49_2 ((lp49_2 (0, z1.snd.snd)).getD default))) (Tr.ret (AV.agg (pc ((lp49_2 (0, z1.snd.snd)).getD default).snd.snd []))) Tr.fail) Tr.fail) Tr.fail) Tr.fail) := by kernel_rfl
theorem P49  (h : ok49  = true) : PS Pz 49 [] (dPos.res (N49 )) := ps_gotR hB49 (E49 ) (gr_callT (P52  rfl) (gr_call (P51 (7) (N52)) (gr_loop (fun h => L49_1 ((0, Pos.mk (N51 7 N52).variant (N51 7 N52).board (N51 7 N52).promoted (N51 7 N52).pockets (N51 7 N52).turn (List.take 0 (N51 7 N52).rooks ++ ((List.replicate 2 0).set 0 (-1)).set 1 (-1) ++ List.drop 2 (N51 7 N52).rooks) (N51 7 N52).passing (N51 7 N52).checks (N51 7 N52).half (N51 7 N52).full)) _ (some_getD h)) (wk_nrm (ks := (rn 2 8 (rn 11 17 []))) (gs := [10]) (b := true) rfl (by kernel_rfl)) (gr_loop (fun h => L49_2 ((0, ((lp49_1 (0, Pos.mk (N51 7 N52).variant (N51 7 N52).board (N51 7 N52).promoted (N51 7 N52).pockets (N51 7 N52).turn (List.take 0 (N51 7 N52).rooks ++ ((List.replicate 2 0).set 0 (-1)).set 1 (-1) ++ List.drop 2 (N51 7 N52).rooks) (N51 7 N52).passing (N51 7 N52).checks (N51 7 N52).half (N51 7 N52).full)).getD default).snd.snd)) _ (some_getD h)) (wk_nrm (ks := (rn 2 15 (rn 20 8 []))) (gs := [19]) (b := true) rfl (by kernel_rfl)) (gr_ret rfl))))) h
noncomputable def G49 : List AV → Tr AV := g0  (sure Pz 49 [] (dPos.res (N49 )))
theorem s49 : Sound Pz 49 G49 := sound0 (at_sure)
end Kz
end
section
namespace Kz
open Go Go.RowKit Go.Proofs
set_option maxRecDepth 100000
set_option maxHeartbeats 4000000
noncomputable def K50 : List (Nat × List (Nat × List Nat)) := [(50, [(0, (rn 1 41 [])), (1, (rn 2 40 [])), (2, (rn 2 7 (rn 12 30 []))), (3, (rn 2 7 (rn 13 29 []))), (4, (rn 4 5 (rn 12 30 []))), (5, (rn 3 6 (rn 12 4 (rn 19 23 [])))), (6, (rn 3 6 (rn 12 4 (rn 20 22 [])))), (7, (3 :: 6 :: 7 :: 8 :: (rn 12 4 (rn 19 23 [])))), (8, (rn 3 6 (rn 12 4 (rn 19 23 [])))), (9, (rn 3 6 (rn 12 4 (rn 19 23 [])))), (10, (rn 2 7 (rn 12 30 []))), (11, (rn 1 41 []))])]
noncomputable def B50 : Base := baseOf Pz (fun f i => lkK f i K50) [(108, G108), (109, G109)] [] []
theorem hB50 : BOk B50 := base_ok named_z ⟨s108, s109, trivial⟩ trivial trivial
noncomputable def N50  : Pos := ⟨((N108 8).variant), (((((((((((((((((N108 8).board.set 0 (N109 5)).set 7 5).set 1 (N109 4)).set 6 4).set 2 (N109 3)).set 5 3).set 3 (N109 2)).set 4 2).set 8 (N109 6)).set 15 6).set 9 (N109 4)).set 14 4).set 10 (N109 3)).set 13 3).set 11 (N109 2)).set 12 2), ((N108 8).promoted), ((N108 8).pockets), ((N108 8).turn), ((N108 8).rooks), ((N108 8).passing), ((N108 8).checks), ((N108 8).half), ((N108 8).full)⟩
noncomputable def ok50  : Bool := true
theorem E50  : evPure B50 14 50 [] = Tr.br (isPS Pz 108 [AV.int .u8 8] (dPos.res (N108 8))) (Tr.br (isPS Pz 109 [AV.int .u8 5] ((dI .u8).res (N109 5))) (Tr.br (isPS Pz 109 [AV.int .u8 4] ((dI .u8).res (N109 4))) (Tr.br (isPS Pz 109 [AV.int .u8 3] ((dI .u8).res (N109 3))) (Tr.br (isPS Pz 109 [AV.int .u8 2] ((dI .u8).res (N109 2))) (Tr.br (isPS Pz 109 [AV.int .u8 6] ((dI .u8).res (N109 6))) (Tr.br (isPS Pz 109 [AV.int .u8 4] ((dI .u8).res (N109 4))) (Tr.br (isPS Pz 109 [AV.int .u8 3] ((dI .u8).res (N109 3))) (Tr.br (isPS Pz 109 [AV.int .u8 2] ((dI .u8).res (N109 2))) (Tr.ret (AV.agg [AV.int .u8 (N108 8).variant, AV.ints .u8 64 (((((((((((((((((N108 8).board.set 0 (N109 5)).set 7 5).set 1 (N109 4)).set 6 4).set 2 (N109 3)).set 5 3).set 3 (N109 2)).set 4 2).set 8 (N109 6)).set 15 6).set 9 (N109 4)).set 14 4).set 10 (N109 3)).set 13 3).set 11 (N109 2)).set 12 2), AV.u64 (N108 8).promoted, AV.ints .u8 12 (N108 8).pockets, AV.int .u8 (N108 8).turn, AV.ints .i8 4 (N108 8).rooks, AV.int .i8 (N108 8).passing, AV.ints .u8 2 (N108 8).checks, AV.int .i64 (N108 8).half, AV.int .i64 (N108 8).full])) Tr.fail) Tr.fail) Tr.fail) Tr.fail) Tr.fail) Tr.fail) Tr.fail) Tr.fail) Tr.fail := by kernel_rfl
theorem P50  (h : ok50  = true) : PS Pz 50 [] (dPos.res (N50 )) := ps_gotR hB50 (E50 ) (gr_callT (P108 (8) rfl) (gr_callT (P109 (5) rfl) (gr_callT (P109 (4) rfl) (gr_callT (P109 (3) rfl) (gr_callT (P109 (2) rfl) (gr_callT (P109 (6) rfl) (gr_callT (P109 (4) rfl) (gr_callT (P109 (3) rfl) (gr_callT (P109 (2) rfl) (gr_ret rfl)))))))))) h
noncomputable def G50 : List AV → Tr AV := g0  (sure Pz 50 [] (dPos.res (N50 )))
theorem s50 : Sound Pz 50 G50 := sound0 (at_sure)
end Kz
end
section
namespace Kz
open Go Go.RowKit Go.Proofs
set_option maxRecDepth 100000
set_option maxHeartbeats 4000000
noncomputable def K21 : List (Nat × List (Nat × List Nat)) := [(21, [(0, (1 :: (rn 3 16 []))), (1, (1 :: 3 :: (rn 5 14 []))), (2, (0 :: 1 :: (rn 4 15 []))), (3, (1 :: (rn 3 5 (rn 9 10 [])))), (4, (0 :: 1 :: (rn 4 15 []))), (5, (1 :: (rn 3 9 (rn 13 6 [])))), (6, (0 :: 1 :: (rn 4 15 []))), (7, (0 :: 1 :: (rn 4 15 [])))])]
noncomputable def B21 : Base := baseOf Pz (fun f i => lkK f i K21) [(49, G49), (50, G50), (51, G51), (52, G52)] [] []
theorem hB21 : BOk B21 := base_ok named_z ⟨s49, s50, s51, s52, trivial⟩ trivial trivial
noncomputable def N21 (a : Int) : (Pos × Bool) := (bif decide (a ≥ 9) then (⟨(0), (List.replicate 64 0), (0), (List.replicate 12 0), (0), (List.replicate 4 0), (0), (List.replicate 2 0), (0), (0)⟩, (false)) else (bif a == 7 then (⟨(N49.variant), (N49.board), (N49.promoted), (N49.pockets), (N49.turn), (N49.rooks), (N49.passing), (N49.checks), (N49.half), (N49.full)⟩, (true)) else (bif a == 8 then (⟨(N50.variant), (N50.board), (N50.promoted), (N50.pockets), (N50.turn), (N50.rooks), (N50.passing), (N50.checks), (N50.half), (N50.full)⟩, (true)) else (⟨((N51 a N52).variant), ((N51 a N52).board), ((N51 a N52).promoted), ((N51 a N52).pockets), ((N51 a N52).turn), ((N51 a N52).rooks), ((N51 a N52).passing), ((N51 a N52).checks), ((N51 a N52).half), ((N51 a N52).full)⟩, (true)))))
noncomputable def ok21 (a : Int) : Bool := (bif decide (a ≥ 9) then true else (bif a == 7 then (ok49  && true) else (bif a == 8 then true else (ok51 (a) (N52) && true))))
theorem E21 (a : Int) : evPure B21 14 21 [.int .u8 a] = Tr.br (decide (a ≥ 9)) (Tr.ret (AV.tuple [AV.agg [AV.cint .u8 0, AV.ints .u8 64 (List.replicate 64 0), AV.u64 0, AV.ints .u8 12 (List.replicate 12 0), AV.cint .u8 0, AV.ints .i8 4 (List.replicate 4 0), AV.cint .i8 0, AV.ints .u8 2 (List.replicate 2 0), AV.cint .i64 0, AV.cint .i64 0], AV.cbool false])) (Tr.br (a == 7) (Tr.br (isPS Pz 49 [] (dPos.res N49)) (Tr.ret (AV.tuple [AV.agg (pc N49 []), AV.cbool true])) Tr.fail) (Tr.br (a == 8) (Tr.br (isPS Pz 50 [] (dPos.res N50)) (Tr.ret (AV.tuple [AV.agg (pc N50 []), AV.cbool true])) Tr.fail) (Tr.br (isPS Pz 52 [] ((dArr .u8 8).res N52)) (Tr.br (isPS Pz 51 [AV.int .u8 a, AV.agg [AV.ints .u8 8 N52]] (dPos.res (N51 a N52))) (Tr.ret (AV.tuple [AV.agg (pc (N51 a N52) []), AV.cbool true])) Tr.fail) Tr.fail))) := by kernel_rfl
theorem P21 (a : Int) (h : ok21 a = true) : PS Pz 21 [.int .u8 a] ((d2 dPos dB).res (N21 a)) := ps_gotR hB21 (E21 a) (gr_br (gr_ret rfl) (gr_br (gr_call (P49 ) (gr_ret rfl)) (gr_br (gr_callT (P50  rfl) (gr_ret rfl)) (gr_callT (P52  rfl) (gr_call (P51 (a) (N52)) (gr_ret rfl)))))) h
noncomputable def G21 : List AV → Tr AV := g1 (dI .u8) (fun a => sure Pz 21 [.int .u8 a] ((d2 dPos dB).res (N21 a)))
theorem s21 : Sound Pz 21 G21 := sound1 (fun _ => at_sure)
end Kz
end
section
namespace Kz
open Go Go.RowKit Go.Proofs
set_option maxRecDepth 100000
set_option maxHeartbeats 4000000
noncomputable def K23 : List (Nat × List (Nat × List Nat)) := [(22, [(0, (0 :: (rn 3 19 []))), (1, (0 :: (rn 3 10 (rn 14 8 [])))), (2, (rn 0 4 (rn 6 16 []))), (3, (0 :: 3 :: 4 :: 5 :: (rn 7 15 []))), (4, (rn 0 6 (rn 8 14 []))), (5, (rn 0 6 (rn 8 11 [20, 21]))), (6, (rn 0 4 (rn 6 16 []))), (7, (rn 0 4 (rn 6 16 [])))]), (23, [(0, (rn 0 49 [])), (1, (0 :: (rn 3 46 []))), (2, (0 :: (rn 5 44 []))), (3, (0 :: (rn 7 42 []))), (4, (0 :: 1 :: 7 :: (rn 9 40 []))), (5, (rn 1 48 []))]), (53, [(0, (0 :: 4 :: 5 :: (rn 7 6 []))), (1, (0 :: 4 :: 5 :: (rn 7 6 []))), (2, (rn 0 6 (rn 7 6 []))), (3, (rn 0 6 (rn 7 6 [])))]), (54, [(0, [0, 2, 3, 4]), (1, [0, 1, 2, 3, 4])]), (111, [(0, (1 :: 2 :: 3 :: (rn 5 5 []))), (1, (0 :: 1 :: 2 :: (rn 4 6 []))), (2, (rn 0 10 [])), (3, [1, 2, 3, 5, 7, 8, 9]), (4, (rn 0 10 [])), (5, [1, 2, 3, 5, 6, 7]), (6, (rn 1 9 [])), (7, (rn 0 10 []))]), (112, [(0, (1 :: 5 :: (rn 7 55 []))), (1, (1 :: 5 :: (rn 7 55 []))), (2, (1 :: 5 :: (rn 7 23 (rn 31 31 [])))), (3, (1 :: 5 :: (rn 7 55 []))), (4, (1 :: 5 :: (rn 7 28 (rn 36 26 [])))), (5, (rn 0 62 [])), (6, (1 :: 5 :: (rn 7 33 (rn 41 21 [])))), (7, (1 :: 5 :: (rn 7 35 (rn 45 17 [])))), (8, (1 :: 5 :: (rn 7 35 (rn 46 16 [])))), (9, (1 :: 5 :: (rn 7 4 (rn 12 30 (rn 45 17 []))))), (10, (1 :: 5 :: (rn 7 5 (rn 13 29 (rn 45 17 []))))), (11, (1 :: 5 :: (rn 7 35 (rn 45 17 [])))), (12, (1 :: 5 :: (rn 7 35 (rn 45 17 []))))])]
noncomputable def B23_1 : Base := baseOf Pz (fun f i => lkK f i K23) [(11, G11), (16, G16), (17, G17), (21, G21)] [] []
theorem hB23_1 : BOk B23_1 := base_ok named_z ⟨s11, s16, s17, s21, trivial⟩ trivial trivial
noncomputable def S23_1  (x : (Int × Int × (List Int))) : St := St.mk (AV.ptr 5 0 :: AV.any :: AV.cint .i64 0 :: AV.cint .i64 1 :: AV.func 54 [] [AV.ptr 2 0] :: AV.any :: AV.ptr 6 0 :: (an 35 (AV.list ET.mv (N11 (Pos.mk (N21 0).fst.variant (li [4, 2, 3, 5, 6, 3, 2, 4, 1, 1, 1, 1, 1, 1, 1, 1, 0, 0, 0, 0, 0, 0, 0, 0, 0, 0, 0, 0, 0, 0, 0, 0, 0, 0, 0, 0, 0, 0, 0, 0, 0, 0, 0, 0, 0, 0, 0, 0, 9, 9, 9, 9, 9, 9, 9, 9, 12, 10, 11, 13, 14, 11, 10, 12]) (N21 0).fst.promoted (li [0, 0, 0, 0, 0, 0, 0, 0, 0, 0, 0, 0]) (N21 0).fst.turn (li [7, 0, 7, 0]) (N21 0).fst.passing (li [0, 0]) (N21 0).fst.half (N21 0).fst.full)) Tk.fresh :: AV.int .i64 (Int.ofNat 20) :: AV.int .i64 x.fst :: (an 17 [])))) (Hp.mk [[AV.int .u8 (N21 0).fst.variant, AV.ints .u8 64 (li [4, 2, 3, 5, 6, 3, 2, 4, 1, 1, 1, 1, 1, 1, 1, 1, 0, 0, 0, 0, 0, 0, 0, 0, 0, 0, 0, 0, 0, 0, 0, 0, 0, 0, 0, 0, 0, 0, 0, 0, 0, 0, 0, 0, 0, 0, 0, 0, 9, 9, 9, 9, 9, 9, 9, 9, 12, 10, 11, 13, 14, 11, 10, 12]), AV.u64 (N21 0).fst.promoted, AV.ints .u8 12 (li [0, 0, 0, 0, 0, 0, 0, 0, 0, 0, 0, 0]), AV.int .u8 (N21 0).fst.turn, AV.ints .i8 4 (li [7, 0, 7, 0]), AV.int .i8 (N21 0).fst.passing, AV.ints .u8 2 (li [0, 0]), AV.int .i64 (N21 0).fst.half, AV.int .i64 (N21 0).fst.full], [AV.int .u8 (N21 0).fst.variant, AV.ints .u8 64 (li [4, 2, 3, 5, 6, 3, 2, 4, 1, 1, 1, 1, 1, 1, 1, 1, 0, 0, 0, 0, 0, 0, 0, 0, 0, 0, 0, 0, 0, 0, 0, 0, 0, 0, 0, 0, 0, 0, 0, 0, 0, 0, 0, 0, 0, 0, 0, 0, 9, 9, 9, 9, 9, 9, 9, 9, 12, 10, 11, 13, 14, 11, 10, 12]), AV.u64 (N21 0).fst.promoted, AV.ints .u8 12 (li [0, 0, 0, 0, 0, 0, 0, 0, 0, 0, 0, 0]), AV.int .u8 (N21 0).fst.turn, AV.ints .i8 4 (li [7, 0, 7, 0]), AV.int .i8 (N21 0).fst.passing, AV.ints .u8 2 (li [0, 0]), AV.int .i64 (N21 0).fst.half, AV.int .i64 (N21 0).fst.full], [AV.int .i64 x.snd.fst], [AV.int .u8 (N21 0).fst.variant, AV.ints .u8 64 (li [4, 2, 3, 5, 6, 3, 2, 4, 1, 1, 1, 1, 1, 1, 1, 1, 0, 0, 0, 0, 0, 0, 0, 0, 0, 0, 0, 0, 0, 0, 0, 0, 0, 0, 0, 0, 0, 0, 0, 0, 0, 0, 0, 0, 0, 0, 0, 0, 9, 9, 9, 9, 9, 9, 9, 9, 12, 10, 11, 13, 14, 11, 10, 12]), AV.u64 (N21 0).fst.promoted, AV.ints .u8 12 (li [0, 0, 0, 0, 0, 0, 0, 0, 0, 0, 0, 0]), AV.int .u8 (N21 0).fst.turn, AV.ints .i8 4 (li [7, 0, 7, 0]), AV.int .i8 (N21 0).fst.passing, AV.ints .u8 2 (li [0, 0]), AV.int .i64 (N21 0).fst.half, AV.int .i64 (N21 0).fst.full], [AV.int .i64 0], [AV.ints .i64 65 x.snd.snd], [AV.int .u8 (N21 0).fst.variant, AV.ints .u8 64 (li [4, 2, 3, 5, 6, 3, 2, 4, 1, 1, 1, 1, 1, 1, 1, 1, 0, 0, 0, 0, 0, 0, 0, 0, 0, 0, 0, 0, 0, 0, 0, 0, 0, 0, 0, 0, 0, 0, 0, 0, 0, 0, 0, 0, 0, 0, 0, 0, 9, 9, 9, 9, 9, 9, 9, 9, 12, 10, 11, 13, 14, 11, 10, 12]), AV.u64 (N21 0).fst.promoted, AV.ints .u8 12 (li [0, 0, 0, 0, 0, 0, 0, 0, 0, 0, 0, 0]), AV.int .u8 (N21 0).fst.turn, AV.ints .i8 4 (li [7, 0, 7, 0]), AV.int .i8 (N21 0).fst.passing, AV.ints .u8 2 (li [0, 0]), AV.int .i64 (N21 0).fst.half, AV.int .i64 (N21 0).fst.full]] [] [] 0 0 0)
noncomputable def O23_1  : (Int × Bool × Int × (List Int)) → Out := fun y => .exit 0 (St.mk (AV.ptr 5 0 :: AV.any :: AV.cint .i64 0 :: AV.cint .i64 1 :: AV.func 54 [] [AV.ptr 2 0] :: AV.any :: AV.ptr 6 0 :: (an 35 (AV.list ET.mv (N11 (Pos.mk (N21 0).fst.variant (li [4, 2, 3, 5, 6, 3, 2, 4, 1, 1, 1, 1, 1, 1, 1, 1, 0, 0, 0, 0, 0, 0, 0, 0, 0, 0, 0, 0, 0, 0, 0, 0, 0, 0, 0, 0, 0, 0, 0, 0, 0, 0, 0, 0, 0, 0, 0, 0, 9, 9, 9, 9, 9, 9, 9, 9, 12, 10, 11, 13, 14, 11, 10, 12]) (N21 0).fst.promoted (li [0, 0, 0, 0, 0, 0, 0, 0, 0, 0, 0, 0]) (N21 0).fst.turn (li [7, 0, 7, 0]) (N21 0).fst.passing (li [0, 0]) (N21 0).fst.half (N21 0).fst.full)) Tk.fresh :: AV.int .i64 (Int.ofNat 20) :: AV.int .i64 y.fst :: AV.bool y.snd.fst :: (an 16 [])))) (Hp.mk [[AV.int .u8 (N21 0).fst.variant, AV.ints .u8 64 (li [4, 2, 3, 5, 6, 3, 2, 4, 1, 1, 1, 1, 1, 1, 1, 1, 0, 0, 0, 0, 0, 0, 0, 0, 0, 0, 0, 0, 0, 0, 0, 0, 0, 0, 0, 0, 0, 0, 0, 0, 0, 0, 0, 0, 0, 0, 0, 0, 9, 9, 9, 9, 9, 9, 9, 9, 12, 10, 11, 13, 14, 11, 10, 12]), AV.u64 (N21 0).fst.promoted, AV.ints .u8 12 (li [0, 0, 0, 0, 0, 0, 0, 0, 0, 0, 0, 0]), AV.int .u8 (N21 0).fst.turn, AV.ints .i8 4 (li [7, 0, 7, 0]), AV.int .i8 (N21 0).fst.passing, AV.ints .u8 2 (li [0, 0]), AV.int .i64 (N21 0).fst.half, AV.int .i64 (N21 0).fst.full], [AV.int .u8 (N21 0).fst.variant, AV.ints .u8 64 (li [4, 2, 3, 5, 6, 3, 2, 4, 1, 1, 1, 1, 1, 1, 1, 1, 0, 0, 0, 0, 0, 0, 0, 0, 0, 0, 0, 0, 0, 0, 0, 0, 0, 0, 0, 0, 0, 0, 0, 0, 0, 0, 0, 0, 0, 0, 0, 0, 9, 9, 9, 9, 9, 9, 9, 9, 12, 10, 11, 13, 14, 11, 10, 12]), AV.u64 (N21 0).fst.promoted, AV.ints .u8 12 (li [0, 0, 0, 0, 0, 0, 0, 0, 0, 0, 0, 0]), AV.int .u8 (N21 0).fst.turn, AV.ints .i8 4 (li [7, 0, 7, 0]), AV.int .i8 (N21 0).fst.passing, AV.ints .u8 2 (li [0, 0]), AV.int .i64 (N21 0).fst.half, AV.int .i64 (N21 0).fst.full], [AV.int .i64 y.snd.snd.fst], [AV.int .u8 (N21 0).fst.variant, AV.ints .u8 64 (li [4, 2, 3, 5, 6, 3, 2, 4, 1, 1, 1, 1, 1, 1, 1, 1, 0, 0, 0, 0, 0, 0, 0, 0, 0, 0, 0, 0, 0, 0, 0, 0, 0, 0, 0, 0, 0, 0, 0, 0, 0, 0, 0, 0, 0, 0, 0, 0, 9, 9, 9, 9, 9, 9, 9, 9, 12, 10, 11, 13, 14, 11, 10, 12]), AV.u64 (N21 0).fst.promoted, AV.ints .u8 12 (li [0, 0, 0, 0, 0, 0, 0, 0, 0, 0, 0, 0]), AV.int .u8 (N21 0).fst.turn, AV.ints .i8 4 (li [7, 0, 7, 0]), AV.int .i8 (N21 0).fst.passing, AV.ints .u8 2 (li [0, 0]), AV.int .i64 (N21 0).fst.half, AV.int .i64 (N21 0).fst.full], [AV.int .i64 0], [AV.ints .i64 65 y.snd.snd.snd], [AV.int .u8 (N21 0).fst.variant, AV.ints .u8 64 (li [4, 2, 3, 5, 6, 3, 2, 4, 1, 1, 1, 1, 1, 1, 1, 1, 0, 0, 0, 0, 0, 0, 0, 0, 0, 0, 0, 0, 0, 0, 0, 0, 0, 0, 0, 0, 0, 0, 0, 0, 0, 0, 0, 0, 0, 0, 0, 0, 9, 9, 9, 9, 9, 9, 9, 9, 12, 10, 11, 13, 14, 11, 10, 12]), AV.u64 (N21 0).fst.promoted, AV.ints .u8 12 (li [0, 0, 0, 0, 0, 0, 0, 0, 0, 0, 0, 0]), AV.int .u8 (N21 0).fst.turn, AV.ints .i8 4 (li [7, 0, 7, 0]), AV.int .i8 (N21 0).fst.passing, AV.ints .u8 2 (li [0, 0]), AV.int .i64 (N21 0).fst.half, AV.int .i64 (N21 0).fst.full]] [] [] 0 0 0))
noncomputable def st23_1  (x : (Int × Int × (List Int))) : Stp (Int × Int × (List Int)) ((Int × Bool × Int × (List Int))) := (bif decide (x.fst < Int.ofNat 20) then (bif decide ((x.snd.snd.set 1 (wr .i64 (x.snd.snd.getD 1 0 + 1))).getD 1 0 > 1000000) then Stp.bad else (Stp.go (wr .i64 (x.fst + 1), wr .i64 (x.snd.fst + 1), x.snd.snd.set 1 (wr .i64 (x.snd.snd.getD 1 0 + 1))))) else (Stp.out ((x.fst, decide (x.fst < Int.ofNat 20), x.snd.fst, x.snd.snd))))
noncomputable def okL23_1  (x : (Int × Int × (List Int))) : Bool := (bif decide (x.fst < Int.ofNat 20) then (decide (0 ≤ x.fst) && decide (x.fst < Int.ofNat 20) && (ok17 (Pos.mk (N21 0).fst.variant (li [4, 2, 3, 5, 6, 3, 2, 4, 1, 1, 1, 1, 1, 1, 1, 1, 0, 0, 0, 0, 0, 0, 0, 0, 0, 0, 0, 0, 0, 0, 0, 0, 0, 0, 0, 0, 0, 0, 0, 0, 0, 0, 0, 0, 0, 0, 0, 0, 9, 9, 9, 9, 9, 9, 9, 9, 12, 10, 11, 13, 14, 11, 10, 12]) (N21 0).fst.promoted (li [0, 0, 0, 0, 0, 0, 0, 0, 0, 0, 0, 0]) (N21 0).fst.turn (li [7, 0, 7, 0]) (N21 0).fst.passing (li [0, 0]) (N21 0).fst.half (N21 0).fst.full) ((N11 (Pos.mk (N21 0).fst.variant (li [4, 2, 3, 5, 6, 3, 2, 4, 1, 1, 1, 1, 1, 1, 1, 1, 0, 0, 0, 0, 0, 0, 0, 0, 0, 0, 0, 0, 0, 0, 0, 0, 0, 0, 0, 0, 0, 0, 0, 0, 0, 0, 0, 0, 0, 0, 0, 0, 9, 9, 9, 9, 9, 9, 9, 9, 12, 10, 11, 13, 14, 11, 10, 12]) (N21 0).fst.promoted (li [0, 0, 0, 0, 0, 0, 0, 0, 0, 0, 0, 0]) (N21 0).fst.turn (li [7, 0, 7, 0]) (N21 0).fst.passing (li [0, 0]) (N21 0).fst.half (N21 0).fst.full)).getD x.fst.toNat default) && (bif decide ((x.snd.snd.set 1 (wr .i64 (x.snd.snd.getD 1 0 + 1))).getD 1 0 > 1000000) then false else true))) else true)
noncomputable def lp23_1  (x : (Int × Int × (List Int))) : Option ((Int × Bool × Int × (List Int))) := itl (fun x => bif okL23_1  x then st23_1  x else .bad) many x
theorem E23_1  (x : (Int × Int × (List Int))) : evCd B23_1 12 112 (bodL Pz 112 8) (S23_1  x) = (let z1 := [AV.int .u8 (N21 0).fst.variant, AV.ints .u8 64 (li [4, 2, 3, 5, 6, 3, 2, 4, 1, 1, 1, 1, 1, 1, 1, 1, 0, 0, 0, 0, 0, 0, 0, 0, 0, 0, 0, 0, 0, 0, 0, 0, 0, 0, 0, 0, 0, 0, 0, 0, 0, 0, 0, 0, 0, 0, 0, 0, 9, 9, 9, 9, 9, 9, 9, 9, 12, 10, 11, 13, 14, 11, 10, 12]), AV.u64 (N21 0).fst.promoted, AV.ints .u8 12 (li [0, 0, 0, 0, 0, 0, 0, 0, 0, 0, 0, 0]), AV.int .u8 (N21 0).fst.turn, AV.ints .i8 4 (li [7, 0, 7, 0]), AV.int .i8 (N21 0).fst.passing, AV.ints .u8 2 (li [0, 0]), AV.int .i64 (N21 0).fst.half, AV.int .i64 (N21 0).fst.full]; let z2 := (Pos.mk (N21 0).fst.variant (li [4, 2, 3, 5, 6, 3, 2, 4, 1, 1, 1, 1, 1, 1, 1, 1, 0, 0, 0, 0, 0, 0, 0, 0, 0, 0, 0, 0, 0, 0, 0, 0, 0, 0, 0, 0, 0, 0, 0, 0, 0, 0, 0, 0, 0, 0, 0, 0, 9, 9, 9, 9, 9, 9, 9, 9, 12, 10, 11, 13, 14, 11, 10, 12]) (N21 0).fst.promoted (li [0, 0, 0, 0, 0, 0, 0, 0, 0, 0, 0, 0]) (N21 0).fst.turn (li [7, 0, 7, 0]) (N21 0).fst.passing (li [0, 0]) (N21 0).fst.half (N21 0).fst.full); let z3 := ((N11 z2).getD x.fst.toNat default); let z4 := (x.snd.snd.set 1 (wr .i64 (x.snd.snd.getD 1 0 + 1))); Tr.br (decide (x.fst < Int.ofNat 20)) (Tr.br (decide (0 ≤ x.fst) && decide (x.fst < Int.ofNat 20)) (Tr.br (isPS Pz 17 [z2.av, Mv.av z3] ((d2 dPos dB).res (N17 z2 z3))) (Tr.br (decide (z4.getD 1 0 > 1000000)) (Tr.ret (Out.panic (AV.iface 123 (AV.agg [])) (Hp.mk [z1, z1, [AV.int .i64 x.snd.fst], z1, [AV.int .i64 0], [AV.ints .i64 65 z4], z1, [AV.int .i8 z3.frm, AV.int .i8 z3.to, AV.int .u8 z3.pro, AV.int .u8 z3.drp, AV.bool z3.cas], (pc (N17 z2 z3).fst []), (pc (N17 z2 z3).fst [])] [] [] 0 0 0))) (Tr.ret (Out.norm (St.mk (AV.ptr 5 0 :: AV.any :: AV.cint .i64 0 :: AV.cint .i64 1 :: AV.func 54 [] [AV.ptr 2 0] :: AV.any :: AV.ptr 6 0 :: (an 35 (AV.list ET.mv (N11 z2) Tk.fresh :: AV.int .i64 (Int.ofNat 20) :: AV.int .i64 (wr .i64 (x.fst + 1)) :: (an 17 [])))) (Hp.mk [z1, z1, [AV.int .i64 (wr .i64 (x.snd.fst + 1))], z1, [AV.int .i64 0], [AV.ints .i64 65 z4], z1] [] [] 0 0 0))))) Tr.fail) Tr.fail) (Tr.ret (Out.exit 0 (St.mk (AV.ptr 5 0 :: AV.any :: AV.cint .i64 0 :: AV.cint .i64 1 :: AV.func 54 [] [AV.ptr 2 0] :: AV.any :: AV.ptr 6 0 :: (an 35 (AV.list ET.mv (N11 z2) Tk.fresh :: AV.int .i64 (Int.ofNat 20) :: AV.int .i64 x.fst :: AV.bool (decide (x.fst < Int.ofNat 20)) :: (an 16 [])))) (Hp.mk [z1, z1, [AV.int .i64 x.snd.fst], z1, [AV.int .i64 0], [AV.ints .i64 65 x.snd.snd], z1] [] [] 0 0 0))))) := by kernel_rfl
theorem L23_1  (x : (Int × Int × (List Int))) (r : (Int × Bool × Int × (List Int))) (h : lp23_1  x = some r) : LSpec Pz (bodL Pz 112 8) (S23_1  x) (O23_1  r) := LSpec.itd (S := S23_1 ) (O := O23_1 ) (ok := okL23_1 ) (st := st23_1 ) hB23_1 (fun x => gr_eq (E23_1  x) (gr_br (gr_guard (gr_call (P17 (Pos.mk (N21 0).fst.variant (li [4, 2, 3, 5, 6, 3, 2, 4, 1, 1, 1, 1, 1, 1, 1, 1, 0, 0, 0, 0, 0, 0, 0, 0, 0, 0, 0, 0, 0, 0, 0, 0, 0, 0, 0, 0, 0, 0, 0, 0, 0, 0, 0, 0, 0, 0, 0, 0, 9, 9, 9, 9, 9, 9, 9, 9, 12, 10, 11, 13, 14, 11, 10, 12]) (N21 0).fst.promoted (li [0, 0, 0, 0, 0, 0, 0, 0, 0, 0, 0, 0]) (N21 0).fst.turn (li [7, 0, 7, 0]) (N21 0).fst.passing (li [0, 0]) (N21 0).fst.half (N21 0).fst.full) ((N11 (Pos.mk (N21 0).fst.variant (li [4, 2, 3, 5, 6, 3, 2, 4, 1, 1, 1, 1, 1, 1, 1, 1, 0, 0, 0, 0, 0, 0, 0, 0, 0, 0, 0, 0, 0, 0, 0, 0, 0, 0, 0, 0, 0, 0, 0, 0, 0, 0, 0, 0, 0, 0, 0, 0, 9, 9, 9, 9, 9, 9, 9, 9, 12, 10, 11, 13, 14, 11, 10, 12]) (N21 0).fst.promoted (li [0, 0, 0, 0, 0, 0, 0, 0, 0, 0, 0, 0]) (N21 0).fst.turn (li [7, 0, 7, 0]) (N21 0).fst.passing (li [0, 0]) (N21 0).fst.half (N21 0).fst.full)).getD x.fst.toNat default)) (gr_br (gr_no) (gr_ret (rl_go (wk_nrm (ks := (1 :: 5 :: (rn 7 35 (rn 45 17 [])))) (gs := [44]) (b := true) rfl (by kernel_rfl))))))) (gr_ret (rl_exit rfl (wk_nrm (ks := (1 :: 5 :: (rn 7 35 (rn 46 16 [])))) (gs := []) (b := false) rfl (by kernel_rfl)))))) many x r h
noncomputable def F23_1 : Code → St → Tr Out := sureL Pz (fun s => O23_1  ((lp23_1  ((tI (tT s 44)), (tI (tH s 2 0)), (tN (tH s 5 0)))).getD default))
theorem sF23_1 : ∀ b, LSound Pz b (F23_1 b) := sureL_sound
noncomputable def B23 : Base := baseOf Pz (fun f i => lkK f i K23) [(11, G11), (16, G16), (17, G17), (21, G21)] [(112, 8, F23_1)] []
theorem hB23 : BOk B23 := base_ok named_z ⟨s11, s16, s17, s21, trivial⟩ ⟨sF23_1, trivial⟩ trivial
noncomputable def N23  : Bool := (bif N16 (Pos.mk (N21 0).fst.variant (li [4, 2, 3, 5, 6, 3, 2, 4, 1, 1, 1, 1, 1, 1, 1, 1, 0, 0, 0, 0, 0, 0, 0, 0, 0, 0, 0, 0, 0, 0, 0, 0, 0, 0, 0, 0, 0, 0, 0, 0, 0, 0, 0, 0, 0, 0, 0, 0, 9, 9, 9, 9, 9, 9, 9, 9, 12, 10, 11, 13, 14, 11, 10, 12]) (N21 0).fst.promoted (li [0, 0, 0, 0, 0, 0, 0, 0, 0, 0, 0, 0]) (N21 0).fst.turn (li [7, 0, 7, 0]) (N21 0).fst.passing (li [0, 0]) (N21 0).fst.half (N21 0).fst.full) then (bif (N21 0).snd then (false) else (false)) else (bif (N21 0).snd then (bif ((lp23_1 (0, 0, li [1, 0, 0, 0, 0, 0, 0, 0, 0, 0, 0, 0, 0, 0, 0, 0, 0, 0, 0, 0, 0, 0, 0, 0, 0, 0, 0, 0, 0, 0, 0, 0, 0, 0, 0, 0, 0, 0, 0, 0, 0, 0, 0, 0, 0, 0, 0, 0, 0, 0, 0, 0, 0, 0, 0, 0, 0, 0, 0, 0, 0, 0, 0, 0, 0])).getD default).snd.snd.fst == 20 then (true) else (false)) else (false)))
noncomputable def ok23  : Bool := (ok21 (0) && (!(decide ((li [1, 0, 0, 0, 0, 0, 0, 0, 0, 0, 0, 0, 0, 0, 0, 0, 0, 0, 0, 0, 0, 0, 0, 0, 0, 0, 0, 0, 0, 0, 0, 0, 0, 0, 0, 0, 0, 0, 0, 0, 0, 0, 0, 0, 0, 0, 0, 0, 0, 0, 0, 0, 0, 0, 0, 0, 0, 0, 0, 0, 0, 0, 0, 0, 0]).getD 0 0 > 1000000)) && (!(decide ((li [1, 0, 0, 0, 0, 0, 0, 0, 0, 0, 0, 0, 0, 0, 0, 0, 0, 0, 0, 0, 0, 0, 0, 0, 0, 0, 0, 0, 0, 0, 0, 0, 0, 0, 0, 0, 0, 0, 0, 0, 0, 0, 0, 0, 0, 0, 0, 0, 0, 0, 0, 0, 0, 0, 0, 0, 0, 0, 0, 0, 0, 0, 0, 0, 0]).getD 0 0 > 1000000)) && (ok16 (Pos.mk (N21 0).fst.variant (li [4, 2, 3, 5, 6, 3, 2, 4, 1, 1, 1, 1, 1, 1, 1, 1, 0, 0, 0, 0, 0, 0, 0, 0, 0, 0, 0, 0, 0, 0, 0, 0, 0, 0, 0, 0, 0, 0, 0, 0, 0, 0, 0, 0, 0, 0, 0, 0, 9, 9, 9, 9, 9, 9, 9, 9, 12, 10, 11, 13, 14, 11, 10, 12]) (N21 0).fst.promoted (li [0, 0, 0, 0, 0, 0, 0, 0, 0, 0, 0, 0]) (N21 0).fst.turn (li [7, 0, 7, 0]) (N21 0).fst.passing (li [0, 0]) (N21 0).fst.half (N21 0).fst.full) && (bif N16 (Pos.mk (N21 0).fst.variant (li [4, 2, 3, 5, 6, 3, 2, 4, 1, 1, 1, 1, 1, 1, 1, 1, 0, 0, 0, 0, 0, 0, 0, 0, 0, 0, 0, 0, 0, 0, 0, 0, 0, 0, 0, 0, 0, 0, 0, 0, 0, 0, 0, 0, 0, 0, 0, 0, 9, 9, 9, 9, 9, 9, 9, 9, 12, 10, 11, 13, 14, 11, 10, 12]) (N21 0).fst.promoted (li [0, 0, 0, 0, 0, 0, 0, 0, 0, 0, 0, 0]) (N21 0).fst.turn (li [7, 0, 7, 0]) (N21 0).fst.passing (li [0, 0]) (N21 0).fst.half (N21 0).fst.full) then true else (ok11 (Pos.mk (N21 0).fst.variant (li [4, 2, 3, 5, 6, 3, 2, 4, 1, 1, 1, 1, 1, 1, 1, 1, 0, 0, 0, 0, 0, 0, 0, 0, 0, 0, 0, 0, 0, 0, 0, 0, 0, 0, 0, 0, 0, 0, 0, 0, 0, 0, 0, 0, 0, 0, 0, 0, 9, 9, 9, 9, 9, 9, 9, 9, 12, 10, 11, 13, 14, 11, 10, 12]) (N21 0).fst.promoted (li [0, 0, 0, 0, 0, 0, 0, 0, 0, 0, 0, 0]) (N21 0).fst.turn (li [7, 0, 7, 0]) (N21 0).fst.passing (li [0, 0]) (N21 0).fst.half (N21 0).fst.full) && ((lp23_1 (0, 0, li [1, 0, 0, 0, 0, 0, 0, 0, 0, 0, 0, 0, 0, 0, 0, 0, 0, 0, 0, 0, 0, 0, 0, 0, 0, 0, 0, 0, 0, 0, 0, 0, 0, 0, 0, 0, 0, 0, 0, 0, 0, 0, 0, 0, 0, 0, 0, 0, 0, 0, 0, 0, 0, 0, 0, 0, 0, 0, 0, 0, 0, 0, 0, 0, 0])).isSome && true)))))))
theorem E23  : evPure B23 14 23 [] = (let z1 := (Pos.mk (N21 0).fst.variant (li [4, 2, 3, 5, 6, 3, 2, 4, 1, 1, 1, 1, 1, 1, 1, 1, 0, 0, 0, 0, 0, 0, 0, 0, 0, 0, 0, 0, 0, 0, 0, 0, 0, 0, 0, 0, 0, 0, 0, 0, 0, 0, 0, 0, 0, 0, 0, 0, 9, 9, 9, 9, 9, 9, 9, 9, 12, 10, 11, 13, 14, 11, 10, 12]) (N21 0).fst.promoted (li [0, 0, 0, 0, 0, 0, 0, 0, 0, 0, 0, 0]) (N21 0).fst.turn (li [7, 0, 7, 0]) (N21 0).fst.passing (li [0, 0]) (N21 0).fst.half (N21 0).fst.full); let z2 := [AV.int .u8 (N21 0).fst.variant, AV.ints .u8 64 (li [4, 2, 3, 5, 6, 3, 2, 4, 1, 1, 1, 1, 1, 1, 1, 1, 0, 0, 0, 0, 0, 0, 0, 0, 0, 0, 0, 0, 0, 0, 0, 0, 0, 0, 0, 0, 0, 0, 0, 0, 0, 0, 0, 0, 0, 0, 0, 0, 9, 9, 9, 9, 9, 9, 9, 9, 12, 10, 11, 13, 14, 11, 10, 12]), AV.u64 (N21 0).fst.promoted, AV.ints .u8 12 (li [0, 0, 0, 0, 0, 0, 0, 0, 0, 0, 0, 0]), AV.int .u8 (N21 0).fst.turn, AV.ints .i8 4 (li [7, 0, 7, 0]), AV.int .i8 (N21 0).fst.passing, AV.ints .u8 2 (li [0, 0]), AV.int .i64 (N21 0).fst.half, AV.int .i64 (N21 0).fst.full]; let z3 := [1, 0, 0, 0, 0, 0, 0, 0, 0, 0, 0, 0, 0, 0, 0, 0, 0, 0, 0, 0, 0, 0, 0, 0, 0, 0, 0, 0, 0, 0, 0, 0, 0, 0, 0, 0, 0, 0, 0, 0, 0, 0, 0, 0, 0, 0, 0, 0, 0, 0, 0, 0, 0, 0, 0, 0, 0, 0, 0, 0, 0, 0, 0, 0, 0]; let z4 := (Tr.ret (AV.cbool false)); Tr.br (isPS Pz 21 [AV.int .u8 0] ((d2 dPos dB).res (N21 0))) (Tr.br (decide ((li z3).getD 0 0 > 1000000)) Tr.fail (Tr.br (decide ((li z3).getD 0 0 > 1000000)) Tr.fail (Tr.br (isPS Pz 16 [z1.av] (dB.res (N16 z1))) (Tr.br (N16 z1) (Tr.br (N21 0).snd z4 z4) (Tr.br (isPS Pz 11 [z1.av] ((dL ET.mv).res (N11 z1))) (Tr.br (isLS Pz (bodL Pz 112 8) (St.mk (AV.ptr 5 0 :: AV.any :: AV.cint .i64 0 :: AV.cint .i64 1 :: AV.func 54 [] [AV.ptr 2 0] :: AV.any :: AV.ptr 6 0 :: (an 35 (AV.list ET.mv (N11 z1) Tk.fresh :: AV.int .i64 (Int.ofNat 20) :: AV.cint .i64 0 :: (an 17 [])))) (Hp.mk [z2, z2, [AV.cint .i64 0], z2, [AV.cint .i64 0], [AV.ints .i64 65 (li z3)], z2] [] [] 0 0 0)) (O23_1 ((lp23_1 (0, 0, li z3)).getD default))) (Tr.br (N21 0).snd (Tr.br (((lp23_1 (0, 0, li z3)).getD default).snd.snd.fst == 20) (Tr.ret (AV.cbool true)) z4) z4) Tr.fail) Tr.fail)) Tr.fail))) Tr.fail) := by kernel_rfl
theorem P23  (h : ok23  = true) : PS Pz 23 [] (dB.res (N23 )) := ps_gotR hB23 (E23 ) (gr_call (P21 (0)) (gr_nguard (gr_nguard (gr_call (P16 (Pos.mk (N21 0).fst.variant (li [4, 2, 3, 5, 6, 3, 2, 4, 1, 1, 1, 1, 1, 1, 1, 1, 0, 0, 0, 0, 0, 0, 0, 0, 0, 0, 0, 0, 0, 0, 0, 0, 0, 0, 0, 0, 0, 0, 0, 0, 0, 0, 0, 0, 0, 0, 0, 0, 9, 9, 9, 9, 9, 9, 9, 9, 12, 10, 11, 13, 14, 11, 10, 12]) (N21 0).fst.promoted (li [0, 0, 0, 0, 0, 0, 0, 0, 0, 0, 0, 0]) (N21 0).fst.turn (li [7, 0, 7, 0]) (N21 0).fst.passing (li [0, 0]) (N21 0).fst.half (N21 0).fst.full)) (gr_br (gr_br2 (gr_ret rfl) (gr_ret rfl)) (gr_call (P11 (Pos.mk (N21 0).fst.variant (li [4, 2, 3, 5, 6, 3, 2, 4, 1, 1, 1, 1, 1, 1, 1, 1, 0, 0, 0, 0, 0, 0, 0, 0, 0, 0, 0, 0, 0, 0, 0, 0, 0, 0, 0, 0, 0, 0, 0, 0, 0, 0, 0, 0, 0, 0, 0, 0, 9, 9, 9, 9, 9, 9, 9, 9, 12, 10, 11, 13, 14, 11, 10, 12]) (N21 0).fst.promoted (li [0, 0, 0, 0, 0, 0, 0, 0, 0, 0, 0, 0]) (N21 0).fst.turn (li [7, 0, 7, 0]) (N21 0).fst.passing (li [0, 0]) (N21 0).fst.half (N21 0).fst.full)) (gr_loop (fun h => L23_1 ((0, 0, li [1, 0, 0, 0, 0, 0, 0, 0, 0, 0, 0, 0, 0, 0, 0, 0, 0, 0, 0, 0, 0, 0, 0, 0, 0, 0, 0, 0, 0, 0, 0, 0, 0, 0, 0, 0, 0, 0, 0, 0, 0, 0, 0, 0, 0, 0, 0, 0, 0, 0, 0, 0, 0, 0, 0, 0, 0, 0, 0, 0, 0, 0, 0, 0, 0])) _ (some_getD h)) (wk_nrm (ks := (1 :: 5 :: (rn 7 35 (rn 45 17 [])))) (gs := [44]) (b := true) rfl (by kernel_rfl)) (gr_br2 (gr_br2 (gr_ret rfl) (gr_ret rfl)) (gr_ret rfl))))))))) h
noncomputable def G23 : List AV → Tr AV := g0  (sure Pz 23 [] (dB.res (N23 )))
theorem s23 : Sound Pz 23 G23 := sound0 (at_sure)
end Kz
end
section
namespace Kz
open Go Go.RowKit Go.Proofs
set_option maxRecDepth 100000
set_option maxHeartbeats 4000000
noncomputable def K25 : List (Nat × List (Nat × List Nat)) := [(25, [(0, (0 :: (rn 2 12 []))), (1, (0 :: 1 :: (rn 3 11 [])))])]
noncomputable def B25 : Base := baseOf Pz (fun f i => lkK f i K25) [] [] []
theorem hB25 : BOk B25 := base_ok named_z trivial trivial trivial
noncomputable def N25 (a : List Int) : Int := (wr .i64 (wr .i64 (wr .i64 (a.getD 0 0 + a.getD 1 0) + a.getD 2 0) + a.getD 3 0))
noncomputable def ok25 (a : List Int) : Bool := true
theorem E25 (a : List Int) : evPure B25 14 25 [.agg [.ints .i64 4 a]] = Tr.ret (AV.int .i64 (wr .i64 (wr .i64 (wr .i64 (a.getD 0 0 + a.getD 1 0) + a.getD 2 0) + a.getD 3 0))) := by kernel_rfl
theorem P25 (a : List Int) (h : ok25 a = true) : PS Pz 25 [.agg [.ints .i64 4 a]] ((dI .i64).res (N25 a)) := ps_gotR hB25 (E25 a) (gr_ret rfl) h
noncomputable def G25 : List AV → Tr AV := g1 (dArr .i64 4) (fun a => sure Pz 25 [.agg [.ints .i64 4 a]] ((dI .i64).res (N25 a)))
theorem s25 : Sound Pz 25 G25 := sound1 (fun _ => at_sure)
end Kz
end
section
namespace Kz
open Go Go.RowKit Go.Proofs
set_option maxRecDepth 100000
set_option maxHeartbeats 4000000
noncomputable def K8 : List (Nat × List (Nat × List Nat)) := [(8, [(0, (0 :: (rn 3 52 []))), (1, (0 :: 3 :: 4 :: (rn 7 48 []))), (2, (0 :: 3 :: 4 :: (rn 8 47 []))), (3, (0 :: (rn 3 27 (rn 31 24 [])))), (4, (rn 0 4 (rn 5 50 []))), (5, (0 :: (rn 3 52 []))), (6, (0 :: (rn 3 35 (rn 39 16 [])))), (7, (rn 0 4 (rn 5 50 []))), (8, (rn 0 8 (rn 10 45 []))), (9, (rn 0 4 (rn 5 50 [])))]), (22, [(0, (0 :: (rn 3 19 []))), (1, (0 :: (rn 3 10 (rn 14 8 [])))), (2, (rn 0 4 (rn 6 16 []))), (3, (0 :: 3 :: 4 :: 5 :: (rn 7 15 []))), (4, (rn 0 6 (rn 8 14 []))), (5, (rn 0 6 (rn 8 11 [20, 21]))), (6, (rn 0 4 (rn 6 16 []))), (7, (rn 0 4 (rn 6 16 [])))]), (24, [(0, (0 :: 3 :: (rn 5 19 []))), (1, (0 :: 3 :: (rn 5 8 (rn 14 10 [])))), (2, (rn 0 4 (rn 6 18 []))), (3, (0 :: 3 :: 5 :: (rn 7 17 []))), (4, (rn 0 4 (5 :: (rn 8 16 [])))), (5, (rn 0 4 (5 :: (rn 8 12 [21, 22, 23])))), (6, (rn 0 4 (rn 6 18 []))), (7, (rn 0 4 (rn 6 18 [])))]), (53, [(0, (0 :: 4 :: 5 :: (rn 7 6 []))), (1, (0 :: 4 :: 5 :: (rn 7 6 []))), (2, (rn 0 6 (rn 7 6 []))), (3, (rn 0 6 (rn 7 6 [])))]), (54, [(0, [0, 2, 3, 4]), (1, [0, 1, 2, 3, 4])]), (55, [(0, (0 :: (rn 3 7 []))), (1, (rn 0 10 []))]), (111, [(0, (1 :: 2 :: 3 :: (rn 5 5 []))), (1, (0 :: 1 :: 2 :: (rn 4 6 []))), (2, (rn 0 10 [])), (3, [1, 2, 3, 5, 7, 8, 9]), (4, (rn 0 10 [])), (5, [1, 2, 3, 5, 6, 7]), (6, (rn 1 9 [])), (7, (rn 0 10 []))]), (112, [(0, (1 :: 5 :: (rn 7 55 []))), (1, (1 :: 5 :: (rn 7 55 []))), (2, (1 :: 5 :: (rn 7 23 (rn 31 31 [])))), (3, (1 :: 5 :: (rn 7 55 []))), (4, (1 :: 5 :: (rn 7 28 (rn 36 26 [])))), (5, (rn 0 62 [])), (6, (1 :: 5 :: (rn 7 33 (rn 41 21 [])))), (7, (1 :: 5 :: (rn 7 35 (rn 45 17 [])))), (8, (1 :: 5 :: (rn 7 35 (rn 46 16 [])))), (9, (1 :: 5 :: (rn 7 4 (rn 12 30 (rn 45 17 []))))), (10, (1 :: 5 :: (rn 7 5 (rn 13 29 (rn 45 17 []))))), (11, (1 :: 5 :: (rn 7 35 (rn 45 17 [])))), (12, (1 :: 5 :: (rn 7 35 (rn 45 17 []))))])]
noncomputable def B8 : Base := baseOf Pz (fun f i => lkK f i K8) [(11, G11), (14, G14), (16, G16), (17, G17), (23, G23), (25, G25)] [(112, 8, fun _ _ => .fail)] []
theorem hB8 : BOk B8 := base_ok named_z ⟨s11, s14, s16, s17, s23, s25, trivial⟩ ⟨fail_sound, trivial⟩ trivial
noncomputable def N8 (a : Pos) (b : Int) : Bool := (bif N25 ((li [0, 0, 0, 0]).set (scale 1 (N14 a).fst).toNat (wr .i64 ((li [0, 0, 0, 0]).getD (scale 1 (N14 a).fst).toNat 0 + 1))) != 1 then (false) else (bif ((li [0, 0, 0, 0]).set (scale 1 (N14 a).fst).toNat (wr .i64 ((li [0, 0, 0, 0]).getD (scale 1 (N14 a).fst).toNat 0 + 1))).getD (scale 1 (N14 a).fst).toNat 0 != 1 then (false) else (bif !N16 a then (N23) else (bif decide (wr .i64 (1 + wr .i64 (Int.ofNat (BitVec.ofInt 64 b % 64#64).toNat)) < 0) then (false) else (bif decide (wr .i64 (1 + wr .i64 (Int.ofNat (BitVec.ofInt 64 b % 64#64).toNat)) > 64) then (false) else (bif 0 == wr .i64 (1 + wr .i64 (Int.ofNat (BitVec.ofInt 64 b % 64#64).toNat)) then (false) else (bif N16 a then (N23) else default)))))))
noncomputable def ok8 (a : Pos) (b : Int) : Bool := (!(decide ((li [1, 0, 0, 0, 0, 0, 0, 0, 0, 0, 0, 0, 0, 0, 0, 0, 0, 0, 0, 0, 0, 0, 0, 0, 0, 0, 0, 0, 0, 0, 0, 0, 0, 0, 0, 0, 0, 0, 0, 0, 0, 0, 0, 0, 0, 0, 0, 0, 0, 0, 0, 0, 0, 0, 0, 0, 0, 0, 0, 0, 0, 0, 0, 0, 0]).getD 0 0 > 1000000)) && (ok14 (a) && (decide (0 ≤ (N14 a).fst) && decide ((N14 a).fst < Int.ofNat 4) && (decide (0 ≤ (N14 a).fst) && decide ((N14 a).fst < Int.ofNat 4) && (ok14 (a) && (bif N25 ((li [0, 0, 0, 0]).set (scale 1 (N14 a).fst).toNat (wr .i64 ((li [0, 0, 0, 0]).getD (scale 1 (N14 a).fst).toNat 0 + 1))) != 1 then true else (decide (0 ≤ (N14 a).fst) && decide ((N14 a).fst < Int.ofNat 4) && (bif ((li [0, 0, 0, 0]).set (scale 1 (N14 a).fst).toNat (wr .i64 ((li [0, 0, 0, 0]).getD (scale 1 (N14 a).fst).toNat 0 + 1))).getD (scale 1 (N14 a).fst).toNat 0 != 1 then true else (!64#64 == 0#64 && (ok16 (a) && (bif !N16 a then (ok23  && true) else (bif decide (wr .i64 (1 + wr .i64 (Int.ofNat (BitVec.ofInt 64 b % 64#64).toNat)) < 0) then true else (bif decide (wr .i64 (1 + wr .i64 (Int.ofNat (BitVec.ofInt 64 b % 64#64).toNat)) > 64) then true else (!(decide ((li [1, 0, 0, 0, 0, 0, 0, 0, 0, 0, 0, 0, 0, 0, 0, 0, 0, 0, 0, 0, 0, 0, 0, 0, 0, 0, 0, 0, 0, 0, 0, 0, 0, 0, 0, 0, 0, 0, 0, 0, 0, 0, 0, 0, 0, 0, 0, 0, 0, 0, 0, 0, 0, 0, 0, 0, 0, 0, 0, 0, 0, 0, 0, 0, 0]).getD 0 0 > 1000000)) && (bif 0 == wr .i64 (1 + wr .i64 (Int.ofNat (BitVec.ofInt 64 b % 64#64).toNat)) then true else (ok16 (a) && (bif N16 a then (ok23  && true) else (ok11 (a) && false))))))))))))))))))
theorem E8 (a : Pos) (b : Int) : evPure B8 14 8 [Pos.av a, .int .i64 b] = (let z1 := ((li [0, 0, 0, 0]).set (scale 1 (N14 a).fst).toNat (wr .i64 ((li [0, 0, 0, 0]).getD (scale 1 (N14 a).fst).toNat 0 + 1))); let z2 := (decide ((li [1, 0, 0, 0, 0, 0, 0, 0, 0, 0, 0, 0, 0, 0, 0, 0, 0, 0, 0, 0, 0, 0, 0, 0, 0, 0, 0, 0, 0, 0, 0, 0, 0, 0, 0, 0, 0, 0, 0, 0, 0, 0, 0, 0, 0, 0, 0, 0, 0, 0, 0, 0, 0, 0, 0, 0, 0, 0, 0, 0, 0, 0, 0, 0, 0]).getD 0 0 > 1000000)); let z3 := (decide (0 ≤ (N14 a).fst) && decide ((N14 a).fst < Int.ofNat 4)); let z4 := (1 + wr .i64 (Int.ofNat (BitVec.ofInt 64 b % 64#64).toNat)); let z5 := (Tr.ret (AV.cbool false)); let z6 := (Tr.br (isPS Pz 23 [] (dB.res N23)) (Tr.ret (AV.bool N23)) Tr.fail); Tr.br z2 Tr.fail (Tr.br (isPS Pz 14 [a.av] ((dR .u8 .u8).res (N14 a))) (Tr.br z3 (Tr.br z3 (Tr.br (isPS Pz 14 [a.av] ((dR .u8 .u8).res (N14 a))) (Tr.br (isPS Pz 25 [AV.agg [AV.ints .i64 4 z1]] ((dI .i64).res (N25 z1))) (Tr.br (N25 z1 != 1) z5 (Tr.br z3 (Tr.br (z1.getD (scale 1 (N14 a).fst).toNat 0 != 1) z5 (Tr.br (!64#64 == 0#64) (Tr.br (isPS Pz 16 [a.av] (dB.res (N16 a))) (Tr.br (!N16 a) z6 (Tr.br (decide (wr .i64 z4 < 0)) z5 (Tr.br (decide (wr .i64 z4 > 64)) z5 (Tr.br z2 Tr.fail (Tr.br (0 == wr .i64 z4) z5 (Tr.br (isPS Pz 16 [a.av] (dB.res (N16 a))) (Tr.br (N16 a) z6 (Tr.br (isPS Pz 11 [a.av] ((dL ET.mv).res (N11 a))) Tr.fail Tr.fail)) Tr.fail)))))) Tr.fail) Tr.fail)) Tr.fail)) Tr.fail) Tr.fail) Tr.fail) Tr.fail) Tr.fail)) := by kernel_rfl
theorem P8 (a : Pos) (b : Int) (h : ok8 a b = true) : PS Pz 8 [Pos.av a, .int .i64 b] (dB.res (N8 a b)) := ps_gotR hB8 (E8 a b) (gr_nguard (gr_call (P14 (a)) (gr_guard (gr_guard (gr_call (P14 (a)) (gr_callT (P25 ((li [0, 0, 0, 0]).set (scale 1 (N14 a).fst).toNat (wr .i64 ((li [0, 0, 0, 0]).getD (scale 1 (N14 a).fst).toNat 0 + 1))) rfl) (gr_br (gr_ret rfl) (gr_guard (gr_br (gr_ret rfl) (gr_guard (gr_call (P16 (a)) (gr_br (gr_call (P23 ) (gr_ret rfl)) (gr_br (gr_ret rfl) (gr_br (gr_ret rfl) (gr_nguard (gr_br (gr_ret rfl) (gr_call (P16 (a)) (gr_br (gr_call (P23 ) (gr_ret rfl)) (gr_call (P11 (a)) (gr_fail)))))))))))))))))))) h
noncomputable def G8 : List AV → Tr AV := g2 dPos (dI .i64) (fun a b => sure Pz 8 [Pos.av a, .int .i64 b] (dB.res (N8 a b)))
theorem s8 : Sound Pz 8 G8 := sound2 (fun _ _ => at_sure)
end Kz
end
section
namespace Kz
open Go Go.RowKit
set_option maxRecDepth 100000
set_option maxHeartbeats 1000000
theorem start_in : PosIn (N21 0).1 :=
  ⟨by decide +kernel, by decide +kernel, by decide +kernel, by decide +kernel, by decide +kernel, by decide +kernel, by decide +kernel, by decide +kernel, by decide +kernel, by decide +kernel, by decide +kernel, by decide +kernel, by decide +kernel, by decide +kernel, by decide +kernel, by decide +kernel⟩
theorem start_ok : ok21 0 = true := by decide +kernel
theorem start_on : N16 (N21 0).1 = false := by decide +kernel
theorem start_is : (N21 0).2 = true := by decide +kernel
theorem lp23 {l : List Int} (hl : l.length = 65) (h0 : l.getD 1 0 = 0) : ∃ r, lp23_1 (0, 0, l) = some r ∧ r.2.2.1 = 20 := by
  refine lp_many (I := fun x => 0 ≤ x.1 ∧ x.1 ≤ 20 ∧ x.2.1 = x.1 ∧ x.2.2.length = 65 ∧ x.2.2.getD 1 0 = x.1) (μ := fun x => (20 - x.1).toNat) ?_ _ ⟨by simp, by simp, rfl, hl, h0⟩ (by simp)
  rintro ⟨k, n, l⟩ ⟨h0, h1, h2, h3, h4⟩
  simp only at h0 h1 h2 h3 h4
  subst h2
  have hset : ∀ v : Int, (l.set 1 v).getD 1 0 = v := fun v => by
    rw [List.getD_eq_getElem?_getD, List.getElem?_set_self (by omega)]
    rfl
  unfold okL23_1 st23_1
  dsimp only
  rw [h4, hset]
  by_cases hc : n < 20
  · have d1 : decide (n < Int.ofNat 20) = true := decide_eq_true hc
    have d0 : decide (0 ≤ n) = true := decide_eq_true h0
    have w1 : wr .i64 (n + 1) = n + 1 := wi64 (by omega) (by omega)
    have d2 : decide (n + 1 > 1000000) = false := decide_eq_false (by omega)
    rw [d1, d0, w1, d2]
    simp only [cond_true, cond_false, Bool.true_and, Bool.and_true]
    refine ⟨(move_all start_in _).1, ⟨by dsimp only; omega, by dsimp only; omega, rfl, by simpa using h3, hset _⟩, by dsimp only; omega⟩
  · have d1 : decide (n < Int.ofNat 20) = false := decide_eq_false hc
    rw [d1]
    exact ⟨rfl, by show n = 20; omega⟩
theorem N23_true : ok23 = true ∧ N23 = true := by
  obtain ⟨r, e, hr⟩ := lp23 (l := li [1, 0, 0, 0, 0, 0, 0, 0, 0, 0, 0, 0, 0, 0, 0, 0, 0, 0, 0, 0, 0, 0, 0, 0, 0, 0, 0, 0, 0, 0, 0, 0, 0, 0, 0, 0, 0, 0, 0, 0, 0, 0, 0, 0, 0, 0, 0, 0, 0, 0, 0, 0, 0, 0, 0, 0, 0, 0, 0, 0, 0, 0, 0, 0, 0]) rfl rfl
  have o16 : ok16 (N21 0).1 = true := a_true (t14 start_in) fun _ => rfl
  have o11 := t11 start_in
  have hon := start_on
  have his := start_is
  constructor
  · unfold ok23
    rw [e]
    refine a_true start_ok fun _ => a_true (by decide) fun _ => a_true (by decide) fun _ => a_true o16 fun _ => c_true (fun _ => rfl) fun _ => a_true o11 fun _ => ?_
    exact rfl
  · unfold N23
    rw [e]
    refine c_ind (P := fun b => b = true) (fun h => ?_) fun _ => c_ind (P := fun b => b = true) (fun _ => c_ind (P := fun b => b = true) (fun _ => rfl) fun h => ?_) fun h => ?_
    · exact absurd (h.symm.trans hon) (by simp)
    · exfalso
      have h : (r.2.2.1 == 20) = false := h
      rw [hr] at h
      simp at h
    · rw [his] at h; cases h
theorem state_fin : ∀ s : Fin 4, N25 ((li [0, 0, 0, 0]).set (scale 1 (s.val : Int)).toNat (wr .i64 ((li [0, 0, 0, 0]).getD (scale 1 (s.val : Int)).toNat 0 + 1))) = 1 ∧ ((li [0, 0, 0, 0]).set (scale 1 (s.val : Int)).toNat (wr .i64 ((li [0, 0, 0, 0]).getD (scale 1 (s.val : Int)).toNat 0 + 1))).getD (scale 1 (s.val : Int)).toNat 0 = 1 := by decide +kernel
theorem N14_state {q : Pos} (hq : PosIn q) : 0 ≤ (N14 q).1 ∧ (N14 q).1 < 4 := by
  refine ⟨(N14_u8 hq).1.1, ?_⟩
  by_cases hqt : there q
  · have t1 := hqt.1
    rw [N14_there hqt]
    refine c_ind (P := fun r : Int × Int => r.1 < 4) (fun _ => ?_) fun _ => c_ind (P := fun r : Int × Int => r.1 < 4) (fun h => ?_) fun _ => c_ind (P := fun r : Int × Int => r.1 < 4) (fun _ => ?_) fun _ => c_ind (P := fun r : Int × Int => r.1 < 4) (fun _ => ?_) fun _ => by simp
    · rcases (N30_win hq).1 with w | ⟨_, w⟩ | w
      · rw [w]; simp
      · omega
      · rw [w]; simp
    · have h0 : (N80 q).1 ≠ 0 := by simpa using h
      rcases (N80_is hqt hq h0).2 with w | ⟨w, _⟩ | ⟨w, _⟩
      · rw [w]; show 1 + q.turn < 4; omega
      · rw [w]; show 2 - q.turn < 4; have := hq.t0; omega
      · rw [w]; simp
    · rcases N81_is q with w | w <;> rw [w] <;> simp
    · rcases N82_is q with ⟨w, _⟩ | ⟨w, _⟩ <;> rw [w] <;> simp
  · rw [N14_not hqt]; simp
theorem N8_true {p : Pos} (hp : PosIn p) (b : Int) : ok8 p b = true ∧ N8 p b = true := by
  obtain ⟨h0, h1⟩ := N14_state hp
  obtain ⟨s1, s2⟩ := state_fin ⟨(N14 p).1.toNat, by omega⟩
  simp only [Int.toNat_of_nonneg h0] at s1 s2
  have hk : (BitVec.ofInt 64 b % 64#64).toNat < 64 := by
    rw [BitVec.toNat_umod]
    exact Nat.mod_lt _ (by decide)
  have w0 : wr .i64 (Int.ofNat (BitVec.ofInt 64 b % 64#64).toNat) = ((BitVec.ofInt 64 b % 64#64).toNat : Int) := wi64 (by simp; omega) (by simp; omega)
  have w1 : wr .i64 (1 + ((BitVec.ofInt 64 b % 64#64).toNat : Int)) = 1 + ((BitVec.ofInt 64 b % 64#64).toNat : Int) := wi64 (by omega) (by omega)
  generalize hd : 1 + ((BitVec.ofInt 64 b % 64#64).toNat : Int) = d at w1
  have o14 := t14 hp
  have o16 : ok16 p = true := a_true o14 fun _ => rfl
  have o23 := N23_true
  have i1 : decide (0 ≤ (N14 p).1) = true := decide_eq_true h0
  have i2 : decide ((N14 p).1 < Int.ofNat 4) = true := decide_eq_true h1
  have e1 : decide (d < 0) = false := decide_eq_false (by omega)
  have e2 : decide (d > 64) = false := decide_eq_false (by omega)
  have e3 : (0 == d) = false := beq_eq_false_iff_ne.2 (by omega)
  unfold ok8 N8
  rw [s1, s2, o14, o16, o23.1, o23.2, i1, i2, w0, hd, w1, e1, e2, e3]
  cases N16 p <;> exact ⟨rfl, rfl⟩
end Kz
end
