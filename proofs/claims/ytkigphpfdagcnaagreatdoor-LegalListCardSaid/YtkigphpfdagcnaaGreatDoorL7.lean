/- Part 7 of the texts under the proof: an abstract interpreter, the summaries of functions, plain laws. -/
import Derived.Test.YtkigphpfdagcnaaGreatDoorL6
set_option linter.unusedSectionVars false
set_option linter.unusedVariables false
set_option linter.unusedSimpArgs false
set_option linter.unnecessarySimpa false
section
namespace Kz
open Go Go.RowKit
set_option maxRecDepth 100000
set_option maxHeartbeats 4000000
set_option linter.unusedSectionVars false
theorem N72_eq {q : Pos} (hq : PosIn q) {c : Int} (hc : c = 0 ∨ c = 1) : ok72 q c = true ∧ N72 q c = N99 q c 6 := by
  obtain ⟨h1, h2⟩ := N131_eq hq hc (k := 6) (by omega) (by omega)
  exact ⟨a_true h1 fun _ => rfl, h2⟩
theorem lt_ge (x : Int) : decide (x < 0) = !decide (x ≥ 0) := by
  by_cases h : x < 0
  · rw [decide_eq_true h, decide_eq_false (show ¬ x ≥ 0 by omega)]; rfl
  · rw [decide_eq_false h, decide_eq_true (show x ≥ 0 by omega)]; rfl
section
variable {p : Pos} (hp : PosIn p) (hth : there p)
include hp hth
theorem N56_eq : ok56 p = true ∧ N56 p = N38 p := by
  obtain ⟨a1, a2⟩ := N113_eq hp hth
  obtain ⟨b1, b2⟩ := N114_eq hp
  obtain ⟨c1, c2⟩ := N115_eq hp
  have l1 : (N85 p).length ≤ 20480 := N85_len hp.v0
  have l2 := N86_len (p := p) hp
  have l3 := N87_len (p := p) hp.t0
  unfold ok56 N56
  rw [a1, a2, b1, b2, c1, c2, N38_eq, List.nil_append]
  refine ⟨?_, rfl⟩
  rw [decide_eq_true (show 0 + (N85 p).length ≤ 1073741824 by omega), decide_eq_true (show (N85 p).length + (N86 p).length ≤ 1073741824 by omega), decide_eq_true (show (N85 p ++ N86 p).length + (N87 p).length ≤ 1073741824 by rw [List.length_append]; omega), beq_self_eq_true, beq_self_eq_true, beq_self_eq_true]
  rfl
theorem well_eq {m : Mv} (hm : m ∈ N38 p) : ok78 p (N58 p m) = true ∧ N78 p (N58 p m) = N68 p m := by
  obtain ⟨t, hpt, ht⟩ := turn_nat hp hth.1
  obtain ⟨_, e58⟩ := made_eq hp hth hm
  have hmv := (move_all hp m).2.1 hm
  have e17 : N17 p m = (mvd p m, true) := by
    rw [N17_mvd, N37_eq (by have := N38_len hp; omega), decide_eq_true hm]; rfl
  rw [e17] at hmv
  obtain ⟨_, hq, _, htq⟩ := hmv
  have hqt : (mvd p m).turn = 0 ∨ (mvd p m).turn = 1 := by have : (mvd p m).turn = 1 - p.turn := htq; omega
  have hc : p.turn = 0 ∨ p.turn = 1 := by omega
  have hc' : wr .u8 (1 - p.turn) = 0 ∨ wr .u8 (1 - p.turn) = 1 := by rw [hpt, wu8 (by omega) (by omega)]; omega
  obtain ⟨o1, e1⟩ := N72_eq hq hc
  obtain ⟨o2, e2⟩ := N72_eq hq hc'
  obtain ⟨o3, e3⟩ := N47_eq hq hqt hc
  obtain ⟨o4, e4⟩ := N47_eq hq hqt hc'
  have er := royal_eq (v := p.variant) hp.v0 hc
  rw [e58]
  unfold ok78 N78 N68 N62
  rw [e17, er, e1, e2, e3, e4, o1, o2, o3, o4, lt_ge, lt_ge]
  simp only [Bool.not_true, Bool.not_not, cond_false, Bool.true_and, Bool.and_true, bne]
  cases N61 p.variant p.turn <;> cases p.variant == 3 <;> cases decide (N99 (mvd p m) p.turn 6 ≥ 0) <;> cases decide (N99 (mvd p m) (wr .u8 (1 - p.turn)) 6 ≥ 0) <;> cases N103 (mvd p m) p.turn <;> cases p.variant == 8 <;> cases N103 (mvd p m) (wr .u8 (1 - p.turn)) <;> exact ⟨rfl, rfl⟩
theorem lp33 : ∃ r, lp33_1 (N38 p) p 0 ([], [], 0, 0) = some r ∧ r.1 = (N38 p).filter (N68 p) ∧ r.2.1 = (bif p.variant == 4 then ((N38 p).filter (N68 p)).filter (N70 p) else []) := by
  have hlen := N38_len hp
  refine lp_many (Q := fun r : List Mv × List Mv × Int × Bool × Nat => r.1 = (N38 p).filter (N68 p) ∧ r.2.1 = (bif p.variant == 4 then ((N38 p).filter (N68 p)).filter (N70 p) else [])) (I := fun x : List Mv × List Mv × Int × Nat => ∃ n : Nat, n ≤ (N38 p).length ∧ x.2.2.1 = n ∧ x.1 = ((N38 p).take n).filter (N68 p) ∧ x.2.1 = (bif p.variant == 4 then (((N38 p).take n).filter (N68 p)).filter (N70 p) else []) ∧ x.2.2.2 = x.2.1.length) (μ := fun x => ((N38 p).length - x.2.2.1).toNat) ?_ _ ⟨0, by omega, rfl, by simp, by cases p.variant == 4 <;> simp, rfl⟩ (by simp; omega)
  rintro ⟨a, b, x, k⟩ ⟨n, hn, hx, ha, hb, hk⟩
  simp only at hx ha hb hk
  subst hx ha hk
  unfold okL33_1 st33_1
  dsimp only
  by_cases hc : n < (N38 p).length
  · have hm : (N38 p).getD n default ∈ N38 p := getD_mem hc
    have ht : (N38 p).take (n + 1) = (N38 p).take n ++ [(N38 p).getD n default] := by
      rw [List.take_add_one, List.getD_eq_getElem?_getD, List.getElem?_eq_getElem hc]; rfl
    have la : (((N38 p).take n).filter (N68 p)).length ≤ n := Nat.le_trans (List.length_filter_le _ _) (by rw [List.length_take]; omega)
    have lb : b.length ≤ n := by
      rw [hb]
      refine c_ind (P := fun l : List Mv => l.length ≤ n) (fun _ => Nat.le_trans (List.length_filter_le _ _) la) fun _ => by simp
    rw [decide_eq_true (show (n : Int) < Int.ofNat (N38 p).length from Int.ofNat_lt.2 hc), decide_eq_true (show (0 : Int) ≤ n by omega), Int.toNat_natCast, wi64 (n := (n : Int) + 1) (by omega) (by omega)]
    generalize (N38 p).getD n default = m at *
    obtain ⟨o58, _⟩ := made_eq hp hth hm
    obtain ⟨o78, e78⟩ := well_eq hp hth hm
    obtain ⟨o79, e79⟩ := taken_eq hp hth hm
    have eT : N70 p m = decide (N39 p m ≥ 0) := rfl
    rw [o58, o78, e78, o79, e79, decide_eq_true (show (((N38 p).take n).filter (N68 p)).length + 1 ≤ 1073741824 by omega), decide_eq_true (show b.length + 1 ≤ 1073741824 by omega), beq_self_eq_true, beq_self_eq_true]
    constructor
    · cases N68 p m <;> cases p.variant == 4 <;> cases decide (N39 p m ≥ 0) <;> rfl
    · have go : ∀ (a' b' : List Mv) (k' : Nat), a' = ((N38 p).take (n + 1)).filter (N68 p) → b' = (bif p.variant == 4 then (((N38 p).take (n + 1)).filter (N68 p)).filter (N70 p) else []) → k' = b'.length →
          Nxt (fun x : List Mv × List Mv × Int × Nat => ∃ n : Nat, n ≤ (N38 p).length ∧ x.2.2.1 = n ∧ x.1 = ((N38 p).take n).filter (N68 p) ∧ x.2.1 = (bif p.variant == 4 then (((N38 p).take n).filter (N68 p)).filter (N70 p) else []) ∧ x.2.2.2 = x.2.1.length) (fun r : List Mv × List Mv × Int × Bool × Nat => r.1 = (N38 p).filter (N68 p) ∧ r.2.1 = (bif p.variant == 4 then ((N38 p).filter (N68 p)).filter (N70 p) else [])) (fun x : List Mv × List Mv × Int × Nat => ((N38 p).length - x.2.2.1).toNat) ((((N38 p).length : Int) - (n : Int)).toNat) (.go (a', b', (n : Int) + 1, k')) :=
        fun a' b' k' h1 h2 h3 => ⟨⟨n + 1, by omega, by simp, h1, h2, h3⟩, by dsimp only; omega⟩
      have hf : ((N38 p).take (n + 1)).filter (N68 p) = bif N68 p m then ((N38 p).take n).filter (N68 p) ++ [m] else ((N38 p).take n).filter (N68 p) := by
        rw [ht, List.filter_append]
        cases h : N68 p m <;> simp [h]
      cases hw : N68 p m with
      | false =>
        rw [hw] at hf
        exact go _ _ _ (by rw [hf]; rfl) (by rw [hf]; exact hb) rfl
      | true =>
        rw [hw] at hf
        simp only [cond_true] at hf
        cases hv : p.variant == 4 with
        | false => rw [hv] at hb go; exact go _ _ _ hf.symm hb rfl
        | true =>
          rw [hv] at hb go
          simp only [cond_true] at hb
          have hf2 : (((N38 p).take n).filter (N68 p) ++ [m]).filter (N70 p) = bif N70 p m then b ++ [m] else b := by
            rw [List.filter_append, hb]
            cases h : N70 p m <;> simp [h]
          cases hd : decide (N39 p m ≥ 0) with
          | false => exact go _ b _ hf.symm (by rw [hf, cond_true, hf2, eT, hd]; rfl) rfl
          | true => exact go _ (b ++ [m]) _ hf.symm (by rw [hf, cond_true, hf2, eT, hd]; rfl) rfl
  · rw [decide_eq_false (show ¬ ((n : Int) < Int.ofNat (N38 p).length) from fun h => hc (Int.ofNat_lt.1 h))]
    have : n = (N38 p).length := by omega
    subst this
    rw [List.take_length] at hb ⊢
    exact ⟨rfl, rfl, hb⟩
theorem N33_eq : ok33 p = true ∧ N33 p = N31 p := by
  obtain ⟨t, hpt, ht⟩ := turn_nat hp hth.1
  have hc : p.turn = 0 ∨ p.turn = 1 := by omega
  obtain ⟨a1, a2⟩ := N56_eq hp hth
  obtain ⟨b1, b2, b3⟩ := of_some (lp33 hp hth)
  obtain ⟨o1, e1⟩ := N72_eq hp hc
  have er := royal_eq (v := p.variant) hp.v0 hc
  rw [N31_eq hp]
  unfold ok33 N33 N62 wouldL
  rw [N19_there hth, er, a1, a2, e1, o1, b1, b2, b3, lt_ge]
  refine ⟨by cases N61 p.variant p.turn <;> cases decide (N99 p p.turn 6 ≥ 0) <;> rfl, ?_⟩
  have any : ∀ l : List Mv, decide (Int.ofNat (l.filter (N70 p)).length > 0) = l.any (N70 p) := fun l => by
    rw [Bool.eq_iff_iff, decide_eq_true_eq, List.any_eq_true]
    constructor
    · intro h
      have h : 0 < (l.filter (N70 p)).length := Int.ofNat_lt.1 h
      obtain ⟨x, hx⟩ := List.exists_mem_of_length_pos h
      exact ⟨x, (List.mem_filter.1 hx).1, (List.mem_filter.1 hx).2⟩
    · rintro ⟨x, h1, h2⟩
      exact Int.ofNat_lt.2 (List.length_pos_of_mem (List.mem_filter.2 ⟨h1, h2⟩))
  cases p.variant == 4 with
  | false => cases N61 p.variant p.turn <;> cases decide (N99 p p.turn 6 ≥ 0) <;> rfl
  | true =>
    simp only [cond_true]
    rw [any]
    cases N61 p.variant p.turn <;> cases decide (N99 p p.turn 6 ≥ 0) <;> rfl
end
end Kz
end
section
namespace Kz
open Go Go.RowKit Go.Proofs
set_option maxRecDepth 100000
set_option maxHeartbeats 4000000
noncomputable def K108 : List (Nat × Nat × List (Nat × List Nat)) := [(108, 8, [(0, [0, 2]), (1, [2])])]
noncomputable def B108 : Base := baseOf Pz (fun f i => lkC f i K108) [] [] []
theorem hB108 : BOk B108 := base_ok named_z trivial trivial trivial
noncomputable def N108 (a : Int) : Pos := ⟨(a), (List.replicate 64 0), (0), (List.replicate 12 0), (0), (List.take 2 (List.take 0 (List.replicate 4 0) ++ ((List.replicate 2 0).set 0 (-1)).set 1 (-1) ++ List.drop 2 (List.replicate 4 0)) ++ ((List.replicate 2 0).set 0 (-1)).set 1 (-1) ++ List.drop 4 (List.take 0 (List.replicate 4 0) ++ ((List.replicate 2 0).set 0 (-1)).set 1 (-1) ++ List.drop 2 (List.replicate 4 0))), (-1), (List.replicate 2 0), (0), (1)⟩
noncomputable def ok108 (a : Int) : Bool := true
theorem P108 (a : Int) (h : ok108 a = true) : PS Pz 108 [.int .u8 a] (dPos.res (N108 a)) := ps_sum (n := 14) hB108 (by kernel_rfl) (by kernel_rfl) (by kernel_rfl) h
noncomputable def G108 : List AV → Tr AV := g1 (dI .u8) (fun a => .ret (dPos.res (N108 a)))
theorem s108 : Sound Pz 108 G108 := sound1 fun a => at_rt (P108 a rfl)
noncomputable def K109 : List (Nat × Nat × List (Nat × List Nat)) := [(109, 5, [(0, [0]), (1, [2])])]
noncomputable def B109 : Base := baseOf Pz (fun f i => lkC f i K109) [] [] []
theorem hB109 : BOk B109 := base_ok named_z trivial trivial trivial
noncomputable def N109 (a : Int) : Int := (wr .u8 (8 + a))
noncomputable def ok109 (a : Int) : Bool := true
theorem P109 (a : Int) (h : ok109 a = true) : PS Pz 109 [.int .u8 a] ((dI .u8).res (N109 a)) := ps_sum (n := 14) hB109 (by kernel_rfl) (by kernel_rfl) (by kernel_rfl) h
noncomputable def G109 : List AV → Tr AV := g1 (dI .u8) (fun a => .ret ((dI .u8).res (N109 a)))
theorem s109 : Sound Pz 109 G109 := sound1 fun a => at_rt (P109 a rfl)
noncomputable def K51 : List (Nat × Nat × List (Nat × List Nat)) := [(51, 60, [(0, [0, 3, 4, 38, 39]), (1, [0, 3, 4, 5, 38, 39]), (2, [0, 4, 5, 11, 12, 38, 39]), (3, [0, 4, 5, 11, 12, 13, 38, 39]), (4, (0 :: (rn 4 4 [11, 12, 38, 39]))), (5, (0 :: (rn 4 4 [11, 12, 38, 39]))), (6, (0 :: (rn 4 4 [11, 12, 38, 39]))), (7, [0, 4, 5, 6, 11, 12, 38, 39, 40]), (8, [0, 4, 5, 6, 8, 11, 12, 38, 39]), (9, [0, 4, 5, 6, 8, 11, 12, 38, 39, 45]), (10, [0, 4, 5, 6, 8, 11, 12, 38, 39]), (11, [0, 4, 5, 11, 12, 38, 39]), (12, [0, 4, 5, 11, 12, 38, 39]), (13, [4])])]
noncomputable def B51_1 : Base := baseOf Pz (fun f i => lkC f i K51) [(110, G110), (108, G108), (109, G109)] [] []
theorem hB51_1 : BOk B51_1 := base_ok named_z ⟨s110, s108, s109, trivial⟩ trivial trivial
noncomputable def S51_1 (p1 : Int) (p2 : (List Int)) (x : (Int × Pos)) : St := St.mk (AV.int .u8 p1 :: (an 3 (AV.ptr 1 0 :: AV.ptr 2 0 :: (an 5 (AV.agg [AV.ints .u8 8 p2] :: AV.int .i64 x.fst :: (an 47 [])))))) (Hp.mk [[AV.ints .u8 8 p2], [AV.int .u8 0, AV.ints .u8 64 (List.replicate 64 0), AV.u64 0, AV.ints .u8 12 (List.replicate 12 0), AV.int .u8 0, AV.ints .i8 4 (List.replicate 4 0), AV.int .i8 0, AV.ints .u8 2 (List.replicate 2 0), AV.int .i64 0, AV.int .i64 0], (pc x.snd [])] [] [] 0 0 0)
noncomputable def O51_1 (p1 : Int) (p2 : (List Int)) : (Int × Bool × Pos) → Out := fun y => .exit 0 (St.mk (AV.int .u8 p1 :: (an 3 (AV.ptr 1 0 :: AV.ptr 2 0 :: (an 5 (AV.agg [AV.ints .u8 8 p2] :: AV.int .i64 y.fst :: AV.bool y.snd.fst :: (an 46 [])))))) (Hp.mk [[AV.ints .u8 8 p2], [AV.int .u8 0, AV.ints .u8 64 (List.replicate 64 0), AV.u64 0, AV.ints .u8 12 (List.replicate 12 0), AV.int .u8 0, AV.ints .i8 4 (List.replicate 4 0), AV.int .i8 0, AV.ints .u8 2 (List.replicate 2 0), AV.int .i64 0, AV.int .i64 0], (pc y.snd.snd [])] [] [] 0 0 0))
noncomputable def st51_1 (p1 : Int) (p2 : (List Int)) (x : (Int × Pos)) : Stp (Int × Pos) ((Int × Bool × Pos)) := (bif decide (x.fst < 8) then (bif N110 p1 then (bif p2.getD x.fst.toNat 0 == 4 then (bif decide (x.snd.rooks.getD 1 0 < 0) then (Stp.go (wr .i64 (x.fst + 1), Pos.mk x.snd.variant ((((x.snd.board.set (scale 1 x.fst).toNat (p2.getD x.fst.toNat 0)).set (scale 1 (wr .i64 (8 + x.fst))).toNat 1).set (scale 1 (wr .i64 (56 + x.fst))).toNat (N109 (p2.getD x.fst.toNat 0))).set (scale 1 (wr .i64 (48 + x.fst))).toNat (N109 1)) x.snd.promoted x.snd.pockets x.snd.turn ((x.snd.rooks.set 1 (wr .i8 x.fst)).set 3 (wr .i8 x.fst)) x.snd.passing x.snd.checks x.snd.half x.snd.full)) else (Stp.go (wr .i64 (x.fst + 1), Pos.mk x.snd.variant ((((x.snd.board.set (scale 1 x.fst).toNat (p2.getD x.fst.toNat 0)).set (scale 1 (wr .i64 (8 + x.fst))).toNat 1).set (scale 1 (wr .i64 (56 + x.fst))).toNat (N109 (p2.getD x.fst.toNat 0))).set (scale 1 (wr .i64 (48 + x.fst))).toNat (N109 1)) x.snd.promoted x.snd.pockets x.snd.turn ((x.snd.rooks.set 0 (wr .i8 x.fst)).set 2 (wr .i8 x.fst)) x.snd.passing x.snd.checks x.snd.half x.snd.full))) else (Stp.go (wr .i64 (x.fst + 1), Pos.mk x.snd.variant ((((x.snd.board.set (scale 1 x.fst).toNat (p2.getD x.fst.toNat 0)).set (scale 1 (wr .i64 (8 + x.fst))).toNat 1).set (scale 1 (wr .i64 (56 + x.fst))).toNat (N109 (p2.getD x.fst.toNat 0))).set (scale 1 (wr .i64 (48 + x.fst))).toNat (N109 1)) x.snd.promoted x.snd.pockets x.snd.turn x.snd.rooks x.snd.passing x.snd.checks x.snd.half x.snd.full))) else (Stp.go (wr .i64 (x.fst + 1), Pos.mk x.snd.variant ((((x.snd.board.set (scale 1 x.fst).toNat (p2.getD x.fst.toNat 0)).set (scale 1 (wr .i64 (8 + x.fst))).toNat 1).set (scale 1 (wr .i64 (56 + x.fst))).toNat (N109 (p2.getD x.fst.toNat 0))).set (scale 1 (wr .i64 (48 + x.fst))).toNat (N109 1)) x.snd.promoted x.snd.pockets x.snd.turn x.snd.rooks x.snd.passing x.snd.checks x.snd.half x.snd.full))) else (Stp.out ((x.fst, decide (x.fst < 8), x.snd))))
noncomputable def okL51_1 (p1 : Int) (p2 : (List Int)) (x : (Int × Pos)) : Bool := (bif decide (x.fst < 8) then (decide (0 ≤ x.fst) && decide (x.fst < Int.ofNat 8) && (decide (0 ≤ x.fst) && decide (x.fst < Int.ofNat 64) && (decide (0 ≤ wr .i64 (8 + x.fst)) && decide (wr .i64 (8 + x.fst) < Int.ofNat 64) && (decide (0 ≤ wr .i64 (56 + x.fst)) && decide (wr .i64 (56 + x.fst) < Int.ofNat 64) && (decide (0 ≤ wr .i64 (48 + x.fst)) && decide (wr .i64 (48 + x.fst) < Int.ofNat 64) && (ok110 (p1) && true)))))) else true)
noncomputable def lp51_1 (p1 : Int) (p2 : (List Int)) (x : (Int × Pos)) : Option ((Int × Bool × Pos)) := itl (fun x => bif okL51_1 p1 p2 x then st51_1 p1 p2 x else .bad) many x
abbrev D51_1 {α : Type} (k : Int → (List Int) → (Int × Pos) → α) (s : St) : α := wP s 2 fun q2 => k (tI (tT s 0)) (tN (tX (tA (tT s 11)) 0)) ((tI (tT s 12)), q2)
theorem L51_1 (p1 : Int) (p2 : (List Int)) (x : (Int × Pos)) (r : (Int × Bool × Pos)) (h : lp51_1 p1 p2 x = some r) : LSpec Pz (bodL Pz 51 3) (S51_1 p1 p2 x) (O51_1 p1 p2 r) := LSpec.smd (m := 12) (fn := 51) hB51_1 (D51_1 fun _ _ x => some x) (fun o => match o with | .exit 0 s => wP s 2 fun q2 => some ((tI (tT s 12)), (tB (tT s 13)), q2) | _ => none) (fun _ => rfl) (fun _ => by kernel_rfl) (fun _ => by kernel_rfl) (fun _ => by kernel_rfl) (fun _ => by kernel_rfl) many x r h
noncomputable def F51_1 (b : Code) (s : St) : Tr Out := D51_1 (fun p1 p2 x => lk1 b (bodL Pz 51 3) s (S51_1 p1 p2 x) (lp51_1 p1 p2 x) (O51_1 p1 p2)) s
theorem sF51_1 : ∀ b, LSound Pz b (F51_1 b) := fun _ _ _ h => lk1_ok (L51_1 _ _ _) h
noncomputable def B51 : Base := baseOf Pz (fun f i => lkC f i K51) [(110, G110), (108, G108), (109, G109)] [(51, 3, F51_1)] []
theorem hB51 : BOk B51 := base_ok named_z ⟨s110, s108, s109, trivial⟩ ⟨sF51_1, trivial⟩ trivial
noncomputable def N51 (a : Int) (b : List Int) : Pos := ⟨(((lp51_1 a b (0, N108 a)).getD default).snd.snd.variant), (((lp51_1 a b (0, N108 a)).getD default).snd.snd.board), (((lp51_1 a b (0, N108 a)).getD default).snd.snd.promoted), (((lp51_1 a b (0, N108 a)).getD default).snd.snd.pockets), (((lp51_1 a b (0, N108 a)).getD default).snd.snd.turn), (((lp51_1 a b (0, N108 a)).getD default).snd.snd.rooks), (((lp51_1 a b (0, N108 a)).getD default).snd.snd.passing), (((lp51_1 a b (0, N108 a)).getD default).snd.snd.checks), (((lp51_1 a b (0, N108 a)).getD default).snd.snd.half), (((lp51_1 a b (0, N108 a)).getD default).snd.snd.full)⟩
noncomputable def ok51 (a : Int) (b : List Int) : Bool := ((lp51_1 a b (0, N108 a)).isSome && true)
theorem P51 (a : Int) (b : List Int) (h : ok51 a b = true) : PS Pz 51 [.int .u8 a, .agg [.ints .u8 8 b]] (dPos.res (N51 a b)) := ps_sum (n := 14) hB51 (by kernel_rfl) (by kernel_rfl) (by kernel_rfl) h
noncomputable def G51 : List AV → Tr AV := g2 (dI .u8) (dArr .u8 8) (fun a b => gdv (ok51 a b) (dPos.res (N51 a b)))
theorem s51 : Sound Pz 51 G51 := sound2 fun a b => at_gd (P51 a b)
noncomputable def K52 : List (Nat × Nat × List (Nat × List Nat)) := [(52, 2, [(0, [0]), (1, [0])])]
noncomputable def B52 : Base := baseOf Pz (fun f i => lkC f i K52) [] [] []
theorem hB52 : BOk B52 := base_ok named_z trivial trivial trivial
noncomputable def N52  : List Int := (if 8 = 8 then ((((((((List.replicate 8 0).set 0 4).set 1 2).set 2 3).set 3 5).set 4 6).set 5 3).set 6 2).set 7 4 else List.take 0 (List.replicate 8 0) ++ ((((((((List.replicate 8 0).set 0 4).set 1 2).set 2 3).set 3 5).set 4 6).set 5 3).set 6 2).set 7 4 ++ List.drop 8 (List.replicate 8 0))
noncomputable def ok52  : Bool := true
theorem P52  (h : ok52  = true) : PS Pz 52 [] ((dArr .u8 8).res (N52 )) := ps_sum (n := 14) hB52 (by kernel_rfl) (by kernel_rfl) (by kernel_rfl) h
noncomputable def G52 : List AV → Tr AV := g0  (.ret ((dArr .u8 8).res (N52 )))
theorem s52 : Sound Pz 52 G52 := sound0 (at_rt (P52 rfl))
noncomputable def K49 : List (Nat × Nat × List (Nat × List Nat)) := [(49, 28, [(0, [0]), (1, [0, 1]), (2, [0, 1]), (3, [0, 1, 10]), (4, [0, 1, 10, 11]), (5, [0, 1, 2, 10]), (6, [0, 1, 10]), (7, [0, 1, 10]), (8, [0, 1, 17, 18, 19]), (9, (0 :: 1 :: (rn 17 4 []))), (10, [0, 1, 4, 17, 18, 19]), (11, [0, 1, 17, 18, 19]), (12, [0, 1, 17, 18, 19]), (13, [0])])]
noncomputable def B49_1 : Base := baseOf Pz (fun f i => lkC f i K49) [(51, G51), (52, G52)] [] []
theorem hB49_1 : BOk B49_1 := base_ok named_z ⟨s51, s52, trivial⟩ trivial trivial
noncomputable def S49_1  (x : (Int × Pos)) : St := St.mk (AV.ptr 0 0 :: AV.ptr 1 0 :: (an 8 (AV.int .i64 x.fst :: (an 17 [])))) (Hp.mk [[AV.int .u8 0, AV.ints .u8 64 (List.replicate 64 0), AV.u64 0, AV.ints .u8 12 (List.replicate 12 0), AV.int .u8 0, AV.ints .i8 4 (List.replicate 4 0), AV.int .i8 0, AV.ints .u8 2 (List.replicate 2 0), AV.int .i64 0, AV.int .i64 0], (pc x.snd [])] [] [] 0 0 0)
noncomputable def O49_1  : (Int × Bool × Pos) → Out := fun y => .exit 0 (St.mk (AV.ptr 0 0 :: AV.ptr 1 0 :: (an 8 (AV.int .i64 y.fst :: AV.bool y.snd.fst :: (an 16 [])))) (Hp.mk [[AV.int .u8 0, AV.ints .u8 64 (List.replicate 64 0), AV.u64 0, AV.ints .u8 12 (List.replicate 12 0), AV.int .u8 0, AV.ints .i8 4 (List.replicate 4 0), AV.int .i8 0, AV.ints .u8 2 (List.replicate 2 0), AV.int .i64 0, AV.int .i64 0], (pc y.snd.snd [])] [] [] 0 0 0))
noncomputable def st49_1  (x : (Int × Pos)) : Stp (Int × Pos) ((Int × Bool × Pos)) := (bif decide (x.fst < 32) then (Stp.go (wr .i64 (x.fst + 1), Pos.mk x.snd.variant (x.snd.board.set (scale 1 x.fst).toNat 1) x.snd.promoted x.snd.pockets x.snd.turn x.snd.rooks x.snd.passing x.snd.checks x.snd.half x.snd.full)) else (Stp.out ((x.fst, decide (x.fst < 32), x.snd))))
noncomputable def okL49_1  (x : (Int × Pos)) : Bool := (bif decide (x.fst < 32) then (decide (0 ≤ x.fst) && decide (x.fst < Int.ofNat 64) && true) else true)
noncomputable def lp49_1  (x : (Int × Pos)) : Option ((Int × Bool × Pos)) := itl (fun x => bif okL49_1  x then st49_1  x else .bad) many x
abbrev D49_1 {α : Type} (k : (Int × Pos) → α) (s : St) : α := wP s 1 fun q1 => k ((tI (tT s 10)), q1)
theorem L49_1  (x : (Int × Pos)) (r : (Int × Bool × Pos)) (h : lp49_1  x = some r) : LSpec Pz (bodL Pz 49 4) (S49_1  x) (O49_1  r) := LSpec.smd (m := 12) (fn := 49) hB49_1 (D49_1 fun x => some x) (fun o => match o with | .exit 0 s => wP s 1 fun q1 => some ((tI (tT s 10)), (tB (tT s 11)), q1) | _ => none) (fun _ => rfl) (fun _ => by kernel_rfl) (fun _ => by kernel_rfl) (fun _ => by kernel_rfl) (fun _ => by kernel_rfl) many x r h
noncomputable def F49_1 (b : Code) (s : St) : Tr Out := D49_1 (fun x => lk1 b (bodL Pz 49 4) s (S49_1 x) (lp49_1 x) (O49_1 )) s
theorem sF49_1 : ∀ b, LSound Pz b (F49_1 b) := fun _ _ _ h => lk1_ok (L49_1 _) h
noncomputable def B49_2 : Base := baseOf Pz (fun f i => lkC f i K49) [(51, G51), (52, G52)] [(49, 4, F49_1)] []
theorem hB49_2 : BOk B49_2 := base_ok named_z ⟨s51, s52, trivial⟩ ⟨sF49_1, trivial⟩ trivial
noncomputable def S49_2  (x : (Int × Pos)) : St := St.mk (AV.ptr 0 0 :: AV.ptr 1 0 :: (an 15 (AV.vlist true [AV.cint .i64 33, AV.cint .i64 34, AV.cint .i64 37, AV.cint .i64 38] :: AV.cint .i64 (Int.ofNat 4) :: AV.int .i64 x.fst :: (an 8 [])))) (Hp.mk [[AV.int .u8 0, AV.ints .u8 64 (List.replicate 64 0), AV.u64 0, AV.ints .u8 12 (List.replicate 12 0), AV.int .u8 0, AV.ints .i8 4 (List.replicate 4 0), AV.int .i8 0, AV.ints .u8 2 (List.replicate 2 0), AV.int .i64 0, AV.int .i64 0], (pc x.snd [])] [] [] 0 0 0)
noncomputable def O49_2  : (Int × Bool × Pos) → Out := fun y => .exit 2 (St.mk (AV.ptr 0 0 :: AV.ptr 1 0 :: (an 15 (AV.vlist true [AV.cint .i64 33, AV.cint .i64 34, AV.cint .i64 37, AV.cint .i64 38] :: AV.cint .i64 (Int.ofNat 4) :: AV.int .i64 y.fst :: AV.bool y.snd.fst :: (an 7 [])))) (Hp.mk [[AV.int .u8 0, AV.ints .u8 64 (List.replicate 64 0), AV.u64 0, AV.ints .u8 12 (List.replicate 12 0), AV.int .u8 0, AV.ints .i8 4 (List.replicate 4 0), AV.int .i8 0, AV.ints .u8 2 (List.replicate 2 0), AV.int .i64 0, AV.int .i64 0], (pc y.snd.snd [])] [] [] 0 0 0))
noncomputable def st49_2  (x : (Int × Pos)) : Stp (Int × Pos) ((Int × Bool × Pos)) := (bif decide (x.fst < Int.ofNat 4) then (bif x.fst == Int.ofNat 0 then (Stp.go (wr .i64 (x.fst + 1), Pos.mk x.snd.variant (x.snd.board.set 33 1) x.snd.promoted x.snd.pockets x.snd.turn x.snd.rooks x.snd.passing x.snd.checks x.snd.half x.snd.full)) else (bif x.fst == Int.ofNat 1 then (Stp.go (wr .i64 (x.fst + 1), Pos.mk x.snd.variant (x.snd.board.set 34 1) x.snd.promoted x.snd.pockets x.snd.turn x.snd.rooks x.snd.passing x.snd.checks x.snd.half x.snd.full)) else (bif x.fst == Int.ofNat 2 then (Stp.go (wr .i64 (x.fst + 1), Pos.mk x.snd.variant (x.snd.board.set 37 1) x.snd.promoted x.snd.pockets x.snd.turn x.snd.rooks x.snd.passing x.snd.checks x.snd.half x.snd.full)) else (Stp.go (wr .i64 (x.fst + 1), Pos.mk x.snd.variant (x.snd.board.set 38 1) x.snd.promoted x.snd.pockets x.snd.turn x.snd.rooks x.snd.passing x.snd.checks x.snd.half x.snd.full))))) else (Stp.out ((x.fst, decide (x.fst < Int.ofNat 4), x.snd))))
noncomputable def okL49_2  (x : (Int × Pos)) : Bool := (bif decide (x.fst < Int.ofNat 4) then (decide (0 ≤ x.fst) && decide (x.fst < Int.ofNat 4) && (bif x.fst == Int.ofNat 0 then true else (bif x.fst == Int.ofNat 1 then true else (bif x.fst == Int.ofNat 2 then true else (x.fst == Int.ofNat 3 && true))))) else true)
noncomputable def lp49_2  (x : (Int × Pos)) : Option ((Int × Bool × Pos)) := itl (fun x => bif okL49_2  x then st49_2  x else .bad) many x
abbrev D49_2 {α : Type} (k : (Int × Pos) → α) (s : St) : α := wP s 1 fun q1 => k ((tI (tT s 19)), q1)
theorem L49_2  (x : (Int × Pos)) (r : (Int × Bool × Pos)) (h : lp49_2  x = some r) : LSpec Pz (bodL Pz 49 9) (S49_2  x) (O49_2  r) := LSpec.smd (m := 12) (fn := 49) hB49_2 (D49_2 fun x => some x) (fun o => match o with | .exit 2 s => wP s 1 fun q1 => some ((tI (tT s 19)), (tB (tT s 20)), q1) | _ => none) (fun _ => rfl) (fun _ => by kernel_rfl) (fun _ => by kernel_rfl) (fun _ => by kernel_rfl) (fun _ => by kernel_rfl) many x r h
noncomputable def F49_2 (b : Code) (s : St) : Tr Out := D49_2 (fun x => lk1 b (bodL Pz 49 9) s (S49_2 x) (lp49_2 x) (O49_2 )) s
theorem sF49_2 : ∀ b, LSound Pz b (F49_2 b) := fun _ _ _ h => lk1_ok (L49_2 _) h
noncomputable def B49 : Base := baseOf Pz (fun f i => lkC f i K49) [(51, G51), (52, G52)] [(49, 4, F49_1), (49, 9, F49_2)] []
theorem hB49 : BOk B49 := base_ok named_z ⟨s51, s52, trivial⟩ ⟨sF49_1, sF49_2, trivial⟩ trivial
noncomputable def N49  : Pos := ⟨(((lp49_2 (0, ((lp49_1 (0, Pos.mk (N51 7 N52).variant (N51 7 N52).board (N51 7 N52).promoted (N51 7 N52).pockets (N51 7 N52).turn (List.take 0 (N51 7 N52).rooks ++ ((List.replicate 2 0).set 0 (-1)).set 1 (-1) ++ List.drop 2 (N51 7 N52).rooks) (N51 7 N52).passing (N51 7 N52).checks (N51 7 N52).half (N51 7 N52).full)).getD default).snd.snd)).getD default).snd.snd.variant), (((lp49_2 (0, ((lp49_1 (0, Pos.mk (N51 7 N52).variant (N51 7 N52).board (N51 7 N52).promoted (N51 7 N52).pockets (N51 7 N52).turn (List.take 0 (N51 7 N52).rooks ++ ((List.replicate 2 0).set 0 (-1)).set 1 (-1) ++ List.drop 2 (N51 7 N52).rooks) (N51 7 N52).passing (N51 7 N52).checks (N51 7 N52).half (N51 7 N52).full)).getD default).snd.snd)).getD default).snd.snd.board), (((lp49_2 (0, ((lp49_1 (0, Pos.mk (N51 7 N52).variant (N51 7 N52).board (N51 7 N52).promoted (N51 7 N52).pockets (N51 7 N52).turn (List.take 0 (N51 7 N52).rooks ++ ((List.replicate 2 0).set 0 (-1)).set 1 (-1) ++ List.drop 2 (N51 7 N52).rooks) (N51 7 N52).passing (N51 7 N52).checks (N51 7 N52).half (N51 7 N52).full)).getD default).snd.snd)).getD default).snd.snd.promoted), (((lp49_2 (0, ((lp49_1 (0, Pos.mk (N51 7 N52).variant (N51 7 N52).board (N51 7 N52).promoted (N51 7 N52).pockets (N51 7 N52).turn (List.take 0 (N51 7 N52).rooks ++ ((List.replicate 2 0).set 0 (-1)).set 1 (-1) ++ List.drop 2 (N51 7 N52).rooks) (N51 7 N52).passing (N51 7 N52).checks (N51 7 N52).half (N51 7 N52).full)).getD default).snd.snd)).getD default).snd.snd.pockets), (((lp49_2 (0, ((lp49_1 (0, Pos.mk (N51 7 N52).variant (N51 7 N52).board (N51 7 N52).promoted (N51 7 N52).pockets (N51 7 N52).turn (List.take 0 (N51 7 N52).rooks ++ ((List.replicate 2 0).set 0 (-1)).set 1 (-1) ++ List.drop 2 (N51 7 N52).rooks) (N51 7 N52).passing (N51 7 N52).checks (N51 7 N52).half (N51 7 N52).full)).getD default).snd.snd)).getD default).snd.snd.turn), (((lp49_2 (0, ((lp49_1 (0, Pos.mk (N51 7 N52).variant (N51 7 N52).board (N51 7 N52).promoted (N51 7 N52).pockets (N51 7 N52).turn (List.take 0 (N51 7 N52).rooks ++ ((List.replicate 2 0).set 0 (-1)).set 1 (-1) ++ List.drop 2 (N51 7 N52).rooks) (N51 7 N52).passing (N51 7 N52).checks (N51 7 N52).half (N51 7 N52).full)).getD default).snd.snd)).getD default).snd.snd.rooks), (((lp49_2 (0, ((lp49_1 (0, Pos.mk (N51 7 N52).variant (N51 7 N52).board (N51 7 N52).promoted (N51 7 N52).pockets (N51 7 N52).turn (List.take 0 (N51 7 N52).rooks ++ ((List.replicate 2 0).set 0 (-1)).set 1 (-1) ++ List.drop 2 (N51 7 N52).rooks) (N51 7 N52).passing (N51 7 N52).checks (N51 7 N52).half (N51 7 N52).full)).getD default).snd.snd)).getD default).snd.snd.passing), (((lp49_2 (0, ((lp49_1 (0, Pos.mk (N51 7 N52).variant (N51 7 N52).board (N51 7 N52).promoted (N51 7 N52).pockets (N51 7 N52).turn (List.take 0 (N51 7 N52).rooks ++ ((List.replicate 2 0).set 0 (-1)).set 1 (-1) ++ List.drop 2 (N51 7 N52).rooks) (N51 7 N52).passing (N51 7 N52).checks (N51 7 N52).half (N51 7 N52).full)).getD default).snd.snd)).getD default).snd.snd.checks), (((lp49_2 (0, ((lp49_1 (0, Pos.mk (N51 7 N52).variant (N51 7 N52).board (N51 7 N52).promoted (N51 7 N52).pockets (N51 7 N52).turn (List.take 0 (N51 7 N52).rooks ++ ((List.replicate 2 0).set 0 (-1)).set 1 (-1) ++ List.drop 2 (N51 7 N52).rooks) (N51 7 N52).passing (N51 7 N52).checks (N51 7 N52).half (N51 7 N52).full)).getD default).snd.snd)).getD default).snd.snd.half), (((lp49_2 (0, ((lp49_1 (0, Pos.mk (N51 7 N52).variant (N51 7 N52).board (N51 7 N52).promoted (N51 7 N52).pockets (N51 7 N52).turn (List.take 0 (N51 7 N52).rooks ++ ((List.replicate 2 0).set 0 (-1)).set 1 (-1) ++ List.drop 2 (N51 7 N52).rooks) (N51 7 N52).passing (N51 7 N52).checks (N51 7 N52).half (N51 7 N52).full)).getD default).snd.snd)).getD default).snd.snd.full)⟩
noncomputable def ok49  : Bool := (ok51 (7) (N52) && ((lp49_1 (0, Pos.mk (N51 7 N52).variant (N51 7 N52).board (N51 7 N52).promoted (N51 7 N52).pockets (N51 7 N52).turn (List.take 0 (N51 7 N52).rooks ++ ((List.replicate 2 0).set 0 (-1)).set 1 (-1) ++ List.drop 2 (N51 7 N52).rooks) (N51 7 N52).passing (N51 7 N52).checks (N51 7 N52).half (N51 7 N52).full)).isSome && ((lp49_2 (0, ((lp49_1 (0, Pos.mk (N51 7 N52).variant (N51 7 N52).board (N51 7 N52).promoted (N51 7 N52).pockets (N51 7 N52).turn (List.take 0 (N51 7 N52).rooks ++ ((List.replicate 2 0).set 0 (-1)).set 1 (-1) ++ List.drop 2 (N51 7 N52).rooks) (N51 7 N52).passing (N51 7 N52).checks (N51 7 N52).half (N51 7 N52).full)).getD default).snd.snd)).isSome && true)))
theorem P49  (h : ok49  = true) : PS Pz 49 [] (dPos.res (N49 )) := ps_sum (n := 14) hB49 (by kernel_rfl) (by kernel_rfl) (by kernel_rfl) h
noncomputable def G49 : List AV → Tr AV := g0  (gdv ok49 (dPos.res (N49)))
theorem s49 : Sound Pz 49 G49 := sound0 (at_gd P49)
noncomputable def K50 : List (Nat × Nat × List (Nat × List Nat)) := [(50, 42, [(0, [0]), (1, [0, 1]), (2, [0, 1, 9, 10, 11]), (3, (0 :: 1 :: (rn 9 4 []))), (4, (rn 0 4 [9, 10, 11])), (5, [0, 1, 2, 9, 10, 11, 16, 17, 18]), (6, (0 :: 1 :: 2 :: 9 :: 10 :: 11 :: (rn 16 4 []))), (7, [0, 1, 2, 4, 5, 9, 10, 11, 16, 17, 18]), (8, [0, 1, 2, 9, 10, 11, 16, 17, 18]), (9, [0, 1, 2, 9, 10, 11, 16, 17, 18]), (10, [0, 1, 9, 10, 11]), (11, [0])])]
noncomputable def B50 : Base := baseOf Pz (fun f i => lkC f i K50) [(108, G108), (109, G109)] [] []
theorem hB50 : BOk B50 := base_ok named_z ⟨s108, s109, trivial⟩ trivial trivial
noncomputable def N50  : Pos := ⟨((N108 8).variant), (((((((((((((((((N108 8).board.set 0 (N109 5)).set 7 5).set 1 (N109 4)).set 6 4).set 2 (N109 3)).set 5 3).set 3 (N109 2)).set 4 2).set 8 (N109 6)).set 15 6).set 9 (N109 4)).set 14 4).set 10 (N109 3)).set 13 3).set 11 (N109 2)).set 12 2), ((N108 8).promoted), ((N108 8).pockets), ((N108 8).turn), ((N108 8).rooks), ((N108 8).passing), ((N108 8).checks), ((N108 8).half), ((N108 8).full)⟩
noncomputable def ok50  : Bool := true
theorem P50  (h : ok50  = true) : PS Pz 50 [] (dPos.res (N50 )) := ps_sum (n := 14) hB50 (by kernel_rfl) (by kernel_rfl) (by kernel_rfl) h
noncomputable def G50 : List AV → Tr AV := g0  (.ret (dPos.res (N50 )))
theorem s50 : Sound Pz 50 G50 := sound0 (at_rt (P50 rfl))
noncomputable def K21 : List (Nat × Nat × List (Nat × List Nat)) := [(21, 19, [(0, [0, 2]), (1, [0, 2, 4]), (2, [2, 3]), (3, [0, 2, 8]), (4, [2, 3]), (5, [0, 2, 12]), (6, [2, 3]), (7, [2, 3])])]
noncomputable def B21 : Base := baseOf Pz (fun f i => lkC f i K21) [(49, G49), (50, G50), (51, G51), (52, G52)] [] []
theorem hB21 : BOk B21 := base_ok named_z ⟨s49, s50, s51, s52, trivial⟩ trivial trivial
noncomputable def N21 (a : Int) : (Pos × Bool) := (bif decide (a ≥ 9) then (⟨(0), (List.replicate 64 0), (0), (List.replicate 12 0), (0), (List.replicate 4 0), (0), (List.replicate 2 0), (0), (0)⟩, (false)) else (bif a == 7 then (⟨(N49.variant), (N49.board), (N49.promoted), (N49.pockets), (N49.turn), (N49.rooks), (N49.passing), (N49.checks), (N49.half), (N49.full)⟩, (true)) else (bif a == 8 then (⟨(N50.variant), (N50.board), (N50.promoted), (N50.pockets), (N50.turn), (N50.rooks), (N50.passing), (N50.checks), (N50.half), (N50.full)⟩, (true)) else (⟨((N51 a N52).variant), ((N51 a N52).board), ((N51 a N52).promoted), ((N51 a N52).pockets), ((N51 a N52).turn), ((N51 a N52).rooks), ((N51 a N52).passing), ((N51 a N52).checks), ((N51 a N52).half), ((N51 a N52).full)⟩, (true)))))
noncomputable def ok21 (a : Int) : Bool := (bif decide (a ≥ 9) then true else (bif a == 7 then (ok49  && true) else (bif a == 8 then true else (ok51 (a) (N52) && true))))
theorem P21 (a : Int) (h : ok21 a = true) : PS Pz 21 [.int .u8 a] ((d2 dPos dB).res (N21 a)) := ps_sum (n := 14) hB21 (by kernel_rfl) (by kernel_rfl) (by kernel_rfl) h
noncomputable def G21 : List AV → Tr AV := g1 (dI .u8) (fun a => gdv (ok21 a) ((d2 dPos dB).res (N21 a)))
theorem s21 : Sound Pz 21 G21 := sound1 fun a => at_gd (P21 a)
noncomputable def K13 : List (Nat × Nat × List (Nat × List Nat)) := [(13, 77, [(0, (rn 41 4 (47 :: 48 :: 49 :: (rn 52 5 (rn 59 5 (rn 66 4 (rn 72 4 []))))))), (1, (1 :: (rn 41 4 (47 :: 48 :: 49 :: (rn 52 5 (rn 59 5 (rn 66 4 (rn 72 4 [])))))))), (2, (1 :: 3 :: (rn 41 4 (47 :: 48 :: 49 :: (rn 52 5 (rn 59 5 (rn 66 4 (rn 72 4 [])))))))), (3, (1 :: 3 :: (rn 41 4 (47 :: 48 :: 49 :: (rn 52 5 (rn 59 5 (rn 66 4 (rn 72 4 [])))))))), (4, (1 :: 3 :: (rn 41 4 (47 :: 48 :: 49 :: (rn 52 5 (rn 59 5 (rn 66 4 (rn 72 4 [])))))))), (5, (1 :: 3 :: (rn 41 4 (47 :: 48 :: 49 :: (rn 52 5 (rn 59 5 (rn 66 4 (rn 72 4 [])))))))), (6, (1 :: 3 :: (rn 41 4 (47 :: 48 :: 49 :: (rn 52 5 (rn 59 5 (rn 66 4 (rn 72 4 [])))))))), (7, (1 :: 3 :: 4 :: (rn 41 4 (47 :: 48 :: 49 :: (rn 52 5 (rn 59 5 (rn 66 4 (rn 72 4 [])))))))), (8, (1 :: 3 :: 4 :: (rn 41 4 (47 :: 48 :: 49 :: (rn 52 5 (rn 59 5 (rn 66 4 (rn 72 4 [])))))))), (9, (1 :: 3 :: 4 :: (rn 41 4 (47 :: 48 :: 49 :: (rn 52 5 (rn 59 5 (rn 66 4 (rn 72 4 [])))))))), (10, (1 :: 3 :: 4 :: (rn 41 4 (47 :: 48 :: 49 :: (rn 52 5 (rn 59 5 (rn 66 4 (rn 72 4 [])))))))), (11, (1 :: 3 :: 4 :: (rn 41 4 (47 :: 48 :: 49 :: (rn 52 5 (rn 59 5 (rn 66 4 (rn 72 4 [])))))))), (12, (1 :: 3 :: 4 :: 5 :: (rn 41 4 (47 :: 48 :: 49 :: (rn 52 5 (rn 59 5 (rn 66 4 (rn 72 4 [])))))))), (13, (1 :: 3 :: 4 :: 5 :: (rn 41 4 (47 :: 48 :: 49 :: (rn 52 5 (rn 59 5 (rn 66 4 (rn 72 4 [])))))))), (14, (1 :: 3 :: 4 :: 5 :: (rn 41 4 (47 :: 48 :: 49 :: (rn 52 5 (rn 59 5 (rn 66 4 (rn 72 4 [])))))))), (15, (1 :: 3 :: 5 :: 6 :: (rn 41 4 (47 :: 48 :: 49 :: (rn 52 5 (rn 59 5 (rn 66 4 (rn 72 4 [])))))))), (16, [0])])]
noncomputable def B13 : Base := baseOf Pz (fun f i => lkC f i K13) [(11, G11), (30, G30), (21, G21)] [] []
theorem hB13 : BOk B13 := base_ok named_z ⟨s11, s30, s21, trivial⟩ trivial trivial
noncomputable def N13  : Bool := (bif Int.ofNat 20 == 20 then (bif Int.ofNat 10 == 10 then (bif Int.ofNat 2 == 2 then (bif ((N11 (Pos.mk 4 (li [0, 0, 0, 0, 0, 0, 0, 0, 0, 0, 0, 0, 0, 0, 0, 0, 0, 0, 0, 0, 0, 0, 0, 0, 0, 0, 0, 0, 1, 0, 0, 0, 0, 0, 0, 9, 0, 9, 0, 0, 0, 0, 0, 0, 0, 0, 0, 0, 0, 0, 0, 0, 0, 0, 9, 0, 0, 0, 0, 0, 0, 0, 0, 0]) 0 (li [0, 0, 0, 0, 0, 0, 0, 0, 0, 0, 0, 0]) 0 (li [0, 0, 0, 0]) (-1) (li [0, 0]) 0 1)).getD 0 default).to == 35 then (bif ((N11 (Pos.mk 4 (li [0, 0, 0, 0, 0, 0, 0, 0, 0, 0, 0, 0, 0, 0, 0, 0, 0, 0, 0, 0, 0, 0, 0, 0, 0, 0, 0, 0, 1, 0, 0, 0, 0, 0, 0, 9, 0, 9, 0, 0, 0, 0, 0, 0, 0, 0, 0, 0, 0, 0, 0, 0, 0, 0, 9, 0, 0, 0, 0, 0, 0, 0, 0, 0]) 0 (li [0, 0, 0, 0, 0, 0, 0, 0, 0, 0, 0, 0]) 0 (li [0, 0, 0, 0]) (-1) (li [0, 0]) 0 1)).getD 1 default).to == 37 then (bif Int.ofNat 0 == 0 then (eqOut BinOp.eql ((N30 (Pos.mk 6 (li [0, 0, 0, 0, 6, 0, 0, 0, 0, 0, 0, 0, 0, 0, 0, 0, 0, 0, 0, 0, 0, 0, 0, 0, 0, 0, 0, 0, 0, 0, 0, 0, 0, 0, 0, 0, 14, 0, 0, 0, 0, 0, 0, 0, 0, 0, 0, 0, 0, 0, 0, 0, 0, 0, 0, 0, 0, 0, 0, 0, 0, 0, 0, 0]) 0 (li [0, 0, 0, 0, 0, 0, 0, 0, 0, 0, 0, 0]) 0 (li [0, 0, 0, 0]) (-1) (li [0, 0]) 0 1)).fst == 2 && ((N30 (Pos.mk 6 (li [0, 0, 0, 0, 6, 0, 0, 0, 0, 0, 0, 0, 0, 0, 0, 0, 0, 0, 0, 0, 0, 0, 0, 0, 0, 0, 0, 0, 0, 0, 0, 0, 0, 0, 0, 0, 14, 0, 0, 0, 0, 0, 0, 0, 0, 0, 0, 0, 0, 0, 0, 0, 0, 0, 0, 0, 0, 0, 0, 0, 0, 0, 0, 0]) 0 (li [0, 0, 0, 0, 0, 0, 0, 0, 0, 0, 0, 0]) 0 (li [0, 0, 0, 0]) (-1) (li [0, 0]) 0 1)).snd == 6 && true))) else (false)) else (false)) else (false)) else (false)) else (false)) else (false))
noncomputable def ok13  : Bool := (ok21 (0) && (ok11 (Pos.mk 4 (li [0, 0, 0, 0, 0, 0, 0, 0, 0, 0, 0, 0, 0, 0, 0, 0, 0, 0, 0, 0, 0, 0, 0, 0, 0, 0, 0, 0, 1, 0, 0, 0, 0, 0, 0, 9, 0, 9, 0, 0, 0, 0, 0, 0, 0, 0, 0, 0, 0, 0, 0, 0, 0, 0, 9, 0, 0, 0, 0, 0, 0, 0, 0, 0]) 0 (li [0, 0, 0, 0, 0, 0, 0, 0, 0, 0, 0, 0]) 0 (li [0, 0, 0, 0]) (-1) (li [0, 0]) 0 1) && (ok11 (Pos.mk (N21 0).fst.variant (li zbd) (N21 0).fst.promoted (li [0, 0, 0, 0, 0, 0, 0, 0, 0, 0, 0, 0]) (N21 0).fst.turn (li [7, 0, 7, 0]) (N21 0).fst.passing (li [0, 0]) (N21 0).fst.half (N21 0).fst.full) && (bif Int.ofNat 20 == 20 then (ok11 (Pos.mk 0 (li [0, 0, 0, 0, 6, 0, 0, 0, 0, 0, 0, 0, 4, 0, 0, 0, 0, 0, 0, 0, 0, 0, 0, 0, 0, 0, 0, 0, 0, 0, 0, 0, 0, 0, 0, 0, 0, 0, 0, 0, 0, 0, 0, 0, 0, 0, 0, 0, 0, 0, 0, 0, 0, 0, 0, 0, 14, 0, 0, 0, 12, 0, 0, 0]) 0 (li [0, 0, 0, 0, 0, 0, 0, 0, 0, 0, 0, 0]) 0 (li [0, 0, 0, 0]) (-1) (li [0, 0]) 0 1) && (bif Int.ofNat 10 == 10 then (bif Int.ofNat 2 == 2 then (decide (0 ≤ 0) && decide (0 < Int.ofNat 2) && (bif ((N11 (Pos.mk 4 (li [0, 0, 0, 0, 0, 0, 0, 0, 0, 0, 0, 0, 0, 0, 0, 0, 0, 0, 0, 0, 0, 0, 0, 0, 0, 0, 0, 0, 1, 0, 0, 0, 0, 0, 0, 9, 0, 9, 0, 0, 0, 0, 0, 0, 0, 0, 0, 0, 0, 0, 0, 0, 0, 0, 9, 0, 0, 0, 0, 0, 0, 0, 0, 0]) 0 (li [0, 0, 0, 0, 0, 0, 0, 0, 0, 0, 0, 0]) 0 (li [0, 0, 0, 0]) (-1) (li [0, 0]) 0 1)).getD 0 default).to == 35 then (decide (0 ≤ 1) && decide (1 < Int.ofNat 2) && (bif ((N11 (Pos.mk 4 (li [0, 0, 0, 0, 0, 0, 0, 0, 0, 0, 0, 0, 0, 0, 0, 0, 0, 0, 0, 0, 0, 0, 0, 0, 0, 0, 0, 0, 1, 0, 0, 0, 0, 0, 0, 9, 0, 9, 0, 0, 0, 0, 0, 0, 0, 0, 0, 0, 0, 0, 0, 0, 0, 0, 9, 0, 0, 0, 0, 0, 0, 0, 0, 0]) 0 (li [0, 0, 0, 0, 0, 0, 0, 0, 0, 0, 0, 0]) 0 (li [0, 0, 0, 0]) (-1) (li [0, 0]) 0 1)).getD 1 default).to == 37 then (ok11 (Pos.mk 6 (li [0, 0, 0, 0, 6, 0, 0, 0, 0, 0, 0, 0, 0, 0, 0, 0, 0, 0, 0, 0, 0, 0, 0, 0, 0, 0, 0, 0, 0, 0, 0, 0, 0, 0, 0, 0, 14, 0, 0, 0, 0, 0, 0, 0, 0, 0, 0, 0, 0, 0, 0, 0, 0, 0, 0, 0, 0, 0, 0, 0, 0, 0, 0, 0]) 0 (li [0, 0, 0, 0, 0, 0, 0, 0, 0, 0, 0, 0]) 0 (li [0, 0, 0, 0]) (-1) (li [0, 0]) 0 1) && (bif Int.ofNat 0 == 0 then (ok30 (Pos.mk 6 (li [0, 0, 0, 0, 6, 0, 0, 0, 0, 0, 0, 0, 0, 0, 0, 0, 0, 0, 0, 0, 0, 0, 0, 0, 0, 0, 0, 0, 0, 0, 0, 0, 0, 0, 0, 0, 14, 0, 0, 0, 0, 0, 0, 0, 0, 0, 0, 0, 0, 0, 0, 0, 0, 0, 0, 0, 0, 0, 0, 0, 0, 0, 0, 0]) 0 (li [0, 0, 0, 0, 0, 0, 0, 0, 0, 0, 0, 0]) 0 (li [0, 0, 0, 0]) (-1) (li [0, 0]) 0 1) && true) else true)) else true)) else true)) else true) else true)) else true))))
theorem P13  (h : ok13  = true) : PS Pz 13 [] (dB.res (N13 )) := ps_sum (n := 14) hB13 (by kernel_rfl) (by kernel_rfl) (by kernel_rfl) h
noncomputable def G13 : List AV → Tr AV := g0  (gdv ok13 (dB.res (N13)))
theorem s13 : Sound Pz 13 G13 := sound0 (at_gd P13)
end Kz
end
section
namespace Kz
open Go
set_option maxRecDepth 100000
set_option maxHeartbeats 4000000
def inB (a b x : Int) : Bool := decide (a ≤ x) && decide (x ≤ b)
theorem inB_iff {a b x : Int} : inB a b x = true ↔ a ≤ x ∧ x ≤ b := by unfold inB; simp
def posInB (p : Pos) : Bool :=
  inB 0 255 p.variant && (p.board.length == 64 && p.board.all (inB 0 255)) && (p.pockets.length == 12 && p.pockets.all (inB 0 255)) && inB 0 255 p.turn && (p.rooks.length == 4 && p.rooks.all (inB (-128) 127)) && inB (-128) 127 p.passing && (p.checks.length == 2 && p.checks.all (inB 0 255)) && inB (-9223372036854775808) 9223372036854775807 p.half && inB (-9223372036854775808) 9223372036854775807 p.full
theorem posIn_of {p : Pos} (h : posInB p = true) : PosIn p := by
  unfold posInB at h
  simp only [Bool.and_eq_true, beq_iff_eq, List.all_eq_true, inB_iff] at h
  obtain ⟨⟨⟨⟨⟨⟨⟨⟨a, b⟩, c⟩, d⟩, e⟩, f⟩, g⟩, i⟩, j⟩ := h
  exact ⟨a.1, a.2, b.1, b.2, c.1, c.2, d.1, d.2, e.1, e.2, f.1, f.2, g.1, g.2, i, j⟩
theorem ok13_true : ok13 = true := by
  unfold ok13
  refine a_true (by decide +kernel) fun _ => ?_
  repeat' (first | with_reducible rfl | refine a_true (t11 (posIn_of (by decide +kernel))) (fun _ => ?_) | refine a_true (t30 (posIn_of (by decide +kernel))) (fun _ => ?_) | refine a_true (by decide +kernel) (fun _ => ?_) | refine c_true (fun _ => ?_) (fun _ => ?_))
theorem N13_true : N13 = true := by decide +kernel
end Kz
end
section
namespace Kz
open Go Go.RowKit Go.Proofs
set_option maxRecDepth 100000
set_option maxHeartbeats 4000000
noncomputable def K10 : List (Nat × Nat × List (Nat × List Nat)) := [(10, 26, [(0, [0, 1]), (1, [0, 1, 10]), (2, [4]), (3, [0, 1, 5]), (4, [0, 1, 5, 14]), (5, [0, 1, 5]), (6, [0, 1, 5, 25]), (7, [4]), (8, [4])])]
noncomputable def B10_1 : Base := baseOf Pz (fun f i => lkC f i K10) [] [] []
theorem hB10_1 : BOk B10_1 := base_ok named_z trivial trivial trivial
noncomputable def S10_1 (p1 : (List Mv)) (p2 : (List Mv)) (x : (Int)) : St := St.mk (AV.list ET.mv p1 Tk.arg :: AV.list ET.mv p2 Tk.arg :: (an 3 (AV.int .i64 x :: (an 20 [])))) (Hp.mk [] [] [] 0 0 0)
noncomputable def O10_1 (p1 : (List Mv)) (p2 : (List Mv)) : Unit ⊕ (Int × Bool) → Out
  | (.inl (y)) => .ret (St.mk (an 4 (AV.cbool false :: (an 21 []))) (Hp.mk [] [] [] 0 0 0))
  | (.inr (y)) => .exit 0 (St.mk (AV.list ET.mv p1 Tk.arg :: AV.list ET.mv p2 Tk.arg :: (an 3 (AV.int .i64 y.fst :: (an 8 (AV.bool y.snd :: (an 11 [])))))) (Hp.mk [] [] [] 0 0 0))
noncomputable def st10_1 (p1 : (List Mv)) (p2 : (List Mv)) (x : (Int)) : Stp (Int) (Unit ⊕ (Int × Bool)) := (bif decide (x < Int.ofNat p1.length) then (bif eqOut BinOp.neq ((p1.getD x.toNat default).frm == (p2.getD x.toNat default).frm && ((p1.getD x.toNat default).to == (p2.getD x.toNat default).to && ((p1.getD x.toNat default).pro == (p2.getD x.toNat default).pro && ((p1.getD x.toNat default).drp == (p2.getD x.toNat default).drp && ((p1.getD x.toNat default).cas == (p2.getD x.toNat default).cas && true))))) then (Stp.out (.inl (()))) else (Stp.go (wr .i64 (x + 1)))) else (Stp.out (.inr ((x, decide (x < Int.ofNat p1.length))))))
noncomputable def okL10_1 (p1 : (List Mv)) (p2 : (List Mv)) (x : (Int)) : Bool := (bif decide (x < Int.ofNat p1.length) then (decide (0 ≤ x) && decide (x < Int.ofNat p1.length) && (decide (0 ≤ x) && decide (x < Int.ofNat p2.length) && true)) else true)
noncomputable def lp10_1 (p1 : (List Mv)) (p2 : (List Mv)) (x : (Int)) : Option (Unit ⊕ (Int × Bool)) := itl (fun x => bif okL10_1 p1 p2 x then st10_1 p1 p2 x else .bad) many x
abbrev D10_1 {α : Type} (k : (List Mv) → (List Mv) → (Int) → α) (s : St) : α := k (tL (ET.mv) (tT s 0)) (tL (ET.mv) (tT s 1)) ((tI (tT s 5)))
theorem L10_1 (p1 : (List Mv)) (p2 : (List Mv)) (x : (Int)) (r : Unit ⊕ (Int × Bool)) (h : lp10_1 p1 p2 x = some r) : LSpec Pz (bodL Pz 10 4) (S10_1 p1 p2 x) (O10_1 p1 p2 r) := LSpec.smd (m := 12) (fn := 10) hB10_1 (D10_1 fun _ _ x => some x) (fun o => match o with | .ret s => some (.inl ()) | .exit 0 s => some (.inr ((tI (tT s 5)), (tB (tT s 14)))) | _ => none) (fun r => by cases r <;> rfl) (fun _ => by kernel_rfl) (fun _ => by kernel_rfl) (fun _ => by kernel_rfl) (fun _ => by kernel_rfl) many x r h
noncomputable def F10_1 (b : Code) (s : St) : Tr Out := D10_1 (fun p1 p2 x => lk2 b (bodL Pz 10 4) s (S10_1 p1 p2 x) (lp10_1 p1 p2 x) (O10_1 p1 p2)) s
theorem sF10_1 : ∀ b, LSound Pz b (F10_1 b) := fun _ _ _ h => lk2_ok (L10_1 _ _ _) h
noncomputable def B10 : Base := baseOf Pz (fun f i => lkC f i K10) [] [(10, 4, F10_1)] []
theorem hB10 : BOk B10 := base_ok named_z trivial ⟨sF10_1, trivial⟩ trivial
noncomputable def N10 (a : List Mv) (b : List Mv) : Bool := (bif Int.ofNat a.length != Int.ofNat b.length then (false) else (bif isL ((lp10_1 a b 0).getD default) then (false) else (true)))
noncomputable def ok10 (a : List Mv) (b : List Mv) : Bool := (bif Int.ofNat a.length != Int.ofNat b.length then true else ((lp10_1 a b 0).isSome && bif isL ((lp10_1 a b 0).getD default) then true else true))
theorem P10 (a : List Mv) (b : List Mv) (h : ok10 a b = true) : PS Pz 10 [.list .mv a .arg, .list .mv b .arg] (dB.res (N10 a b)) := ps_sum (n := 14) hB10 (by kernel_rfl) (by kernel_rfl) (by kernel_rfl) h
noncomputable def G10 : List AV → Tr AV := g2 (dL .mv) (dL .mv) (fun a b => gdv (ok10 a b) (dB.res (N10 a b)))
theorem s10 : Sound Pz 10 G10 := sound2 fun a b => at_gd (P10 a b)
noncomputable def K73 : List (Nat × Nat × List (Nat × List Nat)) := [(73, 11, [(0, [0, 1, 4]), (1, [1, 4, 6]), (2, [4]), (3, [4])])]
noncomputable def B73 : Base := baseOf Pz (fun f i => lkC f i K73) [] [] []
theorem hB73 : BOk B73 := base_ok named_z trivial trivial trivial
noncomputable def N73 (a : Int) (b : Int) : (Int × Int) := (bif a == 0 then ⟨(1), (b)⟩ else ⟨(2), (b)⟩)
noncomputable def ok73 (a : Int) (b : Int) : Bool := true
theorem P73 (a : Int) (b : Int) (h : ok73 a b = true) : PS Pz 73 [.int .u8 a, .int .u8 b] ((dR .u8 .u8).res (N73 a b)) := ps_sum (n := 14) hB73 (by kernel_rfl) (by kernel_rfl) (by kernel_rfl) h
noncomputable def G73 : List AV → Tr AV := g2 (dI .u8) (dI .u8) (fun a b => .ret ((dR .u8 .u8).res (N73 a b)))
theorem s73 : Sound Pz 73 G73 := sound2 fun a b => at_rt (P73 a b rfl)
noncomputable def K74 : List (Nat × Nat × List (Nat × List Nat)) := [(74, 17, [(0, [0, 6, 7, 10, 11, 14, 15]), (1, [2])])]
noncomputable def B74 : Base := baseOf Pz (fun f i => lkC f i K74) [] [] []
theorem hB74 : BOk B74 := base_ok named_z trivial trivial trivial
noncomputable def N74 (a : Int) : Bool := (bif a == 27 then (true) else (bif a == 28 then (true) else (bif a == 35 then (true) else (a == 36))))
noncomputable def ok74 (a : Int) : Bool := true
theorem P74 (a : Int) (h : ok74 a = true) : PS Pz 74 [.int .i64 a] (dB.res (N74 a)) := ps_sum (n := 14) hB74 (by kernel_rfl) (by kernel_rfl) (by kernel_rfl) h
noncomputable def G74 : List AV → Tr AV := g1 (dI .i64) (fun a => .ret (dB.res (N74 a)))
theorem s74 : Sound Pz 74 G74 := sound1 fun a => at_rt (P74 a rfl)
noncomputable def K75 : List (Nat × Nat × List (Nat × List Nat)) := [(75, 14, [(0, [1, 2]), (1, [1, 2, 5]), (2, [1, 2, 5, 7]), (3, [1, 2, 5]), (4, [1, 2, 5, 13]), (5, [4]), (6, [4])])]
noncomputable def B75_1 : Base := baseOf Pz (fun f i => lkC f i K75) [(132, G132)] [] []
theorem hB75_1 : BOk B75_1 := base_ok named_z ⟨s132, trivial⟩ trivial trivial
noncomputable def S75_1 (p1 : Int) (p2 : Pos) (x : (Int)) : St := St.mk (AV.any :: AV.int .u8 p1 :: AV.ptr 0 0 :: AV.any :: AV.any :: AV.int .i64 x :: (an 8 [])) (Hp.mk [(pc p2 [])] [] [] 0 0 0)
noncomputable def O75_1 (p1 : Int) (p2 : Pos) : Unit ⊕ (Int × Bool) → Out
  | (.inl (y)) => .ret (St.mk (an 4 (AV.cbool true :: (an 9 []))) (Hp.mk [(pc p2 [])] [] [] 0 0 0))
  | (.inr (y)) => .exit 0 (St.mk (AV.any :: AV.int .u8 p1 :: AV.ptr 0 0 :: AV.any :: AV.any :: AV.int .i64 y.fst :: AV.any :: AV.bool y.snd :: (an 6 [])) (Hp.mk [(pc p2 [])] [] [] 0 0 0))
noncomputable def st75_1 (p1 : Int) (p2 : Pos) (x : (Int)) : Stp (Int) (Unit ⊕ (Int × Bool)) := (bif decide (x < 64) then (bif N132 (Pos.mk p2.variant p2.board p2.promoted p2.pockets p2.turn p2.rooks p2.passing p2.checks p2.half p2.full) x p1 then (Stp.out (.inl (()))) else (Stp.go (wr .i64 (x + 1)))) else (Stp.out (.inr ((x, decide (x < 64))))))
noncomputable def okL75_1 (p1 : Int) (p2 : Pos) (x : (Int)) : Bool := (bif decide (x < 64) then (ok132 (Pos.mk p2.variant p2.board p2.promoted p2.pockets p2.turn p2.rooks p2.passing p2.checks p2.half p2.full) (x) (p1) && true) else true)
noncomputable def lp75_1 (p1 : Int) (p2 : Pos) (x : (Int)) : Option (Unit ⊕ (Int × Bool)) := itl (fun x => bif okL75_1 p1 p2 x then st75_1 p1 p2 x else .bad) many x
abbrev D75_1 {α : Type} (k : Int → Pos → (Int) → α) (s : St) : α := wP s 0 fun q0 => k (tI (tT s 1)) q0 ((tI (tT s 5)))
theorem L75_1 (p1 : Int) (p2 : Pos) (x : (Int)) (r : Unit ⊕ (Int × Bool)) (h : lp75_1 p1 p2 x = some r) : LSpec Pz (bodL Pz 75 2) (S75_1 p1 p2 x) (O75_1 p1 p2 r) := LSpec.smd (m := 12) (fn := 75) hB75_1 (D75_1 fun _ _ x => some x) (fun o => match o with | .ret s => some (.inl ()) | .exit 0 s => some (.inr ((tI (tT s 5)), (tB (tT s 7)))) | _ => none) (fun r => by cases r <;> rfl) (fun _ => by kernel_rfl) (fun _ => by kernel_rfl) (fun _ => by kernel_rfl) (fun _ => by kernel_rfl) many x r h
noncomputable def F75_1 (b : Code) (s : St) : Tr Out := D75_1 (fun p1 p2 x => lk2 b (bodL Pz 75 2) s (S75_1 p1 p2 x) (lp75_1 p1 p2 x) (O75_1 p1 p2)) s
theorem sF75_1 : ∀ b, LSound Pz b (F75_1 b) := fun _ _ _ h => lk2_ok (L75_1 _ _ _) h
noncomputable def B75 : Base := baseOf Pz (fun f i => lkC f i K75) [(132, G132)] [(75, 2, F75_1)] []
theorem hB75 : BOk B75 := base_ok named_z ⟨s132, trivial⟩ ⟨sF75_1, trivial⟩ trivial
noncomputable def N75 (a : Pos) (b : Int) : Bool := (bif isL ((lp75_1 b (Pos.mk a.variant a.board a.promoted a.pockets a.turn a.rooks a.passing a.checks a.half a.full) 0).getD default) then (true) else (false))
noncomputable def ok75 (a : Pos) (b : Int) : Bool := ((lp75_1 b (Pos.mk a.variant a.board a.promoted a.pockets a.turn a.rooks a.passing a.checks a.half a.full) 0).isSome && bif isL ((lp75_1 b (Pos.mk a.variant a.board a.promoted a.pockets a.turn a.rooks a.passing a.checks a.half a.full) 0).getD default) then true else true)
theorem P75 (a : Pos) (b : Int) (h : ok75 a b = true) : PS Pz 75 [Pos.av a, .int .u8 b] (dB.res (N75 a b)) := ps_sum (n := 14) hB75 (by kernel_rfl) (by kernel_rfl) (by kernel_rfl) h
noncomputable def G75 : List AV → Tr AV := g2 dPos (dI .u8) (fun a b => gdv (ok75 a b) (dB.res (N75 a b)))
theorem s75 : Sound Pz 75 G75 := sound2 fun a b => at_gd (P75 a b)
noncomputable def K76 : List (Nat × Nat × List (Nat × List Nat)) := [(76, 55, [(0, (1 :: 2 :: 15 :: 30 :: 31 :: 32 :: (rn 46 6 []))), (1, (rn 1 4 (15 :: 30 :: 31 :: 32 :: (rn 46 6 [])))), (2, (rn 1 4 (16 :: 30 :: 31 :: 32 :: (rn 46 6 [])))), (3, [2]), (4, (1 :: 2 :: 3 :: 18 :: 30 :: 31 :: 32 :: (rn 46 6 []))), (5, [2]), (6, (1 :: 2 :: 21 :: 30 :: 31 :: 32 :: (rn 46 6 []))), (7, [2]), (8, (1 :: 2 :: 5 :: 30 :: 31 :: 32 :: (rn 46 6 []))), (9, (1 :: 2 :: 5 :: 6 :: 30 :: 31 :: 32 :: (rn 46 6 []))), (10, (1 :: 2 :: 5 :: 6 :: (rn 30 4 (rn 46 6 [])))), (11, (1 :: 2 :: 5 :: 6 :: 30 :: 31 :: 32 :: (rn 46 6 []))), (12, (1 :: 2 :: 5 :: 6 :: 30 :: 31 :: 32 :: (rn 46 7 []))), (13, [2]), (14, [2])])]
noncomputable def B76_1 : Base := baseOf Pz (fun f i => lkC f i K76) [(33, G33), (72, G72), (73, G73)] [] []
theorem hB76_1 : BOk B76_1 := base_ok named_z ⟨s33, s72, s73, trivial⟩ trivial trivial
noncomputable def S76_1 (p1 : (List Mv)) (p2 : Pos) (x : (Int)) : St := St.mk (AV.any :: AV.ptr 0 0 :: AV.ptr 1 0 :: AV.any :: AV.any :: AV.list ET.mv p1 Tk.fresh :: AV.int .i64 x :: (an 48 [])) (Hp.mk [(pc p2 []), [AV.int .u8 0, AV.int .u8 0]] [] [] 0 0 0)
noncomputable def O76_1 (p1 : (List Mv)) (p2 : Pos) : Unit ⊕ (Int × Bool) → Out
  | (.inl (y)) => .ret (St.mk (AV.any :: AV.any :: AV.ptr 1 0 :: (an 52 [])) (Hp.mk [(pc p2 []), [AV.cint .u8 0, AV.cint .u8 0]] [] [] 0 0 0))
  | (.inr (y)) => .exit 0 (St.mk (AV.any :: AV.ptr 0 0 :: AV.ptr 1 0 :: AV.any :: AV.any :: AV.list ET.mv p1 Tk.fresh :: AV.int .i64 y.fst :: (an 26 (AV.bool y.snd :: (an 21 [])))) (Hp.mk [(pc p2 []), [AV.int .u8 0, AV.int .u8 0]] [] [] 0 0 0))
noncomputable def st76_1 (p1 : (List Mv)) (p2 : Pos) (x : (Int)) : Stp (Int) (Unit ⊕ (Int × Bool)) := (bif decide (x < Int.ofNat p1.length) then (bif p2.turn == 1 then (bif wr .i64 (p1.getD x.toNat default).frm == N72 p2 1 then (bif decide ((p1.getD x.toNat default).to > 55) then (Stp.out (.inl (()))) else (Stp.go (wr .i64 (x + 1)))) else (Stp.go (wr .i64 (x + 1)))) else (Stp.out (.inr ((x, p2.turn == 1))))) else (Stp.out (.inr ((x, false)))))
noncomputable def okL76_1 (p1 : (List Mv)) (p2 : Pos) (x : (Int)) : Bool := (bif decide (x < Int.ofNat p1.length) then (bif p2.turn == 1 then (decide (0 ≤ x) && decide (x < Int.ofNat p1.length) && (ok72 (p2) (1) && (bif wr .i64 (p1.getD x.toNat default).frm == N72 p2 1 then (decide (0 ≤ x) && decide (x < Int.ofNat p1.length) && true) else true))) else true) else true)
noncomputable def lp76_1 (p1 : (List Mv)) (p2 : Pos) (x : (Int)) : Option (Unit ⊕ (Int × Bool)) := itl (fun x => bif okL76_1 p1 p2 x then st76_1 p1 p2 x else .bad) many x
abbrev D76_1 {α : Type} (k : (List Mv) → Pos → (Int) → α) (s : St) : α := wP s 0 fun q0 => k (tL (ET.mv) (tT s 5)) q0 ((tI (tT s 6)))
theorem L76_1 (p1 : (List Mv)) (p2 : Pos) (x : (Int)) (r : Unit ⊕ (Int × Bool)) (h : lp76_1 p1 p2 x = some r) : LSpec Pz (bodL Pz 76 10) (S76_1 p1 p2 x) (O76_1 p1 p2 r) := LSpec.smd (m := 12) (fn := 76) hB76_1 (D76_1 fun _ _ x => some x) (fun o => match o with | .ret s => some (.inl ()) | .exit 0 s => some (.inr ((tI (tT s 6)), (tB (tT s 33)))) | _ => none) (fun r => by cases r <;> rfl) (fun _ => by kernel_rfl) (fun _ => by kernel_rfl) (fun _ => by kernel_rfl) (fun _ => by kernel_rfl) many x r h
noncomputable def F76_1 (b : Code) (s : St) : Tr Out := D76_1 (fun p1 p2 x => lk2 b (bodL Pz 76 10) s (S76_1 p1 p2 x) (lp76_1 p1 p2 x) (O76_1 p1 p2)) s
theorem sF76_1 : ∀ b, LSound Pz b (F76_1 b) := fun _ _ _ h => lk2_ok (L76_1 _ _ _) h
noncomputable def B76 : Base := baseOf Pz (fun f i => lkC f i K76) [(33, G33), (72, G72), (73, G73)] [(76, 10, F76_1)] []
theorem hB76 : BOk B76 := base_ok named_z ⟨s33, s72, s73, trivial⟩ ⟨sF76_1, trivial⟩ trivial
noncomputable def N76 (a : Pos) : (Int × Int) := (bif decide (N72 a 0 > 55) then (bif decide (N72 a 1 > 55) then ⟨(3), (6)⟩ else (bif decide (N72 a 1 > 55) then ⟨((N73 1 6).fst), ((N73 1 6).snd)⟩ else (bif !decide (N72 a 0 > 55) then ⟨(0), (0)⟩ else (bif isL ((lp76_1 (N33 a) a 0).getD default) then ⟨(0), (0)⟩ else ⟨((N73 0 6).fst), ((N73 0 6).snd)⟩)))) else (bif decide (N72 a 1 > 55) then ⟨((N73 1 6).fst), ((N73 1 6).snd)⟩ else (bif !decide (N72 a 0 > 55) then ⟨(0), (0)⟩ else (bif isL ((lp76_1 (N33 a) a 0).getD default) then ⟨(0), (0)⟩ else ⟨((N73 0 6).fst), ((N73 0 6).snd)⟩))))
noncomputable def ok76 (a : Pos) : Bool := (ok72 (a) (0) && (ok72 (a) (1) && (bif decide (N72 a 0 > 55) then (bif decide (N72 a 1 > 55) then true else (bif decide (N72 a 1 > 55) then true else (bif !decide (N72 a 0 > 55) then true else (ok33 (a) && ((lp76_1 (N33 a) a 0).isSome && bif isL ((lp76_1 (N33 a) a 0).getD default) then true else true))))) else (bif decide (N72 a 1 > 55) then true else (bif !decide (N72 a 0 > 55) then true else (ok33 (a) && ((lp76_1 (N33 a) a 0).isSome && bif isL ((lp76_1 (N33 a) a 0).getD default) then true else true)))))))
theorem P76 (a : Pos) (h : ok76 a = true) : PS Pz 76 [Pos.av a] ((dR .u8 .u8).res (N76 a)) := ps_sum (n := 14) hB76 (by kernel_rfl) (by kernel_rfl) (by kernel_rfl) h
noncomputable def G76 : List AV → Tr AV := g1 dPos (fun a => gdv (ok76 a) ((dR .u8 .u8).res (N76 a)))
theorem s76 : Sound Pz 76 G76 := sound1 fun a => at_gd (P76 a)
noncomputable def K32 : List (Nat × Nat × List (Nat × List Nat)) := [(32, 79, [(0, [1, 2]), (1, [1, 2, 7]), (2, [2]), (3, [1, 2, 3, 4]), (4, [1, 2, 3, 4, 15]), (5, (rn 1 4 [15, 16])), (6, [2, 4, 21]), (7, [2]), (8, (rn 1 4 [15, 24])), (9, [1, 2, 3, 4, 30]), (10, [2]), (11, [2, 3, 37]), (12, [2]), (13, (rn 1 4 [15, 40])), (14, [1, 2, 3, 4, 45]), (15, [2]), (16, [2, 3, 51]), (17, [2]), (18, (rn 1 4 [15, 54])), (19, [2, 58]), (20, [2]), (21, (rn 1 4 [15, 60])), (22, [1, 2, 3, 4, 65]), (23, [2]), (24, [2, 4, 71]), (25, [2]), (26, [1, 2, 74]), (27, [2]), (28, [2])])]
noncomputable def B32 : Base := baseOf Pz (fun f i => lkC f i K32) [(19, G19), (72, G72), (73, G73), (74, G74), (75, G75), (76, G76)] [] []
theorem hB32 : BOk B32 := base_ok named_z ⟨s19, s72, s73, s74, s75, s76, trivial⟩ trivial trivial
noncomputable def N32 (a : Pos) : (Int × Int) := (bif !N19 a then ⟨(0), (0)⟩ else (bif a.variant == 3 then (bif decide (N72 a a.turn < 0) then ⟨((N73 (wr .u8 (1 - a.turn)) 6).fst), ((N73 (wr .u8 (1 - a.turn)) 6).snd)⟩ else ⟨(0), (0)⟩) else (bif a.variant == 5 then (bif decide (a.checks.getD (scale 1 (wr .u8 (1 - a.turn))).toNat 0 ≥ 3) then ⟨((N73 (wr .u8 (1 - a.turn)) 7).fst), ((N73 (wr .u8 (1 - a.turn)) 7).snd)⟩ else (bif decide (a.checks.getD (scale 1 a.turn).toNat 0 ≥ 3) then ⟨((N73 a.turn 7).fst), ((N73 a.turn 7).snd)⟩ else ⟨(0), (0)⟩)) else (bif a.variant == 6 then (bif N74 (N72 a (wr .u8 (1 - a.turn))) then ⟨((N73 (wr .u8 (1 - a.turn)) 6).fst), ((N73 (wr .u8 (1 - a.turn)) 6).snd)⟩ else (bif N74 (N72 a a.turn) then ⟨((N73 a.turn 6).fst), ((N73 a.turn 6).snd)⟩ else ⟨(0), (0)⟩)) else (bif a.variant == 7 then (bif !N75 a 0 then ⟨((N73 1 8).fst), ((N73 1 8).snd)⟩ else ⟨(0), (0)⟩) else (bif a.variant == 4 then (bif !N75 a a.turn then ⟨((N73 a.turn 8).fst), ((N73 a.turn 8).snd)⟩ else (bif !N75 a (wr .u8 (1 - a.turn)) then ⟨((N73 (wr .u8 (1 - a.turn)) 8).fst), ((N73 (wr .u8 (1 - a.turn)) 8).snd)⟩ else ⟨(0), (0)⟩)) else (bif a.variant == 8 then ⟨((N76 a).fst), ((N76 a).snd)⟩ else ⟨(0), (0)⟩)))))))
noncomputable def ok32 (a : Pos) : Bool := (bif !N19 a then true else (bif a.variant == 3 then (ok72 (a) (a.turn) && true) else (bif a.variant == 5 then (decide (0 ≤ wr .u8 (1 - a.turn)) && decide (wr .u8 (1 - a.turn) < Int.ofNat 2) && (bif decide (a.checks.getD (scale 1 (wr .u8 (1 - a.turn))).toNat 0 ≥ 3) then true else (decide (0 ≤ a.turn) && decide (a.turn < Int.ofNat 2) && true))) else (bif a.variant == 6 then (ok72 (a) (wr .u8 (1 - a.turn)) && (bif N74 (N72 a (wr .u8 (1 - a.turn))) then true else (ok72 (a) (a.turn) && true))) else (bif a.variant == 7 then (ok75 (a) (0) && true) else (bif a.variant == 4 then (ok75 (a) (a.turn) && (bif !N75 a a.turn then true else (ok75 (a) (wr .u8 (1 - a.turn)) && true))) else (bif a.variant == 8 then (ok76 (a) && true) else true)))))))
theorem P32 (a : Pos) (h : ok32 a = true) : PS Pz 32 [Pos.av a] ((dR .u8 .u8).res (N32 a)) := ps_sum (n := 14) hB32 (by kernel_rfl) (by kernel_rfl) (by kernel_rfl) h
noncomputable def G32 : List AV → Tr AV := g1 dPos (fun a => gdv (ok32 a) ((dR .u8 .u8).res (N32 a)))
theorem s32 : Sound Pz 32 G32 := sound1 fun a => at_gd (P32 a)
noncomputable def K12 : List (Nat × Nat × List (Nat × List Nat)) := [(12, 11, [(0, [1]), (1, [1, 3]), (2, [1, 8]), (3, [2]), (4, [2])])]
noncomputable def B12 : Base := baseOf Pz (fun f i => lkC f i K12) [(32, G32), (33, G33)] [] []
theorem hB12 : BOk B12 := base_ok named_z ⟨s32, s33, trivial⟩ trivial trivial
noncomputable def N12 (a : Pos) : List Mv := (bif (N32 a).fst != 0 then ([]) else (N33 a))
noncomputable def ok12 (a : Pos) : Bool := (ok32 (a) && (bif (N32 a).fst != 0 then true else (ok33 (a) && true)))
theorem P12 (a : Pos) (h : ok12 a = true) : PS Pz 12 [Pos.av a] ((dL .mv).res (N12 a)) := ps_sum (n := 14) hB12 (by kernel_rfl) (by kernel_rfl) (by kernel_rfl) h
noncomputable def G12 : List AV → Tr AV := g1 dPos (fun a => gdv (ok12 a) ((dL .mv).res (N12 a)))
theorem s12 : Sound Pz 12 G12 := sound1 fun a => at_gd (P12 a)
noncomputable def K3 : List (Nat × Nat × List (Nat × List Nat)) := [(3, 11, [(0, [1, 9]), (1, [2])])]
noncomputable def B3 : Base := baseOf Pz (fun f i => lkC f i K3) [(10, G10), (11, G11), (12, G12), (13, G13)] [] []
theorem hB3 : BOk B3 := base_ok named_z ⟨s10, s11, s12, s13, trivial⟩ trivial trivial
noncomputable def N3 (a : Pos) : Bool := (bif N10 (N11 a) (N12 a) then (N13) else (false))
noncomputable def ok3 (a : Pos) : Bool := (ok11 (a) && (ok12 (a) && (ok10 (N11 a) (N12 a) && (bif N10 (N11 a) (N12 a) then (ok13  && true) else true))))
theorem P3 (a : Pos) (h : ok3 a = true) : PS Pz 3 [Pos.av a] (dB.res (N3 a)) := ps_sum (n := 14) hB3 (by kernel_rfl) (by kernel_rfl) (by kernel_rfl) h
noncomputable def G3 : List AV → Tr AV := g1 dPos (fun a => gdv (ok3 a) (dB.res (N3 a)))
theorem s3 : Sound Pz 3 G3 := sound1 fun a => at_gd (P3 a)
end Kz
end
section
namespace Kz
open Go Go.RowKit
set_option maxRecDepth 100000
set_option maxHeartbeats 4000000
set_option linter.unusedSectionVars false
theorem win_eq {c w : Int} (hc : c = 0 ∨ c = 1) : N73 c w = N166 c w := by
  rcases hc with rfl | rfl <;> rfl
theorem hill_fin : ∀ s : Fin 64, (ibits BinOp.and .i64 (Int.fdiv 103481868288 (2 ^ min (BitVec.ofInt 64 (s.val : Int)).toNat 64)) 1 == 1) = N74 s.val := by decide +kernel
theorem hill_eq {s : Int} (h0 : -1 ≤ s) (h1 : s < 64) : (bif decide (s ≥ 0) then (ibits BinOp.and .i64 (Int.fdiv 103481868288 (2 ^ min (BitVec.ofInt 64 s).toNat 64)) 1 == 1) else false) = N74 s := by
  by_cases h : s ≥ 0
  · obtain ⟨n, rfl⟩ := Int.eq_ofNat_of_zero_le h
    rw [decide_eq_true h]
    exact hill_fin ⟨n, by omega⟩
  · have : s = -1 := by omega
    subst this
    rfl
section
variable {p : Pos} (hp : PosIn p)
include hp
theorem lp75 {c : Int} (hc : c = 0 ∨ c = 1) (ht : p.turn = 0 ∨ p.turn = 1) : ∃ r, lp75_1 c p 0 = some r ∧ isL r = (N101 p c 0 != 0#64) := by
  refine lp_many (Q := fun r : Unit ⊕ (Int × Bool) => isL r = (N101 p c 0 != 0#64)) (I := fun x : Int => ∃ n : Nat, n ≤ 64 ∧ x = (n : Int) ∧ ∀ s, s < n → (N101 p c 0).getLsbD s = false) (μ := fun x => (64 - x).toNat) ?_ _ ⟨0, by omega, rfl, fun s hs => by omega⟩ (by simp)
  rintro x ⟨n, hn, rfl, h⟩
  unfold okL75_1 st75_1
  rw [show (⟨p.variant, p.board, p.promoted, p.pockets, p.turn, p.rooks, p.passing, p.checks, p.half, p.full⟩ : Pos) = p from rfl]
  by_cases h64 : n < 64
  · have hb := N132_bit hp ht hc h64
    have ho := t132 hp ht h64 c
    rw [hb, ho, decide_eq_true (show (n : Int) < 64 by omega), wi64 (n := (n : Int) + 1) (by omega) (by omega)]
    cases hx : (N101 p c 0).getLsbD n with
    | true =>
      refine ⟨rfl, ?_⟩
      show true = _
      symm
      rw [bne_iff_ne]
      intro e
      rw [e] at hx
      simp at hx
    | false =>
      exact ⟨rfl, ⟨n + 1, by omega, by simp, fun s hs => by
        by_cases e : s = n
        · rw [e]; exact hx
        · exact h s (by omega)⟩, by dsimp only; omega⟩
  · have : n = 64 := by omega
    subst this
    refine ⟨rfl, ?_⟩
    show false = _
    symm
    rw [bne_eq_false_iff_eq]
    exact BitVec.eq_of_getLsbD_eq fun i hi => by rw [h i hi]; simp
theorem N75_eq {c : Int} (hc : c = 0 ∨ c = 1) (ht : p.turn = 0 ∨ p.turn = 1) : ok75 p c = true ∧ N75 p c = (N101 p c 0 != 0#64) := by
  obtain ⟨h1, h2⟩ := of_some (lp75 hp hc ht)
  unfold ok75 N75
  rw [show (⟨p.variant, p.board, p.promoted, p.pockets, p.turn, p.rooks, p.passing, p.checks, p.half, p.full⟩ : Pos) = p from rfl, h1, h2]
  cases N101 p c 0 != 0#64 <;> exact ⟨rfl, rfl⟩
def raceB (k : Int) (l : List Mv) : Bool := l.any fun m => wr .i64 m.frm == k && decide (m.to ≥ 56)
omit hp in
theorem any_take {α : Type} (f : α → Bool) (d : α) : ∀ (l : List α) (n : Nat), n < l.length → (l.take (n + 1)).any f = ((l.take n).any f || f (l.getD n d)) := fun l n h => by
  rw [List.take_add_one, List.getD_eq_getElem?_getD, List.getElem?_eq_getElem h, List.any_append]
  simp
theorem lp76 (ht : p.turn = 1) (l : List Mv) (hl : l.length ≤ 1000000) : ∃ r, lp76_1 l p 0 = some r ∧ isL r = raceB (N99 p 1 6) l := by
  obtain ⟨o1, e1⟩ := N72_eq hp (c := 1) (by omega)
  refine lp_many (Q := fun r : Unit ⊕ (Int × Bool) => isL r = raceB (N99 p 1 6) l) (I := fun x : Int => ∃ n : Nat, n ≤ l.length ∧ x = (n : Int) ∧ raceB (N99 p 1 6) (l.take n) = false) (μ := fun x => (l.length - x).toNat) ?_ _ ⟨0, by omega, rfl, rfl⟩ (by simp; omega)
  rintro x ⟨n, hn, rfl, h⟩
  unfold okL76_1 st76_1
  by_cases hc : n < l.length
  · have ha := any_take (fun m : Mv => wr .i64 m.frm == N99 p 1 6 && decide (m.to ≥ 56)) default l n hc
    rw [decide_eq_true (show (n : Int) < Int.ofNat l.length from Int.ofNat_lt.2 hc), decide_eq_true (show (0 : Int) ≤ n by omega), Int.toNat_natCast, wi64 (n := (n : Int) + 1) (by omega) (by omega), o1, e1, ht]
    have h55 : decide ((l.getD n default).to > 55) = decide ((l.getD n default).to ≥ 56) := by rw [decide_eq_decide]; omega
    rw [h55]
    unfold raceB at h ⊢
    rw [h, Bool.false_or] at ha
    cases hx : wr .i64 (l.getD n default).frm == N99 p 1 6 with
    | false => rw [hx] at ha; exact ⟨rfl, ⟨n + 1, by omega, by simp, ha⟩, by dsimp only; omega⟩
    | true =>
      rw [hx] at ha
      cases hy : decide ((l.getD n default).to ≥ 56) with
      | false => rw [hy] at ha; exact ⟨rfl, ⟨n + 1, by omega, by simp, ha⟩, by dsimp only; omega⟩
      | true =>
        refine ⟨rfl, ?_⟩
        show true = _
        symm
        rw [List.any_eq_true]
        exact ⟨_, getD_mem hc, by rw [hx, hy]; rfl⟩
  · rw [decide_eq_false (show ¬ ((n : Int) < Int.ofNat l.length) from fun h => hc (Int.ofNat_lt.1 h))]
    refine ⟨rfl, ?_⟩
    rw [List.take_of_length_le (by omega)] at h
    exact h.symm
omit hp in
theorem lp128r (l : List Mv) (hl : l.length ≤ 1000000) (q : Pos) (k : Int) : ∃ r, lp128_1 l (Int.ofNat l.length) q k 0 = some r ∧ isL r = raceB k l ∧ 0 ≤ gl r := by
  refine lp_many (Q := fun r : Int ⊕ (Int × Bool) => isL r = raceB k l ∧ 0 ≤ gl r) (I := fun x : Int => ∃ n : Nat, n ≤ l.length ∧ x = (n : Int) ∧ raceB k (l.take n) = false) (μ := fun x => (l.length - x).toNat) ?_ _ ⟨0, by omega, rfl, rfl⟩ (by simp; omega)
  rintro x ⟨n, hn, rfl, h⟩
  unfold okL128_1 st128_1
  by_cases hc : n < l.length
  · have ha := any_take (fun m : Mv => wr .i64 m.frm == k && decide (m.to ≥ 56)) default l n hc
    rw [decide_eq_true (show (n : Int) < Int.ofNat l.length from Int.ofNat_lt.2 hc), decide_eq_true (show (0 : Int) ≤ n by omega), Int.toNat_natCast, wi64 (n := (n : Int) + 1) (by omega) (by omega)]
    unfold raceB at h ⊢
    rw [h, Bool.false_or] at ha
    cases hx : wr .i64 (l.getD n default).frm == k with
    | false => rw [hx] at ha; exact ⟨rfl, ⟨n + 1, by omega, by simp, ha⟩, by dsimp only; omega⟩
    | true =>
      rw [hx] at ha
      cases hy : decide ((l.getD n default).to ≥ 56) with
      | false => rw [hy] at ha; exact ⟨rfl, ⟨n + 1, by omega, by simp, ha⟩, by dsimp only; omega⟩
      | true =>
        refine ⟨rfl, ?_, by show (0 : Int) ≤ n; omega⟩
        show true = _
        symm
        rw [List.any_eq_true]
        exact ⟨_, getD_mem hc, by rw [hx, hy]; rfl⟩
  · rw [decide_eq_false (show ¬ ((n : Int) < Int.ofNat l.length) from fun h => hc (Int.ofNat_lt.1 h))]
    rw [List.take_of_length_le (by omega)] at h
    exact ⟨rfl, h.symm, by show (0 : Int) ≤ default; decide⟩
theorem N76_eq (hth : there p) : ok76 p = true ∧ N76 p = N128 p := by
  obtain ⟨t, hpt, ht⟩ := turn_nat hp hth.1
  obtain ⟨o0, e0⟩ := N72_eq hp (c := 0) (by omega)
  obtain ⟨o1, e1⟩ := N72_eq hp (c := 1) (by omega)
  obtain ⟨o33, e33⟩ := N33_eq hp hth
  have hl : (N31 p).length ≤ 1000000 := Nat.le_trans (N31_len hp) (by omega)
  obtain ⟨c1, c2, c3⟩ := of_some (lp128r (N31 p) hl p (N99 p 1 6))
  have g55 : ∀ x : Int, decide (x > 55) = decide (x ≥ 56) := fun x => by rw [decide_eq_decide]; omega
  have w0 : N73 0 6 = N166 0 6 := rfl
  have w1 : N73 1 6 = N166 1 6 := rfl
  unfold ok76 N76 N128
  rw [o0, o1, e0, e1, o33, e33, w0, w1, c2, g55, g55, decide_eq_true c3]
  rcases (show p.turn = 0 ∨ p.turn = 1 by omega) with h | h
  ·
    have hs : ∃ r, lp76_1 (N31 p) p 0 = some r ∧ isL r = false := by
      refine lp_many (Q := fun r : Unit ⊕ (Int × Bool) => isL r = false) (I := fun x : Int => x = 0) (μ := fun x => (N31 p).length) ?_ _ rfl (by omega)
      rintro x rfl
      unfold okL76_1 st76_1
      rw [h]
      cases decide ((0 : Int) < Int.ofNat (N31 p).length) <;> exact ⟨rfl, rfl⟩
    obtain ⟨d1, d2⟩ := of_some hs
    rw [d1, d2, h]
    cases decide (N99 p 0 6 ≥ 56) <;> cases decide (N99 p 1 6 ≥ 56) <;> exact ⟨rfl, rfl⟩
  · obtain ⟨d1, d2⟩ := of_some (lp76 hp h (N31 p) hl)
    rw [d1, d2, h]
    cases decide (N99 p 0 6 ≥ 56) <;> cases decide (N99 p 1 6 ≥ 56) <;> cases raceB (N99 p 1 6) (N31 p) <;> exact ⟨rfl, rfl⟩
end
theorem N19_not {p : Pos} (h : ¬ there p) : N19 p = false := by
  unfold N19
  by_cases h1 : p.variant < 9
  · rw [decide_eq_true h1, decide_eq_false (show ¬ p.turn < 2 from fun h2 => h ⟨by omega, h1⟩)]; rfl
  · rw [decide_eq_false h1]; rfl
theorem bn {x : BitVec 64} : (!(x != 0#64)) = (x == 0#64) := by unfold bne; rw [Bool.not_not]
section
variable {p : Pos} (hp : PosIn p)
include hp
theorem N32_eq : ok32 p = true ∧ N32 p = N30 p := by
  by_cases hth : there p
  · obtain ⟨t, hpt, ht⟩ := turn_nat hp hth.1
    have v0 := hp.v0
    have v9 := hth.2
    have hc : p.turn = 0 ∨ p.turn = 1 := by omega
    have hc' : wr .u8 (1 - p.turn) = 0 ∨ wr .u8 (1 - p.turn) = 1 := by rw [hpt, wu8 (by omega) (by omega)]; omega
    obtain ⟨o1, e1⟩ := N72_eq hp hc
    obtain ⟨o2, e2⟩ := N72_eq hp hc'
    obtain ⟨a0, b0⟩ := N75_eq hp (c := 0) (by omega) hc
    obtain ⟨a1, b1⟩ := N75_eq hp hc hc
    obtain ⟨a2, b2⟩ := N75_eq hp hc' hc
    obtain ⟨a3, b3⟩ := N76_eq hp hth
    have k1 := hill_eq (N99_lo p p.turn 6).1 (N99_lo p p.turn 6).2
    have k2 := hill_eq (N99_lo p (wr .u8 (1 - p.turn)) 6).1 (N99_lo p (wr .u8 (1 - p.turn)) 6).2
    have i1 : (decide (0 ≤ p.turn) && decide (p.turn < Int.ofNat 2)) = true := by simp; omega
    have i2 : (decide (0 ≤ wr .u8 (1 - p.turn)) && decide (wr .u8 (1 - p.turn) < Int.ofNat 2)) = true := by simp; omega
    have d9 : decide (p.variant ≥ 9) = false := decide_eq_false (by omega)
    have d1 : decide (p.turn > 1) = false := decide_eq_false (by omega)
    have f1 : ∀ w, N73 p.turn w = N166 p.turn w := fun w => win_eq hc
    have f2 : ∀ w, N73 (wr .u8 (1 - p.turn)) w = N166 (wr .u8 (1 - p.turn)) w := fun w => win_eq hc'
    have f3 : N73 1 8 = N166 1 8 := rfl
    unfold ok32 N32 N30
    rw [N19_there hth, o1, o2, a0, a1, a2, a3, b0, b1, b2, b3, d9, d1, i1, i2, e1, e2]
    simp only [f1, f2, f3, ← k1, ← k2, bn, lt_ge]
    rcases (show p.variant = 0 ∨ p.variant = 1 ∨ p.variant = 2 ∨ p.variant = 3 ∨ p.variant = 4 ∨ p.variant = 5 ∨ p.variant = 6 ∨ p.variant = 7 ∨ p.variant = 8 by omega) with h | h | h | h | h | h | h | h | h <;> rw [h]
    · exact ⟨rfl, rfl⟩
    · exact ⟨rfl, rfl⟩
    · exact ⟨rfl, rfl⟩
    · refine ⟨rfl, ?_⟩
      unfold N123 N62
      cases decide (N99 p p.turn 6 ≥ 0) <;> rfl
    · refine ⟨by cases N101 p p.turn 0 == 0#64 <;> rfl, ?_⟩
      unfold N127
      rw [show (⟨p.variant, p.board, p.promoted, p.pockets, p.turn, p.rooks, p.passing, p.checks, p.half, p.full⟩ : Pos) = p from rfl]
      cases N101 p p.turn 0 == 0#64 <;> cases N101 p (wr .u8 (1 - p.turn)) 0 == 0#64 <;> rfl
    · refine ⟨by cases decide (p.checks.getD (scale 1 (wr .u8 (1 - p.turn))).toNat 0 ≥ 3) <;> rfl, ?_⟩
      unfold N124
      cases decide (p.checks.getD (scale 1 (wr .u8 (1 - p.turn))).toNat 0 ≥ 3) <;> cases decide (p.checks.getD (scale 1 p.turn).toNat 0 ≥ 3) <;> rfl
    · unfold N125
      generalize (ibits BinOp.and .i64 (Int.fdiv 103481868288 (2 ^ min (BitVec.ofInt 64 (N99 p p.turn 6)).toNat 64)) 1 == 1) = x1
      generalize (ibits BinOp.and .i64 (Int.fdiv 103481868288 (2 ^ min (BitVec.ofInt 64 (N99 p (wr .u8 (1 - p.turn)) 6)).toNat 64)) 1 == 1) = x2
      cases decide (N99 p p.turn 6 ≥ 0) <;> cases decide (N99 p (wr .u8 (1 - p.turn)) 6 ≥ 0) <;> cases x1 <;> cases x2 <;> exact ⟨rfl, rfl⟩
    · refine ⟨rfl, ?_⟩
      unfold N126
      rw [show (⟨p.variant, p.board, p.promoted, p.pockets, p.turn, p.rooks, p.passing, p.checks, p.half, p.full⟩ : Pos) = p from rfl]
      cases N101 p 0 0 == 0#64 <;> rfl
    · exact ⟨rfl, rfl⟩
  · have h19 := N19_not hth
    unfold ok32 N32 N30
    rw [h19]
    refine ⟨rfl, ?_⟩
    by_cases h9 : p.variant ≥ 9
    · rw [decide_eq_true h9]; rfl
    · rw [decide_eq_false h9, decide_eq_true (show p.turn > 1 by unfold there at hth; omega)]; rfl
theorem N12_eq : ok12 p = true ∧ N12 p = N11 p := by
  obtain ⟨a1, a2⟩ := N32_eq hp
  unfold ok12 N12
  rw [a1, a2, N11_eq hp]
  by_cases hth : there p
  · obtain ⟨b1, b2⟩ := N33_eq hp hth
    rw [b1, b2]
    cases (N30 p).1 != 0 <;> exact ⟨rfl, rfl⟩
  · have h33 : ok33 p = true ∧ N33 p = [] := by
      unfold ok33 N33
      rw [N19_not hth]
      exact ⟨rfl, rfl⟩
    have h38 : N38 p = [] := by
      have h0 : ∀ m, m ∉ N38 p := fun m hm => hth (N38_mem hp hm).1
      cases h : N38 p with
      | nil => rfl
      | cons a l => exact absurd (by rw [h]; simp) (h0 a)
    have h31 : N31 p = [] := by
      have h0 : ∀ m, m ∉ N31 p := fun m hm => by
        have := (N31_sub hp hm).1
        rw [h38] at this
        cases this
      cases h : N31 p with
      | nil => rfl
      | cons a l => exact absurd (by rw [h]; simp) (h0 a)
    rw [h33.1, h33.2, h31]
    cases (N30 p).1 != 0 <;> exact ⟨rfl, rfl⟩
omit hp in
theorem same_self (l : List Mv) (hl : l.length ≤ 1000000) : ok10 l l = true ∧ N10 l l = true := by
  have h : ∃ r, lp10_1 l l 0 = some r ∧ isL r = false := by
    refine lp_many (Q := fun r : Unit ⊕ (Int × Bool) => isL r = false) (I := fun x : Int => ∃ n : Nat, n ≤ l.length ∧ x = (n : Int)) (μ := fun x => (l.length - x).toNat) ?_ _ ⟨0, by omega, rfl⟩ (by simp; omega)
    rintro x ⟨n, hn, rfl⟩
    unfold okL10_1 st10_1
    by_cases hc : n < l.length
    · rw [decide_eq_true (show (n : Int) < Int.ofNat l.length from Int.ofNat_lt.2 hc), decide_eq_true (show (0 : Int) ≤ n by omega), Int.toNat_natCast, wi64 (n := (n : Int) + 1) (by omega) (by omega), mv_eq_iff, decide_eq_true rfl]
      exact ⟨rfl, ⟨n + 1, by omega, by simp⟩, by dsimp only; omega⟩
    · rw [decide_eq_false (show ¬ ((n : Int) < Int.ofNat l.length) from fun h => hc (Int.ofNat_lt.1 h))]
      exact ⟨rfl, rfl⟩
  obtain ⟨h1, h2⟩ := of_some h
  unfold ok10 N10
  rw [h1, h2, bne_self_eq_false]
  exact ⟨rfl, rfl⟩
theorem N3_true : ok3 p = true ∧ N3 p = true := by
  obtain ⟨a1, a2⟩ := N12_eq hp
  have hl : (N11 p).length ≤ 1000000 := Nat.le_trans (N11_len hp) (by omega)
  obtain ⟨b1, b2⟩ := same_self (N11 p) hl
  unfold ok3 N3
  rw [t11 hp, a1, a2, b1, b2, ok13_true, N13_true]
  exact ⟨rfl, rfl⟩
end
end Kz
end
