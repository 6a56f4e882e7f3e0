/- Part 5 of the texts under the proof: an abstract interpreter, the summaries of functions, plain laws. -/
import Derived.Test.YtkigphpfdagcnaaGreatDoorY4
import Derived.Shelf.SlicesE.Clone
import Derived.Shelf.SlicesQ.IndexFunc
import Derived.Sort.WalkB12
import Derived.Shelf.SlicesQ.Load
import Derived.Lib.SliceRun
import Derived.Lib.SlKept
import Derived.Lib.Hide
import Derived.Shelf.SlicesE.DeleteFunc
set_option linter.unusedSectionVars false
set_option linter.unusedVariables false
set_option linter.unusedSimpArgs false
set_option linter.unnecessarySimpa false
section
namespace Kz
open Go Go.RowKit Go.Proofs
set_option maxRecDepth 100000
set_option maxHeartbeats 4000000
noncomputable def K127 : List (Nat × List (Nat × List Nat)) := [(127, [(0, (0 :: (rn 3 21 []))), (1, (0 :: (rn 3 7 (rn 13 11 [])))), (2, (0 :: (rn 3 7 (rn 14 10 [])))), (3, (0 :: 3 :: (rn 5 5 (rn 13 11 [])))), (4, (0 :: 3 :: (rn 5 5 (rn 13 6 (rn 20 4 []))))), (5, (0 :: 1 :: (rn 3 21 []))), (6, (0 :: (rn 3 7 (rn 13 11 [])))), (7, (0 :: 1 :: (rn 3 21 [])))])]
noncomputable def B127 : Base := baseOf Pz (fun f i => lkK f i K127) [(101, G101), (166, G166)] [] []
theorem hB127 : BOk B127 := base_ok named_z ⟨s101, s166, trivial⟩ trivial trivial
noncomputable def N127 (a : Pos) : (Int × Int) := (bif N101 (Pos.mk a.variant a.board a.promoted a.pockets a.turn a.rooks a.passing a.checks a.half a.full) a.turn 0 == 0#64 then ⟨((N166 a.turn 8).fst), ((N166 a.turn 8).snd)⟩ else (bif N101 (Pos.mk a.variant a.board a.promoted a.pockets a.turn a.rooks a.passing a.checks a.half a.full) (wr .u8 (1 - a.turn)) 0 == 0#64 then ⟨((N166 (wr .u8 (1 - a.turn)) 8).fst), ((N166 (wr .u8 (1 - a.turn)) 8).snd)⟩ else ⟨(0), (0)⟩))
noncomputable def ok127 (a : Pos) : Bool := (ok101 (Pos.mk a.variant a.board a.promoted a.pockets a.turn a.rooks a.passing a.checks a.half a.full) (a.turn) (0) && (bif N101 (Pos.mk a.variant a.board a.promoted a.pockets a.turn a.rooks a.passing a.checks a.half a.full) a.turn 0 == 0#64 then true else (ok101 (Pos.mk a.variant a.board a.promoted a.pockets a.turn a.rooks a.passing a.checks a.half a.full) (wr .u8 (1 - a.turn)) (0) && true)))
theorem E127 (a : Pos) : evPure B127 14 127 [Pos.av a] = Tr.br (isPS Pz 101 [(Pos.mk a.variant a.board a.promoted a.pockets a.turn a.rooks a.passing a.checks a.half a.full).av, AV.int .u8 a.turn, AV.int .u8 0] (dU.res (N101 (Pos.mk a.variant a.board a.promoted a.pockets a.turn a.rooks a.passing a.checks a.half a.full) a.turn 0))) (Tr.br (N101 (Pos.mk a.variant a.board a.promoted a.pockets a.turn a.rooks a.passing a.checks a.half a.full) a.turn 0 == 0#64) (Tr.br (isPS Pz 166 [AV.int .u8 a.turn, AV.int .u8 8] ((dR .u8 .u8).res (N166 a.turn 8))) (Tr.ret (AV.agg [AV.int .u8 (N166 a.turn 8).fst, AV.int .u8 (N166 a.turn 8).snd])) Tr.fail) (Tr.br (isPS Pz 101 [(Pos.mk a.variant a.board a.promoted a.pockets a.turn a.rooks a.passing a.checks a.half a.full).av, AV.int .u8 (wr .u8 (1 - a.turn)), AV.int .u8 0] (dU.res (N101 (Pos.mk a.variant a.board a.promoted a.pockets a.turn a.rooks a.passing a.checks a.half a.full) (wr .u8 (1 - a.turn)) 0))) (Tr.br (N101 (Pos.mk a.variant a.board a.promoted a.pockets a.turn a.rooks a.passing a.checks a.half a.full) (wr .u8 (1 - a.turn)) 0 == 0#64) (Tr.br (isPS Pz 166 [AV.int .u8 (wr .u8 (1 - a.turn)), AV.int .u8 8] ((dR .u8 .u8).res (N166 (wr .u8 (1 - a.turn)) 8))) (Tr.ret (AV.agg [AV.int .u8 (N166 (wr .u8 (1 - a.turn)) 8).fst, AV.int .u8 (N166 (wr .u8 (1 - a.turn)) 8).snd])) Tr.fail) (Tr.ret (AV.agg [AV.cint .u8 0, AV.cint .u8 0]))) Tr.fail)) Tr.fail := by kernel_rfl
theorem P127 (a : Pos) (h : ok127 a = true) : PS Pz 127 [Pos.av a] ((dR .u8 .u8).res (N127 a)) := ps_gotR hB127 (E127 a) (gr_call (P101 (Pos.mk a.variant a.board a.promoted a.pockets a.turn a.rooks a.passing a.checks a.half a.full) (a.turn) (0)) (gr_br (gr_callT (P166 (a.turn) (8) rfl) (gr_ret rfl)) (gr_call (P101 (Pos.mk a.variant a.board a.promoted a.pockets a.turn a.rooks a.passing a.checks a.half a.full) (wr .u8 (1 - a.turn)) (0)) (gr_br2 (gr_callT (P166 (wr .u8 (1 - a.turn)) (8) rfl) (gr_ret rfl)) (gr_ret rfl))))) h
noncomputable def G127 : List AV → Tr AV := g1 dPos (fun a => sure Pz 127 [Pos.av a] ((dR .u8 .u8).res (N127 a)))
theorem s127 : Sound Pz 127 G127 := sound1 (fun _ => at_sure)
noncomputable def K68 : List (Nat × List (Nat × List Nat)) := [(68, [(0, (0 :: 1 :: (rn 4 26 (rn 40 5 [51])))), (1, (0 :: 1 :: 3 :: 4 :: (rn 7 23 (rn 40 5 [51])))), (2, (0 :: 1 :: 3 :: 4 :: (rn 6 8 (rn 15 15 (rn 40 5 [51]))))), (3, (rn 0 4 (rn 5 47 []))), (4, (0 :: 1 :: 3 :: 4 :: (rn 6 13 (rn 20 10 (rn 40 5 [51]))))), (5, (0 :: 1 :: 3 :: 4 :: (rn 6 18 (rn 25 5 (rn 40 5 [51]))))), (6, (rn 0 4 (rn 5 47 []))), (7, (0 :: 1 :: 3 :: 4 :: (rn 6 34 (rn 41 4 [51])))), (8, (rn 0 4 (rn 5 47 []))), (9, (rn 0 4 (rn 5 47 [])))])]
noncomputable def B68 : Base := baseOf Pz (fun f i => lkK f i K68) [(17, G17), (61, G61), (103, G103), (62, G62)] [] []
theorem hB68 : BOk B68 := base_ok named_z ⟨s17, s61, s103, s62, trivial⟩ trivial trivial
noncomputable def N68 (a : Pos) (b : Mv) : Bool := (bif !(N17 a b).snd then (false) else (bif N61 a.variant a.turn then (bif !N62 (N17 a b).fst a.turn then (false) else (bif N103 (N17 a b).fst a.turn then (bif a.variant != 3 then (false) else (bif N62 (N17 a b).fst (wr .u8 (1 - a.turn)) then (false) else (bif a.variant != 8 then (true) else (!N103 (N17 a b).fst (wr .u8 (1 - a.turn)))))) else (bif a.variant != 8 then (true) else (!N103 (N17 a b).fst (wr .u8 (1 - a.turn)))))) else (bif a.variant != 8 then (true) else (!N103 (N17 a b).fst (wr .u8 (1 - a.turn))))))
noncomputable def ok68 (a : Pos) (b : Mv) : Bool := (ok17 (a) (b) && (bif !(N17 a b).snd then true else (ok61 (a.variant) (a.turn) && (bif N61 a.variant a.turn then (ok62 ((N17 a b).fst) (a.turn) && (bif !N62 (N17 a b).fst a.turn then true else (ok103 ((N17 a b).fst) (a.turn) && (bif N103 (N17 a b).fst a.turn then (bif a.variant != 3 then true else (ok62 ((N17 a b).fst) (wr .u8 (1 - a.turn)) && (bif N62 (N17 a b).fst (wr .u8 (1 - a.turn)) then true else (bif a.variant != 8 then true else (ok103 ((N17 a b).fst) (wr .u8 (1 - a.turn)) && true))))) else (bif a.variant != 8 then true else (ok103 ((N17 a b).fst) (wr .u8 (1 - a.turn)) && true)))))) else (bif a.variant != 8 then true else (ok103 ((N17 a b).fst) (wr .u8 (1 - a.turn)) && true))))))
theorem E68 (a : Pos) (b : Mv) : evPure B68 14 68 [Pos.av a, Mv.av b] = (let z1 := (Tr.br (a.variant != 8) (Tr.ret (AV.cbool true)) (Tr.br (isPS Pz 103 [(N17 a b).fst.av, AV.int .u8 (wr .u8 (1 - a.turn))] (dB.res (N103 (N17 a b).fst (wr .u8 (1 - a.turn))))) (Tr.ret (AV.bool !N103 (N17 a b).fst (wr .u8 (1 - a.turn)))) Tr.fail)); let z2 := (Tr.ret (AV.cbool false)); Tr.br (isPS Pz 17 [a.av, b.av] ((d2 dPos dB).res (N17 a b))) (Tr.br (!(N17 a b).snd) z2 (Tr.br (isPS Pz 61 [AV.int .u8 a.variant, AV.int .u8 a.turn] (dB.res (N61 a.variant a.turn))) (Tr.br (N61 a.variant a.turn) (Tr.br (isPS Pz 62 [(N17 a b).fst.av, AV.int .u8 a.turn] (dB.res (N62 (N17 a b).fst a.turn))) (Tr.br (!N62 (N17 a b).fst a.turn) z2 (Tr.br (isPS Pz 103 [(N17 a b).fst.av, AV.int .u8 a.turn] (dB.res (N103 (N17 a b).fst a.turn))) (Tr.br (N103 (N17 a b).fst a.turn) (Tr.br (a.variant != 3) z2 (Tr.br (isPS Pz 62 [(N17 a b).fst.av, AV.int .u8 (wr .u8 (1 - a.turn))] (dB.res (N62 (N17 a b).fst (wr .u8 (1 - a.turn))))) (Tr.br (N62 (N17 a b).fst (wr .u8 (1 - a.turn))) z2 z1) Tr.fail)) z1) Tr.fail)) Tr.fail) z1) Tr.fail)) Tr.fail) := by kernel_rfl
theorem P68 (a : Pos) (b : Mv) (h : ok68 a b = true) : PS Pz 68 [Pos.av a, Mv.av b] (dB.res (N68 a b)) := ps_gotR hB68 (E68 a b) (gr_call (P17 (a) (b)) (gr_br (gr_ret rfl) (gr_call (P61 (a.variant) (a.turn)) (gr_br (gr_call (P62 ((N17 a b).fst) (a.turn)) (gr_br (gr_ret rfl) (gr_call (P103 ((N17 a b).fst) (a.turn)) (gr_br (gr_br (gr_ret rfl) (gr_call (P62 ((N17 a b).fst) (wr .u8 (1 - a.turn))) (gr_br (gr_ret rfl) (gr_br (gr_ret rfl) (gr_call (P103 ((N17 a b).fst) (wr .u8 (1 - a.turn))) (gr_ret rfl)))))) (gr_br (gr_ret rfl) (gr_call (P103 ((N17 a b).fst) (wr .u8 (1 - a.turn))) (gr_ret rfl))))))) (gr_br (gr_ret rfl) (gr_call (P103 ((N17 a b).fst) (wr .u8 (1 - a.turn))) (gr_ret rfl))))))) h
noncomputable def G68 : List AV → Tr AV := g2 dPos dMv (fun a b => sure Pz 68 [Pos.av a, Mv.av b] (dB.res (N68 a b)))
theorem s68 : Sound Pz 68 G68 := sound2 (fun _ _ => at_sure)
end Kz
end
section
namespace Go.Proofs
open Go.Shelf Go.RowKit Go.Lib Go.Sort
def encM (m : Kz.Mv) : List Value := [.int .i8 m.frm, .int .i8 m.to, .int .u8 m.pro, .int .u8 m.drp, .bool m.cas]
theorem encM_len (m : Kz.Mv) : (encM m).length = 5 := rfl
structure RowW (w : World) (blk cap : Nat) (ty : TypeId) (dk : Array Kz.Mv) (W : World) : Prop where
  os : W.os = w.os
  tape : W.tape = w.tape
  output : W.output = w.output
  size : w.heap.size ≤ W.heap.size
  other : ∀ k, k < w.heap.size → k ≠ blk → W.heap[k]? = w.heap[k]?
  row : ∃ cur, W.heap[blk]? = some (.cells cur ty (0, 0)) ∧ cur.size = cap * 5 ∧ ∀ j c, j < dk.size → c < 5 → cur[j * 5 + c]? = (encM dk[j]!)[c]?
theorem RowW.below {w W W' : World} {blk cap : Nat} {ty : TypeId} {dk : Array Kz.Mv} (h : RowW w blk cap ty dk W) (hb : blk < w.heap.size) (b : Below W.heap.size W W') : RowW w blk cap ty dk W' :=
  ⟨b.os.trans h.os, b.tape.trans h.tape, b.output.trans h.output, Nat.le_trans h.size b.size, fun k hk hn => by rw [b.block k (Nat.lt_of_lt_of_le hk h.size)]; exact h.other k hk hn, by
    obtain ⟨cur, h1, h2⟩ := h.row
    exact ⟨cur, by rw [b.block blk (Nat.lt_of_lt_of_le hb h.size)]; exact h1, h2⟩⟩
theorem RowW.setCells {w W : World} {blk cap : Nat} {ty : TypeId} {dk dk' : Array Kz.Mv} (h : RowW w blk cap ty dk W) (vs : List Value) (o : Nat)
    (hd : ∀ j c, j < dk'.size → c < 5 → j < dk.size ∧ (if o ≤ j * 5 + c ∧ j * 5 + c < o + vs.length then vs[j * 5 + c - o]? else (encM dk[j]!)[c]?) = (encM dk'[j]!)[c]?) (hlen : o + vs.length ≤ cap * 5) : RowW w blk cap ty dk' (W.setCells blk o vs) := by
  obtain ⟨cur, h1, h2, h3⟩ := h.row
  have hb := Kz.lt_of_some h1
  have key : ∀ (vs : List Value) (o : Nat) (W : World) (cur : Array Value), W.heap[blk]? = some (.cells cur ty (0, 0)) → o + vs.length ≤ cur.size →
      ∃ cur', W.setCells blk o vs = Kz.putBlk W blk (.cells cur' ty (0, 0)) ∧ cur'.size = cur.size ∧ ∀ t, t < cur.size → cur'[t]? = if o ≤ t ∧ t < o + vs.length then vs[t - o]? else cur[t]? := by
    intro vs
    induction vs with
    | nil =>
      intro o W cur hW _
      refine ⟨cur, ?_, rfl, fun t _ => by rw [if_neg (by simp)]⟩
      rw [World.setCells]
      simp only [Kz.putBlk]
      have : W.heap.setIfInBounds blk (.cells cur ty (0, 0)) = W.heap := by
        apply Array.ext_getElem?
        intro i
        rw [Array.getElem?_setIfInBounds]
        split
        · rename_i e; subst e; split
          · exact hW.symm
          · rename_i h'; simp [Array.getElem?_eq_none (by omega : W.heap.size ≤ blk)]
        · rfl
      rw [this]
    | cons v vs ih =>
      intro o W cur hW hl
      simp only [List.length_cons] at hl
      have e1 : W.setCell ⟨blk, o, none⟩ v = Kz.putBlk W blk (.cells (cur.setIfInBounds o v) ty (0, 0)) := Kz.setCell_eq_put hW v
      obtain ⟨cur', a1, a2, a3⟩ := ih (o + 1) (Kz.putBlk W blk (.cells (cur.setIfInBounds o v) ty (0, 0))) (cur.setIfInBounds o v) (Kz.putBlk_same hW) (by simp; omega)
      refine ⟨cur', ?_, by rw [a2]; simp, fun t ht => ?_⟩
      · rw [World.setCells, e1, a1]
        simp [Kz.putBlk]
      · rw [a3 t (by simpa using ht)]
        by_cases h1 : o + 1 ≤ t ∧ t < o + 1 + vs.length
        · rw [if_pos h1, if_pos ⟨by omega, by simp; omega⟩]
          obtain ⟨u, rfl⟩ : ∃ u, t = o + 1 + u := ⟨t - (o + 1), by omega⟩
          rw [show o + 1 + u - (o + 1) = u by omega, show o + 1 + u - o = u + 1 by omega]
          simp
        · rw [if_neg h1, Array.getElem?_setIfInBounds]
          by_cases h2 : o = t
          · subst h2
            rw [if_pos rfl, if_pos (by omega), if_pos ⟨Nat.le_refl _, by simp⟩]
            simp
          · rw [if_neg h2, if_neg (by simp; omega)]
  obtain ⟨cur', a1, a2, a3⟩ := key vs o W cur h1 (by omega)
  rw [a1]
  refine ⟨h.os, h.tape, h.output, by rw [Kz.putBlk_size]; exact h.size, fun k hk hn => by rw [Kz.putBlk_other hn]; exact h.other k hk hn, cur', Kz.putBlk_same h1, by rw [a2, h2], fun j c hj hc => ?_⟩
  obtain ⟨hj', he⟩ := hd j c hj hc
  have hlt : j * 5 + c < cur.size := by
    rcases Nat.lt_or_ge (j * 5 + c) cur.size with h' | h'
    · exact h'
    · have := h3 j c hj' hc
      rw [Array.getElem?_eq_none h', List.getElem?_eq_getElem (by rw [encM_len]; exact hc)] at this
      cases this
  rw [a3 _ hlt, h3 j c hj' hc]
  exact he
theorem RowW.put {w W : World} {blk cap : Nat} {ty : TypeId} {dk : Array Kz.Mv} (h : RowW w blk cap ty dk W) {i : Nat} (hi : i < dk.size) (hc : dk.size ≤ cap) (u : Kz.Mv) : RowW w blk cap ty (dk.setIfInBounds i u) (W.setCells blk (i * 5) (encM u)) := by
  refine h.setCells (encM u) (i * 5) (fun j c hj hc => ?_) (by rw [encM_len]; have := Nat.mul_le_mul_right 5 (show i + 1 ≤ cap by omega); omega)
  have hj' : j < dk.size := by simpa using hj
  refine ⟨hj', ?_⟩
  rw [encM_len]
  by_cases e : i = j
  · subst e
    rw [if_pos ⟨by omega, by omega⟩, show i * 5 + c - i * 5 = c by omega, getElem!_pos (dk.setIfInBounds i u) i hj]
    simp
  · rw [if_neg (by omega), getElem!_pos (dk.setIfInBounds i u) j hj, getElem!_pos dk j hj', Array.getElem_setIfInBounds_ne _ e]
theorem RowW.tail {w W : World} {blk cap : Nat} {ty : TypeId} {dk : Array Kz.Mv} (h : RowW w blk cap ty dk W) {i n : Nat} (hn : i + n ≤ cap) (hi : i ≤ dk.size) (vs : List Value) (hl : vs.length = n * 5) : RowW w blk cap ty (dk.toList.take i).toArray (W.setCells blk (i * 5) vs) := by
  refine h.setCells vs (i * 5) (fun j c hj hc => ?_) (by rw [hl, ← Nat.add_mul]; exact Nat.mul_le_mul_right 5 hn)
  have hj' : j < i := by simp at hj; omega
  refine ⟨by omega, ?_⟩
  rw [if_neg (by omega)]
  congr 2
  rw [getElem!_pos dk j (show j < dk.size by omega), getElem!_pos (dk.toList.take i).toArray j hj]
  simp
theorem RowW.same {w W : World} {blk cap : Nat} {ty : TypeId} {dk : Array Kz.Mv} (h : RowW w blk cap ty dk W) {i : Nat} (hi : i ≤ dk.size) : RowW w blk cap ty (dk.toList.take i).toArray W := by
  obtain ⟨cur, h1, h2, h3⟩ := h.row
  refine ⟨h.os, h.tape, h.output, h.size, h.other, cur, h1, h2, fun j c hj hc => ?_⟩
  have hj' : j < i := by simp at hj; omega
  rw [h3 j c (by omega) hc]
  congr 2
  rw [getElem!_pos dk j (show j < dk.size by omega), getElem!_pos (dk.toList.take i).toArray j hj]
  simp
def zeroM : Array Value := #[Value.int IntKind.i8 0, Value.int IntKind.i8 0, Value.int IntKind.u8 0, Value.int IntKind.u8 0, Value.bool false]
theorem zeroM_one (n : Nat) : ∀ v ∈ (Builtin.zeroCells zeroM n).toList, v.oneCell' = true := by
  intro v hv
  simp only [Builtin.zeroCells, Array.toList_map, List.mem_map] at hv
  obtain ⟨i, _, rfl⟩ := hv
  have : i % zeroM.size < 5 := Nat.mod_lt _ (by decide)
  generalize i % zeroM.size = t at this
  match t, this with
  | 0, _ | 1, _ | 2, _ | 3, _ | 4, _ => rfl
  | t + 5, h => omega
theorem zeroM_len (n : Nat) : (Builtin.zeroCells zeroM n).toList.length = n * 5 := by simp [Builtin.zeroCells, zeroM]
theorem run_clear5 (W : World) (b o n c : Nat) (hn : 0 < n) (hc : ∀ t, t < n * 5 → (W.cell? ⟨b, o + t, none⟩).isSome = true) (hf : ∀ t, t < n * 5 → W.frozen? ⟨b, o + t, none⟩ = false) (ty : TypeId) :
    (Builtin.clear_ #[33] ty #[.slice (some ⟨b, o, none⟩) n c]).run Tryz.prog W = .ok (.tuple #[]) (W.setCells b o (Builtin.zeroCells zeroM n).toList) := by
  have hst := run_storeCells_cells (P := Tryz.prog) b o (Builtin.zeroCells zeroM n).toList 0 W (by rw [zeroM_len]; simpa using hc) (by rw [zeroM_len]; simpa using hf) (zeroM_one n)
  simp only [Nat.add_zero] at hst
  obtain ⟨m, rfl⟩ : ∃ m, n = m + 1 := ⟨n - 1, by omega⟩
  have hz : (Value.agg zeroM).cells = zeroM := rfl
  have hv : ∀ w, (zeroValue 44).run Tryz.prog w = .ok (.agg zeroM) w := Tryz.zeroValue44
  simp only [zeroM] at hst hz hv
  simp [Builtin.clear_, run_underlying Tryz.underlying33, hv, hz, hst]
  rfl
theorem RowW.cell {w W : World} {blk cap : Nat} {ty : TypeId} {dk : Array Kz.Mv} (h : RowW w blk cap ty dk W) {j : Nat} (hj : j < dk.size) (c : Nat) (hc : c < 5) : W.cell? ⟨blk, j * 5 + c, none⟩ = some ((encM dk[j]!)[c]'hc) ∧ W.frozen? ⟨blk, j * 5 + c, none⟩ = false := by
  obtain ⟨cur, h1, h2, h3⟩ := h.row
  refine ⟨?_, Kz.frozen_of_blk h1⟩
  rw [Kz.cell_of_blk h1, h3 j c hj hc]
  exact List.getElem?_eq_getElem _
theorem RowW.load {w W : World} {blk cap : Nat} {ty : TypeId} {dk : Array Kz.Mv} (h : RowW w blk cap ty dk W) {j : Nat} (hj : j < dk.size) : Sem.run Tryz.prog (loadCellsFrom ⟨blk, 0 + j * 5, none⟩ 0 5 #[]) W = .ok (encM dk[j]!).toArray W :=
  run_loadCellsFrom_list Tryz.prog _ _ (encM dk[j]!) 5 rfl (fun c v hc => by
    have hc5 : c < 5 := (List.getElem?_eq_some_iff.1 hc).1
    obtain ⟨cur, h1, h2, h3⟩ := h.row
    rw [Addr.add_lit]
    rw [Kz.cell_of_blk h1, Nat.zero_add, h3 j c hj hc5]
    exact hc)
set_option maxHeartbeats 1000000 in
set_option maxRecDepth 100000 in
theorem delM (p : Kz.Mv → Bool) (g : Nat) (lb : Array Value) (eg : ∀ args w, (callFunc g args).run Tryz.prog w = .ok (.enter g args) w) (blk cap : Nat) (d : Array Kz.Mv) (w : World) (hb : blk < w.heap.size) (hH : RowW w blk cap 44 d w) (hcap : d.size ≤ cap) (hmax : cap ≤ maxLen)
    (hpo : ∀ W dk x, RowW w blk cap 44 dk W → Calls Tryz.prog g (#[.agg (encM x).toArray] ++ lb) W fun e w' => e = .returned (.bool (p x)) ∧ RowKit.Below W.heap.size W w') :
    Calls Tryz.prog 64 #[.slice (some ⟨blk, 0, none⟩) d.size cap, .func (.func g) #[] lb] w fun e w' => e = .returned (.slice (some ⟨blk, 0, none⟩) (d.toList.filter fun x => !p x).length cap) ∧ RowW w blk cap 44 (d.toList.filter fun x => !p x).toArray w' := by
  have hsz : d.size ≤ 9223372036854775807 := by unfold maxLen at hmax; omega
  have e6 : ∀ args w, (callFunc 130 args).run Tryz.prog w = .ok (.enter 130 args) w := fun args w => by rfl
  have hp : PredBelow Tryz.prog g lb (fun x => .agg (encM x).toArray) p w := fun W x hB => (hpo W d x (hH.below hb hB)).mono fun e w' ⟨h1, h2⟩ => ⟨h1, hB.trans (h2.mono hB.size)⟩
  have hIF := AnyQ.slices_IndexFunc Tryz.idxM 5 Tryz.isAgg44 Tryz.sizeOf44 encM encM_len p g lb eg blk 0 d.size cap d.toList w hp (by simp) hsz hb (fun j hj i v hi => by
    have hi5 : i < 5 := (List.getElem?_eq_some_iff.1 hi).1
    have hj' : j < d.size := by simpa using hj
    obtain ⟨cur, h1, h2, h3⟩ := hH.row
    rw [Kz.cell_of_blk h1, Nat.zero_add, h3 j i hj' hi5]
    rw [← hi, getElem!_pos d j hj', getElem!_pos d.toList j hj]
    simp)
  rw [show d.toList.take d.size = d.toList from List.take_of_length_le (by simp)] at hIF
  have tl : ∀ j, j < d.size → d.toList[j]! = d[j]! := fun j hj => by rw [getElem!_pos d j hj, getElem!_pos d.toList j (by simpa using hj)]; simp
  obtain ⟨kp, HK⟩ : ∃ kp : Nat → Bool, Hid (kp = fun j => !p d[j]!) := ⟨_, rfl⟩
  have hfil : (d.toList.filter fun x => !p x) = keptUpTo kp d d.size := by rw [HK.out]; exact (keptUpTo_filter (fun x => !p x) d).symm
  rw [hfil]
  rcases idxByFrom_spec (fun _ y => p y) default d.toList 0 with ⟨e1, hall⟩ | ⟨k0, hk0, e1, ht, hall⟩
  ·
    have e2 : Lib.idxBy (fun _ y => p y) d.toList default = -1 := e1
    rw [e2] at hIF
    have hkeep : ∀ j, j < d.size → kp j = true := fun j hj => by rw [HK.out]; show (!p d[j]!) = true; rw [← tl j hj, hall j (by simpa using hj)]; rfl
    have e3 : keptUpTo kp d d.size = d.toList := by rw [keptUpTo_all kp d _ hkeep, range_map_get]
    have HH : Aside (RowW w blk cap 44 d w) := hH
    have HB : Hid (blk < w.heap.size) := hb
    clear hH hpo hp hb
    go_enter Tryz.func64, Tryz.ntmps64
    go_wp2_with (go_at_fn 130; refine hIF.mono ?_; rintro e w' ⟨rfl, hbl⟩)
    go_ret
    rw [e3]
    exact ⟨by simp, by simpa using HH.out.below HB.out hbl⟩
  · have hk0' : k0 < d.size := by simpa using hk0
    have e2 : Lib.idxBy (fun _ y => p y) d.toList default = (k0 : Int) := by unfold Lib.idxBy; rw [e1]; simp
    rw [e2] at hIF
    have hkeep : ∀ j, j < k0 → kp j = true := fun j hj => by rw [HK.out]; show (!p d[j]!) = true; rw [← tl j (by omega), hall j hj]; rfl
    have hdrop : kp k0 = false := by rw [HK.out]; show (!p d[k0]!) = false; rw [← tl k0 hk0']; rw [show p d.toList[k0]! = true from ht]; rfl
    have hne1 : ((k0 : Int) == -1) = false := beq_eq_false_iff_ne.2 (by omega)
    have HC : Aside _ := hpo
    have HH : Aside (RowW w blk cap 44 d w) := hH
    have HB : Hid (blk < w.heap.size) := hb
    clear hpo hp hH hb hall ht e1 e2 tl
    go_enter Tryz.func64, Tryz.ntmps64
    go_wp2_with (go_at_fn 130; refine hIF.mono ?_; rintro e w' ⟨rfl, hbl⟩)
    have HBL := Lib.hid hbl
    clear hbl
    go_loopg [5, 6, 7] d.size (fun gg s5 s6 _ wr => ∃ (i j : Nat) (dk : Array Kz.Mv), s5 = .int .i64 i ∧ s6 = .int .i64 j ∧ j ≤ d.size ∧ d.size - j ≤ gg ∧ Aside (RowW w blk cap 44 dk wr) ∧ Aside (KeptInv kp d j i dk))
    case atStart => exact ⟨k0, k0 + 1, d, rfl, by go_num, by omega, by omega, HH.out.below HB.out HBL.out, KeptInv.start hkeep hdrop⟩
    case round =>
      obtain ⟨i, j, dk, rfl, rfl, hjd, hgg, W2, I2⟩ := hrel
      have hI := I2.out
      have hij := hI.lt
      have hds := hI.size
      by_cases hlt : j < d.size
      · have hltz : (j : Int) < (d.size : Int) := by omega
        have c0 := (W2.out.cell (j := j) (by omega) 0 (by omega)).1
        have c1 := (W2.out.cell (j := j) (by omega) 1 (by omega)).1
        have c2 := (W2.out.cell (j := j) (by omega) 2 (by omega)).1
        have c3 := (W2.out.cell (j := j) (by omega) 3 (by omega)).1
        have c4 := (W2.out.cell (j := j) (by omega) 4 (by omega)).1
        simp only [hI.high j (by omega), encM, List.getElem_cons_succ, List.getElem_cons_zero, Nat.add_zero] at c0 c1 c2 c3 c4
        clear hI
        generalize hu : d[j]! = u at c0 c1 c2 c3 c4
        have C : Aside (d[j]! = u) := hu
        clear hu
        have hW1 : RowW w blk cap 44 dk (wr.alloc (Obj.cells #[Value.int IntKind.i8 u.frm, Value.int IntKind.i8 u.to, Value.int IntKind.u8 u.pro, Value.int IntKind.u8 u.drp, Value.bool u.cas] 44)) :=
          W2.out.below HB.out ((Below.refl _ _).alloc (Nat.le_refl _) _)
        have hcall : Calls Tryz.prog g (#[Value.agg #[Value.int IntKind.i8 u.frm, Value.int IntKind.i8 u.to, Value.int IntKind.u8 u.pro, Value.int IntKind.u8 u.drp, Value.bool u.cas]] ++ lb) _ _ := HC.out _ dk u hW1
        have HW1 := Lib.hid hW1
        clear hW1
        cases hq : p u with
        | false =>
          rw [hq] at hcall
          have HCALL := Lib.hid hcall
          clear hcall
          go_wp2_with fail
          refine HCALL.out.mono ?_
          rintro e w2 ⟨rfl, hb2⟩
          have hW2 := HW1.out.below HB.out hb2
          have r0 := hW2.cell (j := i) (by omega) 0 (by omega)
          have r1 := hW2.cell (j := i) (by omega) 1 (by omega)
          have r2 := hW2.cell (j := i) (by omega) 2 (by omega)
          have r3 := hW2.cell (j := i) (by omega) 3 (by omega)
          have r4 := hW2.cell (j := i) (by omega) 4 (by omega)
          simp only [Nat.add_zero] at r0
          obtain ⟨r0, f0⟩ := r0
          obtain ⟨r1, f1⟩ := r1
          obtain ⟨r2, f2⟩ := r2
          obtain ⟨r3, f3⟩ := r3
          obtain ⟨r4, f4⟩ := r4
          have hcs : ∀ c, w2.cell? ⟨wr.heap.size, c, none⟩ = (#[Value.int IntKind.i8 u.frm, Value.int IntKind.i8 u.to, Value.int IntKind.u8 u.pro, Value.int IntKind.u8 u.drp, Value.bool u.cas] : Array Value)[c]? := fun c => by
            rw [hb2.cell (p := ⟨wr.heap.size, c, none⟩) (by simp), Kz.cell_of_blk (heap_alloc_new wr _)]
          have b0 := hcs 0
          have b1 := hcs 1
          have b2 := hcs 2
          have b3 := hcs 3
          have b4 := hcs 4
          simp at b0 b1 b2 b3 b4
          have HW2 := Lib.hid hW2
          clear hcs hb2 hW2
          go_wp2_with fail
          go_roundg (d.size - (j + 1))
          case measure => omega
          case rel =>
            refine ⟨i + 1, j + 1, dk.setIfInBounds i u, by go_num, by go_num, by omega, Nat.le_refl _, HW2.out.put (i := i) (by omega) (by omega) u, (show Aside _ from ?_)⟩
            have := I2.out.keep hlt (by rw [HK.out]; show (!p d[j]!) = true; rw [C.out, hq]; rfl)
            rwa [C.out] at this
        | true =>
          rw [hq] at hcall
          have HCALL := Lib.hid hcall
          clear hcall
          go_wp2_with fail
          refine HCALL.out.mono ?_
          rintro e w2 ⟨rfl, hb2⟩
          have HW2 := Lib.hid (HW1.out.below HB.out hb2)
          clear hb2
          go_wp2_with fail
          go_roundg (d.size - (j + 1))
          case measure => omega
          case rel => exact ⟨i, j + 1, dk, rfl, by go_num, by omega, Nat.le_refl _, HW2.out, I2.out.skip (by rw [HK.out]; show (!p d[j]!) = false; rw [C.out, hq]; rfl)⟩
      · obtain rfl : j = d.size := by omega
        have hltz : ¬ (d.size : Int) < (d.size : Int) := by omega
        have hcl : ∀ ty, (Builtin.clear_ #[33] ty #[.slice (some ⟨blk, i * 5, none⟩) (d.size - i) (cap - i)]).run Tryz.prog wr = .ok (.tuple #[]) (wr.setCells blk (i * 5) (Builtin.zeroCells zeroM (d.size - i)).toList) := by
          obtain ⟨cur, h1, h2, h3⟩ := W2.out.row
          refine run_clear5 wr blk (i * 5) (d.size - i) (cap - i) (by omega) (fun t ht => ?_) (fun t ht => Kz.frozen_of_blk h1)
          rw [Kz.cell_of_blk h1]
          have : d.size * 5 ≤ cap * 5 := Nat.mul_le_mul_right 5 hcap
          have h5 : (d.size - i) * 5 = d.size * 5 - i * 5 := Nat.sub_mul _ _ _
          rw [Array.getElem?_eq_getElem (by omega)]
          rfl
        have hid : i ≤ d.size := by omega
        clear hI
        go_wp2
        go_ret
        have hI := I2.out
        refine ⟨by rw [hI.len]; rfl, ?_⟩
        have := W2.out.tail (i := i) (n := d.size - i) (by omega) (by omega) _ (zeroM_len (d.size - i))
        have e : keptUpTo kp d d.size = dk.toList.take i := by
          have hsz' := hI.size
          apply List.ext_getElem?
          intro j
          by_cases hj : j < i
          · rw [hI.low j hj, List.getElem?_take_of_lt hj, getElem!_pos dk j (by omega), List.getElem?_eq_getElem (by simp; omega)]
            simp
          · rw [List.getElem?_eq_none (by rw [hI.len]; omega), List.getElem?_eq_none (by simp; omega)]
        rw [e]
        exact this
end Go.Proofs
end
section
namespace Go.Proofs
open Go.Shelf Go.RowKit Go.Lib Go.Sort Kz
theorem mv_cells {g : Gh} {tk : List Nat} {w : World} {m : Mv} {cs : List Value} (h : RepC g tk w (segs (Mv.av m)) cs) : cs = encM m := by
  change RepC g tk w [.int .i8 m.frm, .int .i8 m.to, .int .u8 m.pro, .int .u8 m.drp, .bool m.cas] cs at h
  obtain ⟨x1, r1, rfl, q1, h⟩ := h.inv_one rfl
  obtain ⟨x2, r2, rfl, q2, h⟩ := h.inv_one rfl
  obtain ⟨x3, r3, rfl, q3, h⟩ := h.inv_one rfl
  obtain ⟨x4, r4, rfl, q4, h⟩ := h.inv_one rfl
  obtain ⟨x5, r5, rfl, q5, h⟩ := h.inv_one rfl
  obtain rfl := h.inv_nil
  cases q1; cases q2; cases q3; cases q4; cases q5
  rfl
theorem mv_rep (g : Gh) (tk : List Nat) (w : World) (m : Mv) : RepC g tk w (segs (Mv.av m)) (encM m) :=
  .one rfl (.int _ _) (.one rfl (.int _ _) (.one rfl (.int _ _) (.one rfl (.int _ _) (.one rfl (.bool _) .nil))))
theorem mvs_cells {g : Gh} {tk : List Nat} {w : World} : ∀ {l : List Mv} {cs : List Value}, RepE g tk w (l.map (enc .mv)) cs → cs = l.flatMap encM
  | [], _, h => by cases h; rfl
  | m :: l, _, h => by
    cases h with
    | cons hs hx h hr => rw [hx, mv_cells h, mvs_cells hr]; rfl
theorem mvs_rep (g : Gh) (tk : List Nat) (w : World) : ∀ l : List Mv, RepE g tk w (l.map (enc .mv)) (l.flatMap encM)
  | [] => .nil
  | m :: l => .cons rfl rfl (mv_rep g tk w m) (mvs_rep g tk w l)
theorem flat_len (l : List Mv) : (l.flatMap encM).length = l.length * 5 := by
  induction l with
  | nil => rfl
  | cons m l ih => simp only [List.flatMap_cons, List.length_append, encM_len, ih, List.length_cons]; omega
theorem flat_get : ∀ (l : List Mv) (j c : Nat), j < l.length → c < 5 → (l.flatMap encM)[j * 5 + c]? = (encM l[j]!)[c]?
  | [], _, _, h, _ => absurd h (Nat.not_lt_zero _)
  | m :: l, 0, c, _, hc => by
    simp only [List.flatMap_cons]
    rw [List.getElem?_append_left (by rw [encM_len]; omega)]
    simp
  | m :: l, j + 1, c, h, hc => by
    simp only [List.flatMap_cons]
    rw [List.getElem?_append_right (by rw [encM_len]; omega), encM_len, show (j + 1) * 5 + c - 5 = j * 5 + c by omega, flat_get l j c (by simpa using h) hc]
    simp
theorem encM_one (m : Mv) : ∀ u ∈ encM m, u.oneCell' = true := by
  intro u hu
  simp only [encM, List.mem_cons, List.not_mem_nil, or_false] at hu
  rcases hu with rfl | rfl | rfl | rfl | rfl <;> rfl
theorem flat_one (l : List Mv) : ∀ u ∈ l.flatMap encM, u.oneCell' = true := by
  intro u hu
  obtain ⟨m, _, h⟩ := List.mem_flatMap.1 hu
  exact encM_one m u h
theorem pos_rep {g g' : Gh} {tk tk' : List Nat} {w w' : World} {p : Pos} {cs : List Value} (h : RepC g tk w (segs (Pos.av p)) cs) : RepC g' tk' w' (segs (Pos.av p)) cs := by
  change RepC g tk w [.int .u8 p.variant, .ints .u8 64 p.board, .u64 p.promoted, .ints .u8 12 p.pockets, .int .u8 p.turn, .ints .i8 4 p.rooks, .int .i8 p.passing, .ints .u8 2 p.checks, .int .i64 p.half, .int .i64 p.full] cs at h
  obtain ⟨x1, r1, rfl, q1, h1⟩ := h.inv_one rfl
  obtain ⟨l2, r2, rfl, h2⟩ := h1.inv_ints
  obtain ⟨x3, r3, rfl, q3, h3⟩ := h2.inv_one rfl
  obtain ⟨l4, r4, rfl, h4⟩ := h3.inv_ints
  obtain ⟨x5, r5, rfl, q5, h5⟩ := h4.inv_one rfl
  obtain ⟨l6, r6, rfl, h6⟩ := h5.inv_ints
  obtain ⟨x7, r7, rfl, q7, h7⟩ := h6.inv_one rfl
  obtain ⟨l8, r8, rfl, h8⟩ := h7.inv_ints
  obtain ⟨x9, r9, rfl, q9, h9⟩ := h8.inv_one rfl
  obtain ⟨x10, r10, rfl, q10, h10⟩ := h9.inv_one rfl
  obtain rfl := h10.inv_nil
  cases q1; cases q3; cases q5; cases q7; cases q9; cases q10
  exact .one rfl (.int _ _) (.ints l2 rfl (.one rfl (.u64 _) (.ints l4 rfl (.one rfl (.int _ _) (.ints l6 rfl (.one rfl (.int _ _) (.ints l8 rfl (.one rfl (.int _ _) (.one rfl (.int _ _) .nil)))))))))
set_option maxHeartbeats 1000000 in
set_option maxRecDepth 100000 in
theorem idx0 (a : Option Addr) (c : Nat) (fv : Value) (w : World) : Calls Tryz.prog 130 #[.slice a 0 c, fv] w fun e w' => e = .returned (.int .i64 (-1)) ∧ w' = w := by
  go_enter Tryz.func130, Tryz.ntmps130
  go_wp2
  go_loopg [5, 8] 0 (fun _ _ s8 wr => s8 = .int .i64 0 ∧ wr = w)
  case atStart => exact ⟨rfl, rfl⟩
  case round =>
    obtain ⟨rfl, rfl⟩ := hrel
    go_wp2
    go_ret
    exact ⟨rfl, rfl⟩
set_option maxHeartbeats 1000000 in
set_option maxRecDepth 100000 in
theorem del0 (a : Option Addr) (c : Nat) (fv : Value) (w : World) : Calls Tryz.prog 64 #[.slice a 0 c, fv] w fun e w' => e = .returned (.slice a 0 c) ∧ w' = w := by
  have h := idx0 a c fv w
  go_enter Tryz.func64, Tryz.ntmps64
  go_wp2_with fail
  refine h.mono ?_
  rintro e w' ⟨rfl, rfl⟩
  go_wp2_with fail
  go_ret
  exact ⟨rfl, rfl⟩
set_option maxHeartbeats 2000000 in
set_option maxRecDepth 100000 in
theorem clone0 (ad : Addr) (c : Nat) (w : World) : Calls Tryz.prog 65 #[.slice (some ad) 0 c] w fun e w' => ∃ v', e = .returned v' ∧ w'.ownsRow w.heap.size 44 5 v' 0 [] ∧ v' ≠ .slice none 0 0 ∧ RowKit.Below w.heap.size w w' := by
  obtain ⟨i0, z, a1, a2, a3, a4, a5⟩ := info44
  have q22 : ∀ (w : World) (a : Option Addr) (n c n' c' : Nat), (binOp .eql 33 (.slice a n c) (.slice none n' c')).run Tryz.prog w = .ok (.bool a.isNone) w := fun w a n c n' c' => Lib.run_eql_slice_nil w _ _ a n c n' c' Tryz.underlying33
  have u22 : ∀ w, Sem.run Tryz.prog (underlying 33) w = .ok (TypeDesc.slice 44) w := run_underlying Tryz.underlying33
  go_enter Tryz.func65, Tryz.ntmps65
  go_wp2_with (at_builtin; refine wpList_append_own _ rfl _ _ 33 rfl w.heap.size 44 i0 z 5 i0.bytes Tryz.underlying33 a1 a2 a3 rfl a4 (by omega) _ _ _ rfl (World.ownsRow_made w #[] 0 (Nat.le_refl _) (Nat.zero_le _) (by simp)) ad 0 c [] rfl ?qc1 ?qc2 ?qc3 ?qc4 ?qc5 ?qc6 ?_)
  case qc1 => rfl
  case qc2 => intro j u hj; simp at hj
  case qc3 => intro u hu; simp at hu
  case qc4 => simp
  case qc5 => simp
  case qc6 => simp
  intro v' w1 hown hgrow hnil
  go_wp2
  go_ret
  refine ⟨v', rfl, by simpa using hown, ?_, ?_⟩
  · exact hnil
  · exact ((Below.refl _ w).alloc (Nat.le_refl _) _).grown hgrow (by simp) (by intro k hk; simp [Value.ownBlock] at hk; omega)
set_option maxHeartbeats 2000000 in
set_option maxRecDepth 100000 in
theorem keepM (p : Pos) (f2 : Nat) (q : Mv → Bool) (l : List Mv) (hll : l.length ≤ lim) (hq : ∀ m, PureSpec Tryz.prog 66 [Mv.av m, .ptrf (.func f2 [] [.ptrf (Pos.av p)])] (.bool (!q m))) : PureSpec Tryz.prog 63 [.list .mv l .arg, .func f2 [] [.ptrf (Pos.av p)]] (.list .mv (l.filter q) .fresh) := by
  intro w vals hg hr
  obtain ⟨vals⟩ := vals
  cases hr with
  | cons q1 r1 =>
  cases r1 with
  | cons q2 r2 =>
  cases r2
  cases q2 with
  | func ha hb =>
  rename_i x y
  obtain ⟨x⟩ := x
  obtain ⟨y⟩ := y
  cases ha
  cases hb with
  | cons q3 r3 =>
  cases r3
  cases q3 with
  | ptrf hpc hpa =>
  rename_i pc po pcs
  cases q1 with
  | list hn hE hS hT hC =>
  rename_i a n cap cs
  subst hn
  have hcs := mvs_cells hE
  obtain ⟨fv, hfv⟩ : ∃ fv : Value, fv = .func (.func f2) (Array.mk []) (Array.mk [.pointer (some ⟨pc, po, none⟩)]) := ⟨_, rfl⟩
  rw [← hfv]
  have hpred : ∀ (W : World) (u : Mv), w.heap.size + 1 ≤ W.heap.size → (∀ k, k < w.heap.size + 1 → W.heap[k]? = (w.alloc (.cells #[fv] 85)).heap[k]?) →
      Calls Tryz.prog 66 (#[.agg (encM u).toArray] ++ #[.pointer (some ⟨w.heap.size, 0, none⟩)]) W fun e w' => e = .returned (.bool (!q u)) ∧ RowKit.Below W.heap.size W w' := by
    intro W u hsz hsame
    have old : ∀ k, k < w.heap.size → W.heap[k]? = w.heap[k]? := fun k hk => by
      rw [hsame k (by omega)]
      exact ((Below.refl _ w).alloc (Nat.le_refl _) _).block k hk
    refine (callsIn_wide.1 (hq u W (#[.agg (encM u).toArray] ++ #[.pointer (some ⟨w.heap.size, 0, none⟩)]) ?_ ?_)).mono ?_
    · intro pr hpr j x hj
      obtain ⟨h1, h2⟩ := hg pr hpr j x hj
      have hlt : pr.1 < w.heap.size := h2
      exact ⟨by rw [cell_same (old _ hlt)]; exact h1, Nat.lt_of_lt_of_le hlt (by omega)⟩
    · refine .cons (.agg (mv_rep _ _ _ u)) (.cons (.ptrf (cs := [fv]) (.one rfl ?_ .nil) ?_) .nil)
      · rw [hfv]
        refine .func .nil (.cons (.ptrf (pos_rep hpc) ?_) .nil)
        intro j x hj
        obtain ⟨h1, h2⟩ := hpa j x hj
        have hlt : pc < w.heap.size := h2
        exact ⟨by rw [cell_same (old _ hlt)]; exact h1, Nat.lt_of_lt_of_le hlt (by omega)⟩
      · intro j x hj
        have hc : W.heap[w.heap.size]? = some (.cells #[fv] 85 (0, 0)) := by
          rw [hsame _ (Nat.lt_succ_self _)]; exact heap_alloc_new w _
        refine ⟨?_, show w.heap.size < W.heap.size by omega⟩
        rw [cell_of_blk hc, Nat.zero_add]
        simpa using hj
    · rintro e w' ⟨v, rfl, hb, hv⟩
      cases hv
      exact ⟨rfl, hb⟩
  subst hfv
  clear hpc hpa
  refine callsIn_wide.2 ?_
  cases a with
  | none =>
    obtain rfl : l = [] := by
      rcases hS with h | ⟨_, _, h, _⟩
      · have := flat_len l
        rw [← hcs, h] at this
        exact List.eq_nil_of_length_eq_zero (by simp at this; omega)
      · cases h
    have hc := fun w => AnyE.slices_Clone_nil Tryz.cloneM 0 cap w
    have hd := del0 none 0 (.func (.func 66) #[] #[.pointer (some ⟨w.heap.size, 0, none⟩)])
    clear hpred hS hcs hE hT
    go_enter Tryz.func63, Tryz.ntmps63
    go_wp2_with fail
    refine (hc _).mono ?_
    rintro e w' ⟨rfl, rfl⟩
    go_wp2_with fail
    refine (hd _).mono ?_
    rintro e w' ⟨rfl, rfl⟩
    go_wp2_with fail
    go_ret
    exact ⟨_, rfl, (Below.refl _ w).alloc (Nat.le_refl _) _, .list (cs := []) rfl .nil (.inl rfl) (fun k e => by cases e) (Nat.le_refl _)⟩
  | some ad =>
    have hclone : Calls Tryz.prog 65 #[.slice (some ad) l.length cap] (w.alloc (.cells #[(.func (.func f2) (Array.mk []) (Array.mk [.pointer (some ⟨pc, po, none⟩)]))] 85)) fun e w' => ∃ v', e = .returned v' ∧ w'.ownsRow (w.alloc (.cells #[(.func (.func f2) (Array.mk []) (Array.mk [.pointer (some ⟨pc, po, none⟩)]))] 85)).heap.size 44 5 v' l.length (l.flatMap encM) ∧ v' ≠ .slice none 0 0 ∧ RowKit.Below (w.alloc (.cells #[(.func (.func f2) (Array.mk []) (Array.mk [.pointer (some ⟨pc, po, none⟩)]))] 85)).heap.size (w.alloc (.cells #[(.func (.func f2) (Array.mk []) (Array.mk [.pointer (some ⟨pc, po, none⟩)]))] 85)) w' := by
      by_cases hl : l = []
      · subst hl
        exact clone0 ad cap _
      · obtain ⟨c, o, hadr, hat, _⟩ := hS.resolve_left (fun e0 => hl (by
          have := flat_len l
          rw [← hcs, e0] at this
          exact List.eq_nil_of_length_eq_zero (by simp at this; omega)))
        simp only [Option.some.injEq] at hadr
        subst hadr
        obtain ⟨i0, z, a1, a2, a3, a4, a5⟩ := info44
        refine AnyE.slices_Clone Tryz.cloneM i0 z 5 i0.bytes a1 a2 a3 rfl a4 (by omega) Tryz.sizeOf44 c o l.length cap (l.flatMap encM) _ (flat_len l) ?_ ?_ ?_ (flat_one l)
        · unfold lim at hll; unfold maxLen; omega
        · have : l.length * i0.bytes ≤ l.length * 131072 := Nat.mul_le_mul_left _ a5
          unfold lim at hll
          omega
        · intro j u hj
          rw [← hcs] at hj
          obtain ⟨h1, h2⟩ := hat j u hj
          have hlt : c < w.heap.size := h2
          rw [cell_same (((Below.refl _ w).alloc (Nat.le_refl _) _).block c hlt)]
          exact h1
    clear hS hcs hE hT
    have HP := Lib.hid hpred
    clear hpred
    go_enter Tryz.func63, Tryz.ntmps63
    go_wp2_with fail
    refine hclone.mono ?_
    rintro e w2 ⟨v', rfl, hown, hne, hb⟩
    obtain ⟨hlen, ⟨rfl, _⟩ | ⟨gb, cap', cur, rfl, hgb, hcur, hn', hmax, hsz, htake⟩⟩ := hown
    · exact absurd rfl hne
    have hrow : RowW w2 gb cap' 44 l.toArray w2 := ⟨rfl, rfl, rfl, Nat.le_refl _, fun _ _ _ => rfl, cur, hcur, hsz, fun j c hj hc => by
      have hj' : j < l.length := by simpa using hj
      have h1 : j * 5 + c < l.length * 5 := by have := Nat.mul_le_mul_right 5 (show j + 1 ≤ l.length from hj'); omega
      rw [← Array.getElem?_toList, ← List.getElem?_take_of_lt h1, htake, flat_get l j c hj' hc]
      congr 2
      rw [getElem!_pos l j hj', getElem!_pos l.toArray j hj]
      simp⟩
    have hdel := delM (fun u => !q u) 66 #[.pointer (some ⟨w.heap.size, 0, none⟩)] (fun _ _ => rfl) gb cap' l.toArray w2 (lt_of_some hcur) hrow (by simpa using hn') hmax (fun W dk u hW => by
      have hs1 : (w.alloc (.cells #[(.func (.func f2) (Array.mk []) (Array.mk [.pointer (some ⟨pc, po, none⟩)]))] 85)).heap.size = w.heap.size + 1 := by simp
      refine HP.out W u (by have := hb.size; have := hW.size; omega) (fun k hk => ?_)
      rw [hW.other k (by have := hb.size; omega) (by omega), hb.block k (by omega)])
    simp only [List.size_toArray, Bool.not_not] at hdel
    have HD := Lib.hid hdel
    have HBW := Lib.hid hb
    have HG := Lib.hid hgb
    have HN := Lib.hid hn'
    clear hdel HP hrow hb hgb hn' hcur hsz htake hlen hne hmax hclone
    go_wp2_with fail
    refine HD.out.mono ?_
    rintro e w3 ⟨rfl, hR⟩
    have HR := Lib.hid hR
    clear hR
    go_wp2_with fail
    go_ret
    have hR := HR.out
    have hb := HBW.out
    have hgb := HG.out
    have hs1 : (w.alloc (.cells #[(.func (.func f2) (Array.mk []) (Array.mk [.pointer (some ⟨pc, po, none⟩)]))] 85)).heap.size = w.heap.size + 1 := by simp
    have hw1 : RowKit.Below w.heap.size w (w.alloc (.cells #[(.func (.func f2) (Array.mk []) (Array.mk [.pointer (some ⟨pc, po, none⟩)]))] 85)) := (Below.refl _ w).alloc (Nat.le_refl _) _
    have hbw : RowKit.Below w.heap.size w w3 := ⟨hR.os.trans (hb.os.trans hw1.os), hR.tape.trans (hb.tape.trans hw1.tape), hR.output.trans (hb.output.trans hw1.output), by have := hR.size; have := hb.size; omega, fun k hk => by
      rw [hR.other k (by have := hb.size; omega) (by omega), hb.block k (by omega)]
      exact hw1.block k hk⟩
    refine ⟨_, rfl, hbw, ?_⟩
    obtain ⟨cur, k1, k2, k3⟩ := hR.row
    have hfl : (l.filter q).length ≤ l.length := List.length_filter_le _ _
    refine .list (cs := (l.filter q).flatMap encM) (by simp) (mvs_rep _ _ _ _) (.inr ⟨gb, 0, rfl, fun j x hj => ?_, fun _ => by show w.heap.size ≤ gb; omega⟩) (fun k e => by cases e) (Nat.le_trans hfl HN.out)
    have hjl : j < (l.filter q).length * 5 := by rw [← flat_len]; exact (List.getElem?_eq_some_iff.1 hj).1
    have hdm : j = j / 5 * 5 + j % 5 := by omega
    have hq5 : j / 5 < (l.filter q).length := by omega
    refine ⟨?_, show w.heap.size ≤ gb ∧ gb < w3.heap.size from ⟨by omega, lt_of_some k1⟩⟩
    rw [cell_of_blk k1, Nat.zero_add, hdm, k3 (j / 5) (j % 5) (by simpa using hq5) (Nat.mod_lt _ (by omega)), ← hj]
    conv => rhs; rw [hdm]
    rw [flat_get (l.filter q) (j / 5) (j % 5) hq5 (Nat.mod_lt _ (by omega))]
    congr 2
    rw [getElem!_pos (l.filter q) (j / 5) hq5, getElem!_pos (l.filter q).toArray (j / 5) (by simpa using hq5)]
    simp
end Go.Proofs
end
section
namespace Kz
open Go Go.RowKit Go.Proofs
def posAt (h : Hp) (b : Nat) : Pos := match h.heap.getD b [] with
  | [.int _ v, .ints _ _ bd, .u64 pr, .ints _ _ pk, .int _ tn, .ints _ _ rk, .int _ ps, .ints _ _ ck, .int _ hf, .int _ fl] => ⟨v, bd, pr, pk, tn, rk, ps, ck, hf, fl⟩
  | _ => default
def clo (vs : List AV) : Option (Nat × Nat) := match vs with
  | [_, .func f [] [.ptr b 0]] => some (f, b)
  | _ => none
theorem fs_keep {P : Program} {f : Nat} {l l' : List Mv} {tk : Tk} {f2 b : Nat} {p : Pos} {h : Hp} (hb : h.heap[b]? = some (segs (Pos.av p))) (hs : PureSpec P f [.list .mv l .arg, .func f2 [] [.ptrf (Pos.av p)]] (.list .mv l' .fresh)) :
    FSpec P f [.list .mv l tk, .func f2 [] [.ptr b 0]] h (.ret (.list .mv l' .fresh) h) := by
  intro g w vals m hr
  have hr' : RepL (gArg w) [] w [.list .mv l .arg, .func f2 [] [.ptrf (Pos.av p)]] vals.toList := by
    obtain ⟨vals⟩ := vals
    cases hr with
    | cons q1 r1 =>
    cases r1 with
    | cons q2 r2 =>
    cases r2
    cases q1 with
    | list hn hE hS hT hC =>
    rename_i a n cap cs
    cases q2 with
    | func ha hb2 =>
    rename_i x y
    obtain ⟨x⟩ := x
    obtain ⟨y⟩ := y
    cases ha
    cases hb2 with
    | cons q3 r3 =>
    cases r3
    cases q3 with
    | ptr hv =>
    rename_i c
    obtain ⟨_, _, cells, ty, hc, hcells⟩ := m.var b c _ hv hb
    refine .cons (.list (cs := cs) hn (by rw [mvs_cells hE]; exact mvs_rep _ _ _ _) (hS.imp id fun ⟨c', o', e1, e2, _⟩ => ⟨c', o', e1, fun j x hj => ⟨(e2 j x hj).1, m.fzlt _ _ (e2 j x hj).2⟩, fun f => absurd rfl f⟩) (fun k e => by cases e) hC)
      (.cons (.func .nil (.cons (.ptrf (cs := cells.toList) (pos_rep hcells) fun j x hj => ⟨by rw [cell_of_blk hc, Nat.zero_add]; simpa using hj, lt_of_some hc⟩) .nil)) .nil)
  refine (hs w vals m.globOk hr').mono ?_
  rintro e w' ⟨x, rfl, hbl, hx⟩
  obtain ⟨m1, l1⟩ := m.growFz hbl
  exact ⟨_, x, rfl, ⟨m1, l1, Fl.refl _⟩, res_in m hx⟩
end Kz
end
section
namespace Kz
open Go Go.RowKit Go.Proofs
set_option maxRecDepth 100000
set_option maxHeartbeats 4000000
noncomputable def B66 : Base := baseOf Pz (fun _ _ => []) [(70, G70), (68, G68)] [] []
theorem hB66 : BOk B66 := base_ok named_z ⟨s70, s68, trivial⟩ trivial trivial
theorem E66a (p : Pos) (m : Mv) : evPure B66 14 66 [Mv.av m, .ptrf (.func 67 [] [.ptrf (Pos.av p)])] = Tr.br (isPS Pz 68 [Pos.av p, Mv.av m] (dB.res (N68 p m))) (Tr.ret (AV.bool (!N68 p m))) Tr.fail := by kernel_rfl
theorem E66b (p : Pos) (m : Mv) : evPure B66 14 66 [Mv.av m, .ptrf (.func 69 [] [.ptrf (Pos.av p)])] = Tr.br (isPS Pz 70 [Pos.av p, Mv.av m] (dB.res (N70 p m))) (Tr.ret (AV.bool (!N70 p m))) Tr.fail := by kernel_rfl
theorem P66a (p : Pos) (m : Mv) (h : ok68 p m = true) : PureSpec Pz 66 [Mv.av m, .ptrf (.func 67 [] [.ptrf (Pos.av p)])] (.bool (!N68 p m)) :=
  (ps_gotR (d := dB) hB66 (E66a p m) (gr_call (P68 p m) (gr_ret rfl)) (by rw [h]; rfl)).1
theorem P66b (p : Pos) (m : Mv) (h : ok70 p m = true) : PureSpec Pz 66 [Mv.av m, .ptrf (.func 69 [] [.ptrf (Pos.av p)])] (.bool (!N70 p m)) :=
  (ps_gotR (d := dB) hB66 (E66b p m) (gr_call (P70 p m) (gr_ret rfl)) (by rw [h]; rfl)).1
open Classical in
noncomputable def all68 (p : Pos) : Bool := shut (decide (∀ m, ok68 p m = true))
theorem all68_iff {p : Pos} : all68 p = true ↔ ∀ m, ok68 p m = true := by
  unfold all68
  rw [shut_eq]
  simp
open Classical in
noncomputable def all70 (p : Pos) : Bool := shut (decide (∀ m, ok70 p m = true))
theorem all70_iff {p : Pos} : all70 p = true ↔ ∀ m, ok70 p m = true := by
  unfold all70
  rw [shut_eq]
  simp
noncomputable def kept (f : Nat) (p : Pos) (l : List Mv) : List Mv := l.filter (bif f.beq 67 then N68 p else N70 p)
noncomputable def okKept (f : Nat) (p : Pos) (l : List Mv) : Bool := decide (l.length ≤ lim) && bif f.beq 67 then all68 p else f.beq 69 && all70 p
noncomputable def FF63 : List AV → Hp → Tr FRes := fun xs h => match xs with
  | [.list .mv l _, .func f [] [.ptr b 0]] => match h.heap[b]? with
    | some [.int .u8 v, .ints .u8 64 bd, .u64 pr, .ints .u8 12 pk, .int .u8 tn, .ints .i8 4 rk, .int .i8 ps, .ints .u8 2 ck, .int .i64 hf, .int .i64 fl] =>
      .guard (okKept f ⟨v, bd, pr, pk, tn, rk, ps, ck, hf, fl⟩ l) (.ret (.ret (.list .mv (kept f ⟨v, bd, pr, pk, tn, rk, ps, ck, hf, fl⟩ l) .fresh) h))
    | _ => .fail
  | _ => .fail
theorem body63 : ∃ fn, Pz.funcs[63]? = some fn ∧ fn.body.isSome = true := by
  have h : (match Pz.funcs[63]? with
    | some fn => fn.body.isSome
    | none => false) = true := by kernel_rfl
  split at h
  · rename_i fn hf
    exact ⟨fn, hf, h⟩
  · cases h
theorem sFF63 : FSound Pz 63 FF63 := by
  intro xs h res he
  unfold FF63 at he
  split at he
  · rename_i l tk f b
    split at he
    · rename_i v bd pr pk tn rk ps ck hf fl hb
      simp only [get_guard, get_ret, Option.some.injEq] at he
      obtain ⟨h1, rfl⟩ := he
      refine ⟨?_, body63⟩
      unfold okKept at h1
      simp only [Bool.and_eq_true, decide_eq_true_eq] at h1
      obtain ⟨hl, h1⟩ := h1
      unfold kept
      cases hf3 : f.beq 67 with
      | true =>
        rw [hf3] at h1
        obtain rfl := Nat.eq_of_beq_eq_true hf3
        exact fs_keep (p := ⟨v, bd, pr, pk, tn, rk, ps, ck, hf, fl⟩) hb (keepM _ _ _ l hl fun m => P66a _ m (all68_iff.1 h1 m))
      | false =>
        rw [hf3] at h1
        simp only [cond_false, Bool.and_eq_true] at h1
        obtain rfl := Nat.eq_of_beq_eq_true h1.1
        exact fs_keep (p := ⟨v, bd, pr, pk, tn, rk, ps, ck, hf, fl⟩) hb (keepM _ _ _ l hl fun m => P66b _ m (all70_iff.1 h1.2 m))
    · simp at he
  · simp at he
noncomputable def K31 : List (Nat × List (Nat × List Nat)) := [(31, [(0, (0 :: (rn 2 10 (rn 17 11 (rn 31 6 []))))), (1, (0 :: (rn 2 15 (rn 18 10 (rn 31 6 []))))), (2, (0 :: 1 :: (rn 3 34 []))), (3, (0 :: 2 :: (rn 4 24 (rn 31 6 [])))), (4, (0 :: 2 :: (rn 5 23 (rn 31 6 [])))), (5, (0 :: 2 :: (rn 6 22 (rn 31 6 [])))), (6, (0 :: 1 :: 2 :: (rn 6 25 (rn 32 5 [])))), (7, (rn 0 4 (rn 5 32 []))), (8, (0 :: 1 :: (rn 3 34 [])))]), (63, [(0, (1 :: 2 :: (rn 4 5 []))), (1, (rn 0 4 (rn 5 4 [])))]), (67, [(0, [0, 3, 4, 5, 6]), (1, [0, 1, 2, 4, 5, 6])]), (69, [(0, [0, 3, 4, 5, 6]), (1, [0, 1, 2, 4, 5, 6])]), (71, [(0, (rn 2 7 [])), (1, (rn 0 4 (rn 5 4 [])))]), (130, [(0, (rn 2 17 [])), (1, (rn 2 5 (rn 9 10 []))), (2, (rn 2 5 (rn 10 9 []))), (3, (2 :: 3 :: 4 :: 6 :: (rn 9 10 []))), (4, (2 :: 3 :: 4 :: 6 :: (rn 9 7 [17, 18]))), (5, (rn 0 4 (rn 5 14 []))), (6, (rn 2 5 (rn 9 10 []))), (7, (rn 0 4 (rn 5 14 [])))])]
noncomputable def B31_1 : Base := baseOf Pz (fun f i => lkK f i K31) [(61, G61), (38, G38), (70, G70), (68, G68), (62, G62)] [] [(63, FF63)]
theorem hB31_1 : BOk B31_1 := base_ok named_z ⟨s61, s38, s70, s68, s62, trivial⟩ trivial ⟨sFF63, trivial⟩
noncomputable def S31_1 (p1 : (List Mv)) (p2 : Int) (p3 : Pos) (x : (Int)) : St := St.mk (AV.list ET.mv p1 Tk.fresh :: AV.func 69 [] [AV.ptr 0 0] :: (an 5 (AV.int .i64 p2 :: AV.int .i64 x :: (an 10 [])))) (Hp.mk [(pc p3 [])] [0] [] 0 0 0)
noncomputable def O31_1 (p1 : (List Mv)) (p2 : Int) (p3 : Pos) : (Int) ⊕ (Int × Bool) → Out
  | (.inl (y)) => .ret (St.mk (an 4 (AV.int .i64 y :: (an 14 []))) (Hp.mk [(pc p3 [])] [0] [] 0 0 0))
  | (.inr (y)) => .exit 0 (St.mk (AV.list ET.mv p1 Tk.fresh :: AV.func 69 [] [AV.ptr 0 0] :: (an 5 (AV.int .i64 p2 :: AV.int .i64 y.fst :: AV.bool y.snd :: (an 9 [])))) (Hp.mk [(pc p3 [])] [0] [] 0 0 0))
noncomputable def st31_1 (p1 : (List Mv)) (p2 : Int) (p3 : Pos) (x : (Int)) : Stp (Int) ((Int) ⊕ (Int × Bool)) := (bif decide (x < p2) then (bif N70 p3 (p1.getD x.toNat default) then (Stp.out (.inl ((x)))) else (Stp.go (wr .i64 (x + 1)))) else (Stp.out (.inr ((x, decide (x < p2))))))
noncomputable def okL31_1 (p1 : (List Mv)) (p2 : Int) (p3 : Pos) (x : (Int)) : Bool := (bif decide (x < p2) then (decide (0 ≤ x) && decide (x < Int.ofNat p1.length) && (ok70 (p3) (p1.getD x.toNat default) && true)) else true)
noncomputable def lp31_1 (p1 : (List Mv)) (p2 : Int) (p3 : Pos) (x : (Int)) : Option ((Int) ⊕ (Int × Bool)) := itl (fun x => bif okL31_1 p1 p2 p3 x then st31_1 p1 p2 p3 x else .bad) many x
theorem E31_1 (p1 : (List Mv)) (p2 : Int) (p3 : Pos) (x : (Int)) : evCd B31_1 12 130 (bodL Pz 130 2) (S31_1 p1 p2 p3 x) = Tr.br (decide (x < p2)) (Tr.br (decide (0 ≤ x) && decide (x < Int.ofNat p1.length)) (Tr.br (isPS Pz 70 [p3.av, Mv.av (p1.getD x.toNat default)] (dB.res (N70 p3 (p1.getD x.toNat default)))) (Tr.br (N70 p3 (p1.getD x.toNat default)) (Tr.ret (Out.ret (St.mk (an 4 (AV.int .i64 x :: (an 14 []))) (Hp.mk [(pc p3 [])] [0] [] 0 0 0)))) (Tr.ret (Out.norm (St.mk (AV.list ET.mv p1 Tk.fresh :: AV.func 69 [] [AV.ptr 0 0] :: (an 5 (AV.int .i64 p2 :: AV.int .i64 (wr .i64 (x + 1)) :: (an 10 [])))) (Hp.mk [(pc p3 [])] [0] [] 0 0 0))))) Tr.fail) Tr.fail) (Tr.ret (Out.exit 0 (St.mk (AV.list ET.mv p1 Tk.fresh :: AV.func 69 [] [AV.ptr 0 0] :: (an 5 (AV.int .i64 p2 :: AV.int .i64 x :: AV.bool (decide (x < p2)) :: (an 9 [])))) (Hp.mk [(pc p3 [])] [0] [] 0 0 0)))) := by kernel_rfl
theorem L31_1 (p1 : (List Mv)) (p2 : Int) (p3 : Pos) (x : (Int)) (r : (Int) ⊕ (Int × Bool)) (h : lp31_1 p1 p2 p3 x = some r) : LSpec Pz (bodL Pz 130 2) (S31_1 p1 p2 p3 x) (O31_1 p1 p2 p3 r) := LSpec.itd (S := S31_1 p1 p2 p3) (O := O31_1 p1 p2 p3) (ok := okL31_1 p1 p2 p3) (st := st31_1 p1 p2 p3) hB31_1 (fun x => gr_eq (E31_1 p1 p2 p3 x) (gr_br (gr_guard (gr_call (P70 (p3) (p1.getD x.toNat default)) (gr_br2 (gr_ret (rl_ret rfl (wk_nrm (ks := (rn 0 4 (rn 5 14 []))) (gs := []) (b := false) rfl (by kernel_rfl)))) (gr_ret (rl_go (wk_nrm (ks := (rn 2 5 (rn 9 10 []))) (gs := [0, 7, 8]) (b := true) rfl (by kernel_rfl))))))) (gr_ret (rl_exit rfl (wk_nrm (ks := (rn 2 5 (rn 10 9 []))) (gs := []) (b := false) rfl (by kernel_rfl)))))) many x r h
noncomputable def F31_1 : Code → St → Tr Out := fun b s => .br (isL ((lp31_1 (tL (ET.mv) (tT s 0)) (tI (tT s 7)) (Kz.Pos.mk (tI (tH s 0 0)) (tN (tH s 0 1)) (tU (tH s 0 2)) (tN (tH s 0 3)) (tI (tH s 0 4)) (tN (tH s 0 5)) (tI (tH s 0 6)) (tN (tH s 0 7)) (tI (tH s 0 8)) (tI (tH s 0 9))) ((tI (tT s 8)))).getD default)) (sureL Pz (fun s => O31_1 (tL (ET.mv) (tT s 0)) (tI (tT s 7)) (Kz.Pos.mk (tI (tH s 0 0)) (tN (tH s 0 1)) (tU (tH s 0 2)) (tN (tH s 0 3)) (tI (tH s 0 4)) (tN (tH s 0 5)) (tI (tH s 0 6)) (tN (tH s 0 7)) (tI (tH s 0 8)) (tI (tH s 0 9))) (.inl (gl ((lp31_1 (tL (ET.mv) (tT s 0)) (tI (tT s 7)) (Kz.Pos.mk (tI (tH s 0 0)) (tN (tH s 0 1)) (tU (tH s 0 2)) (tN (tH s 0 3)) (tI (tH s 0 4)) (tN (tH s 0 5)) (tI (tH s 0 6)) (tN (tH s 0 7)) (tI (tH s 0 8)) (tI (tH s 0 9))) ((tI (tT s 8)))).getD default)))) b s) (sureL Pz (fun s => O31_1 (tL (ET.mv) (tT s 0)) (tI (tT s 7)) (Kz.Pos.mk (tI (tH s 0 0)) (tN (tH s 0 1)) (tU (tH s 0 2)) (tN (tH s 0 3)) (tI (tH s 0 4)) (tN (tH s 0 5)) (tI (tH s 0 6)) (tN (tH s 0 7)) (tI (tH s 0 8)) (tI (tH s 0 9))) (.inr (gr ((lp31_1 (tL (ET.mv) (tT s 0)) (tI (tT s 7)) (Kz.Pos.mk (tI (tH s 0 0)) (tN (tH s 0 1)) (tU (tH s 0 2)) (tN (tH s 0 3)) (tI (tH s 0 4)) (tN (tH s 0 5)) (tI (tH s 0 6)) (tN (tH s 0 7)) (tI (tH s 0 8)) (tI (tH s 0 9))) ((tI (tT s 8)))).getD default)))) b s)
theorem sF31_1 : ∀ b, LSound Pz b (F31_1 b) := brL_sound (c := fun s => isL ((lp31_1 (tL (ET.mv) (tT s 0)) (tI (tT s 7)) (Kz.Pos.mk (tI (tH s 0 0)) (tN (tH s 0 1)) (tU (tH s 0 2)) (tN (tH s 0 3)) (tI (tH s 0 4)) (tN (tH s 0 5)) (tI (tH s 0 6)) (tN (tH s 0 7)) (tI (tH s 0 8)) (tI (tH s 0 9))) ((tI (tT s 8)))).getD default)) sureL_sound sureL_sound
noncomputable def B31 : Base := baseOf Pz (fun f i => lkK f i K31) [(61, G61), (38, G38), (70, G70), (68, G68), (62, G62)] [(130, 2, F31_1)] [(63, FF63)]
theorem hB31 : BOk B31 := base_ok named_z ⟨s61, s38, s70, s68, s62, trivial⟩ ⟨sF31_1, trivial⟩ ⟨sFF63, trivial⟩
noncomputable def N31 (a : Pos) : List Mv := (bif N61 a.variant a.turn then (bif !N62 a a.turn then ([]) else (bif a.variant == 4 then (bif isL ((lp31_1 (kept 67 a (N38 a)) (Int.ofNat (kept 67 a (N38 a)).length) a 0).getD default) then (bif decide (gl ((lp31_1 (kept 67 a (N38 a)) (Int.ofNat (kept 67 a (N38 a)).length) a 0).getD default) ≥ 0) then (kept 69 a (kept 67 a (N38 a))) else (kept 67 a (N38 a))) else (kept 67 a (N38 a))) else (kept 67 a (N38 a)))) else (bif a.variant == 4 then (bif isL ((lp31_1 (kept 67 a (N38 a)) (Int.ofNat (kept 67 a (N38 a)).length) a 0).getD default) then (bif decide (gl ((lp31_1 (kept 67 a (N38 a)) (Int.ofNat (kept 67 a (N38 a)).length) a 0).getD default) ≥ 0) then (kept 69 a (kept 67 a (N38 a))) else (kept 67 a (N38 a))) else (kept 67 a (N38 a))) else (kept 67 a (N38 a))))
noncomputable def ok31 (a : Pos) : Bool := (ok61 (a.variant) (a.turn) && (bif N61 a.variant a.turn then (ok62 (a) (a.turn) && (bif !N62 a a.turn then true else (ok38 (a) && (okKept 67 a (N38 a) && (bif a.variant == 4 then ((lp31_1 (kept 67 a (N38 a)) (Int.ofNat (kept 67 a (N38 a)).length) a 0).isSome && bif isL ((lp31_1 (kept 67 a (N38 a)) (Int.ofNat (kept 67 a (N38 a)).length) a 0).getD default) then (bif decide (gl ((lp31_1 (kept 67 a (N38 a)) (Int.ofNat (kept 67 a (N38 a)).length) a 0).getD default) ≥ 0) then (okKept 69 a (kept 67 a (N38 a)) && true) else true) else true) else true))))) else (ok38 (a) && (okKept 67 a (N38 a) && (bif a.variant == 4 then ((lp31_1 (kept 67 a (N38 a)) (Int.ofNat (kept 67 a (N38 a)).length) a 0).isSome && bif isL ((lp31_1 (kept 67 a (N38 a)) (Int.ofNat (kept 67 a (N38 a)).length) a 0).getD default) then (bif decide (gl ((lp31_1 (kept 67 a (N38 a)) (Int.ofNat (kept 67 a (N38 a)).length) a 0).getD default) ≥ 0) then (okKept 69 a (kept 67 a (N38 a)) && true) else true) else true) else true)))))
theorem E31 (a : Pos) : evPure B31 14 31 [Pos.av a] = (let z1 := (Tr.br (isPS Pz 38 [a.av] ((dL ET.mv).res (N38 a))) (Tr.br (okKept 67 a (N38 a)) (Tr.br (a.variant == 4) (Tr.br (isL ((lp31_1 (kept 67 a (N38 a)) (Int.ofNat (kept 67 a (N38 a)).length) a 0).getD default)) (Tr.br (isLS Pz (bodL Pz 130 2) (St.mk (AV.list ET.mv (kept 67 a (N38 a)) Tk.fresh :: AV.func 69 [] [AV.ptr 0 0] :: (an 5 (AV.int .i64 (Int.ofNat (kept 67 a (N38 a)).length) :: AV.cint .i64 0 :: (an 10 [])))) (Hp.mk [(pc a [])] [0] [] 0 0 0)) (O31_1 (kept 67 a (N38 a)) (Int.ofNat (kept 67 a (N38 a)).length) a (Sum.inl (gl ((lp31_1 (kept 67 a (N38 a)) (Int.ofNat (kept 67 a (N38 a)).length) a 0).getD default))))) (Tr.br (decide (gl ((lp31_1 (kept 67 a (N38 a)) (Int.ofNat (kept 67 a (N38 a)).length) a 0).getD default) ≥ 0)) (Tr.br (okKept 69 a (kept 67 a (N38 a))) (Tr.ret (AV.list ET.mv (kept 69 a (kept 67 a (N38 a))) Tk.fresh)) Tr.fail) (Tr.ret (AV.list ET.mv (kept 67 a (N38 a)) Tk.fresh))) Tr.fail) (Tr.br (isLS Pz (bodL Pz 130 2) (St.mk (AV.list ET.mv (kept 67 a (N38 a)) Tk.fresh :: AV.func 69 [] [AV.ptr 0 0] :: (an 5 (AV.int .i64 (Int.ofNat (kept 67 a (N38 a)).length) :: AV.cint .i64 0 :: (an 10 [])))) (Hp.mk [(pc a [])] [0] [] 0 0 0)) (O31_1 (kept 67 a (N38 a)) (Int.ofNat (kept 67 a (N38 a)).length) a (Sum.inr (gr ((lp31_1 (kept 67 a (N38 a)) (Int.ofNat (kept 67 a (N38 a)).length) a 0).getD default))))) (Tr.ret (AV.list ET.mv (kept 67 a (N38 a)) Tk.fresh)) Tr.fail)) (Tr.ret (AV.list ET.mv (kept 67 a (N38 a)) Tk.fresh))) Tr.fail) Tr.fail); Tr.br (isPS Pz 61 [AV.int .u8 a.variant, AV.int .u8 a.turn] (dB.res (N61 a.variant a.turn))) (Tr.br (N61 a.variant a.turn) (Tr.br (isPS Pz 62 [a.av, AV.int .u8 a.turn] (dB.res (N62 a a.turn))) (Tr.br (!N62 a a.turn) (Tr.ret (AV.list ET.mv [] Tk.fresh)) z1) Tr.fail) z1) Tr.fail) := by kernel_rfl
theorem P31 (a : Pos) (h : ok31 a = true) : PS Pz 31 [Pos.av a] ((dL .mv).res (N31 a)) := ps_gotR hB31 (E31 a) (gr_call (P61 (a.variant) (a.turn)) (gr_br (gr_call (P62 (a) (a.turn)) (gr_br (gr_ret rfl) (gr_call (P38 (a)) (gr_guard (gr_br (gr_loop2 (fun h => L31_1 (kept 67 a (N38 a)) (Int.ofNat (kept 67 a (N38 a)).length) (a) (0) _ (some_getD h)) (wk_nrm (ks := (rn 2 5 (rn 9 10 []))) (gs := [0, 7, 8]) (b := true) rfl (by kernel_rfl)) (gr_br (gr_guard (gr_ret rfl)) (gr_ret rfl)) (gr_ret rfl)) (gr_ret rfl)))))) (gr_call (P38 (a)) (gr_guard (gr_br (gr_loop2 (fun h => L31_1 (kept 67 a (N38 a)) (Int.ofNat (kept 67 a (N38 a)).length) (a) (0) _ (some_getD h)) (wk_nrm (ks := (rn 2 5 (rn 9 10 []))) (gs := [0, 7, 8]) (b := true) rfl (by kernel_rfl)) (gr_br (gr_guard (gr_ret rfl)) (gr_ret rfl)) (gr_ret rfl)) (gr_ret rfl)))))) h
noncomputable def G31 : List AV → Tr AV := g1 dPos (fun a => sure Pz 31 [Pos.av a] ((dL .mv).res (N31 a)))
theorem s31 : Sound Pz 31 G31 := sound1 (fun _ => at_sure)
noncomputable def K128 : List (Nat × List (Nat × List Nat)) := [(71, [(0, (rn 2 7 [])), (1, (rn 0 4 (rn 5 4 [])))]), (128, [(0, (0 :: (rn 3 13 (rn 17 23 [])))), (1, (0 :: (rn 4 12 (rn 17 23 [])))), (2, (0 :: 3 :: (rn 6 10 (rn 17 23 [])))), (3, (0 :: 3 :: (rn 6 7 (rn 14 26 [])))), (4, (0 :: 1 :: (rn 3 37 []))), (5, (0 :: 3 :: (rn 5 14 (rn 20 20 [])))), (6, (0 :: 1 :: (rn 3 37 []))), (7, (0 :: (rn 3 19 (rn 23 17 [])))), (8, (0 :: 1 :: (rn 3 37 []))), (9, (0 :: (rn 3 23 (rn 27 13 [])))), (10, (0 :: 1 :: (rn 3 37 []))), (11, (0 :: 3 :: 4 :: 5 :: (rn 7 33 []))), (12, (0 :: (rn 3 4 (rn 8 32 [])))), (13, (0 :: 1 :: (rn 3 34 [38, 39]))), (14, (0 :: 1 :: (rn 3 37 []))), (15, (0 :: 1 :: (rn 3 37 [])))]), (130, [(0, (rn 2 17 [])), (1, (rn 2 5 (rn 9 10 []))), (2, (rn 2 5 (rn 10 9 []))), (3, (2 :: 3 :: 4 :: 6 :: (rn 9 10 []))), (4, (2 :: 3 :: 4 :: 6 :: (rn 9 7 [17, 18]))), (5, (rn 0 4 (rn 5 14 []))), (6, (rn 2 5 (rn 9 10 []))), (7, (rn 0 4 (rn 5 14 [])))]), (170, [(0, (rn 2 6 [])), (1, (0 :: 1 :: 2 :: (rn 4 4 [])))]), (171, [(0, (0 :: (rn 3 7 [13]))), (1, (0 :: 1 :: 2 :: (rn 4 10 [])))])]
noncomputable def B128_1 : Base := baseOf Pz (fun f i => lkK f i K128) [(31, G31), (99, G99), (166, G166)] [] []
theorem hB128_1 : BOk B128_1 := base_ok named_z ⟨s31, s99, s166, trivial⟩ trivial trivial
noncomputable def S128_1 (p1 : (List Mv)) (p2 : Int) (p3 : Pos) (p4 : Int) (x : (Int)) : St := St.mk (AV.list ET.mv p1 Tk.fresh :: AV.func 171 [] [AV.ptr 2 0] :: (an 5 (AV.int .i64 p2 :: AV.int .i64 x :: (an 10 [])))) (Hp.mk [(pc p3 []), [AV.int .u8 0, AV.int .u8 0], [AV.int .i64 p4]] [] [] 0 0 0)
noncomputable def O128_1 (p1 : (List Mv)) (p2 : Int) (p3 : Pos) (p4 : Int) : (Int) ⊕ (Int × Bool) → Out
  | (.inl (y)) => .ret (St.mk (an 4 (AV.int .i64 y :: (an 14 []))) (Hp.mk [(pc p3 []), [AV.int .u8 0, AV.int .u8 0], [AV.int .i64 p4]] [] [] 0 0 0))
  | (.inr (y)) => .exit 0 (St.mk (AV.list ET.mv p1 Tk.fresh :: AV.func 171 [] [AV.ptr 2 0] :: (an 5 (AV.int .i64 p2 :: AV.int .i64 y.fst :: AV.bool y.snd :: (an 9 [])))) (Hp.mk [(pc p3 []), [AV.int .u8 0, AV.int .u8 0], [AV.int .i64 p4]] [] [] 0 0 0))
noncomputable def st128_1 (p1 : (List Mv)) (p2 : Int) (p3 : Pos) (p4 : Int) (x : (Int)) : Stp (Int) ((Int) ⊕ (Int × Bool)) := (bif decide (x < p2) then (bif wr .i64 (p1.getD x.toNat default).frm == p4 then (bif decide ((p1.getD x.toNat default).to ≥ 56) then (Stp.out (.inl ((x)))) else (Stp.go (wr .i64 (x + 1)))) else (Stp.go (wr .i64 (x + 1)))) else (Stp.out (.inr ((x, decide (x < p2))))))
noncomputable def okL128_1 (p1 : (List Mv)) (p2 : Int) (p3 : Pos) (p4 : Int) (x : (Int)) : Bool := (bif decide (x < p2) then (decide (0 ≤ x) && decide (x < Int.ofNat p1.length) && true) else true)
noncomputable def lp128_1 (p1 : (List Mv)) (p2 : Int) (p3 : Pos) (p4 : Int) (x : (Int)) : Option ((Int) ⊕ (Int × Bool)) := itl (fun x => bif okL128_1 p1 p2 p3 p4 x then st128_1 p1 p2 p3 p4 x else .bad) many x
theorem E128_1 (p1 : (List Mv)) (p2 : Int) (p3 : Pos) (p4 : Int) (x : (Int)) : evCd B128_1 12 130 (bodL Pz 130 2) (S128_1 p1 p2 p3 p4 x) = Tr.br (decide (x < p2)) (Tr.br (decide (0 ≤ x) && decide (x < Int.ofNat p1.length)) (Tr.br (wr .i64 (p1.getD x.toNat default).frm == p4) (Tr.br (decide ((p1.getD x.toNat default).to ≥ 56)) (Tr.ret (Out.ret (St.mk (an 4 (AV.int .i64 x :: (an 14 []))) (Hp.mk [(pc p3 []), [AV.int .u8 0, AV.int .u8 0], [AV.int .i64 p4]] [] [] 0 0 0)))) (Tr.ret (Out.norm (St.mk (AV.list ET.mv p1 Tk.fresh :: AV.func 171 [] [AV.ptr 2 0] :: (an 5 (AV.int .i64 p2 :: AV.int .i64 (wr .i64 (x + 1)) :: (an 10 [])))) (Hp.mk [(pc p3 []), [AV.int .u8 0, AV.int .u8 0], [AV.int .i64 p4]] [] [] 0 0 0))))) (Tr.ret (Out.norm (St.mk (AV.list ET.mv p1 Tk.fresh :: AV.func 171 [] [AV.ptr 2 0] :: (an 5 (AV.int .i64 p2 :: AV.int .i64 (wr .i64 (x + 1)) :: (an 10 [])))) (Hp.mk [(pc p3 []), [AV.int .u8 0, AV.int .u8 0], [AV.int .i64 p4]] [] [] 0 0 0))))) Tr.fail) (Tr.ret (Out.exit 0 (St.mk (AV.list ET.mv p1 Tk.fresh :: AV.func 171 [] [AV.ptr 2 0] :: (an 5 (AV.int .i64 p2 :: AV.int .i64 x :: AV.bool (decide (x < p2)) :: (an 9 [])))) (Hp.mk [(pc p3 []), [AV.int .u8 0, AV.int .u8 0], [AV.int .i64 p4]] [] [] 0 0 0)))) := by kernel_rfl
theorem L128_1 (p1 : (List Mv)) (p2 : Int) (p3 : Pos) (p4 : Int) (x : (Int)) (r : (Int) ⊕ (Int × Bool)) (h : lp128_1 p1 p2 p3 p4 x = some r) : LSpec Pz (bodL Pz 130 2) (S128_1 p1 p2 p3 p4 x) (O128_1 p1 p2 p3 p4 r) := LSpec.itd (S := S128_1 p1 p2 p3 p4) (O := O128_1 p1 p2 p3 p4) (ok := okL128_1 p1 p2 p3 p4) (st := st128_1 p1 p2 p3 p4) hB128_1 (fun x => gr_eq (E128_1 p1 p2 p3 p4 x) (gr_br (gr_guard (gr_br2 (gr_br2 (gr_ret (rl_ret rfl (wk_nrm (ks := (rn 0 4 (rn 5 14 []))) (gs := []) (b := false) rfl (by kernel_rfl)))) (gr_ret (rl_go (wk_nrm (ks := (rn 2 5 (rn 9 10 []))) (gs := [0, 7, 8]) (b := true) rfl (by kernel_rfl))))) (gr_ret (rl_go (wk_nrm (ks := (rn 2 5 (rn 9 10 []))) (gs := [0, 7, 8]) (b := true) rfl (by kernel_rfl)))))) (gr_ret (rl_exit rfl (wk_nrm (ks := (rn 2 5 (rn 10 9 []))) (gs := []) (b := false) rfl (by kernel_rfl)))))) many x r h
noncomputable def F128_1 : Code → St → Tr Out := fun b s => .br (isL ((lp128_1 (tL (ET.mv) (tT s 0)) (tI (tT s 7)) (Kz.Pos.mk (tI (tH s 0 0)) (tN (tH s 0 1)) (tU (tH s 0 2)) (tN (tH s 0 3)) (tI (tH s 0 4)) (tN (tH s 0 5)) (tI (tH s 0 6)) (tN (tH s 0 7)) (tI (tH s 0 8)) (tI (tH s 0 9))) (tI (tH s 2 0)) ((tI (tT s 8)))).getD default)) (sureL Pz (fun s => O128_1 (tL (ET.mv) (tT s 0)) (tI (tT s 7)) (Kz.Pos.mk (tI (tH s 0 0)) (tN (tH s 0 1)) (tU (tH s 0 2)) (tN (tH s 0 3)) (tI (tH s 0 4)) (tN (tH s 0 5)) (tI (tH s 0 6)) (tN (tH s 0 7)) (tI (tH s 0 8)) (tI (tH s 0 9))) (tI (tH s 2 0)) (.inl (gl ((lp128_1 (tL (ET.mv) (tT s 0)) (tI (tT s 7)) (Kz.Pos.mk (tI (tH s 0 0)) (tN (tH s 0 1)) (tU (tH s 0 2)) (tN (tH s 0 3)) (tI (tH s 0 4)) (tN (tH s 0 5)) (tI (tH s 0 6)) (tN (tH s 0 7)) (tI (tH s 0 8)) (tI (tH s 0 9))) (tI (tH s 2 0)) ((tI (tT s 8)))).getD default)))) b s) (sureL Pz (fun s => O128_1 (tL (ET.mv) (tT s 0)) (tI (tT s 7)) (Kz.Pos.mk (tI (tH s 0 0)) (tN (tH s 0 1)) (tU (tH s 0 2)) (tN (tH s 0 3)) (tI (tH s 0 4)) (tN (tH s 0 5)) (tI (tH s 0 6)) (tN (tH s 0 7)) (tI (tH s 0 8)) (tI (tH s 0 9))) (tI (tH s 2 0)) (.inr (gr ((lp128_1 (tL (ET.mv) (tT s 0)) (tI (tT s 7)) (Kz.Pos.mk (tI (tH s 0 0)) (tN (tH s 0 1)) (tU (tH s 0 2)) (tN (tH s 0 3)) (tI (tH s 0 4)) (tN (tH s 0 5)) (tI (tH s 0 6)) (tN (tH s 0 7)) (tI (tH s 0 8)) (tI (tH s 0 9))) (tI (tH s 2 0)) ((tI (tT s 8)))).getD default)))) b s)
theorem sF128_1 : ∀ b, LSound Pz b (F128_1 b) := brL_sound (c := fun s => isL ((lp128_1 (tL (ET.mv) (tT s 0)) (tI (tT s 7)) (Kz.Pos.mk (tI (tH s 0 0)) (tN (tH s 0 1)) (tU (tH s 0 2)) (tN (tH s 0 3)) (tI (tH s 0 4)) (tN (tH s 0 5)) (tI (tH s 0 6)) (tN (tH s 0 7)) (tI (tH s 0 8)) (tI (tH s 0 9))) (tI (tH s 2 0)) ((tI (tT s 8)))).getD default)) sureL_sound sureL_sound
noncomputable def B128 : Base := baseOf Pz (fun f i => lkK f i K128) [(31, G31), (99, G99), (166, G166)] [(130, 2, F128_1)] []
theorem hB128 : BOk B128 := base_ok named_z ⟨s31, s99, s166, trivial⟩ ⟨sF128_1, trivial⟩ trivial
noncomputable def N128 (a : Pos) : (Int × Int) := (bif decide (N99 a 0 6 ≥ 56) then (bif decide (N99 a 1 6 ≥ 56) then ⟨(3), (6)⟩ else (bif decide (N99 a 1 6 ≥ 56) then ⟨((N166 1 6).fst), ((N166 1 6).snd)⟩ else (bif !decide (N99 a 0 6 ≥ 56) then ⟨(0), (0)⟩ else (bif a.turn == 0 then ⟨((N166 0 6).fst), ((N166 0 6).snd)⟩ else (bif isL ((lp128_1 (N31 a) (Int.ofNat (N31 a).length) a (N99 a 1 6) 0).getD default) then (bif decide (gl ((lp128_1 (N31 a) (Int.ofNat (N31 a).length) a (N99 a 1 6) 0).getD default) ≥ 0) then ⟨(0), (0)⟩ else ⟨((N166 0 6).fst), ((N166 0 6).snd)⟩) else ⟨((N166 0 6).fst), ((N166 0 6).snd)⟩))))) else (bif decide (N99 a 1 6 ≥ 56) then ⟨((N166 1 6).fst), ((N166 1 6).snd)⟩ else (bif !decide (N99 a 0 6 ≥ 56) then ⟨(0), (0)⟩ else (bif a.turn == 0 then ⟨((N166 0 6).fst), ((N166 0 6).snd)⟩ else (bif isL ((lp128_1 (N31 a) (Int.ofNat (N31 a).length) a (N99 a 1 6) 0).getD default) then (bif decide (gl ((lp128_1 (N31 a) (Int.ofNat (N31 a).length) a (N99 a 1 6) 0).getD default) ≥ 0) then ⟨(0), (0)⟩ else ⟨((N166 0 6).fst), ((N166 0 6).snd)⟩) else ⟨((N166 0 6).fst), ((N166 0 6).snd)⟩)))))
noncomputable def ok128 (a : Pos) : Bool := (ok99 (a) (0) (6) && (ok99 (a) (1) (6) && (bif decide (N99 a 0 6 ≥ 56) then (bif decide (N99 a 1 6 ≥ 56) then true else (bif decide (N99 a 1 6 ≥ 56) then true else (bif !decide (N99 a 0 6 ≥ 56) then true else (bif a.turn == 0 then true else (ok99 (a) (1) (6) && (ok31 (a) && ((lp128_1 (N31 a) (Int.ofNat (N31 a).length) a (N99 a 1 6) 0).isSome && bif isL ((lp128_1 (N31 a) (Int.ofNat (N31 a).length) a (N99 a 1 6) 0).getD default) then true else true))))))) else (bif decide (N99 a 1 6 ≥ 56) then true else (bif !decide (N99 a 0 6 ≥ 56) then true else (bif a.turn == 0 then true else (ok99 (a) (1) (6) && (ok31 (a) && ((lp128_1 (N31 a) (Int.ofNat (N31 a).length) a (N99 a 1 6) 0).isSome && bif isL ((lp128_1 (N31 a) (Int.ofNat (N31 a).length) a (N99 a 1 6) 0).getD default) then true else true)))))))))
theorem E128 (a : Pos) : evPure B128 14 128 [Pos.av a] = (let z1 := (Tr.br (decide (N99 a 1 6 ≥ 56)) (Tr.br (isPS Pz 166 [AV.int .u8 1, AV.int .u8 6] ((dR .u8 .u8).res (N166 1 6))) (Tr.ret (AV.agg [AV.int .u8 (N166 1 6).fst, AV.int .u8 (N166 1 6).snd])) Tr.fail) (Tr.br (!decide (N99 a 0 6 ≥ 56)) (Tr.ret (AV.agg [AV.cint .u8 0, AV.cint .u8 0])) (Tr.br (a.turn == 0) (Tr.br (isPS Pz 166 [AV.int .u8 0, AV.int .u8 6] ((dR .u8 .u8).res (N166 0 6))) (Tr.ret (AV.agg [AV.int .u8 (N166 0 6).fst, AV.int .u8 (N166 0 6).snd])) Tr.fail) (Tr.br (isPS Pz 99 [a.av, AV.int .u8 1, AV.int .u8 6] ((dI .i64).res (N99 a 1 6))) (Tr.br (isPS Pz 31 [a.av] ((dL ET.mv).res (N31 a))) (Tr.br (isL ((lp128_1 (N31 a) (Int.ofNat (N31 a).length) a (N99 a 1 6) 0).getD default)) (Tr.br (isLS Pz (bodL Pz 130 2) (St.mk (AV.list ET.mv (N31 a) Tk.fresh :: AV.func 171 [] [AV.ptr 2 0] :: (an 5 (AV.int .i64 (Int.ofNat (N31 a).length) :: AV.cint .i64 0 :: (an 10 [])))) (Hp.mk [(pc a []), [AV.cint .u8 0, AV.cint .u8 0], [AV.int .i64 (N99 a 1 6)]] [] [] 0 0 0)) (O128_1 (N31 a) (Int.ofNat (N31 a).length) a (N99 a 1 6) (Sum.inl (gl ((lp128_1 (N31 a) (Int.ofNat (N31 a).length) a (N99 a 1 6) 0).getD default))))) (Tr.br (decide (gl ((lp128_1 (N31 a) (Int.ofNat (N31 a).length) a (N99 a 1 6) 0).getD default) ≥ 0)) (Tr.ret (AV.agg [AV.cint .u8 0, AV.cint .u8 0])) (Tr.br (isPS Pz 166 [AV.int .u8 0, AV.int .u8 6] ((dR .u8 .u8).res (N166 0 6))) (Tr.ret (AV.agg [AV.int .u8 (N166 0 6).fst, AV.int .u8 (N166 0 6).snd])) Tr.fail)) Tr.fail) (Tr.br (isLS Pz (bodL Pz 130 2) (St.mk (AV.list ET.mv (N31 a) Tk.fresh :: AV.func 171 [] [AV.ptr 2 0] :: (an 5 (AV.int .i64 (Int.ofNat (N31 a).length) :: AV.cint .i64 0 :: (an 10 [])))) (Hp.mk [(pc a []), [AV.cint .u8 0, AV.cint .u8 0], [AV.int .i64 (N99 a 1 6)]] [] [] 0 0 0)) (O128_1 (N31 a) (Int.ofNat (N31 a).length) a (N99 a 1 6) (Sum.inr (gr ((lp128_1 (N31 a) (Int.ofNat (N31 a).length) a (N99 a 1 6) 0).getD default))))) (Tr.br (isPS Pz 166 [AV.int .u8 0, AV.int .u8 6] ((dR .u8 .u8).res (N166 0 6))) (Tr.ret (AV.agg [AV.int .u8 (N166 0 6).fst, AV.int .u8 (N166 0 6).snd])) Tr.fail) Tr.fail)) Tr.fail) Tr.fail)))); Tr.br (isPS Pz 99 [a.av, AV.int .u8 0, AV.int .u8 6] ((dI .i64).res (N99 a 0 6))) (Tr.br (isPS Pz 99 [a.av, AV.int .u8 1, AV.int .u8 6] ((dI .i64).res (N99 a 1 6))) (Tr.br (decide (N99 a 0 6 ≥ 56)) (Tr.br (decide (N99 a 1 6 ≥ 56)) (Tr.ret (AV.agg [AV.cint .u8 3, AV.cint .u8 6])) z1) z1) Tr.fail) Tr.fail) := by kernel_rfl
theorem P128 (a : Pos) (h : ok128 a = true) : PS Pz 128 [Pos.av a] ((dR .u8 .u8).res (N128 a)) := ps_gotR hB128 (E128 a) (gr_call (P99 (a) (0) (6)) (gr_call (P99 (a) (1) (6)) (gr_br (gr_br (gr_ret rfl) (gr_br (gr_callT (P166 (1) (6) rfl) (gr_ret rfl)) (gr_br (gr_ret rfl) (gr_br (gr_callT (P166 (0) (6) rfl) (gr_ret rfl)) (gr_call (P99 (a) (1) (6)) (gr_call (P31 (a)) (gr_loop2 (fun h => L128_1 (N31 a) (Int.ofNat (N31 a).length) (a) (N99 a 1 6) (0) _ (some_getD h)) (wk_nrm (ks := (rn 2 5 (rn 9 10 []))) (gs := [0, 7, 8]) (b := true) rfl (by kernel_rfl)) (gr_br2 (gr_ret rfl) (gr_callT (P166 (0) (6) rfl) (gr_ret rfl))) (gr_callT (P166 (0) (6) rfl) (gr_ret rfl))))))))) (gr_br (gr_callT (P166 (1) (6) rfl) (gr_ret rfl)) (gr_br (gr_ret rfl) (gr_br (gr_callT (P166 (0) (6) rfl) (gr_ret rfl)) (gr_call (P99 (a) (1) (6)) (gr_call (P31 (a)) (gr_loop2 (fun h => L128_1 (N31 a) (Int.ofNat (N31 a).length) (a) (N99 a 1 6) (0) _ (some_getD h)) (wk_nrm (ks := (rn 2 5 (rn 9 10 []))) (gs := [0, 7, 8]) (b := true) rfl (by kernel_rfl)) (gr_br2 (gr_ret rfl) (gr_callT (P166 (0) (6) rfl) (gr_ret rfl))) (gr_callT (P166 (0) (6) rfl) (gr_ret rfl))))))))))) h
noncomputable def G128 : List AV → Tr AV := g1 dPos (fun a => sure Pz 128 [Pos.av a] ((dR .u8 .u8).res (N128 a)))
theorem s128 : Sound Pz 128 G128 := sound1 (fun _ => at_sure)
noncomputable def K30 : List (Nat × List (Nat × List Nat)) := [(30, [(0, (0 :: (rn 3 5 (rn 11 14 [])))), (1, (0 :: (rn 3 8 (rn 12 13 [])))), (2, (0 :: 1 :: (rn 3 22 []))), (3, (0 :: (rn 4 21 []))), (4, (0 :: (rn 4 15 (rn 20 5 [])))), (5, (0 :: 1 :: (rn 3 22 []))), (6, (0 :: 1 :: (rn 3 22 [])))])]
noncomputable def B30 : Base := baseOf Pz (fun f i => lkK f i K30) [(60, G60), (123, G123), (124, G124), (125, G125), (126, G126), (127, G127), (128, G128)] [] []
theorem hB30 : BOk B30 := base_ok named_z ⟨s60, s123, s124, s125, s126, s127, s128, trivial⟩ trivial trivial
noncomputable def N30 (a : Pos) : (Int × Int) := (bif decide (a.variant ≥ 9) then ⟨(0), (0)⟩ else (bif decide (a.turn > 1) then ⟨(0), (0)⟩ else (bif a.variant == Int.ofNat 0 then ⟨(0), (0)⟩ else (bif a.variant == Int.ofNat 1 then ⟨(0), (0)⟩ else (bif a.variant == Int.ofNat 2 then ⟨(0), (0)⟩ else (bif a.variant == Int.ofNat 3 then ⟨((N123 a).fst), ((N123 a).snd)⟩ else (bif a.variant == Int.ofNat 4 then ⟨((N127 a).fst), ((N127 a).snd)⟩ else (bif a.variant == Int.ofNat 5 then ⟨((N124 a).fst), ((N124 a).snd)⟩ else (bif a.variant == Int.ofNat 6 then ⟨((N125 a).fst), ((N125 a).snd)⟩ else (bif a.variant == Int.ofNat 7 then ⟨((N126 a).fst), ((N126 a).snd)⟩ else ⟨((N128 a).fst), ((N128 a).snd)⟩))))))))))
noncomputable def ok30 (a : Pos) : Bool := (bif decide (a.variant ≥ 9) then true else (bif decide (a.turn > 1) then true else (decide (0 ≤ a.variant) && decide (a.variant < Int.ofNat 9) && (bif a.variant == Int.ofNat 0 then true else (bif a.variant == Int.ofNat 1 then true else (bif a.variant == Int.ofNat 2 then true else (bif a.variant == Int.ofNat 3 then (ok123 (a) && true) else (bif a.variant == Int.ofNat 4 then (ok127 (a) && true) else (bif a.variant == Int.ofNat 5 then (ok124 (a) && true) else (bif a.variant == Int.ofNat 6 then (ok125 (a) && true) else (bif a.variant == Int.ofNat 7 then (ok126 (a) && true) else (a.variant == Int.ofNat 8 && (ok128 (a) && true)))))))))))))
theorem E30 (a : Pos) : evPure B30 14 30 [Pos.av a] = (let z1 := (Tr.ret (AV.agg [AV.cint .u8 0, AV.cint .u8 0])); Tr.br (decide (a.variant ≥ 9)) z1 (Tr.br (decide (a.turn > 1)) z1 (Tr.br (isPS Pz 60 [] V57) (Tr.br (decide (0 ≤ a.variant) && decide (a.variant < Int.ofNat 9)) (Tr.br (a.variant == Int.ofNat 0) z1 (Tr.br (a.variant == Int.ofNat 1) z1 (Tr.br (a.variant == Int.ofNat 2) z1 (Tr.br (a.variant == Int.ofNat 3) (Tr.br (isPS Pz 123 [a.av] ((dR .u8 .u8).res (N123 a))) (Tr.ret (AV.agg [AV.int .u8 (N123 a).fst, AV.int .u8 (N123 a).snd])) Tr.fail) (Tr.br (a.variant == Int.ofNat 4) (Tr.br (isPS Pz 127 [a.av] ((dR .u8 .u8).res (N127 a))) (Tr.ret (AV.agg [AV.int .u8 (N127 a).fst, AV.int .u8 (N127 a).snd])) Tr.fail) (Tr.br (a.variant == Int.ofNat 5) (Tr.br (isPS Pz 124 [a.av] ((dR .u8 .u8).res (N124 a))) (Tr.ret (AV.agg [AV.int .u8 (N124 a).fst, AV.int .u8 (N124 a).snd])) Tr.fail) (Tr.br (a.variant == Int.ofNat 6) (Tr.br (isPS Pz 125 [a.av] ((dR .u8 .u8).res (N125 a))) (Tr.ret (AV.agg [AV.int .u8 (N125 a).fst, AV.int .u8 (N125 a).snd])) Tr.fail) (Tr.br (a.variant == Int.ofNat 7) (Tr.br (isPS Pz 126 [a.av] ((dR .u8 .u8).res (N126 a))) (Tr.ret (AV.agg [AV.int .u8 (N126 a).fst, AV.int .u8 (N126 a).snd])) Tr.fail) (Tr.br (a.variant == Int.ofNat 8) (Tr.br (isPS Pz 128 [a.av] ((dR .u8 .u8).res (N128 a))) (Tr.ret (AV.agg [AV.int .u8 (N128 a).fst, AV.int .u8 (N128 a).snd])) Tr.fail) Tr.fail))))))))) Tr.fail) Tr.fail))) := by kernel_rfl
theorem P30 (a : Pos) (h : ok30 a = true) : PS Pz 30 [Pos.av a] ((dR .u8 .u8).res (N30 a)) := ps_gotR hB30 (E30 a) (gr_br (gr_ret rfl) (gr_br (gr_ret rfl) (gr_callT (P60 rfl) (gr_guard (gr_br (gr_ret rfl) (gr_br (gr_ret rfl) (gr_br (gr_ret rfl) (gr_br (gr_call (P123 (a)) (gr_ret rfl)) (gr_br (gr_call (P127 (a)) (gr_ret rfl)) (gr_br (gr_call (P124 (a)) (gr_ret rfl)) (gr_br (gr_call (P125 (a)) (gr_ret rfl)) (gr_br (gr_call (P126 (a)) (gr_ret rfl)) (gr_guard (gr_call (P128 (a)) (gr_ret rfl))))))))))))))) h
noncomputable def G30 : List AV → Tr AV := g1 dPos (fun a => sure Pz 30 [Pos.av a] ((dR .u8 .u8).res (N30 a)))
theorem s30 : Sound Pz 30 G30 := sound1 (fun _ => at_sure)
noncomputable def K11 : List (Nat × List (Nat × List Nat)) := [(11, [(0, (0 :: (rn 2 7 []))), (1, (0 :: (rn 2 4 [7, 8]))), (2, (0 :: 1 :: (rn 3 6 []))), (3, (0 :: 1 :: (rn 3 6 [])))])]
noncomputable def B11 : Base := baseOf Pz (fun f i => lkK f i K11) [(30, G30), (31, G31)] [] []
theorem hB11 : BOk B11 := base_ok named_z ⟨s30, s31, trivial⟩ trivial trivial
noncomputable def N11 (a : Pos) : List Mv := (bif (N30 a).fst != 0 then ([]) else (N31 a))
noncomputable def ok11 (a : Pos) : Bool := (ok30 (a) && (bif (N30 a).fst != 0 then true else (ok31 (a) && true)))
theorem E11 (a : Pos) : evPure B11 14 11 [Pos.av a] = Tr.br (isPS Pz 30 [a.av] ((dR .u8 .u8).res (N30 a))) (Tr.br ((N30 a).fst != 0) (Tr.ret (AV.list ET.mv [] Tk.fresh)) (Tr.br (isPS Pz 31 [a.av] ((dL ET.mv).res (N31 a))) (Tr.ret (AV.list ET.mv (N31 a) Tk.fresh)) Tr.fail)) Tr.fail := by kernel_rfl
theorem P11 (a : Pos) (h : ok11 a = true) : PS Pz 11 [Pos.av a] ((dL .mv).res (N11 a)) := ps_gotR hB11 (E11 a) (gr_call (P30 (a)) (gr_br (gr_ret rfl) (gr_call (P31 (a)) (gr_ret rfl)))) h
noncomputable def G11 : List AV → Tr AV := g1 dPos (fun a => sure Pz 11 [Pos.av a] ((dL .mv).res (N11 a)))
theorem s11 : Sound Pz 11 G11 := sound1 (fun _ => at_sure)
end Kz
end
section
namespace Kz
open Go
set_option maxRecDepth 100000
theorem t62 (p : Pos) (b : Int) : ok62 p b = true := a_true (t99 _ _ _) fun _ => rfl
section
variable {p : Pos} (hp : PosIn p)
include hp
theorem move_var (m : Mv) : 0 ≤ (N17 p m).1.variant := by
  obtain ⟨_, h1, h2⟩ := move_all hp m
  by_cases hm : m ∈ N38 p
  · rw [(h1 hm).2.2.1]; exact hp.v0
  · rw [h2 hm]; exact hp.v0
theorem t68 (m : Mv) : ok68 p m = true := by
  have hv := move_var hp m
  have t0 := hp.t0
  have b1 := wr_u8_lo (1 - p.turn)
  unfold ok68
  refine a_true (move_all hp m).1 fun _ => ?_
  have k1 : ok61 p.variant p.turn = true := t61 hp.v0 t0
  have k2 : ok103 (N17 p m).1 p.turn = true := t103 hv t0
  have k3 : ok103 (N17 p m).1 (wr .u8 (1 - p.turn)) = true := t103 hv b1
  repeat' (first | with_reducible rfl | with_reducible exact k1 | with_reducible exact k2 | with_reducible exact k3 | with_reducible exact t62 _ _ | refine a_true ?_ (fun _ => ?_) | refine c_true (fun _ => ?_) (fun _ => ?_))
theorem okKept_72 {l : List Mv} (hl : l.length ≤ 1000000) : okKept 67 p l = true := by
  unfold okKept
  rw [show (67 : Nat).beq 67 = true from rfl, cond_true]
  have h1 : decide (l.length ≤ lim) = true := by unfold lim; simp; omega
  rw [h1, Bool.true_and]
  exact all68_iff.2 (t68 hp)
theorem okKept_73 {l : List Mv} (hl : l.length ≤ 1000000) : okKept 69 p l = true := by
  unfold okKept
  rw [show (69 : Nat).beq 67 = false from rfl, cond_false, show (69 : Nat).beq 69 = true from rfl, Bool.true_and]
  have h1 : decide (l.length ≤ lim) = true := by unfold lim; simp; omega
  rw [h1, Bool.true_and]
  exact all70_iff.2 (t70 hp.v0)
omit hp in
theorem kept_72 (l : List Mv) : kept 67 p l = l.filter (N68 p) := by
  unfold kept
  rw [show (67 : Nat).beq 67 = true from rfl, cond_true]
omit hp in
theorem kept_73 (l : List Mv) : kept 69 p l = l.filter (N70 p) := by
  unfold kept
  rw [show (69 : Nat).beq 67 = false from rfl, cond_false]
theorem lp31 (l : List Mv) (hl : l.length ≤ 1000000) : ∃ r, lp31_1 l (Int.ofNat l.length) p 0 = some r ∧
    match r with
    | .inl i => 0 ≤ i ∧ ∃ m, m ∈ l ∧ N70 p m = true
    | .inr _ => ∀ m, m ∈ l → N70 p m = false := by
  refine lp_many (I := fun x => 0 ≤ x ∧ x ≤ (l.length : Int) ∧ ∀ m, m ∈ l.take x.toNat → N70 p m = false) (μ := fun x => ((l.length : Int) - x).toNat) ?_ _ ⟨by simp, by simp, by simp⟩ (by simp; omega)
  rintro n ⟨h0, h1, h2⟩
  by_cases hc : n < l.length
  · have hlt : n.toNat < l.length := by omega
    refine ⟨c_true (fun _ => a_true (by simp [h0]; exact hc) fun _ => a_true (t70 hp.v0 _) fun _ => rfl) fun _ => rfl, c_ind (fun _ => ?_) fun h => absurd h (by simpa using hc)⟩
    refine c_ind (fun h => ⟨h0, _, getD_mem hlt, h⟩) fun h => ?_
    rw [wi64 (n := n + 1) (by omega) (by omega)]
    refine ⟨⟨by omega, by omega, ?_⟩, by dsimp only; omega⟩
    rw [show (n + 1).toNat = n.toNat + 1 by omega, List.take_succ_eq_append_getElem hlt]
    rw [List.getD_eq_getElem?_getD, List.getElem?_eq_getElem hlt] at h
    intro m hm
    simp only [List.mem_append, List.mem_singleton] at hm
    rcases hm with hm | rfl
    · exact h2 m hm
    · exact h
  · refine ⟨c_true (fun h => absurd h (by simpa using hc)) fun _ => rfl, c_ind (fun h => absurd h (by simpa using hc)) fun _ => ?_⟩
    show ∀ m, m ∈ l → N70 p m = false
    rw [List.take_of_length_le (by omega)] at h2
    exact h2
theorem lp31_any (l : List Mv) (hl : l.length ≤ 1000000) {α : Type} (x y : α) :
    (bif isL ((lp31_1 l (Int.ofNat l.length) p 0).getD default) then bif decide (gl ((lp31_1 l (Int.ofNat l.length) p 0).getD default) ≥ 0) then x else y else y) = bif l.any (N70 p) then x else y := by
  have h := (of_some (lp31 hp l hl)).2
  generalize (lp31_1 l (Int.ofNat l.length) p 0).getD default = r at h ⊢
  cases r with
  | inl i =>
    obtain ⟨h1, m, h2, h3⟩ := h
    have : l.any (N70 p) = true := List.any_eq_true.2 ⟨m, h2, h3⟩
    simp [isL, gl, h1, this]
  | inr z =>
    have : l.any (N70 p) = false := by
      rw [List.any_eq_false]
      intro m hm
      rw [h m hm]; simp
    simp [isL, this]
theorem well_len : ((N38 p).filter (N68 p)).length ≤ 20802 := Nat.le_trans (List.length_filter_le _ _) (N38_len hp)
theorem t31 : ok31 p = true := by
  have h1 := N38_len hp
  have h2 := well_len hp
  have k1 : ok61 p.variant p.turn = true := t61 hp.v0 hp.t0
  have k2 : ok38 p = true := t38 hp
  have k3 : okKept 67 p (N38 p) = true := okKept_72 hp (by omega)
  have k4 : okKept 69 p (kept 67 p (N38 p)) = true := okKept_73 hp (by rw [kept_72]; omega)
  have k5 : (lp31_1 (kept 67 p (N38 p)) (Int.ofNat (kept 67 p (N38 p)).length) p 0).isSome = true := (of_some (lp31 hp _ (by rw [kept_72]; omega))).1
  unfold ok31
  repeat' (first | with_reducible rfl | with_reducible exact k1 | with_reducible exact k2 | with_reducible exact k3 | with_reducible exact k4 | with_reducible exact k5 | with_reducible exact t62 _ _ | refine a_true ?_ (fun _ => ?_) | refine c_true (fun _ => ?_) (fun _ => ?_))
noncomputable def wouldL (p : Pos) : List Mv := bif p.variant == 4 then bif ((N38 p).filter (N68 p)).any (N70 p) then ((N38 p).filter (N68 p)).filter (N70 p) else (N38 p).filter (N68 p) else (N38 p).filter (N68 p)
theorem N31_eq : N31 p = bif N61 p.variant p.turn then bif !N62 p p.turn then [] else wouldL p else wouldL p := by
  have h2 := well_len hp
  unfold N31
  have e := fun (x y : List Mv) => lp31_any hp (kept 67 p (N38 p)) (by rw [kept_72]; omega) x y
  rw [e]
  unfold wouldL
  rw [kept_73, kept_72]
omit hp in
theorem wouldL_len' (hl : ((N38 p).filter (N68 p)).length ≤ 20802) : (wouldL p).length ≤ 20802 := by
  unfold wouldL
  refine c_ind (P := fun l : List Mv => l.length ≤ 20802) (fun _ => c_ind (P := fun l : List Mv => l.length ≤ 20802) (fun _ => Nat.le_trans (List.length_filter_le _ _) hl) fun _ => hl) fun _ => hl
theorem N31_len : (N31 p).length ≤ 20802 := by
  have h := wouldL_len' (well_len hp)
  rw [N31_eq hp]
  exact c_ind (P := fun l : List Mv => l.length ≤ 20802) (fun _ => c_ind (P := fun l : List Mv => l.length ≤ 20802) (fun _ => by simp) fun _ => h) fun _ => h
omit hp in
theorem lp128 (l : List Mv) (hl : l.length ≤ 1000000) (q : Pos) (k : Int) : (lp128_1 l (Int.ofNat l.length) q k 0).isSome = true := by
  refine (of_some (Q := fun _ => True) (lp_many (I := fun x => 0 ≤ x ∧ x ≤ (l.length : Int)) (μ := fun x => ((l.length : Int) - x).toNat) ?_ _ ⟨by simp, by simp⟩ (by simp; omega))).1
  rintro n ⟨h0, h1⟩
  by_cases hc : n < l.length
  · refine ⟨c_true (fun _ => a_true (by simp [h0]; exact hc) fun _ => rfl) fun _ => rfl, c_ind (fun _ => ?_) fun h => absurd h (by simpa using hc)⟩
    rw [wi64 (n := n + 1) (by omega) (by omega)]
    have go : Nxt (fun x : Int => 0 ≤ x ∧ x ≤ (l.length : Int)) (fun _ : Int ⊕ (Int × Bool) => True) (fun x => ((l.length : Int) - x).toNat) ((l.length : Int) - n).toNat (.go (n + 1)) := ⟨⟨by omega, by omega⟩, by dsimp only; omega⟩
    exact c_ind (fun _ => c_ind (fun _ => trivial) fun _ => go) fun _ => go
  · exact ⟨c_true (fun h => absurd h (by simpa using hc)) fun _ => rfl, c_ind (fun h => absurd h (by simpa using hc)) fun _ => trivial⟩
theorem t128 : ok128 p = true := by
  have h := N31_len hp
  have k1 : ok31 p = true := t31 hp
  have k2 : (lp128_1 (N31 p) (Int.ofNat (N31 p).length) p (N99 p 1 6) 0).isSome = true := lp128 _ (by omega) _ _
  unfold ok128
  repeat' (first | with_reducible rfl | with_reducible exact k1 | with_reducible exact k2 | with_reducible exact t99 _ _ _ | refine a_true ?_ (fun _ => ?_) | refine c_true (fun _ => ?_) (fun _ => ?_))
omit hp in
theorem t123 : ok123 p = true := a_true (t62 _ _) fun _ => rfl
theorem t124 (ht : p.turn ≤ 1) : ok124 p = true := by
  have t0 := hp.t0
  unfold ok124
  rw [wu8 (n := 1 - p.turn) (by omega) (by omega)]
  refine a_true (by simp; omega) fun _ => c_true (fun _ => rfl) fun _ => a_true (by simp; omega) fun _ => rfl
omit hp in
theorem t125 : ok125 p = true := by
  unfold ok125
  repeat' (first | with_reducible rfl | with_reducible exact t99 _ _ _ | refine a_true ?_ (fun _ => ?_) | refine c_true (fun _ => ?_) (fun _ => ?_))
omit hp in
theorem t126 : ok126 p = true := a_true (t101 _ _ _) fun _ => rfl
omit hp in
theorem t127 : ok127 p = true := by
  unfold ok127
  repeat' (first | with_reducible rfl | with_reducible exact t101 _ _ _ | refine a_true ?_ (fun _ => ?_) | refine c_true (fun _ => ?_) (fun _ => ?_))
theorem t30 : ok30 p = true := by
  have v0 := hp.v0
  unfold ok30
  refine c_true (fun _ => rfl) fun h9 => c_true (fun _ => rfl) fun ht => ?_
  have h9 : p.variant < 9 := by simpa using h9
  have ht : p.turn ≤ 1 := by simpa using ht
  refine a_true (by simp; omega) fun _ => ?_
  have k3 := t123 (p := p)
  have k4 := t127 (p := p)
  have k5 := t124 hp ht
  have k6 := t125 (p := p)
  have k7 := t126 (p := p)
  have k8 := t128 hp
  refine c_true (fun _ => rfl) fun n0 => c_true (fun _ => rfl) fun n1 => c_true (fun _ => rfl) fun n2 => c_true (fun _ => a_true k3 fun _ => rfl) fun n3 => c_true (fun _ => a_true k4 fun _ => rfl) fun n4 => c_true (fun _ => a_true k5 fun _ => rfl) fun n5 => c_true (fun _ => a_true k6 fun _ => rfl) fun n6 => c_true (fun _ => a_true k7 fun _ => rfl) fun n7 => a_true ?_ fun _ => a_true k8 fun _ => rfl
  simp only [beq_eq_false_iff_ne, ne_eq, beq_iff_eq, Int.ofNat_eq_natCast] at *
  omega
theorem t11 : ok11 p = true := a_true (t30 hp) fun _ => c_true (fun _ => rfl) fun _ => a_true (t31 hp) fun _ => rfl
theorem N11_eq : N11 p = bif (N30 p).1 != 0 then [] else N31 p := rfl
end
def WinL (r : Int × Int) : Prop := r = (0, 0) ∨ ((r.1 = 1 ∨ r.1 = 2) ∧ (r.2 = 6 ∨ r.2 = 7 ∨ r.2 = 8)) ∨ r = (3, 6)
theorem N166_win {c w : Int} (hc : c = 0 ∨ c = 1) (hw : w = 6 ∨ w = 7 ∨ w = 8) : WinL (N166 c w) := by
  refine .inr (.inl ⟨?_, hw⟩)
  rcases hc with rfl | rfl
  · exact .inl rfl
  · exact .inr rfl
theorem N166_win' {c w : Int} (hc : c = 0 ∨ c = 1) (hw : w = 6 ∨ w = 7 ∨ w = 8) : WinL ((N166 c w).1, (N166 c w).2) := N166_win hc hw
theorem win_0 : WinL (0, 0) := .inl rfl
theorem N30_win {p : Pos} (hp : PosIn p) : WinL (N30 p) ∧ (((N30 p).1 = 3 ∨ (p.variant < 3)) → (N30 p).1 = 0 ∨ p.variant = 8) ∧ ((N30 p).1 ≠ 0 → 3 ≤ p.variant ∧ p.variant < 9 ∧ p.turn ≤ 1) := by
  have t0 := hp.t0
  have v0 := hp.v0
  unfold N30
  have nw : ∀ {P : Prop}, WinL ((0 : Int), (0 : Int)) ∧ ((((0 : Int), (0 : Int)).1 = 3 ∨ P) → ((0 : Int), (0 : Int)).1 = 0 ∨ p.variant = 8) ∧ (((0 : Int), (0 : Int)).1 ≠ 0 → 3 ≤ p.variant ∧ p.variant < 9 ∧ p.turn ≤ 1) := fun {P} => ⟨win_0, fun _ => .inl rfl, fun h => absurd rfl h⟩
  have ci := fun {d : Bool} {x y : Int × Int} => @c_ind (Int × Int) (fun r => WinL r ∧ ((r.1 = 3 ∨ (p.variant < 3)) → r.1 = 0 ∨ p.variant = 8) ∧ (r.1 ≠ 0 → 3 ≤ p.variant ∧ p.variant < 9 ∧ p.turn ≤ 1)) d x y
  refine ci (fun _ => nw) fun h9 => ci (fun _ => nw) fun ht => ?_
  have h9 : p.variant < 9 := by simpa using h9
  have ht : p.turn ≤ 1 := by simpa using ht
  have hc : p.turn = 0 ∨ p.turn = 1 := by omega
  have hc' : wr .u8 (1 - p.turn) = 0 ∨ wr .u8 (1 - p.turn) = 1 := by rw [wu8 (by omega) (by omega)]; omega
  have one : ∀ (r : Int × Int), WinL r → r.1 ≠ 3 → 3 ≤ p.variant → WinL r ∧ ((r.1 = 3 ∨ (p.variant < 3)) → r.1 = 0 ∨ p.variant = 8) ∧ (r.1 ≠ 0 → 3 ≤ p.variant ∧ p.variant < 9 ∧ p.turn ≤ 1) := fun r h1 h2 h3 => ⟨h1, fun h => by rcases h with h | h; exact absurd h h2; omega, fun _ => ⟨h3, h9, ht⟩⟩
  have n3 : ∀ {c w : Int}, (c = 0 ∨ c = 1) → (N166 c w).1 ≠ 3 := fun {c w} h => by rcases h with rfl | rfl <;> (show wr .u8 _ ≠ 3; decide)
  have z3 : (((0 : Int), (0 : Int)).1) ≠ 3 := by decide
  have cw := fun {d : Bool} {x y : Int × Int} => @c_ind (Int × Int) (fun r => WinL (r.1, r.2) ∧ r.1 ≠ 3) d x y
  have w6 : ((6 : Int) = 6 ∨ (6 : Int) = 7 ∨ (6 : Int) = 8) := .inl rfl
  have w7 : ((7 : Int) = 6 ∨ (7 : Int) = 7 ∨ (7 : Int) = 8) := .inr (.inl rfl)
  have w8 : ((8 : Int) = 6 ∨ (8 : Int) = 7 ∨ (8 : Int) = 8) := .inr (.inr rfl)
  have c0 : ((0 : Int) = 0 ∨ (0 : Int) = 1) := .inl rfl
  have c1 : ((1 : Int) = 0 ∨ (1 : Int) = 1) := .inr rfl
  have k113 : WinL ((N123 p).1, (N123 p).2) ∧ (N123 p).1 ≠ 3 := by
    unfold N123
    repeat' (first | exact ⟨win_0, z3⟩ | exact ⟨N166_win' hc' w6, n3 hc'⟩ | refine cw (fun _ => ?_) (fun _ => ?_))
  have k117 : WinL ((N127 p).1, (N127 p).2) ∧ (N127 p).1 ≠ 3 := by
    unfold N127
    repeat' (first | exact ⟨win_0, z3⟩ | exact ⟨N166_win' hc w8, n3 hc⟩ | exact ⟨N166_win' hc' w8, n3 hc'⟩ | refine cw (fun _ => ?_) (fun _ => ?_))
  have k114 : WinL ((N124 p).1, (N124 p).2) ∧ (N124 p).1 ≠ 3 := by
    unfold N124
    repeat' (first | exact ⟨win_0, z3⟩ | exact ⟨N166_win' hc w7, n3 hc⟩ | exact ⟨N166_win' hc' w7, n3 hc'⟩ | refine cw (fun _ => ?_) (fun _ => ?_))
  have k115 : WinL ((N125 p).1, (N125 p).2) ∧ (N125 p).1 ≠ 3 := by
    unfold N125
    repeat' (first | exact ⟨win_0, z3⟩ | exact ⟨N166_win' hc w6, n3 hc⟩ | exact ⟨N166_win' hc' w6, n3 hc'⟩ | refine cw (fun _ => ?_) (fun _ => ?_))
  have k116 : WinL ((N126 p).1, (N126 p).2) ∧ (N126 p).1 ≠ 3 := by
    unfold N126
    repeat' (first | exact ⟨win_0, z3⟩ | exact ⟨N166_win' c1 w8, n3 c1⟩ | refine cw (fun _ => ?_) (fun _ => ?_))
  have k118 : WinL ((N128 p).1, (N128 p).2) := by
    unfold N128
    repeat' (first | exact win_0 | exact .inr (.inr rfl) | exact N166_win' c0 w6 | exact N166_win' c1 w6 | refine c_ind (P := fun r : Int × Int => WinL (r.1, r.2)) (fun _ => ?_) (fun _ => ?_))
  have vv : ∀ (n : Nat), (p.variant == Int.ofNat n) = true → p.variant = n := fun n h => by simpa using h
  refine ci (fun _ => nw) fun n0 => ci (fun _ => nw) fun n1 => ci (fun _ => nw) fun n2 => ci (fun h => one _ k113.1 k113.2 (by have := vv 3 h; omega)) fun m3 => ci (fun h => one _ k117.1 k117.2 (by have := vv 4 h; omega)) fun n4 => ci (fun h => one _ k114.1 k114.2 (by have := vv 5 h; omega)) fun n5 => ci (fun h => one _ k115.1 k115.2 (by have := vv 6 h; omega)) fun n6 => ci (fun h => one _ k116.1 k116.2 (by have := vv 7 h; omega)) fun n7 => ?_
  have h8 : p.variant = 8 := by
    simp only [beq_eq_false_iff_ne, ne_eq, Int.ofNat_eq_natCast] at n0 n1 n2 m3 n4 n5 n6 n7
    omega
  exact ⟨k118, fun _ => .inr h8, fun _ => ⟨by omega, by omega, ht⟩⟩
end Kz
end
section
namespace Kz
open Go Go.RowKit
set_option maxRecDepth 100000
set_option maxHeartbeats 4000000
def cl (h f : Int) (p : Pos) : Pos := ⟨p.variant, p.board, p.promoted, p.pockets, p.turn, p.rooks, p.passing, p.checks, h, f⟩
def Stp.map {X X' R R' : Type} (φ : X → X') (ψ : R → R') : Stp X R → Stp X' R'
  | .go x => .go (φ x)
  | .out r => .out (ψ r)
  | .bad => .bad
section
variable (h f : Int) (p : Pos)
end
section
variable (h f h2 f2 h3 f3 : Int) (a q p : Pos) (b m : Mv) (c : Int)
end
noncomputable def mvd (p : Pos) (m : Mv) : Pos := vF17_11 p m (vF17_10 p m (vF17_9 p m (vF17_8 p m (vF17_4 p m (vF17_2 p m (vF17_1 p m p p m (N39 p m)) p m (N39 p m)) p m (N39 p m)) p m (N39 p m)) p m (N39 p m)) p m (N39 p m)) p m (N39 p m)
theorem N17_mvd (p : Pos) (m : Mv) : N17 p m = bif !N37 (N38 p) m then (p, false) else (mvd p m, true) := rfl
section
variable {p : Pos} (hp : PosIn p)
include hp
variable {h f : Int} (hq : PosIn (cl h f p))
include hq
end
end Kz
end
section
namespace Kz
open Go Go.RowKit Go.Proofs
set_option maxRecDepth 100000
set_option maxHeartbeats 4000000
noncomputable def K34 : List (Nat × List (Nat × List Nat)) := []
noncomputable def B34 : Base := baseOf Pz (fun f i => lkK f i K34) [] [] []
theorem hB34 : BOk B34 := base_ok named_z trivial trivial trivial
noncomputable def V66 : AV := AV.agg [AV.func 30 [] [], AV.func 80 [] [], AV.func 81 [] [], AV.func 82 [] []]
noncomputable def ok34 : Bool := true
theorem E34 : evPure B34 14 34 [] = Tr.ret V66 := by kernel_rfl
theorem P34 (_ : ok34 = true) : PS Pz 34 [] V66 := evPure_ok hB34 (by rw [E34]; rfl)
noncomputable def G34 : List AV → Tr AV := g0 (sure Pz 34 [] V66)
theorem s34 : Sound Pz 34 G34 := sound0 at_sure
noncomputable def K136 : List (Nat × List (Nat × List Nat)) := [(136, [(0, [1, 3, 4]), (1, [0, 1, 3, 4])])]
noncomputable def B136 : Base := baseOf Pz (fun f i => lkK f i K136) [] [] []
theorem hB136 : BOk B136 := base_ok named_z trivial trivial trivial
noncomputable def N136 (a : Int) : (Int × Int) := ⟨(3), (a)⟩
noncomputable def ok136 (a : Int) : Bool := true
theorem E136 (a : Int) : evPure B136 14 136 [.int .u8 a] = Tr.ret (AV.agg [AV.cint .u8 3, AV.int .u8 a]) := by kernel_rfl
theorem P136 (a : Int) (h : ok136 a = true) : PS Pz 136 [.int .u8 a] ((dR .u8 .u8).res (N136 a)) := ps_gotR hB136 (E136 a) (gr_ret rfl) h
noncomputable def G136 : List AV → Tr AV := g1 (dI .u8) (fun a => sure Pz 136 [.int .u8 a] ((dR .u8 .u8).res (N136 a)))
theorem s136 : Sound Pz 136 G136 := sound1 (fun _ => at_sure)
noncomputable def K80 : List (Nat × List (Nat × List Nat)) := [(80, [(0, (0 :: (rn 3 23 []))), (1, (0 :: 3 :: 4 :: 5 :: (rn 7 19 []))), (2, (0 :: 1 :: (rn 3 23 []))), (3, (0 :: (rn 3 5 (rn 9 17 [])))), (4, (0 :: 1 :: (rn 3 23 []))), (5, (0 :: (rn 3 13 (rn 17 9 [])))), (6, (0 :: 1 :: (rn 3 23 []))), (7, (0 :: 1 :: (rn 3 23 [])))])]
noncomputable def B80 : Base := baseOf Pz (fun f i => lkK f i K80) [(11, G11), (103, G103), (136, G136)] [] []
theorem hB80 : BOk B80 := base_ok named_z ⟨s11, s103, s136, trivial⟩ trivial trivial
noncomputable def N80 (a : Pos) : (Int × Int) := (bif decide (Int.ofNat (N11 a).length > 0) then ⟨(0), (0)⟩ else (bif a.variant == 4 then ⟨(wr .u8 (1 + a.turn)), (8)⟩ else (bif N103 a a.turn then ⟨(wr .u8 (2 - a.turn)), (1)⟩ else ⟨((N136 2).fst), ((N136 2).snd)⟩)))
noncomputable def ok80 (a : Pos) : Bool := (ok11 (a) && (bif decide (Int.ofNat (N11 a).length > 0) then true else (bif a.variant == 4 then true else (ok103 (a) (a.turn) && true))))
theorem E80 (a : Pos) : evPure B80 14 80 [Pos.av a] = Tr.br (isPS Pz 11 [a.av] ((dL ET.mv).res (N11 a))) (Tr.br (decide (Int.ofNat (N11 a).length > 0)) (Tr.ret (AV.agg [AV.cint .u8 0, AV.cint .u8 0])) (Tr.br (a.variant == 4) (Tr.ret (AV.agg [AV.int .u8 (wr .u8 (1 + a.turn)), AV.cint .u8 8])) (Tr.br (isPS Pz 103 [a.av, AV.int .u8 a.turn] (dB.res (N103 a a.turn))) (Tr.br (N103 a a.turn) (Tr.ret (AV.agg [AV.int .u8 (wr .u8 (2 - a.turn)), AV.cint .u8 1])) (Tr.br (isPS Pz 136 [AV.int .u8 2] ((dR .u8 .u8).res (N136 2))) (Tr.ret (AV.agg [AV.int .u8 (N136 2).fst, AV.int .u8 (N136 2).snd])) Tr.fail)) Tr.fail))) Tr.fail := by kernel_rfl
theorem P80 (a : Pos) (h : ok80 a = true) : PS Pz 80 [Pos.av a] ((dR .u8 .u8).res (N80 a)) := ps_gotR hB80 (E80 a) (gr_call (P11 (a)) (gr_br (gr_ret rfl) (gr_br (gr_ret rfl) (gr_call (P103 (a) (a.turn)) (gr_br2 (gr_ret rfl) (gr_callT (P136 (2) rfl) (gr_ret rfl))))))) h
noncomputable def G80 : List AV → Tr AV := g1 dPos (fun a => sure Pz 80 [Pos.av a] ((dR .u8 .u8).res (N80 a)))
theorem s80 : Sound Pz 80 G80 := sound1 (fun _ => at_sure)
noncomputable def K174 : List (Nat × List (Nat × List Nat)) := [(174, [(0, (0 :: (rn 3 9 []))), (1, (rn 0 4 (rn 5 7 [])))])]
noncomputable def B174 : Base := baseOf Pz (fun f i => lkK f i K174) [(101, G101)] [] []
theorem hB174 : BOk B174 := base_ok named_z ⟨s101, trivial⟩ trivial trivial
noncomputable def N174 (a : Pos) (b : Int) : BitVec 64 := (N101 (Pos.mk a.variant a.board a.promoted a.pockets a.turn a.rooks a.passing a.checks a.half a.full) 0 b ||| N101 (Pos.mk a.variant a.board a.promoted a.pockets a.turn a.rooks a.passing a.checks a.half a.full) 1 b)
noncomputable def ok174 (a : Pos) (b : Int) : Bool := (ok101 (Pos.mk a.variant a.board a.promoted a.pockets a.turn a.rooks a.passing a.checks a.half a.full) (0) (b) && (ok101 (Pos.mk a.variant a.board a.promoted a.pockets a.turn a.rooks a.passing a.checks a.half a.full) (1) (b) && true))
theorem E174 (a : Pos) (b : Int) : evPure B174 14 174 [Pos.av a, .int .u8 b] = Tr.br (isPS Pz 101 [(Pos.mk a.variant a.board a.promoted a.pockets a.turn a.rooks a.passing a.checks a.half a.full).av, AV.int .u8 0, AV.int .u8 b] (dU.res (N101 (Pos.mk a.variant a.board a.promoted a.pockets a.turn a.rooks a.passing a.checks a.half a.full) 0 b))) (Tr.br (isPS Pz 101 [(Pos.mk a.variant a.board a.promoted a.pockets a.turn a.rooks a.passing a.checks a.half a.full).av, AV.int .u8 1, AV.int .u8 b] (dU.res (N101 (Pos.mk a.variant a.board a.promoted a.pockets a.turn a.rooks a.passing a.checks a.half a.full) 1 b))) (Tr.ret (AV.u64 (N101 (Pos.mk a.variant a.board a.promoted a.pockets a.turn a.rooks a.passing a.checks a.half a.full) 0 b ||| N101 (Pos.mk a.variant a.board a.promoted a.pockets a.turn a.rooks a.passing a.checks a.half a.full) 1 b))) Tr.fail) Tr.fail := by kernel_rfl
theorem P174 (a : Pos) (b : Int) (h : ok174 a b = true) : PS Pz 174 [Pos.av a, .int .u8 b] (dU.res (N174 a b)) := ps_gotR hB174 (E174 a b) (gr_call (P101 (Pos.mk a.variant a.board a.promoted a.pockets a.turn a.rooks a.passing a.checks a.half a.full) (0) (b)) (gr_call (P101 (Pos.mk a.variant a.board a.promoted a.pockets a.turn a.rooks a.passing a.checks a.half a.full) (1) (b)) (gr_ret rfl))) h
noncomputable def G174 : List AV → Tr AV := g2 dPos (dI .u8) (fun a b => sure Pz 174 [Pos.av a, .int .u8 b] (dU.res (N174 a b)))
theorem s174 : Sound Pz 174 G174 := sound2 (fun _ _ => at_sure)
noncomputable def K175 : List (Nat × List (Nat × List Nat)) := [(175, [(0, (rn 1 34 [])), (1, (rn 1 34 [])), (2, (rn 1 34 [])), (3, (rn 1 34 [])), (4, (rn 1 34 [])), (5, (rn 1 34 [])), (6, (rn 1 34 [])), (7, (0 :: 1 :: (rn 3 32 [])))])]
noncomputable def B175 : Base := baseOf Pz (fun f i => lkK f i K175) [] [] []
theorem hB175 : BOk B175 := base_ok named_z trivial trivial trivial
noncomputable def N175 (a : BitVec 64) : Int := (ibits BinOp.and .i64 (wr .i64 ↑((((((a >>> 1 &&& 6148914691236517205#64) + (a &&& 6148914691236517205#64)) >>> 2 &&& 3689348814741910323#64) + ((a >>> 1 &&& 6148914691236517205#64) + (a &&& 6148914691236517205#64) &&& 3689348814741910323#64)) >>> 4 + ((((a >>> 1 &&& 6148914691236517205#64) + (a &&& 6148914691236517205#64)) >>> 2 &&& 3689348814741910323#64) + ((a >>> 1 &&& 6148914691236517205#64) + (a &&& 6148914691236517205#64) &&& 3689348814741910323#64)) &&& 1085102592571150095#64) + (((((a >>> 1 &&& 6148914691236517205#64) + (a &&& 6148914691236517205#64)) >>> 2 &&& 3689348814741910323#64) + ((a >>> 1 &&& 6148914691236517205#64) + (a &&& 6148914691236517205#64) &&& 3689348814741910323#64)) >>> 4 + ((((a >>> 1 &&& 6148914691236517205#64) + (a &&& 6148914691236517205#64)) >>> 2 &&& 3689348814741910323#64) + ((a >>> 1 &&& 6148914691236517205#64) + (a &&& 6148914691236517205#64) &&& 3689348814741910323#64)) &&& 1085102592571150095#64) >>> 8 + ((((((a >>> 1 &&& 6148914691236517205#64) + (a &&& 6148914691236517205#64)) >>> 2 &&& 3689348814741910323#64) + ((a >>> 1 &&& 6148914691236517205#64) + (a &&& 6148914691236517205#64) &&& 3689348814741910323#64)) >>> 4 + ((((a >>> 1 &&& 6148914691236517205#64) + (a &&& 6148914691236517205#64)) >>> 2 &&& 3689348814741910323#64) + ((a >>> 1 &&& 6148914691236517205#64) + (a &&& 6148914691236517205#64) &&& 3689348814741910323#64)) &&& 1085102592571150095#64) + (((((a >>> 1 &&& 6148914691236517205#64) + (a &&& 6148914691236517205#64)) >>> 2 &&& 3689348814741910323#64) + ((a >>> 1 &&& 6148914691236517205#64) + (a &&& 6148914691236517205#64) &&& 3689348814741910323#64)) >>> 4 + ((((a >>> 1 &&& 6148914691236517205#64) + (a &&& 6148914691236517205#64)) >>> 2 &&& 3689348814741910323#64) + ((a >>> 1 &&& 6148914691236517205#64) + (a &&& 6148914691236517205#64) &&& 3689348814741910323#64)) &&& 1085102592571150095#64) >>> 8) >>> 16 + ((((((a >>> 1 &&& 6148914691236517205#64) + (a &&& 6148914691236517205#64)) >>> 2 &&& 3689348814741910323#64) + ((a >>> 1 &&& 6148914691236517205#64) + (a &&& 6148914691236517205#64) &&& 3689348814741910323#64)) >>> 4 + ((((a >>> 1 &&& 6148914691236517205#64) + (a &&& 6148914691236517205#64)) >>> 2 &&& 3689348814741910323#64) + ((a >>> 1 &&& 6148914691236517205#64) + (a &&& 6148914691236517205#64) &&& 3689348814741910323#64)) &&& 1085102592571150095#64) + (((((a >>> 1 &&& 6148914691236517205#64) + (a &&& 6148914691236517205#64)) >>> 2 &&& 3689348814741910323#64) + ((a >>> 1 &&& 6148914691236517205#64) + (a &&& 6148914691236517205#64) &&& 3689348814741910323#64)) >>> 4 + ((((a >>> 1 &&& 6148914691236517205#64) + (a &&& 6148914691236517205#64)) >>> 2 &&& 3689348814741910323#64) + ((a >>> 1 &&& 6148914691236517205#64) + (a &&& 6148914691236517205#64) &&& 3689348814741910323#64)) &&& 1085102592571150095#64) >>> 8 + ((((((a >>> 1 &&& 6148914691236517205#64) + (a &&& 6148914691236517205#64)) >>> 2 &&& 3689348814741910323#64) + ((a >>> 1 &&& 6148914691236517205#64) + (a &&& 6148914691236517205#64) &&& 3689348814741910323#64)) >>> 4 + ((((a >>> 1 &&& 6148914691236517205#64) + (a &&& 6148914691236517205#64)) >>> 2 &&& 3689348814741910323#64) + ((a >>> 1 &&& 6148914691236517205#64) + (a &&& 6148914691236517205#64) &&& 3689348814741910323#64)) &&& 1085102592571150095#64) + (((((a >>> 1 &&& 6148914691236517205#64) + (a &&& 6148914691236517205#64)) >>> 2 &&& 3689348814741910323#64) + ((a >>> 1 &&& 6148914691236517205#64) + (a &&& 6148914691236517205#64) &&& 3689348814741910323#64)) >>> 4 + ((((a >>> 1 &&& 6148914691236517205#64) + (a &&& 6148914691236517205#64)) >>> 2 &&& 3689348814741910323#64) + ((a >>> 1 &&& 6148914691236517205#64) + (a &&& 6148914691236517205#64) &&& 3689348814741910323#64)) &&& 1085102592571150095#64) >>> 8) >>> 16) >>> 32).toNat) 127)
noncomputable def ok175 (a : BitVec 64) : Bool := true
theorem E175 (a : BitVec 64) : evPure B175 14 175 [.u64 a] = (let z1 := (((((a >>> 1 &&& 6148914691236517205#64) + (a &&& 6148914691236517205#64)) >>> 2 &&& 3689348814741910323#64) + ((a >>> 1 &&& 6148914691236517205#64) + (a &&& 6148914691236517205#64) &&& 3689348814741910323#64)) >>> 4 + ((((a >>> 1 &&& 6148914691236517205#64) + (a &&& 6148914691236517205#64)) >>> 2 &&& 3689348814741910323#64) + ((a >>> 1 &&& 6148914691236517205#64) + (a &&& 6148914691236517205#64) &&& 3689348814741910323#64)) &&& 1085102592571150095#64); Tr.ret (AV.int .i64 (ibits BinOp.and .i64 (wr .i64 ↑(z1 + z1 >>> 8 + (z1 + z1 >>> 8) >>> 16 + (z1 + z1 >>> 8 + (z1 + z1 >>> 8) >>> 16) >>> 32).toNat) 127))) := by kernel_rfl
theorem P175 (a : BitVec 64) (h : ok175 a = true) : PS Pz 175 [.u64 a] ((dI .i64).res (N175 a)) := ps_gotR hB175 (E175 a) (gr_ret rfl) h
noncomputable def G175 : List AV → Tr AV := g1 dU (fun a => sure Pz 175 [.u64 a] ((dI .i64).res (N175 a)))
theorem s175 : Sound Pz 175 G175 := sound1 (fun _ => at_sure)
noncomputable def K137 : List (Nat × List (Nat × List Nat)) := [(137, [(0, (0 :: (rn 2 30 (rn 45 14 [62, 63, 67])))), (1, (0 :: 2 :: (rn 4 28 (rn 45 14 [62, 63, 67])))), (2, (0 :: 2 :: (rn 4 7 (rn 12 20 (rn 45 14 [62, 63, 67]))))), (3, (0 :: 2 :: (rn 4 7 (rn 13 19 (rn 45 14 [62, 63, 67]))))), (4, (0 :: 2 :: (rn 4 7 (rn 13 19 (rn 45 14 [62, 63, 67]))))), (5, (0 :: 2 :: 3 :: (rn 5 27 (rn 45 23 [])))), (6, (0 :: 2 :: 3 :: (rn 6 26 (rn 45 23 [])))), (7, (rn 0 4 (rn 6 21 (rn 28 4 (rn 45 23 []))))), (8, (0 :: 1 :: (rn 3 65 []))), (9, (0 :: 1 :: (rn 3 65 []))), (10, (0 :: 2 :: (rn 4 7 (rn 12 34 (rn 47 12 [62, 63, 67]))))), (11, (0 :: 2 :: (rn 4 42 (rn 47 12 [62, 63, 67])))), (12, (0 :: 1 :: 2 :: 4 :: 5 :: (rn 8 51 [62, 63, 67]))), (13, (0 :: 1 :: (rn 3 65 []))), (14, (0 :: 1 :: (rn 3 65 [])))])]
noncomputable def B137 : Base := baseOf Pz (fun f i => lkK f i K137) [(143, G143), (174, G174), (175, G175), (101, G101)] [] []
theorem hB137 : BOk B137 := base_ok named_z ⟨s143, s174, s175, s101, trivial⟩ trivial trivial
noncomputable def N137 (a : Pos) : Bool := (bif a.variant == 0 then (bif a.variant == 0 then (bif N143 (Pos.mk a.variant a.board a.promoted a.pockets a.turn a.rooks a.passing a.checks a.half a.full) &&& ~~~N174 (Pos.mk a.variant a.board a.promoted a.pockets a.turn a.rooks a.passing a.checks a.half a.full) 6 &&& ~~~N174 (Pos.mk a.variant a.board a.promoted a.pockets a.turn a.rooks a.passing a.checks a.half a.full) 3 &&& ~~~N174 (Pos.mk a.variant a.board a.promoted a.pockets a.turn a.rooks a.passing a.checks a.half a.full) 2 != 0#64 then (false) else (bif decide (N175 (N143 (Pos.mk a.variant a.board a.promoted a.pockets a.turn a.rooks a.passing a.checks a.half a.full) &&& ~~~N174 (Pos.mk a.variant a.board a.promoted a.pockets a.turn a.rooks a.passing a.checks a.half a.full) 6) ≤ 1) then (true) else (bif N143 (Pos.mk a.variant a.board a.promoted a.pockets a.turn a.rooks a.passing a.checks a.half a.full) &&& ~~~N174 (Pos.mk a.variant a.board a.promoted a.pockets a.turn a.rooks a.passing a.checks a.half a.full) 6 == N174 (Pos.mk a.variant a.board a.promoted a.pockets a.turn a.rooks a.passing a.checks a.half a.full) 3 then (bif N143 (Pos.mk a.variant a.board a.promoted a.pockets a.turn a.rooks a.passing a.checks a.half a.full) &&& ~~~N174 (Pos.mk a.variant a.board a.promoted a.pockets a.turn a.rooks a.passing a.checks a.half a.full) 6 &&& 6172840429334713770#64 == 0#64 then (true) else (N143 (Pos.mk a.variant a.board a.promoted a.pockets a.turn a.rooks a.passing a.checks a.half a.full) &&& ~~~N174 (Pos.mk a.variant a.board a.promoted a.pockets a.turn a.rooks a.passing a.checks a.half a.full) 6 &&& ~~~6172840429334713770#64 == 0#64)) else (false)))) else (bif a.variant == 3 then (bif a.variant == 3 then (bif N143 (Pos.mk a.variant a.board a.promoted a.pockets a.turn a.rooks a.passing a.checks a.half a.full) == N101 (Pos.mk a.variant a.board a.promoted a.pockets a.turn a.rooks a.passing a.checks a.half a.full) 0 6 ||| N101 (Pos.mk a.variant a.board a.promoted a.pockets a.turn a.rooks a.passing a.checks a.half a.full) 1 6 then (bif N175 (N101 (Pos.mk a.variant a.board a.promoted a.pockets a.turn a.rooks a.passing a.checks a.half a.full) 0 6) == 1 then (N175 (N101 (Pos.mk a.variant a.board a.promoted a.pockets a.turn a.rooks a.passing a.checks a.half a.full) 1 6) == 1) else (false)) else (false)) else (false)) else (bif a.variant == 5 then (bif N143 (Pos.mk a.variant a.board a.promoted a.pockets a.turn a.rooks a.passing a.checks a.half a.full) == N101 (Pos.mk a.variant a.board a.promoted a.pockets a.turn a.rooks a.passing a.checks a.half a.full) 0 6 ||| N101 (Pos.mk a.variant a.board a.promoted a.pockets a.turn a.rooks a.passing a.checks a.half a.full) 1 6 then (bif N175 (N101 (Pos.mk a.variant a.board a.promoted a.pockets a.turn a.rooks a.passing a.checks a.half a.full) 0 6) == 1 then (N175 (N101 (Pos.mk a.variant a.board a.promoted a.pockets a.turn a.rooks a.passing a.checks a.half a.full) 1 6) == 1) else (false)) else (false)) else (false)))) else (bif a.variant == 1 then (bif N143 (Pos.mk a.variant a.board a.promoted a.pockets a.turn a.rooks a.passing a.checks a.half a.full) &&& ~~~N174 (Pos.mk a.variant a.board a.promoted a.pockets a.turn a.rooks a.passing a.checks a.half a.full) 6 &&& ~~~N174 (Pos.mk a.variant a.board a.promoted a.pockets a.turn a.rooks a.passing a.checks a.half a.full) 3 &&& ~~~N174 (Pos.mk a.variant a.board a.promoted a.pockets a.turn a.rooks a.passing a.checks a.half a.full) 2 != 0#64 then (false) else (bif decide (N175 (N143 (Pos.mk a.variant a.board a.promoted a.pockets a.turn a.rooks a.passing a.checks a.half a.full) &&& ~~~N174 (Pos.mk a.variant a.board a.promoted a.pockets a.turn a.rooks a.passing a.checks a.half a.full) 6) ≤ 1) then (true) else (bif N143 (Pos.mk a.variant a.board a.promoted a.pockets a.turn a.rooks a.passing a.checks a.half a.full) &&& ~~~N174 (Pos.mk a.variant a.board a.promoted a.pockets a.turn a.rooks a.passing a.checks a.half a.full) 6 == N174 (Pos.mk a.variant a.board a.promoted a.pockets a.turn a.rooks a.passing a.checks a.half a.full) 3 then (bif N143 (Pos.mk a.variant a.board a.promoted a.pockets a.turn a.rooks a.passing a.checks a.half a.full) &&& ~~~N174 (Pos.mk a.variant a.board a.promoted a.pockets a.turn a.rooks a.passing a.checks a.half a.full) 6 &&& 6172840429334713770#64 == 0#64 then (true) else (N143 (Pos.mk a.variant a.board a.promoted a.pockets a.turn a.rooks a.passing a.checks a.half a.full) &&& ~~~N174 (Pos.mk a.variant a.board a.promoted a.pockets a.turn a.rooks a.passing a.checks a.half a.full) 6 &&& ~~~6172840429334713770#64 == 0#64)) else (false)))) else (bif a.variant == 3 then (bif a.variant == 3 then (bif N143 (Pos.mk a.variant a.board a.promoted a.pockets a.turn a.rooks a.passing a.checks a.half a.full) == N101 (Pos.mk a.variant a.board a.promoted a.pockets a.turn a.rooks a.passing a.checks a.half a.full) 0 6 ||| N101 (Pos.mk a.variant a.board a.promoted a.pockets a.turn a.rooks a.passing a.checks a.half a.full) 1 6 then (bif N175 (N101 (Pos.mk a.variant a.board a.promoted a.pockets a.turn a.rooks a.passing a.checks a.half a.full) 0 6) == 1 then (N175 (N101 (Pos.mk a.variant a.board a.promoted a.pockets a.turn a.rooks a.passing a.checks a.half a.full) 1 6) == 1) else (false)) else (false)) else (false)) else (bif a.variant == 5 then (bif N143 (Pos.mk a.variant a.board a.promoted a.pockets a.turn a.rooks a.passing a.checks a.half a.full) == N101 (Pos.mk a.variant a.board a.promoted a.pockets a.turn a.rooks a.passing a.checks a.half a.full) 0 6 ||| N101 (Pos.mk a.variant a.board a.promoted a.pockets a.turn a.rooks a.passing a.checks a.half a.full) 1 6 then (bif N175 (N101 (Pos.mk a.variant a.board a.promoted a.pockets a.turn a.rooks a.passing a.checks a.half a.full) 0 6) == 1 then (N175 (N101 (Pos.mk a.variant a.board a.promoted a.pockets a.turn a.rooks a.passing a.checks a.half a.full) 1 6) == 1) else (false)) else (false)) else (false)))))
noncomputable def ok137 (a : Pos) : Bool := (ok143 (Pos.mk a.variant a.board a.promoted a.pockets a.turn a.rooks a.passing a.checks a.half a.full) && (bif a.variant == 0 then (bif a.variant == 0 then (ok174 (Pos.mk a.variant a.board a.promoted a.pockets a.turn a.rooks a.passing a.checks a.half a.full) (6) && (ok174 (Pos.mk a.variant a.board a.promoted a.pockets a.turn a.rooks a.passing a.checks a.half a.full) (3) && (ok174 (Pos.mk a.variant a.board a.promoted a.pockets a.turn a.rooks a.passing a.checks a.half a.full) (2) && true))) else (bif a.variant == 3 then (bif a.variant == 3 then (ok101 (Pos.mk a.variant a.board a.promoted a.pockets a.turn a.rooks a.passing a.checks a.half a.full) (0) (6) && (ok101 (Pos.mk a.variant a.board a.promoted a.pockets a.turn a.rooks a.passing a.checks a.half a.full) (1) (6) && true)) else true) else (bif a.variant == 5 then (ok101 (Pos.mk a.variant a.board a.promoted a.pockets a.turn a.rooks a.passing a.checks a.half a.full) (0) (6) && (ok101 (Pos.mk a.variant a.board a.promoted a.pockets a.turn a.rooks a.passing a.checks a.half a.full) (1) (6) && true)) else true))) else (bif a.variant == 1 then (ok174 (Pos.mk a.variant a.board a.promoted a.pockets a.turn a.rooks a.passing a.checks a.half a.full) (6) && (ok174 (Pos.mk a.variant a.board a.promoted a.pockets a.turn a.rooks a.passing a.checks a.half a.full) (3) && (ok174 (Pos.mk a.variant a.board a.promoted a.pockets a.turn a.rooks a.passing a.checks a.half a.full) (2) && true))) else (bif a.variant == 3 then (bif a.variant == 3 then (ok101 (Pos.mk a.variant a.board a.promoted a.pockets a.turn a.rooks a.passing a.checks a.half a.full) (0) (6) && (ok101 (Pos.mk a.variant a.board a.promoted a.pockets a.turn a.rooks a.passing a.checks a.half a.full) (1) (6) && true)) else true) else (bif a.variant == 5 then (ok101 (Pos.mk a.variant a.board a.promoted a.pockets a.turn a.rooks a.passing a.checks a.half a.full) (0) (6) && (ok101 (Pos.mk a.variant a.board a.promoted a.pockets a.turn a.rooks a.passing a.checks a.half a.full) (1) (6) && true)) else true)))))
theorem E137 (a : Pos) : evPure B137 14 137 [Pos.av a] = (let z1 := (Pos.mk a.variant a.board a.promoted a.pockets a.turn a.rooks a.passing a.checks a.half a.full); let z2 := (Tr.br (isPS Pz 101 [z1.av, AV.int .u8 0, AV.int .u8 6] (dU.res (N101 z1 0 6))) (Tr.br (isPS Pz 101 [z1.av, AV.int .u8 1, AV.int .u8 6] (dU.res (N101 z1 1 6))) (Tr.br (N143 z1 == N101 z1 0 6 ||| N101 z1 1 6) (Tr.br (isPS Pz 175 [AV.u64 (N101 z1 0 6)] ((dI .i64).res (N175 (N101 z1 0 6)))) (Tr.br (N175 (N101 z1 0 6) == 1) (Tr.br (isPS Pz 175 [AV.u64 (N101 z1 1 6)] ((dI .i64).res (N175 (N101 z1 1 6)))) (Tr.ret (AV.bool (N175 (N101 z1 1 6) == 1))) Tr.fail) (Tr.ret (AV.cbool false))) Tr.fail) (Tr.ret (AV.cbool false))) Tr.fail) Tr.fail); let z3 := (Tr.br (isPS Pz 174 [z1.av, AV.int .u8 6] (dU.res (N174 z1 6))) (Tr.br (isPS Pz 174 [z1.av, AV.int .u8 3] (dU.res (N174 z1 3))) (Tr.br (isPS Pz 174 [z1.av, AV.int .u8 2] (dU.res (N174 z1 2))) (Tr.br (N143 z1 &&& ~~~N174 z1 6 &&& ~~~N174 z1 3 &&& ~~~N174 z1 2 != 0#64) (Tr.ret (AV.cbool false)) (Tr.br (isPS Pz 175 [AV.u64 (N143 z1 &&& ~~~N174 z1 6)] ((dI .i64).res (N175 (N143 z1 &&& ~~~N174 z1 6)))) (Tr.br (decide (N175 (N143 z1 &&& ~~~N174 z1 6) ≤ 1)) (Tr.ret (AV.cbool true)) (Tr.br (N143 z1 &&& ~~~N174 z1 6 == N174 z1 3) (Tr.br (N143 z1 &&& ~~~N174 z1 6 &&& 6172840429334713770#64 == 0#64) (Tr.ret (AV.cbool true)) (Tr.ret (AV.bool (N143 z1 &&& ~~~N174 z1 6 &&& ~~~6172840429334713770#64 == 0#64)))) (Tr.ret (AV.cbool false)))) Tr.fail)) Tr.fail) Tr.fail) Tr.fail); let z4 := (Tr.br (a.variant == 3) (Tr.br (a.variant == 3) z2 (Tr.ret (AV.cbool false))) (Tr.br (a.variant == 5) z2 (Tr.ret (AV.cbool false)))); Tr.br (isPS Pz 143 [z1.av] (dU.res (N143 z1))) (Tr.br (a.variant == 0) (Tr.br (a.variant == 0) z3 z4) (Tr.br (a.variant == 1) z3 z4)) Tr.fail) := by kernel_rfl
theorem P137 (a : Pos) (h : ok137 a = true) : PS Pz 137 [Pos.av a] (dB.res (N137 a)) := ps_gotR hB137 (E137 a) (gr_call (P143 (Pos.mk a.variant a.board a.promoted a.pockets a.turn a.rooks a.passing a.checks a.half a.full)) (gr_br (gr_br (gr_call (P174 (Pos.mk a.variant a.board a.promoted a.pockets a.turn a.rooks a.passing a.checks a.half a.full) (6)) (gr_call (P174 (Pos.mk a.variant a.board a.promoted a.pockets a.turn a.rooks a.passing a.checks a.half a.full) (3)) (gr_call (P174 (Pos.mk a.variant a.board a.promoted a.pockets a.turn a.rooks a.passing a.checks a.half a.full) (2)) (gr_br2 (gr_ret rfl) (gr_callT (P175 (N143 (Pos.mk a.variant a.board a.promoted a.pockets a.turn a.rooks a.passing a.checks a.half a.full) &&& ~~~N174 (Pos.mk a.variant a.board a.promoted a.pockets a.turn a.rooks a.passing a.checks a.half a.full) 6) rfl) (gr_br2 (gr_ret rfl) (gr_br2 (gr_br2 (gr_ret rfl) (gr_ret rfl)) (gr_ret rfl)))))))) (gr_br (gr_br (gr_call (P101 (Pos.mk a.variant a.board a.promoted a.pockets a.turn a.rooks a.passing a.checks a.half a.full) (0) (6)) (gr_call (P101 (Pos.mk a.variant a.board a.promoted a.pockets a.turn a.rooks a.passing a.checks a.half a.full) (1) (6)) (gr_br2 (gr_callT (P175 (N101 (Pos.mk a.variant a.board a.promoted a.pockets a.turn a.rooks a.passing a.checks a.half a.full) 0 6) rfl) (gr_br2 (gr_callT (P175 (N101 (Pos.mk a.variant a.board a.promoted a.pockets a.turn a.rooks a.passing a.checks a.half a.full) 1 6) rfl) (gr_ret rfl)) (gr_ret rfl))) (gr_ret rfl)))) (gr_ret rfl)) (gr_br (gr_call (P101 (Pos.mk a.variant a.board a.promoted a.pockets a.turn a.rooks a.passing a.checks a.half a.full) (0) (6)) (gr_call (P101 (Pos.mk a.variant a.board a.promoted a.pockets a.turn a.rooks a.passing a.checks a.half a.full) (1) (6)) (gr_br2 (gr_callT (P175 (N101 (Pos.mk a.variant a.board a.promoted a.pockets a.turn a.rooks a.passing a.checks a.half a.full) 0 6) rfl) (gr_br2 (gr_callT (P175 (N101 (Pos.mk a.variant a.board a.promoted a.pockets a.turn a.rooks a.passing a.checks a.half a.full) 1 6) rfl) (gr_ret rfl)) (gr_ret rfl))) (gr_ret rfl)))) (gr_ret rfl)))) (gr_br (gr_call (P174 (Pos.mk a.variant a.board a.promoted a.pockets a.turn a.rooks a.passing a.checks a.half a.full) (6)) (gr_call (P174 (Pos.mk a.variant a.board a.promoted a.pockets a.turn a.rooks a.passing a.checks a.half a.full) (3)) (gr_call (P174 (Pos.mk a.variant a.board a.promoted a.pockets a.turn a.rooks a.passing a.checks a.half a.full) (2)) (gr_br2 (gr_ret rfl) (gr_callT (P175 (N143 (Pos.mk a.variant a.board a.promoted a.pockets a.turn a.rooks a.passing a.checks a.half a.full) &&& ~~~N174 (Pos.mk a.variant a.board a.promoted a.pockets a.turn a.rooks a.passing a.checks a.half a.full) 6) rfl) (gr_br2 (gr_ret rfl) (gr_br2 (gr_br2 (gr_ret rfl) (gr_ret rfl)) (gr_ret rfl)))))))) (gr_br (gr_br (gr_call (P101 (Pos.mk a.variant a.board a.promoted a.pockets a.turn a.rooks a.passing a.checks a.half a.full) (0) (6)) (gr_call (P101 (Pos.mk a.variant a.board a.promoted a.pockets a.turn a.rooks a.passing a.checks a.half a.full) (1) (6)) (gr_br2 (gr_callT (P175 (N101 (Pos.mk a.variant a.board a.promoted a.pockets a.turn a.rooks a.passing a.checks a.half a.full) 0 6) rfl) (gr_br2 (gr_callT (P175 (N101 (Pos.mk a.variant a.board a.promoted a.pockets a.turn a.rooks a.passing a.checks a.half a.full) 1 6) rfl) (gr_ret rfl)) (gr_ret rfl))) (gr_ret rfl)))) (gr_ret rfl)) (gr_br (gr_call (P101 (Pos.mk a.variant a.board a.promoted a.pockets a.turn a.rooks a.passing a.checks a.half a.full) (0) (6)) (gr_call (P101 (Pos.mk a.variant a.board a.promoted a.pockets a.turn a.rooks a.passing a.checks a.half a.full) (1) (6)) (gr_br2 (gr_callT (P175 (N101 (Pos.mk a.variant a.board a.promoted a.pockets a.turn a.rooks a.passing a.checks a.half a.full) 0 6) rfl) (gr_br2 (gr_callT (P175 (N101 (Pos.mk a.variant a.board a.promoted a.pockets a.turn a.rooks a.passing a.checks a.half a.full) 1 6) rfl) (gr_ret rfl)) (gr_ret rfl))) (gr_ret rfl)))) (gr_ret rfl)))))) h
noncomputable def G137 : List AV → Tr AV := g1 dPos (fun a => sure Pz 137 [Pos.av a] (dB.res (N137 a)))
theorem s137 : Sound Pz 137 G137 := sound1 (fun _ => at_sure)
noncomputable def K81 : List (Nat × List (Nat × List Nat)) := [(81, [(0, [0, 3, 4, 5, 6]), (1, [0, 1, 3, 5, 6]), (2, (0 :: 1 :: (rn 3 4 []))), (3, (0 :: 1 :: (rn 3 4 [])))])]
noncomputable def B81 : Base := baseOf Pz (fun f i => lkK f i K81) [(137, G137), (136, G136)] [] []
theorem hB81 : BOk B81 := base_ok named_z ⟨s137, s136, trivial⟩ trivial trivial
noncomputable def N81 (a : Pos) : (Int × Int) := (bif N137 (Pos.mk a.variant a.board a.promoted a.pockets a.turn a.rooks a.passing a.checks a.half a.full) then ⟨((N136 3).fst), ((N136 3).snd)⟩ else ⟨(0), (0)⟩)
noncomputable def ok81 (a : Pos) : Bool := (ok137 (Pos.mk a.variant a.board a.promoted a.pockets a.turn a.rooks a.passing a.checks a.half a.full) && true)
theorem E81 (a : Pos) : evPure B81 14 81 [Pos.av a] = Tr.br (isPS Pz 137 [(Pos.mk a.variant a.board a.promoted a.pockets a.turn a.rooks a.passing a.checks a.half a.full).av] (dB.res (N137 (Pos.mk a.variant a.board a.promoted a.pockets a.turn a.rooks a.passing a.checks a.half a.full)))) (Tr.br (N137 (Pos.mk a.variant a.board a.promoted a.pockets a.turn a.rooks a.passing a.checks a.half a.full)) (Tr.br (isPS Pz 136 [AV.int .u8 3] ((dR .u8 .u8).res (N136 3))) (Tr.ret (AV.agg [AV.int .u8 (N136 3).fst, AV.int .u8 (N136 3).snd])) Tr.fail) (Tr.ret (AV.agg [AV.cint .u8 0, AV.cint .u8 0]))) Tr.fail := by kernel_rfl
theorem P81 (a : Pos) (h : ok81 a = true) : PS Pz 81 [Pos.av a] ((dR .u8 .u8).res (N81 a)) := ps_gotR hB81 (E81 a) (gr_call (P137 (Pos.mk a.variant a.board a.promoted a.pockets a.turn a.rooks a.passing a.checks a.half a.full)) (gr_br2 (gr_callT (P136 (3) rfl) (gr_ret rfl)) (gr_ret rfl))) h
noncomputable def G81 : List AV → Tr AV := g1 dPos (fun a => sure Pz 81 [Pos.av a] ((dR .u8 .u8).res (N81 a)))
theorem s81 : Sound Pz 81 G81 := sound1 (fun _ => at_sure)
noncomputable def K82 : List (Nat × List (Nat × List Nat)) := [(82, [(0, (0 :: (rn 3 5 []))), (1, [0, 1, 3, 4, 6, 7]), (2, (0 :: 1 :: (rn 3 5 []))), (3, (0 :: 1 :: (rn 3 5 [])))])]
noncomputable def B82 : Base := baseOf Pz (fun f i => lkK f i K82) [(136, G136)] [] []
theorem hB82 : BOk B82 := base_ok named_z ⟨s136, trivial⟩ trivial trivial
noncomputable def N82 (a : Pos) : (Int × Int) := (bif decide (a.half ≥ 150) then ⟨((N136 4).fst), ((N136 4).snd)⟩ else ⟨(0), (0)⟩)
noncomputable def ok82 (a : Pos) : Bool := true
theorem E82 (a : Pos) : evPure B82 14 82 [Pos.av a] = Tr.br (decide (a.half ≥ 150)) (Tr.br (isPS Pz 136 [AV.int .u8 4] ((dR .u8 .u8).res (N136 4))) (Tr.ret (AV.agg [AV.int .u8 (N136 4).fst, AV.int .u8 (N136 4).snd])) Tr.fail) (Tr.ret (AV.agg [AV.cint .u8 0, AV.cint .u8 0])) := by kernel_rfl
theorem P82 (a : Pos) (h : ok82 a = true) : PS Pz 82 [Pos.av a] ((dR .u8 .u8).res (N82 a)) := ps_gotR hB82 (E82 a) (gr_br2 (gr_callT (P136 (4) rfl) (gr_ret rfl)) (gr_ret rfl)) h
noncomputable def G82 : List AV → Tr AV := g1 dPos (fun a => sure Pz 82 [Pos.av a] ((dR .u8 .u8).res (N82 a)))
theorem s82 : Sound Pz 82 G82 := sound1 (fun _ => at_sure)
noncomputable def K14 : List (Nat × List (Nat × List Nat)) := [(14, [(0, (0 :: (rn 3 7 (rn 13 16 [])))), (1, (0 :: (rn 3 10 (rn 14 15 [])))), (2, (0 :: 1 :: (rn 3 26 []))), (3, (0 :: (rn 3 12 (rn 17 12 [])))), (4, (0 :: (rn 3 12 (rn 18 11 [])))), (5, (0 :: 3 :: (rn 5 10 (rn 17 12 [])))), (6, (0 :: 3 :: 4 :: (rn 6 9 (rn 17 12 [])))), (7, (0 :: 3 :: 4 :: (rn 6 9 (rn 17 8 [26, 27, 28])))), (8, (0 :: 1 :: (rn 3 26 []))), (9, (0 :: (rn 3 12 (rn 17 12 [])))), (10, (0 :: 1 :: (rn 3 26 [])))])]
noncomputable def B14 : Base := baseOf Pz (fun f i => lkK f i K14) [(30, G30), (34, G34), (80, G80), (81, G81), (82, G82)] [] []
theorem hB14 : BOk B14 := base_ok named_z ⟨s30, s34, s80, s81, s82, trivial⟩ trivial trivial
noncomputable def N14 (a : Pos) : (Int × Int) := (bif decide (a.variant ≥ 9) then ⟨(0), (0)⟩ else (bif decide (a.turn > 1) then ⟨(0), (0)⟩ else (bif (N30 a).fst != 0 then ⟨((N30 a).fst), ((N30 a).snd)⟩ else (bif (N80 a).fst != 0 then ⟨((N80 a).fst), ((N80 a).snd)⟩ else (bif (N81 a).fst != 0 then ⟨((N81 a).fst), ((N81 a).snd)⟩ else (bif (N82 a).fst != 0 then ⟨((N82 a).fst), ((N82 a).snd)⟩ else ⟨(0), (0)⟩))))))
noncomputable def ok14 (a : Pos) : Bool := (bif decide (a.variant ≥ 9) then true else (bif decide (a.turn > 1) then true else (ok30 (a) && (bif (N30 a).fst != 0 then true else (ok80 (a) && (bif (N80 a).fst != 0 then true else (ok81 (a) && true)))))))
theorem E14 (a : Pos) : evPure B14 14 14 [Pos.av a] = Tr.br (decide (a.variant ≥ 9)) (Tr.ret (AV.agg [AV.cint .u8 0, AV.cint .u8 0])) (Tr.br (decide (a.turn > 1)) (Tr.ret (AV.agg [AV.cint .u8 0, AV.cint .u8 0])) (Tr.br (isPS Pz 34 [] V66) (Tr.br (isPS Pz 30 [a.av] ((dR .u8 .u8).res (N30 a))) (Tr.br ((N30 a).fst != 0) (Tr.ret (AV.agg [AV.int .u8 (N30 a).fst, AV.int .u8 (N30 a).snd])) (Tr.br (isPS Pz 80 [a.av] ((dR .u8 .u8).res (N80 a))) (Tr.br ((N80 a).fst != 0) (Tr.ret (AV.agg [AV.int .u8 (N80 a).fst, AV.int .u8 (N80 a).snd])) (Tr.br (isPS Pz 81 [a.av] ((dR .u8 .u8).res (N81 a))) (Tr.br ((N81 a).fst != 0) (Tr.ret (AV.agg [AV.int .u8 (N81 a).fst, AV.int .u8 (N81 a).snd])) (Tr.br (isPS Pz 82 [a.av] ((dR .u8 .u8).res (N82 a))) (Tr.br ((N82 a).fst != 0) (Tr.ret (AV.agg [AV.int .u8 (N82 a).fst, AV.int .u8 (N82 a).snd])) (Tr.ret (AV.agg [AV.cint .u8 0, AV.cint .u8 0]))) Tr.fail)) Tr.fail)) Tr.fail)) Tr.fail) Tr.fail)) := by kernel_rfl
theorem P14 (a : Pos) (h : ok14 a = true) : PS Pz 14 [Pos.av a] ((dR .u8 .u8).res (N14 a)) := ps_gotR hB14 (E14 a) (gr_br (gr_ret rfl) (gr_br (gr_ret rfl) (gr_callT (P34 rfl) (gr_call (P30 (a)) (gr_br (gr_ret rfl) (gr_call (P80 (a)) (gr_br (gr_ret rfl) (gr_call (P81 (a)) (gr_br2 (gr_ret rfl) (gr_callT (P82 (a) rfl) (gr_br2 (gr_ret rfl) (gr_ret rfl)))))))))))) h
noncomputable def G14 : List AV → Tr AV := g1 dPos (fun a => sure Pz 14 [Pos.av a] ((dR .u8 .u8).res (N14 a)))
theorem s14 : Sound Pz 14 G14 := sound1 (fun _ => at_sure)
end Kz
end
section
namespace Kz
open Go Go.RowKit
set_option maxRecDepth 100000
set_option maxHeartbeats 4000000
theorem t174 (p : Pos) (b : Int) : ok174 p b = true := a_true (t101 _ _ _) fun _ => a_true (t101 _ _ _) fun _ => rfl
theorem t137 (p : Pos) : ok137 p = true := by
  unfold ok137
  rw [show (Pos.mk p.variant p.board p.promoted p.pockets p.turn p.rooks p.passing p.checks p.half p.full) = p from rfl]
  repeat' (first | with_reducible rfl | with_reducible exact t143 _ | with_reducible exact t174 _ _ | with_reducible exact t101 _ _ _ | refine a_true ?_ (fun _ => ?_) | refine c_true (fun _ => ?_) (fun _ => ?_))
theorem t81 (p : Pos) : ok81 p = true := a_true (t137 _) fun _ => rfl
theorem t80 {p : Pos} (hp : PosIn p) : ok80 p = true := a_true (t11 hp) fun _ => c_true (fun _ => rfl) fun _ => c_true (fun _ => rfl) fun _ => a_true (t103 hp.v0 hp.t0) fun _ => rfl
theorem t14 {p : Pos} (hp : PosIn p) : ok14 p = true := c_true (fun _ => rfl) fun _ => c_true (fun _ => rfl) fun _ => a_true (t30 hp) fun _ => c_true (fun _ => rfl) fun _ => a_true (t80 hp) fun _ => c_true (fun _ => rfl) fun _ => a_true (t81 p) fun _ => rfl
theorem N14_there {p : Pos} (h : there p) : N14 p = bif (N30 p).1 != 0 then N30 p else bif (N80 p).1 != 0 then N80 p else bif (N81 p).1 != 0 then N81 p else bif (N82 p).1 != 0 then N82 p else (0, 0) := by
  obtain ⟨h1, h2⟩ := h
  unfold N14
  rw [show decide (p.variant ≥ 9) = false by simp; omega, show decide (p.turn > 1) = false by simp; omega]
  rfl
section
variable {p : Pos} (hp : PosIn p) {h f : Int} (hq : PosIn (cl h f p))
include hp hq
end
end Kz
end
section
namespace Kz
open Go Go.RowKit
set_option maxRecDepth 100000
set_option maxHeartbeats 1000000
def lenTab : List UInt8 := (([0, 1, 2, 2, 3, 3, 3, 3, 4, 4, 4, 4, 4, 4, 4, 4] ++ List.replicate 16 5) ++ List.replicate 32 6 ++ List.replicate 64 7) ++ List.replicate 128 8
def lenB (y : BitVec 64) : Int := wr .i64 (Int.ofNat (lenTab[(wr .u8 (Int.ofNat y.toNat)).toNat]?.getD 0).toNat)
theorem lenTab_fin : ∀ (j : Fin 8) (v : Fin 256), 2 ^ j.val ≤ v.val → v.val < 2 ^ (j.val + 1) → (lenTab[v.val]?.getD 0).toNat = j.val + 1 := by decide +kernel
theorem lenB_eq {y : BitVec 64} {j : Nat} (h0 : 2 ^ j ≤ y.toNat) (h1 : y.toNat < 2 ^ (j + 1)) (h2 : y.toNat < 256) : lenB y = j + 1 := by
  have hj : j < 8 := by
    refine Classical.byContradiction fun hn => ?_
    have := Nat.pow_le_pow_right (n := 2) (by omega) (show 8 ≤ j by omega)
    omega
  unfold lenB
  rw [show Int.ofNat y.toNat = (y.toNat : Int) from rfl, wu8 (by omega) (by omega), Int.toNat_natCast, lenTab_fin ⟨j, hj⟩ ⟨y.toNat, h2⟩ h0 h1]
  exact wi64 (by simp; omega) (by simp; omega)
theorem N226_let (a : BitVec 64) : N226 a = bif decide (a.toNat ≥ 4294967296) then (bif decide ((a >>> 32).toNat ≥ 65536) then (bif decide ((a >>> 32 >>> 16).toNat ≥ 256) then wr .i64 (wr .i64 (wr .i64 (32 + 16) + 8) + lenB (a >>> 32 >>> 16 >>> 8)) else wr .i64 (wr .i64 (32 + 16) + lenB (a >>> 32 >>> 16))) else (bif decide ((a >>> 32).toNat ≥ 256) then wr .i64 (wr .i64 (32 + 8) + lenB (a >>> 32 >>> 8)) else wr .i64 (32 + lenB (a >>> 32)))) else (bif decide (a.toNat ≥ 65536) then (bif decide ((a >>> 16).toNat ≥ 256) then wr .i64 (wr .i64 (16 + 8) + lenB (a >>> 16 >>> 8)) else wr .i64 (16 + lenB (a >>> 16))) else (bif decide (a.toNat ≥ 256) then wr .i64 (8 + lenB (a >>> 8)) else wr .i64 (0 + lenB a))) := by kernel_rfl
def Top (x : BitVec 64) (j : Nat) : Prop := 2 ^ j ≤ x.toNat ∧ x.toNat < 2 ^ (j + 1)
theorem Top.shr {x : BitVec 64} {j : Nat} (h : Top x j) (k : Nat) (hk : 2 ^ k ≤ x.toNat) : k ≤ j ∧ Top (x >>> k) (j - k) := by
  obtain ⟨h0, h1⟩ := h
  have hkj : k ≤ j := by
    refine Classical.byContradiction fun hn => ?_
    have := Nat.pow_le_pow_right (n := 2) (by omega) (show j + 1 ≤ k by omega)
    omega
  refine ⟨hkj, ?_⟩
  unfold Top
  rw [BitVec.toNat_ushiftRight, Nat.shiftRight_eq_div_pow]
  have hp := Nat.two_pow_pos k
  constructor
  · rw [Nat.le_div_iff_mul_le hp, ← Nat.pow_add, Nat.sub_add_cancel hkj]
    exact h0
  · rw [Nat.div_lt_iff_lt_mul hp, ← Nat.pow_add, show j - k + 1 + k = j + 1 by omega]
    exact h1
theorem N226_top {x : BitVec 64} {j : Nat} (h : Top x j) (hj : j < 64) : N226 x = j + 1 := by
  have w : ∀ n : Int, 0 ≤ n → n ≤ 1000 → wr .i64 n = n := fun n a b => wi64 (by omega) (by omega)
  have fin : ∀ {y : BitVec 64} {i : Nat}, Top y i → y.toNat < 256 → lenB y = i + 1 := fun h h2 => lenB_eq h.1 h.2 h2
  rw [N226_let]
  refine c_ind (P := fun n : Int => n = j + 1) (fun a1 => ?_) fun a1 => ?_
  · have a1 : 2 ^ 32 ≤ x.toNat := by simpa using a1
    obtain ⟨b1, t1⟩ := h.shr 32 a1
    have l1 : (x >>> 32).toNat < 2 ^ 32 := by rw [BitVec.toNat_ushiftRight, Nat.shiftRight_eq_div_pow]; have := x.isLt; omega
    generalize x >>> 32 = y at t1 l1 ⊢
    refine c_ind (P := fun n : Int => n = j + 1) (fun a2 => ?_) fun a2 => ?_
    · have a2 : 2 ^ 16 ≤ y.toNat := by simpa using a2
      obtain ⟨b2, t2⟩ := t1.shr 16 a2
      have l2 : (y >>> 16).toNat < 2 ^ 16 := by rw [BitVec.toNat_ushiftRight, Nat.shiftRight_eq_div_pow]; omega
      generalize y >>> 16 = z at t2 l2 ⊢
      refine c_ind (P := fun n : Int => n = j + 1) (fun a3 => ?_) fun a3 => ?_
      · have a3 : 2 ^ 8 ≤ z.toNat := by simpa using a3
        obtain ⟨b3, t3⟩ := t2.shr 8 a3
        rw [fin t3 (by rw [BitVec.toNat_ushiftRight, Nat.shiftRight_eq_div_pow]; omega)]
        rw [w (32 + 16) (by omega) (by omega), w (32 + 16 + 8) (by omega) (by omega), w _ (by omega) (by omega)]
        omega
      · have a3 : z.toNat < 256 := by simpa using a3
        rw [fin t2 a3, w (32 + 16) (by omega) (by omega), w _ (by omega) (by omega)]
        omega
    · have a2 : y.toNat < 65536 := by simpa using a2
      refine c_ind (P := fun n : Int => n = j + 1) (fun a3 => ?_) fun a3 => ?_
      · have a3 : 2 ^ 8 ≤ y.toNat := by simpa using a3
        obtain ⟨b3, t3⟩ := t1.shr 8 a3
        rw [fin t3 (by rw [BitVec.toNat_ushiftRight, Nat.shiftRight_eq_div_pow]; omega)]
        rw [w (32 + 8) (by omega) (by omega), w _ (by omega) (by omega)]
        omega
      · have a3 : y.toNat < 256 := by simpa using a3
        rw [fin t1 a3, w _ (by omega) (by omega)]
        omega
  · have a1 : x.toNat < 4294967296 := by simpa using a1
    refine c_ind (P := fun n : Int => n = j + 1) (fun a2 => ?_) fun a2 => ?_
    · have a2 : 2 ^ 16 ≤ x.toNat := by simpa using a2
      obtain ⟨b2, t2⟩ := h.shr 16 a2
      have l2 : (x >>> 16).toNat < 2 ^ 16 := by rw [BitVec.toNat_ushiftRight, Nat.shiftRight_eq_div_pow]; omega
      generalize x >>> 16 = z at t2 l2 ⊢
      refine c_ind (P := fun n : Int => n = j + 1) (fun a3 => ?_) fun a3 => ?_
      · have a3 : 2 ^ 8 ≤ z.toNat := by simpa using a3
        obtain ⟨b3, t3⟩ := t2.shr 8 a3
        rw [fin t3 (by rw [BitVec.toNat_ushiftRight, Nat.shiftRight_eq_div_pow]; omega)]
        rw [w (16 + 8) (by omega) (by omega), w _ (by omega) (by omega)]
        omega
      · have a3 : z.toNat < 256 := by simpa using a3
        rw [fin t2 a3, w _ (by omega) (by omega)]
        omega
    · have a2 : x.toNat < 65536 := by simpa using a2
      refine c_ind (P := fun n : Int => n = j + 1) (fun a3 => ?_) fun a3 => ?_
      · have a3 : 2 ^ 8 ≤ x.toNat := by simpa using a3
        obtain ⟨b3, t3⟩ := h.shr 8 a3
        rw [fin t3 (by rw [BitVec.toNat_ushiftRight, Nat.shiftRight_eq_div_pow]; omega)]
        rw [w _ (by omega) (by omega)]
        omega
      · have a3 : x.toNat < 256 := by simpa using a3
        rw [fin h a3, w _ (by omega) (by omega)]
        omega
theorem top_of {x : BitVec 64} {j : Nat} (hj : j < 64) (h1 : x.getLsbD j = true) (h2 : ∀ i, j < i → i < 64 → x.getLsbD i = false) : Top x j := by
  constructor
  · exact Nat.ge_two_pow_of_testBit h1
  · refine Nat.lt_pow_two_of_testBit _ fun i hi => ?_
    by_cases h : i < 64
    · exact h2 i (by omega) h
    · exact Nat.testBit_lt_two_pow (Nat.lt_of_lt_of_le x.isLt (Nat.pow_le_pow_right (by omega) (by omega)))
theorem N224_high {x : BitVec 64} {j : Nat} (hj : j < 64) (h1 : x.getLsbD j = true) (h2 : ∀ i, j < i → i < 64 → x.getLsbD i = false) : N224 x = j := by
  unfold N224 N225
  rw [N226_top (top_of hj h1 h2) hj, wi64 (n := 64 - ((j : Int) + 1)) (by omega) (by omega), wi64 (by omega) (by omega)]
  omega
def nxt (a d : Nat) : Option Nat :=
  let r := a / 8
  let f := a % 8
  match d with
  | 0 => if r < 7 then some (a + 8) else none
  | 1 => if r < 7 ∧ f < 7 then some (a + 9) else none
  | 2 => if f < 7 then some (a + 1) else none
  | 3 => if 0 < r ∧ f < 7 then some (a - 7) else none
  | 4 => if 0 < r then some (a - 8) else none
  | 5 => if 0 < r ∧ 0 < f then some (a - 9) else none
  | 6 => if 0 < f then some (a - 1) else none
  | _ => if r < 7 ∧ 0 < f then some (a + 7) else none
def rayL : Nat → Nat → Nat → List Nat
  | 0, _, _ => []
  | n + 1, a, d => match nxt a d with
    | some s => s :: rayL n s d
    | none => []
def ray (a d : Nat) : List Nat := rayL 8 a d
def rayBits : List Nat → BitVec 64
  | [] => 0#64
  | s :: l => 1#64 <<< s ||| rayBits l
def tails (d : Nat) : List Nat → Bool
  | [] => true
  | s :: l => decide (s < 64) && ray s d == l && tails d l
def up (d : Nat) : Bool := d == 0 || d == 1 || d == 2 || d == 7
def sortedB (d : Nat) : List Nat → Bool
  | [] => true
  | s :: l => l.all (fun t => if up d then decide (s < t) else decide (t < s)) && sortedB d l
theorem ray_fin : ∀ (a : Fin 64) (d : Fin 8), N220 a.val d.val = rayBits (ray a.val d.val) ∧ tails d.val (ray a.val d.val) = true ∧ sortedB d.val (ray a.val d.val) = true := by decide +kernel
theorem rayBits_bit : ∀ (l : List Nat) (t : Nat), t < 64 → (rayBits l).getLsbD t = decide (t ∈ l)
  | [], t, _ => by simp [rayBits]
  | s :: l, t, ht => by
    rw [rayBits, BitVec.getLsbD_or, rayBits_bit l t ht, BitVec.getLsbD_shiftLeft, BitVec.getLsbD_one]
    rcases Nat.lt_trichotomy t s with h | rfl | h
    · have : ¬ t = s := by omega
      simp [h, this]
    · simp [ht]
    · have h1 : ¬ t = s := by omega
      have h2 : ¬ t - s = 0 := by omega
      have h3 : ¬ t < s := by omega
      simp [h1, h2, h3]
def seen (occ : BitVec 64) : List Nat → List Nat
  | [] => []
  | s :: l => s :: if occ.getLsbD s then [] else seen occ l
theorem seen_all {occ : BitVec 64} : ∀ {l : List Nat}, (∀ s ∈ l, occ.getLsbD s = false) → seen occ l = l
  | [], _ => rfl
  | s :: l, h => by
    rw [seen, h s (by simp), seen_all fun t ht => h t (by simp [ht])]
    rfl
theorem seen_first {occ : BitVec 64} : ∀ {pre : List Nat} {n : Nat} {post : List Nat}, (∀ s ∈ pre, occ.getLsbD s = false) → occ.getLsbD n = true → seen occ (pre ++ n :: post) = pre ++ [n]
  | [], n, post, _, h => by
    show n :: (if occ.getLsbD n then [] else seen occ post) = [n]
    rw [h]; rfl
  | s :: pre, n, post, h1, h2 => by
    show s :: (if occ.getLsbD s then [] else seen occ (pre ++ n :: post)) = s :: (pre ++ [n])
    rw [h1 s (by simp), seen_first (fun t ht => h1 t (by simp [ht])) h2]
    rfl
theorem first_of (occ : BitVec 64) : ∀ l : List Nat, (∀ s ∈ l, occ.getLsbD s = false) ∨ ∃ pre n post, l = pre ++ n :: post ∧ (∀ s ∈ pre, occ.getLsbD s = false) ∧ occ.getLsbD n = true
  | [] => .inl fun _ h => by cases h
  | s :: l => by
    cases hs : occ.getLsbD s with
    | true => exact .inr ⟨[], s, l, rfl, (fun _ h => by cases h), hs⟩
    | false =>
      rcases first_of occ l with h | ⟨pre, n, post, rfl, h1, h2⟩
      · exact .inl fun t ht => by
          simp only [List.mem_cons] at ht
          rcases ht with rfl | ht
          · exact hs
          · exact h t ht
      · exact .inr ⟨s :: pre, n, post, rfl, fun t ht => by
          simp only [List.mem_cons] at ht
          rcases ht with rfl | ht
          · exact hs
          · exact h1 t ht, h2⟩
theorem tails_at {d : Nat} : ∀ {pre : List Nat} {n : Nat} {post : List Nat}, tails d (pre ++ n :: post) = true → ray n d = post ∧ n < 64 ∧ (∀ s ∈ pre, s < 64) ∧ ∀ s ∈ post, s < 64
  | [], n, post, h => by
    have all : ∀ l, tails d l = true → ∀ s ∈ l, s < 64 := by
      intro l
      induction l with
      | nil => intro _ s hs; cases hs
      | cons a l ih =>
        intro h s hs
        simp only [tails, Bool.and_eq_true, decide_eq_true_eq] at h
        simp only [List.mem_cons] at hs
        rcases hs with rfl | hs
        · exact h.1.1
        · exact ih h.2 s hs
    simp only [List.nil_append, tails, Bool.and_eq_true, decide_eq_true_eq, beq_iff_eq] at h
    exact ⟨h.1.2, h.1.1, (fun s hs => by cases hs), all post h.2⟩
  | a :: pre, n, post, h => by
    simp only [List.cons_append, tails, Bool.and_eq_true, decide_eq_true_eq] at h
    obtain ⟨h1, h2, h3, h4⟩ := tails_at h.2
    exact ⟨h1, h2, fun s hs => by
      simp only [List.mem_cons] at hs
      rcases hs with rfl | hs
      · exact h.1.1
      · exact h3 s hs, h4⟩
theorem sorted_at {d : Nat} : ∀ {pre : List Nat} {n : Nat} {post : List Nat}, sortedB d (pre ++ n :: post) = true → (∀ s ∈ pre, if up d then s < n else n < s) ∧ (∀ s ∈ post, if up d then n < s else s < n) ∧ (∀ s ∈ pre, s ∉ post) ∧ n ∉ post
  | [], n, post, h => by
    simp only [List.nil_append, sortedB, Bool.and_eq_true, List.all_eq_true] at h
    have h1 : ∀ s ∈ post, if up d then n < s else s < n := fun s hs => by
      have := h.1 s hs
      split <;> simp_all
    refine ⟨(fun s hs => by cases hs), h1, (fun s hs => by cases hs), fun hn => ?_⟩
    have := h1 n hn
    split at this <;> omega
  | a :: pre, n, post, h => by
    simp only [List.cons_append, sortedB, Bool.and_eq_true, List.all_eq_true] at h
    obtain ⟨h1, h2, h3, h4⟩ := sorted_at h.2
    have ha : ∀ t ∈ pre ++ n :: post, if up d then a < t else t < a := fun t ht => by
      have := h.1 t ht
      split <;> simp_all
    refine ⟨fun s hs => ?_, h2, fun s hs => ?_, h4⟩
    · simp only [List.mem_cons] at hs
      rcases hs with rfl | hs
      · have := ha n (by simp)
        exact this
      · exact h1 s hs
    · simp only [List.mem_cons] at hs
      rcases hs with rfl | hs
      · intro hp
        have := ha s (by simp [hp])
        split at this <;> omega
      · exact h3 s hs
theorem N216_seen {a d : Nat} (ha : a < 64) (hd : d < 8) (occ : BitVec 64) {t : Nat} (ht : t < 64) : (N216 a d occ).getLsbD t = decide (t ∈ seen occ (ray a d)) := by
  obtain ⟨e1, e2, e3⟩ := ray_fin ⟨a, ha⟩ ⟨d, hd⟩
  simp only at e1 e2 e3
  unfold N216
  rw [e1]
  generalize hl : ray a d = l at e2 e3 ⊢
  rcases first_of occ l with h | ⟨pre, n, post, rfl, h1, h2⟩
  · have hz : rayBits l &&& occ = 0#64 := by
      apply BitVec.eq_of_getLsbD_eq
      intro i hi
      rw [BitVec.getLsbD_and, rayBits_bit l i hi]
      by_cases hm : i ∈ l
      · rw [h i hm]; simp
      · simp [hm]
    rw [hz, show ((0#64 : BitVec 64) == 0#64) = true from rfl, cond_true, seen_all h, rayBits_bit l t ht]
  · obtain ⟨t1, t2, t3, t4⟩ := tails_at e2
    obtain ⟨s1, s2, s3, s4⟩ := sorted_at e3
    generalize hL : pre ++ n :: post = L at *
    have memL : ∀ i, i ∈ L ↔ (i ∈ pre ∨ i = n ∨ i ∈ post) := fun i => by rw [← hL]; simp
    have bit : ∀ i, i < 64 → (rayBits L &&& occ).getLsbD i = (decide (i ∈ L) && occ.getLsbD i) := fun i hi => by rw [BitVec.getLsbD_and, rayBits_bit L i hi]
    have bn : (rayBits L &&& occ).getLsbD n = true := by rw [bit n t2, h2]; simp [memL]
    have hnz : (rayBits L &&& occ == 0#64) = false := by
      rw [beq_eq_false_iff_ne]
      intro e
      rw [e] at bn
      simp at bn
    have fin : (rayBits L &&& ~~~N220 (n : Int) d).getLsbD t = decide (t ∈ seen occ L) := by
      obtain ⟨f1, _⟩ := ray_fin ⟨n, t2⟩ ⟨d, hd⟩
      simp only at f1
      rw [f1, t1, BitVec.getLsbD_and, BitVec.getLsbD_not, rayBits_bit L t ht, rayBits_bit post t ht, ← hL, seen_first h1 h2]
      simp only [ht, decide_true, Bool.true_and, List.mem_append, List.mem_cons, List.not_mem_nil, or_false]
      by_cases p1 : t ∈ pre
      · have := s3 t p1
        simp [p1, this]
      · by_cases p2 : t = n
        · subst p2; simp [s4]
        · by_cases p3 : t ∈ post <;> simp [p1, p2, p3]
    rw [hnz, cond_false]
    by_cases hu : up d = true
    · have low : N150 (rayBits L &&& occ) = n := N150_low t2 bn fun i hi => by
        rw [bit i (by omega)]
        by_cases hm : i ∈ L
        · rcases (memL i).1 hm with hm | rfl | hm
          · rw [h1 i hm]; simp
          · omega
          · have := s2 i hm
            rw [if_pos hu] at this
            omega
        · simp [hm]
      rw [low]
      have hdir : d = 0 ∨ d = 1 ∨ d = 2 ∨ d = 7 := by
        unfold up at hu
        simp only [Bool.or_eq_true, beq_iff_eq] at hu
        omega
      refine c_ind (P := fun x : BitVec 64 => x.getLsbD t = _) (fun x1 => c_ind (P := fun x : BitVec 64 => x.getLsbD t = _) (fun x2 => ?_) fun _ => fin) fun _ => fin
      have x1 : (d : Int) ≥ 3 := by simpa using x1
      have x2 : (d : Int) ≤ 6 := by simpa using x2
      omega
    · have high : N224 (rayBits L &&& occ) = n := N224_high t2 bn fun i hi h64 => by
        rw [bit i h64]
        by_cases hm : i ∈ L
        · rcases (memL i).1 hm with hm | rfl | hm
          · rw [h1 i hm]; simp
          · omega
          · have := s2 i hm
            rw [if_neg hu] at this
            omega
        · simp [hm]
      rw [high]
      have hdir : 3 ≤ d ∧ d ≤ 6 := by
        unfold up at hu
        simp only [Bool.or_eq_true, beq_iff_eq] at hu
        omega
      rw [show decide ((d : Int) ≥ 3) = true by simp; omega, show decide ((d : Int) ≤ 6) = true by simp; omega]
      exact fin
end Kz
end
section
namespace Kz
open Go Go.RowKit
set_option maxRecDepth 100000
set_option maxHeartbeats 1000000
set_option linter.unusedSectionVars false
def StA {X R : Type} (I : X → Prop) (Q : R → Prop) : Stp X R → Prop
  | .go y => I y
  | .out r => Q r
  | .bad => True
theorem itl_inv {X R : Type} {f : X → Stp X R} (I : X → Prop) (Q : R → Prop) (h : ∀ x, I x → StA I Q (f x)) : ∀ (n : Nat) (x : X) (r : R), I x → itl f n x = some r → Q r
  | 0, _, _, _, e => by cases e
  | n + 1, x, r, hx, e => by
    have := h x hx
    unfold itl at e
    cases hf : f x with
    | go y => rw [hf] at this e; exact itl_inv I Q h n y r this e
    | out r' => rw [hf] at this e; cases e; exact this
    | bad => rw [hf] at e; cases e
abbrev BdS (B : List Int) : Stp (Int × Pos) (Int × Bool × Pos) → Prop := StA (fun x => x.2.board = B) (fun r => r.2.2.board = B)
theorem bd6 {B : List Int} (c k : Int) (l : List Int) (a : Pos) (m1 : Mv) (b : Pos) (m2 : Mv) (e : Int) {x : Int × Pos} {r : Int × Bool × Pos} (hx : x.2.board = B)
    (h : lp17_6 c k l a m1 b m2 e x = some r) : r.2.2.board = B := by
  unfold lp17_6 at h
  refine itl_inv (fun x => x.2.board = B) (fun r => r.2.2.board = B) (fun x hx => ?_) many x r hx h
  show BdS B _
  refine c_ind (P := fun s => BdS B s) (fun _ => ?_) fun _ => trivial
  unfold st17_6
  repeat' (first | exact (show _ = B from hx) | refine c_ind (P := fun s => BdS B s) (fun _ => ?_) (fun _ => ?_))
theorem bd7 {B : List Int} (a : Pos) (m1 : Mv) (b : Pos) (m2 : Mv) (e : Int) {n : Nat} {x : Int × Pos} {r : Int × Bool × Pos} (hx : x.2.board = B)
    (h : itl (fun x => bif okL17_7 a m1 b m2 e x then st17_7 a m1 b m2 e x else .bad) n x = some r) : r.2.2.board = B := by
  refine itl_inv (fun x => x.2.board = B) (fun r => r.2.2.board = B) (fun x hx => ?_) n x r hx h
  show BdS B _
  refine c_ind (P := fun s => BdS B s) (fun hok => ?_) fun _ => trivial
  unfold st17_7
  unfold okL17_7 at hok
  refine c_ind (P := fun s => BdS B s) (fun hc => ?_) (fun _ => hx)
  rw [hc] at hok
  simp only [cond_true, Bool.and_eq_true] at hok
  obtain ⟨_, _, h6, _⟩ := hok
  exact bd6 _ _ _ _ _ _ _ _ (x := (0, x.2)) hx (some_getD h6)
section
variable {p : Pos} (hp : PosIn p) {m : Mv}
include hp
theorem bd8 (ht : p.turn ≤ 1) {q : Pos} (h : Kin p q) (a : Pos) (b : Mv) (c : Int) : (vF17_8 a b q p m c).board = q.board := by
  have t0 := hp.t0
  have h2 : Kin p ⟨q.variant, q.board, q.promoted, q.pockets, q.turn, List.take (scale 2 q.turn).toNat q.rooks ++ li [-1, -1] ++ List.drop ((scale 2 q.turn).toNat + 2) q.rooks, q.passing, q.checks, q.half, q.full⟩ := by
    refine h.rooks ?_ ?_
    · have hr := h.pin.rl
      have : (scale 2 q.turn).toNat ≤ 2 := by rw [h.t]; unfold scale; simp; omega
      simp [li, hr]
      omega
    · intro x hx
      simp only [List.mem_append, li] at hx
      rcases hx with (hx | hx) | hx
      · exact h.pin.r0 x (List.mem_of_mem_take hx)
      · simp at hx; omega
      · exact h.pin.r0 x (List.mem_of_mem_drop hx)
  have a1 := of_some (lp17_7_kin h a p b m c)
  have a2 := of_some (lp17_7_kin h2 a p b m c)
  have b1 : ((lp17_7 a b p m c (0, q)).getD default).2.2.board = q.board := bd7 a b p m c (n := many) (x := (0, q)) rfl (some_getD a1.1)
  have b2 : ∀ r : Int × Bool × Pos, lp17_7 a b p m c (0, ⟨q.variant, q.board, q.promoted, q.pockets, q.turn, List.take (scale 2 q.turn).toNat q.rooks ++ li [-1, -1] ++ List.drop ((scale 2 q.turn).toNat + 2) q.rooks, q.passing, q.checks, q.half, q.full⟩) = some r → r.2.2.board = q.board := fun r hr => bd7 (B := q.board) a b p m c (n := many) rfl hr
  have b2 := b2 _ (some_getD a2.1)
  unfold vF17_8
  repeat' (first | exact b1 | exact b2 | refine c_ind (P := fun x : Pos => x.board = q.board) (fun _ => ?_) (fun _ => ?_))
omit hp in
theorem bd9 (q : Pos) (a : Pos) (b : Mv) (c : Int) : (vF17_9 a b q p m c).board = q.board := by
  unfold vF17_9
  repeat' (first | exact rfl | refine c_ind (P := fun x : Pos => x.board = q.board) (fun _ => ?_) (fun _ => ?_))
omit hp in
theorem bd10 (q : Pos) (a : Pos) (b : Mv) (c : Int) : (vF17_10 a b q p m c).board = q.board := by
  unfold vF17_10
  repeat' (first | exact rfl | refine c_ind (P := fun x : Pos => x.board = q.board) (fun _ => ?_) (fun _ => ?_))
omit hp in
theorem bd11 (q : Pos) (a : Pos) (b : Mv) (c : Int) : (vF17_11 a b q p m c).board = q.board := by
  unfold vF17_11
  repeat' (first | exact rfl | refine c_ind (P := fun x : Pos => x.board = q.board) (fun _ => ?_) (fun _ => ?_))
theorem mvd_board (ht : p.turn ≤ 1) (h2 : (p.variant != 2) = true) (h3 : (p.variant != 3) = true) (hc : m.cas = false) (hd : m.drp = 0) (hpr : (m.pro != 0) = false) (hf0 : 0 ≤ m.frm) (hf1 : m.frm < 64) :
    (mvd p m).board = bif decide (N39 p m ≥ 0) then ((p.board.set (N39 p m).toNat 0).set m.frm.toNat 0).set m.to.toNat (p.board.getD m.frm.toNat 0) else (p.board.set m.frm.toNat 0).set m.to.toNat (p.board.getD m.frm.toNat 0) := by
  have hk : Kin p p := ⟨hp, rfl, rfl⟩
  have k1 : Kin p (vF17_1 p m p p m (N39 p m)) := vF1_kin hp m p m (N39 p m)
  have e2 : vF17_2 p m (vF17_1 p m p p m (N39 p m)) p m (N39 p m) = vF17_1 p m p p m (N39 p m) := by
    unfold vF17_2
    rw [k1.v, h2]; rfl
  have e4 : vF17_4 p m (vF17_1 p m p p m (N39 p m)) p m (N39 p m) = vF17_1 p m p p m (N39 p m) := by
    unfold vF17_4
    rw [k1.v, h3]; rfl
  unfold mvd
  rw [bd11, bd10, bd9, e2, e4, bd8 hp ht k1]
  unfold vF17_1
  have hd' : (m.drp != 0) = false := by rw [hd]; rfl
  rw [hc, hd', hpr]
  simp only [scale1, cond_false]
  cases decide (N39 p m ≥ 0) <;> rfl
end
def colB (t v : Int) : Bool := decide (8 * t + 1 ≤ v) && decide (v ≤ 8 * t + 6)
theorem colB_fin : ∀ (t : Fin 2) (v : Fin 256), tOf t.val 0 v.val = colB t.val v.val := by decide +kernel
theorem kind_fin : ∀ (t : Fin 2) (k : Fin 7) (v : Fin 256), 1 ≤ k.val → tOf t.val k.val v.val = ((v.val : Int) == 8 * t.val + k.val) := by decide +kernel
theorem occ_fin : ∀ (t : Fin 2) (v : Fin 256), colB t.val v.val = true → N144 v.val = true := by decide +kernel
theorem colB_eq {t v : Int} (ht : t = 0 ∨ t = 1) (h0 : 0 ≤ v) (h1 : v ≤ 255) : tOf t 0 v = colB t v := by
  obtain ⟨n, rfl⟩ := Int.eq_ofNat_of_zero_le h0
  rcases ht with rfl | rfl
  · exact colB_fin 0 ⟨n, by omega⟩
  · exact colB_fin 1 ⟨n, by omega⟩
theorem kind_eq {t k v : Int} (ht : t = 0 ∨ t = 1) (k1 : 1 ≤ k) (k6 : k ≤ 6) (h0 : 0 ≤ v) (h1 : v ≤ 255) : tOf t k v = (v == 8 * t + k) := by
  obtain ⟨n, rfl⟩ := Int.eq_ofNat_of_zero_le h0
  obtain ⟨j, rfl⟩ := Int.eq_ofNat_of_zero_le (show 0 ≤ k by omega)
  rcases ht with rfl | rfl
  · exact kind_fin 0 ⟨j, by omega⟩ ⟨n, by omega⟩ (by simp; omega)
  · exact kind_fin 1 ⟨j, by omega⟩ ⟨n, by omega⟩ (by simp; omega)
theorem occ_eq {t v : Int} (ht : t = 0 ∨ t = 1) (h0 : 0 ≤ v) (h1 : v ≤ 255) (h : colB t v = true) : N144 v = true := by
  obtain ⟨n, rfl⟩ := Int.eq_ofNat_of_zero_le h0
  rcases ht with rfl | rfl
  · exact occ_fin 0 ⟨n, by omega⟩ h
  · exact occ_fin 1 ⟨n, by omega⟩ h
def maskL (f : Int → Bool) : List Int → Nat
  | [] => 0
  | x :: l => (f x).toNat + 2 * maskL f l
theorem maskL_bit (f : Int → Bool) : ∀ (l : List Int) (i : Nat), i < l.length → (maskL f l).testBit i = f (l.getD i 0)
  | [], i, h => by simp at h
  | x :: l, 0, _ => by
    unfold maskL
    rw [Nat.testBit_zero]
    cases h : f x <;> simp [h] <;> omega
  | x :: l, i + 1, h => by
    unfold maskL
    rw [Nat.testBit_succ, show ((f x).toNat + 2 * maskL f l) / 2 = maskL f l by cases f x <;> simp <;> omega]
    simpa using maskL_bit f l i (by simpa using h)
def kz (t : Int) : List Nat := bif t == 0 then [3, 4, 5, 11, 12, 13] else [59, 60, 61, 51, 52, 53]
def farB (t : Int) (s : Nat) : Bool := bif t == 0 then decide (32 ≤ s) else decide (s < 32)
theorem far_fin : ∀ (t : Fin 2), ((kz t.val).all fun k => (List.range 64).all fun s => !farB t.val s || (!(N198 k).getLsbD s && !(N149 k).getLsbD s && !(N100 t.val k).getLsbD s)) = true := by decide +kernel
def badS (e : Int) (d : Nat) (v : Int) : Bool := v == 8 * e + 5 || (v == bif d % 2 == 0 then 8 * e + 4 else 8 * e + 3)
def lineB (bd : List Int) (e : Int) (d : Nat) : List Nat → Bool
  | [] => true
  | x :: l => bif colB e (bd.getD x 0) then !badS e d (bd.getD x 0) else lineB bd e d l
def manB (t e : Int) (b : Nat) : Nat → List Int → Bool
  | _, [] => true
  | s, v :: l => (bif v == 8 * t + 6 then s == b else bif (v == 8 * e + 1 || v == 8 * e + 2 || v == 8 * e + 6) then farB t s else true) && manB t e b (s + 1) l
def calm (q : Pos) : Bool :=
  q.variant == 0 && (q.turn == 0 || q.turn == 1) && decide (q.half < 150) && q.board.getD 0 0 == 4
  && ((kz q.turn).all fun k => (List.range 8).all fun d => lineB q.board (1 - q.turn) d (ray k d))
  && manB q.turn (1 - q.turn) (bif q.turn == 0 then 4 else 60) 0 q.board
  && q.board.getD (bif q.turn == 0 then 4 else 60) 0 == 8 * q.turn + 6
  && q.board.getD (bif q.turn == 0 then 3 else 59) 0 == 8 * q.turn + 5 && q.board.getD (bif q.turn == 0 then 5 else 61) 0 == 8 * q.turn + 3
def quiet (q : Pos) (m : Mv) : Bool :=
  m.pro == 0 && (bif q.board.getD m.frm.toNat 0 == 8 * q.turn + 6 then (kz q.turn).contains m.to.toNat else true)
  && (bif q.board.getD m.frm.toNat 0 == 8 * q.turn + 1 && m.frm.tmod 8 != m.to.tmod 8 then colB (1 - q.turn) (q.board.getD m.to.toNat 0) else true)
theorem manB_at {t e : Int} {b : Nat} : ∀ {l : List Int} {s i : Nat}, manB t e b s l = true → i < l.length →
    (l.getD i 0 = 8 * t + 6 → s + i = b) ∧ (l.getD i 0 ≠ 8 * t + 6 → (l.getD i 0 = 8 * e + 1 ∨ l.getD i 0 = 8 * e + 2 ∨ l.getD i 0 = 8 * e + 6) → farB t (s + i) = true)
  | [], _, _, _, hi => by simp at hi
  | v :: l, s, 0, h, _ => by
    unfold manB at h
    rw [Bool.and_eq_true] at h
    have h := h.1
    show (v = 8 * t + 6 → s = b) ∧ (v ≠ 8 * t + 6 → (v = 8 * e + 1 ∨ v = 8 * e + 2 ∨ v = 8 * e + 6) → farB t s = true)
    constructor
    · intro hv
      rw [beq_iff_eq.2 hv] at h
      simpa using h
    · intro hv hk
      rw [beq_eq_false_iff_ne.2 hv] at h
      have : (v == 8 * e + 1 || v == 8 * e + 2 || v == 8 * e + 6) = true := by
        simp only [Bool.or_eq_true, beq_iff_eq]; omega
      rw [this] at h
      exact h
  | v :: l, s, i + 1, h, hi => by
    unfold manB at h
    rw [Bool.and_eq_true] at h
    have := manB_at (i := i) h.2 (by simpa using hi)
    rw [show s + 1 + i = s + (i + 1) by omega] at this
    exact this
theorem line_at {bd : List Int} {e : Int} {d : Nat} : ∀ {l pre post : List Nat} {s : Nat}, lineB bd e d l = true → l = pre ++ s :: post → (∀ x ∈ pre, colB e (bd.getD x 0) = false) → colB e (bd.getD s 0) = true → badS e d (bd.getD s 0) = false
  | [], pre, post, s, _, hl, _, _ => by simp at hl
  | x :: l, [], post, s, h, hl, _, hs => by
    simp at hl
    obtain ⟨rfl, _⟩ := hl
    unfold lineB at h
    rw [hs] at h
    simpa using h
  | x :: l, y :: pre, post, s, h, hl, hp, hs => by
    simp at hl
    obtain ⟨rfl, hl⟩ := hl
    unfold lineB at h
    rw [hp x (by simp)] at h
    exact line_at h hl (fun z hz => hp z (by simp [hz])) hs
end Kz
end
section
namespace Kz
open Go Go.RowKit
set_option maxRecDepth 100000
set_option maxHeartbeats 2000000
set_option linter.unusedSectionVars false
theorem set_at {l : List Int} (i j : Nat) (v : Int) (hi : i < l.length) : (l.set i v).getD j 0 = if i = j then v else l.getD j 0 := by
  rw [List.getD_eq_getElem?_getD, List.getD_eq_getElem?_getD, List.getElem?_set]
  split
  · rename_i e; subst e; rfl
  · rfl
theorem and_bit (x : BitVec 64) {k : Nat} (hk : k < 64) : (x &&& 1#64 <<< k != 0#64) = x.getLsbD k := by
  have e : ∀ i, i < 64 → (x &&& 1#64 <<< k).getLsbD i = (x.getLsbD k && decide (i = k)) := fun i hi => by
    rw [BitVec.getLsbD_and, BitVec.getLsbD_shiftLeft, BitVec.getLsbD_one]
    by_cases h : i = k
    · subst h; simp [hi]
    · by_cases h2 : i < k
      · simp [h, h2]
      · simp [h, show ¬ (i - k = 0) by omega]
  cases hx : x.getLsbD k with
  | true =>
    rw [bne_iff_ne]
    intro h
    have := e k hk
    rw [h, hx] at this
    simp at this
  | false =>
    rw [bne_eq_false_iff_eq]
    refine BitVec.eq_of_getLsbD_eq fun i hi => ?_
    rw [e i hi, hx]
    simp
theorem seen_pre {occ : BitVec 64} {s : Nat} : ∀ {l : List Nat}, s ∈ seen occ l → ∃ pre post, l = pre ++ s :: post ∧ ∀ x ∈ pre, occ.getLsbD x = false
  | [], h => by cases h
  | x :: l, h => by
    unfold seen at h
    rcases List.mem_cons.1 h with h | h
    · subst h
      exact ⟨[], l, rfl, fun _ h => by cases h⟩
    · by_cases hb : occ.getLsbD x = true
      · rw [if_pos hb] at h; cases h
      · rw [if_neg hb] at h
        obtain ⟨pre, post, e, hp⟩ := seen_pre h
        refine ⟨x :: pre, post, by rw [e]; rfl, fun y hy => ?_⟩
        rcases List.mem_cons.1 hy with rfl | hy
        · simpa using hb
        · exact hp y hy
theorem royal0 : ∀ t : Fin 2, N61 0 t.val = true := by decide +kernel
theorem pockets0 : N142 0 = false := by decide +kernel
theorem pawn_fin : ∀ (t : Fin 2) (v : Fin 256), colB t.val v.val = true → (N89 v.val == 1) = ((v.val : Int) == 8 * t.val + 1) := by decide +kernel
theorem there_k : ∀ t : Fin 2, ((kz t.val).all fun k => N207 k && decide (k < 64)) = true := by decide +kernel
theorem home_fin : ∀ t : Fin 2, N140 t.val = 56 * t.val ∧ ((bif (t.val : Int) == 0 then 4 else 60 : Nat) = 56 * t.val + 4) ∧ ((bif (t.val : Int) == 0 then 3 else 59 : Nat) = 56 * t.val + 3) ∧ ((bif (t.val : Int) == 0 then 5 else 61 : Nat) = 56 * t.val + 5) ∧ (56 * t.val + 4) ∈ kz t.val := by decide +kernel
section
structure Calm (q : Pos) (n : Nat) : Prop where
  v : q.variant = 0
  tn : q.turn = n
  t1 : n = 0 ∨ n = 1
  h : q.half < 150
  r : q.board.getD 0 0 = 4
  line : ∀ k ∈ kz q.turn, ∀ d, d < 8 → lineB q.board (1 - q.turn) d (ray k d) = true
  men : manB q.turn (1 - q.turn) (56 * n + 4) 0 q.board = true
  king : q.board.getD (56 * n + 4) 0 = 8 * q.turn + 6
  queen : q.board.getD (56 * n + 3) 0 = 8 * q.turn + 5
  bishop : q.board.getD (56 * n + 5) 0 = 8 * q.turn + 3
theorem calm_open {q : Pos} (h : calm q = true) : ∃ t : Nat, Calm q t := by
  unfold calm at h
  simp only [Bool.and_eq_true, Bool.or_eq_true, beq_iff_eq, decide_eq_true_eq, List.all_eq_true, List.mem_range] at h
  obtain ⟨⟨⟨⟨⟨⟨⟨⟨h1, h2⟩, h3⟩, h4⟩, h5⟩, h6⟩, h7⟩, h8⟩, h9⟩ := h
  obtain ⟨t, ht, ht1⟩ : ∃ t : Nat, q.turn = t ∧ (t = 0 ∨ t = 1) := by
    rcases h2 with h | h
    · exact ⟨0, h, .inl rfl⟩
    · exact ⟨1, h, .inr rfl⟩
  obtain ⟨_, a1, a2, a3, _⟩ := home_fin ⟨t, by omega⟩
  simp only at a1 a2 a3
  rw [ht] at h6 h7 h8 h9
  rw [a1] at h6 h7
  rw [a2] at h8
  rw [a3] at h9
  rw [← ht] at h6 h7 h8 h9
  exact ⟨t, h1, ht, ht1, h3, h4, h5, h6, h7, h8, h9⟩
variable {q : Pos} (hp : PosIn q) {t : Nat} (C : Calm q t) {m : Mv} (hm : m ∈ N85 q) (hq : quiet q m = true)
include hp C
theorem q_there : there q := ⟨by have := C.tn; have := C.t1; omega, by have := C.v; omega⟩
theorem q_turn : q.turn = 0 ∨ q.turn = 1 := by have := C.tn; have := C.t1; omega
theorem bd_lo (i : Nat) : 0 ≤ q.board.getD i 0 ∧ q.board.getD i 0 ≤ 255 := getD_in hp.b0 (by omega) i
theorem oth_bit {i : Nat} (hi : i < 64) : (oth q).getLsbD i = colB (1 - q.turn) (q.board.getD i 0) := by
  unfold oth
  have := q_turn hp C
  rw [wu8 (by omega) (by omega), N101_bit _ _ _ hi]
  exact colB_eq (by omega) (bd_lo hp C i).1 (bd_lo hp C i).2
theorem own_bit {i : Nat} (hi : i < 64) : (own q).getLsbD i = colB q.turn (q.board.getD i 0) := by
  unfold own
  rw [N101_bit _ _ _ hi]
  exact colB_eq (q_turn hp C) (bd_lo hp C i).1 (bd_lo hp C i).2
include hm hq
theorem taken_to : N39 q m = -1 ∨ N39 q m = m.to := by
  obtain ⟨_, f, g, hf, hg, ef, eg, hd, hcs, _, _, hown, _⟩ := N85_mem hp.v0 hm
  have hl : (N85 q).length ≤ 1000000 := Nat.le_trans (N85_len hp.v0) (by omega)
  unfold quiet at hq
  rw [Bool.and_eq_true, Bool.and_eq_true] at hq
  obtain ⟨⟨_, _⟩, h3⟩ := hq
  unfold N39
  rw [N88_there (q_there hp C), N37_eq hl, decide_eq_true hm]
  simp only [Bool.not_true, cond_false, scale1]
  rw [eg, ofInt_nat (by omega) (by omega), show ((g : Int)).toNat = g by omega, and_bit _ hg, oth_bit hp C hg, ef]
  rw [ef, eg] at h3
  rw [show ((f : Int)).toNat = f by omega, show ((g : Int)).toNat = g by omega] at h3
  rw [show ((f : Int)).toNat = f by omega]
  cases ho : colB (1 - q.turn) (q.board.getD g 0) with
  | true =>
    rw [cond_true, wi64 (by omega) (by omega)]
    exact .inr rfl
  | false =>
    left
    rw [cond_false]
    have hw : colB q.turn (q.board.getD f 0) = true := by rw [← own_bit hp C hf]; exact hown
    have hb := bd_lo hp C f
    have e : (N89 (q.board.getD f 0) == 1) = (q.board.getD f 0 == 8 * q.turn + 1) := by
      obtain ⟨v, hv⟩ := Int.eq_ofNat_of_zero_le hb.1
      rw [hv] at hw ⊢
      rw [C.tn] at hw ⊢
      exact pawn_fin ⟨t, by have := C.t1; omega⟩ ⟨v, by omega⟩ hw
    rw [e]
    refine c_ind (P := fun x : Int => x = -1) (fun h1 => c_ind (P := fun x : Int => x = -1) (fun h2 => ?_) fun _ => rfl) fun _ => rfl
    rw [h1, h2] at h3
    simp only [Bool.and_true, cond_true] at h3
    rw [h3] at ho
    cases ho
theorem board_at : m.frm = (m.frm.toNat : Int) ∧ m.frm.toNat < 64 ∧ m.to.toNat < 64 ∧ colB q.turn (q.board.getD m.frm.toNat 0) = true ∧
    ∀ s : Nat, (mvd q m).board.getD s 0 = if m.to.toNat = s then q.board.getD m.frm.toNat 0 else if m.frm.toNat = s then 0 else q.board.getD s 0 := by
  have ht := taken_to hp C hm hq
  obtain ⟨_, f, g, hf, hg, ef, eg, hd, hcs, _, _, hown, _⟩ := N85_mem hp.v0 hm
  have hpr : (m.pro != 0) = false := by
    unfold quiet at hq
    simp only [Bool.and_eq_true, beq_iff_eq] at hq
    rw [hq.1.1]; rfl
  have h64 := hp.bl
  have htn := q_turn hp C
  have e := mvd_board hp (m := m) (by omega) (by rw [C.v]; rfl) (by rw [C.v]; rfl) hcs hd hpr (by omega) (by omega)
  refine ⟨by omega, by omega, by omega, ?_, fun s => ?_⟩
  · rw [ef, show ((f : Int)).toNat = f by omega, ← own_bit hp C hf]; exact hown
  · rw [e]
    rcases ht with h | h
    · rw [h, show decide ((-1 : Int) ≥ 0) = false from rfl, cond_false, set_at _ _ _ (by rw [List.length_set]; omega), set_at _ _ _ (by omega)]
    · rw [h, decide_eq_true (show m.to ≥ 0 by omega), cond_true, set_at _ _ _ (by rw [List.length_set, List.length_set]; omega), set_at _ _ _ (by rw [List.length_set]; omega), set_at _ _ _ (by omega)]
      by_cases hs : m.to.toNat = s
      · rw [if_pos hs, if_pos hs]
      · rw [if_neg hs, if_neg hs, if_neg hs]
end
theorem col_no {t v : Int} (ht : t = 0 ∨ t = 1) (h : colB t v = true) : colB (1 - t) v = false := by
  unfold colB at *
  simp only [Bool.and_eq_true, decide_eq_true_eq, Bool.and_eq_false_iff, decide_eq_false_iff_not] at *
  omega
theorem col_0 {t : Int} (ht : t = 0 ∨ t = 1) : colB t 0 = false := by rcases ht with rfl | rfl <;> rfl
theorem to_no {a : Pos × BitVec 64 × BitVec 64} {b : Int} {g : Nat} (h : (N177 a b).getLsbD g = true) : a.2.1.getLsbD g = false := by
  have key : ∃ X, N177 a b = X &&& ~~~a.2.1 := by
    unfold N177
    repeat' (first | exact ⟨_, rfl⟩ | refine c_ind (P := fun x : BitVec 64 => ∃ X, x = X &&& ~~~a.2.1) (fun _ => ?_) (fun _ => ?_))
  obtain ⟨X, e⟩ := key
  rw [e, BitVec.getLsbD_and, BitVec.getLsbD_not] at h
  simp only [Bool.and_eq_true, Bool.not_eq_true'] at h
  exact h.2.2
section
variable {q : Pos} (hp : PosIn q) {t : Nat} (C : Calm q t) {m : Mv} (hm : m ∈ N85 q) (hq : quiet q m = true)
include hp C hm hq
theorem their {s : Nat} (h : colB (1 - q.turn) ((mvd q m).board.getD s 0) = true) : (mvd q m).board.getD s 0 = q.board.getD s 0 := by
  obtain ⟨_, _, _, hown, hb⟩ := board_at hp C hm hq
  have tt := q_turn hp C
  rw [hb s] at h ⊢
  by_cases h1 : m.to.toNat = s
  · rw [if_pos h1, col_no tt hown] at h; cases h
  · rw [if_neg h1] at h ⊢
    by_cases h2 : m.frm.toNat = s
    · rw [if_pos h2, col_0 (by omega)] at h; cases h
    · rw [if_neg h2]
theorem clear_in {x : Nat} (hx : x < 64) (h : (N143 (mvd q m)).getLsbD x = false) : colB (1 - q.turn) (q.board.getD x 0) = false := by
  obtain ⟨_, _, _, hown, hb⟩ := board_at hp C hm hq
  have tt := q_turn hp C
  cases hc : colB (1 - q.turn) (q.board.getD x 0) with
  | false => rfl
  | true =>
    exfalso
    rw [N143_bit _ hx, hb x] at h
    by_cases h1 : m.to.toNat = x
    · rw [if_pos h1, occ_eq tt (bd_lo hp C _).1 (bd_lo hp C _).2 hown] at h; cases h
    · rw [if_neg h1] at h
      by_cases h2 : m.frm.toNat = x
      · rw [← h2, col_no tt hown] at hc; cases hc
      · rw [if_neg h2, occ_eq (t := 1 - q.turn) (by omega) (bd_lo hp C _).1 (bd_lo hp C _).2 hc] at h; cases h
theorem child_in (s : Nat) : 0 ≤ (mvd q m).board.getD s 0 ∧ (mvd q m).board.getD s 0 ≤ 255 := by
  obtain ⟨_, _, _, _, hb⟩ := board_at hp C hm hq
  rw [hb s]
  split
  · exact bd_lo hp C _
  · split
    · omega
    · exact bd_lo hp C _
omit hp C hm hq in
theorem kz_in {k : Nat} (ht : t = 0 ∨ t = 1) (h : k ∈ kz (t : Int)) : N207 k = true ∧ k < 64 := by
  have := there_k ⟨t, by omega⟩
  simp only [List.all_eq_true, Bool.and_eq_true, decide_eq_true_eq] at this
  exact this k h
theorem aim {k d : Nat} (hk : k ∈ kz q.turn) (hd : d < 8) {s : Nat} (hs : s < 64) (hb : (N216 k d (N143 (mvd q m))).getLsbD s = true) (hc : colB (1 - q.turn) ((mvd q m).board.getD s 0) = true) : badS (1 - q.turn) d ((mvd q m).board.getD s 0) = false := by
  have k64 : k < 64 := (kz_in C.t1 (by rw [← C.tn]; exact hk)).2
  rw [N216_seen k64 hd _ hs, decide_eq_true_eq] at hb
  obtain ⟨pre, post, e, hpre⟩ := seen_pre hb
  have hv := their hp C hm hq hc
  obtain ⟨_, r2, _⟩ := ray_fin ⟨k, k64⟩ ⟨d, hd⟩
  simp only at r2
  rw [e] at r2
  have p64 := (tails_at r2).2.2.1
  rw [hv] at hc ⊢
  exact line_at (C.line k hk d hd) e (fun x hx => clear_in hp C hm hq (p64 x hx) (hpre x hx)) hc
theorem aim_no {k d : Nat} (hk : k ∈ kz q.turn) (hd : d < 8) {s : Nat} (hs : s < 64) (hc : colB (1 - q.turn) ((mvd q m).board.getD s 0) = true) (hbad : badS (1 - q.turn) d ((mvd q m).board.getD s 0) = true) : (N216 k d (N143 (mvd q m))).getLsbD s = false := by
  cases h : (N216 k d (N143 (mvd q m))).getLsbD s with
  | false => rfl
  | true => rw [aim hp C hm hq hk hd hs h hc] at hbad; cases hbad
theorem unaimed {k : Nat} (hk : k ∈ kz q.turn) : N190 (mvd q m) k (1 - q.turn) = 0#64 := by
  have tt := q_turn hp C
  have hk' : k ∈ kz (t : Int) := by rw [← C.tn]; exact hk
  obtain ⟨n207, k64⟩ := kz_in C.t1 hk'
  have e : N190 (mvd q m) k (1 - q.turn) = 0 ||| N217 (wr .u8 (1 - (1 - q.turn))) k (N143 (mvd q m)) &&& N101 (mvd q m) (1 - q.turn) 1 ||| N198 k &&& N101 (mvd q m) (1 - q.turn) 2 ||| N199 k (N143 (mvd q m)) &&& N101 (mvd q m) (1 - q.turn) 3 ||| N200 k (N143 (mvd q m)) &&& N101 (mvd q m) (1 - q.turn) 4 ||| N201 k (N143 (mvd q m)) &&& N101 (mvd q m) (1 - q.turn) 5 ||| N149 k &&& N101 (mvd q m) (1 - q.turn) 6 := by
    unfold N190
    rw [n207, decide_eq_false (show ¬ (1 - q.turn > 1) by omega)]
    rfl
  refine BitVec.eq_of_getLsbD_eq fun s hs => ?_
  have cin := child_in hp C hm hq s
  have tk := fun (j : Int) (k1 : 1 ≤ j) (k6 : j ≤ 6) => (N101_bit (mvd q m) (1 - q.turn) j hs).trans (kind_eq (t := 1 - q.turn) (by omega) k1 k6 cin.1 cin.2)
  have fa := far_fin ⟨t, by have := C.t1; omega⟩
  simp only [List.all_eq_true, List.mem_range, Bool.or_eq_true, Bool.and_eq_true, Bool.not_eq_true'] at fa
  have fa := fa k hk' s hs
  have far : ((mvd q m).board.getD s 0 = 8 * (1 - q.turn) + 1 ∨ (mvd q m).board.getD s 0 = 8 * (1 - q.turn) + 2 ∨ (mvd q m).board.getD s 0 = 8 * (1 - q.turn) + 6) → ((N198 k).getLsbD s = false ∧ (N149 k).getLsbD s = false) ∧ (N100 q.turn k).getLsbD s = false := fun h => by
    have hc : colB (1 - q.turn) ((mvd q m).board.getD s 0) = true := by
      unfold colB
      simp only [Bool.and_eq_true, decide_eq_true_eq]
      omega
    rw [their hp C hm hq hc] at h
    have hl : s < q.board.length := by rw [hp.bl]; exact hs
    have := (manB_at C.men hl).2 (by omega) h
    rw [Nat.zero_add, C.tn] at this
    rcases fa with f | f
    · rw [this] at f; cases f
    · rw [C.tn]; exact f
  rw [e]
  unfold N217 N201 N199 N200
  rw [wu8 (by omega) (by omega), show (1 : Int) - (1 - q.turn) = q.turn by omega]
  simp only [BitVec.getLsbD_or, BitVec.getLsbD_and]
  rw [tk 1 (by omega) (by omega), tk 2 (by omega) (by omega), tk 3 (by omega) (by omega), tk 4 (by omega) (by omega), tk 5 (by omega) (by omega), tk 6 (by omega) (by omega)]
  have no := fun (d : Nat) (hd : d < 8) (hc : colB (1 - q.turn) ((mvd q m).board.getD s 0) = true) (hb : badS (1 - q.turn) d ((mvd q m).board.getD s 0) = true) => aim_no hp C hm hq hk hd hs hc hb
  generalize hE : 1 - q.turn = E at *
  generalize (mvd q m).board.getD s 0 = v at *
  have E01 : E = 0 ∨ E = 1 := by omega
  by_cases hc : 8 * E + 1 ≤ v ∧ v ≤ 8 * E + 6
  · have hcol : colB E v = true := by unfold colB; simp only [Bool.and_eq_true, decide_eq_true_eq]; exact hc
    have b3 : ∀ d : Nat, d % 2 = 1 → (v = 8 * E + 3 ∨ v = 8 * E + 5) → badS E d v = true := fun d hd h => by
      unfold badS
      rw [hd]
      simp
      omega
    have b4 : ∀ d : Nat, d % 2 = 0 → (v = 8 * E + 4 ∨ v = 8 * E + 5) → badS E d v = true := fun d hd h => by
      unfold badS
      rw [hd]
      simp
      omega
    rcases (show v = 8 * E + 1 ∨ v = 8 * E + 2 ∨ v = 8 * E + 3 ∨ v = 8 * E + 4 ∨ v = 8 * E + 5 ∨ v = 8 * E + 6 by omega) with h | h | h | h | h | h
    · obtain ⟨⟨_, _⟩, f3⟩ := far (by omega)
      rw [f3, h]; simp
    · obtain ⟨⟨f1, _⟩, _⟩ := far (by omega)
      rw [f1, h]; simp
    · have n1 := no 1 (by omega) hcol (b3 1 rfl (by omega))
      have n3 := no 3 (by omega) hcol (b3 3 rfl (by omega))
      have n5 := no 5 (by omega) hcol (b3 5 rfl (by omega))
      have n7 := no 7 (by omega) hcol (b3 7 rfl (by omega))
      have n1 : (N216 (↑k) 1 (N143 (mvd q m))).getLsbD s = false := n1
      have n3 : (N216 (↑k) 3 (N143 (mvd q m))).getLsbD s = false := n3
      have n5 : (N216 (↑k) 5 (N143 (mvd q m))).getLsbD s = false := n5
      have n7 : (N216 (↑k) 7 (N143 (mvd q m))).getLsbD s = false := n7
      rw [n1, n3, n5, n7, h]; simp
    · have n0 : (N216 (↑k) 0 (N143 (mvd q m))).getLsbD s = false := no 0 (by omega) hcol (b4 0 rfl (by omega))
      have n2 : (N216 (↑k) 2 (N143 (mvd q m))).getLsbD s = false := no 2 (by omega) hcol (b4 2 rfl (by omega))
      have n4 : (N216 (↑k) 4 (N143 (mvd q m))).getLsbD s = false := no 4 (by omega) hcol (b4 4 rfl (by omega))
      have n6 : (N216 (↑k) 6 (N143 (mvd q m))).getLsbD s = false := no 6 (by omega) hcol (b4 6 rfl (by omega))
      rw [n0, n2, n4, n6, h]; simp
    · have n0 : (N216 (↑k) 0 (N143 (mvd q m))).getLsbD s = false := no 0 (by omega) hcol (b4 0 rfl (by omega))
      have n2 : (N216 (↑k) 2 (N143 (mvd q m))).getLsbD s = false := no 2 (by omega) hcol (b4 2 rfl (by omega))
      have n4 : (N216 (↑k) 4 (N143 (mvd q m))).getLsbD s = false := no 4 (by omega) hcol (b4 4 rfl (by omega))
      have n6 : (N216 (↑k) 6 (N143 (mvd q m))).getLsbD s = false := no 6 (by omega) hcol (b4 6 rfl (by omega))
      have n1 : (N216 (↑k) 1 (N143 (mvd q m))).getLsbD s = false := no 1 (by omega) hcol (b3 1 rfl (by omega))
      have n3 : (N216 (↑k) 3 (N143 (mvd q m))).getLsbD s = false := no 3 (by omega) hcol (b3 3 rfl (by omega))
      have n5 : (N216 (↑k) 5 (N143 (mvd q m))).getLsbD s = false := no 5 (by omega) hcol (b3 5 rfl (by omega))
      have n7 : (N216 (↑k) 7 (N143 (mvd q m))).getLsbD s = false := no 7 (by omega) hcol (b3 7 rfl (by omega))
      rw [n0, n1, n2, n3, n4, n5, n6, n7, h]; simp
    · obtain ⟨⟨_, f2⟩, _⟩ := far (by omega)
      rw [f2, h]; simp
  · have ne : ∀ j : Int, 1 ≤ j → j ≤ 6 → (v == 8 * E + j) = false := fun j h1 h6 => beq_eq_false_iff_ne.2 (by omega)
    rw [ne 1 (by omega) (by omega), ne 2 (by omega) (by omega), ne 3 (by omega) (by omega), ne 4 (by omega) (by omega), ne 5 (by omega) (by omega), ne 6 (by omega) (by omega)]
    simp
theorem king_in : ∃ k ∈ kz q.turn, (mvd q m).board.getD k 0 = 8 * q.turn + 6 ∧ ∀ s : Nat, s < 64 → (mvd q m).board.getD s 0 = 8 * q.turn + 6 → s = k := by
  obtain ⟨_, f64, t64, hown, hb⟩ := board_at hp C hm hq
  have tt := q_turn hp C
  have hbl := hp.bl
  have man := fun (s : Nat) (hs : s < 64) => (manB_at (i := s) C.men (by rw [hbl]; exact hs)).1
  by_cases hf : m.frm.toNat = 56 * t + 4
  · have hk := C.king
    rw [← hf] at hk
    refine ⟨m.to.toNat, ?_, ?_, fun s hs h => ?_⟩
    · unfold quiet at hq
      rw [Bool.and_eq_true, Bool.and_eq_true] at hq
      have h2 := hq.1.2
      rw [hk, beq_self_eq_true, cond_true] at h2
      simpa using h2
    · rw [hb, if_pos rfl, hk]
    · rw [hb s] at h
      by_cases h1 : m.to.toNat = s
      · exact h1.symm
      · rw [if_neg h1] at h
        by_cases h2 : m.frm.toNat = s
        · rw [if_pos h2] at h; omega
        · rw [if_neg h2] at h
          have := man s hs h
          omega
  · have hto : m.to.toNat ≠ 56 * t + 4 := fun e => by
      obtain ⟨_, f, g, hf, hg, ef, eg, _, _, _, _, _, h177⟩ := N85_mem hp.v0 hm
      have := to_no h177
      rw [own_bit hp C hg] at this
      rw [show g = 56 * t + 4 by omega, C.king] at this
      unfold colB at this
      simp only [Bool.and_eq_false_iff, decide_eq_false_iff_not] at this
      omega
    refine ⟨56 * t + 4, ?_, ?_, fun s hs h => ?_⟩
    · have := (home_fin ⟨t, by have := C.t1; omega⟩).2.2.2.2
      rw [C.tn]; exact this
    · rw [hb, if_neg hto, if_neg hf, C.king]
    · rw [hb s] at h
      by_cases h1 : m.to.toNat = s
      · rw [if_pos h1] at h
        have := man _ f64 h
        omega
      · rw [if_neg h1] at h
        by_cases h2 : m.frm.toNat = s
        · rw [if_pos h2] at h; omega
        · rw [if_neg h2] at h
          have := man s hs h
          omega
theorem king_there : ∃ k : Nat, k ∈ kz q.turn ∧ N99 (mvd q m) q.turn 6 = k := by
  obtain ⟨k, hk, h1, h2⟩ := king_in hp C hm hq
  have tt := q_turn hp C
  have k64 := (kz_in C.t1 (by rw [← C.tn]; exact hk)).2
  have ke := fun s => kind_eq (t := q.turn) (k := 6) tt (by omega) (by omega) (child_in hp C hm hq s).1 (child_in hp C hm hq s).2
  refine ⟨k, hk, ?_⟩
  rcases N99_cases (mvd q m) q.turn 6 with ⟨_, h⟩ | ⟨j, hj, e, h, _⟩
  · have := h k k64
    rw [ke, h1] at this
    simp at this
  · rw [ke] at h
    rw [e, h2 j hj (by simpa using h)]
end
end Kz
end
section
namespace Kz
open Go Go.RowKit Go.Proofs
set_option maxRecDepth 100000
set_option maxHeartbeats 4000000
noncomputable def K16 : List (Nat × List (Nat × List Nat)) := [(16, [(0, (0 :: (rn 2 5 []))), (1, (0 :: 1 :: (rn 3 4 [])))])]
noncomputable def B16 : Base := baseOf Pz (fun f i => lkK f i K16) [(14, G14)] [] []
theorem hB16 : BOk B16 := base_ok named_z ⟨s14, trivial⟩ trivial trivial
noncomputable def N16 (a : Pos) : Bool := ((N14 a).fst != 0)
noncomputable def ok16 (a : Pos) : Bool := (ok14 (a) && true)
theorem E16 (a : Pos) : evPure B16 14 16 [Pos.av a] = Tr.br (isPS Pz 14 [a.av] ((dR .u8 .u8).res (N14 a))) (Tr.ret (AV.bool ((N14 a).fst != 0))) Tr.fail := by kernel_rfl
theorem P16 (a : Pos) (h : ok16 a = true) : PS Pz 16 [Pos.av a] (dB.res (N16 a)) := ps_gotR hB16 (E16 a) (gr_call (P14 (a)) (gr_ret rfl)) h
noncomputable def G16 : List AV → Tr AV := g1 dPos (fun a => sure Pz 16 [Pos.av a] (dB.res (N16 a)))
theorem s16 : Sound Pz 16 G16 := sound1 (fun _ => at_sure)
end Kz
end
section
namespace Kz
open Go Go.RowKit
set_option maxRecDepth 100000
set_option maxHeartbeats 2000000
set_option linter.unusedSectionVars false
theorem bit_no (x : BitVec 64) {k : Nat} (hk : k < 64) : (x >>> k &&& 1#64 == 0#64) = !x.getLsbD k := by
  cases h : x.getLsbD k with
  | true =>
    rw [Bool.not_true, beq_eq_false_iff_ne]
    intro e
    have := congrArg (fun y => y.getLsbD 0) e
    simp [h] at this
  | false =>
    rw [Bool.not_false, beq_iff_eq]
    refine BitVec.eq_of_getLsbD_eq fun i hi => ?_
    by_cases h0 : i = 0
    · subst h0; simp [h]
    · simp [h0]
theorem set_ne {l : List Int} {i j : Nat} {v : Int} (h : i ≠ j) : (l.set i v).getD j 0 = l.getD j 0 := by
  rw [List.getD_eq_getElem?_getD, List.getD_eq_getElem?_getD, List.getElem?_set_ne h]
theorem scan1 {p1 : Pos} {p2 : List Int} {p3 : Pos} {p4 p5 : BitVec 64} {p6 p7 x : Int} {hi bad lo : Nat} (hx : x = lo) (hm : (if p7 > p6 then p7 else p6) = (hi : Int)) (h1 : lo ≤ bad) (h2 : bad ≤ hi) (h3 : hi < 64) (hb : p4.getLsbD bad = true) : isL ((lp141_1 p1 p2 p3 p4 p5 p6 p7 x).getD default) = true := by
  refine (of_some (lp_many (Q := fun r => isL r = true) (I := fun x : Int => ∃ n : Nat, x = n ∧ n ≤ bad) (μ := fun x => (64 - x).toNat) ?_ x ⟨lo, hx, h1⟩ (by omega))).2
  rintro x ⟨n, rfl, hn⟩
  refine ⟨rfl, ?_⟩
  unfold st141_1
  rw [hm, decide_eq_true (show (n : Int) ≤ hi by omega), ofInt_nat (by omega) (by omega), show ((n : Int)).toNat = n by omega, bit_no _ (by omega), Bool.not_not, wi64 (by omega) (by omega)]
  cases hx : p4.getLsbD n with
  | true => exact (rfl : isL (.inl _) = true)
  | false =>
    have : n ≠ bad := fun e => by rw [e, hb] at hx; cases hx
    exact ⟨⟨n + 1, by simp, by omega⟩, by dsimp only; omega⟩
section
variable {q : Pos} (hp : PosIn q) {t : Nat} (C : Calm q t)
omit hp C in
theorem rook_at {b c : Int} (h : (N179 q b c).2 = true) : q.board.getD (scale 1 (N179 q b c).1).toNat 0 = wr .u8 (wr .u8 (8 * q.turn) + 4) := by
  revert h
  unfold N179
  refine c_ind (P := fun x : Int × Bool => x.2 = true → q.board.getD (scale 1 x.1).toNat 0 = _) (fun _ h => by cases h) fun _ => c_ind (P := fun x : Int × Bool => x.2 = true → q.board.getD (scale 1 x.1).toNat 0 = _) (fun _ h => by cases h) fun _ => c_ind (P := fun x : Int × Bool => x.2 = true → q.board.getD (scale 1 x.1).toNat 0 = _) (fun h1 => ?_) fun _ h => by cases h
  have h1 := beq_iff_eq.1 h1
  exact c_ind (P := fun x : Int × Bool => x.2 = true → q.board.getD (scale 1 x.1).toNat 0 = _) (fun _ _ => h1) fun _ _ => h1
include hp C
theorem blocked {b c : Int} (hr : (N179 q b c).2 = true) {k j : Nat} (hb : b = k) (hj : j < 64) (hk : k ≠ j) (h8 : q.board.getD j 0 ≠ 8 * q.turn + 4) (ho : N144 (q.board.getD j 0) = true) (v : Int) (pr : BitVec 64) (po ro ch : List Int) (tn pa ha fu : Int) :
    (N143 (Pos.mk v ((q.board.set (scale 1 b).toNat 0).set (scale 1 (N179 q b c).1).toNat 0) pr po tn ro pa ch ha fu)).getLsbD j = true := by
  have tt := q_turn hp C
  have h := rook_at hr
  rw [wu8 (n := 8 * q.turn) (by omega) (by omega), wu8 (by omega) (by omega)] at h
  rw [N143_bit _ hj]
  show N144 (((q.board.set (scale 1 b).toNat 0).set (scale 1 (N179 q b c).1).toNat 0).getD j 0) = true
  rw [set_ne (fun e => h8 (by rw [← e]; exact h)), set_ne (by rw [scale1]; omega)]
  exact ho
theorem home_is : N140 q.turn = 56 * t := by
  have := (home_fin ⟨t, by have := C.t1; omega⟩).1
  rw [C.tn]; exact this
theorem way_shut (c : Int) (hc : c = 0 ∨ c = 1) : (N141 q ((56 * t + 4 : Nat) : Int) c).2 = false := by
  have tt := q_turn hp C
  have t1 := C.t1
  have tn := C.tn
  have hh := home_is hp C
  have oc : ∀ j : Nat, colB q.turn (q.board.getD j 0) = true → N144 (q.board.getD j 0) = true := fun j h => occ_eq tt (bd_lo hp C j).1 (bd_lo hp C j).2 h
  have col : ∀ i : Int, 1 ≤ i → i ≤ 6 → colB q.turn (8 * q.turn + i) = true := fun i a b => by
    unfold colB
    simp only [Bool.and_eq_true, decide_eq_true_eq]
    omega
  rcases hc with rfl | rfl
  · unfold N141
    refine c_ind (P := fun x : Mv × Bool => x.2 = false) (fun _ => rfl) fun hr => c_ind (P := fun x : Mv × Bool => x.2 = false) (fun _ => rfl) fun hno => ?_
    have hr : (N179 q ((56 * t + 4 : Nat) : Int) 0).2 = true := by simpa using hr
    exfalso
    have w : wr .i64 (N140 q.turn + (List.take 2 (List.drop ((0 : Int).toNat * 2) (li [6, 5, 2, 3]))).getD 0 0) = ((56 * t + 6 : Nat) : Int) := by
      rw [hh]
      show wr .i64 ((56 * (t : Int)) + 6) = _
      rw [wi64 (by omega) (by omega)]
      omega
    rw [w] at hno
    have := hno.symm.trans (scan1 (lo := 56 * t + 4) (bad := 56 * t + 5) (hi := 56 * t + 6) (by rw [if_neg (by omega)]) (by rw [if_pos (by omega)]) (by omega) (by omega) (by omega) (blocked hp C hr rfl (by omega) (by omega) (by rw [C.bishop]; omega) (oc _ (by rw [C.bishop]; exact col 3 (by omega) (by omega))) _ _ _ _ _ _ _ _ _))
    cases this
  · unfold N141
    refine c_ind (P := fun x : Mv × Bool => x.2 = false) (fun _ => rfl) fun hr => c_ind (P := fun x : Mv × Bool => x.2 = false) (fun _ => rfl) fun hno => ?_
    have hr : (N179 q ((56 * t + 4 : Nat) : Int) 1).2 = true := by simpa using hr
    exfalso
    have w : wr .i64 (N140 q.turn + (List.take 2 (List.drop ((1 : Int).toNat * 2) (li [6, 5, 2, 3]))).getD 0 0) = ((56 * t + 2 : Nat) : Int) := by
      rw [hh]
      show wr .i64 ((56 * (t : Int)) + 2) = _
      rw [wi64 (by omega) (by omega)]
      omega
    rw [w] at hno
    have := hno.symm.trans (scan1 (lo := 56 * t + 2) (bad := 56 * t + 3) (hi := 56 * t + 4) (by rw [if_pos (by omega)]) (by rw [if_neg (by omega)]) (by omega) (by omega) (by omega) (blocked hp C hr rfl (by omega) (by omega) (by rw [C.queen]; omega) (oc _ (by rw [C.queen]; exact col 5 (by omega) (by omega))) _ _ _ _ _ _ _ _ _))
    cases this
theorem find_king : N99 q q.turn 6 = ((56 * t + 4 : Nat) : Int) := by
  have tt := q_turn hp C
  have t1 := C.t1
  have ke := fun s => kind_eq (t := q.turn) (k := 6) tt (by omega) (by omega) (bd_lo hp C s).1 (bd_lo hp C s).2
  rcases N99_cases q q.turn 6 with ⟨_, h⟩ | ⟨j, hj, e, h, _⟩
  · have := h (56 * t + 4) (by omega)
    rw [ke, C.king] at this
    simp at this
  · rw [ke] at h
    have := (manB_at (i := j) C.men (by rw [hp.bl]; exact hj)).1 (by simpa using h)
    rw [e]
    omega
theorem castle_no : N86 q = [] := by
  have h0 := way_shut hp C 0 (.inl rfl)
  have h1 := way_shut hp C 1 (.inr rfl)
  unfold N86
  rw [find_king hp C, h0, h1]
  refine c_ind (P := fun x : List Mv => x = []) (fun _ => rfl) fun _ => c_ind (P := fun x : List Mv => x = []) (fun _ => rfl) fun _ => c_ind (P := fun x : List Mv => x = []) (fun _ => rfl) fun _ => c_ind (P := fun x : List Mv => x = []) (fun _ => rfl) fun _ => rfl
theorem drop_no : N87 q = [] := by
  unfold N87
  rw [C.v, pockets0]
  exact c_ind (P := fun x : List Mv => x = []) (fun _ => rfl) fun _ => rfl
theorem all_pseudo : N38 q = N85 q := by
  rw [N38_eq, castle_no hp C, drop_no hp C, List.append_nil, List.append_nil]
theorem royal_q : N61 q.variant q.turn = true := by
  rw [C.v, C.tn]
  exact royal0 ⟨t, by have := C.t1; omega⟩
theorem well {m : Mv} (hm : m ∈ N85 q) (hq : quiet q m = true) : N17 q m = (mvd q m, true) ∧ N68 q m = true := by
  have tt := q_turn hp C
  have h38 : m ∈ N38 q := by rw [all_pseudo hp C]; exact hm
  have e17 : N17 q m = (mvd q m, true) := by
    have hl := N38_len hp
    rw [N17_mvd, N37_eq (by omega), decide_eq_true h38]
    rfl
  obtain ⟨_, c2, c3, c4⟩ := (move_all hp m).2.1 h38
  rw [e17] at c2 c3 c4
  simp only at c2 c3 c4
  obtain ⟨k, hk, ek⟩ := king_there hp C hm hq
  have un := unaimed hp C hm hq hk
  have e62 : N62 (mvd q m) q.turn = true := by
    unfold N62
    rw [ek]
    simp
  have e155 : N155 (mvd q m) q.turn = ((k : Int), true) := by
    unfold N155
    rw [c3, royal_q hp C, ek, C.v, decide_eq_false (show ¬ ((k : Int) < 0) by omega)]
    rfl
  have e103 : N103 (mvd q m) q.turn = false := by
    unfold N103
    rw [e155]
    simp only [cond_true]
    unfold N156
    rw [wu8 (by omega) (by omega), un]
    rfl
  refine ⟨e17, ?_⟩
  unfold N68
  rw [e17]
  simp only
  rw [royal_q hp C, e62, e103, C.v]
  rfl
theorem all_well (h : (N85 q).all (quiet q) = true) : N11 q = N85 q := by
  have h := List.all_eq_true.1 h
  have e30 : (N30 q).1 = 0 := by
    by_cases h0 : (N30 q).1 = 0
    · exact h0
    · have := (N30_win hp).2.2 h0
      have := C.v
      omega
  have e62 : N62 q q.turn = true := by
    unfold N62
    rw [find_king hp C]
    simp
    omega
  have ew : wouldL q = N85 q := by
    unfold wouldL
    rw [C.v, all_pseudo hp C]
    show List.filter (N68 q) (N85 q) = N85 q
    exact List.filter_eq_self.2 fun m hm => (well hp C hm (h m hm)).2
  rw [N11_eq hp, e30, N31_eq hp, royal_q hp C, e62, ew]
  rfl
theorem goes_on (h : (N85 q).all (quiet q) = true) (hn : N85 q ≠ []) : N16 q = false := by
  have e11 := all_well hp C h
  have e30 : (N30 q).1 = 0 := by
    by_cases h0 : (N30 q).1 = 0
    · exact h0
    · have := (N30_win hp).2.2 h0
      have := C.v
      omega
  have hl : 0 < (N85 q).length := List.length_pos_iff.2 hn
  have e80 : (N80 q).1 = 0 := by
    unfold N80
    rw [e11, decide_eq_true (show Int.ofNat (N85 q).length > 0 from Int.ofNat_lt.2 hl)]
    rfl
  have e137 : N137 q = false := by
    unfold N137
    rw [show (Pos.mk q.variant q.board q.promoted q.pockets q.turn q.rooks q.passing q.checks q.half q.full) = q from rfl, C.v]
    have b : (N143 q &&& ~~~N174 q 6 &&& ~~~N174 q 3 &&& ~~~N174 q 2 != 0#64) = true := by
      rw [bne_iff_ne]
      intro e
      have := congrArg (fun y => y.getLsbD 0) e
      unfold N174 at this
      rw [show (Pos.mk q.variant q.board q.promoted q.pockets q.turn q.rooks q.passing q.checks q.half q.full) = q from rfl] at this
      simp only [BitVec.getLsbD_and, BitVec.getLsbD_not, BitVec.getLsbD_or] at this
      rw [N143_bit _ (by omega), N101_bit _ _ _ (by omega), N101_bit _ _ _ (by omega), N101_bit _ _ _ (by omega), N101_bit _ _ _ (by omega), N101_bit _ _ _ (by omega), N101_bit _ _ _ (by omega), C.r] at this
      exact absurd this (by decide +kernel)
    rw [b]
    rfl
  have e81 : (N81 q).1 = 0 := by
    unfold N81
    rw [show (Pos.mk q.variant q.board q.promoted q.pockets q.turn q.rooks q.passing q.checks q.half q.full) = q from rfl, e137]
    rfl
  have e82 : (N82 q).1 = 0 := by
    unfold N82
    rw [decide_eq_false (show ¬ (q.half ≥ 150) by have := C.h; omega)]
    rfl
  unfold N16
  rw [N14_there (q_there hp C), e30, e80, e81, e82]
  rfl
end
abbrev LX := Int × Int × List Int
abbrev LQ := Int × Bool × Int × List Int
abbrev bump (K : Nat) (g : List Int) : List Int := g.set K (wr .i64 (g.getD K 0 + 1))
noncomputable def okF (K : Nat) (q : Pos) (l : List Mv) (x : LX) : Bool := bif decide (x.1 < Int.ofNat l.length) then (decide (0 ≤ x.1) && decide (x.1 < Int.ofNat l.length) && (ok17 q (l.getD x.1.toNat default) && (bif decide ((bump K x.2.2).getD K 0 > 1000000) then false else true))) else true
noncomputable def stF (K : Nat) (l : List Mv) (x : LX) : Stp LX LQ := bif decide (x.1 < Int.ofNat l.length) then (bif decide ((bump K x.2.2).getD K 0 > 1000000) then Stp.bad else (Stp.go (wr .i64 (x.1 + 1), wr .i64 (x.2.1 + 1), bump K x.2.2))) else (Stp.out (x.1, decide (x.1 < Int.ofNat l.length), x.2.1, x.2.2))
noncomputable def okN (K : Nat) (q : Pos) (l : List Mv) (inner : Mv → LX → Option LQ) (x : LX) : Bool := bif decide (x.1 < Int.ofNat l.length) then (decide (0 ≤ x.1) && decide (x.1 < Int.ofNat l.length) && (ok17 q (l.getD x.1.toNat default) && (bif decide ((bump K x.2.2).getD K 0 > 1000000) then false else (ok16 (N17 q (l.getD x.1.toNat default)).fst && (bif N16 (N17 q (l.getD x.1.toNat default)).fst then true else (ok11 (N17 q (l.getD x.1.toNat default)).fst && ((inner (l.getD x.1.toNat default) (0, x.2.1, bump K x.2.2)).isSome && true))))))) else true
noncomputable def stN (K : Nat) (q : Pos) (l : List Mv) (inner : Mv → LX → Option LQ) (x : LX) : Stp LX LQ := bif decide (x.1 < Int.ofNat l.length) then (bif decide ((bump K x.2.2).getD K 0 > 1000000) then Stp.bad else (bif N16 (N17 q (l.getD x.1.toNat default)).fst then (Stp.go (wr .i64 (x.1 + 1), x.2.1, bump K x.2.2)) else (Stp.go (wr .i64 (x.1 + 1), ((inner (l.getD x.1.toNat default) (0, x.2.1, bump K x.2.2)).getD default).2.2.1, ((inner (l.getD x.1.toNat default) (0, x.2.1, bump K x.2.2)).getD default).2.2.2)))) else (Stp.out (x.1, decide (x.1 < Int.ofNat l.length), x.2.1, x.2.2))
def Iv (K D : Nat) (n : Int) (g : List Int) : Prop := g.length = 65 ∧ g.getD D 0 = n ∧ ∀ j, K < j → j < D → 0 ≤ g.getD j 0 ∧ g.getD j 0 ≤ n
def Spc (K D : Nat) (f : Int × List Int → Option LQ) (S : Nat) : Prop := ∀ (n : Int) (g : List Int), 0 ≤ n → n + S ≤ 1000000 → Iv K D n g →
  ∃ r, f (n, g) = some r ∧ r.2.2.1 = n + S ∧ Iv K D r.2.2.1 r.2.2.2 ∧ ∀ j, j ≤ K → r.2.2.2.getD j 0 = g.getD j 0
theorem set_eq {g : List Int} {K : Nat} {v : Int} (h : K < g.length) : (g.set K v).getD K 0 = v := by
  rw [List.getD_eq_getElem?_getD, List.getElem?_set_self h]; rfl
theorem leaf_spc {K D : Nat} (hKD : D = K + 1) (hK : D < 65) {q : Pos} (hq : PosIn q) (l : List Mv) : Spc K D (fun y => itl (fun x => bif okF D q l x then stF D l x else .bad) many (0, y.1, y.2)) l.length := by
  intro n g h0 hS hi
  obtain ⟨hl, hD, hj⟩ := hi
  refine lp_many (Q := fun r : LQ => r.2.2.1 = n + (l.length : Int) ∧ Iv K D r.2.2.1 r.2.2.2 ∧ ∀ j, j ≤ K → r.2.2.2.getD j 0 = g.getD j 0) (I := fun x : LX => ∃ i : Nat, i ≤ l.length ∧ x.1 = i ∧ x.2.1 = n + i ∧ x.2.2.length = 65 ∧ x.2.2.getD D 0 = n + i ∧ ∀ j, j ≠ D → x.2.2.getD j 0 = g.getD j 0) (μ := fun x : LX => (l.length - x.1).toNat) ?_ _ ⟨0, by omega, rfl, by simp, hl, by simpa using hD, fun _ _ => rfl⟩ (by simp; omega)
  rintro ⟨x1, x2, g'⟩ ⟨i, hi, e0, e1, e2, e3, e4⟩
  simp only at e0 e1 e2 e3 e4
  subst e0 e1
  have hb : (bump D g').getD D 0 = n + i + 1 := by
    rw [bump, set_eq (by omega), e3, wi64 (by omega) (by omega)]
  unfold okF stF
  dsimp only
  rw [hb]
  by_cases hc : i < l.length
  · rw [decide_eq_true (show (i : Int) < Int.ofNat l.length from Int.ofNat_lt.2 hc), decide_eq_true (show (0 : Int) ≤ i by omega), decide_eq_false (show ¬ (n + i + 1 > 1000000) by omega), (move_all hq _).1, wi64 (n := (i : Int) + 1) (by omega) (by omega), wi64 (n := n + i + 1) (by omega) (by omega)]
    refine ⟨rfl, ⟨i + 1, by omega, by simp, by simp; omega, by rw [← e2]; simp [bump], by rw [hb]; simp; omega, fun j hj => by rw [bump, set_ne (fun e => hj e.symm)]; exact e4 j hj⟩, by dsimp only; omega⟩
  · rw [decide_eq_false (show ¬ ((i : Int) < Int.ofNat l.length) from fun h => hc (Int.ofNat_lt.1 h))]
    have : i = l.length := by omega
    subst this
    refine ⟨rfl, rfl, ⟨e2, e3, fun j h1 h2 => by omega⟩, fun j hj => e4 j (by omega)⟩
theorem sum_step (s : Mv → Nat) : ∀ (l : List Mv) (i : Nat), i < l.length → ((l.take (i + 1)).map s).sum = ((l.take i).map s).sum + s (l.getD i default) ∧ ((l.take (i + 1)).map s).sum ≤ (l.map s).sum ∧ l.getD i default ∈ l
  | [], i, h => by simp at h
  | x :: l, 0, _ => by simp
  | x :: l, i + 1, h => by
    obtain ⟨h1, h2, h3⟩ := sum_step s l i (by simpa using h)
    refine ⟨?_, ?_, ?_⟩
    · simp only [List.take_succ_cons, List.map_cons, List.sum_cons, List.getD_cons_succ]
      omega
    · simp only [List.take_succ_cons, List.map_cons, List.sum_cons]
      omega
    · simp only [List.getD_cons_succ]
      exact List.mem_cons_of_mem _ h3
theorem node_spc {K D : Nat} (hK : K + 1 < D) (hD : D < 65) {q : Pos} (hq : PosIn q) {l : List Mv} (hl1 : l.length ≤ 1000000) (inner : Mv → LX → Option LQ) (s : Mv → Nat)
    (H : ∀ m ∈ l, PosIn (N17 q m).1 ∧ N16 (N17 q m).1 = false ∧ 1 ≤ s m ∧ Spc (K + 1) D (fun y => inner m (0, y.1, y.2)) (s m)) :
    Spc K D (fun y => itl (fun x => bif okN (K + 1) q l inner x then stN (K + 1) q l inner x else .bad) many (0, y.1, y.2)) (l.map s).sum := by
  intro n g h0 hS hi
  refine lp_many (Q := fun r : LQ => r.2.2.1 = n + ((l.map s).sum : Nat) ∧ Iv K D r.2.2.1 r.2.2.2 ∧ ∀ j, j ≤ K → r.2.2.2.getD j 0 = g.getD j 0) (I := fun x : LX => ∃ i : Nat, i ≤ l.length ∧ x.1 = i ∧ x.2.1 = n + (((l.take i).map s).sum : Nat) ∧ Iv K D x.2.1 x.2.2 ∧ ∀ j, j ≤ K → x.2.2.getD j 0 = g.getD j 0) (μ := fun x : LX => (l.length - x.1).toNat) ?_ _ ⟨0, by omega, rfl, by simp, hi, fun _ _ => rfl⟩ (by simp; omega)
  rintro ⟨x1, x2, g'⟩ ⟨i, hil, e0, e1, e2, e4⟩
  simp only at e0 e1 e2 e4
  subst e0
  unfold okN stN
  dsimp only
  by_cases hc : i < l.length
  · obtain ⟨s1, s2, s3⟩ := sum_step s l i hc
    obtain ⟨c1, c2, c3, c4⟩ := H _ s3
    generalize hm : l.getD i default = m at *
    obtain ⟨i1, i2, i3⟩ := e2
    obtain ⟨b0, b1⟩ := i3 (K + 1) (by omega) hK
    have hb : (bump (K + 1) g').getD (K + 1) 0 = g'.getD (K + 1) 0 + 1 := by
      rw [bump, set_eq (by omega), wi64 (by omega) (by omega)]
    have hne : ∀ j, j ≠ K + 1 → (bump (K + 1) g').getD j 0 = g'.getD j 0 := fun j hj => by rw [bump, set_ne (fun e => hj e.symm)]
    obtain ⟨r, er, r1, ⟨j1, j2, j3⟩, r3⟩ := c4 x2 (bump (K + 1) g') (by omega) (by omega) ⟨by rw [← i1]; simp [bump], by rw [hne D (by omega)]; exact i2, fun j h1 h2 => by rw [hne j (by omega)]; exact i3 j (by omega) h2⟩
    have er : inner m (0, x2, bump (K + 1) g') = some r := er
    have hk := r3 (K + 1) (by omega)
    have t16 : ok16 (N17 q m).1 = true := a_true (t14 c1) fun _ => rfl
    rw [show ((i : Int)).toNat = i by omega, hm, decide_eq_true (show (i : Int) < Int.ofNat l.length from Int.ofNat_lt.2 hc), decide_eq_true (show (0 : Int) ≤ i by omega), decide_eq_false (show ¬ ((bump (K + 1) g').getD (K + 1) 0 > 1000000) by omega), (move_all hq _).1, wi64 (n := (i : Int) + 1) (by omega) (by omega), c2, t16, t11 c1, er]
    refine ⟨rfl, ⟨i + 1, by omega, by simp, ?_, ⟨j1, j2, fun j h1 h2 => ?_⟩, fun j hj => ?_⟩, by dsimp only; omega⟩
    · show r.2.2.1 = _
      omega
    · show 0 ≤ r.2.2.2.getD j 0 ∧ r.2.2.2.getD j 0 ≤ r.2.2.1
      by_cases hj : j = K + 1
      · subst hj
        omega
      · exact j3 j (by omega) h2
    · show r.2.2.2.getD j 0 = _
      rw [r3 j (by omega), hne j (by omega)]
      exact e4 j hj
  · rw [decide_eq_false (show ¬ ((i : Int) < Int.ofNat l.length) from fun h => hc (Int.ofNat_lt.1 h))]
    have : i = l.length := by omega
    subst this
    rw [List.take_length] at e1
    exact ⟨rfl, e1, e2, e4⟩
noncomputable def ownM (q : Pos) : BitVec 64 := BitVec.ofNat 64 (maskL (colB q.turn) q.board)
noncomputable def othM (q : Pos) : BitVec 64 := BitVec.ofNat 64 (maskL (colB (1 - q.turn)) q.board)
noncomputable def pl (q : Pos) : List Mv := (sqs (ownM q) 64).flatMap (froms q (q, ownM q, othM q))
noncomputable def okq (q : Pos) : Bool := calm q && (pl q).all (quiet q) && !(pl q).isEmpty
noncomputable def nodeB (q : Pos) (k n : Nat) : Bool := okq q && (pl q).all (fun m => okq (mvd q m)) && ((pl q).length == k) && (((pl q).map fun m => (pl (mvd q m)).length).sum == n)
theorem mask_is {q : Pos} (hp : PosIn q) (f : Int → Bool) (x : BitVec 64) (h : ∀ i, i < 64 → x.getLsbD i = f (q.board.getD i 0)) : x = BitVec.ofNat 64 (maskL f q.board) :=
  BitVec.eq_of_getLsbD_eq fun i hi => by
    rw [h i hi, BitVec.getLsbD_ofNat, maskL_bit _ _ _ (by rw [hp.bl]; exact hi), decide_eq_true hi, Bool.true_and]
theorem pl_eq {q : Pos} (hp : PosIn q) {t : Nat} (C : Calm q t) : N85 q = pl q := by
  rw [N85_there hp.v0 (q_there hp C), mask_is hp (colB q.turn) (own q) fun i hi => own_bit hp C hi, mask_is hp (colB (1 - q.turn)) (oth q) fun i hi => oth_bit hp C hi]
  rfl
theorem okq_law {q : Pos} (hp : PosIn q) (h : okq q = true) : N11 q = pl q ∧ N16 q = false ∧ 1 ≤ (pl q).length ∧ ∀ m ∈ pl q, (N17 q m).1 = mvd q m ∧ PosIn (mvd q m) := by
  unfold okq at h
  simp only [Bool.and_eq_true, Bool.not_eq_true'] at h
  obtain ⟨⟨h1, h2⟩, h3⟩ := h
  obtain ⟨t, C⟩ := calm_open h1
  have e := pl_eq hp C
  rw [← e] at h2 h3 ⊢
  have hne : N85 q ≠ [] := fun e => by rw [e] at h3; cases h3
  refine ⟨all_well hp C h2, goes_on hp C h2 hne, List.length_pos_iff.2 hne, fun m hm => ?_⟩
  have w := (well hp C hm (List.all_eq_true.1 h2 m hm)).1
  have k := ((move_all hp m).2.1 (by rw [all_pseudo hp C]; exact hm)).2.1
  rw [w] at k ⊢
  exact ⟨rfl, k⟩
theorem node_law {q : Pos} {k n : Nat} (hp : PosIn q) (h : nodeB q k n = true) : okq q = true ∧ (∀ m ∈ pl q, okq (mvd q m) = true) ∧ (pl q).length = k ∧ ((pl q).map fun m => (pl (mvd q m)).length).sum = n := by
  unfold nodeB at h
  simp only [Bool.and_eq_true, beq_iff_eq, List.all_eq_true] at h
  exact ⟨h.1.1.1, h.1.1.2, h.1.2, h.2⟩
end Kz
end
section
namespace Kz
open Go Go.RowKit Go.Proofs
set_option maxRecDepth 100000
set_option maxHeartbeats 4000000
noncomputable def K9220 : List (Nat × List (Nat × List Nat)) := [(22, [(0, (0 :: (rn 3 19 []))), (1, (0 :: (rn 3 10 (rn 14 8 [])))), (2, (rn 0 4 (rn 6 16 []))), (3, (0 :: 3 :: 4 :: 5 :: (rn 7 15 []))), (4, (rn 0 6 (rn 8 14 []))), (5, (rn 0 6 (rn 8 11 [20, 21]))), (6, (rn 0 4 (rn 6 16 []))), (7, (rn 0 4 (rn 6 16 [])))]), (53, [(0, (0 :: 4 :: 5 :: (rn 7 6 []))), (1, (0 :: 4 :: 5 :: (rn 7 6 []))), (2, (rn 0 6 (rn 7 6 []))), (3, (rn 0 6 (rn 7 6 [])))]), (54, [(0, [0, 2, 3, 4]), (1, [0, 1, 2, 3, 4])]), (111, [(0, (1 :: 2 :: 3 :: (rn 5 5 []))), (1, (0 :: 1 :: 2 :: (rn 4 6 []))), (2, (rn 0 10 [])), (3, [1, 2, 3, 5, 7, 8, 9]), (4, (rn 0 10 [])), (5, [1, 2, 3, 5, 6, 7]), (6, (rn 1 9 [])), (7, (rn 0 10 []))]), (112, [(0, (1 :: 5 :: (rn 7 55 []))), (1, (1 :: 5 :: (rn 7 55 []))), (2, (1 :: 5 :: (rn 7 23 (rn 31 31 [])))), (3, (1 :: 5 :: (rn 7 55 []))), (4, (1 :: 5 :: (rn 7 28 (rn 36 26 [])))), (5, (rn 0 62 [])), (6, (1 :: 5 :: (rn 7 33 (rn 41 21 [])))), (7, (1 :: 5 :: (rn 7 35 (rn 45 17 [])))), (8, (1 :: 5 :: (rn 7 35 (rn 46 16 [])))), (9, (1 :: 5 :: (rn 7 4 (rn 12 30 (rn 45 17 []))))), (10, (1 :: 5 :: (rn 7 5 (rn 13 29 (rn 45 17 []))))), (11, (1 :: 5 :: (rn 7 35 (rn 45 17 [])))), (12, (1 :: 5 :: (rn 7 35 (rn 45 17 []))))])]
noncomputable def B9220 : Base := baseOf Pz (fun f i => lkK f i K9220) [(11, G11), (16, G16), (17, G17)] [] []
theorem hB9220 : BOk B9220 := base_ok named_z ⟨s11, s16, s17, trivial⟩ trivial trivial
noncomputable def N9220 (a : Pos) : (Int × Int) := ((wr .i64 (0 + 1)), (0))
noncomputable def ok9220 (a : Pos) : Bool := (!(decide ((li z65).getD 0 0 > 1000000)) && true)
theorem E9220 (a : Pos) : evPure B9220 14 22 [Pos.av a, .cint .i64 0] = Tr.br (decide ((li z65).getD 0 0 > 1000000)) Tr.fail (Tr.ret (AV.tuple [AV.cint .i64 (wr .i64 (0 + 1)), AV.cint .i64 0])) := by kernel_rfl
theorem P9220 (a : Pos) (h : ok9220 a = true) : PS Pz 22 [Pos.av a, .cint .i64 0] ((d2 (dI .i64) (dI .i64)).res (N9220 a)) := ps_gotR hB9220 (E9220 a) (gr_nguard (gr_ret rfl)) h
noncomputable def K9221 : List (Nat × List (Nat × List Nat)) := [(22, [(0, (0 :: (rn 3 19 []))), (1, (0 :: (rn 3 10 (rn 14 8 [])))), (2, (rn 0 4 (rn 6 16 []))), (3, (0 :: 3 :: 4 :: 5 :: (rn 7 15 []))), (4, (rn 0 6 (rn 8 14 []))), (5, (rn 0 6 (rn 8 11 [20, 21]))), (6, (rn 0 4 (rn 6 16 []))), (7, (rn 0 4 (rn 6 16 [])))]), (53, [(0, (0 :: 4 :: 5 :: (rn 7 6 []))), (1, (0 :: 4 :: 5 :: (rn 7 6 []))), (2, (rn 0 6 (rn 7 6 []))), (3, (rn 0 6 (rn 7 6 [])))]), (54, [(0, [0, 2, 3, 4]), (1, [0, 1, 2, 3, 4])]), (111, [(0, (1 :: 2 :: 3 :: (rn 5 5 []))), (1, (0 :: 1 :: 2 :: (rn 4 6 []))), (2, (rn 0 10 [])), (3, [1, 2, 3, 5, 7, 8, 9]), (4, (rn 0 10 [])), (5, [1, 2, 3, 5, 6, 7]), (6, (rn 1 9 [])), (7, (rn 0 10 []))]), (112, [(0, (1 :: 5 :: (rn 7 55 []))), (1, (1 :: 5 :: (rn 7 55 []))), (2, (1 :: 5 :: (rn 7 23 (rn 31 31 [])))), (3, (1 :: 5 :: (rn 7 55 []))), (4, (1 :: 5 :: (rn 7 28 (rn 36 26 [])))), (5, (rn 0 62 [])), (6, (1 :: 5 :: (rn 7 33 (rn 41 21 [])))), (7, (1 :: 5 :: (rn 7 35 (rn 45 17 [])))), (8, (1 :: 5 :: (rn 7 35 (rn 46 16 [])))), (9, (1 :: 5 :: (rn 7 4 (rn 12 30 (rn 45 17 []))))), (10, (1 :: 5 :: (rn 7 5 (rn 13 29 (rn 45 17 []))))), (11, (1 :: 5 :: (rn 7 35 (rn 45 17 [])))), (12, (1 :: 5 :: (rn 7 35 (rn 45 17 []))))])]
noncomputable def B9221_1 : Base := baseOf Pz (fun f i => lkK f i K9221) [(11, G11), (16, G16), (17, G17)] [] []
theorem hB9221_1 : BOk B9221_1 := base_ok named_z ⟨s11, s16, s17, trivial⟩ trivial trivial
noncomputable def S9221_1 (p1 : (List Mv)) (p2 : Int) (p3 : Pos) (p4 : Pos) (p5 : Pos) (x : (Int × Int × (List Int))) : St := St.mk (AV.ptr 4 0 :: AV.any :: AV.cint .i64 0 :: AV.cint .i64 1 :: AV.func 54 [] [AV.ptr 1 0] :: AV.any :: AV.ptr 5 0 :: (an 35 (AV.list ET.mv p1 Tk.fresh :: AV.int .i64 p2 :: AV.int .i64 x.fst :: (an 17 [])))) (Hp.mk [(pc p3 []), [AV.int .i64 x.snd.fst], (pc p4 []), [AV.int .i64 0], [AV.ints .i64 65 x.snd.snd], (pc p5 [])] [] [] 0 0 0)
noncomputable def O9221_1 (p1 : (List Mv)) (p2 : Int) (p3 : Pos) (p4 : Pos) (p5 : Pos) : (Int × Bool × Int × (List Int)) → Out := fun y => .exit 0 (St.mk (AV.ptr 4 0 :: AV.any :: AV.cint .i64 0 :: AV.cint .i64 1 :: AV.func 54 [] [AV.ptr 1 0] :: AV.any :: AV.ptr 5 0 :: (an 35 (AV.list ET.mv p1 Tk.fresh :: AV.int .i64 p2 :: AV.int .i64 y.fst :: AV.bool y.snd.fst :: (an 16 [])))) (Hp.mk [(pc p3 []), [AV.int .i64 y.snd.snd.fst], (pc p4 []), [AV.int .i64 0], [AV.ints .i64 65 y.snd.snd.snd], (pc p5 [])] [] [] 0 0 0))
noncomputable def st9221_1 (p1 : (List Mv)) (p2 : Int) (p3 : Pos) (p4 : Pos) (p5 : Pos) (x : (Int × Int × (List Int))) : Stp (Int × Int × (List Int)) ((Int × Bool × Int × (List Int))) := (bif decide (x.fst < p2) then (bif decide ((x.snd.snd.set 1 (wr .i64 (x.snd.snd.getD 1 0 + 1))).getD 1 0 > 1000000) then Stp.bad else (Stp.go (wr .i64 (x.fst + 1), wr .i64 (x.snd.fst + 1), x.snd.snd.set 1 (wr .i64 (x.snd.snd.getD 1 0 + 1))))) else (Stp.out ((x.fst, decide (x.fst < p2), x.snd.fst, x.snd.snd))))
noncomputable def okL9221_1 (p1 : (List Mv)) (p2 : Int) (p3 : Pos) (p4 : Pos) (p5 : Pos) (x : (Int × Int × (List Int))) : Bool := (bif decide (x.fst < p2) then (decide (0 ≤ x.fst) && decide (x.fst < Int.ofNat p1.length) && (ok17 (p5) (p1.getD x.fst.toNat default) && (bif decide ((x.snd.snd.set 1 (wr .i64 (x.snd.snd.getD 1 0 + 1))).getD 1 0 > 1000000) then false else true))) else true)
noncomputable def lp9221_1 (p1 : (List Mv)) (p2 : Int) (p3 : Pos) (p4 : Pos) (p5 : Pos) (x : (Int × Int × (List Int))) : Option ((Int × Bool × Int × (List Int))) := itl (fun x => bif okL9221_1 p1 p2 p3 p4 p5 x then st9221_1 p1 p2 p3 p4 p5 x else .bad) many x
theorem E9221_1 (p1 : (List Mv)) (p2 : Int) (p3 : Pos) (p4 : Pos) (p5 : Pos) (x : (Int × Int × (List Int))) : evCd B9221_1 12 112 (bodL Pz 112 8) (S9221_1 p1 p2 p3 p4 p5 x) = (let z1 := (p1.getD x.fst.toNat default); let z2 := (x.snd.snd.set 1 (wr .i64 (x.snd.snd.getD 1 0 + 1))); Tr.br (decide (x.fst < p2)) (Tr.br (decide (0 ≤ x.fst) && decide (x.fst < Int.ofNat p1.length)) (Tr.br (isPS Pz 17 [p5.av, Mv.av z1] ((d2 dPos dB).res (N17 p5 z1))) (Tr.br (decide (z2.getD 1 0 > 1000000)) (Tr.ret (Out.panic (AV.iface 123 (AV.agg [])) (Hp.mk [(pc p3 []), [AV.int .i64 x.snd.fst], (pc p4 []), [AV.int .i64 0], [AV.ints .i64 65 z2], (pc p5 []), [AV.int .i8 z1.frm, AV.int .i8 z1.to, AV.int .u8 z1.pro, AV.int .u8 z1.drp, AV.bool z1.cas], (pc (N17 p5 z1).fst []), (pc (N17 p5 z1).fst [])] [] [] 0 0 0))) (Tr.ret (Out.norm (St.mk (AV.ptr 4 0 :: AV.any :: AV.cint .i64 0 :: AV.cint .i64 1 :: AV.func 54 [] [AV.ptr 1 0] :: AV.any :: AV.ptr 5 0 :: (an 35 (AV.list ET.mv p1 Tk.fresh :: AV.int .i64 p2 :: AV.int .i64 (wr .i64 (x.fst + 1)) :: (an 17 [])))) (Hp.mk [(pc p3 []), [AV.int .i64 (wr .i64 (x.snd.fst + 1))], (pc p4 []), [AV.int .i64 0], [AV.ints .i64 65 z2], (pc p5 [])] [] [] 0 0 0))))) Tr.fail) Tr.fail) (Tr.ret (Out.exit 0 (St.mk (AV.ptr 4 0 :: AV.any :: AV.cint .i64 0 :: AV.cint .i64 1 :: AV.func 54 [] [AV.ptr 1 0] :: AV.any :: AV.ptr 5 0 :: (an 35 (AV.list ET.mv p1 Tk.fresh :: AV.int .i64 p2 :: AV.int .i64 x.fst :: AV.bool (decide (x.fst < p2)) :: (an 16 [])))) (Hp.mk [(pc p3 []), [AV.int .i64 x.snd.fst], (pc p4 []), [AV.int .i64 0], [AV.ints .i64 65 x.snd.snd], (pc p5 [])] [] [] 0 0 0))))) := by kernel_rfl
theorem L9221_1 (p1 : (List Mv)) (p2 : Int) (p3 : Pos) (p4 : Pos) (p5 : Pos) (x : (Int × Int × (List Int))) (r : (Int × Bool × Int × (List Int))) (h : lp9221_1 p1 p2 p3 p4 p5 x = some r) : LSpec Pz (bodL Pz 112 8) (S9221_1 p1 p2 p3 p4 p5 x) (O9221_1 p1 p2 p3 p4 p5 r) := LSpec.itd (S := S9221_1 p1 p2 p3 p4 p5) (O := O9221_1 p1 p2 p3 p4 p5) (ok := okL9221_1 p1 p2 p3 p4 p5) (st := st9221_1 p1 p2 p3 p4 p5) hB9221_1 (fun x => gr_eq (E9221_1 p1 p2 p3 p4 p5 x) (gr_br (gr_guard (gr_call (P17 (p5) (p1.getD x.fst.toNat default)) (gr_br (gr_no) (gr_ret (rl_go (wk_nrm (ks := (1 :: 5 :: (rn 7 35 (rn 45 17 [])))) (gs := [42, 43, 44]) (b := true) rfl (by kernel_rfl))))))) (gr_ret (rl_exit rfl (wk_nrm (ks := (1 :: 5 :: (rn 7 35 (rn 46 16 [])))) (gs := []) (b := false) rfl (by kernel_rfl)))))) many x r h
noncomputable def F9221_1 : Code → St → Tr Out := sureL Pz (fun s => O9221_1 (tL (ET.mv) (tT s 42)) (tI (tT s 43)) (Kz.Pos.mk (tI (tH s 0 0)) (tN (tH s 0 1)) (tU (tH s 0 2)) (tN (tH s 0 3)) (tI (tH s 0 4)) (tN (tH s 0 5)) (tI (tH s 0 6)) (tN (tH s 0 7)) (tI (tH s 0 8)) (tI (tH s 0 9))) (Kz.Pos.mk (tI (tH s 2 0)) (tN (tH s 2 1)) (tU (tH s 2 2)) (tN (tH s 2 3)) (tI (tH s 2 4)) (tN (tH s 2 5)) (tI (tH s 2 6)) (tN (tH s 2 7)) (tI (tH s 2 8)) (tI (tH s 2 9))) (Kz.Pos.mk (tI (tH s 5 0)) (tN (tH s 5 1)) (tU (tH s 5 2)) (tN (tH s 5 3)) (tI (tH s 5 4)) (tN (tH s 5 5)) (tI (tH s 5 6)) (tN (tH s 5 7)) (tI (tH s 5 8)) (tI (tH s 5 9))) ((lp9221_1 (tL (ET.mv) (tT s 42)) (tI (tT s 43)) (Kz.Pos.mk (tI (tH s 0 0)) (tN (tH s 0 1)) (tU (tH s 0 2)) (tN (tH s 0 3)) (tI (tH s 0 4)) (tN (tH s 0 5)) (tI (tH s 0 6)) (tN (tH s 0 7)) (tI (tH s 0 8)) (tI (tH s 0 9))) (Kz.Pos.mk (tI (tH s 2 0)) (tN (tH s 2 1)) (tU (tH s 2 2)) (tN (tH s 2 3)) (tI (tH s 2 4)) (tN (tH s 2 5)) (tI (tH s 2 6)) (tN (tH s 2 7)) (tI (tH s 2 8)) (tI (tH s 2 9))) (Kz.Pos.mk (tI (tH s 5 0)) (tN (tH s 5 1)) (tU (tH s 5 2)) (tN (tH s 5 3)) (tI (tH s 5 4)) (tN (tH s 5 5)) (tI (tH s 5 6)) (tN (tH s 5 7)) (tI (tH s 5 8)) (tI (tH s 5 9))) ((tI (tT s 44)), (tI (tH s 1 0)), (tN (tH s 4 0)))).getD default))
theorem sF9221_1 : ∀ b, LSound Pz b (F9221_1 b) := sureL_sound
noncomputable def B9221 : Base := baseOf Pz (fun f i => lkK f i K9221) [(11, G11), (16, G16), (17, G17)] [(112, 8, F9221_1)] []
theorem hB9221 : BOk B9221 := base_ok named_z ⟨s11, s16, s17, trivial⟩ ⟨sF9221_1, trivial⟩ trivial
noncomputable def N9221 (a : Pos) : (Int × Int) := (bif N16 a then ((0), (0)) else ((((lp9221_1 (N11 a) (Int.ofNat (N11 a).length) a a a (0, 0, li z65)).getD default).snd.snd.fst), (0)))
noncomputable def ok9221 (a : Pos) : Bool := (!(decide ((li z65).getD 0 0 > 1000000)) && (ok16 (a) && (bif N16 a then true else (ok11 (a) && ((lp9221_1 (N11 a) (Int.ofNat (N11 a).length) a a a (0, 0, li z65)).isSome && true)))))
theorem E9221 (a : Pos) : evPure B9221 14 22 [Pos.av a, .cint .i64 1] = (let z1 := z65; let z2 := ((lp9221_1 (N11 a) (Int.ofNat (N11 a).length) a a a (0, 0, li z1)).getD default); Tr.br (decide ((li z1).getD 0 0 > 1000000)) Tr.fail (Tr.br (isPS Pz 16 [a.av] (dB.res (N16 a))) (Tr.br (N16 a) (Tr.ret (AV.tuple [AV.cint .i64 0, AV.cint .i64 0])) (Tr.br (isPS Pz 11 [a.av] ((dL ET.mv).res (N11 a))) (Tr.br (isLS Pz (bodL Pz 112 8) (St.mk (AV.ptr 4 0 :: AV.any :: AV.cint .i64 0 :: AV.cint .i64 1 :: AV.func 54 [] [AV.ptr 1 0] :: AV.any :: AV.ptr 5 0 :: (an 35 (AV.list ET.mv (N11 a) Tk.fresh :: AV.int .i64 (Int.ofNat (N11 a).length) :: AV.cint .i64 0 :: (an 17 [])))) (Hp.mk [(pc a []), [AV.cint .i64 0], (pc a []), [AV.cint .i64 0], [AV.ints .i64 65 (li z1)], (pc a [])] [] [] 0 0 0)) (O9221_1 (N11 a) (Int.ofNat (N11 a).length) a a a z2)) (Tr.ret (AV.tuple [AV.int .i64 z2.snd.snd.fst, AV.cint .i64 0])) Tr.fail) Tr.fail)) Tr.fail)) := by kernel_rfl
theorem P9221 (a : Pos) (h : ok9221 a = true) : PS Pz 22 [Pos.av a, .cint .i64 1] ((d2 (dI .i64) (dI .i64)).res (N9221 a)) := ps_gotR hB9221 (E9221 a) (gr_nguard (gr_call (P16 (a)) (gr_br (gr_ret rfl) (gr_call (P11 (a)) (gr_loop (fun h => L9221_1 (N11 a) (Int.ofNat (N11 a).length) (a) (a) (a) ((0, 0, li z65)) _ (some_getD h)) (wk_nrm (ks := (1 :: 5 :: (rn 7 35 (rn 45 17 [])))) (gs := [42, 43, 44]) (b := true) rfl (by kernel_rfl)) (gr_ret rfl)))))) h
noncomputable def K9222 : List (Nat × List (Nat × List Nat)) := [(22, [(0, (0 :: (rn 3 19 []))), (1, (0 :: (rn 3 10 (rn 14 8 [])))), (2, (rn 0 4 (rn 6 16 []))), (3, (0 :: 3 :: 4 :: 5 :: (rn 7 15 []))), (4, (rn 0 6 (rn 8 14 []))), (5, (rn 0 6 (rn 8 11 [20, 21]))), (6, (rn 0 4 (rn 6 16 []))), (7, (rn 0 4 (rn 6 16 [])))]), (53, [(0, (0 :: 4 :: 5 :: (rn 7 6 []))), (1, (0 :: 4 :: 5 :: (rn 7 6 []))), (2, (rn 0 6 (rn 7 6 []))), (3, (rn 0 6 (rn 7 6 [])))]), (54, [(0, [0, 2, 3, 4]), (1, [0, 1, 2, 3, 4])]), (111, [(0, (1 :: 2 :: 3 :: (rn 5 5 []))), (1, (0 :: 1 :: 2 :: (rn 4 6 []))), (2, (rn 0 10 [])), (3, [1, 2, 3, 5, 7, 8, 9]), (4, (rn 0 10 [])), (5, [1, 2, 3, 5, 6, 7]), (6, (rn 1 9 [])), (7, (rn 0 10 []))]), (112, [(0, (1 :: 5 :: (rn 7 55 []))), (1, (1 :: 5 :: (rn 7 55 []))), (2, (1 :: 5 :: (rn 7 23 (rn 31 31 [])))), (3, (1 :: 5 :: (rn 7 55 []))), (4, (1 :: 5 :: (rn 7 28 (rn 36 26 [])))), (5, (rn 0 62 [])), (6, (1 :: 5 :: (rn 7 33 (rn 41 21 [])))), (7, (1 :: 5 :: (rn 7 35 (rn 45 17 [])))), (8, (1 :: 5 :: (rn 7 35 (rn 46 16 [])))), (9, (1 :: 5 :: (rn 7 4 (rn 12 30 (rn 45 17 []))))), (10, (1 :: 5 :: (rn 7 5 (rn 13 29 (rn 45 17 []))))), (11, (1 :: 5 :: (rn 7 35 (rn 45 17 [])))), (12, (1 :: 5 :: (rn 7 35 (rn 45 17 []))))])]
noncomputable def B9222_2 : Base := baseOf Pz (fun f i => lkK f i K9222) [(11, G11), (16, G16), (17, G17)] [] []
theorem hB9222_2 : BOk B9222_2 := base_ok named_z ⟨s11, s16, s17, trivial⟩ trivial trivial
noncomputable def S9222_2 (p1 : (List Mv)) (p2 : Int) (p3 : Pos) (p4 : Pos) (p5 : Pos) (p6 : Mv) (p7 : Pos) (p8 : Pos) (x : (Int × Int × (List Int))) : St := St.mk (AV.ptr 4 0 :: AV.any :: AV.cint .i64 (wr .i64 (0 + 1)) :: AV.cint .i64 2 :: AV.func 54 [] [AV.ptr 1 0] :: AV.any :: AV.ptr 8 0 :: (an 35 (AV.list ET.mv p1 Tk.fresh :: AV.int .i64 p2 :: AV.int .i64 x.fst :: (an 17 [])))) (Hp.mk [(pc p3 []), [AV.int .i64 x.snd.fst], (pc p4 []), [AV.int .i64 0], [AV.ints .i64 65 x.snd.snd], (pc p5 []), [AV.int .i8 p6.frm, AV.int .i8 p6.to, AV.int .u8 p6.pro, AV.int .u8 p6.drp, AV.bool p6.cas], (pc p7 []), (pc p8 [])] [] [] 0 0 0)
noncomputable def O9222_2 (p1 : (List Mv)) (p2 : Int) (p3 : Pos) (p4 : Pos) (p5 : Pos) (p6 : Mv) (p7 : Pos) (p8 : Pos) : (Int × Bool × Int × (List Int)) → Out := fun y => .exit 0 (St.mk (AV.ptr 4 0 :: AV.any :: AV.cint .i64 (wr .i64 (0 + 1)) :: AV.cint .i64 2 :: AV.func 54 [] [AV.ptr 1 0] :: AV.any :: AV.ptr 8 0 :: (an 35 (AV.list ET.mv p1 Tk.fresh :: AV.int .i64 p2 :: AV.int .i64 y.fst :: AV.bool y.snd.fst :: (an 16 [])))) (Hp.mk [(pc p3 []), [AV.int .i64 y.snd.snd.fst], (pc p4 []), [AV.int .i64 0], [AV.ints .i64 65 y.snd.snd.snd], (pc p5 []), [AV.int .i8 p6.frm, AV.int .i8 p6.to, AV.int .u8 p6.pro, AV.int .u8 p6.drp, AV.bool p6.cas], (pc p7 []), (pc p8 [])] [] [] 0 0 0))
noncomputable def st9222_2 (p1 : (List Mv)) (p2 : Int) (p3 : Pos) (p4 : Pos) (p5 : Pos) (p6 : Mv) (p7 : Pos) (p8 : Pos) (x : (Int × Int × (List Int))) : Stp (Int × Int × (List Int)) ((Int × Bool × Int × (List Int))) := (bif decide (x.fst < p2) then (bif decide ((x.snd.snd.set 2 (wr .i64 (x.snd.snd.getD 2 0 + 1))).getD 2 0 > 1000000) then Stp.bad else (Stp.go (wr .i64 (x.fst + 1), wr .i64 (x.snd.fst + 1), x.snd.snd.set 2 (wr .i64 (x.snd.snd.getD 2 0 + 1))))) else (Stp.out ((x.fst, decide (x.fst < p2), x.snd.fst, x.snd.snd))))
noncomputable def okL9222_2 (p1 : (List Mv)) (p2 : Int) (p3 : Pos) (p4 : Pos) (p5 : Pos) (p6 : Mv) (p7 : Pos) (p8 : Pos) (x : (Int × Int × (List Int))) : Bool := (bif decide (x.fst < p2) then (decide (0 ≤ x.fst) && decide (x.fst < Int.ofNat p1.length) && (ok17 (p8) (p1.getD x.fst.toNat default) && (bif decide ((x.snd.snd.set 2 (wr .i64 (x.snd.snd.getD 2 0 + 1))).getD 2 0 > 1000000) then false else true))) else true)
noncomputable def lp9222_2 (p1 : (List Mv)) (p2 : Int) (p3 : Pos) (p4 : Pos) (p5 : Pos) (p6 : Mv) (p7 : Pos) (p8 : Pos) (x : (Int × Int × (List Int))) : Option ((Int × Bool × Int × (List Int))) := itl (fun x => bif okL9222_2 p1 p2 p3 p4 p5 p6 p7 p8 x then st9222_2 p1 p2 p3 p4 p5 p6 p7 p8 x else .bad) many x
theorem E9222_2 (p1 : (List Mv)) (p2 : Int) (p3 : Pos) (p4 : Pos) (p5 : Pos) (p6 : Mv) (p7 : Pos) (p8 : Pos) (x : (Int × Int × (List Int))) : evCd B9222_2 12 112 (bodL Pz 112 8) (S9222_2 p1 p2 p3 p4 p5 p6 p7 p8 x) = (let z1 := (p1.getD x.fst.toNat default); let z2 := [AV.int .i8 p6.frm, AV.int .i8 p6.to, AV.int .u8 p6.pro, AV.int .u8 p6.drp, AV.bool p6.cas]; let z3 := (x.snd.snd.set 2 (wr .i64 (x.snd.snd.getD 2 0 + 1))); Tr.br (decide (x.fst < p2)) (Tr.br (decide (0 ≤ x.fst) && decide (x.fst < Int.ofNat p1.length)) (Tr.br (isPS Pz 17 [p8.av, Mv.av z1] ((d2 dPos dB).res (N17 p8 z1))) (Tr.br (decide (z3.getD 2 0 > 1000000)) (Tr.ret (Out.panic (AV.iface 123 (AV.agg [])) (Hp.mk [(pc p3 []), [AV.int .i64 x.snd.fst], (pc p4 []), [AV.int .i64 0], [AV.ints .i64 65 z3], (pc p5 []), z2, (pc p7 []), (pc p8 []), [AV.int .i8 z1.frm, AV.int .i8 z1.to, AV.int .u8 z1.pro, AV.int .u8 z1.drp, AV.bool z1.cas], (pc (N17 p8 z1).fst []), (pc (N17 p8 z1).fst [])] [] [] 0 0 0))) (Tr.ret (Out.norm (St.mk (AV.ptr 4 0 :: AV.any :: AV.cint .i64 (wr .i64 (0 + 1)) :: AV.cint .i64 2 :: AV.func 54 [] [AV.ptr 1 0] :: AV.any :: AV.ptr 8 0 :: (an 35 (AV.list ET.mv p1 Tk.fresh :: AV.int .i64 p2 :: AV.int .i64 (wr .i64 (x.fst + 1)) :: (an 17 [])))) (Hp.mk [(pc p3 []), [AV.int .i64 (wr .i64 (x.snd.fst + 1))], (pc p4 []), [AV.int .i64 0], [AV.ints .i64 65 z3], (pc p5 []), z2, (pc p7 []), (pc p8 [])] [] [] 0 0 0))))) Tr.fail) Tr.fail) (Tr.ret (Out.exit 0 (St.mk (AV.ptr 4 0 :: AV.any :: AV.cint .i64 (wr .i64 (0 + 1)) :: AV.cint .i64 2 :: AV.func 54 [] [AV.ptr 1 0] :: AV.any :: AV.ptr 8 0 :: (an 35 (AV.list ET.mv p1 Tk.fresh :: AV.int .i64 p2 :: AV.int .i64 x.fst :: AV.bool (decide (x.fst < p2)) :: (an 16 [])))) (Hp.mk [(pc p3 []), [AV.int .i64 x.snd.fst], (pc p4 []), [AV.int .i64 0], [AV.ints .i64 65 x.snd.snd], (pc p5 []), z2, (pc p7 []), (pc p8 [])] [] [] 0 0 0))))) := by kernel_rfl
theorem L9222_2 (p1 : (List Mv)) (p2 : Int) (p3 : Pos) (p4 : Pos) (p5 : Pos) (p6 : Mv) (p7 : Pos) (p8 : Pos) (x : (Int × Int × (List Int))) (r : (Int × Bool × Int × (List Int))) (h : lp9222_2 p1 p2 p3 p4 p5 p6 p7 p8 x = some r) : LSpec Pz (bodL Pz 112 8) (S9222_2 p1 p2 p3 p4 p5 p6 p7 p8 x) (O9222_2 p1 p2 p3 p4 p5 p6 p7 p8 r) := LSpec.itd (S := S9222_2 p1 p2 p3 p4 p5 p6 p7 p8) (O := O9222_2 p1 p2 p3 p4 p5 p6 p7 p8) (ok := okL9222_2 p1 p2 p3 p4 p5 p6 p7 p8) (st := st9222_2 p1 p2 p3 p4 p5 p6 p7 p8) hB9222_2 (fun x => gr_eq (E9222_2 p1 p2 p3 p4 p5 p6 p7 p8 x) (gr_br (gr_guard (gr_call (P17 (p8) (p1.getD x.fst.toNat default)) (gr_br (gr_no) (gr_ret (rl_go (wk_nrm (ks := (1 :: 5 :: (rn 7 35 (rn 45 17 [])))) (gs := [42, 43, 44]) (b := true) rfl (by kernel_rfl))))))) (gr_ret (rl_exit rfl (wk_nrm (ks := (1 :: 5 :: (rn 7 35 (rn 46 16 [])))) (gs := []) (b := false) rfl (by kernel_rfl)))))) many x r h
noncomputable def F9222_2 : Code → St → Tr Out := sureL Pz (fun s => O9222_2 (tL (ET.mv) (tT s 42)) (tI (tT s 43)) (Kz.Pos.mk (tI (tH s 0 0)) (tN (tH s 0 1)) (tU (tH s 0 2)) (tN (tH s 0 3)) (tI (tH s 0 4)) (tN (tH s 0 5)) (tI (tH s 0 6)) (tN (tH s 0 7)) (tI (tH s 0 8)) (tI (tH s 0 9))) (Kz.Pos.mk (tI (tH s 2 0)) (tN (tH s 2 1)) (tU (tH s 2 2)) (tN (tH s 2 3)) (tI (tH s 2 4)) (tN (tH s 2 5)) (tI (tH s 2 6)) (tN (tH s 2 7)) (tI (tH s 2 8)) (tI (tH s 2 9))) (Kz.Pos.mk (tI (tH s 5 0)) (tN (tH s 5 1)) (tU (tH s 5 2)) (tN (tH s 5 3)) (tI (tH s 5 4)) (tN (tH s 5 5)) (tI (tH s 5 6)) (tN (tH s 5 7)) (tI (tH s 5 8)) (tI (tH s 5 9))) (Kz.Mv.mk (tI (tH s 6 0)) (tI (tH s 6 1)) (tI (tH s 6 2)) (tI (tH s 6 3)) (tB (tH s 6 4))) (Kz.Pos.mk (tI (tH s 7 0)) (tN (tH s 7 1)) (tU (tH s 7 2)) (tN (tH s 7 3)) (tI (tH s 7 4)) (tN (tH s 7 5)) (tI (tH s 7 6)) (tN (tH s 7 7)) (tI (tH s 7 8)) (tI (tH s 7 9))) (Kz.Pos.mk (tI (tH s 8 0)) (tN (tH s 8 1)) (tU (tH s 8 2)) (tN (tH s 8 3)) (tI (tH s 8 4)) (tN (tH s 8 5)) (tI (tH s 8 6)) (tN (tH s 8 7)) (tI (tH s 8 8)) (tI (tH s 8 9))) ((lp9222_2 (tL (ET.mv) (tT s 42)) (tI (tT s 43)) (Kz.Pos.mk (tI (tH s 0 0)) (tN (tH s 0 1)) (tU (tH s 0 2)) (tN (tH s 0 3)) (tI (tH s 0 4)) (tN (tH s 0 5)) (tI (tH s 0 6)) (tN (tH s 0 7)) (tI (tH s 0 8)) (tI (tH s 0 9))) (Kz.Pos.mk (tI (tH s 2 0)) (tN (tH s 2 1)) (tU (tH s 2 2)) (tN (tH s 2 3)) (tI (tH s 2 4)) (tN (tH s 2 5)) (tI (tH s 2 6)) (tN (tH s 2 7)) (tI (tH s 2 8)) (tI (tH s 2 9))) (Kz.Pos.mk (tI (tH s 5 0)) (tN (tH s 5 1)) (tU (tH s 5 2)) (tN (tH s 5 3)) (tI (tH s 5 4)) (tN (tH s 5 5)) (tI (tH s 5 6)) (tN (tH s 5 7)) (tI (tH s 5 8)) (tI (tH s 5 9))) (Kz.Mv.mk (tI (tH s 6 0)) (tI (tH s 6 1)) (tI (tH s 6 2)) (tI (tH s 6 3)) (tB (tH s 6 4))) (Kz.Pos.mk (tI (tH s 7 0)) (tN (tH s 7 1)) (tU (tH s 7 2)) (tN (tH s 7 3)) (tI (tH s 7 4)) (tN (tH s 7 5)) (tI (tH s 7 6)) (tN (tH s 7 7)) (tI (tH s 7 8)) (tI (tH s 7 9))) (Kz.Pos.mk (tI (tH s 8 0)) (tN (tH s 8 1)) (tU (tH s 8 2)) (tN (tH s 8 3)) (tI (tH s 8 4)) (tN (tH s 8 5)) (tI (tH s 8 6)) (tN (tH s 8 7)) (tI (tH s 8 8)) (tI (tH s 8 9))) ((tI (tT s 44)), (tI (tH s 1 0)), (tN (tH s 4 0)))).getD default))
theorem sF9222_2 : ∀ b, LSound Pz b (F9222_2 b) := sureL_sound
noncomputable def B9222_3 : Base := baseOf Pz (fun f i => lkK f i K9222) [(11, G11), (16, G16), (17, G17)] [(112, 8, F9222_2)] []
theorem hB9222_3 : BOk B9222_3 := base_ok named_z ⟨s11, s16, s17, trivial⟩ ⟨sF9222_2, trivial⟩ trivial
noncomputable def S9222_3 (p1 : (List Mv)) (p2 : Int) (p3 : Pos) (p4 : Pos) (p5 : Pos) (x : (Int × Int × (List Int))) : St := St.mk (AV.ptr 4 0 :: AV.any :: AV.cint .i64 0 :: AV.cint .i64 2 :: AV.func 54 [] [AV.ptr 1 0] :: AV.any :: AV.ptr 5 0 :: (an 35 (AV.list ET.mv p1 Tk.fresh :: AV.int .i64 p2 :: AV.int .i64 x.fst :: (an 17 [])))) (Hp.mk [(pc p3 []), [AV.int .i64 x.snd.fst], (pc p4 []), [AV.int .i64 0], [AV.ints .i64 65 x.snd.snd], (pc p5 [])] [] [] 0 0 0)
noncomputable def O9222_3 (p1 : (List Mv)) (p2 : Int) (p3 : Pos) (p4 : Pos) (p5 : Pos) : (Int × Bool × Int × (List Int)) → Out := fun y => .exit 0 (St.mk (AV.ptr 4 0 :: AV.any :: AV.cint .i64 0 :: AV.cint .i64 2 :: AV.func 54 [] [AV.ptr 1 0] :: AV.any :: AV.ptr 5 0 :: (an 35 (AV.list ET.mv p1 Tk.fresh :: AV.int .i64 p2 :: AV.int .i64 y.fst :: AV.bool y.snd.fst :: (an 16 [])))) (Hp.mk [(pc p3 []), [AV.int .i64 y.snd.snd.fst], (pc p4 []), [AV.int .i64 0], [AV.ints .i64 65 y.snd.snd.snd], (pc p5 [])] [] [] 0 0 0))
noncomputable def st9222_3 (p1 : (List Mv)) (p2 : Int) (p3 : Pos) (p4 : Pos) (p5 : Pos) (x : (Int × Int × (List Int))) : Stp (Int × Int × (List Int)) ((Int × Bool × Int × (List Int))) := (bif decide (x.fst < p2) then (bif decide ((x.snd.snd.set 1 (wr .i64 (x.snd.snd.getD 1 0 + 1))).getD 1 0 > 1000000) then Stp.bad else (bif N16 (N17 p5 (p1.getD x.fst.toNat default)).fst then (Stp.go (wr .i64 (x.fst + 1), x.snd.fst, x.snd.snd.set 1 (wr .i64 (x.snd.snd.getD 1 0 + 1)))) else (Stp.go (wr .i64 (x.fst + 1), ((lp9222_2 (N11 (N17 p5 (p1.getD x.fst.toNat default)).fst) (Int.ofNat (N11 (N17 p5 (p1.getD x.fst.toNat default)).fst).length) p3 p4 p5 (p1.getD x.fst.toNat default) (N17 p5 (p1.getD x.fst.toNat default)).fst (N17 p5 (p1.getD x.fst.toNat default)).fst (0, x.snd.fst, x.snd.snd.set 1 (wr .i64 (x.snd.snd.getD 1 0 + 1)))).getD default).snd.snd.fst, ((lp9222_2 (N11 (N17 p5 (p1.getD x.fst.toNat default)).fst) (Int.ofNat (N11 (N17 p5 (p1.getD x.fst.toNat default)).fst).length) p3 p4 p5 (p1.getD x.fst.toNat default) (N17 p5 (p1.getD x.fst.toNat default)).fst (N17 p5 (p1.getD x.fst.toNat default)).fst (0, x.snd.fst, x.snd.snd.set 1 (wr .i64 (x.snd.snd.getD 1 0 + 1)))).getD default).snd.snd.snd)))) else (Stp.out ((x.fst, decide (x.fst < p2), x.snd.fst, x.snd.snd))))
noncomputable def okL9222_3 (p1 : (List Mv)) (p2 : Int) (p3 : Pos) (p4 : Pos) (p5 : Pos) (x : (Int × Int × (List Int))) : Bool := (bif decide (x.fst < p2) then (decide (0 ≤ x.fst) && decide (x.fst < Int.ofNat p1.length) && (ok17 (p5) (p1.getD x.fst.toNat default) && (bif decide ((x.snd.snd.set 1 (wr .i64 (x.snd.snd.getD 1 0 + 1))).getD 1 0 > 1000000) then false else (ok16 ((N17 p5 (p1.getD x.fst.toNat default)).fst) && (bif N16 (N17 p5 (p1.getD x.fst.toNat default)).fst then true else (ok11 ((N17 p5 (p1.getD x.fst.toNat default)).fst) && ((lp9222_2 (N11 (N17 p5 (p1.getD x.fst.toNat default)).fst) (Int.ofNat (N11 (N17 p5 (p1.getD x.fst.toNat default)).fst).length) p3 p4 p5 (p1.getD x.fst.toNat default) (N17 p5 (p1.getD x.fst.toNat default)).fst (N17 p5 (p1.getD x.fst.toNat default)).fst (0, x.snd.fst, x.snd.snd.set 1 (wr .i64 (x.snd.snd.getD 1 0 + 1)))).isSome && true))))))) else true)
noncomputable def lp9222_3 (p1 : (List Mv)) (p2 : Int) (p3 : Pos) (p4 : Pos) (p5 : Pos) (x : (Int × Int × (List Int))) : Option ((Int × Bool × Int × (List Int))) := itl (fun x => bif okL9222_3 p1 p2 p3 p4 p5 x then st9222_3 p1 p2 p3 p4 p5 x else .bad) many x
theorem E9222_3 (p1 : (List Mv)) (p2 : Int) (p3 : Pos) (p4 : Pos) (p5 : Pos) (x : (Int × Int × (List Int))) : evCd B9222_3 12 112 (bodL Pz 112 8) (S9222_3 p1 p2 p3 p4 p5 x) = (let z1 := (p1.getD x.fst.toNat default); let z4 := (AV.ptr 4 0 :: AV.any :: AV.cint .i64 0 :: AV.cint .i64 2 :: AV.func 54 [] [AV.ptr 1 0] :: AV.any :: AV.ptr 5 0 :: (an 35 (AV.list ET.mv p1 Tk.fresh :: AV.int .i64 p2 :: AV.int .i64 (wr .i64 (x.fst + 1)) :: (an 17 [])))); let z5 := (N11 (N17 p5 z1).fst); let z2 := ((lp9222_2 z5 (Int.ofNat z5.length) p3 p4 p5 z1 (N17 p5 z1).fst (N17 p5 z1).fst (0, x.snd.fst, x.snd.snd.set 1 (wr .i64 (x.snd.snd.getD 1 0 + 1)))).getD default); let z6 := (x.snd.snd.set 1 (wr .i64 (x.snd.snd.getD 1 0 + 1))); let z3 := (Hp.mk [(pc p3 []), [AV.int .i64 x.snd.fst], (pc p4 []), [AV.int .i64 0], [AV.ints .i64 65 z6], (pc p5 []), [AV.int .i8 z1.frm, AV.int .i8 z1.to, AV.int .u8 z1.pro, AV.int .u8 z1.drp, AV.bool z1.cas], (pc (N17 p5 z1).fst []), (pc (N17 p5 z1).fst [])] [] [] 0 0 0); Tr.br (decide (x.fst < p2)) (Tr.br (decide (0 ≤ x.fst) && decide (x.fst < Int.ofNat p1.length)) (Tr.br (isPS Pz 17 [p5.av, Mv.av z1] ((d2 dPos dB).res (N17 p5 z1))) (Tr.br (decide (z6.getD 1 0 > 1000000)) (Tr.ret (Out.panic (AV.iface 123 (AV.agg [])) z3)) (Tr.br (isPS Pz 16 [(N17 p5 z1).fst.av] (dB.res (N16 (N17 p5 z1).fst))) (Tr.br (N16 (N17 p5 z1).fst) (Tr.ret (Out.norm (St.mk z4 (Hp.mk [(pc p3 []), [AV.int .i64 x.snd.fst], (pc p4 []), [AV.int .i64 0], [AV.ints .i64 65 z6], (pc p5 [])] [] [] 0 0 0)))) (Tr.br (isPS Pz 11 [(N17 p5 z1).fst.av] ((dL ET.mv).res z5)) (Tr.br (isLS Pz (bodL Pz 112 8) (St.mk (AV.ptr 4 0 :: AV.any :: AV.cint .i64 (wr .i64 (0 + 1)) :: AV.cint .i64 2 :: AV.func 54 [] [AV.ptr 1 0] :: AV.any :: AV.ptr 8 0 :: (an 35 (AV.list ET.mv z5 Tk.fresh :: AV.int .i64 (Int.ofNat z5.length) :: AV.cint .i64 0 :: (an 17 [])))) z3) (O9222_2 z5 (Int.ofNat z5.length) p3 p4 p5 z1 (N17 p5 z1).fst (N17 p5 z1).fst z2)) (Tr.ret (Out.norm (St.mk z4 (Hp.mk [(pc p3 []), [AV.int .i64 z2.snd.snd.fst], (pc p4 []), [AV.int .i64 0], [AV.ints .i64 65 z2.snd.snd.snd], (pc p5 [])] [] [] 0 0 0)))) Tr.fail) Tr.fail)) Tr.fail)) Tr.fail) Tr.fail) (Tr.ret (Out.exit 0 (St.mk (AV.ptr 4 0 :: AV.any :: AV.cint .i64 0 :: AV.cint .i64 2 :: AV.func 54 [] [AV.ptr 1 0] :: AV.any :: AV.ptr 5 0 :: (an 35 (AV.list ET.mv p1 Tk.fresh :: AV.int .i64 p2 :: AV.int .i64 x.fst :: AV.bool (decide (x.fst < p2)) :: (an 16 [])))) (Hp.mk [(pc p3 []), [AV.int .i64 x.snd.fst], (pc p4 []), [AV.int .i64 0], [AV.ints .i64 65 x.snd.snd], (pc p5 [])] [] [] 0 0 0))))) := by kernel_rfl
theorem L9222_3 (p1 : (List Mv)) (p2 : Int) (p3 : Pos) (p4 : Pos) (p5 : Pos) (x : (Int × Int × (List Int))) (r : (Int × Bool × Int × (List Int))) (h : lp9222_3 p1 p2 p3 p4 p5 x = some r) : LSpec Pz (bodL Pz 112 8) (S9222_3 p1 p2 p3 p4 p5 x) (O9222_3 p1 p2 p3 p4 p5 r) := LSpec.itd (S := S9222_3 p1 p2 p3 p4 p5) (O := O9222_3 p1 p2 p3 p4 p5) (ok := okL9222_3 p1 p2 p3 p4 p5) (st := st9222_3 p1 p2 p3 p4 p5) hB9222_3 (fun x => gr_eq (E9222_3 p1 p2 p3 p4 p5 x) (gr_br (gr_guard (gr_call (P17 (p5) (p1.getD x.fst.toNat default)) (gr_br (gr_no) (gr_call (P16 ((N17 p5 (p1.getD x.fst.toNat default)).fst)) (gr_br (gr_ret (rl_go (wk_nrm (ks := (1 :: 5 :: (rn 7 35 (rn 45 17 [])))) (gs := [42, 43, 44]) (b := true) rfl (by kernel_rfl)))) (gr_call (P11 ((N17 p5 (p1.getD x.fst.toNat default)).fst)) (gr_loop (fun h => L9222_2 (N11 (N17 p5 (p1.getD x.fst.toNat default)).fst) (Int.ofNat (N11 (N17 p5 (p1.getD x.fst.toNat default)).fst).length) (p3) (p4) (p5) (p1.getD x.fst.toNat default) ((N17 p5 (p1.getD x.fst.toNat default)).fst) ((N17 p5 (p1.getD x.fst.toNat default)).fst) ((0, x.snd.fst, x.snd.snd.set 1 (wr .i64 (x.snd.snd.getD 1 0 + 1)))) _ (some_getD h)) (wk_nrm (ks := (1 :: 5 :: (rn 7 35 (rn 45 17 [])))) (gs := [42, 43, 44]) (b := true) rfl (by kernel_rfl)) (gr_ret (rl_go (wk_nrm (ks := (1 :: 5 :: (rn 7 35 (rn 45 17 [])))) (gs := [42, 43, 44]) (b := true) rfl (by kernel_rfl))))))))))) (gr_ret (rl_exit rfl (wk_nrm (ks := (1 :: 5 :: (rn 7 35 (rn 46 16 [])))) (gs := []) (b := false) rfl (by kernel_rfl)))))) many x r h
noncomputable def F9222_3 : Code → St → Tr Out := sureL Pz (fun s => O9222_3 (tL (ET.mv) (tT s 42)) (tI (tT s 43)) (Kz.Pos.mk (tI (tH s 0 0)) (tN (tH s 0 1)) (tU (tH s 0 2)) (tN (tH s 0 3)) (tI (tH s 0 4)) (tN (tH s 0 5)) (tI (tH s 0 6)) (tN (tH s 0 7)) (tI (tH s 0 8)) (tI (tH s 0 9))) (Kz.Pos.mk (tI (tH s 2 0)) (tN (tH s 2 1)) (tU (tH s 2 2)) (tN (tH s 2 3)) (tI (tH s 2 4)) (tN (tH s 2 5)) (tI (tH s 2 6)) (tN (tH s 2 7)) (tI (tH s 2 8)) (tI (tH s 2 9))) (Kz.Pos.mk (tI (tH s 5 0)) (tN (tH s 5 1)) (tU (tH s 5 2)) (tN (tH s 5 3)) (tI (tH s 5 4)) (tN (tH s 5 5)) (tI (tH s 5 6)) (tN (tH s 5 7)) (tI (tH s 5 8)) (tI (tH s 5 9))) ((lp9222_3 (tL (ET.mv) (tT s 42)) (tI (tT s 43)) (Kz.Pos.mk (tI (tH s 0 0)) (tN (tH s 0 1)) (tU (tH s 0 2)) (tN (tH s 0 3)) (tI (tH s 0 4)) (tN (tH s 0 5)) (tI (tH s 0 6)) (tN (tH s 0 7)) (tI (tH s 0 8)) (tI (tH s 0 9))) (Kz.Pos.mk (tI (tH s 2 0)) (tN (tH s 2 1)) (tU (tH s 2 2)) (tN (tH s 2 3)) (tI (tH s 2 4)) (tN (tH s 2 5)) (tI (tH s 2 6)) (tN (tH s 2 7)) (tI (tH s 2 8)) (tI (tH s 2 9))) (Kz.Pos.mk (tI (tH s 5 0)) (tN (tH s 5 1)) (tU (tH s 5 2)) (tN (tH s 5 3)) (tI (tH s 5 4)) (tN (tH s 5 5)) (tI (tH s 5 6)) (tN (tH s 5 7)) (tI (tH s 5 8)) (tI (tH s 5 9))) ((tI (tT s 44)), (tI (tH s 1 0)), (tN (tH s 4 0)))).getD default))
theorem sF9222_3 : ∀ b, LSound Pz b (F9222_3 b) := sureL_sound
noncomputable def B9222 : Base := baseOf Pz (fun f i => lkK f i K9222) [(11, G11), (16, G16), (17, G17)] [(112, 8, fun b s => (bif (Kz.shp [0, 2, 3, 4, 6, 42, 43, 44] s == [164, 3, 3, 1054, 228, 11, 3, 3, 10, 3, 7, 4, 7, 3, 7, 3, 7, 3, 3, 1, 3, 10, 3, 7, 4, 7, 3, 7, 3, 7, 3, 3, 1, 3, 1, 7, 10, 3, 7, 4, 7, 3, 7, 3, 7, 3, 3, 5, 3, 3, 3, 3, 2, 10, 3, 7, 4, 7, 3, 7, 3, 7, 3, 3, 10, 3, 7, 4, 7, 3, 7, 3, 7, 3, 3] && Kz.lits [(2, wr .i64 (0 + 1)), (3, 2)] s) then F9222_2 b s else (bif (Kz.shp [0, 2, 3, 4, 6, 42, 43, 44] s == [164, 3, 3, 1054, 180, 11, 3, 3, 10, 3, 7, 4, 7, 3, 7, 3, 7, 3, 3, 1, 3, 10, 3, 7, 4, 7, 3, 7, 3, 7, 3, 3, 1, 3, 1, 7, 10, 3, 7, 4, 7, 3, 7, 3, 7, 3, 3] && Kz.lits [(2, 0), (3, 2)] s) then F9222_3 b s else .fail)))] []
theorem hB9222 : BOk B9222 := base_ok named_z ⟨s11, s16, s17, trivial⟩ ⟨(cnd_sound (c := fun s => (Kz.shp [0, 2, 3, 4, 6, 42, 43, 44] s == [164, 3, 3, 1054, 228, 11, 3, 3, 10, 3, 7, 4, 7, 3, 7, 3, 7, 3, 3, 1, 3, 10, 3, 7, 4, 7, 3, 7, 3, 7, 3, 3, 1, 3, 1, 7, 10, 3, 7, 4, 7, 3, 7, 3, 7, 3, 3, 5, 3, 3, 3, 3, 2, 10, 3, 7, 4, 7, 3, 7, 3, 7, 3, 3, 10, 3, 7, 4, 7, 3, 7, 3, 7, 3, 3] && Kz.lits [(2, wr .i64 (0 + 1)), (3, 2)] s)) sF9222_2 (cnd_sound (c := fun s => (Kz.shp [0, 2, 3, 4, 6, 42, 43, 44] s == [164, 3, 3, 1054, 180, 11, 3, 3, 10, 3, 7, 4, 7, 3, 7, 3, 7, 3, 3, 1, 3, 10, 3, 7, 4, 7, 3, 7, 3, 7, 3, 3, 1, 3, 1, 7, 10, 3, 7, 4, 7, 3, 7, 3, 7, 3, 3] && Kz.lits [(2, 0), (3, 2)] s)) sF9222_3 fail_sound)), trivial⟩ trivial
noncomputable def N9222 (a : Pos) : (Int × Int) := (bif N16 a then ((0), (0)) else ((((lp9222_3 (N11 a) (Int.ofNat (N11 a).length) a a a (0, 0, li z65)).getD default).snd.snd.fst), (0)))
noncomputable def ok9222 (a : Pos) : Bool := (!(decide ((li z65).getD 0 0 > 1000000)) && (ok16 (a) && (bif N16 a then true else (ok11 (a) && ((lp9222_3 (N11 a) (Int.ofNat (N11 a).length) a a a (0, 0, li z65)).isSome && true)))))
theorem E9222 (a : Pos) : evPure B9222 14 22 [Pos.av a, .cint .i64 2] = (let z1 := z65; let z2 := ((lp9222_3 (N11 a) (Int.ofNat (N11 a).length) a a a (0, 0, li z1)).getD default); Tr.br (decide ((li z1).getD 0 0 > 1000000)) Tr.fail (Tr.br (isPS Pz 16 [a.av] (dB.res (N16 a))) (Tr.br (N16 a) (Tr.ret (AV.tuple [AV.cint .i64 0, AV.cint .i64 0])) (Tr.br (isPS Pz 11 [a.av] ((dL ET.mv).res (N11 a))) (Tr.br (isLS Pz (bodL Pz 112 8) (St.mk (AV.ptr 4 0 :: AV.any :: AV.cint .i64 0 :: AV.cint .i64 2 :: AV.func 54 [] [AV.ptr 1 0] :: AV.any :: AV.ptr 5 0 :: (an 35 (AV.list ET.mv (N11 a) Tk.fresh :: AV.int .i64 (Int.ofNat (N11 a).length) :: AV.cint .i64 0 :: (an 17 [])))) (Hp.mk [(pc a []), [AV.cint .i64 0], (pc a []), [AV.cint .i64 0], [AV.ints .i64 65 (li z1)], (pc a [])] [] [] 0 0 0)) (O9222_3 (N11 a) (Int.ofNat (N11 a).length) a a a z2)) (Tr.ret (AV.tuple [AV.int .i64 z2.snd.snd.fst, AV.cint .i64 0])) Tr.fail) Tr.fail)) Tr.fail)) := by kernel_rfl
theorem P9222 (a : Pos) (h : ok9222 a = true) : PS Pz 22 [Pos.av a, .cint .i64 2] ((d2 (dI .i64) (dI .i64)).res (N9222 a)) := ps_gotR hB9222 (E9222 a) (gr_nguard (gr_call (P16 (a)) (gr_br (gr_ret rfl) (gr_call (P11 (a)) (gr_loop (fun h => L9222_3 (N11 a) (Int.ofNat (N11 a).length) (a) (a) (a) ((0, 0, li z65)) _ (some_getD h)) (wk_nrm (ks := (1 :: 5 :: (rn 7 35 (rn 45 17 [])))) (gs := [42, 43, 44]) (b := true) rfl (by kernel_rfl)) (gr_ret rfl)))))) h
noncomputable def K9223 : List (Nat × List (Nat × List Nat)) := [(22, [(0, (0 :: (rn 3 19 []))), (1, (0 :: (rn 3 10 (rn 14 8 [])))), (2, (rn 0 4 (rn 6 16 []))), (3, (0 :: 3 :: 4 :: 5 :: (rn 7 15 []))), (4, (rn 0 6 (rn 8 14 []))), (5, (rn 0 6 (rn 8 11 [20, 21]))), (6, (rn 0 4 (rn 6 16 []))), (7, (rn 0 4 (rn 6 16 [])))]), (53, [(0, (0 :: 4 :: 5 :: (rn 7 6 []))), (1, (0 :: 4 :: 5 :: (rn 7 6 []))), (2, (rn 0 6 (rn 7 6 []))), (3, (rn 0 6 (rn 7 6 [])))]), (54, [(0, [0, 2, 3, 4]), (1, [0, 1, 2, 3, 4])]), (111, [(0, (1 :: 2 :: 3 :: (rn 5 5 []))), (1, (0 :: 1 :: 2 :: (rn 4 6 []))), (2, (rn 0 10 [])), (3, [1, 2, 3, 5, 7, 8, 9]), (4, (rn 0 10 [])), (5, [1, 2, 3, 5, 6, 7]), (6, (rn 1 9 [])), (7, (rn 0 10 []))]), (112, [(0, (1 :: 5 :: (rn 7 55 []))), (1, (1 :: 5 :: (rn 7 55 []))), (2, (1 :: 5 :: (rn 7 23 (rn 31 31 [])))), (3, (1 :: 5 :: (rn 7 55 []))), (4, (1 :: 5 :: (rn 7 28 (rn 36 26 [])))), (5, (rn 0 62 [])), (6, (1 :: 5 :: (rn 7 33 (rn 41 21 [])))), (7, (1 :: 5 :: (rn 7 35 (rn 45 17 [])))), (8, (1 :: 5 :: (rn 7 35 (rn 46 16 [])))), (9, (1 :: 5 :: (rn 7 4 (rn 12 30 (rn 45 17 []))))), (10, (1 :: 5 :: (rn 7 5 (rn 13 29 (rn 45 17 []))))), (11, (1 :: 5 :: (rn 7 35 (rn 45 17 [])))), (12, (1 :: 5 :: (rn 7 35 (rn 45 17 []))))])]
noncomputable def B9223_4 : Base := baseOf Pz (fun f i => lkK f i K9223) [(11, G11), (16, G16), (17, G17)] [] []
theorem hB9223_4 : BOk B9223_4 := base_ok named_z ⟨s11, s16, s17, trivial⟩ trivial trivial
noncomputable def S9223_4 (p1 : (List Mv)) (p2 : Int) (p3 : Pos) (p4 : Pos) (p5 : Pos) (p6 : Mv) (p7 : Pos) (p8 : Pos) (p9 : Mv) (p10 : Pos) (p11 : Pos) (x : (Int × Int × (List Int))) : St := St.mk (AV.ptr 4 0 :: AV.any :: AV.cint .i64 (wr .i64 (wr .i64 (0 + 1) + 1)) :: AV.cint .i64 3 :: AV.func 54 [] [AV.ptr 1 0] :: AV.any :: AV.ptr 11 0 :: (an 35 (AV.list ET.mv p1 Tk.fresh :: AV.int .i64 p2 :: AV.int .i64 x.fst :: (an 17 [])))) (Hp.mk [(pc p3 []), [AV.int .i64 x.snd.fst], (pc p4 []), [AV.int .i64 0], [AV.ints .i64 65 x.snd.snd], (pc p5 []), [AV.int .i8 p6.frm, AV.int .i8 p6.to, AV.int .u8 p6.pro, AV.int .u8 p6.drp, AV.bool p6.cas], (pc p7 []), (pc p8 []), [AV.int .i8 p9.frm, AV.int .i8 p9.to, AV.int .u8 p9.pro, AV.int .u8 p9.drp, AV.bool p9.cas], (pc p10 []), (pc p11 [])] [] [] 0 0 0)
noncomputable def O9223_4 (p1 : (List Mv)) (p2 : Int) (p3 : Pos) (p4 : Pos) (p5 : Pos) (p6 : Mv) (p7 : Pos) (p8 : Pos) (p9 : Mv) (p10 : Pos) (p11 : Pos) : (Int × Bool × Int × (List Int)) → Out := fun y => .exit 0 (St.mk (AV.ptr 4 0 :: AV.any :: AV.cint .i64 (wr .i64 (wr .i64 (0 + 1) + 1)) :: AV.cint .i64 3 :: AV.func 54 [] [AV.ptr 1 0] :: AV.any :: AV.ptr 11 0 :: (an 35 (AV.list ET.mv p1 Tk.fresh :: AV.int .i64 p2 :: AV.int .i64 y.fst :: AV.bool y.snd.fst :: (an 16 [])))) (Hp.mk [(pc p3 []), [AV.int .i64 y.snd.snd.fst], (pc p4 []), [AV.int .i64 0], [AV.ints .i64 65 y.snd.snd.snd], (pc p5 []), [AV.int .i8 p6.frm, AV.int .i8 p6.to, AV.int .u8 p6.pro, AV.int .u8 p6.drp, AV.bool p6.cas], (pc p7 []), (pc p8 []), [AV.int .i8 p9.frm, AV.int .i8 p9.to, AV.int .u8 p9.pro, AV.int .u8 p9.drp, AV.bool p9.cas], (pc p10 []), (pc p11 [])] [] [] 0 0 0))
noncomputable def st9223_4 (p1 : (List Mv)) (p2 : Int) (p3 : Pos) (p4 : Pos) (p5 : Pos) (p6 : Mv) (p7 : Pos) (p8 : Pos) (p9 : Mv) (p10 : Pos) (p11 : Pos) (x : (Int × Int × (List Int))) : Stp (Int × Int × (List Int)) ((Int × Bool × Int × (List Int))) := (bif decide (x.fst < p2) then (bif decide ((x.snd.snd.set 3 (wr .i64 (x.snd.snd.getD 3 0 + 1))).getD 3 0 > 1000000) then Stp.bad else (Stp.go (wr .i64 (x.fst + 1), wr .i64 (x.snd.fst + 1), x.snd.snd.set 3 (wr .i64 (x.snd.snd.getD 3 0 + 1))))) else (Stp.out ((x.fst, decide (x.fst < p2), x.snd.fst, x.snd.snd))))
noncomputable def okL9223_4 (p1 : (List Mv)) (p2 : Int) (p3 : Pos) (p4 : Pos) (p5 : Pos) (p6 : Mv) (p7 : Pos) (p8 : Pos) (p9 : Mv) (p10 : Pos) (p11 : Pos) (x : (Int × Int × (List Int))) : Bool := (bif decide (x.fst < p2) then (decide (0 ≤ x.fst) && decide (x.fst < Int.ofNat p1.length) && (ok17 (p11) (p1.getD x.fst.toNat default) && (bif decide ((x.snd.snd.set 3 (wr .i64 (x.snd.snd.getD 3 0 + 1))).getD 3 0 > 1000000) then false else true))) else true)
noncomputable def lp9223_4 (p1 : (List Mv)) (p2 : Int) (p3 : Pos) (p4 : Pos) (p5 : Pos) (p6 : Mv) (p7 : Pos) (p8 : Pos) (p9 : Mv) (p10 : Pos) (p11 : Pos) (x : (Int × Int × (List Int))) : Option ((Int × Bool × Int × (List Int))) := itl (fun x => bif okL9223_4 p1 p2 p3 p4 p5 p6 p7 p8 p9 p10 p11 x then st9223_4 p1 p2 p3 p4 p5 p6 p7 p8 p9 p10 p11 x else .bad) many x
theorem E9223_4 (p1 : (List Mv)) (p2 : Int) (p3 : Pos) (p4 : Pos) (p5 : Pos) (p6 : Mv) (p7 : Pos) (p8 : Pos) (p9 : Mv) (p10 : Pos) (p11 : Pos) (x : (Int × Int × (List Int))) : evCd B9223_4 12 112 (bodL Pz 112 8) (S9223_4 p1 p2 p3 p4 p5 p6 p7 p8 p9 p10 p11 x) = (let z1 := (p1.getD x.fst.toNat default); let z2 := [AV.int .i8 p6.frm, AV.int .i8 p6.to, AV.int .u8 p6.pro, AV.int .u8 p6.drp, AV.bool p6.cas]; let z3 := [AV.int .i8 p9.frm, AV.int .i8 p9.to, AV.int .u8 p9.pro, AV.int .u8 p9.drp, AV.bool p9.cas]; let z4 := (x.snd.snd.set 3 (wr .i64 (x.snd.snd.getD 3 0 + 1))); Tr.br (decide (x.fst < p2)) (Tr.br (decide (0 ≤ x.fst) && decide (x.fst < Int.ofNat p1.length)) (Tr.br (isPS Pz 17 [p11.av, Mv.av z1] ((d2 dPos dB).res (N17 p11 z1))) (Tr.br (decide (z4.getD 3 0 > 1000000)) (Tr.ret (Out.panic (AV.iface 123 (AV.agg [])) (Hp.mk [(pc p3 []), [AV.int .i64 x.snd.fst], (pc p4 []), [AV.int .i64 0], [AV.ints .i64 65 z4], (pc p5 []), z2, (pc p7 []), (pc p8 []), z3, (pc p10 []), (pc p11 []), [AV.int .i8 z1.frm, AV.int .i8 z1.to, AV.int .u8 z1.pro, AV.int .u8 z1.drp, AV.bool z1.cas], (pc (N17 p11 z1).fst []), (pc (N17 p11 z1).fst [])] [] [] 0 0 0))) (Tr.ret (Out.norm (St.mk (AV.ptr 4 0 :: AV.any :: AV.cint .i64 (wr .i64 (wr .i64 (0 + 1) + 1)) :: AV.cint .i64 3 :: AV.func 54 [] [AV.ptr 1 0] :: AV.any :: AV.ptr 11 0 :: (an 35 (AV.list ET.mv p1 Tk.fresh :: AV.int .i64 p2 :: AV.int .i64 (wr .i64 (x.fst + 1)) :: (an 17 [])))) (Hp.mk [(pc p3 []), [AV.int .i64 (wr .i64 (x.snd.fst + 1))], (pc p4 []), [AV.int .i64 0], [AV.ints .i64 65 z4], (pc p5 []), z2, (pc p7 []), (pc p8 []), z3, (pc p10 []), (pc p11 [])] [] [] 0 0 0))))) Tr.fail) Tr.fail) (Tr.ret (Out.exit 0 (St.mk (AV.ptr 4 0 :: AV.any :: AV.cint .i64 (wr .i64 (wr .i64 (0 + 1) + 1)) :: AV.cint .i64 3 :: AV.func 54 [] [AV.ptr 1 0] :: AV.any :: AV.ptr 11 0 :: (an 35 (AV.list ET.mv p1 Tk.fresh :: AV.int .i64 p2 :: AV.int .i64 x.fst :: AV.bool (decide (x.fst < p2)) :: (an 16 [])))) (Hp.mk [(pc p3 []), [AV.int .i64 x.snd.fst], (pc p4 []), [AV.int .i64 0], [AV.ints .i64 65 x.snd.snd], (pc p5 []), z2, (pc p7 []), (pc p8 []), z3, (pc p10 []), (pc p11 [])] [] [] 0 0 0))))) := by kernel_rfl
theorem L9223_4 (p1 : (List Mv)) (p2 : Int) (p3 : Pos) (p4 : Pos) (p5 : Pos) (p6 : Mv) (p7 : Pos) (p8 : Pos) (p9 : Mv) (p10 : Pos) (p11 : Pos) (x : (Int × Int × (List Int))) (r : (Int × Bool × Int × (List Int))) (h : lp9223_4 p1 p2 p3 p4 p5 p6 p7 p8 p9 p10 p11 x = some r) : LSpec Pz (bodL Pz 112 8) (S9223_4 p1 p2 p3 p4 p5 p6 p7 p8 p9 p10 p11 x) (O9223_4 p1 p2 p3 p4 p5 p6 p7 p8 p9 p10 p11 r) := LSpec.itd (S := S9223_4 p1 p2 p3 p4 p5 p6 p7 p8 p9 p10 p11) (O := O9223_4 p1 p2 p3 p4 p5 p6 p7 p8 p9 p10 p11) (ok := okL9223_4 p1 p2 p3 p4 p5 p6 p7 p8 p9 p10 p11) (st := st9223_4 p1 p2 p3 p4 p5 p6 p7 p8 p9 p10 p11) hB9223_4 (fun x => gr_eq (E9223_4 p1 p2 p3 p4 p5 p6 p7 p8 p9 p10 p11 x) (gr_br (gr_guard (gr_call (P17 (p11) (p1.getD x.fst.toNat default)) (gr_br (gr_no) (gr_ret (rl_go (wk_nrm (ks := (1 :: 5 :: (rn 7 35 (rn 45 17 [])))) (gs := [42, 43, 44]) (b := true) rfl (by kernel_rfl))))))) (gr_ret (rl_exit rfl (wk_nrm (ks := (1 :: 5 :: (rn 7 35 (rn 46 16 [])))) (gs := []) (b := false) rfl (by kernel_rfl)))))) many x r h
noncomputable def F9223_4 : Code → St → Tr Out := sureL Pz (fun s => O9223_4 (tL (ET.mv) (tT s 42)) (tI (tT s 43)) (Kz.Pos.mk (tI (tH s 0 0)) (tN (tH s 0 1)) (tU (tH s 0 2)) (tN (tH s 0 3)) (tI (tH s 0 4)) (tN (tH s 0 5)) (tI (tH s 0 6)) (tN (tH s 0 7)) (tI (tH s 0 8)) (tI (tH s 0 9))) (Kz.Pos.mk (tI (tH s 2 0)) (tN (tH s 2 1)) (tU (tH s 2 2)) (tN (tH s 2 3)) (tI (tH s 2 4)) (tN (tH s 2 5)) (tI (tH s 2 6)) (tN (tH s 2 7)) (tI (tH s 2 8)) (tI (tH s 2 9))) (Kz.Pos.mk (tI (tH s 5 0)) (tN (tH s 5 1)) (tU (tH s 5 2)) (tN (tH s 5 3)) (tI (tH s 5 4)) (tN (tH s 5 5)) (tI (tH s 5 6)) (tN (tH s 5 7)) (tI (tH s 5 8)) (tI (tH s 5 9))) (Kz.Mv.mk (tI (tH s 6 0)) (tI (tH s 6 1)) (tI (tH s 6 2)) (tI (tH s 6 3)) (tB (tH s 6 4))) (Kz.Pos.mk (tI (tH s 7 0)) (tN (tH s 7 1)) (tU (tH s 7 2)) (tN (tH s 7 3)) (tI (tH s 7 4)) (tN (tH s 7 5)) (tI (tH s 7 6)) (tN (tH s 7 7)) (tI (tH s 7 8)) (tI (tH s 7 9))) (Kz.Pos.mk (tI (tH s 8 0)) (tN (tH s 8 1)) (tU (tH s 8 2)) (tN (tH s 8 3)) (tI (tH s 8 4)) (tN (tH s 8 5)) (tI (tH s 8 6)) (tN (tH s 8 7)) (tI (tH s 8 8)) (tI (tH s 8 9))) (Kz.Mv.mk (tI (tH s 9 0)) (tI (tH s 9 1)) (tI (tH s 9 2)) (tI (tH s 9 3)) (tB (tH s 9 4))) (Kz.Pos.mk (tI (tH s 10 0)) (tN (tH s 10 1)) (tU (tH s 10 2)) (tN (tH s 10 3)) (tI (tH s 10 4)) (tN (tH s 10 5)) (tI (tH s 10 6)) (tN (tH s 10 7)) (tI (tH s 10 8)) (tI (tH s 10 9))) (Kz.Pos.mk (tI (tH s 11 0)) (tN (tH s 11 1)) (tU (tH s 11 2)) (tN (tH s 11 3)) (tI (tH s 11 4)) (tN (tH s 11 5)) (tI (tH s 11 6)) (tN (tH s 11 7)) (tI (tH s 11 8)) (tI (tH s 11 9))) ((lp9223_4 (tL (ET.mv) (tT s 42)) (tI (tT s 43)) (Kz.Pos.mk (tI (tH s 0 0)) (tN (tH s 0 1)) (tU (tH s 0 2)) (tN (tH s 0 3)) (tI (tH s 0 4)) (tN (tH s 0 5)) (tI (tH s 0 6)) (tN (tH s 0 7)) (tI (tH s 0 8)) (tI (tH s 0 9))) (Kz.Pos.mk (tI (tH s 2 0)) (tN (tH s 2 1)) (tU (tH s 2 2)) (tN (tH s 2 3)) (tI (tH s 2 4)) (tN (tH s 2 5)) (tI (tH s 2 6)) (tN (tH s 2 7)) (tI (tH s 2 8)) (tI (tH s 2 9))) (Kz.Pos.mk (tI (tH s 5 0)) (tN (tH s 5 1)) (tU (tH s 5 2)) (tN (tH s 5 3)) (tI (tH s 5 4)) (tN (tH s 5 5)) (tI (tH s 5 6)) (tN (tH s 5 7)) (tI (tH s 5 8)) (tI (tH s 5 9))) (Kz.Mv.mk (tI (tH s 6 0)) (tI (tH s 6 1)) (tI (tH s 6 2)) (tI (tH s 6 3)) (tB (tH s 6 4))) (Kz.Pos.mk (tI (tH s 7 0)) (tN (tH s 7 1)) (tU (tH s 7 2)) (tN (tH s 7 3)) (tI (tH s 7 4)) (tN (tH s 7 5)) (tI (tH s 7 6)) (tN (tH s 7 7)) (tI (tH s 7 8)) (tI (tH s 7 9))) (Kz.Pos.mk (tI (tH s 8 0)) (tN (tH s 8 1)) (tU (tH s 8 2)) (tN (tH s 8 3)) (tI (tH s 8 4)) (tN (tH s 8 5)) (tI (tH s 8 6)) (tN (tH s 8 7)) (tI (tH s 8 8)) (tI (tH s 8 9))) (Kz.Mv.mk (tI (tH s 9 0)) (tI (tH s 9 1)) (tI (tH s 9 2)) (tI (tH s 9 3)) (tB (tH s 9 4))) (Kz.Pos.mk (tI (tH s 10 0)) (tN (tH s 10 1)) (tU (tH s 10 2)) (tN (tH s 10 3)) (tI (tH s 10 4)) (tN (tH s 10 5)) (tI (tH s 10 6)) (tN (tH s 10 7)) (tI (tH s 10 8)) (tI (tH s 10 9))) (Kz.Pos.mk (tI (tH s 11 0)) (tN (tH s 11 1)) (tU (tH s 11 2)) (tN (tH s 11 3)) (tI (tH s 11 4)) (tN (tH s 11 5)) (tI (tH s 11 6)) (tN (tH s 11 7)) (tI (tH s 11 8)) (tI (tH s 11 9))) ((tI (tT s 44)), (tI (tH s 1 0)), (tN (tH s 4 0)))).getD default))
theorem sF9223_4 : ∀ b, LSound Pz b (F9223_4 b) := sureL_sound
noncomputable def B9223_5 : Base := baseOf Pz (fun f i => lkK f i K9223) [(11, G11), (16, G16), (17, G17)] [(112, 8, F9223_4)] []
theorem hB9223_5 : BOk B9223_5 := base_ok named_z ⟨s11, s16, s17, trivial⟩ ⟨sF9223_4, trivial⟩ trivial
noncomputable def S9223_5 (p1 : (List Mv)) (p2 : Int) (p3 : Pos) (p4 : Pos) (p5 : Pos) (p6 : Mv) (p7 : Pos) (p8 : Pos) (x : (Int × Int × (List Int))) : St := St.mk (AV.ptr 4 0 :: AV.any :: AV.cint .i64 (wr .i64 (0 + 1)) :: AV.cint .i64 3 :: AV.func 54 [] [AV.ptr 1 0] :: AV.any :: AV.ptr 8 0 :: (an 35 (AV.list ET.mv p1 Tk.fresh :: AV.int .i64 p2 :: AV.int .i64 x.fst :: (an 17 [])))) (Hp.mk [(pc p3 []), [AV.int .i64 x.snd.fst], (pc p4 []), [AV.int .i64 0], [AV.ints .i64 65 x.snd.snd], (pc p5 []), [AV.int .i8 p6.frm, AV.int .i8 p6.to, AV.int .u8 p6.pro, AV.int .u8 p6.drp, AV.bool p6.cas], (pc p7 []), (pc p8 [])] [] [] 0 0 0)
noncomputable def O9223_5 (p1 : (List Mv)) (p2 : Int) (p3 : Pos) (p4 : Pos) (p5 : Pos) (p6 : Mv) (p7 : Pos) (p8 : Pos) : (Int × Bool × Int × (List Int)) → Out := fun y => .exit 0 (St.mk (AV.ptr 4 0 :: AV.any :: AV.cint .i64 (wr .i64 (0 + 1)) :: AV.cint .i64 3 :: AV.func 54 [] [AV.ptr 1 0] :: AV.any :: AV.ptr 8 0 :: (an 35 (AV.list ET.mv p1 Tk.fresh :: AV.int .i64 p2 :: AV.int .i64 y.fst :: AV.bool y.snd.fst :: (an 16 [])))) (Hp.mk [(pc p3 []), [AV.int .i64 y.snd.snd.fst], (pc p4 []), [AV.int .i64 0], [AV.ints .i64 65 y.snd.snd.snd], (pc p5 []), [AV.int .i8 p6.frm, AV.int .i8 p6.to, AV.int .u8 p6.pro, AV.int .u8 p6.drp, AV.bool p6.cas], (pc p7 []), (pc p8 [])] [] [] 0 0 0))
noncomputable def st9223_5 (p1 : (List Mv)) (p2 : Int) (p3 : Pos) (p4 : Pos) (p5 : Pos) (p6 : Mv) (p7 : Pos) (p8 : Pos) (x : (Int × Int × (List Int))) : Stp (Int × Int × (List Int)) ((Int × Bool × Int × (List Int))) := (bif decide (x.fst < p2) then (bif decide ((x.snd.snd.set 2 (wr .i64 (x.snd.snd.getD 2 0 + 1))).getD 2 0 > 1000000) then Stp.bad else (bif N16 (N17 p8 (p1.getD x.fst.toNat default)).fst then (Stp.go (wr .i64 (x.fst + 1), x.snd.fst, x.snd.snd.set 2 (wr .i64 (x.snd.snd.getD 2 0 + 1)))) else (Stp.go (wr .i64 (x.fst + 1), ((lp9223_4 (N11 (N17 p8 (p1.getD x.fst.toNat default)).fst) (Int.ofNat (N11 (N17 p8 (p1.getD x.fst.toNat default)).fst).length) p3 p4 p5 p6 p7 p8 (p1.getD x.fst.toNat default) (N17 p8 (p1.getD x.fst.toNat default)).fst (N17 p8 (p1.getD x.fst.toNat default)).fst (0, x.snd.fst, x.snd.snd.set 2 (wr .i64 (x.snd.snd.getD 2 0 + 1)))).getD default).snd.snd.fst, ((lp9223_4 (N11 (N17 p8 (p1.getD x.fst.toNat default)).fst) (Int.ofNat (N11 (N17 p8 (p1.getD x.fst.toNat default)).fst).length) p3 p4 p5 p6 p7 p8 (p1.getD x.fst.toNat default) (N17 p8 (p1.getD x.fst.toNat default)).fst (N17 p8 (p1.getD x.fst.toNat default)).fst (0, x.snd.fst, x.snd.snd.set 2 (wr .i64 (x.snd.snd.getD 2 0 + 1)))).getD default).snd.snd.snd)))) else (Stp.out ((x.fst, decide (x.fst < p2), x.snd.fst, x.snd.snd))))
noncomputable def okL9223_5 (p1 : (List Mv)) (p2 : Int) (p3 : Pos) (p4 : Pos) (p5 : Pos) (p6 : Mv) (p7 : Pos) (p8 : Pos) (x : (Int × Int × (List Int))) : Bool := (bif decide (x.fst < p2) then (decide (0 ≤ x.fst) && decide (x.fst < Int.ofNat p1.length) && (ok17 (p8) (p1.getD x.fst.toNat default) && (bif decide ((x.snd.snd.set 2 (wr .i64 (x.snd.snd.getD 2 0 + 1))).getD 2 0 > 1000000) then false else (ok16 ((N17 p8 (p1.getD x.fst.toNat default)).fst) && (bif N16 (N17 p8 (p1.getD x.fst.toNat default)).fst then true else (ok11 ((N17 p8 (p1.getD x.fst.toNat default)).fst) && ((lp9223_4 (N11 (N17 p8 (p1.getD x.fst.toNat default)).fst) (Int.ofNat (N11 (N17 p8 (p1.getD x.fst.toNat default)).fst).length) p3 p4 p5 p6 p7 p8 (p1.getD x.fst.toNat default) (N17 p8 (p1.getD x.fst.toNat default)).fst (N17 p8 (p1.getD x.fst.toNat default)).fst (0, x.snd.fst, x.snd.snd.set 2 (wr .i64 (x.snd.snd.getD 2 0 + 1)))).isSome && true))))))) else true)
noncomputable def lp9223_5 (p1 : (List Mv)) (p2 : Int) (p3 : Pos) (p4 : Pos) (p5 : Pos) (p6 : Mv) (p7 : Pos) (p8 : Pos) (x : (Int × Int × (List Int))) : Option ((Int × Bool × Int × (List Int))) := itl (fun x => bif okL9223_5 p1 p2 p3 p4 p5 p6 p7 p8 x then st9223_5 p1 p2 p3 p4 p5 p6 p7 p8 x else .bad) many x
theorem E9223_5 (p1 : (List Mv)) (p2 : Int) (p3 : Pos) (p4 : Pos) (p5 : Pos) (p6 : Mv) (p7 : Pos) (p8 : Pos) (x : (Int × Int × (List Int))) : evCd B9223_5 12 112 (bodL Pz 112 8) (S9223_5 p1 p2 p3 p4 p5 p6 p7 p8 x) = (let z1 := (p1.getD x.fst.toNat default); let z4 := (AV.ptr 4 0 :: AV.any :: AV.cint .i64 (wr .i64 (0 + 1)) :: AV.cint .i64 3 :: AV.func 54 [] [AV.ptr 1 0] :: AV.any :: AV.ptr 8 0 :: (an 35 (AV.list ET.mv p1 Tk.fresh :: AV.int .i64 p2 :: AV.int .i64 (wr .i64 (x.fst + 1)) :: (an 17 [])))); let z5 := [AV.int .i8 p6.frm, AV.int .i8 p6.to, AV.int .u8 p6.pro, AV.int .u8 p6.drp, AV.bool p6.cas]; let z6 := (N11 (N17 p8 z1).fst); let z3 := ((lp9223_4 z6 (Int.ofNat z6.length) p3 p4 p5 p6 p7 p8 z1 (N17 p8 z1).fst (N17 p8 z1).fst (0, x.snd.fst, x.snd.snd.set 2 (wr .i64 (x.snd.snd.getD 2 0 + 1)))).getD default); let z7 := (x.snd.snd.set 2 (wr .i64 (x.snd.snd.getD 2 0 + 1))); let z2 := (Hp.mk [(pc p3 []), [AV.int .i64 x.snd.fst], (pc p4 []), [AV.int .i64 0], [AV.ints .i64 65 z7], (pc p5 []), z5, (pc p7 []), (pc p8 []), [AV.int .i8 z1.frm, AV.int .i8 z1.to, AV.int .u8 z1.pro, AV.int .u8 z1.drp, AV.bool z1.cas], (pc (N17 p8 z1).fst []), (pc (N17 p8 z1).fst [])] [] [] 0 0 0); Tr.br (decide (x.fst < p2)) (Tr.br (decide (0 ≤ x.fst) && decide (x.fst < Int.ofNat p1.length)) (Tr.br (isPS Pz 17 [p8.av, Mv.av z1] ((d2 dPos dB).res (N17 p8 z1))) (Tr.br (decide (z7.getD 2 0 > 1000000)) (Tr.ret (Out.panic (AV.iface 123 (AV.agg [])) z2)) (Tr.br (isPS Pz 16 [(N17 p8 z1).fst.av] (dB.res (N16 (N17 p8 z1).fst))) (Tr.br (N16 (N17 p8 z1).fst) (Tr.ret (Out.norm (St.mk z4 (Hp.mk [(pc p3 []), [AV.int .i64 x.snd.fst], (pc p4 []), [AV.int .i64 0], [AV.ints .i64 65 z7], (pc p5 []), z5, (pc p7 []), (pc p8 [])] [] [] 0 0 0)))) (Tr.br (isPS Pz 11 [(N17 p8 z1).fst.av] ((dL ET.mv).res z6)) (Tr.br (isLS Pz (bodL Pz 112 8) (St.mk (AV.ptr 4 0 :: AV.any :: AV.cint .i64 (wr .i64 (wr .i64 (0 + 1) + 1)) :: AV.cint .i64 3 :: AV.func 54 [] [AV.ptr 1 0] :: AV.any :: AV.ptr 11 0 :: (an 35 (AV.list ET.mv z6 Tk.fresh :: AV.int .i64 (Int.ofNat z6.length) :: AV.cint .i64 0 :: (an 17 [])))) z2) (O9223_4 z6 (Int.ofNat z6.length) p3 p4 p5 p6 p7 p8 z1 (N17 p8 z1).fst (N17 p8 z1).fst z3)) (Tr.ret (Out.norm (St.mk z4 (Hp.mk [(pc p3 []), [AV.int .i64 z3.snd.snd.fst], (pc p4 []), [AV.int .i64 0], [AV.ints .i64 65 z3.snd.snd.snd], (pc p5 []), z5, (pc p7 []), (pc p8 [])] [] [] 0 0 0)))) Tr.fail) Tr.fail)) Tr.fail)) Tr.fail) Tr.fail) (Tr.ret (Out.exit 0 (St.mk (AV.ptr 4 0 :: AV.any :: AV.cint .i64 (wr .i64 (0 + 1)) :: AV.cint .i64 3 :: AV.func 54 [] [AV.ptr 1 0] :: AV.any :: AV.ptr 8 0 :: (an 35 (AV.list ET.mv p1 Tk.fresh :: AV.int .i64 p2 :: AV.int .i64 x.fst :: AV.bool (decide (x.fst < p2)) :: (an 16 [])))) (Hp.mk [(pc p3 []), [AV.int .i64 x.snd.fst], (pc p4 []), [AV.int .i64 0], [AV.ints .i64 65 x.snd.snd], (pc p5 []), z5, (pc p7 []), (pc p8 [])] [] [] 0 0 0))))) := by kernel_rfl
theorem L9223_5 (p1 : (List Mv)) (p2 : Int) (p3 : Pos) (p4 : Pos) (p5 : Pos) (p6 : Mv) (p7 : Pos) (p8 : Pos) (x : (Int × Int × (List Int))) (r : (Int × Bool × Int × (List Int))) (h : lp9223_5 p1 p2 p3 p4 p5 p6 p7 p8 x = some r) : LSpec Pz (bodL Pz 112 8) (S9223_5 p1 p2 p3 p4 p5 p6 p7 p8 x) (O9223_5 p1 p2 p3 p4 p5 p6 p7 p8 r) := LSpec.itd (S := S9223_5 p1 p2 p3 p4 p5 p6 p7 p8) (O := O9223_5 p1 p2 p3 p4 p5 p6 p7 p8) (ok := okL9223_5 p1 p2 p3 p4 p5 p6 p7 p8) (st := st9223_5 p1 p2 p3 p4 p5 p6 p7 p8) hB9223_5 (fun x => gr_eq (E9223_5 p1 p2 p3 p4 p5 p6 p7 p8 x) (gr_br (gr_guard (gr_call (P17 (p8) (p1.getD x.fst.toNat default)) (gr_br (gr_no) (gr_call (P16 ((N17 p8 (p1.getD x.fst.toNat default)).fst)) (gr_br (gr_ret (rl_go (wk_nrm (ks := (1 :: 5 :: (rn 7 35 (rn 45 17 [])))) (gs := [42, 43, 44]) (b := true) rfl (by kernel_rfl)))) (gr_call (P11 ((N17 p8 (p1.getD x.fst.toNat default)).fst)) (gr_loop (fun h => L9223_4 (N11 (N17 p8 (p1.getD x.fst.toNat default)).fst) (Int.ofNat (N11 (N17 p8 (p1.getD x.fst.toNat default)).fst).length) (p3) (p4) (p5) (p6) (p7) (p8) (p1.getD x.fst.toNat default) ((N17 p8 (p1.getD x.fst.toNat default)).fst) ((N17 p8 (p1.getD x.fst.toNat default)).fst) ((0, x.snd.fst, x.snd.snd.set 2 (wr .i64 (x.snd.snd.getD 2 0 + 1)))) _ (some_getD h)) (wk_nrm (ks := (1 :: 5 :: (rn 7 35 (rn 45 17 [])))) (gs := [42, 43, 44]) (b := true) rfl (by kernel_rfl)) (gr_ret (rl_go (wk_nrm (ks := (1 :: 5 :: (rn 7 35 (rn 45 17 [])))) (gs := [42, 43, 44]) (b := true) rfl (by kernel_rfl))))))))))) (gr_ret (rl_exit rfl (wk_nrm (ks := (1 :: 5 :: (rn 7 35 (rn 46 16 [])))) (gs := []) (b := false) rfl (by kernel_rfl)))))) many x r h
noncomputable def F9223_5 : Code → St → Tr Out := sureL Pz (fun s => O9223_5 (tL (ET.mv) (tT s 42)) (tI (tT s 43)) (Kz.Pos.mk (tI (tH s 0 0)) (tN (tH s 0 1)) (tU (tH s 0 2)) (tN (tH s 0 3)) (tI (tH s 0 4)) (tN (tH s 0 5)) (tI (tH s 0 6)) (tN (tH s 0 7)) (tI (tH s 0 8)) (tI (tH s 0 9))) (Kz.Pos.mk (tI (tH s 2 0)) (tN (tH s 2 1)) (tU (tH s 2 2)) (tN (tH s 2 3)) (tI (tH s 2 4)) (tN (tH s 2 5)) (tI (tH s 2 6)) (tN (tH s 2 7)) (tI (tH s 2 8)) (tI (tH s 2 9))) (Kz.Pos.mk (tI (tH s 5 0)) (tN (tH s 5 1)) (tU (tH s 5 2)) (tN (tH s 5 3)) (tI (tH s 5 4)) (tN (tH s 5 5)) (tI (tH s 5 6)) (tN (tH s 5 7)) (tI (tH s 5 8)) (tI (tH s 5 9))) (Kz.Mv.mk (tI (tH s 6 0)) (tI (tH s 6 1)) (tI (tH s 6 2)) (tI (tH s 6 3)) (tB (tH s 6 4))) (Kz.Pos.mk (tI (tH s 7 0)) (tN (tH s 7 1)) (tU (tH s 7 2)) (tN (tH s 7 3)) (tI (tH s 7 4)) (tN (tH s 7 5)) (tI (tH s 7 6)) (tN (tH s 7 7)) (tI (tH s 7 8)) (tI (tH s 7 9))) (Kz.Pos.mk (tI (tH s 8 0)) (tN (tH s 8 1)) (tU (tH s 8 2)) (tN (tH s 8 3)) (tI (tH s 8 4)) (tN (tH s 8 5)) (tI (tH s 8 6)) (tN (tH s 8 7)) (tI (tH s 8 8)) (tI (tH s 8 9))) ((lp9223_5 (tL (ET.mv) (tT s 42)) (tI (tT s 43)) (Kz.Pos.mk (tI (tH s 0 0)) (tN (tH s 0 1)) (tU (tH s 0 2)) (tN (tH s 0 3)) (tI (tH s 0 4)) (tN (tH s 0 5)) (tI (tH s 0 6)) (tN (tH s 0 7)) (tI (tH s 0 8)) (tI (tH s 0 9))) (Kz.Pos.mk (tI (tH s 2 0)) (tN (tH s 2 1)) (tU (tH s 2 2)) (tN (tH s 2 3)) (tI (tH s 2 4)) (tN (tH s 2 5)) (tI (tH s 2 6)) (tN (tH s 2 7)) (tI (tH s 2 8)) (tI (tH s 2 9))) (Kz.Pos.mk (tI (tH s 5 0)) (tN (tH s 5 1)) (tU (tH s 5 2)) (tN (tH s 5 3)) (tI (tH s 5 4)) (tN (tH s 5 5)) (tI (tH s 5 6)) (tN (tH s 5 7)) (tI (tH s 5 8)) (tI (tH s 5 9))) (Kz.Mv.mk (tI (tH s 6 0)) (tI (tH s 6 1)) (tI (tH s 6 2)) (tI (tH s 6 3)) (tB (tH s 6 4))) (Kz.Pos.mk (tI (tH s 7 0)) (tN (tH s 7 1)) (tU (tH s 7 2)) (tN (tH s 7 3)) (tI (tH s 7 4)) (tN (tH s 7 5)) (tI (tH s 7 6)) (tN (tH s 7 7)) (tI (tH s 7 8)) (tI (tH s 7 9))) (Kz.Pos.mk (tI (tH s 8 0)) (tN (tH s 8 1)) (tU (tH s 8 2)) (tN (tH s 8 3)) (tI (tH s 8 4)) (tN (tH s 8 5)) (tI (tH s 8 6)) (tN (tH s 8 7)) (tI (tH s 8 8)) (tI (tH s 8 9))) ((tI (tT s 44)), (tI (tH s 1 0)), (tN (tH s 4 0)))).getD default))
theorem sF9223_5 : ∀ b, LSound Pz b (F9223_5 b) := sureL_sound
noncomputable def B9223_6 : Base := baseOf Pz (fun f i => lkK f i K9223) [(11, G11), (16, G16), (17, G17)] [(112, 8, fun b s => (bif (Kz.shp [0, 2, 3, 4, 6, 42, 43, 44] s == [164, 3, 3, 1054, 276, 11, 3, 3, 10, 3, 7, 4, 7, 3, 7, 3, 7, 3, 3, 1, 3, 10, 3, 7, 4, 7, 3, 7, 3, 7, 3, 3, 1, 3, 1, 7, 10, 3, 7, 4, 7, 3, 7, 3, 7, 3, 3, 5, 3, 3, 3, 3, 2, 10, 3, 7, 4, 7, 3, 7, 3, 7, 3, 3, 10, 3, 7, 4, 7, 3, 7, 3, 7, 3, 3, 5, 3, 3, 3, 3, 2, 10, 3, 7, 4, 7, 3, 7, 3, 7, 3, 3, 10, 3, 7, 4, 7, 3, 7, 3, 7, 3, 3] && Kz.lits [(2, wr .i64 (wr .i64 (0 + 1) + 1)), (3, 3)] s) then F9223_4 b s else (bif (Kz.shp [0, 2, 3, 4, 6, 42, 43, 44] s == [164, 3, 3, 1054, 228, 11, 3, 3, 10, 3, 7, 4, 7, 3, 7, 3, 7, 3, 3, 1, 3, 10, 3, 7, 4, 7, 3, 7, 3, 7, 3, 3, 1, 3, 1, 7, 10, 3, 7, 4, 7, 3, 7, 3, 7, 3, 3, 5, 3, 3, 3, 3, 2, 10, 3, 7, 4, 7, 3, 7, 3, 7, 3, 3, 10, 3, 7, 4, 7, 3, 7, 3, 7, 3, 3] && Kz.lits [(2, wr .i64 (0 + 1)), (3, 3)] s) then F9223_5 b s else .fail)))] []
theorem hB9223_6 : BOk B9223_6 := base_ok named_z ⟨s11, s16, s17, trivial⟩ ⟨(cnd_sound (c := fun s => (Kz.shp [0, 2, 3, 4, 6, 42, 43, 44] s == [164, 3, 3, 1054, 276, 11, 3, 3, 10, 3, 7, 4, 7, 3, 7, 3, 7, 3, 3, 1, 3, 10, 3, 7, 4, 7, 3, 7, 3, 7, 3, 3, 1, 3, 1, 7, 10, 3, 7, 4, 7, 3, 7, 3, 7, 3, 3, 5, 3, 3, 3, 3, 2, 10, 3, 7, 4, 7, 3, 7, 3, 7, 3, 3, 10, 3, 7, 4, 7, 3, 7, 3, 7, 3, 3, 5, 3, 3, 3, 3, 2, 10, 3, 7, 4, 7, 3, 7, 3, 7, 3, 3, 10, 3, 7, 4, 7, 3, 7, 3, 7, 3, 3] && Kz.lits [(2, wr .i64 (wr .i64 (0 + 1) + 1)), (3, 3)] s)) sF9223_4 (cnd_sound (c := fun s => (Kz.shp [0, 2, 3, 4, 6, 42, 43, 44] s == [164, 3, 3, 1054, 228, 11, 3, 3, 10, 3, 7, 4, 7, 3, 7, 3, 7, 3, 3, 1, 3, 10, 3, 7, 4, 7, 3, 7, 3, 7, 3, 3, 1, 3, 1, 7, 10, 3, 7, 4, 7, 3, 7, 3, 7, 3, 3, 5, 3, 3, 3, 3, 2, 10, 3, 7, 4, 7, 3, 7, 3, 7, 3, 3, 10, 3, 7, 4, 7, 3, 7, 3, 7, 3, 3] && Kz.lits [(2, wr .i64 (0 + 1)), (3, 3)] s)) sF9223_5 fail_sound)), trivial⟩ trivial
noncomputable def S9223_6 (p1 : (List Mv)) (p2 : Int) (p3 : Pos) (p4 : Pos) (p5 : Pos) (x : (Int × Int × (List Int))) : St := St.mk (AV.ptr 4 0 :: AV.any :: AV.cint .i64 0 :: AV.cint .i64 3 :: AV.func 54 [] [AV.ptr 1 0] :: AV.any :: AV.ptr 5 0 :: (an 35 (AV.list ET.mv p1 Tk.fresh :: AV.int .i64 p2 :: AV.int .i64 x.fst :: (an 17 [])))) (Hp.mk [(pc p3 []), [AV.int .i64 x.snd.fst], (pc p4 []), [AV.int .i64 0], [AV.ints .i64 65 x.snd.snd], (pc p5 [])] [] [] 0 0 0)
noncomputable def O9223_6 (p1 : (List Mv)) (p2 : Int) (p3 : Pos) (p4 : Pos) (p5 : Pos) : (Int × Bool × Int × (List Int)) → Out := fun y => .exit 0 (St.mk (AV.ptr 4 0 :: AV.any :: AV.cint .i64 0 :: AV.cint .i64 3 :: AV.func 54 [] [AV.ptr 1 0] :: AV.any :: AV.ptr 5 0 :: (an 35 (AV.list ET.mv p1 Tk.fresh :: AV.int .i64 p2 :: AV.int .i64 y.fst :: AV.bool y.snd.fst :: (an 16 [])))) (Hp.mk [(pc p3 []), [AV.int .i64 y.snd.snd.fst], (pc p4 []), [AV.int .i64 0], [AV.ints .i64 65 y.snd.snd.snd], (pc p5 [])] [] [] 0 0 0))
noncomputable def st9223_6 (p1 : (List Mv)) (p2 : Int) (p3 : Pos) (p4 : Pos) (p5 : Pos) (x : (Int × Int × (List Int))) : Stp (Int × Int × (List Int)) ((Int × Bool × Int × (List Int))) := (bif decide (x.fst < p2) then (bif decide ((x.snd.snd.set 1 (wr .i64 (x.snd.snd.getD 1 0 + 1))).getD 1 0 > 1000000) then Stp.bad else (bif N16 (N17 p5 (p1.getD x.fst.toNat default)).fst then (Stp.go (wr .i64 (x.fst + 1), x.snd.fst, x.snd.snd.set 1 (wr .i64 (x.snd.snd.getD 1 0 + 1)))) else (Stp.go (wr .i64 (x.fst + 1), ((lp9223_5 (N11 (N17 p5 (p1.getD x.fst.toNat default)).fst) (Int.ofNat (N11 (N17 p5 (p1.getD x.fst.toNat default)).fst).length) p3 p4 p5 (p1.getD x.fst.toNat default) (N17 p5 (p1.getD x.fst.toNat default)).fst (N17 p5 (p1.getD x.fst.toNat default)).fst (0, x.snd.fst, x.snd.snd.set 1 (wr .i64 (x.snd.snd.getD 1 0 + 1)))).getD default).snd.snd.fst, ((lp9223_5 (N11 (N17 p5 (p1.getD x.fst.toNat default)).fst) (Int.ofNat (N11 (N17 p5 (p1.getD x.fst.toNat default)).fst).length) p3 p4 p5 (p1.getD x.fst.toNat default) (N17 p5 (p1.getD x.fst.toNat default)).fst (N17 p5 (p1.getD x.fst.toNat default)).fst (0, x.snd.fst, x.snd.snd.set 1 (wr .i64 (x.snd.snd.getD 1 0 + 1)))).getD default).snd.snd.snd)))) else (Stp.out ((x.fst, decide (x.fst < p2), x.snd.fst, x.snd.snd))))
noncomputable def okL9223_6 (p1 : (List Mv)) (p2 : Int) (p3 : Pos) (p4 : Pos) (p5 : Pos) (x : (Int × Int × (List Int))) : Bool := (bif decide (x.fst < p2) then (decide (0 ≤ x.fst) && decide (x.fst < Int.ofNat p1.length) && (ok17 (p5) (p1.getD x.fst.toNat default) && (bif decide ((x.snd.snd.set 1 (wr .i64 (x.snd.snd.getD 1 0 + 1))).getD 1 0 > 1000000) then false else (ok16 ((N17 p5 (p1.getD x.fst.toNat default)).fst) && (bif N16 (N17 p5 (p1.getD x.fst.toNat default)).fst then true else (ok11 ((N17 p5 (p1.getD x.fst.toNat default)).fst) && ((lp9223_5 (N11 (N17 p5 (p1.getD x.fst.toNat default)).fst) (Int.ofNat (N11 (N17 p5 (p1.getD x.fst.toNat default)).fst).length) p3 p4 p5 (p1.getD x.fst.toNat default) (N17 p5 (p1.getD x.fst.toNat default)).fst (N17 p5 (p1.getD x.fst.toNat default)).fst (0, x.snd.fst, x.snd.snd.set 1 (wr .i64 (x.snd.snd.getD 1 0 + 1)))).isSome && true))))))) else true)
noncomputable def lp9223_6 (p1 : (List Mv)) (p2 : Int) (p3 : Pos) (p4 : Pos) (p5 : Pos) (x : (Int × Int × (List Int))) : Option ((Int × Bool × Int × (List Int))) := itl (fun x => bif okL9223_6 p1 p2 p3 p4 p5 x then st9223_6 p1 p2 p3 p4 p5 x else .bad) many x
theorem E9223_6 (p1 : (List Mv)) (p2 : Int) (p3 : Pos) (p4 : Pos) (p5 : Pos) (x : (Int × Int × (List Int))) : evCd B9223_6 12 112 (bodL Pz 112 8) (S9223_6 p1 p2 p3 p4 p5 x) = (let z1 := (p1.getD x.fst.toNat default); let z4 := (AV.ptr 4 0 :: AV.any :: AV.cint .i64 0 :: AV.cint .i64 3 :: AV.func 54 [] [AV.ptr 1 0] :: AV.any :: AV.ptr 5 0 :: (an 35 (AV.list ET.mv p1 Tk.fresh :: AV.int .i64 p2 :: AV.int .i64 (wr .i64 (x.fst + 1)) :: (an 17 [])))); let z5 := (N11 (N17 p5 z1).fst); let z2 := ((lp9223_5 z5 (Int.ofNat z5.length) p3 p4 p5 z1 (N17 p5 z1).fst (N17 p5 z1).fst (0, x.snd.fst, x.snd.snd.set 1 (wr .i64 (x.snd.snd.getD 1 0 + 1)))).getD default); let z6 := (x.snd.snd.set 1 (wr .i64 (x.snd.snd.getD 1 0 + 1))); let z3 := (Hp.mk [(pc p3 []), [AV.int .i64 x.snd.fst], (pc p4 []), [AV.int .i64 0], [AV.ints .i64 65 z6], (pc p5 []), [AV.int .i8 z1.frm, AV.int .i8 z1.to, AV.int .u8 z1.pro, AV.int .u8 z1.drp, AV.bool z1.cas], (pc (N17 p5 z1).fst []), (pc (N17 p5 z1).fst [])] [] [] 0 0 0); Tr.br (decide (x.fst < p2)) (Tr.br (decide (0 ≤ x.fst) && decide (x.fst < Int.ofNat p1.length)) (Tr.br (isPS Pz 17 [p5.av, Mv.av z1] ((d2 dPos dB).res (N17 p5 z1))) (Tr.br (decide (z6.getD 1 0 > 1000000)) (Tr.ret (Out.panic (AV.iface 123 (AV.agg [])) z3)) (Tr.br (isPS Pz 16 [(N17 p5 z1).fst.av] (dB.res (N16 (N17 p5 z1).fst))) (Tr.br (N16 (N17 p5 z1).fst) (Tr.ret (Out.norm (St.mk z4 (Hp.mk [(pc p3 []), [AV.int .i64 x.snd.fst], (pc p4 []), [AV.int .i64 0], [AV.ints .i64 65 z6], (pc p5 [])] [] [] 0 0 0)))) (Tr.br (isPS Pz 11 [(N17 p5 z1).fst.av] ((dL ET.mv).res z5)) (Tr.br (isLS Pz (bodL Pz 112 8) (St.mk (AV.ptr 4 0 :: AV.any :: AV.cint .i64 (wr .i64 (0 + 1)) :: AV.cint .i64 3 :: AV.func 54 [] [AV.ptr 1 0] :: AV.any :: AV.ptr 8 0 :: (an 35 (AV.list ET.mv z5 Tk.fresh :: AV.int .i64 (Int.ofNat z5.length) :: AV.cint .i64 0 :: (an 17 [])))) z3) (O9223_5 z5 (Int.ofNat z5.length) p3 p4 p5 z1 (N17 p5 z1).fst (N17 p5 z1).fst z2)) (Tr.ret (Out.norm (St.mk z4 (Hp.mk [(pc p3 []), [AV.int .i64 z2.snd.snd.fst], (pc p4 []), [AV.int .i64 0], [AV.ints .i64 65 z2.snd.snd.snd], (pc p5 [])] [] [] 0 0 0)))) Tr.fail) Tr.fail)) Tr.fail)) Tr.fail) Tr.fail) (Tr.ret (Out.exit 0 (St.mk (AV.ptr 4 0 :: AV.any :: AV.cint .i64 0 :: AV.cint .i64 3 :: AV.func 54 [] [AV.ptr 1 0] :: AV.any :: AV.ptr 5 0 :: (an 35 (AV.list ET.mv p1 Tk.fresh :: AV.int .i64 p2 :: AV.int .i64 x.fst :: AV.bool (decide (x.fst < p2)) :: (an 16 [])))) (Hp.mk [(pc p3 []), [AV.int .i64 x.snd.fst], (pc p4 []), [AV.int .i64 0], [AV.ints .i64 65 x.snd.snd], (pc p5 [])] [] [] 0 0 0))))) := by kernel_rfl
theorem L9223_6 (p1 : (List Mv)) (p2 : Int) (p3 : Pos) (p4 : Pos) (p5 : Pos) (x : (Int × Int × (List Int))) (r : (Int × Bool × Int × (List Int))) (h : lp9223_6 p1 p2 p3 p4 p5 x = some r) : LSpec Pz (bodL Pz 112 8) (S9223_6 p1 p2 p3 p4 p5 x) (O9223_6 p1 p2 p3 p4 p5 r) := LSpec.itd (S := S9223_6 p1 p2 p3 p4 p5) (O := O9223_6 p1 p2 p3 p4 p5) (ok := okL9223_6 p1 p2 p3 p4 p5) (st := st9223_6 p1 p2 p3 p4 p5) hB9223_6 (fun x => gr_eq (E9223_6 p1 p2 p3 p4 p5 x) (gr_br (gr_guard (gr_call (P17 (p5) (p1.getD x.fst.toNat default)) (gr_br (gr_no) (gr_call (P16 ((N17 p5 (p1.getD x.fst.toNat default)).fst)) (gr_br (gr_ret (rl_go (wk_nrm (ks := (1 :: 5 :: (rn 7 35 (rn 45 17 [])))) (gs := [42, 43, 44]) (b := true) rfl (by kernel_rfl)))) (gr_call (P11 ((N17 p5 (p1.getD x.fst.toNat default)).fst)) (gr_loop (fun h => L9223_5 (N11 (N17 p5 (p1.getD x.fst.toNat default)).fst) (Int.ofNat (N11 (N17 p5 (p1.getD x.fst.toNat default)).fst).length) (p3) (p4) (p5) (p1.getD x.fst.toNat default) ((N17 p5 (p1.getD x.fst.toNat default)).fst) ((N17 p5 (p1.getD x.fst.toNat default)).fst) ((0, x.snd.fst, x.snd.snd.set 1 (wr .i64 (x.snd.snd.getD 1 0 + 1)))) _ (some_getD h)) (wk_nrm (ks := (1 :: 5 :: (rn 7 35 (rn 45 17 [])))) (gs := [42, 43, 44]) (b := true) rfl (by kernel_rfl)) (gr_ret (rl_go (wk_nrm (ks := (1 :: 5 :: (rn 7 35 (rn 45 17 [])))) (gs := [42, 43, 44]) (b := true) rfl (by kernel_rfl))))))))))) (gr_ret (rl_exit rfl (wk_nrm (ks := (1 :: 5 :: (rn 7 35 (rn 46 16 [])))) (gs := []) (b := false) rfl (by kernel_rfl)))))) many x r h
noncomputable def F9223_6 : Code → St → Tr Out := sureL Pz (fun s => O9223_6 (tL (ET.mv) (tT s 42)) (tI (tT s 43)) (Kz.Pos.mk (tI (tH s 0 0)) (tN (tH s 0 1)) (tU (tH s 0 2)) (tN (tH s 0 3)) (tI (tH s 0 4)) (tN (tH s 0 5)) (tI (tH s 0 6)) (tN (tH s 0 7)) (tI (tH s 0 8)) (tI (tH s 0 9))) (Kz.Pos.mk (tI (tH s 2 0)) (tN (tH s 2 1)) (tU (tH s 2 2)) (tN (tH s 2 3)) (tI (tH s 2 4)) (tN (tH s 2 5)) (tI (tH s 2 6)) (tN (tH s 2 7)) (tI (tH s 2 8)) (tI (tH s 2 9))) (Kz.Pos.mk (tI (tH s 5 0)) (tN (tH s 5 1)) (tU (tH s 5 2)) (tN (tH s 5 3)) (tI (tH s 5 4)) (tN (tH s 5 5)) (tI (tH s 5 6)) (tN (tH s 5 7)) (tI (tH s 5 8)) (tI (tH s 5 9))) ((lp9223_6 (tL (ET.mv) (tT s 42)) (tI (tT s 43)) (Kz.Pos.mk (tI (tH s 0 0)) (tN (tH s 0 1)) (tU (tH s 0 2)) (tN (tH s 0 3)) (tI (tH s 0 4)) (tN (tH s 0 5)) (tI (tH s 0 6)) (tN (tH s 0 7)) (tI (tH s 0 8)) (tI (tH s 0 9))) (Kz.Pos.mk (tI (tH s 2 0)) (tN (tH s 2 1)) (tU (tH s 2 2)) (tN (tH s 2 3)) (tI (tH s 2 4)) (tN (tH s 2 5)) (tI (tH s 2 6)) (tN (tH s 2 7)) (tI (tH s 2 8)) (tI (tH s 2 9))) (Kz.Pos.mk (tI (tH s 5 0)) (tN (tH s 5 1)) (tU (tH s 5 2)) (tN (tH s 5 3)) (tI (tH s 5 4)) (tN (tH s 5 5)) (tI (tH s 5 6)) (tN (tH s 5 7)) (tI (tH s 5 8)) (tI (tH s 5 9))) ((tI (tT s 44)), (tI (tH s 1 0)), (tN (tH s 4 0)))).getD default))
theorem sF9223_6 : ∀ b, LSound Pz b (F9223_6 b) := sureL_sound
noncomputable def B9223 : Base := baseOf Pz (fun f i => lkK f i K9223) [(11, G11), (16, G16), (17, G17)] [(112, 8, fun b s => (bif (Kz.shp [0, 2, 3, 4, 6, 42, 43, 44] s == [164, 3, 3, 1054, 276, 11, 3, 3, 10, 3, 7, 4, 7, 3, 7, 3, 7, 3, 3, 1, 3, 10, 3, 7, 4, 7, 3, 7, 3, 7, 3, 3, 1, 3, 1, 7, 10, 3, 7, 4, 7, 3, 7, 3, 7, 3, 3, 5, 3, 3, 3, 3, 2, 10, 3, 7, 4, 7, 3, 7, 3, 7, 3, 3, 10, 3, 7, 4, 7, 3, 7, 3, 7, 3, 3, 5, 3, 3, 3, 3, 2, 10, 3, 7, 4, 7, 3, 7, 3, 7, 3, 3, 10, 3, 7, 4, 7, 3, 7, 3, 7, 3, 3] && Kz.lits [(2, wr .i64 (wr .i64 (0 + 1) + 1)), (3, 3)] s) then F9223_4 b s else (bif (Kz.shp [0, 2, 3, 4, 6, 42, 43, 44] s == [164, 3, 3, 1054, 228, 11, 3, 3, 10, 3, 7, 4, 7, 3, 7, 3, 7, 3, 3, 1, 3, 10, 3, 7, 4, 7, 3, 7, 3, 7, 3, 3, 1, 3, 1, 7, 10, 3, 7, 4, 7, 3, 7, 3, 7, 3, 3, 5, 3, 3, 3, 3, 2, 10, 3, 7, 4, 7, 3, 7, 3, 7, 3, 3, 10, 3, 7, 4, 7, 3, 7, 3, 7, 3, 3] && Kz.lits [(2, wr .i64 (0 + 1)), (3, 3)] s) then F9223_5 b s else (bif (Kz.shp [0, 2, 3, 4, 6, 42, 43, 44] s == [164, 3, 3, 1054, 180, 11, 3, 3, 10, 3, 7, 4, 7, 3, 7, 3, 7, 3, 3, 1, 3, 10, 3, 7, 4, 7, 3, 7, 3, 7, 3, 3, 1, 3, 1, 7, 10, 3, 7, 4, 7, 3, 7, 3, 7, 3, 3] && Kz.lits [(2, 0), (3, 3)] s) then F9223_6 b s else .fail))))] []
theorem hB9223 : BOk B9223 := base_ok named_z ⟨s11, s16, s17, trivial⟩ ⟨(cnd_sound (c := fun s => (Kz.shp [0, 2, 3, 4, 6, 42, 43, 44] s == [164, 3, 3, 1054, 276, 11, 3, 3, 10, 3, 7, 4, 7, 3, 7, 3, 7, 3, 3, 1, 3, 10, 3, 7, 4, 7, 3, 7, 3, 7, 3, 3, 1, 3, 1, 7, 10, 3, 7, 4, 7, 3, 7, 3, 7, 3, 3, 5, 3, 3, 3, 3, 2, 10, 3, 7, 4, 7, 3, 7, 3, 7, 3, 3, 10, 3, 7, 4, 7, 3, 7, 3, 7, 3, 3, 5, 3, 3, 3, 3, 2, 10, 3, 7, 4, 7, 3, 7, 3, 7, 3, 3, 10, 3, 7, 4, 7, 3, 7, 3, 7, 3, 3] && Kz.lits [(2, wr .i64 (wr .i64 (0 + 1) + 1)), (3, 3)] s)) sF9223_4 (cnd_sound (c := fun s => (Kz.shp [0, 2, 3, 4, 6, 42, 43, 44] s == [164, 3, 3, 1054, 228, 11, 3, 3, 10, 3, 7, 4, 7, 3, 7, 3, 7, 3, 3, 1, 3, 10, 3, 7, 4, 7, 3, 7, 3, 7, 3, 3, 1, 3, 1, 7, 10, 3, 7, 4, 7, 3, 7, 3, 7, 3, 3, 5, 3, 3, 3, 3, 2, 10, 3, 7, 4, 7, 3, 7, 3, 7, 3, 3, 10, 3, 7, 4, 7, 3, 7, 3, 7, 3, 3] && Kz.lits [(2, wr .i64 (0 + 1)), (3, 3)] s)) sF9223_5 (cnd_sound (c := fun s => (Kz.shp [0, 2, 3, 4, 6, 42, 43, 44] s == [164, 3, 3, 1054, 180, 11, 3, 3, 10, 3, 7, 4, 7, 3, 7, 3, 7, 3, 3, 1, 3, 10, 3, 7, 4, 7, 3, 7, 3, 7, 3, 3, 1, 3, 1, 7, 10, 3, 7, 4, 7, 3, 7, 3, 7, 3, 3] && Kz.lits [(2, 0), (3, 3)] s)) sF9223_6 fail_sound))), trivial⟩ trivial
noncomputable def N9223 (a : Pos) : (Int × Int) := (bif N16 a then ((0), (0)) else ((((lp9223_6 (N11 a) (Int.ofNat (N11 a).length) a a a (0, 0, li z65)).getD default).snd.snd.fst), (0)))
noncomputable def ok9223 (a : Pos) : Bool := (!(decide ((li z65).getD 0 0 > 1000000)) && (ok16 (a) && (bif N16 a then true else (ok11 (a) && ((lp9223_6 (N11 a) (Int.ofNat (N11 a).length) a a a (0, 0, li z65)).isSome && true)))))
theorem E9223 (a : Pos) : evPure B9223 14 22 [Pos.av a, .cint .i64 3] = (let z1 := z65; let z2 := ((lp9223_6 (N11 a) (Int.ofNat (N11 a).length) a a a (0, 0, li z1)).getD default); Tr.br (decide ((li z1).getD 0 0 > 1000000)) Tr.fail (Tr.br (isPS Pz 16 [a.av] (dB.res (N16 a))) (Tr.br (N16 a) (Tr.ret (AV.tuple [AV.cint .i64 0, AV.cint .i64 0])) (Tr.br (isPS Pz 11 [a.av] ((dL ET.mv).res (N11 a))) (Tr.br (isLS Pz (bodL Pz 112 8) (St.mk (AV.ptr 4 0 :: AV.any :: AV.cint .i64 0 :: AV.cint .i64 3 :: AV.func 54 [] [AV.ptr 1 0] :: AV.any :: AV.ptr 5 0 :: (an 35 (AV.list ET.mv (N11 a) Tk.fresh :: AV.int .i64 (Int.ofNat (N11 a).length) :: AV.cint .i64 0 :: (an 17 [])))) (Hp.mk [(pc a []), [AV.cint .i64 0], (pc a []), [AV.cint .i64 0], [AV.ints .i64 65 (li z1)], (pc a [])] [] [] 0 0 0)) (O9223_6 (N11 a) (Int.ofNat (N11 a).length) a a a z2)) (Tr.ret (AV.tuple [AV.int .i64 z2.snd.snd.fst, AV.cint .i64 0])) Tr.fail) Tr.fail)) Tr.fail)) := by kernel_rfl
theorem P9223 (a : Pos) (h : ok9223 a = true) : PS Pz 22 [Pos.av a, .cint .i64 3] ((d2 (dI .i64) (dI .i64)).res (N9223 a)) := ps_gotR hB9223 (E9223 a) (gr_nguard (gr_call (P16 (a)) (gr_br (gr_ret rfl) (gr_call (P11 (a)) (gr_loop (fun h => L9223_6 (N11 a) (Int.ofNat (N11 a).length) (a) (a) (a) ((0, 0, li z65)) _ (some_getD h)) (wk_nrm (ks := (1 :: 5 :: (rn 7 35 (rn 45 17 [])))) (gs := [42, 43, 44]) (b := true) rfl (by kernel_rfl)) (gr_ret rfl)))))) h
theorem lit22 {a : Pos} {k : Int} {v : AV} (h : PS Pz 22 [Pos.av a, .cint .i64 k] v) : PS Pz 22 [Pos.av a, .int .i64 k] v := ⟨h.1.args fun w cs hr => (by cases hr with | cons q r => cases r with | cons q2 r2 => cases q2; exact .cons q (.cons (.cint _ _) r2)), h.2⟩
noncomputable def N22 (a : Pos) (b : Int) : (Int × Int) := (bif b == 0 then N9220 a else (bif b == 1 then N9221 a else (bif b == 2 then N9222 a else N9223 a)))
noncomputable def ok22 (a : Pos) (b : Int) : Bool := (bif b == 0 then ok9220 a else (bif b == 1 then ok9221 a else (bif b == 2 then ok9222 a else (bif b == 3 then ok9223 a else false))))
theorem P22 (a : Pos) (b : Int) (h : ok22 a b = true) : PS Pz 22 [Pos.av a, .int .i64 b] ((d2 (dI .i64) (dI .i64)).res (N22 a b)) := by
  unfold ok22 at h
  unfold N22
  cases h0 : b == 0 with
  | true => rw [h0] at h; rw [beq_iff_eq.1 h0]; exact lit22 (P9220 a h)
  | false => cases h1 : b == 1 with
    | true => rw [h0, h1] at h; rw [beq_iff_eq.1 h1]; exact lit22 (P9221 a h)
    | false => cases h2 : b == 2 with
      | true => rw [h0, h1, h2] at h; rw [beq_iff_eq.1 h2]; exact lit22 (P9222 a h)
      | false => cases h3 : b == 3 with
        | true => rw [h0, h1, h2, h3] at h; rw [beq_iff_eq.1 h3]; exact lit22 (P9223 a h)
        | false => rw [h0, h1, h2, h3] at h; cases h
noncomputable def G22 : List AV → Tr AV := g2 dPos (dI .i64) (fun a b => sure Pz 22 [Pos.av a, .int .i64 b] ((d2 (dI .i64) (dI .i64)).res (N22 a b)))
theorem s22 : Sound Pz 22 G22 := sound2 (fun _ _ => at_sure)
end Kz
end
section
namespace Kz
open Go Go.RowKit
set_option maxRecDepth 100000
set_option maxHeartbeats 2000000
set_option linter.unusedSectionVars false
theorem leaf_at {K D : Nat} (hKD : D = K + 1) (hK : D < 65) {q c : Pos} (hc : PosIn c) (h : okq c = true) : Spc K D (fun y => itl (fun x => bif okF D c (N11 c) x then stF D (N11 c) x else .bad) many (0, y.1, y.2)) (pl c).length := by
  rw [(okq_law hc h).1]
  exact leaf_spc hKD hK hc _
theorem kids {q : Pos} (hp : PosIn q) (h : okq q = true) (hk : ∀ m ∈ pl q, okq (mvd q m) = true) : ∀ m ∈ N11 q, PosIn (N17 q m).1 ∧ N16 (N17 q m).1 = false ∧ 1 ≤ (pl (N17 q m).1).length ∧ okq (N17 q m).1 = true ∧ (N17 q m).1 = mvd q m := by
  intro m hm
  obtain ⟨e, _, _, hl⟩ := okq_law hp h
  rw [e] at hm
  obtain ⟨e1, e2⟩ := hl m hm
  obtain ⟨_, h2, h3, _⟩ := okq_law e2 (hk m hm)
  rw [e1]
  exact ⟨e2, h2, h3, hk m hm, rfl⟩
theorem node_at {K D : Nat} (hKD : D = K + 2) (hD : D < 65) {q : Pos} (hp : PosIn q) (h : okq q = true) (hk : ∀ m ∈ pl q, okq (mvd q m) = true) (hl : (pl q).length ≤ 1000000) (inner : Mv → LX → Option LQ)
    (hi : ∀ m x, inner m x = itl (fun x => bif okF D (N17 q m).1 (N11 (N17 q m).1) x then stF D (N11 (N17 q m).1) x else .bad) many x) :
    Spc K D (fun y => itl (fun x => bif okN (K + 1) q (N11 q) inner x then stN (K + 1) q (N11 q) inner x else .bad) many (0, y.1, y.2)) ((pl q).map fun m => (pl (mvd q m)).length).sum := by
  obtain ⟨e, _, _, _⟩ := okq_law hp h
  have key := node_spc (K := K) (D := D) (by omega) hD hp (l := N11 q) (by rw [e]; exact hl) inner (fun m => (pl (N17 q m).1).length) fun m hm => by
    obtain ⟨k1, k2, k3, k4, _⟩ := kids hp h hk m hm
    refine ⟨k1, k2, k3, ?_⟩
    have : (fun y : Int × List Int => inner m (0, y.1, y.2)) = fun y => itl (fun x => bif okF D (N17 q m).1 (N11 (N17 q m).1) x then stF D (N11 (N17 q m).1) x else .bad) many (0, y.1, y.2) := funext fun y => hi m _
    rw [this]
    exact leaf_at (by omega) hD (q := q) k1 k4
  have : ((N11 q).map fun m => (pl (N17 q m).1).length) = ((pl q).map fun m => (pl (mvd q m)).length) := by
    rw [← e]
    refine List.map_congr_left fun m hm => ?_
    rw [(kids hp h hk m hm).2.2.2.2]
  rw [this] at key
  exact key
def g0L : List Int := li z65
theorem iv0 {D : Nat} (h : D = 1 ∨ D = 2 ∨ D = 3) : Iv 0 D 0 g0L := by
  refine ⟨rfl, by rcases h with rfl | rfl | rfl <;> rfl, fun j h1 h2 => ?_⟩
  have : j = 1 ∨ j = 2 := by omega
  rcases this with rfl | rfl <;> exact ⟨by decide, by decide⟩
theorem run0 {D S : Nat} {f : Int × List Int → Option LQ} (h : Spc 0 D f S) (hD : D = 1 ∨ D = 2 ∨ D = 3) (hS : S ≤ 1000000) : (f (0, g0L)).isSome = true ∧ ((f (0, g0L)).getD default).2.2.1 = S := by
  obtain ⟨r, e, h1, _⟩ := h 0 g0L (by omega) (by omega) (iv0 hD)
  rw [e]
  exact ⟨rfl, by rw [show (some r).getD default = r from rfl, h1]; omega⟩
section
variable {q : Pos} (hp : PosIn q) (h : okq q = true)
include hp h
theorem way1 (hl : (pl q).length ≤ 1000000) : ok9221 q = true ∧ N9221 q = (((pl q).length : Int), (0 : Int)) := by
  have hon := (okq_law hp h).2.1
  obtain ⟨r1, r2⟩ := run0 (leaf_at (K := 0) (D := 1) rfl (by omega) (q := q) hp h) (by omega) hl
  have e : lp9221_1 (N11 q) (Int.ofNat (N11 q).length) q q q (0, 0, g0L) = itl (fun x => bif okF 1 q (N11 q) x then stF 1 (N11 q) x else .bad) many (0, 0, g0L) := rfl
  have o16 : ok16 q = true := a_true (t14 hp) fun _ => rfl
  dsimp only at r1 r2
  rw [← e] at r1 r2
  unfold ok9221 N9221
  constructor
  · rw [o16, hon, t11 hp]
    exact a_true (by decide) fun _ => a_true rfl fun _ => c_true (fun h => by cases h) fun _ => a_true rfl fun _ => a_true r1 fun _ => rfl
  · rw [hon]
    exact congrArg (·, (0 : Int)) r2
theorem way2 (hk : ∀ m ∈ pl q, okq (mvd q m) = true) (hl : (pl q).length ≤ 1000000) {n : Nat} (hn : ((pl q).map fun m => (pl (mvd q m)).length).sum = n) (hn1 : n ≤ 1000000) : ok9222 q = true ∧ N9222 q = ((n : Int), (0 : Int)) := by
  have hon := (okq_law hp h).2.1
  obtain ⟨r1, r2⟩ := run0 (node_at (K := 0) (D := 2) rfl (by omega) hp h hk hl (fun m x => lp9222_2 (N11 (N17 q m).1) (Int.ofNat (N11 (N17 q m).1).length) q q q m (N17 q m).1 (N17 q m).1 x) (fun m x => rfl)) (by omega) (by omega)
  have e : lp9222_3 (N11 q) (Int.ofNat (N11 q).length) q q q (0, 0, g0L) = itl (fun x => bif okN 1 q (N11 q) (fun m x => lp9222_2 (N11 (N17 q m).1) (Int.ofNat (N11 (N17 q m).1).length) q q q m (N17 q m).1 (N17 q m).1 x) x then stN 1 q (N11 q) (fun m x => lp9222_2 (N11 (N17 q m).1) (Int.ofNat (N11 (N17 q m).1).length) q q q m (N17 q m).1 (N17 q m).1 x) x else .bad) many (0, 0, g0L) := rfl
  have o16 : ok16 q = true := a_true (t14 hp) fun _ => rfl
  dsimp only at r1 r2
  rw [← e] at r1 r2
  rw [hn] at r2
  unfold ok9222 N9222
  constructor
  · rw [o16, hon, t11 hp]
    exact a_true (by decide) fun _ => a_true rfl fun _ => c_true (fun h => by cases h) fun _ => a_true rfl fun _ => a_true r1 fun _ => rfl
  · rw [hon]
    exact congrArg (·, (0 : Int)) r2
theorem way3 (hk : ∀ m ∈ pl q, okq (mvd q m) = true) (hkk : ∀ m ∈ pl q, ∀ k ∈ pl (mvd q m), okq (mvd (mvd q m) k) = true) (hl : (pl q).length ≤ 1000000) (hll : ∀ m ∈ pl q, (pl (mvd q m)).length ≤ 1000000) {n : Nat} (h1 : ∀ m ∈ pl q, 1 ≤ ((pl (mvd q m)).map fun k => (pl (mvd (mvd q m) k)).length).sum) (hn : ((pl q).map fun m => ((pl (mvd q m)).map fun k => (pl (mvd (mvd q m) k)).length).sum).sum = n) (hn1 : n ≤ 1000000) : ok9223 q = true ∧ N9223 q = ((n : Int), (0 : Int)) := by
  obtain ⟨he, hon, _, _⟩ := okq_law hp h
  have key := node_spc (K := 0) (D := 3) (by omega) (by omega) hp (l := N11 q) (by rw [he]; exact hl) (fun m x => lp9223_5 (N11 (N17 q m).1) (Int.ofNat (N11 (N17 q m).1).length) q q q m (N17 q m).1 (N17 q m).1 x) (fun m => ((pl (N17 q m).1).map fun k => (pl (mvd (N17 q m).1 k)).length).sum) fun m hm => by
    obtain ⟨k1, k2, k3, k4, k5⟩ := kids hp h hk m hm
    rw [he] at hm
    refine ⟨k1, k2, by rw [k5]; exact h1 m hm, ?_⟩
    exact node_at (K := 1) (D := 3) rfl (by omega) k1 k4 (by rw [k5]; exact hkk m hm) (by rw [k5]; exact hll m hm) (fun k x => lp9223_4 (N11 (N17 (N17 q m).1 k).1) (Int.ofNat (N11 (N17 (N17 q m).1 k).1).length) q q q m (N17 q m).1 (N17 q m).1 k (N17 (N17 q m).1 k).1 (N17 (N17 q m).1 k).1 x) (fun k x => rfl)
  have : ((N11 q).map fun m => ((pl (N17 q m).1).map fun k => (pl (mvd (N17 q m).1 k)).length).sum) = ((pl q).map fun m => ((pl (mvd q m)).map fun k => (pl (mvd (mvd q m) k)).length).sum) := by
    rw [← he]
    refine List.map_congr_left fun m hm => ?_
    rw [(kids hp h hk m hm).2.2.2.2]
  rw [this, hn] at key
  obtain ⟨r1, r2⟩ := run0 key (by omega) hn1
  have e : lp9223_6 (N11 q) (Int.ofNat (N11 q).length) q q q (0, 0, g0L) = itl (fun x => bif okN 1 q (N11 q) (fun m x => lp9223_5 (N11 (N17 q m).1) (Int.ofNat (N11 (N17 q m).1).length) q q q m (N17 q m).1 (N17 q m).1 x) x then stN 1 q (N11 q) (fun m x => lp9223_5 (N11 (N17 q m).1) (Int.ofNat (N11 (N17 q m).1).length) q q q m (N17 q m).1 (N17 q m).1 x) x else .bad) many (0, 0, g0L) := rfl
  have o16 : ok16 q = true := a_true (t14 hp) fun _ => rfl
  dsimp only at r1 r2
  rw [← e] at r1 r2
  unfold ok9223 N9223
  constructor
  · rw [o16, hon, t11 hp]
    exact a_true (by decide) fun _ => a_true rfl fun _ => c_true (fun h => by cases h) fun _ => a_true rfl fun _ => a_true r1 fun _ => rfl
  · rw [hon]
    exact congrArg (·, (0 : Int)) r2
end
end Kz
end
section
namespace Kz
open Go Go.RowKit Go.Proofs
set_option maxRecDepth 100000
set_option maxHeartbeats 4000000
noncomputable def K108 : List (Nat × List (Nat × List Nat)) := [(108, [(0, (1 :: (rn 3 5 []))), (1, (0 :: 1 :: (rn 3 5 [])))])]
noncomputable def B108 : Base := baseOf Pz (fun f i => lkK f i K108) [] [] []
theorem hB108 : BOk B108 := base_ok named_z trivial trivial trivial
noncomputable def N108 (a : Int) : Pos := ⟨(a), (List.replicate 64 0), (0), (List.replicate 12 0), (0), (List.take 2 (List.take 0 (List.replicate 4 0) ++ ((List.replicate 2 0).set 0 (-1)).set 1 (-1) ++ List.drop 2 (List.replicate 4 0)) ++ ((List.replicate 2 0).set 0 (-1)).set 1 (-1) ++ List.drop 4 (List.take 0 (List.replicate 4 0) ++ ((List.replicate 2 0).set 0 (-1)).set 1 (-1) ++ List.drop 2 (List.replicate 4 0))), (-1), (List.replicate 2 0), (0), (1)⟩
noncomputable def ok108 (a : Int) : Bool := true
theorem E108 (a : Int) : evPure B108 14 108 [.int .u8 a] = Tr.ret (AV.agg [AV.int .u8 a, AV.ints .u8 64 (List.replicate 64 0), AV.u64 0, AV.ints .u8 12 (List.replicate 12 0), AV.cint .u8 0, AV.ints .i8 4 (List.take 2 (List.take 0 (List.replicate 4 0) ++ ((List.replicate 2 0).set 0 (-1)).set 1 (-1) ++ List.drop 2 (List.replicate 4 0)) ++ ((List.replicate 2 0).set 0 (-1)).set 1 (-1) ++ List.drop 4 (List.take 0 (List.replicate 4 0) ++ ((List.replicate 2 0).set 0 (-1)).set 1 (-1) ++ List.drop 2 (List.replicate 4 0))), AV.cint .i8 (-1), AV.ints .u8 2 (List.replicate 2 0), AV.cint .i64 0, AV.cint .i64 1]) := by kernel_rfl
theorem P108 (a : Int) (h : ok108 a = true) : PS Pz 108 [.int .u8 a] (dPos.res (N108 a)) := ps_gotR hB108 (E108 a) (gr_ret rfl) h
noncomputable def G108 : List AV → Tr AV := g1 (dI .u8) (fun a => sure Pz 108 [.int .u8 a] (dPos.res (N108 a)))
theorem s108 : Sound Pz 108 G108 := sound1 (fun _ => at_sure)
noncomputable def K109 : List (Nat × List (Nat × List Nat)) := [(109, [(0, [1, 2, 3, 4]), (1, [0, 1, 3, 4])])]
noncomputable def B109 : Base := baseOf Pz (fun f i => lkK f i K109) [] [] []
theorem hB109 : BOk B109 := base_ok named_z trivial trivial trivial
noncomputable def N109 (a : Int) : Int := (wr .u8 (8 + a))
noncomputable def ok109 (a : Int) : Bool := true
theorem E109 (a : Int) : evPure B109 14 109 [.int .u8 a] = Tr.ret (AV.int .u8 (wr .u8 (8 + a))) := by kernel_rfl
theorem P109 (a : Int) (h : ok109 a = true) : PS Pz 109 [.int .u8 a] ((dI .u8).res (N109 a)) := ps_gotR hB109 (E109 a) (gr_ret rfl) h
noncomputable def G109 : List AV → Tr AV := g1 (dI .u8) (fun a => sure Pz 109 [.int .u8 a] ((dI .u8).res (N109 a)))
theorem s109 : Sound Pz 109 G109 := sound1 (fun _ => at_sure)
end Kz
end
