/- Part 3 of the texts under the proof: an abstract interpreter, the summaries of functions, plain laws. -/
import Derived.Test.YtkigphpfdagcnaaGreatDoorZ2
set_option linter.unusedSectionVars false
set_option linter.unusedVariables false
set_option linter.unusedSimpArgs false
set_option linter.unnecessarySimpa false
section
namespace Kz
open Go Go.RowKit
section
variable {g : Gh} {h : Hp} {w : World}
theorem MR.newRoom (m : MR g h w) {cap z : Nat} (hmax : cap ≤ maxLen) {cells : Array Value} {ty : TypeId} (hs : cells.size = cap * z) (w1 : World) (hw : w1 = w ∨ w1 = w.drew) :
    MR { g with own := g.own ++ [some (w.heap.size, cap, z)] } { h with toks := h.toks ++ [0] } (w1.alloc (.cells cells ty)) ∧
      Le g h.toks w { g with own := g.own ++ [some (w.heap.size, cap, z)] } (h.toks ++ [0]) (w1.alloc (.cells cells ty)) := by
  have hsize : w1.heap.size = w.heap.size := by rcases hw with rfl | rfl <;> rfl
  have m1 : MR g h (w1.alloc (.cells cells ty)) ∧ Le g h.toks w g h.toks (w1.alloc (.cells cells ty)) := by
    rcases hw with rfl | rfl
    · exact m.alloc _
    · obtain ⟨a, b⟩ := m.drew
      obtain ⟨c, d⟩ := a.alloc (.cells cells ty)
      exact ⟨c, b.trans d⟩
  obtain ⟨m1, l1⟩ := m1
  have hnew : (w1.alloc (.cells cells ty)).heap[w.heap.size]? = some (.cells cells ty (0, 0)) := by
    rw [← hsize]; exact heap_alloc_new w1 _
  have l2 : Le g h.toks (w1.alloc (.cells cells ty)) { g with own := g.own ++ [some (w.heap.size, cap, z)] } (h.toks ++ [0]) (w1.alloc (.cells cells ty)) :=
    ⟨rfl, Below.refl _ _, fun _ _ x => x, fun _ _ _ _ x => x, fun _ _ x => x, fun _ _ x => x, fun _ x => x, fun k n x => ⟨n, by
      rw [List.getElem?_append_left (List.getElem?_eq_some_iff.1 x).1]; exact x, Nat.le_refl _, fun _ => by
      have := (List.getElem?_eq_some_iff.1 x).1
      simp only
      rw [List.getElem?_append_left (by rw [m.tlen]; exact this)]⟩⟩
  have notvar : w.heap.size ∉ g.vars := fun hv => by
    obtain ⟨i, hi⟩ := List.getElem?_of_mem hv
    have hi' := (List.getElem?_eq_some_iff.1 hi).1
    obtain ⟨_, _, _, _, d, _⟩ := m.var i _ _ hi (List.getElem?_eq_getElem (by rw [← m.vlen]; exact hi'))
    exact absurd (lt_of_some d) (Nat.lt_irrefl _)
  have notown : ∀ (j c z' : Nat), g.own[j]? ≠ some (some (w.heap.size, c, z')) := fun j c z' x => by
    obtain ⟨_, _, _, _, _, _, _, d, _⟩ := m.tok j _ c z' x
    exact absurd (lt_of_some d) (Nat.lt_irrefl _)
  have new : ∀ (k : Nat) x, (g.own ++ [some (w.heap.size, cap, z)])[k]? = some x → g.own[k]? = some x ∨ (k = g.own.length ∧ x = some (w.heap.size, cap, z)) := by
    intro i c' x
    rcases Nat.lt_or_ge i g.own.length with h' | h'
    · rw [List.getElem?_append_left h'] at x; exact .inl x
    · rw [List.getElem?_append_right h'] at x
      obtain ⟨a, b⟩ := List.getElem?_eq_some_iff.1 x
      simp at a b
      exact .inr ⟨by omega, b.symm⟩
  have hle := l1.trans l2
  refine ⟨⟨m1.base, m1.fzlt, m1.vlen, fun i c l h1 h2 => ?_, m1.vnd, by simp [m.tlen], fun k h1 => ?_, fun k b cap' z' h1 => ?_, fun k k' b c1 z1 c2 z2 h1 h2 => ?_, m1.llen, fun l c r h1 h2 => ?_, m1.lnd, m1.defs, fun p hp => (m.glob p hp).mono hle⟩, hle⟩
  · obtain ⟨a, b, cells, ty, d, e⟩ := m1.var i c l h1 h2
    exact ⟨a, b, cells, ty, d, e.mono l2⟩
  · rcases new k _ h1 with a | ⟨_, e⟩
    · have := m.tok0 k a
      show (h.toks ++ [0])[k]? = _
      rw [List.getElem?_append_left (List.getElem?_eq_some_iff.1 this).1]
      exact this
    · cases e
  · rcases new k _ h1 with a | ⟨e1, e2⟩
    · obtain ⟨n, cs, t, h2, h3⟩ := m1.tok k b cap' z' a
      refine ⟨n, cs, t, ?_, h3⟩
      show (h.toks ++ [0])[k]? = _
      rw [List.getElem?_append_left (List.getElem?_eq_some_iff.1 h2).1]
      exact h2
    · simp only [Option.some.injEq, Prod.mk.injEq] at e2
      obtain ⟨rfl, rfl, rfl⟩ := e2
      refine ⟨0, cells, ty, ?_, Nat.zero_le _, hmax, m.base, hnew, hs, fun o x => absurd (m.fzlt _ _ x) (Nat.lt_irrefl _), notvar⟩
      show (h.toks ++ [0])[k]? = _
      rw [e1, m.tlen]; simp
  · rcases new k _ h1 with a | ⟨e1, e2⟩ <;> rcases new k' _ h2 with b' | ⟨e3, e4⟩
    · exact m1.tnd k k' b c1 z1 c2 z2 a b'
    · simp only [Option.some.injEq, Prod.mk.injEq] at e4
      obtain ⟨rfl, rfl, rfl⟩ := e4
      exact absurd a (notown k c1 z1)
    · simp only [Option.some.injEq, Prod.mk.injEq] at e2
      obtain ⟨rfl, rfl, rfl⟩ := e2
      exact absurd b' (notown k' c2 z2)
    · omega
  · obtain ⟨a, R, b, d⟩ := m1.loop l c r h1 h2
    exact ⟨a, R, b, d.mono l2⟩
end
end Kz
end
section
namespace Kz
open Go
@[reducible] def rn (a n : Nat) (l : List Nat) : List Nat := match n with
  | 0 => l
  | n + 1 => a :: rn (a + 1) n l
@[reducible] def an (n : Nat) (l : List AV) : List AV := match n with
  | 0 => l
  | n + 1 => AV.any :: an n l
@[reducible] def pc (p : Pos) (l : List AV) : List AV := AV.int .u8 p.variant :: AV.ints .u8 64 p.board :: AV.u64 p.promoted :: AV.ints .u8 12 p.pockets :: AV.int .u8 p.turn :: AV.ints .i8 4 p.rooks :: AV.int .i8 p.passing :: AV.ints .u8 2 p.checks :: AV.int .i64 p.half :: AV.int .i64 p.full :: l
end Kz
end
