/- A block of definitions, each with no body or with a body of one part: that it reads as a program of its length. No condition. -/
import Derived.Test.YtkpblifelpokfaaPgmLit
import Derived.Test.YtkpblifelpokfaaExprRow
namespace Go.Proofs.Ytkpblifelpokfaa.PAll
open Go.RowKit Go.Proofs.YtkpblifelpokfaaW.PrintWords Go.Proofs.YtkpblifelpokfaaW.PrintLast Go.Proofs.YtkpblifelpokfaaW.PrintMore
set_option linter.unusedVariables false
set_option linter.unusedSimpArgs false

def Slot (w : World) (v : Value) : Prop := v = .slice none 0 0 ∨ ∃ h, v = .slice (some ⟨h, 0, none⟩) 1 1 ∧ w.heap[h]? = some (.cells #[.int .i64 0, .int .i64 0, .int .i64 0, .slice none 0 0] 33 (0, 0))
structure Many (w : World) (G N : Nat) (cs : Array Value) : Prop where
  b : w.heap[G]? = some (.cells cs 24 (0, 0))
  sz : cs.size = N * 2
  p : ∀ i, i < N → cs[i * 2]? = some (.int .i64 0)
  s : ∀ i, i < N → ∃ v, cs[i * 2 + 1]? = some v ∧ Slot w v
theorem Slot.mono {w w1 : World} {v : Value} (h : Slot w v) (hm : ∀ (k : Nat) (cs : Array Value), w.heap[k]? = some (Obj.cells cs 33 (0, 0)) → w1.heap[k]? = some (Obj.cells cs 33 (0, 0))) : Slot w1 v := by
  rcases h with h | ⟨k, h1, h2⟩
  · exact .inl h
  · exact .inr ⟨k, h1, hm _ _ h2⟩
theorem Many.below {w w1 : World} {G N : Nat} {cs : Array Value} (h : Many w G N cs) (hb : Below w.heap.size w w1) : Many w1 G N cs :=
  ⟨blk_below h.b hb, h.sz, h.p, fun i hi => by obtain ⟨v, h1, h2⟩ := h.s i hi; exact ⟨v, h1, Slot.mono h2 (fun k cs hk => blk_below hk hb)⟩⟩
/-- A body stored into one of them. -/
theorem Many.put {w : World} {G N : Nat} {cs : Array Value} (h : Many w G N cs) (i : Nat) (hi : i < N) {v : Value} (hv : Slot w v) :
    Many (w.setCell ⟨G, i * 2 + 1, none⟩ v) G N (cs.setIfInBounds (i * 2 + 1) v) := by
  have hm : ∀ (k : Nat) (c : Array Value), w.heap[k]? = some (Obj.cells c 33 (0, 0)) → (w.setCell ⟨G, i * 2 + 1, none⟩ v).heap[k]? = some (Obj.cells c 33 (0, 0)) := fun k c hk => blk_far hk (blk_ne hk h.b (by decide)) _
  refine ⟨blk_set h.b _ _, by simp [h.sz], fun j hj => ?_, fun j hj => ?_⟩
  · rw [Array.getElem?_setIfInBounds, if_neg (by omega)]
    exact h.p j hj
  · rw [Array.getElem?_setIfInBounds]
    have hs := h.sz
    by_cases e : i * 2 + 1 = j * 2 + 1
    · rw [if_pos e, if_pos (by omega)]
      exact ⟨v, rfl, Slot.mono hv hm⟩
    · rw [if_neg e]
      obtain ⟨u, h1, h2⟩ := h.s j hj
      exact ⟨u, h1, Slot.mono h2 hm⟩
/-- A new body stored into one of them. -/
theorem Many.put_new {w : World} {G N : Nat} {cs : Array Value} (h : Many w G N cs) (i : Nat) (hi : i < N) :
    Many ((w.setCell ⟨G, i * 2 + 1, none⟩ (.slice (some ⟨w.heap.size, 0, none⟩) 1 1)).alloc (.cells #[.int .i64 0, .int .i64 0, .int .i64 0, .slice none 0 0] 33)) G N (cs.setIfInBounds (i * 2 + 1) (.slice (some ⟨w.heap.size, 0, none⟩) 1 1)) := by
  have hm : ∀ (k : Nat) (c : Array Value), w.heap[k]? = some (Obj.cells c 33 (0, 0)) → ((w.setCell ⟨G, i * 2 + 1, none⟩ (.slice (some ⟨w.heap.size, 0, none⟩) 1 1)).alloc (.cells #[.int .i64 0, .int .i64 0, .int .i64 0, .slice none 0 0] 33)).heap[k]? = some (Obj.cells c 33 (0, 0)) := fun k c hk => blk_alloc (blk_far hk (blk_ne hk h.b (by decide)) _) _
  have hn : ((w.setCell ⟨G, i * 2 + 1, none⟩ (.slice (some ⟨w.heap.size, 0, none⟩) 1 1)).alloc (.cells #[.int .i64 0, .int .i64 0, .int .i64 0, .slice none 0 0] 33)).heap[w.heap.size]? = some (.cells #[.int .i64 0, .int .i64 0, .int .i64 0, .slice none 0 0] 33 (0, 0)) := by
    have e : ∀ (W : World) (o : Obj) (n : Nat), n = W.heap.size → (W.alloc o).heap[n]? = some o := fun W o n h => by rw [h]; exact blk_new W o
    exact e _ _ _ (by simp)
  refine ⟨blk_alloc (blk_set h.b _ _) _, by simp [h.sz], fun j hj => ?_, fun j hj => ?_⟩
  · rw [Array.getElem?_setIfInBounds, if_neg (by omega)]
    exact h.p j hj
  · rw [Array.getElem?_setIfInBounds]
    have hs := h.sz
    by_cases e : i * 2 + 1 = j * 2 + 1
    · rw [if_pos e, if_pos (by omega)]
      exact ⟨_, rfl, .inr ⟨_, rfl, hn⟩⟩
    · rw [if_neg e]
      obtain ⟨u, h1, h2⟩ := h.s j hj
      exact ⟨u, h1, Slot.mono h2 hm⟩
theorem Many.C {w : World} {G N : Nat} {cs : Array Value} (h : Many w G N cs) (hN : N ≤ 1000000) : ∃ ys : List S24, ys.length = N ∧ Kd.C k24 w (some ⟨G, 0, none⟩) N ys := by
  obtain ⟨ys, hl, hy⟩ := list_of (p := fun i (y : S24) => ∃ A c, cs[i * 2]? = some (.int .i64 y.f0) ∧ cs[i * 2 + 1]? = some (.slice A y.f1.length c) ∧ y.f1.length ≤ c ∧ k33.C w A y.f1.length y.f1) N (fun i hi => by
    obtain ⟨v, h1, h2⟩ := h.s i hi
    rcases h2 with rfl | ⟨k, rfl, hk⟩
    · exact ⟨⟨0, []⟩, none, 0, h.p i hi, h1, Nat.le_refl _, Kd.C_nil _ _⟩
    · exact ⟨⟨0, [⟨0, 0, 0, []⟩]⟩, some ⟨k, 0, none⟩, 1, h.p i hi, h1, Nat.le_refl _, C_lit [⟨⟨0, 0, 0, []⟩, none, 0⟩] hk rfl (by simp) (all_cons (none_ok _ _ _ rfl) all_nil) 1 (by simp)⟩)
  refine ⟨ys, hl, hl, by omega, fun _ => ⟨_, rfl, fun j y hj => ?_⟩⟩
  obtain ⟨A, c, h0, h1, h2, h3⟩ := hy j y hj
  refine ⟨[.int .i64 y.f0, .slice A y.f1.length c], rfl, k24_mk w y h2 h3, fun i u hu => ?_⟩
  rw [add_plain]
  refine (blk_cell h.b _).trans ?_
  match i, hu with
  | 0, hu => simp at hu; subst hu; exact h0
  | 1, hu => simp at hu; subst hu; exact h1
  | i + 2, hu => simp at hu
end Go.Proofs.Ytkpblifelpokfaa.PAll
