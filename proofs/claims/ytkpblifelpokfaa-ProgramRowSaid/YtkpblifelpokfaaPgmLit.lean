/- Programs that lie written out in memory; what small() makes. No condition. -/
import Derived.Test.YtkpblifelpokfaaExprLit
namespace Go.Proofs.Ytkpblifelpokfaa.PAll
open Go.RowKit Go.Proofs.YtkpblifelpokfaaW.PrintWords Go.Proofs.YtkpblifelpokfaaW.PrintLast Go.Proofs.YtkpblifelpokfaaW.PrintMore
set_option linter.unusedVariables false
set_option linter.unusedSimpArgs false

set_option maxHeartbeats 2000000 in
theorem adds6_calls (w : World) : Calls Try.prog 25 #[] w (AddsIs w) := by
  go_enter Try.func25, Try.ntmps25
  go_wp2
  refine bodyPost_ret (v := .agg #[.int .i64 2, .slice (some ⟨w.heap.size + 1 + 1 + 1 + 1, 0, none⟩) 8 8]) (by simp [results, Try.results25, go_sem]) rfl ⟨w.heap.size + 1 + 1 + 1 + 1, w.heap.size + 1, w.heap.size + 1 + 1, w.heap.size + 1 + 1 + 1, rfl, ?_, ?_⟩
  · have e : ∀ (W : World) (o : Obj) (n : Nat), n = W.heap.size → (W.alloc o).heap[n]? = some o := fun W o n h => by rw [h]; exact blk_new W o
    refine ⟨e _ _ _ (by simp), ?_, ?_, ?_, by omega, by omega, by omega, by omega⟩
    · exact blk_alloc (blk_alloc (blk_alloc (e _ _ _ (by simp)) _) _) _
    · exact blk_alloc (blk_alloc (e _ _ _ (by simp)) _) _
    · exact blk_alloc (e _ _ _ (by simp)) _
  · repeat (first | exact Below.refl _ _ | apply below_alloc)

/-- A definition, with where its body lies. -/
structure Lit2 where
  x : S24
  A : Option Addr
  c : Nat
def Lit2.cells (l : Lit2) : List Value := [.int .i64 l.x.f0, .slice l.A l.x.f1.length l.c]
def Lit2.ok (w : World) (l : Lit2) : Prop := l.x.f1.length ≤ l.c ∧ k33.C w l.A l.x.f1.length l.x.f1
theorem flat2_at (ls : List Lit2) : ∀ (j : Nat) (l : Lit2), ls[j]? = some l → ∀ i u, l.cells[i]? = some u → (ls.flatMap Lit2.cells)[j * 2 + i]? = some u := by
  induction ls with
  | nil => intro j l h; simp at h
  | cons a r ih =>
    intro j l h i u hu
    have hi : i < 2 := by
      have := (List.getElem?_eq_some_iff.1 hu).1
      simpa [Lit2.cells] using this
    cases j with
    | zero =>
      simp at h
      subst h
      rw [List.flatMap_cons, List.getElem?_append_left (by simp [Lit2.cells]; omega)]
      simpa using hu
    | succ j =>
      simp at h
      rw [List.flatMap_cons, List.getElem?_append_right (by simp [Lit2.cells]; omega)]
      have e : (j + 1) * 2 + i - a.cells.length = j * 2 + i := by simp [Lit2.cells]; omega
      rw [e]
      exact ih j l h i u hu
/-- A program written out in a block reads as its definitions. -/
theorem C_lit2 {w : World} {g : Nat} {cs : Array Value} (ls : List Lit2) (hb : w.heap[g]? = some (.cells cs 24 (0, 0))) (hc : cs.toList = ls.flatMap Lit2.cells) (hl : ls.length ≤ 1000000) (hok : ∀ l ∈ ls, l.ok w) (n : Nat) (hn : n ≤ ls.length := by decide) :
    Kd.C k24 w (some ⟨g, 0, none⟩) n ((ls.take n).map Lit2.x) := by
  refine ⟨by simp; omega, by omega, fun _ => ⟨_, rfl, fun j p hj => ?_⟩⟩
  rw [List.getElem?_map, List.getElem?_take] at hj
  split at hj
  · obtain ⟨l, hl1, rfl⟩ := Option.map_eq_some_iff.1 hj
    have hm := List.mem_of_getElem? hl1
    refine ⟨l.cells, rfl, k24_mk w l.x (hok l hm).1 (hok l hm).2, fun i u hu => ?_⟩
    have h := flat2_at ls j l hl1 i u hu
    rw [← hc] at h
    rw [add_plain]
    exact (blk_cell hb _).trans (by rw [← Array.getElem?_toList]; exact h)
  · simp at hj
theorem all2_cons {w : World} {l : Lit2} {ls : List Lit2} (h : l.ok w) (hs : ∀ l ∈ ls, l.ok w) : ∀ k ∈ l :: ls, k.ok w := by
  intro k hk
  rcases List.mem_cons.1 hk with rfl | h2
  · exact h
  · exact hs k h2
theorem all2_nil {w : World} : ∀ k ∈ ([] : List Lit2), k.ok w := by intro k hk; simp at hk

end Go.Proofs.Ytkpblifelpokfaa.PAll
