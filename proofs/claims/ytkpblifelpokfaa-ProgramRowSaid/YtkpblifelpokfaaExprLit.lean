/- Bodies that lie written out in memory: what they read as; what adds() makes. No condition. -/
import Derived.Test.YtkpblifelpokfaaExprMay
namespace Go.Proofs.Ytkpblifelpokfaa.PAll
open Go.RowKit Go.Proofs.YtkpblifelpokfaaW.PrintWords Go.Proofs.YtkpblifelpokfaaW.PrintLast Go.Proofs.YtkpblifelpokfaaW.PrintMore
set_option linter.unusedVariables false
set_option linter.unusedSimpArgs false

/-- A part, with where its kids lie. -/
structure Lit1 where
  x : S33
  A : Option Addr
  c : Nat
def Lit1.cells (l : Lit1) : List Value := [.int .i64 l.x.f0, .int .i64 l.x.f1, .int .i64 l.x.f2, .slice l.A l.x.f3.length l.c]
def Lit1.ok (w : World) (l : Lit1) : Prop := l.x.f3.length ≤ l.c ∧ (Kd.int .i64).C w l.A l.x.f3.length l.x.f3
theorem flat_at (ls : List Lit1) : ∀ (j : Nat) (l : Lit1), ls[j]? = some l → ∀ i u, l.cells[i]? = some u → (ls.flatMap Lit1.cells)[j * 4 + i]? = some u := by
  induction ls with
  | nil => intro j l h; simp at h
  | cons a r ih =>
    intro j l h i u hu
    have hi : i < 4 := by
      have := (List.getElem?_eq_some_iff.1 hu).1
      simpa [Lit1.cells] using this
    cases j with
    | zero =>
      simp at h
      subst h
      rw [List.flatMap_cons, List.getElem?_append_left (by simp [Lit1.cells]; omega)]
      simpa using hu
    | succ j =>
      simp at h
      rw [List.flatMap_cons, List.getElem?_append_right (by simp [Lit1.cells]; omega)]
      have e : (j + 1) * 4 + i - a.cells.length = j * 4 + i := by simp [Lit1.cells]; omega
      rw [e]
      exact ih j l h i u hu
/-- A body written out in a block reads as its parts. -/
theorem C_lit {w : World} {g : Nat} {cs : Array Value} (ls : List Lit1) (hb : w.heap[g]? = some (.cells cs 33 (0, 0))) (hc : cs.toList = ls.flatMap Lit1.cells) (hl : ls.length ≤ 1000000) (hok : ∀ l ∈ ls, l.ok w) (n : Nat) (hn : n ≤ ls.length) :
    Kd.C k33 w (some ⟨g, 0, none⟩) n ((ls.take n).map Lit1.x) := by
  refine ⟨by simp; omega, by omega, fun _ => ⟨_, rfl, fun j p hj => ?_⟩⟩
  rw [List.getElem?_map, List.getElem?_take] at hj
  split at hj
  · obtain ⟨l, hl1, rfl⟩ := Option.map_eq_some_iff.1 hj
    have hm := List.mem_of_getElem? hl1
    refine ⟨l.cells, rfl, k33_mk w l.x (hok l hm).1 (hok l hm).2, fun i u hu => ?_⟩
    have h := flat_at ls j l hl1 i u hu
    rw [← hc] at h
    rw [add_plain]
    exact (blk_cell hb _).trans (by rw [← Array.getElem?_toList]; exact h)
  · simp at hj
theorem ints_lit {w : World} {g : Nat} {cs : Array Value} (ks : List Int) (hb : w.heap[g]? = some (.cells cs 3 (0, 0))) (hc : cs.toList = nums .i64 ks) (hl : ks.length ≤ 1000000) : (Kd.int .i64).C w (some ⟨g, 0, none⟩) ks.length ks := by
  refine ⟨rfl, by omega, fun _ => ⟨_, rfl, fun j p hj => ⟨[.int .i64 p], rfl, rfl, fun i u hu => ?_⟩⟩⟩
  obtain ⟨rfl, rfl⟩ : i = 0 ∧ u = .int .i64 p := by
    cases i with
    | zero => simp at hu; exact ⟨rfl, hu.symm⟩
    | succ i => simp at hu
  rw [add_plain]
  refine (blk_cell hb _).trans ?_
  rw [← Array.getElem?_toList, hc]
  simp [nums, hj, Kd.int, Kd.scalar]

/-- Block k lies in X as it lay in w, but where S holds. -/
structure Sm (S : Nat → Prop) (w X : World) : Prop where
  le : w.heap.size ≤ X.heap.size
  blk : ∀ k, k < w.heap.size → ¬ S k → X.heap[k]? = w.heap[k]?
theorem Sm.refl (S : Nat → Prop) (w : World) : Sm S w w := ⟨Nat.le_refl _, fun _ _ _ => rfl⟩
theorem Sm.alloc {S : Nat → Prop} {w X : World} (h : Sm S w X) (o : Obj) : Sm S w (X.alloc o) :=
  ⟨by simp; exact Nat.le_succ_of_le h.le, fun k hk hs => ((Below.heap_alloc X o k (Nat.lt_of_lt_of_le hk h.le))).trans (h.blk k hk hs)⟩
theorem Sm.drewN {S : Nat → Prop} {w X : World} (h : Sm S w X) (n : Nat) : Sm S w (X.drewN n) := ⟨h.le, h.blk⟩
theorem Sm.set {S : Nat → Prop} {w X : World} (h : Sm S w X) (p : Addr) (v : Value) (hp : S p.block) : Sm S w (X.setCell p v) :=
  ⟨by simpa using h.le, fun k hk hs => (Below.heap_setCell X p v k (fun e => hs (e ▸ hp))).trans (h.blk k hk hs)⟩
theorem Sm.below {S : Nat → Prop} {w X Y : World} (h : Sm S w X) (hb : Below X.heap.size X Y) : Sm S w Y :=
  ⟨Nat.le_trans h.le hb.size, fun k hk hs => (hb.block k (Nat.lt_of_lt_of_le hk h.le)).trans (h.blk k hk hs)⟩
theorem Sm.get {S : Nat → Prop} {w X : World} (h : Sm S w X) {g : Nat} {o : Obj} (hg : w.heap[g]? = some o) (hs : ¬ S g) : X.heap[g]? = some o := (h.blk g (blk_lt hg) hs).trans hg

def addsL : List S33 := [⟨1, 0, 0, []⟩, ⟨1, 3, 0, []⟩, ⟨1, 1, 0, []⟩, ⟨4, 0, 0, [1, 2]⟩, ⟨1, 0, 0, []⟩, ⟨1, 1, 0, []⟩, ⟨4, 0, 0, [4, 5]⟩, ⟨5, 7, 2, [0, 3, 6]⟩]
def addsCells (g1 g2 g3 : Nat) : Array Value := #[.int .i64 1, .int .i64 0, .int .i64 0, .slice none 0 0, .int .i64 1, .int .i64 3, .int .i64 0, .slice none 0 0, .int .i64 1, .int .i64 1, .int .i64 0, .slice none 0 0,
  .int .i64 4, .int .i64 0, .int .i64 0, .slice (some ⟨g1, 0, none⟩) 2 2, .int .i64 1, .int .i64 0, .int .i64 0, .slice none 0 0, .int .i64 1, .int .i64 1, .int .i64 0, .slice none 0 0,
  .int .i64 4, .int .i64 0, .int .i64 0, .slice (some ⟨g2, 0, none⟩) 2 2, .int .i64 5, .int .i64 7, .int .i64 2, .slice (some ⟨g3, 0, none⟩) 3 3]
/-- The body of adds() at block g, all of it from block B on. -/
structure AddsAt (w : World) (B g g1 g2 g3 : Nat) : Prop where
  b : w.heap[g]? = some (.cells (addsCells g1 g2 g3) 33 (0, 0))
  b1 : w.heap[g1]? = some (.cells #[.int .i64 1, .int .i64 2] 3 (0, 0))
  b2 : w.heap[g2]? = some (.cells #[.int .i64 4, .int .i64 5] 3 (0, 0))
  b3 : w.heap[g3]? = some (.cells #[.int .i64 0, .int .i64 3, .int .i64 6] 3 (0, 0))
  l : B ≤ g
  l1 : B ≤ g1
  l2 : B ≤ g2
  l3 : B ≤ g3
theorem AddsAt.below {w w1 : World} {B g g1 g2 g3 : Nat} (h : AddsAt w B g g1 g2 g3) (hb : Below w.heap.size w w1) : AddsAt w1 B g g1 g2 g3 :=
  ⟨blk_below h.b hb, blk_below h.b1 hb, blk_below h.b2 hb, blk_below h.b3 hb, h.l, h.l1, h.l2, h.l3⟩
theorem AddsAt.lt {w : World} {B g g1 g2 g3 : Nat} (h : AddsAt w B g g1 g2 g3) : g < w.heap.size ∧ g1 < w.heap.size ∧ g2 < w.heap.size ∧ g3 < w.heap.size := ⟨blk_lt h.b, blk_lt h.b1, blk_lt h.b2, blk_lt h.b3⟩
theorem AddsAt.ne {w : World} {B g g1 g2 g3 : Nat} (h : AddsAt w B g g1 g2 g3) : g1 ≠ g ∧ g2 ≠ g ∧ g3 ≠ g := ⟨blk_ne h.b1 h.b (by decide), blk_ne h.b2 h.b (by decide), blk_ne h.b3 h.b (by decide)⟩
def AddsIs (w : World) (e : Ending) (w' : World) : Prop := ∃ g g1 g2 g3, e = .returned (.agg #[.int .i64 2, .slice (some ⟨g, 0, none⟩) 8 8]) ∧ AddsAt w' w.heap.size g g1 g2 g3 ∧ Below w.heap.size w w'
set_option maxHeartbeats 2000000 in
theorem adds_calls (w : World) : Calls Try.prog 17 #[] w (AddsIs w) := by
  go_enter Try.func17, Try.ntmps17
  go_wp2
  refine bodyPost_ret (v := .agg #[.int .i64 2, .slice (some ⟨w.heap.size + 1 + 1 + 1 + 1, 0, none⟩) 8 8]) (by simp [results, Try.results17, go_sem]) rfl ⟨w.heap.size + 1 + 1 + 1 + 1, w.heap.size + 1, w.heap.size + 1 + 1, w.heap.size + 1 + 1 + 1, rfl, ?_, ?_⟩
  · have e : ∀ (W : World) (o : Obj) (n : Nat), n = W.heap.size → (W.alloc o).heap[n]? = some o := fun W o n h => by rw [h]; exact blk_new W o
    refine ⟨e _ _ _ (by simp), ?_, ?_, ?_, by omega, by omega, by omega, by omega⟩
    · exact blk_alloc (blk_alloc (blk_alloc (e _ _ _ (by simp)) _) _) _
    · exact blk_alloc (blk_alloc (e _ _ _ (by simp)) _) _
    · exact blk_alloc (e _ _ _ (by simp)) _
  · repeat (first | exact Below.refl _ _ | apply below_alloc)
/-- Kids of adds()' parts, where they lie. -/
theorem none_ok (w : World) (x : S33) (c : Nat) (h : x.f3 = []) : (⟨x, none, c⟩ : Lit1).ok w := by
  unfold Lit1.ok
  simp only [h]
  exact ⟨Nat.zero_le _, Kd.C_nil _ _⟩

theorem two_ok {w : World} {g : Nat} {p q : Int} (x : S33) (hx : x.f3 = [p, q]) (hb : w.heap[g]? = some (.cells #[.int .i64 p, .int .i64 q] 3 (0, 0))) : (⟨x, some ⟨g, 0, none⟩, 2⟩ : Lit1).ok w := by
  unfold Lit1.ok
  simp only [hx]
  exact ⟨Nat.le_refl _, ints_lit [p, q] hb rfl (by simp)⟩
theorem three_ok {w : World} {g : Nat} {p q r : Int} (x : S33) (hx : x.f3 = [p, q, r]) (hb : w.heap[g]? = some (.cells #[.int .i64 p, .int .i64 q, .int .i64 r] 3 (0, 0))) : (⟨x, some ⟨g, 0, none⟩, 3⟩ : Lit1).ok w := by
  unfold Lit1.ok
  simp only [hx]
  exact ⟨Nat.le_refl _, ints_lit [p, q, r] hb rfl (by simp)⟩
theorem one_ok {w : World} {g : Nat} {p : Int} (x : S33) (hx : x.f3 = [p]) (hb : w.heap[g]? = some (.cells #[.int .i64 p] 3 (0, 0))) : (⟨x, some ⟨g, 0, none⟩, 1⟩ : Lit1).ok w := by
  unfold Lit1.ok
  simp only [hx]
  exact ⟨Nat.le_refl _, ints_lit [p] hb rfl (by simp)⟩
theorem all_cons {w : World} {l : Lit1} {ls : List Lit1} (h : l.ok w) (hs : ∀ l ∈ ls, l.ok w) : ∀ k ∈ l :: ls, k.ok w := by
  intro k hk
  rcases List.mem_cons.1 hk with rfl | h2
  · exact h
  · exact hs k h2
theorem all_nil {w : World} : ∀ k ∈ ([] : List Lit1), k.ok w := by intro k hk; simp at hk
/-- adds() as it was made. -/
theorem adds_C {w : World} {B g g1 g2 g3 : Nat} (h : AddsAt w B g g1 g2 g3) : Kd.C k33 w (some ⟨g, 0, none⟩) 8 addsL :=
  C_lit [⟨⟨1, 0, 0, []⟩, none, 0⟩, ⟨⟨1, 3, 0, []⟩, none, 0⟩, ⟨⟨1, 1, 0, []⟩, none, 0⟩, ⟨⟨4, 0, 0, [1, 2]⟩, some ⟨g1, 0, none⟩, 2⟩, ⟨⟨1, 0, 0, []⟩, none, 0⟩, ⟨⟨1, 1, 0, []⟩, none, 0⟩, ⟨⟨4, 0, 0, [4, 5]⟩, some ⟨g2, 0, none⟩, 2⟩, ⟨⟨5, 7, 2, [0, 3, 6]⟩, some ⟨g3, 0, none⟩, 3⟩]
    h.b rfl (by simp) (all_cons (none_ok _ _ _ rfl) (all_cons (none_ok _ _ _ rfl) (all_cons (none_ok _ _ _ rfl) (all_cons (two_ok _ rfl h.b1) (all_cons (none_ok _ _ _ rfl) (all_cons (none_ok _ _ _ rfl) (all_cons (two_ok _ rfl h.b2) (all_cons (three_ok _ rfl h.b3) all_nil)))))))) 8 (by simp)
end Go.Proofs.Ytkpblifelpokfaa.PAll
