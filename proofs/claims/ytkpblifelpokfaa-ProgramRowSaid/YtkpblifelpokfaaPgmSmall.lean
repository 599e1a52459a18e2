/- What sleuthlaw6.small makes, block by block. No condition. -/
import Derived.Test.YtkpblifelpokfaaPgmLit
namespace Go.Proofs.Ytkpblifelpokfaa.PAll
open Go.RowKit Go.Proofs.YtkpblifelpokfaaW.PrintWords Go.Proofs.YtkpblifelpokfaaW.PrintLast Go.Proofs.YtkpblifelpokfaaW.PrintMore
set_option linter.unusedVariables false
set_option linter.unusedSimpArgs false

def mainL : List S33 := [⟨7, 0, 0, []⟩, ⟨0, 4, 0, []⟩, ⟨3, 7, 0, [0, 1]⟩, ⟨0, 5, 0, []⟩, ⟨2, 1, 0, [2, 3]⟩]
def mainCells (k1 k2 : Nat) : Array Value := #[.int .i64 7, .int .i64 0, .int .i64 0, .slice none 0 0, .int .i64 0, .int .i64 4, .int .i64 0, .slice none 0 0, .int .i64 3, .int .i64 7, .int .i64 0, .slice (some ⟨k1, 0, none⟩) 2 2,
  .int .i64 0, .int .i64 5, .int .i64 0, .slice none 0 0, .int .i64 2, .int .i64 1, .int .i64 0, .slice (some ⟨k2, 0, none⟩) 2 2]
/-- small() at block d, all of it from block B on. -/
structure SmallAt (w : World) (B d m k1 k2 g g1 g2 g3 : Nat) : Prop where
  bd : w.heap[d]? = some (.cells #[.int .i64 0, .slice (some ⟨m, 0, none⟩) 5 5, .int .i64 2, .slice (some ⟨g, 0, none⟩) 8 8] 24 (0, 0))
  bm : w.heap[m]? = some (.cells (mainCells k1 k2) 33 (0, 0))
  bk1 : w.heap[k1]? = some (.cells #[.int .i64 0, .int .i64 1] 3 (0, 0))
  bk2 : w.heap[k2]? = some (.cells #[.int .i64 2, .int .i64 3] 3 (0, 0))
  A : AddsAt w B g g1 g2 g3
  ld : B ≤ d
  lm : B ≤ m
  lk1 : B ≤ k1
  lk2 : B ≤ k2
  mg : m ≠ g
theorem SmallAt.below {w w1 : World} {B d m k1 k2 g g1 g2 g3 : Nat} (h : SmallAt w B d m k1 k2 g g1 g2 g3) (hb : Below w.heap.size w w1) : SmallAt w1 B d m k1 k2 g g1 g2 g3 :=
  ⟨blk_below h.bd hb, blk_below h.bm hb, blk_below h.bk1 hb, blk_below h.bk2 hb, h.A.below hb, h.ld, h.lm, h.lk1, h.lk2, h.mg⟩
def SmallIs (w : World) (e : Ending) (w' : World) : Prop := ∃ d m k1 k2 g g1 g2 g3, e = .returned (.agg #[.slice (some ⟨d, 0, none⟩) 2 2]) ∧ SmallAt w' w.heap.size d m k1 k2 g g1 g2 g3 ∧ Below w.heap.size w w'

set_option maxHeartbeats 4000000 in
set_option maxRecDepth 100000 in
theorem small6_calls (w : World) : Calls Try.prog 24 #[] w (SmallIs w) := by
  go_enter Try.func24, Try.ntmps24
  go_wp2_with fail
  have e : ∀ (W : World) (o : Obj) (n : Nat), n = W.heap.size → (W.alloc o).heap[n]? = some o := fun W o n h => by rw [h]; exact blk_new W o
  obtain ⟨W, hW⟩ : ∃ W : World, W = ((((w.alloc (.cells #[.slice none 0 0] 41)).alloc (.cells #[.int .i64 0, .int .i64 1] 3)).alloc (.cells #[.int .i64 2, .int .i64 3] 3)).alloc (.cells (mainCells (w.heap.size + 1) (w.heap.size + 1 + 1)) 33)).alloc (.cells #[.int .i64 0, .slice (some ⟨w.heap.size + 1 + 1 + 1, 0, none⟩) 5 5] 24) := ⟨_, rfl⟩
  have B41 := Aside0.mk (show W.heap[w.heap.size]? = some (.cells #[.slice none 0 0] 41 (0, 0)) from by rw [hW]; exact blk_alloc (blk_alloc (blk_alloc (blk_alloc (e _ _ _ rfl) _) _) _) _)
  have K1 := Aside0.mk (show W.heap[w.heap.size + 1]? = some (.cells #[.int .i64 0, .int .i64 1] 3 (0, 0)) from by rw [hW]; exact blk_alloc (blk_alloc (blk_alloc (e _ _ _ (by simp)) _) _) _)
  have K2 := Aside0.mk (show W.heap[w.heap.size + 1 + 1]? = some (.cells #[.int .i64 2, .int .i64 3] 3 (0, 0)) from by rw [hW]; exact blk_alloc (blk_alloc (e _ _ _ (by simp)) _) _)
  have BM := Aside0.mk (show W.heap[w.heap.size + 1 + 1 + 1]? = some (.cells (mainCells (w.heap.size + 1) (w.heap.size + 1 + 1)) 33 (0, 0)) from by rw [hW]; exact blk_alloc (e _ _ _ (by simp)) _)
  have BD := Aside0.mk (show W.heap[w.heap.size + 1 + 1 + 1 + 1]? = some (.cells #[.int .i64 0, .slice (some ⟨w.heap.size + 1 + 1 + 1, 0, none⟩) 5 5] 24 (0, 0)) from by rw [hW]; exact e _ _ _ (by simp))
  have HB := Aside0.mk (show Below w.heap.size w W from by rw [hW]; exact below_alloc (below_alloc (below_alloc (below_alloc (below_alloc (Below.refl _ _) _) _) _) _) _)
  change (Code.region 2 _ true).wp Try.prog _ _ (((((w.alloc (.cells #[.slice none 0 0] 41)).alloc (.cells #[.int .i64 0, .int .i64 1] 3)).alloc (.cells #[.int .i64 2, .int .i64 3] 3)).alloc (.cells (mainCells (w.heap.size + 1) (w.heap.size + 1 + 1)) 33)).alloc (.cells #[.int .i64 0, .slice (some ⟨w.heap.size + 1 + 1 + 1, 0, none⟩) 5 5] 24))
  rw [← hW]
  clear hW e
  refine start_ (n := 5) (S := fun w' => w'.cell? ⟨w.heap.size + 1 + 1 + 1 + 1, 0, none⟩ = some (.int .i64 0) ∧ w'.cell? ⟨w.heap.size + 1 + 1 + 1 + 1, 1, none⟩ = some (.slice (some ⟨w.heap.size + 1 + 1 + 1, 0, none⟩) 5 5)) (ds := []) #[false, false, false, false, false] (by kernel_rfl) rfl rfl ⟨(blk_cell BD.out 0).trans rfl, (blk_cell BD.out 1).trans rfl⟩ (fun hHeld => ?_)
  replace B41 := Aside0.mk (blk_drew B41.out)
  replace K1 := Aside0.mk (blk_drew K1.out)
  replace K2 := Aside0.mk (blk_drew K2.out)
  replace BM := Aside0.mk (blk_drew BM.out)
  replace BD := Aside0.mk (blk_drew BD.out)
  replace HB := Aside0.mk (below_drew1 HB.out)
  generalize W.drew = w6 at B41 K1 K2 BM BD HB hHeld ⊢
  refine take_ (i := 0) (N := some 11) (v := ?_) (a' := ?_) #[true, false, false, false, false] rfl rfl (by kernel_rfl) (fun _ _ _ h => h) (Or.inl ⟨by rfl, ?_⟩) hHeld ?_ ?_
  rotate_left
  · rintro w' ⟨s0, s1⟩
    go_simp
    with_reducible rfl
  rotate_left
  · simp only [Act.put, List.setIfInBounds_toArray, List.set_cons_zero, List.set_cons_succ, i64_w, i32_w]
    rfl
  refine one_ (i := 1) (N := some 12) #[true, true, false, false, false] rfl rfl (by kernel_rfl) (by decide) (fun K hK => ?_)
  refine goes_ Try.func25 (by kernel_rfl) rfl #[] (by rfl) rfl rfl (by (try simp only [List.map_toArray, List.map_cons, List.map_nil]); first | done | rfl | (simp only [List.length_drop, List.length_take]; rfl)) ?_
  refine (adds6_calls _).mono ?_
  rintro e w7 ⟨g, g1, g2, g3, rfl, hA, hb⟩
  refine ⟨_, rfl, ?_⟩
  have HA := Aside0.mk hA
  have NM : Aside0 (w.heap.size + 1 + 1 + 1 ≠ g) := ⟨by have := blk_lt BM.out; have := hA.l; omega⟩
  have HBW := Aside0.mk HB.out.size
  replace B41 := Aside0.mk (blk_below B41.out hb)
  replace K1 := Aside0.mk (blk_below K1.out hb)
  replace K2 := Aside0.mk (blk_below K2.out hb)
  replace BM := Aside0.mk (blk_below BM.out hb)
  replace BD := Aside0.mk (blk_below BD.out hb)
  replace HB := Aside0.mk (below_step HB.out hb)
  clear hb hA
  refine hK.out _ _ ⟨(blk_cell BD.out 0).trans rfl, (blk_cell BD.out 1).trans rfl⟩ (fun hHeld => ?_)
  clear hK K
  refine norm_ (a' := ?_) ?_ ?_
  rotate_left
  · show Act.put _ (some 12) _ = _
    simp only [Act.put, List.setIfInBounds_toArray, List.set_cons_zero, List.set_cons_succ, i64_w, i32_w]
    rfl
  refine one_ (i := 2) (N := some 13) #[true, true, true, false, false] rfl rfl (by kernel_rfl) (by decide) (fun K hK => ?_)
  refine value_ (w1 := w7.alloc (.cells #[.int .i64 0, .slice (some ⟨w.heap.size + 1 + 1 + 1, 0, none⟩) 5 5, .int .i64 2, .slice (some ⟨g, 0, none⟩) 8 8] 24)) (v := .slice (some ⟨w7.heap.size, 0, none⟩) 2 2) (by rfl) rfl ?_ ?_
  · go_simp
  have NEW := Aside0.mk (blk_new w7 (.cells #[.int .i64 0, .slice (some ⟨w.heap.size + 1 + 1 + 1, 0, none⟩) 5 5, .int .i64 2, .slice (some ⟨g, 0, none⟩) 8 8] 24))
  have LD : Aside0 (w.heap.size ≤ w7.heap.size) := ⟨HB.out.size⟩
  generalize hw8 : w7.alloc (.cells #[.int .i64 0, .slice (some ⟨w.heap.size + 1 + 1 + 1, 0, none⟩) 5 5, .int .i64 2, .slice (some ⟨g, 0, none⟩) 8 8] 24) = w8 at NEW ⊢
  have hb : Below w7.heap.size w7 w8 := by rw [← hw8]; exact below_alloc (Below.refl _ _) _
  clear hw8
  have n41 : Aside0 (w.heap.size ≠ w7.heap.size) := ⟨by have := blk_lt B41.out; omega⟩
  replace B41 := Aside0.mk (blk_below B41.out hb)
  replace K1 := Aside0.mk (blk_below K1.out hb)
  replace K2 := Aside0.mk (blk_below K2.out hb)
  replace BM := Aside0.mk (blk_below BM.out hb)
  replace BD := Aside0.mk (blk_below BD.out hb)
  replace HA := Aside0.mk (HA.out.below hb)
  replace HB := Aside0.mk (below_step HB.out hb)
  generalize w7.heap.size = D at NEW LD n41 hb ⊢
  clear hb
  refine hK.out _ _ ⟨(blk_cell BD.out 0).trans rfl, (blk_cell BD.out 1).trans rfl⟩ (fun hHeld => ?_)
  clear hK K
  refine norm_ (a' := ?_) ?_ ?_
  rotate_left
  · show Act.put _ (some 13) _ = _
    simp only [Act.put, List.setIfInBounds_toArray, List.set_cons_zero, List.set_cons_succ, i64_w, i32_w]
    rfl
  refine pure_ (i := 3) (N := some 14) (v := ?_) (a' := ?_) #[true, true, true, true, false] rfl rfl (by kernel_rfl) (fun _ _ _ h => h) (Or.inl ⟨by rfl, ?_⟩) ?_ ?_
  rotate_left
  · intro w'
    go_simp
    with_reducible rfl
  rotate_left
  · simp only [Act.put, List.setIfInBounds_toArray, List.set_cons_zero, List.set_cons_succ, i64_w, i32_w]
    rfl
  refine one_ (i := 4) (N := none) #[true, true, true, true, true] rfl rfl (by kernel_rfl) (by decide) (fun K hK => ?_)
  have hs22 : w8.cell? ⟨w.heap.size, 0, none⟩ = some (.slice none 0 0) := (blk_cell B41.out 0).trans rfl
  have hfs22 := blk_frozen B41.out 0
  refine skip_ (w1 := w8.setCell ⟨w.heap.size, 0, none⟩ (.slice (some ⟨D, 0, none⟩) 2 2)) (by rfl) rfl ?_ ?_
  · go_simp
  have ne : ∀ k, w.heap.size + 1 ≤ k → k ≠ w.heap.size := fun k h => by omega
  refine hK.out _ _ ⟨(cell_far (p := ⟨w.heap.size, 0, none⟩) (by show w.heap.size + 1 + 1 + 1 + 1 ≠ w.heap.size; omega) _).trans hHeld.1, (cell_far (p := ⟨w.heap.size, 0, none⟩) (by show w.heap.size + 1 + 1 + 1 + 1 ≠ w.heap.size; omega) _).trans hHeld.2⟩ (fun hHeld => ?_)
  clear hK K
  refine done_ (by kernel_rfl) ?_
  try go_wp2
  have B9 := blk_put (cs := #[.slice none 0 0]) B41.out 0 (.slice (some ⟨D, 0, none⟩) 2 2) rfl
  have f9 : ∀ k, k ≠ w.heap.size → ∀ o, w8.heap[k]? = some o → (w8.setCell ⟨w.heap.size, 0, none⟩ (.slice (some ⟨D, 0, none⟩) 2 2)).heap[k]? = some o := fun k hk o h => (Below.heap_setCell w8 ⟨w.heap.size, 0, none⟩ _ k hk).trans h
  have hA := HA.out
  have hl := HBW.out
  have nk : ∀ k cs, w8.heap[k]? = some (.cells cs 3 (0, 0)) → k ≠ w.heap.size := fun k cs h => blk_ne h B41.out (by decide)
  have ng : g ≠ w.heap.size := blk_ne hA.b B41.out (by decide)
  refine bodyPost_ret (results_cell_row rfl _ _ w.heap.size 41 #[.slice (some ⟨D, 0, none⟩) 2 2] (0, 0) _ rfl B9 Try.underlying41 rfl (by kernel_rfl)) rfl ?_
  exact ⟨D, w.heap.size + 1 + 1 + 1, w.heap.size + 1, w.heap.size + 1 + 1, g, g1, g2, g3, rfl, ⟨f9 _ (Ne.symm n41.out) _ NEW.out, f9 _ (by omega) _ BM.out, f9 _ (by omega) _ K1.out, f9 _ (by omega) _ K2.out,
    ⟨f9 _ ng _ hA.b, f9 _ (nk _ _ hA.b1) _ hA.b1, f9 _ (nk _ _ hA.b2) _ hA.b2, f9 _ (nk _ _ hA.b3) _ hA.b3, by have := hA.l; omega, by have := hA.l1; omega, by have := hA.l2; omega, by have := hA.l3; omega⟩,
    LD.out, by omega, by omega, by omega, NM.out⟩, below_set HB.out (Nat.le_refl _)⟩
end Go.Proofs.Ytkpblifelpokfaa.PAll
