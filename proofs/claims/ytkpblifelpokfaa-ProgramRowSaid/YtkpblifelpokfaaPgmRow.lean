/- sleuthlaw6.ProgramRow answers true of any program that memory can hold: its walk. The conditions: that the argument reads as a program, and its sizes. -/
import Derived.Test.YtkpblifelpokfaaPgmStep
import Derived.Test.YtkpblifelpokfaaPgmEq
import Derived.Test.YtkpblifelpokfaaPgmSmall
import Derived.Test.YtkpblifelpokfaaPAllgsleuthlaw6awake
namespace Go.Proofs.Ytkpblifelpokfaa.PAll
open Go.RowKit Go.Proofs.YtkpblifelpokfaaW.PrintWords Go.Proofs.YtkpblifelpokfaaW.PrintLast Go.Proofs.YtkpblifelpokfaaW.PrintMore
set_option linter.unusedVariables false
set_option linter.unusedSimpArgs false
set_option maxHeartbeats 4000000 in
set_option maxRecDepth 100000 in
theorem row_few (A : Option Addr) (c : Nat) (l : List S24) (a b : Int) (K : Nat) (w : World) (hC : Kd.C k24 w A l.length l) (hc : l.length ≤ c) (hl : l.length < 3) (hM : sleuthref1_ProgramMay.f K l = some (pmayB l)) :
    Calls Try.prog 11 #[.agg #[.slice A l.length c], .int .i64 a, .int .i64 b] w fun e w' => e = .returned (.bool true) ∧ Below w.heap.size w w' := by
  have HC := Aside0.mk hC
  have HM := Aside0.mk hM
  have HK := Aside0.mk hc
  have q1 : decide ((l.length : Int) - 1 < 2) = true := decide_eq_true (by omega)
  clear hC hM hc
  go_enter Try.func11, Try.ntmps11
  (go_wp2_with (first | ((with_reducible refine gate_dst (N := 3) rfl ?_); refine box_event ?hg (N := 3) ?hd (cs := #[.slice A l.length c]) (t := 41) ?hr ?_; (case hd => rfl); (case hg => rfl); (case hr => first | (go_simp; done) | (go_simp; rfl)); intro gx hg w2 hbox hbel; have HBEL := Aside0.mk hbel; have HBOX := Aside0.mk hbox; have HGX := Aside0.mk (show w.heap.size ≤ gx by rw [hg]; exact Nat.le_refl _); clear hg hbox hbel)))
  refine (sleuthlaw6_awake.calls true _ (by decide +kernel)).mono ?_
  rintro e w3 ⟨rfl, hb⟩
  have HB := Aside0.mk (below_step HBEL.out hb)
  have HX := Aside0.mk (blk_below HBOX.out hb)
  clear HBEL HBOX hb
  have k0 : w3.cell? ⟨gx, 0, none⟩ = some (.slice A l.length c) := (blk_cell HX.out 0).trans rfl
  go_wp2_with fail
  refine start_ (n := 6) (S := fun w' => w'.cell? ⟨gx, 0, none⟩ = some (.slice A l.length c)) (ds := []) #[false, false, false, false, false, false] (by kernel_rfl) rfl rfl ((blk_cell (blk_drew HX.out) 0).trans rfl) (fun hHeld => ?_)
  have HB1 := Aside0.mk (below_drew1 HB.out)
  have HX1 := Aside0.mk (blk_drew HX.out)
  clear HB HX k0
  refine take_ (i := 0) (N := some 23) (v := ?_) (a' := ?_) #[true, false, false, false, false, false] rfl rfl (by kernel_rfl) (fun _ _ _ h => h) (Or.inl ⟨by rfl, ?_⟩) hHeld ?_ ?_
  rotate_left
  · rintro w' s0
    go_simp
    with_reducible rfl
  rotate_left
  · simp only [Act.put, List.setIfInBounds_toArray, List.set_cons_zero, List.set_cons_succ, i64_w, i32_w]
    rfl
  refine take_ (i := 2) (N := some 25) (v := ?_) (a' := ?_) #[true, false, true, false, false, false] rfl rfl (by kernel_rfl) (fun _ _ _ h => h) (Or.inl ⟨by rfl, ?_⟩) hHeld ?_ ?_
  rotate_left
  · rintro w' s0
    go_simp
    with_reducible rfl
  rotate_left
  · simp only [Act.put, List.setIfInBounds_toArray, List.set_cons_zero, List.set_cons_succ, i64_w, i32_w]
    rfl
  refine one_ (i := 1) (N := some 24) #[true, true, true, false, false, false] rfl rfl (by kernel_rfl) (by decide) (fun K' hK => ?_)
  refine goes_ Try.func20 (by kernel_rfl) rfl #[.agg #[.slice A l.length c]] (by rfl) rfl rfl (by (try simp only [List.map_toArray, List.map_cons, List.map_nil]); first | done | rfl) ?_
  refine (program_May.calls _ _ l (pmayB l) _ (Kd.C_below HC.out HB1.out) HK.out rfl).mono ?_
  rintro e w4 ⟨rfl, hb⟩
  have HB2 := Aside0.mk (below_step HB1.out hb)
  have HX2 := Aside0.mk (blk_below HX1.out hb)
  clear hb HB1 HX1
  refine ⟨_, rfl, ?_⟩
  refine hK.out _ _ ((blk_cell HX2.out 0).trans rfl) (fun hHeld => ?_)
  clear hK K'
  refine norm_ (a' := ?_) ?_ ?_
  rotate_left
  · show Act.put _ (some 24) _ = _
    simp only [Act.put, List.setIfInBounds_toArray, List.set_cons_zero, List.set_cons_succ, i64_w, i32_w]
    rfl
  refine one_ (i := 3) (N := some 26) #[true, true, true, true, false, false] rfl rfl (by kernel_rfl) (by decide) (fun K' hK => ?_)
  refine goes_ Try.func21 (by kernel_rfl) rfl #[.agg #[.slice A l.length c]] (by rfl) rfl rfl (by (try simp only [List.map_toArray, List.map_cons, List.map_nil]); first | done | rfl) ?_
  refine (sleuthref1_ProgramMay.calls K _ _ l (pmayB l) _ (Kd.C_below HC.out HB2.out) HK.out HM.out).mono ?_
  rintro e w5 ⟨rfl, hb⟩
  have HB3 := Aside0.mk (below_step HB2.out hb)
  have HX3 := Aside0.mk (blk_below HX2.out hb)
  clear hb HB2 HX2
  refine ⟨_, rfl, ?_⟩
  refine hK.out _ _ ((blk_cell HX3.out 0).trans rfl) (fun hHeld => ?_)
  clear hK K'
  refine norm_ (a' := ?_) ?_ ?_
  rotate_left
  · show Act.put _ (some 26) _ = _
    simp only [Act.put, List.setIfInBounds_toArray, List.set_cons_zero, List.set_cons_succ, i64_w, i32_w]
    rfl
  refine pure_ (i := 4) (N := some 27) (v := ?_) (a' := ?_) #[true, true, true, true, true, false] rfl rfl (by kernel_rfl) (fun _ _ _ h => h) (Or.inl ⟨by rfl, ?_⟩) ?_ ?_
  rotate_left
  · intro w'
    go_simp
    with_reducible rfl
  rotate_left
  · simp only [Act.put, List.setIfInBounds_toArray, List.set_cons_zero, List.set_cons_succ, i64_w, i32_w]
    rfl
  refine pure_ (i := 5) (N := some 6) (v := ?_) (a' := ?_) #[true, true, true, true, true, true] rfl rfl (by kernel_rfl) (fun _ _ _ h => h) (Or.inl ⟨by rfl, ?_⟩) ?_ ?_
  rotate_left
  · intro w'
    go_simp
    with_reducible rfl
  rotate_left
  · simp only [Act.put, List.setIfInBounds_toArray, List.set_cons_zero, List.set_cons_succ, i64_w, i32_w]
    rfl
  refine done_ (by kernel_rfl) ?_
  go_wp2
  go_ret
  exact ⟨by simp, HB3.out⟩
theorem wrap_u64 (a : Int) : IntKind.u64.wrap a = a % 18446744073709551616 := by first | rfl | simp [IntKind.wrap, IntKind.bits, IntKind.signed] | exact IntKind.wrap_u64 a
theorem wrap_rem (a : Int) (k : Nat) (hk : 0 < k) : ∃ x : Nat, x < k ∧ (IntKind.u64.wrap a).tmod (k : Int) = (x : Int) := by
  have h0 : 0 ≤ IntKind.u64.wrap a := by rw [wrap_u64]; omega
  rw [Int.tmod_eq_emod_of_nonneg h0]
  have h1 := Int.emod_nonneg (IntKind.u64.wrap a) (show (k : Int) ≠ 0 by omega)
  have h2 := Int.emod_lt_of_pos (IntKind.u64.wrap a) (show (0 : Int) < k by omega)
  exact ⟨((IntKind.u64.wrap a) % (k : Int)).toNat, by omega, by omega⟩
theorem four_sets (cs : Array Value) (X Y n : Nat) (p q u v : Value) (hX : X < n) (hY : Y < n) (hsz : n * 2 ≤ cs.size) (x0 : cs[X * 2]? = some p) (x1 : cs[X * 2 + 1]? = some u) (y0 : cs[Y * 2]? = some q) (y1 : cs[Y * 2 + 1]? = some v) :
    ∀ k, k < n → ((((cs.setIfInBounds (X * 2) q).setIfInBounds (X * 2 + 1) v).setIfInBounds (Y * 2) p).setIfInBounds (Y * 2 + 1) u)[k * 2]? = cs[sw X Y k * 2]? ∧
      ((((cs.setIfInBounds (X * 2) q).setIfInBounds (X * 2 + 1) v).setIfInBounds (Y * 2) p).setIfInBounds (Y * 2 + 1) u)[k * 2 + 1]? = cs[sw X Y k * 2 + 1]? := by
  intro k hk
  by_cases h1 : k = Y
  · subst h1
    unfold sw
    rw [if_pos rfl]
    constructor
    · rw [Array.getElem?_setIfInBounds, if_neg (by omega), Array.getElem?_setIfInBounds, if_pos rfl, if_pos (by first | omega | (simp only [Array.size_setIfInBounds]; omega))]; exact x0.symm
    · rw [Array.getElem?_setIfInBounds, if_pos rfl, if_pos (by first | omega | (simp only [Array.size_setIfInBounds]; omega))]; exact x1.symm
  · by_cases h2 : k = X
    · subst h2
      unfold sw
      rw [if_neg h1, if_pos rfl]
      constructor
      · rw [Array.getElem?_setIfInBounds, if_neg (by omega), Array.getElem?_setIfInBounds, if_neg (by omega), Array.getElem?_setIfInBounds, if_neg (by omega), Array.getElem?_setIfInBounds, if_pos rfl, if_pos (by first | omega | (simp only [Array.size_setIfInBounds]; omega))]; exact y0.symm
      · rw [Array.getElem?_setIfInBounds, if_neg (by omega), Array.getElem?_setIfInBounds, if_neg (by omega), Array.getElem?_setIfInBounds, if_pos rfl, if_pos (by first | omega | (simp only [Array.size_setIfInBounds]; omega))]; exact y1.symm
    · unfold sw
      rw [if_neg h1, if_neg h2]
      constructor
      · rw [Array.getElem?_setIfInBounds, if_neg (by omega), Array.getElem?_setIfInBounds, if_neg (by omega), Array.getElem?_setIfInBounds, if_neg (by omega), Array.getElem?_setIfInBounds, if_neg (by omega)]
      · rw [Array.getElem?_setIfInBounds, if_neg (by omega), Array.getElem?_setIfInBounds, if_neg (by omega), Array.getElem?_setIfInBounds, if_neg (by omega), Array.getElem?_setIfInBounds, if_neg (by omega)]
theorem field41 (d : Nat) (w : World) : Sem.run Try.prog (Instr.field 41 (.agg #[.slice (some ⟨d, 0, none⟩) 2 2]) 0) w = Result.ok (.slice (some ⟨d, 0, none⟩) 2 2) w := by
  kernel_rfl
theorem program_May.callsL (A : Option Addr) (c : Nat) (l : List S24) (N : Nat) (hN : l.length = N) (r : Bool) (w : World) (hr : Kd.C k24 w A N l) (hc : N ≤ c) (h : pmayB l = r) :
    Calls Try.prog 20 #[.agg #[.slice A N c]] w fun e w' => e = .returned (.bool r) ∧ Below w.heap.size w w' := by
  subst hN
  exact program_May.calls A c l r w hr hc (congrArg some h)
set_option maxHeartbeats 4000000 in
set_option maxRecDepth 100000 in
theorem row_many (A : Option Addr) (c : Nat) (l : List S24) (a b : Int) (K : Nat) (w : World) (hC : Kd.C k24 w A l.length l) (hc : l.length ≤ c) (hl : 3 ≤ l.length) (hl2 : l.length < 4398046511104) (hbd : ∀ d ∈ l, d.f1.length < 2932031007402) (hcp : sleuthlaw0_CopyProgram.f K l = some l) :
    Calls Try.prog 11 #[.agg #[.slice A l.length c], .int .i64 a, .int .i64 b] w fun e w' => e = .returned (.bool true) ∧ Below w.heap.size w w' := by
  have HC := Aside0.mk hC
  have HCP := Aside0.mk hcp
  have HK := Aside0.mk hc
  have HBD := Aside0.mk hbd
  have q1 : decide ((l.length : Int) - 1 < 2) = false := decide_eq_false (by omega)
  obtain ⟨k, hk⟩ : ∃ k : Nat, l.length = k + 1 := ⟨l.length - 1, by omega⟩
  have u0 : IntKind.u64.wrap ((l.length : Int) - 1) = (k : Int) := by rw [wrap_u64]; omega
  obtain ⟨x0, hx0, u1⟩ := wrap_rem a k (by omega)
  obtain ⟨y0, hy0, u2⟩ := wrap_rem b k (by omega)
  have KZ : ¬ (k : Int) = 0 := by omega
  have KZ2 : ¬ k = 0 := by omega
  have hX : x0 + 1 < l.length := by omega
  have hY : y0 + 1 < l.length := by omega
  have wx : IntKind.i64.wrap (x0 : Int) = x0 := IntWalk.i64_in _ (by omega)
  have wy : IntKind.i64.wrap (y0 : Int) = y0 := IntWalk.i64_in _ (by omega)
  have HKK := Aside0.mk hk
  clear hC hcp hc hbd hk
  go_enter Try.func11, Try.ntmps11
  (go_wp2_with (first | ((with_reducible refine gate_dst (N := 3) rfl ?_); refine box_event ?hg (N := 3) ?hd (cs := #[.slice A l.length c]) (t := 41) ?hr ?_; (case hd => rfl); (case hg => rfl); (case hr => first | (go_simp; done) | (go_simp; rfl)); intro gx hg w2 hbox hbel; have HBEL := Aside0.mk hbel; have HBOX := Aside0.mk hbox; have HGX := Aside0.mk (show w.heap.size ≤ gx by rw [hg]; exact Nat.le_refl _); clear hg hbox hbel)))
  refine (sleuthlaw6_awake.calls true _ (by decide +kernel)).mono ?_
  rintro e w3 ⟨rfl, hb⟩
  have HB := Aside0.mk (below_step HBEL.out hb)
  have HX := Aside0.mk (blk_below HBOX.out hb)
  clear HBEL HBOX hb
  have k0 : w3.cell? ⟨gx, 0, none⟩ = some (.slice A l.length c) := (blk_cell HX.out 0).trans rfl
  go_wp2_with fail
  refine start_ (n := 16) (S := fun w' => w'.cell? ⟨gx, 0, none⟩ = some (.slice A l.length c)) (ds := []) #[false, false, false, false, false, false, false, false, false, false, false, false, false, false, false, false] (by kernel_rfl) rfl rfl ((blk_cell (blk_drew HX.out) 0).trans rfl) (fun hHeld => ?_)
  have HB1 := Aside0.mk (below_drew1 HB.out)
  have HX1 := Aside0.mk (blk_drew HX.out)
  clear HB HX k0
  refine pure_ (i := 0) (N := some 28) (v := ?_) (a' := ?_) #[true, false, false, false, false, false, false, false, false, false, false, false, false, false, false, false] rfl rfl (by kernel_rfl) (fun _ _ _ h => h) (Or.inl ⟨by rfl, ?_⟩) ?_ ?_
  rotate_left
  · intro w'
    go_simp
    with_reducible rfl
  rotate_left
  · simp only [Act.put, List.setIfInBounds_toArray, List.set_cons_zero, List.set_cons_succ, i64_w, i32_w]
    rfl
  refine pure_ (i := 1) (N := some 29) (v := ?_) (a' := ?_) #[true, true, false, false, false, false, false, false, false, false, false, false, false, false, false, false] rfl rfl (by kernel_rfl) (fun _ _ _ h => h) (Or.inl ⟨by rfl, ?_⟩) ?_ ?_
  rotate_left
  · intro w'
    go_simp
    with_reducible rfl
  rotate_left
  · simp only [Act.put, List.setIfInBounds_toArray, List.set_cons_zero, List.set_cons_succ, i64_w, i32_w]
    rfl
  refine pure_ (i := 2) (N := some 30) (v := ?_) (a' := ?_) #[true, true, true, false, false, false, false, false, false, false, false, false, false, false, false, false] rfl rfl (by kernel_rfl) (fun _ _ _ h => h) (Or.inl ⟨by rfl, ?_⟩) ?_ ?_
  rotate_left
  · intro w'
    go_simp
    with_reducible rfl
  rotate_left
  · simp only [Act.put, List.setIfInBounds_toArray, List.set_cons_zero, List.set_cons_succ, i64_w, i32_w]
    rfl
  refine pure_ (i := 3) (N := some 31) (v := ?_) (a' := ?_) #[true, true, true, true, false, false, false, false, false, false, false, false, false, false, false, false] rfl rfl (by kernel_rfl) (fun _ _ _ h => h) (Or.inl ⟨by rfl, ?_⟩) ?_ ?_
  rotate_left
  · intro w'
    go_simp
    with_reducible rfl
  rotate_left
  · simp only [Act.put, List.setIfInBounds_toArray, List.set_cons_zero, List.set_cons_succ, i64_w, i32_w]
    rfl
  refine pure_ (i := 4) (N := some 32) (v := ?_) (a' := ?_) #[true, true, true, true, true, false, false, false, false, false, false, false, false, false, false, false] rfl rfl (by kernel_rfl) (fun _ _ _ h => h) (Or.inl ⟨by rfl, ?_⟩) ?_ ?_
  rotate_left
  · intro w'
    go_simp
    with_reducible rfl
  rotate_left
  · simp only [Act.put, List.setIfInBounds_toArray, List.set_cons_zero, List.set_cons_succ, i64_w, i32_w]
    rfl
  refine pure_ (i := 5) (N := some 33) (v := ?_) (a' := ?_) #[true, true, true, true, true, true, false, false, false, false, false, false, false, false, false, false] rfl rfl (by kernel_rfl) (fun _ _ _ h => h) (Or.inl ⟨by rfl, ?_⟩) ?_ ?_
  rotate_left
  · intro w'
    go_simp
    with_reducible rfl
  rotate_left
  · simp only [Act.put, List.setIfInBounds_toArray, List.set_cons_zero, List.set_cons_succ, i64_w, i32_w]
    rfl
  refine pure_ (i := 6) (N := some 34) (v := ?_) (a' := ?_) #[true, true, true, true, true, true, true, false, false, false, false, false, false, false, false, false] rfl rfl (by kernel_rfl) (fun _ _ _ h => h) (Or.inl ⟨by rfl, ?_⟩) ?_ ?_
  rotate_left
  · intro w'
    go_simp
    with_reducible rfl
  rotate_left
  · simp only [Act.put, List.setIfInBounds_toArray, List.set_cons_zero, List.set_cons_succ, i64_w, i32_w]
    rfl
  refine pure_ (i := 7) (N := some 35) (v := ?_) (a' := ?_) #[true, true, true, true, true, true, true, true, false, false, false, false, false, false, false, false] rfl rfl (by kernel_rfl) (fun _ _ _ h => h) (Or.inl ⟨by rfl, ?_⟩) ?_ ?_
  rotate_left
  · intro w'
    go_simp
    with_reducible rfl
  rotate_left
  · simp only [Act.put, List.setIfInBounds_toArray, List.set_cons_zero, List.set_cons_succ, i64_w, i32_w]
    rfl
  refine pure_ (i := 8) (N := some 36) (v := ?_) (a' := ?_) #[true, true, true, true, true, true, true, true, true, false, false, false, false, false, false, false] rfl rfl (by kernel_rfl) (fun _ _ _ h => h) (Or.inl ⟨by rfl, ?_⟩) ?_ ?_
  rotate_left
  · intro w'
    go_simp
    with_reducible rfl
  rotate_left
  · simp only [Act.put, List.setIfInBounds_toArray, List.set_cons_zero, List.set_cons_succ, i64_w, i32_w]
    rfl
  refine pure_ (i := 9) (N := some 37) (v := ?_) (a' := ?_) #[true, true, true, true, true, true, true, true, true, true, false, false, false, false, false, false] rfl rfl (by kernel_rfl) (fun _ _ _ h => h) (Or.inl ⟨by rfl, ?_⟩) ?_ ?_
  rotate_left
  · intro w'
    go_simp
    with_reducible rfl
  rotate_left
  · simp only [Act.put, List.setIfInBounds_toArray, List.set_cons_zero, List.set_cons_succ, i64_w, i32_w]
    rfl
  refine pure_ (i := 10) (N := some 38) (v := ?_) (a' := ?_) #[true, true, true, true, true, true, true, true, true, true, true, false, false, false, false, false] rfl rfl (by kernel_rfl) (fun _ _ _ h => h) (Or.inl ⟨by rfl, ?_⟩) ?_ ?_
  rotate_left
  · intro w'
    go_simp
    with_reducible rfl
  rotate_left
  · simp only [Act.put, List.setIfInBounds_toArray, List.set_cons_zero, List.set_cons_succ, i64_w, i32_w]
    rfl
  refine pure_ (i := 11) (N := some 39) (v := ?_) (a' := ?_) #[true, true, true, true, true, true, true, true, true, true, true, true, false, false, false, false] rfl rfl (by kernel_rfl) (fun _ _ _ h => h) (Or.inl ⟨by rfl, ?_⟩) ?_ ?_
  rotate_left
  · intro w'
    go_simp
    with_reducible rfl
  rotate_left
  · simp only [Act.put, List.setIfInBounds_toArray, List.set_cons_zero, List.set_cons_succ, i64_w, i32_w]
    rfl
  refine pure_ (i := 12) (N := some 40) (v := ?_) (a' := ?_) #[true, true, true, true, true, true, true, true, true, true, true, true, true, false, false, false] rfl rfl (by kernel_rfl) (fun _ _ _ h => h) (Or.inl ⟨by rfl, ?_⟩) ?_ ?_
  rotate_left
  · intro w'
    go_simp
    with_reducible rfl
  rotate_left
  · simp only [Act.put, List.setIfInBounds_toArray, List.set_cons_zero, List.set_cons_succ, i64_w, i32_w]
    rfl
  refine pure_ (i := 13) (N := some 41) (v := ?_) (a' := ?_) #[true, true, true, true, true, true, true, true, true, true, true, true, true, true, false, false] rfl rfl (by kernel_rfl) (fun _ _ _ h => h) (Or.inl ⟨by rfl, ?_⟩) ?_ ?_
  rotate_left
  · intro w'
    go_simp
    with_reducible rfl
  rotate_left
  · simp only [Act.put, List.setIfInBounds_toArray, List.set_cons_zero, List.set_cons_succ, i64_w, i32_w]
    rfl
  refine pure_ (i := 14) (N := some 8) (v := ?_) (a' := ?_) #[true, true, true, true, true, true, true, true, true, true, true, true, true, true, true, false] rfl rfl (by kernel_rfl) (fun _ _ _ h => h) (Or.inl ⟨by rfl, ?_⟩) ?_ ?_
  rotate_left
  · intro w'
    go_simp
    with_reducible rfl
  rotate_left
  · simp only [Act.put, List.setIfInBounds_toArray, List.set_cons_zero, List.set_cons_succ, i64_w, i32_w]
    rfl
  refine pure_ (i := 15) (N := some 9) (v := ?_) (a' := ?_) #[true, true, true, true, true, true, true, true, true, true, true, true, true, true, true, true] rfl rfl (by kernel_rfl) (fun _ _ _ h => h) (Or.inl ⟨by rfl, ?_⟩) ?_ ?_
  rotate_left
  · intro w'
    go_simp
    with_reducible rfl
  rotate_left
  · simp only [Act.put, List.setIfInBounds_toArray, List.set_cons_zero, List.set_cons_succ, i64_w, i32_w]
    rfl
  refine done_ (by kernel_rfl) ?_
  clear hHeld
  obtain ⟨X, eX, hX1, hX2⟩ : ∃ X : Nat, wrap64 (1 + (x0 : Int)) = (X : Int) ∧ 1 ≤ X ∧ X < l.length := ⟨x0 + 1, by rw [IntWalk.wrap64_in _ (by omega)]; omega, by omega, by omega⟩
  obtain ⟨Y, eY, hY1, hY2⟩ : ∃ Y : Nat, wrap64 (1 + (y0 : Int)) = (Y : Int) ∧ 1 ≤ Y ∧ Y < l.length := ⟨y0 + 1, by rw [IntWalk.wrap64_in _ (by omega)]; omega, by omega, by omega⟩
  rw [eX, eY]
  clear eX eY wx wy u1 u2 u0 KZ KZ2 hX hY hx0 hy0 q1
  generalize w3.drew = w4 at HB1 HX1 ⊢
  have k0 : w4.cell? ⟨gx, 0, none⟩ = some (.slice A l.length c) := (blk_cell HX1.out 0).trans rfl
  go_wp2_with fail
  refine (sleuthlaw0_CopyProgram.callsS K _ _ l l _ (Kd.C_below HC.out HB1.out) HK.out HCP.out).mono ?_
  rintro e w5 ⟨v, rfl, hS, hb⟩
  obtain ⟨G, cap, cs, f, rfl, hcap, hP⟩ := Prow.of_S (Kd.S_lower hS HB1.out.size) (by omega)
  have HB2 := Aside0.mk (below_step HB1.out hb)
  have HX2 := Aside0.mk (blk_below HX1.out hb)
  have HP := Aside0.mk hP
  clear hP hS hb HB1 HX1 k0
  obtain ⟨vx, ex0, ex1, hRx⟩ := HP.out.el X hX2
  obtain ⟨Ax, cx, rfl, hcx, _⟩ := Kd.R_reads hRx
  obtain ⟨vy, ey0, ey1, hRy⟩ := HP.out.el Y hY2
  obtain ⟨Ay, cy, rfl, hcy, _⟩ := Kd.R_reads hRy
  generalize hpx : (l.getD X z24).f0 = px at ex0
  generalize hpy : (l.getD Y z24).f0 = py at ey0
  generalize (l.getD X z24).f1.length = nx at ex1 hcx
  generalize (l.getD Y z24).f1.length = ny at ey1 hcy
  clear hRx hRy hpx hpy hcx hcy
  have c0 : w5.cell? ⟨G, X * 2, none⟩ = some (.int .i64 px) := (blk_cell HP.out.b _).trans ex0
  have c1 : w5.cell? ⟨G, X * 2 + 1, none⟩ = some (.slice Ax nx cx) := (blk_cell HP.out.b _).trans ex1
  have lG := blk_lt HP.out.b
  have nG : G ≠ w5.heap.size := by omega
  have EX0 := Aside0.mk ex0
  have EX1 := Aside0.mk ex1
  have EY0 := Aside0.mk ey0
  have EY1 := Aside0.mk ey1
  clear ex0 ex1 ey0 ey1
  go_wp2_with fail
  have e : ∀ (W : World) (o : Obj) (n : Nat), n = W.heap.size → (W.alloc o).heap[n]? = some o := fun W o n h => by rw [h]; exact blk_new W o
  obtain ⟨V, hV⟩ : ∃ V : World, V = ((w5.alloc (.cells #[.slice (some ⟨G, 0, none⟩) l.length cap] 41)).alloc (.cells #[.int .i64 px, .slice Ax nx cx] 24)).drew := ⟨_, rfl⟩
  have hBV : Below w5.heap.size w5 V := by rw [hV]; exact below_drew1 (below_alloc (below_alloc (Below.refl _ _) _) _)
  have BQ := Aside0.mk (show V.heap[w5.heap.size]? = some (.cells #[.slice (some ⟨G, 0, none⟩) l.length cap] 41 (0, 0)) from by rw [hV]; exact blk_drew (blk_alloc (e _ _ _ rfl) _))
  have BD := Aside0.mk (show V.heap[w5.heap.size + 1]? = some (.cells #[.int .i64 px, .slice Ax nx cx] 24 (0, 0)) from by rw [hV]; exact blk_drew (e _ _ _ (by simp)))
  have HPV := Aside0.mk (HP.out.below hBV)
  have HXV := Aside0.mk (blk_below HX2.out hBV)
  have HBV := Aside0.mk (below_step HB2.out hBV)
  have lV := hBV.size
  clear hBV HP HX2 HB2 c0 c1
  obtain ⟨Q, hQ⟩ : ∃ Q, Q = w5.heap.size := ⟨_, rfl⟩
  rw [← hQ] at BQ BD lV lG nG ⊢
  clear hQ
  have nQ : ¬ Q = G := fun h => nG h.symm
  have nD : ¬ Q + 1 = G := by omega
  have nD2 : ¬ G = Q + 1 := by omega
  have v0 : V.cell? ⟨Q, 0, none⟩ = some (.slice (some ⟨G, 0, none⟩) l.length cap) := (blk_cell BQ.out 0).trans rfl
  have v1 : V.cell? ⟨Q + 1, 0, none⟩ = some (.int .i64 px) := (blk_cell BD.out 0).trans rfl
  have v2 : V.cell? ⟨Q + 1, 1, none⟩ = some (.slice Ax nx cx) := (blk_cell BD.out 1).trans rfl
  have v3 : V.cell? ⟨G, Y * 2, none⟩ = some (.int .i64 py) := (blk_cell HPV.out.b _).trans EY0.out
  have v4 : V.cell? ⟨G, Y * 2 + 1, none⟩ = some (.slice Ay ny cy) := (blk_cell HPV.out.b _).trans EY1.out
  have v5 : V.cell? ⟨G, X * 2, none⟩ = some (.int .i64 px) := (blk_cell HPV.out.b _).trans EX0.out
  have v6 : V.cell? ⟨G, X * 2 + 1, none⟩ = some (.slice Ax nx cx) := (blk_cell HPV.out.b _).trans EX1.out
  have z0 := blk_frozen HPV.out.b (X * 2)
  have z1 := blk_frozen HPV.out.b (X * 2 + 1)
  have z2 := blk_frozen HPV.out.b (Y * 2)
  have z3 := blk_frozen HPV.out.b (Y * 2 + 1)
  refine start_ (n := 10) (S := fun w' => w'.cell? ⟨Q, 0, none⟩ = some (.slice (some ⟨G, 0, none⟩) l.length cap) ∧ w'.cell? ⟨G, Y * 2, none⟩ = some (.int .i64 py) ∧ w'.cell? ⟨G, Y * 2 + 1, none⟩ = some (.slice Ay ny cy)) (ds := [9]) #[false, false, false, false, false, false, false, false, false, false] (by kernel_rfl) rfl rfl (by rw [← hV]; exact ⟨v0, v3, v4⟩) (fun hHeld => ?_)
  rw [← hV] at hHeld ⊢
  clear hV e
  refine pure_ (i := 0) (N := some 49) (v := ?_) (a' := ?_) #[true, false, false, false, false, false, false, false, false, false] rfl rfl (by kernel_rfl) (fun _ _ _ h => h) (Or.inl ⟨by rfl, ?_⟩) ?_ ?_
  rotate_left
  · intro w'
    go_simp
    with_reducible rfl
  rotate_left
  · simp only [Act.put, List.setIfInBounds_toArray, List.set_cons_zero, List.set_cons_succ, i64_w, i32_w]
    rfl
  refine take_ (i := 1) (N := some 50) (v := ?_) (a' := ?_) #[true, true, false, false, false, false, false, false, false, false] rfl rfl (by kernel_rfl) (fun _ _ _ h => h) (Or.inl ⟨by rfl, ?_⟩) hHeld ?_ ?_
  rotate_left
  · rintro w' ⟨s0, s1, s2⟩
    go_simp
    with_reducible rfl
  rotate_left
  · simp only [Act.put, List.setIfInBounds_toArray, List.set_cons_zero, List.set_cons_succ, i64_w, i32_w]
    rfl
  refine pure_ (i := 2) (N := some 51) (v := ?_) (a' := ?_) #[true, true, true, false, false, false, false, false, false, false] rfl rfl (by kernel_rfl) (fun _ _ _ h => h) (Or.inl ⟨by rfl, ?_⟩) ?_ ?_
  rotate_left
  · intro w'
    go_simp
    with_reducible rfl
  rotate_left
  · simp only [Act.put, List.setIfInBounds_toArray, List.set_cons_zero, List.set_cons_succ, i64_w, i32_w]
    rfl
  refine pure_ (i := 3) (N := some 52) (v := ?_) (a' := ?_) #[true, true, true, true, false, false, false, false, false, false] rfl rfl (by kernel_rfl) (fun _ _ _ h => h) (Or.inl ⟨by rfl, ?_⟩) ?_ ?_
  rotate_left
  · intro w'
    go_simp
    with_reducible rfl
  rotate_left
  · simp only [Act.put, List.setIfInBounds_toArray, List.set_cons_zero, List.set_cons_succ, i64_w, i32_w]
    rfl
  refine take_ (i := 4) (N := some 53) (v := ?_) (a' := ?_) #[true, true, true, true, true, false, false, false, false, false] rfl rfl (by kernel_rfl) (fun _ _ _ h => h) (Or.inl ⟨by rfl, ?_⟩) hHeld ?_ ?_
  rotate_left
  · rintro w' ⟨s0, s1, s2⟩
    go_simp
    with_reducible rfl
  rotate_left
  · simp only [Act.put, List.setIfInBounds_toArray, List.set_cons_zero, List.set_cons_succ, i64_w, i32_w]
    rfl
  refine pure_ (i := 5) (N := some 54) (v := ?_) (a' := ?_) #[true, true, true, true, true, true, false, false, false, false] rfl rfl (by kernel_rfl) (fun _ _ _ h => h) (Or.inl ⟨by rfl, ?_⟩) ?_ ?_
  rotate_left
  · intro w'
    go_simp
    with_reducible rfl
  rotate_left
  · simp only [Act.put, List.setIfInBounds_toArray, List.set_cons_zero, List.set_cons_succ, i64_w, i32_w]
    rfl
  refine pure_ (i := 6) (N := some 55) (v := ?_) (a' := ?_) #[true, true, true, true, true, true, true, false, false, false] rfl rfl (by kernel_rfl) (fun _ _ _ h => h) (Or.inl ⟨by rfl, ?_⟩) ?_ ?_
  rotate_left
  · intro w'
    go_simp
    with_reducible rfl
  rotate_left
  · simp only [Act.put, List.setIfInBounds_toArray, List.set_cons_zero, List.set_cons_succ, i64_w, i32_w]
    rfl
  refine take_ (i := 7) (N := some 56) (v := ?_) (a' := ?_) #[true, true, true, true, true, true, true, true, false, false] rfl rfl (by kernel_rfl) (fun _ _ _ h => h) (Or.inl ⟨by rfl, ?_⟩) hHeld ?_ ?_
  rotate_left
  · rintro w' ⟨s0, s1, s2⟩
    go_simp
    with_reducible rfl
  rotate_left
  · simp only [Act.put, List.setIfInBounds_toArray, List.set_cons_zero, List.set_cons_succ, i64_w, i32_w]
    rfl
  refine pure_ (i := 8) (N := some 57) (v := ?_) (a' := ?_) #[true, true, true, true, true, true, true, true, true, false] rfl rfl (by kernel_rfl) (fun _ _ _ h => h) (Or.inl ⟨by rfl, ?_⟩) ?_ ?_
  rotate_left
  · intro w'
    go_simp
    with_reducible rfl
  rotate_left
  · simp only [Act.put, List.setIfInBounds_toArray, List.set_cons_zero, List.set_cons_succ, i64_w, i32_w]
    rfl
  refine last_ (i := 9) (N := none) #[true, true, true, true, true, true, true, true, true, true] rfl rfl (by kernel_rfl) (by decide) (fun K' hK => ?_)
  refine skip_ (w1 := ?_) (by rfl) rfl ?_ ?_
  rotate_left
  · go_simp
    rfl
  refine hK.out _ _ ?_
  clear hK K'
  refine done_ (by kernel_rfl) ?_
  clear hHeld
  obtain ⟨V1, hV1⟩ : ∃ V1 : World, V1 = (V.setCell ⟨G, X * 2, none⟩ (.int .i64 py)).setCell ⟨G, X * 2 + 1, none⟩ (.slice Ay ny cy) := ⟨_, rfl⟩
  rw [← hV1]
  have BG1 : V1.heap[G]? = some (.cells ((cs.setIfInBounds (X * 2) (.int .i64 py)).setIfInBounds (X * 2 + 1) (.slice Ay ny cy)) 24 (0, 0)) := by rw [hV1]; exact blk_set (blk_set HPV.out.b _ _) _ _
  have F1 : ∀ k, k ≠ G → V1.heap[k]? = V.heap[k]? := fun k hk => by rw [hV1]; exact (Below.heap_setCell _ _ _ k hk).trans (Below.heap_setCell _ _ _ k hk)
  have HB1 := Aside0.mk (show Below w.heap.size w V1 from by rw [hV1]; exact below_set (below_set HBV.out HPV.out.ge) HPV.out.ge)
  have szc := HPV.out.sz
  obtain ⟨t0, ht0⟩ : ∃ u, V1.cell? ⟨G, Y * 2, none⟩ = some u := ⟨_, (blk_cell BG1 _).trans (Array.getElem?_eq_getElem (show Y * 2 < _ by simp only [Array.size_setIfInBounds]; omega))⟩
  obtain ⟨t1, ht1⟩ : ∃ u, V1.cell? ⟨G, Y * 2 + 1, none⟩ = some u := ⟨_, (blk_cell BG1 _).trans (Array.getElem?_eq_getElem (show Y * 2 + 1 < _ by simp only [Array.size_setIfInBounds]; omega))⟩
  have f0 := blk_frozen BG1 (Y * 2)
  have f1 := blk_frozen BG1 (Y * 2 + 1)
  have BQ1 := (F1 Q nQ).trans BQ.out
  have BD1 := (F1 (Q + 1) nD).trans BD.out
  have g0 : V1.cell? ⟨Q, 0, none⟩ = some (.slice (some ⟨G, 0, none⟩) l.length cap) := (blk_cell BQ1 0).trans rfl
  have g1 : V1.cell? ⟨Q + 1, 0, none⟩ = some (.int .i64 px) := (blk_cell BD1 0).trans rfl
  have g2 : V1.cell? ⟨Q + 1, 1, none⟩ = some (.slice Ax nx cx) := (blk_cell BD1 1).trans rfl
  have FF1 := Aside0.mk F1
  have BBG := Aside0.mk BG1
  clear v0 v1 v2 v3 v4 v5 v6 z0 z1 z2 z3 hV1 BQ1 BD1 F1 BG1
  go_wp2_with fail
  obtain ⟨V2, hV2⟩ : ∃ V2 : World, V2 = (V1.setCell ⟨G, Y * 2, none⟩ (.int .i64 px)).setCell ⟨G, Y * 2 + 1, none⟩ (.slice Ax nx cx) := ⟨_, rfl⟩
  rw [← hV2]
  have F2 : ∀ k, k ≠ G → V2.heap[k]? = V1.heap[k]? := fun k hk => by rw [hV2]; exact (Below.heap_setCell _ _ _ k hk).trans (Below.heap_setCell _ _ _ k hk)
  have P2 := Aside0.mk (HPV.out.swap (W1 := V2) X Y hX2 hY2 (by rw [hV2]; exact blk_set (blk_set BBG.out _ _) _ _) (by simp only [Array.size_setIfInBounds]) (fun k hk _ => (F2 k hk).trans (FF1.out k hk)) (four_sets cs X Y l.length _ _ _ _ hX2 hY2 HPV.out.sz EX0.out EX1.out EY0.out EY1.out))
  have gG : gx ≠ G := blk_ne HXV.out HPV.out.b (by decide)
  have BQ2 := Aside0.mk ((F2 Q nQ).trans ((FF1.out Q nQ).trans BQ.out))
  have BX2 := Aside0.mk ((F2 gx gG).trans ((FF1.out gx gG).trans HXV.out))
  have HB2 := Aside0.mk (show Below w.heap.size w V2 from by rw [hV2]; exact below_set (below_set HB1.out HPV.out.ge) HPV.out.ge)
  obtain ⟨g, hg⟩ : ∃ g, g = swapL l X Y := ⟨_, rfl⟩
  have hgl : g.length = l.length := by rw [hg, swap_length]
  have HGB : Aside0 (∀ i, i < l.length → (g.getD i z24).f1.length < 2932031007402) := ⟨fun i hi => by
    rw [hg, swap_getD l X Y hX2 hY2, List.getD_eq_getElem?_getD, List.getElem?_eq_getElem (sw_lt hX2 hY2 hi)]
    exact HBD.out _ (List.getElem_mem _)⟩
  have HGE := Aside0.mk hg
  have HGL := Aside0.mk hgl
  have P2z := P2.out
  rw [← hg, ← stp_zero (X : Int) (Y : Int) g] at P2z
  have PZ := Aside0.mk P2z
  clear P2z P2 hg hgl
  generalize ((((cs.setIfInBounds (X * 2) (.int .i64 py)).setIfInBounds (X * 2 + 1) (.slice Ay ny cy)).setIfInBounds (Y * 2) (.int .i64 px)).setIfInBounds (Y * 2 + 1) (.slice Ax nx cx)) = cs2 at PZ
  generalize (fun k => sw X Y (f k)) = f2 at PZ
  clear hV2 F2 FF1 HPV HXV BQ BD EX0 EX1 EY0 EY1 BBG HB1 HBV szc ht0 ht1 f0 f1 g0 g1 g2 nD nD2 lV
  clear HKK hl
  go_loopw [12] (fun v wr => ∃ i : Nat, i ≤ l.length ∧ v = .int .i64 (i : Int) ∧ Aside0 (Prow wr w.heap.size G cs2 f2 (stp X Y g i 0)) ∧ Aside0 (wr.heap[Q]? = some (.cells #[.slice (some ⟨G, 0, none⟩) l.length cap] 41 (0, 0))) ∧ Aside0 (wr.heap[gx]? = some (.cells #[.slice A l.length c] 41 (0, 0))) ∧ Aside0 (Below w.heap.size w wr)) (fun v _ => l.length - (intOf v).toNat)
  case atStart => exact ⟨0, Nat.zero_le _, rfl, PZ, BQ2, BX2, HB2⟩
  case round =>
    clear PZ BQ2 BX2 HB2
    obtain ⟨i, hi, rfl, HP, BQ, BX, HB⟩ := hrel
    have g0 : wr.cell? ⟨Q, 0, none⟩ = some (.slice (some ⟨G, 0, none⟩) l.length cap) := (blk_cell BQ.out 0).trans rfl
    by_cases hlt : i < l.length
    · have hnb := HGB.out i hlt
      obtain ⟨nb, hnbv⟩ : ∃ nb, nb = (g.getD i z24).f1.length := ⟨_, rfl⟩
      rw [← hnbv] at hnb
      have HNB := Aside0.mk hnbv
      clear hnbv
      go_wp2_with fail
      go_loopw [13] (fun v wq => ∃ m : Nat, m ≤ nb ∧ v = .int .i64 (m : Int) ∧ Aside0 (Prow wq w.heap.size G cs2 f2 (stp X Y g i m)) ∧ Aside0 (wq.heap[Q]? = some (.cells #[.slice (some ⟨G, 0, none⟩) l.length cap] 41 (0, 0))) ∧ Aside0 (wq.heap[gx]? = some (.cells #[.slice A l.length c] 41 (0, 0))) ∧ Aside0 (Below w.heap.size w wq)) (fun v _ => nb - (intOf v).toNat)
      case atStart => exact ⟨0, Nat.zero_le _, rfl, HP, BQ, BX, HB⟩
      case round =>
        clear HP BQ BX HB g0
        obtain ⟨m, hm, rfl, HP, BQ, BX, HB⟩ := hrel
        have hig : i < g.length := by rw [HGL.out]; exact hlt
        have g0 : wr.cell? ⟨Q, 0, none⟩ = some (.slice (some ⟨G, 0, none⟩) l.length cap) := (blk_cell BQ.out 0).trans rfl
        by_cases hlm : m < nb
        · have hst := HP.out.stepAt hig (by rw [← HNB.out]; exact hlm)
          rw [← HNB.out] at hst
          obtain ⟨B, cB, cb, a1, a2, a3, a4, a5, a6, a7, a8⟩ := hst
          obtain ⟨e, he⟩ : ∃ e, e = (g.getD i z24).f1.getD m z33 := ⟨_, rfl⟩
          rw [← he] at a6 a7 a8
          have HE := Aside0.mk he
          have A8 := Aside0.mk a8
          have A5 := Aside0.mk a5
          have z1 := blk_frozen a5 (m * 4 + 1)
          clear he a8 a5
          have same : renE X Y e = e → Aside0 (Prow wr w.heap.size G cs2 f2 (stp X Y g i (m + 1))) := fun h => ⟨by
            rw [← stp_same (X : Int) (Y : Int) g i m hig (by rw [← HNB.out]; exact hlm) (by rw [← HE.out]; exact h)]
            exact HP.out⟩
          by_cases p0 : e.f0 = 2
          · have q0 : (e.f0 == 2) = true := beq_iff_eq.mpr p0
            by_cases p1 : e.f1 = (X : Int)
            · have q1 : (e.f1 == (X : Int)) = true := beq_iff_eq.mpr p1
              have NP := Aside0.mk (A8.out (Y : Int) (by unfold renE; rw [if_pos p0, if_pos p1]))
              clear p0 p1 same
              go_wp2
              go_roundw
              case rel => exact ⟨m + 1, by omega, by go_num, NP, ⟨blk_far BQ.out (show Q ≠ B from blk_ne BQ.out A5.out (by decide)) _⟩, ⟨blk_far BX.out (show gx ≠ B from blk_ne BX.out A5.out (by decide)) _⟩, ⟨below_set HB.out a3⟩⟩
              case measure => show nb - ((m : Int) + 1).toNat < nb - (m : Int).toNat; omega
            · have q1 : (e.f1 == (X : Int)) = false := beq_eq_false_iff_ne.mpr p1
              by_cases p2 : e.f1 = (Y : Int)
              · have q2 : (e.f1 == (Y : Int)) = true := beq_iff_eq.mpr p2
                have NP := Aside0.mk (A8.out (X : Int) (by unfold renE; rw [if_pos p0, if_neg p1, if_pos p2]))
                clear p0 p1 p2 same
                go_wp2
                go_roundw
                case rel => exact ⟨m + 1, by omega, by go_num, NP, ⟨blk_far BQ.out (show Q ≠ B from blk_ne BQ.out A5.out (by decide)) _⟩, ⟨blk_far BX.out (show gx ≠ B from blk_ne BX.out A5.out (by decide)) _⟩, ⟨below_set HB.out a3⟩⟩
                case measure => show nb - ((m : Int) + 1).toNat < nb - (m : Int).toNat; omega
              · have q2 : (e.f1 == (Y : Int)) = false := beq_eq_false_iff_ne.mpr p2
                have NP := same (by unfold renE; rw [if_pos p0, if_neg p1, if_neg p2])
                clear p0 p1 p2 same
                go_wp2
                go_roundw
                case rel => exact ⟨m + 1, by omega, by go_num, NP, BQ, BX, HB⟩
                case measure => show nb - ((m : Int) + 1).toNat < nb - (m : Int).toNat; omega
          · have q0 : (e.f0 == 2) = false := beq_eq_false_iff_ne.mpr p0
            have NP := same (by unfold renE; rw [if_neg p0])
            clear p0 same
            go_wp2
            go_roundw
            case rel => exact ⟨m + 1, by omega, by go_num, NP, BQ, BX, HB⟩
            case measure => show nb - ((m : Int) + 1).toNat < nb - (m : Int).toNat; omega
        · obtain ⟨A_, c_, b1⟩ := HP.out.lenAt hig
          rw [← HNB.out] at b1
          have em : m = nb := by omega
          go_wp2
          go_roundw
          case rel =>
            refine ⟨i + 1, by omega, by go_num, ⟨?_⟩, BQ, BX, HB⟩
            rw [← stp_next (X : Int) (Y : Int) g i hig, ← HNB.out, ← em]
            exact HP.out
          case measure => show l.length - ((i : Int) + 1).toNat < l.length - (i : Int).toNat; omega
    · have ei : i = l.length := by omega
      have hqn : (g.map (renD X Y)).length = l.length := by rw [List.length_map, HGL.out]
      have hP := HP.out
      rw [ei, ← HGL.out, stp_all] at hP
      have hCq := hP.C (by rw [hqn]; omega)
      rw [hqn] at hCq
      have HCQ := Aside0.mk hCq
      have hpm : pmayB (g.map (renD X Y)) = pmayB l := by rw [HGE.out]; exact pmayB_ren l X Y hX1 hY1 hX2 hY2
      have HPM := Aside0.mk hpm
      have HQN := Aside0.mk hqn
      have HKC := Aside0.mk hcap
      clear hP hCq hpm hqn hcap
      go_wp2_with fail
      clear ei g0
      refine start_ (n := 12) (S := fun w' => w'.cell? ⟨Q, 0, none⟩ = some (.slice (some ⟨G, 0, none⟩) l.length cap) ∧ w'.cell? ⟨gx, 0, none⟩ = some (.slice A l.length c)) (ds := []) #[false, false, false, false, false, false, false, false, false, false, false, false] (by kernel_rfl) rfl rfl ⟨(blk_cell (blk_drew BQ.out) 0).trans rfl, (blk_cell (blk_drew BX.out) 0).trans rfl⟩ (fun hHeld => ?_)
      have HCQ1 := Aside0.mk (Kd.C_drew HCQ.out)
      have HB1 := Aside0.mk (below_drew1 HB.out)
      have BQ1 := Aside0.mk (blk_drew BQ.out)
      have BX1 := Aside0.mk (blk_drew BX.out)
      clear HP HCQ HB BQ BX
      generalize hrm : pmayB l = rm at HPM
      have HRM := Aside0.mk hrm
      clear hrm
      generalize wr.drew = wd at HCQ1 HB1 BQ1 BX1 hHeld ⊢
      refine take_ (i := 0) (N := some 123) (v := ?_) (a' := ?_) #[true, false, false, false, false, false, false, false, false, false, false, false] rfl rfl (by kernel_rfl) (fun _ _ _ h => h) (Or.inl ⟨by rfl, ?_⟩) hHeld ?_ ?_
      rotate_left
      · rintro w' ⟨s0, s1⟩
        go_simp
        with_reducible rfl
      rotate_left
      · simp only [Act.put, List.setIfInBounds_toArray, List.set_cons_zero, List.set_cons_succ, i64_w, i32_w]
        rfl
      refine take_ (i := 2) (N := some 125) (v := ?_) (a' := ?_) #[true, false, true, false, false, false, false, false, false, false, false, false] rfl rfl (by kernel_rfl) (fun _ _ _ h => h) (Or.inl ⟨by rfl, ?_⟩) hHeld ?_ ?_
      rotate_left
      · rintro w' ⟨s0, s1⟩
        go_simp
        with_reducible rfl
      rotate_left
      · simp only [Act.put, List.setIfInBounds_toArray, List.set_cons_zero, List.set_cons_succ, i64_w, i32_w]
        rfl
      refine one_ (i := 1) (N := some 124) #[true, true, true, false, false, false, false, false, false, false, false, false] rfl rfl (by kernel_rfl) (by decide) (fun K' hK => ?_)
      refine goes_ Try.func20 (by kernel_rfl) rfl #[.agg #[.slice (some ⟨G, 0, none⟩) l.length cap]] (by rfl) rfl rfl (by (try simp only [List.map_toArray, List.map_cons, List.map_nil]); first | done | rfl) ?_
      refine (program_May.callsL _ _ (g.map (renD X Y)) l.length HQN.out rm _ HCQ1.out HKC.out HPM.out).mono ?_
      rintro e w4 ⟨rfl, hb⟩
      have HB2 := Aside0.mk (below_step HB1.out hb)
      have BQ2 := Aside0.mk (blk_below BQ1.out hb)
      have BX2 := Aside0.mk (blk_below BX1.out hb)
      clear hb HB1 BQ1 BX1 HCQ1
      refine ⟨_, rfl, ?_⟩
      refine hK.out _ _ ⟨(blk_cell BQ2.out 0).trans rfl, (blk_cell BX2.out 0).trans rfl⟩ (fun hHeld => ?_)
      clear hK K'
      refine norm_ (a' := ?_) ?_ ?_
      rotate_left
      · show Act.put _ (some 124) _ = _
        simp only [Act.put, List.setIfInBounds_toArray, List.set_cons_zero, List.set_cons_succ, i64_w, i32_w]
        rfl
      refine one_ (i := 3) (N := some 126) #[true, true, true, true, false, false, false, false, false, false, false, false] rfl rfl (by kernel_rfl) (by decide) (fun K' hK => ?_)
      refine goes_ Try.func20 (by kernel_rfl) rfl #[.agg #[.slice A l.length c]] (by rfl) rfl rfl (by (try simp only [List.map_toArray, List.map_cons, List.map_nil]); first | done | rfl) ?_
      refine (program_May.callsL _ _ l l.length rfl rm _ (Kd.C_below HC.out HB2.out) HK.out HRM.out).mono ?_
      rintro e w5 ⟨rfl, hb⟩
      have HB3 := Aside0.mk (below_step HB2.out hb)
      have BQ3 := Aside0.mk (blk_below BQ2.out hb)
      have BX3 := Aside0.mk (blk_below BX2.out hb)
      clear hb HB2 BQ2 BX2
      refine ⟨_, rfl, ?_⟩
      refine hK.out _ _ ⟨(blk_cell BQ3.out 0).trans rfl, (blk_cell BX3.out 0).trans rfl⟩ (fun hHeld => ?_)
      clear hK K'
      refine norm_ (a' := ?_) ?_ ?_
      rotate_left
      · show Act.put _ (some 126) _ = _
        simp only [Act.put, List.setIfInBounds_toArray, List.set_cons_zero, List.set_cons_succ, i64_w, i32_w]
        rfl
      refine pure_ (i := 4) (N := some 127) (v := ?_) (a' := ?_) #[true, true, true, true, true, false, false, false, false, false, false, false] rfl rfl (by kernel_rfl) (fun _ _ _ h => h) (Or.inl ⟨by rfl, ?_⟩) ?_ ?_
      rotate_left
      · intro w'
        go_simp
        with_reducible rfl
      rotate_left
      · simp only [Act.put, List.setIfInBounds_toArray, List.set_cons_zero, List.set_cons_succ, i64_w, i32_w]
        rfl
      refine pure_ (i := 5) (N := some 128) (v := ?_) (a' := ?_) #[true, true, true, true, true, true, false, false, false, false, false, false] rfl rfl (by kernel_rfl) (fun _ _ _ h => h) (Or.inl ⟨by rfl, ?_⟩) ?_ ?_
      rotate_left
      · intro w'
        go_simp
        with_reducible rfl
      rotate_left
      · simp only [Act.put, List.setIfInBounds_toArray, List.set_cons_zero, List.set_cons_succ, i64_w, i32_w]
        rfl
      refine one_ (i := 6) (N := some 129) #[true, true, true, true, true, true, true, false, false, false, false, false] rfl rfl (by kernel_rfl) (by decide) (fun K' hK => ?_)
      refine goes_ Try.func24 (by kernel_rfl) rfl #[] (by rfl) rfl rfl (by (try simp only [List.map_toArray, List.map_cons, List.map_nil]); first | done | rfl) ?_
      refine (small6_calls _).mono ?_
      rintro e w6 ⟨d_, m_, k1_, k2_, h_, h1, h2, h3, rfl, hD, hb⟩
      have HB4 := Aside0.mk (below_step HB3.out hb)
      have BQ4 := Aside0.mk (blk_below BQ3.out hb)
      have BX4 := Aside0.mk (blk_below BX3.out hb)
      clear hb HB3 BQ3 BX3 hD
      refine ⟨_, rfl, ?_⟩
      refine hK.out _ _ ⟨(blk_cell BQ4.out 0).trans rfl, (blk_cell BX4.out 0).trans rfl⟩ (fun hHeld => ?_)
      clear hK K'
      refine norm_ (a' := ?_) ?_ ?_
      rotate_left
      · show Act.put _ (some 129) _ = _
        simp only [Act.put, List.setIfInBounds_toArray, List.set_cons_zero, List.set_cons_succ, i64_w, i32_w]
        rfl
      refine pure_ (i := 7) (N := some 130) (v := ?_) (a' := ?_) #[true, true, true, true, true, true, true, true, false, false, false, false] rfl rfl (by kernel_rfl) (fun _ _ _ h => h) (Or.inl ⟨by rfl, ?_⟩) ?_ ?_
      rotate_left
      · intro w'
        have fd := field41 d_ w'
        go_simp
        with_reducible rfl
      rotate_left
      · simp only [Act.put, List.setIfInBounds_toArray, List.set_cons_zero, List.set_cons_succ, i64_w, i32_w]
        rfl
      refine pure_ (i := 8) (N := some 131) (v := ?_) (a' := ?_) #[true, true, true, true, true, true, true, true, true, false, false, false] rfl rfl (by kernel_rfl) (fun _ _ _ h => h) (Or.inl ⟨by rfl, ?_⟩) ?_ ?_
      rotate_left
      · intro w'
        go_simp
        with_reducible rfl
      rotate_left
      · simp only [Act.put, List.setIfInBounds_toArray, List.set_cons_zero, List.set_cons_succ, i64_w, i32_w]
        rfl
      refine pure_ (i := 9) (N := some 132) (v := ?_) (a' := ?_) #[true, true, true, true, true, true, true, true, true, true, false, false] rfl rfl (by kernel_rfl) (fun _ _ _ h => h) (Or.inl ⟨by rfl, ?_⟩) ?_ ?_
      rotate_left
      · intro w'
        go_simp
        with_reducible rfl
      rotate_left
      · simp only [Act.put, List.setIfInBounds_toArray, List.set_cons_zero, List.set_cons_succ, i64_w, i32_w]
        rfl
      refine pure_ (i := 10) (N := some 133) (v := ?_) (a' := ?_) #[true, true, true, true, true, true, true, true, true, true, true, false] rfl rfl (by kernel_rfl) (fun _ _ _ h => h) (Or.inl ⟨by rfl, ?_⟩) ?_ ?_
      rotate_left
      · intro w'
        go_simp
        with_reducible rfl
      rotate_left
      · simp only [Act.put, List.setIfInBounds_toArray, List.set_cons_zero, List.set_cons_succ, i64_w, i32_w]
        rfl
      refine pure_ (i := 11) (N := some 6) (v := ?_) (a' := ?_) #[true, true, true, true, true, true, true, true, true, true, true, true] rfl rfl (by kernel_rfl) (fun _ _ _ h => h) (Or.inl ⟨by rfl, ?_⟩) ?_ ?_
      rotate_left
      · intro w'
        go_simp
        with_reducible rfl
      rotate_left
      · simp only [Act.put, List.setIfInBounds_toArray, List.set_cons_zero, List.set_cons_succ, i64_w, i32_w]
        rfl
      refine done_ (by kernel_rfl) ?_
      go_wp2
      go_ret
      exact ⟨rfl, HB4.out⟩
theorem row_runs' (B : Nat) (hB : 30000000000000 ≤ B) (A : Option Addr) (c : Nat) (l : List S24) (a b : Int) (w : World) (hC : Kd.C k24 w A l.length l) (hc : l.length ≤ c) (hl : Hold l) :
    Calls Try.prog 11 #[.agg #[.slice A l.length c], .int .i64 a, .int .i64 b] w fun e w' => e = .returned (.bool true) ∧ Below w.heap.size w w' := by
  by_cases h : l.length < 3
  · exact row_few A c l a b (8 * B + 300) w hC hc h (ProgramMay_eq B hB l hl _ (Nat.le_refl _))
  · exact row_many A c l a b (l.length + 1 + B) w hC hc (by omega) hl.1 (fun d hd => (hl.2 d hd).1) (CopyProgram_eq B hB l hl _ (Nat.le_refl _))
/-- The walk of ProgramRow. -/
theorem row_runs (A : Option Addr) (c : Nat) (l : List S24) (a b : Int) (w : World) (hC : Kd.C k24 w A l.length l) (hc : l.length ≤ c) (hl : Hold l) :
    Calls Try.prog 11 #[.agg #[.slice A l.length c], .int .i64 a, .int .i64 b] w fun e w' => e = .returned (.bool true) ∧ Below w.heap.size w w' := by
  exact row_runs' 30000000000000 (Nat.le_refl _) A c l a b w hC hc hl
end Go.Proofs.Ytkpblifelpokfaa.PAll
