/- What program.May answers: pmayB, a Lean function, of every program. No condition. -/
import Derived.Test.YtkpblifelpokfaaExprMay
import Derived.Outline
namespace Go.Proofs.Ytkpblifelpokfaa.PAll
open Go.RowKit Go.Proofs.YtkpblifelpokfaaW.PrintWords Go.Proofs.YtkpblifelpokfaaW.PrintLast Go.Proofs.YtkpblifelpokfaaW.PrintMore
set_option linter.unusedVariables false
set_option linter.unusedSimpArgs false

/-- A call that may not be. -/
def oddB (defs : List S24) (x : S33) : Bool := if x.f0 = 2 then (if (defs.length : Int) ≤ x.f1 then true else ((x.f3.length : Int) != (defs.getD x.f1.toNat z24).f0)) else false

theorem defAt_of {w : World} {A : Option Addr} {defs : List S24} (h : Kd.C k24 w A defs.length defs) (i : Nat) (hi : i < defs.length) :
    ∃ ad A1 c1, A = some ad ∧ w.cell? (ad.add (i * 2)) = some (.int .i64 (defs.getD i z24).f0) ∧ w.cell? ⟨(ad.add (i * 2)).block, (ad.add (i * 2)).off + 1, none⟩ = some (.slice A1 (defs.getD i z24).f1.length c1) ∧ (defs.getD i z24).f1.length ≤ c1 ∧ k33.C w A1 (defs.getD i z24).f1.length (defs.getD i z24).f1 := by
  obtain ⟨ad, A1, c1, e, h0, h1, l1, g1⟩ := at_T24 h (i : Int) (by omega) (by omega)
  rw [Int.toNat_natCast] at h0 h1
  exact ⟨ad, A1, c1, e, h0, h1, l1, g1⟩

set_option maxHeartbeats 2000000 in
theorem odd_calls (x : S33) (A3 : Option Addr) (c3 : Nat) (gb : Nat) (A : Option Addr) (c : Nat) (defs : List S24) (w : World) (hb : w.heap[gb]? = some (.cells #[.slice A defs.length c] 41 (0, 0))) (hC : Kd.C k24 w A defs.length defs) (hx : x.f0 = 2 → 0 ≤ x.f1) :
    Calls Try.prog 33 #[.agg #[.int .i64 x.f0, .int .i64 x.f1, .int .i64 x.f2, .slice A3 x.f3.length c3], .pointer (some ⟨gb, 0, none⟩)] w fun e w' => e = .returned (.bool (oddB defs x)) ∧ Below w.heap.size w w' := by
  have hc0 : w.cell? ⟨gb, 0, none⟩ = some (.slice A defs.length c) := (blk_cell hb 0).trans rfl
  have hlt : gb < w.heap.size := blk_lt hb
  have HB := Aside0.mk hb
  clear hb
  by_cases e : x.f0 = 2
  · by_cases e1 : (defs.length : Int) ≤ x.f1
    · have HG : Aside0 (oddB defs x = true) := ⟨by unfold oddB; rw [if_pos e, if_pos e1]⟩
      have q0 : (x.f0 == 2) = true := beq_iff_eq.mpr e
      have q1 : decide ((defs.length : Int) ≤ x.f1) = true := decide_eq_true e1
      clear e e1 hx
      go_enter Try.func33, Try.ntmps33
      (go_wp2_with (first | ((with_reducible refine gate_dst (N := 2) rfl ?_); refine box_event ?hg (N := 2) ?hd (cs := #[.int .i64 x.f0, .int .i64 x.f1, .int .i64 x.f2, .slice A3 x.f3.length c3]) (t := 33) ?hr ?_; (case hd => rfl); (case hg => rfl); (case hr => first | (go_simp; done) | (go_simp; rfl)); intro gx hg w2 hbox hbel; have HBEL := Aside0.mk hbel; have k0 : w2.cell? ⟨gx, 0, none⟩ = some (.int .i64 x.f0) := (blk_cell hbox 0).trans rfl; have k1 : w2.cell? ⟨gx, 1, none⟩ = some (.int .i64 x.f1) := (blk_cell hbox 1).trans rfl; have k3 : w2.cell? ⟨gx, 3, none⟩ = some (.slice A3 x.f3.length c3) := (blk_cell hbox 3).trans rfl; have hc := (hbel.cell (World.block_lt_of_cell? w _ hc0)).trans hc0; clear hbox hbel hc0 hg)))
      go_quiet (fail)
      go_wp2
      go_ret
      exact ⟨by rw [HG.out]; first | rfl | (simp; done), by repeat (first | exact HBEL.out | apply below_alloc | apply pw_below_drewN | apply below_drew1)⟩
    · have h0 := hx e
      obtain ⟨i, hi⟩ := Int.eq_ofNat_of_zero_le h0
      obtain ⟨ad, A1, c1, rfl, d0, d1, _, _⟩ := defAt_of hC i (by omega)
      obtain ⟨p, hp⟩ : ∃ p, p = (defs.getD i z24).f0 := ⟨_, rfl⟩
      have HG : Aside0 (oddB defs x = ((x.f3.length : Int) != p)) := ⟨by unfold oddB; rw [if_pos e, if_neg e1, hp, hi, Int.toNat_natCast]⟩
      rw [← hp] at d0
      have q0 : (x.f0 == 2) = true := beq_iff_eq.mpr e
      have HI := Aside0.mk hi
      rw [hi] at e1 h0 ⊢
      have q1 : decide ((defs.length : Int) ≤ (i : Int)) = false := decide_eq_false e1
      have q2 : (i : Int) < (defs.length : Int) := by omega
      have q3 : decide (defs.length ≤ i) = false := decide_eq_false (by omega)
      clear e e1 hx hp hi d1
      go_enter Try.func33, Try.ntmps33
      (go_wp2_with (first | ((with_reducible refine gate_dst (N := 2) rfl ?_); refine box_event ?hg (N := 2) ?hd (cs := #[.int .i64 x.f0, .int .i64 i, .int .i64 x.f2, .slice A3 x.f3.length c3]) (t := 33) ?hr ?_; (case hd => rfl); (case hg => rfl); (case hr => first | (go_simp; done) | (go_simp; rfl)); intro gx hg w2 hbox hbel; have HBEL := Aside0.mk hbel; have k0 : w2.cell? ⟨gx, 0, none⟩ = some (.int .i64 x.f0) := (blk_cell hbox 0).trans rfl; have k1 : w2.cell? ⟨gx, 1, none⟩ = some (.int .i64 i) := (blk_cell hbox 1).trans rfl; have k3 : w2.cell? ⟨gx, 3, none⟩ = some (.slice A3 x.f3.length c3) := (blk_cell hbox 3).trans rfl; have hc := (hbel.cell (World.block_lt_of_cell? w _ hc0)).trans hc0; have hd := (hbel.cell (World.block_lt_of_cell? w _ d0)).trans d0; clear d0; clear hbox hbel hc0 hg)))
      go_quiet (fail)
      go_wp2
      go_ret
      exact ⟨by rw [HG.out]; first | rfl | (simp; done), by repeat (first | exact HBEL.out | apply below_alloc | apply pw_below_drewN | apply below_drew1)⟩
  · have HG : Aside0 (oddB defs x = false) := ⟨by unfold oddB; rw [if_neg e]⟩
    have q0 : (x.f0 == 2) = false := beq_eq_false_iff_ne.mpr e
    clear e hx
    go_enter Try.func33, Try.ntmps33
    (go_wp2_with (first | ((with_reducible refine gate_dst (N := 2) rfl ?_); refine box_event ?hg (N := 2) ?hd (cs := #[.int .i64 x.f0, .int .i64 x.f1, .int .i64 x.f2, .slice A3 x.f3.length c3]) (t := 33) ?hr ?_; (case hd => rfl); (case hg => rfl); (case hr => first | (go_simp; done) | (go_simp; rfl)); intro gx hg w2 hbox hbel; have HBEL := Aside0.mk hbel; have k0 : w2.cell? ⟨gx, 0, none⟩ = some (.int .i64 x.f0) := (blk_cell hbox 0).trans rfl; have k1 : w2.cell? ⟨gx, 1, none⟩ = some (.int .i64 x.f1) := (blk_cell hbox 1).trans rfl; have k3 : w2.cell? ⟨gx, 3, none⟩ = some (.slice A3 x.f3.length c3) := (blk_cell hbox 3).trans rfl; have hc := (hbel.cell (World.block_lt_of_cell? w _ hc0)).trans hc0; clear hbox hbel hc0 hg)))
    go_quiet (fail)
    go_wp2
    go_ret
    exact ⟨by rw [HG.out]; first | rfl | (simp; done), by repeat (first | exact HBEL.out | apply below_alloc | apply pw_below_drewN | apply below_drew1)⟩

theorem any_take (body : List S33) (f : S33 → Bool) (k : Nat) (hk : k < body.length) : (body.take (k + 1)).any f = ((body.take k).any f || f (body.getD k z33)) := by
  rw [List.take_succ_eq_append_getElem hk, List.any_append, List.getD_eq_getElem?_getD, List.getElem?_eq_getElem hk]
  simp
def IdxIs (body : List S33) (defs : List S24) (w : World) (e : Ending) (w' : World) : Prop := (∃ r : Int, e = .returned (.int .i64 r) ∧ decide (0 ≤ r) = body.any (oddB defs) ∧ -1 ≤ r ∧ r ≤ 9000000000000000000) ∧ Below w.heap.size w w'

set_option maxHeartbeats 2000000 in
theorem IndexFunc_calls (gb : Nat) (A : Option Addr) (c : Nat) (defs : List S24) (AB : Option Addr) (cB : Nat) (body : List S33) (w : World) (hb : w.heap[gb]? = some (.cells #[.slice A defs.length c] 41 (0, 0))) (hC : Kd.C k24 w A defs.length defs)
    (hB : Kd.C k33 w AB body.length body) (hn : body.length ≤ 24) (hodd : ∀ x ∈ body, x.f0 = 2 → 0 ≤ x.f1) :
    Calls Try.prog 39 #[.slice AB body.length cB, .func (.func 33) #[] #[.pointer (some ⟨gb, 0, none⟩)]] w (IdxIs body defs w) := by
  have HB0 := Aside0.mk hb
  have HC := Aside0.mk hC
  have HD := Aside0.mk hB
  have HO := Aside0.mk hodd
  clear hb hC hB hodd
  go_enter Try.func39, Try.ntmps39
  go_wp2
  go_loopw [8] (fun v wr => ∃ k : Nat, k ≤ body.length ∧ v = .int .i64 (k : Int) ∧ Aside0 ((body.take k).any (oddB defs) = false) ∧ Aside0 (Below w.heap.size w wr)) (fun v _ => body.length - (intOf v).toNat)
  case atStart => exact ⟨0, Nat.zero_le _, rfl, ⟨by simp⟩, ⟨Below.refl _ _⟩⟩
  case round =>
    obtain ⟨k, hk, rfl, HN, HB⟩ := hrel
    by_cases hlt : k < body.length
    · obtain ⟨ad, A3, c3, rfl, hx, hl3, hC3⟩ := exprAt_of HD.out k hlt
      obtain ⟨x, hxv⟩ : ∃ x, x = body.getD k z33 := ⟨_, rfl⟩
      rw [← hxv] at hx hl3 hC3
      have hmem : x ∈ body := by rw [hxv, List.getD_eq_getElem?_getD, List.getElem?_eq_getElem hlt]; exact List.getElem_mem _
      have HXO := Aside0.mk (HO.out x hmem)
      obtain ⟨h0, h1, h2, h3⟩ := hx.below HB.out
      have hk1 : (k : Int) < (body.length : Int) := by omega
      have HBX := Aside0.mk (blk_below HB0.out HB.out)
      have HCX := Aside0.mk (Kd.C_below HC.out HB.out)
      have HANY : Aside0 ((body.take (k + 1)).any (oddB defs) = oddB defs x) := ⟨by rw [any_take _ _ _ hlt, HN.out, ← hxv]; simp⟩
      clear hx hxv hmem hC3
      cases ho : oddB defs x
      · have HOD := Aside0.mk ho
        clear ho
        go_wp2_with (first | (go_at_call 33; (with_reducible refine (odd_calls x A3 c3 gb A c defs _ ?s1 ?s2 HXO.out).mono ?_); (case s1 => exact HBX.out); (case s2 => exact HCX.out); rintro e w1 ⟨rfl, hb1⟩; rw [HOD.out]; have HB1 := Aside0.mk (below_then HB.out HB.out.size hb1); clear hb1))
        go_roundw
        case rel => exact ⟨k + 1, Nat.succ_le_of_lt hlt, by go_num, ⟨by rw [HANY.out, HOD.out]⟩, HB1⟩
        case measure => show body.length - ((k : Int) + 1).toNat < body.length - (k : Int).toNat; omega
      · have HOD := Aside0.mk ho
        clear ho
        go_wp2_with (first | (go_at_call 33; (with_reducible refine (odd_calls x A3 c3 gb A c defs _ ?s1 ?s2 HXO.out).mono ?_); (case s1 => exact HBX.out); (case s2 => exact HCX.out); rintro e w1 ⟨rfl, hb1⟩; rw [HOD.out]; have HB1 := Aside0.mk (below_then HB.out HB.out.size hb1); clear hb1))
        go_ret
        refine ⟨⟨(k : Int), rfl, ?_, by omega, by omega⟩, HB1.out⟩
        have h : body.any (oddB defs) = true := by
          have e := HANY.out
          rw [HOD.out] at e
          rw [List.any_eq_true] at e ⊢
          obtain ⟨y, hy, hy2⟩ := e
          exact ⟨y, List.mem_of_mem_take hy, hy2⟩
        rw [h]
        simp
    · have hk2 : ¬ (k : Int) < (body.length : Int) := by omega
      have he : body.any (oddB defs) = false := by
        have h := HN.out
        rwa [List.take_of_length_le (by omega)] at h
      have HE := Aside0.mk he
      clear he
      go_wp2
      go_ret
      exact ⟨⟨-1, rfl, by rw [HE.out]; rfl, by omega, by omega⟩, HB.out⟩

set_option maxHeartbeats 2000000 in
theorem ContainsFunc_calls (gb : Nat) (A : Option Addr) (c : Nat) (defs : List S24) (AB : Option Addr) (cB : Nat) (body : List S33) (w : World) (hb : w.heap[gb]? = some (.cells #[.slice A defs.length c] 41 (0, 0))) (hC : Kd.C k24 w A defs.length defs)
    (hB : Kd.C k33 w AB body.length body) (hn : body.length ≤ 24) (hodd : ∀ x ∈ body, x.f0 = 2 → 0 ≤ x.f1) :
    Calls Try.prog 34 #[.slice AB body.length cB, .func (.func 33) #[] #[.pointer (some ⟨gb, 0, none⟩)]] w fun e w' => e = .returned (.bool (body.any (oddB defs))) ∧ Below w.heap.size w w' := by
  have HB0 := Aside0.mk hb
  have HC := Aside0.mk hC
  have HD := Aside0.mk hB
  have HO := Aside0.mk hodd
  clear hb hC hB hodd
  go_enter Try.func34, Try.ntmps34
  go_wp2_with (first | (go_at_call 39; (with_reducible refine (IndexFunc_calls gb A c defs AB cB body _ HB0.out HC.out HD.out hn HO.out).mono ?_); rintro e w1 ⟨⟨r, rfl, hr, hr1, hr2⟩, hb1⟩; have HR := Aside0.mk hr; have HB1 := Aside0.mk hb1; clear hr hb1))
  go_ret
  exact ⟨by rw [← HR.out]; first | rfl | simp, HB1.out⟩

/-- Of a definition that may be: calls' numbers are no less than 0. -/
theorem kids_next (next : List Int → Bool) (x : S33) (i : Nat) : ∀ (ks : List Int) (k : Nat) (ls : List Int), kidsB next x i k ks ls = true → ∃ ls', next ls' = true
  | [], _, ls, h => ⟨ls, h⟩
  | kid :: rest, k, ls, h => by
    simp only [kidsB] at h
    split at h
    · simp at h
    · split at h
      · simp at h
      · split at h
        · exact kids_next next x i rest _ _ h
        · simp at h
theorem part_call (x : S33) (lv : Int) (h : partB x lv = true) (h2 : x.f0 = 2) : 0 ≤ x.f1 := by
  unfold partB at h
  rw [if_neg (by omega), if_neg (by omega), if_pos h2] at h
  simp only [Bool.and_eq_true] at h
  have := h.1
  unfold withinB at this
  split at this
  · assumption
  · simp at this
theorem body_calls (body : List S33) : ∀ (j : Nat) (ls : List Int), bodyB body j ls = true → ∀ i, i < j → (body.getD i z33).f0 = 2 → 0 ≤ (body.getD i z33).f1 := by
  intro j
  induction j with
  | zero => intro ls _ i hi; omega
  | succ j ih =>
    intro ls h i hi h2
    simp only [bodyB] at h
    split at h
    · simp at h
    · split at h
      · simp at h
      · split at h
        · rename_i hp
          by_cases e : i = j
          · subst e; exact part_call _ _ hp h2
          · obtain ⟨ls', h'⟩ := kids_next _ _ _ _ _ _ h
            exact ih ls' h' i (by omega) h2
        · simp at h
theorem may_calls (p : Int) (body : List S33) (h : mayB p body = true) : body.length ≤ 24 ∧ ∀ x ∈ body, x.f0 = 2 → 0 ≤ x.f1 := by
  unfold mayB at h
  split at h
  · split at h
    · rename_i hs
      refine ⟨?_, fun x hx h2 => ?_⟩
      · unfold withinB at hs
        split at hs
        · have := of_decide_eq_true hs; omega
        · simp at hs
      · obtain ⟨i, hi, rfl⟩ := List.mem_iff_getElem.1 hx
        have h3 := body_calls body _ _ h i hi
        rw [List.getD_eq_getElem?_getD, List.getElem?_eq_getElem hi] at h3
        exact h3 h2
    · simp at h
  · simp at h

def defsB (defs : List S24) : List S24 → Bool
  | [] => true
  | d :: rest => if mayB d.f0 d.f1 = true then (if d.f1.any (oddB defs) = true then false else defsB defs rest) else false
def pmayB (defs : List S24) : Bool := if defs.length = 0 then false else if 8 < defs.length then false else if (defs.getD 0 z24).f0 = 0 then defsB defs defs else false
theorem drop_def (l : List S24) (k : Nat) (h : k < l.length) : l.drop k = l.getD k z24 :: l.drop (k + 1) := by
  rw [List.drop_eq_getElem_cons h, List.getD_eq_getElem?_getD, List.getElem?_eq_getElem h]; rfl

set_option maxHeartbeats 4000000 in
theorem pMay_first (A : Option Addr) (c : Nat) (defs : List S24) (w : World) (hC : Kd.C k24 w A defs.length defs) (hm : defs.length = 0 ∨ 8 < defs.length ∨ (defs.getD 0 z24).f0 ≠ 0) (hl : defs.length ≤ 9223372036854775807) :
    Calls Try.prog 20 #[.agg #[.slice A defs.length c]] w fun e w' => e = .returned (.bool false) ∧ Below w.heap.size w w' := by
  have HC := Aside0.mk hC
  clear hC
  by_cases e0 : defs.length = 0
  · have q0 : ((defs.length : Int) == 0) = true := beq_iff_eq.mpr (by omega)
    have q0' : (defs.length == 0) = true := beq_iff_eq.mpr e0
    have E0 := Aside0.mk e0
    clear e0 hm
    go_enter Try.func20, Try.ntmps20
    go_wp2
    go_ret
    exact ⟨rfl, by repeat (first | exact Below.refl _ _ | apply below_alloc | apply pw_below_drewN | apply below_drew1)⟩
  · have q0 : ((defs.length : Int) == 0) = false := beq_eq_false_iff_ne.mpr (by omega)
    have q0' : (defs.length == 0) = false := beq_eq_false_iff_ne.mpr e0
    have q0'' : ¬ defs = [] := fun h => e0 (by rw [h]; rfl)
    by_cases e1 : 8 < defs.length
    · have q1 : decide ((8 : Int) < (defs.length : Int)) = true := decide_eq_true (by omega)
      have q1' : decide (8 < defs.length) = true := decide_eq_true e1
      clear e0 e1 hm
      go_enter Try.func20, Try.ntmps20
      go_wp2
      go_ret
      exact ⟨rfl, by repeat (first | exact Below.refl _ _ | apply below_alloc | apply pw_below_drewN | apply below_drew1)⟩
    · have e2 : (defs.getD 0 z24).f0 ≠ 0 := by omega
      have q1 : decide ((8 : Int) < (defs.length : Int)) = false := decide_eq_false (by omega)
      have q1' : decide (8 < defs.length) = false := decide_eq_false e1
      obtain ⟨ad, A1, c1, rfl, d0, d1, _, _⟩ := defAt_of HC.out 0 (by omega)
      obtain ⟨p, hp⟩ : ∃ p, p = (defs.getD 0 z24).f0 := ⟨_, rfl⟩
      rw [← hp] at d0 e2
      have q2 : (p != 0) = true := bne_iff_ne.mpr e2
      have hpos : 0 < defs.length := by omega
      have d0' : w.cell? ad = some (.int .i64 p) := by simpa [Addr.add] using d0
      clear e0 e1 e2 hm hp d1
      go_enter Try.func20, Try.ntmps20
      (go_wp2_with (first | ((with_reducible refine gate_dst (N := 1) rfl ?_); refine box_event ?hg (N := 1) ?hd (cs := #[.slice (some ad) defs.length c]) (t := 41) ?hr ?_; (case hd => rfl); (case hg => rfl); (case hr => first | (go_simp; done) | (go_simp; rfl)); intro gx hg w2 hbox hbel; have HBEL := Aside0.mk hbel; have k0 : w2.cell? ⟨gx, 0, none⟩ = some (.slice (some ad) defs.length c) := (blk_cell hbox 0).trans rfl; have hd := (hbel.cell (World.block_lt_of_cell? w _ d0')).trans d0'; clear d0 d0' hbox hbel hg)))
      go_ret
      exact ⟨by first | rfl | (simp; done), by repeat (first | exact HBEL.out | apply below_alloc | apply pw_below_drewN | apply below_drew1)⟩

set_option maxHeartbeats 4000000 in
set_option maxRecDepth 100000 in
theorem pMay_runs (A : Option Addr) (c : Nat) (defs : List S24) (w : World) (hC : Kd.C k24 w A defs.length defs) (h1 : 1 ≤ defs.length) (h8 : defs.length ≤ 8) (h0 : (defs.getD 0 z24).f0 = 0) :
    Calls Try.prog 20 #[.agg #[.slice A defs.length c]] w fun e w' => e = .returned (.bool (defsB defs defs)) ∧ Below w.heap.size w w' := by
  have HC := Aside0.mk hC
  obtain ⟨ad, A1, c1, rfl, d0, d1, _, _⟩ := defAt_of hC 0 (by omega)
  have d0' : w.cell? ad = some (.int .i64 0) := by
    rw [h0] at d0
    simpa [Addr.add] using d0
  have q0 : ((defs.length : Int) == 0) = false := beq_eq_false_iff_ne.mpr (by omega)
  have q0' : (defs.length == 0) = false := beq_eq_false_iff_ne.mpr (by omega)
  have q0'' : ¬ defs = [] := fun h => by rw [h] at h1; simp at h1
  have q1 : decide ((8 : Int) < (defs.length : Int)) = false := decide_eq_false (by omega)
  have q1' : decide (8 < defs.length) = false := decide_eq_false (by omega)
  have hpos : 0 < defs.length := by omega
  clear hC d0 d1 h0
  go_enter Try.func20, Try.ntmps20
  (go_wp2_with (first | ((with_reducible refine gate_dst (N := 1) rfl ?_); refine box_event ?hg (N := 1) ?hd (cs := #[.slice (some ad) defs.length c]) (t := 41) ?hr ?_; (case hd => rfl); (case hg => rfl); (case hr => first | (go_simp; done) | (go_simp; rfl)); intro gx hg w2 hbox hbel; have HBEL := Aside0.mk hbel; have HBOX := Aside0.mk hbox; have k0 : w2.cell? ⟨gx, 0, none⟩ = some (.slice (some ad) defs.length c) := (blk_cell hbox 0).trans rfl; have hd := (hbel.cell (World.block_lt_of_cell? w _ d0')).trans d0'; clear d0' hbox hbel hg)))
  go_loopw [28] (fun v wr => ∃ k : Nat, k ≤ defs.length ∧ v = .int .i64 (k : Int) ∧ Aside0 (defsB defs (defs.drop k) = defsB defs defs) ∧ Aside0 (Below w.heap.size w wr) ∧ Aside0 (wr.heap[gx]? = some (.cells #[.slice (some ad) defs.length c] 41 (0, 0)))) (fun v _ => defs.length - (intOf v).toNat)
  case atStart => exact ⟨0, Nat.zero_le _, rfl, ⟨by simp⟩, HBEL, HBOX⟩
  case round =>
    clear HBEL HBOX k0 hd
    obtain ⟨k, hk, rfl, HE, HB, HX⟩ := hrel
    by_cases hlt : k < defs.length
    · obtain ⟨ad2, A2, c2, e2, d0, d1, hl2, hC2⟩ := defAt_of HC.out k hlt
      obtain rfl : ad = ad2 := Option.some.inj e2
      obtain ⟨d, hdv⟩ : ∃ d, d = defs.getD k z24 := ⟨_, rfl⟩
      rw [← hdv] at d0 d1 hl2 hC2
      have hm0 := pw_cell_below HB.out d0
      have hm1 := pw_cell_below HB.out d1
      have HCD := Aside0.mk hC2
      have HDROP : Aside0 (defs.drop k = d :: defs.drop (k + 1)) := ⟨by rw [hdv]; exact drop_def _ _ hlt⟩
      have hk1 : (k : Int) < (defs.length : Int) := by omega
      clear d0 d1 e2 hdv hC2
      cases hm : mayB d.f0 d.f1
      · have HM := Aside0.mk hm
        have HF : Aside0 (defsB defs (defs.drop k) = false) := ⟨by rw [HDROP.out]; simp only [defsB]; rw [if_neg (by rw [hm]; decide)]⟩
        clear hm
        go_wp2_with (first | (go_at_call 13; (with_reducible refine (expr_May.calls d.f0 A2 c2 d.f1 false _ ?s1 hl2 ?s3).mono ?_); (case s1 => repeat (first | exact Kd.C_below HCD.out HB.out | (with_reducible refine Kd.C_alloc ?_ _) | (with_reducible refine Kd.C_drewN ?_ _) | (with_reducible refine Kd.C_drew ?_))); (case s3 => exact congrArg some HM.out); rintro e w3 ⟨rfl, hb3⟩; have HB3 := Aside0.mk (below_then (below_alloc HB.out _) (below_alloc HB.out _).size hb3); clear hb3))
        go_ret
        exact ⟨by show Ending.returned (.bool false) = _; rw [← HE.out, HF.out], HB3.out⟩
      · have HM := Aside0.mk hm
        have HMC := Aside0.mk (may_calls _ _ hm)
        cases ha : d.f1.any (oddB defs)
        · have HA := Aside0.mk ha
          have HE1 : Aside0 (defsB defs (defs.drop (k + 1)) = defsB defs defs) := ⟨by
            have h := HE.out
            rw [HDROP.out] at h
            simp only [defsB] at h
            rw [if_pos hm, if_neg (by rw [ha]; decide)] at h
            exact h⟩
          clear hm ha
          go_wp2_with (first | (go_at_call 13; (with_reducible refine (expr_May.calls d.f0 A2 c2 d.f1 true _ ?s1 hl2 ?s3).mono ?_); (case s1 => repeat (first | exact Kd.C_below HCD.out HB.out | (with_reducible refine Kd.C_alloc ?_ _) | (with_reducible refine Kd.C_drewN ?_ _) | (with_reducible refine Kd.C_drew ?_))); (case s3 => exact congrArg some HM.out); rintro e w3 ⟨rfl, hb3⟩; have HB3 := Aside0.mk (below_then (below_alloc HB.out _) (below_alloc HB.out _).size hb3); have hs1 : w3.cell? ⟨wr.heap.size, 1, none⟩ = some (.slice A2 d.f1.length c2) := pw_cell_below hb3 (by simp); have HX3 := Aside0.mk (blk_below (blk_alloc HX.out _) hb3); clear hb3) | (go_at_call 34; (with_reducible refine (ContainsFunc_calls gx (some ad) c defs A2 c2 d.f1 _ ?t1 ?t2 ?t3 HMC.out.1 HMC.out.2).mono ?_); (case t1 => (with_reducible repeat (refine blk_drewN ?_ _)); exact HX3.out); (case t2 => repeat (first | exact Kd.C_below HC.out HB3.out | (with_reducible refine Kd.C_drewN ?_ _))); (case t3 => repeat (first | exact Kd.C_below HCD.out HB3.out | (with_reducible refine Kd.C_drewN ?_ _))); rintro e w4 ⟨rfl, hb4⟩; rw [HA.out]; have HB4 := Aside0.mk (below_then HB3.out HB3.out.size hb4); have HX4 := Aside0.mk (blk_below HX3.out hb4); clear hb4))
          go_roundw
          case rel => exact ⟨k + 1, Nat.succ_le_of_lt hlt, by go_num, HE1, HB4, HX4⟩
          case measure => show defs.length - ((k : Int) + 1).toNat < defs.length - (k : Int).toNat; omega
        · have HA := Aside0.mk ha
          have HF : Aside0 (defsB defs (defs.drop k) = false) := ⟨by rw [HDROP.out]; simp only [defsB]; rw [if_pos hm, if_pos ha]⟩
          clear hm ha
          go_wp2_with (first | (go_at_call 13; (with_reducible refine (expr_May.calls d.f0 A2 c2 d.f1 true _ ?s1 hl2 ?s3).mono ?_); (case s1 => repeat (first | exact Kd.C_below HCD.out HB.out | (with_reducible refine Kd.C_alloc ?_ _) | (with_reducible refine Kd.C_drewN ?_ _) | (with_reducible refine Kd.C_drew ?_))); (case s3 => exact congrArg some HM.out); rintro e w3 ⟨rfl, hb3⟩; have HB3 := Aside0.mk (below_then (below_alloc HB.out _) (below_alloc HB.out _).size hb3); have hs1 : w3.cell? ⟨wr.heap.size, 1, none⟩ = some (.slice A2 d.f1.length c2) := pw_cell_below hb3 (by simp); have HX3 := Aside0.mk (blk_below (blk_alloc HX.out _) hb3); clear hb3) | (go_at_call 34; (with_reducible refine (ContainsFunc_calls gx (some ad) c defs A2 c2 d.f1 _ ?t1 ?t2 ?t3 HMC.out.1 HMC.out.2).mono ?_); (case t1 => (with_reducible repeat (refine blk_drewN ?_ _)); exact HX3.out); (case t2 => repeat (first | exact Kd.C_below HC.out HB3.out | (with_reducible refine Kd.C_drewN ?_ _))); (case t3 => repeat (first | exact Kd.C_below HCD.out HB3.out | (with_reducible refine Kd.C_drewN ?_ _))); rintro e w4 ⟨rfl, hb4⟩; rw [HA.out]; have HB4 := Aside0.mk (below_then HB3.out HB3.out.size hb4); have HX4 := Aside0.mk (blk_below HX3.out hb4); clear hb4))
          go_ret
          exact ⟨by show Ending.returned (.bool false) = _; rw [← HE.out, HF.out], HB4.out⟩
    · have hk2 : ¬ (k : Int) < (defs.length : Int) := by omega
      have HT : Aside0 (defsB defs defs = true) := ⟨by
        have h := HE.out
        rw [List.drop_eq_nil_iff.2 (by omega)] at h
        exact h.symm⟩
      go_wp2
      go_ret
      exact ⟨by show Ending.returned (.bool true) = _; rw [HT.out], HB.out⟩

/-- What program.May answers. -/
def program_May.f (l0_0 : List S24) : Option Bool := some (pmayB l0_0)
theorem program_May.calls (A0_0 : Option Addr) (c0_0 : Nat) (l0_0 : List S24) (r : Bool) (w : World) (hr0_0 : Kd.C k24 w A0_0 l0_0.length l0_0) (hc0_0 : l0_0.length ≤ c0_0) (h : program_May.f l0_0 = some r) :
    Calls Try.prog 20 #[.agg #[.slice A0_0 l0_0.length c0_0]] w fun e w' => e = .returned (.bool r) ∧ Below w.heap.size w w' := by
  obtain rfl := Option.some.inj h
  have hl : l0_0.length ≤ 9223372036854775807 := Kd.C_max hr0_0
  by_cases h0 : l0_0.length = 0
  · have e : pmayB l0_0 = false := by unfold pmayB; rw [if_pos h0]
    rw [e]
    exact pMay_first A0_0 c0_0 l0_0 w hr0_0 (.inl h0) hl
  · by_cases h1 : 8 < l0_0.length
    · have e : pmayB l0_0 = false := by unfold pmayB; rw [if_neg h0, if_pos h1]
      rw [e]
      exact pMay_first A0_0 c0_0 l0_0 w hr0_0 (.inr (.inl h1)) hl
    · by_cases h2 : (l0_0.getD 0 z24).f0 = 0
      · have e : pmayB l0_0 = defsB l0_0 l0_0 := by unfold pmayB; rw [if_neg h0, if_neg h1, if_pos h2]
        rw [e]
        exact pMay_runs A0_0 c0_0 l0_0 w hr0_0 (by omega) (by omega) h2
      · have e : pmayB l0_0 = false := by unfold pmayB; rw [if_neg h0, if_neg h1, if_neg h2]
        rw [e]
        exact pMay_first A0_0 c0_0 l0_0 w hr0_0 (.inr (.inr h2)) hl
end Go.Proofs.Ytkpblifelpokfaa.PAll
