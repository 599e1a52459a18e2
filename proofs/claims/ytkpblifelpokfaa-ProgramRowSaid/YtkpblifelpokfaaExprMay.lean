/- What expr.May answers: mayB, a Lean function, of every definition. No condition. -/
import Derived.Test.YtkpblifelpokfaaExprPart

import Derived.Deep.RegionHeld3
namespace Go.Proofs.Ytkpblifelpokfaa.PAll
open Go.RowKit Go.Proofs.YtkpblifelpokfaaW.PrintWords Go.Proofs.YtkpblifelpokfaaW.PrintLast Go.Proofs.YtkpblifelpokfaaW.PrintMore
set_option linter.unusedVariables false
set_option linter.unusedSimpArgs false

def kidsB (next : List Int → Bool) (x : S33) (i : Nat) : Nat → List Int → List Int → Bool
  | _, [], ls => next ls
  | k, kid :: rest, ls => if kid < 0 then false else if (i : Int) ≤ kid then false else if ls.getD kid.toNat 0 = -1 then kidsB next x i (k + 1) rest (ls.set kid.toNat (ls.getD i 0 + moreB x k)) else false
def bodyB (body : List S33) : Nat → List Int → Bool
  | 0, _ => true
  | i + 1, ls => if ls.getD i 0 = -1 then false else if 8 < ls.getD i 0 then false else if partB (body.getD i z33) (ls.getD i 0) = true then kidsB (bodyB body i) (body.getD i z33) i 0 (body.getD i z33).f3 ls else false
def mayB (params : Int) (body : List S33) : Bool :=
  if withinB params 3 = true then (if withinB ((body.length : Int) - 1) 23 = true then bodyB body body.length ((List.replicate body.length (-1)).set (body.length - 1) params) else false) else false

set_option maxHeartbeats 2000000 in
theorem May_params (p : Int) (A : Option Addr) (c : Nat) (body : List S33) (w : World) (hl : body.length ≤ 9223372036854775807) (hp : withinB p 3 = false) :
    Calls Try.prog 13 #[.agg #[.int .i64 p, .slice A body.length c]] w fun e w' => e = .returned (.bool false) ∧ Below w.heap.size w w' := by
  have Hp := Aside0.mk hp
  clear hp
  go_enter Try.func13, Try.ntmps13
  go_wp2_with (first | (go_at_call 26; (with_reducible refine (within_calls _ _ _).mono ?_); rintro e w1 ⟨rfl, ⟨nd, rfl⟩⟩; rw [Hp.out]))
  go_ret
  exact ⟨rfl, by repeat (first | exact Below.refl _ _ | apply below_alloc | apply pw_below_drewN | apply below_drew1)⟩

set_option maxHeartbeats 2000000 in
theorem May_size (p : Int) (A : Option Addr) (c : Nat) (body : List S33) (w : World) (hl : body.length ≤ 9223372036854775807) (hp : withinB p 3 = true) (hs : withinB ((body.length : Int) - 1) 23 = false) :
    Calls Try.prog 13 #[.agg #[.int .i64 p, .slice A body.length c]] w fun e w' => e = .returned (.bool false) ∧ Below w.heap.size w w' := by
  have Hp := Aside0.mk hp
  have Hs := Aside0.mk hs
  clear hp hs
  go_enter Try.func13, Try.ntmps13
  go_wp2_with (first | (go_at_call 26; (with_reducible refine (within_calls p 3 _).mono ?_); rintro e w1 ⟨rfl, ⟨nd, rfl⟩⟩; rw [Hp.out]) | (go_at_call 26; (with_reducible refine (within_calls ((body.length : Int) - 1) 23 _).mono ?_); rintro e w1 ⟨rfl, ⟨nd, rfl⟩⟩; rw [Hs.out]))
  go_ret
  exact ⟨rfl, by repeat (first | exact Below.refl _ _ | apply below_alloc | apply pw_below_drewN | apply below_drew1)⟩

/-- The levels' row, in a block of the call's own. -/
def LV (w : World) (g : Nat) (ls : List Int) : Prop := w.ownsRow 0 3 1 (.slice (some ⟨g, 0, none⟩) ls.length ls.length) ls.length (nums .i64 ls)

theorem LV.cell {w : World} {g : Nat} {ls : List Int} (h : LV w g ls) (j : Nat) (hj : j < ls.length) : w.cell? ⟨g, j, none⟩ = some (.int .i64 (ls.getD j 0)) := by
  rw [World.ownsRow.cellAt h j (by omega)]
  simp [nums, List.getElem?_eq_getElem hj, List.getD_eq_getElem?_getD]
theorem LV.frozen {w : World} {g : Nat} {ls : List Int} (h : LV w g ls) (j : Nat) : w.frozen? ⟨g, j, none⟩ = false := World.ownsRow.frozenAt h j
theorem LV.set {w : World} {g : Nat} {ls : List Int} (h : LV w g ls) (j : Nat) (v : Int) : LV (w.setCell ⟨g, j, none⟩ (.int .i64 v)) g (ls.set j v) := by
  have := (World.ownsRow.stored h j (.int .i64 v)).1
  unfold LV
  rw [List.length_set]
  simpa [nums, List.map_set] using this
theorem LV.below {w w1 : World} {g : Nat} {ls : List Int} (h : LV w g ls) (hb : Below w.heap.size w w1) : LV w1 g ls := pw_own_below h hb
theorem LV.drewN {w : World} {g : Nat} {ls : List Int} (h : LV w g ls) (n : Nat) : LV (w.drewN n) g ls := h
theorem LV.lt {w : World} {g : Nat} {ls : List Int} (h : LV w g ls) : g < w.heap.size := own_lt h g rfl

theorem fill_step (n i : Nat) (h : i < n) (v : Int) : (List.replicate i v ++ List.replicate (n - i) (0 : Int)).set i v = List.replicate (i + 1) v ++ List.replicate (n - (i + 1)) 0 := by
  rw [show n - i = (n - (i + 1)) + 1 by omega, List.replicate_succ, List.set_append_right _ _ (by simp), List.replicate_succ']
  simp
theorem fill_last (n : Nat) (h : 1 ≤ n) (v p : Int) : (List.replicate (n - 1) v ++ List.replicate (n - (n - 1)) (0 : Int)).set (n - 1) p = (List.replicate n v).set (n - 1) p := by
  obtain ⟨m, rfl⟩ : ∃ m, n = m + 1 := ⟨n - 1, by omega⟩
  rw [show m + 1 - (m + 1 - 1) = 1 by omega, show m + 1 - 1 = m by omega, List.replicate_succ' (n := m), List.set_append_right _ _ (by simp), List.set_append_right _ _ (by simp)]
  simp

theorem exprAt_of {w : World} {A : Option Addr} {body : List S33} (h : Kd.C k33 w A body.length body) (i : Nat) (hi : i < body.length) :
    ∃ ad A3 c3, A = some ad ∧ ExprAt w (ad.add (i * 4)) (body.getD i z33) A3 c3 ∧ (body.getD i z33).f3.length ≤ c3 ∧ (Kd.int .i64).C w A3 (body.getD i z33).f3.length (body.getD i z33).f3 := by
  obtain ⟨ad, A3, c3, e, h0, h1, h2, h3, l3, g3⟩ := at_T33 h (i : Int) (by omega) (by omega)
  rw [Int.toNat_natCast] at h0 h1 h2 h3
  exact ⟨ad, A3, c3, e, ⟨h0, h1, h2, h3⟩, l3, g3⟩

theorem drop_getD (l : List Int) (k : Nat) (h : k < l.length) : l.drop k = l.getD k 0 :: l.drop (k + 1) := by
  rw [List.drop_eq_getElem_cons h, List.getD_eq_getElem?_getD, List.getElem?_eq_getElem h]; rfl
theorem cell_set_other (w : World) (g a b : Nat) (v : Value) (h : a ≠ b) : (w.setCell ⟨g, a, none⟩ v).cell? ⟨g, b, none⟩ = w.cell? ⟨g, b, none⟩ := by
  apply World.cell?_setCell_other
  intro e
  injection e
  contradiction
theorem more_small (x : S33) (lv : Int) (h : partB x lv = true) (k : Int) : 0 ≤ moreB x k ∧ moreB x k ≤ 3 := by
  unfold moreB
  by_cases h1 : k = 1
  · rw [if_pos h1]
    by_cases h5 : x.f0 = 5
    · rw [if_pos h5]
      simp [partB, h5, plainB] at h
      omega
    · rw [if_neg h5]
      split <;> omega
  · rw [if_neg h1]; omega
theorem plain_kids (x : S33) (b l m : Int) (h : plainB x b l m = true) : (x.f3.length : Int) ≤ m := by
  unfold plainB at h
  split at h
  · split at h
    · split at h
      · exact of_decide_eq_true h
      · simp at h
    · simp at h
  · simp at h
theorem part_kids (x : S33) (lv : Int) (h : partB x lv = true) : x.f3.length ≤ 3 := by
  have e : ∀ b l m, m ≤ 3 → plainB x b l m = true → x.f3.length ≤ 3 := fun b l m hm h => by have := plain_kids x b l m h; omega
  unfold partB at h
  repeat' split at h
  all_goals first | (simp only [Bool.and_eq_true] at h; exact e _ _ _ (by omega) h.2) | exact e _ _ _ (by omega) h | simp at h
theorem kidAt_of {w : World} {A : Option Addr} {ks : List Int} (h : (Kd.int .i64).C w A ks.length ks) (k : Nat) (hk : k < ks.length) : ∃ ad, A = some ad ∧ w.cell? (ad.add k) = some (.int .i64 (ks.getD k 0)) := by
  obtain ⟨ad, e, hx⟩ := Kd.at_int h (k : Int) (by omega) (by omega)
  rw [Int.toNat_natCast] at hx
  exact ⟨ad, e, hx⟩

set_option maxHeartbeats 4000000 in
set_option maxRecDepth 100000 in
theorem May_runs (p : Int) (A : Option Addr) (c : Nat) (body : List S33) (w : World) (hC : Kd.C k33 w A body.length body) (hp : withinB p 3 = true) (hs : withinB ((body.length : Int) - 1) 23 = true)
    (hp0 : 0 ≤ p) (hp1 : p ≤ 3) (hs0 : 1 ≤ body.length) (hs1 : body.length ≤ 24) :
    Calls Try.prog 13 #[.agg #[.int .i64 p, .slice A body.length c]] w fun e w' => e = .returned (.bool (bodyB body body.length ((List.replicate body.length (-1)).set (body.length - 1) p))) ∧ Below w.heap.size w w' := by
  have Hp := Aside0.mk hp
  have Hs := Aside0.mk hs
  have HC := Aside0.mk hC
  clear hp hs hC
  obtain ⟨i0, hi, hz0, hz1, hz2⟩ := info_parts info3
  have Hi := Aside0.mk hi
  have Hz0 := Aside0.mk hz0
  have Hz1 := Aside0.mk hz1
  have Hz2 := Aside0.mk hz2
  clear hi hz0 hz1 hz2
  go_enter Try.func13, Try.ntmps13
  go_wp2_with (first | ((with_reducible refine gate_dst (N := 1) rfl ?_); refine box_event ?hg (N := 1) ?hd (cs := #[.int .i64 p, .slice A body.length c]) (t := 24) ?hr ?_; (case hd => rfl); (case hg => rfl); (case hr => first | (go_simp; done) | (go_simp; rfl)); intro gb hg w2 hbox hb; have BK := Aside0.mk hbox; have HB := Aside0.mk hb; have HG := Aside0.mk hg; have HGB := Aside0.mk (show w.heap.size ≤ gb by rw [hg]; exact Nat.le_refl _); have hc0 : w2.cell? ⟨gb, 0, none⟩ = some (.int .i64 p) := (blk_cell hbox 0).trans rfl; have hc1 : w2.cell? ⟨gb, 1, none⟩ = some (.slice A body.length c) := (blk_cell hbox 1).trans rfl; clear hg hbox hb) | (go_at_call 26; (with_reducible refine (within_calls p 3 _).mono ?_); rintro e w1 ⟨rfl, ⟨nd, rfl⟩⟩; rw [Hp.out]) | (go_at_call 26; (with_reducible refine (within_calls ((body.length : Int) - 1) 23 _).mono ?_); rintro e w1 ⟨rfl, ⟨nd, rfl⟩⟩; rw [Hs.out]) | ((with_reducible refine gate_dst (N := 26) rfl ?_); refine wpList_make_full _ rfl _ _ 31 rfl 0 3 i0 (.int .i64 0) 1 Try.underlying31 Hi.out Hz0.out Hz1.out .i64 .i64 _ _ body.length rfl rfl rfl rfl ?b2 ?b3 ?b4 ?_; (case b2 => rw [Hz2.out]; omega); (case b3 => unfold maxLen; omega); (case b4 => exact Nat.zero_le _); intro w3 hown hgr; have hb3 := pw_below_grown (Below.refl _ _) none (Nat.le_refl _) hgr (by simp); have HB3 := Aside0.mk (below_step (by repeat (first | exact HB.out | apply pw_below_drewN)) hb3); have BK3 := Aside0.mk (blk_grown (by (with_reducible repeat (refine blk_drewN ?_ _)); exact BK.out) hgr (by simp)); have HO := Aside0.mk hown; clear hown hgr hb3))
  obtain ⟨g, hg⟩ : ∃ g, g = w2.heap.size := ⟨_, rfl⟩
  have hgw : w.heap.size ≤ g := by rw [hg]; exact HB.out.size
  have hgb : gb < g := by rw [hg]; exact blk_lt BK.out
  have hL : LV w3 g (List.replicate body.length 0) := by
    have h : w3.ownsRow 0 3 1 (.slice (some ⟨w2.heap.size, 0, none⟩) body.length body.length) body.length (madeCells #[.int .i64 0] (body.length * 1)).toList := HO.out
    rw [toList_madeCells_one] at h
    unfold LV
    rw [hg, List.length_replicate]
    simpa [nums] using h
  have HL := Aside0.mk hL
  clear hL HO
  have HG2 := Aside0.mk hg
  rw [← hg]
  clear hg HB BK HG hc0 hc1
  have hgbw : w.heap.size ≤ gb := HGB.out
  clear HGB
  go_loopw [28] (fun v wr => ∃ i : Nat, i + 1 ≤ body.length ∧ v = .int .i64 i ∧ Aside0 (LV wr g (List.replicate i (-1) ++ List.replicate (body.length - i) 0)) ∧ Aside0 (wr.heap[gb]? = some (.cells #[.int .i64 p, .slice A body.length c] 24 (0, 0))) ∧ Aside0 (Below w.heap.size w wr)) (fun v _ => body.length - (intOf v).toNat)
  case atStart => exact ⟨0, by omega, rfl, ⟨by simpa using HL.out⟩, BK3, HB3⟩
  case round =>
    clear HL BK3 HB3
    obtain ⟨i, hi, rfl, HL, BK, HB⟩ := hrel
    by_cases hlt : i + 1 < body.length
    · have hc := HL.out.cell i (by simp; omega)
      have hf := HL.out.frozen i
      have hset := Aside0.mk (HL.out.set i (-1))
      have hlt' : (i : Int) < (body.length : Int) - 1 := by omega
      go_wp2
      go_roundw
      case rel =>
        refine ⟨i + 1, by omega, by go_num, ⟨?_⟩, ⟨blk_far BK.out (show gb ≠ g by omega) _⟩, ⟨below_set HB.out hgw⟩⟩
        rw [← fill_step _ _ (by omega)]; exact hset.out
      case measure => simp [intOf]; omega
    · have hlt' : ¬ (i : Int) < (body.length : Int) - 1 := by omega
      have he : i = body.length - 1 := by omega
      subst he
      have HL1 : Aside0 (LV (wr.setCell ⟨g, body.length - 1, none⟩ (.int .i64 p)) g ((List.replicate body.length (-1)).set (body.length - 1) p)) := by
        have h := HL.out.set (body.length - 1) p
        rw [fill_last _ hs0] at h
        exact ⟨h⟩
      have hc := HL.out.cell (body.length - 1) (by simp; omega)
      have hf := HL.out.frozen (body.length - 1)
      have hb0 : wr.cell? ⟨gb, 0, none⟩ = some (.int .i64 p) := (blk_cell BK.out 0).trans rfl
      have BK1 := Aside0.mk (blk_far BK.out (show gb ≠ (⟨g, body.length - 1, none⟩ : Addr).block from Nat.ne_of_lt hgb) (.int .i64 p))
      have HB1 := Aside0.mk (below_set (j := body.length - 1) (v := .int .i64 p) HB.out hgw)
      clear HL BK HB hlt
      go_wp2
      go_loopw [6] (fun v wr => ∃ (j : Nat) (ls : List Int), j ≤ body.length ∧ v = .int .i64 ((j : Int) - 1) ∧ Aside0 (ls.length = body.length) ∧ Aside0 (∀ x ∈ ls, -1 ≤ x ∧ x ≤ 20) ∧ Aside0 (bodyB body j ls = bodyB body body.length ((List.replicate body.length (-1)).set (body.length - 1) p)) ∧ Aside0 (LV wr g ls) ∧ Aside0 (wr.heap[gb]? = some (.cells #[.int .i64 p, .slice A body.length c] 24 (0, 0))) ∧ Aside0 (Below w.heap.size w wr)) (fun v _ => (intOf v + 1).toNat)
      case atStart =>
        refine ⟨body.length, _, Nat.le_refl _, rfl, ⟨by simp⟩, ⟨?_⟩, ⟨rfl⟩, HL1, BK1, HB1⟩
        intro x hx
        rcases List.mem_or_eq_of_mem_set hx with h | h
        · have := List.eq_of_mem_replicate h; omega
        · omega
      case round =>
        clear HL1 BK1 HB1 hc hf hb0 hlt'
        obtain ⟨j, ls, hj, rfl, HN, HR, HE, HL, BK, HB⟩ := hrel
        rcases j with _ | j
        · go_wp2
          go_ret
          exact ⟨by rw [← HE.out]; rfl, HB.out⟩
        · rw [show (((j + 1 : Nat) : Int) - 1) = (j : Int) by omega]
          obtain ⟨ad, A3, c3, rfl, hx, hl3, hC3⟩ := exprAt_of HC.out j (by omega)
          obtain ⟨x, hxv⟩ : ∃ x, x = body.getD j z33 := ⟨_, rfl⟩
          rw [← hxv] at hx hl3 hC3
          have HXV := Aside0.mk hxv
          clear hxv
          have HX := Aside0.mk (hx.below HB.out)
          have HC3 := Aside0.mk hC3
          have hb1 : wr.cell? ⟨gb, 1, none⟩ = some (.slice (some ad) body.length c) := (blk_cell BK.out 1).trans rfl
          obtain ⟨lv, hlv⟩ : ∃ lv, lv = ls.getD j 0 := ⟨_, rfl⟩
          have hcl : wr.cell? ⟨g, j, none⟩ = some (.int .i64 lv) := by rw [hlv]; exact HL.out.cell j (by rw [HN.out]; omega)
          have hj0 : (0 : Int) ≤ (j : Int) := by omega
          have hj1 : (j : Int) < (body.length : Int) := by omega
          have HLV := Aside0.mk hlv
          have hlo : -1 ≤ lv ∧ lv ≤ 20 := HR.out lv (by rw [hlv, List.getD_eq_getElem?_getD, List.getElem?_eq_getElem (show j < ls.length by rw [HN.out]; omega)]; exact List.getElem_mem _)
          have hx0 := Aside0.mk hx
          clear hlv hx hC3
          by_cases p1 : lv = -1
          · have q1 : (lv == -1) = true := beq_iff_eq.mpr p1
            have HF : Aside0 (bodyB body (j + 1) ls = false) := ⟨by simp only [bodyB]; rw [← HXV.out, ← HLV.out, if_pos p1]⟩
            clear p1
            go_wp2
            go_ret
            exact ⟨by show Ending.returned (.bool false) = _; rw [← HE.out, HF.out], HB.out⟩
          · have q1 : (lv == -1) = false := beq_eq_false_iff_ne.mpr p1
            by_cases p2 : 8 < lv
            · have q2 : decide (8 < lv) = true := decide_eq_true p2
              have HF : Aside0 (bodyB body (j + 1) ls = false) := ⟨by simp only [bodyB]; rw [← HXV.out, ← HLV.out, if_neg p1, if_pos p2]⟩
              clear p1 p2
              go_wp2
              go_ret
              exact ⟨by show Ending.returned (.bool false) = _; rw [← HE.out, HF.out], HB.out⟩
            · have q2 : decide (8 < lv) = false := decide_eq_false p2
              have hlv0 : 0 ≤ lv := by omega
              have hlv8 : lv ≤ 8 := by omega
              cases p3 : partB x lv
              · have HF : Aside0 (bodyB body (j + 1) ls = false) := ⟨by simp only [bodyB]; rw [← HXV.out, ← HLV.out, if_neg p1, if_neg p2, if_neg (by rw [p3]; decide)]⟩
                have HP3 := Aside0.mk p3
                clear p1 p2 p3
                go_wp2_with (first | (go_at_call 27; (with_reducible refine (part_calls (ad.add (j * 4)) x A3 c3 lv _ ?side (by omega)).mono ?_); (case side => repeat (first | exact HX.out | apply ExprAt.drewN)); rintro e w1 ⟨rfl, ⟨nd, rfl⟩⟩; rw [HP3.out]))
                go_ret
                exact ⟨by show Ending.returned (.bool false) = _; rw [← HE.out, HF.out], by repeat (first | exact HB.out | apply pw_below_drewN | apply below_drew1)⟩
              · have HK : Aside0 (kidsB (bodyB body j) x j 0 x.f3 ls = bodyB body body.length ((List.replicate body.length (-1)).set (body.length - 1) p)) := ⟨by rw [← HE.out]; simp only [bodyB]; rw [← HXV.out, ← HLV.out, if_neg p1, if_neg p2, if_pos p3]⟩
                have HP3 := Aside0.mk p3
                have hm := HX.out.c3
                have hn3 := part_kids x lv p3
                have HMO : Aside0 (∀ k, 0 ≤ moreB x k ∧ moreB x k ≤ 3) := ⟨more_small x lv p3⟩
                clear p1 p2 p3
                go_wp2_with (first | (go_at_call 27; (with_reducible refine (part_calls (ad.add (j * 4)) x A3 c3 lv _ ?side (by omega)).mono ?_); (case side => repeat (first | exact HX.out | apply ExprAt.drewN)); rintro e w1 ⟨rfl, ⟨nd, rfl⟩⟩; rw [HP3.out]))
                clear hcl hm hb1 q1 q2
                go_loopw [75] (fun v wq => ∃ (k : Nat) (ks : List Int), k ≤ x.f3.length ∧ v = .int .i64 (k : Int) ∧ Aside0 (ks.length = body.length) ∧ Aside0 (∀ x ∈ ks, -1 ≤ x ∧ x ≤ 20) ∧ Aside0 (kidsB (bodyB body j) x j k (x.f3.drop k) ks = bodyB body body.length ((List.replicate body.length (-1)).set (body.length - 1) p)) ∧ Aside0 (ks.getD j 0 = lv) ∧ Aside0 (LV wq g ks) ∧ Aside0 (wq.heap[gb]? = some (.cells #[.int .i64 p, .slice (some ad) body.length c] 24 (0, 0))) ∧ Aside0 (Below w.heap.size w wq)) (fun v _ => x.f3.length - (intOf v).toNat)
                case atStart => exact ⟨0, ls, Nat.zero_le _, rfl, HN, HR, ⟨by simpa using HK.out⟩, ⟨HLV.out.symm⟩, ⟨HL.out.drewN _⟩, ⟨BK.out⟩, ⟨pw_below_drewN HB.out _⟩⟩
                case round =>
                  have HX0 := Aside0.mk (hx0.out)
                  clear HX HL BK HB HN HR HE HK
                  obtain ⟨k, ks, hk, rfl, HN, HR, HE, HV, HL, BK, HB⟩ := hrel
                  by_cases hlt : k < x.f3.length
                  · obtain ⟨ad3, rfl, hkid⟩ := kidAt_of HC3.out k hlt
                    have hkid1 := pw_cell_below HB.out hkid
                    have HX := Aside0.mk (HX0.out.below HB.out)
                    obtain ⟨kid, hkv⟩ : ∃ kid, kid = x.f3.getD k 0 := ⟨_, rfl⟩
                    rw [← hkv] at hkid1
                    have hcons : x.f3.drop k = kid :: x.f3.drop (k + 1) := by
                      rw [hkv]; exact drop_getD _ _ hlt
                    have HCONS := Aside0.mk hcons
                    clear hkid hkv hcons
                    have hk1 : (k : Int) < (x.f3.length : Int) := by omega
                    by_cases r1 : kid < 0
                    · have s1 : decide (kid < 0) = true := decide_eq_true r1
                      have HF : Aside0 (kidsB (bodyB body j) x j k (x.f3.drop k) ks = false) := ⟨by rw [HCONS.out]; simp only [kidsB]; rw [if_pos r1]⟩
                      clear r1
                      go_wp2
                      go_ret
                      exact ⟨by show Ending.returned (.bool false) = _; rw [← HE.out, HF.out], by repeat (first | exact HB.out | apply pw_below_drewN | apply below_drew1)⟩
                    · have s1 : decide (kid < 0) = false := decide_eq_false r1
                      by_cases r2 : (j : Int) ≤ kid
                      · have s2 : decide ((j : Int) ≤ kid) = true := decide_eq_true r2
                        have HF : Aside0 (kidsB (bodyB body j) x j k (x.f3.drop k) ks = false) := ⟨by rw [HCONS.out]; simp only [kidsB]; rw [if_neg r1, if_pos r2]⟩
                        clear r1 r2
                        go_wp2
                        go_ret
                        exact ⟨by show Ending.returned (.bool false) = _; rw [← HE.out, HF.out], by repeat (first | exact HB.out | apply pw_below_drewN | apply below_drew1)⟩
                      · have s2 : decide ((j : Int) ≤ kid) = false := decide_eq_false r2
                        have hkd0 : 0 ≤ kid := by omega
                        have hkdj : kid < (j : Int) := by omega
                        have hkdn : kid < (body.length : Int) := by omega
                        obtain ⟨lk, hlk⟩ : ∃ lk, lk = ks.getD kid.toNat 0 := ⟨_, rfl⟩
                        have hck : wr.cell? ⟨g, kid.toNat, none⟩ = some (.int .i64 lk) := by rw [hlk]; exact HL.out.cell _ (by rw [HN.out]; omega)
                        have HLK := Aside0.mk hlk
                        clear hlk
                        by_cases r3 : lk = -1
                        · have s3 : (lk != -1) = false := bne_eq_false_iff_eq.mpr r3
                          have HG1 : Aside0 (kidsB (bodyB body j) x j (k + 1) (x.f3.drop (k + 1)) (ks.set kid.toNat (lv + moreB x k)) = bodyB body body.length ((List.replicate body.length (-1)).set (body.length - 1) p)) := ⟨by
                            have h := HE.out
                            rw [HCONS.out] at h
                            simp only [kidsB] at h
                            rw [if_neg r1, if_neg r2, if_pos (by rw [← HLK.out]; exact r3), HV.out] at h
                            exact h⟩
                          have hci : wr.cell? ⟨g, j, none⟩ = some (.int .i64 lv) := by rw [← HV.out]; exact HL.out.cell j (by rw [HN.out]; omega)
                          have hfk := HL.out.frozen kid.toNat
                          clear r1 r2 r3
                          have hmo := HMO.out (k : Int)
                          have HS := Aside0.mk (HL.out.set kid.toNat (lv + moreB x k))
                          have hww : IntKind.i64.wrap (lv + moreB x k) = lv + moreB x k := IntWalk.i64_in _ (by omega)
                          have hkj : kid.toNat ≠ j := by omega
                          go_wp2
                          go_region_held3 (fun w' => w'.cell? ⟨g, j, none⟩ = some (.int .i64 lv)) (first | exact hci | exact (cell_set_other _ _ _ _ _ hkj).trans hci) (first | (go_at_call 28; refine (more_calls (ad.add (j * 4)) x (some ad3) c3 (k : Int) _ ?sm).mono ?_; (case sm => repeat (first | exact HX.out | apply ExprAt.drewN)); rintro e w1 ⟨rfl, ⟨nd, rfl⟩⟩))
                          go_wp2
                          go_roundw
                          case rel =>
                            refine ⟨k + 1, _, Nat.succ_le_of_lt hlt, by go_num, ⟨?_⟩, ⟨?_⟩, HG1, ⟨?_⟩, ⟨HS.out.drewN _⟩, ⟨?_⟩, ⟨?_⟩⟩
                            · rw [List.length_set]; exact HN.out
                            · intro y hy
                              rcases List.mem_or_eq_of_mem_set hy with h | h
                              · exact HR.out y h
                              · omega
                            · rw [List.getD_eq_getElem?_getD, List.getElem?_set_ne hkj, ← List.getD_eq_getElem?_getD]; exact HV.out
                            · exact blk_far (blk_drewN BK.out _) (show gb ≠ g by omega) _
                            · exact below_set (pw_below_drewN HB.out _) hgw
                          case measure => show x.f3.length - ((k : Int) + 1).toNat < x.f3.length - (k : Int).toNat; omega
                        · have s3 : (lk != -1) = true := bne_iff_ne.mpr r3
                          have HF : Aside0 (kidsB (bodyB body j) x j k (x.f3.drop k) ks = false) := ⟨by rw [HCONS.out]; simp only [kidsB]; rw [if_neg r1, if_neg r2, if_neg (by rw [← HLK.out]; exact r3)]⟩
                          clear r1 r2 r3
                          go_wp2
                          go_ret
                          exact ⟨by show Ending.returned (.bool false) = _; rw [← HE.out, HF.out], by repeat (first | exact HB.out | apply pw_below_drewN | apply below_drew1)⟩
                  · have hk2 : ¬ (k : Int) < (x.f3.length : Int) := by omega
                    have hke : k = x.f3.length := by omega
                    have HE2 : Aside0 (bodyB body j ks = bodyB body body.length ((List.replicate body.length (-1)).set (body.length - 1) p)) := ⟨by
                      have h := HE.out
                      rw [hke, List.drop_length] at h
                      exact h⟩
                    clear hke
                    go_wp2
                    go_roundw
                    case rel => exact ⟨j, ks, by omega, by go_num, HN, HR, HE2, HL, BK, HB⟩
                    case measure => show ((j : Int) - 1 + 1).toNat < ((j : Int) + 1).toNat; omega

/-- What expr.May answers. -/
def expr_May.f (a0_0 : Int) (l0_1 : List S33) : Option Bool := some (mayB a0_0 l0_1)
theorem expr_May.calls (a0_0 : Int) (A0_1 : Option Addr) (c0_1 : Nat) (l0_1 : List S33) (r : Bool) (w : World) (hr0_1 : Kd.C k33 w A0_1 l0_1.length l0_1) (hc0_1 : l0_1.length ≤ c0_1) (h : expr_May.f a0_0 l0_1 = some r) :
    Calls Try.prog 13 #[.agg #[.int .i64 a0_0, .slice A0_1 l0_1.length c0_1]] w fun e w' => e = .returned (.bool r) ∧ Below w.heap.size w w' := by
  obtain rfl := Option.some.inj h
  have hl : l0_1.length ≤ 9223372036854775807 := Kd.C_max hr0_1
  cases hp : withinB a0_0 3
  · have e : mayB a0_0 l0_1 = false := by unfold mayB; rw [if_neg (by rw [hp]; decide)]
    rw [e]
    exact May_params a0_0 A0_1 c0_1 l0_1 w hl hp
  · cases hs : withinB ((l0_1.length : Int) - 1) 23
    · have e : mayB a0_0 l0_1 = false := by unfold mayB; rw [if_pos hp, if_neg (by rw [hs]; decide)]
      rw [e]
      exact May_size a0_0 A0_1 c0_1 l0_1 w hl hp hs
    · have e : mayB a0_0 l0_1 = bodyB l0_1 l0_1.length ((List.replicate l0_1.length (-1)).set (l0_1.length - 1) a0_0) := by unfold mayB; rw [if_pos hp, if_pos hs]
      rw [e]
      have wi : ∀ x m : Int, withinB x m = true → 0 ≤ x ∧ x ≤ m := fun x m h => by
        unfold withinB at h
        split at h
        · exact ⟨by assumption, of_decide_eq_true h⟩
        · simp at h
      have w1 := wi _ _ hp
      have w2 := wi _ _ hs
      exact May_runs a0_0 A0_1 c0_1 l0_1 w hr0_1 hp hs w1.1 w1.2 (by omega) (by omega)
end Go.Proofs.Ytkpblifelpokfaa.PAll
