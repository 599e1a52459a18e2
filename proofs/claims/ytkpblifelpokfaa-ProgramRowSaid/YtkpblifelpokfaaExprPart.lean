/- What expr.within, prim.May, expr.plain, expr.part and expr.more answer, of a part of a body that lies anywhere in memory. No condition but that its four cells are there. -/
import Derived.Test.YtkpblifelpokfaaPAllx0
namespace Go.Proofs.Ytkpblifelpokfaa.PAll
open Go.RowKit Go.Proofs.YtkpblifelpokfaaW.PrintWords Go.Proofs.YtkpblifelpokfaaW.PrintLast Go.Proofs.YtkpblifelpokfaaW.PrintMore
set_option linter.unusedVariables false
set_option linter.unusedSimpArgs false

/-- A part of a body at a place in memory. -/
structure ExprAt (w : World) (a : Addr) (x : S33) (A : Option Addr) (c : Nat) : Prop where
  c0 : w.cell? a = some (.int .i64 x.f0)
  c1 : w.cell? ⟨a.block, a.off + 1, none⟩ = some (.int .i64 x.f1)
  c2 : w.cell? ⟨a.block, a.off + 2, none⟩ = some (.int .i64 x.f2)
  c3 : w.cell? ⟨a.block, a.off + 3, none⟩ = some (.slice A x.f3.length c)
theorem ExprAt.drewN {w : World} {a : Addr} {x : S33} {A : Option Addr} {c : Nat} (h : ExprAt w a x A c) (n : Nat) : ExprAt (w.drewN n) a x A c := ⟨h.c0, h.c1, h.c2, h.c3⟩
theorem ExprAt.below {w w1 : World} {a : Addr} {x : S33} {A : Option Addr} {c : Nat} (h : ExprAt w a x A c) (hb : Below w.heap.size w w1) : ExprAt w1 a x A c :=
  ⟨pw_cell_below hb h.c0, pw_cell_below hb h.c1, pw_cell_below hb h.c2, pw_cell_below hb h.c3⟩

def withinB (x most : Int) : Bool := if 0 ≤ x then decide (x ≤ most) else false
def smallB (x : Int) : Bool := if -32768 ≤ x then decide (x ≤ 32767) else false
def plainB (x : S33) (bind least most : Int) : Bool := if 0 ≤ x.f2 then (if x.f2 ≤ bind then (if least ≤ (x.f3.length : Int) then decide ((x.f3.length : Int) ≤ most) else false) else false) else false

set_option maxHeartbeats 1000000 in
theorem within_calls (x most : Int) (w : World) : Calls Try.prog 26 #[.int .i64 x, .int .i64 most] w fun e w' => e = .returned (.bool (withinB x most)) ∧ Drawn0 w w' := by
  by_cases c : 0 ≤ x
  · have h : withinB x most = decide (x ≤ most) := by simp [withinB, c]
    rw [h]
    have cb : decide (0 ≤ x) = true := decide_eq_true c
    clear c h
    go_enter Try.func26, Try.ntmps26
    go_wp2
    go_ret
    exact ⟨by first | rfl | (simp; done), by repeat (first | exact Drawn0.refl _ | apply Drawn0.step)⟩
  · have h : withinB x most = false := by simp [withinB, c]
    rw [h]
    have cb : decide (0 ≤ x) = false := decide_eq_false c
    clear c h
    go_enter Try.func26, Try.ntmps26
    go_wp2
    go_ret
    exact ⟨by first | rfl | (simp; done), by repeat (first | exact Drawn0.refl _ | apply Drawn0.step)⟩

set_option maxHeartbeats 1000000 in
theorem small_calls (x : Int) (w : World) : Calls Try.prog 35 #[.int .i64 x] w fun e w' => e = .returned (.bool (smallB x)) ∧ Drawn0 w w' := by
  by_cases c : -32768 ≤ x
  · have h : smallB x = decide (x ≤ 32767) := by simp [smallB, c]
    rw [h]
    have cb : decide (-32768 ≤ x) = true := decide_eq_true c
    clear c h
    go_enter Try.func35, Try.ntmps35
    go_wp2
    go_ret
    exact ⟨by first | rfl | (simp; done), by repeat (first | exact Drawn0.refl _ | apply Drawn0.step)⟩
  · have h : smallB x = false := by simp [smallB, c]
    rw [h]
    have cb : decide (-32768 ≤ x) = false := decide_eq_false c
    clear c h
    go_enter Try.func35, Try.ntmps35
    go_wp2
    go_ret
    exact ⟨by first | rfl | (simp; done), by repeat (first | exact Drawn0.refl _ | apply Drawn0.step)⟩

set_option maxHeartbeats 1000000 in
theorem plain_calls (a : Addr) (x : S33) (A : Option Addr) (c : Nat) (bind least most : Int) (w : World) (h : ExprAt w a x A c) :
    Calls Try.prog 36 #[.pointer (some a), .int .i64 bind, .int .i64 least, .int .i64 most] w fun e w' => e = .returned (.bool (plainB x bind least most)) ∧ Drawn0 w w' := by
  obtain ⟨h0, h1, h2, h3⟩ := h
  by_cases p1 : 0 ≤ x.f2
  · by_cases p2 : x.f2 ≤ bind
    · by_cases p3 : least ≤ (x.f3.length : Int)
      · have g : plainB x bind least most = decide ((x.f3.length : Int) ≤ most) := by simp [plainB, p1, p2, p3]
        rw [g]
        have q1 : decide (0 ≤ x.f2) = true := decide_eq_true p1
        have q2 : decide (x.f2 ≤ bind) = true := decide_eq_true p2
        have q3 : decide (least ≤ (x.f3.length : Int)) = true := decide_eq_true p3
        clear p1 p2 p3 g
        go_enter Try.func36, Try.ntmps36
        go_wp2
        go_ret
        exact ⟨by first | rfl | (simp; done), by repeat (first | exact Drawn0.refl _ | apply Drawn0.step)⟩
      · have g : plainB x bind least most = false := by simp [plainB, p1, p2, p3]
        rw [g]
        have q1 : decide (0 ≤ x.f2) = true := decide_eq_true p1
        have q2 : decide (x.f2 ≤ bind) = true := decide_eq_true p2
        have q3 : decide (least ≤ (x.f3.length : Int)) = false := decide_eq_false p3
        clear p1 p2 p3 g
        go_enter Try.func36, Try.ntmps36
        go_wp2
        go_ret
        exact ⟨by first | rfl | (simp; done), by repeat (first | exact Drawn0.refl _ | apply Drawn0.step)⟩
    · have g : plainB x bind least most = false := by simp [plainB, p1, p2]
      rw [g]
      have q1 : decide (0 ≤ x.f2) = true := decide_eq_true p1
      have q2 : decide (x.f2 ≤ bind) = false := decide_eq_false p2
      clear p1 p2 g
      go_enter Try.func36, Try.ntmps36
      go_wp2
      go_ret
      exact ⟨by first | rfl | (simp; done), by repeat (first | exact Drawn0.refl _ | apply Drawn0.step)⟩
  · have g : plainB x bind least most = false := by simp [plainB, p1]
    rw [g]
    have q1 : decide (0 ≤ x.f2) = false := decide_eq_false p1
    clear p1 g
    go_enter Try.func36, Try.ntmps36
    go_wp2
    go_ret
    exact ⟨by first | rfl | (simp; done), by repeat (first | exact Drawn0.refl _ | apply Drawn0.step)⟩

def partB (x : S33) (lv : Int) : Bool :=
  if x.f0 = 0 then smallB x.f1 && plainB x 0 0 0
  else if x.f0 = 1 then withinB x.f1 (lv - 1) && plainB x 0 0 0
  else if x.f0 = 2 then withinB x.f1 7 && plainB x 0 0 3
  else if x.f0 = 3 then withinB x.f1 99 && plainB x 0 0 3
  else if x.f0 = 4 then withinB x.f1 4 && plainB x 0 2 2
  else if x.f0 = 5 then withinB x.f1 99 && plainB x 3 3 3
  else if x.f0 = 6 then (if x.f1 = 0 then plainB x 0 2 2 else false)
  else if x.f0 = 7 then (if x.f1 = 0 then plainB x 0 0 0 else false)
  else false
def moreB (x : S33) (k : Int) : Int := if k = 1 then (if x.f0 = 5 then x.f2 else if x.f0 = 6 then 1 else 0) else 0
set_option maxHeartbeats 2000000
theorem part_0_true (a : Addr) (x : S33) (A : Option Addr) (c : Nat) (lv : Int) (w : World) (h : ExprAt w a x A c) (hl : 0 ≤ lv ∧ lv ≤ 100) (he : x.f0 = 0) (hg : smallB x.f1 = true) :
    Calls Try.prog 27 #[.pointer (some a), .int .i64 lv] w fun e w' => e = .returned (.bool (partB x lv)) ∧ Drawn0 w w' := by
  have g : partB x lv = plainB x 0 0 0 := by simp [partB, he, hg]
  rw [g]
  clear g
  have y0 : (x.f0 == 0) = true := by rw [he]; rfl
  clear he
  have Hg := Aside0.mk hg
  clear hg
  have Hx := Aside0.mk h
  obtain ⟨h0, h1, h2, h3⟩ := h
  obtain ⟨hl0, hl1⟩ := hl
  go_enter Try.func27, Try.ntmps27
  go_wp2_with (first | (go_at_call 35; (with_reducible refine (small_calls x.f1 _).mono ?_); rintro e w1 ⟨rfl, ⟨nd, rfl⟩⟩; rw [Hg.out]) | (go_at_call 36; (with_reducible refine (plain_calls a x A c 0 0 0 _ ?side).mono ?_); (case side => repeat (first | exact Hx.out | apply ExprAt.drewN)); rintro e w1 ⟨rfl, ⟨nd, rfl⟩⟩))
  go_ret
  exact ⟨by first | rfl | (simp; done), by repeat (first | exact Drawn0.refl _ | apply Drawn0.step)⟩

theorem part_0_false (a : Addr) (x : S33) (A : Option Addr) (c : Nat) (lv : Int) (w : World) (h : ExprAt w a x A c) (hl : 0 ≤ lv ∧ lv ≤ 100) (he : x.f0 = 0) (hg : smallB x.f1 = false) :
    Calls Try.prog 27 #[.pointer (some a), .int .i64 lv] w fun e w' => e = .returned (.bool (partB x lv)) ∧ Drawn0 w w' := by
  have g : partB x lv = false := by simp [partB, he, hg]
  rw [g]
  clear g
  have y0 : (x.f0 == 0) = true := by rw [he]; rfl
  clear he
  have Hg := Aside0.mk hg
  clear hg
  have Hx := Aside0.mk h
  obtain ⟨h0, h1, h2, h3⟩ := h
  obtain ⟨hl0, hl1⟩ := hl
  go_enter Try.func27, Try.ntmps27
  go_wp2_with (first | (go_at_call 35; (with_reducible refine (small_calls x.f1 _).mono ?_); rintro e w1 ⟨rfl, ⟨nd, rfl⟩⟩; rw [Hg.out]))
  go_ret
  exact ⟨by first | rfl | (simp; done), by repeat (first | exact Drawn0.refl _ | apply Drawn0.step)⟩
theorem part_1_true (a : Addr) (x : S33) (A : Option Addr) (c : Nat) (lv : Int) (w : World) (h : ExprAt w a x A c) (hl : 0 ≤ lv ∧ lv ≤ 100) (he : x.f0 = 1) (hg : withinB x.f1 (lv - 1) = true) :
    Calls Try.prog 27 #[.pointer (some a), .int .i64 lv] w fun e w' => e = .returned (.bool (partB x lv)) ∧ Drawn0 w w' := by
  have g : partB x lv = plainB x 0 0 0 := by simp [partB, he, hg]
  rw [g]
  clear g
  have n0 : (x.f0 == 0) = false := by rw [he]; rfl
  have y1 : (x.f0 == 1) = true := by rw [he]; rfl
  clear he
  have Hg := Aside0.mk hg
  clear hg
  have Hx := Aside0.mk h
  obtain ⟨h0, h1, h2, h3⟩ := h
  obtain ⟨hl0, hl1⟩ := hl
  go_enter Try.func27, Try.ntmps27
  go_wp2_with (first | (go_at_call 26; (with_reducible refine (within_calls x.f1 (lv - 1) _).mono ?_); rintro e w1 ⟨rfl, ⟨nd, rfl⟩⟩; rw [Hg.out]) | (go_at_call 36; (with_reducible refine (plain_calls a x A c 0 0 0 _ ?side).mono ?_); (case side => repeat (first | exact Hx.out | apply ExprAt.drewN)); rintro e w1 ⟨rfl, ⟨nd, rfl⟩⟩))
  go_ret
  exact ⟨by first | rfl | (simp; done), by repeat (first | exact Drawn0.refl _ | apply Drawn0.step)⟩

theorem part_1_false (a : Addr) (x : S33) (A : Option Addr) (c : Nat) (lv : Int) (w : World) (h : ExprAt w a x A c) (hl : 0 ≤ lv ∧ lv ≤ 100) (he : x.f0 = 1) (hg : withinB x.f1 (lv - 1) = false) :
    Calls Try.prog 27 #[.pointer (some a), .int .i64 lv] w fun e w' => e = .returned (.bool (partB x lv)) ∧ Drawn0 w w' := by
  have g : partB x lv = false := by simp [partB, he, hg]
  rw [g]
  clear g
  have n0 : (x.f0 == 0) = false := by rw [he]; rfl
  have y1 : (x.f0 == 1) = true := by rw [he]; rfl
  clear he
  have Hg := Aside0.mk hg
  clear hg
  have Hx := Aside0.mk h
  obtain ⟨h0, h1, h2, h3⟩ := h
  obtain ⟨hl0, hl1⟩ := hl
  go_enter Try.func27, Try.ntmps27
  go_wp2_with (first | (go_at_call 26; (with_reducible refine (within_calls x.f1 (lv - 1) _).mono ?_); rintro e w1 ⟨rfl, ⟨nd, rfl⟩⟩; rw [Hg.out]))
  go_ret
  exact ⟨by first | rfl | (simp; done), by repeat (first | exact Drawn0.refl _ | apply Drawn0.step)⟩
theorem part_2_true (a : Addr) (x : S33) (A : Option Addr) (c : Nat) (lv : Int) (w : World) (h : ExprAt w a x A c) (hl : 0 ≤ lv ∧ lv ≤ 100) (he : x.f0 = 2) (hg : withinB x.f1 7 = true) :
    Calls Try.prog 27 #[.pointer (some a), .int .i64 lv] w fun e w' => e = .returned (.bool (partB x lv)) ∧ Drawn0 w w' := by
  have g : partB x lv = plainB x 0 0 3 := by simp [partB, he, hg]
  rw [g]
  clear g
  have n0 : (x.f0 == 0) = false := by rw [he]; rfl
  have n1 : (x.f0 == 1) = false := by rw [he]; rfl
  have y2 : (x.f0 == 2) = true := by rw [he]; rfl
  clear he
  have Hg := Aside0.mk hg
  clear hg
  have Hx := Aside0.mk h
  obtain ⟨h0, h1, h2, h3⟩ := h
  obtain ⟨hl0, hl1⟩ := hl
  go_enter Try.func27, Try.ntmps27
  go_wp2_with (first | (go_at_call 26; (with_reducible refine (within_calls x.f1 7 _).mono ?_); rintro e w1 ⟨rfl, ⟨nd, rfl⟩⟩; rw [Hg.out]) | (go_at_call 36; (with_reducible refine (plain_calls a x A c 0 0 3 _ ?side).mono ?_); (case side => repeat (first | exact Hx.out | apply ExprAt.drewN)); rintro e w1 ⟨rfl, ⟨nd, rfl⟩⟩))
  go_ret
  exact ⟨by first | rfl | (simp; done), by repeat (first | exact Drawn0.refl _ | apply Drawn0.step)⟩

theorem part_2_false (a : Addr) (x : S33) (A : Option Addr) (c : Nat) (lv : Int) (w : World) (h : ExprAt w a x A c) (hl : 0 ≤ lv ∧ lv ≤ 100) (he : x.f0 = 2) (hg : withinB x.f1 7 = false) :
    Calls Try.prog 27 #[.pointer (some a), .int .i64 lv] w fun e w' => e = .returned (.bool (partB x lv)) ∧ Drawn0 w w' := by
  have g : partB x lv = false := by simp [partB, he, hg]
  rw [g]
  clear g
  have n0 : (x.f0 == 0) = false := by rw [he]; rfl
  have n1 : (x.f0 == 1) = false := by rw [he]; rfl
  have y2 : (x.f0 == 2) = true := by rw [he]; rfl
  clear he
  have Hg := Aside0.mk hg
  clear hg
  have Hx := Aside0.mk h
  obtain ⟨h0, h1, h2, h3⟩ := h
  obtain ⟨hl0, hl1⟩ := hl
  go_enter Try.func27, Try.ntmps27
  go_wp2_with (first | (go_at_call 26; (with_reducible refine (within_calls x.f1 7 _).mono ?_); rintro e w1 ⟨rfl, ⟨nd, rfl⟩⟩; rw [Hg.out]))
  go_ret
  exact ⟨by first | rfl | (simp; done), by repeat (first | exact Drawn0.refl _ | apply Drawn0.step)⟩
theorem part_3_true (a : Addr) (x : S33) (A : Option Addr) (c : Nat) (lv : Int) (w : World) (h : ExprAt w a x A c) (hl : 0 ≤ lv ∧ lv ≤ 100) (he : x.f0 = 3) (hg : withinB x.f1 99 = true) :
    Calls Try.prog 27 #[.pointer (some a), .int .i64 lv] w fun e w' => e = .returned (.bool (partB x lv)) ∧ Drawn0 w w' := by
  have g : partB x lv = plainB x 0 0 3 := by simp [partB, he, hg]
  rw [g]
  clear g
  have n0 : (x.f0 == 0) = false := by rw [he]; rfl
  have n1 : (x.f0 == 1) = false := by rw [he]; rfl
  have n2 : (x.f0 == 2) = false := by rw [he]; rfl
  have y3 : (x.f0 == 3) = true := by rw [he]; rfl
  clear he
  have Hg := Aside0.mk hg
  clear hg
  have Hx := Aside0.mk h
  obtain ⟨h0, h1, h2, h3⟩ := h
  obtain ⟨hl0, hl1⟩ := hl
  go_enter Try.func27, Try.ntmps27
  go_wp2_with (first | (go_at_call 26; (with_reducible refine (within_calls x.f1 99 _).mono ?_); rintro e w1 ⟨rfl, ⟨nd, rfl⟩⟩; rw [Hg.out]) | (go_at_call 36; (with_reducible refine (plain_calls a x A c 0 0 3 _ ?side).mono ?_); (case side => repeat (first | exact Hx.out | apply ExprAt.drewN)); rintro e w1 ⟨rfl, ⟨nd, rfl⟩⟩))
  go_ret
  exact ⟨by first | rfl | (simp; done), by repeat (first | exact Drawn0.refl _ | apply Drawn0.step)⟩

theorem part_3_false (a : Addr) (x : S33) (A : Option Addr) (c : Nat) (lv : Int) (w : World) (h : ExprAt w a x A c) (hl : 0 ≤ lv ∧ lv ≤ 100) (he : x.f0 = 3) (hg : withinB x.f1 99 = false) :
    Calls Try.prog 27 #[.pointer (some a), .int .i64 lv] w fun e w' => e = .returned (.bool (partB x lv)) ∧ Drawn0 w w' := by
  have g : partB x lv = false := by simp [partB, he, hg]
  rw [g]
  clear g
  have n0 : (x.f0 == 0) = false := by rw [he]; rfl
  have n1 : (x.f0 == 1) = false := by rw [he]; rfl
  have n2 : (x.f0 == 2) = false := by rw [he]; rfl
  have y3 : (x.f0 == 3) = true := by rw [he]; rfl
  clear he
  have Hg := Aside0.mk hg
  clear hg
  have Hx := Aside0.mk h
  obtain ⟨h0, h1, h2, h3⟩ := h
  obtain ⟨hl0, hl1⟩ := hl
  go_enter Try.func27, Try.ntmps27
  go_wp2_with (first | (go_at_call 26; (with_reducible refine (within_calls x.f1 99 _).mono ?_); rintro e w1 ⟨rfl, ⟨nd, rfl⟩⟩; rw [Hg.out]))
  go_ret
  exact ⟨by first | rfl | (simp; done), by repeat (first | exact Drawn0.refl _ | apply Drawn0.step)⟩
theorem part_4_true (a : Addr) (x : S33) (A : Option Addr) (c : Nat) (lv : Int) (w : World) (h : ExprAt w a x A c) (hl : 0 ≤ lv ∧ lv ≤ 100) (he : x.f0 = 4) (hg : withinB x.f1 4 = true) :
    Calls Try.prog 27 #[.pointer (some a), .int .i64 lv] w fun e w' => e = .returned (.bool (partB x lv)) ∧ Drawn0 w w' := by
  have g : partB x lv = plainB x 0 2 2 := by simp [partB, he, hg]
  rw [g]
  clear g
  have n0 : (x.f0 == 0) = false := by rw [he]; rfl
  have n1 : (x.f0 == 1) = false := by rw [he]; rfl
  have n2 : (x.f0 == 2) = false := by rw [he]; rfl
  have n3 : (x.f0 == 3) = false := by rw [he]; rfl
  have y4 : (x.f0 == 4) = true := by rw [he]; rfl
  clear he
  have Hg := Aside0.mk hg
  clear hg
  have Hx := Aside0.mk h
  obtain ⟨h0, h1, h2, h3⟩ := h
  obtain ⟨hl0, hl1⟩ := hl
  go_enter Try.func27, Try.ntmps27
  go_wp2_with (first | (go_at_call 26; (with_reducible refine (within_calls x.f1 4 _).mono ?_); rintro e w1 ⟨rfl, ⟨nd, rfl⟩⟩; rw [Hg.out]) | (go_at_call 36; (with_reducible refine (plain_calls a x A c 0 2 2 _ ?side).mono ?_); (case side => repeat (first | exact Hx.out | apply ExprAt.drewN)); rintro e w1 ⟨rfl, ⟨nd, rfl⟩⟩))
  go_ret
  exact ⟨by first | rfl | (simp; done), by repeat (first | exact Drawn0.refl _ | apply Drawn0.step)⟩

theorem part_4_false (a : Addr) (x : S33) (A : Option Addr) (c : Nat) (lv : Int) (w : World) (h : ExprAt w a x A c) (hl : 0 ≤ lv ∧ lv ≤ 100) (he : x.f0 = 4) (hg : withinB x.f1 4 = false) :
    Calls Try.prog 27 #[.pointer (some a), .int .i64 lv] w fun e w' => e = .returned (.bool (partB x lv)) ∧ Drawn0 w w' := by
  have g : partB x lv = false := by simp [partB, he, hg]
  rw [g]
  clear g
  have n0 : (x.f0 == 0) = false := by rw [he]; rfl
  have n1 : (x.f0 == 1) = false := by rw [he]; rfl
  have n2 : (x.f0 == 2) = false := by rw [he]; rfl
  have n3 : (x.f0 == 3) = false := by rw [he]; rfl
  have y4 : (x.f0 == 4) = true := by rw [he]; rfl
  clear he
  have Hg := Aside0.mk hg
  clear hg
  have Hx := Aside0.mk h
  obtain ⟨h0, h1, h2, h3⟩ := h
  obtain ⟨hl0, hl1⟩ := hl
  go_enter Try.func27, Try.ntmps27
  go_wp2_with (first | (go_at_call 26; (with_reducible refine (within_calls x.f1 4 _).mono ?_); rintro e w1 ⟨rfl, ⟨nd, rfl⟩⟩; rw [Hg.out]))
  go_ret
  exact ⟨by first | rfl | (simp; done), by repeat (first | exact Drawn0.refl _ | apply Drawn0.step)⟩
theorem part_5_true (a : Addr) (x : S33) (A : Option Addr) (c : Nat) (lv : Int) (w : World) (h : ExprAt w a x A c) (hl : 0 ≤ lv ∧ lv ≤ 100) (he : x.f0 = 5) (hg : withinB x.f1 99 = true) :
    Calls Try.prog 27 #[.pointer (some a), .int .i64 lv] w fun e w' => e = .returned (.bool (partB x lv)) ∧ Drawn0 w w' := by
  have g : partB x lv = plainB x 3 3 3 := by simp [partB, he, hg]
  rw [g]
  clear g
  have n0 : (x.f0 == 0) = false := by rw [he]; rfl
  have n1 : (x.f0 == 1) = false := by rw [he]; rfl
  have n2 : (x.f0 == 2) = false := by rw [he]; rfl
  have n3 : (x.f0 == 3) = false := by rw [he]; rfl
  have n4 : (x.f0 == 4) = false := by rw [he]; rfl
  have y5 : (x.f0 == 5) = true := by rw [he]; rfl
  clear he
  have Hg := Aside0.mk hg
  clear hg
  have Hx := Aside0.mk h
  obtain ⟨h0, h1, h2, h3⟩ := h
  obtain ⟨hl0, hl1⟩ := hl
  go_enter Try.func27, Try.ntmps27
  go_wp2_with (first | (go_at_call 26; (with_reducible refine (within_calls x.f1 99 _).mono ?_); rintro e w1 ⟨rfl, ⟨nd, rfl⟩⟩; rw [Hg.out]) | (go_at_call 36; (with_reducible refine (plain_calls a x A c 3 3 3 _ ?side).mono ?_); (case side => repeat (first | exact Hx.out | apply ExprAt.drewN)); rintro e w1 ⟨rfl, ⟨nd, rfl⟩⟩))
  go_ret
  exact ⟨by first | rfl | (simp; done), by repeat (first | exact Drawn0.refl _ | apply Drawn0.step)⟩

theorem part_5_false (a : Addr) (x : S33) (A : Option Addr) (c : Nat) (lv : Int) (w : World) (h : ExprAt w a x A c) (hl : 0 ≤ lv ∧ lv ≤ 100) (he : x.f0 = 5) (hg : withinB x.f1 99 = false) :
    Calls Try.prog 27 #[.pointer (some a), .int .i64 lv] w fun e w' => e = .returned (.bool (partB x lv)) ∧ Drawn0 w w' := by
  have g : partB x lv = false := by simp [partB, he, hg]
  rw [g]
  clear g
  have n0 : (x.f0 == 0) = false := by rw [he]; rfl
  have n1 : (x.f0 == 1) = false := by rw [he]; rfl
  have n2 : (x.f0 == 2) = false := by rw [he]; rfl
  have n3 : (x.f0 == 3) = false := by rw [he]; rfl
  have n4 : (x.f0 == 4) = false := by rw [he]; rfl
  have y5 : (x.f0 == 5) = true := by rw [he]; rfl
  clear he
  have Hg := Aside0.mk hg
  clear hg
  have Hx := Aside0.mk h
  obtain ⟨h0, h1, h2, h3⟩ := h
  obtain ⟨hl0, hl1⟩ := hl
  go_enter Try.func27, Try.ntmps27
  go_wp2_with (first | (go_at_call 26; (with_reducible refine (within_calls x.f1 99 _).mono ?_); rintro e w1 ⟨rfl, ⟨nd, rfl⟩⟩; rw [Hg.out]))
  go_ret
  exact ⟨by first | rfl | (simp; done), by repeat (first | exact Drawn0.refl _ | apply Drawn0.step)⟩
theorem part_6_true (a : Addr) (x : S33) (A : Option Addr) (c : Nat) (lv : Int) (w : World) (h : ExprAt w a x A c) (he : x.f0 = 6) (hg : (x.f1 == 0) = true) :
    Calls Try.prog 27 #[.pointer (some a), .int .i64 lv] w fun e w' => e = .returned (.bool (partB x lv)) ∧ Drawn0 w w' := by
  have g : partB x lv = plainB x 0 2 2 := by simp at hg; simp [partB, he, hg]
  rw [g]
  clear g
  have n0 : (x.f0 == 0) = false := by rw [he]; rfl
  have n1 : (x.f0 == 1) = false := by rw [he]; rfl
  have n2 : (x.f0 == 2) = false := by rw [he]; rfl
  have n3 : (x.f0 == 3) = false := by rw [he]; rfl
  have n4 : (x.f0 == 4) = false := by rw [he]; rfl
  have n5 : (x.f0 == 5) = false := by rw [he]; rfl
  have y6 : (x.f0 == 6) = true := by rw [he]; rfl
  clear he
  have Hx := Aside0.mk h
  obtain ⟨h0, h1, h2, h3⟩ := h
  go_enter Try.func27, Try.ntmps27
  go_wp2_with (first | (go_at_call 36; (with_reducible refine (plain_calls a x A c 0 2 2 _ ?side).mono ?_); (case side => repeat (first | exact Hx.out | apply ExprAt.drewN)); rintro e w1 ⟨rfl, ⟨nd, rfl⟩⟩))
  go_ret
  exact ⟨by first | rfl | (simp; done), by repeat (first | exact Drawn0.refl _ | apply Drawn0.step)⟩
theorem part_6_false (a : Addr) (x : S33) (A : Option Addr) (c : Nat) (lv : Int) (w : World) (h : ExprAt w a x A c) (he : x.f0 = 6) (hg : (x.f1 == 0) = false) :
    Calls Try.prog 27 #[.pointer (some a), .int .i64 lv] w fun e w' => e = .returned (.bool (partB x lv)) ∧ Drawn0 w w' := by
  have g : partB x lv = false := by simp at hg; simp [partB, he, hg]
  rw [g]
  clear g
  have n0 : (x.f0 == 0) = false := by rw [he]; rfl
  have n1 : (x.f0 == 1) = false := by rw [he]; rfl
  have n2 : (x.f0 == 2) = false := by rw [he]; rfl
  have n3 : (x.f0 == 3) = false := by rw [he]; rfl
  have n4 : (x.f0 == 4) = false := by rw [he]; rfl
  have n5 : (x.f0 == 5) = false := by rw [he]; rfl
  have y6 : (x.f0 == 6) = true := by rw [he]; rfl
  clear he
  have Hx := Aside0.mk h
  obtain ⟨h0, h1, h2, h3⟩ := h
  go_enter Try.func27, Try.ntmps27
  go_wp2
  go_ret
  exact ⟨by first | rfl | (simp; done), by repeat (first | exact Drawn0.refl _ | apply Drawn0.step)⟩
theorem part_7_true (a : Addr) (x : S33) (A : Option Addr) (c : Nat) (lv : Int) (w : World) (h : ExprAt w a x A c) (he : x.f0 = 7) (hg : (x.f1 == 0) = true) :
    Calls Try.prog 27 #[.pointer (some a), .int .i64 lv] w fun e w' => e = .returned (.bool (partB x lv)) ∧ Drawn0 w w' := by
  have g : partB x lv = plainB x 0 0 0 := by simp at hg; simp [partB, he, hg]
  rw [g]
  clear g
  have n0 : (x.f0 == 0) = false := by rw [he]; rfl
  have n1 : (x.f0 == 1) = false := by rw [he]; rfl
  have n2 : (x.f0 == 2) = false := by rw [he]; rfl
  have n3 : (x.f0 == 3) = false := by rw [he]; rfl
  have n4 : (x.f0 == 4) = false := by rw [he]; rfl
  have n5 : (x.f0 == 5) = false := by rw [he]; rfl
  have n6 : (x.f0 == 6) = false := by rw [he]; rfl
  have y7 : (x.f0 == 7) = true := by rw [he]; rfl
  clear he
  have Hx := Aside0.mk h
  obtain ⟨h0, h1, h2, h3⟩ := h
  go_enter Try.func27, Try.ntmps27
  go_wp2_with (first | (go_at_call 36; (with_reducible refine (plain_calls a x A c 0 0 0 _ ?side).mono ?_); (case side => repeat (first | exact Hx.out | apply ExprAt.drewN)); rintro e w1 ⟨rfl, ⟨nd, rfl⟩⟩))
  go_ret
  exact ⟨by first | rfl | (simp; done), by repeat (first | exact Drawn0.refl _ | apply Drawn0.step)⟩
theorem part_7_false (a : Addr) (x : S33) (A : Option Addr) (c : Nat) (lv : Int) (w : World) (h : ExprAt w a x A c) (he : x.f0 = 7) (hg : (x.f1 == 0) = false) :
    Calls Try.prog 27 #[.pointer (some a), .int .i64 lv] w fun e w' => e = .returned (.bool (partB x lv)) ∧ Drawn0 w w' := by
  have g : partB x lv = false := by simp at hg; simp [partB, he, hg]
  rw [g]
  clear g
  have n0 : (x.f0 == 0) = false := by rw [he]; rfl
  have n1 : (x.f0 == 1) = false := by rw [he]; rfl
  have n2 : (x.f0 == 2) = false := by rw [he]; rfl
  have n3 : (x.f0 == 3) = false := by rw [he]; rfl
  have n4 : (x.f0 == 4) = false := by rw [he]; rfl
  have n5 : (x.f0 == 5) = false := by rw [he]; rfl
  have n6 : (x.f0 == 6) = false := by rw [he]; rfl
  have y7 : (x.f0 == 7) = true := by rw [he]; rfl
  clear he
  have Hx := Aside0.mk h
  obtain ⟨h0, h1, h2, h3⟩ := h
  go_enter Try.func27, Try.ntmps27
  go_wp2
  go_ret
  exact ⟨by first | rfl | (simp; done), by repeat (first | exact Drawn0.refl _ | apply Drawn0.step)⟩
theorem part_other (a : Addr) (x : S33) (A : Option Addr) (c : Nat) (lv : Int) (w : World) (h : ExprAt w a x A c) (he : x.f0 < 0 ∨ 7 < x.f0) :
    Calls Try.prog 27 #[.pointer (some a), .int .i64 lv] w fun e w' => e = .returned (.bool (partB x lv)) ∧ Drawn0 w w' := by
  have g : partB x lv = false := by unfold partB; rw [if_neg (by omega), if_neg (by omega), if_neg (by omega), if_neg (by omega), if_neg (by omega), if_neg (by omega), if_neg (by omega), if_neg (by omega)]
  rw [g]
  clear g
  have n0 : (x.f0 == 0) = false := beq_eq_false_iff_ne.mpr (by omega)
  have n1 : (x.f0 == 1) = false := beq_eq_false_iff_ne.mpr (by omega)
  have n2 : (x.f0 == 2) = false := beq_eq_false_iff_ne.mpr (by omega)
  have n3 : (x.f0 == 3) = false := beq_eq_false_iff_ne.mpr (by omega)
  have n4 : (x.f0 == 4) = false := beq_eq_false_iff_ne.mpr (by omega)
  have n5 : (x.f0 == 5) = false := beq_eq_false_iff_ne.mpr (by omega)
  have n6 : (x.f0 == 6) = false := beq_eq_false_iff_ne.mpr (by omega)
  have n7 : (x.f0 == 7) = false := beq_eq_false_iff_ne.mpr (by omega)
  clear he
  obtain ⟨h0, h1, h2, h3⟩ := h
  go_enter Try.func27, Try.ntmps27
  go_wp2
  go_ret
  exact ⟨by first | rfl | (simp; done), by repeat (first | exact Drawn0.refl _ | apply Drawn0.step)⟩

theorem part_calls (a : Addr) (x : S33) (A : Option Addr) (c : Nat) (lv : Int) (w : World) (h : ExprAt w a x A c) (hl : 0 ≤ lv ∧ lv ≤ 100) :
    Calls Try.prog 27 #[.pointer (some a), .int .i64 lv] w fun e w' => e = .returned (.bool (partB x lv)) ∧ Drawn0 w w' := by
  by_cases o : x.f0 < 0 ∨ 7 < x.f0
  · exact part_other a x A c lv w h o
  · have k : x.f0 = 0 ∨ x.f0 = 1 ∨ x.f0 = 2 ∨ x.f0 = 3 ∨ x.f0 = 4 ∨ x.f0 = 5 ∨ x.f0 = 6 ∨ x.f0 = 7 := by omega
    rcases k with k | k | k | k | k | k | k | k
    · cases g : smallB x.f1
      · exact part_0_false a x A c lv w h hl k g
      · exact part_0_true a x A c lv w h hl k g
    · cases g : withinB x.f1 (lv - 1)
      · exact part_1_false a x A c lv w h hl k g
      · exact part_1_true a x A c lv w h hl k g
    · cases g : withinB x.f1 7
      · exact part_2_false a x A c lv w h hl k g
      · exact part_2_true a x A c lv w h hl k g
    · cases g : withinB x.f1 99
      · exact part_3_false a x A c lv w h hl k g
      · exact part_3_true a x A c lv w h hl k g
    · cases g : withinB x.f1 4
      · exact part_4_false a x A c lv w h hl k g
      · exact part_4_true a x A c lv w h hl k g
    · cases g : withinB x.f1 99
      · exact part_5_false a x A c lv w h hl k g
      · exact part_5_true a x A c lv w h hl k g
    · cases g : (x.f1 == 0)
      · exact part_6_false a x A c lv w h k g
      · exact part_6_true a x A c lv w h k g
    · cases g : (x.f1 == 0)
      · exact part_7_false a x A c lv w h k g
      · exact part_7_true a x A c lv w h k g

theorem more_calls (a : Addr) (x : S33) (A : Option Addr) (c : Nat) (k : Int) (w : World) (h : ExprAt w a x A c) :
    Calls Try.prog 28 #[.pointer (some a), .int .i64 k] w fun e w' => e = .returned (.int .i64 (moreB x k)) ∧ Drawn0 w w' := by
  obtain ⟨h0, h1, h2, h3⟩ := h
  by_cases e1 : k = 1
  · by_cases e5 : x.f0 = 5
    · have g : moreB x k = x.f2 := by simp [moreB, e1, e5]
      rw [g]
      have q1 : (k != 1) = false := bne_eq_false_iff_eq.mpr e1
      have q1' : (k == 1) = true := beq_iff_eq.mpr e1
      have q5 : (x.f0 == 5) = true := beq_iff_eq.mpr e5
      clear g e1 e5
      go_enter Try.func28, Try.ntmps28
      go_wp2
      go_ret
      exact ⟨by first | rfl | (simp; done), by repeat (first | exact Drawn0.refl _ | apply Drawn0.step)⟩
    · by_cases e6 : x.f0 = 6
      · have g : moreB x k = 1 := by simp [moreB, e1, e6]
        rw [g]
        have q1 : (k != 1) = false := bne_eq_false_iff_eq.mpr e1
        have q1' : (k == 1) = true := beq_iff_eq.mpr e1
        have q5 : (x.f0 == 5) = false := beq_eq_false_iff_ne.mpr e5
        have q6 : (x.f0 == 6) = true := beq_iff_eq.mpr e6
        clear g e1 e5 e6
        go_enter Try.func28, Try.ntmps28
        go_wp2
        go_ret
        exact ⟨by first | rfl | (simp; done), by repeat (first | exact Drawn0.refl _ | apply Drawn0.step)⟩
      · have g : moreB x k = 0 := by simp [moreB, e5, e6]
        rw [g]
        have q1 : (k != 1) = false := bne_eq_false_iff_eq.mpr e1
        have q1' : (k == 1) = true := beq_iff_eq.mpr e1
        have q5 : (x.f0 == 5) = false := beq_eq_false_iff_ne.mpr e5
        have q6 : (x.f0 == 6) = false := beq_eq_false_iff_ne.mpr e6
        clear g e1 e5 e6
        go_enter Try.func28, Try.ntmps28
        go_wp2
        go_ret
        exact ⟨by first | rfl | (simp; done), by repeat (first | exact Drawn0.refl _ | apply Drawn0.step)⟩
  · have g : moreB x k = 0 := by simp [moreB, e1]
    rw [g]
    have q1 : (k != 1) = true := bne_iff_ne.mpr e1
    have q1' : (k == 1) = false := beq_eq_false_iff_ne.mpr e1
    clear g e1
    go_enter Try.func28, Try.ntmps28
    go_wp2
    go_ret
    exact ⟨by first | rfl | (simp; done), by repeat (first | exact Drawn0.refl _ | apply Drawn0.step)⟩
end Go.Proofs.Ytkpblifelpokfaa.PAll
