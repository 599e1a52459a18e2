/- A slice argument of structs, opened: its rows as lists, with the sizes that the reach allows. No condition. -/
import Derived.Test.YtkpblifelpokfaaPAllx0
import Derived.ChangeSame
import Derived.Deep.Slices
import Derived.SizedLaws
import Derived.Lib.SmallJoins
import Derived.WideShapes
namespace Go.Proofs.Ytkpblifelpokfaa.PAll
open Go.RowKit Go.Proofs.YtkpblifelpokfaaW.PrintWords Go.Proofs.YtkpblifelpokfaaW.PrintLast Go.Proofs.YtkpblifelpokfaaW.PrintMore
set_option linter.unusedVariables false
set_option linter.unusedSimpArgs false

theorem list_of {α : Type} {p : Nat → α → Prop} : ∀ n : Nat, (∀ i, i < n → ∃ x, p i x) → ∃ zs : List α, zs.length = n ∧ ∀ i y, zs[i]? = some y → p i y
  | 0, _ => ⟨[], rfl, by simp⟩
  | n + 1, h => by
    obtain ⟨zs, hl, hz⟩ := list_of n (fun i hi => h i (by omega))
    obtain ⟨y, hy⟩ := h n (by omega)
    refine ⟨zs ++ [y], by simp [hl], ?_⟩
    intro i u hu
    by_cases hi : i < zs.length
    · rw [List.getElem?_append_left hi] at hu
      exact hz i u hu
    · have hb : i < (zs ++ [y]).length := by
        by_cases hb : i < (zs ++ [y]).length
        · exact hb
        · rw [List.getElem?_eq_none (by omega)] at hu; simp at hu
      have hin : i = n := by simp at hb; omega
      subst hin
      rw [List.getElem?_append_right (by omega), hl] at hu
      simp at hu
      subst hu
      exact hy

def Fits {H : Type} (P : Program) (t : TypeId) (d : DataW H) : Prop := ∀ m ∈ d.weights P t, m ≤ reachBytes

theorem fits_all {H : Type} {P : Program} {e : TypeId} : ∀ {l : List (DataW H)}, (∀ m ∈ DataW.weightsAll P e l, m ≤ reachBytes) → ∀ d ∈ l, Fits P e d
  | [], _, d, hd => by simp at hd
  | d0 :: r, h, d, hd => by
    simp only [DataW.weightsAll, List.mem_append] at h
    rcases List.mem_cons.1 hd with rfl | hd
    · exact fun m hm => h m (Or.inl hm)
    · exact fits_all (fun m hm => h m (Or.inr hm)) d hd

theorem open_row {H : Type} {enc : TypeId × Value → H} {P : Program} {w : World} {base : Nat} {spare : Nat → Bool} {held : Bool} {α : Type} (d : Kd α) {t e : TypeId} (S : α → Prop)
    (ht : P.underlying t = some (.slice e)) (hce : P.cellsOf e = d.sz)
    (el : ∀ n cs x, DataW.trod enc P w base spare held n e cs = some x → ∃ y : α, d.K w y cs ∧ (Fits P e x.1 → S y))
    {fuel : Nat} {cs : List Value} {x : DataW H × List MemPlace} (h : DataW.trod enc P w base spare held fuel t cs = some x) :
    ∃ A cap zs, cs = [.slice A (List.length zs) cap] ∧ zs.length ≤ cap ∧ d.C w A zs.length zs ∧ (Fits P t x.1 → zs.length * P.bytesOf e ≤ reachBytes ∧ ∀ z ∈ zs, S z) := by
  rcases Go.Deep.open_slice ht h with ⟨rfl, rfl⟩ | ⟨a, len, cap, m, n, D, Pl, rfl, hb, hl, hm, hmm, rfl, hx⟩
  · refine ⟨none, 0, [], rfl, by simp, ⟨rfl, by simp, by simp⟩, fun _ => ⟨by simp, by simp⟩⟩
  · have hlm : len ≤ m := by rw [hmm]; split <;> omega
    obtain ⟨zs, hz, hzs⟩ := list_of (p := fun i (y : α) => ∃ cs', w.cells? base (a.add (i * P.cellsOf e)) (P.cellsOf e) = some cs' ∧ d.K w y cs' ∧ (Fits P e (D i) → S y)) len (fun i hi => by
      obtain ⟨cs', h1, h2⟩ := hx i (by omega)
      obtain ⟨y, h3, h4⟩ := el _ _ _ h2
      exact ⟨y, cs', h1, h3, h4⟩)
    subst hz
    refine ⟨some a, cap, zs, rfl, hl, ⟨rfl, ?_, fun _ => ⟨a, rfl, ?_⟩⟩, ?_⟩
    · have : maxLen = 9223372036854775807 := by decide
      omega
    · intro j p hp
      obtain ⟨cs', h1, h2, _⟩ := hzs j p hp
      obtain ⟨_, hlen, hc⟩ := World.cells?_some h1
      refine ⟨cs', d.K_len h2, h2, ?_⟩
      intro i u hu
      have hi : i < cs'.length := by
        by_cases hb : i < cs'.length
        · exact hb
        · rw [List.getElem?_eq_none (by omega)] at hu; simp at hu
      rw [← hce, ← Addr.add_add, hc i (by omega), hu]
    · intro hf
      have hw : ∀ k ∈ ((List.range zs.length).length + ((List.range (m - zs.length)).length)) * P.bytesOf e :: (DataW.weightsAll P e ((List.range zs.length).map D) ++ DataW.weightsAll P e ((List.range (m - zs.length)).map fun j => D (zs.length + j))), k ≤ reachBytes := by
        intro k hk
        refine hf k ?_
        simp only [DataW.weights, ht]
        simpa using hk
      refine ⟨?_, ?_⟩
      · have := hw _ (List.mem_cons_self ..)
        simp only [List.length_range] at this
        exact Nat.le_trans (Nat.mul_le_mul_right _ (by omega)) this
      · intro z hzm
        obtain ⟨i, hi, rfl⟩ := List.getElem_of_mem hzm
        obtain ⟨_, _, _, h4⟩ := hzs i _ (List.getElem?_eq_getElem hi)
        refine h4 (fits_all (l := (List.range zs.length).map D) (fun k hk => hw k ?_) (D i) ?_)
        · exact List.mem_cons_of_mem _ (List.mem_append_left _ hk)
        · exact List.mem_map.2 ⟨i, List.mem_range.2 hi, rfl⟩

section
variable {H : Type} {enc : TypeId × Value → H} {w : World} {base : Nat} {spare : Nat → Bool} {held : Bool}

theorem row_int {fuel : Nat} {cs : List Value} {x : DataW H × List MemPlace} (h : DataW.trod enc Try.prog w base spare held fuel 3 cs = some x) :
    ∃ y : Int, (Kd.int .i64).K w y cs ∧ (Fits Try.prog 3 x.1 → (Lit.int .i64 y).wf = true) := by
  obtain ⟨n, rfl, rfl, hw⟩ := Go.DataW.trod_int Try.underlying3 h
  exact ⟨n, rfl, fun _ => hw⟩

def S33.Small (x : S33) : Prop := x.f3.length * 8 ≤ reachBytes

theorem row_33 {fuel : Nat} {cs : List Value} {x : DataW H × List MemPlace} (h : DataW.trod enc Try.prog w base spare held fuel 33 cs = some x) :
    ∃ y : S33, k33.K w y cs ∧ (Fits Try.prog 33 x.1 → y.Small) := by
  obtain ⟨xs, n, rfl, rfl, hl, hlen, hf⟩ := Go.DataW.trod_struct Try.underlying33 h
  have hc : Try.prog.cellsOf 33 = 4 := by kernel_rfl
  have h3 : Try.prog.cellsOf 3 = 1 := by kernel_rfl
  match xs, hlen with
  | [x0, x1, x2, x3], _ => ?_
  match cs, hl.trans hc with
  | [c0, c1, c2, c3], _ => ?_
  have e0 := hf 0 _ rfl
  have e1 := hf 1 _ rfl
  have e2 := hf 2 _ rfl
  have e3 := hf 3 _ rfl
  change DataW.trod enc Try.prog w base spare held n 3 (([c0, c1, c2, c3].drop 0).take (Try.prog.cellsOf 3)) = some x0 at e0
  change DataW.trod enc Try.prog w base spare held n 3 (([c0, c1, c2, c3].drop 1).take (Try.prog.cellsOf 3)) = some x1 at e1
  change DataW.trod enc Try.prog w base spare held n 3 (([c0, c1, c2, c3].drop 2).take (Try.prog.cellsOf 3)) = some x2 at e2
  rw [h3] at e0 e1 e2
  obtain ⟨n0, a0, rfl, _⟩ := Go.DataW.trod_int Try.underlying3 e0
  obtain ⟨n1, a1, rfl, _⟩ := Go.DataW.trod_int Try.underlying3 e1
  obtain ⟨n2, a2, rfl, _⟩ := Go.DataW.trod_int Try.underlying3 e2
  simp only [List.drop, List.take, List.cons.injEq, and_true] at a0 a1 a2
  subst a0 a1 a2
  change DataW.trod enc Try.prog w base spare held n 31 (([Value.int .i64 n0, Value.int .i64 n1, Value.int .i64 n2, c3].drop 3).take (Try.prog.cellsOf 31)) = some x3 at e3
  have h31 : Try.prog.cellsOf 31 = 1 := by kernel_rfl
  rw [h31] at e3
  obtain ⟨A, c, zs, a3, l3, g3, s3⟩ := open_row (Kd.int .i64) (fun _ => True) Try.underlying31 h3 (fun n cs x h => by obtain ⟨y, h1, _⟩ := row_int h; exact ⟨y, h1, fun _ => trivial⟩) e3
  simp only [List.drop, List.take, List.cons.injEq, and_true] at a3
  subst a3
  refine ⟨⟨n0, n1, n2, zs⟩, k33_mk w ⟨n0, n1, n2, zs⟩ l3 g3, fun hF => ?_⟩
  have hb : Try.prog.bytesOf 3 = 8 := by kernel_rfl
  have := (s3 (fun m hm => hF m ?_)).1
  · rw [hb] at this; exact this
  · simp only [List.map, DataW.weights, Try.underlying33, DataW.weightsEach, List.mem_append, List.map_cons]
    exact Or.inr (Or.inr (Or.inr (Or.inl hm)))

def S24.Small (x : S24) : Prop := x.f1.length * 48 ≤ reachBytes ∧ ∀ z ∈ x.f1, S33.Small z

theorem row_body {fuel : Nat} {cs : List Value} {x : DataW H × List MemPlace} (h : DataW.trod enc Try.prog w base spare held fuel 22 cs = some x) :
    ∃ A cap zs, cs = [.slice A (List.length zs) cap] ∧ zs.length ≤ cap ∧ k33.C w A zs.length zs ∧ (Fits Try.prog 22 x.1 → zs.length * 48 ≤ reachBytes ∧ ∀ z ∈ zs, S33.Small z) := by
  have hc : Try.prog.cellsOf 33 = 4 := by kernel_rfl
  have hb : Try.prog.bytesOf 33 = 48 := by kernel_rfl
  have := open_row k33 S33.Small Try.underlying22 hc (fun n cs x h => row_33 h) h
  rw [hb] at this
  exact this

theorem open_def {r : Reach} {b0 : Nat} {v : Value} {d : DataW H} {p : List MemPlace} (hv : Value.okWide Try.prog w r b0 24 v) (h : DataW.Trod enc Try.prog w base spare held 24 v d p) :
    ∃ (a : Int) (A : Option Addr) (c : Nat) (l : List S33), v = .agg #[.int .i64 a, .slice A l.length c] ∧ l.length ≤ c ∧ k33.C w A l.length l ∧ (Lit.int .i64 a).wf = true ∧ (Fits Try.prog 24 d → S24.Small ⟨a, l⟩) := by
  obtain ⟨v0, v1, y0, y1, n, rfl, rfl, rfl, h0, h1⟩ := Go.Joins.open_agg2 Try.underlying24 (by kernel_rfl) (by kernel_rfl) hv h
  obtain ⟨a, a0, rfl, hw⟩ := Go.DataW.trod_int Try.underlying3 h0
  obtain ⟨A, c, l, a1, l1, g1, s1⟩ := row_body h1
  simp only [List.cons.injEq, and_true] at a0 a1
  subst a0 a1
  refine ⟨a, A, c, l, rfl, l1, g1, hw, fun hF => s1 (fun m hm => hF m ?_)⟩
  simp only [DataW.weights, Try.underlying24, DataW.weightsEach, List.mem_append, List.map_cons]
  exact Or.inr (Or.inl hm)

theorem row_24 {fuel : Nat} {cs : List Value} {x : DataW H × List MemPlace} (h : DataW.trod enc Try.prog w base spare held fuel 24 cs = some x) :
    ∃ y : S24, k24.K w y cs ∧ (Fits Try.prog 24 x.1 → y.Small) := by
  obtain ⟨x0, x1, n, rfl, hl, e0, e1⟩ := Go.ChangeShapes.trod_struct2 Try.underlying24 h
  have hc : Try.prog.cellsOf 24 = 2 := by kernel_rfl
  have h3 : Try.prog.cellsOf 3 = 1 := by kernel_rfl
  have h22 : Try.prog.cellsOf 22 = 1 := by kernel_rfl
  match cs, hl.trans hc with
  | [c0, c1], _ => ?_
  change DataW.trod enc Try.prog w base spare held n 3 (([c0, c1].drop 0).take (Try.prog.cellsOf 3)) = some x0 at e0
  change DataW.trod enc Try.prog w base spare held n 22 (([c0, c1].drop 1).take (Try.prog.cellsOf 22)) = some x1 at e1
  rw [h3] at e0
  rw [h22] at e1
  obtain ⟨n0, a0, rfl, _⟩ := Go.DataW.trod_int Try.underlying3 e0
  obtain ⟨A, c, l, a1, l1, g1, s1⟩ := row_body e1
  simp only [List.drop, List.take, List.cons.injEq, and_true] at a0 a1
  subst a0 a1
  refine ⟨⟨n0, l⟩, k24_mk w ⟨n0, l⟩ l1 g1, fun hF => s1 (fun m hm => hF m ?_)⟩
  simp only [DataW.weights, Try.underlying24, DataW.weightsEach, List.mem_append, List.map_cons]
  exact Or.inr (Or.inl hm)

theorem open_prog {r : Reach} {b0 : Nat} {v : Value} {d : DataW H} {p : List MemPlace} (hv : Value.okWide Try.prog w r b0 41 v) (h : DataW.Trod enc Try.prog w base spare held 41 v d p) :
    ∃ (A : Option Addr) (c : Nat) (l : List S24), v = .agg #[.slice A l.length c] ∧ l.length ≤ c ∧ k24.C w A l.length l ∧ (Fits Try.prog 41 d → l.length * 32 ≤ reachBytes ∧ ∀ z ∈ l, S24.Small z) := by
  obtain ⟨cs, rfl, hsz⟩ := Go.WideShapes.okWide_struct Try.underlying41 hv
  have hc : Try.prog.cellsOf 41 = 1 := by kernel_rfl
  have h24 : Try.prog.cellsOf 24 = 2 := by kernel_rfl
  have hb : Try.prog.bytesOf 24 = 32 := by kernel_rfl
  obtain ⟨c0, rfl⟩ : ∃ c0, cs = #[c0] := by
    have := hsz.trans hc
    obtain ⟨l⟩ := cs
    match l, this with
    | [c0], _ => exact ⟨c0, rfl⟩
  obtain ⟨fuel, hf⟩ := h
  obtain ⟨x0, n, hx, hl, e0⟩ := Go.ChangeShapes.trod_struct1 Try.underlying41 hf
  simp only [Prod.mk.injEq] at hx
  obtain ⟨rfl, rfl⟩ := hx
  obtain ⟨A, c, l, a1, l1, g1, s1⟩ := open_row k24 S24.Small Try.underlying39 h24 (fun n cs x h => row_24 h) e0
  rw [hb] at s1
  have : c0 = .slice A l.length c := by
    have h39 : Try.prog.cellsOf 39 = 1 := by kernel_rfl
    have h1 : ((Value.cells (.agg #[c0])).toList.drop 0).take (Try.prog.cellsOf 39) = [Value.slice A l.length c] := a1
    have hl1 : (Value.cells (.agg #[c0])).toList.length = 1 := hl.trans hc
    rw [h39, List.drop_zero, List.take_of_length_le (by omega)] at h1
    cases c0 <;> simp_all [Value.cells]
  subst this
  refine ⟨A, c, l, rfl, l1, g1, fun hF => s1 (fun m hm => hF m ?_)⟩
  simp only [DataW.weights, Try.underlying41, DataW.weightsEach, List.mem_append, List.map_cons]
  exact Or.inl hm
end
end Go.Proofs.Ytkpblifelpokfaa.PAll
