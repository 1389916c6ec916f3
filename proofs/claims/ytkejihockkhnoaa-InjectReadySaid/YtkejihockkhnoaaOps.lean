/-
  CACHE OPS, in plain Lean: what a list of numbers is behind them.
-/
import Derived.Test.YtkejihockkhnoaaLru
import Derived.Test.YtkejihockkhnoaaK8
namespace Go.Proofs.Ytkejihockkhnoaa
open Go Go.RK

/-- An op, as it comes in: its kind, its number. -/
abbrev COp := Int × Int × Unit
def copCells : COp → List Value := fun p => [In p.1] ++ ([In p.2.1] ++ [])
theorem copCells_len (a : COp) : (copCells a).length = 2 := rfl
/-- A list behind one op, where there is room for all. -/
def oneL (l : List Int) (k id : Int) : List Int := if k = 1 then (if id ∈ l then l else l ++ [id]) else if k = 2 then rmL l id else if k = 3 then toL l id else l
def foldL (l : List Int) (ops : List COp) : List Int := ops.foldl (fun l o => oneL l o.1 o.2.1) l
/-- A list behind one op, where there are never more than some. -/
def setL (most : Int) (l : List Int) (k id : Int) : List Int := if k = 1 then addL most l id else if k = 2 then rmL l id else if k = 3 then toL l id else l
def settleL (most : Int) (l : List Int) (ops : List COp) : List Int := ops.foldl (fun l o => setL most l o.1 o.2.1) l
def goneL (was now : List Int) : List Int := was.filter fun x => decide (x ∉ now)

theorem foldl_take {α β : Type} (f : β → α → β) (l : List α) (b : β) {k : Nat} {x : α} (hx : l[k]? = some x) : (l.take (k + 1)).foldl f b = f ((l.take k).foldl f b) x := by
  rw [List.take_add_one, hx, List.foldl_append]
  rfl
theorem add_nd {most : Int} {l : List Int} (id : Int) (h : l.Nodup) : (addL most l id).Nodup := by
  unfold addL
  split
  · exact h
  · split
    · exact h
    · exact List.nodup_append.2 ⟨h, by simp, fun a ha b hb e => by simp at hb; subst hb; subst e; contradiction⟩
theorem add_len {most : Int} {l : List Int} (id : Int) (h : (l.length : Int) ≤ most) : ((addL most l id).length : Int) ≤ most := by
  unfold addL
  split
  · exact h
  · split
    · exact h
    · simp; omega
theorem rm_nd {l : List Int} (id : Int) (h : l.Nodup) : (rmL l id).Nodup := h.filter _
theorem to_nd {l : List Int} (id : Int) (h : l.Nodup) : (toL l id).Nodup := by
  unfold toL
  split
  · exact List.nodup_append.2 ⟨rm_nd id h, by simp, fun a ha b hb e => by simp at hb; subst hb; subst e; exact not_mem_rm _ _ ha⟩
  · exact h
theorem to_len (l : List Int) (id : Int) : (toL l id).length ≤ l.length := by
  unfold toL
  split
  · have := rm_len ‹id ∈ l›
    simp; omega
  · exact Nat.le_refl _
theorem set_nd {most : Int} {l : List Int} (k id : Int) (h : l.Nodup) : (setL most l k id).Nodup := by
  unfold setL
  split
  · exact add_nd id h
  · split
    · exact rm_nd id h
    · split
      · exact to_nd id h
      · exact h
theorem set_len {most : Int} {l : List Int} (k id : Int) (h : (l.length : Int) ≤ most) : ((setL most l k id).length : Int) ≤ most := by
  unfold setL
  split
  · exact add_len id h
  · split
    · have := rm_le l id; omega
    · split
      · have := to_len l id; omega
      · exact h
theorem settle_ok {most : Int} (ops : List COp) : ∀ {l : List Int}, l.Nodup → (l.length : Int) ≤ most → (settleL most l ops).Nodup ∧ ((settleL most l ops).length : Int) ≤ most := by
  induction ops with
  | nil => exact fun h1 h2 => ⟨h1, h2⟩
  | cons o ops ih => exact fun h1 h2 => ih (set_nd _ _ h1) (set_len _ _ h2)
theorem one_len (l : List Int) (k id : Int) : (oneL l k id).length ≤ l.length + 1 := by
  unfold oneL
  split
  · split
    · omega
    · simp
  · split
    · have := rm_le l id; omega
    · split
      · have := to_len l id; omega
      · omega
theorem fold_len (ops : List COp) : ∀ (l : List Int), (foldL l ops).length ≤ l.length + ops.length := by
  induction ops with
  | nil => exact fun _ => Nat.le_refl _
  | cons o ops ih =>
    intro l
    have h1 := ih (oneL l o.1 o.2.1)
    have h2 := one_len l o.1 o.2.1
    show (foldL (oneL l o.1 o.2.1) ops).length ≤ _
    simp only [List.length_cons]
    omega
theorem set_one {most : Int} {l : List Int} (k id : Int) (h : (l.length : Int) < most) : setL most l k id = oneL l k id := by
  unfold setL oneL addL
  rw [if_neg (show ¬ (l.length : Int) = most by omega)]
theorem settle_fold {most : Int} (ops : List COp) : ∀ {l : List Int}, (l.length : Int) + ops.length ≤ most → settleL most l ops = foldL l ops := by
  induction ops with
  | nil => exact fun _ => rfl
  | cons o ops ih =>
    intro l h
    simp only [List.length_cons] at h
    show settleL most (setL most l o.1 o.2.1) ops = foldL (oneL l o.1 o.2.1) ops
    rw [set_one _ _ (by omega)]
    have := one_len l o.1 o.2.1
    exact ih (by omega)
theorem settle_app (most : Int) (l : List Int) (a b : List COp) : settleL most l (a ++ b) = settleL most (settleL most l a) b := List.foldl_append
theorem fold_app (l : List Int) (a b : List COp) : foldL l (a ++ b) = foldL (foldL l a) b := List.foldl_append
end Go.Proofs.Ytkejihockkhnoaa

