import PyProof.Rows.All
import Wide.All
import OpenK.AllK
import Wide.FinOn
import HandS.ForMost
import HandS.Conv
import HandS.NoneIn
import HandS.Replace
import HandS.Walk
import HandS.Codes
import HandS.CallRecv
import KE.GoesEnum
import PyProof.Rows.StrRev
import PySem.Challenge.RW_leafturner_k10_whole_products_and_undoin
set_option Elab.async false
set_option linter.all false
set_option maxRecDepth 100000
set_option maxHeartbeats 8000000
/-! Words, strings and machines as plain lists: the mathematics, no program in sight. -/
namespace Lf
/-- a letter: large?, its state -/
abbrev Ltr := Bool × Nat
abbrev Rows := List (List (Nat × Nat))
def flip (l : Ltr) : Ltr := (!l.1, l.2)
theorem flip_flip (l : Ltr) : flip (flip l) = l := by
  obtain ⟨b, s⟩ := l
  simp [flip]
theorem flip_inj {a b : Ltr} (h : flip a = flip b) : a = b := by
  rw [← flip_flip a, h, flip_flip]
def rowAt (rows : Rows) (s : Nat) : List (Nat × Nat) := rows.getD s []
def ent (r : List (Nat × Nat)) (d : Nat) : Nat × Nat := r.getD d (0, 0)
/-- the place of the digit d among what a row writes -/
def src (r : List (Nat × Nat)) (d : Nat) : Nat := r.findIdx (fun e => e.1 == d)
def rd (rows : Rows) (l : Ltr) (d : Nat) : Nat × Ltr :=
  if l.1 then (src (rowAt rows l.2) d, (true, (ent (rowAt rows l.2) (src (rowAt rows l.2) d)).2))
  else ((ent (rowAt rows l.2) d).1, (false, (ent (rowAt rows l.2) d).2))
def stepW (rows : Rows) : List Ltr → Nat → Nat × List Ltr
  | [], d => (d, [])
  | l :: w, d => ((stepW rows w (rd rows l d).1).1, (rd rows l d).2 :: (stepW rows w (rd rows l d).1).2)
def movedW (rows : Rows) : List Ltr → List Nat → List Nat × List Ltr
  | w, [] => ([], w)
  | w, d :: u => ((stepW rows w d).1 :: (movedW rows (stepW rows w d).2 u).1, (movedW rows (stepW rows w d).2 u).2)
def undoW (w : List Ltr) : List Ltr := (w.map flip).reverse
def push (st : List Ltr) (l : Ltr) : List Ltr :=
  match st with
  | [] => [l]
  | t :: r => if t = flip l then r else l :: t :: r
theorem push_eq {t : Ltr} {r : List Ltr} {l : Ltr} (e : t = flip l) : push (t :: r) l = r := by
  show (if t = flip l then r else l :: t :: r) = r
  rw [if_pos e]
theorem push_ne {t : Ltr} {r : List Ltr} {l : Ltr} (e : ¬ t = flip l) : push (t :: r) l = l :: t :: r := by
  show (if t = flip l then r else l :: t :: r) = l :: t :: r
  rw [if_neg e]
def stk (w : List Ltr) : List Ltr := w.foldl push []
def cutW (w : List Ltr) : List Ltr := (stk w).reverse

structure RowOk (k n : Nat) (r : List (Nat × Nat)) : Prop where
  len : r.length = k
  outs : (r.map Prod.fst).Perm (List.range k)
  nxt : ∀ e ∈ r, e.2 < n
structure MOk (k : Nat) (rows : Rows) : Prop where
  k2 : 2 ≤ k
  k4 : k ≤ 4
  n1 : 1 ≤ rows.length
  n4 : rows.length ≤ 4
  row : ∀ r ∈ rows, RowOk k rows.length r
def WOk (n : Nat) (w : List Ltr) : Prop := ∀ l ∈ w, l.2 < n
def UOk (k : Nat) (u : List Nat) : Prop := ∀ d ∈ u, d < k

/-! ### lengths, joins: for every machine -/
section
variable {rows : Rows}
theorem step_len : ∀ (w : List Ltr) (d : Nat), (stepW rows w d).2.length = w.length
  | [], _ => rfl
  | l :: w, d => by
    show (stepW rows w (rd rows l d).1).2.length + 1 = w.length + 1
    rw [step_len w]
theorem moved_len1 : ∀ (u : List Nat) (w : List Ltr), (movedW rows w u).1.length = u.length
  | [], _ => rfl
  | d :: u, w => by
    show (movedW rows (stepW rows w d).2 u).1.length + 1 = u.length + 1
    rw [moved_len1 u]
theorem moved_len2 : ∀ (u : List Nat) (w : List Ltr), (movedW rows w u).2.length = w.length
  | [], _ => rfl
  | d :: u, w => by
    show (movedW rows (stepW rows w d).2 u).2.length = w.length
    rw [moved_len2 u, step_len]
theorem moved_app : ∀ (u v : List Nat) (w : List Ltr),
    movedW rows w (u ++ v) = ((movedW rows w u).1 ++ (movedW rows (movedW rows w u).2 v).1, (movedW rows (movedW rows w u).2 v).2)
  | [], _, _ => rfl
  | d :: u, v, w => by
    show ((stepW rows w d).1 :: (movedW rows (stepW rows w d).2 (u ++ v)).1, (movedW rows (stepW rows w d).2 (u ++ v)).2) = _
    rw [moved_app u v]
    rfl
theorem step_app : ∀ (w1 w2 : List Ltr) (d : Nat),
    stepW rows (w1 ++ w2) d = ((stepW rows w2 (stepW rows w1 d).1).1, (stepW rows w1 d).2 ++ (stepW rows w2 (stepW rows w1 d).1).2)
  | [], _, _ => rfl
  | l :: w1, w2, d => by
    show ((stepW rows (w1 ++ w2) (rd rows l d).1).1, (rd rows l d).2 :: (stepW rows (w1 ++ w2) (rd rows l d).1).2) = _
    rw [step_app w1 w2]
    rfl
theorem moved_words : ∀ (u : List Nat) (w1 w2 : List Ltr),
    movedW rows (w1 ++ w2) u = ((movedW rows w2 (movedW rows w1 u).1).1, (movedW rows w1 u).2 ++ (movedW rows w2 (movedW rows w1 u).1).2)
  | [], _, _ => rfl
  | d :: u, w1, w2 => by
    show ((stepW rows (w1 ++ w2) d).1 :: (movedW rows (stepW rows (w1 ++ w2) d).2 u).1, (movedW rows (stepW rows (w1 ++ w2) d).2 u).2) = _
    rw [step_app w1 w2, moved_words u]
    rfl
end

/-! ### what a valid machine does stays valid, and can be undone -/
theorem getD_mem {α : Type} {l : List α} {i : Nat} {z : α} (h : i < l.length) : l.getD i z ∈ l := by
  rw [List.getD_eq_getElem?_getD, List.getElem?_eq_getElem h]
  exact List.getElem_mem h
section
variable {k n : Nat} {r : List (Nat × Nat)}
theorem RowOk.out_lt (R : RowOk k n r) {d : Nat} (hd : d < k) : (ent r d).1 < k := by
  have hm : ent r d ∈ r := getD_mem (by rw [R.len]; exact hd)
  have : (ent r d).1 ∈ List.range k := R.outs.mem_iff.mp (List.mem_map_of_mem hm)
  exact List.mem_range.mp this
theorem RowOk.nxt_lt (R : RowOk k n r) {d : Nat} (hd : d < k) : (ent r d).2 < n := R.nxt _ (getD_mem (by rw [R.len]; exact hd))
theorem RowOk.src_lt (R : RowOk k n r) {d : Nat} (hd : d < k) : src r d < k := by
  have hm : d ∈ r.map Prod.fst := R.outs.mem_iff.mpr (List.mem_range.mpr hd)
  obtain ⟨e, he, rfl⟩ := List.mem_map.mp hm
  have := List.findIdx_lt_length_of_exists (p := fun x : Nat × Nat => x.1 == e.1) ⟨e, he, by simp⟩
  rw [R.len] at this
  exact this
theorem RowOk.src_out (R : RowOk k n r) {d : Nat} (hd : d < k) : (ent r (src r d)).1 = d := by
  have hlt : src r d < r.length := by rw [R.len]; exact R.src_lt hd
  have h := List.findIdx_getElem (p := fun x : Nat × Nat => x.1 == d) (xs := r) (w := hlt)
  have e : ent r (src r d) = r[src r d] := by
    unfold ent
    rw [List.getD_eq_getElem?_getD, List.getElem?_eq_getElem hlt]
    rfl
  rw [e]
  exact eq_of_beq h
theorem RowOk.nodup (R : RowOk k n r) : (r.map Prod.fst).Nodup := R.outs.nodup_iff.mpr List.nodup_range
theorem RowOk.ent_inj (R : RowOk k n r) {i j : Nat} (hi : i < k) (hj : j < k) (h : (ent r i).1 = (ent r j).1) : i = j := by
  have hi' : i < r.length := by rw [R.len]; exact hi
  have hj' : j < r.length := by rw [R.len]; exact hj
  have ei : (r.map Prod.fst)[i]? = some (ent r i).1 := by
    unfold ent
    rw [List.getElem?_map, List.getD_eq_getElem?_getD, List.getElem?_eq_getElem hi']
    rfl
  have ej : (r.map Prod.fst)[j]? = some (ent r j).1 := by
    unfold ent
    rw [List.getElem?_map, List.getD_eq_getElem?_getD, List.getElem?_eq_getElem hj']
    rfl
  rw [← h] at ej
  obtain ⟨a1, a2⟩ := List.getElem?_eq_some_iff.mp ei
  obtain ⟨b1, b2⟩ := List.getElem?_eq_some_iff.mp ej
  exact (List.getElem_inj R.nodup).mp (a2.trans b2.symm)
theorem RowOk.src_ent (R : RowOk k n r) {d : Nat} (hd : d < k) : src r (ent r d).1 = d :=
  R.ent_inj (R.src_lt (R.out_lt hd)) hd (R.src_out (R.out_lt hd))
end
section
variable {k : Nat} {rows : Rows}
theorem MOk.rowAt (M : MOk k rows) {s : Nat} (hs : s < rows.length) : RowOk k rows.length (rowAt rows s) := M.row _ (getD_mem hs)
theorem rd_ok (M : MOk k rows) {l : Ltr} {d : Nat} (hl : l.2 < rows.length) (hd : d < k) : (rd rows l d).1 < k ∧ (rd rows l d).2.2 < rows.length := by
  have R := M.rowAt hl
  unfold rd
  by_cases h : l.1 = true
  · rw [if_pos h]
    exact ⟨R.src_lt hd, R.nxt_lt (R.src_lt hd)⟩
  · rw [if_neg h]
    exact ⟨R.out_lt hd, R.nxt_lt hd⟩
theorem rd_flip (M : MOk k rows) {l : Ltr} {d : Nat} (hl : l.2 < rows.length) (hd : d < k) : rd rows (flip l) (rd rows l d).1 = (d, flip (rd rows l d).2) := by
  have R := M.rowAt hl
  obtain ⟨b, s⟩ := l
  cases b with
  | true =>
    show ((ent (Lf.rowAt rows s) (src (Lf.rowAt rows s) d)).1, (false, (ent (Lf.rowAt rows s) (src (Lf.rowAt rows s) d)).2)) = (d, (false, (ent (Lf.rowAt rows s) (src (Lf.rowAt rows s) d)).2))
    rw [R.src_out hd]
  | false =>
    show (src (Lf.rowAt rows s) (ent (Lf.rowAt rows s) d).1, (true, (ent (Lf.rowAt rows s) (src (Lf.rowAt rows s) (ent (Lf.rowAt rows s) d).1)).2)) = (d, (true, (ent (Lf.rowAt rows s) d).2))
    rw [R.src_ent hd]
theorem step_ok (M : MOk k rows) : ∀ (w : List Ltr) (d : Nat), WOk rows.length w → d < k → (stepW rows w d).1 < k ∧ WOk rows.length (stepW rows w d).2
  | [], d, _, hd => ⟨hd, fun _ h => nomatch h⟩
  | l :: w, d, hw, hd => by
    have h1 := rd_ok M (hw l (List.mem_cons_self ..)) hd
    have h2 := step_ok M w _ (fun x hx => hw x (List.mem_cons_of_mem _ hx)) h1.1
    refine ⟨h2.1, fun x hx => ?_⟩
    rcases List.mem_cons.mp hx with e | hx
    · rw [e]; exact h1.2
    · exact h2.2 x hx
theorem moved_ok (M : MOk k rows) : ∀ (u : List Nat) (w : List Ltr), WOk rows.length w → UOk k u → UOk k (movedW rows w u).1 ∧ WOk rows.length (movedW rows w u).2
  | [], w, hw, _ => ⟨(fun _ h => nomatch h), hw⟩
  | d :: u, w, hw, hu => by
    have h1 := step_ok M w d hw (hu d (List.mem_cons_self ..))
    have h2 := moved_ok M u _ h1.2 (fun x hx => hu x (List.mem_cons_of_mem _ hx))
    refine ⟨fun x hx => ?_, h2.2⟩
    rcases List.mem_cons.mp hx with e | hx
    · rw [e]; exact h1.1
    · exact h2.1 x hx
theorem undo_cons (l : Ltr) (w : List Ltr) : undoW (l :: w) = undoW w ++ [flip l] := by
  unfold undoW
  rw [List.map_cons, List.reverse_cons]
theorem undo_len (w : List Ltr) : (undoW w).length = w.length := by
  unfold undoW
  rw [List.length_reverse, List.length_map]
theorem undo_ok {n : Nat} {w : List Ltr} (h : WOk n w) : WOk n (undoW w) := fun x hx => by
  unfold undoW at hx
  obtain ⟨y, hy, rfl⟩ := List.mem_map.mp (List.mem_reverse.mp hx)
  exact h y hy
theorem step_undo (M : MOk k rows) : ∀ (w : List Ltr) (d : Nat), WOk rows.length w → d < k → stepW rows (undoW w) (stepW rows w d).1 = (d, undoW (stepW rows w d).2)
  | [], d, _, _ => rfl
  | l :: w, d, hw, hd => by
    have hl := hw l (List.mem_cons_self ..)
    have h1 := rd_ok M hl hd
    have ih := step_undo M w _ (fun x hx => hw x (List.mem_cons_of_mem _ hx)) h1.1
    show stepW rows (undoW (l :: w)) (stepW rows w (rd rows l d).1).1 = (d, undoW ((rd rows l d).2 :: (stepW rows w (rd rows l d).1).2))
    rw [undo_cons, undo_cons, step_app, ih]
    show ((rd rows (flip l) (rd rows l d).1).1, undoW (stepW rows w (rd rows l d).1).2 ++ [(rd rows (flip l) (rd rows l d).1).2]) = _
    rw [rd_flip M hl hd]
theorem moved_undo (M : MOk k rows) : ∀ (u : List Nat) (w : List Ltr), WOk rows.length w → UOk k u → movedW rows (undoW w) (movedW rows w u).1 = (u, undoW (movedW rows w u).2)
  | [], _, _, _ => rfl
  | d :: u, w, hw, hu => by
    have hd := hu d (List.mem_cons_self ..)
    have h1 := step_ok M w d hw hd
    have ih := moved_undo M u _ h1.2 (fun x hx => hu x (List.mem_cons_of_mem _ hx))
    show ((stepW rows (undoW w) (stepW rows w d).1).1 :: (movedW rows (stepW rows (undoW w) (stepW rows w d).1).2 (movedW rows (stepW rows w d).2 u).1).1, (movedW rows (stepW rows (undoW w) (stepW rows w d).1).2 (movedW rows (stepW rows w d).2 u).1).2) = _
    rw [step_undo M w d hw hd]
    show (d :: (movedW rows (undoW (stepW rows w d).2) (movedW rows (stepW rows w d).2 u).1).1, (movedW rows (undoW (stepW rows w d).2) (movedW rows (stepW rows w d).2 u).1).2) = _
    rw [ih]
    rfl
end

/-! ### cutting -/
def Red : List Ltr → Prop
  | [] => True
  | a :: r => (∀ b r', r = b :: r' → a ≠ flip b) ∧ Red r
theorem ne_flip {a b : Ltr} (h : ¬ a = flip b) : b ≠ flip a := fun e => h (by rw [e, flip_flip])
theorem red_push : ∀ {st : List Ltr} (l : Ltr), Red st → Red (push st l)
  | [], l, _ => ⟨(fun _ _ h => nomatch h), trivial⟩
  | t :: r, l, h => by
    by_cases e : t = flip l
    · rw [push_eq e]; exact h.2
    · rw [push_ne e]
      refine ⟨fun b r' q => ?_, h⟩
      obtain ⟨rfl, _⟩ := List.cons.inj q
      exact ne_flip e
theorem push_push : ∀ {st : List Ltr} (m : Ltr), Red st → push (push st m) (flip m) = st
  | [], m, _ => by
    show (if m = flip (flip m) then [] else _) = []
    rw [if_pos (flip_flip m).symm]
  | t :: r, m, h => by
    by_cases e : t = flip m
    · rw [push_eq e]
      cases r with
      | nil =>
        rw [e]
        rfl
      | cons a r' =>
        have hne : ¬ a = flip (flip m) := fun q => h.1 a r' rfl (by rw [e, q, flip_flip])
        show (if a = flip (flip m) then r' else flip m :: a :: r') = t :: a :: r'
        rw [if_neg hne, e]
    · rw [push_ne e]
      show (if m = flip (flip m) then t :: r else _) = t :: r
      rw [if_pos (flip_flip m).symm]
theorem red_fold : ∀ (w : List Ltr) {st : List Ltr}, Red st → Red (w.foldl push st)
  | [], _, h => h
  | l :: w, _, h => red_fold w (red_push l h)
theorem red_stk (w : List Ltr) : Red (stk w) := red_fold w (st := []) trivial
theorem stk_cancel (a b : List Ltr) (m : Ltr) : stk (a ++ m :: flip m :: b) = stk (a ++ b) := by
  unfold stk
  rw [List.foldl_append, List.foldl_append, List.foldl_cons, List.foldl_cons, push_push m (red_fold a (st := []) trivial)]
theorem stk_rev : ∀ {st : List Ltr}, Red st → stk st.reverse = st
  | [], _ => rfl
  | t :: r, h => by
    have ih := stk_rev h.2
    unfold stk at ih ⊢
    rw [List.reverse_cons, List.foldl_append, ih]
    show push r t = t :: r
    cases r with
    | nil => rfl
    | cons a r' =>
      show (if a = flip t then r' else t :: a :: r') = t :: a :: r'
      rw [if_neg (fun q => h.1 a r' rfl (by rw [q, flip_flip]))]
theorem stk_cut (w : List Ltr) : stk (cutW w) = stk w := stk_rev (red_stk w)
theorem mem_push {st : List Ltr} {l x : Ltr} (h : x ∈ push st l) : x ∈ st ∨ x = l := by
  unfold push at h
  split at h
  · rcases List.mem_cons.mp h with e | h
    · exact .inr e
    · exact nomatch h
  · split at h
    · exact .inl (List.mem_cons_of_mem _ h)
    · rcases List.mem_cons.mp h with e | h
      · exact .inr e
      · exact .inl h
theorem mem_fold : ∀ (w : List Ltr) {st : List Ltr} {x : Ltr}, x ∈ w.foldl push st → x ∈ st ∨ x ∈ w
  | [], _, _, h => .inl h
  | l :: w, st, x, h => by
    rcases mem_fold w (st := push st l) h with q | q
    · rcases mem_push q with q | q
      · exact .inl q
      · exact .inr (by rw [q]; exact List.mem_cons_self ..)
    · exact .inr (List.mem_cons_of_mem _ q)
theorem cut_ok {n : Nat} {w : List Ltr} (h : WOk n w) : WOk n (cutW w) := fun x hx => by
  rcases mem_fold w (List.mem_reverse.mp hx) with q | q
  · exact nomatch q
  · exact h x q
theorem push_len (st : List Ltr) (l : Ltr) : (push st l).length ≤ st.length + 1 := by
  unfold push
  split
  · exact Nat.le_refl _
  · split
    · rw [List.length_cons]; omega
    · rw [List.length_cons, List.length_cons]; exact Nat.le_refl _
theorem fold_len : ∀ (w : List Ltr) (st : List Ltr), (w.foldl push st).length ≤ st.length + w.length
  | [], st => Nat.le_refl _
  | l :: w, st => by
    have h1 := fold_len w (push st l)
    have h2 := push_len st l
    rw [List.foldl_cons, List.length_cons]
    omega
theorem cut_len (w : List Ltr) : (cutW w).length ≤ w.length := by
  have := fold_len w []
  unfold cutW stk
  rw [List.length_reverse]
  simpa using this
section
variable {k : Nat} {rows : Rows}
/-- two words that are read alike: the same digit comes out, the sections cut alike -/
theorem step_cancel (M : MOk k rows) (a b : List Ltr) (l : Ltr) (d : Nat) (ha : WOk rows.length a) (hl : l.2 < rows.length) (hd : d < k) :
    (stepW rows (a ++ flip l :: l :: b) d).1 = (stepW rows (a ++ b) d).1 ∧ stk (stepW rows (a ++ flip l :: l :: b) d).2 = stk (stepW rows (a ++ b) d).2 := by
  have h1 := step_ok M a d ha hd
  have hf : (flip l).2 < rows.length := hl
  have e := rd_flip M hf h1.1
  rw [flip_flip] at e
  rw [step_app, step_app]
  show (stepW rows b (rd rows l (rd rows (flip l) (stepW rows a d).1).1).1).1 = _ ∧ stk ((stepW rows a d).2 ++ (rd rows (flip l) (stepW rows a d).1).2 :: (rd rows l (rd rows (flip l) (stepW rows a d).1).1).2 :: (stepW rows b (rd rows l (rd rows (flip l) (stepW rows a d).1).1).1).2) = _
  rw [e]
  exact ⟨rfl, stk_cancel _ _ _⟩
theorem step_fold (M : MOk k rows) : ∀ (w st : List Ltr) (d : Nat), WOk rows.length w → WOk rows.length st → d < k →
    (stepW rows (w.foldl push st).reverse d).1 = (stepW rows (st.reverse ++ w) d).1 ∧ stk (stepW rows (w.foldl push st).reverse d).2 = stk (stepW rows (st.reverse ++ w) d).2
  | [], st, d, _, _, _ => by
    rw [List.append_nil]
    exact ⟨rfl, rfl⟩
  | l :: w, st, d, hw, hs, hd => by
    have hl := hw l (List.mem_cons_self ..)
    have hw' : WOk rows.length w := fun x hx => hw x (List.mem_cons_of_mem _ hx)
    have hp : WOk rows.length (push st l) := fun x hx => by
      rcases mem_push hx with q | q
      · exact hs x q
      · rw [q]; exact hl
    have ih := step_fold M w (push st l) d hw' hp hd
    rw [List.foldl_cons, ih.1, ih.2]
    cases st with
    | nil => exact ⟨rfl, rfl⟩
    | cons t r =>
      by_cases e : t = flip l
      · have ep : push (t :: r) l = r := push_eq e
        have hr : WOk rows.length r.reverse := fun x hx => hs x (List.mem_cons_of_mem _ (List.mem_reverse.mp hx))
        have c := step_cancel M r.reverse w l d hr hl hd
        rw [ep, List.reverse_cons, e, List.append_assoc]
        exact ⟨c.1.symm, c.2.symm⟩
      · have ep : push (t :: r) l = l :: t :: r := push_ne e
        rw [ep, List.reverse_cons (a := l), List.append_assoc]
        exact ⟨rfl, rfl⟩
theorem step_cut (M : MOk k rows) (w : List Ltr) (d : Nat) (hw : WOk rows.length w) (hd : d < k) :
    (stepW rows (cutW w) d).1 = (stepW rows w d).1 ∧ stk (stepW rows (cutW w) d).2 = stk (stepW rows w d).2 :=
  step_fold M w [] d hw (fun _ h => nomatch h) hd
theorem step_alike (M : MOk k rows) {w w' : List Ltr} (d : Nat) (hw : WOk rows.length w) (hw' : WOk rows.length w') (hd : d < k) (h : stk w = stk w') :
    (stepW rows w d).1 = (stepW rows w' d).1 ∧ stk (stepW rows w d).2 = stk (stepW rows w' d).2 := by
  have a := step_cut M w d hw hd
  have b := step_cut M w' d hw' hd
  have e : cutW w = cutW w' := congrArg List.reverse h
  rw [e] at a
  exact ⟨a.1.symm.trans b.1, a.2.symm.trans b.2⟩
theorem moved_alike (M : MOk k rows) : ∀ (u : List Nat) {w w' : List Ltr}, WOk rows.length w → WOk rows.length w' → UOk k u → stk w = stk w' →
    (movedW rows w u).1 = (movedW rows w' u).1 ∧ stk (movedW rows w u).2 = stk (movedW rows w' u).2
  | [], _, _, _, _, _, h => ⟨rfl, h⟩
  | d :: u, w, w', hw, hw', hu, h => by
    have hd := hu d (List.mem_cons_self ..)
    have a := step_alike M d hw hw' hd h
    have ih := moved_alike M u (step_ok M w d hw hd).2 (step_ok M w' d hw' hd).2 (fun x hx => hu x (List.mem_cons_of_mem _ hx)) a.2
    exact ⟨by
      show (stepW rows w d).1 :: _ = (stepW rows w' d).1 :: _
      rw [a.1, ih.1], ih.2⟩
theorem moved_cut1 (M : MOk k rows) {u : List Nat} {w : List Ltr} (hw : WOk rows.length w) (hu : UOk k u) : (movedW rows (cutW w) u).1 = (movedW rows w u).1 :=
  (moved_alike M u (cut_ok hw) hw hu (stk_cut w)).1
theorem moved_cut2 (M : MOk k rows) {u : List Nat} {w : List Ltr} (hw : WOk rows.length w) (hu : UOk k u) : cutW (movedW rows (cutW w) u).2 = cutW (movedW rows w u).2 :=
  congrArg List.reverse (moved_alike M u (cut_ok hw) hw hu (stk_cut w)).2
end
end Lf

/-! Two rules that the layer lacks: enumerate over a tuple; a text's [::-1]. -/
namespace Lf
open PySem PySem.Spec PyProof.Rows L2
/-! ### enumerate(tuple) -/
/-- enumerate of one thing that is walked: its iterator, then the pair-maker, two new cells -/
theorem enum_new {src : Value} {cell : Obj} {Ok : Heap → Prop} (begins : Begins src cell Ok) :
    Meets (Builtin.«enumerate.__new__» ⟨[.type "enumerate", src], []⟩) (fun _ Post st => Ok st.heap ∧
      Post (.ok (.ret (.ref (st.heap.push cell).objs.size))) { st with heap := (st.heap.push cell).push { cls := .type "enumerate", data := .fields #[.none, .bool false, .ref st.heap.objs.size, rawInt 0, .none, .none] } }) :=
  .of_wp fun prg wld ar Post st want => by
    obtain ⟨hp0, gen0, drw0, tok0, os0⟩ := st
    obtain ⟨okHeap, post⟩ := want
    have hsub := sub_enumerate
    have iterates : ∀ {ar' : Around} {Er : Value → Shared → Prop} {Qs : Value → Shared → Prop}, Qs (.ref hp0.objs.size) ⟨hp0.push cell, gen0, drw0, tok0, os0⟩ →
        wpAny (model prg wld) ar' (pyIter src) Qs Er ⟨hp0, gen0, drw0, tok0, os0⟩ := fun got => begins.iter prg wld _ _ _ _ okHeap got
    wp_walk using iterates
    refine wpAny_stack_any (fun frames => wpAny_pure ?_)
    split
    · rename_i called _ _ _ _ _
      by_cases isE : (called == Value.type "enumerate") = true
      · rw [isE]
        wp_walk using iterates
        exact ⟨_, rfl, post⟩
      · rw [Bool.eq_false_iff.mpr isE]
        wp_walk using iterates
        exact ⟨_, rfl, post⟩
    · wp_walk using iterates
      exact ⟨_, rfl, post⟩
theorem enum_call {prg : Program} {wld : World} {ar : Around} {Er Qs : Value → Shared → Prop} {st : Shared} {src : Value} {cell : Obj} {Ok : Heap → Prop} (begins : Begins src cell Ok) (okHeap : Ok st.heap)
    (post : ∀ hp', IsEnum hp' (st.heap.objs.size + 1) st.heap.objs.size 0 .none → hp'.get? st.heap.objs.size = some cell → (∀ c ob, st.heap.get? c = some ob → hp'.get? c = some ob) →
      Qs (.ref (st.heap.objs.size + 1)) { st with heap := hp' }) : wpAny (model prg wld) ar (call (.type "enumerate") [src]) Qs Er st := by
  have size1 : (st.heap.push cell).objs.size = st.heap.objs.size + 1 := by rw [Heap.size_push]
  have made := Heap.get?_push_size (st.heap.push cell) (o := { cls := .type "enumerate", data := .fields #[.none, .bool false, .ref st.heap.objs.size, rawInt 0, .none, .none] }) rfl
  rw [size1] at made
  refine callType_new PySem.F.called_enumerate (by decide) (PySem.F.typeCall_enumerate_1 _) (PySem.F.newCall_enumerate_1 _) (fun made' => PySem.F.args_object_init_2 made' _) PySem.F.entry_enumerate_new (enum_new begins) ⟨okHeap, ?_⟩
  refine And.intro ?_ ?_
  · rw [size1]
    exact ⟨_, made, rfl⟩
  · rw [size1]
    exact post _ made (Heap.get?_push_of_some _ (Heap.get?_push_size _ begins.free)) (fun c ob at' => Heap.get?_push_of_some _ (Heap.get?_push_of_some _ at'))
/-- the tuple at a, each item in a new pair with its place -/
def IteT (K : PySem.W.Frag) (a : Addr) : It where
  go := fun n H => ∃ (items : List V) (y : V), SqT K H a items ∧ items[n]? = some y
  yld := fun n H v H' => ∃ T y, v = .ref T ∧ H T = none ∧ H' = upd H T (.tup [.int (n : Nat), y]) ∧ ∀ items, SqT K H a items → items[n]? = some y
  stop := fun n H => ∃ items : List V, SqT K H a items ∧ items.length ≤ n
/-- how the pair-maker en over the iterator ti stands at turn n -/
def EnSt (en ti a : Addr) (n : Nat) (hp : Heap) : Prop := (∃ last, IsEnum hp en ti ((n : Nat) : Int) last) ∧ hp.IsTupleIter ti a n ∧ en ≠ ti
theorem turn_enumT {prg : Program} {wld : World} {K : PySem.W.Frag} {names : List Expr} {kind : Nat} {where_ : Pos} (a en ti : Addr) (nai : a ≠ ti) (nae : a ≠ en) :
    Turn prg wld K (.Tuple names kind where_) (IteT K a) [en, ti] en (EnSt en ti a) where
  mem := List.mem_cons_self ..
  obj := fun n hp stt c hc => by
    obtain ⟨⟨last, isE⟩, ⟨ob, hob, _, dat⟩, _⟩ := stt
    rcases List.mem_cons.mp hc with eq1 | hc
    · exact ⟨_, by rw [eq1]; exact isE, fun w z => by cases z⟩
    · rw [List.mem_singleton.mp hc]
      exact ⟨ob, hob, fun w z => by
        rw [dat] at z
        cases z⟩
  keep := fun n hp hp' stt stays => by
    obtain ⟨⟨last, isE⟩, isT, ne⟩ := stt
    exact ⟨⟨last, stays en (List.mem_cons_self ..) _ isE⟩, isT.at fun ob q => stays ti (List.mem_cons_of_mem _ (List.mem_cons_self ..)) ob q, ne⟩
  item := by
    rintro X rfl rfl rfl calm n pins st σ H Er inv free stt ⟨items, y, sq, hy⟩
    obtain ⟨vals, rel, isTup, _⟩ := inv.tuple sq
    obtain ⟨isE, isT, ne⟩ := stt
    obtain ⟨val, hval, rval⟩ := rel.get hy
    have inA : n < vals.toArray.size := by
      rw [List.size_toArray]
      exact (List.getElem?_eq_some_iff.mp hval).1
    have apart : en ∉ [ti, a] := by
      intro hm
      rcases List.mem_cons.mp hm with eq1 | hm
      · exact ne eq1
      · exact nae (List.mem_singleton.mp hm).symm
    have W := WalksT.enumerateD (A := X.A) (Draws.tuple (prog := X.prog) (w := X.w) (A := X.A.in1) (inv.ok.hd calm) ti a nai vals.toArray) en ne apart (List.mem_cons_self ..)
    refine W.item n st _ _ inA ⟨isE, isT, isTup⟩ fun T pair hp1 tk hpair newT tupT mid stay1 => ⟨.ref T, rfl, W.go names kind where_ n T _ _ _ mid fun hp2 stt2 stay2 => ?_⟩
    obtain ⟨tok, val', hv', rfl⟩ := hpair
    have ev : val' = val := by
      have : vals.toArray[n]? = some val := by rw [List.getElem?_toArray]; exact hval
      exact Option.some.inj (hv'.symm.trans this)
    subst ev
    have tupT2 : hp2.IsTuple T #[.int (n : Int) tok, val'] := tupT.at fun ob q => stay2 T ob (W.apart n T hp1 mid) q
    have fresh : H T = none := inv.hok.fresh newT
    have both : ∀ c ob, c ∉ [en, ti] → st.heap.get? c = some ob → hp2.get? c = some ob := fun c ob hc q => stay2 c ob hc (stay1 c ob hc q)
    have inv2 := inv.turnedNew (t' := tk) (ob := .tup [.int (n : Nat), y]) both free newT ⟨by show 2 ≤ sizeLine; decide, [.int (n : Int) tok, val'], .cons ⟨tok, rfl⟩ (.cons rval .nil), tupT2⟩
    refine ⟨.ref T, _, inv2, rfl, ⟨T, y, rfl, fresh, rfl, fun items' sq' => by rw [inv.tuple_inj sq' sq]; exact hy⟩, ⟨stt2.1, stt2.2.1, ne⟩, fun c hc => ?_⟩
    have nT : c ≠ T := fun z => W.apart n T hp1 mid (z ▸ hc)
    rw [upd_ne nT]
    exact (free c hc).1
  done := by
    rintro X rfl rfl rfl calm n pins st σ H Er inv free ⟨⟨last, isE⟩, isT, ne⟩ ⟨items, sq, short⟩
    obtain ⟨vals, rel, isTup, _⟩ := inv.tuple sq
    have len := rel.length
    obtain ⟨g0, g1, _, g3, g4, g5⟩ := free ti (List.mem_cons_of_mem _ (List.mem_cons_self ..))
    have hT : st.TypeIs (.ref en) "enumerate" := ⟨_, isE, rfl⟩
    unfold pyNext
    refine wpAny_bind (wpAny_attempt (wpAny_callSpecial?_slot (name := Str.ofString "__next__") hT PySem.F.slot_enumerate_next (wpAny_call_entry PySem.F.slot_enumerate_next hT PySem.F.entry_enumerate_next ?_ (PySem.F.args_enumerate_next_1 _))))
    show wpAny (model X.prog X.w) _ (field (.ref en) 2 >>= _) _ _ st
    refine wpAny_bind (wpAny_field isE rfl (x := .ref ti) rfl (wpAny_bind ?_))
    refine wpAny_nextOf_tuple_end (inv.ok.hd calm) isT isTup (Array.getElem?_eq_none (by rw [List.size_toArray]; omega)) fun hp' ex stay ⟨ob, hob, cls⟩ => ?_
    exact wpAny_bind (wpAny_isInstance (T := "StopIteration") (b := true) ⟨ob, hob, cls⟩ isSubtype_stop (wpAny_pure ⟨rfl, inv.turned (t' := st.toks) stay g0 g1 g3 g4 g5⟩))
  self := fun ar n st Qs Er stt got => wpAny_pyIter_enum stt.1.choose_spec got
def iEnumT (K : PySem.W.Frag) (ta : TA) : TI := fun σ H R => ta σ H fun vs H1 => ∃ a items, vs = [.ref a] ∧ SqT K H1 a items ∧ R (IteT K a) H1
theorem pi_enumT {X : Cx} {src : Expr} {ta : TA} {p pos where_ : Pos} {names : List Expr} {kind : Nat} (glob : Gl X "enumerate") (own : X.mg "enumerate" = none) (args : PA X [src] ta) (stars : starEach [src] X.env = [(false, eval src X.env)] := by rfl) :
    PI X (.Tuple names kind where_) (.Call (.Name "enumerate" p) [src] [] pos) (iEnumT X.K ta) where
  run := fun pins st σ H R inv want => by
    refine Call_ (ld_blt inv glob own boot_enumerate (PyProof.Rows.callWith_type1 (thn (args.run pos pins st σ H _ inv want) ?_) stars rfl))
    rintro us st1 ⟨vs, H1, inv1, rel, a, items, rfl, sq, got⟩
    obtain ⟨u, rfl, ru⟩ := vals1 rel
    cases ru
    obtain ⟨vals, _, isTup, _⟩ := inv1.tuple sq
    have below : a < st1.heap.objs.size := isTup.lt
    refine enum_call (begins_tuple a vals.toArray) isTup fun hp' isE hit stay => wpAny_pyIter_enum isE ?_
    have turn := turn_enumT (prg := X.prog) (wld := X.w) (K := X.K) (names := names) (kind := kind) (where_ := where_) a (st1.heap.objs.size + 1) st1.heap.objs.size (Nat.ne_of_lt below) (Nat.ne_of_lt (Nat.lt_succ_of_lt below))
    refine ⟨_, _, _, _, H1, rfl, inv1.kept (t' := st1.toks) stay, turn, ⟨⟨.none, isE⟩, ⟨_, hit, rfl, rfl⟩, Nat.succ_ne_self _⟩, fun c hc => ?_, got⟩
    have above : st1.heap.objs.size ≤ c := by
      rcases List.mem_cons.mp hc with eq1 | hc
      · rw [eq1]
        exact Nat.le_succ _
      · rw [List.mem_singleton.mp hc]
        exact Nat.le_refl _
    exact inv1.fpOk above (inv1.hok.fresh above)
theorem walk_enumT {K : PySem.W.Frag} {a : Addr} {items : List V} : Walk (IteT K a) items.length (fun H => SqT K H a items) (YPair (fun n => some (.int (n : Nat))) (fun n => items[n]?)) where
  goes := fun n H below sq => ⟨items, items[n], sq, List.getElem?_eq_getElem below⟩
  stops := fun H sq => ⟨items, sq, Nat.le_refl _⟩
  yields := fun n H v H' below sq got => by
    obtain ⟨T, y, ev, free, eH, hy⟩ := got
    exact ⟨T, _, y, ev, free, eH, rfl, hy items sq⟩

/-! ### a text's [::-1] -/
def revS (z : Str) : Str := ⟨z.cps.toList.reverse.toArray⟩
theorem sliceBy_rev (z : Str) (u : Tok) : Txt.sliceBy z none none (-1, u) = revS z := by
  have e : (Txt.sliceBy z none none (-1, u)).cps.toList = z.cps.toList.reverse := by
    rw [step_rev_list z u]
    refine List.ext_getElem? fun i => ?_
    by_cases hi : i < z.length
    · have hi2 : z.length - 1 - i < z.cps.size := by
        show z.length - 1 - i < z.length
        omega
      rw [List.getElem?_map, List.getElem?_range hi, List.getElem?_reverse (by simpa [Str.length] using hi)]
      simp [Str.length, Array.getD, show z.cps.size - 1 - i < z.cps.size from hi2]
    · rw [List.getElem?_eq_none (by simpa using Nat.le_of_not_lt hi), List.getElem?_eq_none (by simpa [Str.length] using Nat.le_of_not_lt hi)]
  unfold revS
  rw [← e]
def tRevS (te : TE) : TE := fun σ H Q => te σ H fun x H1 => ∃ z, x = .str z ∧ z.length ≤ sizeLine ∧ Q (.str (revS z)) H1
theorem pe_revS {X : Cx} {text : Expr} {te : TE} {k : Nat} {p1 p2 p3 pos : Pos} (ht : PE X text te) (lasts : ∀ v r, letTemporaryGo text v r = pure () := by intro _ _; with_unfolding_all rfl) :
    PE X (.Subscript text (.Slice none none (some (.UnaryOp .USub (.Constant (.int 1) k p1) p2)) p3) pos) (tRevS te) where
  run := fun pins st σ H Q inv want => by
    refine Subscript_ (thn (ht.run pins st σ H _ inv want) ?_)
    rintro v st1 ⟨x, H1, inv1, rel, z, rfl, short, got⟩
    obtain ⟨tok, rfl⟩ := rel
    -- the two parts that are left out
    refine wpAny_Slice (thn (po_none.run pins st1 σ H1 (fun part Hp => part = none ∧ Hp = H1) inv1 ⟨rfl, rfl⟩) ?_)
    rintro lo st2 ⟨_, _, inv2, isLo, rfl, rfl⟩
    refine thn (po_none.run pins st2 σ _ (fun part Hp => part = none ∧ Hp = _) inv2 ⟨rfl, rfl⟩) ?_
    rintro up st3 ⟨_, _, inv3, isUp, rfl, rfl⟩
    -- the step
    refine thn ((po_some (pe_un un_neg pe_int) : PO X (some (.UnaryOp .USub (.Constant (.int 1) k p1) p2)) _).run pins st3 σ _ (fun part Hp => part = some (-1) ∧ Hp = _) inv3 ⟨1, rfl, -1, rfl, rfl, rfl⟩) ?_
    rintro sp st4 ⟨_, H4, inv4, isSp, rfl, eH⟩
    obtain ⟨l, rfl, el⟩ := IsPart.raw isLo
    obtain ⟨u, rfl, eu⟩ := IsPart.raw isUp
    obtain ⟨s, rfl, es⟩ := IsPart.raw isSp
    cases l with
    | some _ => cases el
    | none =>
    cases u with
    | some _ => cases eu
    | none =>
    cases s with
    | none => cases es
    | some step =>
    obtain ⟨i, uk⟩ := step
    have ei : i = (-1 : Int) := Option.some.inj es
    subst ei
    have inv5 : Inv X pins σ H4 { st4 with heap := st4.heap.push { cls := .type "slice", data := .fields #[partValue none, partValue none, partValue (some (-1, uk))] } } := inv4.kept (t' := st4.toks) (fun c ob at' => Heap.get?_push_of_some _ at')
    show wpAny (model X.prog X.w) X.A (subscriptTail text (.Slice none none (some (.UnaryOp .USub (.Constant (.int 1) k p1) p2)) p3) (.str z tok) (.ref st4.heap.objs.size)) (EP X pins σ Q) X.xe { st4 with heap := st4.heap.push { cls := .type "slice", data := .fields #[.none, .none, .int (-1) uk] } }
    refine tail_of_ItemOn ⟨"str", _, PySem.F.slot_str_getitem.lookup, typeIs_str _ _ _, wpAny_getItem_str_slice (l := none) (u := none) (st := some (-1, uk)) ⟨_, Heap.get?_push_size _ rfl, rfl, rfl⟩ rfl
      (post_val_or_str ⟨Nat.le_trans (Txt.sliceBy_le z _ _ (-1, uk) (by show (-1 : Int) ≠ 0; decide)) short, fun tok' c => ?_⟩)⟩ (by with_unfolding_all rfl) (fun r => lasts _ r)
    show EP X pins σ Q (Value.str (Txt.sliceBy z none none (-1, uk)) tok') _
    rw [sliceBy_rev]
    rw [← eH] at got
    exact ⟨.str (revS z), H4, inv5.tok c, ⟨tok', rfl⟩, got⟩
end Lf

/-! Words and strings as texts, machines in the heap; facts of the written texts. -/
namespace Lf
open PySem PySem.Spec PyProof.Rows L2

/-! ### texts -/
def codeL (l : Ltr) : Nat := (if l.1 then 65 else 97) + l.2
def codeD (d : Nat) : Nat := 48 + d
def encW (w : List Ltr) : Str := ⟨(w.map codeL).toArray⟩
def encD (u : List Nat) : Str := ⟨(u.map codeD).toArray⟩
theorem encW_len (w : List Ltr) : (encW w).length = w.length := by simp [encW, Str.length]
theorem encD_len (u : List Nat) : (encD u).length = u.length := by simp [encD, Str.length]
theorem encW_app (a b : List Ltr) : encW (a ++ b) = encW a ++ encW b := by
  show encW (a ++ b) = (⟨(encW a).cps ++ (encW b).cps⟩ : Str)
  simp [encW]
theorem encD_app (a b : List Nat) : encD (a ++ b) = encD a ++ encD b := by
  show encD (a ++ b) = (⟨(encD a).cps ++ (encD b).cps⟩ : Str)
  simp [encD]
theorem encW_get {w : List Ltr} {i c : Nat} (h : (encW w).cps[i]? = some c) : ∃ l, w[i]? = some l ∧ c = codeL l := by
  have h' : (w.map codeL)[i]? = some c := by simpa [encW] using h
  rw [List.getElem?_map] at h'
  cases e : w[i]? with
  | none => rw [e] at h'; cases h'
  | some l =>
    rw [e] at h'
    exact ⟨l, rfl, (Option.some.inj h').symm⟩
theorem encD_get {u : List Nat} {i c : Nat} (h : (encD u).cps[i]? = some c) : ∃ d, u[i]? = some d ∧ c = codeD d := by
  have h' : (u.map codeD)[i]? = some c := by simpa [encD] using h
  rw [List.getElem?_map] at h'
  cases e : u[i]? with
  | none => rw [e] at h'; cases h'
  | some l =>
    rw [e] at h'
    exact ⟨l, rfl, (Option.some.inj h').symm⟩
theorem encW_size (w : List Ltr) : (encW w).cps.size = w.length := encW_len w
theorem encD_size (u : List Nat) : (encD u).cps.size = u.length := encD_len u
theorem encW_one (l : Ltr) : (⟨#[codeL l]⟩ : Str) = encW [l] := rfl
theorem encD_one (d : Nat) : (⟨#[codeD d]⟩ : Str) = encD [d] := rfl
theorem codeL_inj {a b : Ltr} (ha : a.2 < 26) (hb : b.2 < 26) (h : codeL a = codeL b) : a = b := by
  obtain ⟨x, s⟩ := a
  obtain ⟨y, t⟩ := b
  have ha' : s < 26 := ha
  have hb' : t < 26 := hb
  unfold codeL at h
  cases x <;> cases y <;> simp at h
  · rw [h]
  · omega
  · omega
  · rw [h]
theorem encW1_inj {a b : Ltr} (ha : a.2 < 26) (hb : b.2 < 26) (h : encW [a] = encW [b]) : a = b := by
  refine codeL_inj ha hb ?_
  have := congrArg (fun z : Str => z.cps.toList) h
  simpa [encW] using this
theorem revS_enc (w : List Ltr) : revS (encW w) = encW w.reverse := by
  unfold revS encW
  simp
/-- the letters joined -/
theorem joinL_nil (ws : List (List Nat)) : TL.joinL [] ws = ws.flatten := by
  induction ws with
  | nil => rfl
  | cons x r ih =>
    cases r with
    | nil => simp [TL.joinL]
    | cons y r' =>
      show x ++ ([] ++ TL.joinL [] (y :: r')) = _
      rw [ih]
      simp
theorem join_enc {α : Type} (f : α → Nat) (w : List α) : Txt.join (⟨#[]⟩ : Str) (w.map fun l => (⟨#[f l]⟩ : Str)) = ⟨(w.map f).toArray⟩ := by
  have h := SX.join_S [] (w.map fun l => [f l])
  rw [joinL_nil] at h
  have e1 : (w.map fun l => [f l]).map SX.S = w.map fun l => (⟨#[f l]⟩ : Str) := by
    rw [List.map_map]
    rfl
  rw [e1] at h
  have e2 : (w.map fun l => [f l]).flatten = w.map f := by
    clear h e1
    induction w with
    | nil => rfl
    | cons x r ih =>
      rw [List.map_cons, List.flatten_cons, ih]
      rfl
  rw [e2] at h
  exact h
theorem emp : ("" : Str) = ⟨#[]⟩ := by decide +kernel
theorem joinW (w : List Ltr) : Txt.join ("" : Str) (w.map fun l => encW [l]) = encW w := by
  rw [emp]
  exact join_enc codeL w
theorem joinD (u : List Nat) : Txt.join ("" : Str) (u.map fun d => encD [d]) = encD u := by
  rw [emp]
  exact join_enc codeD u
theorem joinW_fit {w : List Ltr} (h : w.length ≤ 1000) : ((w.map fun l => encW [l]).map (·.length)).sum + (w.map fun l => encW [l]).length * ("" : Str).length ≤ 16777216 := by
  have e1 : ("" : Str).length = 0 := by decide +kernel
  have e2 : ((w.map fun l => encW [l]).map (·.length)).sum = w.length := by
    clear h
    induction w with
    | nil => rfl
    | cons x r ih =>
      rw [List.map_cons, List.map_cons, List.sum_cons, ih, encW_len, List.length_cons]
      show 1 + r.length = r.length + 1
      omega
  rw [e1, e2]
  omega
theorem joinD_fit {u : List Nat} (h : u.length ≤ 1000) : ((u.map fun l => encD [l]).map (·.length)).sum + (u.map fun l => encD [l]).length * ("" : Str).length ≤ 16777216 := by
  have e1 : ("" : Str).length = 0 := by decide +kernel
  have e2 : ((u.map fun l => encD [l]).map (·.length)).sum = u.length := by
    clear h
    induction u with
    | nil => rfl
    | cons x r ih =>
      rw [List.map_cons, List.map_cons, List.sum_cons, ih, encD_len, List.length_cons]
      show 1 + r.length = r.length + 1
      omega
  rw [e1, e2]
  omega
theorem joinW_map (w : List Ltr) : w.map (fun l => V.str (encW [l])) = (w.map fun l => encW [l]).map V.str := by
  rw [List.map_map]
  rfl
theorem joinD_map (u : List Nat) : u.map (fun l => V.str (encD [l])) = (u.map fun l => encD [l]).map V.str := by
  rw [List.map_map]
  rfl

/-! ### the written texts -/
abbrev zSmall : Str := "abcdefgh"
abbrev zLarge : Str := "ABCDEFGH"
abbrev zOrder : Str := "aAbBcCdDeEfFgGhH"
abbrev zDigits : Str := "0123"
abbrev zEight : Str := "aAbBcCdD"
theorem small_in : ∀ s : Nat, s < 4 → decide (codeL (false, s) ∈ zSmall.cps.toList) = true := by decide +kernel
theorem large_out : ∀ s : Nat, s < 4 → decide (codeL (true, s) ∈ zSmall.cps.toList) = false := by decide +kernel
theorem small_occ : ∀ s : Nat, s < 4 → Builtin.Str.occurrences zSmall (encW [(false, s)]) 0 zSmall.length 1 = [s] := by decide +kernel
theorem large_occ : ∀ s : Nat, s < 4 → Builtin.Str.occurrences zLarge (encW [(true, s)]) 0 zLarge.length 1 = [s] := by decide +kernel
theorem small_at : ∀ s : Nat, s < 4 → atI zSmall.cps.toList (s : Int) = some (codeL (false, s)) := by decide +kernel
theorem large_at : ∀ s : Nat, s < 4 → atI zLarge.cps.toList (s : Int) = some (codeL (true, s)) := by decide +kernel
theorem small_find : ∀ s : Nat, s < 4 → Txt.find zSmall (encW [(false, s)]) = (s : Int) := by decide +kernel
theorem large_find : ∀ s : Nat, s < 4 → Txt.find zSmall (encW [(true, s)]) = -1 := by decide +kernel
theorem zlen : zSmall.length ≤ sizeLine ∧ zLarge.length ≤ sizeLine ∧ zOrder.length ≤ sizeLine ∧ zDigits.length ≤ sizeLine ∧ zEight.length ≤ sizeLine := by decide +kernel
/-- the letters of a machine of n states -/
def lettersOf (n : Nat) : Str := cutS zOrder none (some (2 * (n : Int)))
theorem letters_has : ∀ n : Nat, n < 5 → ∀ s : Nat, s < n → decide (codeL (false, s) ∈ (lettersOf n).cps.toList) = true ∧ decide (codeL (true, s) ∈ (lettersOf n).cps.toList) = true := by decide +kernel
def digitsOf (k : Nat) : Str := cutS zDigits none (some (k : Int))
theorem digits_has : ∀ k : Nat, k < 5 → ∀ d : Nat, d < k → decide (codeD d ∈ (digitsOf k).cps.toList) = true := by decide +kernel
def eightOf (n : Nat) : Str := cutS zEight none (some (2 * (n : Int)))
theorem eight_len : ∀ n : Nat, n < 5 → (eightOf n).length = 2 * n := by decide +kernel
/-- the i-th of aAbB.. -/
def ltrAt (i : Nat) : Ltr := (i % 2 == 1, i / 2)
theorem eight_at : ∀ n : Nat, n < 5 → ∀ i : Nat, i < 2 * n → atI (eightOf n).cps.toList (i : Int) = some (codeL (ltrAt i)) := by decide +kernel
theorem digit_at : ∀ d : Nat, d < 4 → atI zDigits.cps.toList (d : Int) = some (codeD d) := by decide +kernel
theorem digit_int : ∀ d : Nat, d < 4 → PySem.intText? (encD [d]) = some (d : Int) := by decide +kernel
theorem digit_str : ∀ d : Nat, d < 4 → (Str.ofString (toString (d : Int))) = encD [d] := by decide +kernel

/-! ### heaps -/
theorem same_upd {H : Hp} {p : Addr} {o : HO} (h : H p = none) : Same H (upd H p o) := fun b x e => by
  rw [upd_ne (ne_of_none e h)]
  exact e
theorem same_put {H0 H : Hp} {D : Addr} {o : HO} (s : Same H0 H) (n : H0 D = none) : Same H0 (upd H D o) := fun b x e => by
  rw [upd_ne (ne_of_none e n)]
  exact s b x e
theorem same_new {H0 H : Hp} {D : Addr} {o : HO} (s : Same H0 H) (n : H D = none) : Same H0 (upd H D o) := s.trans (same_upd n)
theorem lt_line {n : Nat} (h : n ≤ 1000) : n < sizeLine := small1000 h
theorem le_line {n : Nat} (h : n ≤ 1000) : n ≤ sizeLine := Nat.le_of_lt (small1000 h)
def EntH (H : Hp) (v : V) (e : Nat × Nat) : Prop := ∃ a, v = .ref a ∧ H a = some (.tup [.int (e.1 : Nat), .int (e.2 : Nat)])
def RowH (H : Hp) (v : V) (r : List (Nat × Nat)) : Prop := ∃ a ts, v = .ref a ∧ H a = some (.tup ts) ∧ Paired (EntH H) ts r
def MachH (H : Hp) (v : V) (k : Nat) (rows : Rows) : Prop := ∃ a ra ts, v = .ref a ∧ H a = some (.tup [.int (k : Nat), .ref ra]) ∧ H ra = some (.tup ts) ∧ Paired (RowH H) ts rows
/-- all tracked but d is as it was -/
def Keep (d : Addr) (H H' : Hp) : Prop := ∀ b o, b ≠ d → H b = some o → H' b = some o
theorem Keep.refl (d : Addr) (H : Hp) : Keep d H H := fun _ _ _ h => h
theorem Keep.trans {d : Addr} {H H1 H2 : Hp} (a : Keep d H H1) (b : Keep d H1 H2) : Keep d H H2 := fun c o n h => b c o n (a c o n h)
theorem same_keep {d : Addr} {H H' : Hp} (s : Same H H') : Keep d H H' := fun b o _ h => s b o h
/-- the draws: a list of ints -/
def Dr (d : Addr) (H : Hp) : Prop := ∃ ns : List Int, H d = some (.lst (ns.map V.int))
theorem Paired.map {α β : Type} {F G : α → β → Prop} (h : ∀ a b, F a b → G a b) : ∀ {xs : List α} {ys : List β}, Paired F xs ys → Paired G xs ys
  | _, _, .nil => .nil
  | _, _, .cons p q => .cons (h _ _ p) (Paired.map h q)
theorem Paired.at {α β : Type} {F : α → β → Prop} : ∀ {xs : List α} {ys : List β} {i : Nat} {x : α}, Paired F xs ys → xs[i]? = some x → ∃ y, ys[i]? = some y ∧ F x y
  | _, _, _, _, .nil, h => by simp at h
  | _, _, 0, _, .cons p _, h => by
    have e := Option.some.inj h
    subst e
    exact ⟨_, rfl, p⟩
  | _, _, i + 1, _, .cons _ q, h => Paired.at (i := i) q h
theorem Paired.at' {α β : Type} {F : α → β → Prop} : ∀ {xs : List α} {ys : List β} {i : Nat} {y : β}, Paired F xs ys → ys[i]? = some y → ∃ x, xs[i]? = some x ∧ F x y
  | _, _, _, _, .nil, h => by simp at h
  | _, _, 0, _, .cons p _, h => by
    have e := Option.some.inj h
    subst e
    exact ⟨_, rfl, p⟩
  | _, _, i + 1, _, .cons _ q, h => Paired.at' (i := i) q h
theorem Paired.len {α β : Type} {F : α → β → Prop} : ∀ {xs : List α} {ys : List β}, Paired F xs ys → xs.length = ys.length
  | _, _, .nil => rfl
  | _, _, .cons _ q => by rw [List.length_cons, List.length_cons, Paired.len q]
section
variable {H H' : Hp} {v : V}
theorem EntH.same {e : Nat × Nat} (s : Same H H') (h : EntH H v e) : EntH H' v e := let ⟨a, p, q⟩ := h; ⟨a, p, s _ _ q⟩
theorem RowH.same {r : List (Nat × Nat)} (s : Same H H') (h : RowH H v r) : RowH H' v r := let ⟨a, ts, p, q, z⟩ := h; ⟨a, ts, p, s _ _ q, Paired.map (fun _ _ => EntH.same s) z⟩
theorem MachH.same {k : Nat} {rows : Rows} (s : Same H H') (h : MachH H v k rows) : MachH H' v k rows :=
  let ⟨a, ra, ts, p, q, z, y⟩ := h; ⟨a, ra, ts, p, s _ _ q, s _ _ z, Paired.map (fun _ _ => RowH.same s) y⟩
theorem ne_lst {d a : Addr} {xs ts : List V} (h : H d = some (.lst xs)) (h' : H a = some (.tup ts)) : a ≠ d := ne_of h' h (by intro z; cases z)
theorem EntH.keep {d : Addr} {e : Nat × Nat} (D : Dr d H) (s : Keep d H H') (h : EntH H v e) : EntH H' v e :=
  let ⟨_, hd⟩ := D; let ⟨a, p, q⟩ := h; ⟨a, p, s _ _ (ne_lst hd q) q⟩
theorem RowH.keep {d : Addr} {r : List (Nat × Nat)} (D : Dr d H) (s : Keep d H H') (h : RowH H v r) : RowH H' v r :=
  let ⟨_, hd⟩ := D; let ⟨a, ts, p, q, z⟩ := h; ⟨a, ts, p, s _ _ (ne_lst hd q) q, Paired.map (fun _ _ => EntH.keep D s) z⟩
theorem MachH.keep {d : Addr} {k : Nat} {rows : Rows} (D : Dr d H) (s : Keep d H H') (h : MachH H v k rows) : MachH H' v k rows :=
  let ⟨_, hd⟩ := D; let ⟨a, ra, ts, p, q, z, y⟩ := h; ⟨a, ra, ts, p, s _ _ (ne_lst hd q) q, s _ _ (ne_lst hd z) z, Paired.map (fun _ _ => RowH.keep D s) y⟩
end

/-! ### defs -/
abbrev topS (st : List Stmt) (i : Nat) : Stmt := st.getD i (.Pass ⟨0, 0, 0, 0⟩)
/-- a def of the module by its name, with its promise -/
structure Cl (P : Program) (w : World) (K : PySem.W.Frag) (mg : Str → Option Value) (base : Heap) (k : Nat) (x : Str) (sp : Sp) : Prop where
  ex : ∃ (f : Addr) (fd : FuncData) (ps : List Str), FnOk P w K mg base CX0 k f fd ps sp ∧ mg x = some (.ref f) ∧ PySem.W.keepIn K (.ref f) = true ∧ Binds K fd ps []
section
variable {X : Cx} {k j : Nat} {x : Str} {sp : Sp} {p pos : Pos} {e : Expr} {es : List Expr} {t : TA}
theorem pcl (hr : Room j X.A) (c : Cl X.prog X.w X.K X.mg X.base k x sp) (ha : PA X (e :: es) t) (hg : Gl X x := by rfl) (hk : k ≤ j := by decide)
    (hdb : (x == ("__debug__" : Str)) = false := by decide) (he : starEach (e :: es) X.env = (false, eval e X.env) :: starEach es X.env := by rfl) (hpl : (backTo pos (starEach es X.env)).any (·.1) = false := by rfl) :
    PE X (.Call (.Name x p) (e :: es) [] pos) (tCall sp [] E0 t) := by
  obtain ⟨f, fd, ps, F, hm, kp, b⟩ := c.ex
  exact pe_call F (hr.mono hk) hg hm kp b .nil pass0 ha hdb he hpl
/-! the rules that speak of the written part, with it given (for a comprehension's block) -/
theorem lenK (K : PySem.W.Frag) (h : X.K = K := by rfl) : CallR X (.builtin "len") (fun xs H Q => ∃ p ys, xs = [.ref p] ∧ (SqL K H p ys ∨ SqT K H p ys) ∧ Q (.int ys.length) H) := by
  subst h
  exact call_len_seq
theorem ixtK (K : PySem.W.Frag) (h : X.K = K := by rfl) : IxR X (rIxT K) := by
  subst h
  exact ix_tup
theorem ixlK (K : PySem.W.Frag) (h : X.K = K := by rfl) : IxR X (rIxL K) := by
  subst h
  exact ix_list
/-- a captured local as a target, in the def itself -/
theorem pgc (i : Nat) {x : Str} {pos : Pos} (hN : X.N.Nodup) (hi : X.N[i]? = some x) (hx : X.env.scope.names.lookup x = some .cell) (hf : X.fn x = true) : PG X (.Name x pos) (gName i) := pg_name hN hi (.inr hx) (.inl hf)
/-- a plain local as a target -/
theorem pgl (i : Nat) {x : Str} {pos : Pos} (hN : X.N.Nodup) (hi : X.N[i]? = some x) (hx : X.env.scope.names.lookup x = some .local) : PG X (.Name x pos) (gName i) := pg_name hN hi (.inl hx) (.inr hx)
end
end Lf

/-! The checks: a machine, a word, a string are what they are. -/
namespace Lf
open PySem PySem.Spec PyProof.Rows L2
abbrev prog : Program := PySem.Challenge.pw_leafturner_k10_whole_products_and_undoin
abbrev top (i : Nat) : Stmt := prog.main.body.getD i (.Pass ⟨0, 0, 0, 0⟩)
abbrev IsC (mg : Str → Option Value) (x : Str) (v : V) : Prop := ∃ u, mg x = some u ∧ RelV v u
/-- the built-ins by their names, and the module's constants -/
structure Gs (mg : Str → Option Value) : Prop where
  len : mg "len" = none
  sorted : mg "sorted" = none
  list : mg "list" = none
  range : mg "range" = none
  all : mg "all" = none
  int : mg "int" = none
  str : mg "str" = none
  tuple : mg "tuple" = none
  enumerate : mg "enumerate" = none
  SMALL : IsC mg "SMALL" (.str zSmall)
  LARGE : IsC mg "LARGE" (.str zLarge)
  ORDER : IsC mg "ORDER" (.str zOrder)
  DIGITS : IsC mg "DIGITS" (.str zDigits)
  LEAST_DIGITS : IsC mg "LEAST_DIGITS" (.int 2)
  MOST_DIGITS : IsC mg "MOST_DIGITS" (.int 4)
  MOST_STATES : IsC mg "MOST_STATES" (.int 8)
  MOST_WIDE : IsC mg "MOST_WIDE" (.int 200)
  MOST_LENGTH : IsC mg "MOST_LENGTH" (.int 60)
  LONGEST : IsC mg "LONGEST" (.int 60)
section
variable {P : Program} {w : World} {K : PySem.W.Frag} {mg : Str → Option Value} {base : Heap}
/-- a def of the module as it stands -/
structure Df (K : PySem.W.Frag) (mg : Str → Option Value) (x y : Str) (i : Nat) (ps : List Str) : Prop where
  ex : ∃ (f : Addr) (fd : FuncData), Fun K x x (top i) f fd ∧ mg y = some (.ref f) ∧ Binds K fd ps []
/-- the promise of a def of the module, by its body -/
theorem Df.cl {x y : Str} {i : Nat} {N ps : List Str} {k : Nat} {sp : Sp} (D : Df K mg x y i ps) (S : FnScope N ps (defScope (top i))) (len : ∀ vs H Q E, sp vs H Q E → vs.length = ps.length)
    (hbody : ∀ (f : Addr) (cdv : Value) (A : Around) (outer : List Env) (s : Shared) (H : Hp) (vs : List V) (Q : VK) (E : XK), Room k (A.deeper (envOfC x (defScope (top i)) s.heap.objs.size f cdv)) → sp vs H Q E →
      ∃ t, PSs (cxOf CX0 P w K mg base N x (defScope (top i)) f cdv A outer s H E).nox (defBody (top i)) t ∧ t { nx := fun _ H' => Q .non H', rt := Q } (start N vs) H) : Cl P w K mg base (k + 1) y sp := by
  obtain ⟨f, fd, F, hm, b⟩ := D.ex
  exact ⟨f, fd, ps, F.ok S len (hbody f), hm, F.kp, b⟩

/-! ### other -/
def spOther : Sp := fun vs H Q _ => ∃ l : Ltr, vs = [.str (encW [l])] ∧ l.2 < 4 ∧ Q (.str (encW [flip l])) H
theorem scOther : FnScope ["letter"] ["letter"] (defScope (top 25)) := ⟨rfl, rfl, rfl, by decide +kernel, rfl, by decide +kernel, by decide +kernel⟩
theorem ok_other (D : Df K mg "other" "other" 25 ["letter"]) (G : Gs mg) : Cl P w K mg base 1 "other" spOther := by
  refine D.cl scOther (fun vs H Q E h => ?_) (fun f cdv A outer s H vs Q E hr h => ?_)
  · obtain ⟨l, rfl, _⟩ := h
    rfl
  · obtain ⟨l, rfl, hl, q⟩ := h
    refine ⟨_, pss_cons (ps_if (pt_cmpR op_in_sign (pv 0) (C8.pe_gc (by rfl) G.SMALL) rfl)
        (pss_one (ps_ret (pe_ix ix_str (C8.pe_gc (by rfl) G.LARGE) (pe_m1 PySem.F.slot_str_index PySem.F.type_str_index mt_sindex (C8.pe_gc (by rfl) G.SMALL) (pv 0)) (fun _ _ => rfl)))) pss_nil)
      (pss_one (ps_ret (pe_ix ix_str (C8.pe_gc (by rfl) G.SMALL) (pe_m1 PySem.F.slot_str_index PySem.F.type_str_index mt_sindex (C8.pe_gc (by rfl) G.LARGE) (pv 0)) (fun _ _ => rfl)))), ?_⟩
    obtain ⟨b, s⟩ := l
    cases b with
    | false =>
      refine ⟨_, rfl, codeL (false, s), zSmall, rfl, rfl, _, rfl, ?_⟩
      rw [small_in s hl]
      refine iteT ?_
      exact ⟨⟨_, rfl⟩, _, rfl, zSmall, encW [(false, s)], s, [], rfl, rfl, small_occ s hl, zLarge, (s : Int), codeL (true, s), rfl, rfl, zlen.2.1, large_at s hl, q⟩
    | true =>
      refine ⟨_, rfl, codeL (true, s), zSmall, rfl, rfl, _, rfl, ?_⟩
      rw [large_out s hl]
      refine iteF ?_
      exact ⟨⟨_, rfl⟩, _, rfl, zLarge, encW [(true, s)], s, [], rfl, rfl, large_occ s hl, zSmall, (s : Int), codeL (false, s), rfl, rfl, zlen.1, small_at s hl, q⟩

/-! ### letters_of, is_word -/
theorem MachH.one {H : Hp} {v : V} {k : Nat} {rows : Rows} (h : MachH H v k rows) : ∃ a ra ts, v = .ref a ∧ SqT K H a [.int (k : Nat), .ref ra] ∧ SqT K H ra ts ∧ ts.length = rows.length ∧ Paired (RowH H) ts rows :=
  let ⟨a, ra, ts, p, q, z, y⟩ := h; ⟨a, ra, ts, p, .inl (.inl q), .inl (.inl z), Paired.len y, y⟩
def spLetters : Sp := fun vs H Q _ => ∃ v k rows, vs = [v] ∧ MachH H v k rows ∧ Q (.str (lettersOf rows.length)) H
theorem scLetters : FnScope ["machine"] ["machine"] (defScope (top 26)) := ⟨rfl, rfl, rfl, by decide +kernel, rfl, by decide +kernel, by decide +kernel⟩
theorem ok_letters (D : Df K mg "letters_of" "letters_of" 26 ["machine"]) (G : Gs mg) : Cl P w K mg base 1 "letters_of" spLetters := by
  refine D.cl scLetters (fun vs H Q E h => ?_) (fun f cdv A outer s H vs Q E hr h => ?_)
  · obtain ⟨v, k, rows, rfl, _⟩ := h
    rfl
  · obtain ⟨v, k, rows, rfl, M, q⟩ := h
    obtain ⟨a, ra, ts, rfl, ha, hra, hl, _⟩ := M.one (K := K)
    refine ⟨_, pss_one (ps_ret (pe_slice sl_str (C8.pe_gc (by rfl) G.ORDER) po_none (po_some (pe_op op_mul pe_int (pe_callB call_len_seq (by rfl) G.len PySem.boot_len (pa_cons (pe_ix ix_tup (pv 0) pe_int (fun _ _ => rfl)) pa_nil)))))), ?_⟩
    refine ⟨_, rfl, a, _, 1, .ref ra, rfl, rfl, ha, rfl, ra, ts, rfl, .inr hra, _, _, rfl, rfl, .inl ⟨by decide, by decide⟩, _, rfl, zOrder, rfl, zlen.2.2.1, ?_⟩
    rw [hl]
    exact q

/-! ### small words -/
theorem iteDT {c A B : Prop} [Decidable c] (hc : c) (h : A) : if decide c = true then A else B := by
  rw [decide_eq_true hc]
  exact iteT h
theorem iteDF {c A B : Prop} [Decidable c] (hc : ¬ c) (h : B) : if decide c = true then A else B := by
  rw [decide_eq_false hc]
  exact iteF h
theorem iteND {c A B : Prop} [Decidable c] (hc : c) (h : B) : if (!decide c) = true then A else B := iteNS hc h
theorem dpInts {H : Hp} : ∀ ns : List Int, DpAll K H (ns.map V.int) (ns.map PyData.int)
  | [] => .nil
  | n :: r => .cons (.int n) (dpInts r)
theorem all_rep : ∀ n : Nat, (List.replicate n true).all id = true
  | 0 => rfl
  | n + 1 => by
    rw [List.replicate_succ, List.all_cons, all_rep n]
    rfl

def spIsWord : Sp := fun vs H Q _ => ∃ v k rows, ∃ u : List Ltr, vs = [v, .str (encW u)] ∧ MachH H v k rows ∧ rows.length ≤ 4 ∧ WOk rows.length u ∧ u.length ≤ 100 ∧ ∀ H', Same H H' → Q (.bl true) H'
theorem scIsWord : FnScope ["machine", "word", "allowed", "letter"] ["machine", "word"] (defScope (top 27)) := ⟨rfl, rfl, rfl, by decide +kernel, rfl, by decide +kernel, by decide +kernel⟩
theorem ok_isWord (D : Df K mg "is_word" "is_word" 27 ["machine", "word"]) (G : Gs mg) (LT : Cl P w K mg base 1 "letters_of" spLetters) : Cl P w K mg base 2 "is_word" spIsWord := by
  refine D.cl scIsWord (fun vs H Q E h => ?_) (fun f cdv A outer s H vs Q E hr h => ?_)
  · obtain ⟨v, k, rows, u, rfl, _⟩ := h
    rfl
  · obtain ⟨v, k, rows, u, rfl, M, h4, hw, hl, q⟩ := h
    refine ⟨_, pss_cons (ps_set (i := 2) scIsWord.nd rfl (Or.inr rfl) (pcl hr LT (pa_cons (pv 0) pa_nil)))
      (pss_one (ps_ret (pe_callB (cr_all rfl) (by rfl) G.all (by decide +kernel) (pa_cons
        (pe_lc (own := [("letter", 3)]) (g := gName 3) (tt := tYes) rfl scIsWord.nd (pi_str (pv 1)) (blkOk_by (N := ["machine", "word", "allowed", "letter"]) (sc := defScope (top 27)) (by decide +kernel))
          (fun _ _ _ _ _ => pgl 3 scIsWord.nd rfl rfl) (fun _ _ _ _ _ => pts_nil) (fun _ _ _ _ _ => pe_cmpR op_in_sign (pv 3) (pv 2) rfl)) pa_nil)))), ?_⟩
    refine ⟨_, rfl, v, k, rows, rfl, M, ?_⟩
    refine ⟨_, rfl, encW u, rfl, fun L nL => ?_⟩
    refine lc_it walk_str (fun i H' => Same H H' ∧ H' L = some (.lst ((List.replicate i true).map V.bl))) ⟨same_upd nL, upd_same⟩ (fun _ _ _ _ => trivial) ?_ ?_
    · rintro i x H1 H2 hi ⟨s1, e1⟩ ⟨rfl, c, hc, rfl⟩
      obtain ⟨l, hl', rfl⟩ := encW_get hc
      rw [encW_size] at hi
      have hlm : l.2 < rows.length := hw l (List.mem_of_getElem? hl')
      have hb : decide (codeL l ∈ (lettersOf rows.length).cps.toList) = true := by
        obtain ⟨b, s⟩ := l
        have := letters_has rows.length (by omega) s hlm
        cases b
        · exact this.1
        · exact this.2
      refine ⟨rfl, ?_⟩
      refine ⟨_, rfl, _, rfl, codeL l, _, rfl, rfl, ?_⟩
      rw [hb]
      refine ⟨_, e1, ?_, same_put s1 nL, ?_⟩
      · rw [List.length_map, List.length_replicate]
        exact lt_line (by omega)
      · rw [upd_same, List.replicate_succ', List.map_append]
        rfl
    · rintro H1 ⟨s1, e1⟩
      refine ⟨L, _, rfl, SqL.of e1, ?_⟩
      rw [all_rep]
      exact q H1 s1

/-! ### _is_row, is_wide, is_machine, check_machine -/
theorem range_up (k : Nat) : ((List.range k).map fun i => ((i : Nat) : Int)).Pairwise (· ≤ ·) := by
  rw [List.pairwise_map]
  exact List.pairwise_lt_range.imp fun h => by omega
def spIsRow : Sp := fun vs H Q _ => ∃ v r, ∃ k n : Nat, vs = [v, .int (k : Nat), .int (n : Nat)] ∧ RowH H v r ∧ RowOk k n r ∧ k ≤ 4 ∧ ∀ H', Same H H' → Q (.bl true) H'
theorem scIsRow : FnScope ["row", "k", "count", "out", "_", "following"] ["row", "k", "count"] (defScope (top 13)) := ⟨rfl, rfl, rfl, by decide +kernel, rfl, by decide +kernel, by decide +kernel⟩
theorem ok_isRow (D : Df K mg "_is_row" "_is_row" 13 ["row", "k", "count"]) (G : Gs mg) : Cl P w K mg base 1 "_is_row" spIsRow := by
  refine D.cl scIsRow (fun vs H Q E h => ?_) (fun f cdv A outer s H vs Q E hr h => ?_)
  · obtain ⟨v, r, k, n, rfl, _⟩ := h
    rfl
  · obtain ⟨v, r, k, n, rfl, ⟨a, ts, rfl, ha, hp⟩, R, hk, q⟩ := h
    have hlen : ts.length = k := by rw [Paired.len hp, R.len]
    have hT : SqT K H a ts := SqT.of ha
    refine ⟨_, pss_cons (ps_if (PW.pt (pw_or (pt_cmpR op_ne (pe_callB call_len_seq (by rfl) G.len PySem.boot_len (pa_cons (pv 0) pa_nil)) (pv 1) (nomark _))
        (pw_or1 (pt_cmpR (op_neD hr.units)
          (pe_callB cr_sorted (by rfl) G.sorted (by decide +kernel) (pa_cons
            (pe_lc (own := [("out", 3), ("_", 4)]) (g := gTup K 2 (gCons (gName 3) (gCons (gName 4) gNil))) (tt := tYes) rfl scIsRow.nd (pi_tup (pv 0)) (blkOk_by (N := ["row", "k", "count", "out", "_", "following"]) (sc := defScope (top 13)) (by decide +kernel))
              (fun _ _ _ _ _ => pg_tup rfl (pgs_cons (pgl 3 scIsRow.nd rfl rfl) (pgs_cons (pgl 4 scIsRow.nd rfl rfl) pgs_nil))) (fun _ _ _ _ _ => pts_nil) (fun _ _ _ _ _ => pv 3)) pa_nil))
          (pe_listRg rfl (by rfl) G.list (prg_1 (by rfl) G.range (pv 1))) (nomark _))))) (pss_one ps_never) pss_nil)
      (pss_one (ps_ret (pe_callB (cr_all rfl) (by rfl) G.all (by decide +kernel) (pa_cons
        (pe_lc (own := [("_", 4), ("following", 5)]) (g := gTup K 2 (gCons (gName 4) (gCons (gName 5) gNil))) (tt := tYes) rfl scIsRow.nd (pi_tup (pv 0)) (blkOk_by (N := ["row", "k", "count", "out", "_", "following"]) (sc := defScope (top 13)) (by decide +kernel))
          (fun _ _ _ _ _ => pg_tup rfl (pgs_cons (pgl 4 scIsRow.nd rfl rfl) (pgs_cons (pgl 5 scIsRow.nd rfl rfl) pgs_nil))) (fun _ _ _ _ _ => pts_nil)
          (fun _ _ _ _ _ => pe_chain op_le op_lt pe_int (pv 5) (pv 2))) pa_nil)))), ?_⟩
    -- len(row) != k
    refine ⟨_, rfl, a, ts, rfl, .inr hT, _, rfl, rfl, _, rfl, ?_⟩
    refine iteNS (by rw [hlen]) ?_
    -- sorted([out for out, _ in row])
    refine ⟨_, rfl, a, rfl, ⟨ts, hT⟩, fun L nL => ?_⟩
    refine lc_tup (K := K) (a := a) (xs := ts) (fun i H' => Same H H' ∧ H' L = some (.lst (((r.take i).map fun e => (e.1 : Int)).map V.int))) ⟨same_upd nL, upd_same⟩ (fun i H1 _ hv => SqT.of (hv.1 _ _ ha)) ?_ ?_
    · rintro i x H1 hx ⟨s1, e1⟩
      obtain ⟨e, he, ea, rfl, hea⟩ := Paired.at hp hx
      refine ⟨ea, _, rfl, SqT.of (s1 _ _ hea), rfl, _, _, rfl, _, _, rfl, rfl, rfl, ?_⟩
      refine ⟨_, rfl, _, e1, ?_, same_put s1 nL, ?_⟩
      · have hi := (List.getElem?_eq_some_iff.mp he).1
        have := R.len
        rw [List.length_map, List.length_map, List.length_take]
        exact lt_line (by omega)
      · rw [upd_same, List.take_add_one, he]
        simp
    · rintro H1 ⟨s1, e1⟩
      have et : r.take ts.length = r := List.take_of_length_le (by rw [Paired.len hp]; exact Nat.le_refl _)
      rw [et] at e1
      refine ⟨L, _, rfl, SqL.of e1, ?_, fun ns p hperm hup np => ?_⟩
      · rw [List.length_map, R.len]
        omega
      -- list(range(k))
      refine ⟨_, rfl, k, rfl, RgOk.of_le (by omega) (by omega) (by omega) (by omega), fun L2 nL2 => ?_⟩
      have ens : ns = (List.range k).map fun i => ((i : Nat) : Int) := by
        refine PySem.W.ksm_same (hperm.trans ?_) hup (range_up k)
        have := R.outs.map fun i => ((i : Nat) : Int)
        rw [List.map_map] at this
        exact this
      have erg : rgV 0 k = ns.map V.int := by
        rw [ens]
        unfold rgV
        rw [List.map_map, show ((k : Int) - 0).toNat = k by omega]
        refine List.map_congr_left fun i _ => ?_
        show V.int (0 + (i : Int)) = V.int (i : Int)
        rw [Int.zero_add]
      have nep : p ≠ L2 := fun e => by
        rw [← e, upd_same] at nL2
        cases nL2
      have hp1 : upd (upd H1 p (.lst (ns.map V.int))) L2 (.lst (rgV 0 k)) p = some (.lst (ns.map V.int)) := by rw [upd_ne nep, upd_same]
      refine ⟨.list (ns.map PyData.int), .list (ns.map PyData.int), .lst (SqL.of hp1) (dpInts ns), .lst (SqL.of (by rw [upd_same, erg])) (dpInts ns), PySem.W.shaped_ints ns, PySem.W.shaped_ints ns, _, rfl, ?_⟩
      rw [PySem.SeqAt.eqv_refl _ (Bool.and_eq_true_iff.mp (PySem.W.shaped_ints ns)).1]
      refine iteF ?_
      have s2 : Same H (upd (upd H1 p (.lst (ns.map V.int))) L2 (.lst (rgV 0 k))) := same_new (same_new s1 np) nL2
      generalize upd (upd H1 p (.lst (ns.map V.int))) L2 (.lst (rgV 0 k)) = H2 at s2
      -- all([..])
      refine ⟨_, rfl, a, rfl, ⟨ts, SqT.of (s2 _ _ ha)⟩, fun L nL => ?_⟩
      refine lc_tup (K := K) (a := a) (xs := ts) (fun i H' => Same H2 H' ∧ H' L = some (.lst ((List.replicate i true).map V.bl))) ⟨same_upd nL, upd_same⟩ (fun i H1 _ hv => SqT.of (hv.1 _ _ (s2 _ _ ha))) ?_ ?_
      · rintro i x H1 hx ⟨s1, e1⟩
        obtain ⟨e, he, ea, rfl, hea⟩ := Paired.at hp hx
        have hn : e.2 < n := R.nxt e (List.mem_of_getElem? he)
        refine ⟨ea, _, rfl, SqT.of (s1 _ _ (s2 _ _ hea)), rfl, _, _, rfl, _, _, rfl, rfl, rfl, ?_⟩
        refine ⟨_, rfl, _, _, rfl, rfl, _, rfl, ?_⟩
        refine iteDT (by omega) ?_
        refine ⟨_, rfl, _, _, rfl, rfl, _, e1, ?_, same_put s1 nL, ?_⟩
        · have hi := (List.getElem?_eq_some_iff.mp he).1
          have := R.len
          rw [List.length_map, List.length_replicate]
          exact lt_line (by omega)
        · rw [upd_same, List.replicate_succ', List.map_append]
          show some (HO.lst (_ ++ [V.bl (decide ((e.2 : Int) < n))])) = _
          rw [decide_eq_true (show (e.2 : Int) < n by omega)]
          rfl
      · rintro H3 ⟨s3, e3⟩
        refine ⟨L, _, rfl, SqL.of e3, ?_⟩
        rw [all_rep]
        exact q H3 (s2.trans s3)

theorem MOk.rows_le {k : Nat} {rows : Rows} (M : MOk k rows) : rows.length ≤ 4 := M.n4
def spMach : Sp := fun vs H Q _ => ∃ v k rows, vs = [v] ∧ MachH H v k rows ∧ MOk k rows ∧ ∀ H', Same H H' → Q (.bl true) H'
theorem scWide : FnScope ["machine", "k", "rows", "row"] ["machine"] (defScope (top 14)) := ⟨rfl, rfl, rfl, by decide +kernel, rfl, by decide +kernel, by decide +kernel⟩
theorem ok_wide (D : Df K mg "is_wide" "is_wide" 14 ["machine"]) (G : Gs mg) (IR : Cl P w K mg base 1 "_is_row" spIsRow) : Cl P w K mg base 2 "is_wide" spMach := by
  refine D.cl scWide (fun vs H Q E h => ?_) (fun f cdv A outer s H vs Q E hr h => ?_)
  · obtain ⟨v, k, rows, rfl, _⟩ := h
    rfl
  · obtain ⟨v, k, rows, rfl, M, ok, q⟩ := h
    obtain ⟨a, ra, ts, rfl, ha, hra, hp⟩ := id M
    have hlen := Paired.len hp
    have hT : SqT K H ra ts := SqT.of hra
    have n1 := ok.n1
    have n4 := ok.n4
    have k2 := ok.k2
    have k4 := ok.k4
    refine ⟨_, pss_cons (ps_asg (pv 0) (pg_tup rfl (pgs_cons (pgc 1 scWide.nd rfl rfl rfl) (pgs_cons (pgc 2 scWide.nd rfl rfl rfl) pgs_nil))))
      (pss_cons (ps_if (PW.pt (pw_or (pt_not (pt_chain op_le op_le (C8.pe_gc (by rfl) G.LEAST_DIGITS) (pv 1) (C8.pe_gc (by rfl) G.MOST_DIGITS)))
          (pw_or1 (pt_not (pt_chain op_le op_le pe_int (pe_callB call_len_seq (by rfl) G.len PySem.boot_len (pa_cons (pv 2) pa_nil)) (C8.pe_gc (by rfl) G.MOST_WIDE)))))) (pss_one ps_never) pss_nil)
      (pss_one (ps_ret (pe_callB (cr_all rfl) (by rfl) G.all (by decide +kernel) (pa_cons
        (pe_lc (own := [("row", 3)]) (g := gName 3) (tt := tYes) rfl scWide.nd (pi_tup (pv 2)) (blkOk_by (N := ["machine", "k", "rows", "row"]) (sc := defScope (top 14)) (by decide +kernel))
          (fun _ _ _ _ _ => pgl 3 scWide.nd rfl rfl) (fun _ _ _ _ _ => pts_nil)
          (fun _ _ _ _ _ => pcl hr IR (pa_cons (pv 3) (pa_cons (pv 1) (pa_cons (pe_callB (lenK K) (by rfl) G.len PySem.boot_len (pa_cons (pv 2) pa_nil)) pa_nil))))) pa_nil))))), ?_⟩
    -- k, rows = machine
    refine ⟨_, rfl, a, _, rfl, SqT.of ha, rfl, _, _, rfl, _, _, rfl, rfl, ?_⟩
    -- the bounds
    refine ⟨_, rfl, _, _, rfl, rfl, _, rfl, ?_⟩
    refine iteDT (by omega) ?_
    refine ⟨_, _, rfl, rfl, _, rfl, ?_⟩
    refine iteNS (by omega) ?_
    refine ⟨_, rfl, ra, ts, rfl, .inr hT, _, _, rfl, rfl, _, rfl, ?_⟩
    refine iteDT (by omega) ?_
    refine ⟨_, _, rfl, rfl, _, rfl, ?_⟩
    refine iteNS (by omega) ?_
    -- all(..)
    refine ⟨_, rfl, ra, rfl, ⟨ts, hT⟩, fun L nL => ?_⟩
    refine lc_tup (K := K) (a := ra) (xs := ts) (fun i H' => Same H H' ∧ H' L = some (.lst ((List.replicate i true).map V.bl))) ⟨same_upd nL, upd_same⟩ (fun i H1 _ hv => SqT.of (hv.1 _ _ hra)) ?_ ?_
    · rintro i x H1 hx ⟨s1, e1⟩
      obtain ⟨r, hr', hrow⟩ := Paired.at hp hx
      refine ⟨rfl, ?_⟩
      refine ⟨_, rfl, _, rfl, _, rfl, ra, ts, rfl, .inr (SqT.of (s1 _ _ hra)), ?_⟩
      refine ⟨_, r, k, ts.length, rfl, hrow.same s1, ?_, k4, fun H2 s2 => ?_⟩
      · rw [hlen]
        exact ok.row r (List.mem_of_getElem? hr')
      · refine ⟨_, s2 _ _ e1, ?_, same_put (s1.trans s2) nL, ?_⟩
        · have hi := (List.getElem?_eq_some_iff.mp hx).1
          rw [List.length_map, List.length_replicate]
          exact lt_line (by omega)
        · rw [upd_same, List.replicate_succ', List.map_append]
          rfl
    · rintro H3 ⟨s3, e3⟩
      refine ⟨L, _, rfl, SqL.of e3, ?_⟩
      rw [all_rep]
      exact q H3 s3
theorem scMachine : FnScope ["machine"] ["machine"] (defScope (top 15)) := ⟨rfl, rfl, rfl, by decide +kernel, rfl, by decide +kernel, by decide +kernel⟩
theorem ok_machine (D : Df K mg "is_machine" "is_machine" 15 ["machine"]) (G : Gs mg) (IW : Cl P w K mg base 2 "is_wide" spMach) : Cl P w K mg base 3 "is_machine" spMach := by
  refine D.cl scMachine (fun vs H Q E h => ?_) (fun f cdv A outer s H vs Q E hr h => ?_)
  · obtain ⟨v, k, rows, rfl, _⟩ := h
    rfl
  · obtain ⟨v, k, rows, rfl, M, ok, q⟩ := h
    obtain ⟨a, ra, ts, rfl, ha, hra, hl, hp⟩ := M.one (K := K)
    have n4 := ok.n4
    refine ⟨_, pss_one (ps_ret (pe_and (pe_cmpR op_le (pe_callB call_len_seq (by rfl) G.len PySem.boot_len (pa_cons (pe_ix ix_tup (pv 0) pe_int (fun _ _ => rfl)) pa_nil)) (C8.pe_gc (by rfl) G.MOST_STATES) (nomark _))
      (pe_one (pcl hr IW (pa_cons (pv 0) pa_nil))))), ?_⟩
    refine ⟨_, rfl, a, _, 1, .ref ra, rfl, rfl, ha, rfl, ra, ts, rfl, .inr hra, _, _, rfl, rfl, _, rfl, ?_⟩
    refine iteDT (by omega) ?_
    exact ⟨_, rfl, _, k, rows, rfl, M, ok, q⟩
def spCheckM : Sp := fun vs H Q _ => ∃ v k rows, vs = [v] ∧ MachH H v k rows ∧ MOk k rows ∧ ∀ H', Same H H' → Q .non H'
theorem scCheckM : FnScope ["machine"] ["machine"] (defScope (top 16)) := ⟨rfl, rfl, rfl, by decide +kernel, rfl, by decide +kernel, by decide +kernel⟩
theorem ok_checkM (D : Df K mg "check_machine" "check_machine" 16 ["machine"]) (IM : Cl P w K mg base 3 "is_machine" spMach) : Cl P w K mg base 4 "check_machine" spCheckM := by
  refine D.cl scCheckM (fun vs H Q E h => ?_) (fun f cdv A outer s H vs Q E hr h => ?_)
  · obtain ⟨v, k, rows, rfl, _⟩ := h
    rfl
  · obtain ⟨v, k, rows, rfl, M, ok, q⟩ := h
    refine ⟨_, pss_one (ps_if (pt_not (pt_val (pcl hr IM (pa_cons (pv 0) pa_nil)))) (pss_one ps_never) pss_nil), ?_⟩
    refine ⟨_, rfl, v, k, rows, rfl, M, ok, fun H' s' => ⟨_, rfl, ?_⟩⟩
    exact q H' s'

/-! ### strings -/
def spHasD : Sp := fun vs H Q _ => ∃ (k : Nat) (u : List Nat), vs = [.int (k : Nat), .str (encD u)] ∧ k ≤ 4 ∧ UOk k u ∧ u.length ≤ 60 ∧ ∀ H', Same H H' → Q (.bl true) H'
theorem scHasD : FnScope ["k", "string", "digit"] ["k", "string"] (defScope (top 17)) := ⟨rfl, rfl, rfl, by decide +kernel, rfl, by decide +kernel, by decide +kernel⟩
theorem ok_hasD (D : Df K mg "has_digits" "has_digits" 17 ["k", "string"]) (G : Gs mg) : Cl P w K mg base 1 "has_digits" spHasD := by
  refine D.cl scHasD (fun vs H Q E h => ?_) (fun f cdv A outer s H vs Q E hr h => ?_)
  · obtain ⟨k, u, rfl, _⟩ := h
    rfl
  · obtain ⟨k, u, rfl, k4, hu, hl, q⟩ := h
    refine ⟨_, pss_one (ps_ret (pe_and (pe_cmpR op_le (pe_callB call_len_str (by rfl) G.len PySem.boot_len (pa_cons (pv 1) pa_nil)) (C8.pe_gc (by rfl) G.MOST_LENGTH) (nomark _))
      (pe_one (pe_callB (cr_all rfl) (by rfl) G.all (by decide +kernel) (pa_cons
        (pe_lc (own := [("digit", 2)]) (g := gName 2) (tt := tYes) rfl scHasD.nd (pi_str (pv 1)) (blkOk_by (N := ["k", "string", "digit"]) (sc := defScope (top 17)) (by decide +kernel))
          (fun _ _ _ _ _ => pgl 2 scHasD.nd rfl rfl) (fun _ _ _ _ _ => pts_nil)
          (fun _ _ _ _ _ => pe_cmpR op_in_sign (pv 2) (pe_slice sl_str (C8.pe_gc (by rfl) G.DIGITS) po_none (po_some (pv 0))) rfl)) pa_nil))))), ?_⟩
    refine ⟨_, rfl, encD u, rfl, by rw [encD_len]; exact le_line (by omega), _, _, rfl, rfl, _, rfl, ?_⟩
    refine iteDT (by rw [encD_len]; omega) ?_
    refine ⟨_, rfl, encD u, rfl, fun L nL => ?_⟩
    refine lc_it walk_str (fun i H' => Same H H' ∧ H' L = some (.lst ((List.replicate i true).map V.bl))) ⟨same_upd nL, upd_same⟩ (fun _ _ _ _ => trivial) ?_ ?_
    · rintro i x H1 H2 hi ⟨s1, e1⟩ ⟨rfl, c, hc, rfl⟩
      obtain ⟨d, hd, rfl⟩ := encD_get hc
      rw [encD_size] at hi
      have hdk : d < k := hu d (List.mem_of_getElem? hd)
      refine ⟨rfl, ?_⟩
      refine ⟨_, rfl, _, rfl, _, rfl, zDigits, rfl, zlen.2.2.2.1, codeD d, digitsOf k, rfl, rfl, ?_⟩
      rw [digits_has k (by omega) d hdk]
      refine ⟨_, e1, ?_, same_put s1 nL, ?_⟩
      · rw [List.length_map, List.length_replicate]
        exact lt_line (by omega)
      · rw [upd_same, List.replicate_succ', List.map_append]
        rfl
    · rintro H1 ⟨s1, e1⟩
      refine ⟨L, _, rfl, SqL.of e1, ?_⟩
      rw [all_rep]
      exact q H1 s1
def spCheckD : Sp := fun vs H Q _ => ∃ (k : Nat) (u : List Nat), vs = [.int (k : Nat), .str (encD u)] ∧ k ≤ 4 ∧ UOk k u ∧ u.length ≤ 60 ∧ ∀ H', Same H H' → Q .non H'
theorem scCheckD : FnScope ["k", "string"] ["k", "string"] (defScope (top 18)) := ⟨rfl, rfl, rfl, by decide +kernel, rfl, by decide +kernel, by decide +kernel⟩
theorem ok_checkD (D : Df K mg "check_string" "check_string_machines" 18 ["k", "string"]) (HD : Cl P w K mg base 1 "has_digits" spHasD) : Cl P w K mg base 2 "check_string_machines" spCheckD := by
  refine D.cl scCheckD (fun vs H Q E h => ?_) (fun f cdv A outer s H vs Q E hr h => ?_)
  · obtain ⟨k, u, rfl, _⟩ := h
    rfl
  · obtain ⟨k, u, rfl, k4, hu, hl, q⟩ := h
    refine ⟨_, pss_one (ps_if (pt_not (pt_val (pcl hr HD (pa_cons (pv 0) (pa_cons (pv 1) pa_nil))))) (pss_one ps_never) pss_nil), ?_⟩
    refine ⟨_, rfl, _, rfl, k, u, rfl, k4, hu, hl, fun H' s' => ⟨_, rfl, ?_⟩⟩
    exact q H' s'
def spCheckS : Sp := fun vs H Q _ => ∃ v k rows, ∃ u : List Nat, vs = [v, .str (encD u)] ∧ MachH H v k rows ∧ k ≤ 4 ∧ UOk k u ∧ u.length ≤ 60 ∧ ∀ H', Same H H' → Q .non H'
theorem scCheckS : FnScope ["machine", "string"] ["machine", "string"] (defScope (top 36)) := ⟨rfl, rfl, rfl, by decide +kernel, rfl, by decide +kernel, by decide +kernel⟩
theorem ok_checkS (D : Df K mg "check_string" "check_string_sections" 36 ["machine", "string"]) (CD : Cl P w K mg base 2 "check_string_machines" spCheckD) : Cl P w K mg base 3 "check_string_sections" spCheckS := by
  refine D.cl scCheckS (fun vs H Q E h => ?_) (fun f cdv A outer s H vs Q E hr h => ?_)
  · obtain ⟨v, k, rows, u, rfl, _⟩ := h
    rfl
  · obtain ⟨v, k, rows, u, rfl, M, k4, hu, hl, q⟩ := h
    obtain ⟨a, ra, ts, rfl, ha, hra, _, _⟩ := M.one (K := K)
    refine ⟨_, pss_one (ps_expr (pcl hr CD (pa_cons (pe_ix ix_tup (pv 0) pe_int (fun _ _ => rfl)) (pa_cons (pv 1) pa_nil)))), ?_⟩
    exact ⟨_, rfl, a, _, 0, .int (k : Nat), rfl, rfl, ha, rfl, _, rfl, k, u, rfl, k4, hu, hl, q⟩

/-! ### words checked -/
def spCheckW : Sp := fun vs H Q _ => ∃ v k rows, ∃ u : List Ltr, vs = [v, .str (encW u)] ∧ MachH H v k rows ∧ MOk k rows ∧ WOk rows.length u ∧ u.length ≤ 60 ∧ ∀ H', Same H H' → Q .non H'
theorem scRefuse : FnScope ["machine", "word"] ["machine", "word"] (defScope (top 30)) := ⟨rfl, rfl, rfl, by decide +kernel, rfl, by decide +kernel, by decide +kernel⟩
theorem ok_refuse (D : Df K mg "refuse_word" "refuse_word" 30 ["machine", "word"]) (G : Gs mg) (IW : Cl P w K mg base 2 "is_word" spIsWord) : Cl P w K mg base 3 "refuse_word" spCheckW := by
  refine D.cl scRefuse (fun vs H Q E h => ?_) (fun f cdv A outer s H vs Q E hr h => ?_)
  · obtain ⟨v, k, rows, u, rfl, _⟩ := h
    rfl
  · obtain ⟨v, k, rows, u, rfl, M, ok, hw, hl, q⟩ := h
    refine ⟨_, pss_one (ps_if (PW.pt (pw_or (pt_cmpR op_gt (pe_callB call_len_str (by rfl) G.len PySem.boot_len (pa_cons (pv 1) pa_nil)) (C8.pe_gc (by rfl) G.LONGEST) (nomark _))
      (pw_or1 (pt_not (pt_val (pcl hr IW (pa_cons (pv 0) (pa_cons (pv 1) pa_nil)))))))) (pss_one ps_never) pss_nil), ?_⟩
    refine ⟨_, rfl, encW u, rfl, by rw [encW_len]; exact le_line (by omega), _, _, rfl, rfl, _, rfl, ?_⟩
    refine iteDF (by rw [encW_len]; omega) ?_
    refine ⟨_, rfl, _, rfl, v, k, rows, u, rfl, M, ok.n4, hw, by omega, fun H' s' => ⟨_, rfl, ?_⟩⟩
    exact q H' s'
theorem scCheckW : FnScope ["machine", "word"] ["machine", "word"] (defScope (top 31)) := ⟨rfl, rfl, rfl, by decide +kernel, rfl, by decide +kernel, by decide +kernel⟩
theorem ok_checkW (D : Df K mg "check_word" "check_word" 31 ["machine", "word"]) (CM : Cl P w K mg base 4 "check_machine" spCheckM) (RW : Cl P w K mg base 3 "refuse_word" spCheckW) : Cl P w K mg base 5 "check_word" spCheckW := by
  refine D.cl scCheckW (fun vs H Q E h => ?_) (fun f cdv A outer s H vs Q E hr h => ?_)
  · obtain ⟨v, k, rows, u, rfl, _⟩ := h
    rfl
  · obtain ⟨v, k, rows, u, rfl, M, ok, hw, hl, q⟩ := h
    refine ⟨_, pss_cons (ps_expr (pcl hr CM (pa_cons (pv 0) pa_nil))) (pss_one (ps_expr (pcl hr RW (pa_cons (pv 0) (pa_cons (pv 1) pa_nil))))), ?_⟩
    exact ⟨_, rfl, v, k, rows, rfl, M, ok, fun H1 s1 => ⟨_, rfl, _, rfl, v, k, rows, u, rfl, M.same s1, ok, hw, hl, fun H2 s2 => q H2 (s1.trans s2)⟩⟩
end
end Lf

/-! Cutting and undoing words. -/
namespace Lf
open PySem PySem.Spec PyProof.Rows L2
section
variable {P : Program} {w : World} {K : PySem.W.Frag} {mg : Str → Option Value} {base : Heap}
/-- the letters of a word as texts -/
def ltrs (u : List Ltr) : List V := u.map fun l => V.str (encW [l])
theorem ltrs_len (u : List Ltr) : (ltrs u).length = u.length := List.length_map _
theorem ltrs_snoc (u : List Ltr) (l : Ltr) : ltrs (u ++ [l]) = ltrs u ++ [.str (encW [l])] := by
  unfold ltrs
  rw [List.map_append]
  rfl
theorem ltrs_strs (u : List Ltr) : ltrs u = (u.map fun l => encW [l]).map V.str := joinW_map u
theorem fold_take {w : List Ltr} {i : Nat} {l : Ltr} (h : w[i]? = some l) (st : List Ltr) : (w.take (i + 1)).foldl push st = push ((w.take i).foldl push st) l := by
  rw [List.take_add_one, h, List.foldl_append]
  rfl
theorem mem_take {α : Type} {w : List α} {i : Nat} {x : α} (h : x ∈ w.take i) : x ∈ w := List.mem_of_mem_take h

/-! ### cut -/
def spCut : Sp := fun vs H Q _ => ∃ u : List Ltr, vs = [.str (encW u)] ∧ WOk 4 u ∧ u.length ≤ 100 ∧ ∀ H', Same H H' → Q (.str (encW (cutW u))) H'
theorem scCut : FnScope ["word", "kept", "letter"] ["word"] (defScope (top 28)) := ⟨rfl, rfl, rfl, by decide +kernel, rfl, by decide +kernel, by decide +kernel⟩
theorem ok_cut (D : Df K mg "cut" "cut" 28 ["word"]) (G : Gs mg) (OT : Cl P w K mg base 1 "other" spOther) : Cl P w K mg base 2 "cut" spCut := by
  refine D.cl scCut (fun vs H Q E h => ?_) (fun f cdv A outer s H vs Q E hr h => ?_)
  · obtain ⟨u, rfl, _⟩ := h
    rfl
  · obtain ⟨u, rfl, hw, hl, q⟩ := h
    refine ⟨_, pss_cons (ps_set (i := 1) scCut.nd rfl (Or.inl rfl) (pe_lst pa_nil))
      (pss_cons (ps_for PassesOwn.never rfl (pi_str (pv 0)) (pgl 2 scCut.nd rfl rfl)
        (pss_one (ps_if (PW.pt (pw_and (pt_truth (pv 1) (by intro _; rfl)) (pw_and1 (pt_cmpR op_eq (pe_ix ix_list (pv 1) (pe_un un_neg pe_int) (fun _ _ => rfl)) (pcl hr OT (pa_cons (pv 2) pa_nil)) (nomark _)))))
          (pss_one (ps_expr (pe_bm0 PySem.F.plainAttrs_list PySem.F.slot_list_pop PySem.F.type_list_pop mt_pop (pv 1))))
          (pss_one (ps_expr (pe_bm PySem.F.plainAttrs_list PySem.F.slot_list_append PySem.F.type_list_append mt_append (pv 1) (pa_cons (pv 2) pa_nil)))))))
      (pss_one (ps_ret (pe_join pe_str (pv 1))))), ?_⟩
    refine ⟨Nat.zero_le _, fun L nL => ?_⟩
    refine ⟨_, rfl, encW u, rfl, ?_⟩
    refine for_it walk_str (fun i σ H' => ∃ v2, σ = [some (.str (encW u)), some (.ref L), v2] ∧ Same H H' ∧ H' L = some (.lst (ltrs ((u.take i).foldl push []).reverse)))
      ⟨none, rfl, same_upd nL, upd_same⟩ (fun _ _ _ _ _ => trivial) ?_ ?_
    · rintro i x σ H1 H2 hi ⟨v2, rfl, s1, e1⟩ ⟨rfl, c, hc, rfl⟩
      obtain ⟨l, hlt, rfl⟩ := encW_get hc
      rw [encW_size] at hi
      have hl4 : l.2 < 4 := hw l (List.mem_of_getElem? hlt)
      have ft := fold_take hlt []
      have hfl := fold_len (u.take i) []
      have hst : WOk 4 ((u.take i).foldl push []) := fun x hx => by
        rcases mem_fold (u.take i) hx with q | q
        · exact nomatch q
        · exact hw x (mem_take q)
      rw [List.length_take, List.length_nil] at hfl
      -- letters kept, and one more
      have app : (∀ t r, (u.take i).foldl push [] = t :: r → ¬ t = flip l) → ∃ v2, [some (V.str (encW u)), some (V.ref L), some (V.str (encW [l]))] = [some (V.str (encW u)), some (V.ref L), v2] ∧ Same H (upd H2 L (.lst (ltrs ((u.take i).foldl push []).reverse ++ [.str (encW [l])]))) ∧
          upd H2 L (.lst (ltrs ((u.take i).foldl push []).reverse ++ [.str (encW [l])])) L = some (.lst (ltrs ((u.take (i + 1)).foldl push []).reverse)) := fun hne => by
        refine ⟨_, rfl, same_put s1 nL, ?_⟩
        rw [upd_same, ft]
        have e : push ((u.take i).foldl push []) l = l :: (u.take i).foldl push [] := by
          cases e : (u.take i).foldl push [] with
          | nil => rfl
          | cons t r => exact push_ne (hne t r e)
        rw [e, List.reverse_cons, ltrs_snoc]
      cases est : (u.take i).foldl push [] with
      | nil =>
        rw [est] at e1
        refine ⟨_, rfl, false, .inl ⟨_, SqL.of e1, rfl⟩, ?_⟩
        refine iteF ?_
        refine iteF ?_
        refine ⟨_, rfl, .inl ⟨rfl, _, SqL.of e1⟩, _, rfl, L, _, _, rfl, rfl, e1, by decide, ?_⟩
        have := app (fun t r e => by rw [est] at e; cases e)
        rw [est] at this
        exact this
      | cons t r =>
        have e1' := e1
        rw [est, List.reverse_cons, ltrs_snoc] at e1
        rw [est] at hfl hst
        rw [List.length_cons] at hfl
        have ht4 : t.2 < 4 := hst t (List.mem_cons_self ..)
        refine ⟨_, rfl, true, .inl ⟨_, SqL.of e1, ?_⟩, ?_⟩
        · cases ltrs r.reverse <;> rfl
        refine iteT ?_
        refine ⟨_, rfl, 1, rfl, L, _, -1, _, rfl, rfl, SqL.of e1, atI_last _ _, _, rfl, l, rfl, hl4, rfl, _, rfl, ?_⟩
        by_cases e : t = flip l
        · refine iteDT (by rw [e]) ?_
          refine ⟨_, rfl, .inl ⟨rfl, _, SqL.of e1⟩, L, _, V.str (encW [t]), rfl, rfl, e1, ?_, ?_⟩
          · rw [List.length_append]
            show (ltrs r.reverse ++ [V.str (encW [t])])[(ltrs r.reverse).length + 1 - 1]? = _
            rw [Nat.add_sub_cancel, List.getElem?_append_right (Nat.le_refl _), Nat.sub_self]
            rfl
          · refine ⟨_, rfl, same_put s1 nL, ?_⟩
            rw [upd_same, List.dropLast_concat, ft, est, push_eq e]
        · refine iteDF (fun z => e (encW1_inj (by omega) (by show l.2 < 26; omega) (V.str.inj z))) ?_
          have h1 := app (fun t' r' e' => by rw [est] at e'; obtain ⟨rfl, rfl⟩ := List.cons.inj e'; exact e)
          refine ⟨_, rfl, .inl ⟨rfl, _, SqL.of e1'⟩, _, rfl, L, _, _, rfl, rfl, e1', ?_, h1⟩
          rw [est, ltrs_len, List.length_reverse, List.length_cons]
          exact lt_line (by omega)
    · rintro σ H1 ⟨v2, rfl, s1, e1⟩
      have et : u.take (encW u).cps.size = u := List.take_of_length_le (by rw [encW_size]; exact Nat.le_refl _)
      rw [et] at e1
      have e2 : H1 L = some (.lst (ltrs (cutW u))) := e1
      have hc := cut_len u
      refine ⟨⟨_, rfl⟩, _, rfl, _, L, _, rfl, rfl, .inl (SqL.of (by rw [e2, ltrs_strs])), joinW_fit (by omega), ?_⟩
      rw [joinW]
      exact q H1 s1

/-! ### undone -/
def spUndone : Sp := fun vs H Q _ => ∃ u : List Ltr, vs = [.str (encW u)] ∧ WOk 4 u ∧ u.length ≤ 100 ∧ ∀ H', Same H H' → Q (.str (encW (undoW u))) H'
theorem scUndone : FnScope ["word", "letter"] ["word"] (defScope (top 29)) := ⟨rfl, rfl, rfl, by decide +kernel, rfl, by decide +kernel, by decide +kernel⟩
theorem ok_undone (D : Df K mg "undone" "undone" 29 ["word"]) (G : Gs mg) (OT : Cl P w K mg base 1 "other" spOther) : Cl P w K mg base 2 "undone" spUndone := by
  refine D.cl scUndone (fun vs H Q E h => ?_) (fun f cdv A outer s H vs Q E hr h => ?_)
  · obtain ⟨u, rfl, _⟩ := h
    rfl
  · obtain ⟨u, rfl, hw, hl, q⟩ := h
    refine ⟨_, pss_one (ps_ret (pe_join pe_str (pe_lc (own := [("letter", 1)]) (g := gName 1) (tt := tYes) rfl scUndone.nd (pi_str (pe_revS (pv 0))) (blkOk_by (N := ["word", "letter"]) (sc := defScope (top 29)) (by decide +kernel))
          (fun _ _ _ _ _ => pgl 1 scUndone.nd rfl rfl) (fun _ _ _ _ _ => pts_nil) (fun _ _ _ _ _ => pcl hr OT (pa_cons (pv 1) pa_nil))))), ?_⟩
    refine ⟨⟨_, rfl⟩, _, rfl, encW u, rfl, by rw [encW_len]; exact le_line (by omega), _, rfl, fun L nL => ?_⟩
    rw [revS_enc]
    refine lc_it walk_str (fun i H' => Same H H' ∧ H' L = some (.lst (ltrs ((u.reverse.take i).map flip)))) ⟨same_upd nL, upd_same⟩ (fun _ _ _ _ => trivial) ?_ ?_
    · rintro i x H1 H2 hi ⟨s1, e1⟩ ⟨rfl, c, hc, rfl⟩
      obtain ⟨l, hlt, rfl⟩ := encW_get hc
      have hl4 : l.2 < 4 := hw l (List.mem_reverse.mp (List.mem_of_getElem? hlt))
      refine ⟨rfl, ?_⟩
      refine ⟨_, rfl, l, rfl, hl4, _, e1, ?_, same_put s1 nL, ?_⟩
      · rw [ltrs_len, List.length_map, List.length_take, List.length_reverse]
        exact lt_line (by omega)
      · rw [upd_same, List.take_add_one, hlt, List.map_append]
        exact congrArg (fun z => some (HO.lst z)) (ltrs_snoc _ _).symm
    · rintro H1 ⟨s1, e1⟩
      have et : u.reverse.take (encW u.reverse).cps.size = u.reverse := List.take_of_length_le (by rw [encW_size]; exact Nat.le_refl _)
      have eu : u.reverse.map flip = undoW u := by
        unfold undoW
        rw [List.map_reverse]
      rw [et, eu] at e1
      have hc := undo_len u
      refine ⟨_, L, _, rfl, rfl, .inl (SqL.of (by rw [e1, ltrs_strs])), joinW_fit (by omega), ?_⟩
      rw [joinW]
      exact q H1 s1

/-! ### cut_word, undone_word -/
theorem WOk.up {n : Nat} {u : List Ltr} (h : WOk n u) (hn : n ≤ 4) : WOk 4 u := fun x hx => Nat.lt_of_lt_of_le (h x hx) hn
def spCutWord : Sp := fun vs H Q _ => ∃ v k rows, ∃ u : List Ltr, vs = [v, .str (encW u)] ∧ MachH H v k rows ∧ MOk k rows ∧ WOk rows.length u ∧ u.length ≤ 60 ∧ ∀ H', Same H H' → Q (.str (encW (cutW u))) H'
theorem scCutWord : FnScope ["machine", "word"] ["machine", "word"] (defScope (top 32)) := ⟨rfl, rfl, rfl, by decide +kernel, rfl, by decide +kernel, by decide +kernel⟩
theorem ok_cutWord (D : Df K mg "cut_word" "cut_word" 32 ["machine", "word"]) (CW : Cl P w K mg base 5 "check_word" spCheckW) (CT : Cl P w K mg base 2 "cut" spCut) : Cl P w K mg base 6 "cut_word" spCutWord := by
  refine D.cl scCutWord (fun vs H Q E h => ?_) (fun f cdv A outer s H vs Q E hr h => ?_)
  · obtain ⟨v, k, rows, u, rfl, _⟩ := h
    rfl
  · obtain ⟨v, k, rows, u, rfl, M, ok, hw, hl, q⟩ := h
    refine ⟨_, pss_cons (ps_expr (pcl hr CW (pa_cons (pv 0) (pa_cons (pv 1) pa_nil)))) (pss_one (ps_ret (pcl hr CT (pa_cons (pv 1) pa_nil)))), ?_⟩
    exact ⟨_, rfl, _, rfl, v, k, rows, u, rfl, M, ok, hw, hl, fun H1 s1 => ⟨_, rfl, u, rfl, hw.up ok.n4, by omega, fun H2 s2 => q H2 (s1.trans s2)⟩⟩
def spUndoneWord : Sp := fun vs H Q _ => ∃ v k rows, ∃ u : List Ltr, vs = [v, .str (encW u)] ∧ MachH H v k rows ∧ MOk k rows ∧ WOk rows.length u ∧ u.length ≤ 60 ∧ ∀ H', Same H H' → Q (.str (encW (undoW u))) H'
theorem scUndoneWord : FnScope ["machine", "word"] ["machine", "word"] (defScope (top 33)) := ⟨rfl, rfl, rfl, by decide +kernel, rfl, by decide +kernel, by decide +kernel⟩
theorem ok_undoneWord (D : Df K mg "undone_word" "undone_word" 33 ["machine", "word"]) (CW : Cl P w K mg base 5 "check_word" spCheckW) (UT : Cl P w K mg base 2 "undone" spUndone) : Cl P w K mg base 6 "undone_word" spUndoneWord := by
  refine D.cl scUndoneWord (fun vs H Q E h => ?_) (fun f cdv A outer s H vs Q E hr h => ?_)
  · obtain ⟨v, k, rows, u, rfl, _⟩ := h
    rfl
  · obtain ⟨v, k, rows, u, rfl, M, ok, hw, hl, q⟩ := h
    refine ⟨_, pss_cons (ps_expr (pcl hr CW (pa_cons (pv 0) (pa_cons (pv 1) pa_nil)))) (pss_one (ps_ret (pcl hr UT (pa_cons (pv 1) pa_nil)))), ?_⟩
    exact ⟨_, rfl, _, rfl, v, k, rows, u, rfl, M, ok, hw, hl, fun H1 s1 => ⟨_, rfl, u, rfl, hw.up ok.n4, by omega, fun H2 s2 => q H2 (s1.trans s2)⟩⟩
end
end Lf

/-! The Actor: its table, one step, the strings moved. -/
namespace Lf
open PySem PySem.Spec PyProof.Rows L2
theorem kst : ¬ (("size" : Str) = "table") := by decide +kernel
def aflds (k : Nat) (td : Addr) : List (Str × V) := putF "table" (.ref td) (putF "size" (.int (k : Nat)) [])
theorem aflds_size (k : Nat) (td : Addr) : (aflds k td).lookup ("size" : Str) = some (.int (k : Nat)) := by
  unfold aflds
  rw [lookup_putF, if_neg kst, lookup_putF, if_pos rfl]
theorem aflds_table (k : Nat) (td : Addr) : (aflds k td).lookup ("table" : Str) = some (.ref td) := by
  unfold aflds
  rw [lookup_putF, if_pos rfl]
theorem aflds_no (k : Nat) (td : Addr) {m : Str} (h1 : ¬ m = "table") (h2 : ¬ m = "size") : (aflds k td).lookup m = none := by
  unfold aflds
  rw [lookup_putF, if_neg h1, lookup_putF, if_neg h2]
  all_goals rfl
structure AcT (K : PySem.W.Frag) (mg : Str → Option Value) (C : Addr) : Prop where
  cl : Cls K C
  nS : NoAttr K C "size"
  nT : NoAttr K C "table"
  mgC : mg "Actor" = some (.ref C)
/-- what stands for one letter: a list with, for each digit, the digit that comes out and the next letter -/
def LetAt (H : Hp) (kvs : List (Key × V)) (k : Nat) (rows : Rows) (l : Ltr) : Prop :=
  ∃ b vs, valV kvs (Sum.inr (encW [l]) : Key) = some (.ref b) ∧ H b = some (.lst vs) ∧ ∀ d, d < k → ∃ t, vs[d]? = some (.ref t) ∧ H t = some (.tup [.int ((rd rows l d).1 : Nat), .str (encW [(rd rows l d).2])])
def ActAt (C : Addr) (H : Hp) (p : Addr) (k : Nat) (rows : Rows) : Prop :=
  ∃ dx td kvs, H p = some (.ins C dx (aflds k td)) ∧ H td = some (.dK kvs) ∧ ∀ l : Ltr, l.2 < rows.length → LetAt H kvs k rows l
theorem LetAt.mono {H H' : Hp} {kvs : List (Key × V)} {k : Nat} {rows : Rows} {l : Ltr} (h : LetAt H kvs k rows l) (hs : ∀ b o, H b = some o → (∀ kvs, o ≠ .dK kvs) → H' b = some o) : LetAt H' kvs k rows l := by
  obtain ⟨b, vs, e, hb, hd⟩ := h
  refine ⟨b, vs, e, hs _ _ hb (fun _ z => by cases z), fun d hdk => ?_⟩
  obtain ⟨t, ht, et⟩ := hd d hdk
  exact ⟨t, ht, hs _ _ et (fun _ z => by cases z)⟩
theorem ActAt.same {C : Addr} {H H' : Hp} {p : Addr} {k : Nat} {rows : Rows} (s : Same H H') (h : ActAt C H p k rows) : ActAt C H' p k rows := by
  obtain ⟨dx, td, kvs, h1, h2, h3⟩ := h
  exact ⟨dx, td, kvs, s _ _ h1, s _ _ h2, fun l hl => (h3 l hl).mono fun b o e _ => s b o e⟩
theorem putK_len {kvs : List (Key × V)} {k : Key} {v : V} : (putK kvs k v).length ≤ kvs.length + 1 := by
  unfold putK
  split
  · rw [List.length_map]
    exact Nat.le_succ _
  · rw [List.length_append]
    exact Nat.le_refl _
theorem key_ne {a b : Ltr} (ha : a.2 < 26) (hb : b.2 < 26) (h : a ≠ b) : ¬ (Sum.inr (encW [a]) : Key) = Sum.inr (encW [b]) := fun e => h (encW1_inj ha hb (Sum.inr.inj e))
/-- the table grown by another letter's list -/
theorem LetAt.put {H : Hp} {kvs : List (Key × V)} {k : Nat} {rows : Rows} {l m : Ltr} {y : V} (h : LetAt H kvs k rows l) (hl : l.2 < 26) (hm : m.2 < 26) (hne : l ≠ m) : LetAt H (putK kvs (Sum.inr (encW [m]) : Key) y) k rows l := by
  obtain ⟨b, vs, e, hb, hd⟩ := h
  exact ⟨b, vs, by rw [valV_put, if_neg (key_ne hl hm hne)]; exact e, hb, hd⟩
section
variable {P : Program} {w : World} {K : PySem.W.Frag} {mg : Str → Option Value} {base : Heap}
def spInit (C : Addr) : Sp := fun vs H Q _ => ∃ p dx v k rows, vs = [.ref p, v] ∧ H p = some (.ins C dx []) ∧ MachH H v k rows ∧ MOk k rows ∧ ∀ H', ActAt C H' p k rows → Keep p H H' → Q .non H'
abbrev sAct (j : Nat) : Stmt := inClass (top 35) j
abbrev nInit : List Str := ["self", "machine", "state", "row", "back", "digit", "out", "following"]
theorem scInit : FnScope nInit ["self", "machine"] (defScope (sAct 0)) := ⟨rfl, rfl, rfl, by decide +kernel, rfl, by decide +kernel, by decide +kernel⟩
theorem flat_rep {α : Type} (x : α) : ∀ n : Nat, (List.replicate n [x]).flatten = List.replicate n x
  | 0 => rfl
  | n + 1 => by
    rw [List.replicate_succ, List.flatten_cons, flat_rep x n]
    rfl
theorem ok_init {f C : Addr} {fd : FuncData} (F : Fun K "__init__" "Actor.__init__" (sAct 0) f fd) (T : AcT K mg C) (G : Gs mg) : FnOk P w K mg base CX0 1 f fd ["self", "machine"] (spInit C) := by
  refine F.ok scInit (fun vs H Q E h => ?_) (fun cdv A outer s H vs Q E hr h => ?_)
  · obtain ⟨p, dx, v, k, rows, rfl, _⟩ := h
    rfl
  · obtain ⟨p, dx, v, k, rows, rfl, hp, M, ok, q⟩ := h
    have hu := hu_of hr
    obtain ⟨a, ra, ts, rfl, ha, hra, hP⟩ := id M
    have hlen := Paired.len hP
    have n4 := ok.n4
    have k4 := ok.k4
    refine ⟨_, pss_cons (ps_fld (pv 0) (pe_ix ix_tup (pv 1) pe_int (fun _ _ => rfl)) rfl)
      (pss_cons (ps_fld (pv 0) pe_dnewK rfl)
      (pss_one (ps_for PassesOwn.never rfl (pi_enumT (by rfl) G.enumerate (pa_cons (pe_ix ix_tup (pv 1) pe_int (fun _ _ => rfl)) pa_nil)) (pg_tup rfl (pgs_cons (pgl 2 scInit.nd rfl rfl) (pgs_cons (pgl 3 scInit.nd rfl rfl) pgs_nil)))
        (pss_cons (ps_set (i := 4) scInit.nd rfl (Or.inl rfl) (pe_op op_rep (pe_lst (pa_cons (pe_tup (pa_cons pe_int (pa_cons pe_str pa_nil))) pa_nil)) (pe_fld (pv 0) rfl)))
        (pss_cons (ps_for PassesOwn.never rfl (pi_enumT (by rfl) G.enumerate (pa_cons (pv 3) pa_nil)) (pg_tup rfl (pgs_cons (pgl 5 scInit.nd rfl rfl) (pgs_cons (pg_tup rfl (pgs_cons (pgl 6 scInit.nd rfl rfl) (pgs_cons (pgl 7 scInit.nd rfl rfl) pgs_nil))) pgs_nil)))
          (pss_one (ps_asg (pe_tup (pa_cons (pv 5) (pa_cons (pe_ix ix_str (C8.pe_gc (by rfl) G.LARGE) (pv 7) (fun _ _ => rfl)) pa_nil))) (pg_sub (pv 4) (pv 6) set_list))))
        (pss_cons (ps_dput hu (pe_fld (pv 0) rfl) (pe_ix ix_str (C8.pe_gc (by rfl) G.SMALL) (pv 2) (fun _ _ => rfl))
          (pe_lc (own := [("out", 6), ("following", 7)]) (g := gTup K 2 (gCons (gName 6) (gCons (gName 7) gNil))) (tt := tYes) rfl scInit.nd (pi_tup (pv 3)) (blkOk_by (N := nInit) (sc := defScope (sAct 0)) (by decide +kernel))
            (fun _ _ _ _ _ => pg_tup rfl (pgs_cons (pgl 6 scInit.nd rfl rfl) (pgs_cons (pgl 7 scInit.nd rfl rfl) pgs_nil))) (fun _ _ _ _ _ => pts_nil)
            (fun _ _ _ _ _ => pe_tup (pa_cons (pv 6) (pa_cons (pe_ix ix_str (C8.pe_gc (by rfl) G.SMALL) (pv 7) (fun _ _ => rfl)) pa_nil)))) rfl)
        (pss_one (ps_dput hu (pe_fld (pv 0) rfl) (pe_ix ix_str (C8.pe_gc (by rfl) G.LARGE) (pv 2) (fun _ _ => rfl)) (pv 4) rfl)))))))), ?_⟩
    -- self.size = machine[0]
    refine ⟨_, rfl, a, _, 0, .int (k : Nat), rfl, rfl, SqT.of ha, rfl, ?_⟩
    refine ⟨_, rfl, p, C, dx, [], rfl, hp, T.cl, T.nS, by show 0 < 1000; decide, ?_⟩
    -- self.table = {}
    intro td ntd
    have npt : p ≠ td := fun e => by
      rw [← e, upd_same] at ntd
      cases ntd
    have ntd0 : H td = none := by
      rw [upd_ne npt.symm] at ntd
      exact ntd
    have nap : ∀ {b : Addr} {xs : List V}, H b = some (.tup xs) → b ≠ p := fun e => ne_of e hp (by intro z; cases z)
    refine ⟨_, rfl, p, C, dx, _, rfl, (by rw [upd_ne npt, upd_same]), T.cl, T.nT, (by show 1 < 1000; decide), ?_⟩
    -- the object as it stands now
    have kp0 : ∀ b o, b ≠ p → H b = some o → upd (upd (upd H p (.ins C dx (putF "size" (.int (k : Nat)) []))) td (.dK [])) p (.ins C dx (aflds k td)) b = some o := fun b o hb e => by
      rw [upd_ne hb, upd_ne (ne_of_none e ntd0), upd_ne hb]
      exact e
    have hp0 : upd (upd (upd H p (.ins C dx (putF "size" (.int (k : Nat)) []))) td (.dK [])) p (.ins C dx (aflds k td)) p = some (.ins C dx (aflds k td)) := upd_same
    have ht0 : upd (upd (upd H p (.ins C dx (putF "size" (.int (k : Nat)) []))) td (.dK [])) p (.ins C dx (aflds k td)) td = some (.dK []) := by rw [upd_ne npt.symm, upd_same]
    rw [show putF "table" (V.ref td) (putF "size" (V.int (k : Nat)) []) = aflds k td from rfl]
    generalize upd (upd (upd H p (.ins C dx (putF "size" (.int (k : Nat)) []))) td (.dK [])) p (.ins C dx (aflds k td)) = H0 at kp0 hp0 ht0
    -- for state, row in enumerate(machine[1])
    have ha0 := kp0 _ _ (nap ha) ha
    have hra0 := kp0 _ _ (nap hra) hra
    refine ⟨_, rfl, a, _, 1, .ref ra, rfl, rfl, SqT.of ha0, rfl, ra, ts, rfl, SqT.of hra0, ?_⟩
    refine for_it walk_enumT (fun i σ H' => ∃ v2 v3 v4 v5 v6 v7 kvs, σ = [some (.ref p), some (.ref a), v2, v3, v4, v5, v6, v7] ∧ Keep p H H' ∧ H' p = some (.ins C dx (aflds k td)) ∧ H' td = some (.dK kvs) ∧ kvs.length ≤ 2 * i ∧ ∀ l : Ltr, l.2 < i → LetAt H' kvs k rows l)
      ⟨none, none, none, none, none, none, [], rfl, (fun b o hb e => kp0 b o hb e), hp0, ht0, Nat.le_refl _, fun l hl => absurd hl (Nat.not_lt_zero _)⟩
      (fun i σ H1 _ ⟨_, _, _, _, _, _, _, _, s1, _⟩ => SqT.of (s1 _ _ (nap hra) hra)) ?_ ?_
    · rintro i x σ H1 H2 hi ⟨v2, v3, v4, v5, v6, v7, kvs, rfl, s1, ep, et, hkl, hlet⟩ ⟨T1, x1, x2, rfl, nT1, rfl, ex1, ex2⟩
      cases Option.some.inj ex1
      obtain ⟨r, hri, ar, rts, rfl, har, hrp⟩ := Paired.at hP ex2
      have R : RowOk k rows.length r := ok.row r (List.mem_of_getElem? hri)
      have hin : i < rows.length := by rw [← hlen]; exact hi
      have hrow : rowAt rows i = r := by
        unfold rowAt
        rw [List.getD_eq_getElem?_getD, hri]
        rfl
      have hrl : rts.length = k := by rw [Paired.len hrp, R.len]
      -- state, row = the pair
      refine ⟨T1, _, rfl, SqT.of upd_same, rfl, _, _, rfl, _, _, rfl, rfl, ?_⟩
      have sA : Same H1 (upd H1 T1 (.tup [.int (i : Nat), .ref ar])) := same_upd nT1
      generalize upd H1 T1 (.tup [.int (i : Nat), .ref ar]) = HA at sA
      -- back = [(0, "")] * self.size
      refine ⟨by show 2 ≤ sizeLine; decide, fun t0 nt0 => ⟨by show 1 ≤ sizeLine; decide, fun l0 nl0 => ?_⟩⟩
      have sB : Same H1 (upd (upd HA t0 (.tup [.int 0, .str ""])) l0 (.lst [.ref t0])) := (same_new (same_new sA nt0) nl0)
      have hl0 : upd (upd HA t0 (.tup [.int 0, .str ""])) l0 (.lst [.ref t0]) l0 = some (.lst [.ref t0]) := upd_same
      generalize upd (upd HA t0 (.tup [.int 0, .str ""])) l0 (.lst [.ref t0]) = HB at sB hl0
      refine ⟨_, rfl, p, C, dx, _, _, rfl, sB _ _ ep, T.cl, T.nS, aflds_size _ _, l0, k, _, rfl, rfl, hl0, by omega, by omega, ?_, fun b nb => ?_⟩
      · show 1 * (k : Int).toNat ≤ sizeLine
        exact le_line (by omega)
      have nb1 : H1 b = none := sB.free nb
      have sC : Same H1 (upd HB b (.lst (List.replicate k (.ref t0)))) := same_new sB nb
      have hbk : upd HB b (.lst (List.replicate k (V.ref t0))) b = some (.lst (List.replicate k (.ref t0))) := upd_same
      have efl : (List.replicate (k : Int).toNat [V.ref t0]).flatten = List.replicate k (V.ref t0) := by
        rw [flat_rep, Int.toNat_natCast]
      rw [efl]
      generalize upd HB b (.lst (List.replicate k (V.ref t0))) = HC at sC hbk
      -- for digit, (out, following) in enumerate(row)
      have har1 : H1 ar = some (.tup rts) := s1 _ _ (nap har) har
      refine ⟨_, rfl, ar, rts, rfl, SqT.of (sC _ _ har1), ?_⟩
      refine for_it walk_enumT (fun j σ H' => ∃ v5 v6 v7 vs, σ = [some (.ref p), some (.ref a), some (.int (i : Nat)), some (.ref ar), some (.ref b), v5, v6, v7] ∧ Same H1 H' ∧ H' b = some (.lst vs) ∧ vs.length = k ∧
          ∀ d, d < j → ∃ t, vs[(ent r d).1]? = some (.ref t) ∧ H' t = some (.tup [.int (d : Nat), .str (encW [(true, (ent r d).2)])]))
        ⟨_, _, _, _, rfl, sC, hbk, List.length_replicate, fun d hd => absurd hd (Nat.not_lt_zero _)⟩
        (fun j σ H3 _ ⟨_, _, _, _, _, s3, _⟩ => SqT.of (s3 _ _ har1)) ?_ ?_
      · rintro j x σ H3 H4 hj ⟨w5, w6, w7, vs, rfl, s3, eb, hvl, hd⟩ ⟨T2, y1, y2, rfl, nT2, rfl, ey1, ey2⟩
        cases Option.some.inj ey1
        obtain ⟨e, hej, ea, rfl, hea⟩ := Paired.at hrp ey2
        have hjk : j < k := by rw [← hrl]; exact hj
        have eent : ent r j = e := by
          unfold ent
          rw [List.getD_eq_getElem?_getD, hej]
          rfl
        have hea3 : H3 ea = some (.tup [.int (e.1 : Nat), .int (e.2 : Nat)]) := s3 _ _ (s1 _ _ (nap hea) hea)
        have nbT : b ≠ T2 := ne_of_none eb nT2
        refine ⟨T2, _, rfl, SqT.of upd_same, rfl, _, _, rfl, _, _, rfl, ?_⟩
        have neaT : ea ≠ T2 := ne_of_none hea3 nT2
        refine ⟨ea, _, rfl, SqT.of (by rw [upd_ne neaT]; exact hea3), rfl, _, _, rfl, _, _, rfl, rfl, rfl, ?_⟩
        have sD : Same H3 (upd H3 T2 (.tup [.int (j : Nat), .ref ea])) := same_upd nT2
        generalize upd H3 T2 (.tup [.int (j : Nat), .ref ea]) = H5 at sD
        -- back[out] = (digit, LARGE[following])
        have e2lt : e.2 < 4 := by
          have := R.nxt e (List.mem_of_getElem? hej)
          omega
        have e1lt : e.1 < k := by rw [← eent]; exact R.out_lt hjk
        refine ⟨_, rfl, _, rfl, zLarge, (e.2 : Int), codeL (true, e.2), rfl, rfl, zlen.2.1, large_at _ e2lt, by show 2 ≤ sizeLine; decide, fun t1 nt1 => ?_⟩
        have nbt : b ≠ t1 := ne_of_none (sD _ _ eb) nt1
        refine ⟨_, rfl, _, rfl, b, vs, e.1, e.1, rfl, rfl, (by rw [upd_ne nbt]; exact sD _ _ eb), ?_, ?_⟩
        · unfold ixN
          rw [if_pos (by omega), if_pos (by omega), Int.toNat_natCast]
        · have htn : ∀ t o, H3 t = some o → t ≠ b → upd (upd H5 t1 (.tup [.int (j : Nat), .str ⟨#[codeL (true, e.2)]⟩])) b (.lst (vs.set e.1 (.ref t1))) t = some o := fun t o e' hb => by
            rw [upd_ne hb, upd_ne (ne_of_none (sD _ _ e') nt1)]
            exact sD _ _ e'
          refine ⟨_, _, _, vs.set e.1 (.ref t1), rfl, fun c o ec => htn c o (s3 _ _ ec) (ne_of_none ec nb1), upd_same, by rw [List.length_set]; exact hvl, fun d hdj => ?_⟩
          by_cases hde : d = j
          · subst hde
            refine ⟨t1, ?_, ?_⟩
            · rw [eent, List.getElem?_set_self (by rw [hvl]; exact e1lt)]
            · rw [upd_ne nbt.symm, upd_same, eent]
              rfl
          · have hdj' : d < j := by omega
            obtain ⟨t, ht, ett⟩ := hd d hdj'
            refine ⟨t, ?_, htn t _ ett (ne_of ett eb (by intro z; cases z))⟩
            have hne : ¬ e.1 = (ent r d).1 := fun z => by
              rw [← eent] at z
              exact hde (R.ent_inj (by omega) hjk z.symm)
            rw [List.getElem?_set_ne hne]
            exact ht
      · rintro σ H3 ⟨w5, w6, w7, vs, rfl, s3, eb, hvl, hd⟩
        rw [hrl] at hd
        -- [(out, SMALL[following]) for out, following in row]
        have har3 : H3 ar = some (.tup rts) := s3 _ _ har1
        refine ⟨_, rfl, ar, rfl, ⟨rts, SqT.of har3⟩, fun L nL => ?_⟩
        refine lc_tup (K := K) (a := ar) (xs := rts) (fun j H' => Same H3 H' ∧ ∃ vs, H' L = some (.lst vs) ∧ vs.length = j ∧ ∀ d, d < j → ∃ t, vs[d]? = some (.ref t) ∧ H' t = some (.tup [.int ((ent r d).1 : Nat), .str (encW [(false, (ent r d).2)])]))
          ⟨same_upd nL, [], upd_same, rfl, fun d hd => absurd hd (Nat.not_lt_zero _)⟩ (fun j H4 _ hv => SqT.of (hv.1 _ _ har3)) ?_ ?_
        · rintro j x H4 hx ⟨s4, us, e4, hul, hud⟩
          obtain ⟨e, hej, ea, rfl, hea⟩ := Paired.at hrp hx
          have hjk : j < k := by
            have := (List.getElem?_eq_some_iff.mp hx).1
            omega
          have eent : ent r j = e := by
            unfold ent
            rw [List.getD_eq_getElem?_getD, hej]
            rfl
          have hea4 : H4 ea = some (.tup [.int (e.1 : Nat), .int (e.2 : Nat)]) := s4 _ _ (s3 _ _ (s1 _ _ (nap hea) hea))
          have e2lt : e.2 < 4 := by
            have := R.nxt e (List.mem_of_getElem? hej)
            omega
          refine ⟨ea, _, rfl, SqT.of hea4, rfl, _, _, rfl, _, _, rfl, rfl, rfl, ?_⟩
          refine ⟨_, rfl, _, rfl, zSmall, (e.2 : Int), codeL (false, e.2), rfl, rfl, zlen.1, small_at _ e2lt, by show 2 ≤ sizeLine; decide, fun t1 nt1 => ?_⟩
          have nLt : L ≠ t1 := ne_of_none e4 nt1
          refine ⟨us, (by rw [upd_ne nLt]; exact e4), by rw [hul]; exact lt_line (by omega), same_put (same_new s4 nt1) nL, _, upd_same, by rw [List.length_append, hul]; rfl, fun d hdj => ?_⟩
          by_cases hde : d = j
          · subst hde
            refine ⟨t1, ?_, ?_⟩
            · rw [List.getElem?_append_right (by omega), hul, Nat.sub_self]
              rfl
            · rw [upd_ne nLt.symm, upd_same, eent]
              rfl
          · obtain ⟨t, ht, ett⟩ := hud d (by omega)
            refine ⟨t, ?_, ?_⟩
            · rw [List.getElem?_append_left (by omega)]
              exact ht
            · rw [upd_ne (ne_of ett e4 (by intro z; cases z)), upd_ne (ne_of_none ett nt1)]
              exact ett
        · rintro H4 ⟨s4, us, e4, hul, hud⟩
          rw [hrl] at hul hud
          have s14 : Same H1 H4 := s3.trans s4
          have ep4 := s14 _ _ ep
          have et4 := s14 _ _ et
          have hi4 : i < 4 := by omega
          -- self.table[SMALL[state]] = ..
          refine ⟨_, rfl, p, C, dx, _, _, rfl, ep4, T.cl, T.nT, aflds_table _ _, _, rfl, zSmall, (i : Int), codeL (false, i), rfl, rfl, zlen.1, small_at _ hi4, td, _, rfl, DPut.k (k := Sum.inr (encW [(false, i)])) et4 (lt_line (by omega)), ?_⟩
          have ntp : p ≠ td := ne_of ep4 et4 (by intro z; cases z)
          -- self.table[LARGE[state]] = back
          refine ⟨_, rfl, _, rfl, p, C, dx, _, _, rfl, (by rw [upd_ne ntp]; exact ep4), T.cl, T.nT, aflds_table _ _, _, rfl, zLarge, (i : Int), codeL (true, i), rfl, rfl, zlen.2.1, large_at _ hi4, td, _, rfl, DPut.k (k := Sum.inr (encW [(true, i)])) upd_same (lt_line (Nat.le_trans putK_len (by omega))), ?_⟩
          have keep : ∀ c o, H4 c = some o → (∀ z, o ≠ .dK z) → upd (upd H4 td (.dK (putK kvs (Sum.inr (encW [(false, i)])) (.ref L)))) td (.dK (putK (putK kvs (Sum.inr (encW [(false, i)])) (.ref L)) (Sum.inr (encW [(true, i)])) (.ref b))) c = some o := fun c o ec hz => by
            have : c ≠ td := fun z => by
              rw [z, et4] at ec
              exact hz _ (Option.some.inj ec).symm
            rw [upd_ne this, upd_ne this]
            exact ec
          refine ⟨_, _, _, _, _, _, putK (putK kvs (Sum.inr (encW [(false, i)])) (.ref L)) (Sum.inr (encW [(true, i)])) (.ref b), rfl, fun c o hc ec => ?_, keep _ _ ep4 (fun _ z => by cases z), upd_same, ?_, fun l hl => ?_⟩
          · have : c ≠ td := ne_of_none ec ntd0
            rw [upd_ne this, upd_ne this]
            exact s14 _ _ (s1 c o hc ec)
          · have h1 := putK_len (kvs := kvs) (k := Sum.inr (encW [(false, i)])) (v := .ref L)
            have h2 := putK_len (kvs := putK kvs (Sum.inr (encW [(false, i)])) (.ref L)) (k := Sum.inr (encW [(true, i)])) (v := .ref b)
            omega
          · by_cases hli : l.2 < i
            · have h1 := (hlet l hli).mono (H' := upd (upd H4 td (.dK (putK kvs (Sum.inr (encW [(false, i)])) (.ref L)))) td (.dK (putK (putK kvs (Sum.inr (encW [(false, i)])) (.ref L)) (Sum.inr (encW [(true, i)])) (.ref b)))) (fun c o ec hz => keep c o (s14 _ _ ec) hz)
              have n1 : ∀ b, l ≠ (b, i) := fun b z => by
                rw [z] at hli
                exact absurd hli (Nat.lt_irrefl _)
              exact (h1.put (by omega) (by show i < 26; omega) (n1 false)).put (by omega) (by show i < 26; omega) (n1 true)
            · obtain ⟨bb, s⟩ := l
              have es : s = i := by
                have h1 : s < i + 1 := hl
                have h2 : ¬ s < i := hli
                omega
              subst es
              cases bb with
              | true =>
                refine ⟨b, vs, by rw [valV_put, if_pos rfl], keep _ _ (s4 _ _ eb) (fun _ z => by cases z), fun d hdk => ?_⟩
                obtain ⟨t, ht, ett⟩ := hd (src r d) (R.src_lt hdk)
                rw [R.src_out hdk] at ht
                refine ⟨t, ht, keep _ _ (s4 _ _ ?_) (fun _ z => by cases z)⟩
                rw [ett]
                show _ = some (HO.tup [.int ((src (rowAt rows s) d : Nat) : Int), .str (encW [(true, (ent (rowAt rows s) (src (rowAt rows s) d)).2)])])
                rw [hrow]
              | false =>
                have hne : ¬ (Sum.inr (encW [(false, s)]) : Key) = Sum.inr (encW [(true, s)]) := key_ne (by show s < 26; omega) (by show s < 26; omega) (by intro z; cases z)
                refine ⟨L, us, by rw [valV_put, if_neg hne, valV_put, if_pos rfl], keep _ _ e4 (fun _ z => by cases z), fun d hdk => ?_⟩
                obtain ⟨t, ht, ett⟩ := hud d hdk
                refine ⟨t, ht, keep _ _ ?_ (fun _ z => by cases z)⟩
                rw [ett]
                show _ = some (HO.tup [.int ((ent (rowAt rows s) d).1 : Nat), .str (encW [(false, (ent (rowAt rows s) d).2)])])
                rw [hrow]
    · rintro σ H1 ⟨v2, v3, v4, v5, v6, v7, kvs, rfl, s1, ep, et, hkl, hlet⟩
      refine q H1 ⟨dx, td, kvs, ep, et, fun l hl => hlet l ?_⟩ s1
      rw [hlen]
      exact hl
end
end Lf

/-! One step of a word, the image and the section. -/
namespace Lf
open PySem PySem.Spec PyProof.Rows L2
section
variable {P : Program} {w : World} {K : PySem.W.Frag} {mg : Str → Option Value} {base : Heap}
/-! ### step -/
theorem step_take {rows : Rows} {u : List Ltr} {i : Nat} {l : Ltr} (h : u[i]? = some l) (d : Nat) :
    stepW rows (u.take (i + 1)) d = ((rd rows l (stepW rows (u.take i) d).1).1, (stepW rows (u.take i) d).2 ++ [(rd rows l (stepW rows (u.take i) d).1).2]) := by
  rw [List.take_add_one, h]
  show stepW rows (u.take i ++ [l]) d = _
  rw [step_app]
  rfl
theorem moved_take {rows : Rows} {u : List Nat} {i d : Nat} (h : u[i]? = some d) (w : List Ltr) :
    movedW rows w (u.take (i + 1)) = ((movedW rows w (u.take i)).1 ++ [(stepW rows (movedW rows w (u.take i)).2 d).1], (stepW rows (movedW rows w (u.take i)).2 d).2) := by
  rw [List.take_add_one, h]
  show movedW rows w (u.take i ++ [d]) = _
  rw [moved_app]
  rfl
theorem WOk.take {n : Nat} {u : List Ltr} (h : WOk n u) (i : Nat) : WOk n (u.take i) := fun x hx => h x (mem_take hx)
theorem UOk.take {k : Nat} {u : List Nat} (h : UOk k u) (i : Nat) : UOk k (u.take i) := fun x hx => h x (mem_take hx)
def spStep (C : Addr) : Sp := fun vs H Q _ => ∃ p k rows, ∃ (u : List Ltr) (d : Nat), vs = [.ref p, .str (encW u), .int (d : Nat)] ∧ ActAt C H p k rows ∧ MOk k rows ∧ WOk rows.length u ∧ u.length ≤ 100 ∧ d < k ∧
  ∀ H' t, Same H H' → H' t = some (.tup [.int ((stepW rows u d).1 : Nat), .str (encW (stepW rows u d).2)]) → Q (.ref t) H'
abbrev nStep : List Str := ["self", "word", "digit", "letters", "letter", "following"]
theorem scStep : FnScope nStep ["self", "word", "digit"] (defScope (sAct 1)) := ⟨rfl, rfl, rfl, by decide +kernel, rfl, by decide +kernel, by decide +kernel⟩
theorem ok_step {f C : Addr} {fd : FuncData} (F : Fun K "step" "Actor.step" (sAct 1) f fd) (T : AcT K mg C) (G : Gs mg) : FnOk P w K mg base CX0 1 f fd ["self", "word", "digit"] (spStep C) := by
  refine F.ok scStep (fun vs H Q E h => ?_) (fun cdv A outer s H vs Q E hr h => ?_)
  · obtain ⟨p, k, rows, u, d, rfl, _⟩ := h
    rfl
  · obtain ⟨p, k, rows, u, d, rfl, act, ok, hw, hl, hd, q⟩ := h
    have hu := hu_of hr
    obtain ⟨dx, td, kvs, hp, ht, hlet⟩ := id act
    refine ⟨_, pss_cons (ps_set (i := 3) scStep.nd rfl (Or.inl rfl) (pe_lst pa_nil))
      (pss_cons (ps_for PassesOwn.never rfl (pi_str (pv 1)) (pgl 4 scStep.nd rfl rfl)
        (pss_cons (ps_asg (pe_ix ix_list (pe_dget hu (pe_fld (pv 0) rfl) (pv 4) (fun _ _ => rfl)) (pv 2) (fun _ _ => rfl)) (pg_tup rfl (pgs_cons (pgl 2 scStep.nd rfl rfl) (pgs_cons (pgl 5 scStep.nd rfl rfl) pgs_nil))))
        (pss_one (ps_expr (pe_bm PySem.F.plainAttrs_list PySem.F.slot_list_append PySem.F.type_list_append mt_append (pv 3) (pa_cons (pv 5) pa_nil))))))
      (pss_one (ps_ret (pe_tup (pa_cons (pv 2) (pa_cons (pe_join pe_str (pv 3)) pa_nil)))))), ?_⟩
    refine ⟨Nat.zero_le _, fun L nL => ?_⟩
    refine ⟨_, rfl, encW u, rfl, ?_⟩
    refine for_it walk_str (fun i σ H' => ∃ v4 v5, σ = [some (.ref p), some (.str (encW u)), some (.int ((stepW rows (u.take i) d).1 : Nat)), some (.ref L), v4, v5] ∧ Same H H' ∧ H' L = some (.lst (ltrs (stepW rows (u.take i) d).2)))
      ⟨none, none, rfl, same_upd nL, upd_same⟩ (fun _ _ _ _ _ => trivial) ?_ ?_
    · rintro i x σ H1 H2 hi ⟨v4, v5, rfl, s1, e1⟩ ⟨rfl, c, hc, rfl⟩
      obtain ⟨l, hlt, rfl⟩ := encW_get hc
      rw [encW_size] at hi
      have hln : l.2 < rows.length := hw l (List.mem_of_getElem? hlt)
      have so := step_ok ok (u.take i) d (hw.take i) hd
      obtain ⟨b, vs, hv, hb, hcell⟩ := hlet l hln
      obtain ⟨t, htv, htt⟩ := hcell _ so.1
      -- digit, following = self.table[letter][digit]
      refine ⟨_, rfl, p, C, dx, _, _, rfl, s1 _ _ hp, T.cl, T.nT, aflds_table _ _, _, rfl, td, _, rfl, (by rw [← hv]; exact DGet.k (k := Sum.inr (encW [l])) (s1 _ _ ht)), ?_⟩
      refine ⟨_, rfl, b, vs, _, _, rfl, rfl, SqL.of (s1 _ _ hb), atI_nat htv, ?_⟩
      refine ⟨t, _, rfl, SqT.of (s1 _ _ htt), rfl, _, _, rfl, _, _, rfl, rfl, ?_⟩
      -- letters.append(following)
      refine ⟨_, rfl, .inl ⟨rfl, _, SqL.of e1⟩, _, rfl, L, _, _, rfl, rfl, e1, ?_, ?_⟩
      · rw [ltrs_len, step_len, List.length_take]
        exact lt_line (by omega)
      · have est := step_take (rows := rows) hlt d
        refine ⟨some (V.str (encW [l])), some (V.str (encW [(rd rows l (stepW rows (u.take i) d).1).2])), ?_, same_put s1 nL, ?_⟩
        · rw [est]
          rfl
        · rw [upd_same, est]
          show _ = some (HO.lst (ltrs (_ ++ [_])))
          rw [ltrs_snoc]
    · rintro σ H1 ⟨v4, v5, rfl, s1, e1⟩
      have et : u.take (encW u).cps.size = u := List.take_of_length_le (by rw [encW_size]; exact Nat.le_refl _)
      rw [et] at e1 ⊢
      have hlen := step_len (rows := rows) u d
      refine ⟨_, rfl, ⟨_, rfl⟩, _, rfl, _, L, _, rfl, rfl, .inl (SqL.of (by rw [e1, ltrs_strs])), joinW_fit (by omega), by show 2 ≤ sizeLine; decide, fun t nt => ?_⟩
      rw [joinW]
      exact q _ t (same_new s1 nt) upd_same

/-! ### moved -/
theorem log_digit : ∀ d : Nat, d < 4 → ((d : Nat) : Int).natAbs.log2 < 1920 := by decide +kernel
/-- the digits of a string as texts -/
def digs (u : List Nat) : List V := u.map fun d => V.str (encD [d])
theorem digs_len (u : List Nat) : (digs u).length = u.length := List.length_map _
theorem digs_snoc (u : List Nat) (d : Nat) : digs (u ++ [d]) = digs u ++ [.str (encD [d])] := by
  unfold digs
  rw [List.map_append]
  rfl
theorem digs_strs (u : List Nat) : digs u = (u.map fun d => encD [d]).map V.str := joinD_map u
def spMoved (C : Addr) : Sp := fun vs H Q _ => ∃ p k rows, ∃ (w : List Ltr) (u : List Nat), vs = [.ref p, .str (encW w), .str (encD u)] ∧ ActAt C H p k rows ∧ MOk k rows ∧ WOk rows.length w ∧ w.length ≤ 60 ∧ UOk k u ∧ u.length ≤ 60 ∧
  ∀ H' t, Same H H' → H' t = some (.tup [.str (encD (movedW rows w u).1), .str (encW (movedW rows w u).2)]) → Q (.ref t) H'
abbrev nMoved : List Str := ["self", "word", "string", "image", "sign", "digit"]
theorem scMoved : FnScope nMoved ["self", "word", "string"] (defScope (sAct 2)) := ⟨rfl, rfl, rfl, by decide +kernel, rfl, by decide +kernel, by decide +kernel⟩
theorem ok_moved {f C fS : Addr} {fd fdS : FuncData} (F : Fun K "moved" "Actor.moved" (sAct 2) f fd) (T : AcT K mg C) (G : Gs mg) (mS : Meth K C "step" fS) (FS : FnOk P w K mg base CX0 1 fS fdS ["self", "word", "digit"] (spStep C)) (bS : Binds K fdS ["self", "word", "digit"] []) :
    FnOk P w K mg base CX0 2 f fd ["self", "word", "string"] (spMoved C) := by
  refine F.ok scMoved (fun vs H Q E h => ?_) (fun cdv A outer s H vs Q E hr h => ?_)
  · obtain ⟨p, k, rows, u, d, rfl, _⟩ := h
    rfl
  · obtain ⟨p, k, rows, wd, u, rfl, act, ok, hw, hwl, hu, hul, q⟩ := h
    have k4 := ok.k4
    refine ⟨_, pss_cons (ps_set (i := 3) scMoved.nd rfl (Or.inl rfl) (pe_lst pa_nil))
      (pss_cons (ps_for PassesOwn.never rfl (pi_str (pv 2)) (pgl 4 scMoved.nd rfl rfl)
        (pss_cons (ps_asg (pe_meth (pv 0) T.cl mS FS hr bS .nil pass0 (pa_cons (pv 1) (pa_cons (pe_callTy call_int_str (by rfl) G.int (by decide +kernel) (pa_cons (pv 4) pa_nil)) pa_nil)))
          (pg_tup rfl (pgs_cons (pgl 5 scMoved.nd rfl rfl) (pgs_cons (pgl 1 scMoved.nd rfl rfl) pgs_nil))))
        (pss_one (ps_expr (pe_bm PySem.F.plainAttrs_list PySem.F.slot_list_append PySem.F.type_list_append mt_append (pv 3) (pa_cons (pe_callTy call_str_int (by rfl) G.str (by decide +kernel) (pa_cons (pv 5) pa_nil)) pa_nil))))))
      (pss_one (ps_ret (pe_tup (pa_cons (pe_join pe_str (pv 3)) (pa_cons (pv 1) pa_nil)))))), ?_⟩
    refine ⟨Nat.zero_le _, fun L nL => ?_⟩
    refine ⟨_, rfl, encD u, rfl, ?_⟩
    refine for_it walk_str (fun i σ H' => ∃ v4 v5, σ = [some (.ref p), some (.str (encW (movedW rows wd (u.take i)).2)), some (.str (encD u)), some (.ref L), v4, v5] ∧ Same H H' ∧ H' L = some (.lst (digs (movedW rows wd (u.take i)).1)))
      ⟨none, none, rfl, same_upd nL, upd_same⟩ (fun _ _ _ _ _ => trivial) ?_ ?_
    · rintro i x σ H1 H2 hi ⟨v4, v5, rfl, s1, e1⟩ ⟨rfl, c, hc, rfl⟩
      obtain ⟨d, hdt, rfl⟩ := encD_get hc
      rw [encD_size] at hi
      have hdk : d < k := hu d (List.mem_of_getElem? hdt)
      have mo := moved_ok ok (u.take i) wd hw (hu.take i)
      have ml := moved_len2 (rows := rows) (u.take i) wd
      have so := step_ok ok _ d mo.2 hdk
      obtain ⟨dx, td, kvs, hp, _⟩ := act.same s1
      refine ⟨_, rfl, p, dx, _, rfl, hp, aflds_no _ _ (by decide +kernel) (by decide +kernel), _, rfl, _, rfl, encD [d], (d : Int), rfl, digit_int d (by omega), by rw [encD_len]; show 1 ≤ 640; decide, ?_⟩
      refine ⟨p, k, rows, _, d, rfl, act.same s1, ok, mo.2, by omega, hdk, fun H3 t s3 et => ?_⟩
      refine ⟨t, _, rfl, SqT.of et, rfl, _, _, rfl, _, _, rfl, rfl, ?_⟩
      refine ⟨_, rfl, .inl ⟨rfl, _, SqL.of (s3 _ _ e1)⟩, _, rfl, ((stepW rows (movedW rows wd (u.take i)).2 d).1 : Int), rfl, log_digit _ (by omega), L, _, _, rfl, rfl, s3 _ _ e1, ?_, ?_⟩
      · rw [digs_len, moved_len1, List.length_take]
        exact lt_line (by omega)
      · have em := moved_take (rows := rows) hdt wd
        refine ⟨some (V.str (encD [d])), some (V.int ((stepW rows (movedW rows wd (u.take i)).2 d).1 : Nat)), ?_, same_put (s1.trans s3) nL, ?_⟩
        · rw [em]
          rfl
        · rw [upd_same, em]
          show _ = some (HO.lst (digs (_ ++ [_])))
          rw [digs_snoc, ← digit_str _ (by omega)]
    · rintro σ H1 ⟨v4, v5, rfl, s1, e1⟩
      have et : u.take (encD u).cps.size = u := List.take_of_length_le (by rw [encD_size]; exact Nat.le_refl _)
      rw [et] at e1 ⊢
      have hlen := moved_len1 (rows := rows) u wd
      refine ⟨⟨_, rfl⟩, _, rfl, _, L, _, rfl, rfl, .inl (SqL.of (by rw [e1, digs_strs])), joinD_fit (by omega), _, rfl, by show 2 ≤ sizeLine; decide, fun t nt => ?_⟩
      rw [joinD]
      exact q _ t (same_new s1 nt) upd_same

/-! ### moved of the module, image_of, section_of -/
def spMod : Sp := fun vs H Q _ => ∃ v k rows, ∃ (w : List Ltr) (u : List Nat), vs = [v, .str (encW w), .str (encD u)] ∧ MachH H v k rows ∧ MOk k rows ∧ WOk rows.length w ∧ w.length ≤ 60 ∧ UOk k u ∧ u.length ≤ 60 ∧
  ∀ H' t, Same H H' → H' t = some (.tup [.str (encD (movedW rows w u).1), .str (encW (movedW rows w u).2)]) → Q (.ref t) H'
theorem scMod : FnScope ["machine", "word", "string"] ["machine", "word", "string"] (defScope (top 38)) := ⟨rfl, rfl, rfl, by decide +kernel, rfl, by decide +kernel, by decide +kernel⟩
theorem ok_mod {C fI fM : Addr} {fdI fdM : FuncData} (D : Df K mg "moved" "moved" 38 ["machine", "word", "string"]) (T : AcT K mg C) (MK : Mk K C fI) (FI : FnOk P w K mg base CX0 1 fI fdI ["self", "machine"] (spInit C)) (bI : Binds K fdI ["self", "machine"] [])
    (mM : Meth K C "moved" fM) (FM : FnOk P w K mg base CX0 2 fM fdM ["self", "word", "string"] (spMoved C)) (bM : Binds K fdM ["self", "word", "string"] []) : Cl P w K mg base 4 "moved" spMod := by
  refine D.cl scMod (fun vs H Q E h => ?_) (fun f cdv A outer s H vs Q E hr h => ?_)
  · obtain ⟨v, k, rows, wd, u, rfl, _⟩ := h
    rfl
  · obtain ⟨v, k, rows, wd, u, rfl, M, ok, hw, hwl, hu, hul, q⟩ := h
    refine ⟨_, pss_one (ps_ret (pe_meth (pe_make MK FI (hr.mono (by decide)) (by rfl) T.mgC bI .nil pass0 (pa_cons (pv 0) pa_nil)) T.cl mM FM (hr.mono (by decide)) bM .nil pass0 (pa_cons (pv 1) (pa_cons (pv 2) pa_nil)))), ?_⟩
    refine ⟨_, rfl, fun p dx np nd ne => ?_⟩
    have s0 : Same H (upd (upd H dx (.own p)) p (.ins C dx [])) := fun b o e => by
      rw [upd_ne (ne_of_none e np), upd_ne (ne_of_none e nd)]
      exact e
    refine ⟨p, dx, v, k, rows, rfl, upd_same, M.same s0, ok, fun H1 act kp => ⟨rfl, ?_⟩⟩
    have s1 : Same H H1 := fun b o e => kp b o (ne_of_none e np) (s0 b o e)
    obtain ⟨dx', td, kvs, hp, _⟩ := id act
    refine ⟨p, dx', _, rfl, hp, aflds_no _ _ (by decide +kernel) (by decide +kernel), _, rfl, _, rfl, p, k, rows, wd, u, rfl, act, ok, hw, hwl, hu, hul, fun H2 t s2 et => ?_⟩
    exact q H2 t (s1.trans s2) et
def spImage : Sp := fun vs H Q _ => ∃ v k rows, ∃ (w : List Ltr) (u : List Nat), vs = [v, .str (encW w), .str (encD u)] ∧ MachH H v k rows ∧ MOk k rows ∧ WOk rows.length w ∧ w.length ≤ 60 ∧ UOk k u ∧ u.length ≤ 60 ∧
  ∀ H', Same H H' → Q (.str (encD (movedW rows w u).1)) H'
def spSection : Sp := fun vs H Q _ => ∃ v k rows, ∃ (w : List Ltr) (u : List Nat), vs = [v, .str (encW w), .str (encD u)] ∧ MachH H v k rows ∧ MOk k rows ∧ WOk rows.length w ∧ w.length ≤ 60 ∧ UOk k u ∧ u.length ≤ 60 ∧
  ∀ H', Same H H' → Q (.str (encW (movedW rows w u).2)) H'
theorem scImage : FnScope ["machine", "word", "string"] ["machine", "word", "string"] (defScope (top 39)) := ⟨rfl, rfl, rfl, by decide +kernel, rfl, by decide +kernel, by decide +kernel⟩
theorem scSection : FnScope ["machine", "word", "string"] ["machine", "word", "string"] (defScope (top 40)) := ⟨rfl, rfl, rfl, by decide +kernel, rfl, by decide +kernel, by decide +kernel⟩
theorem ok_image (D : Df K mg "image_of" "image_of" 39 ["machine", "word", "string"]) (CW : Cl P w K mg base 5 "check_word" spCheckW) (CS : Cl P w K mg base 3 "check_string_sections" spCheckS) (MD : Cl P w K mg base 4 "moved" spMod) : Cl P w K mg base 6 "image_of" spImage := by
  refine D.cl scImage (fun vs H Q E h => ?_) (fun f cdv A outer s H vs Q E hr h => ?_)
  · obtain ⟨v, k, rows, wd, u, rfl, _⟩ := h
    rfl
  · obtain ⟨v, k, rows, wd, u, rfl, M, ok, hw, hwl, hu, hul, q⟩ := h
    refine ⟨_, pss_cons (ps_expr (pcl hr CW (pa_cons (pv 0) (pa_cons (pv 1) pa_nil)))) (pss_cons (ps_expr (pcl hr CS (pa_cons (pv 0) (pa_cons (pv 2) pa_nil))))
      (pss_one (ps_ret (pe_ix ix_tup (pcl hr MD (pa_cons (pv 0) (pa_cons (pv 1) (pa_cons (pv 2) pa_nil)))) pe_int (fun _ _ => rfl))))), ?_⟩
    refine ⟨_, rfl, _, rfl, v, k, rows, wd, rfl, M, ok, hw, hwl, fun H1 s1 => ?_⟩
    refine ⟨_, rfl, _, rfl, v, k, rows, u, rfl, M.same s1, ok.k4, hu, hul, fun H2 s2 => ?_⟩
    refine ⟨_, rfl, _, rfl, _, rfl, v, k, rows, wd, u, rfl, M.same (s1.trans s2), ok, hw, hwl, hu, hul, fun H3 t s3 et => ?_⟩
    exact ⟨t, _, 0, _, rfl, rfl, SqT.of et, rfl, q H3 ((s1.trans s2).trans s3)⟩
theorem ok_section (D : Df K mg "section_of" "section_of" 40 ["machine", "word", "string"]) (CW : Cl P w K mg base 5 "check_word" spCheckW) (CS : Cl P w K mg base 3 "check_string_sections" spCheckS) (MD : Cl P w K mg base 4 "moved" spMod) : Cl P w K mg base 6 "section_of" spSection := by
  refine D.cl scSection (fun vs H Q E h => ?_) (fun f cdv A outer s H vs Q E hr h => ?_)
  · obtain ⟨v, k, rows, wd, u, rfl, _⟩ := h
    rfl
  · obtain ⟨v, k, rows, wd, u, rfl, M, ok, hw, hwl, hu, hul, q⟩ := h
    refine ⟨_, pss_cons (ps_expr (pcl hr CW (pa_cons (pv 0) (pa_cons (pv 1) pa_nil)))) (pss_cons (ps_expr (pcl hr CS (pa_cons (pv 0) (pa_cons (pv 2) pa_nil))))
      (pss_one (ps_ret (pe_ix ix_tup (pcl hr MD (pa_cons (pv 0) (pa_cons (pv 1) (pa_cons (pv 2) pa_nil)))) pe_int (fun _ _ => rfl))))), ?_⟩
    refine ⟨_, rfl, _, rfl, v, k, rows, wd, rfl, M, ok, hw, hwl, fun H1 s1 => ?_⟩
    refine ⟨_, rfl, _, rfl, v, k, rows, u, rfl, M.same s1, ok.k4, hu, hul, fun H2 s2 => ?_⟩
    refine ⟨_, rfl, _, rfl, _, rfl, v, k, rows, wd, u, rfl, M.same (s1.trans s2), ok, hw, hwl, hu, hul, fun H3 t s3 et => ?_⟩
    exact ⟨t, _, 1, _, rfl, rfl, SqT.of et, rfl, q H3 ((s1.trans s2).trans s3)⟩
end
end Lf

/-! The law's draws, and its arrangements. -/
namespace Lf
open PySem PySem.Spec PyProof.Rows L2
section
variable {P : Program} {w : World} {K : PySem.W.Frag} {mg : Str → Option Value} {base : Heap}
/-! ### _law_number -/
def spNumber : Sp := fun vs H Q _ => ∃ i : Int, vs = [.int i] ∧ ∀ j, Q (.int j) H
theorem scNumber : FnScope ["_law_cell"] ["_law_cell"] (defScope (top 42)) := ⟨rfl, rfl, rfl, by decide +kernel, rfl, by decide +kernel, by decide +kernel⟩
theorem ok_number (D : Df K mg "_law_number" "_law_number" 42 ["_law_cell"]) : Cl P w K mg base 1 "_law_number" spNumber := by
  refine D.cl scNumber (fun vs H Q E h => ?_) (fun f cdv A outer s H vs Q E hr h => ?_)
  · obtain ⟨i, rfl, _⟩ := h
    rfl
  · obtain ⟨i, rfl, q⟩ := h
    refine ⟨_, pss_cons (ps_if (pt_cmpR op_lt (pv 0) pe_int (nomark _)) (pss_one (ps_ret (pe_op op_sub pe_int (pv 0)))) pss_nil) (pss_one (ps_ret (pv 0))), ?_⟩
    refine ⟨_, rfl, _, _, rfl, rfl, _, rfl, ?_⟩
    refine ite2 (fun _ => ?_) (fun _ => ?_)
    · exact ⟨_, rfl, _, _, rfl, rfl, q _⟩
    · exact ⟨_, rfl, q _⟩

/-! ### _law_draws -/
/-- a list of ints, not longer than n -/
def DrN (n : Nat) (d : Addr) (H : Hp) : Prop := ∃ ns : List Int, H d = some (.lst (ns.map V.int)) ∧ ns.length ≤ n
theorem DrN.dr {n : Nat} {d : Addr} {H : Hp} (h : DrN n d H) : Dr d H := let ⟨ns, e, _⟩ := h; ⟨ns, e⟩
def spDraws (K : PySem.W.Frag) : Sp := fun vs H Q _ => ∃ (a : Addr) (ns : List Int), vs = [.ref a] ∧ SqL K H a (ns.map V.int) ∧ ns.length ≤ 63 ∧ ∀ H' d, Same H H' → Dr d H' → Q (.ref d) H'
abbrev nDraws : List Str := ["_law_script", "_law_draws_here", "_law_cell", "_law_rest", "_law_k", "_law_once", "_law_twice"]
theorem scDraws : FnScope nDraws ["_law_script"] (defScope (top 43)) := ⟨rfl, rfl, rfl, by decide +kernel, rfl, by decide +kernel, by decide +kernel⟩
theorem DrN.app {n : Nat} {d : Addr} {H : Hp} {ns : List Int} (e : H d = some (.lst (ns.map V.int))) (h : ns.length < n) (z : Int) : DrN n d (upd H d (.lst (ns.map V.int ++ [.int z]))) :=
  ⟨ns ++ [z], by rw [upd_same, List.map_append]; rfl, by rw [List.length_append]; exact h⟩
theorem ok_draws (D : Df K mg "_law_draws" "_law_draws" 43 ["_law_script"]) (G : Gs mg) (NU : Cl P w K mg base 1 "_law_number" spNumber) : Cl P w K mg base 2 "_law_draws" (spDraws K) := by
  refine D.cl scDraws (fun vs H Q E h => ?_) (fun f cdv A outer s H vs Q E hr h => ?_)
  · obtain ⟨a, ns, rfl, _⟩ := h
    rfl
  · obtain ⟨a, ns, rfl, hS, hl, q⟩ := h
    refine ⟨_, pss_cons (ps_set (i := 1) scDraws.nd rfl (Or.inl rfl) (pe_lst pa_nil))
      (pss_cons (ps_for PassesOwn.never rfl (pi_list (pv 0)) (pgl 2 scDraws.nd rfl rfl)
        (pss_cons (ps_set (i := 3) scDraws.nd rfl (Or.inl rfl) (pcl hr NU (pa_cons (pv 2) pa_nil)))
        (pss_one (ps_if (pt_cmpR op_ge (pv 3) pe_int (nomark _))
          (pss_one (ps_for PassesOwn.never rfl (pi_range1 (by rfl) G.range (pa_cons pe_int pa_nil)) (pgl 4 scDraws.nd rfl rfl)
            (pss_cons (ps_if (pt_cmpR op_eq (pv 3) pe_int (nomark _)) (pss_one ps_break) pss_nil)
            (pss_cons (ps_expr (pe_bm PySem.F.plainAttrs_list PySem.F.slot_list_append PySem.F.type_list_append mt_append (pv 1) (pa_cons (pe_op op_mod (pe_callTy call_int1 (by rfl) G.int (by decide +kernel) (pa_cons (pv 3) pa_nil)) pe_int) pa_nil)))
            (pss_one (ps_set (i := 3) scDraws.nd rfl (Or.inl rfl) (pe_op op_fdiv (pv 3) pe_int)))))))
          (pss_cons (ps_set (i := 5) scDraws.nd rfl (Or.inl rfl) (pe_op op_mod (pe_callTy call_int1 (by rfl) G.int (by decide +kernel) (pa_cons (pe_op op_add (pe_op op_mul (pv 3) pe_int) pe_int) pa_nil)) pe_int))
          (pss_cons (ps_set (i := 6) scDraws.nd rfl (Or.inl rfl) (pe_op op_mod (pe_callTy call_int1 (by rfl) G.int (by decide +kernel) (pa_cons (pe_op op_add (pe_op op_mul (pv 5) pe_int) (pv 3)) pa_nil)) pe_int))
          (pss_one (ps_expr (pe_bm PySem.F.plainAttrs_list PySem.F.slot_list_extend PySem.F.type_list_extend mt_extend (pv 1) (pa_cons (pe_lst
            (pa_cons (pe_op op_mod (pe_callTy call_int1 (by rfl) G.int (by decide +kernel) (pa_cons (pv 3) pa_nil)) pe_int)
            (pa_cons (pe_op op_mod (pe_callTy call_int1 (by rfl) G.int (by decide +kernel) (pa_cons (pv 5) pa_nil)) pe_int)
            (pa_cons (pe_op op_mod (pe_callTy call_int1 (by rfl) G.int (by decide +kernel) (pa_cons (pv 6) pa_nil)) pe_int) pa_nil)))) pa_nil))))))))))
      (pss_one (ps_ret (pv 1)))), ?_⟩
    refine ⟨Nat.zero_le _, fun L nL => ?_⟩
    refine ⟨_, rfl, a, rfl, ⟨_, (same_upd nL).seq hS⟩, ?_⟩
    refine for_list (K := K) (a := a) (xs := ns.map V.int) (fun i σ H' => ∃ v2 v3 v4 v5 v6, σ = [some (.ref a), some (.ref L), v2, v3, v4, v5, v6] ∧ Same H H' ∧ DrN (60 * i) L H')
      ⟨none, none, none, none, none, rfl, same_upd nL, [], upd_same, Nat.le_refl _⟩ (fun i σ H1 _ ⟨_, _, _, _, _, _, s1, _⟩ => s1.seq hS) ?_ ?_
    · rintro i x σ H1 hx ⟨v2, v3, v4, v5, v6, rfl, s1, ms, e1, hm⟩
      have hi : i < 63 := by
        have := (List.getElem?_eq_some_iff.mp hx).1
        rw [List.length_map] at this
        omega
      obtain ⟨z, rfl⟩ : ∃ z, x = V.int z := by
        rw [List.getElem?_map] at hx
        cases e : ns[i]? with
        | none => rw [e] at hx; cases hx
        | some z => rw [e] at hx; exact ⟨z, (Option.some.inj hx).symm⟩
      refine ⟨_, rfl, z, rfl, fun j => ?_⟩
      refine ⟨_, rfl, _, _, rfl, rfl, _, rfl, ?_⟩
      refine ite2 (fun _ => ?_) (fun hlt => ?_)
      · -- a great number
        refine ⟨60, rfl, by decide, by decide, ?_⟩
        refine for_range (n := 60) (fun t σ H' => ∃ v2 j v4 v5 v6, σ = [some (.ref a), some (.ref L), v2, some (.int j), v4, v5, v6] ∧ Same H H' ∧ DrN (60 * i + t) L H')
          ⟨_, _, _, _, _, rfl, s1, ms, e1, hm⟩ ?_ ?_
        · rintro t σ H2 ht ⟨v2, j, v4, v5, v6, rfl, s2, ks, e2, hk⟩
          refine ⟨_, rfl, rfl, _, rfl, ?_⟩
          refine ite2 (fun _ => ?_) (fun _ => ?_)
          · exact ⟨_, _, _, _, _, rfl, s2, ks, e2, by omega⟩
          · refine ⟨_, rfl, .inl ⟨rfl, _, SqL.of e2⟩, _, rfl, .inl ⟨_, rfl, _, _, rfl, rfl, (by show (0 : Int) < 1000; decide), L, _, _, rfl, rfl, e2, by rw [List.length_map]; exact Nat.lt_of_le_of_lt hk (Nat.lt_of_lt_of_le (show 60 * i + t < 10000 by omega) (by decide)), ?_⟩⟩
            refine ⟨_, rfl, _, _, rfl, rfl, ⟨by decide, by decide⟩, ?_⟩
            exact ⟨_, _, _, _, _, rfl, same_put s2 nL, DrN.app e2 (by omega) _⟩
        · rintro σ H2 ⟨v2, j, v4, v5, v6, rfl, s2, ks, e2, hk⟩
          exact ⟨_, _, _, _, _, rfl, s2, ks, e2, by omega⟩
      · -- a small number
        have hj : j < 1000000000000000000 := by
          have : ¬ ((1000000000000000000 : Int) ≤ j) := fun h => hlt (decide_eq_true h)
          omega
        refine ⟨_, rfl, _, _, rfl, rfl, .inr ⟨by decide, by decide⟩, _, _, rfl, rfl, .inl ⟨_, rfl, _, _, rfl, rfl, (by show (0 : Int) < 2147483647; decide), ?_⟩⟩
        refine ⟨_, rfl, _, _, rfl, rfl, .inr ⟨by decide, by decide⟩, _, rfl, _, _, rfl, rfl, .inl ⟨_, rfl, _, _, rfl, rfl, (by show (0 : Int) < 2147483629; decide), ?_⟩⟩
        refine ⟨_, rfl, .inl ⟨rfl, _, SqL.of e1⟩, ?_⟩
        refine ⟨_, rfl, .inl ⟨_, rfl, _, _, rfl, rfl, (by show (0 : Int) < 1000; decide), ?_⟩⟩
        refine ⟨_, rfl, .inl ⟨_, rfl, _, _, rfl, rfl, (by show (0 : Int) < 1000; decide), ?_⟩⟩
        refine ⟨_, rfl, .inl ⟨_, rfl, _, _, rfl, rfl, (by show (0 : Int) < 1000; decide), ?_⟩⟩
        refine ⟨by show 3 ≤ sizeLine; decide, fun B nB => ?_⟩
        have nLB : L ≠ B := ne_of_none e1 nB
        refine ⟨L, B, _, _, rfl, rfl, (by rw [upd_ne nLB]; exact e1), upd_same, ?_, ?_⟩
        · rw [List.length_map]
          show ms.length + 3 ≤ sizeLine
          exact Nat.le_trans (show ms.length + 3 ≤ 10000 by omega) (by decide)
        · refine ⟨_, _, _, _, _, rfl, same_put (same_new s1 nB) nL, ms ++ [j % 1000, (j * 48271 + 11) % 2147483647 % 1000, ((j * 48271 + 11) % 2147483647 * 69621 + j) % 2147483629 % 1000], ?_, ?_⟩
          · rw [upd_same, List.map_append]
            rfl
          · rw [List.length_append]
            show ms.length + 3 ≤ _
            omega
    · rintro σ H1 ⟨v2, v3, v4, v5, v6, rfl, s1, d1⟩
      exact ⟨_, rfl, q H1 L s1 d1.dr⟩

/-! ### _law_next, a draw -/
def spNext : Sp := fun vs H Q _ => ∃ d, vs = [.ref d] ∧ Dr d H ∧ ∀ z H', Dr d H' → Keep d H H' → Q (.int z) H'
theorem scNext : FnScope ["_law_draws_here"] ["_law_draws_here"] (defScope (top 44)) := ⟨rfl, rfl, rfl, by decide +kernel, rfl, by decide +kernel, by decide +kernel⟩
theorem ok_next (D : Df K mg "_law_next" "_law_next" 44 ["_law_draws_here"]) : Cl P w K mg base 1 "_law_next" spNext := by
  refine D.cl scNext (fun vs H Q E h => ?_) (fun f cdv A outer s H vs Q E hr h => ?_)
  · obtain ⟨d, rfl, _⟩ := h
    rfl
  · obtain ⟨d, rfl, ⟨ns, e⟩, q⟩ := h
    refine ⟨_, pss_cons (ps_if (pt_truth (pv 0) (by intro _; rfl)) (pss_one (ps_ret (pe_bm0 PySem.F.plainAttrs_list PySem.F.slot_list_pop PySem.F.type_list_pop mt_pop (pv 0)))) pss_nil) (pss_one (ps_ret pe_int)), ?_⟩
    rcases List.eq_nil_or_concat ns with rfl | ⟨ms, z, rfl⟩
    · refine ⟨_, rfl, false, .inl ⟨_, SqL.of e, rfl⟩, ?_⟩
      refine iteF ?_
      exact q _ H ⟨_, e⟩ (Keep.refl d H)
    · have em : (ms ++ [z]).map V.int = ms.map V.int ++ [V.int z] := by
        rw [List.map_append]
        rfl
      rw [List.concat_eq_append, em] at e
      refine ⟨_, rfl, true, .inl ⟨_, SqL.of e, ?_⟩, ?_⟩
      · cases ms.map V.int <;> rfl
      refine iteT ?_
      refine ⟨_, rfl, .inl ⟨rfl, _, SqL.of e⟩, d, _, V.int z, rfl, rfl, e, ?_, ?_⟩
      · rw [List.length_append]
        show (ms.map V.int ++ [V.int z])[(ms.map V.int).length + 1 - 1]? = _
        rw [Nat.add_sub_cancel, List.getElem?_append_right (Nat.le_refl _), Nat.sub_self]
        rfl
      · refine q z _ ⟨ms, ?_⟩ (fun b o hb eb => ?_)
        · rw [upd_same, List.dropLast_concat]
        · rw [upd_ne hb]
          exact eb
/-- int(_law_next(_law_draws_here)) -/
def tDraw (i : Nat) : TE := fun σ H Q => ∃ d, σ[i]? = some (some (.ref d)) ∧ Dr d H ∧ ∀ z H', Dr d H' → Keep d H H' → Q (.int z) H'
theorem pe_draw {X : Cx} {j : Nat} {p1 p2 p3 p4 p5 : Pos} (i : Nat) (hr : Room j X.A) (NX : Cl X.prog X.w X.K X.mg X.base 1 "_law_next" spNext) (mi : X.mg "int" = none) (hN : X.N[i]? = some ("_law_draws_here" : Str) := by rfl)
    (hv : Vis X.env.scope "_law_draws_here" := by first | exact Or.inl rfl | exact Or.inr (Or.inl rfl) | exact Or.inr (Or.inr rfl)) (g1 : Gl X "int" := by rfl) (g2 : Gl X "_law_next" := by rfl) (hj : 1 ≤ j := by decide) :
    PE X (.Call (.Name "int" p1) [.Call (.Name "_law_next" p2) [.Name "_law_draws_here" p3] [] p4] [] p5) (tDraw i) := by
  refine ⟨fun pins s σ H Q I h => ?_⟩
  refine (pe_callTy (p := p1) (pos := p5) call_int1 g1 mi (by decide +kernel) (pa_cons (pcl (p := p2) (pos := p4) hr NX (pa_cons (pe_var (pos := p3) hN hv) pa_nil) g2 hj) pa_nil)).run pins s σ H Q I ?_
  obtain ⟨d, hs, D, q⟩ := h
  exact ⟨_, hs, d, rfl, D, fun z H' D' k' => .inl ⟨z, rfl, q z H' D' k'⟩⟩

/-! ### _law_arranged -/
def nv (n : Nat) : V := V.int (n : Nat)
def spArr : Sp := fun vs H Q _ => ∃ (d : Addr) (k : Nat), vs = [.ref d, .int (k : Nat)] ∧ k ≤ 4 ∧ Dr d H ∧ ∀ (H' : Hp) (p : Addr) (os : List Nat), Dr d H' → Keep d H H' → H p = none → H' p = some (.lst (os.map nv)) → os.Perm (List.range k) → Q (.ref p) H'
abbrev nArr : List Str := ["_law_draws_here", "_law_size", "_law_left", "_law_found", "_law_k", "_law_at"]
theorem scArr : FnScope nArr ["_law_draws_here", "_law_size"] (defScope (top 45)) := ⟨rfl, rfl, rfl, by decide +kernel, rfl, by decide +kernel, by decide +kernel⟩
theorem cut_to (xs : List V) (j : Nat) : cutV xs none (some (j : Int)) = xs.take j := by
  unfold cutV
  rw [show HT.sIx xs.length 0 none = 0 from rfl, HT.sIx_nat, List.drop_zero, Nat.sub_zero, List.take_eq_take_iff]
  omega
theorem cut_from (xs : List V) (j : Nat) : cutV xs (some (j : Int)) none = xs.drop j := by
  unfold cutV
  rw [HT.sIx_nat, show HT.sIx xs.length xs.length none = xs.length from rfl]
  by_cases h : j ≤ xs.length
  · rw [Nat.min_eq_left h, List.take_of_length_le (by rw [List.length_drop]; exact Nat.le_refl _)]
  · rw [Nat.min_eq_right (by omega), Nat.sub_self, List.take_zero, List.drop_eq_nil_of_le (by omega)]
theorem perm_step {found left : List Nat} {j x : Nat} (h : left[j]? = some x) : ((found ++ [x]) ++ (left.take j ++ left.drop (j + 1))).Perm (found ++ left) := by
  have hj := (List.getElem?_eq_some_iff.mp h).1
  have ex := (List.getElem?_eq_some_iff.mp h).2
  have e : left = left.take j ++ x :: left.drop (j + 1) := by
    rw [← ex, List.getElem_cons_drop, List.take_append_drop]
  rw [List.append_assoc]
  refine List.Perm.append_left _ ?_
  conv => rhs; rw [e]
  show (x :: (left.take j ++ left.drop (j + 1))).Perm _
  exact (List.perm_middle).symm
theorem ok_arr (D : Df K mg "_law_arranged" "_law_arranged" 45 ["_law_draws_here", "_law_size"]) (G : Gs mg) (NX : Cl P w K mg base 1 "_law_next" spNext) : Cl P w K mg base 2 "_law_arranged" spArr := by
  refine D.cl scArr (fun vs H Q E h => ?_) (fun f cdv A outer s H vs Q E hr h => ?_)
  · obtain ⟨d, k, rfl, _⟩ := h
    rfl
  · obtain ⟨d, k, rfl, k4, Dd, q⟩ := h
    refine ⟨_, pss_cons (ps_set (i := 2) scArr.nd rfl (Or.inl rfl) (pe_listRg rfl (by rfl) G.list (prg_1 (by rfl) G.range (pv 1))))
      (pss_cons (ps_set (i := 3) scArr.nd rfl (Or.inl rfl) (pe_lst pa_nil))
      (pss_cons (ps_for PassesOwn.never rfl (pi_range1 (by rfl) G.range (pa_cons (pv 1) pa_nil)) (pgl 4 scArr.nd rfl rfl)
        (pss_cons (ps_set (i := 5) scArr.nd rfl (Or.inl rfl) (pe_op op_mod (pe_draw 0 hr NX G.int) (pe_callB call_len_seq (by rfl) G.len PySem.boot_len (pa_cons (pv 2) pa_nil))))
        (pss_cons (ps_expr (pe_bm PySem.F.plainAttrs_list PySem.F.slot_list_append PySem.F.type_list_append mt_append (pv 3) (pa_cons (pe_ix ix_list (pv 2) (pv 5) (fun _ _ => rfl)) pa_nil)))
        (pss_one (ps_set (i := 2) scArr.nd rfl (Or.inl rfl) (pe_op op_cat (pe_slice sl_list (pv 2) po_none (po_some (pv 5))) (pe_slice sl_list (pv 2) (po_some (pe_op op_add (pv 5) pe_int)) po_none)))))))
      (pss_one (ps_ret (pv 3))))), ?_⟩
    obtain ⟨ds, hd⟩ := id Dd
    refine ⟨_, rfl, k, rfl, RgOk.of_le (by omega) (by omega) (by omega) (by omega), fun l0 nl0 => ?_⟩
    refine ⟨Nat.zero_le _, fun R nR => ?_⟩
    have nR0 : H R = none := (same_upd nl0).free nR
    have erg : rgV 0 k = (List.range k).map nv := by
      unfold rgV
      rw [show ((k : Int) - 0).toNat = k by omega]
      refine List.map_congr_left fun i _ => ?_
      show V.int (0 + (i : Int)) = V.int (i : Int)
      rw [Int.zero_add]
    have n0R : l0 ≠ R := fun e => by
      rw [← e, upd_same] at nR
      cases nR
    refine ⟨_, rfl, k, rfl, by omega, by omega, ?_⟩
    rw [Int.toNat_natCast]
    refine for_range (n := k) (fun i σ H' => ∃ l left found v4 v5, σ = [some (.ref d), some (.int (k : Nat)), some (.ref l), some (.ref R), v4, v5] ∧ Dr d H' ∧ Keep d H H' ∧ l ≠ d ∧ R ≠ d ∧ l ≠ R ∧ H l = none ∧
        H' l = some (.lst (left.map nv)) ∧ H' R = some (.lst (found.map nv)) ∧ (found ++ left).Perm (List.range k) ∧ left.length + i = k)
      ⟨l0, List.range k, [], none, none, rfl, ⟨ds, same_new (same_upd nl0) nR _ _ hd⟩, same_keep (same_new (same_upd nl0) nR), (ne_of_none hd nl0).symm, (ne_of_none hd nR0).symm, n0R, nl0,
        (by rw [upd_ne n0R, upd_same, erg]), upd_same, List.Perm.refl _, by rw [List.length_range]; rfl⟩ ?_ ?_
    · rintro i σ H1 hi ⟨l, left, found, v4, v5, rfl, D1, k1, nld, nRd, nlR, nl, hl, hR, hperm, hlen⟩
      refine ⟨d, rfl, D1, fun z H2 D2 k2 => ?_⟩
      have hl2 := k2 _ _ nld hl
      have hR2 := k2 _ _ nRd hR
      have hpos : (0 : Int) < ((left.map nv).length : Int) := by
        rw [List.length_map]
        omega
      refine ⟨_, rfl, l, _, rfl, .inl (SqL.of hl2), _, _, rfl, rfl, hpos, ?_⟩
      have h0 := Int.emod_nonneg z (show ((left.map nv).length : Int) ≠ 0 by omega)
      have h1 := Int.emod_lt_of_pos z hpos
      have ez : z % ((left.map nv).length : Int) = ((z % ((left.map nv).length : Int)).toNat : Nat) := (Int.toNat_of_nonneg h0).symm
      dsimp only
      rw [ez]
      have hjl : (z % ((left.map nv).length : Int)).toNat < left.length := by
        rw [List.length_map] at h1 h0 ⊢
        omega
      generalize (z % ((left.map nv).length : Int)).toNat = j at hjl
      have hx : left[j]? = some left[j] := List.getElem?_eq_getElem hjl
      have hxv : (left.map nv)[j]? = some (nv left[j]) := by rw [List.getElem?_map, hx]; rfl
      have hfl : found.length ≤ 4 := by
        have := hperm.length_eq
        rw [List.length_append, List.length_range] at this
        omega
      -- _law_found.append(_law_left[_law_at])
      refine ⟨_, rfl, .inl ⟨rfl, _, SqL.of hR2⟩, _, rfl, _, rfl, l, _, _, _, rfl, rfl, SqL.of hl2, atI_nat hxv, R, _, _, rfl, rfl, hR2, by rw [List.length_map]; exact lt_line (by omega), ?_⟩
      have hl3 : upd H2 R (.lst (found.map nv ++ [nv left[j]])) l = some (.lst (left.map nv)) := by rw [upd_ne nlR]; exact hl2
      have k3 : Keep d H (upd H2 R (.lst (found.map nv ++ [nv left[j]]))) := fun b o hb eb => by
        rw [upd_ne (ne_of_none eb nR0)]
        exact k2 _ _ hb (k1 _ _ hb eb)
      have D3 : Dr d (upd H2 R (.lst (found.map nv ++ [nv left[j]]))) := by
        obtain ⟨es, he⟩ := D2
        exact ⟨es, by rw [upd_ne nRd.symm]; exact he⟩
      have hR3 : upd H2 R (.lst (found.map nv ++ [nv left[j]])) R = some (.lst (found.map nv ++ [nv left[j]])) := upd_same
      generalize upd H2 R (.lst (found.map nv ++ [nv left[j]])) = H3 at hl3 k3 D3 hR3
      -- the rest
      refine ⟨_, rfl, _, rfl, _, rfl, l, _, rfl, SqL.of hl3, fun a na => ?_⟩
      refine ⟨_, rfl, _, rfl, _, _, rfl, rfl, _, rfl, l, _, rfl, (same_upd na).seq (SqL.of hl3), fun b nb => ?_⟩
      have nab : a ≠ b := fun e => by
        rw [← e, upd_same] at nb
        cases nb
      have e1 : cutV (left.map nv) none (some ((j : Nat) : Int)) = (left.take j).map nv := by rw [cut_to, List.map_take]
      have e2 : cutV (left.map nv) (some ((j : Int) + 1)) none = (left.drop (j + 1)).map nv := by
        rw [show (j : Int) + 1 = ((j + 1 : Nat) : Int) by omega, cut_from, List.map_drop]
      refine ⟨a, b, _, _, rfl, rfl, (by rw [upd_ne nab, upd_same]), upd_same, ?_, fun p np => ?_⟩
      · rw [e1, e2, List.length_map, List.length_map, List.length_take, List.length_drop]
        exact le_line (by omega)
      · have s4 : Same H3 (upd (upd (upd H3 a (.lst (cutV (left.map nv) none (some ((j : Nat) : Int))))) b (.lst (cutV (left.map nv) (some ((j : Int) + 1)) none))) p (.lst (cutV (left.map nv) none (some ((j : Nat) : Int)) ++ cutV (left.map nv) (some ((j : Int) + 1)) none))) :=
          same_new (same_new (same_upd na) nb) np
        have s3 : Same H3 (upd (upd H3 a (.lst (cutV (left.map nv) none (some ((j : Nat) : Int))))) b (.lst (cutV (left.map nv) (some ((j : Int) + 1)) none))) := same_new (same_upd na) nb
        have np3 : H3 p = none := s3.free np
        have npd : p ≠ d := fun e => by
          obtain ⟨es, he⟩ := D3
          rw [e, he] at np3
          cases np3
        have npR : p ≠ R := fun e => by
          rw [e, hR3] at np3
          cases np3
        have np0 : H p = none := by
          cases e : H p with
          | none => rfl
          | some o =>
            have := k3 _ _ npd e
            rw [np3] at this
            cases this
        refine ⟨p, left.take j ++ left.drop (j + 1), found ++ [left[j]], _, _, rfl, ?_, k3.trans (same_keep s4), npd, nRd, npR, np0, ?_, ?_, (perm_step hx).trans hperm, ?_⟩
        · obtain ⟨es, he⟩ := D3
          exact ⟨es, s4 _ _ he⟩
        · rw [upd_same, e1, e2, List.map_append]
        · rw [s4 _ _ hR3, List.map_append]
          rfl
        · rw [List.length_append, List.length_take, List.length_drop]
          omega
    · rintro σ H1 ⟨l, left, found, v4, v5, rfl, D1, k1, nld, nRd, nlR, nl, hl, hR, hperm, hlen⟩
      have e0 : left = [] := List.eq_nil_of_length_eq_zero (by omega)
      rw [e0, List.append_nil] at hperm
      exact ⟨_, rfl, q H1 R found D1 k1 nR0 hR hperm⟩
end
end Lf

/-! The law's machine, words and strings. -/
namespace Lf
open PySem PySem.Spec PyProof.Rows L2
/-! ### heaps once more: tuples stay -/
def TupK (H H' : Hp) : Prop := ∀ b xs, H b = some (.tup xs) → H' b = some (.tup xs)
theorem TupK.of_same {H H' : Hp} (s : Same H H') : TupK H H' := fun b xs e => s b _ e
theorem TupK.of_keep {d : Addr} {H H' : Hp} (D : Dr d H) (s : Keep d H H') : TupK H H' := fun b xs e => let ⟨_, hd⟩ := D; s _ _ (ne_lst hd e) e
theorem TupK.of_put {H : Hp} {L : Addr} {xs : List V} {o : HO} (h : H L = some (.lst xs)) : TupK H (upd H L o) := fun b ys e => by
  rw [upd_ne (ne_lst h e)]
  exact e
theorem TupK.trans {H H1 H2 : Hp} (a : TupK H H1) (b : TupK H1 H2) : TupK H H2 := fun c xs e => b c xs (a c xs e)
section
variable {H H' : Hp} {v : V}
theorem EntH.tk {e : Nat × Nat} (s : TupK H H') (h : EntH H v e) : EntH H' v e := let ⟨a, p, q⟩ := h; ⟨a, p, s _ _ q⟩
theorem RowH.tk {r : List (Nat × Nat)} (s : TupK H H') (h : RowH H v r) : RowH H' v r := let ⟨a, ts, p, q, z⟩ := h; ⟨a, ts, p, s _ _ q, Paired.map (fun _ _ => EntH.tk s) z⟩
end
theorem Keep.put {d L : Addr} {H0 H : Hp} {o : HO} (k : Keep d H0 H) (n : H0 L = none) : Keep d H0 (upd H L o) := fun b x hb e => by
  rw [upd_ne (ne_of_none e n)]
  exact k b x hb e
theorem Dr.put {d L : Addr} {H : Hp} {o : HO} (D : Dr d H) (n : L ≠ d) : Dr d (upd H L o) := let ⟨ns, e⟩ := D; ⟨ns, by rw [upd_ne n.symm]; exact e⟩
theorem Dr.same {d : Addr} {H H' : Hp} (D : Dr d H) (s : Same H H') : Dr d H' := let ⟨ns, e⟩ := D; ⟨ns, s _ _ e⟩
theorem Dr.ne {d L : Addr} {H : Hp} (D : Dr d H) (n : H L = none) : L ≠ d := let ⟨_, e⟩ := D; (ne_of_none e n).symm
theorem none_keep {d L : Addr} {H H' : Hp} (k : Keep d H H') (n : H' L = none) (nd : L ≠ d) : H L = none := by
  cases e : H L with
  | none => rfl
  | some o =>
    have := k _ _ nd e
    rw [n] at this
    cases this
/-! ### residues -/
theorem mod_nat (z : Int) {m : Nat} (h : 0 < m) : ∃ j : Nat, j < m ∧ z % (m : Int) = (j : Int) := by
  have h0 := Int.emod_nonneg z (show (m : Int) ≠ 0 by omega)
  have h1 := Int.emod_lt_of_pos z (show (0 : Int) < (m : Int) by omega)
  exact ⟨(z % (m : Int)).toNat, by omega, (Int.toNat_of_nonneg h0).symm⟩
theorem size_at (j : Nat) (h : j < 5) : ∃ k : Nat, 2 ≤ k ∧ k ≤ 4 ∧ ([V.int 2, V.int 2, V.int 2, V.int 3, V.int 4] : List V)[j]? = some (.int (k : Nat)) := by
  have : j = 0 ∨ j = 1 ∨ j = 2 ∨ j = 3 ∨ j = 4 := by omega
  rcases this with rfl | rfl | rfl | rfl | rfl
  · exact ⟨2, by decide, by decide, rfl⟩
  · exact ⟨2, by decide, by decide, rfl⟩
  · exact ⟨2, by decide, by decide, rfl⟩
  · exact ⟨3, by decide, by decide, rfl⟩
  · exact ⟨4, by decide, by decide, rfl⟩
theorem nv_get {xs : List Nat} {i x : Nat} (h : xs[i]? = some x) : (xs.map nv)[i]? = some (nv x) := by rw [List.getElem?_map, h]; rfl
theorem zip_fst {k : Nat} {os ns : List Nat} (h1 : os.length = k) (h2 : ns.length = k) : (os.zip ns).map Prod.fst = os := by
  rw [List.map_fst_zip (by omega)]
theorem rowOk_zip {k n : Nat} {os ns : List Nat} (hp : os.Perm (List.range k)) (h2 : ns.length = k) (hn : ∀ x ∈ ns, x < n) : RowOk k n (os.zip ns) := by
  have h1 : os.length = k := by rw [hp.length_eq, List.length_range]
  refine ⟨by rw [List.length_zip]; omega, by rw [zip_fst h1 h2]; exact hp, fun e he => ?_⟩
  exact hn _ (List.of_mem_zip he).2
theorem rowOk_rest {k n c : Nat} (h : c < n) : RowOk k n ((List.range k).map fun j => (j, c)) := by
  refine ⟨by rw [List.length_map, List.length_range], ?_, fun e he => ?_⟩
  · rw [List.map_map]
    have : (List.range k).map (Prod.fst ∘ fun j => (j, c)) = List.range k := by
      rw [show (Prod.fst ∘ fun j : Nat => (j, c)) = id from rfl, List.map_id]
    rw [this]
  · obtain ⟨j, _, rfl⟩ := List.mem_map.mp he
    exact h
section
variable {P : Program} {w : World} {K : PySem.W.Frag} {mg : Str → Option Value} {base : Heap}
def spMachine : Sp := fun vs H Q _ => ∃ d, vs = [.ref d, .int 3] ∧ Dr d H ∧ ∀ (H' : Hp) (v : V) (k : Nat) (rows : Rows), Dr d H' → Keep d H H' → MachH H' v k rows → MOk k rows → Q v H'
abbrev nMach : List Str := ["_law_draws_here", "_law_most", "_law_size", "_law_count", "_law_directed", "_law_rows", "_law_state", "_law_outs", "_law_nexts", "_law_at", "_law_digit"]
theorem scMach : FnScope nMach ["_law_draws_here", "_law_most"] (defScope (top 46)) := ⟨rfl, rfl, rfl, by decide +kernel, rfl, by decide +kernel, by decide +kernel⟩
theorem ok_machineL (D : Df K mg "_law_machine" "_law_machine" 46 ["_law_draws_here", "_law_most"]) (G : Gs mg) (NX : Cl P w K mg base 1 "_law_next" spNext) (AR : Cl P w K mg base 2 "_law_arranged" spArr) : Cl P w K mg base 3 "_law_machine" spMachine := by
  refine D.cl scMach (fun vs H Q E h => ?_) (fun f cdv A outer s H vs Q E hr h => ?_)
  · obtain ⟨d, rfl, _⟩ := h
    rfl
  · obtain ⟨d, rfl, D0, q⟩ := h
    refine ⟨_, pss_cons (ps_set (i := 2) scMach.nd rfl (Or.inl rfl) (pe_ix ix_list (pe_lst (pa_cons pe_int (pa_cons pe_int (pa_cons pe_int (pa_cons pe_int (pa_cons pe_int pa_nil)))))) (pe_op op_mod (pe_draw 0 hr NX G.int) pe_int) (fun _ _ => rfl)))
      (pss_cons (ps_set (i := 3) scMach.nd rfl (Or.inr rfl) (pe_op op_add pe_int (pe_op op_mod (pe_draw 0 hr NX G.int) (pv 1))))
      (pss_cons (ps_set (i := 4) scMach.nd rfl (Or.inl rfl) (pe_cmpR op_eq (pe_op op_mod (pe_draw 0 hr NX G.int) pe_int) pe_int (nomark _)))
      (pss_cons (ps_set (i := 5) scMach.nd rfl (Or.inl rfl) (pe_lst pa_nil))
      (pss_cons (ps_for PassesOwn.never rfl (pi_range1 (by rfl) G.range (pa_cons (pv 3) pa_nil)) (pgl 6 scMach.nd rfl rfl)
        (pss_cons (ps_set (i := 7) scMach.nd rfl (Or.inr rfl) (pcl hr AR (pa_cons (pv 0) (pa_cons (pv 2) pa_nil))))
        (pss_cons (ps_set (i := 8) scMach.nd rfl (Or.inr rfl) (pe_lc (own := [("_law_digit", 10)]) (g := gName 10) (tt := tYes) rfl scMach.nd (pi_range1 (by rfl) G.range (pa_cons (pv 2) pa_nil)) (blkOk_by (N := nMach) (sc := defScope (top 46)) (by decide +kernel))
            (fun _ _ _ _ _ => pgl 10 scMach.nd rfl rfl) (fun _ _ _ _ _ => pts_nil) (fun _ _ _ _ _ => pe_op op_mod (pe_draw 0 hr NX G.int) (pv 3))))
        (pss_cons (ps_if (pt_val (pv 4))
          (pss_cons (ps_set (i := 9) scMach.nd rfl (Or.inr rfl) (pe_op op_mod (pe_draw 0 hr NX G.int) (pv 2)))
          (pss_one (ps_set (i := 8) scMach.nd rfl (Or.inr rfl) (pe_lc (own := [("_law_digit", 10)]) (g := gName 10) (tt := tYes) rfl scMach.nd (pi_range1 (by rfl) G.range (pa_cons (pv 2) pa_nil)) (blkOk_by (N := nMach) (sc := defScope (top 46)) (by decide +kernel))
            (fun _ _ _ _ _ => pgl 10 scMach.nd rfl rfl) (fun _ _ _ _ _ => pts_nil) (fun _ _ _ _ _ => pe_ifExp (pt_cmpR op_eq (pv 10) (pv 9) (nomark _)) (pe_ix (ixlK K) (pv 8) (pv 10) (fun _ _ => rfl)) (pv 3))))))
          pss_nil)
        (pss_one (ps_expr (pe_bm PySem.F.plainAttrs_list PySem.F.slot_list_append PySem.F.type_list_append mt_append (pv 5) (pa_cons (pe_tupleOf (by rfl) G.tuple
          (pe_lc (own := [("_law_digit", 10)]) (g := gName 10) (tt := tYes) rfl scMach.nd (pi_range1 (by rfl) G.range (pa_cons (pv 2) pa_nil)) (blkOk_by (N := nMach) (sc := defScope (top 46)) (by decide +kernel))
            (fun _ _ _ _ _ => pgl 10 scMach.nd rfl rfl) (fun _ _ _ _ _ => pts_nil) (fun _ _ _ _ _ => pe_tup (pa_cons (pe_ix (ixlK K) (pv 7) (pv 10) (fun _ _ => rfl)) (pa_cons (pe_ix (ixlK K) (pv 8) (pv 10) (fun _ _ => rfl)) pa_nil))))) pa_nil))))))))
      (pss_cons (ps_if (pt_val (pv 4))
        (pss_one (ps_expr (pe_bm PySem.F.plainAttrs_list PySem.F.slot_list_append PySem.F.type_list_append mt_append (pv 5) (pa_cons (pe_tupleOf (by rfl) G.tuple
          (pe_lc (own := [("_law_digit", 10)]) (g := gName 10) (tt := tYes) rfl scMach.nd (pi_range1 (by rfl) G.range (pa_cons (pv 2) pa_nil)) (blkOk_by (N := nMach) (sc := defScope (top 46)) (by decide +kernel))
            (fun _ _ _ _ _ => pgl 10 scMach.nd rfl rfl) (fun _ _ _ _ _ => pts_nil) (fun _ _ _ _ _ => pe_tup (pa_cons (pv 10) (pa_cons (pv 3) pa_nil))))) pa_nil))))
        pss_nil)
      (pss_one (ps_ret (pe_tup (pa_cons (pv 2) (pa_cons (pe_tupleOf (by rfl) G.tuple (pv 5)) pa_nil)))))))))), ?_⟩
    -- the size
    refine ⟨by show 5 ≤ sizeLine; decide, fun l0 nl0 => ?_⟩
    have D1 := D0.put (o := .lst [V.int 2, V.int 2, V.int 2, V.int 3, V.int 4]) (D0.ne nl0)
    refine ⟨d, rfl, D1, fun z1 H1 D2 k1 => ?_⟩
    have hl1 : H1 l0 = some (.lst [V.int 2, V.int 2, V.int 2, V.int 3, V.int 4]) := k1 _ _ (D0.ne nl0) upd_same
    have K1 : Keep d H H1 := (same_keep (same_upd nl0)).trans k1
    obtain ⟨j1, hj1, ej1⟩ := mod_nat z1 (m := 5) (by decide)
    obtain ⟨k, k2, k4, hk⟩ := size_at j1 hj1
    refine ⟨_, _, rfl, rfl, (by show (0 : Int) < 5; decide), l0, _, _, _, rfl, rfl, SqL.of hl1, (by show atI _ (z1 % ((5 : Nat) : Int)) = _; rw [ej1]; exact atI_nat hk), ?_⟩
    -- the count
    refine ⟨d, rfl, D2, fun z2 H2 D3 k2' => ?_⟩
    have K2 : Keep d H H2 := K1.trans k2'
    obtain ⟨j2, hj2, ej2⟩ := mod_nat z2 (m := 3) (by decide)
    refine ⟨_, rfl, _, _, rfl, rfl, (by show (0 : Int) < 3; decide), _, _, rfl, rfl, ?_⟩
    dsimp only
    rw [show (1 : Int) + z2 % 3 = ((1 + j2 : Nat) : Int) by rw [show z2 % 3 = (j2 : Int) from ej2]; omega]
    have hc1 : 1 ≤ 1 + j2 := by omega
    have hc3 : 1 + j2 ≤ 3 := by omega
    generalize 1 + j2 = c at hc1 hc3
    -- directed
    refine ⟨d, rfl, D3, fun z3 H3 D4 k3 => ?_⟩
    have K3 : Keep d H H3 := K2.trans k3
    refine ⟨_, _, rfl, rfl, (by show (0 : Int) < 2; decide), rfl, ?_⟩
    generalize decide (V.int (z3 % 2) = V.int 0) = dir
    -- _law_rows = []
    refine ⟨Nat.zero_le _, fun R nR => ?_⟩
    have nRd : R ≠ d := D4.ne nR
    have nR0 : H R = none := none_keep K3 nR nRd
    have D5 := D4.put (o := .lst []) nRd
    have K4 : Keep d H (upd H3 R (.lst [])) := K3.put nR0
    have hR0 : upd H3 R (.lst []) R = some (.lst []) := upd_same
    generalize upd H3 R (.lst []) = H4 at D5 K4 hR0
    have hn : ∃ n : Nat, n = c + (if dir = true then 1 else 0) := ⟨_, rfl⟩
    obtain ⟨n, en⟩ := hn
    have hcn : c ≤ n := by rw [en]; omega
    have hn4 : n ≤ 4 := by
      rw [en]
      split <;> omega
    refine ⟨_, rfl, c, rfl, by omega, by omega, ?_⟩
    rw [Int.toNat_natCast]
    refine for_range (n := c) (fun i σ H' => ∃ v6 v7 v8 v9 rs rows, σ = [some (.ref d), some (.int 3), some (.int (k : Nat)), some (.int (c : Nat)), some (.bl dir), some (.ref R), v6, v7, v8, v9, none] ∧ Dr d H' ∧ Keep d H H' ∧
        H' R = some (.lst rs) ∧ Paired (RowH H') rs rows ∧ rows.length = i ∧ ∀ r ∈ rows, RowOk k n r)
      ⟨none, none, none, none, [], [], rfl, D5, K4, hR0, .nil, rfl, fun _ h => nomatch h⟩ ?_ ?_
    · rintro i σ H5 hi ⟨v6, v7, v8, v9, rs, rows, rfl, D6, K5, hR, hp, hlen, hok⟩
      -- _law_outs
      refine ⟨_, rfl, _, rfl, d, k, rfl, k4, D6, fun H6 O os D7 k6 nO hO hperm => ?_⟩
      have hR6 := k6 _ _ nRd hR
      have hp6 : Paired (RowH H6) rs rows := Paired.map (fun _ _ => RowH.tk (TupK.of_keep D6 k6)) hp
      have K6 := K5.trans k6
      have nOd : O ≠ d := D6.ne nO
      have hol : os.length = k := by rw [hperm.length_eq, List.length_range]
      -- _law_nexts
      refine ⟨_, rfl, k, rfl, by omega, by omega, fun N nN => ?_⟩
      rw [Int.toNat_natCast]
      have nNd : N ≠ d := D7.ne nN
      refine lc_range (n := k) (fun j H' => Dr d H' ∧ Keep d H6 H' ∧ ∃ ns : List Nat, H' N = some (.lst (ns.map nv)) ∧ ns.length = j ∧ ∀ x ∈ ns, x < c)
        ⟨D7.put nNd, same_keep (same_upd nN), [], upd_same, rfl, fun _ h => nomatch h⟩ ?_ ?_
      · rintro j H7 hj ⟨D8, k7, ns, hN, hnl, hnc⟩
        refine ⟨rfl, ?_⟩
        refine ⟨d, rfl, D8, fun z H8 D9 k8 => ?_⟩
        obtain ⟨m, hm, em⟩ := mod_nat z (m := c) (by omega)
        refine ⟨_, rfl, _, _, rfl, rfl, (by show (0 : Int) < (c : Int); omega), _, k8 _ _ nNd hN, by rw [List.length_map]; exact lt_line (by omega), ?_⟩
        refine ⟨D9.put nNd, (k7.trans k8).put nN, ns ++ [m], ?_, by rw [List.length_append, hnl]; rfl, fun x hx => ?_⟩
        · rw [upd_same, List.map_append]
          show some (HO.lst (_ ++ [V.int (z % (c : Int))])) = _
          rw [em]
          rfl
        · rcases List.mem_append.mp hx with hx | hx
          · exact hnc x hx
          · rw [List.mem_singleton.mp hx]
            exact hm
      · rintro H7 ⟨D8, k7, ns, hN, hnl, hnc⟩
        have hR7 := k7 _ _ nRd hR6
        have hp7 : Paired (RowH H7) rs rows := Paired.map (fun _ _ => RowH.tk (TupK.of_keep D7 k7)) hp6
        have hO7 := k7 _ _ nOd hO
        have K7 := K6.trans k7
        -- the rest of the turn: the row from outs and nexts
        have fin : ∀ (v9 : Option V) (H8 : Hp) (N : Addr) (ns : List Nat), Dr d H8 → Keep d H H8 → H8 R = some (.lst rs) → Paired (RowH H8) rs rows → H8 O = some (.lst (os.map nv)) → H8 N = some (.lst (ns.map nv)) → ns.length = k → (∀ x ∈ ns, x < n) →
            tDrop (tBM K "list" rAppend (tVar 5) (tCons (tThen (tLc (iRng1 (tCons (tVar 2) tNil)) (gName 10) tYes (tTup (tCons (tOp (rIxL K) (tVar 7) (tVar 10)) (tCons (tOp (rIxL K) (tVar 8) (tVar 10)) tNil))) [10]) (kTup K)) tNil))
              { nx := fun σ H' => ∃ v6 v7 v8 v9 rs rows, σ = [some (.ref d), some (.int 3), some (.int (k : Nat)), some (.int (c : Nat)), some (.bl dir), some (.ref R), v6, v7, v8, v9, none] ∧ Dr d H' ∧ Keep d H H' ∧
                  H' R = some (.lst rs) ∧ Paired (RowH H') rs rows ∧ rows.length = i + 1 ∧ ∀ r ∈ rows, RowOk k n r, rt := fun _ _ => True }
              [some (.ref d), some (.int 3), some (.int (k : Nat)), some (.int (c : Nat)), some (.bl dir), some (.ref R), some (.int (0 + (i : Nat))), some (.ref O), some (.ref N), v9, none] H8 := fun v9 H8 N ns D9 K8 hR8 hp8 hO8 hN8 hnl hnn => by
          refine ⟨_, rfl, .inl ⟨rfl, _, SqL.of hR8⟩, ?_⟩
          refine ⟨_, rfl, k, rfl, by omega, by omega, fun L nL => ?_⟩
          rw [Int.toNat_natCast]
          refine lc_range (n := k) (fun j H' => Same H8 H' ∧ ∃ es, H' L = some (.lst es) ∧ Paired (EntH H') es ((os.zip ns).take j))
            ⟨same_upd nL, [], upd_same, .nil⟩ ?_ ?_
          · rintro j H9 hj ⟨s9, es, hL, hes⟩
            have ho : os[j]? = some os[j] := List.getElem?_eq_getElem (by omega)
            have hx : ns[j]? = some ns[j] := List.getElem?_eq_getElem (by omega)
            have hz : (os.zip ns)[j]? = some (os[j], ns[j]) := by
              rw [List.getElem?_zip_eq_some]
              exact ⟨ho, hx⟩
            refine ⟨rfl, ?_⟩
            refine ⟨_, rfl, _, rfl, O, _, _, _, rfl, rfl, SqL.of (s9 _ _ hO8), (by rw [Int.zero_add]; exact atI_nat (nv_get ho)), ?_⟩
            refine ⟨_, rfl, _, rfl, N, _, _, _, rfl, rfl, SqL.of (s9 _ _ hN8), (by rw [Int.zero_add]; exact atI_nat (nv_get hx)), by show 2 ≤ sizeLine; decide, fun t nt => ?_⟩
            have nLt : L ≠ t := ne_of_none hL nt
            have hlen2 := Paired.len hes
            rw [List.length_take] at hlen2
            refine ⟨es, (by rw [upd_ne nLt]; exact hL), lt_line (by omega), same_put (same_new s9 nt) nL, es ++ [.ref t], upd_same, ?_⟩
            rw [List.take_add_one, hz]
            have tk : TupK H9 (upd (upd H9 t (.tup [nv os[j], nv ns[j]])) L (.lst (es ++ [.ref t]))) :=
              (TupK.of_same (same_upd nt)).trans (TupK.of_put (xs := es) (by rw [upd_ne nLt]; exact hL))
            refine Paired.snoc (Paired.map (fun _ _ => EntH.tk tk) hes) ⟨t, rfl, ?_⟩
            rw [upd_ne nLt.symm, upd_same]
            rfl
          · rintro H9 ⟨s9, es, hL, hes⟩
            have ez : (os.zip ns).take k = os.zip ns := List.take_of_length_le (by rw [List.length_zip]; omega)
            rw [ez] at hes
            refine .inl ⟨L, es, rfl, SqL.of hL, fun T nT => ?_⟩
            have s10 : Same H8 (upd H9 T (.tup es)) := same_new s9 nT
            have hR10 := s10 _ _ hR8
            have hT : upd H9 T (.tup es) T = some (.tup es) := upd_same
            have hes10 : Paired (EntH (upd H9 T (.tup es))) es (os.zip ns) := Paired.map (fun _ _ => EntH.tk (TupK.of_same (same_upd nT))) hes
            have hp10 : Paired (RowH (upd H9 T (.tup es))) rs rows := Paired.map (fun _ _ => RowH.tk (TupK.of_same s10)) hp8
            generalize upd H9 T (.tup es) = H10 at s10 hR10 hT hes10 hp10
            have hrl := Paired.len hp10
            refine ⟨R, rs, _, rfl, rfl, hR10, lt_line (by omega), ?_⟩
            have tk := TupK.of_put (o := .lst (rs ++ [.ref T])) hR10
            refine ⟨_, _, _, _, rs ++ [.ref T], rows ++ [os.zip ns], rfl, (D9.same s10).put nRd, (K8.trans (same_keep s10)).put nR0, upd_same, Paired.snoc (Paired.map (fun _ _ => RowH.tk tk) hp10) ⟨T, es, rfl, tk _ _ hT, Paired.map (fun _ _ => EntH.tk tk) hes10⟩, by rw [List.length_append, hlen]; rfl, fun r hr' => ?_⟩
            rcases List.mem_append.mp hr' with hr' | hr'
            · exact hok r hr'
            · rw [List.mem_singleton.mp hr']
              exact rowOk_zip hperm hnl hnn
        refine ⟨_, rfl, dir, rfl, ?_⟩
        cases dir with
        | false =>
          refine iteF ?_
          exact fin _ H7 N ns D8 K7 hR7 hp7 hO7 hN hnl (fun x hx => Nat.lt_of_lt_of_le (hnc x hx) hcn)
        | true =>
          have en1 : n = c + 1 := en
          refine iteT ?_
          -- _law_at
          refine ⟨d, rfl, D8, fun z H8 D9 k8 => ?_⟩
          obtain ⟨at', hat, eat⟩ := mod_nat z (m := k) (by omega)
          refine ⟨_, rfl, _, _, rfl, rfl, (by show (0 : Int) < (k : Int); omega), ?_⟩
          dsimp only
          rw [eat]
          have hR8 := k8 _ _ nRd hR7
          have hp8 : Paired (RowH H8) rs rows := Paired.map (fun _ _ => RowH.tk (TupK.of_keep D8 k8)) hp7
          have hO8 := k8 _ _ nOd hO7
          have hN8 := k8 _ _ nNd hN
          have K8 := K7.trans k8
          refine ⟨_, rfl, k, rfl, by omega, by omega, fun M nM => ?_⟩
          rw [Int.toNat_natCast]
          refine lc_range (n := k) (fun j H' => Same H8 H' ∧ ∃ ms : List Nat, H' M = some (.lst (ms.map nv)) ∧ ms.length = j ∧ ∀ x ∈ ms, x < n)
            ⟨same_upd nM, [], upd_same, rfl, fun _ h => nomatch h⟩ ?_ ?_
          · rintro j H9 hj ⟨s9, ms, hM, hml, hmn⟩
            have hx : ns[j]? = some ns[j] := List.getElem?_eq_getElem (by omega)
            have hxc : ns[j] < c := hnc _ (List.mem_of_getElem? hx)
            have put : ∀ x : Nat, x < n → ∃ acc, H9 M = some (.lst acc) ∧ acc.length < sizeLine ∧ Same H8 (upd H9 M (.lst (acc ++ [nv x]))) ∧ ∃ ms : List Nat, upd H9 M (.lst (acc ++ [nv x])) M = some (.lst (ms.map nv)) ∧ ms.length = j + 1 ∧ ∀ x ∈ ms, x < n := fun x hxn => by
              refine ⟨_, hM, by rw [List.length_map]; exact lt_line (by omega), same_put s9 nM, ms ++ [x], ?_, by rw [List.length_append, hml]; rfl, fun y hy => ?_⟩
              · rw [upd_same, List.map_append]
                rfl
              · rcases List.mem_append.mp hy with hy | hy
                · exact hmn y hy
                · rw [List.mem_singleton.mp hy]
                  exact hxn
            refine ⟨rfl, ?_⟩
            refine ⟨_, rfl, _, rfl, rfl, _, rfl, ?_⟩
            refine ite2 (fun _ => ?_) (fun _ => ?_)
            · refine ⟨_, rfl, _, rfl, N, _, _, _, rfl, rfl, SqL.of (s9 _ _ hN8), (by rw [Int.zero_add]; exact atI_nat (nv_get hx)), ?_⟩
              exact put _ (by omega)
            · exact ⟨_, rfl, put c (by omega)⟩
          · rintro H9 ⟨s9, ms, hM, hml, hmn⟩
            exact fin _ H9 M ms (D9.same s9) (K8.trans (same_keep s9)) (s9 _ _ hR8) (Paired.map (fun _ _ => RowH.tk (TupK.of_same s9)) hp8) (s9 _ _ hO8) hM hml hmn
    · rintro σ H5 ⟨v6, v7, v8, v9, rs, rows, rfl, D6, K5, hR, hp, hlen, hok⟩
      -- the end: the pair
      have fin : ∀ (H6 : Hp) (rs : List V) (rows : Rows), Dr d H6 → Keep d H H6 → H6 R = some (.lst rs) → Paired (RowH H6) rs rows → rows.length = n → (∀ r ∈ rows, RowOk k n r) → rs.length ≤ sizeLine →
          ∀ q1, H6 q1 = none → ∀ p, upd H6 q1 (.tup rs) p = none → Q (.ref p) (upd (upd H6 q1 (.tup rs)) p (.tup [.int (k : Nat), .ref q1])) := fun H6 rs rows D7 K6 hR6 hp6 hl6 hok6 _ q1 nq1 p np => by
        have s6 : Same H6 (upd (upd H6 q1 (.tup rs)) p (.tup [.int (k : Nat), .ref q1])) := same_new (same_upd nq1) np
        have nqp : q1 ≠ p := fun e => by
          rw [← e, upd_same] at np
          cases np
        refine q _ _ k rows (D7.same s6) (K6.trans (same_keep s6)) ⟨p, q1, rs, rfl, upd_same, by rw [upd_ne nqp, upd_same], Paired.map (fun _ _ => RowH.tk (TupK.of_same s6)) hp6⟩ ⟨k2, k4, by omega, by omega, fun r hr' => ?_⟩
        rw [hl6]
        exact hok6 r hr'
      refine ⟨_, rfl, dir, rfl, ?_⟩
      cases dir with
      | false =>
        have en1 : n = c := en
        have hrl := Paired.len hp
        refine iteF ?_
        refine ⟨_, rfl, _, rfl, .inl ⟨R, rs, rfl, SqL.of hR, fun q1 nq1 => ⟨by show 2 ≤ sizeLine; decide, fun p np => ?_⟩⟩⟩
        exact fin H5 rs rows D6 K5 hR hp (by omega) hok (le_line (by omega)) q1 nq1 p np
      | true =>
        have en1 : n = c + 1 := en
        refine iteT ?_
        refine ⟨_, rfl, .inl ⟨rfl, _, SqL.of hR⟩, ?_⟩
        refine ⟨_, rfl, k, rfl, by omega, by omega, fun L nL => ?_⟩
        rw [Int.toNat_natCast]
        refine lc_range (n := k) (fun j H' => Same H5 H' ∧ ∃ es, H' L = some (.lst es) ∧ Paired (EntH H') es ((List.range j).map fun j => (j, c)))
          ⟨same_upd nL, [], upd_same, .nil⟩ ?_ ?_
        · rintro j H9 hj ⟨s9, es, hL, hes⟩
          refine ⟨rfl, ?_⟩
          refine ⟨_, rfl, _, rfl, by show 2 ≤ sizeLine; decide, fun t nt => ?_⟩
          have nLt : L ≠ t := ne_of_none hL nt
          have hlen2 := Paired.len hes
          rw [List.length_map, List.length_range] at hlen2
          refine ⟨es, (by rw [upd_ne nLt]; exact hL), lt_line (by omega), same_put (same_new s9 nt) nL, es ++ [.ref t], upd_same, ?_⟩
          rw [List.range_succ, List.map_append]
          have tk : TupK H9 (upd (upd H9 t (.tup [V.int (0 + (j : Nat)), V.int (c : Nat)])) L (.lst (es ++ [.ref t]))) :=
            (TupK.of_same (same_upd nt)).trans (TupK.of_put (xs := es) (by rw [upd_ne nLt]; exact hL))
          refine Paired.snoc (Paired.map (fun _ _ => EntH.tk tk) hes) ⟨t, rfl, ?_⟩
          rw [upd_ne nLt.symm, upd_same, Int.zero_add]
        · rintro H9 ⟨s9, es, hL, hes⟩
          refine .inl ⟨L, es, rfl, SqL.of hL, fun T nT => ?_⟩
          have s10 : Same H5 (upd H9 T (.tup es)) := same_new s9 nT
          have hR10 := s10 _ _ hR
          have hT : upd H9 T (.tup es) T = some (.tup es) := upd_same
          have hes10 : Paired (EntH (upd H9 T (.tup es))) es ((List.range k).map fun j => (j, c)) := Paired.map (fun _ _ => EntH.tk (TupK.of_same (same_upd nT))) hes
          have hp10 : Paired (RowH (upd H9 T (.tup es))) rs rows := Paired.map (fun _ _ => RowH.tk (TupK.of_same s10)) hp
          generalize upd H9 T (.tup es) = H10 at s10 hR10 hT hes10 hp10
          have hrl := Paired.len hp10
          refine ⟨R, rs, _, rfl, rfl, hR10, lt_line (by omega), ?_⟩
          have tk := TupK.of_put (o := .lst (rs ++ [.ref T])) hR10
          refine ⟨_, rfl, _, rfl, .inl ⟨R, rs ++ [.ref T], rfl, SqL.of upd_same, fun q1 nq1 => ⟨by show 2 ≤ sizeLine; decide, fun p np => ?_⟩⟩⟩
          refine fin _ (rs ++ [.ref T]) (rows ++ [(List.range k).map fun j => (j, c)]) ((D6.same s10).put nRd) ((K5.trans (same_keep s10)).put nR0) upd_same
            (Paired.snoc (Paired.map (fun _ _ => RowH.tk tk) hp10) ⟨T, es, rfl, tk _ _ hT, Paired.map (fun _ _ => EntH.tk tk) hes10⟩) (by rw [List.length_append, hlen, en1]; rfl) (fun r hr' => ?_) (by rw [List.length_append]; exact le_line (show rs.length + 1 ≤ 1000 by omega)) q1 nq1 p np
          rcases List.mem_append.mp hr' with hr' | hr'
          · exact hok r hr'
          · rw [List.mem_singleton.mp hr']
            exact rowOk_rest (by omega)
end
end Lf

/-! The law's words and strings, and its own reading. -/
namespace Lf
open PySem PySem.Spec PyProof.Rows L2
section
variable {P : Program} {w : World} {K : PySem.W.Frag} {mg : Str → Option Value} {base : Heap}
/-! ### _law_word, _law_string -/
def spWord : Sp := fun vs H Q _ => ∃ d v k rows, vs = [.ref d, v, .int 8] ∧ Dr d H ∧ MachH H v k rows ∧ MOk k rows ∧ ∀ (H' : Hp) (u : List Ltr), Dr d H' → Keep d H H' → WOk rows.length u → u.length ≤ 8 → Q (.str (encW u)) H'
abbrev nWord : List Str := ["_law_draws_here", "_law_machine_here", "_law_most", "_law_letters", "_law_k"]
theorem scWord : FnScope nWord ["_law_draws_here", "_law_machine_here", "_law_most"] (defScope (top 47)) := ⟨rfl, rfl, rfl, by decide +kernel, rfl, by decide +kernel, by decide +kernel⟩
theorem ok_word (D : Df K mg "_law_word" "_law_word" 47 ["_law_draws_here", "_law_machine_here", "_law_most"]) (G : Gs mg) (NX : Cl P w K mg base 1 "_law_next" spNext) : Cl P w K mg base 2 "_law_word" spWord := by
  refine D.cl scWord (fun vs H Q E h => ?_) (fun f cdv A outer s H vs Q E hr h => ?_)
  · obtain ⟨d, v, k, rows, rfl, _⟩ := h
    rfl
  · obtain ⟨d, v, k, rows, rfl, D0, M, ok, q⟩ := h
    obtain ⟨a, ra, ts, rfl, ha, hra, hl, _⟩ := M.one (K := K)
    have n1 := ok.n1
    have n4 := ok.n4
    refine ⟨_, pss_cons (ps_set (i := 3) scWord.nd rfl (Or.inr rfl) (pe_slice sl_str pe_str po_none (po_some (pe_op op_mul pe_int (pe_callB call_len_seq (by rfl) G.len PySem.boot_len (pa_cons (pe_ix ix_tup (pv 1) pe_int (fun _ _ => rfl)) pa_nil))))))
      (pss_one (ps_ret (pe_join pe_str (pe_lc (own := [("_law_k", 4)]) (g := gName 4) (tt := tYes) rfl scWord.nd (pi_range1 (by rfl) G.range (pa_cons (pe_op op_mod (pe_draw 0 hr NX G.int) (pe_op op_add (pv 2) pe_int)) pa_nil)) (blkOk_by (N := nWord) (sc := defScope (top 47)) (by decide +kernel))
          (fun _ _ _ _ _ => pgl 4 scWord.nd rfl rfl) (fun _ _ _ _ _ => pts_nil)
          (fun _ _ _ _ _ => pe_ix ix_str (pv 3) (pe_op op_mod (pe_draw 0 hr NX G.int) (pe_callB call_len_str (by rfl) G.len PySem.boot_len (pa_cons (pv 3) pa_nil))) (fun _ _ => rfl)))))), ?_⟩
    -- the letters
    refine ⟨_, rfl, a, _, 1, .ref ra, rfl, rfl, ha, rfl, ra, ts, rfl, .inr hra, _, _, rfl, rfl, .inl ⟨by decide, by decide⟩, _, rfl, zEight, rfl, zlen.2.2.2.2, ?_⟩
    dsimp only
    rw [hl]
    -- the count
    refine ⟨⟨_, rfl⟩, d, rfl, D0, fun z H1 D1 k1 => ?_⟩
    refine ⟨_, rfl, _, _, rfl, rfl, _, _, rfl, rfl, (by show (0 : Int) < 8 + 1; decide), _, rfl, (by show -(2 ^ 62) ≤ z % (8 + 1); omega), (by show z % (8 + 1) < 2 ^ 62; omega), fun L nL => ?_⟩
    have hm : (z % (8 + 1)).toNat ≤ 8 := by omega
    generalize (z % (8 + 1)).toNat = m at hm
    have nLd : L ≠ d := D1.ne nL
    refine lc_range (n := m) (fun j H' => Dr d H' ∧ Keep d H1 H' ∧ ∃ u : List Ltr, H' L = some (.lst (ltrs u)) ∧ u.length = j ∧ WOk rows.length u)
      ⟨D1.put nLd, same_keep (same_upd nL), [], upd_same, rfl, fun _ h => nomatch h⟩ ?_ ?_
    · rintro j H2 hj ⟨D2, k2, u, hL, hul, huo⟩
      refine ⟨rfl, ?_⟩
      refine ⟨_, rfl, d, rfl, D2, fun z2 H3 D3 k3 => ?_⟩
      have e8 : (eightOf rows.length).length = 2 * rows.length := eight_len _ (by omega)
      obtain ⟨i, hi, ei⟩ := mod_nat z2 (m := 2 * rows.length) (by omega)
      refine ⟨_, rfl, eightOf rows.length, rfl, by rw [e8]; exact le_line (by omega), _, _, rfl, rfl, (by rw [e8]; omega), eightOf rows.length, _, codeL (ltrAt i), rfl, rfl, by rw [e8]; exact le_line (by omega), (by rw [e8, ei]; exact eight_at _ (by omega) i hi), ?_⟩
      refine ⟨_, k3 _ _ nLd hL, by rw [ltrs_len]; exact lt_line (by omega), D3.put nLd, (k2.trans k3).put nL, u ++ [ltrAt i], ?_, by rw [List.length_append, hul]; rfl, fun x hx => ?_⟩
      · rw [upd_same, ltrs_snoc]
        rfl
      · rcases List.mem_append.mp hx with hx | hx
        · exact huo x hx
        · rw [List.mem_singleton.mp hx]
          show i / 2 < rows.length
          omega
    · rintro H2 ⟨D2, k2, u, hL, hul, huo⟩
      refine ⟨_, L, _, rfl, rfl, .inl (SqL.of (by rw [hL, ltrs_strs])), joinW_fit (by omega), ?_⟩
      rw [joinW]
      exact q H2 u D2 (k1.trans k2) huo (by omega)
def spString : Sp := fun vs H Q _ => ∃ d v k rows, vs = [.ref d, v, .int 6] ∧ Dr d H ∧ MachH H v k rows ∧ MOk k rows ∧ ∀ (H' : Hp) (u : List Nat), Dr d H' → Keep d H H' → UOk k u → u.length ≤ 6 → Q (.str (encD u)) H'
abbrev nString : List Str := ["_law_draws_here", "_law_machine_here", "_law_most", "_law_k"]
theorem scString : FnScope nString ["_law_draws_here", "_law_machine_here", "_law_most"] (defScope (top 48)) := ⟨rfl, rfl, rfl, by decide +kernel, rfl, by decide +kernel, by decide +kernel⟩
theorem ok_string (D : Df K mg "_law_string" "_law_string" 48 ["_law_draws_here", "_law_machine_here", "_law_most"]) (G : Gs mg) (NX : Cl P w K mg base 1 "_law_next" spNext) : Cl P w K mg base 2 "_law_string" spString := by
  refine D.cl scString (fun vs H Q E h => ?_) (fun f cdv A outer s H vs Q E hr h => ?_)
  · obtain ⟨d, v, k, rows, rfl, _⟩ := h
    rfl
  · obtain ⟨d, v, k, rows, rfl, D0, M, ok, q⟩ := h
    have k2' := ok.k2
    have k4 := ok.k4
    refine ⟨_, pss_one (ps_ret (pe_join pe_str (pe_lc (own := [("_law_k", 3)]) (g := gName 3) (tt := tYes) rfl scString.nd (pi_range1 (by rfl) G.range (pa_cons (pe_op op_mod (pe_draw 0 hr NX G.int) (pe_op op_add (pv 2) pe_int)) pa_nil)) (blkOk_by (N := nString) (sc := defScope (top 48)) (by decide +kernel))
          (fun _ _ _ _ _ => pgl 3 scString.nd rfl rfl) (fun _ _ _ _ _ => pts_nil)
          (fun _ _ _ _ _ => pe_ix ix_str pe_str (pe_op op_mod (pe_draw 0 hr NX G.int) (pe_ix (ixtK K) (pv 1) pe_int (fun _ _ => rfl))) (fun _ _ => rfl))))), ?_⟩
    refine ⟨⟨_, rfl⟩, d, rfl, D0, fun z H1 D1 k1 => ?_⟩
    have M1 := M.keep D0 k1
    refine ⟨_, rfl, _, _, rfl, rfl, _, _, rfl, rfl, (by show (0 : Int) < 6 + 1; decide), _, rfl, (by show -(2 ^ 62) ≤ z % (6 + 1); omega), (by show z % (6 + 1) < 2 ^ 62; omega), fun L nL => ?_⟩
    have hm : (z % (6 + 1)).toNat ≤ 6 := by omega
    generalize (z % (6 + 1)).toNat = m at hm
    have nLd : L ≠ d := D1.ne nL
    refine lc_range (n := m) (fun j H' => Dr d H' ∧ Keep d H1 H' ∧ ∃ u : List Nat, H' L = some (.lst (digs u)) ∧ u.length = j ∧ UOk k u)
      ⟨D1.put nLd, same_keep (same_upd nL), [], upd_same, rfl, fun _ h => nomatch h⟩ ?_ ?_
    · rintro j H2 hj ⟨D2, k2, u, hL, hul, huo⟩
      refine ⟨rfl, ?_⟩
      refine ⟨d, rfl, D2, fun z2 H3 D3 k3 => ?_⟩
      obtain ⟨a, ra, ts, ev, ha, hra, hl, _⟩ := (M1.keep D1 (k2.trans k3)).one (K := K)
      obtain ⟨i, hi, ei⟩ := mod_nat z2 (m := k) (by omega)
      refine ⟨_, rfl, a, _, 0, .int (k : Nat), ev, rfl, ha, rfl, _, _, rfl, rfl, (by show (0 : Int) < (k : Int); omega), zDigits, _, codeD i, rfl, rfl, zlen.2.2.2.1, (by rw [ei]; exact digit_at i (by omega)), ?_⟩
      refine ⟨_, k3 _ _ nLd hL, by rw [digs_len]; exact lt_line (by omega), D3.put nLd, (k2.trans k3).put nL, u ++ [i], ?_, by rw [List.length_append, hul]; rfl, fun x hx => ?_⟩
      · rw [upd_same, digs_snoc]
        rfl
      · rcases List.mem_append.mp hx with hx | hx
        · exact huo x hx
        · rw [List.mem_singleton.mp hx]
          exact hi
    · rintro H2 ⟨D2, k2, u, hL, hul, huo⟩
      refine ⟨_, L, _, rfl, rfl, .inl (SqL.of (by rw [hL, digs_strs])), joinD_fit (by omega), ?_⟩
      rw [joinD]
      exact q H2 u D2 (k1.trans k2) huo (by omega)

/-! ### _law_read, _law_step, _law_moved -/
def spRead : Sp := fun vs H Q _ => ∃ v k rows, ∃ (l : Ltr) (d : Nat), vs = [v, .str (encW [l]), .int (d : Nat)] ∧ MachH H v k rows ∧ MOk k rows ∧ l.2 < rows.length ∧ d < k ∧
  ∀ H' p, Same H H' → H' p = some (.lst [.int ((rd rows l d).1 : Nat), .str (encW [(rd rows l d).2])]) → Q (.ref p) H'
abbrev nRead : List Str := ["_law_machine_here", "_law_letter", "_law_digit", "_law_small", "_law_out", "_law_following", "_law_row", "_law_source"]
theorem scRead : FnScope nRead ["_law_machine_here", "_law_letter", "_law_digit"] (defScope (top 49)) := ⟨rfl, rfl, rfl, by decide +kernel, rfl, by decide +kernel, by decide +kernel⟩
theorem ent_get {r : List (Nat × Nat)} {d : Nat} (h : d < r.length) : r[d]? = some (ent r d) := by
  unfold ent
  rw [List.getD_eq_getElem?_getD, List.getElem?_eq_getElem h]
  rfl
theorem ok_read (D : Df K mg "_law_read" "_law_read" 49 ["_law_machine_here", "_law_letter", "_law_digit"]) (G : Gs mg) : Cl P w K mg base 1 "_law_read" spRead := by
  refine D.cl scRead (fun vs H Q E h => ?_) (fun f cdv A outer s H vs Q E hr h => ?_)
  · obtain ⟨v, k, rows, l, d, rfl, _⟩ := h
    rfl
  · obtain ⟨v, k, rows, l, d, rfl, M, ok, hln, hd, q⟩ := h
    obtain ⟨a, ra, ts, rfl, ha, hra, hP⟩ := id M
    have n4 := ok.n4
    have k4 := ok.k4
    have ha' : SqT K H a _ := SqT.of ha
    have hra' : SqT K H ra _ := SqT.of hra
    refine ⟨_, pss_cons (ps_set (i := 3) scRead.nd rfl (Or.inl rfl) (pe_m1 PySem.F.slot_str_find PySem.F.type_str_find mt_find pe_str (pv 1)))
      (pss_cons (ps_if (pt_cmpR op_ge (pv 3) pe_int (nomark _))
        (pss_cons (ps_asg (pe_ix ix_tup (pe_ix ix_tup (pe_ix ix_tup (pv 0) pe_int (fun _ _ => rfl)) (pv 3) (fun _ _ => rfl)) (pv 2) (fun _ _ => rfl)) (pg_tup rfl (pgs_cons (pgl 4 scRead.nd rfl rfl) (pgs_cons (pgl 5 scRead.nd rfl rfl) pgs_nil))))
        (pss_one (ps_ret (pe_lst (pa_cons (pv 4) (pa_cons (pe_ix ix_str pe_str (pv 5) (fun _ _ => rfl)) pa_nil)))))) pss_nil)
      (pss_cons (ps_set (i := 6) scRead.nd rfl (Or.inl rfl) (pe_ix ix_tup (pe_ix ix_tup (pv 0) pe_int (fun _ _ => rfl)) (pe_m1 PySem.F.slot_str_index PySem.F.type_str_index mt_sindex pe_str (pv 1)) (fun _ _ => rfl)))
      (pss_cons (ps_for PassesOwn.never rfl (pi_range1 (by rfl) G.range (pa_cons (pe_callB call_len_seq (by rfl) G.len PySem.boot_len (pa_cons (pv 6) pa_nil)) pa_nil)) (pgl 7 scRead.nd rfl rfl)
        (pss_one (ps_if (pt_cmpR op_eq (pe_ix ix_tup (pe_ix ix_tup (pv 6) (pv 7) (fun _ _ => rfl)) pe_int (fun _ _ => rfl)) (pv 2) (nomark _))
          (pss_one (ps_ret (pe_lst (pa_cons (pv 7) (pa_cons (pe_ix ix_str pe_str (pe_ix ix_tup (pe_ix ix_tup (pv 6) (pv 7) (fun _ _ => rfl)) pe_int (fun _ _ => rfl)) (fun _ _ => rfl)) pa_nil))))) pss_nil)))
      (pss_one (ps_ret pe_non))))), ?_⟩
    obtain ⟨b, s'⟩ := l
    have hs : s' < rows.length := hln
    have hrow : rows[s']? = some (rowAt rows s') := by
      unfold rowAt
      rw [List.getD_eq_getElem?_getD, List.getElem?_eq_getElem hs]
      rfl
    obtain ⟨rv, hrv, ar, rts, rfl, har, hrp⟩ := Paired.at' hP hrow
    have R := ok.rowAt hs
    have hrl : rts.length = k := by rw [Paired.len hrp, R.len]
    have har' : SqT K H ar _ := SqT.of har
    -- the entry at a digit
    have cell : ∀ j, j < k → ∃ ea, rts[j]? = some (.ref ea) ∧ H ea = some (.tup [.int ((ent (rowAt rows s') j).1 : Nat), .int ((ent (rowAt rows s') j).2 : Nat)]) := fun j hj => by
      obtain ⟨x, hx, ea, rfl, hea⟩ := Paired.at' hrp (ent_get (by rw [R.len]; exact hj))
      exact ⟨ea, hx, hea⟩
    cases b with
    | false =>
      refine ⟨⟨_, rfl⟩, _, rfl, zSmall, encW [(false, s')], rfl, rfl, ?_⟩
      rw [small_find s' (by omega)]
      refine ⟨_, rfl, _, _, rfl, rfl, _, rfl, ?_⟩
      refine iteDT (by omega) ?_
      obtain ⟨ea, hea1, hea2⟩ := cell d hd
      have hnx := R.nxt_lt hd
      refine ⟨_, rfl, a, _, 1, .ref ra, rfl, rfl, ha', rfl, _, rfl, ra, ts, (s' : Int), .ref ar, rfl, rfl, hra', atI_nat hrv, _, rfl, ar, rts, (d : Int), .ref ea, rfl, rfl, har', atI_nat hea1, ?_⟩
      refine ⟨ea, _, rfl, SqT.of hea2, rfl, _, _, rfl, _, _, rfl, rfl, ?_⟩
      refine ⟨_, rfl, _, rfl, zSmall, ((ent (rowAt rows s') d).2 : Int), _, rfl, rfl, zlen.1, small_at _ (by omega), by show 2 ≤ sizeLine; decide, fun p np => ?_⟩
      refine q _ p (same_upd np) ?_
      rw [upd_same]
      rfl
    | true =>
      refine ⟨⟨_, rfl⟩, _, rfl, zSmall, encW [(true, s')], rfl, rfl, ?_⟩
      rw [large_find s' (by omega)]
      refine ⟨_, rfl, _, _, rfl, rfl, _, rfl, ?_⟩
      refine iteDF (by decide) ?_
      refine ⟨_, rfl, a, _, 1, .ref ra, rfl, rfl, ha', rfl, ⟨_, rfl⟩, _, rfl, zLarge, encW [(true, s')], s', [], rfl, rfl, large_occ s' (by omega), ra, ts, (s' : Int), .ref ar, rfl, rfl, hra', atI_nat hrv, ?_⟩
      refine ⟨_, rfl, ar, rts, rfl, .inr har', _, rfl, by omega, by omega, ?_⟩
      rw [hrl, Int.toNat_natCast]
      refine for_range (n := k) (fun i σ H' => ∃ v7, σ = [some (.ref a), some (.str (encW [(true, s')])), some (.int (d : Nat)), some (.int (-1)), none, none, some (.ref ar), v7] ∧ H' = H ∧ i ≤ src (rowAt rows s') d)
        ⟨none, rfl, rfl, Nat.zero_le _⟩ ?_ ?_
      · rintro i σ H1 hi ⟨v7, rfl, rfl, his⟩
        obtain ⟨ea, hea1, hea2⟩ := cell i hi
        have ei : ∀ {α : Type} {xs : List α} {v : α}, xs[i]? = some v → atI xs (0 + (i : Nat)) = some v := fun h => by
          rw [Int.zero_add]
          exact atI_nat h
        refine ⟨_, rfl, _, rfl, ar, rts, _, .ref ea, rfl, rfl, har', ei hea1, ea, _, 0, _, rfl, rfl, SqT.of hea2, rfl, _, rfl, rfl, _, rfl, ?_⟩
        by_cases h : (ent (rowAt rows s') i).1 = d
        · have es : src (rowAt rows s') d = i := by rw [← h]; exact R.src_ent hi
          have hnx := R.nxt_lt hi
          refine iteDT (by rw [h]) ?_
          refine ⟨_, rfl, _, rfl, _, rfl, ar, rts, _, .ref ea, rfl, rfl, har', ei hea1, ea, _, 1, _, rfl, rfl, SqT.of hea2, rfl, zLarge, ((ent (rowAt rows s') i).2 : Int), _, rfl, rfl, zlen.2.1, large_at _ (by omega), by show 2 ≤ sizeLine; decide, fun p np => ?_⟩
          refine q _ p (same_upd np) ?_
          rw [upd_same, Int.zero_add]
          show _ = some (HO.lst [V.int ((src (rowAt rows s') d : Nat) : Int), V.str (encW [(true, (ent (rowAt rows s') (src (rowAt rows s') d)).2)])])
          rw [es]
          rfl
        · refine iteDF (fun e => h (by have := V.int.inj e; omega)) ?_
          refine ⟨_, rfl, rfl, ?_⟩
          have hne : src (rowAt rows s') d ≠ i := fun e => h (by rw [← e]; exact R.src_out hd)
          omega
      · rintro σ H1 ⟨v7, rfl, rfl, his⟩
        exact absurd (R.src_lt hd) (by omega)
def spStepL : Sp := fun vs H Q _ => ∃ v k rows, ∃ (u : List Ltr) (d : Nat), vs = [v, .str (encW u), .int (d : Nat)] ∧ MachH H v k rows ∧ MOk k rows ∧ WOk rows.length u ∧ u.length ≤ 100 ∧ d < k ∧
  ∀ H' p, Same H H' → H' p = some (.lst [.int ((stepW rows u d).1 : Nat), .str (encW (stepW rows u d).2)]) → Q (.ref p) H'
abbrev nStepL : List Str := ["_law_machine_here", "_law_word_here", "_law_digit", "_law_section", "_law_letter", "_law_following"]
theorem scStepL : FnScope nStepL ["_law_machine_here", "_law_word_here", "_law_digit"] (defScope (top 50)) := ⟨rfl, rfl, rfl, by decide +kernel, rfl, by decide +kernel, by decide +kernel⟩
theorem empW : ("" : Str) = encW [] := emp
theorem empD : ("" : Str) = encD [] := emp
theorem ok_stepL (D : Df K mg "_law_step" "_law_step" 50 ["_law_machine_here", "_law_word_here", "_law_digit"]) (RD : Cl P w K mg base 1 "_law_read" spRead) : Cl P w K mg base 2 "_law_step" spStepL := by
  refine D.cl scStepL (fun vs H Q E h => ?_) (fun f cdv A outer s H vs Q E hr h => ?_)
  · obtain ⟨v, k, rows, u, d, rfl, _⟩ := h
    rfl
  · obtain ⟨v, k, rows, u, d, rfl, M, ok, hw, hl, hd, q⟩ := h
    refine ⟨_, pss_cons (ps_set (i := 3) scStepL.nd rfl (Or.inl rfl) pe_str)
      (pss_cons (ps_for PassesOwn.never rfl (pi_str (pv 1)) (pgl 4 scStepL.nd rfl rfl)
        (pss_cons (ps_asg (pcl hr RD (pa_cons (pv 0) (pa_cons (pv 4) (pa_cons (pv 2) pa_nil)))) (pg_unl rfl (pgs_cons (pgl 2 scStepL.nd rfl rfl) (pgs_cons (pgl 5 scStepL.nd rfl rfl) pgs_nil))))
        (pss_one (ps_set (i := 3) scStepL.nd rfl (Or.inl rfl) (pe_op op_add_str (pv 3) (pv 5))))))
      (pss_one (ps_ret (pe_lst (pa_cons (pv 2) (pa_cons (pv 3) pa_nil)))))), ?_⟩
    refine ⟨_, rfl, encW u, rfl, ?_⟩
    refine for_it walk_str (fun i σ H' => ∃ v4 v5, σ = [some v, some (.str (encW u)), some (.int ((stepW rows (u.take i) d).1 : Nat)), some (.str (encW (stepW rows (u.take i) d).2)), v4, v5] ∧ Same H H')
      ⟨none, none, congrArg (fun z => [some v, some (V.str (encW u)), some (V.int (d : Nat)), some (V.str z), none, none]) empW, Same.refl H⟩ (fun _ _ _ _ _ => trivial) ?_ ?_
    · rintro i x σ H1 H2 hi ⟨v4, v5, rfl, s1⟩ ⟨rfl, c, hc, rfl⟩
      obtain ⟨l, hlt, rfl⟩ := encW_get hc
      rw [encW_size] at hi
      have hln : l.2 < rows.length := hw l (List.mem_of_getElem? hlt)
      have so := step_ok ok (u.take i) d (hw.take i) hd
      have hsl := step_len (rows := rows) (u.take i) d
      rw [List.length_take] at hsl
      refine ⟨_, rfl, _, rfl, _, rfl, v, k, rows, l, _, rfl, M.same s1, ok, hln, so.1, fun H3 p s3 ep => ?_⟩
      refine ⟨p, _, rfl, SqL.of ep, rfl, _, _, rfl, _, _, rfl, rfl, ?_⟩
      refine ⟨_, rfl, _, rfl, _, _, rfl, rfl, ?_, ?_⟩
      · rw [encW_len, encW_len]
        exact le_line (show _ + 1 ≤ 1000 by omega)
      · have est := step_take (rows := rows) hlt d
        refine ⟨some (V.str (encW [l])), some (V.str (encW [(rd rows l (stepW rows (u.take i) d).1).2])), ?_, s1.trans s3⟩
        rw [est]
        show _ = [some v, some (V.str (encW u)), _, some (V.str (encW (_ ++ [_]))), _, _]
        rw [encW_app]
        rfl
    · rintro σ H1 ⟨v4, v5, rfl, s1⟩
      have et : u.take (encW u).cps.size = u := List.take_of_length_le (by rw [encW_size]; exact Nat.le_refl _)
      rw [et]
      exact ⟨_, rfl, _, rfl, by show 2 ≤ sizeLine; decide, fun p np => q _ p (same_new s1 np) upd_same⟩
def spMovedL : Sp := fun vs H Q _ => ∃ v k rows, ∃ (wd : List Ltr) (u : List Nat), vs = [v, .str (encW wd), .str (encD u)] ∧ MachH H v k rows ∧ MOk k rows ∧ WOk rows.length wd ∧ wd.length ≤ 60 ∧ UOk k u ∧ u.length ≤ 60 ∧
  ∀ H' p, Same H H' → H' p = some (.lst [.str (encD (movedW rows wd u).1), .str (encW (movedW rows wd u).2)]) → Q (.ref p) H'
abbrev nMovedL : List Str := ["_law_machine_here", "_law_word_here", "_law_string_here", "_law_image", "_law_sign", "_law_digit"]
theorem scMovedL : FnScope nMovedL ["_law_machine_here", "_law_word_here", "_law_string_here"] (defScope (top 51)) := ⟨rfl, rfl, rfl, by decide +kernel, rfl, by decide +kernel, by decide +kernel⟩
theorem ok_movedL (D : Df K mg "_law_moved" "_law_moved" 51 ["_law_machine_here", "_law_word_here", "_law_string_here"]) (G : Gs mg) (ST : Cl P w K mg base 2 "_law_step" spStepL) : Cl P w K mg base 3 "_law_moved" spMovedL := by
  refine D.cl scMovedL (fun vs H Q E h => ?_) (fun f cdv A outer s H vs Q E hr h => ?_)
  · obtain ⟨v, k, rows, wd, u, rfl, _⟩ := h
    rfl
  · obtain ⟨v, k, rows, wd, u, rfl, M, ok, hw, hwl, hu, hul, q⟩ := h
    have k4 := ok.k4
    refine ⟨_, pss_cons (ps_set (i := 3) scMovedL.nd rfl (Or.inl rfl) pe_str)
      (pss_cons (ps_for PassesOwn.never rfl (pi_str (pv 2)) (pgl 4 scMovedL.nd rfl rfl)
        (pss_cons (ps_asg (pcl hr ST (pa_cons (pv 0) (pa_cons (pv 1) (pa_cons (pe_callTy call_int_str (by rfl) G.int (by decide +kernel) (pa_cons (pv 4) pa_nil)) pa_nil)))) (pg_unl rfl (pgs_cons (pgl 5 scMovedL.nd rfl rfl) (pgs_cons (pgl 1 scMovedL.nd rfl rfl) pgs_nil))))
        (pss_one (ps_set (i := 3) scMovedL.nd rfl (Or.inl rfl) (pe_op op_add_str (pv 3) (pe_callTy call_str_int (by rfl) G.str (by decide +kernel) (pa_cons (pv 5) pa_nil)))))))
      (pss_one (ps_ret (pe_lst (pa_cons (pv 3) (pa_cons (pv 1) pa_nil)))))), ?_⟩
    refine ⟨_, rfl, encD u, rfl, ?_⟩
    refine for_it walk_str (fun i σ H' => ∃ v4 v5, σ = [some v, some (.str (encW (movedW rows wd (u.take i)).2)), some (.str (encD u)), some (.str (encD (movedW rows wd (u.take i)).1)), v4, v5] ∧ Same H H')
      ⟨none, none, congrArg (fun z => [some v, some (V.str (encW wd)), some (V.str (encD u)), some (V.str z), none, none]) empD, Same.refl H⟩ (fun _ _ _ _ _ => trivial) ?_ ?_
    · rintro i x σ H1 H2 hi ⟨v4, v5, rfl, s1⟩ ⟨rfl, c, hc, rfl⟩
      obtain ⟨d, hdt, rfl⟩ := encD_get hc
      rw [encD_size] at hi
      have hdk : d < k := hu d (List.mem_of_getElem? hdt)
      have mo := moved_ok ok (u.take i) wd hw (hu.take i)
      have ml := moved_len2 (rows := rows) (u.take i) wd
      have ml1 := moved_len1 (rows := rows) (u.take i) wd
      rw [List.length_take] at ml1
      have so := step_ok ok _ d mo.2 hdk
      refine ⟨_, rfl, _, rfl, _, rfl, encD [d], (d : Int), rfl, digit_int d (by omega), by rw [encD_len]; show 1 ≤ 640; decide, ?_⟩
      refine ⟨v, k, rows, _, d, rfl, M.same s1, ok, mo.2, by omega, hdk, fun H3 p s3 ep => ?_⟩
      refine ⟨p, _, rfl, SqL.of ep, rfl, _, _, rfl, _, _, rfl, rfl, ?_⟩
      refine ⟨_, rfl, _, rfl, ((stepW rows (movedW rows wd (u.take i)).2 d).1 : Int), rfl, log_digit _ (by omega), _, _, rfl, rfl, ?_, ?_⟩
      · rw [digit_str _ (by omega), encD_len, encD_len]
        exact le_line (show _ + 1 ≤ 1000 by omega)
      · have em := moved_take (rows := rows) hdt wd
        refine ⟨some (V.str (encD [d])), some (V.int ((stepW rows (movedW rows wd (u.take i)).2 d).1 : Nat)), ?_, s1.trans s3⟩
        rw [em, digit_str _ (by omega)]
        show _ = [some v, _, some (V.str (encD u)), some (V.str (encD (_ ++ [_]))), _, _]
        rw [encD_app]
        rfl
    · rintro σ H1 ⟨v4, v5, rfl, s1⟩
      have et : u.take (encD u).cps.size = u := List.take_of_length_le (by rw [encD_size]; exact Nat.le_refl _)
      rw [et]
      exact ⟨_, rfl, _, rfl, by show 2 ≤ sizeLine; decide, fun p np => q _ p (same_new s1 np) upd_same⟩
end
end Lf

/-! The law. -/
namespace Lf
open PySem PySem.Spec PyProof.Rows L2
section
variable {P : Program} {w : World} {K : PySem.W.Frag} {mg : Str → Option Value} {base : Heap}
def spLaw (K : PySem.W.Frag) : Sp := fun vs H Q _ => ∃ (a : Addr) (ns : List Int), vs = [.ref a] ∧ SqL K H a (ns.map V.int) ∧ ns.length ≤ 63 ∧ ∀ H', Q (.bl true) H'
abbrev nLaw : List Str := ["_law_script", "_law_draws_here", "_law_machine_here", "_law_one", "_law_two", "_law_string_here", "_law_behind", "_law_image", "_law_section", "_law_back", "_law_cut_here"]
theorem scLaw : FnScope nLaw ["_law_script"] (defScope (top 55)) := ⟨rfl, rfl, rfl, by decide +kernel, rfl, by decide +kernel, by decide +kernel⟩
theorem shaped_two {x y : Str} (hx : PyData.strOk x = true) (hy : PyData.strOk y = true) : PySem.SeqAt.shaped (.list [.str x, .str y]) = true := by
  simp [PySem.SeqAt.shaped, PyData.canLay0, PyData.canLayAll0, PyData.depth, PyData.depthAll, hx, hy]
theorem strOkW {u : List Ltr} (h : WOk 4 u) : PyData.strOk (encW u) = true := by
  unfold PyData.strOk encW
  rw [List.all_toArray, List.all_eq_true]
  intro c hc
  obtain ⟨l, hl, rfl⟩ := List.mem_map.mp hc
  have h4 := h l hl
  obtain ⟨b, s⟩ := l
  have h4' : s < 4 := h4
  refine decide_eq_true ?_
  unfold codeL
  cases b
  · show 97 + s < 1114112
    omega
  · show 65 + s < 1114112
    omega
theorem strOkD {u : List Nat} (h : UOk 4 u) : PyData.strOk (encD u) = true := by
  unfold PyData.strOk encD
  rw [List.all_toArray, List.all_eq_true]
  intro c hc
  obtain ⟨d, hd, rfl⟩ := List.mem_map.mp hc
  have h4 := h d hd
  refine decide_eq_true ?_
  show 48 + d < 1114112
  omega
theorem WOk.app {n : Nat} {a b : List Ltr} (h : WOk n a) (h' : WOk n b) : WOk n (a ++ b) := fun x hx => (List.mem_append.mp hx).elim (h x) (h' x)
theorem UOk.app {n : Nat} {a b : List Nat} (h : UOk n a) (h' : UOk n b) : UOk n (a ++ b) := fun x hx => (List.mem_append.mp hx).elim (h x) (h' x)
/-- equal texts do not part -/
theorem iteNE {x y : Str} {A B : Prop} (e : x = y) (h : B) : if (!decide (V.str x = V.str y)) = true then A else B := iteNS (by rw [e]) h
theorem ok_law {f : Addr} {fd : FuncData} (F : Fun K "law" "law" (top 55) f fd) (G : Gs mg) (DW : Cl P w K mg base 2 "_law_draws" (spDraws K)) (MA : Cl P w K mg base 3 "_law_machine" spMachine) (WO : Cl P w K mg base 2 "_law_word" spWord) (SG : Cl P w K mg base 2 "_law_string" spString)
    (IM : Cl P w K mg base 6 "image_of" spImage) (SE : Cl P w K mg base 6 "section_of" spSection) (CU : Cl P w K mg base 6 "cut_word" spCutWord) (UN : Cl P w K mg base 6 "undone_word" spUndoneWord) (MV : Cl P w K mg base 3 "_law_moved" spMovedL) :
    FnOk P w K mg base CX0 7 f fd ["_law_script"] (spLaw K) := by
  refine F.ok scLaw (fun vs H Q E h => ?_) (fun cdv A outer s H vs Q E hr h => ?_)
  · obtain ⟨a, ns, rfl, _⟩ := h
    rfl
  · obtain ⟨a, ns, rfl, hS, hl, q⟩ := h
    refine ⟨_, pss_cons (ps_set (i := 1) scLaw.nd rfl (Or.inl rfl) (pcl hr DW (pa_cons (pv 0) pa_nil)))
      (pss_cons (ps_expr (pe_bm0 PySem.F.plainAttrs_list PySem.F.slot_list_reverse PySem.F.type_list_reverse mt_reverse (pv 1)))
      (pss_cons (ps_set (i := 2) scLaw.nd rfl (Or.inl rfl) (pcl hr MA (pa_cons (pv 1) (pa_cons pe_int pa_nil))))
      (pss_cons (ps_set (i := 3) scLaw.nd rfl (Or.inl rfl) (pcl hr WO (pa_cons (pv 1) (pa_cons (pv 2) (pa_cons pe_int pa_nil)))))
      (pss_cons (ps_set (i := 4) scLaw.nd rfl (Or.inl rfl) (pcl hr WO (pa_cons (pv 1) (pa_cons (pv 2) (pa_cons pe_int pa_nil)))))
      (pss_cons (ps_set (i := 5) scLaw.nd rfl (Or.inl rfl) (pcl hr SG (pa_cons (pv 1) (pa_cons (pv 2) (pa_cons pe_int pa_nil)))))
      (pss_cons (ps_set (i := 6) scLaw.nd rfl (Or.inl rfl) (pcl hr SG (pa_cons (pv 1) (pa_cons (pv 2) (pa_cons pe_int pa_nil)))))
      (pss_cons (ps_set (i := 7) scLaw.nd rfl (Or.inl rfl) (pcl hr IM (pa_cons (pv 2) (pa_cons (pv 3) (pa_cons (pv 5) pa_nil)))))
      (pss_cons (ps_set (i := 8) scLaw.nd rfl (Or.inl rfl) (pcl hr SE (pa_cons (pv 2) (pa_cons (pv 3) (pa_cons (pv 5) pa_nil)))))
      (pss_cons (ps_if (pt_cmpR op_ne (pcl hr IM (pa_cons (pv 2) (pa_cons (pv 3) (pa_cons (pe_op op_add_str (pv 5) (pv 6)) pa_nil)))) (pe_op op_add_str (pv 7) (pcl hr IM (pa_cons (pv 2) (pa_cons (pv 8) (pa_cons (pv 6) pa_nil))))) (nomark _)) (pss_one (ps_ret pe_bl)) pss_nil)
      (pss_cons (ps_if (pt_cmpR op_ne (pcl hr SE (pa_cons (pv 2) (pa_cons (pv 3) (pa_cons (pe_op op_add_str (pv 5) (pv 6)) pa_nil)))) (pcl hr SE (pa_cons (pv 2) (pa_cons (pv 8) (pa_cons (pv 6) pa_nil)))) (nomark _)) (pss_one (ps_ret pe_bl)) pss_nil)
      (pss_cons (ps_if (pt_cmpR op_ne (pcl hr IM (pa_cons (pv 2) (pa_cons (pe_op op_add_str (pv 3) (pv 4)) (pa_cons (pv 5) pa_nil)))) (pcl hr IM (pa_cons (pv 2) (pa_cons (pv 4) (pa_cons (pv 7) pa_nil)))) (nomark _)) (pss_one (ps_ret pe_bl)) pss_nil)
      (pss_cons (ps_if (pt_cmpR op_ne (pcl hr SE (pa_cons (pv 2) (pa_cons (pe_op op_add_str (pv 3) (pv 4)) (pa_cons (pv 5) pa_nil)))) (pe_op op_add_str (pv 8) (pcl hr SE (pa_cons (pv 2) (pa_cons (pv 4) (pa_cons (pv 7) pa_nil))))) (nomark _)) (pss_one (ps_ret pe_bl)) pss_nil)
      (pss_cons (ps_set (i := 9) scLaw.nd rfl (Or.inl rfl) (pcl hr UN (pa_cons (pv 2) (pa_cons (pv 3) pa_nil))))
      (pss_cons (ps_if (PW.pt (pw_or (pt_cmpR op_ne (pcl hr IM (pa_cons (pv 2) (pa_cons (pv 9) (pa_cons (pv 7) pa_nil)))) (pv 5) (nomark _))
          (pw_or1 (pt_cmpR op_ne (pcl hr SE (pa_cons (pv 2) (pa_cons (pv 9) (pa_cons (pv 7) pa_nil)))) (pcl hr UN (pa_cons (pv 2) (pa_cons (pv 8) pa_nil))) (nomark _))))) (pss_one (ps_ret pe_bl)) pss_nil)
      (pss_cons (ps_if (pt_cmpR op_ne (pcl hr IM (pa_cons (pv 2) (pa_cons (pcl hr CU (pa_cons (pv 2) (pa_cons (pe_op op_add_str (pv 3) (pv 4)) pa_nil))) (pa_cons (pv 5) pa_nil)))) (pcl hr IM (pa_cons (pv 2) (pa_cons (pe_op op_add_str (pv 3) (pv 4)) (pa_cons (pv 5) pa_nil)))) (nomark _)) (pss_one (ps_ret pe_bl)) pss_nil)
      (pss_cons (ps_set (i := 10) scLaw.nd rfl (Or.inl rfl) (pcl hr SE (pa_cons (pv 2) (pa_cons (pcl hr CU (pa_cons (pv 2) (pa_cons (pv 3) pa_nil))) (pa_cons (pv 5) pa_nil)))))
      (pss_cons (ps_if (PW.pt (pw_or (pt_cmpR op_ne (pcl hr CU (pa_cons (pv 2) (pa_cons (pv 10) pa_nil))) (pcl hr CU (pa_cons (pv 2) (pa_cons (pv 8) pa_nil))) (nomark _))
          (pw_or1 (pt_cmpR op_ne (pcl hr SE (pa_cons (pv 2) (pa_cons (pv 3) (pa_cons pe_str pa_nil)))) (pv 3) (nomark _))))) (pss_one (ps_ret pe_bl)) pss_nil)
      (pss_one (ps_ret (pe_and (pe_cmpR op_eq (pe_callB call_len_str (by rfl) G.len PySem.boot_len (pa_cons (pv 8) pa_nil)) (pe_callB call_len_str (by rfl) G.len PySem.boot_len (pa_cons (pv 3) pa_nil)) (nomark _))
        (pe_one (pe_cmpR (op_eqD hr.units) (pe_lst (pa_cons (pv 7) (pa_cons (pv 8) pa_nil))) (pcl hr MV (pa_cons (pv 2) (pa_cons (pv 3) (pa_cons (pv 5) pa_nil)))) (nomark _))))))))))))))))))))))), ?_⟩
    -- draws, turned round
    refine ⟨_, rfl, a, ns, rfl, hS, hl, fun H1 d s1 D1 => ?_⟩
    obtain ⟨ds, hd⟩ := D1
    refine ⟨_, rfl, .inl ⟨rfl, _, SqL.of hd⟩, d, _, rfl, rfl, hd, ?_⟩
    have D2 : Dr d (upd H1 d (.lst (ds.map V.int).reverse)) := ⟨ds.reverse, by rw [upd_same, List.map_reverse]⟩
    generalize upd H1 d (.lst (ds.map V.int).reverse) = H2 at D2
    -- machine, words, strings
    refine ⟨_, rfl, d, rfl, D2, fun H3 m k rows D3 k3 M3 ok => ?_⟩
    refine ⟨_, rfl, _, rfl, d, m, k, rows, rfl, D3, M3, ok, fun H4 u1 D4 k4 hw1 hl1 => ?_⟩
    have M4 := M3.keep D3 k4
    refine ⟨_, rfl, _, rfl, d, m, k, rows, rfl, D4, M4, ok, fun H5 u2 D5 k5 hw2 hl2 => ?_⟩
    have M5 := M4.keep D4 k5
    refine ⟨_, rfl, _, rfl, d, m, k, rows, rfl, D5, M5, ok, fun H6 x D6 k6 hx hlx => ?_⟩
    have M6 := M5.keep D5 k6
    refine ⟨_, rfl, _, rfl, d, m, k, rows, rfl, D6, M6, ok, fun H7 y D7 k7 hy hly => ?_⟩
    have M7 := M6.keep D6 k7
    -- what is known of the plain words
    have mo := moved_ok ok x u1 hw1 hx
    have ml1 := moved_len1 (rows := rows) x u1
    have ml2 := moved_len2 (rows := rows) x u1
    have e12 : (u1 ++ u2).length ≤ 60 := by rw [List.length_append]; omega
    have exy : (x ++ y).length ≤ 60 := by rw [List.length_append]; omega
    have ok12 := hw1.app hw2
    have okxy := hx.app hy
    have ma := moved_app (rows := rows) x y u1
    have mw := moved_words (rows := rows) x u1 u2
    have mu := moved_undo ok x u1 hw1 hx
    have mc1 := moved_cut1 ok ok12 hx
    have mc2 := moved_cut2 ok hw1 hx
    have cl12 := cut_len (u1 ++ u2)
    have cl1 := cut_len u1
    have ul1 := undo_len u1
    have mlc := moved_len2 (rows := rows) x (cutW u1)
    have moc := moved_ok ok x (cutW u1) (cut_ok hw1) hx
    have aw : encW u1 ++ encW u2 = encW (u1 ++ u2) := (encW_app _ _).symm
    have ad : encD x ++ encD y = encD (x ++ y) := (encD_app _ _).symm
    have fitW : ∀ p r : List Ltr, p.length ≤ 60 → r.length ≤ 60 → (encW p).length + (encW r).length ≤ sizeLine := fun p r h1 h2 => by
      rw [encW_len, encW_len]
      exact le_line (by omega)
    have fitD : ∀ p r : List Nat, p.length ≤ 60 → r.length ≤ 60 → (encD p).length + (encD r).length ≤ sizeLine := fun p r h1 h2 => by
      rw [encD_len, encD_len]
      exact le_line (by omega)
    -- image, section
    refine ⟨_, rfl, _, rfl, _, rfl, m, k, rows, u1, x, rfl, M7, ok, hw1, by omega, hx, by omega, fun H8 s8 => ?_⟩
    have M8 := M7.same s8
    refine ⟨_, rfl, _, rfl, _, rfl, m, k, rows, u1, x, rfl, M8, ok, hw1, by omega, hx, by omega, fun H9 s9 => ?_⟩
    have M9 := M8.same s9
    -- the image of both strings
    refine ⟨_, rfl, _, rfl, _, rfl, _, rfl, _, _, rfl, rfl, fitD _ _ (by omega) (by omega), m, k, rows, u1, x ++ y, by rw [ad]; rfl, M9, ok, hw1, by omega, okxy, exy, fun H10 s10 => ?_⟩
    have M10 := M9.same s10
    refine ⟨_, rfl, _, rfl, _, rfl, _, rfl, m, k, rows, _, y, rfl, M10, ok, mo.2, by omega, hy, by omega, fun H11 s11 => ?_⟩
    have M11 := M10.same s11
    refine ⟨_, _, rfl, rfl, fitD _ _ (by omega) (by rw [moved_len1]; omega), rfl, _, rfl, ?_⟩
    refine iteNE (by rw [ma, encD_app]) ?_
    -- the section at both
    refine ⟨_, rfl, _, rfl, _, rfl, _, rfl, _, _, rfl, rfl, fitD _ _ (by omega) (by omega), m, k, rows, u1, x ++ y, by rw [ad]; rfl, M11, ok, hw1, by omega, okxy, exy, fun H12 s12 => ?_⟩
    have M12 := M11.same s12
    refine ⟨_, rfl, _, rfl, _, rfl, m, k, rows, _, y, rfl, M12, ok, mo.2, by omega, hy, by omega, fun H13 s13 => ?_⟩
    have M13 := M12.same s13
    refine ⟨rfl, _, rfl, ?_⟩
    refine iteNE (by rw [ma]) ?_
    -- the image by both words
    refine ⟨_, rfl, _, rfl, _, rfl, _, _, rfl, rfl, fitW _ _ (by omega) (by omega), _, rfl, m, k, rows, u1 ++ u2, x, by rw [aw]; rfl, M13, ok, ok12, e12, hx, by omega, fun H14 s14 => ?_⟩
    have M14 := M13.same s14
    refine ⟨_, rfl, _, rfl, _, rfl, m, k, rows, u2, _, rfl, M14, ok, hw2, by omega, mo.1, by omega, fun H15 s15 => ?_⟩
    have M15 := M14.same s15
    refine ⟨rfl, _, rfl, ?_⟩
    refine iteNE (by rw [mw]) ?_
    -- the section of both words
    refine ⟨_, rfl, _, rfl, _, rfl, _, _, rfl, rfl, fitW _ _ (by omega) (by omega), _, rfl, m, k, rows, u1 ++ u2, x, by rw [aw]; rfl, M15, ok, ok12, e12, hx, by omega, fun H16 s16 => ?_⟩
    have M16 := M15.same s16
    refine ⟨_, rfl, _, rfl, _, rfl, _, rfl, m, k, rows, u2, _, rfl, M16, ok, hw2, by omega, mo.1, by omega, fun H17 s17 => ?_⟩
    have M17 := M16.same s17
    refine ⟨_, _, rfl, rfl, fitW _ _ (by omega) (by rw [moved_len2]; omega), rfl, _, rfl, ?_⟩
    refine iteNE (by rw [mw, encW_app]) ?_
    -- undone
    refine ⟨_, rfl, _, rfl, m, k, rows, u1, rfl, M17, ok, hw1, by omega, fun H18 s18 => ?_⟩
    have M18 := M17.same s18
    refine ⟨_, rfl, _, rfl, _, rfl, m, k, rows, undoW u1, _, rfl, M18, ok, undo_ok hw1, by omega, mo.1, by omega, fun H19 s19 => ?_⟩
    have M19 := M18.same s19
    refine ⟨_, rfl, rfl, _, rfl, ?_⟩
    refine iteNE (by rw [mu]) ?_
    refine ⟨_, rfl, _, rfl, _, rfl, m, k, rows, undoW u1, _, rfl, M19, ok, undo_ok hw1, by omega, mo.1, by omega, fun H20 s20 => ?_⟩
    have M20 := M19.same s20
    refine ⟨_, rfl, _, rfl, m, k, rows, _, rfl, M20, ok, mo.2, by omega, fun H21 s21 => ?_⟩
    have M21 := M20.same s21
    refine ⟨rfl, _, rfl, ?_⟩
    refine iteNE (by rw [mu]) ?_
    -- cut: the image
    refine ⟨_, rfl, _, rfl, _, rfl, _, rfl, _, _, rfl, rfl, fitW _ _ (by omega) (by omega), m, k, rows, u1 ++ u2, by rw [aw]; rfl, M21, ok, ok12, e12, fun H22 s22 => ?_⟩
    have M22 := M21.same s22
    refine ⟨_, rfl, m, k, rows, cutW (u1 ++ u2), x, rfl, M22, ok, cut_ok ok12, by omega, hx, by omega, fun H23 s23 => ?_⟩
    have M23 := M22.same s23
    refine ⟨_, rfl, _, rfl, _, rfl, _, _, rfl, rfl, fitW _ _ (by omega) (by omega), _, rfl, m, k, rows, u1 ++ u2, x, by rw [aw]; rfl, M23, ok, ok12, e12, hx, by omega, fun H24 s24 => ?_⟩
    have M24 := M23.same s24
    refine ⟨rfl, _, rfl, ?_⟩
    refine iteNE (by rw [mc1]) ?_
    -- cut: the section
    refine ⟨_, rfl, _, rfl, _, rfl, m, k, rows, u1, rfl, M24, ok, hw1, by omega, fun H25 s25 => ?_⟩
    have M25 := M24.same s25
    refine ⟨_, rfl, m, k, rows, cutW u1, x, rfl, M25, ok, cut_ok hw1, by omega, hx, by omega, fun H26 s26 => ?_⟩
    have M26 := M25.same s26
    refine ⟨_, rfl, _, rfl, m, k, rows, _, rfl, M26, ok, moc.2, by omega, fun H27 s27 => ?_⟩
    have M27 := M26.same s27
    refine ⟨_, rfl, _, rfl, m, k, rows, _, rfl, M27, ok, mo.2, by omega, fun H28 s28 => ?_⟩
    have M28 := M27.same s28
    refine ⟨rfl, _, rfl, ?_⟩
    refine iteNE (by rw [mc2]) ?_
    refine ⟨_, rfl, _, rfl, m, k, rows, u1, [], congrArg (fun z => [m, V.str (encW u1), V.str z]) empD, M28, ok, hw1, by omega, (fun _ h => nomatch h), Nat.zero_le _, fun H29 s29 => ?_⟩
    have M29 := M28.same s29
    refine ⟨_, rfl, rfl, _, rfl, ?_⟩
    refine iteNE rfl ?_
    -- the end
    refine ⟨_, rfl, encW (movedW rows u1 x).2, rfl, by rw [encW_len]; exact le_line (by omega), _, rfl, encW u1, rfl, by rw [encW_len]; exact le_line (by omega), rfl, _, rfl, ?_⟩
    refine iteDT (by rw [encW_len, encW_len, ml2]) ?_
    refine ⟨_, rfl, _, rfl, by show 2 ≤ sizeLine; decide, fun p np => ?_⟩
    have M30 := M29.same (same_upd (o := .lst [V.str (encD (movedW rows u1 x).1), V.str (encW (movedW rows u1 x).2)]) np)
    refine ⟨_, rfl, _, rfl, _, rfl, m, k, rows, u1, x, rfl, M30, ok, hw1, by omega, hx, by omega, fun H30 p2 s30 ep2 => ?_⟩
    have sh := shaped_two (strOkD (u := (movedW rows u1 x).1) (fun z hz => Nat.lt_of_lt_of_le (mo.1 z hz) ok.k4)) (strOkW (mo.2.up ok.n4))
    refine ⟨.list [.str (encD (movedW rows u1 x).1), .str (encW (movedW rows u1 x).2)], .list [.str (encD (movedW rows u1 x).1), .str (encW (movedW rows u1 x).2)],
      .lst (SqL.of (s30 _ _ upd_same)) (.cons (.str _) (.cons (.str _) .nil)), .lst (SqL.of ep2) (.cons (.str _) (.cons (.str _) .nil)), sh, sh, ?_⟩
    rw [PySem.SeqAt.eqv_refl _ (Bool.and_eq_true_iff.mp sh).1]
    exact q H30
end
end Lf

/-! What the program's top has left, and the end. -/
namespace Lf
open PySem PySem.Spec PyProof.Rows L2
section
variable {P : Program} {w : World} {K : PySem.W.Frag} {mg : Str → Option Value} {base : Heap}
theorem all_ok {C fI fS fM f : Addr} {fdI fdS fdM fd : FuncData} (G : Gs mg) (T : AcT K mg C) (MK : Mk K C fI)
    (FI : Fun K "__init__" "Actor.__init__" (sAct 0) fI fdI) (bI : Binds K fdI ["self", "machine"] [])
    (mS : Meth K C "step" fS) (FS : Fun K "step" "Actor.step" (sAct 1) fS fdS) (bS : Binds K fdS ["self", "word", "digit"] [])
    (mM : Meth K C "moved" fM) (FM : Fun K "moved" "Actor.moved" (sAct 2) fM fdM) (bM : Binds K fdM ["self", "word", "string"] [])
    (d13 : Df K mg "_is_row" "_is_row" 13 ["row", "k", "count"])
    (d14 : Df K mg "is_wide" "is_wide" 14 ["machine"])
    (d15 : Df K mg "is_machine" "is_machine" 15 ["machine"])
    (d16 : Df K mg "check_machine" "check_machine" 16 ["machine"])
    (d17 : Df K mg "has_digits" "has_digits" 17 ["k", "string"])
    (d18 : Df K mg "check_string" "check_string_machines" 18 ["k", "string"])
    (d25 : Df K mg "other" "other" 25 ["letter"])
    (d26 : Df K mg "letters_of" "letters_of" 26 ["machine"])
    (d27 : Df K mg "is_word" "is_word" 27 ["machine", "word"])
    (d28 : Df K mg "cut" "cut" 28 ["word"])
    (d29 : Df K mg "undone" "undone" 29 ["word"])
    (d30 : Df K mg "refuse_word" "refuse_word" 30 ["machine", "word"])
    (d31 : Df K mg "check_word" "check_word" 31 ["machine", "word"])
    (d32 : Df K mg "cut_word" "cut_word" 32 ["machine", "word"])
    (d33 : Df K mg "undone_word" "undone_word" 33 ["machine", "word"])
    (d36 : Df K mg "check_string" "check_string_sections" 36 ["machine", "string"])
    (d38 : Df K mg "moved" "moved" 38 ["machine", "word", "string"])
    (d39 : Df K mg "image_of" "image_of" 39 ["machine", "word", "string"])
    (d40 : Df K mg "section_of" "section_of" 40 ["machine", "word", "string"])
    (d42 : Df K mg "_law_number" "_law_number" 42 ["_law_cell"])
    (d43 : Df K mg "_law_draws" "_law_draws" 43 ["_law_script"])
    (d44 : Df K mg "_law_next" "_law_next" 44 ["_law_draws_here"])
    (d45 : Df K mg "_law_arranged" "_law_arranged" 45 ["_law_draws_here", "_law_size"])
    (d46 : Df K mg "_law_machine" "_law_machine" 46 ["_law_draws_here", "_law_most"])
    (d47 : Df K mg "_law_word" "_law_word" 47 ["_law_draws_here", "_law_machine_here", "_law_most"])
    (d48 : Df K mg "_law_string" "_law_string" 48 ["_law_draws_here", "_law_machine_here", "_law_most"])
    (d49 : Df K mg "_law_read" "_law_read" 49 ["_law_machine_here", "_law_letter", "_law_digit"])
    (d50 : Df K mg "_law_step" "_law_step" 50 ["_law_machine_here", "_law_word_here", "_law_digit"])
    (d51 : Df K mg "_law_moved" "_law_moved" 51 ["_law_machine_here", "_law_word_here", "_law_string_here"])
    (F : Fun K "law" "law" (top 55) f fd) : FnOk P w K mg base CX0 7 f fd ["_law_script"] (spLaw K) := by
  have IR : Cl P w K mg base 1 "_is_row" spIsRow := ok_isRow d13 G
  have IW := ok_wide d14 G IR
  have IM := ok_machine d15 G IW
  have CM := ok_checkM d16 IM
  have HD : Cl P w K mg base 1 "has_digits" spHasD := ok_hasD d17 G
  have CD := ok_checkD d18 HD
  have CS := ok_checkS d36 CD
  have OT : Cl P w K mg base 1 "other" spOther := ok_other d25 G
  have LT : Cl P w K mg base 1 "letters_of" spLetters := ok_letters d26 G
  have WD := ok_isWord d27 G LT
  have RF := ok_refuse d30 G WD
  have CW := ok_checkW d31 CM RF
  have CT := ok_cut d28 G OT
  have UT := ok_undone d29 G OT
  have CU := ok_cutWord d32 CW CT
  have UN := ok_undoneWord d33 CW UT
  have AI : FnOk P w K mg base CX0 1 fI fdI ["self", "machine"] (spInit C) := ok_init FI T G
  have AS : FnOk P w K mg base CX0 1 fS fdS ["self", "word", "digit"] (spStep C) := ok_step FS T G
  have AM := ok_moved FM T G mS AS bS
  have MD := ok_mod d38 T MK AI bI mM AM bM
  have IMG := ok_image d39 CW CS MD
  have SEC := ok_section d40 CW CS MD
  have NU : Cl P w K mg base 1 "_law_number" spNumber := ok_number d42
  have DW := ok_draws d43 G NU
  have NX : Cl P w K mg base 1 "_law_next" spNext := ok_next d44
  have AR := ok_arr d45 G NX
  have MA := ok_machineL d46 G NX AR
  have WO := ok_word d47 G NX
  have SG := ok_string d48 G NX
  have RD : Cl P w K mg base 1 "_law_read" spRead := ok_read d49 G
  have ST := ok_stepL d50 RD
  have MV := ok_movedL d51 G ST
  exact ok_law F G DW MA WO SG IMG SEC CU UN MV
end
/-! ### from the written part -/
abbrev BindAs (x : Str) (st : Stmt) (qual : Str) (ps : List Str) : Prop := ∀ (kV doc pm : Value) (an : Option Addr) (cdv ct : Value) (us : List Value), us.length = ps.length →
  bindArgs (PySem.W.fnOf x qual (defArgs st) (defBody st) (defScope st) .none kV doc pm an cdv ct) ⟨us, []⟩ = pure (ps.zip us)
theorem df_mk {K : PySem.W.Frag} {mg : Str → Option Value} {h : Heap} {x y : Str} {i : Nat} {ps : List Str} {f : Addr} {oc : Value} {od an : Option Addr} {osl : Array (Option Value)} {kV doc pm cdv ct : Value} (X : K.In h) (G : h.Ns mainGlobals mg) (b : BindAs x (top i) x ps)
    (a : PySem.W.nsIn K mainGlobals y = some (some (.ref f))) (l : K.lookup f = some ⟨oc, od, .func (PySem.W.fnOf x x (defArgs (top i)) (defBody (top i)) (defScope (top i)) .none kV doc pm an cdv ct), osl⟩)
    (c : PySem.W.codeIn K cdv x = true) (k : PySem.W.keepIn K (.ref f) = true) : Df K mg x y i ps :=
  have F := fun_mk (st := top i) l c k
  ⟨f, _, F, PySem.W.mg_of X G a, F.binds b⟩
theorem with_df {K : PySem.W.Frag} {mg : Str → Option Value} {h : Heap} {x : Str} (y : Str) {i : Nat} {ps : List Str} {f : Addr} {oc : Value} {od an : Option Addr} {osl : Array (Option Value)} {kV doc pm cdv ct : Value} {Z : Prop} (X : K.In h) (G : h.Ns mainGlobals mg) (b : BindAs x (top i) x ps)
    (a : PySem.W.nsIn K mainGlobals y = some (some (.ref f))) (l : K.lookup f = some ⟨oc, od, .func (PySem.W.fnOf x x (defArgs (top i)) (defBody (top i)) (defScope (top i)) .none kV doc pm an cdv ct), osl⟩)
    (c : PySem.W.codeIn K cdv x = true) (k : PySem.W.keepIn K (.ref f) = true) (n : Df K mg x y i ps → Z) : Z := n (df_mk X G b a l c k)
theorem str_mk {K : PySem.W.Frag} {mg : Str → Option Value} {h : Heap} {y z : Str} {t : Tok} (X : K.In h) (G : h.Ns mainGlobals mg) (a : PySem.W.nsIn K mainGlobals y = some (some (.str z t))) : IsC mg y (.str z) := ⟨_, PySem.W.mg_of X G a, t, rfl⟩
theorem int_mk {K : PySem.W.Frag} {mg : Str → Option Value} {h : Heap} {y : Str} {z : Int} {t : Tok} (X : K.In h) (G : h.Ns mainGlobals mg) (a : PySem.W.nsIn K mainGlobals y = some (some (.int z t))) : IsC mg y (.int z) := ⟨_, PySem.W.mg_of X G a, t, rfl⟩
theorem bind13 : BindAs "_is_row" (top 13) "_is_row" ["row", "k", "count"] := fun _ _ _ _ _ _ us hl => match us, hl with | [_, _, _], _ => rfl
theorem bind14 : BindAs "is_wide" (top 14) "is_wide" ["machine"] := fun _ _ _ _ _ _ us hl => match us, hl with | [_], _ => rfl
theorem bind15 : BindAs "is_machine" (top 15) "is_machine" ["machine"] := fun _ _ _ _ _ _ us hl => match us, hl with | [_], _ => rfl
theorem bind16 : BindAs "check_machine" (top 16) "check_machine" ["machine"] := fun _ _ _ _ _ _ us hl => match us, hl with | [_], _ => rfl
theorem bind17 : BindAs "has_digits" (top 17) "has_digits" ["k", "string"] := fun _ _ _ _ _ _ us hl => match us, hl with | [_, _], _ => rfl
theorem bind18 : BindAs "check_string" (top 18) "check_string" ["k", "string"] := fun _ _ _ _ _ _ us hl => match us, hl with | [_, _], _ => rfl
theorem bind25 : BindAs "other" (top 25) "other" ["letter"] := fun _ _ _ _ _ _ us hl => match us, hl with | [_], _ => rfl
theorem bind26 : BindAs "letters_of" (top 26) "letters_of" ["machine"] := fun _ _ _ _ _ _ us hl => match us, hl with | [_], _ => rfl
theorem bind27 : BindAs "is_word" (top 27) "is_word" ["machine", "word"] := fun _ _ _ _ _ _ us hl => match us, hl with | [_, _], _ => rfl
theorem bind28 : BindAs "cut" (top 28) "cut" ["word"] := fun _ _ _ _ _ _ us hl => match us, hl with | [_], _ => rfl
theorem bind29 : BindAs "undone" (top 29) "undone" ["word"] := fun _ _ _ _ _ _ us hl => match us, hl with | [_], _ => rfl
theorem bind30 : BindAs "refuse_word" (top 30) "refuse_word" ["machine", "word"] := fun _ _ _ _ _ _ us hl => match us, hl with | [_, _], _ => rfl
theorem bind31 : BindAs "check_word" (top 31) "check_word" ["machine", "word"] := fun _ _ _ _ _ _ us hl => match us, hl with | [_, _], _ => rfl
theorem bind32 : BindAs "cut_word" (top 32) "cut_word" ["machine", "word"] := fun _ _ _ _ _ _ us hl => match us, hl with | [_, _], _ => rfl
theorem bind33 : BindAs "undone_word" (top 33) "undone_word" ["machine", "word"] := fun _ _ _ _ _ _ us hl => match us, hl with | [_, _], _ => rfl
theorem bind36 : BindAs "check_string" (top 36) "check_string" ["machine", "string"] := fun _ _ _ _ _ _ us hl => match us, hl with | [_, _], _ => rfl
theorem bind38 : BindAs "moved" (top 38) "moved" ["machine", "word", "string"] := fun _ _ _ _ _ _ us hl => match us, hl with | [_, _, _], _ => rfl
theorem bind39 : BindAs "image_of" (top 39) "image_of" ["machine", "word", "string"] := fun _ _ _ _ _ _ us hl => match us, hl with | [_, _, _], _ => rfl
theorem bind40 : BindAs "section_of" (top 40) "section_of" ["machine", "word", "string"] := fun _ _ _ _ _ _ us hl => match us, hl with | [_, _, _], _ => rfl
theorem bind42 : BindAs "_law_number" (top 42) "_law_number" ["_law_cell"] := fun _ _ _ _ _ _ us hl => match us, hl with | [_], _ => rfl
theorem bind43 : BindAs "_law_draws" (top 43) "_law_draws" ["_law_script"] := fun _ _ _ _ _ _ us hl => match us, hl with | [_], _ => rfl
theorem bind44 : BindAs "_law_next" (top 44) "_law_next" ["_law_draws_here"] := fun _ _ _ _ _ _ us hl => match us, hl with | [_], _ => rfl
theorem bind45 : BindAs "_law_arranged" (top 45) "_law_arranged" ["_law_draws_here", "_law_size"] := fun _ _ _ _ _ _ us hl => match us, hl with | [_, _], _ => rfl
theorem bind46 : BindAs "_law_machine" (top 46) "_law_machine" ["_law_draws_here", "_law_most"] := fun _ _ _ _ _ _ us hl => match us, hl with | [_, _], _ => rfl
theorem bind47 : BindAs "_law_word" (top 47) "_law_word" ["_law_draws_here", "_law_machine_here", "_law_most"] := fun _ _ _ _ _ _ us hl => match us, hl with | [_, _, _], _ => rfl
theorem bind48 : BindAs "_law_string" (top 48) "_law_string" ["_law_draws_here", "_law_machine_here", "_law_most"] := fun _ _ _ _ _ _ us hl => match us, hl with | [_, _, _], _ => rfl
theorem bind49 : BindAs "_law_read" (top 49) "_law_read" ["_law_machine_here", "_law_letter", "_law_digit"] := fun _ _ _ _ _ _ us hl => match us, hl with | [_, _, _], _ => rfl
theorem bind50 : BindAs "_law_step" (top 50) "_law_step" ["_law_machine_here", "_law_word_here", "_law_digit"] := fun _ _ _ _ _ _ us hl => match us, hl with | [_, _, _], _ => rfl
theorem bind51 : BindAs "_law_moved" (top 51) "_law_moved" ["_law_machine_here", "_law_word_here", "_law_string_here"] := fun _ _ _ _ _ _ us hl => match us, hl with | [_, _, _], _ => rfl
theorem bind55 : BindAs "law" (top 55) "law" ["_law_script"] := fun _ _ _ _ _ _ us hl => match us, hl with | [_], _ => rfl
theorem bindA0 : BindAs "__init__" (sAct 0) "Actor.__init__" ["self", "machine"] := fun _ _ _ _ _ _ us hl => match us, hl with | [_, _], _ => rfl
theorem bindA1 : BindAs "step" (sAct 1) "Actor.step" ["self", "word", "digit"] := fun _ _ _ _ _ _ us hl => match us, hl with | [_, _, _], _ => rfl
theorem bindA2 : BindAs "moved" (sAct 2) "Actor.moved" ["self", "word", "string"] := fun _ _ _ _ _ _ us hl => match us, hl with | [_, _, _], _ => rfl
theorem gs_mk {K : PySem.W.Frag} {mg : Str → Option Value} {h : Heap} (X : K.In h) (G : h.Ns mainGlobals mg) (nlen : PySem.W.nsIn K mainGlobals "len" = some none) (nsorted : PySem.W.nsIn K mainGlobals "sorted" = some none) (nlist : PySem.W.nsIn K mainGlobals "list" = some none) (nrange : PySem.W.nsIn K mainGlobals "range" = some none) (nall : PySem.W.nsIn K mainGlobals "all" = some none) (nint : PySem.W.nsIn K mainGlobals "int" = some none) (nstr : PySem.W.nsIn K mainGlobals "str" = some none) (ntuple : PySem.W.nsIn K mainGlobals "tuple" = some none) (nenumerate : PySem.W.nsIn K mainGlobals "enumerate" = some none)
    {tSMALL tLARGE tORDER tDIGITS tLEAST_DIGITS tMOST_DIGITS tMOST_STATES tMOST_WIDE tMOST_LENGTH tLONGEST : Tok} (sSMALL : PySem.W.nsIn K mainGlobals "SMALL" = some (some (.str zSmall tSMALL))) (sLARGE : PySem.W.nsIn K mainGlobals "LARGE" = some (some (.str zLarge tLARGE))) (sORDER : PySem.W.nsIn K mainGlobals "ORDER" = some (some (.str zOrder tORDER))) (sDIGITS : PySem.W.nsIn K mainGlobals "DIGITS" = some (some (.str zDigits tDIGITS))) (sLEAST_DIGITS : PySem.W.nsIn K mainGlobals "LEAST_DIGITS" = some (some (.int 2 tLEAST_DIGITS))) (sMOST_DIGITS : PySem.W.nsIn K mainGlobals "MOST_DIGITS" = some (some (.int 4 tMOST_DIGITS))) (sMOST_STATES : PySem.W.nsIn K mainGlobals "MOST_STATES" = some (some (.int 8 tMOST_STATES))) (sMOST_WIDE : PySem.W.nsIn K mainGlobals "MOST_WIDE" = some (some (.int 200 tMOST_WIDE))) (sMOST_LENGTH : PySem.W.nsIn K mainGlobals "MOST_LENGTH" = some (some (.int 60 tMOST_LENGTH))) (sLONGEST : PySem.W.nsIn K mainGlobals "LONGEST" = some (some (.int 60 tLONGEST))) : Gs mg :=
  ⟨PySem.W.mg_none_of X G nlen, PySem.W.mg_none_of X G nsorted, PySem.W.mg_none_of X G nlist, PySem.W.mg_none_of X G nrange, PySem.W.mg_none_of X G nall, PySem.W.mg_none_of X G nint, PySem.W.mg_none_of X G nstr, PySem.W.mg_none_of X G ntuple, PySem.W.mg_none_of X G nenumerate, str_mk X G sSMALL, str_mk X G sLARGE, str_mk X G sORDER, str_mk X G sDIGITS, int_mk X G sLEAST_DIGITS, int_mk X G sMOST_DIGITS, int_mk X G sMOST_STATES, int_mk X G sMOST_WIDE, int_mk X G sMOST_LENGTH, int_mk X G sLONGEST⟩
theorem all_mk {l : PySem.W.OpenLaw} {w : World} {K : PySem.W.Frag} {h : Heap} {mg : Str → Option Value} {fa C f0 f1 f2 f3 : Addr} (X : K.In h) (G : h.Ns mainGlobals mg) (hfa : mg "law" = some (.ref fa)) (GS : Gs mg)
    (d13 : Df K mg "_is_row" "_is_row" 13 ["row", "k", "count"])
    (d14 : Df K mg "is_wide" "is_wide" 14 ["machine"])
    (d15 : Df K mg "is_machine" "is_machine" 15 ["machine"])
    (d16 : Df K mg "check_machine" "check_machine" 16 ["machine"])
    (d17 : Df K mg "has_digits" "has_digits" 17 ["k", "string"])
    (d18 : Df K mg "check_string" "check_string_machines" 18 ["k", "string"])
    (d25 : Df K mg "other" "other" 25 ["letter"])
    (d26 : Df K mg "letters_of" "letters_of" 26 ["machine"])
    (d27 : Df K mg "is_word" "is_word" 27 ["machine", "word"])
    (d28 : Df K mg "cut" "cut" 28 ["word"])
    (d29 : Df K mg "undone" "undone" 29 ["word"])
    (d30 : Df K mg "refuse_word" "refuse_word" 30 ["machine", "word"])
    (d31 : Df K mg "check_word" "check_word" 31 ["machine", "word"])
    (d32 : Df K mg "cut_word" "cut_word" 32 ["machine", "word"])
    (d33 : Df K mg "undone_word" "undone_word" 33 ["machine", "word"])
    (d36 : Df K mg "check_string" "check_string_sections" 36 ["machine", "string"])
    (d38 : Df K mg "moved" "moved" 38 ["machine", "word", "string"])
    (d39 : Df K mg "image_of" "image_of" 39 ["machine", "word", "string"])
    (d40 : Df K mg "section_of" "section_of" 40 ["machine", "word", "string"])
    (d42 : Df K mg "_law_number" "_law_number" 42 ["_law_cell"])
    (d43 : Df K mg "_law_draws" "_law_draws" 43 ["_law_script"])
    (d44 : Df K mg "_law_next" "_law_next" 44 ["_law_draws_here"])
    (d45 : Df K mg "_law_arranged" "_law_arranged" 45 ["_law_draws_here", "_law_size"])
    (d46 : Df K mg "_law_machine" "_law_machine" 46 ["_law_draws_here", "_law_most"])
    (d47 : Df K mg "_law_word" "_law_word" 47 ["_law_draws_here", "_law_machine_here", "_law_most"])
    (d48 : Df K mg "_law_string" "_law_string" 48 ["_law_draws_here", "_law_machine_here", "_law_most"])
    (d49 : Df K mg "_law_read" "_law_read" 49 ["_law_machine_here", "_law_letter", "_law_digit"])
    (d50 : Df K mg "_law_step" "_law_step" 50 ["_law_machine_here", "_law_word_here", "_law_digit"])
    (d51 : Df K mg "_law_moved" "_law_moved" 51 ["_law_machine_here", "_law_word_here", "_law_string_here"])
    {od0 an0 od1 an1 od2 an2 od3 an3 : Option Addr} {sl0 sl1 sl2 sl3 : Array (Option Value)} {oc0 kV0 dc0 pm0 cd0 ct0 oc1 kV1 dc1 pm1 cd1 ct1 oc2 kV2 dc2 pm2 cd2 ct2 oc3 kV3 dc3 pm3 cd3 ct3 : Value}
    (aC : PySem.W.nsIn K mainGlobals "Actor" = some (some (.ref C)))
    (a0 : PySem.W.findIn K (.ref C) "__init__" = some (some (.ref f0))) (i0 : PySem.W.isFn K (.ref f0) = true) (l0 : K.lookup f0 = some ⟨oc0, od0, .func (PySem.W.fnOf "__init__" "Actor.__init__" (defArgs (sAct 0)) (defBody (sAct 0)) (defScope (sAct 0)) .none kV0 dc0 pm0 an0 cd0 ct0), sl0⟩) (c0 : PySem.W.codeIn K cd0 "Actor.__init__" = true) (k0 : PySem.W.keepIn K (.ref f0) = true)
    (a1 : PySem.W.findIn K (.ref C) "step" = some (some (.ref f1))) (i1 : PySem.W.isFn K (.ref f1) = true) (l1 : K.lookup f1 = some ⟨oc1, od1, .func (PySem.W.fnOf "step" "Actor.step" (defArgs (sAct 1)) (defBody (sAct 1)) (defScope (sAct 1)) .none kV1 dc1 pm1 an1 cd1 ct1), sl1⟩) (c1 : PySem.W.codeIn K cd1 "Actor.step" = true) (k1 : PySem.W.keepIn K (.ref f1) = true)
    (a2 : PySem.W.findIn K (.ref C) "moved" = some (some (.ref f2))) (i2 : PySem.W.isFn K (.ref f2) = true) (l2 : K.lookup f2 = some ⟨oc2, od2, .func (PySem.W.fnOf "moved" "Actor.moved" (defArgs (sAct 2)) (defBody (sAct 2)) (defScope (sAct 2)) .none kV2 dc2 pm2 an2 cd2 ct2), sl2⟩) (c2 : PySem.W.codeIn K cd2 "Actor.moved" = true) (k2 : PySem.W.keepIn K (.ref f2) = true)
    (a3 : PySem.W.nsIn K mainGlobals "law" = some (some (.ref f3))) (l3 : K.lookup f3 = some ⟨oc3, od3, .func (PySem.W.fnOf "law" "law" (defArgs (top 55)) (defBody (top 55)) (defScope (top 55)) .none kV3 dc3 pm3 an3 cd3 ct3), sl3⟩) (c3 : PySem.W.codeIn K cd3 "law" = true) (k3 : PySem.W.keepIn K (.ref f3) = true)
    (pg : PySem.W.plainGet K C Str.empty = true) (hd : PySem.W.hasDictIn K C = true) (po : PySem.W.plainOver K C = true) (sa : PySem.W.findIn K (.ref C) "__setattr__" = some (some (.builtin "object.__setattr__"))) (mk : PySem.W.makesIn K C = true) (kc : PySem.W.keepIn K (.ref C) = true)
    (nS : PySem.W.findIn K (.ref C) "size" = some none) (nT : PySem.W.findIn K (.ref C) "table" = some none) :
    ∃ fd : FuncData, (∀ (s : Shared) (v : Value), BindsTo s fd ⟨[v], []⟩ [("_law_script", v)]) ∧ ∀ base : Heap, K.In base → base.Ns mainGlobals mg → FnOk l.prog w K mg base CX0 7 fa fd ["_law_script"] (spLaw K) := by
  have e := hfa.symm.trans (PySem.W.mg_of X G a3)
  cases e
  have T : AcT K mg C := ⟨⟨pg, hd, po, sa⟩, nS, nT, PySem.W.mg_of X G aC⟩
  have F0 := fun_mk (st := sAct 0) l0 c0 k0
  have F1 := fun_mk (st := sAct 1) l1 c1 k1
  have F2 := fun_mk (st := sAct 2) l2 c2 k2
  have F3 := fun_mk (st := top 55) l3 c3 k3
  exact ⟨PySem.W.fnOf "law" "law" (defArgs (top 55)) (defBody (top 55)) (defScope (top 55)) .none kV3 dc3 pm3 an3 cd3 ct3, fun s v => .of_eq rfl, fun base _ _ =>
    all_ok GS T ⟨mk, a0, i0, kc⟩ F0 (F0.binds bindA0) ⟨a1, i1, k1⟩ F1 (F1.binds bindA1) ⟨a2, i2, k2⟩ F2 (F2.binds bindA2) d13 d14 d15 d16 d17 d18 d25 d26 d27 d28 d29 d30 d31 d32 d33 d36 d38 d39 d40 d42 d43 d44 d45 d46 d47 d48 d49 d50 d51 F3⟩
end Lf
open PySem PySem.W PyProof.Rows
set_option maxRecDepth 100000 in
set_option maxHeartbeats 0 in
theorem PySem.Challenge.cw_leafturner_k10_whole_products_and_undoin_holds : PySem.Challenge.rw_leafturner_k10_whole_products_and_undoin.Holds := by
  w_on; o_law; k_head; (case hw => w_witness2)
  k_fill
  refine L2.walk_of (l := PySem.Challenge.rw_leafturner_k10_whole_products_and_undoin) (n := 63) (k := 7) (x := "_law_script") (CX := fun _ => L2.CX0) (sp := fun w => Lf.spLaw _) rfl (by decide) rfl ⟨rfl, by decide, by decide⟩ (fun w h Y => PySem.W.kIn_of Y) ?F (fun _ _ a ns hl _ hS => ⟨a, ns, rfl, hS, hl, fun _ => rfl⟩) (fun _ _ _ _ _ h => h)
  case F =>
    intro w mg fa h KX G hmg
    have GS : Lf.Gs mg := by
      refine' Lf.gs_mk KX G ?nlen ?nsorted ?nlist ?nrange ?nall ?nint ?nstr ?ntuple ?nenumerate ?sSMALL ?sLARGE ?sORDER ?sDIGITS ?sLEAST_DIGITS ?sMOST_DIGITS ?sMOST_STATES ?sMOST_WIDE ?sMOST_LENGTH ?sLONGEST
      (case nlen => k_is); (case nsorted => k_is); (case nlist => k_is); (case nrange => k_is); (case nall => k_is); (case nint => k_is); (case nstr => k_is); (case ntuple => k_is); (case nenumerate => k_is); (case sSMALL => k_is); (case sLARGE => k_is); (case sORDER => k_is); (case sDIGITS => k_is); (case sLEAST_DIGITS => k_is); (case sMOST_DIGITS => k_is); (case sMOST_STATES => k_is); (case sMOST_WIDE => k_is); (case sMOST_LENGTH => k_is); (case sLONGEST => k_is)
    refine' Lf.with_df "_is_row" KX G Lf.bind13 ?xa13 ?xl13 ?xc13 ?xk13 (fun d13 => ?xn13)
    (case xa13 => k_is); (case xl13 => k_is); (case xc13 => k_is); (case xk13 => k_is)
    refine' Lf.with_df "is_wide" KX G Lf.bind14 ?xa14 ?xl14 ?xc14 ?xk14 (fun d14 => ?xn14)
    (case xa14 => k_is); (case xl14 => k_is); (case xc14 => k_is); (case xk14 => k_is)
    refine' Lf.with_df "is_machine" KX G Lf.bind15 ?xa15 ?xl15 ?xc15 ?xk15 (fun d15 => ?xn15)
    (case xa15 => k_is); (case xl15 => k_is); (case xc15 => k_is); (case xk15 => k_is)
    refine' Lf.with_df "check_machine" KX G Lf.bind16 ?xa16 ?xl16 ?xc16 ?xk16 (fun d16 => ?xn16)
    (case xa16 => k_is); (case xl16 => k_is); (case xc16 => k_is); (case xk16 => k_is)
    refine' Lf.with_df "has_digits" KX G Lf.bind17 ?xa17 ?xl17 ?xc17 ?xk17 (fun d17 => ?xn17)
    (case xa17 => k_is); (case xl17 => k_is); (case xc17 => k_is); (case xk17 => k_is)
    refine' Lf.with_df "check_string_machines" KX G Lf.bind18 ?xa18 ?xl18 ?xc18 ?xk18 (fun d18 => ?xn18)
    (case xa18 => k_is); (case xl18 => k_is); (case xc18 => k_is); (case xk18 => k_is)
    refine' Lf.with_df "other" KX G Lf.bind25 ?xa25 ?xl25 ?xc25 ?xk25 (fun d25 => ?xn25)
    (case xa25 => k_is); (case xl25 => k_is); (case xc25 => k_is); (case xk25 => k_is)
    refine' Lf.with_df "letters_of" KX G Lf.bind26 ?xa26 ?xl26 ?xc26 ?xk26 (fun d26 => ?xn26)
    (case xa26 => k_is); (case xl26 => k_is); (case xc26 => k_is); (case xk26 => k_is)
    refine' Lf.with_df "is_word" KX G Lf.bind27 ?xa27 ?xl27 ?xc27 ?xk27 (fun d27 => ?xn27)
    (case xa27 => k_is); (case xl27 => k_is); (case xc27 => k_is); (case xk27 => k_is)
    refine' Lf.with_df "cut" KX G Lf.bind28 ?xa28 ?xl28 ?xc28 ?xk28 (fun d28 => ?xn28)
    (case xa28 => k_is); (case xl28 => k_is); (case xc28 => k_is); (case xk28 => k_is)
    refine' Lf.with_df "undone" KX G Lf.bind29 ?xa29 ?xl29 ?xc29 ?xk29 (fun d29 => ?xn29)
    (case xa29 => k_is); (case xl29 => k_is); (case xc29 => k_is); (case xk29 => k_is)
    refine' Lf.with_df "refuse_word" KX G Lf.bind30 ?xa30 ?xl30 ?xc30 ?xk30 (fun d30 => ?xn30)
    (case xa30 => k_is); (case xl30 => k_is); (case xc30 => k_is); (case xk30 => k_is)
    refine' Lf.with_df "check_word" KX G Lf.bind31 ?xa31 ?xl31 ?xc31 ?xk31 (fun d31 => ?xn31)
    (case xa31 => k_is); (case xl31 => k_is); (case xc31 => k_is); (case xk31 => k_is)
    refine' Lf.with_df "cut_word" KX G Lf.bind32 ?xa32 ?xl32 ?xc32 ?xk32 (fun d32 => ?xn32)
    (case xa32 => k_is); (case xl32 => k_is); (case xc32 => k_is); (case xk32 => k_is)
    refine' Lf.with_df "undone_word" KX G Lf.bind33 ?xa33 ?xl33 ?xc33 ?xk33 (fun d33 => ?xn33)
    (case xa33 => k_is); (case xl33 => k_is); (case xc33 => k_is); (case xk33 => k_is)
    refine' Lf.with_df "check_string_sections" KX G Lf.bind36 ?xa36 ?xl36 ?xc36 ?xk36 (fun d36 => ?xn36)
    (case xa36 => k_is); (case xl36 => k_is); (case xc36 => k_is); (case xk36 => k_is)
    refine' Lf.with_df "moved" KX G Lf.bind38 ?xa38 ?xl38 ?xc38 ?xk38 (fun d38 => ?xn38)
    (case xa38 => k_is); (case xl38 => k_is); (case xc38 => k_is); (case xk38 => k_is)
    refine' Lf.with_df "image_of" KX G Lf.bind39 ?xa39 ?xl39 ?xc39 ?xk39 (fun d39 => ?xn39)
    (case xa39 => k_is); (case xl39 => k_is); (case xc39 => k_is); (case xk39 => k_is)
    refine' Lf.with_df "section_of" KX G Lf.bind40 ?xa40 ?xl40 ?xc40 ?xk40 (fun d40 => ?xn40)
    (case xa40 => k_is); (case xl40 => k_is); (case xc40 => k_is); (case xk40 => k_is)
    refine' Lf.with_df "_law_number" KX G Lf.bind42 ?xa42 ?xl42 ?xc42 ?xk42 (fun d42 => ?xn42)
    (case xa42 => k_is); (case xl42 => k_is); (case xc42 => k_is); (case xk42 => k_is)
    refine' Lf.with_df "_law_draws" KX G Lf.bind43 ?xa43 ?xl43 ?xc43 ?xk43 (fun d43 => ?xn43)
    (case xa43 => k_is); (case xl43 => k_is); (case xc43 => k_is); (case xk43 => k_is)
    refine' Lf.with_df "_law_next" KX G Lf.bind44 ?xa44 ?xl44 ?xc44 ?xk44 (fun d44 => ?xn44)
    (case xa44 => k_is); (case xl44 => k_is); (case xc44 => k_is); (case xk44 => k_is)
    refine' Lf.with_df "_law_arranged" KX G Lf.bind45 ?xa45 ?xl45 ?xc45 ?xk45 (fun d45 => ?xn45)
    (case xa45 => k_is); (case xl45 => k_is); (case xc45 => k_is); (case xk45 => k_is)
    refine' Lf.with_df "_law_machine" KX G Lf.bind46 ?xa46 ?xl46 ?xc46 ?xk46 (fun d46 => ?xn46)
    (case xa46 => k_is); (case xl46 => k_is); (case xc46 => k_is); (case xk46 => k_is)
    refine' Lf.with_df "_law_word" KX G Lf.bind47 ?xa47 ?xl47 ?xc47 ?xk47 (fun d47 => ?xn47)
    (case xa47 => k_is); (case xl47 => k_is); (case xc47 => k_is); (case xk47 => k_is)
    refine' Lf.with_df "_law_string" KX G Lf.bind48 ?xa48 ?xl48 ?xc48 ?xk48 (fun d48 => ?xn48)
    (case xa48 => k_is); (case xl48 => k_is); (case xc48 => k_is); (case xk48 => k_is)
    refine' Lf.with_df "_law_read" KX G Lf.bind49 ?xa49 ?xl49 ?xc49 ?xk49 (fun d49 => ?xn49)
    (case xa49 => k_is); (case xl49 => k_is); (case xc49 => k_is); (case xk49 => k_is)
    refine' Lf.with_df "_law_step" KX G Lf.bind50 ?xa50 ?xl50 ?xc50 ?xk50 (fun d50 => ?xn50)
    (case xa50 => k_is); (case xl50 => k_is); (case xc50 => k_is); (case xk50 => k_is)
    refine' Lf.with_df "_law_moved" KX G Lf.bind51 ?xa51 ?xl51 ?xc51 ?xk51 (fun d51 => ?xn51)
    (case xa51 => k_is); (case xl51 => k_is); (case xc51 => k_is); (case xk51 => k_is)
    refine' Lf.all_mk KX G hmg GS d13 d14 d15 d16 d17 d18 d25 d26 d27 d28 d29 d30 d31 d32 d33 d36 d38 d39 d40 d42 d43 d44 d45 d46 d47 d48 d49 d50 d51 ?aC ?a0 ?i0 ?l0 ?c0 ?k0 ?a1 ?i1 ?l1 ?c1 ?k1 ?a2 ?i2 ?l2 ?c2 ?k2 ?a3 ?l3 ?c3 ?k3 ?pg ?hd ?po ?sa ?mk ?kc ?nS ?nT
    (case aC => k_is); (case a0 => k_is); (case i0 => k_is); (case l0 => k_is); (case c0 => k_is); (case k0 => k_is); (case a1 => k_is); (case i1 => k_is); (case l1 => k_is); (case c1 => k_is); (case k1 => k_is); (case a2 => k_is); (case i2 => k_is); (case l2 => k_is); (case c2 => k_is); (case k2 => k_is); (case a3 => k_is); (case l3 => k_is); (case c3 => k_is); (case k3 => k_is); (case pg => k_is); (case hd => k_is); (case po => k_is); (case sa => k_is); (case mk => k_is); (case kc => k_is); (case nS => k_is); (case nT => k_is)
