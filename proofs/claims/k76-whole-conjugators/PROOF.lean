import PyProof.Rows.All
import Wide.All
import OpenK.AllK
import Wide.FinOn
import HandS.ForMost
import HandS.Evl
import HandS.Walk
import HandS.DictComp
import HandS.StrMore
import HandS.IsInst
import HandS.Style
import HandS.Deep
import HandS.Conv
import HandS.More
import HandS.ExcOwn
import KE.SortData
import KE.DataCmp
import KE.DataMinKey
import KE.GoesEnum
import PySem.Challenge.RW_foldedways_k76_whole_conjugators
import HandS.SortKw
import HandS.Replace
import HandS.TryOnly
section
set_option autoImplicit false
set_option linter.all false
namespace Fw

/-! ## letters -/
inductive Let where
  | a | A | b | B | c | C
  deriving DecidableEq

namespace Let
def flip : Let → Let
  | a => A | A => a | b => B | B => b | c => C | C => c
def small : Let → Bool
  | a => true | A => false | b => true | B => false | c => true | C => false
def low : Let → Let
  | a => a | A => a | b => b | B => b | c => c | C => c
def up : Let → Let
  | a => A | A => A | b => B | B => B | c => C | C => C
def idx : Let → Nat
  | a => 0 | A => 1 | b => 2 | B => 3 | c => 4 | C => 5
theorem flip_flip (x : Let) : x.flip.flip = x := by cases x <;> rfl
theorem flip_ne (x : Let) : x.flip ≠ x := by cases x <;> decide
theorem flip_inj {x y : Let} (h : x.flip = y.flip) : x = y := by
  have := congrArg flip h
  rwa [flip_flip, flip_flip] at this
theorem idx_inj {x y : Let} (h : x.idx = y.idx) : x = y := by
  cases x <;> cases y <;> first | rfl | exact absurd h (by decide)
theorem idx_lt (x : Let) : x.idx < 6 := by cases x <;> decide
theorem small_flip (x : Let) : x.flip.small = !x.small := by cases x <;> rfl
theorem low_small (x : Let) : x.low.small = true := by cases x <;> rfl
theorem low_of_small {x : Let} (h : x.small = true) : x.low = x := by cases x <;> first | rfl | exact absurd h (by decide)
theorem low_of_big {x : Let} (h : x.small = false) : x.low = x.flip := by cases x <;> first | rfl | exact absurd h (by decide)
theorem up_of_small {x : Let} (h : x.small = true) : x.up = x.flip := by cases x <;> first | rfl | exact absurd h (by decide)
end Let

abbrev Word := List Let
def inv (w : Word) : Word := (w.reverse).map Let.flip
theorem inv_nil : inv [] = [] := rfl
theorem inv_append (u v : Word) : inv (u ++ v) = inv v ++ inv u := by
  simp [inv]
theorem inv_one (x : Let) : inv [x] = [x.flip] := rfl
theorem inv_cons (x : Let) (w : Word) : inv (x :: w) = inv w ++ [x.flip] := by
  simp [inv]
theorem inv_snoc (x : Let) (w : Word) : inv (w ++ [x]) = x.flip :: inv w := by
  simp [inv]
theorem inv_inv (w : Word) : inv (inv w) = w := by
  induction w with
  | nil => rfl
  | cons x r ih => rw [inv_cons, inv_snoc, ih, Let.flip_flip]
theorem inv_length (w : Word) : (inv w).length = w.length := by simp [inv]

/-! ## reduced words -/
def Rd : Word → Prop
  | [] => True
  | x :: r => (∀ y, r.head? = some y → y ≠ x.flip) ∧ Rd r
theorem Rd.tail {x : Let} {r : Word} (h : Rd (x :: r)) : Rd r := h.2
theorem rd_app : ∀ (a b : Word), Rd (a ++ b) ↔ Rd a ∧ Rd b ∧ ∀ x y, a.getLast? = some x → b.head? = some y → y ≠ x.flip
  | [], b => by simp [Rd]
  | [x], b => by
    show Rd (x :: b) ↔ _
    constructor
    · rintro ⟨h1, h2⟩
      refine ⟨⟨by simp, True.intro⟩, h2, ?_⟩
      intro z y hz hy
      have e : x = z := by simpa using hz
      subst e
      exact h1 y hy
    · rintro ⟨_, h2, h3⟩
      exact ⟨fun y hy => h3 x y (by simp) hy, h2⟩
  | x :: z :: r, b => by
    have ih := rd_app (z :: r) b
    show ((∀ y, ((z :: r) ++ b).head? = some y → y ≠ x.flip) ∧ Rd ((z :: r) ++ b)) ↔ ((∀ y, (z :: r).head? = some y → y ≠ x.flip) ∧ Rd (z :: r)) ∧ _
    rw [ih]
    have e1 : ((z :: r) ++ b).head? = some z := rfl
    have e2 : (z :: r).head? = some z := rfl
    have e3 : (x :: z :: r).getLast? = (z :: r).getLast? := List.getLast?_cons_cons
    rw [e1, e2, e3]
    constructor
    · rintro ⟨h1, h2, h3, h4⟩
      exact ⟨⟨h1, h2⟩, h3, h4⟩
    · rintro ⟨⟨h1, h2⟩, h3, h4⟩
      exact ⟨h1, h2, h3, h4⟩
theorem Rd.left {a b : Word} (h : Rd (a ++ b)) : Rd a := ((rd_app a b).mp h).1
theorem Rd.right {a b : Word} (h : Rd (a ++ b)) : Rd b := ((rd_app a b).mp h).2.1
theorem Rd.snoc {a : Word} {y : Let} (h : Rd a) (hy : ∀ x, a.getLast? = some x → y ≠ x.flip) : Rd (a ++ [y]) :=
  (rd_app a [y]).mpr ⟨h, ⟨by simp, True.intro⟩, fun x z hx hz => by
    have e : y = z := by simpa using hz
    subst e
    exact hy x hx⟩
theorem Rd.snoc_ne {a : Word} {x y : Let} (h : Rd (a ++ [x] ++ [y])) : y ≠ x.flip :=
  ((rd_app (a ++ [x]) [y]).mp h).2.2 x y (by simp) rfl
theorem Rd.mid {a r : Word} {x y : Let} (h : Rd (a ++ x :: y :: r)) : y ≠ x.flip := by
  have h2 := h.right
  exact h2.1 y rfl
theorem head_inv (w : Word) : (inv w).head? = w.getLast?.map Let.flip := by
  rw [inv, List.head?_map, List.head?_reverse]
theorem last_inv (w : Word) : (inv w).getLast? = w.head?.map Let.flip := by
  rw [inv, List.getLast?_map, List.getLast?_reverse]
theorem Rd.inv : ∀ {w : Word}, Rd w → Rd (Fw.inv w)
  | [], _ => True.intro
  | x :: r, h => by
    rw [inv_cons]
    refine Rd.snoc (Rd.inv h.2) fun z hz => ?_
    rw [last_inv] at hz
    cases e : r.head? with
    | none => rw [e] at hz; cases hz
    | some y =>
      rw [e] at hz
      have e2 : y.flip = z := by simpa using hz
      subst e2
      have h1 := h.1 y e
      intro q
      exact h1 (by rw [q, Let.flip_flip])

/-! ## the reduced form, by a stack (its top first) -/
def red1 (acc : Word) (x : Let) : Word := match acc with
  | [] => [x]
  | y :: r => if y = x.flip then r else x :: y :: r
def stk (acc : Word) (w : Word) : Word := w.foldl red1 acc
def red (w : Word) : Word := (stk [] w).reverse
theorem stk_nil (acc : Word) : stk acc [] = acc := rfl
theorem stk_cons (acc : Word) (x : Let) (w : Word) : stk acc (x :: w) = stk (red1 acc x) w := rfl
theorem stk_app (acc u v : Word) : stk acc (u ++ v) = stk (stk acc u) v := by
  unfold stk
  rw [List.foldl_append]
/-- a stack is reduced, read from its top -/
theorem rd_red1 {acc : Word} (x : Let) (h : Rd acc) : Rd (red1 acc x) := by
  cases acc with
  | nil => exact ⟨by simp, True.intro⟩
  | cons y r =>
    unfold red1
    show Rd (if y = x.flip then r else x :: y :: r)
    split
    · exact h.2
    · rename_i hne
      refine ⟨fun z hz => ?_, h⟩
      have e : y = z := by simpa using hz
      subst e
      exact hne
theorem rd_stk : ∀ (w : Word) {acc : Word}, Rd acc → Rd (stk acc w)
  | [], _, h => h
  | x :: r, _, h => rd_stk r (rd_red1 x h)
theorem rd_reverse {w : Word} (h : Rd w) : Rd w.reverse := by
  have h2 := h.inv
  have e : ∀ u : Word, Rd u → Rd (u.map Let.flip) := by
    intro u
    induction u with
    | nil => intro _; exact True.intro
    | cons x r ih =>
      intro hu
      refine ⟨fun y hy => ?_, ih hu.2⟩
      rw [List.head?_map] at hy
      cases q : r.head? with
      | none => rw [q] at hy; cases hy
      | some z =>
        rw [q] at hy
        have e2 : z.flip = y := by simpa using hy
        subst e2
        intro q2
        exact hu.1 z q (Let.flip_inj q2)
  have h3 := e _ h2
  have e4 : (Fw.inv w).map Let.flip = w.reverse := by
    unfold Fw.inv
    rw [List.map_map]
    have : (Let.flip ∘ Let.flip) = id := by
      funext x
      exact Let.flip_flip x
    rw [this, List.map_id]
  rw [e4] at h3
  exact h3
theorem red_rd (w : Word) : Rd (red w) := rd_reverse (rd_stk w (acc := []) True.intro)
theorem red1_back {acc : Word} (x : Let) (h : Rd acc) : red1 (red1 acc x) x.flip = acc := by
  cases acc with
  | nil =>
    show (if x = x.flip.flip then [] else _) = []
    rw [if_pos (Let.flip_flip x).symm]
  | cons y r =>
    by_cases e : y = x.flip
    · have e1 : red1 (y :: r) x = r := by
        show (if y = x.flip then r else _) = r
        rw [if_pos e]
      rw [e1]
      cases r with
      | nil =>
        show [x.flip] = [y]
        rw [e]
      | cons z r2 =>
        have hz : z ≠ y.flip := h.1 z rfl
        show (if z = x.flip.flip then r2 else x.flip :: z :: r2) = y :: z :: r2
        rw [if_neg (by rw [← e]; exact hz), e]
    · have e1 : red1 (y :: r) x = x :: y :: r := by
        show (if y = x.flip then r else _) = _
        rw [if_neg e]
      rw [e1]
      show (if x = x.flip.flip then y :: r else _) = y :: r
      rw [if_pos (Let.flip_flip x).symm]
theorem stk_red {acc : Word} (ha : Rd acc) : ∀ (w st : Word), stk acc ((stk st w).reverse) = stk (stk acc st.reverse) w
  | [], st => rfl
  | x :: r, st => by
    rw [stk_cons, stk_red ha r (red1 st x), stk_cons]
    congr 1
    cases st with
    | nil => rfl
    | cons y s2 =>
      by_cases e : y = x.flip
      · have e1 : red1 (y :: s2) x = s2 := by
          show (if y = x.flip then s2 else _) = s2
          rw [if_pos e]
        rw [e1, List.reverse_cons, stk_app]
        show _ = red1 (red1 (stk acc s2.reverse) y) x
        have e2 : x = y.flip := by rw [e, Let.flip_flip]
        rw [e2, red1_back y (rd_stk _ ha)]
      · have e1 : red1 (y :: s2) x = x :: y :: s2 := by
          show (if y = x.flip then s2 else _) = _
          rw [if_neg e]
        rw [e1, List.reverse_cons (a := x), stk_app]
        rfl
theorem stk_of_red {acc : Word} (ha : Rd acc) (w : Word) : stk acc (red w) = stk acc w := stk_red ha w []
/-- two words mean the same -/
def Eqv (u v : Word) : Prop := red u = red v
theorem Eqv.refl (u : Word) : Eqv u u := rfl
theorem Eqv.symm {u v : Word} (h : Eqv u v) : Eqv v u := Eq.symm h
theorem Eqv.trans {u v w : Word} (h : Eqv u v) (k : Eqv v w) : Eqv u w := Eq.trans h k
theorem Eqv.stk {u v : Word} (h : Eqv u v) {acc : Word} (ha : Rd acc) : Fw.stk acc u = Fw.stk acc v := by
  rw [← stk_of_red ha u, ← stk_of_red ha v, show red u = red v from h]
theorem red_red (w : Word) : red (red w) = red w := by
  show (stk [] (red w)).reverse = _
  rw [stk_of_red (acc := []) True.intro]
  rfl
theorem eqv_red (w : Word) : Eqv (red w) w := red_red w
theorem Eqv.app {u u' v v' : Word} (h : Eqv u u') (k : Eqv v v') : Eqv (u ++ v) (u' ++ v') := by
  show (Fw.stk [] (u ++ v)).reverse = (Fw.stk [] (u' ++ v')).reverse
  rw [stk_app, stk_app, h.stk (acc := []) True.intro, k.stk (rd_stk u' (acc := []) True.intro)]
theorem Eqv.left {u u' : Word} (v : Word) (h : Eqv u u') : Eqv (u ++ v) (u' ++ v) := h.app (Eqv.refl v)
theorem Eqv.right {v v' : Word} (u : Word) (h : Eqv v v') : Eqv (u ++ v) (u ++ v') := (Eqv.refl u).app h
theorem eqv_pair (x : Let) : Eqv [x, x.flip] [] := by
  show (red1 (red1 [] x) x.flip).reverse = [].reverse
  rw [red1_back x (acc := []) True.intro]
theorem eqv_cancel : ∀ w : Word, Eqv (w ++ inv w) []
  | [] => rfl
  | x :: r => by
    rw [inv_cons]
    have e : x :: r ++ (inv r ++ [x.flip]) = [x] ++ ((r ++ inv r) ++ [x.flip]) := by simp
    rw [e]
    exact (Eqv.right [x] ((eqv_cancel r).left [x.flip])).trans (eqv_pair x)
theorem eqv_cancel' (w : Word) : Eqv (inv w ++ w) [] := by
  have h := eqv_cancel (inv w)
  rw [inv_inv] at h
  exact h
theorem Eqv.inv {u v : Word} (h : Eqv u v) : Eqv (Fw.inv u) (Fw.inv v) := by
  have h1 : Eqv (Fw.inv u ++ (v ++ Fw.inv v)) (Fw.inv u ++ []) := Eqv.right _ (eqv_cancel v)
  have h2 : Eqv ((Fw.inv u ++ v) ++ Fw.inv v) ((Fw.inv u ++ u) ++ Fw.inv v) := Eqv.left _ (Eqv.right _ h.symm)
  have h3 : Eqv ((Fw.inv u ++ u) ++ Fw.inv v) ([] ++ Fw.inv v) := Eqv.left _ (eqv_cancel' u)
  rw [List.append_nil, ← List.append_assoc] at h1
  exact (h1.symm.trans h2).trans h3
/-- a reduced word is its reduced form -/
theorem stk_rd : ∀ (w acc : Word), Rd (acc.reverse ++ w) → stk acc w = w.reverse ++ acc
  | [], acc, _ => rfl
  | x :: r, acc, h => by
    rw [stk_cons]
    have e : red1 acc x = x :: acc := by
      cases acc with
      | nil => rfl
      | cons y s =>
        show (if y = x.flip then s else x :: y :: s) = x :: y :: s
        have h2 : x ≠ y.flip := ((rd_app (y :: s).reverse (x :: r)).mp h).2.2 y x (by simp) rfl
        rw [if_neg]
        intro q
        apply h2
        rw [q, Let.flip_flip]
    rw [e, stk_rd r (x :: acc) (by rw [List.reverse_cons, List.append_assoc]; exact h)]
    simp
theorem red_of_rd {w : Word} (h : Rd w) : red w = w := by
  unfold red
  rw [stk_rd w [] h]
  simp
theorem red1_len (acc : Word) (x : Let) : (red1 acc x).length ≤ acc.length + 1 := by
  cases acc with
  | nil => exact Nat.le_refl _
  | cons y r =>
    show (if y = x.flip then r else x :: y :: r).length ≤ _
    split
    · simp; omega
    · simp
theorem stk_len : ∀ (w acc : Word), (stk acc w).length ≤ acc.length + w.length
  | [], acc => by simp [stk_nil]
  | x :: r, acc => by
    rw [stk_cons]
    have h1 := stk_len r (red1 acc x)
    have h2 := red1_len acc x
    rw [List.length_cons]
    omega
theorem red_len (w : Word) : (red w).length ≤ w.length := by
  unfold red
  rw [List.length_reverse]
  have := stk_len w []
  simpa using this
theorem mem_red1 {acc : Word} {x y : Let} (h : y ∈ red1 acc x) : y = x ∨ y ∈ acc := by
  cases acc with
  | nil =>
    have : y ∈ [x] := h
    simp at this
    exact .inl this
  | cons z r =>
    have h' : y ∈ (if z = x.flip then r else x :: z :: r) := h
    split at h'
    · exact .inr (List.mem_cons_of_mem _ h')
    · rcases List.mem_cons.mp h' with e | e
      · exact .inl e
      · exact .inr e
theorem mem_stk : ∀ (w : Word) {acc : Word} {y : Let}, y ∈ stk acc w → y ∈ w ∨ y ∈ acc
  | [], _, _, h => .inr h
  | x :: r, _, _, h => by
    rcases mem_stk r h with e | e
    · exact .inl (List.mem_cons_of_mem _ e)
    · rcases mem_red1 e with q | q
      · exact .inl (by rw [q]; exact List.mem_cons_self)
      · exact .inr q
theorem mem_red {w : Word} {y : Let} (h : y ∈ red w) : y ∈ w := by
  have h' : y ∈ stk [] w := by
    unfold red at h
    exact List.mem_reverse.mp h
  rcases mem_stk w h' with e | e
  · exact e
  · simp at e

/-! ## the words that belong -/
inductive Gen (ws : List Word) : Word → Prop
  | one : Gen ws []
  | mem {u : Word} : u ∈ ws → Gen ws u
  | mul {u v : Word} : Gen ws u → Gen ws v → Gen ws (u ++ v)
  | inv {u : Word} : Gen ws u → Gen ws (Fw.inv u)
  | eqv {u v : Word} : Eqv u v → Gen ws u → Gen ws v
/-- a set of words closed like a family -/
structure Grp (L : Word → Prop) : Prop where
  one : L []
  mul : ∀ {u v : Word}, L u → L v → L (u ++ v)
  inv : ∀ {u : Word}, L u → L (Fw.inv u)
  eqv : ∀ {u v : Word}, Eqv u v → L u → L v
theorem gen_grp (ws : List Word) : Grp (Gen ws) := ⟨.one, .mul, .inv, .eqv⟩
theorem Gen.all {ws : List Word} {L : Word → Prop} (g : Grp L) (h : ∀ u ∈ ws, L u) {w : Word} (hw : Gen ws w) : L w := by
  induction hw with
  | one => exact g.one
  | mem m => exact h _ m
  | mul _ _ h1 h2 => exact g.mul h1 h2
  | inv _ h1 => exact g.inv h1
  | eqv e _ h1 => exact g.eqv e h1
/-- moved by g -/
def Cj (L : Word → Prop) (g u : Word) : Prop := L (g ++ u ++ inv g)
theorem Cj.grp {L : Word → Prop} (h : Grp L) (g : Word) : Grp (Cj L g) where
  one := h.eqv (show Eqv [] _ by
    rw [List.append_nil]
    exact (eqv_cancel g).symm) h.one
  mul := fun {u v} hu hv => by
    refine h.eqv (show Eqv ((g ++ u ++ Fw.inv g) ++ (g ++ v ++ Fw.inv g)) _ from ?_) (h.mul hu hv)
    have e1 : (g ++ u ++ Fw.inv g) ++ (g ++ v ++ Fw.inv g) = (g ++ u) ++ ((Fw.inv g ++ g) ++ (v ++ Fw.inv g)) := by simp
    have e2 : g ++ (u ++ v) ++ Fw.inv g = (g ++ u) ++ ([] ++ (v ++ Fw.inv g)) := by simp
    rw [e1, e2]
    exact Eqv.right _ (Eqv.left _ (eqv_cancel' g))
  inv := fun {u} hu => by
    have := h.inv hu
    rw [inv_append, inv_append, inv_inv] at this
    show L (g ++ Fw.inv u ++ Fw.inv g)
    rw [List.append_assoc]
    exact this
  eqv := fun {u v} e hu => h.eqv (Eqv.left _ (Eqv.right _ e)) hu
end Fw
end

section
set_option autoImplicit false
set_option linter.all false
namespace Fw

/-! ## walks in a partial action of the letters -/
abbrev Act := Nat → Let → Option Nat
def walk (s : Act) (v : Nat) : Word → Option Nat
  | [] => some v
  | x :: r => match s v x with
    | none => none
    | some u => walk s u r
/-- folded: what leads there leads back -/
def PA (s : Act) : Prop := ∀ v x u, s v x = some u → s u x.flip = some v
section
variable {s t : Act}
theorem walk_nil (v : Nat) : walk s v [] = some v := rfl
theorem walk_cons {v u : Nat} {x : Let} (h : s v x = some u) (r : Word) : walk s v (x :: r) = walk s u r := by
  show (match s v x with | none => none | some u => walk s u r) = _
  rw [h]
theorem walk_cons_some {v k : Nat} {x : Let} {r : Word} (h : walk s v (x :: r) = some k) : ∃ u, s v x = some u ∧ walk s u r = some k := by
  have h' : (match s v x with | none => none | some u => walk s u r) = some k := h
  cases e : s v x with
  | none => rw [e] at h'; cases h'
  | some u => rw [e] at h'; exact ⟨u, rfl, h'⟩
theorem walk_one {v u : Nat} {x : Let} : walk s v [x] = some u ↔ s v x = some u := by
  constructor
  · intro h
    obtain ⟨k, h1, h2⟩ := walk_cons_some h
    have e : k = u := Option.some.inj h2
    rw [← e]
    exact h1
  · intro h
    rw [walk_cons h]
    rfl
theorem walk_app : ∀ {p q : Word} {v u k : Nat}, walk s v p = some u → walk s u q = some k → walk s v (p ++ q) = some k
  | [], _, _, _, _, h, h2 => by
    have e := Option.some.inj h
    rw [e]
    exact h2
  | x :: r, q, v, u, k, h, h2 => by
    obtain ⟨m, h3, h4⟩ := walk_cons_some h
    show walk s v (x :: (r ++ q)) = some k
    rw [walk_cons h3]
    exact walk_app h4 h2
theorem walk_split : ∀ {p q : Word} {v k : Nat}, walk s v (p ++ q) = some k → ∃ u, walk s v p = some u ∧ walk s u q = some k
  | [], _, v, _, h => ⟨v, rfl, h⟩
  | x :: r, q, v, k, h => by
    obtain ⟨m, h3, h4⟩ := walk_cons_some (show walk s v (x :: (r ++ q)) = some k from h)
    obtain ⟨u, h5, h6⟩ := walk_split h4
    exact ⟨u, by rw [walk_cons h3]; exact h5, h6⟩
theorem walk_snoc {p : Word} {x : Let} {v u k : Nat} (h : walk s v p = some u) (h2 : s u x = some k) : walk s v (p ++ [x]) = some k :=
  walk_app h (walk_one.mpr h2)
theorem walk_unsnoc {p : Word} {x : Let} {v k : Nat} (h : walk s v (p ++ [x]) = some k) : ∃ u, walk s v p = some u ∧ s u x = some k := by
  obtain ⟨u, h1, h2⟩ := walk_split h
  exact ⟨u, h1, walk_one.mp h2⟩
theorem PA.back (h : PA s) {v u u' : Nat} {x : Let} (a : s v x = some u) (b : s u' x = some u) : v = u' := by
  have h1 := h _ _ _ a
  have h2 := h _ _ _ b
  exact Option.some.inj (h1.symm.trans h2)
theorem walk_inv (h : PA s) : ∀ {w : Word} {v u : Nat}, walk s v w = some u → walk s u (inv w) = some v
  | [], v, u, e => by
    have e2 := Option.some.inj e
    rw [e2]
    rfl
  | x :: r, v, u, e => by
    obtain ⟨m, h3, h4⟩ := walk_cons_some e
    rw [inv_cons]
    exact walk_snoc (walk_inv h h4) (h _ _ _ h3)
theorem walk_red1 (h : PA s) {st : Word} {x : Let} {v m u : Nat} (a : walk s v st.reverse = some m) (b : s m x = some u) : walk s v (red1 st x).reverse = some u := by
  cases st with
  | nil =>
    have e := Option.some.inj a
    subst e
    exact walk_one.mpr b
  | cons y r =>
    rw [List.reverse_cons] at a
    obtain ⟨k, h1, h2⟩ := walk_unsnoc a
    show walk s v (if y = x.flip then r else x :: y :: r).reverse = some u
    split
    · rename_i e
      have h3 := h _ _ _ h2
      rw [e, Let.flip_flip] at h3
      rw [b] at h3
      have e2 := Option.some.inj h3
      rw [e2]
      exact h1
    · rw [List.reverse_cons, List.reverse_cons]
      exact walk_snoc (walk_snoc h1 h2) b
theorem walk_stk (h : PA s) : ∀ (w : Word) {st : Word} {v m u : Nat}, walk s v st.reverse = some m → walk s m w = some u → walk s v (stk st w).reverse = some u
  | [], _, _, _, _, a, b => by
    have e := Option.some.inj b
    subst e
    exact a
  | x :: r, st, v, m, u, a, b => by
    obtain ⟨k, h1, h2⟩ := walk_cons_some b
    exact walk_stk h r (walk_red1 h a h1) h2
theorem walk_red (h : PA s) {w : Word} {v u : Nat} (e : walk s v w = some u) : walk s v (red w) = some u := walk_stk h w (st := []) rfl e
theorem walk_bound {n : Nat} (hb : ∀ v x u, s v x = some u → u < n) {w : Word} {v u : Nat} (hv : v < n) (e : walk s v w = some u) : u < n := by
  induction w generalizing v with
  | nil => rw [← Option.some.inj e]; exact hv
  | cons x r ih =>
    obtain ⟨k, h1, h2⟩ := walk_cons_some e
    exact ih (hb _ _ _ h1) h2
theorem walk_mono (hst : ∀ v x u, s v x = some u → t v x = some u) : ∀ {w : Word} {v u : Nat}, walk s v w = some u → walk t v w = some u
  | [], _, _, e => e
  | x :: r, v, u, e => by
    obtain ⟨k, h1, h2⟩ := walk_cons_some e
    rw [walk_cons (hst _ _ _ h1)]
    exact walk_mono hst h2

/-! ## a list of places below n that are more than n repeats -/
theorem nodup_le : ∀ (l m : List Nat), l.Nodup → (∀ x ∈ l, x ∈ m) → l.length ≤ m.length
  | [], m, _, _ => Nat.zero_le _
  | a :: r, m, h, hs => by
    obtain ⟨h1, h2⟩ := List.nodup_cons.mp h
    have ha : a ∈ m := hs a List.mem_cons_self
    have h3 := nodup_le r (m.erase a) h2 fun x hx => by
      have hne : x ≠ a := fun e => h1 (by rw [← e]; exact hx)
      exact (List.mem_erase_of_ne hne).mpr (hs x (List.mem_cons_of_mem _ hx))
    have h4 := List.length_erase_of_mem ha
    have h5 : 0 < m.length := List.length_pos_of_mem ha
    rw [List.length_cons]
    omega
theorem nodup_lt {l : List Nat} {n : Nat} (h : l.Nodup) (hb : ∀ x ∈ l, x < n) : l.length ≤ n := by
  have := nodup_le l (List.range n) h fun x hx => List.mem_range.mpr (hb x hx)
  simpa using this

/-! ## reduced ways that come back -/
/-- the word w can be gone on, reduced, to the place 0 -/
def Home (s : Act) (w : Word) : Prop := ∃ u, Rd (w ++ u) ∧ walk s 0 (w ++ u) = some 0
theorem Home.app {w u : Word} (h : Home s (w ++ u)) : Home s w := by
  obtain ⟨r, h1, h2⟩ := h
  exact ⟨u ++ r, by rw [← List.append_assoc]; exact h1, by rw [← List.append_assoc]; exact h2⟩
theorem home_loop (h : PA s) {w c : Word} {m : Nat} (hc : c ≠ []) (hr : Rd (w ++ c)) (hw : walk s 0 w = some m) (hwc : walk s 0 (w ++ c) = some m) : Home s w := by
  have key : ∀ (k : Nat) (p : Word), p.length ≤ k → (∃ r, w = p ++ r) → ∀ v, walk s 0 p = some v → ∀ t, Rd (w ++ t) → walk s 0 (w ++ t) = some v → Home s w := by
    intro k
    induction k with
    | zero =>
      intro p hp _ v hv t ht hwt
      have e : p = [] := List.length_eq_zero_iff.mp (by omega)
      subst e
      have e2 : (0 : Nat) = v := Option.some.inj hv
      subst e2
      exact ⟨t, ht, hwt⟩
    | succ k ih =>
      intro p hp hpre v hv t ht hwt
      rcases List.eq_nil_or_concat p with e | ⟨p0, y, e⟩
      · subst e
        have e2 : (0 : Nat) = v := Option.some.inj hv
        subst e2
        exact ⟨t, ht, hwt⟩
      · have e' : p = p0 ++ [y] := by simpa using e
        subst e'
        -- a way that is not empty
        have main : ∀ t : Word, t ≠ [] → Rd (w ++ t) → walk s 0 (w ++ t) = some v → Home s w := by
          intro t hne ht hwt
          rcases List.eq_nil_or_concat t with e | ⟨t0, z, e⟩
          · exact absurd e hne
          · have e' : t = t0 ++ [z] := by simpa using e
            subst e'
            by_cases hz : z = y
            · subst hz
              obtain ⟨a, h1, h2⟩ := walk_unsnoc hv
              rw [← List.append_assoc] at hwt ht
              obtain ⟨b, h3, h4⟩ := walk_unsnoc hwt
              have eab : a = b := h.back h2 h4
              subst eab
              obtain ⟨r, hr⟩ := hpre
              exact ih p0 (by simp at hp; omega) ⟨z :: r, by rw [hr]; simp⟩ a h1 t0 ht.left h3
            · refine ⟨t0 ++ [z] ++ inv (p0 ++ [y]), ?_, ?_⟩
              · rw [← List.append_assoc]
                obtain ⟨r, hr⟩ := hpre
                have hp : Rd (p0 ++ [y]) := by
                  rw [hr] at ht
                  exact ht.left.left
                refine (rd_app _ _).mpr ⟨ht, hp.inv, fun x q hx hq => ?_⟩
                rw [← List.append_assoc] at hx
                have e1 : z = x := by simpa using hx
                subst e1
                rw [inv_snoc] at hq
                have e2 : y.flip = q := by simpa using hq
                subst e2
                intro q2
                exact hz (Let.flip_inj q2).symm
              · rw [← List.append_assoc]
                exact walk_app hwt (walk_inv h hv)
        by_cases hne : t = []
        · subst hne
          rw [List.append_nil] at hwt
          have e2 : m = v := Option.some.inj (hw.symm.trans hwt)
          subst e2
          exact main c hc hr hwc
        · exact main t hne ht hwt
  exact key w.length w (Nat.le_refl _) ⟨[], by simp⟩ m hw c hr hwc
/-- at each place but 0 to which a way leads, another one goes on -/
def Goes (s : Act) : Prop := ∀ v x u, v ≠ 0 → s v x = some u → ∃ y k, y ≠ x ∧ s v y = some k
theorem extend (h : PA s) (hg : Goes s) : ∀ (k : Nat) (w : Word) (v : Nat), w ≠ [] → Rd w → walk s 0 w = some v → Home s w ∨ ∃ u m, u.length = k ∧ Rd (w ++ u) ∧ walk s 0 (w ++ u) = some m
  | 0, w, v, _, hr, hw => .inr ⟨[], v, rfl, by simpa using hr, by simpa using hw⟩
  | k + 1, w, v, hne, hr, hw => by
    by_cases hv : v = 0
    · subst hv
      exact .inl ⟨[], by simpa using hr, by simpa using hw⟩
    · rcases List.eq_nil_or_concat w with e | ⟨w0, x, e⟩
      · exact absurd e hne
      · have e' : w = w0 ++ [x] := by simpa using e
        subst e'
        obtain ⟨a, h1, h2⟩ := walk_unsnoc hw
        obtain ⟨y, m, hy, hm⟩ := hg v x.flip a hv (h _ _ _ h2)
        have hr2 : Rd (w0 ++ [x] ++ [y]) := hr.snoc fun z hz => by
          have e3 : x = z := by simpa using hz
          subst e3
          exact hy
        rcases extend h hg k (w0 ++ [x] ++ [y]) m (by simp) hr2 (walk_snoc hw hm) with h3 | ⟨u, m', h3, h4, h5⟩
        · exact .inl h3.app
        · refine .inr ⟨y :: u, m', by simp [h3], ?_, ?_⟩
          · have : w0 ++ [x] ++ y :: u = w0 ++ [x] ++ [y] ++ u := by simp
            rw [this]
            exact h4
          · have : w0 ++ [x] ++ y :: u = w0 ++ [x] ++ [y] ++ u := by simp
            rw [this]
            exact h5
/-- the places behind each of the letters -/
theorem walk_take {w : Word} {v k : Nat} (h : walk s v w = some k) (i : Nat) : ∃ u, walk s v (w.take i) = some u := by
  have e : w = w.take i ++ w.drop i := (List.take_append_drop i w).symm
  rw [e] at h
  obtain ⟨u, h1, _⟩ := walk_split h
  exact ⟨u, h1⟩
theorem repeats {n : Nat} (hn : 0 < n) (hb : ∀ v x u, s v x = some u → u < n) {w u : Word} {m : Nat} (hl : u.length = n) (hw : walk s 0 (w ++ u) = some m) :
    ∃ q c r v, u = q ++ c ++ r ∧ c ≠ [] ∧ walk s 0 (w ++ q) = some v ∧ walk s 0 (w ++ q ++ c) = some v := by
  -- the places
  let f : Nat → Nat := fun i => (walk s 0 (w ++ u.take i)).getD 0
  have hf : ∀ i, walk s 0 (w ++ u.take i) = some (f i) := fun i => by
    have e : w ++ u = (w ++ u.take i) ++ u.drop i := by rw [List.append_assoc, List.take_append_drop]
    rw [e] at hw
    obtain ⟨k, h1, _⟩ := walk_split hw
    show _ = some ((walk s 0 (w ++ u.take i)).getD 0)
    rw [h1]
    rfl
  by_cases hd : ((List.range (n + 1)).map f).Nodup
  · have h1 := nodup_lt (n := n) hd fun x hx => by
      obtain ⟨i, _, e⟩ := List.mem_map.mp hx
      rw [← e]
      exact walk_bound hb hn (hf i)
    simp at h1
    omega
  · have : ∃ i j, i < j ∧ j < n + 1 ∧ f i = f j := by
      refine Classical.byContradiction fun hno => hd ?_
      refine List.pairwise_map.mpr ?_
      refine List.Pairwise.imp_of_mem ?_ List.pairwise_lt_range
      intro a b ha hb2 hlt e
      exact hno ⟨a, b, hlt, List.mem_range.mp hb2, e⟩
    obtain ⟨i, j, hij, hj, e⟩ := this
    refine ⟨u.take i, (u.take j).drop i, u.drop j, f i, ?_, ?_, hf i, ?_⟩
    · have e1 : u.take i ++ (u.take j).drop i = u.take j := by
        have := List.take_append_drop i (u.take j)
        rw [List.take_take, Nat.min_eq_left (Nat.le_of_lt hij)] at this
        exact this
      rw [e1, List.take_append_drop]
    · intro q
      have := congrArg List.length q
      simp at this
      omega
    · have e1 : w ++ u.take i ++ (u.take j).drop i = w ++ u.take j := by
        have := List.take_append_drop i (u.take j)
        rw [List.take_take, Nat.min_eq_left (Nat.le_of_lt hij)] at this
        rw [List.append_assoc, this]
      rw [e1, e]
      exact hf j
theorem home {n : Nat} (h : PA s) (hg : Goes s) (hn : 0 < n) (hb : ∀ v x u, s v x = some u → u < n) {w : Word} {v : Nat} (hne : w ≠ []) (hr : Rd w) (hw : walk s 0 w = some v) : Home s w := by
  rcases extend h hg n w v hne hr hw with h1 | ⟨u, m, hl, hr2, hw2⟩
  · exact h1
  · obtain ⟨q, c, r, k, e, hc, h3, h4⟩ := repeats hn hb hl hw2
    subst e
    have hr3 : Rd (w ++ q ++ c) := by
      have e2 : w ++ (q ++ c ++ r) = (w ++ q ++ c) ++ r := by simp
      rw [e2] at hr2
      exact hr2.left
    exact (home_loop h hc hr3 h3 h4).app
end
end Fw
end

section
set_option autoImplicit false
set_option linter.all false
namespace Fw

/-! ## order by length -/
def lex : List Nat → List Nat → Prop
  | [], [] => False
  | [], _ :: _ => True
  | _ :: _, [] => False
  | a :: r, b :: t => a < b ∨ (a = b ∧ lex r t)
def sl (u v : Word) : Prop := u.length < v.length ∨ (u.length = v.length ∧ lex (u.map Let.idx) (v.map Let.idx))
theorem lex_irrefl : ∀ l : List Nat, ¬ lex l l
  | [], h => h
  | a :: r, h => by
    rcases h with h | ⟨_, h⟩
    · exact Nat.lt_irrefl _ h
    · exact lex_irrefl r h
theorem lex_trans : ∀ {a b c : List Nat}, lex a b → lex b c → lex a c
  | [], [], _, h, _ => h.elim
  | [], _ :: _, [], _, h => h.elim
  | [], _ :: _, _ :: _, _, _ => True.intro
  | _ :: _, [], _, h, _ => h.elim
  | _ :: _, _ :: _, [], _, h => h.elim
  | x :: r, y :: s, z :: t, h, k => by
    rcases h with h | ⟨e, h⟩ <;> rcases k with k | ⟨e2, k⟩
    · exact .inl (Nat.lt_trans h k)
    · exact .inl (by rw [← e2]; exact h)
    · exact .inl (by rw [e]; exact k)
    · exact .inr ⟨e.trans e2, lex_trans h k⟩
theorem lex_tri : ∀ (a b : List Nat), lex a b ∨ a = b ∨ lex b a
  | [], [] => .inr (.inl rfl)
  | [], _ :: _ => .inl True.intro
  | _ :: _, [] => .inr (.inr True.intro)
  | x :: r, y :: s => by
    rcases Nat.lt_trichotomy x y with h | h | h
    · exact .inl (.inl h)
    · rcases lex_tri r s with k | k | k
      · exact .inl (.inr ⟨h, k⟩)
      · exact .inr (.inl (by rw [h, k]))
      · exact .inr (.inr (.inr ⟨h.symm, k⟩))
    · exact .inr (.inr (.inl h))
theorem map_idx_inj : ∀ {u v : Word}, u.map Let.idx = v.map Let.idx → u = v
  | [], [], _ => rfl
  | [], _ :: _, h => by cases h
  | _ :: _, [], h => by cases h
  | x :: r, y :: s, h => by
    have h1 : x.idx :: r.map Let.idx = y.idx :: s.map Let.idx := h
    injection h1 with h2 h3
    rw [Let.idx_inj h2, map_idx_inj h3]
theorem sl_irrefl (u : Word) : ¬ sl u u := by
  rintro (h | ⟨_, h⟩)
  · exact Nat.lt_irrefl _ h
  · exact lex_irrefl _ h
theorem sl_trans {u v w : Word} (h : sl u v) (k : sl v w) : sl u w := by
  rcases h with h | ⟨e, h⟩ <;> rcases k with k | ⟨e2, k⟩
  · exact .inl (Nat.lt_trans h k)
  · exact .inl (by omega)
  · exact .inl (by omega)
  · exact .inr ⟨e.trans e2, lex_trans h k⟩
theorem sl_tri (u v : Word) : sl u v ∨ u = v ∨ sl v u := by
  rcases Nat.lt_trichotomy u.length v.length with h | h | h
  · exact .inl (.inl h)
  · rcases lex_tri (u.map Let.idx) (v.map Let.idx) with k | k | k
    · exact .inl (.inr ⟨h, k⟩)
    · exact .inr (.inl (map_idx_inj k))
    · exact .inr (.inr (.inr ⟨h.symm, k⟩))
  · exact .inr (.inr (.inl h))
theorem sl_asymm {u v : Word} (h : sl u v) (k : sl v u) : False := sl_irrefl _ (sl_trans h k)
/-- not after -/
def sle (u v : Word) : Prop := ¬ sl v u
theorem sle_refl (u : Word) : sle u u := sl_irrefl u
theorem sle_of_sl {u v : Word} (h : sl u v) : sle u v := fun k => sl_asymm h k
theorem sle_trans {u v w : Word} (h : sle u v) (k : sle v w) : sle u w := by
  intro q
  rcases sl_tri v w with a | a | a
  · rcases sl_tri u v with b | b | b
    · exact sl_irrefl _ (sl_trans (sl_trans b a) q)
    · subst b; exact sl_irrefl _ (sl_trans a q)
    · exact h b
  · subst a; exact h q
  · exact k a
theorem sle_anti {u v : Word} (h : sle u v) (k : sle v u) : u = v := by
  rcases sl_tri u v with a | a | a
  · exact absurd a k
  · exact a
  · exact absurd a h
theorem sl_sle {u v w : Word} (h : sl u v) (k : sle v w) : sl u w := by
  rcases sl_tri v w with a | a | a
  · exact sl_trans h a
  · subst a; exact h
  · exact absurd a k
theorem sle_sl {u v w : Word} (h : sle u v) (k : sl v w) : sl u w := by
  rcases sl_tri u v with a | a | a
  · exact sl_trans a k
  · subst a; exact k
  · exact absurd a h
theorem sle_len {u v : Word} (h : sle u v) : u.length ≤ v.length := by
  rcases Nat.lt_or_ge v.length u.length with a | a
  · exact absurd (.inl a) h
  · exact a
theorem lex_app : ∀ {a b : List Nat} (c d : List Nat), a.length = b.length → lex a b → lex (a ++ c) (b ++ d)
  | [], [], _, _, _, h => h.elim
  | [], _ :: _, _, _, e, _ => by simp at e
  | _ :: _, [], _, _, e, _ => by simp at e
  | x :: r, y :: s, c, d, e, h => by
    rcases h with h | ⟨e2, h⟩
    · exact .inl h
    · exact .inr ⟨e2, lex_app c d (by simpa using e) h⟩
theorem lex_same : ∀ (a : List Nat) {c d : List Nat}, lex c d → lex (a ++ c) (a ++ d)
  | [], _, _, h => h
  | _ :: r, _, _, h => .inr ⟨rfl, lex_same r h⟩
theorem sl_snoc {u v : Word} (x y : Let) (h : sl u v) : sl (u ++ [x]) (v ++ [y]) := by
  rcases h with h | ⟨e, h⟩
  · exact .inl (by simp; omega)
  · refine .inr ⟨by simp [e], ?_⟩
    rw [List.map_append, List.map_append]
    exact lex_app _ _ (by simp [e]) h
theorem sl_snoc_same (u : Word) {x y : Let} (h : x.idx < y.idx) : sl (u ++ [x]) (u ++ [y]) := by
  refine .inr ⟨by simp, ?_⟩
  rw [List.map_append, List.map_append]
  exact lex_same _ (.inl h)
theorem sl_nil {u : Word} (h : u ≠ []) : sl [] u := .inl (by
  have := List.length_pos_iff.mpr h
  simpa using this)
theorem sle_snoc {u v : Word} (x : Let) (h : sle u v) : sle (u ++ [x]) (v ++ [x]) := by
  rcases sl_tri u v with a | a | a
  · exact sle_of_sl (sl_snoc x x a)
  · subst a; exact sle_refl _
  · exact absurd a h

/-! ## edges -/
abbrev Edge := Nat × Let × Nat
def Has (es : List Edge) (v : Nat) (x : Let) (u : Nat) : Prop := if x.small = true then (v, x, u) ∈ es else (u, x.flip, v) ∈ es
def stp (es : List Edge) : Act := fun v x =>
  if x.small = true then (es.find? fun e => decide (e.1 = v ∧ e.2.1 = x)).map (·.2.2)
  else (es.find? fun e => decide (e.2.2 = v ∧ e.2.1 = x.flip)).map (·.1)
def Smalls (es : List Edge) : Prop := ∀ e ∈ es, e.2.1.small = true
def Folded (es : List Edge) : Prop := ∀ e ∈ es, ∀ f ∈ es, e.2.1 = f.2.1 → (e.1 = f.1 ↔ e.2.2 = f.2.2)
section
variable {es fs : List Edge}
theorem stp_iff (hf : Folded es) {v u : Nat} {x : Let} : stp es v x = some u ↔ Has es v x u := by
  unfold stp Has
  by_cases hx : x.small = true
  · rw [if_pos hx, if_pos hx]
    constructor
    · intro h
      cases e : es.find? fun e => decide (e.1 = v ∧ e.2.1 = x) with
      | none => rw [e] at h; cases h
      | some f =>
        rw [e] at h
        have h1 : f.2.2 = u := Option.some.inj h
        have h2 : f.1 = v ∧ f.2.1 = x := by simpa using List.find?_some e
        have h3 := List.mem_of_find?_eq_some e
        obtain ⟨a, l, b⟩ := f
        obtain ⟨h4, h5⟩ := h2
        dsimp only at h1 h4 h5
        subst h1 h4 h5
        exact h3
    · intro h
      cases e : es.find? fun e => decide (e.1 = v ∧ e.2.1 = x) with
      | none =>
        have := List.find?_eq_none.mp e _ h
        simp at this
      | some f =>
        have h2 : f.1 = v ∧ f.2.1 = x := by simpa using List.find?_some e
        have h3 := List.mem_of_find?_eq_some e
        have h4 := (hf _ h3 _ h h2.2).mp h2.1
        show some f.2.2 = some u
        rw [h4]
  · rw [if_neg hx, if_neg hx]
    constructor
    · intro h
      cases e : es.find? fun e => decide (e.2.2 = v ∧ e.2.1 = x.flip) with
      | none => rw [e] at h; cases h
      | some f =>
        rw [e] at h
        have h1 : f.1 = u := Option.some.inj h
        have h2 : f.2.2 = v ∧ f.2.1 = x.flip := by simpa using List.find?_some e
        have h3 := List.mem_of_find?_eq_some e
        obtain ⟨a, l, b⟩ := f
        obtain ⟨h4, h5⟩ := h2
        dsimp only at h1 h4 h5
        subst h1 h4 h5
        exact h3
    · intro h
      cases e : es.find? fun e => decide (e.2.2 = v ∧ e.2.1 = x.flip) with
      | none =>
        have := List.find?_eq_none.mp e _ h
        simp at this
      | some f =>
        have h2 : f.2.2 = v ∧ f.2.1 = x.flip := by simpa using List.find?_some e
        have h3 := List.mem_of_find?_eq_some e
        have h4 := (hf _ h3 _ h h2.2).mpr h2.1
        show some f.1 = some u
        rw [h4]
theorem has_flip (hs : Smalls es) {v u : Nat} {x : Let} : Has es v x u ↔ Has es u x.flip v := by
  unfold Has
  rw [Let.small_flip, Let.flip_flip]
  cases x.small <;> simp
theorem stp_pa (hf : Folded es) (hs : Smalls es) : PA (stp es) := fun v x u h => (stp_iff hf).mpr ((has_flip hs).mp ((stp_iff hf).mp h))
theorem has_sub (h : ∀ e ∈ es, e ∈ fs) {v u : Nat} {x : Let} (k : Has es v x u) : Has fs v x u := by
  unfold Has at k ⊢
  split
  · rename_i q
    rw [if_pos q] at k
    exact h _ k
  · rename_i q
    rw [if_neg q] at k
    exact h _ k
theorem stp_sub (hf : Folded es) (hg : Folded fs) (h : ∀ e ∈ es, e ∈ fs) {v u : Nat} {x : Let} (k : stp es v x = some u) : stp fs v x = some u :=
  (stp_iff hg).mpr (has_sub h ((stp_iff hf).mp k))
theorem Folded.sub (hg : Folded fs) (h : ∀ e ∈ es, e ∈ fs) : Folded es := fun e he f hf k => hg e (h e he) f (h f hf) k
theorem has_edge {e : Edge} (h : e ∈ es) (hs : Smalls es) : Has es e.1 e.2.1 e.2.2 := by
  unfold Has
  rw [if_pos (hs e h)]
  exact h
/-- the same edges, the same steps -/
theorem stp_same (hf : Folded es) (hg : Folded fs) (h : ∀ e, e ∈ es ↔ e ∈ fs) : stp es = stp fs := by
  funext v x
  cases e : stp es v x with
  | some u => exact (stp_sub hf hg (fun e he => (h e).mp he) e).symm
  | none =>
    cases e2 : stp fs v x with
    | none => rfl
    | some u =>
      have := stp_sub hg hf (fun e he => (h e).mpr he) e2
      rw [e] at this
      cases this
theorem stp_end {n : Nat} (hf : Folded es) (hl : ∀ e ∈ es, e.1 < n ∧ e.2.2 < n) {v u : Nat} {x : Let} (h : stp es v x = some u) : v < n ∧ u < n := by
  have k := (stp_iff hf).mp h
  unfold Has at k
  split at k
  · exact hl _ k
  · exact ⟨(hl _ k).2, (hl _ k).1⟩
end

/-! ## neat graphs, numbered as they are found -/
def elt (e f : Edge) : Prop := e.1 < f.1 ∨ (e.1 = f.1 ∧ (e.2.1.idx < f.2.1.idx ∨ (e.2.1 = f.2.1 ∧ e.2.2 < f.2.2)))
theorem elt_asymm {e f : Edge} (h : elt e f) (k : elt f e) : False := by
  unfold elt at h k
  rcases h with h | ⟨h, h2 | ⟨h2, h3⟩⟩ <;> rcases k with k | ⟨k, k2 | ⟨k2, k3⟩⟩ <;> first
    | omega
    | (rw [h2] at k2; omega)
    | (rw [k2] at h2; omega)
theorem sorted_eq : ∀ {es fs : List Edge}, es.Pairwise elt → fs.Pairwise elt → (∀ e, e ∈ es ↔ e ∈ fs) → es = fs
  | [], [], _, _, _ => rfl
  | [], f :: r, _, _, h => absurd ((h f).mpr List.mem_cons_self) (by simp)
  | e :: r, [], _, _, h => absurd ((h e).mp List.mem_cons_self) (by simp)
  | e :: r, f :: t, h1, h2, h => by
    obtain ⟨a1, a2⟩ := List.pairwise_cons.mp h1
    obtain ⟨b1, b2⟩ := List.pairwise_cons.mp h2
    have ef : e = f := by
      rcases List.mem_cons.mp ((h e).mp List.mem_cons_self) with q | q
      · exact q
      · rcases List.mem_cons.mp ((h f).mpr List.mem_cons_self) with q2 | q2
        · exact q2.symm
        · exact (elt_asymm (a1 f q2) (b1 e q)).elim
    subst ef
    have ne : ∀ g, g ∈ r → g ≠ e := fun g hg q => by
      subst q
      exact elt_asymm (a1 g hg) (a1 g hg)
    have ne2 : ∀ g, g ∈ t → g ≠ e := fun g hg q => by
      subst q
      exact elt_asymm (b1 g hg) (b1 g hg)
    rw [sorted_eq a2 b2 fun g => ?_]
    constructor
    · intro hg
      rcases List.mem_cons.mp ((h g).mp (List.mem_cons_of_mem _ hg)) with q | q
      · exact absurd q (ne g hg)
      · exact q
    · intro hg
      rcases List.mem_cons.mp ((h g).mpr (List.mem_cons_of_mem _ hg)) with q | q
      · exact absurd q (ne2 g hg)
      · exact q
/-- the k-th first word leads to k, and no earlier one does -/
structure Firsts (s : Act) (ps : List Word) : Prop where
  at_ : ∀ k p, ps[k]? = some p → walk s 0 p = some k
  srt : ps.Pairwise sl
  least : ∀ w k, walk s 0 w = some k → ∃ p, ps[k]? = some p ∧ sle p w
structure Canon (n : Nat) (es : List Edge) (L : Word → Prop) : Prop where
  sm : Smalls es
  fold : Folded es
  lt : ∀ e ∈ es, e.1 < n ∧ e.2.2 < n
  srt : es.Pairwise elt
  firsts : ∃ ps : List Word, ps.length = n ∧ Firsts (stp es) ps
  goes : Goes (stp es)
  lang : ∀ w, walk (stp es) 0 (red w) = some 0 ↔ L w
section
variable {n n' : Nat} {es es' : List Edge} {L L' : Word → Prop}
theorem Canon.pa (c : Canon n es L) : PA (stp es) := stp_pa c.fold c.sm
theorem Canon.bound (c : Canon n es L) : ∀ v x u, stp es v x = some u → u < n := fun v x u h => (stp_end c.fold c.lt h).2
theorem Canon.pos (c : Canon n es L) : 0 < n := by
  obtain ⟨ps, hl, f⟩ := c.firsts
  obtain ⟨p, h, _⟩ := f.least [] 0 rfl
  have := (List.getElem?_eq_some_iff.mp h).1
  omega
theorem Firsts.rd {s : Act} {ps : List Word} (f : Firsts s ps) (hp : PA s) {k : Nat} {p : Word} (h : ps[k]? = some p) : Rd p := by
  have h1 := f.at_ k p h
  obtain ⟨q, h2, h3⟩ := f.least (red p) k (walk_red hp h1)
  have e : p = q := Option.some.inj (h.symm.trans h2)
  subst e
  have h4 := sle_len h3
  have h5 := red_len p
  -- as long as its reduced form, so it is it
  have key : ∀ (w st : Word), (stk st w).length = w.length + st.length → stk st w = w.reverse ++ st := by
    intro w
    induction w with
    | nil => intro st _; rfl
    | cons x r ih =>
      intro st hs
      rw [stk_cons] at hs ⊢
      have a1 := stk_len r (red1 st x)
      have a2 := red1_len st x
      rw [List.length_cons] at hs
      have a3 : (red1 st x).length = st.length + 1 := by omega
      rw [ih (red1 st x) (by omega)]
      have a4 : red1 st x = x :: st := by
        cases st with
        | nil => rfl
        | cons y t =>
          have a5 : (if y = x.flip then t else x :: y :: t).length = (y :: t).length + 1 := a3
          show (if y = x.flip then t else x :: y :: t) = x :: y :: t
          split at a5
          · rw [List.length_cons] at a5
            omega
          · rename_i hne
            rw [if_neg hne]
      rw [a4]
      simp
  have h6 : (red p).length = p.length := by omega
  have h7 : red p = p := by
    unfold red at h6 ⊢
    rw [List.length_reverse] at h6
    rw [key p [] (by simpa using h6)]
    simp
  rw [← h7]
  exact red_rd p
/-- two reduced ways to one place differ by a word that belongs -/
theorem Canon.apart (c : Canon n es L) {u v : Word} {k : Nat} (hu : walk (stp es) 0 u = some k) (hv : walk (stp es) 0 v = some k) : L (u ++ inv v) :=
  (c.lang _).mp (walk_red c.pa (walk_app hu (walk_inv c.pa hv)))
/-- behind a word that belongs, ahead of a way -/
theorem Canon.same (c : Canon n es L) {u v : Word} {k : Nat} (hv : walk (stp es) 0 v = some k) (h : L (u ++ inv v)) : walk (stp es) 0 (red u) = some k := by
  have h1 := walk_app ((c.lang _).mpr h) hv
  have h2 := walk_red c.pa h1
  have e : red (red (u ++ inv v) ++ v) = red u := by
    have e1 : Eqv (red (u ++ inv v) ++ v) (u ++ inv v ++ v) := Eqv.left _ (eqv_red _)
    rw [List.append_assoc] at e1
    have e2 : Eqv (u ++ (inv v ++ v)) (u ++ []) := Eqv.right _ (eqv_cancel' v)
    rw [List.append_nil] at e2
    exact e1.trans e2
  rw [e] at h2
  exact h2
/-- where a reduced word can be walked in the one, it can in the other -/
theorem Canon.over (c : Canon n es L) (c' : Canon n' es' L') (hL : ∀ w, L w → L' w) {w : Word} {k : Nat} (hr : Rd w) (hw : walk (stp es) 0 w = some k) : ∃ k', walk (stp es') 0 w = some k' := by
  by_cases hne : w = []
  · subst hne
    exact ⟨0, rfl⟩
  · obtain ⟨u, h1, h2⟩ := home c.pa c.goes c.pos c.bound hne hr hw
    have h3 := (c.lang (w ++ u)).mp (by rw [red_of_rd h1]; exact h2)
    have h4 := (c'.lang _).mpr (hL _ h3)
    rw [red_of_rd h1] at h4
    obtain ⟨k', h5, _⟩ := walk_split h4
    exact ⟨k', h5⟩
theorem Canon.meet (c : Canon n es L) (c' : Canon n' es' L') (hL : ∀ w, L w → L' w) {u v : Word} {k k' : Nat} (hu : walk (stp es) 0 u = some k) (hv : walk (stp es) 0 v = some k) (hr : Rd u)
    (hv' : walk (stp es') 0 v = some k') : walk (stp es') 0 u = some k' := by
  have h1 := hL _ (c.apart hu hv)
  have h2 := c'.same hv' h1
  rw [red_of_rd hr] at h2
  exact h2
theorem firsts_le (c : Canon n es L) (c' : Canon n' es' L') (hL : ∀ w, L w ↔ L' w) {ps ps' : List Word} (hn : ps.length = n) (f : Firsts (stp es) ps) (hn' : ps'.length = n') (f' : Firsts (stp es') ps')
    {k : Nat} (before : ∀ j, j < k → ps[j]? = ps'[j]?) {p : Word} (hp : ps[k]? = some p) : ∃ p', ps'[k]? = some p' ∧ sle p' p := by
  have h1 := f.at_ k p hp
  have hr := f.rd c.pa hp
  obtain ⟨k', h2⟩ := c.over c' (fun w => (hL w).mp) hr h1
  obtain ⟨p2, h3, h4⟩ := f'.least p k' h2
  rcases Nat.lt_or_ge k' k with h | h
  · -- p2 leads to k' in both
    have h5 : ps[k']? = some p2 := by rw [before k' h]; exact h3
    have h6 := f.at_ k' p2 h5
    have h7 := c'.meet c (fun w => (hL w).mpr) h2 (f'.at_ k' p2 h3) hr h6
    rw [h1] at h7
    have := Option.some.inj h7
    omega
  · have hk : k < ps'.length := Nat.lt_of_le_of_lt h (List.getElem?_eq_some_iff.mp h3).1
    refine ⟨ps'[k], List.getElem?_eq_getElem hk, ?_⟩
    rcases Nat.lt_or_ge k k' with h8 | h8
    · obtain ⟨hk', e⟩ := List.getElem?_eq_some_iff.mp h3
      have h9 := List.pairwise_iff_getElem.mp f'.srt k k' hk hk' h8
      rw [e] at h9
      exact sle_trans (sle_of_sl h9) h4
    · have e : k' = k := by omega
      subst e
      obtain ⟨hk', e2⟩ := List.getElem?_eq_some_iff.mp h3
      rw [e2]
      exact h4
theorem Canon.edge_over (c : Canon n es L) (c' : Canon n' es' L') (hL : ∀ w, L w → L' w) {ps : List Word} (f : Firsts (stp es) ps) (f' : Firsts (stp es') ps) {e : Edge} (he : e ∈ es) : e ∈ es' := by
  obtain ⟨a, l, b⟩ := e
  have hs : stp es a l = some b := (stp_iff c.fold).mpr (has_edge he c.sm)
  have hsm := c.sm _ he
  have hln : ∀ {v}, v < n → ∃ p, ps[v]? = some p := fun {v} hv => by
    obtain ⟨qs, hl, g⟩ := c.firsts
    have hv' : v < qs.length := by omega
    have := g.at_ v qs[v] (List.getElem?_eq_getElem hv')
    obtain ⟨p, h, _⟩ := f.least _ _ this
    exact ⟨p, h⟩
  obtain ⟨p, hp⟩ := hln (c.lt _ he).1
  obtain ⟨q, hq⟩ := hln (c.lt _ he).2
  dsimp only at hp hq hsm
  have key : stp es' a l = some b := by
    by_cases hj : ∀ z, p.getLast? = some z → l ≠ z.flip
    · have hr : Rd (p ++ [l]) := (f.rd c.pa hp).snoc hj
      have h1 : walk (stp es) 0 (p ++ [l]) = some b := walk_snoc (f.at_ _ _ hp) hs
      have h2 := c.meet c' hL h1 (f.at_ _ _ hq) hr (f'.at_ _ _ hq)
      obtain ⟨u, h3, h4⟩ := walk_unsnoc h2
      have e : a = u := Option.some.inj ((f'.at_ _ _ hp).symm.trans h3)
      subst e
      exact h4
    · have hj2 : ∃ z, p.getLast? = some z ∧ l = z.flip := by
        refine Classical.byContradiction fun hno => hj fun z hz q => hno ⟨z, hz, q⟩
      obtain ⟨z, hz, e⟩ := hj2
      rcases List.eq_nil_or_concat p with q2 | ⟨p0, y, q2⟩
      · subst q2; cases hz
      · have e' : p = p0 ++ [y] := by simpa using q2
        subst e'
        have e3 : y = z := by simpa using hz
        subst e3
        have hr := f.rd c.pa hp
        obtain ⟨u, h1, h2⟩ := walk_unsnoc (f.at_ _ _ hp)
        have h3 := c.pa _ _ _ h2
        rw [← e, hs] at h3
        have e4 : b = u := Option.some.inj h3
        subst e4
        obtain ⟨u', h5, h6⟩ := walk_unsnoc (f'.at_ _ _ hp)
        have h7 := c.meet c' hL h1 (f.at_ _ _ hq) hr.left (f'.at_ _ _ hq)
        have e5 : u' = b := Option.some.inj (h5.symm.trans h7)
        subst e5
        have h8 := c'.pa _ _ _ h6
        rw [← e] at h8
        exact h8
  have h9 := (stp_iff c'.fold).mp key
  unfold Has at h9
  rw [if_pos hsm] at h9
  exact h9
theorem Canon.uniq (c : Canon n es L) (c' : Canon n' es' L') (hL : ∀ w, L w ↔ L' w) : n = n' ∧ es = es' := by
  obtain ⟨ps, hn, f⟩ := c.firsts
  obtain ⟨ps', hn', f'⟩ := c'.firsts
  have all : ∀ k : Nat, ps[k]? = ps'[k]? := by
    intro k
    induction k using Nat.strongRecOn with
    | _ k ih =>
      cases e : ps[k]? with
      | some p =>
        obtain ⟨p', h1, h2⟩ := firsts_le c c' hL hn f hn' f' ih e
        obtain ⟨p2, h3, h4⟩ := firsts_le c' c (fun w => (hL w).symm) hn' f' hn f (fun j hj => (ih j hj).symm) h1
        have e2 : p = p2 := Option.some.inj (e.symm.trans h3)
        subst e2
        rw [h1, sle_anti h2 h4]
      | none =>
        cases e2 : ps'[k]? with
        | none => rfl
        | some p' =>
          obtain ⟨p2, h3, _⟩ := firsts_le c' c (fun w => (hL w).symm) hn' f' hn f (fun j hj => (ih j hj).symm) e2
          rw [e] at h3
          cases h3
  have eps : ps = ps' := List.ext_getElem? all
  subst eps
  refine ⟨by omega, sorted_eq c.srt c'.srt fun e => ⟨c.edge_over c' (fun w => (hL w).mp) f f', c'.edge_over c (fun w => (hL w).mpr) f' f⟩⟩
end
end Fw
end

section
set_option autoImplicit false
set_option linter.all false
namespace Fw

/-! ## a search in breadth: F the places found, with their words; the k-th is looked at, the letters below i are done -/
structure Bfs (s : Act) (F : List (Nat × Word)) (k i : Nat) : Prop where
  zero : F[0]? = some (0, [])
  nd : (F.map (·.1)).Nodup
  srt : (F.map (·.2)).Pairwise sl
  ways : ∀ v p, (v, p) ∈ F → walk s 0 p = some v
  done : ∀ (j v : Nat) (p : Word) (x : Let) (u : Nat), F[j]? = some (v, p) → (j < k ∨ (j = k ∧ x.idx < i)) → s v x = some u → ∃ q, (u, q) ∈ F ∧ sle q (p ++ [x])
  from_ : ∀ v q, (v, q) ∈ F → q = [] ∨ ∃ (j w : Nat) (p : Word) (y : Let), F[j]? = some (w, p) ∧ q = p ++ [y] ∧ (j < k ∨ (j = k ∧ y.idx < i))
section
variable {s : Act} {F : List (Nat × Word)} {k i : Nat}
theorem Bfs.init (s : Act) : Bfs s [(0, [])] 0 0 where
  zero := rfl
  nd := by simp
  srt := by simp
  ways := fun v p h => by
    simp at h
    rw [h.1, h.2]
    rfl
  done := fun j v p x u _ h => by omega
  from_ := fun v q h => by
    simp at h
    exact .inl h.2
theorem Bfs.below (b : Bfs s F k i) {v : Nat} {p : Word} (hk : F[k]? = some (v, p)) {x : Let} (hx : i ≤ x.idx) {u : Nat} {q : Word} (hq : (u, q) ∈ F) : sl q (p ++ [x]) := by
  rcases b.from_ u q hq with e | ⟨j, w, p2, y, h1, h2, h3⟩
  · rw [e]
    exact sl_nil (by simp)
  · rw [h2]
    rcases h3 with h3 | ⟨h3, h4⟩
    · refine sl_snoc y x ?_
      obtain ⟨a1, a2⟩ := List.getElem?_eq_some_iff.mp h1
      obtain ⟨a3, a4⟩ := List.getElem?_eq_some_iff.mp hk
      have := List.pairwise_iff_getElem.mp b.srt j k (by simpa using a1) (by simpa using a3) h3
      simp only [List.getElem_map] at this
      rw [a2, a4] at this
      exact this
    · subst h3
      have e : (w, p2) = (v, p) := Option.some.inj (h1.symm.trans hk)
      injection e with e1 e2
      rw [e2]
      exact sl_snoc_same p (by omega)
theorem Bfs.keep (b : Bfs s F k i) {v : Nat} {p : Word} (hk : F[k]? = some (v, p)) {x : Let} (hx : i ≤ x.idx) (hgap : ∀ y : Let, i ≤ y.idx → y.idx < x.idx → s v y = none)
    (ho : ∀ u, s v x = some u → u ∈ F.map (·.1)) : Bfs s F k (x.idx + 1) where
  zero := b.zero
  nd := b.nd
  srt := b.srt
  ways := b.ways
  done := fun j w q y u h1 h2 h3 => by
    by_cases hd : j < k ∨ (j = k ∧ y.idx < i)
    · exact b.done j w q y u h1 hd h3
    · have hj : j = k := by omega
      subst hj
      have e : (w, q) = (v, p) := Option.some.inj (h1.symm.trans hk)
      injection e with e1 e2
      subst e1 e2
      by_cases hy : y.idx < x.idx
      · rw [hgap y (by omega) hy] at h3
        cases h3
      · have exy : y = x := Let.idx_inj (by omega)
        subst exy
        obtain ⟨⟨u2, q2⟩, h4, h5⟩ := List.mem_map.mp (ho u h3)
        have h5' : u2 = u := h5
        subst h5'
        exact ⟨q2, h4, sle_of_sl (b.below hk hx h4)⟩
  from_ := fun v2 q h => by
    rcases b.from_ v2 q h with e | ⟨j, w, p2, y, h1, h2, h3⟩
    · exact .inl e
    · exact .inr ⟨j, w, p2, y, h1, h2, by omega⟩
theorem Bfs.add (b : Bfs s F k i) {v : Nat} {p : Word} (hk : F[k]? = some (v, p)) {x : Let} (hx : i ≤ x.idx) (hgap : ∀ y : Let, i ≤ y.idx → y.idx < x.idx → s v y = none)
    {u : Nat} (hu : s v x = some u) (hn : u ∉ F.map (·.1)) : Bfs s (F ++ [(u, p ++ [x])]) k (x.idx + 1) := by
  have hkl : k < F.length := (List.getElem?_eq_some_iff.mp hk).1
  have old : ∀ {j : Nat} {w : Nat} {q : Word}, F[j]? = some (w, q) → (F ++ [(u, p ++ [x])])[j]? = some (w, q) := fun {j w q} h => by
    rw [List.getElem?_append_left (List.getElem?_eq_some_iff.mp h).1]
    exact h
  refine ⟨old b.zero, ?_, ?_, ?_, ?_, ?_⟩
  · rw [List.map_append, List.nodup_append]
    refine ⟨b.nd, by simp, fun a ha c hc => ?_⟩
    have e : c = u := by simpa using hc
    subst e
    exact fun q => hn (by rw [← q]; exact ha)
  · rw [List.map_append, List.pairwise_append]
    refine ⟨b.srt, by simp, fun a ha c hc => ?_⟩
    have e : c = p ++ [x] := by simpa using hc
    subst e
    obtain ⟨⟨v2, q2⟩, h1, h2⟩ := List.mem_map.mp ha
    have h2' : q2 = a := h2
    subst h2'
    exact b.below hk hx h1
  · intro v2 q h
    rcases List.mem_append.mp h with h | h
    · exact b.ways v2 q h
    · simp at h
      rw [h.1, h.2]
      exact walk_snoc (b.ways v p (List.mem_of_getElem? hk)) hu
  · intro j w q y u2 h1 h2 h3
    have hjl : j < F.length := by omega
    have h1' : F[j]? = some (w, q) := by
      rw [List.getElem?_append_left hjl] at h1
      exact h1
    by_cases hd : j < k ∨ (j = k ∧ y.idx < i)
    · obtain ⟨q2, h4, h5⟩ := b.done j w q y u2 h1' hd h3
      exact ⟨q2, List.mem_append_left _ h4, h5⟩
    · have hj : j = k := by omega
      subst hj
      have e : (w, q) = (v, p) := Option.some.inj (h1'.symm.trans hk)
      injection e with e1 e2
      subst e1 e2
      by_cases hy : y.idx < x.idx
      · rw [hgap y (by omega) hy] at h3
        cases h3
      · have exy : y = x := Let.idx_inj (by omega)
        subst exy
        have eu : u = u2 := Option.some.inj (hu.symm.trans h3)
        subst eu
        exact ⟨q ++ [y], List.mem_append_right _ (by simp), sle_refl _⟩
  · intro v2 q h
    rcases List.mem_append.mp h with h | h
    · rcases b.from_ v2 q h with e | ⟨j, w, p2, y, h1, h2, h3⟩
      · exact .inl e
      · exact .inr ⟨j, w, p2, y, old h1, h2, by omega⟩
    · simp at h
      exact .inr ⟨k, v, p, x, old hk, h.2, .inr ⟨rfl, Nat.lt_succ_self _⟩⟩
theorem Bfs.next (b : Bfs s F k i) {v : Nat} {p : Word} (hk : F[k]? = some (v, p)) (hgap : ∀ y : Let, i ≤ y.idx → s v y = none) : Bfs s F (k + 1) 0 where
  zero := b.zero
  nd := b.nd
  srt := b.srt
  ways := b.ways
  done := fun j w q y u h1 h2 h3 => by
    by_cases hd : j < k ∨ (j = k ∧ y.idx < i)
    · exact b.done j w q y u h1 hd h3
    · have hj : j = k := by omega
      subst hj
      have e : (w, q) = (v, p) := Option.some.inj (h1.symm.trans hk)
      injection e with e1 e2
      subst e1 e2
      rw [hgap y (by omega)] at h3
      cases h3
  from_ := fun v2 q h => by
    rcases b.from_ v2 q h with e | ⟨j, w, p2, y, h1, h2, h3⟩
    · exact .inl e
    · exact .inr ⟨j, w, p2, y, h1, h2, by omega⟩
theorem Bfs.fin (b : Bfs s F k i) (hk : F.length ≤ k) : ∀ (n : Nat) (w : Word) (v : Nat), w.length ≤ n → walk s 0 w = some v → ∃ p, (v, p) ∈ F ∧ sle p w
  | 0, w, v, hl, h => by
    have e : w = [] := List.length_eq_zero_iff.mp (by omega)
    subst e
    have e2 : 0 = v := Option.some.inj h
    subst e2
    exact ⟨[], List.mem_of_getElem? b.zero, sle_refl _⟩
  | n + 1, w, v, hl, h => by
    rcases List.eq_nil_or_concat w with e | ⟨w0, x, e⟩
    · subst e
      have e2 : 0 = v := Option.some.inj h
      subst e2
      exact ⟨[], List.mem_of_getElem? b.zero, sle_refl _⟩
    · have e' : w = w0 ++ [x] := by simpa using e
      subst e'
      obtain ⟨u, h1, h2⟩ := walk_unsnoc h
      obtain ⟨p, h3, h4⟩ := Bfs.fin b hk n w0 u (by simp at hl; omega) h1
      obtain ⟨j, hj⟩ := List.getElem?_of_mem h3
      have hjl := (List.getElem?_eq_some_iff.mp hj).1
      obtain ⟨q, h5, h6⟩ := b.done j u p x v hj (.inl (by omega)) h2
      exact ⟨q, h5, sle_trans h6 (sle_snoc x h4)⟩
theorem Bfs.len (b : Bfs s F k i) {n : Nat} (hn : 0 < n) (hb : ∀ v x u, s v x = some u → u < n) : F.length ≤ n := by
  have h := nodup_lt (n := n) b.nd fun x hx => by
    obtain ⟨⟨v, p⟩, h1, h2⟩ := List.mem_map.mp hx
    have h2' : v = x := h2
    subst h2'
    exact walk_bound hb hn (b.ways v p h1)
  simpa using h
theorem Bfs.reach (b : Bfs s F k i) (hk : F.length ≤ k) {w : Word} {v : Nat} (h : walk s 0 w = some v) : ∃ p, (v, p) ∈ F ∧ sle p w := b.fin hk w.length w v (Nat.le_refl _) h
end

/-! ## numbers by places -/
def pos : List Nat → Nat → Option Nat
  | [], _ => none
  | a :: r, v => if a = v then some 0 else (pos r v).map (· + 1)
theorem pos_at : ∀ {l : List Nat} {v k : Nat}, pos l v = some k → l[k]? = some v
  | [], _, _, h => by cases h
  | a :: r, v, k, h => by
    unfold pos at h
    split at h
    · rename_i e
      have e2 := Option.some.inj h
      subst e2 e
      rfl
    · cases q : pos r v with
      | none => rw [q] at h; cases h
      | some j =>
        rw [q] at h
        have e2 : j + 1 = k := Option.some.inj h
        subst e2
        show r[j]? = some v
        exact pos_at q
theorem pos_of : ∀ {l : List Nat} {v k : Nat}, l.Nodup → l[k]? = some v → pos l v = some k
  | [], _, _, _, h => by simp at h
  | a :: r, v, 0, _, h => by
    have e : a = v := Option.some.inj h
    show (if a = v then some 0 else _) = some 0
    rw [if_pos e]
  | a :: r, v, k + 1, hn, h => by
    obtain ⟨h1, h2⟩ := List.nodup_cons.mp hn
    have h3 : r[k]? = some v := h
    show (if a = v then some 0 else (pos r v).map (· + 1)) = some (k + 1)
    rw [if_neg (fun e => h1 (by rw [e]; exact List.mem_of_getElem? h3)), pos_of h2 h3]
    rfl
theorem pos_none {l : List Nat} {v : Nat} (h : pos l v = none) : v ∉ l := by
  intro hm
  induction l with
  | nil => simp at hm
  | cons a r ih =>
    unfold pos at h
    split at h
    · cases h
    · rename_i hne
      have h2 : pos r v = none := by simpa using h
      rcases List.mem_cons.mp hm with e | e
      · exact hne e.symm
      · exact ih h2 e
theorem pos_some {l : List Nat} {v : Nat} (h : v ∈ l) : ∃ k, pos l v = some k := by
  cases e : pos l v with
  | none => exact absurd h (pos_none e)
  | some k => exact ⟨k, rfl⟩
theorem pos_not {l : List Nat} {v : Nat} (h : v ∉ l) : pos l v = none := by
  cases e : pos l v with
  | none => rfl
  | some k => exact absurd (List.mem_of_getElem? (pos_at e)) h
theorem pos_snoc {l : List Nat} {u v : Nat} (hn : u ∉ l) : pos (l ++ [u]) v = if v = u then some l.length else pos l v := by
  induction l with
  | nil =>
    show (if u = v then some 0 else _) = _
    by_cases e : u = v
    · rw [if_pos e, if_pos e.symm]
      rfl
    · rw [if_neg e, if_neg (fun q => e q.symm)]
      rfl
  | cons a r ih =>
    have h1 : u ≠ a := fun e => hn (by rw [e]; exact List.mem_cons_self)
    have h2 : u ∉ r := fun e => hn (List.mem_cons_of_mem _ e)
    show (if a = v then some 0 else (pos (r ++ [u]) v).map (· + 1)) = if v = u then some (r.length + 1) else if a = v then some 0 else (pos r v).map (· + 1)
    rw [ih h2]
    by_cases e : a = v
    · rw [if_pos e, if_pos e, if_neg (fun q => h1 (q.symm.trans e.symm))]
    · rw [if_neg e, if_neg e]
      by_cases e2 : v = u
      · rw [if_pos e2, if_pos e2]
        rfl
      · rw [if_neg e2, if_neg e2]

/-- es: the edges of E between the places vs, by their numbers -/
structure Numd (E : List Edge) (vs : List Nat) (es : List Edge) : Prop where
  mem : ∀ (i : Nat) (l : Let) (j : Nat), (i, l, j) ∈ es ↔ ∃ a b, vs[i]? = some a ∧ vs[j]? = some b ∧ (a, l, b) ∈ E
section
variable {E es : List Edge} {vs : List Nat}
theorem Numd.smalls (m : Numd E vs es) (hs : Smalls E) : Smalls es := fun ⟨i, l, j⟩ he => by
  obtain ⟨a, b, _, _, h⟩ := (m.mem i l j).mp he
  have h2 := hs (a, l, b) h
  exact h2
theorem nd_at {l : List Nat} (hn : l.Nodup) {i j a : Nat} (h : l[i]? = some a) (k : l[j]? = some a) : i = j := by
  have h1 := pos_of hn h
  have h2 := pos_of hn k
  exact Option.some.inj (h1.symm.trans h2)
theorem Numd.folded (m : Numd E vs es) (hn : vs.Nodup) (hf : Folded E) : Folded es := fun ⟨i, l, j⟩ he ⟨i', l', j'⟩ he' hl => by
  obtain ⟨a, b, h1, h2, h3⟩ := (m.mem i l j).mp he
  obtain ⟨a', b', h1', h2', h3'⟩ := (m.mem i' l' j').mp he'
  have hh := hf _ h3 _ h3' hl
  dsimp only at hh ⊢
  constructor
  · intro e
    subst e
    have : a = a' := Option.some.inj (h1.symm.trans h1')
    have e2 := hh.mp this
    subst e2
    exact nd_at hn h2 h2'
  · intro e
    subst e
    have : b = b' := Option.some.inj (h2.symm.trans h2')
    have e2 := hh.mpr this
    subst e2
    exact nd_at hn h1 h1'
theorem Numd.stp (m : Numd E vs es) (hn : vs.Nodup) (hf : Folded E) {i : Nat} {x : Let} {j : Nat} : Fw.stp es i x = some j ↔ ∃ a b, vs[i]? = some a ∧ vs[j]? = some b ∧ Fw.stp E a x = some b := by
  rw [stp_iff (m.folded hn hf)]
  unfold Has
  split
  · rename_i hx
    rw [m.mem]
    constructor
    · rintro ⟨a, b, h1, h2, h3⟩
      refine ⟨a, b, h1, h2, (stp_iff hf).mpr ?_⟩
      unfold Has
      rw [if_pos hx]
      exact h3
    · rintro ⟨a, b, h1, h2, h3⟩
      refine ⟨a, b, h1, h2, ?_⟩
      have h4 := (stp_iff hf).mp h3
      unfold Has at h4
      rw [if_pos hx] at h4
      exact h4
  · rename_i hx
    rw [m.mem]
    constructor
    · rintro ⟨a, b, h1, h2, h3⟩
      refine ⟨b, a, h2, h1, (stp_iff hf).mpr ?_⟩
      unfold Has
      rw [if_neg hx]
      exact h3
    · rintro ⟨a, b, h1, h2, h3⟩
      refine ⟨b, a, h2, h1, ?_⟩
      have h4 := (stp_iff hf).mp h3
      unfold Has at h4
      rw [if_neg hx] at h4
      exact h4
/-- the graph of what a search in breadth over E has found is neat and numbered as it is found -/
theorem canon_of {F : List (Nat × Word)} {k i : Nat} {L : Word → Prop} (hs : Smalls E) (hf : Folded E) (b : Bfs (Fw.stp E) F k i) (hk : F.length ≤ k) (m : Numd E (F.map (·.1)) es) (hsrt : es.Pairwise elt)
    (hg : Goes (Fw.stp E)) (hL : ∀ w, walk (Fw.stp E) 0 (red w) = some 0 ↔ L w) : Canon F.length es L := by
  have hn := b.nd
  have z : (F.map (·.1))[0]? = some 0 := by
    rw [List.getElem?_map, b.zero]
    rfl
  -- walks
  have wk : ∀ (w : Word) (i a j : Nat), (F.map (·.1))[i]? = some a → walk (Fw.stp es) i w = some j → ∃ c, (F.map (·.1))[j]? = some c ∧ walk (Fw.stp E) a w = some c := by
    intro w
    induction w with
    | nil =>
      intro i a j h h2
      have e := Option.some.inj h2
      subst e
      exact ⟨a, h, rfl⟩
    | cons x r ih =>
      intro i a j h h2
      obtain ⟨u, h3, h4⟩ := walk_cons_some h2
      obtain ⟨a', c, h5, h6, h7⟩ := (m.stp hn hf).mp h3
      have e : a = a' := Option.some.inj (h.symm.trans h5)
      subst e
      obtain ⟨d, h8, h9⟩ := ih u c j h6 h4
      exact ⟨d, h8, by rw [walk_cons h7]; exact h9⟩
  have kw : ∀ (w : Word) (p : Word) (i a c : Nat), walk (Fw.stp E) 0 p = some a → (F.map (·.1))[i]? = some a → walk (Fw.stp E) a w = some c → ∃ j, (F.map (·.1))[j]? = some c ∧ walk (Fw.stp es) i w = some j := by
    intro w
    induction w with
    | nil =>
      intro p i a c _ h h2
      have e := Option.some.inj h2
      subst e
      exact ⟨i, h, rfl⟩
    | cons x r ih =>
      intro p i a c hp h h2
      obtain ⟨u, h3, h4⟩ := walk_cons_some h2
      have hp2 := walk_snoc hp h3
      obtain ⟨q, h5, _⟩ := b.reach hk hp2
      have h6 : u ∈ F.map (·.1) := List.mem_map.mpr ⟨_, h5, rfl⟩
      obtain ⟨i2, h7⟩ := List.getElem?_of_mem h6
      obtain ⟨j, h8, h9⟩ := ih _ i2 u c hp2 h7 h4
      refine ⟨j, h8, ?_⟩
      rw [walk_cons ((m.stp hn hf).mpr ⟨a, u, h, h7, h3⟩)]
      exact h9
  refine ⟨m.smalls hs, m.folded hn hf, ?_, hsrt, ⟨F.map (·.2), by simp, ?_, b.srt, ?_⟩, ?_, ?_⟩
  · rintro ⟨i, l, j⟩ he
    obtain ⟨a, c, h1, h2, _⟩ := (m.mem i l j).mp he
    have h3 := (List.getElem?_eq_some_iff.mp h1).1
    have h4 := (List.getElem?_eq_some_iff.mp h2).1
    simp at h3 h4
    exact ⟨h3, h4⟩
  · intro j p hp
    rw [List.getElem?_map] at hp
    cases e : F[j]? with
    | none => rw [e] at hp; cases hp
    | some vp =>
      obtain ⟨v, p2⟩ := vp
      rw [e] at hp
      have e2 : p2 = p := Option.some.inj hp
      subst e2
      have h1 := b.ways v p2 (List.mem_of_getElem? e)
      obtain ⟨j2, h2, h3⟩ := kw p2 [] 0 0 v rfl z h1
      have h4 : (F.map (·.1))[j]? = some v := by
        rw [List.getElem?_map, e]
        rfl
      rw [nd_at hn h4 h2]
      exact h3
  · intro w j hw
    obtain ⟨c, h1, h2⟩ := wk w 0 0 j z hw
    obtain ⟨p, h3, h4⟩ := b.reach hk h2
    refine ⟨p, ?_, h4⟩
    obtain ⟨j2, h5⟩ := List.getElem?_of_mem h3
    have h6 : (F.map (·.1))[j2]? = some c := by
      rw [List.getElem?_map, h5]
      rfl
    rw [nd_at hn h1 h6, List.getElem?_map, h5]
    rfl
  · intro v x u hv h
    obtain ⟨a, c, h1, h2, h3⟩ := (m.stp hn hf).mp h
    have ha : a ≠ 0 := fun e => by
      subst e
      exact hv (nd_at hn h1 z)
    obtain ⟨y, d, h4, h5⟩ := hg a x c ha h3
    have h6 : a ∈ F.map (·.1) := List.mem_of_getElem? h1
    obtain ⟨⟨a2, p⟩, h7, h8⟩ := List.mem_map.mp h6
    have h8' : a2 = a := h8
    subst h8'
    obtain ⟨q, h9, _⟩ := b.reach hk (walk_snoc (b.ways a2 p h7) h5)
    obtain ⟨i2, h10⟩ := List.getElem?_of_mem (List.mem_map.mpr ⟨_, h9, rfl⟩ : d ∈ F.map (·.1))
    exact ⟨y, i2, h4, (m.stp hn hf).mpr ⟨a2, d, h1, h10, h5⟩⟩
  · intro w
    rw [← hL]
    constructor
    · intro h
      obtain ⟨c, h1, h2⟩ := wk (red w) 0 0 0 z h
      have e : 0 = c := Option.some.inj (z.symm.trans h1)
      rw [← e] at h2
      exact h2
    · intro h
      obtain ⟨j, h1, h2⟩ := kw (red w) [] 0 0 0 rfl z h
      rw [nd_at hn z h1] at h2 ⊢
      rw [← nd_at hn z h1] at h2 ⊢
      exact h2
end
end Fw
end

section
set_option autoImplicit false
set_option linter.all false
namespace Fw

/-! ## degrees -/
def b2n (b : Bool) : Nat := if b = true then 1 else 0
def deg (s : Act) (v : Nat) : Nat := b2n (s v .a).isSome + b2n (s v .A).isSome + b2n (s v .b).isSome + b2n (s v .B).isSome + b2n (s v .c).isSome + b2n (s v .C).isSome
def ends (E : List Edge) (v : Nat) : Nat := (E.map fun e => (if e.1 = v then 1 else 0) + (if e.2.2 = v then 1 else 0)).sum
def hit (v : Nat) (x : Let) (e : Edge) : Bool := if x.small = true then decide (e.1 = v ∧ e.2.1 = x) else decide (e.2.2 = v ∧ e.2.1 = x.flip)
theorem b2n_some {α : Type} {o : Option α} {u : α} (h : o = some u) : b2n o.isSome = 1 := by
  rw [h]
  rfl
theorem b2n_none {α : Type} {o : Option α} (h : o = none) : b2n o.isSome = 0 := by
  rw [h]
  rfl
theorem b2n_le (b : Bool) : b2n b ≤ 1 := by cases b <;> decide
theorem count_nodup {α : Type} [BEq α] [LawfulBEq α] : ∀ {l : List α} {a : α}, l.Nodup → a ∈ l → l.count a = 1
  | [], _, _, h => by simp at h
  | b :: r, a, hn, h => by
    obtain ⟨h1, h2⟩ := List.nodup_cons.mp hn
    by_cases e : b = a
    · subst e
      rw [List.count_cons_self, List.count_eq_zero.mpr h1]
    · rw [List.count_cons_of_ne e]
      exact count_nodup h2 ((List.mem_cons.mp h).resolve_left fun q => e q.symm)
theorem hit_one {E : List Edge} (hn : E.Nodup) (hf : Folded E) (v : Nat) (x : Let) : E.countP (hit v x) = b2n (stp E v x).isSome := by
  have ed : ∀ e ∈ E, hit v x e = true → ∃ u, Has E v x u ∧ e = (if x.small = true then (v, x, u) else (u, x.flip, v)) := by
    intro e he h
    obtain ⟨a, l, b⟩ := e
    unfold hit at h
    split at h
    · rename_i hx
      obtain ⟨h1, h2⟩ : a = v ∧ l = x := by simpa using h
      subst h1 h2
      refine ⟨b, ?_, ?_⟩
      · unfold Has
        rw [if_pos hx]
        exact he
      · rw [if_pos hx]
    · rename_i hx
      obtain ⟨h1, h2⟩ : b = v ∧ l = x.flip := by simpa using h
      subst h1 h2
      refine ⟨a, ?_, ?_⟩
      · unfold Has
        rw [if_neg hx]
        exact he
      · rw [if_neg hx]
  cases q : stp E v x with
  | none =>
    show _ = 0
    refine List.countP_eq_zero.mpr fun e he h => ?_
    obtain ⟨u, hu, _⟩ := ed e he h
    rw [(stp_iff hf).mpr hu] at q
    cases q
  | some u =>
    show _ = 1
    have hm : (if x.small = true then (v, x, u) else (u, x.flip, v)) ∈ E := by
      have := (stp_iff hf).mp q
      unfold Has at this
      split at this
      · rename_i hx
        rw [if_pos hx]
        exact this
      · rename_i hx
        rw [if_neg hx]
        exact this
    have e1 : E.countP (hit v x) = E.count (if x.small = true then (v, x, u) else (u, x.flip, v)) := by
      unfold List.count
      refine List.countP_congr fun e he => ?_
      constructor
      · intro h
        obtain ⟨u', hu', e2⟩ := ed e he h
        have : stp E v x = some u' := (stp_iff hf).mpr hu'
        rw [q] at this
        have e3 := Option.some.inj this
        subst e3
        rw [e2]
        exact beq_self_eq_true _
      · intro h
        have e2 := eq_of_beq h
        rw [e2]
        unfold hit
        split
        · rename_i hx
          simp
        · rename_i hx
          simp
    rw [e1]
    exact count_nodup hn hm
theorem ends_hits : ∀ (E : List Edge) (v : Nat), Smalls E → ends E v = E.countP (hit v .a) + E.countP (hit v .A) + E.countP (hit v .b) + E.countP (hit v .B) + E.countP (hit v .c) + E.countP (hit v .C)
  | [], v, _ => rfl
  | (p, l, q) :: r, v, hs => by
    have ih := ends_hits r v fun e he => hs e (List.mem_cons_of_mem _ he)
    have hl : l.small = true := hs _ List.mem_cons_self
    have e0 : ends ((p, l, q) :: r) v = ((if p = v then 1 else 0) + (if q = v then 1 else 0)) + ends r v := rfl
    rw [e0, ih]
    simp only [List.countP_cons]
    by_cases h1 : p = v <;> by_cases h2 : q = v <;> cases l <;> first
      | exact absurd hl (by decide)
      | (simp [hit, h1, h2, Let.small, Let.flip]; omega)
      | (simp [hit, h1, h2, Let.small, Let.flip])
theorem ends_deg {E : List Edge} (hn : E.Nodup) (hf : Folded E) (hs : Smalls E) (v : Nat) : ends E v = deg (stp E) v := by
  rw [ends_hits E v hs]
  unfold deg
  rw [hit_one hn hf, hit_one hn hf, hit_one hn hf, hit_one hn hf, hit_one hn hf, hit_one hn hf]
section
variable {s : Act} {v : Nat}
/-- one way at most -/
def Lone (s : Act) (v : Nat) : Prop := ∀ x y p q, s v x = some p → s v y = some q → x = y
theorem deg_lone (h : deg s v ≤ 1) : Lone s v := by
  intro x y p q hx hy
  have h1 := b2n_some hx
  have h2 := b2n_some hy
  unfold deg at h
  cases x <;> cases y <;> first | rfl | (exfalso; rw [h1, h2] at h; omega) | (exfalso; omega)
def sum6 (f : Let → Nat) : Nat := f .a + f .A + f .b + f .B + f .c + f .C
theorem sum_one (f : Let → Nat) (x : Let) (h : ∀ y, y ≠ x → f y = 0) : sum6 f = f x := by
  cases x <;> simp [sum6, h]
theorem sum_two (f : Let → Nat) (x y : Let) (h : ∀ z, z ≠ x → z ≠ y → f z = 0) : sum6 f ≤ f x + f y := by
  cases x <;> cases y <;> simp [sum6, h] <;> omega
theorem deg_sum : deg s v = sum6 fun x => b2n (s v x).isSome := rfl
theorem deg_more (h : 2 ≤ deg s v) (x : Let) : ∃ y k, y ≠ x ∧ s v y = some k := by
  refine Classical.byContradiction fun hno => ?_
  rw [deg_sum, sum_one _ x fun y hy => by
    cases e : s v y with
    | none => rfl
    | some k => exact absurd ⟨y, k, hy, e⟩ hno] at h
  have hx := b2n_le (s v x).isSome
  omega
theorem deg_more2 (h : 3 ≤ deg s v) (x y : Let) : ∃ z k, z ≠ x ∧ z ≠ y ∧ s v z = some k := by
  refine Classical.byContradiction fun hno => ?_
  have h2 := sum_two (fun z => b2n (s v z).isSome) x y fun z h1 h2 => by
    cases e : s v z with
    | none => rfl
    | some k => exact absurd ⟨z, k, h1, h2, e⟩ hno
  rw [deg_sum] at h
  have hx := b2n_le (s v x).isSome
  have hy := b2n_le (s v y).isSome
  omega
/-- of two ways a third letter is none -/
theorem deg_two (h : deg s v ≤ 2) {x y : Let} {p q : Nat} (hx : s v x = some p) (hy : s v y = some q) (hne : x ≠ y) {z : Let} {k : Nat} (hz : s v z = some k) : z = x ∨ z = y := by
  have h1 := b2n_some hx
  have h2 := b2n_some hy
  have h3 := b2n_some hz
  unfold deg at h
  by_cases e1 : z = x
  · exact .inl e1
  · by_cases e2 : z = y
    · exact .inr e2
    · exfalso
      cases x <;> cases y <;> cases z <;> first
        | exact hne rfl
        | exact e1 rfl
        | exact e2 rfl
        | omega
theorem deg_pos {x : Let} {p : Nat} (hx : s v x = some p) : 1 ≤ deg s v := by
  have h1 := b2n_some hx
  unfold deg
  cases x <;> omega
theorem deg_zero (h : deg s v = 0) (x : Let) : s v x = none := by
  cases e : s v x with
  | none => rfl
  | some k =>
    have := deg_pos e
    omega
theorem deg_le_one (h : Lone s v) : deg s v ≤ 1 := by
  refine Classical.byContradiction fun hno => ?_
  obtain ⟨y, k, _, h1⟩ := deg_more (s := s) (v := v) (by omega) .a
  obtain ⟨z, m, h2, h3⟩ := deg_more (s := s) (v := v) (by omega) y
  exact h2 (h z y m k h3 h1)
theorem deg_exists (h : 1 ≤ deg s v) : ∃ x k, s v x = some k := by
  refine Classical.byContradiction fun hno => ?_
  have hn : ∀ y, b2n (s v y).isSome = 0 := fun y => by
    cases e : s v y with
    | none => rfl
    | some k => exact absurd ⟨y, k, e⟩ hno
  unfold deg at h
  rw [hn, hn, hn, hn, hn, hn] at h
  omega
end
end Fw
end

section
set_option autoImplicit false
set_option linter.all false
namespace Fw

/-! ## edges that no reduced way goes along -/
def edg (v : Nat) (x : Let) (u : Nat) : Edge := if x.small = true then (v, x, u) else (u, x.flip, v)
theorem has_edg {es : List Edge} {v u : Nat} {x : Let} : Has es v x u ↔ edg v x u ∈ es := by
  unfold Has edg
  split <;> exact Iff.rfl
theorem edg_ends (v : Nat) (x : Let) (u : Nat) {z : Nat} : (z = (edg v x u).1 ∨ z = (edg v x u).2.2) ↔ (z = v ∨ z = u) := by
  unfold edg
  split
  · exact Iff.rfl
  · exact Or.comm
theorem prune {E E' : List Edge} (hf : Folded E) (hs : Smalls E) (sub : ∀ e ∈ E', e ∈ E) {b c : Nat}
    (out : ∀ e ∈ E, e ∉ E' → ∃ z, (z = e.1 ∨ z = e.2.2) ∧ z ≠ b ∧ z ≠ c ∧ Lone (stp E) z) {w : Word} (hr : Rd w) (hw : walk (stp E) b w = some c) : walk (stp E') b w = some c := by
  have hp : PA (stp E) := stp_pa hf hs
  have hf' : Folded E' := hf.sub sub
  have key : ∀ (r p : Word) (v : Nat), w = p ++ r → walk (stp E) b p = some v → walk (stp E) v r = some c → walk (stp E') v r = some c := by
    intro r
    induction r with
    | nil =>
      intro p v _ _ h
      exact h
    | cons x r ih =>
      intro p v hpr hpv h
      obtain ⟨u, h1, h2⟩ := walk_cons_some h
      have h3 := ih (p ++ [x]) u (by rw [hpr]; simp) (walk_snoc hpv h1) h2
      have hE : edg v x u ∈ E := has_edg.mp ((stp_iff hf).mp h1)
      have hE' : edg v x u ∈ E' := by
        refine Classical.byContradiction fun hno => ?_
        obtain ⟨z, hz, hb, hc, hl⟩ := out _ hE hno
        rcases (edg_ends v x u).mp hz with e | e
        · subst e
          rcases List.eq_nil_or_concat p with q | ⟨p0, y, q⟩
          · subst q
            exact hb (Option.some.inj hpv).symm
          · have q' : p = p0 ++ [y] := by simpa using q
            subst q'
            obtain ⟨a, h4, h5⟩ := walk_unsnoc hpv
            have e2 := hl _ _ _ _ (hp _ _ _ h5) h1
            rw [hpr] at hr
            have e3 : p0 ++ [y] ++ x :: r = p0 ++ y :: x :: r := by simp
            rw [e3] at hr
            exact hr.mid e2.symm
        · subst e
          cases r with
          | nil => exact hc (Option.some.inj h2)
          | cons y r2 =>
            obtain ⟨a, h4, _⟩ := walk_cons_some h2
            have e2 := hl _ _ _ _ (hp _ _ _ h1) h4
            rw [hpr] at hr
            exact hr.mid e2.symm
      rw [walk_cons ((stp_iff hf').mpr (has_edg.mpr hE'))]
      exact h3
  exact key w [] b rfl rfl hw

/-! ## trimmed -/
/-- E3 is left of E2 when the vertices but b with a single end are left out, as far as reduced rounds from b go -/
structure Trim (b : Nat) (E2 E3 : List Edge) : Prop where
  sub : ∀ e ∈ E3, e ∈ E2
  nd : E2.Nodup → E3.Nodup
  keep : Folded E2 → Smalls E2 → E2.Nodup → ∀ w, Rd w → walk (stp E2) b w = some b → walk (stp E3) b w = some b
theorem Trim.refl (b : Nat) (E : List Edge) : Trim b E E := ⟨fun _ h => h, fun h => h, fun _ _ _ _ _ h => h⟩
def kept (b : Nat) (E : List Edge) : List Edge := E.filter fun e => (decide (1 < ends E e.1) || decide (e.1 = b)) && (decide (1 < ends E e.2.2) || decide (e.2.2 = b))
theorem Trim.turn {b : Nat} {E2 E : List Edge} (t : Trim b E2 E) : Trim b E2 (kept b E) where
  sub := fun e h => t.sub e (List.mem_filter.mp h).1
  nd := fun h => (t.nd h).filter _
  keep := fun hf hs hn w hr hw => by
    have hf2 := hf.sub t.sub
    have hs2 : Smalls E := fun e he => hs e (t.sub e he)
    refine prune hf2 hs2 (fun e h => (List.mem_filter.mp h).1) (fun e he hno => ?_) hr (t.keep hf hs hn w hr hw)
    have hlone : ∀ z, ¬ (1 < ends E z) → Lone (stp E) z := fun z hz => deg_lone (by rw [← ends_deg (t.nd hn) hf2 hs2]; omega)
    by_cases h1 : 1 < ends E e.1 ∨ e.1 = b
    · by_cases h2 : 1 < ends E e.2.2 ∨ e.2.2 = b
      · exfalso
        refine hno (List.mem_filter.mpr ⟨he, ?_⟩)
        simp only [Bool.and_eq_true, Bool.or_eq_true, decide_eq_true_eq]
        exact ⟨h1, h2⟩
      · exact ⟨e.2.2, .inr rfl, fun q => h2 (.inr q), fun q => h2 (.inr q), hlone _ fun q => h2 (.inl q)⟩
    · exact ⟨e.1, .inl rfl, fun q => h1 (.inr q), fun q => h1 (.inr q), hlone _ fun q => h1 (.inl q)⟩
theorem kept_len (b : Nat) (E : List Edge) : (kept b E).length ≤ E.length := List.length_filter_le _ _
theorem kept_same {b : Nat} {E : List Edge} (h : (kept b E).length = E.length) : kept b E = E :=
  List.filter_eq_self.mpr (List.length_filter_eq_length_iff.mp h)
/-- what is left when nothing more is left out -/
theorem kept_goes {b : Nat} {E : List Edge} (h : kept b E = E) (hn : E.Nodup) (hf : Folded E) (hs : Smalls E) {v u : Nat} {x : Let} (hv : v ≠ b) (hx : stp E v x = some u) : ∃ y k, y ≠ x ∧ stp E v y = some k := by
  have hm := has_edg.mp ((stp_iff hf).mp hx)
  have h2 : 1 < ends E v := by
    have hm2 : edg v x u ∈ kept b E := by rw [h]; exact hm
    have h3 := (List.mem_filter.mp hm2).2
    simp only [Bool.and_eq_true, Bool.or_eq_true, decide_eq_true_eq] at h3
    have hz := (edg_ends v x u (z := v)).mpr (.inl rfl)
    rcases hz with e | e
    · rw [← e] at h3
      exact h3.1.resolve_right hv
    · rw [← e] at h3
      exact h3.2.resolve_right hv
  rw [ends_deg hn hf hs] at h2
  exact deg_more (by omega) x

/-! ## attached -/
structure Att (n0 : Nat) (E0 : List Edge) (w : Word) (E : List Edge) (cnt here : Nat) : Prop where
  sm : Smalls E
  fold : Folded E
  nd : E.Nodup
  lt : ∀ e ∈ E, e.1 < cnt ∧ e.2.2 < cnt
  le : n0 ≤ cnt
  hlt : here < cnt
  sub : ∀ e ∈ E0, e ∈ E
  way : walk (stp E) 0 w = some here
  stay : here < n0 → cnt = n0 ∧ ∀ e ∈ E, e ∈ E0
  old : ∀ u v, Rd u → v < n0 → walk (stp E) 0 u = some v → walk (stp E0) 0 u = some v
  two : ∀ v, n0 ≤ v → ∃ x y, ∀ z u, stp E v z = some u → z = x ∨ z = y
  one : n0 ≤ here → ∃ x, w.getLast? = some x ∧ ∀ z u, stp E here z = some u → z = x.flip
  elen : E.length ≤ E0.length + w.length
  clen : cnt ≤ n0 + w.length
section
variable {n0 : Nat} {E0 : List Edge}
theorem Att.nil (hp : 0 < n0) (hs : Smalls E0) (hf : Folded E0) (hn : E0.Nodup) (hl : ∀ e ∈ E0, e.1 < n0 ∧ e.2.2 < n0) : Att n0 E0 [] E0 n0 0 where
  sm := hs
  fold := hf
  nd := hn
  lt := hl
  le := Nat.le_refl _
  hlt := hp
  sub := fun _ h => h
  way := rfl
  stay := fun _ => ⟨rfl, fun _ h => h⟩
  old := fun _ _ _ _ h => h
  two := fun v hv => ⟨.a, .a, fun z u h => by
    have := (stp_end hf hl h).1
    omega⟩
  one := fun h => by omega
  elen := Nat.le_refl _
  clen := Nat.le_refl _
theorem Att.walkOn {w : Word} {E : List Edge} {cnt here : Nat} (A : Att n0 E0 w E cnt here) (hl : ∀ e ∈ E0, e.1 < n0 ∧ e.2.2 < n0) {x : Let} {u : Nat} (hr : Rd (w ++ [x])) (h : stp E here x = some u) : Att n0 E0 (w ++ [x]) E cnt u := by
  have hh : here < n0 := by
    refine Nat.lt_of_not_le fun q => ?_
    obtain ⟨y, h1, h2⟩ := A.one q
    have h3 := h2 x u h
    have h4 := ((rd_app w [x]).mp hr).2.2 y x h1 rfl
    exact h4 h3
  obtain ⟨e1, e2⟩ := A.stay hh
  have hu : u < n0 := by
    have hm := e2 _ (has_edg.mp ((stp_iff A.fold).mp h))
    rcases (edg_ends here x u (z := u)).mpr (.inr rfl) with q | q
    · rw [q]; exact (hl _ hm).1
    · rw [q]; exact (hl _ hm).2
  refine ⟨A.sm, A.fold, A.nd, A.lt, A.le, by omega, A.sub, walk_snoc A.way h, fun _ => ⟨e1, e2⟩, A.old, A.two, fun q => by omega, ?_, ?_⟩
  · have := A.elen
    simp
    omega
  · have := A.clen
    simp
    omega
theorem Att.put {w : Word} {E : List Edge} {cnt here : Nat} (A : Att n0 E0 w E cnt here) (hp : 0 < n0) {x : Let} (h : stp E here x = none) :
    Att n0 E0 (w ++ [x]) (E ++ [edg here x cnt]) (cnt + 1) cnt := by
  have hnew : ∀ f ∈ E, f.1 ≠ cnt ∧ f.2.2 ≠ cnt := fun f hf => by
    have := A.lt f hf
    omega
  have nohas : ∀ u, ¬ Has E here x u := fun u q => by
    rw [(stp_iff A.fold).mpr q] at h
    cases h
  have hs' : Smalls (E ++ [edg here x cnt]) := fun e he => by
    rcases List.mem_append.mp he with q | q
    · exact A.sm e q
    · have e2 : e = edg here x cnt := by simpa using q
      subst e2
      unfold edg
      split
      · rename_i hx
        exact hx
      · rename_i hx
        show x.flip.small = true
        rw [Let.small_flip]
        simpa using hx
  have hf1 : ∀ f ∈ E, (edg here x cnt).2.1 = f.2.1 → ¬ (edg here x cnt).1 = f.1 ∧ ¬ (edg here x cnt).2.2 = f.2.2 := fun f hf hl => by
    obtain ⟨p, l, q⟩ := f
    obtain ⟨n1, n2⟩ := hnew _ hf
    unfold edg at hl ⊢
    split
    · rename_i hx
      rw [if_pos hx] at hl
      have hl' : x = l := hl
      subst hl'
      refine ⟨fun e => ?_, fun e => n2 e.symm⟩
      have e' : here = p := e
      subst e'
      refine nohas q ?_
      unfold Has
      rw [if_pos hx]
      exact hf
    · rename_i hx
      rw [if_neg hx] at hl
      have hl' : x.flip = l := hl
      subst hl'
      refine ⟨fun e => n1 e.symm, fun e => ?_⟩
      have e' : here = q := e
      subst e'
      refine nohas p ?_
      unfold Has
      rw [if_neg hx]
      exact hf
  have hf' : Folded (E ++ [edg here x cnt]) := fun e he f hf hl => by
    rcases List.mem_append.mp he with q | q <;> rcases List.mem_append.mp hf with q2 | q2
    · exact A.fold e q f q2 hl
    · have e2 : f = edg here x cnt := by simpa using q2
      subst e2
      obtain ⟨a1, a2⟩ := hf1 e q hl.symm
      exact ⟨fun z => absurd z.symm a1, fun z => absurd z.symm a2⟩
    · have e2 : e = edg here x cnt := by simpa using q
      subst e2
      obtain ⟨a1, a2⟩ := hf1 f q2 hl
      exact ⟨fun z => absurd z a1, fun z => absurd z a2⟩
    · have e2 : e = edg here x cnt := by simpa using q
      have e3 : f = edg here x cnt := by simpa using q2
      subst e2 e3
      exact ⟨fun _ => rfl, fun _ => rfl⟩
  have hin : stp (E ++ [edg here x cnt]) here x = some cnt := (stp_iff hf').mpr (has_edg.mpr (List.mem_append_right _ (by simp)))
  have sub : ∀ e ∈ E, e ∈ E ++ [edg here x cnt] := fun e q => List.mem_append_left _ q
  have hpa := stp_pa hf' hs'
  have cases_ : ∀ v z u, stp (E ++ [edg here x cnt]) v z = some u → stp E v z = some u ∨ (v = here ∧ z = x) ∨ (v = cnt ∧ z = x.flip) := fun v z u q => by
    have hm := has_edg.mp ((stp_iff hf').mp q)
    rcases List.mem_append.mp hm with q2 | q2
    · exact .inl ((stp_iff A.fold).mpr (has_edg.mpr q2))
    · have e2 : edg v z u = edg here x cnt := by simpa using q2
      unfold edg at e2
      by_cases hz : z.small = true <;> by_cases hx : x.small = true
      · rw [if_pos hz, if_pos hx] at e2
        injection e2 with a1 a2
        injection a2 with a2 a3
        exact .inr (.inl ⟨a1, a2⟩)
      · rw [if_pos hz, if_neg hx] at e2
        injection e2 with a1 a2
        injection a2 with a2 a3
        exact .inr (.inr ⟨a1, a2⟩)
      · rw [if_neg hz, if_pos hx] at e2
        injection e2 with a1 a2
        injection a2 with a2 a3
        refine .inr (.inr ⟨a3, ?_⟩)
        rw [← a2, Let.flip_flip]
      · rw [if_neg hz, if_neg hx] at e2
        injection e2 with a1 a2
        injection a2 with a2 a3
        exact .inr (.inl ⟨a3, Let.flip_inj a2⟩)
  have hne : here ≠ cnt := Nat.ne_of_lt A.hlt
  have atcnt : ∀ z u, stp (E ++ [edg here x cnt]) cnt z = some u → z = x.flip := fun z u q => by
    rcases cases_ _ _ _ q with q | q | q
    · have := (stp_end A.fold A.lt q).1
      omega
    · exact absurd q.1.symm hne
    · exact q.2
  refine ⟨hs', hf', ?_, ?_, by have := A.le; omega, Nat.lt_succ_self _, fun e q => sub e (A.sub e q), ?_, fun q => ?_, ?_, ?_, fun _ => ⟨x, by simp, atcnt⟩, ?_, ?_⟩
  · refine List.nodup_append.mpr ⟨A.nd, by simp, fun f hf g hg e => ?_⟩
    have e2 : g = edg here x cnt := by simpa using hg
    subst e2
    obtain ⟨n1, n2⟩ := hnew _ hf
    rcases (edg_ends here x cnt (z := cnt)).mpr (.inr rfl) with q | q
    · rw [← e] at q
      exact n1 q.symm
    · rw [← e] at q
      exact n2 q.symm
  · intro e he
    rcases List.mem_append.mp he with q | q
    · have := A.lt e q
      omega
    · have e2 : e = edg here x cnt := by simpa using q
      subst e2
      have := A.hlt
      unfold edg
      split
      · exact ⟨by show here < cnt + 1; omega, Nat.lt_succ_self _⟩
      · exact ⟨Nat.lt_succ_self _, by show here < cnt + 1; omega⟩
  · exact walk_snoc (walk_mono (fun v z u q => stp_sub A.fold hf' sub q) A.way) hin
  · have := A.le
    omega
  · intro u v hu hv hw
    refine A.old u v hu hv (prune hf' hs' sub (fun e he hno => ?_) hu hw)
    rcases List.mem_append.mp he with q | q
    · exact absurd q hno
    · have e2 : e = edg here x cnt := by simpa using q
      subst e2
      have h1 := A.le
      refine ⟨cnt, (edg_ends here x cnt).mpr (.inr rfl), by omega, by omega, fun y z p q h1 h2 => ?_⟩
      rw [atcnt _ _ h1, atcnt _ _ h2]
  · intro v hv
    by_cases h1 : v = cnt
    · subst h1
      exact ⟨x.flip, x.flip, fun z u q => .inl (atcnt z u q)⟩
    · by_cases h2 : v = here
      · subst h2
        obtain ⟨y, _, h4⟩ := A.one hv
        refine ⟨x, y.flip, fun z u q => ?_⟩
        rcases cases_ _ _ _ q with q | q | q
        · exact .inr (h4 z u q)
        · exact .inl q.2
        · exact absurd q.1 h1
      · obtain ⟨y1, y2, h3⟩ := A.two v hv
        refine ⟨y1, y2, fun z u q => ?_⟩
        rcases cases_ _ _ _ q with q | q | q
        · exact h3 z u q
        · exact absurd q.1 h2
        · exact absurd q.1 h1
  · have := A.elen
    simp
    omega
  · have := A.clen
    simp
    omega
theorem att_exists (hp : 0 < n0) (hs : Smalls E0) (hf : Folded E0) (hn : E0.Nodup) (hl : ∀ e ∈ E0, e.1 < n0 ∧ e.2.2 < n0) : ∀ (k : Nat) (w : Word), w.length ≤ k → Rd w → ∃ E cnt here, Att n0 E0 w E cnt here
  | 0, w, h, _ => by
    have e : w = [] := List.length_eq_zero_iff.mp (by omega)
    subst e
    exact ⟨_, _, _, Att.nil hp hs hf hn hl⟩
  | k + 1, w, h, hr => by
    rcases List.eq_nil_or_concat w with e | ⟨w0, x, e⟩
    · subst e
      exact ⟨_, _, _, Att.nil hp hs hf hn hl⟩
    · have e' : w = w0 ++ [x] := by simpa using e
      subst e'
      obtain ⟨E, cnt, here, A⟩ := att_exists hp hs hf hn hl k w0 (by simp at h; omega) hr.left
      cases q : stp E here x with
      | some u => exact ⟨_, _, _, A.walkOn hl hr q⟩
      | none => exact ⟨_, _, _, A.put hp q⟩
end
theorem Canon.nodup {n : Nat} {es : List Edge} {L : Word → Prop} (c : Canon n es L) : es.Nodup :=
  c.srt.imp fun h e => by
    subst e
    exact elt_asymm h h
section
variable {n : Nat} {es : List Edge} {L : Word → Prop} {w : Word} {E : List Edge} {cnt here : Nat}
/-- the rounds at the end of what is attached -/
theorem Att.lang (c : Canon n es L) (g : Grp L) (A : Att n es w E cnt here) (u : Word) : walk (stp E) here (red u) = some here ↔ Cj L w u := by
  have hp : PA (stp E) := stp_pa A.fold A.sm
  have up : ∀ {p v}, walk (stp es) 0 p = some v → walk (stp E) 0 p = some v := fun h => walk_mono (fun v z u q => stp_sub c.fold A.fold A.sub q) h
  constructor
  · intro h
    have h1 := walk_app (walk_app A.way h) (walk_inv hp A.way)
    have h2 := A.old _ 0 (red_rd _) c.pos (walk_red hp h1)
    have h3 := (c.lang _).mp h2
    refine g.eqv ?_ h3
    exact Eqv.left _ (Eqv.right _ (eqv_red u))
  · intro h
    have h1 := up ((c.lang _).mpr h)
    have h2 := walk_app (walk_app (walk_inv hp A.way) h1) A.way
    have h3 := walk_red hp h2
    have e : red (inv w ++ red (w ++ u ++ inv w) ++ w) = red u := by
      have e1 : Eqv (inv w ++ red (w ++ u ++ inv w) ++ w) (inv w ++ (w ++ u ++ inv w) ++ w) := Eqv.left _ (Eqv.right _ (eqv_red _))
      have e2 : inv w ++ (w ++ u ++ inv w) ++ w = (inv w ++ w) ++ (u ++ (inv w ++ w)) := by simp
      rw [e2] at e1
      have e3 : Eqv ((inv w ++ w) ++ (u ++ (inv w ++ w))) ([] ++ (u ++ [])) := (eqv_cancel' w).app (Eqv.right u (eqv_cancel' w))
      rw [List.nil_append, List.append_nil] at e3
      exact e1.trans e3
    rw [e] at h3
    exact h3
/-- a word leads to the end exactly if it is the attached one, ahead of it a word that belongs -/
theorem Att.coset (c : Canon n es L) (g : Grp L) (A : Att n es w E cnt here) {u : Word} (h : L (u ++ inv w)) : walk (stp E) 0 (red u) = some here := by
  have hp : PA (stp E) := stp_pa A.fold A.sm
  have h1 := walk_mono (fun v z u q => stp_sub c.fold A.fold A.sub q) ((c.lang _).mpr h)
  have h2 := walk_red hp (walk_app h1 A.way)
  have e : red (red (u ++ inv w) ++ w) = red u := by
    have e1 : Eqv (red (u ++ inv w) ++ w) (u ++ inv w ++ w) := Eqv.left _ (eqv_red _)
    rw [List.append_assoc] at e1
    have e2 : Eqv (u ++ (inv w ++ w)) (u ++ []) := Eqv.right _ (eqv_cancel' w)
    rw [List.append_nil] at e2
    exact e1.trans e2
  rw [e] at h2
  exact h2
theorem Att.coset' (c : Canon n es L) (A : Att n es w E cnt here) {u : Word} (h : walk (stp E) 0 u = some here) : L (u ++ inv w) := by
  have hp : PA (stp E) := stp_pa A.fold A.sm
  exact (c.lang _).mp (A.old _ 0 (red_rd _) c.pos (walk_red hp (walk_app h (walk_inv hp A.way))))
end
end Fw
end

section
set_option autoImplicit false
set_option linter.all false
namespace Fw

/-! ## the tail: from 0 along the only way, as long as there is only one -/
structure Tl (s : Act) (vs : List Nat) (w : Word) : Prop where
  len : vs.length = w.length + 1
  nd : vs.Nodup
  at_ : ∀ i, i ≤ w.length → walk s 0 (w.take i) = vs[i]?
  ways : ∀ (i v : Nat), i < w.length → vs[i]? = some v → ∀ z u, s v z = some u → w[i]? = some z ∨ ∃ j y, i = j + 1 ∧ w[j]? = some y ∧ z = y.flip
  rd : Rd w
section
variable {s : Act} {vs : List Nat} {w : Word}
theorem Tl.nil (s : Act) : Tl s [0] [] where
  len := rfl
  nd := by simp
  at_ := fun i h => by
    have e : i = 0 := by simpa using h
    subst e
    rfl
  ways := fun i v h => by simp at h
  rd := True.intro
theorem Tl.end_ (t : Tl s vs w) {h : Nat} (e : vs[w.length]? = some h) : walk s 0 w = some h := by
  have := t.at_ w.length (Nat.le_refl _)
  rw [List.take_length] at this
  rw [this]
  exact e
theorem Tl.bound (t : Tl s vs w) {n : Nat} (hn : 0 < n) (hb : ∀ v x u, s v x = some u → u < n) : w.length < n := by
  have := nodup_lt (n := n) t.nd fun v hv => by
    obtain ⟨i, hi⟩ := List.getElem?_of_mem hv
    have h1 := (List.getElem?_eq_some_iff.mp hi).1
    have h2 := t.len
    have h3 := t.at_ i (by omega)
    rw [hi] at h3
    exact walk_bound hb hn h3
  have := t.len
  omega
theorem take_snoc {α : Type} (l : List α) (a : α) {i : Nat} (h : i ≤ l.length) : (l ++ [a]).take i = l.take i := by
  rw [List.take_append_of_le_length h]
theorem Tl.step (hp : PA s) (t : Tl s vs w) {h : Nat} (e : vs[w.length]? = some h) {y : Let} {u : Nat} (hy : s h y = some u) (hne : ∀ x, w.getLast? = some x → y ≠ x.flip)
    (hd : deg s h = if w = [] then 1 else 2) : Tl s (vs ++ [u]) (w ++ [y]) := by
  -- the ways at h
  have only : ∀ z k, s h z = some k → z = y ∨ ∃ x, w.getLast? = some x ∧ z = x.flip := by
    intro z k hz
    by_cases hw : w = []
    · rw [if_pos hw] at hd
      exact .inl (deg_lone (by omega) z y k u hz hy)
    · rw [if_neg hw] at hd
      rcases List.eq_nil_or_concat w with q | ⟨w0, x, q⟩
      · exact absurd q hw
      · have q' : w = w0 ++ [x] := by simpa using q
        have h1 : walk s 0 (w0 ++ [x]) = some h := by rw [← q']; exact t.end_ e
        obtain ⟨a, _, h3⟩ := walk_unsnoc h1
        have hx : w.getLast? = some x := by rw [q']; simp
        rcases deg_two (by omega) hy (hp _ _ _ h3) (hne x hx) hz with r | r
        · exact .inl r
        · exact .inr ⟨x, hx, r⟩
  have hi : ∀ i v, vs[i]? = some v → i ≤ w.length := fun i v q => by
    have h1 := (List.getElem?_eq_some_iff.mp q).1
    have h2 := t.len
    omega
  have ndx : ∀ {i j v}, vs[i]? = some v → vs[j]? = some v → i = j := fun a b => nd_at t.nd a b
  -- a step along w
  have along : ∀ j x v, w[j]? = some x → vs[j]? = some v → ∃ v', vs[j + 1]? = some v' ∧ s v x = some v' := by
    intro j x v hx hv
    have hj : j < w.length := (List.getElem?_eq_some_iff.mp hx).1
    have h1 := t.at_ (j + 1) (by omega)
    have h2 := t.at_ j (by omega)
    rw [hv] at h2
    have hl : j + 1 < vs.length := by have := t.len; omega
    rw [List.getElem?_eq_getElem hl] at h1 ⊢
    refine ⟨_, rfl, ?_⟩
    have e2 : w.take (j + 1) = w.take j ++ [x] := by
      rw [List.take_add_one, hx]
      rfl
    rw [e2] at h1
    obtain ⟨m, h3, h4⟩ := walk_unsnoc h1
    have e3 : v = m := Option.some.inj (h2.symm.trans h3)
    subst e3
    exact h4
  have fresh : u ∉ vs := by
    intro hm
    obtain ⟨i, hu⟩ := List.getElem?_of_mem hm
    have h1 := hp _ _ _ hy
    have hle := hi i u hu
    rcases Nat.lt_or_ge i w.length with hlt | hge
    · rcases t.ways i u hlt hu _ _ h1 with q | ⟨j, z, q1, q2, q3⟩
      · -- forward: the next one is h
        obtain ⟨v', a1, a2⟩ := along i _ u q hu
        rw [h1] at a2
        have e2 := Option.some.inj a2
        subst e2
        have e3 := ndx a1 e
        have hx : w.getLast? = some y.flip := by
          rw [List.getLast?_eq_getElem?, ← e3]
          exact q
        have := hne _ hx
        rw [Let.flip_flip] at this
        exact this rfl
      · -- backward: the one before is h
        subst q1
        have hj : j < vs.length := by have := t.len; omega
        obtain ⟨v', a1, a2⟩ := along j z vs[j] q2 (List.getElem?_eq_getElem hj)
        rw [hu] at a1
        have e2 := Option.some.inj a1
        subst e2
        have a3 := hp _ _ _ a2
        rw [← q3, h1] at a3
        have e3 := Option.some.inj a3
        have a4 : vs[j]? = some h := by rw [e3]; exact List.getElem?_eq_getElem hj
        have := ndx a4 e
        omega
    · have ei : i = w.length := by omega
      subst ei
      have e2 : u = h := Option.some.inj (hu.symm.trans e)
      subst e2
      rcases only _ _ h1 with q | ⟨x, q1, q2⟩
      · exact Let.flip_ne y q
      · have e4 := Let.flip_inj q2
        subst e4
        rw [List.getLast?_eq_getElem?] at q1
        have hl : 0 < w.length := by
          rcases Nat.eq_zero_or_pos w.length with r | r
          · have : w = [] := List.length_eq_zero_iff.mp r
            subst this
            cases q1
          · exact r
        have hj : w.length - 1 < vs.length := by have := t.len; omega
        obtain ⟨v', a1, a2⟩ := along _ _ vs[w.length - 1] q1 (List.getElem?_eq_getElem hj)
        have e5 : w.length - 1 + 1 = w.length := by omega
        rw [e5, e] at a1
        have e6 := Option.some.inj a1
        subst e6
        have e7 := hp.back a2 hy
        have a3 : vs[w.length - 1]? = some u := by rw [← e7]; exact List.getElem?_eq_getElem hj
        have := ndx a3 e
        omega
  have hlen := t.len
  refine ⟨by simp [hlen], ?_, ?_, ?_, t.rd.snoc hne⟩
  · refine List.nodup_append.mpr ⟨t.nd, by simp, fun a ha b hb q => ?_⟩
    have e2 : b = u := by simpa using hb
    subst e2
    exact fresh (by rw [← q]; exact ha)
  · intro i hi2
    simp at hi2
    rcases Nat.lt_or_ge w.length i with q | q
    · have ei : i = w.length + 1 := by omega
      subst ei
      have e1 : (w ++ [y]).take (w.length + 1) = w ++ [y] := List.take_of_length_le (by simp)
      have e2 : (vs ++ [u])[w.length + 1]? = some u := by
        rw [List.getElem?_append_right (by omega), hlen]
        simp
      rw [e1, e2]
      exact walk_snoc (t.end_ e) hy
    · rw [take_snoc w y q, t.at_ i q, List.getElem?_append_left (by omega)]
  · intro i v hi2 hv z k hz
    simp at hi2
    have hv' : vs[i]? = some v := by
      rw [List.getElem?_append_left (by omega)] at hv
      exact hv
    rcases Nat.lt_or_ge i w.length with q | q
    · rcases t.ways i v q hv' z k hz with r | ⟨j, x, r1, r2, r3⟩
      · left
        rw [List.getElem?_append_left q]
        exact r
      · right
        refine ⟨j, x, r1, ?_, r3⟩
        rw [List.getElem?_append_left (by omega)]
        exact r2
    · have ei : i = w.length := by omega
      subst ei
      have e2 : v = h := Option.some.inj (hv'.symm.trans e)
      subst e2
      rcases only z k hz with r | ⟨x, r1, r2⟩
      · left
        rw [r]
        simp
      · right
        rw [List.getLast?_eq_getElem?] at r1
        have hl := (List.getElem?_eq_some_iff.mp r1).1
        refine ⟨w.length - 1, x, by omega, ?_, r2⟩
        rw [List.getElem?_append_left hl]
        exact r1
end
/-- what tail_of gives -/
structure Tail (s : Act) (n : Nat) (t : Word) : Prop where
  rd : Rd t
  len : t.length < n
  at_ : ∃ v, walk s 0 t = some v ∧ (t ≠ [] → v ≠ 0) ∧ deg s v ≠ (if t = [] then 1 else 2)
theorem Tl.tail {s : Act} {vs : List Nat} {w : Word} (t : Tl s vs w) {n h : Nat} (hn : 0 < n) (hb : ∀ v x u, s v x = some u → u < n) (e : vs[w.length]? = some h) (hd : deg s h ≠ if w = [] then 1 else 2) : Tail s n w where
  rd := t.rd
  len := t.bound hn hb
  at_ := ⟨h, t.end_ e, fun hw h0 => by
    subst h0
    have h1 := t.at_ 0 (Nat.zero_le _)
    have h2 : vs[0]? = some 0 := by rw [← h1]; rfl
    have h3 := nd_at t.nd e h2
    exact hw (List.length_eq_zero_iff.mp h3), hd⟩

/-! ## conjugators -/
/-- g moves the one onto the other -/
def Conj (L1 L2 : Word → Prop) (g : Word) : Prop := ∀ u, L2 u ↔ Cj L1 g u
section
variable {L1 L2 : Word → Prop}
theorem Conj.coset (g1 : Grp L1) {g h : Word} (hc : Conj L1 L2 g) (hh : L1 (h ++ inv g)) : Conj L1 L2 h := by
  intro u
  rw [hc u]
  have e1 : ∀ a b : Word, L1 (a ++ inv b) → Cj L1 b u → Cj L1 a u := fun a b hab hb => by
    have h1 := g1.mul (g1.mul hab hb) (g1.inv hab)
    refine g1.eqv ?_ h1
    rw [inv_append, inv_inv]
    have e : a ++ inv b ++ (b ++ u ++ inv b) ++ (b ++ inv a) = a ++ ((inv b ++ b) ++ (u ++ ((inv b ++ b) ++ inv a))) := by simp
    rw [e]
    have e2 : Eqv (a ++ ((inv b ++ b) ++ (u ++ ((inv b ++ b) ++ inv a)))) (a ++ ([] ++ (u ++ ([] ++ inv a)))) :=
      Eqv.right a ((eqv_cancel' b).app (Eqv.right u ((eqv_cancel' b).left _)))
    have e3 : a ++ ([] ++ (u ++ ([] ++ inv a))) = a ++ u ++ inv a := by simp
    rw [e3] at e2
    exact e2
  refine ⟨fun k => e1 h g hh k, fun k => e1 g h ?_ k⟩
  have := g1.inv hh
  rw [inv_append, inv_inv] at this
  exact this
theorem Conj.eqv (g1 : Grp L1) {g h : Word} (hc : Conj L1 L2 g) (e : Eqv h g) : Conj L1 L2 h :=
  hc.coset g1 (g1.eqv ((Eqv.left _ e).trans (eqv_cancel g)).symm g1.one)
/-- it is enough to look at the given words -/
theorem conj_iff {ws vs : List Word} {g : Word} : Conj (Gen ws) (Gen vs) g ↔ (∀ v ∈ vs, Gen ws (g ++ v ++ inv g)) ∧ ∀ u ∈ ws, Gen vs (inv g ++ u ++ g) := by
  constructor
  · intro h
    refine ⟨fun v hv => (h v).mp (.mem hv), fun u hu => (h _).mpr ?_⟩
    refine Gen.eqv ?_ (.mem hu)
    have e : g ++ (inv g ++ u ++ g) ++ inv g = (g ++ inv g) ++ (u ++ (g ++ inv g)) := by simp
    show Eqv u (g ++ (inv g ++ u ++ g) ++ inv g)
    rw [e]
    have e2 : Eqv ((g ++ inv g) ++ (u ++ (g ++ inv g))) ([] ++ (u ++ [])) := (eqv_cancel g).app (Eqv.right u (eqv_cancel g))
    rw [List.nil_append, List.append_nil] at e2
    exact e2.symm
  · rintro ⟨h1, h2⟩ u
    constructor
    · intro hu
      exact Gen.all (Cj.grp (gen_grp ws) g) h1 hu
    · intro hu
      have k : ∀ w, Gen ws w → Cj (Gen vs) (inv g) w := fun w hw => Gen.all (Cj.grp (gen_grp vs) (inv g)) (fun x hx => by
        show Gen vs (inv g ++ x ++ inv (inv g))
        rw [inv_inv]
        exact h2 x hx) hw
      have h3 := k _ hu
      refine Gen.eqv ?_ h3
      rw [inv_inv]
      have e : inv g ++ (g ++ u ++ inv g) ++ g = (inv g ++ g) ++ (u ++ (inv g ++ g)) := by simp
      rw [e]
      have e2 : Eqv ((inv g ++ g) ++ (u ++ (inv g ++ g))) ([] ++ (u ++ [])) := (eqv_cancel' g).app (Eqv.right u (eqv_cancel' g))
      rw [List.nil_append, List.append_nil] at e2
      exact e2
end
section
variable {n1 n2 : Nat} {es1 es2 : List Edge} {L1 L2 : Word → Prop}
/-- each conjugator is, up to a word that belongs, a way in the one graph and the tail of the other one back; or only the empty word belongs -/
theorem conj_through (c1 : Canon n1 es1 L1) (g1 : Grp L1) (c2 : Canon n2 es2 L2) {t : Word} (T : Tail (stp es2) n2 t) {g : Word} (hc : Conj L1 L2 g) :
    (t = [] ∧ Conj L1 L2 []) ∨ ∃ k, k < n1 ∧ ∀ p, walk (stp es1) 0 p = some k → L1 (p ++ inv t ++ inv g) := by
  obtain ⟨E, cnt, here, A⟩ := att_exists c1.pos c1.sm c1.fold c1.nodup c1.lt _ (red g) (Nat.le_refl _) (red_rd g)
  have hpE : PA (stp E) := stp_pa A.fold A.sm
  have hc' : Conj L1 L2 (red g) := hc.eqv g1 (eqv_red g)
  -- reduced rounds of the other are rounds at the end
  have round : ∀ u, Rd u → walk (stp es2) 0 u = some 0 → walk (stp E) here u = some here := fun u hu hw => by
    have h1 := (c2.lang u).mp (by rw [red_of_rd hu]; exact hw)
    have h2 := (A.lang c1 g1 u).mpr ((hc' u).mp h1)
    rw [red_of_rd hu] at h2
    exact h2
  have over : ∀ u k, u ≠ [] → Rd u → walk (stp es2) 0 u = some k → ∃ k', walk (stp E) here u = some k' := fun u k hne hu hw => by
    obtain ⟨r, h1, h2⟩ := home c2.pa c2.goes c2.pos c2.bound hne hu hw
    obtain ⟨k', h3, _⟩ := walk_split (round _ h1 h2)
    exact ⟨k', h3⟩
  obtain ⟨v, hv, hv0, hd⟩ := T.at_
  by_cases ht : t = []
  · subst ht
    rw [if_pos rfl] at hd
    have e0 : 0 = v := Option.some.inj hv
    subst e0
    rcases Nat.lt_or_ge here n1 with hh | hh
    · right
      refine ⟨here, hh, fun p hp => ?_⟩
      have h1 := A.old _ _ (red_rd g) hh A.way
      have h2 := c1.apart hp h1
      show L1 (p ++ [] ++ inv g)
      rw [List.append_nil]
      exact g1.eqv (Eqv.right p (Eqv.inv (eqv_red g))) h2
    · left
      refine ⟨rfl, ?_⟩
      -- no way at 0 in the other
      have hz : deg (stp es2) 0 = 0 := by
        obtain ⟨x, _, h2⟩ := A.one hh
        have hl : Lone (stp es2) 0 := by
          have one : ∀ y p, stp es2 0 y = some p → y = x.flip := fun y p hy => by
            obtain ⟨k', h3⟩ := over [y] p (by simp) ⟨by simp, True.intro⟩ (walk_one.mpr hy)
            exact h2 y k' (walk_one.mp h3)
          intro y z p q hy hz2
          rw [one y p hy, one z q hz2]
        have := deg_le_one hl
        omega
      have no : ∀ x, stp es2 0 x = none := deg_zero hz
      have triv2 : ∀ u, L2 u ↔ red u = [] := fun u => by
        rw [← c2.lang u]
        constructor
        · intro h
          cases e : red u with
          | nil => rfl
          | cons x r =>
            rw [e] at h
            obtain ⟨m, h1, _⟩ := walk_cons_some h
            rw [no x] at h1
            cases h1
        · intro h
          rw [h]
          rfl
      have triv1 : ∀ u, L1 u ↔ red u = [] := fun u => by
        constructor
        · intro h
          have h1 : Cj L1 g (inv g ++ u ++ g) := by
            refine g1.eqv ?_ h
            have e : g ++ (inv g ++ u ++ g) ++ inv g = (g ++ inv g) ++ (u ++ (g ++ inv g)) := by simp
            show Eqv u (g ++ (inv g ++ u ++ g) ++ inv g)
            rw [e]
            have e2 : Eqv ((g ++ inv g) ++ (u ++ (g ++ inv g))) ([] ++ (u ++ [])) := (eqv_cancel g).app (Eqv.right u (eqv_cancel g))
            rw [List.nil_append, List.append_nil] at e2
            exact e2.symm
          have h2 : Eqv (inv g ++ u ++ g) [] := (triv2 _).mp ((hc _).mpr h1)
          have h3 : Eqv (g ++ (inv g ++ u ++ g) ++ inv g) (g ++ [] ++ inv g) := Eqv.left _ (Eqv.right _ h2)
          rw [List.append_nil] at h3
          have h4 := h3.trans (eqv_cancel g)
          have e : g ++ (inv g ++ u ++ g) ++ inv g = (g ++ inv g) ++ (u ++ (g ++ inv g)) := by simp
          rw [e] at h4
          have e2 : Eqv ((g ++ inv g) ++ (u ++ (g ++ inv g))) ([] ++ (u ++ [])) := (eqv_cancel g).app (Eqv.right u (eqv_cancel g))
          rw [List.nil_append, List.append_nil] at e2
          exact e2.symm.trans h4
        · intro h
          exact g1.eqv (show Eqv [] u from h.symm) g1.one
      intro u
      show L2 u ↔ L1 ([] ++ u ++ inv [])
      rw [triv2, triv1]
      simp [inv]
  · rw [if_neg ht] at hd
    right
    have hv1 := hv0 ht
    -- the place behind the tail
    obtain ⟨q, hq⟩ := over t v ht T.rd hv
    have hold : q < n1 := by
      refine Nat.lt_of_not_le fun hh => ?_
      obtain ⟨x, y, h2⟩ := A.two q hh
      rcases List.eq_nil_or_concat t with e | ⟨t0, z, e⟩
      · exact ht e
      · have e' : t = t0 ++ [z] := by simpa using e
        have hlast : t.getLast? = some z := by rw [e']; simp
        -- three ways at v
        have h3 : 3 ≤ deg (stp es2) v := by
          have h4 : stp es2 v z.flip ≠ none := by
            rw [e'] at hv
            obtain ⟨a, _, h6⟩ := walk_unsnoc hv
            rw [c2.pa _ _ _ h6]
            simp
          cases h7 : stp es2 v z.flip with
          | none => exact absurd h7 h4
          | some a =>
            obtain ⟨y2, k2, h8, h9⟩ := c2.goes v z.flip a hv1 h7
            have h10 : 2 ≤ deg (stp es2) v := by
              refine Nat.lt_of_not_le fun h11 => ?_
              exact h8 (deg_lone h11 _ _ _ _ h9 h7)
            omega
        obtain ⟨y3, k3, a1, a2, a3⟩ := deg_more2 h3 x y
        have h5 : ∃ k, stp E q y3 = some k := by
          by_cases hy : y3 = z.flip
          · rw [e'] at hq
            obtain ⟨a, _, h6⟩ := walk_unsnoc hq
            exact ⟨a, by rw [hy]; exact hpE _ _ _ h6⟩
          · have hr : Rd (t ++ [y3]) := T.rd.snoc fun z2 hz2 => by
              rw [hlast] at hz2
              have e3 := Option.some.inj hz2
              subst e3
              exact hy
            obtain ⟨k', h6⟩ := over (t ++ [y3]) k3 (by simp) hr (walk_snoc hv a3)
            obtain ⟨q', h7, h8⟩ := walk_unsnoc h6
            have e4 : q = q' := Option.some.inj (hq.symm.trans h7)
            subst e4
            exact ⟨k', h8⟩
        obtain ⟨k, h6⟩ := h5
        rcases h2 y3 k h6 with r | r
        · exact a1 r
        · exact a2 r
    refine ⟨q, hold, fun p hp => ?_⟩
    have h1 := walk_red hpE (walk_app A.way hq)
    have h2 := A.old _ _ (red_rd _) hold h1
    have h3 := c1.apart hp h2
    refine g1.eqv ?_ h3
    have e1 : Eqv (red (red g ++ t)) (g ++ t) := (eqv_red _).trans (Eqv.left _ (eqv_red g))
    have e2 := Eqv.right p e1.inv
    rw [inv_append] at e2
    rw [List.append_assoc]
    exact e2
end
/-- the first word that leads to a place -/
def First (s : Act) (h : Nat) (f : Word) : Prop := walk s 0 f = some h ∧ ∀ w, walk s 0 w = some h → sle f w
/-- what conjugator finds: for each way in the one graph, if it moves onto the other graph, the first word of its coset -/
structure Cand (es1 : List Edge) (n1 : Nat) (L1 L2 : Word → Prop) (t p : Word) (o : Option Word) : Prop where
  none_ : o = none → ¬ Conj L1 L2 (red (p ++ inv t))
  some_ : ∀ f, o = some f → Conj L1 L2 (red (p ++ inv t)) ∧ ∃ E cnt here, Att n1 es1 (red (p ++ inv t)) E cnt here ∧ First (stp E) here f
section
variable {n1 n2 : Nat} {es1 es2 : List Edge} {L1 L2 : Word → Prop} {t p f : Word}
theorem First.rd {s : Act} (hp : PA s) {h : Nat} {f : Word} (F : First s h f) : Rd f := by
  have h1 := F.2 _ (walk_red hp F.1)
  have h2 := sle_len h1
  have h3 := red_len f
  rcases sl_tri (red f) f with e | e | e
  · exact absurd e h1
  · rw [← e]
    exact red_rd f
  · -- as long and later: it is no way out, for as long as its reduced form it is it
    have key : ∀ (w st : Word), (stk st w).length = w.length + st.length → stk st w = w.reverse ++ st := by
      intro w
      induction w with
      | nil => intro st _; rfl
      | cons x r ih =>
        intro st hs
        rw [stk_cons] at hs ⊢
        have a1 := stk_len r (red1 st x)
        have a2 := red1_len st x
        rw [List.length_cons] at hs
        have a3 : (red1 st x).length = st.length + 1 := by omega
        rw [ih (red1 st x) (by omega)]
        have a4 : red1 st x = x :: st := by
          cases st with
          | nil => rfl
          | cons y t =>
            have a5 : (if y = x.flip then t else x :: y :: t).length = (y :: t).length + 1 := a3
            show (if y = x.flip then t else x :: y :: t) = x :: y :: t
            split at a5
            · rw [List.length_cons] at a5
              omega
            · rename_i hne
              rw [if_neg hne]
        rw [a4]
        simp
    have h6 : (red f).length = f.length := by omega
    have h7 : red f = f := by
      unfold red at h6 ⊢
      rw [List.length_reverse] at h6
      rw [key f [] (by simpa using h6)]
      simp
    rw [← h7]
    exact red_rd f
theorem Cand.good (c1 : Canon n1 es1 L1) (g1 : Grp L1) (C : Cand es1 n1 L1 L2 t p (some f)) : Conj L1 L2 f ∧ Rd f ∧ f.length ≤ p.length + t.length := by
  obtain ⟨h1, E, cnt, here, A, F⟩ := C.some_ f rfl
  refine ⟨h1.coset g1 (A.coset' c1 F.1), F.rd (stp_pa A.fold A.sm), ?_⟩
  have h2 := sle_len (F.2 _ A.way)
  have h3 := red_len (p ++ inv t)
  rw [List.length_append, inv_length] at h3
  omega
/-- the least of what is found is the least conjugator; if none is found, there is none -/
theorem Cand.least (c1 : Canon n1 es1 L1) (g1 : Grp L1) (c2 : Canon n2 es2 L2) (T : Tail (stp es2) n2 t) {ps : List Word} (hps : ∀ k, k < n1 → ∃ p, p ∈ ps ∧ walk (stp es1) 0 p = some k)
    (hz : ∃ p, p ∈ ps ∧ p = []) {o : Word → Option Word} (hC : ∀ p ∈ ps, Cand es1 n1 L1 L2 t p (o p)) {g : Word} (hg : Rd g) (hc : Conj L1 L2 g) : ∃ p ∈ ps, ∃ f, o p = some f ∧ sle f g := by
  rcases conj_through c1 g1 c2 T hc with ⟨ht, h0⟩ | ⟨k, hk, hall⟩
  · subst ht
    obtain ⟨p, hp, e⟩ := hz
    subst e
    cases e : o [] with
    | none =>
      have := (hC [] hp).none_ e
      exact absurd h0 this
    | some f =>
      obtain ⟨_, E, cnt, here, A, F⟩ := (hC [] hp).some_ f e
      refine ⟨[], hp, f, e, ?_⟩
      have h1 := F.2 _ A.way
      have e2 : red ([] ++ inv []) = [] := rfl
      rw [e2] at h1
      refine sle_trans h1 ?_
      rcases List.eq_nil_or_concat g with q | ⟨a, b, q⟩
      · subst q
        exact sle_refl _
      · exact sle_of_sl (sl_nil (by rw [q]; simp))
  · obtain ⟨p, hp, hw⟩ := hps k hk
    have h1 := hall p hw
    have h2 : L1 (red (p ++ inv t) ++ inv g) := g1.eqv (Eqv.left _ (eqv_red _).symm) h1
    have h3 : Conj L1 L2 (red (p ++ inv t)) := hc.coset g1 h2
    cases e : o p with
    | none => exact absurd h3 ((hC p hp).none_ e)
    | some f =>
      obtain ⟨_, E, cnt, here, A, F⟩ := (hC p hp).some_ f e
      refine ⟨p, hp, f, e, F.2 _ ?_⟩
      have h4 := g1.inv h2
      rw [inv_append, inv_inv] at h4
      have h5 := A.coset c1 g1 h4
      rw [red_of_rd hg] at h5
      exact h5
end
end Fw
end

section
set_option autoImplicit false
set_option linter.all false
namespace Fw

/-! ## ways along edges that are not folded -/
inductive Pth (E : List Edge) : Nat → Word → Nat → Prop
  | nil (v : Nat) : Pth E v [] v
  | cons {v u k : Nat} {x : Let} {r : Word} : Has E v x u → Pth E u r k → Pth E v (x :: r) k
theorem Pth.mono {E F : List Edge} (h : ∀ e ∈ E, e ∈ F) {v k : Nat} {w : Word} (p : Pth E v w k) : Pth F v w k := by
  induction p with
  | nil v => exact .nil v
  | cons a _ ih => exact .cons (has_sub h a) ih
theorem Pth.snoc {E : List Edge} {v u k : Nat} {w : Word} {x : Let} (p : Pth E v w u) (h : Has E u x k) : Pth E v (w ++ [x]) k := by
  induction p with
  | nil v => exact .cons h (.nil k)
  | cons a _ ih => exact .cons a (ih h)
/-- E with its places named by f -/
structure Named (ws : List Word) (E : List Edge) (f : Nat → Nat) (pre : Nat → Word) (E' : List Edge) : Prop where
  sm : Smalls E
  mem : ∀ e, e ∈ E' ↔ ∃ a l b, (a, l, b) ∈ E ∧ e = (f a, l, f b)
  f0 : f 0 = 0
  pre0 : pre 0 = []
  edge : ∀ a l b, (a, l, b) ∈ E → Gen ws (pre a ++ [l] ++ inv (pre b)) ∧ Gen ws (pre a ++ inv (pre (f a))) ∧ Gen ws (pre b ++ inv (pre (f b)))
  loops : ∀ w ∈ ws, ∃ e, Pth E 0 (red w) e ∧ f e = 0
  fold : Folded E'
section
variable {ws : List Word} {E E' : List Edge} {f : Nat → Nat} {pre : Nat → Word}
theorem Named.smalls (N : Named ws E f pre E') : Smalls E' := fun e he => by
  obtain ⟨a, l, b, h, q⟩ := (N.mem e).mp he
  subst q
  have := N.sm _ h
  exact this
theorem gen_mid {u v w : Word} (h1 : Gen ws (u ++ inv v)) (h2 : Gen ws (v ++ inv w)) : Gen ws (u ++ inv w) := by
  refine Gen.eqv ?_ (Gen.mul h1 h2)
  have e : u ++ inv v ++ (v ++ inv w) = u ++ ((inv v ++ v) ++ inv w) := by simp
  rw [e]
  exact Eqv.right u ((eqv_cancel' v).left _)
theorem gen_back {u v : Word} (h : Gen ws (u ++ inv v)) : Gen ws (v ++ inv u) := by
  have := Gen.inv h
  rw [inv_append, inv_inv] at this
  exact this
theorem gen_same (u : Word) : Gen ws (u ++ inv u) := Gen.eqv (eqv_cancel u).symm Gen.one
/-- u x (v)^-1 belongs -/
theorem gen_step {u v : Word} {l : Let} (h : Gen ws (u ++ [l] ++ inv v)) : Gen ws (v ++ [l.flip] ++ inv u) := by
  have := Gen.inv h
  rw [inv_append, inv_append, inv_inv, inv_one, ← List.append_assoc] at this
  exact this
theorem Named.step (N : Named ws E f pre E') {v u : Nat} {x : Let} (h : stp E' v x = some u) : Gen ws (pre v ++ [x] ++ inv (pre u)) := by
  have h1 := has_edg.mp ((stp_iff N.fold).mp h)
  obtain ⟨a, l, b, h2, e⟩ := (N.mem _).mp h1
  obtain ⟨k1, k2, k3⟩ := N.edge a l b h2
  have core : Gen ws (pre (f a) ++ [l] ++ inv (pre (f b))) := by
    have a1 : Gen ws (pre (f a) ++ inv (pre a ++ [l.flip.flip])) ∨ True := .inr True.intro
    have h3 : Gen ws ((pre (f a) ++ inv (pre a)) ++ (pre a ++ [l] ++ inv (pre b)) ++ (pre b ++ inv (pre (f b)))) := Gen.mul (Gen.mul (gen_back k2) k1) k3
    refine Gen.eqv ?_ h3
    have e1 : (pre (f a) ++ inv (pre a)) ++ (pre a ++ [l] ++ inv (pre b)) ++ (pre b ++ inv (pre (f b))) = pre (f a) ++ ((inv (pre a) ++ pre a) ++ ([l] ++ ((inv (pre b) ++ pre b) ++ inv (pre (f b))))) := by simp
    rw [e1]
    have e2 : Eqv (pre (f a) ++ ((inv (pre a) ++ pre a) ++ ([l] ++ ((inv (pre b) ++ pre b) ++ inv (pre (f b)))))) (pre (f a) ++ ([] ++ ([l] ++ ([] ++ inv (pre (f b)))))) :=
      Eqv.right _ ((eqv_cancel' _).app (Eqv.right _ ((eqv_cancel' _).left _)))
    have e3 : pre (f a) ++ ([] ++ ([l] ++ ([] ++ inv (pre (f b))))) = pre (f a) ++ [l] ++ inv (pre (f b)) := by simp
    rw [e3] at e2
    exact e2
  unfold edg at e
  split at e
  · injection e with e1 e2
    injection e2 with e2 e3
    subst e1 e2 e3
    exact core
  · injection e with e1 e2
    injection e2 with e2 e3
    subst e1 e3
    have := gen_step core
    rw [← e2, Let.flip_flip] at this
    exact this
theorem Named.walk (N : Named ws E f pre E') : ∀ (w : Word) {v u : Nat}, Fw.walk (stp E') v w = some u → Gen ws (pre v ++ w ++ inv (pre u))
  | [], v, u, h => by
    have e := Option.some.inj h
    subst e
    rw [List.append_nil]
    exact gen_same _
  | x :: r, v, u, h => by
    obtain ⟨m, h1, h2⟩ := walk_cons_some h
    have h3 := Gen.mul (N.step h1) (N.walk r h2)
    refine Gen.eqv ?_ h3
    have e : pre v ++ [x] ++ inv (pre m) ++ (pre m ++ r ++ inv (pre u)) = (pre v ++ [x]) ++ ((inv (pre m) ++ pre m) ++ (r ++ inv (pre u))) := by simp
    have e2 : pre v ++ x :: r ++ inv (pre u) = (pre v ++ [x]) ++ ([] ++ (r ++ inv (pre u))) := by simp
    rw [e, e2]
    exact Eqv.right _ ((eqv_cancel' _).left _)
theorem Named.path (N : Named ws E f pre E') {v k : Nat} {w : Word} (p : Pth E v w k) : Fw.walk (stp E') (f v) w = some (f k) := by
  induction p with
  | nil v => rfl
  | @cons v u k x r a _ ih =>
    have h : stp E' (f v) x = some (f u) := by
      refine (stp_iff N.fold).mpr ?_
      unfold Has at a ⊢
      split
      · rename_i hx
        rw [if_pos hx] at a
        exact (N.mem _).mpr ⟨_, _, _, a, rfl⟩
      · rename_i hx
        rw [if_neg hx] at a
        exact (N.mem _).mpr ⟨_, _, _, a, rfl⟩
    rw [walk_cons h]
    exact ih
theorem Named.lang (N : Named ws E f pre E') (w : Word) : Fw.walk (stp E') 0 (red w) = some 0 ↔ Gen ws w := by
  have hp : PA (stp E') := stp_pa N.fold N.smalls
  constructor
  · intro h
    have h1 := N.walk _ h
    rw [N.pre0, List.nil_append] at h1
    have e : red w ++ inv [] = red w := by simp [inv]
    rw [e] at h1
    exact Gen.eqv (eqv_red w) h1
  · intro h
    have G : Grp (fun u => Fw.walk (stp E') 0 (red u) = some 0) := {
      one := rfl
      mul := fun {u v} hu hv => by
        have h1 := walk_red hp (walk_app hu hv)
        have e : red (red u ++ red v) = red (u ++ v) := (eqv_red u).app (eqv_red v)
        rw [e] at h1
        exact h1
      inv := fun {u} hu => by
        have h1 := walk_red hp (walk_inv hp hu)
        have e : red (Fw.inv (red u)) = red (Fw.inv u) := (eqv_red u).inv
        rw [e] at h1
        exact h1
      eqv := fun {u v} e hu => by
        have e2 : red u = red v := e
        rw [← e2]
        exact hu }
    refine Gen.all G (fun u hu => ?_) h
    obtain ⟨e, h1, h2⟩ := N.loops u hu
    have h3 := N.path h1
    rw [N.f0, h2] at h3
    exact h3
end

/-! ## points and their roots -/
def rt (par : List (Option Nat)) (p : Nat) : Nat :=
  match par[p]? with
  | some (some q) => if q < p then rt par q else p
  | _ => p
termination_by p
section
variable {par : List (Option Nat)}
theorem rt_root {p : Nat} (h : par[p]? = some none ∨ par[p]? = none) : rt par p = p := by
  rw [rt]
  rcases h with h | h <;> rw [h]
theorem rt_up {p q : Nat} (h : par[p]? = some (some q)) (hq : q < p) : rt par p = rt par q := by
  rw [rt, h]
  show (if q < p then rt par q else p) = _
  rw [if_pos hq]
theorem rt_le (p : Nat) : rt par p ≤ p := by
  induction p using Nat.strongRecOn with
  | _ p ih =>
    cases h : par[p]? with
    | none => rw [rt_root (.inr h)]; exact Nat.le_refl _
    | some o =>
      cases o with
      | none => rw [rt_root (.inl h)]; exact Nat.le_refl _
      | some q =>
        by_cases hq : q < p
        · rw [rt_up h hq]
          have := ih q hq
          omega
        · rw [rt, h]
          show (if q < p then rt par q else p) ≤ p
          rw [if_neg hq]
          exact Nat.le_refl _
/-- each parent is lower -/
def Low (par : List (Option Nat)) : Prop := ∀ p q : Nat, par[p]? = some (some q) → q < p
theorem rt_is (hl : Low par) (p : Nat) : par[rt par p]? = some none ∨ par[rt par p]? = none := by
  induction p using Nat.strongRecOn with
  | _ p ih =>
    cases h : par[p]? with
    | none => rw [rt_root (.inr h)]; exact .inr h
    | some o =>
      cases o with
      | none => rw [rt_root (.inl h)]; exact .inl h
      | some q =>
        rw [rt_up h (hl _ _ h)]
        exact ih q (hl _ _ h)
theorem rt_rt (hl : Low par) (p : Nat) : rt par (rt par p) = rt par p := rt_root (rt_is hl p)
theorem rt_snoc (p : Nat) : rt (par ++ [none]) p = rt par p := by
  induction p using Nat.strongRecOn with
  | _ p ih =>
    rcases Nat.lt_or_ge p par.length with h | h
    · have e : (par ++ [none])[p]? = par[p]? := List.getElem?_append_left h
      rw [rt, e]
      conv => rhs; rw [rt]
      cases par[p]? with
      | none => rfl
      | some o =>
        cases o with
        | none => rfl
        | some q =>
          show (if q < p then rt (par ++ [none]) q else p) = if q < p then rt par q else p
          split
          · rename_i hq
            exact ih q hq
          · rfl
    · rw [rt_root (par := par) (.inr (List.getElem?_eq_none h))]
      refine rt_root ?_
      rw [List.getElem?_append_right h]
      rcases Nat.eq_zero_or_pos (p - par.length) with e | e
      · rw [e]
        exact .inl rfl
      · right
        exact List.getElem?_eq_none (by simp; omega)
theorem Low.snoc (hl : Low par) : Low (par ++ [none]) := fun p q h => by
  rcases Nat.lt_or_ge p par.length with h2 | h2
  · rw [List.getElem?_append_left h2] at h
    exact hl p q h
  · rw [List.getElem?_append_right h2] at h
    rcases Nat.eq_zero_or_pos (p - par.length) with e | e
    · rw [e] at h
      cases h
    · rw [List.getElem?_eq_none (by simp; omega)] at h
      cases h
theorem Low.link (hl : Low par) {hi lo : Nat} (h : lo < hi) : Low (par.set hi (some lo)) := fun p q e => by
  by_cases hp : p = hi
  · subst hp
    rcases Nat.lt_or_ge p par.length with h2 | h2
    · rw [List.getElem?_set_self h2] at e
      have e2 : lo = q := Option.some.inj (Option.some.inj e)
      subst e2
      exact h
    · rw [List.getElem?_eq_none (by simp; exact h2)] at e
      cases e
  · rw [List.getElem?_set_ne (fun q => hp q.symm)] at e
    exact hl p q e
theorem rt_link (hl : Low par) {hi lo : Nat} (h : lo < hi) (hh : par[hi]? = some none) (hlo : rt par lo = lo) (p : Nat) : rt (par.set hi (some lo)) p = if rt par p = hi then lo else rt par p := by
  have hlen : hi < par.length := (List.getElem?_eq_some_iff.mp hh).1
  have hself : (par.set hi (some lo))[hi]? = some (some lo) := List.getElem?_set_self hlen
  have hoth : ∀ {q}, q ≠ hi → (par.set hi (some lo))[q]? = par[q]? := fun {q} hq => List.getElem?_set_ne (fun e => hq e.symm)
  have elo : rt (par.set hi (some lo)) lo = lo := by
    have h1 := rt_is hl lo
    rw [hlo] at h1
    refine rt_root ?_
    rw [hoth (Nat.ne_of_lt h)]
    exact h1
  induction p using Nat.strongRecOn with
  | _ p ih =>
    by_cases hp : p = hi
    · subst hp
      rw [rt_up hself h, elo, rt_root (.inl hh), if_pos rfl]
    · cases e : par[p]? with
      | none =>
        have e2 : rt par p = p := rt_root (.inr e)
        rw [e2, if_neg hp]
        exact rt_root (.inr (by rw [hoth hp]; exact e))
      | some o =>
        cases o with
        | none =>
          have e2 : rt par p = p := rt_root (.inl e)
          rw [e2, if_neg hp]
          exact rt_root (.inl (by rw [hoth hp]; exact e))
        | some q =>
          have hq := hl p q e
          rw [rt_up e hq, ← ih q hq]
          exact rt_up (by rw [hoth hp]; exact e) hq
/-- how many points are their own least ones -/
def roots (par : List (Option Nat)) : Nat := par.countP (·.isNone)
theorem roots_link : ∀ {l : List (Option Nat)} {hi lo : Nat}, l[hi]? = some none → roots (l.set hi (some lo)) + 1 = roots l
  | [], _, _, h => by simp at h
  | a :: r, 0, lo, h => by
    have e : a = none := Option.some.inj h
    subst e
    show List.countP _ (some lo :: r) + 1 = List.countP _ (none :: r)
    rw [List.countP_cons, List.countP_cons]
    simp
  | a :: r, hi + 1, lo, h => by
    have ih := roots_link (l := r) (hi := hi) (lo := lo) h
    unfold roots at ih ⊢
    rw [List.set_cons_succ, List.countP_cons, List.countP_cons]
    omega
end

/-! ## a folding on its way -/
def at0 (pre : List Word) (p : Nat) : Word := pre.getD p []
theorem at0_of {pre : List Word} {p : Nat} {u : Word} (h : pre[p]? = some u) : at0 pre p = u := by
  unfold at0
  rw [List.getD_eq_getElem?_getD, h]
  rfl
/-- h: a point that is not looked at (the end of the petal that is being made) -/
structure FI (ws don : List Word) (pre : List Word) (E : List Edge) (par : List (Option Nat)) (h : Nat) : Prop where
  len : par.length = pre.length
  low : Low par
  gen : ∀ p q : Nat, par[p]? = some (some q) → Gen ws (at0 pre p ++ inv (at0 pre q))
  zero : pre[0]? = some []
  sm : Smalls E
  lt : ∀ e ∈ E, e.1 < pre.length ∧ e.2.2 < pre.length
  edge : ∀ a l b, (a, l, b) ∈ E → Gen ws (at0 pre a ++ [l] ++ inv (at0 pre b))
  loops : ∀ w ∈ don, ∃ e, Pth E 0 w e ∧ rt par e = 0
  inner : ∀ v, v < pre.length → v ≠ 0 → v ≠ h → rt par v = 0 ∨ ∃ x y p q, x ≠ y ∧ Has E v x p ∧ Has E v y q
section
variable {ws don : List Word} {pre : List Word} {E : List Edge} {par : List (Option Nat)} {h : Nat}
theorem FI.gen_rt (I : FI ws don pre E par h) (p : Nat) : Gen ws (at0 pre p ++ inv (at0 pre (rt par p))) := by
  induction p using Nat.strongRecOn with
  | _ p ih =>
    cases e : par[p]? with
    | none => rw [rt_root (.inr e)]; exact gen_same _
    | some o =>
      cases o with
      | none => rw [rt_root (.inl e)]; exact gen_same _
      | some q =>
        rw [rt_up e (I.low _ _ e)]
        exact gen_mid (I.gen p q e) (ih q (I.low _ _ e))
theorem FI.start (ws : List Word) : FI ws [] [[]] [] [none] 0 where
  len := rfl
  low := fun p q e => by
    cases p with
    | zero => cases e
    | succ p => simp at e
  gen := fun p q e => by
    cases p with
    | zero => cases e
    | succ p => simp at e
  zero := rfl
  sm := fun e he => by simp at he
  lt := fun e he => by simp at he
  edge := fun a l b he => by simp at he
  loops := fun w hw => by simp at hw
  inner := fun v hv h0 => by simp at hv; omega
/-- two points are identified -/
theorem FI.link (I : FI ws don pre E par h) {hi lo : Nat} (hlt : lo < hi) (hh : par[hi]? = some none) (hlo : rt par lo = lo) (hg : Gen ws (at0 pre hi ++ inv (at0 pre lo))) : FI ws don pre E (par.set hi (some lo)) h where
  len := by simpa using I.len
  low := I.low.link hlt
  gen := fun p q e => by
    by_cases hp : p = hi
    · subst hp
      rw [List.getElem?_set_self (List.getElem?_eq_some_iff.mp hh).1] at e
      have e2 : lo = q := Option.some.inj (Option.some.inj e)
      subst e2
      exact hg
    · rw [List.getElem?_set_ne (fun q => hp q.symm)] at e
      exact I.gen p q e
  zero := I.zero
  sm := I.sm
  lt := I.lt
  edge := I.edge
  loops := fun w hw => by
    obtain ⟨e, h1, h2⟩ := I.loops w hw
    refine ⟨e, h1, ?_⟩
    rw [rt_link I.low hlt hh hlo, h2, if_neg (by omega)]
  inner := fun v hv h0 hne => by
    rcases I.inner v hv h0 hne with r | r
    · left
      rw [rt_link I.low hlt hh hlo, r, if_neg (by omega)]
    · exact .inr r
theorem FI.merge (I : FI ws don pre E par h) {one other : Nat} (h1 : one < pre.length) (h2 : other < pre.length) (hg : Gen ws (at0 pre one ++ inv (at0 pre other))) (hne : rt par one ≠ rt par other) :
    FI ws don pre E (if rt par other < rt par one then par.set (rt par one) (some (rt par other)) else par.set (rt par other) (some (rt par one))) h := by
  have a1 := I.gen_rt one
  have a2 := I.gen_rt other
  have k1 : par[rt par one]? = some none := by
    rcases rt_is I.low one with r | r
    · exact r
    · have := rt_le (par := par) one
      have := List.getElem?_eq_none_iff.mp r
      have := I.len
      omega
  have k2 : par[rt par other]? = some none := by
    rcases rt_is I.low other with r | r
    · exact r
    · have := rt_le (par := par) other
      have := List.getElem?_eq_none_iff.mp r
      have := I.len
      omega
  have g : Gen ws (at0 pre (rt par one) ++ inv (at0 pre (rt par other))) := gen_mid (gen_mid (gen_back a1) hg) a2
  split
  · rename_i hlt
    exact I.link hlt k1 (rt_rt I.low _) g
  · exact I.link (by omega) k2 (rt_rt I.low _) (gen_back g)
/-- the same class before, the same class behind -/
theorem rt_merge (hl : Low par) {one other : Nat} (h1 : par[rt par one]? = some none) (h2 : par[rt par other]? = some none) (hne : rt par one ≠ rt par other) :
    let par' := if rt par other < rt par one then par.set (rt par one) (some (rt par other)) else par.set (rt par other) (some (rt par one))
    rt par' one = rt par' other ∧ roots par' + 1 = roots par := by
  dsimp only
  split
  · rename_i hlt
    refine ⟨?_, roots_link h1⟩
    rw [rt_link hl hlt h1 (rt_rt hl _), rt_link hl hlt h1 (rt_rt hl _), if_pos rfl, if_neg (fun e => hne e.symm)]
  · rename_i hlt
    have hlt2 : rt par one < rt par other := by omega
    refine ⟨?_, roots_link h2⟩
    rw [rt_link hl hlt2 h2 (rt_rt hl _), rt_link hl hlt2 h2 (rt_rt hl _), if_neg hne, if_pos rfl]
theorem FI.rootAt (I : FI ws don pre E par h) {p : Nat} (hp : p < pre.length) : par[rt par p]? = some none := by
  rcases rt_is I.low p with r | r
  · exact r
  · have := rt_le (par := par) p
    have := List.getElem?_eq_none_iff.mp r
    have := I.len
    omega
/-- two edges with one letter from one point: the points behind them -/
theorem FI.twin (I : FI ws don pre E par h) {a b c d : Nat} {l : Let} (he : (a, l, b) ∈ E) (hf : (c, l, d) ∈ E) (hr : rt par a = rt par c) : Gen ws (at0 pre b ++ inv (at0 pre d)) := by
  have h1 := gen_step (I.edge _ _ _ he)
  have h2 := I.edge _ _ _ hf
  have h3 : Gen ws (at0 pre a ++ inv (at0 pre c)) := by
    have k1 := I.gen_rt a
    have k2 := I.gen_rt c
    rw [← hr] at k2
    exact gen_mid k1 (gen_back k2)
  refine Gen.eqv ?_ (Gen.mul (Gen.mul h1 h3) h2)
  have e : at0 pre b ++ [l.flip] ++ inv (at0 pre a) ++ (at0 pre a ++ inv (at0 pre c)) ++ (at0 pre c ++ [l] ++ inv (at0 pre d)) =
      (at0 pre b ++ [l.flip]) ++ ((inv (at0 pre a) ++ at0 pre a) ++ ((inv (at0 pre c) ++ at0 pre c) ++ ([l] ++ inv (at0 pre d)))) := by simp
  rw [e]
  have e2 : Eqv ((at0 pre b ++ [l.flip]) ++ ((inv (at0 pre a) ++ at0 pre a) ++ ((inv (at0 pre c) ++ at0 pre c) ++ ([l] ++ inv (at0 pre d))))) ((at0 pre b ++ [l.flip]) ++ ([] ++ ([] ++ ([l] ++ inv (at0 pre d))))) :=
    Eqv.right _ ((eqv_cancel' _).app ((eqv_cancel' _).left _))
  refine e2.trans ?_
  have e3 : (at0 pre b ++ [l.flip]) ++ ([] ++ ([] ++ ([l] ++ inv (at0 pre d)))) = at0 pre b ++ ([l.flip, l] ++ inv (at0 pre d)) := by simp
  rw [e3]
  have e4 : Eqv [l.flip, l] [] := by
    have := eqv_pair l.flip
    rw [Let.flip_flip] at this
    exact this
  exact Eqv.right _ (e4.left _)
theorem FI.twin' (I : FI ws don pre E par h) {a b c d : Nat} {l : Let} (he : (a, l, b) ∈ E) (hf : (c, l, d) ∈ E) (hr : rt par b = rt par d) : Gen ws (at0 pre a ++ inv (at0 pre c)) := by
  have h1 := I.edge _ _ _ he
  have h2 := gen_step (I.edge _ _ _ hf)
  have h3 : Gen ws (at0 pre b ++ inv (at0 pre d)) := by
    have k1 := I.gen_rt b
    have k2 := I.gen_rt d
    rw [← hr] at k2
    exact gen_mid k1 (gen_back k2)
  refine Gen.eqv ?_ (Gen.mul (Gen.mul h1 h3) h2)
  have e : at0 pre a ++ [l] ++ inv (at0 pre b) ++ (at0 pre b ++ inv (at0 pre d)) ++ (at0 pre d ++ [l.flip] ++ inv (at0 pre c)) =
      (at0 pre a ++ [l]) ++ ((inv (at0 pre b) ++ at0 pre b) ++ ((inv (at0 pre d) ++ at0 pre d) ++ ([l.flip] ++ inv (at0 pre c)))) := by simp
  rw [e]
  have e2 : Eqv ((at0 pre a ++ [l]) ++ ((inv (at0 pre b) ++ at0 pre b) ++ ((inv (at0 pre d) ++ at0 pre d) ++ ([l.flip] ++ inv (at0 pre c))))) ((at0 pre a ++ [l]) ++ ([] ++ ([] ++ ([l.flip] ++ inv (at0 pre c))))) :=
    Eqv.right _ ((eqv_cancel' _).app ((eqv_cancel' _).left _))
  refine e2.trans ?_
  have e3 : (at0 pre a ++ [l]) ++ ([] ++ ([] ++ ([l.flip] ++ inv (at0 pre c)))) = at0 pre a ++ ([l, l.flip] ++ inv (at0 pre c)) := by simp
  rw [e3]
  exact Eqv.right _ ((eqv_pair l).left _)
end
/-- a petal on its way: j letters of w are laid, the last point is h -/
structure PI (ws don : List Word) (pre : List Word) (E : List Edge) (par : List (Option Nat)) (w : Word) (j h : Nat) : Prop where
  fi : FI ws don pre E par h
  lt : h < pre.length
  here : at0 pre h = w.take j
  path : Pth E 0 (w.take j) h
  one : h ≠ 0 → ∃ x p, (w.take j).getLast? = some x ∧ Has E h x.flip p
section
variable {ws don : List Word} {pre : List Word} {E : List Edge} {par : List (Option Nat)} {w : Word} {j h : Nat}
theorem FI.any (I : FI ws don pre E par 0) : FI ws don pre E par 0 := I
theorem PI.start (I : FI ws don pre E par 0) (w : Word) : PI ws don pre E par w 0 0 where
  fi := I
  lt := (List.getElem?_eq_some_iff.mp I.zero).1
  here := by
    rw [List.take_zero]
    exact at0_of I.zero
  path := by
    rw [List.take_zero]
    exact .nil 0
  one := fun h => absurd rfl h
theorem at0_snoc {pre : List Word} {u : Word} {p : Nat} (h : p < pre.length) : at0 (pre ++ [u]) p = at0 pre p := by
  unfold at0
  rw [List.getD_eq_getElem?_getD, List.getD_eq_getElem?_getD, List.getElem?_append_left h]
theorem at0_new {pre : List Word} {u : Word} : at0 (pre ++ [u]) pre.length = u := by
  refine at0_of ?_
  rw [List.getElem?_append_right (Nat.le_refl _)]
  simp
theorem has_end {E : List Edge} {n : Nat} (hl : ∀ e ∈ E, e.1 < n ∧ e.2.2 < n) {v u : Nat} {x : Let} (h : Has E v x u) : v < n ∧ u < n := by
  unfold Has at h
  split at h
  · exact hl _ h
  · exact ⟨(hl _ h).2, (hl _ h).1⟩
theorem PI.step (P : PI ws don pre E par w j h) (hw : Rd w) {x : Let} (hx : w[j]? = some x) :
    PI ws don (pre ++ [w.take (j + 1)]) (E ++ [edg h x pre.length]) (par ++ [none]) w (j + 1) pre.length := by
  have I := P.fi
  have hpos : 0 < pre.length := (List.getElem?_eq_some_iff.mp I.zero).1
  have et : w.take (j + 1) = w.take j ++ [x] := by
    rw [List.take_add_one, hx]
    rfl
  have sub : ∀ e ∈ E, e ∈ E ++ [edg h x pre.length] := fun e he => List.mem_append_left _ he
  have hin : Has (E ++ [edg h x pre.length]) h x pre.length := has_edg.mpr (List.mem_append_right _ (by simp))
  have hsm : Smalls (E ++ [edg h x pre.length]) := fun e he => by
    rcases List.mem_append.mp he with q | q
    · exact I.sm e q
    · have e2 : e = edg h x pre.length := by simpa using q
      subst e2
      unfold edg
      split
      · rename_i hx2
        exact hx2
      · rename_i hx2
        show x.flip.small = true
        rw [Let.small_flip]
        simpa using hx2
  have hback := (has_flip hsm).mp hin
  refine ⟨⟨?_, I.low.snoc, ?_, ?_, hsm, ?_, ?_, ?_, ?_⟩, by simp, at0_new, ?_, fun _ => ⟨x, h, by rw [et]; simp, hback⟩⟩
  · simp [I.len]
  · intro p q e
    rcases Nat.lt_or_ge p par.length with h2 | h2
    · rw [List.getElem?_append_left h2] at e
      have h3 := I.low p q e
      have h4 := I.len
      rw [at0_snoc (by omega), at0_snoc (by omega)]
      exact I.gen p q e
    · rw [List.getElem?_append_right h2] at e
      rcases Nat.eq_zero_or_pos (p - par.length) with e2 | e2
      · rw [e2] at e
        cases e
      · rw [List.getElem?_eq_none (by simp; omega)] at e
        cases e
  · rw [List.getElem?_append_left hpos]
    exact I.zero
  · intro e he
    rcases List.mem_append.mp he with q | q
    · have := I.lt e q
      simp
      omega
    · have e2 : e = edg h x pre.length := by simpa using q
      subst e2
      have := P.lt
      unfold edg
      split
      · simp
        omega
      · simp
        omega
  · intro a l b he
    rcases List.mem_append.mp he with q | q
    · have hq : a < pre.length ∧ b < pre.length := I.lt _ q
      rw [at0_snoc hq.1, at0_snoc hq.2]
      exact I.edge a l b q
    · have e2 : (a, l, b) = edg h x pre.length := by simpa using q
      have key : Gen ws (at0 (pre ++ [w.take (j + 1)]) h ++ [x] ++ inv (at0 (pre ++ [w.take (j + 1)]) pre.length)) := by
        rw [at0_snoc P.lt, at0_new, P.here, ← et]
        exact gen_same _
      unfold edg at e2
      split at e2
      · injection e2 with e1 e2
        injection e2 with e2 e3
        subst e1 e2 e3
        exact key
      · injection e2 with e1 e2
        injection e2 with e2 e3
        subst e1 e2 e3
        exact gen_step key
  · intro u hu
    obtain ⟨e, h1, h2⟩ := I.loops u hu
    exact ⟨e, h1.mono sub, by rw [rt_snoc]; exact h2⟩
  · intro v hv h0 hne
    simp at hv
    have hv2 : v < pre.length := by omega
    by_cases hvh : v = h
    · subst hvh
      obtain ⟨y, p, h1, h2⟩ := P.one h0
      right
      refine ⟨x, y.flip, _, p, ?_, hin, has_sub sub h2⟩
      have hr : Rd (w.take j ++ [x]) := by
        rw [← et]
        have e : w = w.take (j + 1) ++ w.drop (j + 1) := (List.take_append_drop _ _).symm
        rw [e] at hw
        exact hw.left
      exact ((rd_app _ _).mp hr).2.2 y x h1 rfl
    · rcases I.inner v hv2 h0 hvh with r | ⟨y, z, p, q, r1, r2, r3⟩
      · left
        rw [rt_snoc]
        exact r
      · exact .inr ⟨y, z, p, q, r1, has_sub sub r2, has_sub sub r3⟩
  · rw [et]
    exact (P.path.mono sub).snoc hin
/-- the petal is closed: its end and 0 are one -/
theorem PI.close (P : PI ws don pre E par w w.length h) (hg : Gen ws w) : FI ws (don ++ [w]) pre E
    (if rt par h = 0 then par else if rt par 0 < rt par h then par.set (rt par h) (some (rt par 0)) else par.set (rt par 0) (some (rt par h))) 0 := by
  have I := P.fi
  have hpos : 0 < pre.length := (List.getElem?_eq_some_iff.mp I.zero).1
  have r0 : rt par 0 = 0 := Nat.le_zero.mp (rt_le 0)
  have hpath := P.path
  rw [List.take_length] at hpath
  by_cases e : rt par h = 0
  · rw [if_pos e]
    refine ⟨I.len, I.low, I.gen, I.zero, I.sm, I.lt, I.edge, fun u hu => ?_, fun v hv h0 _ => ?_⟩
    · rcases List.mem_append.mp hu with q | q
      · exact I.loops u q
      · have e2 : u = w := by simpa using q
        subst e2
        exact ⟨h, hpath, e⟩
    · by_cases hvh : v = h
      · subst hvh
        exact .inl e
      · exact I.inner v hv h0 hvh
  · rw [if_neg e]
    have hne : rt par h ≠ rt par 0 := by rw [r0]; exact e
    have hg' : Gen ws (at0 pre h ++ inv (at0 pre 0)) := by
      rw [P.here, at0_of I.zero, List.take_length]
      have e2 : w ++ inv [] = w := by simp [inv]
      rw [e2]
      exact hg
    have M := I.merge P.lt hpos hg' hne
    have hm := rt_merge I.low (I.rootAt P.lt) (I.rootAt hpos) hne
    dsimp only at hm
    generalize (if rt par 0 < rt par h then par.set (rt par h) (some (rt par 0)) else par.set (rt par 0) (some (rt par h))) = par' at M hm
    have r0' : rt par' 0 = 0 := Nat.le_zero.mp (rt_le 0)
    have eh : rt par' h = 0 := by rw [hm.1, r0']
    refine ⟨M.len, M.low, M.gen, M.zero, M.sm, M.lt, M.edge, fun u hu => ?_, fun v hv h0 _ => ?_⟩
    · rcases List.mem_append.mp hu with q | q
      · exact M.loops u q
      · have e2 : u = w := by simpa using q
        subst e2
        exact ⟨h, hpath, eh⟩
    · by_cases hvh : v = h
      · subst hvh
        exact .inl eh
      · exact M.inner v hv h0 hvh
end
/-- all is folded: what the folding leaves -/
theorem FI.done {ws : List Word} {pre : List Word} {E : List Edge} {par : List (Option Nat)} (I : FI ws (ws.map red) pre E par 0)
    (hall : ∀ a b l c d, (a, l, b) ∈ E → (c, l, d) ∈ E → (rt par a = rt par c ↔ rt par b = rt par d)) {E' : List Edge} (hE : E' = E.map fun e => (rt par e.1, e.2.1, rt par e.2.2)) :
    Smalls E' ∧ Folded E' ∧ Goes (stp E') ∧ ∀ w, walk (stp E') 0 (red w) = some 0 ↔ Gen ws w := by
  have mem : ∀ e, e ∈ E' ↔ ∃ a l b, (a, l, b) ∈ E ∧ e = (rt par a, l, rt par b) := fun e => by
    rw [hE, List.mem_map]
    constructor
    · rintro ⟨⟨a, l, b⟩, h1, h2⟩
      exact ⟨a, l, b, h1, h2.symm⟩
    · rintro ⟨a, l, b, h1, h2⟩
      exact ⟨(a, l, b), h1, h2.symm⟩
  have fold : Folded E' := fun e he f hf hl => by
    obtain ⟨a, l, b, h1, h2⟩ := (mem e).mp he
    obtain ⟨c, l', d, h3, h4⟩ := (mem f).mp hf
    subst h2 h4
    have e2 : l = l' := hl
    subst e2
    exact hall a b l c d h1 h3
  have N : Named ws E (rt par) (at0 pre) E' := {
    sm := I.sm
    mem := mem
    f0 := Nat.le_zero.mp (rt_le 0)
    pre0 := at0_of I.zero
    edge := fun a l b h => ⟨I.edge a l b h, I.gen_rt a, I.gen_rt b⟩
    loops := fun w hw => I.loops (red w) (List.mem_map.mpr ⟨w, hw, rfl⟩)
    fold := fold }
  refine ⟨N.smalls, fold, fun v x u hv h => ?_, N.lang⟩
  -- v is a root, not 0
  have h1 := has_edg.mp ((stp_iff fold).mp h)
  obtain ⟨a, l, b, h2, h3⟩ := (mem _).mp h1
  have hlt := I.lt _ h2
  have hv2 : rt par v = v ∧ v < pre.length := by
    have h5 : v = rt par a ∨ v = rt par b := by
      unfold edg at h3
      split at h3
      · injection h3 with e1 e2
        exact .inl e1
      · injection h3 with e1 e2
        injection e2 with e2 e3
        exact .inr e3
    rcases h5 with e | e
    · have := rt_le (par := par) a
      rw [e]
      refine ⟨rt_rt I.low _, ?_⟩
      dsimp only at hlt
      omega
    · have := rt_le (par := par) b
      rw [e]
      refine ⟨rt_rt I.low _, ?_⟩
      dsimp only at hlt
      omega
  rcases I.inner v hv2.2 hv hv with r | ⟨y, z, p, q, r1, r2, r3⟩
  · rw [hv2.1] at r
    exact absurd r hv
  · have up : ∀ y p, Has E v y p → stp E' v y = some (rt par p) := fun y p hy => by
      have := N.path (Pth.cons hy (Pth.nil p))
      rw [hv2.1] at this
      exact walk_one.mp this
    by_cases hyx : y = x
    · exact ⟨z, _, fun e => r1 (hyx.trans e.symm), up z q r3⟩
    · exact ⟨y, _, hyx, up y p r2⟩
end Fw
end

section
set_option autoImplicit false
set_option linter.all false
namespace Fw

/-! ## other names for the places -/
section
variable {E E4 : List Edge} {qs : List Nat} {b : Nat} {L : Word → Prop}
theorem relabel (hs : Smalls E) (hf : Folded E) (hn : qs.Nodup) (h0 : qs[0]? = some b) (hin : ∀ e ∈ E, e.1 ∈ qs ∧ e.2.2 ∈ qs) (h4 : E4 = E.map fun e => ((pos qs e.1).getD 0, e.2.1, (pos qs e.2.2).getD 0))
    (hg : ∀ v x u, v ≠ b → stp E v x = some u → ∃ y k, y ≠ x ∧ stp E v y = some k) (hL : ∀ w, walk (stp E) b (red w) = some b ↔ L w) :
    Smalls E4 ∧ Folded E4 ∧ Goes (stp E4) ∧ ∀ w, walk (stp E4) 0 (red w) = some 0 ↔ L w := by
  have hpos : ∀ {v}, v ∈ qs → ∃ i, pos qs v = some i ∧ qs[i]? = some v := fun {v} hv => by
    obtain ⟨i, hi⟩ := pos_some hv
    exact ⟨i, hi, pos_at hi⟩
  have m : Numd E qs E4 := ⟨fun i l j => by
    rw [h4, List.mem_map]
    constructor
    · rintro ⟨⟨a, l', c⟩, h1, h2⟩
      injection h2 with e1 e2
      injection e2 with e2 e3
      obtain ⟨ia, p1, p2⟩ := hpos (hin _ h1).1
      obtain ⟨ic, p3, p4⟩ := hpos (hin _ h1).2
      dsimp only at e1 e2 e3 p1 p2 p3 p4
      rw [p1] at e1
      rw [p3] at e3
      have e1' : ia = i := e1
      have e3' : ic = j := e3
      subst e1' e2 e3'
      exact ⟨a, c, p2, p4, h1⟩
    · rintro ⟨a, c, h1, h2, h3⟩
      refine ⟨(a, l, c), h3, ?_⟩
      show ((pos qs a).getD 0, l, (pos qs c).getD 0) = (i, l, j)
      rw [pos_of hn h1, pos_of hn h2]
      rfl⟩
  have hf4 := m.folded hn hf
  have sE : ∀ {v x u}, stp E v x = some u → v ∈ qs ∧ u ∈ qs := fun {v x u} h => by
    have h1 := has_edg.mp ((stp_iff hf).mp h)
    have h2 := hin _ h1
    have a1 := (edg_ends v x u (z := v)).mpr (.inl rfl)
    have a2 := (edg_ends v x u (z := u)).mpr (.inr rfl)
    constructor
    · rcases a1 with e | e
      · rw [e]; exact h2.1
      · rw [e]; exact h2.2
    · rcases a2 with e | e
      · rw [e]; exact h2.1
      · rw [e]; exact h2.2
  have wk : ∀ (w : Word) (i a j : Nat), qs[i]? = some a → walk (stp E4) i w = some j → ∃ c, qs[j]? = some c ∧ walk (stp E) a w = some c := by
    intro w
    induction w with
    | nil =>
      intro i a j h h2
      have e := Option.some.inj h2
      subst e
      exact ⟨a, h, rfl⟩
    | cons x r ih =>
      intro i a j h h2
      obtain ⟨u, h3, h4⟩ := walk_cons_some h2
      obtain ⟨a', c, h5, h6, h7⟩ := (m.stp hn hf).mp h3
      have e : a = a' := Option.some.inj (h.symm.trans h5)
      subst e
      obtain ⟨d, h8, h9⟩ := ih u c j h6 h4
      exact ⟨d, h8, by rw [walk_cons h7]; exact h9⟩
  have kw : ∀ (w : Word) (i a c : Nat), qs[i]? = some a → walk (stp E) a w = some c → ∃ j, qs[j]? = some c ∧ walk (stp E4) i w = some j := by
    intro w
    induction w with
    | nil =>
      intro i a c h h2
      have e := Option.some.inj h2
      subst e
      exact ⟨i, h, rfl⟩
    | cons x r ih =>
      intro i a c h h2
      obtain ⟨u, h3, h4⟩ := walk_cons_some h2
      obtain ⟨i2, _, h7⟩ := hpos (sE h3).2
      obtain ⟨j, h8, h9⟩ := ih i2 u c h7 h4
      exact ⟨j, h8, by rw [walk_cons ((m.stp hn hf).mpr ⟨a, u, h, h7, h3⟩)]; exact h9⟩
  refine ⟨m.smalls hs, hf4, fun v x u hv h => ?_, fun w => ?_⟩
  · obtain ⟨a, c, h1, h2, h3⟩ := (m.stp hn hf).mp h
    have ha : a ≠ b := fun e => by
      subst e
      exact hv (nd_at hn h1 h0)
    obtain ⟨y, d, h5, h6⟩ := hg a x c ha h3
    obtain ⟨i2, _, h7⟩ := hpos (sE h6).2
    exact ⟨y, i2, h5, (m.stp hn hf).mpr ⟨a, d, h1, h7, h6⟩⟩
  · rw [← hL]
    constructor
    · intro h
      obtain ⟨c, h1, h2⟩ := wk _ 0 b 0 h0 h
      have e : b = c := Option.some.inj (h0.symm.trans h1)
      rw [← e] at h2
      exact h2
    · intro h
      obtain ⟨j, h1, h2⟩ := kw _ 0 b b h0 h
      have e := nd_at hn h0 h1
      rw [← e] at h2
      exact h2
end

/-! ## moved: attached, trimmed, renumbered -/
theorem moved_lang {n : Nat} {es : List Edge} {L : Word → Prop} (c : Canon n es L) (g : Grp L) {w : Word} {E E2 E3 : List Edge} {cnt here : Nat} (A : Att n es w E cnt here)
    (hp : E2.Perm E) (T : Trim here E2 E3) (hk : kept here E3 = E3) :
    Smalls E3 ∧ Folded E3 ∧ (∀ v x u, v ≠ here → stp E3 v x = some u → ∃ y k, y ≠ x ∧ stp E3 v y = some k) ∧ ∀ u, walk (stp E3) here (red u) = some here ↔ Cj L w u := by
  have hf2 : Folded E2 := A.fold.sub fun e he => hp.mem_iff.mp he
  have hs2 : Smalls E2 := fun e he => A.sm e (hp.mem_iff.mp he)
  have hn2 : E2.Nodup := hp.nodup_iff.mpr A.nd
  have e2 : stp E2 = stp E := stp_same hf2 A.fold fun e => hp.mem_iff
  have hf3 : Folded E3 := hf2.sub T.sub
  have hs3 : Smalls E3 := fun e he => hs2 e (T.sub e he)
  have hn3 := T.nd hn2
  refine ⟨hs3, hf3, fun v x u hv h => kept_goes hk hn3 hf3 hs3 hv h, fun u => ?_⟩
  rw [← A.lang c g u, ← e2]
  constructor
  · intro h
    exact walk_mono (fun v z k q => stp_sub hf3 hf2 T.sub q) h
  · intro h
    exact T.keep hf2 hs2 hn2 _ (red_rd u) h

/-! ## the law's own folding -/
structure LG (ws don pre : List Word) (E : List Edge) : Prop where
  zero : pre[0]? = some []
  sm : Smalls E
  lt : ∀ e ∈ E, e.1 < pre.length ∧ e.2.2 < pre.length
  edge : ∀ a l b, (a, l, b) ∈ E → Gen ws (at0 pre a ++ [l] ++ inv (at0 pre b))
  loops : ∀ w ∈ don, Pth E 0 w 0
structure LP (ws don pre : List Word) (E : List Edge) (w : Word) (j h : Nat) : Prop where
  lg : LG ws don pre E
  lt : h < pre.length
  here : Gen ws (w.take j ++ inv (at0 pre h))
  path : Pth E 0 (w.take j) h
section
variable {ws don pre : List Word} {E : List Edge} {w : Word} {j h : Nat}
theorem LG.start (ws : List Word) : LG ws [] [[]] [] where
  zero := rfl
  sm := fun e he => by simp at he
  lt := fun e he => by simp at he
  edge := fun a l b he => by simp at he
  loops := fun w hw => by simp at hw
theorem LG.pos (I : LG ws don pre E) : 0 < pre.length := (List.getElem?_eq_some_iff.mp I.zero).1
theorem LP.start (I : LG ws don pre E) (w : Word) : LP ws don pre E w 0 0 where
  lg := I
  lt := I.pos
  here := by
    rw [List.take_zero, at0_of I.zero]
    exact Gen.one
  path := by
    rw [List.take_zero]
    exact .nil 0
theorem edg_small {h : Nat} {x : Let} {u : Nat} : (edg h x u).2.1.small = true := by
  unfold edg
  split
  · rename_i hx
    exact hx
  · rename_i hx
    show x.flip.small = true
    rw [Let.small_flip]
    simpa using hx
theorem LP.edge (P : LP ws don pre E w j h) {x : Let} {u : Nat} (hu : u < pre.length) (hg : Gen ws (at0 pre h ++ [x] ++ inv (at0 pre u))) : LG ws don pre (E ++ [edg h x u]) where
  zero := P.lg.zero
  sm := fun e he => by
    rcases List.mem_append.mp he with q | q
    · exact P.lg.sm e q
    · have e2 : e = edg h x u := by simpa using q
      subst e2
      exact edg_small
  lt := fun e he => by
    rcases List.mem_append.mp he with q | q
    · exact P.lg.lt e q
    · have e2 : e = edg h x u := by simpa using q
      subst e2
      have := P.lt
      unfold edg
      split
      · exact ⟨this, hu⟩
      · exact ⟨hu, this⟩
  edge := fun a l b he => by
    rcases List.mem_append.mp he with q | q
    · exact P.lg.edge a l b q
    · have e2 : (a, l, b) = edg h x u := by simpa using q
      unfold edg at e2
      split at e2
      · injection e2 with e1 e2
        injection e2 with e2 e3
        subst e1 e2 e3
        exact hg
      · injection e2 with e1 e2
        injection e2 with e2 e3
        subst e1 e2 e3
        exact gen_step hg
  loops := fun v hv => (P.lg.loops v hv).mono fun e he => List.mem_append_left _ he
theorem LG.snoc (I : LG ws don pre E) (u : Word) : LG ws don (pre ++ [u]) E where
  zero := by
    rw [List.getElem?_append_left I.pos]
    exact I.zero
  sm := I.sm
  lt := fun e he => by
    have := I.lt e he
    simp
    omega
  edge := fun a l b he => by
    have hq : a < pre.length ∧ b < pre.length := I.lt _ he
    rw [at0_snoc hq.1, at0_snoc hq.2]
    exact I.edge a l b he
  loops := I.loops
theorem LP.snoc (P : LP ws don pre E w j h) (u : Word) : LP ws don (pre ++ [u]) E w j h where
  lg := P.lg.snoc u
  lt := by
    have := P.lt
    simp
    omega
  here := by
    rw [at0_snoc P.lt]
    exact P.here
  path := P.path
theorem gen_cut {u v x y : Word} (h1 : Gen ws (u ++ inv v)) (h2 : Gen ws (u ++ x ++ inv y)) : Gen ws (v ++ x ++ inv y) := by
  refine Gen.eqv ?_ (Gen.mul (gen_back h1) h2)
  have e : v ++ inv u ++ (u ++ x ++ inv y) = v ++ ((inv u ++ u) ++ (x ++ inv y)) := by simp
  have e2 : v ++ x ++ inv y = v ++ ([] ++ (x ++ inv y)) := by simp
  rw [e, e2]
  exact Eqv.right _ ((eqv_cancel' _).left _)
/-- a letter that is not the last one -/
theorem LP.more (P : LP ws don pre E w j h) {x : Let} (hx : w[j]? = some x) : LP ws don (pre ++ [w.take (j + 1)]) (E ++ [edg h x pre.length]) w (j + 1) pre.length := by
  have et : w.take (j + 1) = w.take j ++ [x] := by
    rw [List.take_add_one, hx]
    rfl
  have P2 := P.snoc (w.take (j + 1))
  have hg : Gen ws (at0 (pre ++ [w.take (j + 1)]) h ++ [x] ++ inv (at0 (pre ++ [w.take (j + 1)]) pre.length)) := by
    rw [at0_new]
    refine gen_cut P2.here ?_
    rw [← et]
    exact gen_same _
  refine ⟨P2.edge (by simp) hg, by simp, ?_, ?_⟩
  · rw [at0_new]
    exact gen_same _
  · have hin : Has (E ++ [edg h x pre.length]) h x pre.length := has_edg.mpr (List.mem_append_right _ (by simp))
    have := (P.path.mono fun e he => List.mem_append_left [edg h x pre.length] he).snoc hin
    rw [← et] at this
    exact this
/-- the last letter -/
theorem LP.last (P : LP ws don pre E w j h) {x : Let} (hx : w[j]? = some x) (hl : j + 1 = w.length) (hg : Gen ws w) : LP ws don pre (E ++ [edg h x 0]) w (j + 1) 0 := by
  have et : w.take (j + 1) = w.take j ++ [x] := by
    rw [List.take_add_one, hx]
    rfl
  have e0 : at0 pre 0 = [] := at0_of P.lg.zero
  have ew : w.take (j + 1) = w := by
    rw [hl, List.take_length]
  have hg2 : Gen ws (w ++ inv []) := by
    have e : w ++ inv [] = w := by simp [inv]
    rw [e]
    exact hg
  refine ⟨P.edge P.lg.pos ?_, P.lg.pos, ?_, ?_⟩
  · rw [e0]
    refine gen_cut P.here ?_
    rw [← et, ew]
    exact hg2
  · rw [e0, ew]
    exact hg2
  · have hin : Has (E ++ [edg h x 0]) h x 0 := has_edg.mpr (List.mem_append_right _ (by simp))
    have := (P.path.mono fun e he => List.mem_append_left [edg h x 0] he).snoc hin
    rw [← et] at this
    exact this
theorem LP.close (P : LP ws don pre E w w.length 0) : LG ws (don ++ [w]) pre E where
  zero := P.lg.zero
  sm := P.lg.sm
  lt := P.lg.lt
  edge := P.lg.edge
  loops := fun v hv => by
    rcases List.mem_append.mp hv with q | q
    · exact P.lg.loops v q
    · have e : v = w := by simpa using q
      subst e
      have := P.path
      rw [List.take_length] at this
      exact this
end
/-! names of the points -/
def nmd (names : List Nat) (p : Nat) : Nat := names.getD p 0
theorem nmd_of {names : List Nat} {p q : Nat} (h : names[p]? = some q) : nmd names p = q := by
  unfold nmd
  rw [List.getD_eq_getElem?_getD, h]
  rfl
theorem nmd_at {names : List Nat} {p : Nat} (h : p < names.length) : names[p]? = some (nmd names p) := by
  have h1 := List.getElem?_eq_getElem h
  rw [h1, nmd_of h1]
structure NI (ws pre : List Word) (names : List Nat) : Prop where
  len : names.length = pre.length
  lt : ∀ p, p < pre.length → nmd names p < pre.length
  zero : nmd names 0 = 0
  gen : ∀ p, p < pre.length → Gen ws (at0 pre p ++ inv (at0 pre (nmd names p)))
/-- the names clash at no two edges -/
def Calm (E : List Edge) (names : List Nat) : Prop := ∀ e ∈ E, ∀ f ∈ E, e.2.1 = f.2.1 → (nmd names e.1 = nmd names f.1 ↔ nmd names e.2.2 = nmd names f.2.2)
/-- two names that ought to be one -/
def Clash (E : List Edge) (names : List Nat) (x y : Nat) : Prop := x ≠ y ∧ ∃ e ∈ E, ∃ f ∈ E, e.2.1 = f.2.1 ∧
  ((nmd names e.1 = nmd names f.1 ∧ x = nmd names e.2.2 ∧ y = nmd names f.2.2) ∨ (nmd names e.2.2 = nmd names f.2.2 ∧ x = nmd names e.1 ∧ y = nmd names f.1))
def joinN (x y : Nat) (names : List Nat) : List Nat := names.map fun q => if q = max x y then min x y else q
def dcnt (n : Nat) (names : List Nat) : Nat := ((List.range n).filter fun v => decide (v ∈ names)).length
section
variable {ws don pre : List Word} {E : List Edge} {names : List Nat} {x y : Nat}
theorem nmd_range (n p : Nat) (h : p < n) : nmd (List.range n) p = p := nmd_of (by simp [h])
theorem NI.start (h0 : 0 < pre.length) : NI ws pre (List.range pre.length) where
  len := by simp
  lt := fun p hp => by rw [nmd_range _ _ hp]; exact hp
  zero := nmd_range _ _ h0
  gen := fun p hp => by
    rw [nmd_range _ _ hp]
    exact gen_same _
theorem nmd_join (hl : names.length = pre.length) {p : Nat} (hp : p < pre.length) : nmd (joinN x y names) p = if nmd names p = max x y then min x y else nmd names p := by
  refine nmd_of ?_
  unfold joinN
  rw [List.getElem?_map, nmd_at (by omega)]
  rfl
theorem Clash.gen (I : LG ws don pre E) (N : NI ws pre names) (C : Clash E names x y) : Gen ws (at0 pre x ++ inv (at0 pre y)) := by
  obtain ⟨_, ⟨a, l, b⟩, he, ⟨c, l', d⟩, hf, hl, h⟩ := C
  have e : l = l' := hl
  subst e
  have la := I.lt _ he
  have lc := I.lt _ hf
  dsimp only at la lc h
  have ge := I.edge _ _ _ he
  have gf := I.edge _ _ _ hf
  have na := N.gen a la.1
  have nb := N.gen b la.2
  have nc := N.gen c lc.1
  have nd := N.gen d lc.2
  rcases h with ⟨h1, h2, h3⟩ | ⟨h1, h2, h3⟩
  · subst h2 h3
    rw [h1] at na
    -- a and c are one, so b and d are
    have g1 : Gen ws (at0 pre a ++ inv (at0 pre c)) := gen_mid na (gen_back nc)
    have g2 := gen_cut (gen_back g1) gf
    have g3 : Gen ws (at0 pre b ++ inv (at0 pre d)) := by
      refine Gen.eqv ?_ (Gen.mul (gen_step ge) g2)
      have e : at0 pre b ++ [l.flip] ++ inv (at0 pre a) ++ (at0 pre a ++ [l] ++ inv (at0 pre d)) = (at0 pre b ++ [l.flip]) ++ ((inv (at0 pre a) ++ at0 pre a) ++ ([l] ++ inv (at0 pre d))) := by simp
      rw [e]
      have e2 : Eqv ((at0 pre b ++ [l.flip]) ++ ((inv (at0 pre a) ++ at0 pre a) ++ ([l] ++ inv (at0 pre d)))) ((at0 pre b ++ [l.flip]) ++ ([] ++ ([l] ++ inv (at0 pre d)))) := Eqv.right _ ((eqv_cancel' _).left _)
      refine e2.trans ?_
      have e3 : (at0 pre b ++ [l.flip]) ++ ([] ++ ([l] ++ inv (at0 pre d))) = at0 pre b ++ ([l.flip, l] ++ inv (at0 pre d)) := by simp
      rw [e3]
      have e4 : Eqv [l.flip, l] [] := by
        have := eqv_pair l.flip
        rw [Let.flip_flip] at this
        exact this
      exact Eqv.right _ (e4.left _)
    exact gen_mid (gen_mid (gen_back nb) g3) nd
  · subst h2 h3
    rw [h1] at nb
    have g1 : Gen ws (at0 pre b ++ inv (at0 pre d)) := gen_mid nb (gen_back nd)
    have g2 := gen_cut (gen_back g1) (gen_step gf)
    have g3 : Gen ws (at0 pre a ++ inv (at0 pre c)) := by
      refine Gen.eqv ?_ (Gen.mul ge g2)
      have e : at0 pre a ++ [l] ++ inv (at0 pre b) ++ (at0 pre b ++ [l.flip] ++ inv (at0 pre c)) = (at0 pre a ++ [l]) ++ ((inv (at0 pre b) ++ at0 pre b) ++ ([l.flip] ++ inv (at0 pre c))) := by simp
      rw [e]
      have e2 : Eqv ((at0 pre a ++ [l]) ++ ((inv (at0 pre b) ++ at0 pre b) ++ ([l.flip] ++ inv (at0 pre c)))) ((at0 pre a ++ [l]) ++ ([] ++ ([l.flip] ++ inv (at0 pre c)))) := Eqv.right _ ((eqv_cancel' _).left _)
      refine e2.trans ?_
      have e3 : (at0 pre a ++ [l]) ++ ([] ++ ([l.flip] ++ inv (at0 pre c))) = at0 pre a ++ ([l, l.flip] ++ inv (at0 pre c)) := by simp
      rw [e3]
      exact Eqv.right _ ((eqv_pair l).left _)
    exact gen_mid (gen_mid (gen_back na) g3) nc
theorem Clash.mem (I : LG ws don pre E) (N : NI ws pre names) (C : Clash E names x y) : x ∈ names ∧ y ∈ names ∧ x < pre.length ∧ y < pre.length := by
  obtain ⟨_, e, he, f, hf, hl, h⟩ := C
  have la := I.lt _ he
  have lc := I.lt _ hf
  have mm : ∀ p, p < pre.length → nmd names p ∈ names := fun p hp => List.mem_of_getElem? (nmd_at (by have := N.len; omega))
  rcases h with ⟨h1, h2, h3⟩ | ⟨h1, h2, h3⟩
  · rw [h2, h3]
    exact ⟨mm _ la.2, mm _ lc.2, N.lt _ la.2, N.lt _ lc.2⟩
  · rw [h2, h3]
    exact ⟨mm _ la.1, mm _ lc.1, N.lt _ la.1, N.lt _ lc.1⟩
theorem NI.join (I : LG ws don pre E) (N : NI ws pre names) (C : Clash E names x y) : NI ws pre (joinN x y names) := by
  obtain ⟨_, _, hx, hy⟩ := C.mem I N
  have hne := C.1
  have g := C.gen I N
  have gm : Gen ws (at0 pre (max x y) ++ inv (at0 pre (min x y))) := by
    rcases Nat.le_total x y with h | h
    · rw [Nat.max_eq_right h, Nat.min_eq_left h]
      exact gen_back g
    · rw [Nat.max_eq_left h, Nat.min_eq_right h]
      exact g
  refine ⟨by unfold joinN; simpa using N.len, fun p hp => ?_, ?_, fun p hp => ?_⟩
  · rw [nmd_join N.len hp]
    split
    · omega
    · exact N.lt p hp
  · rw [nmd_join N.len I.pos, N.zero, if_neg (by omega)]
  · rw [nmd_join N.len hp]
    split
    · rename_i h
      have h2 := N.gen p hp
      rw [h] at h2
      exact gen_mid h2 gm
    · exact N.gen p hp
theorem filter_lt {α : Type} (p q : α → Bool) : ∀ (l : List α), (∀ a ∈ l, p a = true → q a = true) → (∃ a ∈ l, p a = false ∧ q a = true) → (l.filter p).length < (l.filter q).length
  | [], _, h => by
    obtain ⟨a, h1, _⟩ := h
    simp at h1
  | a :: r, hs, h => by
    have le : ∀ (r : List α), (∀ a ∈ r, p a = true → q a = true) → (r.filter p).length ≤ (r.filter q).length := by
      intro r
      induction r with
      | nil => intro _; exact Nat.le_refl _
      | cons b t ih =>
        intro hs
        have h1 := ih fun a ha => hs a (List.mem_cons_of_mem _ ha)
        have h2 := hs b List.mem_cons_self
        rw [List.filter_cons, List.filter_cons]
        cases e : p b with
        | true =>
          rw [if_pos rfl, if_pos (h2 e)]
          simpa using h1
        | false =>
          rw [if_neg (by decide)]
          split
          · simp
            omega
          · exact h1
    have h2 := hs a List.mem_cons_self
    have hs' : ∀ b ∈ r, p b = true → q b = true := fun b hb => hs b (List.mem_cons_of_mem _ hb)
    obtain ⟨b, hb, h3, h4⟩ := h
    rw [List.filter_cons, List.filter_cons]
    rcases List.mem_cons.mp hb with e | e
    · subst e
      rw [h3, h4, if_neg (by decide), if_pos rfl]
      have := le r hs'
      simp
      omega
    · have ih := filter_lt p q r hs' ⟨b, e, h3, h4⟩
      cases e2 : p a with
      | true =>
        rw [if_pos rfl, if_pos (h2 e2)]
        simpa using ih
      | false =>
        rw [if_neg (by decide)]
        split
        · simp
          omega
        · exact ih
theorem dcnt_join (I : LG ws don pre E) (N : NI ws pre names) (C : Clash E names x y) : dcnt pre.length (joinN x y names) < dcnt pre.length names := by
  obtain ⟨mx, my, hx, hy⟩ := C.mem I N
  have hne := C.1
  unfold dcnt
  refine filter_lt _ _ _ (fun v hv h => ?_) ⟨max x y, List.mem_range.mpr (by omega), ?_, ?_⟩
  · have h1 : v ∈ joinN x y names := of_decide_eq_true h
    refine decide_eq_true ?_
    unfold joinN at h1
    obtain ⟨q, h2, h3⟩ := List.mem_map.mp h1
    split at h3
    · rw [← h3]
      rcases Nat.le_total x y with h | h
      · rw [Nat.min_eq_left h]; exact mx
      · rw [Nat.min_eq_right h]; exact my
    · rw [← h3]; exact h2
  · refine decide_eq_false fun h => ?_
    unfold joinN at h
    obtain ⟨q, h2, h3⟩ := List.mem_map.mp h
    split at h3
    · omega
    · rename_i h4
      exact h4 h3
  · refine decide_eq_true ?_
    rcases Nat.le_total x y with h | h
    · rw [Nat.max_eq_right h]; exact my
    · rw [Nat.max_eq_left h]; exact mx
theorem dcnt_le (n : Nat) (names : List Nat) : dcnt n names ≤ n := by
  have := List.length_filter_le (fun v => decide (v ∈ names)) (List.range n)
  simpa [dcnt] using this
theorem dcnt_pos (I : LG ws don pre E) (N : NI ws pre names) : 0 < dcnt pre.length names := by
  unfold dcnt
  refine List.length_pos_of_mem (a := 0) (List.mem_filter.mpr ⟨List.mem_range.mpr I.pos, decide_eq_true ?_⟩)
  have := nmd_at (names := names) (p := 0) (by have := N.len; have := I.pos; omega)
  rw [N.zero] at this
  exact List.mem_of_getElem? this
end
/-- what the law's folding leaves -/
theorem LG.done {ws pre : List Word} {E : List Edge} {names : List Nat} (I : LG ws (ws.map red) pre E) (N : NI ws pre names) (hc : Calm E names) {E' : List Edge}
    (hE : ∀ e, e ∈ E' ↔ e ∈ E.map fun e => (nmd names e.1, e.2.1, nmd names e.2.2)) : Smalls E' ∧ Folded E' ∧ ∀ w, walk (stp E') 0 (red w) = some 0 ↔ Gen ws w := by
  have mem : ∀ e, e ∈ E' ↔ ∃ a l b, (a, l, b) ∈ E ∧ e = (nmd names a, l, nmd names b) := fun e => by
    rw [hE, List.mem_map]
    constructor
    · rintro ⟨⟨a, l, b⟩, h1, h2⟩
      exact ⟨a, l, b, h1, h2.symm⟩
    · rintro ⟨a, l, b, h1, h2⟩
      exact ⟨(a, l, b), h1, h2.symm⟩
  have fold : Folded E' := fun e he f hf hl => by
    obtain ⟨a, l, b, h1, h2⟩ := (mem e).mp he
    obtain ⟨c, l', d, h3, h4⟩ := (mem f).mp hf
    subst h2 h4
    exact hc _ h1 _ h3 hl
  have M : Named ws E (nmd names) (at0 pre) E' := {
    sm := I.sm
    mem := mem
    f0 := N.zero
    pre0 := at0_of I.zero
    edge := fun a l b h => ⟨I.edge a l b h, N.gen a (I.lt _ h).1, N.gen b (I.lt _ h).2⟩
    loops := fun w hw => ⟨0, I.loops (red w) (List.mem_map.mpr ⟨w, hw, rfl⟩), N.zero⟩
    fold := fold }
  exact ⟨M.smalls, fold, M.lang⟩
end Fw
end

section
set_option Elab.async false
set_option linter.all false
set_option maxRecDepth 100000
set_option maxHeartbeats 2000000
namespace FwR
open PySem PySem.Spec PyProof.Rows L2

section
variable {X : Cx}
/-! ### a < b, data at any depth -/
def rLtD (K : PySem.W.Frag) : R2 := fun x y H Q => ∃ d e, Dp K H x d ∧ Dp K H y e ∧ PySem.W.alike d e = true ∧ d ≠ .none ∧ d.depth ≤ 60 ∧ Q (.bl (PySem.W.dataLt d e)) H
theorem op_ltD (hu : X.A.units + 64 < cLine) : OpR X (compareOp .Lt) (rLtD X.K) := by
  intro pins s σ H x y v u Q I rx ry h
  obtain ⟨d, e, hd, he, ha, hn, hl, q⟩ := h
  obtain ⟨as, r1⟩ := Dp.reads I d x v hd rx
  obtain ⟨bs, r2⟩ := Dp.reads I e y u he ry
  exact PySem.W.lt_data r1 r2 ha hn (by omega) ⟨.bl _, H, I, rfl, q⟩

/-! ### s.swapcase() -/
theorem mt_swapcase : MtR X "str.swapcase" (fun x xs H Q => ∃ a, x = .str a ∧ xs = [] ∧ a.length ≤ 5592405 ∧ Q (.str (Txt.swapcase a)) H) :=
  mt0 (C := fun a => a.length ≤ 5592405) (g := fun a => .str (Txt.swapcase a)) fun a _ s _ hc h =>
    PySem.SC.swapcase (PyProof.Rows.short24 (by have h1 : a.length ≤ 5592405 := hc; have := PyProof.Rows.len_swapcase a; omega)) (h _ (s.toks + 1) ⟨_, rfl⟩)

/-! ### s[::-1] -/
def revS (z : Str) : Str := ⟨z.cps.toList.reverse.toArray⟩
theorem sliceBy_rev (z : Str) (u : Tok) : Txt.sliceBy z none none (-1, u) = revS z := by
  have h := PyProof.Rows.step_rev_list z u
  have h2 : (Txt.sliceBy z none none (-1, u)).cps.toList = z.cps.toList.reverse := by
    rw [h]
    apply List.ext_getElem?
    intro i
    rw [List.getElem?_map]
    by_cases hi : i < z.length
    · have hi2 : i < z.cps.toList.length := by rw [Array.length_toList]; exact hi
      rw [List.getElem?_range hi, List.getElem?_reverse hi2, Array.length_toList]
      have h3 : z.cps.size - 1 - i < z.cps.size := by
        have : i < z.cps.size := hi
        omega
      rw [List.getElem?_eq_getElem (by rw [Array.length_toList]; exact h3)]
      show some (z.cps.getD (z.cps.size - 1 - i) 0) = _
      simp [Array.getD, h3]
    · rw [List.getElem?_eq_none (by simp; omega), List.getElem?_eq_none (by rw [List.length_reverse, Array.length_toList]; exact Nat.not_lt.mp hi)]
      rfl
  have h3 : (Txt.sliceBy z none none (-1, u)).cps = z.cps.toList.reverse.toArray := by
    rw [← h2]
  cases q : Txt.sliceBy z none none (-1, u) with
  | mk c =>
    rw [q] at h3
    unfold revS
    rw [← h3]
/-- the slice [::-1] -/
theorem slice_back {pins : List (Addr × Obj)} {σ : L2.St} {H : Hp} {s : Shared} {k : Nat} {p1 p2 p3 : Pos} (I : L2.Inv X pins σ H s) :
    wpAny (model X.prog X.w) X.A (eval (.Slice none none (some (.UnaryOp .USub (.Constant (.int 1) k p1) p2)) p3) X.env) (fun u s' => ∃ c tk, u = .ref c ∧ L2.Inv X pins σ H s' ∧ s'.heap.get? c = some { cls := .type "slice", data := .fields #[.none, .none, .int (-1) tk] }) X.xe s := by
  have minus := (po_some (pe_un (pos := p2) un_neg (pe_int (X := X) (i := 1) (j := k) (pos := p1)))).run pins s σ H (fun o H' => o = some (-1) ∧ H' = H) I ⟨1, rfl, -1, rfl, rfl, rfl⟩
  refine wpAny_Slice ?_
  rw [evalPart_none]
  refine wpAny_pure (wpAny_pure (thn minus ?_))
  rintro v s1 ⟨_, _, I1, pv, rfl, rfl⟩
  cases pv
  exact ⟨_, _, rfl, I1.kept (t' := s1.toks) fun _ _ q => Heap.get?_push_of_some _ q, Heap.get?_push_size _ rfl⟩
def tRevS (te : TE) : TE := fun σ H Q => te σ H fun x H1 => ∃ z, x = .str z ∧ z.length ≤ sizeLine ∧ Q (.str (revS z)) H1
theorem pe_revS {e : Expr} {te : TE} {k : Nat} {p1 p2 p3 pos : Pos} (he : PE X e te) : PE X (.Subscript e (.Slice none none (some (.UnaryOp .USub (.Constant (.int 1) k p1) p2)) p3) pos) (tRevS te) :=
  ⟨fun pins s σ H Q I h => Subscript_ (thn (he.run pins s σ H _ I h) (by
    rintro _ s1 ⟨_, H1, I1, rz, z, rfl, hz, q⟩
    obtain ⟨t, rfl⟩ := rz
    refine thn (slice_back I1) ?_
    rintro _ s2 ⟨c, tk, rfl, I2, hs⟩
    refine tail_any (ops := [.str z t, .ref c]) (typeIs_str _ _ _) F.slot_str_getitem.lookup (wpAny_getItem_str_slice (l := none) (u := none) (st := some (-1, tk)) ⟨_, hs, rfl, rfl⟩ rfl (post_val_or_str ?_)) (by with_unfolding_all rfl)
    have fin : (revS z).length ≤ sizeLine ∧ ∀ (t' : Tok) (n : Nat), EP X pins σ Q (.str (revS z) t') { s2 with toks := n } :=
      ⟨Nat.le_trans (Nat.le_of_eq (by show z.cps.toList.reverse.toArray.size = _; simp; rfl)) hz, fun t' n => ⟨.str (revS z), H1, I2.tok n, ⟨t', rfl⟩, q⟩⟩
    rw [← sliceBy_rev z tk] at fin
    exact fin)) ⟩

/-! ### s * 2 -/
theorem op_mul2S : OpR X (binaryOp .Mult) (fun x y H Q => ∃ z, x = .str z ∧ y = .int 2 ∧ z.length ≤ 1000 ∧ Q (.str (z ++ z)) H) := by
  intro pins s σ H x y v u Q I rx ry h
  obtain ⟨z, rfl, rfl, hz, q⟩ := h
  obtain ⟨t, rfl⟩ := rx
  obtain ⟨t', rfl⟩ := ry
  have e2 : (⟨(List.replicate (2 : Int).toNat z.cps).foldl (· ++ ·) #[]⟩ : Str) = z ++ z := by
    show (⟨(#[] ++ z.cps) ++ z.cps⟩ : Str) = _
    rw [Array.empty_append]
    rfl
  have hlen : (z ++ z).length = z.length + z.length := by
    show (z.cps ++ z.cps).size = _
    rw [Array.size_append]
    rfl
  refine PySem.P.mul_str (by decide) (fun _ _ => ?_) (fun _ _ => ?_) ?_
  · have : ((2 ^ 63 - 1) / 2 : Int) = 4611686018427387903 := by decide
    rw [this]
    omega
  · show Builtin.Str.tooLong (z.length * (2 : Int).toNat) = false
    exact PyProof.Rows.short24 (by show z.length * 2 ≤ _; omega)
  · rw [if_neg (by decide)]
    by_cases c : ((2 : Int) == 1 || z.length == 0) = true
    · rw [if_pos c]
      have h0 : z.length = 0 := by
        rcases Bool.or_eq_true _ _ ▸ c with r | r
        · exact absurd r (by decide)
        · exact eq_of_beq r
      have ez : z ++ z = z := by
        have hs : z.cps.size = 0 := h0
        have : z.cps = #[] := Array.eq_empty_of_size_eq_zero hs
        show (⟨z.cps ++ z.cps⟩ : Str) = z
        cases z
        dsimp only at this
        subst this
        rfl
      rw [ez] at q
      exact ⟨.str z, H, I, ⟨_, rfl⟩, q⟩
    · rw [if_neg c, e2]
      refine ⟨?_, ⟨.str (z ++ z), H, I.tok _, ⟨_, rfl⟩, q⟩⟩
      rw [hlen, sizeLine_eq]
      omega

/-! ### sorted(xs) of tuples of ints and texts -/
def keyD : Key → PyData
  | .inl i => .int i
  | .inr x => .str x
def keysD (k : List Key) : PyData := .tuple (k.map keyD)
/-- the tuples at bs hold ks -/
def TupsAt (H : Hp) (bs : List Addr) (ks : List (List Key)) : Prop := Paired (fun b k => H b = some (.tup (k.map kV))) bs ks
def AlikeK (ks : List (List Key)) : Prop := ∀ k ∈ ks, k ≠ [] ∧ ∀ k' ∈ ks, PySem.W.alike (keysD k) (keysD k') = true
def sortK (ks : List (List Key)) : List (List Key) := ks.mergeSort (PySem.W.dataLe false keysD)
theorem keyD_depth (k : Key) : (keyD k).depth = 0 := by
  cases k <;> simp [keyD, PyData.depth]
theorem depthAll_keys : ∀ k : List Key, PyData.depthAll (k.map keyD) = 0
  | [] => by simp [PyData.depthAll]
  | a :: r => by simp [PyData.depthAll, depthAll_keys r, keyD_depth]
theorem keysD_depth (k : List Key) : (keysD k).depth ≤ 1 := by
  unfold keysD
  simp [PyData.depth, depthAll_keys]
theorem dp_key (K : PySem.W.Frag) (H : Hp) (k : Key) : Dp K H (kV k) (keyD k) := by
  cases k
  · exact .int _
  · exact .str _
theorem dp_keys (K : PySem.W.Frag) (H : Hp) : ∀ k : List Key, DpAll K H (k.map kV) (k.map keyD)
  | [] => .nil
  | a :: r => .cons (dp_key K H a) (dp_keys K H r)
theorem dp_tup {K : PySem.W.Frag} {H : Hp} {b : Addr} {k : List Key} (h : H b = some (.tup (k.map kV))) : Dp K H (.ref b) (keysD k) := .tup (SqT.of h) (dp_keys K H k)
def RK (H : Hp) (v : Value) (k : List Key) : Prop := ∃ b, v = .ref b ∧ H b = some (.tup (k.map kV))
theorem each_of_tups {H : Hp} : ∀ {bs : List Addr} {ks : List (List Key)}, TupsAt H bs ks → PySem.W.EachIs (RK H) (bs.map Value.ref) ks
  | _, _, .nil => .nil
  | _, _, .cons h t => .cons ⟨_, rfl, h⟩ (each_of_tups t)
theorem tups_of_each {H : Hp} : ∀ {vs : List Value} {ks : List (List Key)}, PySem.W.EachIs (RK H) vs ks → ∃ bs, vs = bs.map Value.ref ∧ TupsAt H bs ks
  | _, _, .nil => ⟨[], rfl, .nil⟩
  | _, _, .cons ⟨b, e, h⟩ t => by
    obtain ⟨bs, e2, h2⟩ := tups_of_each t
    exact ⟨b :: bs, by rw [e, e2]; rfl, .cons h h2⟩
theorem reads_each {pins : List (Addr × Obj)} {σ : L2.St} {H : Hp} {s : Shared} {h' : Heap} (I : L2.Inv X pins σ H s) (hk : ∀ b o, s.heap.get? b = some o → h'.get? b = some o) : ∀ {vs : List Value} {ks : List (List Key)}, PySem.W.EachIs (RK H) vs ks →
    PySem.W.EachIs (fun v k => ∃ as, Reads h' v (keysD k) as) vs ks
  | _, _, .nil => .nil
  | _, _, .cons ⟨b, e, h⟩ t => by
    refine .cons ?_ (reads_each I hk t)
    subst e
    obtain ⟨as, r⟩ := Dp.reads I (keysD _) (.ref b) (.ref b) (dp_tup h) rfl
    exact ⟨as, Reads.keeps hk r⟩
theorem alikeK_all {ks : List (List Key)} (h : AlikeK ks) : PySem.W.AllAlike (ks.map keysD) := fun d hd d' hd' => by
  obtain ⟨k, hk, e⟩ := List.mem_map.mp hd
  obtain ⟨k', hk', e'⟩ := List.mem_map.mp hd'
  subst e e'
  exact (h k hk).2 k' hk'
theorem alikeK_sort {ks : List (List Key)} (h : AlikeK ks) : PySem.W.Sortable (ks.map keysD) := .inl fun d hd => by
  obtain ⟨k, hk, e⟩ := List.mem_map.mp hd
  subst e
  cases k with
  | nil => exact absurd rfl (h _ hk).1
  | cons a r => exact ⟨_, _, rfl⟩
theorem each_len {α β : Type} {R : α → β → Prop} {as : List α} {bs : List β} (e : PySem.W.EachIs R as bs) : as.length = bs.length := e.length
def rSortT (K : PySem.W.Frag) : List V → Hp → VK → Prop := fun xs H Q => ∃ (a : Addr) (bs : List Addr) (ks : List (List Key)), xs = [.ref a] ∧ SqL K H a (bs.map V.ref) ∧ TupsAt H bs ks ∧ AlikeK ks ∧
  ∀ p cs, H p = none → TupsAt H cs (sortK ks) → Q (.ref p) (upd H p (.lst (cs.map V.ref)))
theorem call_sortT (hu : X.A.units + 64 < cLine) : CallR X (.builtin "sorted") (rSortT X.K) := by
  intro pins s σ H xs us Q I r h
  obtain ⟨a, bs, ks, rfl, ha, hT, hA, q⟩ := h
  obtain ⟨u, rfl, rx⟩ := vals1 r
  cases rx
  obtain ⟨its, rv, p, hz⟩ := I.list ha
  have ei : its = bs.map Value.ref := refs_at rv
  subst ei
  have e := each_of_tups hT
  have hl := e.length
  rw [List.length_map] at hl hz
  refine PySem.W.sorted_data (enc := keysD) p.isList e (reads_each I (fun _ _ q => q) e) (alikeK_all hA) (alikeK_sort hA) (by omega) (fun k _ => by have := keysD_depth k; omega) fun out hlen eo => ?_
  obtain ⟨cs, e1, hC⟩ := tups_of_each eo
  subst e1
  rw [List.length_map] at hlen
  obtain ⟨e2, he2⟩ := sortedAll_at s.heap (bs.map Value.ref) (List.toArray (cs.map Value.ref))
  have hn : H (s.heap.objs.size + 1) = none := I.hok.fresh (Nat.le_succ _)
  refine ⟨.ref (s.heap.objs.size + 1), upd H (s.heap.objs.size + 1) (.lst (cs.map V.ref)), I.laid (t' := s.toks) (fun b o q => sortedAll_old q) (Nat.le_succ _) ?_, rfl, q _ cs hn hC⟩
  exact ⟨by rw [List.length_map]; omega, cs.map Value.ref, e2, vals_refs cs, he2⟩
end
end FwR
end

section
set_option Elab.async false
set_option linter.all false
set_option maxRecDepth 100000
set_option maxHeartbeats 1000000
namespace FwR
open PySem PySem.Spec PyProof.Rows L2
/-! ### sorted(d), the keys tuples: what the walk over d draws goes to a new list, and that is sorted -/
theorem sorted_drawn {prog : Program} {w : World} {A : Around} {E : Value → Shared → Prop} {s : Shared} {T : String} {r d : Addr} {n : Nat} {P : Nat → Value → Prop} {OK : Heap → Prop} {Q : Value → Shared → Prop} (K : PySem.W.KdlSrc prog w T r d n P OK) (hh : A.handled = none) (hok : OK s.heap) (hn : n ≤ sizeLine)
    (h : ∀ (g : Heap) (tk : Nat) (vs : List Value), (∀ b o, s.heap.get? b = some o → g.get? b = some o) → vs.length = n → (∀ j v, vs[j]? = some v → P j v) →
      wpAny (model prog w) A.in1 (call (.builtin "list.sort") [.ref g.objs.size]) (fun _ s' => Q (.ref g.objs.size) s') E { s with heap := g.push (seqObj "list" vs.toArray 0), toks := tk }) :
    wpAny (model prog w) A (call (.builtin "sorted") [.ref r]) Q E s :=
  Calls.call_function_entry kind_sorted plain_sorted entry_sorted (args_sorted1 _) (by
    unfold Builtin.«sorted»
    exact wpAny_bind (m := checkCount "sorted" 1 1 _) (wpAny_pure (wpAny_bind (PySem.W.kdu_collect (A := A.in1) K hh hok hn fun g tk got kp it =>
      have hl : got.toList.length = n := Array.length_toList.trans it.1
      wpAny_bind (wpAny_newList (wpAny_bind (wpAny_holding (wpAny_mono (h g tk got.toList kp hl fun j v e => it.2 j v (Array.getElem?_toList (xs := got) ▸ e)) (fun _ _ x => wpAny_pure ⟨_, rfl, x⟩) fun _ _ e => e))) (hl ▸ hn))))))
/-- the drawn keys, told by the key tuples' addresses -/
theorem drawn_refs {prog : Program} {w : World} {ks : List (List Key × Addr × Value)} {es : Array DictEntry} {vs : List Value} (he : es.toList = ks.map (entryOfKey (tupleKind (mixKind prog w)))) (hl : vs.length = es.size) (hP : ∀ (j : Nat) (v : Value), vs[j]? = some v → ∃ en : DictEntry, es[j]? = some en ∧ v = en.key) :
    vs = (ks.map fun x => x.2.1).map Value.ref := by
  have hk : es.size = ks.length := size_of_entries he
  rw [List.map_map]
  refine List.ext_getElem (by rw [List.length_map, hl, hk]) fun j h1 h2 => ?_
  obtain ⟨en, h3, h4⟩ := hP j vs[j] (List.getElem?_eq_getElem h1)
  rw [entry_at he j, List.getElem?_eq_getElem (by omega)] at h3
  rw [h4, ← Option.some.inj h3, List.getElem_map]
  rfl
section
variable {X : Cx}
theorem tups_of_isKeys {H : Hp} : ∀ {kvs : List (List Key × V)} {bs : List Addr}, IsKeys H kvs bs → TupsAt H bs (kvs.map (·.1))
  | _, _, .nil => .nil
  | _, _, .cons h t => .cons h (tups_of_isKeys t)
/-- reading goes through objects that are there -/
theorem reads_below {pins : List (Addr × Obj)} {σ : L2.St} {H : Hp} {s : Shared} {g : Heap} {vs : List Value} {ks : List (List Key)} (I : L2.Inv X pins σ H s) (e : PySem.W.EachIs (RK H) vs ks) (o : Obj) :
    PySem.W.EachIs (fun v k => ∃ as, Reads (s.heap.push o) v (keysD k) as ∧ s.heap.objs.size ∉ as) vs ks :=
  (reads_each I (fun _ _ q => q) e).mono fun v k ⟨as, r⟩ => ⟨as, Reads.keeps (fun _ _ q => Heap.get?_push_of_some _ q) r, fun hm =>
    let ⟨_, q⟩ := PyProof.On.reads_mem_get r _ hm
    absurd (Heap.lt_size q) (Nat.lt_irrefl _)⟩
/-- sorted(d), the keys tuples -/
def rSortDT : List V → Hp → VK → Prop := fun xs H Q => ∃ (d : Addr) (kvs : List (List Key × V)), xs = [.ref d] ∧ Rd H d (.dT kvs) ∧ AlikeK (kvs.map (·.1)) ∧
  ∀ p cs, H p = none → TupsAt H cs (sortK (kvs.map (·.1))) → Q (.ref p) (upd H p (.lst (cs.map V.ref)))
theorem call_sortDT (hc : X.calm = true) (hu : X.A.units + 64 < cLine) : CallR X (.builtin "sorted") rSortDT := by
  intro pins s σ H xs us Q I r h
  obtain ⟨d, kvs, rfl, hd, hA, q⟩ := h
  obtain ⟨u, rfl, rx⟩ := r.one
  cases rx
  have okd : ObjOk X.prog X.w H s.heap d (.dT kvs) := hd.ok I.hok
  obtain ⟨hz, hsys, ks, hpr, o, es, ep, ho, hex, hdat, hent, _⟩ := okd
  have hsz : es.size = kvs.length := (size_of_entries hent).trans (Paired.length hpr).symm
  refine sorted_drawn (kdl_raw hsys hex hdat) (I.ok.hd hc) ho (by omega) fun g tk vs kp hl hP => ?_
  -- the new list holds the key tuples
  have J : L2.Inv X pins σ H { s with heap := g, toks := tk } := I.kept kp
  have hT := tups_of_isKeys (isKeys_of hpr)
  have ev := drawn_refs hent hl hP
  subst ev
  generalize (ks.map fun x => x.2.1) = bs at hT hl ⊢
  have e := each_of_tups hT
  rw [List.length_map] at hl
  refine PySem.W.list_sort_data (n := 0) (enc := keysD) (Heap.get?_push_size _ rfl) e (reads_below (g := g) J e _) (alikeK_all hA) (alikeK_sort hA) (by rw [List.length_map]; omega) (fun k _ => ?_) fun out hlen eo => ?_
  · have := keysD_depth k
    show X.A.units + 1 + 1 + _ < _
    omega
  · obtain ⟨cs, rfl, hC⟩ := tups_of_each eo
    rw [List.length_map, List.length_map] at hlen
    obtain ⟨c, hat⟩ := PyProof.Rows.sortedHeap_at (h := g.push (seqObj "list" (bs.map Value.ref).toArray 0)) (a := g.objs.size) (vs := bs.map Value.ref) (out := (cs.map Value.ref).toArray) (Heap.get?_push_size _ rfl)
    refine ⟨.ref g.objs.size, _, J.laid (t' := tk) (o := .lst (cs.map V.ref)) (fun b ob eb => ?_) (Nat.le_refl _) ⟨by rw [List.length_map]; omega, _, c, vals_refs cs, hat⟩, rfl, q _ cs (J.hok.fresh (Nat.le_refl _)) hC⟩
    have hb := Heap.lt_size eb
    exact (PyProof.Rows.sortedHeap_old (Nat.ne_of_lt hb) (Nat.lt_of_lt_of_eq (Nat.lt_succ_of_lt hb) (size_push' ..).symm)).trans (Heap.get?_push_of_some _ eb)
end
end FwR
end

section
set_option Elab.async false
set_option linter.all false
set_option maxRecDepth 100000
set_option maxHeartbeats 1000000
namespace FwR
open PySem PySem.Spec PyProof.Rows L2

/-! ### enumerate of a tuple, of a text -/
def Iten (ok : Hp → Prop) (n : Nat) (f : Nat → V) : It :=
  ⟨fun i H => i < n ∧ ok H, fun i H v H' => ∃ T, v = .ref T ∧ H T = none ∧ H' = upd H T (.tup [.int (i : Nat), f i]), fun i H => i = n ∧ ok H⟩
theorem walk_enumD {ok : Hp → Prop} {n : Nat} {f : Nat → V} : Walk (Iten ok n f) n ok (YPair (fun i => some (.int (i : Nat))) (fun i => some (f i))) :=
  ⟨fun i H hi q => ⟨hi, q⟩, fun H q => ⟨rfl, q⟩, fun i H v H' hi q y => by
    obtain ⟨T, h1, h2, h3⟩ := y
    exact ⟨T, _, _, h1, h2, h3, rfl, rfl⟩⟩
/-- an iterator at it that draws f 0, .., f (n - 1) as long as ok stands; T0 i: it has drawn i of them -/
structure Drawn (P : Program) (w : World) (K : PySem.W.Frag) (it : Addr) (ok : Hp → Prop) (n : Nat) (f : Nat → V) (T0 : Nat → Heap → Prop) : Prop where
  one : ∀ i h, T0 i h → ∃ o, h.get? it = some o ∧ ∀ v, o.data ≠ .cell v
  stay : ∀ i h h', T0 i h → (∀ o, h.get? it = some o → h'.get? it = some o) → T0 i h'
  src : ∀ (X : Cx), X.prog = P → X.w = w → X.K = K → X.calm = true → ∀ (i : Nat) (pins : List (Addr × Obj)) (s : Shared) (σ : L2.St) (H : Hp), L2.Inv X pins σ H s → ok H → T0 i s.heap →
    ∃ (fp : List Addr) (Pr : Nat → Value → Prop) (St : Nat → Heap → Prop), Draws X.prog X.w X.A.in1 it fp n Pr St ∧ it ∈ fp ∧ St i s.heap ∧ (∀ j h, St j h → T0 j h) ∧ (∀ j v, j < n → Pr j v → L2.RelV (f j) v) ∧
      ∀ b ∈ fp, b ≠ it → ∃ o, s.heap.get? b = some o ∧ o.cls = .type "tuple"
section
variable {P : Program} {w : World} {K : PySem.W.Frag} {elts : List Expr} {kk : Nat} {tpos : Pos} {it e : Addr} {ok : Hp → Prop} {n : Nat} {f : Nat → V} {T0 : Nat → Heap → Prop}
/-- what stands while enumerate at e walks the iterator at it -/
def EnSt (e it : Addr) (T0 : Nat → Heap → Prop) (i : Nat) (h : Heap) : Prop := (∃ old, IsEnum h e it ((i : Nat) : Int) old) ∧ T0 i h ∧ e ≠ it
theorem EnSt.lt (D : Drawn P w K it ok n f T0) {i : Nat} {h : Heap} (st : EnSt e it T0 i h) {b : Addr} (hb : b ∈ [e, it]) : b < h.objs.size := by
  obtain ⟨⟨_, he⟩, ht, _⟩ := st
  obtain ⟨_, ho, _⟩ := D.one i h ht
  cases hb with
  | head => exact Heap.lt_size he
  | tail _ hb => cases List.mem_singleton.mp hb; exact Heap.lt_size ho
theorem EnSt.apart (D : Drawn P w K it ok n f T0) {i : Nat} {h : Heap} {fp : List Addr} (st : EnSt e it T0 i h) (hc : ∀ b ∈ fp, b ≠ it → ∃ o, h.get? b = some o ∧ o.cls = .type "tuple") : e ∉ fp := fun hm => by
  obtain ⟨⟨_, he⟩, _, hne⟩ := st
  obtain ⟨o, ho, ht⟩ := hc e hm hne
  cases Option.some.inj (he.symm.trans ho)
  exact absurd (show Value.type "enumerate" = Value.type "tuple" from ht) (by decide)
theorem turn_drawn (D : Drawn P w K it ok n f T0) : Turn P w K (.Tuple elts kk tpos) (Iten ok n f) [e, it] e (EnSt e it T0) where
  mem := List.mem_cons_self
  obj := fun i h st b hb => by
    cases hb with
    | head => exact ⟨_, st.1.choose_spec, fun v q => nomatch q⟩
    | tail _ hb => rw [List.mem_singleton.mp hb]; exact D.one i h st.2.1
  keep := fun i h h' st k => ⟨st.1.imp fun old he => k e List.mem_cons_self _ he, D.stay i h h' st.2.1 (k it (List.mem_cons_of_mem _ List.mem_cons_self)), st.2.2⟩
  self := fun _ _ _ _ _ st h => st.1.elim fun _ he => wpAny_pyIter_enum he h
  item := fun X e1 e2 e3 hc i pins s σ H E I hf st hg => by
    obtain ⟨fp, Pr, St, Dr, hif, hS, hT, hR, hcl⟩ := D.src X e1 e2 e3 hc i pins s σ H I hg.2 st.2.1
    cases e1; cases e2
    have W := WalksT.enumerateD Dr e st.2.2 (st.apart D hcl) hif
    refine W.item i s _ _ hg.1 ⟨st.1, hS⟩ fun T vals h1 tk hv hsz hTup mid hk => ⟨_, rfl, W.go elts kk tpos i T _ _ _ mid fun h2 st2 hk2 => ?_⟩
    obtain ⟨t, u, hu, rfl⟩ := hv
    have kp : ∀ b o, b ∉ [e, it] → s.heap.get? b = some o → h2.get? b = some o := fun b o hb q => hk2 b o hb (hk b o hb q)
    have new : ObjOk X.prog X.w (upd H T (.tup [.int (i : Nat), f i])) h2 T (.tup [.int (i : Nat), f i]) :=
      ⟨show 2 ≤ sizeLine by decide, _, .cons ⟨t, rfl⟩ (.cons (hR i u hg.1 hu) .nil), hTup.at fun o q => hk2 T o (W.apart _ _ _ mid) q⟩
    refine ⟨.ref T, _, I.turnedNew (ch := [e, it]) (t' := tk) kp hf hsz new, rfl, ⟨T, rfl, I.hok.fresh hsz, rfl⟩, ⟨st2.1, hT _ _ st2.2, st.2.2⟩, fun b hb => ?_⟩
    exact (upd_ne (Nat.ne_of_lt (Nat.lt_of_lt_of_le (st.lt D hb) hsz))).trans (hf b hb).1
  done := fun X e1 e2 e3 hc i pins s σ H E I hf st hg => by
    obtain ⟨fp, Pr, St, Dr, hif, hS, hT, hR, hcl⟩ := D.src X e1 e2 e3 hc i pins s σ H I hg.2 st.2.1
    cases e1; cases e2
    cases hg.1
    have f0 := hf it (List.mem_cons_of_mem _ List.mem_cons_self)
    exact st.1.elim fun _ he => wpAny_pyNext_enum_endD Dr he hS fun g eb => ⟨rfl, I.turned (t' := s.toks) eb f0.1 f0.2.1 f0.2.2.2.1 f0.2.2.2.2.1 f0.2.2.2.2.2⟩
theorem drawn_tup {a : Addr} {xs : List V} : Drawn P w K it (fun H => SqT K H a xs) xs.length (fun i => xs.getD i .non) (fun i h => h.IsTupleIter it a i) where
  one := fun i h ⟨o, ho, _, hd⟩ => ⟨o, ho, fun v q => by rw [hd] at q; cases q⟩
  stay := fun i h h' st k => st.at k
  src := fun X e1 e2 e3 hc i pins s σ H I hq st => by
    cases e1; cases e2; cases e3
    obtain ⟨its, rv, p, _⟩ := I.tuple hq
    have hlen : its.toArray.size = xs.length := List.size_toArray.trans rv.length.symm
    obtain ⟨ot, hot, hct, _⟩ := id p
    have hne : a ≠ it := fun z => by
      obtain ⟨oi, hoi, hci, _⟩ := st
      rw [z, hoi] at hot
      cases hot
      exact absurd (hci.symm.trans hct) (by decide)
    have Dr := Draws.tuple (prog := X.prog) (w := X.w) (A := X.A.in1) (I.ok.hd hc) it a hne its.toArray
    rw [hlen] at Dr
    refine ⟨_, _, _, Dr, List.mem_cons_self, ⟨st, p⟩, fun _ _ q => q.1, fun j v hj hv => ?_, fun b hb hbi => ?_⟩
    · obtain ⟨u, hu, ru⟩ := rv.get (i := j) (x := xs.getD j .non) (by rw [List.getD_eq_getElem?_getD, List.getElem?_eq_getElem hj]; rfl)
      rw [List.getElem?_toArray, hu] at hv
      cases hv
      exact ru
    · cases hb with
      | head => exact absurd rfl hbi
      | tail _ hb => cases List.mem_singleton.mp hb; exact ⟨ot, hot, hct⟩
theorem drawn_text {z : Str} {t : Tok} : Drawn P w K it (fun _ => True) z.cps.size (fun i => .str ⟨#[z.cps.getD i 0]⟩) (fun i h => h.IsStrIter it (strIterType z) z t i) where
  one := fun i h ⟨o, ho, _, hd⟩ => ⟨o, ho, fun v q => by rw [hd] at q; cases q⟩
  stay := fun i h h' ⟨o, ho, r⟩ k => ⟨o, k o ho, r⟩
  src := fun X e1 e2 e3 hc i pins s σ H I _ st => by
    refine ⟨_, _, _, Draws.text (A := X.A.in1) (I.ok.hd hc) it z t, List.mem_singleton.mpr rfl, st, fun _ _ q => q, fun j v hj hv => ?_, fun b hb hbi => absurd (List.mem_singleton.mp hb) hbi⟩
    obtain ⟨c, u, hcu, rfl⟩ := hv
    rw [Array.getElem?_eq_getElem hj] at hcu
    cases hcu
    exact ⟨u, by simp [Array.getD, hj]⟩
end

/-! ### the call -/
def enTup (h : Heap) (a : Addr) : Heap := (h.push { cls := .type "tuple_iterator", data := .fields #[.ref a, .int 0 0] }).push { cls := .type "enumerate", data := .fields #[.none, .bool false, .ref h.objs.size, rawInt 0, .none, .none] }
theorem meets_en_tup (a : Addr) (items : Array Value) :
    Meets (Builtin.«enumerate.__new__» ⟨[.type "enumerate", .ref a], []⟩) (fun _ R s => s.heap.IsTuple a items ∧ R (.ok (.ret (.ref (s.heap.push { cls := .type "tuple_iterator", data := .fields #[.ref a, .int 0 0] }).objs.size))) { s with heap := enTup s.heap a }) :=
  .of_wp fun prog w A R s ⟨ht, h⟩ => by
    have := sub_enumerate
    obtain ⟨hp, g, d, tk, os⟩ := s
    have ht : hp.IsTuple a items := ht
    have it0 : ∀ {A' : Around} {E Q : Value → Shared → Prop}, Q (.ref hp.objs.size) ⟨hp.push { cls := .type "tuple_iterator", data := .fields #[.ref a, .int 0 0] }, g, d, tk, os⟩ → wpAny (model prog w) A' (pyIter (.ref a)) Q E ⟨hp, g, d, tk, os⟩ :=
      fun q => wpAny_pyIter_tuple (s := ⟨hp, g, d, tk, os⟩) ht q
    wp_walk using it0
    refine wpAny_stack_any fun st => wpAny_pure ?_
    split
    case h_1 c _ _ _ _ _ => cases (c == Value.type "enumerate") <;> (wp_walk using it0; exact ⟨_, rfl, h⟩)
    all_goals (wp_walk using it0; exact ⟨_, rfl, h⟩)
theorem call_en_tup {prog : Program} {w : World} {A : Around} {E : Value → Shared → Prop} {s : Shared} {a : Addr} {items : Array Value} {Q : Value → Shared → Prop} (ht : s.heap.IsTuple a items)
    (h : ∀ g : Heap, IsEnum g (s.heap.objs.size + 1) s.heap.objs.size 0 .none → g.IsTupleIter s.heap.objs.size a 0 → (∀ b o, s.heap.get? b = some o → g.get? b = some o) → Q (.ref (s.heap.objs.size + 1)) { s with heap := g }) :
    wpAny (model prog w) A (call (.type "enumerate") [.ref a]) Q E s := by
  have n1 : (s.heap.push { cls := .type "tuple_iterator", data := .fields #[.ref a, .int 0 0] }).objs.size = s.heap.objs.size + 1 := Heap.size_push ..
  have en : IsEnum (enTup s.heap a) (s.heap.objs.size + 1) s.heap.objs.size 0 .none := n1 ▸ Heap.get?_push_size _ rfl
  refine callType_new F.called_enumerate (by decide) (F.typeCall_enumerate_1 _) (F.newCall_enumerate_1 _) (fun _ => F.args_object_init_2 _ _) F.entry_enumerate_new (meets_en_tup a items) ⟨ht, ?_⟩
  rw [n1]
  exact ⟨⟨_, en, rfl⟩, h _ en ⟨_, Heap.get?_push_of_some _ (Heap.get?_push_size _ rfl), rfl, rfl⟩ fun b o q => Heap.get?_push_of_some _ (Heap.get?_push_of_some _ q)⟩
def iEnumT (K : PySem.W.Frag) (ta : TA) : TI := fun σ H R => ta σ H fun vs H1 => ∃ a xs, vs = [.ref a] ∧ SqT K H1 a xs ∧ R (Iten (fun H => SqT K H a xs) xs.length (fun i => xs.getD i .non)) H1
def iEnumS (ta : TA) : TI := fun σ H R => ta σ H fun vs H1 => ∃ z, vs = [.str z] ∧ R (Iten (fun _ => True) z.cps.size (fun i => .str ⟨#[z.cps.getD i 0]⟩)) H1
section
variable {X : Cx} {e : Expr} {ta : TA} {p pos tpos : Pos} {elts : List Expr} {kk : Nat}
/-- the enumerate object has come: its walk begins -/
theorem enum_came {pins : List (Addr × Obj)} {σ : L2.St} {H : Hp} {s : Shared} {R : It → Hp → Prop} {E : Value → Shared → Prop} {g : Heap} {ok : Hp → Prop} {n : Nat} {f : Nat → V} {T0 : Nat → Heap → Prop} (I : L2.Inv X pins σ H s) (D : Drawn X.prog X.w X.K s.heap.objs.size ok n f T0)
    (he : IsEnum g (s.heap.objs.size + 1) s.heap.objs.size 0 .none) (ht : T0 0 g) (kp : ∀ b o, s.heap.get? b = some o → g.get? b = some o) (q : R (Iten ok n f) H) :
    wpAny (model X.prog X.w) X.A (pyIter (.ref (s.heap.objs.size + 1))) (PIE X pins σ (.Tuple elts kk tpos) R) E { s with heap := g } :=
  wpAny_pyIter_enum he ⟨_, [s.heap.objs.size + 1, s.heap.objs.size], _, _, H, rfl, I.kept (t' := s.toks) kp, turn_drawn D, ⟨⟨_, he⟩, ht, Nat.succ_ne_self _⟩, fun b hb => by
    have hle : s.heap.objs.size ≤ b := by
      cases hb with
      | head => exact Nat.le_succ _
      | tail _ hb => exact Nat.le_of_eq (List.mem_singleton.mp hb).symm
    exact I.fpOk hle (I.hok.fresh hle), q⟩
theorem pi_enumT (hg : Gl X "enumerate") (hm : X.mg "enumerate" = none) (ha : PA X [e] ta) (hs : starEach [e] X.env = [(false, eval e X.env)] := by rfl) :
    PI X (.Tuple elts kk tpos) (.Call (.Name "enumerate" p) [e] [] pos) (iEnumT X.K ta) :=
  ⟨fun pins s σ H R I h => Call_ (ld_blt I hg hm boot_enumerate (callWith_type1 (thn (ha.run pos pins s σ H _ I h) (by
    rintro us s1 ⟨vs, H1, I1, r1, a, xs, rfl, hq, q⟩
    rw [Vals.ref1 r1]
    obtain ⟨its, _, p', _⟩ := I1.tuple hq
    exact call_en_tup p' fun g he ht kp => enum_came I1 drawn_tup he ht kp q)) hs rfl))⟩
theorem pi_enumS (hg : Gl X "enumerate") (hm : X.mg "enumerate" = none) (ha : PA X [e] ta) (hs : starEach [e] X.env = [(false, eval e X.env)] := by rfl) :
    PI X (.Tuple elts kk tpos) (.Call (.Name "enumerate" p) [e] [] pos) (iEnumS ta) :=
  ⟨fun pins s σ H R I h => Call_ (ld_blt I hg hm boot_enumerate (callWith_type1 (thn (ha.run pos pins s σ H _ I h) (by
    rintro us s1 ⟨vs, H1, I1, r1, z, rfl, q⟩
    cases r1 with
    | cons r rr =>
      cases rr
      obtain ⟨t, rfl⟩ := r
      exact call_enumerate_str fun g he ht _ kp => enum_came I1 (drawn_text (t := t)) he ht kp q)) hs rfl))⟩
end
end FwR
end

section
set_option Elab.async false
set_option linter.all false
set_option maxRecDepth 100000
set_option maxHeartbeats 2000000
namespace FwK
open PySem PySem.Spec PyProof.Rows L2 Evl Fw FwR
/-! ### the text -/
def topS (i : Nat) : Stmt := PySem.Challenge.pw_foldedways_k76_whole_conjugators.main.body.getD i (.Pass ⟨0, 0, 0, 0⟩)
abbrev s_is_between : Stmt := topS 7
abbrev nm_is_between : List Str := ["value", "low", "high"]
abbrev pn_is_between : List Str := ["value", "low", "high"]
theorem sc_is_between : FnScope nm_is_between pn_is_between (defScope s_is_between) := ⟨rfl, rfl, rfl, by decide +kernel, rfl, by decide +kernel, by decide +kernel⟩
abbrev s_is_rank : Stmt := topS 8
abbrev nm_is_rank : List Str := ["value"]
abbrev pn_is_rank : List Str := ["value"]
theorem sc_is_rank : FnScope nm_is_rank pn_is_rank (defScope s_is_rank) := ⟨rfl, rfl, rfl, by decide +kernel, rfl, by decide +kernel, by decide +kernel⟩
abbrev s_letters_of : Stmt := topS 9
abbrev nm_letters_of : List Str := ["rank"]
abbrev pn_letters_of : List Str := ["rank"]
theorem sc_letters_of : FnScope nm_letters_of pn_letters_of (defScope s_letters_of) := ⟨rfl, rfl, rfl, by decide +kernel, rfl, by decide +kernel, by decide +kernel⟩
abbrev s_is_letters : Stmt := topS 10
abbrev nm_is_letters : List Str := ["value", "rank", "letter"]
abbrev pn_is_letters : List Str := ["value", "rank"]
theorem sc_is_letters : FnScope nm_is_letters pn_is_letters (defScope s_is_letters) := ⟨rfl, rfl, rfl, by decide +kernel, rfl, by decide +kernel, by decide +kernel⟩
abbrev s_is_word : Stmt := topS 11
abbrev nm_is_word : List Str := ["value", "rank"]
abbrev pn_is_word : List Str := ["value", "rank"]
theorem sc_is_word : FnScope nm_is_word pn_is_word (defScope s_is_word) := ⟨rfl, rfl, rfl, by decide +kernel, rfl, by decide +kernel, by decide +kernel⟩
abbrev s_opposite_of : Stmt := topS 12
abbrev nm_opposite_of : List Str := ["letter"]
abbrev pn_opposite_of : List Str := ["letter"]
theorem sc_opposite_of : FnScope nm_opposite_of pn_opposite_of (defScope s_opposite_of) := ⟨rfl, rfl, rfl, by decide +kernel, rfl, by decide +kernel, by decide +kernel⟩
abbrev s_reduce_of : Stmt := topS 13
abbrev nm_reduce_of : List Str := ["word", "found", "letter"]
abbrev pn_reduce_of : List Str := ["word"]
theorem sc_reduce_of : FnScope nm_reduce_of pn_reduce_of (defScope s_reduce_of) := ⟨rfl, rfl, rfl, by decide +kernel, rfl, by decide +kernel, by decide +kernel⟩
abbrev s_inverse_of : Stmt := topS 14
abbrev nm_inverse_of : List Str := ["word", "letter"]
abbrev pn_inverse_of : List Str := ["word"]
theorem sc_inverse_of : FnScope nm_inverse_of pn_inverse_of (defScope s_inverse_of) := ⟨rfl, rfl, rfl, by decide +kernel, rfl, by decide +kernel, by decide +kernel⟩
abbrev s_order_key : Stmt := topS 15
abbrev nm_order_key : List Str := ["word", "letter"]
abbrev pn_order_key : List Str := ["word"]
theorem sc_order_key : FnScope nm_order_key pn_order_key (defScope s_order_key) := ⟨rfl, rfl, rfl, by decide +kernel, rfl, by decide +kernel, by decide +kernel⟩
abbrev s_is_family : Stmt := topS 19
abbrev nm_is_family : List Str := ["value", "word"]
abbrev pn_is_family : List Str := ["value"]
theorem sc_is_family : FnScope nm_is_family pn_is_family (defScope s_is_family) := ⟨rfl, rfl, rfl, by decide +kernel, rfl, by decide +kernel, by decide +kernel⟩
abbrev s_check_family : Stmt := topS 20
abbrev nm_check_family : List Str := ["family"]
abbrev pn_check_family : List Str := ["family"]
theorem sc_check_family : FnScope nm_check_family pn_check_family (defScope s_check_family) := ⟨rfl, rfl, rfl, by decide +kernel, rfl, by decide +kernel, by decide +kernel⟩
abbrev s_opposite : Stmt := topS 21
abbrev nm_opposite : List Str := ["factors", "kind", "number", "sign"]
abbrev pn_opposite : List Str := ["factors"]
theorem sc_opposite : FnScope nm_opposite pn_opposite (defScope s_opposite) := ⟨rfl, rfl, rfl, by decide +kernel, rfl, by decide +kernel, by decide +kernel⟩
abbrev s_shortened : Stmt := topS 22
abbrev nm_shortened : List Str := ["factors", "found", "kind", "number", "sign"]
abbrev pn_shortened : List Str := ["factors"]
theorem sc_shortened : FnScope nm_shortened pn_shortened (defScope s_shortened) := ⟨rfl, rfl, rfl, by decide +kernel, rfl, by decide +kernel, by decide +kernel⟩
abbrev s_Folding_init : Stmt := inClass (topS 23) 0
abbrev nm_Folding_init : List Str := ["self", "words", "number", "word", "end"]
abbrev pn_Folding_init : List Str := ["self", "words"]
theorem sc_Folding_init : FnScope nm_Folding_init pn_Folding_init (defScope s_Folding_init) := ⟨rfl, rfl, rfl, by decide +kernel, rfl, by decide +kernel, by decide +kernel⟩
abbrev s_Folding_add_petal : Stmt := inClass (topS 23) 1
abbrev nm_Folding_add_petal : List Str := ["self", "word", "here", "at", "letter", "point", "small"]
abbrev pn_Folding_add_petal : List Str := ["self", "word"]
theorem sc_Folding_add_petal : FnScope nm_Folding_add_petal pn_Folding_add_petal (defScope s_Folding_add_petal) := ⟨rfl, rfl, rfl, by decide +kernel, rfl, by decide +kernel, by decide +kernel⟩
abbrev s_Folding_root : Stmt := inClass (topS 23) 2
abbrev nm_Folding_root : List Str := ["self", "point"]
abbrev pn_Folding_root : List Str := ["self", "point"]
theorem sc_Folding_root : FnScope nm_Folding_root pn_Folding_root (defScope s_Folding_root) := ⟨rfl, rfl, rfl, by decide +kernel, rfl, by decide +kernel, by decide +kernel⟩
abbrev s_Folding_chain : Stmt := inClass (topS 23) 3
abbrev nm_Folding_chain : List Str := ["self", "point", "found"]
abbrev pn_Folding_chain : List Str := ["self", "point"]
theorem sc_Folding_chain : FnScope nm_Folding_chain pn_Folding_chain (defScope s_Folding_chain) := ⟨rfl, rfl, rfl, by decide +kernel, rfl, by decide +kernel, by decide +kernel⟩
abbrev s_Folding_link : Stmt := inClass (topS 23) 4
abbrev nm_Folding_link : List Str := ["self", "point", "lower", "factors", "word", "short"]
abbrev pn_Folding_link : List Str := ["self", "point", "lower", "factors"]
theorem sc_Folding_link : FnScope nm_Folding_link pn_Folding_link (defScope s_Folding_link) := ⟨rfl, rfl, rfl, by decide +kernel, rfl, by decide +kernel, by decide +kernel⟩
abbrev s_Folding_merge : Stmt := inClass (topS 23) 5
abbrev nm_Folding_merge : List Str := ["self", "one", "other", "factors", "first", "second", "whole"]
abbrev pn_Folding_merge : List Str := ["self", "one", "other", "factors"]
theorem sc_Folding_merge : FnScope nm_Folding_merge pn_Folding_merge (defScope s_Folding_merge) := ⟨rfl, rfl, rfl, by decide +kernel, rfl, by decide +kernel, by decide +kernel⟩
abbrev s_Folding_fold_two : Stmt := inClass (topS 23) 6
abbrev nm_Folding_fold_two : List Str := ["self", "first", "second", "starts", "ends", "near", "factors"]
abbrev pn_Folding_fold_two : List Str := ["self", "first", "second"]
theorem sc_Folding_fold_two : FnScope nm_Folding_fold_two pn_Folding_fold_two (defScope s_Folding_fold_two) := ⟨rfl, rfl, rfl, by decide +kernel, rfl, by decide +kernel, by decide +kernel⟩
abbrev s_Folding_fold_all : Stmt := inClass (topS 23) 7
abbrev nm_Folding_fold_all : List Str := ["self", "changed", "at", "first", "second"]
abbrev pn_Folding_fold_all : List Str := ["self"]
theorem sc_Folding_fold_all : FnScope nm_Folding_fold_all pn_Folding_fold_all (defScope s_Folding_fold_all) := ⟨rfl, rfl, rfl, by decide +kernel, rfl, by decide +kernel, by decide +kernel⟩
abbrev s_numbered : Stmt := topS 24
abbrev nm_numbered : List Str := ["edges", "numbers", "found", "letters", "ways", "start", "letter", "end", "at", "sign", "point", "rows"]
abbrev pn_numbered : List Str := ["edges"]
theorem sc_numbered : FnScope nm_numbered pn_numbered (defScope s_numbered) := ⟨rfl, rfl, rfl, by decide +kernel, rfl, by decide +kernel, by decide +kernel⟩
abbrev s_fold : Stmt := topS 25
abbrev nm_fold : List Str := ["rank", "words", "folding", "start", "letter", "end"]
abbrev pn_fold : List Str := ["rank", "words"]
theorem sc_fold : FnScope nm_fold pn_fold (defScope s_fold) := ⟨rfl, rfl, rfl, by decide +kernel, rfl, by decide +kernel, by decide +kernel⟩
abbrev s_ways_in : Stmt := topS 27
abbrev nm_ways_in : List Str := ["graph", "ways", "start", "letter", "end"]
abbrev pn_ways_in : List Str := ["graph"]
theorem sc_ways_in : FnScope nm_ways_in pn_ways_in (defScope s_ways_in) := ⟨rfl, rfl, rfl, by decide +kernel, rfl, by decide +kernel, by decide +kernel⟩
abbrev s_paths_in : Stmt := topS 28
abbrev nm_paths_in : List Str := ["rank", "graph", "ways", "found", "row", "at", "letter", "end"]
abbrev pn_paths_in : List Str := ["rank", "graph"]
theorem sc_paths_in : FnScope nm_paths_in pn_paths_in (defScope s_paths_in) := ⟨rfl, rfl, rfl, by decide +kernel, rfl, by decide +kernel, by decide +kernel⟩
abbrev s_graph_in : Stmt := topS 29
abbrev nm_graph_in : List Str := ["family"]
abbrev pn_graph_in : List Str := ["family"]
theorem sc_graph_in : FnScope nm_graph_in pn_graph_in (defScope s_graph_in) := ⟨rfl, rfl, rfl, by decide +kernel, rfl, by decide +kernel, by decide +kernel⟩
abbrev s_graph_of : Stmt := topS 30
abbrev nm_graph_of : List Str := ["family"]
abbrev pn_graph_of : List Str := ["family"]
theorem sc_graph_of : FnScope nm_graph_of pn_graph_of (defScope s_graph_of) := ⟨rfl, rfl, rfl, by decide +kernel, rfl, by decide +kernel, by decide +kernel⟩
abbrev s_ends_at : Stmt := topS 31
abbrev nm_ends_at : List Str := ["graph", "vertex", "start", "letter", "end"]
abbrev pn_ends_at : List Str := ["graph", "vertex"]
theorem sc_ends_at : FnScope nm_ends_at pn_ends_at (defScope s_ends_at) := ⟨rfl, rfl, rfl, by decide +kernel, rfl, by decide +kernel, by decide +kernel⟩
abbrev s_check_two : Stmt := topS 33
abbrev nm_check_two : List Str := ["family", "other"]
abbrev pn_check_two : List Str := ["family", "other"]
theorem sc_check_two : FnScope nm_check_two pn_check_two (defScope s_check_two) := ⟨rfl, rfl, rfl, by decide +kernel, rfl, by decide +kernel, by decide +kernel⟩
abbrev s_trimmed_edges : Stmt := topS 34
abbrev nm_trimmed_edges : List Str := ["edges", "first", "left", "ends", "start", "_", "end", "kept", "letter"]
abbrev pn_trimmed_edges : List Str := ["edges", "first"]
theorem sc_trimmed_edges : FnScope nm_trimmed_edges pn_trimmed_edges (defScope s_trimmed_edges) := ⟨rfl, rfl, rfl, by decide +kernel, rfl, by decide +kernel, by decide +kernel⟩
abbrev s_renumbered : Stmt := topS 35
abbrev nm_renumbered : List Str := ["edges", "first", "numbers", "start", "_", "end", "point", "letter"]
abbrev pn_renumbered : List Str := ["edges", "first"]
theorem sc_renumbered : FnScope nm_renumbered pn_renumbered (defScope s_renumbered) := ⟨rfl, rfl, rfl, by decide +kernel, rfl, by decide +kernel, by decide +kernel⟩
abbrev s_attach : Stmt := topS 38
abbrev nm_attach : List Str := ["graph", "word", "count", "edges", "ways", "here", "letter", "edge"]
abbrev pn_attach : List Str := ["graph", "word"]
theorem sc_attach : FnScope nm_attach pn_attach (defScope s_attach) := ⟨rfl, rfl, rfl, by decide +kernel, rfl, by decide +kernel, by decide +kernel⟩
abbrev s_is_long_word : Stmt := topS 41
abbrev nm_is_long_word : List Str := ["rank", "value", "letter"]
abbrev pn_is_long_word : List Str := ["rank", "value"]
theorem sc_is_long_word : FnScope nm_is_long_word pn_is_long_word (defScope s_is_long_word) := ⟨rfl, rfl, rfl, by decide +kernel, rfl, by decide +kernel, by decide +kernel⟩
abbrev s_check_long : Stmt := topS 42
abbrev nm_check_long : List Str := ["family", "other", "word"]
abbrev pn_check_long : List Str := ["family", "other", "word"]
theorem sc_check_long : FnScope nm_check_long pn_check_long (defScope s_check_long) := ⟨rfl, rfl, rfl, by decide +kernel, rfl, by decide +kernel, by decide +kernel⟩
abbrev s_moved : Stmt := topS 44
abbrev nm_moved : List Str := ["graph", "word", "longer", "end"]
abbrev pn_moved : List Str := ["graph", "word"]
theorem sc_moved : FnScope nm_moved pn_moved (defScope s_moved) := ⟨rfl, rfl, rfl, by decide +kernel, rfl, by decide +kernel, by decide +kernel⟩
abbrev s_is_conjugate_by : Stmt := topS 45
abbrev nm_is_conjugate_by : List Str := ["family", "other", "word"]
abbrev pn_is_conjugate_by : List Str := ["family", "other", "word"]
theorem sc_is_conjugate_by : FnScope nm_is_conjugate_by pn_is_conjugate_by (defScope s_is_conjugate_by) := ⟨rfl, rfl, rfl, by decide +kernel, rfl, by decide +kernel, by decide +kernel⟩
abbrev s_is_conjugator : Stmt := topS 46
abbrev nm_is_conjugator : List Str := ["family", "other", "word"]
abbrev pn_is_conjugator : List Str := ["family", "other", "word"]
theorem sc_is_conjugator : FnScope nm_is_conjugator pn_is_conjugator (defScope s_is_conjugator) := ⟨rfl, rfl, rfl, by decide +kernel, rfl, by decide +kernel, by decide +kernel⟩
abbrev s_tail_of : Stmt := topS 47
abbrev nm_tail_of : List Str := ["graph", "ways", "word", "here", "ahead", "at", "letter"]
abbrev pn_tail_of : List Str := ["graph"]
theorem sc_tail_of : FnScope nm_tail_of pn_tail_of (defScope s_tail_of) := ⟨rfl, rfl, rfl, by decide +kernel, rfl, by decide +kernel, by decide +kernel⟩
abbrev s_first_way : Stmt := topS 48
abbrev nm_first_way : List Str := ["rank", "graph", "goal", "ways", "known", "waiting", "at", "letter", "end"]
abbrev pn_first_way : List Str := ["rank", "graph", "goal"]
theorem sc_first_way : FnScope nm_first_way pn_first_way (defScope s_first_way) := ⟨rfl, rfl, rfl, by decide +kernel, rfl, by decide +kernel, by decide +kernel⟩
abbrev s_conjugator : Stmt := topS 49
abbrev nm_conjugator : List Str := ["family", "other", "graph", "goal", "tail", "found", "path", "word", "longer", "end"]
abbrev pn_conjugator : List Str := ["family", "other"]
theorem sc_conjugator : FnScope nm_conjugator pn_conjugator (defScope s_conjugator) := ⟨rfl, rfl, rfl, by decide +kernel, rfl, by decide +kernel, by decide +kernel⟩
abbrev s_law_stream : Stmt := topS 51
abbrev nm_law_stream : List Str := ["_law_script"]
abbrev pn_law_stream : List Str := ["_law_script"]
theorem sc_law_stream : FnScope nm_law_stream pn_law_stream (defScope s_law_stream) := ⟨rfl, rfl, rfl, by decide +kernel, rfl, by decide +kernel, by decide +kernel⟩
abbrev s_law_next : Stmt := topS 52
abbrev nm_law_next : List Str := ["_law_stream_here", "_law_many", "_law_k", "_law_cell", "_law_digit"]
abbrev pn_law_next : List Str := ["_law_stream_here", "_law_many"]
theorem sc_law_next : FnScope nm_law_next pn_law_next (defScope s_law_next) := ⟨rfl, rfl, rfl, by decide +kernel, rfl, by decide +kernel, by decide +kernel⟩
abbrev s_law_flip : Stmt := topS 53
abbrev nm_law_flip : List Str := ["_law_letter"]
abbrev pn_law_flip : List Str := ["_law_letter"]
theorem sc_law_flip : FnScope nm_law_flip pn_law_flip (defScope s_law_flip) := ⟨rfl, rfl, rfl, by decide +kernel, rfl, by decide +kernel, by decide +kernel⟩
abbrev s_law_reduce : Stmt := topS 54
abbrev nm_law_reduce : List Str := ["_law_word_here", "_law_kept", "_law_letter"]
abbrev pn_law_reduce : List Str := ["_law_word_here"]
theorem sc_law_reduce : FnScope nm_law_reduce pn_law_reduce (defScope s_law_reduce) := ⟨rfl, rfl, rfl, by decide +kernel, rfl, by decide +kernel, by decide +kernel⟩
abbrev s_law_inverse : Stmt := topS 55
abbrev nm_law_inverse : List Str := ["_law_word_here", "_law_letter"]
abbrev pn_law_inverse : List Str := ["_law_word_here"]
theorem sc_law_inverse : FnScope nm_law_inverse pn_law_inverse (defScope s_law_inverse) := ⟨rfl, rfl, rfl, by decide +kernel, rfl, by decide +kernel, by decide +kernel⟩
abbrev s_law_letters : Stmt := topS 56
abbrev nm_law_letters : List Str := ["_law_rank"]
abbrev pn_law_letters : List Str := ["_law_rank"]
theorem sc_law_letters : FnScope nm_law_letters pn_law_letters (defScope s_law_letters) := ⟨rfl, rfl, rfl, by decide +kernel, rfl, by decide +kernel, by decide +kernel⟩
abbrev s_law_word : Stmt := topS 57
abbrev nm_law_word : List Str := ["_law_stream_here", "_law_rank", "_law_most", "_law_letters_here", "_law_k"]
abbrev pn_law_word : List Str := ["_law_stream_here", "_law_rank", "_law_most"]
theorem sc_law_word : FnScope nm_law_word pn_law_word (defScope s_law_word) := ⟨rfl, rfl, rfl, by decide +kernel, rfl, by decide +kernel, by decide +kernel⟩
abbrev s_law_words : Stmt := topS 58
abbrev nm_law_words : List Str := ["_law_rank", "_law_most", "_law_rows", "_law_last", "_law_turn", "_law_longer", "_law_word_here", "_law_letter"]
abbrev pn_law_words : List Str := ["_law_rank", "_law_most"]
theorem sc_law_words : FnScope nm_law_words pn_law_words (defScope s_law_words) := ⟨rfl, rfl, rfl, by decide +kernel, rfl, by decide +kernel, by decide +kernel⟩
abbrev s_law_given : Stmt := topS 59
abbrev nm_law_given : List Str := ["_law_stream_here", "_law_rank", "_law_given_here", "_law_k", "_law_word_here", "_law_pick"]
abbrev pn_law_given : List Str := ["_law_stream_here", "_law_rank"]
theorem sc_law_given : FnScope nm_law_given pn_law_given (defScope s_law_given) := ⟨rfl, rfl, rfl, by decide +kernel, rfl, by decide +kernel, by decide +kernel⟩
abbrev s_law_clash : Stmt := topS 60
abbrev nm_law_clash : List Str := ["_law_edges", "_law_names", "_law_seen", "_law_start", "_law_letter", "_law_end", "_law_key", "_law_value"]
abbrev pn_law_clash : List Str := ["_law_edges", "_law_names"]
theorem sc_law_clash : FnScope nm_law_clash pn_law_clash (defScope s_law_clash) := ⟨rfl, rfl, rfl, by decide +kernel, rfl, by decide +kernel, by decide +kernel⟩
abbrev s_law_fold : Stmt := topS 61
abbrev nm_law_fold : List Str := ["_law_words_here", "_law_edges", "_law_count", "_law_word_here", "_law_here", "_law_short", "_law_at", "_law_there", "_law_edge", "_law_names", "_law_turn", "_law_clash_here", "_law_found", "_law_start", "_law_letter", "_law_end", "_law_name"]
abbrev pn_law_fold : List Str := ["_law_words_here"]
theorem sc_law_fold : FnScope nm_law_fold pn_law_fold (defScope s_law_fold) := ⟨rfl, rfl, rfl, by decide +kernel, rfl, by decide +kernel, by decide +kernel⟩
abbrev s_law_walk : Stmt := topS 62
abbrev nm_law_walk : List Str := ["_law_edges", "_law_word_here", "_law_here", "_law_letter", "_law_there", "_law_start", "_law_own", "_law_end"]
abbrev pn_law_walk : List Str := ["_law_edges", "_law_word_here"]
theorem sc_law_walk : FnScope nm_law_walk pn_law_walk (defScope s_law_walk) := ⟨rfl, rfl, rfl, by decide +kernel, rfl, by decide +kernel, by decide +kernel⟩
abbrev s_law_belongs : Stmt := topS 63
abbrev nm_law_belongs : List Str := ["_law_edges", "_law_word_here"]
abbrev pn_law_belongs : List Str := ["_law_edges", "_law_word_here"]
theorem sc_law_belongs : FnScope nm_law_belongs pn_law_belongs (defScope s_law_belongs) := ⟨rfl, rfl, rfl, by decide +kernel, rfl, by decide +kernel, by decide +kernel⟩
abbrev s_law_goes : Stmt := topS 64
abbrev nm_law_goes : List Str := ["_law_ahead", "_law_behind", "_law_family", "_law_other", "_law_word_here", "_law_back", "_law_own"]
abbrev pn_law_goes : List Str := ["_law_ahead", "_law_behind", "_law_family", "_law_other", "_law_word_here"]
theorem sc_law_goes : FnScope nm_law_goes pn_law_goes (defScope s_law_goes) := ⟨rfl, rfl, rfl, by decide +kernel, rfl, by decide +kernel, by decide +kernel⟩
abbrev s_law_is_conjugator : Stmt := topS 65
abbrev nm_law_is_conjugator : List Str := ["_law_family", "_law_other", "_law_word_here"]
abbrev pn_law_is_conjugator : List Str := ["_law_family", "_law_other", "_law_word_here"]
theorem sc_law_is_conjugator : FnScope nm_law_is_conjugator pn_law_is_conjugator (defScope s_law_is_conjugator) := ⟨rfl, rfl, rfl, by decide +kernel, rfl, by decide +kernel, by decide +kernel⟩
abbrev s_law_pair : Stmt := topS 66
abbrev nm_law_pair : List Str := ["_law_stream_here", "_law_rank", "_law_family", "_law_word_here", "_law_moved", "_law_pick", "_law_own"]
abbrev pn_law_pair : List Str := ["_law_stream_here"]
theorem sc_law_pair : FnScope nm_law_pair pn_law_pair (defScope s_law_pair) := ⟨rfl, rfl, rfl, by decide +kernel, rfl, by decide +kernel, by decide +kernel⟩
abbrev s_law : Stmt := topS 67
abbrev nm_law : List Str := ["_law_script", "_law_stream_here", "_law_family", "_law_other", "_law_rank", "_law_order", "_law_told", "_law_ahead", "_law_behind", "_law_best", "_law_word_here", "_law_due", "_law_actual", "_law_key", "_law_letter"]
abbrev pn_law : List Str := ["_law_script"]
theorem sc_law : FnScope nm_law pn_law (defScope s_law) := ⟨rfl, rfl, rfl, by decide +kernel, rfl, by decide +kernel, by decide +kernel⟩
/-! ### defs as they stand, and as they are worth -/
structure Fx (K : PySem.W.Frag) (mg : Str → Option Value) (x : Str) (st : Stmt) (ps : List Str) : Prop where
  ex : ∃ f fd, Fun K x x st f fd ∧ mg x = some (.ref f) ∧ Binds K fd ps []
structure Fd (P : Program) (w : World) (K : PySem.W.Frag) (mg : Str → Option Value) (base : Heap) (x : Str) (ps : List Str) (k : Nat) (sp : Sp) : Prop where
  ex : ∃ f fd, FnOk P w K mg base CX0 k f fd ps sp ∧ mg x = some (.ref f) ∧ PySem.W.keepIn K (.ref f) = true ∧ Binds K fd ps []
structure Mx (K : PySem.W.Frag) (C : Addr) (x q : Str) (st : Stmt) (ps : List Str) : Prop where
  ex : ∃ f fd, Fun K x q st f fd ∧ Meth K C x f ∧ Binds K fd ps []
  cl : Cls K C
structure Md (P : Program) (w : World) (K : PySem.W.Frag) (mg : Str → Option Value) (base : Heap) (C : Addr) (x : Str) (ps : List Str) (k : Nat) (sp : Sp) : Prop where
  ex : ∃ f fd, FnOk P w K mg base CX0 k f fd ps sp ∧ Meth K C x f ∧ Binds K fd ps []
  cl : Cls K C
structure Ix (K : PySem.W.Frag) (mg : Str → Option Value) (C : Addr) (c x q : Str) (st : Stmt) (ps : List Str) : Prop where
  ex : ∃ f fd, Fun K x q st f fd ∧ Mk K C f ∧ Binds K fd ps []
  at_ : mg c = some (.ref C)
structure Id (P : Program) (w : World) (K : PySem.W.Frag) (mg : Str → Option Value) (base : Heap) (C : Addr) (c : Str) (ps : List Str) (k : Nat) (sp : Sp) : Prop where
  ex : ∃ f fd, FnOk P w K mg base CX0 k f fd ps sp ∧ Mk K C f ∧ Binds K fd ps []
  at_ : mg c = some (.ref C)
/-- a promise: with the arguments ps i, where pre i holds, it gives a value and a heap of which post i holds -/
def prom {ι : Type} (ps : ι → List V) (pre : ι → Hp → Prop) (post : ι → Hp → V → Hp → Prop) : Sp := fun vs H Q _ => ∃ i : ι, vs = ps i ∧ pre i H ∧ ∀ v H', post i H v H' → Q v H'
section
variable {P : Program} {w : World} {K : PySem.W.Frag} {mg : Str → Option Value} {base : Heap} {x : Str} {st : Stmt} {pn : List Str} {ι : Type} {ps : ι → List V} {pre : ι → Hp → Prop} {post : ι → Hp → V → Hp → Prop} {k : Nat} {N : List Str}
theorem Fx.fd (F : Fx K mg x st pn) (S : FnScope N pn (defScope st)) (len : ∀ i, (ps i).length = pn.length)
    (body : ∀ (i : ι) (f : Addr) (cdv : Value) (A : Around) (outer : List Env) (s : Shared) (H : Hp) (Q : VK), Room k (A.deeper (envOfC x (defScope st) s.heap.objs.size f cdv)) → pre i H → (∀ v H', post i H v H' → Q v H') → ∀ E : XK,
      ∃ t, PSs (cxOf CX0 P w K mg base N x (defScope st) f cdv A outer s H E).nox (defBody st) t ∧ t { nx := fun _ H' => Q .non H', rt := Q } (start N (ps i)) H) : Fd P w K mg base x pn (k + 1) (prom ps pre post) := by
  obtain ⟨f, fd, F, m, b⟩ := F.ex
  refine ⟨f, fd, F.ok S (fun vs H Q E h => ?_) (fun cdv A outer s H vs Q E hr h => ?_), m, F.kp, b⟩
  · obtain ⟨i, e, _⟩ := h
    subst e
    exact len i
  · obtain ⟨i, e, p, q⟩ := h
    subst e
    exact body i f cdv A outer s H Q hr p q E
theorem Mx.md {C : Addr} {q : Str} (F : Mx K C x q st pn) (S : FnScope N pn (defScope st)) (len : ∀ i, (ps i).length = pn.length)
    (body : ∀ (i : ι) (f : Addr) (cdv : Value) (A : Around) (outer : List Env) (s : Shared) (H : Hp) (Q : VK), Room k (A.deeper (envOfC q (defScope st) s.heap.objs.size f cdv)) → pre i H → (∀ v H', post i H v H' → Q v H') → ∀ E : XK,
      ∃ t, PSs (cxOf CX0 P w K mg base N q (defScope st) f cdv A outer s H E).nox (defBody st) t ∧ t { nx := fun _ H' => Q .non H', rt := Q } (start N (ps i)) H) : Md P w K mg base C x pn (k + 1) (prom ps pre post) := by
  obtain ⟨⟨f, fd, F, m, b⟩, cl⟩ := F
  refine ⟨⟨f, fd, F.ok S (fun vs H Q E h => ?_) (fun cdv A outer s H vs Q E hr h => ?_), m, b⟩, cl⟩
  · obtain ⟨i, e, _⟩ := h
    subst e
    exact len i
  · obtain ⟨i, e, p, q⟩ := h
    subst e
    exact body i f cdv A outer s H _ hr p q E
theorem Ix.id {C : Addr} {c q : Str} (F : Ix K mg C c x q st pn) (S : FnScope N pn (defScope st)) (len : ∀ i, (ps i).length = pn.length)
    (body : ∀ (i : ι) (f : Addr) (cdv : Value) (A : Around) (outer : List Env) (s : Shared) (H : Hp) (Q : VK), Room k (A.deeper (envOfC q (defScope st) s.heap.objs.size f cdv)) → pre i H → (∀ v H', post i H v H' → Q v H') → ∀ E : XK,
      ∃ t, PSs (cxOf CX0 P w K mg base N q (defScope st) f cdv A outer s H E).nox (defBody st) t ∧ t { nx := fun _ H' => Q .non H', rt := Q } (start N (ps i)) H) : Id P w K mg base C c pn (k + 1) (prom ps pre post) := by
  obtain ⟨⟨f, fd, F, m, b⟩, ga⟩ := F
  refine ⟨⟨f, fd, F.ok S (fun vs H Q E h => ?_) (fun cdv A outer s H vs Q E hr h => ?_), m, b⟩, ga⟩
  · obtain ⟨i, e, _⟩ := h
    subst e
    exact len i
  · obtain ⟨i, e, p, q⟩ := h
    subst e
    exact body i f cdv A outer s H _ hr p q E
end
section
variable {X : Cx} {k : Nat} {x c m : Str} {pn : List Str} {sp : Sp} {p pos apos : Pos} {e o : Expr} {es : List Expr} {ta : TE} {t : TA} {C : Addr}
theorem pe_fd (F : Fd X.prog X.w X.K X.mg X.base x pn k sp) (hr : Room k X.A) (hg : Gl X x) (ha : PA X (e :: es) t) (hdb : (x == ("__debug__" : Str)) = false := by decide) (he : starEach (e :: es) X.env = (false, eval e X.env) :: starEach es X.env := by rfl)
    (hpl : (backTo pos (starEach es X.env)).any (·.1) = false := by rfl) : PE X (.Call (.Name x p) (e :: es) [] pos) (tCall sp [] E0 t) := by
  obtain ⟨f, fd, F, m, kp, b⟩ := F.ex
  exact pe_call F hr hg m kp b .nil pass0 ha hdb he hpl
theorem pe_fm {pl : Sem Bool} (he : PE X o ta) (F : Md X.prog X.w X.K X.mg X.base C m pn k sp) (hr : Room k X.A) (ha : PA X (e :: es) t)
    (hst : starEach (e :: es) X.env = (false, eval e X.env) :: starEach es X.env := by rfl) (hpl : (backTo pos (starEach es X.env)).any (·.1) = false := by rfl)
    (ht : eval (.Call (.Attribute o m apos) (e :: es) [] pos) X.env = (do
      let ov ← eval o X.env
      standAt apos.atName
      let (f, first) ← holding [ov] (getMethod ov m pl)
      callWith pos f first (backTo pos (starEach (e :: es) X.env)) (backToKw pos (keywordEach [] X.env))) := by rfl) :
    PE X (.Call (.Attribute o m apos) (e :: es) [] pos) (tMeth C m sp [] E0 ta t) := by
  obtain ⟨⟨f, fd, F, hm, b⟩, cl⟩ := F
  exact pe_meth he cl hm F hr b .nil pass0 ha hst hpl ht
theorem pe_fm0 {pl : Sem Bool} (he : PE X o ta) (F : Md X.prog X.w X.K X.mg X.base C m pn k sp) (hr : Room k X.A)
    (ht : eval (.Call (.Attribute o m apos) [] [] pos) X.env = (do
      let ov ← eval o X.env
      standAt apos.atName
      let (f, first) ← holding [ov] (getMethod ov m pl)
      callWith pos f first (backTo pos (starEach [] X.env)) (backToKw pos (keywordEach [] X.env))) := by rfl) :
    PE X (.Call (.Attribute o m apos) [] [] pos) (tMeth C m sp [] E0 ta tNil) := by
  obtain ⟨⟨f, fd, F, hm, b⟩, cl⟩ := F
  exact pe_meth0 he cl hm F hr b .nil pass0 ht
theorem pe_fmake (F : Id X.prog X.w X.K X.mg X.base C c pn k sp) (hr : Room (k + 1) X.A) (hg : Gl X c) (ha : PA X (e :: es) t) (hdb : (c == ("__debug__" : Str)) = false := by decide)
    (he : starEach (e :: es) X.env = (false, eval e X.env) :: starEach es X.env := by rfl) (hpl : (backTo pos (starEach es X.env)).any (·.1) = false := by rfl) :
    PE X (.Call (.Name c p) (e :: es) [] pos) (tMake C sp [] E0 t) := by
  obtain ⟨⟨f, fd, F, hm, b⟩, ga⟩ := F
  exact pe_make hm F hr hg ga b .nil pass0 ha hdb he hpl
/-- a module's constant -/
theorem pe_k {v : V} (h : ∃ u, X.mg x = some u ∧ RelV v u) (hg : Gl X x := by rfl) (hd : (x == ("__debug__" : Str)) = false := by decide) : PE X (.Name x pos) (tC v) := by
  obtain ⟨u, hm, r⟩ := h
  exact pe_glob hg hm r hd
theorem pe_bmK (K : PySem.W.Frag) {n : String} {r : V → List V → Hp → VK → Prop} {to : TE} (hK : X.K = K) (h : PE X e (tBM X.K n r to t)) : PE X e (tBM K n r to t) := hK ▸ h
theorem pe_bm0K (K : PySem.W.Frag) {n : String} {r : V → List V → Hp → VK → Prop} {to : TE} (hK : X.K = K) (h : PE X e (tBM0 X.K n r to)) : PE X e (tBM0 K n r to) := hK ▸ h
theorem pe_fldK (K : PySem.W.Frag) {n : Str} {to : TE} (hK : X.K = K) (h : PE X e (tFld X.K to n)) : PE X e (tFld K to n) := hK ▸ h
theorem h64 {A : Around} {k : Nat} (hr : Room k A) : A.units + 64 < cLine := hr.units
theorem hu65 {A : Around} {k : Nat} (hr : Room k A) : A.units + 65 < cLine := by have := hr.un; omega
end
structure Bs (mg : Str → Option Value) : Prop where
  z_len : mg "len" = none
  z_isinstance : mg "isinstance" = none
  z_int : mg "int" = none
  z_bool : mg "bool" = none
  z_str : mg "str" = none
  z_tuple : mg "tuple" = none
  z_list : mg "list" = none
  z_all : mg "all" = none
  z_sum : mg "sum" = none
  z_sorted : mg "sorted" = none
  z_enumerate : mg "enumerate" = none
  z_range : mg "range" = none
  z_min : mg "min" = none
  z_max : mg "max" = none
  z_abs : mg "abs" = none
  c_LETTERS : ∃ u, mg "LETTERS" = some u ∧ RelV (.str "aAbBcC") u
  c_SMALL : ∃ u, mg "SMALL" = some u ∧ RelV (.str "abc") u
  c_MOST_RANK : ∃ u, mg "MOST_RANK" = some u ∧ RelV (.int 3) u
  c_LONGEST : ∃ u, mg "LONGEST" = some u ∧ RelV (.int 24) u
  c_MOST_GIVEN : ∃ u, mg "MOST_GIVEN" = some u ∧ RelV (.int 4) u
  c_MOST_LETTERS_folding : ∃ u, mg "MOST_LETTERS_folding" = some u ∧ RelV (.int 8) u
  c_MOST_LETTERS_showing : ∃ u, mg "MOST_LETTERS_showing" = some u ∧ RelV (.int 100) u
/-! ### words as texts -/
def cd : Let → Nat
  | .a => 97 | .A => 65 | .b => 98 | .B => 66 | .c => 99 | .C => 67
def T (w : Word) : Str := ⟨(w.map cd).toArray⟩
abbrev tx (w : Word) : V := .str (T w)
theorem cd_inj {x y : Let} (h : cd x = cd y) : x = y := by
  cases x <;> cases y <;> first | rfl | (exact absurd h (by decide))
theorem map_cd_inj : ∀ {u v : Word}, u.map cd = v.map cd → u = v
  | [], [], _ => rfl
  | [], _ :: _, h => by cases h
  | _ :: _, [], h => by cases h
  | x :: u, y :: v, h => by
    rw [List.map_cons, List.map_cons] at h
    injection h with h1 h2
    rw [cd_inj h1, map_cd_inj h2]
theorem T_list (w : Word) : (T w).cps.toList = w.map cd := rfl
theorem T_inj {u v : Word} (h : T u = T v) : u = v := map_cd_inj (by rw [← T_list, ← T_list, h])
theorem T_len (w : Word) : (T w).length = w.length := by
  show (w.map cd).toArray.size = _
  rw [List.size_toArray, List.length_map]
theorem T_size (w : Word) : (T w).cps.size = w.length := T_len w
theorem T_app (u v : Word) : T u ++ T v = T (u ++ v) := by
  show (⟨(u.map cd).toArray ++ (v.map cd).toArray⟩ : Str) = ⟨((u ++ v).map cd).toArray⟩
  rw [List.map_append, ← List.append_toArray]
theorem T_one (l : Let) : T [l] = ⟨#[cd l]⟩ := rfl
theorem T_get (w : Word) (i : Nat) : (T w).cps[i]? = w[i]?.map cd := by
  rw [← Array.getElem?_toList, T_list, List.getElem?_map]
theorem T_eq (u v : Word) : decide (V.str (T u) = V.str (T v)) = decide (u = v) := by
  by_cases h : u = v
  · rw [decide_eq_true h, decide_eq_true (by rw [h])]
  · rw [decide_eq_false h, decide_eq_false fun e => h (T_inj (V.str.inj e))]
theorem T_nil : T [] = ("" : Str) := rfl
theorem T_lower (l : Let) : Txt.lower (T [l]) = T [l.low] := by cases l <;> decide +kernel
theorem T_upper (l : Let) : Txt.upper (T [l]) = T [l.up] := by cases l <;> decide +kernel
theorem T_swap (l : Let) : Txt.swapcase (T [l]) = T [l.flip] := by cases l <;> decide +kernel
theorem T_isup (l : Let) : Txt.isupper (T [l]) = !l.small := by cases l <;> decide +kernel
theorem T_rev (w : Word) : revS (T w) = T w.reverse := by
  unfold revS
  rw [T_list, ← List.map_reverse]
  rfl
def six : Word := [.a, .A, .b, .B, .c, .C]
theorem six_eq : ("aAbBcC" : Str) = T six := by decide +kernel
theorem abc_eq : ("abc" : Str) = T [.a, .b, .c] := by decide +kernel
theorem flips_eq : ("AaBbCc" : Str) = T [.A, .a, .B, .b, .C, .c] := by decide +kernel
theorem T_idx (l : Let) : Builtin.Str.occurrences (T six) (T [l]) 0 (T six).length 1 = l.idx :: [] := by
  cases l <;> decide +kernel
theorem T_take (w : Word) (n : Nat) : cutS (T w) none (some (n : Int)) = T (w.take n) := by
  unfold cutS
  rw [HT.sIx_nat, HT.sIx_none, T_list, T_len, List.drop_zero, Nat.sub_zero, ← List.map_take]
  unfold T
  rw [show w.take (min n w.length) = w.take n by rw [List.take_eq_take_iff]; omega]
theorem mem_T {l : Let} {w : Word} : cd l ∈ (T w).cps.toList ↔ l ∈ w := by
  rw [T_list, List.mem_map]
  exact ⟨fun ⟨x, h, e⟩ => cd_inj e ▸ h, fun h => ⟨l, h, rfl⟩⟩
theorem T_glue : ∀ (ws : List Word) (acc : Word), (ws.map T).foldl (fun acc p => acc ++ (T []).cps ++ p.cps) (T acc).cps = (T (acc ++ ws.flatten)).cps
  | [], acc => by simp
  | w :: r, acc => by
    have h1 : (T acc).cps ++ (T []).cps ++ (T w).cps = (T (acc ++ w)).cps := by
      have h2 := congrArg Str.cps (T_app (acc ++ []) w)
      have h3 := congrArg Str.cps (T_app acc [])
      rw [List.append_nil] at h2 h3
      show ((T acc).cps ++ (T []).cps) ++ (T w).cps = _
      rw [show (T acc).cps ++ (T []).cps = (T acc).cps from h3]
      exact h2
    show (r.map T).foldl _ ((T acc).cps ++ (T []).cps ++ (T w).cps) = _
    rw [h1, T_glue r (acc ++ w), List.flatten_cons, List.append_assoc]
theorem T_join : ∀ ws : List Word, Txt.join (T []) (ws.map T) = T ws.flatten
  | [] => rfl
  | w :: r => by
    show (⟨(r.map T).foldl (fun acc p => acc ++ (T []).cps ++ p.cps) (T w).cps⟩ : Str) = _
    rw [T_glue, List.flatten_cons]
end FwK
end

section
set_option Elab.async false
set_option linter.all false
set_option maxRecDepth 100000
set_option maxHeartbeats 2000000
namespace FwK
open PySem PySem.Spec PyProof.Rows L2 Evl Fw FwR
def spE {ι : Type} (ps : ι → List V) (pre : ι → Hp → Prop) (R : ι → V → Hp → Prop) : Sp := prom ps pre fun i H v H' => Ex H H' ∧ R i v H'
def rTupOf (K : PySem.W.Frag) : List V → Hp → VK → Prop := fun xs H Q => ∃ p ys, xs = [.ref p] ∧ ((SqL K H p ys ∧ ∀ l, H l = none → Q (.ref l) (upd H l (.tup ys))) ∨ (SqT K H p ys ∧ Q (.ref p) H))
def rListOf (K : PySem.W.Frag) : List V → Hp → VK → Prop := fun xs H Q => ∃ p ys, xs = [.ref p] ∧ (SqL K H p ys ∨ SqT K H p ys) ∧ ∀ l, H l = none → Q (.ref l) (upd H l (.lst ys))
/-- tuples stay -/
def Tk (H H' : Hp) : Prop := ∀ a xs, H a = some (.tup xs) → H' a = some (.tup xs)
theorem Tk.refl (H : Hp) : Tk H H := fun _ _ h => h
theorem Tk.trans {H H1 H2 : Hp} (a : Tk H H1) (b : Tk H1 H2) : Tk H H2 := fun x o h => b x o (a x o h)
theorem Tk.of {H H' : Hp} (e : Ex H H') : Tk H H' := fun a xs h => e a _ h
theorem Tk.updl {H : Hp} {l : Addr} {xs : List V} {o : HO} (h : H l = some (.lst xs)) : Tk H (upd H l o) := fun a ys e => by
  rw [upd_ne (ne_of e h (by intro z; cases z))]
  exact e
theorem Tk.updk {H : Hp} {l : Addr} {kvs : List (Key × V)} {o : HO} (h : H l = some (.dK kvs)) : Tk H (upd H l o) := fun a ys e => by
  rw [upd_ne (ne_of e h (by intro z; cases z))]
  exact e
theorem Tk.updt {H : Hp} {l : Addr} {kvs : List (List Key × V)} {o : HO} (h : H l = some (.dT kvs)) : Tk H (upd H l o) := fun a ys e => by
  rw [upd_ne (ne_of e h (by intro z; cases z))]
  exact e
theorem Tk.new {H : Hp} {p : Addr} {o : HO} (h : H p = none) : Tk H (upd H p o) := Tk.of (Ex.new h)
/-- a relational value -/
def EvP (te : TE) (σ : L2.St) (H : Hp) (R : V → Hp → Prop) : Prop := ∀ H1, Ex H H1 → ∀ Q : VK, (∀ v H2, Ex H1 H2 → R v H2 → Q v H2) → te σ H1 Q
def EvPA (ta : TA) (σ : L2.St) (H : Hp) (R : List V → Hp → Prop) : Prop := ∀ H1, Ex H H1 → ∀ Q : List V → Hp → Prop, (∀ v H2, Ex H1 H2 → R v H2 → Q v H2) → ta σ H1 Q
section
variable {K : PySem.W.Frag} {σ : L2.St} {H H' : Hp} {ta tb te tc : TE} {t u : TT} {x y z v : V} {r : R2} {D : Ends} {tu tw tz : TS} {g : TG}
theorem EvP.mono {R : V → Hp → Prop} (e : Ex H H') (h : EvP te σ H R) : EvP te σ H' R := fun H1 a Q q => h H1 (e.trans a) Q q
theorem EvP.of (h : Ev te σ H v) : EvP te σ H (fun x _ => x = v) := fun H1 e Q q => h H1 e Q fun H2 e2 => q v H2 e2 rfl
theorem Ev.ofP (h : EvP te σ H (fun x _ => x = v)) : Ev te σ H v := fun H1 e Q q => h H1 e Q fun w H2 e2 hw => by
  rw [hw]
  exact q H2 e2
theorem EvP.imp {R R' : V → Hp → Prop} (h : EvP te σ H R) (k : ∀ v H1, Ex H H1 → R v H1 → R' v H1) : EvP te σ H R' := fun H1 e Q q => h H1 e Q fun v H2 e2 r => q v H2 e2 (k v H2 (e.trans e2) r)
theorem EvP.ofU {xs : List V} (h : EvU te σ H xs) : EvP te σ H (fun v H1 => ∃ p, v = .ref p ∧ H p = none ∧ H1 p = some (.tup xs)) := fun H1 e Q q => h H1 e Q fun p H2 np e2 hp => q _ H2 e2 ⟨p, rfl, fresh_back e np, hp⟩
theorem EvP.ofL {xs : List V} (h : EvL te σ H xs) : EvP te σ H (fun v H1 => ∃ p, v = .ref p ∧ H p = none ∧ H1 p = some (.lst xs)) := fun H1 e Q q => h H1 e Q fun p H2 np e2 hp => q _ H2 e2 ⟨p, rfl, fresh_back e np, hp⟩
theorem epa_nil : EvPA tNil σ H (fun vs _ => vs = []) := fun H1 _ Q q => q [] H1 (Ex.refl H1) rfl
theorem epa_cons {tr : TA} {R : V → Hp → Prop} {S : List V → Hp → Prop} (h : EvP ta σ H R) (hR : ∀ v H1 H2, Ex H1 H2 → R v H1 → R v H2) (hr : EvPA tr σ H S) : EvPA (tCons ta tr) σ H (fun vs H1 => ∃ v r, vs = v :: r ∧ R v H1 ∧ S r H1) := fun H1 e Q q =>
  h H1 e _ fun v H2 e2 r => hr H2 (e.trans e2) _ fun vs H3 e3 s => q _ H3 (e2.trans e3) ⟨v, vs, rfl, hR v H2 H3 e3 r, s⟩
theorem EvPA.of {vs : List V} {ta : TA} (h : EvA ta σ H vs) : EvPA ta σ H (fun x _ => x = vs) := fun H1 e Q q => h H1 e Q fun H2 e2 => q vs H2 e2 rfl
/-- a call -/
theorem ep_fd {ι : Type} {ps : ι → List V} {pre : ι → Hp → Prop} {R : ι → V → Hp → Prop} {ta : TA} {vs : List V} (i : ι) (h : EvA ta σ H vs) (e : vs = ps i) (hp : ∀ H1, Ex H H1 → pre i H1) : EvP (tCall (spE ps pre R) [] E0 ta) σ H (R i) := fun H1 e1 Q q =>
  h H1 e1 _ fun H2 e2 => ⟨i, by rw [List.append_nil]; exact e, hp H2 (e1.trans e2), fun v H3 ⟨e3, r⟩ => q v H3 (e2.trans e3) r⟩
theorem ep_fdP {ι : Type} {ps : ι → List V} {pre : ι → Hp → Prop} {R : ι → V → Hp → Prop} {R' : V → Hp → Prop} {ta : TA} {S : List V → Hp → Prop} (h : EvPA ta σ H S) (hp : ∀ vs H1, Ex H H1 → S vs H1 → ∃ i, vs = ps i ∧ pre i H1 ∧ ∀ v H2, Ex H1 H2 → R i v H2 → R' v H2) : EvP (tCall (spE ps pre R) [] E0 ta) σ H R' := fun H1 e1 Q q =>
  h H1 e1 _ fun vs H2 e2 s => by
    obtain ⟨i, e, p, k⟩ := hp vs H2 (e1.trans e2) s
    exact ⟨i, by rw [List.append_nil]; exact e, p, fun v H3 ⟨e3, r⟩ => q v H3 (e2.trans e3) (k v H3 e3 r)⟩
theorem ev_fd {ι : Type} {ps : ι → List V} {pre : ι → Hp → Prop} {z : ι → V} {ta : TA} {vs : List V} (i : ι) (h : EvA ta σ H vs) (e : vs = ps i) (hp : ∀ H1, Ex H H1 → pre i H1) : Ev (tCall (spE ps pre fun i v _ => v = z i) [] E0 ta) σ H (z i) :=
  Ev.ofP (ep_fd i h e hp)
theorem q_asgP {i : Nat} {R : V → Hp → Prop} (h : EvP te σ H R) (k : ∀ v H1, Ex H H1 → R v H1 → tz D (σ.set i (some v)) H1) : tSeq (tAsg te (gName i)) tz D σ H := h H (Ex.refl H) _ fun v H1 e r => k v H1 e r
theorem s_asgP {i : Nat} {R : V → Hp → Prop} (h : EvP te σ H R) (k : ∀ v H1, Ex H H1 → R v H1 → D.nx (σ.set i (some v)) H1) : tAsg te (gName i) D σ H := h H (Ex.refl H) _ fun v H1 e r => k v H1 e r
theorem s_retP {R : V → Hp → Prop} (h : EvP te σ H R) (k : ∀ v H1, Ex H H1 → R v H1 → D.rt v H1) : tRet te D σ H := h H (Ex.refl H) _ fun v H1 e r => k v H1 e r
theorem q_dropP {R : V → Hp → Prop} (h : EvP te σ H R) (k : ∀ v H1, Ex H H1 → R v H1 → tz D σ H1) : tSeq (tDrop te) tz D σ H := h H (Ex.refl H) _ fun v H1 e r => k v H1 e r
theorem s_retN (k : D.rt .non H) : tRetN D σ H := k
theorem et_andF (h : EvT t σ H false) : EvT (tAnd t u) σ H false := fun H1 e Q q => h H1 e _ fun H2 e2 => by
  show Q false H2
  exact q H2 e2
theorem et_andT {b : Bool} (h : EvT t σ H true) (h2 : EvT u σ H b) : EvT (tAnd t u) σ H b := et_is (et_and h fun _ => h2) (Bool.true_and b)
theorem et_orT (h : EvT t σ H true) : EvT (tOr t u) σ H true := fun H1 e Q q => h H1 e _ fun H2 e2 => by
  show Q true H2
  exact q H2 e2
theorem et_orR {b : Bool} (h : EvT t σ H false) (h2 : EvT u σ H b) : EvT (tOr t u) σ H b := et_is (et_or h fun _ => h2) (Bool.false_or b)
/-! ### operators -/
theorem ev_isi {c : V} {t u : Value} {b : Bool} (ha : Ev ta σ H x) (hb : Ev tb σ H c) (k : ClsV c u) (ty : ∀ H1, Ex H H1 → TyX K H1 x t) (e : PySem.W.kitOne K t u = some b) : Ev (tCB (rIsi K) (tCons ta (tCons tb tNil))) σ H (.bl b) := fun H1 e1 Q q =>
  ha H1 e1 _ fun H2 e2 => hb H2 (e1.trans e2) _ fun H3 e3 => ⟨x, c, t, u, b, rfl, k, ty H3 ((e1.trans e2).trans e3), e, q H3 (e2.trans e3)⟩
theorem ev_chain {g g' : Int → Int → Bool} {a b c : Int} (ha : Ev ta σ H (.int a)) (hb : Ev tb σ H (.int b)) (hc : Ev tc σ H (.int c)) : Ev (tChain (rI0 fun i j => .bl (g i j)) (rI0 fun i j => .bl (g' i j)) ta tb tc) σ H (.bl (g a b && g' b c)) := fun H1 e1 Q q =>
  ha H1 e1 _ fun H2 e2 => hb H2 (e1.trans e2) _ fun H3 e3 => ⟨a, b, rfl, rfl, g a b, rfl, by
    cases h : g a b with
    | true =>
      rw [if_pos rfl]
      exact hc H3 ((e1.trans e2).trans e3) _ fun H4 e4 => ⟨b, c, rfl, rfl, by
        have := q H4 ((e2.trans e3).trans e4)
        rw [h] at this
        exact this⟩
    | false =>
      rw [if_neg (by decide)]
      have := q H3 (e2.trans e3)
      rw [h] at this
      exact this⟩
theorem ev_lenL {p : Addr} {xs : List V} (ha : Ev ta σ H (.ref p)) (h : H p = some (.lst xs)) : Ev (tCB (Evl.rLenS K) (tCons ta tNil)) σ H (.int (xs.length : Int)) := ev_len ha (sq_of h)
theorem ev_lenT {p : Addr} {xs : List V} (ha : Ev ta σ H (.ref p)) (h : H p = some (.tup xs)) : Ev (tCB (Evl.rLenS K) (tCons ta tNil)) σ H (.int (xs.length : Int)) := fun H1 e Q q =>
  ha H1 e _ fun H2 e2 => ⟨p, xs, rfl, Or.inr (st_of (e2 p _ (e p _ h))), q H2 e2⟩
def rLenX : List V → Hp → VK → Prop := fun xs H Q => ∃ z, xs = [.str z] ∧ z.length ≤ sizeLine ∧ Q (.int z.length) H
theorem ev_lenS {s : Str} (ha : Ev ta σ H (.str s)) (h : s.length ≤ 100000) : Ev (tCB rLenX (tCons ta tNil)) σ H (.int (s.length : Int)) := fun H1 e Q q =>
  ha H1 e _ fun H2 e2 => ⟨s, rfl, sz_of h, q H2 e2⟩
theorem ev_lenD {p : Addr} {kvs : List (Key × V)} {r : List V → Hp → VK → Prop} (ha : Ev ta σ H (.ref p)) (h : H p = some (.dK kvs)) (hr : ∀ H1 Q, H1 p = some (.dK kvs) → Q (.int (kvs.length : Int)) H1 → r [.ref p] H1 Q) : Ev (tCB r (tCons ta tNil)) σ H (.int (kvs.length : Int)) := fun H1 e Q q =>
  ha H1 e _ fun H2 e2 => hr H2 _ (e2 p _ (e p _ h)) (q H2 e2)
theorem rv_ixl {p : Addr} {xs : List V} {i : Int} (h : H p = some (.lst xs)) (ha : atI xs i = some v) : RV (rIxL K) (.ref p) (.int i) H v := rv_ixL (sq_of h) ha
theorem rv_ixt {p : Addr} {xs : List V} {i : Int} (h : H p = some (.tup xs)) (ha : atI xs i = some v) : RV (rIxT K) (.ref p) (.int i) H v := rv_ixT (st_of h) ha
/-- xs[j], t[j] -/
theorem ev_ixl {p : Addr} {xs : List V} {j : Nat} (ha : Ev ta σ H (.ref p)) (hb : Ev tb σ H (.int (j : Int))) (h : H p = some (.lst xs)) (hj : xs[j]? = some v) : Ev (tOp (rIxL K) ta tb) σ H v := ev_op ha hb (rv_ixl h (atI_nat hj))
theorem ev_ixt {p : Addr} {xs : List V} {j : Nat} (ha : Ev ta σ H (.ref p)) (hb : Ev tb σ H (.int (j : Int))) (h : H p = some (.tup xs)) (hj : xs[j]? = some v) : Ev (tOp (rIxT K) ta tb) σ H v := ev_op ha hb (rv_ixt h (atI_nat hj))
theorem atI_last' {xs : List V} (h : xs.getLast? = some v) : atI xs (-1) = some v := by
  have hne : xs ≠ [] := fun e => by rw [e] at h; cases h
  have e2 : xs = xs.dropLast ++ [v] := by
    have := List.dropLast_concat_getLast hne
    rw [List.getLast?_eq_some_getLast hne] at h
    cases h
    exact this.symm
  rw [e2]
  exact atI_last _ _
theorem ev_last {p : Addr} {xs : List V} (ha : Ev ta σ H (.ref p)) (h : H p = some (.lst xs)) (hj : xs.getLast? = some v) : Ev (tOp (rIxL K) ta (tUn (rU fun i => .int (-i)) (tC (.int 1)))) σ H v :=
  ev_op ha (ev_un ev_c ru_neg) (rv_ixl h (atI_last' hj))
def rAddS : R2 := fun x y H Q => ∃ i j, x = .str i ∧ y = .str j ∧ i.length + j.length ≤ sizeLine ∧ Q (.str (i ++ j)) H
theorem rv_addS {i j : Str} (h : i.length + j.length ≤ 100000) : RV rAddS (.str i) (.str j) H (.str (i ++ j)) := fun H1 _ _ q => ⟨i, j, rfl, rfl, sz_of h, q H1 (Ex.refl H1)⟩
theorem ev_addW {a b : Word} (ha : Ev ta σ H (tx a)) (hb : Ev tb σ H (tx b)) (h : a.length + b.length ≤ 100000) : Ev (tOp rAddS ta tb) σ H (tx (a ++ b)) := ev_is (ev_op ha hb (rv_addS (by rw [T_len, T_len]; exact h))) (by rw [T_app])
theorem rv_sign {l : Let} {w : Word} : RV (fun x y H Q => ∃ (c : Nat) (z : Str), x = .str ⟨#[c]⟩ ∧ y = .str z ∧ Q (.bl (decide (c ∈ z.cps.toList))) H) (tx [l]) (tx w) H (.bl (decide (l ∈ w))) := fun H1 _ Q q => ⟨cd l, T w, rfl, rfl, by
  rw [show decide (cd l ∈ (T w).cps.toList) = decide (l ∈ w) from decide_eq_decide.mpr mem_T]
  exact q H1 (Ex.refl H1)⟩
theorem rv_eqW {a b : Word} : RV rEq (tx a) (tx b) H (.bl (decide (a = b))) := by
  rw [← T_eq]
  exact rv_eq rfl
theorem rv_neW {a b : Word} : RV rNe (tx a) (tx b) H (.bl (!decide (a = b))) := by
  rw [← T_eq]
  exact rv_ne rfl
theorem rv_eqI {a b : Int} : RV rEq (.int a) (.int b) H (.bl (decide (a = b))) := by
  have h : decide (a = b) = decide (V.int a = V.int b) := decide_eq_decide.mpr ⟨fun e => by rw [e], V.int.inj⟩
  rw [h]
  exact rv_eq rfl
theorem rv_neI {a b : Int} : RV rNe (.int a) (.int b) H (.bl (!decide (a = b))) := by
  have h : decide (a = b) = decide (V.int a = V.int b) := decide_eq_decide.mpr ⟨fun e => by rw [e], V.int.inj⟩
  rw [h]
  exact rv_ne rfl
theorem ev_isN (h : Ev ta σ H x) : Ev (tIsN ta) σ H (.bl (decide (x = .non))) := fun H1 e _ q => h H1 e _ q
theorem ev_notN (h : Ev ta σ H x) : Ev (tNotN ta) σ H (.bl (!decide (x = .non))) := fun H1 e _ q => h H1 e _ q
theorem ev_int1 {b : Bool} {r : List V → Hp → VK → Prop} (h : Ev ta σ H (.bl b)) (hr : ∀ H1 (Q : VK), Q (.int (if b then 1 else 0)) H1 → r [.bl b] H1 Q) : Ev (tCB r (tCons ta tNil)) σ H (.int (if b then 1 else 0)) := fun H1 e Q q =>
  h H1 e _ fun H2 e2 => hr H2 Q (q H2 e2)
/-! ### texts -/
theorem ev_low {l : Let} (h : Ev ta σ H (tx [l])) : Ev (tM0 (fun x xs H Q => ∃ a, x = .str a ∧ xs = [] ∧ a.length ≤ 5592405 ∧ Q (.str (Txt.lower a)) H) ta) σ H (tx [l.low]) := fun H1 e Q q =>
  h H1 e _ fun H2 e2 => ⟨⟨_, rfl⟩, T [l], rfl, rfl, by rw [T_len, List.length_singleton]; decide, by rw [T_lower]; exact q H2 e2⟩
theorem ev_up {l : Let} (h : Ev ta σ H (tx [l])) : Ev (tM0 (fun x xs H Q => ∃ a, x = .str a ∧ xs = [] ∧ a.length ≤ 5592405 ∧ Q (.str (Txt.upper a)) H) ta) σ H (tx [l.up]) := fun H1 e Q q =>
  h H1 e _ fun H2 e2 => ⟨⟨_, rfl⟩, T [l], rfl, rfl, by rw [T_len, List.length_singleton]; decide, by rw [T_upper]; exact q H2 e2⟩
theorem ev_rev {w : Word} (h : Ev ta σ H (tx w)) (hw : w.length ≤ 100000) : Ev (tRevS ta) σ H (tx w.reverse) := fun H1 e Q q =>
  h H1 e _ fun H2 e2 => ⟨T w, rfl, sz_of (by rw [T_len]; exact hw), by rw [T_rev]; exact q H2 e2⟩
theorem ev_take {w : Word} {th : TE} {n : Nat} (h : Ev ta σ H (tx w)) (hn : Ev th σ H (.int (n : Int))) (hw : w.length ≤ 100000) : Ev (tSl rSlS ta tNoPart (tPart th)) σ H (tx (w.take n)) := fun H1 e Q q =>
  h H1 e _ fun H2 e2 => hn H2 (e.trans e2) _ fun H3 e3 => ⟨_, rfl, T w, rfl, sz_of (by rw [T_len]; exact hw), by rw [T_take]; exact q H3 (e2.trans e3)⟩
theorem ev_char {w : Word} {l : Let} {j : Nat} (h : Ev ta σ H (tx w)) (hi : Ev tb σ H (.int (j : Int))) (hw : w.length ≤ 100000) (hj : w[j]? = some l) : Ev (tOp rIxS ta tb) σ H (tx [l]) :=
  ev_op h hi (rv_ixS (by rw [T_len]; exact hw) (atI_nat (by rw [T_list, List.getElem?_map, hj]; rfl)))
theorem ev_lastS {w : Word} {l : Let} (h : Ev ta σ H (tx w)) (hw : w.length ≤ 100000) (hj : w.getLast? = some l) : Ev (tOp rIxS ta (tUn (rU fun i => .int (-i)) (tC (.int 1)))) σ H (tx [l]) := by
  have hne : w ≠ [] := fun e => by rw [e] at hj; cases hj
  have e2 : w = w.dropLast ++ [l] := by
    have := List.dropLast_concat_getLast hne
    rw [List.getLast?_eq_some_getLast hne] at hj
    cases hj
    exact this.symm
  refine ev_op h (ev_un ev_c ru_neg) (rv_ixS (by rw [T_len]; exact hw) ?_)
  rw [T_list, e2, List.map_append]
  exact atI_last _ _
theorem ev_join {p : Addr} {ws : List Word} {r : V → List V → Hp → VK → Prop} (h : Ev te σ H (.ref p)) (hp : H p = some (.lst (ws.map tx))) (hz : ws.flatten.length ≤ 100000)
    (hr : r = fun x xs H Q => ∃ a p, ∃ ys : List Str, x = .str a ∧ xs = [.ref p] ∧ (SqL K H p (ys.map V.str) ∨ SqT K H p (ys.map V.str)) ∧ (ys.map (·.length)).sum + ys.length * a.length ≤ 16777216 ∧ Q (.str (Txt.join a ys)) H) :
    Ev (tM1 r (tC (.str (Str.ofString ""))) te) σ H (tx ws.flatten) := fun H1 e Q q => ⟨⟨_, rfl⟩, h H1 e _ fun H2 e2 => by
  rw [hr]
  refine ⟨T [], p, ws.map T, rfl, rfl, .inl ?_, ?_, ?_⟩
  · have h0 : (ws.map T).map V.str = ws.map tx := by rw [List.map_map]; rfl
    rw [h0]
    exact sq_of (e2 p _ (e p _ hp))
  · have h1 : ((ws.map T).map (·.length)).sum = ws.flatten.length := by
      rw [List.map_map, List.length_flatten]
      congr 1
      apply List.map_congr_left
      intro w _
      exact T_len w
    have h2 : (T []).length = 0 := rfl
    rw [h1, h2]
    omega
  · rw [T_join]
    exact q H2 e2⟩
theorem ev_joinL {ws : List Word} {r : V → List V → Hp → VK → Prop} (h : EvL te σ H (ws.map tx)) (hz : ws.flatten.length ≤ 100000)
    (hr : r = fun x xs H Q => ∃ a p, ∃ ys : List Str, x = .str a ∧ xs = [.ref p] ∧ (SqL K H p (ys.map V.str) ∨ SqT K H p (ys.map V.str)) ∧ (ys.map (·.length)).sum + ys.length * a.length ≤ 16777216 ∧ Q (.str (Txt.join a ys)) H) :
    Ev (tM1 r (tC (.str (Str.ofString ""))) te) σ H (tx ws.flatten) := fun H1 e Q q => ⟨⟨_, rfl⟩, h H1 e _ fun p H2 np e2 hp => by
  have := ev_join (K := K) (te := tC (.ref p)) (σ := σ) (r := r) (ev_c (H := H2)) hp hz hr H2 (Ex.refl H2) Q (fun H3 e3 => q H3 (e2.trans e3))
  obtain ⟨_, this⟩ := this
  exact this⟩
/-! ### targets -/
theorem g2 {p : Addr} {i j : Nat} {Q : L2.St → Hp → Prop} (h : H p = some (.tup [x, y])) (k : Q ((σ.set i (some x)).set j (some y)) H) : gTup K 2 (gCons (gName i) (gCons (gName j) gNil)) (.ref p) σ H Q :=
  ⟨p, _, rfl, st_of h, rfl, _, _, rfl, _, _, rfl, rfl, k⟩
theorem g3 {p : Addr} {i j l : Nat} {Q : L2.St → Hp → Prop} (h : H p = some (.tup [x, y, z])) (k : Q (((σ.set i (some x)).set j (some y)).set l (some z)) H) : gTup K 3 (gCons (gName i) (gCons (gName j) (gCons (gName l) gNil))) (.ref p) σ H Q :=
  ⟨p, _, rfl, st_of h, rfl, _, _, rfl, _, _, rfl, _, _, rfl, rfl, k⟩
/-! ### loops -/
theorem s_forS {s : Str} {tl : TE} {j : Nat} (h : Ev tl σ H (.str s)) (Pv : Nat → L2.St → Hp → Prop) (h0 : ∀ H1, Ex H H1 → Pv 0 σ H1)
    (hs : ∀ i c σ' H', s.cps[i]? = some c → Pv i σ' H' → tu { D with nx := Pv (i + 1), ct := Pv (i + 1), bk := D.nx } (σ'.set j (some (.str ⟨#[c]⟩))) H') (hd : ∀ σ' H', Pv s.cps.size σ' H' → D.nx σ' H') : tFor (iStr tl) (gName j) tu D σ H :=
  h H (Ex.refl H) _ fun H1 e => ⟨s, rfl, for_it walk_str Pv (h0 H1 e) (fun _ _ _ _ _ => trivial) (fun i x σ2 H2 H' hi p ⟨e, c, hc, ex⟩ => by
    subst e ex
    exact hs i c _ _ hc p) hd⟩
/-- letter by letter -/
theorem s_forW {w : Word} {tl : TE} {j : Nat} (h : Ev tl σ H (tx w)) (Pv : Nat → L2.St → Hp → Prop) (h0 : ∀ H1, Ex H H1 → Pv 0 σ H1)
    (hs : ∀ i l σ' H', w[i]? = some l → Pv i σ' H' → tu { D with nx := Pv (i + 1), ct := Pv (i + 1), bk := D.nx } (σ'.set j (some (tx [l]))) H') (hd : ∀ σ' H', Pv w.length σ' H' → D.nx σ' H') : tFor (iStr tl) (gName j) tu D σ H :=
  s_forS h Pv h0 (fun i c σ' H' hc p => by
    rw [T_get] at hc
    cases hl : w[i]? with
    | none => rw [hl] at hc; cases hc
    | some l =>
      rw [hl] at hc
      cases hc
      exact hs i l σ' H' hl p) (fun σ' H' p => hd σ' H' (by rw [T_size] at p; exact p))
theorem q_forW {w : Word} {tl : TE} {j : Nat} (h : Ev tl σ H (tx w)) (Pv : Nat → L2.St → Hp → Prop) (h0 : ∀ H1, Ex H H1 → Pv 0 σ H1)
    (hs : ∀ i l σ' H', w[i]? = some l → Pv i σ' H' → tu { D with nx := Pv (i + 1), ct := Pv (i + 1), bk := tz D } (σ'.set j (some (tx [l]))) H') (hd : ∀ σ' H', Pv w.length σ' H' → tz D σ' H') : tSeq (tFor (iStr tl) (gName j) tu) tz D σ H :=
  s_forW (D := { D with nx := tz D }) h Pv h0 hs hd
/-- over a new tuple -/
theorem s_forNT {xs : List V} {tl : TE} {g : TG} (h : EvU tl σ H xs) (Pv : Addr → Nat → L2.St → Hp → Prop) (h0 : ∀ p H1, H p = none → Ex H H1 → H1 p = some (.tup xs) → Pv p 0 σ H1) (hl : ∀ p i σ' H', i ≤ xs.length → Pv p i σ' H' → H' p = some (.tup xs))
    (hs : ∀ p i x σ' H', xs[i]? = some x → Pv p i σ' H' → g x σ' H' fun σ2 H2 => tu { D with nx := Pv p (i + 1), ct := Pv p (i + 1), bk := D.nx } σ2 H2) (hd : ∀ p σ' H', Pv p xs.length σ' H' → D.nx σ' H') : tFor (iTup K tl) g tu D σ H :=
  h H (Ex.refl H) _ fun p H1 hp e h1 => ⟨p, rfl, ⟨xs, st_of h1⟩, for_tup (Pv p) (h0 p H1 hp e h1) (fun i σ' H' hi q => st_of (hl p i σ' H' hi q)) (hs p) (hd p)⟩
/-- pop() -/
theorem s_pop {l : Addr} {xs : List V} {y : V} (hl : H l = some (.lst xs)) (ha : Ev ta σ H (.ref l)) (hy : xs.getLast? = some y) (k : ∀ H1, Ex H H1 → D.nx σ (upd H1 l (.lst xs.dropLast))) : tDrop (tBM0 K "list" rPop ta) D σ H := ha H (Ex.refl H) _ fun H1 e1 =>
  ⟨Or.inl ⟨rfl, xs, sq_of (e1 l _ hl)⟩, l, xs, y, rfl, rfl, e1 l _ hl, by rw [← List.getLast?_eq_getElem?]; exact hy, k H1 e1⟩
/-! ### comprehensions: the texts' letters -/
theorem el_lcW {w : Word} {tl : TE} {j : Nat} {vs : List Nat} (f : Let → V) (h : Ev tl σ H (tx w)) (hz : w.length ≤ 100000) (hw : ∀ x, wipe ((wipe σ vs).set j (some x)) vs = wipe σ vs)
    (he : ∀ (l : Let) H1, Ex H H1 → l ∈ w → Ev te ((wipe σ vs).set j (some (tx [l]))) H1 (f l)) : EvL (tLc (iStr tl) (gName j) tYes te vs) σ H (w.map f) := fun H0 e Q q => h H0 e _ fun H1 e1 => ⟨T w, rfl, fun Dl hD =>
  lc_it walk_str (fun i H' => Ex H1 H' ∧ H' Dl = some (.lst ((w.take i).map f))) ⟨Ex.new hD, upd_same⟩ (fun _ _ _ _ => trivial) (fun i x H2 H' hi p ⟨e2, c, hc, ex⟩ => by
    subst e2 ex
    rw [T_get] at hc
    cases hl : w[i]? with
    | none => rw [hl] at hc; cases hc
    | some l =>
      rw [hl] at hc
      cases hc
      refine ⟨hw _, ?_⟩
      refine he l H' ((e.trans e1).trans p.1) (List.mem_of_getElem? hl) H' (Ex.refl H') _ fun H4 e4 => ⟨_, e4 Dl _ p.2, ?_, Ex.mut (p.1.trans e4) hD, ?_⟩
      · rw [List.length_map, List.length_take]
        exact sz_lt (by have := (List.getElem?_eq_some_iff.mp hl).1; omega)
      · rw [upd_same, List.take_add_one, hl, List.map_append]
        rfl) (fun H' p => q Dl H' (fresh_back e1 hD) (e1.trans p.1) (by
      rw [p.2, T_size, List.take_length]))⟩
/-- over what a walk gives, the heap as it was -/
theorem el_lcX {n : Nat} {J : It} {G : Hp → Prop} {tt : TT} {g : TG} {vs : List Nat} {H1 : Hp} {xs : List V} {Qd : Addr → Hp → Prop} (W : Walk J n G (YAt xs)) (hn : n = xs.length) (hz : n ≤ 100000) (c : Nat → Bool) (f : Nat → V) (hG : ∀ H2, Ex H1 H2 → G H2)
    (ht : ∀ i x H2 (Q : L2.St → Hp → Prop), xs[i]? = some x → Ex H1 H2 → (∀ σ2, wipe σ2 vs = wipe σ vs → EvT tt σ2 H2 (c i) → (c i = true → Ev te σ2 H2 (f i)) → Q σ2 H2) → g x (wipe σ vs) H2 Q)
    (Dl : Addr) (hD : H1 Dl = none) (q : ∀ H2, Ex H1 H2 → H2 Dl = some (.lst (((List.range n).filter c).map f)) → Qd Dl H2) :
    ∃ W : Nat → Nat → Hp → Prop, (∃ m, W 0 m (upd H1 Dl (.lst []))) ∧ ∀ i m H, W i m H →
      (J.stop i H ∧ Qd Dl H) ∨ (J.go i H ∧ ∃ Nx : Hp → Prop, (∀ H', Nx H' → ∃ m', m' < m ∧ W (i + 1) m' H') ∧ ∀ x H', J.yld i H x H' → g x (wipe σ vs) H' fun σ2 H2 => wipe σ2 vs = wipe σ vs ∧ tt σ2 H2 fun b H3 =>
        if b = true then te σ2 H3 fun y H4 => ∃ acc, H4 Dl = some (.lst acc) ∧ acc.length < sizeLine ∧ Nx (upd H4 Dl (.lst (acc ++ [y]))) else Nx H3) :=
  lc_it W (fun i H' => Ex H1 H' ∧ H' Dl = some (.lst (((List.range i).filter c).map f))) ⟨Ex.new hD, upd_same⟩ (fun i H' hi p => hG H' p.1) (fun i x H2 H' hi p ⟨e2, hx⟩ => by
    subst e2
    refine ht i x H' _ hx p.1 fun σ2 hw ht he => ⟨hw, ht H' (Ex.refl H') _ fun H3 e3 => ?_⟩
    cases hc : c i with
    | true =>
      rw [if_pos rfl]
      refine he hc H3 e3 _ fun H4 e4 => ⟨_, e4 Dl _ (e3 Dl _ p.2), ?_, Ex.mut ((p.1.trans e3).trans e4) hD, ?_⟩
      · have := List.length_filter_le c (List.range i)
        rw [List.length_map]
        rw [List.length_range] at this
        exact sz_lt (by omega)
      · rw [upd_same, List.range_succ, List.filter_append, List.map_append, List.filter_cons, if_pos hc] <;> rfl
    | false =>
      rw [if_neg (by decide)]
      refine ⟨p.1.trans e3, ?_⟩
      rw [e3 Dl _ p.2, List.range_succ, List.filter_append, List.filter_cons, if_neg (by rw [hc]; decide)]
      show _ = some (HO.lst ((_ ++ []).map f))
      rw [List.append_nil]) (fun H' p => q H' p.1 p.2)
theorem el_lcTup {a : Addr} {xs : List V} {tl : TE} {tt : TT} {g : TG} {vs : List Nat} (c : Nat → Bool) (f : Nat → V) (h : Ev tl σ H (.ref a)) (hx : H a = some (.tup xs)) (hz : xs.length ≤ 100000)
    (ht : ∀ i x H2 (Q : L2.St → Hp → Prop), xs[i]? = some x → Ex H H2 → (∀ σ2, wipe σ2 vs = wipe σ vs → EvT tt σ2 H2 (c i) → (c i = true → Ev te σ2 H2 (f i)) → Q σ2 H2) → g x (wipe σ vs) H2 Q) :
    EvL (tLc (iTup K tl) g tt te vs) σ H (((List.range xs.length).filter c).map f) := fun H1 e1 Q q =>
  h H1 e1 _ fun H2 e2 => ⟨a, rfl, ⟨xs, st_of (e2 _ _ (e1 _ _ hx))⟩, fun Dl hD =>
    el_lcX (H1 := H2) (walk_tup (xs := xs)) rfl hz c f (fun H3 e3 => st_of (e3 _ _ (e2 _ _ (e1 _ _ hx)))) (fun i x H3 Q' hi e3 k => ht i x H3 Q' hi (e1.trans (e2.trans e3)) k) Dl hD (Qd := fun Dl H => Q (.ref Dl) H) fun H3 e3 hl => q Dl H3 (fresh_back e2 hD) (e2.trans e3) hl⟩
theorem el_lcLst {a : Addr} {xs : List V} {tl : TE} {tt : TT} {g : TG} {vs : List Nat} (c : Nat → Bool) (f : Nat → V) (h : Ev tl σ H (.ref a)) (hx : H a = some (.lst xs)) (hz : xs.length ≤ 100000)
    (ht : ∀ i x H2 (Q : L2.St → Hp → Prop), xs[i]? = some x → Ex H H2 → (∀ σ2, wipe σ2 vs = wipe σ vs → EvT tt σ2 H2 (c i) → (c i = true → Ev te σ2 H2 (f i)) → Q σ2 H2) → g x (wipe σ vs) H2 Q) :
    EvL (tLc (iList K tl) g tt te vs) σ H (((List.range xs.length).filter c).map f) := fun H1 e1 Q q =>
  h H1 e1 _ fun H2 e2 => ⟨a, rfl, ⟨xs, sq_of (e2 _ _ (e1 _ _ hx))⟩, fun Dl hD =>
    el_lcX (H1 := H2) (walk_list (xs := xs)) rfl hz c f (fun H3 e3 => sq_of (e3 _ _ (e2 _ _ (e1 _ _ hx)))) (fun i x H3 Q' hi e3 k => ht i x H3 Q' hi (e1.trans (e2.trans e3)) k) Dl hD (Qd := fun Dl H => Q (.ref Dl) H) fun H3 e3 hl => q Dl H3 (fresh_back e2 hD) (e2.trans e3) hl⟩
theorem el_lcNew {xs : List V} {tl : TE} {tt : TT} {g : TG} {vs : List Nat} (c : Nat → Bool) (f : Nat → V) (h : EvL tl σ H xs) (hz : xs.length ≤ 100000)
    (ht : ∀ i x H2 (Q : L2.St → Hp → Prop), xs[i]? = some x → Ex H H2 → (∀ σ2, wipe σ2 vs = wipe σ vs → EvT tt σ2 H2 (c i) → (c i = true → Ev te σ2 H2 (f i)) → Q σ2 H2) → g x (wipe σ vs) H2 Q) :
    EvL (tLc (iList K tl) g tt te vs) σ H (((List.range xs.length).filter c).map f) := fun H1 e1 Q q =>
  h H1 e1 _ fun a H2 na e2 hx => ⟨a, rfl, ⟨xs, sq_of hx⟩, fun Dl hD =>
    el_lcX (H1 := H2) (walk_list (xs := xs)) rfl hz c f (fun H3 e3 => sq_of (e3 _ _ hx)) (fun i x H3 Q' hi e3 k => ht i x H3 Q' hi (e1.trans (e2.trans e3)) k) Dl hD (Qd := fun Dl H => Q (.ref Dl) H) fun H3 e3 hl => q Dl H3 (fresh_back e2 hD) (e2.trans e3) hl⟩
theorem et_yes : EvT tYes σ H true := fun H1 _ _ q => q H1 (Ex.refl H1)
theorem range_all (n : Nat) : (List.range n).filter (fun _ => true) = List.range n := List.filter_eq_self.mpr fun _ _ => rfl
/-- a list given item by item -/
theorem range_map {α β : Type} (xs : List α) (f : Nat → β) (g : α → β) (h : ∀ i x, xs[i]? = some x → f i = g x) : (List.range xs.length).map f = xs.map g := by
  apply List.ext_getElem?
  intro i
  rw [List.getElem?_map, List.getElem?_map]
  by_cases hi : i < xs.length
  · rw [List.getElem?_range hi, List.getElem?_eq_getElem hi]
    show some (f i) = some (g xs[i])
    rw [h i _ (List.getElem?_eq_getElem hi)]
  · rw [List.getElem?_eq_none (by rw [List.length_range]; omega), List.getElem?_eq_none (by omega)]
    rfl
theorem ev_all {bs : List Bool} {ta : TE} (h : EvL ta σ H (bs.map V.bl)) : Ev (tCB (rAll K) (tCons ta tNil)) σ H (.bl (bs.all id)) := fun H1 e Q q =>
  h H1 e _ fun p H2 _ e2 hp => ⟨p, bs, rfl, sq_of hp, q H2 e2⟩
theorem ev_sum {ns : List Int} {ta : TE} (h : EvL ta σ H (ns.map V.int)) : Ev (tCB (rSum K) (tCons ta tNil)) σ H (.int ns.sum) := fun H1 e Q q =>
  h H1 e _ fun p H2 _ e2 hp => ⟨p, ns, rfl, sq_of hp, q H2 e2⟩
end
end FwK
end

section
set_option Elab.async false
set_option linter.all false
set_option maxRecDepth 100000
set_option maxHeartbeats 2000000
namespace FwK
open PySem PySem.Spec PyProof.Rows L2 Evl Fw FwR
section
variable {P : Program} {w : World} {K : PySem.W.Frag} {mg : Str → Option Value} {base : Heap}
/-! ### foldedways.words -/
/-- all letters of w are among the first 2 r -/
def InR (r : Nat) (w : Word) : Prop := ∀ l ∈ w, l.idx < 2 * r
def lets (r : Nat) : Word := six.take (2 * r)
theorem mem_lets (l : Let) (r : Nat) (h1 : 1 ≤ r) (h3 : r ≤ 3) : l ∈ lets r ↔ l.idx < 2 * r := by
  have h : r = 1 ∨ r = 2 ∨ r = 3 := by omega
  rcases h with e | e | e <;> subst e <;> cases l <;> decide
abbrev spBetween : Sp := spE (fun i : Int × Int × Int => [.int i.1, .int i.2.1, .int i.2.2]) (fun i _ => i.2.1 ≤ i.1 ∧ i.1 ≤ i.2.2) (fun _ v _ => v = .bl true)
theorem ok_is_between (B : Bs mg) (F : Fx K mg "is_between" s_is_between pn_is_between) : Fd P w K mg base "is_between" pn_is_between 1 spBetween := by
  refine F.fd sc_is_between (fun _ => rfl) fun i f cdv A outer s H Q hr hp q E => ?_
  refine ⟨_, (pss_one (ps_ret (pe_and (pe_callB (r := rIsi K) call_isi (by rfl) B.z_isinstance (by decide +kernel) (pa_cons (pv 0) (pa_cons (pe_bltn (v := .ty "int") (by rfl) B.z_int (by decide +kernel) rfl) pa_nil))) (pe_and (pe_not (pe_callB (r := rIsi K) call_isi (by rfl) B.z_isinstance (by decide +kernel) (pa_cons (pv 0) (pa_cons (pe_bltn (v := .ty "bool") (by rfl) B.z_bool (by decide +kernel) rfl) pa_nil)))) (pe_one (pe_chain op_le op_le (pv 1) (pv 0) (pv 2))))))), ?_⟩
  obtain ⟨a, b, c⟩ := i
  refine s_ret (v := .bl (true && (!false && (decide (b ≤ a) && decide (a ≤ c))))) (ev_andV (ev_isi (ev_var rfl) ev_c (.ty _) (fun _ _ => .base (.int _)) (kit_ty (by decide +kernel))) fun _ =>
    ev_andV (ev_notV (ev_isi (ev_var rfl) ev_c (.ty _) (fun _ _ => .base (.int _)) (kit_ty (by decide +kernel)))) fun _ => ev_chain (ev_var rfl) (ev_var rfl) (ev_var rfl)) fun H1 e1 => q _ _ ⟨e1, ?_⟩
  rw [decide_eq_true hp.1, decide_eq_true hp.2]
  rfl
abbrev spRank : Sp := spE (fun i : Nat => [.int (i : Int)]) (fun i _ => 1 ≤ i ∧ i ≤ 3) (fun _ v _ => v = .bl true)
theorem ok_is_rank (B : Bs mg) (F : Fx K mg "is_rank" s_is_rank pn_is_rank) (g_is_between : Fd P w K mg base "is_between" pn_is_between 1 spBetween) : Fd P w K mg base "is_rank" pn_is_rank 2 spRank := by
  refine F.fd sc_is_rank (fun _ => rfl) fun i f cdv A outer s H Q hr hp q E => ?_
  refine ⟨_, (pss_one (ps_ret (pe_fd g_is_between (hr.mono (by decide)) (by rfl) (pa_cons (pv 0) (pa_cons pe_int (pa_cons (pe_k B.c_MOST_RANK) pa_nil)))))), ?_⟩
  refine s_ret (ev_fd ((i : Int), 1, 3) (ea_cons (ev_var rfl) (ea_cons ev_c (ea_cons ev_c ea_nil))) rfl fun _ _ => ⟨by show (1 : Int) ≤ (i : Int); omega, by show (i : Int) ≤ 3; omega⟩) fun H1 e1 => q _ _ ⟨e1, rfl⟩
abbrev spLetters : Sp := spE (fun i : Nat => [.int (i : Int)]) (fun i _ => 1 ≤ i ∧ i ≤ 3) (fun i v _ => v = tx (lets i))
theorem ok_letters_of (B : Bs mg) (F : Fx K mg "letters_of" s_letters_of pn_letters_of) : Fd P w K mg base "letters_of" pn_letters_of 1 spLetters := by
  refine F.fd sc_letters_of (fun _ => rfl) fun i f cdv A outer s H Q hr hp q E => ?_
  refine ⟨_, (pss_one (ps_ret (pe_slice sl_str (pe_k B.c_LETTERS) po_none (po_some (pe_op op_mul pe_int (pv 0)))))), ?_⟩
  have h6 : V.str "aAbBcC" = tx six := by rw [six_eq]
  refine s_ret (ev_take (w := six) (n := 2 * i) (ev_is ev_c h6) (ev_is (ev_op ev_c (ev_var rfl) (rv_I (Or.inl ⟨by decide, by decide⟩))) (by rw [Int.natCast_mul]; rfl)) (by decide)) fun H1 e1 => q _ _ ⟨e1, rfl⟩
abbrev spAreLetters : Sp := spE (fun i : Word × Nat => [tx i.1, .int (i.2 : Int)]) (fun i _ => 1 ≤ i.2 ∧ i.2 ≤ 3 ∧ InR i.2 i.1 ∧ i.1.length ≤ 1000) (fun i v _ => v = .bl true)
theorem ok_is_letters (B : Bs mg) (F : Fx K mg "is_letters" s_is_letters pn_is_letters) (g_letters_of : Fd P w K mg base "letters_of" pn_letters_of 1 spLetters) : Fd P w K mg base "is_letters" pn_is_letters 2 spAreLetters := by
  refine F.fd sc_is_letters (fun _ => rfl) fun i f cdv A outer s H Q hr hp q E => ?_
  refine ⟨_, (pss_one (ps_ret (pe_and (pe_callB (r := rIsi K) call_isi (by rfl) B.z_isinstance (by decide +kernel) (pa_cons (pv 0) (pa_cons (pe_bltn (v := .ty "str") (by rfl) B.z_str (by decide +kernel) rfl) pa_nil))) (pe_one (pe_callB (r := rAll K) (cr_all rfl) (by rfl) B.z_all (by decide +kernel) (pa_cons (pe_lc (own := [("letter", 2)]) (g := (gName 2)) rfl sc_is_letters.nd  (pi_str (pv 0)) (blkOk_by (N := nm_is_letters) (sc := defScope s_is_letters) (by decide +kernel)) (fun _ _ _ _ _ => (pg_name (i := 2) sc_is_letters.nd rfl (Or.inl rfl))) (fun _ _ _ _ _ => pts_nil) (fun _ _ _ _ _ => (pe_cmpR op_in_sign (pv 2) (pe_fd g_letters_of (hr.mono (by decide)) (by rfl) (pa_cons (pv 1) pa_nil)) (by rfl)))) pa_nil)))))), ?_⟩
  obtain ⟨u, r⟩ := i
  obtain ⟨h1, h2, h3, h4⟩ := hp
  dsimp only at h1 h2 h3 h4
  have eb : u.map (fun l => V.bl (decide (l ∈ lets r))) = (u.map (fun l => decide (l ∈ lets r))).map V.bl := by rw [List.map_map]; rfl
  refine s_ret (v := .bl (true && ((u.map fun l => decide (l ∈ lets r)).all id))) (ev_andV (ev_isi (ev_var rfl) ev_c (.ty _) (fun _ _ => .base (.str _)) (kit_ty (by decide +kernel))) fun _ =>
    ev_all (by
      rw [← eb]
      exact el_lcW (fun l => V.bl (decide (l ∈ lets r))) (ev_var rfl) (by omega) (fun _ => rfl) fun l H1 e1 hl => ev_op (ev_var rfl) (ev_fd r (ea_cons (ev_var rfl) ea_nil) rfl fun _ _ => ⟨h1, h2⟩) rv_sign)) fun H1 e1 => q _ _ ⟨e1, ?_⟩
  have : ((u.map fun l => decide (l ∈ lets r)).all id) = true := by
    rw [List.all_map, List.all_eq_true]
    intro l hl
    exact decide_eq_true ((mem_lets l r h1 h2).mpr (h3 l hl))
  rw [this]
  rfl
abbrev spIsWord : Sp := spE (fun i : Word × Nat => [tx i.1, .int (i.2 : Int)]) (fun i _ => 1 ≤ i.2 ∧ i.2 ≤ 3 ∧ InR i.2 i.1 ∧ i.1.length ≤ 24) (fun i v _ => v = .bl true)
theorem ok_is_word (B : Bs mg) (F : Fx K mg "is_word" s_is_word pn_is_word) (g_is_rank : Fd P w K mg base "is_rank" pn_is_rank 2 spRank) (g_is_letters : Fd P w K mg base "is_letters" pn_is_letters 2 spAreLetters) : Fd P w K mg base "is_word" pn_is_word 3 spIsWord := by
  refine F.fd sc_is_word (fun _ => rfl) fun i f cdv A outer s H Q hr hp q E => ?_
  refine ⟨_, (pss_one (ps_ret (pe_and (pe_fd g_is_rank (hr.mono (by decide)) (by rfl) (pa_cons (pv 1) pa_nil)) (pe_and (pe_fd g_is_letters (hr.mono (by decide)) (by rfl) (pa_cons (pv 0) (pa_cons (pv 1) pa_nil))) (pe_one (pe_cmpR op_le (pe_callB (r := rLenX) call_len_str (by rfl) B.z_len PySem.boot_len (pa_cons (pv 0) pa_nil)) (pe_k B.c_LONGEST) (nomark _))))))), ?_⟩
  obtain ⟨u, r⟩ := i
  obtain ⟨h1, h2, h3, h4⟩ := hp
  dsimp only at h1 h2 h3 h4
  refine s_ret (v := .bl (true && (true && decide ((u.length : Int) ≤ 24)))) (ev_andV (ev_fd r (ea_cons (ev_var rfl) ea_nil) rfl fun _ _ => ⟨h1, h2⟩) fun _ =>
    ev_andV (ev_fd (u, r) (ea_cons (ev_var rfl) (ea_cons (ev_var rfl) ea_nil)) rfl fun _ _ => ⟨h1, h2, h3, Nat.le_trans h4 (by decide)⟩) fun _ => ev_op (ev_is (ev_lenS (ev_var rfl) (by rw [T_len]; exact Nat.le_trans h4 (by decide))) (by rw [T_len])) ev_c rv_I0) fun H1 e1 => q _ _ ⟨e1, ?_⟩
  rw [decide_eq_true (by omega)]
  rfl
abbrev spOpp : Sp := spE (fun l : Let => [tx [l]]) (fun _ _ => True) (fun l v _ => v = tx [l.flip])
theorem ok_opposite_of (B : Bs mg) (F : Fx K mg "opposite_of" s_opposite_of pn_opposite_of) : Fd P w K mg base "opposite_of" pn_opposite_of 1 spOpp := by
  refine F.fd sc_opposite_of (fun _ => rfl) fun i f cdv A outer s H Q hr hp q E => ?_
  refine ⟨_, (pss_one (ps_ret (pe_ifExp (pt_cmpR op_eq (pv 0) (pe_upper (pv 0)) (nomark _)) (pe_lower (pv 0)) (pe_upper (pv 0))))), ?_⟩
  refine s_ret (v := tx [i.flip]) (ev_if (et_test (ev_op (ev_var rfl) (ev_up (ev_var rfl)) rv_eqW)) (fun h => ev_is (ev_low (ev_var rfl)) ?_) (fun h => ev_is (ev_up (ev_var rfl)) ?_)) fun H1 e1 => q _ _ ⟨e1, rfl⟩
  · have : [i] = [i.up] := of_decide_eq_true h
    cases i <;> first | rfl | (exact absurd this (by decide))
  · have : ¬ [i] = [i.up] := of_decide_eq_false h
    cases i <;> first | rfl | (exact absurd rfl this)
abbrev spRed : Sp := spE (fun i : Word => [tx i]) (fun i _ => i.length ≤ 1000) (fun i v _ => v = tx (red i))
theorem stk_len : ∀ (w acc : Word), (stk acc w).length ≤ acc.length + w.length
  | [], acc => by simp [stk]
  | x :: r, acc => by
    have h1 := stk_len r (red1 acc x)
    have h2 : (red1 acc x).length ≤ acc.length + 1 := by
      cases acc with
      | nil => exact Nat.le_refl _
      | cons t s =>
        show (if t = x.flip then s else x :: t :: s).length ≤ _
        by_cases h : t = x.flip
        · rw [if_pos h]
          simp only [List.length_cons]
          omega
        · rw [if_neg h]
          exact Nat.le_refl _
    show (stk (red1 acc x) r).length ≤ _
    simp only [List.length_cons]
    omega
theorem ok_reduce_of (B : Bs mg) (F : Fx K mg "reduce_of" s_reduce_of pn_reduce_of) (g_opposite_of : Fd P w K mg base "opposite_of" pn_opposite_of 1 spOpp) : Fd P w K mg base "reduce_of" pn_reduce_of 2 spRed := by
  refine F.fd sc_reduce_of (fun _ => rfl) fun u f cdv A outer s H Q hr hp q E => ?_
  refine ⟨_, (pss_cons (ps_asg (pe_lst pa_nil) (pg_name (i := 1) sc_reduce_of.nd rfl (Or.inl rfl)))
    (pss_cons (ps_for PassesOwn.never rfl (pi_str (pv 0)) (pg_name (i := 2) sc_reduce_of.nd rfl (Or.inl rfl)) (pss_one (ps_if (PW.pt (pw_and (pt_cmpR op_gt (pe_callB (r := Evl.rLenS K) call_len_seq (by rfl) B.z_len PySem.boot_len (pa_cons (pv 1) pa_nil)) pe_int (nomark _)) (pw_and1 (pt_cmpR op_eq (pe_ix (r := rIxL K) ix_list (pv 1) (pe_un un_neg pe_int) (fun _ _ => rfl)) (pe_fd g_opposite_of (hr.mono (by decide)) (by rfl) (pa_cons (pv 2) pa_nil)) (nomark _))))) (pss_one (ps_expr (pe_bm0K K rfl (pe_bm0 PySem.F.plainAttrs_list PySem.F.slot_list_pop PySem.F.type_list_pop mt_pop (pv 1))))) (pss_one (ps_expr (pe_bmK K rfl (pe_bm PySem.F.plainAttrs_list PySem.F.slot_list_append PySem.F.type_list_append mt_append (pv 1) (pa_cons (pv 2) pa_nil))))))))
    (pss_one (ps_ret (pe_join pe_str (pv 1)))))), ?_⟩
  refine q_asgL (el_lst ea_nil (Nat.zero_le _)) fun o H1 no e1 ho => ?_
  refine q_forW (w := u) (ev_var rfl) (fun j σ H2 => ∃ y, σ = [some (tx u), some (.ref o), y] ∧ Ex H H2 ∧ H2 o = some (.lst ((stk [] (u.take j)).reverse.map fun l => tx [l]))) ?_ ?_ ?_
  · intro H2 e2
    exact ⟨none, rfl, e1.trans e2, e2 _ _ ho⟩
  · rintro j l σ H2 hj ⟨y, rfl, e2, h2⟩
    have hju := (List.getElem?_eq_some_iff.mp hj).1
    generalize hst : stk [] (u.take j) = st at h2
    have est : stk [] (u.take (j + 1)) = red1 st l := by
      rw [List.take_add_one, hj, ← hst]
      show List.foldl red1 [] (_ ++ [l]) = _
      rw [List.foldl_append]
      rfl
    have hl : st.length ≤ 1000 := by
      have := stk_len (u.take j) []
      rw [hst, List.length_take] at this
      simp only [List.length_nil] at this
      omega
    rw [est]
    cases st with
    | nil =>
      refine s_if (b := false) (et_is (et_and (b := false) (et_test (ev_op (ev_lenL (ev_var rfl) h2) ev_c rv_I0)) fun h => absurd h (by decide)) rfl) (fun h => absurd h (by decide)) fun _ H3 e3 => ?_
      refine s_app (e3 _ _ h2) (ev_var rfl) (ev_var rfl) (by decide) fun H4 e4 => ⟨_, rfl, Ex.mut (e2.trans (e3.trans e4)) no, ?_⟩
      rw [upd_same]
      rfl
    | cons t r =>
      have hla : ((t :: r).reverse.map fun l => tx [l]).getLast? = some (tx [t]) := by simp
      refine s_if (b := decide ([t] = [l.flip])) (et_is (et_and (et_test (ev_op (ev_lenL (ev_var rfl) h2) ev_c rv_I0)) fun _ => et_test (ev_op (ev_last (ev_var rfl) h2 hla) (ev_fd l (ea_cons (ev_var rfl) ea_nil) rfl fun _ _ => trivial) rv_eqW)) ?_) (fun h H3 e3 => ?_) fun h H3 e3 => ?_
      · rw [decide_eq_true (by simp), Bool.true_and]
      · have et : t = l.flip := List.head_eq_of_cons_eq (of_decide_eq_true h)
        refine s_pop (e3 _ _ h2) (ev_var rfl) hla fun H4 e4 => ⟨_, rfl, Ex.mut (e2.trans (e3.trans e4)) no, ?_⟩
        rw [upd_same]
        subst et
        simp [red1]
      · have et : t ≠ l.flip := fun e => of_decide_eq_false h (by rw [e])
        refine s_app (e3 _ _ h2) (ev_var rfl) (ev_var rfl) (by simp at hl ⊢; omega) fun H4 e4 => ⟨_, rfl, Ex.mut (e2.trans (e3.trans e4)) no, ?_⟩
        rw [upd_same]
        simp [red1, et]
  · rintro σ H2 ⟨y, rfl, e2, h2⟩
    rw [List.take_length] at h2
    have hl : (stk [] u).length ≤ 1000 := by
      have := stk_len u []
      simp only [List.length_nil] at this
      omega
    have em : ((stk [] u).reverse.map fun l => tx [l]) = ((stk [] u).reverse.map fun l => [l]).map tx := by rw [List.map_map]; rfl
    rw [em] at h2
    have efl : ((stk [] u).reverse.map fun l => [l]).flatten = red u := by
      show _ = (stk [] u).reverse
      generalize (stk [] u).reverse = z
      induction z with
      | nil => rfl
      | cons a r ih => simp only [List.map_cons, List.flatten_cons, ih]; rfl
    refine s_ret (ev_join (K := K) (ev_var rfl) h2 (by rw [efl]; show (stk [] u).reverse.length ≤ _; rw [List.length_reverse]; omega) rfl) fun H3 e3 => q _ _ ⟨e2.trans e3, ?_⟩
    rw [efl]
abbrev spInv : Sp := spE (fun i : Word => [tx i]) (fun i _ => i.length ≤ 1000) (fun i v _ => v = tx (inv i))
theorem ok_inverse_of (B : Bs mg) (F : Fx K mg "inverse_of" s_inverse_of pn_inverse_of) (g_opposite_of : Fd P w K mg base "opposite_of" pn_opposite_of 1 spOpp) : Fd P w K mg base "inverse_of" pn_inverse_of 2 spInv := by
  refine F.fd sc_inverse_of (fun _ => rfl) fun u f cdv A outer s H Q hr hp q E => ?_
  refine ⟨_, (pss_one (ps_ret (pe_join pe_str (pe_lc (own := [("letter", 1)]) (g := (gName 1)) rfl sc_inverse_of.nd  (pi_str (pe_revS (pv 0))) (blkOk_by (N := nm_inverse_of) (sc := defScope s_inverse_of) (by decide +kernel)) (fun _ _ _ _ _ => (pg_name (i := 1) sc_inverse_of.nd rfl (Or.inl rfl))) (fun _ _ _ _ _ => pts_nil) (fun _ _ _ _ _ => (pe_fd g_opposite_of (hr.mono (by decide)) (by rfl) (pa_cons (pv 1) pa_nil))))))), ?_⟩
  have em : (u.reverse.map fun l => tx [l.flip]) = (u.reverse.map fun l => [l.flip]).map tx := by rw [List.map_map]; rfl
  have efl : (u.reverse.map fun l => [l.flip]).flatten = inv u := by
    unfold inv
    generalize u.reverse = z
    induction z with
    | nil => rfl
    | cons a r ih => simp only [List.map_cons, List.flatten_cons, ih]; rfl
  refine s_ret (ev_joinL (K := K) (ws := u.reverse.map fun l => [l.flip]) (by
    rw [← em]
    exact el_lcW (fun l => tx [l.flip]) (ev_rev (ev_var rfl) (by omega)) (by rw [List.length_reverse]; omega) (fun _ => rfl) fun l H1 e1 hl => ev_fd l (ea_cons (ev_var rfl) ea_nil) rfl fun _ _ => trivial) (by rw [efl, inv_length]; omega) rfl) fun H3 e3 => q _ _ ⟨e3, ?_⟩
  rw [efl]
end
end FwK
end

section
set_option Elab.async false
set_option linter.all false
set_option maxRecDepth 100000
set_option maxHeartbeats 2000000
namespace FwK
open PySem PySem.Spec PyProof.Rows L2 Evl Fw FwR
/-! ### pairs of lists -/
section
variable {α β γ : Type} {F : α → β → Prop}
theorem pd_len : ∀ {as : List α} {bs : List β}, Paired F as bs → as.length = bs.length
  | _, _, .nil => rfl
  | _, _, .cons _ t => by rw [List.length_cons, List.length_cons, pd_len t]
theorem pd_get {as : List α} {bs : List β} {i : Nat} {a : α} (h : Paired F as bs) (e : as[i]? = some a) : ∃ b, bs[i]? = some b ∧ F a b := by
  induction h generalizing i with
  | nil => exact nomatch e
  | cons r _ ih =>
    cases i with
    | zero => exact ⟨_, rfl, Option.some.inj e ▸ r⟩
    | succ i => exact ih e
theorem pd_get' {as : List α} {bs : List β} {i : Nat} {b : β} (h : Paired F as bs) (e : bs[i]? = some b) : ∃ a, as[i]? = some a ∧ F a b := by
  induction h generalizing i with
  | nil => exact nomatch e
  | cons r _ ih =>
    cases i with
    | zero => exact ⟨_, rfl, Option.some.inj e ▸ r⟩
    | succ i => exact ih e
theorem pd_app : ∀ {as cs : List α} {bs ds : List β}, Paired F as bs → Paired F cs ds → Paired F (as ++ cs) (bs ++ ds)
  | _, _, _, _, .nil, s => s
  | _, _, _, _, .cons r t, s => .cons r (pd_app t s)
theorem pd_map {G : α → β → Prop} : ∀ {as : List α} {bs : List β}, Paired F as bs → (∀ a b, F a b → G a b) → Paired G as bs
  | _, _, .nil, _ => .nil
  | _, _, .cons r t, f => .cons (f _ _ r) (pd_map t f)
theorem pd_drop : ∀ {as : List α} {bs : List β} (n : Nat), Paired F as bs → Paired F (as.drop n) (bs.drop n)
  | _, _, 0, r => r
  | _, _, n + 1, .nil => .nil
  | _, _, n + 1, .cons _ t => pd_drop n t
theorem pd_take : ∀ {as : List α} {bs : List β} (n : Nat), Paired F as bs → Paired F (as.take n) (bs.take n)
  | _, _, 0, _ => .nil
  | _, _, n + 1, .nil => .nil
  | _, _, n + 1, .cons r t => .cons r (pd_take n t)
end
/-! ### edges, graphs, families in the heap -/
def ek (e : Edge) : List Key := [.inl (e.1 : Int), .inr (T [e.2.1]), .inl (e.2.2 : Int)]
theorem ek_map (e : Edge) : (ek e).map kV = [.int (e.1 : Int), tx [e.2.1], .int (e.2.2 : Int)] := rfl
theorem ek_inj {e f : Edge} (h : ek e = ek f) : e = f := by
  obtain ⟨a, x, b⟩ := e
  obtain ⟨c, y, d⟩ := f
  unfold ek at h
  simp only [List.cons.injEq, Sum.inl.injEq, Sum.inr.injEq, Int.natCast_inj, and_true] at h
  obtain ⟨h1, h2, h3⟩ := h
  have h4 := T_inj h2
  injection h4 with h5 _
  rw [h1, h3, h5]
def Eg (H : Hp) (b : Addr) (e : Edge) : Prop := H b = some (.tup [.int (e.1 : Int), tx [e.2.1], .int (e.2.2 : Int)])
def Egs (H : Hp) (bs : List Addr) (es : List Edge) : Prop := Paired (Eg H) bs es
theorem Eg.keep {H H' : Hp} (k : Tk H H') {b : Addr} {e : Edge} (h : Eg H b e) : Eg H' b e := k _ _ h
theorem Egs.keep {H H' : Hp} (k : Tk H H') {bs : List Addr} {es : List Edge} (h : Egs H bs es) : Egs H' bs es := pd_map h fun _ _ q => Eg.keep k q
theorem Egs.tups {H : Hp} : ∀ {bs : List Addr} {es : List Edge}, Egs H bs es → TupsAt H bs (es.map ek)
  | _, _, .nil => .nil
  | _, _, .cons h t => .cons h (Egs.tups t)
theorem Egs.of_tups {H : Hp} : ∀ {bs : List Addr} {es : List Edge}, TupsAt H bs (es.map ek) → Egs H bs es
  | _, [], .nil => .nil
  | _, _ :: _, .cons h t => .cons h (Egs.of_tups t)
def Gr (H : Hp) (v : V) (n : Nat) (es : List Edge) : Prop := ∃ p q bs, v = .ref p ∧ H p = some (.tup [.int (n : Int), .ref q]) ∧ H q = some (.tup (bs.map V.ref)) ∧ Egs H bs es
theorem Gr.keep {H H' : Hp} (k : Tk H H') {v : V} {n : Nat} {es : List Edge} (h : Gr H v n es) : Gr H' v n es := by
  obtain ⟨p, q, bs, e, h1, h2, h3⟩ := h
  exact ⟨p, q, bs, e, k _ _ h1, k _ _ h2, h3.keep k⟩
def Fam (H : Hp) (v : V) (r : Nat) (ws : List Word) : Prop := ∃ p q, v = .ref p ∧ H p = some (.tup [.int (r : Int), .ref q]) ∧ H q = some (.tup (ws.map tx))
theorem Fam.keep {H H' : Hp} (k : Tk H H') {v : V} {r : Nat} {ws : List Word} (h : Fam H v r ws) : Fam H' v r ws := by
  obtain ⟨p, q, e, h1, h2⟩ := h
  exact ⟨p, q, e, k _ _ h1, k _ _ h2⟩
/-- a family that the program takes -/
def FamOk (r : Nat) (ws : List Word) : Prop := 1 ≤ r ∧ r ≤ 3 ∧ ws.length ≤ 4 ∧ ∀ u ∈ ws, InR r u ∧ u.length ≤ 8
section
variable {P : Program} {w : World} {K : PySem.W.Frag} {mg : Str → Option Value} {base : Heap} {σ : L2.St} {H H' : Hp} {ta tb te : TE} {t u : TT}
theorem et_orF (h1 : EvT t σ H false) (h2 : EvT u σ H false) : EvT (tOr t u) σ H false := et_or h1 fun _ => h2
theorem et_no (h : EvT t σ H true) : EvT (tNot t) σ H false := et_not h
/-! ### is_family, check_family -/
abbrev spIsFamily : Sp := spE (fun i : V × Nat × List Word => [i.1]) (fun i H => Fam H i.1 i.2.1 i.2.2 ∧ FamOk i.2.1 i.2.2) (fun _ v _ => v = .bl true)
theorem ok_is_family (B : Bs mg) (F : Fx K mg "is_family" s_is_family pn_is_family) (g_is_rank : Fd P w K mg base "is_rank" pn_is_rank 2 spRank) (g_is_word : Fd P w K mg base "is_word" pn_is_word 3 spIsWord) : Fd P w K mg base "is_family" pn_is_family 4 spIsFamily := by
  refine F.fd sc_is_family (fun _ => rfl) fun i f cdv A outer s H Q hr hp q E => ?_
  refine ⟨_, (pss_cons (ps_if (PW.pt (pw_or (pt_not (pt_val (pe_callB (r := rIsi K) call_isi (by rfl) B.z_isinstance (by decide +kernel) (pa_cons (pv 0) (pa_cons (pe_bltn (v := .ty "tuple") (by rfl) B.z_tuple (by decide +kernel) rfl) pa_nil))))) (pw_or (pt_cmpR op_ne (pe_callB (r := Evl.rLenS K) call_len_seq (by rfl) B.z_len PySem.boot_len (pa_cons (pv 0) pa_nil)) pe_int (nomark _)) (pw_or (pt_not (pt_val (pe_fd g_is_rank (hr.mono (by decide)) (by rfl) (pa_cons (pe_ix (r := rIxT K) ix_tup (pv 0) pe_int (fun _ _ => rfl)) pa_nil)))) (pw_or1 (pt_not (pt_val (pe_callB (r := rIsi K) call_isi (by rfl) B.z_isinstance (by decide +kernel) (pa_cons (pe_ix (r := rIxT K) ix_tup (pv 0) pe_int (fun _ _ => rfl)) (pa_cons (pe_bltn (v := .ty "tuple") (by rfl) B.z_tuple (by decide +kernel) rfl) pa_nil)))))))))) (pss_one (ps_ret pe_bl)) pss_nil)
    (pss_cons (ps_if (pt_cmpR op_gt (pe_callB (r := Evl.rLenS K) call_len_seq (by rfl) B.z_len PySem.boot_len (pa_cons (pe_ix (r := rIxT K) ix_tup (pv 0) pe_int (fun _ _ => rfl)) pa_nil)) (pe_k B.c_MOST_GIVEN) (nomark _)) (pss_one (ps_ret pe_bl)) pss_nil)
    (pss_one (ps_ret (pe_callB (r := rAll K) (cr_all rfl) (by rfl) B.z_all (by decide +kernel) (pa_cons (pe_lc (own := [("word", 1)]) (g := (gName 1)) rfl sc_is_family.nd  (pi_tup (pe_ix (r := rIxT K) ix_tup (pv 0) pe_int (fun _ _ => rfl))) (blkOk_by (N := nm_is_family) (sc := defScope s_is_family) (by decide +kernel)) (fun _ _ _ _ _ => (pg_name (i := 1) sc_is_family.nd rfl (Or.inl rfl))) (fun _ _ _ _ _ => pts_nil) (fun _ _ _ _ _ => (pe_and (pe_fd g_is_word (hr.mono (by decide)) (by rfl) (pa_cons (pv 1) (pa_cons (pe_ix (r := rIxT K) ix_tup (pv 0) pe_int (fun _ _ => rfl)) pa_nil))) (pe_one (pe_cmpR op_le (pe_callB (r := rLenX) call_len_str (by rfl) B.z_len PySem.boot_len (pa_cons (pv 1) pa_nil)) (pe_k B.c_MOST_LETTERS_folding) (nomark _)))))) pa_nil)))))), ?_⟩
  obtain ⟨v, r, ws⟩ := i
  obtain ⟨⟨p, a, e, hp, ha⟩, h1, h3, h4, h5⟩ := hp
  dsimp only at e hp ha h1 h3 h4 h5
  subst e
  have first : ∀ {H' : Hp} {σ : L2.St} {ta : TE}, Ex H H' → Ev ta σ H' (.ref p) → Ev (tOp (rIxT K) ta (tC (.int 0))) σ H' (.int (r : Int)) := fun e h => ev_ixt (j := 0) h ev_c (e _ _ hp) rfl
  have secnd : ∀ {H' : Hp} {σ : L2.St} {ta : TE}, Ex H H' → Ev ta σ H' (.ref p) → Ev (tOp (rIxT K) ta (tC (.int 1))) σ H' (.ref a) := fun e h => ev_ixt (j := 1) h ev_c (e _ _ hp) rfl
  refine q_when (b := false) (et_orF (et_no (et_B (ev_isi (ev_var rfl) ev_c (.ty _) (fun _ e => .base (.tup (e _ _ hp))) (kit_ty (by decide +kernel)))))
    (et_orF (et_test (ev_is (ev_op (ev_lenT (ev_var rfl) hp) ev_c rv_neI) rfl)) (et_orF (et_no (et_B (ev_fd r (ea_cons (first (Ex.refl _) (ev_var rfl)) ea_nil) rfl fun _ _ => ⟨h1, h3⟩)))
      (et_no (et_B (ev_isi (secnd (Ex.refl _) (ev_var rfl)) ev_c (.ty _) (fun _ e => .base (.tup (e _ _ ha))) (kit_ty (by decide +kernel)))))))) (fun h => absurd h (by decide)) fun _ H1 e1 => ?_
  refine q_when (b := false) (et_test (ev_is (ev_op (ev_lenT (secnd e1 (ev_var rfl)) (e1 _ _ ha)) ev_c rv_I0) ?_)) (fun h => absurd h (by decide)) fun _ H2 e2 => ?_
  · rw [List.length_map, decide_eq_false (by omega)]
  have e12 := e1.trans e2
  refine s_ret (v := .bl (((List.range (ws.map tx).length).map fun _ => true).all id)) (ev_all (K := K) ?_) fun H3 e3 => q _ _ ⟨e12.trans e3, ?_⟩
  · rw [List.map_map, ← range_all (ws.map tx).length]
    refine el_lcTup (fun _ => true) (V.bl ∘ fun _ => true) (secnd e12 (ev_var rfl)) (e12 _ _ ha) (by rw [List.length_map]; omega) fun i x H5 Q2 hx e5 k => ?_
    rw [List.getElem?_map] at hx
    cases hu : ws[i]? with
    | none => rw [hu] at hx; cases hx
    | some u =>
      rw [hu] at hx
      cases hx
      obtain ⟨hin, hle⟩ := h5 u (List.mem_of_getElem? hu)
      refine k _ rfl et_yes fun _ => ?_
      have e05 : Ex H H5 := e12.trans e5
      refine ev_is (v := .bl (true && decide ((u.length : Int) ≤ 8))) (ev_andV (ev_fd (u, r) (ea_cons (ev_var rfl) (ea_cons (first e05 (ev_var rfl)) ea_nil)) rfl fun _ _ => ⟨h1, h3, hin, Nat.le_trans hle (by decide)⟩) fun _ =>
        ev_op (ev_is (ev_lenS (ev_var rfl) (by rw [T_len]; exact Nat.le_trans hle (by decide))) (by rw [T_len])) ev_c rv_I0) ?_
      rw [decide_eq_true (by omega)]
      rfl
  · have : ((List.range (ws.map tx).length).map fun _ => true).all id = true := by
      rw [List.all_eq_true]
      intro b hb
      obtain ⟨_, _, rfl⟩ := List.mem_map.mp hb
      rfl
    rw [this]
abbrev spCheck : Sp := spE (fun i : V × Nat × List Word => [i.1]) (fun i H => Fam H i.1 i.2.1 i.2.2 ∧ FamOk i.2.1 i.2.2) (fun _ v _ => v = .non)
theorem ok_check_family (B : Bs mg) (F : Fx K mg "check_family" s_check_family pn_check_family) (g_is_family : Fd P w K mg base "is_family" pn_is_family 4 spIsFamily) : Fd P w K mg base "check_family" pn_check_family 5 spCheck := by
  refine F.fd sc_check_family (fun _ => rfl) fun i f cdv A outer s H Q hr hp q E => ?_
  refine ⟨_, (pss_one (ps_if (pt_not (pt_val (pe_fd g_is_family (hr.mono (by decide)) (by rfl) (pa_cons (pv 0) pa_nil)))) (pss_one ps_never) pss_nil)), ?_⟩
  refine s_when (b := false) (et_no (et_B (ev_fd i (ea_cons (ev_var rfl) ea_nil) rfl fun H1 e1 => ⟨hp.1.keep (Tk.of e1), hp.2⟩))) (fun h => absurd h (by decide)) fun _ H1 e1 => q _ _ ⟨e1, rfl⟩
end
end FwK
end

section
set_option Elab.async false
set_option linter.all false
set_option maxRecDepth 100000
set_option maxHeartbeats 2000000
namespace FwK
open PySem PySem.Spec PyProof.Rows L2 Evl Fw FwR
section
variable {K : PySem.W.Frag} {σ : L2.St} {H H' : Hp} {ta tb te : TE} {t u : TT} {x y z v : V} {D : Ends} {tu tw tz : TS} {g : TG} {C : Addr} {m : Str}
/-! ### statements by their meaning -/
theorem q_drop' (h : te σ H fun _ H1 => tz D σ H1) : tSeq (tDrop te) tz D σ H := h
theorem s_drop' (h : te σ H fun _ H1 => D.nx σ H1) : tDrop te D σ H := h
theorem q_asg' {i : Nat} (h : te σ H fun x H1 => tz D (σ.set i (some x)) H1) : tSeq (tAsg te (gName i)) tz D σ H := h
theorem s_asg' {i : Nat} (h : te σ H fun x H1 => D.nx (σ.set i (some x)) H1) : tAsg te (gName i) D σ H := h
theorem s_ret' (h : te σ H D.rt) : tRet te D σ H := h
theorem q_seq (h : tu { D with nx := tz D } σ H) : tSeq tu tz D σ H := h
/-! ### truth of a list -/
theorem et_tru {p : Addr} {xs : List V} (h : Ev ta σ H (.ref p)) (hp : H p = some (.lst xs)) : EvT (fun σ H Q => ta σ H fun x H' => ∃ k, TruV K x H' k ∧ Q k H') σ H (!xs.isEmpty) := fun H1 e Q q =>
  h H1 e _ fun H2 e2 => ⟨_, .inl ⟨xs, sq_of (e2 _ _ (e _ _ hp)), rfl⟩, q H2 e2⟩
/-! ### deep equality of two tuples of texts and numbers -/
def KOk (k : List Key) : Prop := ∀ s : Str, Sum.inr s ∈ k → PyData.strOk s = true
theorem lay_keys : ∀ k : List Key, KOk k → PyData.canLayAll0 (k.map keyD) = true
  | [], _ => by simp [PyData.canLayAll0]
  | .inl i :: r, h => by
    have := lay_keys r fun s hs => h s (List.mem_cons_of_mem _ hs)
    simp [PyData.canLayAll0, PyData.canLay0, keyD, this]
  | .inr i :: r, h => by
    have := lay_keys r fun s hs => h s (List.mem_cons_of_mem _ hs)
    simp [PyData.canLayAll0, PyData.canLay0, keyD, this, h i (by simp)]
theorem shaped_keys (k : List Key) (h : KOk k) : SeqAt.shaped (keysD k) = true := by
  have h1 : (keysD k).canLay0 = true := by simp [keysD, PyData.canLay0, lay_keys k h]
  have h2 := keysD_depth k
  unfold SeqAt.shaped
  rw [h1, decide_eq_true (by omega)]
  rfl
theorem T_ok (l : Let) : PyData.strOk (T [l]) = true := by cases l <;> decide +kernel
theorem et_eqT {a : Addr} {k l : List Key} (ok : KOk k) (ol : KOk l) (ha : Ev ta σ H (.ref a)) (hk : H a = some (.tup (k.map kV))) (hb : EvU tb σ H (l.map kV)) : EvT (tTest (tOp (rEqD K) ta tb)) σ H (PyData.eqv (keysD k) (keysD l)) := fun H1 e Q q =>
  ha H1 e _ fun H2 e2 => hb H2 (e.trans e2) _ fun p H3 np e3 hp => ⟨_, _, dp_tup (e3 _ _ (e2 _ _ (e _ _ hk))), dp_tup hp, shaped_keys k ok, shaped_keys l ol, _, rfl, q H3 (e2.trans e3)⟩
theorem eu_3 (h1 : Ev ta σ H x) (h2 : Ev tb σ H y) (h3 : Ev te σ H z) : EvU (tTup (tCons ta (tCons tb (tCons te tNil)))) σ H [x, y, z] := eu_tup (ea_cons h1 (ea_cons h2 (ea_cons h3 ea_nil))) (Nat.le_of_ble_eq_true rfl)
theorem eu_2 (h1 : Ev ta σ H x) (h2 : Ev tb σ H y) : EvU (tTup (tCons ta (tCons tb tNil))) σ H [x, y] := eu_tup (ea_cons h1 (ea_cons h2 ea_nil)) (Nat.le_of_ble_eq_true rfl)
/-! ### comprehensions whose items are told by a relation -/
theorem ep_lcX {n : Nat} {J : It} {G : Hp → Prop} {tt : TT} {vs : List Nat} {H1 : Hp} {xs : List V} {Qd : Addr → Hp → Prop} (W : Walk J n G (YAt xs)) (hn : n = xs.length) (hz : n ≤ 100000) (c : Nat → Bool) (R : Nat → V → Hp → Prop) (hR : ∀ i v H H', Tk H H' → R i v H → R i v H') (hG : ∀ H2, Ex H1 H2 → G H2)
    (ht : ∀ i x H2 (Q : L2.St → Hp → Prop), xs[i]? = some x → Ex H1 H2 → (∀ σ2, wipe σ2 vs = wipe σ vs → EvT tt σ2 H2 (c i) → (c i = true → EvP te σ2 H2 (R i)) → Q σ2 H2) → g x (wipe σ vs) H2 Q)
    (Dl : Addr) (hD : H1 Dl = none) (q : ∀ H2 ys, Ex H1 H2 → H2 Dl = some (.lst ys) → Paired (fun i y => R i y H2) ((List.range n).filter c) ys → Qd Dl H2) :
    ∃ W : Nat → Nat → Hp → Prop, (∃ m, W 0 m (upd H1 Dl (.lst []))) ∧ ∀ i m H, W i m H →
      (J.stop i H ∧ Qd Dl H) ∨ (J.go i H ∧ ∃ Nx : Hp → Prop, (∀ H', Nx H' → ∃ m', m' < m ∧ W (i + 1) m' H') ∧ ∀ x H', J.yld i H x H' → g x (wipe σ vs) H' fun σ2 H2 => wipe σ2 vs = wipe σ vs ∧ tt σ2 H2 fun b H3 =>
        if b = true then te σ2 H3 fun y H4 => ∃ acc, H4 Dl = some (.lst acc) ∧ acc.length < sizeLine ∧ Nx (upd H4 Dl (.lst (acc ++ [y]))) else Nx H3) :=
  lc_it W (fun i H' => Ex H1 H' ∧ ∃ ys, H' Dl = some (.lst ys) ∧ Paired (fun i y => R i y H') ((List.range i).filter c) ys) ⟨Ex.new hD, [], upd_same, .nil⟩ (fun i H' hi p => hG H' p.1) (fun i x H2 H' hi p ⟨e2, hx⟩ => by
    subst e2
    obtain ⟨p1, ys, p2, p3⟩ := p
    refine ht i x H' _ hx p1 fun σ2 hw ht he => ⟨hw, ht H' (Ex.refl H') _ fun H3 e3 => ?_⟩
    cases hc : c i with
    | true =>
      rw [if_pos rfl]
      refine he hc H3 e3 _ fun y H4 e4 hy => ⟨_, e4 Dl _ (e3 Dl _ p2), ?_, Ex.mut ((p1.trans e3).trans e4) hD, ys ++ [y], upd_same, ?_⟩
      · have h1 := List.length_filter_le c (List.range i)
        have h2 := pd_len p3
        rw [List.length_range] at h1
        exact sz_lt (by omega)
      · have k4 : Tk H4 (upd H4 Dl (.lst (ys ++ [y]))) := Tk.updl (e4 Dl _ (e3 Dl _ p2))
        have kk : Tk H' (upd H4 Dl (.lst (ys ++ [y]))) := ((Tk.of e3).trans (Tk.of e4)).trans k4
        rw [List.range_succ, List.filter_append, List.filter_cons, if_pos hc]
        exact pd_app (pd_map p3 fun a b r => hR a b _ _ kk r) (.cons (hR _ _ _ _ k4 hy) .nil)
    | false =>
      rw [if_neg (by decide)]
      refine ⟨p1.trans e3, ys, e3 Dl _ p2, ?_⟩
      rw [List.range_succ, List.filter_append, List.filter_cons, if_neg (by rw [hc]; decide)]
      show Paired _ (_ ++ []) ys
      rw [List.append_nil]
      exact pd_map p3 fun a b r => hR a b _ _ (Tk.of e3) r) (fun H' p => by
      obtain ⟨p1, ys, p2, p3⟩ := p
      exact q H' ys p1 p2 p3)
def LcR (H0 : Hp) (n : Nat) (c : Nat → Bool) (R : Nat → V → Hp → Prop) (v : V) (H2 : Hp) : Prop := ∃ p ys, v = .ref p ∧ H0 p = none ∧ H2 p = some (.lst ys) ∧ Paired (fun i y => R i y H2) ((List.range n).filter c) ys
theorem ep_lcLst {a : Addr} {xs : List V} {tl : TE} {tt : TT} {vs : List Nat} (c : Nat → Bool) (R : Nat → V → Hp → Prop) (hR : ∀ i v H H', Tk H H' → R i v H → R i v H') (h : Ev tl σ H (.ref a)) (hx : H a = some (.lst xs)) (hz : xs.length ≤ 100000)
    (ht : ∀ i x H2 (Q : L2.St → Hp → Prop), xs[i]? = some x → Ex H H2 → (∀ σ2, wipe σ2 vs = wipe σ vs → EvT tt σ2 H2 (c i) → (c i = true → EvP te σ2 H2 (R i)) → Q σ2 H2) → g x (wipe σ vs) H2 Q) :
    EvP (tLc (iList K tl) g tt te vs) σ H (LcR H xs.length c R) := fun H1 e1 Q q =>
  h H1 e1 _ fun H2 e2 => ⟨a, rfl, ⟨xs, sq_of (e2 _ _ (e1 _ _ hx))⟩, fun Dl hD =>
    ep_lcX (H1 := H2) (walk_list (xs := xs)) rfl hz c R hR (fun H3 e3 => sq_of (e3 _ _ (e2 _ _ (e1 _ _ hx)))) (fun i x H3 Q' hi e3 k => ht i x H3 Q' hi (e1.trans (e2.trans e3)) k) Dl hD (Qd := fun Dl H => Q (.ref Dl) H) fun H3 ys e3 hl hp => q _ H3 (e2.trans e3) ⟨Dl, ys, rfl, fresh_back (e1.trans e2) hD, hl, hp⟩⟩
theorem ep_lcNew {xs : List V} {tl : TE} {tt : TT} {vs : List Nat} (c : Nat → Bool) (R : Nat → V → Hp → Prop) (hR : ∀ i v H H', Tk H H' → R i v H → R i v H') (h : EvL tl σ H xs) (hz : xs.length ≤ 100000)
    (ht : ∀ i x H2 (Q : L2.St → Hp → Prop), xs[i]? = some x → Ex H H2 → (∀ σ2, wipe σ2 vs = wipe σ vs → EvT tt σ2 H2 (c i) → (c i = true → EvP te σ2 H2 (R i)) → Q σ2 H2) → g x (wipe σ vs) H2 Q) :
    EvP (tLc (iList K tl) g tt te vs) σ H (LcR H xs.length c R) := fun H1 e1 Q q =>
  h H1 e1 _ fun a H2 na e2 hx => ⟨a, rfl, ⟨xs, sq_of hx⟩, fun Dl hD =>
    ep_lcX (H1 := H2) (walk_list (xs := xs)) rfl hz c R hR (fun H3 e3 => sq_of (e3 _ _ hx)) (fun i x H3 Q' hi e3 k => ht i x H3 Q' hi (e1.trans (e2.trans e3)) k) Dl hD (Qd := fun Dl H => Q (.ref Dl) H) fun H3 ys e3 hl hp => q _ H3 (e2.trans e3) ⟨Dl, ys, rfl, fresh_back (e1.trans e2) hD, hl, hp⟩⟩
theorem el_revL {a : Addr} {xs : List V} (h : Ev ta σ H (.ref a)) (hx : H a = some (.lst xs)) : EvL (tRevL K ta) σ H xs.reverse := fun H1 e Q q =>
  h H1 e _ fun H2 e2 => ⟨a, xs, rfl, sq_of (e2 _ _ (e _ _ hx)), fun p np => q p _ (fresh_back e2 np) (e2.trans (Ex.new np)) upd_same⟩
/-! ### fields, methods -/
theorem ev_fld {a C dx : Addr} {fs : List (Str × V)} {f : Str} (h : Ev ta σ H (.ref a)) (hx : H a = some (.ins C dx fs)) (cl : Cls K C) (na : NoAttr K C f) (hl : fs.lookup f = some v) : Ev (tFld K ta f) σ H v := fun H1 e Q q =>
  h H1 e _ fun H2 e2 => ⟨a, C, dx, fs, v, rfl, e2 _ _ (e _ _ hx), cl, na, hl, q H2 e2⟩
theorem ep_fm {ι : Type} {ps : ι → List V} {pre : ι → Hp → Prop} {R : ι → V → Hp → Prop} {t : TA} {vs : List V} {a dx : Addr} {fs : List (Str × V)} (i : ι) (ho : Ev ta σ H (.ref a)) (hx : H a = some (.ins C dx fs)) (hl : fs.lookup m = none)
    (h : EvA t σ H vs) (e : .ref a :: vs = ps i) (hp : ∀ H1, Ex H H1 → pre i H1) : EvP (tMeth C m (spE ps pre R) [] E0 ta t) σ H (R i) := fun H1 e1 Q q =>
  ho H1 e1 _ fun H2 e2 => ⟨a, dx, fs, rfl, e2 _ _ (e1 _ _ hx), hl, h H2 (e1.trans e2) _ fun H3 e3 => ⟨i, by rw [List.append_nil]; exact e, hp H3 ((e1.trans e2).trans e3), fun v H4 ⟨e4, r⟩ => q v H4 ((e2.trans e3).trans e4) r⟩⟩
theorem ev_fm {ι : Type} {ps : ι → List V} {pre : ι → Hp → Prop} {z : ι → V} {t : TA} {vs : List V} {a dx : Addr} {fs : List (Str × V)} (i : ι) (ho : Ev ta σ H (.ref a)) (hx : H a = some (.ins C dx fs)) (hl : fs.lookup m = none)
    (h : EvA t σ H vs) (e : .ref a :: vs = ps i) (hp : ∀ H1, Ex H H1 → pre i H1) : Ev (tMeth C m (spE ps pre fun i v _ => v = z i) [] E0 ta t) σ H (z i) := Ev.ofP (ep_fm i ho hx hl h e hp)
theorem run_fm {ι : Type} {ps : ι → List V} {pre : ι → Hp → Prop} {post : ι → Hp → V → Hp → Prop} {t : TA} {S : List V → Hp → Prop} {a dx : Addr} {fs : List (Str × V)} {Q : VK} (ho : Ev ta σ H (.ref a)) (hx : H a = some (.ins C dx fs)) (hl : fs.lookup m = none)
    (h : EvPA t σ H S) (hp : ∀ vs H1, Ex H H1 → S vs H1 → ∃ i, .ref a :: vs = ps i ∧ pre i H1 ∧ ∀ v H2, post i H1 v H2 → Q v H2) : tMeth C m (prom ps pre post) [] E0 ta t σ H Q :=
  ho H (Ex.refl H) _ fun H2 e2 => ⟨a, dx, fs, rfl, e2 _ _ hx, hl, h H2 e2 _ fun vs H3 e3 s => by
    obtain ⟨i, e, p, k⟩ := hp vs H3 (e2.trans e3) s
    exact ⟨i, by rw [List.append_nil]; exact e, p, fun v H4 q => k v H4 q⟩⟩
theorem q_setAt {l : Addr} {xs : List V} {j : Nat} {tl ti : TE} (h : Ev te σ H v) (hl : Ev tl σ H (.ref l)) (hi : Ev ti σ H (.int (j : Int))) (hx : H l = some (.lst xs)) (hj : j < xs.length) (k : ∀ H1, Ex H H1 → tz D σ (upd H1 l (.lst (xs.set j v)))) :
    tSeq (tAsg te (gSub tl ti rSetL)) tz D σ H := q_setL hx h hl hi hj k
end
/-! ### factors -/
def Fac (H : Hp) (v : V) : Prop := ∃ p s i j, v = .ref p ∧ H p = some (.tup [.str s, .int i, .int j]) ∧ PyData.strOk s = true
theorem kok3 {s : Str} {i j : Int} (h : PyData.strOk s = true) : KOk [.inr s, .inl i, .inl j] := fun t ht => by
  simp at ht
  rw [ht]
  exact h
def Facs (H : Hp) (vs : List V) : Prop := ∀ v ∈ vs, Fac H v
theorem Fac.keep {H H' : Hp} (k : Tk H H') {v : V} (h : Fac H v) : Fac H' v := by
  obtain ⟨p, s, i, j, e, h, ho⟩ := h
  exact ⟨p, s, i, j, e, k _ _ h, ho⟩
theorem Facs.keep {H H' : Hp} (k : Tk H H') {vs : List V} (h : Facs H vs) : Facs H' vs := fun v hv => (h v hv).keep k
def FacL (H : Hp) (v : V) (n : Nat) : Prop := ∃ p vs, v = .ref p ∧ H p = some (.lst vs) ∧ Facs H vs ∧ vs.length ≤ n
theorem FacL.keep {H H' : Hp} (k : Ex H H') {v : V} {n : Nat} (h : FacL H v n) : FacL H' v n := by
  obtain ⟨p, vs, e, h1, h2, h3⟩ := h
  exact ⟨p, vs, e, k _ _ h1, h2.keep (Tk.of k), h3⟩
/-- a new list of factors -/
def FacF (H0 : Hp) (v : V) (H : Hp) (n : Nat) : Prop := ∃ p vs, v = .ref p ∧ H0 p = none ∧ H p = some (.lst vs) ∧ Facs H vs ∧ vs.length ≤ n
theorem FacF.l {H0 H : Hp} {v : V} {n : Nat} (h : FacF H0 v H n) : FacL H v n := by
  obtain ⟨p, vs, e, _, h1, h2, h3⟩ := h
  exact ⟨p, vs, e, h1, h2, h3⟩
theorem FacF.back {H0 H1 H : Hp} {v : V} {n : Nat} (e : Ex H0 H1) (h : FacF H1 v H n) : FacF H0 v H n := by
  obtain ⟨p, vs, ev, h0, h1, h2, h3⟩ := h
  exact ⟨p, vs, ev, fresh_back e h0, h1, h2, h3⟩
theorem FacF.ne {H0 H : Hp} {v : V} {n : Nat} (h : FacF H0 v H n) {a : Addr} {o : HO} (ha : H0 a = some o) : v ≠ .ref a := by
  obtain ⟨p, vs, e, h0, _⟩ := h
  subst e
  intro z
  cases z
  rw [ha] at h0
  cases h0
theorem FacL.mono {H : Hp} {v : V} {n m : Nat} (h : FacL H v n) (hn : n ≤ m) : FacL H v m := by
  obtain ⟨p, vs, e, h1, h2, h3⟩ := h
  exact ⟨p, vs, e, h1, h2, Nat.le_trans h3 hn⟩
section
variable {K : PySem.W.Frag} {σ : L2.St} {H H' : Hp} {ta tb te : TE} {m : Str} {C : Addr}
theorem ep_facF {ι : Type} {ps : ι → List V} {pre : ι → Hp → Prop} {n : ι → Nat} {ta : TA} {S : List V → Hp → Prop} {N : Nat} (h : EvPA ta σ H S) (hp : ∀ vs H1, Ex H H1 → S vs H1 → ∃ i, vs = ps i ∧ pre i H1 ∧ n i = N) :
    EvP (tCall (prom ps pre fun i H v H' => Ex H H' ∧ FacF H v H' (n i)) [] E0 ta) σ H (fun v H' => FacF H v H' N) := fun H1 e1 Q q =>
  h H1 e1 _ fun vs H2 e2 s => by
    obtain ⟨i, e, p, k⟩ := hp vs H2 (e1.trans e2) s
    exact ⟨i, by rw [List.append_nil]; exact e, p, fun v H3 ⟨e3, r⟩ => q v H3 (e2.trans e3) (by rw [k] at r; exact r.back (e1.trans e2))⟩
theorem ep_facM {ι : Type} {ps : ι → List V} {pre : ι → Hp → Prop} {n : ι → Nat} {t : TA} {vs : List V} {a dx : Addr} {fs : List (Str × V)} (i : ι) (ho : Ev ta σ H (.ref a)) (hx : H a = some (.ins C dx fs)) (hl : fs.lookup m = none)
    (h : EvA t σ H vs) (e : .ref a :: vs = ps i) (hp : ∀ H1, Ex H H1 → pre i H1) : EvP (tMeth C m (prom ps pre fun i H v H' => Ex H H' ∧ FacF H v H' (n i)) [] E0 ta t) σ H (fun v H' => FacF H v H' (n i)) := fun H1 e1 Q q =>
  ho H1 e1 _ fun H2 e2 => ⟨a, dx, fs, rfl, e2 _ _ (e1 _ _ hx), hl, h H2 (e1.trans e2) _ fun H3 e3 => ⟨i, by rw [List.append_nil]; exact e, hp H3 ((e1.trans e2).trans e3), fun v H4 ⟨e4, r⟩ => q v H4 ((e2.trans e3).trans e4) (r.back ((e1.trans e2).trans e3))⟩⟩
theorem ep_cat {n1 n2 : Nat} (ha : EvP ta σ H (fun v H' => FacL H' v n1)) (hb : EvP tb σ H (fun v H' => FacL H' v n2)) (hn : n1 + n2 ≤ 100000) : EvP (tOp rCat ta tb) σ H (fun v H' => FacF H v H' (n1 + n2)) := fun H1 e1 Q q =>
  ha H1 e1 _ fun x H2 e2 ⟨p1, v1, x1, a1, f1, l1⟩ => hb H2 (e1.trans e2) _ fun y H3 e3 ⟨p2, v2, x2, a2, f2, l2⟩ => ⟨p1, p2, v1, v2, x1, x2, e3 _ _ a1, a2, sz_of (by omega), fun p np => q _ _ ((e2.trans e3).trans (Ex.new np)) ⟨p, v1 ++ v2, rfl, fresh_back (e1.trans (e2.trans e3)) np, upd_same, fun v hv => by
    rcases List.mem_append.mp hv with hv | hv
    · exact (f1 v hv).keep (Tk.of (e3.trans (Ex.new np)))
    · exact (f2 v hv).keep (Tk.of (Ex.new np)), by rw [List.length_append]; omega⟩⟩
end
section
variable {P : Program} {w : World} {K : PySem.W.Frag} {mg : Str → Option Value} {base : Heap}
abbrev spOpposite : Sp := prom (fun i : V × Nat => [i.1]) (fun i H => FacL H i.1 i.2 ∧ i.2 ≤ 10000) (fun i H v H' => Ex H H' ∧ FacF H v H' i.2)
theorem ok_opposite (B : Bs mg) (F : Fx K mg "opposite" s_opposite pn_opposite) : Fd P w K mg base "opposite" pn_opposite 1 spOpposite := by
  refine F.fd sc_opposite (fun _ => rfl) fun i f cdv A outer s H Q hr hp q E => ?_
  refine ⟨_, (pss_one (ps_ret (pe_lc (own := [("kind", 1), ("number", 2), ("sign", 3)]) (g := (gTup K 3 (gCons (gName 1) (gCons (gName 2) (gCons (gName 3) gNil))))) rfl sc_opposite.nd  (pi_list (pe_revL (pv 0))) (blkOk_by (N := nm_opposite) (sc := defScope s_opposite) (by decide +kernel)) (fun _ _ _ _ _ => (pg_tup rfl (pgs_cons (pg_name (i := 1) sc_opposite.nd rfl (Or.inl rfl)) (pgs_cons (pg_name (i := 2) sc_opposite.nd rfl (Or.inl rfl)) (pgs_cons (pg_name (i := 3) sc_opposite.nd rfl (Or.inl rfl)) pgs_nil))))) (fun _ _ _ _ _ => pts_nil) (fun _ _ _ _ _ => (pe_tup (pa_cons (pv 1) (pa_cons (pv 2) (pa_cons (pe_op op_sub pe_int (pv 3)) pa_nil)))))))), ?_⟩
  obtain ⟨v, n⟩ := i
  obtain ⟨⟨a, vs, e, ha, hf, hn⟩, hz⟩ := hp
  dsimp only at e hn hz
  subst e
  refine s_retP (ep_lcNew (K := K) (xs := vs.reverse) (fun _ => true) (fun _ v H => Fac H v) (fun _ _ _ _ k r => Fac.keep k r) (el_revL (ev_var rfl) ha) (by rw [List.length_reverse]; omega) fun i x H2 Q2 hx e2 k => ?_) fun v H1 e1 r => q _ _ ⟨e1, ?_⟩
  · obtain ⟨p, s, i, j, rfl, hp, hok⟩ := hf x (by rw [← List.mem_reverse]; exact List.mem_of_getElem? hx)
    refine g3 (e2 _ _ hp) (k _ rfl et_yes fun _ => EvP.imp (EvP.ofU (eu_3 (ev_var rfl) (ev_var rfl) (ev_op ev_c (ev_var rfl) rv_I0))) fun v H3 e3 ⟨p, ev, _, h⟩ => ⟨p, s, i, 0 - j, ev, h, hok⟩)
  · obtain ⟨p, ys, ev, h0, h1, h2⟩ := r
    refine ⟨p, ys, ev, h0, h1, fun y hy => ?_, ?_⟩
    · obtain ⟨j, hj⟩ := List.getElem?_of_mem hy
      obtain ⟨_, _, h⟩ := pd_get' h2 hj
      exact h
    · have := pd_len h2
      rw [range_all, List.length_range, List.length_reverse] at this
      show ys.length ≤ n
      omega
abbrev spShort : Sp := prom (fun i : V × Nat => [i.1]) (fun i H => FacL H i.1 i.2 ∧ i.2 ≤ 50000) (fun i H v H' => Ex H H' ∧ FacF H v H' i.2)
theorem ok_shortened (B : Bs mg) (F : Fx K mg "shortened" s_shortened pn_shortened) : Fd P w K mg base "shortened" pn_shortened 1 spShort := by
  refine F.fd sc_shortened (fun _ => rfl) fun i f cdv A outer s H Q hr hp q E => ?_
  refine ⟨_, (pss_cons (ps_asg (pe_lst pa_nil) (pg_name (i := 1) sc_shortened.nd rfl (Or.inl rfl)))
    (pss_cons (ps_for PassesOwn.never rfl (pi_list (pv 0)) (pg_tup rfl (pgs_cons (pg_name (i := 2) sc_shortened.nd rfl (Or.inl rfl)) (pgs_cons (pg_name (i := 3) sc_shortened.nd rfl (Or.inl rfl)) (pgs_cons (pg_name (i := 4) sc_shortened.nd rfl (Or.inl rfl)) pgs_nil)))) (pss_one (ps_if (PW.pt (pw_and (pt_truth (pv 1) (by intro _; rfl)) (pw_and1 (pt_cmpR (op_eqD hr.units) (pe_ix (r := rIxL K) ix_list (pv 1) (pe_un un_neg pe_int) (fun _ _ => rfl)) (pe_tup (pa_cons (pv 2) (pa_cons (pv 3) (pa_cons (pe_op op_sub pe_int (pv 4)) pa_nil)))) (nomark _))))) (pss_one (ps_expr (pe_bm0K K rfl (pe_bm0 PySem.F.plainAttrs_list PySem.F.slot_list_pop PySem.F.type_list_pop mt_pop (pv 1))))) (pss_one (ps_expr (pe_bmK K rfl (pe_bm PySem.F.plainAttrs_list PySem.F.slot_list_append PySem.F.type_list_append mt_append (pv 1) (pa_cons (pe_tup (pa_cons (pv 2) (pa_cons (pv 3) (pa_cons (pv 4) pa_nil)))) pa_nil))))))))
    (pss_one (ps_ret (pv 1))))), ?_⟩
  obtain ⟨v, n⟩ := i
  obtain ⟨⟨a, vs, e, ha, hf, hn⟩, hz⟩ := hp
  dsimp only at e hn hz
  subst e
  refine q_asgL (el_lst ea_nil (Nat.zero_le _)) fun o H1 no e1 ho => ?_
  refine q_forL (K := K) (a := a) (xs := vs) (ev_var rfl) (sq_of (e1 _ _ ha)) (fun i σ H2 => ∃ y1 y2 y3 ys, σ = [some (.ref a), some (.ref o), y1, y2, y3] ∧ Ex H H2 ∧ H2 o = some (.lst ys) ∧ Facs H2 ys ∧ ys.length ≤ i) ?_ ?_ ?_ ?_
  · intro H2 e2
    exact ⟨none, none, none, [], rfl, e1.trans e2, e2 _ _ ho, fun _ h => absurd h (by simp), Nat.zero_le _⟩
  · rintro i σ H2 hi ⟨y1, y2, y3, ys, rfl, e2, h2, h3, h4⟩
    exact sq_of (e2 _ _ ha)
  · rintro i x σ H2 hx ⟨y1, y2, y3, ys, rfl, e2, h2, h3, h4⟩
    have hil : i < vs.length := (List.getElem?_eq_some_iff.mp hx).1
    obtain ⟨p, s, n1, n2, rfl, hp, hok⟩ := hf x (List.mem_of_getElem? hx)
    refine g3 (e2 _ _ hp) ?_
    have add : ∀ H3, Ex H2 H3 → tDrop (tBM K "list" rAppend (tVar 1) (tCons (tTup (tCons (tVar 2) (tCons (tVar 3) (tCons (tVar 4) tNil)))) tNil)) { nx := fun σ H2 => ∃ y1 y2 y3 ys, σ = [some (.ref a), some (.ref o), y1, y2, y3] ∧ Ex H H2 ∧ H2 o = some (.lst ys) ∧ Facs H2 ys ∧ ys.length ≤ i + 1, rt := Q } [some (.ref a), some (.ref o), some (.str s), some (.int n1), some (.int n2)] H3 := fun H3 e3 => by
      refine s_appU (e3 _ _ h2) (ev_var rfl) (eu_3 (ev_var rfl) (ev_var rfl) (ev_var rfl)) (by omega) fun p H4 np e4 hp => ⟨_, _, _, _, rfl, Ex.mut (e2.trans (e3.trans e4)) no, upd_same, ?_, by simp; omega⟩
      have kk : Tk H4 (upd H4 o (.lst (ys ++ [.ref p]))) := Tk.updl (e4 _ _ (e3 _ _ h2))
      intro v hv
      rcases List.mem_append.mp hv with hv | hv
      · exact (h3 v hv).keep (((Tk.of e3).trans (Tk.of e4)).trans kk)
      · rw [List.mem_singleton] at hv
        exact ⟨p, s, n1, n2, hv, kk _ _ hp, hok⟩
    rcases List.eq_nil_or_concat ys with hys | ⟨ys', last, hys⟩
    · subst hys
      exact s_if (b := false) (et_is (et_and (et_tru (K := K) (ev_var rfl) h2) fun h => absurd h (by decide)) (b := false) (Bool.false_and false)) (fun h => absurd h (by decide)) fun _ H3 e3 => add H3 e3
    · rw [List.concat_eq_append] at hys
      subst hys
      have hla : (ys' ++ [last]).getLast? = some last := by simp
      obtain ⟨pl, sl, l1, l2, el, hpl, lok⟩ := h3 last (by simp)
      subst el
      refine s_if (et_and (et_tru (K := K) (ev_var rfl) h2) fun _ => et_eqT (K := K) (kok3 lok) (kok3 hok) (k := [.inr sl, .inl l1, .inl l2]) (l := [.inr s, .inl n1, .inl (0 - n2)]) (ev_last (ev_var rfl) h2 hla) hpl (eu_3 (ev_var rfl) (ev_var rfl) (ev_op ev_c (ev_var rfl) rv_I0))) (fun _ H3 e3 => ?_) fun _ H3 e3 => add H3 e3
      refine s_pop (e3 _ _ h2) (ev_var rfl) hla fun H4 e4 => ⟨_, _, _, _, rfl, Ex.mut (e2.trans (e3.trans e4)) no, upd_same, ?_, ?_⟩
      · have kk : Tk H4 (upd H4 o (.lst (ys' ++ [V.ref pl]).dropLast)) := Tk.updl (e4 _ _ (e3 _ _ h2))
        intro v hv
        exact (h3 v (List.dropLast_subset _ hv)).keep (((Tk.of e3).trans (Tk.of e4)).trans kk)
      · rw [List.length_dropLast]
        omega
  · rintro σ H2 ⟨y1, y2, y3, ys, rfl, e2, h2, h3, h4⟩
    exact s_ret (ev_var rfl) fun H3 e3 => q _ _ ⟨e2.trans e3, o, ys, rfl, no, e3 _ _ h2, h3.keep (Tk.of e3), by show ys.length ≤ n; omega⟩
end
end FwK
end

section
set_option Elab.async false
set_option linter.all false
set_option maxRecDepth 100000
set_option maxHeartbeats 2000000
namespace FwK
open PySem PySem.Spec PyProof.Rows L2 Evl Fw FwR
/-! ### the object that folds -/
structure FoA where
  x : Addr
  dx : Addr
  ap : Addr
  ae : Addr
  ar : Addr
  al : Addr
  as : Addr
def flds (X : FoA) : List (Str × V) := [("prefixes", .ref X.ap), ("edges", .ref X.ae), ("parents", .ref X.ar), ("links", .ref X.al), ("steps", .ref X.as)]
def oV : Option Nat → V
  | none => .non
  | some p => .int (p : Int)
structure Fo (C : Addr) (X : FoA) (H : Hp) (pre : List Word) (bs : List Addr) (E : List Edge) (par : List (Option Nat)) : Prop where
  ins : H X.x = some (.ins C X.dx (flds X))
  hp : H X.ap = some (.lst (pre.map tx))
  he : H X.ae = some (.lst (bs.map V.ref))
  hE : Egs H bs E
  hr : H X.ar = some (.lst (par.map oV))
  hl : ∃ ls, H X.al = some (.lst ls) ∧ ls.length = par.length ∧ ∀ v ∈ ls, v = .non ∨ ∃ i : Int, v = .int i
  hs : ∃ ss, H X.as = some (.lst ss) ∧ ss.length + roots par ≤ par.length
  nd : [X.ap, X.ae, X.ar, X.al, X.as].Nodup
  len : par.length = pre.length
  low : Low par
  plen : ∀ u ∈ pre, u.length ≤ 400
  few : par.length ≤ 1000
/-- all but its five lists stays -/
def Kp (X : FoA) (H H' : Hp) : Prop := ∀ a o, H a = some o → a ≠ X.ap → a ≠ X.ae → a ≠ X.ar → a ≠ X.al → a ≠ X.as → H' a = some o
theorem Kp.of {X : FoA} {H H' : Hp} (e : Ex H H') : Kp X H H' := fun a o h _ _ _ _ _ => e a o h
theorem Kp.trans {X : FoA} {H H1 H2 : Hp} (a : Kp X H H1) (b : Kp X H1 H2) : Kp X H H2 := fun p o h h1 h2 h3 h4 h5 => b p o (a p o h h1 h2 h3 h4 h5) h1 h2 h3 h4 h5
theorem Kp.upd {X : FoA} {H : Hp} {a : Addr} {o : HO} (h : a = X.ap ∨ a = X.ae ∨ a = X.ar ∨ a = X.al ∨ a = X.as) : Kp X H (L2.upd H a o) := fun p u e h1 h2 h3 h4 h5 => by
  rw [upd_ne]
  · exact e
  · intro z
    subst z
    rcases h with h | h | h | h | h <;> simp_all
theorem Fo.keep {C : Addr} {X : FoA} {H H' : Hp} {pre : List Word} {bs : List Addr} {E : List Edge} {par : List (Option Nat)} (e : Ex H H') (F : Fo C X H pre bs E par) : Fo C X H' pre bs E par := by
  obtain ⟨ls, l1, l2, l3⟩ := F.hl
  obtain ⟨ss, s1, s2⟩ := F.hs
  exact ⟨e _ _ F.ins, e _ _ F.hp, e _ _ F.he, F.hE.keep (Tk.of e), e _ _ F.hr, ⟨ls, e _ _ l1, l2, l3⟩, ⟨ss, e _ _ s1, s2⟩, F.nd, F.len, F.low, F.plen, F.few⟩
theorem Fo.tk {C : Addr} {X : FoA} {H H' : Hp} {pre : List Word} {bs : List Addr} {E : List Edge} {par : List (Option Nat)} (F : Fo C X H pre bs E par) (k : Kp X H H') : Tk H H' := fun a xs h => by
  obtain ⟨ls, l1, l2, l3⟩ := F.hl
  obtain ⟨ss, s1, s2⟩ := F.hs
  exact k a _ h (ne_of h F.hp (by intro z; cases z)) (ne_of h F.he (by intro z; cases z)) (ne_of h F.hr (by intro z; cases z)) (ne_of h l1 (by intro z; cases z)) (ne_of h s1 (by intro z; cases z))
structure Cf (K : PySem.W.Frag) (C : Addr) : Prop where
  cl : Cls K C
  n_prefixes : NoAttr K C "prefixes"
  n_edges : NoAttr K C "edges"
  n_parents : NoAttr K C "parents"
  n_links : NoAttr K C "links"
  n_steps : NoAttr K C "steps"
section
variable {P : Program} {w : World} {K : PySem.W.Frag} {mg : Str → Option Value} {base : Heap} {C : Addr} {X : FoA} {pre : List Word} {bs : List Addr} {E : List Edge} {par : List (Option Nat)} {σ : L2.St} {H : Hp} {ta tb te : TE} {v : V}
theorem lk_p : (flds X).lookup ("prefixes" : Str) = some (.ref X.ap) := rfl
theorem lk_e : (flds X).lookup ("edges" : Str) = some (.ref X.ae) := rfl
theorem lk_r : (flds X).lookup ("parents" : Str) = some (.ref X.ar) := rfl
theorem lk_l : (flds X).lookup ("links" : Str) = some (.ref X.al) := rfl
theorem lk_s : (flds X).lookup ("steps" : Str) = some (.ref X.as) := rfl
theorem Fo.ep (T : Cf K C) (F : Fo C X H pre bs E par) (h : Ev ta σ H (.ref X.x)) : Ev (tFld K ta "prefixes") σ H (.ref X.ap) := ev_fld h F.ins T.cl T.n_prefixes lk_p
theorem Fo.ee (T : Cf K C) (F : Fo C X H pre bs E par) (h : Ev ta σ H (.ref X.x)) : Ev (tFld K ta "edges") σ H (.ref X.ae) := ev_fld h F.ins T.cl T.n_edges lk_e
theorem Fo.er (T : Cf K C) (F : Fo C X H pre bs E par) (h : Ev ta σ H (.ref X.x)) : Ev (tFld K ta "parents") σ H (.ref X.ar) := ev_fld h F.ins T.cl T.n_parents lk_r
theorem Fo.el (T : Cf K C) (F : Fo C X H pre bs E par) (h : Ev ta σ H (.ref X.x)) : Ev (tFld K ta "links") σ H (.ref X.al) := ev_fld h F.ins T.cl T.n_links lk_l
theorem Fo.es (T : Cf K C) (F : Fo C X H pre bs E par) (h : Ev ta σ H (.ref X.x)) : Ev (tFld K ta "steps") σ H (.ref X.as) := ev_fld h F.ins T.cl T.n_steps lk_s
/-- self.parents[point] -/
theorem Fo.parent (T : Cf K C) (F : Fo C X H pre bs E par) {p : Nat} {o : Option Nat} (h : Ev ta σ H (.ref X.x)) (hi : Ev tb σ H (.int (p : Int))) (hp : par[p]? = some o) : Ev (tOp (rIxL K) (tFld K ta "parents") tb) σ H (oV o) :=
  ev_ixl (F.er T h) hi F.hr (by rw [List.getElem?_map, hp]; rfl)
theorem oV_non (o : Option Nat) : decide (oV o = .non) = o.isNone := by cases o <;> rfl
/-! ### root, chain -/
abbrev spRoot (C : Addr) : Sp := spE (fun i : (FoA × List Word × List Addr × List Edge × List (Option Nat)) × Nat => [.ref i.1.1.x, .int (i.2 : Int)])
  (fun i H => Fo C i.1.1 H i.1.2.1 i.1.2.2.1 i.1.2.2.2.1 i.1.2.2.2.2 ∧ i.2 < i.1.2.2.2.2.length) (fun i v _ => v = .int (rt i.1.2.2.2.2 i.2 : Nat))
theorem ok_root (B : Bs mg) (T : Cf K C) (F : Mx K C "root" "Folding.root" s_Folding_root pn_Folding_root) : Md P w K mg base C "root" pn_Folding_root 1 (spRoot C) := by
  refine F.md sc_Folding_root (fun _ => rfl) fun i f cdv A outer s H Q hr hp q E => ?_
  refine ⟨_, (pss_cons (ps_while PassesOwn.never (pt_cmp (pc_notN (pe_ix (r := rIxL K) ix_list (pe_fldK K rfl (pe_fld (pv 0) rfl)) (pv 1) (fun _ _ => rfl))) rfl) (pss_one (ps_asg (pe_ix (r := rIxL K) ix_list (pe_fldK K rfl (pe_fld (pv 0) rfl)) (pv 1) (fun _ _ => rfl)) (pg_name (i := 1) sc_Folding_root.nd rfl (Or.inl rfl)))))
    (pss_one (ps_ret (pv 1)))), ?_⟩
  obtain ⟨⟨X, pre, bs, ed, par⟩, p0⟩ := i
  obtain ⟨Fo0, hlt⟩ := hp
  dsimp only at Fo0 hlt
  refine q_while (fun m σ H' => ∃ p : Nat, m = p ∧ σ = [some (.ref X.x), some (.int (p : Int))] ∧ Ex H H' ∧ p < par.length ∧ rt par p = rt par p0) p0 ⟨p0, rfl, rfl, Ex.refl _, hlt, rfl⟩ ?_
  rintro m σ H' ⟨p, rfl, rfl, e, hp, hrt⟩
  have Fo1 := Fo0.keep e
  obtain ⟨o, ho⟩ : ∃ o, par[m]? = some o := ⟨_, List.getElem?_eq_getElem hp⟩
  refine ⟨_, et_B (ev_notN (Fo1.parent T (ev_var rfl) (ev_var rfl) ho)), fun hb H1 e1 => ?_, fun hb H1 e1 => ?_⟩
  · rw [oV_non] at hb
    cases o with
    | none => cases hb
    | some p' =>
      have hl := Fo0.low _ _ ho
      refine ⟨fun σ2 H2 => ∃ p : Nat, p < m ∧ σ2 = [some (.ref X.x), some (.int (p : Int))] ∧ Ex H H2 ∧ p < par.length ∧ rt par p = rt par p0, fun σ2 H2 ⟨p2, h1, h2, h3, h4, h5⟩ => ⟨p2, h1, p2, rfl, h2, h3, h4, h5⟩, ?_⟩
      refine s_asg ((Fo1.keep e1).parent T (ev_var rfl) (ev_var rfl) ho) fun H2 e2 => ⟨p', hl, rfl, e.trans (e1.trans e2), by omega, ?_⟩
      rw [← rt_up ho hl]
      exact hrt
  · rw [oV_non] at hb
    cases o with
    | some p' => cases hb
    | none =>
      refine s_ret (ev_var rfl) fun H2 e2 => q _ _ ⟨e.trans (e1.trans e2), ?_⟩
      show V.int (m : Int) = V.int (rt par p0 : Nat)
      rw [← hrt, rt_root (.inl ho)]
abbrev spChain (C : Addr) : Sp := prom (fun i : (FoA × List Word × List Addr × List Edge × List (Option Nat)) × Nat => [.ref i.1.1.x, .int (i.2 : Int)])
  (fun i H => Fo C i.1.1 H i.1.2.1 i.1.2.2.1 i.1.2.2.2.1 i.1.2.2.2.2 ∧ i.2 < i.1.2.2.2.2.length) (fun i H v H' => Ex H H' ∧ FacF H v H' 1000)
theorem step_ok : PyData.strOk "step" = true := by decide +kernel
theorem given_ok : PyData.strOk "given" = true := by decide +kernel
theorem ok_chain (B : Bs mg) (T : Cf K C) (F : Mx K C "chain" "Folding.chain" s_Folding_chain pn_Folding_chain) : Md P w K mg base C "chain" pn_Folding_chain 1 (spChain C) := by
  refine F.md sc_Folding_chain (fun _ => rfl) fun i f cdv A outer s H Q hr hp q E => ?_
  refine ⟨_, (pss_cons (ps_asg (pe_lst pa_nil) (pg_name (i := 2) sc_Folding_chain.nd rfl (Or.inl rfl)))
    (pss_cons (ps_while PassesOwn.never (pt_cmp (pc_notN (pe_ix (r := rIxL K) ix_list (pe_fldK K rfl (pe_fld (pv 0) rfl)) (pv 1) (fun _ _ => rfl))) rfl) (pss_cons (ps_if (pt_cmp (pc_notN (pe_ix (r := rIxL K) ix_list (pe_fldK K rfl (pe_fld (pv 0) rfl)) (pv 1) (fun _ _ => rfl))) rfl) (pss_one (ps_expr (pe_bmK K rfl (pe_bm PySem.F.plainAttrs_list PySem.F.slot_list_append PySem.F.type_list_append mt_append (pv 2) (pa_cons (pe_tup (pa_cons pe_str (pa_cons (pe_ix (r := rIxL K) ix_list (pe_fldK K rfl (pe_fld (pv 0) rfl)) (pv 1) (fun _ _ => rfl)) (pa_cons pe_int pa_nil)))) pa_nil))))) pss_nil)
    (pss_one (ps_asg (pe_ix (r := rIxL K) ix_list (pe_fldK K rfl (pe_fld (pv 0) rfl)) (pv 1) (fun _ _ => rfl)) (pg_name (i := 1) sc_Folding_chain.nd rfl (Or.inl rfl))))))
    (pss_one (ps_ret (pv 2))))), ?_⟩
  obtain ⟨⟨X, pre, bs, ed, par⟩, p0⟩ := i
  obtain ⟨Fo0, hlt⟩ := hp
  dsimp only at Fo0 hlt
  obtain ⟨ls, l1, l2, l3⟩ := Fo0.hl
  have few := Fo0.few
  refine q_asgL (el_lst ea_nil (Nat.zero_le _)) fun o H1 no e1 ho => ?_
  refine q_while (fun m σ H' => ∃ (p : Nat) (ys : List V), m = p ∧ σ = [some (.ref X.x), some (.int (p : Int)), some (.ref o)] ∧ Ex H H' ∧ p < par.length ∧ H' o = some (.lst ys) ∧ Facs H' ys ∧ ys.length + p ≤ p0) p0 ⟨p0, [], rfl, rfl, e1, hlt, ho, fun _ h => absurd h (by simp), by simp⟩ ?_
  rintro m σ H' ⟨p, ys, rfl, rfl, e, hp, h2, h3, h4⟩
  have Fo1 := Fo0.keep e
  obtain ⟨po, hpo⟩ : ∃ o, par[m]? = some o := ⟨_, List.getElem?_eq_getElem hp⟩
  refine ⟨_, et_B (ev_notN (Fo1.parent T (ev_var rfl) (ev_var rfl) hpo)), fun hb H2 e2 => ?_, fun hb H2 e2 => ?_⟩
  · rw [oV_non] at hb
    cases po with
    | none => cases hb
    | some p' =>
      have hl := Fo0.low _ _ hpo
      have hlen : m < ls.length := by omega
      obtain ⟨lv, hlv⟩ : ∃ o, ls[m]? = some o := ⟨_, List.getElem?_eq_getElem hlen⟩
      have link : ∀ {H3 : Hp} {σ : L2.St}, Ex H H3 → σ[0]? = some (some (.ref X.x)) → σ[1]? = some (some (.int (m : Int))) → Ev (tOp (rIxL K) (tFld K (tVar 0) "links") (tVar 1)) σ H3 lv := fun e3 h0 h1 => ev_ixl ((Fo0.keep e3).el T (ev_var h0)) (ev_var h1) (e3 _ _ l1) hlv
      refine ⟨fun σ2 H2 => ∃ (p : Nat) (ys : List V), p < m ∧ σ2 = [some (.ref X.x), some (.int (p : Int)), some (.ref o)] ∧ Ex H H2 ∧ p < par.length ∧ H2 o = some (.lst ys) ∧ Facs H2 ys ∧ ys.length + p ≤ p0, fun σ2 H2 ⟨p2, ys2, h1, h2, h3, h4, h5⟩ => ⟨p2, h1, p2, ys2, rfl, h2, h3, h4, h5⟩, ?_⟩
      have e02 := e.trans e2
      have fin : ∀ H3 ys', Ex H H3 → H3 o = some (.lst ys') → Facs H3 ys' → ys'.length ≤ ys.length + 1 → tAsg (tOp (rIxL K) (tFld K (tVar 0) "parents") (tVar 1)) (gName 1) { nx := fun σ2 H2 => ∃ (p : Nat) (ys : List V), p < m ∧ σ2 = [some (.ref X.x), some (.int (p : Int)), some (.ref o)] ∧ Ex H H2 ∧ p < par.length ∧ H2 o = some (.lst ys) ∧ Facs H2 ys ∧ ys.length + p ≤ p0, rt := Q, bk := tRet (tVar 2) { nx := fun _ H' => Q .non H', rt := Q }, ct := fun σ2 H2 => ∃ (p : Nat) (ys : List V), p < m ∧ σ2 = [some (.ref X.x), some (.int (p : Int)), some (.ref o)] ∧ Ex H H2 ∧ p < par.length ∧ H2 o = some (.lst ys) ∧ Facs H2 ys ∧ ys.length + p ≤ p0 } [some (.ref X.x), some (.int (m : Int)), some (.ref o)] H3 := fun H3 ys' e3 h5 h6 h7 =>
        s_asg ((Fo0.keep e3).parent T (ev_var rfl) (ev_var rfl) hpo) fun H4 e4 => ⟨p', ys', hl, rfl, e3.trans e4, by omega, e4 _ _ h5, h6.keep (Tk.of e4), by omega⟩
      refine q_when (et_B (ev_notN (link e02 rfl rfl))) (fun hb2 H3 e3 => ?_) fun _ H3 e3 => fin H3 ys (e02.trans e3) ((e2.trans e3) _ _ h2) (h3.keep (Tk.of (e2.trans e3))) (by omega)
      rcases l3 lv (List.mem_of_getElem? hlv) with hn | ⟨li, hli⟩
      · subst hn
        cases hb2
      · subst hli
        refine s_appU ((e2.trans e3) _ _ h2) (ev_var rfl) (eu_3 ev_c (link (e02.trans e3) rfl rfl) ev_c) (by omega) fun p H4 np e4 hp => ?_
        have kk : Tk H4 (upd H4 o (.lst (ys ++ [.ref p]))) := Tk.updl (e4 _ _ ((e2.trans e3) _ _ h2))
        refine fin _ (ys ++ [.ref p]) (Ex.mut ((e02.trans e3).trans e4) no) upd_same ?_ (by simp)
        intro v hv
        rcases List.mem_append.mp hv with hv | hv
        · exact (h3 v hv).keep ((Tk.of ((e2.trans e3).trans e4)).trans kk)
        · rw [List.mem_singleton] at hv
          exact ⟨p, _, li, 1, hv, kk _ _ hp, step_ok⟩
  · exact s_ret (ev_var rfl) fun H3 e3 => q _ _ ⟨e.trans (e2.trans e3), o, ys, rfl, no, (e2.trans e3) _ _ h2, h3.keep (Tk.of (e2.trans e3)), by omega⟩
end
end FwK
end

section
set_option Elab.async false
set_option linter.all false
set_option maxRecDepth 100000
set_option maxHeartbeats 2000000
namespace FwK
open PySem PySem.Spec PyProof.Rows L2 Evl Fw FwR
section
variable {P : Program} {w : World} {K : PySem.W.Frag} {mg : Str → Option Value} {base : Heap} {C : Addr} {X : FoA} {pre : List Word} {bs : List Addr} {E : List Edge} {par : List (Option Nat)} {σ : L2.St} {H : Hp} {ta tb te : TE} {v : V}
theorem s_appP {D : Ends} {l : Addr} {xs : List V} {R : V → Hp → Prop} (hl : H l = some (.lst xs)) (ha : Ev ta σ H (.ref l)) (h : EvP te σ H R) (hz : xs.length < 100000) (k : ∀ v H1, Ex H H1 → R v H1 → D.nx σ (upd H1 l (.lst (xs ++ [v])))) :
    tDrop (tBM K "list" rAppend ta (tCons te tNil)) D σ H := ha H (Ex.refl H) _ fun H1 e1 =>
  ⟨Or.inl ⟨rfl, xs, sq_of (e1 l _ hl)⟩, h H1 e1 _ fun v H2 e2 r => ⟨l, xs, v, rfl, rfl, e2 l _ (e1 l _ hl), sz_lt hz, k v H2 (e1.trans e2) r⟩⟩
theorem eu_of {p : Addr} {xs : List V} (h : Ev ta σ H (.ref p)) (hp : H p = some (.lst xs)) : EvU (tCB (rTupOf K) (tCons ta tNil)) σ H xs := fun H1 e Q q =>
  h H1 e _ fun H2 e2 => ⟨p, xs, rfl, .inl ⟨sq_of (e2 _ _ (e _ _ hp)), fun l nl => q l _ (fresh_back e2 nl) (e2.trans (Ex.new nl)) upd_same⟩⟩
/-- a pair of which the second is a new tuple -/
theorem ep_pairU {x : V} {xs : List V} (ha : Ev ta σ H x) (hb : EvU tb σ H xs) : EvP (tTup (tCons ta (tCons tb tNil))) σ H (fun v H1 => ∃ p q, v = .ref p ∧ H1 p = some (.tup [x, .ref q]) ∧ H1 q = some (.tup xs)) := fun H1 e1 Q k =>
  ha H1 e1 _ fun H2 e2 => hb H2 (e1.trans e2) _ fun q H3 nq e3 hq => ⟨sz_of (Nat.le_of_ble_eq_true rfl), fun p np => k _ _ ((e2.trans e3).trans (Ex.new np)) ⟨p, q, rfl, upd_same, by rw [upd_ne (ne_of_none hq np)]; exact hq⟩⟩
theorem Fo.dis (F : Fo C X H pre bs E par) : X.ap ≠ X.ae ∧ X.ap ≠ X.ar ∧ X.ap ≠ X.al ∧ X.ap ≠ X.as ∧ X.ae ≠ X.ar ∧ X.ae ≠ X.al ∧ X.ae ≠ X.as ∧ X.ar ≠ X.al ∧ X.ar ≠ X.as ∧ X.al ≠ X.as := by
  have h := F.nd
  simp only [List.nodup_cons, List.mem_cons, List.not_mem_nil, or_false, not_or, List.nodup_nil, and_true, not_false_eq_true] at h
  obtain ⟨⟨h1, h2, h3, h4⟩, ⟨h5, h6, h7⟩, ⟨h8, h9⟩, h10⟩ := h
  exact ⟨h1, h2, h3, h4, h5, h6, h7, h8, h9, h10⟩
/-- self.parents[p] = lower; one step is left over -/
theorem Fo.setPar (F : Fo C X H pre bs E par) {p lo : Nat} (hp : par[p]? = some none) (hl : lo < p) : Fo C X (upd H X.ar (.lst ((par.map oV).set p (oV (some lo))))) pre bs E (par.set p (some lo)) ∧
    ∃ ss, (upd H X.ar (.lst ((par.map oV).set p (oV (some lo))))) X.as = some (.lst ss) ∧ ss.length + roots (par.set p (some lo)) + 1 ≤ par.length := by
  obtain ⟨d1, d2, d3, d4, d5, d6, d7, d8, d9, d10⟩ := F.dis
  obtain ⟨ls, l1, l2, l3⟩ := F.hl
  obtain ⟨ss, s1, s2⟩ := F.hs
  have hro := roots_link (lo := lo) hp
  have hs : (upd H X.ar (.lst ((par.map oV).set p (oV (some lo))))) X.as = some (.lst ss) := by rw [upd_ne d9.symm]; exact s1
  refine ⟨⟨?_, ?_, ?_, F.hE.keep (Tk.updl F.hr), ?_, ⟨ls, ?_, by rw [List.length_set]; exact l2, l3⟩, ⟨ss, hs, by rw [List.length_set]; omega⟩, F.nd, by rw [List.length_set]; exact F.len, F.low.link hl, F.plen, by rw [List.length_set]; exact F.few⟩, ss, hs, by omega⟩
  · rw [upd_ne (ne_of F.ins F.hr (by intro z; cases z))]; exact F.ins
  · rw [upd_ne d2]; exact F.hp
  · rw [upd_ne d5]; exact F.he
  · rw [upd_same, List.map_set]
  · rw [upd_ne d8.symm]; exact l1
theorem Fo.setLink (F : Fo C X H pre bs E par) {ls : List V} {p : Nat} {v : V} (hl : H X.al = some (.lst ls)) (hv : v = .non ∨ ∃ i : Int, v = .int i) : Fo C X (upd H X.al (.lst (ls.set p v))) pre bs E par := by
  obtain ⟨d1, d2, d3, d4, d5, d6, d7, d8, d9, d10⟩ := F.dis
  obtain ⟨ls', l1, l2, l3⟩ := F.hl
  obtain ⟨ss, s1, s2⟩ := F.hs
  have e : ls' = ls := by rw [l1] at hl; cases hl; rfl
  subst e
  refine ⟨?_, ?_, ?_, F.hE.keep (Tk.updl hl), ?_, ⟨_, upd_same, by rw [List.length_set]; exact l2, fun u hu => ?_⟩, ⟨ss, ?_, s2⟩, F.nd, F.len, F.low, F.plen, F.few⟩
  · rw [upd_ne (ne_of F.ins hl (by intro z; cases z))]; exact F.ins
  · rw [upd_ne d3]; exact F.hp
  · rw [upd_ne d6]; exact F.he
  · rw [upd_ne d8]; exact F.hr
  · rcases List.mem_or_eq_of_mem_set hu with hu | hu
    · exact l3 u hu
    · rw [hu]; exact hv
  · rw [upd_ne d10.symm]; exact s1
theorem Fo.addStep (F : Fo C X H pre bs E par) {ss : List V} {v : V} (hs : H X.as = some (.lst ss)) (hz : ss.length + roots par + 1 ≤ par.length) : Fo C X (upd H X.as (.lst (ss ++ [v]))) pre bs E par := by
  obtain ⟨d1, d2, d3, d4, d5, d6, d7, d8, d9, d10⟩ := F.dis
  obtain ⟨ls, l1, l2, l3⟩ := F.hl
  refine ⟨?_, ?_, ?_, F.hE.keep (Tk.updl hs), ?_, ⟨ls, ?_, l2, l3⟩, ⟨_, upd_same, ?_⟩, F.nd, F.len, F.low, F.plen, F.few⟩
  · rw [upd_ne (ne_of F.ins hs (by intro z; cases z))]; exact F.ins
  · rw [upd_ne d4]; exact F.hp
  · rw [upd_ne d7]; exact F.he
  · rw [upd_ne d9]; exact F.hr
  · rw [upd_ne d10]; exact l1
  · rw [List.length_append]; show ss.length + 1 + roots par ≤ _; omega
abbrev FoD := FoA × List Word × List Addr × List Edge × List (Option Nat)
abbrev FoI (C : Addr) (i : FoD) (H : Hp) : Prop := Fo C i.1 H i.2.1 i.2.2.1 i.2.2.2.1 i.2.2.2.2
abbrev spLink (C : Addr) : Sp := prom (fun i : FoD × Nat × Nat × V => [.ref i.1.1.x, .int (i.2.1 : Int), .int (i.2.2.1 : Int), i.2.2.2])
  (fun i H => FoI C i.1 H ∧ i.2.2.1 < i.2.1 ∧ i.1.2.2.2.2[i.2.1]? = some none ∧ FacL H i.2.2.2 10000 ∧ i.2.2.2 ≠ .ref i.1.1.ar)
  (fun i H v H' => v = .non ∧ Kp i.1.1 H H' ∧ Fo C i.1.1 H' i.1.2.1 i.1.2.2.1 i.1.2.2.2.1 (i.1.2.2.2.2.set i.2.1 (some i.2.2.1)))
theorem ok_link (B : Bs mg) (T : Cf K C) (F : Mx K C "link" "Folding.link" s_Folding_link pn_Folding_link) (g_reduce_of : Fd P w K mg base "reduce_of" pn_reduce_of 2 spRed) (g_inverse_of : Fd P w K mg base "inverse_of" pn_inverse_of 2 spInv)
    (g_shortened : Fd P w K mg base "shortened" pn_shortened 1 spShort) : Md P w K mg base C "link" pn_Folding_link 3 (spLink C) := by
  refine F.md sc_Folding_link (fun _ => rfl) fun i f cdv A outer s H Q hr hp q E => ?_
  refine ⟨_, (pss_cons (ps_asg (pe_fd g_reduce_of (hr.mono (by decide)) (by rfl) (pa_cons (pe_op op_add_str (pe_ix (r := rIxL K) ix_list (pe_fldK K rfl (pe_fld (pv 0) rfl)) (pv 1) (fun _ _ => rfl)) (pe_fd g_inverse_of (hr.mono (by decide)) (by rfl) (pa_cons (pe_ix (r := rIxL K) ix_list (pe_fldK K rfl (pe_fld (pv 0) rfl)) (pv 2) (fun _ _ => rfl)) pa_nil))) pa_nil)) (pg_name (i := 4) sc_Folding_link.nd rfl (Or.inl rfl)))
    (pss_cons (ps_asg (pv 2) (pg_sub (pe_fldK K rfl (pe_fld (pv 0) rfl)) (pv 1) set_list))
    (pss_cons (ps_asg (pe_fd g_shortened (hr.mono (by decide)) (by rfl) (pa_cons (pv 3) pa_nil)) (pg_name (i := 5) sc_Folding_link.nd rfl (Or.inl rfl)))
    (pss_cons (ps_if (pt_cmpR op_eq (pv 4) pe_str (nomark _)) (pss_one ps_retN) pss_nil)
    (pss_cons (ps_if (PW.pt (pw_and (pt_cmpR op_eq (pe_callB (r := Evl.rLenS K) call_len_seq (by rfl) B.z_len PySem.boot_len (pa_cons (pv 5) pa_nil)) pe_int (nomark _)) (pw_and (pt_cmpR op_eq (pe_ix (r := rIxT K) ix_tup (pe_ix (r := rIxL K) ix_list (pv 5) pe_int (fun _ _ => rfl)) pe_int (fun _ _ => rfl)) pe_str (nomark _)) (pw_and1 (pt_cmpR op_eq (pe_ix (r := rIxT K) ix_tup (pe_ix (r := rIxL K) ix_list (pv 5) pe_int (fun _ _ => rfl)) pe_int (fun _ _ => rfl)) pe_int (nomark _)))))) (pss_cons (ps_asg (pe_ix (r := rIxT K) ix_tup (pe_ix (r := rIxL K) ix_list (pv 5) pe_int (fun _ _ => rfl)) pe_int (fun _ _ => rfl)) (pg_sub (pe_fldK K rfl (pe_fld (pv 0) rfl)) (pv 1) set_list))
    (pss_one ps_retN)) pss_nil)
    (pss_cons (ps_asg (pe_callB (r := Evl.rLenS K) call_len_seq (by rfl) B.z_len PySem.boot_len (pa_cons (pe_fldK K rfl (pe_fld (pv 0) rfl)) pa_nil)) (pg_sub (pe_fldK K rfl (pe_fld (pv 0) rfl)) (pv 1) set_list))
    (pss_one (ps_expr (pe_bmK K rfl (pe_bm PySem.F.plainAttrs_list PySem.F.slot_list_append PySem.F.type_list_append mt_append (pe_fldK K rfl (pe_fld (pv 0) rfl)) (pa_cons (pe_tup (pa_cons (pv 4) (pa_cons (pe_callTy (r := rTupOf K) call_tuple_of (by rfl) B.z_tuple (by decide +kernel) (pa_cons (pv 5) pa_nil)) pa_nil))) pa_nil))))))))))), ?_⟩
  obtain ⟨⟨X, pre, bs, ed, par⟩, pt, lo, fv⟩ := i
  obtain ⟨F0, hlo, hpt, hf, hne⟩ := hp
  replace F0 : Fo C X H pre bs ed par := F0
  dsimp only at hlo hpt hf hne
  have hplt : pt < par.length := (List.getElem?_eq_some_iff.mp hpt).1
  have hlen := F0.len
  obtain ⟨u, hu⟩ : ∃ o, pre[pt]? = some o := ⟨_, List.getElem?_eq_getElem (by omega)⟩
  obtain ⟨u2, hu2⟩ : ∃ o, pre[lo]? = some o := ⟨_, List.getElem?_eq_getElem (by omega)⟩
  have lu := F0.plen u (List.mem_of_getElem? hu)
  have lu2 := F0.plen u2 (List.mem_of_getElem? hu2)
  refine q_asg (v := tx (red (u ++ inv u2))) (ev_fd (u ++ inv u2) (ea_cons (ev_addW (ev_ixl (F0.ep T (ev_var rfl)) (ev_var rfl) F0.hp (by rw [List.getElem?_map, hu]; rfl))
    (ev_fd u2 (ea_cons (ev_ixl (F0.ep T (ev_var rfl)) (ev_var rfl) F0.hp (by rw [List.getElem?_map, hu2]; rfl)) ea_nil) rfl fun _ _ => Nat.le_trans lu2 (by decide)) (by rw [inv_length]; omega)) ea_nil) rfl fun _ _ => by rw [List.length_append, inv_length]; omega) fun H1 e1 => ?_
  have F1 := F0.keep e1
  refine q_setAt (j := pt) (v := oV (some lo)) (ev_var rfl) (F1.er T (ev_var rfl)) (ev_var rfl) F1.hr (by rw [List.length_map]; exact hplt) fun H2 e2 => ?_
  obtain ⟨F3, ss, hss, hsl⟩ := (F1.keep e2).setPar hpt hlo
  generalize hH3 : upd H2 X.ar (.lst ((par.map oV).set pt (oV (some lo)))) = H3 at F3 hss
  have k3 : Kp X H H3 := by
    rw [← hH3]
    exact (Kp.of (e1.trans e2)).trans (Kp.upd (.inr (.inr (.inl rfl))))
  have hf3 : FacL H3 fv 10000 := by
    obtain ⟨p, vs, e, h1, h2, h3⟩ := hf
    subst e
    refine ⟨p, vs, rfl, ?_, h2.keep (F0.tk k3), h3⟩
    rw [← hH3, upd_ne (fun z => hne (by rw [z]))]
    exact e2 _ _ (e1 _ _ h1)
  refine q_asgP (ep_facF (N := 10000) (EvPA.of (ea_cons (ev_var rfl) ea_nil)) fun vs H4 e4 hvs => ⟨(fv, 10000), hvs, ⟨hf3.keep e4, by show 10000 ≤ 50000; decide⟩, rfl⟩) fun sv H4 e4 hsv => ?_
  have F4 := F3.keep e4
  obtain ⟨ps, svs, rfl, hps0, hps, hpf, hpl⟩ := hsv
  obtain ⟨ls, l1, l2, l3⟩ := F4.hl
  have k4 : Kp X H H4 := k3.trans (Kp.of e4)
  refine q_when (et_test (ev_op (ev_var rfl) (ev_is ev_c (by rw [← T_nil])) (rv_eqW (a := red (u ++ inv u2)) (b := [])))) (fun _ H5 e5 => q _ _ ⟨rfl, k4.trans (Kp.of e5), F4.keep e5⟩) fun _ H5 e5 => ?_
  have F5 := F4.keep e5
  have k5 := k4.trans (Kp.of e5)
  have hal5 : H5 X.al = some (.lst ls) := e5 _ _ l1
  have hps5 : H5 ps = some (.lst svs) := e5 _ _ hps
  -- the last two statements
  have last : ∀ H6, Ex H5 H6 → tSeq (tAsg (tCB (Evl.rLenS K) (tCons (tFld K (tVar 0) "steps") tNil)) (gSub (tFld K (tVar 0) "links") (tVar 1) rSetL))
      (tDrop (tBM K "list" rAppend (tFld K (tVar 0) "steps") (tCons (tTup (tCons (tVar 4) (tCons (tCB (rTupOf K) (tCons (tVar 5) tNil)) tNil))) tNil)))
      { nx := fun _ H' => Q .non H', rt := Q } [some (.ref X.x), some (.int (pt : Int)), some (.int (lo : Int)), some fv, some (tx (red (u ++ inv u2))), some (.ref ps)] H6 := fun H6 e6 => by
    have F6 := F5.keep e6
    have hss6 : H6 X.as = some (.lst ss) := e6 _ _ (e5 _ _ (e4 _ _ hss))
    refine q_setAt (j := pt) (v := .int (ss.length : Int)) (ev_lenL (F6.es T (ev_var rfl)) hss6) (F6.el T (ev_var rfl)) (ev_var rfl) (e6 _ _ hal5) (by rw [l2, List.length_set]; exact hplt) fun H7 e7 => ?_
    have F7 := (F6.keep e7).setLink (p := pt) (v := .int (ss.length : Int)) (e7 _ _ (e6 _ _ hal5)) (.inr ⟨_, rfl⟩)
    generalize hH8 : upd H7 X.al (.lst (ls.set pt (.int (ss.length : Int)))) = H8 at F7
    have k8 : Kp X H H8 := by
      rw [← hH8]
      exact (k5.trans (Kp.of (e6.trans e7))).trans (Kp.upd (.inr (.inr (.inr (.inl rfl)))))
    have hss8 : H8 X.as = some (.lst ss) := by
      rw [← hH8, upd_ne F0.dis.2.2.2.2.2.2.2.2.2.symm]
      exact e7 _ _ hss6
    have hps8 : H8 ps = some (.lst svs) := by
      have hps3 : ps ≠ X.al := by
        intro z
        obtain ⟨_, l1', _⟩ := F3.hl
        rw [z, l1'] at hps0
        cases hps0
      rw [← hH8, upd_ne hps3]
      exact e7 _ _ (e6 _ _ hps5)
    have few := F0.few
    exact s_appP hss8 (F7.es T (ev_var rfl)) (ep_pairU (ev_var rfl) (eu_of (K := K) (ev_var rfl) hps8)) (by omega) fun v H9 e9 _ => q _ _ ⟨rfl, (k8.trans (Kp.of e9)).trans (Kp.upd (.inr (.inr (.inr (.inr rfl))))), (F7.keep e9).addStep (e9 _ _ hss8) (by rw [List.length_set]; exact hsl)⟩
  cases hsv : svs with
  | nil =>
    rw [hsv] at hps5
    exact q_when (b := false) (et_andF (et_test (ev_is (ev_op (ev_lenL (ev_var rfl) hps5) ev_c rv_eqI) rfl))) (fun h => absurd h (by decide)) fun _ H6 e6 => last H6 e6
  | cons sv0 rest =>
    rw [hsv] at hps5
    obtain ⟨p0, s0, i0, j0, rfl, hp0, hok⟩ := hpf sv0 (by rw [hsv]; simp)
    have hp05 : H5 p0 = some (.tup [.str s0, .int i0, .int j0]) := e5 _ _ hp0
    have item : ∀ {H6 : Hp} {n : Nat} {v : V}, Ex H5 H6 → [V.str s0, .int i0, .int j0][n]? = some v → Ev (tOp (rIxT K) (tOp (rIxL K) (tVar 5) (tC (.int 0))) (tC (.int (n : Int)))) [some (.ref X.x), some (.int (pt : Int)), some (.int (lo : Int)), some fv, some (tx (red (u ++ inv u2))), some (.ref ps)] H6 v := fun e6 hn =>
      ev_ixt (ev_ixl (j := 0) (ev_var rfl) ev_c (e6 _ _ hps5) rfl) ev_c (e6 _ _ hp05) hn
    refine q_when (et_and (et_test (ev_op (ev_lenL (ev_var rfl) hps5) ev_c rv_eqI)) fun _ => et_and (et_test (ev_op (item (n := 0) (Ex.refl _) rfl) ev_c (rv_eq rfl))) fun _ => et_test (ev_op (item (n := 2) (Ex.refl _) rfl) ev_c rv_eqI)) (fun _ H6 e6 => ?_) fun _ H6 e6 => last H6 e6
    refine q_setAt (j := pt) (v := .int i0) (item (n := 1) e6 rfl) ((F5.keep e6).el T (ev_var rfl)) (ev_var rfl) (e6 _ _ hal5) (by rw [l2, List.length_set]; exact hplt) fun H7 e7 => ?_
    exact q _ _ ⟨rfl, (k5.trans (Kp.of (e6.trans e7))).trans (Kp.upd (.inr (.inr (.inr (.inl rfl))))), (F5.keep (e6.trans e7)).setLink (e7 _ _ (e6 _ _ hal5)) (.inr ⟨_, rfl⟩)⟩
end
end FwK
end

section
set_option Elab.async false
set_option linter.all false
set_option maxRecDepth 100000
set_option maxHeartbeats 2000000
namespace FwK
open PySem PySem.Spec PyProof.Rows L2 Evl Fw FwR
section
variable {P : Program} {w : World} {K : PySem.W.Frag} {mg : Str → Option Value} {base : Heap} {C : Addr} {X : FoA} {pre : List Word} {bs : List Addr} {E : List Edge} {par : List (Option Nat)} {σ : L2.St} {H : Hp} {ta tb te : TE} {v : V}
theorem no_link : (flds X).lookup ("link" : Str) = none := rfl
theorem no_merge : (flds X).lookup ("merge" : Str) = none := rfl
theorem no_root : (flds X).lookup ("root" : Str) = none := rfl
theorem no_chain : (flds X).lookup ("chain" : Str) = none := rfl
theorem no_two : (flds X).lookup ("fold_two" : Str) = none := rfl
theorem no_all : (flds X).lookup ("fold_all" : Str) = none := rfl
theorem no_petal : (flds X).lookup ("add_petal" : Str) = none := rfl
/-- the parents behind merge(one, other) -/
def mrg (par : List (Option Nat)) (one other : Nat) : List (Option Nat) :=
  if rt par one = rt par other then par else if rt par other < rt par one then par.set (rt par one) (some (rt par other)) else par.set (rt par other) (some (rt par one))
theorem mrg_len (par : List (Option Nat)) (a b : Nat) : (mrg par a b).length = par.length := by
  unfold mrg
  split
  · rfl
  · split <;> rw [List.length_set]
theorem rt_lt (hp : p < par.length) : rt par p < par.length := Nat.lt_of_le_of_lt (rt_le p) hp
theorem root_at (hl : Low par) {p : Nat} (hp : p < par.length) : par[rt par p]? = some none := by
  rcases rt_is hl p with r | r
  · exact r
  · have h1 := rt_lt hp
    have := List.getElem?_eq_none_iff.mp r
    omega
/-- self.root(e), self.chain(e) -/
theorem Fo.root (F : Fo C X H pre bs E par) {t : TE} {p : Nat} (ho : Ev ta σ H (.ref X.x)) (h : Ev t σ H (.int (p : Int))) (hp : p < par.length) : Ev (tMeth C "root" (spRoot C) [] E0 ta (tCons t tNil)) σ H (.int (rt par p : Nat)) :=
  ev_fm (((X, pre, bs, E, par) : FoD), p) ho F.ins no_root (ea_cons h ea_nil) rfl fun _ e => ⟨F.keep e, hp⟩
theorem Fo.chain (F : Fo C X H pre bs E par) {t : TE} {p : Nat} (ho : Ev ta σ H (.ref X.x)) (h : Ev t σ H (.int (p : Int))) (hp : p < par.length) : EvP (tMeth C "chain" (spChain C) [] E0 ta (tCons t tNil)) σ H (fun v H' => FacF H v H' 1000) :=
  ep_facM (n := fun _ => 1000) (((X, pre, bs, E, par) : FoD), p) ho F.ins no_chain (ea_cons h ea_nil) rfl fun _ e => ⟨F.keep e, hp⟩
theorem ep_opp {t : TE} {n : Nat} (h : EvP t σ H (fun v H' => FacL H' v n)) (hn : n ≤ 10000) : EvP (tCall spOpposite [] E0 (tCons t tNil)) σ H (fun v H' => FacF H v H' n) :=
  ep_facF (n := fun i : V × Nat => i.2) (epa_cons h (fun _ _ _ e r => r.keep e) epa_nil) fun vs H1 e ⟨v, r, ev, hv, hr⟩ => by
    subst hr
    exact ⟨(v, n), ev, ⟨hv, hn⟩, rfl⟩
abbrev spMerge (C : Addr) : Sp := prom (fun i : FoD × Nat × Nat × V => [.ref i.1.1.x, .int (i.2.1 : Int), .int (i.2.2.1 : Int), i.2.2.2])
  (fun i H => FoI C i.1 H ∧ i.2.1 < i.1.2.2.2.2.length ∧ i.2.2.1 < i.1.2.2.2.2.length ∧ FacL H i.2.2.2 4000)
  (fun i H v H' => v = .non ∧ Kp i.1.1 H H' ∧ Fo C i.1.1 H' i.1.2.1 i.1.2.2.1 i.1.2.2.2.1 (mrg i.1.2.2.2.2 i.2.1 i.2.2.1))
theorem ok_merge (B : Bs mg) (T : Cf K C) (F : Mx K C "merge" "Folding.merge" s_Folding_merge pn_Folding_merge) (g_Folding_root : Md P w K mg base C "root" pn_Folding_root 1 (spRoot C)) (g_Folding_chain : Md P w K mg base C "chain" pn_Folding_chain 1 (spChain C))
    (g_Folding_link : Md P w K mg base C "link" pn_Folding_link 3 (spLink C)) (g_opposite : Fd P w K mg base "opposite" pn_opposite 1 spOpposite) : Md P w K mg base C "merge" pn_Folding_merge 4 (spMerge C) := by
  refine F.md sc_Folding_merge (fun _ => rfl) fun i f cdv A outer s H Q hr hp q E => ?_
  refine ⟨_, (pss_cons (ps_asg (pe_fm (pv 0) g_Folding_root (hr.mono (by decide)) (pa_cons (pv 1) pa_nil)) (pg_name (i := 4) sc_Folding_merge.nd rfl (Or.inl rfl)))
    (pss_cons (ps_asg (pe_fm (pv 0) g_Folding_root (hr.mono (by decide)) (pa_cons (pv 2) pa_nil)) (pg_name (i := 5) sc_Folding_merge.nd rfl (Or.inl rfl)))
    (pss_cons (ps_if (pt_cmpR op_eq (pv 4) (pv 5) (nomark _)) (pss_one ps_retN) pss_nil)
    (pss_cons (ps_asg (pe_op op_cat (pe_op op_cat (pe_fd g_opposite (hr.mono (by decide)) (by rfl) (pa_cons (pe_fm (pv 0) g_Folding_chain (hr.mono (by decide)) (pa_cons (pv 1) pa_nil)) pa_nil)) (pv 3)) (pe_fm (pv 0) g_Folding_chain (hr.mono (by decide)) (pa_cons (pv 2) pa_nil))) (pg_name (i := 6) sc_Folding_merge.nd rfl (Or.inl rfl)))
    (pss_one (ps_if (pt_cmpR op_lt (pv 5) (pv 4) (nomark _)) (pss_one (ps_expr (pe_fm (pv 0) g_Folding_link (hr.mono (by decide)) (pa_cons (pv 4) (pa_cons (pv 5) (pa_cons (pv 6) pa_nil)))))) (pss_one (ps_expr (pe_fm (pv 0) g_Folding_link (hr.mono (by decide)) (pa_cons (pv 5) (pa_cons (pv 4) (pa_cons (pe_fd g_opposite (hr.mono (by decide)) (by rfl) (pa_cons (pv 6) pa_nil)) pa_nil)))))))))))), ?_⟩
  obtain ⟨⟨X, pre, bs, ed, par⟩, one, other, fv⟩ := i
  obtain ⟨F0, h1, h2, hf⟩ := hp
  replace F0 : Fo C X H pre bs ed par := F0
  replace h1 : one < par.length := h1
  replace h2 : other < par.length := h2
  replace hf : FacL H fv 4000 := hf
  replace q : ∀ v H', v = .non ∧ Kp X H H' ∧ Fo C X H' pre bs ed (mrg par one other) → Q v H' := q
  refine q_asg (F0.root (ev_var rfl) (ev_var rfl) h1) fun H1 e1 => ?_
  refine q_asg ((F0.keep e1).root (ev_var rfl) (ev_var rfl) h2) fun H2 e2 => ?_
  have e02 := e1.trans e2
  refine q_when (et_test (ev_op (ev_var rfl) (ev_var rfl) rv_eqI)) (fun hb H3 e3 => q _ _ ⟨rfl, Kp.of (e02.trans e3), ?_⟩) fun hb H3 e3 => ?_
  · have he : rt par one = rt par other := Int.ofNat.inj (of_decide_eq_true hb)
    unfold mrg
    rw [if_pos he]
    exact F0.keep (e02.trans e3)
  have hne : rt par one ≠ rt par other := fun e => of_decide_eq_false hb (by rw [e])
  have e03 := e02.trans e3
  have F3 := F0.keep e03
  refine q_asgP (ep_cat (n1 := 5000) (n2 := 1000) (EvP.imp (ep_cat (n1 := 1000) (n2 := 4000) (EvP.imp (ep_opp (n := 1000) (EvP.imp (F3.chain (ev_var rfl) (ev_var rfl) h1) fun _ _ _ r => r.l) (by decide)) fun _ _ _ r => r.l) (EvP.imp (EvP.of (ev_var rfl)) fun v H4 e4 hv => by
    rw [hv]
    exact hf.keep (e03.trans e4)) (by decide)) fun _ _ _ r => r.l) (EvP.imp (F3.chain (ev_var rfl) (ev_var rfl) h2) fun _ _ _ r => r.l) (by decide)) fun wv H4 e4 hw => ?_
  have F4 := F3.keep e4
  have e04 := e03.trans e4
  have hlow := F0.low
  refine s_if (et_test (ev_op (ev_var rfl) (ev_var rfl) rv_I0)) (fun hb2 H5 e5 => ?_) fun hb2 H5 e5 => ?_
  · have hlt : rt par other < rt par one := Int.ofNat_lt.mp (of_decide_eq_true hb2)
    refine s_drop' (run_fm (ev_var rfl) (F4.keep e5).ins no_link (EvPA.of (ea_cons (ev_var rfl) (ea_cons (ev_var rfl) (ea_cons (ev_var rfl) ea_nil)))) fun vs H6 e6 hv => ⟨((X, pre, bs, ed, par), rt par one, rt par other, wv), by rw [hv], ⟨F4.keep (e5.trans e6), hlt, root_at hlow h1, (hw.l.keep (e5.trans e6)).mono (by decide), hw.ne F3.hr⟩, fun v H7 ⟨hv, k7, f7⟩ => q _ _ ⟨rfl, (Kp.of (e04.trans (e5.trans e6))).trans k7, ?_⟩⟩)
    unfold mrg
    rw [if_neg hne, if_pos hlt]
    exact f7
  · have hge : ¬ rt par other < rt par one := fun h => of_decide_eq_false hb2 (Int.ofNat_lt.mpr h)
    refine s_drop' (run_fm (ev_var rfl) (F4.keep e5).ins no_link (epa_cons (EvP.of (ev_var rfl)) (fun _ _ _ _ r => r) (epa_cons (EvP.of (ev_var rfl)) (fun _ _ _ _ r => r) (epa_cons (ep_opp (n := 6000) (EvP.imp (EvP.of (ev_var rfl)) fun v H6 e6 hv => by
      rw [hv]
      exact hw.l.keep (e5.trans e6)) (by decide)) (fun _ _ _ e r => by
        obtain ⟨p, vs, a1, a2, a3, a4, a5⟩ := r
        exact ⟨p, vs, a1, a2, e _ _ a3, a4.keep (Tk.of e), a5⟩) epa_nil))) fun vs H6 e6 hv => ?_)
    obtain ⟨v1, r1, ev1, rfl, v2, r2, ev2, rfl, v3, r3, ev3, hv3, hr3⟩ := hv
    subst hr3 ev3 ev2 ev1
    refine ⟨((X, pre, bs, ed, par), rt par other, rt par one, v3), rfl, ⟨F4.keep (e5.trans e6), by show rt par one < rt par other; omega, root_at hlow h2, hv3.l.mono (by decide), hv3.ne (F4.keep e5).hr⟩, fun v H7 ⟨hv, k7, f7⟩ => q _ _ ⟨rfl, (Kp.of (e04.trans (e5.trans e6))).trans k7, ?_⟩⟩
    unfold mrg
    rw [if_neg hne, if_neg hge]
    exact f7
/-! ### fold_two -/
abbrev sideOk (par : List (Option Nat)) (e f : Edge) : Bool := (decide (rt par e.1 = rt par f.1) == decide (rt par e.2.2 = rt par f.2.2))
/-- the parents behind fold_two(e, f) -/
def two (par : List (Option Nat)) (e f : Edge) : List (Option Nat) :=
  if sideOk par e f = true then par else if rt par e.1 = rt par f.1 then mrg par e.2.2 f.2.2 else mrg par e.1 f.1
abbrev spTwo (C : Addr) : Sp := prom (fun i : FoD × (Addr × Edge) × Addr × Edge => [.ref i.1.1.x, .ref i.2.1.1, .ref i.2.2.1])
  (fun i H => FoI C i.1 H ∧ Eg H i.2.1.1 i.2.1.2 ∧ Eg H i.2.2.1 i.2.2.2 ∧ (i.2.1.2.1 < i.1.2.2.2.2.length ∧ i.2.1.2.2.2 < i.1.2.2.2.2.length) ∧ i.2.2.2.1 < i.1.2.2.2.2.length ∧ i.2.2.2.2.2 < i.1.2.2.2.2.length)
  (fun i H v H' => v = .bl (!sideOk i.1.2.2.2.2 i.2.1.2 i.2.2.2) ∧ Kp i.1.1 H H' ∧ Fo C i.1.1 H' i.1.2.1 i.1.2.2.1 i.1.2.2.2.1 (two i.1.2.2.2.2 i.2.1.2 i.2.2.2))
theorem ok_fold_two (B : Bs mg) (T : Cf K C) (F : Mx K C "fold_two" "Folding.fold_two" s_Folding_fold_two pn_Folding_fold_two) (g_Folding_root : Md P w K mg base C "root" pn_Folding_root 1 (spRoot C)) (g_Folding_chain : Md P w K mg base C "chain" pn_Folding_chain 1 (spChain C))
    (g_Folding_merge : Md P w K mg base C "merge" pn_Folding_merge 4 (spMerge C)) (g_opposite : Fd P w K mg base "opposite" pn_opposite 1 spOpposite) : Md P w K mg base C "fold_two" pn_Folding_fold_two 5 (spTwo C) := by
  refine F.md sc_Folding_fold_two (fun _ => rfl) fun i f cdv A outer s H Q hr hp q E => ?_
  refine ⟨_, (pss_cons (ps_asg (pe_lst (pa_cons (pe_fm (pv 0) g_Folding_root (hr.mono (by decide)) (pa_cons (pe_ix (r := rIxT K) ix_tup (pv 1) pe_int (fun _ _ => rfl)) pa_nil)) (pa_cons (pe_fm (pv 0) g_Folding_root (hr.mono (by decide)) (pa_cons (pe_ix (r := rIxT K) ix_tup (pv 2) pe_int (fun _ _ => rfl)) pa_nil)) pa_nil))) (pg_name (i := 3) sc_Folding_fold_two.nd rfl (Or.inl rfl)))
    (pss_cons (ps_asg (pe_lst (pa_cons (pe_fm (pv 0) g_Folding_root (hr.mono (by decide)) (pa_cons (pe_ix (r := rIxT K) ix_tup (pv 1) pe_int (fun _ _ => rfl)) pa_nil)) (pa_cons (pe_fm (pv 0) g_Folding_root (hr.mono (by decide)) (pa_cons (pe_ix (r := rIxT K) ix_tup (pv 2) pe_int (fun _ _ => rfl)) pa_nil)) pa_nil))) (pg_name (i := 4) sc_Folding_fold_two.nd rfl (Or.inl rfl)))
    (pss_cons (ps_if (pt_cmpR op_eq (pe_cmpR op_eq (pe_ix (r := rIxL K) ix_list (pv 3) pe_int (fun _ _ => rfl)) (pe_ix (r := rIxL K) ix_list (pv 3) pe_int (fun _ _ => rfl)) (nomark _)) (pe_cmpR op_eq (pe_ix (r := rIxL K) ix_list (pv 4) pe_int (fun _ _ => rfl)) (pe_ix (r := rIxL K) ix_list (pv 4) pe_int (fun _ _ => rfl)) (nomark _)) (nomark _)) (pss_one (ps_ret pe_bl)) pss_nil)
    (pss_cons (ps_asg (pe_ifExp (pt_cmpR op_eq (pe_ix (r := rIxL K) ix_list (pv 3) pe_int (fun _ _ => rfl)) (pe_ix (r := rIxL K) ix_list (pv 3) pe_int (fun _ _ => rfl)) (nomark _)) pe_int pe_int) (pg_name (i := 5) sc_Folding_fold_two.nd rfl (Or.inl rfl)))
    (pss_cons (ps_asg (pe_op op_cat (pe_fm (pv 0) g_Folding_chain (hr.mono (by decide)) (pa_cons (pe_ix (r := rIxT K) ix_tup (pv 1) (pv 5) (fun _ _ => rfl)) pa_nil)) (pe_fd g_opposite (hr.mono (by decide)) (by rfl) (pa_cons (pe_fm (pv 0) g_Folding_chain (hr.mono (by decide)) (pa_cons (pe_ix (r := rIxT K) ix_tup (pv 2) (pv 5) (fun _ _ => rfl)) pa_nil)) pa_nil))) (pg_name (i := 6) sc_Folding_fold_two.nd rfl (Or.inl rfl)))
    (pss_cons (ps_expr (pe_fm (pv 0) g_Folding_merge (hr.mono (by decide)) (pa_cons (pe_ix (r := rIxT K) ix_tup (pv 1) (pe_op op_sub pe_int (pv 5)) (fun _ _ => rfl)) (pa_cons (pe_ix (r := rIxT K) ix_tup (pv 2) (pe_op op_sub pe_int (pv 5)) (fun _ _ => rfl)) (pa_cons (pv 6) pa_nil)))))
    (pss_one (ps_ret pe_bl)))))))), ?_⟩
  obtain ⟨⟨X, pre, bs, ed, par⟩, ⟨b1, e⟩, b2, f⟩ := i
  obtain ⟨F0, he, hf, ⟨h1, h2⟩, h3, h4⟩ := hp
  obtain ⟨a, l, b⟩ := e
  obtain ⟨c, m, d⟩ := f
  replace F0 : Fo C X H pre bs ed par := F0
  replace h1 : a < par.length := h1
  replace h2 : b < par.length := h2
  replace h3 : c < par.length := h3
  replace h4 : d < par.length := h4
  replace he : H b1 = some (.tup [.int (a : Int), tx [l], .int (b : Int)]) := he
  replace hf : H b2 = some (.tup [.int (c : Int), tx [m], .int (d : Int)]) := hf
  replace q : ∀ v H', v = .bl (!sideOk par (a, l, b) (c, m, d)) ∧ Kp X H H' ∧ Fo C X H' pre bs ed (two par (a, l, b) (c, m, d)) → Q v H' := q
  have it1 : ∀ {H1 : Hp} {σ : L2.St} {t : TE} {n : Nat} {v : V}, Ex H H1 → σ[1]? = some (some (.ref b1)) → Ev t σ H1 (.int (n : Int)) → [V.int (a : Int), tx [l], .int (b : Int)][n]? = some v → Ev (tOp (rIxT K) (tVar 1) t) σ H1 v := fun e h ht hn => ev_ixt (ev_var h) ht (e _ _ he) hn
  have it2 : ∀ {H1 : Hp} {σ : L2.St} {t : TE} {n : Nat} {v : V}, Ex H H1 → σ[2]? = some (some (.ref b2)) → Ev t σ H1 (.int (n : Int)) → [V.int (c : Int), tx [m], .int (d : Int)][n]? = some v → Ev (tOp (rIxT K) (tVar 2) t) σ H1 v := fun e h ht hn => ev_ixt (ev_var h) ht (e _ _ hf) hn
  refine q_asgL (el_lst (ea_cons (F0.root (ev_var rfl) (it1 (n := 0) (Ex.refl _) rfl ev_c rfl) h1) (ea_cons (F0.root (ev_var rfl) (it2 (n := 0) (Ex.refl _) rfl ev_c rfl) h3) ea_nil)) (Nat.le_of_ble_eq_true rfl)) fun p1 H1 _ e1 hp1 => ?_
  have F1 := F0.keep e1
  refine q_asgL (el_lst (ea_cons (F1.root (ev_var rfl) (it1 (n := 2) e1 rfl ev_c rfl) h2) (ea_cons (F1.root (ev_var rfl) (it2 (n := 2) e1 rfl ev_c rfl) h4) ea_nil)) (Nat.le_of_ble_eq_true rfl)) fun p2 H2 _ e2 hp2 => ?_
  have e02 := e1.trans e2
  have hp1' := e2 _ _ hp1
  have st : ∀ {H3 : Hp} {σ : L2.St}, Ex H2 H3 → σ[3]? = some (some (.ref p1)) → Ev (tOp rEq (tOp (rIxL K) (tVar 3) (tC (.int 0))) (tOp (rIxL K) (tVar 3) (tC (.int 1)))) σ H3 (.bl (decide (rt par a = rt par c))) := fun e h => by
    have hd : decide (rt par a = rt par c) = decide (((rt par a : Nat) : Int) = (rt par c : Nat)) := decide_eq_decide.mpr ⟨fun e => by rw [e], Int.ofNat.inj⟩
    rw [hd]
    exact ev_op (ev_ixl (j := 0) (ev_var h) ev_c (e _ _ hp1') rfl) (ev_ixl (j := 1) (ev_var h) ev_c (e _ _ hp1') rfl) rv_eqI
  have sn : Ev (tOp rEq (tOp (rIxL K) (tVar 4) (tC (.int 0))) (tOp (rIxL K) (tVar 4) (tC (.int 1)))) [some (.ref X.x), some (.ref b1), some (.ref b2), some (.ref p1), some (.ref p2), none, none] H2 (.bl (decide (rt par b = rt par d))) := by
    have hd : decide (rt par b = rt par d) = decide (((rt par b : Nat) : Int) = (rt par d : Nat)) := decide_eq_decide.mpr ⟨fun e => by rw [e], Int.ofNat.inj⟩
    rw [hd]
    exact ev_op (ev_ixl (j := 0) (ev_var rfl) ev_c hp2 rfl) (ev_ixl (j := 1) (ev_var rfl) ev_c hp2 rfl) rv_eqI
  have rvB : ∀ x y : Bool, RV rEq (.bl x) (.bl y) H2 (.bl (x == y)) := fun x y => by
    have : (x == y) = decide (V.bl x = V.bl y) := (L2.dec_bl).symm
    rw [this]
    exact rv_eq rfl
  refine q_when (et_test (ev_op (st (Ex.refl _) rfl) sn (rvB _ _))) (fun hb H3 e3 => s_ret ev_c fun H4 e4 => q _ _ ⟨?_, Kp.of (e02.trans (e3.trans e4)), ?_⟩) fun hb H3 e3 => ?_
  · show V.bl false = V.bl (!sideOk par (a, l, b) (c, m, d))
    rw [show sideOk par (a, l, b) (c, m, d) = true from hb]
    rfl
  · unfold two
    rw [if_pos (show sideOk par (a, l, b) (c, m, d) = true from hb)]
    exact F0.keep (e02.trans (e3.trans e4))
  have hb' : sideOk par (a, l, b) (c, m, d) = false := hb
  have near : Ev (tIf (tTest (tOp rEq (tOp (rIxL K) (tVar 3) (tC (.int 0))) (tOp (rIxL K) (tVar 3) (tC (.int 1))))) (tC (.int 0)) (tC (.int 2))) [some (.ref X.x), some (.ref b1), some (.ref b2), some (.ref p1), some (.ref p2), none, none] H3 (.int ((if rt par a = rt par c then 0 else 2 : Nat) : Int)) :=
    ev_if (et_test (st e3 rfl)) (fun h => by rw [if_pos (of_decide_eq_true h)]; exact ev_c) fun h => by rw [if_neg (of_decide_eq_false h)]; exact ev_c
  refine q_asg near fun H4 e4 => ?_
  have e04 := (e02.trans e3).trans e4
  have F4 := F0.keep e04
  have tw : two par (a, l, b) (c, m, d) = if rt par a = rt par c then mrg par b d else mrg par a c := by
    unfold two
    rw [if_neg (by rw [hb']; decide)]
  have fin : ∀ (nr fr : Nat) (x y x' y' : Nat), (fr : Int) = 2 - (nr : Int) → [V.int (a : Int), tx [l], .int (b : Int)][nr]? = some (.int (x : Int)) → [V.int (c : Int), tx [m], .int (d : Int)][nr]? = some (.int (y : Int)) →
      [V.int (a : Int), tx [l], .int (b : Int)][fr]? = some (.int (x' : Int)) → [V.int (c : Int), tx [m], .int (d : Int)][fr]? = some (.int (y' : Int)) → x < par.length → y < par.length → x' < par.length → y' < par.length → two par (a, l, b) (c, m, d) = mrg par x' y' →
      tSeq (tAsg (tOp rCat (tMeth C "chain" (spChain C) [] E0 (tVar 0) (tCons (tOp (rIxT K) (tVar 1) (tVar 5)) tNil)) (tCall spOpposite [] E0 (tCons (tMeth C "chain" (spChain C) [] E0 (tVar 0) (tCons (tOp (rIxT K) (tVar 2) (tVar 5)) tNil)) tNil))) (gName 6))
        (tSeq (tDrop (tMeth C "merge" (spMerge C) [] E0 (tVar 0) (tCons (tOp (rIxT K) (tVar 1) (tOp (rI0 fun i j => .int (i - j)) (tC (.int 2)) (tVar 5))) (tCons (tOp (rIxT K) (tVar 2) (tOp (rI0 fun i j => .int (i - j)) (tC (.int 2)) (tVar 5))) (tCons (tVar 6) tNil))))) (tRet (tC (.bl true))))
        { nx := fun _ H' => Q .non H', rt := Q } [some (.ref X.x), some (.ref b1), some (.ref b2), some (.ref p1), some (.ref p2), some (.int (nr : Int)), none] H4 := fun nr fr x y x' y' hfr i1 i2 i3 i4 l1 l2 l3 l4 ht => by
    refine q_asgP (ep_cat (n1 := 1000) (n2 := 1000) (EvP.imp (F4.chain (ev_var rfl) (it1 (n := nr) e04 rfl (ev_var rfl) i1) l1) fun _ _ _ r => r.l) (EvP.imp (ep_opp (n := 1000) (EvP.imp (F4.chain (ev_var rfl) (it2 (n := nr) e04 rfl (ev_var rfl) i2) l2) fun _ _ _ r => r.l) (by decide)) fun _ _ _ r => r.l) (by decide)) fun fv H5 e5 hfv => ?_
    have F5 := F4.keep e5
    have e05 := e04.trans e5
    have efr : Ev (tOp (rI0 fun i j => .int (i - j)) (tC (.int 2)) (tVar 5)) [some (.ref X.x), some (.ref b1), some (.ref b2), some (.ref p1), some (.ref p2), some (.int (nr : Int)), some fv] H5 (.int (fr : Int)) := by
      rw [hfr]
      exact ev_op ev_c (ev_var rfl) rv_I0
    refine q_drop' (run_fm (ev_var rfl) F5.ins no_merge (EvPA.of (ea_cons (it1 (n := fr) e05 rfl efr i3) (ea_cons (it2 (n := fr) e05 rfl efr i4) (ea_cons (ev_var rfl) ea_nil)))) fun vs H6 e6 hv => ⟨((X, pre, bs, ed, par), x', y', fv), by rw [hv], ⟨F5.keep e6, l3, l4, (hfv.l.keep e6).mono (by decide)⟩, fun v H7 ⟨hv, k7, f7⟩ => ?_⟩)
    refine s_ret ev_c fun H8 e8 => q _ _ ⟨?_, ((Kp.of (e05.trans e6)).trans k7).trans (Kp.of e8), ?_⟩
    · rw [hb']
      rfl
    · rw [ht]
      exact Fo.keep e8 f7
  by_cases hs : rt par a = rt par c
  · rw [if_pos hs] at tw
    have := fin 0 2 a c b d rfl rfl rfl rfl rfl h1 h3 h2 h4 tw
    rw [if_pos hs]
    exact this
  · rw [if_neg hs] at tw
    have := fin 2 0 b d a c rfl rfl rfl rfl rfl h2 h4 h1 h3 tw
    rw [if_neg hs]
    exact this
end
end FwK
end

section
set_option Elab.async false
set_option linter.all false
set_option maxRecDepth 100000
set_option maxHeartbeats 2000000
namespace FwK
open PySem PySem.Spec PyProof.Rows L2 Evl Fw FwR
section
variable {K : PySem.W.Frag} {σ : L2.St} {H H' : Hp} {ta tb te : TE} {t u : TT} {x y z v : V} {D : Ends} {tu tw tz : TS} {g : TG} {m : Str}
theorem s_forE {a : Addr} {xs : List V} {ta : TA} {i j : Nat} (h : EvA ta σ H [.ref a]) (hx : H a = some (.lst xs)) (Pv : Nat → L2.St → Hp → Prop) (h0 : ∀ H1, Ex H H1 → Pv 0 σ H1) (hl : ∀ k σ' H', k ≤ xs.length → Pv k σ' H' → H' a = some (.lst xs))
    (hs : ∀ (k : Nat) x σ' H' H2, xs[k]? = some x → Pv k σ' H' → Ex H' H2 → tu { D with nx := Pv (k + 1), ct := Pv (k + 1), bk := D.nx } ((σ'.set i (some (.int (k : Int)))).set j (some x)) H2) (hd : ∀ σ' H', Pv xs.length σ' H' → D.nx σ' H') :
    tFor (iEnum K ta) (gTup K 2 (gCons (gName i) (gCons (gName j) gNil))) tu D σ H :=
  h H (Ex.refl H) _ fun H1 e1 => ⟨a, xs, rfl, sq_of (e1 _ _ hx), for_it walk_enum Pv (h0 H1 e1) (fun k σ' H' hk p => sq_of (hl k σ' H' hk p)) (fun k v σ' H' H2 hk p hy => by
    obtain ⟨Tq, x, y, rfl, nT, rfl, ex, ey⟩ := hy
    cases ex
    exact g2 upd_same (hs k y σ' H' _ ey p (Ex.new nT))) hd⟩
theorem s_forET {a : Addr} {xs : List V} {ta : TA} {i j : Nat} (h : EvA ta σ H [.ref a]) (hx : H a = some (.tup xs)) (Pv : Nat → L2.St → Hp → Prop) (h0 : ∀ H1, Ex H H1 → Pv 0 σ H1) (hl : ∀ k σ' H', k ≤ xs.length → Pv k σ' H' → H' a = some (.tup xs))
    (hs : ∀ (k : Nat) x σ' H' H2, xs[k]? = some x → Pv k σ' H' → Ex H' H2 → tu { D with nx := Pv (k + 1), ct := Pv (k + 1), bk := D.nx } ((σ'.set i (some (.int (k : Int)))).set j (some x)) H2) (hd : ∀ σ' H', Pv xs.length σ' H' → D.nx σ' H') :
    tFor (iEnumT K ta) (gTup K 2 (gCons (gName i) (gCons (gName j) gNil))) tu D σ H :=
  h H (Ex.refl H) _ fun H1 e1 => ⟨a, xs, rfl, st_of (e1 _ _ hx), for_it walk_enumD Pv (h0 H1 e1) (fun k σ' H' hk p => st_of (hl k σ' H' hk p)) (fun k v σ' H' H2 hk p hy => by
    obtain ⟨Tq, x, y, rfl, nT, rfl, ex, ey⟩ := hy
    cases ex
    cases ey
    exact g2 upd_same (hs k _ σ' H' _ (by rw [List.getD_eq_getElem?_getD, List.getElem?_eq_getElem hk]; rfl) p (Ex.new nT))) hd⟩
theorem s_forEW {w : Word} {ta : TA} {i j : Nat} (h : EvA ta σ H [tx w]) (Pv : Nat → L2.St → Hp → Prop) (h0 : ∀ H1, Ex H H1 → Pv 0 σ H1)
    (hs : ∀ (k : Nat) l σ' H' H2, w[k]? = some l → Pv k σ' H' → Ex H' H2 → tu { D with nx := Pv (k + 1), ct := Pv (k + 1), bk := D.nx } ((σ'.set i (some (.int (k : Int)))).set j (some (tx [l]))) H2) (hd : ∀ σ' H', Pv w.length σ' H' → D.nx σ' H') :
    tFor (iEnumS ta) (gTup K 2 (gCons (gName i) (gCons (gName j) gNil))) tu D σ H :=
  h H (Ex.refl H) _ fun H1 e1 => ⟨T w, rfl, for_it walk_enumD Pv (h0 H1 e1) (fun _ _ _ _ _ => trivial) (fun k v σ' H' H2 hk p hy => by
    obtain ⟨Tq, x, y, rfl, nT, rfl, ex, ey⟩ := hy
    cases ex
    cases ey
    rw [T_size] at hk
    have hc : (T w).cps.getD k 0 = cd w[k] := by
      have h1 := T_get w k
      rw [List.getElem?_eq_getElem hk] at h1
      rw [Array.getD_eq_getD_getElem?, h1]
      rfl
    rw [hc]
    exact g2 upd_same (hs k w[k] σ' H' _ (List.getElem?_eq_getElem hk) p (Ex.new nT))) (by rw [T_size]; exact hd)⟩
theorem s_forNLn {xs : List V} {tl : TE} {j : Nat} (h : EvL tl σ H xs) (Pv : Addr → Nat → L2.St → Hp → Prop) (h0 : ∀ p H1, H p = none → Ex H H1 → H1 p = some (.lst xs) → Pv p 0 σ H1) (hl : ∀ p i σ' H', i ≤ xs.length → Pv p i σ' H' → SqL K H' p xs)
    (hs : ∀ p i x σ' H', xs[i]? = some x → Pv p i σ' H' → tu { D with nx := Pv p (i + 1), ct := Pv p (i + 1), bk := D.nx } (σ'.set j (some x)) H') (hd : ∀ p σ' H', Pv p xs.length σ' H' → D.nx σ' H') : tFor (iList K tl) (gName j) tu D σ H :=
  s_forNL h Pv h0 hl hs hd
theorem s_ifAndM {b : Bool} (h1 : EvT t σ H b) (h2 : b = true → ∀ H1, Ex H H1 → u σ H1 (fun c H2 => if c = true then tu D σ H2 else tw D σ H2)) (h3 : b = false → ∀ H1, Ex H H1 → tw D σ H1) : tIfS (tAnd t u) tu tw D σ H :=
  h1 H (Ex.refl H) _ fun H1 e => by
    cases b with
    | true =>
      show if true = true then _ else _
      rw [if_pos rfl]
      exact h2 rfl H1 e
    | false =>
      show if false = true then _ else _
      rw [if_neg (by decide)]
      show if false = true then _ else _
      rw [if_neg (by decide)]
      exact h3 rfl H1 e
theorem cut_drop (xs : List V) (n : Nat) : cutV xs (some (n : Int)) none = xs.drop n := by
  unfold cutV
  rw [HT.sIx_nat, HT.sIx_none]
  by_cases h : n ≤ xs.length
  · rw [Nat.min_eq_left h, List.take_of_length_le (by rw [List.length_drop]; omega)]
  · rw [Nat.min_eq_right (by omega), List.drop_of_length_le (Nat.le_refl _), List.drop_of_length_le (by omega), List.take_nil]
theorem el_drop {a : Addr} {xs : List V} {tl : TE} {n : Nat} (h : Ev te σ H (.ref a)) (hn : Ev tl σ H (.int (n : Int))) (hx : H a = some (.lst xs)) : EvL (tSl (rSlL K) te (tPart tl) tNoPart) σ H (xs.drop n) := by
  rw [← cut_drop]
  exact el_sl h (eo_some hn) eo_none (sq_of hx)
end
section
variable {P : Program} {w : World} {K : PySem.W.Frag} {mg : Str → Option Value} {base : Heap} {C : Addr} {X : FoA} {pre : List Word} {bs : List Addr} {E : List Edge} {par : List (Option Nat)} {σ : L2.St} {H : Hp} {ta tb te : TE} {v : V} {ws don : List Word}
/-- all edges with one letter agree -/
def AllOk (E : List Edge) (par : List (Option Nat)) : Prop := ∀ a b l c d, (a, l, b) ∈ E → (c, l, d) ∈ E → (rt par a = rt par c ↔ rt par b = rt par d)
theorem sideOk_iff {e f : Edge} : sideOk par e f = true ↔ (rt par e.1 = rt par f.1 ↔ rt par e.2.2 = rt par f.2.2) := by
  unfold sideOk
  rw [beq_iff_eq, decide_eq_decide]
theorem two_step (I : FI ws don pre E par 0) {e f : Edge} (he : e ∈ E) (hf : f ∈ E) (hl : e.2.1 = f.2.1) : FI ws don pre E (two par e f) 0 ∧ (sideOk par e f = true → two par e f = par) ∧ (sideOk par e f = false → roots (two par e f) < roots par) := by
  obtain ⟨a, l, b⟩ := e
  obtain ⟨c, m, d⟩ := f
  cases (show l = m from hl)
  have ha := I.lt _ he
  have hc := I.lt _ hf
  cases hs : sideOk par (a, l, b) (c, l, d) with
  | true =>
    have ht : two par (a, l, b) (c, l, d) = par := by unfold two; rw [if_pos hs]
    rw [ht]
    exact ⟨I, fun _ => rfl, fun h => nomatch h⟩
  | false =>
    have hn : ¬ (rt par a = rt par c ↔ rt par b = rt par d) := fun h => by
      rw [sideOk_iff.mpr h] at hs
      cases hs
    by_cases h1 : rt par a = rt par c
    · have h2 : rt par b ≠ rt par d := fun h => hn ⟨fun _ => h, fun _ => h1⟩
      have ht : two par (a, l, b) (c, l, d) = if rt par d < rt par b then par.set (rt par b) (some (rt par d)) else par.set (rt par d) (some (rt par b)) := by
        unfold two
        rw [if_neg (by rw [hs]; decide), if_pos h1]
        unfold mrg
        rw [if_neg h2]
      rw [ht]
      refine ⟨I.merge ha.2 hc.2 (I.twin he hf h1) h2, (fun h => nomatch h), fun _ => ?_⟩
      exact Nat.le_of_eq (rt_merge I.low (I.rootAt ha.2) (I.rootAt hc.2) h2).2
    · have h2 : rt par b = rt par d := Classical.byContradiction fun h => hn ⟨fun h' => absurd h' h1, fun h' => absurd h' h⟩
      have ht : two par (a, l, b) (c, l, d) = if rt par c < rt par a then par.set (rt par a) (some (rt par c)) else par.set (rt par c) (some (rt par a)) := by
        unfold two
        rw [if_neg (by rw [hs]; decide), if_neg h1]
        unfold mrg
        rw [if_neg h1]
      rw [ht]
      refine ⟨I.merge ha.1 hc.1 (I.twin' he hf h2) h1, (fun h => nomatch h), fun _ => ?_⟩
      exact Nat.le_of_eq (rt_merge I.low (I.rootAt ha.1) (I.rootAt hc.1) h1).2
abbrev FaD := FoD × List Word × List Word
abbrev spAll (C : Addr) : Sp := prom (fun i : FaD => [.ref i.1.1.x]) (fun i H => FoI C i.1 H ∧ FI i.2.1 i.2.2 i.1.2.1 i.1.2.2.2.1 i.1.2.2.2.2 0)
  (fun i H v H' => v = .non ∧ Kp i.1.1 H H' ∧ ∃ par', Fo C i.1.1 H' i.1.2.1 i.1.2.2.1 i.1.2.2.2.1 par' ∧ FI i.2.1 i.2.2 i.1.2.1 i.1.2.2.2.1 par' 0 ∧ AllOk i.1.2.2.2.1 par')
/-- what one pass has found so far: in the pairs (i, j), i < n or i = n and j < k -/
def Seen (E : List Edge) (par : List (Option Nat)) (n k : Nat) : Prop := ∀ (i j : Nat) (e f : Edge), E[i]? = some e → E[j]? = some f → i < j → (i < n ∨ (i = n ∧ j < k)) → e.2.1 = f.2.1 → sideOk par e f = true
def Pass (ws don : List Word) (pre : List Word) (E : List Edge) (par0 : List (Option Nat)) (b : Bool) (par : List (Option Nat)) (n k : Nat) : Prop := FI ws don pre E par 0 ∧ ((b = true ∧ roots par < roots par0) ∨ (b = false ∧ par = par0 ∧ Seen E par n k))
theorem seen_all (h : Seen E par E.length 0) : AllOk E par := fun a b l c d he hf => by
  obtain ⟨i, hi⟩ := List.getElem?_of_mem he
  obtain ⟨j, hj⟩ := List.getElem?_of_mem hf
  have li : i < E.length := (List.getElem?_eq_some_iff.mp hi).1
  have lj : j < E.length := (List.getElem?_eq_some_iff.mp hj).1
  rcases Nat.lt_trichotomy i j with h1 | h1 | h1
  · exact sideOk_iff.mp (h i j _ _ hi hj h1 (.inl li) rfl)
  · subst h1
    rw [hi] at hj
    cases hj
    exact ⟨fun _ => rfl, fun _ => rfl⟩
  · have := sideOk_iff.mp (h j i _ _ hj hi h1 (.inl lj) rfl)
    exact ⟨fun e => (this.mp e.symm).symm, fun e => (this.mpr e.symm).symm⟩
theorem ok_fold_all (B : Bs mg) (T : Cf K C) (F : Mx K C "fold_all" "Folding.fold_all" s_Folding_fold_all pn_Folding_fold_all) (g_Folding_fold_two : Md P w K mg base C "fold_two" pn_Folding_fold_two 5 (spTwo C)) : Md P w K mg base C "fold_all" pn_Folding_fold_all 6 (spAll C) := by
  refine F.md sc_Folding_fold_all (fun _ => rfl) fun i f cdv A outer s H Q hr hp q E => ?_
  refine ⟨_, (pss_cons (ps_asg pe_bl (pg_name (i := 1) sc_Folding_fold_all.nd rfl (Or.inl rfl)))
    (pss_one (ps_while PassesOwn.never (pt_val (pv 1)) (pss_cons (ps_asg pe_bl (pg_name (i := 1) sc_Folding_fold_all.nd rfl (Or.inl rfl)))
    (pss_one (ps_for PassesOwn.never rfl (pi_enum (by rfl) B.z_enumerate (pa_cons (pe_fldK K rfl (pe_fld (pv 0) rfl)) pa_nil)) (pg_tup rfl (pgs_cons (pg_name (i := 2) sc_Folding_fold_all.nd rfl (Or.inl rfl)) (pgs_cons (pg_name (i := 3) sc_Folding_fold_all.nd rfl (Or.inl rfl)) pgs_nil))) (pss_one (ps_for PassesOwn.never rfl (pi_list (pe_slice sl_list (pe_fldK K rfl (pe_fld (pv 0) rfl)) (po_some (pe_op op_add (pv 2) pe_int)) po_none)) (pg_name (i := 4) sc_Folding_fold_all.nd rfl (Or.inl rfl)) (pss_one (ps_if (PW.pt (pw_and (pt_cmpR op_eq (pe_ix (r := rIxT K) ix_tup (pv 3) pe_int (fun _ _ => rfl)) (pe_ix (r := rIxT K) ix_tup (pv 4) pe_int (fun _ _ => rfl)) (nomark _)) (pw_and1 (pt_val (pe_fm (pv 0) g_Folding_fold_two (hr.mono (by decide)) (pa_cons (pv 3) (pa_cons (pv 4) pa_nil))))))) (pss_one (ps_asg pe_bl (pg_name (i := 1) sc_Folding_fold_all.nd rfl (Or.inl rfl)))) pss_nil)))))))))), ?_⟩
  obtain ⟨⟨X, pre, bs, ed, par⟩, ws, don⟩ := i
  obtain ⟨F0, I0⟩ := hp
  replace F0 : Fo C X H pre bs ed par := F0
  replace I0 : FI ws don pre ed par 0 := I0
  replace q : ∀ v H', v = .non ∧ Kp X H H' ∧ (∃ par', Fo C X H' pre bs ed par' ∧ FI ws don pre ed par' 0 ∧ AllOk ed par') → Q v H' := q
  have hblen : bs.length = ed.length := pd_len F0.hE
  refine q_asg ev_c fun H1 e1 => ?_
  refine s_while (fun m σ H' => ∃ (b : Bool) (par' : List (Option Nat)) (y2 y3 y4 : Option V), m = roots par' + (if b then 1 else 0) ∧ σ = [some (.ref X.x), some (.bl b), y2, y3, y4] ∧ Kp X H H' ∧ Fo C X H' pre bs ed par' ∧ FI ws don pre ed par' 0 ∧ (b = false → AllOk ed par')) (roots par + 1)
    ⟨true, par, none, none, none, rfl, rfl, Kp.of e1, F0.keep e1, I0, fun h => nomatch h⟩ ?_
  rintro m σ H' ⟨b, par', y2, y3, y4, rfl, rfl, k1, F1, I1, ok1⟩
  refine ⟨b, et_B (ev_var rfl), fun hb H2 e2 => ?_, fun hb H2 e2 => q _ _ ⟨rfl, k1.trans (Kp.of e2), par', F1.keep e2, I1, ok1 hb⟩⟩
  subst hb
  refine ⟨fun σ2 H2 => ∃ (b : Bool) (par2 : List (Option Nat)) (y2 y3 y4 : Option V), roots par2 + (if b then 1 else 0) < roots par' + 1 ∧ σ2 = [some (.ref X.x), some (.bl b), y2, y3, y4] ∧ Kp X H H2 ∧ Fo C X H2 pre bs ed par2 ∧ FI ws don pre ed par2 0 ∧ (b = false → AllOk ed par2),
    fun σ2 H2 ⟨b, par2, y2, y3, y4, h1, h2, h3, h4, h5, h6⟩ => ⟨_, h1, b, par2, y2, y3, y4, rfl, h2, h3, h4, h5, h6⟩, ?_⟩
  refine q_asg ev_c fun H3 e3 => ?_
  have F3 := F1.keep (e2.trans e3)
  refine s_forE (a := X.ae) (xs := bs.map V.ref) (ea_cons (F3.ee T (ev_var rfl)) ea_nil) F3.he (fun n σ H4 => ∃ (b : Bool) (par2 : List (Option Nat)) (y2 y3 y4 : Option V), σ = [some (.ref X.x), some (.bl b), y2, y3, y4] ∧ Kp X H H4 ∧ Fo C X H4 pre bs ed par2 ∧ Pass ws don pre ed par' b par2 n 0) ?_ ?_ ?_ ?_
  · intro H4 e4
    exact ⟨false, par', y2, y3, y4, rfl, k1.trans (Kp.of ((e2.trans e3).trans e4)), F3.keep e4, I1, .inr ⟨rfl, rfl, fun i j e f _ _ _ h _ => by omega⟩⟩
  · rintro n σ H4 hn ⟨b, par2, y2, y3, y4, rfl, k4, F4, p4⟩
    exact F4.he
  · rintro n x σ H4 H5 hx ⟨b, par2, z2, z3, z4, rfl, k4, F4, p4⟩ e5
    rw [List.getElem?_map] at hx
    cases hbn : bs[n]? with
    | none => rw [hbn] at hx; cases hx
    | some bn =>
    rw [hbn] at hx
    cases hx
    have F5 := F4.keep e5
    obtain ⟨en, hen, hEn⟩ := pd_get F5.hE hbn
    refine s_forNLn (xs := (bs.map V.ref).drop (n + 1)) (el_drop (F5.ee T (ev_var rfl)) (ev_is (ev_op (ev_var rfl) ev_c rv_I0) rfl) F5.he) (fun p k σ H6 => ∃ (b : Bool) (par2 : List (Option Nat)) (z4 : Option V), σ = [some (.ref X.x), some (.bl b), some (.int (n : Int)), some (.ref bn), z4] ∧ Kp X H H6 ∧ Fo C X H6 pre bs ed par2 ∧ Pass ws don pre ed par' b par2 n (n + 1 + k) ∧ H5 p = none ∧ H6 p = some (.lst ((bs.map V.ref).drop (n + 1)))) ?_ ?_ ?_ ?_
    · intro p H6 np e6 hp
      refine ⟨b, par2, z4, rfl, k4.trans (Kp.of (e5.trans e6)), F5.keep e6, ⟨p4.1, ?_⟩, np, hp⟩
      rcases p4.2 with h | ⟨h1, h2, h3⟩
      · exact .inl h
      · refine .inr ⟨h1, h2, fun i j e f hi hj hij h hl => h3 i j e f hi hj hij ?_ hl⟩
        omega
    · rintro p k σ H6 hk ⟨b, par2, z4, rfl, k6, F6, p6, np, hp⟩
      exact sq_of hp
    · rintro p k x σ H6 hx ⟨b, par2, z4, rfl, k6, F6, p6, np, hp⟩
      rw [List.getElem?_drop, List.getElem?_map] at hx
      cases hbk : bs[n + 1 + k]? with
      | none => rw [hbk] at hx; cases hx
      | some bk =>
      rw [hbk] at hx
      cases hx
      obtain ⟨ek, hek, hEk⟩ := pd_get F6.hE hbk
      obtain ⟨en', hen', hEn'⟩ := pd_get F6.hE hbn
      have een : en' = en := by rw [hen] at hen'; cases hen'; rfl
      subst een
      have mem1 : en' ∈ ed := List.mem_of_getElem? hen
      have mem2 : ek ∈ ed := List.mem_of_getElem? hek
      -- the pair is passed over
      have skip : ∀ H7 (b : Bool) par3, Kp X H H7 → Fo C X H7 pre bs ed par3 → Pass ws don pre ed par' b par3 n (n + 1 + k) → (en'.2.1 = ek.2.1 → b = false → sideOk par3 en' ek = true) → H7 p = some (.lst ((bs.map V.ref).drop (n + 1))) →
          ∃ (b2 : Bool) (par2 : List (Option Nat)) (z4 : Option V), [some (.ref X.x), some (.bl b), some (.int (n : Int)), some (.ref bn), some (.ref bk)] = [some (.ref X.x), some (.bl b2), some (.int (n : Int)), some (.ref bn), z4] ∧ Kp X H H7 ∧ Fo C X H7 pre bs ed par2 ∧ Pass ws don pre ed par' b2 par2 n (n + 1 + (k + 1)) ∧ H5 p = none ∧ H7 p = some (.lst ((bs.map V.ref).drop (n + 1))) := fun H7 b par3 k7 F7 p7 hok hp7 => by
        refine ⟨b, par3, _, rfl, k7, F7, ⟨p7.1, ?_⟩, np, hp7⟩
        rcases p7.2 with h | ⟨h1, h2, h3⟩
        · exact .inl h
        · refine .inr ⟨h1, h2, fun i j e f hi hj hij h hl => ?_⟩
          by_cases hc : i = n ∧ j = n + 1 + k
          · obtain ⟨c1, c2⟩ := hc
            subst c1 c2
            rw [hen] at hi
            rw [hek] at hj
            cases hi
            cases hj
            exact hok hl h1
          · exact h3 i j e f hi hj hij (by omega) hl
      have kpp : ∀ H7 H8, Kp X H7 H8 → (∀ a o, H5 a = some o → a ∈ [X.ap, X.ae, X.ar, X.al, X.as] → True) → H7 p = some (.lst ((bs.map V.ref).drop (n + 1))) → H8 p = some (.lst ((bs.map V.ref).drop (n + 1))) := fun H7 H8 kk _ h7 => by
        have nn : ∀ {a : Addr} {o : HO}, H5 a = some o → p ≠ a := fun h z => by rw [← z, np] at h; cases h
        obtain ⟨ls, l1, _⟩ := F5.hl
        obtain ⟨ss, s1, _⟩ := F5.hs
        exact kk _ _ h7 (nn F5.hp) (nn F5.he) (nn F5.hr) (nn l1) (nn s1)
      refine s_ifAndM (b := decide (en'.2.1 = ek.2.1)) (et_test (ev_is (ev_op (ev_ixt (j := 1) (ev_var rfl) ev_c hEn' rfl) (ev_ixt (j := 1) (ev_var rfl) ev_c hEk rfl) rv_eqW) ?_)) (fun hl H7 e7 => ?_) fun hl H7 e7 => ?_
      · rw [show decide ([en'.2.1] = [ek.2.1]) = decide (en'.2.1 = ek.2.1) from decide_eq_decide.mpr ⟨fun h => List.head_eq_of_cons_eq h, fun h => by rw [h]⟩]
      · have hll := of_decide_eq_true hl
        have F7 := F6.keep e7
        have lt1 := p6.1.lt _ mem1
        have lt2 := p6.1.lt _ mem2
        rw [← F6.len] at lt1 lt2
        refine run_fm (ev_var rfl) F7.ins no_two (EvPA.of (ea_cons (ev_var rfl) (ea_cons (ev_var rfl) ea_nil))) fun vs H8 e8 hv => ⟨((X, pre, bs, ed, par2), (bn, en'), bk, ek), by rw [hv], ⟨F7.keep e8, hEn'.keep (Tk.of (e7.trans e8)), hEk.keep (Tk.of (e7.trans e8)), lt1, lt2⟩, fun v H9 ⟨hv, k9, F9⟩ => ⟨_, hv, ?_⟩⟩
        obtain ⟨t1, t2, t3⟩ := two_step p6.1 mem1 mem2 hll
        have k09 : Kp X H H9 := (k6.trans (Kp.of (e7.trans e8))).trans k9
        have hp9 := kpp H8 H9 k9 (fun _ _ _ _ => trivial) ((e7.trans e8) _ _ hp)
        cases hs : sideOk par2 en' ek with
        | true =>
          show if (!true) = true then _ else _
          rw [if_neg (by decide)]
          have F9' : Fo C X H9 pre bs ed (two par2 en' ek) := F9
          rw [t2 hs] at F9'
          exact skip H9 b par2 k09 F9' p6 (fun _ _ => hs) hp9
        | false =>
          show if (!false) = true then _ else _
          rw [if_pos (by decide)]
          have hlt := t3 hs
          refine s_asg ev_c fun H10 e10 => skip H10 true (two par2 en' ek) (k09.trans (Kp.of e10)) (Fo.keep e10 F9) ⟨t1, .inl ⟨rfl, ?_⟩⟩ (fun _ h => nomatch h) (e10 _ _ hp9)
          rcases p6.2 with ⟨_, h⟩ | ⟨_, h, _⟩
          · omega
          · rw [h] at hlt ⊢; exact hlt
      · exact skip H7 b par2 (k6.trans (Kp.of e7)) (F6.keep e7) p6 (fun h => absurd h (of_decide_eq_false hl)) (e7 _ _ hp)
    · rintro p σ H6 ⟨b, par2, z4, rfl, k6, F6, p6, np, hp⟩
      refine ⟨b, par2, _, _, _, rfl, k6, F6, p6.1, ?_⟩
      rcases p6.2 with h | ⟨h1, h2, h3⟩
      · exact .inl h
      · refine .inr ⟨h1, h2, fun i j e f hi hj hij h hl => h3 i j e f hi hj hij ?_ hl⟩
        have lj : j < ed.length := (List.getElem?_eq_some_iff.mp hj).1
        rw [List.length_drop, List.length_map]
        omega
  · rintro σ H4 ⟨b, par2, z2, z3, z4, rfl, k4, F4, p4⟩
    rw [List.length_map, hblen] at p4
    rcases p4.2 with ⟨h1, h2⟩ | ⟨h1, h2, h3⟩
    · subst h1
      exact ⟨true, par2, _, _, _, by rw [if_pos rfl]; omega, rfl, k4, F4, p4.1, fun h => nomatch h⟩
    · subst h1 h2
      exact ⟨false, par2, _, _, _, by rw [if_neg (by decide)]; omega, rfl, k4, F4, p4.1, fun _ => seen_all h3⟩
end
end FwK
end

section
set_option Elab.async false
set_option linter.all false
set_option maxRecDepth 100000
set_option maxHeartbeats 2000000
namespace FwK
open PySem PySem.Spec PyProof.Rows L2 Evl Fw FwR
/-- the five lists as they stand -/
structure Fc (C : Addr) (X : FoA) (H : Hp) (P E R L S : List V) : Prop where
  ins : H X.x = some (.ins C X.dx (flds X))
  hp : H X.ap = some (.lst P)
  he : H X.ae = some (.lst E)
  hr : H X.ar = some (.lst R)
  hl : H X.al = some (.lst L)
  hs : H X.as = some (.lst S)
  nd : [X.ap, X.ae, X.ar, X.al, X.as].Nodup
section
variable {K : PySem.W.Frag} {C : Addr} {X : FoA} {H H' : Hp} {P E R L S : List V} {σ : L2.St} {ta : TE}
theorem Fc.keep (e : Ex H H') (F : Fc C X H P E R L S) : Fc C X H' P E R L S := ⟨e _ _ F.ins, e _ _ F.hp, e _ _ F.he, e _ _ F.hr, e _ _ F.hl, e _ _ F.hs, F.nd⟩
theorem Fc.dis (F : Fc C X H P E R L S) : X.ap ≠ X.ae ∧ X.ap ≠ X.ar ∧ X.ap ≠ X.al ∧ X.ap ≠ X.as ∧ X.ae ≠ X.ar ∧ X.ae ≠ X.al ∧ X.ae ≠ X.as ∧ X.ar ≠ X.al ∧ X.ar ≠ X.as ∧ X.al ≠ X.as := by
  have h := F.nd
  simp only [List.nodup_cons, List.mem_cons, List.not_mem_nil, or_false, not_or, List.nodup_nil, and_true, not_false_eq_true] at h
  obtain ⟨⟨h1, h2, h3, h4⟩, ⟨h5, h6, h7⟩, ⟨h8, h9⟩, h10⟩ := h
  exact ⟨h1, h2, h3, h4, h5, h6, h7, h8, h9, h10⟩
theorem Fc.upP (F : Fc C X H P E R L S) (Z : List V) : Fc C X (upd H X.ap (.lst Z)) Z E R L S := by
  obtain ⟨d1, d2, d3, d4, d5, d6, d7, d8, d9, d10⟩ := F.dis
  exact ⟨by rw [upd_ne (ne_of F.ins F.hp (by intro z; cases z))]; exact F.ins, upd_same, by rw [upd_ne d1.symm]; exact F.he, by rw [upd_ne d2.symm]; exact F.hr, by rw [upd_ne d3.symm]; exact F.hl, by rw [upd_ne d4.symm]; exact F.hs, F.nd⟩
theorem Fc.upE (F : Fc C X H P E R L S) (Z : List V) : Fc C X (upd H X.ae (.lst Z)) P Z R L S := by
  obtain ⟨d1, d2, d3, d4, d5, d6, d7, d8, d9, d10⟩ := F.dis
  exact ⟨by rw [upd_ne (ne_of F.ins F.he (by intro z; cases z))]; exact F.ins, by rw [upd_ne d1]; exact F.hp, upd_same, by rw [upd_ne d5.symm]; exact F.hr, by rw [upd_ne d6.symm]; exact F.hl, by rw [upd_ne d7.symm]; exact F.hs, F.nd⟩
theorem Fc.upR (F : Fc C X H P E R L S) (Z : List V) : Fc C X (upd H X.ar (.lst Z)) P E Z L S := by
  obtain ⟨d1, d2, d3, d4, d5, d6, d7, d8, d9, d10⟩ := F.dis
  exact ⟨by rw [upd_ne (ne_of F.ins F.hr (by intro z; cases z))]; exact F.ins, by rw [upd_ne d2]; exact F.hp, by rw [upd_ne d5]; exact F.he, upd_same, by rw [upd_ne d8.symm]; exact F.hl, by rw [upd_ne d9.symm]; exact F.hs, F.nd⟩
theorem Fc.upL (F : Fc C X H P E R L S) (Z : List V) : Fc C X (upd H X.al (.lst Z)) P E R Z S := by
  obtain ⟨d1, d2, d3, d4, d5, d6, d7, d8, d9, d10⟩ := F.dis
  exact ⟨by rw [upd_ne (ne_of F.ins F.hl (by intro z; cases z))]; exact F.ins, by rw [upd_ne d3]; exact F.hp, by rw [upd_ne d6]; exact F.he, by rw [upd_ne d8]; exact F.hr, upd_same, by rw [upd_ne d10.symm]; exact F.hs, F.nd⟩
theorem Fc.ep (T : Cf K C) (F : Fc C X H P E R L S) (h : Ev ta σ H (.ref X.x)) : Ev (tFld K ta "prefixes") σ H (.ref X.ap) := ev_fld h F.ins T.cl T.n_prefixes lk_p
theorem Fc.ee (T : Cf K C) (F : Fc C X H P E R L S) (h : Ev ta σ H (.ref X.x)) : Ev (tFld K ta "edges") σ H (.ref X.ae) := ev_fld h F.ins T.cl T.n_edges lk_e
theorem Fc.er (T : Cf K C) (F : Fc C X H P E R L S) (h : Ev ta σ H (.ref X.x)) : Ev (tFld K ta "parents") σ H (.ref X.ar) := ev_fld h F.ins T.cl T.n_parents lk_r
theorem Fc.el (T : Cf K C) (F : Fc C X H P E R L S) (h : Ev ta σ H (.ref X.x)) : Ev (tFld K ta "links") σ H (.ref X.al) := ev_fld h F.ins T.cl T.n_links lk_l
theorem Fo.cells {pre : List Word} {bs : List Addr} {E : List Edge} {par : List (Option Nat)} (F : Fo C X H pre bs E par) : ∃ ls ss, Fc C X H (pre.map tx) (bs.map V.ref) (par.map oV) ls ss ∧ ls.length = par.length ∧ (∀ v ∈ ls, v = .non ∨ ∃ i : Int, v = .int i) ∧ ss.length + roots par ≤ par.length := by
  obtain ⟨ls, l1, l2, l3⟩ := F.hl
  obtain ⟨ss, s1, s2⟩ := F.hs
  exact ⟨ls, ss, ⟨F.ins, F.hp, F.he, F.hr, l1, s1, F.nd⟩, l2, l3, s2⟩
theorem q_appP {D : Ends} {te : TE} {tz : TS} {l : Addr} {xs : List V} {Rl : V → Hp → Prop} (hl : H l = some (.lst xs)) (ha : Ev ta σ H (.ref l)) (h : EvP te σ H Rl) (hz : xs.length < 100000) (k : ∀ v H1, Ex H H1 → Rl v H1 → tz D σ (upd H1 l (.lst (xs ++ [v])))) :
    tSeq (tDrop (tBM K "list" rAppend ta (tCons te tNil))) tz D σ H := s_appP (D := { D with nx := tz D }) hl ha h hz k
end
section
variable {P : Program} {w : World} {K : PySem.W.Frag} {mg : Str → Option Value} {base : Heap} {C : Addr} {X : FoA} {pre : List Word} {bs : List Addr} {E : List Edge} {par : List (Option Nat)} {σ : L2.St} {H : Hp} {ta tb te : TE} {v : V} {ws don : List Word}
theorem roots_snoc (par : List (Option Nat)) : roots (par ++ [none]) = roots par + 1 := by
  unfold roots
  rw [List.countP_append]
  rfl
abbrev spPetal (C : Addr) : Sp := prom (fun i : FaD × Word => [.ref i.1.1.1.x, tx i.2]) (fun i H => FoI C i.1.1 H ∧ FI i.1.2.1 i.1.2.2 i.1.1.2.1 i.1.1.2.2.2.1 i.1.1.2.2.2.2 0 ∧ Rd i.2 ∧ i.2.length ≤ 300 ∧ i.1.1.2.1.length + i.2.length ≤ 1000 ∧ i.1.1.2.2.2.1.length + 1 ≤ i.1.1.2.1.length)
  (fun i H v H' => ∃ (h : Nat) (pre' : List Word) (bs' : List Addr) (E' : List Edge) (par' : List (Option Nat)), v = .int (h : Int) ∧ Kp i.1.1.1 H H' ∧ Fo C i.1.1.1 H' pre' bs' E' par' ∧ PI i.1.2.1 i.1.2.2 pre' E' par' i.2 i.2.length h ∧ pre'.length = i.1.1.2.1.length + i.2.length ∧ E'.length + 1 ≤ pre'.length)
theorem ok_add_petal (B : Bs mg) (T : Cf K C) (F : Mx K C "add_petal" "Folding.add_petal" s_Folding_add_petal pn_Folding_add_petal) : Md P w K mg base C "add_petal" pn_Folding_add_petal 1 (spPetal C) := by
  refine F.md sc_Folding_add_petal (fun _ => rfl) fun i f cdv A outer s H Q hr hp q E => ?_
  refine ⟨_, (pss_cons (ps_asg pe_int (pg_name (i := 2) sc_Folding_add_petal.nd rfl (Or.inl rfl)))
    (pss_cons (ps_for PassesOwn.never rfl (pi_enumS (by rfl) B.z_enumerate (pa_cons (pv 1) pa_nil)) (pg_tup rfl (pgs_cons (pg_name (i := 3) sc_Folding_add_petal.nd rfl (Or.inl rfl)) (pgs_cons (pg_name (i := 4) sc_Folding_add_petal.nd rfl (Or.inl rfl)) pgs_nil))) (pss_cons (ps_asg (pe_callB (r := Evl.rLenS K) call_len_seq (by rfl) B.z_len PySem.boot_len (pa_cons (pe_fldK K rfl (pe_fld (pv 0) rfl)) pa_nil)) (pg_name (i := 5) sc_Folding_add_petal.nd rfl (Or.inl rfl)))
    (pss_cons (ps_expr (pe_bmK K rfl (pe_bm PySem.F.plainAttrs_list PySem.F.slot_list_append PySem.F.type_list_append mt_append (pe_fldK K rfl (pe_fld (pv 0) rfl)) (pa_cons (pe_slice sl_str (pv 1) po_none (po_some (pe_op op_add (pv 3) pe_int))) pa_nil))))
    (pss_cons (ps_expr (pe_bmK K rfl (pe_bm PySem.F.plainAttrs_list PySem.F.slot_list_append PySem.F.type_list_append mt_append (pe_fldK K rfl (pe_fld (pv 0) rfl)) (pa_cons pe_non pa_nil))))
    (pss_cons (ps_expr (pe_bmK K rfl (pe_bm PySem.F.plainAttrs_list PySem.F.slot_list_append PySem.F.type_list_append mt_append (pe_fldK K rfl (pe_fld (pv 0) rfl)) (pa_cons pe_non pa_nil))))
    (pss_cons (ps_asg (pe_lower (pv 4)) (pg_name (i := 6) sc_Folding_add_petal.nd rfl (Or.inl rfl)))
    (pss_cons (ps_expr (pe_bmK K rfl (pe_bm PySem.F.plainAttrs_list PySem.F.slot_list_append PySem.F.type_list_append mt_append (pe_fldK K rfl (pe_fld (pv 0) rfl)) (pa_cons (pe_ifExp (pt_cmpR op_eq (pv 4) (pv 6) (nomark _)) (pe_tup (pa_cons (pv 2) (pa_cons (pv 6) (pa_cons (pv 5) pa_nil)))) (pe_tup (pa_cons (pv 5) (pa_cons (pv 6) (pa_cons (pv 2) pa_nil))))) pa_nil))))
    (pss_one (ps_asg (pv 5) (pg_name (i := 2) sc_Folding_add_petal.nd rfl (Or.inl rfl)))))))))))
    (pss_one (ps_ret (pv 2))))), ?_⟩
  obtain ⟨⟨⟨X, pre, bs, ed, par⟩, ws, don⟩, u⟩ := i
  obtain ⟨F0, I0, hu, hul, hsz, hel⟩ := hp
  replace hel : ed.length + 1 ≤ pre.length := hel
  replace F0 : Fo C X H pre bs ed par := F0
  replace I0 : FI ws don pre ed par 0 := I0
  replace hu : Rd u := hu
  replace hul : u.length ≤ 300 := hul
  replace hsz : pre.length + u.length ≤ 1000 := hsz
  replace q : ∀ v H', (∃ (h : Nat) (pre' : List Word) (bs' : List Addr) (E' : List Edge) (par' : List (Option Nat)), v = .int (h : Int) ∧ Kp X H H' ∧ Fo C X H' pre' bs' E' par' ∧ PI ws don pre' E' par' u u.length h ∧ pre'.length = pre.length + u.length ∧ E'.length + 1 ≤ pre'.length) → Q v H' := q
  refine q_asg ev_c fun H1 e1 => ?_
  refine q_seq (s_forEW (w := u) (ea_cons (ev_var rfl) ea_nil) (fun j σ H2 => ∃ (h : Nat) (pre' : List Word) (bs' : List Addr) (E' : List Edge) (par' : List (Option Nat)) (y3 y4 y5 y6 : Option V), σ = [some (.ref X.x), some (tx u), some (.int (h : Int)), y3, y4, y5, y6] ∧ Kp X H H2 ∧ Fo C X H2 pre' bs' E' par' ∧ PI ws don pre' E' par' u j h ∧ pre'.length = pre.length + j ∧ E'.length + 1 ≤ pre'.length) ?_ ?_ ?_)
  · intro H2 e2
    exact ⟨0, pre, bs, ed, par, none, none, none, none, rfl, Kp.of (e1.trans e2), F0.keep (e1.trans e2), PI.start I0 u, rfl, hel⟩
  · rintro j l σ H2 H3 hj ⟨h, pre', bs', E', par', y3, y4, y5, y6, rfl, k2, F2, p2, hn, hel'⟩ e3
    have hju : j < u.length := (List.getElem?_eq_some_iff.mp hj).1
    have F3 := F2.keep e3
    have k3 := k2.trans (Kp.of e3)
    obtain ⟨ls, ss, c3, l2, l3, s2⟩ := F3.cells
    have hplen := F3.len
    have np := p2.step hu hj
    -- point = len(self.prefixes)
    refine q_asg (v := .int (pre'.length : Int)) (ev_is (ev_lenL (c3.ep T (ev_var rfl)) c3.hp) (by rw [List.length_map])) fun H4 e4 => ?_
    have c4 := c3.keep e4
    -- self.prefixes.append(word[:at + 1])
    refine q_app (v := tx (u.take (j + 1))) c4.hp (c4.ep T (ev_var rfl)) (ev_take (ev_var rfl) (ev_is (ev_op (ev_var rfl) ev_c rv_I0) rfl) (by omega)) (by rw [List.length_map]; omega) fun H5 e5 => ?_
    have c5 := (c4.keep e5).upP (pre'.map tx ++ [tx (u.take (j + 1))])
    have k5 := (k3.trans (Kp.of (e4.trans e5))).trans (Kp.upd (a := X.ap) (o := .lst (pre'.map tx ++ [tx (u.take (j + 1))])) (.inl rfl))
    have g5 := (F3.hE.keep (Tk.of (e4.trans e5))).keep (Tk.updl (o := .lst (pre'.map tx ++ [tx (u.take (j + 1))])) (c4.keep e5).hp)
    generalize upd H5 X.ap (.lst (pre'.map tx ++ [tx (u.take (j + 1))])) = H6 at c5 k5 g5 ⊢
    -- self.parents.append(None)
    refine q_app (v := .non) c5.hr (c5.er T (ev_var rfl)) ev_c (by rw [List.length_map]; omega) fun H7 e7 => ?_
    have c7 := (c5.keep e7).upR (par'.map oV ++ [.non])
    have k7 := (k5.trans (Kp.of e7)).trans (Kp.upd (a := X.ar) (o := .lst (par'.map oV ++ [.non])) (.inr (.inr (.inl rfl))))
    have g7 := (g5.keep (Tk.of e7)).keep (Tk.updl (o := .lst (par'.map oV ++ [.non])) (c5.keep e7).hr)
    generalize upd H7 X.ar (.lst (par'.map oV ++ [.non])) = H8 at c7 k7 g7 ⊢
    -- self.links.append(None)
    refine q_app (v := .non) c7.hl (c7.el T (ev_var rfl)) ev_c (by omega) fun H9 e9 => ?_
    have c9 := (c7.keep e9).upL (ls ++ [.non])
    have k9 := (k7.trans (Kp.of e9)).trans (Kp.upd (a := X.al) (o := .lst (ls ++ [.non])) (.inr (.inr (.inr (.inl rfl)))))
    have g9 := (g7.keep (Tk.of e9)).keep (Tk.updl (o := .lst (ls ++ [.non])) (c7.keep e9).hl)
    generalize upd H9 X.al (.lst (ls ++ [.non])) = H10 at c9 k9 g9 ⊢
    -- small = letter.lower()
    refine q_asg (ev_low (ev_var rfl)) fun H11 e11 => ?_
    have c11 := c9.keep e11
    have k11 := k9.trans (Kp.of e11)
    have g11 := g9.keep (Tk.of e11)
    -- self.edges.append(..)
    have hE : EvP (tIf (tTest (tOp rEq (tVar 4) (tVar 6))) (tTup (tCons (tVar 2) (tCons (tVar 6) (tCons (tVar 5) tNil)))) (tTup (tCons (tVar 5) (tCons (tVar 6) (tCons (tVar 2) tNil)))))
        [some (.ref X.x), some (tx u), some (.int (h : Int)), some (.int (j : Int)), some (tx [l]), some (.int (pre'.length : Int)), some (tx [l.low])] H11 (fun v H12 => ∃ b, v = .ref b ∧ Eg H12 b (edg h l pre'.length)) := by
      have hd : decide ([l] = [l.low]) = l.small := by cases l <;> decide
      intro H12 e12 Q' q'
      refine et_test (ev_op (ev_var rfl) (ev_var rfl) (rv_eqW (a := [l]) (b := [l.low]))) H12 e12 _ fun H13 e13 => ?_
      rw [hd]
      cases hs : l.small with
      | true =>
        rw [if_pos rfl]
        refine eu_3 (ev_var rfl) (ev_var rfl) (ev_var rfl) H13 (e12.trans e13) _ fun p H14 np e14 hp => q' _ _ (e13.trans e14) ⟨p, rfl, ?_⟩
        unfold Eg edg
        rw [if_pos hs, hp, Let.low_of_small hs]
      | false =>
        rw [if_neg (by decide)]
        refine eu_3 (ev_var rfl) (ev_var rfl) (ev_var rfl) H13 (e12.trans e13) _ fun p H14 np e14 hp => q' _ _ (e13.trans e14) ⟨p, rfl, ?_⟩
        unfold Eg edg
        rw [if_neg (by rw [hs]; decide), hp, Let.low_of_big hs]
    refine q_appP c11.he (c11.ee T (ev_var rfl)) hE (by
      rw [List.length_map, pd_len F3.hE]
      omega) fun ev H12 e12 ⟨b, hb, hEg⟩ => ?_
    subst hb
    have c12 := (c11.keep e12).upE (bs'.map V.ref ++ [.ref b])
    have k12 := (k11.trans (Kp.of e12)).trans (Kp.upd (a := X.ae) (o := .lst (bs'.map V.ref ++ [.ref b])) (.inr (.inl rfl)))
    have t12 : Tk H12 (upd H12 X.ae (.lst (bs'.map V.ref ++ [.ref b]))) := Tk.updl (c11.keep e12).he
    have g12 := (g11.keep (Tk.of e12)).keep t12
    have hEg' := hEg.keep t12
    generalize upd H12 X.ae (.lst (bs'.map V.ref ++ [.ref b])) = H13 at c12 k12 g12 hEg' ⊢
    refine s_asg (ev_var rfl) fun H14 e14 => ⟨pre'.length, pre' ++ [u.take (j + 1)], bs' ++ [b], E' ++ [edg h l pre'.length], par' ++ [none], _, _, _, _, rfl, k12.trans (Kp.of e14), ?_, np, by rw [List.length_append]; show pre'.length + 1 = _; omega, by rw [List.length_append, List.length_append]; show E'.length + 1 + 1 ≤ pre'.length + 1; omega⟩
    have c14 := c12.keep e14
    refine ⟨c14.ins, by rw [List.map_append]; exact c14.hp, by rw [List.map_append]; exact c14.he, Egs.keep (Tk.of e14) (pd_app g12 (.cons hEg' .nil)), by rw [List.map_append]; exact c14.hr, ⟨_, c14.hl, by rw [List.length_append, List.length_append, l2]; rfl, fun v hv => ?_⟩, ⟨ss, c14.hs, by rw [roots_snoc, List.length_append]; show _ ≤ par'.length + 1; omega⟩, c14.nd, by rw [List.length_append, List.length_append, hplen]; rfl, F3.low.snoc, fun z hz => ?_, by rw [List.length_append]; show par'.length + 1 ≤ 1000; omega⟩
    · rcases List.mem_append.mp hv with hv | hv
      · exact l3 v hv
      · exact .inl (List.mem_singleton.mp hv)
    · rcases List.mem_append.mp hz with hz | hz
      · exact F3.plen z hz
      · rw [List.mem_singleton.mp hz, List.length_take]
        omega
  · rintro σ H2 ⟨h, pre', bs', E', par', y3, y4, y5, y6, rfl, k2, F2, p2, hn, hel'⟩
    exact s_ret (ev_var rfl) fun H3 e3 => q _ _ ⟨h, pre', bs', E', par', rfl, k2.trans (Kp.of e3), F2.keep e3, p2, hn, hel'⟩
def Ki (x : Addr) (H H' : Hp) : Prop := ∀ a o, H a = some o → a ≠ x → H' a = some o
theorem q_fldL {D : Ends} {tz : TS} {xs : List V} {x dx : Addr} {fs : List (Str × V)} {f : Str} (h : EvL te σ H xs) (hv : σ[0]? = some (some (.ref x))) (hx : H x = some (.ins C dx fs)) (cl : Cls K C) (na : NoAttr K C f) (hl : fs.length < 1000)
    (k : ∀ p H1, H p = none → (∀ a ys, H a = some (.lst ys) → H1 a = some (.lst ys)) → (∀ H0, Ki x H0 H → Ki x H0 H1) → H1 p = some (.lst xs) → H1 x = some (.ins C dx (putF f (.ref p) fs)) → tz D σ H1) : tSeq (sFld K (tVar 0) te f) tz D σ H :=
  h H (Ex.refl H) _ fun p H1 np e1 hp => ⟨_, hv, x, C, dx, fs, rfl, e1 _ _ hx, cl, na, hl, k p _ np (fun a ys ha => by
    rw [upd_ne (ne_of ha hx (by intro z; cases z))]
    exact e1 _ _ ha) (fun H0 k0 a o ha hne => by
    rw [upd_ne hne]
    exact e1 _ _ (k0 a o ha hne)) (by
    rw [upd_ne (ne_of_none hx np).symm]
    exact hp) upd_same⟩
theorem ep_lst1 {R : V → Hp → Prop} (h : EvP te σ H R) (hR : ∀ v H1 H2, Ex H1 H2 → R v H1 → R v H2) : EvP (tLst (tCons te tNil)) σ H (fun v H' => ∃ p u, v = .ref p ∧ H' p = some (.lst [u]) ∧ R u H') := fun H1 e1 Q q =>
  h H1 e1 _ fun v H2 e2 r => ⟨sz_of (Nat.le_of_ble_eq_true rfl), fun p np => q _ _ (e2.trans (Ex.new np)) ⟨p, v, rfl, upd_same, hR _ _ _ (Ex.new np) r⟩⟩
theorem mrg_zero {h : Nat} (hl : Low par) : mrg par h 0 = (if rt par h = 0 then par else if rt par 0 < rt par h then par.set (rt par h) (some (rt par 0)) else par.set (rt par 0) (some (rt par h))) := by
  have h0 : rt par 0 = 0 := by have := rt_le (par := par) 0; omega
  unfold mrg
  rw [h0]
abbrev spInit (C : Addr) : Sp := prom (fun i : Addr × Addr × V × List Word => [.ref i.1, i.2.2.1])
  (fun i H => H i.1 = some (.ins C i.2.1 []) ∧ (∃ a, i.2.2.1 = .ref a ∧ H a = some (.tup (i.2.2.2.map tx))) ∧ i.2.2.2.length ≤ 4 ∧ ∀ u ∈ i.2.2.2, u.length ≤ 8)
  (fun i H v H' => v = .non ∧ Ki i.1 H H' ∧ ∃ X pre bs E par, X.x = i.1 ∧ Fo C X H' pre bs E par ∧ FI i.2.2.2 (i.2.2.2.map red) pre E par 0 ∧ AllOk E par ∧ pre.length ≤ 33 ∧ E.length ≤ 33)
theorem ok_init (B : Bs mg) (T : Cf K C) (F : Ix K mg C "Folding" "__init__" "Folding.__init__" s_Folding_init pn_Folding_init) (g_reduce_of : Fd P w K mg base "reduce_of" pn_reduce_of 2 spRed)
    (g_Folding_add_petal : Md P w K mg base C "add_petal" pn_Folding_add_petal 1 (spPetal C)) (g_Folding_merge : Md P w K mg base C "merge" pn_Folding_merge 4 (spMerge C)) (g_Folding_fold_all : Md P w K mg base C "fold_all" pn_Folding_fold_all 6 (spAll C)) : Id P w K mg base C "Folding" pn_Folding_init 7 (spInit C) := by
  refine F.id sc_Folding_init (fun _ => rfl) fun i f cdv A outer s H Q hr hp q E => ?_
  refine ⟨_, (pss_cons (ps_fld (pv 0) (pe_lst (pa_cons pe_str pa_nil)) rfl)
    (pss_cons (ps_fld (pv 0) (pe_lst pa_nil) rfl)
    (pss_cons (ps_fld (pv 0) (pe_lst (pa_cons pe_non pa_nil)) rfl)
    (pss_cons (ps_fld (pv 0) (pe_lst (pa_cons pe_non pa_nil)) rfl)
    (pss_cons (ps_fld (pv 0) (pe_lst pa_nil) rfl)
    (pss_cons (ps_for PassesOwn.never rfl (pi_enumT (by rfl) B.z_enumerate (pa_cons (pv 1) pa_nil)) (pg_tup rfl (pgs_cons (pg_name (i := 2) sc_Folding_init.nd rfl (Or.inl rfl)) (pgs_cons (pg_name (i := 3) sc_Folding_init.nd rfl (Or.inl rfl)) pgs_nil))) (pss_cons (ps_asg (pe_fm (pv 0) g_Folding_add_petal (hr.mono (by decide)) (pa_cons (pe_fd g_reduce_of (hr.mono (by decide)) (by rfl) (pa_cons (pv 3) pa_nil)) pa_nil)) (pg_name (i := 4) sc_Folding_init.nd rfl (Or.inl rfl)))
    (pss_one (ps_expr (pe_fm (pv 0) g_Folding_merge (hr.mono (by decide)) (pa_cons (pv 4) (pa_cons pe_int (pa_cons (pe_lst (pa_cons (pe_tup (pa_cons pe_str (pa_cons (pv 2) (pa_cons pe_int pa_nil)))) pa_nil)) pa_nil))))))))
    (pss_one (ps_expr (pe_fm0 (pv 0) g_Folding_fold_all (hr.mono (by decide))))))))))), ?_⟩
  obtain ⟨x, dx, wv, ws⟩ := i
  obtain ⟨hx, ⟨a, ea, ha⟩, hw4, hw8⟩ := hp
  replace hx : H x = some (.ins C dx []) := hx
  replace ea : wv = .ref a := ea
  subst ea
  replace ha : H a = some (.tup (ws.map tx)) := ha
  replace hw4 : ws.length ≤ 4 := hw4
  replace hw8 : ∀ u ∈ ws, u.length ≤ 8 := hw8
  replace q : ∀ v H', (v = .non ∧ Ki x H H' ∧ ∃ X pre bs E par, X.x = x ∧ Fo C X H' pre bs E par ∧ FI ws (ws.map red) pre E par 0 ∧ AllOk E par ∧ pre.length ≤ 33 ∧ E.length ≤ 33) → Q v H' := q
  have ki : ∀ H', Ki x H H' → H' a = some (.tup (ws.map tx)) := fun H' k => k a _ ha (ne_of ha hx (by intro z; cases z))
  refine q_fldL (K := K) (C := C) (el_lst (ea_cons (ev_c (v := tx [])) ea_nil) (Nat.le_of_ble_eq_true rfl)) rfl hx T.cl T.n_prefixes (by decide) fun p1 H1 n1 l1 k1 a1 x1 => ?_
  refine q_fldL (K := K) (C := C) (el_lst ea_nil (Nat.le_of_ble_eq_true rfl)) rfl x1 T.cl T.n_edges (Nat.le_of_ble_eq_true rfl) fun p2 H2 n2 l2 k2 a2 x2 => ?_
  refine q_fldL (K := K) (C := C) (el_lst (ea_cons (ev_c (v := .non)) ea_nil) (Nat.le_of_ble_eq_true rfl)) rfl x2 T.cl T.n_parents (Nat.le_of_ble_eq_true rfl) fun p3 H3 n3 l3 k3 a3 x3 => ?_
  refine q_fldL (K := K) (C := C) (el_lst (ea_cons (ev_c (v := .non)) ea_nil) (Nat.le_of_ble_eq_true rfl)) rfl x3 T.cl T.n_links (Nat.le_of_ble_eq_true rfl) fun p4 H4 n4 l4 k4 a4 x4 => ?_
  refine q_fldL (K := K) (C := C) (el_lst ea_nil (Nat.le_of_ble_eq_true rfl)) rfl x4 T.cl T.n_steps (Nat.le_of_ble_eq_true rfl) fun p5 H5 n5 l5 k5 a5 x5 => ?_
  have k0 : Ki x H H := fun _ _ h _ => h
  have K5 : Ki x H H5 := k5 _ (k4 _ (k3 _ (k2 _ (k1 _ k0))))
  have f2 : H p2 = none := by
    cases h : H p2 with
    | none => rfl
    | some o => rw [k1 _ k0 p2 o h (fun z => by rw [z, x1] at n2; cases n2)] at n2; cases n2
  have f3 : H p3 = none := by
    cases h : H p3 with
    | none => rfl
    | some o => rw [k2 _ (k1 _ k0) p3 o h (fun z => by rw [z, x2] at n3; cases n3)] at n3; cases n3
  have f4 : H p4 = none := by
    cases h : H p4 with
    | none => rfl
    | some o => rw [k3 _ (k2 _ (k1 _ k0)) p4 o h (fun z => by rw [z, x3] at n4; cases n4)] at n4; cases n4
  have f5 : H p5 = none := by
    cases h : H p5 with
    | none => rfl
    | some o => rw [k4 _ (k3 _ (k2 _ (k1 _ k0))) p5 o h (fun z => by rw [z, x4] at n5; cases n5)] at n5; cases n5
  have nn : ∀ {Hh : Hp} {c d : Addr} {o : HO}, Hh c = some o → Hh d = none → c ≠ d := fun h1 h2 => ne_of_none h1 h2
  let X : FoA := ⟨x, dx, p1, p2, p3, p4, p5⟩
  have Fs : Fo C X H5 [[]] [] [] [none] := by
    refine ⟨x5, l5 _ _ (l4 _ _ (l3 _ _ (l2 _ _ a1))), l5 _ _ (l4 _ _ (l3 _ _ a2)), .nil, l5 _ _ (l4 _ _ a3), ⟨[.non], l5 _ _ a4, rfl, fun v hv => .inl (List.mem_singleton.mp hv)⟩, ⟨[], a5, by decide⟩, ?_, rfl, fun p q e => ?_, fun u hu => ?_, by decide⟩
    · have d12 := nn a1 n2
      have d13 := nn (l2 _ _ a1) n3
      have d14 := nn (l3 _ _ (l2 _ _ a1)) n4
      have d15 := nn (l4 _ _ (l3 _ _ (l2 _ _ a1))) n5
      have d23 := nn a2 n3
      have d24 := nn (l3 _ _ a2) n4
      have d25 := nn (l4 _ _ (l3 _ _ a2)) n5
      have d34 := nn a3 n4
      have d35 := nn (l4 _ _ a3) n5
      have d45 := nn a4 n5
      simp [X, d12, d13, d14, d15, d23, d24, d25, d34, d35, d45]
    · cases p with
      | zero => cases e
      | succ p => simp at e
    · rw [List.mem_singleton.mp hu]
      decide
  have kk : ∀ H', Kp X H5 H' → Ki x H H' := fun H' kp a o h hne => kp a o (K5 a o h hne) (ne_of_none h n1) (ne_of_none h f2) (ne_of_none h f3) (ne_of_none h f4) (ne_of_none h f5)
  refine q_seq (s_forET (a := a) (xs := ws.map tx) (ea_cons (ev_var rfl) ea_nil) (ki _ K5) (fun n σ H6 => ∃ pre bs E par y2 y3 y4, σ = [some (.ref x), some (.ref a), y2, y3, y4] ∧ Kp X H5 H6 ∧ Fo C X H6 pre bs E par ∧ FI ws ((ws.take n).map red) pre E par 0 ∧ pre.length ≤ 1 + 8 * n ∧ E.length + 1 ≤ pre.length) ?_ ?_ ?_ ?_)
  · intro H6 e6
    exact ⟨[[]], [], [], [none], none, none, none, rfl, Kp.of e6, Fs.keep e6, FI.start ws, by decide, by decide⟩
  · rintro n σ H6 hn ⟨pre, bs, E, par, y2, y3, y4, rfl, k6, F6, I6, z6, z7⟩
    exact ki _ (kk _ k6)
  · rintro n v σ H6 H7 hv ⟨pre, bs, E, par, y2, y3, y4, rfl, k6, F6, I6, z6, z7⟩ e7
    rw [List.getElem?_map] at hv
    cases hu : ws[n]? with
    | none => rw [hu] at hv; cases hv
    | some u =>
    rw [hu] at hv
    cases hv
    have hmem : u ∈ ws := List.mem_of_getElem? hu
    have hn : n < ws.length := (List.getElem?_eq_some_iff.mp hu).1
    have hu8 := hw8 u hmem
    have hr8 : (red u).length ≤ 8 := Nat.le_trans (red_len u) hu8
    have F7 := F6.keep e7
    have k7 := k6.trans (Kp.of e7)
    refine q_asg' (run_fm (ev_var rfl) F7.ins no_petal (EvPA.of (ea_cons (ev_fd u (ea_cons (ev_var rfl) ea_nil) rfl fun _ _ => Nat.le_trans hu8 (by decide)) ea_nil)) fun vs H8 e8 hvs => ⟨(((X, pre, bs, E, par), ws, (ws.take n).map red), red u), by rw [hvs], ⟨F7.keep e8, I6, red_rd u, Nat.le_trans hr8 (by decide), by show pre.length + (red u).length ≤ 1000; omega, z7⟩, ?_⟩)
    rintro v H9 ⟨h, pre', bs', E', par', hv, k9, F9, p9, z9, z10⟩
    subst hv
    replace k9 : Kp X H8 H9 := k9
    replace F9 : Fo C X H9 pre' bs' E' par' := F9
    replace p9 : PI ws ((ws.take n).map red) pre' E' par' (red u) (red u).length h := p9
    replace z9 : pre'.length = pre.length + (red u).length := z9
    have k09 := (k7.trans (Kp.of e8)).trans k9
    have hh : h < par'.length := by rw [F9.len]; exact p9.lt
    have h0 : 0 < par'.length := Nat.lt_of_le_of_lt (Nat.zero_le _) hh
    -- self.merge(end, 0, [("given", number, 1)])
    have hfac : EvP (tLst (tCons (tTup (tCons (tC (.str (Str.ofString "given"))) (tCons (tVar 2) (tCons (tC (.int 1)) tNil)))) tNil)) [some (.ref x), some (.ref a), some (.int (n : Int)), some (tx u), some (.int (h : Int))] H9 (fun v H' => FacL H' v 4000) :=
      EvP.imp (ep_lst1 (EvP.ofU (eu_3 ev_c (ev_var rfl) ev_c)) (fun _ _ _ e ⟨p, a1, a2, a3⟩ => ⟨p, a1, a2, e _ _ a3⟩)) fun v H10 _ ⟨p, u1, ev, hp, p2, eu, _, h2⟩ => ⟨p, [u1], ev, hp, fun z hz => ⟨p2, _, _, _, (List.mem_singleton.mp hz).trans eu, h2, given_ok⟩, Nat.le_of_ble_eq_true rfl⟩
    refine s_drop' (run_fm (ev_var rfl) F9.ins no_merge (epa_cons (EvP.of (ev_var rfl)) (fun _ _ _ _ r => r) (epa_cons (EvP.of ev_c) (fun _ _ _ _ r => r) (epa_cons hfac (fun _ _ _ e r => r.keep e) epa_nil))) fun vs H10 e10 hvs => ?_)
    obtain ⟨v1, r1, ev1, rfl, v2, r2, ev2, rfl, v3, r3, ev3, hv3, hr3⟩ := hvs
    subst hr3 ev3 ev2 ev1
    refine ⟨((X, pre', bs', E', par'), h, 0, v3), rfl, ⟨F9.keep e10, hh, h0, hv3⟩, ?_⟩
    rintro v H11 ⟨hv, k11, F11⟩
    replace k11 : Kp X H10 H11 := k11
    replace F11 : Fo C X H11 pre' bs' E' (mrg par' h 0) := F11
    refine ⟨pre', bs', E', mrg par' h 0, _, _, _, rfl, (k09.trans (Kp.of e10)).trans k11, F11, ?_, by omega, z10⟩
    rw [mrg_zero F9.low, List.take_add_one, hu, List.map_append]
    exact p9.close (Gen.eqv (eqv_red u).symm (Gen.mem hmem))
  · rintro σ H6 ⟨pre, bs, E, par, y2, y3, y4, rfl, k6, F6, I6, z6, z7⟩
    rw [List.length_map, List.take_length] at I6
    rw [List.length_map] at z6
    refine s_drop' (run_fm (ev_var rfl) F6.ins no_all (EvPA.of ea_nil) fun vs H7 e7 hvs => ⟨((X, pre, bs, E, par), ws, ws.map red), by rw [hvs], ⟨F6.keep e7, I6⟩, ?_⟩)
    rintro v H8 ⟨hv, k8, par', F8, I8, ok8⟩
    exact q _ _ ⟨rfl, kk _ ((k6.trans (Kp.of e7)).trans k8), X, pre, bs, E, par', rfl, F8, I8, ok8, by omega, by omega⟩
end
end FwK
end

section
set_option Elab.async false
set_option linter.all false
set_option maxRecDepth 100000
set_option maxHeartbeats 2000000
set_option pp.maxSteps 200
namespace FwR
open PySem PySem.Spec PyProof.Rows L2
/-! ### y = {(..): v for target in iter if ..}: a dict whose keys are tuples, to a local name -/
/-- one pair goes into the new dict -/
theorem dict_take {X : Cx} {pins : List (Addr × Obj)} {σ : L2.St} {H : Hp} {s : Shared} {E : Value → Shared → Prop} {Q : Unit → Shared → Prop} {D b : Addr} {kvs : List (List Key × V)} {k : List Key} {v : V} {r : Value} (hu : X.A.units + 1 < cLine) (I : L2.Inv X pins σ H s) (hD : H D = some (.dT kvs)) (hb : H b = some (.tup (k.map kV)))
    (hz : kvs.length < sizeLine) (rv : L2.RelV v r) (h : ∀ s', L2.Inv X pins σ (upd H D (.dT (putK kvs k v))) s' → Q () s') : wpAny (model X.prog X.w) X.A (dictSet D (.ref b) r) Q E s := by
  obtain ⟨hle, hsys, xs, rel, hat⟩ := dt_of I.hok hD
  refine wpAny_dictSet_heap (hsz := Paired.length rel ▸ hle) (Nat.lt_of_succ_lt hu) (key_of I.hok hb) hat fun g hat2 sb => ?_
  obtain ⟨o, es, ep, a1, a2, a3, a4, _, a5⟩ := hat2
  have tups : ∀ c ys, H c = some (.tup ys) → upd H D (.dT (putK kvs k v)) c = some (.tup ys) := fun c ys e => (upd_ne (ne_of e hD (by intro z; cases z))).trans e
  have big := length_putK kvs k v
  exact h _ (d_write I (hD ▸ True.intro) sb ⟨o, a1⟩ ⟨by omega, hsys, _, KT.keeps (KT.put rel k hb rv) tups, o, es, ep, a1, a2, a3, a4, a5⟩)
/-- the rules of a block's parts, wherever the block's own names come to stand -/
structure BlkRules (X : Cx) (scope : Scope) (tg : Expr) (ifs : List Expr) (kx vx : Expr) (g : TG) (tt : TT) (tk tv : TE) : Prop where
  tgt : ∀ (s : Shared) (H : Hp) (C : Addr) (cl : List (Str × Addr)) (fp : List Addr), PG (X.blk s H scope (compEnvC scope cl C X.env) fp) tg g
  tst : ∀ (s : Shared) (H : Hp) (C : Addr) (cl : List (Str × Addr)) (fp : List Addr), PTs (X.blk s H scope (compEnvC scope cl C X.env) fp) ifs tt
  key : ∀ (s : Shared) (H : Hp) (C : Addr) (cl : List (Str × Addr)) (fp : List Addr), PE (X.blk s H scope (compEnvC scope cl C X.env) fp) kx tk
  val : ∀ (s : Shared) (H : Hp) (C : Addr) (cl : List (Str × Addr)) (fp : List Addr), PE (X.blk s H scope (compEnvC scope cl C X.env) fp) vx tv
/-- one turn, told over the abstract heap: go on to Nx -/
def DcStep (J : It) (g : TG) (tt : TT) (tk tv : TE) (vs : List Nat) (σ : L2.St) (D : Addr) (i : Nat) (H : Hp) (Nx : Hp → Prop) : Prop := ∀ x H', J.yld i H x H' → g x (wipe σ vs) H' fun σ2 H2 => wipe σ2 vs = wipe σ vs ∧ tt σ2 H2 fun b H3 =>
  if b = true then tk σ2 H3 fun y H4 => tv σ2 H4 fun z H5 => ∃ kvs k b, y = .ref b ∧ H5 b = some (.tup (k.map kV)) ∧ H5 D = some (.dT kvs) ∧ kvs.length < sizeLine ∧ Nx (upd H5 D (.dT (putK kvs k z))) else Nx H3
/-- the whole: D the new dict, W what stands between two turns, by their number and a measure -/
def tDcT (wi : TI) (g : TG) (tt : TT) (tk tv : TE) (vs : List Nat) : TE := fun σ H Q => wi σ H fun J H1 => ∀ D, H1 D = none → ∃ W : Nat → Nat → Hp → Prop, (∃ m, W 0 m (upd H1 D (.dT []))) ∧ ∀ i m H, W i m H →
  (J.stop i H ∧ Q (.ref D) H) ∨ (J.go i H ∧ ∃ Nx : Hp → Prop, (∀ H', Nx H' → ∃ m', m' < m ∧ W (i + 1) m' H') ∧ DcStep J g tt tk tv vs σ D i H Nx)
section
variable {X : Cx} {s0 : Shared} {H0 : Hp} {scope : Scope} {ce : Env} {fp : List Addr}
/-- between two turns, in the block -/
def Btw (B : Cx) (σw : L2.St) (fp : List Addr) (tn : Nat → Heap → Prop) (W : Nat → Nat → Hp → Prop) (m : Nat) (s : Shared) : Prop := ∃ i H, L2.Inv B [] σw H s ∧ tn i s.heap ∧ (∀ b ∈ fp, H b = none) ∧ W i m H
theorem blk_fp {σ : L2.St} {H : Hp} {s : Shared} (I : L2.Inv (X.blk s0 H0 scope ce fp) [] σ H s) (hn : ∀ b ∈ fp, H b = none) : ∀ b ∈ fp, FpOk (X.blk s0 H0 scope ce fp) [] H b := fun b hb =>
  have x := I.ok.exf b hb
  ⟨hn b hb, x.1, I.ok.exfs b hb, .inl hb, x.2, fun p hp => nomatch hp⟩
/-- a turn is over: what the iterator keeps was pinned meanwhile -/
theorem blk_over {P : Program} {w : World} {K : PySem.W.Frag} {tg : Expr} {J : It} {it : Addr} {tn : Nat → Heap → Prop} {W : Nat → Nat → Hp → Prop} {i m : Nat} {σ σ' : L2.St} {vs : List Nat} {H' : Hp} {s1 s' : Shared} (T : Turn P w K tg J fp it tn) (st : tn (i + 1) s1.heap)
    (I : L2.Inv (X.blk s0 H0 scope ce fp) ([] ++ pinsAt fp s1.heap) σ' H' s') (hw : wipe σ' vs = wipe σ vs) (w1 : W (i + 1) m H') : Btw (X.blk s0 H0 scope ce fp) (wipe σ vs) fp tn W m s' := by
  have held : ∀ b ∈ fp, ∀ o, s1.heap.get? b = some o → s'.heap.get? b = some o ∧ H' b = none := fun b hb o e =>
    (I.pin (b, o) (mem_pinsAt hb e)).imp_right And.left
  refine ⟨i + 1, H', (L2.Inv.unpinned (pins := []) I).weak (by rw [← hw, wipe_length]) fun j v e => (wipe_some (vs := vs) (by rw [hw]; exact e)).1, T.keep _ _ _ st fun b hb o e => (held b hb o e).1, fun b hb => ?_, w1⟩
  obtain ⟨o, e, _⟩ := T.obj _ _ st b hb
  exact (held b hb o e).2
/-- the block's loop -/
theorem blk_loop {tg iter kx vx : Expr} {ifs : List Expr} {pos : Pos} {J : It} {it D : Addr} {tn : Nat → Heap → Prop} {W : Nat → Nat → Hp → Prop} {g : TG} {tt : TT} {tk tv : TE} {σ : L2.St} {vs : List Nat} {Dn : Hp → Prop} {R : Result → Shared → Prop} {m : Nat} {s : Shared} (hc : X.calm = true) (hu : X.A.units + 1 < cLine)
    (T : Turn X.prog X.w X.K tg J fp it tn) (rg : PG (X.blk s0 H0 scope ce fp) tg g) (rt : PTs (X.blk s0 H0 scope ce fp) ifs tt) (rk : PE (X.blk s0 H0 scope ce fp) kx tk) (re : PE (X.blk s0 H0 scope ce fp) vx tv)
    (turns : ∀ i m H, W i m H → (J.stop i H ∧ Dn H) ∨ (J.go i H ∧ ∃ Nx : Hp → Prop, (∀ H', Nx H' → ∃ m', m' < m ∧ W (i + 1) m' H') ∧ DcStep J g tt tk tv vs σ D i H Nx))
    (hR : ∀ H s, L2.Inv (X.blk s0 H0 scope ce fp) [] (wipe σ vs) H s → Dn H → R (.ok .next) s) (b : Btw (X.blk s0 H0 scope ce fp) (wipe σ vs) fp tn W m s) :
    codeAny (model X.prog X.w) X.A (.compLoop (.DictComp kx vx [⟨tg, iter, ifs, 0⟩] scope pos) 0 (.ref it) (.ref D) ce) R s := by
  refine L2.compLoop_anyD (Btw (X.blk s0 H0 scope ce fp) (wipe σ vs) fp tn W) (fun n s ⟨i, H, I, st, hn, w⟩ => ?_) m b
  rcases turns i n H w with ⟨stop, dn⟩ | ⟨go, Nx, hNx, step⟩
  · refine thnF (T.done (X.blk s0 H0 scope ce fp) rfl rfl rfl hc i [] s _ H _ I (blk_fp I hn) st stop) ?_
    rintro _ s1 ⟨rfl, I1⟩
    exact hR H s1 I1 dn
  · have next : ∀ {s1 s' : Shared} {σ' : L2.St} {H' : Hp}, tn (i + 1) s1.heap → L2.Inv (X.blk s0 H0 scope ce fp) ([] ++ pinsAt fp s1.heap) σ' H' s' → wipe σ' vs = wipe σ vs → Nx H' → ∃ m, m < n ∧ Btw (X.blk s0 H0 scope ce fp) (wipe σ vs) fp tn W m s' := fun st1 I' hw nx =>
      let ⟨m', hm, w1⟩ := hNx _ nx
      ⟨m', hm, blk_over T st1 I' hw w1⟩
    refine thnF (T.item (X.blk s0 H0 scope ce fp) rfl rfl rfl hc i [] s _ H _ I (blk_fp I hn) st go) ?_
    rintro _ s1 ⟨u, rfl, h1⟩
    refine thnF h1 fun _ s2 ⟨x, H2, I2, r2, y2, st2, n2⟩ => ?_
    refine thnF (rg.run _ s2 _ H2 x u _ (I2.pinned (blk_fp I2 n2) (T.obj _ _ st2)) r2 (step x H2 y2)) fun _ s3 ⟨σ3, H3, I3, hw, q3⟩ => ?_
    refine thnF (rt.run _ s3 σ3 H3 _ I3 q3) ?_
    rintro (_ | _) s4 ⟨H4, I4, q4⟩
    · exact next st2 I4 hw q4
    · refine thnF (rk.run _ s4 σ3 H4 _ I4 q4) fun kv s5 ⟨yk, H5, I5, r5, q5⟩ => thnF (re.run _ s5 σ3 H5 _ I5 q5) ?_
      rintro vv s6 ⟨yv, H6, I6, r6, kvs, k, b, rfl, hb6, hD6, hz6, nx⟩
      cases r5
      exact dict_take (X := X.blk s0 H0 scope ce fp) hu I6 hD6 hb6 hz6 r6 fun s7 I7 => next st2 I7 hw nx
/-- out of the block: back in the def, the block's names at C are nobody's -/
theorem blk_leave {pins : List (Addr × Obj)} {σ σ' : L2.St} {H : Hp} {s : Shared} (I0 : L2.Inv X pins σ H0 s0) (hf : ∀ b ∈ fp, FpOk X pins H0 b) (hC : ce.locals = s0.heap.objs.size) (I : L2.Inv (X.blk s0 H0 scope ce fp) [] σ' H s) :
    L2.Inv X pins σ H s ∧ FpOk X pins H s0.heap.objs.size ∧ ∃ m, s.heap.Ns s0.heap.objs.size m := by
  have fr : H ce.locals = none := I.free
  obtain ⟨m, ns, _⟩ := I.loc
  have ns : s.heap.Ns ce.locals m := ns
  rw [hC] at fr ns
  exact ⟨I0.call' (ch := fp) I.os I.base I.hok I.bare fun b hb => have f := (hf b hb).2; ⟨f.2.2.1, f.1, f.2.2.2⟩, I0.fpOk (Nat.le_refl _) fr, m, ns⟩
theorem ps_setDcT {i : Nat} {y : Str} {py : Pos} {kx vx tg iter : Expr} {ifs : List Expr} {own : List (Str × Nat)} {pos spos : Pos} {wi : TI} {g : TG} {tt : TT} {tk tv : TE} (hu : X.A.units + 1 < cLine) (hc : X.calm = true) (hN : X.N.Nodup) (hy : X.N[i]? = some y) (hyl : X.env.scope.names.lookup y = some .local)
    (hsw : swapsWith (.DictComp kx vx [⟨tg, iter, ifs, 0⟩] scope pos) (some (.Name y py)) spos.line X.env = pure true) (hi : PI X tg iter wi) (ok : BlkOk X.N X.env.scope scope own) (br : BlkRules X scope tg ifs kx vx g tt tk tv) (hs : ∀ x, foldedSetIterable iter X.env x = pure x := by intro _; rfl) :
    PS X (.Assign [.Name y py] (.DictComp kx vx [⟨tg, iter, ifs, 0⟩] scope pos) spos) (tAsg (tDcT wi g tt tk tv (own.map (·.2))) (gName i)) := by
  refine ⟨fun pins s σ H E I h => ?_⟩
  have free : ∀ z ∈ scope.names, z.2 = .free → ∃ c, X.env.cells.lookup z.1 = some c := fun z hz e => I.ok.has z.1 (ok.free z hz e)
  rw [exec_Assign_Name_used _ _ _ _ hsw]
  refine wpAny_bind (wpAny_standAt (wpAny_bind (wpAny_bind (thn (Q := fun _ s' => SP X pins E .next s') (wpAny_comprehension_free (use := some (assign (.Name y py) X.env)) rfl hs (closure_ok free) ok.kind (fun z hz e => (ok.uniq z hz).trans (congrArg some e)) (thn (hi.run pins s σ H _ I h) fun _ _ h1 => thn h1 ?_)) fun _ s' hq => wpAny_pure (wpAny_pure hq)))))
  rintro _ s2 ⟨it, fp, tn, J, H2, rfl, I2, T, st2, f2, q⟩
  refine wpAny_newObj_type (newEnv_comp ?_)
  -- the new dict at D
  have hDn : H2 s2.heap.objs.size = none := I2.hok.fresh (Nat.le_refl _)
  obtain ⟨W, ⟨m0, w0⟩, turns⟩ := q _ hDn
  have I3 : L2.Inv X pins σ (upd H2 s2.heap.objs.size (.dT [])) { s2 with heap := s2.heap.push { cls := .type "dict", data := .dict #[] } } := I2.laid (t' := s2.toks) (fun b o e => Heap.get?_push_of_some _ e) (Nat.le_refl _) (dt_empty s2.heap I2.big)
  have below : ∀ b ∈ fp, b < s2.heap.objs.size := fun b hb => let ⟨_, e, _⟩ := T.obj _ _ st2 b hb; Heap.lt_size e
  have f3 : ∀ b ∈ fp, FpOk X pins (upd H2 s2.heap.objs.size (.dT [])) b ∧ b < (s2.heap.push { cls := .type "dict", data := .dict #[] }).objs.size := fun b hb =>
    ⟨⟨(upd_ne (Nat.ne_of_lt (below b hb))).trans (f2 b hb).1, (f2 b hb).2⟩, Nat.lt_of_lt_of_eq (Nat.lt_succ_of_lt (below b hb)) (Heap.size_push ..).symm⟩
  -- its block, and out of it
  have loop := blk_loop (iter := iter) (pos := pos) (m := m0) (R := compPost (model X.prog X.w) X.A X.xe (some (assign (.Name y py) X.env)) (fun _ s' => SP X pins E .next s') (.ref s2.heap.objs.size) _) hc hu T (br.tgt _ _ _ _ fp) (br.tst _ _ _ _ fp) (br.key _ _ _ _ fp) (br.val _ _ _ _ fp) turns (fun H' s' I' dn => by
      obtain ⟨I6, fC, m, ns⟩ := blk_leave I3 (fun b hb => (f3 b hb).1) rfl I'
      refine wpAny_assign_Name (store_ok2 (v := V.ref s2.heap.objs.size) I6 hN hy (.inl hyl) rfl ?_ (.inr hyl))
      rintro s7 I7 ⟨a, sb, ha⟩
      have ne : _ ≠ a := fun z => ha.elim (fun e => fC.2.1 (z.trans e)) fun e => fC.2.2.2.2.1 y a e z.symm
      exact ⟨m, ns.sameBut sb ne, fun h8 sb8 => ⟨_, H', I7.turned (t' := s7.toks) (fun b o hb e => (sb8.2 b hb).trans e) fC.1 fC.2.1 fC.2.2.2.1 fC.2.2.2.2.1 fC.2.2.2.2.2, dn⟩⟩)
    ⟨0, _, block_start I3 ok hN f3, T.keep _ _ _ st2 fun b hb o e => pushCells_keeps _ _ _ _ (Heap.get?_push_of_some _ (Heap.get?_push_of_some _ e)), fun b hb => (f3 b hb).1.1, w0⟩
  exact codeAny_compStart_dict loop (T.self X.A 0 _ _ _ (T.keep _ _ _ st2 fun b hb o e => pushCells_keeps _ _ _ _ (Heap.get?_push_of_some _ (Heap.get?_push_of_some _ e))) loop)
theorem sw_trueD {kx vx : Expr} {gs : List Comprehension} {pos py : Pos} {y : Str} {l : Nat} {env : Env} (hk : env.scope.kind = .function) (hy : env.scope.names.lookup y = some .local) (hl : (py.line == pos.line) = true)
    (ha : (scope.names.any fun (n, k) => n == y && (k == .local || k == .cell)) = false) : swapsWith (.DictComp kx vx gs scope pos) (some (.Name y py)) l env = pure true := by
  have e1 : (env.blockKind == ScopeKind.function) = true := by simp [Env.blockKind, hk]
  have e2 : (env.kindOf y == some .local) = true := by rw [show env.kindOf y = some .local from hy]; rfl
  show pure (_ && _ && (py.line == pos.line) && _) = _
  rw [e1, e2, hl, ha]
  rfl
end
end FwR
end

section
set_option Elab.async false
set_option linter.all false
set_option maxRecDepth 100000
set_option maxHeartbeats 2000000
namespace FwK
open PySem PySem.Spec PyProof.Rows L2 Evl Fw FwR
section
variable {K : PySem.W.Frag} {σ : L2.St} {H H' : Hp} {ta tb te tk tv td : TE} {t u : TT} {x y z v : V} {D : Ends} {tu tw tz : TS} {g : TG} {d : Addr} {kvs : List (List Key × V)} {kv1 : List (Key × V)} {k : List Key} {k1 : Key}
theorem dgT (h : H d = some (.dT kvs)) {b : Addr} (hb : H b = some (.tup (k.map kV))) : DGet H d (.ref b) (valV kvs k) := DGet.t h hb
theorem ev_get2T {dv : V} (hd : Ev td σ H (.ref d)) (hk : EvU tk σ H (k.map kV)) (hx : Ev ta σ H dv) (h : H d = some (.dT kvs)) : Ev (tDGet2 td tk ta) σ H ((valV kvs k).getD dv) := fun H1 e1 Q q =>
  hd H1 e1 _ fun H2 e2 => ⟨d, rfl, .inr ⟨kvs, .inl (e2 _ _ (e1 _ _ h))⟩, hk H2 (e1.trans e2) _ fun p H3 np e3 hp => hx H3 ((e1.trans e2).trans e3) _ fun H4 e4 => ⟨_, dgT ((e2.trans (e3.trans e4)) _ _ (e1 _ _ h)) (e4 _ _ hp), q H4 ((e2.trans e3).trans e4)⟩⟩
theorem ev_get2K {dv y : V} (hd : Ev td σ H (.ref d)) (hk : Ev tk σ H y) (ey : y = kV k1) (hx : Ev ta σ H dv) (h : H d = some (.dK kv1)) : Ev (tDGet2 td tk ta) σ H ((valV kv1 k1).getD dv) := fun H1 e1 Q q =>
  hd H1 e1 _ fun H2 e2 => ⟨d, rfl, .inl ⟨kv1, .inl (e2 _ _ (e1 _ _ h))⟩, hk H2 (e1.trans e2) _ fun H3 e3 => hx H3 ((e1.trans e2).trans e3) _ fun H4 e4 => ⟨_, by rw [ey]; exact DGet.k ((e2.trans (e3.trans e4)) _ _ (e1 _ _ h)), q H4 ((e2.trans e3).trans e4)⟩⟩
theorem ev_getT (hd : Ev td σ H (.ref d)) (hk : EvU tk σ H (k.map kV)) (h : H d = some (.dT kvs)) (hv : valV kvs k = some v) : Ev (tDGet td tk) σ H v := fun H1 e1 Q q =>
  hd H1 e1 _ fun H2 e2 => hk H2 (e1.trans e2) _ fun p H3 np e3 hp => ⟨d, v, rfl, by rw [← hv]; exact dgT ((e2.trans e3) _ _ (e1 _ _ h)) hp, q H3 (e2.trans e3)⟩
theorem ev_getK {y : V} (hd : Ev td σ H (.ref d)) (hk : Ev tk σ H y) (ey : y = kV k1) (h : H d = some (.dK kv1)) (hv : valV kv1 k1 = some v) : Ev (tDGet td tk) σ H v := fun H1 e1 Q q =>
  hd H1 e1 _ fun H2 e2 => hk H2 (e1.trans e2) _ fun H3 e3 => ⟨d, v, rfl, by rw [← hv, ey]; exact DGet.k ((e2.trans e3) _ _ (e1 _ _ h)), q H3 (e2.trans e3)⟩
theorem ev_inK {y : V} (hk : Ev tk σ H y) (hd : Ev td σ H (.ref d)) (ey : y = kV k1) (h : H d = some (.dK kv1)) : Ev (tDIn tk td) σ H (.bl (valV kv1 k1).isSome) := fun H1 e1 Q q =>
  hk H1 e1 _ fun H2 e2 => hd H2 (e1.trans e2) _ fun H3 e3 => ⟨d, _, rfl, by rw [ey]; exact DGet.k ((e2.trans e3) _ _ (e1 _ _ h)), q H3 (e2.trans e3)⟩
theorem ev_ninK {y : V} (hk : Ev tk σ H y) (hd : Ev td σ H (.ref d)) (ey : y = kV k1) (h : H d = some (.dK kv1)) : Ev (tDNotIn tk td) σ H (.bl (!(valV kv1 k1).isSome)) := fun H1 e1 Q q =>
  hk H1 e1 _ fun H2 e2 => hd H2 (e1.trans e2) _ fun H3 e3 => ⟨d, _, rfl, by rw [ey]; exact DGet.k ((e2.trans e3) _ _ (e1 _ _ h)), q H3 (e2.trans e3)⟩
theorem ev_ninT (hk : EvU tk σ H (k.map kV)) (hd : Ev td σ H (.ref d)) (h : H d = some (.dT kvs)) : Ev (tDNotIn tk td) σ H (.bl (!(valV kvs k).isSome)) := fun H1 e1 Q q =>
  hk H1 e1 _ fun p H2 np e2 hp => hd H2 (e1.trans e2) _ fun H3 e3 => ⟨d, _, rfl, dgT ((e2.trans e3) _ _ (e1 _ _ h)) (e3 _ _ hp), q H3 (e2.trans e3)⟩
theorem s_putT (hv : Ev tv σ H v) (hd : Ev td σ H (.ref d)) (hk : EvU tk σ H (k.map kV)) (h : H d = some (.dT kvs)) (hl : kvs.length < 100000) (kk : ∀ H1, Ex H H1 → D.nx σ (upd H1 d (.dT (putK kvs k v)))) : sDPut td tk tv D σ H :=
  hv H (Ex.refl H) _ fun H1 e1 => hd H1 e1 _ fun H2 e2 => hk H2 (e1.trans e2) _ fun p H3 np e3 hp => ⟨d, _, rfl, DPut.t (((e1.trans e2).trans e3) _ _ h) hp (sz_lt hl), kk H3 ((e1.trans e2).trans e3)⟩
theorem q_putT (hv : Ev tv σ H v) (hd : Ev td σ H (.ref d)) (hk : EvU tk σ H (k.map kV)) (h : H d = some (.dT kvs)) (hl : kvs.length < 100000) (kk : ∀ H1, Ex H H1 → tz D σ (upd H1 d (.dT (putK kvs k v)))) : tSeq (sDPut td tk tv) tz D σ H :=
  s_putT (D := { D with nx := tz D }) hv hd hk h hl kk
theorem s_putK {y : V} (hv : Ev tv σ H v) (hd : Ev td σ H (.ref d)) (hk : Ev tk σ H y) (ey : y = kV k1) (h : H d = some (.dK kv1)) (hl : kv1.length < 100000) (kk : ∀ H1, Ex H H1 → D.nx σ (upd H1 d (.dK (putK kv1 k1 v)))) : sDPut td tk tv D σ H :=
  hv H (Ex.refl H) _ fun H1 e1 => hd H1 e1 _ fun H2 e2 => hk H2 (e1.trans e2) _ fun H3 e3 => ⟨d, _, rfl, by rw [ey]; exact DPut.k (((e1.trans e2).trans e3) _ _ h) (sz_lt hl), kk H3 ((e1.trans e2).trans e3)⟩
theorem q_putK {y : V} (hv : Ev tv σ H v) (hd : Ev td σ H (.ref d)) (hk : Ev tk σ H y) (ey : y = kV k1) (h : H d = some (.dK kv1)) (hl : kv1.length < 100000) (kk : ∀ H1, Ex H H1 → tz D σ (upd H1 d (.dK (putK kv1 k1 v)))) : tSeq (sDPut td tk tv) tz D σ H :=
  s_putK (D := { D with nx := tz D }) hv hd hk ey h hl kk
/-- {k: v} -/
theorem q_disp1 {i : Nat} {y : V} (hk : Ev tk σ H y) (ey : y = kV k1) (hv : Ev tv σ H v) (kk : ∀ p H1, H p = none → Ex H H1 → H1 p = some (.dK [(k1, v)]) → tz D (σ.set i (some (.ref p))) H1) : tSeq (tAsg (tDisp [(tk, tv)]) (gName i)) tz D σ H := fun p np => by
  have e0 : Ex H (upd H p (.dK [])) := Ex.new np
  refine hk _ e0 _ fun H2 e2 => hv H2 (e0.trans e2) _ fun H3 e3 => ⟨(e2.trans e3) _ _ upd_same, [(k1, v)], by rw [ey]; rfl, Nat.le_of_ble_eq_true rfl, kk p _ np (Ex.mut ((e0.trans e2).trans e3) np) upd_same⟩
theorem q_newK {i : Nat} (kk : ∀ p H1, H p = none → Ex H H1 → H1 p = some (.dK []) → tz D (σ.set i (some (.ref p))) H1) : tSeq (tAsg tDNewK (gName i)) tz D σ H := fun p np => kk p _ np (Ex.new np) upd_same
theorem q_newT {i : Nat} (kk : ∀ p H1, H p = none → Ex H H1 → H1 p = some (.dT []) → tz D (σ.set i (some (.ref p))) H1) : tSeq (tAsg tDNewT (gName i)) tz D σ H := fun p np => kk p _ np (Ex.new np) upd_same
/-! ### dict comprehensions over a list that stays -/
theorem dcT_list {a : Addr} {xs : List V} {tt : TT} {vs : List Nat} {tl : TE} (Pv : Nat → List (List Key × V) → Prop) (h : Ev tl σ H (.ref a)) (hx : H a = some (.lst xs)) (h0 : Pv 0 []) (hz : ∀ i kvs, i ≤ xs.length → Pv i kvs → kvs.length < 100000)
    (hs : ∀ i x H2 kvs (Q : L2.St → Hp → Prop), xs[i]? = some x → Ex H H2 → Pv i kvs → (∀ σ2 b, wipe σ2 vs = wipe σ vs → EvT tt σ2 H2 b → (b = true → ∃ k v, EvU tk σ2 H2 (k.map kV) ∧ (∀ H3, Ex H2 H3 → Ev tv σ2 H3 v) ∧ Pv (i + 1) (putK kvs k v)) → (b = false → Pv (i + 1) kvs) → Q σ2 H2) → g x (wipe σ vs) H2 Q) :
    EvP (tDcT (iList K tl) g tt tk tv vs) σ H (fun v H2 => ∃ p kvs, v = .ref p ∧ H p = none ∧ H2 p = some (.dT kvs) ∧ Pv xs.length kvs) := fun H1 e1 Q q =>
  h H1 e1 _ fun H2 e2 => ⟨a, rfl, ⟨xs, sq_of (e2 _ _ (e1 _ _ hx))⟩, fun Dl hD => by
    have ha2 : H2 a = some (.lst xs) := e2 _ _ (e1 _ _ hx)
    refine ⟨fun i m H' => m = xs.length - i ∧ i ≤ xs.length ∧ Ex H2 H' ∧ ∃ kvs, H' Dl = some (.dT kvs) ∧ Pv i kvs, ⟨xs.length, by simp, Nat.zero_le _, Ex.new hD, [], upd_same, h0⟩, ?_⟩
    rintro i m H' ⟨rfl, hi, e3, kvs, hk, hp⟩
    have q3 : SqL K H' a xs := sq_of (e3 _ _ ha2)
    by_cases hlt : i < xs.length
    · refine .inr ⟨(walk_list (xs := xs)).goes i H' hlt q3, fun H'' => Ex H2 H'' ∧ ∃ kvs, H'' Dl = some (.dT kvs) ∧ Pv (i + 1) kvs, fun H'' hh => ⟨xs.length - (i + 1), by omega, rfl, hlt, hh⟩, fun x H'' y => ?_⟩
      obtain ⟨e, hxi⟩ := (walk_list (xs := xs)).yields i H' x H'' hlt q3 y
      subst e
      refine hs i x H'' kvs _ hxi (e1.trans (e2.trans e3)) hp fun σ2 b hw ht hyes hno => ⟨hw, ht H'' (Ex.refl _) _ fun H4 e4 => ?_⟩
      cases b with
      | true =>
        rw [if_pos rfl]
        obtain ⟨k, v, hku, hv, hn⟩ := hyes rfl
        exact hku H4 e4 _ fun b H5 nb e5 hb => hv H4 e4 H5 e5 _ fun H6 e6 => ⟨kvs, k, b, rfl, e6 _ _ hb, (e4.trans (e5.trans e6)) _ _ hk, sz_lt (hz i kvs (Nat.le_of_lt hlt) hp), Ex.mut (e3.trans (e4.trans (e5.trans e6))) hD, _, upd_same, hn⟩
      | false =>
        rw [if_neg (by decide)]
        exact ⟨e3.trans e4, kvs, e4 _ _ hk, hno rfl⟩
    · have e : i = xs.length := by omega
      subst e
      exact .inl ⟨(walk_list (xs := xs)).stops H' q3, q _ _ (e2.trans e3) ⟨Dl, kvs, rfl, fresh_back (e1.trans e2) hD, hk, hp⟩⟩⟩
theorem dcK_list {a : Addr} {xs : List V} {tt : TT} {vs : List Nat} {tl : TE} (Pv : Nat → List (Key × V) → Prop) (h : Ev tl σ H (.ref a)) (hx : H a = some (.lst xs)) (h0 : Pv 0 []) (hz : ∀ i kvs, i ≤ xs.length → Pv i kvs → kvs.length < 100000)
    (hs : ∀ i x H2 kvs (Q : L2.St → Hp → Prop), xs[i]? = some x → Ex H H2 → Pv i kvs → (∀ σ2 b, wipe σ2 vs = wipe σ vs → EvT tt σ2 H2 b → (b = true → ∃ k v, Ev tk σ2 H2 (kV k) ∧ (∀ H3, Ex H2 H3 → Ev tv σ2 H3 v) ∧ Pv (i + 1) (putK kvs k v)) → (b = false → Pv (i + 1) kvs) → Q σ2 H2) → g x (wipe σ vs) H2 Q) :
    EvP (tDc (iList K tl) g tt tk tv vs) σ H (fun v H2 => ∃ p kvs, v = .ref p ∧ H p = none ∧ H2 p = some (.dK kvs) ∧ Pv xs.length kvs) := fun H1 e1 Q q =>
  h H1 e1 _ fun H2 e2 => ⟨a, rfl, ⟨xs, sq_of (e2 _ _ (e1 _ _ hx))⟩, fun Dl hD => by
    have ha2 : H2 a = some (.lst xs) := e2 _ _ (e1 _ _ hx)
    refine ⟨fun i m H' => m = xs.length - i ∧ i ≤ xs.length ∧ Ex H2 H' ∧ ∃ kvs, H' Dl = some (.dK kvs) ∧ Pv i kvs, ⟨xs.length, by simp, Nat.zero_le _, Ex.new hD, [], upd_same, h0⟩, ?_⟩
    rintro i m H' ⟨rfl, hi, e3, kvs, hk, hp⟩
    have q3 : SqL K H' a xs := sq_of (e3 _ _ ha2)
    by_cases hlt : i < xs.length
    · refine .inr ⟨(walk_list (xs := xs)).goes i H' hlt q3, fun H'' => Ex H2 H'' ∧ ∃ kvs, H'' Dl = some (.dK kvs) ∧ Pv (i + 1) kvs, fun H'' hh => ⟨xs.length - (i + 1), by omega, rfl, hlt, hh⟩, fun x H'' y => ?_⟩
      obtain ⟨e, hxi⟩ := (walk_list (xs := xs)).yields i H' x H'' hlt q3 y
      subst e
      refine hs i x H'' kvs _ hxi (e1.trans (e2.trans e3)) hp fun σ2 b hw ht hyes hno => ⟨hw, ht H'' (Ex.refl _) _ fun H4 e4 => ?_⟩
      cases b with
      | true =>
        rw [if_pos rfl]
        obtain ⟨k, v, hku, hv, hn⟩ := hyes rfl
        exact hku H4 e4 _ fun H5 e5 => hv H4 e4 H5 e5 _ fun H6 e6 => ⟨kvs, k, rfl, (e4.trans (e5.trans e6)) _ _ hk, sz_lt (hz i kvs (Nat.le_of_lt hlt) hp), Ex.mut (e3.trans (e4.trans (e5.trans e6))) hD, _, upd_same, hn⟩
      | false =>
        rw [if_neg (by decide)]
        exact ⟨e3.trans e4, kvs, e4 _ _ hk, hno rfl⟩
    · have e : i = xs.length := by omega
      subst e
      exact .inl ⟨(walk_list (xs := xs)).stops H' q3, q _ _ (e2.trans e3) ⟨Dl, kvs, rfl, fresh_back (e1.trans e2) hD, hk, hp⟩⟩⟩
end
end FwK
end

section
set_option Elab.async false
set_option linter.all false
set_option maxRecDepth 100000
set_option maxHeartbeats 2000000
namespace FwK
open PySem PySem.Spec PyProof.Rows L2 Evl Fw FwR
/-! ### edges sorted -/
theorem alike_ek (e f : Edge) : PySem.W.alike (keysD (ek e)) (keysD (ek f)) = true := by simp [keysD, ek, keyD, PySem.W.alike, PySem.W.alikeAll]
theorem alikeK_ek (es : List Edge) : AlikeK (es.map ek) := fun k hk => by
  obtain ⟨e, _, rfl⟩ := List.mem_map.mp hk
  refine ⟨by simp [ek], fun k' hk' => ?_⟩
  obtain ⟨f, _, rfl⟩ := List.mem_map.mp hk'
  exact alike_ek e f
theorem eqv_int (i j : Int) : PyData.eqv (.int i) (.int j) = decide (i = j) := by
  by_cases h : i = j
  · subst h; simp [PyData.eqv]
  · simp [PyData.eqv, h]
theorem eqv_str (i j : Str) : PyData.eqv (.str i) (.str j) = decide (i = j) := by
  by_cases h : i = j
  · subst h; simp [PyData.eqv]
  · simp [PyData.eqv, h]
theorem cps_lt (x y : Let) (hx : x.small = true) (hy : y.small = true) : decide ((T [x]).cps.toList < (T [y]).cps.toList) = decide (x.idx < y.idx) := by
  cases x <;> cases y <;> first | (exact absurd hx (by decide)) | (exact absurd hy (by decide)) | rfl | decide
theorem lt_ek {e f : Edge} (he : e.2.1.small = true) (hf : f.2.1.small = true) : PySem.W.dataLt (keysD (ek e)) (keysD (ek f)) = true ↔ elt e f := by
  obtain ⟨a, x, b⟩ := e
  obtain ⟨c, y, d⟩ := f
  have h0 : PyProof.Rows.lexLt PyProof.Rows.itemOrd (PySem.W.keyToksAll []) (PySem.W.keyToksAll []) = false := PyProof.Rows.lex_irrefl _
  show PySem.W.dataLt (.tuple [.int (a : Int), .str (T [x]), .int (b : Int)]) (.tuple [.int (c : Int), .str (T [y]), .int (d : Int)]) = true ↔ _
  rw [PySem.W.dataLt_tuple, PySem.W.dataLt_cons (by simp [PySem.W.alike]), PySem.W.dataLt_cons (by simp [PySem.W.alike]), PySem.W.dataLt_cons (by simp [PySem.W.alike]), h0, PySem.W.dataLt_int, PySem.W.dataLt_str, PySem.W.dataLt_int, eqv_int, eqv_str, eqv_int, cps_lt x y he hf]
  unfold elt
  dsimp only
  have ht : T [x] = T [y] ↔ x = y := ⟨fun h => List.head_eq_of_cons_eq (T_inj h), fun h => by rw [h]⟩
  by_cases h1 : a = c
  · subst h1
    by_cases h2 : x = y
    · subst h2
      by_cases h3 : b = d
      · subst h3
        simp
      · have : ¬ ((b : Int) = (d : Int)) := fun h => h3 (Int.ofNat.inj h)
        simp [this]
    · have h3 : ¬ T [x] = T [y] := fun h => h2 (ht.mp h)
      simp [h2, h3]
  · have : ¬ ((a : Int) = (c : Int)) := fun h => h1 (Int.ofNat.inj h)
    simp [h1, this]
theorem map_perm {l : List (List Key)} : ∀ {es : List Edge}, (l.Perm (es.map ek)) → ∃ fs : List Edge, l = fs.map ek ∧ ∀ e, e ∈ fs ↔ e ∈ es := fun {es} h => by
  have h1 : ∀ k ∈ l, ∃ e ∈ es, ek e = k := fun k hk => List.mem_map.mp (h.mem_iff.mp hk)
  have key : ∀ l' : List (List Key), (∀ k ∈ l', ∃ e : Edge, ek e = k) → ∃ fs : List Edge, l' = fs.map ek := by
    intro l'
    induction l' with
    | nil => exact fun _ => ⟨[], rfl⟩
    | cons a r ih =>
      intro h
      obtain ⟨e, he⟩ := h a (by simp)
      obtain ⟨fs, hf⟩ := ih fun k hk => h k (List.mem_cons_of_mem _ hk)
      exact ⟨e :: fs, by rw [List.map_cons, he, hf]⟩
  obtain ⟨fs, hf⟩ := key l fun k hk => let ⟨e, _, he⟩ := h1 k hk; ⟨e, he⟩
  subst hf
  refine ⟨fs, rfl, ?_⟩
  exact fun e => ⟨fun he => by
    have := h.mem_iff.mp (List.mem_map_of_mem (f := ek) he)
    obtain ⟨e', h1, h2⟩ := List.mem_map.mp this
    rw [← ek_inj h2]
    exact h1, fun he => by
    have := h.mem_iff.mpr (List.mem_map_of_mem (f := ek) he)
    obtain ⟨e', h1, h2⟩ := List.mem_map.mp this
    rw [← ek_inj h2]
    exact h1⟩
theorem sort_ek {es : List Edge} (hs : Smalls es) (hn : es.Nodup) : ∃ fs : List Edge, sortK (es.map ek) = fs.map ek ∧ (∀ e, e ∈ fs ↔ e ∈ es) ∧ fs.Pairwise elt ∧ fs.length = es.length := by
  have pm : (sortK (es.map ek)).Perm (es.map ek) := List.mergeSort_perm (es.map ek) (PySem.W.dataLe false keysD)
  obtain ⟨fs, h1, h2⟩ := map_perm pm
  have tl : PySem.W.TotalLe (PySem.W.dataLe false keysD) := PySem.W.sortLe_total _ false _
  have pw := PySem.W.sort_pairwise tl (es.map ek)
  replace pw : (sortK (es.map ek)).Pairwise (fun a b => PySem.W.dataLe false keysD a b = true) := pw
  have hn2 : (es.map ek).Nodup := List.Pairwise.map ek (fun a b hab h => hab (ek_inj h)) hn
  have hn3 : (sortK (es.map ek)).Nodup := pm.nodup_iff.mpr hn2
  rw [h1] at pw hn3 pm
  refine ⟨fs, h1, h2, ?_, by simpa using pm.length_eq⟩
  have pw2 := List.pairwise_map.mp pw
  have hn4 := List.pairwise_map.mp hn3
  refine (pw2.and hn4).imp_of_mem fun {a b} ha hb ⟨h3, h4⟩ => ?_
  have sa := hs a ((h2 a).mp ha)
  have sb := hs b ((h2 b).mp hb)
  have h5 : (!PySem.W.dataLt (keysD (ek b)) (keysD (ek a))) = true := h3
  have h6 : ¬ elt b a := fun h => by
    rw [(lt_ek sb sa).mpr h] at h5
    cases h5
  have h7 : a ≠ b := fun h => h4 (by rw [h])
  obtain ⟨a1, x, a2⟩ := a
  obtain ⟨b1, y, b2⟩ := b
  unfold elt at h6 ⊢
  dsimp only at h6 ⊢
  by_cases c1 : a1 = b1
  · subst c1
    by_cases c2 : x = y
    · subst c2
      have c3 : a2 ≠ b2 := fun h => h7 (by rw [h])
      refine .inr ⟨rfl, .inr ⟨rfl, ?_⟩⟩
      have c4 : ¬ b2 < a2 := fun h => h6 (.inr ⟨rfl, .inr ⟨rfl, h⟩⟩)
      omega
    · have c4 : ¬ y.idx < x.idx := fun h => h6 (.inr ⟨rfl, .inl h⟩)
      have c5 : x.idx ≠ y.idx := fun h => c2 (Let.idx_inj h)
      exact .inr ⟨rfl, .inl (by omega)⟩
  · have c4 : ¬ b1 < a1 := fun h => h6 (.inl h)
    exact .inl (by omega)
end FwK
end

section
set_option Elab.async false
set_option linter.all false
set_option maxRecDepth 100000
set_option maxHeartbeats 2000000
namespace FwK
open PySem PySem.Spec PyProof.Rows L2 Evl Fw FwR
/-! ### keys of a dict -/
theorem any_keys {κ : Type} [DecidableEq κ] (kvs : List (κ × V)) (k : κ) : (kvs.any fun kv => decide (kv.1 = k)) = true ↔ k ∈ kvs.map (·.1) := by
  rw [List.any_eq_true, List.mem_map]
  exact ⟨fun ⟨x, h1, h2⟩ => ⟨x, h1, of_decide_eq_true h2⟩, fun ⟨x, h1, h2⟩ => ⟨x, h1, decide_eq_true h2⟩⟩
theorem keys_put {κ : Type} [DecidableEq κ] (kvs : List (κ × V)) (k : κ) (v : V) : (putK kvs k v).map (·.1) = if k ∈ kvs.map (·.1) then kvs.map (·.1) else kvs.map (·.1) ++ [k] := by
  unfold putK
  by_cases h : k ∈ kvs.map (·.1)
  · rw [if_pos h, if_pos ((any_keys kvs k).mpr h), List.map_map]
    apply List.map_congr_left
    intro x _
    show (if x.1 = k then (x.1, v) else x).1 = x.1
    split <;> rfl
  · rw [if_neg h, if_neg (fun c => h ((any_keys kvs k).mp c)), List.map_append]
    rfl
theorem valV_iff {κ : Type} [DecidableEq κ] (kvs : List (κ × V)) (k : κ) : (valV kvs k).isSome = true ↔ k ∈ kvs.map (·.1) := by
  rw [← valV_any]
  exact any_keys kvs k
/-! ### letters, sorted -/
theorem ltc (x y : Let) (hx : x.small = true) (hy : y.small = true) : ltCps (T [x]).cps.toList (T [y]).cps.toList = decide (x.idx < y.idx) := by
  cases x <;> cases y <;> first | (exact absurd hx (by decide)) | (exact absurd hy (by decide)) | rfl | decide
theorem rising_pw : ∀ (ms : List Let) (x : Let), x.small = true → (∀ l ∈ ms, l.small = true) → risingS (T [x]) (ms.map fun l => T [l]) = true → (x :: ms).Pairwise (fun a b => a.idx ≤ b.idx)
  | [], x, _, _, _ => by simp
  | y :: r, x, hx, hm, h => by
    have hy := hm y (by simp)
    have h2 : (!ltCps (T [y]).cps.toList (T [x]).cps.toList && risingS (T [y]) (r.map fun l => T [l])) = true := h
    rw [Bool.and_eq_true] at h2
    obtain ⟨h3, h4⟩ := h2
    rw [ltc y x hy hx] at h3
    have h5 : x.idx ≤ y.idx := by simpa using h3
    have ih := rising_pw r y hy (fun l hl => hm l (List.mem_cons_of_mem _ hl)) h4
    refine List.Pairwise.cons (fun z hz => ?_) ih
    rcases List.mem_cons.mp hz with e | hz
    · rw [e]; exact h5
    · exact Nat.le_trans h5 ((List.pairwise_cons.mp ih).1 z hz)
theorem sorted_pw (ms : List Let) (hm : ∀ l ∈ ms, l.small = true) (hn : ms.Nodup) (h : sortedS (ms.map fun l => T [l]) = true) : ms.Pairwise (fun a b => a.idx < b.idx) := by
  cases ms with
  | nil => exact .nil
  | cons x r =>
    have h2 := rising_pw r x (hm x (by simp)) (fun l hl => hm l (List.mem_cons_of_mem _ hl)) h
    refine (h2.and hn).imp fun {a b} ⟨h3, h4⟩ => ?_
    have : a.idx ≠ b.idx := fun e => h4 (Let.idx_inj e)
    omega
theorem perm_lets {ys : List Str} {ls : List Let} (h : ys.Perm (ls.map fun l => T [l])) (hn : ls.Nodup) : ∃ ms : List Let, ys = ms.map (fun l => T [l]) ∧ (∀ l, l ∈ ms ↔ l ∈ ls) ∧ ms.Nodup := by
  have inj : ∀ {x y : Let}, T [x] = T [y] → x = y := fun h => List.head_eq_of_cons_eq (T_inj h)
  have key : ∀ l' : List Str, (∀ k ∈ l', ∃ e : Let, T [e] = k) → ∃ fs : List Let, l' = fs.map fun l => T [l] := by
    intro l'
    induction l' with
    | nil => exact fun _ => ⟨[], rfl⟩
    | cons a r ih =>
      intro h
      obtain ⟨e, he⟩ := h a (by simp)
      obtain ⟨fs, hf⟩ := ih fun k hk => h k (List.mem_cons_of_mem _ hk)
      exact ⟨e :: fs, by rw [List.map_cons, he, hf]⟩
  obtain ⟨ms, hm⟩ := key ys fun k hk => by
    obtain ⟨e, _, he⟩ := List.mem_map.mp (h.mem_iff.mp hk)
    exact ⟨e, he⟩
  subst hm
  refine ⟨ms, rfl, fun l => ⟨fun hl => ?_, fun hl => ?_⟩, ?_⟩
  · obtain ⟨e, h1, h2⟩ := List.mem_map.mp (h.mem_iff.mp (List.mem_map_of_mem (f := fun l => T [l]) hl))
    rw [← inj h2]
    exact h1
  · obtain ⟨e, h1, h2⟩ := List.mem_map.mp (h.mem_iff.mpr (List.mem_map_of_mem (f := fun l => T [l]) hl))
    rw [← inj h2]
    exact h1
  · have h1 : (ls.map fun l => T [l]).Nodup := List.Pairwise.map _ (fun a b hab h => hab (inj h)) hn
    have h2 := h.nodup_iff.mpr h1
    exact (List.pairwise_map.mp h2).imp fun {a b} h3 e => h3 (by rw [e])
/-! ### the ways of numbered -/
def wk (v : Nat) (l : Let) (s : Int) : List Key := [.inl (v : Int), .inr (T [l]), .inl s]
theorem wk_inj {v v' : Nat} {l l' : Let} {s s' : Int} (h : wk v l s = wk v' l' s') : v = v' ∧ l = l' ∧ s = s' := by
  unfold wk at h
  simp only [List.cons.injEq, Sum.inl.injEq, Sum.inr.injEq, Int.natCast_inj, and_true] at h
  exact ⟨h.1, List.head_eq_of_cons_eq (T_inj h.2.1), h.2.2⟩
structure Wy (kvs : List (List Key × V)) (E : List Edge) : Prop where
  up : ∀ (v : Nat) (l : Let) (o : V), valV kvs (wk v l 1) = some o ↔ ∃ u : Nat, o = .int (u : Int) ∧ (v, l, u) ∈ E
  dn : ∀ (v : Nat) (l : Let) (o : V), valV kvs (wk v l (-1)) = some o ↔ ∃ u : Nat, o = .int (u : Int) ∧ (u, l, v) ∈ E
  len : kvs.length ≤ 2 * E.length
theorem Wy.nil : Wy [] [] := ⟨fun v l o => ⟨(fun h => by cases h), fun h => by obtain ⟨u, _, h⟩ := h; simp at h⟩, fun v l o => ⟨(fun h => by cases h), fun h => by obtain ⟨u, _, h⟩ := h; simp at h⟩, by simp⟩
theorem Wy.step {kvs : List (List Key × V)} {E : List Edge} {s e : Nat} {l : Let} (w : Wy kvs E) (hf : ∀ e1 ∈ E ++ [(s, l, e)], ∀ e2 ∈ E ++ [(s, l, e)], e1.2.1 = e2.2.1 → (e1.1 = e2.1 ↔ e1.2.2 = e2.2.2)) :
    Wy (putK (putK kvs (wk s l 1) (.int (e : Int))) (wk e l (-1)) (.int (s : Int))) (E ++ [(s, l, e)]) := by
  have mem : ∀ x, x ∈ E → x ∈ E ++ [(s, l, e)] := fun x h => List.mem_append_left _ h
  have new : (s, l, e) ∈ E ++ [(s, l, e)] := by simp
  refine ⟨fun v m o => ?_, fun v m o => ?_, ?_⟩
  · rw [valV_put, if_neg (fun h => by have := (wk_inj h).2.2; omega), valV_put]
    by_cases h : wk v m 1 = wk s l 1
    · obtain ⟨rfl, rfl, _⟩ := wk_inj h
      rw [if_pos rfl]
      constructor
      · intro h2
        exact ⟨e, (Option.some.inj h2).symm, new⟩
      · rintro ⟨u, rfl, hu⟩
        have : u = e := (hf _ hu _ new rfl).mp rfl
        rw [this]
    · rw [if_neg h, w.up]
      constructor
      · rintro ⟨u, h1, h2⟩
        exact ⟨u, h1, mem _ h2⟩
      · rintro ⟨u, h1, h2⟩
        refine ⟨u, h1, ?_⟩
        rcases List.mem_append.mp h2 with h2 | h2
        · exact h2
        · have := List.mem_singleton.mp h2
          injection this with a1 a2
          injection a2 with a3 a4
          exact absurd (by rw [a1, a3]) h
  · rw [valV_put]
    by_cases h : wk v m (-1) = wk e l (-1)
    · obtain ⟨rfl, rfl, _⟩ := wk_inj h
      rw [if_pos rfl]
      constructor
      · intro h2
        exact ⟨s, (Option.some.inj h2).symm, new⟩
      · rintro ⟨u, rfl, hu⟩
        have : u = s := (hf _ hu _ new rfl).mpr rfl
        rw [this]
    · rw [if_neg h, valV_put, if_neg (fun h => by have := (wk_inj h).2.2; omega), w.dn]
      constructor
      · rintro ⟨u, h1, h2⟩
        exact ⟨u, h1, mem _ h2⟩
      · rintro ⟨u, h1, h2⟩
        refine ⟨u, h1, ?_⟩
        rcases List.mem_append.mp h2 with h2 | h2
        · exact h2
        · have := List.mem_singleton.mp h2
          injection this with a1 a2
          injection a2 with a3 a4
          exact absurd (by rw [a3, a4]) h
  · have h1 := length_putK (putK kvs (wk s l 1) (.int (e : Int))) (wk e l (-1)) (.int (s : Int))
    have h2 := length_putK kvs (wk s l 1) (.int (e : Int))
    have h3 := w.len
    rw [List.length_append]
    show _ ≤ 2 * (E.length + 1)
    omega
def nV (o : Option Nat) : Option V := o.map fun u => .int (u : Int)
theorem Wy.atUp {kvs : List (List Key × V)} {E : List Edge} (w : Wy kvs E) (hf : Folded E) {v : Nat} {l : Let} (hl : l.small = true) : valV kvs (wk v l 1) = nV (stp E v l) := by
  cases h : stp E v l with
  | some u =>
    have := (stp_iff hf).mp h
    unfold Has at this
    rw [if_pos hl] at this
    exact (w.up v l _).mpr ⟨u, rfl, this⟩
  | none =>
    cases h2 : valV kvs (wk v l 1) with
    | none => rfl
    | some o =>
      obtain ⟨u, _, hu⟩ := (w.up v l o).mp h2
      have : stp E v l = some u := (stp_iff hf).mpr (by unfold Has; rw [if_pos hl]; exact hu)
      rw [h] at this
      cases this
theorem Wy.atDn {kvs : List (List Key × V)} {E : List Edge} (w : Wy kvs E) (hf : Folded E) {v : Nat} {l : Let} (hl : l.small = true) : valV kvs (wk v l (-1)) = nV (stp E v l.flip) := by
  have hl2 : ¬ l.flip.small = true := by rw [Let.small_flip, hl]; decide
  cases h : stp E v l.flip with
  | some u =>
    have := (stp_iff hf).mp h
    unfold Has at this
    rw [if_neg hl2, Let.flip_flip] at this
    exact (w.dn v l _).mpr ⟨u, rfl, this⟩
  | none =>
    cases h2 : valV kvs (wk v l (-1)) with
    | none => rfl
    | some o =>
      obtain ⟨u, _, hu⟩ := (w.dn v l o).mp h2
      have : stp E v l.flip = some u := (stp_iff hf).mpr (by unfold Has; rw [if_neg hl2, Let.flip_flip]; exact hu)
      rw [h] at this
      cases this
/-! ### the numbers -/
structure Nm (kvs : List (Key × V)) (vs : List Nat) : Prop where
  at_ : ∀ v : Nat, valV kvs (.inl (v : Int)) = nV (pos vs v)
  len : kvs.length = vs.length
theorem Nm.one (v : Nat) : Nm [(.inl (v : Int), .int 0)] [v] := ⟨fun u => by
  by_cases h : v = u
  · subst h
    simp [valV, pos, nV]
  · have : ¬ ((v : Int) = (u : Int)) := fun e => h (Int.ofNat.inj e)
    simp [valV, pos, nV, h, this], rfl⟩
theorem Nm.add {kvs : List (Key × V)} {vs : List Nat} {v : Nat} (n : Nm kvs vs) (h : v ∉ vs) : Nm (putK kvs (.inl (v : Int)) (.int (vs.length : Int))) (vs ++ [v]) := by
  have h0 : valV kvs (.inl (v : Int)) = none := by rw [n.at_, pos_not h]; rfl
  refine ⟨fun u => ?_, ?_⟩
  · rw [valV_put, pos_snoc h]
    by_cases e : u = v
    · subst e
      rw [if_pos rfl, if_pos rfl]
      rfl
    · have hc : ¬ ((Sum.inl (u : Int) : Key) = Sum.inl (v : Int)) := fun c => e (Int.ofNat.inj (Sum.inl.inj c))
      rw [if_neg hc, if_neg e, n.at_]
  · rw [putK_new _ h0, List.length_append, List.length_append, n.len]
    rfl
theorem Nm.isSome {kvs : List (Key × V)} {vs : List Nat} (n : Nm kvs vs) (v : Nat) : (valV kvs (.inl (v : Int))).isSome = decide (v ∈ vs) := by
  rw [n.at_]
  by_cases h : v ∈ vs
  · obtain ⟨k, hk⟩ := pos_some h
    rw [hk, decide_eq_true h]
    rfl
  · rw [pos_not h, decide_eq_false h]
    rfl
/-! ### one step of the search -/
def grow (s : Fw.Act) (F : List (Nat × Word)) (v : Nat) (p : Word) (x : Let) : List (Nat × Word) :=
  match s v x with
  | none => F
  | some u => if u ∈ F.map (·.1) then F else F ++ [(u, p ++ [x])]
theorem grow_get {s : Fw.Act} {F : List (Nat × Word)} {v : Nat} {p : Word} {x : Let} {k : Nat} {a : Nat × Word} (h : F[k]? = some a) : (grow s F v p x)[k]? = some a := by
  unfold grow
  split
  · exact h
  · split
    · exact h
    · rw [List.getElem?_append_left (List.getElem?_eq_some_iff.mp h).1]
      exact h
theorem grow_len {s : Fw.Act} {F : List (Nat × Word)} {v : Nat} {p : Word} {x : Let} : F.length ≤ (grow s F v p x).length := by
  unfold grow
  split
  · exact Nat.le_refl _
  · split
    · exact Nat.le_refl _
    · rw [List.length_append]; omega
theorem grow_bfs {s : Fw.Act} {F : List (Nat × Word)} {v : Nat} {p : Word} {x : Let} {k i : Nat} (b : Bfs s F k i) (hk : F[k]? = some (v, p)) (hx : i ≤ x.idx) (hgap : ∀ y : Let, i ≤ y.idx → y.idx < x.idx → s v y = none) : Bfs s (grow s F v p x) k (x.idx + 1) := by
  unfold grow
  cases h : s v x with
  | none => exact b.keep hk hx hgap fun u hu => by rw [h] at hu; cases hu
  | some u =>
    by_cases hm : u ∈ F.map (·.1)
    · show Bfs s (if u ∈ F.map (·.1) then F else F ++ [(u, p ++ [x])]) k (x.idx + 1)
      rw [if_pos hm]
      exact b.keep hk hx hgap fun u' hu => by rw [h] at hu; cases hu; exact hm
    · show Bfs s (if u ∈ F.map (·.1) then F else F ++ [(u, p ++ [x])]) k (x.idx + 1)
      rw [if_neg hm]
      exact b.add hk hx hgap h hm
/-- letters ms in order, the t-th is the next one -/
def Lv (s : Fw.Act) (ms : List Let) (F : List (Nat × Word)) (k t : Nat) : Prop := ∃ i, Bfs s F k i ∧ (∀ y : Let, i ≤ y.idx → y.low ∈ ms → y.low ∈ ms.drop t) ∧ ∀ l ∈ ms.drop t, i ≤ l.idx
theorem low_idx (y : Let) : y.low.idx ≤ y.idx ∧ y.idx ≤ y.low.idx + 1 := by cases y <;> decide
theorem flip_idx {l : Let} (h : l.small = true) : l.flip.idx = l.idx + 1 := by cases l <;> first | rfl | (exact absurd h (by decide))
theorem small_gap {l m : Let} (h : l.small = true) (h2 : m.small = true) (h3 : l.idx < m.idx) : l.idx + 2 ≤ m.idx := by
  cases l <;> cases m <;> first | (exact absurd h (by decide)) | (exact absurd h2 (by decide)) | (exact absurd h3 (by decide)) | decide
section
variable {s : Fw.Act} {ms : List Let} {F : List (Nat × Word)} {k t : Nat} {v : Nat} {p : Word} {l : Let}
theorem Lv.start (b : Bfs s F k 0) : Lv s ms F k 0 := ⟨0, b, fun y _ h => by rw [List.drop_zero]; exact h, fun l _ => Nat.zero_le _⟩
theorem drop_get (h : ms[t]? = some l) : ms.drop t = l :: ms.drop (t + 1) := by
  have ht := (List.getElem?_eq_some_iff.mp h).1
  rw [List.drop_eq_getElem_cons ht]
  congr 1
  rw [List.getElem?_eq_getElem ht] at h
  exact Option.some.inj h
theorem Lv.one (L : Lv s ms F k t) (ho : ∀ v y u, s v y = some u → y.low ∈ ms) (hp : ms.Pairwise (fun a b => a.idx < b.idx)) (hl : ms[t]? = some l) (hk : F[k]? = some (v, p)) : Bfs s (grow s F v p l) k (l.idx + 1) := by
  obtain ⟨i, b, h1, h2⟩ := L
  rw [drop_get hl] at h1 h2
  refine grow_bfs b hk (h2 l (by simp)) fun y hy1 hy2 => ?_
  cases h : s v y with
  | none => rfl
  | some u =>
    have h3 := h1 y hy1 (ho v y u h)
    have h4 := low_idx y
    rcases List.mem_cons.mp h3 with e | e
    · rw [e] at h4; omega
    · have hd : (l :: ms.drop (t + 1)).Pairwise (fun a b => a.idx < b.idx) := by
        rw [← drop_get hl]
        exact hp.sublist (List.drop_sublist t ms)
      have := (List.pairwise_cons.mp hd).1 _ e
      omega
theorem Lv.two (b : Bfs s F k (l.idx + 1)) (hs : ∀ m ∈ ms, m.small = true) (hp : ms.Pairwise (fun a b => a.idx < b.idx)) (hl : ms[t]? = some l) (hk : F[k]? = some (v, p)) (hprev : ∀ y : Let, l.idx + 2 ≤ y.idx → y.low ∈ ms → y.low ∈ ms.drop t) :
    Lv s ms (grow s F v p l.flip) k (t + 1) := by
  have hls := hs l (List.mem_of_getElem? hl)
  have hfi := flip_idx hls
  have b2 := grow_bfs (x := l.flip) b hk (by omega) fun y hy1 hy2 => by omega
  have hd : (l :: ms.drop (t + 1)).Pairwise (fun a b => a.idx < b.idx) := by
    rw [← drop_get hl]
    exact hp.sublist (List.drop_sublist t ms)
  refine ⟨l.flip.idx + 1, b2, fun y hy hm => ?_, fun m hm => ?_⟩
  · have h3 := hprev y (by omega) hm
    rw [drop_get hl] at h3
    rcases List.mem_cons.mp h3 with e | e
    · have h4 := low_idx y
      rw [e] at h4
      omega
    · exact e
  · have := (List.pairwise_cons.mp hd).1 m hm
    have hms := hs m (List.mem_of_mem_drop hm)
    have := small_gap hls hms this
    omega
theorem Lv.prev (L : Lv s ms F k t) (hl : ms[t]? = some l) : ∀ y : Let, l.idx + 2 ≤ y.idx → y.low ∈ ms → y.low ∈ ms.drop t := by
  obtain ⟨i, b, h1, h2⟩ := L
  intro y hy hm
  refine h1 y ?_ hm
  have := h2 l (by rw [drop_get hl]; simp)
  omega
theorem Lv.next (L : Lv s ms F k ms.length) (ho : ∀ v y u, s v y = some u → y.low ∈ ms) (hk : F[k]? = some (v, p)) : Bfs s F (k + 1) 0 := by
  obtain ⟨i, b, h1, h2⟩ := L
  refine b.next hk fun y hy => ?_
  cases h : s v y with
  | none => rfl
  | some u =>
    have := h1 y hy (ho v y u h)
    rw [List.drop_length] at this
    simp at this
end
end FwK
end

section
set_option Elab.async false
set_option linter.all false
set_option maxRecDepth 100000
set_option maxHeartbeats 2000000
namespace FwK
open PySem PySem.Spec PyProof.Rows L2 Evl Fw FwR
section
variable {P : Program} {w : World} {K : PySem.W.Frag} {mg : Str → Option Value} {base : Heap}
theorem run_cb1 {σ : L2.St} {H : Hp} {ta : TE} {r : List V → Hp → VK → Prop} {Q : VK} (h : ta σ H fun x H1 => r [x] H1 Q) : tCB r (tCons ta tNil) σ H Q := h
theorem EvP.run {σ : L2.St} {H : Hp} {te : TE} {R : V → Hp → Prop} {Q : VK} (h : EvP te σ H R) (k : ∀ v H1, Ex H H1 → R v H1 → Q v H1) : te σ H Q := h H (Ex.refl H) Q k
theorem ep_sortDT {σ : L2.St} {H : Hp} {ta : TE} {d : Addr} {kvs : List (List Key × V)} (h : Ev ta σ H (.ref d)) (hd : H d = some (.dT kvs)) (hA : AlikeK (kvs.map (·.1))) (hz : kvs.length ≤ 100000) :
    EvP (tCB rSortDT (tCons ta tNil)) σ H (fun v H' => ∃ p cs, v = .ref p ∧ H' p = some (.lst (cs.map V.ref)) ∧ TupsAt H' cs (sortK (kvs.map (·.1)))) := fun H1 e1 Q q =>
  h H1 e1 _ fun H2 e2 => ⟨d, kvs, rfl, .inl (e2 _ _ (e1 _ _ hd)), hA, fun p cs np ht => q _ _ (e2.trans (Ex.new np)) ⟨p, cs, rfl, upd_same, pd_map ht fun b k hb => by rw [upd_ne (ne_of_none hb np)]; exact hb⟩⟩
/-- (n, tuple(xs)) -/
theorem ep_graph {K : PySem.W.Frag} {σ : L2.St} {H : Hp} {ta tb : TE} {n : Nat} {es : List Edge} (ha : Ev ta σ H (.int (n : Int))) (hb : EvP tb σ H (fun v H' => ∃ p cs, v = .ref p ∧ H' p = some (.lst (cs.map V.ref)) ∧ Egs H' cs es)) :
    EvP (tTup (tCons ta (tCons (tCB (rTupOf K) (tCons tb tNil)) tNil))) σ H (fun v H' => Gr H' v n es) := fun H1 e1 Q q =>
  ha H1 e1 _ fun H2 e2 => hb H2 (e1.trans e2) _ fun v H3 e3 ⟨p, cs, ev, hp, hE⟩ => ⟨p, cs.map V.ref, by rw [ev], .inl ⟨sq_of hp, fun l nl => ⟨sz_of (Nat.le_of_ble_eq_true rfl), fun g ng => q _ _ (((e2.trans e3).trans (Ex.new nl)).trans (Ex.new ng)) ⟨g, l, cs, rfl, upd_same, by rw [upd_ne (ne_of_none upd_same ng)]; exact upd_same, hE.keep ((Tk.new nl).trans (Tk.new ng))⟩⟩⟩⟩
/-- a list of edges that stands -/
def EL (H : Hp) (v : V) (E : List Edge) : Prop := ∃ a bs, v = .ref a ∧ H a = some (.lst (bs.map V.ref)) ∧ Egs H bs E
theorem EL.keep {H H' : Hp} (e : Ex H H') {v : V} {E : List Edge} (h : EL H v E) : EL H' v E := by
  obtain ⟨a, bs, ev, h1, h2⟩ := h
  exact ⟨a, bs, ev, e _ _ h1, h2.keep (Tk.of e)⟩
def iV (F : List (Nat × Word)) : List V := F.map fun vp => .int (vp.1 : Int)
/-- what stands in the search -/
structure Se (H0 : Hp) (dn o lo wd : Addr) (ms : List Let) (wv : List (List Key × V)) (H : Hp) (F : List (Nat × Word)) : Prop where
  ex : Ex H0 H
  num : ∃ kvs, H dn = some (.dK kvs) ∧ Nm kvs (F.map (·.1))
  fnd : H o = some (.lst (iV F))
  let_ : H lo = some (.lst (ms.map fun l => tx [l]))
  way : H wd = some (.dT wv)
theorem Se.keep {H0 H H' : Hp} {dn o lo wd : Addr} {ms : List Let} {wv : List (List Key × V)} {F : List (Nat × Word)} (s : Se H0 dn o lo wd ms wv H F) (e : Ex H H') : Se H0 dn o lo wd ms wv H' F := by
  obtain ⟨kvs, h1, h2⟩ := s.num
  exact ⟨s.ex.trans e, ⟨kvs, e _ _ h1, h2⟩, e _ _ s.fnd, e _ _ s.let_, e _ _ s.way⟩
abbrev spNumbered : Sp := spE (fun i : V × List Edge × Nat => [i.1]) (fun i H => EL H i.1 i.2.1 ∧ Smalls i.2.1 ∧ Folded i.2.1 ∧ i.2.1.length ≤ 5000 ∧ 0 < i.2.2 ∧ i.2.2 ≤ 20000 ∧ ∀ e ∈ i.2.1, e.1 < i.2.2 ∧ e.2.2 < i.2.2)
  (fun i v H' => ∃ (F : List (Nat × Word)) (k : Nat) (es : List Edge), Gr H' v F.length es ∧ Bfs (Fw.stp i.2.1) F k 0 ∧ F.length ≤ k ∧ Numd i.2.1 (F.map (·.1)) es ∧ es.Pairwise elt ∧ es.length ≤ i.2.1.length ∧ F.length ≤ i.2.2)
theorem ok_numbered (B : Bs mg) (F : Fx K mg "numbered" s_numbered pn_numbered) : Fd P w K mg base "numbered" pn_numbered 1 spNumbered := by
  refine F.fd sc_numbered (fun _ => rfl) fun i f cdv A outer s H Q hr hp q E => ?_
  refine ⟨_, (pss_cons (ps_asg (pe_disp (pps_cons pe_int pe_int pps_nil) (by rfl) (by rfl) (fun z => by cases z) (by decide)) (pg_name (i := 1) sc_numbered.nd rfl (Or.inr rfl)))
    (pss_cons (ps_asg (pe_lst (pa_cons pe_int pa_nil)) (pg_name (i := 2) sc_numbered.nd rfl (Or.inl rfl)))
    (pss_cons (ps_asg (pe_callB (call_sortedD rfl) (by rfl) B.z_sorted (by decide +kernel) (pa_cons (pe_dc (own := [("start", 5), ("letter", 6), ("end", 7)]) (g := (gTup K 3 (gCons (gName 5) (gCons (gName 6) (gCons (gName 7) gNil)))))  rfl sc_numbered.nd  (pi_list (pv 0)) (blkOk_by (N := nm_numbered) (sc := defScope s_numbered) (by decide +kernel)) (fun _ _ _ _ _ => (pg_tup rfl (pgs_cons (pg_name (i := 5) sc_numbered.nd rfl (Or.inl rfl)) (pgs_cons (pg_name (i := 6) sc_numbered.nd rfl (Or.inl rfl)) (pgs_cons (pg_name (i := 7) sc_numbered.nd rfl (Or.inl rfl)) pgs_nil))))) (fun _ _ _ _ _ => pts_nil) (fun _ _ _ _ _ => (pv 6)) (fun _ _ _ _ _ => pe_bl)) pa_nil)) (pg_name (i := 3) sc_numbered.nd rfl (Or.inl rfl)))
    (pss_cons (ps_asg (pe_dnewT) (pg_name (i := 4) sc_numbered.nd rfl (Or.inl rfl)))
    (pss_cons (ps_for PassesOwn.never rfl (pi_list (pv 0)) (pg_tup rfl (pgs_cons (pg_name (i := 5) sc_numbered.nd rfl (Or.inl rfl)) (pgs_cons (pg_name (i := 6) sc_numbered.nd rfl (Or.inl rfl)) (pgs_cons (pg_name (i := 7) sc_numbered.nd rfl (Or.inl rfl)) pgs_nil)))) (pss_cons (ps_dput (hu_of hr) (pv 4) (pe_tup (pa_cons (pv 5) (pa_cons (pv 6) (pa_cons pe_int pa_nil)))) (pv 7) rfl)
    (pss_one (ps_dput (hu_of hr) (pv 4) (pe_tup (pa_cons (pv 7) (pa_cons (pv 6) (pa_cons (pe_un un_neg pe_int) pa_nil)))) (pv 5) rfl))))
    (pss_cons (ps_asg pe_int (pg_name (i := 8) sc_numbered.nd rfl (Or.inl rfl)))
    (pss_cons (ps_while PassesOwn.never (pt_cmpR op_lt (pv 8) (pe_callB (r := Evl.rLenS K) call_len_seq (by rfl) B.z_len PySem.boot_len (pa_cons (pv 2) pa_nil)) (nomark _)) (pss_cons (ps_for PassesOwn.never rfl (pi_list (pv 3)) (pg_name (i := 6) sc_numbered.nd rfl (Or.inl rfl)) (pss_one (ps_for PassesOwn.never rfl (pi_tup (pe_tup (pa_cons pe_int (pa_cons (pe_un un_neg pe_int) pa_nil)))) (pg_name (i := 9) sc_numbered.nd rfl (Or.inl rfl)) (pss_cons (ps_asg (pe_dget2 (hu_of hr) (pv 4) (pe_tup (pa_cons (pe_ix (r := rIxL K) ix_list (pv 2) (pv 8) (fun _ _ => rfl)) (pa_cons (pv 6) (pa_cons (pv 9) pa_nil)))) pe_non ⟨rfl, rfl, rfl, rfl⟩) (pg_name (i := 10) sc_numbered.nd rfl (Or.inl rfl)))
    (pss_one (ps_if (PW.pt (pw_and (pt_cmp (pc_notN (pv 10)) rfl) (pw_and1 (pt_cmp (pc_dnotin (hu_of hr) (pv 10) (pv 1)) rfl)))) (pss_cons (ps_dput (hu_of hr) (pv 1) (pv 10) (pe_callB (r := Evl.rLenS K) call_len_seq (by rfl) B.z_len PySem.boot_len (pa_cons (pv 2) pa_nil)) rfl)
    (pss_one (ps_expr (pe_bmK K rfl (pe_bm PySem.F.plainAttrs_list PySem.F.slot_list_append PySem.F.type_list_append mt_append (pv 2) (pa_cons (pv 10) pa_nil)))))) pss_nil))))))
    (pss_one (ps_asg (pe_op op_add (pv 8) pe_int) (pg_name (i := 8) sc_numbered.nd rfl (Or.inl rfl))))))
    (pss_cons (ps_setDcT (i := 11) (own := [("start", 5), ("letter", 6), ("end", 7)]) (g := (gTup K 3 (gCons (gName 5) (gCons (gName 6) (gCons (gName 7) gNil))))) (hu_of hr) rfl sc_numbered.nd rfl rfl (sw_trueD rfl rfl rfl (by decide +kernel)) (pi_list (pv 0)) (blkOk_by (N := nm_numbered) (sc := defScope s_numbered) (by decide +kernel)) ⟨(fun _ _ _ _ _ => (pg_tup rfl (pgs_cons (pg_name (i := 5) sc_numbered.nd rfl (Or.inl rfl)) (pgs_cons (pg_name (i := 6) sc_numbered.nd rfl (Or.inl rfl)) (pgs_cons (pg_name (i := 7) sc_numbered.nd rfl (Or.inl rfl)) pgs_nil))))), (fun _ _ _ _ _ => (pts_one (pt_cmp (pc_din (hu_of hr) (pv 5) (pv 1)) rfl))), (fun _ _ _ _ _ => (pe_tup (pa_cons (pe_dget (hu_of hr) (pv 1) (pv 5) (fun _ _ => rfl)) (pa_cons (pv 6) (pa_cons (pe_dget (hu_of hr) (pv 1) (pv 7) (fun _ _ => rfl)) pa_nil))))), (fun _ _ _ _ _ => pe_bl)⟩)
    (pss_one (ps_ret (pe_tup (pa_cons (pe_callB (r := Evl.rLenS K) call_len_seq (by rfl) B.z_len PySem.boot_len (pa_cons (pv 2) pa_nil)) (pa_cons (pe_callTy (r := rTupOf K) call_tuple_of (by rfl) B.z_tuple (by decide +kernel) (pa_cons (pe_callB (call_sortDT rfl (h64 hr)) (by rfl) B.z_sorted (by decide +kernel) (pa_cons (pv 11) pa_nil)) pa_nil)) pa_nil))))))))))))), ?_⟩
  obtain ⟨v, E, N⟩ := i
  obtain ⟨⟨a, bs, ev, ha, hE⟩, hsm, hfo, hlen, hN0, hN, hlt⟩ := hp
  replace ev : v = .ref a := ev
  subst ev
  replace hE : Egs H bs E := hE
  replace hsm : Smalls E := hsm
  replace hfo : Folded E := hfo
  replace hlen : E.length ≤ 5000 := hlen
  replace hN : N ≤ 20000 := hN
  replace hN0 : 0 < N := hN0
  replace hlt : ∀ e ∈ E, e.1 < N ∧ e.2.2 < N := hlt
  replace q : ∀ v H', (Ex H H' ∧ ∃ (F : List (Nat × Word)) (k : Nat) (es : List Edge), Gr H' v F.length es ∧ Bfs (Fw.stp E) F k 0 ∧ F.length ≤ k ∧ Numd E (F.map (·.1)) es ∧ es.Pairwise elt ∧ es.length ≤ E.length ∧ F.length ≤ N) → Q v H' := q
  have hbl : bs.length = E.length := pd_len hE
  have hax : (bs.map V.ref).length ≤ 5000 := by rw [List.length_map]; omega
  have item : ∀ {j : Nat} {x : V}, (bs.map V.ref)[j]? = some x → ∃ b e, x = .ref b ∧ E[j]? = some e ∧ Eg H b e := fun {j x} hx => by
    rw [List.getElem?_map] at hx
    cases hb : bs[j]? with
    | none => rw [hb] at hx; cases hx
    | some b =>
      rw [hb] at hx
      cases hx
      obtain ⟨e, h1, h2⟩ := pd_get hE hb
      exact ⟨b, e, rfl, h1, h2⟩
  -- numbers = {0: 0}; found = [0]
  refine q_disp1 (k1 := .inl ((0 : Nat) : Int)) ev_c rfl ev_c fun dn H1 nn e1 hn => ?_
  refine q_asgL (el_lst (ea_cons ev_c ea_nil) (Nat.le_of_ble_eq_true rfl)) fun o H2 no e2 ho => ?_
  have e02 := e1.trans e2
  -- letters = sorted({..})
  refine q_asg' (run_cb1 (EvP.run (dcK_list (K := K) (a := a) (xs := bs.map V.ref) (fun i kvs => ∃ ls : List Let, kvs.map (·.1) = ls.map (fun l => Sum.inr (T [l])) ∧ ls.Nodup ∧ ∀ l, l ∈ ls ↔ ∃ e ∈ E.take i, e.2.1 = l) (ev_var rfl) (e02 _ _ ha) ⟨[], rfl, .nil, fun l => by simp⟩ (fun i kvs _ ⟨ls, h1, h2, h3⟩ => ?_) (fun i x H3 kvs Q2 hx e3 ⟨ls, h1, h2, h3⟩ k => ?_)) fun dv H3 e3 ⟨dp, kvs, edv, _, hdp, ls, h1, h2, h3⟩ => ?_))
  · have : ls.length ≤ 6 := by
      have := nodup_lt (n := 6) (l := ls.map Let.idx) (List.Pairwise.map _ (fun a b hab h => hab (Let.idx_inj h)) h2) fun x hx => by
        obtain ⟨y, _, rfl⟩ := List.mem_map.mp hx
        exact y.idx_lt
      simpa using this
    have h4 := congrArg List.length h1
    rw [List.length_map, List.length_map] at h4
    omega
  · obtain ⟨b, ⟨s0, l0, t0⟩, rfl, hxe, hEb⟩ := item hx
    refine g3 ((e02.trans e3) _ _ hEb) (k _ true rfl et_yes (fun _ => ⟨.inr (T [l0]), .bl true, ev_var rfl, fun _ _ => ev_c, ?_⟩) fun h => nomatch h)
    rw [keys_put, h1, List.take_add_one, hxe]
    have hm : (Sum.inr (T [l0]) : Key) ∈ ls.map (fun l => (Sum.inr (T [l]) : Key)) ↔ l0 ∈ ls := by
      rw [List.mem_map]
      exact ⟨fun ⟨y, hy, e⟩ => by rw [← List.head_eq_of_cons_eq (T_inj (Sum.inr.inj e))]; exact hy, fun h => ⟨l0, h, rfl⟩⟩
    by_cases hc : l0 ∈ ls
    · rw [if_pos (hm.mpr hc)]
      refine ⟨ls, rfl, h2, fun l => ?_⟩
      rw [h3]
      simp only [Option.toList_some, List.mem_append, List.mem_singleton]
      constructor
      · rintro ⟨e, he, hl⟩
        exact ⟨e, .inl he, hl⟩
      · rintro ⟨e, he | he, hl⟩
        · exact ⟨e, he, hl⟩
        · subst he
          subst hl
          exact (h3 l0).mp hc
    · rw [if_neg (fun c => hc (hm.mp c))]
      refine ⟨ls ++ [l0], by rw [List.map_append]; rfl, ?_, fun l => ?_⟩
      · rw [List.nodup_append]
        exact ⟨h2, by simp, fun x hx y hy e => hc (by rw [← List.mem_singleton.mp hy, ← e]; exact hx)⟩
      · rw [List.mem_append, h3]
        simp only [Option.toList_some, List.mem_append, List.mem_singleton]
        constructor
        · rintro (⟨e, he, hl⟩ | hl)
          · exact ⟨e, .inl he, hl⟩
          · exact ⟨_, .inr rfl, hl.symm⟩
        · rintro ⟨e, he | he, hl⟩
          · exact .inl ⟨e, he, hl⟩
          · subst he
            exact .inr hl.symm
  rw [List.length_map, hbl, List.take_length] at h3
  have hls : ∀ l ∈ ls, l.small = true := fun l hl => by
    obtain ⟨e, he, rfl⟩ := (h3 l).mp hl
    exact hsm e he
  have hls6 : ls.length ≤ 6 := by
    have := nodup_lt (n := 6) (l := ls.map Let.idx) (List.Pairwise.map _ (fun a b hab h => hab (Let.idx_inj h)) h2) fun x hx => by
      obtain ⟨y, _, rfl⟩ := List.mem_map.mp hx
      exact y.idx_lt
    simpa using this
  subst edv
  refine ⟨dp, kvs, ls.map fun l => T [l], rfl, .inl hdp, by rw [h1, List.map_map]; rfl, by rw [List.length_map]; omega, fun ys lo hperm hsort nlo => ?_⟩
  obtain ⟨ms, rfl, hms, hmn⟩ := perm_lets hperm h2
  have hmp := sorted_pw ms (fun l hl => hls l ((hms l).mp hl)) hmn hsort
  have hmsm : ∀ l ∈ ms, l.small = true := fun l hl => hls l ((hms l).mp hl)
  have eyl : (ms.map fun l => T [l]).map V.str = ms.map fun l => tx [l] := by rw [List.map_map]; rfl
  have e34 : Ex H3 (upd H3 lo (.lst ((ms.map fun l => T [l]).map V.str))) := Ex.new nlo
  have hlo : (upd H3 lo (.lst ((ms.map fun l => T [l]).map V.str))) lo = some (.lst (ms.map fun l => tx [l])) := by rw [upd_same, eyl]
  generalize upd H3 lo (.lst ((ms.map fun l => T [l]).map V.str)) = H4 at e34 hlo
  have e24 : Ex H2 H4 := e3.trans e34
  -- ways = {}
  refine q_newT fun wd H5 nwd e5 hwd => ?_
  have e25 := e24.trans e5
  have nlo' : H2 lo = none := fresh_back e3 nlo
  have nwd' : H2 wd = none := fresh_back e24 nwd
  refine q_forL (K := K) (a := a) (xs := bs.map V.ref) (ev_var rfl) (sq_of ((e02.trans e25) _ _ ha)) (fun i σ H6 => ∃ (y5 y6 y7 : Option V) (wv : List (List Key × V)), σ = [some (.ref a), some (.ref dn), some (.ref o), some (.ref lo), some (.ref wd), y5, y6, y7, none, none, none, none] ∧ Ex H4 H6 ∧ H6 wd = some (.dT wv) ∧ Wy wv (E.take i)) ?_ ?_ ?_ ?_
  · intro H6 e6
    exact ⟨none, none, none, [], rfl, e5.trans e6, e6 _ _ hwd, Wy.nil⟩
  · rintro i σ H6 hi ⟨y5, y6, y7, wv, rfl, e6, hw, hy⟩
    exact sq_of ((e02.trans (e24.trans e6)) _ _ ha)
  · rintro i x σ H6 hx ⟨y5, y6, y7, wv, rfl, e6, hw, hy⟩
    obtain ⟨b, ⟨s0, l0, t0⟩, rfl, hxe, hEb⟩ := item hx
    have hil : i < E.length := (List.getElem?_eq_some_iff.mp hxe).1
    refine g3 ((e02.trans (e24.trans e6)) _ _ hEb) ?_
    have hwl := hy.len
    rw [List.length_take] at hwl
    refine q_putT (k := wk s0 l0 1) (ev_var rfl) (ev_var rfl) (eu_3 (ev_var rfl) (ev_var rfl) ev_c) hw (by omega) fun H7 e7 => ?_
    have hw7 : H7 wd = some (.dT wv) := e7 _ _ hw
    refine s_putT (k := wk t0 l0 (-1)) (ev_var rfl) (ev_var rfl) (eu_3 (ev_var rfl) (ev_var rfl) (ev_un ev_c ru_neg)) upd_same (Nat.lt_of_le_of_lt (length_putK wv (wk s0 l0 1) _) (by omega)) fun H8 e8 => ⟨_, _, _, _, rfl, ?_, upd_same, ?_⟩
    · exact Ex.mut ((Ex.mut (e6.trans e7) nwd).trans e8) nwd
    · have et : E.take (i + 1) = E.take i ++ [(s0, l0, t0)] := by rw [List.take_add_one, hxe]; rfl
      rw [et]
      refine hy.step fun e1 he1 e2 he2 hl => ?_
      rw [← et] at he1 he2
      exact hfo e1 (List.mem_of_mem_take he1) e2 (List.mem_of_mem_take he2) hl
  rintro σ H6 ⟨y5, y6, y7, wv, rfl, e46, hw, hy⟩
  rw [List.length_map, hbl, List.take_length] at hy
  have e26 := e24.trans e46
  have ho6 : Ex H4 H6 := e46
  -- the search
  have hgo : ∀ v y u, Fw.stp E v y = some u → y.low ∈ ms := fun v y u h => by
    have h1 := (stp_iff hfo).mp h
    unfold Has at h1
    rw [hms, h3]
    split at h1
    · rename_i hs
      exact ⟨_, h1, (Let.low_of_small hs).symm⟩
    · rename_i hs
      exact ⟨_, h1, (Let.low_of_big (by simpa using hs)).symm⟩
  have hb : ∀ v x u, Fw.stp E v x = some u → u < N := fun v x u h => by
    have h1 := (stp_iff hfo).mp h
    unfold Has at h1
    split at h1
    · exact (hlt _ h1).2
    · exact (hlt _ h1).1
  have e06 := e02.trans e26
  refine q_asg ev_c fun H7 e7 => ?_
  have dno : dn ≠ o := ne_of (e2 _ _ hn) ho (by intro z; cases z)
  have dol : o ≠ lo := ne_of_none ho nlo'
  have dow : o ≠ wd := ne_of_none ho nwd'
  have dnl : dn ≠ lo := ne_of_none (e2 _ _ hn) nlo'
  have dnw : dn ≠ wd := ne_of_none (e2 _ _ hn) nwd'
  have S0 : Se H dn o lo wd ms wv H7 [(0, [])] := ⟨e06.trans e7, ⟨_, e7 _ _ (e26 _ _ (e2 _ _ hn)), Nm.one 0⟩, e7 _ _ (e26 _ _ ho), e7 _ _ (e46 _ _ hlo), e7 _ _ hw⟩
  refine q_while (fun m σ H8 => ∃ (y5 y6 y7 y9 y10 : Option V) (F : List (Nat × Word)) (k : Nat), m = N + 1 - k ∧ σ = [some (.ref a), some (.ref dn), some (.ref o), some (.ref lo), some (.ref wd), y5, y6, y7, some (.int (k : Int)), y9, y10, none] ∧ Se H dn o lo wd ms wv H8 F ∧ Bfs (Fw.stp E) F k 0 ∧ k ≤ F.length) (N + 1)
    ⟨y5, y6, y7, none, none, [(0, [])], 0, rfl, rfl, S0, Bfs.init _, Nat.zero_le _⟩ ?_
  rintro m σ H8 ⟨y5, y6, y7, y9, y10, F, k, rfl, rfl, S8, B8, hkF⟩
  have hFN := B8.len hN0 hb
  refine ⟨decide ((k : Int) < (F.length : Int)), et_test (ev_op (ev_var rfl) (ev_is (ev_lenL (ev_var rfl) S8.fnd) (by unfold iV; rw [List.length_map])) rv_I0), fun hbt H9 e9 => ?_, fun hbf H9 e9 => ?_⟩
  · have hk : k < F.length := Int.ofNat_lt.mp (of_decide_eq_true hbt)
    obtain ⟨⟨v0, p0⟩, hF0⟩ : ∃ z, F[k]? = some z := ⟨_, List.getElem?_eq_getElem hk⟩
    refine ⟨fun σ2 H10 => ∃ (y5 y6 y7 y9 y10 : Option V) (F : List (Nat × Word)), σ2 = [some (.ref a), some (.ref dn), some (.ref o), some (.ref lo), some (.ref wd), y5, y6, y7, some (.int ((k + 1 : Nat) : Int)), y9, y10, none] ∧ Se H dn o lo wd ms wv H10 F ∧ Bfs (Fw.stp E) F (k + 1) 0 ∧ k + 1 ≤ F.length,
      fun σ2 H10 ⟨y5, y6, y7, y9, y10, F2, h1, h2, h3, h4⟩ => ⟨N + 1 - (k + 1), by have := h3.len hN0 hb; omega, y5, y6, y7, y9, y10, F2, k + 1, rfl, h1, h2, h3, h4⟩, ?_⟩
    refine q_seq (s_forL (K := K) (a := lo) (xs := ms.map fun l => tx [l]) (ev_var rfl) (sq_of (e9 _ _ S8.let_)) (fun t σ H10 => ∃ (y5 y6 y7 y9 y10 : Option V) (F : List (Nat × Word)), σ = [some (.ref a), some (.ref dn), some (.ref o), some (.ref lo), some (.ref wd), y5, y6, y7, some (.int (k : Int)), y9, y10, none] ∧ Se H dn o lo wd ms wv H10 F ∧ Lv (Fw.stp E) ms F k t ∧ F[k]? = some (v0, p0)) ?_ ?_ ?_ ?_)
    · intro H10 e10
      exact ⟨_, _, _, _, _, F, rfl, S8.keep (e9.trans e10), Lv.start B8, hF0⟩
    · rintro t σ H10 ht ⟨y5, y6, y7, y9, y10, F2, rfl, S10, L10, hk10⟩
      exact sq_of S10.let_
    · rintro t x σ H10 hx ⟨y5, y6, y7, y9, y10, F2, rfl, S10, L10, hk10⟩
      rw [List.getElem?_map] at hx
      cases hl : ms[t]? with
      | none => rw [hl] at hx; cases hx
      | some l =>
      rw [hl] at hx
      cases hx
      have hls := hmsm l (List.mem_of_getElem? hl)
      have hprev := L10.prev hl
      -- one sign
      have turn : ∀ (H11 : Hp) (F3 : List (Nat × Word)) (sg : Int) (x : Let) (y5 y7 y10 : Option V) (D0 : Ends), Se H dn o lo wd ms wv H11 F3 → F3[k]? = some (v0, p0) → F3.length ≤ N → valV wv (wk v0 l sg) = nV (Fw.stp E v0 x) →
          (∀ H12 y10, Tk H11 H12 → Se H dn o lo wd ms wv H12 (grow (Fw.stp E) F3 v0 p0 x) → D0.nx [some (.ref a), some (.ref dn), some (.ref o), some (.ref lo), some (.ref wd), y5, some (tx [l]), y7, some (.int (k : Int)), some (.int sg), y10, none] H12) →
          tSeq (tAsg (tDGet2 (tVar 4) (tTup (tCons (tOp (rIxL K) (tVar 2) (tVar 8)) (tCons (tVar 6) (tCons (tVar 9) tNil)))) (tC .non)) (gName 10))
            (tIfS (tAnd (tB (tNotN (tVar 10))) (tB (tDNotIn (tVar 10) (tVar 1)))) (tSeq (sDPut (tVar 1) (tVar 10) (tCB (Evl.rLenS K) (tCons (tVar 2) tNil))) (tDrop (tBM K "list" rAppend (tVar 2) (tCons (tVar 10) tNil)))) tNext)
            D0 [some (.ref a), some (.ref dn), some (.ref o), some (.ref lo), some (.ref wd), y5, some (tx [l]), y7, some (.int (k : Int)), some (.int sg), y10, none] H11 := fun H11 F3 sg x y5 y7 y10 D0 S11 hk11 hFl hval hN1 => by
        obtain ⟨kvs, hkv, hnm⟩ := S11.num
        refine q_asg (ev_get2T (k := wk v0 l sg) (ev_var rfl) (eu_3 (ev_ixl (j := k) (ev_var rfl) (ev_var rfl) S11.fnd (by unfold iV; rw [List.getElem?_map, hk11]; rfl)) (ev_var rfl) (ev_var rfl)) ev_c S11.way) fun H12 e12 => ?_
        have S12 := S11.keep e12
        rw [hval]
        cases hst : Fw.stp E v0 x with
        | none =>
          refine s_when (b := false) (et_andF (et_B (ev_is (ev_notN (ev_var rfl)) rfl))) (fun h => absurd h (by decide)) fun _ H13 e13 => hN1 H13 _ (Tk.of (e12.trans e13)) ?_
          have : grow (Fw.stp E) F3 v0 p0 x = F3 := by unfold grow; rw [hst]
          rw [this]
          exact S12.keep e13
        | some u =>
          have hin : Ev (tDNotIn (tVar 10) (tVar 1)) [some (.ref a), some (.ref dn), some (.ref o), some (.ref lo), some (.ref wd), y5, some (tx [l]), y7, some (.int (k : Int)), some (.int sg), some (.int (u : Int)), none] H12 (.bl (!decide (u ∈ F3.map (·.1)))) := by
            rw [← hnm.isSome]
            exact ev_ninK (k1 := .inl (u : Int)) (ev_var rfl) (ev_var rfl) rfl (e12 _ _ hkv)
          refine s_when (et_andT (et_B (ev_is (ev_notN (ev_var rfl)) rfl)) (et_B hin)) (fun hb1 H13 e13 => ?_) fun hb1 H13 e13 => ?_
          · have hu : u ∉ F3.map (·.1) := by simpa using hb1
            have hg : grow (Fw.stp E) F3 v0 p0 x = F3 ++ [(u, p0 ++ [x])] := by
              unfold grow
              rw [hst]
              show (if u ∈ F3.map (·.1) then F3 else _) = _
              rw [if_neg hu]
            have S13 := S12.keep e13
            refine q_putK (k1 := .inl (u : Int)) (v := .int ((F3.map (·.1)).length : Int)) (ev_is (ev_lenL (ev_var rfl) S13.fnd) (by unfold iV; rw [List.length_map, List.length_map])) (ev_var rfl) (ev_var rfl) rfl (e13 _ _ (e12 _ _ hkv)) (by rw [hnm.len, List.length_map]; omega) fun H14 e14 => ?_
            have S14 := S13.keep e14
            have ho15 : (upd H14 dn (.dK (putK kvs (.inl (u : Int)) (.int ((F3.map (·.1)).length : Int))))) o = some (.lst (iV F3)) := by rw [upd_ne dno.symm]; exact S14.fnd
            refine s_app ho15 (ev_var rfl) (ev_var rfl) (by unfold iV; rw [List.length_map]; omega) fun H16 e16 => hN1 _ _ ((((Tk.of (e12.trans (e13.trans e14))).trans (Tk.updk (e14 _ _ (e13 _ _ (e12 _ _ hkv))))).trans (Tk.of e16)).trans (Tk.updl (e16 _ _ ho15))) ?_
            rw [hg]
            have x15 : Ex H (upd H14 dn (.dK (putK kvs (.inl (u : Int)) (.int ((F3.map (·.1)).length : Int))))) := Ex.mut S14.ex nn
            refine ⟨Ex.mut (x15.trans e16) (fresh_back e1 no), ⟨_, by rw [upd_ne dno]; exact e16 _ _ upd_same, ?_⟩, by rw [upd_same]; unfold iV; rw [List.map_append]; rfl, ?_, ?_⟩
            · rw [List.map_append]
              exact hnm.add hu
            · rw [upd_ne dol.symm]
              exact e16 _ _ (by rw [upd_ne dnl.symm]; exact S14.let_)
            · rw [upd_ne dow.symm]
              exact e16 _ _ (by rw [upd_ne dnw.symm]; exact S14.way)
          · have hu : u ∈ F3.map (·.1) := by simpa using hb1
            have hg : grow (Fw.stp E) F3 v0 p0 x = F3 := by
              unfold grow
              rw [hst]
              show (if u ∈ F3.map (·.1) then F3 else _) = _
              rw [if_pos hu]
            refine hN1 H13 _ (Tk.of (e12.trans e13)) ?_
            rw [hg]
            exact S12.keep e13
      -- for sign in (1, -1)
      refine s_forNT (K := K) (g := gName 9) (xs := [.int 1, .int (-1)]) (eu_2 ev_c (ev_un ev_c ru_neg)) (fun p j σ H11 => ∃ (y5 y7 y9 y10 : Option V) (F3 : List (Nat × Word)), σ = [some (.ref a), some (.ref dn), some (.ref o), some (.ref lo), some (.ref wd), y5, some (tx [l]), y7, some (.int (k : Int)), y9, y10, none] ∧ Se H dn o lo wd ms wv H11 F3 ∧ H11 p = some (.tup [.int 1, .int (-1)]) ∧ F3[k]? = some (v0, p0) ∧
        ((j = 0 ∧ Lv (Fw.stp E) ms F3 k t) ∨ (j = 1 ∧ Bfs (Fw.stp E) F3 k (l.idx + 1)) ∨ (j = 2 ∧ Lv (Fw.stp E) ms F3 k (t + 1)))) ?_ ?_ ?_ ?_
      · intro p H11 np e11 hp
        exact ⟨_, _, _, _, F2, rfl, S10.keep e11, hp, hk10, .inl ⟨rfl, L10⟩⟩
      · rintro p j σ H11 hj ⟨y5, y7, y9, y10, F3, rfl, S11, hp, hk11, _⟩
        exact hp
      · rintro p j x σ H11 hx ⟨y5, y7, y9, y10, F3, rfl, S11, hp, hk11, hc⟩
        rcases hc with ⟨rfl, L⟩ | ⟨rfl, Bb⟩ | ⟨rfl, _⟩
        · cases hx
          refine turn H11 F3 1 l _ _ _ _ S11 hk11 ?_ (hy.atUp hfo hls) fun H12 y10 T12 S12 => ⟨_, _, _, _, _, rfl, S12, T12 _ _ hp, grow_get hk11, .inr (.inl ⟨rfl, L.one hgo hmp hl hk11⟩)⟩
          obtain ⟨i, b, _⟩ := L
          exact b.len hN0 hb
        · cases hx
          refine turn H11 F3 (-1) l.flip _ _ _ _ S11 hk11 (Bb.len hN0 hb) (hy.atDn hfo hls) fun H12 y10 T12 S12 => ⟨_, _, _, _, _, rfl, S12, T12 _ _ hp, grow_get hk11, .inr (.inr ⟨rfl, Lv.two Bb hmsm hmp hl hk11 hprev⟩)⟩
        · cases hx
      · rintro p σ H11 ⟨y5, y7, y9, y10, F3, rfl, S11, hp, hk11, hc⟩
        rcases hc with ⟨h, _⟩ | ⟨h, _⟩ | ⟨h, L⟩
        · cases h
        · cases h
        · exact ⟨_, _, _, _, _, F3, rfl, S11, L, hk11⟩
    · rintro σ H10 ⟨y5, y6, y7, y9, y10, F2, rfl, S10, L10, hk10⟩
      rw [List.length_map] at L10
      refine s_asg (ev_is (ev_op (ev_var rfl) ev_c rv_I0) rfl) fun H11 e11 => ⟨_, _, _, _, _, F2, rfl, S10.keep e11, L10.next hgo hk10, ?_⟩
      have := (List.getElem?_eq_some_iff.mp hk10).1
      omega
  · have hk : F.length ≤ k := by
      have := of_decide_eq_false hbf
      omega
    have S9 := S8.keep e9
    obtain ⟨kvs, hkv, hnm⟩ := S9.num
    have hclosed : ∀ s0 l0 t0, (s0, l0, t0) ∈ E → s0 ∈ F.map (·.1) → t0 ∈ F.map (·.1) := fun s0 l0 t0 hin hs0 => by
      obtain ⟨⟨s1, p1⟩, h1, h2⟩ := List.mem_map.mp hs0
      have h2' : s1 = s0 := h2
      subst h2'
      obtain ⟨j, hj⟩ := List.getElem?_of_mem h1
      have hjl := (List.getElem?_eq_some_iff.mp hj).1
      have hst : Fw.stp E s1 l0 = some t0 := (stp_iff hfo).mpr (by unfold Has; rw [if_pos (show l0.small = true from hsm _ hin)]; exact hin)
      obtain ⟨qq, hq, _⟩ := B8.done j s1 p1 l0 t0 hj (.inl (by omega)) hst
      exact List.mem_map.mpr ⟨_, hq, rfl⟩
    -- rows
    refine q_asgP (dcT_list (K := K) (a := a) (xs := bs.map V.ref) (fun i kvs2 => ∃ es : List Edge, kvs2.map (·.1) = es.map ek ∧ es.Nodup ∧ (∀ i1 l j1, (i1, l, j1) ∈ es ↔ ∃ a1 b1, pos (F.map (·.1)) a1 = some i1 ∧ pos (F.map (·.1)) b1 = some j1 ∧ (a1, l, b1) ∈ E.take i) ∧ es.length ≤ i) (ev_var rfl) (S9.ex _ _ ha) ⟨[], rfl, .nil, fun i1 l j1 => by simp, Nat.le_refl _⟩ (fun i kvs2 hi ⟨es, h1, _, _, h4⟩ => by
      have := congrArg List.length h1
      rw [List.length_map, List.length_map] at this
      omega) fun i x H10 kvs2 Q2 hx e10 ⟨es, h1, h2, h3, h4⟩ kk => ?_) fun rv H10 e10 ⟨rp, rkvs, erv, _, hrp, es, h1, h2, h3, h4⟩ => ?_
    · obtain ⟨b, ⟨s0, l0, t0⟩, rfl, hxe, hEb⟩ := item hx
      have hin : (s0, l0, t0) ∈ E := List.mem_of_getElem? hxe
      refine g3 (e10 _ _ (S9.ex _ _ hEb)) (kk _ (decide (s0 ∈ F.map (·.1))) rfl (et_B (by rw [← hnm.isSome]; exact ev_inK (k1 := .inl (s0 : Int)) (ev_var rfl) (ev_var rfl) rfl (e10 _ _ hkv))) (fun hb => ?_) fun hb => ?_)
      · have hs0 := of_decide_eq_true hb
        obtain ⟨i1, hi1⟩ := pos_some hs0
        obtain ⟨j1, hj1⟩ := pos_some (hclosed _ _ _ hin hs0)
        refine ⟨ek (i1, l0, j1), .bl true, eu_3 (ev_getK (k1 := .inl (s0 : Int)) (ev_var rfl) (ev_var rfl) rfl (e10 _ _ hkv) (by rw [hnm.at_, hi1]; rfl)) (ev_var rfl) (ev_getK (k1 := .inl (t0 : Int)) (ev_var rfl) (ev_var rfl) rfl (e10 _ _ hkv) (by rw [hnm.at_, hj1]; rfl)), fun _ _ => ev_c, ?_⟩
        have hnew : ∀ i2 l j2, (∃ a1 b1, pos (F.map (·.1)) a1 = some i2 ∧ pos (F.map (·.1)) b1 = some j2 ∧ (a1, l, b1) ∈ E.take (i + 1)) ↔ ((i2, l, j2) ∈ es ∨ (i2, l, j2) = (i1, l0, j1)) := fun i2 l j2 => by
          rw [List.take_add_one, hxe, h3]
          simp only [Option.toList_some, List.mem_append, List.mem_singleton]
          constructor
          · rintro ⟨a1, b1, c1, c2, c3 | c3⟩
            · exact .inl ⟨a1, b1, c1, c2, c3⟩
            · injection c3 with c4 c5
              injection c5 with c6 c7
              subst c4 c6 c7
              rw [hi1] at c1
              rw [hj1] at c2
              cases c1
              cases c2
              exact .inr rfl
          · rintro (⟨a1, b1, c1, c2, c3⟩ | c)
            · exact ⟨a1, b1, c1, c2, .inl c3⟩
            · injection c with c4 c5
              injection c5 with c6 c7
              subst c4 c6 c7
              exact ⟨s0, t0, hi1, hj1, .inr rfl⟩
        rw [keys_put, h1]
        have hm : ek (i1, l0, j1) ∈ es.map ek ↔ (i1, l0, j1) ∈ es := by
          rw [List.mem_map]
          exact ⟨fun ⟨y, hy, e⟩ => by rw [← ek_inj e]; exact hy, fun h => ⟨_, h, rfl⟩⟩
        by_cases hc : (i1, l0, j1) ∈ es
        · rw [if_pos (hm.mpr hc)]
          refine ⟨es, rfl, h2, fun i2 l j2 => ?_, by omega⟩
          rw [hnew]
          exact ⟨fun h => .inl h, fun h => h.elim id fun e => by rw [e]; exact hc⟩
        · rw [if_neg (fun c => hc (hm.mp c))]
          refine ⟨es ++ [(i1, l0, j1)], by rw [List.map_append]; rfl, ?_, fun i2 l j2 => ?_, by rw [List.length_append]; show es.length + 1 ≤ i + 1; omega⟩
          · rw [List.nodup_append]
            exact ⟨h2, by simp, fun x hx y hy e => hc (by rw [← List.mem_singleton.mp hy, ← e]; exact hx)⟩
          · rw [List.mem_append, List.mem_singleton, hnew]
      · have hs0 := of_decide_eq_false hb
        refine ⟨es, h1, h2, fun i2 l j2 => ?_, by omega⟩
        rw [h3, List.take_add_one, hxe]
        simp only [Option.toList_some, List.mem_append, List.mem_singleton]
        constructor
        · rintro ⟨a1, b1, c1, c2, c3⟩
          exact ⟨a1, b1, c1, c2, .inl c3⟩
        · rintro ⟨a1, b1, c1, c2, c3 | c3⟩
          · exact ⟨a1, b1, c1, c2, c3⟩
          · injection c3 with c4 c5
            subst c4
            exact absurd (List.mem_of_getElem? (pos_at c1)) hs0
    subst erv
    rw [List.length_map, hbl, List.take_length] at h3
    rw [List.length_map, hbl] at h4
    have hsm2 : Smalls es := fun ⟨i1, l, j1⟩ he => by
      obtain ⟨a1, b1, _, _, c3⟩ := (h3 i1 l j1).mp he
      show l.small = true
      exact hsm _ c3
    obtain ⟨fs, hfs, hmem, hpw, hfl⟩ := sort_ek hsm2 h2
    refine s_retP (ep_graph (K := K) (es := fs) (ev_is (ev_lenL (ev_var rfl) (e10 _ _ S9.fnd)) (by unfold iV; rw [List.length_map])) (EvP.imp (ep_sortDT (kvs := rkvs) (ev_var rfl) hrp (by rw [h1]; exact alikeK_ek es) (by have := congrArg List.length h1; rw [List.length_map, List.length_map] at this; omega)) fun v H11 e11 ⟨p, cs, ev, hp, ht⟩ => ⟨p, cs, ev, hp, Egs.of_tups (by rw [← hfs, ← h1]; exact ht)⟩)) fun v H11 e11 hg => q _ _ ⟨(S9.ex.trans e10).trans e11, F, k, fs, hg, B8, hk, ⟨fun i1 l j1 => ?_⟩, hpw, by omega, hFN⟩
    rw [hmem, h3]
    constructor
    · rintro ⟨a1, b1, c1, c2, c3⟩
      exact ⟨a1, b1, pos_at c1, pos_at c2, c3⟩
    · rintro ⟨a1, b1, c1, c2, c3⟩
      exact ⟨a1, b1, pos_of B8.nd c1, pos_of B8.nd c2, c3⟩
end
end FwK
end

section
set_option Elab.async false
set_option linter.all false
set_option maxRecDepth 100000
set_option maxHeartbeats 2000000
namespace FwK
open PySem PySem.Spec PyProof.Rows L2 Evl Fw FwR
section
variable {P : Program} {w : World} {K : PySem.W.Frag} {mg : Str → Option Value} {base : Heap} {C : Addr}
def rtE (par : List (Option Nat)) (e : Edge) : Edge := (rt par e.1, e.2.1, rt par e.2.2)
theorem edges_of {H0 H' : Hp} {E : List Edge} {f : Edge → Edge} {v : V} (r : LcR H0 E.length (fun _ => true) (fun j v H' => ∃ (b : Addr) (e : Edge), v = .ref b ∧ E[j]? = some e ∧ Eg H' b (f e)) v H') : EL H' v (E.map f) := by
  obtain ⟨p, ys, ev, _, hp, hpd⟩ := r
  rw [range_all] at hpd
  have key : ∀ (ys : List V) (js : List Nat), Paired (fun j v => ∃ (b : Addr) (e : Edge), v = .ref b ∧ E[j]? = some e ∧ Eg H' b (f e)) js ys → ∃ cs : List Addr, ys = cs.map V.ref ∧ ∃ es : List Edge, js.map (fun j => E[j]?) = es.map some ∧ Egs H' cs (es.map f) := by
    intro ys js h
    induction h with
    | nil => exact ⟨[], rfl, [], rfl, .nil⟩
    | cons h t ih =>
      obtain ⟨b, e, h1, h2, h3⟩ := h
      obtain ⟨cs, c1, es, c2, c3⟩ := ih
      exact ⟨b :: cs, by rw [h1, c1]; rfl, e :: es, by rw [List.map_cons, h2, c2]; rfl, .cons h3 c3⟩
  obtain ⟨cs, c1, es, c2, c3⟩ := key ys _ hpd
  have hes : es = E := by
    apply List.ext_getElem?
    intro j
    have h1 := congrArg (fun l => l[j]?) c2
    simp only [List.getElem?_map] at h1
    by_cases hj : j < E.length
    · rw [List.getElem?_range hj] at h1
      cases h2 : es[j]? with
      | none => rw [h2] at h1; cases h1
      | some e =>
        rw [h2] at h1
        have : some E[j]? = some (some e) := h1
        exact (Option.some.inj this).symm
    · rw [List.getElem?_eq_none (by rw [List.length_range]; omega)] at h1
      cases h2 : es[j]? with
      | none => exact (List.getElem?_eq_none (by omega)).symm
      | some e => rw [h2] at h1; cases h1
  subst hes
  exact ⟨p, cs, ev, by rw [hp, c1], c3⟩
/-- a graph of a family -/
def GrOf (H : Hp) (v : V) (L : Word → Prop) : Prop := ∃ n es, Gr H v n es ∧ Canon n es L ∧ n ≤ 33 ∧ es.length ≤ 33
abbrev spFold : Sp := spE (fun i : V × Nat × List Word => [.int (i.2.1 : Int), i.1]) (fun i H => (∃ a, i.1 = .ref a ∧ H a = some (.tup (i.2.2.map tx))) ∧ i.2.2.length ≤ 4 ∧ ∀ u ∈ i.2.2, u.length ≤ 8)
  (fun i v H' => ∃ n es, Gr H' v n es ∧ Canon n es (Gen i.2.2) ∧ n ≤ 33 ∧ es.length ≤ 33)
theorem ok_fold (B : Bs mg) (T : Cf K C) (F : Fx K mg "fold" s_fold pn_fold) (g_Folding_init : Id P w K mg base C "Folding" pn_Folding_init 7 (spInit C)) (g_Folding_root : Md P w K mg base C "root" pn_Folding_root 1 (spRoot C)) (g_numbered : Fd P w K mg base "numbered" pn_numbered 1 spNumbered) :
    Fd P w K mg base "fold" pn_fold 9 spFold := by
  refine F.fd sc_fold (fun _ => rfl) fun i f cdv A outer s H Q hr hp q E => ?_
  refine ⟨_, (pss_cons (ps_asg (pe_fmake g_Folding_init (hr.mono (by decide)) (by rfl) (pa_cons (pv 1) pa_nil)) (pg_name (i := 2) sc_fold.nd rfl (Or.inr rfl)))
    (pss_one (ps_ret (pe_fd g_numbered (hr.mono (by decide)) (by rfl) (pa_cons (pe_lc (own := [("start", 3), ("letter", 4), ("end", 5)]) (g := (gTup K 3 (gCons (gName 3) (gCons (gName 4) (gCons (gName 5) gNil))))) rfl sc_fold.nd  (pi_list (pe_fldK K rfl (pe_fld (pv 2) rfl))) (blkOk_by (N := nm_fold) (sc := defScope s_fold) (by decide +kernel)) (fun _ _ _ _ _ => (pg_tup rfl (pgs_cons (pg_name (i := 3) sc_fold.nd rfl (Or.inl rfl)) (pgs_cons (pg_name (i := 4) sc_fold.nd rfl (Or.inl rfl)) (pgs_cons (pg_name (i := 5) sc_fold.nd rfl (Or.inl rfl)) pgs_nil))))) (fun _ _ _ _ _ => pts_nil) (fun _ _ _ _ _ => (pe_tup (pa_cons (pe_fm (pv 2) g_Folding_root (hr.mono (by decide)) (pa_cons (pv 3) pa_nil)) (pa_cons (pv 4) (pa_cons (pe_fm (pv 2) g_Folding_root (hr.mono (by decide)) (pa_cons (pv 5) pa_nil)) pa_nil)))))) pa_nil))))), ?_⟩
  obtain ⟨wv, r, ws⟩ := i
  obtain ⟨⟨a, ea, ha⟩, h4, h8⟩ := hp
  replace ea : wv = .ref a := ea
  subst ea
  replace ha : H a = some (.tup (ws.map tx)) := ha
  replace q : ∀ v H', (Ex H H' ∧ ∃ n es, Gr H' v n es ∧ Canon n es (Gen ws) ∧ n ≤ 33 ∧ es.length ≤ 33) → Q v H' := q
  refine q_asg' ((ea_cons (ev_var rfl) ea_nil) H (Ex.refl _) _ fun H1 e1 => fun x dx nx ndx nex => ?_)
  have e2 : Ex H (upd (upd H1 dx (.own x)) x (.ins C dx [])) := fun b o hb => by
    have hb1 := e1 b o hb
    rw [upd_ne (ne_of_none hb1 nx), upd_ne (ne_of_none hb1 ndx)]
    exact hb1
  refine ⟨(x, dx, .ref a, ws), rfl, ⟨upd_same, ⟨a, rfl, e2 _ _ ha⟩, h4, h8⟩, ?_⟩
  rintro v H2 ⟨hv, k2, X, pre, bs, E, par, hX, F0, I0, ok0, hpre, hE⟩
  refine ⟨hv, ?_⟩
  replace hX : X.x = x := hX
  replace F0 : Fo C X H2 pre bs E par := F0
  replace I0 : FI ws (ws.map red) pre E par 0 := I0
  have e02 : Ex H H2 := fun b o hb => k2 b o (e2 b o hb) (ne_of_none (e1 b o hb) nx)
  have hlen := F0.len
  obtain ⟨d1, d2, d3, d4⟩ := I0.done ok0 rfl
  have hbl := pd_len F0.hE
  -- the edges by their roots
  refine s_retP (ep_fdP (epa_cons (R := fun v H' => EL H' v (E.map (rtE par))) (EvP.imp (ep_lcLst (K := K) (a := X.ae) (xs := bs.map V.ref) (fun _ => true) (fun j v H' => ∃ (b : Addr) (e : Edge), v = .ref b ∧ E[j]? = some e ∧ Eg H' b (rtE par e)) (fun _ _ _ _ k r => by
    obtain ⟨b, e, h1, h2, h3⟩ := r
    exact ⟨b, e, h1, h2, h3.keep k⟩) (F0.ee T (ev_var (by rw [hX]; rfl))) F0.he (by rw [List.length_map]; omega) fun j y H3 Q2 hy e3 kk => ?_) fun v H3 e3 r => ?_) (fun _ _ _ e r => r.keep e) epa_nil) fun vs H3 e3 hvs => ?_) fun v H3 e3 r => q _ _ ⟨e02.trans e3, r⟩
  · rw [List.getElem?_map] at hy
    cases hb : bs[j]? with
    | none => rw [hb] at hy; cases hy
    | some b =>
    rw [hb] at hy
    cases hy
    obtain ⟨⟨s0, l0, t0⟩, hej, hEb⟩ := pd_get F0.hE hb
    have hlt := I0.lt _ (List.mem_of_getElem? hej)
    rw [← hlen] at hlt
    have F3 := F0.keep e3
    refine g3 (e3 _ _ hEb) (kk _ rfl et_yes fun _ => EvP.imp (EvP.ofU (eu_3 (F3.root (ev_var (by rw [hX]; rfl)) (ev_var rfl) hlt.1) (ev_var rfl) (F3.root (ev_var (by rw [hX]; rfl)) (ev_var rfl) hlt.2))) fun v H4 e4 ⟨p, ev, _, hp⟩ => ⟨p, _, ev, hej, hp⟩)
  · rw [List.length_map, hbl] at r
    exact edges_of r
  · obtain ⟨v1, r1, rfl, hv1, hr1⟩ := hvs
    subst hr1
    refine ⟨(v1, E.map (rtE par), 33), rfl, ⟨hv1, d1, d2, by rw [List.length_map]; omega, by show 0 < 33; decide, by show 33 ≤ 20000; decide, fun e he => ?_⟩, ?_⟩
    · obtain ⟨e0, he0, rfl⟩ := List.mem_map.mp he
      have hlt := I0.lt _ he0
      exact ⟨Nat.lt_of_le_of_lt (rt_le _) (Nat.lt_of_lt_of_le hlt.1 hpre), Nat.lt_of_le_of_lt (rt_le _) (Nat.lt_of_lt_of_le hlt.2 hpre)⟩
    · rintro v H4 e4 ⟨F4, k4, es, hG, hB, hk, hN, hs, hl, hF⟩
      refine ⟨F4.length, es, hG, canon_of d1 d2 hB hk hN hs d3 d4, hF, ?_⟩
      rw [List.length_map] at hl
      omega
abbrev spGraphIn : Sp := spE (fun i : V × Nat × List Word => [i.1]) (fun i H => Fam H i.1 i.2.1 i.2.2 ∧ FamOk i.2.1 i.2.2) (fun i v H' => ∃ n es, Gr H' v n es ∧ Canon n es (Gen i.2.2) ∧ n ≤ 33 ∧ es.length ≤ 33)
theorem ok_graph_in (B : Bs mg) (F : Fx K mg "graph_in" s_graph_in pn_graph_in) (g_fold : Fd P w K mg base "fold" pn_fold 9 spFold) : Fd P w K mg base "graph_in" pn_graph_in 10 spGraphIn := by
  refine F.fd sc_graph_in (fun _ => rfl) fun i f cdv A outer s H Q hr hp q E => ?_
  refine ⟨_, (pss_one (ps_ret (pe_fd g_fold (hr.mono (by decide)) (by rfl) (pa_cons (pe_ix (r := rIxT K) ix_tup (pv 0) pe_int (fun _ _ => rfl)) (pa_cons (pe_ix (r := rIxT K) ix_tup (pv 0) pe_int (fun _ _ => rfl)) pa_nil))))), ?_⟩
  obtain ⟨v, r, ws⟩ := i
  obtain ⟨⟨p, a, ev, h1, h2⟩, ok⟩ := hp
  replace ev : v = .ref p := ev
  subst ev
  exact s_retP (ep_fd ((.ref a, r, ws) : V × Nat × List Word) (ea_cons (ev_ixt (j := 0) (ev_var rfl) ev_c h1 rfl) (ea_cons (ev_ixt (j := 1) (ev_var rfl) ev_c h1 rfl) ea_nil)) rfl fun H1 e1 => ⟨⟨a, rfl, e1 _ _ h2⟩, ok.2.2.1, fun u hu => (ok.2.2.2 u hu).2⟩) fun v H1 e1 r => q _ _ ⟨e1, r⟩
theorem ok_graph_of (B : Bs mg) (F : Fx K mg "graph_of" s_graph_of pn_graph_of) (g_check_family : Fd P w K mg base "check_family" pn_check_family 5 spCheck) (g_graph_in : Fd P w K mg base "graph_in" pn_graph_in 10 spGraphIn) : Fd P w K mg base "graph_of" pn_graph_of 11 spGraphIn := by
  refine F.fd sc_graph_of (fun _ => rfl) fun i f cdv A outer s H Q hr hp q E => ?_
  refine ⟨_, (pss_cons (ps_expr (pe_fd g_check_family (hr.mono (by decide)) (by rfl) (pa_cons (pv 0) pa_nil)))
    (pss_one (ps_ret (pe_fd g_graph_in (hr.mono (by decide)) (by rfl) (pa_cons (pv 0) pa_nil))))), ?_⟩
  refine q_drop (ev_fd i (ea_cons (ev_var rfl) ea_nil) rfl fun H1 e1 => ⟨hp.1.keep (Tk.of e1), hp.2⟩) fun H1 e1 => ?_
  exact s_retP (ep_fd i (ea_cons (ev_var rfl) ea_nil) rfl fun H2 e2 => ⟨hp.1.keep (Tk.of (e1.trans e2)), hp.2⟩) fun v H2 e2 r => q _ _ ⟨e1.trans e2, r⟩
/-- two families of one rank -/
abbrev spCheckTwo : Sp := spE (fun i : (V × V) × Nat × List Word × List Word => [i.1.1, i.1.2]) (fun i H => Fam H i.1.1 i.2.1 i.2.2.1 ∧ FamOk i.2.1 i.2.2.1 ∧ Fam H i.1.2 i.2.1 i.2.2.2 ∧ FamOk i.2.1 i.2.2.2) (fun _ v _ => v = .non)
theorem ok_check_two (B : Bs mg) (F : Fx K mg "check_two" s_check_two pn_check_two) (g_check_family : Fd P w K mg base "check_family" pn_check_family 5 spCheck) (g_is_family : Fd P w K mg base "is_family" pn_is_family 4 spIsFamily) : Fd P w K mg base "check_two" pn_check_two 6 spCheckTwo := by
  refine F.fd sc_check_two (fun _ => rfl) fun i f cdv A outer s H Q hr hp q E => ?_
  refine ⟨_, (pss_cons (ps_expr (pe_fd g_check_family (hr.mono (by decide)) (by rfl) (pa_cons (pv 0) pa_nil)))
    (pss_one (ps_if (PW.pt (pw_or (pt_not (pt_val (pe_fd g_is_family (hr.mono (by decide)) (by rfl) (pa_cons (pv 1) pa_nil)))) (pw_or1 (pt_cmpR op_ne (pe_ix (r := rIxT K) ix_tup (pv 1) pe_int (fun _ _ => rfl)) (pe_ix (r := rIxT K) ix_tup (pv 0) pe_int (fun _ _ => rfl)) (nomark _))))) (pss_one ps_never) pss_nil))), ?_⟩
  obtain ⟨⟨v1, v2⟩, r, w1, w2⟩ := i
  obtain ⟨h1, ok1, h2, ok2⟩ := hp
  obtain ⟨p1, a1, ev1, g1, _⟩ := id h1
  obtain ⟨p2, a2, ev2, g2, _⟩ := id h2
  replace ev1 : v1 = .ref p1 := ev1
  replace ev2 : v2 = .ref p2 := ev2
  subst ev1 ev2
  refine q_drop (ev_fd (.ref p1, r, w1) (ea_cons (ev_var rfl) ea_nil) rfl fun H1 e1 => ⟨h1.keep (Tk.of e1), ok1⟩) fun H1 e1 => ?_
  refine s_when (b := false) (et_orF (et_no (et_B (ev_fd (.ref p2, r, w2) (ea_cons (ev_var rfl) ea_nil) rfl fun H2 e2 => ⟨h2.keep (Tk.of (e1.trans e2)), ok2⟩))) (et_test (ev_is (ev_op (ev_ixt (j := 0) (ev_var rfl) ev_c (e1 _ _ g2) rfl) (ev_ixt (j := 0) (ev_var rfl) ev_c (e1 _ _ g1) rfl) rv_neI) ?_))) (fun h => absurd h (by decide)) fun _ H2 e2 => q _ _ ⟨e1.trans e2, rfl⟩
  show V.bl (!decide ((r : Int) = (r : Int))) = V.bl false
  simp
end
end FwK
end

section
set_option Elab.async false
set_option linter.all false
set_option maxRecDepth 100000
set_option maxHeartbeats 2000000
namespace FwK
open PySem PySem.Spec PyProof.Rows L2 Evl Fw FwR
/-! ### the ways of a graph -/
def zk (v : Nat) (x : Let) : List Key := [.inl (v : Int), .inr (T [x])]
theorem zk_inj {v v' : Nat} {x x' : Let} (h : zk v x = zk v' x') : v = v' ∧ x = x' := by
  unfold zk at h
  simp only [List.cons.injEq, Sum.inl.injEq, Sum.inr.injEq, Int.natCast_inj, and_true] at h
  exact ⟨h.1, List.head_eq_of_cons_eq (T_inj h.2)⟩
structure Wz (kvs : List (List Key × V)) (E : List Edge) : Prop where
  at_ : ∀ (v : Nat) (x : Let) (o : V), valV kvs (zk v x) = some o ↔ ∃ u : Nat, o = .int (u : Int) ∧ Has E v x u
  keys : ∀ k ∈ kvs.map (·.1), ∃ v x, k = zk v x
  nd : (kvs.map (·.1)).Nodup
  len : kvs.length ≤ 2 * E.length
theorem has_snoc {E : List Edge} {s e v u : Nat} {l x : Let} (hl : l.small = true) : Has (E ++ [(s, l, e)]) v x u ↔ Has E v x u ∨ (v = s ∧ x = l ∧ u = e) ∨ (v = e ∧ x = l.flip ∧ u = s) := by
  have hlf : l.flip.small = false := by rw [Let.small_flip, hl]; rfl
  unfold Has
  by_cases hx : x.small = true
  · rw [if_pos hx, if_pos hx, List.mem_append, List.mem_singleton]
    constructor
    · rintro (h | h)
      · exact .inl h
      · injection h with a1 a2
        injection a2 with a3 a4
        exact .inr (.inl ⟨a1, a3, a4⟩)
    · rintro (h | ⟨rfl, rfl, rfl⟩ | ⟨_, h, _⟩)
      · exact .inl h
      · exact .inr rfl
      · rw [h, hlf] at hx
        cases hx
  · rw [if_neg hx, if_neg hx, List.mem_append, List.mem_singleton]
    constructor
    · rintro (h | h)
      · exact .inl h
      · injection h with a1 a2
        injection a2 with a3 a4
        exact .inr (.inr ⟨a4, by rw [← a3, Let.flip_flip], a1⟩)
    · rintro (h | ⟨_, h, _⟩ | ⟨rfl, rfl, rfl⟩)
      · exact .inl h
      · rw [h] at hx
        exact absurd hl hx
      · exact .inr (by rw [Let.flip_flip])
theorem nd_put {κ : Type} [DecidableEq κ] (kvs : List (κ × V)) (k : κ) (v : V) (h : (kvs.map (·.1)).Nodup) : ((putK kvs k v).map (·.1)).Nodup := by
  rw [keys_put]
  split
  · exact h
  · rename_i hc
    rw [List.nodup_append]
    exact ⟨h, by simp, fun x hx y hy e => hc (by rw [← List.mem_singleton.mp hy, ← e]; exact hx)⟩
theorem Wz.nil : Wz [] [] := ⟨fun v l o => ⟨(fun h => by cases h), fun h => by obtain ⟨u, _, h⟩ := h; unfold Has at h; split at h <;> simp at h⟩, fun k hk => by simp at hk, .nil, by simp⟩
theorem Wz.step {kvs : List (List Key × V)} {E : List Edge} {s e : Nat} {l : Let} (w : Wz kvs E) (hl : l.small = true) (hf : Folded (E ++ [(s, l, e)])) :
    Wz (putK (putK kvs (zk s l) (.int (e : Int))) (zk e l.flip) (.int (s : Int))) (E ++ [(s, l, e)]) := by
  have hlf : l ≠ l.flip := fun h => Let.flip_ne l h.symm
  have one : ∀ v x u u', Has (E ++ [(s, l, e)]) v x u → Has (E ++ [(s, l, e)]) v x u' → u = u' := fun v x u u' h h' => by
    have h1 := (stp_iff hf).mpr h
    have h2 := (stp_iff hf).mpr h'
    rw [h1] at h2
    exact Option.some.inj h2
  refine ⟨fun v x o => ?_, fun k hk => ?_, nd_put _ _ _ (nd_put _ _ _ w.nd), ?_⟩
  · rw [valV_put]
    by_cases h1 : zk v x = zk e l.flip
    · obtain ⟨rfl, rfl⟩ := zk_inj h1
      rw [if_pos rfl]
      have hh : Has (E ++ [(s, l, v)]) v l.flip s := (has_snoc hl).mpr (.inr (.inr ⟨rfl, rfl, rfl⟩))
      exact ⟨fun h => ⟨s, (Option.some.inj h).symm, hh⟩, fun ⟨u, h, hu⟩ => by rw [h, one _ _ _ _ hu hh]⟩
    · rw [if_neg h1, valV_put]
      by_cases h2 : zk v x = zk s l
      · obtain ⟨rfl, rfl⟩ := zk_inj h2
        rw [if_pos rfl]
        have hh : Has (E ++ [(v, x, e)]) v x e := (has_snoc hl).mpr (.inr (.inl ⟨rfl, rfl, rfl⟩))
        exact ⟨fun h => ⟨e, (Option.some.inj h).symm, hh⟩, fun ⟨u, h, hu⟩ => by rw [h, one _ _ _ _ hu hh]⟩
      · rw [if_neg h2, w.at_]
        constructor
        · rintro ⟨u, h3, h4⟩
          exact ⟨u, h3, (has_snoc hl).mpr (.inl h4)⟩
        · rintro ⟨u, h3, h4⟩
          refine ⟨u, h3, ?_⟩
          rcases (has_snoc hl).mp h4 with h5 | ⟨rfl, rfl, _⟩ | ⟨rfl, rfl, _⟩
          · exact h5
          · exact absurd rfl h2
          · exact absurd rfl h1
  · rw [keys_put] at hk
    have hk1 : k ∈ (putK kvs (zk s l) (.int (e : Int))).map (·.1) ∨ k = zk e l.flip := by
      split at hk
      · exact .inl hk
      · rcases List.mem_append.mp hk with h | h
        · exact .inl h
        · exact .inr (List.mem_singleton.mp h)
    rcases hk1 with hk1 | hk1
    · rw [keys_put] at hk1
      have hk2 : k ∈ kvs.map (·.1) ∨ k = zk s l := by
        split at hk1
        · exact .inl hk1
        · rcases List.mem_append.mp hk1 with h | h
          · exact .inl h
          · exact .inr (List.mem_singleton.mp h)
      rcases hk2 with hk2 | hk2
      · exact w.keys k hk2
      · exact ⟨_, _, hk2⟩
    · exact ⟨_, _, hk1⟩
  · have h1 := length_putK (putK kvs (zk s l) (.int (e : Int))) (zk e l.flip) (.int (s : Int))
    have h2 := length_putK kvs (zk s l) (.int (e : Int))
    have h3 := w.len
    rw [List.length_append]
    show _ ≤ 2 * (E.length + 1)
    omega
theorem Wz.get {kvs : List (List Key × V)} {E : List Edge} (w : Wz kvs E) (hf : Folded E) (v : Nat) (x : Let) : valV kvs (zk v x) = nV (Fw.stp E v x) := by
  cases h : Fw.stp E v x with
  | some u => exact (w.at_ v x _).mpr ⟨u, rfl, (stp_iff hf).mp h⟩
  | none =>
    cases h2 : valV kvs (zk v x) with
    | none => rfl
    | some o =>
      obtain ⟨u, _, hu⟩ := (w.at_ v x o).mp h2
      rw [(stp_iff hf).mpr hu] at h
      cases h
section
variable {P : Program} {w : World} {K : PySem.W.Frag} {mg : Str → Option Value} {base : Heap} {σ : L2.St} {H H' : Hp} {ta tb te : TE}
/-- as spE, the relation told of the heap at the call, too -/
def spN {ι : Type} (ps : ι → List V) (pre : ι → Hp → Prop) (R : ι → Hp → V → Hp → Prop) : Sp := prom ps pre fun i H v H' => Ex H H' ∧ R i H v H'
theorem ep_fdN {ι : Type} {ps : ι → List V} {pre : ι → Hp → Prop} {R : ι → Hp → V → Hp → Prop} {ta : TA} {vs : List V} (i : ι) (h : EvA ta σ H vs) (e : vs = ps i) (hp : ∀ H1, Ex H H1 → pre i H1) (back : ∀ H1 v H', Ex H H1 → R i H1 v H' → R i H v H') : EvP (tCall (spN ps pre R) [] E0 ta) σ H (R i H) := fun H1 e1 Q q =>
  h H1 e1 _ fun H2 e2 => ⟨i, by rw [List.append_nil]; exact e, hp H2 (e1.trans e2), fun v H3 ⟨e3, r⟩ => q v H3 (e2.trans e3) (back H2 v H3 (e1.trans e2) r)⟩
/-- items of a tuple of edges -/
theorem eg_item {bs : List Addr} {E : List Edge} (hE : Egs H bs E) {j : Nat} {x : V} (hx : (bs.map V.ref)[j]? = some x) : ∃ b e, x = .ref b ∧ E[j]? = some e ∧ Eg H b e := by
  rw [List.getElem?_map] at hx
  cases hb : bs[j]? with
  | none => rw [hb] at hx; cases hx
  | some b =>
    rw [hb] at hx
    cases hx
    obtain ⟨e, h1, h2⟩ := pd_get hE hb
    exact ⟨b, e, rfl, h1, h2⟩
abbrev spWays : Sp := spN (fun i : V × Nat × List Edge => [i.1]) (fun i H => Gr H i.1 i.2.1 i.2.2 ∧ Smalls i.2.2 ∧ Folded i.2.2 ∧ i.2.2.length ≤ 5000) (fun i H v H' => ∃ d kvs, v = .ref d ∧ H d = none ∧ H' d = some (.dT kvs) ∧ Wz kvs i.2.2)
theorem ok_ways_in (B : Bs mg) (F : Fx K mg "ways_in" s_ways_in pn_ways_in) : Fd P w K mg base "ways_in" pn_ways_in 1 spWays := by
  refine F.fd sc_ways_in (fun _ => rfl) fun i f cdv A outer s H Q hr hp q E => ?_
  refine ⟨_, (pss_cons (ps_asg (pe_dnewT) (pg_name (i := 1) sc_ways_in.nd rfl (Or.inl rfl)))
    (pss_cons (ps_for PassesOwn.never rfl (pi_tup (pe_ix (r := rIxT K) ix_tup (pv 0) pe_int (fun _ _ => rfl))) (pg_tup rfl (pgs_cons (pg_name (i := 2) sc_ways_in.nd rfl (Or.inl rfl)) (pgs_cons (pg_name (i := 3) sc_ways_in.nd rfl (Or.inl rfl)) (pgs_cons (pg_name (i := 4) sc_ways_in.nd rfl (Or.inl rfl)) pgs_nil)))) (pss_cons (ps_dput (hu_of hr) (pv 1) (pe_tup (pa_cons (pv 2) (pa_cons (pv 3) pa_nil))) (pv 4) rfl)
    (pss_one (ps_dput (hu_of hr) (pv 1) (pe_tup (pa_cons (pv 4) (pa_cons (pe_upper (pv 3)) pa_nil))) (pv 2) rfl))))
    (pss_one (ps_ret (pv 1))))), ?_⟩
  obtain ⟨v, n, E⟩ := i
  obtain ⟨⟨p, a, bs, ev, hp, ha, hE⟩, hs, hf, hl⟩ := hp
  replace ev : v = .ref p := ev
  subst ev
  replace hE : Egs H bs E := hE
  replace hs : Smalls E := hs
  replace hf : Folded E := hf
  replace hl : E.length ≤ 5000 := hl
  have hbl : bs.length = E.length := pd_len hE
  refine q_newT fun wd H1 nw e1 hw => ?_
  refine q_forT (K := K) (a := a) (xs := bs.map V.ref) (ev_ixt (j := 1) (ev_var rfl) ev_c (e1 _ _ hp) rfl) (st_of (e1 _ _ ha)) (fun i σ H2 => ∃ (y2 y3 y4 : Option V) (wv : List (List Key × V)), σ = [some (.ref p), some (.ref wd), y2, y3, y4] ∧ Ex H H2 ∧ H2 wd = some (.dT wv) ∧ Wz wv (E.take i)) ?_ ?_ ?_ ?_
  · intro H2 e2
    exact ⟨none, none, none, [], rfl, e1.trans e2, e2 _ _ hw, Wz.nil⟩
  · rintro i σ H2 hi ⟨y2, y3, y4, wv, rfl, e2, h2, hz⟩
    exact st_of (e2 _ _ ha)
  · rintro i x σ H2 hx ⟨y2, y3, y4, wv, rfl, e2, h2, hz⟩
    obtain ⟨b, ⟨s0, l0, t0⟩, rfl, hxe, hEb⟩ := eg_item hE hx
    have hil : i < E.length := (List.getElem?_eq_some_iff.mp hxe).1
    have hls : l0.small = true := hs _ (List.mem_of_getElem? hxe)
    have hzl := hz.len
    rw [List.length_take] at hzl
    refine g3 (e2 _ _ hEb) ?_
    refine q_putT (k := zk s0 l0) (ev_var rfl) (ev_var rfl) (eu_2 (ev_var rfl) (ev_var rfl)) h2 (by omega) fun H3 e3 => ?_
    refine s_putT (k := zk t0 l0.flip) (ev_var rfl) (ev_var rfl) (eu_2 (ev_var rfl) (ev_is (ev_up (ev_var rfl)) (by rw [Let.up_of_small hls]; rfl))) upd_same (Nat.lt_of_le_of_lt (length_putK _ _ _) (by omega)) fun H4 e4 => ⟨_, _, _, _, rfl, Ex.mut ((Ex.mut (e2.trans e3) nw).trans e4) nw, upd_same, ?_⟩
    have et : E.take (i + 1) = E.take i ++ [(s0, l0, t0)] := by rw [List.take_add_one, hxe]; rfl
    rw [et]
    refine hz.step hls fun e1 he1 e2 he2 hl => ?_
    rw [← et] at he1 he2
    exact hf e1 (List.mem_of_mem_take he1) e2 (List.mem_of_mem_take he2) hl
  · rintro σ H2 ⟨y2, y3, y4, wv, rfl, e2, h2, hz⟩
    rw [List.length_map, hbl, List.take_length] at hz
    exact s_ret (ev_var rfl) fun H3 e3 => q _ _ ⟨e2.trans e3, wd, wv, rfl, nw, e3 _ _ h2, hz⟩
/-! ### ends_at -/
abbrev spEnds : Sp := spE (fun i : (V × Nat × List Edge) × Nat => [i.1.1, .int (i.2 : Int)]) (fun i H => Gr H i.1.1 i.1.2.1 i.1.2.2 ∧ i.1.2.2.length ≤ 5000) (fun i v H' => v = .int (ends i.1.2.2 i.2 : Nat))
theorem b2i_eq (a b : Nat) : (if decide ((a : Int) = (b : Int)) = true then (1 : Int) else 0) = ((if a = b then 1 else 0 : Nat) : Int) := by
  by_cases h : a = b
  · subst h; simp
  · have : ¬ ((a : Int) = (b : Int)) := fun e => h (Int.ofNat.inj e)
    simp [h, this]
theorem ok_ends_at (B : Bs mg) (F : Fx K mg "ends_at" s_ends_at pn_ends_at) : Fd P w K mg base "ends_at" pn_ends_at 1 spEnds := by
  refine F.fd sc_ends_at (fun _ => rfl) fun i f cdv A outer s H Q hr hp q E => ?_
  refine ⟨_, (pss_one (ps_ret (pe_callB (r := rSum K) (cr_sum rfl) (by rfl) B.z_sum (by decide +kernel) (pa_cons (pe_lc (own := [("start", 2), ("letter", 3), ("end", 4)]) (g := (gTup K 3 (gCons (gName 2) (gCons (gName 3) (gCons (gName 4) gNil))))) rfl sc_ends_at.nd  (pi_tup (pe_ix (r := rIxT K) ix_tup (pv 0) pe_int (fun _ _ => rfl))) (blkOk_by (N := nm_ends_at) (sc := defScope s_ends_at) (by decide +kernel)) (fun _ _ _ _ _ => (pg_tup rfl (pgs_cons (pg_name (i := 2) sc_ends_at.nd rfl (Or.inl rfl)) (pgs_cons (pg_name (i := 3) sc_ends_at.nd rfl (Or.inl rfl)) (pgs_cons (pg_name (i := 4) sc_ends_at.nd rfl (Or.inl rfl)) pgs_nil))))) (fun _ _ _ _ _ => pts_nil) (fun _ _ _ _ _ => (pe_op op_add (pe_callTy call_int1 (by rfl) B.z_int (by decide +kernel) (pa_cons (pe_cmpR op_eq (pv 2) (pv 1) (nomark _)) pa_nil)) (pe_callTy call_int1 (by rfl) B.z_int (by decide +kernel) (pa_cons (pe_cmpR op_eq (pv 4) (pv 1) (nomark _)) pa_nil))))) pa_nil)))), ?_⟩
  obtain ⟨⟨v, n, E⟩, x⟩ := i
  obtain ⟨⟨p, a, bs, ev, hp, ha, hE⟩, hl⟩ := hp
  replace ev : v = .ref p := ev
  subst ev
  replace hE : Egs H bs E := hE
  replace hl : E.length ≤ 5000 := hl
  have hbl : bs.length = E.length := pd_len hE
  let cnt : Nat → Int := fun j => match E[j]? with | some e => ((if e.1 = x then 1 else 0 : Nat) : Int) + ((if e.2.2 = x then 1 else 0 : Nat) : Int) | none => 0
  refine s_ret (v := .int ((List.range (bs.map V.ref).length).map cnt).sum) (ev_sum (K := K) (by
    rw [List.map_map, ← range_all (bs.map V.ref).length]
    refine el_lcTup (K := K) (fun _ => true) (V.int ∘ cnt) (ev_ixt (j := 1) (ev_var rfl) ev_c hp rfl) ha (by rw [List.length_map]; omega) fun j y H2 Q2 hy e2 kk => ?_
    obtain ⟨b, ⟨s0, l0, t0⟩, rfl, hxe, hEb⟩ := eg_item hE hy
    refine g3 (e2 _ _ hEb) (kk _ rfl et_yes fun _ => ?_)
    have hc : cnt j = (if decide ((s0 : Int) = (x : Int)) = true then (1 : Int) else 0) + (if decide ((t0 : Int) = (x : Int)) = true then (1 : Int) else 0) := by
      show (match E[j]? with | some e => ((if e.1 = x then 1 else 0 : Nat) : Int) + ((if e.2.2 = x then 1 else 0 : Nat) : Int) | none => 0) = _
      rw [hxe, b2i_eq, b2i_eq]
    show Ev _ _ H2 (.int (cnt j))
    rw [hc]
    exact ev_op (ev_int1 (ev_op (ev_var rfl) (ev_var rfl) rv_eqI) fun H1 Q q => .inr ⟨_, rfl, q⟩) (ev_int1 (ev_op (ev_var rfl) (ev_var rfl) rv_eqI) fun H1 Q q => .inr ⟨_, rfl, q⟩) rv_I0)) fun H1 e1 => q _ _ ⟨e1, ?_⟩
  have key : ((List.range (bs.map V.ref).length).map cnt) = E.map fun e => (((if e.1 = x then 1 else 0) + (if e.2.2 = x then 1 else 0) : Nat) : Int) := by
    rw [List.length_map, hbl]
    exact range_map E cnt _ fun j e he => by
      show (match E[j]? with | some e => ((if e.1 = x then 1 else 0 : Nat) : Int) + ((if e.2.2 = x then 1 else 0 : Nat) : Int) | none => 0) = _
      rw [he]
      exact (Int.natCast_add _ _).symm
  show V.int _ = V.int ((ends E x : Nat) : Int)
  rw [key]
  congr 1
  unfold ends
  generalize E = E'
  induction E' with
  | nil => rfl
  | cons e r ih => rw [List.map_cons, List.map_cons, List.sum_cons, List.sum_cons, ih]; simp only [Int.natCast_add]
/-! ### is_long_word, check_long -/
abbrev spLongWord : Sp := spE (fun i : Nat × Word => [.int (i.1 : Int), tx i.2]) (fun i _ => 1 ≤ i.1 ∧ i.1 ≤ 3 ∧ InR i.1 i.2 ∧ i.2.length ≤ 100) (fun _ v _ => v = .bl true)
theorem ok_is_long_word (B : Bs mg) (F : Fx K mg "is_long_word" s_is_long_word pn_is_long_word) (g_letters_of : Fd P w K mg base "letters_of" pn_letters_of 1 spLetters) : Fd P w K mg base "is_long_word" pn_is_long_word 2 spLongWord := by
  refine F.fd sc_is_long_word (fun _ => rfl) fun i f cdv A outer s H Q hr hp q E => ?_
  refine ⟨_, (pss_cons (ps_if (PW.pt (pw_or (pt_not (pt_val (pe_callB (r := rIsi K) call_isi (by rfl) B.z_isinstance (by decide +kernel) (pa_cons (pv 1) (pa_cons (pe_bltn (v := .ty "str") (by rfl) B.z_str (by decide +kernel) rfl) pa_nil))))) (pw_or1 (pt_cmpR op_gt (pe_callB (r := rLenX) call_len_str (by rfl) B.z_len PySem.boot_len (pa_cons (pv 1) pa_nil)) (pe_k B.c_MOST_LETTERS_showing) (nomark _))))) (pss_one (ps_ret pe_bl)) pss_nil)
    (pss_one (ps_ret (pe_callB (r := rAll K) (cr_all rfl) (by rfl) B.z_all (by decide +kernel) (pa_cons (pe_lc (own := [("letter", 2)]) (g := (gName 2)) rfl sc_is_long_word.nd  (pi_str (pv 1)) (blkOk_by (N := nm_is_long_word) (sc := defScope s_is_long_word) (by decide +kernel)) (fun _ _ _ _ _ => (pg_name (i := 2) sc_is_long_word.nd rfl (Or.inl rfl))) (fun _ _ _ _ _ => pts_nil) (fun _ _ _ _ _ => (pe_cmpR op_in_sign (pv 2) (pe_fd g_letters_of (hr.mono (by decide)) (by rfl) (pa_cons (pv 0) pa_nil)) (by rfl)))) pa_nil))))), ?_⟩
  obtain ⟨r, u⟩ := i
  obtain ⟨h1, h2, h3, h4⟩ := hp
  replace h3 : InR r u := h3
  replace h4 : u.length ≤ 100 := h4
  have eb : u.map (fun l => V.bl (decide (l ∈ lets r))) = (u.map (fun l => decide (l ∈ lets r))).map V.bl := by rw [List.map_map]; rfl
  refine q_when (b := false) (et_orF (et_no (et_B (ev_isi (ev_var rfl) ev_c (.ty _) (fun _ _ => .base (.str _)) (kit_ty (by decide +kernel))))) (et_test (ev_is (ev_op (ev_is (ev_lenS (ev_var rfl) (by rw [T_len]; exact Nat.le_trans h4 (by decide))) (by rw [T_len])) ev_c rv_I0) ?_))) (fun h => absurd h (by decide)) fun _ H1 e1 => ?_
  · show V.bl (decide ((100 : Int) < (u.length : Int))) = V.bl false
    rw [decide_eq_false (by omega)]
  refine s_ret (v := .bl ((u.map fun l => decide (l ∈ lets r)).all id)) (ev_all (K := K) (by
      rw [← eb]
      exact el_lcW (fun l => V.bl (decide (l ∈ lets r))) (ev_var rfl) (Nat.le_trans h4 (by decide)) (fun _ => rfl) fun l H1 e1 hl => ev_op (ev_var rfl) (ev_fd r (ea_cons (ev_var rfl) ea_nil) rfl fun _ _ => ⟨h1, h2⟩) rv_sign)) fun H2 e2 => q _ _ ⟨e1.trans e2, ?_⟩
  have : ((u.map fun l => decide (l ∈ lets r)).all id) = true := by
    rw [List.all_map, List.all_eq_true]
    intro l hl
    exact decide_eq_true ((mem_lets l r h1 h2).mpr (h3 l hl))
  rw [this]
abbrev spCheckLong : Sp := spE (fun i : ((V × V) × Nat × List Word × List Word) × Word => [i.1.1.1, i.1.1.2, tx i.2]) (fun i H => (Fam H i.1.1.1 i.1.2.1 i.1.2.2.1 ∧ FamOk i.1.2.1 i.1.2.2.1 ∧ Fam H i.1.1.2 i.1.2.1 i.1.2.2.2 ∧ FamOk i.1.2.1 i.1.2.2.2) ∧ InR i.1.2.1 i.2 ∧ i.2.length ≤ 100) (fun _ v _ => v = .non)
theorem ok_check_long (B : Bs mg) (F : Fx K mg "check_long" s_check_long pn_check_long) (g_check_two : Fd P w K mg base "check_two" pn_check_two 6 spCheckTwo) (g_is_long_word : Fd P w K mg base "is_long_word" pn_is_long_word 2 spLongWord) : Fd P w K mg base "check_long" pn_check_long 7 spCheckLong := by
  refine F.fd sc_check_long (fun _ => rfl) fun i f cdv A outer s H Q hr hp q E => ?_
  refine ⟨_, (pss_cons (ps_expr (pe_fd g_check_two (hr.mono (by decide)) (by rfl) (pa_cons (pv 0) (pa_cons (pv 1) pa_nil))))
    (pss_one (ps_if (pt_not (pt_val (pe_fd g_is_long_word (hr.mono (by decide)) (by rfl) (pa_cons (pe_ix (r := rIxT K) ix_tup (pv 0) pe_int (fun _ _ => rfl)) (pa_cons (pv 2) pa_nil))))) (pss_one ps_never) pss_nil))), ?_⟩
  obtain ⟨⟨⟨v1, v2⟩, r, w1, w2⟩, u⟩ := i
  obtain ⟨⟨h1, ok1, h2, ok2⟩, h3, h4⟩ := hp
  obtain ⟨p1, a1, ev1, g1, _⟩ := id h1
  replace ev1 : v1 = .ref p1 := ev1
  subst ev1
  refine q_drop (ev_fd ((.ref p1, v2), r, w1, w2) (ea_cons (ev_var rfl) (ea_cons (ev_var rfl) ea_nil)) rfl fun H1 e1 => ⟨h1.keep (Tk.of e1), ok1, h2.keep (Tk.of e1), ok2⟩) fun H1 e1 => ?_
  exact s_when (b := false) (et_no (et_B (ev_fd (r, u) (ea_cons (ev_ixt (j := 0) (ev_var rfl) ev_c (e1 _ _ g1) rfl) (ea_cons (ev_var rfl) ea_nil)) rfl fun H2 e2 => ⟨ok1.1, ok1.2.1, h3, h4⟩))) (fun h => absurd h (by decide)) fun _ H2 e2 => q _ _ ⟨e1.trans e2, rfl⟩
end
end FwK
end

section
set_option Elab.async false
set_option linter.all false
set_option maxRecDepth 100000
set_option maxHeartbeats 2000000
namespace FwK
open PySem PySem.Spec PyProof.Rows L2 Evl Fw FwR
/-! ### counts -/
def Ct (kvs : List (Key × V)) (c : Nat → Nat) : Prop := ∀ v : Nat, valV kvs (.inl (v : Int)) = if c v = 0 then none else some (.int (c v : Int))
theorem Ct.nil : Ct [] fun _ => 0 := fun _ => rfl
theorem Ct.get {kvs : List (Key × V)} {c : Nat → Nat} (h : Ct kvs c) (x : Nat) : (valV kvs (.inl (x : Int))).getD (.int 0) = .int (c x : Int) := by
  rw [h x]
  by_cases hc : c x = 0
  · rw [if_pos hc, hc]; rfl
  · rw [if_neg hc]; rfl
theorem Ct.step {kvs : List (Key × V)} {c : Nat → Nat} (h : Ct kvs c) (x : Nat) : Ct (putK kvs (.inl (x : Int)) (.int ((c x : Int) + 1))) fun v => c v + if x = v then 1 else 0 := fun v => by
  rw [valV_put]
  by_cases e : x = v
  · subst e
    show (if (Sum.inl (x : Int) : Key) = Sum.inl (x : Int) then _ else _) = (if c x + (if x = x then 1 else 0) = 0 then none else some (V.int ((c x + (if x = x then 1 else 0) : Nat) : Int)))
    rw [if_pos rfl, if_pos rfl, if_neg (by omega)]
    rfl
  · have hc : ¬ ((Sum.inl (v : Int) : Key) = Sum.inl (x : Int)) := fun c => e (Int.ofNat.inj (Sum.inl.inj c)).symm
    show _ = (if c v + (if x = v then 1 else 0) = 0 then none else some (V.int ((c v + (if x = v then 1 else 0) : Nat) : Int)))
    rw [if_neg hc, if_neg e, h v]
    rfl
theorem ends_snoc (E : List Edge) (e : Edge) (v : Nat) : ends (E ++ [e]) v = ends E v + (if e.1 = v then 1 else 0) + (if e.2.2 = v then 1 else 0) := by
  unfold ends
  rw [List.map_append, List.sum_append]
  simp
  omega
theorem ends_take_pos {E : List Edge} {e : Edge} (h : e ∈ E) : 0 < ends E e.1 ∧ 0 < ends E e.2.2 := by
  induction E with
  | nil => simp at h
  | cons f r ih =>
    have hc : ∀ v, ends (f :: r) v = ((if f.1 = v then 1 else 0) + (if f.2.2 = v then 1 else 0)) + ends r v := fun v => by unfold ends; rw [List.map_cons, List.sum_cons]
    rw [hc, hc]
    rcases List.mem_cons.mp h with rfl | h
    · rw [if_pos rfl, if_pos rfl]
      constructor <;> omega
    · have := ih h
      omega
section
variable {P : Program} {w : World} {K : PySem.W.Frag} {mg : Str → Option Value} {base : Heap} {σ : L2.St} {H H' : Hp} {ta tb te : TE}
theorem el_ofT {p : Addr} {xs : List V} (h : Ev ta σ H (.ref p)) (hp : H p = some (.tup xs)) : EvL (tCB (rListOf K) (tCons ta tNil)) σ H xs := fun H1 e Q q =>
  h H1 e _ fun H2 e2 => ⟨p, xs, rfl, .inr (st_of (e2 _ _ (e _ _ hp))), fun l nl => q l _ (fresh_back e2 nl) (e2.trans (Ex.new nl)) upd_same⟩
def keepB (E : List Edge) (b : Nat) (e : Edge) : Bool := (decide (1 < ends E e.1) || decide (e.1 = b)) && (decide (1 < ends E e.2.2) || decide (e.2.2 = b))
theorem kept_eq (b : Nat) (E : List Edge) : kept b E = E.filter (keepB E b) := rfl
abbrev spTrim : Sp := spE (fun i : (Addr × List Addr × List Edge) × Nat => [.ref i.1.1, .int (i.2 : Int)]) (fun i H => H i.1.1 = some (.tup (i.1.2.1.map V.ref)) ∧ Egs H i.1.2.1 i.1.2.2 ∧ i.1.2.2.length ≤ 5000)
  (fun i v H' => ∃ E3, EL H' v E3 ∧ Trim i.2 i.1.2.2 E3 ∧ kept i.2 E3 = E3 ∧ E3.length ≤ i.1.2.2.length)
theorem ok_trimmed (B : Bs mg) (F : Fx K mg "trimmed_edges" s_trimmed_edges pn_trimmed_edges) : Fd P w K mg base "trimmed_edges" pn_trimmed_edges 1 spTrim := by
  refine F.fd sc_trimmed_edges (fun _ => rfl) fun i f cdv A outer s H Q hr hp q E => ?_
  refine ⟨_, (pss_cons (ps_asg (pe_callTy (r := rListOf K) call_list_of (by rfl) B.z_list (by decide +kernel) (pa_cons (pv 0) pa_nil)) (pg_name (i := 2) sc_trimmed_edges.nd rfl (Or.inl rfl)))
    (pss_one (ps_while PassesOwn.never (pt_val pe_bl) (pss_cons (ps_asg (pe_dnewK) (pg_name (i := 3) sc_trimmed_edges.nd rfl (Or.inl rfl)))
    (pss_cons (ps_for PassesOwn.never rfl (pi_list (pv 2)) (pg_tup rfl (pgs_cons (pg_name (i := 4) sc_trimmed_edges.nd rfl (Or.inl rfl)) (pgs_cons (pg_name (i := 5) sc_trimmed_edges.nd rfl (Or.inl rfl)) (pgs_cons (pg_name (i := 6) sc_trimmed_edges.nd rfl (Or.inl rfl)) pgs_nil)))) (pss_cons (ps_dput (hu_of hr) (pv 3) (pv 4) (pe_op op_add (pe_dget2 (hu_of hr) (pv 3) (pv 4) pe_int ⟨rfl, rfl, rfl, rfl⟩) pe_int) rfl)
    (pss_one (ps_dput (hu_of hr) (pv 3) (pv 6) (pe_op op_add (pe_dget2 (hu_of hr) (pv 3) (pv 6) pe_int ⟨rfl, rfl, rfl, rfl⟩) pe_int) rfl))))
    (pss_cons (ps_asg (pe_lst pa_nil) (pg_name (i := 7) sc_trimmed_edges.nd rfl (Or.inl rfl)))
    (pss_cons (ps_for PassesOwn.never rfl (pi_list (pv 2)) (pg_tup rfl (pgs_cons (pg_name (i := 4) sc_trimmed_edges.nd rfl (Or.inl rfl)) (pgs_cons (pg_name (i := 8) sc_trimmed_edges.nd rfl (Or.inl rfl)) (pgs_cons (pg_name (i := 6) sc_trimmed_edges.nd rfl (Or.inl rfl)) pgs_nil)))) (pss_one (ps_if (PW.pt (pw_and (PW.pt (pw_or (pt_cmpR op_gt (pe_dget (hu_of hr) (pv 3) (pv 4) (fun _ _ => rfl)) pe_int (nomark _)) (pw_or1 (pt_cmpR op_eq (pv 4) (pv 1) (nomark _))))) (pw_and1 (PW.pt (pw_or (pt_cmpR op_gt (pe_dget (hu_of hr) (pv 3) (pv 6) (fun _ _ => rfl)) pe_int (nomark _)) (pw_or1 (pt_cmpR op_eq (pv 6) (pv 1) (nomark _)))))))) (pss_one (ps_expr (pe_bmK K rfl (pe_bm PySem.F.plainAttrs_list PySem.F.slot_list_append PySem.F.type_list_append mt_append (pv 7) (pa_cons (pe_tup (pa_cons (pv 4) (pa_cons (pv 8) (pa_cons (pv 6) pa_nil)))) pa_nil))))) pss_nil)))
    (pss_cons (ps_if (pt_cmpR op_eq (pe_callB (r := Evl.rLenS K) call_len_seq (by rfl) B.z_len PySem.boot_len (pa_cons (pv 7) pa_nil)) (pe_callB (r := Evl.rLenS K) call_len_seq (by rfl) B.z_len PySem.boot_len (pa_cons (pv 2) pa_nil)) (nomark _)) (pss_one (ps_ret (pv 7))) pss_nil)
    (pss_one (ps_asg (pv 7) (pg_name (i := 2) sc_trimmed_edges.nd rfl (Or.inl rfl)))))))))))), ?_⟩
  obtain ⟨⟨a, bs0, E2⟩, b⟩ := i
  obtain ⟨ha, hE0, hl⟩ := hp
  replace ha : H a = some (.tup (bs0.map V.ref)) := ha
  replace hE0 : Egs H bs0 E2 := hE0
  replace hl : E2.length ≤ 5000 := hl
  replace q : ∀ v H', (Ex H H' ∧ ∃ E3, EL H' v E3 ∧ Trim b E2 E3 ∧ kept b E3 = E3 ∧ E3.length ≤ E2.length) → Q v H' := q
  refine q_asgL (el_ofT (K := K) (ev_var rfl) ha) fun l0 H1 nl0 e1 hl0 => ?_
  refine s_while (fun m σ H' => ∃ (l : Addr) (bs : List Addr) (E : List Edge) (y3 y4 y5 y6 y7 y8 : Option V), m = E.length ∧ σ = [some (.ref a), some (.int (b : Int)), some (.ref l), y3, y4, y5, y6, y7, y8] ∧ Ex H H' ∧ H' l = some (.lst (bs.map V.ref)) ∧ Egs H' bs E ∧ Trim b E2 E ∧ E.length ≤ E2.length) E2.length
    ⟨l0, bs0, E2, none, none, none, none, none, none, rfl, rfl, e1, hl0, hE0.keep (Tk.of e1), Trim.refl b E2, Nat.le_refl _⟩ ?_
  rintro m σ H2 ⟨l, bs, E, y3, y4, y5, y6, y7, y8, rfl, rfl, e2, hli, hE, hT, hlE⟩
  have hbl : bs.length = E.length := pd_len hE
  refine ⟨true, et_B ev_c, fun _ H3 e3 => ?_, fun h => absurd h (by decide)⟩
  refine ⟨fun σ2 H4 => ∃ (l : Addr) (bs : List Addr) (E' : List Edge) (y3 y4 y5 y6 y7 y8 : Option V), E'.length < E.length ∧ σ2 = [some (.ref a), some (.int (b : Int)), some (.ref l), y3, y4, y5, y6, y7, y8] ∧ Ex H H4 ∧ H4 l = some (.lst (bs.map V.ref)) ∧ Egs H4 bs E' ∧ Trim b E2 E' ∧ E'.length ≤ E2.length,
    fun σ2 H4 ⟨l, bs, E', y3, y4, y5, y6, y7, y8, h1, h2, h3, h4, h5, h6, h7⟩ => ⟨_, h1, l, bs, E', y3, y4, y5, y6, y7, y8, rfl, h2, h3, h4, h5, h6, h7⟩, ?_⟩
  -- ends = {}
  refine q_newK fun de H4 nde e4 hde => ?_
  have e24 := e3.trans e4
  have hli4 := e24 _ _ hli
  have hE4 := hE.keep (Tk.of e24)
  -- the counts
  refine q_forL (K := K) (a := l) (xs := bs.map V.ref) (ev_var rfl) (sq_of hli4) (fun i σ H5 => ∃ (y4 y5 y6 y7 y8 : Option V) (kvs : List (Key × V)), σ = [some (.ref a), some (.int (b : Int)), some (.ref l), some (.ref de), y4, y5, y6, y7, y8] ∧ Ex H3 H5 ∧ H5 de = some (.dK kvs) ∧ Ct kvs (ends (E.take i)) ∧ kvs.length ≤ 2 * i) ?_ ?_ ?_ ?_
  · intro H5 e5
    exact ⟨_, _, _, _, _, [], rfl, e4.trans e5, e5 _ _ hde, Ct.nil, Nat.zero_le _⟩
  · rintro i σ H5 hi ⟨y4, y5, y6, y7, y8, kvs, rfl, e5, hk, hc, hkl⟩
    exact sq_of (e5 _ _ (e3 _ _ hli))
  · rintro i x σ H5 hx ⟨y4, y5, y6, y7, y8, kvs, rfl, e5, hk, hc, hkl⟩
    obtain ⟨bb, ⟨s0, l0', t0⟩, rfl, hxe, hEb⟩ := eg_item (hE.keep (Tk.of e3)) hx
    have hil : i < E.length := (List.getElem?_eq_some_iff.mp hxe).1
    refine g3 (e5 _ _ hEb) ?_
    refine q_putK (k1 := .inl (s0 : Int)) (ev_op (ev_is (ev_get2K (k1 := .inl (s0 : Int)) (ev_var rfl) (ev_var rfl) rfl ev_c hk) (hc.get s0)) ev_c rv_I0) (ev_var rfl) (ev_var rfl) rfl hk (by omega) fun H6 e6 => ?_
    have hc2 := hc.step s0
    have hl2 := length_putK kvs (.inl (s0 : Int)) (.int ((ends (E.take i) s0 : Int) + 1))
    refine s_putK (k1 := .inl (t0 : Int)) (ev_op (ev_is (ev_get2K (k1 := .inl (t0 : Int)) (ev_var rfl) (ev_var rfl) rfl ev_c upd_same) (hc2.get t0)) ev_c rv_I0) (ev_var rfl) (ev_var rfl) rfl upd_same (Nat.lt_of_le_of_lt hl2 (by omega)) fun H7 e7 => ⟨_, _, _, _, _, _, rfl, Ex.mut ((Ex.mut (e5.trans e6) (fresh_back (Ex.refl _) nde)).trans e7) nde, upd_same, ?_, ?_⟩
    · have et : E.take (i + 1) = E.take i ++ [(s0, l0', t0)] := by rw [List.take_add_one, hxe]; rfl
      have hc3 := hc2.step t0
      rw [et]
      have hfun : (fun v => ends (E.take i ++ [(s0, l0', t0)]) v) = fun v => (ends (E.take i) v + if s0 = v then 1 else 0) + if t0 = v then 1 else 0 := by
        funext v
        exact ends_snoc _ _ v
      show Ct _ (fun v => ends (E.take i ++ [(s0, l0', t0)]) v)
      rw [hfun]
      exact hc3
    · have hl3 := length_putK (putK kvs (.inl (s0 : Int)) (.int ((ends (E.take i) s0 : Int) + 1))) (.inl (t0 : Int)) (.int (((ends (E.take i) t0 + if s0 = t0 then 1 else 0 : Nat) : Int) + 1))
      exact Nat.le_trans hl3 (by omega)
  rintro σ H5 ⟨y4, y5, y6, y7, y8, kvs, rfl, e35, hk, hc, hkl⟩
  rw [List.length_map, hbl, List.take_length] at hc
  -- kept = []
  refine q_asgL (el_lst ea_nil (Nat.zero_le _)) fun ko H6 nko e6 hko => ?_
  have e36 := e35.trans e6
  refine q_forL (K := K) (a := l) (xs := bs.map V.ref) (ev_var rfl) (sq_of (e36 _ _ (e3 _ _ hli))) (fun i σ H7 => ∃ (y4 y5 y6 y8 : Option V) (cs : List Addr), σ = [some (.ref a), some (.int (b : Int)), some (.ref l), some (.ref de), y4, y5, y6, some (.ref ko), y8] ∧ Ex H5 H7 ∧ H7 ko = some (.lst (cs.map V.ref)) ∧ Egs H7 cs ((E.take i).filter (keepB E b))) ?_ ?_ ?_ ?_
  · intro H7 e7
    exact ⟨_, _, _, _, [], rfl, e6.trans e7, e7 _ _ hko, .nil⟩
  · rintro i σ H7 hi ⟨y4, y5, y6, y8, cs, rfl, e7, h7, hc7⟩
    exact sq_of (e7 _ _ (e35 _ _ (e3 _ _ hli)))
  · rintro i x σ H7 hx ⟨y4, y5, y6, y8, cs, rfl, e7, h7, hc7⟩
    obtain ⟨bb, ⟨s0, l0', t0⟩, rfl, hxe, hEb⟩ := eg_item (hE.keep (Tk.of e3)) hx
    have hin : (s0, l0', t0) ∈ E := List.mem_of_getElem? hxe
    have hil : i < E.length := (List.getElem?_eq_some_iff.mp hxe).1
    obtain ⟨ps, pt⟩ := ends_take_pos hin
    refine g3 ((e35.trans e7) _ _ hEb) ?_
    have hk7 := e7 _ _ hk
    have side : ∀ {σ : L2.St} {j z : Nat}, σ[j]? = some (some (.int (z : Int))) → σ[3]? = some (some (.ref de)) → σ[1]? = some (some (.int (b : Int))) → 0 < ends E z → EvT (tOr (tTest (tOp (rI0 fun i j => .bl (decide (j < i))) (tDGet (tVar 3) (tVar j)) (tC (.int 1)))) (tTest (tOp rEq (tVar j) (tVar 1)))) σ H7 (decide (1 < ends E z) || decide (z = b)) := fun {σ j z} hj h3 h1 hpos => by
      refine et_is (et_or (et_test (ev_op (ev_getK (k1 := .inl (z : Int)) (ev_var h3) (ev_var hj) rfl hk7 (by rw [hc z, if_neg (by omega)])) ev_c rv_I0)) fun _ => et_test (ev_op (ev_var hj) (ev_var h1) rv_eqI)) ?_
      have h1 : decide ((1 : Int) < ((ends E z : Nat) : Int)) = decide (1 < ends E z) := decide_eq_decide.mpr (by omega)
      have h2 : decide ((z : Int) = (b : Int)) = decide (z = b) := decide_eq_decide.mpr (by omega)
      rw [h1, h2]
    have et : (E.take (i + 1)).filter (keepB E b) = (E.take i).filter (keepB E b) ++ (if keepB E b (s0, l0', t0) = true then [(s0, l0', t0)] else []) := by
      rw [List.take_add_one, hxe, List.filter_append, Option.toList_some, List.filter_cons, List.filter_nil]
    refine s_when (b := keepB E b (s0, l0', t0)) (et_and (side rfl rfl rfl ps) fun _ => side rfl rfl rfl pt) (fun hb H8 e8 => ?_) fun hb H8 e8 => ⟨_, _, _, _, cs, rfl, e7.trans e8, e8 _ _ h7, ?_⟩
    · refine s_appU (e8 _ _ h7) (ev_var rfl) (eu_3 (ev_var rfl) (ev_var rfl) (ev_var rfl)) (by
        have h9 := pd_len hc7
        have h10 := List.length_filter_le (keepB E b) (E.take i)
        rw [List.length_take] at h10
        rw [List.length_map]
        omega) fun p H9 np e9 hp => ⟨_, _, _, _, cs ++ [p], rfl, Ex.mut (e7.trans (e8.trans e9)) nko, by rw [upd_same, List.map_append]; rfl, ?_⟩
      have tk : Tk H9 (upd H9 ko (.lst (cs.map V.ref ++ [.ref p]))) := Tk.updl (e9 _ _ (e8 _ _ h7))
      rw [et, if_pos hb]
      exact pd_app (hc7.keep ((Tk.of (e8.trans e9)).trans tk)) (.cons (Eg.keep tk hp) .nil)
    · rw [et, if_neg (by rw [hb]; decide), List.append_nil]
      exact hc7.keep (Tk.of e8)
  rintro σ H7 ⟨y4, y5, y6, y8, cs, rfl, e57, h7, hc7⟩
  rw [List.length_map, hbl, List.take_length] at hc7
  have hc7' : Egs H7 cs (kept b E) := hc7
  have hcl : cs.length = (kept b E).length := pd_len hc7'
  have hli7 := e57 _ _ (e35 _ _ (e3 _ _ hli))
  have e07 : Ex H H7 := e2.trans (e3.trans (e35.trans e57))
  refine q_when (et_test (ev_op (ev_lenL (ev_var rfl) h7) (ev_lenL (ev_var rfl) hli7) rv_eqI)) (fun hb H8 e8 => s_ret (ev_var rfl) fun H9 e9 => ?_) fun hb H8 e8 => s_asg (ev_var rfl) fun H9 e9 => ⟨ko, cs, kept b E, _, _, _, _, _, _, ?_, rfl, (e07.trans e8).trans e9, (e8.trans e9) _ _ h7, hc7'.keep (Tk.of (e8.trans e9)), hT.turn, Nat.le_trans (kept_len b E) hlE⟩
  · have h1 := of_decide_eq_true hb
    rw [List.length_map, List.length_map, hcl, hbl] at h1
    have hks := kept_same (Int.ofNat.inj h1)
    refine q _ _ ⟨(e07.trans e8).trans e9, kept b E, ⟨ko, cs, rfl, (e8.trans e9) _ _ h7, hc7'.keep (Tk.of (e8.trans e9))⟩, hT.turn, by rw [hks]; exact hks, Nat.le_trans (kept_len b E) hlE⟩
  · have h1 := of_decide_eq_false hb
    rw [List.length_map, List.length_map, hcl, hbl] at h1
    have h2 := kept_len b E
    have h3 : (kept b E).length ≠ E.length := fun h => h1 (by rw [h])
    omega
end
end FwK
end

section
set_option Elab.async false
set_option linter.all false
set_option maxRecDepth 100000
set_option maxHeartbeats 2000000
namespace FwK
open PySem PySem.Spec PyProof.Rows L2 Evl Fw FwR
def rLenK : List V → Hp → VK → Prop := fun xs H Q => ∃ a kvs, xs = [V.ref a] ∧ H a = some (.dK kvs) ∧ Q (.int kvs.length) H
theorem ev_lenK {σ : L2.St} {H : Hp} {ta : TE} {p : Addr} {kvs : List (Key × V)} (ha : Ev ta σ H (.ref p)) (h : H p = some (.dK kvs)) : Ev (tCB rLenK (tCons ta tNil)) σ H (.int (kvs.length : Int)) := fun H1 e Q q =>
  ha H1 e _ fun H2 e2 => ⟨p, kvs, rfl, e2 p _ (e p _ h), q H2 e2⟩
def pE (qs : List Nat) (e : Edge) : Edge := ((pos qs e.1).getD 0, e.2.1, (pos qs e.2.2).getD 0)
section
variable {P : Program} {w : World} {K : PySem.W.Frag} {mg : Str → Option Value} {base : Heap} {σ : L2.St} {H H' : Hp} {ta tb te : TE}
abbrev spRenum : Sp := spE (fun i : V × List Edge × Nat × (Word → Prop) => [i.1, .int (i.2.2.1 : Int)])
  (fun i H => EL H i.1 i.2.1 ∧ Smalls i.2.1 ∧ Folded i.2.1 ∧ i.2.1.length ≤ 2000 ∧ (∀ v x u, v ≠ i.2.2.1 → Fw.stp i.2.1 v x = some u → ∃ y k, y ≠ x ∧ Fw.stp i.2.1 v y = some k) ∧ ∀ u, walk (Fw.stp i.2.1) i.2.2.1 (red u) = some i.2.2.1 ↔ i.2.2.2 u)
  (fun i v H' => ∃ n es, Gr H' v n es ∧ Canon n es i.2.2.2)
theorem pos_lt {qs : List Nat} {v : Nat} (h : v ∈ qs) : (pos qs v).getD 0 < qs.length := by
  obtain ⟨k, hk⟩ := pos_some h
  rw [hk]
  exact (List.getElem?_eq_some_iff.mp (pos_at hk)).1
theorem ok_renumbered (B : Bs mg) (F : Fx K mg "renumbered" s_renumbered pn_renumbered) (g_numbered : Fd P w K mg base "numbered" pn_numbered 1 spNumbered) : Fd P w K mg base "renumbered" pn_renumbered 2 spRenum := by
  refine F.fd sc_renumbered (fun _ => rfl) fun i f cdv A outer s H Q hr hp q E => ?_
  refine ⟨_, (pss_cons (ps_asg (pe_disp (pps_cons (pv 1) pe_int pps_nil) (by rfl) (by rfl) (fun z => by cases z) (by decide)) (pg_name (i := 2) sc_renumbered.nd rfl (Or.inr rfl)))
    (pss_cons (ps_for PassesOwn.never rfl (pi_list (pv 0)) (pg_tup rfl (pgs_cons (pg_name (i := 3) sc_renumbered.nd rfl (Or.inl rfl)) (pgs_cons (pg_name (i := 4) sc_renumbered.nd rfl (Or.inl rfl)) (pgs_cons (pg_name (i := 5) sc_renumbered.nd rfl (Or.inl rfl)) pgs_nil)))) (pss_one (ps_for PassesOwn.never rfl (pi_tup (pe_tup (pa_cons (pv 3) (pa_cons (pv 5) pa_nil)))) (pg_name (i := 6) sc_renumbered.nd rfl (Or.inl rfl)) (pss_one (ps_if (pt_cmp (pc_dnotin (hu_of hr) (pv 6) (pv 2)) rfl) (pss_one (ps_dput (hu_of hr) (pv 2) (pv 6) (pe_callB (r := rLenK) call_lenD (by rfl) B.z_len PySem.boot_len (pa_cons (pv 2) pa_nil)) rfl)) pss_nil)))))
    (pss_one (ps_ret (pe_fd g_numbered (hr.mono (by decide)) (by rfl) (pa_cons (pe_lc (own := [("start", 3), ("letter", 7), ("end", 5)]) (g := (gTup K 3 (gCons (gName 3) (gCons (gName 7) (gCons (gName 5) gNil))))) rfl sc_renumbered.nd  (pi_list (pv 0)) (blkOk_by (N := nm_renumbered) (sc := defScope s_renumbered) (by decide +kernel)) (fun _ _ _ _ _ => (pg_tup rfl (pgs_cons (pg_name (i := 3) sc_renumbered.nd rfl (Or.inl rfl)) (pgs_cons (pg_name (i := 7) sc_renumbered.nd rfl (Or.inl rfl)) (pgs_cons (pg_name (i := 5) sc_renumbered.nd rfl (Or.inl rfl)) pgs_nil))))) (fun _ _ _ _ _ => pts_nil) (fun _ _ _ _ _ => (pe_tup (pa_cons (pe_dget (hu_of hr) (pv 2) (pv 3) (fun _ _ => rfl)) (pa_cons (pv 7) (pa_cons (pe_dget (hu_of hr) (pv 2) (pv 5) (fun _ _ => rfl)) pa_nil)))))) pa_nil)))))), ?_⟩
  obtain ⟨v, E, b, L⟩ := i
  obtain ⟨⟨a, bs, ev, ha, hE⟩, hs, hf, hl, hg, hL⟩ := hp
  replace ev : v = .ref a := ev
  subst ev
  replace hE : Egs H bs E := hE
  replace hs : Smalls E := hs
  replace hf : Folded E := hf
  replace hl : E.length ≤ 2000 := hl
  replace q : ∀ v H', (Ex H H' ∧ ∃ n es, Gr H' v n es ∧ Canon n es L) → Q v H' := q
  have hbl : bs.length = E.length := pd_len hE
  refine q_disp1 (k1 := .inl (b : Int)) (ev_var rfl) rfl ev_c fun dn H1 nn e1 hn => ?_
  refine q_forL (K := K) (a := a) (xs := bs.map V.ref) (ev_var rfl) (sq_of (e1 _ _ ha)) (fun i σ H2 => ∃ (y3 y4 y5 y6 : Option V) (kvs : List (Key × V)) (qs : List Nat), σ = [some (.ref a), some (.int (b : Int)), some (.ref dn), y3, y4, y5, y6, none] ∧ Ex H H2 ∧ H2 dn = some (.dK kvs) ∧ Nm kvs qs ∧ qs.Nodup ∧ qs[0]? = some b ∧ (∀ e ∈ E.take i, e.1 ∈ qs ∧ e.2.2 ∈ qs) ∧ qs.length ≤ 1 + 2 * i) ?_ ?_ ?_ ?_
  · intro H2 e2
    exact ⟨none, none, none, none, _, [b], rfl, e1.trans e2, e2 _ _ hn, Nm.one b, by simp, rfl, fun e he => by simp at he, Nat.le_refl _⟩
  · rintro i σ H2 hi ⟨y3, y4, y5, y6, kvs, qs, rfl, e2, hk, hnm, hnd, h0, hin, hql⟩
    exact sq_of (e2 _ _ ha)
  · rintro i x σ H2 hx ⟨y3, y4, y5, y6, kvs, qs, rfl, e2, hk, hnm, hnd, h0, hin, hql⟩
    obtain ⟨bb, ⟨s0, l0, t0⟩, rfl, hxe, hEb⟩ := eg_item hE hx
    have hil : i < E.length := (List.getElem?_eq_some_iff.mp hxe).1
    refine g3 (e2 _ _ hEb) ?_
    -- for point in (start, end)
    refine s_forNT (K := K) (g := gName 6) (xs := [.int (s0 : Int), .int (t0 : Int)]) (eu_2 (ev_var rfl) (ev_var rfl)) (fun p j σ H3 => ∃ (y6 : Option V) (kvs : List (Key × V)) (qs2 : List Nat), σ = [some (.ref a), some (.int (b : Int)), some (.ref dn), some (.int (s0 : Int)), some (tx [l0]), some (.int (t0 : Int)), y6, none] ∧ Ex H H3 ∧ H3 dn = some (.dK kvs) ∧ H3 p = some (.tup [.int (s0 : Int), .int (t0 : Int)]) ∧ Nm kvs qs2 ∧ qs2.Nodup ∧ qs2[0]? = some b ∧ (∀ z ∈ qs, z ∈ qs2) ∧ (1 ≤ j → s0 ∈ qs2) ∧ (2 ≤ j → t0 ∈ qs2) ∧ qs2.length ≤ qs.length + j) ?_ ?_ ?_ ?_
    · intro p H3 np e3 hp
      exact ⟨_, kvs, qs, rfl, e2.trans e3, e3 _ _ hk, hp, hnm, hnd, h0, fun z h => h, fun h => by omega, fun h => by omega, Nat.le_refl _⟩
    · rintro p j σ H3 hj ⟨y6, kvs, qs2, rfl, e3, hk3, hp, _⟩
      exact hp
    · rintro p j x σ H3 hx ⟨y6, kvs, qs2, rfl, e3, hk3, hp, hnm, hnd, h0, hsub, hs1, hs2, hql2⟩
      have hj : j = 0 ∨ j = 1 := by
        have := (List.getElem?_eq_some_iff.mp hx).1
        have h2 : [V.int (s0 : Int), .int (t0 : Int)].length = 2 := rfl
        omega
      have turn : ∀ (z : Nat), (∀ qs3 : List Nat, (∀ y ∈ qs2, y ∈ qs3) → z ∈ qs3 → (1 ≤ j + 1 → s0 ∈ qs3) ∧ (2 ≤ j + 1 → t0 ∈ qs3)) → ∀ D0 : Ends,
          (∀ H4 kvs qs3, Ex H H4 → H4 dn = some (.dK kvs) → H4 p = some (.tup [.int (s0 : Int), .int (t0 : Int)]) → Nm kvs qs3 → qs3.Nodup → qs3[0]? = some b → (∀ z ∈ qs, z ∈ qs3) → (1 ≤ j + 1 → s0 ∈ qs3) → (2 ≤ j + 1 → t0 ∈ qs3) → qs3.length ≤ qs.length + (j + 1) → D0.nx [some (.ref a), some (.int (b : Int)), some (.ref dn), some (.int (s0 : Int)), some (tx [l0]), some (.int (t0 : Int)), some (.int (z : Int)), none] H4) →
          tIfS (tB (tDNotIn (tVar 6) (tVar 2))) (sDPut (tVar 2) (tVar 6) (tCB rLenK (tCons (tVar 2) tNil))) tNext D0 [some (.ref a), some (.int (b : Int)), some (.ref dn), some (.int (s0 : Int)), some (tx [l0]), some (.int (t0 : Int)), some (.int (z : Int)), none] H3 := fun z hz D0 kd => by
        refine s_when (et_B (ev_ninK (k1 := .inl (z : Int)) (ev_var rfl) (ev_var rfl) rfl hk3)) (fun hb H4 e4 => ?_) fun hb H4 e4 => ?_
        · have hzn : z ∉ qs2 := by
            rw [hnm.isSome] at hb
            simpa using hb
          have hz3 := hz (qs2 ++ [z]) (fun y hy => List.mem_append_left _ hy) (by simp)
          refine s_putK (k1 := .inl (z : Int)) (v := .int (qs2.length : Int)) (ev_is (ev_lenK (ev_var rfl) (e4 _ _ hk3)) (by rw [hnm.len])) (ev_var rfl) (ev_var rfl) rfl (e4 _ _ hk3) (by rw [hnm.len]; omega) fun H5 e5 => kd _ _ (qs2 ++ [z]) (Ex.mut (e3.trans (e4.trans e5)) nn) upd_same ((Tk.updk (e5 _ _ (e4 _ _ hk3))) _ _ ((e4.trans e5) _ _ hp)) (hnm.add hzn) ?_ ?_ (fun y hy => List.mem_append_left _ (hsub y hy)) hz3.1 hz3.2 ?_
          · rw [List.nodup_append]
            exact ⟨hnd, by simp, fun x hx y hy e => hzn (by rw [← List.mem_singleton.mp hy, ← e]; exact hx)⟩
          · rw [List.getElem?_append_left (List.getElem?_eq_some_iff.mp h0).1]
            exact h0
          · rw [List.length_append]
            show qs2.length + 1 ≤ _
            omega
        · have hzn : z ∈ qs2 := by
            rw [hnm.isSome] at hb
            simpa using hb
          have hz3 := hz qs2 (fun y hy => hy) hzn
          exact kd _ _ qs2 (e3.trans e4) (e4 _ _ hk3) (e4 _ _ hp) hnm hnd h0 hsub hz3.1 hz3.2 (by omega)
      rcases hj with rfl | rfl
      · cases hx
        exact turn s0 (fun qs3 hs3 hz => ⟨fun _ => hz, fun h => by omega⟩) _ fun H4 kvs qs3 c1 c2 c3 c4 c5 c6 c7 c8 c9 c10 => ⟨_, kvs, qs3, rfl, c1, c2, c3, c4, c5, c6, c7, c8, c9, c10⟩
      · cases hx
        exact turn t0 (fun qs3 hs3 hz => ⟨fun _ => hs3 _ (hs1 (Nat.le_refl _)), fun _ => hz⟩) _ fun H4 kvs qs3 c1 c2 c3 c4 c5 c6 c7 c8 c9 c10 => ⟨_, kvs, qs3, rfl, c1, c2, c3, c4, c5, c6, c7, c8, c9, c10⟩
    · rintro p σ H3 ⟨y6, kvs, qs2, rfl, e3, hk3, hp, hnm, hnd, h0, hsub, hs1, hs2, hql2⟩
      have hs1' := hs1 (Nat.le_of_ble_eq_true rfl)
      have hs2' := hs2 (Nat.le_of_ble_eq_true rfl)
      refine ⟨_, _, _, _, kvs, qs2, rfl, e3, hk3, hnm, hnd, h0, fun e he => ?_, ?_⟩
      · rw [List.take_add_one, hxe] at he
        rcases List.mem_append.mp he with he | he
        · exact ⟨hsub _ (hin e he).1, hsub _ (hin e he).2⟩
        · rw [List.mem_singleton.mp he]
          exact ⟨hs1', hs2'⟩
      · have h2 : [V.int (s0 : Int), .int (t0 : Int)].length = 2 := rfl
        rw [h2] at hql2
        omega
  · rintro σ H2 ⟨y3, y4, y5, y6, kvs, qs, rfl, e2, hk, hnm, hnd, h0, hin, hql⟩
    rw [List.length_map, hbl, List.take_length] at hin
    rw [List.length_map, hbl] at hql
    obtain ⟨d1, d2, d3, d4⟩ := relabel (E4 := E.map (pE qs)) hs hf hnd h0 hin rfl hg hL
    refine s_retP (ep_fdP (epa_cons (R := fun v H' => EL H' v (E.map (pE qs))) (EvP.imp (ep_lcLst (K := K) (a := a) (xs := bs.map V.ref) (fun _ => true) (fun j v H' => ∃ (b : Addr) (e : Edge), v = .ref b ∧ E[j]? = some e ∧ Eg H' b (pE qs e)) (fun _ _ _ _ k r => by
      obtain ⟨b, e, h1, h2, h3⟩ := r
      exact ⟨b, e, h1, h2, h3.keep k⟩) (ev_var rfl) (e2 _ _ ha) (by rw [List.length_map]; omega) fun j y H3 Q2 hy e3 kk => ?_) fun v H3 e3 r => ?_) (fun _ _ _ e r => r.keep e) epa_nil) fun vs H3 e3 hvs => ?_) fun v H3 e3 r => q _ _ ⟨e2.trans e3, r⟩
    · obtain ⟨bb, ⟨s0, l0, t0⟩, rfl, hxe, hEb⟩ := eg_item hE hy
      obtain ⟨i1, i2⟩ := hin _ (List.mem_of_getElem? hxe)
      obtain ⟨k1, hk1⟩ := pos_some i1
      obtain ⟨k2, hk2⟩ := pos_some i2
      have hk1' : pos qs s0 = some k1 := hk1
      have hk2' : pos qs t0 = some k2 := hk2
      refine g3 ((e2.trans e3) _ _ hEb) (kk _ rfl et_yes fun _ => EvP.imp (EvP.ofU (eu_3 (ev_getK (k1 := .inl (s0 : Int)) (v := .int (k1 : Int)) (ev_var rfl) (ev_var rfl) rfl (e3 _ _ hk) (by rw [hnm.at_, hk1']; rfl)) (ev_var rfl) (ev_getK (k1 := .inl (t0 : Int)) (v := .int (k2 : Int)) (ev_var rfl) (ev_var rfl) rfl (e3 _ _ hk) (by rw [hnm.at_, hk2']; rfl)))) fun v H4 e4 ⟨p, ev, _, hp⟩ => ⟨p, _, ev, hxe, ?_⟩)
      unfold Eg pE
      rw [hp, hk1', hk2']
      rfl
    · rw [List.length_map, hbl] at r
      exact edges_of r
    · obtain ⟨v1, r1, rfl, hv1, hr1⟩ := hvs
      subst hr1
      have hqpos : 0 < qs.length := (List.getElem?_eq_some_iff.mp h0).1
      refine ⟨(v1, E.map (pE qs), qs.length), rfl, ⟨hv1, d1, d2, by rw [List.length_map]; omega, hqpos, by show qs.length ≤ 20000; omega, fun e he => ?_⟩, ?_⟩
      · obtain ⟨e0, he0, rfl⟩ := List.mem_map.mp he
        exact ⟨pos_lt (hin _ he0).1, pos_lt (hin _ he0).2⟩
      · rintro v H4 e4 ⟨F4, k4, es, hG, hB, hk, hN, hs, hl, hF⟩
        exact ⟨F4.length, es, hG, canon_of d1 d2 hB hk hN hs d3 d4⟩
end
end FwK
end

section
set_option Elab.async false
set_option linter.all false
set_option maxRecDepth 100000
set_option maxHeartbeats 2000000
namespace FwK
open PySem PySem.Spec PyProof.Rows L2 Evl Fw FwR
theorem perm_of {α : Type} {l m : List α} (h1 : l.Nodup) (h2 : m.Nodup) (h : ∀ x, x ∈ l ↔ x ∈ m) : l.Perm m := (List.perm_ext_iff_of_nodup h1 h2).mpr h
theorem elt_nodup {es : List Edge} (h : es.Pairwise elt) : es.Nodup := h.imp fun {a b} h e => by
  subst e
  exact elt_asymm h h
def EIn (r : Nat) (E : List Edge) : Prop := ∀ e ∈ E, e.2.1.idx < 2 * r
theorem edg_small (v : Nat) (x : Let) (u : Nat) : (edg v x u).2.1.small = true := by
  unfold edg
  by_cases h : x.small = true
  · rw [if_pos h]; exact h
  · rw [if_neg h]
    show x.flip.small = true
    rw [Let.small_flip]
    simpa using h
theorem edg_idx (v : Nat) (x : Let) (u r : Nat) (h : x.idx < 2 * r) : (edg v x u).2.1.idx < 2 * r := by
  unfold edg
  by_cases hs : x.small = true
  · rw [if_pos hs]; exact h
  · rw [if_neg hs]
    show x.flip.idx < _
    have : x.flip.idx < x.idx := by cases x <;> first | (exact absurd rfl hs) | decide
    omega
section
variable {P : Program} {w : World} {K : PySem.W.Frag} {mg : Str → Option Value} {base : Heap} {σ : L2.St} {H H' : Hp} {ta tb te : TE}
theorem q_un2 {D : Ends} {tz : TS} {i j : Nat} {S : V → V → Hp → Prop} (h : EvP te σ H (fun v H' => ∃ p x y, v = .ref p ∧ H' p = some (.tup [x, y]) ∧ S x y H')) (k : ∀ x y H1, Ex H H1 → S x y H1 → tz D ((σ.set i (some x)).set j (some y)) H1) :
    tSeq (tAsg te (gTup K 2 (gCons (gName i) (gCons (gName j) gNil)))) tz D σ H := h H (Ex.refl H) _ fun v H1 e1 ⟨p, x, y, ev, hp, hs⟩ => by
  subst ev
  exact g2 (Q := fun σ' H' => tz D σ' H') hp (k x y H1 e1 hs)
theorem ep_graphR {n : Nat} {S : List Edge → Prop} (ha : Ev ta σ H (.int (n : Int))) (hb : EvP tb σ H (fun v H' => ∃ p cs, v = .ref p ∧ H' p = some (.lst (cs.map V.ref)) ∧ ∃ fs, Egs H' cs fs ∧ S fs)) :
    EvP (tTup (tCons ta (tCons (tCB (rTupOf K) (tCons tb tNil)) tNil))) σ H (fun v H' => ∃ fs, Gr H' v n fs ∧ S fs) := fun H1 e1 Q q =>
  ha H1 e1 _ fun H2 e2 => hb H2 (e1.trans e2) _ fun v H3 e3 ⟨p, cs, ev, hp, fs, hE, hS⟩ => ⟨p, cs.map V.ref, by rw [ev], .inl ⟨sq_of hp, fun l nl => ⟨sz_of (Nat.le_of_ble_eq_true rfl), fun g ng => q _ _ (((e2.trans e3).trans (Ex.new nl)).trans (Ex.new ng)) ⟨fs, ⟨g, l, cs, rfl, upd_same, by rw [upd_ne (ne_of_none upd_same ng)]; exact upd_same, hE.keep ((Tk.new nl).trans (Tk.new ng))⟩, hS⟩⟩⟩⟩
theorem ep_pair {y : V} {R : V → Hp → Prop} (ha : EvP ta σ H R) (hb : Ev tb σ H y) (hR : ∀ v H1 H2, Ex H1 H2 → R v H1 → R v H2) : EvP (tTup (tCons ta (tCons tb tNil))) σ H (fun v H' => ∃ p x, v = .ref p ∧ H' p = some (.tup [x, y]) ∧ R x H') := fun H1 e1 Q q =>
  ha H1 e1 _ fun x H2 e2 r => hb H2 (e1.trans e2) _ fun H3 e3 => ⟨sz_of (Nat.le_of_ble_eq_true rfl), fun p np => q _ _ ((e2.trans e3).trans (Ex.new np)) ⟨p, x, rfl, upd_same, hR _ _ _ (e3.trans (Ex.new np)) r⟩⟩
theorem ep_sortE {a : Addr} {bs : List Addr} {E : List Edge} (h : Ev ta σ H (.ref a)) (ha : H a = some (.lst (bs.map V.ref))) (hE : Egs H bs E) (hs : Smalls E) (hn : E.Nodup) :
    EvP (tCB (rSortT K) (tCons ta tNil)) σ H (fun v H' => ∃ p cs, v = .ref p ∧ H' p = some (.lst (cs.map V.ref)) ∧ ∃ fs, Egs H' cs fs ∧ fs.Perm E ∧ fs.Pairwise elt) := fun H1 e1 Q q =>
  h H1 e1 _ fun H2 e2 => ⟨a, bs, E.map ek, rfl, sq_of (e2 _ _ (e1 _ _ ha)), (hE.keep (Tk.of (e1.trans e2))).tups, alikeK_ek E, fun p cs np ht => by
    obtain ⟨fs, h1, h2, h3, h4⟩ := sort_ek hs hn
    rw [h1] at ht
    exact q _ _ (e2.trans (Ex.new np)) ⟨p, cs, rfl, upd_same, fs, (Egs.of_tups ht).keep (Tk.new np), perm_of (elt_nodup h3) hn h2, h3⟩⟩
abbrev spAttach : Sp := spE (fun i : (V × Nat × List Edge) × Word × Nat => [i.1.1, tx i.2.1])
  (fun i H => Gr H i.1.1 i.1.2.1 i.1.2.2 ∧ Smalls i.1.2.2 ∧ Folded i.1.2.2 ∧ i.1.2.2.Nodup ∧ (∀ e ∈ i.1.2.2, e.1 < i.1.2.1 ∧ e.2.2 < i.1.2.1) ∧ 0 < i.1.2.1 ∧ Rd i.2.1 ∧ i.2.1.length ≤ 300 ∧ i.1.2.2.length ≤ 300 ∧ EIn i.2.2 i.1.2.2 ∧ InR i.2.2 i.2.1)
  (fun i v H' => ∃ (p g : Addr) (E : List Edge) (cnt here : Nat) (E2 : List Edge), v = .ref p ∧ H' p = some (.tup [.ref g, .int (here : Int)]) ∧ Gr H' (.ref g) cnt E2 ∧ Att i.1.2.1 i.1.2.2 i.2.1 E cnt here ∧ E2.Perm E ∧ EIn i.2.2 E)
theorem ok_attach (B : Bs mg) (F : Fx K mg "attach" s_attach pn_attach) (g_ways_in : Fd P w K mg base "ways_in" pn_ways_in 1 spWays) : Fd P w K mg base "attach" pn_attach 2 spAttach := by
  refine F.fd sc_attach (fun _ => rfl) fun i f cdv A outer s H Q hr hp q E => ?_
  refine ⟨_, (pss_cons (ps_asg (pv 0) (pg_tup rfl (pgs_cons (pg_name (i := 2) sc_attach.nd rfl (Or.inl rfl)) (pgs_cons (pg_name (i := 3) sc_attach.nd rfl (Or.inl rfl)) pgs_nil))))
    (pss_cons (ps_asg (pe_callTy (r := rListOf K) call_list_of (by rfl) B.z_list (by decide +kernel) (pa_cons (pv 3) pa_nil)) (pg_name (i := 3) sc_attach.nd rfl (Or.inl rfl)))
    (pss_cons (ps_asg (pe_fd g_ways_in (hr.mono (by decide)) (by rfl) (pa_cons (pv 0) pa_nil)) (pg_name (i := 4) sc_attach.nd rfl (Or.inl rfl)))
    (pss_cons (ps_asg pe_int (pg_name (i := 5) sc_attach.nd rfl (Or.inl rfl)))
    (pss_cons (ps_for PassesOwn.never rfl (pi_str (pv 1)) (pg_name (i := 6) sc_attach.nd rfl (Or.inl rfl)) (pss_cons (ps_if (pt_cmp (pc_dnotin (hu_of hr) (pe_tup (pa_cons (pv 5) (pa_cons (pv 6) pa_nil))) (pv 4)) rfl) (pss_cons (ps_asg (pe_ifExp (pt_cmpR op_in_sign (pv 6) (pe_k B.c_SMALL) (by rfl)) (pe_tup (pa_cons (pv 5) (pa_cons (pv 6) (pa_cons (pv 2) pa_nil)))) (pe_tup (pa_cons (pv 2) (pa_cons (pe_lower (pv 6)) (pa_cons (pv 5) pa_nil))))) (pg_name (i := 7) sc_attach.nd rfl (Or.inl rfl)))
    (pss_cons (ps_expr (pe_bmK K rfl (pe_bm PySem.F.plainAttrs_list PySem.F.slot_list_append PySem.F.type_list_append mt_append (pv 3) (pa_cons (pv 7) pa_nil))))
    (pss_cons (ps_dput (hu_of hr) (pv 4) (pe_tup (pa_cons (pe_ix (r := rIxT K) ix_tup (pv 7) pe_int (fun _ _ => rfl)) (pa_cons (pe_ix (r := rIxT K) ix_tup (pv 7) pe_int (fun _ _ => rfl)) pa_nil))) (pe_ix (r := rIxT K) ix_tup (pv 7) pe_int (fun _ _ => rfl)) rfl)
    (pss_cons (ps_dput (hu_of hr) (pv 4) (pe_tup (pa_cons (pe_ix (r := rIxT K) ix_tup (pv 7) pe_int (fun _ _ => rfl)) (pa_cons (pe_upper (pe_ix (r := rIxT K) ix_tup (pv 7) pe_int (fun _ _ => rfl))) pa_nil))) (pe_ix (r := rIxT K) ix_tup (pv 7) pe_int (fun _ _ => rfl)) rfl)
    (pss_one (ps_asg (pe_op op_add (pv 2) pe_int) (pg_name (i := 2) sc_attach.nd rfl (Or.inl rfl)))))))) pss_nil)
    (pss_one (ps_asg (pe_dget (hu_of hr) (pv 4) (pe_tup (pa_cons (pv 5) (pa_cons (pv 6) pa_nil))) (fun _ _ => rfl)) (pg_name (i := 5) sc_attach.nd rfl (Or.inl rfl))))))
    (pss_one (ps_ret (pe_tup (pa_cons (pe_tup (pa_cons (pv 2) (pa_cons (pe_callTy (r := rTupOf K) call_tuple_of (by rfl) B.z_tuple (by decide +kernel) (pa_cons (pe_callB (r := rSortT K) (call_sortT (h64 hr)) (by rfl) B.z_sorted (by decide +kernel) (pa_cons (pv 3) pa_nil)) pa_nil)) pa_nil))) (pa_cons (pv 5) pa_nil)))))))))), ?_⟩
  obtain ⟨⟨v, n, es⟩, u, r⟩ := i
  obtain ⟨hG, hs, hf, hn, hlt, h0, hu, hul, hel, hei, hui⟩ := hp
  obtain ⟨p, a, bs, ev, hp, ha, hE⟩ := id hG
  replace ev : v = .ref p := ev
  subst ev
  replace hG : Gr H (.ref p) n es := hG
  replace hE : Egs H bs es := hE
  replace hp : H p = some (.tup [.int (n : Int), .ref a]) := hp
  replace hs : Smalls es := hs
  replace hf : Folded es := hf
  replace hn : es.Nodup := hn
  replace hlt : ∀ e ∈ es, e.1 < n ∧ e.2.2 < n := hlt
  replace h0 : 0 < n := h0
  replace hu : Rd u := hu
  replace hul : u.length ≤ 300 := hul
  replace hel : es.length ≤ 300 := hel
  replace hei : EIn r es := hei
  replace hui : InR r u := hui
  replace q : ∀ v H', (Ex H H' ∧ ∃ (p g : Addr) (E : List Edge) (cnt here : Nat) (E2 : List Edge), v = .ref p ∧ H' p = some (.tup [.ref g, .int (here : Int)]) ∧ Gr H' (.ref g) cnt E2 ∧ Att n es u E cnt here ∧ E2.Perm E ∧ EIn r E) → Q v H' := q
  -- count, edges = graph
  refine q_un2 (K := K) (S := fun x y _ => x = .int (n : Int) ∧ y = .ref a) (EvP.imp (EvP.of (ev_var rfl)) fun v H0 e0 hv => ⟨p, _, _, hv, e0 _ _ hp, rfl, rfl⟩) fun x y H0 e0 ⟨hx, hy⟩ => ?_
  subst hx hy
  refine q_asgL (el_ofT (K := K) (ev_var rfl) (e0 _ _ ha)) fun el H1 nel e1 hl1 => ?_
  have e01 := e0.trans e1
  refine q_asgP (ep_fdN (.ref p, n, es) (ea_cons (ev_var rfl) ea_nil) rfl (fun H2 e2 => ⟨hG.keep (Tk.of (e01.trans e2)), hs, hf, Nat.le_trans hel (by decide)⟩) fun H2 v H' e2 ⟨d, kvs, ev, h1, h2⟩ => ⟨d, kvs, ev, fresh_back e2 h1, h2⟩) fun wv H2 e2 ⟨wd, kvs, ewv, nwd, hwd, hwz⟩ => ?_
  subst ewv
  replace hwz : Wz kvs es := hwz
  have e02 := e01.trans e2
  refine q_asg ev_c fun H3 e3 => ?_
  refine q_forW (w := u) (ev_var rfl) (fun j σ H4 => ∃ (y6 y7 : Option V) (kvs : List (List Key × V)) (bs : List Addr) (E : List Edge) (cnt here : Nat), σ = [some (.ref p), some (tx u), some (.int (cnt : Int)), some (.ref el), some (.ref wd), some (.int (here : Int)), y6, y7] ∧ Ex H H4 ∧ H4 el = some (.lst (bs.map V.ref)) ∧ Egs H4 bs E ∧ H4 wd = some (.dT kvs) ∧ Wz kvs E ∧ Att n es (u.take j) E cnt here ∧ EIn r E) ?_ ?_ ?_
  · intro H4 e4
    exact ⟨none, none, kvs, bs, es, n, 0, rfl, e02.trans (e3.trans e4), (e2.trans (e3.trans e4)) _ _ hl1, hE.keep (Tk.of (e02.trans (e3.trans e4))), (e3.trans e4) _ _ hwd, hwz, Att.nil h0 hs hf hn hlt, hei⟩
  · rintro j x σ H4 hj ⟨y6, y7, kvs, bs, E, cnt, here, rfl, e4, hl4, hE4, hw4, hz4, A4, hi4⟩
    have hju := (List.getElem?_eq_some_iff.mp hj).1
    have etk : u.take (j + 1) = u.take j ++ [x] := by rw [List.take_add_one, hj]; rfl
    have hrd : Rd (u.take j ++ [x]) := by
      rw [← etk]
      have : Rd (u.take (j + 1) ++ u.drop (j + 1)) := by rw [List.take_append_drop]; exact hu
      exact this.left
    have hElen := A4.elen
    rw [List.length_take] at hElen
    have hbl : bs.length = E.length := pd_len hE4
    have fin : ∀ H5 kvs' bs' E' cnt' u' y7, Ex H H5 → H5 el = some (.lst (bs'.map V.ref)) → Egs H5 bs' E' → H5 wd = some (.dT kvs') → Wz kvs' E' → Att n es (u.take j ++ [x]) E' cnt' u' → EIn r E' → Fw.stp E' here x = some u' → ∀ D0 : Ends,
        (∀ H6 y6 y7 kvs bs E cnt here, Ex H H6 → H6 el = some (.lst (bs.map V.ref)) → Egs H6 bs E → H6 wd = some (.dT kvs) → Wz kvs E → Att n es (u.take j ++ [x]) E cnt here → EIn r E → D0.nx [some (.ref p), some (tx u), some (.int (cnt : Int)), some (.ref el), some (.ref wd), some (.int (here : Int)), y6, y7] H6) →
        tAsg (tDGet (tVar 4) (tTup (tCons (tVar 5) (tCons (tVar 6) tNil)))) (gName 5) D0 [some (.ref p), some (tx u), some (.int (cnt' : Int)), some (.ref el), some (.ref wd), some (.int (here : Int)), some (tx [x]), y7] H5 := fun H5 kvs' bs' E' cnt' u' y7 e5 h1 h2 h3 h4 h5 h6 h7 D0 kd =>
      s_asg (ev_getT (k := zk here x) (v := .int (u' : Int)) (ev_var rfl) (eu_2 (ev_var rfl) (ev_var rfl)) h3 (by rw [h4.get h5.fold, h7]; rfl)) fun H6 e6 => kd H6 _ _ _ _ _ cnt' u' (e5.trans e6) (e6 _ _ h1) (h2.keep (Tk.of e6)) (e6 _ _ h3) h4 h5 h6
    rw [etk]
    refine q_when (et_B (ev_ninT (k := zk here x) (eu_2 (ev_var rfl) (ev_var rfl)) (ev_var rfl) hw4)) (fun hb H5 e5 => ?_) fun hb H5 e5 => ?_
    · have hst : Fw.stp E here x = none := by
        rw [hz4.get A4.fold] at hb
        cases h : Fw.stp E here x with
        | none => rfl
        | some z => rw [h] at hb; cases hb
      have A5 := A4.put h0 hst
      generalize hedg : edg here x cnt = eg at A5
      obtain ⟨s1, l1, t1⟩ := eg
      have hl1s : l1.small = true := by have := edg_small here x cnt; rw [hedg] at this; exact this
      have hEx : EvP (tIf (tTest (tOp (fun x y H Q => ∃ (c : Nat) (z : Str), x = .str ⟨#[c]⟩ ∧ y = .str z ∧ Q (.bl (decide (c ∈ z.cps.toList))) H) (tVar 6) (tC (.str "abc")))) (tTup (tCons (tVar 5) (tCons (tVar 6) (tCons (tVar 2) tNil)))) (tTup (tCons (tVar 2) (tCons (tM0 (fun x xs H Q => ∃ a, x = .str a ∧ xs = [] ∧ a.length ≤ 5592405 ∧ Q (.str (Txt.lower a)) H) (tVar 6)) (tCons (tVar 5) tNil)))))
          [some (.ref p), some (tx u), some (.int (cnt : Int)), some (.ref el), some (.ref wd), some (.int (here : Int)), some (tx [x]), y7] H5 (fun v H6 => ∃ b, v = .ref b ∧ Eg H6 b (s1, l1, t1)) := fun H6 e6 Q' q' => by
        have habc : V.str "abc" = tx [.a, .b, .c] := by rw [abc_eq]
        have hd : decide (x ∈ ([.a, .b, .c] : Word)) = x.small := by cases x <;> decide
        refine et_test (ev_op (ev_var rfl) (ev_is ev_c habc) rv_sign) H6 e6 _ fun H7 e7 => ?_
        rw [hd]
        cases hsx : x.small with
        | true =>
          rw [if_pos rfl]
          refine eu_3 (ev_var rfl) (ev_var rfl) (ev_var rfl) H7 (e6.trans e7) _ fun pp H8 np e8 hpp => q' _ _ (e7.trans e8) ⟨pp, rfl, ?_⟩
          rw [← hedg]
          unfold Eg edg
          rw [if_pos hsx, hpp]
        | false =>
          rw [if_neg (by decide)]
          refine eu_3 (ev_var rfl) (ev_low (ev_var rfl)) (ev_var rfl) H7 (e6.trans e7) _ fun pp H8 np e8 hpp => q' _ _ (e7.trans e8) ⟨pp, rfl, ?_⟩
          rw [← hedg]
          unfold Eg edg
          rw [if_neg (by rw [hsx]; decide), hpp, Let.low_of_big hsx]
      refine q_seq (q_asgP hEx fun ev H6 e6 ⟨eb, hev, hEb⟩ => ?_)
      subst hev
      have e56 := e5.trans e6
      have it : ∀ {H7 : Hp} {σ : L2.St} {j : Nat} {v : V}, Tk H6 H7 → σ[7]? = some (some (.ref eb)) → [V.int (s1 : Int), tx [l1], .int (t1 : Int)][j]? = some v → Ev (tOp (rIxT K) (tVar 7) (tC (.int (j : Int)))) σ H7 v := fun tk h7 hv => ev_ixt (ev_var h7) ev_c (tk _ _ hEb) hv
      refine q_app (e56 _ _ hl4) (ev_var rfl) (ev_var rfl) (by rw [List.length_map]; omega) fun H7 e7 => ?_
      have tk7 : Tk H6 (upd H7 el (.lst (bs.map V.ref ++ [.ref eb]))) := (Tk.of e7).trans (Tk.updl (e7 _ _ (e56 _ _ hl4)))
      have hel8 : (upd H7 el (.lst (bs.map V.ref ++ [.ref eb]))) el = some (.lst ((bs ++ [eb]).map V.ref)) := by rw [upd_same, List.map_append]; rfl
      have hwd8 : (upd H7 el (.lst (bs.map V.ref ++ [.ref eb]))) wd = some (.dT kvs) := by
        rw [upd_ne (ne_of (e7 _ _ (e56 _ _ hw4)) (e7 _ _ (e56 _ _ hl4)) (by intro z; cases z))]
        exact e7 _ _ (e56 _ _ hw4)
      have ex8 : Ex H (upd H7 el (.lst (bs.map V.ref ++ [.ref eb]))) := Ex.mut (e4.trans (e56.trans e7)) (fresh_back e0 nel)
      have hE8 : Egs (upd H7 el (.lst (bs.map V.ref ++ [.ref eb]))) (bs ++ [eb]) (E ++ [(s1, l1, t1)]) := pd_app (hE4.keep ((Tk.of e56).trans tk7)) (.cons (Eg.keep tk7 hEb) .nil)
      generalize upd H7 el (.lst (bs.map V.ref ++ [.ref eb])) = H8 at tk7 hel8 hwd8 ex8 hE8 ⊢
      have hzl := hz4.len
      refine q_putT (k := zk s1 l1) (it (j := 2) tk7 rfl rfl) (ev_var rfl) (eu_2 (it (j := 0) tk7 rfl rfl) (it (j := 1) tk7 rfl rfl)) hwd8 (by omega) fun H9 e9 => ?_
      have tk9 : Tk H6 (upd H9 wd (.dT (putK kvs (zk s1 l1) (.int (t1 : Int))))) := (tk7.trans (Tk.of e9)).trans (Tk.updt (e9 _ _ hwd8))
      refine q_putT (k := zk t1 l1.flip) (it (j := 0) tk9 rfl rfl) (ev_var rfl) (eu_2 (it (j := 2) tk9 rfl rfl) (ev_is (ev_up (it (j := 1) tk9 rfl rfl)) (by rw [Let.up_of_small hl1s]; rfl))) upd_same (Nat.lt_of_le_of_lt (length_putK _ _ _) (by omega)) fun H10 e10 => ?_
      have hdl : el ≠ wd := ne_of hel8 hwd8 (by intro z; cases z)
      have hwfresh : H wd = none := fresh_back e01 nwd
      have x10 := Ex.mut ((Ex.mut (ex8.trans e9) hwfresh).trans e10) hwfresh (o := .dT (putK (putK kvs (zk s1 l1) (.int (t1 : Int))) (zk t1 l1.flip) (.int (s1 : Int))))
      have t10 : Tk H8 (upd H10 wd (.dT (putK (putK kvs (zk s1 l1) (.int (t1 : Int))) (zk t1 l1.flip) (.int (s1 : Int))))) := (((Tk.of e9).trans (Tk.updt (e9 _ _ hwd8))).trans (Tk.of e10)).trans (Tk.updt (e10 _ _ upd_same))
      have l10 : (upd H10 wd (.dT (putK (putK kvs (zk s1 l1) (.int (t1 : Int))) (zk t1 l1.flip) (.int (s1 : Int))))) el = some (.lst ((bs ++ [eb]).map V.ref)) := by
        rw [upd_ne hdl]
        exact e10 _ _ (by rw [upd_ne hdl]; exact e9 _ _ hel8)
      have w10 : (upd H10 wd (.dT (putK (putK kvs (zk s1 l1) (.int (t1 : Int))) (zk t1 l1.flip) (.int (s1 : Int))))) wd = some _ := upd_same
      generalize upd H10 wd (.dT (putK (putK kvs (zk s1 l1) (.int (t1 : Int))) (zk t1 l1.flip) (.int (s1 : Int)))) = H11 at x10 t10 l10 w10 ⊢
      refine s_asg (ev_is (ev_op (ev_var rfl) ev_c rv_I0) (v := .int ((cnt : Int) + 1)) (w := .int ((cnt + 1 : Nat) : Int)) rfl) fun H12 e12 => ?_
      refine fin H12 _ (bs ++ [eb]) (E ++ [(s1, l1, t1)]) (cnt + 1) cnt _ (x10.trans e12) (e12 _ _ l10) (hE8.keep (t10.trans (Tk.of e12))) (e12 _ _ w10) (hz4.step hl1s A5.fold) A5 (fun e he => ?_) ?_ _ fun H13 y6 y7 kvs bs E cnt here c1 c2 c3 c4 c5 c6 c7 => ⟨y6, y7, kvs, bs, E, cnt, here, rfl, c1, c2, c3, c4, c5, c6, c7⟩
      · rcases List.mem_append.mp he with he | he
        · exact hi4 e he
        · rw [List.mem_singleton.mp he, ← hedg]
          exact edg_idx _ _ _ _ (hui x (List.mem_of_getElem? hj))
      · exact (stp_iff A5.fold).mpr (has_edg.mpr (by rw [hedg]; simp))
    · obtain ⟨z, hz⟩ : ∃ z, Fw.stp E here x = some z := by
        rw [hz4.get A4.fold] at hb
        cases h : Fw.stp E here x with
        | none => rw [h] at hb; cases hb
        | some z => exact ⟨z, rfl⟩
      exact fin H5 kvs bs E cnt z _ (e4.trans e5) (e5 _ _ hl4) (hE4.keep (Tk.of e5)) (e5 _ _ hw4) hz4 (A4.walkOn hlt hrd hz) hi4 hz _ fun H13 y6 y7 kvs bs E cnt here c1 c2 c3 c4 c5 c6 c7 => ⟨y6, y7, kvs, bs, E, cnt, here, rfl, c1, c2, c3, c4, c5, c6, c7⟩
  · rintro σ H4 ⟨y6, y7, kvs, bs, E, cnt, here, rfl, e4, hl4, hE4, hw4, hz4, A4, hi4⟩
    rw [List.take_length] at A4
    refine s_retP (ep_pair (ep_graphR (K := K) (S := fun fs => fs.Perm E) (ev_var rfl) (EvP.imp (ep_sortE (K := K) (ev_var rfl) hl4 hE4 A4.sm A4.nd) fun v H5 e5 ⟨p, cs, c1, c2, fs, c3, c4, _⟩ => ⟨p, cs, c1, c2, fs, c3, c4⟩)) (ev_var rfl) fun v H1 H2 e ⟨fs, c1, c2⟩ => ⟨fs, c1.keep (Tk.of e), c2⟩) fun v H5 e5 ⟨p, x, c1, c2, E2, c3, c4⟩ => ?_
    obtain ⟨g, qq, bs2, cx, c5, c6, c7⟩ := id c3
    subst cx
    exact q _ _ ⟨e4.trans e5, p, g, E, cnt, here, E2, c1, c2, c3, A4, c4, hi4⟩
end
end FwK
end

section
set_option Elab.async false
set_option linter.all false
set_option maxRecDepth 100000
set_option maxHeartbeats 2000000
namespace FwK
open PySem PySem.Spec PyProof.Rows L2 Evl Fw FwR
/-! ### the letters of a graph -/
theorem idx_flip (l : Let) (r : Nat) : l.flip.idx < 2 * r ↔ l.idx < 2 * r := by
  cases l <;> simp only [Let.flip, Let.idx] <;> omega
theorem InR.inv {r : Nat} {w : Word} (h : InR r w) : InR r (Fw.inv w) := fun l hl => by
  unfold Fw.inv at hl
  obtain ⟨x, hx, rfl⟩ := List.mem_map.mp hl
  exact (idx_flip x r).mpr (h x (List.mem_reverse.mp hx))
theorem InR.app {r : Nat} {u v : Word} (h : InR r u) (k : InR r v) : InR r (u ++ v) := fun l hl => by
  rcases List.mem_append.mp hl with hl | hl
  · exact h l hl
  · exact k l hl
theorem InR.red {r : Nat} {w : Word} (h : InR r w) : InR r (Fw.red w) := fun l hl => h l (mem_red hl)
theorem InR.left {r : Nat} {u v : Word} (h : InR r (u ++ v)) : InR r u := fun l hl => h l (List.mem_append_left _ hl)
theorem InR.right {r : Nat} {u v : Word} (h : InR r (u ++ v)) : InR r v := fun l hl => h l (List.mem_append_right _ hl)
theorem inr_grp (r : Nat) : Grp fun w => InR r (Fw.red w) where
  one := fun l hl => by cases hl
  mul := fun {u v} hu hv => by
    have e : Eqv (Fw.red u ++ Fw.red v) (u ++ v) := (eqv_red u).app (eqv_red v)
    have e2 : Fw.red (Fw.red u ++ Fw.red v) = Fw.red (u ++ v) := e
    show InR r (Fw.red (u ++ v))
    rw [← e2]
    exact (InR.app hu hv).red
  inv := fun {u} hu => by
    have e : Eqv (Fw.inv (Fw.red u)) (Fw.inv u) := (eqv_red u).inv
    have e2 : Fw.red (Fw.inv (Fw.red u)) = Fw.red (Fw.inv u) := e
    show InR r (Fw.red (Fw.inv u))
    rw [← e2]
    exact (InR.inv hu).red
  eqv := fun {u v} e hu => by
    have e2 : Fw.red u = Fw.red v := e
    show InR r (Fw.red v)
    rw [← e2]
    exact hu
theorem canon_in {n : Nat} {es : List Edge} {ws : List Word} {r : Nat} (c : Canon n es (Gen ws)) (h : ∀ u ∈ ws, InR r u) : EIn r es := by
  have hgen : ∀ w, Gen ws w → InR r (Fw.red w) := fun w hw => Gen.all (inr_grp r) (fun u hu => (h u hu).red) hw
  have hloop : ∀ w u, Rd (w ++ u) → walk (Fw.stp es) 0 (w ++ u) = some 0 → InR r (w ++ u) := fun w u hr hw => by
    have := hgen (w ++ u) ((c.lang (w ++ u)).mp (by rw [red_of_rd hr]; exact hw))
    rw [red_of_rd hr] at this
    exact this
  have hhome : ∀ w v, w ≠ [] → Rd w → walk (Fw.stp es) 0 w = some v → InR r w := fun w v hne hr hw => by
    obtain ⟨u, h1, h2⟩ := home c.pa c.goes c.pos c.bound hne hr hw
    exact (hloop w u h1 h2).left
  intro e he
  obtain ⟨a, l, b⟩ := e
  show l.idx < 2 * r
  have hls : l.small = true := c.sm _ he
  have hst : Fw.stp es a l = some b := (stp_iff c.fold).mpr (by unfold Has; rw [if_pos hls]; exact he)
  obtain ⟨ps, hn, f⟩ := c.firsts
  obtain ⟨p, hp⟩ : ∃ p, ps[a]? = some p := ⟨_, List.getElem?_eq_getElem (by rw [hn]; exact (c.lt _ he).1)⟩
  have hw := walk_red c.pa (f.at_ _ _ hp)
  have hr := red_rd p
  generalize Fw.red p = w at hw hr
  have hw2 : walk (Fw.stp es) 0 (w ++ [l]) = some b := by
    rw [walk_app hw]
    show walk (Fw.stp es) a [l] = some b
    show (match Fw.stp es a l with | none => none | some u => walk (Fw.stp es) u []) = some b
    rw [hst]
    rfl
  by_cases hr2 : Rd (w ++ [l])
  · have := hhome _ _ (by simp) hr2 hw2
    exact this l (by simp)
  · rw [rd_app] at hr2
    have : ∃ x, w.getLast? = some x ∧ l = x.flip := Classical.byContradiction fun hc => hr2 ⟨hr, ⟨by simp, True.intro⟩, fun x y hx hy he => hc ⟨x, hx, by
      have : l = y := by simpa using hy
      rw [this]; exact he⟩⟩
    obtain ⟨x, hx, rfl⟩ := this
    have hne : w ≠ [] := fun e => by rw [e] at hx; cases hx
    have := hhome w a hne hr hw x (List.mem_of_getLast? hx)
    exact (idx_flip x r).mpr this
/-! ### graphs compared -/
def grD (n : Nat) (es : List Edge) : PyData := .tuple [.int (n : Int), .tuple (es.map fun e => keysD (ek e))]
theorem eqv_keys : ∀ e f : Edge, PyData.eqv (keysD (ek e)) (keysD (ek f)) = decide (e = f) := fun e f => by
  obtain ⟨a, x, b⟩ := e
  obtain ⟨c, y, d⟩ := f
  show (PyData.eqv (.int (a : Int)) (.int (c : Int)) && (PyData.eqv (.str (T [x])) (.str (T [y])) && (PyData.eqv (.int (b : Int)) (.int (d : Int)) && true))) = _
  rw [eqv_int, eqv_str, eqv_int, Bool.and_true]
  have h1 : decide ((a : Int) = (c : Int)) = decide (a = c) := decide_eq_decide.mpr (by omega)
  have h2 : decide (T [x] = T [y]) = decide (x = y) := decide_eq_decide.mpr ⟨fun h => List.head_eq_of_cons_eq (T_inj h), fun h => by rw [h]⟩
  have h3 : decide ((b : Int) = (d : Int)) = decide (b = d) := decide_eq_decide.mpr (by omega)
  rw [h1, h2, h3, ← Bool.decide_and, ← Bool.decide_and]
  exact decide_eq_decide.mpr (by simp)
theorem eqv_edges : ∀ es fs : List Edge, PyData.eqvAll (es.map fun e => keysD (ek e)) (fs.map fun e => keysD (ek e)) = decide (es = fs)
  | [], [] => by simp [PyData.eqvAll]
  | [], _ :: _ => by simp [PyData.eqvAll]
  | _ :: _, [] => by simp [PyData.eqvAll]
  | e :: es, f :: fs => by
    rw [List.map_cons, List.map_cons]
    show (PyData.eqv _ _ && PyData.eqvAll _ _) = _
    rw [eqv_keys, eqv_edges es fs, ← Bool.decide_and]
    exact decide_eq_decide.mpr (by simp)
theorem eqv_gr (n m : Nat) (es fs : List Edge) : PyData.eqv (grD n es) (grD m fs) = decide (n = m ∧ es = fs) := by
  show (PyData.eqv (.int (n : Int)) (.int (m : Int)) && (PyData.eqvAll _ _ && true)) = _
  rw [eqv_int, eqv_edges, Bool.and_true, ← Bool.decide_and]
  exact decide_eq_decide.mpr ⟨fun h => ⟨Int.ofNat.inj h.1, h.2⟩, fun h => ⟨by rw [h.1], h.2⟩⟩
theorem kok_ek (e : Edge) : KOk (ek e) := fun s hs => by
  simp [ek] at hs
  rw [hs]
  exact T_ok _
theorem lay_edges : ∀ es : List Edge, PyData.canLayAll0 (es.map fun e => keysD (ek e)) = true
  | [] => by simp [PyData.canLayAll0]
  | e :: es => by
    have h := lay_keys (ek e) (kok_ek e)
    have : (keysD (ek e)).canLay0 = true := by simp [keysD, PyData.canLay0, h]
    simp [PyData.canLayAll0, this, lay_edges es]
theorem depth_edges : ∀ es : List Edge, PyData.depthAll (es.map fun e => keysD (ek e)) ≤ 1
  | [] => by simp [PyData.depthAll]
  | e :: es => by
    rw [List.map_cons, PyData.depthAll]
    exact Nat.max_le.mpr ⟨keysD_depth (ek e), depth_edges es⟩
theorem shaped_gr (n : Nat) (es : List Edge) : SeqAt.shaped (grD n es) = true := by
  have h1 : (grD n es).canLay0 = true := by simp [grD, PyData.canLay0, PyData.canLayAll0, lay_edges]
  have h2 := depth_edges es
  have h3 : (grD n es).depth ≤ 3 := by
    simp only [grD, PyData.depth, PyData.depthAll]
    omega
  unfold SeqAt.shaped
  rw [h1, decide_eq_true (by omega)]
  rfl
theorem dp_edges {K : PySem.W.Frag} {H : Hp} : ∀ {bs : List Addr} {es : List Edge}, Egs H bs es → DpAll K H (bs.map V.ref) (es.map fun e => keysD (ek e))
  | _, _, .nil => .nil
  | _, _, .cons h t => .cons (dp_tup (by exact h)) (dp_edges t)
theorem dp_gr {K : PySem.W.Frag} {H : Hp} {v : V} {n : Nat} {es : List Edge} (h : Gr H v n es) : Dp K H v (grD n es) := by
  obtain ⟨p, q, bs, e, h1, h2, h3⟩ := h
  subst e
  exact .tup (SqT.of h1) (.cons (.int _) (.cons (.tup (SqT.of h2) (dp_edges h3)) .nil))
section
variable {P : Program} {w : World} {K : PySem.W.Frag} {mg : Str → Option Value} {base : Heap} {σ : L2.St} {H H' : Hp} {ta tb te : TE}
/-- g == h for graphs -/
theorem ep_eqGr {S1 S2 : Nat → List Edge → Prop} (ha : EvP ta σ H (fun v H' => ∃ n es, Gr H' v n es ∧ S1 n es)) (hb : EvP tb σ H (fun v H' => ∃ n es, Gr H' v n es ∧ S2 n es)) :
    EvP (tOp (rEqD K) ta tb) σ H (fun v _ => ∃ n es m fs, S1 n es ∧ S2 m fs ∧ v = .bl (decide (n = m ∧ es = fs))) := fun H1 e1 Q q =>
  ha H1 e1 _ fun x H2 e2 ⟨n, es, g1, s1⟩ => hb H2 (e1.trans e2) _ fun y H3 e3 ⟨m, fs, g2, s2⟩ => ⟨grD n es, grD m fs, dp_gr (g1.keep (Tk.of e3)), dp_gr g2, shaped_gr n es, shaped_gr m fs, by
    rw [eqv_gr]
    exact q _ _ (e2.trans e3) ⟨n, es, m, fs, s1, s2, rfl⟩⟩
abbrev spMoved : Sp := spE (fun i : (V × Nat × List Edge) × Word × Nat × (Word → Prop) => [i.1.1, tx i.2.1])
  (fun i H => Gr H i.1.1 i.1.2.1 i.1.2.2 ∧ Canon i.1.2.1 i.1.2.2 i.2.2.2 ∧ Grp i.2.2.2 ∧ i.1.2.2.length ≤ 300 ∧ EIn i.2.2.1 i.1.2.2 ∧ InR i.2.2.1 i.2.1 ∧ i.2.1.length ≤ 300)
  (fun i v H' => ∃ n es, Gr H' v n es ∧ Canon n es (Cj i.2.2.2 (Fw.red i.2.1)))
theorem ok_moved (B : Bs mg) (F : Fx K mg "moved" s_moved pn_moved) (g_reduce_of : Fd P w K mg base "reduce_of" pn_reduce_of 2 spRed) (g_attach : Fd P w K mg base "attach" pn_attach 2 spAttach) (g_trimmed_edges : Fd P w K mg base "trimmed_edges" pn_trimmed_edges 1 spTrim) (g_renumbered : Fd P w K mg base "renumbered" pn_renumbered 2 spRenum) :
    Fd P w K mg base "moved" pn_moved 3 spMoved := by
  refine F.fd sc_moved (fun _ => rfl) fun i f cdv A outer s H Q hr hp q E => ?_
  refine ⟨_, (pss_cons (ps_asg (pe_fd g_attach (hr.mono (by decide)) (by rfl) (pa_cons (pv 0) (pa_cons (pe_fd g_reduce_of (hr.mono (by decide)) (by rfl) (pa_cons (pv 1) pa_nil)) pa_nil))) (pg_tup rfl (pgs_cons (pg_name (i := 2) sc_moved.nd rfl (Or.inl rfl)) (pgs_cons (pg_name (i := 3) sc_moved.nd rfl (Or.inl rfl)) pgs_nil))))
    (pss_one (ps_ret (pe_fd g_renumbered (hr.mono (by decide)) (by rfl) (pa_cons (pe_fd g_trimmed_edges (hr.mono (by decide)) (by rfl) (pa_cons (pe_ix (r := rIxT K) ix_tup (pv 2) pe_int (fun _ _ => rfl)) (pa_cons (pv 3) pa_nil))) (pa_cons (pv 3) pa_nil)))))), ?_⟩
  obtain ⟨⟨v, n, es⟩, u, r, L⟩ := i
  obtain ⟨hG, hC, hL, hel, hei, hui, hul⟩ := hp
  replace hC : Canon n es L := hC
  replace hL : Grp L := hL
  replace hel : es.length ≤ 300 := hel
  replace hei : EIn r es := hei
  replace hui : InR r u := hui
  replace hul : u.length ≤ 300 := hul
  replace hG : Gr H v n es := hG
  replace q : ∀ v H', (Ex H H' ∧ ∃ n es, Gr H' v n es ∧ Canon n es (Cj L (Fw.red u))) → Q v H' := q
  refine q_un2 (K := K) (S := fun x y H' => ∃ (g : Addr) (E : List Edge) (cnt here : Nat) (E2 : List Edge), x = .ref g ∧ y = .int (here : Int) ∧ Gr H' (.ref g) cnt E2 ∧ Att n es (Fw.red u) E cnt here ∧ E2.Perm E) (EvP.imp (ep_fd ((v, n, es), Fw.red u, r) (ea_cons (ev_var rfl) (ea_cons (ev_fd u (ea_cons (ev_var rfl) ea_nil) rfl fun _ _ => Nat.le_trans hul (by decide)) ea_nil)) rfl fun H1 e1 => ⟨hG.keep (Tk.of e1), hC.sm, hC.fold, hC.nodup, hC.lt, hC.pos, red_rd u, Nat.le_trans (red_len u) hul, hel, hei, hui.red⟩) fun v H1 e1 ⟨p, g, E, cnt, here, E2, c1, c2, c3, c4, c5, c6⟩ => ⟨p, .ref g, .int (here : Int), c1, c2, g, E, cnt, here, E2, rfl, rfl, c3, c4, c5⟩) fun x y H1 e1 ⟨g, E, cnt, here, E2, hx, hy, hg, A, hpm⟩ => ?_
  subst hx hy
  obtain ⟨g', a, bs, eg, hg1, hg2, hg3⟩ := hg
  cases eg
  have hAl := A.elen
  have hE2l := hpm.length_eq
  have hrl := red_len u
  refine s_retP (ep_fdP (epa_cons (R := fun v H' => ∃ E3, EL H' v E3 ∧ Trim here E2 E3 ∧ kept here E3 = E3 ∧ E3.length ≤ E2.length) (ep_fd ((a, bs, E2), here) (ea_cons (ev_ixt (j := 1) (ev_var rfl) ev_c hg1 rfl) (ea_cons (ev_var rfl) ea_nil)) rfl fun H2 e2 => ⟨e2 _ _ hg2, hg3.keep (Tk.of e2), by show E2.length ≤ 5000; omega⟩) (fun _ _ _ e ⟨E3, d1, d2⟩ => ⟨E3, d1.keep e, d2⟩) (EvPA.of (ea_cons (ev_var rfl) ea_nil))) fun vs H2 e2 hvs => ?_) fun v H2 e2 r => q _ _ ⟨e1.trans e2, r⟩
  obtain ⟨v1, r1, rfl, ⟨E3, hEL, hT, hk, hl3⟩, hr1⟩ := hvs
  subst hr1
  obtain ⟨m1, m2, m3, m4⟩ := moved_lang hC hL A hpm hT hk
  exact ⟨(v1, E3, here, Cj L (Fw.red u)), rfl, ⟨hEL, m1, m2, by show E3.length ≤ 2000; omega, m3, m4⟩, fun v H3 e3 r => r⟩
/-- the two families' words, conjugated -/
abbrev spConjBy : Sp := spE (fun i : ((V × V) × Nat × List Word × List Word) × Word => [i.1.1.1, i.1.1.2, tx i.2]) (fun i H => (Fam H i.1.1.1 i.1.2.1 i.1.2.2.1 ∧ FamOk i.1.2.1 i.1.2.2.1 ∧ Fam H i.1.1.2 i.1.2.1 i.1.2.2.2 ∧ FamOk i.1.2.1 i.1.2.2.2) ∧ InR i.1.2.1 i.2 ∧ i.2.length ≤ 100)
  (fun i v _ => ∃ b : Bool, v = .bl b ∧ (b = true ↔ Conj (Gen i.1.2.2.1) (Gen i.1.2.2.2) i.2))
theorem conj_canon {n m : Nat} {es fs : List Edge} {L1 L2 : Word → Prop} {u : Word} (g1 : Grp L1) (c : Canon n es (Cj L1 (Fw.red u))) (d : Canon m fs L2) : decide (n = m ∧ es = fs) = true ↔ Conj L1 L2 u := by
  rw [decide_eq_true_iff]
  have he : Conj L1 L2 (Fw.red u) ↔ Conj L1 L2 u := ⟨fun h => h.eqv g1 (eqv_red u).symm, fun h => h.eqv g1 (eqv_red u)⟩
  rw [← he]
  constructor
  · rintro ⟨rfl, rfl⟩ w
    rw [← d.lang, ← c.lang]
  · intro h
    exact c.uniq d fun w => (h w).symm
theorem ok_is_conjugate_by (B : Bs mg) (F : Fx K mg "is_conjugate_by" s_is_conjugate_by pn_is_conjugate_by) (g_graph_in : Fd P w K mg base "graph_in" pn_graph_in 10 spGraphIn) (g_moved : Fd P w K mg base "moved" pn_moved 3 spMoved) : Fd P w K mg base "is_conjugate_by" pn_is_conjugate_by 11 spConjBy := by
  refine F.fd sc_is_conjugate_by (fun _ => rfl) fun i f cdv A outer s H Q hr hp q E => ?_
  refine ⟨_, (pss_one (ps_ret (pe_cmpR (op_eqD hr.units) (pe_fd g_moved (hr.mono (by decide)) (by rfl) (pa_cons (pe_fd g_graph_in (hr.mono (by decide)) (by rfl) (pa_cons (pv 0) pa_nil)) (pa_cons (pv 2) pa_nil))) (pe_fd g_graph_in (hr.mono (by decide)) (by rfl) (pa_cons (pv 1) pa_nil)) (nomark _)))), ?_⟩
  obtain ⟨⟨⟨v1, v2⟩, r, w1, w2⟩, u⟩ := i
  obtain ⟨⟨f1, ok1, f2, ok2⟩, hui, hul⟩ := hp
  replace hul : u.length ≤ 100 := hul
  refine s_retP (ep_eqGr (S1 := fun n es => Canon n es (Cj (Gen w1) (Fw.red u))) (S2 := fun n es => Canon n es (Gen w2)) (ep_fdP (epa_cons (R := fun v H' => ∃ n es, Gr H' v n es ∧ Canon n es (Gen w1) ∧ n ≤ 33 ∧ es.length ≤ 33) (ep_fd (v1, r, w1) (ea_cons (ev_var rfl) ea_nil) rfl fun H1 e1 => ⟨f1.keep (Tk.of e1), ok1⟩) (fun _ _ _ e ⟨n, es, d1, d2⟩ => ⟨n, es, d1.keep (Tk.of e), d2⟩) (EvPA.of (ea_cons (ev_var rfl) ea_nil))) fun vs H1 e1 hvs => ?_) (EvP.imp (ep_fd (v2, r, w2) (ea_cons (ev_var rfl) ea_nil) rfl fun H1 e1 => ⟨f2.keep (Tk.of e1), ok2⟩) fun v H1 e1 ⟨n, es, d1, d2, _⟩ => ⟨n, es, d1, d2⟩)) fun v H1 e1 ⟨n, es, m, fs, s1, s2, hv⟩ => q _ _ ⟨e1, _, hv, conj_canon (gen_grp w1) s1 s2⟩
  obtain ⟨v3, r1, rfl, ⟨n, es, hG, hC, hn, hes⟩, hr1⟩ := hvs
  subst hr1
  exact ⟨((v3, n, es), u, r, Gen w1), rfl, ⟨hG, hC, gen_grp w1, by show es.length ≤ 300; omega, canon_in hC fun z hz => (ok1.2.2.2 z hz).1, hui, by show u.length ≤ 300; omega⟩, fun v H3 e3 r => r⟩
theorem ok_is_conjugator (B : Bs mg) (F : Fx K mg "is_conjugator" s_is_conjugator pn_is_conjugator) (g_check_long : Fd P w K mg base "check_long" pn_check_long 7 spCheckLong) (g_is_conjugate_by : Fd P w K mg base "is_conjugate_by" pn_is_conjugate_by 11 spConjBy) : Fd P w K mg base "is_conjugator" pn_is_conjugator 12 spConjBy := by
  refine F.fd sc_is_conjugator (fun _ => rfl) fun i f cdv A outer s H Q hr hp q E => ?_
  refine ⟨_, (pss_cons (ps_expr (pe_fd g_check_long (hr.mono (by decide)) (by rfl) (pa_cons (pv 0) (pa_cons (pv 1) (pa_cons (pv 2) pa_nil)))))
    (pss_one (ps_ret (pe_fd g_is_conjugate_by (hr.mono (by decide)) (by rfl) (pa_cons (pv 0) (pa_cons (pv 1) (pa_cons (pv 2) pa_nil))))))), ?_⟩
  have keep : ∀ H1, Ex H H1 → (Fam H1 i.1.1.1 i.1.2.1 i.1.2.2.1 ∧ FamOk i.1.2.1 i.1.2.2.1 ∧ Fam H1 i.1.1.2 i.1.2.1 i.1.2.2.2 ∧ FamOk i.1.2.1 i.1.2.2.2) ∧ InR i.1.2.1 i.2 ∧ i.2.length ≤ 100 := fun H1 e1 => ⟨⟨hp.1.1.keep (Tk.of e1), hp.1.2.1, hp.1.2.2.1.keep (Tk.of e1), hp.1.2.2.2⟩, hp.2⟩
  refine q_drop (ev_fd i (ea_cons (ev_var rfl) (ea_cons (ev_var rfl) (ea_cons (ev_var rfl) ea_nil))) rfl keep) fun H1 e1 => ?_
  exact s_retP (ep_fd i (ea_cons (ev_var rfl) (ea_cons (ev_var rfl) (ea_cons (ev_var rfl) ea_nil))) rfl fun H2 e2 => keep H2 (e1.trans e2)) fun v H2 e2 r => q _ _ ⟨e1.trans e2, r⟩
end
end FwK
end

section
set_option Elab.async false
set_option linter.all false
set_option maxRecDepth 100000
set_option maxHeartbeats 2000000
namespace FwK
open PySem PySem.Spec PyProof.Rows L2 Evl Fw FwR
/-! ### more of the search -/
section
variable {s : Fw.Act} {F : List (Nat × Word)} {k i : Nat}
theorem bfs_uni (b : Bfs s F k i) {v : Nat} {p q : Word} (h1 : (v, p) ∈ F) (h2 : (v, q) ∈ F) : p = q := by
  obtain ⟨j1, e1⟩ := List.getElem?_of_mem h1
  obtain ⟨j2, e2⟩ := List.getElem?_of_mem h2
  have m1 : (F.map (·.1))[j1]? = some v := by rw [List.getElem?_map, e1]; rfl
  have m2 : (F.map (·.1))[j2]? = some v := by rw [List.getElem?_map, e2]; rfl
  have := nd_at b.nd m1 m2
  subst this
  rw [e1] at e2
  injection e2 with e2
  injection e2
theorem bfs_len (b : Bfs s F k i) : ∀ (j : Nat) (v : Nat) (q : Word), F[j]? = some (v, q) → q.length ≤ j := by
  intro j
  induction j using Nat.strongRecOn with
  | _ j ih =>
    intro v q hj
    rcases b.from_ v q (List.mem_of_getElem? hj) with e | ⟨j', w, p, y, h1, h2, _⟩
    · rw [e]; exact Nat.zero_le _
    · have lj := (List.getElem?_eq_some_iff.mp hj).1
      have lj' := (List.getElem?_eq_some_iff.mp h1).1
      have hlt : j' < j := by
        rcases Nat.lt_trichotomy j' j with h | h | h
        · exact h
        · subst h
          rw [hj] at h1
          injection h1 with h1
          injection h1 with _ h1
          have := congrArg List.length h2
          rw [h1] at this
          simp at this
        · have := List.pairwise_iff_getElem.mp b.srt j j' (by simpa using lj) (by simpa using lj') h
          simp only [List.getElem_map] at this
          rw [(List.getElem?_eq_some_iff.mp hj).2, (List.getElem?_eq_some_iff.mp h1).2] at this
          have h3 : sl q p := this
          have h4 := sle_len (sle_of_sl h3)
          rw [h2] at h4
          simp at h4
          omega
      have := ih j' hlt w p h1
      rw [h2, List.length_append]
      show p.length + 1 ≤ j
      omega
/-- what lies beyond the search is later -/
theorem bfs_claim (b : Bfs s F k i) : ∀ (n : Nat) (w : Word) (v : Nat), w.length ≤ n → walk s 0 w = some v → (∃ q, (v, q) ∈ F ∧ sle q w) ∨ ∀ u p, (u, p) ∈ F → sl p w := by
  intro n
  induction n with
  | zero =>
    intro w v hl h
    have e : w = [] := List.length_eq_zero_iff.mp (by omega)
    subst e
    have e2 : 0 = v := Option.some.inj h
    subst e2
    exact .inl ⟨[], List.mem_of_getElem? b.zero, sle_refl _⟩
  | succ n ih =>
    intro w v hl h
    rcases List.eq_nil_or_concat w with e | ⟨w0, x, e⟩
    · subst e
      have e2 : 0 = v := Option.some.inj h
      subst e2
      exact .inl ⟨[], List.mem_of_getElem? b.zero, sle_refl _⟩
    · have e' : w = w0 ++ [x] := by simpa using e
      subst e'
      obtain ⟨u, h1, h2⟩ := walk_unsnoc h
      rcases ih w0 u (by simp at hl; omega) h1 with ⟨q, h3, h4⟩ | h3
      · obtain ⟨j, hj⟩ := List.getElem?_of_mem h3
        by_cases hd : j < k ∨ (j = k ∧ x.idx < i)
        · obtain ⟨r, h5, h6⟩ := b.done j u q x v hj hd h2
          exact .inl ⟨r, h5, sle_trans h6 (sle_snoc x h4)⟩
        · refine .inr fun z p hp => sl_sle ?_ (sle_snoc x h4)
          rcases b.from_ z p hp with e | ⟨j', w', p', y, g1, g2, g3⟩
          · rw [e]; exact sl_nil (by simp)
          · rw [g2]
            have lj := (List.getElem?_eq_some_iff.mp hj).1
            have lj' := (List.getElem?_eq_some_iff.mp g1).1
            by_cases hjj : j' < j
            · have := List.pairwise_iff_getElem.mp b.srt j' j (by simpa using lj') (by simpa using lj) hjj
              simp only [List.getElem_map] at this
              rw [(List.getElem?_eq_some_iff.mp hj).2, (List.getElem?_eq_some_iff.mp g1).2] at this
              exact sl_snoc y x this
            · have hjk : j = k := by omega
              have hjk' : j' = k := by omega
              subst hjk
              subst hjk'
              rw [hj] at g1
              injection g1 with g1
              injection g1 with _ g1
              rw [← g1]
              exact sl_snoc_same _ (by omega)
      · exact .inr fun z p hp => sl_trans (h3 z p hp) (by
          refine .inl ?_
          rw [List.length_append]
          show w0.length < w0.length + 1
          omega)
theorem bfs_first (b : Bfs s F k i) {v : Nat} {f : Word} (h : (v, f) ∈ F) : First s v f := by
  refine ⟨b.ways v f h, fun w hw => ?_⟩
  rcases bfs_claim b w.length w v (Nat.le_refl _) hw with ⟨q, h1, h2⟩ | h1
  · rw [bfs_uni b h h1]; exact h2
  · exact sle_of_sl (h1 v f h)
/-- the words' ways by their vertices -/
def pth (F : List (Nat × Word)) (v : Nat) : Option Word := (F.find? fun vp => decide (vp.1 = v)).map (·.2)
def oT : Option Word → V
  | none => .non
  | some p => tx p
theorem pth_none {v : Nat} : pth F v = none ↔ v ∉ F.map (·.1) := by
  unfold pth
  rw [Option.map_eq_none_iff, List.find?_eq_none, List.mem_map]
  constructor
  · rintro h ⟨x, h1, h2⟩
    exact h x h1 (decide_eq_true h2)
  · intro h x hx hd
    exact h ⟨x, hx, of_decide_eq_true hd⟩
theorem pth_mem {v : Nat} {p : Word} (h : pth F v = some p) : (v, p) ∈ F := by
  unfold pth at h
  obtain ⟨⟨u, q⟩, h1, h2⟩ := Option.map_eq_some_iff.mp h
  have h3 := List.mem_of_find?_eq_some h1
  have h4 := List.find?_some h1
  have h5 : u = v := of_decide_eq_true h4
  have h6 : q = p := h2
  rw [← h5, ← h6]
  exact h3
theorem pth_of (b : Bfs s F k i) {v : Nat} {p : Word} (h : (v, p) ∈ F) : pth F v = some p := by
  cases hq : pth F v with
  | none => exact absurd (List.mem_map.mpr ⟨_, h, rfl⟩) (pth_none.mp hq)
  | some q => rw [bfs_uni b (pth_mem hq) h]
theorem pth_snoc {u : Nat} {q : Word} (hu : u ∉ F.map (·.1)) (v : Nat) : pth (F ++ [(u, q)]) v = if u = v then some q else pth F v := by
  by_cases e : u = v
  · subst e
    rw [if_pos rfl]
    have := pth_none.mpr hu
    unfold pth at this ⊢
    rw [List.find?_append, Option.map_eq_none_iff.mp this]
    simp
  · rw [if_neg e]
    unfold pth
    rw [List.find?_append]
    cases h : F.find? fun vp => decide (vp.1 = v) with
    | none => simp [e]
    | some z => rfl
/-- the row of ways, None where none is known -/
def fnd (F : List (Nat × Word)) (n : Nat) : List V := (List.range n).map fun v => oT (pth F v)
theorem fnd_set {n u : Nat} {q : Word} (hu : u ∉ F.map (·.1)) (hn : u < n) : (fnd F n).set u (tx q) = fnd (F ++ [(u, q)]) n := by
  apply List.ext_getElem?
  intro j
  unfold fnd
  rw [List.getElem?_set, List.getElem?_map]
  by_cases hj : j < n
  · rw [List.length_map, List.length_range, List.getElem?_map, List.getElem?_range hj]
    show _ = some (oT (pth (F ++ [(u, q)]) j))
    rw [pth_snoc hu]
    by_cases e : u = j
    · subst e
      rw [if_pos rfl, if_pos rfl, if_pos hn]
      rfl
    · rw [if_neg e, if_neg e]
      rfl
  · by_cases e : u = j
    · omega
    · rw [if_neg e, List.getElem?_map, List.getElem?_eq_none (l := List.range n) (by rw [List.length_range]; omega)]
      rfl
theorem fnd_get {n v : Nat} (h : v < n) : (fnd F n)[v]? = some (oT (pth F v)) := by
  unfold fnd
  rw [List.getElem?_map, List.getElem?_range h]
  rfl
theorem oT_non (o : Option Word) : decide (oT o = .non) = o.isNone := by cases o <;> rfl
theorem grow_none {v : Nat} {p : Word} {x : Let} (h : s v x = none) : grow s F v p x = F := by
  unfold grow
  rw [h]
theorem grow_old {v u : Nat} {p : Word} {x : Let} (h : s v x = some u) (hu : u ∈ F.map (·.1)) : grow s F v p x = F := by
  unfold grow
  rw [h]
  show (if u ∈ F.map (·.1) then F else _) = F
  rw [if_pos hu]
theorem grow_new {v u : Nat} {p : Word} {x : Let} (h : s v x = some u) (hu : u ∉ F.map (·.1)) : grow s F v p x = F ++ [(u, p ++ [x])] := by
  unfold grow
  rw [h]
  show (if u ∈ F.map (·.1) then F else _) = _
  rw [if_neg hu]
end
theorem lets_len (r : Nat) (h3 : r ≤ 3) : (lets r).length = 2 * r := by
  unfold lets
  rw [List.length_take]
  show min (2 * r) 6 = _
  omega
theorem lets_idx {r t : Nat} {x : Let} (h : (lets r)[t]? = some x) : x.idx = t := by
  unfold lets at h
  rw [List.getElem?_take] at h
  split at h
  · have ht := (List.getElem?_eq_some_iff.mp h).1
    have h6 : t < 6 := ht
    have : t = 0 ∨ t = 1 ∨ t = 2 ∨ t = 3 ∨ t = 4 ∨ t = 5 := by omega
    rcases this with e | e | e | e | e | e <;> subst e <;> (cases h; rfl)
  · cases h
theorem ein_stp {r : Nat} {E : List Edge} (he : EIn r E) (hf : Folded E) {v u : Nat} {y : Let} (h : Fw.stp E v y = some u) : y.idx < 2 * r := by
  have h1 := (stp_iff hf).mp h
  unfold Has at h1
  split at h1
  · exact he _ h1
  · exact (idx_flip y r).mp (he _ h1)
section
variable {P : Program} {w : World} {K : PySem.W.Frag} {mg : Str → Option Value} {base : Heap} {σ : L2.St} {H H' : Hp} {ta tb te : TE}
theorem flat_rep : ∀ n : Nat, (List.replicate n [V.non]).flatten = List.replicate n .non
  | 0 => rfl
  | n + 1 => by rw [List.replicate_succ, List.flatten_cons, flat_rep n, List.replicate_succ]; rfl
theorem el_repN {n : Nat} (hb : Ev tb σ H (.int (n : Int))) (hn : n ≤ 100000) : EvL (tOp rRep (tLst (tCons (tC .non) tNil)) tb) σ H (List.replicate n .non) := fun H1 e1 Q q =>
  ⟨sz_of (Nat.le_of_ble_eq_true rfl), fun p np => hb _ (e1.trans (Ex.new np)) _ fun H2 e2 => ⟨p, _, [.non], rfl, rfl, e2 _ _ upd_same, by omega, by omega, sz_of (by rw [Int.toNat_natCast]; show 1 * n ≤ 100000; omega), fun p2 np2 => by
    have hx : Ex H1 H2 := (Ex.new np).trans e2
    rw [Int.toNat_natCast, flat_rep]
    exact q p2 _ (fresh_back hx np2) (hx.trans (Ex.new np2)) upd_same⟩⟩
abbrev spPaths : Sp := spE (fun i : (V × Nat × List Edge) × Nat × (Word → Prop) => [.int (i.2.1 : Int), i.1.1]) (fun i H => Gr H i.1.1 i.1.2.1 i.1.2.2 ∧ Canon i.1.2.1 i.1.2.2 i.2.2 ∧ EIn i.2.1 i.1.2.2 ∧ 1 ≤ i.2.1 ∧ i.2.1 ≤ 3 ∧ i.1.2.1 ≤ 300 ∧ i.1.2.2.length ≤ 300)
  (fun i v H' => ∃ (a : Addr) (ps : List Word), v = .ref a ∧ H' a = some (.lst (ps.map tx)) ∧ ps.length = i.1.2.1 ∧ (∀ k p, ps[k]? = some p → walk (Fw.stp i.1.2.2) 0 p = some k ∧ p.length < i.1.2.1 ∧ InR i.2.1 p) ∧ ps[0]? = some [])
theorem ok_paths_in (B : Bs mg) (F : Fx K mg "paths_in" s_paths_in pn_paths_in) (g_ways_in : Fd P w K mg base "ways_in" pn_ways_in 1 spWays) (g_letters_of : Fd P w K mg base "letters_of" pn_letters_of 1 spLetters) : Fd P w K mg base "paths_in" pn_paths_in 2 spPaths := by
  refine F.fd sc_paths_in (fun _ => rfl) fun i f cdv A outer s H Q hr hp q E => ?_
  refine ⟨_, (pss_cons (ps_asg (pe_fd g_ways_in (hr.mono (by decide)) (by rfl) (pa_cons (pv 1) pa_nil)) (pg_name (i := 2) sc_paths_in.nd rfl (Or.inl rfl)))
    (pss_cons (ps_asg (pe_op op_rep (pe_lst (pa_cons pe_non pa_nil)) (pe_ix (r := rIxT K) ix_tup (pv 1) pe_int (fun _ _ => rfl))) (pg_name (i := 3) sc_paths_in.nd rfl (Or.inl rfl)))
    (pss_cons (ps_asg pe_str (pg_sub (pv 3) pe_int set_list))
    (pss_cons (ps_asg (pe_lst (pa_cons pe_int pa_nil)) (pg_name (i := 4) sc_paths_in.nd rfl (Or.inl rfl)))
    (pss_cons (ps_asg pe_int (pg_name (i := 5) sc_paths_in.nd rfl (Or.inl rfl)))
    (pss_cons (ps_while PassesOwn.never (pt_cmpR op_lt (pv 5) (pe_callB (r := Evl.rLenS K) call_len_seq (by rfl) B.z_len PySem.boot_len (pa_cons (pv 4) pa_nil)) (nomark _)) (pss_cons (ps_for PassesOwn.never rfl (pi_str (pe_fd g_letters_of (hr.mono (by decide)) (by rfl) (pa_cons (pv 0) pa_nil))) (pg_name (i := 6) sc_paths_in.nd rfl (Or.inl rfl)) (pss_cons (ps_asg (pe_dget2 (hu_of hr) (pv 2) (pe_tup (pa_cons (pe_ix (r := rIxL K) ix_list (pv 4) (pv 5) (fun _ _ => rfl)) (pa_cons (pv 6) pa_nil))) pe_non ⟨rfl, rfl, rfl, rfl⟩) (pg_name (i := 7) sc_paths_in.nd rfl (Or.inl rfl)))
    (pss_one (ps_if (PW.pt (pw_and (pt_cmp (pc_notN (pv 7)) rfl) (pw_and1 (pt_cmp (pc_isN (pe_ix (r := rIxL K) ix_list (pv 3) (pv 7) (fun _ _ => rfl))) rfl)))) (pss_cons (ps_asg (pe_op op_add_str (pe_ix (r := rIxL K) ix_list (pv 3) (pe_ix (r := rIxL K) ix_list (pv 4) (pv 5) (fun _ _ => rfl)) (fun _ _ => rfl)) (pv 6)) (pg_sub (pv 3) (pv 7) set_list))
    (pss_one (ps_expr (pe_bmK K rfl (pe_bm PySem.F.plainAttrs_list PySem.F.slot_list_append PySem.F.type_list_append mt_append (pv 4) (pa_cons (pv 7) pa_nil)))))) pss_nil))))
    (pss_one (ps_asg (pe_op op_add (pv 5) pe_int) (pg_name (i := 5) sc_paths_in.nd rfl (Or.inl rfl))))))
    (pss_one (ps_ret (pv 3))))))))), ?_⟩
  obtain ⟨⟨v, n, es⟩, r, L⟩ := i
  obtain ⟨hG, hC, hei, hr1, hr3, hn, hel⟩ := hp
  obtain ⟨p, a, bs, ev, hp, ha, hE⟩ := id hG
  replace ev : v = .ref p := ev
  subst ev
  replace hG : Gr H (.ref p) n es := hG
  replace hp : H p = some (.tup [.int (n : Int), .ref a]) := hp
  replace hC : Canon n es L := hC
  replace hei : EIn r es := hei
  replace hr1 : 1 ≤ r := hr1
  replace hr3 : r ≤ 3 := hr3
  replace hn : n ≤ 300 := hn
  replace hel : es.length ≤ 300 := hel
  replace q : ∀ v H', (Ex H H' ∧ ∃ (a : Addr) (ps : List Word), v = .ref a ∧ H' a = some (.lst (ps.map tx)) ∧ ps.length = n ∧ (∀ k p, ps[k]? = some p → walk (Fw.stp es) 0 p = some k ∧ p.length < n ∧ InR r p) ∧ ps[0]? = some []) → Q v H' := q
  have hpos := hC.pos
  have hb := hC.bound
  refine q_asgP (ep_fdN (.ref p, n, es) (ea_cons (ev_var rfl) ea_nil) rfl (fun H1 e1 => ⟨hG.keep (Tk.of e1), hC.sm, hC.fold, Nat.le_trans hel (by decide)⟩) fun H1 v H' e1 ⟨d, kvs, ev, h1, h2⟩ => ⟨d, kvs, ev, fresh_back e1 h1, h2⟩) fun wv H1 e1 ⟨wd, kvs, ewv, nwd, hwd, hwz⟩ => ?_
  subst ewv
  replace hwz : Wz kvs es := hwz
  refine q_asgL (el_repN (ev_ixt (j := 0) (ev_var rfl) ev_c (e1 _ _ hp) rfl) (by omega)) fun fo H2 nfo e2 hfo => ?_
  have e02 := e1.trans e2
  refine q_setAt (j := 0) (v := tx []) ev_c (ev_var rfl) ev_c hfo (by rw [List.length_replicate]; exact hpos) fun H3 e3 => ?_
  have hf0 : (upd H3 fo (.lst ((List.replicate n V.non).set 0 (tx [])))) fo = some (.lst (fnd [(0, [])] n)) := by
    rw [upd_same]
    have h1 : fnd [] n = List.replicate n V.non := by
      unfold fnd
      rw [List.eq_replicate_iff]
      refine ⟨by rw [List.length_map, List.length_range], fun b hb => ?_⟩
      obtain ⟨x, _, rfl⟩ := List.mem_map.mp hb
      rfl
    have h2 := fnd_set (F := []) (n := n) (u := 0) (q := []) (by simp) hpos
    rw [h1] at h2
    rw [h2]
    rfl
  have nfo' : H fo = none := fresh_back e1 nfo
  have ex3 : Ex H (upd H3 fo (.lst ((List.replicate n V.non).set 0 (tx [])))) := Ex.mut (e02.trans e3) nfo'
  have hw3 : (upd H3 fo (.lst ((List.replicate n V.non).set 0 (tx [])))) wd = some (.dT kvs) := by
    rw [upd_ne (ne_of_none hwd nfo)]
    exact e3 _ _ (e2 _ _ hwd)
  generalize upd H3 fo (.lst ((List.replicate n V.non).set 0 (tx []))) = H4 at hf0 ex3 hw3 ⊢
  refine q_asgL (el_lst (ea_cons ev_c ea_nil) (Nat.le_of_ble_eq_true rfl)) fun ro H5 nro e5 hro => ?_
  have nro' : H ro = none := fresh_back ex3 nro
  have dfr : fo ≠ ro := ne_of_none hf0 nro
  refine q_asg ev_c fun H6 e6 => ?_
  have e46 := e5.trans e6
  refine q_while (fun m σ H7 => ∃ (y6 y7 : Option V) (F : List (Nat × Word)) (k : Nat), m = n + 1 - k ∧ σ = [some (.int (r : Int)), some (.ref p), some (.ref wd), some (.ref fo), some (.ref ro), some (.int (k : Int)), y6, y7] ∧ Ex H H7 ∧ H7 wd = some (.dT kvs) ∧ H7 fo = some (.lst (fnd F n)) ∧ H7 ro = some (.lst (iV F)) ∧ Bfs (Fw.stp es) F k 0 ∧ k ≤ F.length ∧ ∀ v p, (v, p) ∈ F → InR r p) (n + 1)
    ⟨none, none, [(0, [])], 0, rfl, rfl, ex3.trans e46, e46 _ _ hw3, e46 _ _ hf0, e6 _ _ hro, Bfs.init _, Nat.zero_le _, fun v p h => by
      rw [List.mem_singleton] at h
      injection h with _ h
      rw [h]
      exact fun l hl => by cases hl⟩ ?_
  rintro m σ H7 ⟨y6, y7, F, k, rfl, rfl, e7, hw7, hf7, hr7, B7, hkF, hin7⟩
  have hFN := B7.len hpos hb
  refine ⟨decide ((k : Int) < (F.length : Int)), et_test (ev_op (ev_var rfl) (ev_is (ev_lenL (ev_var rfl) hr7) (by unfold iV; rw [List.length_map])) rv_I0), fun hbt H8 e8 => ?_, fun hbf H8 e8 => ?_⟩
  · have hk : k < F.length := Int.ofNat_lt.mp (of_decide_eq_true hbt)
    obtain ⟨⟨v0, p0⟩, hF0⟩ : ∃ z, F[k]? = some z := ⟨_, List.getElem?_eq_getElem hk⟩
    have hin0 := hin7 v0 p0 (List.mem_of_getElem? hF0)
    refine ⟨fun σ2 H9 => ∃ (y6 y7 : Option V) (F : List (Nat × Word)), σ2 = [some (.int (r : Int)), some (.ref p), some (.ref wd), some (.ref fo), some (.ref ro), some (.int ((k + 1 : Nat) : Int)), y6, y7] ∧ Ex H H9 ∧ H9 wd = some (.dT kvs) ∧ H9 fo = some (.lst (fnd F n)) ∧ H9 ro = some (.lst (iV F)) ∧ Bfs (Fw.stp es) F (k + 1) 0 ∧ k + 1 ≤ F.length ∧ ∀ v p, (v, p) ∈ F → InR r p,
      fun σ2 H9 ⟨y6, y7, F2, h1, h2, h3, h4, h5, h6, h7, h8⟩ => ⟨n + 1 - (k + 1), by have := h6.len hpos hb; omega, y6, y7, F2, k + 1, rfl, h1, h2, h3, h4, h5, h6, h7, h8⟩, ?_⟩
    refine q_forW (w := lets r) (ev_fd r (ea_cons (ev_var rfl) ea_nil) rfl fun _ _ => ⟨hr1, hr3⟩) (fun t σ H9 => ∃ (y6 y7 : Option V) (F : List (Nat × Word)), σ = [some (.int (r : Int)), some (.ref p), some (.ref wd), some (.ref fo), some (.ref ro), some (.int (k : Int)), y6, y7] ∧ Ex H H9 ∧ H9 wd = some (.dT kvs) ∧ H9 fo = some (.lst (fnd F n)) ∧ H9 ro = some (.lst (iV F)) ∧ Bfs (Fw.stp es) F k t ∧ F[k]? = some (v0, p0) ∧ ∀ v p, (v, p) ∈ F → InR r p) ?_ ?_ ?_
    · intro H9 e9
      have e79 := e8.trans e9
      exact ⟨_, _, F, rfl, e7.trans e79, e79 _ _ hw7, e79 _ _ hf7, e79 _ _ hr7, B7, hF0, hin7⟩
    · rintro t x σ H9 hx ⟨y6, y7, F2, rfl, e9, hw9, hf9, hr9, B9, hk9, hin9⟩
      have hxi := lets_idx hx
      have hxr : x.idx < 2 * r := by
        have := (List.getElem?_eq_some_iff.mp hx).1
        rw [lets_len r hr3] at this
        omega
      have hF2N := B9.len hpos hb
      have hg : Bfs (Fw.stp es) (grow (Fw.stp es) F2 v0 p0 x) k (t + 1) := by
        have := grow_bfs (x := x) B9 hk9 (by omega) fun y hy1 hy2 => by omega
        rw [hxi] at this
        exact this
      have hgk := grow_get (s := Fw.stp es) (v := v0) (p := p0) (x := x) hk9
      have hginr : ∀ v p, (v, p) ∈ grow (Fw.stp es) F2 v0 p0 x → InR r p := fun v p h => by
        unfold grow at h
        split at h
        · exact hin9 v p h
        · split at h
          · exact hin9 v p h
          · rcases List.mem_append.mp h with h | h
            · exact hin9 v p h
            · rw [List.mem_singleton] at h
              injection h with _ h
              rw [h]
              exact hin0.app fun l hl => by rw [List.mem_singleton.mp hl]; exact hxr
      refine q_asg (ev_get2T (k := zk v0 x) (ev_var rfl) (eu_2 (ev_ixl (j := k) (ev_var rfl) (ev_var rfl) hr9 (by unfold iV; rw [List.getElem?_map, hk9]; rfl)) (ev_var rfl)) ev_c hw9) fun H10 e10 => ?_
      rw [hwz.get hC.fold]
      have hw10 := e10 _ _ hw9
      have hf10 := e10 _ _ hf9
      have hr10 := e10 _ _ hr9
      cases hst : Fw.stp es v0 x with
      | none =>
        refine s_when (b := false) (et_andF (et_B (ev_is (ev_notN (ev_var rfl)) rfl))) (fun h => absurd h (by decide)) fun _ H11 e11 => ⟨_, _, F2, rfl, e9.trans (e10.trans e11), e11 _ _ hw10, e11 _ _ hf10, e11 _ _ hr10, ?_, hk9, hin9⟩
        rw [grow_none hst] at hg
        exact hg
      | some u =>
        have hun : u < n := hb _ _ _ hst
        refine s_when (et_andT (et_B (ev_is (ev_notN (ev_var rfl)) rfl)) (et_B (ev_is (ev_isN (ev_ixl (j := u) (ev_var rfl) (ev_var rfl) hf10 (fnd_get hun))) (by rw [oT_non])))) (fun hb1 H11 e11 => ?_) fun hb1 H11 e11 => ?_
        · have hu : u ∉ F2.map (·.1) := pth_none.mp (Option.isNone_iff_eq_none.mp hb1)
          have hv0 : v0 < n := by
            have := walk_bound hb hpos (B9.ways v0 p0 (List.mem_of_getElem? hk9))
            exact this
          have hpl := bfs_len B9 k v0 p0 hk9
          have hkn := (List.getElem?_eq_some_iff.mp hk9).1
          refine q_setAt (j := u) (v := tx (p0 ++ [x])) (ev_addW (ev_ixl (j := v0) (ev_var rfl) (ev_ixl (j := k) (ev_var rfl) (ev_var rfl) (e11 _ _ hr10) (by unfold iV; rw [List.getElem?_map, hk9]; rfl)) (e11 _ _ hf10) (by rw [fnd_get hv0, pth_of B9 (List.mem_of_getElem? hk9)]; rfl)) (ev_var rfl) (by show p0.length + 1 ≤ 100000; omega)) (ev_var rfl) (ev_var rfl) (e11 _ _ hf10) (by unfold fnd; rw [List.length_map, List.length_range]; exact hun) fun H12 e12 => ?_
          have hr13 : (upd H12 fo (.lst ((fnd F2 n).set u (tx (p0 ++ [x]))))) ro = some (.lst (iV F2)) := by rw [upd_ne dfr.symm]; exact (e11.trans e12) _ _ hr10
          refine s_app hr13 (ev_var rfl) (ev_var rfl) (by unfold iV; rw [List.length_map]; omega) fun H14 e14 => ⟨_, _, grow (Fw.stp es) F2 v0 p0 x, rfl, Ex.mut ((Ex.mut (e9.trans (e10.trans (e11.trans e12))) nfo').trans e14) nro', ?_, ?_, ?_, hg, hgk, hginr⟩
          · rw [upd_ne (ne_of (e14 _ _ (by rw [upd_ne (ne_of (e12 _ _ (e11 _ _ hw10)) (e12 _ _ (e11 _ _ hf10)) (by intro z; cases z))]; exact (e11.trans e12) _ _ hw10)) (e14 _ _ hr13) (by intro z; cases z))]
            exact e14 _ _ (by rw [upd_ne (ne_of (e12 _ _ (e11 _ _ hw10)) (e12 _ _ (e11 _ _ hf10)) (by intro z; cases z))]; exact (e11.trans e12) _ _ hw10)
          · rw [upd_ne dfr, grow_new hst hu, ← fnd_set hu hun]
            exact e14 _ _ upd_same
          · rw [upd_same, grow_new hst hu]
            unfold iV
            rw [List.map_append]
            rfl
        · have hu : u ∈ F2.map (·.1) := Classical.byContradiction fun hc => by
            rw [pth_none.mpr hc] at hb1
            cases hb1
          refine ⟨_, _, F2, rfl, e9.trans (e10.trans e11), e11 _ _ hw10, e11 _ _ hf10, e11 _ _ hr10, ?_, hk9, hin9⟩
          rw [grow_old hst hu] at hg
          exact hg
    · rintro σ H9 ⟨y6, y7, F2, rfl, e9, hw9, hf9, hr9, B9, hk9, hin9⟩
      rw [lets_len r hr3] at B9
      refine s_asg (ev_is (ev_op (ev_var rfl) ev_c rv_I0) (v := .int ((k : Int) + 1)) (w := .int ((k + 1 : Nat) : Int)) rfl) fun H10 e10 => ⟨_, _, F2, rfl, e9.trans e10, e10 _ _ hw9, e10 _ _ hf9, e10 _ _ hr9, B9.next hk9 fun y hy => ?_, ?_, hin9⟩
      · cases h : Fw.stp es v0 y with
        | none => rfl
        | some u => have := ein_stp hei hC.fold h; omega
      · have := (List.getElem?_eq_some_iff.mp hk9).1
        omega
  · have hk : F.length ≤ k := by
      have := of_decide_eq_false hbf
      omega
    -- every vertex has its way
    obtain ⟨ps0, hps0, f0⟩ := hC.firsts
    have hall : ∀ v, v < n → ∃ p, (v, p) ∈ F := fun v hv => by
      obtain ⟨p, hp⟩ : ∃ p, ps0[v]? = some p := ⟨_, List.getElem?_eq_getElem (by rw [hps0]; exact hv)⟩
      obtain ⟨p2, h1, _⟩ := B7.reach hk (f0.at_ _ _ hp)
      exact ⟨p2, h1⟩
    have hfo : fnd F n = ((List.range n).map fun v => (pth F v).getD []).map tx := by
      unfold fnd
      rw [List.map_map]
      apply List.map_congr_left
      intro v hv
      obtain ⟨p2, h1⟩ := hall v (List.mem_range.mp hv)
      show oT (pth F v) = tx ((pth F v).getD [])
      rw [pth_of B7 h1]
      rfl
    rw [hfo] at hf7
    refine s_ret (ev_var rfl) fun H9 e9 => q _ _ ⟨e7.trans (e8.trans e9), fo, _, rfl, (e8.trans e9) _ _ hf7, by rw [List.length_map, List.length_range], fun k2 p2 hk2 => ?_, ?_⟩
    rotate_left
    · rw [List.getElem?_map, List.getElem?_range hpos, Option.map_some, pth_of B7 (List.mem_of_getElem? B7.zero)]
      rfl
    rw [List.getElem?_map] at hk2
    by_cases hkn : k2 < n
    · rw [List.getElem?_range hkn] at hk2
      obtain ⟨p3, h1⟩ := hall k2 hkn
      have hk3 : (pth F k2).getD [] = p2 := Option.some.inj hk2
      rw [pth_of B7 h1] at hk3
      have hk4 : p3 = p2 := hk3
      subst hk4
      obtain ⟨j, hj⟩ := List.getElem?_of_mem h1
      have h2 := bfs_len B7 j k2 p3 hj
      have h3 := (List.getElem?_eq_some_iff.mp hj).1
      exact ⟨B7.ways _ _ h1, by omega, hin7 _ _ h1⟩
    · rw [List.getElem?_eq_none (by rw [List.length_range]; omega)] at hk2
      cases hk2
end
end FwK
end

section
set_option Elab.async false
set_option linter.all false
set_option maxRecDepth 100000
set_option maxHeartbeats 2000000
namespace FwK
open PySem PySem.Spec PyProof.Rows L2 Evl Fw FwR
structure Kn (kvs : List (Key × V)) (F : List (Nat × Word)) : Prop where
  at_ : ∀ v : Nat, valV kvs (.inl (v : Int)) = (pth F v).map tx
  len : kvs.length = F.length
theorem Kn.one : Kn [(.inl ((0 : Nat) : Int), tx [])] [(0, [])] := ⟨fun u => by
  by_cases h : 0 = u
  · subst h
    rfl
  · have : ¬ ((0 : Int) = (u : Int)) := fun e => h (Int.ofNat.inj e)
    simp [valV, pth, h, this], rfl⟩
theorem Kn.add {kvs : List (Key × V)} {F : List (Nat × Word)} {u : Nat} {q : Word} (n : Kn kvs F) (h : u ∉ F.map (·.1)) : Kn (putK kvs (.inl (u : Int)) (tx q)) (F ++ [(u, q)]) := by
  have h0 : valV kvs (.inl (u : Int)) = none := by rw [n.at_, pth_none.mpr h]; rfl
  refine ⟨fun v => ?_, ?_⟩
  · rw [valV_put, pth_snoc h]
    by_cases e : u = v
    · subst e
      rw [if_pos rfl, if_pos rfl]
      rfl
    · have hc : ¬ ((Sum.inl (v : Int) : Key) = Sum.inl (u : Int)) := fun c => e (Int.ofNat.inj (Sum.inl.inj c)).symm
      rw [if_neg hc, if_neg e, n.at_]
  · rw [putK_new _ h0, List.length_append, List.length_append, n.len]
    rfl
theorem Kn.isSome {kvs : List (Key × V)} {F : List (Nat × Word)} (n : Kn kvs F) (v : Nat) : (valV kvs (.inl (v : Int))).isSome = decide (v ∈ F.map (·.1)) := by
  rw [n.at_]
  by_cases h : v ∈ F.map (·.1)
  · rw [decide_eq_true h]
    cases hp : pth F v with
    | none => exact absurd h (pth_none.mp hp)
    | some p => rfl
  · rw [pth_none.mpr h, decide_eq_false h]
    rfl
section
variable {P : Program} {w : World} {K : PySem.W.Frag} {mg : Str → Option Value} {base : Heap} {σ : L2.St} {H H' : Hp} {ta tb te : TE}
abbrev spFirst : Sp := spE (fun i : (V × Nat × List Edge) × Nat × Nat => [.int (i.2.1 : Int), i.1.1, .int (i.2.2 : Int)])
  (fun i H => Gr H i.1.1 i.1.2.1 i.1.2.2 ∧ Smalls i.1.2.2 ∧ Folded i.1.2.2 ∧ (∀ e ∈ i.1.2.2, e.1 < i.1.2.1 ∧ e.2.2 < i.1.2.1) ∧ 0 < i.1.2.1 ∧ i.1.2.1 ≤ 1000 ∧ i.1.2.2.length ≤ 1000 ∧ EIn i.2.1 i.1.2.2 ∧ 1 ≤ i.2.1 ∧ i.2.1 ≤ 3 ∧ ∃ w, walk (Fw.stp i.1.2.2) 0 w = some i.2.2)
  (fun i v _ => ∃ f, v = tx f ∧ First (Fw.stp i.1.2.2) i.2.2 f ∧ f.length < i.1.2.1 ∧ InR i.2.1 f)
theorem ok_first_way (B : Bs mg) (F : Fx K mg "first_way" s_first_way pn_first_way) (g_ways_in : Fd P w K mg base "ways_in" pn_ways_in 1 spWays) (g_letters_of : Fd P w K mg base "letters_of" pn_letters_of 1 spLetters) : Fd P w K mg base "first_way" pn_first_way 2 spFirst := by
  refine F.fd sc_first_way (fun _ => rfl) fun i f cdv A outer s H Q hr hp q E => ?_
  refine ⟨_, (pss_cons (ps_asg (pe_fd g_ways_in (hr.mono (by decide)) (by rfl) (pa_cons (pv 1) pa_nil)) (pg_name (i := 3) sc_first_way.nd rfl (Or.inl rfl)))
    (pss_cons (ps_asg (pe_disp (pps_cons pe_int pe_str pps_nil) (by rfl) (by rfl) (fun z => by cases z) (by decide)) (pg_name (i := 4) sc_first_way.nd rfl (Or.inl rfl)))
    (pss_cons (ps_asg (pe_lst (pa_cons pe_int pa_nil)) (pg_name (i := 5) sc_first_way.nd rfl (Or.inl rfl)))
    (pss_cons (ps_asg pe_int (pg_name (i := 6) sc_first_way.nd rfl (Or.inl rfl)))
    (pss_cons (ps_while PassesOwn.never (pt_cmp (pc_dnotin (hu_of hr) (pv 2) (pv 4)) rfl) (pss_cons (ps_for PassesOwn.never rfl (pi_str (pe_fd g_letters_of (hr.mono (by decide)) (by rfl) (pa_cons (pv 0) pa_nil))) (pg_name (i := 7) sc_first_way.nd rfl (Or.inl rfl)) (pss_cons (ps_asg (pe_dget2 (hu_of hr) (pv 3) (pe_tup (pa_cons (pe_ix (r := rIxL K) ix_list (pv 5) (pv 6) (fun _ _ => rfl)) (pa_cons (pv 7) pa_nil))) pe_non ⟨rfl, rfl, rfl, rfl⟩) (pg_name (i := 8) sc_first_way.nd rfl (Or.inl rfl)))
    (pss_one (ps_if (PW.pt (pw_and (pt_cmp (pc_notN (pv 8)) rfl) (pw_and1 (pt_cmp (pc_dnotin (hu_of hr) (pv 8) (pv 4)) rfl)))) (pss_cons (ps_dput (hu_of hr) (pv 4) (pv 8) (pe_op op_add_str (pe_dget (hu_of hr) (pv 4) (pe_ix (r := rIxL K) ix_list (pv 5) (pv 6) (fun _ _ => rfl)) (fun _ _ => rfl)) (pv 7)) rfl)
    (pss_one (ps_expr (pe_bmK K rfl (pe_bm PySem.F.plainAttrs_list PySem.F.slot_list_append PySem.F.type_list_append mt_append (pv 5) (pa_cons (pv 8) pa_nil)))))) pss_nil))))
    (pss_one (ps_asg (pe_op op_add (pv 6) pe_int) (pg_name (i := 6) sc_first_way.nd rfl (Or.inl rfl))))))
    (pss_one (ps_ret (pe_dget (hu_of hr) (pv 4) (pv 2) (fun _ _ => rfl))))))))), ?_⟩
  obtain ⟨⟨v, n, es⟩, r, goal⟩ := i
  obtain ⟨hG, hsm, hfo, hlt, hpos, hn, hel, hei, hr1, hr3, hex⟩ := hp
  obtain ⟨p, a, bs, ev, hp, ha, hE⟩ := id hG
  replace ev : v = .ref p := ev
  subst ev
  replace hG : Gr H (.ref p) n es := hG
  replace hsm : Smalls es := hsm
  replace hfo : Folded es := hfo
  replace hlt : ∀ e ∈ es, e.1 < n ∧ e.2.2 < n := hlt
  replace hpos : 0 < n := hpos
  replace hei : EIn r es := hei
  replace hr1 : 1 ≤ r := hr1
  replace hr3 : r ≤ 3 := hr3
  replace hn : n ≤ 1000 := hn
  replace hel : es.length ≤ 1000 := hel
  replace hex : ∃ w, walk (Fw.stp es) 0 w = some goal := hex
  replace q : ∀ v H', (Ex H H' ∧ ∃ f, v = tx f ∧ First (Fw.stp es) goal f ∧ f.length < n ∧ InR r f) → Q v H' := q
  have hb : ∀ v x u, Fw.stp es v x = some u → u < n := fun v x u h => (stp_end hfo hlt h).2
  refine q_asgP (ep_fdN (.ref p, n, es) (ea_cons (ev_var rfl) ea_nil) rfl (fun H1 e1 => ⟨hG.keep (Tk.of e1), hsm, hfo, Nat.le_trans hel (by decide)⟩) fun H1 v H' e1 ⟨d, kvs, ev, h1, h2⟩ => ⟨d, kvs, ev, fresh_back e1 h1, h2⟩) fun wv H1 e1 ⟨wd, wvs, ewv, nwd, hwd, hwz⟩ => ?_
  subst ewv
  replace hwz : Wz wvs es := hwz
  refine q_disp1 (k1 := .inl ((0 : Nat) : Int)) (v := tx []) ev_c rfl ev_c fun kd H2 nkd e2 hkd => ?_
  refine q_asgL (el_lst (ea_cons ev_c ea_nil) (Nat.le_of_ble_eq_true rfl)) fun ro H3 nro e3 hro => ?_
  refine q_asg ev_c fun H4 e4 => ?_
  have e02 := e1.trans e2
  have e03 := e02.trans e3
  have nkd' : H kd = none := fresh_back e1 nkd
  have nro' : H ro = none := fresh_back e02 nro
  have dwk : wd ≠ kd := ne_of_none hwd nkd
  have dkr : kd ≠ ro := ne_of_none hkd nro
  have dwr : wd ≠ ro := ne_of_none (e2 _ _ hwd) nro
  refine q_while (fun m σ H7 => ∃ (y7 y8 : Option V) (F : List (Nat × Word)) (k : Nat) (kvs : List (Key × V)), m = n + 1 - k ∧ σ = [some (.int (r : Int)), some (.ref p), some (.int (goal : Int)), some (.ref wd), some (.ref kd), some (.ref ro), some (.int (k : Int)), y7, y8] ∧ Ex H H7 ∧ H7 wd = some (.dT wvs) ∧ H7 kd = some (.dK kvs) ∧ Kn kvs F ∧ H7 ro = some (.lst (iV F)) ∧ Bfs (Fw.stp es) F k 0 ∧ k ≤ F.length ∧ ∀ v p, (v, p) ∈ F → InR r p) (n + 1)
    ⟨none, none, [(0, [])], 0, _, rfl, rfl, e03.trans e4, (e2.trans (e3.trans e4)) _ _ hwd, (e3.trans e4) _ _ hkd, Kn.one, e4 _ _ hro, Bfs.init _, Nat.zero_le _, fun v p h => by
      rw [List.mem_singleton] at h
      injection h with _ h
      rw [h]
      exact fun l hl => by cases hl⟩ ?_
  rintro m σ H7 ⟨y7, y8, F, k, kvs, rfl, rfl, e7, hw7, hk7, hkn, hr7, B7, hkF, hin7⟩
  have hFN := B7.len hpos hb
  refine ⟨!decide (goal ∈ F.map (·.1)), et_B (by rw [← hkn.isSome]; exact ev_ninK (k1 := .inl (goal : Int)) (ev_var rfl) (ev_var rfl) rfl hk7), fun hbt H8 e8 => ?_, fun hbf H8 e8 => ?_⟩
  · have hng : goal ∉ F.map (·.1) := by simpa using hbt
    have hk : k < F.length := by
      refine Classical.byContradiction fun hc => ?_
      obtain ⟨w0, hw0⟩ := hex
      obtain ⟨p2, h1, _⟩ := B7.reach (by omega) hw0
      exact hng (List.mem_map.mpr ⟨_, h1, rfl⟩)
    obtain ⟨⟨v0, p0⟩, hF0⟩ : ∃ z, F[k]? = some z := ⟨_, List.getElem?_eq_getElem hk⟩
    have hin0 := hin7 v0 p0 (List.mem_of_getElem? hF0)
    refine ⟨fun σ2 H9 => ∃ (y7 y8 : Option V) (F : List (Nat × Word)) (kvs : List (Key × V)), σ2 = [some (.int (r : Int)), some (.ref p), some (.int (goal : Int)), some (.ref wd), some (.ref kd), some (.ref ro), some (.int ((k + 1 : Nat) : Int)), y7, y8] ∧ Ex H H9 ∧ H9 wd = some (.dT wvs) ∧ H9 kd = some (.dK kvs) ∧ Kn kvs F ∧ H9 ro = some (.lst (iV F)) ∧ Bfs (Fw.stp es) F (k + 1) 0 ∧ k + 1 ≤ F.length ∧ ∀ v p, (v, p) ∈ F → InR r p,
      fun σ2 H9 ⟨y7, y8, F2, kvs, h1, h2, h3, h4, h5, h6, h7, h8, h9⟩ => ⟨n + 1 - (k + 1), by have := h7.len hpos hb; omega, y7, y8, F2, k + 1, kvs, rfl, h1, h2, h3, h4, h5, h6, h7, h8, h9⟩, ?_⟩
    refine q_forW (w := lets r) (ev_fd r (ea_cons (ev_var rfl) ea_nil) rfl fun _ _ => ⟨hr1, hr3⟩) (fun t σ H9 => ∃ (y7 y8 : Option V) (F : List (Nat × Word)) (kvs : List (Key × V)), σ = [some (.int (r : Int)), some (.ref p), some (.int (goal : Int)), some (.ref wd), some (.ref kd), some (.ref ro), some (.int (k : Int)), y7, y8] ∧ Ex H H9 ∧ H9 wd = some (.dT wvs) ∧ H9 kd = some (.dK kvs) ∧ Kn kvs F ∧ H9 ro = some (.lst (iV F)) ∧ Bfs (Fw.stp es) F k t ∧ F[k]? = some (v0, p0) ∧ ∀ v p, (v, p) ∈ F → InR r p) ?_ ?_ ?_
    · intro H9 e9
      have e79 := e8.trans e9
      exact ⟨_, _, F, kvs, rfl, e7.trans e79, e79 _ _ hw7, e79 _ _ hk7, hkn, e79 _ _ hr7, B7, hF0, hin7⟩
    · rintro t x σ H9 hx ⟨y7, y8, F2, kvs2, rfl, e9, hw9, hk9', hkn9, hr9, B9, hk9, hin9⟩
      have hxi := lets_idx hx
      have hxr : x.idx < 2 * r := by
        have := (List.getElem?_eq_some_iff.mp hx).1
        rw [lets_len r hr3] at this
        omega
      have hF2N := B9.len hpos hb
      have hg : Bfs (Fw.stp es) (grow (Fw.stp es) F2 v0 p0 x) k (t + 1) := by
        have := grow_bfs (x := x) B9 hk9 (by omega) fun y hy1 hy2 => by omega
        rw [hxi] at this
        exact this
      have hgk := grow_get (s := Fw.stp es) (v := v0) (p := p0) (x := x) hk9
      have hginr : ∀ v p, (v, p) ∈ grow (Fw.stp es) F2 v0 p0 x → InR r p := fun v p h => by
        unfold grow at h
        split at h
        · exact hin9 v p h
        · split at h
          · exact hin9 v p h
          · rcases List.mem_append.mp h with h | h
            · exact hin9 v p h
            · rw [List.mem_singleton] at h
              injection h with _ h
              rw [h]
              exact hin0.app fun l hl => by rw [List.mem_singleton.mp hl]; exact hxr
      refine q_asg (ev_get2T (k := zk v0 x) (ev_var rfl) (eu_2 (ev_ixl (j := k) (ev_var rfl) (ev_var rfl) hr9 (by unfold iV; rw [List.getElem?_map, hk9]; rfl)) (ev_var rfl)) ev_c hw9) fun H10 e10 => ?_
      rw [hwz.get hfo]
      have hw10 := e10 _ _ hw9
      have hk10 := e10 _ _ hk9'
      have hr10 := e10 _ _ hr9
      cases hst : Fw.stp es v0 x with
      | none =>
        refine s_when (b := false) (et_andF (et_B (ev_is (ev_notN (ev_var rfl)) rfl))) (fun h => absurd h (by decide)) fun _ H11 e11 => ⟨_, _, F2, kvs2, rfl, e9.trans (e10.trans e11), e11 _ _ hw10, e11 _ _ hk10, hkn9, e11 _ _ hr10, ?_, hk9, hin9⟩
        rw [grow_none hst] at hg
        exact hg
      | some u =>
        have hun : u < n := hb _ _ _ hst
        refine s_when (b := !decide (u ∈ F2.map (·.1))) (et_andT (et_B (ev_is (ev_notN (ev_var rfl)) rfl)) (et_B (by rw [← hkn9.isSome]; exact ev_ninK (k1 := .inl (u : Int)) (ev_var rfl) (ev_var rfl) rfl hk10))) (fun hb1 H11 e11 => ?_) fun hb1 H11 e11 => ?_
        · have hu : u ∉ F2.map (·.1) := by simpa using hb1
          have hpl := bfs_len B9 k v0 p0 hk9
          have hkn' := (List.getElem?_eq_some_iff.mp hk9).1
          refine q_putK (k1 := .inl (u : Int)) (v := tx (p0 ++ [x])) (ev_addW (ev_getK (k1 := .inl (v0 : Int)) (ev_var rfl) (ev_ixl (j := k) (ev_var rfl) (ev_var rfl) (e11 _ _ hr10) (by unfold iV; rw [List.getElem?_map, hk9]; rfl)) rfl (e11 _ _ hk10) (by rw [hkn9.at_, pth_of B9 (List.mem_of_getElem? hk9)]; rfl)) (ev_var rfl) (by show p0.length + 1 ≤ 100000; omega)) (ev_var rfl) (ev_var rfl) rfl (e11 _ _ hk10) (by rw [hkn9.len]; omega) fun H12 e12 => ?_
          have hr13 : (upd H12 kd (.dK (putK kvs2 (.inl (u : Int)) (tx (p0 ++ [x]))))) ro = some (.lst (iV F2)) := by rw [upd_ne dkr.symm]; exact (e11.trans e12) _ _ hr10
          refine s_app hr13 (ev_var rfl) (ev_var rfl) (by unfold iV; rw [List.length_map]; omega) fun H14 e14 => ⟨_, _, grow (Fw.stp es) F2 v0 p0 x, _, rfl, Ex.mut ((Ex.mut (e9.trans (e10.trans (e11.trans e12))) nkd').trans e14) nro', ?_, by rw [upd_ne dkr]; exact e14 _ _ upd_same, ?_, ?_, hg, hgk, hginr⟩
          · rw [upd_ne dwr]
            exact e14 _ _ (by rw [upd_ne dwk]; exact (e11.trans e12) _ _ hw10)
          · rw [grow_new hst hu]
            exact hkn9.add hu
          · rw [upd_same, grow_new hst hu]
            unfold iV
            rw [List.map_append]
            rfl
        · have hu : u ∈ F2.map (·.1) := by simpa using hb1
          refine ⟨_, _, F2, kvs2, rfl, e9.trans (e10.trans e11), e11 _ _ hw10, e11 _ _ hk10, hkn9, e11 _ _ hr10, ?_, hk9, hin9⟩
          rw [grow_old hst hu] at hg
          exact hg
    · rintro σ H9 ⟨y7, y8, F2, kvs2, rfl, e9, hw9, hk9', hkn9, hr9, B9, hk9, hin9⟩
      rw [lets_len r hr3] at B9
      refine s_asg (ev_is (ev_op (ev_var rfl) ev_c rv_I0) (v := .int ((k : Int) + 1)) (w := .int ((k + 1 : Nat) : Int)) rfl) fun H10 e10 => ⟨_, _, F2, kvs2, rfl, e9.trans e10, e10 _ _ hw9, e10 _ _ hk9', hkn9, e10 _ _ hr9, B9.next hk9 fun y hy => ?_, ?_, hin9⟩
      · cases h : Fw.stp es v0 y with
        | none => rfl
        | some u => have := ein_stp hei hfo h; omega
      · have := (List.getElem?_eq_some_iff.mp hk9).1
        omega
  · have hg : goal ∈ F.map (·.1) := by simpa using hbf
    obtain ⟨⟨g2, f⟩, h1, h2⟩ := List.mem_map.mp hg
    have h2' : g2 = goal := h2
    subst h2'
    refine s_ret (ev_getK (k1 := .inl (g2 : Int)) (v := tx f) (ev_var rfl) (ev_var rfl) rfl (e8 _ _ hk7) (by rw [hkn.at_, pth_of B7 h1]; rfl)) fun H9 e9 => q _ _ ⟨e7.trans (e8.trans e9), f, rfl, bfs_first B7 h1, ?_, hin7 _ _ h1⟩
    obtain ⟨j, hj⟩ := List.getElem?_of_mem h1
    have h3 := bfs_len B7 j g2 f hj
    have h4 := (List.getElem?_eq_some_iff.mp hj).1
    omega
/-! ### tail_of -/
theorem lc_src {K : PySem.W.Frag} {tl : TE} {g : TG} {tt : TT} {vs : List Nat} {R S : V → Hp → Prop} (h : EvP tl σ H R) (k : ∀ v H1, Ex H H1 → R v H1 → EvP (tLc (iList K (tC v)) g tt te vs) σ H1 S) : EvP (tLc (iList K tl) g tt te vs) σ H S := fun H1 e1 Q q =>
  h H1 e1 _ fun v H2 e2 r => k v H2 (e1.trans e2) r H2 (Ex.refl H2) Q fun v' H3 e3 s => q v' H3 (e2.trans e3) s
theorem alikeK_zk {kvs : List (List Key × V)} {E : List Edge} (w : Wz kvs E) : AlikeK (kvs.map (·.1)) := fun k hk => by
  obtain ⟨v, x, rfl⟩ := w.keys k hk
  refine ⟨by simp [zk], fun k' hk' => ?_⟩
  obtain ⟨v', x', rfl⟩ := w.keys k' hk'
  simp [keysD, zk, keyD, PySem.W.alike, PySem.W.alikeAll]
theorem ev_swap {l : Let} (h : Ev ta σ H (tx [l])) : Ev (tBM0 K "str" (fun x xs H Q => ∃ a, x = .str a ∧ xs = [] ∧ a.length ≤ 5592405 ∧ Q (.str (Txt.swapcase a)) H) ta) σ H (tx [l.flip]) := fun H1 e Q q =>
  h H1 e _ fun H2 e2 => ⟨rfl, T [l], rfl, rfl, by rw [T_len, List.length_singleton]; decide, by rw [T_swap]; exact q H2 e2⟩
abbrev spTail : Sp := spE (fun i : (V × Nat × List Edge) × Nat × (Word → Prop) => [i.1.1]) (fun i H => Gr H i.1.1 i.1.2.1 i.1.2.2 ∧ Canon i.1.2.1 i.1.2.2 i.2.2 ∧ EIn i.2.1 i.1.2.2 ∧ i.1.2.1 ≤ 300 ∧ i.1.2.2.length ≤ 300)
  (fun i v _ => ∃ t, v = tx t ∧ Tail (Fw.stp i.1.2.2) i.1.2.1 t ∧ InR i.2.1 t)
theorem ok_tail_of (B : Bs mg) (F : Fx K mg "tail_of" s_tail_of pn_tail_of) (g_ways_in : Fd P w K mg base "ways_in" pn_ways_in 1 spWays) (g_ends_at : Fd P w K mg base "ends_at" pn_ends_at 1 spEnds) : Fd P w K mg base "tail_of" pn_tail_of 2 spTail := by
  refine F.fd sc_tail_of (fun _ => rfl) fun i f cdv A outer s H Q hr hp q E => ?_
  refine ⟨_, (pss_cons (ps_asg (pe_fd g_ways_in (hr.mono (by decide)) (by rfl) (pa_cons (pv 0) pa_nil)) (pg_name (i := 1) sc_tail_of.nd rfl (Or.inl rfl)))
    (pss_cons (ps_asg pe_str (pg_name (i := 2) sc_tail_of.nd rfl (Or.inr rfl)))
    (pss_cons (ps_asg pe_int (pg_name (i := 3) sc_tail_of.nd rfl (Or.inr rfl)))
    (pss_cons (ps_while PassesOwn.never (pt_cmpR op_eq (pe_fd g_ends_at (hr.mono (by decide)) (by rfl) (pa_cons (pv 0) (pa_cons (pv 3) pa_nil))) (pe_ifExp (pt_cmpR op_eq (pv 2) pe_str (nomark _)) pe_int pe_int) (nomark _)) (pss_cons (ps_setLc (i := 4) (own := [("at", 5), ("letter", 6)]) (g := (gTup K 2 (gCons (gName 5) (gCons (gName 6) gNil)))) rfl sc_tail_of.nd rfl rfl (sw_true rfl rfl rfl (by decide +kernel)) (pi_list (pe_callB (call_sortDT rfl (h64 hr)) (by rfl) B.z_sorted (by decide +kernel) (pa_cons (pv 1) pa_nil))) (blkOk_by (N := nm_tail_of) (sc := defScope s_tail_of) (by decide +kernel)) (fun _ _ _ _ _ => (pg_tup rfl (pgs_cons (pg_name (i := 5) sc_tail_of.nd rfl (Or.inl rfl)) (pgs_cons (pg_name (i := 6) sc_tail_of.nd rfl (Or.inl rfl)) pgs_nil)))) (fun _ _ _ _ _ => (pts_one (PW.pt (pw_and (pt_cmpR op_eq (pv 5) (pv 3) (nomark _)) (pw_and1 (PW.pt (pw_or (pt_cmpR op_eq (pv 2) pe_str (nomark _)) (pw_or1 (pt_cmpR op_ne (pv 6) (pe_bm0K K rfl (pe_bm0 PySem.F.plainAttrs_str PySem.F.slot_str_swapcase PySem.F.type_str_swapcase mt_swapcase (pe_ix ix_str (pv 2) (pe_un un_neg pe_int) (fun _ _ => rfl)))) (nomark _)))))))))) (fun _ _ _ _ _ => (pv 6)))
    (pss_cons (ps_asg (pe_op op_add_str (pv 2) (pe_ix (r := rIxL K) ix_list (pv 4) pe_int (fun _ _ => rfl))) (pg_name (i := 2) sc_tail_of.nd rfl (Or.inr rfl)))
    (pss_one (ps_asg (pe_dget (hu_of hr) (pv 1) (pe_tup (pa_cons (pv 3) (pa_cons (pe_ix (r := rIxL K) ix_list (pv 4) pe_int (fun _ _ => rfl)) pa_nil))) (fun _ _ => rfl)) (pg_name (i := 3) sc_tail_of.nd rfl (Or.inr rfl)))))))
    (pss_one (ps_ret (pv 2))))))), ?_⟩
  obtain ⟨⟨v, n, es⟩, r, L⟩ := i
  obtain ⟨hG, hC, hei, hn, hel⟩ := hp
  replace hG : Gr H v n es := hG
  replace hC : Canon n es L := hC
  replace hei : EIn r es := hei
  replace hn : n ≤ 300 := hn
  replace hel : es.length ≤ 300 := hel
  replace q : ∀ v H', (Ex H H' ∧ ∃ t, v = tx t ∧ Tail (Fw.stp es) n t ∧ InR r t) → Q v H' := q
  have hpos := hC.pos
  have hb := hC.bound
  refine q_asgP (ep_fdN (v, n, es) (ea_cons (ev_var rfl) ea_nil) rfl (fun H1 e1 => ⟨hG.keep (Tk.of e1), hC.sm, hC.fold, Nat.le_trans hel (by decide)⟩) fun H1 v H' e1 ⟨d, kvs, ev, h1, h2⟩ => ⟨d, kvs, ev, fresh_back e1 h1, h2⟩) fun wv H1 e1 ⟨wd, kvs, ewv, nwd, hwd, hwz⟩ => ?_
  subst ewv
  replace hwz : Wz kvs es := hwz
  refine q_asg (v := tx []) ev_c fun H2 e2 => ?_
  refine q_asg (v := .int ((0 : Nat) : Int)) ev_c fun H3 e3 => ?_
  refine q_while (fun m σ H4 => ∃ (y4 : Option V) (vs : List Nat) (t : Word) (h : Nat), m = n - t.length ∧ σ = [some v, some (.ref wd), some (tx t), some (.int (h : Int)), y4, none, none] ∧ Ex H H4 ∧ H4 wd = some (.dT kvs) ∧ Tl (Fw.stp es) vs t ∧ vs[t.length]? = some h ∧ InR r t) n
    ⟨none, [0], [], 0, rfl, rfl, e1.trans (e2.trans e3), (e2.trans e3) _ _ hwd, Tl.nil _, rfl, fun l hl => by cases hl⟩ ?_
  rintro m σ H4 ⟨y4, vs, t, h, rfl, rfl, e4, hw4, hT, hh, hti⟩
  have htl := hT.bound hpos hb
  have hdeg : ends es h = deg (Fw.stp es) h := ends_deg hC.nodup hC.fold hC.sm h
  have hcond : Ev (tIf (tTest (tOp rEq (tVar 2) (tC (.str (Str.ofString ""))))) (tC (.int 1)) (tC (.int 2))) [some v, some (.ref wd), some (tx t), some (.int (h : Int)), y4, none, none] H4 (.int ((if t = [] then 1 else 2 : Nat) : Int)) := by
    by_cases ht : t = []
    · exact ev_if (b := true) (et_is (et_test (ev_op (ev_var rfl) (ev_is ev_c (by rw [← T_nil])) (rv_eqW (a := t) (b := [])))) (decide_eq_true ht)) (fun _ => by rw [if_pos ht]; exact ev_c) fun h => absurd h (by decide)
    · exact ev_if (b := false) (et_is (et_test (ev_op (ev_var rfl) (ev_is ev_c (by rw [← T_nil])) (rv_eqW (a := t) (b := [])))) (decide_eq_false ht)) (fun h => absurd h (by decide)) fun _ => by rw [if_neg ht]; exact ev_c
  refine ⟨decide (((ends es h : Nat) : Int) = ((if t = [] then 1 else 2 : Nat) : Int)), et_test (ev_op (ev_fd ((v, n, es), h) (ea_cons (ev_var rfl) (ea_cons (ev_var rfl) ea_nil)) rfl fun H5 e5 => ⟨hG.keep (Tk.of (e4.trans e5)), Nat.le_trans hel (by decide)⟩) hcond rv_eqI), fun hbt H5 e5 => ?_, fun hbf H5 e5 => ?_⟩
  · have hd : deg (Fw.stp es) h = if t = [] then 1 else 2 := by
      rw [← hdeg]
      exact Int.ofNat.inj (of_decide_eq_true hbt)
    -- a way ahead
    have hex : ∃ y u, Fw.stp es h y = some u ∧ ∀ x, t.getLast? = some x → y ≠ x.flip := by
      by_cases ht : t = []
      · rw [if_pos ht] at hd
        obtain ⟨y, u, hy⟩ := deg_exists (s := Fw.stp es) (v := h) (by omega)
        exact ⟨y, u, hy, fun x hx => by rw [ht] at hx; cases hx⟩
      · rw [if_neg ht] at hd
        obtain ⟨x, hx⟩ : ∃ x, t.getLast? = some x := ⟨_, List.getLast?_eq_some_getLast ht⟩
        obtain ⟨y, u, hne, hy⟩ := deg_more (s := Fw.stp es) (v := h) (by omega) x.flip
        exact ⟨y, u, hy, fun x' hx' => by rw [hx] at hx'; cases hx'; exact hne⟩
    obtain ⟨y0, u0, hy0, hne0⟩ := hex
    have hkl := hwz.len
    refine ⟨fun σ2 H6 => ∃ (y4 : Option V) (vs2 : List Nat) (t2 : Word) (h2 : Nat), t2.length = t.length + 1 ∧ σ2 = [some v, some (.ref wd), some (tx t2), some (.int (h2 : Int)), y4, none, none] ∧ Ex H H6 ∧ H6 wd = some (.dT kvs) ∧ Tl (Fw.stp es) vs2 t2 ∧ vs2[t2.length]? = some h2 ∧ InR r t2,
      fun σ2 H6 ⟨y4, vs2, t2, h2, g0, g1, g2, g3, g4, g5, g6⟩ => ⟨n - t2.length, by have := g4.bound hpos hb; omega, y4, vs2, t2, h2, rfl, g1, g2, g3, g4, g5, g6⟩, ?_⟩
    -- ahead = [..]
    refine q_asgP (R := fun v H' => ∃ (p : Addr) (y : Let) (u : Nat) (rest : List V), v = .ref p ∧ H' p = some (.lst (tx [y] :: rest)) ∧ Fw.stp es h y = some u ∧ ∀ x, t.getLast? = some x → y ≠ x.flip) (lc_src (ep_sortDT (kvs := kvs) (ev_var rfl) (e5 _ _ hw4) (alikeK_zk hwz) (by omega)) fun sv H6 e6 ⟨sp, cs, esv, hsp, hts⟩ => ?_) fun av H6 e6 ⟨ap, y, u, rest, eav, hap, hyu, hyne⟩ => ?_
    · subst esv
      have pm : (sortK (kvs.map (·.1))).Perm (kvs.map (·.1)) := List.mergeSort_perm _ _
      have hkz : ∀ k ∈ sortK (kvs.map (·.1)), ∃ v x, k = zk v x := fun k hk => hwz.keys k (pm.mem_iff.mp hk)
      have hlen : cs.length = (sortK (kvs.map (·.1))).length := pd_len hts
      have hlen2 := pm.length_eq
      rw [List.length_map] at hlen2
      obtain ⟨lst, hlst⟩ : ∃ lst : List (Nat × Let), sortK (kvs.map (·.1)) = lst.map fun vx => zk vx.1 vx.2 := by
        generalize sortK (kvs.map (·.1)) = l at hkz
        induction l with
        | nil => exact ⟨[], rfl⟩
        | cons a l ih =>
          obtain ⟨v, x, hv⟩ := hkz a (by simp)
          obtain ⟨m, hm⟩ := ih fun k hk => hkz k (List.mem_cons_of_mem _ hk)
          exact ⟨(v, x) :: m, by rw [List.map_cons, hv, hm]⟩
      rw [hlst] at hts hlen hlen2
      rw [List.length_map] at hlen hlen2
      let good : Nat × Let → Bool := fun vx => decide (vx.1 = h) && (decide (t = []) || !decide ([vx.2] = [(t.getLast?.getD .a).flip]))
      let c : Nat → Bool := fun j => match lst[j]? with | some vx => good vx | none => false
      let fv : Nat → V := fun j => match lst[j]? with | some vx => tx [vx.2] | none => .non
      refine EvP.imp (EvP.ofL (el_lcLst (K := K) (a := sp) (xs := cs.map V.ref) c fv ev_c hsp (by rw [List.length_map]; omega) fun j z H7 Q2 hz e7 kk => ?_)) fun v H7 e7 ⟨p, ev, np, hp⟩ => ?_
      · rw [List.getElem?_map] at hz
        cases hc : cs[j]? with
        | none => rw [hc] at hz; cases hz
        | some cj =>
        rw [hc] at hz
        cases hz
        obtain ⟨kj, hkj, hcj⟩ := pd_get hts hc
        rw [List.getElem?_map] at hkj
        cases hl : lst[j]? with
        | none => rw [hl] at hkj; cases hkj
        | some vx =>
        rw [hl] at hkj
        cases hkj
        obtain ⟨vj, xj⟩ := vx
        have hcj' : H6 cj = some (.tup [.int (vj : Int), tx [xj]]) := hcj
        have ec : c j = good (vj, xj) := by show (match lst[j]? with | some vx => good vx | none => false) = _; rw [hl]
        have ef : fv j = tx [xj] := by show (match lst[j]? with | some vx => tx [vx.2] | none => .non) = _; rw [hl]
        refine g2 (e7 _ _ hcj') (kk _ rfl ?_ fun _ => by rw [ef]; exact ev_var rfl)
        rw [ec]
        have hd1 : decide ((vj : Int) = (h : Int)) = decide (vj = h) := decide_eq_decide.mpr (by omega)
        refine et_and (et_is (et_test (ev_op (ev_var rfl) (ev_var rfl) rv_eqI)) hd1) fun _ => et_or (et_test (ev_op (ev_var rfl) (ev_is ev_c (by rw [← T_nil])) (rv_eqW (a := t) (b := [])))) fun hte => ?_
        have htne : t ≠ [] := of_decide_eq_false hte
        obtain ⟨x, hx⟩ : ∃ x, t.getLast? = some x := ⟨_, List.getLast?_eq_some_getLast htne⟩
        rw [hx]
        exact et_test (ev_op (ev_var rfl) (ev_swap (K := K) (ev_lastS (ev_var rfl) (by omega) hx)) rv_neW)
      · have hN : (cs.map V.ref).length = lst.length := by rw [List.length_map, hlen]
        rw [hN] at hp
        have hin0 : zk h y0 ∈ kvs.map (·.1) := (valV_iff _ _).mp (by rw [hwz.get hC.fold, hy0]; rfl)
        have hin1 := pm.mem_iff.mpr hin0
        rw [hlst] at hin1
        obtain ⟨⟨h1, y1⟩, hm1, hz1⟩ := List.mem_map.mp hin1
        obtain ⟨g1, g2⟩ := zk_inj hz1
        have g1' : h1 = h := g1
        have g2' : y1 = y0 := g2
        subst g1' g2'
        obtain ⟨j0, hj0⟩ := List.getElem?_of_mem hm1
        have hgood0 : good (h1, y1) = true := by
          show (decide (h1 = h1) && (decide (t = []) || !decide ([y1] = [(t.getLast?.getD .a).flip]))) = true
          rw [decide_eq_true rfl, Bool.true_and]
          by_cases ht : t = []
          · rw [decide_eq_true ht]; rfl
          · obtain ⟨x, hx⟩ : ∃ x, t.getLast? = some x := ⟨_, List.getLast?_eq_some_getLast ht⟩
            rw [hx, decide_eq_false (p := [y1] = [(Option.getD (some x) Let.a).flip]) (fun e => hne0 x hx (List.head_eq_of_cons_eq e))]
            simp
        have hmem : j0 ∈ (List.range lst.length).filter c := by
          rw [List.mem_filter, List.mem_range]
          refine ⟨(List.getElem?_eq_some_iff.mp hj0).1, ?_⟩
          show (match lst[j0]? with | some vx => good vx | none => false) = true
          rw [hj0]
          exact hgood0
        cases hL : (List.range lst.length).filter c with
        | nil => rw [hL] at hmem; cases hmem
        | cons j1 rest =>
          rw [hL] at hp
          have hj1 : j1 ∈ (List.range lst.length).filter c := by rw [hL]; simp
          have hc1 := (List.mem_filter.mp hj1).2
          cases hl : lst[j1]? with
          | none =>
            have : (match lst[j1]? with | some vx => good vx | none => false) = true := hc1
            rw [hl] at this
            cases this
          | some vx =>
            have hg : good vx = true := by
              have : (match lst[j1]? with | some vx => good vx | none => false) = true := hc1
              rw [hl] at this
              exact this
            obtain ⟨v1, x1⟩ := vx
            have hg2 : (decide (v1 = h1) && (decide (t = []) || !decide ([x1] = [(t.getLast?.getD .a).flip]))) = true := hg
            rw [Bool.and_eq_true, decide_eq_true_iff] at hg2
            obtain ⟨hv1, hg3⟩ := hg2
            subst hv1
            have hkin : zk v1 x1 ∈ kvs.map (·.1) := by
              rw [← pm.mem_iff, hlst]
              exact List.mem_map.mpr ⟨_, List.mem_of_getElem? hl, rfl⟩
            have hsome := (valV_iff _ _).mpr hkin
            rw [hwz.get hC.fold] at hsome
            cases hst : Fw.stp es v1 x1 with
            | none => rw [hst] at hsome; cases hsome
            | some u1 =>
              have ef : fv j1 = tx [x1] := by show (match lst[j1]? with | some vx => tx [vx.2] | none => .non) = _; rw [hl]
              refine ⟨p, x1, u1, rest.map fv, ev, by rw [hp, List.map_cons, ef], hst, fun x hx e => ?_⟩
              rw [hx] at hg3
              rcases Bool.or_eq_true _ _ ▸ hg3 with h3 | h3
              · rw [of_decide_eq_true h3] at hx; cases hx
              · rw [decide_eq_true (p := [x1] = [(Option.getD (some x) Let.a).flip]) (by rw [e]; rfl)] at h3
                cases h3
    · subst eav
      refine q_asg (v := tx (t ++ [y])) (ev_addW (ev_var rfl) (ev_ixl (j := 0) (ev_var rfl) ev_c hap rfl) (by show t.length + 1 ≤ 100000; omega)) fun H7 e7 => ?_
      refine s_asg (ev_getT (k := zk h y) (v := .int (u : Int)) (ev_var rfl) (eu_2 (ev_var rfl) (ev_ixl (j := 0) (ev_var rfl) ev_c (e7 _ _ hap) rfl)) ((e5.trans (e6.trans e7)) _ _ hw4) (by rw [hwz.get hC.fold, hyu]; rfl)) fun H8 e8 => ⟨_, vs ++ [u], t ++ [y], u, by rw [List.length_append]; rfl, rfl, e4.trans ((e5.trans (e6.trans e7)).trans e8), (e5.trans (e6.trans (e7.trans e8))) _ _ hw4, hT.step hC.pa hh hyu hyne hd, ?_, ?_⟩
      · have := hT.len
        rw [List.length_append, List.getElem?_append_right (by rw [this]; exact Nat.le_refl _), this]
        simp
      · exact hti.app fun l hl => by rw [List.mem_singleton.mp hl]; exact ein_stp hei hC.fold hyu
  · have hd : deg (Fw.stp es) h ≠ if t = [] then 1 else 2 := by
      rw [← hdeg]
      exact fun e => of_decide_eq_false hbf (by rw [e])
    exact s_ret (ev_var rfl) fun H6 e6 => q _ _ ⟨e4.trans (e5.trans e6), t, rfl, hT.tail hpos hb hh hd, hti⟩
end
end FwK
end

section
set_option Elab.async false
set_option linter.all false
namespace FwR
open PySem
/-! ### a run has one end: what is shown of a call in several ways holds together -/
theorem runs_one {M : Model} {Γ : Ctx} {p : Pos} {t : Sem PySem.Fin} {fs : List Frame} {s s' : Shared} {e : End} (h : Runs M Γ p t fs s e s') : ∀ {e2 : End} {s2 : Shared}, Runs M Γ p t fs s e2 s2 → e = e2 ∧ s' = s2 := by
  induction h with
  | done => intro _ _ k; cases k; exact ⟨rfl, rfl⟩
  | raise => intro _ _ k; cases k; exact ⟨rfl, rfl⟩
  | again _ _ ih => intro _ _ k; cases k with | again _ k => exact ih k
  | rule _ ih => intro _ _ k; cases k with | rule k => exact ih k
  | «at» _ ih => intro _ _ k; cases k with | «at» k => exact ih k
  | load ho _ ih => intro _ _ k; cases k with | load ho' k => cases ho.symm.trans ho'; exact ih k
  | update _ _ ih => intro _ _ k; cases k with | update _ k => exact ih k
  | loadIfAlive _ ih => intro _ _ k; cases k with | loadIfAlive k => exact ih k
  | point _ ih => intro _ _ k; cases k with | point k => exact ih k
  | alloc _ ih => intro _ _ k; cases k with | alloc k => exact ih k
  | fresh _ ih => intro _ _ k; cases k with | fresh k => exact ih k
  | ask _ ih => intro _ _ k; cases k with | ask k => exact ih k
  | choose _ _ ih => intro _ _ k; cases k with | choose _ k => exact ih k
  | os _ ih => intro _ _ k; cases k with | os k => exact ih k
  | handled _ ih => intro _ _ k; cases k with | handled k => exact ih k
  | genState hg _ ih => intro _ _ k; cases k with | genState hg' k => cases hg.symm.trans hg'; exact ih k
  | stack _ ih => intro _ _ k; cases k with | stack k => exact ih k
  | thread _ ih => intro _ _ k; cases k with | thread k => exact ih k
  | newGen _ ih => intro _ _ k; cases k with | newGen k => exact ih k
  | call _ _ ih1 ih2 =>
    intro _ _ k
    cases k with
    | call k1 k2 => obtain ⟨e1, e2⟩ := ih1 k1; cases e1; cases e2; exact ih2 k2
    | callSusp k1 => cases (ih1 k1).1
  | callSusp _ ih =>
    intro _ _ k
    cases k with
    | call k1 _ => cases (ih k1).1
    | callSusp k1 => obtain ⟨e1, e2⟩ := ih k1; cases e1; cases e2; exact ⟨rfl, rfl⟩
  | yield => intro _ _ k; cases k; exact ⟨rfl, rfl⟩
  | resumeFresh hg _ _ _ ih1 ih2 =>
    intro _ _ k
    cases k with
    | resumeFresh hg' k1 _ k2 => cases hg.symm.trans hg'; obtain ⟨e1, e2⟩ := ih1 k1; cases e1; cases e2; exact ih2 k2
    | resumeSuspended hg' => cases hg.symm.trans hg'
    | resumeJustStarted _ hv => exact absurd rfl hv
    | resumeRunning hg' => cases hg.symm.trans hg'
    | resumeFinished hg' => cases hg.symm.trans hg'
  | resumeSuspended hg _ _ _ ih1 ih2 =>
    intro _ _ k
    cases k with
    | resumeFresh hg' => cases hg.symm.trans hg'
    | resumeSuspended hg' k1 _ k2 => cases hg.symm.trans hg'; obtain ⟨e1, e2⟩ := ih1 k1; cases e1; cases e2; exact ih2 k2
    | resumeJustStarted hg' => cases hg.symm.trans hg'
    | resumeThrowFresh hg' => cases hg.symm.trans hg'
    | resumeRunning hg' => cases hg.symm.trans hg'
    | resumeFinished hg' => cases hg.symm.trans hg'
  | resumeJustStarted hg hv _ ih =>
    intro _ _ k
    cases k with
    | resumeFresh => exact absurd rfl hv
    | resumeSuspended hg' => cases hg.symm.trans hg'
    | resumeJustStarted _ _ k => exact ih k
    | resumeRunning hg' => cases hg.symm.trans hg'
    | resumeFinished hg' => cases hg.symm.trans hg'
  | resumeThrowFresh hg _ ih =>
    intro _ _ k
    cases k with
    | resumeSuspended hg' => cases hg.symm.trans hg'
    | resumeThrowFresh _ k => exact ih k
    | resumeRunning hg' => cases hg.symm.trans hg'
    | resumeFinished hg' => cases hg.symm.trans hg'
  | resumeRunning hg _ ih =>
    intro _ _ k
    cases k with
    | resumeFresh hg' => cases hg.symm.trans hg'
    | resumeSuspended hg' => cases hg.symm.trans hg'
    | resumeJustStarted hg' => cases hg.symm.trans hg'
    | resumeThrowFresh hg' => cases hg.symm.trans hg'
    | resumeRunning _ k => exact ih k
    | resumeFinished hg' => cases hg.symm.trans hg'
  | resumeFinished hg _ ih =>
    intro _ _ k
    cases k with
    | resumeFresh hg' => cases hg.symm.trans hg'
    | resumeSuspended hg' => cases hg.symm.trans hg'
    | resumeJustStarted hg' => cases hg.symm.trans hg'
    | resumeThrowFresh hg' => cases hg.symm.trans hg'
    | resumeRunning hg' => cases hg.symm.trans hg'
    | resumeFinished _ k => exact ih k
  | segRet _ _ ih1 ih2 =>
    intro _ _ k
    cases k with
    | segRet k1 k2 => obtain ⟨e1, e2⟩ := ih1 k1; cases e1; cases e2; exact ih2 k2
    | segSuspOut _ k1 => cases (ih1 k1).1
    | segSuspGen _ k1 => cases (ih1 k1).1
  | segGen _ _ ih1 ih2 =>
    intro _ _ k
    cases k with
    | segGen k1 k2 => obtain ⟨e1, e2⟩ := ih1 k1; cases e1; cases e2; exact ih2 k2
    | segSuspOut _ k1 => cases (ih1 k1).1
    | segSuspGen _ k1 => cases (ih1 k1).1
  | segSuspOut hn _ ih =>
    intro _ _ k
    cases k with
    | segRet k1 _ => cases (ih k1).1
    | segGen k1 _ => cases (ih k1).1
    | segSuspOut _ k1 => obtain ⟨e1, e2⟩ := ih k1; cases e1; cases e2; exact ⟨rfl, rfl⟩
    | segSuspGen hn' => cases hn.symm.trans hn'
  | segSuspGen hn _ _ _ ih1 ih2 =>
    intro _ _ k
    cases k with
    | segRet k1 _ => cases (ih1 k1).1
    | segGen k1 _ => cases (ih1 k1).1
    | segSuspOut hn' => cases hn.symm.trans hn'
    | segSuspGen hn' k1 _ k2 => cases hn.symm.trans hn'; obtain ⟨e1, e2⟩ := ih1 k1; cases e1; cases e2; exact ih2 k2
theorem codeAny_each {ι : Type} {M : Model} {A : Around} {c : Code} {s : Shared} {P : ι → Result → Shared → Prop} (x0 : ι) (h : ∀ x, codeAny M A c (P x) s) : codeAny M A c (fun r s' => ∀ x, P x r s') s := fun Γ p e b => by
  obtain ⟨r, s1, h1, _⟩ := h x0 Γ p e b
  refine ⟨r, s1, h1, fun x => ?_⟩
  obtain ⟨r2, s2, h2, q⟩ := h x Γ p e b
  obtain ⟨e1, e2⟩ := runs_one h1 h2
  cases e1
  cases e2
  exact q
end FwR
end

section
set_option Elab.async false
set_option linter.all false
set_option maxRecDepth 100000
set_option maxHeartbeats 2000000
namespace FwK
open PySem PySem.Spec PyProof.Rows L2 Evl Fw FwR
/-! ### order_key -/
def ixs (u : Word) : List V := u.map fun l => .int (l.idx : Int)
section
variable {P : Program} {w : World} {K : PySem.W.Frag} {mg : Str → Option Value} {base : Heap} {σ : L2.St} {H H' : Hp} {ta tb te : TE}
abbrev spKey : Sp := spE (fun u : Word => [tx u]) (fun u _ => u.length ≤ 1000) (fun u v H' => ∃ p q, v = .ref p ∧ H' p = some (.tup [.int (u.length : Int), .ref q]) ∧ H' q = some (.tup (ixs u)))
theorem ev_index {l : Let} (h : Ev ta σ H (tx six)) (hb : Ev tb σ H (tx [l])) : Ev (tBM K "str" (fun x xs H Q => ∃ a b i rest, x = .str a ∧ xs = [.str b] ∧ Builtin.Str.occurrences a b 0 a.length 1 = i :: rest ∧ Q (.int (i : Nat)) H) ta (tCons tb tNil)) σ H (.int (l.idx : Int)) := fun H1 e Q q =>
  h H1 e _ fun H2 e2 => ⟨rfl, hb H2 (e.trans e2) _ fun H3 e3 => ⟨T six, T [l], l.idx, [], rfl, rfl, T_idx l, q H3 (e2.trans e3)⟩⟩
theorem eu_ofL {xs : List V} (h : EvL ta σ H xs) : EvU (tCB (rTupOf K) (tCons ta tNil)) σ H xs := fun H1 e Q q =>
  h H1 e _ fun p H2 np e2 hp => ⟨p, xs, rfl, .inl ⟨sq_of hp, fun l nl => q l _ (fresh_back e2 nl) (e2.trans (Ex.new nl)) upd_same⟩⟩
theorem ok_order_key (B : Bs mg) (F : Fx K mg "order_key" s_order_key pn_order_key) : Fd P w K mg base "order_key" pn_order_key 1 spKey := by
  refine F.fd sc_order_key (fun _ => rfl) fun u f cdv A outer s H Q hr hp q E => ?_
  refine ⟨_, (pss_one (ps_ret (pe_tup (pa_cons (pe_callB (r := rLenX) call_len_str (by rfl) B.z_len PySem.boot_len (pa_cons (pv 0) pa_nil)) (pa_cons (pe_callTy (r := rTupOf K) call_tuple_of (by rfl) B.z_tuple (by decide +kernel) (pa_cons (pe_lc (own := [("letter", 1)]) (g := (gName 1)) rfl sc_order_key.nd  (pi_str (pv 0)) (blkOk_by (N := nm_order_key) (sc := defScope s_order_key) (by decide +kernel)) (fun _ _ _ _ _ => (pg_name (i := 1) sc_order_key.nd rfl (Or.inl rfl))) (fun _ _ _ _ _ => pts_nil) (fun _ _ _ _ _ => (pe_bmK K rfl (pe_bm PySem.F.plainAttrs_str PySem.F.slot_str_index PySem.F.type_str_index mt_sindex (pe_k B.c_LETTERS) (pa_cons (pv 1) pa_nil))))) pa_nil)) pa_nil))))), ?_⟩
  have h6 : V.str "aAbBcC" = tx six := by rw [six_eq]
  exact s_retP (ep_pairU (ev_is (ev_lenS (ev_var rfl) (by rw [T_len]; omega)) (by rw [T_len])) (eu_ofL (K := K) (el_lcW (fun l => .int (l.idx : Int)) (ev_var rfl) (by omega) (fun _ => rfl) fun l H3 e3 hl => ev_index (ev_is ev_c h6) (ev_var rfl)))) fun v H1 e1 r => q _ _ ⟨e1, r⟩
end
/-! ### keys as data -/
def kD (u : Word) : PyData := .tuple [.int (u.length : Int), .tuple (u.map fun l => .int (l.idx : Int))]
theorem dp_ixs {K : PySem.W.Frag} {H : Hp} : ∀ u : Word, DpAll K H (ixs u) (u.map fun l => .int (l.idx : Int))
  | [] => .nil
  | l :: r => .cons (.int _) (dp_ixs r)
theorem dp_key {K : PySem.W.Frag} {H : Hp} {u : Word} {p q : Addr} (h1 : H p = some (.tup [.int (u.length : Int), .ref q])) (h2 : H q = some (.tup (ixs u))) : Dp K H (.ref p) (kD u) :=
  .tup (SqT.of h1) (.cons (.int _) (.cons (.tup (SqT.of h2) (dp_ixs u)) .nil))
theorem alike_ints : ∀ u v : Word, PySem.W.alikeAll (u.map fun l => PyData.int (l.idx : Int)) (v.map fun l => .int (l.idx : Int)) = true
  | [], _ => by simp [PySem.W.alikeAll]
  | _ :: _, [] => by simp [PySem.W.alikeAll]
  | a :: u, b :: v => by simp [PySem.W.alikeAll, PySem.W.alike, alike_ints u v]
theorem alike_kD (u v : Word) : PySem.W.alike (kD u) (kD v) = true := by
  simp [kD, PySem.W.alike, PySem.W.alikeAll, alike_ints]
theorem depth_ints : ∀ u : Word, PyData.depthAll (u.map fun l => PyData.int (l.idx : Int)) = 0
  | [] => by simp [PyData.depthAll]
  | a :: u => by simp [PyData.depthAll, PyData.depth, depth_ints u]
theorem depth_kD (u : Word) : (kD u).depth ≤ 2 := by simp [kD, PyData.depth, PyData.depthAll, depth_ints]
theorem lt_lex : ∀ u v : Word, ((u.map fun l => (l.idx : Int)) < (v.map fun l => (l.idx : Int))) ↔ Fw.lex (u.map Let.idx) (v.map Let.idx)
  | [], [] => by simp [Fw.lex]
  | [], _ :: _ => by simp [Fw.lex]
  | _ :: _, [] => by simp [Fw.lex]
  | a :: u, b :: v => by
    have ih := lt_lex u v
    simp only [List.map_cons, Fw.lex, List.cons_lt_cons_iff, ih]
    constructor
    · rintro (h | ⟨h1, h2⟩)
      · exact .inl (by omega)
      · exact .inr ⟨by omega, h2⟩
    · rintro (h | ⟨h1, h2⟩)
      · exact .inl (by omega)
      · exact .inr ⟨by omega, h2⟩
theorem eqv_ints : ∀ u v : Word, PyData.eqvAll (u.map fun l => PyData.int (l.idx : Int)) (v.map fun l => .int (l.idx : Int)) = decide (u = v)
  | [], [] => by simp [PyData.eqvAll]
  | [], _ :: _ => by simp [PyData.eqvAll]
  | _ :: _, [] => by simp [PyData.eqvAll]
  | a :: u, b :: v => by
    show (PyData.eqv (.int (a.idx : Int)) (.int (b.idx : Int)) && PyData.eqvAll _ _) = _
    rw [eqv_int, eqv_ints u v, ← Bool.decide_and]
    exact decide_eq_decide.mpr ⟨fun ⟨h1, h2⟩ => by rw [Let.idx_inj (Int.ofNat.inj h1), h2], fun h => by injection h with h1 h2; exact ⟨by rw [h1], h2⟩⟩
theorem lt_kD (u v : Word) : PySem.W.dataLt (kD u) (kD v) = true ↔ sl u v := by
  have h0 : PyProof.Rows.lexLt PyProof.Rows.itemOrd (PySem.W.keyToksAll []) (PySem.W.keyToksAll []) = false := PyProof.Rows.lex_irrefl _
  have hi : PySem.W.dataLt (.tuple (u.map fun l => PyData.int (l.idx : Int))) (.tuple (v.map fun l => .int (l.idx : Int))) = decide ((u.map fun l => (l.idx : Int)) < (v.map fun l => (l.idx : Int))) := by
    rw [PySem.W.dataLt_tuple]
    have := PySem.W.dataLt_ints (u.map fun l => (l.idx : Int)) (v.map fun l => (l.idx : Int))
    rw [List.map_map, List.map_map] at this
    exact this
  unfold kD
  rw [PySem.W.dataLt_tuple, PySem.W.dataLt_cons (by simp [PySem.W.alike]), PySem.W.dataLt_cons (by simp [PySem.W.alike, alike_ints]), h0, PySem.W.dataLt_int, eqv_int, hi]
  have he : PyData.eqv (.tuple (u.map fun l => PyData.int (l.idx : Int))) (.tuple (v.map fun l => .int (l.idx : Int))) = decide (u = v) := eqv_ints u v
  rw [he]
  unfold sl
  by_cases h1 : u.length = v.length
  · rw [if_pos (by rw [h1]; exact decide_eq_true rfl)]
    by_cases h2 : u = v
    · subst h2
      rw [if_pos (decide_eq_true rfl)]
      simp
      exact Fw.lex_irrefl _
    · rw [if_neg (by rw [decide_eq_false h2]; decide), decide_eq_true_iff, lt_lex]
      exact ⟨fun h => .inr ⟨h1, h⟩, fun h => h.elim (fun h => by omega) fun h => h.2⟩
  · have h1' : ¬ ((u.length : Int) = (v.length : Int)) := fun h => h1 (Int.ofNat.inj h)
    rw [if_neg (by rw [decide_eq_false h1']; decide), decide_eq_true_iff]
    exact ⟨fun h => .inl (by omega), fun h => h.elim (fun h => by omega) fun h => absurd h.1 h1⟩
/-- the best of the first -/
theorem best_least {ws : List Word} (bt : Nat → Nat → Bool) (hbt : ∀ i j, bt i j = PySem.W.dataLt (kD (ws.getD i [])) (kD (ws.getD j []))) : ∀ k, argBest bt k ≤ k ∧ ∀ i, i ≤ k → sle (ws.getD (argBest bt k) []) (ws.getD i [])
  | 0 => ⟨Nat.le_refl _, fun i hi => by
    have : i = 0 := by omega
    subst this
    exact sle_refl _⟩
  | k + 1 => by
    obtain ⟨h1, h2⟩ := best_least bt hbt k
    unfold argBest
    by_cases hb : bt (k + 1) (argBest bt k) = true
    · rw [if_pos hb]
      have h3 : sl (ws.getD (k + 1) []) (ws.getD (argBest bt k) []) := (lt_kD _ _).mp (by rw [← hbt]; exact hb)
      refine ⟨Nat.le_refl _, fun i hi => ?_⟩
      by_cases e : i = k + 1
      · rw [e]; exact sle_refl _
      · exact sle_trans (sle_of_sl h3) (h2 i (by omega))
    · rw [if_neg hb]
      refine ⟨by omega, fun i hi => ?_⟩
      by_cases e : i = k + 1
      · rw [e]
        intro h
        exact hb (by rw [hbt]; exact (lt_kD _ _).mpr h)
      · exact h2 i (by omega)
/-! ### min(words, key=order_key) -/
theorem inv_moved {X : Cx} {pins : List (Addr × Obj)} {σ : L2.St} {H : Hp} {s s' : Shared} {fp : List Addr} (I : L2.Inv X pins σ H s) (hf : ∀ b ∈ fp, FpOk X pins H b) (M : Moved fp (fun a b => b = a) s s') : L2.Inv X pins σ H s' := by
  obtain ⟨h', g', d', t', os'⟩ := s'
  obtain ⟨mh, mg, md, mo, mt⟩ := M
  dsimp only at mh mg md mo mt
  subst mg md mo
  have nit : ∀ b u, H b = some u → b ∉ fp := fun b u e z => by rw [(hf b z).1] at e; cases e
  refine I.step (g' := s.gens) (d' := s.drawn) (ch := fp) (fun b hb => ⟨(hf b hb).2.2.2.1, (hf b hb).2.1, (hf b hb).2.2.2.2.1, (hf b hb).2.2.2.2.2⟩) (fun b o _ _ hc e _ => mh b o hc e) (fun b o _ _ hc e _ => ⟨o.slots, mh b o hc e⟩) (fun _ _ _ _ n => n)
    (fun b o hc e => ⟨o, mh b o hc e⟩) (fun _ _ e => e) (fun _ _ _ e => e) (fun b ps e => ⟨#[], by rw [e]; simp⟩) (fun m hm => ?_) (fun b u e => ?_) I.bare
  · obtain ⟨o, es, ep, ho, r⟩ := hm
    exact ⟨o, es, ep, mh _ o (fun z => (hf _ z).2.1 rfl) ho, r⟩
  · refine (I.hok b u e).stay (fun c v hc q => mh c v ?_ q) (fun _ q => q) fun _ _ q => q
    rcases hc with z | z
    · rw [z]; exact nit b u e
    · exact nit c _ z
def rMinF (K : PySem.W.Frag) (f : Addr) : List V → List V → Hp → VK → Prop := fun xs zs H Q => ∃ (a : Addr) (ws : List Word), xs = [.ref a] ∧ zs = [.ref f] ∧ SqL K H a (ws.map tx) ∧ ws ≠ [] ∧ (∀ u ∈ ws, u.length ≤ 1000) ∧ ∀ u H', u ∈ ws → (∀ z ∈ ws, sle u z) → Ex H H' → Q (tx u) H'
theorem call_minF {X : Cx} {k : Nat} {f : Addr} {fd : FuncData} (hc : X.calm = true) (F : FnOk X.prog X.w X.K X.mg X.base CX0 k f fd ["word"] spKey) (hb : Binds X.K fd ["word"] []) (hr : Room (k + 1) X.A) : CallRK X (.builtin "min") ["key"] (rMinF X.K f) := by
  intro pins s σ H xs zs us zv Q I r rz h
  obtain ⟨a, ws, rfl, rfl, hS, hne, hl, q⟩ := h
  rw [Vals.ref1 r, Vals.ref1 rz]
  show wpAny (model X.prog X.w) X.A (call (.builtin "min") [.ref a] [(Str.ofString "key", .ref f)]) _ _ s
  obtain ⟨its, rv, hli, _⟩ := I.list hS
  have hlen : its.length = ws.length := by
    have := rv.length
    rw [List.length_map] at this
    exact this.symm
  have hhd : X.A.in1.handled = none := I.ok.hd hc
  have hpos : 0 < ws.length := List.length_pos_iff.mpr hne
  refine call_min_walkK (PySem.W.iter_listW (A := X.A.in1) hhd hli.isList fun s₂ e W st hfp hw hkp => ?_)
  have hax : a ≠ s.heap.objs.size := by
    obtain ⟨o, ho, _⟩ := hli.isList
    exact Nat.ne_of_lt (Heap.lt_size ho)
  have I2 : L2.Inv X pins σ H s₂ := by
    rw [e]
    exact I.kept (t' := s.toks) (by rw [e] at hkp; exact hkp)
  have fI : FpOk X pins H s.heap.objs.size := I.fpOk (Nat.le_refl _) (I.hok.fresh (Nat.le_refl _))
  have fS : FpOk X pins H s₂.heap.objs.size := I2.fpOk (Nat.le_refl _) (I2.hok.fresh (Nat.le_refl _))
  generalize hI0 : s.heap.objs.size = I0 at *
  generalize hS0 : s₂.heap.objs.size = S0 at *
  let St : Nat → Shared → Prop := fun i s' => s'.heap.IsListIter I0 a i ∧ ∃ vs : List Value, vs.length = ws.length ∧ s'.heap.IsList a vs.toArray ∧ Vals (ws.map tx) vs
  -- the abstract heaps that may stand, and what a key is in one
  let Gd : Hp → Shared → Prop := fun H' s' => Ex H H' ∧ L2.Inv X pins σ H' s' ∧ ∀ b ∈ [S0, I0], FpOk X pins H' b
  let Ky : Hp → Nat → Value → Prop := fun H' i kb => ∃ p q, kb = .ref p ∧ H' p = some (.tup [.int ((ws.getD i []).length : Int), .ref q]) ∧ H' q = some (.tup (ixs (ws.getD i [])))
  let J : Shared → Prop := fun s' => ∃ H', Gd H' s'
  let Vv : Nat → Value → Shared → Prop := fun i kb s' => ∃ H', Gd H' s' ∧ Ky H' i kb
  let bt : Nat → Nat → Bool := fun i j => PySem.W.dataLt (kD (ws.getD i [])) (kD (ws.getD j []))
  have Wl : ∀ vs : List Value, WalksS X.prog X.w X.A.in1 I0 [I0, a] [I0] (fun a b => b = a) vs.toArray.size (fun i v => vs.toArray[i]? = some v) (fun i s' => s'.heap.IsListIter I0 a i ∧ s'.heap.IsList a vs.toArray) := fun vs => (Walks.list (A := X.A.in1) hhd I0 a hax vs.toArray).toS
  have W' : WalksS X.prog X.w X.A.in1 I0 [I0, a] [I0] (fun a b => b = a) ws.length (fun i v => RelV (tx (ws.getD i [])) v) St := by
    refine ⟨W.sub, fun _ => rfl, fun _ _ _ h1 h2 => h2.trans h1, fun i s' h' tk ⟨c1, vs, c2, c3, c4⟩ ht hk => ?_, fun i s' Q' E' hi ⟨c1, vs, c2, c3, c4⟩ hQ' => ?_, fun s' Q' E' ⟨c1, vs, c2, c3, c4⟩ hQ' => ?_, fun i s' Q' E' ⟨c1, vs, c2, c3, c4⟩ hQ' => ?_⟩
    · obtain ⟨d1, d2⟩ := (Wl vs).frame i s' h' tk ⟨c1, c3⟩ ht hk
      exact ⟨d1, vs, c2, d2, c4⟩
    · refine (Wl vs).item i s' Q' E' (by rw [List.size_toArray, c2]; exact hi) ⟨c1, c3⟩ fun v s'' hv ⟨d1, d2⟩ hm => hQ' v s'' ?_ ⟨d1, vs, c2, d2, c4⟩ hm
      obtain ⟨u, hu, hr2⟩ := c4.get (i := i) (x := tx (ws.getD i [])) (by rw [List.getElem?_map, List.getD_eq_getElem?_getD, List.getElem?_eq_getElem hi]; rfl)
      have hv' : vs[i]? = some v := by simpa using hv
      rw [hv'] at hu
      cases hu
      exact hr2
    · exact (Wl vs).done s' Q' E' ⟨by rw [List.size_toArray, c2]; exact c1, c3⟩ hQ'
    · exact (Wl vs).self i s' Q' E' ⟨c1, c3⟩ hQ'
  have hst0 : St 0 s₂ := ⟨st.1, its, hlen, st.2, rv⟩
  have hJ0 : J s₂ := ⟨H, Ex.refl H, I2, fun b hb => by
    rcases List.mem_cons.mp hb with h | h
    · rw [h]; exact fS
    · rw [List.mem_singleton.mp h]; exact fI⟩
  have Rn : KeyRun X.prog X.w X.A.in1 (.ref f) .Lt S0 [I0] (fun a b => b = a) ws.length (fun i v => RelV (tx (ws.getD i [])) v) St J Vv bt := by
    refine ⟨fun s' s'' ⟨H', c1, c2, c3⟩ hm => ⟨H', c1, inv_moved c2 c3 hm, c3⟩, fun i kb s' s'' ⟨H', ⟨c1, c2, c3⟩, c4⟩ hm => ⟨H', ⟨c1, inv_moved c2 c3 hm, c3⟩, c4⟩, fun i v s' o Q' E' hi hv ⟨H0, g0⟩ hst hSo kk => ?_, fun i j ki kj s' Q' E' _ ⟨H1, g1, p1, q1, e1, a1, b1⟩ ⟨H2, g2, p2, q2, e2, a2, b2⟩ hq' => ?_⟩
    · have hul : (ws.getD i []).length ≤ 1000 := hl _ (by rw [List.getD_eq_getElem?_getD, List.getElem?_eq_getElem hi]; exact List.getElem_mem hi)
      obtain ⟨⟨oi, hoi, hoc⟩, _⟩ := id hst
      -- the call, seen from each abstract heap that stands; its runs are one run
      refine wpAny_call (codeAny_mono (codeAny_each (ι := {H' // Gd H' s'}) (P := fun x r s'' => ∃ kx H'', r = .ok (.ret kx) ∧ Ex x.1 H'' ∧ Gd H'' s'' ∧ Ky H'' i kx ∧ St (i + 1) s'' ∧ s''.heap.get? S0 = some o) ⟨H0, g0⟩ fun ⟨H', c1, c2, c3⟩ => ?_) fun r s'' hall => ?_)
      · have hsp : spKey [tx (ws.getD i [])] H' (fun v' H'' => Ex H' H'' ∧ ∃ p q, v' = .ref p ∧ H'' p = some (.tup [.int ((ws.getD i []).length : Int), .ref q]) ∧ H'' q = some (.tup (ixs (ws.getD i [])))) E0 := ⟨ws.getD i [], rfl, hul, fun v' H'' h => h⟩
        refine codeAny_mono (F.run X.A.in1 X.stack s' H' ⟨[v], []⟩ [v] [tx (ws.getD i [])] _ E0 hr.in1 c2.env0.in1 (hb s' [v] c2.kIn rfl) (.cons hv .nil) hsp) fun r s'' hq => ?_
        cases r with
        | error e => exact False.elim hq
        | ok fl =>
          cases fl with
          | next => exact False.elim hq
          | brk => exact False.elim hq
          | cont => exact False.elim hq
          | ret kx =>
            obtain ⟨v', H'', ho, hba, un, hok, rv', ex'', p, q, ev', hp1, hp2⟩ := hq
            have I'' : L2.Inv X pins σ H'' s'' := c2.call' (ch := []) ho un hok hba fun b z => nomatch z
            subst ev'
            cases rv'
            have out : ∀ b ∈ [S0, I0], b ∉ frs X.stack := fun b hb z => by
              rcases List.mem_cons.mp (c2.stkSub b z) with h | h
              · exact (c3 b hb).2.1 h
              · exact (c3 b hb).2.2.1 h
            have same : ∀ b o', b ∈ [S0, I0] → s'.heap.get? b = some o' → s''.heap.get? b = some o' := fun b o' hb ho' => un.keep b o' ho' (c3 b hb).1 (out b hb) (by simp)
            have none'' : ∀ b o', b ∈ [S0, I0] → s'.heap.get? b = some o' → H'' b = none := fun b o' hb ho' => un.free b o' ho' (c3 b hb).1 (by simp)
            obtain ⟨its', rv2, hli', _⟩ := I''.list (ex_l (c1.trans ex'') hS)
            have hlen' : its'.length = ws.length := by
              have := rv2.length
              rw [List.length_map] at this
              exact this.symm
            refine ⟨.ref p, H'', rfl, ex'', ⟨c1.trans ex'', I'', fun b hb => ⟨?_, (c3 b hb).2⟩⟩, ⟨p, q, rfl, hp1, hp2⟩, ⟨⟨oi, same I0 oi (by simp) hoi, hoc⟩, its', hlen', hli'.isList, rv2⟩, same S0 o (by simp) hSo⟩
            rcases List.mem_cons.mp hb with h | h
            · rw [h]; exact none'' S0 o (by simp) hSo
            · rw [List.mem_singleton.mp h]; exact none'' I0 oi (by simp) hoi
      · obtain ⟨kx, H'', er, _, g2, k2, st2, so2⟩ := hall ⟨H0, g0⟩
        subst er
        refine kk kx s'' ⟨H'', g2⟩ st2 so2 ⟨H'', g2, k2⟩ fun j k' ⟨H1, g1, p, q, e1, a1, b1⟩ => ?_
        obtain ⟨_, H3, _, ex3, g3, _⟩ := hall ⟨H1, g1⟩
        exact ⟨H3, g3, p, q, e1, ex3 _ _ a1, ex3 _ _ b1⟩
    · subst e1 e2
      obtain ⟨as, r1⟩ := Dp.reads g1.2.1 (kD (ws.getD i [])) (.ref p1) (.ref p1) (dp_key a1 b1) rfl
      obtain ⟨bs, r2⟩ := Dp.reads g2.2.1 (kD (ws.getD j [])) (.ref p2) (.ref p2) (dp_key a2 b2) rfl
      have hun := hr.un
      have hdp := depth_kD (ws.getD i [])
      exact PySem.W.rcLt_alike _ _ X.A.in1 s' _ _ _ _ r1 r2 (alike_kD _ _) (by simp [kD]) (by show X.A.units + 1 + _ < _; omega) _ _ _ _ hq'
  refine ⟨I0, [I0, a], [I0], fun a b => b = a, ws.length, fun i v => RelV (tx (ws.getD i [])) v, St, J, Vv, bt, rfl, W', hst0, fun b hb => hfp b hb, hpos, Rn, hJ0, fun v s' hv ⟨H', c1, c2, c3⟩ => ?_⟩
  obtain ⟨b1, b2⟩ := best_least (ws := ws) bt (fun _ _ => rfl) (ws.length - 1)
  have hbl : argBest bt (ws.length - 1) < ws.length := by omega
  refine ⟨tx (ws.getD (argBest bt (ws.length - 1)) []), H', c2, hv, q _ H' ?_ (fun z hz => ?_) c1⟩
  · rw [List.getD_eq_getElem?_getD, List.getElem?_eq_getElem hbl]
    exact List.getElem_mem hbl
  · obtain ⟨i, hi⟩ := List.getElem?_of_mem hz
    have hil := (List.getElem?_eq_some_iff.mp hi).1
    have := b2 i (by omega)
    rw [List.getD_eq_getElem?_getD (i := i), hi] at this
    exact this
end FwK
end

section
set_option Elab.async false
set_option linter.all false
set_option maxRecDepth 100000
set_option maxHeartbeats 2000000
namespace FwK
open PySem PySem.Spec PyProof.Rows L2 Evl Fw FwR
section
variable {P : Program} {w : World} {K : PySem.W.Frag} {mg : Str → Option Value} {base : Heap} {σ : L2.St} {H H' : Hp} {ta tb te : TE} {D : Ends} {tu tz : TS}
theorem s_whenP {S : Bool → Prop} (h : EvP te σ H (fun v _ => ∃ b, v = .bl b ∧ S b)) (h1 : S true → ∀ H1, Ex H H1 → tu D σ H1) (h2 : S false → ∀ H1, Ex H H1 → D.nx σ H1) : tIfS (tTest te) tu tNext D σ H := h H (Ex.refl H) _ fun v H1 e1 ⟨b, hv, hS⟩ => ⟨b, hv, by
  cases b with
  | true =>
    rw [if_pos rfl]
    exact h1 hS H1 e1
  | false =>
    rw [if_neg (by decide)]
    exact h2 hS H1 e1⟩
theorem tIf_yes {ta tb tc : TE} {p : Addr} {xs : List V} {Q : V → Hp → Prop} (h : Ev ta σ H (.ref p)) (hp : H p = some (.lst xs)) (hb : (!xs.isEmpty) = true) (k : ∀ H1, Ex H H1 → tb σ H1 Q) : tIf (fun σ H Q => ta σ H fun x H' => ∃ k, TruV K x H' k ∧ Q k H') tb tc σ H Q := et_tru (K := K) h hp H (Ex.refl H) _ fun H1 e1 => by
  rw [hb, if_pos rfl]
  exact k H1 e1
theorem Fw_ret {D : Ends} {rt : V → Hp → Prop} (h : te σ H rt) : tRet te { nx := D.nx, rt := rt } σ H := h
abbrev spConjugator : Sp := spE (fun i : (V × V) × Nat × List Word × List Word => [i.1.1, i.1.2]) (fun i H => Fam H i.1.1 i.2.1 i.2.2.1 ∧ FamOk i.2.1 i.2.2.1 ∧ Fam H i.1.2 i.2.1 i.2.2.2 ∧ FamOk i.2.1 i.2.2.2)
  (fun i v _ => (v = .non ∧ ∀ g, ¬ Conj (Gen i.2.2.1) (Gen i.2.2.2) g) ∨ ∃ f, v = tx f ∧ Conj (Gen i.2.2.1) (Gen i.2.2.2) f ∧ Rd f ∧ (∀ g, Rd g → Conj (Gen i.2.2.1) (Gen i.2.2.2) g → sle f g) ∧ InR i.2.1 f ∧ f.length ≤ 100 ∧
    ∀ n1 es1 n2 es2, Canon n1 es1 (Gen i.2.2.1) → Canon n2 es2 (Gen i.2.2.2) → f.length < n1 + n2)
theorem ok_conjugator (B : Bs mg) (F : Fx K mg "conjugator" s_conjugator pn_conjugator) (g_check_two : Fd P w K mg base "check_two" pn_check_two 6 spCheckTwo) (g_graph_in : Fd P w K mg base "graph_in" pn_graph_in 10 spGraphIn) (g_tail_of : Fd P w K mg base "tail_of" pn_tail_of 2 spTail) (g_paths_in : Fd P w K mg base "paths_in" pn_paths_in 2 spPaths)
    (g_reduce_of : Fd P w K mg base "reduce_of" pn_reduce_of 2 spRed) (g_inverse_of : Fd P w K mg base "inverse_of" pn_inverse_of 2 spInv) (g_moved : Fd P w K mg base "moved" pn_moved 3 spMoved) (g_attach : Fd P w K mg base "attach" pn_attach 2 spAttach) (g_first_way : Fd P w K mg base "first_way" pn_first_way 2 spFirst) (g_order_key : Fd P w K mg base "order_key" pn_order_key 1 spKey) :
    Fd P w K mg base "conjugator" pn_conjugator 11 spConjugator := by
  obtain ⟨fk, fdk, Fk, mk, kk, bk⟩ := g_order_key.ex
  refine F.fd sc_conjugator (fun _ => rfl) fun i f cdv A outer s H Q hr hp q E => ?_
  refine ⟨_, (pss_cons (ps_expr (pe_fd g_check_two (hr.mono (by decide)) (by rfl) (pa_cons (pv 0) (pa_cons (pv 1) pa_nil))))
    (pss_cons (ps_asg (pe_fd g_graph_in (hr.mono (by decide)) (by rfl) (pa_cons (pv 0) pa_nil)) (pg_name (i := 2) sc_conjugator.nd rfl (Or.inl rfl)))
    (pss_cons (ps_asg (pe_fd g_graph_in (hr.mono (by decide)) (by rfl) (pa_cons (pv 1) pa_nil)) (pg_name (i := 3) sc_conjugator.nd rfl (Or.inl rfl)))
    (pss_cons (ps_asg (pe_fd g_tail_of (hr.mono (by decide)) (by rfl) (pa_cons (pv 3) pa_nil)) (pg_name (i := 4) sc_conjugator.nd rfl (Or.inl rfl)))
    (pss_cons (ps_asg (pe_lst pa_nil) (pg_name (i := 5) sc_conjugator.nd rfl (Or.inl rfl)))
    (pss_cons (ps_for PassesOwn.never rfl (pi_list (pe_fd g_paths_in (hr.mono (by decide)) (by rfl) (pa_cons (pe_ix (r := rIxT K) ix_tup (pv 0) pe_int (fun _ _ => rfl)) (pa_cons (pv 2) pa_nil)))) (pg_name (i := 6) sc_conjugator.nd rfl (Or.inl rfl)) (pss_cons (ps_asg (pe_fd g_reduce_of (hr.mono (by decide)) (by rfl) (pa_cons (pe_op op_add_str (pv 6) (pe_fd g_inverse_of (hr.mono (by decide)) (by rfl) (pa_cons (pv 4) pa_nil))) pa_nil)) (pg_name (i := 7) sc_conjugator.nd rfl (Or.inl rfl)))
    (pss_one (ps_if (pt_cmpR (op_eqD hr.units) (pe_fd g_moved (hr.mono (by decide)) (by rfl) (pa_cons (pv 2) (pa_cons (pv 7) pa_nil))) (pv 3) (nomark _)) (pss_cons (ps_asg (pe_fd g_attach (hr.mono (by decide)) (by rfl) (pa_cons (pv 2) (pa_cons (pv 7) pa_nil))) (pg_tup rfl (pgs_cons (pg_name (i := 8) sc_conjugator.nd rfl (Or.inl rfl)) (pgs_cons (pg_name (i := 9) sc_conjugator.nd rfl (Or.inl rfl)) pgs_nil))))
    (pss_one (ps_expr (pe_bmK K rfl (pe_bm PySem.F.plainAttrs_list PySem.F.slot_list_append PySem.F.type_list_append mt_append (pv 5) (pa_cons (pe_fd g_first_way (hr.mono (by decide)) (by rfl) (pa_cons (pe_ix (r := rIxT K) ix_tup (pv 0) pe_int (fun _ _ => rfl)) (pa_cons (pv 8) (pa_cons (pv 9) pa_nil)))) pa_nil)))))) pss_nil))))
    (pss_one (ps_ret (pe_ifExp (pt_truth (pv 5) (by intro _; rfl)) (pe_callBK (r := rMinF K fk) (call_minF rfl Fk bk (hr.mono (by decide))) (by rfl) B.z_min (by decide +kernel) (pa_cons (pv 5) pa_nil) (pk_cons (pe_glob (v := .ref fk) (by rfl) mk rfl) pk_nil)) pe_non))))))))), ?_⟩
  obtain ⟨⟨v1, v2⟩, r, w1, w2⟩ := i
  obtain ⟨f1, ok1, f2, ok2⟩ := hp
  obtain ⟨p1, a1, ev1, g1, _⟩ := id f1
  replace ev1 : v1 = .ref p1 := ev1
  subst ev1
  replace f1 : Fam H (.ref p1) r w1 := f1
  replace f2 : Fam H v2 r w2 := f2
  replace ok1 : FamOk r w1 := ok1
  replace ok2 : FamOk r w2 := ok2
  replace g1 : H p1 = some (.tup [.int (r : Int), .ref a1]) := g1
  replace q : ∀ v H', (Ex H H' ∧ ((v = .non ∧ ∀ g, ¬ Conj (Gen w1) (Gen w2) g) ∨ ∃ f, v = tx f ∧ Conj (Gen w1) (Gen w2) f ∧ Rd f ∧ (∀ g, Rd g → Conj (Gen w1) (Gen w2) g → sle f g) ∧ InR r f ∧ f.length ≤ 100 ∧ ∀ n1 es1 n2 es2, Canon n1 es1 (Gen w1) → Canon n2 es2 (Gen w2) → f.length < n1 + n2)) → Q v H' := q
  refine q_drop (ev_fd ((.ref p1, v2), r, w1, w2) (ea_cons (ev_var rfl) (ea_cons (ev_var rfl) ea_nil)) rfl fun H1 e1 => ⟨f1.keep (Tk.of e1), ok1, f2.keep (Tk.of e1), ok2⟩) fun H1 e1 => ?_
  refine q_asgP (ep_fd (.ref p1, r, w1) (ea_cons (ev_var rfl) ea_nil) rfl fun H2 e2 => ⟨f1.keep (Tk.of (e1.trans e2)), ok1⟩) fun gv H2 e2 ⟨n1, es1, hG1, hC1, hn1, hl1⟩ => ?_
  have e02 := e1.trans e2
  refine q_asgP (ep_fd (v2, r, w2) (ea_cons (ev_var rfl) ea_nil) rfl fun H3 e3 => ⟨f2.keep (Tk.of (e02.trans e3)), ok2⟩) fun hv H3 e3 ⟨n2, es2, hG2, hC2, hn2, hl2⟩ => ?_
  have e03 := e02.trans e3
  replace hC1 : Canon n1 es1 (Gen w1) := hC1
  replace hC2 : Canon n2 es2 (Gen w2) := hC2
  have hin1 : EIn r es1 := canon_in hC1 fun z hz => (ok1.2.2.2 z hz).1
  have hin2 : EIn r es2 := canon_in hC2 fun z hz => (ok2.2.2.2 z hz).1
  refine q_asgP (ep_fd ((hv, n2, es2), r, Gen w2) (ea_cons (ev_var rfl) ea_nil) rfl fun H4 e4 => ⟨hG2.keep (Tk.of e4), hC2, hin2, by show n2 ≤ 300; omega, by show es2.length ≤ 300; omega⟩) fun tv H4 e4 ⟨t, etv, hT, hti⟩ => ?_
  subst etv
  replace hT : Tail (Fw.stp es2) n2 t := hT
  replace hti : InR r t := hti
  have htl := hT.len
  refine q_asgL (el_lst ea_nil (Nat.zero_le _)) fun fo H5 nfo e5 hfo => ?_
  have e04 := e03.trans e4
  have e05 := e04.trans e5
  have nfo' : H fo = none := fresh_back e04 nfo
  have hG1' : Gr H4 gv n1 es1 := hG1.keep (Tk.of (e3.trans e4))
  have hG2' : Gr H4 hv n2 es2 := hG2.keep (Tk.of e4)
  -- the paths
  refine (ep_fd ((gv, n1, es1), r, Gen w1) (ea_cons (ev_ixt (j := 0) (σ := [some (.ref p1), some v2, some gv, some hv, some (tx t), some (.ref fo), none, none, none, none]) (K := K) (ta := tVar 0) (tb := tC (.int 0)) (ev_var rfl) ev_c (e05 _ _ g1) rfl) (ea_cons (ev_var rfl) ea_nil)) rfl fun H6 e6 => ⟨hG1'.keep (Tk.of (e5.trans e6)), hC1, hin1, ok1.1, ok1.2.1, by show n1 ≤ 300; omega, by show es1.length ≤ 300; omega⟩) H5 (Ex.refl H5) _ fun pv H6 e6 ⟨pa, ps, epv, hpa, hpl, hps, hp0⟩ => ?_
  subst epv
  replace hpl : ps.length = n1 := hpl
  replace hps : ∀ k p, ps[k]? = some p → walk (Fw.stp es1) 0 p = some k ∧ p.length < n1 ∧ InR r p := hps
  have e46 := e5.trans e6
  have dpf : pa ≠ fo := fun z => by
    rw [z, e6 _ _ hfo] at hpa
    injection hpa with h1
    injection h1 with h1
    have h2 := congrArg List.length h1
    rw [List.length_map, hpl] at h2
    have := hC1.pos
    simp at h2
    omega
  refine ⟨pa, rfl, ⟨_, sq_of hpa⟩, for_list (K := K) (a := pa) (xs := ps.map tx) (fun i σ H7 => ∃ (y6 y7 y8 y9 : Option V) (fs : List Word), σ = [some (.ref p1), some v2, some gv, some hv, some (tx t), some (.ref fo), y6, y7, y8, y9] ∧ Ex H4 H7 ∧ H7 pa = some (.lst (ps.map tx)) ∧ H7 fo = some (.lst (fs.map tx)) ∧ fs.length ≤ i ∧ (∀ f ∈ fs, InR r f ∧ ∃ p ∈ ps, Cand es1 n1 (Gen w1) (Gen w2) t p (some f)) ∧ ∀ p ∈ ps.take i, ∃ o, Cand es1 n1 (Gen w1) (Gen w2) t p o ∧ ∀ f, o = some f → f ∈ fs) ?_ ?_ ?_ ?_⟩
  · exact ⟨_, _, _, _, [], rfl, e46, hpa, e6 _ _ hfo, Nat.le_refl _, fun f hf => by simp at hf, fun p hp => by simp at hp⟩
  · rintro i σ H7 hi ⟨y6, y7, y8, y9, fs, rfl, e7, hpa7, hfo7, hfl, hf1, hf2⟩
    exact sq_of hpa7
  · rintro i x σ H7 hx ⟨y6, y7, y8, y9, fs, rfl, e7, hpa7, hfo7, hfl, hf1, hf2⟩
    rw [List.getElem?_map] at hx
    cases hpi : ps[i]? with
    | none => rw [hpi] at hx; cases hx
    | some p =>
    rw [hpi] at hx
    cases hx
    obtain ⟨hpw, hplt, hpin⟩ := hps i p hpi
    have hil := (List.getElem?_eq_some_iff.mp hpi).1
    have hpm : p ∈ ps := List.mem_of_getElem? hpi
    have hul : (p ++ inv t).length ≤ 100 := by rw [List.length_append, inv_length]; omega
    have hui : InR r (red (p ++ inv t)) := (hpin.app hti.inv).red
    have hrl := red_len (p ++ inv t)
    have tkp : ps.take (i + 1) = ps.take i ++ [p] := by rw [List.take_add_one, hpi]; rfl
    have hul' : p.length + (inv t).length ≤ 100 := by rw [inv_length]; omega
    -- word = reduce_of(path + inverse_of(tail))
    refine q_asg (v := tx (red (p ++ inv t))) (ev_fd (p ++ inv t) (ea_cons (ev_addW (ev_var rfl) (ev_fd t (ea_cons (ev_var rfl) ea_nil) rfl fun _ _ => by show t.length ≤ 1000; omega) (by omega)) ea_nil) rfl fun _ _ => Nat.le_trans hul (by decide)) fun H8 e8 => ?_
    have e48 := e7.trans e8
    -- if moved(graph, word) == goal
    refine s_whenP (S := fun b => b = true ↔ Conj (Gen w1) (Gen w2) (red (p ++ inv t))) (EvP.imp (ep_eqGr (S1 := fun n es => Canon n es (Cj (Gen w1) (red (red (p ++ inv t))))) (S2 := fun n es => Canon n es (Gen w2)) (ep_fd ((gv, n1, es1), red (p ++ inv t), r, Gen w1) (ea_cons (ev_var rfl) (ea_cons (ev_var rfl) ea_nil)) rfl fun H9 e9 => ⟨hG1'.keep (Tk.of (e48.trans e9)), hC1, gen_grp w1, by show es1.length ≤ 300; omega, hin1, hui, by show (red (p ++ inv t)).length ≤ 300; omega⟩) (EvP.imp (EvP.of (ev_var rfl)) fun v H9 e9 hv => ⟨n2, es2, by rw [hv]; exact hG2'.keep (Tk.of (e48.trans e9)), hC2⟩)) fun v H9 e9 ⟨n, es, m, fs2, s1, s2, hv⟩ => ⟨_, hv, conj_canon (gen_grp w1) s1 s2⟩) (fun hS H9 e9 => ?_) fun hS H9 e9 => ?_
    · have hcj := hS.mp rfl
      have e49 := e48.trans e9
      refine q_un2 (K := K) (S := fun x y H' => ∃ (g : Addr) (E : List Edge) (cnt here : Nat) (E2 : List Edge), x = .ref g ∧ y = .int (here : Int) ∧ Gr H' (.ref g) cnt E2 ∧ Att n1 es1 (red (p ++ inv t)) E cnt here ∧ E2.Perm E ∧ EIn r E) (EvP.imp (ep_fd ((gv, n1, es1), red (p ++ inv t), r) (ea_cons (ev_var rfl) (ea_cons (ev_var rfl) ea_nil)) rfl fun H10 e10 => ⟨hG1'.keep (Tk.of (e49.trans e10)), hC1.sm, hC1.fold, hC1.nodup, hC1.lt, hC1.pos, red_rd _, by show (red (p ++ inv t)).length ≤ 300; omega, by show es1.length ≤ 300; omega, hin1, hui⟩) fun v H10 e10 ⟨pp, g, E, cnt, here, E2, c1, c2, c3, c4, c5, c6⟩ => ⟨pp, .ref g, .int (here : Int), c1, c2, g, E, cnt, here, E2, rfl, rfl, c3, c4, c5, c6⟩) fun x y H10 e10 ⟨g, E, cnt, here, E2, hx, hy, hg, A, hpm2, hei⟩ => ?_
      subst hx hy
      have hAl := A.elen
      have hAc := A.clen
      have hE2l := hpm2.length_eq
      have hfE2 : Folded E2 := A.fold.sub fun e he => hpm2.mem_iff.mp he
      have hst : Fw.stp E2 = Fw.stp E := stp_same hfE2 A.fold fun e => hpm2.mem_iff
      have e4a := e49.trans e10
      have hx9 : Ex H7 H10 := e8.trans (e9.trans e10)
      refine s_appP (R := fun v _ => ∃ f, v = tx f ∧ First (Fw.stp E2) here f ∧ f.length < cnt ∧ InR r f) (hx9 _ _ hfo7) (ev_var rfl) (ep_fd ((.ref g, cnt, E2), r, here) (ea_cons (ev_ixt (j := 0) (ev_var rfl) ev_c (e4a _ _ (e04 _ _ g1)) rfl) (ea_cons (ev_var rfl) (ea_cons (ev_var rfl) ea_nil))) rfl fun H11 e11 => ⟨hg.keep (Tk.of e11), fun e he => A.sm e (hpm2.mem_iff.mp he), hfE2, fun e he => A.lt e (hpm2.mem_iff.mp he), Nat.lt_of_lt_of_le hC1.pos A.le, by show cnt ≤ 1000; omega, by show E2.length ≤ 1000; omega, fun e he => hei e (hpm2.mem_iff.mp he), ok1.1, ok1.2.1, ⟨_, by show walk (Fw.stp E2) 0 (red (p ++ inv t)) = some here; rw [hst]; exact A.way⟩⟩) (by rw [List.length_map]; omega) fun v H11 e11 ⟨fw, hfv, hF, hfl2, hfi⟩ => ?_
      subst hfv
      have hx10 : Ex H7 H11 := hx9.trans e11
      have hcand : Cand es1 n1 (Gen w1) (Gen w2) t p (some fw) := ⟨(fun h => nomatch h), fun f hf => by
        cases hf
        exact ⟨hcj, E, cnt, here, A, by rw [← hst]; exact hF⟩⟩
      refine ⟨_, _, _, _, fs ++ [fw], rfl, Ex.mut (e4a.trans e11) nfo, by rw [upd_ne dpf]; exact hx10 _ _ hpa7, by rw [upd_same, List.map_append]; rfl, by rw [List.length_append]; show fs.length + 1 ≤ i + 1; omega, fun f hf => ?_, fun p2 hp2 => ?_⟩
      · rcases List.mem_append.mp hf with hf | hf
        · exact hf1 f hf
        · rw [List.mem_singleton.mp hf]
          exact ⟨hfi, p, hpm, hcand⟩
      · rw [tkp] at hp2
        rcases List.mem_append.mp hp2 with hp2 | hp2
        · obtain ⟨o, h1, h2⟩ := hf2 p2 hp2
          exact ⟨o, h1, fun f hf => List.mem_append_left _ (h2 f hf)⟩
        · rw [List.mem_singleton.mp hp2]
          exact ⟨some fw, hcand, fun f hf => by cases hf; simp⟩
    · have hncj : ¬ Conj (Gen w1) (Gen w2) (red (p ++ inv t)) := fun h => by
        have := hS.mpr h
        cases this
      have hx8 : Ex H7 H9 := e8.trans e9
      refine ⟨_, _, _, _, fs, rfl, e48.trans e9, hx8 _ _ hpa7, hx8 _ _ hfo7, by omega, hf1, fun p2 hp2 => ?_⟩
      rw [tkp] at hp2
      rcases List.mem_append.mp hp2 with hp2 | hp2
      · exact hf2 p2 hp2
      · rw [List.mem_singleton.mp hp2]
        exact ⟨none, ⟨fun _ => hncj, (fun f hf => nomatch hf)⟩, (fun f hf => nomatch hf)⟩
  · rintro σ H7 ⟨y6, y7, y8, y9, fs, rfl, e7, hpa7, hfo7, hfl, hf1, hf2⟩
    rw [List.length_map, List.take_length] at hf2
    have e07 := e04.trans e7
    -- the least of all
    have hleast : ∀ g, Rd g → Conj (Gen w1) (Gen w2) g → ∃ f ∈ fs, sle f g := fun g hg hc => by
      have hch : ∀ p, ∃ o, p ∈ ps → Cand es1 n1 (Gen w1) (Gen w2) t p o ∧ ∀ f, o = some f → f ∈ fs := fun p => by
        by_cases hp : p ∈ ps
        · obtain ⟨o, h1, h2⟩ := hf2 p hp
          exact ⟨o, fun _ => ⟨h1, h2⟩⟩
        · exact ⟨none, fun h => absurd h hp⟩
      obtain ⟨p, hp, f, h1, h2⟩ := Cand.least hC1 (gen_grp w1) hC2 hT (ps := ps) (fun k hk => by
        obtain ⟨p, hp⟩ : ∃ p, ps[k]? = some p := ⟨_, List.getElem?_eq_getElem (by rw [hpl]; exact hk)⟩
        exact ⟨p, List.mem_of_getElem? hp, (hps k p hp).1⟩) ⟨[], List.mem_of_getElem? hp0, rfl⟩ (o := fun p => Classical.choose (hch p)) (fun p hp => (Classical.choose_spec (hch p) hp).1) hg hc
      exact ⟨f, (Classical.choose_spec (hch p) hp).2 f h1, h2⟩
    have hgood : ∀ f ∈ fs, Conj (Gen w1) (Gen w2) f ∧ Rd f ∧ InR r f ∧ f.length ≤ 100 ∧ f.length < n1 + n2 := fun f hf => by
      obtain ⟨hi, p, hp, hcd⟩ := hf1 f hf
      obtain ⟨h1, h2, h3⟩ := hcd.good hC1 (gen_grp w1)
      obtain ⟨k, hk⟩ := List.getElem?_of_mem hp
      have := (hps k p hk).2.1
      exact ⟨h1, h2, hi, by omega, by omega⟩
    dsimp only
    show tRet _ _ _ _
    unfold tRet
    dsimp only
    cases hfs : fs with
    | nil =>
      rw [hfs] at hfo7
      have hno : ∀ g, ¬ Conj (Gen w1) (Gen w2) g := fun g hc => by
        obtain ⟨f, hf, _⟩ := hleast (red g) (red_rd g) (hc.eqv (gen_grp w1) (eqv_red g))
        rw [hfs] at hf
        cases hf
      exact (ev_if (t := fun σ H Q => tVar 5 σ H fun x H' => ∃ k, TruV K x H' k ∧ Q k H') (b := false) (et_is (et_tru (K := K) (ev_var rfl) hfo7) rfl) (fun h => absurd h (by decide)) fun _ => ev_c (v := .non)) H7 (Ex.refl _) _ fun H8 e8 => q _ _ ⟨e07.trans e8, .inl ⟨rfl, hno⟩⟩
    | cons f0 rest =>
      have hne : fs ≠ [] := by rw [hfs]; simp
      have hb : (!(fs.map tx).isEmpty) = true := by rw [hfs]; rfl
      refine tIf_yes (K := K) (ev_var rfl) hfo7 hb fun H8 e8 => ?_
      refine ⟨_, rfl, fo, fs, rfl, rfl, sq_of (e8 _ _ hfo7), hne, fun u hu => Nat.le_trans (hgood u hu).2.2.2.1 (by decide), fun u H9 hu hle ex9 => ?_⟩
      obtain ⟨g1, g2, g3, g4, g5⟩ := hgood u hu
      refine q _ _ ⟨e07.trans (e8.trans ex9), .inr ⟨u, rfl, g1, g2, fun g hg hc => ?_, g3, g4, fun m1 d1 m2 d2 c1 c2 => ?_⟩⟩
      · obtain ⟨f, hf, hfg⟩ := hleast g hg hc
        exact sle_trans (hle f hf) hfg
      · have h1 := (hC1.uniq c1 fun _ => Iff.rfl).1
        have h2 := (hC2.uniq c2 fun _ => Iff.rfl).1
        omega
end
end FwK
end

section
set_option Elab.async false
set_option linter.all false
set_option maxRecDepth 100000
set_option maxHeartbeats 2000000
namespace FwK
open PySem PySem.Spec PyProof.Rows L2 Evl Fw FwR
section
variable {P : Program} {w : World} {K : PySem.W.Frag} {mg : Str → Option Value} {base : Heap} {σ : L2.St} {H H' : Hp} {ta tb te : TE}
theorem ok_law_flip (B : Bs mg) (F : Fx K mg "_law_flip" s_law_flip pn_law_flip) : Fd P w K mg base "_law_flip" pn_law_flip 1 spOpp := by
  refine F.fd sc_law_flip (fun _ => rfl) fun i f cdv A outer s H Q hr hp q E => ?_
  refine ⟨_, (pss_one (ps_ret (pe_ix ix_str pe_str (pe_bmK K rfl (pe_bm PySem.F.plainAttrs_str PySem.F.slot_str_index PySem.F.type_str_index mt_sindex pe_str (pa_cons (pv 0) pa_nil))) (fun _ _ => rfl)))), ?_⟩
  have h6 : V.str "aAbBcC" = tx six := by rw [six_eq]
  have h7 : V.str "AaBbCc" = tx [.A, .a, .B, .b, .C, .c] := by rw [flips_eq]
  exact s_ret (v := tx [i.flip]) (ev_char (w := [.A, .a, .B, .b, .C, .c]) (j := i.idx) (ev_is ev_c h7) (ev_index (K := K) (ev_is ev_c h6) (ev_var rfl)) (by decide) (by cases i <;> rfl)) fun H1 e1 => q _ _ ⟨e1, rfl⟩
theorem ok_law_reduce (B : Bs mg) (F : Fx K mg "_law_reduce" s_law_reduce pn_law_reduce) (g_law_flip : Fd P w K mg base "_law_flip" pn_law_flip 1 spOpp) : Fd P w K mg base "_law_reduce" pn_law_reduce 2 spRed := by
  refine F.fd sc_law_reduce (fun _ => rfl) fun u f cdv A outer s H Q hr hp q E => ?_
  refine ⟨_, (pss_cons (ps_asg (pe_lst pa_nil) (pg_name (i := 1) sc_law_reduce.nd rfl (Or.inl rfl)))
    (pss_cons (ps_for PassesOwn.never rfl (pi_str (pv 0)) (pg_name (i := 2) sc_law_reduce.nd rfl (Or.inl rfl)) (pss_one (ps_if (PW.pt (pw_and (pt_truth (pv 1) (by intro _; rfl)) (pw_and1 (pt_cmpR op_eq (pe_ix (r := rIxL K) ix_list (pv 1) (pe_un un_neg pe_int) (fun _ _ => rfl)) (pe_fd g_law_flip (hr.mono (by decide)) (by rfl) (pa_cons (pv 2) pa_nil)) (nomark _))))) (pss_one (ps_expr (pe_bm0K K rfl (pe_bm0 PySem.F.plainAttrs_list PySem.F.slot_list_pop PySem.F.type_list_pop mt_pop (pv 1))))) (pss_one (ps_expr (pe_bmK K rfl (pe_bm PySem.F.plainAttrs_list PySem.F.slot_list_append PySem.F.type_list_append mt_append (pv 1) (pa_cons (pv 2) pa_nil))))))))
    (pss_one (ps_ret (pe_join pe_str (pv 1)))))), ?_⟩
  refine q_asgL (el_lst ea_nil (Nat.zero_le _)) fun o H1 no e1 ho => ?_
  refine q_forW (w := u) (ev_var rfl) (fun j σ H2 => ∃ y, σ = [some (tx u), some (.ref o), y] ∧ Ex H H2 ∧ H2 o = some (.lst ((stk [] (u.take j)).reverse.map fun l => tx [l]))) ?_ ?_ ?_
  · intro H2 e2
    exact ⟨none, rfl, e1.trans e2, e2 _ _ ho⟩
  · rintro j l σ H2 hj ⟨y, rfl, e2, h2⟩
    have hju := (List.getElem?_eq_some_iff.mp hj).1
    generalize hst : stk [] (u.take j) = st at h2
    have est : stk [] (u.take (j + 1)) = red1 st l := by
      rw [List.take_add_one, hj, ← hst]
      show List.foldl red1 [] (_ ++ [l]) = _
      rw [List.foldl_append]
      rfl
    have hl : st.length ≤ 1000 := by
      have := stk_len (u.take j) []
      rw [hst, List.length_take] at this
      simp only [List.length_nil] at this
      omega
    rw [est]
    cases st with
    | nil =>
      refine s_if (b := false) (et_is (et_and (et_tru (K := K) (ev_var rfl) h2) fun h => absurd h (by decide)) (b := false) (Bool.false_and false)) (fun h => absurd h (by decide)) fun _ H3 e3 => ?_
      refine s_app (e3 _ _ h2) (ev_var rfl) (ev_var rfl) (by decide) fun H4 e4 => ⟨_, rfl, Ex.mut (e2.trans (e3.trans e4)) no, ?_⟩
      rw [upd_same]
      rfl
    | cons t r =>
      have hla : ((t :: r).reverse.map fun l => tx [l]).getLast? = some (tx [t]) := by simp
      refine s_if (b := decide ([t] = [l.flip])) (et_is (et_and (et_tru (K := K) (ev_var rfl) h2) fun _ => et_test (ev_op (ev_last (ev_var rfl) h2 hla) (ev_fd l (ea_cons (ev_var rfl) ea_nil) rfl fun _ _ => trivial) rv_eqW)) ?_) (fun h H3 e3 => ?_) fun h H3 e3 => ?_
      · rw [show (!((t :: r).reverse.map fun l => tx [l]).isEmpty) = true from by simp, Bool.true_and]
      · have et : t = l.flip := List.head_eq_of_cons_eq (of_decide_eq_true h)
        refine s_pop (e3 _ _ h2) (ev_var rfl) hla fun H4 e4 => ⟨_, rfl, Ex.mut (e2.trans (e3.trans e4)) no, ?_⟩
        rw [upd_same]
        subst et
        simp [red1]
      · have et : t ≠ l.flip := fun e => of_decide_eq_false h (by rw [e])
        refine s_app (e3 _ _ h2) (ev_var rfl) (ev_var rfl) (by simp at hl ⊢; omega) fun H4 e4 => ⟨_, rfl, Ex.mut (e2.trans (e3.trans e4)) no, ?_⟩
        rw [upd_same]
        simp [red1, et]
  · rintro σ H2 ⟨y, rfl, e2, h2⟩
    rw [List.take_length] at h2
    have hl : (stk [] u).length ≤ 1000 := by
      have := stk_len u []
      simp only [List.length_nil] at this
      omega
    have em : ((stk [] u).reverse.map fun l => tx [l]) = ((stk [] u).reverse.map fun l => [l]).map tx := by rw [List.map_map]; rfl
    rw [em] at h2
    have efl : ((stk [] u).reverse.map fun l => [l]).flatten = red u := by
      show _ = (stk [] u).reverse
      generalize (stk [] u).reverse = z
      induction z with
      | nil => rfl
      | cons a r ih => simp only [List.map_cons, List.flatten_cons, ih]; rfl
    refine s_ret (ev_join (K := K) (ev_var rfl) h2 (by rw [efl]; show (stk [] u).reverse.length ≤ _; rw [List.length_reverse]; omega) rfl) fun H3 e3 => q _ _ ⟨e2.trans e3, ?_⟩
    rw [efl]
theorem ok_law_inverse (B : Bs mg) (F : Fx K mg "_law_inverse" s_law_inverse pn_law_inverse) (g_law_flip : Fd P w K mg base "_law_flip" pn_law_flip 1 spOpp) : Fd P w K mg base "_law_inverse" pn_law_inverse 2 spInv := by
  refine F.fd sc_law_inverse (fun _ => rfl) fun u f cdv A outer s H Q hr hp q E => ?_
  refine ⟨_, (pss_one (ps_ret (pe_join pe_str (pe_lc (own := [("_law_letter", 1)]) (g := (gName 1)) rfl sc_law_inverse.nd  (pi_str (pe_revS (pv 0))) (blkOk_by (N := nm_law_inverse) (sc := defScope s_law_inverse) (by decide +kernel)) (fun _ _ _ _ _ => (pg_name (i := 1) sc_law_inverse.nd rfl (Or.inl rfl))) (fun _ _ _ _ _ => pts_nil) (fun _ _ _ _ _ => (pe_fd g_law_flip (hr.mono (by decide)) (by rfl) (pa_cons (pv 1) pa_nil))))))), ?_⟩
  have em : (u.reverse.map fun l => tx [l.flip]) = (u.reverse.map fun l => [l.flip]).map tx := by rw [List.map_map]; rfl
  have efl : (u.reverse.map fun l => [l.flip]).flatten = inv u := by
    unfold inv
    generalize u.reverse = z
    induction z with
    | nil => rfl
    | cons a r ih => simp only [List.map_cons, List.flatten_cons, ih]; rfl
  refine s_ret (ev_joinL (K := K) (ws := u.reverse.map fun l => [l.flip]) (by
    rw [← em]
    exact el_lcW (fun l => tx [l.flip]) (ev_rev (ev_var rfl) (by omega)) (by rw [List.length_reverse]; omega) (fun _ => rfl) fun l H1 e1 hl => ev_fd l (ea_cons (ev_var rfl) ea_nil) rfl fun _ _ => trivial) (by rw [efl, inv_length]; omega) rfl) fun H3 e3 => q _ _ ⟨e3, ?_⟩
  rw [efl]
theorem ok_law_letters (B : Bs mg) (F : Fx K mg "_law_letters" s_law_letters pn_law_letters) : Fd P w K mg base "_law_letters" pn_law_letters 1 spLetters := by
  refine F.fd sc_law_letters (fun _ => rfl) fun i f cdv A outer s H Q hr hp q E => ?_
  refine ⟨_, (pss_one (ps_ret (pe_slice sl_str pe_str po_none (po_some (pe_op op_mul pe_int (pv 0)))))), ?_⟩
  have h6 : V.str "aAbBcC" = tx six := by rw [six_eq]
  refine s_ret (ev_take (w := six) (n := 2 * i) (ev_is ev_c h6) (ev_is (ev_op ev_c (ev_var rfl) (rv_I (Or.inl ⟨by decide, by decide⟩))) (by rw [Int.natCast_mul]; rfl)) (by decide)) fun H1 e1 => q _ _ ⟨e1, rfl⟩
/-! ### the stream -/
/-- all but p stays -/
def Sx (p : Addr) (H H' : Hp) : Prop := ∀ b o, b ≠ p → H b = some o → H' b = some o
def St (p a : Addr) (xs : List Int) (H : Hp) : Prop := (∃ (c : Int) (k : Nat), H p = some (.lst [.ref a, .int c, .int (k : Int)])) ∧ H a = some (.lst (xs.map V.int)) ∧ a ≠ p
theorem Sx.of {p : Addr} (e : Ex H H') : Sx p H H' := fun b o _ h => e b o h
theorem Sx.trans {p : Addr} {H1 H2 H3 : Hp} (a : Sx p H1 H2) (b : Sx p H2 H3) : Sx p H1 H3 := fun x o n h => b x o n (a x o n h)
theorem Sx.upd {p : Addr} {o : HO} : Sx p H (upd H p o) := fun b x n h => by rw [upd_ne n]; exact h
theorem St.keep {p a : Addr} {xs : List Int} (e : Ex H H') (h : St p a xs H) : St p a xs H' := by
  obtain ⟨⟨c, k, h1⟩, h2, h3⟩ := h
  exact ⟨⟨c, k, e _ _ h1⟩, e _ _ h2, h3⟩
theorem Sx.tup {p : Addr} {a : Addr} {xs : List Int} (s : St p a xs H) (h : Sx p H H') {b : Addr} {ys : List V} (hb : H b = some (.tup ys)) : H' b = some (.tup ys) := by
  obtain ⟨⟨c, k, h1⟩, _⟩ := s
  exact h b _ (ne_of hb h1 (by intro z; cases z)) hb
theorem Sx.tk {p : Addr} {a : Addr} {xs : List Int} (s : St p a xs H) (h : Sx p H H') : Tk H H' := fun b ys hb => h.tup s hb
theorem ev_int' {i : Int} (h : Ev ta σ H (.int i)) : Ev (tCB (fun xs H Q => (∃ i, xs = [.int i] ∧ Q (.int i) H) ∨ ∃ k, xs = [.bl k] ∧ Q (.int (if k then 1 else 0)) H) (tCons ta tNil)) σ H (.int i) := fun H1 e Q q => h H1 e _ fun H2 e2 => .inl ⟨i, rfl, q H2 e2⟩
abbrev spNext : Sp := prom (fun i : (Addr × Addr × List Int) × Nat => [.ref i.1.1, .int (i.2 : Int)]) (fun i H => St i.1.1 i.1.2.1 i.1.2.2 H ∧ 0 < i.2 ∧ i.2 < 1000)
  (fun i H v H' => ∃ d : Nat, v = .int (d : Int) ∧ d < i.2 ∧ Sx i.1.1 H H' ∧ St i.1.1 i.1.2.1 i.1.2.2 H')
def nxT (K : PySem.W.Frag) : TS := tSeq (tAsg (tOp (rI (fun _ j => j ≠ 0) fun i j => .int (i.fmod j)) (tCB (fun xs H Q => (∃ i, xs = [.int i] ∧ Q (.int i) H) ∨ ∃ k, xs = [.bl k] ∧ Q (.int (if k then 1 else 0)) H) (tCons (tOp (rIxL K) (tVar 0) (tC (.int 1))) tNil)) (tVar 1)) (gName 4))
        (tSeq (tAsg (tOp (rI CDivN fun i j => .int (i.fdiv j)) (tOp (rIxL K) (tVar 0) (tC (.int 1))) (tVar 1)) (gSub (tVar 0) (tC (.int 1)) rSetL)) (tRet (tVar 4)))
def nxS : TS := tSeq (tAsg (tVar 3) (gSub (tVar 0) (tC (.int 1)) rSetL)) (tAsg (tOp (rI0 fun i j => .int (i + j)) (tVar 2) (tC (.int 1))) (gSub (tVar 0) (tC (.int 2)) rSetL))
def nxC : TS := tSeq (tIfS (tTest (tOp (rI0 fun i j => .bl (decide (i < j))) (tVar 3) (tOp (rI CPow fun i j => .int (i ^ j.toNat)) (tC (.int 10)) (tC (.int 18)))))
      (tSeq (tAsg (tOp (rI (fun _ j => j ≠ 0) fun i j => .int (i.fmod j)) (tCB (fun xs H Q => (∃ i, xs = [.int i] ∧ Q (.int i) H) ∨ ∃ k, xs = [.bl k] ∧ Q (.int (if k then 1 else 0)) H) (tCons (tOp (rI0 fun i j => .int (i + j)) (tOp (rI0 fun i j => .int (i + j)) (tOp (rI CMul fun i j => .int (i * j)) (tVar 3) (tC (.int 48271))) (tOp (rI CMul fun i j => .int (i * j)) (tVar 2) (tC (.int 69621)))) (tC (.int 11))) tNil)) (tC (.int 2147483647))) (gName 3))
        (tAsg (tOp (rI0 fun i j => .int (i + j)) (tOp (rI CMul fun i j => .int (i * j)) (tOp (rI (fun _ j => j ≠ 0) fun i j => .int (i.fmod j)) (tCB (fun xs H Q => (∃ i, xs = [.int i] ∧ Q (.int i) H) ∨ ∃ k, xs = [.bl k] ∧ Q (.int (if k then 1 else 0)) H) (tCons (tOp (rI0 fun i j => .int (i + j)) (tOp (rI CMul fun i j => .int (i * j)) (tVar 3) (tC (.int 16807))) (tC (.int 13))) tNil)) (tC (.int 2147483647))) (tC (.int 65537))) (tVar 3)) (gName 3))) tNext)
      nxS
theorem ok_law_next (B : Bs mg) (F : Fx K mg "_law_next" s_law_next pn_law_next) : Fd P w K mg base "_law_next" pn_law_next 1 spNext := by
  refine F.fd sc_law_next (fun _ => rfl) fun i f cdv A outer s H Q hr hp q E => ?_
  refine ⟨_, (pss_cons (ps_if (pt_cmpR op_eq (pe_ix (r := rIxL K) ix_list (pv 0) pe_int (fun _ _ => rfl)) pe_int (nomark _)) (pss_cons (ps_asg (pe_ix (r := rIxL K) ix_list (pv 0) pe_int (fun _ _ => rfl)) (pg_name (i := 2) sc_law_next.nd rfl (Or.inl rfl)))
    (pss_cons (ps_asg (pe_op op_add pe_int (pv 2)) (pg_name (i := 3) sc_law_next.nd rfl (Or.inl rfl)))
    (pss_cons (ps_if (pt_cmpR op_lt (pv 2) (pe_callB (r := Evl.rLenS K) call_len_seq (by rfl) B.z_len PySem.boot_len (pa_cons (pe_ix (r := rIxL K) ix_list (pv 0) pe_int (fun _ _ => rfl)) pa_nil)) (nomark _)) (pss_one (ps_asg (pe_callB call_abs (by rfl) B.z_abs (by decide +kernel) (pa_cons (pe_ix (r := rIxL K) ix_list (pe_ix (r := rIxL K) ix_list (pv 0) pe_int (fun _ _ => rfl)) (pv 2) (fun _ _ => rfl)) pa_nil)) (pg_name (i := 3) sc_law_next.nd rfl (Or.inl rfl)))) pss_nil)
    (pss_cons (ps_if (pt_cmpR op_lt (pv 3) (pe_op op_pow pe_int pe_int) (nomark _)) (pss_cons (ps_asg (pe_op op_modN (pe_callTy call_int1 (by rfl) B.z_int (by decide +kernel) (pa_cons (pe_op op_add (pe_op op_add (pe_op op_mul (pv 3) pe_int) (pe_op op_mul (pv 2) pe_int)) pe_int) pa_nil)) pe_int) (pg_name (i := 3) sc_law_next.nd rfl (Or.inl rfl)))
    (pss_one (ps_asg (pe_op op_add (pe_op op_mul (pe_op op_modN (pe_callTy call_int1 (by rfl) B.z_int (by decide +kernel) (pa_cons (pe_op op_add (pe_op op_mul (pv 3) pe_int) pe_int) pa_nil)) pe_int) pe_int) (pv 3)) (pg_name (i := 3) sc_law_next.nd rfl (Or.inl rfl))))) pss_nil)
    (pss_cons (ps_asg (pv 3) (pg_sub (pv 0) pe_int set_list))
    (pss_one (ps_asg (pe_op op_add (pv 2) pe_int) (pg_sub (pv 0) pe_int set_list)))))))) pss_nil)
    (pss_cons (ps_asg (pe_op op_modN (pe_callTy call_int1 (by rfl) B.z_int (by decide +kernel) (pa_cons (pe_ix (r := rIxL K) ix_list (pv 0) pe_int (fun _ _ => rfl)) pa_nil)) (pv 1)) (pg_name (i := 4) sc_law_next.nd rfl (Or.inl rfl)))
    (pss_cons (ps_asg (pe_op op_fdivN (pe_ix (r := rIxL K) ix_list (pv 0) pe_int (fun _ _ => rfl)) (pv 1)) (pg_sub (pv 0) pe_int set_list))
    (pss_one (ps_ret (pv 4)))))), ?_⟩
  obtain ⟨⟨p, a, xs⟩, m⟩ := i
  obtain ⟨⟨⟨c, k, h1⟩, h2, h3⟩, h4, h5⟩ := hp
  replace h1 : H p = some (.lst [.ref a, .int c, .int (k : Int)]) := h1
  replace h2 : H a = some (.lst (xs.map V.int)) := h2
  replace h3 : a ≠ p := h3
  replace h4 : 0 < m := h4
  replace h5 : m < 1000 := h5
  replace q : ∀ v H', (∃ d : Nat, v = .int (d : Int) ∧ d < m ∧ Sx p H H' ∧ St p a xs H') → Q v H' := q
  -- the tail of the def
  have tail : ∀ (y2 y3 : Option V) (c : Int) (k : Nat) (H1 : Hp), Sx p H H1 → H1 p = some (.lst [.ref a, .int c, .int (k : Int)]) → H1 a = some (.lst (xs.map V.int)) →
      nxT K { nx := fun _ H' => Q .non H', rt := Q } [some (.ref p), some (.int (m : Int)), y2, y3, none] H1 := fun y2 y3 c k H1 sx h1 h2 => by
    unfold nxT
    refine q_asg (v := .int (c.fmod (m : Int))) (ev_op (fun H2 e2 Q2 q2 => ev_ixl (K := K) (j := 1) (ev_var rfl) ev_c h1 rfl H2 e2 _ fun H3 e3 => .inl ⟨c, rfl, q2 H3 e3⟩) (ev_var rfl) (rv_I (by show (m : Int) ≠ 0; omega))) fun H2 e2 => ?_
    refine q_setAt (j := 1) (v := .int (c.fdiv (m : Int))) (ev_op (ev_ixl (K := K) (j := 1) (ev_var rfl) ev_c (e2 _ _ h1) rfl) (ev_var rfl) (rv_I ⟨by omega, by omega⟩)) (ev_var rfl) (ev_c (v := .int ((1 : Nat) : Int))) (e2 _ _ h1) (Nat.le_of_ble_eq_true rfl) fun H3 e3 => ?_
    have hd : ∃ d : Nat, c.fmod (m : Int) = (d : Int) ∧ d < m := ⟨(c.fmod (m : Int)).toNat, by
      rw [Int.toNat_of_nonneg (Int.fmod_nonneg_of_pos _ (by omega))], by
      have := Int.fmod_lt_of_pos c (b := (m : Int)) (by omega)
      have := Int.fmod_nonneg_of_pos c (b := (m : Int)) (by omega)
      omega⟩
    obtain ⟨d, hd1, hd2⟩ := hd
    refine s_ret (ev_var rfl) fun H4 e4 => q _ _ ⟨d, by rw [hd1], hd2, ?_, ?_⟩
    · exact (sx.trans (Sx.of (e2.trans e3))).trans (Sx.upd.trans (Sx.of e4))
    · exact ⟨⟨_, k, e4 _ _ upd_same⟩, e4 _ _ (by rw [upd_ne h3]; exact e3 _ _ (e2 _ _ h2)), h3⟩
  have sets : ∀ (c c' : Int) (k : Nat) (H1 : Hp), Sx p H H1 → H1 p = some (.lst [.ref a, .int c', .int (k : Int)]) → H1 a = some (.lst (xs.map V.int)) →
      nxS
        ({ ({ nx := fun _ H' => Q .non H', rt := Q } : Ends) with nx := nxT K { nx := fun _ H' => Q .non H', rt := Q } } : Ends) [some (.ref p), some (.int (m : Int)), some (.int (k : Int)), some (.int c), none] H1 := fun c c' k H1 sx h1 h2 => by
    unfold nxS
    refine q_setAt (j := 1) (v := .int c) (ev_var rfl) (ev_var rfl) (ev_c (v := .int ((1 : Nat) : Int))) h1 (Nat.le_of_ble_eq_true rfl) fun H2 e2 => ?_
    refine s_setL (j := 2) (v := .int ((k + 1 : Nat) : Int)) upd_same (ev_is (ev_op (ev_var rfl) ev_c rv_I0) (by rw [Int.natCast_add]; rfl)) (ev_var rfl) (ev_c (v := .int ((2 : Nat) : Int))) (Nat.le_of_ble_eq_true rfl) fun H3 e3 => ?_
    refine tail _ _ c (k + 1) _ ?_ upd_same ?_
    · exact ((sx.trans (Sx.of e2)).trans Sx.upd).trans ((Sx.of e3).trans Sx.upd)
    · rw [upd_ne h3]
      refine e3 _ _ ?_
      rw [upd_ne h3]
      exact e2 _ _ h2
  refine q_if (b := decide (c = 0)) (et_test (ev_op (ev_ixl (K := K) (j := 1) (ev_var rfl) ev_c h1 rfl) ev_c rv_eqI)) (fun _ H1 e1 => ?_) fun _ H1 e1 => tail _ _ c k H1 (Sx.of e1) (e1 _ _ h1) (e1 _ _ h2)
  refine q_asg (v := .int (k : Int)) (ev_ixl (K := K) (j := 2) (ev_var rfl) ev_c (e1 _ _ h1) rfl) fun H2 e2 => ?_
  refine q_asg (v := .int (7 + (k : Int))) (ev_op ev_c (ev_var rfl) rv_I0) fun H3 e3 => ?_
  have e03 := e1.trans (e2.trans e3)
  have cell : ∀ (c : Int) (H1 : Hp), Ex H H1 → nxC
        ({ ({ nx := fun _ H' => Q .non H', rt := Q } : Ends) with nx := nxT K { nx := fun _ H' => Q .non H', rt := Q } } : Ends) [some (.ref p), some (.int (m : Int)), some (.int (k : Int)), some (.int c), none] H1 := fun c' H1 e1 => by
    unfold nxC
    refine q_when (b := decide (c' < 10 ^ (18 : Int).toNat)) (et_test (ev_op (ev_var rfl) (ev_op ev_c ev_c (rv_I ⟨by decide, by decide, by decide⟩)) rv_I0)) (fun _ H2 e2 => ?_) fun _ H2 e2 => sets c' c k H2 (Sx.of (e1.trans e2)) ((e1.trans e2) _ _ h1) ((e1.trans e2) _ _ h2)
    refine q_asg (v := .int ((c' * 48271 + (k : Int) * 69621 + 11).fmod 2147483647)) (ev_op (ev_int' (ev_op (ev_op (ev_op (ev_var rfl) ev_c (rv_I (Or.inr ⟨by decide, by decide⟩))) (ev_op (ev_var rfl) ev_c (rv_I (Or.inr ⟨by decide, by decide⟩))) rv_I0) ev_c rv_I0)) ev_c (rv_I (by decide))) fun H3 e3 => ?_
    refine s_asg (ev_op (ev_op (ev_op (ev_int' (ev_op (ev_op (ev_var rfl) ev_c (rv_I (Or.inr ⟨by decide, by decide⟩))) ev_c rv_I0)) ev_c (rv_I (by decide))) ev_c (rv_I (Or.inr ⟨by decide, by decide⟩))) (ev_var rfl) rv_I0) fun H4 e4 => ?_
    have e04 := e1.trans (e2.trans (e3.trans e4))
    exact sets _ c k H4 (Sx.of e04) (e04 _ _ h1) (e04 _ _ h2)
  refine q_when (b := decide ((k : Int) < (xs.length : Int))) (et_test (ev_op (ev_var rfl) (ev_is (ev_lenL (K := K) (ev_ixl (K := K) (j := 0) (ev_var rfl) ev_c (e03 _ _ h1) rfl) (e03 _ _ h2)) (by rw [List.length_map])) rv_I0)) (fun hk H4 e4 => ?_) fun _ H4 e4 => cell _ H4 (e03.trans e4)
  have hk' : k < xs.length := by
    have := of_decide_eq_true hk
    omega
  have e04 := e03.trans e4
  refine s_asg (v := .int (if xs[k] < 0 then -xs[k] else xs[k])) (fun H5 e5 Q2 q2 => ev_ixl (K := K) (j := k) (v := .int xs[k]) (ev_ixl (K := K) (j := 0) (ev_var rfl) ev_c (e04 _ _ h1) rfl) (ev_var rfl) (e04 _ _ h2) (by rw [List.getElem?_map, List.getElem?_eq_getElem hk']; rfl) H5 e5 _ fun H6 e6 => ⟨_, rfl, q2 H6 e6⟩) fun H5 e5 => ?_
  exact cell _ H5 (e04.trans e5)
end
end FwK
end

section
set_option Elab.async false
set_option linter.all false
set_option maxRecDepth 100000
set_option maxHeartbeats 2000000
namespace FwK
open PySem PySem.Spec PyProof.Rows L2 Evl Fw FwR
section
variable {P : Program} {w : World} {K : PySem.W.Frag} {mg : Str → Option Value} {base : Heap} {σ : L2.St} {H H' : Hp} {ta tb te : TE}
theorem yes_if {A B : Hp → Prop} (h : A H) : tYes σ H (fun b H3 => if b = true then A H3 else B H3) := by
  unfold tYes
  show if true = true then A H else B H
  rw [if_pos rfl]
  exact h
theorem run_next {ta : TA} {p a : Addr} {xs : List Int} {m : Nat} {Q : VK} (h : EvA ta σ H [.ref p, .int (m : Int)]) (hs : St p a xs H) (hm : 0 < m ∧ m < 1000) (k : ∀ d H', d < m → Sx p H H' → St p a xs H' → Q (.int (d : Int)) H') : tCall spNext [] E0 ta σ H Q :=
  h H (Ex.refl H) _ fun H1 e1 => ⟨((p, a, xs), m), by rw [List.append_nil], ⟨hs.keep e1, hm⟩, fun v H2 ⟨d, hv, hd, sx, st⟩ => by
    subst hv
    exact k d H2 hd ((Sx.of e1).trans sx) st⟩
theorem el_ofL {p : Addr} {xs : List V} (h : Ev ta σ H (.ref p)) (hp : H p = some (.lst xs)) : EvL (tCB (rListOf K) (tCons ta tNil)) σ H xs := fun H1 e Q q =>
  h H1 e _ fun H2 e2 => ⟨p, xs, rfl, .inl (sq_of (e2 _ _ (e _ _ hp))), fun l nl => q l _ (fresh_back e2 nl) (e2.trans (Ex.new nl)) upd_same⟩
theorem el_ofQ {p : Addr} {xs : List V} (h : Ev ta σ H (.ref p)) (hp : SqL K H p xs) : EvL (tCB (rListOf K) (tCons ta tNil)) σ H xs := fun H1 e Q q =>
  h H1 e _ fun H2 e2 => ⟨p, xs, rfl, .inl (ex_l (e.trans e2) hp), fun l nl => q l _ (fresh_back e2 nl) (e2.trans (Ex.new nl)) upd_same⟩
abbrev spStream (K : PySem.W.Frag) : Sp := spE (fun i : Addr × List Int => [.ref i.1]) (fun i H => SqL K H i.1 (i.2.map V.int)) (fun i v H' => ∃ p a, v = .ref p ∧ St p a i.2 H')
theorem ok_law_stream (B : Bs mg) (F : Fx K mg "_law_stream" s_law_stream pn_law_stream) : Fd P w K mg base "_law_stream" pn_law_stream 1 (spStream K) := by
  refine F.fd sc_law_stream (fun _ => rfl) fun i f cdv A outer s H Q hr hp q E => ?_
  refine ⟨_, (pss_one (ps_ret (pe_lst (pa_cons (pe_callTy (r := rListOf K) call_list_of (by rfl) B.z_list (by decide +kernel) (pa_cons (pv 0) pa_nil)) (pa_cons pe_int (pa_cons pe_int pa_nil)))))), ?_⟩
  obtain ⟨b, xs⟩ := i
  replace hp : SqL K H b (xs.map V.int) := hp
  refine s_ret' (el_ofQ (K := K) (ev_var rfl) hp H (Ex.refl H) _ fun a H1 na e1 ha => ⟨Nat.le_of_ble_eq_true rfl, fun p np => q _ _ ⟨e1.trans (Ex.new np), p, a, rfl, ⟨0, 0, upd_same⟩, ?_, ?_⟩⟩)
  · rw [upd_ne (fun z => by rw [z, np] at ha; cases ha)]
    exact ha
  · exact fun z => by rw [z, np] at ha; cases ha
abbrev spWord : Sp := prom (fun i : (Addr × Addr × List Int) × Nat × Nat => [.ref i.1.1, .int (i.2.1 : Int), .int (i.2.2 : Int)]) (fun i H => St i.1.1 i.1.2.1 i.1.2.2 H ∧ 1 ≤ i.2.1 ∧ i.2.1 ≤ 3 ∧ i.2.2 ≤ 100)
  (fun i H v H' => ∃ u : Word, v = tx u ∧ InR i.2.1 u ∧ u.length ≤ i.2.2 ∧ Sx i.1.1 H H' ∧ St i.1.1 i.1.2.1 i.1.2.2 H')
theorem ok_law_word (B : Bs mg) (F : Fx K mg "_law_word" s_law_word pn_law_word) (g_law_next : Fd P w K mg base "_law_next" pn_law_next 1 spNext) (g_law_letters : Fd P w K mg base "_law_letters" pn_law_letters 1 spLetters) : Fd P w K mg base "_law_word" pn_law_word 2 spWord := by
  refine F.fd sc_law_word (fun _ => rfl) fun i f cdv A outer s H Q hr hp q E => ?_
  refine ⟨_, (pss_cons (ps_asg (pe_fd g_law_letters (hr.mono (by decide)) (by rfl) (pa_cons (pv 1) pa_nil)) (pg_name (i := 3) sc_law_word.nd rfl (Or.inr rfl)))
    (pss_one (ps_ret (pe_join pe_str (pe_lc (own := [("_law_k", 4)]) (g := (gName 4)) rfl sc_law_word.nd  (pi_range1 (by rfl) B.z_range (pa_cons (pe_fd g_law_next (hr.mono (by decide)) (by rfl) (pa_cons (pv 0) (pa_cons (pe_op op_add (pv 2) pe_int) pa_nil))) pa_nil)) (blkOk_by (N := nm_law_word) (sc := defScope s_law_word) (by decide +kernel)) (fun _ _ _ _ _ => (pg_name (i := 4) sc_law_word.nd rfl (Or.inl rfl))) (fun _ _ _ _ _ => pts_nil) (fun _ _ _ _ _ => (pe_ix ix_str (pv 3) (pe_fd g_law_next (hr.mono (by decide)) (by rfl) (pa_cons (pv 0) (pa_cons (pe_callB (r := rLenX) call_len_str (by rfl) B.z_len PySem.boot_len (pa_cons (pv 3) pa_nil)) pa_nil))) (fun _ _ => rfl)))))))), ?_⟩
  obtain ⟨⟨p, a, xs⟩, r, most⟩ := i
  obtain ⟨hs, h1, h2, h3⟩ := hp
  replace hs : St p a xs H := hs
  replace h1 : 1 ≤ r := h1
  replace h2 : r ≤ 3 := h2
  replace h3 : most ≤ 100 := h3
  replace q : ∀ v H', (∃ u : Word, v = tx u ∧ InR r u ∧ u.length ≤ most ∧ Sx p H H' ∧ St p a xs H') → Q v H' := q
  have hll : (lets r).length = 2 * r := lets_len r h2
  refine q_asg (ev_fd r (ea_cons (ev_var rfl) ea_nil) rfl fun _ _ => ⟨h1, h2⟩) fun H1 e1 => s_ret' ⟨⟨_, rfl⟩, ?_⟩
  refine run_next (p := p) (a := a) (xs := xs) (m := most + 1) (ea_cons (ev_var rfl) (ea_cons (ev_is (ev_op (ev_var rfl) ev_c rv_I0) (by rw [Int.natCast_add]; rfl)) ea_nil)) (hs.keep e1) ⟨by omega, by omega⟩ fun d H2 hd sx st => ⟨(d : Int), rfl, by omega, by omega, fun Dl hD => ?_⟩
  have hD' : H1 Dl = none := by
    cases hh : H1 Dl with
    | none => rfl
    | some o =>
      by_cases z : Dl = p
      · obtain ⟨⟨c2, k2, hp2⟩, _⟩ := st
        rw [z, hp2] at hD
        cases hD
      · rw [sx _ _ z hh] at hD
        cases hD
  have dpD : Dl ≠ p := fun z => by
    obtain ⟨⟨c2, k2, hp2⟩, _⟩ := st
    rw [z, hp2] at hD
    cases hD
  refine lc_it (n := d) (walk_range (lo := 0) (n := d)) (fun i H' => ∃ u : Word, u.length = i ∧ InR r u ∧ H' Dl = some (.lst (u.map fun l => tx [l])) ∧ Sx p H H' ∧ St p a xs H') ?_ (fun _ _ _ _ => trivial) ?_ ?_
  · exact ⟨[], rfl, (fun l hl => by cases hl), upd_same, ((Sx.of e1).trans sx).trans (Sx.of (Ex.new hD)), st.keep (Ex.new hD)⟩
  · rintro j x H9 H3 hj hi ⟨e, ex⟩
    subst e ex
    obtain ⟨u, hu, hur, hD3, hk, hst⟩ := hi
    refine ⟨rfl, ?_⟩
    refine yes_if ?_
    refine (ev_var (v := tx (lets r)) rfl) H3 (Ex.refl H3) _ fun H4 e4 => ?_
    refine run_next (p := p) (a := a) (xs := xs) (m := 2 * r) (ea_cons (ev_var rfl) (ea_cons (ev_is (ev_lenS (s := T (lets r)) (ev_var rfl) (by rw [T_len]; omega)) (by rw [T_len, hll])) ea_nil)) (hst.keep e4) ⟨by omega, by omega⟩ fun c H5 hc sx5 st5 => ?_
    have hlc : ∃ l, (lets r)[c]? = some l := ⟨_, List.getElem?_eq_getElem (by rw [hll]; exact hc)⟩
    obtain ⟨l, hlc⟩ := hlc
    refine (rv_ixS (w := T (lets r)) (i := (c : Int)) (c := cd l) (by rw [T_len]; omega) (atI_nat (by rw [T_list, List.getElem?_map, hlc]; rfl))) H5 (Ex.refl H5) _ fun H6 e6 => ⟨_, e6 _ _ (sx5 _ _ dpD (e4 _ _ hD3)), by rw [List.length_map]; exact sz_lt (by omega), u ++ [l], by rw [List.length_append, hu]; rfl, ?_, by rw [upd_same, List.map_append]; rfl, ?_, ?_⟩
    · intro x hx
      rcases List.mem_append.mp hx with hx | hx
      · exact hur x hx
      · rw [List.mem_singleton.mp hx]
        exact (mem_lets l r h1 h2).mp (List.mem_of_getElem? hlc)
    · refine fun b o nb hb => ?_
      have hb6 := e6 _ _ (sx5 _ _ nb (e4 _ _ (hk _ _ nb hb)))
      rw [upd_ne (fun z => ?_)]
      · exact hb6
      · rw [z] at hb
        have := (fresh_back e1 hD')
        rw [hb] at this
        cases this
    · obtain ⟨⟨c6, k6, g1⟩, g2, g3⟩ := st5
      have g1' := e6 _ _ g1
      have g2' := e6 _ _ g2
      refine ⟨⟨c6, k6, ?_⟩, ?_, g3⟩
      · rw [upd_ne dpD.symm]
        exact g1'
      · rw [upd_ne (fun z => ?_)]
        · exact g2'
        · obtain ⟨_, z2, _⟩ := st
          rw [← z, z2] at hD
          cases hD
  · intro H3 hi
    obtain ⟨u, hu, hur, hD3, hk, hst⟩ := hi
    have em : (u.map fun l => tx [l]) = (u.map fun l => [l]).map tx := by rw [List.map_map]; rfl
    have efl : (u.map fun l => [l]).flatten = u := by
      generalize u = z
      induction z with
      | nil => rfl
      | cons a r ih => simp only [List.map_cons, List.flatten_cons, ih]; rfl
    rw [em] at hD3
    have h5 := ev_join (K := K) (te := tC (.ref Dl)) (σ := []) (ev_c (H := H3)) hD3 (by rw [efl]; omega) rfl H3 (Ex.refl H3) Q fun H4 e4 => ?_
    · obtain ⟨_, h6⟩ := h5
      exact h6
    · rw [efl]
      exact q _ _ ⟨u, rfl, hur, by omega, hk.trans (Sx.of e4), hst.keep e4⟩
end
end FwK
end

section
set_option Elab.async false
set_option linter.all false
set_option maxRecDepth 100000
set_option maxHeartbeats 2000000
namespace FwK
open PySem PySem.Spec PyProof.Rows L2 Evl Fw FwR
section
variable {P : Program} {w : World} {K : PySem.W.Frag} {mg : Str → Option Value} {base : Heap} {σ : L2.St} {H H' : Hp} {ta tb te : TE}
theorem Sx.mut {p o : Addr} {x : HO} (s : Sx p H H') (n : H o = none) : Sx p H (L2.upd H' o x) := fun b y nb hb => by
  rw [upd_ne (fun z => by rw [z, n] at hb; cases hb)]
  exact s _ _ nb hb
theorem St.mut {p a o : Addr} {xs : List Int} {x : HO} (s : St p a xs H') (s0 : St p a xs H) (n : H o = none) : St p a xs (upd H' o x) := by
  obtain ⟨⟨c, k, h1⟩, h2, h3⟩ := s
  obtain ⟨⟨c', k', g1⟩, g2, _⟩ := s0
  refine ⟨⟨c, k, ?_⟩, ?_, h3⟩
  · rw [upd_ne (fun z => by rw [z, n] at g1; cases g1)]
    exact h1
  · rw [upd_ne (fun z => by rw [z, n] at g2; cases g2)]
    exact h2
theorem Sx.back {p a o : Addr} {xs : List Int} (s : Sx p H H') (st : St p a xs H') (n : H' o = none) : H o = none := by
  cases hh : H o with
  | none => rfl
  | some y =>
    by_cases z : o = p
    · obtain ⟨⟨c2, k2, hp2⟩, _⟩ := st
      rw [z, hp2] at n
      cases n
    · rw [s _ _ z hh] at n
      cases n
theorem St.ne {p a o : Addr} {xs : List Int} (s : St p a xs H) (n : H o = none) : o ≠ p := fun z => by
  obtain ⟨⟨c2, k2, hp2⟩, _⟩ := s
  rw [z, hp2] at n
  cases n
theorem run_word {ta : TA} {p a : Addr} {xs : List Int} {r m : Nat} {Q : VK} (h : EvA ta σ H [.ref p, .int (r : Int), .int (m : Int)]) (hs : St p a xs H) (hr : 1 ≤ r ∧ r ≤ 3) (hm : m ≤ 100) (k : ∀ u H', InR r u → u.length ≤ m → Sx p H H' → St p a xs H' → Q (tx u) H') : tCall spWord [] E0 ta σ H Q :=
  h H (Ex.refl H) _ fun H1 e1 => ⟨((p, a, xs), r, m), by rw [List.append_nil], ⟨hs.keep e1, hr.1, hr.2, hm⟩, fun v H2 ⟨u, hv, hi, hl, sx, st⟩ => by
    subst hv
    exact k u H2 hi hl ((Sx.of e1).trans sx) st⟩
theorem eu_ofP {p : Addr} {xs : List V} (h : Ev ta σ H (.ref p)) (hp : H p = some (.lst xs)) : EvU (tCB (rTupOf K) (tCons ta tNil)) σ H xs := fun H1 e Q q =>
  h H1 e _ fun H2 e2 => ⟨p, xs, rfl, .inl ⟨sq_of (e2 _ _ (e _ _ hp)), fun l nl => q l _ (fresh_back e2 nl) (e2.trans (Ex.new nl)) upd_same⟩⟩
theorem rv_mul2 {u : Word} (h : u.length ≤ 1000) : RV (fun x y H Q => ∃ z, x = .str z ∧ y = .int 2 ∧ z.length ≤ 1000 ∧ Q (.str (z ++ z)) H) (tx u) (.int 2) H (tx (u ++ u)) := fun H1 e Q q => ⟨T u, rfl, rfl, by rw [T_len]; exact h, by
  rw [T_app]
  exact q H1 (Ex.refl H1)⟩
theorem InR.take {r n : Nat} {u : Word} (h : InR r u) : InR r (u.take n) := fun l hl => h l (List.mem_of_mem_take hl)
abbrev spGiven : Sp := prom (fun i : (Addr × Addr × List Int) × Nat => [.ref i.1.1, .int (i.2 : Int)]) (fun i H => St i.1.1 i.1.2.1 i.1.2.2 H ∧ 1 ≤ i.2 ∧ i.2 ≤ 3)
  (fun i H v H' => ∃ (b : Addr) (ws : List Word), v = .ref b ∧ H' b = some (.tup (ws.map tx)) ∧ ws.length ≤ 3 ∧ (∀ u ∈ ws, InR i.2 u ∧ u.length ≤ 8) ∧ Sx i.1.1 H H' ∧ St i.1.1 i.1.2.1 i.1.2.2 H')
theorem ok_law_given (B : Bs mg) (F : Fx K mg "_law_given" s_law_given pn_law_given) (g_law_next : Fd P w K mg base "_law_next" pn_law_next 1 spNext) (g_law_word : Fd P w K mg base "_law_word" pn_law_word 2 spWord) (g_law_inverse : Fd P w K mg base "_law_inverse" pn_law_inverse 2 spInv) : Fd P w K mg base "_law_given" pn_law_given 3 spGiven := by
  refine F.fd sc_law_given (fun _ => rfl) fun i f cdv A outer s H Q hr hp q E => ?_
  refine ⟨_, (pss_cons (ps_asg (pe_lst pa_nil) (pg_name (i := 2) sc_law_given.nd rfl (Or.inl rfl)))
    (pss_cons (ps_for PassesOwn.never rfl (pi_range1 (by rfl) B.z_range (pa_cons (pe_fd g_law_next (hr.mono (by decide)) (by rfl) (pa_cons (pv 0) (pa_cons pe_int pa_nil))) pa_nil)) (pg_name (i := 3) sc_law_given.nd rfl (Or.inl rfl)) (pss_cons (ps_asg (pe_fd g_law_word (hr.mono (by decide)) (by rfl) (pa_cons (pv 0) (pa_cons (pv 1) (pa_cons pe_int pa_nil)))) (pg_name (i := 4) sc_law_given.nd rfl (Or.inl rfl)))
    (pss_cons (ps_asg (pe_fd g_law_next (hr.mono (by decide)) (by rfl) (pa_cons (pv 0) (pa_cons pe_int pa_nil))) (pg_name (i := 5) sc_law_given.nd rfl (Or.inl rfl)))
    (pss_cons (ps_if (pt_cmpR op_eq (pv 5) pe_int (nomark _)) (pss_one (ps_asg (pe_op op_mul2S (pe_slice sl_str (pv 4) po_none (po_some pe_int)) pe_int) (pg_name (i := 4) sc_law_given.nd rfl (Or.inl rfl)))) pss_nil)
    (pss_cons (ps_if (PW.pt (pw_and (pt_cmpR op_eq (pv 5) pe_int (nomark _)) (pw_and1 (pt_truth (pv 2) (by intro _; rfl))))) (pss_one (ps_asg (pe_op op_add_str (pe_op op_add_str (pe_slice sl_str (pe_ix (r := rIxL K) ix_list (pv 2) (pe_un un_neg pe_int) (fun _ _ => rfl)) po_none (po_some pe_int)) (pe_slice sl_str (pv 4) po_none (po_some pe_int))) (pe_fd g_law_inverse (hr.mono (by decide)) (by rfl) (pa_cons (pe_slice sl_str (pe_ix (r := rIxL K) ix_list (pv 2) (pe_un un_neg pe_int) (fun _ _ => rfl)) po_none (po_some pe_int)) pa_nil))) (pg_name (i := 4) sc_law_given.nd rfl (Or.inl rfl)))) pss_nil)
    (pss_one (ps_expr (pe_bmK K rfl (pe_bm PySem.F.plainAttrs_list PySem.F.slot_list_append PySem.F.type_list_append mt_append (pv 2) (pa_cons (pv 4) pa_nil))))))))))
    (pss_one (ps_ret (pe_callTy (r := rTupOf K) call_tuple_of (by rfl) B.z_tuple (by decide +kernel) (pa_cons (pv 2) pa_nil)))))), ?_⟩
  obtain ⟨⟨p, a, xs⟩, r⟩ := i
  obtain ⟨hs, h1, h2⟩ := hp
  replace hs : St p a xs H := hs
  replace h1 : 1 ≤ r := h1
  replace h2 : r ≤ 3 := h2
  replace q : ∀ v H', (∃ (b : Addr) (ws : List Word), v = .ref b ∧ H' b = some (.tup (ws.map tx)) ∧ ws.length ≤ 3 ∧ (∀ u ∈ ws, InR r u ∧ u.length ≤ 8) ∧ Sx p H H' ∧ St p a xs H') → Q v H' := q
  refine q_asgL (el_lst ea_nil (Nat.zero_le _)) fun o H1 no e1 ho => ?_
  have s1 := hs.keep e1
  have dop := hs.ne no
  refine run_next (p := p) (a := a) (xs := xs) (m := 4) (ea_cons (ev_var rfl) (ea_cons ev_c ea_nil)) s1 ⟨by decide, by decide⟩ fun d H2 hd sx2 st2 => ⟨(d : Int), rfl, by omega, by omega, for_range (lo := 0) (n := d) (fun i σ H3 => ∃ (y3 y4 y5 : Option V) (ws : List Word), σ = [some (.ref p), some (.int (r : Int)), some (.ref o), y3, y4, y5] ∧ ws.length = i ∧ H3 o = some (.lst (ws.map tx)) ∧ (∀ u ∈ ws, InR r u ∧ u.length ≤ 8) ∧ Sx p H H3 ∧ St p a xs H3) ?_ ?_ ?_⟩
  · exact ⟨none, none, none, [], rfl, rfl, sx2 _ _ dop ho, (fun u hu => by cases hu), (Sx.of e1).trans sx2, st2⟩
  · rintro j σ H3 hj ⟨y3, y4, y5, ws, rfl, hwl, ho3, hws, sx3, st3⟩
    refine q_asg' (run_word (p := p) (a := a) (xs := xs) (r := r) (m := 5) (ea_cons (ev_var rfl) (ea_cons (ev_var rfl) (ea_cons ev_c ea_nil))) st3 ⟨h1, h2⟩ (by decide) fun u H4 hu hul sx4 st4 => ?_)
    refine q_asg' (run_next (p := p) (a := a) (xs := xs) (m := 4) (ea_cons (ev_var rfl) (ea_cons ev_c ea_nil)) st4 ⟨by decide, by decide⟩ fun c H5 hc sx5 st5 => ?_)
    have sx35 := sx4.trans sx5
    have ho5 := sx35 _ _ dop ho3
    have sx05 := sx3.trans sx35
    -- the append
    have app : ∀ (u : Word) (H6 : Hp), InR r u → u.length ≤ 8 → Ex H5 H6 → tDrop (tBM K "list" rAppend (tVar 2) (tCons (tVar 4) tNil)) { nx := fun σ H3 => ∃ (y3 y4 y5 : Option V) (ws : List Word), σ = [some (.ref p), some (.int (r : Int)), some (.ref o), y3, y4, y5] ∧ ws.length = j + 1 ∧ H3 o = some (.lst (ws.map tx)) ∧ (∀ u ∈ ws, InR r u ∧ u.length ≤ 8) ∧ Sx p H H3 ∧ St p a xs H3, rt := Q, ct := fun σ H3 => ∃ (y3 y4 y5 : Option V) (ws : List Word), σ = [some (.ref p), some (.int (r : Int)), some (.ref o), y3, y4, y5] ∧ ws.length = j + 1 ∧ H3 o = some (.lst (ws.map tx)) ∧ (∀ u ∈ ws, InR r u ∧ u.length ≤ 8) ∧ Sx p H H3 ∧ St p a xs H3 } [some (.ref p), some (.int (r : Int)), some (.ref o), some (.int (0 + (j : Int))), some (tx u), some (.int (c : Int))] H6 := fun u H6 hu hul e6 => by
      refine s_app (e6 _ _ ho5) (ev_var rfl) (ev_var rfl) (by rw [List.length_map]; omega) fun H7 e7 => ⟨_, _, _, ws ++ [u], rfl, by rw [List.length_append, hwl]; rfl, by rw [upd_same, List.map_append]; rfl, ?_, (sx05.trans (Sx.of (e6.trans e7))).mut no, (st5.keep (e6.trans e7)).mut hs no⟩
      intro z hz
      rcases List.mem_append.mp hz with hz | hz
      · exact hws z hz
      · rw [List.mem_singleton.mp hz]
        exact ⟨hu, hul⟩
    have h3u : (u.take 3).length ≤ 3 := by rw [List.length_take]; omega
    refine q_ifAsg (b := decide ((c : Int) = 1)) (v := tx (if (c : Int) = 1 then u.take 3 ++ u.take 3 else u)) (et_test (ev_op (ev_var rfl) ev_c rv_eqI)) (fun hb => ev_is (ev_op (ev_take (n := 3) (ev_var rfl) ev_c (by omega)) ev_c (rv_mul2 (by omega))) (by rw [if_pos (of_decide_eq_true hb)])) (fun hb => by rw [if_neg (of_decide_eq_false hb)]; rfl) fun H6 e6 => ?_
    have hv1 : InR r (if (c : Int) = 1 then u.take 3 ++ u.take 3 else u) ∧ (if (c : Int) = 1 then u.take 3 ++ u.take 3 else u).length ≤ 6 := by
      by_cases hc1 : (c : Int) = 1
      · rw [if_pos hc1]
        exact ⟨hu.take.app hu.take, by rw [List.length_append]; omega⟩
      · rw [if_neg hc1]
        exact ⟨hu, by omega⟩
    generalize (if (c : Int) = 1 then u.take 3 ++ u.take 3 else u) = u1 at hv1 ⊢
    obtain ⟨hu1, hl1⟩ := hv1
    have ho6 := e6 _ _ ho5
    have h3v : (u1.take 3).length ≤ 3 := by rw [List.length_take]; omega
    rcases List.eq_nil_or_concat ws with hw | ⟨ws', l, hw⟩
    · refine q_when (b := false) (et_is (et_and (et_test (ev_op (ev_var rfl) ev_c rv_eqI)) fun _ => et_tru (K := K) (ev_var rfl) ho6) (by rw [hw]; exact Bool.and_false _)) (fun h => absurd h (by decide)) fun _ H7 e7 => app u1 H7 hu1 (by omega) (e6.trans e7)
    · rw [List.concat_eq_append] at hw
      have hla : (ws.map tx).getLast? = some (tx l) := by rw [hw]; simp
      have hlm := hws l (by rw [hw]; simp)
      have hl3 : (l.take 3).length ≤ 3 := by rw [List.length_take]; omega
      have hl2 : (l.take 2).length ≤ 2 := by rw [List.length_take]; omega
      refine q_when (b := decide ((c : Int) = 2) && !(ws.map tx).isEmpty) (et_and (et_test (ev_op (ev_var rfl) ev_c rv_eqI)) fun _ => et_tru (K := K) (ev_var rfl) ho6) (fun _ H7 e7 => ?_) fun _ H7 e7 => app u1 H7 hu1 (by omega) (e6.trans e7)
      have ho7 := e7 _ _ ho6
      refine s_asg (v := tx (l.take 3 ++ u1.take 3 ++ inv (l.take 2))) (ev_addW (ev_addW (ev_take (n := 3) (ev_last (K := K) (ev_var rfl) ho7 hla) ev_c (by omega)) (ev_take (n := 3) (ev_var rfl) ev_c (by omega)) (by omega)) (ev_fd (l.take 2) (ea_cons (ev_take (n := 2) (ev_last (K := K) (ev_var rfl) ho7 hla) ev_c (by omega)) ea_nil) rfl fun _ _ => by show (l.take 2).length ≤ 1000; omega) (by rw [List.length_append, inv_length]; omega)) fun H8 e8 => ?_
      exact app _ H8 ((hlm.1.take.app hu1.take).app hlm.1.take.inv) (by rw [List.length_append, List.length_append, inv_length]; omega) (e6.trans (e7.trans e8))
  · rintro σ H3 ⟨y3, y4, y5, ws, rfl, hwl, ho3, hws, sx3, st3⟩
    dsimp only
    show tRet _ _ _ _
    unfold tRet
    dsimp only
    exact eu_ofP (K := K) (ev_var rfl) ho3 H3 (Ex.refl H3) _ fun b H4 nb e4 hb => q _ _ ⟨b, ws, rfl, hb, by omega, hws, sx3.trans (Sx.of e4), st3.keep e4⟩
end
end FwK
end

section
set_option Elab.async false
set_option linter.all false
set_option maxRecDepth 100000
set_option maxHeartbeats 2000000
namespace FwK
open PySem PySem.Spec PyProof.Rows L2 Evl Fw FwR
section
variable {P : Program} {w : World} {K : PySem.W.Frag} {mg : Str → Option Value} {base : Heap} {σ : L2.St} {H H' : Hp} {ta tb te : TE}
theorem run_given {ta : TA} {p a : Addr} {xs : List Int} {r : Nat} {Q : VK} (h : EvA ta σ H [.ref p, .int (r : Int)]) (hs : St p a xs H) (hr : 1 ≤ r ∧ r ≤ 3) (k : ∀ (b : Addr) (ws : List Word) (H' : Hp), H' b = some (.tup (ws.map tx)) → ws.length ≤ 3 → (∀ u ∈ ws, InR r u ∧ u.length ≤ 8) → Sx p H H' → St p a xs H' → Q (.ref b) H') : tCall spGiven [] E0 ta σ H Q :=
  h H (Ex.refl H) _ fun H1 e1 => ⟨((p, a, xs), r), by rw [List.append_nil], ⟨hs.keep e1, hr.1, hr.2⟩, fun v H2 ⟨b, ws, hv, hb, hl, hw, sx, st⟩ => by
    subst hv
    exact k b ws H2 hb hl hw ((Sx.of e1).trans sx) st⟩
theorem run_cons {tr : TA} {Q : List V → Hp → Prop} (h : te σ H fun v H1 => tr σ H1 fun vs H2 => Q (v :: vs) H2) : tCons te tr σ H Q := h
theorem run_nil {Q : List V → Hp → Prop} (h : Q [] H) : tNil σ H Q := h
theorem run_tup {t : TA} {Q : VK} (h : t σ H fun xs H1 => xs.length ≤ sizeLine ∧ ∀ p, H1 p = none → Q (.ref p) (upd H1 p (.tup xs))) : tTup t σ H Q := h
theorem run_lst {t : TA} {Q : VK} (h : t σ H fun xs H1 => xs.length ≤ sizeLine ∧ ∀ p, H1 p = none → Q (.ref p) (upd H1 p (.lst xs))) : tLst t σ H Q := h
theorem run_var {i : Nat} {v : V} {Q : VK} (hx : σ[i]? = some (some v)) (h : Q v H) : tVar i σ H Q := ⟨v, hx, h⟩
theorem el_lcWs {a : Addr} {ws : List Word} {tl : TE} {vs : List Nat} {j : Nat} (g : Word → V) (h : Ev tl σ H (.ref a)) (hx : H a = some (.tup (ws.map tx))) (hz : ws.length ≤ 100000) (hw : ∀ x, wipe ((wipe σ vs).set j (some x)) vs = wipe σ vs)
    (ht : ∀ u H2, u ∈ ws → Ex H H2 → Ev te ((wipe σ vs).set j (some (tx u))) H2 (g u)) : EvL (tLc (iTup K tl) (gName j) tYes te vs) σ H (ws.map g) := by
  have h1 := el_lcTup (K := K) (te := te) (tt := tYes) (vs := vs) (g := gName j) (fun _ => true) (fun i => g (ws.getD i [])) h hx (by rw [List.length_map]; exact hz) fun i x H2 Q hi e2 k => by
    rw [List.getElem?_map] at hi
    cases hu : ws[i]? with
    | none => rw [hu] at hi; cases hi
    | some u =>
      rw [hu] at hi
      cases hi
      refine k _ (hw _) et_yes fun _ => ?_
      have : ws.getD i [] = u := by rw [List.getD_eq_getElem?_getD, hu]; rfl
      rw [this]
      exact ht u H2 (List.mem_of_getElem? hu) e2
  rw [range_all, List.length_map, range_map ws (fun i => g (ws.getD i [])) g fun i x hi => by
    rw [List.getD_eq_getElem?_getD, hi]
    rfl] at h1
  exact h1
theorem el_lcWl {a : Addr} {ws : List Word} {tl : TE} {vs : List Nat} {j : Nat} (g : Word → V) (h : Ev tl σ H (.ref a)) (hx : H a = some (.lst (ws.map tx))) (hz : ws.length ≤ 100000) (hw : ∀ x, wipe ((wipe σ vs).set j (some x)) vs = wipe σ vs)
    (ht : ∀ u H2, u ∈ ws → Ex H H2 → Ev te ((wipe σ vs).set j (some (tx u))) H2 (g u)) : EvL (tLc (iList K tl) (gName j) tYes te vs) σ H (ws.map g) := by
  have h1 := el_lcLst (K := K) (te := te) (tt := tYes) (vs := vs) (g := gName j) (fun _ => true) (fun i => g (ws.getD i [])) h hx (by rw [List.length_map]; exact hz) fun i x H2 Q hi e2 k => by
    rw [List.getElem?_map] at hi
    cases hu : ws[i]? with
    | none => rw [hu] at hi; cases hi
    | some u =>
      rw [hu] at hi
      cases hi
      refine k _ (hw _) et_yes fun _ => ?_
      have : ws.getD i [] = u := by rw [List.getD_eq_getElem?_getD, hu]; rfl
      rw [this]
      exact ht u H2 (List.mem_of_getElem? hu) e2
  rw [range_all, List.length_map, range_map ws (fun i => g (ws.getD i [])) g fun i x hi => by
    rw [List.getD_eq_getElem?_getD, hi]
    rfl] at h1
  exact h1
theorem el_cat {xs ys : List V} (h1 : EvL ta σ H xs) (h2 : EvL tb σ H ys) (hz : xs.length + ys.length ≤ 100000) : EvL (tOp rCat ta tb) σ H (xs ++ ys) := fun H1 e1 Q q =>
  h1 H1 e1 _ fun a H2 na e2 ha => h2 H2 (e1.trans e2) _ fun b H3 nb e3 hb => ⟨a, b, xs, ys, rfl, rfl, e3 _ _ ha, hb, sz_of hz, fun l nl => q l _ (fresh_back (e2.trans e3) nl) ((e2.trans e3).trans (Ex.new nl)) upd_same⟩
/-- the greatest length, 0 of none -/
def mxl : List Word → Nat
  | [] => 0
  | u :: r => Nat.max u.length (mxl r)
theorem mxl_le : ∀ (ws : List Word), ∀ u ∈ ws, u.length ≤ mxl ws
  | v :: r, u, h => by
    rcases List.mem_cons.mp h with e | e
    · subst e
      exact Nat.le_max_left _ _
    · exact Nat.le_trans (mxl_le r u e) (Nat.le_max_right _ _)
theorem mxl_mem : ∀ (ws : List Word), mxl ws = 0 ∨ ∃ u ∈ ws, u.length = mxl ws
  | [] => .inl rfl
  | v :: r => by
    have h : mxl (v :: r) = v.length ∨ mxl (v :: r) = mxl r := by
      show Nat.max _ _ = _ ∨ Nat.max _ _ = _
      rcases Nat.le_total v.length (mxl r) with h | h
      · exact .inr (Nat.max_eq_right h)
      · exact .inl (Nat.max_eq_left h)
    rcases h with h | h
    · exact .inr ⟨v, by simp, h.symm⟩
    · rcases mxl_mem r with g | ⟨u, g1, g2⟩
      · exact .inl (by rw [h, g])
      · exact .inr ⟨u, List.mem_cons_of_mem _ g1, by rw [h, g2]⟩
theorem ev_maxW {ws : List Word} (h : EvL te σ H ((.int 0) :: ws.map fun u => .int (u.length : Int))) : Ev (tCB (rMax K) (tCons te tNil)) σ H (.int (mxl ws : Int)) := fun H1 e Q q =>
  h H1 e _ fun a H2 na e2 ha => ⟨a, 0 :: ws.map fun u => (u.length : Int), rfl, by
    refine sq_of ?_
    rw [ha]
    congr 2
    rw [List.map_cons, List.map_map]
    rfl, by simp, fun m hm hy => by
    have h1 : m = (mxl ws : Int) := by
      have h2 : (mxl ws : Int) ≤ m := by
        rcases mxl_mem ws with g | ⟨u, g1, g2⟩
        · rw [g]
          exact hy _ (by simp)
        · rw [← g2]
          exact hy _ (List.mem_cons_of_mem _ (List.mem_map.mpr ⟨u, g1, rfl⟩))
      have h3 : m ≤ (mxl ws : Int) := by
        rcases List.mem_cons.mp hm with g | g
        · rw [g]
          omega
        · obtain ⟨u, g1, g2⟩ := List.mem_map.mp g
          have := mxl_le ws u g1
          omega
      omega
    rw [h1]
    exact q H2 e2⟩
abbrev spPair : Sp := prom (fun i : Addr × Addr × List Int => [.ref i.1]) (fun i H => St i.1 i.2.1 i.2.2 H)
  (fun i _ v H' => ∃ (b : Addr) (f1 f2 : V) (r : Nat) (w1 w2 : List Word), v = .ref b ∧ H' b = some (.lst [f1, f2]) ∧ Fam H' f1 r w1 ∧ FamOk r w1 ∧ Fam H' f2 r w2 ∧ FamOk r w2)
theorem ok_law_pair (B : Bs mg) (F : Fx K mg "_law_pair" s_law_pair pn_law_pair) (g_law_next : Fd P w K mg base "_law_next" pn_law_next 1 spNext) (g_law_word : Fd P w K mg base "_law_word" pn_law_word 2 spWord) (g_law_inverse : Fd P w K mg base "_law_inverse" pn_law_inverse 2 spInv)
    (g_law_reduce : Fd P w K mg base "_law_reduce" pn_law_reduce 2 spRed) (g_law_given : Fd P w K mg base "_law_given" pn_law_given 3 spGiven) : Fd P w K mg base "_law_pair" pn_law_pair 4 spPair := by
  refine F.fd sc_law_pair (fun _ => rfl) fun i f cdv A outer s H Q hr hp q E => ?_
  refine ⟨_, (pss_cons (ps_asg (pe_op op_add pe_int (pe_fd g_law_next (hr.mono (by decide)) (by rfl) (pa_cons (pv 0) (pa_cons pe_int pa_nil)))) (pg_name (i := 1) sc_law_pair.nd rfl (Or.inl rfl)))
    (pss_cons (ps_asg (pe_tup (pa_cons (pv 1) (pa_cons (pe_fd g_law_given (hr.mono (by decide)) (by rfl) (pa_cons (pv 0) (pa_cons (pv 1) pa_nil))) pa_nil))) (pg_name (i := 2) sc_law_pair.nd rfl (Or.inl rfl)))
    (pss_cons (ps_asg (pe_fd g_law_reduce (hr.mono (by decide)) (by rfl) (pa_cons (pe_fd g_law_word (hr.mono (by decide)) (by rfl) (pa_cons (pv 0) (pa_cons (pv 1) (pa_cons pe_int pa_nil)))) pa_nil)) (pg_name (i := 3) sc_law_pair.nd rfl (Or.inr rfl)))
    (pss_cons (ps_setLc (i := 4) (own := [("_law_own", 6)]) (g := (gName 6)) rfl sc_law_pair.nd rfl rfl (sw_true rfl rfl rfl (by decide +kernel)) (pi_tup (pe_ix (r := rIxT K) ix_tup (pv 2) pe_int (fun _ _ => rfl))) (blkOk_by (N := nm_law_pair) (sc := defScope s_law_pair) (by decide +kernel)) (fun _ _ _ _ _ => (pg_name (i := 6) sc_law_pair.nd rfl (Or.inl rfl))) (fun _ _ _ _ _ => pts_nil) (fun _ _ _ _ _ => (pe_fd g_law_reduce (hr.mono (by decide)) (by rfl) (pa_cons (pe_op op_add_str (pe_op op_add_str (pe_fd g_law_inverse (hr.mono (by decide)) (by rfl) (pa_cons (pv 3) pa_nil)) (pv 6)) (pv 3)) pa_nil))))
    (pss_cons (ps_asg (pe_fd g_law_next (hr.mono (by decide)) (by rfl) (pa_cons (pv 0) (pa_cons pe_int pa_nil))) (pg_name (i := 5) sc_law_pair.nd rfl (Or.inl rfl)))
    (pss_cons (ps_if (PW.pt (pw_or (pt_cmpR op_eq (pv 5) pe_int (nomark _)) (pw_or1 (pt_cmpR op_gt (pe_callB (r := rMax K) (cr_max rfl) (by rfl) B.z_max (by decide +kernel) (pa_cons (pe_op op_cat (pe_lst (pa_cons pe_int pa_nil)) (pe_lc (own := [("_law_own", 6)]) (g := (gName 6)) rfl sc_law_pair.nd  (pi_list (pv 4)) (blkOk_by (N := nm_law_pair) (sc := defScope s_law_pair) (by decide +kernel)) (fun _ _ _ _ _ => (pg_name (i := 6) sc_law_pair.nd rfl (Or.inl rfl))) (fun _ _ _ _ _ => pts_nil) (fun _ _ _ _ _ => (pe_callB (r := rLenX) call_len_str (by rfl) B.z_len PySem.boot_len (pa_cons (pv 6) pa_nil))))) pa_nil)) pe_int (nomark _))))) (pss_one (ps_ret (pe_lst (pa_cons (pv 2) (pa_cons (pe_tup (pa_cons (pv 1) (pa_cons (pe_fd g_law_given (hr.mono (by decide)) (by rfl) (pa_cons (pv 0) (pa_cons (pv 1) pa_nil))) pa_nil))) pa_nil))))) pss_nil)
    (pss_cons (ps_if (PW.pt (pw_and (pt_cmpR op_eq (pv 5) pe_int (nomark _)) (pw_and (pt_cmpR op_gt (pe_callB (r := Evl.rLenS K) call_len_seq (by rfl) B.z_len PySem.boot_len (pa_cons (pv 4) pa_nil)) pe_int (nomark _)) (pw_and1 (pt_cmpR op_le (pe_callB (r := rLenX) call_len_str (by rfl) B.z_len PySem.boot_len (pa_cons (pe_fd g_law_reduce (hr.mono (by decide)) (by rfl) (pa_cons (pe_op op_add_str (pe_ix (r := rIxL K) ix_list (pv 4) pe_int (fun _ _ => rfl)) (pe_ix (r := rIxL K) ix_list (pv 4) pe_int (fun _ _ => rfl))) pa_nil)) pa_nil)) pe_int (nomark _)))))) (pss_one (ps_asg (pe_fd g_law_reduce (hr.mono (by decide)) (by rfl) (pa_cons (pe_op op_add_str (pe_ix (r := rIxL K) ix_list (pv 4) pe_int (fun _ _ => rfl)) (pe_ix (r := rIxL K) ix_list (pv 4) pe_int (fun _ _ => rfl))) pa_nil)) (pg_sub (pv 4) pe_int set_list))) pss_nil)
    (pss_one (ps_ret (pe_lst (pa_cons (pv 2) (pa_cons (pe_tup (pa_cons (pv 1) (pa_cons (pe_callTy (r := rTupOf K) call_tuple_of (by rfl) B.z_tuple (by decide +kernel) (pa_cons (pe_revL (pv 4)) pa_nil)) pa_nil))) pa_nil)))))))))))), ?_⟩
  obtain ⟨p, a, xs⟩ := i
  replace hp : St p a xs H := hp
  replace q : ∀ v H', (∃ (b : Addr) (f1 f2 : V) (r : Nat) (w1 w2 : List Word), v = .ref b ∧ H' b = some (.lst [f1, f2]) ∧ Fam H' f1 r w1 ∧ FamOk r w1 ∧ Fam H' f2 r w2 ∧ FamOk r w2) → Q v H' := q
  -- rank
  refine q_asg' (ev_c H (Ex.refl H) _ fun H1 e1 => run_next (p := p) (a := a) (xs := xs) (m := 3) (ea_cons (ev_var rfl) (ea_cons ev_c ea_nil)) (hp.keep e1) ⟨by decide, by decide⟩ fun d H2 hd sx2 st2 => ⟨1, (d : Int), rfl, rfl, ?_⟩)
  obtain ⟨r, hre, hr1, hr3⟩ : ∃ r : Nat, (1 : Int) + (d : Int) = (r : Int) ∧ 1 ≤ r ∧ r ≤ 3 := ⟨1 + d, by omega, by omega, by omega⟩
  simp only [hre]
  -- family
  refine q_asg' (run_tup (run_cons (run_var rfl (run_cons (run_given (p := p) (a := a) (xs := xs) (r := r) (ea_cons (ev_var rfl) (ea_cons (ev_var rfl) ea_nil)) st2 ⟨hr1, hr3⟩ fun b1 ws H3 hb1 hwl hws sx3 st3 => run_nil ⟨Nat.le_of_ble_eq_true rfl, fun fa nfa => ?_⟩)))))
  have st4 := st3.keep (Ex.new (o := .tup [.int (r : Int), .ref b1]) nfa)
  have hF4 : Fam (upd H3 fa (.tup [.int (r : Int), .ref b1])) (.ref fa) r ws := ⟨fa, b1, rfl, upd_same, Ex.new nfa _ _ hb1⟩
  have hok : FamOk r ws := ⟨hr1, hr3, by omega, hws⟩
  generalize upd H3 fa (.tup [.int (r : Int), .ref b1]) = H4 at st4 hF4 ⊢
  -- the word
  refine q_asg' (run_cons (run_word (p := p) (a := a) (xs := xs) (r := r) (m := 4) (ea_cons (ev_var rfl) (ea_cons (ev_var rfl) (ea_cons ev_c ea_nil))) st4 ⟨hr1, hr3⟩ (by decide) fun u H5 hu hul sx5 st5 => run_nil ⟨u, rfl, by show u.length ≤ 1000; omega, fun v H6 ⟨e6, hv⟩ => ?_⟩))
  subst hv
  have hF6 := (hF4.keep (sx5.tk st4)).keep (Tk.of e6)
  have st6 := st5.keep e6
  have hg : InR r (red u) := hu.red
  have hgl : (red u).length ≤ 4 := Nat.le_trans (red_len u) hul
  generalize red u = g at hg hgl ⊢
  -- the moved words
  have hF6' := hF6
  obtain ⟨fa', b1', efa, hfa, hb6⟩ := hF6'
  cases efa
  refine q_asgL (xs := ws.map fun own => tx (red (inv g ++ own ++ g))) (el_lcWs (K := K) (fun own => tx (red (inv g ++ own ++ g))) (ev_ixt (K := K) (j := 1) (ev_var rfl) ev_c hfa rfl) hb6 (by omega) (fun _ => rfl) fun own H7 ho e7 => ?_) fun mo H7 nmo e7 hmo => ?_
  · have h8 := (hws own ho).2
    have hi : (inv g).length ≤ 4 := by rw [inv_length]; exact hgl
    exact ev_fd (inv g ++ own ++ g) (ea_cons (ev_addW (ev_addW (ev_fd g (ea_cons (ev_var rfl) ea_nil) rfl fun _ _ => by show g.length ≤ 1000; omega) (ev_var rfl) (by omega)) (ev_var rfl) (by rw [List.length_append]; omega)) ea_nil) rfl fun _ _ => by show (inv g ++ own ++ g).length ≤ 1000; rw [List.length_append, List.length_append]; omega
  obtain ⟨mv, hmv⟩ : ∃ mv, mv = ws.map fun own => red (inv g ++ own ++ g) := ⟨_, rfl⟩
  have hmo7 : H7 mo = some (.lst (mv.map tx)) := by rw [hmo, hmv, List.map_map]; rfl
  have hmi : ∀ u ∈ mv, InR r u := fun u hu => by
    rw [hmv] at hu
    obtain ⟨own, h1, h2⟩ := List.mem_map.mp hu
    rw [← h2]
    exact ((hg.inv.app (hws own h1).1).app hg).red
  have hmb : ∀ u ∈ mv, u.length ≤ 16 := fun u hu => by
    rw [hmv] at hu
    obtain ⟨own, h1, h2⟩ := List.mem_map.mp hu
    have h3 := (hws own h1).2
    have h4 := red_len (inv g ++ own ++ g)
    rw [List.length_append, List.length_append, inv_length] at h4
    rw [← h2]
    omega
  have hml : mv.length ≤ 3 := by rw [hmv, List.length_map]; exact hwl
  clear hmv hmo
  have st7 := st6.keep e7
  have hF7 := hF6.keep (Tk.of e7)
  have dmp := st6.ne nmo
  -- the pick
  refine q_asg' (run_next (p := p) (a := a) (xs := xs) (m := 4) (ea_cons (ev_var rfl) (ea_cons ev_c ea_nil)) st7 ⟨by decide, by decide⟩ fun c H8 hc sx8 st8 => ?_)
  have hF8 := hF7.keep (sx8.tk st7)
  have hmo8 := sx8 _ _ dmp hmo7
  -- the end
  have fin : ∀ (mv : List Word) (y6 : Option V) (H9 : Hp), mv.length ≤ 3 → (∀ u ∈ mv, InR r u ∧ u.length ≤ 8) → H9 mo = some (.lst (mv.map tx)) → Fam H9 (.ref fa) r ws → tRet (tLst (tCons (tVar 2) (tCons (tTup (tCons (tVar 1) (tCons (tCB (rTupOf K) (tCons (tRevL K (tVar 4)) tNil)) tNil))) tNil))) { nx := fun _ H' => Q .non H', rt := Q } [some (.ref p), some (.int (r : Int)), some (.ref fa), some (tx g), some (.ref mo), some (.int (c : Int)), y6] H9 := fun mv y6 H9 h1 h2 h3 h4 => by
    refine s_ret' (run_lst (run_cons (run_var rfl (run_cons (run_tup (run_cons (run_var rfl (run_cons (eu_ofL (K := K) (el_revL (K := K) (ev_var rfl) h3) H9 (Ex.refl H9) _ fun b2 H10 nb2 e10 hb2 => run_nil ⟨Nat.le_of_ble_eq_true rfl, fun f2 nf2 => run_nil ⟨Nat.le_of_ble_eq_true rfl, fun l nl => q _ _ ⟨l, .ref fa, .ref f2, r, ws, mv.reverse, rfl, upd_same, ?_, hok, ?_, ?_⟩⟩⟩)))))))))
    · exact ((h4.keep (Tk.of e10)).keep (Tk.of (Ex.new nf2))).keep (Tk.of (Ex.new nl))
    · refine ⟨f2, b2, rfl, Ex.new nl _ _ upd_same, Ex.new nl _ _ (Ex.new nf2 _ _ ?_)⟩
      rw [hb2, List.map_reverse]
    · exact ⟨hr1, hr3, by rw [List.length_reverse]; omega, fun u hu => h2 u (List.mem_reverse.mp hu)⟩
  refine q_when (b := decide ((c : Int) = 0) || decide ((8 : Int) < (mxl mv : Int))) (et_or (et_test (ev_op (ev_var rfl) ev_c rv_eqI)) fun _ => et_test (ev_op (ev_maxW (K := K) (ws := mv) (el_cat (xs := [.int 0]) (ys := mv.map fun u => .int (u.length : Int)) (el_lst (ea_cons ev_c ea_nil) (by decide)) (el_lcWl (K := K) (fun u => .int (u.length : Int)) (ev_var rfl) hmo8 (by omega) (fun _ => rfl) fun u H9 hu e9 => ?_) (by rw [List.length_map]; show 1 + mv.length ≤ _; omega))) ev_c rv_I0)) (fun _ H9 e9 => ?_) fun hb H9 e9 => ?_
  · have := hmb u hu
    exact ev_is (ev_lenS (s := T u) (ev_var rfl) (by rw [T_len]; omega)) (by rw [T_len])
  · have hF9 := hF8.keep (Tk.of e9)
    have st9 := st8.keep e9
    refine s_ret' (run_lst (run_cons (run_var rfl (run_cons (run_tup (run_cons (run_var rfl (run_cons (run_given (p := p) (a := a) (xs := xs) (r := r) (ea_cons (ev_var rfl) (ea_cons (ev_var rfl) ea_nil)) st9 ⟨hr1, hr3⟩ fun b2 ws2 H10 hb2 hl2 hw2 sx10 st10 => run_nil ⟨Nat.le_of_ble_eq_true rfl, fun f2 nf2 => run_nil ⟨Nat.le_of_ble_eq_true rfl, fun l nl => q _ _ ⟨l, .ref fa, .ref f2, r, ws, ws2, rfl, upd_same, ?_, hok, ?_, hr1, hr3, by omega, hw2⟩⟩⟩)))))))))
    · exact ((hF9.keep (sx10.tk st9)).keep (Tk.of (Ex.new nf2))).keep (Tk.of (Ex.new nl))
    · exact ⟨f2, b2, rfl, Ex.new nl _ _ upd_same, Ex.new nl _ _ (Ex.new nf2 _ _ hb2)⟩
  · have hF9 := hF8.keep (Tk.of e9)
    have hmo9 := e9 _ _ hmo8
    have h8 : ∀ u ∈ mv, InR r u ∧ u.length ≤ 8 := fun u hu => by
      have h1 : decide ((8 : Int) < (mxl mv : Int)) = false := by
        cases hh : decide ((8 : Int) < (mxl mv : Int)) with
        | false => rfl
        | true => rw [hh, Bool.or_true] at hb; cases hb
      have h2 := of_decide_eq_false h1
      have h3 := mxl_le mv u hu
      exact ⟨hmi u hu, by omega⟩
    match hmv : mv with
    | [] =>
      refine q_when (b := false) (et_is (et_and (et_test (ev_op (ev_var rfl) ev_c rv_eqI)) fun _ => et_andF (et_test (ev_is (ev_op (ev_lenL (K := K) (ev_var rfl) hmo9) ev_c rv_I0) rfl))) (Bool.and_false _)) (fun h => absurd h (by decide)) fun _ H10 e10 => fin [] _ H10 (by simp) (fun u hu => by cases hu) (e10 _ _ hmo9) (hF9.keep (Tk.of e10))
    | [m0] =>
      refine q_when (b := false) (et_is (et_and (et_test (ev_op (ev_var rfl) ev_c rv_eqI)) fun _ => et_andF (et_test (ev_is (ev_op (ev_lenL (K := K) (ev_var rfl) hmo9) ev_c rv_I0) rfl))) (Bool.and_false _)) (fun h => absurd h (by decide)) fun _ H10 e10 => fin [m0] _ H10 (by simp) h8 (e10 _ _ hmo9) (hF9.keep (Tk.of e10))
    | m0 :: m1 :: rest =>
      have hm0 := h8 m0 (by simp)
      have hm1 := h8 m1 (by simp)
      have hrl := red_len (m0 ++ m1)
      rw [List.length_append] at hrl
      have evr : ∀ (y6 : Option V) (H10 : Hp), Ex H9 H10 → Ev (tCall spRed [] E0 (tCons (tOp rAddS (tOp (rIxL K) (tVar 4) (tC (.int 0))) (tOp (rIxL K) (tVar 4) (tC (.int 1)))) tNil)) [some (.ref p), some (.int (r : Int)), some (.ref fa), some (tx g), some (.ref mo), some (.int (c : Int)), y6] H10 (tx (red (m0 ++ m1))) := fun y6 H10 e10 =>
        ev_fd (m0 ++ m1) (ea_cons (ev_addW (ev_ixl (K := K) (j := 0) (ev_var rfl) ev_c (e10 _ _ hmo9) rfl) (ev_ixl (K := K) (j := 1) (ev_var rfl) ev_c (e10 _ _ hmo9) rfl) (by omega)) ea_nil) rfl fun _ _ => by show (m0 ++ m1).length ≤ 1000; rw [List.length_append]; omega
      refine q_when (b := decide ((c : Int) = 1) && (decide ((1 : Int) < (((m0 :: m1 :: rest).map tx).length : Int)) && decide (((red (m0 ++ m1)).length : Int) ≤ 8))) (et_and (et_test (ev_op (ev_var rfl) ev_c rv_eqI)) fun _ => et_and (et_test (ev_op (ev_lenL (K := K) (ev_var rfl) hmo9) ev_c rv_I0)) fun _ => et_test (ev_op (ev_is (ev_lenS (s := T (red (m0 ++ m1))) (evr _ H9 (Ex.refl H9)) (by rw [T_len]; omega)) (by rw [T_len])) ev_c rv_I0)) (fun hb H10 e10 => ?_) fun _ H10 e10 => fin _ _ H10 hml h8 (e10 _ _ hmo9) (hF9.keep (Tk.of e10))
      have hle : (red (m0 ++ m1)).length ≤ 8 := by
        have h2 := (Bool.and_eq_true_iff.mp (Bool.and_eq_true_iff.mp hb).2).2
        have := of_decide_eq_true h2
        omega
      refine s_setL (j := 0) (v := tx (red (m0 ++ m1))) (e10 _ _ hmo9) (evr _ H10 e10) (ev_var rfl) (ev_c (v := .int ((0 : Nat) : Int))) (by simp) fun H11 e11 => ?_
      refine fin (red (m0 ++ m1) :: m1 :: rest) _ _ hml (fun u hu => ?_) upd_same ((hF9.keep (Tk.of (e10.trans e11))).keep (Tk.updl (e11 _ _ (e10 _ _ hmo9))))
      rcases List.mem_cons.mp hu with e | e
      · rw [e]
        exact ⟨(hm0.1.app hm1.1).red, hle⟩
      · exact h8 u (List.mem_cons_of_mem _ e)
end
end FwK
end

section
set_option Elab.async false
set_option linter.all false
set_option maxRecDepth 100000
set_option maxHeartbeats 2000000
namespace FwK
open PySem PySem.Spec PyProof.Rows L2 Evl Fw FwR
section
variable {P : Program} {w : World} {K : PySem.W.Frag} {mg : Str → Option Value} {base : Heap} {σ : L2.St} {H H' : Hp} {ta tb te : TE} {tt : TT}
theorem el_lcWc {w : Word} {tl : TE} {j : Nat} {vs : List Nat} (c : Let → Bool) (f : Let → V) (h : Ev tl σ H (tx w)) (hz : w.length ≤ 100000) (hw : ∀ x, wipe ((wipe σ vs).set j (some x)) vs = wipe σ vs)
    (ht : ∀ (l : Let) H1, Ex H H1 → l ∈ w → EvT tt ((wipe σ vs).set j (some (tx [l]))) H1 (c l)) (he : ∀ (l : Let) H1, Ex H H1 → l ∈ w → Ev te ((wipe σ vs).set j (some (tx [l]))) H1 (f l)) : EvL (tLc (iStr tl) (gName j) tt te vs) σ H ((w.filter c).map f) := fun H0 e Q q => h H0 e _ fun H1 e1 => ⟨T w, rfl, fun Dl hD =>
  lc_it walk_str (fun i H' => Ex H1 H' ∧ H' Dl = some (.lst (((w.take i).filter c).map f))) ⟨Ex.new hD, upd_same⟩ (fun _ _ _ _ => trivial) (fun i x H2 H' hi p ⟨e2, c', hc, ex⟩ => by
    subst e2 ex
    rw [T_get] at hc
    cases hl : w[i]? with
    | none => rw [hl] at hc; cases hc
    | some l =>
      rw [hl] at hc
      cases hc
      refine ⟨hw _, ?_⟩
      have e3 := (e.trans e1).trans p.1
      have hm := List.mem_of_getElem? hl
      have et : (w.take (i + 1)).filter c = (w.take i).filter c ++ (if c l = true then [l] else []) := by
        rw [List.take_add_one, hl, List.filter_append]
        show _ ++ List.filter c [l] = _
        cases hcl : c l <;> simp [hcl]
      refine ht l H' e3 hm H' (Ex.refl H') _ fun H3 e4 => ?_
      cases hcl : c l with
      | true =>
        rw [if_pos rfl]
        refine he l H3 (e3.trans e4) hm H3 (Ex.refl H3) _ fun H4 e5 => ⟨_, e5 Dl _ (e4 Dl _ p.2), ?_, Ex.mut (p.1.trans (e4.trans e5)) hD, ?_⟩
        · have h1 := List.length_filter_le c (w.take i)
          rw [List.length_map]
          rw [List.length_take] at h1
          exact sz_lt (by have := (List.getElem?_eq_some_iff.mp hl).1; omega)
        · rw [upd_same, et, hcl, List.map_append]
          rfl
      | false =>
        rw [if_neg (by decide)]
        refine ⟨p.1.trans e4, ?_⟩
        rw [et, hcl, if_neg (by decide), List.append_nil]
        exact e4 Dl _ p.2) (fun H' p => q Dl H' (fresh_back e1 hD) (e1.trans p.1) (by
      rw [p.2, T_size, List.take_length]))⟩
theorem el_catV {p : Addr} {xs ys : List V} (h1 : Ev ta σ H (.ref p)) (hp : H p = some (.lst xs)) (h2 : EvL tb σ H ys) (hz : xs.length + ys.length ≤ 100000) : EvL (tOp rCat ta tb) σ H (xs ++ ys) := fun H1 e1 Q q =>
  h1 H1 e1 _ fun H2 e2 => h2 H2 (e1.trans e2) _ fun b H3 nb e3 hb => ⟨p, b, xs, ys, rfl, rfl, e3 _ _ (e2 _ _ (e1 _ _ hp)), hb, sz_of hz, fun l nl => q l _ (fresh_back (e2.trans e3) nl) ((e2.trans e3).trans (Ex.new nl)) upd_same⟩
theorem el_catVV {p r : Addr} {xs ys : List V} (h1 : Ev ta σ H (.ref p)) (hp : H p = some (.lst xs)) (h2 : Ev tb σ H (.ref r)) (hr : H r = some (.lst ys)) (hz : xs.length + ys.length ≤ 100000) : EvL (tOp rCat ta tb) σ H (xs ++ ys) := fun H1 e1 Q q =>
  h1 H1 e1 _ fun H2 e2 => h2 H2 (e1.trans e2) _ fun H3 e3 => ⟨p, r, xs, ys, rfl, rfl, e3 _ _ (e2 _ _ (e1 _ _ hp)), e3 _ _ (e2 _ _ (e1 _ _ hr)), sz_of hz, fun l nl => q l _ (fresh_back (e2.trans e3) nl) ((e2.trans e3).trans (Ex.new nl)) upd_same⟩
/-- w[-1:] -/
theorem ev_lastcut {w : Word} (h : Ev ta σ H (tx w)) (hw : w.length ≤ 100000) : Ev (tSl rSlS ta (tPart (tUn (rU fun i => .int (-i)) (tC (.int 1)))) tNoPart) σ H (tx (w.drop (w.length - 1))) := fun H1 e Q q =>
  h H1 e _ fun H2 e2 => (ev_un (ev_c (v := .int 1)) ru_neg) H2 (Ex.refl H2) _ fun H3 e3 => ⟨_, rfl, T w, rfl, sz_of (by rw [T_len]; exact hw), by
    have h1 : cutS (T w) (some (-1)) none = T (w.drop (w.length - 1)) := by
      unfold cutS
      have h2 : HT.sIx (T w).length 0 (some (-1)) = w.length - 1 := by
        show (if (-1 : Int) < 0 then ((-1 : Int) + ((T w).length : Int)).toNat else min (-1 : Int).toNat (T w).length) = w.length - 1
        rw [if_pos (by decide), T_len]
        omega
      rw [h2, HT.sIx_none, T_list, T_len, ← List.map_drop, List.take_of_length_le (by rw [List.length_map, List.length_drop]; omega)]
      rfl
    rw [h1]
    exact q H3 (e2.trans e3)⟩
def wkeep (u : Word) (l : Let) : Bool := !decide (u.drop (u.length - 1) = [l.flip])
def wnext (r : Nat) (u : Word) : List Word := ((lets r).filter (wkeep u)).map fun l => u ++ [l]
def lastW (r : Nat) : Nat → List Word
  | 0 => [[]]
  | n + 1 => (lastW r n).flatMap (wnext r)
def rowsW (r : Nat) : Nat → List Word
  | 0 => [[]]
  | n + 1 => rowsW r n ++ lastW r (n + 1)
theorem drop_last {u : Word} {x : Let} : u.drop (u.length - 1) = [x] ↔ u.getLast? = some x := by
  rcases List.eq_nil_or_concat u with h | ⟨v, y, h⟩
  · subst h
    simp
  · rw [List.concat_eq_append] at h
    subst h
    simp
theorem wnext_mem {r : Nat} {u v : Word} (h1 : 1 ≤ r) (h3 : r ≤ 3) (hu : Rd u) (hi : InR r u) : v ∈ wnext r u ↔ ∃ l, v = u ++ [l] ∧ Rd v ∧ InR r v := by
  unfold wnext
  rw [List.mem_map]
  constructor
  · rintro ⟨l, h, rfl⟩
    obtain ⟨h4, h5⟩ := List.mem_filter.mp h
    refine ⟨l, rfl, hu.snoc fun x hx e => ?_, fun y hy => ?_⟩
    · unfold wkeep at h5
      rw [decide_eq_true (drop_last.mpr (by rw [hx, e, Let.flip_flip]))] at h5
      cases h5
    · rcases List.mem_append.mp hy with hy | hy
      · exact hi y hy
      · rw [List.mem_singleton.mp hy]
        exact (mem_lets l r h1 h3).mp h4
  · rintro ⟨l, rfl, h4, h5⟩
    refine ⟨l, List.mem_filter.mpr ⟨(mem_lets l r h1 h3).mpr (h5 l (by simp)), ?_⟩, rfl⟩
    unfold wkeep
    rw [decide_eq_false]
    · rfl
    · intro e
      have e2 := drop_last.mp e
      exact ((rd_app u [l]).mp h4).2.2 _ l e2 rfl (by rw [Let.flip_flip])
theorem lastW_mem {r : Nat} (h1 : 1 ≤ r) (h3 : r ≤ 3) : ∀ (n : Nat) (v : Word), v ∈ lastW r n ↔ v.length = n ∧ Rd v ∧ InR r v
  | 0, v => by
    show v ∈ [[]] ↔ _
    rw [List.mem_singleton]
    constructor
    · intro h
      subst h
      exact ⟨rfl, trivial, fun l hl => by cases hl⟩
    · intro h
      exact List.length_eq_zero_iff.mp h.1
  | n + 1, v => by
    show v ∈ (lastW r n).flatMap (wnext r) ↔ _
    rw [List.mem_flatMap]
    constructor
    · rintro ⟨u, hu, hv⟩
      obtain ⟨g1, g2, g3⟩ := (lastW_mem h1 h3 n u).mp hu
      obtain ⟨l, e, k1, k2⟩ := (wnext_mem h1 h3 g2 g3).mp hv
      exact ⟨by rw [e, List.length_append, g1]; rfl, k1, k2⟩
    · rintro ⟨g1, g2, g3⟩
      rcases List.eq_nil_or_concat v with h | ⟨u, l, h⟩
      · rw [h] at g1
        cases g1
      · rw [List.concat_eq_append] at h
        subst h
        have hr : Rd u := Rd.left g2
        have hi : InR r u := fun x hx => g3 x (List.mem_append_left _ hx)
        refine ⟨u, (lastW_mem h1 h3 n u).mpr ⟨by rw [List.length_append] at g1; exact Nat.succ.inj g1, hr, hi⟩, (wnext_mem h1 h3 hr hi).mpr ⟨l, rfl, g2, g3⟩⟩
theorem rowsW_mem {r : Nat} (h1 : 1 ≤ r) (h3 : r ≤ 3) : ∀ (n : Nat) (v : Word), v ∈ rowsW r n ↔ v.length ≤ n ∧ Rd v ∧ InR r v
  | 0, v => by
    rw [show rowsW r 0 = lastW r 0 from rfl, lastW_mem h1 h3]
    constructor
    · rintro ⟨a, b, c⟩
      exact ⟨by omega, b, c⟩
    · rintro ⟨a, b, c⟩
      exact ⟨by omega, b, c⟩
  | n + 1, v => by
    show v ∈ rowsW r n ++ lastW r (n + 1) ↔ _
    rw [List.mem_append, rowsW_mem h1 h3 n v, lastW_mem h1 h3]
    constructor
    · rintro (⟨a, b⟩ | ⟨a, b⟩)
      · exact ⟨by omega, b⟩
      · exact ⟨by omega, b⟩
    · rintro ⟨a, b⟩
      by_cases h : v.length = n + 1
      · exact .inr ⟨h, b⟩
      · exact .inl ⟨by omega, b⟩
theorem wnext_len {r : Nat} (h3 : r ≤ 3) (u : Word) : (wnext r u).length ≤ 6 := by
  unfold wnext
  rw [List.length_map]
  have := List.length_filter_le (wkeep u) (lets r)
  rw [lets_len r h3] at this
  omega
theorem flat_len {r : Nat} (h3 : r ≤ 3) : ∀ us : List Word, (us.flatMap (wnext r)).length ≤ 6 * us.length
  | [] => Nat.le_refl _
  | u :: us => by
    have h1 := wnext_len h3 u
    have h2 := flat_len h3 us
    rw [List.flatMap_cons, List.length_append, List.length_cons]
    omega
theorem lastW_len {r : Nat} (h3 : r ≤ 3) : ∀ n, n ≤ 3 → (lastW r n).length ≤ 6 ^ n
  | 0, _ => Nat.le_refl _
  | n + 1, h => by
    have h1 := lastW_len h3 n (by omega)
    have h2 := flat_len h3 (lastW r n)
    show ((lastW r n).flatMap (wnext r)).length ≤ _
    rw [Nat.pow_succ]
    omega
theorem pow6_le {n : Nat} (h : n ≤ 3) : 6 ^ n ≤ 216 := Nat.le_trans (Nat.pow_le_pow_right (by decide) h) (by decide)
theorem rowsW_len {r : Nat} (h3 : r ≤ 3) : ∀ n, n ≤ 3 → (rowsW r n).length ≤ 216 * (n + 1)
  | 0, _ => by
    show 1 ≤ _
    omega
  | n + 1, h => by
    have h1 := rowsW_len h3 n (by omega)
    have h2 := lastW_len h3 (n + 1) h
    have h4 := pow6_le h
    show (rowsW r n ++ lastW r (n + 1)).length ≤ _
    rw [List.length_append]
    omega
abbrev spWords : Sp := spE (fun i : Nat × Nat => [.int (i.1 : Int), .int (i.2 : Int)]) (fun i _ => 1 ≤ i.1 ∧ i.1 ≤ 3 ∧ i.2 ≤ 3) (fun i v H' => ∃ b, v = .ref b ∧ H' b = some (.lst ((rowsW i.1 i.2).map tx)))
theorem ok_law_words (B : Bs mg) (F : Fx K mg "_law_words" s_law_words pn_law_words) (g_law_letters : Fd P w K mg base "_law_letters" pn_law_letters 1 spLetters) (g_law_flip : Fd P w K mg base "_law_flip" pn_law_flip 1 spOpp) : Fd P w K mg base "_law_words" pn_law_words 2 spWords := by
  refine F.fd sc_law_words (fun _ => rfl) fun i f cdv A outer s H Q hr hp q E => ?_
  refine ⟨_, (pss_cons (ps_asg (pe_lst (pa_cons pe_str pa_nil)) (pg_name (i := 2) sc_law_words.nd rfl (Or.inl rfl)))
    (pss_cons (ps_asg (pe_lst (pa_cons pe_str pa_nil)) (pg_name (i := 3) sc_law_words.nd rfl (Or.inl rfl)))
    (pss_cons (ps_for PassesOwn.never rfl (pi_range1 (by rfl) B.z_range (pa_cons (pv 1) pa_nil)) (pg_name (i := 4) sc_law_words.nd rfl (Or.inl rfl)) (pss_cons (ps_asg (pe_lst pa_nil) (pg_name (i := 5) sc_law_words.nd rfl (Or.inl rfl)))
    (pss_cons (ps_for PassesOwn.never rfl (pi_list (pv 3)) (pg_name (i := 6) sc_law_words.nd rfl (Or.inr rfl)) (pss_one (ps_asg (pe_op op_cat (pv 5) (pe_lc (own := [("_law_letter", 7)]) (g := (gName 7)) rfl sc_law_words.nd  (pi_str (pe_fd g_law_letters (hr.mono (by decide)) (by rfl) (pa_cons (pv 0) pa_nil))) (blkOk_by (N := nm_law_words) (sc := defScope s_law_words) (by decide +kernel)) (fun _ _ _ _ _ => (pg_name (i := 7) sc_law_words.nd rfl (Or.inl rfl))) (fun _ _ _ _ _ => (pts_one (pt_cmpR op_ne (pe_slice sl_str (pv 6) (po_some (pe_un un_neg pe_int)) po_none) (pe_fd g_law_flip (hr.mono (by decide)) (by rfl) (pa_cons (pv 7) pa_nil)) (nomark _)))) (fun _ _ _ _ _ => (pe_op op_add_str (pv 6) (pv 7))))) (pg_name (i := 5) sc_law_words.nd rfl (Or.inl rfl)))))
    (pss_cons (ps_asg (pe_op op_cat (pv 2) (pv 5)) (pg_name (i := 2) sc_law_words.nd rfl (Or.inl rfl)))
    (pss_one (ps_asg (pv 5) (pg_name (i := 3) sc_law_words.nd rfl (Or.inl rfl))))))))
    (pss_one (ps_ret (pv 2)))))), ?_⟩
  obtain ⟨r, n⟩ := i
  obtain ⟨h1, h3, hn⟩ := hp
  replace h1 : 1 ≤ r := h1
  replace h3 : r ≤ 3 := h3
  replace hn : n ≤ 3 := hn
  replace q : ∀ v H', (Ex H H' ∧ ∃ b, v = .ref b ∧ H' b = some (.lst ((rowsW r n).map tx))) → Q v H' := q
  refine q_asgL (xs := [tx []]) (el_lst (ea_cons ev_c ea_nil) (by decide)) fun ra H1 nra e1 hra => ?_
  refine q_asgL (xs := [tx []]) (el_lst (ea_cons ev_c ea_nil) (by decide)) fun la H2 nla e2 hla => ?_
  refine q_forR1 (n := (n : Int)) (ea_cons (ev_var rfl) ea_nil) ⟨by omega, by omega⟩ (fun i σ H3 => ∃ (ra la : Addr) (y4 y5 y6 y7 : Option V), σ = [some (.int (r : Int)), some (.int (n : Int)), some (.ref ra), some (.ref la), y4, y5, y6, y7] ∧ Ex H H3 ∧ H3 ra = some (.lst ((rowsW r i).map tx)) ∧ H3 la = some (.lst ((lastW r i).map tx))) ?_ ?_ ?_
  · intro H3 e3
    exact ⟨ra, la, _, _, _, _, rfl, e1.trans (e2.trans e3), e3 _ _ (e2 _ _ hra), e3 _ _ hla⟩
  · rintro i σ H3 hi ⟨ra, la, y4, y5, y6, y7, rfl, e3, hra3, hla3⟩
    have hi' : i < n := by omega
    have hlw := Nat.le_trans (lastW_len (r := r) h3 i (by omega)) (pow6_le (by omega))
    refine q_asgL (el_lst ea_nil (Nat.zero_le _)) fun lo H4 nlo e4 hlo => ?_
    refine q_forL (K := K) (a := la) (xs := (lastW r i).map tx) (ev_var rfl) (sq_of (e4 _ _ hla3)) (fun j σ H5 => ∃ (lo : Addr) (y6 y7 : Option V), σ = [some (.int (r : Int)), some (.int (n : Int)), some (.ref ra), some (.ref la), some (.int (i : Int)), some (.ref lo), y6, y7] ∧ Ex H3 H5 ∧ H5 lo = some (.lst ((((lastW r i).take j).flatMap (wnext r)).map tx))) ?_ ?_ ?_ ?_
    · intro H5 e5
      exact ⟨lo, _, _, rfl, e4.trans e5, e5 _ _ hlo⟩
    · rintro j σ H5 hj ⟨lo, y6, y7, rfl, e5, hlo5⟩
      exact sq_of (e5 _ _ hla3)
    · rintro j x σ H5 hx ⟨lo, y6, y7, rfl, e5, hlo5⟩
      rw [List.getElem?_map] at hx
      cases hu : (lastW r i)[j]? with
      | none => rw [hu] at hx; cases hx
      | some u =>
      rw [hu] at hx
      cases hx
      obtain ⟨g1, g2, g3⟩ := (lastW_mem h1 h3 i u).mp (List.mem_of_getElem? hu)
      have hul : u.length ≤ 3 := by omega
      have hfl := flat_len h3 ((lastW r i).take j)
      have htl : ((lastW r i).take j).length ≤ 216 := by rw [List.length_take]; omega
      have hwl := wnext_len h3 u
      refine s_asgL (xs := (((lastW r i).take j).flatMap (wnext r)).map tx ++ (wnext r u).map tx) (el_catV (ev_var rfl) hlo5 ?_ (by rw [List.length_map, List.length_map]; omega)) fun l2 H6 nl2 e6 hl2 => ⟨l2, _, _, rfl, e5.trans e6, ?_⟩
      · have em : (wnext r u).map tx = ((lets r).filter (wkeep u)).map fun l => tx (u ++ [l]) := by
          unfold wnext
          rw [List.map_map]
          rfl
        rw [em]
        exact el_lcWc (wkeep u) (fun l => tx (u ++ [l])) (ev_fd r (ea_cons (ev_var rfl) ea_nil) rfl fun _ _ => ⟨h1, h3⟩) (by rw [lets_len r h3]; omega) (fun _ => rfl)
          (fun l H7 e7 hl => et_test (ev_op (ev_lastcut (ev_var rfl) (by omega)) (ev_fd l (ea_cons (ev_var rfl) ea_nil) rfl fun _ _ => trivial) rv_neW))
          (fun l H7 e7 hl => ev_addW (ev_var rfl) (ev_var rfl) (by show u.length + 1 ≤ _; omega))
      · rw [hl2, List.take_add_one, hu, List.flatMap_append, List.map_append]
        simp
    · rintro σ H5 ⟨lo, y6, y7, rfl, e5, hlo5⟩
      rw [List.length_map, List.take_length] at hlo5
      have hlo5' : H5 lo = some (.lst ((lastW r (i + 1)).map tx)) := hlo5
      have k1 := rowsW_len (r := r) h3 i (by omega)
      have k2 := Nat.le_trans (lastW_len (r := r) h3 (i + 1) (by omega)) (pow6_le (by omega))
      refine q_asgL (xs := (rowsW r i).map tx ++ (lastW r (i + 1)).map tx) (el_catVV (ev_var rfl) (e5 _ _ hra3) (ev_var rfl) hlo5' (by rw [List.length_map, List.length_map]; omega)) fun r2 H6 nr2 e6 hr2 => ?_
      refine s_asg (ev_var rfl) fun H7 e7 => ⟨r2, lo, _, _, _, _, rfl, e3.trans (e5.trans (e6.trans e7)), ?_, e7 _ _ (e6 _ _ hlo5')⟩
      rw [e7 _ _ hr2, ← List.map_append]
      rfl
  · rintro σ H3 ⟨ra, la, y4, y5, y6, y7, rfl, e3, hra3, hla3⟩
    exact s_ret (ev_var rfl) fun H4 e4 => q _ _ ⟨e3.trans e4, ra, rfl, e4 _ _ hra3⟩
end
end FwK
end

section
set_option Elab.async false
set_option linter.all false
set_option maxRecDepth 100000
set_option maxHeartbeats 2000000
namespace FwK
open PySem PySem.Spec PyProof.Rows L2 Evl Fw FwR
section
variable {P : Program} {w : World} {K : PySem.W.Frag} {mg : Str → Option Value} {base : Heap} {σ : L2.St} {H H' : Hp} {ta tb te : TE} {tt : TT}
theorem range_filter {α β : Type} (xs : List α) (d : α) (c : α → Bool) (f : α → β) : ((List.range xs.length).filter fun i => c (xs.getD i d)).map (fun i => f (xs.getD i d)) = (xs.filter c).map f := by
  have h : (List.range xs.length).map (fun i => xs.getD i d) = xs := by
    have := range_map xs (fun i => xs.getD i d) id fun i x hi => by
      rw [List.getD_eq_getElem?_getD, hi]
      rfl
    rw [List.map_id] at this
    exact this
  have h2 : (((List.range xs.length).map fun i => xs.getD i d).filter c).map f = (xs.filter c).map f := by rw [h]
  rw [List.filter_map, List.map_map] at h2
  exact h2
theorem el_lcE {a : Addr} {bs : List Addr} {es : List Edge} {tl : TE} {vs : List Nat} {i j l : Nat} (c : Edge → Bool) (f : Edge → V) (h : Ev tl σ H (.ref a)) (hx : H a = some (.lst (bs.map V.ref))) (hE : Egs H bs es) (hz : es.length ≤ 100000)
    (hw : ∀ x y z, wipe ((((wipe σ vs).set i (some x)).set j (some y)).set l (some z)) vs = wipe σ vs)
    (ht : ∀ e H2, Ex H H2 → e ∈ es → EvT tt ((((wipe σ vs).set i (some (.int (e.1 : Int)))).set j (some (tx [e.2.1]))).set l (some (.int (e.2.2 : Int)))) H2 (c e))
    (he : ∀ e H2, Ex H H2 → e ∈ es → Ev te ((((wipe σ vs).set i (some (.int (e.1 : Int)))).set j (some (tx [e.2.1]))).set l (some (.int (e.2.2 : Int)))) H2 (f e)) :
    EvL (tLc (iList K tl) (gTup K 3 (gCons (gName i) (gCons (gName j) (gCons (gName l) gNil)))) tt te vs) σ H ((es.filter c).map f) := by
  have hl := pd_len hE
  have h1 := el_lcLst (K := K) (te := te) (tt := tt) (vs := vs) (g := gTup K 3 (gCons (gName i) (gCons (gName j) (gCons (gName l) gNil)))) (fun k => c (es.getD k (0, .a, 0))) (fun k => f (es.getD k (0, .a, 0))) h hx (by rw [List.length_map]; omega) fun k x H2 Q hi e2 kk => by
    obtain ⟨b, e, rfl, hxe, hEb⟩ := eg_item hE hi
    have hd : es.getD k (0, .a, 0) = e := by rw [List.getD_eq_getElem?_getD, hxe]; rfl
    have hm : e ∈ es := List.mem_of_getElem? hxe
    refine g3 (e2 _ _ hEb) (kk _ (hw _ _ _) ?_ fun _ => ?_)
    · rw [hd]
      exact ht e H2 e2 hm
    · rw [hd]
      exact he e H2 e2 hm
  rw [List.length_map, hl, range_filter] at h1
  exact h1
theorem ev_isup {l : Let} (h : Ev ta σ H (tx [l])) : Ev (tBM0 K "str" (fun x xs H Q => ∃ a, x = .str a ∧ xs = [] ∧ True ∧ Q (.bl (Txt.isupper a)) H) ta) σ H (.bl (!l.small)) := fun H1 e Q q =>
  h H1 e _ fun H2 e2 => ⟨rfl, T [l], rfl, rfl, trivial, by rw [T_isup]; exact q H2 e2⟩
theorem stp_small {es : List Edge} {h : Nat} {x : Let} (hx : x.small = true) : ((es.filter fun e => decide (e.1 = h) && decide ([e.2.1] = [x])).map fun e => e.2.2).head? = Fw.stp es h x := by
  unfold Fw.stp
  rw [if_pos hx, List.head?_map, List.head?_filter]
  congr 2
  funext e
  by_cases h1 : e.1 = h <;> by_cases h2 : e.2.1 = x <;> simp [h1, h2]
theorem stp_big {es : List Edge} {h : Nat} {x : Let} (hx : x.small = false) : ((es.filter fun e => decide (e.2.2 = h) && decide ([e.2.1] = [x.low])).map fun e => e.1).head? = Fw.stp es h x := by
  unfold Fw.stp
  rw [if_neg (by rw [hx]; decide), List.head?_map, List.head?_filter, Let.low_of_big hx]
  congr 2
  funext e
  by_cases h1 : e.2.2 = h <;> by_cases h2 : e.2.1 = x.flip <;> simp [h1, h2]
abbrev spWalk : Sp := spE (fun i : (V × List Edge) × Word => [i.1.1, tx i.2]) (fun i H => EL H i.1.1 i.1.2 ∧ i.1.2.length ≤ 1000 ∧ i.2.length ≤ 1000) (fun i v _ => v = oV (walk (Fw.stp i.1.2) 0 i.2))
theorem ok_law_walk (B : Bs mg) (F : Fx K mg "_law_walk" s_law_walk pn_law_walk) : Fd P w K mg base "_law_walk" pn_law_walk 1 spWalk := by
  refine F.fd sc_law_walk (fun _ => rfl) fun i f cdv A outer s H Q hr hp q E => ?_
  refine ⟨_, (pss_cons (ps_asg pe_int (pg_name (i := 2) sc_law_walk.nd rfl (Or.inr rfl)))
    (pss_cons (ps_for PassesOwn.never rfl (pi_str (pv 1)) (pg_name (i := 3) sc_law_walk.nd rfl (Or.inr rfl)) (pss_cons (ps_setLc (i := 4) (own := [("_law_start", 5), ("_law_own", 6), ("_law_end", 7)]) (g := (gTup K 3 (gCons (gName 5) (gCons (gName 6) (gCons (gName 7) gNil))))) rfl sc_law_walk.nd rfl rfl (sw_true rfl rfl rfl (by decide +kernel)) (pi_list (pv 0)) (blkOk_by (N := nm_law_walk) (sc := defScope s_law_walk) (by decide +kernel)) (fun _ _ _ _ _ => (pg_tup rfl (pgs_cons (pg_name (i := 5) sc_law_walk.nd rfl (Or.inl rfl)) (pgs_cons (pg_name (i := 6) sc_law_walk.nd rfl (Or.inl rfl)) (pgs_cons (pg_name (i := 7) sc_law_walk.nd rfl (Or.inl rfl)) pgs_nil))))) (fun _ _ _ _ _ => (pts_one (PW.pt (pw_and (pt_cmpR op_eq (pv 5) (pv 2) (nomark _)) (pw_and1 (pt_cmpR op_eq (pv 6) (pv 3) (nomark _))))))) (fun _ _ _ _ _ => (pv 7)))
    (pss_cons (ps_if (pt_val (pe_bm0K K rfl (pe_bm0 PySem.F.plainAttrs_str PySem.F.slot_str_isupper PySem.F.type_str_isupper mt_isupper (pv 3)))) (pss_one (ps_setLc (i := 4) (own := [("_law_start", 5), ("_law_own", 6), ("_law_end", 7)]) (g := (gTup K 3 (gCons (gName 5) (gCons (gName 6) (gCons (gName 7) gNil))))) rfl sc_law_walk.nd rfl rfl (sw_true rfl rfl rfl (by decide +kernel)) (pi_list (pv 0)) (blkOk_by (N := nm_law_walk) (sc := defScope s_law_walk) (by decide +kernel)) (fun _ _ _ _ _ => (pg_tup rfl (pgs_cons (pg_name (i := 5) sc_law_walk.nd rfl (Or.inl rfl)) (pgs_cons (pg_name (i := 6) sc_law_walk.nd rfl (Or.inl rfl)) (pgs_cons (pg_name (i := 7) sc_law_walk.nd rfl (Or.inl rfl)) pgs_nil))))) (fun _ _ _ _ _ => (pts_one (PW.pt (pw_and (pt_cmpR op_eq (pv 7) (pv 2) (nomark _)) (pw_and1 (pt_cmpR op_eq (pv 6) (pe_lower (pv 3)) (nomark _))))))) (fun _ _ _ _ _ => (pv 5)))) pss_nil)
    (pss_cons (ps_if (pt_not (pt_truth (pv 4) (by intro _; rfl))) (pss_one (ps_ret pe_non)) pss_nil)
    (pss_one (ps_asg (pe_ix (r := rIxL K) ix_list (pv 4) pe_int (fun _ _ => rfl)) (pg_name (i := 2) sc_law_walk.nd rfl (Or.inr rfl))))))))
    (pss_one (ps_ret (pv 2))))), ?_⟩
  obtain ⟨⟨v, es⟩, u⟩ := i
  obtain ⟨hE, hz, hu⟩ := hp
  replace hz : es.length ≤ 1000 := hz
  replace hu : u.length ≤ 1000 := hu
  obtain ⟨a, bs, ev, ha, hE⟩ := hE
  replace ev : v = .ref a := ev
  subst ev
  replace hE : Egs H bs es := hE
  replace q : ∀ v H', (Ex H H' ∧ v = oV (walk (Fw.stp es) 0 u)) → Q v H' := q
  refine q_asg ev_c fun H1 e1 => ?_
  refine q_forW (w := u) (ev_var rfl) (fun j σ H2 => ∃ (h : Nat) (y3 y4 y5 y6 y7 : Option V), σ = [some (.ref a), some (tx u), some (.int (h : Int)), y3, y4, y5, y6, y7] ∧ Ex H H2 ∧ walk (Fw.stp es) 0 (u.take j) = some h) ?_ ?_ ?_
  · intro H2 e2
    exact ⟨0, _, _, _, _, _, rfl, e1.trans e2, rfl⟩
  · rintro j x σ H2 hj ⟨h, y3, y4, y5, y6, y7, rfl, e2, hwk⟩
    have hju := (List.getElem?_eq_some_iff.mp hj).1
    have tk : u.take (j + 1) = u.take j ++ [x] := by rw [List.take_add_one, hj]; rfl
    have hE2 := hE.keep (Tk.of e2)
    refine q_asgL (el_lcE (K := K) (fun e => decide (e.1 = h) && decide ([e.2.1] = [x])) (fun e => .int (e.2.2 : Int)) (ev_var rfl) (e2 _ _ ha) hE2 (by omega) (fun _ _ _ => rfl) (fun e H3 e3 he => ?_) fun e H3 e3 he => ev_var rfl) fun th H3 nth e3 hth => ?_
    · exact et_and (et_test (ev_is (ev_op (ev_var rfl) (ev_var rfl) rv_eqI) (by congr 1; exact decide_eq_decide.mpr (by omega)))) fun _ => et_test (ev_op (ev_var rfl) (ev_var rfl) rv_eqW)
    have rest : ∀ (th : Addr) (ws : List Nat) (y5 y6 y7 : Option V) (H4 : Hp), Ex H H4 → H4 th = some (.lst (ws.map fun k : Nat => V.int (k : Int))) → ws.head? = Fw.stp es h x →
        tSeq (tIfS (tNot (fun σ H Q => tVar 4 σ H fun x H' => ∃ k, TruV K x H' k ∧ Q k H')) (tRet (tC .non)) tNext) (tAsg (tOp (rIxL K) (tVar 4) (tC (.int 0))) (gName 2)) { nx := fun σ H2 => ∃ (h : Nat) (y3 y4 y5 y6 y7 : Option V), σ = [some (.ref a), some (tx u), some (.int (h : Int)), y3, y4, y5, y6, y7] ∧ Ex H H2 ∧ walk (Fw.stp es) 0 (u.take (j + 1)) = some h, rt := Q, ct := fun σ H2 => ∃ (h : Nat) (y3 y4 y5 y6 y7 : Option V), σ = [some (.ref a), some (tx u), some (.int (h : Int)), y3, y4, y5, y6, y7] ∧ Ex H H2 ∧ walk (Fw.stp es) 0 (u.take (j + 1)) = some h, bk := fun σ H2 => tRet (tVar 2) { nx := fun _ H' => Q .non H', rt := Q } σ H2 } [some (.ref a), some (tx u), some (.int (h : Int)), some (tx [x]), some (.ref th), y5, y6, y7] H4 := fun th ws y5 y6 y7 H4 e4 h4 hst => by
      cases ws with
      | nil =>
        refine q_when (b := true) (et_is (et_not (et_tru (K := K) (ev_var rfl) h4)) rfl) (fun _ H5 e5 => s_ret ev_c fun H6 e6 => q _ _ ⟨e4.trans (e5.trans e6), ?_⟩) fun h => absurd h (by decide)
        have hn : walk (Fw.stp es) 0 u = none := by
          cases hh : walk (Fw.stp es) 0 u with
          | none => rfl
          | some k =>
            obtain ⟨k2, hk2⟩ := walk_take hh (j + 1)
            rw [tk] at hk2
            obtain ⟨k3, hk3, hk4⟩ := walk_unsnoc hk2
            rw [hwk] at hk3
            cases hk3
            rw [← hst] at hk4
            cases hk4
        rw [hn]
        rfl
      | cons k rest =>
        have hs1 : Fw.stp es h x = some k := hst.symm
        refine q_when (b := false) (et_is (et_not (et_tru (K := K) (ev_var rfl) h4)) rfl) (fun h => absurd h (by decide)) fun _ H5 e5 => ?_
        refine s_asg (ev_ixl (K := K) (j := 0) (ev_var rfl) ev_c (e5 _ _ h4) rfl) fun H6 e6 => ⟨k, _, _, _, _, _, rfl, e4.trans (e5.trans e6), ?_⟩
        rw [tk]
        exact walk_snoc hwk hs1
    cases hsm : x.small with
    | true =>
      refine q_when (b := false) (et_is (et_test (ev_isup (K := K) (ev_var rfl))) (by rw [hsm]; rfl)) (fun h => absurd h (by decide)) fun _ H4 e4 => ?_
      refine rest th ((es.filter fun e => decide (e.1 = h) && decide ([e.2.1] = [x])).map fun e => e.2.2) _ _ _ H4 (e2.trans (e3.trans e4)) ?_ (stp_small hsm)
      rw [e4 _ _ hth, List.map_map]
      rfl
    | false =>
      refine q_when (b := true) (et_is (et_test (ev_isup (K := K) (ev_var rfl))) (by rw [hsm]; rfl)) (fun _ H4 e4 => ?_) fun h => absurd h (by decide)
      have e24 := e2.trans (e3.trans e4)
      refine s_asgL (el_lcE (K := K) (fun e => decide (e.2.2 = h) && decide ([e.2.1] = [x.low])) (fun e => .int (e.1 : Int)) (ev_var rfl) (e24 _ _ ha) (hE.keep (Tk.of e24)) (by omega) (fun _ _ _ => rfl) (fun e H3 e3 he => ?_) fun e H3 e3 he => ev_var rfl) fun t2 H5 nt2 e5 ht2 => ?_
      · exact et_and (et_test (ev_is (ev_op (ev_var rfl) (ev_var rfl) rv_eqI) (by congr 1; exact decide_eq_decide.mpr (by omega)))) fun _ => et_test (ev_op (ev_var rfl) (ev_low (ev_var rfl)) rv_eqW)
      refine rest t2 ((es.filter fun e => decide (e.2.2 = h) && decide ([e.2.1] = [x.low])).map fun e => e.1) _ _ _ H5 (e24.trans e5) ?_ (stp_big hsm)
      rw [ht2, List.map_map]
      rfl
  · rintro σ H2 ⟨h, y3, y4, y5, y6, y7, rfl, e2, hwk⟩
    rw [List.take_length] at hwk
    exact s_ret (ev_var rfl) fun H3 e3 => q _ _ ⟨e2.trans e3, by rw [hwk]; rfl⟩
end
end FwK
end

section
set_option Elab.async false
set_option linter.all false
set_option maxRecDepth 100000
set_option maxHeartbeats 2000000
namespace FwK
open PySem PySem.Spec PyProof.Rows L2 Evl Fw FwR
/-! ### half edges by name -/
def hk1 (names : List Nat) (e : Edge) : List Key := [.inl (nmd names e.1 : Int), .inr (T [e.2.1]), .inl 1]
def hk2 (names : List Nat) (e : Edge) : List Key := [.inl (nmd names e.2.2 : Int), .inr (T [e.2.1]), .inl 2]
def hvs (names : List Nat) (E : List Edge) : List (List Key × Nat) := E.flatMap fun e => [(hk1 names e, nmd names e.2.2), (hk2 names e, nmd names e.1)]
theorem hvs_get (names : List Nat) : ∀ {E : List Edge} {j : Nat} {e : Edge}, E[j]? = some e → (hvs names E)[2 * j]? = some (hk1 names e, nmd names e.2.2) ∧ (hvs names E)[2 * j + 1]? = some (hk2 names e, nmd names e.1)
  | f :: E, 0, e, h => by
    cases h
    exact ⟨rfl, rfl⟩
  | f :: E, j + 1, e, h => by
    have h1 := hvs_get names (E := E) (j := j) (e := e) (by simpa using h)
    have e1 : hvs names (f :: E) = (hk1 names f, nmd names f.2.2) :: (hk2 names f, nmd names f.1) :: hvs names E := rfl
    rw [e1, show 2 * (j + 1) = 2 * j + 1 + 1 from by omega]
    exact ⟨by rw [List.getElem?_cons_succ, List.getElem?_cons_succ]; exact h1.1, by rw [List.getElem?_cons_succ, List.getElem?_cons_succ]; exact h1.2⟩
theorem hvs_len (names : List Nat) : ∀ E : List Edge, (hvs names E).length = 2 * E.length
  | [] => rfl
  | f :: E => by
    have e1 : hvs names (f :: E) = (hk1 names f, nmd names f.2.2) :: (hk2 names f, nmd names f.1) :: hvs names E := rfl
    rw [e1, List.length_cons, List.length_cons, hvs_len names E, List.length_cons]
    omega
theorem hvs_mem {names : List Nat} {E : List Edge} {k : List Key} {x : Nat} : (k, x) ∈ hvs names E ↔ ∃ e ∈ E, (k = hk1 names e ∧ x = nmd names e.2.2) ∨ (k = hk2 names e ∧ x = nmd names e.1) := by
  unfold hvs
  rw [List.mem_flatMap]
  constructor
  · rintro ⟨e, he, h⟩
    refine ⟨e, he, ?_⟩
    simp only [List.mem_cons, List.not_mem_nil, or_false, Prod.mk.injEq] at h
    exact h
  · rintro ⟨e, he, h⟩
    refine ⟨e, he, ?_⟩
    simp only [List.mem_cons, List.not_mem_nil, or_false, Prod.mk.injEq]
    exact h
theorem hk1_inj {names : List Nat} {e f : Edge} (h : hk1 names e = hk1 names f) : nmd names e.1 = nmd names f.1 ∧ e.2.1 = f.2.1 := by
  unfold hk1 at h
  simp only [List.cons.injEq, Sum.inl.injEq, Sum.inr.injEq, and_true] at h
  have h2 := T_inj h.2
  injection h2 with h2
  exact ⟨by have := h.1; omega, h2⟩
theorem hk2_inj {names : List Nat} {e f : Edge} (h : hk2 names e = hk2 names f) : nmd names e.2.2 = nmd names f.2.2 ∧ e.2.1 = f.2.1 := by
  unfold hk2 at h
  simp only [List.cons.injEq, Sum.inl.injEq, Sum.inr.injEq, and_true] at h
  have h2 := T_inj h.2
  injection h2 with h2
  exact ⟨by have := h.1; omega, h2⟩
theorem hk12 {names : List Nat} {e f : Edge} (h : hk1 names e = hk2 names f) : False := by
  unfold hk1 hk2 at h
  simp only [List.cons.injEq, Sum.inl.injEq, Sum.inr.injEq, and_true] at h
  have := h.2.2
  omega
structure HI (hs : List (List Key × Nat)) (kvs : List (List Key × V)) : Prop where
  has : ∀ k x, (k, x) ∈ hs → valV kvs k = some (.int (x : Int))
  src : ∀ k v, valV kvs k = some v → ∃ x : Nat, (k, x) ∈ hs ∧ v = .int (x : Int)
  len : kvs.length ≤ hs.length
theorem HI.nil : HI [] [] := ⟨(fun k x h => by cases h), (fun k v h => by cases h), Nat.le_refl _⟩
theorem HI.put {hs : List (List Key × Nat)} {kvs : List (List Key × V)} {k : List Key} {v : Nat} (h : HI hs kvs) (hv : ∀ x : Nat, valV kvs k = some (.int (x : Int)) → x = v) : HI (hs ++ [(k, v)]) (putK kvs k (.int (v : Int))) where
  has := fun k' x hx => by
    rw [valV_put]
    by_cases e : k' = k
    · rw [if_pos e]
      rcases List.mem_append.mp hx with hx | hx
      · have := hv x (by rw [← e]; exact h.has _ _ hx)
        rw [this]
      · have h2 := List.mem_singleton.mp hx
        injection h2 with h3 h4
        rw [h4]
    · rw [if_neg e]
      rcases List.mem_append.mp hx with hx | hx
      · exact h.has _ _ hx
      · have h2 := List.mem_singleton.mp hx
        injection h2 with h3 h4
        exact absurd h3 e
  src := fun k' v' hx => by
    rw [valV_put] at hx
    by_cases e : k' = k
    · rw [if_pos e] at hx
      cases hx
      exact ⟨v, by rw [e]; simp, rfl⟩
    · rw [if_neg e] at hx
      obtain ⟨x, h1, h2⟩ := h.src _ _ hx
      exact ⟨x, List.mem_append_left _ h1, h2⟩
  len := by
    have h1 := h.len
    have h2 := length_putK kvs k (.int (v : Int))
    rw [List.length_append]
    show _ ≤ hs.length + 1
    omega
theorem clash_of {names : List Nat} {E : List Edge} {k : List Key} {x y : Nat} (hx : (k, x) ∈ hvs names E) (hy : (k, y) ∈ hvs names E) (hn : x ≠ y) : Clash E names x y := by
  obtain ⟨e, he, h1⟩ := hvs_mem.mp hx
  obtain ⟨f, hf, h2⟩ := hvs_mem.mp hy
  refine ⟨hn, e, he, f, hf, ?_⟩
  rcases h1 with ⟨k1, v1⟩ | ⟨k1, v1⟩ <;> rcases h2 with ⟨k2, v2⟩ | ⟨k2, v2⟩
  · obtain ⟨g1, g2⟩ := hk1_inj (k1.symm.trans k2)
    exact ⟨g2, .inl ⟨g1, v1, v2⟩⟩
  · exact (hk12 (k1.symm.trans k2)).elim
  · exact (hk12 (k2.symm.trans k1)).elim
  · obtain ⟨g1, g2⟩ := hk2_inj (k1.symm.trans k2)
    exact ⟨g2, .inr ⟨g1, v1, v2⟩⟩
theorem calm_of {names : List Nat} {E : List Edge} {kvs : List (List Key × V)} (h : HI (hvs names E) kvs) : Calm E names := fun e he f hf hl => by
  have e1 := h.has _ _ (hvs_mem.mpr ⟨e, he, .inl ⟨rfl, rfl⟩⟩)
  have e2 := h.has _ _ (hvs_mem.mpr ⟨e, he, .inr ⟨rfl, rfl⟩⟩)
  have f1 := h.has _ _ (hvs_mem.mpr ⟨f, hf, .inl ⟨rfl, rfl⟩⟩)
  have f2 := h.has _ _ (hvs_mem.mpr ⟨f, hf, .inr ⟨rfl, rfl⟩⟩)
  constructor
  · intro hn
    have hk : hk1 names e = hk1 names f := by unfold hk1; rw [hn, hl]
    rw [hk, f1] at e1
    have := V.int.inj (Option.some.inj e1)
    omega
  · intro hn
    have hk : hk2 names e = hk2 names f := by unfold hk2; rw [hn, hl]
    rw [hk, f2] at e2
    have := V.int.inj (Option.some.inj e2)
    omega
section
variable {P : Program} {w : World} {K : PySem.W.Frag} {mg : Str → Option Value} {base : Heap} {σ : L2.St} {H H' : Hp} {ta tb te tk tv td : TE} {tt : TT} {D : Ends} {tz : TS} {d : Addr} {kvs : List (List Key × V)} {k : List Key}
theorem ev_get2V {dv : V} {b : Addr} (hd : Ev td σ H (.ref d)) (hk : Ev tk σ H (.ref b)) (hb : H b = some (.tup (k.map kV))) (hx : Ev ta σ H dv) (h : H d = some (.dT kvs)) : Ev (tDGet2 td tk ta) σ H ((valV kvs k).getD dv) := fun H1 e1 Q q =>
  hd H1 e1 _ fun H2 e2 => ⟨d, rfl, .inr ⟨kvs, .inl (e2 _ _ (e1 _ _ h))⟩, hk H2 (e1.trans e2) _ fun H3 e3 => hx H3 ((e1.trans e2).trans e3) _ fun H4 e4 => ⟨_, dgT ((e2.trans (e3.trans e4)) _ _ (e1 _ _ h)) ((e2.trans (e3.trans e4)) _ _ (e1 _ _ hb)), q H4 ((e2.trans e3).trans e4)⟩⟩
theorem ev_getV {b : Addr} {v : V} (hd : Ev td σ H (.ref d)) (hk : Ev tk σ H (.ref b)) (hb : H b = some (.tup (k.map kV))) (h : H d = some (.dT kvs)) (hv : valV kvs k = some v) : Ev (tDGet td tk) σ H v := fun H1 e1 Q q =>
  hd H1 e1 _ fun H2 e2 => hk H2 (e1.trans e2) _ fun H3 e3 => ⟨d, v, rfl, by rw [← hv]; exact dgT ((e2.trans e3) _ _ (e1 _ _ h)) ((e2.trans e3) _ _ (e1 _ _ hb)), q H3 (e2.trans e3)⟩
theorem s_putV {b : Addr} {v : V} (hv : Ev tv σ H v) (hd : Ev td σ H (.ref d)) (hk : Ev tk σ H (.ref b)) (hb : H b = some (.tup (k.map kV))) (h : H d = some (.dT kvs)) (hl : kvs.length < 100000) (kk : ∀ H1, Ex H H1 → D.nx σ (upd H1 d (.dT (putK kvs k v)))) : sDPut td tk tv D σ H :=
  hv H (Ex.refl H) _ fun H1 e1 => hd H1 e1 _ fun H2 e2 => hk H2 (e1.trans e2) _ fun H3 e3 => ⟨d, _, rfl, DPut.t (((e1.trans e2).trans e3) _ _ h) (((e1.trans e2).trans e3) _ _ hb) (sz_lt hl), kk H3 ((e1.trans e2).trans e3)⟩
def ForAt (K : PySem.W.Frag) (a : Addr) (g : TG) (tb : TS) (D : Ends) (σ : L2.St) (H : Hp) : Prop := ∃ W : Nat → Nat → L2.St → Hp → Prop, (∃ m, W 0 m σ H) ∧ ∀ i m σ H, W i m σ H →
      ((Itl K a).stop i H ∧ D.nx σ H) ∨ ((Itl K a).go i H ∧ ∃ N : L2.St → Hp → Prop, (∀ σ' H', N σ' H' → ∃ m', m' < m ∧ W (i + 1) m' σ' H') ∧ ∀ x H', (Itl K a).yld i H x H' → g x σ H' fun σ2 H2 => tb { D with nx := N, ct := N, bk := D.nx } σ2 H2)
theorem run_forL {tl : TE} {g : TG} {tb : TS} (h : tl σ H fun x H1 => ∃ a, x = .ref a ∧ (∃ xs, SqL K H1 a xs) ∧ ForAt K a g tb D σ H1) : tFor (iList K tl) g tb D σ H := h
abbrev nmV (names : List Nat) : List V := names.map fun p : Nat => V.int (p : Int)
abbrev spClash : Sp := spE (fun i : (V × List Edge) × Addr × List Nat => [i.1.1, .ref i.2.1]) (fun i H => EL H i.1.1 i.1.2 ∧ H i.2.1 = some (.lst (nmV i.2.2)) ∧ i.1.2.length ≤ 1000 ∧ ∀ e ∈ i.1.2, e.1 < i.2.2.length ∧ e.2.2 < i.2.2.length)
  (fun i v H' => (v = .non ∧ Calm i.1.2 i.2.2) ∨ ∃ (p : Addr) (x y : Nat), v = .ref p ∧ H' p = some (.lst [.int (x : Int), .int (y : Int)]) ∧ Clash i.1.2 i.2.2 x y)
theorem ok_law_clash (B : Bs mg) (F : Fx K mg "_law_clash" s_law_clash pn_law_clash) : Fd P w K mg base "_law_clash" pn_law_clash 1 spClash := by
  refine F.fd sc_law_clash (fun _ => rfl) fun i f cdv A outer s H Q hr hp q E => ?_
  refine ⟨_, (pss_cons (ps_asg (pe_dnewT) (pg_name (i := 2) sc_law_clash.nd rfl (Or.inl rfl)))
    (pss_cons (ps_for PassesOwn.never rfl (pi_list (pv 0)) (pg_tup rfl (pgs_cons (pg_name (i := 3) sc_law_clash.nd rfl (Or.inl rfl)) (pgs_cons (pg_name (i := 4) sc_law_clash.nd rfl (Or.inl rfl)) (pgs_cons (pg_name (i := 5) sc_law_clash.nd rfl (Or.inl rfl)) pgs_nil)))) (pss_one (ps_for PassesOwn.never rfl (pi_list (pe_lst (pa_cons (pe_tup (pa_cons (pe_tup (pa_cons (pe_ix (r := rIxL K) ix_list (pv 1) (pv 3) (fun _ _ => rfl)) (pa_cons (pv 4) (pa_cons pe_int pa_nil)))) (pa_cons (pe_ix (r := rIxL K) ix_list (pv 1) (pv 5) (fun _ _ => rfl)) pa_nil))) (pa_cons (pe_tup (pa_cons (pe_tup (pa_cons (pe_ix (r := rIxL K) ix_list (pv 1) (pv 5) (fun _ _ => rfl)) (pa_cons (pv 4) (pa_cons pe_int pa_nil)))) (pa_cons (pe_ix (r := rIxL K) ix_list (pv 1) (pv 3) (fun _ _ => rfl)) pa_nil))) pa_nil)))) (pg_tup rfl (pgs_cons (pg_name (i := 6) sc_law_clash.nd rfl (Or.inl rfl)) (pgs_cons (pg_name (i := 7) sc_law_clash.nd rfl (Or.inl rfl)) pgs_nil))) (pss_cons (ps_if (pt_cmpR op_ne (pe_dget2 (hu_of hr) (pv 2) (pv 6) (pv 7) ⟨rfl, rfl, rfl, rfl⟩) (pv 7) (nomark _)) (pss_one (ps_ret (pe_lst (pa_cons (pe_dget (hu_of hr) (pv 2) (pv 6) (fun _ _ => rfl)) (pa_cons (pv 7) pa_nil))))) pss_nil)
    (pss_one (ps_dput (hu_of hr) (pv 2) (pv 6) (pv 7) rfl))))))
    (pss_one (ps_ret pe_non)))), ?_⟩
  obtain ⟨⟨v, es⟩, na, names⟩ := i
  obtain ⟨hE, hna, hz, hlt⟩ := hp
  replace hz : es.length ≤ 1000 := hz
  replace hna : H na = some (.lst (nmV names)) := hna
  replace hlt : ∀ e ∈ es, e.1 < names.length ∧ e.2.2 < names.length := hlt
  obtain ⟨ea, bs, ev, hea, hE⟩ := hE
  replace ev : v = .ref ea := ev
  subst ev
  replace hE : Egs H bs es := hE
  replace q : ∀ v H', (Ex H H' ∧ ((v = .non ∧ Calm es names) ∨ ∃ (p : Addr) (x y : Nat), v = .ref p ∧ H' p = some (.lst [.int (x : Int), .int (y : Int)]) ∧ Clash es names x y)) → Q v H' := q
  have hbl := pd_len hE
  have hnat : ∀ {p : Nat}, p < names.length → (nmV names)[p]? = some (.int (nmd names p : Int)) := fun {p} hp => by
    unfold nmV
    rw [List.getElem?_map, nmd_at hp]
    rfl
  refine q_newT fun sd H1 nsd e1 hsd => ?_
  refine q_forL (K := K) (a := ea) (xs := bs.map V.ref) (ev_var rfl) (sq_of (e1 _ _ hea)) (fun i σ H2 => ∃ (y3 y4 y5 y6 y7 : Option V) (kvs : List (List Key × V)), σ = [some (.ref ea), some (.ref na), some (.ref sd), y3, y4, y5, y6, y7] ∧ Ex H H2 ∧ H2 sd = some (.dT kvs) ∧ HI ((hvs names es).take (2 * i)) kvs) ?_ ?_ ?_ ?_
  · intro H2 e2
    exact ⟨_, _, _, _, _, [], rfl, e1.trans e2, e2 _ _ hsd, HI.nil⟩
  · rintro i σ H2 hi ⟨y3, y4, y5, y6, y7, kvs, rfl, e2, h2, hI⟩
    exact sq_of (e2 _ _ hea)
  · rintro i x σ H2 hx ⟨y3, y4, y5, y6, y7, kvs, rfl, e2, h2, hI⟩
    obtain ⟨b, e, rfl, hxe, hEb⟩ := eg_item hE hx
    have hil : i < es.length := (List.getElem?_eq_some_iff.mp hxe).1
    obtain ⟨hv1, hv2⟩ := hvs_get names hxe
    obtain ⟨lt1, lt2⟩ := hlt e (List.mem_of_getElem? hxe)
    refine g3 (e2 _ _ hEb) ?_
    have evn : ∀ {te : TE} {σ : L2.St} {p : Nat} {H3 : Hp}, Ex H2 H3 → σ[1]? = some (some (.ref na)) → Ev te σ H3 (.int (p : Int)) → p < names.length → Ev (tOp (rIxL K) (tVar 1) te) σ H3 (.int (nmd names p : Int)) := fun {te σ p H3} e3 hs hp hl =>
      ev_ixl (K := K) (ev_var hs) hp (e3 _ _ (e2 _ _ hna)) (hnat hl)
    refine run_forL (K := K) ?_
    refine run_lst (run_cons (run_tup (run_cons (eu_3 (ta := tOp (rIxL K) (tVar 1) (tVar 3)) (tb := tVar 4) (te := tC (.int 1)) (σ := [some (.ref ea), some (.ref na), some (.ref sd), some (.int (e.1 : Int)), some (tx [e.2.1]), some (.int (e.2.2 : Int)), y6, y7]) (evn (Ex.refl H2) rfl (ev_var rfl) lt1) (ev_var rfl) ev_c H2 (Ex.refl H2) _ fun k1 H3 nk1 e3 hk1' => run_cons (evn (te := tVar 5) (σ := [some (.ref ea), some (.ref na), some (.ref sd), some (.int (e.1 : Int)), some (tx [e.2.1]), some (.int (e.2.2 : Int)), y6, y7]) e3 rfl (ev_var rfl) lt2 H3 (Ex.refl H3) _ fun H4 e4 => run_nil ⟨Nat.le_of_ble_eq_true rfl, fun t1 nt1 => ?_⟩)))))
    have e5 := Ex.new (o := .tup [.ref k1, .int (nmd names e.2.2 : Int)]) nt1
    have ht1 : upd H4 t1 (.tup [.ref k1, .int (nmd names e.2.2 : Int)]) t1 = some (.tup [.ref k1, .int (nmd names e.2.2 : Int)]) := upd_same
    have hk15 := e5 _ _ (e4 _ _ hk1')
    generalize upd H4 t1 (.tup [.ref k1, .int (nmd names e.2.2 : Int)]) = H5 at e5 ht1 hk15 ⊢
    have e25 := e3.trans (e4.trans e5)
    refine run_cons (run_tup (run_cons (eu_3 (ta := tOp (rIxL K) (tVar 1) (tVar 5)) (tb := tVar 4) (te := tC (.int 2)) (σ := [some (.ref ea), some (.ref na), some (.ref sd), some (.int (e.1 : Int)), some (tx [e.2.1]), some (.int (e.2.2 : Int)), y6, y7]) (evn e25 rfl (ev_var rfl) lt2) (ev_var rfl) ev_c H5 (Ex.refl H5) _ fun k2 H6 nk2 e6 hk2' => run_cons (evn (te := tVar 3) (σ := [some (.ref ea), some (.ref na), some (.ref sd), some (.int (e.1 : Int)), some (tx [e.2.1]), some (.int (e.2.2 : Int)), y6, y7]) (e25.trans e6) rfl (ev_var rfl) lt1 H6 (Ex.refl H6) _ fun H7 e7 => run_nil ⟨Nat.le_of_ble_eq_true rfl, fun t2 nt2 => ?_⟩))))
    have e8 := Ex.new (o := .tup [.ref k2, .int (nmd names e.1 : Int)]) nt2
    have ht2 : upd H7 t2 (.tup [.ref k2, .int (nmd names e.1 : Int)]) t2 = some (.tup [.ref k2, .int (nmd names e.1 : Int)]) := upd_same
    have hk28 := e8 _ _ (e7 _ _ hk2')
    generalize upd H7 t2 (.tup [.ref k2, .int (nmd names e.1 : Int)]) = H8 at e8 ht2 hk28 ⊢
    have e58 := e6.trans (e7.trans e8)
    refine run_nil ⟨Nat.le_of_ble_eq_true rfl, fun l nl => ⟨l, rfl, ⟨_, sq_of upd_same⟩, ?_⟩⟩
    have e9 := Ex.new (o := .lst [.ref t1, .ref t2]) nl
    have hl9 : upd H8 l (.lst [.ref t1, .ref t2]) l = some (.lst [.ref t1, .ref t2]) := upd_same
    have items : ∀ (j : Nat) (x : V), [V.ref t1, V.ref t2][j]? = some x → ∃ (t kb : Addr) (k : List Key) (v : Nat), x = .ref t ∧ upd H8 l (.lst [.ref t1, .ref t2]) t = some (.tup [.ref kb, .int (v : Int)]) ∧ upd H8 l (.lst [.ref t1, .ref t2]) kb = some (.tup (k.map kV)) ∧ (hvs names es)[2 * i + j]? = some (k, v) := fun j x hj => by
      match j, hj with
      | 0, hj =>
        cases hj
        exact ⟨t1, k1, hk1 names e, nmd names e.2.2, rfl, e9 _ _ (e58 _ _ ht1), e9 _ _ (e58 _ _ hk15), hv1⟩
      | 1, hj =>
        cases hj
        exact ⟨t2, k2, hk2 names e, nmd names e.1, rfl, e9 _ _ ht2, e9 _ _ hk28, hv2⟩
    generalize upd H8 l (.lst [.ref t1, .ref t2]) = H9 at e9 hl9 items ⊢
    have e29 := e25.trans (e58.trans e9)
    have hsd9 := e29 _ _ h2
    have dsl : sd ≠ l := ne_of hsd9 hl9 (by intro z; cases z)
    refine for_list (K := K) (a := l) (xs := [.ref t1, .ref t2]) (fun j σ H10 => ∃ (y6 y7 : Option V) (kvs : List (List Key × V)), σ = [some (.ref ea), some (.ref na), some (.ref sd), some (.int (e.1 : Int)), some (tx [e.2.1]), some (.int (e.2.2 : Int)), y6, y7] ∧ Ex H H10 ∧ Tk H9 H10 ∧ H10 l = some (.lst [.ref t1, .ref t2]) ∧ H10 sd = some (.dT kvs) ∧ HI ((hvs names es).take (2 * i + j)) kvs) ?_ ?_ ?_ ?_
    · exact ⟨_, _, kvs, rfl, e2.trans e29, Tk.refl _, hl9, hsd9, hI⟩
    · rintro j σ H10 hj ⟨y6, y7, kvs, rfl, e10, k10, hl10, hs10, hI⟩
      exact sq_of hl10
    · rintro j x σ H10 hj ⟨y6, y7, kvs, rfl, e10, k10, hl10, hs10, hI⟩
      obtain ⟨t, kb, k, v, rfl, ht, hkb, hkv⟩ := items j x hj
      have ht' := k10 _ _ ht
      have hkb' := k10 _ _ hkb
      refine g2 ht' ?_
      have htk : (hvs names es).take (2 * i + (j + 1)) = (hvs names es).take (2 * i + j) ++ [(k, v)] := by
        rw [show 2 * i + (j + 1) = 2 * i + j + 1 from rfl, List.take_add_one, hkv]
        rfl
      have hkl : kvs.length ≤ 2000 := by
        have h1 := hI.len
        rw [List.length_take, hvs_len] at h1
        omega
      have put : ∀ H11, Ex H10 H11 → (∀ x : Nat, valV kvs k = some (.int (x : Int)) → x = v) → sDPut (tVar 2) (tVar 6) (tVar 7) { nx := fun σ H10 => ∃ (y6 y7 : Option V) (kvs : List (List Key × V)), σ = [some (.ref ea), some (.ref na), some (.ref sd), some (.int (e.1 : Int)), some (tx [e.2.1]), some (.int (e.2.2 : Int)), y6, y7] ∧ Ex H H10 ∧ Tk H9 H10 ∧ H10 l = some (.lst [.ref t1, .ref t2]) ∧ H10 sd = some (.dT kvs) ∧ HI ((hvs names es).take (2 * i + (j + 1))) kvs, rt := Q } [some (.ref ea), some (.ref na), some (.ref sd), some (.int (e.1 : Int)), some (tx [e.2.1]), some (.int (e.2.2 : Int)), some (.ref kb), some (.int (v : Int))] H11 := fun H11 e11 hvv => by
        refine s_putV (ev_var rfl) (ev_var rfl) (ev_var rfl) (e11 _ _ hkb') (e11 _ _ hs10) (by omega) fun H12 e12 => ⟨_, _, _, rfl, Ex.mut (e10.trans (e11.trans e12)) nsd, ?_, ?_, upd_same, ?_⟩
        · exact (k10.trans (Tk.of (e11.trans e12))).trans (Tk.updt (e12 _ _ (e11 _ _ hs10)))
        · rw [upd_ne dsl.symm]
          exact e12 _ _ (e11 _ _ hl10)
        · rw [htk]
          exact hI.put hvv
      cases hval : valV kvs k with
      | none =>
        refine q_when (b := false) (et_is (et_test (ev_op (ev_is (ev_get2V (k := k) (ev_var rfl) (ev_var rfl) hkb' (ev_var rfl) hs10) (by rw [hval]; rfl)) (ev_var rfl) rv_neI)) (by rw [decide_eq_true rfl]; rfl)) (fun h => absurd h (by decide)) fun _ H11 e11 => put H11 e11 fun x hx => by rw [hval] at hx; cases hx
      | some v' =>
        obtain ⟨x, hx, rfl⟩ := hI.src _ _ hval
        by_cases hxv : x = v
        · refine q_when (b := false) (et_is (et_test (ev_op (ev_is (ev_get2V (k := k) (ev_var rfl) (ev_var rfl) hkb' (ev_var rfl) hs10) (by rw [hval]; rfl)) (ev_var rfl) rv_neI)) (by rw [hxv, decide_eq_true rfl]; rfl)) (fun h => absurd h (by decide)) fun _ H11 e11 => put H11 e11 fun x' hx' => by
            rw [hval] at hx'
            have := V.int.inj (Option.some.inj hx')
            omega
        · refine q_when (b := true) (et_is (et_test (ev_op (ev_is (ev_get2V (k := k) (ev_var rfl) (ev_var rfl) hkb' (ev_var rfl) hs10) (by rw [hval]; rfl)) (ev_var rfl) rv_neI)) (by rw [decide_eq_false (by omega)]; rfl)) (fun _ H11 e11 => ?_) fun h => absurd h (by decide)
          refine s_retP (EvP.ofL (el_lst (ea_cons (ev_getV (k := k) (ev_var rfl) (ev_var rfl) (e11 _ _ hkb') (e11 _ _ hs10) hval) (ea_cons (ev_var rfl) ea_nil)) (Nat.le_of_ble_eq_true rfl))) fun v' H12 e12 ⟨p, hp1, hp2, hp3⟩ => q _ _ ⟨e10.trans (e11.trans e12), .inr ⟨p, x, v, hp1, hp3, ?_⟩⟩
          exact clash_of (List.mem_of_mem_take hx) (List.mem_of_getElem? hkv) hxv
    · rintro σ H10 ⟨y6, y7, kvs, rfl, e10, k10, hl10, hs10, hI⟩
      exact ⟨_, _, _, _, _, kvs, rfl, e10, hs10, hI⟩
  · rintro σ H2 ⟨y3, y4, y5, y6, y7, kvs, rfl, e2, h2, hI⟩
    rw [List.length_map, hbl, List.take_of_length_le (by rw [hvs_len]; omega)] at hI
    exact s_ret ev_c fun H3 e3 => q _ _ ⟨e2.trans e3, .inl ⟨rfl, calm_of hI⟩⟩
end
end FwK
end

section
set_option Elab.async false
set_option linter.all false
set_option maxRecDepth 100000
set_option maxHeartbeats 2000000
namespace FwK
open PySem PySem.Spec PyProof.Rows L2 Evl Fw FwR
section
variable {P : Program} {w : World} {K : PySem.W.Frag} {mg : Str → Option Value} {base : Heap} {σ : L2.St} {H H' : Hp} {ta tb te : TE} {t : TT} {tt : TT} {D : Ends} {tu tz : TS}
theorem q_ifSt {b : Bool} (h : EvT t σ H b) (σ' : L2.St) (h1 : b = true → ∀ H1, Ex H H1 → ∀ Q : L2.St → Hp → Prop, (∀ H2, Ex H1 H2 → Q σ' H2) → tu { D with nx := Q } σ H1) (h2 : b = false → σ' = σ) (k : ∀ H1, Ex H H1 → tz D σ' H1) : tSeq (tIfS t tu tNext) tz D σ H :=
  q_when h (fun hb H1 e1 => h1 hb H1 e1 _ fun H2 e2 => k H2 (e1.trans e2)) fun hb H1 e1 => by
    have := k H1 e1
    rw [h2 hb] at this
    exact this
theorem q_ifP {b : Bool} {i : Nat} {R : V → Hp → Prop} (h : EvT t σ H b) (h2 : b = false → ∃ v, σ = σ.set i (some v) ∧ ∀ H1, Ex H H1 → R v H1) (h1 : b = true → EvP te σ H R) (k : ∀ v H1, Ex H H1 → R v H1 → tz D (σ.set i (some v)) H1) : tSeq (tIfS t (tAsg te (gName i)) tNext) tz D σ H :=
  q_when h (fun hb H1 e1 => h1 hb H1 e1 _ fun v H2 e2 r => k v H2 (e1.trans e2) r) fun hb H1 e1 => by
    obtain ⟨v, hs, hr⟩ := h2 hb
    have := k v H1 e1 (hr H1 e1)
    rw [← hs] at this
    exact this
theorem el_listRg {n : Nat} (h : Ev te σ H (.int (n : Int))) (hn : n ≤ 100000) : EvL (tLstRg (tRg1 te)) σ H (nmV (List.range n)) := fun H1 e Q q =>
  h H1 e _ fun H2 e2 => ⟨n, rfl, RgOk.of_le (by omega) (by omega) (by omega) (by omega), fun l nl => q l _ (fresh_back e2 nl) (e2.trans (Ex.new nl)) (by
    rw [upd_same]
    unfold rgV nmV
    rw [show ((n : Int) - 0).toNat = n by omega]
    congr 2
    refine List.map_congr_left fun k _ => ?_
    rw [Int.zero_add])⟩
theorem el_lcN {a : Addr} {ns : List Nat} {tl : TE} {vs : List Nat} {j : Nat} (g : Nat → V) (h : Ev tl σ H (.ref a)) (hx : H a = some (.lst (nmV ns))) (hz : ns.length ≤ 100000) (hw : ∀ x, wipe ((wipe σ vs).set j (some x)) vs = wipe σ vs)
    (ht : ∀ (u : Nat) H2, Ex H H2 → Ev te ((wipe σ vs).set j (some (.int (u : Int)))) H2 (g u)) : EvL (tLc (iList K tl) (gName j) tYes te vs) σ H (ns.map g) := by
  have h1 := el_lcLst (K := K) (te := te) (tt := tYes) (vs := vs) (g := gName j) (fun _ => true) (fun i => g (ns.getD i 0)) h hx (by rw [List.length_map]; exact hz) fun i x H2 Q hi e2 k => by
    unfold nmV at hi
    rw [List.getElem?_map] at hi
    cases hu : ns[i]? with
    | none => rw [hu] at hi; cases hi
    | some u =>
      rw [hu] at hi
      cases hi
      refine k _ (hw _) et_yes fun _ => ?_
      have : ns.getD i 0 = u := by rw [List.getD_eq_getElem?_getD, hu]; rfl
      rw [this]
      exact ht u H2 e2
  rw [range_all, List.length_map, range_map ns (fun i => g (ns.getD i 0)) g fun i x hi => by
    rw [List.getD_eq_getElem?_getD, hi]
    rfl] at h1
  exact h1
theorem ev_max2L {p : Addr} {x y : Nat} (h : Ev ta σ H (.ref p)) (hp : H p = some (.lst [.int (x : Int), .int (y : Int)])) : Ev (tCB (rMax K) (tCons ta tNil)) σ H (.int ((max x y : Nat) : Int)) := fun H1 e Q q =>
  h H1 e _ fun H2 e2 => ⟨p, [(x : Int), (y : Int)], rfl, sq_of (e2 _ _ (e _ _ hp)), Nat.le_of_ble_eq_true rfl, fun m hm hy => by
    have h1 := hy (x : Int) (by simp)
    have h2 := hy (y : Int) (by simp)
    have h3 : m = (x : Int) ∨ m = (y : Int) := by simpa using hm
    have : m = ((max x y : Nat) : Int) := by omega
    rw [this]
    exact q H2 e2⟩
theorem ev_min2L {p : Addr} {x y : Nat} (h : Ev ta σ H (.ref p)) (hp : H p = some (.lst [.int (x : Int), .int (y : Int)])) : Ev (tCB (rMin K) (tCons ta tNil)) σ H (.int ((min x y : Nat) : Int)) := fun H1 e Q q =>
  h H1 e _ fun H2 e2 => ⟨p, [(x : Int), (y : Int)], rfl, sq_of (e2 _ _ (e _ _ hp)), Nat.le_of_ble_eq_true rfl, fun m hm hy => by
    have h1 := hy (x : Int) (by simp)
    have h2 := hy (y : Int) (by simp)
    have h3 : m = (x : Int) ∨ m = (y : Int) := by simpa using hm
    have : m = ((min x y : Nat) : Int) := by omega
    rw [this]
    exact q H2 e2⟩
theorem et_ninE {b f : Addr} {bs : List Addr} {e : Edge} {es : List Edge} (h1 : Ev ta σ H (.ref b)) (hb : Eg H b e) (h2 : Ev tb σ H (.ref f)) (hf : H f = some (.lst (bs.map V.ref))) (hE : Egs H bs es) : Ev (tOp (rNotInD K) ta tb) σ H (.bl (!decide (e ∈ es))) := fun H1 e1 Q q =>
  h1 H1 e1 _ fun H2 e2 => h2 H2 (e1.trans e2) _ fun H3 e3 => by
    have e13 := (e1.trans e2).trans e3
    have hsh : SeqAt.shaped (.list (es.map fun e => keysD (ek e))) = true := by
      have g1 : (PyData.list (es.map fun e => keysD (ek e))).canLay0 = true := by simp [PyData.canLay0, lay_edges]
      have g2 := depth_edges es
      have g3 : (PyData.list (es.map fun e => keysD (ek e))).depth ≤ 3 := by
        simp only [PyData.depth]
        omega
      unfold SeqAt.shaped
      rw [g1, decide_eq_true (by omega)]
      rfl
    refine ⟨keysD (ek e), es.map fun e => keysD (ek e), dp_tup (e13 _ _ hb), .lst (sq_of (e13 _ _ hf)) (dp_edges (hE.keep (Tk.of e13))), shaped_keys _ (kok_ek e), hsh, ?_⟩
    have hv : ((es.map fun e => keysD (ek e)).any fun z => PyData.eqv z (keysD (ek e))) = decide (e ∈ es) := by
      rw [List.any_map]
      have : ((fun z => PyData.eqv z (keysD (ek e))) ∘ fun e => keysD (ek e)) = fun g => decide (g = e) := by
        funext g
        exact eqv_keys g e
      rw [this]
      apply Bool.eq_iff_iff.mpr
      rw [List.any_eq_true, decide_eq_true_iff]
      constructor
      · rintro ⟨g, hg, h⟩
        rw [← of_decide_eq_true h]
        exact hg
      · intro h
        exact ⟨e, h, by simp⟩
    rw [hv]
    exact q H3 (e2.trans e3)
end
end FwK
end

section
set_option Elab.async false
set_option linter.all false
set_option maxRecDepth 100000
set_option maxHeartbeats 2000000
namespace FwK
open PySem PySem.Spec PyProof.Rows L2 Evl Fw FwR
section
variable {P : Program} {w : World} {K : PySem.W.Frag} {mg : Str → Option Value} {base : Heap} {σ : L2.St} {H H' : Hp} {ta tb te : TE} {t : TT} {tt : TT} {D : Ends} {tu tz : TS}
theorem Calm.not_clash {E : List Edge} {names : List Nat} {x y : Nat} (hc : Calm E names) (h : Clash E names x y) : False := by
  obtain ⟨hn, e, he, f, hf, hl, h | h⟩ := h
  · exact hn (by rw [h.2.1, h.2.2]; exact (hc e he f hf hl).mp h.1)
  · exact hn (by rw [h.2.1, h.2.2]; exact (hc e he f hf hl).mpr h.1)
abbrev spLFold : Sp := spE (fun i : Addr × List Word => [.ref i.1]) (fun i H => H i.1 = some (.tup (i.2.map tx)) ∧ i.2.length ≤ 4 ∧ ∀ u ∈ i.2, u.length ≤ 8)
  (fun i v H' => ∃ es, EL H' v es ∧ es.length ≤ 100 ∧ Smalls es ∧ Folded es ∧ ∀ w, walk (Fw.stp es) 0 (red w) = some 0 ↔ Gen i.2 w)
theorem ok_law_fold (B : Bs mg) (F : Fx K mg "_law_fold" s_law_fold pn_law_fold) (g_law_reduce : Fd P w K mg base "_law_reduce" pn_law_reduce 2 spRed) (g_law_clash : Fd P w K mg base "_law_clash" pn_law_clash 1 spClash) : Fd P w K mg base "_law_fold" pn_law_fold 3 spLFold := by
  refine F.fd sc_law_fold (fun _ => rfl) fun i f cdv A outer s H Q hr hp q E => ?_
  refine ⟨_, (pss_cons (ps_asg (pe_lst pa_nil) (pg_name (i := 1) sc_law_fold.nd rfl (Or.inl rfl)))
    (pss_cons (ps_asg pe_int (pg_name (i := 2) sc_law_fold.nd rfl (Or.inl rfl)))
    (pss_cons (ps_for PassesOwn.never rfl (pi_tup (pv 0)) (pg_name (i := 3) sc_law_fold.nd rfl (Or.inl rfl)) (pss_cons (ps_asg pe_int (pg_name (i := 4) sc_law_fold.nd rfl (Or.inl rfl)))
    (pss_cons (ps_asg (pe_fd g_law_reduce (hr.mono (by decide)) (by rfl) (pa_cons (pv 3) pa_nil)) (pg_name (i := 5) sc_law_fold.nd rfl (Or.inl rfl)))
    (pss_one (ps_for PassesOwn.never rfl (pi_range1 (by rfl) B.z_range (pa_cons (pe_callB (r := rLenX) call_len_str (by rfl) B.z_len PySem.boot_len (pa_cons (pv 5) pa_nil)) pa_nil)) (pg_name (i := 6) sc_law_fold.nd rfl (Or.inl rfl)) (pss_cons (ps_asg pe_int (pg_name (i := 7) sc_law_fold.nd rfl (Or.inl rfl)))
    (pss_cons (ps_if (pt_cmpR op_lt (pv 6) (pe_op op_sub (pe_callB (r := rLenX) call_len_str (by rfl) B.z_len PySem.boot_len (pa_cons (pv 5) pa_nil)) pe_int) (nomark _)) (pss_cons (ps_asg (pv 2) (pg_name (i := 7) sc_law_fold.nd rfl (Or.inl rfl)))
    (pss_one (ps_asg (pe_op op_add (pv 2) pe_int) (pg_name (i := 2) sc_law_fold.nd rfl (Or.inl rfl))))) pss_nil)
    (pss_cons (ps_asg (pe_tup (pa_cons (pv 4) (pa_cons (pe_ix ix_str (pv 5) (pv 6) (fun _ _ => rfl)) (pa_cons (pv 7) pa_nil)))) (pg_name (i := 8) sc_law_fold.nd rfl (Or.inl rfl)))
    (pss_cons (ps_if (pt_val (pe_bm0K K rfl (pe_bm0 PySem.F.plainAttrs_str PySem.F.slot_str_isupper PySem.F.type_str_isupper mt_isupper (pe_ix ix_str (pv 5) (pv 6) (fun _ _ => rfl))))) (pss_one (ps_asg (pe_tup (pa_cons (pv 7) (pa_cons (pe_lower (pe_ix ix_str (pv 5) (pv 6) (fun _ _ => rfl))) (pa_cons (pv 4) pa_nil)))) (pg_name (i := 8) sc_law_fold.nd rfl (Or.inl rfl)))) pss_nil)
    (pss_cons (ps_expr (pe_bmK K rfl (pe_bm PySem.F.plainAttrs_list PySem.F.slot_list_append PySem.F.type_list_append mt_append (pv 1) (pa_cons (pv 8) pa_nil))))
    (pss_one (ps_asg (pv 7) (pg_name (i := 4) sc_law_fold.nd rfl (Or.inl rfl))))))))))))))
    (pss_cons (ps_asg (pe_listRg rfl (by rfl) B.z_list (prg_1 (by rfl) B.z_range (pv 2))) (pg_name (i := 9) sc_law_fold.nd rfl (Or.inl rfl)))
    (pss_cons (ps_for PassesOwn.never rfl (pi_range1 (by rfl) B.z_range (pa_cons (pv 2) pa_nil)) (pg_name (i := 10) sc_law_fold.nd rfl (Or.inl rfl)) (pss_cons (ps_asg (pe_fd g_law_clash (hr.mono (by decide)) (by rfl) (pa_cons (pv 1) (pa_cons (pv 9) pa_nil))) (pg_name (i := 11) sc_law_fold.nd rfl (Or.inr rfl)))
    (pss_one (ps_if (pt_cmp (pc_notN (pv 11)) rfl) (pss_one (ps_setLc (i := 9) (own := [("_law_name", 16)]) (g := (gName 16)) rfl sc_law_fold.nd rfl rfl (sw_true rfl rfl rfl (by decide +kernel)) (pi_list (pv 9)) (blkOk_by (N := nm_law_fold) (sc := defScope s_law_fold) (by decide +kernel)) (fun _ _ _ _ _ => (pg_name (i := 16) sc_law_fold.nd rfl (Or.inl rfl))) (fun _ _ _ _ _ => pts_nil) (fun _ _ _ _ _ => (pe_ifExp (pt_cmpR op_eq (pv 16) (pe_callB (r := rMax K) (cr_max rfl) (by rfl) B.z_max (by decide +kernel) (pa_cons (pv 11) pa_nil)) (nomark _)) (pe_callB (r := rMin K) (cr_min rfl) (by rfl) B.z_min (by decide +kernel) (pa_cons (pv 11) pa_nil)) (pv 16))))) pss_nil))))
    (pss_cons (ps_asg (pe_lst pa_nil) (pg_name (i := 12) sc_law_fold.nd rfl (Or.inl rfl)))
    (pss_cons (ps_for PassesOwn.never rfl (pi_list (pv 1)) (pg_tup rfl (pgs_cons (pg_name (i := 13) sc_law_fold.nd rfl (Or.inl rfl)) (pgs_cons (pg_name (i := 14) sc_law_fold.nd rfl (Or.inl rfl)) (pgs_cons (pg_name (i := 15) sc_law_fold.nd rfl (Or.inl rfl)) pgs_nil)))) (pss_cons (ps_asg (pe_tup (pa_cons (pe_ix (r := rIxL K) ix_list (pv 9) (pv 13) (fun _ _ => rfl)) (pa_cons (pv 14) (pa_cons (pe_ix (r := rIxL K) ix_list (pv 9) (pv 15) (fun _ _ => rfl)) pa_nil)))) (pg_name (i := 8) sc_law_fold.nd rfl (Or.inl rfl)))
    (pss_one (ps_if (pt_cmpR (op_notInD (hu65 hr)) (pv 8) (pv 12) (by rfl)) (pss_one (ps_expr (pe_bmK K rfl (pe_bm PySem.F.plainAttrs_list PySem.F.slot_list_append PySem.F.type_list_append mt_append (pv 12) (pa_cons (pv 8) pa_nil))))) pss_nil))))
    (pss_one (ps_ret (pv 12)))))))))), ?_⟩
  obtain ⟨a, ws⟩ := i
  obtain ⟨ha, hwl, hwz⟩ := hp
  replace ha : H a = some (.tup (ws.map tx)) := ha
  replace hwl : ws.length ≤ 4 := hwl
  replace hwz : ∀ u ∈ ws, u.length ≤ 8 := hwz
  replace q : ∀ v H', (Ex H H' ∧ ∃ es, EL H' v es ∧ es.length ≤ 100 ∧ Smalls es ∧ Folded es ∧ ∀ w, walk (Fw.stp es) 0 (red w) = some 0 ↔ Gen ws w) → Q v H' := q
  refine q_asgL (el_lst ea_nil (Nat.zero_le _)) fun ea H1 nea e1 hea => ?_
  refine q_asg (v := .int ((1 : Nat) : Int)) ev_c fun H2 e2 => ?_
  refine q_forT (K := K) (a := a) (xs := ws.map tx) (ev_var rfl) (st_of ((e1.trans e2) _ _ ha)) (fun i σ H3 => ∃ (pre : List Word) (bs : List Addr) (es : List Edge) (y3 y4 y5 y6 y7 y8 : Option V), σ = [some (.ref a), some (.ref ea), some (.int (pre.length : Int)), y3, y4, y5, y6, y7, y8, none, none, none, none, none, none, none, none] ∧ Ex H H3 ∧ H3 ea = some (.lst (bs.map V.ref)) ∧ Egs H3 bs es ∧ LG ws ((ws.take i).map red) pre es ∧ pre.length ≤ 1 + 8 * i ∧ es.length ≤ 8 * i) ?_ ?_ ?_ ?_
  · intro H3 e3
    exact ⟨[[]], [], [], _, _, _, _, _, _, rfl, e1.trans (e2.trans e3), e3 _ _ (e2 _ _ hea), .nil, LG.start ws, by simp, by simp⟩
  · rintro i σ H3 hi ⟨pre, bs, es, y3, y4, y5, y6, y7, y8, rfl, e3, h3, hE, hG, hpl, hel⟩
    exact st_of (e3 _ _ ha)
  · rintro i x σ H3 hx ⟨pre0, bs0, es0, y3, y4, y5, y6, y7, y8, rfl, e3, h3, hE0, hG, hpl, hel⟩
    rw [List.getElem?_map] at hx
    cases hu : ws[i]? with
    | none => rw [hu] at hx; cases hx
    | some u =>
    rw [hu] at hx
    cases hx
    have hil : i < ws.length := (List.getElem?_eq_some_iff.mp hu).1
    have hum : u ∈ ws := List.mem_of_getElem? hu
    have hul := hwz u hum
    have hrl := red_len u
    have hgen : Gen ws (red u) := Gen.eqv (eqv_red u).symm (.mem hum)
    refine q_asg (v := .int ((0 : Nat) : Int)) ev_c fun H4 e4 => ?_
    refine q_asg (ev_fd u (ea_cons (ev_var rfl) ea_nil) rfl fun _ _ => by show u.length ≤ 1000; omega) fun H5 e5 => ?_
    have e35 := e4.trans e5
    obtain ⟨s', hs'⟩ : ∃ s', s' = red u := ⟨_, rfl⟩
    rw [← hs'] at hgen hrl
    rw [← hs']
    have tkr : (ws.take (i + 1)).map red = (ws.take i).map red ++ [s'] := by rw [List.take_add_one, hu, List.map_append, hs']; rfl
    refine s_forR1 (n := (s'.length : Int)) (ea_cons (ev_is (ev_lenS (s := T s') (ev_var rfl) (by rw [T_len]; omega)) (by rw [T_len])) ea_nil) ⟨by omega, by omega⟩ (fun j σ H6 => ∃ (pre : List Word) (bs : List Addr) (es : List Edge) (h : Nat) (y6 y7 y8 : Option V), σ = [some (.ref a), some (.ref ea), some (.int (pre.length : Int)), some (tx u), some (.int (h : Int)), some (tx s'), y6, y7, y8, none, none, none, none, none, none, none, none] ∧ Ex H H6 ∧ H6 ea = some (.lst (bs.map V.ref)) ∧ Egs H6 bs es ∧ LP ws ((ws.take i).map red) pre es s' j h ∧ (j = s'.length → h = 0) ∧ pre.length ≤ 1 + 8 * i + j ∧ es.length ≤ 8 * i + j) ?_ ?_ ?_
    · intro H6 e6
      exact ⟨pre0, bs0, es0, 0, _, _, _, rfl, e3.trans (e35.trans e6), e6 _ _ (e35 _ _ h3), hE0.keep (Tk.of (e35.trans e6)), LP.start hG s', fun _ => rfl, hpl, hel⟩
    · rintro j σ H6 hj ⟨pre, bs, es, h, y6, y7, y8, rfl, e6, h6, hE, hP, hh0, hpl, hel⟩
      have hjl : j < s'.length := by omega
      obtain ⟨x, hx⟩ : ∃ x, s'[j]? = some x := ⟨_, List.getElem?_eq_getElem hjl⟩
      obtain ⟨th, cnt, pre', hA, hB, hP', hpc, hth, hple⟩ : ∃ (th cnt : Nat) (pre' : List Word), (j + 1 < s'.length → th = pre.length ∧ cnt = pre.length + 1) ∧ (¬ j + 1 < s'.length → th = 0 ∧ cnt = pre.length) ∧ LP ws ((ws.take i).map red) pre' (es ++ [edg h x th]) s' (j + 1) th ∧ pre'.length = cnt ∧ (j + 1 = s'.length → th = 0) ∧ cnt ≤ pre.length + 1 := by
        by_cases hlt : j + 1 < s'.length
        · exact ⟨pre.length, pre.length + 1, pre ++ [s'.take (j + 1)], fun _ => ⟨rfl, rfl⟩, fun h => absurd hlt h, hP.more hx, by rw [List.length_append]; rfl, fun h => by omega, Nat.le_refl _⟩
        · exact ⟨0, pre.length, pre, fun h => absurd h hlt, fun _ => ⟨rfl, rfl⟩, hP.last hx (by omega) hgen, rfl, fun _ => rfl, by omega⟩
      refine q_asg (v := .int ((0 : Nat) : Int)) ev_c fun H7 e7 => ?_
      refine q_ifSt (b := decide ((j : Int) < (s'.length : Int) - 1)) (et_test (ev_op (ev_var rfl) (ev_op (ev_is (ev_lenS (s := T s') (ev_var rfl) (by rw [T_len]; omega)) (by rw [T_len])) ev_c rv_I0) rv_I0)) [some (.ref a), some (.ref ea), some (.int (cnt : Int)), some (tx u), some (.int (h : Int)), some (tx s'), some (.int (j : Int)), some (.int (th : Int)), y8, none, none, none, none, none, none, none, none] (fun hb H8 e8 Q2 q2 => ?_) (fun hb => ?_) fun H8 e8 => ?_
      · have hlt : j + 1 < s'.length := by
          have := of_decide_eq_true hb
          omega
        obtain ⟨g1, g2⟩ := hA hlt
        refine q_asg (v := .int (pre.length : Int)) (ev_var rfl) fun H9 e9 => s_asg (v := .int (cnt : Int)) (ev_is (ev_op (ev_var rfl) ev_c rv_I0) (by rw [g2]; rfl)) fun H10 e10 => ?_
        rw [g1] at q2
        exact q2 H10 (e9.trans e10)
      · have hlt : ¬ j + 1 < s'.length := by
          have := of_decide_eq_false hb
          omega
        obtain ⟨g1, g2⟩ := hB hlt
        rw [g1, g2]
        rfl
      refine q_asgP (EvP.ofU (eu_3 (ev_var rfl) (ev_char (ev_var rfl) (ev_var rfl) (by omega) hx) (ev_var rfl))) fun v9 H9 e9 ⟨p9, hv9, np9, hp9⟩ => ?_
      subst hv9
      have e79 := e7.trans (e8.trans e9)
      refine q_ifP (b := !x.small) (R := fun v H => ∃ p, v = .ref p ∧ Eg H p (edg h x th)) (et_test (ev_isup (K := K) (ev_char (ev_var rfl) (ev_var rfl) (by omega) hx))) (fun hb => ⟨.ref p9, rfl, fun H10 e10 => ⟨p9, rfl, ?_⟩⟩) (fun hb => EvP.imp (EvP.ofU (eu_3 (ev_var rfl) (ev_low (ev_char (ev_var rfl) (ev_var rfl) (by omega) hx)) (ev_var rfl))) fun v10 H10 e10 ⟨p10, hv10, np10, hp10⟩ => ⟨p10, hv10, ?_⟩) fun v10 H10 e10 ⟨p10, hv10, hp10⟩ => ?_
      · have hs : x.small = true := by
          cases hxs : x.small with
          | true => rfl
          | false => rw [hxs] at hb; cases hb
        unfold Eg edg
        rw [if_pos hs]
        exact e10 _ _ hp9
      · have hs : x.small = false := by
          cases hxs : x.small with
          | true => rw [hxs] at hb; cases hb
          | false => rfl
        unfold Eg edg
        rw [if_neg (by rw [hs]; decide), hp10, Let.low_of_big hs]
      · subst hv10
        have e610 := e79.trans e10
        have hpE := pd_len hE
        refine q_app (e610 _ _ h6) (ev_var rfl) (ev_var rfl) (by rw [List.length_map]; omega) fun H11 e11 => ?_
        have e611 := e610.trans e11
        have kk : Tk H11 (upd H11 ea (.lst (bs.map V.ref ++ [.ref p10]))) := Tk.updl (e611 _ _ h6)
        have hE' : Egs (upd H11 ea (.lst (bs.map V.ref ++ [.ref p10]))) (bs ++ [p10]) (es ++ [edg h x th]) := pd_app ((hE.keep (Tk.of e611)).keep kk) (.cons ((Eg.keep (Tk.of e11) hp10).keep kk) .nil)
        refine s_asg (ev_var rfl) fun H12 e12 => ⟨pre', bs ++ [p10], es ++ [edg h x th], th, _, _, _, by rw [hpc]; rfl, (Ex.mut (e6.trans e611) nea).trans e12, ?_, hE'.keep (Tk.of e12), hP', hth, by omega, by rw [List.length_append]; show es.length + 1 ≤ _; omega⟩
        rw [e12 _ _ upd_same, List.map_append]
        rfl
    · rintro σ H6 ⟨pre, bs, es, h, y6, y7, y8, rfl, e6, h6, hE, hP, hh0, hpl, hel⟩
      have hn : ((s'.length : Int)).toNat = s'.length := Int.toNat_natCast _
      rw [hn] at hP hh0 hpl hel
      have h0 := hh0 rfl
      rw [h0] at hP
      refine ⟨pre, bs, es, _, _, _, _, _, _, rfl, e6, h6, hE, ?_, by omega, by omega⟩
      rw [tkr]
      exact hP.close
  · rintro σ H3 ⟨pre, bs, es, y3, y4, y5, y6, y7, y8, rfl, e3, h3, hE, hG, hpl, hel⟩
    rw [List.length_map, List.take_length] at hG
    rw [List.length_map] at hpl hel
    have hn33 : pre.length ≤ 33 := by omega
    have he32 : es.length ≤ 32 := by omega
    have hpE := pd_len hE
    refine q_asgL (el_listRg (n := pre.length) (ev_var rfl) (by omega)) fun na0 H4 nna0 e4 hna0 => ?_
    refine q_forR1 (n := (pre.length : Int)) (ea_cons (ev_var rfl) ea_nil) ⟨by omega, by omega⟩ (fun i σ H5 => ∃ (na : Addr) (names : List Nat) (y10 y11 : Option V), σ = [some (.ref a), some (.ref ea), some (.int (pre.length : Int)), y3, y4, y5, y6, y7, y8, some (.ref na), y10, y11, none, none, none, none, none] ∧ Ex H3 H5 ∧ H5 na = some (.lst (nmV names)) ∧ NI ws pre names ∧ (Calm es names ∨ dcnt pre.length names + i ≤ pre.length)) ?_ ?_ ?_
    · intro H5 e5
      exact ⟨na0, List.range pre.length, _, _, rfl, e4.trans e5, e5 _ _ hna0, NI.start hG.pos, .inr (dcnt_le _ _)⟩
    · rintro i σ H5 hi ⟨na, names, y10, y11, rfl, e5, hna, hN, hC⟩
      have hlt : ∀ e ∈ es, e.1 < names.length ∧ e.2.2 < names.length := fun e he => by rw [hN.len]; exact hG.lt e he
      refine q_asgP (ep_fd ((.ref ea, es), na, names) (ea_cons (ev_var rfl) (ea_cons (ev_var rfl) ea_nil)) rfl fun H6 e6 => ⟨⟨ea, bs, rfl, e6 _ _ (e5 _ _ h3), hE.keep (Tk.of (e5.trans e6))⟩, e6 _ _ hna, by show es.length ≤ 1000; omega, hlt⟩) fun v H6 e6 hR => ?_
      rcases hR with ⟨hv, hcm⟩ | ⟨p, x, y, hv, hp, hcl⟩
      · subst hv
        exact s_when (b := false) (et_B (ev_is (ev_notN (ev_var rfl)) rfl)) (fun h => absurd h (by decide)) fun _ H7 e7 => ⟨na, names, _, _, rfl, e5.trans (e6.trans e7), e7 _ _ (e6 _ _ hna), hN, .inl hcm⟩
      · subst hv
        replace hcl : Clash es names x y := hcl
        have hd : dcnt pre.length names + i ≤ pre.length := by
          rcases hC with h | h
          · exact (Calm.not_clash h hcl).elim
          · exact h
        have hdj := dcnt_join hG hN hcl
        refine s_when (b := true) (et_B (ev_is (ev_notN (ev_var rfl)) rfl)) (fun _ H7 e7 => ?_) fun h => absurd h (by decide)
        refine s_asgL (xs := names.map fun q => V.int ((if q = max x y then min x y else q : Nat) : Int)) (el_lcN (K := K) (fun q => V.int ((if q = max x y then min x y else q : Nat) : Int)) (ev_var rfl) (e7 _ _ (e6 _ _ hna)) (by rw [hN.len]; omega) (fun _ => rfl) fun u H8 e8 => ?_) fun nb H8 nnb e8 hnb => ⟨nb, joinN x y names, _, _, rfl, e5.trans (e6.trans (e7.trans e8)), ?_, hN.join hG hcl, .inr (by omega)⟩
        · refine ev_if (b := decide (u = max x y)) (et_is (et_test (ev_op (ev_var rfl) (ev_max2L (K := K) (ev_var rfl) (e8 _ _ (e7 _ _ hp))) rv_eqI)) (decide_eq_decide.mpr (by omega))) (fun h => ev_is (ev_min2L (K := K) (ev_var rfl) (e8 _ _ (e7 _ _ hp))) ?_) (fun h => ev_is (ev_var rfl) ?_)
          · rw [if_pos (of_decide_eq_true h)]
          · rw [if_neg (of_decide_eq_false h)]
        · rw [hnb]
          unfold nmV joinN
          rw [List.map_map]
          rfl
    · rintro σ H5 ⟨na, names, y10, y11, rfl, e5, hna, hN, hC⟩
      have hcm : Calm es names := by
        rcases hC with h | h
        · exact h
        · have h1 := dcnt_pos hG hN
          have h2 : ((pre.length : Int)).toNat = pre.length := Int.toNat_natCast _
          rw [h2] at h
          omega
      have hlt : ∀ e ∈ es, e.1 < names.length ∧ e.2.2 < names.length := fun e he => by rw [hN.len]; exact hG.lt e he
      have hnat : ∀ {p : Nat}, p < names.length → (nmV names)[p]? = some (.int (nmd names p : Int)) := fun {p} hp => by
        unfold nmV
        rw [List.getElem?_map, nmd_at hp]
        rfl
      have e35 := e3.trans e5
      refine q_asgL (el_lst ea_nil (Nat.zero_le _)) fun fo H6 nfo e6 hfo => ?_
      have nfo' : H fo = none := fresh_back e35 nfo
      refine q_forL (K := K) (a := ea) (xs := bs.map V.ref) (ev_var rfl) (sq_of (e6 _ _ (e5 _ _ h3))) (fun i σ H7 => ∃ (y8 y13 y14 y15 : Option V) (cs : List Addr) (fs : List Edge), σ = [some (.ref a), some (.ref ea), some (.int (pre.length : Int)), y3, y4, y5, y6, y7, y8, some (.ref na), y10, y11, some (.ref fo), y13, y14, y15, none] ∧ Ex H5 H7 ∧ H7 fo = some (.lst (cs.map V.ref)) ∧ Egs H7 cs fs ∧ fs.length ≤ i ∧ ∀ e, e ∈ fs ↔ e ∈ (es.take i).map fun e => (nmd names e.1, e.2.1, nmd names e.2.2)) ?_ ?_ ?_ ?_
      · intro H7 e7
        exact ⟨_, _, _, _, [], [], rfl, e6.trans e7, e7 _ _ hfo, .nil, Nat.zero_le _, fun e => by simp⟩
      · rintro i σ H7 hi ⟨y8, y13, y14, y15, cs, fs, rfl, e7, h7, hF, hfl, hm⟩
        exact sq_of (e7 _ _ (e5 _ _ h3))
      · rintro i x σ H7 hx ⟨y8, y13, y14, y15, cs, fs, rfl, e7, h7, hF, hfl, hm⟩
        obtain ⟨b, e, rfl, hxe, hEb⟩ := eg_item (hE.keep (Tk.of e5)) hx
        have hil : i < es.length := (List.getElem?_eq_some_iff.mp hxe).1
        obtain ⟨lt1, lt2⟩ := hlt e (List.mem_of_getElem? hxe)
        refine g3 (e7 _ _ hEb) ?_
        obtain ⟨e', he'⟩ : ∃ e' : Edge, e' = (nmd names e.1, e.2.1, nmd names e.2.2) := ⟨_, rfl⟩
        refine q_asgP (R := fun v H => ∃ p, v = .ref p ∧ Eg H p e') (EvP.imp (EvP.ofU (eu_3 (ev_ixl (K := K) (ev_var rfl) (ev_var rfl) (e7 _ _ hna) (hnat lt1)) (ev_var rfl) (ev_ixl (K := K) (ev_var rfl) (ev_var rfl) (e7 _ _ hna) (hnat lt2)))) fun v H8 e8 ⟨p, hv, np, hp⟩ => ⟨p, hv, by rw [he']; exact hp⟩) fun v H8 e8 ⟨p, hv, hp⟩ => ?_
        subst hv
        have tk : (es.take (i + 1)).map (fun e => (nmd names e.1, e.2.1, nmd names e.2.2)) = (es.take i).map (fun e => (nmd names e.1, e.2.1, nmd names e.2.2)) ++ [e'] := by
          rw [List.take_add_one, hxe, List.map_append, he']
          rfl
        have hcl := pd_len hF
        refine s_when (b := !decide (e' ∈ fs)) (et_test (et_ninE (K := K) (ev_var rfl) hp (ev_var rfl) (e8 _ _ h7) (hF.keep (Tk.of e8)))) (fun hb H9 e9 => ?_) fun hb H9 e9 => ⟨_, _, _, _, cs, fs, rfl, e7.trans (e8.trans e9), e9 _ _ (e8 _ _ h7), hF.keep (Tk.of (e8.trans e9)), by omega, fun g => ?_⟩
        · refine s_app (e9 _ _ (e8 _ _ h7)) (ev_var rfl) (ev_var rfl) (by rw [List.length_map]; omega) fun H10 e10 => ?_
          have e710 := e8.trans (e9.trans e10)
          have kk : Tk H10 (upd H10 fo (.lst (cs.map V.ref ++ [.ref p]))) := Tk.updl (e710 _ _ h7)
          refine ⟨_, _, _, _, cs ++ [p], fs ++ [e'], rfl, Ex.mut (e7.trans e710) nfo, by rw [upd_same, List.map_append]; rfl, pd_app ((hF.keep (Tk.of e710)).keep kk) (.cons ((Eg.keep (Tk.of (e9.trans e10)) hp).keep kk) .nil), by rw [List.length_append]; show fs.length + 1 ≤ i + 1; omega, fun g => ?_⟩
          rw [tk, List.mem_append, List.mem_append, hm g]
        · have hin : e' ∈ fs := by
            cases hd : decide (e' ∈ fs) with
            | true => exact of_decide_eq_true hd
            | false => rw [hd] at hb; cases hb
          rw [tk, List.mem_append, hm g]
          constructor
          · exact fun h => .inl h
          · rintro (h | h)
            · exact h
            · rw [List.mem_singleton.mp h]
              exact (hm e').mp hin
      · rintro σ H7 ⟨y8, y13, y14, y15, cs, fs, rfl, e7, h7, hF, hfl, hm⟩
        rw [List.length_map, hpE] at hm hfl
        rw [List.take_length] at hm
        obtain ⟨d1, d2, d3⟩ := hG.done hN hcm (E' := fs) hm
        exact s_ret (ev_var rfl) fun H8 e8 => q _ _ ⟨e35.trans (e7.trans e8), fs, ⟨fo, cs, rfl, e8 _ _ h7, hF.keep (Tk.of e8)⟩, by omega, d1, d2, d3⟩
end
end FwK
end

section
set_option Elab.async false
set_option linter.all false
set_option maxRecDepth 100000
set_option maxHeartbeats 2000000
namespace FwK
open PySem PySem.Spec PyProof.Rows L2 Evl Fw FwR
section
variable {P : Program} {w : World} {K : PySem.W.Frag} {mg : Str → Option Value} {base : Heap} {σ : L2.St} {H H' : Hp} {ta tb te : TE} {t : TT} {tt : TT} {D : Ends} {tu tz : TS}
abbrev spBelongs : Sp := spE (fun i : (V × List Edge) × Word => [i.1.1, tx i.2]) (fun i H => EL H i.1.1 i.1.2 ∧ i.1.2.length ≤ 1000 ∧ i.2.length ≤ 1000) (fun i v _ => v = .bl (decide (walk (Fw.stp i.1.2) 0 (red i.2) = some 0)))
theorem ok_law_belongs (B : Bs mg) (F : Fx K mg "_law_belongs" s_law_belongs pn_law_belongs) (g_law_walk : Fd P w K mg base "_law_walk" pn_law_walk 1 spWalk) (g_law_reduce : Fd P w K mg base "_law_reduce" pn_law_reduce 2 spRed) : Fd P w K mg base "_law_belongs" pn_law_belongs 3 spBelongs := by
  refine F.fd sc_law_belongs (fun _ => rfl) fun i f cdv A outer s H Q hr hp q E => ?_
  refine ⟨_, (pss_one (ps_ret (pe_cmpR op_eq (pe_fd g_law_walk (hr.mono (by decide)) (by rfl) (pa_cons (pv 0) (pa_cons (pe_fd g_law_reduce (hr.mono (by decide)) (by rfl) (pa_cons (pv 1) pa_nil)) pa_nil))) pe_int (nomark _)))), ?_⟩
  obtain ⟨⟨v, es⟩, u⟩ := i
  obtain ⟨hE, hz, hu⟩ := hp
  replace hE : EL H v es := hE
  replace hz : es.length ≤ 1000 := hz
  replace hu : u.length ≤ 1000 := hu
  replace q : ∀ v H', (Ex H H' ∧ v = .bl (decide (walk (Fw.stp es) 0 (red u) = some 0))) → Q v H' := q
  have hrl := red_len u
  have hv : ∀ H1, RV rEq (oV (walk (Fw.stp es) 0 (red u))) (.int 0) H1 (.bl (decide (walk (Fw.stp es) 0 (red u) = some 0))) := fun H1 => by
    cases walk (Fw.stp es) 0 (red u) with
    | none => exact rv_eq rfl
    | some k =>
      have : decide (some k = some 0) = decide (V.int (k : Int) = V.int 0) := decide_eq_decide.mpr ⟨fun h => by cases h; rfl, fun h => by have := V.int.inj h; congr 1; omega⟩
      rw [this]
      exact rv_eq rfl
  exact s_ret (ev_op (ev_fd ((v, es), red u) (ea_cons (ev_var rfl) (ea_cons (ev_fd u (ea_cons (ev_var rfl) ea_nil) rfl fun _ _ => hu) ea_nil)) rfl fun H1 e1 => ⟨hE.keep e1, hz, by show (red u).length ≤ 1000; omega⟩) ev_c (hv _)) fun H1 e1 => q _ _ ⟨e1, rfl⟩
/-- folded edges tell of a subgroup -/
def Lo (es : List Edge) (ws : List Word) : Prop := es.length ≤ 100 ∧ ∀ w, walk (Fw.stp es) 0 (red w) = some 0 ↔ Gen ws w
abbrev GoI := ((V × List Edge) × (V × List Edge)) × (V × V) × (Nat × List Word × List Word) × Word
abbrev spGoes : Sp := spE (fun i : GoI => [i.1.1.1, i.1.2.1, i.2.1.1, i.2.1.2, tx i.2.2.2]) (fun i H => EL H i.1.1.1 i.1.1.2 ∧ Lo i.1.1.2 i.2.2.1.2.1 ∧ EL H i.1.2.1 i.1.2.2 ∧ Lo i.1.2.2 i.2.2.1.2.2 ∧ Fam H i.2.1.1 i.2.2.1.1 i.2.2.1.2.1 ∧ FamOk i.2.2.1.1 i.2.2.1.2.1 ∧ Fam H i.2.1.2 i.2.2.1.1 i.2.2.1.2.2 ∧ FamOk i.2.2.1.1 i.2.2.1.2.2 ∧ i.2.2.2.length ≤ 300)
  (fun i v _ => ∃ b, v = .bl b ∧ (b = true ↔ Conj (Gen i.2.2.1.2.1) (Gen i.2.2.1.2.2) i.2.2.2))
theorem ok_law_goes (B : Bs mg) (F : Fx K mg "_law_goes" s_law_goes pn_law_goes) (g_law_inverse : Fd P w K mg base "_law_inverse" pn_law_inverse 2 spInv) (g_law_belongs : Fd P w K mg base "_law_belongs" pn_law_belongs 3 spBelongs) : Fd P w K mg base "_law_goes" pn_law_goes 4 spGoes := by
  refine F.fd sc_law_goes (fun _ => rfl) fun i f cdv A outer s H Q hr hp q E => ?_
  refine ⟨_, (pss_cons (ps_asg (pe_fd g_law_inverse (hr.mono (by decide)) (by rfl) (pa_cons (pv 4) pa_nil)) (pg_name (i := 5) sc_law_goes.nd rfl (Or.inr rfl)))
    (pss_cons (ps_if (pt_not (pt_val (pe_callB (r := rAll K) (cr_all rfl) (by rfl) B.z_all (by decide +kernel) (pa_cons (pe_lc (own := [("_law_own", 6)]) (g := (gName 6)) rfl sc_law_goes.nd  (pi_tup (pe_ix (r := rIxT K) ix_tup (pv 3) pe_int (fun _ _ => rfl))) (blkOk_by (N := nm_law_goes) (sc := defScope s_law_goes) (by decide +kernel)) (fun _ _ _ _ _ => (pg_name (i := 6) sc_law_goes.nd rfl (Or.inl rfl))) (fun _ _ _ _ _ => pts_nil) (fun _ _ _ _ _ => (pe_fd g_law_belongs (hr.mono (by decide)) (by rfl) (pa_cons (pv 0) (pa_cons (pe_op op_add_str (pe_op op_add_str (pv 4) (pv 6)) (pv 5)) pa_nil))))) pa_nil)))) (pss_one (ps_ret pe_bl)) pss_nil)
    (pss_one (ps_ret (pe_callB (r := rAll K) (cr_all rfl) (by rfl) B.z_all (by decide +kernel) (pa_cons (pe_lc (own := [("_law_own", 6)]) (g := (gName 6)) rfl sc_law_goes.nd  (pi_tup (pe_ix (r := rIxT K) ix_tup (pv 2) pe_int (fun _ _ => rfl))) (blkOk_by (N := nm_law_goes) (sc := defScope s_law_goes) (by decide +kernel)) (fun _ _ _ _ _ => (pg_name (i := 6) sc_law_goes.nd rfl (Or.inl rfl))) (fun _ _ _ _ _ => pts_nil) (fun _ _ _ _ _ => (pe_fd g_law_belongs (hr.mono (by decide)) (by rfl) (pa_cons (pv 1) (pa_cons (pe_op op_add_str (pe_op op_add_str (pv 5) (pv 6)) (pv 4)) pa_nil))))) pa_nil)))))), ?_⟩
  obtain ⟨⟨⟨va, ea⟩, vb, eb⟩, ⟨f1, f2⟩, ⟨r, w1, w2⟩, g⟩ := i
  obtain ⟨hEa, hLa, hEb, hLb, hF1, ok1, hF2, ok2, hg⟩ := hp
  obtain ⟨p1, a1, ep1, hp1, ha1⟩ := id hF1
  obtain ⟨p2, a2, ep2, hp2, ha2⟩ := id hF2
  replace ep1 : f1 = .ref p1 := ep1
  replace ep2 : f2 = .ref p2 := ep2
  subst ep1 ep2
  replace hEa : EL H va ea := hEa
  replace hEb : EL H vb eb := hEb
  replace hLa : Lo ea w1 := hLa
  replace hLb : Lo eb w2 := hLb
  replace ok1 : FamOk r w1 := ok1
  replace ok2 : FamOk r w2 := ok2
  replace hg : g.length ≤ 300 := hg
  replace hp1 : H p1 = some (.tup [.int (r : Int), .ref a1]) := hp1
  replace hp2 : H p2 = some (.tup [.int (r : Int), .ref a2]) := hp2
  replace ha1 : H a1 = some (.tup (w1.map tx)) := ha1
  replace ha2 : H a2 = some (.tup (w2.map tx)) := ha2
  replace q : ∀ v H', (Ex H H' ∧ ∃ b, v = .bl b ∧ (b = true ↔ Conj (Gen w1) (Gen w2) g)) → Q v H' := q
  have hiv := inv_length g
  have l1 : ∀ u ∈ w1, u.length ≤ 8 := fun u hu => (ok1.2.2.2 u hu).2
  have l2 : ∀ u ∈ w2, u.length ≤ 8 := fun u hu => (ok2.2.2.2 u hu).2
  have n1 := ok1.2.2.1
  have n2 := ok2.2.2.1
  have z1 := hLa.1
  have z2 := hLb.1
  obtain ⟨c1, hc1⟩ : ∃ c : Word → Bool, c = fun own => decide (walk (Fw.stp ea) 0 (red (g ++ own ++ inv g)) = some 0) := ⟨_, rfl⟩
  obtain ⟨c2, hc2⟩ : ∃ c : Word → Bool, c = fun own => decide (walk (Fw.stp eb) 0 (red (inv g ++ own ++ g)) = some 0) := ⟨_, rfl⟩
  have t1 : (w2.map c1).all id = true ↔ ∀ v ∈ w2, Gen w1 (g ++ v ++ inv g) := by
    rw [List.all_map, List.all_eq_true]
    constructor
    · intro h v hv
      have := h v hv
      rw [hc1] at this
      exact (hLa.2 _).mp (of_decide_eq_true this)
    · intro h v hv
      show id (c1 v) = true
      rw [hc1]
      exact decide_eq_true ((hLa.2 _).mpr (h v hv))
  have t2 : (w1.map c2).all id = true ↔ ∀ v ∈ w1, Gen w2 (inv g ++ v ++ g) := by
    rw [List.all_map, List.all_eq_true]
    constructor
    · intro h v hv
      have := h v hv
      rw [hc2] at this
      exact (hLb.2 _).mp (of_decide_eq_true this)
    · intro h v hv
      show id (c2 v) = true
      rw [hc2]
      exact decide_eq_true ((hLb.2 _).mpr (h v hv))
  refine q_asg (ev_fd g (ea_cons (ev_var rfl) ea_nil) rfl fun _ _ => by show g.length ≤ 1000; omega) fun H1 e1 => ?_
  have m1 : (w2.map fun own => V.bl (c1 own)) = (w2.map c1).map V.bl := by rw [List.map_map]; rfl
  have m2 : (w1.map fun own => V.bl (c2 own)) = (w1.map c2).map V.bl := by rw [List.map_map]; rfl
  refine q_when (b := !(w2.map c1).all id) (et_not (et_test (ev_all (K := K) (by
    rw [← m1]
    exact el_lcWs (K := K) (fun own => V.bl (c1 own)) (ev_ixt (K := K) (j := 1) (ev_var rfl) ev_c (e1 _ _ hp2) rfl) (e1 _ _ ha2) (by omega) (fun _ => rfl) fun u H2 hu e2 => by
      rw [hc1]
      have := l2 u hu
      exact ev_fd ((va, ea), g ++ u ++ inv g) (ea_cons (ev_var rfl) (ea_cons (ev_addW (a := g ++ u) (b := inv g) (ev_addW (a := g) (b := u) (ev_var rfl) (ev_var rfl) (by omega)) (ev_var rfl) (by rw [List.length_append]; omega)) ea_nil)) rfl fun H3 e3 => ⟨hEa.keep (e1.trans (e2.trans e3)), by show ea.length ≤ 1000; omega, by show (g ++ u ++ inv g).length ≤ 1000; rw [List.length_append, List.length_append]; omega⟩)))) (fun hb H2 e2 => ?_) fun hb H2 e2 => ?_
  · refine s_ret ev_c fun H3 e3 => q _ _ ⟨e1.trans (e2.trans e3), false, rfl, ?_⟩
    constructor
    · intro h; cases h
    · intro h
      have h1 := t1.mpr (conj_iff.mp h).1
      rw [h1] at hb
      cases hb
  · have e12 := e1.trans e2
    refine s_ret (v := .bl ((w1.map c2).all id)) (ev_all (K := K) (by
      rw [← m2]
      exact el_lcWs (K := K) (fun own => V.bl (c2 own)) (ev_ixt (K := K) (j := 1) (ev_var rfl) ev_c (e12 _ _ hp1) rfl) (e12 _ _ ha1) (by omega) (fun _ => rfl) fun u H3 hu e3 => by
        rw [hc2]
        have := l1 u hu
        exact ev_fd ((vb, eb), inv g ++ u ++ g) (ea_cons (ev_var rfl) (ea_cons (ev_addW (a := inv g ++ u) (b := g) (ev_addW (a := inv g) (b := u) (ev_var rfl) (ev_var rfl) (by omega)) (ev_var rfl) (by rw [List.length_append]; omega)) ea_nil)) rfl fun H4 e4 => ⟨hEb.keep (e12.trans (e3.trans e4)), by show eb.length ≤ 1000; omega, by show (inv g ++ u ++ g).length ≤ 1000; rw [List.length_append, List.length_append]; omega⟩)) fun H3 e3 => q _ _ ⟨e12.trans e3, _, rfl, ?_⟩
    have hb1 : (w2.map c1).all id = true := by
      cases hh : (w2.map c1).all id with
      | true => rfl
      | false => rw [hh] at hb; cases hb
    constructor
    · exact fun h => conj_iff.mpr ⟨t1.mp hb1, t2.mp h⟩
    · exact fun h => t2.mpr (conj_iff.mp h).2
abbrev spLConjBy : Sp := spE (fun i : (V × V) × (Nat × List Word × List Word) × Word => [i.1.1, i.1.2, tx i.2.2]) (fun i H => Fam H i.1.1 i.2.1.1 i.2.1.2.1 ∧ FamOk i.2.1.1 i.2.1.2.1 ∧ Fam H i.1.2 i.2.1.1 i.2.1.2.2 ∧ FamOk i.2.1.1 i.2.1.2.2 ∧ i.2.2.length ≤ 300)
  (fun i v _ => ∃ b, v = .bl b ∧ (b = true ↔ Conj (Gen i.2.1.2.1) (Gen i.2.1.2.2) i.2.2))
theorem ep_lfold {p1 a1 : Addr} {r : Nat} {ws : List Word} (h : Ev ta σ H (.ref p1)) (hp : H p1 = some (.tup [.int (r : Int), .ref a1])) (ha : H a1 = some (.tup (ws.map tx))) (ok : FamOk r ws) : EvP (tCall spLFold [] E0 (tCons (tOp (rIxT K) ta (tC (.int 1))) tNil)) σ H (fun v H' => ∃ es, EL H' v es ∧ Lo es ws) :=
  EvP.imp (ep_fd (a1, ws) (ea_cons (ev_ixt (K := K) (j := 1) h ev_c hp rfl) ea_nil) rfl fun H1 e1 => ⟨e1 _ _ ha, ok.2.2.1, fun u hu => (ok.2.2.2 u hu).2⟩) fun v H1 e1 ⟨es, h1, h2, h3, h4, h5⟩ => ⟨es, h1, h2, h5⟩
theorem ok_law_is_conjugator (B : Bs mg) (F : Fx K mg "_law_is_conjugator" s_law_is_conjugator pn_law_is_conjugator) (g_law_goes : Fd P w K mg base "_law_goes" pn_law_goes 4 spGoes) (g_law_fold : Fd P w K mg base "_law_fold" pn_law_fold 3 spLFold) : Fd P w K mg base "_law_is_conjugator" pn_law_is_conjugator 5 spLConjBy := by
  refine F.fd sc_law_is_conjugator (fun _ => rfl) fun i f cdv A outer s H Q hr hp q E => ?_
  refine ⟨_, (pss_one (ps_ret (pe_fd g_law_goes (hr.mono (by decide)) (by rfl) (pa_cons (pe_fd g_law_fold (hr.mono (by decide)) (by rfl) (pa_cons (pe_ix (r := rIxT K) ix_tup (pv 0) pe_int (fun _ _ => rfl)) pa_nil)) (pa_cons (pe_fd g_law_fold (hr.mono (by decide)) (by rfl) (pa_cons (pe_ix (r := rIxT K) ix_tup (pv 1) pe_int (fun _ _ => rfl)) pa_nil)) (pa_cons (pv 0) (pa_cons (pv 1) (pa_cons (pv 2) pa_nil)))))))), ?_⟩
  obtain ⟨⟨f1, f2⟩, ⟨r, w1, w2⟩, g⟩ := i
  obtain ⟨hF1, ok1, hF2, ok2, hg⟩ := hp
  obtain ⟨p1, a1, ep1, hp1, ha1⟩ := id hF1
  obtain ⟨p2, a2, ep2, hp2, ha2⟩ := id hF2
  replace ep1 : f1 = .ref p1 := ep1
  replace ep2 : f2 = .ref p2 := ep2
  subst ep1 ep2
  replace hF1 : Fam H (.ref p1) r w1 := hF1
  replace hF2 : Fam H (.ref p2) r w2 := hF2
  refine s_retP (ep_fdP (R' := fun v _ => ∃ b, v = .bl b ∧ (b = true ↔ Conj (Gen w1) (Gen w2) g)) (epa_cons (ep_lfold (K := K) (ev_var rfl) hp1 ha1 ok1) (fun v H1 H2 e ⟨es, h1, h2⟩ => ⟨es, h1.keep e, h2⟩) (epa_cons (ep_lfold (K := K) (ev_var rfl) hp2 ha2 ok2) (fun v H1 H2 e ⟨es, h1, h2⟩ => ⟨es, h1.keep e, h2⟩) (EvPA.of (vs := [.ref p1, .ref p2, tx g]) (ea_cons (ev_var rfl) (ea_cons (ev_var rfl) (ea_cons (ev_var rfl) ea_nil)))))) fun vs H1 e1 ⟨va, r1, h1, ⟨ea, h2, h3⟩, vb, r2, h4, ⟨eb, h5, h6⟩, h7⟩ => ⟨(((va, ea), vb, eb), (.ref p1, .ref p2), (r, w1, w2), g), by rw [h1, h4, h7], ⟨h2, h3, h5, h6, hF1.keep (Tk.of e1), ok1, hF2.keep (Tk.of e1), ok2, hg⟩, fun v H2 e2 h => h⟩) fun v H1 e1 h => q _ _ ⟨e1, h⟩
end
end FwK
end

section
set_option Elab.async false
set_option linter.all false
set_option maxRecDepth 100000
set_option maxHeartbeats 2000000
namespace FwK
open PySem PySem.Spec PyProof.Rows L2 Evl Fw FwR
section
variable {P : Program} {w : World} {K : PySem.W.Frag} {mg : Str → Option Value} {base : Heap} {σ : L2.St} {H H' : Hp} {ta tb te : TE} {t : TT} {tt : TT} {D : Ends} {tu tz : TS}
/-! ### the law's keys -/
def kL (u : Word) : PyData := .tuple [.int (u.length : Int), .list (u.map fun l => .int (l.idx : Int))]
def LKey (H : Hp) (v : V) (u : Word) : Prop := ∃ p q, v = .ref p ∧ H p = some (.tup [.int (u.length : Int), .ref q]) ∧ H q = some (.lst (ixs u))
theorem LKey.keep {v : V} {u : Word} (e : Ex H H') (h : LKey H v u) : LKey H' v u := by
  obtain ⟨p, q, hv, h1, h2⟩ := h
  exact ⟨p, q, hv, e _ _ h1, e _ _ h2⟩
theorem LKey.dp {v : V} {u : Word} (h : LKey H v u) : Dp K H v (kL u) := by
  obtain ⟨p, q, hv, h1, h2⟩ := h
  rw [hv]
  exact .tup (SqT.of h1) (.cons (.int _) (.cons (.lst (sq_of h2) (dp_ixs u)) .nil))
theorem alike_kL (u v : Word) : PySem.W.alike (kL u) (kL v) = true := by
  simp [kL, PySem.W.alike, PySem.W.alikeAll, alike_ints]
theorem depth_kL (u : Word) : (kL u).depth ≤ 2 := by simp [kL, PyData.depth, PyData.depthAll, depth_ints]
theorem lay_ints : ∀ u : Word, PyData.canLayAll0 (u.map fun l => PyData.int (l.idx : Int)) = true
  | [] => by simp [PyData.canLayAll0]
  | l :: u => by simp [PyData.canLayAll0, PyData.canLay0, lay_ints u]
theorem shaped_kL (u : Word) : SeqAt.shaped (kL u) = true := by
  have h1 : (kL u).canLay0 = true := by simp [kL, PyData.canLay0, PyData.canLayAll0, lay_ints]
  have h2 := depth_kL u
  unfold SeqAt.shaped
  rw [h1, decide_eq_true (by omega)]
  rfl
theorem eqv_kL (u v : Word) : PyData.eqv (kL u) (kL v) = decide (u = v) := by
  show (PyData.eqv (.int (u.length : Int)) (.int (v.length : Int)) && (PyData.eqvAll _ _ && true)) = _
  rw [eqv_int, eqv_ints, Bool.and_true, ← Bool.decide_and]
  exact decide_eq_decide.mpr ⟨fun h => h.2, fun h => ⟨by rw [h], h⟩⟩
theorem lt_kL (u v : Word) : PySem.W.dataLt (kL u) (kL v) = true ↔ sl u v := by
  have h0 : PyProof.Rows.lexLt PyProof.Rows.itemOrd (PySem.W.keyToksAll []) (PySem.W.keyToksAll []) = false := PyProof.Rows.lex_irrefl _
  have hi : PySem.W.dataLt (.list (u.map fun l => PyData.int (l.idx : Int))) (.list (v.map fun l => .int (l.idx : Int))) = decide ((u.map fun l => (l.idx : Int)) < (v.map fun l => (l.idx : Int))) := by
    rw [PySem.W.dataLt_list]
    have := PySem.W.dataLt_ints (u.map fun l => (l.idx : Int)) (v.map fun l => (l.idx : Int))
    rw [List.map_map, List.map_map] at this
    exact this
  unfold kL
  rw [PySem.W.dataLt_tuple, PySem.W.dataLt_cons (by simp [PySem.W.alike]), PySem.W.dataLt_cons (by simp [PySem.W.alike, alike_ints]), h0, PySem.W.dataLt_int, eqv_int, hi]
  have he : PyData.eqv (.list (u.map fun l => PyData.int (l.idx : Int))) (.list (v.map fun l => .int (l.idx : Int))) = decide (u = v) := eqv_ints u v
  rw [he]
  unfold sl
  by_cases h1 : u.length = v.length
  · rw [if_pos (by rw [h1]; exact decide_eq_true rfl)]
    by_cases h2 : u = v
    · subst h2
      rw [if_pos (decide_eq_true rfl)]
      simp
      exact Fw.lex_irrefl _
    · rw [if_neg (by rw [decide_eq_false h2]; decide), decide_eq_true_iff, lt_lex]
      exact ⟨fun h => .inr ⟨h1, h⟩, fun h => h.elim (fun h => by omega) fun h => h.2⟩
  · have h1' : ¬ ((u.length : Int) = (v.length : Int)) := fun h => h1 (Int.ofNat.inj h)
    rw [if_neg (by rw [decide_eq_false h1']; decide), decide_eq_true_iff]
    exact ⟨fun h => .inl (by omega), fun h => h.elim (fun h => by omega) fun h => absurd h.1 h1⟩
theorem T_idxR {r : Nat} (h3 : r ≤ 3) (l : Let) (h : l.idx < 2 * r) : Builtin.Str.occurrences (T (lets r)) (T [l]) 0 (T (lets r)).length 1 = l.idx :: [] := by
  have h4 : r = 0 ∨ r = 1 ∨ r = 2 ∨ r = 3 := by omega
  rcases h4 with e | e | e | e <;> subst e <;> cases l <;> first | (exact absurd h (by decide)) | decide +kernel
theorem ev_indexR {r : Nat} {l : Let} (h3 : r ≤ 3) (hl : l.idx < 2 * r) (h : Ev ta σ H (tx (lets r))) (hb : Ev tb σ H (tx [l])) : Ev (tBM K "str" (fun x xs H Q => ∃ a b i rest, x = .str a ∧ xs = [.str b] ∧ Builtin.Str.occurrences a b 0 a.length 1 = i :: rest ∧ Q (.int (i : Nat)) H) ta (tCons tb tNil)) σ H (.int (l.idx : Int)) := fun H1 e Q q =>
  h H1 e _ fun H2 e2 => ⟨rfl, hb H2 (e.trans e2) _ fun H3 e3 => ⟨T (lets r), T [l], l.idx, [], rfl, rfl, T_idxR h3 l hl, q H3 (e2.trans e3)⟩⟩
theorem ep_pairL {x : V} {xs : List V} (ha : Ev ta σ H x) (hb : EvL tb σ H xs) : EvP (tTup (tCons ta (tCons tb tNil))) σ H (fun v H1 => ∃ p q, v = .ref p ∧ H1 p = some (.tup [x, .ref q]) ∧ H1 q = some (.lst xs)) := fun H1 e1 Q k =>
  ha H1 e1 _ fun H2 e2 => hb H2 (e1.trans e2) _ fun q H3 nq e3 hq => ⟨sz_of (Nat.le_of_ble_eq_true rfl), fun p np => k _ _ ((e2.trans e3).trans (Ex.new np)) ⟨p, q, rfl, upd_same, by rw [upd_ne (ne_of_none hq np)]; exact hq⟩⟩
theorem rv_ltL {x y : V} {u v : Word} (hx : LKey H x u) (hy : LKey H y v) : RV (rLtD K) x y H (.bl (PySem.W.dataLt (kL u) (kL v))) := fun H1 e Q q =>
  ⟨kL u, kL v, (hx.keep e).dp, (hy.keep e).dp, alike_kL u v, (by intro h; cases h), Nat.le_trans (depth_kL u) (by decide), q H1 (Ex.refl H1)⟩
theorem rv_eqL {x y : V} {u v : Word} (hx : LKey H x u) (hy : LKey H y v) : RV (rEqD K) x y H (.bl (decide (u = v))) := fun H1 e Q q =>
  ⟨kL u, kL v, (hx.keep e).dp, (hy.keep e).dp, shaped_kL u, shaped_kL v, by rw [eqv_kL]; exact q H1 (Ex.refl H1)⟩
/-! ### the best so far -/
def Best (H : Hp) (S : Word → Prop) (ws : List Word) (v : V) : Prop := (v = .non ∧ ∀ u ∈ ws, ¬ S u) ∨ ∃ u, u ∈ ws ∧ S u ∧ (∀ z ∈ ws, S z → sle u z) ∧ LKey H v u
theorem Best.keep {S : Word → Prop} {ws : List Word} {v : V} (e : Ex H H') (h : Best H S ws v) : Best H' S ws v := by
  rcases h with h | ⟨u, h1, h2, h3, h4⟩
  · exact .inl h
  · exact .inr ⟨u, h1, h2, h3, h4.keep e⟩
theorem Best.skip {S : Word → Prop} {ws : List Word} {v : V} {u : Word} (h : Best H S ws v) (hu : ¬ S u) : Best H S (ws ++ [u]) v := by
  rcases h with ⟨h1, h2⟩ | ⟨z, h1, h2, h3, h4⟩
  · refine .inl ⟨h1, fun x hx => ?_⟩
    rcases List.mem_append.mp hx with hx | hx
    · exact h2 x hx
    · rw [List.mem_singleton.mp hx]
      exact hu
  · refine .inr ⟨z, List.mem_append_left _ h1, h2, fun x hx hs => ?_, h4⟩
    rcases List.mem_append.mp hx with hx | hx
    · exact h3 x hx hs
    · rw [List.mem_singleton.mp hx] at hs
      exact absurd hs hu
theorem Best.first {S : Word → Prop} {ws : List Word} {v : V} {u : Word} (h : ∀ x ∈ ws, ¬ S x) (hu : S u) (hk : LKey H v u) : Best H S (ws ++ [u]) v := by
  refine .inr ⟨u, by simp, hu, fun x hx hs => ?_, hk⟩
  rcases List.mem_append.mp hx with hx | hx
  · exact absurd hs (h x hx)
  · rw [List.mem_singleton.mp hx]
    exact sle_refl _
theorem Best.better {S : Word → Prop} {ws : List Word} {v : V} {u z : Word} (h : ∀ x ∈ ws, S x → sle z x) (hu : S u) (hk : LKey H v u) (hlt : sl u z) : Best H S (ws ++ [u]) v := by
  refine .inr ⟨u, by simp, hu, fun x hx hs => ?_, hk⟩
  rcases List.mem_append.mp hx with hx | hx
  · exact sle_of_sl (sl_sle hlt (h x hx hs))
  · rw [List.mem_singleton.mp hx]
    exact sle_refl _
theorem Best.worse {S : Word → Prop} {ws : List Word} {v : V} {u z : Word} (hz : z ∈ ws) (hs : S z) (h : ∀ x ∈ ws, S x → sle z x) (hk : LKey H v z) (hlt : ¬ sl u z) : Best H S (ws ++ [u]) v := by
  refine .inr ⟨z, List.mem_append_left _ hz, hs, fun x hx hs => ?_, hk⟩
  rcases List.mem_append.mp hx with hx | hx
  · exact h x hx hs
  · rw [List.mem_singleton.mp hx]
    exact hlt
abbrev spLaw (K : PySem.W.Frag) : Sp := prom (fun i : Addr × List Int => [.ref i.1]) (fun i H => SqL K H i.1 (i.2.map V.int)) (fun _ _ v _ => v = .bl true)
end
end FwK
end

section
set_option Elab.async false
set_option linter.all false
set_option maxRecDepth 100000
set_option maxHeartbeats 2000000
namespace FwK
open PySem PySem.Spec PyProof.Rows L2 Evl Fw FwR
section
variable {P : Program} {w : World} {K : PySem.W.Frag} {mg : Str → Option Value} {base : Heap} {σ : L2.St} {H H' : Hp} {ta tb te : TE} {t : TT} {tt : TT} {D : Ends} {tu tz : TS}
theorem fn_fd {x : Str} {st : Stmt} {pn : List Str} {ι : Type} {ps : ι → List V} {pre : ι → Hp → Prop} {post : ι → Hp → V → Hp → Prop} {k : Nat} {N : List Str} {fa : Addr} {fd : FuncData} (F : Fun K x x st fa fd) (S : FnScope N pn (defScope st)) (len : ∀ i, (ps i).length = pn.length)
    (body : ∀ (i : ι) (f : Addr) (cdv : Value) (A : Around) (outer : List Env) (s : Shared) (H : Hp) (Q : VK), Room k (A.deeper (envOfC x (defScope st) s.heap.objs.size f cdv)) → pre i H → (∀ v H', post i H v H' → Q v H') → ∀ E : XK,
      ∃ t, PSs (cxOf CX0 P w K mg base N x (defScope st) f cdv A outer s H E).nox (defBody st) t ∧ t { nx := fun _ H' => Q .non H', rt := Q } (start N (ps i)) H) : FnOk P w K mg base CX0 (k + 1) fa fd pn (prom ps pre post) := by
  refine F.ok S (fun vs H Q E h => ?_) (fun cdv A outer s H vs Q E hr h => ?_)
  · obtain ⟨i, e, _⟩ := h
    subst e
    exact len i
  · obtain ⟨i, e, p, q⟩ := h
    subst e
    exact body i fa cdv A outer s H Q hr p q E
theorem gl2 {p : Addr} {x y : V} {i j : Nat} {Q : L2.St → Hp → Prop} (h : H p = some (.lst [x, y])) (k : Q ((σ.set i (some x)).set j (some y)) H) : gLst K 2 (gCons (gName i) (gCons (gName j) gNil)) (.ref p) σ H Q :=
  ⟨p, _, rfl, sq_of h, rfl, _, _, rfl, _, _, rfl, rfl, k⟩
theorem et_geP {a : Int} (h1 : Ev ta σ H (.int a)) (h2 : EvP tb σ H (fun v _ => ∃ j : Int, v = .int j ∧ a < j)) : EvT (tTest (tOp (rI0 fun i j => .bl (decide (j ≤ i))) ta tb)) σ H false := fun H1 e1 Q q =>
  h1 H1 e1 _ fun H2 e2 => h2 H2 (e1.trans e2) _ fun v H3 e3 ⟨j, hv, hj⟩ => ⟨a, j, rfl, hv, false, by
    show V.bl (decide (j ≤ a)) = _
    rw [decide_eq_false (by omega)], q H3 (e2.trans e3)⟩
theorem ep_add2 {P1 P2 : Nat → Prop} (h1 : EvP ta σ H (fun v _ => ∃ n : Nat, v = .int (n : Int) ∧ P1 n)) (h2 : EvP tb σ H (fun v _ => ∃ n : Nat, v = .int (n : Int) ∧ P2 n)) : EvP (tOp (rI0 fun i j => .int (i + j)) ta tb) σ H (fun v _ => ∃ n m : Nat, v = .int ((n + m : Nat) : Int) ∧ P1 n ∧ P2 m) := fun H1 e1 Q q =>
  h1 H1 e1 _ fun x H2 e2 ⟨n, hx, hn⟩ => h2 H2 (e1.trans e2) _ fun y H3 e3 ⟨m, hy, hm⟩ => ⟨n, m, hx, hy, q _ H3 (e2.trans e3) ⟨n, m, by rw [Int.natCast_add], hn, hm⟩⟩
theorem ep_ix0 {S : Nat → Prop} (h : EvP ta σ H (fun v H' => ∃ n es, Gr H' v n es ∧ S n)) : EvP (tOp (rIxT K) ta (tC (.int 0))) σ H (fun v _ => ∃ n : Nat, v = .int (n : Int) ∧ S n) := fun H1 e1 Q q =>
  h H1 e1 _ fun x H2 e2 ⟨n, es, ⟨p, qq, bs, hx, hp, _, _⟩, hn⟩ => by
    subst hx
    exact (rv_ixt (K := K) (i := 0) hp rfl) H2 (Ex.refl H2) _ fun H3 e3 => q _ H3 (e2.trans e3) ⟨n, rfl, hn⟩
theorem ok_law (B : Bs mg) {fa : Addr} {fd : FuncData} (F : Fun K "law" "law" s_law fa fd) (g_law_stream : Fd P w K mg base "_law_stream" pn_law_stream 1 (spStream K)) (g_law_pair : Fd P w K mg base "_law_pair" pn_law_pair 4 spPair) (g_law_letters : Fd P w K mg base "_law_letters" pn_law_letters 1 spLetters)
    (g_conjugator : Fd P w K mg base "conjugator" pn_conjugator 11 spConjugator) (g_law_fold : Fd P w K mg base "_law_fold" pn_law_fold 3 spLFold) (g_law_words : Fd P w K mg base "_law_words" pn_law_words 2 spWords) (g_law_goes : Fd P w K mg base "_law_goes" pn_law_goes 4 spGoes)
    (g_is_conjugator : Fd P w K mg base "is_conjugator" pn_is_conjugator 12 spConjBy) (g_law_reduce : Fd P w K mg base "_law_reduce" pn_law_reduce 2 spRed) (g_law_is_conjugator : Fd P w K mg base "_law_is_conjugator" pn_law_is_conjugator 5 spLConjBy) (g_graph_of : Fd P w K mg base "graph_of" pn_graph_of 11 spGraphIn) :
    FnOk P w K mg base CX0 13 fa fd pn_law (spLaw K) := by
  refine fn_fd F sc_law (fun _ => rfl) fun i f cdv A outer s H Q hr hp q E => ?_
  refine ⟨_, (pss_cons (ps_asg (pe_fd g_law_stream (hr.mono (by decide)) (by rfl) (pa_cons (pv 0) pa_nil)) (pg_name (i := 1) sc_law.nd rfl (Or.inl rfl)))
    (pss_cons (ps_asg (pe_fd g_law_pair (hr.mono (by decide)) (by rfl) (pa_cons (pv 1) pa_nil)) (pg_lst rfl (pgs_cons (pg_name (i := 2) sc_law.nd rfl (Or.inl rfl)) (pgs_cons (pg_name (i := 3) sc_law.nd rfl (Or.inl rfl)) pgs_nil))))
    (pss_cons (ps_asg (pe_ix (r := rIxT K) ix_tup (pv 2) pe_int (fun _ _ => rfl)) (pg_name (i := 4) sc_law.nd rfl (Or.inl rfl)))
    (pss_cons (ps_asg (pe_fd g_law_letters (hr.mono (by decide)) (by rfl) (pa_cons (pv 4) pa_nil)) (pg_name (i := 5) sc_law.nd rfl (Or.inr rfl)))
    (pss_cons (ps_asg (pe_fd g_conjugator (hr.mono (by decide)) (by rfl) (pa_cons (pv 2) (pa_cons (pv 3) pa_nil))) (pg_name (i := 6) sc_law.nd rfl (Or.inl rfl)))
    (pss_cons (ps_asg (pe_fd g_law_fold (hr.mono (by decide)) (by rfl) (pa_cons (pe_ix (r := rIxT K) ix_tup (pv 2) pe_int (fun _ _ => rfl)) pa_nil)) (pg_name (i := 7) sc_law.nd rfl (Or.inl rfl)))
    (pss_cons (ps_asg (pe_fd g_law_fold (hr.mono (by decide)) (by rfl) (pa_cons (pe_ix (r := rIxT K) ix_tup (pv 3) pe_int (fun _ _ => rfl)) pa_nil)) (pg_name (i := 8) sc_law.nd rfl (Or.inl rfl)))
    (pss_cons (ps_asg pe_non (pg_name (i := 9) sc_law.nd rfl (Or.inl rfl)))
    (pss_cons (ps_for PassesOwn.never rfl (pi_list (pe_fd g_law_words (hr.mono (by decide)) (by rfl) (pa_cons (pv 4) (pa_cons (pe_op op_sub pe_int (pe_callTy call_int1 (by rfl) B.z_int (by decide +kernel) (pa_cons (pe_cmpR op_gt (pv 4) pe_int (nomark _)) pa_nil))) pa_nil)))) (pg_name (i := 10) sc_law.nd rfl (Or.inl rfl)) (pss_cons (ps_asg (pe_fd g_law_goes (hr.mono (by decide)) (by rfl) (pa_cons (pv 7) (pa_cons (pv 8) (pa_cons (pv 2) (pa_cons (pv 3) (pa_cons (pv 10) pa_nil)))))) (pg_name (i := 11) sc_law.nd rfl (Or.inl rfl)))
    (pss_cons (ps_asg (pe_fd g_is_conjugator (hr.mono (by decide)) (by rfl) (pa_cons (pv 2) (pa_cons (pv 3) (pa_cons (pv 10) pa_nil)))) (pg_name (i := 12) sc_law.nd rfl (Or.inl rfl)))
    (pss_cons (ps_if (PW.pt (pw_or (pt_not (pt_val (pe_callB (r := rIsi K) call_isi (by rfl) B.z_isinstance (by decide +kernel) (pa_cons (pv 12) (pa_cons (pe_bltn (v := .ty "bool") (by rfl) B.z_bool (by decide +kernel) rfl) pa_nil))))) (pw_or1 (pt_cmpR op_ne (pv 12) (pv 11) (nomark _))))) (pss_one (ps_ret pe_bl)) pss_nil)
    (pss_cons (ps_asg (pe_tup (pa_cons (pe_callB (r := rLenX) call_len_str (by rfl) B.z_len PySem.boot_len (pa_cons (pv 10) pa_nil)) (pa_cons (pe_lc (own := [("_law_letter", 14)]) (g := (gName 14)) rfl sc_law.nd  (pi_str (pv 10)) (blkOk_by (N := nm_law) (sc := defScope s_law) (by decide +kernel)) (fun _ _ _ _ _ => (pg_name (i := 14) sc_law.nd rfl (Or.inl rfl))) (fun _ _ _ _ _ => pts_nil) (fun _ _ _ _ _ => (pe_bmK K rfl (pe_bm PySem.F.plainAttrs_str PySem.F.slot_str_index PySem.F.type_str_index mt_sindex (pv 5) (pa_cons (pv 14) pa_nil))))) pa_nil))) (pg_name (i := 13) sc_law.nd rfl (Or.inl rfl)))
    (pss_one (ps_if (PW.pt (pw_and (pt_val (pv 11)) (pw_and1 (PW.pt (pw_or (pt_cmp (pc_isN (pv 9)) rfl) (pw_or1 (pt_cmpR (op_ltD hr.units) (pv 13) (pv 9) (nomark _)))))))) (pss_one (ps_asg (pv 13) (pg_name (i := 9) sc_law.nd rfl (Or.inl rfl)))) pss_nil)))))))
    (pss_cons (ps_if (pt_cmp (pc_isN (pv 6)) rfl) (pss_one (ps_ret (pe_cmp (pc_isN (pv 9)) rfl))) pss_nil)
    (pss_cons (ps_if (PW.pt (pw_or (pt_not (pt_val (pe_callB (r := rIsi K) call_isi (by rfl) B.z_isinstance (by decide +kernel) (pa_cons (pv 6) (pa_cons (pe_bltn (v := .ty "str") (by rfl) B.z_str (by decide +kernel) rfl) pa_nil))))) (pw_or (pt_cmpR op_ne (pe_fd g_law_reduce (hr.mono (by decide)) (by rfl) (pa_cons (pv 6) pa_nil)) (pv 6) (nomark _)) (pw_or1 (pt_not (pt_val (pe_fd g_law_is_conjugator (hr.mono (by decide)) (by rfl) (pa_cons (pv 2) (pa_cons (pv 3) (pa_cons (pv 6) pa_nil)))))))))) (pss_one (ps_ret pe_bl)) pss_nil)
    (pss_cons (ps_if (pt_cmpR op_ge (pe_callB (r := rLenX) call_len_str (by rfl) B.z_len PySem.boot_len (pa_cons (pv 6) pa_nil)) (pe_op op_add (pe_ix (r := rIxT K) ix_tup (pe_fd g_graph_of (hr.mono (by decide)) (by rfl) (pa_cons (pv 2) pa_nil)) pe_int (fun _ _ => rfl)) (pe_ix (r := rIxT K) ix_tup (pe_fd g_graph_of (hr.mono (by decide)) (by rfl) (pa_cons (pv 3) pa_nil)) pe_int (fun _ _ => rfl))) (nomark _)) (pss_one (ps_ret pe_bl)) pss_nil)
    (pss_cons (ps_asg (pe_tup (pa_cons (pe_callB (r := rLenX) call_len_str (by rfl) B.z_len PySem.boot_len (pa_cons (pv 6) pa_nil)) (pa_cons (pe_lc (own := [("_law_letter", 14)]) (g := (gName 14)) rfl sc_law.nd  (pi_str (pv 6)) (blkOk_by (N := nm_law) (sc := defScope s_law) (by decide +kernel)) (fun _ _ _ _ _ => (pg_name (i := 14) sc_law.nd rfl (Or.inl rfl))) (fun _ _ _ _ _ => pts_nil) (fun _ _ _ _ _ => (pe_bmK K rfl (pe_bm PySem.F.plainAttrs_str PySem.F.slot_str_index PySem.F.type_str_index mt_sindex (pv 5) (pa_cons (pv 14) pa_nil))))) pa_nil))) (pg_name (i := 13) sc_law.nd rfl (Or.inl rfl)))
    (pss_cons (ps_if (pt_cmp (pc_isN (pv 9)) rfl) (pss_one (ps_ret (pe_cmpR op_gt (pe_callB (r := rLenX) call_len_str (by rfl) B.z_len PySem.boot_len (pa_cons (pv 6) pa_nil)) (pe_op op_sub pe_int (pe_callTy call_int1 (by rfl) B.z_int (by decide +kernel) (pa_cons (pe_cmpR op_gt (pv 4) pe_int (nomark _)) pa_nil))) (nomark _)))) pss_nil)
    (pss_one (ps_ret (pe_cmpR (op_eqD hr.units) (pv 13) (pv 9) (nomark _)))))))))))))))))), ?_⟩
  obtain ⟨b, xs⟩ := i
  replace hp : SqL K H b (xs.map V.int) := hp
  replace q : ∀ H', Q (.bl true) H' := fun H' => q _ _ rfl
  refine q_asgP (ep_fd (b, xs) (ea_cons (ev_var rfl) ea_nil) rfl fun H1 e1 => ex_l e1 hp) fun sv H1 e1 ⟨p, a, hsv, hst⟩ => ?_
  subst hsv
  -- the pair
  refine (ev_var (σ := [some (.ref b), some (.ref p), none, none, none, none, none, none, none, none, none, none, none, none, none]) (v := .ref p) (i := 1) rfl) H1 (Ex.refl H1) _ fun H2 e2 => ⟨(p, a, xs), by rw [List.append_nil], hst.keep e2, fun v H3 ⟨l, f1, f2, r, w1, w2, hv, hl, hF1, ok1, hF2, ok2⟩ => ?_⟩
  subst hv
  refine gl2 hl ?_
  obtain ⟨p1, a1, ep1, hp1, ha1⟩ := id hF1
  obtain ⟨p2, a2, ep2, hp2, ha2⟩ := id hF2
  subst ep1 ep2
  have hr1 := ok1.1
  have hr3 := ok1.2.1
  refine q_asg (v := .int (r : Int)) (ev_ixt (K := K) (j := 0) (ev_var rfl) ev_c hp1 rfl) fun H4 e4 => ?_
  refine q_asg (ev_fd r (ea_cons (ev_var rfl) ea_nil) rfl fun _ _ => ⟨hr1, hr3⟩) fun H5 e5 => ?_
  have e35 := e4.trans e5
  refine q_asgP (ep_fd ((.ref p1, .ref p2), r, w1, w2) (ea_cons (ev_var rfl) (ea_cons (ev_var rfl) ea_nil)) rfl fun H6 e6 => ⟨hF1.keep (Tk.of (e35.trans e6)), ok1, hF2.keep (Tk.of (e35.trans e6)), ok2⟩) fun told H6 e6 htold => ?_
  have e36 := e35.trans e6
  refine q_asgP (ep_lfold (K := K) (ev_var rfl) (e36 _ _ hp1) (e36 _ _ ha1) ok1) fun va H7 e7 ⟨ea, hEa, hLa⟩ => ?_
  have e37 := e36.trans e7
  refine q_asgP (ep_lfold (K := K) (ev_var rfl) (e37 _ _ hp2) (e37 _ _ ha2) ok2) fun vb H8 e8 ⟨eb, hEb, hLb⟩ => ?_
  refine q_asg ev_c fun H9 e9 => ?_
  have e39 := e37.trans (e8.trans e9)
  have hEa9 := hEa.keep (e8.trans e9)
  have hEb9 := hEb.keep e9
  obtain ⟨n, hn, hn3⟩ : ∃ n : Nat, (3 : Int) - (if decide ((1 : Int) < (r : Int)) then 1 else 0) = (n : Int) ∧ n ≤ 3 := by
    by_cases h : (1 : Int) < (r : Int)
    · exact ⟨2, by rw [decide_eq_true h]; rfl, by decide⟩
    · exact ⟨3, by rw [decide_eq_false h]; rfl, by decide⟩
  have evn : ∀ {σ : L2.St} {H : Hp}, σ[4]? = some (some (.int (r : Int))) → Ev (tOp (rI0 fun i j => .int (i - j)) (tC (.int 3)) (tCB (fun xs H Q => (∃ i, xs = [.int i] ∧ Q (.int i) H) ∨ ∃ k, xs = [.bl k] ∧ Q (.int (if k then 1 else 0)) H) (tCons (tOp (rI0 fun i j => .bl (decide (j < i))) (tVar 4) (tC (.int 1))) tNil))) σ H (.int (n : Int)) := fun {σ H} hs =>
    ev_is (ev_op ev_c (ev_int1 (ev_op (ev_var hs) ev_c rv_I0) fun H1 Q q => .inr ⟨_, rfl, q⟩) rv_I0) (by rw [hn])
  have hrow : ∀ v, v ∈ rowsW r n ↔ v.length ≤ n ∧ Rd v ∧ InR r v := rowsW_mem hr1 hr3 n
  have evk : ∀ {σ : L2.St} {H : Hp} {u : Word} {j : Nat}, σ[j]? = some (some (tx u)) → σ[5]? = some (some (tx (lets r))) → (∀ x, wipe ((wipe σ [14]).set 14 (some x)) [14] = wipe σ [14]) → (∀ x, ((wipe σ [14]).set 14 (some x))[5]? = some (some (tx (lets r)))) → (∀ x, ((wipe σ [14]).set 14 (some x))[14]? = some (some x)) → u.length ≤ 1000 → InR r u → ((wipe σ [14])[j]? = some (some (tx u)) ∨ True) → EvP (tTup (tCons (tCB rLenX (tCons (tVar j) tNil)) (tCons (tLc (iStr (tVar j)) (gName 14) tYes (tBM K "str" (fun x xs H Q => ∃ a b i rest, x = .str a ∧ xs = [.str b] ∧ Builtin.Str.occurrences a b 0 a.length 1 = i :: rest ∧ Q (.int (i : Nat)) H) (tVar 5) (tCons (tVar 14) tNil)) [14]) tNil))) σ H (fun v H' => LKey H' v u) := fun {σ H u j} h1 h2 h3 h4 h5 h6 h7 _ =>
    ep_pairL (ev_is (ev_lenS (s := T u) (ev_var h1) (by rw [T_len]; omega)) (by rw [T_len])) (el_lcW (fun l => .int (l.idx : Int)) (ev_var h1) (by omega) h3 fun l H1 e1 hl => ev_indexR hr3 (h7 l hl) (ev_var (h4 _)) (ev_var (h5 _)))
  refine q_seq (run_forL (K := K) (ep_fd (r, n) (ea_cons (ev_var rfl) (ea_cons (evn rfl) ea_nil)) rfl (fun _ _ => ⟨hr1, hr3, hn3⟩) H9 (Ex.refl H9) _ fun rv H10 e10 ⟨rb, hrv, hrb⟩ => ⟨rb, hrv, ⟨_, sq_of hrb⟩, for_list (K := K) (a := rb) (xs := (rowsW r n).map tx) (fun i σ H11 => ∃ (v9 : V) (y10 y11 y12 y13 : Option V), σ = [some (.ref b), some (.ref p), some (.ref p1), some (.ref p2), some (.int (r : Int)), some (tx (lets r)), some told, some va, some vb, some v9, y10, y11, y12, y13, none] ∧ Ex H10 H11 ∧ Best H11 (Conj (Gen w1) (Gen w2)) ((rowsW r n).take i) v9) ?_ ?_ ?_ ?_⟩))
  · exact ⟨_, _, _, _, _, rfl, Ex.refl _, .inl ⟨rfl, fun u hu => by simp at hu⟩⟩
  · rintro i σ H11 hi ⟨v9, y10, y11, y12, y13, rfl, e11, hB⟩
    exact sq_of (e11 _ _ hrb)
  · rintro i x σ H11 hx ⟨v9, y10, y11, y12, y13, rfl, e11, hB⟩
    rw [List.getElem?_map] at hx
    cases hu : (rowsW r n)[i]? with
    | none => rw [hu] at hx; cases hx
    | some u =>
    rw [hu] at hx
    cases hx
    obtain ⟨hul, hurd, huin⟩ := (hrow u).mp (List.mem_of_getElem? hu)
    have tk : (rowsW r n).take (i + 1) = (rowsW r n).take i ++ [u] := by rw [List.take_add_one, hu]; rfl
    have e91 := e10.trans e11
    have e31 := e39.trans e91
    refine q_asgP (ep_fd (((va, ea), vb, eb), (.ref p1, .ref p2), (r, w1, w2), u) (ea_cons (ev_var rfl) (ea_cons (ev_var rfl) (ea_cons (ev_var rfl) (ea_cons (ev_var rfl) (ea_cons (ev_var rfl) ea_nil))))) rfl fun H12 e12 => ⟨hEa9.keep (e91.trans e12), hLa, hEb9.keep (e91.trans e12), hLb, hF1.keep (Tk.of (e31.trans e12)), ok1, hF2.keep (Tk.of (e31.trans e12)), ok2, by show u.length ≤ 300; omega⟩) fun dv H12 e12 ⟨d, hdv, hd⟩ => ?_
    subst hdv
    replace hd : d = true ↔ Conj (Gen w1) (Gen w2) u := hd
    refine q_asgP (ep_fd (((.ref p1, .ref p2), r, w1, w2), u) (ea_cons (ev_var rfl) (ea_cons (ev_var rfl) (ea_cons (ev_var rfl) ea_nil))) rfl fun H13 e13 => ⟨⟨hF1.keep (Tk.of (e31.trans (e12.trans e13))), ok1, hF2.keep (Tk.of (e31.trans (e12.trans e13))), ok2⟩, huin, by show u.length ≤ 100; omega⟩) fun av H13 e13 ⟨d', hav, hd'⟩ => ?_
    subst hav
    have hdd : d' = d := Bool.eq_iff_iff.mpr (Iff.trans hd' hd.symm)
    subst hdd
    refine q_when (b := false) (et_is (et_orF (et_no (et_test (ev_isi (ev_var rfl) ev_c (.ty _) (fun _ _ => .base (.bl _)) (kit_ty (by decide +kernel))))) (et_is (et_test (ev_op (ev_var rfl) (ev_var rfl) (rv_ne rfl))) (by simp))) rfl) (fun h => absurd h (by decide)) fun _ H14 e14 => ?_
    refine q_asgP (evk (j := 10) rfl rfl (fun _ => rfl) (fun _ => rfl) (fun _ => rfl) (by omega) huin (.inr trivial)) fun kv H15 e15 hk => ?_
    have e15' := e12.trans (e13.trans (e14.trans e15))
    cases d' with
    | false =>
      have hns : ¬ Conj (Gen w1) (Gen w2) u := fun h => by
        have := hd.mpr h
        cases this
      exact s_when (b := false) (et_andF (et_test (ev_var rfl))) (fun h => absurd h (by decide)) fun _ H16 e16 => ⟨v9, _, _, _, _, rfl, e11.trans (e15'.trans e16), by rw [tk]; exact (hB.keep (e15'.trans e16)).skip hns⟩
    | true =>
      have hs := hd.mp rfl
      rcases hB with ⟨hv, hno⟩ | ⟨z, hz1, hz2, hz3, hz4⟩
      · subst hv
        exact s_when (b := true) (et_andT (et_test (ev_var rfl)) (et_orT (et_B (ev_is (ev_isN (ev_var rfl)) rfl)))) (fun _ H16 e16 => s_asg (ev_var rfl) fun H17 e17 => ⟨kv, _, _, _, _, rfl, e11.trans (e15'.trans (e16.trans e17)), by rw [tk]; exact Best.first hno hs (hk.keep (e16.trans e17))⟩) fun h => absurd h (by decide)
      · have hnn : decide (v9 = .non) = false := by
          obtain ⟨pz, qz, hpz, _⟩ := hz4
          rw [hpz]
          rfl
        refine s_when (b := PySem.W.dataLt (kL u) (kL z)) (et_andT (et_test (ev_var rfl)) (et_orR (et_B (ev_is (ev_isN (ev_var rfl)) (by rw [hnn]))) (et_test (ev_op (ev_var rfl) (ev_var rfl) (rv_ltL hk (hz4.keep e15')))))) (fun hb H16 e16 => s_asg (ev_var rfl) fun H17 e17 => ⟨kv, _, _, _, _, rfl, e11.trans (e15'.trans (e16.trans e17)), ?_⟩) fun hb H16 e16 => ⟨v9, _, _, _, _, rfl, e11.trans (e15'.trans e16), ?_⟩
        · rw [tk]
          exact Best.better hz3 hs (hk.keep (e16.trans e17)) ((lt_kL u z).mp hb)
        · rw [tk]
          exact Best.worse hz1 hz2 hz3 (hz4.keep (e15'.trans e16)) fun h => by
            rw [(lt_kL u z).mpr h] at hb
            cases hb
  · rintro σ H11 ⟨v9, y10, y11, y12, y13, rfl, e11, hB⟩
    rw [List.length_map, List.take_length] at hB
    rcases htold with ⟨ht, hnone⟩ | ⟨g, ht, hgc, hgr, hgl, hgi, hgz, hgb⟩
    · subst ht
      have hv9 : v9 = .non := by
        rcases hB with ⟨h, _⟩ | ⟨u, _, h, _⟩
        · exact h
        · exact absurd h (hnone u)
      subst hv9
      exact q_when (b := true) (et_B (ev_is (ev_isN (ev_var rfl)) rfl)) (fun _ H12 e12 => s_ret (v := .bl true) (ev_is (ev_isN (ev_var rfl)) rfl) fun H13 _ => q _) fun h => absurd h (by decide)
    · subst ht
      replace hgc : Conj (Gen w1) (Gen w2) g := hgc
      replace hgi : InR r g := hgi
      replace hgl : ∀ z, Rd z → Conj (Gen w1) (Gen w2) z → sle g z := hgl
      have e31 := e39.trans (e10.trans e11)
      refine q_when (b := false) (et_B (ev_is (ev_isN (ev_var rfl)) rfl)) (fun h => absurd h (by decide)) fun _ H12 e12 => ?_
      have e312 := e31.trans e12
      refine q_when (b := false) (et_orF (et_no (et_test (ev_isi (ev_var rfl) ev_c (.ty _) (fun _ _ => .base (.str _)) (kit_ty (by decide +kernel))))) (et_orF (et_is (et_test (ev_op (ev_fd g (ea_cons (ev_var rfl) ea_nil) rfl fun _ _ => by show g.length ≤ 1000; omega) (ev_var rfl) rv_neW)) (by rw [red_of_rd hgr, decide_eq_true rfl]; rfl)) (et_no (et_test (Ev.ofP (v := .bl true) (EvP.imp (ep_fd ((.ref p1, .ref p2), (r, w1, w2), g) (ea_cons (ev_var rfl) (ea_cons (ev_var rfl) (ea_cons (ev_var rfl) ea_nil))) rfl fun H13 e13 => ⟨hF1.keep (Tk.of (e312.trans e13)), ok1, hF2.keep (Tk.of (e312.trans e13)), ok2, by show g.length ≤ 300; omega⟩) fun v H13 e13 ⟨b', hv, hb'⟩ => by rw [hv, hb'.mpr hgc])))))) (fun h => absurd h (by decide)) fun _ H13 e13 => ?_
      have e313 := e312.trans e13
      refine q_when (b := false) (et_geP (a := (g.length : Int)) (ev_is (ev_lenS (s := T g) (ev_var rfl) (by rw [T_len]; omega)) (by rw [T_len])) (EvP.imp (ep_add2 (P1 := fun n => ∃ es, Canon n es (Gen w1)) (P2 := fun n => ∃ es, Canon n es (Gen w2)) (ep_ix0 (K := K) (EvP.imp (ep_fd (.ref p1, r, w1) (ea_cons (ev_var rfl) ea_nil) rfl fun H14 e14 => ⟨hF1.keep (Tk.of (e313.trans e14)), ok1⟩) fun v H14 e14 ⟨n, es, h1, h2, h3, h4⟩ => ⟨n, es, h1, es, h2⟩)) (ep_ix0 (K := K) (EvP.imp (ep_fd (.ref p2, r, w2) (ea_cons (ev_var rfl) ea_nil) rfl fun H14 e14 => ⟨hF2.keep (Tk.of (e313.trans e14)), ok2⟩) fun v H14 e14 ⟨n, es, h1, h2, h3, h4⟩ => ⟨n, es, h1, es, h2⟩))) fun v H14 e14 ⟨n, m, hv, ⟨es1, c1⟩, ⟨es2, c2⟩⟩ => ⟨_, hv, by have := hgb n es1 m es2 c1 c2; omega⟩)) (fun h => absurd h (by decide)) fun _ H14 e14 => ?_
      refine q_asgP (evk (j := 6) rfl rfl (fun _ => rfl) (fun _ => rfl) (fun _ => rfl) (by omega) hgi (.inr trivial)) fun kv H15 e15 hk => ?_
      have e15' := e12.trans (e13.trans (e14.trans e15))
      rcases hB with ⟨hv, hno⟩ | ⟨z, hz1, hz2, hz3, hz4⟩
      · subst hv
        have hlong : n < g.length := by
          apply Nat.lt_of_not_le
          intro hle
          exact hno g ((hrow g).mpr ⟨hle, hgr, hgi⟩) hgc
        exact q_when (b := true) (et_B (ev_is (ev_isN (ev_var rfl)) rfl)) (fun _ H16 e16 => s_ret (v := .bl true) (ev_is (ev_op (ev_is (ev_lenS (s := T g) (ev_var rfl) (by rw [T_len]; omega)) (by rw [T_len])) (evn rfl) rv_I0) (by rw [decide_eq_true (by omega)])) fun H17 _ => q _) fun h => absurd h (by decide)
      · have hnn : decide (v9 = .non) = false := by
          obtain ⟨pz, qz, hpz, _⟩ := hz4
          rw [hpz]
          rfl
        obtain ⟨hzl, hzr, hzi⟩ := (hrow z).mp hz1
        have h1 := hgl z hzr hz2
        have hgn : g ∈ rowsW r n := (hrow g).mpr ⟨Nat.le_trans (sle_len h1) hzl, hgr, hgi⟩
        have hgz : g = z := sle_anti h1 (hz3 g hgn hgc)
        subst hgz
        exact q_when (b := false) (et_B (ev_is (ev_isN (ev_var rfl)) (by rw [hnn]))) (fun h => absurd h (by decide)) fun _ H16 e16 => s_ret (v := .bl true) (ev_is (ev_op (ev_var rfl) (ev_var rfl) (rv_eqL (hk.keep e16) (hz4.keep (e15'.trans e16)))) (by rw [decide_eq_true rfl])) fun H17 _ => q _
end
end FwK
end

section
set_option Elab.async false
set_option linter.all false
set_option maxRecDepth 100000
set_option maxHeartbeats 2000000
namespace FwK
open PySem PySem.Spec PyProof.Rows L2 Evl Fw FwR
theorem all_mk {l : PySem.W.OpenLaw} {w : World} {K : PySem.W.Frag} {h : Heap} {mg : Str → Option Value} {fa C f1 f2 f3 f4 f5 f6 f7 f8 f9 f10 f11 f12 f13 f14 f15 f16 f17 f18 f19 f20 f21 f22 f23 f24 f25 f26 f27 f28 f29 f30 f31 f32 f33 f34 f35 f36 f37 f38 f39 f40 f41 f42 f43 f44 f45 f46 f47 f48 f49 f50 f51 f52 f53 f54 f55 f56 f57 : Addr} (X : K.In h) (G : h.Ns mainGlobals mg) (hfa : mg "law" = some (.ref fa))
  {od1 an1 od2 an2 od3 an3 od4 an4 od5 an5 od6 an6 od7 an7 od8 an8 od9 an9 od10 an10 od11 an11 od12 an12 od13 an13 od14 an14 od15 an15 od16 an16 od17 an17 od18 an18 od19 an19 od20 an20 od21 an21 od22 an22 od23 an23 od24 an24 od25 an25 od26 an26 od27 an27 od28 an28 od29 an29 od30 an30 od31 an31 od32 an32 od33 an33 od34 an34 od35 an35 od36 an36 od37 an37 od38 an38 od39 an39 od40 an40 od41 an41 od42 an42 od43 an43 od44 an44 od45 an45 od46 an46 od47 an47 od48 an48 od49 an49 od50 an50 od51 an51 od52 an52 od53 an53 od54 an54 od55 an55 od56 an56 od57 an57 : Option Addr} {sl1 sl2 sl3 sl4 sl5 sl6 sl7 sl8 sl9 sl10 sl11 sl12 sl13 sl14 sl15 sl16 sl17 sl18 sl19 sl20 sl21 sl22 sl23 sl24 sl25 sl26 sl27 sl28 sl29 sl30 sl31 sl32 sl33 sl34 sl35 sl36 sl37 sl38 sl39 sl40 sl41 sl42 sl43 sl44 sl45 sl46 sl47 sl48 sl49 sl50 sl51 sl52 sl53 sl54 sl55 sl56 sl57 : Array (Option Value)} {oc1 kV1 dc1 pm1 cd1 ct1 oc2 kV2 dc2 pm2 cd2 ct2 oc3 kV3 dc3 pm3 cd3 ct3 oc4 kV4 dc4 pm4 cd4 ct4 oc5 kV5 dc5 pm5 cd5 ct5 oc6 kV6 dc6 pm6 cd6 ct6 oc7 kV7 dc7 pm7 cd7 ct7 oc8 kV8 dc8 pm8 cd8 ct8 oc9 kV9 dc9 pm9 cd9 ct9 oc10 kV10 dc10 pm10 cd10 ct10 oc11 kV11 dc11 pm11 cd11 ct11 oc12 kV12 dc12 pm12 cd12 ct12 oc13 kV13 dc13 pm13 cd13 ct13 oc14 kV14 dc14 pm14 cd14 ct14 oc15 kV15 dc15 pm15 cd15 ct15 oc16 kV16 dc16 pm16 cd16 ct16 oc17 kV17 dc17 pm17 cd17 ct17 oc18 kV18 dc18 pm18 cd18 ct18 oc19 kV19 dc19 pm19 cd19 ct19 oc20 kV20 dc20 pm20 cd20 ct20 oc21 kV21 dc21 pm21 cd21 ct21 oc22 kV22 dc22 pm22 cd22 ct22 oc23 kV23 dc23 pm23 cd23 ct23 oc24 kV24 dc24 pm24 cd24 ct24 oc25 kV25 dc25 pm25 cd25 ct25 oc26 kV26 dc26 pm26 cd26 ct26 oc27 kV27 dc27 pm27 cd27 ct27 oc28 kV28 dc28 pm28 cd28 ct28 oc29 kV29 dc29 pm29 cd29 ct29 oc30 kV30 dc30 pm30 cd30 ct30 oc31 kV31 dc31 pm31 cd31 ct31 oc32 kV32 dc32 pm32 cd32 ct32 oc33 kV33 dc33 pm33 cd33 ct33 oc34 kV34 dc34 pm34 cd34 ct34 oc35 kV35 dc35 pm35 cd35 ct35 oc36 kV36 dc36 pm36 cd36 ct36 oc37 kV37 dc37 pm37 cd37 ct37 oc38 kV38 dc38 pm38 cd38 ct38 oc39 kV39 dc39 pm39 cd39 ct39 oc40 kV40 dc40 pm40 cd40 ct40 oc41 kV41 dc41 pm41 cd41 ct41 oc42 kV42 dc42 pm42 cd42 ct42 oc43 kV43 dc43 pm43 cd43 ct43 oc44 kV44 dc44 pm44 cd44 ct44 oc45 kV45 dc45 pm45 cd45 ct45 oc46 kV46 dc46 pm46 cd46 ct46 oc47 kV47 dc47 pm47 cd47 ct47 oc48 kV48 dc48 pm48 cd48 ct48 oc49 kV49 dc49 pm49 cd49 ct49 oc50 kV50 dc50 pm50 cd50 ct50 oc51 kV51 dc51 pm51 cd51 ct51 oc52 kV52 dc52 pm52 cd52 ct52 oc53 kV53 dc53 pm53 cd53 ct53 oc54 kV54 dc54 pm54 cd54 ct54 oc55 kV55 dc55 pm55 cd55 ct55 oc56 kV56 dc56 pm56 cd56 ct56 oc57 kV57 dc57 pm57 cd57 ct57 : Value} {t_LETTERS t_SMALL t_MOST_RANK t_LONGEST t_MOST_GIVEN t_MOST_LETTERS_folding t_MOST_LETTERS_showing : Tok}
  (a1 : PySem.W.nsIn K mainGlobals "is_between" = some (some (.ref f1)))
  (l1 : K.lookup f1 = some ⟨oc1, od1, .func (PySem.W.fnOf "is_between" "is_between" (defArgs s_is_between) (defBody s_is_between) (defScope s_is_between) .none kV1 dc1 pm1 an1 cd1 ct1), sl1⟩)
  (c1 : PySem.W.codeIn K cd1 "is_between" = true)
  (k1 : PySem.W.keepIn K (.ref f1) = true)
  (a2 : PySem.W.nsIn K mainGlobals "is_rank" = some (some (.ref f2)))
  (l2 : K.lookup f2 = some ⟨oc2, od2, .func (PySem.W.fnOf "is_rank" "is_rank" (defArgs s_is_rank) (defBody s_is_rank) (defScope s_is_rank) .none kV2 dc2 pm2 an2 cd2 ct2), sl2⟩)
  (c2 : PySem.W.codeIn K cd2 "is_rank" = true)
  (k2 : PySem.W.keepIn K (.ref f2) = true)
  (a3 : PySem.W.nsIn K mainGlobals "letters_of" = some (some (.ref f3)))
  (l3 : K.lookup f3 = some ⟨oc3, od3, .func (PySem.W.fnOf "letters_of" "letters_of" (defArgs s_letters_of) (defBody s_letters_of) (defScope s_letters_of) .none kV3 dc3 pm3 an3 cd3 ct3), sl3⟩)
  (c3 : PySem.W.codeIn K cd3 "letters_of" = true)
  (k3 : PySem.W.keepIn K (.ref f3) = true)
  (a4 : PySem.W.nsIn K mainGlobals "is_letters" = some (some (.ref f4)))
  (l4 : K.lookup f4 = some ⟨oc4, od4, .func (PySem.W.fnOf "is_letters" "is_letters" (defArgs s_is_letters) (defBody s_is_letters) (defScope s_is_letters) .none kV4 dc4 pm4 an4 cd4 ct4), sl4⟩)
  (c4 : PySem.W.codeIn K cd4 "is_letters" = true)
  (k4 : PySem.W.keepIn K (.ref f4) = true)
  (a5 : PySem.W.nsIn K mainGlobals "is_word" = some (some (.ref f5)))
  (l5 : K.lookup f5 = some ⟨oc5, od5, .func (PySem.W.fnOf "is_word" "is_word" (defArgs s_is_word) (defBody s_is_word) (defScope s_is_word) .none kV5 dc5 pm5 an5 cd5 ct5), sl5⟩)
  (c5 : PySem.W.codeIn K cd5 "is_word" = true)
  (k5 : PySem.W.keepIn K (.ref f5) = true)
  (a6 : PySem.W.nsIn K mainGlobals "opposite_of" = some (some (.ref f6)))
  (l6 : K.lookup f6 = some ⟨oc6, od6, .func (PySem.W.fnOf "opposite_of" "opposite_of" (defArgs s_opposite_of) (defBody s_opposite_of) (defScope s_opposite_of) .none kV6 dc6 pm6 an6 cd6 ct6), sl6⟩)
  (c6 : PySem.W.codeIn K cd6 "opposite_of" = true)
  (k6 : PySem.W.keepIn K (.ref f6) = true)
  (a7 : PySem.W.nsIn K mainGlobals "reduce_of" = some (some (.ref f7)))
  (l7 : K.lookup f7 = some ⟨oc7, od7, .func (PySem.W.fnOf "reduce_of" "reduce_of" (defArgs s_reduce_of) (defBody s_reduce_of) (defScope s_reduce_of) .none kV7 dc7 pm7 an7 cd7 ct7), sl7⟩)
  (c7 : PySem.W.codeIn K cd7 "reduce_of" = true)
  (k7 : PySem.W.keepIn K (.ref f7) = true)
  (a8 : PySem.W.nsIn K mainGlobals "inverse_of" = some (some (.ref f8)))
  (l8 : K.lookup f8 = some ⟨oc8, od8, .func (PySem.W.fnOf "inverse_of" "inverse_of" (defArgs s_inverse_of) (defBody s_inverse_of) (defScope s_inverse_of) .none kV8 dc8 pm8 an8 cd8 ct8), sl8⟩)
  (c8 : PySem.W.codeIn K cd8 "inverse_of" = true)
  (k8 : PySem.W.keepIn K (.ref f8) = true)
  (a9 : PySem.W.nsIn K mainGlobals "is_family" = some (some (.ref f9)))
  (l9 : K.lookup f9 = some ⟨oc9, od9, .func (PySem.W.fnOf "is_family" "is_family" (defArgs s_is_family) (defBody s_is_family) (defScope s_is_family) .none kV9 dc9 pm9 an9 cd9 ct9), sl9⟩)
  (c9 : PySem.W.codeIn K cd9 "is_family" = true)
  (k9 : PySem.W.keepIn K (.ref f9) = true)
  (a10 : PySem.W.nsIn K mainGlobals "check_family" = some (some (.ref f10)))
  (l10 : K.lookup f10 = some ⟨oc10, od10, .func (PySem.W.fnOf "check_family" "check_family" (defArgs s_check_family) (defBody s_check_family) (defScope s_check_family) .none kV10 dc10 pm10 an10 cd10 ct10), sl10⟩)
  (c10 : PySem.W.codeIn K cd10 "check_family" = true)
  (k10 : PySem.W.keepIn K (.ref f10) = true)
  (a11 : PySem.W.nsIn K mainGlobals "opposite" = some (some (.ref f11)))
  (l11 : K.lookup f11 = some ⟨oc11, od11, .func (PySem.W.fnOf "opposite" "opposite" (defArgs s_opposite) (defBody s_opposite) (defScope s_opposite) .none kV11 dc11 pm11 an11 cd11 ct11), sl11⟩)
  (c11 : PySem.W.codeIn K cd11 "opposite" = true)
  (k11 : PySem.W.keepIn K (.ref f11) = true)
  (a12 : PySem.W.nsIn K mainGlobals "shortened" = some (some (.ref f12)))
  (l12 : K.lookup f12 = some ⟨oc12, od12, .func (PySem.W.fnOf "shortened" "shortened" (defArgs s_shortened) (defBody s_shortened) (defScope s_shortened) .none kV12 dc12 pm12 an12 cd12 ct12), sl12⟩)
  (c12 : PySem.W.codeIn K cd12 "shortened" = true)
  (k12 : PySem.W.keepIn K (.ref f12) = true)
  (a13 : PySem.W.findIn K (.ref C) "root" = some (some (.ref f13)))
  (i13 : PySem.W.isFn K (.ref f13) = true)
  (l13 : K.lookup f13 = some ⟨oc13, od13, .func (PySem.W.fnOf "root" "Folding.root" (defArgs s_Folding_root) (defBody s_Folding_root) (defScope s_Folding_root) .none kV13 dc13 pm13 an13 cd13 ct13), sl13⟩)
  (c13 : PySem.W.codeIn K cd13 "Folding.root" = true)
  (k13 : PySem.W.keepIn K (.ref f13) = true)
  (a14 : PySem.W.findIn K (.ref C) "chain" = some (some (.ref f14)))
  (i14 : PySem.W.isFn K (.ref f14) = true)
  (l14 : K.lookup f14 = some ⟨oc14, od14, .func (PySem.W.fnOf "chain" "Folding.chain" (defArgs s_Folding_chain) (defBody s_Folding_chain) (defScope s_Folding_chain) .none kV14 dc14 pm14 an14 cd14 ct14), sl14⟩)
  (c14 : PySem.W.codeIn K cd14 "Folding.chain" = true)
  (k14 : PySem.W.keepIn K (.ref f14) = true)
  (a15 : PySem.W.findIn K (.ref C) "link" = some (some (.ref f15)))
  (i15 : PySem.W.isFn K (.ref f15) = true)
  (l15 : K.lookup f15 = some ⟨oc15, od15, .func (PySem.W.fnOf "link" "Folding.link" (defArgs s_Folding_link) (defBody s_Folding_link) (defScope s_Folding_link) .none kV15 dc15 pm15 an15 cd15 ct15), sl15⟩)
  (c15 : PySem.W.codeIn K cd15 "Folding.link" = true)
  (k15 : PySem.W.keepIn K (.ref f15) = true)
  (a16 : PySem.W.findIn K (.ref C) "merge" = some (some (.ref f16)))
  (i16 : PySem.W.isFn K (.ref f16) = true)
  (l16 : K.lookup f16 = some ⟨oc16, od16, .func (PySem.W.fnOf "merge" "Folding.merge" (defArgs s_Folding_merge) (defBody s_Folding_merge) (defScope s_Folding_merge) .none kV16 dc16 pm16 an16 cd16 ct16), sl16⟩)
  (c16 : PySem.W.codeIn K cd16 "Folding.merge" = true)
  (k16 : PySem.W.keepIn K (.ref f16) = true)
  (a17 : PySem.W.findIn K (.ref C) "fold_two" = some (some (.ref f17)))
  (i17 : PySem.W.isFn K (.ref f17) = true)
  (l17 : K.lookup f17 = some ⟨oc17, od17, .func (PySem.W.fnOf "fold_two" "Folding.fold_two" (defArgs s_Folding_fold_two) (defBody s_Folding_fold_two) (defScope s_Folding_fold_two) .none kV17 dc17 pm17 an17 cd17 ct17), sl17⟩)
  (c17 : PySem.W.codeIn K cd17 "Folding.fold_two" = true)
  (k17 : PySem.W.keepIn K (.ref f17) = true)
  (a18 : PySem.W.findIn K (.ref C) "fold_all" = some (some (.ref f18)))
  (i18 : PySem.W.isFn K (.ref f18) = true)
  (l18 : K.lookup f18 = some ⟨oc18, od18, .func (PySem.W.fnOf "fold_all" "Folding.fold_all" (defArgs s_Folding_fold_all) (defBody s_Folding_fold_all) (defScope s_Folding_fold_all) .none kV18 dc18 pm18 an18 cd18 ct18), sl18⟩)
  (c18 : PySem.W.codeIn K cd18 "Folding.fold_all" = true)
  (k18 : PySem.W.keepIn K (.ref f18) = true)
  (a19 : PySem.W.findIn K (.ref C) "add_petal" = some (some (.ref f19)))
  (i19 : PySem.W.isFn K (.ref f19) = true)
  (l19 : K.lookup f19 = some ⟨oc19, od19, .func (PySem.W.fnOf "add_petal" "Folding.add_petal" (defArgs s_Folding_add_petal) (defBody s_Folding_add_petal) (defScope s_Folding_add_petal) .none kV19 dc19 pm19 an19 cd19 ct19), sl19⟩)
  (c19 : PySem.W.codeIn K cd19 "Folding.add_petal" = true)
  (k19 : PySem.W.keepIn K (.ref f19) = true)
  (a20 : PySem.W.findIn K (.ref C) "__init__" = some (some (.ref f20)))
  (i20 : PySem.W.isFn K (.ref f20) = true)
  (l20 : K.lookup f20 = some ⟨oc20, od20, .func (PySem.W.fnOf "__init__" "Folding.__init__" (defArgs s_Folding_init) (defBody s_Folding_init) (defScope s_Folding_init) .none kV20 dc20 pm20 an20 cd20 ct20), sl20⟩)
  (c20 : PySem.W.codeIn K cd20 "Folding.__init__" = true)
  (k20 : PySem.W.keepIn K (.ref f20) = true)
  (a21 : PySem.W.nsIn K mainGlobals "numbered" = some (some (.ref f21)))
  (l21 : K.lookup f21 = some ⟨oc21, od21, .func (PySem.W.fnOf "numbered" "numbered" (defArgs s_numbered) (defBody s_numbered) (defScope s_numbered) .none kV21 dc21 pm21 an21 cd21 ct21), sl21⟩)
  (c21 : PySem.W.codeIn K cd21 "numbered" = true)
  (k21 : PySem.W.keepIn K (.ref f21) = true)
  (a22 : PySem.W.nsIn K mainGlobals "fold" = some (some (.ref f22)))
  (l22 : K.lookup f22 = some ⟨oc22, od22, .func (PySem.W.fnOf "fold" "fold" (defArgs s_fold) (defBody s_fold) (defScope s_fold) .none kV22 dc22 pm22 an22 cd22 ct22), sl22⟩)
  (c22 : PySem.W.codeIn K cd22 "fold" = true)
  (k22 : PySem.W.keepIn K (.ref f22) = true)
  (a23 : PySem.W.nsIn K mainGlobals "graph_in" = some (some (.ref f23)))
  (l23 : K.lookup f23 = some ⟨oc23, od23, .func (PySem.W.fnOf "graph_in" "graph_in" (defArgs s_graph_in) (defBody s_graph_in) (defScope s_graph_in) .none kV23 dc23 pm23 an23 cd23 ct23), sl23⟩)
  (c23 : PySem.W.codeIn K cd23 "graph_in" = true)
  (k23 : PySem.W.keepIn K (.ref f23) = true)
  (a24 : PySem.W.nsIn K mainGlobals "graph_of" = some (some (.ref f24)))
  (l24 : K.lookup f24 = some ⟨oc24, od24, .func (PySem.W.fnOf "graph_of" "graph_of" (defArgs s_graph_of) (defBody s_graph_of) (defScope s_graph_of) .none kV24 dc24 pm24 an24 cd24 ct24), sl24⟩)
  (c24 : PySem.W.codeIn K cd24 "graph_of" = true)
  (k24 : PySem.W.keepIn K (.ref f24) = true)
  (a25 : PySem.W.nsIn K mainGlobals "check_two" = some (some (.ref f25)))
  (l25 : K.lookup f25 = some ⟨oc25, od25, .func (PySem.W.fnOf "check_two" "check_two" (defArgs s_check_two) (defBody s_check_two) (defScope s_check_two) .none kV25 dc25 pm25 an25 cd25 ct25), sl25⟩)
  (c25 : PySem.W.codeIn K cd25 "check_two" = true)
  (k25 : PySem.W.keepIn K (.ref f25) = true)
  (a26 : PySem.W.nsIn K mainGlobals "ways_in" = some (some (.ref f26)))
  (l26 : K.lookup f26 = some ⟨oc26, od26, .func (PySem.W.fnOf "ways_in" "ways_in" (defArgs s_ways_in) (defBody s_ways_in) (defScope s_ways_in) .none kV26 dc26 pm26 an26 cd26 ct26), sl26⟩)
  (c26 : PySem.W.codeIn K cd26 "ways_in" = true)
  (k26 : PySem.W.keepIn K (.ref f26) = true)
  (a27 : PySem.W.nsIn K mainGlobals "ends_at" = some (some (.ref f27)))
  (l27 : K.lookup f27 = some ⟨oc27, od27, .func (PySem.W.fnOf "ends_at" "ends_at" (defArgs s_ends_at) (defBody s_ends_at) (defScope s_ends_at) .none kV27 dc27 pm27 an27 cd27 ct27), sl27⟩)
  (c27 : PySem.W.codeIn K cd27 "ends_at" = true)
  (k27 : PySem.W.keepIn K (.ref f27) = true)
  (a28 : PySem.W.nsIn K mainGlobals "is_long_word" = some (some (.ref f28)))
  (l28 : K.lookup f28 = some ⟨oc28, od28, .func (PySem.W.fnOf "is_long_word" "is_long_word" (defArgs s_is_long_word) (defBody s_is_long_word) (defScope s_is_long_word) .none kV28 dc28 pm28 an28 cd28 ct28), sl28⟩)
  (c28 : PySem.W.codeIn K cd28 "is_long_word" = true)
  (k28 : PySem.W.keepIn K (.ref f28) = true)
  (a29 : PySem.W.nsIn K mainGlobals "check_long" = some (some (.ref f29)))
  (l29 : K.lookup f29 = some ⟨oc29, od29, .func (PySem.W.fnOf "check_long" "check_long" (defArgs s_check_long) (defBody s_check_long) (defScope s_check_long) .none kV29 dc29 pm29 an29 cd29 ct29), sl29⟩)
  (c29 : PySem.W.codeIn K cd29 "check_long" = true)
  (k29 : PySem.W.keepIn K (.ref f29) = true)
  (a30 : PySem.W.nsIn K mainGlobals "trimmed_edges" = some (some (.ref f30)))
  (l30 : K.lookup f30 = some ⟨oc30, od30, .func (PySem.W.fnOf "trimmed_edges" "trimmed_edges" (defArgs s_trimmed_edges) (defBody s_trimmed_edges) (defScope s_trimmed_edges) .none kV30 dc30 pm30 an30 cd30 ct30), sl30⟩)
  (c30 : PySem.W.codeIn K cd30 "trimmed_edges" = true)
  (k30 : PySem.W.keepIn K (.ref f30) = true)
  (a31 : PySem.W.nsIn K mainGlobals "renumbered" = some (some (.ref f31)))
  (l31 : K.lookup f31 = some ⟨oc31, od31, .func (PySem.W.fnOf "renumbered" "renumbered" (defArgs s_renumbered) (defBody s_renumbered) (defScope s_renumbered) .none kV31 dc31 pm31 an31 cd31 ct31), sl31⟩)
  (c31 : PySem.W.codeIn K cd31 "renumbered" = true)
  (k31 : PySem.W.keepIn K (.ref f31) = true)
  (a32 : PySem.W.nsIn K mainGlobals "attach" = some (some (.ref f32)))
  (l32 : K.lookup f32 = some ⟨oc32, od32, .func (PySem.W.fnOf "attach" "attach" (defArgs s_attach) (defBody s_attach) (defScope s_attach) .none kV32 dc32 pm32 an32 cd32 ct32), sl32⟩)
  (c32 : PySem.W.codeIn K cd32 "attach" = true)
  (k32 : PySem.W.keepIn K (.ref f32) = true)
  (a33 : PySem.W.nsIn K mainGlobals "moved" = some (some (.ref f33)))
  (l33 : K.lookup f33 = some ⟨oc33, od33, .func (PySem.W.fnOf "moved" "moved" (defArgs s_moved) (defBody s_moved) (defScope s_moved) .none kV33 dc33 pm33 an33 cd33 ct33), sl33⟩)
  (c33 : PySem.W.codeIn K cd33 "moved" = true)
  (k33 : PySem.W.keepIn K (.ref f33) = true)
  (a34 : PySem.W.nsIn K mainGlobals "is_conjugate_by" = some (some (.ref f34)))
  (l34 : K.lookup f34 = some ⟨oc34, od34, .func (PySem.W.fnOf "is_conjugate_by" "is_conjugate_by" (defArgs s_is_conjugate_by) (defBody s_is_conjugate_by) (defScope s_is_conjugate_by) .none kV34 dc34 pm34 an34 cd34 ct34), sl34⟩)
  (c34 : PySem.W.codeIn K cd34 "is_conjugate_by" = true)
  (k34 : PySem.W.keepIn K (.ref f34) = true)
  (a35 : PySem.W.nsIn K mainGlobals "is_conjugator" = some (some (.ref f35)))
  (l35 : K.lookup f35 = some ⟨oc35, od35, .func (PySem.W.fnOf "is_conjugator" "is_conjugator" (defArgs s_is_conjugator) (defBody s_is_conjugator) (defScope s_is_conjugator) .none kV35 dc35 pm35 an35 cd35 ct35), sl35⟩)
  (c35 : PySem.W.codeIn K cd35 "is_conjugator" = true)
  (k35 : PySem.W.keepIn K (.ref f35) = true)
  (a36 : PySem.W.nsIn K mainGlobals "paths_in" = some (some (.ref f36)))
  (l36 : K.lookup f36 = some ⟨oc36, od36, .func (PySem.W.fnOf "paths_in" "paths_in" (defArgs s_paths_in) (defBody s_paths_in) (defScope s_paths_in) .none kV36 dc36 pm36 an36 cd36 ct36), sl36⟩)
  (c36 : PySem.W.codeIn K cd36 "paths_in" = true)
  (k36 : PySem.W.keepIn K (.ref f36) = true)
  (a37 : PySem.W.nsIn K mainGlobals "first_way" = some (some (.ref f37)))
  (l37 : K.lookup f37 = some ⟨oc37, od37, .func (PySem.W.fnOf "first_way" "first_way" (defArgs s_first_way) (defBody s_first_way) (defScope s_first_way) .none kV37 dc37 pm37 an37 cd37 ct37), sl37⟩)
  (c37 : PySem.W.codeIn K cd37 "first_way" = true)
  (k37 : PySem.W.keepIn K (.ref f37) = true)
  (a38 : PySem.W.nsIn K mainGlobals "tail_of" = some (some (.ref f38)))
  (l38 : K.lookup f38 = some ⟨oc38, od38, .func (PySem.W.fnOf "tail_of" "tail_of" (defArgs s_tail_of) (defBody s_tail_of) (defScope s_tail_of) .none kV38 dc38 pm38 an38 cd38 ct38), sl38⟩)
  (c38 : PySem.W.codeIn K cd38 "tail_of" = true)
  (k38 : PySem.W.keepIn K (.ref f38) = true)
  (a39 : PySem.W.nsIn K mainGlobals "order_key" = some (some (.ref f39)))
  (l39 : K.lookup f39 = some ⟨oc39, od39, .func (PySem.W.fnOf "order_key" "order_key" (defArgs s_order_key) (defBody s_order_key) (defScope s_order_key) .none kV39 dc39 pm39 an39 cd39 ct39), sl39⟩)
  (c39 : PySem.W.codeIn K cd39 "order_key" = true)
  (k39 : PySem.W.keepIn K (.ref f39) = true)
  (a40 : PySem.W.nsIn K mainGlobals "conjugator" = some (some (.ref f40)))
  (l40 : K.lookup f40 = some ⟨oc40, od40, .func (PySem.W.fnOf "conjugator" "conjugator" (defArgs s_conjugator) (defBody s_conjugator) (defScope s_conjugator) .none kV40 dc40 pm40 an40 cd40 ct40), sl40⟩)
  (c40 : PySem.W.codeIn K cd40 "conjugator" = true)
  (k40 : PySem.W.keepIn K (.ref f40) = true)
  (a41 : PySem.W.nsIn K mainGlobals "_law_flip" = some (some (.ref f41)))
  (l41 : K.lookup f41 = some ⟨oc41, od41, .func (PySem.W.fnOf "_law_flip" "_law_flip" (defArgs s_law_flip) (defBody s_law_flip) (defScope s_law_flip) .none kV41 dc41 pm41 an41 cd41 ct41), sl41⟩)
  (c41 : PySem.W.codeIn K cd41 "_law_flip" = true)
  (k41 : PySem.W.keepIn K (.ref f41) = true)
  (a42 : PySem.W.nsIn K mainGlobals "_law_reduce" = some (some (.ref f42)))
  (l42 : K.lookup f42 = some ⟨oc42, od42, .func (PySem.W.fnOf "_law_reduce" "_law_reduce" (defArgs s_law_reduce) (defBody s_law_reduce) (defScope s_law_reduce) .none kV42 dc42 pm42 an42 cd42 ct42), sl42⟩)
  (c42 : PySem.W.codeIn K cd42 "_law_reduce" = true)
  (k42 : PySem.W.keepIn K (.ref f42) = true)
  (a43 : PySem.W.nsIn K mainGlobals "_law_inverse" = some (some (.ref f43)))
  (l43 : K.lookup f43 = some ⟨oc43, od43, .func (PySem.W.fnOf "_law_inverse" "_law_inverse" (defArgs s_law_inverse) (defBody s_law_inverse) (defScope s_law_inverse) .none kV43 dc43 pm43 an43 cd43 ct43), sl43⟩)
  (c43 : PySem.W.codeIn K cd43 "_law_inverse" = true)
  (k43 : PySem.W.keepIn K (.ref f43) = true)
  (a44 : PySem.W.nsIn K mainGlobals "_law_letters" = some (some (.ref f44)))
  (l44 : K.lookup f44 = some ⟨oc44, od44, .func (PySem.W.fnOf "_law_letters" "_law_letters" (defArgs s_law_letters) (defBody s_law_letters) (defScope s_law_letters) .none kV44 dc44 pm44 an44 cd44 ct44), sl44⟩)
  (c44 : PySem.W.codeIn K cd44 "_law_letters" = true)
  (k44 : PySem.W.keepIn K (.ref f44) = true)
  (a45 : PySem.W.nsIn K mainGlobals "_law_next" = some (some (.ref f45)))
  (l45 : K.lookup f45 = some ⟨oc45, od45, .func (PySem.W.fnOf "_law_next" "_law_next" (defArgs s_law_next) (defBody s_law_next) (defScope s_law_next) .none kV45 dc45 pm45 an45 cd45 ct45), sl45⟩)
  (c45 : PySem.W.codeIn K cd45 "_law_next" = true)
  (k45 : PySem.W.keepIn K (.ref f45) = true)
  (a46 : PySem.W.nsIn K mainGlobals "_law_stream" = some (some (.ref f46)))
  (l46 : K.lookup f46 = some ⟨oc46, od46, .func (PySem.W.fnOf "_law_stream" "_law_stream" (defArgs s_law_stream) (defBody s_law_stream) (defScope s_law_stream) .none kV46 dc46 pm46 an46 cd46 ct46), sl46⟩)
  (c46 : PySem.W.codeIn K cd46 "_law_stream" = true)
  (k46 : PySem.W.keepIn K (.ref f46) = true)
  (a47 : PySem.W.nsIn K mainGlobals "_law_word" = some (some (.ref f47)))
  (l47 : K.lookup f47 = some ⟨oc47, od47, .func (PySem.W.fnOf "_law_word" "_law_word" (defArgs s_law_word) (defBody s_law_word) (defScope s_law_word) .none kV47 dc47 pm47 an47 cd47 ct47), sl47⟩)
  (c47 : PySem.W.codeIn K cd47 "_law_word" = true)
  (k47 : PySem.W.keepIn K (.ref f47) = true)
  (a48 : PySem.W.nsIn K mainGlobals "_law_given" = some (some (.ref f48)))
  (l48 : K.lookup f48 = some ⟨oc48, od48, .func (PySem.W.fnOf "_law_given" "_law_given" (defArgs s_law_given) (defBody s_law_given) (defScope s_law_given) .none kV48 dc48 pm48 an48 cd48 ct48), sl48⟩)
  (c48 : PySem.W.codeIn K cd48 "_law_given" = true)
  (k48 : PySem.W.keepIn K (.ref f48) = true)
  (a49 : PySem.W.nsIn K mainGlobals "_law_pair" = some (some (.ref f49)))
  (l49 : K.lookup f49 = some ⟨oc49, od49, .func (PySem.W.fnOf "_law_pair" "_law_pair" (defArgs s_law_pair) (defBody s_law_pair) (defScope s_law_pair) .none kV49 dc49 pm49 an49 cd49 ct49), sl49⟩)
  (c49 : PySem.W.codeIn K cd49 "_law_pair" = true)
  (k49 : PySem.W.keepIn K (.ref f49) = true)
  (a50 : PySem.W.nsIn K mainGlobals "_law_words" = some (some (.ref f50)))
  (l50 : K.lookup f50 = some ⟨oc50, od50, .func (PySem.W.fnOf "_law_words" "_law_words" (defArgs s_law_words) (defBody s_law_words) (defScope s_law_words) .none kV50 dc50 pm50 an50 cd50 ct50), sl50⟩)
  (c50 : PySem.W.codeIn K cd50 "_law_words" = true)
  (k50 : PySem.W.keepIn K (.ref f50) = true)
  (a51 : PySem.W.nsIn K mainGlobals "_law_walk" = some (some (.ref f51)))
  (l51 : K.lookup f51 = some ⟨oc51, od51, .func (PySem.W.fnOf "_law_walk" "_law_walk" (defArgs s_law_walk) (defBody s_law_walk) (defScope s_law_walk) .none kV51 dc51 pm51 an51 cd51 ct51), sl51⟩)
  (c51 : PySem.W.codeIn K cd51 "_law_walk" = true)
  (k51 : PySem.W.keepIn K (.ref f51) = true)
  (a52 : PySem.W.nsIn K mainGlobals "_law_clash" = some (some (.ref f52)))
  (l52 : K.lookup f52 = some ⟨oc52, od52, .func (PySem.W.fnOf "_law_clash" "_law_clash" (defArgs s_law_clash) (defBody s_law_clash) (defScope s_law_clash) .none kV52 dc52 pm52 an52 cd52 ct52), sl52⟩)
  (c52 : PySem.W.codeIn K cd52 "_law_clash" = true)
  (k52 : PySem.W.keepIn K (.ref f52) = true)
  (a53 : PySem.W.nsIn K mainGlobals "_law_fold" = some (some (.ref f53)))
  (l53 : K.lookup f53 = some ⟨oc53, od53, .func (PySem.W.fnOf "_law_fold" "_law_fold" (defArgs s_law_fold) (defBody s_law_fold) (defScope s_law_fold) .none kV53 dc53 pm53 an53 cd53 ct53), sl53⟩)
  (c53 : PySem.W.codeIn K cd53 "_law_fold" = true)
  (k53 : PySem.W.keepIn K (.ref f53) = true)
  (a54 : PySem.W.nsIn K mainGlobals "_law_belongs" = some (some (.ref f54)))
  (l54 : K.lookup f54 = some ⟨oc54, od54, .func (PySem.W.fnOf "_law_belongs" "_law_belongs" (defArgs s_law_belongs) (defBody s_law_belongs) (defScope s_law_belongs) .none kV54 dc54 pm54 an54 cd54 ct54), sl54⟩)
  (c54 : PySem.W.codeIn K cd54 "_law_belongs" = true)
  (k54 : PySem.W.keepIn K (.ref f54) = true)
  (a55 : PySem.W.nsIn K mainGlobals "_law_goes" = some (some (.ref f55)))
  (l55 : K.lookup f55 = some ⟨oc55, od55, .func (PySem.W.fnOf "_law_goes" "_law_goes" (defArgs s_law_goes) (defBody s_law_goes) (defScope s_law_goes) .none kV55 dc55 pm55 an55 cd55 ct55), sl55⟩)
  (c55 : PySem.W.codeIn K cd55 "_law_goes" = true)
  (k55 : PySem.W.keepIn K (.ref f55) = true)
  (a56 : PySem.W.nsIn K mainGlobals "_law_is_conjugator" = some (some (.ref f56)))
  (l56 : K.lookup f56 = some ⟨oc56, od56, .func (PySem.W.fnOf "_law_is_conjugator" "_law_is_conjugator" (defArgs s_law_is_conjugator) (defBody s_law_is_conjugator) (defScope s_law_is_conjugator) .none kV56 dc56 pm56 an56 cd56 ct56), sl56⟩)
  (c56 : PySem.W.codeIn K cd56 "_law_is_conjugator" = true)
  (k56 : PySem.W.keepIn K (.ref f56) = true)
  (a57 : PySem.W.nsIn K mainGlobals "law" = some (some (.ref f57)))
  (l57 : K.lookup f57 = some ⟨oc57, od57, .func (PySem.W.fnOf "law" "law" (defArgs s_law) (defBody s_law) (defScope s_law) .none kV57 dc57 pm57 an57 cd57 ct57), sl57⟩)
  (c57 : PySem.W.codeIn K cd57 "law" = true)
  (k57 : PySem.W.keepIn K (.ref f57) = true)
  (aC : PySem.W.nsIn K mainGlobals "Folding" = some (some (.ref C)))
  (pgC : PySem.W.plainGet K C Str.empty = true)
  (hdC : PySem.W.hasDictIn K C = true)
  (poC : PySem.W.plainOver K C = true)
  (saC : PySem.W.findIn K (.ref C) "__setattr__" = some (some (.builtin "object.__setattr__")))
  (mkC : PySem.W.makesIn K C = true)
  (kcC : PySem.W.keepIn K (.ref C) = true)
  (n_prefixes : PySem.W.findIn K (.ref C) "prefixes" = some none)
  (n_edges : PySem.W.findIn K (.ref C) "edges" = some none)
  (n_parents : PySem.W.findIn K (.ref C) "parents" = some none)
  (n_links : PySem.W.findIn K (.ref C) "links" = some none)
  (n_steps : PySem.W.findIn K (.ref C) "steps" = some none)
  (z_len : PySem.W.nsIn K mainGlobals "len" = some none)
  (z_isinstance : PySem.W.nsIn K mainGlobals "isinstance" = some none)
  (z_int : PySem.W.nsIn K mainGlobals "int" = some none)
  (z_bool : PySem.W.nsIn K mainGlobals "bool" = some none)
  (z_str : PySem.W.nsIn K mainGlobals "str" = some none)
  (z_tuple : PySem.W.nsIn K mainGlobals "tuple" = some none)
  (z_list : PySem.W.nsIn K mainGlobals "list" = some none)
  (z_all : PySem.W.nsIn K mainGlobals "all" = some none)
  (z_sum : PySem.W.nsIn K mainGlobals "sum" = some none)
  (z_sorted : PySem.W.nsIn K mainGlobals "sorted" = some none)
  (z_enumerate : PySem.W.nsIn K mainGlobals "enumerate" = some none)
  (z_range : PySem.W.nsIn K mainGlobals "range" = some none)
  (z_min : PySem.W.nsIn K mainGlobals "min" = some none)
  (z_max : PySem.W.nsIn K mainGlobals "max" = some none)
  (z_abs : PySem.W.nsIn K mainGlobals "abs" = some none)
  (c_LETTERS : PySem.W.nsIn K mainGlobals "LETTERS" = some (some (.str "aAbBcC" t_LETTERS)))
  (c_SMALL : PySem.W.nsIn K mainGlobals "SMALL" = some (some (.str "abc" t_SMALL)))
  (c_MOST_RANK : PySem.W.nsIn K mainGlobals "MOST_RANK" = some (some (.int 3 t_MOST_RANK)))
  (c_LONGEST : PySem.W.nsIn K mainGlobals "LONGEST" = some (some (.int 24 t_LONGEST)))
  (c_MOST_GIVEN : PySem.W.nsIn K mainGlobals "MOST_GIVEN" = some (some (.int 4 t_MOST_GIVEN)))
  (c_MOST_LETTERS_folding : PySem.W.nsIn K mainGlobals "MOST_LETTERS_folding" = some (some (.int 8 t_MOST_LETTERS_folding)))
  (c_MOST_LETTERS_showing : PySem.W.nsIn K mainGlobals "MOST_LETTERS_showing" = some (some (.int 100 t_MOST_LETTERS_showing))) :
    ∃ fd : FuncData, (∀ (s : Shared) (v : Value), BindsTo s fd ⟨[v], []⟩ [("_law_script", v)]) ∧ ∀ base : Heap, K.In base → base.Ns mainGlobals mg → FnOk l.prog w K mg base CX0 13 fa fd pn_law (spLaw K) := by
  have e := hfa.symm.trans (PySem.W.mg_of X G a57)
  cases e
  have T : Cf K C := ⟨⟨pgC, hdC, poC, saC⟩, n_prefixes, n_edges, n_parents, n_links, n_steps⟩
  have B : Bs mg := ⟨PySem.W.mg_none_of X G z_len, PySem.W.mg_none_of X G z_isinstance, PySem.W.mg_none_of X G z_int, PySem.W.mg_none_of X G z_bool, PySem.W.mg_none_of X G z_str, PySem.W.mg_none_of X G z_tuple, PySem.W.mg_none_of X G z_list, PySem.W.mg_none_of X G z_all, PySem.W.mg_none_of X G z_sum, PySem.W.mg_none_of X G z_sorted, PySem.W.mg_none_of X G z_enumerate, PySem.W.mg_none_of X G z_range, PySem.W.mg_none_of X G z_min, PySem.W.mg_none_of X G z_max, PySem.W.mg_none_of X G z_abs, ⟨_, PySem.W.mg_of X G c_LETTERS, ⟨_, rfl⟩⟩, ⟨_, PySem.W.mg_of X G c_SMALL, ⟨_, rfl⟩⟩, ⟨_, PySem.W.mg_of X G c_MOST_RANK, ⟨_, rfl⟩⟩, ⟨_, PySem.W.mg_of X G c_LONGEST, ⟨_, rfl⟩⟩, ⟨_, PySem.W.mg_of X G c_MOST_GIVEN, ⟨_, rfl⟩⟩, ⟨_, PySem.W.mg_of X G c_MOST_LETTERS_folding, ⟨_, rfl⟩⟩, ⟨_, PySem.W.mg_of X G c_MOST_LETTERS_showing, ⟨_, rfl⟩⟩⟩
  have F1 := fun_mk (st := s_is_between) l1 c1 k1
  have b1 := F1.binds (ps := pn_is_between) fun _ _ _ _ _ _ us hl => match us, hl with | [_, _, _], _ => rfl
  have X1 : Fx K mg "is_between" s_is_between pn_is_between := ⟨⟨_, _, F1, PySem.W.mg_of X G a1, b1⟩⟩
  have F2 := fun_mk (st := s_is_rank) l2 c2 k2
  have b2 := F2.binds (ps := pn_is_rank) fun _ _ _ _ _ _ us hl => match us, hl with | [_], _ => rfl
  have X2 : Fx K mg "is_rank" s_is_rank pn_is_rank := ⟨⟨_, _, F2, PySem.W.mg_of X G a2, b2⟩⟩
  have F3 := fun_mk (st := s_letters_of) l3 c3 k3
  have b3 := F3.binds (ps := pn_letters_of) fun _ _ _ _ _ _ us hl => match us, hl with | [_], _ => rfl
  have X3 : Fx K mg "letters_of" s_letters_of pn_letters_of := ⟨⟨_, _, F3, PySem.W.mg_of X G a3, b3⟩⟩
  have F4 := fun_mk (st := s_is_letters) l4 c4 k4
  have b4 := F4.binds (ps := pn_is_letters) fun _ _ _ _ _ _ us hl => match us, hl with | [_, _], _ => rfl
  have X4 : Fx K mg "is_letters" s_is_letters pn_is_letters := ⟨⟨_, _, F4, PySem.W.mg_of X G a4, b4⟩⟩
  have F5 := fun_mk (st := s_is_word) l5 c5 k5
  have b5 := F5.binds (ps := pn_is_word) fun _ _ _ _ _ _ us hl => match us, hl with | [_, _], _ => rfl
  have X5 : Fx K mg "is_word" s_is_word pn_is_word := ⟨⟨_, _, F5, PySem.W.mg_of X G a5, b5⟩⟩
  have F6 := fun_mk (st := s_opposite_of) l6 c6 k6
  have b6 := F6.binds (ps := pn_opposite_of) fun _ _ _ _ _ _ us hl => match us, hl with | [_], _ => rfl
  have X6 : Fx K mg "opposite_of" s_opposite_of pn_opposite_of := ⟨⟨_, _, F6, PySem.W.mg_of X G a6, b6⟩⟩
  have F7 := fun_mk (st := s_reduce_of) l7 c7 k7
  have b7 := F7.binds (ps := pn_reduce_of) fun _ _ _ _ _ _ us hl => match us, hl with | [_], _ => rfl
  have X7 : Fx K mg "reduce_of" s_reduce_of pn_reduce_of := ⟨⟨_, _, F7, PySem.W.mg_of X G a7, b7⟩⟩
  have F8 := fun_mk (st := s_inverse_of) l8 c8 k8
  have b8 := F8.binds (ps := pn_inverse_of) fun _ _ _ _ _ _ us hl => match us, hl with | [_], _ => rfl
  have X8 : Fx K mg "inverse_of" s_inverse_of pn_inverse_of := ⟨⟨_, _, F8, PySem.W.mg_of X G a8, b8⟩⟩
  have F9 := fun_mk (st := s_is_family) l9 c9 k9
  have b9 := F9.binds (ps := pn_is_family) fun _ _ _ _ _ _ us hl => match us, hl with | [_], _ => rfl
  have X9 : Fx K mg "is_family" s_is_family pn_is_family := ⟨⟨_, _, F9, PySem.W.mg_of X G a9, b9⟩⟩
  have F10 := fun_mk (st := s_check_family) l10 c10 k10
  have b10 := F10.binds (ps := pn_check_family) fun _ _ _ _ _ _ us hl => match us, hl with | [_], _ => rfl
  have X10 : Fx K mg "check_family" s_check_family pn_check_family := ⟨⟨_, _, F10, PySem.W.mg_of X G a10, b10⟩⟩
  have F11 := fun_mk (st := s_opposite) l11 c11 k11
  have b11 := F11.binds (ps := pn_opposite) fun _ _ _ _ _ _ us hl => match us, hl with | [_], _ => rfl
  have X11 : Fx K mg "opposite" s_opposite pn_opposite := ⟨⟨_, _, F11, PySem.W.mg_of X G a11, b11⟩⟩
  have F12 := fun_mk (st := s_shortened) l12 c12 k12
  have b12 := F12.binds (ps := pn_shortened) fun _ _ _ _ _ _ us hl => match us, hl with | [_], _ => rfl
  have X12 : Fx K mg "shortened" s_shortened pn_shortened := ⟨⟨_, _, F12, PySem.W.mg_of X G a12, b12⟩⟩
  have F13 := fun_mk (st := s_Folding_root) l13 c13 k13
  have b13 := F13.binds (ps := pn_Folding_root) fun _ _ _ _ _ _ us hl => match us, hl with | [_, _], _ => rfl
  have X13 : Mx K C "root" "Folding.root" s_Folding_root pn_Folding_root := ⟨⟨_, _, F13, ⟨a13, i13, k13⟩, b13⟩, T.cl⟩
  have F14 := fun_mk (st := s_Folding_chain) l14 c14 k14
  have b14 := F14.binds (ps := pn_Folding_chain) fun _ _ _ _ _ _ us hl => match us, hl with | [_, _], _ => rfl
  have X14 : Mx K C "chain" "Folding.chain" s_Folding_chain pn_Folding_chain := ⟨⟨_, _, F14, ⟨a14, i14, k14⟩, b14⟩, T.cl⟩
  have F15 := fun_mk (st := s_Folding_link) l15 c15 k15
  have b15 := F15.binds (ps := pn_Folding_link) fun _ _ _ _ _ _ us hl => match us, hl with | [_, _, _, _], _ => rfl
  have X15 : Mx K C "link" "Folding.link" s_Folding_link pn_Folding_link := ⟨⟨_, _, F15, ⟨a15, i15, k15⟩, b15⟩, T.cl⟩
  have F16 := fun_mk (st := s_Folding_merge) l16 c16 k16
  have b16 := F16.binds (ps := pn_Folding_merge) fun _ _ _ _ _ _ us hl => match us, hl with | [_, _, _, _], _ => rfl
  have X16 : Mx K C "merge" "Folding.merge" s_Folding_merge pn_Folding_merge := ⟨⟨_, _, F16, ⟨a16, i16, k16⟩, b16⟩, T.cl⟩
  have F17 := fun_mk (st := s_Folding_fold_two) l17 c17 k17
  have b17 := F17.binds (ps := pn_Folding_fold_two) fun _ _ _ _ _ _ us hl => match us, hl with | [_, _, _], _ => rfl
  have X17 : Mx K C "fold_two" "Folding.fold_two" s_Folding_fold_two pn_Folding_fold_two := ⟨⟨_, _, F17, ⟨a17, i17, k17⟩, b17⟩, T.cl⟩
  have F18 := fun_mk (st := s_Folding_fold_all) l18 c18 k18
  have b18 := F18.binds (ps := pn_Folding_fold_all) fun _ _ _ _ _ _ us hl => match us, hl with | [_], _ => rfl
  have X18 : Mx K C "fold_all" "Folding.fold_all" s_Folding_fold_all pn_Folding_fold_all := ⟨⟨_, _, F18, ⟨a18, i18, k18⟩, b18⟩, T.cl⟩
  have F19 := fun_mk (st := s_Folding_add_petal) l19 c19 k19
  have b19 := F19.binds (ps := pn_Folding_add_petal) fun _ _ _ _ _ _ us hl => match us, hl with | [_, _], _ => rfl
  have X19 : Mx K C "add_petal" "Folding.add_petal" s_Folding_add_petal pn_Folding_add_petal := ⟨⟨_, _, F19, ⟨a19, i19, k19⟩, b19⟩, T.cl⟩
  have F20 := fun_mk (st := s_Folding_init) l20 c20 k20
  have b20 := F20.binds (ps := pn_Folding_init) fun _ _ _ _ _ _ us hl => match us, hl with | [_, _], _ => rfl
  have X20 : Ix K mg C "Folding" "__init__" "Folding.__init__" s_Folding_init pn_Folding_init := ⟨⟨_, _, F20, ⟨mkC, a20, i20, kcC⟩, b20⟩, PySem.W.mg_of X G aC⟩
  have F21 := fun_mk (st := s_numbered) l21 c21 k21
  have b21 := F21.binds (ps := pn_numbered) fun _ _ _ _ _ _ us hl => match us, hl with | [_], _ => rfl
  have X21 : Fx K mg "numbered" s_numbered pn_numbered := ⟨⟨_, _, F21, PySem.W.mg_of X G a21, b21⟩⟩
  have F22 := fun_mk (st := s_fold) l22 c22 k22
  have b22 := F22.binds (ps := pn_fold) fun _ _ _ _ _ _ us hl => match us, hl with | [_, _], _ => rfl
  have X22 : Fx K mg "fold" s_fold pn_fold := ⟨⟨_, _, F22, PySem.W.mg_of X G a22, b22⟩⟩
  have F23 := fun_mk (st := s_graph_in) l23 c23 k23
  have b23 := F23.binds (ps := pn_graph_in) fun _ _ _ _ _ _ us hl => match us, hl with | [_], _ => rfl
  have X23 : Fx K mg "graph_in" s_graph_in pn_graph_in := ⟨⟨_, _, F23, PySem.W.mg_of X G a23, b23⟩⟩
  have F24 := fun_mk (st := s_graph_of) l24 c24 k24
  have b24 := F24.binds (ps := pn_graph_of) fun _ _ _ _ _ _ us hl => match us, hl with | [_], _ => rfl
  have X24 : Fx K mg "graph_of" s_graph_of pn_graph_of := ⟨⟨_, _, F24, PySem.W.mg_of X G a24, b24⟩⟩
  have F25 := fun_mk (st := s_check_two) l25 c25 k25
  have b25 := F25.binds (ps := pn_check_two) fun _ _ _ _ _ _ us hl => match us, hl with | [_, _], _ => rfl
  have X25 : Fx K mg "check_two" s_check_two pn_check_two := ⟨⟨_, _, F25, PySem.W.mg_of X G a25, b25⟩⟩
  have F26 := fun_mk (st := s_ways_in) l26 c26 k26
  have b26 := F26.binds (ps := pn_ways_in) fun _ _ _ _ _ _ us hl => match us, hl with | [_], _ => rfl
  have X26 : Fx K mg "ways_in" s_ways_in pn_ways_in := ⟨⟨_, _, F26, PySem.W.mg_of X G a26, b26⟩⟩
  have F27 := fun_mk (st := s_ends_at) l27 c27 k27
  have b27 := F27.binds (ps := pn_ends_at) fun _ _ _ _ _ _ us hl => match us, hl with | [_, _], _ => rfl
  have X27 : Fx K mg "ends_at" s_ends_at pn_ends_at := ⟨⟨_, _, F27, PySem.W.mg_of X G a27, b27⟩⟩
  have F28 := fun_mk (st := s_is_long_word) l28 c28 k28
  have b28 := F28.binds (ps := pn_is_long_word) fun _ _ _ _ _ _ us hl => match us, hl with | [_, _], _ => rfl
  have X28 : Fx K mg "is_long_word" s_is_long_word pn_is_long_word := ⟨⟨_, _, F28, PySem.W.mg_of X G a28, b28⟩⟩
  have F29 := fun_mk (st := s_check_long) l29 c29 k29
  have b29 := F29.binds (ps := pn_check_long) fun _ _ _ _ _ _ us hl => match us, hl with | [_, _, _], _ => rfl
  have X29 : Fx K mg "check_long" s_check_long pn_check_long := ⟨⟨_, _, F29, PySem.W.mg_of X G a29, b29⟩⟩
  have F30 := fun_mk (st := s_trimmed_edges) l30 c30 k30
  have b30 := F30.binds (ps := pn_trimmed_edges) fun _ _ _ _ _ _ us hl => match us, hl with | [_, _], _ => rfl
  have X30 : Fx K mg "trimmed_edges" s_trimmed_edges pn_trimmed_edges := ⟨⟨_, _, F30, PySem.W.mg_of X G a30, b30⟩⟩
  have F31 := fun_mk (st := s_renumbered) l31 c31 k31
  have b31 := F31.binds (ps := pn_renumbered) fun _ _ _ _ _ _ us hl => match us, hl with | [_, _], _ => rfl
  have X31 : Fx K mg "renumbered" s_renumbered pn_renumbered := ⟨⟨_, _, F31, PySem.W.mg_of X G a31, b31⟩⟩
  have F32 := fun_mk (st := s_attach) l32 c32 k32
  have b32 := F32.binds (ps := pn_attach) fun _ _ _ _ _ _ us hl => match us, hl with | [_, _], _ => rfl
  have X32 : Fx K mg "attach" s_attach pn_attach := ⟨⟨_, _, F32, PySem.W.mg_of X G a32, b32⟩⟩
  have F33 := fun_mk (st := s_moved) l33 c33 k33
  have b33 := F33.binds (ps := pn_moved) fun _ _ _ _ _ _ us hl => match us, hl with | [_, _], _ => rfl
  have X33 : Fx K mg "moved" s_moved pn_moved := ⟨⟨_, _, F33, PySem.W.mg_of X G a33, b33⟩⟩
  have F34 := fun_mk (st := s_is_conjugate_by) l34 c34 k34
  have b34 := F34.binds (ps := pn_is_conjugate_by) fun _ _ _ _ _ _ us hl => match us, hl with | [_, _, _], _ => rfl
  have X34 : Fx K mg "is_conjugate_by" s_is_conjugate_by pn_is_conjugate_by := ⟨⟨_, _, F34, PySem.W.mg_of X G a34, b34⟩⟩
  have F35 := fun_mk (st := s_is_conjugator) l35 c35 k35
  have b35 := F35.binds (ps := pn_is_conjugator) fun _ _ _ _ _ _ us hl => match us, hl with | [_, _, _], _ => rfl
  have X35 : Fx K mg "is_conjugator" s_is_conjugator pn_is_conjugator := ⟨⟨_, _, F35, PySem.W.mg_of X G a35, b35⟩⟩
  have F36 := fun_mk (st := s_paths_in) l36 c36 k36
  have b36 := F36.binds (ps := pn_paths_in) fun _ _ _ _ _ _ us hl => match us, hl with | [_, _], _ => rfl
  have X36 : Fx K mg "paths_in" s_paths_in pn_paths_in := ⟨⟨_, _, F36, PySem.W.mg_of X G a36, b36⟩⟩
  have F37 := fun_mk (st := s_first_way) l37 c37 k37
  have b37 := F37.binds (ps := pn_first_way) fun _ _ _ _ _ _ us hl => match us, hl with | [_, _, _], _ => rfl
  have X37 : Fx K mg "first_way" s_first_way pn_first_way := ⟨⟨_, _, F37, PySem.W.mg_of X G a37, b37⟩⟩
  have F38 := fun_mk (st := s_tail_of) l38 c38 k38
  have b38 := F38.binds (ps := pn_tail_of) fun _ _ _ _ _ _ us hl => match us, hl with | [_], _ => rfl
  have X38 : Fx K mg "tail_of" s_tail_of pn_tail_of := ⟨⟨_, _, F38, PySem.W.mg_of X G a38, b38⟩⟩
  have F39 := fun_mk (st := s_order_key) l39 c39 k39
  have b39 := F39.binds (ps := pn_order_key) fun _ _ _ _ _ _ us hl => match us, hl with | [_], _ => rfl
  have X39 : Fx K mg "order_key" s_order_key pn_order_key := ⟨⟨_, _, F39, PySem.W.mg_of X G a39, b39⟩⟩
  have F40 := fun_mk (st := s_conjugator) l40 c40 k40
  have b40 := F40.binds (ps := pn_conjugator) fun _ _ _ _ _ _ us hl => match us, hl with | [_, _], _ => rfl
  have X40 : Fx K mg "conjugator" s_conjugator pn_conjugator := ⟨⟨_, _, F40, PySem.W.mg_of X G a40, b40⟩⟩
  have F41 := fun_mk (st := s_law_flip) l41 c41 k41
  have b41 := F41.binds (ps := pn_law_flip) fun _ _ _ _ _ _ us hl => match us, hl with | [_], _ => rfl
  have X41 : Fx K mg "_law_flip" s_law_flip pn_law_flip := ⟨⟨_, _, F41, PySem.W.mg_of X G a41, b41⟩⟩
  have F42 := fun_mk (st := s_law_reduce) l42 c42 k42
  have b42 := F42.binds (ps := pn_law_reduce) fun _ _ _ _ _ _ us hl => match us, hl with | [_], _ => rfl
  have X42 : Fx K mg "_law_reduce" s_law_reduce pn_law_reduce := ⟨⟨_, _, F42, PySem.W.mg_of X G a42, b42⟩⟩
  have F43 := fun_mk (st := s_law_inverse) l43 c43 k43
  have b43 := F43.binds (ps := pn_law_inverse) fun _ _ _ _ _ _ us hl => match us, hl with | [_], _ => rfl
  have X43 : Fx K mg "_law_inverse" s_law_inverse pn_law_inverse := ⟨⟨_, _, F43, PySem.W.mg_of X G a43, b43⟩⟩
  have F44 := fun_mk (st := s_law_letters) l44 c44 k44
  have b44 := F44.binds (ps := pn_law_letters) fun _ _ _ _ _ _ us hl => match us, hl with | [_], _ => rfl
  have X44 : Fx K mg "_law_letters" s_law_letters pn_law_letters := ⟨⟨_, _, F44, PySem.W.mg_of X G a44, b44⟩⟩
  have F45 := fun_mk (st := s_law_next) l45 c45 k45
  have b45 := F45.binds (ps := pn_law_next) fun _ _ _ _ _ _ us hl => match us, hl with | [_, _], _ => rfl
  have X45 : Fx K mg "_law_next" s_law_next pn_law_next := ⟨⟨_, _, F45, PySem.W.mg_of X G a45, b45⟩⟩
  have F46 := fun_mk (st := s_law_stream) l46 c46 k46
  have b46 := F46.binds (ps := pn_law_stream) fun _ _ _ _ _ _ us hl => match us, hl with | [_], _ => rfl
  have X46 : Fx K mg "_law_stream" s_law_stream pn_law_stream := ⟨⟨_, _, F46, PySem.W.mg_of X G a46, b46⟩⟩
  have F47 := fun_mk (st := s_law_word) l47 c47 k47
  have b47 := F47.binds (ps := pn_law_word) fun _ _ _ _ _ _ us hl => match us, hl with | [_, _, _], _ => rfl
  have X47 : Fx K mg "_law_word" s_law_word pn_law_word := ⟨⟨_, _, F47, PySem.W.mg_of X G a47, b47⟩⟩
  have F48 := fun_mk (st := s_law_given) l48 c48 k48
  have b48 := F48.binds (ps := pn_law_given) fun _ _ _ _ _ _ us hl => match us, hl with | [_, _], _ => rfl
  have X48 : Fx K mg "_law_given" s_law_given pn_law_given := ⟨⟨_, _, F48, PySem.W.mg_of X G a48, b48⟩⟩
  have F49 := fun_mk (st := s_law_pair) l49 c49 k49
  have b49 := F49.binds (ps := pn_law_pair) fun _ _ _ _ _ _ us hl => match us, hl with | [_], _ => rfl
  have X49 : Fx K mg "_law_pair" s_law_pair pn_law_pair := ⟨⟨_, _, F49, PySem.W.mg_of X G a49, b49⟩⟩
  have F50 := fun_mk (st := s_law_words) l50 c50 k50
  have b50 := F50.binds (ps := pn_law_words) fun _ _ _ _ _ _ us hl => match us, hl with | [_, _], _ => rfl
  have X50 : Fx K mg "_law_words" s_law_words pn_law_words := ⟨⟨_, _, F50, PySem.W.mg_of X G a50, b50⟩⟩
  have F51 := fun_mk (st := s_law_walk) l51 c51 k51
  have b51 := F51.binds (ps := pn_law_walk) fun _ _ _ _ _ _ us hl => match us, hl with | [_, _], _ => rfl
  have X51 : Fx K mg "_law_walk" s_law_walk pn_law_walk := ⟨⟨_, _, F51, PySem.W.mg_of X G a51, b51⟩⟩
  have F52 := fun_mk (st := s_law_clash) l52 c52 k52
  have b52 := F52.binds (ps := pn_law_clash) fun _ _ _ _ _ _ us hl => match us, hl with | [_, _], _ => rfl
  have X52 : Fx K mg "_law_clash" s_law_clash pn_law_clash := ⟨⟨_, _, F52, PySem.W.mg_of X G a52, b52⟩⟩
  have F53 := fun_mk (st := s_law_fold) l53 c53 k53
  have b53 := F53.binds (ps := pn_law_fold) fun _ _ _ _ _ _ us hl => match us, hl with | [_], _ => rfl
  have X53 : Fx K mg "_law_fold" s_law_fold pn_law_fold := ⟨⟨_, _, F53, PySem.W.mg_of X G a53, b53⟩⟩
  have F54 := fun_mk (st := s_law_belongs) l54 c54 k54
  have b54 := F54.binds (ps := pn_law_belongs) fun _ _ _ _ _ _ us hl => match us, hl with | [_, _], _ => rfl
  have X54 : Fx K mg "_law_belongs" s_law_belongs pn_law_belongs := ⟨⟨_, _, F54, PySem.W.mg_of X G a54, b54⟩⟩
  have F55 := fun_mk (st := s_law_goes) l55 c55 k55
  have b55 := F55.binds (ps := pn_law_goes) fun _ _ _ _ _ _ us hl => match us, hl with | [_, _, _, _, _], _ => rfl
  have X55 : Fx K mg "_law_goes" s_law_goes pn_law_goes := ⟨⟨_, _, F55, PySem.W.mg_of X G a55, b55⟩⟩
  have F56 := fun_mk (st := s_law_is_conjugator) l56 c56 k56
  have b56 := F56.binds (ps := pn_law_is_conjugator) fun _ _ _ _ _ _ us hl => match us, hl with | [_, _, _], _ => rfl
  have X56 : Fx K mg "_law_is_conjugator" s_law_is_conjugator pn_law_is_conjugator := ⟨⟨_, _, F56, PySem.W.mg_of X G a56, b56⟩⟩
  have F57 := fun_mk (st := s_law) l57 c57 k57
  have b57 := F57.binds (ps := pn_law) fun _ _ _ _ _ _ us hl => match us, hl with | [_], _ => rfl
  have X57 : Fx K mg "law" s_law pn_law := ⟨⟨_, _, F57, PySem.W.mg_of X G a57, b57⟩⟩
  refine ⟨PySem.W.fnOf "law" "law" (defArgs s_law) (defBody s_law) (defScope s_law) .none kV57 dc57 pm57 an57 cd57 ct57, fun s v => .of_eq rfl, fun base _ _ => ?_⟩
  have g_is_between := ok_is_between (P := l.prog) (w := w) (K := K) (mg := mg) (base := base) B X1
  have g_is_rank := ok_is_rank (P := l.prog) (w := w) (K := K) (mg := mg) (base := base) B X2 g_is_between
  have g_letters_of := ok_letters_of (P := l.prog) (w := w) (K := K) (mg := mg) (base := base) B X3
  have g_is_letters := ok_is_letters (P := l.prog) (w := w) (K := K) (mg := mg) (base := base) B X4 g_letters_of
  have g_is_word := ok_is_word (P := l.prog) (w := w) (K := K) (mg := mg) (base := base) B X5 g_is_rank g_is_letters
  have g_opposite_of := ok_opposite_of (P := l.prog) (w := w) (K := K) (mg := mg) (base := base) B X6
  have g_reduce_of := ok_reduce_of (P := l.prog) (w := w) (K := K) (mg := mg) (base := base) B X7 g_opposite_of
  have g_inverse_of := ok_inverse_of (P := l.prog) (w := w) (K := K) (mg := mg) (base := base) B X8 g_opposite_of
  have g_is_family := ok_is_family (P := l.prog) (w := w) (K := K) (mg := mg) (base := base) B X9 g_is_rank g_is_word
  have g_check_family := ok_check_family (P := l.prog) (w := w) (K := K) (mg := mg) (base := base) B X10 g_is_family
  have g_opposite := ok_opposite (P := l.prog) (w := w) (K := K) (mg := mg) (base := base) B X11
  have g_shortened := ok_shortened (P := l.prog) (w := w) (K := K) (mg := mg) (base := base) B X12
  have g_Folding_root := ok_root (P := l.prog) (w := w) (K := K) (mg := mg) (base := base) B T X13
  have g_Folding_chain := ok_chain (P := l.prog) (w := w) (K := K) (mg := mg) (base := base) B T X14
  have g_Folding_link := ok_link (P := l.prog) (w := w) (K := K) (mg := mg) (base := base) B T X15 g_reduce_of g_inverse_of g_shortened
  have g_Folding_merge := ok_merge (P := l.prog) (w := w) (K := K) (mg := mg) (base := base) B T X16 g_Folding_root g_Folding_chain g_Folding_link g_opposite
  have g_Folding_fold_two := ok_fold_two (P := l.prog) (w := w) (K := K) (mg := mg) (base := base) B T X17 g_Folding_root g_Folding_chain g_Folding_merge g_opposite
  have g_Folding_fold_all := ok_fold_all (P := l.prog) (w := w) (K := K) (mg := mg) (base := base) B T X18 g_Folding_fold_two
  have g_Folding_add_petal := ok_add_petal (P := l.prog) (w := w) (K := K) (mg := mg) (base := base) B T X19
  have g_Folding_init := ok_init (P := l.prog) (w := w) (K := K) (mg := mg) (base := base) B T X20 g_reduce_of g_Folding_add_petal g_Folding_merge g_Folding_fold_all
  have g_numbered := ok_numbered (P := l.prog) (w := w) (K := K) (mg := mg) (base := base) B X21
  have g_fold := ok_fold (P := l.prog) (w := w) (K := K) (mg := mg) (base := base) B T X22 g_Folding_init g_Folding_root g_numbered
  have g_graph_in := ok_graph_in (P := l.prog) (w := w) (K := K) (mg := mg) (base := base) B X23 g_fold
  have g_graph_of := ok_graph_of (P := l.prog) (w := w) (K := K) (mg := mg) (base := base) B X24 g_check_family g_graph_in
  have g_check_two := ok_check_two (P := l.prog) (w := w) (K := K) (mg := mg) (base := base) B X25 g_check_family g_is_family
  have g_ways_in := ok_ways_in (P := l.prog) (w := w) (K := K) (mg := mg) (base := base) B X26
  have g_ends_at := ok_ends_at (P := l.prog) (w := w) (K := K) (mg := mg) (base := base) B X27
  have g_is_long_word := ok_is_long_word (P := l.prog) (w := w) (K := K) (mg := mg) (base := base) B X28 g_letters_of
  have g_check_long := ok_check_long (P := l.prog) (w := w) (K := K) (mg := mg) (base := base) B X29 g_check_two g_is_long_word
  have g_trimmed_edges := ok_trimmed (P := l.prog) (w := w) (K := K) (mg := mg) (base := base) B X30
  have g_renumbered := ok_renumbered (P := l.prog) (w := w) (K := K) (mg := mg) (base := base) B X31 g_numbered
  have g_attach := ok_attach (P := l.prog) (w := w) (K := K) (mg := mg) (base := base) B X32 g_ways_in
  have g_moved := ok_moved (P := l.prog) (w := w) (K := K) (mg := mg) (base := base) B X33 g_reduce_of g_attach g_trimmed_edges g_renumbered
  have g_is_conjugate_by := ok_is_conjugate_by (P := l.prog) (w := w) (K := K) (mg := mg) (base := base) B X34 g_graph_in g_moved
  have g_is_conjugator := ok_is_conjugator (P := l.prog) (w := w) (K := K) (mg := mg) (base := base) B X35 g_check_long g_is_conjugate_by
  have g_paths_in := ok_paths_in (P := l.prog) (w := w) (K := K) (mg := mg) (base := base) B X36 g_ways_in g_letters_of
  have g_first_way := ok_first_way (P := l.prog) (w := w) (K := K) (mg := mg) (base := base) B X37 g_ways_in g_letters_of
  have g_tail_of := ok_tail_of (P := l.prog) (w := w) (K := K) (mg := mg) (base := base) B X38 g_ways_in g_ends_at
  have g_order_key := ok_order_key (P := l.prog) (w := w) (K := K) (mg := mg) (base := base) B X39
  have g_conjugator := ok_conjugator (P := l.prog) (w := w) (K := K) (mg := mg) (base := base) B X40 g_check_two g_graph_in g_tail_of g_paths_in g_reduce_of g_inverse_of g_moved g_attach g_first_way g_order_key
  have g_law_flip := ok_law_flip (P := l.prog) (w := w) (K := K) (mg := mg) (base := base) B X41
  have g_law_reduce := ok_law_reduce (P := l.prog) (w := w) (K := K) (mg := mg) (base := base) B X42 g_law_flip
  have g_law_inverse := ok_law_inverse (P := l.prog) (w := w) (K := K) (mg := mg) (base := base) B X43 g_law_flip
  have g_law_letters := ok_law_letters (P := l.prog) (w := w) (K := K) (mg := mg) (base := base) B X44
  have g_law_next := ok_law_next (P := l.prog) (w := w) (K := K) (mg := mg) (base := base) B X45
  have g_law_stream := ok_law_stream (P := l.prog) (w := w) (K := K) (mg := mg) (base := base) B X46
  have g_law_word := ok_law_word (P := l.prog) (w := w) (K := K) (mg := mg) (base := base) B X47 g_law_next g_law_letters
  have g_law_given := ok_law_given (P := l.prog) (w := w) (K := K) (mg := mg) (base := base) B X48 g_law_next g_law_word g_law_inverse
  have g_law_pair := ok_law_pair (P := l.prog) (w := w) (K := K) (mg := mg) (base := base) B X49 g_law_next g_law_word g_law_inverse g_law_reduce g_law_given
  have g_law_words := ok_law_words (P := l.prog) (w := w) (K := K) (mg := mg) (base := base) B X50 g_law_letters g_law_flip
  have g_law_walk := ok_law_walk (P := l.prog) (w := w) (K := K) (mg := mg) (base := base) B X51
  have g_law_clash := ok_law_clash (P := l.prog) (w := w) (K := K) (mg := mg) (base := base) B X52
  have g_law_fold := ok_law_fold (P := l.prog) (w := w) (K := K) (mg := mg) (base := base) B X53 g_law_reduce g_law_clash
  have g_law_belongs := ok_law_belongs (P := l.prog) (w := w) (K := K) (mg := mg) (base := base) B X54 g_law_walk g_law_reduce
  have g_law_goes := ok_law_goes (P := l.prog) (w := w) (K := K) (mg := mg) (base := base) B X55 g_law_inverse g_law_belongs
  have g_law_is_conjugator := ok_law_is_conjugator (P := l.prog) (w := w) (K := K) (mg := mg) (base := base) B X56 g_law_goes g_law_fold
  have g_law := ok_law (P := l.prog) (w := w) (K := K) (mg := mg) (base := base) B F57 g_law_stream g_law_pair g_law_letters g_conjugator g_law_fold g_law_words g_law_goes g_is_conjugator g_law_reduce g_law_is_conjugator g_graph_of
  exact g_law
end FwK
end

section
set_option Elab.async false
set_option maxRecDepth 100000
open PySem PySem.W PyProof.Rows
namespace FwK
open PySem PySem.Spec PyProof.Rows L2 Evl Fw FwR
theorem walk {l : PySem.W.OpenLaw} {q : Program} {loose : List Str} {XP : (Str → Option Value) → Heap → Prop} {YP : World → Heap → Prop} {d : DefRec} {K : Params → PySem.W.Frag} (hn : l.most = some 63) (hdf : d.params.defaults = [])
    (hY : ∀ (w : World) (h : Heap), YP w h → (K w.params).In h)
    (F : ∀ (w : World) (mg : Str → Option Value) (fa : Addr) (h : Heap), (K w.params).In h → h.Ns mainGlobals mg → mg d.name = some (.ref fa) →
      ∃ fd : FuncData, (∀ (s : Shared) (u : Value), BindsTo s fd ⟨[u], []⟩ [("_law_script", u)]) ∧ ∀ base : Heap, (K w.params).In base → base.Ns mainGlobals mg → FnOk l.prog w (K w.params) mg base CX0 13 fa fd pn_law (spLaw (K w.params))) :
    PySem.W.WalkO q loose XP YP l.row.toRowW d [] (fun f vs => PySem.call f vs) :=
  L2.walk_of (n := 63) (k := 13) (x := "_law_script") (CX := fun _ => CX0) (sp := fun w => spLaw (K w.params)) hn (by decide) hdf ⟨rfl, by decide, by decide⟩ hY F (fun _ _ a ns hl _ hS => ⟨(a, ns), rfl, hS, fun _ _ z => z⟩) fun _ _ _ _ _ z => z
end FwK
end
open PySem PySem.W PyProof.Rows
set_option Elab.async false
set_option maxRecDepth 100000 in
set_option maxHeartbeats 0 in
theorem PySem.Challenge.cw_foldedways_k76_whole_conjugators_holds : PySem.Challenge.rw_foldedways_k76_whole_conjugators.Holds := by
  w_on; o_law; k_head; (case hw => w_witness2)
  k_fill
  refine FwK.walk (l := PySem.Challenge.rw_foldedways_k76_whole_conjugators) rfl rfl (fun w h Y => PySem.W.kIn_of Y) ?F
  case F =>
    intro w mg fa h KX G hmg
    refine' FwK.all_mk KX G hmg ?a1 ?l1 ?c1 ?k1 ?a2 ?l2 ?c2 ?k2 ?a3 ?l3 ?c3 ?k3 ?a4 ?l4 ?c4 ?k4 ?a5 ?l5 ?c5 ?k5 ?a6 ?l6 ?c6 ?k6 ?a7 ?l7 ?c7 ?k7 ?a8 ?l8 ?c8 ?k8 ?a9 ?l9 ?c9 ?k9 ?a10 ?l10 ?c10 ?k10 ?a11 ?l11 ?c11 ?k11 ?a12 ?l12 ?c12 ?k12 ?a13 ?i13 ?l13 ?c13 ?k13 ?a14 ?i14 ?l14 ?c14 ?k14 ?a15 ?i15 ?l15 ?c15 ?k15 ?a16 ?i16 ?l16 ?c16 ?k16 ?a17 ?i17 ?l17 ?c17 ?k17 ?a18 ?i18 ?l18 ?c18 ?k18 ?a19 ?i19 ?l19 ?c19 ?k19 ?a20 ?i20 ?l20 ?c20 ?k20 ?a21 ?l21 ?c21 ?k21 ?a22 ?l22 ?c22 ?k22 ?a23 ?l23 ?c23 ?k23 ?a24 ?l24 ?c24 ?k24 ?a25 ?l25 ?c25 ?k25 ?a26 ?l26 ?c26 ?k26 ?a27 ?l27 ?c27 ?k27 ?a28 ?l28 ?c28 ?k28 ?a29 ?l29 ?c29 ?k29 ?a30 ?l30 ?c30 ?k30 ?a31 ?l31 ?c31 ?k31 ?a32 ?l32 ?c32 ?k32 ?a33 ?l33 ?c33 ?k33 ?a34 ?l34 ?c34 ?k34 ?a35 ?l35 ?c35 ?k35 ?a36 ?l36 ?c36 ?k36 ?a37 ?l37 ?c37 ?k37 ?a38 ?l38 ?c38 ?k38 ?a39 ?l39 ?c39 ?k39 ?a40 ?l40 ?c40 ?k40 ?a41 ?l41 ?c41 ?k41 ?a42 ?l42 ?c42 ?k42 ?a43 ?l43 ?c43 ?k43 ?a44 ?l44 ?c44 ?k44 ?a45 ?l45 ?c45 ?k45 ?a46 ?l46 ?c46 ?k46 ?a47 ?l47 ?c47 ?k47 ?a48 ?l48 ?c48 ?k48 ?a49 ?l49 ?c49 ?k49 ?a50 ?l50 ?c50 ?k50 ?a51 ?l51 ?c51 ?k51 ?a52 ?l52 ?c52 ?k52 ?a53 ?l53 ?c53 ?k53 ?a54 ?l54 ?c54 ?k54 ?a55 ?l55 ?c55 ?k55 ?a56 ?l56 ?c56 ?k56 ?a57 ?l57 ?c57 ?k57 ?aC ?pgC ?hdC ?poC ?saC ?mkC ?kcC ?n_prefixes ?n_edges ?n_parents ?n_links ?n_steps ?z_len ?z_isinstance ?z_int ?z_bool ?z_str ?z_tuple ?z_list ?z_all ?z_sum ?z_sorted ?z_enumerate ?z_range ?z_min ?z_max ?z_abs ?c_LETTERS ?c_SMALL ?c_MOST_RANK ?c_LONGEST ?c_MOST_GIVEN ?c_MOST_LETTERS_folding ?c_MOST_LETTERS_showing
    (case aC => k_is)
    (case a1 => k_is)
    (case l1 => k_is)
    (case c1 => k_is)
    (case k1 => k_is)
    (case a2 => k_is)
    (case l2 => k_is)
    (case c2 => k_is)
    (case k2 => k_is)
    (case a3 => k_is)
    (case l3 => k_is)
    (case c3 => k_is)
    (case k3 => k_is)
    (case a4 => k_is)
    (case l4 => k_is)
    (case c4 => k_is)
    (case k4 => k_is)
    (case a5 => k_is)
    (case l5 => k_is)
    (case c5 => k_is)
    (case k5 => k_is)
    (case a6 => k_is)
    (case l6 => k_is)
    (case c6 => k_is)
    (case k6 => k_is)
    (case a7 => k_is)
    (case l7 => k_is)
    (case c7 => k_is)
    (case k7 => k_is)
    (case a8 => k_is)
    (case l8 => k_is)
    (case c8 => k_is)
    (case k8 => k_is)
    (case a9 => k_is)
    (case l9 => k_is)
    (case c9 => k_is)
    (case k9 => k_is)
    (case a10 => k_is)
    (case l10 => k_is)
    (case c10 => k_is)
    (case k10 => k_is)
    (case a11 => k_is)
    (case l11 => k_is)
    (case c11 => k_is)
    (case k11 => k_is)
    (case a12 => k_is)
    (case l12 => k_is)
    (case c12 => k_is)
    (case k12 => k_is)
    (case a13 => k_is)
    (case i13 => k_is)
    (case l13 => k_is)
    (case c13 => k_is)
    (case k13 => k_is)
    (case a14 => k_is)
    (case i14 => k_is)
    (case l14 => k_is)
    (case c14 => k_is)
    (case k14 => k_is)
    (case a15 => k_is)
    (case i15 => k_is)
    (case l15 => k_is)
    (case c15 => k_is)
    (case k15 => k_is)
    (case a16 => k_is)
    (case i16 => k_is)
    (case l16 => k_is)
    (case c16 => k_is)
    (case k16 => k_is)
    (case a17 => k_is)
    (case i17 => k_is)
    (case l17 => k_is)
    (case c17 => k_is)
    (case k17 => k_is)
    (case a18 => k_is)
    (case i18 => k_is)
    (case l18 => k_is)
    (case c18 => k_is)
    (case k18 => k_is)
    (case a19 => k_is)
    (case i19 => k_is)
    (case l19 => k_is)
    (case c19 => k_is)
    (case k19 => k_is)
    (case a20 => k_is)
    (case i20 => k_is)
    (case l20 => k_is)
    (case c20 => k_is)
    (case k20 => k_is)
    (case a21 => k_is)
    (case l21 => k_is)
    (case c21 => k_is)
    (case k21 => k_is)
    (case a22 => k_is)
    (case l22 => k_is)
    (case c22 => k_is)
    (case k22 => k_is)
    (case a23 => k_is)
    (case l23 => k_is)
    (case c23 => k_is)
    (case k23 => k_is)
    (case a24 => k_is)
    (case l24 => k_is)
    (case c24 => k_is)
    (case k24 => k_is)
    (case a25 => k_is)
    (case l25 => k_is)
    (case c25 => k_is)
    (case k25 => k_is)
    (case a26 => k_is)
    (case l26 => k_is)
    (case c26 => k_is)
    (case k26 => k_is)
    (case a27 => k_is)
    (case l27 => k_is)
    (case c27 => k_is)
    (case k27 => k_is)
    (case a28 => k_is)
    (case l28 => k_is)
    (case c28 => k_is)
    (case k28 => k_is)
    (case a29 => k_is)
    (case l29 => k_is)
    (case c29 => k_is)
    (case k29 => k_is)
    (case a30 => k_is)
    (case l30 => k_is)
    (case c30 => k_is)
    (case k30 => k_is)
    (case a31 => k_is)
    (case l31 => k_is)
    (case c31 => k_is)
    (case k31 => k_is)
    (case a32 => k_is)
    (case l32 => k_is)
    (case c32 => k_is)
    (case k32 => k_is)
    (case a33 => k_is)
    (case l33 => k_is)
    (case c33 => k_is)
    (case k33 => k_is)
    (case a34 => k_is)
    (case l34 => k_is)
    (case c34 => k_is)
    (case k34 => k_is)
    (case a35 => k_is)
    (case l35 => k_is)
    (case c35 => k_is)
    (case k35 => k_is)
    (case a36 => k_is)
    (case l36 => k_is)
    (case c36 => k_is)
    (case k36 => k_is)
    (case a37 => k_is)
    (case l37 => k_is)
    (case c37 => k_is)
    (case k37 => k_is)
    (case a38 => k_is)
    (case l38 => k_is)
    (case c38 => k_is)
    (case k38 => k_is)
    (case a39 => k_is)
    (case l39 => k_is)
    (case c39 => k_is)
    (case k39 => k_is)
    (case a40 => k_is)
    (case l40 => k_is)
    (case c40 => k_is)
    (case k40 => k_is)
    (case a41 => k_is)
    (case l41 => k_is)
    (case c41 => k_is)
    (case k41 => k_is)
    (case a42 => k_is)
    (case l42 => k_is)
    (case c42 => k_is)
    (case k42 => k_is)
    (case a43 => k_is)
    (case l43 => k_is)
    (case c43 => k_is)
    (case k43 => k_is)
    (case a44 => k_is)
    (case l44 => k_is)
    (case c44 => k_is)
    (case k44 => k_is)
    (case a45 => k_is)
    (case l45 => k_is)
    (case c45 => k_is)
    (case k45 => k_is)
    (case a46 => k_is)
    (case l46 => k_is)
    (case c46 => k_is)
    (case k46 => k_is)
    (case a47 => k_is)
    (case l47 => k_is)
    (case c47 => k_is)
    (case k47 => k_is)
    (case a48 => k_is)
    (case l48 => k_is)
    (case c48 => k_is)
    (case k48 => k_is)
    (case a49 => k_is)
    (case l49 => k_is)
    (case c49 => k_is)
    (case k49 => k_is)
    (case a50 => k_is)
    (case l50 => k_is)
    (case c50 => k_is)
    (case k50 => k_is)
    (case a51 => k_is)
    (case l51 => k_is)
    (case c51 => k_is)
    (case k51 => k_is)
    (case a52 => k_is)
    (case l52 => k_is)
    (case c52 => k_is)
    (case k52 => k_is)
    (case a53 => k_is)
    (case l53 => k_is)
    (case c53 => k_is)
    (case k53 => k_is)
    (case a54 => k_is)
    (case l54 => k_is)
    (case c54 => k_is)
    (case k54 => k_is)
    (case a55 => k_is)
    (case l55 => k_is)
    (case c55 => k_is)
    (case k55 => k_is)
    (case a56 => k_is)
    (case l56 => k_is)
    (case c56 => k_is)
    (case k56 => k_is)
    (case a57 => k_is)
    (case l57 => k_is)
    (case c57 => k_is)
    (case k57 => k_is)
    (case pgC => k_is)
    (case hdC => k_is)
    (case poC => k_is)
    (case saC => k_is)
    (case mkC => k_is)
    (case kcC => k_is)
    (case n_prefixes => k_is)
    (case n_edges => k_is)
    (case n_parents => k_is)
    (case n_links => k_is)
    (case n_steps => k_is)
    (case z_len => k_is)
    (case z_isinstance => k_is)
    (case z_int => k_is)
    (case z_bool => k_is)
    (case z_str => k_is)
    (case z_tuple => k_is)
    (case z_list => k_is)
    (case z_all => k_is)
    (case z_sum => k_is)
    (case z_sorted => k_is)
    (case z_enumerate => k_is)
    (case z_range => k_is)
    (case z_min => k_is)
    (case z_max => k_is)
    (case z_abs => k_is)
    (case c_LETTERS => k_is)
    (case c_SMALL => k_is)
    (case c_MOST_RANK => k_is)
    (case c_LONGEST => k_is)
    (case c_MOST_GIVEN => k_is)
    (case c_MOST_LETTERS_folding => k_is)
    (case c_MOST_LETTERS_showing => k_is)
