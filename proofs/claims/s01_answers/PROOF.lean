import PyProof.Rows.All
import Wide.All
import OpenK.AllK
import Wide.FinOn
import Open.SpecLaws
import KE.OsGo
import HandS.ForSpec
import HandS.Comp
import HandS.Dict
import HandS.WordsDict
import HandS.Iter
import HandS.Walk
import HandS.CallLocal
import PySem.Challenge.RW_pinframes_s01_answers
set_option Elab.async false
set_option linter.all false
set_option maxRecDepth 100000
set_option maxHeartbeats 8000000
/-! The mirror of the program in plain Lean, and the ways: what is worked out from a place is what the specification says. -/
namespace Pin
/-! ### places -/
structure Pl where
  fr : Nat
  lf : Nat
  rd : Nat
  mo : Nat
  fu : Nat
  th : Nat
deriving DecidableEq
def over : Pl := ⟨10, 0, 0, 0, 0, 0⟩
def beg : Pl := ⟨0, 10, 0, 0, 0, 0⟩
def nextFrame (fr mo fu : Nat) : Pl := ⟨fr + 1, 10, 0, mo, fu, 0⟩
def early (p : Pl) (n : Nat) : Pl :=
  if p.rd = 0 ∧ n = 10 then nextFrame p.fr (p.fu + 1) 1
  else if p.rd = 0 then ⟨p.fr, p.lf - n, 1, p.fu, 0, 0⟩
  else if n = p.lf then nextFrame p.fr (p.fu + 1) 0
  else nextFrame p.fr p.fu 0
def anew (x : Nat) : Nat := if x = 0 then 10 else x
def allDown (p : Pl) (n : Nat) : Nat := if n = p.lf then 1 else 0
def late (p : Pl) (n : Nat) : Pl :=
  if p.rd = 0 then ⟨p.fr, anew (p.lf - n), 1, p.fu, 0, allDown p n⟩
  else if p.rd = 1 ∧ (p.th = 1 ∨ allDown p n = 1) then ⟨p.fr, anew (p.lf - n), 2, p.fu, 0, 1⟩
  else over
def behind (p : Pl) (n : Nat) : Pl := if p.fr < 9 then early p n else late p n
def cnt (p : Pl) : Nat := 1 + p.mo
def run (p : Pl) (l : List Nat) : Pl := l.foldl behind p
def placeOf (l : List Nat) : Pl := run beg l
def countedFrom : Pl → List Nat → Nat
  | _, [] => 0
  | p, n :: r => cnt p * n + countedFrom (behind p n) r
def counted (l : List Nat) : Nat := countedFrom beg l
/-- the places that a game comes to, but for the last -/
structure Good (p : Pl) : Prop where
  fr : p.fr ≤ 9
  lf : p.lf ≤ 10
  rd : p.rd ≤ 2
  re : p.fr < 9 → p.rd ≤ 1
  mo : p.mo ≤ 2
  fu : p.fu ≤ 1
  th : p.th ≤ 1
def Ok (p : Pl) : Prop := p = over ∨ Good p
theorem Good.ne {p : Pl} (g : Good p) : p ≠ over := by
  intro e
  have := g.fr
  rw [e] at this
  exact absurd this (by decide)
theorem Ok.good {p : Pl} (h : Ok p) (n : p ≠ over) : Good p := h.resolve_left n
theorem good_beg : Good beg := ⟨by decide, by decide, by decide, by decide, by decide, by decide, by decide⟩
theorem ok_over : Ok over := .inl rfl
theorem anew_le {x : Nat} (h : x ≤ 10) : anew x ≤ 10 := by
  unfold anew
  split <;> omega
theorem allDown_le (p : Pl) (n : Nat) : allDown p n ≤ 1 := by
  unfold allDown
  split <;> omega
theorem ok_behind {p : Pl} (g : Good p) (n : Nat) : Ok (behind p n) := by
  obtain ⟨h1, h2, h3, h4, h5, h6, h7⟩ := g
  unfold behind
  by_cases c : p.fr < 9
  · rw [if_pos c]
    refine .inr ?_
    unfold early nextFrame
    split
    · exact ⟨by show p.fr + 1 ≤ 9; omega, by show (10 : Nat) ≤ 10; omega, by show (0 : Nat) ≤ 2; omega, fun _ => by show (0 : Nat) ≤ 1; omega, by show p.fu + 1 ≤ 2; omega, by show (1 : Nat) ≤ 1; omega, by show (0 : Nat) ≤ 1; omega⟩
    split
    · exact ⟨by show p.fr ≤ 9; omega, by show p.lf - n ≤ 10; omega, by show (1 : Nat) ≤ 2; omega, fun _ => by show (1 : Nat) ≤ 1; omega, by show p.fu ≤ 2; omega, by show (0 : Nat) ≤ 1; omega, by show (0 : Nat) ≤ 1; omega⟩
    split
    · exact ⟨by show p.fr + 1 ≤ 9; omega, by show (10 : Nat) ≤ 10; omega, by show (0 : Nat) ≤ 2; omega, fun _ => by show (0 : Nat) ≤ 1; omega, by show p.fu + 1 ≤ 2; omega, by show (0 : Nat) ≤ 1; omega, by show (0 : Nat) ≤ 1; omega⟩
    · exact ⟨by show p.fr + 1 ≤ 9; omega, by show (10 : Nat) ≤ 10; omega, by show (0 : Nat) ≤ 2; omega, fun _ => by show (0 : Nat) ≤ 1; omega, by show p.fu ≤ 2; omega, by show (0 : Nat) ≤ 1; omega, by show (0 : Nat) ≤ 1; omega⟩
  · rw [if_neg c]
    unfold late
    have a := anew_le (x := p.lf - n) (by omega)
    have d := allDown_le p n
    split
    · exact .inr ⟨h1, a, by show (1 : Nat) ≤ 2; omega, fun z => absurd z c, by show p.fu ≤ 2; omega, by show (0 : Nat) ≤ 1; omega, d⟩
    split
    · exact .inr ⟨h1, a, by show (2 : Nat) ≤ 2; omega, fun z => absurd z c, by show p.fu ≤ 2; omega, by show (0 : Nat) ≤ 1; omega, by show (1 : Nat) ≤ 1; omega⟩
    · exact .inl rfl
/-! ### how many rolls are yet to come at most -/
def left (p : Pl) : Nat := if p = over then 0 else 2 * (9 - p.fr) + 3 - p.rd
theorem left_over : left over = 0 := if_pos rfl
theorem left_good {p : Pl} (g : Good p) : left p = 2 * (9 - p.fr) + 3 - p.rd := if_neg g.ne
theorem left_pos {p : Pl} (g : Good p) : 0 < left p := by
  rw [left_good g]
  have := g.rd
  omega
theorem left_le {p : Pl} (h : Ok p) : left p ≤ 21 := by
  rcases h with rfl | g
  · rw [left_over]
    omega
  · rw [left_good g]
    omega
theorem left_behind {p : Pl} (g : Good p) (n : Nat) : left (behind p n) < left p := by
  have hp := left_pos g
  rcases ok_behind g n with e | g'
  · rw [e, left_over]
    exact hp
  · rw [left_good g', left_good g]
    obtain ⟨h1, h2, h3, h4, h5, h6, h7⟩ := g
    have h8 := g'.ne
    unfold behind at *
    by_cases c : p.fr < 9
    · rw [if_pos c] at *
      unfold early nextFrame at *
      have := h4 c
      split
      · show 2 * (9 - (p.fr + 1)) + 3 - 0 < 2 * (9 - p.fr) + 3 - p.rd
        omega
      split
      · show 2 * (9 - p.fr) + 3 - 1 < 2 * (9 - p.fr) + 3 - p.rd
        omega
      split
      · show 2 * (9 - (p.fr + 1)) + 3 - 0 < 2 * (9 - p.fr) + 3 - p.rd
        omega
      · show 2 * (9 - (p.fr + 1)) + 3 - 0 < 2 * (9 - p.fr) + 3 - p.rd
        omega
    · rw [if_neg c] at *
      unfold late at *
      split
      · show 2 * (9 - p.fr) + 3 - 1 < 2 * (9 - p.fr) + 3 - p.rd
        omega
      split
      · show 2 * (9 - p.fr) + 3 - 2 < 2 * (9 - p.fr) + 3 - p.rd
        omega
      · rename_i a b
        rw [if_neg a, if_neg b] at h8
        exact absurd rfl h8
/-! ### the ways from a place -/
def C (p : List Nat) : Nat → Nat := fun s => p.getD s 0
def sh (n : Nat) (f : Nat → Nat) : Nat → Nat := fun s => if n ≤ s then f (s - n) else 0
def su {α : Type} (l : List α) (g : α → Nat → Nat) : Nat → Nat := fun s => (l.map fun b => g b s).sum
def added (found more : List Nat) (worth : Nat) : List Nat := (List.range (max found.length (more.length + worth))).map fun i => C found i + sh worth (C more) i
def wf : Nat → Pl → List Nat
  | 0, _ => [1]
  | d + 1, p => if p = over then [1] else (List.range (p.lf + 1)).foldl (fun acc n => added acc (wf d (behind p n)) (cnt p * n)) []
def W (p : Pl) : List Nat := wf (left p) p
theorem foldl_congr {α β : Type} {f g : β → α → β} : ∀ (l : List α) (b : β), (∀ b a, a ∈ l → f b a = g b a) → l.foldl f b = l.foldl g b
  | [], _, _ => rfl
  | x :: r, b, h => by
    rw [List.foldl_cons, List.foldl_cons, h b x (List.mem_cons_self ..)]
    exact foldl_congr r _ fun b a m => h b a (List.mem_cons_of_mem _ m)
theorem wf_over (d : Nat) : wf d over = [1] := by
  cases d with
  | zero => rfl
  | succ d => exact if_pos rfl
theorem wf_eq : ∀ (d e : Nat) (p : Pl), Ok p → left p ≤ d → left p ≤ e → wf d p = wf e p
  | d, e, p, h, hd, he => by
    by_cases c : p = over
    · rw [c, wf_over, wf_over]
    · have g := h.good c
      have hp := left_pos g
      match d, e with
      | 0, _ => omega
      | _, 0 => omega
      | d + 1, e + 1 =>
        show (if p = over then [1] else _) = (if p = over then [1] else _)
        rw [if_neg c, if_neg c]
        refine foldl_congr _ _ fun b n _ => ?_
        have := left_behind g n
        rw [wf_eq d e (behind p n) (ok_behind g n) (by omega) (by omega)]
theorem W_over : W over = [1] := wf_over _
def wstep (p : Pl) (acc : List Nat) (n : Nat) : List Nat := added acc (W (behind p n)) (cnt p * n)
theorem W_good {p : Pl} (g : Good p) : W p = (List.range (p.lf + 1)).foldl (wstep p) [] := by
  have hp := left_pos g
  have e : W p = wf (left p - 1 + 1) p := by
    unfold W
    rw [show left p - 1 + 1 = left p by omega]
  rw [e]
  show (if p = over then [1] else _) = _
  rw [if_neg g.ne]
  refine foldl_congr _ _ fun b n _ => ?_
  have := left_behind g n
  unfold wstep W
  rw [wf_eq (left p - 1) (left (behind p n)) (behind p n) (ok_behind g n) (by omega) (Nat.le_refl _)]
/-! ### coefficients -/
theorem C_nil : C [] = fun _ => 0 := by
  funext s
  simp [C]
theorem C_out {p : List Nat} {s : Nat} (h : p.length ≤ s) : C p s = 0 := by
  unfold C
  rw [List.getD_eq_getElem?_getD, List.getElem?_eq_none h]
  rfl
theorem C_shift (n : Nat) (p : List Nat) : C (Kyp1.shift n p) = sh n (C p) := by
  funext s
  unfold C sh Kyp1.shift
  by_cases c : n ≤ s
  · rw [if_pos c]
    show (List.replicate n 0 ++ p).getD s 0 = p.getD (s - n) 0
    rw [List.getD_eq_getElem?_getD, List.getD_eq_getElem?_getD, List.getElem?_append_right (by rw [List.length_replicate]; exact c), List.length_replicate]
  · rw [if_neg c, List.getD_eq_getElem?_getD, List.getElem?_append_left (by rw [List.length_replicate]; omega), List.getElem?_replicate]
    split <;> rfl
theorem C_add : ∀ (p q : List Nat) (s : Nat), C (Kyp1.add p q) s = C p s + C q s
  | [], q, s => by
    rw [C_nil, Nat.zero_add]
    unfold Kyp1.add
    rfl
  | a :: p, [], s => by
    rw [C_nil, Nat.add_zero]
    unfold Kyp1.add
    rfl
  | a :: p, b :: q, 0 => rfl
  | a :: p, b :: q, s + 1 => C_add p q s
theorem C_foldl_add : ∀ (l : List (List Nat)) (acc : List Nat) (s : Nat), C (l.foldl Kyp1.add acc) s = C acc s + (l.map fun p => C p s).sum
  | [], acc, s => by simp
  | x :: r, acc, s => by
    rw [List.foldl_cons, C_foldl_add r, C_add, List.map_cons, List.sum_cons, Nat.add_assoc]
theorem C_addAll {α : Type} (l : List α) (g : α → List Nat) : C (Kyp1.addAll (l.map g)) = su l fun b => C (g b) := by
  funext s
  unfold Kyp1.addAll su
  rw [C_foldl_add, C_nil, Nat.zero_add, List.map_map]
  rfl
theorem sh_zero (f : Nat → Nat) : sh 0 f = f := by
  funext s
  simp [sh]
theorem sh_sh (a b : Nat) (f : Nat → Nat) : sh a (sh b f) = sh (a + b) f := by
  funext s
  unfold sh
  by_cases h : a ≤ s
  · rw [if_pos h]
    by_cases k : b ≤ s - a
    · rw [if_pos k, if_pos (by omega), Nat.sub_sub]
    · rw [if_neg k, if_neg (by omega)]
  · rw [if_neg h, if_neg (by omega)]
theorem sh_su {α : Type} (a : Nat) (l : List α) (g : α → Nat → Nat) : sh a (su l g) = su l fun b => sh a (g b) := by
  funext s
  unfold sh su
  by_cases h : a ≤ s
  · rw [if_pos h]
    refine congrArg List.sum (List.map_congr_left fun b _ => ?_)
    exact (if_pos h).symm
  · rw [if_neg h]
    have e : (l.map fun b => if a ≤ s then g b (s - a) else 0) = l.map fun _ => 0 := List.map_congr_left fun b _ => if_neg h
    show 0 = (l.map fun b => if a ≤ s then g b (s - a) else 0).sum
    rw [e]
    clear e
    induction l with
    | nil => rfl
    | cons x r ih => rw [List.map_cons, List.sum_cons, ← ih]
theorem su_congr {α : Type} {l : List α} {g h : α → Nat → Nat} (e : ∀ b ∈ l, g b = h b) : su l g = su l h := by
  funext s
  unfold su
  exact congrArg List.sum (List.map_congr_left fun b m => by rw [e b m])
theorem C_map_range (N : Nat) (f : Nat → Nat) (s : Nat) : C ((List.range N).map f) s = if s < N then f s else 0 := by
  unfold C
  rw [List.getD_eq_getElem?_getD, List.getElem?_map]
  by_cases h : s < N
  · rw [if_pos h, List.getElem?_range h]
    rfl
  · rw [if_neg h, List.getElem?_eq_none (by rw [List.length_range]; omega)]
    rfl
theorem sh_out {p : List Nat} {w s : Nat} (h : p.length + w ≤ s) : sh w (C p) s = 0 := by
  unfold sh
  split
  · exact C_out (by omega)
  · rfl
theorem C_added (f m : List Nat) (w s : Nat) : C (added f m w) s = C f s + sh w (C m) s := by
  unfold added
  rw [C_map_range]
  by_cases h : s < max f.length (m.length + w)
  · rw [if_pos h]
  · rw [if_neg h, C_out (by omega), sh_out (by omega)]
theorem C_fold {α : Type} (g : α → List Nat) (h : α → Nat) : ∀ (l : List α) (acc : List Nat) (s : Nat), C (l.foldl (fun a n => added a (g n) (h n)) acc) s = C acc s + su l (fun n => sh (h n) (C (g n))) s
  | [], acc, s => by simp [su]
  | x :: r, acc, s => by
    rw [List.foldl_cons, C_fold g h r, C_added, Nat.add_assoc]
    rfl
theorem C_W {p : Pl} (g : Good p) : C (W p) = su (List.range (p.lf + 1)) fun n => sh (cnt p * n) (C (W (behind p n))) := by
  funext s
  rw [W_good g]
  unfold wstep
  rw [C_fold (fun n => W (behind p n)) (fun n => cnt p * n), C_nil, Nat.zero_add]
theorem length_added (f m : List Nat) (w : Nat) : (added f m w).length = max f.length (m.length + w) := by
  unfold added
  rw [List.length_map, List.length_range]
theorem length_fold {p : Pl} {B : Nat} : ∀ (l : List Nat) (acc : List Nat), acc.length ≤ B → (∀ n ∈ l, (W (behind p n)).length + cnt p * n ≤ B) → (l.foldl (wstep p) acc).length ≤ B
  | [], _, h, _ => h
  | x :: r, acc, h, k => by
    rw [List.foldl_cons]
    refine length_fold r _ ?_ fun n m => k n (List.mem_cons_of_mem _ m)
    unfold wstep
    rw [length_added]
    have := k x (List.mem_cons_self ..)
    omega
theorem cnt_le {p : Pl} (g : Good p) {n : Nat} (h : n ≤ p.lf) : cnt p * n ≤ 30 := by
  have h1 := g.lf
  have h2 := g.mo
  unfold cnt
  have a : 1 + p.mo ≤ 3 := by omega
  have b : n ≤ 10 := by omega
  exact Nat.le_trans (Nat.mul_le_mul a b) (by decide)
theorem length_W : ∀ (d : Nat) (p : Pl), Ok p → left p ≤ d → (W p).length ≤ 30 * d + 1
  | d, p, h, hd => by
    by_cases c : p = over
    · rw [c, W_over]
      exact Nat.succ_le_succ (Nat.zero_le _)
    · have g := h.good c
      have hp := left_pos g
      match d with
      | 0 => omega
      | d + 1 =>
        rw [W_good g]
        refine length_fold _ _ (Nat.zero_le _) fun n m => ?_
        have hn := List.mem_range.mp m
        have h1 := length_W d (behind p n) (ok_behind g n) (by have := left_behind g n; omega)
        have h2 := cnt_le g (n := n) (by omega)
        omega
theorem W_len {p : Pl} (h : Ok p) : (W p).length ≤ 631 := Nat.le_trans (length_W 21 p h (left_le h)) (by decide)
end Pin

/-! The ways from a place are the specification's. -/
namespace Pin
open Kyp1
def legal : Pl → List Nat → Prop
  | _, [] => True
  | p, a :: r => Good p ∧ a ≤ p.lf ∧ legal (behind p a) r
/-- the beginning of a frame with n more behind it; the next roll counts m times, the one behind it k times -/
def F0 (n m k : Nat) : Pl := ⟨9 - n, 10, 0, m - 1, k - 1, 0⟩
def GP (m k : Nat) : Prop := (m = 1 ∧ k = 1) ∨ (m = 2 ∧ k = 1) ∨ (m = 2 ∧ k = 2) ∨ (m = 3 ∧ k = 2)
theorem GP.one : GP 1 1 := .inl ⟨rfl, rfl⟩
theorem GP.two : GP 2 1 := .inr (.inl ⟨rfl, rfl⟩)
theorem GP.strike {m k : Nat} (h : GP m k) : GP (k + 1) 2 := by
  rcases h with ⟨rfl, rfl⟩ | ⟨rfl, rfl⟩ | ⟨rfl, rfl⟩ | ⟨rfl, rfl⟩
  · exact .inr (.inr (.inl ⟨rfl, rfl⟩))
  · exact .inr (.inr (.inl ⟨rfl, rfl⟩))
  · exact .inr (.inr (.inr ⟨rfl, rfl⟩))
  · exact .inr (.inr (.inr ⟨rfl, rfl⟩))
theorem GP.bounds {m k : Nat} (h : GP m k) : 1 ≤ m ∧ m ≤ 3 ∧ 1 ≤ k ∧ k ≤ 2 := by
  rcases h with ⟨rfl, rfl⟩ | ⟨rfl, rfl⟩ | ⟨rfl, rfl⟩ | ⟨rfl, rfl⟩ <;> decide
theorem good_F0 {n m k : Nat} (h : GP m k) : Good (F0 n m k) := by
  have := h.bounds
  exact ⟨by show 9 - n ≤ 9; omega, Nat.le_refl 10, by show 0 ≤ 2; decide, fun _ => by show 0 ≤ 1; decide, by show m - 1 ≤ 2; omega, by show k - 1 ≤ 1; omega, by show 0 ≤ 1; decide⟩
theorem cnt_F0 {n m k : Nat} (h : GP m k) : cnt (F0 n m k) = m := by
  have := h.bounds
  show 1 + (m - 1) = m
  omega
/-! ### what stands behind a roll -/
/-- behind the first roll of a frame that leaves pins -/
def F1 (n k a : Nat) : Pl := ⟨9 - n, 10 - a, 1, k - 1, 0, 0⟩
theorem behind_strike {n m k : Nat} (h : GP m k) (hn : n + 1 ≤ 9) : behind (F0 (n + 1) m k) 10 = F0 n (k + 1) 2 := by
  have := h.bounds
  unfold behind
  rw [if_pos (by show 9 - (n + 1) < 9; omega)]
  unfold early
  rw [if_pos ⟨rfl, rfl⟩]
  unfold nextFrame F0
  have e1 : 9 - (n + 1) + 1 = 9 - n := by omega
  have e2 : k - 1 + 1 = k + 1 - 1 := by omega
  simp only [e1, e2]
theorem behind_first {n m k a : Nat} (hn : n + 1 ≤ 9) (ha : a < 10) : behind (F0 (n + 1) m k) a = F1 (n + 1) k a := by
  unfold behind
  rw [if_pos (by show 9 - (n + 1) < 9; omega)]
  unfold early
  rw [if_neg (by intro z; have := z.2; omega), if_pos (show (F0 (n + 1) m k).rd = 0 from rfl)]
  rfl
theorem behind_second {n k a b : Nat} (hn : n + 1 ≤ 9) (ha : a < 10) (hb : b ≤ 10 - a) : behind (F1 (n + 1) k a) b = F0 n (if a + b = 10 then 2 else 1) 1 := by
  unfold behind
  rw [if_pos (by show 9 - (n + 1) < 9; omega)]
  unfold early
  rw [if_neg (by intro z; have : (1 : Nat) = 0 := z.1; omega), if_neg (by show ¬ (1 : Nat) = 0; decide)]
  unfold nextFrame F0
  have e1 : 9 - (n + 1) + 1 = 9 - n := by omega
  by_cases c : a + b = 10
  · rw [if_pos (by show b = 10 - a; omega), if_pos c]
    show (⟨9 - (n + 1) + 1, 10, 0, 0 + 1, 0, 0⟩ : Pl) = _
    simp only [e1]
  · rw [if_neg (by show ¬ b = 10 - a; omega), if_neg c]
    show (⟨9 - (n + 1) + 1, 10, 0, 0, 0, 0⟩ : Pl) = _
    simp only [e1]
theorem good_F1 {n k a : Nat} (h : 1 ≤ k) (h2 : k ≤ 2) : Good (F1 n k a) :=
  ⟨by show 9 - n ≤ 9; omega, by show 10 - a ≤ 10; omega, by show 1 ≤ 2; decide, fun _ => by show 1 ≤ 1; decide, by show k - 1 ≤ 2; omega, by show 0 ≤ 1; decide, by show 0 ≤ 1; decide⟩
/-- the tenth frame: behind a strike; before the third roll -/
def T1 (k : Nat) : Pl := ⟨9, 10, 1, k - 1, 0, 1⟩
def T2 (x : Nat) : Pl := ⟨9, x, 2, 0, 0, 1⟩
theorem good_T1 {k : Nat} (h : 1 ≤ k) (h2 : k ≤ 2) : Good (T1 k) :=
  ⟨by show 9 ≤ 9; omega, by show 10 ≤ 10; omega, by show 1 ≤ 2; decide, fun _ => by show 1 ≤ 1; decide, by show k - 1 ≤ 2; omega, by show 0 ≤ 1; decide, by show 1 ≤ 1; decide⟩
theorem good_T2 {x : Nat} (h : x ≤ 10) : Good (T2 x) :=
  ⟨by show 9 ≤ 9; omega, h, by show 2 ≤ 2; decide, fun z => absurd (show (9 : Nat) < 9 from z) (by decide), by show 0 ≤ 2; omega, by show 0 ≤ 1; decide, by show 1 ≤ 1; decide⟩
theorem last_strike {m k : Nat} : behind (F0 0 m k) 10 = T1 k := by
  unfold behind
  rw [if_neg (by show ¬ 9 - 0 < 9; decide)]
  rfl
theorem last_first {m k a : Nat} (ha : a < 10) : behind (F0 0 m k) a = F1 0 k a := by
  unfold behind
  rw [if_neg (by show ¬ 9 - 0 < 9; decide)]
  unfold late
  rw [if_pos (by rfl)]
  have e1 : anew (10 - a) = 10 - a := if_neg (by omega)
  have e2 : allDown (F0 0 m k) a = 0 := if_neg (by show ¬ a = 10; omega)
  show (⟨9, anew (10 - a), 1, k - 1, 0, allDown (F0 0 m k) a⟩ : Pl) = _
  rw [e1, e2]
  rfl
theorem strike_second {k b : Nat} : behind (T1 k) b = T2 (anew (10 - b)) := by
  unfold behind
  rw [if_neg (by show ¬ (9 : Nat) < 9; decide)]
  unfold late
  rw [if_neg (by show ¬ (1 : Nat) = 0; decide), if_pos ⟨rfl, .inl rfl⟩]
  rfl
theorem last_second {k a b : Nat} (ha : a < 10) (hb : b ≤ 10 - a) : behind (F1 0 k a) b = if a + b = 10 then T2 10 else over := by
  unfold behind
  rw [if_neg (by show ¬ 9 - 0 < 9; decide)]
  unfold late
  rw [if_neg (by show ¬ (1 : Nat) = 0; decide)]
  by_cases c : a + b = 10
  · have e : allDown (F1 0 k a) b = 1 := if_pos (by show b = 10 - a; omega)
    rw [if_pos ⟨rfl, .inr e⟩, if_pos c]
    have e2 : anew ((F1 0 k a).lf - b) = 10 := if_pos (by show 10 - a - b = 0; omega)
    show (⟨9, anew ((F1 0 k a).lf - b), 2, 0, 0, 1⟩ : Pl) = _
    rw [e2]
    rfl
  · have e : allDown (F1 0 k a) b = 0 := if_neg (by show ¬ b = 10 - a; omega)
    rw [if_neg (by
      rintro ⟨_, z | z⟩
      · exact absurd (show (0 : Nat) = 1 from z) (by decide)
      · rw [e] at z
        exact absurd z (by decide)), if_neg c]
theorem behind_T2 {x c : Nat} : behind (T2 x) c = over := by
  unfold behind
  rw [if_neg (by show ¬ (9 : Nat) < 9; decide)]
  unfold late
  rw [if_neg (by show ¬ (2 : Nat) = 0; decide), if_neg (by rintro ⟨z, _⟩; exact absurd (show (2 : Nat) = 1 from z) (by decide))]
/-! ### the table -/
theorem C_T2 {x : Nat} (h : x ≤ 10) : C (W (T2 x)) = su (List.range (x + 1)) fun c => sh c (C [1]) := by
  rw [C_W (good_T2 h)]
  refine su_congr fun c _ => ?_
  rw [behind_T2, W_over]
  show sh (1 * c) _ = _
  rw [Nat.one_mul]
theorem cnt_k {k : Nat} (h : 1 ≤ k) (b : Nat) : (1 + (k - 1)) * b = b * k := by
  rw [show 1 + (k - 1) = k by omega, Nat.mul_comm]
theorem anew_range (b : Nat) (hb : b < 11) : anew (10 - b) + 1 = if b = 10 then 11 else 11 - b := by
  unfold anew
  by_cases c : b = 10
  · rw [if_pos (by omega), if_pos c]
  · rw [if_neg (by omega), if_neg c]
    omega
theorem C_tenthStrike {k : Nat} (h : 1 ≤ k) (h2 : k ≤ 2) : C (tenthStrike k) = C (W (T1 k)) := by
  unfold tenthStrike
  rw [C_addAll, C_W (good_T1 h h2)]
  refine su_congr fun b m => ?_
  have hb : b < 11 := List.mem_range.mp m
  rw [C_addAll, strike_second, C_T2 (anew_le (by omega)), anew_range b hb, sh_su]
  refine su_congr fun c _ => ?_
  show C (shift (b * k + c) [1]) = sh ((1 + (k - 1)) * b) _
  rw [C_shift, sh_sh, cnt_k h]
theorem C_tenthAfter {a k : Nat} (ha : a < 10) (h : 1 ≤ k) (h2 : k ≤ 2) : C (tenthAfter a k) = C (W (F1 0 k a)) := by
  unfold tenthAfter
  rw [C_addAll, C_W (good_F1 h h2)]
  show su (List.range (11 - a)) _ = su (List.range (10 - a + 1)) _
  rw [show 11 - a = 10 - a + 1 by omega]
  refine su_congr fun b m => ?_
  have hb : b < 10 - a + 1 := List.mem_range.mp m
  rw [last_second ha (by omega)]
  show _ = sh ((1 + (k - 1)) * b) _
  rw [cnt_k h]
  by_cases c : a + b = 10
  · rw [if_pos c, if_pos c, C_addAll, C_T2 (Nat.le_refl _), sh_su]
    refine su_congr fun c _ => ?_
    rw [C_shift, sh_sh]
  · rw [if_neg c, if_neg c, C_shift, W_over]
theorem C_tenth {m k : Nat} (h : GP m k) : C (tenth m k) = C (W (F0 0 m k)) := by
  have hb := h.bounds
  unfold tenth
  rw [C_addAll, C_W (good_F0 h)]
  refine su_congr fun a q => ?_
  have ha : a < 11 := List.mem_range.mp q
  rw [cnt_F0 h, C_shift, Nat.mul_comm a m]
  by_cases c : a = 10
  · subst c
    rw [if_pos rfl, last_strike, C_tenthStrike hb.2.2.1 hb.2.2.2]
  · rw [if_neg c, last_first (by omega), C_tenthAfter (by omega) hb.2.2.1 hb.2.2.2]
theorem nth_four {m k : Nat} (h : GP m k) (f : Nat → Nat → Ways) : nth [f 1 1, f 2 1, f 2 2, f 3 2] m k = f m k := by
  rcases h with ⟨rfl, rfl⟩ | ⟨rfl, rfl⟩ | ⟨rfl, rfl⟩ | ⟨rfl, rfl⟩ <;> rfl
/-- a table that tells the ways from the beginnings of frames with n behind them -/
def Tells (t : List Ways) (n : Nat) : Prop := ∀ m k, GP m k → C (nth t m k) = C (W (F0 n m k))
theorem C_frameAfter {t : List Ways} {n a k : Nat} (T : Tells t n) (hn : n + 1 ≤ 9) (ha : a < 10) (h : 1 ≤ k) (h2 : k ≤ 2) : C (frameAfter t a k) = C (W (F1 (n + 1) k a)) := by
  unfold frameAfter
  rw [C_addAll, C_W (good_F1 h h2)]
  show su (List.range (11 - a)) _ = su (List.range (10 - a + 1)) _
  rw [show 11 - a = 10 - a + 1 by omega]
  refine su_congr fun b m => ?_
  have hb : b < 10 - a + 1 := List.mem_range.mp m
  rw [behind_second hn ha (by omega)]
  show _ = sh ((1 + (k - 1)) * b) _
  rw [cnt_k h, C_shift]
  by_cases c : a + b = 10
  · rw [if_pos c, T _ _ GP.two]
  · rw [if_neg c, T _ _ GP.one]
theorem C_frameWays {t : List Ways} {n m k : Nat} (T : Tells t n) (hn : n + 1 ≤ 9) (h : GP m k) : C (frameWays t m k) = C (W (F0 (n + 1) m k)) := by
  have hb := h.bounds
  unfold frameWays
  rw [C_addAll, C_W (good_F0 h)]
  refine su_congr fun a q => ?_
  have ha : a < 11 := List.mem_range.mp q
  rw [cnt_F0 h, C_shift, Nat.mul_comm a m]
  by_cases c : a = 10
  · subst c
    rw [if_pos rfl, behind_strike h hn, T _ _ h.strike]
  · rw [if_neg c, behind_first hn (by omega), C_frameAfter T hn (by omega) hb.2.2.1 hb.2.2.2]
theorem table_tells : ∀ n, n ≤ 9 → Tells (table (n + 1)) n
  | 0, _ => fun m k h => by
    show C (nth [tenth 1 1, tenth 2 1, tenth 2 2, tenth 3 2] m k) = _
    rw [nth_four h tenth, C_tenth h]
  | n + 1, hn => fun m k h => by
    have T := table_tells n (by omega)
    show C (nth [frameWays (table (n + 1)) 1 1, frameWays (table (n + 1)) 2 1, frameWays (table (n + 1)) 2 2, frameWays (table (n + 1)) 3 2] m k) = _
    rw [nth_four h (frameWays (table (n + 1))), C_frameWays T hn h]
/-! ### behind some rolls -/
theorem run_nil (p : Pl) : run p [] = p := rfl
theorem run_cons (p : Pl) (a : Nat) (r : List Nat) : run p (a :: r) = run (behind p a) r := rfl
theorem not_legal_over {a : Nat} {r : List Nat} : ¬ legal over (a :: r) := fun h => h.1.ne rfl
theorem C_waysFrom : ∀ (n m k : Nat) (l : List Nat), n ≤ 9 → GP m k → legal (F0 n m k) l → C (waysFrom (n + 1) m k l) = sh (countedFrom (F0 n m k) l) (C (W (run (F0 n m k) l)))
  | 0, m, k, [], hn, h, hl => by
    show C (nth (table 1) m k) = sh 0 _
    rw [sh_zero, run_nil]
    exact table_tells 0 hn m k h
  | n + 1, m, k, [], hn, h, hl => by
    show C (nth (table (n + 2)) m k) = sh 0 _
    rw [sh_zero, run_nil]
    exact table_tells (n + 1) hn m k h
  | 0, m, k, [a], hn, h, hl => by
    have hb := h.bounds
    have ha : a ≤ 10 := hl.2.1
    show C (shift (a * m) (if a = 10 then tenthStrike k else tenthAfter a k)) = sh (cnt (F0 0 m k) * a + 0) (C (W (behind (F0 0 m k) a)))
    rw [C_shift, cnt_F0 h, Nat.mul_comm a m, Nat.add_zero]
    by_cases c : a = 10
    · subst c
      rw [if_pos rfl, last_strike, C_tenthStrike hb.2.2.1 hb.2.2.2]
    · rw [if_neg c, last_first (by omega), C_tenthAfter (by omega) hb.2.2.1 hb.2.2.2]
  | n + 1, m, k, [a], hn, h, hl => by
    have hb := h.bounds
    have ha : a ≤ 10 := hl.2.1
    have T := table_tells n (by omega)
    show C (shift (a * m) (if a = 10 then nth (table (n + 1)) (k + 1) 2 else frameAfter (table (n + 1)) a k)) = sh (cnt (F0 (n + 1) m k) * a) (C (W (behind (F0 (n + 1) m k) a)))
    rw [C_shift, cnt_F0 h, Nat.mul_comm a m]
    by_cases c : a = 10
    · subst c
      rw [if_pos rfl, behind_strike h hn, T _ _ h.strike]
    · rw [if_neg c, behind_first hn (by omega), C_frameAfter T hn (by omega) hb.2.2.1 hb.2.2.2]
  | 0, m, k, [a, b], hn, h, hl => by
    have hb := h.bounds
    obtain ⟨_, ha, _, h2, _⟩ := hl
    have ha : a ≤ 10 := ha
    show C (if a + b < 10 then shift (a * m + b * k) [1] else shift (a * m + b * k) (addAll ((List.range (if a = 10 ∧ b ≠ 10 then 11 - b else 11)).map fun c => shift c [1]))) =
      sh (cnt (F0 0 m k) * a + (cnt (behind (F0 0 m k) a) * b + 0)) (C (W (behind (behind (F0 0 m k) a) b)))
    rw [cnt_F0 h, Nat.mul_comm m a, Nat.add_zero]
    by_cases c : a = 10
    · subst c
      rw [last_strike] at h2 ⊢
      have h2 : b ≤ 10 := h2
      have e : cnt (T1 k) * b = b * k := cnt_k hb.2.2.1 b
      rw [if_neg (by omega), strike_second, e, C_shift, C_addAll, C_T2 (anew_le (by omega)), anew_range b (by omega)]
      refine congrArg (sh _) ?_
      have e3 : (if 10 = 10 ∧ b ≠ 10 then 11 - b else 11) = if b = 10 then 11 else 11 - b := by
        by_cases d : b = 10
        · rw [if_neg (fun z => z.2 d), if_pos d]
        · rw [if_pos ⟨rfl, d⟩, if_neg d]
      rw [e3]
      exact su_congr fun c _ => C_shift c [1]
    · rw [last_first (by omega)] at h2 ⊢
      have h2 : b ≤ 10 - a := h2
      have e : cnt (F1 0 k a) * b = b * k := cnt_k hb.2.2.1 b
      rw [last_second (by omega) h2, e]
      by_cases d : a + b = 10
      · rw [if_neg (by omega), if_pos d, C_shift, C_addAll, C_T2 (Nat.le_refl _), if_neg (fun z => c z.1)]
        exact congrArg (sh _) (su_congr fun c _ => C_shift c [1])
      · rw [if_pos (by omega), if_neg d, C_shift, W_over]
  | 0, m, k, a :: b :: c :: r, hn, h, hl => by
    have hb := h.bounds
    obtain ⟨_, ha, _, h2, _, h3, h4⟩ := hl
    have ha : a ≤ 10 := ha
    have key : ∀ x, behind (behind (F0 0 m k) a) b = T2 x → cnt (behind (F0 0 m k) a) * b = b * k → r = [] →
        C (waysFrom 1 m k (a :: b :: c :: r)) = sh (countedFrom (F0 0 m k) (a :: b :: c :: r)) (C (W (run (F0 0 m k) (a :: b :: c :: r)))) := by
      intro x e1 e2 e3
      subst e3
      show C (shift (a * m + b * k + sum [c]) [1]) = sh (cnt (F0 0 m k) * a + (cnt (behind (F0 0 m k) a) * b + (cnt (behind (behind (F0 0 m k) a) b) * c + 0))) (C (W (behind (behind (behind (F0 0 m k) a) b) c)))
      rw [e2, e1, behind_T2, W_over, C_shift, cnt_F0 h, Nat.mul_comm m a]
      have e4 : sum [c] = c := Nat.zero_add c
      have e5 : cnt (T2 x) * c = c := by
        show (1 + 0) * c = c
        omega
      rw [e4, e5, Nat.add_zero, Nat.add_assoc]
    by_cases c' : a = 10
    · subst c'
      rw [last_strike] at *
      rw [strike_second] at *
      rw [behind_T2] at h4
      refine key _ rfl (cnt_k hb.2.2.1 b) ?_
      cases r with
      | nil => rfl
      | cons x r => exact absurd h4 not_legal_over
    · rw [last_first (by omega)] at *
      have h2 : b ≤ 10 - a := h2
      rw [last_second (by omega) h2] at *
      by_cases d : a + b = 10
      · rw [if_pos d] at *
        rw [behind_T2] at h4
        refine key _ rfl (cnt_k hb.2.2.1 b) ?_
        cases r with
        | nil => rfl
        | cons x r => exact absurd h4 not_legal_over
      · rw [if_neg d] at *
        rename_i h5
        exact absurd rfl h5.ne
  | n + 1, m, k, a :: b :: r, hn, h, hl => by
    have hb := h.bounds
    have hl' := hl
    obtain ⟨_, ha, hl2⟩ := hl
    have ha : a ≤ 10 := ha
    show C (if a = 10 then shift (a * m) (waysFrom (n + 1) (k + 1) 2 (b :: r)) else shift (a * m + b * k) (waysFrom (n + 1) (if a + b = 10 then 2 else 1) 1 r)) =
      sh (cnt (F0 (n + 1) m k) * a + countedFrom (behind (F0 (n + 1) m k) a) (b :: r)) (C (W (run (behind (F0 (n + 1) m k) a) (b :: r))))
    rw [cnt_F0 h, Nat.mul_comm m a]
    by_cases c : a = 10
    · subst c
      rw [behind_strike h hn] at hl2 ⊢
      rw [if_pos rfl, C_shift, C_waysFrom n (k + 1) 2 (b :: r) (by omega) h.strike hl2, sh_sh]
    · rw [behind_first hn (by omega)] at hl2 ⊢
      obtain ⟨_, h2, hl3⟩ := hl2
      have h2 : b ≤ 10 - a := h2
      rw [if_neg c, C_shift]
      show sh _ _ = sh (a * m + (cnt (F1 (n + 1) k a) * b + countedFrom (behind (F1 (n + 1) k a) b) r)) (C (W (run (behind (F1 (n + 1) k a) b) r)))
      rw [behind_second hn (by omega) h2] at hl3 ⊢
      have e : cnt (F1 (n + 1) k a) * b = b * k := cnt_k hb.2.2.1 b
      have g2 : GP (if a + b = 10 then 2 else 1) 1 := by
        split
        · exact GP.two
        · exact GP.one
      rw [C_waysFrom n _ 1 r (by omega) g2 hl3, sh_sh, e, Nat.add_assoc]
theorem beg_is : beg = F0 9 1 1 := rfl
/-- THE WAYS: what the specification tells, by what is worked out from the place -/
theorem C_ways {l : List Nat} (h : legal beg l) : C (ways l) = sh (counted l) (C (W (placeOf l))) := C_waysFrom 9 1 1 l (Nat.le_refl _) GP.one h
end Pin

/-! Frames, scores, what stands: the mirror is the specification's. -/
namespace Pin
open Kyp1
theorem foldl_add : ∀ (l : List Nat) (a : Nat), l.foldl (· + ·) a = a + l.sum
  | [], a => by simp
  | x :: r, a => by
    rw [List.foldl_cons, foldl_add r, List.sum_cons, Nat.add_assoc]
theorem sum_is (l : List Nat) : Kyp1.sum l = l.sum := by
  unfold Kyp1.sum
  rw [foldl_add, Nat.zero_add]
/-! ### scores -/
/-- wanted, over what is left of the rolls; the flag: it is the tenth frame -/
def wantedR (last : Bool) : List Nat → Nat × Nat
  | [] => (0, 0)
  | a :: r => if a = 10 then (3, if last then 3 else 1) else match r with
    | [] => (0, 0)
    | b :: _ => if a + b = 10 then (3, if last then 3 else 2) else (2, 2)
/-- the scores that are known, of n frames from the front -/
def kn : Nat → List Nat → List Nat
  | 0, _ => []
  | n + 1, l => if (wantedR (n == 0) l).1 = 0 ∨ l.length < (wantedR (n == 0) l).1 then [] else (l.take (wantedR (n == 0) l).1).sum :: kn n (l.drop (wantedR (n == 0) l).2)
theorem wanted_le (last : Bool) (l : List Nat) : (wantedR last l).2 ≤ (wantedR last l).1 ∧ (wantedR last l).1 ≤ 3 := by
  unfold wantedR
  split
  · exact ⟨Nat.le_refl _, by decide⟩
  · split
    · cases last <;> decide
    · split
      · decide
      · split
        · cases last <;> decide
        · decide
theorem kn_length : ∀ (n : Nat) (l : List Nat), (kn n l).length ≤ n
  | 0, _ => Nat.le_refl _
  | n + 1, l => by
    unfold kn
    split
    · exact Nat.zero_le _
    · exact Nat.succ_le_succ (kn_length n _)
theorem kn_nil (n : Nat) : kn n [] = [] := by
  cases n with
  | zero => rfl
  | succ n =>
    unfold kn
    rw [if_pos (.inl rfl)]
theorem kn_none {n : Nat} {l : List Nat} (h : (wantedR (n == 0) l).1 = 0 ∨ l.length < (wantedR (n == 0) l).1) : kn (n + 1) l = [] := by
  unfold kn
  exact if_pos h
theorem kn_some {n : Nat} {l : List Nat} {w o : Nat} (h : wantedR (n == 0) l = (w, o)) (h0 : w ≠ 0) (h1 : w ≤ l.length) : kn (n + 1) l = (l.take w).sum :: kn n (l.drop o) := by
  have e1 : (wantedR (n == 0) l).1 = w := by rw [h]
  have e2 : (wantedR (n == 0) l).2 = o := by rw [h]
  show (if _ then _ else _) = _
  rw [e1, e2, if_neg (by rintro (z | z) <;> omega)]
/-- what is known, then nothing -/
def Told (n : Nat) (l : List Nat) : Prop := scores n l = (kn n l).map some ++ List.replicate (n - (kn n l).length) none
theorem told_nil (n : Nat) : Told n [] := by
  unfold Told
  rw [kn_nil]
  match n with
  | 0 => rfl
  | 1 => rfl
  | n + 2 => rfl
theorem told_cons {n : Nat} {l r : List Nat} {x : Nat} (e1 : scores (n + 1) l = some x :: scores n r) (e2 : kn (n + 1) l = x :: kn n r) (h : Told n r) : Told (n + 1) l := by
  unfold Told at *
  rw [e1, e2, h, List.map_cons, List.length_cons, Nat.succ_sub_succ]
  rfl
theorem told_none {n : Nat} {l : List Nat} (e1 : scores n l = List.replicate n none) (e2 : kn n l = []) : Told n l := by
  unfold Told
  rw [e1, e2]
  rfl
theorem scores_one (a : Nat) : ∀ n, scores (n + 1) [a] = List.replicate (n + 1) none
  | 0 => rfl
  | _ + 1 => rfl
theorem scores_nil : ∀ n, scores n [] = List.replicate n none
  | 0 => rfl
  | 1 => rfl
  | _ + 2 => rfl
theorem wanted_strike (last : Bool) (r : List Nat) : wantedR last (10 :: r) = (3, if last then 3 else 1) := by
  unfold wantedR
  exact if_pos rfl
theorem wanted_spare (last : Bool) {a b : Nat} (r : List Nat) (c : ¬ a = 10) (d : a + b = 10) : wantedR last (a :: b :: r) = (3, if last then 3 else 2) := by
  show (if _ then _ else _) = _
  rw [if_neg c]
  show (if _ then _ else _) = _
  rw [if_pos d]
theorem wanted_open (last : Bool) {a b : Nat} (r : List Nat) (c : ¬ a = 10) (d : ¬ a + b = 10) : wantedR last (a :: b :: r) = (2, 2) := by
  show (if _ then _ else _) = _
  rw [if_neg c]
  show (if _ then _ else _) = _
  rw [if_neg d]
theorem wanted_one (last : Bool) {a : Nat} (c : ¬ a = 10) : wantedR last [a] = (0, 0) := by
  show (if _ then _ else _) = _
  rw [if_neg c]
/-- the tenth frame as the rules let it stand -/
inductive Tenth : List Nat → Prop
  | none : Tenth []
  | one (a : Nat) (h : a ≤ 10) : Tenth [a]
  | two (a b : Nat) (h : a = 10 ∨ a + b ≤ 10) : Tenth [a, b]
  | three (a b c : Nat) (h : a = 10 ∨ a + b = 10) : Tenth [a, b, c]
theorem tenth_of {m k : Nat} (h : GP m k) : ∀ {l : List Nat}, legal (F0 0 m k) l → Tenth l
  | [], _ => .none
  | [a], hl => .one a hl.2.1
  | [a, b], hl => by
    obtain ⟨_, ha, _, h2, _⟩ := hl
    have ha : a ≤ 10 := ha
    by_cases c : a = 10
    · exact .two a b (.inl c)
    · rw [last_first (by omega)] at h2
      have h2 : b ≤ 10 - a := h2
      exact .two a b (.inr (by omega))
  | a :: b :: c :: r, hl => by
    obtain ⟨_, ha, _, h2, h3, _, h4⟩ := hl
    have ha : a ≤ 10 := ha
    by_cases c' : a = 10
    · subst c'
      rw [last_strike, strike_second, behind_T2] at h4
      cases r with
      | nil => exact .three _ b c (.inl rfl)
      | cons x r => exact absurd h4 not_legal_over
    · rw [last_first (by omega)] at h2 h3 h4
      have h2 : b ≤ 10 - a := h2
      rw [last_second (by omega) h2] at h3 h4
      by_cases d : a + b = 10
      · rw [if_pos d, behind_T2] at h4
        cases r with
        | nil => exact .three _ b c (.inr d)
        | cons x r => exact absurd h4 not_legal_over
      · rw [if_neg d] at h3
        exact absurd rfl h3.ne
theorem told_tenth {l : List Nat} (h : Tenth l) : Told 1 l := by
  cases h with
  | none => exact told_nil 1
  | one a h =>
    refine told_none (scores_one a 0) (kn_none ?_)
    by_cases c : a = 10
    · subst c
      rw [wanted_strike]
      exact .inr (by show 1 < 3; decide)
    · rw [wanted_one _ c]
      exact .inl rfl
  | two a b h =>
    have e : scores 1 [a, b] = [if decide (a + b < 10) = true then some (Kyp1.sum [a, b]) else none] := rfl
    by_cases d : a + b < 10
    · rw [decide_eq_true d, if_pos rfl] at e
      have e2 : Kyp1.sum [a, b] = ([a, b].take 2).sum := sum_is _
      rw [e2] at e
      exact told_cons (r := []) e (kn_some (wanted_open _ [] (by omega) (by omega)) (by decide) (by show 2 ≤ 2; decide)) (told_nil 0)
    · rw [decide_eq_false d, if_neg (by decide)] at e
      refine told_none e (kn_none ?_)
      by_cases c : a = 10
      · subst c
        rw [wanted_strike]
        exact .inr (by show 2 < 3; decide)
      · rw [wanted_spare _ [] c (by omega)]
        exact .inr (by show 2 < 3; decide)
  | three a b c h =>
    have e : scores 1 [a, b, c] = [some (Kyp1.sum [a, b, c])] := rfl
    rw [show Kyp1.sum [a, b, c] = ([a, b, c].take 3).sum from sum_is _] at e
    have w : wantedR true [a, b, c] = (3, 3) := by
      by_cases d : a = 10
      · subst d
        exact wanted_strike _ _
      · exact wanted_spare _ [c] d (by omega)
    exact told_cons (r := []) e (kn_some w (by decide) (by show 3 ≤ 3; decide)) (told_nil 0)
theorem scores_spare_nil {n a b : Nat} (c : ¬ a = 10) (d : a + b = 10) : scores (n + 2) [a, b] = none :: scores (n + 1) [] := by
  have e : scores (n + 2) [a, b] = if a = 10 then none :: scores (n + 1) [b] else (if a + b = 10 then none else some (a + b)) :: scores (n + 1) [] := rfl
  rw [e, if_neg c, if_pos d]
theorem scores_spare {n a b x : Nat} {r : List Nat} (c : ¬ a = 10) (d : a + b = 10) : scores (n + 2) (a :: b :: x :: r) = some (10 + x) :: scores (n + 1) (x :: r) := by
  have e : scores (n + 2) (a :: b :: x :: r) = if a = 10 then some (10 + b + x) :: scores (n + 1) (b :: x :: r) else (if a + b = 10 then some (10 + x) else some (a + b)) :: scores (n + 1) (x :: r) := rfl
  rw [e, if_neg c, if_pos d]
theorem scores_open {n a b : Nat} (r : List Nat) (c : ¬ a = 10) (d : ¬ a + b = 10) : scores (n + 2) (a :: b :: r) = some (a + b) :: scores (n + 1) r := by
  show (if a = 10 then _ else (if a + b = 10 then _ else some (a + b)) :: scores (n + 1) r) = _
  rw [if_neg c, if_neg d]
theorem told_all : ∀ (n m k : Nat) (l : List Nat), n ≤ 9 → GP m k → legal (F0 n m k) l → Told (n + 1) l
  | 0, m, k, l, _, h, hl => told_tenth (tenth_of h hl)
  | n + 1, m, k, [], _, _, _ => told_nil _
  | n + 1, m, k, [a], _, _, _ => by
    refine told_none (scores_one a _) (kn_none ?_)
    by_cases c : a = 10
    · subst c
      rw [wanted_strike]
      exact .inr (by show 1 < 3; decide)
    · rw [wanted_one _ c]
      exact .inl rfl
  | n + 1, m, k, a :: b :: r, hn, h, hl => by
    obtain ⟨_, ha, hl2⟩ := hl
    have ha : a ≤ 10 := ha
    have ef : (n + 1 == 0) = false := by rfl
    by_cases c : a = 10
    · subst c
      rw [behind_strike h hn] at hl2
      have ih := told_all n (k + 1) 2 (b :: r) (by omega) h.strike hl2
      cases r with
      | nil =>
        have e : scores (n + 2) [10, b] = none :: scores (n + 1) [b] := rfl
        refine told_none ?_ (kn_none ?_)
        · rw [e, scores_one]
          rfl
        · rw [wanted_strike]
          exact .inr (by show 2 < 3; decide)
      | cons c r =>
        refine told_cons (x := ((10 :: b :: c :: r).take 3).sum) (r := b :: c :: r) ?_ ?_ ih
        · have e : scores (n + 2) (10 :: b :: c :: r) = some (10 + b + c) :: scores (n + 1) (b :: c :: r) := rfl
          rw [e]
          show some (10 + b + c) :: _ = some (10 + (b + (c + 0))) :: _
          rw [Nat.add_zero, Nat.add_assoc]
          rfl
        · exact kn_some (o := 1) (by rw [ef]; exact wanted_strike _ _) (by decide) (by show 3 ≤ r.length + 1 + 1 + 1; omega)
    · rw [behind_first hn (by omega)] at hl2
      obtain ⟨_, h2, hl3⟩ := hl2
      have h2 : b ≤ 10 - a := h2
      rw [behind_second hn (by omega) h2] at hl3
      have g2 : GP (if a + b = 10 then 2 else 1) 1 := by
        split
        · exact GP.two
        · exact GP.one
      have ih := told_all n _ 1 r (by omega) g2 hl3
      by_cases d : a + b = 10
      · cases r with
        | nil =>
          refine told_none ?_ (kn_none ?_)
          · rw [scores_spare_nil c d, scores_nil]
            rfl
          · rw [wanted_spare _ [] c d]
            exact .inr (by show 2 < 3; decide)
        | cons x r =>
          refine told_cons (x := ((a :: b :: x :: r).take 3).sum) (r := x :: r) ?_ ?_ ih
          · rw [scores_spare c d]
            show some (10 + x) :: _ = some (a + (b + (x + 0))) :: _
            rw [← d, Nat.add_assoc]
            rfl
          · exact kn_some (o := 2) (by rw [ef]; exact wanted_spare _ _ c d) (by decide) (by show 3 ≤ r.length + 1 + 1 + 1; omega)
      · refine told_cons (x := ((a :: b :: r).take 2).sum) (r := r) ?_ ?_ ih
        · rw [scores_open r c d]
          show some (a + b) :: _ = some (a + (b + 0)) :: _
          rfl
        · exact kn_some (o := 2) (by rw [ef]; exact wanted_open _ _ c d) (by decide) (by show 2 ≤ r.length + 1 + 1; omega)
theorem told_game {l : List Nat} (h : legal beg l) : Told 10 l := told_all 9 1 1 l (Nat.le_refl _) GP.one h
theorem takeWhile_known (xs : List Nat) (n : Nat) : (xs.map some ++ List.replicate n (none : Option Nat)).takeWhile (fun x => x.isSome) = xs.map some := by
  induction xs with
  | nil => cases n <;> rfl
  | cons x r ih => simp [ih]
theorem known_is {l : List Nat} (h : legal beg l) : known l = kn 10 l := by
  unfold known
  rw [told_game h, takeWhile_known, List.map_map]
  exact List.map_id _
theorem scores_at {l : List Nat} (h : legal beg l) (k : Nat) : (scores 10 l).getD k none = (kn 10 l)[k]? := by
  rw [told_game h, List.getD_eq_getElem?_getD]
  by_cases c : k < (kn 10 l).length
  · rw [List.getElem?_append_left (by rw [List.length_map]; exact c), List.getElem?_map, List.getElem?_eq_getElem c]
    rfl
  · rw [List.getElem?_append_right (by rw [List.length_map]; omega), List.getElem?_eq_none (l := kn 10 l) (by omega), List.getElem?_replicate]
    split <;> rfl
/-! ### frames that are over, pins that stand -/
def doneAt : Nat → List Rolls → Nat
  | _, [] => 0
  | o, x :: r => (if frameDone o x = true then 1 else 0) + doneAt (o + 1) r
theorem doneAt_is : ∀ (f : List Rolls) (o : Nat), ((List.range f.length).filter fun k => frameDone (o + k) (f.getD k [])).length = doneAt o f
  | [], _ => rfl
  | x :: r, o => by
    have ih := doneAt_is r (o + 1)
    rw [List.length_cons, List.range_succ_eq_map, List.filter_cons, List.filter_map]
    have e : ((fun k => frameDone (o + k) ((x :: r).getD k [])) ∘ Nat.succ) = fun k => frameDone (o + 1 + k) (r.getD k []) := by
      funext k
      show frameDone (o + (k + 1)) (r.getD k []) = _
      rw [show o + (k + 1) = o + 1 + k by omega]
    rw [e]
    show (if frameDone o x = true then _ else _ : List Nat).length = (if frameDone o x = true then 1 else 0) + doneAt (o + 1) r
    split
    · rw [List.length_cons, List.length_map, ih, Nat.add_comm]
    · rw [List.length_map, ih, Nat.zero_add]
theorem done_is (l : List Nat) : done l = doneAt 0 (frames 10 l) := by
  have e := doneAt_is (frames 10 l) 0
  rw [← e]
  unfold done
  refine congrArg List.length (List.filter_congr fun k _ => ?_)
  rw [Nat.zero_add]
/-- what stands by the last frame's rolls -/
def st : Rolls → Nat
  | [a] => if a = 10 then 10 else 10 - a
  | [a, b] => if a = 10 then (if b = 10 then 10 else 10 - b) else 10
  | _ => 10
def stand (d : Nat) (f : List Rolls) : Nat := if d = f.length then 10 else st (f.getLastD [])
theorem standing_is (l : List Nat) : standing l = stand (doneAt 0 (frames 10 l)) (frames 10 l) := by
  rw [← done_is]
  unfold standing stand
  rfl
structure Stands (n : Nat) (f : List Rolls) (R : Pl) : Prop where
  fr : doneAt (9 - n) f + (9 - n) = R.fr
  lf : R ≠ over → stand (doneAt (9 - n) f) f = R.lf
theorem stand_cons {x : Rolls} {f : List Rolls} {d : Nat} : stand (1 + d) (x :: f) = stand d f ∨ (f = [] ∧ d ≠ 0) := by
  unfold stand
  cases f with
  | nil =>
    by_cases c : d = 0
    · subst c
      exact .inl rfl
    · exact .inr ⟨rfl, c⟩
  | cons y r =>
    refine .inl ?_
    simp only [List.length_cons]
    by_cases c : d = r.length + 1
    · rw [if_pos c, if_pos (by omega)]
    · rw [if_neg c, if_neg (by omega)]
      rfl
theorem stands_cons {n : Nat} {x : Rolls} {f : List Rolls} {R : Pl} (hn : n + 1 ≤ 9) (hx : frameDone (9 - (n + 1)) x = true) (h : Stands n f R) : Stands (n + 1) (x :: f) R := by
  have e0 : 9 - (n + 1) + 1 = 9 - n := by omega
  have e : doneAt (9 - (n + 1)) (x :: f) = 1 + doneAt (9 - n) f := by
    show (if _ then 1 else 0) + doneAt (9 - (n + 1) + 1) f = _
    rw [hx, if_pos rfl, e0]
  refine ⟨?_, fun z => ?_⟩
  · rw [e, ← h.fr]
    omega
  · rw [e, ← h.lf z]
    rcases stand_cons (x := x) (f := f) (d := doneAt (9 - n) f) with q | ⟨rfl, q⟩
    · exact q
    · exact absurd rfl q
theorem stands_open {n : Nat} {x : Rolls} {R : Pl} (hx : frameDone (9 - n) x = false) (e1 : 9 - n = R.fr) (e2 : st x = R.lf) : Stands n [x] R := by
  have e : doneAt (9 - n) [x] = 0 := by
    show (if _ then 1 else 0) + 0 = _
    rw [hx]
    rfl
  refine ⟨by rw [e, Nat.zero_add]; exact e1, fun _ => ?_⟩
  rw [e]
  exact e2
theorem stands_over {x : Rolls} (hx : frameDone 9 x = true) : Stands 0 [x] over := by
  have e : doneAt (9 - 0) [x] = 1 := by
    show (if frameDone 9 x = true then 1 else 0) + 0 = _
    rw [hx]
    rfl
  exact ⟨by rw [e]; rfl, fun z => absurd rfl z⟩
theorem stands_nil {n m k : Nat} : Stands n [] (F0 n m k) := ⟨Nat.zero_add _, fun _ => rfl⟩
theorem frameDone_early {o : Nat} (h : o < 9) (f : Rolls) : frameDone o f = match f with | [a] => a == 10 | [_, _] => true | _ => false := by
  unfold frameDone
  rw [if_neg (by omega)]
  rcases f with _ | ⟨a, _ | ⟨b, _ | ⟨c, r⟩⟩⟩ <;> rfl
theorem stands : ∀ (n m k : Nat) (l : List Nat), n ≤ 9 → GP m k → legal (F0 n m k) l → Stands n (frames (n + 1) l) (run (F0 n m k) l)
  | 0, m, k, [], _, _, _ => stands_nil
  | n + 1, m, k, [], _, _, _ => stands_nil
  | 0, m, k, [a], _, h, hl => by
    have ha : a ≤ 10 := hl.2.1
    show Stands 0 [[a]] (behind (F0 0 m k) a)
    by_cases c : a = 10
    · subst c
      rw [last_strike]
      exact stands_open rfl rfl rfl
    · rw [last_first (by omega)]
      exact stands_open rfl rfl (if_neg c)
  | 0, m, k, [a, b], _, h, hl => by
    have t := tenth_of h hl
    obtain ⟨_, ha, _, h2, _⟩ := hl
    have ha : a ≤ 10 := ha
    show Stands 0 [[a, b]] (behind (behind (F0 0 m k) a) b)
    by_cases c : a = 10
    · subst c
      rw [last_strike, strike_second]
      refine stands_open (decide_eq_false (by omega)) rfl ?_
      show (if b = 10 then 10 else 10 - b) = anew (10 - b)
      rw [last_strike] at h2
      have h2 : b ≤ 10 := h2
      unfold anew
      by_cases d : b = 10
      · rw [if_pos d, if_pos (by omega)]
      · rw [if_neg d, if_neg (by omega)]
    · rw [last_first (by omega)] at h2 ⊢
      have h2 : b ≤ 10 - a := h2
      rw [last_second (by omega) h2]
      by_cases d : a + b = 10
      · rw [if_pos d]
        exact stands_open (decide_eq_false (by omega)) rfl (if_neg c)
      · rw [if_neg d]
        exact stands_over (decide_eq_true (by omega))
  | 0, m, k, a :: b :: c :: r, _, h, hl => by
    have t := tenth_of h hl
    obtain ⟨_, ha, _, h2, _⟩ := hl
    have ha : a ≤ 10 := ha
    cases t with
    | three _ _ _ d =>
      show Stands 0 [[a, b, c]] (behind (behind (behind (F0 0 m k) a) b) c)
      have e : behind (behind (behind (F0 0 m k) a) b) c = over := by
        by_cases c : a = 10
        · subst c
          rw [last_strike, strike_second, behind_T2]
        · rw [last_first (by omega)] at h2 ⊢
          have h2 : b ≤ 10 - a := h2
          rw [last_second (by omega) h2, if_pos (by omega), behind_T2]
      rw [e]
      exact stands_over rfl
  | n + 1, m, k, [a], hn, h, hl => by
    have ha : a ≤ 10 := hl.2.1
    show Stands (n + 1) [[a]] (behind (F0 (n + 1) m k) a)
    by_cases c : a = 10
    · subst c
      rw [behind_strike h hn]
      exact stands_cons hn (frameDone_early (by omega) _) stands_nil
    · rw [behind_first hn (by omega)]
      refine stands_open ?_ rfl (if_neg c)
      rw [frameDone_early (by omega)]
      exact beq_eq_false_iff_ne.mpr c
  | n + 1, m, k, a :: b :: r, hn, h, hl => by
    obtain ⟨_, ha, hl2⟩ := hl
    have ha : a ≤ 10 := ha
    show Stands (n + 1) (if a = 10 then [a] :: frames (n + 1) (b :: r) else [a, b] :: frames (n + 1) r) (run (behind (F0 (n + 1) m k) a) (b :: r))
    by_cases c : a = 10
    · subst c
      rw [behind_strike h hn] at hl2 ⊢
      rw [if_pos rfl]
      exact stands_cons hn (frameDone_early (by omega) _) (stands n (k + 1) 2 (b :: r) (by omega) h.strike hl2)
    · rw [behind_first hn (by omega)] at hl2 ⊢
      obtain ⟨_, h2, hl3⟩ := hl2
      have h2 : b ≤ 10 - a := h2
      show Stands (n + 1) _ (run (behind (F1 (n + 1) k a) b) r)
      rw [behind_second hn (by omega) h2] at hl3 ⊢
      have g2 : GP (if a + b = 10 then 2 else 1) 1 := by
        split
        · exact GP.two
        · exact GP.one
      rw [if_neg c]
      exact stands_cons hn (frameDone_early (by omega) _) (stands n _ 1 r (by omega) g2 hl3)
theorem stands_game {l : List Nat} (h : legal beg l) : Stands 9 (frames 10 l) (placeOf l) := stands 9 1 1 l (Nat.le_refl _) GP.one h
theorem done_place {l : List Nat} (h : legal beg l) : done l = (placeOf l).fr := by
  rw [done_is]
  exact (stands_game h).fr
theorem standing_place {l : List Nat} (h : legal beg l) (n : placeOf l ≠ over) : standing l = (placeOf l).lf := by
  rw [standing_is]
  exact (stands_game h).lf n
/-! ### rolls one more, one less -/
theorem run_append (p : Pl) (l r : List Nat) : run p (l ++ r) = run (run p l) r := List.foldl_append
theorem ok_run : ∀ {l : List Nat} {p : Pl}, Ok p → legal p l → Ok (run p l)
  | [], _, h, _ => h
  | a :: r, p, h, hl => ok_run (l := r) (ok_behind hl.1 a) hl.2.2
theorem ok_place {l : List Nat} (h : legal beg l) : Ok (placeOf l) := ok_run (.inr good_beg) h
theorem legal_snoc : ∀ {l : List Nat} {p : Pl} {n : Nat}, legal p (l ++ [n]) ↔ legal p l ∧ Good (run p l) ∧ n ≤ (run p l).lf
  | [], p, n => ⟨fun h => ⟨trivial, h.1, h.2.1⟩, fun h => ⟨h.2.1, h.2.2, trivial⟩⟩
  | a :: r, p, n => by
    have ih := legal_snoc (l := r) (p := behind p a) (n := n)
    constructor
    · rintro ⟨h1, h2, h3⟩
      have := ih.mp h3
      exact ⟨⟨h1, h2, this.1⟩, this.2⟩
    · rintro ⟨⟨h1, h2, h3⟩, h4⟩
      exact ⟨h1, h2, ih.mpr ⟨h3, h4⟩⟩
theorem legal_dropLast {l : List Nat} {p : Pl} (h : legal p l) : legal p l.dropLast := by
  by_cases c : l = []
  · subst c
    exact trivial
  · rw [← List.dropLast_concat_getLast c] at h
    exact (legal_snoc.mp h).1
theorem over_iff {l : List Nat} (h : legal beg l) : Kyp1.over l = true ↔ placeOf l = over := by
  unfold Kyp1.over
  rw [done_place h, beq_iff_eq]
  constructor
  · intro e
    rcases ok_place h with z | g
    · exact z
    · have := g.fr
      omega
  · intro e
    rw [e]
    rfl
theorem place_snoc (l : List Nat) (n : Nat) : placeOf (l ++ [n]) = behind (placeOf l) n := run_append beg l [n]
theorem countedFrom_append : ∀ (l r : List Nat) (p : Pl), countedFrom p (l ++ r) = countedFrom p l + countedFrom (run p l) r
  | [], r, p => (Nat.zero_add _).symm
  | a :: l, r, p => by
    show cnt p * a + countedFrom (behind p a) (l ++ r) = cnt p * a + countedFrom (behind p a) l + countedFrom (run (behind p a) l) r
    rw [countedFrom_append l r, Nat.add_assoc]
theorem legal_bound : ∀ {l : List Nat} {p : Pl}, legal p l → l.length ≤ left p ∧ ∀ n ∈ l, n ≤ 10
  | [], p, _ => ⟨Nat.zero_le _, fun n m => nomatch m⟩
  | a :: r, p, h => by
    have ih := legal_bound (l := r) h.2.2
    have h1 := left_behind h.1 a
    have h2 := h.1.lf
    have h3 := h.2.1
    refine ⟨?_, fun n m => ?_⟩
    · rw [List.length_cons]
      omega
    · rcases List.mem_cons.mp m with rfl | m
      · omega
      · exact ih.2 n m
theorem legal_len {l : List Nat} (h : legal beg l) : l.length ≤ 21 := Nat.le_trans (legal_bound h).1 (left_le (.inr good_beg))
end Pin

/-! The calls: the mirror answers what the specification does; a line is read call by call. -/
namespace Pin
open Kyp1
/-! ### sums, the least, the greatest -/
theorem C_cons_zero (x : Nat) (r : List Nat) : C (x :: r) 0 = x := rfl
theorem C_cons_succ (x : Nat) (r : List Nat) (s : Nat) : C (x :: r) (s + 1) = C r s := rfl
theorem sum_zero : ∀ (p : List Nat), (∀ s, C p s = 0) → p.sum = 0
  | [], _ => rfl
  | x :: r, h => by
    have h0 := h 0
    rw [C_cons_zero] at h0
    rw [List.sum_cons, h0, sum_zero r fun s => h (s + 1)]
theorem sum_of_C : ∀ (p q : List Nat), C p = C q → p.sum = q.sum
  | [], q, h => (sum_zero q fun s => by rw [← h, C_nil]).symm
  | x :: r, [], h => sum_zero (x :: r) fun s => by rw [h, C_nil]
  | x :: r, y :: t, h => by
    have h0 : C (x :: r) 0 = C (y :: t) 0 := by rw [h]
    rw [C_cons_zero, C_cons_zero] at h0
    rw [List.sum_cons, List.sum_cons, h0, sum_of_C r t (by
      funext s
      have := congrFun h (s + 1)
      exact this)]
theorem sum_shift (n : Nat) (p : List Nat) : (shift n p).sum = p.sum := by
  unfold shift
  rw [List.sum_append]
  have : (List.replicate n 0).sum = 0 := by
    induction n with
    | zero => rfl
    | succ n ih => rw [List.replicate_succ, List.sum_cons, ih]
  omega
def least0 (w : List Nat) : Nat := (scoresOf w).headD 0
def most0 (w : List Nat) : Nat := (scoresOf w).getLastD 0
theorem scoresOf_is (w : List Nat) : scoresOf w = (List.range w.length).filter fun s => C w s != 0 := rfl
theorem lt_of_C {w : List Nat} {s : Nat} (h : C w s ≠ 0) : s < w.length := by
  rcases Nat.lt_or_ge s w.length with c | c
  · exact c
  · exact absurd (C_out c) h
theorem least_is {w : List Nat} {s : Nat} (h : C w s ≠ 0) (b : ∀ t, t < s → C w t = 0) : least0 w = s := by
  have hl := lt_of_C h
  obtain ⟨k, hk⟩ : ∃ k, w.length = s + (k + 1) := ⟨w.length - s - 1, by omega⟩
  unfold least0
  rw [scoresOf_is, hk, List.range_add, List.filter_append, List.range_succ_eq_map, List.map_cons, List.filter_cons]
  have e1 : (List.range s).filter (fun s => C w s != 0) = [] := by
    rw [List.filter_eq_nil_iff]
    intro t m
    rw [b t (List.mem_range.mp m)]
    decide
  have e2 : (C w (s + 0) != 0) = true := by
    rw [Nat.add_zero]
    exact bne_iff_ne.mpr h
  rw [e1, e2]
  rfl
theorem most_is {w : List Nat} {s : Nat} (h : C w s ≠ 0) (b : ∀ t, s < t → C w t = 0) : most0 w = s := by
  have hl := lt_of_C h
  obtain ⟨k, hk⟩ : ∃ k, w.length = s + 1 + k := ⟨w.length - (s + 1), by omega⟩
  unfold most0
  rw [scoresOf_is, hk, List.range_add, List.filter_append, List.range_succ, List.filter_append]
  have e1 : ((List.range k).map fun x => s + 1 + x).filter (fun s => C w s != 0) = [] := by
    rw [List.filter_eq_nil_iff]
    intro t m
    obtain ⟨x, _, rfl⟩ := List.mem_map.mp m
    rw [b _ (by omega)]
    decide
  have e2 : [s].filter (fun s => C w s != 0) = [s] := by
    rw [List.filter_cons, if_pos (bne_iff_ne.mpr h)]
    rfl
  rw [e1, e2, List.append_nil, List.getLastD_concat]
theorem least_ex {w : List Nat} {s : Nat} (h : C w s ≠ 0) : C w (least0 w) ≠ 0 ∧ ∀ t, t < least0 w → C w t = 0 := by
  have key : ∀ n, (∃ s, s < n ∧ C w s ≠ 0) → ∃ s, C w s ≠ 0 ∧ ∀ t, t < s → C w t = 0 := by
    intro n
    induction n with
    | zero => rintro ⟨s, h, _⟩; omega
    | succ n ih =>
      rintro ⟨s, h1, h2⟩
      by_cases c : ∃ s, s < n ∧ C w s ≠ 0
      · exact ih c
      · have e : s = n := by
          rcases Nat.lt_or_ge s n with d | d
          · exact absurd ⟨s, d, h2⟩ c
          · omega
        subst e
        refine ⟨s, h2, fun t ht => ?_⟩
        exact Decidable.byContradiction fun z => c ⟨t, ht, z⟩
  obtain ⟨s, h1, h2⟩ := key (s + 1) ⟨s, Nat.lt_succ_self s, h⟩
  rw [least_is h1 h2]
  exact ⟨h1, h2⟩
theorem most_ex {w : List Nat} {s : Nat} (h : C w s ≠ 0) : C w (most0 w) ≠ 0 ∧ ∀ t, most0 w < t → C w t = 0 := by
  have key : ∀ n, (∃ s, w.length ≤ s + n ∧ C w s ≠ 0) → ∃ s, C w s ≠ 0 ∧ ∀ t, s < t → C w t = 0 := by
    intro n
    induction n with
    | zero =>
      rintro ⟨s, h, z⟩
      exact absurd (C_out h) z
    | succ n ih =>
      rintro ⟨s, h1, h2⟩
      by_cases c : ∃ s, w.length ≤ s + n ∧ C w s ≠ 0
      · exact ih c
      · refine ⟨s, h2, fun t ht => ?_⟩
        exact Decidable.byContradiction fun z => c ⟨t, by omega, z⟩
  obtain ⟨s, h1, h2⟩ := key w.length ⟨s, by omega, h⟩
  rw [most_is h1 h2]
  exact ⟨h1, h2⟩
theorem sh_at (n : Nat) (f : Nat → Nat) (s : Nat) : sh n f (n + s) = f s := by
  unfold sh
  rw [if_pos (by omega), show n + s - n = s by omega]
theorem least_sh {p q : List Nat} {n s : Nat} (e : C q = sh n (C p)) (h : C p s ≠ 0) : least0 q = n + least0 p := by
  obtain ⟨h1, h2⟩ := least_ex h
  refine least_is ?_ fun t ht => ?_
  · rw [e, sh_at]
    exact h1
  · rw [e]
    unfold sh
    split
    · exact h2 _ (by omega)
    · rfl
theorem most_sh {p q : List Nat} {n s : Nat} (e : C q = sh n (C p)) (h : C p s ≠ 0) : most0 q = n + most0 p := by
  obtain ⟨h1, h2⟩ := most_ex h
  refine most_is ?_ fun t ht => ?_
  · rw [e, sh_at]
    exact h1
  · rw [e]
    unfold sh
    split
    · exact h2 _ (by omega)
    · rfl
/-- some way leads on -/
theorem W_ways : ∀ (d : Nat) (p : Pl), Ok p → left p ≤ d → ∃ s, C (W p) s ≠ 0
  | d, p, h, hd => by
    by_cases c : p = over
    · rw [c, W_over]
      exact ⟨0, by decide⟩
    · have g := h.good c
      have hp := left_pos g
      match d with
      | 0 => omega
      | d + 1 =>
        obtain ⟨s, hs⟩ := W_ways d (behind p 0) (ok_behind g 0) (by have := left_behind g 0; omega)
        refine ⟨s, ?_⟩
        rw [C_W g, List.range_succ_eq_map]
        show (((0 :: (List.range p.lf).map Nat.succ).map fun n => sh (cnt p * n) (C (W (behind p n))) s).sum) ≠ 0
        rw [List.map_cons, List.sum_cons, Nat.mul_zero, sh_zero]
        omega
theorem W_some {p : Pl} (h : Ok p) : ∃ s, C (W p) s ≠ 0 := W_ways _ p h (Nat.le_refl _)
/-! ### one call -/
def wt (p : List Nat) (w : Int) : Nat := if w < 0 ∨ (p.length : Int) ≤ w then 0 else C p w.toNat
def pstep (l : List Nat) : Call → List Nat × List Int
  | .start => ([], [0])
  | .roll n => if placeOf l = over then (l, [-41]) else if (placeOf l).lf < n then (l, [-22]) else (l ++ [n], [((placeOf (l ++ [n])).fr : Int)])
  | .back => if l = [] then (l, [-6]) else (l.dropLast, [((l.getLastD 0 : Nat) : Int)])
  | .score => (l, [(((kn 10 l).sum : Nat) : Int), (((kn 10 l).length : Nat) : Int)])
  | .frame k => (l, if 10 ≤ k then [-22] else if (kn 10 l).length ≤ k then [-61] else [(((kn 10 l).getD k 0 : Nat) : Int), ((((kn 10 l).take (k + 1)).sum : Nat) : Int)])
  | .range => (l, [((counted l + least0 (W (placeOf l)) : Nat) : Int), ((counted l + most0 (W (placeOf l)) : Nat) : Int)])
  | .ways s => (l, if 300 < s then [-22] else [0, ((wt (W (placeOf l)) ((s : Int) - (counted l : Int)) : Nat) : Int), (((W (placeOf l)).sum : Nat) : Int)])
  | .state => (l, [((placeOf l).fr : Int), ((l.length : Nat) : Int), ((placeOf l).lf : Int)])
theorem pstep_roll (l : List Nat) (n : Nat) : pstep l (.roll n) = if placeOf l = over then (l, [-41]) else if (placeOf l).lf < n then (l, [-22]) else (l ++ [n], [((placeOf (l ++ [n])).fr : Int)]) := rfl
theorem pstep_back (l : List Nat) : pstep l .back = if l = [] then (l, [-6]) else (l.dropLast, [((l.getLastD 0 : Nat) : Int)]) := rfl
theorem pstep_frame (l : List Nat) (k : Nat) : pstep l (.frame k) = (l, if 10 ≤ k then [-22] else if (kn 10 l).length ≤ k then [-61] else [(((kn 10 l).getD k 0 : Nat) : Int), ((((kn 10 l).take (k + 1)).sum : Nat) : Int)]) := rfl
theorem pstep_ways (l : List Nat) (s : Nat) : pstep l (.ways s) = (l, if 300 < s then [-22] else [0, ((wt (W (placeOf l)) ((s : Int) - (counted l : Int)) : Nat) : Int), (((W (placeOf l)).sum : Nat) : Int)]) := rfl
theorem pstep_legal {l : List Nat} (h : legal beg l) (c : Call) : legal beg (pstep l c).1 := by
  cases c with
  | start => exact (show legal beg [] from trivial)
  | roll n =>
    rw [pstep_roll]
    by_cases c : placeOf l = over
    · rw [if_pos c]
      exact h
    · rw [if_neg c]
      by_cases d : (placeOf l).lf < n
      · rw [if_pos d]
        exact h
      · rw [if_neg d]
        exact legal_snoc.mpr ⟨h, (ok_place h).good c, by show n ≤ (placeOf l).lf; omega⟩
  | back =>
    rw [pstep_back]
    by_cases c : l = []
    · rw [if_pos c]
      exact h
    · rw [if_neg c]
      exact legal_dropLast h
  | score => exact h
  | frame k => exact h
  | range => exact h
  | ways s => exact h
  | state => exact h
theorem ways_sum {l : List Nat} (h : legal beg l) : Kyp1.sum (ways l) = (W (placeOf l)).sum := by
  rw [sum_is, sum_of_C (ways l) (shift (counted l) (W (placeOf l))) (by rw [C_ways h, C_shift]), sum_shift]
theorem waysTo_is {l : List Nat} (h : legal beg l) (s : Nat) : waysTo l s = wt (W (placeOf l)) ((s : Int) - (counted l : Int)) := by
  show C (ways l) s = _
  rw [C_ways h]
  unfold sh wt
  by_cases c : counted l ≤ s
  · rw [if_pos c]
    have e : ((s : Int) - (counted l : Int)).toNat = s - counted l := by omega
    by_cases d : (W (placeOf l)).length ≤ s - counted l
    · rw [if_pos (by omega), C_out d]
    · rw [if_neg (by omega), e]
  · rw [if_neg c, if_pos (by omega)]
/-- the answer of a call by the specification -/
def said (a : Ans) : List Int := a.value :: Kyp1Neutral.ints a.out
theorem acts_is {l : List Nat} (h : legal beg l) (c : Call) : ∃ a, acts (some l) c = some (some (pstep l c).1, a) ∧ said a = (pstep l c).2 := by
  cases c with
  | start => exact ⟨_, rfl, rfl⟩
  | roll n =>
    have e : acts (some l) (.roll n) = some (if Kyp1.over l = true then (some l, say (-41)) else if standing l < n then (some l, say (-22)) else (some (l ++ [n]), say (done (l ++ [n]) : Nat))) := rfl
    rw [e, pstep_roll]
    by_cases c : placeOf l = over
    · rw [if_pos ((over_iff h).mpr c), if_pos c]
      exact ⟨_, rfl, rfl⟩
    · rw [if_neg (fun z => c ((over_iff h).mp z)), if_neg c, standing_place h c]
      by_cases d : (placeOf l).lf < n
      · rw [if_pos d, if_pos d]
        exact ⟨_, rfl, rfl⟩
      · rw [if_neg d, if_neg d, done_place (legal_snoc.mpr ⟨h, (ok_place h).good c, by show n ≤ (placeOf l).lf; omega⟩)]
        exact ⟨_, rfl, rfl⟩
  | back =>
    have e : acts (some l) .back = some (if l.isEmpty = true then (some l, say (-6)) else (some l.dropLast, say (l.getLastD 0 : Nat))) := rfl
    rw [e, pstep_back]
    by_cases c : l = []
    · rw [if_pos (by rw [c]; rfl), if_pos c]
      exact ⟨_, rfl, rfl⟩
    · rw [if_neg (by rw [List.isEmpty_iff]; exact c), if_neg c]
      exact ⟨_, rfl, rfl⟩
  | score =>
    have e : acts (some l) .score = some (some l, ⟨(score l : Nat), [(known l).length]⟩) := rfl
    rw [e]
    unfold score
    rw [known_is h, sum_is]
    exact ⟨_, rfl, rfl⟩
  | frame k =>
    have e : acts (some l) (.frame k) = some (some l, if 9 < k then say (-22) else match (scores 10 l).getD k none with
      | none => say (-61)
      | some n => ⟨(n : Nat), [Kyp1.sum ((known l).take (k + 1))]⟩) := rfl
    rw [e, scores_at h, known_is h, sum_is, pstep_frame]
    by_cases c : 10 ≤ k
    · rw [if_pos (by omega), if_pos c]
      exact ⟨_, rfl, rfl⟩
    · rw [if_neg (by omega), if_neg c]
      by_cases d : (kn 10 l).length ≤ k
      · rw [List.getElem?_eq_none d, if_pos d]
        exact ⟨_, rfl, rfl⟩
      · rw [if_neg d, List.getD_eq_getElem?_getD, List.getElem?_eq_getElem (by omega)]
        exact ⟨_, rfl, rfl⟩
  | range =>
    have e : acts (some l) .range = some (some l, ⟨(least l : Nat), [most l]⟩) := rfl
    obtain ⟨s, hs⟩ := W_some (ok_place h)
    have e1 : least l = counted l + least0 (W (placeOf l)) := least_sh (C_ways h) hs
    have e2 : most l = counted l + most0 (W (placeOf l)) := most_sh (C_ways h) hs
    rw [e, e1, e2]
    exact ⟨_, rfl, rfl⟩
  | ways s =>
    have e : acts (some l) (.ways s) = some (some l, if 300 < s then say (-22) else ⟨0, [waysTo l s, Kyp1.sum (ways l)]⟩) := rfl
    rw [e, ways_sum h, waysTo_is h, pstep_ways]
    by_cases c : 300 < s
    · rw [if_pos c, if_pos c]
      exact ⟨_, rfl, rfl⟩
    · rw [if_neg c, if_neg c]
      exact ⟨_, rfl, rfl⟩
  | state =>
    have e : acts (some l) .state = some (some l, ⟨(done l : Nat), [l.length, if Kyp1.over l = true then 0 else standing l]⟩) := rfl
    rw [e, done_place h]
    by_cases c : placeOf l = over
    · rw [if_pos ((over_iff h).mpr c)]
      refine ⟨_, rfl, ?_⟩
      show [((placeOf l).fr : Int), ((l.length : Nat) : Int), ((0 : Nat) : Int)] = [((placeOf l).fr : Int), ((l.length : Nat) : Int), ((placeOf l).lf : Int)]
      rw [c]
      rfl
    · rw [if_neg (fun z => c ((over_iff h).mp z)), standing_place h c]
      exact ⟨_, rfl, rfl⟩
/-! ### a line, call by call -/
/-- how a call is spelled -/
def spell : Call → List Int
  | .start => [0]
  | .roll n => [1, (n : Int)]
  | .back => [2]
  | .score => [3]
  | .frame k => [4, (k : Int)]
  | .range => [5]
  | .ways s => [6, (s : Int)]
  | .state => [7]
/-- what is left of the line, the rolls as they stand, what is yet to be answered -/
inductive Goes : List Int → List Nat → List Int → Prop
  | nil (l : List Nat) : Goes [] l []
  | cons (c : Call) {rest : List Int} {l : List Nat} {ans : List Int} (h : Goes rest (pstep l c).1 ans) : Goes (spell c ++ rest) l (((pstep l c).2.length : Int) :: ((pstep l c).2 ++ ans))
theorem call_is (p : Int) (r : List Int) : PyFlat.call PyKyp1.shape (p :: r) = match PyKyp1.shape p with
    | none => none
    | some (n, k) => if r.length < n then none else match PyFlat.rows k (r.drop n) with
      | none => none
      | some (xs, t) => some ((p :: r.take n) :: xs, t) := rfl
theorem shape_rows {p : Int} {n k : Nat} (h : PyKyp1.shape p = some (n, k)) : k = 0 := by
  unfold PyKyp1.shape at h
  repeat (split at h; · exact (Prod.mk.inj (Option.some.inj h)).2.symm)
  cases h
/-- one call read off -/
theorem calls_cons {f : Nat} {p : Int} {r : List Int} {raw : List (List (List Int))} (h : PyFlat.calls PyKyp1.shape (f + 1) (p :: r) = some raw) :
    ∃ n raw', PyKyp1.shape p = some (n, 0) ∧ n ≤ r.length ∧ raw = [p :: r.take n] :: raw' ∧ PyFlat.calls PyKyp1.shape f (r.drop n) = some raw' := by
  have h2 : (match PyFlat.call PyKyp1.shape (p :: r) with
    | none => none
    | some (c, t) => match PyFlat.calls PyKyp1.shape f t with
      | none => none
      | some cs => some (c :: cs)) = some raw := h
  cases hs : PyKyp1.shape p with
  | none =>
    have e : PyFlat.call PyKyp1.shape (p :: r) = none := by
      rw [call_is, hs]
    rw [e] at h2
    cases h2
  | some nk =>
    obtain ⟨n, k⟩ := nk
    have hk := shape_rows hs
    subst hk
    by_cases c : r.length < n
    · have e : PyFlat.call PyKyp1.shape (p :: r) = none := by
        rw [call_is, hs]
        exact if_pos c
      rw [e] at h2
      cases h2
    · have e : PyFlat.call PyKyp1.shape (p :: r) = some ([p :: r.take n], r.drop n) := by
        rw [call_is, hs]
        exact if_neg c
      rw [e] at h2
      have h3 : (match PyFlat.calls PyKyp1.shape f (r.drop n) with
        | none => none
        | some cs => some ([p :: r.take n] :: cs)) = some raw := h2
      cases h4 : PyFlat.calls PyKyp1.shape f (r.drop n) with
      | none =>
        rw [h4] at h3
        cases h3
      | some cs =>
        rw [h4] at h3
        exact ⟨n, cs, rfl, by omega, (Option.some.inj h3).symm, h4⟩
theorem nat_of {z : Int} {b : Nat} (h : Kyp1Neutral.natural z b = true) : ∃ n : Nat, z = (n : Int) := by
  unfold Kyp1Neutral.natural at h
  rw [Bool.and_eq_true] at h
  have := of_decide_eq_true h.1
  exact ⟨z.toNat, by omega⟩
theorem take_one {r : List Int} (h : 1 ≤ r.length) : ∃ a, r.take 1 = [a] ∧ r = a :: r.drop 1 := by
  cases r with
  | nil => exact absurd h (by decide)
  | cons a r => exact ⟨a, rfl, rfl⟩
/-- a call that is asked is one of the eight -/
theorem call_of {p : Int} {n : Nat} {r : List Int} (hs : PyKyp1.shape p = some (n, 0)) (hn : n ≤ r.length) (ha : Kyp1Neutral.asked1 (PyKyp1.whole [p :: r.take n]) = true) :
    ∃ c, Kyp1Neutral.callOf (PyKyp1.whole [p :: r.take n]) = some c ∧ p :: r = spell c ++ r.drop n := by
  unfold PyKyp1.shape at hs
  split at hs
  · rename_i e
    cases hs
    subst e
    exact ⟨.start, rfl, rfl⟩
  split at hs
  · rename_i e
    cases hs
    subst e
    obtain ⟨a, e1, e2⟩ := take_one hn
    rw [e1] at ha ⊢
    obtain ⟨n, rfl⟩ := nat_of ha
    refine ⟨.roll n, ?_, ?_⟩
    · show some (Call.roll ((n : Int)).toNat) = _
      rw [Int.toNat_natCast]
    · rw [e2]
      rfl
  split at hs
  · rename_i e
    cases hs
    subst e
    exact ⟨.back, rfl, rfl⟩
  split at hs
  · rename_i e
    cases hs
    subst e
    exact ⟨.score, rfl, rfl⟩
  split at hs
  · rename_i e
    cases hs
    subst e
    obtain ⟨a, e1, e2⟩ := take_one hn
    rw [e1] at ha ⊢
    obtain ⟨n, rfl⟩ := nat_of ha
    refine ⟨.frame n, ?_, ?_⟩
    · show some (Call.frame ((n : Int)).toNat) = _
      rw [Int.toNat_natCast]
    · rw [e2]
      rfl
  split at hs
  · rename_i e
    cases hs
    subst e
    exact ⟨.range, rfl, rfl⟩
  split at hs
  · rename_i e
    cases hs
    subst e
    obtain ⟨a, e1, e2⟩ := take_one hn
    rw [e1] at ha ⊢
    obtain ⟨n, rfl⟩ := nat_of ha
    refine ⟨.ways n, ?_, ?_⟩
    · show some (Call.ways ((n : Int)).toNat) = _
      rw [Int.toNat_natCast]
    · rw [e2]
      rfl
  split at hs
  · rename_i e
    cases hs
    subst e
    exact ⟨.state, rfl, rfl⟩
  · cases hs
theorem step_is {s : Kyp1Neutral.S} {q : Kyp1Neutral.Call} {c : Call} {t : Kyp1Neutral.S} {a : Ans} (h1 : Kyp1Neutral.callOf q = some c) (h2 : acts s c = some (t, a)) : Kyp1Neutral.step s q = (t, said a) := by
  unfold Kyp1Neutral.step
  rw [h1]
  show (match acts s c with | none => (s, []) | some (t, a) => (t, a.value :: Kyp1Neutral.ints a.out)) = _
  rw [h2]
  rfl
theorem told_cons_is (x : List Int) (l : List (List Int)) : PyFlat.told (x :: l) = (x.length : Int) :: (x ++ PyFlat.told l) := by
  unfold PyFlat.told
  rw [List.flatMap_cons]
  rfl
/-- from a game that stands -/
theorem goes_some : ∀ (f : Nat) (xs : List Int) (raw : List (List (List Int))) (l : List Nat), PyFlat.calls PyKyp1.shape f xs = some raw → (raw.map PyKyp1.whole).all Kyp1Neutral.asked1 = true → legal beg l →
    Goes xs l (PyFlat.told (PyFlat.played Kyp1Neutral.step (some l) (raw.map PyKyp1.whole)))
  | f, [], raw, l, h, _, _ => by
    have e : PyFlat.calls PyKyp1.shape f [] = some [] := by
      cases f <;> rfl
    rw [e] at h
    cases h
    exact .nil l
  | 0, p :: r, raw, l, h, _, _ => by cases h
  | f + 1, p :: r, raw, l, h, ha, hl => by
    obtain ⟨n, raw', hs, hn, rfl, h'⟩ := calls_cons h
    rw [List.map_cons, List.all_cons, Bool.and_eq_true] at ha
    obtain ⟨c, e1, e2⟩ := call_of hs hn ha.1
    obtain ⟨a, e3, e4⟩ := acts_is hl c
    rw [List.map_cons]
    show Goes (p :: r) l (PyFlat.told ((Kyp1Neutral.step (some l) _).2 :: PyFlat.played Kyp1Neutral.step (Kyp1Neutral.step (some l) _).1 _))
    rw [step_is e1 e3, told_cons_is, e2]
    show Goes (spell c ++ r.drop n) l (((said a).length : Int) :: (said a ++ PyFlat.told (PyFlat.played Kyp1Neutral.step (some (pstep l c).1) (raw'.map PyKyp1.whole))))
    rw [e4]
    exact .cons c (goes_some f _ raw' _ h' ha.2 (pstep_legal hl c))
theorem acts_none {c : Call} {t : Kyp1Neutral.S × Ans} (h : acts none c = some t) : c = .start := by
  cases c with
  | start => rfl
  | _ => cases h
/-- THE LINE: what is due, call by call -/
theorem goes_all {xs : List Int} (h : PyKyp1.answers_asked xs = true) : Goes xs [] (PyKyp1.answers xs) := by
  unfold PyKyp1.answers_asked at h
  unfold PyKyp1.answers PyKyp1.calls
  cases hc : PyFlat.calls PyKyp1.shape xs.length xs with
  | none =>
    rw [hc] at h
    cases h
  | some raw =>
    rw [hc] at h
    have h2 : (!raw.isEmpty && PyFlat.atMost 1000 raw && PyInside.calls PyKyp1.bound raw && Kyp1Neutral.asked (raw.map PyKyp1.whole) && PyFlat.short 10000000 (PyKyp1.answers xs)) = true := h
    rw [Bool.and_eq_true, Bool.and_eq_true, Bool.and_eq_true, Bool.and_eq_true] at h2
    obtain ⟨⟨⟨⟨h3, _⟩, _⟩, h4⟩, _⟩ := h2
    unfold Kyp1Neutral.asked at h4
    rw [Bool.and_eq_true, Bool.and_eq_true, Bool.and_eq_true] at h4
    obtain ⟨⟨⟨_, _⟩, h5⟩, h6⟩ := h4
    show Goes xs [] (PyFlat.told (PyFlat.played Kyp1Neutral.step none (raw.map PyKyp1.whole)))
    match xs, hc with
    | [], hc =>
      have e : PyFlat.calls PyKyp1.shape 0 [] = some [] := rfl
      rw [List.length_nil, e] at hc
      cases hc
      exact absurd h3 (by decide)
    | p :: r, hc =>
      obtain ⟨n, raw', hs, hn, rfl, h'⟩ := calls_cons hc
      rw [List.map_cons, List.all_cons, Bool.and_eq_true] at h5
      obtain ⟨c, e1, e2⟩ := call_of hs hn h5.1
      rw [List.map_cons] at h6 ⊢
      have h7 : (!((Kyp1Neutral.step none (PyKyp1.whole [p :: r.take n])).2.isEmpty) && Kyp1Neutral.may (Kyp1Neutral.step none (PyKyp1.whole [p :: r.take n])).1 (raw'.map PyKyp1.whole)) = true := h6
      rw [Bool.and_eq_true] at h7
      have e3 : c = .start := by
        cases ha : acts none c with
        | some t => exact acts_none ha
        | none =>
          have e : Kyp1Neutral.step none (PyKyp1.whole [p :: r.take n]) = (none, []) := by
            unfold Kyp1Neutral.step
            rw [e1]
            show (match acts none c with | none => (none, []) | some (t, a) => (t, a.value :: Kyp1Neutral.ints a.out)) = _
            rw [ha]
          rw [e] at h7
          exact absurd h7.1 (by decide)
      subst e3
      show Goes (p :: r) [] (PyFlat.told ((Kyp1Neutral.step none _).2 :: PyFlat.played Kyp1Neutral.step (Kyp1Neutral.step none _).1 _))
      rw [step_is e1 (rfl : acts none .start = some (some [], say 0)), told_cons_is, e2]
      exact .cons .start (goes_some _ _ raw' [] h' h5.2 trivial)
end Pin

/-! The program's top: where each def stands, and what is known of it. Printed by gen_top.py. -/
namespace Pin
open PySem PySem.Spec PyProof.Rows L2
def top (i : Nat) : Stmt := PySem.Challenge.pw_pinframes_s01_answers.main.body.getD i (.Pass ⟨0, 0, 0, 0⟩)
abbrev sBeg : Stmt := top 4
abbrev sIsO : Stmt := top 5
abbrev sCnt : Stmt := top 6
abbrev sNxt : Stmt := top 7
abbrev sEar : Stmt := top 8
abbrev sAne : Stmt := top 9
abbrev sLas : Stmt := top 10
abbrev sBeh : Stmt := top 11
abbrev sPla : Stmt := top 12
abbrev sCtd : Stmt := top 13
abbrev sWan : Stmt := top 17
abbrev sKno : Stmt := top 18
abbrev sAdd : Stmt := top 21
abbrev sWor : Stmt := top 22
abbrev sWay : Stmt := top 23
abbrev sLea : Stmt := top 24
abbrev sMos : Stmt := top 25
abbrev sWto : Stmt := top 26
abbrev sSta : Stmt := top 31
abbrev sRol : Stmt := top 32
abbrev sBac : Stmt := top 33
abbrev sSco : Stmt := top 34
abbrev sFra : Stmt := top 35
abbrev sRan : Stmt := top 36
abbrev sWtd : Stmt := top 37
abbrev sSts : Stmt := top 38
abbrev sAns : Stmt := top 41
abbrev sIW : Stmt := inClass (top 20) 0
abbrev sIG : Stmt := inClass (top 30) 0
abbrev sToC : Stmt := inClass (top 30) 1
theorem scBeg : FnScope [] [] (defScope sBeg) := ⟨rfl, rfl, rfl, by decide +kernel, rfl, by decide +kernel, by decide +kernel⟩
theorem scIsO : FnScope ["place"] ["place"] (defScope sIsO) := ⟨rfl, rfl, rfl, by decide +kernel, rfl, by decide +kernel, by decide +kernel⟩
theorem scCnt : FnScope ["place"] ["place"] (defScope sCnt) := ⟨rfl, rfl, rfl, by decide +kernel, rfl, by decide +kernel, by decide +kernel⟩
theorem scNxt : FnScope ["frame", "more", "further"] ["frame", "more", "further"] (defScope sNxt) := ⟨rfl, rfl, rfl, by decide +kernel, rfl, by decide +kernel, by decide +kernel⟩
theorem scEar : FnScope ["place", "n", "frame", "left", "rolled", "more", "further", "third"] ["place", "n"] (defScope sEar) := ⟨rfl, rfl, rfl, by decide +kernel, rfl, by decide +kernel, by decide +kernel⟩
theorem scAne : FnScope ["left"] ["left"] (defScope sAne) := ⟨rfl, rfl, rfl, by decide +kernel, rfl, by decide +kernel, by decide +kernel⟩
theorem scLas : FnScope ["place", "n", "frame", "left", "rolled", "more", "further", "third", "all_down"] ["place", "n"] (defScope sLas) := ⟨rfl, rfl, rfl, by decide +kernel, rfl, by decide +kernel, by decide +kernel⟩
theorem scBeh : FnScope ["place", "n"] ["place", "n"] (defScope sBeh) := ⟨rfl, rfl, rfl, by decide +kernel, rfl, by decide +kernel, by decide +kernel⟩
theorem scPla : FnScope ["rolls", "place", "n"] ["rolls"] (defScope sPla) := ⟨rfl, rfl, rfl, by decide +kernel, rfl, by decide +kernel, by decide +kernel⟩
theorem scCtd : FnScope ["rolls", "place", "found", "n"] ["rolls"] (defScope sCtd) := ⟨rfl, rfl, rfl, by decide +kernel, rfl, by decide +kernel, by decide +kernel⟩
theorem scWan : FnScope ["rolls", "at", "frame", "own"] ["rolls", "at", "frame"] (defScope sWan) := ⟨rfl, rfl, rfl, by decide +kernel, rfl, by decide +kernel, by decide +kernel⟩
theorem scKno : FnScope ["rolls", "found", "at", "frame", "many", "own"] ["rolls"] (defScope sKno) := ⟨rfl, rfl, rfl, by decide +kernel, rfl, by decide +kernel, by decide +kernel⟩
theorem scAdd : FnScope ["found", "more", "worth", "k", "together", "number"] ["found", "more", "worth"] (defScope sAdd) := ⟨rfl, rfl, rfl, by decide +kernel, rfl, by decide +kernel, by decide +kernel⟩
theorem scWor : FnScope ["ways", "place", "found", "n"] ["ways", "place"] (defScope sWor) := ⟨rfl, rfl, rfl, by decide +kernel, rfl, by decide +kernel, by decide +kernel⟩
theorem scWay : FnScope ["ways", "place"] ["ways", "place"] (defScope sWay) := ⟨rfl, rfl, rfl, by decide +kernel, rfl, by decide +kernel, by decide +kernel⟩
theorem scLea : FnScope ["numbers", "worth"] ["numbers"] (defScope sLea) := ⟨rfl, rfl, rfl, by decide +kernel, rfl, by decide +kernel, by decide +kernel⟩
theorem scMos : FnScope ["numbers", "worth"] ["numbers"] (defScope sMos) := ⟨rfl, rfl, rfl, by decide +kernel, rfl, by decide +kernel, by decide +kernel⟩
theorem scWto : FnScope ["numbers", "worth"] ["numbers", "worth"] (defScope sWto) := ⟨rfl, rfl, rfl, by decide +kernel, rfl, by decide +kernel, by decide +kernel⟩
theorem scSta : FnScope ["game", "numbers"] ["game", "numbers"] (defScope sSta) := ⟨rfl, rfl, rfl, by decide +kernel, rfl, by decide +kernel, by decide +kernel⟩
theorem scRol : FnScope ["game", "numbers", "n", "place"] ["game", "numbers"] (defScope sRol) := ⟨rfl, rfl, rfl, by decide +kernel, rfl, by decide +kernel, by decide +kernel⟩
theorem scBac : FnScope ["game", "numbers", "n"] ["game", "numbers"] (defScope sBac) := ⟨rfl, rfl, rfl, by decide +kernel, rfl, by decide +kernel, by decide +kernel⟩
theorem scSco : FnScope ["game", "numbers", "known"] ["game", "numbers"] (defScope sSco) := ⟨rfl, rfl, rfl, by decide +kernel, rfl, by decide +kernel, by decide +kernel⟩
theorem scFra : FnScope ["game", "numbers", "k", "known"] ["game", "numbers"] (defScope sFra) := ⟨rfl, rfl, rfl, by decide +kernel, rfl, by decide +kernel, by decide +kernel⟩
theorem scRan : FnScope ["game", "numbers", "first", "found"] ["game", "numbers"] (defScope sRan) := ⟨rfl, rfl, rfl, by decide +kernel, rfl, by decide +kernel, by decide +kernel⟩
theorem scWtd : FnScope ["game", "numbers", "s", "found"] ["game", "numbers"] (defScope sWtd) := ⟨rfl, rfl, rfl, by decide +kernel, rfl, by decide +kernel, by decide +kernel⟩
theorem scSts : FnScope ["game", "numbers", "place"] ["game", "numbers"] (defScope sSts) := ⟨rfl, rfl, rfl, by decide +kernel, rfl, by decide +kernel, by decide +kernel⟩
theorem scAns : FnScope ["calls", "game", "found", "at", "place", "after", "deed", "told"] ["calls"] (defScope sAns) := ⟨rfl, rfl, rfl, by decide +kernel, rfl, by decide +kernel, by decide +kernel⟩
theorem scIW : FnScope ["self"] ["self"] (defScope sIW) := ⟨rfl, rfl, rfl, by decide +kernel, rfl, by decide +kernel, by decide +kernel⟩
theorem scIG : FnScope ["self"] ["self"] (defScope sIG) := ⟨rfl, rfl, rfl, by decide +kernel, rfl, by decide +kernel, by decide +kernel⟩
theorem scToC : FnScope ["self"] ["self"] (defScope sToC) := ⟨rfl, rfl, rfl, by decide +kernel, rfl, by decide +kernel, by decide +kernel⟩
/-- the addresses that the top has given -/
structure Ad where
  f : Nat → Addr
  d : Nat → FuncData
  cW : Addr
  cG : Addr
  aO : Addr
  aD : Addr
  aN : Addr
structure DefAt (K : PySem.W.Frag) (x qual : Str) (st : Stmt) (ps : List Str) (f : Addr) (fd : FuncData) : Prop where
  F : Fun K x qual st f fd
  b : Binds K fd ps []
/-- what the top has left -/
structure Top (K : PySem.W.Frag) (mg : Str → Option Value) (a : Ad) : Prop where
  dBeg : DefAt K "beginning" "beginning" sBeg [] (a.f 4) (a.d 4)
  gBeg : mg "beginning" = some (.ref (a.f 4))
  dIsO : DefAt K "is_over" "is_over" sIsO ["place"] (a.f 5) (a.d 5)
  gIsO : mg "is_over" = some (.ref (a.f 5))
  dCnt : DefAt K "counts" "counts" sCnt ["place"] (a.f 6) (a.d 6)
  gCnt : mg "counts" = some (.ref (a.f 6))
  dNxt : DefAt K "next_frame" "next_frame" sNxt ["frame", "more", "further"] (a.f 7) (a.d 7)
  gNxt : mg "next_frame" = some (.ref (a.f 7))
  dEar : DefAt K "behind_early" "behind_early" sEar ["place", "n"] (a.f 8) (a.d 8)
  gEar : mg "behind_early" = some (.ref (a.f 8))
  dAne : DefAt K "anew" "anew" sAne ["left"] (a.f 9) (a.d 9)
  gAne : mg "anew" = some (.ref (a.f 9))
  dLas : DefAt K "behind_last" "behind_last" sLas ["place", "n"] (a.f 10) (a.d 10)
  gLas : mg "behind_last" = some (.ref (a.f 10))
  dBeh : DefAt K "behind" "behind" sBeh ["place", "n"] (a.f 11) (a.d 11)
  gBeh : mg "behind" = some (.ref (a.f 11))
  dPla : DefAt K "place_of" "place_of" sPla ["rolls"] (a.f 12) (a.d 12)
  gPla : mg "place_of" = some (.ref (a.f 12))
  dCtd : DefAt K "counted" "counted" sCtd ["rolls"] (a.f 13) (a.d 13)
  gCtd : mg "counted" = some (.ref (a.f 13))
  dWan : DefAt K "wanted" "wanted" sWan ["rolls", "at", "frame"] (a.f 17) (a.d 17)
  gWan : mg "wanted" = some (.ref (a.f 17))
  dKno : DefAt K "known_scores" "known_scores" sKno ["rolls"] (a.f 18) (a.d 18)
  gKno : mg "known_scores" = some (.ref (a.f 18))
  dAdd : DefAt K "added" "added" sAdd ["found", "more", "worth"] (a.f 21) (a.d 21)
  gAdd : mg "added" = some (.ref (a.f 21))
  dWor : DefAt K "worked_out" "worked_out" sWor ["ways", "place"] (a.f 22) (a.d 22)
  gWor : mg "worked_out" = some (.ref (a.f 22))
  dWay : DefAt K "ways_from" "ways_from" sWay ["ways", "place"] (a.f 23) (a.d 23)
  gWay : mg "ways_from" = some (.ref (a.f 23))
  dLea : DefAt K "least_worth" "least_worth" sLea ["numbers"] (a.f 24) (a.d 24)
  gLea : mg "least_worth" = some (.ref (a.f 24))
  dMos : DefAt K "most_worth" "most_worth" sMos ["numbers"] (a.f 25) (a.d 25)
  gMos : mg "most_worth" = some (.ref (a.f 25))
  dWto : DefAt K "ways_to" "ways_to" sWto ["numbers", "worth"] (a.f 26) (a.d 26)
  gWto : mg "ways_to" = some (.ref (a.f 26))
  dSta : DefAt K "start" "start" sSta ["game", "numbers"] (a.f 31) (a.d 31)
  gSta : mg "start" = some (.ref (a.f 31))
  dRol : DefAt K "roll" "roll" sRol ["game", "numbers"] (a.f 32) (a.d 32)
  gRol : mg "roll" = some (.ref (a.f 32))
  dBac : DefAt K "back" "back" sBac ["game", "numbers"] (a.f 33) (a.d 33)
  gBac : mg "back" = some (.ref (a.f 33))
  dSco : DefAt K "score" "score" sSco ["game", "numbers"] (a.f 34) (a.d 34)
  gSco : mg "score" = some (.ref (a.f 34))
  dFra : DefAt K "frame" "frame" sFra ["game", "numbers"] (a.f 35) (a.d 35)
  gFra : mg "frame" = some (.ref (a.f 35))
  dRan : DefAt K "range_told" "range_told" sRan ["game", "numbers"] (a.f 36) (a.d 36)
  gRan : mg "range_told" = some (.ref (a.f 36))
  dWtd : DefAt K "ways_told" "ways_told" sWtd ["game", "numbers"] (a.f 37) (a.d 37)
  gWtd : mg "ways_told" = some (.ref (a.f 37))
  dSts : DefAt K "state" "state" sSts ["game", "numbers"] (a.f 38) (a.d 38)
  gSts : mg "state" = some (.ref (a.f 38))
  dAns : DefAt K "answers" "answers" sAns ["calls"] (a.f 41) (a.d 41)
  gAns : mg "answers" = some (.ref (a.f 41))
  dIW : DefAt K "__init__" "Ways.__init__" sIW ["self"] (a.f 100) (a.d 100)
  dIG : DefAt K "__init__" "Game.__init__" sIG ["self"] (a.f 101) (a.d 101)
  dToC : DefAt K "to_come" "Game.to_come" sToC ["self"] (a.f 102) (a.d 102)
  gPINS_rolling : ∃ t, mg "PINS_rolling" = some (.int 10 t)
  gLAST : ∃ t, mg "LAST" = some (.int 9 t)
  gPINS_scoring : ∃ t, mg "PINS_scoring" = some (.int 10 t)
  gFRAMES_scoring : ∃ t, mg "FRAMES_scoring" = some (.int 10 t)
  gMOST : ∃ t, mg "MOST" = some (.int 300 t)
  gFRAMES_desk : ∃ t, mg "FRAMES_desk" = some (.int 10 t)
  nlen : mg "len" = none
  nrange : mg "range" = none
  nsum : mg "sum" = none
  nint : mg "int" = none
  nenumerate : mg "enumerate" = none
  gOver : mg "OVER" = some (.ref a.aO)
  sOver : SqT K (fun _ => none) a.aO [.int 10, .int 0, .int 0, .int 0, .int 0, .int 0]
  gDeeds : mg "DEEDS" = some (.ref a.aD)
  sDeeds : SqT K (fun _ => none) a.aD [.ref (a.f 31), .ref (a.f 32), .ref (a.f 33), .ref (a.f 34), .ref (a.f 35), .ref (a.f 36), .ref (a.f 37), .ref (a.f 38)]
  gNums : mg "NUMBERS" = some (.ref a.aN)
  sNums : SqT K (fun _ => none) a.aN [.int 0, .int 1, .int 0, .int 0, .int 1, .int 0, .int 1, .int 0]
  gWays : mg "Ways" = some (.ref a.cW)
  gGame : mg "Game" = some (.ref a.cG)
  clW : Cls K a.cW
  clG : Cls K a.cG
  mkW : Mk K a.cW (a.f 100)
  mkG : Mk K a.cG (a.f 101)
  mToC : Meth K a.cG "to_come" (a.f 102)
  nKnown : NoAttr K a.cW "known"
  nRolls : NoAttr K a.cG "rolls"
  nWays : NoAttr K a.cG "ways"
end Pin

/-! The walk: places (pinframes.rolling). -/
namespace Pin
open PySem PySem.Spec PyProof.Rows L2
/-! ### words -/
def vi (n : Nat) : V := .int (n : Int)
def vP (p : Pl) : List V := [vi p.fr, vi p.lf, vi p.rd, vi p.mo, vi p.fu, vi p.th]
theorem sqT_any {K : PySem.W.Frag} {H : Hp} {b : Addr} {xs : List V} (h : SqT K (fun _ => none) b xs) : SqT K H b xs := by
  rcases h with (h | ⟨o, h⟩) | h
  · cases h
  · cases h
  · exact .inr h
theorem same_sqT {K : PySem.W.Frag} {H H' : Hp} {b : Addr} {xs : List V} (e : Same H H') (h : SqT K H b xs) : SqT K H' b xs := by
  rcases h with (h | ⟨o, h⟩) | h
  · exact .inl (.inl (e _ _ h))
  · exact .inl (.inr ⟨o, e _ _ h⟩)
  · exact .inr h
theorem same_new {H : Hp} {p : Addr} (h : H p = none) (o : HO) : Same H (upd H p o) := fun b u q => by rw [upd_ne (ne_of_none q h)]; exact q
def PlAt (K : PySem.W.Frag) (H : Hp) (b : Addr) (p : Pl) : Prop := SqT K H b (vP p) ∧ (p ≠ over → H b = some (.tup (vP p)))
theorem PlAt.of {K : PySem.W.Frag} {H : Hp} {b : Addr} {p : Pl} (h : H b = some (.tup (vP p))) : PlAt K H b p := ⟨SqT.of h, fun _ => h⟩
theorem PlAt.same {K : PySem.W.Frag} {H H' : Hp} {b : Addr} {p : Pl} (h : PlAt K H b p) (e : Same H H') : PlAt K H' b p := ⟨same_sqT e h.1, fun n => e _ _ (h.2 n)⟩
theorem small {n : Nat} (h : n ≤ 1000) : n ≤ sizeLine := Nat.le_of_lt (small1000 h)
/-- a number of the module -/
theorem pe_gint {X : Cx} {x : Str} {i : Int} {pos : Pos} (h : ∃ t, X.mg x = some (.int i t)) (hg : Gl X x := by rfl) (hd : (x == ("__debug__" : Str)) = false := by decide) : PE X (.Name x pos) (tC (.int i)) := by
  obtain ⟨t, e⟩ := h
  exact pe_glob hg e ⟨t, rfl⟩ hd
/-! ### promises -/
section
variable (K : PySem.W.Frag)
def spBeg : Sp := fun vs H Q _ => vs = [] ∧ ∀ H' r, Same H H' → H' r = some (.tup (vP beg)) → Q (.ref r) H'
def spIsO : Sp := fun vs H Q _ => ∃ b p, vs = [.ref b] ∧ SqT K H b (vP p) ∧ Q (.bl (decide (p = over))) H
def spCnt : Sp := fun vs H Q _ => ∃ b p, vs = [.ref b] ∧ SqT K H b (vP p) ∧ Q (vi (cnt p)) H
def spNxt : Sp := fun vs H Q _ => ∃ fr mo fu : Nat, vs = [vi fr, vi mo, vi fu] ∧ ∀ H' r, Same H H' → H' r = some (.tup (vP (nextFrame fr mo fu))) → Q (.ref r) H'
def spEar : Sp := fun vs H Q _ => ∃ b p n, vs = [.ref b, vi n] ∧ SqT K H b (vP p) ∧ n ≤ p.lf ∧ ∀ H' r, Same H H' → H' r = some (.tup (vP (early p n))) → Q (.ref r) H'
def spAne : Sp := fun vs H Q _ => ∃ x : Nat, vs = [vi x] ∧ Q (vi (anew x)) H
def spLas : Sp := fun vs H Q _ => ∃ b p n, vs = [.ref b, vi n] ∧ SqT K H b (vP p) ∧ n ≤ p.lf ∧ ∀ H' r, Same H H' → PlAt K H' r (late p n) → Q (.ref r) H'
def spBeh : Sp := fun vs H Q _ => ∃ b p n, vs = [.ref b, vi n] ∧ SqT K H b (vP p) ∧ n ≤ p.lf ∧ ∀ H' r, Same H H' → PlAt K H' r (behind p n) → Q (.ref r) H'
def spPla : Sp := fun vs H Q _ => ∃ b l, vs = [.ref b] ∧ SqL K H b (l.map vi) ∧ legal beg l ∧ ∀ H' r, Same H H' → PlAt K H' r (placeOf l) → Q (.ref r) H'
def spCtd : Sp := fun vs H Q _ => ∃ b l, vs = [.ref b] ∧ SqL K H b (l.map vi) ∧ legal beg l ∧ ∀ H', Same H H' → Q (vi (counted l)) H'
end
section
variable {P : Program} {w : World} {K : PySem.W.Frag} {mg : Str → Option Value} {base : Heap} {a : Ad}
theorem ok_Beg (T : Top K mg a) : FnOk P w K mg base CX0 1 (a.f 4) (a.d 4) [] spBeg := by
  refine T.dBeg.F.ok scBeg (fun vs H Q E h => ?_) (fun cdv A outer s H vs Q E hr h => ?_)
  · obtain ⟨rfl, _⟩ := h
    rfl
  obtain ⟨rfl, q⟩ := h
  refine ⟨_, pss_one (ps_ret (pe_tup (pa_cons pe_int (pa_cons (pe_gint T.gPINS_rolling) (pa_cons pe_int (pa_cons pe_int (pa_cons pe_int (pa_cons pe_int pa_nil)))))))), ?_⟩
  refine ⟨small (by show 6 ≤ 1000; decide), fun p hp => ?_⟩
  exact q _ p (same_new hp _) upd_same
theorem dp_pl {H : Hp} {b : Addr} {p : Pl} (h : SqT K H b (vP p)) : Dp K H (.ref b) (.tuple [.int p.fr, .int p.lf, .int p.rd, .int p.mo, .int p.fu, .int p.th]) :=
  .tup h (.cons (.int _) (.cons (.int _) (.cons (.int _) (.cons (.int _) (.cons (.int _) (.cons (.int _) .nil))))))
theorem nat_beq (x y : Nat) : ((x : Int) == (y : Int)) = decide (x = y) := by
  rw [Bool.beq_eq_decide_eq]
  by_cases e : x = y
  · rw [decide_eq_true e, decide_eq_true (by omega)]
  · rw [decide_eq_false e, decide_eq_false (by omega)]
theorem eqv_pl (p q : Pl) : PyData.eqv (.tuple [.int p.fr, .int p.lf, .int p.rd, .int p.mo, .int p.fu, .int p.th]) (.tuple [.int q.fr, .int q.lf, .int q.rd, .int q.mo, .int q.fu, .int q.th]) = decide (p = q) := by
  simp only [PyData.eqv, PyData.eqvAll, nat_beq, Bool.and_true]
  obtain ⟨a1, a2, a3, a4, a5, a6⟩ := p
  obtain ⟨b1, b2, b3, b4, b5, b6⟩ := q
  simp only [Pl.mk.injEq, Bool.decide_and]
theorem shaped_pl (p : Pl) : SeqAt.shaped (.tuple [.int p.fr, .int p.lf, .int p.rd, .int p.mo, .int p.fu, .int p.th]) = true := by
  obtain ⟨a1, a2, a3, a4, a5, a6⟩ := p
  rfl
theorem sOver (T : Top K mg a) {H : Hp} : SqT K H a.aO (vP over) := sqT_any T.sOver
theorem ok_IsO (T : Top K mg a) : FnOk P w K mg base CX0 1 (a.f 5) (a.d 5) ["place"] (spIsO K) := by
  refine T.dIsO.F.ok scIsO (fun vs H Q E h => ?_) (fun cdv A outer s H vs Q E hr h => ?_)
  · obtain ⟨b, p, rfl, _⟩ := h
    rfl
  obtain ⟨b, p, rfl, hS, q⟩ := h
  refine ⟨_, pss_one (ps_ret (pe_cmpR (op_eqD hr.units) (pv 0) (pe_glob (v := .ref a.aO) rfl T.gOver rfl) (nomark _))), ?_⟩
  refine ⟨_, rfl, _, _, dp_pl hS, dp_pl (sOver T), shaped_pl _, shaped_pl _, ?_⟩
  rw [eqv_pl]
  exact q
theorem ok_Cnt (T : Top K mg a) : FnOk P w K mg base CX0 1 (a.f 6) (a.d 6) ["place"] (spCnt K) := by
  refine T.dCnt.F.ok scCnt (fun vs H Q E h => ?_) (fun cdv A outer s H vs Q E hr h => ?_)
  · obtain ⟨b, p, rfl, _⟩ := h
    rfl
  obtain ⟨b, p, rfl, hS, q⟩ := h
  refine ⟨_, pss_one (ps_ret (pe_op op_add pe_int (pe_ix ix_tup (pv 0) pe_int (fun _ _ => rfl)))), ?_⟩
  refine ⟨_, rfl, b, _, 3, vi p.mo, rfl, rfl, hS, rfl, _, _, rfl, rfl, ?_⟩
  have e : (1 : Int) + (p.mo : Int) = ((cnt p : Nat) : Int) := by
    unfold cnt
    omega
  show Q (.int ((1 : Int) + (p.mo : Int))) H
  rw [e]
  exact q
theorem ok_Nxt (T : Top K mg a) : FnOk P w K mg base CX0 1 (a.f 7) (a.d 7) ["frame", "more", "further"] spNxt := by
  refine T.dNxt.F.ok scNxt (fun vs H Q E h => ?_) (fun cdv A outer s H vs Q E hr h => ?_)
  · obtain ⟨fr, mo, fu, rfl, _⟩ := h
    rfl
  obtain ⟨fr, mo, fu, rfl, q⟩ := h
  refine ⟨_, pss_one (ps_ret (pe_tup (pa_cons (pe_op op_add (pv 0) pe_int) (pa_cons (pe_gint T.gPINS_rolling) (pa_cons pe_int (pa_cons (pv 1) (pa_cons (pv 2) (pa_cons pe_int pa_nil)))))))), ?_⟩
  refine ⟨_, rfl, _, _, rfl, rfl, _, rfl, _, rfl, small (by show 6 ≤ 1000; decide), fun p hp => ?_⟩
  exact q _ p (same_new hp _) upd_same
theorem iteD {c A B : Prop} [Decidable c] (h1 : c → A) (h2 : ¬ c → B) : if decide c = true then A else B :=
  ite2 (fun z => h1 (of_decide_eq_true z)) (fun z => h2 (fun y => z (decide_eq_true y)))
theorem ok_Ear (T : Top K mg a) : FnOk P w K mg base CX0 2 (a.f 8) (a.d 8) ["place", "n"] (spEar K) := by
  refine T.dEar.F.ok scEar (fun vs H Q E h => ?_) (fun cdv A outer s H vs Q E hr h => ?_)
  · obtain ⟨b, p, n, rfl, _⟩ := h
    rfl
  obtain ⟨b, p, n, rfl, hS, hn, q⟩ := h
  have G := ok_Nxt (P := P) (w := w) (base := base) T
  refine ⟨_, pss_cons (ps_asg (pv 0) (pg_tup (by rfl) (pgs_cons (pg_name (i := 2) scEar.nd rfl (.inl rfl)) (pgs_cons (pg_name (i := 3) scEar.nd rfl (.inl rfl)) (pgs_cons (pg_name (i := 4) scEar.nd rfl (.inl rfl))
      (pgs_cons (pg_name (i := 5) scEar.nd rfl (.inl rfl)) (pgs_cons (pg_name (i := 6) scEar.nd rfl (.inl rfl)) (pgs_cons (pg_name (i := 7) scEar.nd rfl (.inl rfl)) pgs_nil))))))))
    (pss_cons (ps_if (PW.pt (pw_and (pt_cmp (pc_eqI (pv 4) pe_int)) (pw_and1 (pt_cmp (pc_eqI (pv 1) (pe_gint T.gPINS_rolling))))))
      (pss_one (ps_ret (pe_call G hr rfl T.gNxt T.dNxt.F.kp T.dNxt.b .nil pass0 (pa_cons (pv 2) (pa_cons (pe_op op_add (pv 6) pe_int) (pa_cons pe_int pa_nil)))))) pss_nil)
    (pss_cons (ps_if (pt_cmp (pc_eqI (pv 4) pe_int))
      (pss_one (ps_ret (pe_tup (pa_cons (pv 2) (pa_cons (pe_op op_sub (pv 3) (pv 1)) (pa_cons pe_int (pa_cons (pv 6) (pa_cons pe_int (pa_cons pe_int pa_nil))))))))) pss_nil)
    (pss_cons (ps_if (pt_cmp (pc_eqI (pv 1) (pv 3)))
      (pss_one (ps_ret (pe_call G hr rfl T.gNxt T.dNxt.F.kp T.dNxt.b .nil pass0 (pa_cons (pv 2) (pa_cons (pe_op op_add (pv 6) pe_int) (pa_cons pe_int pa_nil)))))) pss_nil)
    (pss_one (ps_ret (pe_call G hr rfl T.gNxt T.dNxt.F.kp T.dNxt.b .nil pass0 (pa_cons (pv 2) (pa_cons (pv 6) (pa_cons pe_int pa_nil))))))))), ?_⟩
  refine ⟨_, rfl, b, _, rfl, hS, rfl, vi p.fr, _, rfl, vi p.lf, _, rfl, vi p.rd, _, rfl, vi p.mo, _, rfl, vi p.fu, _, rfl, vi p.th, _, rfl, rfl, ?_⟩
  refine ⟨_, rfl, _, _, rfl, rfl, _, rfl, ?_⟩
  refine iteD (fun c0 => ?_) (fun c0 => ?_)
  · have c0 : p.rd = 0 := Int.ofNat.inj c0
    refine ⟨_, rfl, _, _, rfl, rfl, _, rfl, ?_⟩
    refine iteD (fun c1 => ?_) (fun c1 => ?_)
    · have c1 : n = 10 := Int.ofNat.inj c1
      refine ⟨_, rfl, _, rfl, _, _, rfl, rfl, p.fr, p.fu + 1, 1, rfl, fun H' r sm hr' => q H' r sm ?_⟩
      have e : early p n = nextFrame p.fr (p.fu + 1) 1 := if_pos ⟨c0, c1⟩
      rw [e]
      exact hr'
    · have c1 : ¬ n = 10 := fun z => c1 (congrArg Int.ofNat z)
      refine ⟨_, rfl, _, _, rfl, rfl, _, rfl, ?_⟩
      refine iteD (fun _ => ?_) (fun z => absurd (congrArg Int.ofNat c0) z)
      refine ⟨_, rfl, _, rfl, _, rfl, _, _, rfl, rfl, _, rfl, small (by show 6 ≤ 1000; decide), fun r hr' => q _ r (same_new hr' _) ?_⟩
      have e : early p n = ⟨p.fr, p.lf - n, 1, p.fu, 0, 0⟩ := (if_neg (fun z => c1 z.2)).trans (if_pos c0)
      have e2 : ((p.lf : Int) - (n : Int)) = ((p.lf - n : Nat) : Int) := by omega
      rw [e, upd_same]
      show some (HO.tup [vi p.fr, .int ((p.lf : Int) - (n : Int)), .int 1, vi p.fu, .int 0, .int 0]) = _
      rw [e2]
      rfl
  · have c0 : ¬ p.rd = 0 := fun z => c0 (congrArg Int.ofNat z)
    refine iteF ?_
    refine ⟨_, rfl, _, _, rfl, rfl, _, rfl, ?_⟩
    refine iteD (fun z => absurd (Int.ofNat.inj z) c0) (fun _ => ?_)
    refine ⟨_, rfl, _, rfl, _, _, rfl, rfl, _, rfl, ?_⟩
    refine iteD (fun c2 => ?_) (fun c2 => ?_)
    · have c2 : n = p.lf := Int.ofNat.inj c2
      refine ⟨_, rfl, _, rfl, _, _, rfl, rfl, p.fr, p.fu + 1, 0, rfl, fun H' r sm hr' => q H' r sm ?_⟩
      have e : early p n = nextFrame p.fr (p.fu + 1) 0 := (if_neg (fun z => c0 z.1)).trans ((if_neg c0).trans (if_pos c2))
      rw [e]
      exact hr'
    · have c2 : ¬ n = p.lf := fun z => c2 (congrArg Int.ofNat z)
      refine ⟨_, rfl, _, rfl, p.fr, p.fu, 0, rfl, fun H' r sm hr' => q H' r sm ?_⟩
      have e : early p n = nextFrame p.fr p.fu 0 := (if_neg (fun z => c0 z.1)).trans ((if_neg c0).trans (if_neg c2))
      rw [e]
      exact hr'
theorem ok_Ane (T : Top K mg a) : FnOk P w K mg base CX0 1 (a.f 9) (a.d 9) ["left"] spAne := by
  refine T.dAne.F.ok scAne (fun vs H Q E h => ?_) (fun cdv A outer s H vs Q E hr h => ?_)
  · obtain ⟨x, rfl, _⟩ := h
    rfl
  obtain ⟨x, rfl, q⟩ := h
  refine ⟨_, pss_cons (ps_if (pt_cmp (pc_eqI (pv 0) pe_int)) (pss_one (ps_ret (pe_gint T.gPINS_rolling))) pss_nil) (pss_one (ps_ret (pv 0))), ?_⟩
  refine ⟨_, rfl, _, _, rfl, rfl, _, rfl, ?_⟩
  refine iteD (fun c => ?_) (fun c => ?_)
  · have e : anew x = 10 := if_pos (Int.ofNat.inj c)
    rw [e] at q
    exact q
  · have e : anew x = x := if_neg (fun z => c (congrArg Int.ofNat z))
    rw [e] at q
    exact ⟨_, rfl, q⟩
theorem ok_Las (T : Top K mg a) : FnOk P w K mg base CX0 2 (a.f 10) (a.d 10) ["place", "n"] (spLas K) := by
  refine T.dLas.F.ok scLas (fun vs H Q E h => ?_) (fun cdv A outer s H vs Q E hr h => ?_)
  · obtain ⟨b, p, n, rfl, _⟩ := h
    rfl
  obtain ⟨b, p, n, rfl, hS, hn, q⟩ := h
  have G := ok_Ane (P := P) (w := w) (base := base) T
  refine ⟨_, pss_cons (ps_asg (pv 0) (pg_tup (by rfl) (pgs_cons (pg_name (i := 2) scLas.nd rfl (.inl rfl)) (pgs_cons (pg_name (i := 3) scLas.nd rfl (.inl rfl)) (pgs_cons (pg_name (i := 4) scLas.nd rfl (.inl rfl))
      (pgs_cons (pg_name (i := 5) scLas.nd rfl (.inl rfl)) (pgs_cons (pg_name (i := 6) scLas.nd rfl (.inl rfl)) (pgs_cons (pg_name (i := 7) scLas.nd rfl (.inl rfl)) pgs_nil))))))))
    (pss_cons (ps_set (i := 8) scLas.nd rfl (.inl rfl) (pe_callTy call_int1 (by rfl) T.nint (by decide +kernel) (pa_cons (pe_cmp (pc_eqI (pv 1) (pv 3))) pa_nil)))
    (pss_cons (ps_if (pt_cmp (pc_eqI (pv 4) pe_int))
      (pss_one (ps_ret (pe_tup (pa_cons (pv 2) (pa_cons (pe_call G hr rfl T.gAne T.dAne.F.kp T.dAne.b .nil pass0 (pa_cons (pe_op op_sub (pv 3) (pv 1)) pa_nil)) (pa_cons pe_int (pa_cons (pv 6) (pa_cons pe_int (pa_cons (pv 8) pa_nil))))))))) pss_nil)
    (pss_cons (ps_if (PW.pt (pw_and (pt_cmp (pc_eqI (pv 4) pe_int)) (pw_and1 (PW.pt (pw_or (pt_cmp (pc_eqI (pv 7) pe_int)) (pw_or1 (pt_cmp (pc_eqI (pv 8) pe_int))))))))
      (pss_one (ps_ret (pe_tup (pa_cons (pv 2) (pa_cons (pe_call G hr rfl T.gAne T.dAne.F.kp T.dAne.b .nil pass0 (pa_cons (pe_op op_sub (pv 3) (pv 1)) pa_nil)) (pa_cons pe_int (pa_cons (pv 6) (pa_cons pe_int (pa_cons pe_int pa_nil))))))))) pss_nil)
    (pss_one (ps_ret (pe_glob (v := .ref a.aO) rfl T.gOver rfl)))))), ?_⟩
  refine ⟨_, rfl, b, _, rfl, hS, rfl, vi p.fr, _, rfl, vi p.lf, _, rfl, vi p.rd, _, rfl, vi p.mo, _, rfl, vi p.fu, _, rfl, vi p.th, _, rfl, rfl, ?_⟩
  have e2 : ((p.lf : Int) - (n : Int)) = ((p.lf - n : Nat) : Int) := by omega
  have ed : (if decide ((n : Int) = (p.lf : Int)) = true then (1 : Int) else 0) = ((allDown p n : Nat) : Int) := by
    unfold allDown
    by_cases c : n = p.lf
    · rw [decide_eq_true (show (n : Int) = (p.lf : Int) from congrArg Int.ofNat c), if_pos c]
      rfl
    · rw [decide_eq_false (show ¬ (n : Int) = (p.lf : Int) from fun z => c (Int.ofNat.inj z)), if_neg c]
      rfl
  have ea : ([.int ((p.lf : Int) - (n : Int))] : List V) ++ [] = [vi (p.lf - n)] := by
    rw [e2]
    rfl
  refine ⟨_, rfl, _, rfl, _, _, rfl, rfl, .inr ⟨_, rfl, ?_⟩⟩
  rw [ed]
  refine ⟨_, rfl, _, _, rfl, rfl, _, rfl, ?_⟩
  refine iteD (fun c0 => ?_) (fun c0 => ?_)
  · have c0 : p.rd = 0 := Int.ofNat.inj c0
    refine ⟨_, rfl, _, rfl, _, rfl, _, _, rfl, rfl, p.lf - n, ea, _, rfl, _, rfl, small (by show 6 ≤ 1000; decide), fun r hr' => q _ r (same_new hr' _) (PlAt.of ?_)⟩
    have e : late p n = ⟨p.fr, anew (p.lf - n), 1, p.fu, 0, allDown p n⟩ := if_pos c0
    rw [e]
    exact upd_same
  · have c0 : ¬ p.rd = 0 := fun z => c0 (congrArg Int.ofNat z)
    refine ⟨_, rfl, _, _, rfl, rfl, _, rfl, ?_⟩
    have yes : ∀ (c : p.rd = 1 ∧ (p.th = 1 ∨ allDown p n = 1)) {r : Addr} {Hx : Hp}, Same H Hx → Hx r = some (.tup [vi p.fr, vi (anew (p.lf - n)), .int 2, vi p.fu, .int 0, .int 1]) → Q (.ref r) Hx := fun c r Hx sm hr' => by
      refine q _ r sm (PlAt.of ?_)
      have e : late p n = ⟨p.fr, anew (p.lf - n), 2, p.fu, 0, 1⟩ := (if_neg c0).trans (if_pos c)
      rw [e]
      exact hr'
    have no : ∀ (c : ¬ (p.rd = 1 ∧ (p.th = 1 ∨ allDown p n = 1))), Q (.ref a.aO) H := fun c => by
      refine q _ _ (Same.refl _) ?_
      have e : late p n = over := (if_neg c0).trans (if_neg c)
      rw [e]
      exact ⟨sOver T, fun z => absurd rfl z⟩
    refine iteD (fun c1 => ?_) (fun c1 => ?_)
    · have c1 : p.rd = 1 := Int.ofNat.inj c1
      refine ⟨_, rfl, _, _, rfl, rfl, _, rfl, ?_⟩
      refine iteD (fun c2 => ?_) (fun c2 => ?_)
      · have c2 : p.th = 1 := Int.ofNat.inj c2
        refine iteT ?_
        refine ⟨_, rfl, _, rfl, _, rfl, _, _, rfl, rfl, p.lf - n, ea, _, rfl, small (by show 6 ≤ 1000; decide), fun r hr' => yes ⟨c1, .inl c2⟩ (same_new hr' _) upd_same⟩
      · have c2 : ¬ p.th = 1 := fun z => c2 (congrArg Int.ofNat z)
        refine ⟨_, rfl, _, _, rfl, rfl, _, rfl, ?_⟩
        refine iteD (fun c3 => ?_) (fun c3 => ?_)
        · have c3 : allDown p n = 1 := Int.ofNat.inj c3
          refine ⟨_, rfl, _, rfl, _, rfl, _, _, rfl, rfl, p.lf - n, ea, _, rfl, small (by show 6 ≤ 1000; decide), fun r hr' => yes ⟨c1, .inr c3⟩ (same_new hr' _) upd_same⟩
        · exact no fun z => z.2.elim c2 fun y => c3 (congrArg Int.ofNat y)
    · refine iteF ?_
      exact no fun z => c1 (congrArg Int.ofNat z.1)
theorem ok_Beh (T : Top K mg a) : FnOk P w K mg base CX0 3 (a.f 11) (a.d 11) ["place", "n"] (spBeh K) := by
  refine T.dBeh.F.ok scBeh (fun vs H Q E h => ?_) (fun cdv A outer s H vs Q E hr h => ?_)
  · obtain ⟨b, p, n, rfl, _⟩ := h
    rfl
  obtain ⟨b, p, n, rfl, hS, hn, q⟩ := h
  have G1 := ok_Ear (P := P) (w := w) (base := base) T
  have G2 := ok_Las (P := P) (w := w) (base := base) T
  refine ⟨_, pss_cons (ps_if (pt_cmp (pc_lt (pe_ix ix_tup (pv 0) pe_int (fun _ _ => rfl)) (pe_gint T.gLAST)))
      (pss_one (ps_ret (pe_call G1 hr rfl T.gEar T.dEar.F.kp T.dEar.b .nil pass0 (pa_cons (pv 0) (pa_cons (pv 1) pa_nil))))) pss_nil)
    (pss_one (ps_ret (pe_call G2 hr rfl T.gLas T.dLas.F.kp T.dLas.b .nil pass0 (pa_cons (pv 0) (pa_cons (pv 1) pa_nil))))), ?_⟩
  refine ⟨_, rfl, b, _, 0, vi p.fr, rfl, rfl, hS, rfl, _, _, rfl, rfl, _, rfl, ?_⟩
  refine iteD (fun c => ?_) (fun c => ?_)
  · have e : behind p n = early p n := if_pos (Int.ofNat_lt.mp c)
    rw [e] at q
    exact ⟨_, rfl, _, rfl, b, p, n, rfl, hS, hn, fun H' r sm hr' => q H' r sm (PlAt.of hr')⟩
  · have e : behind p n = late p n := if_neg (fun z => c (Int.ofNat_lt.mpr z))
    rw [e] at q
    exact ⟨_, rfl, _, rfl, b, p, n, rfl, hS, hn, q⟩
end
end Pin

/-! The walk: loops over the rolls; frames' scores (pinframes.scoring). -/
namespace Pin
open PySem PySem.Spec PyProof.Rows L2
/-! ### lists of numbers -/
theorem item_vi {l : List Nat} {i : Nat} {x : V} (h : (l.map vi)[i]? = some x) : ∃ n, l[i]? = some n ∧ x = vi n := by
  rw [List.getElem?_map] at h
  cases e : l[i]? with
  | none =>
    rw [e] at h
    cases h
  | some n =>
    rw [e] at h
    exact ⟨n, rfl, (Option.some.inj h).symm⟩
theorem take_more {α : Type} : ∀ {l : List α} {i : Nat} {x : α}, l[i]? = some x → l.take (i + 1) = l.take i ++ [x]
  | [], i, x, h => by simp at h
  | y :: l, 0, x, h => by
    have e : y = x := Option.some.inj h
    subst e
    rfl
  | y :: l, i + 1, x, h => by
    have ih := take_more (l := l) (i := i) (x := x) h
    show y :: l.take (i + 1) = y :: l.take i ++ [x]
    rw [ih]
    rfl
theorem legal_take : ∀ {l : List Nat} {p : Pl} (i : Nat), legal p l → legal p (l.take i)
  | [], p, i, h => by
    rw [List.take_nil]
    exact h
  | y :: r, p, 0, h => (show legal p [] from trivial)
  | y :: r, p, i + 1, h => ⟨h.1, h.2.1, legal_take i h.2.2⟩
theorem legal_at {l : List Nat} {i n : Nat} (h : legal beg l) (e : l[i]? = some n) : Good (placeOf (l.take i)) ∧ n ≤ (placeOf (l.take i)).lf ∧ placeOf (l.take (i + 1)) = behind (placeOf (l.take i)) n ∧ counted (l.take (i + 1)) = counted (l.take i) + cnt (placeOf (l.take i)) * n := by
  have h2 := legal_take (i + 1) h
  rw [take_more e] at h2 ⊢
  obtain ⟨_, h3, h4⟩ := legal_snoc.mp h2
  refine ⟨h3, h4, place_snoc _ _, ?_⟩
  unfold counted
  rw [countedFrom_append]
  rfl
theorem vals_ints (l : List Nat) : (l.map fun n : Nat => (n : Int)).map V.int = l.map vi := by
  rw [List.map_map]
  rfl
theorem sum_ints : ∀ l : List Nat, (l.map fun n : Nat => (n : Int)).sum = ((l.sum : Nat) : Int)
  | [] => rfl
  | x :: r => by
    rw [List.map_cons, List.sum_cons, List.sum_cons, sum_ints r]
    omega
theorem at_vi {l : List Nat} {i n : Nat} (h : l[i]? = some n) : atI (l.map vi) (i : Int) = some (vi n) := atI_nat (by rw [List.getElem?_map, h] <;> rfl)
theorem cut_vi (l : List Nat) (i m : Nat) : cutV (l.map vi) (some (i : Int)) (some (((i + m : Nat)) : Int)) = ((l.drop i).take m).map vi := by
  unfold cutV
  rw [HT.sIx_nat, HT.sIx_nat, List.length_map, ← List.map_drop, ← List.map_take]
  refine congrArg (List.map vi) ?_
  by_cases h : i ≤ l.length
  · rw [Nat.min_eq_left h]
    by_cases k : i + m ≤ l.length
    · rw [Nat.min_eq_left k, show i + m - i = m by omega]
    · rw [Nat.min_eq_right (by omega), List.take_of_length_le (by rw [List.length_drop] <;> omega), List.take_of_length_le (by rw [List.length_drop]; omega)]
  · rw [List.drop_eq_nil_of_le (by omega), List.drop_eq_nil_of_le (by omega), List.take_nil, List.take_nil]
/-! ### promises -/
section
variable (K : PySem.W.Frag)
def spWan : Sp := fun vs H Q _ => ∃ (b : Addr) (l : List Nat) (i fr : Nat), vs = [.ref b, vi i, vi fr] ∧ SqL K H b (l.map vi) ∧ i ≤ l.length ∧
  ∀ H' r, Same H H' → H' r = some (.tup [vi (wantedR (fr == 9) (l.drop i)).1, vi (wantedR (fr == 9) (l.drop i)).2]) → Q (.ref r) H'
def spKno : Sp := fun vs H Q _ => ∃ (b : Addr) (l : List Nat), vs = [.ref b] ∧ SqL K H b (l.map vi) ∧ ∀ H' r, Same H H' → H' r = some (.lst ((kn 10 l).map vi)) → Q (.ref r) H'
end
section
variable {P : Program} {w : World} {K : PySem.W.Frag} {mg : Str → Option Value} {base : Heap} {a : Ad}
theorem ok_Pla (T : Top K mg a) : FnOk P w K mg base CX0 4 (a.f 12) (a.d 12) ["rolls"] (spPla K) := by
  refine T.dPla.F.ok scPla (fun vs H Q E h => ?_) (fun cdv A outer s H vs Q E hr h => ?_)
  · obtain ⟨b, l, rfl, _⟩ := h
    rfl
  obtain ⟨b, l, rfl, hS, hl, q⟩ := h
  have G0 := ok_Beg (P := P) (w := w) (base := base) T
  have G1 := ok_Beh (P := P) (w := w) (base := base) T
  have hr1 : Room 1 _ := hr.mono (by decide)
  refine ⟨_, pss_cons (ps_set (i := 1) scPla.nd rfl (.inl rfl) (pe_call0 G0 hr1 rfl T.gBeg T.dBeg.F.kp T.dBeg.b .nil pass0))
    (pss_cons (ps_for PassesOwn.never rfl (pi_list (pv 0)) (pg_name (i := 2) scPla.nd rfl (.inl rfl))
      (pss_one (ps_set (i := 1) scPla.nd rfl (.inl rfl) (pe_call G1 hr rfl T.gBeh T.dBeh.F.kp T.dBeh.b .nil pass0 (pa_cons (pv 1) (pa_cons (pv 2) pa_nil))))))
    (pss_one (ps_ret (pv 1)))), ?_⟩
  refine ⟨rfl, fun H1 r1 s1 h1 => ?_⟩
  refine ⟨_, rfl, b, rfl, ⟨_, s1.seq hS⟩, for_list (K := K) (a := b) (xs := l.map vi) (fun i σ H' => ∃ (r : Addr) (v : Option V), σ = [some (.ref b), some (.ref r), v] ∧ Same H H' ∧ PlAt K H' r (placeOf (l.take i)))
    ⟨r1, none, rfl, s1, PlAt.of h1⟩ (fun i σ H' _ ⟨_, _, _, s2, _⟩ => s2.seq hS) ?_ ?_⟩
  · rintro i x σ H' hi ⟨r, v, rfl, s2, p2⟩
    obtain ⟨n, hn, rfl⟩ := item_vi hi
    obtain ⟨g1, g2, g3, _⟩ := legal_at hl hn
    refine ⟨_, rfl, _, rfl, r, _, n, rfl, p2.1, g2, fun H3 r3 s3 p3 => ?_⟩
    refine ⟨r3, some (vi n), rfl, s2.trans s3, ?_⟩
    rw [g3]
    exact p3
  · rintro σ H' ⟨r, v, rfl, s2, p2⟩
    rw [List.length_map, List.take_length] at p2
    exact ⟨_, rfl, q H' r s2 p2⟩
theorem ok_Ctd (T : Top K mg a) : FnOk P w K mg base CX0 4 (a.f 13) (a.d 13) ["rolls"] (spCtd K) := by
  refine T.dCtd.F.ok scCtd (fun vs H Q E h => ?_) (fun cdv A outer s H vs Q E hr h => ?_)
  · obtain ⟨b, l, rfl, _⟩ := h
    rfl
  obtain ⟨b, l, rfl, hS, hl, q⟩ := h
  have G0 := ok_Beg (P := P) (w := w) (base := base) T
  have G1 := ok_Beh (P := P) (w := w) (base := base) T
  have G2 := ok_Cnt (P := P) (w := w) (base := base) T
  have hr1 : Room 1 _ := hr.mono (by decide)
  refine ⟨_, pss_cons (ps_set (i := 1) scCtd.nd rfl (.inl rfl) (pe_call0 G0 hr1 rfl T.gBeg T.dBeg.F.kp T.dBeg.b .nil pass0))
    (pss_cons (ps_set (i := 2) scCtd.nd rfl (.inl rfl) pe_int)
    (pss_cons (ps_for PassesOwn.never rfl (pi_list (pv 0)) (pg_name (i := 3) scCtd.nd rfl (.inl rfl))
      (pss_cons (ps_aug (i := 2) scCtd.nd rfl (.inl rfl) (pe_op op_mul (pe_call G2 hr1 rfl T.gCnt T.dCnt.F.kp T.dCnt.b .nil pass0 (pa_cons (pv 1) pa_nil)) (pv 3)) ip_add)
      (pss_one (ps_set (i := 1) scCtd.nd rfl (.inl rfl) (pe_call G1 hr rfl T.gBeh T.dBeh.F.kp T.dBeh.b .nil pass0 (pa_cons (pv 1) (pa_cons (pv 3) pa_nil)))))))
    (pss_one (ps_ret (pv 2))))), ?_⟩
  refine ⟨rfl, fun H1 r1 s1 h1 => ?_⟩
  refine ⟨_, rfl, b, rfl, ⟨_, s1.seq hS⟩, for_list (K := K) (a := b) (xs := l.map vi) (fun i σ H' => ∃ (r : Addr) (v : Option V), σ = [some (.ref b), some (.ref r), some (vi (counted (l.take i))), v] ∧ Same H H' ∧ PlAt K H' r (placeOf (l.take i)))
    ⟨r1, none, rfl, s1, PlAt.of h1⟩ (fun i σ H' _ ⟨_, _, _, s2, _⟩ => s2.seq hS) ?_ ?_⟩
  · rintro i x σ H' hi ⟨r, v, rfl, s2, p2⟩
    obtain ⟨n, hn, rfl⟩ := item_vi hi
    obtain ⟨g1, g2, g3, g4⟩ := legal_at hl hn
    have hm := g1.mo
    refine ⟨_, rfl, _, rfl, r, _, rfl, p2.1, _, rfl, _, _, rfl, rfl, .inl ⟨?_, ?_⟩, _, _, rfl, rfl, ?_⟩
    · show -(2 ^ 64) < ((cnt (placeOf (l.take i)) : Nat) : Int)
      unfold cnt
      omega
    · show ((cnt (placeOf (l.take i)) : Nat) : Int) < 2 ^ 64
      unfold cnt
      omega
    refine ⟨_, rfl, _, rfl, r, _, n, rfl, p2.1, g2, fun H3 r3 s3 p3 => ?_⟩
    refine ⟨r3, some (vi n), ?_, s2.trans s3, ?_⟩
    · have e : (((counted (l.take i) : Nat) : Int) + ((cnt (placeOf (l.take i)) : Nat) : Int) * (n : Int)) = ((counted (l.take (i + 1)) : Nat) : Int) := by
        rw [g4]
        omega
      show [some (V.ref b), some (.ref r3), some (.int (((counted (l.take i) : Nat) : Int) + ((cnt (placeOf (l.take i)) : Nat) : Int) * (n : Int))), some (vi n)] = _
      rw [e]
      rfl
    · rw [g3]
      exact p3
  · rintro σ H' ⟨r, v, rfl, s2, p2⟩
    rw [List.length_map, List.take_length]
    exact ⟨_, rfl, q H' s2⟩
theorem own_ix {fr : Nat} {x y : Nat} : atI [vi x, vi y] (if decide ((fr : Int) = 10 - 1) = true then 1 else 0) = some (vi (if (fr == 9) = true then y else x)) := by
  by_cases c : fr = 9
  · subst c
    rfl
  · rw [decide_eq_false (by omega), if_neg (by decide), if_neg (by rw [beq_iff_eq]; exact c)]
    rfl
theorem drop_at {l : List Nat} {i : Nat} (h : i < l.length) : ∃ x, l[i]? = some x ∧ l.drop i = x :: l.drop (i + 1) :=
  ⟨l[i], List.getElem?_eq_getElem h, List.drop_eq_getElem_cons h⟩
theorem ok_Wan (T : Top K mg a) : FnOk P w K mg base CX0 1 (a.f 17) (a.d 17) ["rolls", "at", "frame"] (spWan K) := by
  refine T.dWan.F.ok scWan (fun vs H Q E h => ?_) (fun cdv A outer s H vs Q E hr h => ?_)
  · obtain ⟨b, l, i, fr, rfl, _⟩ := h
    rfl
  obtain ⟨b, l, i, fr, rfl, hS, hi, q⟩ := h
  have hlen : ((l.map vi).length : Nat) = l.length := List.length_map _
  refine ⟨_, pss_cons (ps_if (pt_cmp (pc_ge (pv 1) (pe_callB call_len_seq rfl T.nlen PySem.boot_len (pa_cons (pv 0) pa_nil)))) (pss_one (ps_ret (pe_tup (pa_cons pe_int (pa_cons pe_int pa_nil))))) pss_nil)
    (pss_cons (ps_if (pt_cmp (pc_eqI (pe_ix ix_list (pv 0) (pv 1) (fun _ _ => rfl)) (pe_gint T.gPINS_scoring)))
      (pss_cons (ps_set (i := 3) scWan.nd rfl (.inl rfl) (pe_ix ix_list (pe_lst (pa_cons pe_int (pa_cons pe_int pa_nil))) (pe_callTy call_int1 (by rfl) T.nint (by decide +kernel) (pa_cons (pe_cmp (pc_eqI (pv 2) (pe_op op_sub (pe_gint T.gFRAMES_scoring) pe_int))) pa_nil)) (fun _ _ => rfl)))
      (pss_one (ps_ret (pe_tup (pa_cons pe_int (pa_cons (pv 3) pa_nil)))))) pss_nil)
    (pss_cons (ps_if (pt_cmp (pc_ge (pe_op op_add (pv 1) pe_int) (pe_callB call_len_seq rfl T.nlen PySem.boot_len (pa_cons (pv 0) pa_nil)))) (pss_one (ps_ret (pe_tup (pa_cons pe_int (pa_cons pe_int pa_nil))))) pss_nil)
    (pss_cons (ps_if (pt_cmp (pc_eqI (pe_op op_add (pe_ix ix_list (pv 0) (pv 1) (fun _ _ => rfl)) (pe_ix ix_list (pv 0) (pe_op op_add (pv 1) pe_int) (fun _ _ => rfl))) (pe_gint T.gPINS_scoring)))
      (pss_cons (ps_set (i := 3) scWan.nd rfl (.inl rfl) (pe_ix ix_list (pe_lst (pa_cons pe_int (pa_cons pe_int pa_nil))) (pe_callTy call_int1 (by rfl) T.nint (by decide +kernel) (pa_cons (pe_cmp (pc_eqI (pv 2) (pe_op op_sub (pe_gint T.gFRAMES_scoring) pe_int))) pa_nil)) (fun _ _ => rfl)))
      (pss_one (ps_ret (pe_tup (pa_cons pe_int (pa_cons (pv 3) pa_nil)))))) pss_nil)
    (pss_one (ps_ret (pe_tup (pa_cons pe_int (pa_cons pe_int pa_nil)))))))), ?_⟩
  have fin : ∀ {x y : Nat}, wantedR (fr == 9) (l.drop i) = (x, y) → ∀ {H' : Hp} {r : Addr}, Same H H' → H' r = some (.tup [vi x, vi y]) → Q (.ref r) H' := fun e H' r sm hr' => q H' r sm (by rw [e]; exact hr')
  refine ⟨_, rfl, _, rfl, b, _, rfl, .inl hS, _, _, rfl, rfl, _, rfl, ?_⟩
  rw [hlen]
  refine iteD (fun c => ?_) (fun c => ?_)
  · refine ⟨small (by show 2 ≤ 1000; decide), fun p hp => ?_⟩
    have e : l.drop i = [] := List.drop_eq_nil_of_le (by omega)
    exact fin (by rw [e] <;> rfl) (same_new hp _) upd_same
  have hi' : i < l.length := by omega
  obtain ⟨x, hx, ed⟩ := drop_at hi'
  refine ⟨_, rfl, _, rfl, b, _, _, _, rfl, rfl, hS, at_vi hx, _, _, rfl, rfl, _, rfl, ?_⟩
  refine iteD (fun c1 => ?_) (fun c1 => ?_)
  · have c1 : x = 10 := Int.ofNat.inj c1
    refine ⟨small (by show 2 ≤ 1000; decide), fun p hp => ?_⟩
    refine ⟨_, rfl, _, _, rfl, rfl, _, _, rfl, rfl, .inr ⟨_, rfl, p, _, _, _, rfl, rfl, SqL.of upd_same, own_ix (x := 1) (y := 3), ?_⟩⟩
    refine ⟨_, rfl, small (by show 2 ≤ 1000; decide), fun r hr' => ?_⟩
    refine fin (x := 3) ?_ ((same_new hp _).trans (same_new hr' _)) upd_same
    rw [ed, c1]
    exact wanted_strike _ _
  have c1 : ¬ x = 10 := fun z => c1 (congrArg Int.ofNat z)
  refine ⟨_, rfl, _, _, rfl, rfl, _, rfl, b, _, rfl, .inl hS, _, _, rfl, rfl, _, rfl, ?_⟩
  rw [hlen]
  refine iteD (fun c2 => ?_) (fun c2 => ?_)
  · refine ⟨small (by show 2 ≤ 1000; decide), fun p hp => ?_⟩
    have e : l.drop (i + 1) = [] := List.drop_eq_nil_of_le (by omega)
    exact fin (by rw [ed, e]; exact wanted_one _ c1) (same_new hp _) upd_same
  have hi2 : i + 1 < l.length := by omega
  obtain ⟨y, hy, ed2⟩ := drop_at hi2
  refine ⟨_, rfl, _, rfl, b, _, _, _, rfl, rfl, hS, at_vi hx, _, rfl, _, rfl, _, _, rfl, rfl, b, _, _, _, rfl, rfl, hS, at_vi hy, _, _, rfl, rfl, _, _, rfl, rfl, _, rfl, ?_⟩
  refine iteD (fun c3 => ?_) (fun c3 => ?_)
  · have c3 : x + y = 10 := Int.ofNat.inj c3
    refine ⟨small (by show 2 ≤ 1000; decide), fun p hp => ?_⟩
    refine ⟨_, rfl, _, _, rfl, rfl, _, _, rfl, rfl, .inr ⟨_, rfl, p, _, _, _, rfl, rfl, SqL.of upd_same, own_ix (x := 2) (y := 3), ?_⟩⟩
    refine ⟨_, rfl, small (by show 2 ≤ 1000; decide), fun r hr' => ?_⟩
    refine fin (x := 3) ?_ ((same_new hp _).trans (same_new hr' _)) upd_same
    rw [ed, ed2]
    exact wanted_spare _ _ c1 c3
  · have c3 : ¬ x + y = 10 := fun z => c3 (congrArg Int.ofNat z)
    refine ⟨small (by show 2 ≤ 1000; decide), fun p hp => ?_⟩
    refine fin (x := 2) (y := 2) ?_ (same_new hp _) upd_same
    rw [ed, ed2]
    exact wanted_open _ _ c1 c3
end
end Pin

/-! The walk: known_scores; the loops of pinframes.ways that call nothing. -/
namespace Pin
open PySem PySem.Spec PyProof.Rows L2
section
variable {P : Program} {w : World} {K : PySem.W.Frag} {mg : Str → Option Value} {base : Heap} {a : Ad}
theorem same_upd {H H' : Hp} {p : Addr} {o : HO} (s : Same H H') (hp : H p = none) : Same H (upd H' p o) := fun b u e => by
  rw [upd_ne (ne_of_none e hp)]
  exact s b u e
theorem ok_Kno (T : Top K mg a) : FnOk P w K mg base CX0 2 (a.f 18) (a.d 18) ["rolls"] (spKno K) := by
  refine T.dKno.F.ok scKno (fun vs H Q E h => ?_) (fun cdv A outer s H vs Q E hr h => ?_)
  · obtain ⟨b, l, rfl, _⟩ := h
    rfl
  obtain ⟨b, l, rfl, hS, q⟩ := h
  have hlen : ((l.map vi).length : Nat) = l.length := List.length_map _
  have G := ok_Wan (P := P) (w := w) (base := base) T
  refine ⟨_, pss_cons (ps_set (i := 1) scKno.nd rfl (.inl rfl) (pe_lst pa_nil))
    (pss_cons (ps_set (i := 2) scKno.nd rfl (.inl rfl) pe_int)
    (pss_cons (ps_for PassesOwn.never rfl (pi_range1 rfl T.nrange (pa_cons (pe_gint T.gFRAMES_scoring) pa_nil)) (pg_name (i := 3) scKno.nd rfl (.inl rfl))
      (pss_cons (ps_asg (pe_call G hr rfl T.gWan T.dWan.F.kp T.dWan.b .nil pass0 (pa_cons (pv 0) (pa_cons (pv 2) (pa_cons (pv 3) pa_nil)))) (pg_tup (by rfl) (pgs_cons (pg_name (i := 4) scKno.nd rfl (.inl rfl)) (pgs_cons (pg_name (i := 5) scKno.nd rfl (.inl rfl)) pgs_nil))))
      (pss_cons (ps_if (PW.pt (pw_or (pt_cmp (pc_eqI (pv 4) pe_int)) (pw_or1 (pt_cmp (pc_gt (pe_op op_add (pv 2) (pv 4)) (pe_callB call_len_seq rfl T.nlen PySem.boot_len (pa_cons (pv 0) pa_nil)))))))
        (pss_one (ps_ret (pv 1))) pss_nil)
      (pss_cons (ps_expr (pe_bm PySem.F.plainAttrs_list PySem.F.slot_list_append PySem.F.type_list_append mt_append (pv 1) (pa_cons (pe_callB (cr_sum rfl) rfl T.nsum PyProof.Rows.boot_sum (pa_cons (pe_slice sl_list (pv 0) (po_some (pv 2)) (po_some (pe_op op_add (pv 2) (pv 4)))) pa_nil)) pa_nil)))
      (pss_one (ps_aug (i := 2) scKno.nd rfl (.inl rfl) (pv 5) ip_add))))))
    (pss_one (ps_ret (pv 1))))), ?_⟩
  refine ⟨small (by show 0 ≤ 1000; decide), fun p hp => ?_⟩
  refine ⟨10, rfl, by decide, by decide, for_range (n := 10) (fun i σ H' => ∃ (at' : Nat) (v3 v4 v5 : Option V) (fd : List Nat), σ = [some (.ref b), some (.ref p), some (vi at'), v3, v4, v5] ∧ Same H H' ∧ at' ≤ l.length ∧
      H' p = some (.lst (fd.map vi)) ∧ kn 10 l = fd ++ kn (10 - i) (l.drop at') ∧ fd.length = i)
    ⟨0, none, none, none, [], rfl, same_new hp _, Nat.zero_le _, upd_same, rfl, rfl⟩ ?_ ?_⟩
  · rintro i σ H' hi ⟨at', v3, v4, v5, fd, rfl, sm, hat, hP, hk, hf⟩
    rw [Int.zero_add]
    refine ⟨_, rfl, _, rfl, _, rfl, b, l, at', i, rfl, sm.seq hS, hat, fun H2 r s2 h2 => ?_⟩
    have sm2 := sm.trans s2
    refine ⟨r, _, rfl, SqT.of h2, rfl, _, _, rfl, _, _, rfl, rfl, ?_⟩
    have hw := wanted_le (i == 9) (l.drop at')
    have eb : (i == 9) = (9 - i == 0) := by
      by_cases c : i = 9
      · subst c
        rfl
      · rw [beq_false_of_ne c, beq_false_of_ne (by omega)]
    have en : 10 - i = (9 - i) + 1 := by omega
    have hP2 : H2 p = some (.lst (fd.map vi)) := s2 _ _ hP
    generalize hm : (wantedR (i == 9) (l.drop at')).1 = m at hw
    generalize ho : (wantedR (i == 9) (l.drop at')).2 = o at hw
    have hwo : wantedR (9 - i == 0) (l.drop at') = (m, o) := by
      rw [← eb, ← hm, ← ho]
    have stop : (m = 0 ∨ (l.drop at').length < m) → Q (.ref p) H2 := fun c => by
      have e : kn (10 - i) (l.drop at') = [] := by
        rw [en]
        refine kn_none ?_
        rw [hwo]
        exact c
      rw [e, List.append_nil] at hk
      exact q H2 p sm2 (by rw [hk]; exact hP2)
    refine ⟨_, rfl, _, _, rfl, rfl, _, rfl, ?_⟩
    refine iteD (fun c => iteT ⟨_, rfl, stop (.inl (Int.ofNat.inj c))⟩) (fun c => ?_)
    have c : ¬ m = 0 := fun z => c (congrArg Int.ofNat z)
    refine ⟨_, rfl, _, rfl, _, _, rfl, rfl, _, rfl, b, _, rfl, .inl (sm2.seq hS), _, _, rfl, rfl, _, rfl, ?_⟩
    rw [hlen]
    refine iteD (fun c2 => ⟨_, rfl, stop (.inr (by rw [List.length_drop]; omega))⟩) (fun c2 => ?_)
    have c2 : m ≤ (l.drop at').length := by
      rw [List.length_drop]
      omega
    refine ⟨_, rfl, .inl ⟨rfl, _, SqL.of hP2⟩, ?_⟩
    refine ⟨_, rfl, _, rfl, _, rfl, _, rfl, _, rfl, _, _, rfl, rfl, _, rfl, b, _, rfl, sm2.seq hS, fun t ht => ?_⟩
    have e1 : cutV (l.map vi) (some (at' : Int)) (some ((at' : Int) + (m : Int))) = (((l.drop at').take m).map fun n : Nat => (n : Int)).map V.int := by
      rw [vals_ints]
      exact cut_vi l at' m
    have hpt : p ≠ t := ne_of_none hP2 ht
    refine ⟨t, ((l.drop at').take m).map fun n : Nat => (n : Int), rfl, SqL.of (by rw [upd_same, ← e1] <;> rfl), ?_⟩
    refine ⟨p, _, _, rfl, rfl, (by rw [upd_ne hpt]; exact hP2), (by rw [List.length_map]; exact small1000 (by omega)), ?_⟩
    refine ⟨_, rfl, _, rfl, _, _, rfl, rfl, ?_⟩
    refine ⟨at' + o, _, _, _, fd ++ [((l.drop at').take m).sum], rfl, same_upd (sm2.trans (same_new ht _)) hp, (by rw [List.length_drop] at c2; omega), ?_, ?_, (by rw [List.length_append, hf]; rfl)⟩
    · rw [upd_same, sum_ints, List.map_append]
      rfl
    · rw [hk, en, kn_some hwo c c2, List.drop_drop, List.append_assoc]
      have e3 : 9 + 1 - (i + 1) = 9 - i := by omega
      rw [show 10 - (i + 1) = 9 - i by omega]
      rfl
  · rintro σ H' ⟨at', v3, v4, v5, fd, rfl, sm, hat, hP, hk, hf⟩
    rw [show kn (10 - 10) (l.drop at') = [] from rfl, List.append_nil] at hk
    exact ⟨_, rfl, q H' p sm (by rw [hk]; exact hP)⟩
end
end Pin

/-! The walk: the loops of pinframes.ways that call nothing. -/
namespace Pin
open PySem PySem.Spec PyProof.Rows L2
/-- o[i] of a list, by values (for o[i] += e) -/
theorem get_list {X : Cx} : PGet X (rIxL X.K) := by
  intro pins s σ H o i ov iv Q I ro ri h
  obtain ⟨p, xs, k, z, rfl, rfl, hq, he, q⟩ := h
  cases ro
  obtain ⟨t, rfl⟩ := ri
  obtain ⟨its, r, pl, hz⟩ := I.list hq
  obtain ⟨j, h1, h2, h3, h4, h5⟩ := atI_get he
  obtain ⟨w, ew, rw'⟩ := r.get h2
  have hl := r.length
  have hn := line63
  have fin : EP X pins σ Q w s := ⟨z, H, I, rw', q⟩
  by_cases h0 : 0 ≤ k
  · have hj : k.toNat = j := by
      rw [seqIndex_of h0 h5] at h1
      exact Option.some.inj h1
    exact wpAny_getItem_list pl.isList h0 (by omega) (by rw [hj]; simpa using ew) fin
  · have hj : (k + (its.toArray.size : Int)).toNat = j := by
      rw [seqIndex_neg (by omega) h4] at h1
      rw [List.size_toArray, ← hl]
      exact Option.some.inj h1
    exact wpAny_getItem_list_neg pl.isList (by omega) (by rw [List.size_toArray] <;> omega) (by omega) (by rw [hj]; simpa using ew) fin
/-! ### what stands in together behind i turns -/
def part (f m : List Nat) (w i : Nat) : List Nat := (List.range (max f.length (m.length + w))).map fun s => C f s + if w ≤ s ∧ s < w + i then C m (s - w) else 0
theorem part_length (f m : List Nat) (w i : Nat) : (part f m w i).length = max f.length (m.length + w) := by
  unfold part
  rw [List.length_map, List.length_range]
theorem part_at {f m : List Nat} {w i s : Nat} (h : s < max f.length (m.length + w)) : (part f m w i)[s]? = some (C f s + if w ≤ s ∧ s < w + i then C m (s - w) else 0) := by
  unfold part
  rw [List.getElem?_map, List.getElem?_range h]
  rfl
theorem part_zero (f m : List Nat) (w : Nat) : f ++ List.replicate (m.length + w - f.length) 0 = part f m w 0 := by
  refine List.ext_getElem? fun s => ?_
  by_cases h : s < max f.length (m.length + w)
  · rw [part_at h, if_neg (by omega), Nat.add_zero]
    unfold C
    rw [List.getD_eq_getElem?_getD]
    by_cases k : s < f.length
    · rw [List.getElem?_append_left k, List.getElem?_eq_getElem k]
      rfl
    · rw [List.getElem?_append_right (by omega), List.getElem?_replicate, if_pos (by omega), List.getElem?_eq_none (l := f) (by omega)]
      rfl
  · rw [List.getElem?_eq_none (by rw [List.length_append, List.length_replicate]; omega), List.getElem?_eq_none (by rw [part_length]; omega)]
theorem part_step {f m : List Nat} {w i n : Nat} (h : m[i]? = some n) : (part f m w i)[i + w]? = some (C f (i + w)) ∧ (part f m w i).set (i + w) (C f (i + w) + n) = part f m w (i + 1) := by
  have hi : i < m.length := (List.getElem?_eq_some_iff.mp h).1
  have hN : i + w < max f.length (m.length + w) := by omega
  refine ⟨by rw [part_at hN, if_neg (by omega), Nat.add_zero], ?_⟩
  refine List.ext_getElem? fun s => ?_
  rw [List.getElem?_set]
  by_cases c : i + w = s
  · subst c
    rw [if_pos rfl, if_pos (by rw [part_length]; exact hN), part_at hN, if_pos (by omega), show i + w - w = i by omega]
    have e : C m i = n := by
      unfold C
      rw [List.getD_eq_getElem?_getD, h]
      rfl
    rw [e]
  · rw [if_neg c]
    by_cases k : s < max f.length (m.length + w)
    · rw [part_at k, part_at k]
      by_cases d : w ≤ s ∧ s < w + i
      · rw [if_pos d, if_pos (by omega)]
      · rw [if_neg d, if_neg (by omega)]
    · rw [List.getElem?_eq_none (by rw [part_length]; omega), List.getElem?_eq_none (by rw [part_length]; omega)]
theorem part_end (f m : List Nat) (w : Nat) : part f m w m.length = added f m w := by
  unfold part added
  refine List.map_congr_left fun s _ => ?_
  unfold sh
  by_cases c : w ≤ s
  · rw [if_pos c]
    by_cases d : s < w + m.length
    · rw [if_pos ⟨c, d⟩]
    · rw [if_neg (by omega), C_out (p := m) (by omega)]
  · rw [if_neg c, if_neg (by omega)]
/-! ### promises -/
section
variable (K : PySem.W.Frag)
def spAdd : Sp := fun vs H Q _ => ∃ (b1 b2 : Addr) (f m : List Nat) (wo : Nat), vs = [.ref b1, .ref b2, vi wo] ∧ H b1 = some (.lst (f.map vi)) ∧ H b2 = some (.lst (m.map vi)) ∧ f.length ≤ 10000 ∧ m.length ≤ 10000 ∧ wo ≤ 10000 ∧
  ∀ H' r, H r = none → Same H H' → H' r = some (.lst ((added f m wo).map vi)) → Q (.ref r) H'
def spLea : Sp := fun vs H Q _ => ∃ (b : Addr) (l : List Nat), vs = [.ref b] ∧ SqL K H b (l.map vi) ∧ (∃ s, C l s ≠ 0) ∧ Q (vi (least0 l)) H
def spMos : Sp := fun vs H Q _ => ∃ (b : Addr) (l : List Nat), vs = [.ref b] ∧ SqL K H b (l.map vi) ∧ (∃ s, C l s ≠ 0) ∧ Q (vi (most0 l)) H
def spWto : Sp := fun vs H Q _ => ∃ (b : Addr) (l : List Nat) (z : Int), vs = [.ref b, .int z] ∧ SqL K H b (l.map vi) ∧ Q (vi (wt l z)) H
end
theorem size_ok {n : Nat} (h : n ≤ 40000) : n < sizeLine := Nat.lt_of_le_of_lt h (by decide)
section
variable {P : Program} {w : World} {K : PySem.W.Frag} {mg : Str → Option Value} {base : Heap} {a : Ad}
theorem ok_Add (T : Top K mg a) : FnOk P w K mg base CX0 1 (a.f 21) (a.d 21) ["found", "more", "worth"] spAdd := by
  refine T.dAdd.F.ok scAdd (fun vs H Q E h => ?_) (fun cdv A outer s H vs Q E hr h => ?_)
  · obtain ⟨b1, b2, f, m, wo, rfl, _⟩ := h
    rfl
  obtain ⟨b1, b2, f, m, wo, rfl, h1, h2, hf, hm, hw, q⟩ := h
  have lf : (f.map vi).length = f.length := List.length_map _
  have lm : (m.map vi).length = m.length := List.length_map _
  refine ⟨_, pss_cons (ps_set (i := 4) scAdd.nd rfl (.inl rfl) (pe_op op_cat (pv 0) (pe_lc (own := [("k", 3)]) (g := gName 3) (tt := tYes) rfl scAdd.nd
      (pi_range1 rfl T.nrange (pa_cons (pe_op op_sub (pe_op op_add (pe_callB call_len_seq rfl T.nlen PySem.boot_len (pa_cons (pv 1) pa_nil)) (pv 2)) (pe_callB call_len_seq rfl T.nlen PySem.boot_len (pa_cons (pv 0) pa_nil))) pa_nil))
      (blkOk_by (own := [("k", 3)]) (N := ["found", "more", "worth", "k", "together", "number"]) (sc := defScope sAdd) (by decide +kernel))
      (fun _ _ _ _ _ => pg_name (i := 3) scAdd.nd rfl (.inl rfl)) (fun _ _ _ _ _ => pts_nil) (fun _ _ _ _ _ => pe_int))))
    (pss_cons (ps_for PassesOwn.never rfl (pi_enum (by rfl) T.nenumerate (pa_cons (pv 1) pa_nil)) (pg_tup (by rfl) (pgs_cons (pg_name (i := 3) scAdd.nd rfl (.inl rfl)) (pgs_cons (pg_name (i := 5) scAdd.nd rfl (.inl rfl)) pgs_nil)))
      (pss_one (ps_augS (pv 4) (pe_op op_add (pv 3) (pv 2)) get_list (pv 5) ip_add set_list)))
    (pss_one (ps_ret (pv 4)))), ?_⟩
  refine ⟨_, rfl, _, rfl, b2, _, rfl, .inl (SqL.of h2), _, rfl, _, _, rfl, rfl, _, rfl, b1, _, rfl, .inl (SqL.of h1), _, _, rfl, rfl, _, rfl, ?_, ?_, ?_⟩
  · show -(2 ^ 62) ≤ (((m.map vi).length : Nat) : Int) + (wo : Int) - (((f.map vi).length : Nat) : Int)
    rw [lf, lm]
    omega
  · show (((m.map vi).length : Nat) : Int) + (wo : Int) - (((f.map vi).length : Nat) : Int) < 2 ^ 62
    rw [lf, lm]
    omega
  intro D hD
  have ej : ((((m.map vi).length : Nat) : Int) + (wo : Int) - (((f.map vi).length : Nat) : Int)).toNat = m.length + wo - f.length := by
    rw [lf, lm]
    omega
  show ∃ W : Nat → Nat → Hp → Prop, _
  refine lc_range (lo := 0) (n := ((((m.map vi).length : Nat) : Int) + (wo : Int) - (((f.map vi).length : Nat) : Int)).toNat) (fun i H' => Same H H' ∧ H' D = some (.lst (List.replicate i (vi 0))))
    ⟨same_new hD _, upd_same⟩ ?_ ?_
  · rintro i H' hi ⟨s1, e1⟩
    rw [ej] at hi
    refine ⟨rfl, _, e1, (by rw [List.length_replicate]; exact size_ok (by omega)), same_upd s1 hD, ?_⟩
    rw [upd_same, List.replicate_succ']
    rfl
  rw [ej]
  rintro H' ⟨s1, e1⟩
  refine ⟨b1, D, _, _, rfl, rfl, s1 _ _ h1, e1, (by rw [lf, List.length_replicate]; exact Nat.le_of_lt (size_ok (by omega))), fun t ht => ?_⟩
  have s2 : Same H (upd H' t (.lst (f.map vi ++ List.replicate (m.length + wo - f.length) (vi 0)))) := s1.trans (same_new ht _)
  have ht0 : H t = none := s1.free ht
  have e2 : f.map vi ++ List.replicate (m.length + wo - f.length) (vi 0) = (part f m wo 0).map vi := by
    rw [← part_zero, List.map_append, List.map_replicate]
  refine ⟨_, rfl, b2, _, rfl, SqL.of (s2 _ _ h2), for_it (walk_enum (K := K) (a := b2) (xs := m.map vi)) (fun i σ H' => ∃ (v3 v5 : Option V), σ = [some (.ref b1), some (.ref b2), some (vi wo), v3, some (.ref t), v5] ∧ Same H H' ∧ H' t = some (.lst ((part f m wo i).map vi)))
    ⟨none, none, rfl, s2, by rw [upd_same, e2]⟩ (fun i σ H' _ ⟨_, _, _, s3, _⟩ => SqL.of (s3 _ _ h2)) ?_ ?_⟩
  · rintro i x σ H2 H3 hi ⟨v3, v5, rfl, s3, e3⟩ ⟨T1, x1, y1, rfl, hT, rfl, hx, hy⟩
    obtain ⟨n, hn, rfl⟩ := item_vi hy
    cases hx
    obtain ⟨p1, p2⟩ := part_step (f := f) (w := wo) hn
    have s4 : Same H (upd H2 T1 (.tup [.int ((i : Nat) : Int), vi n])) := s3.trans (same_new hT _)
    have e4 : upd H2 T1 (.tup [.int ((i : Nat) : Int), vi n]) t = some (.lst ((part f m wo i).map vi)) := same_new hT _ _ _ e3
    refine ⟨T1, _, rfl, SqT.of upd_same, rfl, _, _, rfl, _, _, rfl, rfl, ?_⟩
    refine ⟨_, rfl, _, rfl, _, rfl, _, _, rfl, rfl, t, _, _, _, rfl, rfl, SqL.of e4, at_vi p1, _, rfl, _, _, rfl, rfl, t, _, _, i + wo, rfl, rfl, e4, ?_, ?_⟩
    · show ixN ((part f m wo i).map vi).length (((i : Nat) : Int) + (wo : Int)) = some (i + wo)
      unfold ixN
      rw [if_pos (by omega), if_pos (by rw [List.length_map, part_length]; have := List.getElem?_eq_some_iff.mp hn; obtain ⟨z, _⟩ := this; omega)]
      exact congrArg some (by omega)
    · refine ⟨_, _, rfl, same_upd s4 ht0, ?_⟩
      rw [upd_same, ← p2, List.map_set]
      rfl
  · rintro σ H2 ⟨v3, v5, rfl, s3, e3⟩
    rw [lm, part_end] at e3
    exact ⟨_, rfl, q H2 t ht0 s3 e3⟩
theorem ok_Lea (T : Top K mg a) : FnOk P w K mg base CX0 1 (a.f 24) (a.d 24) ["numbers"] (spLea K) := by
  refine T.dLea.F.ok scLea (fun vs H Q E h => ?_) (fun cdv A outer s H vs Q E hr h => ?_)
  · obtain ⟨b, l, rfl, _⟩ := h
    rfl
  obtain ⟨b, l, rfl, hS, ⟨s0, hs⟩, q⟩ := h
  obtain ⟨h1, h2⟩ := least_ex hs
  have hlt := lt_of_C h1
  refine ⟨_, pss_cons (ps_set (i := 1) scLea.nd rfl (.inl rfl) pe_int)
    (pss_cons (ps_while PassesOwn.never (pt_cmp (pc_eqI (pe_ix ix_list (pv 0) (pv 1) (fun _ _ => rfl)) pe_int)) (pss_one (ps_aug (i := 1) scLea.nd rfl (.inl rfl) pe_int ip_add)))
    (pss_one (ps_ret (pv 1)))), ?_⟩
  refine while_by (fun σ H' => H' = H ∧ ∃ i : Nat, σ = [some (.ref b), some (vi i)] ∧ i ≤ least0 l) (fun σ _ => match σ with | [_, some (.int i)] => (least0 l : Nat) - i.toNat | _ => 0) ⟨rfl, 0, rfl, Nat.zero_le _⟩ ?_ ?_
  · rintro σ H' ⟨rfl, i, rfl, hi⟩
    have hil : i < l.length := by omega
    have eC : C l i = l[i] := by
      unfold C
      rw [List.getD_eq_getElem?_getD, List.getElem?_eq_getElem hil]
      rfl
    refine ⟨_, rfl, _, rfl, b, _, _, _, rfl, rfl, hS, at_vi (List.getElem?_eq_getElem hil), _, _, rfl, rfl, _, rfl, ?_⟩
    refine iteD (fun c => ?_) (fun c => ?_)
    · have c : C l i = 0 := by
        rw [eC]
        exact Int.ofNat.inj c
      have hne : i ≠ least0 l := fun z => h1 (by rw [← z]; exact c)
      refine ⟨_, rfl, _, _, rfl, rfl, ⟨rfl, i + 1, rfl, by omega⟩, ?_⟩
      show least0 l - ((i : Int) + 1).toNat < least0 l - ((i : Int)).toNat
      omega
    · have c : C l i ≠ 0 := fun z => c (by rw [← eC, z] <;> rfl)
      have e : i = least0 l := by
        rcases Nat.lt_or_ge i (least0 l) with d | d
        · exact absurd (h2 i d) c
        · omega
      refine ⟨_, rfl, ?_⟩
      rw [e]
      exact q
  · rintro σ H' Q1 Q2 hq ⟨v, e1, v2, e2, p, xs, k, z, r1, r2, r3, r4, i, j, r5, r6, c, r7, r8⟩
    exact ⟨v, e1, v2, e2, p, xs, k, z, r1, r2, r3, r4, i, j, r5, r6, c, r7, hq _ _ r8⟩
theorem ok_Mos (T : Top K mg a) : FnOk P w K mg base CX0 1 (a.f 25) (a.d 25) ["numbers"] (spMos K) := by
  refine T.dMos.F.ok scMos (fun vs H Q E h => ?_) (fun cdv A outer s H vs Q E hr h => ?_)
  · obtain ⟨b, l, rfl, _⟩ := h
    rfl
  obtain ⟨b, l, rfl, hS, ⟨s0, hs⟩, q⟩ := h
  obtain ⟨h1, h2⟩ := most_ex hs
  have hlt := lt_of_C h1
  have ll : (l.map vi).length = l.length := List.length_map _
  refine ⟨_, pss_cons (ps_set (i := 1) scMos.nd rfl (.inl rfl) (pe_op op_sub (pe_callB call_len_seq rfl T.nlen PySem.boot_len (pa_cons (pv 0) pa_nil)) pe_int))
    (pss_cons (ps_while PassesOwn.never (pt_cmp (pc_eqI (pe_ix ix_list (pv 0) (pv 1) (fun _ _ => rfl)) pe_int)) (pss_one (ps_aug (i := 1) scMos.nd rfl (.inl rfl) pe_int ip_sub)))
    (pss_one (ps_ret (pv 1)))), ?_⟩
  refine ⟨_, rfl, b, _, rfl, .inl hS, _, _, rfl, rfl, ?_⟩
  have e0 : ((((l.map vi).length : Nat) : Int) - 1) = ((l.length - 1 : Nat) : Int) := by
    rw [ll]
    omega
  show tSeq _ _ _ ([some (.ref b), some (.int ((((l.map vi).length : Nat) : Int) - 1))] : L2.St) H
  rw [e0]
  refine while_by (fun σ H' => H' = H ∧ ∃ i : Nat, σ = [some (.ref b), some (vi i)] ∧ most0 l ≤ i ∧ i < l.length) (fun σ _ => match σ with | [_, some (.int i)] => i.toNat | _ => 0) ⟨rfl, l.length - 1, rfl, by omega, by omega⟩ ?_ ?_
  · rintro σ H' ⟨rfl, i, rfl, hi, hil⟩
    have eC : C l i = l[i] := by
      unfold C
      rw [List.getD_eq_getElem?_getD, List.getElem?_eq_getElem hil]
      rfl
    refine ⟨_, rfl, _, rfl, b, _, _, _, rfl, rfl, hS, at_vi (List.getElem?_eq_getElem hil), _, _, rfl, rfl, _, rfl, ?_⟩
    refine iteD (fun c => ?_) (fun c => ?_)
    · have c : C l i = 0 := by
        rw [eC]
        exact Int.ofNat.inj c
      have hne : i ≠ most0 l := fun z => h1 (by rw [← z]; exact c)
      have e : ((i : Int) - 1) = ((i - 1 : Nat) : Int) := by omega
      refine ⟨_, rfl, _, _, rfl, rfl, ⟨rfl, i - 1, ?_, by omega, by omega⟩, ?_⟩
      · show [some (V.ref b), some (.int ((i : Int) - 1))] = _
        rw [e]
        rfl
      · show ((i : Int) - 1).toNat < ((i : Int)).toNat
        omega
    · have c : C l i ≠ 0 := fun z => c (by rw [← eC, z] <;> rfl)
      have e : i = most0 l := by
        rcases Nat.lt_or_ge (most0 l) i with d | d
        · exact absurd (h2 i d) c
        · omega
      refine ⟨_, rfl, ?_⟩
      rw [e]
      exact q
  · rintro σ H' Q1 Q2 hq ⟨v, e1, v2, e2, p, xs, k, z, r1, r2, r3, r4, i, j, r5, r6, c, r7, r8⟩
    exact ⟨v, e1, v2, e2, p, xs, k, z, r1, r2, r3, r4, i, j, r5, r6, c, r7, hq _ _ r8⟩
theorem ok_Wto (T : Top K mg a) : FnOk P w K mg base CX0 1 (a.f 26) (a.d 26) ["numbers", "worth"] (spWto K) := by
  refine T.dWto.F.ok scWto (fun vs H Q E h => ?_) (fun cdv A outer s H vs Q E hr h => ?_)
  · obtain ⟨b, l, z, rfl, _⟩ := h
    rfl
  obtain ⟨b, l, z, rfl, hS, q⟩ := h
  have ll : (l.map vi).length = l.length := List.length_map _
  refine ⟨_, pss_cons (ps_if (PW.pt (pw_or (pt_cmp (pc_lt (pv 1) pe_int)) (pw_or1 (pt_cmp (pc_ge (pv 1) (pe_callB call_len_seq rfl T.nlen PySem.boot_len (pa_cons (pv 0) pa_nil))))))) (pss_one (ps_ret pe_int)) pss_nil)
    (pss_one (ps_ret (pe_ix ix_list (pv 0) (pv 1) (fun _ _ => rfl)))), ?_⟩
  refine ⟨_, rfl, _, _, rfl, rfl, _, rfl, ?_⟩
  refine iteD (fun c => iteT ?_) (fun c => ?_)
  · have e : wt l z = 0 := if_pos (.inl c)
    rw [e] at q
    exact q
  refine ⟨_, rfl, _, rfl, b, _, rfl, .inl hS, _, _, rfl, rfl, _, rfl, ?_⟩
  rw [ll]
  refine iteD (fun c2 => ?_) (fun c2 => ?_)
  · have e : wt l z = 0 := if_pos (.inr c2)
    rw [e] at q
    exact q
  · have hz : z.toNat < l.length := by omega
    have ez : z = ((z.toNat : Nat) : Int) := by omega
    have e : wt l z = l[z.toNat] := by
      unfold wt
      rw [if_neg (by omega)]
      unfold C
      rw [List.getD_eq_getElem?_getD, List.getElem?_eq_getElem hz]
      rfl
    rw [e] at q
    exact ⟨_, rfl, _, rfl, b, _, _, _, rfl, rfl, hS, at_of ez (by rw [List.getElem?_map, List.getElem?_eq_getElem hz] <;> rfl), q⟩
end
end Pin

/-! The walk: the ways from a place, kept in a dict (worked_out, ways_from call each other). -/
namespace Pin
open PySem PySem.Spec PyProof.Rows L2
/-! ### the dict's keys -/
def keyP (p : Pl) : List L2.Key := [.inl p.fr, .inl p.lf, .inl p.rd, .inl p.mo, .inl p.fu, .inl p.th]
theorem keyP_kV (p : Pl) : (keyP p).map kV = vP p := rfl
theorem keyP_inj {p q : Pl} (h : keyP p = keyP q) : p = q := by
  obtain ⟨a1, a2, a3, a4, a5, a6⟩ := p
  obtain ⟨b1, b2, b3, b4, b5, b6⟩ := q
  unfold keyP at h
  injection h with h1 h
  injection h with h2 h
  injection h with h3 h
  injection h with h4 h
  injection h with h5 h
  injection h with h6 h
  have e1 : a1 = b1 := Int.ofNat.inj (Sum.inl.inj h1)
  have e2 : a2 = b2 := Int.ofNat.inj (Sum.inl.inj h2)
  have e3 : a3 = b3 := Int.ofNat.inj (Sum.inl.inj h3)
  have e4 : a4 = b4 := Int.ofNat.inj (Sum.inl.inj h4)
  have e5 : a5 = b5 := Int.ofNat.inj (Sum.inl.inj h5)
  have e6 : a6 = b6 := Int.ofNat.inj (Sum.inl.inj h6)
  subst e1 e2 e3 e4 e5 e6
  rfl
/-- a number for each place -/
def codeP (p : Pl) : Nat := ((((p.fr * 11 + p.lf) * 3 + p.rd) * 3 + p.mo) * 2 + p.fu) * 2 + p.th
theorem codeP_lt {p : Pl} (g : Good p) : codeP p < 3960 := by
  obtain ⟨h1, h2, h3, _, h5, h6, h7⟩ := g
  unfold codeP
  omega
theorem codeP_inj {p q : Pl} (g : Good p) (g' : Good q) (h : codeP p = codeP q) : p = q := by
  obtain ⟨h1, h2, h3, _, h5, h6, h7⟩ := g
  obtain ⟨k1, k2, k3, _, k5, k6, k7⟩ := g'
  obtain ⟨a1, a2, a3, a4, a5, a6⟩ := p
  obtain ⟨b1, b2, b3, b4, b5, b6⟩ := q
  unfold codeP at h
  simp only at h h1 h2 h3 h5 h6 h7 k1 k2 k3 k5 k6 k7
  have e6 : a6 = b6 := by omega
  have e5 : a5 = b5 := by omega
  have e4 : a4 = b4 := by omega
  have e3 : a3 = b3 := by omega
  have e2 : a2 = b2 := by omega
  have e1 : a1 = b1 := by omega
  subst e1 e2 e3 e4 e5 e6
  rfl
theorem holes : ∀ (N : Nat) (l : List Nat), l.Nodup → (∀ x ∈ l, x < N) → l.length ≤ N
  | 0, [], _, _ => Nat.le_refl _
  | 0, x :: r, _, h => absurd (h x (List.mem_cons_self ..)) (Nat.not_lt_zero _)
  | N + 1, l, hn, h => by
    have ih := holes N (l.erase N) (hn.erase N) fun x m => by
      have h1 := h x (List.mem_of_mem_erase m)
      have h2 : x ≠ N := fun e => by
        rw [e] at m
        exact (hn.not_mem_erase) m
      omega
    by_cases c : N ∈ l
    · rw [List.length_erase_of_mem c] at ih
      omega
    · rw [List.erase_of_not_mem c] at ih
      omega
/-- the dict holds places and the lists of their ways; none of these is the list at pf (the one that answers fills) -/
def CacheOk (pf : Addr) (H : Hp) (kvs : List (List L2.Key × V)) : Prop := (kvs.map (·.1)).Nodup ∧ ∀ kv ∈ kvs, ∃ p b, Good p ∧ kv = (keyP p, V.ref b) ∧ H b = some (.lst ((W p).map vi)) ∧ b ≠ pf
def CacheAt (a : Ad) (pf : Addr) (H : Hp) (wa d : Addr) : Prop := (∃ dx, H wa = some (.ins a.cW dx [("known", .ref d)])) ∧ ∃ kvs, H d = some (.dT kvs) ∧ CacheOk pf H kvs
/-- all but the dicts is as it was -/
def Kd (H H' : Hp) : Prop := ∀ b o, H b = some o → (∀ kvs, o ≠ .dT kvs) → H' b = some o
theorem Kd.refl (H : Hp) : Kd H H := fun _ _ h _ => h
theorem Kd.trans {H H1 H2 : Hp} (a : Kd H H1) (b : Kd H1 H2) : Kd H H2 := fun c o h n => b c o (a c o h n) n
theorem kd_of {H H' : Hp} (s : Same H H') : Kd H H' := fun b o h _ => s b o h
theorem Kd.lst {H H' : Hp} (k : Kd H H') {b : Addr} {xs : List V} (h : H b = some (.lst xs)) : H' b = some (.lst xs) := k _ _ h fun _ => by intro z; cases z
theorem Kd.sqT {K : PySem.W.Frag} {H H' : Hp} {b : Addr} {xs : List V} (k : Kd H H') (h : SqT K H b xs) : SqT K H' b xs := by
  rcases h with (h | ⟨o, h⟩) | h
  · exact .inl (.inl (k _ _ h fun _ => by intro z; cases z))
  · exact .inl (.inr ⟨o, k _ _ h fun _ => by intro z; cases z⟩)
  · exact .inr h
theorem Kd.sqL {K : PySem.W.Frag} {H H' : Hp} {b : Addr} {xs : List V} (k : Kd H H') (h : SqL K H b xs) : SqL K H' b xs := by
  rcases h with (h | ⟨o, h⟩) | h
  · exact .inl (.inl (k _ _ h fun _ => by intro z; cases z))
  · exact .inl (.inr ⟨o, k _ _ h fun _ => by intro z; cases z⟩)
  · exact .inr h
theorem CacheOk.kd {pf : Addr} {H H' : Hp} {kvs : List (List L2.Key × V)} (c : CacheOk pf H kvs) (k : Kd H H') : CacheOk pf H' kvs :=
  ⟨c.1, fun kv m => let ⟨p, b, g, e, h, n⟩ := c.2 kv m; ⟨p, b, g, e, k.lst h, n⟩⟩
theorem CacheAt.same {a : Ad} {pf : Addr} {H H' : Hp} {wa d : Addr} (c : CacheAt a pf H wa d) (s : Same H H') : CacheAt a pf H' wa d := by
  obtain ⟨⟨dx, h1⟩, kvs, h2, h3⟩ := c
  exact ⟨⟨dx, s _ _ h1⟩, kvs, s _ _ h2, h3.kd (kd_of s)⟩
theorem CacheOk.size {pf : Addr} {H : Hp} {kvs : List (List L2.Key × V)} (c : CacheOk pf H kvs) : kvs.length ≤ 3960 := by
  have key : ∀ l : List (List L2.Key × V), (∀ kv ∈ l, ∃ p b, Good p ∧ kv = (keyP p, V.ref b) ∧ H b = some (.lst ((W p).map vi)) ∧ b ≠ pf) → ∃ ps : List Pl, l.map (·.1) = ps.map keyP ∧ ∀ p ∈ ps, Good p := by
    intro l
    induction l with
    | nil => exact fun _ => ⟨[], rfl, fun p m => nomatch m⟩
    | cons x r ih =>
      intro h
      obtain ⟨ps, e, g⟩ := ih fun kv m => h kv (List.mem_cons_of_mem _ m)
      obtain ⟨p, b, gp, rfl, _⟩ := h x (List.mem_cons_self ..)
      refine ⟨p :: ps, by rw [List.map_cons, List.map_cons, e], fun q m => ?_⟩
      rcases List.mem_cons.mp m with rfl | m
      · exact gp
      · exact g q m
  obtain ⟨ps, e, g⟩ := key kvs c.2
  have hn := c.1
  rw [e] at hn
  have h1 : kvs.length = ps.length := by
    have := congrArg List.length e
    rw [List.length_map, List.length_map] at this
    exact this
  have h2 : (ps.map codeP).Nodup := by
    have h3 : ps.Pairwise (fun p q => keyP p ≠ keyP q) := List.pairwise_map.mp hn
    refine List.pairwise_map.mpr (h3.imp_of_mem fun {p q} mp mq ne z => ne ?_)
    rw [codeP_inj (g p mp) (g q mq) z]
  have h3 := holes 3960 _ h2 fun x m => by
    obtain ⟨p, mp, rfl⟩ := List.mem_map.mp m
    exact codeP_lt (g p mp)
  rw [List.length_map] at h3
  omega
theorem valV_mem {kvs : List (List L2.Key × V)} {k : List L2.Key} {v : V} (h : valV kvs k = some v) : (k, v) ∈ kvs := by
  unfold valV at h
  cases e : kvs.find? fun kv => decide (kv.1 = k) with
  | none =>
    rw [e] at h
    cases h
  | some kv =>
    rw [e] at h
    have h1 := List.find?_some e
    have h2 := List.mem_of_find?_eq_some e
    have h3 : kv.1 = k := of_decide_eq_true h1
    have h4 : kv.2 = v := Option.some.inj h
    obtain ⟨x, y⟩ := kv
    subst h3 h4
    exact h2
theorem CacheOk.got {pf : Addr} {H : Hp} {kvs : List (List L2.Key × V)} (c : CacheOk pf H kvs) {p : Pl} {v : V} (h : valV kvs (keyP p) = some v) : ∃ b, v = .ref b ∧ H b = some (.lst ((W p).map vi)) ∧ b ≠ pf := by
  obtain ⟨q, b, _, e, hb⟩ := c.2 _ (valV_mem h)
  have e1 : keyP p = keyP q := (Prod.mk.inj e).1
  have e2 : v = .ref b := (Prod.mk.inj e).2
  have e3 := keyP_inj e1
  subst e3
  exact ⟨b, e2, hb⟩
theorem CacheOk.put {pf : Addr} {H : Hp} {kvs : List (List L2.Key × V)} (c : CacheOk pf H kvs) {p : Pl} {b : Addr} (g : Good p) (h : H b = some (.lst ((W p).map vi)) ∧ b ≠ pf) : CacheOk pf H (putK kvs (keyP p) (.ref b)) := by
  cases e : valV kvs (keyP p) with
  | none =>
    rw [putK_new _ e]
    refine ⟨?_, fun kv m => ?_⟩
    · have := nd_putK (V.ref b) c.1 e
      rw [putK_new _ e] at this
      exact this
    · rcases List.mem_append.mp m with m | m
      · exact c.2 kv m
      · exact ⟨p, b, g, List.mem_singleton.mp m, h⟩
  | some v =>
    have ea : (kvs.any fun kv => decide (kv.1 = keyP p)) = true := by
      rw [valV_any, e]
      rfl
    have ep : putK kvs (keyP p) (.ref b) = kvs.map fun kv => if kv.1 = keyP p then (kv.1, V.ref b) else kv := by
      unfold putK
      rw [if_pos ea]
    rw [ep]
    refine ⟨?_, fun kv m => ?_⟩
    · have e1 : (kvs.map fun kv => if kv.1 = keyP p then (kv.1, V.ref b) else kv).map (·.1) = kvs.map (·.1) := by
        rw [List.map_map]
        refine List.map_congr_left fun kv _ => ?_
        show (if kv.1 = keyP p then (kv.1, V.ref b) else kv).1 = kv.1
        split <;> rfl
      rw [e1]
      exact c.1
    · obtain ⟨kv0, m0, rfl⟩ := List.mem_map.mp m
      show ∃ p' b', Good p' ∧ (if kv0.1 = keyP p then (kv0.1, V.ref b) else kv0) = (keyP p', V.ref b') ∧ _
      by_cases d : kv0.1 = keyP p
      · rw [if_pos d, d]
        exact ⟨p, b, g, rfl, h⟩
      · rw [if_neg d]
        exact c.2 kv0 m0
end Pin

/-! The walk: worked_out and ways_from call each other; a contract for d rolls to come. -/
namespace Pin
open PySem PySem.Spec PyProof.Rows L2
def spWor (K : PySem.W.Frag) (a : Ad) (d : Nat) : Sp := fun vs H Q _ => ∃ (wa b dd pf : Addr) (p : Pl) (xs : List V), vs = [.ref wa, .ref b] ∧ Good p ∧ left p ≤ d ∧ SqT K H b (vP p) ∧ H pf = some (.lst xs) ∧ CacheAt a pf H wa dd ∧
  ∀ H' r, r ≠ pf → Kd H H' → CacheAt a pf H' wa dd → H' r = some (.lst ((W p).map vi)) → Q (.ref r) H'
def spWay (K : PySem.W.Frag) (a : Ad) (d : Nat) : Sp := fun vs H Q _ => ∃ (wa b dd pf : Addr) (p : Pl) (xs : List V), vs = [.ref wa, .ref b] ∧ Ok p ∧ left p ≤ d ∧ PlAt K H b p ∧ H pf = some (.lst xs) ∧ CacheAt a pf H wa dd ∧
  ∀ H' r, r ≠ pf → Kd H H' → CacheAt a pf H' wa dd → H' r = some (.lst ((W p).map vi)) → Q (.ref r) H'
theorem part_len {p : Pl} (g : Good p) {i : Nat} (h : i ≤ p.lf + 1) : ((List.range i).foldl (wstep p) []).length ≤ 1000 := by
  refine length_fold _ _ (Nat.zero_le _) fun n m => ?_
  have hn := List.mem_range.mp m
  have h1 := W_len (ok_behind g n)
  have h2 := cnt_le g (n := n) (by omega)
  omega
section
variable {P : Program} {w : World} {K : PySem.W.Frag} {mg : Str → Option Value} {base : Heap} {a : Ad}
theorem ok_Wor (T : Top K mg a) {d n : Nat} (h3 : 3 ≤ n) (G : FnOk P w K mg base CX0 n (a.f 23) (a.d 23) ["ways", "place"] (spWay K a d)) : FnOk P w K mg base CX0 (n + 1) (a.f 22) (a.d 22) ["ways", "place"] (spWor K a (d + 1)) := by
  refine T.dWor.F.ok scWor (fun vs H Q E h => ?_) (fun cdv A outer s H vs Q E hr h => ?_)
  · obtain ⟨wa, b, dd, pf, p, xs, rfl, _⟩ := h
    rfl
  obtain ⟨wa, b, dd, pf, p, xs, rfl, g, hd, hS, hF, hC, q⟩ := h
  have G1 := ok_Beh (P := P) (w := w) (base := base) T
  have G2 := ok_Cnt (P := P) (w := w) (base := base) T
  have G3 := ok_Add (P := P) (w := w) (base := base) T
  have hr3 : Room 3 _ := hr.mono h3
  have hr1 : Room 1 _ := hr.mono (Nat.le_trans (by decide) h3)
  refine ⟨_, pss_cons (ps_set (i := 2) scWor.nd rfl (.inl rfl) (pe_lst pa_nil))
    (pss_cons (ps_for PassesOwn.never rfl (pi_range1 rfl T.nrange (pa_cons (pe_op op_add (pe_ix ix_tup (pv 1) pe_int (fun _ _ => rfl)) pe_int) pa_nil)) (pg_name (i := 3) scWor.nd rfl (.inl rfl))
      (pss_one (ps_set (i := 2) scWor.nd rfl (.inl rfl) (pe_call G3 hr1 rfl T.gAdd T.dAdd.F.kp T.dAdd.b .nil pass0 (pa_cons (pv 2)
        (pa_cons (pe_call G hr rfl T.gWay T.dWay.F.kp T.dWay.b .nil pass0 (pa_cons (pv 0) (pa_cons (pe_call G1 hr3 rfl T.gBeh T.dBeh.F.kp T.dBeh.b .nil pass0 (pa_cons (pv 1) (pa_cons (pv 3) pa_nil))) pa_nil)))
        (pa_cons (pe_op op_mul (pe_call G2 hr1 rfl T.gCnt T.dCnt.F.kp T.dCnt.b .nil pass0 (pa_cons (pv 1) pa_nil)) (pv 3)) pa_nil)))))))
    (pss_one (ps_ret (pv 2)))), ?_⟩
  refine ⟨small (by show 0 ≤ 1000; decide), fun l0 hl0 => ?_⟩
  have s0 := same_new hl0 (.lst [])
  have hlf := g.lf
  refine ⟨_, rfl, b, _, 1, vi p.lf, rfl, rfl, same_sqT s0 hS, rfl, _, _, rfl, rfl, _, rfl, ?_, ?_, ?_⟩
  · show -(2 ^ 62) ≤ (p.lf : Int) + 1
    omega
  · show (p.lf : Int) + 1 < 2 ^ 62
    omega
  have en : ((p.lf : Int) + 1).toNat = p.lf + 1 := by omega
  show ∃ Wx : Nat → Nat → L2.St → Hp → Prop, _
  refine for_range (lo := 0) (n := ((p.lf : Int) + 1).toNat) (fun i σ H' => ∃ (r : Addr) (v3 : Option V), σ = [some (.ref wa), some (.ref b), some (.ref r), v3] ∧ Kd H H' ∧ CacheAt a pf H' wa dd ∧ r ≠ pf ∧
      H' r = some (.lst (((List.range i).foldl (wstep p) []).map vi)))
    ⟨l0, none, rfl, kd_of s0, hC.same s0, (ne_of_none hF hl0).symm, upd_same⟩ ?_ ?_
  · rintro i σ H' hi ⟨r, v3, rfl, k1, c1, nf, e1⟩
    rw [en] at hi
    rw [Int.zero_add]
    have hm := g.mo
    refine ⟨_, rfl, _, rfl, _, rfl, _, rfl, b, p, i, rfl, k1.sqT hS, by omega, fun H2 r2 s2 p2 => ?_⟩
    have hlt := left_behind g i
    refine ⟨wa, r2, dd, pf, behind p i, xs, rfl, ok_behind g i, by omega, p2, s2 _ _ (k1.lst hF), c1.same s2, fun H4 r4 _ k4 c4 e4 => ?_⟩
    have k14 : Kd H H4 := (k1.trans (kd_of s2)).trans k4
    refine ⟨_, rfl, b, p, rfl, k14.sqT hS, _, rfl, _, _, rfl, rfl, .inl ⟨?_, ?_⟩, ?_⟩
    · show -(2 ^ 64) < ((cnt p : Nat) : Int)
      unfold cnt
      omega
    · show ((cnt p : Nat) : Int) < 2 ^ 64
      unfold cnt
      omega
    have h5 := cnt_le g (n := i) (by omega)
    have e2 : H4 r = some (.lst (((List.range i).foldl (wstep p) []).map vi)) := k4.lst (s2 _ _ e1)
    refine ⟨r, r4, _, W (behind p i), cnt p * i, ?_, e2, e4, Nat.le_trans (part_len g (by omega)) (by decide), Nat.le_trans (W_len (ok_behind g i)) (by decide), by omega, fun H5 r5 n5 s5 e5 => ?_⟩
    · show [V.ref r, .ref r4, .int (((cnt p : Nat) : Int) * (i : Int))] = [V.ref r, .ref r4, vi (cnt p * i)]
      rw [show (((cnt p : Nat) : Int) * (i : Int)) = ((cnt p * i : Nat) : Int) by omega]
      rfl
    refine ⟨r5, some (vi i), rfl, k14.trans (kd_of s5), c4.same s5, (ne_of_none (k14.lst hF) n5).symm, ?_⟩
    rw [e5, List.range_succ, List.foldl_append]
    rfl
  · rintro σ H' ⟨r, v3, rfl, k1, c1, nf, e1⟩
    rw [en, ← W_good g] at e1
    exact ⟨_, rfl, q H' r nf k1 c1 e1⟩
theorem ok_Way (T : Top K mg a) {d n : Nat} (h1 : 1 ≤ n) (G : FnOk P w K mg base CX0 n (a.f 22) (a.d 22) ["ways", "place"] (spWor K a d)) : FnOk P w K mg base CX0 (n + 1) (a.f 23) (a.d 23) ["ways", "place"] (spWay K a d) := by
  refine T.dWay.F.ok scWay (fun vs H Q E h => ?_) (fun cdv A outer s H vs Q E hr h => ?_)
  · obtain ⟨wa, b, dd, pf, p, xs, rfl, _⟩ := h
    rfl
  obtain ⟨wa, b, dd, pf, p, xs, rfl, ok, hd, hS, hF, hC, q⟩ := h
  have G1 := ok_IsO (P := P) (w := w) (base := base) T
  have hr1 : Room 1 _ := hr.mono h1
  have hu := hu_of hr
  refine ⟨_, pss_cons (ps_if (pt_val (pe_call G1 hr1 rfl T.gIsO T.dIsO.F.kp T.dIsO.b .nil pass0 (pa_cons (pv 1) pa_nil))) (pss_one (ps_ret (pe_lst (pa_cons pe_int pa_nil)))) pss_nil)
    (pss_cons (ps_if (pt_cmp (pc_dnotin hu (pv 1) (pe_fld (pv 0) rfl))) (pss_one (ps_dput hu (pe_fld (pv 0) rfl) (pv 1) (pe_call G hr rfl T.gWor T.dWor.F.kp T.dWor.b .nil pass0 (pa_cons (pv 0) (pa_cons (pv 1) pa_nil))) rfl)) pss_nil)
    (pss_one (ps_ret (pe_dget hu (pe_fld (pv 0) rfl) (pv 1) (fun _ _ => rfl))))), ?_⟩
  refine ⟨_, rfl, b, p, rfl, hS.1, _, rfl, ?_⟩
  refine iteD (fun c => ?_) (fun c => ?_)
  · refine ⟨small (by show 1 ≤ 1000; decide), fun r hr' => ?_⟩
    have s1 := same_new hr' (.lst [.int 1])
    refine q _ r (ne_of_none hF hr').symm (kd_of s1) (hC.same s1) ?_
    rw [upd_same, c, W_over]
    rfl
  have g := ok.good c
  have hb := hS.2 c
  obtain ⟨⟨dx, hW⟩, kvs, hD, hK⟩ := hC
  have nt : ∀ {H2 : Hp}, Kd H H2 → H2 b = some (.tup (vP p)) := fun k => k _ _ hb fun _ => by intro z; cases z
  have nW : ∀ {H2 : Hp}, Kd H H2 → H2 wa = some (.ins a.cW dx [("known", .ref dd)]) := fun k => k _ _ hW fun _ => by intro z; cases z
  refine ⟨_, rfl, _, rfl, wa, a.cW, dx, _, _, rfl, hW, T.clW, T.nKnown, rfl, dd, _, rfl, DGet.t (k := keyP p) hD hb, _, rfl, ?_⟩
  cases e : valV kvs (keyP p) with
  | some v =>
    refine iteF ?_
    obtain ⟨r, rfl, hr', nf⟩ := hK.got e
    refine ⟨_, rfl, wa, a.cW, dx, _, _, rfl, hW, T.clW, T.nKnown, rfl, _, rfl, dd, _, rfl, (by rw [← e]; exact DGet.t (k := keyP p) hD hb), ?_⟩
    exact q H r nf (Kd.refl _) ⟨⟨dx, hW⟩, kvs, hD, hK⟩ hr'
  | none =>
    refine iteT ?_
    refine ⟨_, rfl, _, rfl, wa, b, dd, pf, p, xs, rfl, g, hd, hS.1, hF, ⟨⟨dx, hW⟩, kvs, hD, hK⟩, fun H2 r nf k2 c2 e2 => ?_⟩
    obtain ⟨_, kvs2, hD2, hK2⟩ := c2
    refine ⟨_, rfl, wa, a.cW, dx, _, _, rfl, nW k2, T.clW, T.nKnown, rfl, _, rfl, dd, _, rfl, DPut.t (k := keyP p) hD2 (nt k2) (Nat.lt_of_le_of_lt hK2.size (by decide)), ?_⟩
    have k3 : Kd H2 (upd H2 dd (.dT (putK kvs2 (keyP p) (.ref r)))) := fun c o h n => by
      rw [upd_ne (fun z => by
        subst z
        rw [hD2] at h
        exact n kvs2 (Option.some.inj h).symm)]
      exact h
    have k23 := k2.trans k3
    have hD3 : upd H2 dd (.dT (putK kvs2 (keyP p) (.ref r))) dd = some (.dT (putK kvs2 (keyP p) (.ref r))) := upd_same
    have e3 : valV (putK kvs2 (keyP p) (.ref r)) (keyP p) = some (V.ref r) := by
      rw [valV_put, if_pos rfl]
    refine ⟨_, rfl, wa, a.cW, dx, _, _, rfl, nW k23, T.clW, T.nKnown, rfl, _, rfl, dd, _, rfl, (by rw [← e3]; exact DGet.t (k := keyP p) hD3 (nt k23)), ?_⟩
    exact q _ r nf k23 ⟨⟨dx, nW k23⟩, _, hD3, (hK2.put g ⟨e2, nf⟩).kd k3⟩ (k3.lst e2)
theorem wor_none {f : Addr} {fd : FuncData} {k : Nat} : FnOk P w K mg base CX0 k f fd ["ways", "place"] (spWor K a 0) := by
  have no : ∀ vs H Q E, ¬ spWor K a 0 vs H Q E := fun vs H Q E h => by
    obtain ⟨wa, b, dd, pf, p, xs, _, g, hd, _⟩ := h
    have := left_pos g
    omega
  exact ⟨fun vs H Q E h => absurd h (no vs H Q E), fun A outer s H args us vs Q E _ _ _ _ h => absurd h (no vs H Q E)⟩
/-- the contract of ways_from, for d rolls to come: 2 d + 4 calls, one in another -/
theorem ok_ways (T : Top K mg a) : ∀ d : Nat, FnOk P w K mg base CX0 (2 * d + 4) (a.f 23) (a.d 23) ["ways", "place"] (spWay K a d)
  | 0 => ok_Way (n := 3) T (by decide) wor_none
  | d + 1 => ok_Way (n := 2 * d + 5) T (by omega) (ok_Wor (n := 2 * d + 4) T (by omega) (ok_ways T d))
/-- any place of a game -/
theorem ok_Wfr (T : Top K mg a) : FnOk P w K mg base CX0 46 (a.f 23) (a.d 23) ["ways", "place"] (spWay K a 21) := ok_ways T 21
end
end Pin

/-! The walk: the game and its calls (pinframes.desk). -/
namespace Pin
open PySem PySem.Spec PyProof.Rows L2
open Kyp1 (Call)
/-! ### the game as it lies in the heap -/
def gF (rl wa : Addr) : List (Str × V) := [("rolls", .ref rl), ("ways", .ref wa)]
def GameAt (a : Ad) (pf : Addr) (H : Hp) (g wa dd : Addr) (l : List Nat) : Prop := (∃ dx rl, H g = some (.ins a.cG dx (gF rl wa)) ∧ H rl = some (.lst (l.map vi)) ∧ rl ≠ pf) ∧ CacheAt a pf H wa dd ∧ legal beg l
/-- all but instances and dicts is as it was -/
def Kg (H H' : Hp) : Prop := ∀ b o, H b = some o → (∀ C dx fs, o ≠ .ins C dx fs) → (∀ kvs, o ≠ .dT kvs) → H' b = some o
theorem Kg.refl (H : Hp) : Kg H H := fun _ _ h _ _ => h
theorem Kg.trans {H H1 H2 : Hp} (a : Kg H H1) (b : Kg H1 H2) : Kg H H2 := fun c o h n m => b c o (a c o h n m) n m
theorem kg_kd {H H' : Hp} (k : Kd H H') : Kg H H' := fun b o h _ m => k b o h m
theorem kg_same {H H' : Hp} (k : Same H H') : Kg H H' := fun b o h _ _ => k b o h
theorem kg_upd {H : Hp} {g : Addr} {o : HO} {C dx : Addr} {fs : List (Str × V)} (h : H g = some (.ins C dx fs)) : Kg H (upd H g o) := fun b u e n _ => by
  rw [upd_ne (fun z => by
    subst z
    rw [h] at e
    exact n C dx fs (Option.some.inj e).symm)]
  exact e
theorem Kg.lst {H H' : Hp} (k : Kg H H') {b : Addr} {xs : List V} (h : H b = some (.lst xs)) : H' b = some (.lst xs) := k _ _ h (fun _ _ _ => by intro z; cases z) fun _ => by intro z; cases z
theorem Kg.sqL {K : PySem.W.Frag} {H H' : Hp} {b : Addr} {xs : List V} (k : Kg H H') (h : SqL K H b xs) : SqL K H' b xs := by
  rcases h with (h | ⟨o, h⟩) | h
  · exact .inl (.inl (k.lst h))
  · exact .inl (.inr ⟨o, k _ _ h (fun _ _ _ => by intro z; cases z) fun _ => by intro z; cases z⟩)
  · exact .inr h
theorem GameAt.same {a : Ad} {pf : Addr} {H H' : Hp} {g wa dd : Addr} {l : List Nat} (G : GameAt a pf H g wa dd l) (s : Same H H') : GameAt a pf H' g wa dd l := by
  obtain ⟨⟨dx, rl, h1, h2, nf⟩, c, hl⟩ := G
  exact ⟨⟨dx, rl, s _ _ h1, s _ _ h2, nf⟩, c.same s, hl⟩
theorem GameAt.kd {a : Ad} {pf : Addr} {H H' : Hp} {g wa dd : Addr} {l : List Nat} (G : GameAt a pf H g wa dd l) (k : Kd H H') (c' : CacheAt a pf H' wa dd) : GameAt a pf H' g wa dd l := by
  obtain ⟨⟨dx, rl, h1, h2, nf⟩, c, hl⟩ := G
  exact ⟨⟨dx, rl, k _ _ h1 (fun _ => by intro z; cases z), k.lst h2, nf⟩, c', hl⟩
/-- the rolls are another list now -/
theorem GameAt.put {a : Ad} {pf : Addr} {H : Hp} {g wa dd dx rl rl' : Addr} {l l' : List Nat} (h1 : H g = some (.ins a.cG dx (gF rl wa))) (c : CacheAt a pf H wa dd) (h2 : H rl' = some (.lst (l'.map vi))) (nf : rl' ≠ pf) (hl : legal beg l') :
    GameAt a pf (upd H g (.ins a.cG dx (gF rl' wa))) g wa dd l' := by
  obtain ⟨⟨dxw, hw⟩, kvs, hd, ho⟩ := c
  have n1 : rl' ≠ g := ne_of h2 h1 (by intro z; cases z)
  have n2 : wa ≠ g := ne_of hw h1 (by
    intro z
    have z2 := (HO.ins.inj z).2.2
    cases z2)
  have n3 : dd ≠ g := ne_of hd h1 (by intro z; cases z)
  refine ⟨⟨dx, rl', upd_same, by rw [upd_ne n1]; exact h2, nf⟩, ⟨⟨dxw, by rw [upd_ne n2]; exact hw⟩, kvs, by rw [upd_ne n3]; exact hd, ho.1, fun kv m => ?_⟩, hl⟩
  obtain ⟨p, b, gp, e, hb, nb⟩ := ho.2 kv m
  refine ⟨p, b, gp, e, ?_, nb⟩
  rw [upd_ne (ne_of hb h1 (by intro z; cases z))]
  exact hb
/-! ### promises -/
def argsOf : Call → List Int
  | .roll n => [(n : Int)]
  | .frame k => [(k : Int)]
  | .ways s => [(s : Int)]
  | _ => []
theorem off {H : Hp} {pf r : Addr} {xs : List V} (h : H pf = some (.lst xs)) (n : H r = none) : r ≠ pf := (ne_of_none h n).symm
/-- a call of the desk: what it answers, what stands behind it -/
def spOf (a : Ad) (c : Call) : Sp := fun vs H Q _ => ∃ (g nl wa dd pf : Addr) (l : List Nat) (xs : List V), vs = [.ref g, .ref nl] ∧ H nl = some (.lst ((argsOf c).map V.int)) ∧ H pf = some (.lst xs) ∧ GameAt a pf H g wa dd l ∧
  ∀ H' r, r ≠ pf → Kg H H' → GameAt a pf H' g wa dd (pstep l c).1 → H' r = some (.lst ((pstep l c).2.map V.int)) → Q (.ref r) H'
def spToC (a : Ad) : Sp := fun vs H Q _ => ∃ (g wa dd pf : Addr) (l : List Nat) (xs : List V), vs = [.ref g] ∧ H pf = some (.lst xs) ∧ GameAt a pf H g wa dd l ∧ ∀ H' r, Kd H H' → CacheAt a pf H' wa dd → H' r = some (.lst ((W (placeOf l)).map vi)) → Q (.ref r) H'
theorem lk_rolls {rl wa : Addr} : (gF rl wa).lookup ("rolls" : Str) = some (.ref rl) := by rfl
theorem lk_ways {rl wa : Addr} : (gF rl wa).lookup ("ways" : Str) = some (.ref wa) := by rfl
theorem lk_toc {rl wa : Addr} : (gF rl wa).lookup ("to_come" : Str) = none := by rfl
theorem put_rolls {rl rl' wa : Addr} : putF ("rolls" : Str) (.ref rl') (gF rl wa) = gF rl' wa := if_pos rfl
theorem eqv_nil (ns : List Int) : PyData.eqv (.list (ns.map PyData.int)) (.list []) = ns.isEmpty := by
  cases ns with
  | nil => simp [PyData.eqv, PyData.eqvAll]
  | cons x r => simp [PyData.eqv, PyData.eqvAll]
theorem dp_ints {K : PySem.W.Frag} {H : Hp} : ∀ ns : List Int, DpAll K H (ns.map V.int) (ns.map PyData.int)
  | [] => .nil
  | n :: r => .cons (.int n) (dp_ints r)
theorem canLay_ints : ∀ ns : List Int, PyData.canLayAll0 (ns.map PyData.int) = true
  | [] => by simp [PyData.canLayAll0]
  | n :: r => by
    rw [List.map_cons]
    unfold PyData.canLayAll0
    rw [canLay_ints r]
    simp [PyData.canLay0]
theorem depth_ints : ∀ ns : List Int, PyData.depthAll (ns.map PyData.int) = 0
  | [] => by simp [PyData.depthAll]
  | n :: r => by
    rw [List.map_cons]
    unfold PyData.depthAll
    rw [depth_ints r]
    simp [PyData.depth]
theorem shaped_nums (ns : List Int) : SeqAt.shaped (.list (ns.map PyData.int)) = true := by
  unfold SeqAt.shaped
  unfold PyData.canLay0
  rw [canLay_ints]
  unfold PyData.depth
  rw [depth_ints]
  rfl
section
variable {P : Program} {w : World} {K : PySem.W.Frag} {mg : Str → Option Value} {base : Heap} {a : Ad}
theorem ok_ToC (T : Top K mg a) : FnOk P w K mg base CX0 47 (a.f 102) (a.d 102) ["self"] (spToC a) := by
  refine T.dToC.F.ok scToC (fun vs H Q E h => ?_) (fun cdv A outer s H vs Q E hr h => ?_)
  · obtain ⟨g, wa, dd, pf, l, xs, rfl, _⟩ := h
    rfl
  obtain ⟨g, wa, dd, pf, l, xs, rfl, hF, G, q⟩ := h
  have G1 := ok_Wfr (P := P) (w := w) (base := base) T
  have G2 := ok_Pla (P := P) (w := w) (base := base) T
  have hr4 : Room 4 _ := hr.mono (by decide)
  refine ⟨_, pss_one (ps_ret (pe_call G1 hr rfl T.gWay T.dWay.F.kp T.dWay.b .nil pass0 (pa_cons (pe_fld (pv 0) rfl) (pa_cons (pe_call G2 hr4 rfl T.gPla T.dPla.F.kp T.dPla.b .nil pass0 (pa_cons (pe_fld (pv 0) rfl) pa_nil)) pa_nil)))), ?_⟩
  obtain ⟨⟨dx, rl, h1, h2, _⟩, c, hl⟩ := id G
  refine ⟨_, rfl, g, a.cG, dx, _, _, rfl, h1, T.clG, T.nWays, lk_ways, _, rfl, g, a.cG, dx, _, _, rfl, h1, T.clG, T.nRolls, lk_rolls, rl, l, rfl, SqL.of h2, hl, fun H1 r1 s1 p1 => ?_⟩
  exact ⟨wa, r1, dd, pf, placeOf l, xs, rfl, ok_place hl, left_le (ok_place hl), p1, s1 _ _ hF, c.same s1, fun H2 r2 _ k2 c2 e2 => q H2 r2 ((kd_of s1).trans k2) c2 e2⟩
theorem ok_Sta (T : Top K mg a) : FnOk P w K mg base CX0 1 (a.f 31) (a.d 31) ["game", "numbers"] (spOf a .start) := by
  refine T.dSta.F.ok scSta (fun vs H Q E h => ?_) (fun cdv A outer s H vs Q E hr h => ?_)
  · obtain ⟨g, nl, wa, dd, pf, l, xs, rfl, _⟩ := h
    rfl
  obtain ⟨g, nl, wa, dd, pf, l, xs, rfl, hN, hF, G, q⟩ := h
  refine ⟨_, pss_cons (ps_fld (pv 0) (pe_lst pa_nil) rfl) (pss_one (ps_ret (pe_lst (pa_cons pe_int pa_nil)))), ?_⟩
  obtain ⟨⟨dx, rl, h1, h2, _⟩, c, hl⟩ := id G
  refine ⟨small (by show 0 ≤ 1000; decide), fun p hp => ?_⟩
  have s1 := same_new hp (.lst [])
  refine ⟨_, rfl, g, a.cG, dx, _, rfl, s1 _ _ h1, T.clG, T.nRolls, (by show 2 < 1000; decide), small (by show 1 ≤ 1000; decide), fun r hr' => ?_⟩
  rw [put_rolls] at hr' ⊢
  have G1 := GameAt.put (l := l) (l' := []) (s1 _ _ h1) (c.same s1) (rl' := p) upd_same (ne_of_none hF hp).symm trivial
  have s2 := same_new hr' (.lst [.int 0])
  exact q _ r (off (((kg_same s1).trans (kg_upd (s1 _ _ h1))).lst hF) hr') (((kg_same s1).trans (kg_upd (s1 _ _ h1))).trans (kg_same s2)) (G1.same s2) upd_same
theorem ok_Rol (T : Top K mg a) (n : Nat) : FnOk P w K mg base CX0 5 (a.f 32) (a.d 32) ["game", "numbers"] (spOf a (.roll n)) := by
  refine T.dRol.F.ok scRol (fun vs H Q E h => ?_) (fun cdv A outer s H vs Q E hr h => ?_)
  · obtain ⟨g, nl, wa, dd, pf, l, xs, rfl, _⟩ := h
    rfl
  obtain ⟨g, nl, wa, dd, pf, l, xs, rfl, hN, hF, G, q⟩ := h
  have G1 := ok_Pla (P := P) (w := w) (base := base) T
  have G2 := ok_IsO (P := P) (w := w) (base := base) T
  have hr1 : Room 1 _ := hr.mono (by decide)
  refine ⟨_, pss_cons (ps_set (i := 2) scRol.nd rfl (.inl rfl) (pe_ix ix_list (pv 1) pe_int (fun _ _ => rfl)))
    (pss_cons (ps_set (i := 3) scRol.nd rfl (.inl rfl) (pe_call G1 hr rfl T.gPla T.dPla.F.kp T.dPla.b .nil pass0 (pa_cons (pe_fld (pv 0) rfl) pa_nil)))
    (pss_cons (ps_if (pt_val (pe_call G2 hr1 rfl T.gIsO T.dIsO.F.kp T.dIsO.b .nil pass0 (pa_cons (pv 3) pa_nil))) (pss_one (ps_ret (pe_lst (pa_cons (pe_un un_neg pe_int) pa_nil)))) pss_nil)
    (pss_cons (ps_if (pt_cmp (pc_gt (pv 2) (pe_ix ix_tup (pv 3) pe_int (fun _ _ => rfl)))) (pss_one (ps_ret (pe_lst (pa_cons (pe_un un_neg pe_int) pa_nil)))) pss_nil)
    (pss_cons (ps_fld (pv 0) (pe_op op_cat (pe_fld (pv 0) rfl) (pe_lst (pa_cons (pv 2) pa_nil))) rfl)
    (pss_one (ps_ret (pe_lst (pa_cons (pe_ix ix_tup (pe_call G1 hr rfl T.gPla T.dPla.F.kp T.dPla.b .nil pass0 (pa_cons (pe_fld (pv 0) rfl) pa_nil)) pe_int (fun _ _ => rfl)) pa_nil)))))))), ?_⟩
  obtain ⟨⟨dx, rl, h1, h2, _⟩, c, hl⟩ := id G
  have hlen := legal_len hl
  refine ⟨_, rfl, nl, _, 0, .int n, rfl, rfl, SqL.of hN, rfl, ?_⟩
  refine ⟨_, rfl, g, a.cG, dx, _, _, rfl, h1, T.clG, T.nRolls, lk_rolls, rl, l, rfl, SqL.of h2, hl, fun H1 r1 s1 p1 => ?_⟩
  refine ⟨_, rfl, r1, placeOf l, rfl, p1.1, _, rfl, ?_⟩
  rw [pstep_roll] at q
  refine iteD (fun c0 => ?_) (fun c0 => ?_)
  · rw [if_pos c0] at q
    refine ⟨_, rfl, small (by show 1 ≤ 1000; decide), fun r hr' => ?_⟩
    have s2 := s1.trans (same_new hr' (.lst [.int (-41)]))
    exact q _ r (off (s1 _ _ hF) hr') (kg_same s2) (G.same s2) upd_same
  rw [if_neg c0] at q
  refine ⟨_, rfl, _, rfl, r1, _, 1, vi (placeOf l).lf, rfl, rfl, p1.1, rfl, _, _, rfl, rfl, _, rfl, ?_⟩
  refine iteD (fun c1 => ?_) (fun c1 => ?_)
  · rw [if_pos (Int.ofNat_lt.mp c1)] at q
    refine ⟨_, rfl, small (by show 1 ≤ 1000; decide), fun r hr' => ?_⟩
    have s2 := s1.trans (same_new hr' (.lst [.int (-22)]))
    exact q _ r (off (s1 _ _ hF) hr') (kg_same s2) (G.same s2) upd_same
  have c1 : ¬ (placeOf l).lf < n := fun z => c1 (Int.ofNat_lt.mpr z)
  rw [if_neg c1] at q
  have hl' : legal beg (l ++ [n]) := legal_snoc.mpr ⟨hl, (ok_place hl).good c0, Nat.le_of_not_lt c1⟩
  refine ⟨_, rfl, g, a.cG, dx, _, _, rfl, s1 _ _ h1, T.clG, T.nRolls, lk_rolls, _, rfl, small (by show 1 ≤ 1000; decide), fun p hp => ?_⟩
  have s2 := s1.trans (same_new hp (.lst [vi n]))
  refine ⟨rl, p, _, _, rfl, rfl, s2 _ _ h2, upd_same, (by rw [List.length_map]; exact Nat.le_of_lt (size_ok (by show l.length + 1 ≤ 40000; omega))), fun t ht => ?_⟩
  have s3 := s2.trans (same_new ht (.lst (l.map vi ++ [vi n])))
  refine ⟨_, rfl, g, a.cG, dx, _, rfl, s3 _ _ h1, T.clG, T.nRolls, (by show 2 < 1000; decide), ?_⟩
  rw [put_rolls]
  have e1 : l.map vi ++ [vi n] = (l ++ [n]).map vi := by
    rw [List.map_append]
    rfl
  have G4 : GameAt a pf _ g wa dd (l ++ [n]) := GameAt.put (l := l) (l' := l ++ [n]) (s3 _ _ h1) (c.same s3) (rl' := t) (by rw [← e1]; exact upd_same) (ne_of_none (s2 _ _ hF) ht).symm hl'
  have k4 := (kg_same s3).trans (kg_upd (o := .ins a.cG dx (gF t wa)) (s3 _ _ h1))
  obtain ⟨⟨dx', rl', h1', h2', _⟩, c', _⟩ := id G4
  refine ⟨_, rfl, g, a.cG, dx', _, _, rfl, h1', T.clG, T.nRolls, lk_rolls, rl', l ++ [n], rfl, SqL.of h2', hl', fun H5 r5 s5 p5 => ?_⟩
  refine ⟨r5, _, 0, vi (placeOf (l ++ [n])).fr, rfl, rfl, p5.1, rfl, small (by show 1 ≤ 1000; decide), fun r hr' => ?_⟩
  have s6 := s5.trans (same_new hr' (.lst [vi (placeOf (l ++ [n])).fr]))
  exact q _ r (off ((k4.trans (kg_same s5)).lst hF) hr') (k4.trans (kg_same s6)) (G4.same s6) upd_same
end
end Pin

/-! The walk: the other calls of pinframes.desk. -/
namespace Pin
open PySem PySem.Spec PyProof.Rows L2
open Kyp1 (Call)
theorem vi_ints (l : List Nat) : l.map vi = (l.map fun n : Nat => (n : Int)).map V.int := (vals_ints l).symm
theorem cut_last {l : List Nat} (h : l ≠ []) : cutV (l.map vi) none (some (-1)) = l.dropLast.map vi := by
  unfold cutV
  rw [HT.sIx_none]
  have hp := List.length_pos_iff.mpr h
  have e : HT.sIx (l.map vi).length (l.map vi).length (some (-1)) = l.length - 1 := by
    show (if (-1 : Int) < 0 then ((-1 : Int) + ((l.map vi).length : Int)).toNat else min (-1 : Int).toNat (l.map vi).length) = l.length - 1
    rw [if_pos (by decide), List.length_map]
    omega
  rw [e, List.drop_zero, Nat.sub_zero, List.dropLast_eq_take, List.map_take]
theorem cut_front (l : List Nat) (k : Nat) : cutV (l.map vi) none (some ((k : Int) + 1)) = (l.take (k + 1)).map vi := by
  have e := cut_vi l 0 (k + 1)
  rw [List.drop_zero] at e
  rw [← e]
  unfold cutV
  rw [HT.sIx_none, show ((0 + (k + 1) : Nat) : Int) = (k : Int) + 1 by omega]
  have e2 : HT.sIx (l.map vi).length 0 (some ((0 : Nat) : Int)) = 0 := by
    rw [HT.sIx_nat]
    exact Nat.zero_min _
  rw [e2]
theorem at_last {l : List Nat} (h : l ≠ []) : atI (l.map vi) (-1) = some (vi (l.getLastD 0)) := by
  have hp := List.length_pos_iff.mpr h
  unfold atI ixN
  rw [if_neg (by decide), if_pos (by rw [List.length_map]; omega), List.length_map]
  show (l.map vi)[((-1 : Int) + (l.length : Int)).toNat]? = _
  rw [show ((-1 : Int) + (l.length : Int)).toNat = l.length - 1 by omega, List.getElem?_map, ← List.getLast?_eq_getElem?, List.getLast?_eq_some_getLast h]
  rw [List.getLastD_eq_getLast?, List.getLast?_eq_some_getLast h]
  rfl
section
variable {P : Program} {w : World} {K : PySem.W.Frag} {mg : Str → Option Value} {base : Heap} {a : Ad}
theorem ok_Bac (T : Top K mg a) : FnOk P w K mg base CX0 1 (a.f 33) (a.d 33) ["game", "numbers"] (spOf a .back) := by
  refine T.dBac.F.ok scBac (fun vs H Q E h => ?_) (fun cdv A outer s H vs Q E hr h => ?_)
  · obtain ⟨g, nl, wa, dd, pf, l, xs, rfl, _⟩ := h
    rfl
  obtain ⟨g, nl, wa, dd, pf, l, xs, rfl, hN, hF, G, q⟩ := h
  refine ⟨_, pss_cons (ps_if (pt_cmpR (op_eqD hr.units) (pe_fld (pv 0) rfl) (pe_lst pa_nil) (nomark _)) (pss_one (ps_ret (pe_lst (pa_cons (pe_un un_neg pe_int) pa_nil)))) pss_nil)
    (pss_cons (ps_set (i := 2) scBac.nd rfl (.inl rfl) (pe_ix ix_list (pe_fld (pv 0) rfl) (pe_un un_neg pe_int) (fun _ _ => rfl)))
    (pss_cons (ps_fld (pv 0) (pe_slice sl_list (pe_fld (pv 0) rfl) po_none (po_some (pe_un un_neg pe_int))) rfl)
    (pss_one (ps_ret (pe_lst (pa_cons (pv 2) pa_nil)))))), ?_⟩
  obtain ⟨⟨dx, rl, h1, h2, _⟩, c, hl⟩ := id G
  refine ⟨_, rfl, g, a.cG, dx, _, _, rfl, h1, T.clG, T.nRolls, lk_rolls, small (by show 0 ≤ 1000; decide), fun p hp => ?_⟩
  have s1 := same_new hp (.lst [])
  have h2' : H rl = some (.lst ((l.map fun n : Nat => (n : Int)).map V.int)) := by rw [vals_ints]; exact h2
  refine ⟨.list ((l.map fun n : Nat => (n : Int)).map PyData.int), .list [], .lst (SqL.of (s1 _ _ h2')) (dp_ints _), .lst (SqL.of upd_same) .nil, shaped_nums _, shaped_nums [], _, rfl, ?_⟩
  rw [eqv_nil]
  rw [pstep_back] at q
  cases l with
  | nil =>
    refine iteT ⟨_, rfl, small (by show 1 ≤ 1000; decide), fun r hr' => ?_⟩
    have s2 := s1.trans (same_new hr' (.lst [.int (-6)]))
    exact q _ r (off (s1 _ _ hF) hr') (kg_same s2) (G.same s2) upd_same
  | cons x0 l0 =>
    have hne : x0 :: l0 ≠ [] := by intro z; cases z
    generalize x0 :: l0 = l at *
    rw [if_neg hne] at q
    have e0 : (l.map fun n : Nat => (n : Int)).isEmpty = false := by
      cases l with
      | nil => exact absurd rfl hne
      | cons x r => rfl
    rw [e0]
    refine iteF ?_
    refine ⟨_, rfl, g, a.cG, dx, _, _, rfl, s1 _ _ h1, T.clG, T.nRolls, lk_rolls, _, rfl, rl, _, -1, vi (l.getLastD 0), rfl, rfl, SqL.of (s1 _ _ h2), at_last hne, ?_⟩
    refine ⟨_, rfl, g, a.cG, dx, _, _, rfl, s1 _ _ h1, T.clG, T.nRolls, lk_rolls, _, rfl, _, rfl, rl, _, rfl, SqL.of (s1 _ _ h2), fun t ht => ?_⟩
    have s3 := s1.trans (same_new ht (.lst (cutV (l.map vi) none (some (-1)))))
    refine ⟨_, rfl, g, a.cG, dx, _, rfl, s3 _ _ h1, T.clG, T.nRolls, (by show 2 < 1000; decide), ?_⟩
    rw [put_rolls]
    have G4 : GameAt a pf _ g wa dd l.dropLast := GameAt.put (l := l) (l' := l.dropLast) (s3 _ _ h1) (c.same s3) (rl' := t) (by rw [← cut_last hne]; exact upd_same) (ne_of_none (s1 _ _ hF) ht).symm (legal_dropLast hl)
    have k4 := (kg_same s3).trans (kg_upd (o := .ins a.cG dx (gF t wa)) (s3 _ _ h1))
    refine ⟨_, rfl, small (by show 1 ≤ 1000; decide), fun r hr' => ?_⟩
    have s5 := same_new hr' (.lst [vi (l.getLastD 0)])
    exact q _ r (off (k4.lst hF) hr') (k4.trans (kg_same s5)) (G4.same s5) upd_same
theorem ok_Sco (T : Top K mg a) : FnOk P w K mg base CX0 3 (a.f 34) (a.d 34) ["game", "numbers"] (spOf a .score) := by
  refine T.dSco.F.ok scSco (fun vs H Q E h => ?_) (fun cdv A outer s H vs Q E hr h => ?_)
  · obtain ⟨g, nl, wa, dd, pf, l, xs, rfl, _⟩ := h
    rfl
  obtain ⟨g, nl, wa, dd, pf, l, xs, rfl, hN, hF, G, q⟩ := h
  have G1 := ok_Kno (P := P) (w := w) (base := base) T
  refine ⟨_, pss_cons (ps_set (i := 2) scSco.nd rfl (.inl rfl) (pe_call G1 hr rfl T.gKno T.dKno.F.kp T.dKno.b .nil pass0 (pa_cons (pe_fld (pv 0) rfl) pa_nil)))
    (pss_one (ps_ret (pe_lst (pa_cons (pe_callB (cr_sum rfl) rfl T.nsum PyProof.Rows.boot_sum (pa_cons (pv 2) pa_nil)) (pa_cons (pe_callB call_len_seq rfl T.nlen PySem.boot_len (pa_cons (pv 2) pa_nil)) pa_nil))))), ?_⟩
  obtain ⟨⟨dx, rl, h1, h2, _⟩, c, hl⟩ := id G
  refine ⟨_, rfl, g, a.cG, dx, _, _, rfl, h1, T.clG, T.nRolls, lk_rolls, rl, l, rfl, SqL.of h2, fun H1 r1 s1 e1 => ?_⟩
  have e1' : H1 r1 = some (.lst (((kn 10 l).map fun n : Nat => (n : Int)).map V.int)) := by rw [vals_ints]; exact e1
  refine ⟨_, rfl, r1, (kn 10 l).map fun n : Nat => (n : Int), rfl, SqL.of e1', _, rfl, r1, _, rfl, .inl (SqL.of e1), small (by show 2 ≤ 1000; decide), fun r hr' => ?_⟩
  have s2 := s1.trans (same_new hr' (.lst [.int ((kn 10 l).map fun n : Nat => (n : Int)).sum, .int (((kn 10 l).map vi).length : Nat)]))
  refine q _ r (off (s1 _ _ hF) hr') (kg_same s2) (G.same s2) ?_
  rw [upd_same, sum_ints, List.length_map]
  rfl
theorem ok_Fra (T : Top K mg a) (k : Nat) : FnOk P w K mg base CX0 3 (a.f 35) (a.d 35) ["game", "numbers"] (spOf a (.frame k)) := by
  refine T.dFra.F.ok scFra (fun vs H Q E h => ?_) (fun cdv A outer s H vs Q E hr h => ?_)
  · obtain ⟨g, nl, wa, dd, pf, l, xs, rfl, _⟩ := h
    rfl
  obtain ⟨g, nl, wa, dd, pf, l, xs, rfl, hN, hF, G, q⟩ := h
  have G1 := ok_Kno (P := P) (w := w) (base := base) T
  refine ⟨_, pss_cons (ps_set (i := 2) scFra.nd rfl (.inl rfl) (pe_ix ix_list (pv 1) pe_int (fun _ _ => rfl)))
    (pss_cons (ps_if (pt_cmp (pc_ge (pv 2) (pe_gint T.gFRAMES_desk))) (pss_one (ps_ret (pe_lst (pa_cons (pe_un un_neg pe_int) pa_nil)))) pss_nil)
    (pss_cons (ps_set (i := 3) scFra.nd rfl (.inl rfl) (pe_call G1 hr rfl T.gKno T.dKno.F.kp T.dKno.b .nil pass0 (pa_cons (pe_fld (pv 0) rfl) pa_nil)))
    (pss_cons (ps_if (pt_cmp (pc_ge (pv 2) (pe_callB call_len_seq rfl T.nlen PySem.boot_len (pa_cons (pv 3) pa_nil)))) (pss_one (ps_ret (pe_lst (pa_cons (pe_un un_neg pe_int) pa_nil)))) pss_nil)
    (pss_one (ps_ret (pe_lst (pa_cons (pe_ix ix_list (pv 3) (pv 2) (fun _ _ => rfl)) (pa_cons (pe_callB (cr_sum rfl) rfl T.nsum PyProof.Rows.boot_sum (pa_cons (pe_slice sl_list (pv 3) po_none (po_some (pe_op op_add (pv 2) pe_int))) pa_nil)) pa_nil)))))))), ?_⟩
  obtain ⟨⟨dx, rl, h1, h2, _⟩, c, hl⟩ := id G
  refine ⟨_, rfl, nl, _, 0, .int k, rfl, rfl, SqL.of hN, rfl, ?_⟩
  refine ⟨_, rfl, _, _, rfl, rfl, _, rfl, ?_⟩
  rw [pstep_frame] at q
  refine iteD (fun c0 => ?_) (fun c0 => ?_)
  · have c0 : 10 ≤ k := Int.ofNat_le.mp c0
    rw [if_pos c0] at q
    refine ⟨_, rfl, small (by show 1 ≤ 1000; decide), fun r hr' => ?_⟩
    have s2 := same_new hr' (.lst [.int (-22)])
    exact q _ r (off hF hr') (kg_same s2) (G.same s2) upd_same
  have c0 : ¬ 10 ≤ k := fun z => c0 (Int.ofNat_le.mpr z)
  rw [if_neg c0] at q
  refine ⟨_, rfl, g, a.cG, dx, _, _, rfl, h1, T.clG, T.nRolls, lk_rolls, rl, l, rfl, SqL.of h2, fun H1 r1 s1 e1 => ?_⟩
  have ll : ((kn 10 l).map vi).length = (kn 10 l).length := List.length_map _
  refine ⟨_, rfl, _, rfl, r1, _, rfl, .inl (SqL.of e1), _, _, rfl, rfl, _, rfl, ?_⟩
  rw [ll]
  refine iteD (fun c1 => ?_) (fun c1 => ?_)
  · have c1 : (kn 10 l).length ≤ k := Int.ofNat_le.mp c1
    rw [if_pos c1] at q
    refine ⟨_, rfl, small (by show 1 ≤ 1000; decide), fun r hr' => ?_⟩
    have s2 := s1.trans (same_new hr' (.lst [.int (-61)]))
    exact q _ r (off (s1 _ _ hF) hr') (kg_same s2) (G.same s2) upd_same
  have c1 : ¬ (kn 10 l).length ≤ k := fun z => c1 (Int.ofNat_le.mpr z)
  rw [if_neg c1] at q
  have hk : (kn 10 l)[k]? = some ((kn 10 l).getD k 0) := by
    rw [List.getD_eq_getElem?_getD, List.getElem?_eq_getElem (by omega)]
    rfl
  refine ⟨_, rfl, _, rfl, r1, _, _, _, rfl, rfl, SqL.of e1, at_vi hk, _, rfl, _, rfl, _, _, rfl, rfl, _, rfl, r1, _, rfl, SqL.of e1, fun t ht => ?_⟩
  have s2 := s1.trans (same_new ht (.lst (cutV ((kn 10 l).map vi) none (some ((k : Int) + 1)))))
  refine ⟨t, ((kn 10 l).take (k + 1)).map fun n : Nat => (n : Int), rfl, SqL.of (by rw [vals_ints, ← cut_front]; exact upd_same), small (by show 2 ≤ 1000; decide), fun r hr' => ?_⟩
  have s3 := s2.trans (same_new hr' (.lst [vi ((kn 10 l).getD k 0), .int (((kn 10 l).take (k + 1)).map fun n : Nat => (n : Int)).sum]))
  refine q _ r (off (s2 _ _ hF) hr') (kg_same s3) (G.same s3) ?_
  rw [upd_same, sum_ints]
  rfl
theorem ok_Ran (T : Top K mg a) : FnOk P w K mg base CX0 48 (a.f 36) (a.d 36) ["game", "numbers"] (spOf a .range) := by
  refine T.dRan.F.ok scRan (fun vs H Q E h => ?_) (fun cdv A outer s H vs Q E hr h => ?_)
  · obtain ⟨g, nl, wa, dd, pf, l, xs, rfl, _⟩ := h
    rfl
  obtain ⟨g, nl, wa, dd, pf, l, xs, rfl, hN, hF, G, q⟩ := h
  have G1 := ok_Ctd (P := P) (w := w) (base := base) T
  have G2 := ok_ToC (P := P) (w := w) (base := base) T
  have G3 := ok_Lea (P := P) (w := w) (base := base) T
  have G4 := ok_Mos (P := P) (w := w) (base := base) T
  have hr4 : Room 4 _ := hr.mono (by decide)
  have hr1 : Room 1 _ := hr.mono (by decide)
  refine ⟨_, pss_cons (ps_set (i := 2) scRan.nd rfl (.inl rfl) (pe_call G1 hr4 rfl T.gCtd T.dCtd.F.kp T.dCtd.b .nil pass0 (pa_cons (pe_fld (pv 0) rfl) pa_nil)))
    (pss_cons (ps_set (i := 3) scRan.nd rfl (.inl rfl) (pe_meth0 (pv 0) T.clG T.mToC G2 hr T.dToC.b .nil pass0))
    (pss_one (ps_ret (pe_lst (pa_cons (pe_op op_add (pv 2) (pe_call G3 hr1 rfl T.gLea T.dLea.F.kp T.dLea.b .nil pass0 (pa_cons (pv 3) pa_nil)))
      (pa_cons (pe_op op_add (pv 2) (pe_call G4 hr1 rfl T.gMos T.dMos.F.kp T.dMos.b .nil pass0 (pa_cons (pv 3) pa_nil))) pa_nil)))))), ?_⟩
  obtain ⟨⟨dx, rl, h1, h2, _⟩, c, hl⟩ := id G
  have hw := W_some (ok_place hl)
  refine ⟨_, rfl, g, a.cG, dx, _, _, rfl, h1, T.clG, T.nRolls, lk_rolls, rl, l, rfl, SqL.of h2, hl, fun H1 s1 => ?_⟩
  have GA := G.same s1
  refine ⟨_, rfl, g, dx, gF rl wa, rfl, s1 _ _ h1, lk_toc, g, wa, dd, pf, l, xs, rfl, s1 _ _ hF, GA, fun H2 r2 k2 c2 e2 => ?_⟩
  have GB := GA.kd k2 c2
  refine ⟨_, rfl, _, rfl, r2, _, rfl, SqL.of e2, hw, _, _, rfl, rfl, _, rfl, _, rfl, r2, _, rfl, SqL.of e2, hw, _, _, rfl, rfl, small (by show 2 ≤ 1000; decide), fun r hr' => ?_⟩
  have s3 := same_new hr' (.lst [.int (((counted l : Nat) : Int) + ((least0 (W (placeOf l)) : Nat) : Int)), .int (((counted l : Nat) : Int) + ((most0 (W (placeOf l)) : Nat) : Int))])
  refine q _ r (off (((kg_same s1).trans (kg_kd k2)).lst hF) hr') (((kg_same s1).trans (kg_kd k2)).trans (kg_same s3)) (GB.same s3) ?_
  rw [upd_same]
  rfl
theorem ok_Wtd (T : Top K mg a) (z : Nat) : FnOk P w K mg base CX0 48 (a.f 37) (a.d 37) ["game", "numbers"] (spOf a (.ways z)) := by
  refine T.dWtd.F.ok scWtd (fun vs H Q E h => ?_) (fun cdv A outer s H vs Q E hr h => ?_)
  · obtain ⟨g, nl, wa, dd, pf, l, xs, rfl, _⟩ := h
    rfl
  obtain ⟨g, nl, wa, dd, pf, l, xs, rfl, hN, hF, G, q⟩ := h
  have G1 := ok_Ctd (P := P) (w := w) (base := base) T
  have G2 := ok_ToC (P := P) (w := w) (base := base) T
  have G3 := ok_Wto (P := P) (w := w) (base := base) T
  have hr4 : Room 4 _ := hr.mono (by decide)
  have hr1 : Room 1 _ := hr.mono (by decide)
  refine ⟨_, pss_cons (ps_set (i := 2) scWtd.nd rfl (.inl rfl) (pe_ix ix_list (pv 1) pe_int (fun _ _ => rfl)))
    (pss_cons (ps_if (pt_cmp (pc_gt (pv 2) (pe_gint T.gMOST))) (pss_one (ps_ret (pe_lst (pa_cons (pe_un un_neg pe_int) pa_nil)))) pss_nil)
    (pss_cons (ps_set (i := 3) scWtd.nd rfl (.inl rfl) (pe_meth0 (pv 0) T.clG T.mToC G2 hr T.dToC.b .nil pass0))
    (pss_one (ps_ret (pe_lst (pa_cons pe_int (pa_cons (pe_call G3 hr1 rfl T.gWto T.dWto.F.kp T.dWto.b .nil pass0 (pa_cons (pv 3) (pa_cons (pe_op op_sub (pv 2) (pe_call G1 hr4 rfl T.gCtd T.dCtd.F.kp T.dCtd.b .nil pass0 (pa_cons (pe_fld (pv 0) rfl) pa_nil))) pa_nil)))
      (pa_cons (pe_callB (cr_sum rfl) rfl T.nsum PyProof.Rows.boot_sum (pa_cons (pv 3) pa_nil)) pa_nil)))))))), ?_⟩
  obtain ⟨⟨dx, rl, h1, h2, _⟩, c, hl⟩ := id G
  refine ⟨_, rfl, nl, _, 0, .int z, rfl, rfl, SqL.of hN, rfl, ?_⟩
  refine ⟨_, rfl, _, _, rfl, rfl, _, rfl, ?_⟩
  rw [pstep_ways] at q
  refine iteD (fun c0 => ?_) (fun c0 => ?_)
  · have c0 : 300 < z := Int.ofNat_lt.mp c0
    rw [if_pos c0] at q
    refine ⟨_, rfl, small (by show 1 ≤ 1000; decide), fun r hr' => ?_⟩
    have s2 := same_new hr' (.lst [.int (-22)])
    exact q _ r (off hF hr') (kg_same s2) (G.same s2) upd_same
  have c0 : ¬ 300 < z := fun y => c0 (Int.ofNat_lt.mpr y)
  rw [if_neg c0] at q
  refine ⟨_, rfl, g, dx, gF rl wa, rfl, h1, lk_toc, g, wa, dd, pf, l, xs, rfl, hF, G, fun H2 r2 k2 c2 e2 => ?_⟩
  have GB := G.kd k2 c2
  have k2g : H2 g = some (.ins a.cG dx (gF rl wa)) := k2 _ _ h1 fun _ => by intro z; cases z
  refine ⟨_, rfl, _, rfl, _, rfl, g, a.cG, dx, _, _, rfl, k2g, T.clG, T.nRolls, lk_rolls, rl, l, rfl, SqL.of (k2.lst h2), hl, fun H3 s3 => ?_⟩
  have e3 := s3 _ _ e2
  have e3' : H3 r2 = some (.lst (((W (placeOf l)).map fun n : Nat => (n : Int)).map V.int)) := by rw [vals_ints]; exact e3
  refine ⟨_, _, rfl, rfl, r2, _, _, rfl, SqL.of e3, _, rfl, r2, _, rfl, SqL.of e3', small (by show 3 ≤ 1000; decide), fun r hr' => ?_⟩
  have s4 := same_new hr' (.lst [.int 0, vi (wt (W (placeOf l)) ((z : Int) - ((counted l : Nat) : Int))), .int ((W (placeOf l)).map fun n : Nat => (n : Int)).sum])
  refine q _ r (off (((kg_kd k2).trans (kg_same s3)).lst hF) hr') (((kg_kd k2).trans (kg_same s3)).trans (kg_same s4)) ((GB.same s3).same s4) ?_
  rw [upd_same, sum_ints]
  rfl
theorem ok_Sts (T : Top K mg a) : FnOk P w K mg base CX0 5 (a.f 38) (a.d 38) ["game", "numbers"] (spOf a .state) := by
  refine T.dSts.F.ok scSts (fun vs H Q E h => ?_) (fun cdv A outer s H vs Q E hr h => ?_)
  · obtain ⟨g, nl, wa, dd, pf, l, xs, rfl, _⟩ := h
    rfl
  obtain ⟨g, nl, wa, dd, pf, l, xs, rfl, hN, hF, G, q⟩ := h
  have G1 := ok_Pla (P := P) (w := w) (base := base) T
  refine ⟨_, pss_cons (ps_set (i := 2) scSts.nd rfl (.inl rfl) (pe_call G1 hr rfl T.gPla T.dPla.F.kp T.dPla.b .nil pass0 (pa_cons (pe_fld (pv 0) rfl) pa_nil)))
    (pss_one (ps_ret (pe_lst (pa_cons (pe_ix ix_tup (pv 2) pe_int (fun _ _ => rfl)) (pa_cons (pe_callB call_len_seq rfl T.nlen PySem.boot_len (pa_cons (pe_fld (pv 0) rfl) pa_nil)) (pa_cons (pe_ix ix_tup (pv 2) pe_int (fun _ _ => rfl)) pa_nil)))))), ?_⟩
  obtain ⟨⟨dx, rl, h1, h2, _⟩, c, hl⟩ := id G
  refine ⟨_, rfl, g, a.cG, dx, _, _, rfl, h1, T.clG, T.nRolls, lk_rolls, rl, l, rfl, SqL.of h2, hl, fun H1 r1 s1 p1 => ?_⟩
  refine ⟨_, rfl, r1, _, 0, vi (placeOf l).fr, rfl, rfl, p1.1, rfl, _, rfl, g, a.cG, dx, _, _, rfl, s1 _ _ h1, T.clG, T.nRolls, lk_rolls, rl, _, rfl, .inl (SqL.of (s1 _ _ h2)), _, rfl, r1, _, 1, vi (placeOf l).lf, rfl, rfl, p1.1, rfl, small (by show 3 ≤ 1000; decide), fun r hr' => ?_⟩
  have s2 := s1.trans (same_new hr' (.lst [vi (placeOf l).fr, .int (((l.map vi).length : Nat) : Int), vi (placeOf l).lf]))
  refine q _ r (off (s1 _ _ hF) hr') (kg_same s2) (G.same s2) ?_
  rw [upd_same, List.length_map]
  rfl
end
end Pin

/-! The walk: the two classes' beginnings, and answers. -/
namespace Pin
open PySem PySem.Spec PyProof.Rows L2
open Kyp1 (Call)
/-! ### a call of a local name that holds one of several defs (no address is asked to be another than the others) -/
def HeldK (P : Program) (w : World) (K : PySem.W.Frag) (mg : Str → Option Value) (base : Heap) (k : Nat) (f : Addr) (sp : Sp) : Prop :=
  ∃ (fd : FuncData) (ps : List Str), FnOk P w K mg base CX0 k f fd ps sp ∧ PySem.W.keepIn K (.ref f) = true ∧ Binds K fd ps []
def tCallR (i : Nat) (R : Addr → Sp → Prop) (t : TA) : TE := fun σ H Q => ∃ f sp, σ[i]? = some (some (.ref f)) ∧ R f sp ∧ t σ H fun vs H1 => sp vs H1 Q E0
theorem pe_callR {X : Cx} {k i : Nat} {x : Str} {p pos : Pos} {e : Expr} {es : List Expr} {t : TA} {R : Addr → Sp → Prop} (A : ∀ f sp, R f sp → HeldK X.prog X.w X.K X.mg X.base k f sp) (hr : Room k X.A) (hN : X.N[i]? = some x) (hv : Vis X.env.scope x) (ha : PA X (e :: es) t)
    (hdb : (x == ("__debug__" : Str)) = false := by decide) (hcd : (x == ("__classdict__" : Str)) = false := by decide)
    (he : starEach (e :: es) X.env = (false, eval e X.env) :: starEach es X.env := by rfl) (hpl : (backTo pos (starEach es X.env)).any (·.1) = false := by rfl) : PE X (.Call (.Name x p) (e :: es) [] pos) (tCallR i R t) := by
  refine ⟨fun pins s σ H Q I h => ?_⟩
  obtain ⟨f, sp, hs, hR, ht⟩ := h
  obtain ⟨fd, ps, F, hk, hb⟩ := A f sp hR
  refine (pe_callL (i := i) (f := f) (sp := sp) (dvs := []) (E := E0) F hr hN hv hk hb .nil pass0 ha hdb hcd he hpl).run pins s σ H Q I ⟨hs, ?_⟩
  have e0 : (fun (vs : List V) (H1 : Hp) => sp (vs ++ []) H1 Q E0) = fun vs H1 => sp vs H1 Q E0 := by
    funext vs H1
    rw [List.append_nil]
  show t σ H (fun vs H1 => sp (vs ++ []) H1 Q E0)
  rw [e0]
  exact ht
/-! ### the line, by places -/
def codeC : Call → Nat
  | .start => 0
  | .roll _ => 1
  | .back => 2
  | .score => 3
  | .frame _ => 4
  | .range => 5
  | .ways _ => 6
  | .state => 7
theorem spell_is (c : Call) : spell c = (codeC c : Int) :: argsOf c := by cases c <;> rfl
theorem args_le (c : Call) : (argsOf c).length ≤ 1 := by cases c <;> first | exact Nat.le_refl 1 | exact Nat.zero_le 1
theorem goes_nil {l : List Nat} {ans : List Int} (h : Goes [] l ans) : ans = [] := by
  have key : ∀ xs l ans, Goes xs l ans → xs = [] → ans = [] := by
    intro xs l ans h e
    cases h with
    | nil => rfl
    | cons c h =>
      rw [spell_is] at e
      cases e
  exact key _ _ _ h rfl
theorem goes_cons {xs : List Int} {l : List Nat} {ans : List Int} (h : Goes xs l ans) (n : xs ≠ []) :
    ∃ c rest ans', xs = (codeC c : Int) :: (argsOf c ++ rest) ∧ ans = ((pstep l c).2.length : Int) :: ((pstep l c).2 ++ ans') ∧ Goes rest (pstep l c).1 ans' := by
  cases h with
  | nil => exact absurd rfl n
  | cons c h =>
    refine ⟨c, _, _, ?_, rfl, h⟩
    rw [spell_is]
    rfl
theorem said_le (l : List Nat) (c : Call) : (pstep l c).2.length ≤ 3 := by
  cases c with
  | start => exact (by decide : 1 ≤ 3)
  | roll n =>
    rw [pstep_roll]
    split
    · exact (by decide : 1 ≤ 3)
    · split
      · exact (by decide : 1 ≤ 3)
      · exact (by decide : 1 ≤ 3)
  | back =>
    rw [pstep_back]
    split
    · exact (by decide : 1 ≤ 3)
    · exact (by decide : 1 ≤ 3)
  | score => exact (by decide : 2 ≤ 3)
  | frame k =>
    rw [pstep_frame]
    show (if _ then _ else _ : List Int).length ≤ 3
    split
    · exact (by decide : 1 ≤ 3)
    · split
      · exact (by decide : 1 ≤ 3)
      · exact (by decide : 2 ≤ 3)
  | range => exact (by decide : 2 ≤ 3)
  | ways s =>
    rw [pstep_ways]
    show (if _ then _ else _ : List Int).length ≤ 3
    split
    · exact (by decide : 1 ≤ 3)
    · exact (by decide : 3 ≤ 3)
  | state => exact (by decide : 3 ≤ 3)
theorem cut_ints (ns : List Int) (i m : Nat) : cutV (ns.map V.int) (some (i : Int)) (some (((i + m : Nat)) : Int)) = ((ns.drop i).take m).map V.int := by
  unfold cutV
  rw [HT.sIx_nat, HT.sIx_nat, List.length_map, ← List.map_drop, ← List.map_take]
  refine congrArg (List.map V.int) ?_
  by_cases h : i ≤ ns.length
  · rw [Nat.min_eq_left h]
    by_cases k : i + m ≤ ns.length
    · rw [Nat.min_eq_left k, show i + m - i = m by omega]
    · rw [Nat.min_eq_right (by omega), List.take_of_length_le (by rw [List.length_drop] <;> omega), List.take_of_length_le (by rw [List.length_drop]; omega)]
  · rw [List.drop_eq_nil_of_le (by omega), List.drop_eq_nil_of_le (by omega), List.take_nil, List.take_nil]
/-- what the loop reads -/
theorem read_call {ns : List Int} {i : Nat} {c : Call} {rest : List Int} (h : ns.drop i = (codeC c : Int) :: (argsOf c ++ rest)) :
    ns[i]? = some (codeC c : Int) ∧ (ns.drop (i + 1)).take (argsOf c).length = argsOf c ∧ ns.drop (i + 1 + (argsOf c).length) = rest ∧ i + 1 + (argsOf c).length ≤ ns.length := by
  have h1 : ns[i]? = some (codeC c : Int) := by
    have : (ns.drop i)[0]? = some (codeC c : Int) := by
      rw [h]
      rfl
    rw [List.getElem?_drop] at this
    exact this
  have h2 : ns.drop (i + 1) = argsOf c ++ rest := by
    rw [← List.drop_drop, h]
    rfl
  have h3 : (ns.drop i).length = (argsOf c).length + rest.length + 1 := by
    rw [h, List.length_cons, List.length_append]
  rw [List.length_drop] at h3
  refine ⟨h1, ?_, ?_, by omega⟩
  · rw [h2]
    exact List.take_left
  · rw [← List.drop_drop, h2]
    exact List.drop_left
/-! ### promises -/
def spIW (a : Ad) : Sp := fun vs H Q _ => ∃ p dx, vs = [.ref p] ∧ H p = some (.ins a.cW dx []) ∧ ∀ d, H d = none → Q .non (upd (upd H d (.dT [])) p (.ins a.cW dx [("known", .ref d)]))
def spIG (a : Ad) : Sp := fun vs H Q _ => ∃ p dx, vs = [.ref p] ∧ H p = some (.ins a.cG dx []) ∧
  ∀ H' rl wa dd dxw, (∀ b o, H b = some o → b ≠ p → H' b = some o) → H' p = some (.ins a.cG dx (gF rl wa)) → H' rl = some (.lst []) → H' wa = some (.ins a.cW dxw [("known", .ref dd)]) → H' dd = some (.dT []) → Q .non H'
def spAns (K : PySem.W.Frag) : Sp := fun vs H Q _ => ∃ (b : Addr) (ns ans : List Int), vs = [.ref b] ∧ SqL K H b (ns.map V.int) ∧ ns.length ≤ 2000 ∧ Goes ns [] ans ∧ ∀ (H' : Hp) (p : Addr), H' p = some (.lst (ans.map V.int)) → Q (.ref p) H'
/-- which def answers a call -/
def Deed (a : Ad) (f : Addr) (sp : Sp) : Prop := ∃ c, f = a.f (31 + codeC c) ∧ sp = spOf a c
section
variable {P : Program} {w : World} {K : PySem.W.Frag} {mg : Str → Option Value} {base : Heap} {a : Ad}
theorem held (T : Top K mg a) : ∀ f sp, Deed a f sp → HeldK P w K mg base 48 f sp := by
  rintro f sp ⟨c, rfl, rfl⟩
  cases c with
  | start => exact ⟨a.d 31, _, (ok_Sta T).mono (by decide), T.dSta.F.kp, T.dSta.b⟩
  | roll n => exact ⟨a.d 32, _, (ok_Rol T n).mono (by decide), T.dRol.F.kp, T.dRol.b⟩
  | back => exact ⟨a.d 33, _, (ok_Bac T).mono (by decide), T.dBac.F.kp, T.dBac.b⟩
  | score => exact ⟨a.d 34, _, (ok_Sco T).mono (by decide), T.dSco.F.kp, T.dSco.b⟩
  | frame k => exact ⟨a.d 35, _, (ok_Fra T k).mono (by decide), T.dFra.F.kp, T.dFra.b⟩
  | range => exact ⟨a.d 36, _, ok_Ran T, T.dRan.F.kp, T.dRan.b⟩
  | ways s => exact ⟨a.d 37, _, ok_Wtd T s, T.dWtd.F.kp, T.dWtd.b⟩
  | state => exact ⟨a.d 38, _, (ok_Sts T).mono (by decide), T.dSts.F.kp, T.dSts.b⟩
theorem at_deeds (c : Call) : atI [V.ref (a.f 31), .ref (a.f 32), .ref (a.f 33), .ref (a.f 34), .ref (a.f 35), .ref (a.f 36), .ref (a.f 37), .ref (a.f 38)] (codeC c : Int) = some (.ref (a.f (31 + codeC c))) := by cases c <;> rfl
theorem at_nums (c : Call) : atI [V.int 0, .int 1, .int 0, .int 0, .int 1, .int 0, .int 1, .int 0] (codeC c : Int) = some (.int ((argsOf c).length : Int)) := by cases c <;> rfl
theorem ok_IW (T : Top K mg a) : FnOk P w K mg base CX0 1 (a.f 100) (a.d 100) ["self"] (spIW a) := by
  refine T.dIW.F.ok scIW (fun vs H Q E h => ?_) (fun cdv A outer s H vs Q E hr h => ?_)
  · obtain ⟨p, dx, rfl, _⟩ := h
    rfl
  obtain ⟨p, dx, rfl, hp, q⟩ := h
  refine ⟨_, pss_one (ps_fld (pv 0) pe_dnewT rfl), ?_⟩
  intro d hd
  exact ⟨_, rfl, p, a.cW, dx, _, rfl, same_new hd _ _ _ hp, T.clW, T.nKnown, (by show 0 < 1000; decide), q d hd⟩
theorem ok_IG (T : Top K mg a) : FnOk P w K mg base CX0 3 (a.f 101) (a.d 101) ["self"] (spIG a) := by
  refine T.dIG.F.ok scIG (fun vs H Q E h => ?_) (fun cdv A outer s H vs Q E hr h => ?_)
  · obtain ⟨p, dx, rfl, _⟩ := h
    rfl
  obtain ⟨p, dx, rfl, hp, q⟩ := h
  have G := ok_IW (P := P) (w := w) (base := base) T
  refine ⟨_, pss_cons (ps_fld (pv 0) (pe_lst pa_nil) rfl) (pss_one (ps_fld (pv 0) (pe_make0 T.mkW G hr rfl T.gWays T.dIW.b .nil pass0) rfl)), ?_⟩
  refine ⟨small (by show 0 ≤ 1000; decide), fun rl hrl => ?_⟩
  have s1 := same_new hrl (.lst [])
  refine ⟨_, rfl, p, a.cG, dx, _, rfl, s1 _ _ hp, T.clG, T.nRolls, (by show 0 < 1000; decide), ?_⟩
  have e1 : putF ("rolls" : Str) (.ref rl) [] = [(("rolls" : Str), V.ref rl)] := rfl
  rw [e1]
  have h1 : upd (upd H rl (.lst [])) p (.ins a.cG dx [("rolls", .ref rl)]) p = some (.ins a.cG dx [("rolls", .ref rl)]) := upd_same
  have h2 : upd (upd H rl (.lst [])) p (.ins a.cG dx [("rolls", .ref rl)]) rl = some (.lst []) := by
    rw [upd_ne (ne_of_none hp hrl).symm]
    exact upd_same
  have h3 : ∀ b o, H b = some o → b ≠ p → upd (upd H rl (.lst [])) p (.ins a.cG dx [("rolls", .ref rl)]) b = some o := fun b o e n => by
    rw [upd_ne n]
    exact s1 _ _ e
  generalize upd (upd H rl (.lst [])) p (.ins a.cG dx [("rolls", .ref rl)]) = H1 at h1 h2 h3
  intro wa dxw nw nd ne
  have s2 : Same H1 (upd (upd H1 dxw (.own wa)) wa (.ins a.cW dxw [])) := fun b o e => by
    rw [upd_ne (ne_of_none e nw), upd_ne (ne_of_none e nd)]
    exact e
  refine ⟨wa, dxw, rfl, upd_same, fun d hd => ⟨rfl, ?_⟩⟩
  have nwd : wa ≠ d := fun z => by
    subst z
    rw [upd_same] at hd
    cases hd
  have s3 : Same H1 (upd (upd (upd (upd H1 dxw (.own wa)) wa (.ins a.cW dxw [])) d (.dT [])) wa (.ins a.cW dxw [("known", .ref d)])) := fun b o e => by
    rw [upd_ne (ne_of_none e nw), upd_ne (ne_of_none (s2 _ _ e) hd)]
    exact s2 _ _ e
  have h4 : upd (upd (upd (upd H1 dxw (.own wa)) wa (.ins a.cW dxw [])) d (.dT [])) wa (.ins a.cW dxw [("known", .ref d)]) wa = some (.ins a.cW dxw [("known", .ref d)]) := upd_same
  have h5 : upd (upd (upd (upd H1 dxw (.own wa)) wa (.ins a.cW dxw [])) d (.dT [])) wa (.ins a.cW dxw [("known", .ref d)]) d = some (.dT []) := by
    rw [upd_ne nwd.symm]
    exact upd_same
  generalize upd (upd (upd (upd H1 dxw (.own wa)) wa (.ins a.cW dxw [])) d (.dT [])) wa (.ins a.cW dxw [("known", .ref d)]) = H2 at s3 h4 h5
  have e2 : putF ("ways" : Str) (.ref wa) [(("rolls" : Str), V.ref rl)] = gF rl wa := rfl
  refine ⟨_, rfl, p, a.cG, dx, _, rfl, s3 _ _ h1, T.clG, T.nWays, (by show 1 < 1000; decide), ?_⟩
  rw [e2]
  have n1 : rl ≠ p := ne_of h2 h1 (by intro z; cases z)
  have n2 : wa ≠ p := (ne_of_none h1 nw).symm
  have n3 : d ≠ p := ne_of h5 (s3 _ _ h1) (by intro z; cases z)
  refine q _ rl wa d dxw (fun b o e n => ?_) upd_same ?_ ?_ ?_
  · rw [upd_ne n]
    exact s3 _ _ (h3 b o e n)
  · rw [upd_ne n1]
    exact s3 _ _ h2
  · rw [upd_ne n2]
    exact h4
  · rw [upd_ne n3]
    exact h5
/-- the heap in the turns of answers: b the line, g the game, p what is answered so far -/
def Turn (K : PySem.W.Frag) (a : Ad) (H : Hp) (b g wa dd p : Addr) (ns ans : List Int) (H' : Hp) (i : Nat) : Prop := ∃ (l : List Nat) (fd rest : List Int), i ≤ ns.length ∧ Kg H H' ∧ GameAt a p H' g wa dd l ∧ H' p = some (.lst (fd.map V.int)) ∧
  Goes (ns.drop i) l rest ∧ ans = fd ++ rest ∧ fd.length ≤ 4 * i
theorem kg_own {H H' : Hp} {p : Addr} {o u : HO} (k : Kg H H') (hp : H p = none) : Kg H (upd (upd H' p o) p u) := fun b v e n m => by
  have hb := ne_of_none e hp
  rw [upd_ne hb, upd_ne hb]
  exact k b v e n m
theorem GameAt.fill {a : Ad} {p : Addr} {H : Hp} {g wa dd : Addr} {l : List Nat} {xs ys zs : List V} (G : GameAt a p H g wa dd l) (hp : H p = some (.lst xs)) : GameAt a p (upd (upd H p (.lst ys)) p (.lst zs)) g wa dd l := by
  obtain ⟨⟨dx, rl, h1, h2, n2⟩, ⟨⟨dxw, h3⟩, kvs, h4, h5⟩, hl⟩ := G
  have m1 : g ≠ p := ne_of h1 hp (by intro z; cases z)
  have m3 : wa ≠ p := ne_of h3 hp (by intro z; cases z)
  have m4 : dd ≠ p := ne_of h4 hp (by intro z; cases z)
  rw [upd_upd]
  refine ⟨⟨dx, rl, by rw [upd_ne m1]; exact h1, by rw [upd_ne n2]; exact h2, n2⟩, ⟨⟨dxw, by rw [upd_ne m3]; exact h3⟩, kvs, by rw [upd_ne m4]; exact h4, h5.1, fun kv m => ?_⟩, hl⟩
  obtain ⟨q, b, gq, e, hb, nb⟩ := h5.2 kv m
  exact ⟨q, b, gq, e, by rw [upd_ne nb]; exact hb, nb⟩
theorem ok_Ans (T : Top K mg a) : FnOk P w K mg base CX0 49 (a.f 41) (a.d 41) ["calls"] (spAns K) := by
  refine T.dAns.F.ok scAns (fun vs H Q E h => ?_) (fun cdv A outer s H vs Q E hr h => ?_)
  · obtain ⟨b, ns, ans, rfl, _⟩ := h
    rfl
  obtain ⟨b, ns, ans, rfl, hS, hn, hG, q⟩ := h
  have G := ok_IG (P := P) (w := w) (base := base) T
  have hr4 : Room 4 _ := hr.mono (by decide)
  have ll : (ns.map V.int).length = ns.length := List.length_map _
  refine ⟨_, pss_cons (ps_set (i := 1) scAns.nd rfl (.inl rfl) (pe_make0 T.mkG G hr4 rfl T.gGame T.dIG.b .nil pass0))
    (pss_cons (ps_set (i := 2) scAns.nd rfl (.inl rfl) (pe_lst pa_nil))
    (pss_cons (ps_set (i := 3) scAns.nd rfl (.inl rfl) pe_int)
    (pss_cons (ps_while PassesOwn.never (pt_cmp (pc_lt (pv 3) (pe_callB call_len_seq rfl T.nlen PySem.boot_len (pa_cons (pv 0) pa_nil))))
      (pss_cons (ps_set (i := 4) scAns.nd rfl (.inl rfl) (pe_ix ix_list (pv 0) (pv 3) (fun _ _ => rfl)))
      (pss_cons (ps_set (i := 5) scAns.nd rfl (.inl rfl) (pe_op op_add (pe_op op_add (pv 3) pe_int) (pe_ix ix_tup (pe_glob (v := .ref a.aN) rfl T.gNums rfl) (pv 4) (fun _ _ => rfl))))
      (pss_cons (ps_set (i := 6) scAns.nd rfl (.inl rfl) (pe_ix ix_tup (pe_glob (v := .ref a.aD) rfl T.gDeeds rfl) (pv 4) (fun _ _ => rfl)))
      (pss_cons (ps_set (i := 7) scAns.nd rfl (.inl rfl) (pe_callR (i := 6) (R := Deed a) (held T) hr rfl (.inl rfl) (pa_cons (pv 1) (pa_cons (pe_slice sl_list (pv 0) (po_some (pe_op op_add (pv 3) pe_int)) (po_some (pv 5))) pa_nil))))
      (pss_cons (ps_expr (pe_bm PySem.F.plainAttrs_list PySem.F.slot_list_append PySem.F.type_list_append mt_append (pv 2) (pa_cons (pe_callB call_len_seq rfl T.nlen PySem.boot_len (pa_cons (pv 7) pa_nil)) pa_nil)))
      (pss_cons (ps_expr (pe_bm PySem.F.plainAttrs_list PySem.F.slot_list_extend PySem.F.type_list_extend mt_extend (pv 2) (pa_cons (pv 7) pa_nil)))
      (pss_one (ps_set (i := 3) scAns.nd rfl (.inl rfl) (pv 5))))))))))
    (pss_one (ps_ret (pv 2)))))), ?_⟩
  intro g dx ng nd ne
  have s0 : Same H (upd (upd H dx (.own g)) g (.ins a.cG dx [])) := fun b o e => by
    rw [upd_ne (ne_of_none e ng), upd_ne (ne_of_none e nd)]
    exact e
  refine ⟨g, dx, rfl, upd_same, fun H1 rl wa dd dxw k1 h1 h2 h3 h4 => ⟨rfl, ?_⟩⟩
  have s1 : Same H H1 := fun b o e => k1 b o (s0 b o e) (ne_of_none e ng)
  refine ⟨small (by show 0 ≤ 1000; decide), fun p hp => ?_⟩
  have s2 := same_new hp (.lst [])
  have hp0 : H p = none := s1.free hp
  refine while_by (fun σ H' => ∃ (i : Nat) (v4 v5 v6 v7 : Option V), σ = [some (.ref b), some (.ref g), some (.ref p), some (vi i), v4, v5, v6, v7] ∧ Turn K a H b g wa dd p ns ans H' i)
    (fun σ _ => match σ with | [_, _, _, some (.int i), _, _, _, _] => ns.length - i.toNat | _ => 0)
    ⟨0, none, none, none, none, rfl, [], [], ans, Nat.zero_le _, kg_same (s1.trans s2),
      ⟨⟨dx, rl, s2 _ _ h1, s2 _ _ h2, ne_of_none h2 hp⟩, ⟨⟨dxw, s2 _ _ h3⟩, [], s2 _ _ h4, List.nodup_nil, fun kv m => nomatch m⟩, trivial⟩, upd_same, hG, rfl, Nat.zero_le _⟩ ?_ ?_
  · rintro σ H' ⟨i, v4, v5, v6, v7, rfl, l, fd, rest, hi, kg, GA, hP, hgo, ha, hf⟩
    have hS' := kg.sqL hS
    refine ⟨_, rfl, _, rfl, b, _, rfl, .inl hS', _, _, rfl, rfl, _, rfl, ?_⟩
    rw [ll]
    refine iteD (fun c => ?_) (fun c => ?_)
    · have c : i < ns.length := Int.ofNat_lt.mp c
      have hne : ns.drop i ≠ [] := fun z => by
        have := congrArg List.length z
        rw [List.length_drop, List.length_nil] at this
        omega
      obtain ⟨cc, rest1, ans1, e1, e2, hgo1⟩ := goes_cons hgo hne
      obtain ⟨r1, r2, r3, r4⟩ := read_call e1
      refine ⟨_, rfl, _, rfl, b, _, _, .int (codeC cc : Int), rfl, rfl, hS', atI_nat (by rw [List.getElem?_map, r1] <;> rfl), ?_⟩
      refine ⟨_, rfl, _, _, rfl, rfl, _, rfl, a.aN, _, _, _, rfl, rfl, sqT_any T.sNums, at_nums cc, _, _, rfl, rfl, ?_⟩
      have e5 : ((i : Int) + 1 + ((argsOf cc).length : Int)) = ((i + 1 + (argsOf cc).length : Nat) : Int) := by omega
      refine ⟨_, rfl, a.aD, _, _, _, rfl, rfl, sqT_any T.sDeeds, at_deeds cc, ?_⟩
      refine ⟨a.f (31 + codeC cc), spOf a cc, rfl, ⟨cc, rfl, rfl⟩, ?_⟩
      refine ⟨_, rfl, _, rfl, _, rfl, _, _, rfl, rfl, _, rfl, _, rfl, _, rfl, b, _, rfl, hS', fun t ht => ?_⟩
      have e6 : cutV (ns.map V.int) (some ((i : Int) + 1)) (some ((i : Int) + 1 + ((argsOf cc).length : Int))) = (argsOf cc).map V.int := by
        rw [e5]
        have := cut_ints ns (i + 1) (argsOf cc).length
        rw [r2] at this
        exact this
      have s3 := same_new ht (.lst (cutV (ns.map V.int) (some ((i : Int) + 1)) (some ((i : Int) + 1 + ((argsOf cc).length : Int)))))
      refine ⟨g, t, wa, dd, p, l, fd.map V.int, rfl, (by rw [← e6]; exact upd_same), s3 _ _ hP, GA.same s3, fun H4 r nr k4 G4 h4r => ?_⟩
      have k34 : Kg H' H4 := (kg_same s3).trans k4
      have hP4 := k34.lst hP
      have hsl := said_le l cc
      have lr : ((pstep l cc).2.map V.int).length = (pstep l cc).2.length := List.length_map _
      refine ⟨_, rfl, .inl ⟨rfl, _, SqL.of hP4⟩, _, rfl, r, _, rfl, .inl (SqL.of h4r), p, _, _, rfl, rfl, hP4, (by rw [List.length_map]; exact size_ok (by omega)), ?_⟩
      have h5r : upd H4 p (.lst (fd.map V.int ++ [.int (((pstep l cc).2.map V.int).length : Nat)])) r = some (.lst ((pstep l cc).2.map V.int)) := by
        rw [upd_ne nr]
        exact h4r
      refine ⟨_, rfl, .inl ⟨rfl, _, SqL.of upd_same⟩, _, rfl, p, r, _, _, rfl, rfl, upd_same, h5r, ?_, ?_⟩
      · rw [List.length_append, List.length_map, List.length_map, List.length_singleton]
        exact Nat.le_of_lt (size_ok (by omega))
      refine ⟨_, rfl, ⟨i + 1 + (argsOf cc).length, some (.int (codeC cc : Int)), some (.int ((i : Int) + 1 + ((argsOf cc).length : Int))), some (.ref (a.f (31 + codeC cc))), some (.ref r), ?_, (pstep l cc).1, fd ++ (((pstep l cc).2.length : Int) :: (pstep l cc).2), ans1, r4, ?_, ?_, ?_, ?_, ?_, ?_⟩, ?_⟩
      · show [some (V.ref b), some (.ref g), some (.ref p), some (.int ((i : Int) + 1 + ((argsOf cc).length : Int))), _, _, _, _] = _
        rw [e5]
        rfl
      · exact kg_own ((kg.trans k34)) hp0
      · exact G4.fill hP4
      · rw [upd_upd, upd_same, lr, List.map_append, List.append_assoc]
        rfl
      · rw [r3]
        exact hgo1
      · rw [ha, e2]
        simp
      · rw [List.length_append, List.length_cons]
        omega
      · show ns.length - ((i : Int) + 1 + ((argsOf cc).length : Int)).toNat < ns.length - ((i : Int)).toNat
        omega
    · have c : ¬ i < ns.length := fun z => c (Int.ofNat_lt.mpr z)
      have e0 : ns.drop i = [] := List.drop_eq_nil_of_le (by omega)
      rw [e0] at hgo
      have e1 := goes_nil hgo
      rw [e1, List.append_nil] at ha
      exact ⟨_, rfl, q H' p (by rw [ha]; exact hP)⟩
  · rintro σ H' Q1 Q2 hq ⟨v, e1, v2, e2, x, xs, r1, r2, i, j, r3, r4, c, r5, r6⟩
    exact ⟨v, e1, v2, e2, x, xs, r1, r2, i, j, r3, r4, c, r5, hq _ _ r6⟩
end
end Pin

/-! The end: what the top has written; the row. Printed by gen_end.py. -/
namespace Pin
open PySem PySem.Spec PyProof.Rows L2
open PySem.W (Codec)
theorem sqT_made {K : PySem.W.Frag} {H : Hp} {x : Addr} {od : Option Addr} {its : Array Value} {n : Nat} {sl : Array (Option Value)} {xs : List V} (l : K.lookup x = some ⟨.type "tuple", od, .seq its n, sl⟩) (z : its.size ≤ 1000) (r : Vals xs its.toList) : SqT K H x xs :=
  .inr ⟨_, its, n, l, rfl, rfl, small z, r⟩
theorem made_in {K : PySem.W.Frag} {x qual : Str} {st : Stmt} {ps : List Str} {f : Addr} {fd : FuncData} (F : Fun K x qual st f fd)
    (h : ∀ (kV doc pm : Value) (an : Option Addr) (cdv ct : Value) (us : List Value), us.length = ps.length → bindArgs (PySem.W.fnOf x qual (defArgs st) (defBody st) (defScope st) .none kV doc pm an cdv ct) ⟨us, []⟩ = pure (ps.zip us)) : DefAt K x qual st ps f fd := ⟨F, F.binds h⟩
theorem all_mk {P : Program} {w : World} {K : PySem.W.Frag} {h : Heap} {mg : Str → Option Value} {fa : Addr} (X : K.In h) (G : h.Ns mainGlobals mg) (hfa : mg "answers" = some (.ref fa))
    {f4 : Addr}
    {od4 an4 : Option Addr} {sl4 : Array (Option Value)} {oc4 kV4 dc4 pm4 cd4 ct4 : Value}
    {f5 : Addr}
    {od5 an5 : Option Addr} {sl5 : Array (Option Value)} {oc5 kV5 dc5 pm5 cd5 ct5 : Value}
    {f6 : Addr}
    {od6 an6 : Option Addr} {sl6 : Array (Option Value)} {oc6 kV6 dc6 pm6 cd6 ct6 : Value}
    {f7 : Addr}
    {od7 an7 : Option Addr} {sl7 : Array (Option Value)} {oc7 kV7 dc7 pm7 cd7 ct7 : Value}
    {f8 : Addr}
    {od8 an8 : Option Addr} {sl8 : Array (Option Value)} {oc8 kV8 dc8 pm8 cd8 ct8 : Value}
    {f9 : Addr}
    {od9 an9 : Option Addr} {sl9 : Array (Option Value)} {oc9 kV9 dc9 pm9 cd9 ct9 : Value}
    {f10 : Addr}
    {od10 an10 : Option Addr} {sl10 : Array (Option Value)} {oc10 kV10 dc10 pm10 cd10 ct10 : Value}
    {f11 : Addr}
    {od11 an11 : Option Addr} {sl11 : Array (Option Value)} {oc11 kV11 dc11 pm11 cd11 ct11 : Value}
    {f12 : Addr}
    {od12 an12 : Option Addr} {sl12 : Array (Option Value)} {oc12 kV12 dc12 pm12 cd12 ct12 : Value}
    {f13 : Addr}
    {od13 an13 : Option Addr} {sl13 : Array (Option Value)} {oc13 kV13 dc13 pm13 cd13 ct13 : Value}
    {f17 : Addr}
    {od17 an17 : Option Addr} {sl17 : Array (Option Value)} {oc17 kV17 dc17 pm17 cd17 ct17 : Value}
    {f18 : Addr}
    {od18 an18 : Option Addr} {sl18 : Array (Option Value)} {oc18 kV18 dc18 pm18 cd18 ct18 : Value}
    {f21 : Addr}
    {od21 an21 : Option Addr} {sl21 : Array (Option Value)} {oc21 kV21 dc21 pm21 cd21 ct21 : Value}
    {f22 : Addr}
    {od22 an22 : Option Addr} {sl22 : Array (Option Value)} {oc22 kV22 dc22 pm22 cd22 ct22 : Value}
    {f23 : Addr}
    {od23 an23 : Option Addr} {sl23 : Array (Option Value)} {oc23 kV23 dc23 pm23 cd23 ct23 : Value}
    {f24 : Addr}
    {od24 an24 : Option Addr} {sl24 : Array (Option Value)} {oc24 kV24 dc24 pm24 cd24 ct24 : Value}
    {f25 : Addr}
    {od25 an25 : Option Addr} {sl25 : Array (Option Value)} {oc25 kV25 dc25 pm25 cd25 ct25 : Value}
    {f26 : Addr}
    {od26 an26 : Option Addr} {sl26 : Array (Option Value)} {oc26 kV26 dc26 pm26 cd26 ct26 : Value}
    {f31 : Addr}
    {od31 an31 : Option Addr} {sl31 : Array (Option Value)} {oc31 kV31 dc31 pm31 cd31 ct31 : Value}
    {f32 : Addr}
    {od32 an32 : Option Addr} {sl32 : Array (Option Value)} {oc32 kV32 dc32 pm32 cd32 ct32 : Value}
    {f33 : Addr}
    {od33 an33 : Option Addr} {sl33 : Array (Option Value)} {oc33 kV33 dc33 pm33 cd33 ct33 : Value}
    {f34 : Addr}
    {od34 an34 : Option Addr} {sl34 : Array (Option Value)} {oc34 kV34 dc34 pm34 cd34 ct34 : Value}
    {f35 : Addr}
    {od35 an35 : Option Addr} {sl35 : Array (Option Value)} {oc35 kV35 dc35 pm35 cd35 ct35 : Value}
    {f36 : Addr}
    {od36 an36 : Option Addr} {sl36 : Array (Option Value)} {oc36 kV36 dc36 pm36 cd36 ct36 : Value}
    {f37 : Addr}
    {od37 an37 : Option Addr} {sl37 : Array (Option Value)} {oc37 kV37 dc37 pm37 cd37 ct37 : Value}
    {f38 : Addr}
    {od38 an38 : Option Addr} {sl38 : Array (Option Value)} {oc38 kV38 dc38 pm38 cd38 ct38 : Value}
    {f41 : Addr}
    {od41 an41 : Option Addr} {sl41 : Array (Option Value)} {oc41 kV41 dc41 pm41 cd41 ct41 : Value}
    {cW : Addr}
    {cG : Addr}
    {f100 : Addr}
    {od100 an100 : Option Addr} {sl100 : Array (Option Value)} {oc100 kV100 dc100 pm100 cd100 ct100 : Value}
    {f101 : Addr}
    {od101 an101 : Option Addr} {sl101 : Array (Option Value)} {oc101 kV101 dc101 pm101 cd101 ct101 : Value}
    {f102 : Addr}
    {od102 an102 : Option Addr} {sl102 : Array (Option Value)} {oc102 kV102 dc102 pm102 cd102 ct102 : Value}
    {t_PINS_rolling : Tok}
    {t_LAST : Tok}
    {t_PINS_scoring : Tok}
    {t_FRAMES_scoring : Tok}
    {t_MOST : Tok}
    {t_FRAMES_desk : Tok}
    {xO : Addr} {odO : Option Addr} {nO : Nat} {slO : Array (Option Value)}
    {tO0 : Tok}
    {tO1 : Tok}
    {tO2 : Tok}
    {tO3 : Tok}
    {tO4 : Tok}
    {tO5 : Tok}
    {xD : Addr} {odD : Option Addr} {nD : Nat} {slD : Array (Option Value)}
    {xN : Addr} {odN : Option Addr} {nN : Nat} {slN : Array (Option Value)}
    {tN0 : Tok}
    {tN1 : Tok}
    {tN2 : Tok}
    {tN3 : Tok}
    {tN4 : Tok}
    {tN5 : Tok}
    {tN6 : Tok}
    {tN7 : Tok}
    (a4 : PySem.W.nsIn K mainGlobals "beginning" = some (some (.ref f4)))
    (l4 : K.lookup f4 = some ⟨oc4, od4, .func (PySem.W.fnOf "beginning" "beginning" (defArgs sBeg) (defBody sBeg) (defScope sBeg) .none kV4 dc4 pm4 an4 cd4 ct4), sl4⟩)
    (c4 : PySem.W.codeIn K cd4 "beginning" = true)
    (k4 : PySem.W.keepIn K (.ref f4) = true)
    (a5 : PySem.W.nsIn K mainGlobals "is_over" = some (some (.ref f5)))
    (l5 : K.lookup f5 = some ⟨oc5, od5, .func (PySem.W.fnOf "is_over" "is_over" (defArgs sIsO) (defBody sIsO) (defScope sIsO) .none kV5 dc5 pm5 an5 cd5 ct5), sl5⟩)
    (c5 : PySem.W.codeIn K cd5 "is_over" = true)
    (k5 : PySem.W.keepIn K (.ref f5) = true)
    (a6 : PySem.W.nsIn K mainGlobals "counts" = some (some (.ref f6)))
    (l6 : K.lookup f6 = some ⟨oc6, od6, .func (PySem.W.fnOf "counts" "counts" (defArgs sCnt) (defBody sCnt) (defScope sCnt) .none kV6 dc6 pm6 an6 cd6 ct6), sl6⟩)
    (c6 : PySem.W.codeIn K cd6 "counts" = true)
    (k6 : PySem.W.keepIn K (.ref f6) = true)
    (a7 : PySem.W.nsIn K mainGlobals "next_frame" = some (some (.ref f7)))
    (l7 : K.lookup f7 = some ⟨oc7, od7, .func (PySem.W.fnOf "next_frame" "next_frame" (defArgs sNxt) (defBody sNxt) (defScope sNxt) .none kV7 dc7 pm7 an7 cd7 ct7), sl7⟩)
    (c7 : PySem.W.codeIn K cd7 "next_frame" = true)
    (k7 : PySem.W.keepIn K (.ref f7) = true)
    (a8 : PySem.W.nsIn K mainGlobals "behind_early" = some (some (.ref f8)))
    (l8 : K.lookup f8 = some ⟨oc8, od8, .func (PySem.W.fnOf "behind_early" "behind_early" (defArgs sEar) (defBody sEar) (defScope sEar) .none kV8 dc8 pm8 an8 cd8 ct8), sl8⟩)
    (c8 : PySem.W.codeIn K cd8 "behind_early" = true)
    (k8 : PySem.W.keepIn K (.ref f8) = true)
    (a9 : PySem.W.nsIn K mainGlobals "anew" = some (some (.ref f9)))
    (l9 : K.lookup f9 = some ⟨oc9, od9, .func (PySem.W.fnOf "anew" "anew" (defArgs sAne) (defBody sAne) (defScope sAne) .none kV9 dc9 pm9 an9 cd9 ct9), sl9⟩)
    (c9 : PySem.W.codeIn K cd9 "anew" = true)
    (k9 : PySem.W.keepIn K (.ref f9) = true)
    (a10 : PySem.W.nsIn K mainGlobals "behind_last" = some (some (.ref f10)))
    (l10 : K.lookup f10 = some ⟨oc10, od10, .func (PySem.W.fnOf "behind_last" "behind_last" (defArgs sLas) (defBody sLas) (defScope sLas) .none kV10 dc10 pm10 an10 cd10 ct10), sl10⟩)
    (c10 : PySem.W.codeIn K cd10 "behind_last" = true)
    (k10 : PySem.W.keepIn K (.ref f10) = true)
    (a11 : PySem.W.nsIn K mainGlobals "behind" = some (some (.ref f11)))
    (l11 : K.lookup f11 = some ⟨oc11, od11, .func (PySem.W.fnOf "behind" "behind" (defArgs sBeh) (defBody sBeh) (defScope sBeh) .none kV11 dc11 pm11 an11 cd11 ct11), sl11⟩)
    (c11 : PySem.W.codeIn K cd11 "behind" = true)
    (k11 : PySem.W.keepIn K (.ref f11) = true)
    (a12 : PySem.W.nsIn K mainGlobals "place_of" = some (some (.ref f12)))
    (l12 : K.lookup f12 = some ⟨oc12, od12, .func (PySem.W.fnOf "place_of" "place_of" (defArgs sPla) (defBody sPla) (defScope sPla) .none kV12 dc12 pm12 an12 cd12 ct12), sl12⟩)
    (c12 : PySem.W.codeIn K cd12 "place_of" = true)
    (k12 : PySem.W.keepIn K (.ref f12) = true)
    (a13 : PySem.W.nsIn K mainGlobals "counted" = some (some (.ref f13)))
    (l13 : K.lookup f13 = some ⟨oc13, od13, .func (PySem.W.fnOf "counted" "counted" (defArgs sCtd) (defBody sCtd) (defScope sCtd) .none kV13 dc13 pm13 an13 cd13 ct13), sl13⟩)
    (c13 : PySem.W.codeIn K cd13 "counted" = true)
    (k13 : PySem.W.keepIn K (.ref f13) = true)
    (a17 : PySem.W.nsIn K mainGlobals "wanted" = some (some (.ref f17)))
    (l17 : K.lookup f17 = some ⟨oc17, od17, .func (PySem.W.fnOf "wanted" "wanted" (defArgs sWan) (defBody sWan) (defScope sWan) .none kV17 dc17 pm17 an17 cd17 ct17), sl17⟩)
    (c17 : PySem.W.codeIn K cd17 "wanted" = true)
    (k17 : PySem.W.keepIn K (.ref f17) = true)
    (a18 : PySem.W.nsIn K mainGlobals "known_scores" = some (some (.ref f18)))
    (l18 : K.lookup f18 = some ⟨oc18, od18, .func (PySem.W.fnOf "known_scores" "known_scores" (defArgs sKno) (defBody sKno) (defScope sKno) .none kV18 dc18 pm18 an18 cd18 ct18), sl18⟩)
    (c18 : PySem.W.codeIn K cd18 "known_scores" = true)
    (k18 : PySem.W.keepIn K (.ref f18) = true)
    (a21 : PySem.W.nsIn K mainGlobals "added" = some (some (.ref f21)))
    (l21 : K.lookup f21 = some ⟨oc21, od21, .func (PySem.W.fnOf "added" "added" (defArgs sAdd) (defBody sAdd) (defScope sAdd) .none kV21 dc21 pm21 an21 cd21 ct21), sl21⟩)
    (c21 : PySem.W.codeIn K cd21 "added" = true)
    (k21 : PySem.W.keepIn K (.ref f21) = true)
    (a22 : PySem.W.nsIn K mainGlobals "worked_out" = some (some (.ref f22)))
    (l22 : K.lookup f22 = some ⟨oc22, od22, .func (PySem.W.fnOf "worked_out" "worked_out" (defArgs sWor) (defBody sWor) (defScope sWor) .none kV22 dc22 pm22 an22 cd22 ct22), sl22⟩)
    (c22 : PySem.W.codeIn K cd22 "worked_out" = true)
    (k22 : PySem.W.keepIn K (.ref f22) = true)
    (a23 : PySem.W.nsIn K mainGlobals "ways_from" = some (some (.ref f23)))
    (l23 : K.lookup f23 = some ⟨oc23, od23, .func (PySem.W.fnOf "ways_from" "ways_from" (defArgs sWay) (defBody sWay) (defScope sWay) .none kV23 dc23 pm23 an23 cd23 ct23), sl23⟩)
    (c23 : PySem.W.codeIn K cd23 "ways_from" = true)
    (k23 : PySem.W.keepIn K (.ref f23) = true)
    (a24 : PySem.W.nsIn K mainGlobals "least_worth" = some (some (.ref f24)))
    (l24 : K.lookup f24 = some ⟨oc24, od24, .func (PySem.W.fnOf "least_worth" "least_worth" (defArgs sLea) (defBody sLea) (defScope sLea) .none kV24 dc24 pm24 an24 cd24 ct24), sl24⟩)
    (c24 : PySem.W.codeIn K cd24 "least_worth" = true)
    (k24 : PySem.W.keepIn K (.ref f24) = true)
    (a25 : PySem.W.nsIn K mainGlobals "most_worth" = some (some (.ref f25)))
    (l25 : K.lookup f25 = some ⟨oc25, od25, .func (PySem.W.fnOf "most_worth" "most_worth" (defArgs sMos) (defBody sMos) (defScope sMos) .none kV25 dc25 pm25 an25 cd25 ct25), sl25⟩)
    (c25 : PySem.W.codeIn K cd25 "most_worth" = true)
    (k25 : PySem.W.keepIn K (.ref f25) = true)
    (a26 : PySem.W.nsIn K mainGlobals "ways_to" = some (some (.ref f26)))
    (l26 : K.lookup f26 = some ⟨oc26, od26, .func (PySem.W.fnOf "ways_to" "ways_to" (defArgs sWto) (defBody sWto) (defScope sWto) .none kV26 dc26 pm26 an26 cd26 ct26), sl26⟩)
    (c26 : PySem.W.codeIn K cd26 "ways_to" = true)
    (k26 : PySem.W.keepIn K (.ref f26) = true)
    (a31 : PySem.W.nsIn K mainGlobals "start" = some (some (.ref f31)))
    (l31 : K.lookup f31 = some ⟨oc31, od31, .func (PySem.W.fnOf "start" "start" (defArgs sSta) (defBody sSta) (defScope sSta) .none kV31 dc31 pm31 an31 cd31 ct31), sl31⟩)
    (c31 : PySem.W.codeIn K cd31 "start" = true)
    (k31 : PySem.W.keepIn K (.ref f31) = true)
    (a32 : PySem.W.nsIn K mainGlobals "roll" = some (some (.ref f32)))
    (l32 : K.lookup f32 = some ⟨oc32, od32, .func (PySem.W.fnOf "roll" "roll" (defArgs sRol) (defBody sRol) (defScope sRol) .none kV32 dc32 pm32 an32 cd32 ct32), sl32⟩)
    (c32 : PySem.W.codeIn K cd32 "roll" = true)
    (k32 : PySem.W.keepIn K (.ref f32) = true)
    (a33 : PySem.W.nsIn K mainGlobals "back" = some (some (.ref f33)))
    (l33 : K.lookup f33 = some ⟨oc33, od33, .func (PySem.W.fnOf "back" "back" (defArgs sBac) (defBody sBac) (defScope sBac) .none kV33 dc33 pm33 an33 cd33 ct33), sl33⟩)
    (c33 : PySem.W.codeIn K cd33 "back" = true)
    (k33 : PySem.W.keepIn K (.ref f33) = true)
    (a34 : PySem.W.nsIn K mainGlobals "score" = some (some (.ref f34)))
    (l34 : K.lookup f34 = some ⟨oc34, od34, .func (PySem.W.fnOf "score" "score" (defArgs sSco) (defBody sSco) (defScope sSco) .none kV34 dc34 pm34 an34 cd34 ct34), sl34⟩)
    (c34 : PySem.W.codeIn K cd34 "score" = true)
    (k34 : PySem.W.keepIn K (.ref f34) = true)
    (a35 : PySem.W.nsIn K mainGlobals "frame" = some (some (.ref f35)))
    (l35 : K.lookup f35 = some ⟨oc35, od35, .func (PySem.W.fnOf "frame" "frame" (defArgs sFra) (defBody sFra) (defScope sFra) .none kV35 dc35 pm35 an35 cd35 ct35), sl35⟩)
    (c35 : PySem.W.codeIn K cd35 "frame" = true)
    (k35 : PySem.W.keepIn K (.ref f35) = true)
    (a36 : PySem.W.nsIn K mainGlobals "range_told" = some (some (.ref f36)))
    (l36 : K.lookup f36 = some ⟨oc36, od36, .func (PySem.W.fnOf "range_told" "range_told" (defArgs sRan) (defBody sRan) (defScope sRan) .none kV36 dc36 pm36 an36 cd36 ct36), sl36⟩)
    (c36 : PySem.W.codeIn K cd36 "range_told" = true)
    (k36 : PySem.W.keepIn K (.ref f36) = true)
    (a37 : PySem.W.nsIn K mainGlobals "ways_told" = some (some (.ref f37)))
    (l37 : K.lookup f37 = some ⟨oc37, od37, .func (PySem.W.fnOf "ways_told" "ways_told" (defArgs sWtd) (defBody sWtd) (defScope sWtd) .none kV37 dc37 pm37 an37 cd37 ct37), sl37⟩)
    (c37 : PySem.W.codeIn K cd37 "ways_told" = true)
    (k37 : PySem.W.keepIn K (.ref f37) = true)
    (a38 : PySem.W.nsIn K mainGlobals "state" = some (some (.ref f38)))
    (l38 : K.lookup f38 = some ⟨oc38, od38, .func (PySem.W.fnOf "state" "state" (defArgs sSts) (defBody sSts) (defScope sSts) .none kV38 dc38 pm38 an38 cd38 ct38), sl38⟩)
    (c38 : PySem.W.codeIn K cd38 "state" = true)
    (k38 : PySem.W.keepIn K (.ref f38) = true)
    (a41 : PySem.W.nsIn K mainGlobals "answers" = some (some (.ref f41)))
    (l41 : K.lookup f41 = some ⟨oc41, od41, .func (PySem.W.fnOf "answers" "answers" (defArgs sAns) (defBody sAns) (defScope sAns) .none kV41 dc41 pm41 an41 cd41 ct41), sl41⟩)
    (c41 : PySem.W.codeIn K cd41 "answers" = true)
    (k41 : PySem.W.keepIn K (.ref f41) = true)
    (acW : PySem.W.nsIn K mainGlobals "Ways" = some (some (.ref cW)))
    (pgW : PySem.W.plainGet K cW Str.empty = true)
    (hdW : PySem.W.hasDictIn K cW = true)
    (poW : PySem.W.plainOver K cW = true)
    (saW : PySem.W.findIn K (.ref cW) "__setattr__" = some (some (.builtin "object.__setattr__")))
    (mkW : PySem.W.makesIn K cW = true)
    (kcW : PySem.W.keepIn K (.ref cW) = true)
    (nW_known : PySem.W.findIn K (.ref cW) "known" = some none)
    (acG : PySem.W.nsIn K mainGlobals "Game" = some (some (.ref cG)))
    (pgG : PySem.W.plainGet K cG Str.empty = true)
    (hdG : PySem.W.hasDictIn K cG = true)
    (poG : PySem.W.plainOver K cG = true)
    (saG : PySem.W.findIn K (.ref cG) "__setattr__" = some (some (.builtin "object.__setattr__")))
    (mkG : PySem.W.makesIn K cG = true)
    (kcG : PySem.W.keepIn K (.ref cG) = true)
    (nG_rolls : PySem.W.findIn K (.ref cG) "rolls" = some none)
    (nG_ways : PySem.W.findIn K (.ref cG) "ways" = some none)
    (a100 : PySem.W.findIn K (.ref cW) "__init__" = some (some (.ref f100)))
    (i100 : PySem.W.isFn K (.ref f100) = true)
    (l100 : K.lookup f100 = some ⟨oc100, od100, .func (PySem.W.fnOf "__init__" "Ways.__init__" (defArgs sIW) (defBody sIW) (defScope sIW) .none kV100 dc100 pm100 an100 cd100 ct100), sl100⟩)
    (c100 : PySem.W.codeIn K cd100 "Ways.__init__" = true)
    (k100 : PySem.W.keepIn K (.ref f100) = true)
    (a101 : PySem.W.findIn K (.ref cG) "__init__" = some (some (.ref f101)))
    (i101 : PySem.W.isFn K (.ref f101) = true)
    (l101 : K.lookup f101 = some ⟨oc101, od101, .func (PySem.W.fnOf "__init__" "Game.__init__" (defArgs sIG) (defBody sIG) (defScope sIG) .none kV101 dc101 pm101 an101 cd101 ct101), sl101⟩)
    (c101 : PySem.W.codeIn K cd101 "Game.__init__" = true)
    (k101 : PySem.W.keepIn K (.ref f101) = true)
    (a102 : PySem.W.findIn K (.ref cG) "to_come" = some (some (.ref f102)))
    (i102 : PySem.W.isFn K (.ref f102) = true)
    (l102 : K.lookup f102 = some ⟨oc102, od102, .func (PySem.W.fnOf "to_come" "Game.to_come" (defArgs sToC) (defBody sToC) (defScope sToC) .none kV102 dc102 pm102 an102 cd102 ct102), sl102⟩)
    (c102 : PySem.W.codeIn K cd102 "Game.to_come" = true)
    (k102 : PySem.W.keepIn K (.ref f102) = true)
    (v_PINS_rolling : PySem.W.nsIn K mainGlobals "PINS_rolling" = some (some (.int 10 t_PINS_rolling)))
    (v_LAST : PySem.W.nsIn K mainGlobals "LAST" = some (some (.int 9 t_LAST)))
    (v_PINS_scoring : PySem.W.nsIn K mainGlobals "PINS_scoring" = some (some (.int 10 t_PINS_scoring)))
    (v_FRAMES_scoring : PySem.W.nsIn K mainGlobals "FRAMES_scoring" = some (some (.int 10 t_FRAMES_scoring)))
    (v_MOST : PySem.W.nsIn K mainGlobals "MOST" = some (some (.int 300 t_MOST)))
    (v_FRAMES_desk : PySem.W.nsIn K mainGlobals "FRAMES_desk" = some (some (.int 10 t_FRAMES_desk)))
    (z_len : PySem.W.nsIn K mainGlobals "len" = some none)
    (z_range : PySem.W.nsIn K mainGlobals "range" = some none)
    (z_sum : PySem.W.nsIn K mainGlobals "sum" = some none)
    (z_int : PySem.W.nsIn K mainGlobals "int" = some none)
    (z_enumerate : PySem.W.nsIn K mainGlobals "enumerate" = some none)
    (gO : PySem.W.nsIn K mainGlobals "OVER" = some (some (.ref xO)))
    (sO : K.lookup xO = some ⟨.type "tuple", odO, .seq #[.int 10 tO0, .int 0 tO1, .int 0 tO2, .int 0 tO3, .int 0 tO4, .int 0 tO5] nO, slO⟩)
    (gD : PySem.W.nsIn K mainGlobals "DEEDS" = some (some (.ref xD)))
    (sD : K.lookup xD = some ⟨.type "tuple", odD, .seq #[.ref f31, .ref f32, .ref f33, .ref f34, .ref f35, .ref f36, .ref f37, .ref f38] nD, slD⟩)
    (gN : PySem.W.nsIn K mainGlobals "NUMBERS" = some (some (.ref xN)))
    (sN : K.lookup xN = some ⟨.type "tuple", odN, .seq #[.int 0 tN0, .int 1 tN1, .int 0 tN2, .int 0 tN3, .int 1 tN4, .int 0 tN5, .int 1 tN6, .int 0 tN7] nN, slN⟩)
    : ∃ fd : FuncData, (∀ (s : Shared) (us : List Value), us.length = (["calls"] : List Str).length → BindsTo s fd ⟨us, []⟩ ((["calls"] : List Str).zip us)) ∧ ∀ base : Heap, K.In base → base.Ns mainGlobals mg → FnOk P w K mg base CX0 49 fa fd ["calls"] (spAns K) := by
  have e := hfa.symm.trans (PySem.W.mg_of X G a41)
  cases e
  let a : Ad := {
    f := (fun i => match i with | 4 => f4 | 5 => f5 | 6 => f6 | 7 => f7 | 8 => f8 | 9 => f9 | 10 => f10 | 11 => f11 | 12 => f12 | 13 => f13 | 17 => f17 | 18 => f18 | 21 => f21 | 22 => f22 | 23 => f23 | 24 => f24 | 25 => f25 | 26 => f26 | 31 => f31 | 32 => f32 | 33 => f33 | 34 => f34 | 35 => f35 | 36 => f36 | 37 => f37 | 38 => f38 | 41 => fa | 100 => f100 | 101 => f101 | 102 => f102 | _ => f4)
    d := (fun i => match i with | 4 => PySem.W.fnOf "beginning" "beginning" (defArgs sBeg) (defBody sBeg) (defScope sBeg) .none kV4 dc4 pm4 an4 cd4 ct4 | 5 => PySem.W.fnOf "is_over" "is_over" (defArgs sIsO) (defBody sIsO) (defScope sIsO) .none kV5 dc5 pm5 an5 cd5 ct5 | 6 => PySem.W.fnOf "counts" "counts" (defArgs sCnt) (defBody sCnt) (defScope sCnt) .none kV6 dc6 pm6 an6 cd6 ct6 | 7 => PySem.W.fnOf "next_frame" "next_frame" (defArgs sNxt) (defBody sNxt) (defScope sNxt) .none kV7 dc7 pm7 an7 cd7 ct7 | 8 => PySem.W.fnOf "behind_early" "behind_early" (defArgs sEar) (defBody sEar) (defScope sEar) .none kV8 dc8 pm8 an8 cd8 ct8 | 9 => PySem.W.fnOf "anew" "anew" (defArgs sAne) (defBody sAne) (defScope sAne) .none kV9 dc9 pm9 an9 cd9 ct9 | 10 => PySem.W.fnOf "behind_last" "behind_last" (defArgs sLas) (defBody sLas) (defScope sLas) .none kV10 dc10 pm10 an10 cd10 ct10 | 11 => PySem.W.fnOf "behind" "behind" (defArgs sBeh) (defBody sBeh) (defScope sBeh) .none kV11 dc11 pm11 an11 cd11 ct11 | 12 => PySem.W.fnOf "place_of" "place_of" (defArgs sPla) (defBody sPla) (defScope sPla) .none kV12 dc12 pm12 an12 cd12 ct12 | 13 => PySem.W.fnOf "counted" "counted" (defArgs sCtd) (defBody sCtd) (defScope sCtd) .none kV13 dc13 pm13 an13 cd13 ct13 | 17 => PySem.W.fnOf "wanted" "wanted" (defArgs sWan) (defBody sWan) (defScope sWan) .none kV17 dc17 pm17 an17 cd17 ct17 | 18 => PySem.W.fnOf "known_scores" "known_scores" (defArgs sKno) (defBody sKno) (defScope sKno) .none kV18 dc18 pm18 an18 cd18 ct18 | 21 => PySem.W.fnOf "added" "added" (defArgs sAdd) (defBody sAdd) (defScope sAdd) .none kV21 dc21 pm21 an21 cd21 ct21 | 22 => PySem.W.fnOf "worked_out" "worked_out" (defArgs sWor) (defBody sWor) (defScope sWor) .none kV22 dc22 pm22 an22 cd22 ct22 | 23 => PySem.W.fnOf "ways_from" "ways_from" (defArgs sWay) (defBody sWay) (defScope sWay) .none kV23 dc23 pm23 an23 cd23 ct23 | 24 => PySem.W.fnOf "least_worth" "least_worth" (defArgs sLea) (defBody sLea) (defScope sLea) .none kV24 dc24 pm24 an24 cd24 ct24 | 25 => PySem.W.fnOf "most_worth" "most_worth" (defArgs sMos) (defBody sMos) (defScope sMos) .none kV25 dc25 pm25 an25 cd25 ct25 | 26 => PySem.W.fnOf "ways_to" "ways_to" (defArgs sWto) (defBody sWto) (defScope sWto) .none kV26 dc26 pm26 an26 cd26 ct26 | 31 => PySem.W.fnOf "start" "start" (defArgs sSta) (defBody sSta) (defScope sSta) .none kV31 dc31 pm31 an31 cd31 ct31 | 32 => PySem.W.fnOf "roll" "roll" (defArgs sRol) (defBody sRol) (defScope sRol) .none kV32 dc32 pm32 an32 cd32 ct32 | 33 => PySem.W.fnOf "back" "back" (defArgs sBac) (defBody sBac) (defScope sBac) .none kV33 dc33 pm33 an33 cd33 ct33 | 34 => PySem.W.fnOf "score" "score" (defArgs sSco) (defBody sSco) (defScope sSco) .none kV34 dc34 pm34 an34 cd34 ct34 | 35 => PySem.W.fnOf "frame" "frame" (defArgs sFra) (defBody sFra) (defScope sFra) .none kV35 dc35 pm35 an35 cd35 ct35 | 36 => PySem.W.fnOf "range_told" "range_told" (defArgs sRan) (defBody sRan) (defScope sRan) .none kV36 dc36 pm36 an36 cd36 ct36 | 37 => PySem.W.fnOf "ways_told" "ways_told" (defArgs sWtd) (defBody sWtd) (defScope sWtd) .none kV37 dc37 pm37 an37 cd37 ct37 | 38 => PySem.W.fnOf "state" "state" (defArgs sSts) (defBody sSts) (defScope sSts) .none kV38 dc38 pm38 an38 cd38 ct38 | 41 => PySem.W.fnOf "answers" "answers" (defArgs sAns) (defBody sAns) (defScope sAns) .none kV41 dc41 pm41 an41 cd41 ct41 | 100 => PySem.W.fnOf "__init__" "Ways.__init__" (defArgs sIW) (defBody sIW) (defScope sIW) .none kV100 dc100 pm100 an100 cd100 ct100 | 101 => PySem.W.fnOf "__init__" "Game.__init__" (defArgs sIG) (defBody sIG) (defScope sIG) .none kV101 dc101 pm101 an101 cd101 ct101 | 102 => PySem.W.fnOf "to_come" "Game.to_come" (defArgs sToC) (defBody sToC) (defScope sToC) .none kV102 dc102 pm102 an102 cd102 ct102 | _ => PySem.W.fnOf "" "" (defArgs sBeg) (defBody sBeg) (defScope sBeg) .none kV4 dc4 pm4 an4 cd4 ct4)
    cW := cW
    cG := cG
    aO := xO
    aD := xD
    aN := xN }
  have T : Top K mg a := {
    dBeg := made_in (ps := []) (fun_mk (st := sBeg) l4 c4 k4) fun _ _ _ _ _ _ us hl => match us, hl with | [], _ => rfl
    gBeg := PySem.W.mg_of X G a4
    dIsO := made_in (ps := ["place"]) (fun_mk (st := sIsO) l5 c5 k5) fun _ _ _ _ _ _ us hl => match us, hl with | [_], _ => rfl
    gIsO := PySem.W.mg_of X G a5
    dCnt := made_in (ps := ["place"]) (fun_mk (st := sCnt) l6 c6 k6) fun _ _ _ _ _ _ us hl => match us, hl with | [_], _ => rfl
    gCnt := PySem.W.mg_of X G a6
    dNxt := made_in (ps := ["frame", "more", "further"]) (fun_mk (st := sNxt) l7 c7 k7) fun _ _ _ _ _ _ us hl => match us, hl with | [_, _, _], _ => rfl
    gNxt := PySem.W.mg_of X G a7
    dEar := made_in (ps := ["place", "n"]) (fun_mk (st := sEar) l8 c8 k8) fun _ _ _ _ _ _ us hl => match us, hl with | [_, _], _ => rfl
    gEar := PySem.W.mg_of X G a8
    dAne := made_in (ps := ["left"]) (fun_mk (st := sAne) l9 c9 k9) fun _ _ _ _ _ _ us hl => match us, hl with | [_], _ => rfl
    gAne := PySem.W.mg_of X G a9
    dLas := made_in (ps := ["place", "n"]) (fun_mk (st := sLas) l10 c10 k10) fun _ _ _ _ _ _ us hl => match us, hl with | [_, _], _ => rfl
    gLas := PySem.W.mg_of X G a10
    dBeh := made_in (ps := ["place", "n"]) (fun_mk (st := sBeh) l11 c11 k11) fun _ _ _ _ _ _ us hl => match us, hl with | [_, _], _ => rfl
    gBeh := PySem.W.mg_of X G a11
    dPla := made_in (ps := ["rolls"]) (fun_mk (st := sPla) l12 c12 k12) fun _ _ _ _ _ _ us hl => match us, hl with | [_], _ => rfl
    gPla := PySem.W.mg_of X G a12
    dCtd := made_in (ps := ["rolls"]) (fun_mk (st := sCtd) l13 c13 k13) fun _ _ _ _ _ _ us hl => match us, hl with | [_], _ => rfl
    gCtd := PySem.W.mg_of X G a13
    dWan := made_in (ps := ["rolls", "at", "frame"]) (fun_mk (st := sWan) l17 c17 k17) fun _ _ _ _ _ _ us hl => match us, hl with | [_, _, _], _ => rfl
    gWan := PySem.W.mg_of X G a17
    dKno := made_in (ps := ["rolls"]) (fun_mk (st := sKno) l18 c18 k18) fun _ _ _ _ _ _ us hl => match us, hl with | [_], _ => rfl
    gKno := PySem.W.mg_of X G a18
    dAdd := made_in (ps := ["found", "more", "worth"]) (fun_mk (st := sAdd) l21 c21 k21) fun _ _ _ _ _ _ us hl => match us, hl with | [_, _, _], _ => rfl
    gAdd := PySem.W.mg_of X G a21
    dWor := made_in (ps := ["ways", "place"]) (fun_mk (st := sWor) l22 c22 k22) fun _ _ _ _ _ _ us hl => match us, hl with | [_, _], _ => rfl
    gWor := PySem.W.mg_of X G a22
    dWay := made_in (ps := ["ways", "place"]) (fun_mk (st := sWay) l23 c23 k23) fun _ _ _ _ _ _ us hl => match us, hl with | [_, _], _ => rfl
    gWay := PySem.W.mg_of X G a23
    dLea := made_in (ps := ["numbers"]) (fun_mk (st := sLea) l24 c24 k24) fun _ _ _ _ _ _ us hl => match us, hl with | [_], _ => rfl
    gLea := PySem.W.mg_of X G a24
    dMos := made_in (ps := ["numbers"]) (fun_mk (st := sMos) l25 c25 k25) fun _ _ _ _ _ _ us hl => match us, hl with | [_], _ => rfl
    gMos := PySem.W.mg_of X G a25
    dWto := made_in (ps := ["numbers", "worth"]) (fun_mk (st := sWto) l26 c26 k26) fun _ _ _ _ _ _ us hl => match us, hl with | [_, _], _ => rfl
    gWto := PySem.W.mg_of X G a26
    dSta := made_in (ps := ["game", "numbers"]) (fun_mk (st := sSta) l31 c31 k31) fun _ _ _ _ _ _ us hl => match us, hl with | [_, _], _ => rfl
    gSta := PySem.W.mg_of X G a31
    dRol := made_in (ps := ["game", "numbers"]) (fun_mk (st := sRol) l32 c32 k32) fun _ _ _ _ _ _ us hl => match us, hl with | [_, _], _ => rfl
    gRol := PySem.W.mg_of X G a32
    dBac := made_in (ps := ["game", "numbers"]) (fun_mk (st := sBac) l33 c33 k33) fun _ _ _ _ _ _ us hl => match us, hl with | [_, _], _ => rfl
    gBac := PySem.W.mg_of X G a33
    dSco := made_in (ps := ["game", "numbers"]) (fun_mk (st := sSco) l34 c34 k34) fun _ _ _ _ _ _ us hl => match us, hl with | [_, _], _ => rfl
    gSco := PySem.W.mg_of X G a34
    dFra := made_in (ps := ["game", "numbers"]) (fun_mk (st := sFra) l35 c35 k35) fun _ _ _ _ _ _ us hl => match us, hl with | [_, _], _ => rfl
    gFra := PySem.W.mg_of X G a35
    dRan := made_in (ps := ["game", "numbers"]) (fun_mk (st := sRan) l36 c36 k36) fun _ _ _ _ _ _ us hl => match us, hl with | [_, _], _ => rfl
    gRan := PySem.W.mg_of X G a36
    dWtd := made_in (ps := ["game", "numbers"]) (fun_mk (st := sWtd) l37 c37 k37) fun _ _ _ _ _ _ us hl => match us, hl with | [_, _], _ => rfl
    gWtd := PySem.W.mg_of X G a37
    dSts := made_in (ps := ["game", "numbers"]) (fun_mk (st := sSts) l38 c38 k38) fun _ _ _ _ _ _ us hl => match us, hl with | [_, _], _ => rfl
    gSts := PySem.W.mg_of X G a38
    dAns := made_in (ps := ["calls"]) (fun_mk (st := sAns) l41 c41 k41) fun _ _ _ _ _ _ us hl => match us, hl with | [_], _ => rfl
    gAns := PySem.W.mg_of X G a41
    dIW := made_in (ps := ["self"]) (fun_mk (st := sIW) l100 c100 k100) fun _ _ _ _ _ _ us hl => match us, hl with | [_], _ => rfl
    dIG := made_in (ps := ["self"]) (fun_mk (st := sIG) l101 c101 k101) fun _ _ _ _ _ _ us hl => match us, hl with | [_], _ => rfl
    dToC := made_in (ps := ["self"]) (fun_mk (st := sToC) l102 c102 k102) fun _ _ _ _ _ _ us hl => match us, hl with | [_], _ => rfl
    gPINS_rolling := ⟨_, PySem.W.mg_of X G v_PINS_rolling⟩
    gLAST := ⟨_, PySem.W.mg_of X G v_LAST⟩
    gPINS_scoring := ⟨_, PySem.W.mg_of X G v_PINS_scoring⟩
    gFRAMES_scoring := ⟨_, PySem.W.mg_of X G v_FRAMES_scoring⟩
    gMOST := ⟨_, PySem.W.mg_of X G v_MOST⟩
    gFRAMES_desk := ⟨_, PySem.W.mg_of X G v_FRAMES_desk⟩
    nlen := PySem.W.mg_none_of X G z_len
    nrange := PySem.W.mg_none_of X G z_range
    nsum := PySem.W.mg_none_of X G z_sum
    nint := PySem.W.mg_none_of X G z_int
    nenumerate := PySem.W.mg_none_of X G z_enumerate
    gOver := PySem.W.mg_of X G gO
    sOver := sqT_made sO (by show 6 ≤ 1000; decide) (.cons ⟨_, rfl⟩ (.cons ⟨_, rfl⟩ (.cons ⟨_, rfl⟩ (.cons ⟨_, rfl⟩ (.cons ⟨_, rfl⟩ (.cons ⟨_, rfl⟩ .nil))))))
    gDeeds := PySem.W.mg_of X G gD
    sDeeds := sqT_made sD (by show 8 ≤ 1000; decide) (.cons rfl (.cons rfl (.cons rfl (.cons rfl (.cons rfl (.cons rfl (.cons rfl (.cons rfl .nil))))))))
    gNums := PySem.W.mg_of X G gN
    sNums := sqT_made sN (by show 8 ≤ 1000; decide) (.cons ⟨_, rfl⟩ (.cons ⟨_, rfl⟩ (.cons ⟨_, rfl⟩ (.cons ⟨_, rfl⟩ (.cons ⟨_, rfl⟩ (.cons ⟨_, rfl⟩ (.cons ⟨_, rfl⟩ (.cons ⟨_, rfl⟩ .nil))))))))
    gWays := PySem.W.mg_of X G acW
    gGame := PySem.W.mg_of X G acG
    clW := ⟨pgW, hdW, poW, saW⟩
    clG := ⟨pgG, hdG, poG, saG⟩
    mkW := ⟨mkW, a100, i100, kcW⟩
    mkG := ⟨mkG, a101, i101, kcG⟩
    mToC := ⟨a102, i102, k102⟩
    nKnown := nW_known
    nRolls := nG_rolls
    nWays := nG_ways
  }
  exact ⟨a.d 41, fun s us hu => match us, hu with | [_], _ => .of_eq rfl, fun base _ _ => ok_Ans T⟩
end Pin
open PySem PySem.W PyProof.Rows
set_option maxRecDepth 100000 in
set_option maxHeartbeats 8000000 in
theorem PySem.Challenge.cw_pinframes_s01_answers_holds : PySem.Challenge.rw_pinframes_s01_answers.Holds := by
  w_on; k_headS; (case hw => exact ⟨[.list [.int 0]], by decide +kernel, by decide +kernel⟩)
  k_fillS
  refine L2.walk_specK (r := PySem.Challenge.rw_pinframes_s01_answers) (k := 49) (CX := L2.CX0) (ps := ["calls"]) (sp := Pin.spAns) (by decide +kernel) rfl rfl ⟨rfl, by decide, by decide⟩ (fun w h Y => PySem.W.kIn_of Y) ?F ?S (fun _ _ _ _ z => z)
  case F =>
    intro w mg fa h Y KX G hmg
    refine' Pin.all_mk KX G hmg ?a4 ?l4 ?c4 ?k4 ?a5 ?l5 ?c5 ?k5 ?a6 ?l6 ?c6 ?k6 ?a7 ?l7 ?c7 ?k7 ?a8 ?l8 ?c8 ?k8 ?a9 ?l9 ?c9 ?k9 ?a10 ?l10 ?c10 ?k10 ?a11 ?l11 ?c11 ?k11 ?a12 ?l12 ?c12 ?k12 ?a13 ?l13 ?c13 ?k13 ?a17 ?l17 ?c17 ?k17 ?a18 ?l18 ?c18 ?k18 ?a21 ?l21 ?c21 ?k21 ?a22 ?l22 ?c22 ?k22 ?a23 ?l23 ?c23 ?k23 ?a24 ?l24 ?c24 ?k24 ?a25 ?l25 ?c25 ?k25 ?a26 ?l26 ?c26 ?k26 ?a31 ?l31 ?c31 ?k31 ?a32 ?l32 ?c32 ?k32 ?a33 ?l33 ?c33 ?k33 ?a34 ?l34 ?c34 ?k34 ?a35 ?l35 ?c35 ?k35 ?a36 ?l36 ?c36 ?k36 ?a37 ?l37 ?c37 ?k37 ?a38 ?l38 ?c38 ?k38 ?a41 ?l41 ?c41 ?k41 ?acW ?pgW ?hdW ?poW ?saW ?mkW ?kcW ?nW_known ?acG ?pgG ?hdG ?poG ?saG ?mkG ?kcG ?nG_rolls ?nG_ways ?a100 ?i100 ?l100 ?c100 ?k100 ?a101 ?i101 ?l101 ?c101 ?k101 ?a102 ?i102 ?l102 ?c102 ?k102 ?v_PINS_rolling ?v_LAST ?v_PINS_scoring ?v_FRAMES_scoring ?v_MOST ?v_FRAMES_desk ?z_len ?z_range ?z_sum ?z_int ?z_enumerate ?gO ?sO ?gD ?sD ?gN ?sN
    (case a4 => k_is)
    (case l4 => k_is)
    (case c4 => k_is)
    (case k4 => k_is)
    (case a5 => k_is)
    (case l5 => k_is)
    (case c5 => k_is)
    (case k5 => k_is)
    (case a6 => k_is)
    (case l6 => k_is)
    (case c6 => k_is)
    (case k6 => k_is)
    (case a7 => k_is)
    (case l7 => k_is)
    (case c7 => k_is)
    (case k7 => k_is)
    (case a8 => k_is)
    (case l8 => k_is)
    (case c8 => k_is)
    (case k8 => k_is)
    (case a9 => k_is)
    (case l9 => k_is)
    (case c9 => k_is)
    (case k9 => k_is)
    (case a10 => k_is)
    (case l10 => k_is)
    (case c10 => k_is)
    (case k10 => k_is)
    (case a11 => k_is)
    (case l11 => k_is)
    (case c11 => k_is)
    (case k11 => k_is)
    (case a12 => k_is)
    (case l12 => k_is)
    (case c12 => k_is)
    (case k12 => k_is)
    (case a13 => k_is)
    (case l13 => k_is)
    (case c13 => k_is)
    (case k13 => k_is)
    (case a17 => k_is)
    (case l17 => k_is)
    (case c17 => k_is)
    (case k17 => k_is)
    (case a18 => k_is)
    (case l18 => k_is)
    (case c18 => k_is)
    (case k18 => k_is)
    (case a21 => k_is)
    (case l21 => k_is)
    (case c21 => k_is)
    (case k21 => k_is)
    (case a22 => k_is)
    (case l22 => k_is)
    (case c22 => k_is)
    (case k22 => k_is)
    (case a23 => k_is)
    (case l23 => k_is)
    (case c23 => k_is)
    (case k23 => k_is)
    (case a24 => k_is)
    (case l24 => k_is)
    (case c24 => k_is)
    (case k24 => k_is)
    (case a25 => k_is)
    (case l25 => k_is)
    (case c25 => k_is)
    (case k25 => k_is)
    (case a26 => k_is)
    (case l26 => k_is)
    (case c26 => k_is)
    (case k26 => k_is)
    (case a31 => k_is)
    (case l31 => k_is)
    (case c31 => k_is)
    (case k31 => k_is)
    (case a32 => k_is)
    (case l32 => k_is)
    (case c32 => k_is)
    (case k32 => k_is)
    (case a33 => k_is)
    (case l33 => k_is)
    (case c33 => k_is)
    (case k33 => k_is)
    (case a34 => k_is)
    (case l34 => k_is)
    (case c34 => k_is)
    (case k34 => k_is)
    (case a35 => k_is)
    (case l35 => k_is)
    (case c35 => k_is)
    (case k35 => k_is)
    (case a36 => k_is)
    (case l36 => k_is)
    (case c36 => k_is)
    (case k36 => k_is)
    (case a37 => k_is)
    (case l37 => k_is)
    (case c37 => k_is)
    (case k37 => k_is)
    (case a38 => k_is)
    (case l38 => k_is)
    (case c38 => k_is)
    (case k38 => k_is)
    (case a41 => k_is)
    (case l41 => k_is)
    (case c41 => k_is)
    (case k41 => k_is)
    (case acW => k_is)
    (case pgW => k_is)
    (case hdW => k_is)
    (case poW => k_is)
    (case saW => k_is)
    (case mkW => k_is)
    (case kcW => k_is)
    (case nW_known => k_is)
    (case acG => k_is)
    (case pgG => k_is)
    (case hdG => k_is)
    (case poG => k_is)
    (case saG => k_is)
    (case mkG => k_is)
    (case kcG => k_is)
    (case nG_rolls => k_is)
    (case nG_ways => k_is)
    (case a100 => k_is)
    (case i100 => k_is)
    (case l100 => k_is)
    (case c100 => k_is)
    (case k100 => k_is)
    (case a101 => k_is)
    (case i101 => k_is)
    (case l101 => k_is)
    (case c101 => k_is)
    (case k101 => k_is)
    (case a102 => k_is)
    (case i102 => k_is)
    (case l102 => k_is)
    (case c102 => k_is)
    (case k102 => k_is)
    (case v_PINS_rolling => k_is)
    (case v_LAST => k_is)
    (case v_PINS_scoring => k_is)
    (case v_FRAMES_scoring => k_is)
    (case v_MOST => k_is)
    (case v_FRAMES_desk => k_is)
    (case z_len => k_is)
    (case z_range => k_is)
    (case z_sum => k_is)
    (case z_int => k_is)
    (case z_enumerate => k_is)
    (case gO => k_is)
    (case sO => k_is)
    (case gD => k_is)
    (case sD => k_is)
    (case gN => k_is)
    (case sN => k_is)
  case S =>
    intro K H xs a hO hwi hask hx
    cases hx with
    | cons h1 h2 =>
      cases h2
      cases h1 with
      | lst hs ha =>
        have e := L2.ints_dw a.1 _ ha
        subst e
        have q : ((Codec.inLen 0 2000 a.1 && a.1.all (Codec.inInt 0 4294967295)) && true) = true := hwi
        rw [Bool.and_eq_true, Bool.and_eq_true] at q
        exact ⟨_, a.1, PyKyp1.answers a.1, rfl, hs, (Codec.inNat_iff.mp q.1.1).2, Pin.goes_all hask, fun H' p hp => .lst (L2.SqL.of hp) (L2.dw_ints _)⟩
#print axioms PySem.Challenge.cw_pinframes_s01_answers_holds
